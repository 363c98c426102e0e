/-
  The codes that the evaluator runs for a closed call, and ..
  calquelaw32.awake answers true: by the kernel's evaluation ..
  Plain law of EvalValues: values that answer alike for the ..
  Plain law of EvalValues: values that fit the signature are ..
  The IR of functions of the program, printed by our own tool
  Contract: the law EvalParts.
  slices.Sorted of maps.Keys, at a map of strings to ints.
  Contracts: table.args, Infer.
  Contracts: Flat, of the reference.
  Contracts: number, shape of the reference.
  Contract: the law EvalValues.
  What an input qP as, as an abstract value: plain data ..
  The end of a law's proof: from the Ke of the law to ..
  Inputs that are messages: every well-formed slice of parts ..
  Inputs that are locales: their rules, and the rest.
  Inputs that are forms or values.
  Inputs that are whole locales, and cases of layer 32.
-/
import Derived.Test.YtalbicndcfmbnaaGreatDoorPaf
import Derived.Test.YtalbicndcfmbnaaGreatDoorRows
import Derived.ChangeArms
import Derived.Carry
import Derived.ChangeSame
import Derived.OpenShut
import Derived.Test.YtalbicndcfmbnaaGreatDoorChecked
set_option linter.all false
set_option linter.defProp false
set_option linter.unusedSimpArgs false
set_option linter.unusedVariables false
open Nat (reduceEqDiff)
section
set_option maxRecDepth 100000
namespace Go.Ir
open Go.Proofs
def ApL:IC:=rS [m1 3 0,bC 4 .geq 3 (.i .u8 97),m1 5 4,BL 6 5 0,gT 7 5 (.bin .leq (.t 6) (.c (.i .u8 122))),pA 8 5 7,m1 9 8,BI 10 9 0,gF 11 9 (.bin .geq (.t 10) (.c (.i .u8 65))),BI 12 9 11,BL 13 12 0,gT 14 12 (.bin .leq (.t 13) (.c (.i .u8 90))),gF 15 9 (.pick (.t 12) (.t 14) (.c (.b false))),pO 16 9 15,m1 17 16,BI 18 17 0,gF 19 17 (.bin .geq (.t 18) (.c (.i .u8 48))),BI 20 17 19,BL 21 20 0,gT 22 20 (.bin .leq (.t 21) (.c (.i .u8 57))),gF 23 17 (.pick (.t 20) (.t 22) (.c (.b false))),pO 24 17 23,m1 2 24] [2] .ret
def Ann:IC:=rS [mC 2 (.b false)] [0] ApL
def Amj:E6:=⟨25,Ann,[.t 2]⟩
theorem AqR:Cs Tryz.prog 97 Amj=true:=by kernel_rfl
def AcU:IC:=rS [m1 9 0,m1 10 3,o1 11 (.idx (.t 9) (.t 10)),q1 12 97 11,nT 13 12,m1 14 13,BL 15 14 0,BL 16 14 3,gT 17 14 (.idx (.t 15) (.t 16)),gT 18 14 (.bin .neq (.t 17) (.c (.i .u8 95))),pA 19 14 18,m1 20 19,BL 21 20 0,BL 22 20 3,gT 23 20 (.idx (.t 21) (.t 22)),gT 24 20 (.bin .neq (.t 23) (.c (.i .u8 45))),pA 25 20 24,m1 26 25,BL 27 26 0,BL 28 26 3,gT 29 26 (.idx (.t 27) (.t 28)),gT 30 26 (.bin .neq (.t 29) (.c (.i .u8 46))),pA 31 26 30,m1 32 31,BL 33 32 0,BL 34 32 3,gT 35 32 (.idx (.t 33) (.t 34)),gT 36 32 (.bin .neq (.t 35) (.c (.i .u8 61))),pA 37 32 36] [0,3,5,6,37] (cD 37 (rS [m1 38 3,m1 2 38] [2] .ret) .skip)
def Ahx:IC:=rS [bT 7 .lss 6 5] [0,5,6,7] (sQ (cD 7 .skip (.exit 0)) (sQ (.block 1 (rS [m1 8 6,m1 3 8] [0,3,5,6] AcU)) (.seqr [bZ 39 .add 6 1,m1 6 39] [0,5,6])))
def Ahg:IC:=rS [mZ 2 0] [0] (sQ (rS [m1 4 0,nS 5 4,mZ 6 0] [0,5,6] (.block 0 (.loop Ahx))) (rS [m1 40 0,nS 41 40,m1 2 41] [2] .ret))
def AdA:E6:=⟨42,Ahg,[.t 2]⟩
theorem Aha:Cs Tryz.prog 192 AdA=true:=by kernel_rfl
def Aik:IC:=rS [m1 5 0,nS 6 5,m1 7 1,nS 8 7,bT 9 .geq 6 8,m1 10 9,BL 11 10 0,BL 12 10 0,gT 13 10 (.lenS (.t 12)),BL 14 10 1,gT 15 10 (.lenS (.t 14)),gT 16 10 (.bin .sub (.t 13) (.t 15)),gT 17 10 (.slS (.t 11) (some (.t 16)) none),BL 18 10 1,gT 19 10 (.bin .eql (.t 17) (.t 18)),pA 20 10 19,m1 4 20] [4] .ret
def Ah6:IC:=rS [mC 4 (.b false)] [0,1] Aik
def AfD:E6:=⟨21,Ah6,[.t 4]⟩
theorem AfX:Cs Tryz.prog 323 AfD=true:=by kernel_rfl
def AfR:IC:=sQ (rS [m1 6 0,m1 7 1,q2 8 323 6 7,nT 9 8] [0,1,9] (cD 9 (rS [m1 10 0,m1 4 10,mC 5 (.b false)] [4,5] .ret) .skip)) (rS [m1 11 0,m1 12 0,nS 13 12,m1 14 1,nS 15 14,bT 16 .sub 13 15,o1 17 (.slS (.t 11) none (some (.t 16))),m1 4 17,mC 5 (.b true)] [4,5] .ret)
def Ag2:IC:=rS [mC 4 (.s []),mC 5 (.b false)] [0,1] AfR
def Afc:E6:=⟨18,Ag2,[.t 4,.t 5]⟩
theorem Agr:Cs Tryz.prog 295 Afc=true:=by kernel_rfl
def Aih:IC:=rS [mC 4 (.s []),mC 5 (.b false)] [0,1] (rS [m1 6 0,m1 7 1,q2 8 295 6 7,xT 9 8 0,xT 10 8 1,m1 4 9,m1 5 10] [4,5] .ret)
def Adw:E6:=⟨11,Aih,[.t 4,.t 5]⟩
theorem Ag7:Cs Tryz.prog 253 Adw=true:=by kernel_rfl
def AjX:IC:=rS [m1 26 0,m1 27 3,o1 28 (.idx (.t 26) (.t 27)),q1 29 97 28,nT 30 29,m1 31 30,BL 32 31 0,BL 33 31 3,gT 34 31 (.idx (.t 32) (.t 33)),gT 35 31 (.bin .neq (.t 34) (.c (.i .u8 95))),pA 36 31 35,m1 37 36,BL 38 37 0,BL 39 37 3,gT 40 37 (.idx (.t 38) (.t 39)),gT 41 37 (.bin .neq (.t 40) (.c (.i .u8 45))),pA 42 37 41] [0,22,23,42] (cD 42 (rS [mC 2 (.b false)] [2] .ret) .skip)
def Aj3:IC:=rS [bT 24 .lss 23 22] [0,22,23,24] (sQ (cD 24 .skip (.exit 0)) (sQ (.block 1 (rS [m1 25 23,m1 3 25] [0,3,22,23] AjX)) (.seqr [bZ 43 .add 23 1,m1 23 43] [0,22,23])))
def ApE:IC:=sQ (rS [m1 4 0,bC 5 .eql 4 (.s []),m1 6 5,BI 7 6 0,gF 8 6 (.lenS (.t 7)),EI 9 6 .gtr 8 40,pO 10 6 9,m1 11 10,BI 12 11 0,gF 13 11 (.idx (.t 12) (ci 0)),gF 14 11 (.bin .lss (.t 13) (.c (.i .u8 97))),pO 15 11 14,m1 16 15,BI 17 16 0,gF 18 16 (.idx (.t 17) (ci 0)),gF 19 16 (.bin .gtr (.t 18) (.c (.i .u8 122))),pO 20 16 19] [0,20] (cD 20 (rS [mC 2 (.b false)] [2] .ret) .skip)) (sQ (rS [m1 21 0,nS 22 21,mZ 23 0] [0,22,23] (.block 0 (.loop Aj3))) (rS [mC 2 (.b true)] [2] .ret))
def ApG:IC:=rS [mC 2 (.b false)] [0] ApE
def AmX:E6:=⟨44,ApG,[.t 2]⟩
theorem AnD:Cs Tryz.prog 62 AmX=true:=by kernel_rfl
def Abd:IC:=rS [m1 25 3,o1 26 (.call 253 [.t 25,.c (.s [47])]),m1 24 26,xT 27 24 0,xT 28 24 1,m1 8 27,m1 9 28] [2,3,5,8,9] (rS [m1 29 9] [2,3,5,8,29] (cD 29 (.seqr [m1 30 8,mZ 2 7,m1 3 30] [2,3,5]) .skip))
def Aah:IC:=sQ (rS [m1 31 3,q1 32 62 31,nT 33 32] [2,3,5,33] (cD 33 (rS [mZ 2 0,mC 3 (.s []),mZ 4 0] [2,3,4] .ret) .skip)) (rS [m1 34 2,m1 35 3,m1 36 5,bZ 37 .add 36 1,m1 2 34,m1 3 35,m1 4 37] [2,3,4] .ret)
def Abu:IC:=sQ (rS [m1 18 3,o1 19 (.call 135 [.t 18,.c (.s [47])]),m1 17 19,xT 20 17 0,xT 21 17 1,m1 6 20,m1 7 21] [2,3,5,6,7] (rS [m1 22 7] [2,3,5,6,22] (cD 22 (.seqr [m1 23 6,mZ 2 6,m1 3 23] [2,3,5]) Abd))) Aah
def Akg:IC:=rS [m1 10 0,o1 11 (.call 252 [.t 10,.c (.i .u8 62)]),m1 5 11] [0,5] (sQ (rS [m1 12 5,bZ 13 .lss 12 0] [0,5,13] (cD 13 (rS [mZ 2 0,mC 3 (.s []),mZ 4 0] [2,3,4] .ret) .skip)) (sQ (.ops [m1 14 0,m1 15 5,o1 16 (.slS (.t 14) (some (ci 1)) (some (.t 15))),mZ 2 5,m1 3 16] [2,3,5] [[0,2],[1,2],[2,4]]) Abu))
def AiQ:IC:=rS [mZ 2 0,mC 3 (.s []),mZ 4 0] [0] Akg
def Afp:E6:=⟨38,AiQ,[.t 2,.t 3,.t 4]⟩
theorem AkL:Cs Tryz.prog 193 Afp=true:=by kernel_rfl
def AaA:IC:=rS [bC 8 .eql 3 (.i .u8 62),m1 4 8] [3,4] (cD 4 .skip (rS [bC 9 .eql 3 (.i .u8 35),m1 4 9] [3,4] (cD 4 .skip (.seqr [bC 10 .eql 3 (.i .u8 92),m1 4 10] [4]))))
def AkC:IC:=.block 0 (sQ (rS [bC 5 .eql 3 (.i .u8 123),m1 4 5] [3,4] (cD 4 .skip (rS [bC 6 .eql 3 (.i .u8 125),m1 4 6] [3,4] (cD 4 .skip (rS [bC 7 .eql 3 (.i .u8 60),m1 4 7] [3,4] (cD 4 .skip AaA)))))) (cD 4 (rS [mC 2 (.b true)] [2] .ret) .skip))
def AjH:IC:=rS [mC 2 (.b false)] [0] (sQ (rS [m1 3 0] [3] AkC) (rS [mC 2 (.b false)] [2] .ret))
def AdD:E6:=⟨11,AjH,[.t 2]⟩
theorem AiK:Cs Tryz.prog 186 AdD=true:=by kernel_rfl
def yH:IC:=sQ (rS [m1 15 0,m1 16 3,o1 17 (.idx (.t 15) (.t 16)),bC 18 .neq 17 (.i .u8 92),m1 19 18,BI 20 19 3,EI 21 19 .add 20 1,BI 22 19 0,gF 23 19 (.lenS (.t 22)),gF 24 19 (.bin .eql (.t 21) (.t 23)),pO 25 19 24,m1 26 25,BI 27 26 0,BI 28 26 3,EI 29 26 .add 28 1,gF 30 26 (.idx (.t 27) (.t 29)),gF 31 26 (.call 186 [.t 30]),gF 32 26 (.not (.t 31)),pO 33 26 32] [0,3,33] (cD 33 (rS [m1 34 3,m1 2 34] [2] .ret) .skip)) (.seqr [m1 35 3,bZ 36 .add 35 1,m1 3 36] [0,3])
def Aco:IC:=sQ (.block 1 (sQ (rS [m1 10 0,m1 11 3,o1 12 (.idx (.t 10) (.t 11)),q1 13 186 12,nT 14 13] [0,3,14] (cD 14 (.exit 1) .skip)) yH)) (.seqr [m1 8 3,bZ 9 .add 8 1,m1 3 9] [0,3])
def Ak3:IC:=sQ (rS [mZ 3 0] [0,3] (.block 0 (.loop (sQ (rS [m1 4 3,m1 5 0,nS 6 5,bT 7 .lss 4 6] [0,3,7] (cD 7 .skip (.exit 0))) Aco)))) (rS [m1 37 0,nS 38 37,m1 2 38] [2] .ret)
def Agq:IC:=rS [mZ 2 0] [0] Ak3
def AdT:E6:=⟨39,Agq,[.t 2]⟩
theorem Aiy:Cs Tryz.prog 194 AdT=true:=by kernel_rfl
def AbK:IC:=cD 39 (rS [m1 42 0,q1 43 193 42,xT 44 43 0,xT 45 43 1,xT 46 43 2,m1 4 44,m1 5 45,m1 6 46] [4,5,6] .ret) (.seqr [m1 10 0,q1 11 194 10,mZ 4 1,m1 6 11] [0,4,6])
def AaD:IC:=cD 34 (sQ (.ops [m1 37 0,o1 38 (.slS (.t 37) none (some (ci 1))),mZ 4 4,m1 5 38,mZ 6 1] [4,5,6] [[0,1],[1,3]]) .ret) (rS [m1 40 7,bC 41 .eql 40 (.i .u8 60),m1 39 41] [0,39] AbK)
def Abz:IC:=rS [m1 23 1,m1 24 23,BL 25 24 7,gT 26 24 (.bin .eql (.t 25) (.c (.i .u8 44))),pA 27 24 26,m1 22 27] [0,1,7,22] (cD 22 (sQ (.ops [m1 28 0,o1 29 (.slS (.t 28) none (some (ci 1))),mZ 4 8,m1 5 29,mZ 6 1] [4,5,6] [[0,1],[1,3]]) .ret) (rS [m1 31 1,m1 30 31] [0,7,30] (cD 30 (.seqr [m1 32 0,q1 33 192 32,mZ 4 9,m1 6 33] [0,4,6]) (rS [m1 35 7,bC 36 .eql 35 (.i .u8 35),m1 34 36] [0,7,34] AaD))))
def AcA:IC:=rS [m1 18 7,bC 19 .eql 18 (.i .u8 125),m1 17 19] [0,1,7,17] (cD 17 (sQ (.ops [m1 20 0,o1 21 (.slS (.t 20) none (some (ci 1))),mZ 4 3,m1 5 21,mZ 6 1] [4,5,6] [[0,1],[1,3]]) .ret) Abz)
def AgQ:IC:=.block 0 (rS [m1 13 7,bC 14 .eql 13 (.i .u8 123),m1 12 14] [0,1,7,12] (cD 12 (sQ (.ops [m1 15 0,o1 16 (.slS (.t 15) none (some (ci 1))),mZ 4 2,m1 5 16,mZ 6 1] [4,5,6] [[0,1],[1,3]]) .ret) AcA))
def zR:IC:=sQ (.ops [m1 49 4,m1 50 0,m1 51 6,o1 52 (.slS (.t 50) none (some (.t 51))),m1 53 6,m1 4 49,m1 5 52,m1 6 53] [4,5,6] [[1,3],[2,3],[0,5],[3,6],[2,7],[4,7]]) .ret
def Ahr:IC:=sQ (rS [m1 8 0,o1 9 (.idx (.t 8) (ci 0)),m1 7 9] [0,1,7] AgQ) (sQ (rS [m1 47 6,bZ 48 .eql 47 0] [0,4,6,48] (cD 48 (rS [mZ 4 0,mC 5 (.s []),mZ 6 0] [4,5,6] .ret) .skip)) zR)
def AkK:IC:=rS [mZ 4 0,mC 5 (.s []),mZ 6 0] [0,1] Ahr
def AfL:E6:=⟨54,AkK,[.t 4,.t 5,.t 6]⟩
theorem AjK:Cs Tryz.prog 139 AfL=true:=by kernel_rfl
def AjT:IC:=rS [m1 61 5,m1 62 6,o1 63 (.msl true 4 1 [.t 62]),o1 64 (.app (.t 61) (.t 63) 4 1),m1 5 64] [0,2,3,5,6,7,8,9] (.seqr [m1 65 6,nT 66 65,m1 6 66] [0,2,3,5,6,7,8,9])
def Akp:IC:=rS [m1 70 5,m1 71 5,nL 72 71,bZ 73 .sub 72 1,iA 74 70 73 4 1,l1 75 74,m1 6 75] [0,2,3,5,6,7,8,9] (.seqr [m1 76 5,m1 77 5,nL 78 77,bZ 79 .sub 78 1,o1 80 (.slT (.t 76) (.t 79) 1),m1 5 80] [0,2,3,5,6,7,8,9])
def AhT:IC:=rS [m1 59 7,bZ 60 .eql 59 2,m1 58 60] [0,2,3,5,6,7,8,9,58] (cD 58 AjT (rS [m1 68 7,bZ 69 .eql 68 3,m1 67 69] [0,2,3,5,6,7,8,9,67] (cD 67 Akp .skip)))
def Ajf:IC:=rS [m1 81 2,m1 82 7,m1 83 8,m1 84 3,m1 85 3,m1 86 9,bT 87 .add 85 86,o1 88 (.build [.i .i64 0,.s [],.i .i64 0,.i .i64 0] [(0,1,.t 82),(1,1,.t 83),(2,1,.t 84),(3,1,.t 87)]),o1 89 (.msl true 256 4 [.t 88]),o1 90 (.app (.t 81) (.t 89) 256 4),m1 2 90] [0,2,3,5,6,9] (.seqr [m1 91 3,m1 92 9,bT 93 .add 91 92,m1 3 93] [0,2,3,5,6])
def AgF:IC:=sQ (.block 2 (sQ (rS [m1 48 7,bZ 49 .eql 48 0,m1 47 49] [0,2,3,5,6,7,8,9,47] (cD 47 .skip (.seqr [m1 50 7,bZ 51 .eql 50 3,m1 52 51,BL 53 52 5,gT 54 52 (.lenL (.t 53)),Fz 55 52 .eql 54 0,pA 56 52 55,m1 47 56] [0,2,3,5,6,7,8,9,47]))) (cD 47 (rS [m1 57 3,mC 2 .nil,m1 3 57,mZ 4 3] [2,3,4] .ret) AhT))) Ajf
def AgE:IC:=rS [m1 39 0,m1 40 3,o1 41 (.slS (.t 39) (some (.t 40)) none),m1 42 6,q2 43 139 41 42,m1 38 43,xT 44 38 0,xT 45 38 1,xT 46 38 2,m1 7 44,m1 8 45,m1 9 46] [0,2,3,5,6,7,8,9] AgF
def AhV:IC:=.block 1 (sQ (rS [m1 17 6,m1 18 17,BL 19 18 0,BL 20 18 3,gT 21 18 (.idx (.t 19) (.t 20)),gT 22 18 (.bin .eql (.t 21) (.c (.i .u8 32))),BL 23 18 22,BI 24 23 0,BI 25 23 3,gF 26 23 (.idx (.t 24) (.t 25)),gF 27 23 (.bin .eql (.t 26) (.c (.i .u8 9))),gT 28 18 (.pick (.t 23) (.c (.b true)) (.t 27)),BL 29 18 28,BI 30 29 0,BI 31 29 3,gF 32 29 (.idx (.t 30) (.t 31)),gF 33 29 (.bin .eql (.t 32) (.c (.i .u8 10))),gT 34 18 (.pick (.t 29) (.c (.b true)) (.t 33)),pA 35 18 34] [0,2,3,5,6,35] (cD 35 (rS [m1 36 3,bZ 37 .add 36 1,m1 3 37] [0,2,3,5,6] (.exit 1)) .skip)) AgE)
def Ah1:IC:=sQ (rS [m1 94 5,nL 95 94,bZ 96 .gtr 95 0] [0,2,96] (cD 96 (rS [m1 97 0,nS 98 97,mC 2 .nil,m1 3 98,mZ 4 3] [2,3,4] .ret) .skip)) (rS [m1 99 2,m1 2 99,mZ 3 0,mZ 4 0] [2,3,4] .ret)
def Ahf:IC:=rS [mC 6 (.b false)] [0,2,3,5,6] (sQ (.block 0 (.loop (sQ (rS [m1 13 3,m1 14 0,nS 15 14,bT 16 .lss 13 15] [0,2,3,5,6,16] (cD 16 .skip (.exit 0))) AhV))) Ah1)
def Al9:IC:=sQ (rS [m1 10 0,nS 11 10,bZ 12 .gtr 11 4000] [0,2,3,12] (cD 12 (rS [mC 2 .nil,mZ 3 4000,mZ 4 6] [2,3,4] .ret) .skip)) (rS [mC 5 .nil] [0,2,3,5] Ahf)
def Ao6:IC:=rS [mC 2 .nil,mZ 3 0,mZ 4 0] [0,2,3] Al9
def AqC:E6:=⟨100,Ao6,[.t 2,.t 3,.t 4]⟩
theorem Amm:Cs Tryz.prog 99 AqC=true:=by kernel_rfl
def AgH:IC:=sQ (.ops [m1 20 0,nC 21 20,fA 22 21 1,l1 23 22,m1 24 0,nC 25 24,fA 26 25 2,l1 27 26,iA 28 23 27 256 4,fA 29 28 0,l1 30 29,m1 2 30] [2] [[0,1],[1,2],[2,3],[4,5],[5,6],[6,7],[3,8],[7,8],[8,9],[9,10],[10,11]]) .ret
def AfS:IC:=sQ (sQ (.ops [m1 3 0,nC 4 3,fA 5 4 5,l1 6 5,bZ 7 .neq 6 0,m1 8 7,BI 9 8 0,gF 10 8 (.nilck (.t 9)),ER 11 8 10 2,E8 12 8 11,BI 13 8 0,gF 14 8 (.nilck (.t 13)),ER 15 8 14 1,E8 16 8 15,gF 17 8 (.lenL (.t 16)),gF 18 8 (.bin .geq (.t 12) (.t 17)),pO 19 8 18] [0,19] [[0,1],[1,2],[2,3],[3,4],[4,5],[5,6],[5,7],[6,7],[5,8],[7,8],[5,9],[8,9],[5,10],[5,11],[10,11],[5,12],[11,12],[5,13],[12,13],[5,14],[13,14],[5,15],[9,15],[14,15],[5,16],[15,16]]) (cD 19 (rS [mZ 2 0] [2] .ret) .skip)) AgH
def Alc:IC:=rS [mZ 2 0] [0] AfS
def Afs:E6:=⟨31,Alc,[.t 2]⟩
theorem AjW:Cs Tryz.prog 140 Afs=true:=by kernel_rfl
def AaW:IC:=sQ (.ops [m1 18 0,nC 19 18,fA 20 19 1,l1 21 20,m1 22 0,nC 23 22,fA 24 23 2,l1 25 24,bZ 26 .sub 25 1,iA 27 21 26 256 4,fA 28 27 1,l1 29 28,m1 4 29] [4] [[0,1],[1,2],[2,3],[4,5],[5,6],[6,7],[7,8],[3,9],[8,9],[9,10],[10,11],[11,12]]) .ret
def Ajj:IC:=sQ (rS [m1 5 0,o1 6 (.calls 140 [.t 5]),m1 7 1,bT 8 .neq 6 7] [0,8] (cD 8 (rS [m1 9 0,o1 10 (.calls 101 [.t 9,ci 3])] [] (rS [mC 4 (.s [])] [4] .ret)) .skip)) (rS [m1 11 0,nC 12 11,fA 13 12 2,l1 14 13,bZ 15 .add 14 1,nC 16 11,fA 17 16 2,sT 17 15 1] [0] AaW)
def Akb:IC:=rS [mC 4 (.s [])] [0,1] Ajj
def Adi:E6:=⟨30,Akb,[.t 4]⟩
theorem Ahs:Cs Tryz.prog 142 Adi=true:=by kernel_rfl
def AhX:IC:=rS [m1 7 0,m1 8 0,nC 9 8,fA 10 9 1,l1 11 10,m1 12 1,o1 13 (.msl true 5 1 [.t 12]),o1 14 (.app (.t 11) (.t 13) 5 1),nC 15 7,fA 16 15 1,sT 16 14 1] [] (rS [mC 4 .ni] [4] .ret)
def AiB:IC:=rS [mC 4 .ni] [0,1] (rS [m1 5 0,o1 6 (.calls 180 [.t 5])] [0,1] AhX)
def Af3:E6:=⟨17,AiB,[.t 4]⟩
theorem AjO:Cs Tryz.prog 187 Af3=true:=by kernel_rfl
def Aad:IC:=sQ (.block 1 (sQ (rS [m1 21 0,m1 22 7,o1 23 (.idx (.t 21) (.t 22)),bC 24 .eql 23 (.i .u8 92)] [0,6,7,24] (cD 24 (.seqr [m1 25 7,bZ 26 .add 25 1,m1 7 26] [0,6,7]) .skip)) (.seqr [m1 27 0,m1 28 7,o1 29 (.idx (.t 27) (.t 28)),o1 30 (.calls 187 [.t 6,.t 29])] [0,6,7]))) (.seqr [m1 19 7,bZ 20 .add 19 1,m1 7 20] [0,6,7])
def Ab5:IC:=rS [o1 6 (.mkm (.tnew 98 (.agg [.np,.nil])) [])] [0,6] (sQ (rS [mZ 7 0] [0,6,7] (.block 0 (.loop (sQ (rS [m1 15 7,m1 16 0,nS 17 16,bT 18 .lss 15 17] [0,6,7,18] (cD 18 .skip (.exit 0))) Aad)))) (rS [o1 31 (.calls 45 [.t 6]),m1 2 31,mZ 3 0,mZ 4 0] [2,3,4] .ret))
def Akn:IC:=rS [mC 2 (.s []),mZ 3 0,mZ 4 0] [0] (sQ (rS [m1 8 0,q1 9 194 8,m1 5 9] [0,5] (rS [m1 10 5,m1 11 0,nS 12 11,bT 13 .lss 10 12] [0,5,13] (cD 13 (rS [m1 14 5,mC 2 (.s []),m1 3 14,mZ 4 3] [2,3,4] .ret) .skip))) Ab5)
def Af1:E6:=⟨32,Akn,[.t 2,.t 3,.t 4]⟩
theorem AkX:Cs Tryz.prog 141 Af1=true:=by kernel_rfl
def AiJ:IC:=rS [m1 4 1,bZ 5 .gtr 4 8] [0,5] (cD 5 (.seqr [m1 6 0,o1 7 (.calls 101 [.t 6,ci 6])] []) .skip)
def Aez:E6:=⟨8,AiJ,[]⟩
theorem Ajk:Cs Tryz.prog 143 Aez=true:=by kernel_rfl
def AgA:IC:=sQ (sQ (.ops [m1 19 0,o1 20 (.calls 140 [.t 19]),bZ 21 .neq 20 6,m1 22 21,BI 23 22 0,gF 24 22 (.nilck (.t 23)),ER 25 22 24 1,E8 26 22 25,BI 27 22 0,gF 28 22 (.nilck (.t 27)),ER 29 22 28 2,E8 30 22 29,gF 31 22 (.iaddr (.t 26) (.t 30) 256 4),ER 32 22 31 1,E8 33 22 32,ER 34 22 7 2,E8 35 22 34,gF 36 22 (.bin .neq (.t 33) (.t 35)),pO 37 22 36] [0,6,7,37] [[0,1],[1,2],[2,3],[3,4],[3,5],[4,5],[3,6],[5,6],[1,3,7],[3,7],[6,7],[3,8],[3,9],[8,9],[3,10],[9,10],[1,3,11],[3,11],[10,11],[1,3,12],[3,12],[7,12],[11,12],[3,13],[12,13],[1,3,14],[3,14],[13,14],[3,15],[1,3,16],[3,16],[15,16],[3,17],[14,17],[16,17],[3,18],[17,18]]) (cD 37 (.seqr [m1 38 0,o1 39 (.calls 101 [.t 38,ci 3])] [0,6,7]) .skip)) (rS [m1 40 0,o1 41 (.calls 142 [.t 40,ci 6])] [6,7] (rS [lA 42 7 6,sT 6 42 6] [6] .ret))
def AiO:IC:=rS [m1 11 0,o1 12 (.calls 142 [.t 11,ci 5]),o1 13 (.build [.i .i64 0,.s [],.s [],.s [],.nil,.nil] [(0,1,ci 11),(2,1,.t 12)]),o1 7 (.alloc (.agg [.i .i64 0,.s [],.s [],.s [],.nil,.nil])),sT 7 13 6] [0,1,2,6,7] (rS [m1 14 0,m1 15 1,m1 16 2,o1 17 (.calls 100 [.t 14,.t 15,.t 16]),fA 18 7 5,sT 18 17 1] [0,6,7] AgA)
def AgD:IC:=rS [o1 6 (.alloc (.agg [.i .i64 0,.s [],.s [],.s [],.nil,.nil]))] [0,1,2,6] (rS [m1 8 0,m1 9 1,o1 10 (.calls 143 [.t 8,.t 9])] [0,1,2,6] AiO)
def AeW:E6:=⟨43,AgD,[.c 6 6 true]⟩
theorem Ahh:Cs Tryz.prog 144 AeW=true:=by kernel_rfl
def AgK:IC:=sQ (sQ (.ops [m1 5 0,o1 6 (.calls 140 [.t 5]),bZ 7 .neq 6 9,m1 8 7,BI 9 8 1,BI 10 8 0,gF 11 8 (.nilck (.t 10)),ER 12 8 11 1,E8 13 8 12,BI 14 8 0,gF 15 8 (.nilck (.t 14)),ER 16 8 15 2,E8 17 8 16,gF 18 8 (.iaddr (.t 13) (.t 17) 256 4),ER 19 8 18 1,E8 20 8 19,gF 21 8 (.callvs (.t 9) [.t 20]),gF 22 8 (.not (.t 21)),pO 23 8 22] [0,23] [[0,1],[1,2],[2,3],[3,4],[3,5],[3,6],[5,6],[3,7],[6,7],[1,3,8],[3,8],[7,8],[3,9],[3,10],[9,10],[3,11],[10,11],[1,3,12],[3,12],[11,12],[1,3,13],[3,13],[8,13],[12,13],[3,14],[13,14],[1,3,15],[3,15],[14,15],[1,3,16],[3,16],[4,16],[8,13,14,15,16],[12,13,14,15,16],[13,14,15,16],[15,16],[3,17],[16,17],[3,18],[17,18]]) (cD 23 (rS [m1 24 0,o1 25 (.calls 101 [.t 24,ci 3])] [] (rS [mC 4 (.s [])] [4] .ret)) .skip)) (rS [m1 26 0,o1 27 (.calls 142 [.t 26,ci 9]),m1 4 27] [4] .ret)
def AkY:IC:=rS [mC 4 (.s [])] [0,1] AgK
def AeE:E6:=⟨28,AkY,[.t 4]⟩
theorem Ag8:Cs Tryz.prog 197 AeE=true:=by kernel_rfl
def Ahc:IC:=sQ (rS [m1 52 3,bC 53 .neq 52 (.s [])] [0,3,53] (cD 53 (.seqr [m1 54 0,nC 55 54,fA 56 55 3,l1 57 56,m1 58 3,o0 (.wrm (.mput .str) (.t 57) [.t 58,.c (.b true)])] [3]) .skip)) (rS [m1 59 3,m1 2 59] [2] .ret)
def AhY:IC:=sQ (sQ (.ops [m1 4 0,o1 5 (.calls 140 [.t 4]),bZ 6 .eql 5 9,m1 7 6,BL 8 7 0,gT 9 7 (.nilck (.t 8)),Ft 10 7 9 1,EQ 11 7 10,BL 12 7 0,gT 13 7 (.nilck (.t 12)),Ft 14 7 13 2,EQ 15 7 14,gT 16 7 (.iaddr (.t 11) (.t 15) 256 4),Ft 17 7 16 1,EQ 18 7 17,gT 19 7 (.call 62 [.t 18]),pA 20 7 19,m1 21 20,BL 22 21 0,gT 23 21 (.nilck (.t 22)),Ft 24 21 23 3,EQ 25 21 24,BL 26 21 0,gT 27 21 (.nilck (.t 26)),Ft 28 21 27 1,EQ 29 21 28,BL 30 21 0,gT 31 21 (.nilck (.t 30)),Ft 32 21 31 2,EQ 33 21 32,gT 34 21 (.iaddr (.t 29) (.t 33) 256 4),Ft 35 21 34 1,EQ 36 21 35,gT 37 21 (.rdm (.mget .str (.b false) false) (.t 25) [.t 36]),gT 38 21 (.not (.t 37)),pA 39 21 38,m1 40 39,BL 41 40 0,gT 42 40 (.nilck (.t 41)),Ft 43 40 42 3,EQ 44 40 43,gT 45 40 (.rdm .mlen (.t 44) []),Fz 46 40 .geq 45 20,pA 47 40 46] [0,47] [[0,1],[1,2],[2,3],[3,4],[3,5],[4,5],[3,6],[5,6],[1,3,7],[3,7],[6,7],[3,8],[3,9],[8,9],[3,10],[9,10],[1,3,11],[3,11],[10,11],[1,3,12],[3,12],[7,12],[11,12],[3,13],[12,13],[1,3,14],[3,14],[13,14],[3,15],[14,15],[3,16],[15,16],[16,17],[17,18],[17,19],[18,19],[17,20],[19,20],[1,3,16,17,21],[17,21],[20,21],[17,22],[17,23],[22,23],[17,24],[23,24],[1,3,16,17,25],[17,25],[24,25],[17,26],[17,27],[26,27],[17,28],[27,28],[1,3,16,17,29],[17,29],[28,29],[1,3,16,17,30],[17,30],[25,30],[29,30],[17,31],[30,31],[1,3,16,17,32],[17,32],[31,32],[1,3,16,17,33],[17,33],[21,33],[32,33],[17,34],[33,34],[17,35],[34,35],[35,36],[36,37],[36,38],[37,38],[36,39],[38,39],[1,3,16,17,36,40],[36,40],[39,40],[1,3,16,17,36,41],[36,41],[40,41],[36,42],[41,42],[36,43],[42,43]]) (cD 47 (.seqr [m1 48 0,o1 49 (.calls 101 [.t 48,ci 6])] [0]) .skip)) (rS [m1 50 0,o1 51 (.calls 197 [.t 50,.c (.fn 62 [] [])]),m1 3 51] [0,3] Ahc)
def Ajh:IC:=rS [mC 2 (.s [])] [0] AhY
def Ae4:E6:=⟨60,Ajh,[.t 2]⟩
theorem AkD:Cs Tryz.prog 195 Ae4=true:=by kernel_rfl
def Ag9:IC:=rS [o1 1 (.mkm .mkmap []),o0 (.wrm (.mput .str) (.t 1) [.c (.s [110,117,109,98,101,114]),ci 3]),o0 (.wrm (.mput .str) (.t 1) [.c (.s [117,110,105,116]),ci 4]),o0 (.wrm (.mput .str) (.t 1) [.c (.s [100,97,116,101]),ci 5]),o0 (.wrm (.mput .str) (.t 1) [.c (.s [108,105,115,116]),ci 6]),o0 (.wrm (.mput .str) (.t 1) [.c (.s [112,108,117,114,97,108]),ci 7]),o0 (.wrm (.mput .str) (.t 1) [.c (.s [111,114,100,105,110,97,108]),ci 8]),o0 (.wrm (.mput .str) (.t 1) [.c (.s [115,101,108,101,99,116]),ci 9]),m1 2 1,m1 0 2] [0] .ret
def Agx:IC:=rS [mC 0 .nm] [] Ag9
def AdO:E6:=⟨3,Agx,[.t 0]⟩
theorem AfV:Cs Tryz.prog 134 AdO=true:=by kernel_rfl
def AfZ:IC:=rS [mC 3 (.b false)] [0,1] (rS [l1 4 1,m1 5 0,o1 6 (.rdm (.mget .str (.i .i64 0) false) (.t 4) [.t 5]),bZ 7 .neq 6 0,m1 3 7] [3] .ret)
def Ae8:E6:=⟨8,AfZ,[.t 3]⟩
theorem Ahb:Cs Tryz.prog 196 Ae8=true:=by kernel_rfl
def AlM:IC:=rS [mC 2 (.b false)] [0] (rS [m1 3 0,bZ 4 .geq 3 7,m1 5 4,BL 6 5 0,Fz 7 5 .leq 6 9,pA 8 5 7,m1 2 8] [2] .ret)
def Aqz:E6:=⟨9,AlM,[.t 2]⟩
theorem Aqv:Cs Tryz.prog 79 Aqz=true:=by kernel_rfl
def Acp:IC:=cD 4 .skip (rS [bC 8 .eql 3 (.s [102,101,119]),m1 4 8] [3,4] (cD 4 .skip (rS [bC 9 .eql 3 (.s [109,97,110,121]),m1 4 9] [3,4] (cD 4 .skip (.seqr [bC 10 .eql 3 (.s [111,116,104,101,114]),m1 4 10] [4])))))
def Ajp:IC:=.block 0 (sQ (rS [bC 5 .eql 3 (.s [122,101,114,111]),m1 4 5] [3,4] (cD 4 .skip (rS [bC 6 .eql 3 (.s [111,110,101]),m1 4 6] [3,4] (cD 4 .skip (rS [bC 7 .eql 3 (.s [116,119,111]),m1 4 7] [3,4] Acp))))) (cD 4 (rS [mC 2 (.b true)] [2] .ret) .skip))
def Aj1:IC:=rS [mC 2 (.b false)] [0] (sQ (rS [m1 3 0] [3] Ajp) (rS [mC 2 (.b false)] [2] .ret))
def Ade:E6:=⟨11,Aj1,[.t 2]⟩
theorem AhU:Cs Tryz.prog 242 Ade=true:=by kernel_rfl
def Ale:IC:=sQ (.ops [m1 13 0,m1 14 7,o1 15 (.slS (.t 13) none (some (.t 14))),m1 16 0,m1 17 7,m1 18 1,nS 19 18,bT 20 .add 17 19,o1 21 (.slS (.t 16) (some (.t 20)) none),m1 4 15,m1 5 21,mC 6 (.b true)] [4,5,6] [[0,2],[1,2],[5,6],[4,7],[6,7],[3,8],[7,8],[2,9],[8,10]]) .ret
def Aiz:IC:=sQ (rS [m1 8 0,m1 9 1,q2 10 244 8 9,m1 7 10] [0,1,7] (rS [m1 11 7,bZ 12 .geq 11 0] [0,1,7,12] (cD 12 Ale .skip))) (rS [m1 22 0,m1 4 22,mC 5 (.s []),mC 6 (.b false)] [4,5,6] .ret)
def Akz:IC:=rS [mC 4 (.s []),mC 5 (.s []),mC 6 (.b false)] [0,1] Aiz
def Ae1:E6:=⟨23,Akz,[.t 4,.t 5,.t 6]⟩
theorem Ai5:Cs Tryz.prog 189 Ae1=true:=by kernel_rfl
def AgW:IC:=rS [mC 4 (.s []),mC 5 (.s []),mC 6 (.b false)] [0,1] (rS [m1 7 0,m1 8 1,q2 9 189 7 8,xT 10 9 0,xT 11 9 1,xT 12 9 2,m1 4 10,m1 5 11,m1 6 12] [4,5,6] .ret)
def Ae9:E6:=⟨13,AgW,[.t 4,.t 5,.t 6]⟩
theorem Ajx:Cs Tryz.prog 136 Ae9=true:=by kernel_rfl
def Ahz:IC:=rS [mC 2 (.b false)] [0] (rS [m1 3 0,o1 4 (.call 190 [.t 3,.c (.s [48,49,50,51,52,53,54,55,56,57])]),bC 5 .eql 4 (.s []),m1 2 5] [2] .ret)
def Aef:E6:=⟨6,Ahz,[.t 2]⟩
theorem Agm:Cs Tryz.prog 137 Aef=true:=by kernel_rfl
def Alg:IC:=rS [m1 51 8,m1 52 51,BL 53 52 7,gT 54 52 (.lenS (.t 53)),Fz 55 52 .eql 54 0,pA 56 52 55,m1 57 56,BI 58 57 7,gF 59 57 (.lenS (.t 58)),EI 60 57 .gtr 59 6,pO 61 57 60,m1 62 61,BI 63 62 7,gF 64 62 (.call 137 [.t 63]),gF 65 62 (.not (.t 64)),pO 66 62 65,m1 50 66] [2,5,9,50] (cD 50 (rS [lA 67 9 3,sT 2 67 3,mC 3 (.b false)] [2,3] .ret) .skip)
def Ags:IC:=sQ (.ops [lA 68 9 3,m1 69 5,nT 70 69,m1 71 70,gF 72 71 (.load (.t 9) 3 true),gF 73 71 (.call 138 [.t 72]),gF 74 71 (.not (.t 73)),pO 75 71 74,sT 2 68 3,m1 3 75] [2,3] [[1,2],[2,3],[3,4],[3,5],[4,5],[3,6],[5,6],[3,7],[6,7],[0,8],[4,5,8],[7,9]]) .ret
def Amd:IC:=sQ (.block 0 (rS [m1 26 6,nS 27 26,bZ 28 .lss 27 1,m1 29 28,BI 30 29 6,gF 31 29 (.lenS (.t 30)),EI 32 29 .gtr 31 15,pO 33 29 32,m1 34 33,BI 35 34 6,gF 36 34 (.call 137 [.t 35]),gF 37 34 (.not (.t 36)),pO 38 34 37,m1 39 38,BI 40 39 6,gF 41 39 (.lenS (.t 40)),EI 42 39 .gtr 41 1,BI 43 39 42,BL 44 43 6,gT 45 43 (.idx (.t 44) (ci 0)),gT 46 43 (.bin .eql (.t 45) (.c (.i .u8 48))),gF 47 39 (.pick (.t 43) (.t 46) (.c (.b false))),pO 48 39 47,m1 25 48] [2,5,7,8,9,25] (cD 25 (rS [lA 49 9 3,sT 2 49 3,mC 3 (.b false)] [2,3] .ret) Alg))) Ags
def AnV:IC:=rS [m1 21 5,m1 22 6,m1 23 7,o1 24 (.build [.b false,.s [],.s []] [(0,1,.t 21),(1,1,.t 22),(2,1,.t 23)]),o1 9 (.alloc (.agg [.b false,.s [],.s []])),sT 9 24 3] [2,5,6,7,8,9] Amd
def ApQ:IC:=rS [m1 11 0,o1 12 (.call 135 [.t 11,.c (.s [45])]),m1 10 12,xT 13 10 0,xT 14 10 1,m1 4 13,m1 5 14] [2,4,5] (rS [m1 16 4,o1 17 (.call 136 [.t 16,.c (.s [46])]),m1 15 17,xT 18 15 0,xT 19 15 1,xT 20 15 2,m1 6 18,m1 7 19,m1 8 20] [2,5,6,7,8] AnV)
def AmC:IC:=rS [o1 2 (.alloc (.agg [.b false,.s [],.s []])),mC 3 (.b false)] [0,2] ApQ
def Apy:E6:=⟨76,AmC,[.c 2 3 true,.t 3]⟩
theorem AqV:Cs Tryz.prog 98 Apy=true:=by kernel_rfl
def AlX:IC:=rS [m1 6 0,q1 7 98 6,m1 5 7,xT 8 5 0,xT 9 5 1,o1 3 (.alloc (.agg [.b false,.s [],.s []])),sT 3 8 3,m1 4 9] [4] (rS [m1 10 4,m1 2 10] [2] .ret)
def Aob:IC:=rS [mC 2 (.b false)] [0] AlX
def Aq4:E6:=⟨11,Aob,[.t 2]⟩
theorem Ap5:Cs Tryz.prog 67 Aq4=true:=by kernel_rfl
def AcN:IC:=rS [m1 16 1,q1 17 242 16,m1 18 17,BI 19 18 6,BI 20 18 19,BL 21 20 5,gT 22 20 (.call 67 [.t 21]),gF 23 18 (.pick (.t 20) (.t 22) (.c (.b false))),pO 24 18 23,m1 4 24] [4] .ret
def Ahv:IC:=sQ (rS [m1 7 0,bZ 8 .eql 7 9] [1,8] (cD 8 (rS [m1 9 1,q1 10 62 9,m1 4 10] [4] .ret) .skip)) (rS [m1 12 1,o1 13 (.call 135 [.t 12,.c (.s [61])]),m1 11 13,xT 14 11 0,xT 15 11 1,m1 5 14,m1 6 15] [1,5,6] AcN)
def Agk:IC:=rS [mC 4 (.b false)] [0,1] Ahv
def Ad7:E6:=⟨25,Agk,[.t 4]⟩
theorem Ag1:Cs Tryz.prog 185 Ad7=true:=by kernel_rfl
def AjN:IC:=rS [mC 3 (.b false)] [0,1] (rS [l1 4 1,m1 5 0,q2 6 185 4 5,m1 3 6] [3] .ret)
def Adp:E6:=⟨7,AjN,[.t 3]⟩
theorem AgS:Cs Tryz.prog 254 Adp=true:=by kernel_rfl
def yS:IC:=sQ (.ops [m1 43 10,m1 44 0,nC 45 44,fA 46 45 1,l1 47 46,m1 48 0,nC 49 48,fA 50 49 2,l1 51 50,iA 52 47 51 256 4,fA 53 52 1,l1 54 53,o1 55 (.rdm (.mget .str (.b false) false) (.t 43) [.t 54])] [0,2,3,5,9,10,55] [[1,2],[2,3],[3,4],[5,6],[6,7],[7,8],[4,9],[8,9],[9,10],[10,11],[0,12],[11,12]]) (cD 55 (.seqr [m1 56 0,o1 57 (.calls 101 [.t 56,ci 9])] [0,2,3,5,9,10]) .skip)
def Ada:IC:=sQ (rS [m1 38 9,nL 39 38,bZ 40 .geq 39 20] [0,2,3,5,9,10,40] (cD 40 (.seqr [m1 41 0,o1 42 (.calls 101 [.t 41,ci 6])] [0,2,3,5,9,10]) .skip)) yS
def AcL:IC:=rS [m1 67 0,m1 68 2,m1 69 3,m1 70 69,E8 71 70 5,EI 72 70 .neq 71 9,pO 73 70 72,o1 74 (.calls 100 [.t 67,.t 68,.t 73]),fA 75 12 1,sT 75 74 1] [0,2,3,5,9,10,12] (rS [m1 76 0,o1 77 (.calls 142 [.t 76,ci 3])] [0,2,3,5,9,10,12] (.seqr [m1 78 9,lA 79 12 2,o1 80 (.msl true 118 2 [.t 79]),o1 81 (.app (.t 78) (.t 80) 118 2),m1 9 81] [0,2,3,5,9,10]))
def Abc:IC:=rS [m1 62 10,fA 63 12 0,l1 64 63,o0 (.wrm (.mput .str) (.t 62) [.t 64,.c (.b true)])] [0,2,3,5,9,10,12] (rS [m1 65 0,o1 66 (.calls 142 [.t 65,ci 2])] [0,2,3,5,9,10,12] AcL)
def Aap:IC:=rS [m1 58 0,o1 59 (.mkfn 254 [] [.t 5]),o1 60 (.calls 197 [.t 58,.t 59]),o1 61 (.build [.s [],.nil] [(0,1,.t 60)]),o1 12 (.alloc (.agg [.s [],.nil])),sT 12 61 2] [0,2,3,5,9,10,12] Abc
def AbS:IC:=sQ (.block 1 (sQ (sQ (.ops [m1 20 0,o1 21 (.calls 140 [.t 20]),bZ 22 .eql 21 9,m1 23 22,EQ 24 23 5,BL 25 23 0,gT 26 23 (.nilck (.t 25)),Ft 27 23 26 1,EQ 28 23 27,BL 29 23 0,gT 30 23 (.nilck (.t 29)),Ft 31 23 30 2,EQ 32 23 31,gT 33 23 (.iaddr (.t 28) (.t 32) 256 4),Ft 34 23 33 1,EQ 35 23 34,gT 36 23 (.call 185 [.t 24,.t 35]),pA 37 23 36] [0,2,3,5,9,10,37] [[0,1],[1,2],[2,3],[1,3,4],[3,4],[3,5],[3,6],[5,6],[3,7],[6,7],[1,3,8],[3,8],[7,8],[3,9],[3,10],[9,10],[3,11],[10,11],[1,3,12],[3,12],[11,12],[1,3,13],[3,13],[8,13],[12,13],[3,14],[13,14],[1,3,15],[3,15],[14,15],[3,16],[4,16],[15,16],[3,17],[16,17]]) (cD 37 Ada .skip)) Aap)) (.seqr [mC 11 (.b false)] [0,2,3,5,9,10,11])
def Abx:IC:=sQ (rS [m1 14 11,m1 15 14,BI 16 15 0,gF 17 15 (.calls 140 [.t 16]),EI 18 15 .eql 17 9,pO 19 15 18] [0,2,3,5,9,10,19] (cD 19 .skip (.exit 0))) AbS
def AaE:IC:=sQ (rS [m1 82 0,o1 83 (.calls 140 [.t 82]),bZ 84 .eql 83 3,m1 85 84,BL 86 85 10,gT 87 85 (.rdm (.mget .str (.b false) false) (.t 86) [.c (.s [111,116,104,101,114])]),gT 88 85 (.not (.t 87)),pA 89 85 88] [0,9,89] (cD 89 (.seqr [m1 90 0,o1 91 (.calls 101 [.t 90,ci 13])] [9]) .skip)) (rS [m1 92 9,m1 8 92] [8] .ret)
def Ah3:IC:=rS [mC 9 .nil] [0,2,3,5,9] (rS [o1 13 (.mkm .mkmap []),m1 10 13] [0,2,3,5,9,10] (sQ (rS [mC 11 (.b true)] [0,2,3,5,9,10,11] (.block 0 (.loop Abx))) AaE))
def AiR:IC:=rS [bX 5 1,mC 8 .nil] [0,2,3,5] Ah3
def Ad5:E6:=⟨93,AiR,[.t 8]⟩
theorem AjE:Cs Tryz.prog 199 Ad5=true:=by kernel_rfl
def y9:IC:=cD 77 (rS [m1 78 0,o1 79 (.calls 142 [.t 78,ci 8])] [0,6,7] (.seqr [m1 80 0,o1 81 (.calls 197 [.t 80,.c (.fn 198 [] [])]),fA 82 7 3,sT 82 81 1] [0,6,7])) .skip
def Ack:IC:=rS [fA 56 7 0,l1 57 56,bZ 58 .eql 57 5] [0,6,7,58] (cD 58 (.seqr [m1 59 0,o1 60 (.calls 197 [.t 59,.c (.fn 184 [] [])]),fA 61 7 3,sT 61 60 1] [0,6,7]) (.seqr [m1 62 0,o1 63 (.calls 197 [.t 62,.c (.fn 62 [] [])]),fA 64 7 3,sT 64 63 1] [0,6,7]))
def Aay:IC:=cD 83 (rS [m1 87 0,o1 88 (.calls 142 [.t 87,ci 8])] [0,1,2,6,7] (.seqr [m1 89 0,fA 90 7 0,l1 91 90,m1 92 1,bZ 93 .add 92 1,m1 94 2,o1 95 (.calls 199 [.t 89,.t 91,.t 93,.t 94]),fA 96 7 4,sT 96 95 1] [0,6,7])) (rS [m1 54 0,o1 55 (.calls 142 [.t 54,ci 8])] [0,6,7] Ack)
def yB:IC:=rS [fA 72 7 0,l1 73 72,bZ 74 .eql 73 3,m1 71 74] [0,1,2,6,7,71] (cD 71 (rS [m1 75 0,o1 76 (.calls 140 [.t 75]),bZ 77 .eql 76 8] [0,6,7,77] y9) (rS [fA 84 7 0,l1 85 84,q1 86 79 85,m1 83 86] [0,1,2,6,7,83] Aay))
def yL:IC:=sQ (.block 0 (rS [m1 66 0,nC 67 66,fA 68 67 5,l1 69 68,bZ 70 .neq 69 0,m1 65 70] [0,1,2,6,7,65] (cD 65 .skip yB))) (rS [m1 97 0,o1 98 (.calls 142 [.t 97,ci 3])] [6,7] (rS [lA 99 7 6,sT 6 99 6] [6] .ret))
def Acl:IC:=sQ (.ops [l1 48 8,m1 49 0,m1 50 9,⟨some 51,.calls 197 [.t 49,.t 50],none,[.t 8]⟩,o1 52 (.rdm (.mget .str (.i .i64 0) false) (.t 48) [.t 51]),fA 53 7 0,sT 53 52 1] [0,1,2,6,7] [[1,3],[2,3],[0,4],[3,4],[0,6],[3,6],[4,6],[5,6]]) yL
def Acz:IC:=sQ (sQ (.ops [m1 25 0,o1 26 (.calls 140 [.t 25]),bZ 27 .eql 26 9,m1 28 27,EQ 29 28 8,BL 30 28 0,gT 31 28 (.nilck (.t 30)),Ft 32 28 31 1,EQ 33 28 32,BL 34 28 0,gT 35 28 (.nilck (.t 34)),Ft 36 28 35 2,EQ 37 28 36,gT 38 28 (.iaddr (.t 33) (.t 37) 256 4),Ft 39 28 38 1,EQ 40 28 39,gT 41 28 (.rdm (.mget .str (.i .i64 0) false) (.t 29) [.t 40]),gT 42 28 (.call 79 [.t 41]),pA 43 28 42] [0,1,2,6,7,8,9,43] [[0,1],[1,2],[2,3],[1,3,4],[3,4],[3,5],[3,6],[5,6],[3,7],[6,7],[1,3,8],[3,8],[7,8],[3,9],[3,10],[9,10],[3,11],[10,11],[1,3,12],[3,12],[11,12],[1,3,13],[3,13],[8,13],[12,13],[3,14],[13,14],[1,3,15],[3,15],[14,15],[1,3,16],[3,16],[4,16],[15,16],[3,17],[16,17],[3,18],[17,18]]) (cD 43 (.seqr [m1 44 0,m1 45 1,bZ 46 .add 45 1,o1 47 (.calls 143 [.t 44,.t 46])] [0,1,2,6,7,8,9]) .skip)) Acl
def Ag6:IC:=sQ (rS [m1 15 0,o1 16 (.calls 140 [.t 15]),bZ 17 .eql 16 3] [0,1,2,6,7,17] (cD 17 (rS [m1 18 0,o1 19 (.calls 142 [.t 18,ci 3])] [6,7] (rS [lA 20 7 6,sT 6 20 6] [6] .ret)) .skip)) (rS [m1 21 0,o1 22 (.calls 142 [.t 21,ci 8])] [0,1,2,6,7] (rS [o1 23 (.call 134 []),o1 8 (.alloc .nm),sT 8 23 1] [0,1,2,6,7,8] (rS [o1 24 (.mkfn 196 [] [.t 8]),m1 9 24] [0,1,2,6,7,8,9] Acz)))
def Ajr:IC:=rS [m1 12 0,o1 13 (.calls 195 [.t 12]),o1 14 (.build [.i .i64 0,.s [],.s [],.s [],.nil,.nil] [(0,1,ci 2),(2,1,.t 13)]),o1 7 (.alloc (.agg [.i .i64 0,.s [],.s [],.s [],.nil,.nil])),sT 7 14 6] [0,1,2,6,7] Ag6
def Akr:IC:=rS [o1 6 (.alloc (.agg [.i .i64 0,.s [],.s [],.s [],.nil,.nil]))] [0,1,2,6] (rS [m1 10 0,o1 11 (.calls 142 [.t 10,ci 2])] [0,1,2,6] Ajr)
def Ad3:E6:=⟨100,Akr,[.c 6 6 true]⟩
theorem AgU:Cs Tryz.prog 145 Ad3=true:=by kernel_rfl
def AbE:IC:=.seqr [m1 28 7,m1 29 8,o1 30 (.build [.i .i64 0,.s [],.s [],.s [],.nil,.nil] [(0,1,ci 1),(1,1,.t 29)]),o1 31 (.msl true 116 6 [.t 30]),o1 32 (.app (.t 28) (.t 31) 116 6),m1 7 32] [0,1,2,7]
def Aau:IC:=rS [m1 22 0,o1 23 (.calls 142 [.t 22,ci 1]),q1 24 141 23,m1 21 24,xT 25 21 0,xT 26 21 1,xT 27 21 2,m1 8 25,m1 9 26,m1 10 27] [0,1,2,7,8] AbE
def Ab7:IC:=.seqr [m1 41 7,o1 42 (.build [.i .i64 0,.s [],.s [],.s [],.nil,.nil] [(0,1,ci 10)]),o1 43 (.msl true 116 6 [.t 42]),o1 44 (.app (.t 41) (.t 43) 116 6),m1 7 44] [0,1,2,7]
def AbP:IC:=sQ (rS [m1 35 2,nT 36 35] [0,1,2,7,36] (cD 36 (.seqr [m1 37 0,o1 38 (.calls 101 [.t 37,ci 3])] [0,1,2,7]) .skip)) (rS [m1 39 0,o1 40 (.calls 142 [.t 39,ci 4])] [0,1,2,7] Ab7)
def AcF:IC:=.seqr [m1 51 7,m1 52 0,o1 53 (.calls 142 [.t 52,ci 7]),o1 54 (.build [.i .i64 0,.s [],.s [],.s [],.nil,.nil] [(0,1,ci 11),(2,1,.t 53)]),o1 55 (.msl true 116 6 [.t 54]),o1 56 (.app (.t 51) (.t 55) 116 6),m1 7 56] [0,1,2,7]
def zN:IC:=.seqr [m1 59 7,m1 60 0,m1 61 1,bZ 62 .add 61 1,m1 63 2,o1 64 (.calls 144 [.t 60,.t 62,.t 63]),o1 65 (.msl true 116 6 [.t 64]),o1 66 (.app (.t 59) (.t 65) 116 6),m1 7 66] [0,1,2,7]
def Abs:IC:=.seqr [m1 69 7,m1 70 0,m1 71 1,m1 72 2,o1 73 (.calls 145 [.t 70,.t 71,.t 72]),o1 74 (.msl true 116 6 [.t 73]),o1 75 (.app (.t 69) (.t 74) 116 6),m1 7 75] [0,1,2,7]
def yK:IC:=rS [bZ 58 .eql 17 5,m1 57 58] [0,1,2,7,17,57] (cD 57 zN (rS [bZ 68 .eql 17 2,m1 67 68] [0,1,2,7,67] (cD 67 Abs (rS [m1 18 7,m1 6 18] [6] .ret))))
def Aaa:IC:=rS [bZ 46 .eql 17 7,m1 45 46] [0,1,2,7,17,45] (cD 45 (rS [m1 47 0,m1 48 1,bZ 49 .add 48 1,o1 50 (.calls 143 [.t 47,.t 49])] [0,1,2,7] AcF) yK)
def Acq:IC:=.block 2 (rS [bZ 20 .eql 17 1,m1 19 20] [0,1,2,7,17,19] (cD 19 Aau (rS [bZ 34 .eql 17 4,m1 33 34] [0,1,2,7,17,33] (cD 33 AbP Aaa))))
def AiC:IC:=sQ (rS [m1 11 0,nC 12 11,fA 13 12 5,l1 14 13,bZ 15 .eql 14 0] [0,1,2,7,15] (cD 15 .skip (.exit 0))) (.block 1 (rS [m1 16 0,o1 17 (.calls 140 [.t 16])] [0,1,2,7,17] Acq))
def AjM:IC:=rS [mC 6 .nil] [0,1,2] (rS [mC 7 .nil] [0,1,2,7] (sQ (.block 0 (.loop AiC)) (rS [m1 76 7,m1 6 76] [6] .ret)))
def Afm:E6:=⟨77,AjM,[.t 6]⟩
theorem AgN:Cs Tryz.prog 100 Afm=true:=by kernel_rfl
def AfW:IC:=.ops [m1 43 11,nC 44 43,fA 45 44 4,l1 46 45,m1 47 11,nC 48 47,fA 49 48 5,l1 50 49,m1 8 46,m1 9 50] [0,5,8,9,10] [[0,1],[1,2],[2,3],[4,5],[5,6],[6,7],[3,8],[7,9]]
def Ag0:IC:=sQ (rS [m1 34 11,nC 35 34,fA 36 35 2,l1 37 36,m1 38 7,nL 39 38,bT 40 .lss 37 39] [0,5,10,11,40] (cD 40 (.seqr [m1 41 11,o1 42 (.calls 101 [.t 41,ci 3])] [0,5,10,11]) .skip)) AfW
def AjP:IC:=rS [m1 26 0,m1 27 7,o1 28 (.mkm .mkmap []),o1 29 (.build [.s [],.nil,.i .i64 0,.nm,.i .i64 0,.i .i64 0] [(0,1,.t 26),(1,1,.t 27),(3,1,.t 28)]),bX 30 29,m1 11 30] [0,1,5,7,11] (rS [m1 31 11,m1 32 1,o1 33 (.calls 100 [.t 31,ci 0,.t 32]),m1 10 33] [0,5,7,10,11] Ag0)
def AkT:IC:=rS [m1 54 0,m1 55 8,q2 56 102 54 55,m1 53 56,xT 57 53 0,xT 58 53 1,o1 12 (.alloc (.agg [.i .i64 0,.i .i64 0,.i .i64 0])),sT 12 57 3,m1 13 58] [5,9,12] (sQ (.ops [lA 59 12 3,m1 60 9,mC 4 .nil,sT 5 59 3,m1 6 60] [4,5,6] [[0,3],[1,4]]) .ret)
def AhR:IC:=sQ (rS [m1 61 10,o1 62 (.callr 96 [.t 61]),bZ 63 .gtr 62 4000] [5,10,63] (cD 63 (rS [o1 64 (.build [.i .i64 0,.i .i64 0,.i .i64 0] []),mC 4 .nil,sT 5 64 3,mZ 6 6] [4,5,6] .ret) .skip)) (rS [m1 65 10,o1 66 (.build [.i .i64 0,.i .i64 0,.i .i64 0] []),m1 4 65,sT 5 66 3,mZ 6 0] [4,5,6] .ret)
def AhG:IC:=sQ (rS [m1 24 9,bZ 25 .eql 24 0] [0,1,5,7,8,9,10,25] (cD 25 AjP .skip)) (sQ (rS [m1 51 9,bZ 52 .neq 51 0] [0,5,8,9,10,52] (cD 52 AkT .skip)) AhR)
def Api:IC:=sQ (rS [m1 20 9,bZ 21 .eql 20 6] [0,1,5,7,8,9,21] (cD 21 (rS [o1 22 (.build [.i .i64 0,.i .i64 0,.i .i64 0] [(0,1,ci 4000)]),m1 23 9,mC 4 .nil,sT 5 22 3,m1 6 23] [4,5,6] .ret) .skip)) (rS [mC 10 .nil] [0,1,5,7,8,9,10] AhG)
def Aoh:IC:=rS [mC 4 .nil,o1 5 (.alloc (.agg [.i .i64 0,.i .i64 0,.i .i64 0])),mZ 6 0] [0,1,5] (rS [m1 15 0,q1 16 99 15,m1 14 16,xT 17 14 0,xT 18 14 1,xT 19 14 2,m1 7 17,m1 8 18,m1 9 19] [0,1,5,7,8,9] Api)
def AqB:E6:=⟨67,Aoh,[.t 4,.c 5 3 true,.t 6]⟩
theorem AoP:Cs Tryz.prog 68 AqB=true:=by kernel_rfl
def Anl:IC:=rS [mC 2 .nil,o1 3 (.alloc (.agg [.i .i64 0,.i .i64 0,.i .i64 0])),mZ 4 0] [0,3] (rS [m1 5 0,o1 6 (.call 68 [.t 5,.c (.b false)]),xT 7 6 0,xT 8 6 1,xT 9 6 2,m1 2 7,sT 3 8 3,m1 4 9] [2,3,4] .ret)
def Ao2:E6:=⟨10,Anl,[.t 2,.c 3 3 true,.t 4]⟩
theorem AoI:Cs Tryz.prog 42 Ao2=true:=by kernel_rfl
def Ap1:IC:=sQ (rS [m1 19 12,bZ 20 .neq 19 0] [2,3,4,10,20] (cD 20 (rS [mC 8 (.s []),mZ 9 3] [8,9] .ret) .skip)) (rS [lA 21 4 16,m1 22 10,m1 23 2,m1 24 3,o1 25 (.callr 26 [.t 21,.t 22,.t 23,.t 24]),xT 26 25 0,xT 27 25 1,m1 8 26,m1 9 27] [8,9] .ret)
def Amw:IC:=rS [m1 14 1,q1 15 42 14,m1 13 15,xT 16 13 0,xT 17 13 1,xT 18 13 2,o1 11 (.alloc (.agg [.i .i64 0,.i .i64 0,.i .i64 0])),m1 10 16,sT 11 17 3,m1 12 18] [2,3,4,10,12] Ap1
def AmQ:IC:=rS [bX 4 0,mC 8 (.s []),mZ 9 0] [1,2,3,4] Amw
def AqS:E6:=⟨28,AmQ,[.t 8,.t 9]⟩
theorem Apw:Cs Tryz.prog 24 AqS=true:=by kernel_rfl
def Ass:IC:=rS [m1 23 3,bZ 24 .eql 23 0,m1 25 24,BL 26 25 2,gT 27 25 (.bin .eql (.t 26) (.c (.s [49,44,48,48,48,32,102,105,108,101,115]))),pA 28 25 27,m1 29 28,BL 30 29 5,Fz 31 29 .eql 30 0,pA 32 29 31,m1 33 32,BL 34 33 4,gT 35 33 (.bin .eql (.t 34) (.c (.s [226,129,168,97,226,129,169]))),pA 36 33 35,m1 0 36] [0] .ret
def As5:IC:=rS [lA 17 1 16,o1 18 (.build [.s [],.i .i64 0,.s [],.i .i64 0,.nil] [(0,1,.c (.s [120])),(1,1,ci 1),(2,1,.c (.s [97]))]),o1 19 (.msl true 62 5 [.t 18]),o1 20 (.callr 24 [.t 17,.c (.s [123,120,125]),.t 19,.c (.b true)]),m1 16 20,xT 21 16 0,xT 22 16 1,m1 4 21,m1 5 22] [2,3,4,5] Ass
def ArE:IC:=rS [lA 9 1 16,o1 10 (.build [.s [],.i .i64 0,.s [],.i .i64 0,.nil] [(0,1,.c (.s [110])),(1,1,ci 2),(2,1,.c (.s [49,48,48,48]))]),o1 11 (.build [.s [],.i .i64 0,.s [],.i .i64 0,.nil] [(0,1,.c (.s [120])),(1,1,ci 1),(2,1,.c (.s [102,105,108,101,115]))]),o1 12 (.msl true 62 5 [.t 10,.t 11]),o1 13 (.callr 24 [.t 9,.c (.s [123,110,44,32,112,108,117,114,97,108,44,32,61,49,32,123,60,98,62,35,60,47,98,62,125,32,111,116,104,101,114,32,123,35,32,123,120,125,125,125]),.t 12,.c (.b false)]),m1 8 13,xT 14 8 0,xT 15 8 1,m1 2 14,m1 3 15] [1,2,3] As5
def Atr:IC:=rS [o1 6 (.build [.s [],.s [],.s [],.s [],.i .i64 0,.i .i64 0] [(0,1,.c (.s [46])),(1,1,.c (.s [44])),(2,1,.c (.s [45])),(4,1,ci 3)]),o1 7 (.build [.s [],.s [],.s [],.nil,.nil,.s [],.s [],.s [],.s [],.i .i64 0,.i .i64 0,.nil,.nil,.nil,.nil,.nil] [(5,6,.t 6)]),o1 1 (.alloc (.agg [.s [],.s [],.s [],.nil,.nil,.s [],.s [],.s [],.s [],.i .i64 0,.i .i64 0,.nil,.nil,.nil,.nil,.nil])),sT 1 7 16] [1] ArE
def AtH:IC:=rS [mC 0 (.b false)] [] Atr
def e8T:E6:=⟨37,AtH,[.t 0]⟩
theorem ArP:Cs Tryz.prog 8 e8T=true:=by kernel_rfl
noncomputable def evA:FuncId->Option E6:=(B7 143 (B7 99 (B7 67 (B7 42 (B7 24 (B3 8 e8T) (B3 24 AqS)) (B7 62 (B3 42 Ao2) (B3 62 AmX))) (B7 79 (B7 68 (B3 67 Aq4) (B3 68 AqB)) (B7 97 (B3 79 Aqz) (B7 98 (B3 97 Amj) (B3 98 Apy))))) (B7 137 (B7 134 (B7 100 (B3 99 AqC) (B3 100 Afm)) (B7 136 (B3 134 AdO) (B3 136 Ae9))) (B7 140 (B7 139 (B3 137 Aef) (B3 139 AfL)) (B7 141 (B3 140 Afs) (B7 142 (B3 141 Af1) (B3 142 Adi)))))) (B7 194 (B7 186 (B7 145 (B7 144 (B3 143 Aez) (B3 144 AeW)) (B7 185 (B3 145 Ad3) (B3 185 Ad7))) (B7 189 (B7 187 (B3 186 AdD) (B3 187 Af3)) (B7 192 (B3 189 Ae1) (B7 193 (B3 192 AdA) (B3 193 Afp))))) (B7 242 (B7 196 (B7 195 (B3 194 AdT) (B3 195 Ae4)) (B7 197 (B3 196 Ae8) (B7 199 (B3 197 AeE) (B3 199 Ad5)))) (B7 254 (B7 253 (B3 242 Ade) (B3 253 Adw)) (B7 295 (B3 254 Adp) (B7 323 (B3 295 Afc) (B3 323 AfD)))))))
theorem Agn:Iy Tryz.prog evA:=(.node (.node (.node (.node (.node (.leaf ArP) (.leaf Apw)) (.node (.leaf AoI) (.leaf AnD))) (.node (.node (.leaf Ap5) (.leaf AoP)) (.node (.leaf Aqv) (.node (.leaf AqR) (.leaf AqV))))) (.node (.node (.node (.leaf Amm) (.leaf AgN)) (.node (.leaf AfV) (.leaf Ajx))) (.node (.node (.leaf Agm) (.leaf AjK)) (.node (.leaf AjW) (.node (.leaf AkX) (.leaf Ahs)))))) (.node (.node (.node (.node (.leaf Ajk) (.leaf Ahh)) (.node (.leaf AgU) (.leaf Ag1))) (.node (.node (.leaf AiK) (.leaf AjO)) (.node (.leaf Ai5) (.node (.leaf Aha) (.leaf AkL))))) (.node (.node (.node (.leaf Aiy) (.leaf AkD)) (.node (.leaf Ahb) (.node (.leaf Ag8) (.leaf AjE)))) (.node (.node (.leaf AhU) (.leaf Ag7)) (.node (.leaf AgS) (.node (.leaf Agr) (.leaf AfX)))))))
end Go.Ir
end
section
set_option maxRecDepth 1000000
namespace Go.Ir
open Go.Proofs
def uV:List (TypeId×Nat×Nat):=[(98,2,0)]
theorem AtO:∀p∈uV,liesAt Tryz.prog Tryz.prog.depth p.1 (p.2.1 / Tryz.prog.cellsOf p.1) p.2.2 98 1=true:=by intro p hp;simp only[uV,AqN,AvJ,or_false] at hp;subst hp;kernel_rfl
noncomputable def AoH:AQ:=orC (xR 135 IY) (orC (xR 244 P7) (orC (xR 190 wO) (orC (xR 252 I7) (orC (onP 26 PY) (orC (onP 96 PU) (orC (zI 180 uV) (AaS 45 5)))))))
theorem Aaz(W0:World)(a:B8 W0)(b:BV W0):AX Tryz.prog W0 AoH:=
 Qzz (SC W0) (Qzz (nE W0) (Qzz (AgC W0) (Qzz (SS W0) (Qzz (nN W0 a b) (Qzz (iI W0) (Qzz (Ze W0 _ AtO) (Z4 W0)))))))
theorem Uh:ApB (MB evA AoH 100000 100 8 [] [] 0)=some (.b true):=by kernel_rfl
theorem mT(W0:World)(a:B8 W0)(c:BV W0):An Tryz.prog W0 8 [] [] (.b true) []:=Ro Agn (Aaz W0 a c) gG Uh rfl rfl
end Go.Ir
end
namespace Go.Ir
open Go.Proofs
def Ed(p:Aj):Prop:=1<=p.kind/\p.kind<=11
theorem QZ{k:Int}{t p st:Aa}{c q:Int}(h:AB k t p st c q=true):1<=k/\k<=11:=by
 unfold AB at h;by_cases d:k=1
 ·omega
 by_cases e:k=2
 ·omega
 by_cases f:k=3
 ·omega
 by_cases g:k=4
 ·omega
 by_cases i:k=5
 ·omega
 by_cases j:k=6
 ·omega
 by_cases l:k=7
 ·omega
 by_cases m:k=8
 ·omega
 by_cases o:k=9
 ·omega
 by_cases a:k=10
 ·omega
 by_cases b:k=11
 ·omega
 simp[d,e,f,g,i,j,l,m,o,a,b] at h
theorem Nq{k:Int}(h:Bf k=true):k=7\/k=8\/k=9:=by unfold Bf at h;simp at h;omega
theorem SH(ps:List Aj):∀d c a,Bz ps d c a=true->Cf Ed ps:=by
 refine FJ (P:=λp=>∀d c,p.formedB d c=true->p.all Ed)
  (Q:=λps=>∀d c a,Bz ps d c a=true->Cf Ed ps)
  (R:=λcs=>∀k d c e,Cg cs k d c e=true->DC Ed cs) ?_ ?_ ?_ ?_ ?_ ps
 ·intro p j g d c h;have i:=ZW [p] d c false (by rw[Dg,h];simp[Bz]);rw[DZ,p.all_eq] at i;obtain⟨⟨w,_,_⟩,_⟩:=i;rw[p.formedB_eq] at h;rw[p.all_eq];cases b:p.kind==11 with
  | true=>
   have l:p.kind=11:=by simpa using b
   have f:Bf p.kind=false:=by rw[l];rfl
   rw[b,if_pos rfl,Aan] at h;refine⟨⟨by omega,by omega⟩,?_,g _ _ _ h.2⟩;rw[w.cases0 f];simp only[DC]
  | false=>
   rw[b,if_neg (by simp)] at h;cases f:Bf p.kind with
   | true=>rw[f,if_pos rfl,Aan] at h;have:=Nq f;refine⟨⟨by omega,by omega⟩,j _ _ _ _ h.2,?_⟩;rw[w.parts0 b];simp only[Cf]
   | false=>
    rw[f,if_neg (by simp)] at h;refine⟨QZ (Jp b f h),?_,?_⟩
    ·rw[w.cases0 f];simp only[DC]
    ·rw[w.parts0 b];simp only[Cf]
 ·intro d c a _;simp only[Cf]
 ·intro p ps hp g d c a h;rw[Dg,Aan,Aan] at h;rw[DZ];exact⟨hp _ _ h.2.1,g _ _ _ h.2.2⟩
 ·intro k d c e h;simp only[DC]
 ·intro x cs g j k d c e h;rw[Eo,Aan,Aan] at h;rw[Ff];exact⟨g _ _ _ h.2.1,j _ _ _ _ h.2.2⟩
theorem ME{ps:List Aj}(h:Da ps=true):Cf Ed ps:=by rw[Tc] at h;unfold TE at h;rw[Aan,Aan] at h;exact SH ps _ _ _ h.1.1
theorem Ajb{L:BO}{p:Aj}{vs a:List AY}(h:Bt vs p.name=Bt a p.name):Fw L p vs=Fw L p a:=by unfold Fw;rw[h]
theorem Al4(L:BO)(vs d:List AY)(c:Bool)(ps:List Aj):Cf Ed ps->(∀n∈CB ps,Bt vs n=Bt d n)->∀cnt,Dh ⟨L,vs,c⟩ ps cnt=Dh ⟨L,d,c⟩ ps cnt:=by
 refine FJ (P:=λp=>p.all Ed->(∀n∈p.nms,Bt vs n=Bt d n)->∀cnt,aF ⟨L,vs,c⟩ p cnt=aF ⟨L,d,c⟩ p cnt)
  (Q:=λps=>Cf Ed ps->(∀n∈CB ps,Bt vs n=Bt d n)->∀cnt,Dh ⟨L,vs,c⟩ ps cnt=Dh ⟨L,d,c⟩ ps cnt)
  (R:=λcs=>DC Ed cs->(∀n∈EH cs,Bt vs n=Bt d n)->∀cnt,JJ ⟨L,vs,c⟩ cs cnt=JJ ⟨L,d,c⟩ cs cnt) ?_ ?_ ?_ ?_ ?_ ps
 ·intro p y i g e cnt;rw[p.all_eq] at g;obtain⟨⟨k1,k2⟩,s,u⟩:=g;rw[p.nms_eq] at e;have l:=y s λn f=>e n (by simp[f]);have j:=i u λn f=>e n (by simp[f]);have A:(p.kind==1)=false->(p.kind==10)=false->(p.kind==11)=false->Bt vs p.name=Bt d p.name:=by
   intro m o r;simp at m o r;refine e p.name ?_;have B:decide (p.kind>=2)=true:=by simp;omega
   have C:decide (p.kind<=9)=true:=by simp;omega
   simp[B,C]
  obtain⟨k,t,z,st,cs,q⟩:=p;simp only at l j A k1 k2;simp only[aF];cases m:(k==1) with
  | true=>rfl
  | false=>
  cases o:(k==10) with
  | true=>rfl
  | false=>
  cases r:(k==11) with
  | true=>simp only[AcY,if_false,if_true];rw[j]
  | false=>
   have h:=A m o r;have D:=Ajb (L:=L) (p:=⟨k,t,z,st,cs,q⟩) h;have v:Lw ⟨L,vs,c⟩ k z cnt=Lw ⟨L,d,c⟩ k z cnt:=by unfold Lw;simp only;rw[h]
   simp only[AcY,if_false];rw[D,v,l,h]
 ·intro _ _ cnt;rw[Kc,Kc]
 ·intro p ps hp i g e cnt;rw[DZ] at g;rw[IM] at e;rw[Ik,Ik,hp g.1 (λn f=>e n (by simp[f])),i g.2 (λn f=>e n (by simp[f]))]
 ·intro _ _ cnt;simp only[JJ]
 ·intro x cs i y g e cnt;rw[Ff] at g;obtain⟨a,b⟩:=x;simp only[EH] at e;simp only[JJ,evC];rw[i g.1 (λn f=>e n (by simp[f])),y g.2 (λn f=>e n (by simp[f]))]
theorem Agg(L:BO)(vs b:List AY)(a:Bool)(ps:List Aj)(h:∀n∈CB ps,Bt vs n=Bt b n):FL L ps vs a=FL L ps b a:=by
 unfold FL;cases c:Da ps with
 | false=>rfl
 | true=>rw[Al4 L vs b a ps (ME c) h]
theorem RO{a b:Int}(h:(Jz a b).2=true)(g:a≠4\/b=0):(Jz a b).1≠4:=by
 unfold Jz at *;cases f:(!Fa a||!Fa b) with
 | true=>rw[f] at h;simp at h
 | false=>
  rw[f] at h;simp only[AcY,if_false] at h⊢;by_cases e:(a==b)=true
  ·rw[if_pos e];have:a=b:=by simpa using e
   subst this;simp only;omega
  ·rw[if_neg e] at h⊢;by_cases c:(a==0&&b !=4)=true
   ·rw[if_pos c];simp at c;exact c.2
   ·rw[if_neg c] at h⊢;by_cases d:(b==0&&a !=4)=true
    ·rw[if_pos d];simp at d;exact d.2
    ·rw[if_neg d] at h;cases h
def Kv(m:CO)(n:Aa):Prop:=∃x,Bl m n=some x/\x≠4
theorem s7(t:CO×Bool)(u:Aa×Int)(h:(Cj t u).2=false):(∀n,Kv t.1 n->Kv (Cj t u).1 n)/\(u.2=0->Kv (Cj t u).1 u.1):=by
 unfold Cj at *;split at h
 ·rename_i b;simp only[b];refine⟨λn d=>?_,λe=>⟨u.2,by rw[DE,if_pos rfl],by omega⟩⟩;obtain⟨x,a,c⟩:=d;refine⟨x,?_,c⟩;rw[DE,if_neg]
  ·exact a
  ·rintro rfl;rw[b] at a;cases a
 ·rename_i g b;simp only[b];simp only[Au8,AuA] at h;refine⟨λn d=>?_,λe=>⟨_,by rw[DE,if_pos rfl],RO h.2 (.inr e)⟩⟩;obtain⟨x,a,c⟩:=d;by_cases f:n=u.1
  ·subst f;rw[b] at a;cases a;exact⟨_,by rw[DE,if_pos rfl],RO h.2 (.inl c)⟩
  ·exact⟨x,by rw[DE,if_neg f];exact a,c⟩
theorem ZP(us:List (Aa×Int)):∀t:CO×Bool,(us.foldl Cj t).2=false->(∀n,Kv t.1 n->Kv (us.foldl Cj t).1 n)/\∀u∈us,u.2=0->Kv (us.foldl Cj t).1 u.1:=by
 induction us with
 | nil=>intro t _;exact⟨λn h=>h,λu a=>by cases a⟩
 | cons v us f=>
  intro t h;have b:=f _ h;have d:=s7 t v (Mz us _ h);refine⟨λn e=>b.1 n (d.1 n e),λu a c=>?_⟩;rcases AqN.1 a with rfl|a
  ·exact b.1 _ (d.2 c)
  ·exact b.2 u a c
theorem m8(ps:List Aj):∀U:Aa×Int->Prop,(∀u∈By ps,U u)->Cf (λp=>Df p.kind=true->U (p.name,FSz p.kind)) ps:=by
 refine FJ (P:=λp=>∀U:Aa×Int->Prop,(∀u∈p.uses,U u)->p.all (λp=>Df p.kind=true->U (p.name,FSz p.kind))) (Q:=λps=>∀U:Aa×Int->Prop,(∀u∈By ps,U u)->Cf (λp=>Df p.kind=true->U (p.name,FSz p.kind)) ps)
  (R:=λcs=>∀U:Aa×Int->Prop,(∀u∈CM cs,U u)->DC (λp=>Df p.kind=true->U (p.name,FSz p.kind)) cs) ?_ ?_ ?_ ?_ ?_ ps
 ·intro p d b U h;rw[p.uses_eq] at h;rw[p.all_eq];refine⟨λe=>h _ ?_,d U λu a=>h u (by simp[a]),b U λu a=>h u (by simp[a])⟩;rw[e];simp
 ·intro U _;simp only[Cf]
 ·intro p ps hp b U h;rw[Ht] at h;rw[DZ];exact⟨hp U λu a=>h u (by simp[a]),b U λu a=>h u (by simp[a])⟩
 ·intro U _;simp only[DC]
 ·intro c cs b d U h;rw[Hs] at h;rw[Ff];exact⟨b U λu a=>h u (by simp[a]),d U λu a=>h u (by simp[a])⟩
def Fit(vs:List AY)(u:Aa×Int):Prop:=∃v,Bt vs u.1=some v/\Gh v=true/\((u.2≠0/\v.type=u.2)\/(u.2=0/\v.type≠4))
theorem Abj(ps:List Aj)(vs:List AY)(args:CO)(h:(EK ps).2=false)(f:∀n x,Bl (EK ps).1 n=some x->(n,x)∈args)(i:(ES vs args 0).2=0):Cf (λp=>Df p.kind=true->Fit vs (p.name,FSz p.kind)) ps:=by
 have b:=aR args 0 i;refine m8 ps (Fit vs) λu g=>?_;by_cases c:u.2=0
 ·obtain⟨x,e,j⟩:=(ZP (By ps) ([],false) h).2 u g c;obtain⟨v,d,hp,a⟩:=b _ (f _ _ e);refine⟨v,d,hp,.inr ⟨c,?_⟩⟩;unfold QX at a;simp at a;omega
 ·have e:=(bK (By ps) ([],false) h).2 u g c;obtain⟨v,d,hp,a⟩:=b _ (f _ _ e);refine⟨v,d,hp,.inl ⟨c,?_⟩⟩;unfold QX at a;simp at a;omega
abbrev Gl(e:Int):Prop:=e≠11/\e≠12
theorem Me(a:Bool)(w f:Aa):Gl (Em a w f).2:=by unfold Em;split<;>exact⟨by simp,by simp⟩
theorem bJ(n:Aa):Gl (CQ n).2:=by
 unfold CQ;split
 ·exact Me _ _ _
 ·exact⟨by simp,by simp⟩
theorem YD(n:Aa):Gl (CI n).2:=by
 unfold CI;split
 ·exact Me _ _ _
 ·exact⟨by simp,by simp⟩
theorem Qq(L:BO)(n st:Aa):Gl (Cw L n st).2:=by
 have a:=bJ n;have b:=YD n;unfold Cw
 repeat' split
 all_goals first|exact a|exact b|exact⟨by simp,by simp⟩
theorem Zx(x:Ko)(f:Aa):Gl (EG x f).2:=by
 unfold EG
 repeat' split
 all_goals exact⟨by simp,by simp⟩
theorem Zg(x:Ko):∀(n:Nat) (p out:Aa),Gl (BD x n p out).2:=by
 intro n
 induction n with
 | zero=>intro p out;exact⟨by simp[BD],by simp[BD]⟩
 | succ n b=>
  intro p out;have a:=Zx x (p.take (p.takeWhile DH).length);rw[BD]
  repeat' split
  all_goals first|exact b _ _|exact a|exact⟨by simp,by simp⟩
theorem nJ(l:List CE)(a:Aa):Gl (Dz l a).2:=by
 unfold Dz
 repeat' split
 all_goals exact⟨by simp,by simp⟩
theorem pP(L:BO)(a:Aa)(d:Int):Gl (DB L a d).2:=by
 have b:=nJ L.dates a;unfold DB
 repeat' split
 all_goals first|exact Zg _ _ _ _|exact b|exact⟨by simp,by simp⟩
theorem l8(L:BO)(st:Aa)(l:List Aa):Gl (Eh L st l).2:=by
 unfold Eh
 repeat' split
 all_goals exact⟨by simp,by simp⟩
theorem Z5(l:List A7)(s:Aa):Gl (C7 l s).2:=by unfold C7;cases Db [] l&&DF s<;>exact⟨by simp,by simp⟩
theorem oH(L:BO)(u n:Aa):Gl (Eg L u n).2:=by
 have a:=Z5 L.card n;have b:=Qq L n [];unfold Eg
 repeat' split
 all_goals first|exact a|exact b|exact⟨by simp,by simp⟩
theorem zT(L:BO)(k:Int)(st:Aa)(v:AY)(hp:Gh v=true)(a:Nk k v.type=true):Gl (Lv L k st v).2:=by
 unfold Lv;rw[hp,a]
 repeat' split
 all_goals first|exact Qq _ _ _|exact oH _ _ _|exact pP _ _ _|exact l8 _ _ _|(rename_i h;exact absurd h (by decide))|exact⟨by simp,by simp⟩
theorem Aai(L:BO)(p:Aj)(vs:List AY)(c:Bf p.kind=true)(e:Fit vs (p.name,FSz p.kind)):Gl (Fw L p vs).2:=by
 obtain⟨v,d,hp,a⟩:=e;simp only at d a;have b:M3 p.kind v=true:=by unfold M3;rw[hp];have f:=Nq c;unfold FSz at a;rcases f with h|h|h<;>rw[h] at a⊢<;>simp at a⊢<;>omega
 unfold Fw;rw[c,d];simp only[b]
 repeat' split
 all_goals exact⟨by simp,by simp⟩
def Mx(e:Ev):Prop:=∀x,e=.er x->Gl x
theorem NV(b:Bool)(r:Aa×Int)(h:Gl r.2):Mx (Jk b r):=by
 intro x a;unfold Jk at a;split at a
 ·cases a
 ·cases a;exact h
theorem z6(es:List Ev):∀st:Aa×Int,Gl st.2->(∀e∈es,Mx e)->Gl (CU st es).2:=by
 induction es with
 | nil=>intro st h _;exact h
 | cons e es c=>
  intro st h a;rw[CU];split
  ·refine c _ ?_ λx b=>a x (AaC _ b);cases e with
   | pc s=>
    simp only[Gc];split
    ·exact⟨by simp,by simp⟩
    ·exact h
   | er y=>exact a (.er y) (by simp) y rfl
  ·exact h
theorem yO(X:WX)(ps:List Aj):Cf Ed ps->Cf (λp=>Df p.kind=true->Fit X.vs (p.name,FSz p.kind)) ps->∀cnt,∀e∈Dh X ps cnt,Mx e:=by
 refine FJ (P:=λp=>p.all Ed->p.all (λp=>Df p.kind=true->Fit X.vs (p.name,FSz p.kind))->∀cnt,∀e∈aF X p cnt,Mx e)
  (Q:=λps=>Cf Ed ps->Cf (λp=>Df p.kind=true->Fit X.vs (p.name,FSz p.kind)) ps->∀cnt,∀e∈Dh X ps cnt,Mx e)
  (R:=λcs=>DC Ed cs->DC (λp=>Df p.kind=true->Fit X.vs (p.name,FSz p.kind)) cs->∀cnt,∀l∈JJ X cs cnt,∀e∈l,Mx e) ?_ ?_ ?_ ?_ ?_ ps
 ·intro p K o d f cnt;rw[p.all_eq] at d f;obtain⟨⟨k1,k2⟩,D,E⟩:=d;obtain⟨M,G,I⟩:=f;have u:=K D G;have r:=o E I;have j:∀s,Mx (.pc s):=λs x h=>by cases h
  have g:Bf p.kind=true->Gl (Fw X.L p X.vs).2:=λB=>Aai X.L p X.vs B (M (by unfold Df;have:=Nq B;simp;omega));obtain⟨k,t,O,st,cs,q⟩:=p;simp only at u r M k1 k2 g;simp only[aF];by_cases y:(k==1)=true
  ·rw[if_pos y];intro e c;rw[ArF] at c;subst c;exact j _
  rw[if_neg y];by_cases z:(k==10)=true
  ·rw[if_pos z];intro e c;rw[ArF] at c;subst c;exact NV _ _ (Qq _ _ _)
  rw[if_neg z];by_cases A:(k==11)=true
  ·rw[if_pos A];intro e c;rcases AqN.1 c with rfl|c
   ·exact j _
   rcases Ajn.1 c with c|c
   ·exact r _ e c
   ·rw[ArF] at c;subst c;exact j _
  rw[if_neg A];have J:Df k=true:=by unfold Df;simp at y z A⊢;omega
  by_cases m:(k==7||(k==8||k==9))=true
  ·rw[if_pos m];have B:Bf k=true:=by rw[Dd];simp at m;exact m
   intro e c;split at c
   ·cases F:(JJ X cs (Lw X k O cnt))[(Fw X.L ⟨k,t,O,st,cs,q⟩ X.vs).1.toNat]? with
    | none=>rw[F] at c;cases c
    | some l=>rw[F] at c;exact u _ l (Aln F) e c
   ·rw[ArF] at c;subst c;intro x U;cases U;exact g B
  rw[if_neg m];obtain⟨v,N,hp,C⟩:=M J;simp only at N C;rw[N];intro e c;rw[ArF] at c;subst c;refine NV _ _ (zT _ _ _ _ hp ?_);simp at y z A m;have S:k=2\/k=3\/k=4\/k=5\/k=6:=by omega
  unfold FSz at C;unfold Nk;rcases S with h|h|h|h|h<;>subst h<;>simp at C⊢<;>exact C
 ·intro _ _ cnt e c;rw[Kc] at c;cases c
 ·intro p ps hp o d f cnt e c;rw[DZ] at d f;rw[Ik] at c;rcases Ajn.1 c with c|c
  ·exact hp d.1 f.1 _ e c
  ·exact o d.2 f.2 _ e c
 ·intro _ _ cnt l i;simp only[JJ] at i;cases i
 ·intro x cs o K d f cnt l i;rw[Ff] at d f;obtain⟨a,b⟩:=x;simp only[JJ,evC] at i;rcases AqN.1 i with rfl|i
  ·exact o d.1 f.1 _
  ·exact K d.2 f.2 _ l i
theorem Ab0(L:BO)(ps:List Aj)(vs:List AY)(a:Bool)(args:CO)(e:(EK ps).2=false)(b:∀n x,Bl (EK ps).1 n=some x->(n,x)∈args)(c:(ES vs args 0).2=0):Gl (FL L ps vs a).2:=by
 unfold FL;cases d:Da ps with
 | false=>exact⟨by simp,by simp⟩
 | true=>have:=z6 (Dh ⟨L,vs,a⟩ ps []) ([],0) ⟨by simp,by simp⟩ (yO ⟨L,vs,a⟩ ps (ME d) (Abj ps vs args e b c) []);simp only[if_true];split<;>exact this
theorem Vf(n:Aa)(b:List AY):∀a:List AY,Bt (a++b) n=match Bt a n with
  | some v=>some v
  | none=>Bt b n:=by
 intro a
 induction a with
 | nil=>rfl
 | cons v a c=>
  rw[Anz,Bt,Bt];split
  ·rfl
  ·exact c
theorem iG(n:Aa):∀l:List AY,(∀a v b,l.reverse=a++v::b->Bt a v.name=none)->Bt l n=Bt l.reverse n:=by
 intro l
 induction l with
 | nil=>intro _;rfl
 | cons v l f=>
  intro h;have d:Bt l.reverse v.name=none:=h l.reverse v [] (by simp);rw[AxU,Vf,Bt,f λa w b e=>h a w (b++[v]) (by rw[AxU,e];simp)];by_cases c:(v.name==n)=true
  ·have:v.name=n:=by simpa using c
   subst this;rw[if_pos c,d,Bt,if_pos c]
  ·rw[if_neg c];cases Bt l.reverse n with
   | some w=>rfl
   | none=>simp only[Bt];rw[if_neg c]
theorem zV(n:Aa)(vs:List AY)(h:∀a v b,vs=a++v::b->Bt a v.name=none):Bt vs.reverse n=Bt vs n:=by
 have:=iG n vs.reverse (by rw[List.reverse_reverse];exact h)
 rwa [List.reverse_reverse] at this
theorem Tb(L:BO)(ps:List Aj)(vs:List AY)(more:AY)(c:Bool)(h:∀a v b,vs=a++v::b->Bt a v.name=none) :
  FL L ps ((if(CB ps).contains more.name then[] else[more])++vs.reverse) c=FL L ps vs c:=by
 refine Agg L _ _ c ps λn g=>?_;rw[Vf,zV n vs h];split
 ·rename_i v d;split at d
  ·cases d
  ·rename_i e;rw[Bt] at d;split at d
   ·rename_i f;have:more.name=n:=by simpa using f
    subst this;exact absurd (by simpa using g) e
   ·cases d
 ·rfl
end Go.Ir

namespace Go.Ir
open Go.Proofs
variable{P:Program}{W0:World}{nt n:Nat}{Q:Exit→St→Prop}{env:AE}{σ:Al}
end Go.Ir

namespace Go.Ir
open Go.Proofs
variable(W0:World)
theorem Vh:∀(l:List Aa) (n:Int),Rn l n<=200->n<=200/\∀s∈l,s.length<=200
 | [],n,h=>⟨h,λs a=>by cases a⟩
 | x::r,n,h=>by
  rw[Rn] at h;obtain⟨c,b⟩:=Vh r _ h;refine⟨by omega,λs a=>?_⟩;rcases AqN.1 a with rfl|a
  ·omega
  ·exact b s a
theorem GS{e:Bool}:∀{vs:List AY},Ct e vs=true->e=true/\∀v∈vs,Ww v/\v.text.length<=2^24
 | [],h=>⟨h,λv i=>by cases i⟩
 | v::r,h=>by
  rw[Ct,Aan,Aot,Au8,Au8,decide_eq_false_iff_not,decide_eq_false_iff_not] at h;obtain⟨⟨⟨j,k⟩,_⟩,b⟩:=h;obtain⟨c,d⟩:=GS b;obtain⟨l,f⟩:=Vh v.list (v.text.length:Int) (by omega);refine⟨c,λx a=>?_⟩;rcases AqN.1 a with rfl|a
  ·exact⟨⟨by omega,by omega,λs g=>by have:=f s g;omega⟩,by omega⟩
  ·exact d x a
theorem Aca(d:BV W0)(L:BO)(vs:List AY)(a:Bool)(hp:-9223372036854775808<=L.prim)(f:L.sec<9223372036854775808)(g:A9 L.card+A9 L.ord<=2^24)(e:vs.length<=2^40)(b:H9 L=true)(c:Ct (decide ((vs.length:Int)<=30)) vs=true):xU ⟨L,vs,a⟩ (Fo L.months+Fo L.days+24):=by unfold H9 at b;simp only[Aan,decide_eq_true_eq] at b;exact SZ W0 d L vs a (by omega) hp f g e (GS c).2
theorem Nd(f:B8 W0)(g:BV W0)(c:Nat)(L:BO)(ps:List Aj)(vs:List AY)(a:Bool)(b:List Aj)(h:xU ⟨L,vs,a⟩ c)(j:AU b<=2^24) :
  An Tryz.prog W0 10 [NZ L ps vs a,.sl (b.map Aj.enc)] [] (.tup [.s (FL L b vs a).1,.i .i64 (FL L b vs a).2]) []:=by
 have e:=Om W0 f g c L vs a b h j;generalize FL L b vs a=S at *;rw[BO.enc_eq] at e;rw[Gd];refine Ah (vs:=[.s S.1,.i .i64 S.2]) Ao0 (by simp) (by simp) λn0 d=>?_;clear d;simp only[push_cast,seval,reduceEqDiff]
 repeat' (first|(((first|apply Ab|apply Ag|apply Af)<;>intro _h)<;>simp only[push_cast,seval,reduceEqDiff,_h])|(refine Ac (by exact e) ?_;simp only[push_cast,seval,reduceEqDiff])|intro _)
 refine Ae ?_;simp[push_cast,get]
end Go.Ir

namespace Go.Ir
open Go.Proofs
variable{P:Program}{W0:World}{nt n:Nat}{Q:Exit→St→Prop}{env:AE}{σ:Al}
def AdU:IC:=oS [m1 50 10,bZ 51 .eql 50 0,m1 52 51,BL 53 52 8,Fz 54 52 .eql 53 12,BL 55 52 54,BI 56 55 8,EI 57 55 .eql 56 11,gT 58 52 (.pick (.t 55) (.c (.b true)) (.t 57)),pA 59 52 58] [2,3,7,8,59] (cD 59 (oR [mC 4 (.b false)] [4]) .skip)
def AfQ:IC:=.ops [fA 62 2 16,l1 63 62,o1 64 (.call 22 [.t 63,.c .nil]),fA 65 3 0,l1 66 65,q2 67 21 64 66,nT 68 67] [2,3,7,8,11,68] [[0,1],[1,2],[3,4],[2,5],[4,5],[5,6]]
def AeO:IC:=.ops [fA 98 11 17,l1 99 98,fA 100 2 17,l1 101 100,m1 102 12,iA 103 101 102 62 5,lA 104 103 5,o1 105 (.msl false 62 5 [.t 104]),o1 106 (.app (.t 99) (.t 105) 62 5),fA 107 11 17,sT 107 106 1] [2,7,8,11,12] [[0,1],[2,3],[3,5],[4,5],[5,6],[6,7],[1,8],[3,5,6,7,8],[5,6,7,8],[6,7,8],[7,8],[1,10],[3,10],[5,10],[6,10],[8,10],[9,10]]
def AdJ:IC:=sQ (.block 1 (sQ (sQ (.ops [fA 84 2 17,l1 85 84,m1 86 12,o1 87 (.slL (.t 85) none (some (.t 86)) 5),fA 88 2 17,l1 89 88,m1 90 12,iA 91 89 90 62 5,fA 92 91 0,l1 93 92,q2 94 23 87 93,m1 83 94,xT 95 83 0,xT 96 83 1,o1 13 (.alloc (.agg [.s [],.i .i64 0,.s [],.i .i64 0,.nil])),sT 13 95 5,m1 14 96] [2,7,8,11,12,14] [[0,1],[1,3],[2,3],[4,5],[5,7],[6,7],[7,8],[8,9],[3,10],[9,10],[10,11],[11,12],[11,13],[1,15],[5,15],[7,15],[9,15],[12,15],[14,15],[13,16]]) (oS [m1 97 14] [2,7,8,11,12,97] (cD 97 (oR [mC 4 (.b true)] [4]) .skip))) AeO)) (oP [m1 81 12,bZ 82 .sub 81 1,m1 12 82] [2,7,8,11,12])
def AfK:IC:=oR [m1 115 7,m1 116 15,bT 117 .eql 115 116,m1 118 117,BL 119 118 8,BL 120 118 16,gT 121 118 (.bin .eql (.t 119) (.t 120)),pA 122 118 121,m1 4 122] [4]
def Adx:IC:=sQ (oS [fA 75 2 17,l1 76 75,nL 77 76,bZ 78 .sub 77 1,m1 12 78] [2,7,8,11,12] (.block 0 (.loop (sQ (oS [m1 79 12,bZ 80 .geq 79 0] [2,7,8,11,12,80] (cD 80 .skip (.exit 0))) AdJ)))) (sQ (.wk (oP [lA 109 11 19,fA 110 2 16,l1 111 110,q2 112 10 109 111,m1 108 112,xT 113 108 0,xT 114 108 1,m1 15 113,m1 16 114] [7,8,15,16])) AfK)
def Aer:IC:=oS [fA 61 11 17,o0 (.store (.t 61) (.c .nil) 1)] [2,3,7,8,11] (sQ (sQ (.wk AfQ) (cD 68 (oP [fA 69 11 17,l1 70 69,lA 71 3 5,o1 72 (.msl false 62 5 [.t 71]),o1 73 (.app (.t 70) (.t 72) 62 5),fA 74 11 17,sT 74 73 1] [2,7,8,11]) .skip)) Adx)
def AdH:IC:=oS [lA 60 2 19,o1 11 (.alloc (.agg [.s [],.s [],.s [],.nil,.nil,.s [],.s [],.s [],.s [],.i .i64 0,.i .i64 0,.nil,.nil,.nil,.nil,.nil,.nil,.nil,.b false])),sT 11 60 19] [2,3,7,8,11] Aer
def Af6:IC:=oS [lA 37 2 19,fA 38 2 16,l1 39 38,q2 40 10 37 39,m1 36 40,xT 41 36 0,xT 42 36 1,m1 7 41,m1 8 42] [2,3,5,7,8] (sQ (oS [m1 44 5,fA 45 2 17,l1 46 45,q2 47 20 44 46,m1 43 47,xT 48 43 0,xT 49 43 1,m1 9 48,m1 10 49] [2,3,7,8,10] AdU) AdH)
def AfF:IC:=oS [fA 29 2 16,l1 30 29,q1 31 19 30,m1 28 31,xT 32 28 0,xT 33 28 1,m1 5 32,m1 6 33] [2,3,5,6] (sQ (oS [m1 34 6,bZ 35 .neq 34 0] [2,3,5,35] (cD 35 (oR [mC 4 (.b true)] [4]) .skip)) Af6)
def An1:IC:=sQ (oS [lA 19 2 19,q1 20 9 19,nT 21 20,m1 22 21,gF 23 22 (.load (.t 3) 5 true),gF 24 22 (.msl false 62 5 [.t 23]),gF 25 22 (.call 18 [.t 24]),gF 26 22 (.not (.t 25)),pO 27 22 26] [2,3,27] (cD 27 (oR [mC 4 (.b true)] [4]) .skip)) AfF
def AoV:IC:=oS [bX 2 0,bX 3 1,mC 4 (.b false)] [2,3] (sQ (oS [o1 17 (.call 8 []),nT 18 17] [2,3,18] (cD 18 (oR [mC 4 (.b false)] [4]) .skip)) An1)
@[push_cast]def f7R:List R:=[.t 4]
@[push_cast]def f7e:=Ar AdU.eq_1<|Ar AfQ.eq_1<|Ar AeO.eq_1<|Ar AdJ.eq_1<|Ar AfK.eq_1<|Ar Adx.eq_1<|Ar Aer.eq_1<|Ar AdH.eq_1<|Ar Af6.eq_1<|Ar AfF.eq_1<|Ar An1.eq_1<|AM AoV.eq_1
theorem yD:Au Tryz.prog 7 123 AoV f7R=true:=by kernel_rfl
end Go.Ir

namespace Go.Ir
open Go Go.Proofs Go.RowKit Go.Maps Go.Sort Go.Shelf Go.WideElems
variable(W0:World)
def SV(m:CO):DataW Unit:=.map ((m.map λe=>(Lit.string e.1,DataW.nil)).foldr DataW.insert [])
def I8(m:CO):List Aa:=(strKeys (SV m)).mergeSort (λx y=>decide (x<=y))
theorem zL{m:CO}{e:Aa×Int}(h:e∈m):e.1∈I8 m:=by unfold I8 SV strKeys;rw[AxR];exact Alx.2 ⟨(Lit.string e.1,DataW.nil),mem_sorted.2 (Alx.2 ⟨e,h,rfl⟩),rfl⟩
theorem Pm(m:CO):(I8 m).length=m.length:=by unfold I8 SV strKeys;rw[Axl,Acr,(Go.WideShapes.sorted_perm _).length_eq,Acr]
def Pj:Nat:=84
theorem Ajo(m:CO)(mid:Id):Ex Tryz.prog W0 52 [.arr mid] [(mid,.map (Dn m))] (λn n' v σ'=>∃kid:Id,n<=kid.1/\kid.1<n'/\v=.fn Pj [] [.ref kid 0]/\σ'=[(kid,.box (.arr mid)),(mid,.map (Dn m))]) where
 callable:=by kernel_rfl
 run:=by
  intro n w μ H vals hp b;obtain⟨x,rfl⟩:∃x,vals=[x]:=by
   match vals,b.len with
   | [x],_=>exact⟨x,rfl⟩
  have u:=b.at_ 0 _ _ rfl rfl;obtain⟨o,_⟩:=u.arr_inv;have s:lk [(mid,Ax.map (Dn m))] mid=some (.map (Dn m)):=by simp[lk]
  obtain⟨r,y,i,l,A,B,C⟩:=hp.ents _ _ s;rw[o] at l;cases l;refine AtR ((callsIn_wide (n:=5)).1 (AnyZ.keys_in Tryz.keysA Fence.wide 5 trivial rfl (some r) w)) ?_;rintro e w' ⟨rfl,rfl⟩;have a:μ (n,0)=none:=hp.bd _ (Abm _);have g:=Bj (v:=.pointer (some ⟨w.heap.size,0,none⟩)) a;have d:=(hp.more (AmL n)).new_ (n':=n+1) (R:=λ_=>False) (AL.alloc w (.cells #[.map (some r)] (Tryz.keysA_ren.t 23))) (λ_ h=>h.elim) (σ1:=[(mid,.map (Dn m))]) (λid e h=>⟨h,λ_ _ h=>h⟩) (id:=(n,0)) (e:=.box (.arr mid)) (val:=.pointer (some ⟨w.heap.size,0,none⟩)) a (Ab3 _) (Abm _) (λz q=>by right;simp[BH] at q;omega)
   ⟨w.heap.size,#[.map (some r)],Tryz.keysA_ren.t 23,Aq _ _ _,hp.base.size,by simp[-World.alloc_eq,World.alloc],⟨⟨rfl,λk c v f b=>by
    cases k with
    | zero=>simp[cells] at f b;subst f b;exact .arr _ _ (g _ _ o) rfl
    | succ k=>simp[cells] at f⟩,λv b=>by simp at b;subst b;rfl⟩⟩
  refine⟨_,_,H,n+1,_,_,rfl,⟨(n,0),Abm _,Ab3 _,rfl,rfl⟩,?_,d.1,AmL _,d.2,λid j p=>?_⟩
  ·exact .fn _ [] [.ref (n,0) 0] [] [.pointer (some ⟨w.heap.size,0,none⟩)] rfl rfl (λk c v h=>by cases h) (λk c v f b=>by
    cases k with
    | zero=>simp at f b;subst f b;exact .ref _ _ _ (Aq _ _ _)
    | succ k=>simp at f)
  ·rw[B0 _ _ (by rintro rfl;simp at j)];exact p
theorem Akj(m:Nat):AnyZ.SortsIn Tryz.prog Tryz.sortedA_ren Fence.wide m:=
 ⟨λBH d a f W e b c=>callsIn_wide.2 (AnyM.slices_Sort_string Tryz.sortA BH d a f W e b c),λp a W=>callsIn_wide.2 (AnyM.slices_Sort_string_none Tryz.sortA p a W)⟩
def zB:Value->Option (DataW Unit×List MemPlace):=λ_=>some (.nil,[])
theorem Yp{l:Aa}(b:l.length<=2^40):keyOf Tryz.prog 9 (.string ⟨l.toArray⟩)=some (.string l):=by
 have h:(Tryz.prog).underlying 9=some .string:=by kernel_rfl
 unfold keyOf;rw[h];simp only;unfold mapKey;rw[h];simp only;have a:l.length<=maxLen:=All b (by decide);rw[if_pos (by simpa[ByteArray.size] using a)]
theorem vE{μ:Id->Option Value}{H:Addr->Option Value}{w:World}{m:CO}{r g:Nat}{c:Array MapEntry}(A:(m.map Prod.fst).Nodup)(q:m.length<=2^30)(B:∀e∈m,e.1.length<=2^40)(D:w.heap[r]?=some (.map c g))(o:ZO μ H (Dn m) c.toList g) :
  w.ownsMap Tryz.prog 9 zB r m.length (SV m):=by
 have z:c.toList.length=m.length:=by rw[<-o.len];simp[Dn]
 have j:∀(k:Nat) (x:MapEntry),c.toList[k]?=some x->∃e,m[k]?=some e/\x.key=.string ⟨e.1.toArray⟩/\x.born=k:=by
  intro k x d;have p:k<m.length:=by rw[<-z];exact(Alp.1 d).1
  refine⟨m[k],Ai0 p,?_,o.born k x d⟩;have v:(Dn m)[k]?=some (.s (m[k]).1,.i .i64 (m[k]).2):=by simp[Dn,Ai0 p]
  exact(BB (o.at_ k _ _ v d).1).1
 have t:c.toList.map (rg Tryz.prog 9 zB)=m.map λe=>(Lit.string e.1,DataW.nil):=by
  apply Avb;intro k;rw[Aru,Aru];cases d:c.toList[k]? with
  | none=>
   have:m[k]?=none:=by rw[Axw] at d⊢;omega
   rw[this];rfl
  | some x=>obtain⟨e,l,f,_⟩:=j k x d;rw[l];simp only[AvI,AkA];refine rg_of ?_;unfold WideElems.rd zB;rw[f,Yp (B e (Aln l))];rfl
 refine⟨c,g,D,⟨?_,⟨?_,?_,?_⟩,?_⟩,?_,?_⟩
 ·have:c.size=m.length:=by simpa using z
  rw[this];exact All q (by decide)
 ·intro x d;obtain⟨k,h⟩:=AsY.1 d;have:=o.born k x h;have u:=(Alp.1 h).1;rw[o.now];omega
 ·have:c.toList.map (·.born)=List.range c.toList.length:=by
   apply Avb;intro k;rw[Aru];cases d:c.toList[k]? with
   | none=>rw[Axw] at d;rw[Ax6 (by simpa using d)];rfl
   | some x=>have u:=(Alp.1 d).1;rw[List.getElem?_range u];simp only[AvI,o.born k x d]
  rw[this];exact List.nodup_range
 ·have:c.toList.map (·.key)=m.map λe=>Value.string ⟨e.1.toArray⟩:=by
   apply Avb;intro k;rw[Aru,Aru];cases d:c.toList[k]? with
   | none=>
    have:m[k]?=none:=by rw[Axw] at d⊢;omega
    rw[this];rfl
   | some x=>obtain⟨e,l,f,_⟩:=j k x d;rw[l];simp[f]
  rw[this,show(λe:Aa×Int=>Value.string ⟨e.1.toArray⟩)=(λs:Aa=>Value.string ⟨s.toArray⟩) ∘ Prod.fst from rfl,<-Ax0];refine List.Pairwise.map _ (λa b y C=>y ?_) A;injection C with v;have u:=congrArg (λb:ByteArray=>b.data.toList) v;simpa using u
 ·intro x d;obtain⟨k,h⟩:=AsY.1 d;obtain⟨e,l,f,_⟩:=j k x h;refine⟨(Lit.string e.1,DataW.nil),?_⟩;unfold WideElems.rd zB;rw[f,Yp (B e (Aln l))];rfl
 ·have:c.size=m.length:=by simpa using z
  omega
 ·rw[t];rfl
theorem VR{m:CO}{x:Aa}(h:x∈I8 m):∃e∈m,e.1=x:=by unfold I8 SV strKeys at h;rw[AxR] at h;obtain⟨p,hp,rfl⟩:=Alx.1 h;obtain⟨e,a,rfl⟩:=Alx.1 (mem_sorted.1 hp);exact⟨e,a,rfl⟩
theorem AjJ(l:List Aa):AF (l.map V.s)=l.map V.s:=by
 induction l with
 | nil=>rfl
 | cons x l a=>simpa[AF,cells] using a
theorem z8{μ:Id->Option Value}{H:Addr->Option Value}{m:CO}(g:∀e∈m,e.1.length<=2^40):AI μ H (AF ((I8 m).map V.s)) ((I8 m).map encStr):=by
 rw[AjJ];refine⟨⟨by simp,λk c v b a=>?_⟩,λv a=>?_⟩
 ·rw[Aru] at b a;obtain⟨x,d,rfl⟩:=AdW.1 b;rw[d] at a;cases a;obtain⟨e,f,rfl⟩:=VR (Aln d);exact .s _ (by have:=g e f;simp only[AA];omega)
 ·obtain⟨x,_,rfl⟩:=Alx.1 a;rfl
theorem lJ(m:CO)(N:(m.map Prod.fst).Nodup)(j:m.length<=2^30)(C:∀e∈m,e.1.length<=2^40)(kid mid:Id)(O:kid≠mid) :
  Jh Tryz.prog W0 51 [.fn Pj [] [.ref kid 0]] [(kid,.box (.arr mid)),(mid,.map (Dn m))] (.arr 9 1 ((I8 m).map V.s)) [(kid,.box (.arr mid)),(mid,.map (Dn m))] where
 callable:=by kernel_rfl
 dom:=λ_ h=>h
 run:=by
  intro n w μ H vals hp hv;obtain⟨x,rfl⟩:∃x,vals=[x]:=by
   match vals,hv.len with
   | [x],_=>exact⟨x,rfl⟩
  have hx:=hv.at_ 0 _ _ rfl rfl;have L:lk [(kid,Ax.box (.arr mid)),(mid,Ax.map (Dn m))] kid=some (.box (.arr mid)):=by simp[lk]
  have M:lk [(kid,Ax.box (.arr mid)),(mid,Ax.map (Dn m))] mid=some (.map (Dn m)):=by simp[lk,O]
  obtain⟨q,E,ct,k1,k2,k3,k4⟩:=hp.ents _ _ L;obtain⟨r,am,D,B,X,Y,G⟩:=hp.ents _ _ M;obtain⟨y,rfl,S⟩:∃y,x=.func (.func Pj) #[] #[y]/\Ap μ H (.ref kid 0) y:=by
   cases hx with
   | fn _ _ _ bs fs B X Y G=>
    match bs,fs,B,X with
    | [],[y],_,_=>exact⟨y,rfl,G 0 _ _ rfl rfl⟩
  obtain⟨ad,I,rfl⟩:=S.ref_inv;rw[I] at k1;cases k1;obtain⟨Z,d⟩:μ mid=some (.map (some r))/\True:=⟨B,trivial⟩;have o:w.cell? ⟨q,0,none⟩=some (.map (some r)):=by have F:=k4.get (k:=0) (c:=.arr mid) rfl;obtain⟨z,hz,U⟩:=F;have:=U.arr_inv.1;rw[B] at this;cases this;simp[World.cell?,k3];simpa using hz
  have J:q<w.heap.size:=(ApJ.1 k3).1;have t:=vE N j C Y G;have u:=AnyZ.keys_gives (ρ:=Tryz.keysA_ren) { Tryz.keysA with } Fence.wide 2 trivial rfl (by omega) q r m.length (SV m) w J o t;have hN:Maps.size (SV m)<=2^30:=by unfold SV;rw[Maps.size_eq,(Go.WideShapes.sorted_perm _).length_eq,Acr];exact j
  have cS:=AnyZ.sorted_in Tryz.sortedA Fence.wide 5 trivial trivial trivial trivial rfl (by omega) (Akj _) (enters_of Tryz.func83 (by kernel_rfl) rfl) Pj #[.pointer (some ⟨q,0,none⟩)] trivial (enters_of Tryz.func84 (by kernel_rfl) rfl) _ _ (All hN (by decide)) (by omega) _ u;refine AtR ((callsIn_wide (n:=5)).1 cS) ?_;rintro e w' ⟨v,ss,rfl,hS,f,aa,i⟩;have a:μ (n,0)=none:=hp.bd _ (Abm _);have A:ss.mergeSort (λx y=>decide (x<=y))=I8 m:=mergeSort_of_perm hS;have p:ss.length=(I8 m).length:=by rw[<-A,Axl]
  rw[A,p] at f;have b:=f.2;have d:v.oneCell'=true:=by rcases b with⟨rfl,_⟩|⟨g,cap,cur,rfl,_⟩<;>rfl
  have l:=(hp.more (AmL n)).new_ (n':=n+1) (R:=λ_=>False) (w':=w') ⟨i.os,i.tape,i.output,i.size,λk C _=>i.block k C⟩ (λ_ h=>h.elim) (σ1:=[(kid,.box (.arr mid)),(mid,.map (Dn m))]) (λid e h=>⟨h,λ_ _ h=>h⟩) (id:=(n,0)) (e:=.arr 9 1 ((I8 m).map V.s)) (val:=v) a (Ab3 _) (Abm _) (λq i=>by
    right;rcases b with⟨rfl,_⟩|⟨g,cap,cur,rfl,hg,_⟩
    ·simp[BH] at i
    ·simp[BH] at i;omega)
   ⟨v,(I8 m).map encStr,Aq _ _ _,d,by rw[Acr];exact ownsRow_base_a f hp.base.size,by rw[Acr,Pm];unfold AK;omega,by intro y S;obtain⟨x,_,rfl⟩:=Alx.1 S;rfl,z8 C⟩
  refine⟨v,_,H,n+1,(n,0),rfl,Aq _ _ _,d,a,by cases hq:lk [(kid,Ax.box (V.arr mid)),(mid,Ax.map (Dn m))] (n,0) with|none=>rfl|some e=>exact absurd (hp.ents _ _ hq).named (by rw[a];rintro⟨_,h⟩;cases h),l.1,AmL _,l.2,λid K F=>?_⟩;rw[B0 _ _ (by rintro rfl;simp at K)];exact F
end Go.Ir

namespace Go.Ir
open Go.Proofs
variable(W0:World)
def FG(m:CO):CO:=(I8 m).map λn=>(n,(Bl m n).getD 0)
set_option maxHeartbeats 4000000 in
theorem Ah0(t:CO×Bool)(tid mid:Id)(I:tid≠mid)(ae:(t.1.map Prod.fst).Nodup)(M:t.1.length<=2^28)(hk:∀e∈t.1,e.1.length<=2^40) :
  An Tryz.prog W0 37 [.ref tid 0] (B9 tid mid t) (.sl ((FG t.1).map JE)) []:=by
 have k:(tid=mid)=False:=eq_false I;have l:(mid=tid)=False:=eq_false (AhZ I);refine Ah (vs:=[.sl ((FG t.1).map JE)]) AqM (by simp) (by simp[lk]) λn0 G=>?_;have aB:tid.1<n0:=G tid (.box (.agg [.arr mid,.b t.2])) (by simp[B9,lk]);have aC:mid.1<n0:=G mid (.map (Dn t.1)) (by simp[B9,lk,I]);clear G;unfold B9;simp only[push_cast,seval,reduceEqDiff,k,l];intro k1 k2 k3;refine AW (Ajo W0 t.1 mid) (λi e h=>by
  simp only[lk] at h⊢;split at h
  ·rename_i p;subst p;cases h;simp[k]
  ·cases h) (λD v σo aD hR=>?_)
 obtain⟨kid,az,aA,rfl,rfl⟩:=hR;have K:kid≠tid:=by rintro rfl;omega
 have C:kid≠mid:=by rintro rfl;omega
 have A:over [(mid,Ax.map (Dn t.1))] [(kid,Ax.box (.arr mid)),(mid,Ax.map (Dn t.1))] [(tid,Ax.box (.agg [.arr mid,.b t.2])),(mid,Ax.map (Dn t.1))]=[(kid,Ax.box (.arr mid)),(mid,Ax.map (Dn t.1)),(tid,Ax.box (.agg [.arr mid,.b t.2]))]:=by simp[over,lk,k,l]
 rw[A];clear A;simp only[push_cast,seval,reduceEqDiff,k,l];refine LE (lJ W0 t.1 ae (by omega) hk kid mid C) (λi e h=>?_) ?_
 ·exact AP (σ:=[_,_]) (τ:=[_]) h
 have A:over [(kid,Ax.box (.arr mid)),(mid,Ax.map (Dn t.1))] [(kid,Ax.box (.arr mid)),(mid,Ax.map (Dn t.1))] [(kid,Ax.box (.arr mid)),(mid,Ax.map (Dn t.1)),(tid,Ax.box (.agg [.arr mid,.b t.2]))]=[(kid,Ax.box (.arr mid)),(mid,Ax.map (Dn t.1)),(tid,Ax.box (.agg [.arr mid,.b t.2]))]:=by simp[over,lk,C,K,k,l,AhZ C]
 rw[A];clear A;simp only[push_cast,seval,reduceEqDiff,k,l];intro k4;generalize hL:I8 t.1=L;have av:L.length<=2^28:=by rw[<-hL,Pm];exact M
 have hA:FG t.1=L.map λn=>(n,(Bl t.1 n).getD 0):=by unfold FG;rw[hL]
 rw[hA];clear hA;obtain⟨g,hg⟩:∃g:Aa->V,g=λn=>JE (n,(Bl t.1 n).getD 0):=⟨_,rfl⟩
 have O:(L.map λn=>(n,(Bl t.1 n).getD 0)).map JE=L.map g:=by rw[hg,Ax0];rfl
 rw[O];clear O;generalize R:((D,11):Id)=c;refine Am L.length (Inv:=λm st=>∃done a n j,L=done++a/\m=a.length/\(j=none->done=[])/\D+1<=n/\(∀o,j=some o->D+1<=o.1/\o.1<n)/\st=⟨[(0,.ref tid 0),(3,sv j),(11,.arr c),(12,.i .i64 L.length),(13,.i .i64 done.length)],(match j with|none=>[]|some o=>[(o,.arr 86 2 (done.map g))])++[(c,Ax.arr 9 1 (L.map V.s)),(kid,Ax.box (.arr mid)),(mid,Ax.map (Dn t.1)),(tid,Ax.box (.agg [.arr mid,.b t.2]))],n⟩) ⟨_,Ak.refl,[],L,D+1+k4,none,rfl,rfl,(λ_=>rfl),(by omega),(λo (h:none=some o)=>by cases h),rfl⟩ ?_;rintro m _ ⟨done,a,n,j,U,rfl,N,hn,af,rfl⟩;have aG:c.1=D:=by rw[<-R]
 have Y:(c=tid)=False:=eq_false (by rintro rfl;omega);have Z:(c=mid)=False:=eq_false (by rintro rfl;omega);have e3:(kid=tid)=False:=eq_false K;have e4:(kid=mid)=False:=eq_false C;cases a with
 | nil=>
  have ac:L=done:=by rw[U];simp
  subst ac;cases j with
  | none=>have:=N rfl;subst this;simp only[push_cast,seval,reduceEqDiff,k,l];intros;exact S0 rfl
  | some o=>simp only[push_cast,seval,reduceEqDiff,k,l];intros;refine Mu (id:=o) (e:=86) (sz:=2) rfl (λy hy=>?_) (by simp[lk]);obtain⟨z,_,rfl⟩:=Alx.1 hy;rw[hg];rfl
 | cons x a=>
  have ax:=AH U;have r:(L.map V.s)[done.length]?=some (.s x):=by rw[U];simp
  have F:decide ((done.length:Int)<(L.length:Int))=true:=by simp;omega
  have u:done.length<L.length:=by omega
  have S:=Ad x (done:=done) (by omega);have f:g x=.agg [.s x,.i .i64 ((Bl t.1 x).getD 0)]:=by rw[hg];rfl
  cases j with
  | none=>
   have:=N rfl;subst this;have g1:decide ((0:Int)<(L.length:Int))=true:=by simpa using F
   have g2:(L.map V.s)[0]?=some (.s x):=by simpa using r
   have g3:0<L.length:=by simpa using u
   have g4:IntKind.i64.wrap (0+1)=1:=rfl;have J:(1<=AK)=True:=eq_true (by decide);have s1:sv none=.nil:=rfl;have d:∀(v:Int) (n':Nat) (o:Id),n<=o.1->o.1<n'->g x=.agg [.s x,.i .i64 v]->∃X B,X<a.length+1/\Ak W0 30 ⟨[(0,.ref tid 0),(3,.arr o),(11,.arr c),(12,.i .i64 L.length),(13,.i .i64 1)],[(o,.arr 86 2 [.agg [.s x,.i .i64 v]]),(c,Ax.arr 9 1 (L.map V.s)),(kid,Ax.box (.arr mid)),(mid,Ax.map (Dn t.1)),(tid,Ax.box (.agg [.arr mid,.b t.2]))],n'⟩ B/\(∃done a n j,L=done++a/\X=a.length/\(j=none->done=[])/\D+1<=n/\(∀o,j=some o->D+1<=o.1/\o.1<n)/\B=⟨[(0,.ref tid 0),(3,sv j),(11,.arr c),(12,.i .i64 L.length),(13,.i .i64 done.length)],(match j with|none=>[]|some o=>[(o,.arr 86 2 (done.map g))])++[(c,Ax.arr 9 1 (L.map V.s)),(kid,Ax.box (.arr mid)),(mid,Ax.map (Dn t.1)),(tid,Ax.box (.agg [.arr mid,.b t.2]))],n⟩):=by
    intro v n' o p q E;refine⟨_,_,Ab3 _,Ak.refl,[x],a,n',some o,by simpa using U,rfl,by simp,by omega,λo' h=>?_,?_⟩
    ·cases h;omega
    ·simp[sv,E]
   rcases HK x t.1 0 with⟨i,v,p,q,h3⟩|⟨p,q,h3⟩
   ·simp only[Awg] at q;rw[p] at f;simp only[push_cast,seval,reduceEqDiff,k,l,Y,Z,e3,e4,q,g2,g1,g3,g4,J,Acr,s1];intros;exact d _ _ _ (by simp only;omega) (by simp only;omega) f
   ·rw[p] at f;simp only[push_cast,seval,reduceEqDiff,k,l,Y,Z,e3,e4,q,g2,g1,g3,g4,J,Acr,s1];intros;exact d _ _ _ (by simp only;omega) (by simp only;omega) f
  | some o=>
   obtain⟨aE,aF⟩:=af o rfl;have s2:sv (some o)=.arr o:=rfl;have q1:(o=tid)=False:=eq_false (by rintro rfl;omega);have q2:(o=mid)=False:=eq_false (by rintro rfl;omega);have q3:(o=c)=False:=eq_false (by rintro rfl;omega);have q4:(o=kid)=False:=eq_false (by rintro rfl;omega);have p1:(tid=o)=False:=eq_false (by rintro rfl;omega);have p2:(mid=o)=False:=eq_false (by rintro rfl;omega);have p3:(c=o)=False:=eq_false (by rintro rfl;omega);have p4:(kid=o)=False:=eq_false (by rintro rfl;omega);have J:(done.length+1<=AK)=True:=eq_true (by simp only[AK];omega);have d:∀(v:Int) (n':Nat) (o:Id),n<=o.1->o.1<n'->g x=.agg [.s x,.i .i64 v]->∃X B,X<a.length+1/\Ak W0 30 ⟨[(0,.ref tid 0),(3,.arr o),(11,.arr c),(12,.i .i64 L.length),(13,.i .i64 (done++[x]).length)],[(o,.arr 86 2 (done.map g++[.agg [.s x,.i .i64 v]])),(c,Ax.arr 9 1 (L.map V.s)),(kid,Ax.box (.arr mid)),(mid,Ax.map (Dn t.1)),(tid,Ax.box (.agg [.arr mid,.b t.2]))],n'⟩ B/\(∃done a n j,L=done++a/\X=a.length/\(j=none->done=[])/\D+1<=n/\(∀o,j=some o->D+1<=o.1/\o.1<n)/\B=⟨[(0,.ref tid 0),(3,sv j),(11,.arr c),(12,.i .i64 L.length),(13,.i .i64 done.length)],(match j with|none=>[]|some o=>[(o,.arr 86 2 (done.map g))])++[(c,Ax.arr 9 1 (L.map V.s)),(kid,Ax.box (.arr mid)),(mid,Ax.map (Dn t.1)),(tid,Ax.box (.agg [.arr mid,.b t.2]))],n⟩):=by
    intro v n' o p q E;refine⟨_,_,Ab3 _,Ak.refl,done++[x],a,n',some o,by simpa using U,rfl,by simp,by omega,λo' h=>?_,?_⟩
    ·cases h;omega
    ·simp[sv,E]
   rcases HK x t.1 0 with⟨i,v,p,q,h3⟩|⟨p,q,h3⟩
   ·simp only[Awg] at q;rw[p] at f;simp only[push_cast,seval,reduceEqDiff,k,l,Y,Z,e3,e4,q1,q2,q3,q4,p1,p2,p3,p4,q,r,F,u,S,J,Acr,s2];intros;exact d _ _ _ (by simp only;omega) (by simp only;omega) f
   ·rw[p] at f;simp only[push_cast,seval,reduceEqDiff,k,l,Y,Z,e3,e4,q1,q2,q3,q4,p1,p2,p3,p4,q,r,F,u,S,J,Acr,s2];intros;exact d _ _ _ (by simp only;omega) (by simp only;omega) f
theorem rC(m:CO)(n:Aa)(k:Int):(Gw m n k).map Prod.fst=if n∈m.map Prod.fst then m.map Prod.fst else m.map Prod.fst++[n]:=by
 induction m with
 | nil=>rfl
 | cons e m d=>
  rw[Gw];by_cases h:e.1=n
  ·have b:(e.1==n)=true:=by simpa using h
   rw[b,if_pos rfl,if_pos (by simp[h])];simp[Alh]
  ·have b:(e.1==n)=false:=by simpa using h
   rw[b,if_neg (by simp),Alh,d,Alh];by_cases a:n∈m.map Prod.fst
   ·rw[if_pos a,if_pos (AaC _ a)]
   ·rw[if_neg a,if_neg (by simp only[AqN,not_or];exact⟨λc=>h c.symm,a⟩)];rfl
theorem rA(t:CO×Bool)(u:Aa×Int):∃k,(Cj t u).1=Gw t.1 u.1 k:=by
 unfold Cj;split
 ·exact⟨_,rfl⟩
 ·exact⟨_,rfl⟩
theorem YI(us:List (Aa×Int)):∀t:CO×Bool,(t.1.map Prod.fst).Nodup->((us.foldl Cj t).1.map Prod.fst).Nodup/\(us.foldl Cj t).1.length<=t.1.length+us.length/\∀n∈(us.foldl Cj t).1.map Prod.fst,n∈t.1.map Prod.fst\/∃u∈us,u.1=n:=by
 induction us with
 | nil=>intro t h;exact⟨h,Abm _,λn d=>.inl d⟩
 | cons u us p=>
  intro t h;obtain⟨k,m⟩:=rA t u;have hp:=rC t.1 u.1 k;rw[<-m] at hp;have f:(Cj t u).1.length<=t.1.length+1:=by
   have:=congrArg List.length hp;rw[Acr] at this;rw[this];split
   ·simp
   ·simp
  obtain⟨g,q,i⟩:=p (Cj t u) (by
   rw[hp];split
   ·exact h
   ·rename_i d;rw[AxT];refine⟨h,by simp,λa j b e l=>d ?_⟩;simp only[ArF] at e;rw[<-e,<-l];exact j)
  refine⟨g,by rw[Ah5];simp only[Awx];omega,λn d=>?_⟩;rcases i n d with c|⟨v,o,rfl⟩
  ·rw[hp] at c;split at c
   ·exact .inl c
   ·rcases Ajn.1 c with c|c
    ·exact .inl c
    ·simp only[ArF] at c;exact .inr ⟨u,by simp,c.symm⟩
  ·exact .inr ⟨v,by simp[o],rfl⟩
theorem AbF(ps:List Aj):(By ps).length<=AU ps/\∀u∈By ps,u.1.length<=AU ps:=by
 refine FJ (P:=λp=>p.uses.length<=p.wt/\∀u∈p.uses,u.1.length<=p.wt) (Q:=λps=>(By ps).length<=AU ps/\∀u∈By ps,u.1.length<=AU ps)
  (R:=λcs=>(CM cs).length<=DG cs/\∀u∈CM cs,u.1.length<=DG cs) ?_ ?_ ?_ ?_ ?_ ps
 ·intro p d b;rw[p.uses_eq,p.wt_eq];refine⟨?_,λu a=>?_⟩
  ·have:(if Df p.kind=true then[(p.name,FSz p.kind)] else[]).length<=1:=by split<;>simp
   simp only[Agz];have e:=d.1;have f:=b.1;omega
  ·simp only[Ajn] at a;rcases a with a|a|a
   ·split at a
    ·simp only[ArF] at a;subst a;simp only;omega
    ·cases a
   ·have:=d.2 u a;omega
   ·have:=b.2 u a;omega
 ·simp[Up]
 ·intro p ps hp b;rw[Ht,Bk];refine⟨by rw[Agz];have e:=hp.1;have f:=b.1;omega,λu a=>?_⟩;rcases Ajn.1 a with a|a
  ·have:=hp.2 u a;omega
  ·have:=b.2 u a;omega
 ·simp[T0]
 ·intro c cs b d;rw[Hs,B6];refine⟨by rw[Agz];have e:=b.1;have f:=d.1;omega,λu a=>?_⟩;rcases Ajn.1 a with a|a
  ·have:=b.2 u a;omega
  ·have:=d.2 u a;omega
theorem kG(ps:List Aj):((EK ps).1.map Prod.fst).Nodup/\(EK ps).1.length<=AU ps/\∀e∈(EK ps).1,e.1.length<=AU ps:=by
 obtain⟨b,c,d⟩:=YI (By ps) ([],false) (by simp);obtain⟨j,f⟩:=AbF ps;refine⟨b,by simp only[Alo] at c;unfold EK;omega,λe g=>?_⟩;rcases d e.1 (Alx.2 ⟨e,g,rfl⟩) with h|⟨u,i,a⟩
 ·simp at h
 ·rw[<-a];exact f u i
theorem Ac1{m:CO}{n:Aa}{x:Int}(h:Bl m n=some x):∃e∈m,e.1=n:=by
 induction m with
 | nil=>cases h
 | cons e m d=>
  rw[Bl] at h;split at h
  ·rename_i c;exact⟨e,by simp,by simpa using c⟩
  ·obtain⟨e',a,b⟩:=d h;exact⟨e',by simp[a],b⟩
theorem Acy{m:CO}{n:Aa}{x:Int}(h:Bl m n=some x):(n,x)∈FG m:=by obtain⟨e,a,rfl⟩:=Ac1 h;exact Alx.2 ⟨e.1,zL a,by rw[h];rfl⟩
theorem AaT{m:CO}{B:Nat}(h:∀e∈m,e.1.length<=B):(FG m).length=m.length/\∀a∈FG m,a.1.length<=B:=by refine⟨by unfold FG;rw[Acr,Pm],λa b=>?_⟩;obtain⟨x,d,rfl⟩:=Alx.1 b;obtain⟨e,c,rfl⟩:=VR d;exact h e c
def CL(ps:List Aj):CO×Int:=if !Da ps then([],1) else if(EK ps).2 then([],11) else(FG (EK ps).1,0)
theorem Mg{W0:World}{nt n:Nat}{env:AE}{σ:Al}{e:V}(b:get env 2=.nil)(c:get env 3=e):Sb W0 nt [.t 2,.t 3] [.sl [],e] [] .ret ⟨env,σ,n⟩:=by
 refine⟨⟨[(2,.sl []),(3,e)],[],n⟩,Ak.weak (λ_=>none) (λ_ _ h=>by cases h) (λt=>?_) (λi e' h=>by cases h) (Abm _),⟨by simp[Nf,get],by simp[Nf,get],trivial⟩,λ_ _ h=>by cases h⟩;by_cases h:2=t
 ·subst h;rw[b];simp only[get,if_true];exact .nil
 ·by_cases a:3=t
  ·subst a;rw[c];simp only[get];simp;exact .refl _
  ·simp only[get,if_neg h,if_neg a];exact .any _
set_option maxHeartbeats 4000000 in
theorem AaV(ps:List Aj)(v:AU ps<=2^24):An Tryz.prog W0 19 [.sl (ps.map Aj.enc)] [] (.tup [.sl ((CL ps).1.map JE),.i .i64 (CL ps).2]) []:=by
 have k:=Wr W0 ps v;obtain⟨r,u,s⟩:=kG ps;unfold CL;refine Ah (vs:=[.sl _,.i .i64 _]) Apu (by simp) (by simp) λn0 p=>?_;clear p;cases j:Da ps with
 | false=>
  rw[j] at k;simp only[bq,if_true,if_false,Int.reduceBEq,reduceCtorEq,Av9];simp only[push_cast,seval,reduceEqDiff]
  repeat' (first|(((first|apply Ab|apply Ag|apply Af)<;>intro _h)<;>simp only[push_cast,seval,reduceEqDiff,_h])|(refine Ac (by exact k) ?_;simp only[push_cast,seval,reduceEqDiff])|intro _)
  all_goals (intros;exact Mg rfl rfl)
 | true=>
  rw[j] at k;simp only[bq,if_true,if_false,Int.reduceBEq,reduceCtorEq,Av6];simp only[push_cast,seval,reduceEqDiff]
  repeat' (first|(((first|apply Ab|apply Ag|apply Af)<;>intro _h)<;>simp only[push_cast,seval,reduceEqDiff,_h])|(refine Ac (by exact k) ?_;simp only[push_cast,seval,reduceEqDiff])|intro _)
  rename_i k2 k1 y;obtain⟨tid,d⟩:∃tid:Id,tid=(n0+1+k2+1+k1,10):=⟨_,rfl⟩
  obtain⟨mid,c⟩:∃mid:Id,mid=(n0+1+k2+1+k1,8):=⟨_,rfl⟩;have a:tid≠mid:=by rw[d,c];simp
  rw[<-d,<-c];have q:=AbT W0 _ ps tid mid ([],false) (Ab3 _) (by omega) a;refine Bq q (λi e h=>h) ?_;have g:over (B9 tid mid ([],false)) (B9 tid mid ((By ps).foldl Cj ([],false))) [(tid,Ax.box (V.agg [V.arr mid,V.b false])),(mid,Ax.map [])]=B9 tid mid ((By ps).foldl Cj ([],false)):=by have:=M8 (tid:=tid) (mid:=mid) (t:=([],false)) (t':=(By ps).foldl Cj ([],false)) (pre:=[]) (post:=[]) (by simp);simp only[AqW,Ary] at this;exact this
  rw[g];clear g;rw[show(By ps).foldl Cj ([],false)=EK ps from rfl];have f:=Ah0 W0 (EK ps) tid mid a r (by omega) (λe x=>by have:=s e x;omega);have l:(tid=mid)=False:=eq_false a;have o:(mid=tid)=False:=eq_false (AhZ a);generalize EK ps=T at *;obtain⟨m,w⟩:=T;simp only at f r u s;unfold B9 at *;cases w with
  | true=>simp only[push_cast,seval,reduceEqDiff,l,o];intros;exact Mg rfl rfl
  | false=>simp only[push_cast,seval,reduceEqDiff,l,o];intros;refine Bq f (λi e h=>h) ?_;simp only[push_cast,seval,reduceEqDiff,l,o];intros;refine Ae ?_;simp[push_cast,get]

theorem Ak.ownBox{W0:World}{nt n:Nat}{env:AE}{τ:Al}{rid:Id}{A B:List V}(e sz k:Nat):Ak W0 nt ⟨env,(rid,.box (.agg (A++.nil::B)))::τ,n⟩ ⟨env,((n,k),.arr e sz [])::(rid,.box (.agg (A++.arr (n,k)::B)))::τ,n+1⟩:=by
 intro Y a w y;obtain⟨μ,H,I,hp,O,s,m,z⟩:=y;have b:μ (n,k)=none:=hp.bd _ (Abm _);have i:=Bj (v:=.slice none 0 0) b;have C:lk ((rid,Ax.box (.agg (A++.nil::B)))::τ) rid=some (.box (.agg (A++.nil::B))):=by simp[lk]
 have r:((n,k):Id)≠rid:=by rintro rfl;obtain⟨_,G⟩:=(hp.ents _ _ C).named;rw[b] at G;cases G
 have d:=(hp.more (AmL n)).new_ (n':=n+1) (w':=w) (R:=λ_=>False) ⟨rfl,rfl,rfl,Abm _,λ_ _ _=>rfl⟩ (λ_ h=>h.elim) (σ1:=(rid,.box (.agg (A++.nil::B)))::τ) (λid e h=>⟨h,λ_ _ h=>h⟩) (id:=(n,k)) (e:=.arr e sz []) (val:=.slice none 0 0) b (Ab3 _) (Abm _) (λE N=>by simp[BH] at N)
  ⟨.slice none 0 0,[],Aq _ _ _,rfl,AwK w _ e sz,Alq _,(λx U=>by cases U),AI.nil_⟩
 have p:lk (((n,k),Ax.arr e sz [])::(rid,.box (.agg (A++.nil::B)))::τ) rid=some (.box (.agg (A++.nil::B))):=by simp[lk,r]
 have f:=d.1.set_ p (w':=w) (e:=.box (.agg (A++.arr (n,k)::B))) ⟨rfl,rfl,rfl,Abm _,λ_ _ _=>rfl⟩ (by
  obtain⟨E,vals,t,K,L,M,l⟩:=d.1.ents _ _ p;refine⟨E,vals,t,K,L,M,⟨⟨by have:=l.len;simpa[cells] using this,λj c v g D=>?_⟩,l.one⟩⟩;simp only[cells] at g;by_cases F:j<A.length
  ·rw[At0 F] at g;exact l.at_ j c v (by simp only[cells];rw[At0 F];exact g) D
  ·rw[Arf (by omega)] at g;cases u:j-A.length with
   | zero=>rw[u] at g;simp only[Awq,AkA] at g;subst g;have:=l.at_ j .nil v (by simp only[cells];rw[Arf (by omega),u];rfl) D;rw[this.nil_inv];exact .arr _ _ (Aq _ _ _) rfl
   | succ q=>rw[u] at g;simp only[Avm] at g;exact l.at_ j c v (by simp only[cells];rw[Arf (by omega),u];exact g) D)
 have S:upd (((n,k),Ax.arr e sz [])::(rid,.box (.agg (A++.nil::B)))::τ) rid (.box (.agg (A++.arr (n,k)::B)))=((n,k),.arr e sz [])::(rid,.box (.agg (A++.arr (n,k)::B)))::τ:=by simp[upd,r]
 rw[S] at f;refine⟨_,H,⟨I.size,λX=>(I.at_ X).mono i (λ_ _ h=>h)⟩,f.1,O.trans (d.2.trans f.2),λid o J=>?_,All m (AmL _),z⟩;simp only at m;rw[B0 _ _ (by rintro rfl;simp at o;omega)];exact s id o J
theorem Z3(ps:List Aj)(n:Aa):(Bu ps []).contains n=(CB ps).contains n:=by
 have h:=(MZ ps []).1 n;have a:n∈Bu ps []↔n∈CB ps:=by rw[h];simp
 rw[Atk,List.contains_iff_mem,List.contains_iff_mem];exact a
set_option maxHeartbeats 800000 in
theorem PJ(hM:B8 W0)(hT:BV W0)(L:BO)(ps:List Aj)(vs:List AY)(d:Bool)(more:AY)(hp:-9223372036854775808<=L.prim)(hs:L.sec<9223372036854775808)(h1:N8 L<=2^40)(K:A9 L.card+A9 L.ord<=2^24)(h3:AU ps<=2^20)(h4:vs.length<=2^40)(h5:∀v∈vs,v.list.length<=2^40)(h6:more.list.length<=2^40) :
  An Tryz.prog W0 7 [NZ L ps vs d,more.enc] [] (.b true) []:=by
 have ae:=mT W0 hM hT;have r:=cB W0 L ps vs d h1 K (by omega) h4 h5;have J:=OL W0 [more] (by simp) (λv D=>by rw[ArF] at D;subst D;exact h6);simp only[Alh,Alw] at J;rw[AY.enc_eq] at J;cases hF:(H9 L&&Jq ps&&Ct (decide ((vs.length:Int)<=30)) vs) with
 | false=>
  rw[hF] at r;rw[Gd,AY.enc_eq] at *;refine Ah (vs:=[.b true]) yD (by simp) (by simp) λn0 N=>?_;clear N;simp only[push_cast,seval,reduceEqDiff]
  repeat' (first|(((first|apply Ab|apply Ag|apply Af)<;>intro _h)<;>simp only[push_cast,seval,reduceEqDiff,_h])|((first|refine Ac (by exact ae) ?_|refine Ac (by exact r) ?_);simp only[push_cast,seval,reduceEqDiff])|intro _)
  exact Ai (by simp[get])
 | true=>
 rw[hF] at r;rw[Aan,Aan] at hF;cases hG:Ct (decide ((([more]:List AY).length:Int)<=30)) [more] with
 | false=>
  rw[hG] at J;rw[Gd,AY.enc_eq] at *;refine Ah (vs:=[.b true]) yD (by simp) (by simp) λn0 N=>?_;clear N;simp only[push_cast,seval,reduceEqDiff]
  repeat' (first|(((first|apply Ab|apply Ag|apply Af)<;>intro _h)<;>simp only[push_cast,seval,reduceEqDiff,_h])|((first|refine Ac (by exact ae) ?_|refine Ac (by exact r) ?_|refine Ac (by exact J) ?_);simp only[push_cast,seval,reduceEqDiff])|intro _)
  exact Ai (by simp[get])
 | true=>
 rw[hG] at J;have hX:=Aca W0 hT L vs d hp hs K h4 hF.1.1 hF.2;have af:=AaV W0 ps (by omega);have aL:=Nd W0 hM hT _ L ps vs d ps hX (by omega);have ak:=GS hF.2;have bH:vs.length<=30:=by have:=ak.1;simp at this;omega
 obtain⟨t1,t2,t3⟩:=kG ps;have bi:(CL ps).1.length<=2^20/\∀a∈(CL ps).1,a.1.length<=2^20:=by
  unfold CL;split
  ·exact⟨by simp,by simp⟩
  ·split
   ·exact⟨by simp,by simp⟩
   ·obtain⟨a1,a2⟩:=AaT (m:=(EK ps).1) (B:=2^20) (λe c=>by have:=t3 e c;omega);exact⟨by simp only;omega,a2⟩
 have aK:=cI W0 (CL ps).1 vs (λa ha=>by have:=bi.2 a ha;simp only[AA];omega) (by omega) (by omega) (λv D=>by have q1:=(ak.2 v D).1.len;have q2:=(ak.2 v D).2;omega);have aP:=tN W0 _ ps [] .nil (Ab3 _) (by omega) (by simp;omega) (.inl ⟨rfl,rfl⟩);have aw:=Anf W0 (Bu ps []) more.name (by have:=KM _ ps (Ab3 _) [];simp at this;omega);have aq:(CL ps).2=0->(GD (CL ps).1 vs).2=0->Gl (FL L ps vs d).2:=by
  intro K h3;have aS:(EK ps).2=false/\(CL ps).1=FG (EK ps).1:=by
   unfold CL at K⊢;split at K
   ·cases K
   ·rename_i D;rw[if_neg D];split at K
    ·cases K
    ·rename_i aR;rw[if_neg aR];exact⟨by simpa using aR,rfl⟩
  refine Ab0 L ps vs d (CL ps).1 aS.1 (λn x h=>by rw[aS.2];exact Acy h) ?_;unfold GD at h3;split at h3
  ·cases h3
  ·exact h3
 have bE:(GD (CL ps).1 vs).2=0\/(GD (CL ps).1 vs).2≠0:=by omega
 have ay:(∀x v y,vs=x++v::y->Bt x v.name=none)->An Tryz.prog W0 10 [NZ L ps ((if(CB ps).contains more.name=true then[] else[more])++vs.reverse) d,.sl (ps.map Aj.enc)] [] (.tup [.s (FL L ps vs d).1,.i .i64 (FL L ps vs d).2]) []:=λh=>by
  rw[<-Tb L ps vs more d h];refine Nd W0 hM hT _ L ps _ d ps (SZ W0 hT L _ d ?_ hp hs K ?_ ?_) (by omega)
  ·have:=hF.1.1;unfold H9 at this;simp only[Aan,decide_eq_true_eq] at this;omega
  ·split<;>simp<;>omega
  ·intro v D;rcases Ajn.1 D with D|D
   ·split at D
    ·cases D
    ·exact(GS hG).2 v D
   ·exact ak.2 v (by simpa using D)
 generalize FL L ps vs d=S at *;generalize GD (CL ps).1 vs=CH at *;generalize(CL ps).2=G at *;generalize(CL ps).1=A at *;rw[Z3] at aw;generalize hC:(CB ps).contains more.name=C at *;obtain⟨S1,S2⟩:=S;obtain⟨C1,C2⟩:=CH;simp only at aq;rw[Gd,AY.enc_eq] at *;cases t:(G !=0) with
 | true=>
  refine Ah (vs:=[.b true]) yD (by simp) (by simp) λn0 N=>?_;clear N;simp only[push_cast,seval,reduceEqDiff,t]
  repeat' (first|(((first|apply Ab|apply Ag|apply Af)<;>intro _h)<;>simp only[push_cast,seval,reduceEqDiff,_h,t])|((first|refine Ac (by exact ae) ?_|refine Ac (by exact r) ?_|refine Ac (by exact J) ?_|refine Ac (by exact af) ?_);simp only[push_cast,seval,reduceEqDiff,t])|intro _)
  exact Ai (by simp[get])
 | false=>
 have a6:G=0:=by simpa using t
 have E:(C2==0&&(S2==12||S2==11))=false:=by
  cases av:(C2==0) with
  | false=>rfl
  | true=>have:=aq a6 (by simpa using av);simp[this.1,this.2]
 have aQ:((C2==0)=true/\(S2==12)=false/\(S2==11)=false)\/((C2==0)=false/\True/\True):=by
  cases av:(C2==0) with
  | false=>exact .inr ⟨rfl,trivial,trivial⟩
  | true=>rw[av] at E;simp only[AtA,Au8] at E;exact .inl ⟨rfl,E.1,E.2⟩
 have u:∃l0:List AY,(C=true/\l0=[])\/(C=false/\l0=[more]):=by
  cases C
  ·exact⟨_,.inr ⟨rfl,rfl⟩⟩
  ·exact⟨_,.inl ⟨rfl,rfl⟩⟩
 obtain⟨l0,u⟩:=u;rcases aQ with⟨e1,e2,e3⟩|⟨e1,e2,e3⟩<;>rcases u with⟨rfl,u⟩|⟨rfl,u⟩
 all_goals
  refine Ah (vs:=[.b true]) yD (by simp) (by simp) λn0 N=>?_;clear N;simp only[push_cast,seval,reduceEqDiff,t,e1,e2,e3]
  repeat' (first|(((first|apply Ab|apply Ag|apply Af)<;>intro _h)<;>simp only[push_cast,seval,reduceEqDiff,_h,t,e1,e2,e3])|((first|refine Ac (by exact ae) ?_|refine Ac (by exact r) ?_|refine Ac (by exact J) ?_|refine Ac (by exact af) ?_|refine Ac (by exact aL) ?_|refine Ac (by exact aK) ?_);simp only[push_cast,seval,reduceEqDiff,t,e1,e2,e3])|intro _)
  rename_i xV k9 k8 k7 k6 k5 k4 k3 k2 k1;refine Ha (Ak.ownBox (A:=[.s L.tag,.s L.parent,.s L.dir,.sl (L.card.map A7.enc),.sl (L.ord.map A7.enc),.s L.dec,.s L.grp,.s L.minus,.s L.perc,.i .i64 L.prim,.i .i64 L.sec,.sl (L.lists.map CF.enc),.sl (L.units.map Dt.enc),.sl (L.dates.map CE.enc),.sl (L.months.map V.s),.sl (L.days.map V.s),.sl (ps.map Aj.enc)]) (B:=[.b d]) 62 5 199) ?_;generalize aJ:n0+1+xV=aY;generalize bh:aY+1+k9=a9;generalize bg:a9+1+k8=a8;generalize bf:a8+1+k7=a7;generalize be:a7+1+k6=a6;generalize bd:a6+1+k5=a5;generalize bc:a5+1+k4=a4;generalize bb:a4+1+k3=a3;generalize ba:a3+1+k2=a2;generalize a8:a2+1+k1=m2;have bG:n0<a3:=by omega
  have aO:a3<m2:=by omega
  clear a8 ba bb bc bd be bf bg bh aJ;generalize a3=m1 at *;have I:∀q j:Nat,((m1,j)=(n0,q))=False:=λq j=>eq_false λc=>by injection c with h1 K;omega
  have f:∀q j:Nat,((n0,q)=(m1,j))=False:=λq j=>eq_false λc=>of_eq_false (I q j) c.symm;have f2:∀q j:Nat,((m2,j)=(n0,q))=False:=λq j=>eq_false λc=>by injection c with h1 K;omega
  have ah:∀q j:Nat,((n0,q)=(m2,j))=False:=λq j=>eq_false λc=>of_eq_false (f2 q j) c.symm;have f3:∀q j:Nat,((m2,j)=(m1,q))=False:=λq j=>eq_false λc=>by injection c with h1 K;omega
  have ai:∀q j:Nat,((m1,q)=(m2,j))=False:=λq j=>eq_false λc=>of_eq_false (f3 q j) c.symm;simp only[Anz,AqW];have aA:IntKind.i64.wrap ((vs.length:Int)-1)=(vs.length:Int)-1:=wrap64 (by omega) (by omega);have r1:∀k j q:Nat,((m2+1+1+k,j)=(n0,q))=False:=λk j q=>eq_false λc=>by injection c with h1 K;omega
  have al:∀k j q:Nat,((n0,q)=(m2+1+1+k,j))=False:=λk j q=>eq_false λc=>of_eq_false (r1 k j q) c.symm;have r2:∀k j q:Nat,((m2+1+1+k,j)=(m1,q))=False:=λk j q=>eq_false λc=>by injection c with h1 K;omega
  have am:∀k j q:Nat,((m1,q)=(m2+1+1+k,j))=False:=λk j q=>eq_false λc=>of_eq_false (r2 k j q) c.symm;have ar:(1<=AK)=True:=eq_true (by unfold AK;omega);simp only[push_cast,seval,reduceEqDiff,aA,t,e1,e2,e3,I,f,f2,ah,f3,ai,r1,al,r2,am,ar,Acr]
  repeat' (first|(((first|apply Ab|apply Ag|apply Af)<;>intro _h)<;>simp only[push_cast,seval,reduceEqDiff,_h,aA,t,e1,e2,e3,I,f,f2,ah,f3,ai,r1,al,r2,am,ar,Acr])|((first|refine Ac (by exact aP) ?_|refine Ac (by exact aw) ?_);simp only[push_cast,seval,reduceEqDiff,aA,t,e1,e2,e3,I,f,f2,ah,f3,ai,r1,al,r2,am,ar,Acr])|intro _)
 all_goals
  first
   | (rename_i q3 q2 q1
      rw[show(Ax.arr 62 5 [.agg [.s more.name,.i .i64 more.type,.s more.text,.i .i64 more.date,.sl (more.list.map V.s)]]:Ax)=.arr 62 5 ((l0++(vs.drop vs.length).reverse).map AY.enc) from by simp[u,AY.enc_eq]];obtain⟨g,F⟩:∃x:Id,x=(m2+1+1+q3,73):=⟨_,rfl⟩
      obtain⟨nn,O⟩:∃n,n=m2+1+1+q3+1+q2+1+q1:=⟨_,rfl⟩;rw[<-O,<-F];have aj:m1<g.1:=by rw[F];simp only;omega
      have Z:g.1<nn:=by rw[F,O];simp only;omega
      clear F O)
   | (rename_i q2 q1
      rw[show(Ax.arr 62 5 []:Ax)=.arr 62 5 ((l0++(vs.drop vs.length).reverse).map AY.enc) from by simp[u]];obtain⟨g,F⟩:∃x:Id,x=(m2,199):=⟨_,rfl⟩
      obtain⟨nn,O⟩:∃n,n=m2+1+1+q2+1+q1:=⟨_,rfl⟩;rw[<-O,<-F];have aj:m1<g.1:=by rw[F];exact aO
      have Z:g.1<nn:=by rw[F,O];simp only;omega
      clear F O)
  clear r1 al r2 am f2 ah f3 ai aO;have aM:(∀x v y,vs=x++v::y->Bt x v.name=none)->An Tryz.prog W0 10 [.agg [.s L.tag,.s L.parent,.s L.dir,.sl (L.card.map A7.enc),.sl (L.ord.map A7.enc),.s L.dec,.s L.grp,.s L.minus,.s L.perc,.i .i64 L.prim,.i .i64 L.sec,.sl (L.lists.map CF.enc),.sl (L.units.map Dt.enc),.sl (L.dates.map CE.enc),.sl (L.months.map V.s),.sl (L.days.map V.s),.sl (ps.map Aj.enc),.sl ((l0++vs.reverse).map AY.enc),.b d],.sl (ps.map Aj.enc)] [] (.tup [.s S1,.i .i64 S2]) []:=by intro h;rw[u];exact ay h
  have bl:∀k n,An Tryz.prog W0 23 [.sl ((vs.take k).map AY.enc),.s n] [] (Jl (Bt (vs.take k) n)) []:=λk n=>yP W0 _ n (by simp only[Axn];omega);have R:∀j:Nat,((m1,j)=g)=False:=λj=>eq_false λc=>(by have:=congrArg Prod.fst c;(try simp only at this);omega)
  have l:∀j:Nat,(g=(m1,j))=False:=λj=>eq_false λc=>of_eq_false (R j) c.symm;have U:∀j:Nat,((n0,j)=g)=False:=λj=>eq_false λc=>(by have:=congrArg Prod.fst c;(try simp only at this);omega)
  have o:∀j:Nat,(g=(n0,j))=False:=λj=>eq_false λc=>of_eq_false (U j) c.symm;refine Am vs.length (Inv:=λm st=>∃n id,m<=vs.length/\(∀x v y,vs=x++v::y->m<=x.length->Bt x v.name=none)/\m1<id.1/\id.1<n/\st=⟨[(2,.ref (n0,2) 0),(7,.s S1),(8,.i .i64 S2),(11,.ref (m1,11) 0),(12,.i .i64 ((m:Int)-1))],[((m1,11),.box (.agg [.s L.tag,.s L.parent,.s L.dir,.sl (L.card.map A7.enc),.sl (L.ord.map A7.enc),.s L.dec,.s L.grp,.s L.minus,.s L.perc,.i .i64 L.prim,.i .i64 L.sec,.sl (L.lists.map CF.enc),.sl (L.units.map Dt.enc),.sl (L.dates.map CE.enc),.sl (L.months.map V.s),.sl (L.days.map V.s),.sl (ps.map Aj.enc),.arr id,.b d])),(id,.arr 62 5 ((l0++(vs.drop m).reverse).map AY.enc)),((n0,2),.box (.agg [.s L.tag,.s L.parent,.s L.dir,.sl (L.card.map A7.enc),.sl (L.ord.map A7.enc),.s L.dec,.s L.grp,.s L.minus,.s L.perc,.i .i64 L.prim,.i .i64 L.sec,.sl (L.lists.map CF.enc),.sl (L.units.map Dt.enc),.sl (L.dates.map CE.enc),.sl (L.months.map V.s),.sl (L.days.map V.s),.sl (ps.map Aj.enc),.sl (vs.map AY.enc),.b d]))],n⟩) ⟨_,Ak.sub (σ':=[((m1,11),.box (.agg [.s L.tag,.s L.parent,.s L.dir,.sl (L.card.map A7.enc),.sl (L.ord.map A7.enc),.s L.dec,.s L.grp,.s L.minus,.s L.perc,.i .i64 L.prim,.i .i64 L.sec,.sl (L.lists.map CF.enc),.sl (L.units.map Dt.enc),.sl (L.dates.map CE.enc),.sl (L.months.map V.s),.sl (L.days.map V.s),.sl (ps.map Aj.enc),.arr g,.b d])),(g,.arr 62 5 ((l0++(vs.drop vs.length).reverse).map AY.enc)),((n0,2),.box (.agg [.s L.tag,.s L.parent,.s L.dir,.sl (L.card.map A7.enc),.sl (L.ord.map A7.enc),.s L.dec,.s L.grp,.s L.minus,.s L.perc,.i .i64 L.prim,.i .i64 L.sec,.sl (L.lists.map CF.enc),.sl (L.units.map Dt.enc),.sl (L.dates.map CE.enc),.sl (L.months.map V.s),.sl (L.days.map V.s),.sl (ps.map Aj.enc),.sl (vs.map AY.enc),.b d]))]) ?_ ?_ (Abm _),_,g,Abm _,(λx v y h hl=>by have:=congrArg List.length h;simp at this;omega),aj,Z,rfl⟩ ?_
  ·simp[I,R,l,U,o]
  ·intro p hp;simp at hp⊢;rcases hp with h|h|h<;>simp[h,u]
  clear R l U o aj Z r J af aL aK aP aw ae;rintro m _ ⟨n,id,bm,hd,aj,Z,rfl⟩;have R:∀j:Nat,((m1,j)=id)=False:=λj=>eq_false λc=>(by have:=congrArg Prod.fst c;(try simp only at this);omega)
  have l:∀j:Nat,(id=(m1,j))=False:=λj=>eq_false λc=>of_eq_false (R j) c.symm;have U:∀j:Nat,((n0,j)=id)=False:=λj=>eq_false λc=>(by have:=congrArg Prod.fst c;(try simp only at this);omega)
  have o:∀j:Nat,(id=(n0,j))=False:=λj=>eq_false λc=>of_eq_false (U j) c.symm;cases m with
  | zero=>
   have g0:(decide (((0:Nat):Int)-1>=0))=false:=by decide
   simp only[push_cast,seval,reduceEqDiff,g0,I,f,R,l,U,o,Acr];intros;refine Ha (pE (e:=62) (sz:=5) (rid:=(m1,11)) (kid:=id) (A:=[.s L.tag,.s L.parent,.s L.dir,.sl (L.card.map A7.enc),.sl (L.ord.map A7.enc),.s L.dec,.s L.grp,.s L.minus,.s L.perc,.i .i64 L.prim,.i .i64 L.sec,.sl (L.lists.map CF.enc),.sl (L.units.map Dt.enc),.sl (L.dates.map CE.enc),.sl (L.months.map V.s),.sl (L.days.map V.s),.sl (ps.map Aj.enc)]) (B:=[.b d]) (es:=(l0++(vs.drop 0).reverse).map AY.enc) (τ:=[((n0,2),.box (.agg ([.s L.tag,.s L.parent,.s L.dir,.sl (L.card.map A7.enc),.sl (L.ord.map A7.enc),.s L.dec,.s L.grp,.s L.minus,.s L.perc,.i .i64 L.prim,.i .i64 L.sec,.sl (L.lists.map CF.enc),.sl (L.units.map Dt.enc),.sl (L.dates.map CE.enc),.sl (L.months.map V.s),.sl (L.days.map V.s),.sl (ps.map Aj.enc)]++[.sl (vs.map AY.enc),.b d])))]) (λc=>of_eq_false (R _) c) (by simp[lk,l]) (by simp[lk,R]) (λi e' h=>?_) (by simp[lk,I]) (λy hy=>by obtain⟨z,_,rfl⟩:=Alx.1 hy;rfl) (λs=>.inl rfl) (Abm _)) ?_
   ·by_cases hi:i=(n0,2)
    ·subst hi;simp[lk] at h;subst h;exact⟨by simp[lk,I,o],λc=>of_eq_false (U _) c⟩
    ·simp[lk,AhZ hi] at h
   have bk:=aM (λx v y h=>hd x v y h (Alq _));rw[Auu];simp only[Anz,AqW];have b1:(S1==S1)=true:=by simp
   have b2:(S2==S2)=true:=by simp
   simp only[push_cast,seval,reduceEqDiff,I,f,Acr,b1,b2]
   repeat' (first|(((first|apply Ab|apply Ag|apply Af)<;>intro _h)<;>simp only[push_cast,seval,reduceEqDiff,_h,I,f,Acr,b1,b2])|(refine Ac (by exact bk) ?_;simp only[push_cast,seval,reduceEqDiff,I,f,Acr,b1,b2])|intro _)
   exact Ai (by simp[get])
  | succ j=>
   have hj:j<vs.length:=bm;have gj:((j+1:Nat):Int)-1=j:=by omega
   have g0:decide ((j:Int)>=0)=true:=by simp
   have aN:=bl j;have X:(vs.map AY.enc)[j]?=some (.agg [.s (vs[j]).name,.i .i64 (vs[j]).type,.s (vs[j]).text,.i .i64 (vs[j]).date,.sl ((vs[j]).list.map V.s)]):=by rw[Aru,Ai0 hj];rfl
   have ab:(vs.map AY.enc).take j=(vs.take j).map AY.enc:=by simp
   have aa:(0<=j/\j<=vs.length)=True:=eq_true ⟨Alq _,AxE hj⟩;have Y:(∀y∈vs.map AY.enc,(cells y).length=5)=True:=eq_true (by intro y hy;obtain⟨p,_,rfl⟩:=Alx.1 hy;rw[AY.enc_eq];rfl);rw[gj];cases hr:Bt (vs.take j) (vs[j]).name with
   | some v=>
    have M:=aN (vs[j]).name;rw[hr] at M;simp only[Jl,gV,Ars,AY.enc_eq v] at M;simp only[push_cast,seval,reduceEqDiff,g0,X,ab,hj,aa,Y,I,f,R,l,U,o,Acr]
    repeat' (first|(((first|apply Ab|apply Ag|apply Af)<;>intro _h)<;>simp only[push_cast,seval,reduceEqDiff,_h,g0,X,ab,hj,aa,Y,I,f,R,l,U,o,Acr])|(refine Ac (by exact M) ?_;simp only[push_cast,seval,reduceEqDiff,g0,X,ab,hj,aa,Y,I,f,R,l,U,o,Acr])|intro _)
    exact Ai (by simp[get])
   | none=>
    have M:=aN (vs[j]).name;rw[hr] at M;simp only[Jl,gV,M1,AtT] at M;have q1:∀k j q:Nat,((n+1+k,j)=(n0,q))=False:=λk j q=>eq_false λc=>by injection c with h1 K;omega
    have aB:∀k j q:Nat,((n0,q)=(n+1+k,j))=False:=λk j q=>eq_false λc=>of_eq_false (q1 k j q) c.symm;have q2:∀k j q:Nat,((n+1+k,j)=(m1,q))=False:=λk j q=>eq_false λc=>by injection c with h1 K;omega
    have aC:∀k j q:Nat,((m1,q)=(n+1+k,j))=False:=λk j q=>eq_false λc=>of_eq_false (q2 k j q) c.symm;have q3:∀k j:Nat,((n+1+k,j)=id)=False:=λk j=>eq_false λc=>by rw[<-c] at Z;simp at Z;omega
    have aD:∀k j:Nat,(id=(n+1+k,j))=False:=λk j=>eq_false λc=>of_eq_false (q3 k j) c.symm;have ax:((l0++(vs.drop (j+1)).reverse).length+1<=AK)=True:=eq_true (by unfold AK;simp[u];omega);have az:IntKind.i64.wrap ((j:Int)-1)=(j:Int)-1:=wrap64 (by omega) (by omega);have bj:List.map AY.enc (l0++(vs.drop (j+1)).reverse)++[.agg [.s (vs[j]).name,.i .i64 (vs[j]).type,.s (vs[j]).text,.i .i64 (vs[j]).date,.sl ((vs[j]).list.map V.s)]]=(l0++(vs.drop j).reverse).map AY.enc:=by rw[Axt hj];simp only[Axu,AxU,Alh,Alw,AvS,AY.enc_eq]
    simp only[push_cast,seval,reduceEqDiff,az,g0,X,ab,hj,aa,Y,q1,aB,q2,aC,q3,aD,ax,I,f,R,l,U,o,Acr]
    repeat' (first|(((first|apply Ab|apply Ag|apply Af)<;>intro _h)<;>simp only[push_cast,seval,reduceEqDiff,_h,az,g0,X,ab,hj,aa,Y,q1,aB,q2,aC,q3,aD,ax,I,f,R,l,U,o,Acr])|(refine Ac (by exact M) ?_;simp only[push_cast,seval,reduceEqDiff,az,g0,X,ab,hj,aa,Y,q1,aB,q2,aC,q3,aD,ax,I,f,R,l,U,o,Acr])|intro _)
    rename_i k5 k4 k3 k2 k1;rw[bj];refine⟨j,⟨_,[((m1,11),.box (.agg [.s L.tag,.s L.parent,.s L.dir,.sl (L.card.map A7.enc),.sl (L.ord.map A7.enc),.s L.dec,.s L.grp,.s L.minus,.s L.perc,.i .i64 L.prim,.i .i64 L.sec,.sl (L.lists.map CF.enc),.sl (L.units.map Dt.enc),.sl (L.dates.map CE.enc),.sl (L.months.map V.s),.sl (L.days.map V.s),.sl (ps.map Aj.enc),.arr (n+1+k5+1+k4+1+k3,106),.b d])),((n+1+k5+1+k4+1+k3,106),.arr 62 5 ((l0++(vs.drop j).reverse).map AY.enc)),((n0,2),.box (.agg [.s L.tag,.s L.parent,.s L.dir,.sl (L.card.map A7.enc),.sl (L.ord.map A7.enc),.s L.dec,.s L.grp,.s L.minus,.s L.perc,.i .i64 L.prim,.i .i64 L.sec,.sl (L.lists.map CF.enc),.sl (L.units.map Dt.enc),.sl (L.dates.map CE.enc),.sl (L.months.map V.s),.sl (L.days.map V.s),.sl (ps.map Aj.enc),.sl (vs.map AY.enc),.b d]))],_⟩,Ab3 _,Ak.sub ?_ ?_ (Abm _),_,(n+1+k5+1+k4+1+k3,106),by omega,?_,?_,?_,rfl⟩
    ·simp[q1,q2,I]
    ·intro p hp;simp at hp⊢;rcases hp with h|h|h<;>simp[h]
    ·intro x v y h hl;by_cases c:x.length=j
     ·have hx:vs.take j=x:=by rw[h,<-c];simp
      have D:vs[j]?=some v:=by rw[h,<-c];simp
      rw[Ai0 hj] at D;injection D with D;rw[<-hx,<-D];exact hr
     ·exact hd x v y h (by omega)
    ·simp only;omega
    ·simp only;omega
end Go.Ir
section
namespace Go.Ir
open Go.RowKit Go.Proofs.YtalbicndcfmbnaaGreatDoor
def Gb(a:Bool)(c:List V):V:=if a then .agg c else c.headD .any
inductive EN (P:Program):TypeId->List V->Prop where
 | bool (t:TypeId) (b:Bool) (h:P.underlying t=some .bool):EN P t [.b b]
 | int (t:TypeId) (k:IntKind) (n:Int) (h:P.underlying t=some (.int k)) (hw:(Lit.int k n).wf=true):EN P t [.i k n]
 | str (t:TypeId) (l:List UInt8) (h:P.underlying t=some .string):EN P t [.s l]
 | sl (t e:TypeId) (es:List V) (h:P.underlying t=some (.slice e)) (he:∀el∈es,∃c,el=Gb ((Di P e).getD false) c/\cells el=c) (hc:∀el∈es,(cells el).length=P.cellsOf e) (hw:∀el∈es,EN P e (cells el)):EN P t [.sl es]
 | st (t:TypeId) (fs:Array Field) (vs:List V) (h:P.underlying t=some (.struct fs)) (hl:vs.length=P.cellsOf t) (hf:∀f∈fs.toList,EN P f.type ((vs.drop f.offset).take (P.cellsOf f.type))):EN P t vs
mutual
def Bm:V->Nat
 | .s l=>l.length+1
 | .sl es=>A8 es+1
 | .agg cs=>A8 cs
 | _=>1
def A8:List V->Nat
 | []=>0
 | v::vs=>Bm v+A8 vs
end
theorem FN(a b:List V):A8 (a++b)=A8 a+A8 b:=by
 induction a with
 | nil=>simp[A8]
 | cons x a c=>simp[A8,c];omega
def eC(P:Program):List Field->Nat->Option Nat
 | [],a=>some a
 | f::b,a=>if f.offset=a then eC P b (a+P.cellsOf f.type) else none
def AmG(P:Program)(T:List TypeId):Bool:=T.all λt=>match P.underlying t with
 | some .bool|some (.int _)|some .string=>P.cellsOf t==1
 | some (.slice e)=>P.cellsOf t==1&&T.contains e&&decide (0<P.cellsOf e)
 | some (.struct a)=>a.toList.all (λf=>T.contains f.type)&&eC P a.toList 0==some (P.cellsOf t)
 | _=>false
section
variable{H:Type}{enc:TypeId×Value→H}{P:Program}{w:World}{base:Nat}{spare:Nat→Bool}{held:Bool}{T:List TypeId}
theorem KY{d:DataW H}{a:List (DataW H)}(h:d∈a):Rows.uptoBulk d<=Rows.uptoBulkAll a:=by
 induction a with
 | nil=>cases h
 | cons x a b=>simp only[Rows.uptoBulkAll];grind
theorem Lr{μ:Id->Option Value}{Hc:Addr->Option Value}{cs:List Value} :
  ∀(j:List Field) (b c:Nat) (e:List (DataW H)),eC P j b=some c->cs.length=c->e.length=j.length->
   (∀(i:Nat) (f:Field) (d:DataW H),j[i]?=some f->e[i]?=some d->∃vs,AI μ Hc vs ((cs.drop f.offset).take (P.cellsOf f.type))/\EN P f.type vs/\A8 vs<=Rows.uptoBulk d)->
   b<=c/\∃vs,AI μ Hc vs (cs.drop b)/\(∀pre:List V,pre.length=b->∀f∈j,EN P f.type (((pre++vs).drop f.offset).take (P.cellsOf f.type)))/\A8 vs<=Rows.uptoBulkAll e
 | [],b,c,e,a,k,g,h=>by simp only[eC,AkA] at a;subst a;refine⟨Abm _,[],?_,λ_ _ f o=>(by cases o),by simp[A8]⟩;rw[List.drop_of_length_le (by omega)];exact AI.nil_
 | f::j,b,c,e,a,k,g,h=>by
  simp only[eC] at a;split at a
  ·rename_i v;cases e with
   | nil=>simp at g
   | cons d e=>
    obtain⟨u,vs,s,A,B⟩:=Lr j _ c e a k (by simpa using g) (λi p r o t=>h (i+1) p r (by simpa using o) (by simpa using t));obtain⟨us,m,y,z⟩:=h 0 f d rfl rfl;rw[v] at m;have x:us.length=P.cellsOf f.type:=by have:=m.len;grind
    refine⟨by omega,us++vs,?_,?_,?_⟩
    ·have:=m.append s;rw[<-Axj,Ax5] at this;exact this
    ·intro pre q p l;rcases AqN.1 l with rfl|l
     ·grind
     grind
    ·rw[FN];simp only[Rows.uptoBulkAll];omega
  ·cases a
theorem UA{t:TypeId}{vs:List V}{a:Bool}(b:Di P t=some a)(h:EN P t vs):cells (Gb a vs)=vs:=by
 cases a with
 | true=>rfl
 | false=>
  cases h with
  | st t c vs h e d=>simp[Di,h,nI] at b
  | _=>rfl
theorem bL{t:TypeId}{vs:List V}{a:Bool}(b:Di P t=some a)(h:EN P t vs):Bm (Gb a vs)=A8 vs:=by
 cases a with
 | true=>simp[Gb,Bm]
 | false=>
  cases h with
  | st t c vs h e d=>simp[Di,h,nI] at b
  | _=>simp[Gb,A8]
theorem MX{μ:Id->Option Value}(hT:AmG P T=true):∀(n:Nat) (t:TypeId) (cs:List Value) (x:DataW H×List MemPlace),t∈T->DataW.trod enc P w base spare held n t cs=some x->Rows.uptoBulk x.1<=1048576->
  ∃vs,AI μ (λo=>w.cell? o) vs cs/\EN P t vs/\A8 vs<=Rows.uptoBulk x.1:=by
 intro n
 induction n with
 | zero=>intro t cs x _ h;simp[DataW.trod] at h
 | succ n Z=>
  intro t cs x ht h hb;have p:=Alm.1 hT t ht;have one:∀{c:V} {v:Value},Ap μ (λo=>w.cell? o) c v->v.oneCell'=true->AI μ (λo=>w.cell? o) [c] [v]:=λhv D=>
   ⟨VRels.cons hv VRels.nil_,λv' aL=>by grind⟩
  cases u:P.underlying t with
  | none=>simp[u] at p
  | some d=>
   cases d<;>simp only[u] at p<;>(try (cases p;done))
   case bool=>
    unfold DataW.trod at h;rw[u] at h
    match cs,h with
    | [.bool b],h=>cases h;exact⟨[.b b],one (.b b) rfl,.bool t b u,by simp[A8,Bm,Rows.uptoBulk]⟩
   case int k=>
    unfold DataW.trod at h;rw[u] at h
    match cs,h with
    | [.int k' m],h=>
     simp only at h;split at h
     ·rename_i G;obtain⟨rfl,hw⟩:=G;cases h;exact⟨[.i k' m],one (.i k' m) rfl,.int t k' m u hw,by simp[A8,Bm,Rows.uptoBulk]⟩
     ·cases h
   case string=>
    unfold DataW.trod at h;rw[u] at h
    match cs,h with
    | [.string s],h=>
     simp only at h;split at h
     ·rename_i hs;cases h;simp only[Rows.uptoBulk] at hb;refine⟨[.s s.data.toList],one ?_ rfl,.str t _ u,by simp[A8,Bm,Rows.uptoBulk]⟩;have:=Ap.s (μ:=μ) (H:=λo=>w.cell? o) s.data.toList (by unfold AA;omega);simpa using this
     ·cases h
   case slice e=>
    simp only[Aan,beq_iff_eq,AxD,decide_eq_true_eq] at p;obtain⟨⟨aF,O⟩,aA⟩:=p;rcases DataW.trod_slice u h with⟨rfl,rfl⟩|⟨a,len,cap,elems,rest,m,hm,rfl,rfl,hbase,hlc,hcm,hel,helem,_,_⟩
    ·exact⟨[.sl []],one (.slE none 0) rfl,.sl t e [] u (λ_ h=>by cases h) (λ_ h=>by cases h) (λ_ h=>by cases h),by simp[A8,Bm,Rows.uptoBulk]⟩
    ·cases hm;simp only[Rows.uptoBulk] at hb;have R:=Alm.1 hT e O;obtain⟨I,E⟩:∃I,Di P e=some I:=by
      unfold Di;cases ak:P.underlying e with
      | none=>simp[ak] at R
      | some d=>exact⟨_,rfl⟩
     have L:∀i,i<len->∃(vs:List V) (g:List Value) (y:DataW H×List MemPlace),elems[i]?=some y/\g.length=P.cellsOf e/\(∀k,k<P.cellsOf e->w.cell? (a.add (i*P.cellsOf e+k))=g[k]?)/\AI μ (λo=>w.cell? o) vs g/\EN P e vs/\A8 vs<=Rows.uptoBulk y.1:=by
      intro i hi;have D:=helem i hi;have C:i<elems.length:=by omega
      rw[Ai0 C] at D;cases r:w.cells? base (a.add (i*P.cellsOf e)) (P.cellsOf e) with
      | none=>rw[r] at D;cases D
      | some g=>
       rw[r] at D;obtain⟨_,hl,F⟩:=World.cells?_some r;have B:elems[i].1∈elems.map (·.1):=Alx.2 ⟨_,Ax4 C,rfl⟩;have:=KY B;obtain⟨vs,Y,r2,r3⟩:=Z e g elems[i] O D (by omega);refine⟨vs,g,elems[i],Ai0 C,hl,λk G=>?_,Y,r2,r3⟩;have:=F k G
       rwa [show(a.add (i*P.cellsOf e)).add k=a.add (i*P.cellsOf e+k) from by unfold Addr.add;by_cases hi:i*P.cellsOf e=0<;>by_cases hj:k=0<;>simp[hi,hj,AwF]] at this
     have all:∀j,j<=len->∃(es:List V) (vals:List Value),es.length=j/\vals.length=j*P.cellsOf e/\(∀q∈es,(∃c,q=Gb I c/\cells q=c)/\(cells q).length=P.cellsOf e/\EN P e (cells q))/\AI μ (λo=>w.cell? o) (AF es) vals/\
       (∀(k:Nat) (v:Value),vals[k]?=some v->w.cell? (a.add k)=some v)/\A8 es<=Rows.uptoBulkAll ((elems.map (·.1)).take j):=by
      intro j
      induction j with
      | zero=>intro _;exact⟨[],[],rfl,by simp,λ_ h=>(by cases h),AI.nil_,λk v h=>(by simp at h),by simp[A8]⟩
      | succ j an=>
       intro hj;obtain⟨es,vals,g1,g2,J,M,g5,g6⟩:=an (by omega);obtain⟨vs,g,y,e1,e2,e3,e4,e5,e6⟩:=L j (by omega);have N:cells (Gb I vs)=vs:=UA E e5;refine⟨es++[Gb I vs],vals++g,by simp[g1],by grind,?_,?_,?_,?_⟩
       ·intro q A;rcases Ajn.1 A with h'|h'
        ·exact J q h'
        ·rw[ArF.1 h',N];exact⟨⟨vs,rfl,rfl⟩,by rw[e4.len,e2],e5⟩
       ·rw[FD];refine M.append ?_;have:AF [Gb I vs]=vs:=by simp[AF,N]
        rw[this];exact e4
       ·intro k v G;rcases Av2 k vals.length with C|af
        ·grind
        ·rw[Arf af] at G;have az:k-vals.length<g.length:=(Alp.1 G).1;have:=e3 (k-vals.length) (by omega);rw[G,g2,show j*P.cellsOf e+(k-j*P.cellsOf e)=k by omega] at this;exact this
       ·rw[FN];have ht:(elems.map (·.1)).take (j+1)=(elems.map (·.1)).take j++[y.1]:=by rw[List.take_add_one,Aru,e1];rfl
        have ad:∀(a b:List (DataW H)),Rows.uptoBulkAll (a++b)=Rows.uptoBulkAll a+Rows.uptoBulkAll b:=by
         intro a b
         induction a with
         | nil=>simp[Rows.uptoBulkAll]
         | cons x a Z=>simp[Rows.uptoBulkAll,Z];omega
        rw[ht,ad];have:=bL E e5;simp only[A8,Rows.uptoBulkAll];omega
     obtain⟨es,vals,g1,g2,J,M,g5,g6⟩:=all len (Abm _);have X:∀(K:List (DataW H)),K.length<=Rows.uptoBulkAll K:=by
      intro K
      induction K with
      | nil=>simp[Rows.uptoBulkAll]
      | cons d K Z=>
       have:1<=Rows.uptoBulk d:=by
        cases d<;>(try simp only[Rows.uptoBulk])<;>(try omega)
        rename_i l;cases l<;>simp[Rows.uptoBulk]
       simp only[Rows.uptoBulkAll,Ah5];omega
     have ah:=X (elems.map (·.1));rw[Acr,hel] at ah;refine⟨[.sl es],one ?_ rfl,.sl t e es u (by rw[E];exact λq h=>(J q h).1) (λq h=>(J q h).2.1) (λq h=>(J q h).2.2),?_⟩
     ·have:=Ap.slC (μ:=μ) (H:=λo=>w.cell? o) es a cap (P.cellsOf e) vals (by omega) (by unfold AK;omega) (λq A=>(J q A).2.1) M.len M.one g5 M.at_;grind
     ·rw[Axi (by simp;omega)] at g6;simp only[A8,Bm,Rows.uptoBulk];omega
   case struct fs=>
    simp only[Aan,beq_iff_eq] at p;obtain⟨aH,U⟩:=p;obtain⟨xs,m,hm,rfl,r,am,hf⟩:=DataW.trod_struct u h;cases hm;simp only[Rows.uptoBulk] at hb;obtain⟨_,vs,Y,r2,r3⟩:=Lr (P:=P) (μ:=μ) (Hc:=λo=>w.cell? o) (cs:=cs) fs.toList 0 (P.cellsOf t) (xs.map (·.1)) U r (by simp[am]) (λi f d aI z=>by
     have S:fs[i]?=some f:=by grind
     have D:=hf i f S;rw[Aru] at z;cases hx:xs[i]? with
     | none=>rw[hx] at z;cases z
     | some y=>rw[hx] at z D;cases z;have B:y.1∈xs.map (·.1):=Alx.2 ⟨y,Aln hx,rfl⟩;have:=KY B;grind
)
    rw[Auu] at Y;refine⟨vs,Y,.st t fs vs u (by rw[Y.len,r]) (λf ae=>by simpa using r2 [] rfl f ae),?_⟩;simp only[Rows.uptoBulk];omega
end
end Go.Ir
end
section
namespace Go.Ir
open Go.RowKit Go.ChangeShapes Go.WideShapes
variable[FW]
section
variable{H:Type}{enc:TypeId×Value→H}{P:Program}{W W':World}
theorem I0(o:laidOutB P=true)(m:Below W.heap.size W W'){r:Nat->Bool}:∀(g:List TypeId) (vs:List Value) (i:List (DataW H)) (ps:List MemPlace),(∀t∈g,P.readableRec t=true/\t<P.types.size)->
  DataW.TrodAll enc P W 0 (λ_=>true) true g vs i ps->(∀x∈ps,x.block<W.heap.size)->(∀x∈ps,r x.block=true)->DataW.TrodAll enc P W' 0 r true g vs i ps
 | [],vs,i,ps,_,h,_,_=>by obtain⟨rfl,rfl,rfl⟩:=trodAll_nil h;exact trodAll_mk0
 | t::g,vs,i,ps,f,h,b,e=>by obtain⟨v,l,d,j,p,q,rfl,rfl,rfl,s,u⟩:=trodAll_cons h;obtain⟨y,c⟩:=f t (by simp);refine trodAll_cons_mk (WideElems.Trod_stays o y c s (λx a=>m.same (b x (by simp[a]))) (λx a=>e x (by simp[a]))) (I0 o m g l j q (λt' k=>f t' (by simp[k])) u (λx a=>b x (by simp[a])) (λx a=>e x (by simp[a])))
theorem Y9{f:Func}{s:ChangeSpec}{c g d e:Bool}{args:Array Value}{l E:List (DataW H)}{a:List MemPlace}{tb:TypeId}
  (M:laidOutB P=true)(C:∀t∈f.params.toList,P.readableRec t=true/\t<P.types.size)(j:f.resultTypes=#[tb])(k:P.underlying tb=some .bool)(D:s.vars=[])
  (z:s.fn H (l++E)={ results:=[.lit (.bool true)],args:=l })
  (u:DataW.Whole enc P f.params.toList s.vars c W args.toList l E a)(y:Below W.heap.size W W'):s.post enc P f c g d e W args (.bool true) W':=by
 have i:∀p∈a,p.block<W.heap.size:=λp hp=>u.lt p hp;have v:=u;obtain⟨p,q,K,F,rfl,O,N⟩:=u;rw[D] at F;obtain⟨rfl,rfl⟩:=trodVars_none F;simp only[Ary] at *;have I:∀x∈p,(λb=>decide (b<W.heap.size)) x.block=true:=λx m=>by simpa using i x m
 have h:∀o:Nat->Bool,(∀x∈p,o x.block=true)->DataW.TrodAll enc P W' 0 o true f.params.toList args.toList l p:=λo B=>I0 M y _ _ _ _ C K i B;have J:∀(b:Nat) (o:Nat->Bool) (G:Bool),DataW.TrodAll enc P W' b o G f.resultTypes.toList ((Value.bool true).resultList f.resultTypes.size) [.lit (.bool true)] []:=by intro b o G;rw[j];exact trodAll_cons_mk (p:=[]) (p':=[]) (shut_bool k _) trodAll_mk0
 refine⟨l,[],p,[],p,[],v,?_,?_,?_,World.keptBut_mono (λx m=>⟨m,.inr (.inl m)⟩) (y.frame _),λ_=>?_⟩
 ·grind
 ·grind
 ·rw[D,Ary,z];rfl
 ·refine⟨ok_one j rfl (okWide_bool_mk k _),.lit (.bool true)::l,[],p,⟨p,[],?_,by rw[D];rfl,by simp,?_,?_⟩,λx m _=>m⟩
  ·rw[j];exact trodAll_cons_mk (p:=[]) (shut_bool k _) (h _ (λ_ _=>rfl))
  ·intro b r hp;have:=i _ hp;have A:=y.frozen (p:=⟨b,r,none⟩) this;rw[A];exact O b r (by simpa using hp)
  ·intro L;exact N L
theorem Hp.start(W:World)(n:Nat):Hp W [] n (λ_=>none) (λa=>W.cell? a) W where
 base:=Auw _ _
 pins _ _ h:=h
 ents _ _ h:=by simp[lk] at h
 unp bk ho:=by obtain⟨id,e,h,_⟩:=ho;simp[lk] at h
 sep _ _ _ _ _ h:=by simp[lk] at h
 bd _ _:=rfl
theorem Tk{f:FuncId}{args:List V}{vals:List Value}(h:An P W f args [] (.b true) [])(g:VRels (λ_=>none) (λa=>W.cell? a) args vals) :
  Calls P f vals.toArray W λe W'=>e=.returned (.bool true)/\Below W.heap.size W W':=
 (h.run 0 W _ _ vals (Hp.start W 0) g).mono λe W' ⟨val,i,j,n',c,d,hp,_⟩=>⟨by rw[c,d.b_inv],hp.base⟩
end
end Go.Ir
end
section
namespace Go.Ir
open Go.Proofs
section
variable{P:Program}
theorem EN.int_inv{t:TypeId}{k:IntKind}{v:V}(h:EN P t [v])(a:P.underlying t=some (.int k)):∃n,v=.i k n/\(Lit.int k n).wf=true:=by
 cases h with
 | int _ f n h d=>grind
 | bool _ b h=>rw[a] at h;cases h
 | str _ l h=>rw[a] at h;cases h
 | sl _ e es h _ _ _=>rw[a] at h;cases h
 | st _ c vs h _ _=>rw[a] at h;cases h
theorem EN.str_inv{t:TypeId}{v:V}(h:EN P t [v])(a:P.underlying t=some .string):∃l,v=.s l:=by
 cases h with
 | int _ f n h d=>rw[a] at h;cases h
 | bool _ b h=>rw[a] at h;cases h
 | str _ l h=>exact⟨l,rfl⟩
 | sl _ e es h _ _ _=>rw[a] at h;cases h
 | st _ c vs h _ _=>rw[a] at h;cases h
theorem EN.sl_inv{t e:TypeId}{v:V}(h:EN P t [v])(d:P.underlying t=some (.slice e)):∃es,v=.sl es/\(∀a∈es,∃c,a=Gb ((Di P e).getD false) c/\cells a=c)/\(∀a∈es,(cells a).length=P.cellsOf e)/\(∀a∈es,EN P e (cells a)):=by
 cases h with
 | int _ m n h k=>rw[d] at h;cases h
 | bool _ b h=>rw[d] at h;cases h
 | str _ l h=>rw[d] at h;cases h
 | sl _ e' es h g i j=>grind
 | st _ f vs h _ _=>rw[d] at h;cases h
theorem EN.st_inv{t:TypeId}{c:Array Field}{vs:List V}(h:EN P t vs)(a:P.underlying t=some (.struct c)):vs.length=P.cellsOf t/\∀f∈c.toList,EN P f.type ((vs.drop f.offset).take (P.cellsOf f.type)):=by
 cases h with
 | int _ k n h j=>rw[a] at h;cases h
 | bool _ b h=>rw[a] at h;cases h
 | str _ l h=>rw[a] at h;cases h
 | sl _ e' es h e g i=>rw[a] at h;cases h
 | st _ d vs h e g=>grind
end
theorem zU{l:List V}(h:l.length=2):∃a b,l=[a,b]:=by
 match l,h with
 | [a,b],_=>exact⟨a,b,rfl⟩
theorem ArO{l:List V}(h:l.length=6):∃a b c d e f,l=[a,b,c,d,e,f]:=by
 match l,h with
 | [a,b,c,d,e,f],_=>grind
theorem c9:Tryz.prog.cellsOf 9=1:=by kernel_rfl
theorem c3:Tryz.prog.cellsOf 3=1:=by kernel_rfl
theorem c31:Tryz.prog.cellsOf 31=1:=by kernel_rfl
theorem c50:Tryz.prog.cellsOf 114=1:=by kernel_rfl
theorem c52:Tryz.prog.cellsOf 116=6:=by kernel_rfl
theorem c54:Tryz.prog.cellsOf 118=2:=by kernel_rfl
theorem a52:Di Tryz.prog 116=some true:=by kernel_rfl
theorem a54:Di Tryz.prog 118=some true:=by kernel_rfl
theorem mJ:∀(N:Nat) (v:V),Bm v<=N->EN Tryz.prog 31 [v]->∃ps,v=.sl (HB ps)/\AU ps<=Bm v:=by
 intro N
 induction N with
 | zero=>intro v h;cases v<;>simp[Bm] at h<;>intro f<;>obtain⟨es,O,_⟩:=f.sl_inv Tryz.underlying31<;>cases O
 | succ N M=>
  intro v y f;obtain⟨es,rfl,d,u,o⟩:=f.sl_inv Tryz.underlying31;rw[a52] at d;simp only[Option.getD_some] at d;simp only[Bm] at y⊢;have g:∀v:V,Bm v<=N->EN Tryz.prog 114 [v]->∃cs,v=.sl (Jr cs)/\DG cs<=Bm v:=by
   intro v E f;obtain⟨es,rfl,d,u,o⟩:=f.sl_inv Tryz.underlying114;rw[a54] at d;simp only[Option.getD_some] at d;simp only[Bm] at E⊢;have:∃cs,es=Jr cs/\DG cs<=A8 es:=by
    clear f
    induction es with
    | nil=>exact⟨[],by simp[Jr],by simp[DG]⟩
    | cons r es j=>
     simp only[A8] at E⊢;obtain⟨cs,g,B⟩:=j (by omega) (λx b=>d x (AaC _ b)) (λx b=>u x (AaC _ b)) (λx b=>o x (AaC _ b));obtain⟨c,rfl,_⟩:=d r (by simp);have a:=o (Gb true c) (by simp);have A:cells (Gb true c)=c:=rfl;rw[A] at a;obtain⟨p,e⟩:=a.st_inv Tryz.underlying118;rw[c54] at p;obtain⟨X,q,rfl⟩:=zU p;have l:=e _ (by exact Ae0);have m:=e _ (by exact AaC _ Ae0);simp only[c9,c31,Auu,At2,As2,Auk] at l m;obtain⟨k,rfl⟩:=l.str_inv Tryz.underlying9;have z:Bm (Gb true [.s k,q])=k.length+1+Bm q:=by simp[Gb,Bm,A8]
     rw[z] at E⊢;obtain⟨ps,rfl,D⟩:=M q (by omega) m;refine⟨(k,ps)::cs,by rw[g];simp[Jr,Gb],?_⟩;rw[B6];simp only;omega
   obtain⟨cs,rfl,f⟩:=this;exact⟨cs,rfl,by omega⟩
  have:∃ps,es=HB ps/\AU ps<=A8 es:=by
   clear f
   induction es with
   | nil=>exact⟨[],by simp[HB],by simp[AU]⟩
   | cons r es j=>
    simp only[A8] at y⊢;obtain⟨ps,C,D⟩:=j (by omega) (λx b=>d x (AaC _ b)) (λx b=>u x (AaC _ b)) (λx b=>o x (AaC _ b));obtain⟨c,rfl,_⟩:=d r (by simp);have a:=o (Gb true c) (by simp);have A:cells (Gb true c)=c:=rfl;rw[A] at a;obtain⟨p,e⟩:=a.st_inv Tryz.underlying116;rw[c52] at p;obtain⟨X,q,Z,x3,F,G,rfl⟩:=ArO p;have l:=e _ (by exact Ae0);have m:=e _ (by exact AaC _ Ae0);have I:=e _ (by exact AaC _ (AaC _ Ae0));have J:=e _ (by exact AaC _ (AaC _ (AaC _ Ae0)));have K:=e _ (by exact AaC _ (AaC _ (AaC _ (AaC _ Ae0))));have L:=e _ (by exact AaC _ (AaC _ (AaC _ (AaC _ (AaC _ Ae0)))));simp only[c9,c31,c3,c50,Auu,At2,As2,Auk] at l m I J K L;obtain⟨k,rfl,Y⟩:=l.int_inv Tryz.underlying3;obtain⟨t,rfl⟩:=m.str_inv Tryz.underlying9;obtain⟨n,rfl⟩:=I.str_inv Tryz.underlying9;obtain⟨s,rfl⟩:=J.str_inv Tryz.underlying9;have z:Bm (Gb true [.i .i64 k,.s t,.s n,.s s,F,G])=1+(t.length+1)+(n.length+1)+(s.length+1)+Bm F+Bm G:=by simp[Gb,Bm,A8];omega
    rw[z] at y⊢;obtain⟨cs,rfl,B⟩:=g F (by omega) K;obtain⟨U,rfl,R⟩:=M G (by omega) L;refine⟨⟨k,t,n,s,cs,U⟩::ps,by rw[C];simp[HB,Aj.enc,Gb],?_⟩;rw[Bk,Aj.wt_eq];simp only;omega
  obtain⟨ps,rfl,S⟩:=this;exact⟨ps,rfl,by omega⟩
end Go.Ir
end
section
namespace Go.Ir
open Go.Proofs
def Dy{a:Type}(w:a->Nat):List a->Nat
 | []=>0
 | x::xs=>w x+Dy w xs
theorem Qa{c:Type}{G:V->Prop}(enc:c->V)(w:c->Nat)(b:∀a,G a->∃x,a=enc x/\w x<=Bm a):∀es,(∀a∈es,G a)->∃xs,es=xs.map enc/\Dy w xs<=A8 es:=by
 intro es
 induction es with
 | nil=>intro _;exact⟨[],rfl,by simp[Dy]⟩
 | cons e es i=>intro h;obtain⟨xs,d,j⟩:=i λx g=>h x (by simp[g]);obtain⟨x,f,k⟩:=b e (h e (by simp));exact⟨x::xs,by rw[d,f];rfl,by simp only[Dy,A8];omega⟩
section
variable{P:Program}
theorem E5{k:Type}{t e:TypeId}{v:V}(h:EN P t [v])(q:P.underlying t=some (.slice e))(p:Di P e=some true)(enc:k->V)(w:k->Nat)(f:∀c,EN P e c->∃x,V.agg c=enc x/\w x<=A8 c) :
  ∃xs:List k,v=.sl (xs.map enc)/\Dy w xs+1<=Bm v:=by
 obtain⟨es,rfl,l,r,o⟩:=h.sl_inv q;rw[p] at l;obtain⟨xs,j,s⟩:=Qa (G:=λa=>∃c,a=V.agg c/\EN P e c) enc w (λa ⟨c,b,g⟩=>by
  subst b;obtain⟨x,j,i⟩:=f c g;exact⟨x,j,by simpa[Bm] using i⟩) es λa m=>by
  obtain⟨c,b,d⟩:=l a m;have:=o a m;rw[d] at this;exact⟨c,b,this⟩
 exact⟨xs,by rw[j],by simp only[Bm];omega⟩
theorem ZF{j:Type}{t e m:TypeId}{v:V}(h:EN P t [v])(s:P.underlying t=some (.slice e))(y:P.underlying e=some (.slice m))(q:Di P e=some false)(d:P.cellsOf e=1)(enc:j->V)(w:j->Nat)(g:∀v,EN P e [v]->∃x,v=enc x/\w x<=Bm v) :
  ∃xs:List j,v=.sl (xs.map enc)/\Dy w xs+1<=Bm v:=by
 obtain⟨es,rfl,k,o,p⟩:=h.sl_inv s;rw[q] at k;obtain⟨xs,u,z⟩:=Qa (G:=λa=>EN P e [a]) enc w g es λa i=>by
  obtain⟨c,r,f⟩:=k a i;have l:=p a i;have b:=o a i;rw[f] at l b;rw[d] at b
  match c,b with
  | [x],_=>have:a=x:=r;rw[this];exact l
 exact⟨xs,by rw[u],by simp only[Bm];omega⟩
theorem EN.bool_inv{t:TypeId}{v:V}(h:EN P t [v])(a:P.underlying t=some .bool):∃b,v=.b b:=by
 cases h with
 | int _ f n h d=>rw[a] at h;cases h
 | bool _ b h=>exact⟨b,rfl⟩
 | str _ l h=>rw[a] at h;cases h
 | sl _ e es h _ _ _=>rw[a] at h;cases h
 | st _ c vs h _ _=>rw[a] at h;cases h
end
theorem ArV{l:List V}(h:l.length=4):∃a b c d,l=[a,b,c,d]:=by
 match l,h with
 | [a,b,c,d],_=>exact⟨a,b,c,d,rfl⟩
theorem AsD{b:Type}(xs:List b):Dy (λ_=>1) xs=xs.length:=by
 induction xs with
 | nil=>rfl
 | cons x xs a=>simp only[Dy,a,Ah5];omega
theorem AmA:Tryz.prog.cellsOf 337=2:=by kernel_rfl
theorem At3:Tryz.prog.cellsOf 175=4:=by kernel_rfl
theorem Anp:Tryz.prog.cellsOf 139=2:=by kernel_rfl
theorem Ap4:Tryz.prog.cellsOf 172=1:=by kernel_rfl
theorem Akv:Tryz.prog.cellsOf 173=1:=by kernel_rfl
theorem AoD:Tryz.prog.cellsOf 137=1:=by kernel_rfl
theorem Ai6:Tryz.prog.cellsOf 22=1:=by kernel_rfl
theorem AeB:Tryz.prog.cellsOf 4=1:=by kernel_rfl
theorem AoE:Tryz.prog.cellsOf 30=16:=by kernel_rfl
theorem AnS:Di Tryz.prog 337=some true:=by kernel_rfl
theorem ArM:Di Tryz.prog 175=some true:=by kernel_rfl
theorem Ap3:Di Tryz.prog 172=some false:=by kernel_rfl
theorem AfE:Di Tryz.prog 139=some true:=by kernel_rfl
theorem Aa3(c:List V)(h:EN Tryz.prog 337 c):∃x:GC,V.agg c=x.enc/\1<=A8 c:=by obtain⟨g,f⟩:=h.st_inv Tryz.underlying337;rw[AmA] at g;obtain⟨i,j,rfl⟩:=zU g;have d:=f _ (by exact Ae0);have e:=f _ (by exact AaC _ Ae0);simp only[c3,Auu,At2,As2,Auk] at d e;obtain⟨a,rfl,_⟩:=d.int_inv Tryz.underlying3;obtain⟨b,rfl,_⟩:=e.int_inv Tryz.underlying3;exact⟨⟨a,b⟩,rfl,by simp[A8,Bm]⟩
theorem Ah7(c:List V)(h:EN Tryz.prog 175 c):∃x:De,V.agg c=x.enc/\x.wt<=A8 c:=by obtain⟨j,d⟩:=h.st_inv Tryz.underlying175;rw[At3] at j;obtain⟨l,m,o,p,rfl⟩:=ArV j;have e:=d _ (by exact Ae0);have f:=d _ (by exact AaC _ Ae0);have g:=d _ (by exact AaC _ (AaC _ Ae0));have i:=d _ (by exact AaC _ (AaC _ (AaC _ Ae0)));simp only[c3,AeB,Akv,Auu,At2,As2,Auk] at e f g i;obtain⟨a,rfl,_⟩:=e.int_inv Tryz.underlying3;obtain⟨b,rfl,_⟩:=f.int_inv Tryz.underlying3;obtain⟨n,rfl⟩:=g.bool_inv Tryz.underlying4;obtain⟨xs,rfl,k⟩:=E5 i Tryz.underlying173 AnS GC.enc (λ_=>1) Aa3;rw[AsD] at k;refine⟨⟨a,b,n,xs⟩,rfl,?_⟩;simp only[A8,Bm] at k⊢;unfold De.wt;simp only;omega
theorem w9(xs:List De):CK xs=Dy De.wt xs+1:=by
 induction xs with
 | nil=>rfl
 | cons x xs a=>simp only[Dy,CK,a];omega
theorem wD(xs:List (List De)):Dq xs=Dy CK xs:=by
 induction xs with
 | nil=>rfl
 | cons x xs a=>simp only[Dy,Dq,a]
theorem YY(xs:List A7):A9 xs=Dy A7.wt xs:=by
 induction xs with
 | nil=>rfl
 | cons x xs a=>simp only[Dy,A9,a]
theorem Abn(v:V)(h:EN Tryz.prog 172 [v]):∃x:List De,v=Fj x/\CK x<=Bm v:=by obtain⟨xs,rfl,a⟩:=E5 h Tryz.underlying172 ArM De.enc De.wt Ah7;exact⟨xs,rfl,by rw[w9];exact a⟩
theorem VI(c:List V)(h:EN Tryz.prog 139 c):∃x:A7,V.agg c=x.enc/\x.wt<=A8 c:=by obtain⟨f,e⟩:=h.st_inv Tryz.underlying139;rw[Anp] at f;obtain⟨i,j,rfl⟩:=zU f;have b:=e _ (by exact Ae0);have d:=e _ (by exact AaC _ Ae0);simp only[c9,AoD,Auu,At2,As2,Auk] at b d;obtain⟨a,rfl⟩:=b.str_inv Tryz.underlying9;obtain⟨xs,rfl,g⟩:=ZF d Tryz.underlying137 Tryz.underlying172 Ap3 Ap4 Fj CK Abn;refine⟨⟨a,xs⟩,rfl,?_⟩;unfold A7.wt;rw[wD];simp only[A8,Bm] at g⊢;omega
end Go.Ir
end
namespace Go.Ir
open Go.Proofs
def bw(s:Aa):Nat:=s.length+1
theorem At9:Di Tryz.prog 9=some false:=by kernel_rfl
theorem Qb(v:V)(h:EN Tryz.prog 28 [v]):∃l:List Aa,v=.sl (l.map V.s)/\Dy bw l+1<=Bm v:=by
 obtain⟨es,rfl,f,i,j⟩:=h.sl_inv Tryz.underlying28;rw[At9] at f;obtain⟨xs,m,o⟩:=Qa (G:=λa=>EN Tryz.prog 9 [a]) V.s bw (λa h=>by
  obtain⟨s,rfl⟩:=h.str_inv Tryz.underlying9;exact⟨s,rfl,by unfold bw;simp[Bm]⟩) es λa e=>by
  obtain⟨c,k,d⟩:=f a e;have g:=j a e;have b:=i a e;rw[d] at g b;rw[c9] at b
  match c,b with
  | [x],_=>have:a=x:=k;rw[this];exact g
 exact⟨xs,by rw[m],by simp only[Bm];omega⟩
theorem iJ{a:Type}{w:a->Nat}{l:List a}{x:a}(h:x∈l):w x<=Dy w l:=by
 induction l with
 | nil=>cases h
 | cons y l b=>
  simp only[Dy];rcases AqN.1 h with rfl|h
  ·omega
  ·have:=b h;omega
theorem Kk{a:Type}{w:a->Nat}{l:List a}(h:∀x,1<=w x):l.length<=Dy w l:=by
 induction l with
 | nil=>simp[Dy]
 | cons y l b=>simp only[Dy,Ah5];have:=h y;omega
theorem Anw{l:List V}(h:l.length=3):∃a b c,l=[a,b,c]:=by
 match l,h with
 | [a,b,c],_=>exact⟨a,b,c,rfl⟩
theorem AnL{l:List V}(h:l.length=5):∃a b c d e,l=[a,b,c,d,e]:=by
 match l,h with
 | [a,b,c,d,e],_=>exact⟨a,b,c,d,e,rfl⟩
theorem AdP:Tryz.prog.cellsOf 28=1:=by kernel_rfl
theorem Ask:Tryz.prog.cellsOf 62=5:=by kernel_rfl
theorem ArD:Di Tryz.prog 62=some true:=by kernel_rfl
theorem dP(c:List V)(h:EN Tryz.prog 62 c):∃x:AY,V.agg c=x.enc/\x.wt<=A8 c:=by obtain⟨j,a⟩:=h.st_inv Tryz.underlying62;rw[Ask] at j;obtain⟨o,p,q,r,m,rfl⟩:=AnL j;have b:=a _ (by exact Ae0);have e:=a _ (by exact AaC _ Ae0);have f:=a _ (by exact AaC _ (AaC _ Ae0));have g:=a _ (by exact AaC _ (AaC _ (AaC _ Ae0)));have i:=a _ (by exact AaC _ (AaC _ (AaC _ (AaC _ Ae0))));simp only[c9,c3,AdP,Auu,At2,As2,Auk] at b e f g i;obtain⟨n,rfl⟩:=b.str_inv Tryz.underlying9;obtain⟨t,rfl,_⟩:=e.int_inv Tryz.underlying3;obtain⟨x,rfl⟩:=f.str_inv Tryz.underlying9;obtain⟨d,rfl,_⟩:=g.int_inv Tryz.underlying3;obtain⟨xs,rfl,k⟩:=Qb m i;refine⟨⟨n,t,x,d,xs⟩,rfl,?_⟩;have:=Kk (w:=bw) (l:=xs) (λ_=>by unfold bw;omega);simp only[A8,Bm] at k⊢;unfold AY.wt;simp only;omega
theorem AaI(v:V)(h:EN Tryz.prog 32 [v]):∃l:List AY,v=.sl (l.map AY.enc)/\Dy AY.wt l<=Bm v:=by obtain⟨xs,rfl,a⟩:=E5 h Tryz.underlying32 ArD AY.enc AY.wt dP;exact⟨xs,rfl,by omega⟩
theorem Aa8{l:List AY}{n:Nat}(h:Dy AY.wt l<=n):l.length<=n/\∀v∈l,v.text.length<=n/\v.list.length<=n:=by have:=Kk (w:=AY.wt) (l:=l) (λx=>by unfold AY.wt;omega);refine⟨by omega,λv a=>?_⟩;have b:=iJ (w:=AY.wt) a;have c:v.wt=1+v.name.length+v.text.length+v.list.length:=rfl;exact⟨by omega,by omega⟩
theorem Ats:Tryz.prog.cellsOf 178=5:=by kernel_rfl
theorem Asb:Tryz.prog.cellsOf 180=3:=by kernel_rfl
theorem AsN:Tryz.prog.cellsOf 182=2:=by kernel_rfl
theorem AtF:Tryz.prog.cellsOf 24=6:=by kernel_rfl
theorem Ao3:Tryz.prog.cellsOf 25=1:=by kernel_rfl
theorem Aqi:Tryz.prog.cellsOf 26=1:=by kernel_rfl
theorem Aqy:Tryz.prog.cellsOf 27=1:=by kernel_rfl
theorem AoQ:Tryz.prog.cellsOf 32=1:=by kernel_rfl
theorem AaN:Tryz.prog.cellsOf 34=19:=by kernel_rfl
theorem Asd:Di Tryz.prog 178=some true:=by kernel_rfl
theorem AsB:Di Tryz.prog 180=some true:=by kernel_rfl
theorem As4:Di Tryz.prog 182=some true:=by kernel_rfl
def rN(x:CF):Nat:=bw x.style+bw x.two+bw x.start+bw x.mid+bw x.fin
def sE(x:Dt):Nat:=bw x.unit+bw x.cls+bw x.pat
def fP(x:CE):Nat:=bw x.skel+bw x.pat
theorem Agf(c:List V)(h:EN Tryz.prog 178 c):∃x:CF,V.agg c=x.enc/\rN x<=A8 c:=by obtain⟨i,a⟩:=h.st_inv Tryz.underlying178;rw[Ats] at i;obtain⟨p,q,r,s,t,rfl⟩:=AnL i;have b:=a _ (by exact Ae0);have d:=a _ (by exact AaC _ Ae0);have e:=a _ (by exact AaC _ (AaC _ Ae0));have f:=a _ (by exact AaC _ (AaC _ (AaC _ Ae0)));have g:=a _ (by exact AaC _ (AaC _ (AaC _ (AaC _ Ae0))));simp only[c9,Auu,At2,As2,Auk] at b d e f g;obtain⟨j,rfl⟩:=b.str_inv Tryz.underlying9;obtain⟨k,rfl⟩:=d.str_inv Tryz.underlying9;obtain⟨l,rfl⟩:=e.str_inv Tryz.underlying9;obtain⟨m,rfl⟩:=f.str_inv Tryz.underlying9;obtain⟨o,rfl⟩:=g.str_inv Tryz.underlying9;exact⟨⟨j,k,l,m,o⟩,rfl,by simp only[rN,bw,A8,Bm];omega⟩
theorem Aio(c:List V)(h:EN Tryz.prog 180 c):∃x:Dt,V.agg c=x.enc/\sE x<=A8 c:=by obtain⟨f,a⟩:=h.st_inv Tryz.underlying180;rw[Asb] at f;obtain⟨k,l,m,rfl⟩:=Anw f;have b:=a _ (by exact Ae0);have d:=a _ (by exact AaC _ Ae0);have e:=a _ (by exact AaC _ (AaC _ Ae0));simp only[c9,Auu,At2,As2,Auk] at b d e;obtain⟨g,rfl⟩:=b.str_inv Tryz.underlying9;obtain⟨i,rfl⟩:=d.str_inv Tryz.underlying9;obtain⟨j,rfl⟩:=e.str_inv Tryz.underlying9;exact⟨⟨g,i,j⟩,rfl,by simp only[sE,bw,A8,Bm];omega⟩
theorem AkM(c:List V)(h:EN Tryz.prog 182 c):∃x:CE,V.agg c=x.enc/\fP x<=A8 c:=by obtain⟨e,d⟩:=h.st_inv Tryz.underlying182;rw[AsN] at e;obtain⟨i,j,rfl⟩:=zU e;have a:=d _ (by exact Ae0);have b:=d _ (by exact AaC _ Ae0);simp only[c9,Auu,At2,As2,Auk] at a b;obtain⟨f,rfl⟩:=a.str_inv Tryz.underlying9;obtain⟨g,rfl⟩:=b.str_inv Tryz.underlying9;exact⟨⟨f,g⟩,rfl,by simp only[fP,bw,A8,Bm];omega⟩
theorem AiN{l:List V}(h:l.length=16):∃a b c d e m o p q r s f g i j k,l=[a,b,c,d,e,m,o,p,q,r,s,f,g,i,j,k]:=by
 match l,h with
 | [a,b,c,d,e,m,o,p,q,r,s,f,g,i,j,k],_=>grind
theorem Apk{n:Int}(h:(Lit.int .i64 n).wf=true):-9223372036854775808<=n/\n<9223372036854775808:=by
 simp only[Lit.wf,Aan,decide_eq_true_eq] at h;have a:IntKind.i64.min=-9223372036854775808:=by decide
 have b:IntKind.i64.max=9223372036854775807:=by decide
 omega
theorem TS(l:List Aa):Fo l<=30*Dy bw l:=by
 induction l with
 | nil=>simp[Fo,BA,Dy]
 | cons x l a=>unfold Fo at *;simp only[BA,Dy,Ii,bw] at *;omega
theorem Qe{a:Type}{f g:a->Nat}(h:∀x,f x<=30*g x)(l:List a):BA f l<=30*Dy g l:=by
 induction l with
 | nil=>simp[BA,Dy]
 | cons x l b=>simp only[BA,Dy];have:=h x;omega
set_option maxHeartbeats 2000000 in
theorem AkQ(c:List V)(h:EN Tryz.prog 30 c):∃l:BO,V.agg c=l.enc/\N8 l<=200*A8 c/\A9 l.card+A9 l.ord<=A8 c/\-9223372036854775808<=l.prim/\l.sec<9223372036854775808:=by
 obtain⟨J,a⟩:=h.st_inv Tryz.underlying30;rw[AoE] at J;obtain⟨x0,x1,x2,x3,x4,y0,y1,y2,y3,y4,y5,x6,x7,x8,x9,s,rfl⟩:=AiN J;have v:=a _ (by exact Ae0);have y:=a _ (by exact AaC _ Ae0);have z:=a _ (by exact AaC _ (AaC _ Ae0));have A:=a _ (by exact AaC _ (AaC _ (AaC _ Ae0)));have B:=a _ (by exact AaC _ (AaC _ (AaC _ (AaC _ Ae0))));have m:=a _ (by exact AaC _ (AaC _ (AaC _ (AaC _ (AaC _ Ae0)))));have f6:=a _ (by exact AaC _ (AaC _ (AaC _ (AaC _ (AaC _ (AaC _ Ae0))))));have f7:=a _ (by exact AaC _ (AaC _ (AaC _ (AaC _ (AaC _ (AaC _ (AaC _ Ae0)))))));have f8:=a _ (by exact AaC _ (AaC _ (AaC _ (AaC _ (AaC _ (AaC _ (AaC _ (AaC _ Ae0))))))));have f9:=a _ (by exact AaC _ (AaC _ (AaC _ (AaC _ (AaC _ (AaC _ (AaC _ (AaC _ (AaC _ Ae0)))))))));have f10:=a _ (by exact AaC _ (AaC _ (AaC _ (AaC _ (AaC _ (AaC _ (AaC _ (AaC _ (AaC _ (AaC _ Ae0))))))))));clear a;simp only[c9,Ai6,AtF,Ao3,Aqi,Aqy,AdP,Auu,At2,As2,Auk] at v y z A B m f6 f7 f8 f9 f10;obtain⟨k,rfl⟩:=v.str_inv Tryz.underlying9;obtain⟨j,rfl⟩:=y.str_inv Tryz.underlying9;obtain⟨d,rfl⟩:=z.str_inv Tryz.underlying9;obtain⟨xs,rfl,K⟩:=E5 A Tryz.underlying22 AfE A7.enc A7.wt VI;obtain⟨ys,rfl,i⟩:=E5 B Tryz.underlying22 AfE A7.enc A7.wt VI;obtain⟨_,b⟩:=m.st_inv Tryz.underlying24;have C:=b _ (by exact Ae0);have D:=b _ (by exact AaC _ Ae0);have E:=b _ (by exact AaC _ (AaC _ Ae0));have F:=b _ (by exact AaC _ (AaC _ (AaC _ Ae0)));have G:=b _ (by exact AaC _ (AaC _ (AaC _ (AaC _ Ae0))));have I:=b _ (by exact AaC _ (AaC _ (AaC _ (AaC _ (AaC _ Ae0)))));clear b m;simp only[c9,c3,Auu,At2,As2,Auk] at C D E F G I;obtain⟨M,rfl⟩:=C.str_inv Tryz.underlying9;obtain⟨N,rfl⟩:=D.str_inv Tryz.underlying9;obtain⟨O,rfl⟩:=E.str_inv Tryz.underlying9;obtain⟨R,rfl⟩:=F.str_inv Tryz.underlying9;obtain⟨U,rfl,Y⟩:=G.int_inv Tryz.underlying3;obtain⟨X,rfl,Z⟩:=I.int_inv Tryz.underlying3;obtain⟨L,rfl,o⟩:=E5 f6 Tryz.underlying25 Asd CF.enc rN Agf;obtain⟨us,rfl,p⟩:=E5 f7 Tryz.underlying26 AsB Dt.enc sE Aio;obtain⟨t,rfl,q⟩:=E5 f8 Tryz.underlying27 As4 CE.enc fP AkM;obtain⟨ms,rfl,r⟩:=Qb x9 f9;obtain⟨u,rfl,e⟩:=Qb s f10;refine⟨⟨k,j,d,xs,ys,M,N,O,R,U,X,L,us,t,ms,u⟩,rfl,?_,?_,(Apk Y).1,(Apk Z).2⟩
 ·have S:=TS [k,j,d,M,N,O,R];have h2:=TS u;have h3:=TS ms;have h4:=Qe (f:=CF.sz) (g:=rN) (λx=>by simp only[CF.sz,Fo,BA,Ii,rN,bw];omega) L;have h5:=Qe (f:=Dt.sz) (g:=sE) (λx=>by simp only[Dt.sz,Fo,BA,Ii,sE,bw];omega) us;have h6:=Qe (f:=CE.sz) (g:=fP) (λx=>by simp only[CE.sz,Fo,BA,Ii,fP,bw];omega) t;have h7:=Kk (w:=A7.wt) (l:=xs) (λ_=>by unfold A7.wt;omega);have h8:=Kk (w:=A7.wt) (l:=ys) (λ_=>by unfold A7.wt;omega);simp only[Dy,bw] at S;unfold N8;simp only[A8,Bm] at K i o p q r e⊢;omega
 ·simp only[YY];simp only[A8,Bm] at K i⊢;omega
theorem AcB(c:List V)(h:EN Tryz.prog 34 c):∃L ps vs d,V.agg c=NZ L ps vs d/\N8 L<=200*A8 c/\A9 L.card+A9 L.ord<=A8 c/\AU ps<=A8 c/\Dy AY.wt vs<=A8 c/\-9223372036854775808<=L.prim/\L.sec<9223372036854775808:=by
 obtain⟨B,k⟩:=h.st_inv Tryz.underlying34;rw[AaN] at B;obtain⟨a,r,rfl,y,D⟩:∃a r,c=a++r/\a.length=16/\r.length=3:=⟨c.take 16,c.drop 16,(Ax5 16 c).symm,by simp;omega,by simp;omega⟩;obtain⟨g,e,f,rfl⟩:=Anw D;have s:=k _ (by exact Ae0);have t:=k _ (by exact AaC _ Ae0);have u:=k _ (by exact AaC _ (AaC _ Ae0));have v:=k _ (by exact AaC _ (AaC _ (AaC _ Ae0)));clear k;have b:(a++[g,e,f]).drop 16=[g,e,f]:=by rw[<-y,AxK]
 have l:(a++[g,e,f]).drop 17=[e,f]:=by rw[<-Axj (i:=1) (j:=16),b];rfl
 have m:(a++[g,e,f]).drop 18=[f]:=by rw[<-Axj (i:=2) (j:=16),b];rfl
 have q:(a++[g,e,f]).take 16=a:=by rw[<-y,List.take_left]
 simp only[AoE,c31,AoQ,AeB,Auu,b,l,m,q,As2,Auk] at s t u v;obtain⟨L,x,z,A,o,p⟩:=AkQ a s;obtain⟨ps,rfl,C⟩:=mJ _ g (Abm _) t;obtain⟨vs,rfl,E⟩:=AaI e u;obtain⟨d,rfl⟩:=v.bool_inv Tryz.underlying4;refine⟨L,ps,vs,d,?_,?_,?_,?_,?_,o,p⟩
 ·rw[BO.enc_eq] at x;cases x;rw[Gd,HS];rfl
 all_goals (rw[FN];simp only[A8];omega)
end Go.Ir
