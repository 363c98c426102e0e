/-
  The codes that the evaluator runs for a closed call, and ..
  The three searches that calquelaw30.awake makes, by the ..
  Messages as plain Lean data: parts and cases, their form as ..
  The IR of functions of the program, printed by our own tool
  Contracts: short.
  What the contracts share.
  What the contracts share: calls that look at one entry of ..
  Contracts: the functions on bytes and names.
  Contracts: names, skeletons, digits.
  The IR of generic functions of package slices, with ..
  Contracts of generic functions of package slices, for any ..
  Contracts of generic functions of package slices over a ..
  Contracts: Plain, Equal, of the program and of the ..
  Contracts: Plain of the reference
  Contracts: Depth, Size, Few, In of the reference.
  Contracts: Equal of the reference.
  Rules as plain Lean data: spans, relations, conditions, ..
  Numbers as plain Lean data: sign, whole part, fraction.
  Selectors as plain Lean data: what collects them.
  Maps that are sets of strings, and calls over a store with ..
  Stores of which a part is a list
  Contracts: the selectors' find, of both sides.
  Selectors whose keys are owned: the names in the store, and ..
  DERIVED: THE SHELF's CONTRACTS AT THIS DUMP, IN PLAIN WORDS ..
  The library's contracts, as the shelf gives them, as ..
  Contracts: numbers, of the program.
  Contracts: numbers, of the reference.
  Contracts: keys, names of the reference.
  Contracts: the names of a message, in the reference.
-/
import Derived.Test.YtdeldicoigeabaaGreatDoorPac
import Derived.Shelf.Strconv.Itoa3
import Derived.Lib.SlTrimSet
import Derived.Lib.Bytealg
import Derived.Lib.Atoi
import Derived.Shelf.Small.Wraps
import Derived.Shelf.Strconv.Atoi
import Derived.Shelf.Strings.Search2
import Derived.Shelf.Strings.SlTrimAscii
import Derived.Deep.Draws
import Derived.Lib.AtoiErrMem
set_option linter.all false
open Nat (reduceEqDiff)
section
set_option maxRecDepth 100000
namespace Go.Ir
open Go.Proofs
def Af0:IC:=rS [m1 3 0,bC 4 .geq 3 (.i .u8 97),m1 5 4,BX 6 5 0,gT 7 5 (.bin .leq (.t 6) (.c (.i .u8 122))),pA 8 5 7,m1 9 8,B0 10 9 0,gF 11 9 (.bin .geq (.t 10) (.c (.i .u8 65))),B0 12 9 11,BX 13 12 0,gT 14 12 (.bin .leq (.t 13) (.c (.i .u8 90))),gF 15 9 (.pick (.t 12) (.t 14) (.c (.b false))),pO 16 9 15,m1 17 16,B0 18 17 0,gF 19 17 (.bin .geq (.t 18) (.c (.i .u8 48))),B0 20 17 19,BX 21 20 0,gT 22 20 (.bin .leq (.t 21) (.c (.i .u8 57))),gF 23 17 (.pick (.t 20) (.t 22) (.c (.b false))),pO 24 17 23,m1 2 24] [2] .ret
def AdT:IC:=rS [mC 2 (.b false)] [0] Af0
def uY:B7:=⟨25,AdT,[.t 2]⟩
theorem Acb:AQ π 119 uY=true:=by kernel_rfl
def Af6:IC:=rS [m1 26 0,m1 27 3,o1 28 (.idx (.t 26) (.t 27)),q1 29 119 28,nT 30 29,m1 31 30,BX 32 31 0,BX 33 31 3,gT 34 31 (.idx (.t 32) (.t 33)),gT 35 31 (.bin .neq (.t 34) (.c (.i .u8 95))),pA 36 31 35,m1 37 36,BX 38 37 0,BX 39 37 3,gT 40 37 (.idx (.t 38) (.t 39)),gT 41 37 (.bin .neq (.t 40) (.c (.i .u8 45))),pA 42 37 41] [0,22,23,42] (cD 42 nO .skip)
def Abj:IC:=rS [bT 24 .lss 23 22] [0,22,23,24] (sQ (cD 24 .skip (.exit 0)) (sQ (.block 1 (rS [m1 25 23,m1 3 25] [0,3,22,23] Af6)) (.seqr [bZ 43 .add 23 1,m1 23 43] [0,22,23])))
def Aj0:IC:=sQ (rS [m1 4 0,bC 5 .eql 4 (.s []),m1 6 5,B0 7 6 0,gF 8 6 (.lenS (.t 7)),EZ 9 6 .gtr 8 40,pO 10 6 9,m1 11 10,B0 12 11 0,gF 13 11 (.idx (.t 12) (ci 0)),gF 14 11 (.bin .lss (.t 13) (.c (.i .u8 97))),pO 15 11 14,m1 16 15,B0 17 16 0,gF 18 16 (.idx (.t 17) (ci 0)),gF 19 16 (.bin .gtr (.t 18) (.c (.i .u8 122))),pO 20 16 19] [0,20] (cD 20 nO .skip)) (sQ (rS [m1 21 0,nS 22 21,mZ 23 0] [0,22,23] (.block 0 (.loop Abj))) (rS [mC 2 (.b true)] [2] .ret))
def AkB:IC:=rS [mC 2 (.b false)] [0] Aj0
def Alx:B7:=⟨44,AkB,[.t 2]⟩
theorem Aoi:AQ π 92 Alx=true:=by kernel_rfl
def AiQ:IC:=rS [mC 2 (.b false)] [0] (rS [m1 3 0,bZ 4 .geq 3 7,m1 5 4,BX 6 5 0,F7 7 5 .leq 6 9,pA 8 5 7,m1 2 8] [2] .ret)
def Amr:B7:=⟨9,AiQ,[.t 2]⟩
theorem Ak0:AQ π 35 Amr=true:=by kernel_rfl
def AaG:IC:=sQ (rS [bZ 19 .eql 9 2,m1 18 19] [1,3,4,9,18] (cD 18 nO (rS [bZ 20 .eql 9 11,m1 18 20] [1,3,4,9,18] (cD 18 nO (rS [bZ 21 .eql 9 7,m1 18 21] [1,3,4,9,18] (cD 18 .skip nO)))))) (cD 18 (.seqr [fA 24 1 2,l1 25 24,fA 26 3 2,sT 26 25 1] [1,3,4]) nO)
def AeT:IC:=rS [m1 92 4,m1 93 92,D0 94 93 1 1,Dm 95 93 94,D0 96 93 3 1,Dm 97 93 96,gT 98 93 (.bin .eql (.t 95) (.t 97)),pA 99 93 98,m1 100 99,D0 101 100 1 2,Dm 102 100 101,D0 103 100 3 2,Dm 104 100 103,gT 105 100 (.bin .eql (.t 102) (.t 104)),pA 106 100 105,m1 107 106,D0 108 107 1 3,Dm 109 107 108,D0 110 107 3 3,Dm 111 107 110,gT 112 107 (.bin .eql (.t 109) (.t 111)),pA 113 107 112,m1 114 113,D0 115 114 1 4,Dm 116 114 115,gT 117 114 (.lenL (.t 116)),F7 118 114 .eql 117 0,BX 119 114 118,C4 120 119 1 0,C3 121 119 120,gF 122 119 (.call 35 [.t 121]),gT 123 114 (.pick (.t 119) (.c (.b true)) (.t 122)),pA 124 114 123,m1 125 124,D0 126 125 1 5,Dm 127 125 126,gT 128 125 (.lenL (.t 127)),F7 129 125 .eql 128 0,BX 130 125 129,C4 131 130 1 0,C3 132 130 131,EZ 133 130 .eql 132 11,gT 134 125 (.pick (.t 130) (.c (.b true)) (.t 133)),pA 135 125 134,m1 2 135] [2] .ret
def Afs:IC:=sQ (rS [fA 73 3 2,l1 74 73,bC 75 .neq 74 (.s []),m1 76 75,C4 77 76 1 0,C3 78 76 77,EZ 79 76 .neq 78 1,B0 80 76 79,D0 81 80 1 0,Dm 82 80 81,F7 83 80 .neq 82 10,gF 84 76 (.pick (.t 80) (.t 83) (.c (.b false))),pO 85 76 84] [1,3,4,85] (cD 85 (.seqr [m1 86 4,m1 87 86,D0 88 87 1 2,Dm 89 87 88,gT 90 87 (.call 92 [.t 89]),pA 91 87 90,m1 4 91] [1,3,4]) nO)) AeT
def Apc:IC:=rS [fA 5 1 0,l1 6 5,o1 7 (.build [.i .i64 0,.s [],.s [],.s [],.nil,.nil] [(0,1,.t 6)]),o1 3 (.alloc (.agg [.i .i64 0,.s [],.s [],.s [],.nil,.nil])),sT 3 7 6] [1,3] (rS [mC 4 (.b true)] [1,3,4] (sQ (rS [fA 8 1 0,l1 9 8] [1,3,4,9] (.block 0 (rS [bZ 11 .eql 9 1,m1 10 11] [1,3,4,9,10] (cD 10 nO AaG)))) Afs))
def Am6:IC:=rS [bX 1 0,mC 2 (.b false)] [1] Apc
def Am5:B7:=⟨136,Am6,[.t 2]⟩
theorem Ai8:AQ π 74 Am5=true:=by kernel_rfl
def p7:IC:=cD 4 .skip (rS [bC 8 .eql 3 (.s [102,101,119]),m1 4 8] [3,4] (cD 4 nO (rS [bC 9 .eql 3 (.s [109,97,110,121]),m1 4 9] [3,4] (cD 4 nO (.seqr [bC 10 .eql 3 (.s [111,116,104,101,114]),m1 4 10] [4])))))
def AbI:IC:=.block 0 (sQ (rS [bC 5 .eql 3 (.s [122,101,114,111]),m1 4 5] [3,4] (cD 4 nO (rS [bC 6 .eql 3 (.s [111,110,101]),m1 4 6] [3,4] (cD 4 nO (rS [bC 7 .eql 3 (.s [116,119,111]),m1 4 7] [3,4] p7))))) (cD 4 (rS [mC 2 (.b true)] [2] .ret) nO))
def Afq:IC:=rS [mC 2 (.b false)] [0] (sQ (rS [m1 3 0] [3] AbI) nO)
def zL:B7:=⟨11,Afq,[.t 2]⟩
theorem Abx:AQ π 120 zL=true:=by kernel_rfl
def AaE:IC:=rS [m1 16 1,q1 17 120 16,m1 18 17,B0 19 18 6,B0 20 18 19,BX 21 20 5,gT 22 20 (.call 113 [.t 21]),gF 23 18 (.pick (.t 20) (.t 22) (.c (.b false))),pO 24 18 23,m1 4 24] [4] .ret
def AlV:IC:=sQ (rS [m1 7 0,bZ 8 .eql 7 9] [1,8] (cD 8 nO .skip)) (rS [m1 12 1,o1 13 (.call 52 [.t 12,.c (.s [61])]),m1 11 13,xT 14 11 0,xT 15 11 1,m1 5 14,m1 6 15] [1,5,6] AaE)
def Ao7:IC:=rS [mC 4 (.b false)] [0,1] AlV
def Apg:B7:=⟨25,Ao7,[.t 4]⟩
theorem AlB:AQ π 94 Apg=true:=by kernel_rfl
def Adk:IC:=sQ (rS [fA 20 5 0,l1 21 20,fA 22 11 0,l1 23 22,q2 24 94 21 23,nT 25 24,m1 26 25,B0 27 26 9,C4 28 26 11 0,C3 29 26 28,gF 30 26 (.rdm (.mget .str (.b false) false) (.t 27) [.t 29]),pO 31 26 30,m1 32 31,gF 33 32 (.load (.t 4) 1 true),C4 34 32 11 1,C3 35 32 34,B0 36 32 2,B0 37 32 3,B0 38 32 37,C4 39 38 5 0,C3 40 38 39,EZ 41 38 .neq 40 9,gF 42 32 (.pick (.t 38) (.c (.b true)) (.t 41)),gF 43 32 (.calls 54 [.t 33,.t 35,.t 36,.t 42]),gF 44 32 (.not (.t 43)),pO 45 32 44] [2,3,4,5,9,11,14,15,16,45] (cD 45 nO .skip)) (.seqr [m1 46 9,fA 47 11 0,l1 48 47,o0 (.wrm (.mput .str) (.t 46) [.t 48,.c (.b true)])] [2,3,4,5,9,14,15,16])
def AfN:IC:=sQ (.block 1 (rS [iA 18 14 16 56 2,lA 19 18 2,o1 11 (.alloc (.agg [.s [],.nil])),sT 11 19 2] [2,3,4,5,9,11,14,15,16] Adk)) (.seqr [bZ 49 .add 16 1,m1 16 49] [2,3,4,5,9,14,15,16])
def AaF:IC:=rS [fA 50 5 4,l1 51 50,nL 52 51,bZ 53 .leq 52 20,m1 54 53,BX 55 54 9,gT 56 54 (.rdm (.mget .str (.b false) false) (.t 55) [.c (.s [111,116,104,101,114])]),pA 57 54 56,m1 8 57] [8] .ret
def Akc:IC:=sQ (rS [fA 13 5 4,l1 14 13,nL 15 14,mZ 16 0] [2,3,4,5,9,14,15,16] (.block 0 (.loop (rS [bT 17 .lss 16 15] [2,3,4,5,9,14,15,16,17] (sQ (cD 17 .skip (.exit 0)) AfN))))) AaF
def Ai3:IC:=rS [bX 4 0,bX 5 1,mC 8 (.b false)] [2,3,4,5] (rS [o1 12 (.mkm .mkmap []),m1 9 12] [2,3,4,5,9] Akc)
def AkC:B7:=⟨58,Ai3,[.t 8]⟩
theorem Ame:AQ π 75 AkC=true:=by kernel_rfl
def Acw:IC:=rS [fA 81 10 0,l1 82 81,bZ 83 .neq 82 11,m1 84 83,D0 85 84 10 2,Dm 86 84 85,gT 87 84 (.bin .neq (.t 86) (.c (.s []))),pA 88 84 87] [1,2,3,4,10,11,12,13,88] (cD 88 (.seqr [fA 89 4 0,l1 90 89,fA 91 10 2,l1 92 91,o0 (.wrm (.mput .str) (.t 90) [.t 92,.c (.b true)])] [1,2,3,4,11,12,13]) nO)
def Ae0:IC:=sQ (rS [fA 65 10 0,l1 66 65,q1 67 35 66,m1 68 67,BX 69 68 2,F7 70 68 .geq 69 8,BX 71 68 70,gF 72 71 (.load (.t 4) 1 true),gF 73 71 (.load (.t 10) 6 true),B0 74 71 2,EZ 75 71 .add 74 1,B0 76 71 3,gF 77 71 (.calls 75 [.t 72,.t 73,.t 75,.t 76]),gF 78 71 (.not (.t 77)),gT 79 68 (.pick (.t 71) (.c (.b true)) (.t 78)),pA 80 68 79] [1,2,3,4,10,11,12,13,80] (cD 80 nO .skip)) Acw
def AcD:IC:=sQ (rS [fA 48 10 0,l1 49 48,bZ 50 .eql 49 11,m1 51 50,BX 52 51 2,F7 53 51 .geq 52 8,BX 54 51 53,gF 55 54 (.load (.t 4) 1 true),C4 56 54 10 5,C3 57 54 56,B0 58 54 2,EZ 59 54 .add 58 1,B0 60 54 3,gF 61 54 (.calls 54 [.t 55,.t 57,.t 59,.t 60]),gF 62 54 (.not (.t 61)),gT 63 51 (.pick (.t 54) (.c (.b true)) (.t 62)),pA 64 51 63] [1,2,3,4,10,11,12,13,64] (cD 64 nO .skip)) Ae0
def AfK:IC:=sQ (rS [lA 18 10 6,o1 19 (.callr 74 [.t 18]),nT 20 19,m1 21 20,C4 22 21 10 0,C3 23 21 22,EZ 24 21 .eql 23 10,B0 25 21 24,BX 26 25 3,gT 27 25 (.not (.t 26)),gF 28 21 (.pick (.t 25) (.t 27) (.c (.b false))),pO 29 21 28,m1 30 29,B0 31 30 9,EZ 32 30 .gtr 31 0,B0 33 30 32,D0 34 33 10 0,Dm 35 33 34,F7 36 33 .eql 35 1,gF 37 30 (.pick (.t 33) (.t 36) (.c (.b false))),B0 38 30 37,BX 39 38 1,BX 40 38 9,F7 41 38 .sub 40 1,gT 42 38 (.iaddr (.t 39) (.t 41) 59 6),D0 43 38 42 0,Dm 44 38 43,F7 45 38 .eql 44 1,gF 46 30 (.pick (.t 38) (.t 45) (.c (.b false))),pO 47 30 46] [1,2,3,4,10,11,12,13,47] (cD 47 nO .skip)) AcD
def Aec:IC:=sQ (.block 1 (rS [m1 15 13,iA 16 11 13 59 6,lA 17 16 6,o1 10 (.alloc (.agg [.i .i64 0,.s [],.s [],.s [],.nil,.nil])),m1 9 15,sT 10 17 6] [1,2,3,4,9,10,11,12,13] AfK)) (.seqr [bZ 93 .add 13 1,m1 13 93] [1,2,3,4,11,12,13])
def Ah2:IC:=sQ (rS [m1 11 1,nL 12 11,mZ 13 0] [1,2,3,4,11,12,13] (.block 0 (.loop (rS [bT 14 .lss 13 12] [1,2,3,4,11,12,13,14] (sQ (cD 14 .skip (.exit 0)) Aec))))) (rS [mC 8 (.b true)] [8] .ret)
def Akg:IC:=rS [bX 4 0,mC 8 (.b false)] [1,2,3,4] Ah2
def AnN:B7:=⟨94,Akg,[.t 8]⟩
theorem Apt:AQ π 54 AnN=true:=by kernel_rfl
def AjW:IC:=rS [lA 8 5 1,m1 9 0,m1 10 1,o1 11 (.calls 54 [.t 8,.t 9,ci 0,.t 10]),m1 12 11,D0 13 12 5 0,Dm 14 12 13,gT 15 12 (.rdm .mlen (.t 14) []),F7 16 12 .leq 15 20,pA 17 12 16,m1 18 17,BX 19 18 0,gT 20 18 (.callr 55 [.t 19]),F7 21 18 .leq 20 4000,pA 22 18 21,m1 4 22] [4] .ret
def Aim:IC:=rS [mC 4 (.b false)] [0,1] (rS [o1 6 (.mkm .mkmap []),o1 7 (.build [.nm] [(0,1,.t 6)]),o1 5 (.alloc (.agg [.nm])),sT 5 7 1] [0,1,5] AjW)
def AhH:B7:=⟨23,Aim,[.t 4]⟩
theorem AkJ:AQ π 32 AhH=true:=by kernel_rfl
def Al0:IC:=rS [mC 2 (.b false)] [0] (rS [m1 3 0,o1 4 (.callr 32 [.t 3,.c (.b false)]),m1 2 4] [2] .ret)
def Amg:B7:=⟨5,Al0,[.t 2]⟩
theorem Aox:AQ π 14 Amg=true:=by kernel_rfl
def AbV:IC:=rS [o1 1 (.build [.s [],.s [],.s [],.s [],.s [],.s []] [(0,1,.c (.s [122,101,114,111])),(1,1,.c (.s [111,110,101])),(2,1,.c (.s [116,119,111])),(3,1,.c (.s [102,101,119])),(4,1,.c (.s [109,97,110,121])),(5,1,.c (.s [111,116,104,101,114]))]),sT 0 1 6] [0] .ret
def Acd:IC:=rS [o1 0 (.alloc (.agg [.s [],.s [],.s [],.s [],.s [],.s []]))] [0] AbV
def wV:B7:=⟨2,Acd,[.c 0 6 true]⟩
theorem Ad4:AQ π 111 wV=true:=by kernel_rfl
def Ae5:IC:=sQ (.block 1 (rS [m1 10 8,m1 5 10] [0,1,5,7,8] (rS [m1 11 1,m1 12 0,m1 13 5,iA 14 12 13 9 1,l1 15 14,bT 16 .eql 11 15] [0,1,5,7,8,16] (cD 16 (rS [m1 17 5,m1 4 17] [4] .ret) .skip)))) (.seqr [bZ 18 .add 8 1,m1 8 18] [0,1,7,8])
def AkK:IC:=sQ (rS [m1 6 0,nL 7 6,mZ 8 0] [0,1,7,8] (.block 0 (.loop (rS [bT 9 .lss 8 7] [0,1,7,8,9] (sQ (cD 9 .skip (.exit 0)) Ae5))))) (rS [mZ 4 (-1)] [4] .ret)
def AjD:IC:=rS [mZ 4 0] [0,1] AkK
def AnD:B7:=⟨19,AjD,[.t 4]⟩
theorem AmL:AQ π 69 AnD=true:=by kernel_rfl
def Ah0:IC:=rS [mC 4 (.b false)] [0,1] (rS [m1 5 0,m1 6 1,o1 7 (.callr 69 [.t 5,.t 6]),bZ 8 .geq 7 0,m1 4 8] [4] .ret)
def AkR:B7:=⟨9,Ah0,[.t 4]⟩
theorem Ani:AQ π 48 AkR=true:=by kernel_rfl
def Ac4:IC:=rS [o1 4 (.call 111 []),o1 3 (.alloc (.agg [.s [],.s [],.s [],.s [],.s [],.s []])),sT 3 4 6] [0,3] (rS [o1 5 (.frz (.t 3) 6),m1 6 0,o1 7 (.callr 48 [.t 5,.t 6]),m1 2 7] [2] .ret)
def Aba:IC:=rS [mC 2 (.b false)] [0] Ac4
def Aac:B7:=⟨8,Aba,[.t 2]⟩
theorem Aea:AQ π 104 Aac=true:=by kernel_rfl
def mF:IC:=sQ (.block 1 (rS [m1 10 8,m1 5 10] [0,1,5,7,8] (rS [m1 11 1,m1 12 0,m1 13 5,iA 14 12 13 40 4,lA 15 14 4,o1 16 (.callw (.t 11) [.t 15])] [0,1,5,7,8,16] (cD 16 nO .skip)))) (.seqr [bZ 18 .add 8 1,m1 8 18] [0,1,7,8])
def AbY:IC:=sQ (rS [m1 6 0,nL 7 6,mZ 8 0] [0,1,7,8] (.block 0 (.loop (rS [bT 9 .lss 8 7] [0,1,7,8,9] (sQ (cD 9 .skip (.exit 0)) mF))))) (rS [mZ 4 (-1)] [4] .ret)
def AcA:IC:=rS [mZ 4 0] [0,1] AbY
def v7:B7:=⟨19,AcA,[.t 4]⟩
theorem Agv:AQ π 139 v7=true:=by kernel_rfl
def AcQ:IC:=rS [mC 4 (.b false)] [0,1] (rS [m1 5 0,m1 6 1,o1 7 (.calls 139 [.t 5,.t 6]),bZ 8 .geq 7 0,m1 4 8] [4] .ret)
def wI:B7:=⟨9,AcQ,[.t 4]⟩
theorem AfA:AQ π 116 wI=true:=by kernel_rfl
def Ab8:IC:=rS [mZ 2 0] [0] (sQ (rS [m1 3 0,bZ 4 .eql 3 3,m1 5 4,B0 6 5 0,EZ 7 5 .eql 6 4,pO 8 5 7] [8] (cD 8 nO .skip)) (rS [mZ 2 100] [2] .ret))
def w9:B7:=⟨9,Ab8,[.t 2]⟩
theorem AbX:AQ π 146 w9=true:=by kernel_rfl
def pG:IC:=sQ (.ops [fA 45 4 0,l1 46 45,bZ 47 .lss 46 0,m1 48 47,C4 49 48 4 0,C3 50 48 49,C4 51 48 4 1,C3 52 48 51,gF 53 48 (.bin .gtr (.t 50) (.t 52)),pO 54 48 53,m1 55 54,C4 56 55 4 1,C3 57 55 56,C4 58 55 1 0,C3 59 55 58,gF 60 55 (.call 146 [.t 59]),gF 61 55 (.bin .gtr (.t 57) (.t 60)),pO 62 55 61] [1,39,40,41,62] [[0,1],[1,2],[2,3],[3,4],[3,5],[4,5],[3,6],[3,7],[6,7],[3,8],[5,8],[7,8],[3,9],[8,9],[9,10],[10,11],[10,12],[11,12],[10,13],[10,14],[13,14],[10,15],[14,15],[10,16],[12,16],[15,16],[10,17],[16,17]]) (cD 62 nO .skip)
def nY:IC:=sQ (.block 1 (rS [iA 43 39 41 37 2,lA 44 43 2,o1 4 (.alloc (.agg [.i .i64 0,.i .i64 0])),sT 4 44 2] [1,4,39,40,41] pG)) (.seqr [bZ 63 .add 41 1,m1 41 63] [1,39,40,41])
def Ab1:IC:=sQ (rS [fA 38 1 3,l1 39 38,nL 40 39,mZ 41 0] [1,39,40,41] (.block 0 (.loop (rS [bT 42 .lss 41 40] [1,39,40,41,42] (sQ (cD 42 .skip (.exit 0)) nY))))) (rS [mC 2 (.b true)] [2] .ret)
def AcK:IC:=sQ (rS [fA 5 1 0,l1 6 5,bZ 7 .lss 6 1,m1 8 7,C4 9 8 1 0,C3 10 8 9,EZ 11 8 .gtr 10 6,pO 12 8 11,m1 13 12,C4 14 13 1 1,C3 15 13 14,EZ 16 13 .neq 15 0,B0 17 13 16,D0 18 17 1 0,Dm 19 17 18,D0 20 17 1 1,Dm 21 17 20,gT 22 17 (.call 145 [.t 19,.t 21]),gT 23 17 (.not (.t 22)),gF 24 13 (.pick (.t 17) (.t 23) (.c (.b false))),pO 25 13 24,m1 26 25,C4 27 26 1 3,C3 28 26 27,gF 29 26 (.lenL (.t 28)),EZ 30 26 .lss 29 1,pO 31 26 30,m1 32 31,C4 33 32 1 3,C3 34 32 33,gF 35 32 (.lenL (.t 34)),EZ 36 32 .gtr 35 4,pO 37 32 36] [1,37] (cD 37 nO .skip)) Ab1
def AcF:IC:=rS [bX 1 0,mC 2 (.b false)] [1] AcK
def Aar:B7:=⟨64,AcF,[.t 2]⟩
theorem AbL:AQ π 130 Aar=true:=by kernel_rfl
def Acz:IC:=rS [bX 1 0,mC 2 (.b false)] [1] (rS [lA 3 1 4,o1 4 (.callr 130 [.t 3]),nT 5 4,m1 2 5] [2] .ret)
def Aa1:B7:=⟨6,Acz,[.t 2]⟩
theorem Ab9:AQ π 129 Aa1=true:=by kernel_rfl
def rE:IC:=sQ (rS [m1 12 5,nL 13 12,bZ 14 .eql 13 0,m1 15 14,B0 16 15 5,gF 17 15 (.calls 116 [.t 16,.c (.fn 129 [] [])]),pO 18 15 17] [0,3,5,6,7,8,18] (cD 18 nO .skip)) (.seqr [m1 19 3,m1 20 5,nL 21 20,bT 22 .add 19 21,m1 3 22] [0,3,6,7,8])
def Afm:IC:=rS [bT 9 .lss 8 7] [0,3,6,7,8,9] (sQ (cD 9 .skip (.exit 0)) (sQ (.block 1 (rS [iA 10 6 8 41 1,l1 11 10,m1 5 11] [0,3,5,6,7,8] rE)) (.seqr [bZ 23 .add 8 1,m1 8 23] [0,3,6,7,8])))
def AcE:IC:=sQ (rS [m1 6 0,nL 7 6,mZ 8 0] [0,3,6,7,8] (.block 0 (.loop Afm))) (rS [m1 24 0,nL 25 24,bZ 26 .gtr 25 0,m1 27 26,BX 28 27 3,F7 29 27 .leq 28 6,pA 30 27 29,m1 2 30] [2] .ret)
def Ad6:IC:=rS [mC 2 (.b false)] [0] (rS [mZ 3 0] [0,3] AcE)
def y5:B7:=⟨31,Ad6,[.t 2]⟩
theorem Agb:AQ π 105 y5=true:=by kernel_rfl
def Afp:IC:=sQ (rS [m1 6 0,nL 7 6,mZ 8 0] [0,1,7,8] (.block 0 (.loop (rS [bT 9 .lss 8 7] [0,1,7,8,9] (sQ (cD 9 nO (.exit 0)) nO))))) (rS [mZ 4 (-1)] [4] .ret)
def Af8:IC:=rS [mZ 4 0] [0,1] Afp
def uU:B7:=⟨19,Af8,[.t 4]⟩
theorem Ad1:AQ π 131 uU=true:=by kernel_rfl
def Aer:IC:=rS [mC 4 (.b false)] [0,1] (rS [m1 5 0,m1 6 1,o1 7 (.calls 131 [.t 5,.t 6]),bZ 8 .geq 7 0,m1 4 8] [4] .ret)
def yF:B7:=⟨9,Aer,[.t 4]⟩
theorem Adm:AQ π 106 yF=true:=by kernel_rfl
def Adw:IC:=rS [fA 12 4 0,l1 13 12,q1 14 104 13,nT 15 14,m1 16 15,C4 17 16 4 0,C3 18 16 17,gF 19 16 (.bin .eql (.t 18) (.c (.s [111,116,104,101,114]))),pO 20 16 19,m1 21 20,C4 22 21 4 1,C3 23 21 22,gF 24 21 (.callr 105 [.t 23]),gF 25 21 (.not (.t 24)),pO 26 21 25,m1 27 26,B0 28 27 0,B0 29 27 3,gF 30 27 (.slL (.t 28) none (some (.t 29)) 2),gF 31 27 (.mkfn 107 [] [.t 4]),gF 32 27 (.calls 106 [.t 30,.t 31]),pO 33 27 32] [0,5,6,7,33] (cD 33 nO .skip)
def AcW:IC:=sQ (.block 1 (rS [m1 9 7,iA 10 5 7 45 2,lA 11 10 2,o1 4 (.alloc (.agg [.s [],.nil])),m1 3 9,sT 4 11 2] [0,3,4,5,6,7] Adw)) (.seqr [bZ 34 .add 7 1,m1 7 34] [0,5,6,7])
def Ajp:IC:=sQ (rS [m1 5 0,nL 6 5,mZ 7 0] [0,5,6,7] (.block 0 (.loop (rS [bT 8 .lss 7 6] [0,5,6,7,8] (sQ (cD 8 .skip (.exit 0)) AcW))))) (rS [mC 2 (.b true)] [2] .ret)
def AkH:IC:=rS [mC 2 (.b false)] [0] Ajp
def Ajw:B7:=⟨35,AkH,[.t 2]⟩
theorem AoW:AQ π 87 Ajw=true:=by kernel_rfl
def qC:IC:=sQ (.block 1 (rS [iA 9 5 7 43 1,l1 10 9,m1 4 10] [0,4,5,6,7] (rS [m1 11 4,o1 12 (.callr 105 [.t 11]),nT 13 12] [0,5,6,7,13] (cD 13 nO .skip)))) (.seqr [bZ 14 .add 7 1,m1 7 14] [0,5,6,7])
def Agu:IC:=sQ (rS [m1 5 0,nL 6 5,mZ 7 0] [0,5,6,7] (.block 0 (.loop (rS [bT 8 .lss 7 6] [0,5,6,7,8] (sQ (cD 8 .skip (.exit 0)) qC))))) (rS [m1 15 0,nL 16 15,bZ 17 .leq 16 10,m1 2 17] [2] .ret)
def AcO:IC:=rS [mC 2 (.b false)] [0] Agu
def Aag:B7:=⟨18,AcO,[.t 2]⟩
theorem Af2:AQ π 132 Aag=true:=by kernel_rfl
def m9:IC:=sQ (.block 1 (rS [iA 10 6 8 41 1,l1 11 10,m1 5 11] [3,5,6,7,8] (.seqr [m1 12 3,m1 13 5,o1 14 (.app (.t 12) (.t 13) 40 4),m1 3 14] [3,6,7,8]))) (.seqr [bZ 15 .add 8 1,m1 8 15] [3,6,7,8])
def Ac0:IC:=sQ (rS [m1 6 0,nL 7 6,mZ 8 0] [3,6,7,8] (.block 0 (.loop (rS [bT 9 .lss 8 7] [3,6,7,8,9] (sQ (cD 9 .skip (.exit 0)) m9))))) (rS [m1 16 3,m1 2 16] [2] .ret)
def AbE:IC:=rS [mC 2 .nil] [0] (rS [mC 3 .nil] [0,3] Ac0)
def uC:B7:=⟨17,AbE,[.t 2]⟩
theorem AaR:AQ π 147 uC=true:=by kernel_rfl
def Agm:IC:=rS [bX 1 0,mC 2 (.b false)] [1] (rS [fA 3 1 0,l1 4 3,bZ 5 .eql 4 2,m1 6 5,C4 7 6 1 0,C3 8 6 7,EZ 9 6 .eql 8 1,pO 10 6 9,m1 2 10] [2] .ret)
def vO:B7:=⟨11,Agm,[.t 2]⟩
theorem Adp:AQ π 163 vO=true:=by kernel_rfl
def lH:IC:=sQ (.block 1 (rS [iA 11 7 9 37 2,lA 12 11 2,o1 5 (.alloc (.agg [.i .i64 0,.i .i64 0])),sT 5 12 2] [3,5,7,8,9] (.seqr [m1 13 3,fA 14 5 1,l1 15 14,o1 16 (.mx false (.t 13) [.t 15]),m1 3 16] [3,7,8,9]))) (.seqr [bZ 17 .add 9 1,m1 9 17] [3,7,8,9])
def Agl:IC:=sQ (rS [fA 6 1 3,l1 7 6,nL 8 7,mZ 9 0] [3,7,8,9] (.block 0 (.loop (rS [bT 10 .lss 9 8] [3,7,8,9,10] (sQ (cD 10 .skip (.exit 0)) lH))))) (rS [m1 18 3,m1 2 18] [2] .ret)
def AcT:IC:=rS [bX 1 0,mZ 2 0] [1] (rS [mZ 3 0] [1,3] Agl)
def tQ:B7:=⟨19,AcT,[.t 2]⟩
theorem AbC:AQ π 181 tQ=true:=by kernel_rfl
def AdS:IC:=sQ (rS [fA 5 2 1,l1 6 5,bZ 7 .neq 6 0] [1,2,7] (cD 7 nO .skip)) (rS [m1 12 1,lA 13 2 4,o1 14 (.callr 181 [.t 13]),bZ 15 .add 14 1,o1 16 (.mx true (.t 12) [.t 15]),m1 4 16] [4] .ret)
def AaT:IC:=rS [bX 2 0,mZ 4 0] [1,2] AdS
def wA:B7:=⟨17,AaT,[.t 4]⟩
theorem Adx:AQ π 164 wA=true:=by kernel_rfl
def sL:IC:=rS [fA 24 2 0,l1 25 24,fA 26 6 0,l1 27 26,bT 28 .geq 25 27,m1 29 28,D0 30 29 2 0,Dm 31 29 30,D0 32 29 6 1,Dm 33 29 32,gT 34 29 (.bin .leq (.t 31) (.t 33)),pA 35 29 34] [2,3,18,19,20,35] (cD 35 (rS [fA 36 3 2,l1 37 36,nT 38 37,m1 4 38] [4] .ret) .skip)
def tH:IC:=sQ (.block 1 (rS [iA 22 18 20 37 2,lA 23 22 2,o1 6 (.alloc (.agg [.i .i64 0,.i .i64 0])),sT 6 23 2] [2,3,6,18,19,20] sL)) (.seqr [bZ 39 .add 20 1,m1 20 39] [2,3,18,19,20])
def AaM:IC:=sQ (rS [fA 17 3 3,l1 18 17,nL 19 18,mZ 20 0] [2,3,18,19,20] (.block 0 (.loop (rS [bT 21 .lss 20 19] [2,3,18,19,20,21] (sQ (cD 21 .skip (.exit 0)) tH))))) (rS [fA 40 3 2,l1 41 40,m1 4 41] [4] .ret)
def AeI:IC:=rS [bX 2 0,bX 3 1,mC 4 (.b false)] [2,3] (sQ (rS [fA 7 3 0,l1 8 7,bZ 9 .eql 8 1,m1 10 9,D0 11 10 2 1,Dm 12 10 11,F7 13 10 .eql 12 1,pA 14 10 13] [2,3,14] (cD 14 nO .skip)) AaM)
def zA:B7:=⟨42,AeI,[.t 4]⟩
theorem Abd:AQ π 182 zA=true:=by kernel_rfl
def rX:IC:=sQ (.ops [lA 20 9 4,o1 21 (.callr 163 [.t 20]),m1 22 1,o1 23 (.eqb true (.t 21) (.t 22)),m1 24 23,BX 25 24 2,BX 26 24 8,gT 27 24 (.iaddr (.t 25) (.t 26) 220 2),gT 28 24 (.load (.t 27) 2 true),gT 29 24 (.load (.t 9) 4 true),gT 30 24 (.callr 182 [.t 28,.t 29]),pA 31 24 30] [1,2,7,8,13,14,15,31] [[0,1],[1,3],[2,3],[3,4],[4,5],[4,6],[4,7],[5,7],[6,7],[4,8],[7,8],[4,9],[4,10],[8,10],[9,10],[4,11],[10,11]]) (cD 31 (.seqr [m1 32 7,m1 33 8,o1 34 (.pu (.shf .shl) [.c (.i .u64 1),.t 33]),o1 35 (.pu (.bit .or) [.t 32,.t 34]),m1 7 35] [1,2,7,13,14,15]) .skip)
def mI:IC:=sQ (.block 1 (rS [m1 17 15,iA 18 13 15 40 4,lA 19 18 4,o1 9 (.alloc (.agg [.i .i64 0,.i .i64 0,.b false,.nil])),m1 8 17,sT 9 19 4] [1,2,7,8,9,13,14,15] rX)) (.seqr [bZ 36 .add 15 1,m1 15 36] [1,2,7,13,14,15])
def AfZ:IC:=sQ (rS [m1 10 0,nC 11 10,fA 12 11 0,l1 13 12,nL 14 13,mZ 15 0] [1,2,7,13,14,15] (.block 0 (.loop (rS [bT 16 .lss 15 14] [1,2,7,13,14,15,16] (sQ (cD 16 .skip (.exit 0)) mI))))) (rS [m1 37 7,m1 6 37] [6] .ret)
def AeO:IC:=rS [mC 6 (.i .u64 0)] [0,1,2] (rS [mC 7 (.i .u64 0)] [0,1,2,7] AfZ)
def zT:B7:=⟨38,AeO,[.t 6]⟩
theorem Abi:AQ π 166 zT=true:=by kernel_rfl
def mQ:IC:=rS [fA 13 6 0,l1 14 13,fA 15 3 0,l1 16 15,bT 17 .eql 14 16,m1 18 17,D0 19 18 6 1,Dm 20 18 19,gT 21 18 (.lenS (.t 20)),D0 22 18 3 1,Dm 23 18 22,gT 24 18 (.lenS (.t 23)),gT 25 18 (.bin .eql (.t 21) (.t 24)),pA 26 18 25] [0,3,7,8,9,26] (cD 26 (rS [m1 27 0,m1 4 27] [4] .ret) .skip)
def qZ:IC:=sQ (.block 1 (rS [iA 11 7 9 224 2,lA 12 11 2,o1 6 (.alloc (.agg [.i .u64 0,.s []])),sT 6 12 2] [0,3,6,7,8,9] mQ)) (.seqr [bZ 28 .add 9 1,m1 9 28] [0,3,7,8,9])
def AdC:IC:=sQ (rS [m1 7 0,nL 8 7,mZ 9 0] [0,3,7,8,9] (.block 0 (.loop (rS [bT 10 .lss 9 8] [0,3,7,8,9,10] (sQ (cD 10 .skip (.exit 0)) qZ))))) (rS [m1 29 0,lA 30 3 2,o1 31 (.msl true 224 2 [.t 30]),o1 32 (.app (.t 29) (.t 31) 224 2),m1 4 32] [4] .ret)
def AfI:IC:=rS [bX 3 1,mC 4 .nil] [0,3] AdC
def zC:B7:=⟨33,AfI,[.t 4]⟩
theorem Agw:AQ π 165 zC=true:=by kernel_rfl
def Agc:IC:=rS [mC 2 (.s [])] [0] (sQ (rS [m1 3 0] [3] (cD 3 (rS [mC 2 (.s [116,114,117,101])] [2] .ret) .skip)) (rS [mC 2 (.s [102,97,108,115,101])] [2] .ret))
def zP:B7:=⟨4,Agc,[.t 2]⟩
theorem Afk:AQ π 194 zP=true:=by kernel_rfl
def AfG:IC:=rS [mC 2 (.s [])] [0] (rS [m1 3 0,q1 4 194 3,m1 2 4] [2] .ret)
def z6:B7:=⟨5,AfG,[.t 2]⟩
theorem Add:AQ π 183 z6=true:=by kernel_rfl
def qU:IC:=.ops [m1 103 11,fA 104 10 1,l1 105 104,m1 106 12,iA 107 105 106 220 2,fA 108 107 0,l1 109 108,q1 110 34 109,o1 111 (.bin .add (.c (.s [32])) (.t 110)),bC 112 .add 111 (.s [32]),fA 113 10 1,l1 114 113,m1 115 12,iA 116 114 115 220 2,fA 117 116 1,l1 118 117,q1 119 34 118,bT 120 .add 112 119,bT 121 .add 103 120,m1 11 121] [0,3,4,5,7,9,10,11,27,28,29,54,81,82,83] [[1,2],[2,4],[3,4],[4,5],[5,6],[6,7],[7,8],[8,9],[10,11],[11,13],[12,13],[13,14],[14,15],[15,16],[9,17],[16,17],[0,18],[17,18],[0,19],[18,19]]
def oQ:IC:=sQ (.block 7 (rS [m1 85 83,iA 86 81 83 40 4,lA 87 86 4,o1 13 (.alloc (.agg [.i .i64 0,.i .i64 0,.b false,.nil])),m1 12 85,sT 13 87 4] [0,3,4,5,7,9,10,11,12,13,27,28,29,54,81,82,83] (sQ (rS [lA 88 13 4,o1 89 (.callr 163 [.t 88]),nT 90 89] [0,3,4,5,7,9,10,11,12,13,27,28,29,54,81,82,83,90] (cD 90 nO .skip)) qU))) (.seqr [bZ 122 .add 83 1,m1 83 122] [0,3,4,5,7,9,10,11,27,28,29,54,81,82,83])
def qO:IC:=rS [m1 127 5,m1 128 11,o0 (.wrm (.mput .str) (.t 127) [.t 128,.c (.b true)])] [0,3,4,5,7,10,27,28,29,54] (.seqr [m1 129 4,lA 130 10 3,o1 131 (.msl true 239 3 [.t 130]),o1 132 (.app (.t 129) (.t 131) 239 3),m1 4 132] [0,3,4,5,7,27,28,29,54])
def oI:IC:=rS [m1 123 5,m1 124 11,o1 125 (.rdm (.mget .str (.b false) false) (.t 123) [.t 124]),nT 126 125] [0,3,4,5,7,10,11,27,28,29,54,126] (cD 126 qO .skip)
def mG:IC:=sQ (rS [m1 78 0,nC 79 78,fA 80 79 0,l1 81 80,nL 82 81,mZ 83 0] [0,3,4,5,7,9,10,11,27,28,29,54,81,82,83] (.block 6 (.loop (rS [bT 84 .lss 83 82] [0,3,4,5,7,9,10,11,27,28,29,54,81,82,83,84] (sQ (cD 84 .skip (.exit 6)) oQ))))) oI
def mS:IC:=sQ (.ops [fA 57 7 0,l1 58 57,m1 59 9,q1 60 34 59,bT 61 .add 58 60,m1 62 0,nC 63 62,fA 64 63 0,l1 65 64,nL 66 65,o1 67 (.mksl (.t 66) (.t 66) (.agg [.i .i64 0,.i .i64 0]) 220 2),fA 68 7 2,l1 69 68,m1 70 69,BX 71 70 9,F7 72 70 .eql 71 0,pA 73 70 72,o1 74 (.build [.s [],.nil,.b false] [(0,1,.t 61),(1,1,.t 67),(2,1,.t 73)]),o1 10 (.alloc (.agg [.s [],.nil,.b false])),sT 10 74 3] [0,3,4,5,7,9,10,27,28,29,54] [[0,1],[2,3],[1,4],[3,4],[5,6],[6,7],[7,8],[8,9],[9,10],[11,12],[12,13],[13,14],[13,15],[14,15],[13,16],[15,16],[4,17],[10,17],[16,17],[1,19],[8,19],[9,19],[12,19],[17,19],[18,19]]) (rS [fA 75 10 2,l1 76 75,q1 77 183 76,m1 11 77] [0,3,4,5,7,9,10,11,27,28,29,54] mG)
def nQ:IC:=rS [bZ 55 .lss 54 10] [0,3,4,5,7,27,28,29,54,55] (sQ (cD 55 .skip (.exit 4)) (sQ (.block 5 (rS [m1 56 54,m1 9 56] [0,3,4,5,7,9,27,28,29,54] mS)) (.seqr [bZ 133 .add 54 1,m1 54 133] [0,3,4,5,7,27,28,29,54])))
def r5:IC:=sQ (.ops [m1 42 0,m1 43 0,nC 44 43,fA 45 44 2,l1 46 45,m1 47 8,fA 48 7 0,l1 49 48,o1 50 (.build [.i .u64 0,.s []] [(0,1,.t 47),(1,1,.t 49)]),o1 51 (.calln 165 [.t 46,.t 50]),nC 52 42,fA 53 52 2,sT 53 51 1] [0,3,4,5,7,27,28,29] [[1,2],[2,3],[3,4],[6,7],[5,8],[7,8],[4,9],[7,8,9],[8,9],[0,10],[10,11],[4,12],[7,12],[9,12],[11,12]]) (rS [mZ 54 0] [0,3,4,5,7,27,28,29,54] (.block 4 (.loop nQ)))
def n8:IC:=sQ (rS [fA 37 7 2,l1 38 37,nT 39 38] [0,3,4,5,7,8,27,28,29,39] (cD 39 (.seqr [m1 40 8,o1 41 (.pu (.bit .or) [.t 40,.c (.i .u64 9223372036854775808)]),m1 8 41] [0,3,4,5,7,8,27,28,29]) .skip)) r5
def sB:IC:=sQ (.block 3 (rS [iA 31 27 29 239 3,lA 32 31 3,o1 7 (.alloc (.agg [.s [],.nil,.b false])),sT 7 32 3] [0,3,4,5,7,27,28,29] (rS [m1 33 0,fA 34 7 1,l1 35 34,o1 36 (.calls 166 [.t 33,.c (.b true),.t 35]),m1 8 36] [0,3,4,5,7,8,27,28,29] n8))) (.seqr [bZ 134 .add 29 1,m1 29 134] [0,3,4,5,27,28,29])
def p8:IC:=sQ (rS [m1 27 2,nL 28 27,mZ 29 0] [0,3,4,5,27,28,29] (.block 2 (.loop (rS [bT 30 .lss 29 28] [0,3,4,5,27,28,29,30] (sQ (cD 30 .skip (.exit 2)) sB))))) (.seqr [m1 135 4,m1 2 135] [0,2,3])
def rO:IC:=sQ (.block 1 (rS [mC 4 .nil] [0,2,3,4] (rS [o1 26 (.mkm .mkmap []),m1 5 26] [0,2,3,4,5] p8))) (.seqr [m1 24 3,bZ 25 .add 24 1,m1 3 25] [0,2,3])
def Aet:IC:=rS [m1 14 0,nC 15 14,fA 16 15 0,l1 17 16,nL 18 17,o1 19 (.mksl (.t 18) (.t 18) (.agg [.i .i64 0,.i .i64 0]) 220 2),o1 20 (.build [.s [],.nil,.b false] [(0,1,.c (.s [])),(1,1,.t 19),(2,1,.c (.b true))]),o1 21 (.msl true 239 3 [.t 20]),m1 2 21] [0,2] (rS [mZ 3 0] [0,2,3] (.block 0 (.loop (sQ (rS [m1 22 3,bZ 23 .leq 22 6] [0,2,3,23] (cD 23 .skip (.exit 0))) rO))))
def y7:B7:=⟨136,Aet,[]⟩
theorem Ael:AQ π 167 y7=true:=by kernel_rfl
def pD:IC:=rS [lA 27 8 4,o1 28 (.callr 163 [.t 27])] [0,3,4,5,6,7,8,12,20,21,22,28] (cD 28 (.seqr [m1 29 6,m1 30 7,lA 31 8 4,m1 32 4,o1 33 (.callr 164 [.t 31,.t 32]),iA 34 29 30 220 2,fA 35 34 0,sT 35 33 1] [0,3,4,5,6,12,20,21,22]) nO)
def oX:IC:=sQ (.block 3 (rS [m1 24 22,iA 25 20 22 40 4,lA 26 25 4,o1 8 (.alloc (.agg [.i .i64 0,.i .i64 0,.b false,.nil])),m1 7 24,sT 8 26 4] [0,3,4,5,6,7,8,12,20,21,22] pD)) (.seqr [bZ 36 .add 22 1,m1 22 36] [0,3,4,5,6,12,20,21,22])
def tK:IC:=.ops [m1 37 3,m1 38 3,nC 39 38,fA 40 39 1,l1 41 40,m1 42 3,m1 43 6,⟨some 44,.calls 166 [.t 42,.c (.b false),.t 43],none,[.t 40]⟩,m1 45 5,o1 46 (.build [.i .u64 0,.s []] [(0,1,.t 44),(1,1,.t 45)]),o1 47 (.calln 165 [.t 41,.t 46]),nC 48 37,fA 49 48 1,sT 49 47 1] [0,3,12] [[1,2],[2,3],[3,4],[5,7],[6,7],[7,9],[8,9],[4,10],[7,10],[9,10],[0,11],[11,12],[4,13],[7,13],[10,13],[12,13]]
def sH:IC:=sQ (rS [m1 20 0,nL 21 20,mZ 22 0] [0,3,4,5,6,12,20,21,22] (.block 2 (.loop (rS [bT 23 .lss 22 21] [0,3,4,5,6,12,20,21,22,23] (sQ (cD 23 .skip (.exit 2)) oX))))) tK
def qT:IC:=sQ (.block 1 (rS [m1 14 12,m1 4 14] [0,3,4,12] (rS [m1 15 4,q1 16 34 15,m1 5 16] [0,3,4,5,12] (rS [m1 17 0,nL 18 17,o1 19 (.mksl (.t 18) (.t 18) (.agg [.i .i64 0,.i .i64 0]) 220 2),m1 6 19] [0,3,4,5,6,12] sH)))) (.seqr [bZ 50 .add 12 1,m1 12 50] [0,3,12])
def AfD:IC:=rS [m1 9 0,o1 10 (.build [.nil,.nil,.nil] [(0,1,.t 9)]),bX 11 10,m1 3 11] [0,3] (sQ (rS [mZ 12 0] [0,3,12] (.block 0 (.loop (rS [bZ 13 .lss 12 1000] [0,3,12,13] (sQ (cD 13 .skip (.exit 0)) qT))))) (rS [m1 51 3,o1 52 (.calls 167 [.t 51])] [3] (rS [m1 53 3,m1 2 53] [2] .ret)))
def PA:IC:=rS [mC 2 .np] [0] AfD
def UX:B7:=⟨54,PA,[.t 2]⟩
theorem AdU:AQ π 148 UX=true:=by kernel_rfl
def Ae6:IC:=sQ (.ops [l1 6 1,l1 7 2,l1 8 3,iA 9 7 8 3 1,l1 10 9,m1 11 0,bT 12 .add 10 11,o1 13 (.callvs (.t 6) [.t 12]),m1 5 13] [5] [[1,3],[2,3],[3,4],[4,6],[5,6],[0,7],[1,3,4,6,7],[2,3,4,6,7],[3,4,6,7],[4,6,7],[6,7],[7,8]]) .ret
def Aeq:IC:=rS [mC 5 (.b false)] [0,1,2,3] Ae6
def zR:B7:=⟨14,Aeq,[.t 5]⟩
theorem AfC:AQ π 152 zR=true:=by kernel_rfl
def pC:IC:=sQ (.block 3 (rS [m1 20 9,m1 21 20,BX 22 21 1,BX 23 21 5,gT 24 21 (.callw (.t 22) [.t 23]),pA 25 21 24,m1 9 25] [1,5,6,9,10,11,12,17,18] (.seqr [m1 26 5,bZ 27 .add 26 1,m1 5 27] [1,5,6,9,10,11,12,17,18]))) (.seqr [bZ 28 .add 18 1,m1 18 28] [1,5,6,9,10,11,12,17,18])
def nA:IC:=sQ (rS [m1 16 8,nL 17 16,mZ 18 0] [1,5,6,9,10,11,12,17,18] (.block 2 (.loop (rS [bT 19 .lss 18 17] [1,5,6,9,10,11,12,17,18,19] (sQ (cD 19 .skip (.exit 2)) pC))))) (.seqr [m1 29 6,m1 30 29,B0 31 30 9,pO 32 30 31,m1 6 32] [1,5,6,10,11,12])
def oL:IC:=sQ (.block 1 (rS [iA 14 10 12 41 1,l1 15 14,m1 8 15] [1,5,6,8,10,11,12] (rS [mC 9 (.b true)] [1,5,6,8,9,10,11,12] nA))) (.seqr [bZ 33 .add 12 1,m1 12 33] [1,5,6,10,11,12])
def AbP:IC:=sQ (rS [m1 10 0,nL 11 10,mZ 12 0] [1,5,6,10,11,12] (.block 0 (.loop (rS [bT 13 .lss 12 11] [1,5,6,10,11,12,13] (sQ (cD 13 .skip (.exit 0)) oL))))) (rS [m1 34 6,m1 4 34] [4] .ret)
def Aga:IC:=rS [mC 4 (.b false)] [0,1] (rS [mZ 5 0] [0,1,5] (rS [mC 6 (.b false)] [0,1,5,6] AbP))
def wL:B7:=⟨35,Aga,[.t 4]⟩
theorem AfH:AQ π 151 wL=true:=by kernel_rfl
def sA:IC:=.ops [m1 19 6,l1 20 7,m1 21 8,o1 22 (.mkfn 152 [] [.t 4,.t 2,.t 7]),⟨some 23,.calls 151 [.t 21,.t 22],none,[.t 7]⟩,iA 24 19 20 4 1,sT 24 23 1] [2,3,4,6,12,13,14] [[2,4],[3,4],[0,5],[1,5],[4,5],[1,6],[4,6],[5,6]]
def oG:IC:=sQ (.block 1 (rS [m1 16 14,iA 17 12 14 43 1,l1 18 17,o1 7 (.alloc (.i .i64 0)),sT 7 16 1,m1 8 18] [2,3,4,6,7,8,12,13,14] sA)) (.seqr [bZ 25 .add 14 1,m1 14 25] [2,3,4,6,12,13,14])
def Adn:IC:=sQ (rS [l1 12 1,nL 13 12,mZ 14 0] [2,3,4,6,12,13,14] (.block 0 (.loop (rS [bT 15 .lss 14 13] [2,3,4,6,12,13,14,15] (sQ (cD 15 .skip (.exit 0)) oG))))) (rS [l1 26 3,m1 27 6,o1 28 (.callw (.t 26) [.t 27]),m1 5 28] [5] .ret)
def Adv:IC:=rS [bX 4 0,mC 5 (.b false)] [1,2,3,4] (rS [l1 9 1,nL 10 9,o1 11 (.mksl (.t 10) (.t 10) (.b false) 4 1),m1 6 11] [1,2,3,4,6] Adn)
def z1:B7:=⟨29,Adv,[.t 5]⟩
theorem AbA:AQ π 150 z1=true:=by kernel_rfl
def qR:IC:=sQ (.ops [m1 28 1,m1 29 5,o1 30 (.idx (.t 28) (.t 29)),bC 31 .eql 30 (.i .u8 46),m1 32 31,B0 33 32 0,B0 34 32 5,gF 35 32 (.idx (.t 33) (.t 34)),gF 36 32 (.bin .neq (.t 35) (.c (.i .u8 46))),B0 37 32 36,BX 38 37 0,BX 39 37 5,gT 40 37 (.idx (.t 38) (.t 39)),BX 41 37 1,BX 42 37 5,gT 43 37 (.idx (.t 41) (.t 42)),gT 44 37 (.bin .lss (.t 40) (.t 43)),gF 45 32 (.pick (.t 37) (.t 44) (.c (.b false))),pO 46 32 45,m1 4 46] [4] [[0,2],[1,2],[2,3],[3,4],[4,5],[4,6],[4,7],[5,7],[6,7],[4,8],[7,8],[4,9],[8,9],[9,10],[9,11],[9,12],[10,12],[11,12],[9,13],[9,14],[9,15],[13,15],[14,15],[9,16],[12,16],[15,16],[4,17],[9,17],[16,17],[4,18],[17,18],[18,19]]) .ret
def nZ:IC:=sQ (.ops [m1 21 0,m1 22 5,o1 23 (.idx (.t 21) (.t 22)),m1 24 1,m1 25 5,o1 26 (.idx (.t 24) (.t 25)),bT 27 .neq 23 26] [0,1,5,17,18,27] [[0,2],[1,2],[3,5],[4,5],[2,6],[5,6]]) (cD 27 qR nO)
def Acv:IC:=sQ (rS [m1 16 0,nS 17 16,mZ 18 0] [0,1,17,18] (.block 0 (.loop (rS [bT 19 .lss 18 17] [0,1,17,18,19] (sQ (cD 19 .skip nO) (sQ (.block 1 (rS [m1 20 18,m1 5 20] [0,1,5,17,18] nZ)) nO)))))) nO
def Adu:IC:=sQ (rS [m1 6 0,nS 7 6,m1 8 1,nS 9 8,bT 10 .neq 7 9] [0,1,10] (cD 10 (rS [m1 11 0,nS 12 11,m1 13 1,nS 14 13,bT 15 .lss 12 14,m1 4 15] [4] .ret) .skip)) Acv
def AaO:IC:=rS [mC 4 (.b false)] [0,1] Adu
def Aap:B7:=⟨48,AaO,[.t 4]⟩
theorem Afz:AQ π 168 Aap=true:=by kernel_rfl
def lQ:IC:=rS [fA 32 5 0,l1 33 32,m1 34 3,o1 35 (.pu (.shf .shr) [.t 33,.t 34]),o1 36 (.pu (.bit .and) [.t 35,.c (.i .u64 1)]),bC 37 .eql 36 (.i .u64 1),m1 8 37] [8] .ret
def Afa:IC:=sQ (.block 0 (rS [fA 18 9 0,l1 19 18,bZ 20 .eql 19 1,m1 21 20,D0 22 21 6 0,Dm 23 21 22,gT 24 21 (.pu (.bit .and) [.t 23,.c (.i .u64 9223372036854775808)]),gT 25 21 (.bin .neq (.t 24) (.c (.i .u64 0))),pA 26 21 25,m1 17 26] [3,5,6,9,17] (cD 17 (rS [fA 27 9 2,l1 28 27,m1 8 28] [8] .ret) (rS [lA 30 9 4,o1 31 (.callr 163 [.t 30]),m1 29 31] [3,5,6,29] (cD 29 lQ nO))))) nO
def AfU:IC:=rS [m1 10 0,nC 11 10,fA 12 11 0,l1 13 12,m1 14 3,iA 15 13 14 40 4,lA 16 15 4,o1 9 (.alloc (.agg [.i .i64 0,.i .i64 0,.b false,.nil])),sT 9 16 4] [3,5,6,9] Afa
def AaB:IC:=rS [bX 5 1,bX 6 2,mC 8 (.b false)] [0,3,5,6] AfU
def yG:B7:=⟨44,AaB,[.t 8]⟩
theorem AaP:AQ π 170 yG=true:=by kernel_rfl
def Aff:IC:=rS [mC 5 (.b false)] [0,1,2,3] (rS [l1 6 1,lA 7 2 2,lA 8 3 2,m1 9 0,o1 10 (.calls 170 [.t 6,.t 7,.t 8,.t 9]),m1 5 10] [5] .ret)
def w5:B7:=⟨11,Aff,[.t 5]⟩
theorem Ad9:AQ π 169 w5=true:=by kernel_rfl
def o7:IC:=rS [m1 41 7,nT 42 41,m1 43 42,B0 44 43 12,B0 45 43 6,gF 46 43 (.call 168 [.t 44,.t 45]),pO 47 43 46,m1 48 47,BX 49 48 1,gT 50 48 (.mkfn 169 [] [.t 2,.t 9,.t 11]),gT 51 48 (.callw (.t 49) [.t 50]),pA 52 48 51] [1,2,6,7,9,12,16,17,18,25,26,27,52] (cD 52 (.seqr [m1 53 12,m1 6 53,mC 7 (.b true)] [1,2,6,7,9,16,17,18,25,26,27]) .skip)
def nK:IC:=sQ (rS [fA 33 11 1,l1 34 33,bC 35 .neq 34 (.s [])] [1,2,6,7,9,11,12,16,17,18,25,26,27,35] (cD 35 (.seqr [m1 36 12,fA 37 11 1,l1 38 37,o1 39 (.bin .add (.c (.s [46])) (.t 38)),bT 40 .add 36 39,m1 12 40] [1,2,6,7,9,11,12,16,17,18,25,26,27]) .skip)) o7
def p4:IC:=sQ (.block 3 (rS [iA 29 25 27 224 2,lA 30 29 2,o1 11 (.alloc (.agg [.i .u64 0,.s []])),sT 11 30 2] [1,2,6,7,9,11,16,17,18,25,26,27] (rS [fA 31 9 1,l1 32 31,m1 12 32] [1,2,6,7,9,11,12,16,17,18,25,26,27] nK))) (.seqr [bZ 54 .add 27 1,m1 27 54] [1,2,6,7,9,16,17,18,25,26,27])
def m5:IC:=rS [l1 22 2,nC 23 22,fA 24 23 2,l1 25 24,nL 26 25,mZ 27 0] [1,2,6,7,9,16,17,18,25,26,27] (.block 2 (.loop (rS [bT 28 .lss 27 26] [1,2,6,7,9,16,17,18,25,26,27,28] (sQ (cD 28 .skip (.exit 2)) p4))))
def pU:IC:=sQ (.block 1 (rS [iA 20 16 18 224 2,lA 21 20 2,o1 9 (.alloc (.agg [.i .u64 0,.s []])),sT 9 21 2] [1,2,6,7,9,16,17,18] m5)) (.seqr [bZ 55 .add 18 1,m1 18 55] [1,2,6,7,16,17,18])
def AeZ:IC:=sQ (rS [l1 13 2,nC 14 13,fA 15 14 1,l1 16 15,nL 17 16,mZ 18 0] [1,2,6,7,16,17,18] (.block 0 (.loop (rS [bT 19 .lss 18 17] [1,2,6,7,16,17,18,19] (sQ (cD 19 .skip (.exit 0)) pU))))) (rS [m1 56 6,m1 57 7,m1 4 56,m1 5 57] [4,5] .ret)
def AbT:IC:=rS [bX 2 0,mC 4 (.s []),mC 5 (.b false)] [1,2] (rS [mC 6 (.s []),mC 7 (.b false)] [1,2,6,7] AeZ)
def Aau:B7:=⟨58,AbT,[.t 4,.t 5]⟩
theorem Ag5:AQ π 149 Aau=true:=by kernel_rfl
def qX:IC:=rS [l1 20 7,m1 21 8,m1 22 6,nL 23 22,iA 24 20 21 3 1,sT 24 23 1] [2,3,6,7,9,13,14,15] (.seqr [m1 25 6,m1 26 9,o1 27 (.callr 147 [.t 26]),o1 28 (.app (.t 25) (.t 27) 40 4),m1 6 28] [2,3,6,7,13,14,15])
def sF:IC:=sQ (.block 1 (rS [m1 17 15,iA 18 13 15 43 1,l1 19 18,m1 8 17,m1 9 19] [2,3,6,7,8,9,13,14,15] qX)) (.seqr [bZ 29 .add 15 1,m1 15 29] [2,3,6,7,13,14,15])
def qP:IC:=rS [m1 30 6,o1 31 (.callr 148 [.t 30]),o1 32 (.mkfn 150 [] [.t 2,.t 7,.t 3]),o1 33 (.calls 149 [.t 31,.t 32]),xT 34 33 0,xT 35 33 1,m1 4 34,m1 5 35] [4,5] .ret
def Agj:IC:=sQ (rS [l1 13 2,nL 14 13,mZ 15 0] [2,3,6,7,13,14,15] (.block 0 (.loop (rS [bT 16 .lss 15 14] [2,3,6,7,13,14,15,16] (sQ (cD 16 .skip (.exit 0)) sF))))) qP
def Age:IC:=rS [bX 2 0,bX 3 1,mC 4 (.s []),mC 5 (.b false)] [2,3] (rS [mC 6 .nil] [2,3,6] (rS [l1 10 2,nL 11 10,o1 12 (.mksl (.t 11) (.t 11) (.i .i64 0) 3 1),o1 7 (.alloc .nil),sT 7 12 1] [2,3,6,7] Agj))
def Aaf:B7:=⟨36,Age,[.t 4,.t 5]⟩
theorem Ad3:AQ π 133 Aaf=true:=by kernel_rfl
def nG:IC:=sQ (.block 1 (rS [iA 17 13 15 45 2,lA 18 17 2,o1 8 (.alloc (.agg [.s [],.nil])),sT 8 18 2] [0,6,8,13,14,15] (.seqr [m1 19 6,fA 20 8 1,l1 21 20,o1 22 (.msl true 43 1 [.t 21]),o1 23 (.app (.t 19) (.t 22) 43 1),m1 6 23] [0,6,13,14,15]))) (.seqr [bZ 24 .add 15 1,m1 15 24] [0,6,13,14,15])
def mK:IC:=rS [m1 33 9,bZ 34 .add 33 1,m1 10 34] [0,6,9,10,29,30] (.block 4 (.loop (sQ (rS [m1 35 10,m1 36 0,nL 37 36,bT 38 .lss 35 37] [0,6,9,10,29,30,38] (cD 38 nO (.exit 4))) nO)))
def l6:IC:=rS [bT 31 .lss 30 29] [0,6,29,30,31] (sQ (cD 31 .skip (.exit 2)) (sQ (.block 3 (rS [m1 32 30,m1 9 32] [0,6,9,29,30] mK)) (.seqr [bZ 58 .add 30 1,m1 30 58] [0,6,29,30])))
def sU:IC:=sQ (rS [m1 25 6,o1 26 (.callr 132 [.t 25]),nT 27 26] [0,6,27] (cD 27 nO .skip)) (sQ (rS [m1 28 0,nL 29 28,mZ 30 0] [0,6,29,30] (.block 2 (.loop l6))) (rS [mZ 2 0,mZ 3 0,mC 4 (.s []),mZ 5 0] [2,3,4,5] .ret))
def AdQ:IC:=sQ (rS [m1 13 0,nL 14 13,mZ 15 0] [0,6,13,14,15] (.block 0 (.loop (rS [bT 16 .lss 15 14] [0,6,13,14,15,16] (sQ (cD 16 .skip (.exit 0)) nG))))) sU
def Ab4:IC:=rS [mZ 2 0,mZ 3 0,mC 4 (.s []),mZ 5 0] [0] (rS [mC 6 .nil] [0,6] AdQ)
def Aak:B7:=⟨59,Ab4,[.t 2,.t 3,.t 4,.t 5]⟩
theorem AeP:AQ π 108 Aak=true:=by kernel_rfl
def Aij:IC:=rS [m1 8 0,o1 9 (.callr 108 [.t 8]),m1 7 9,xT 10 7 0,xT 11 7 1,xT 12 7 2,xT 13 7 3,m1 3 10,m1 4 11,m1 5 12,m1 6 13] [6] (rS [m1 14 6,m1 2 14] [2] .ret)
def Ak5:IC:=rS [mZ 2 0] [0] Aij
def AmM:B7:=⟨15,Ak5,[.t 2]⟩
theorem Aoj:AQ π 88 AmM=true:=by kernel_rfl
def qD:IC:=sQ (.block 1 (rS [iA 9 5 7 4 1,l1 10 9,m1 4 10] [4,5,6,7] (rS [m1 11 4] [5,6,7,11] (cD 11 nO .skip)))) (.seqr [bZ 12 .add 7 1,m1 7 12] [5,6,7])
def Af3:IC:=sQ (rS [m1 5 0,nL 6 5,mZ 7 0] [5,6,7] (.block 0 (.loop (rS [bT 8 .lss 7 6] [5,6,7,8] (sQ (cD 8 .skip (.exit 0)) qD))))) (rS [mC 2 (.b true)] [2] .ret)
def AdA:IC:=rS [mC 2 (.b false)] [0] Af3
def Aav:B7:=⟨13,AdA,[.t 2]⟩
theorem AfJ:AQ π 153 Aav=true:=by kernel_rfl
def AcC:IC:=rS [m1 11 0,o1 12 (.calls 133 [.t 11,.c (.fn 153 [] [])]),m1 10 12,xT 13 10 0,xT 14 10 1,m1 5 13,m1 6 14] [5,6] (rS [m1 15 5,m1 16 6,nT 17 16,m1 2 15,m1 3 17,mZ 4 0] [2,3,4] .ret)
def Abf:IC:=rS [mC 2 (.s []),mC 3 (.b false),mZ 4 0] [0] (sQ (rS [m1 7 0,o1 8 (.callr 132 [.t 7]),nT 9 8] [0,9] (cD 9 nO .skip)) AcC)
def zU:B7:=⟨18,Abf,[.t 2,.t 3,.t 4]⟩
theorem Ac1:AQ π 135 zU=true:=by kernel_rfl
def Aeb:IC:=rS [mC 2 (.b false)] [0] (rS [m1 3 0,o1 4 (.iaddr (.t 3) (ci 0) 4 1),l1 5 4,m1 2 5] [2] .ret)
def uB:B7:=⟨6,Aeb,[.t 2]⟩
theorem AdL:AQ π 154 uB=true:=by kernel_rfl
def AfX:IC:=rS [m1 11 0,o1 12 (.msl true 43 1 [.t 11]),o1 13 (.calls 133 [.t 12,.c (.fn 154 [] [])]),m1 10 13,xT 14 10 0,xT 15 10 1,m1 5 14,m1 6 15] [5,6] (rS [m1 16 5,m1 17 6,m1 2 16,m1 3 17,mZ 4 0] [2,3,4] .ret)
def AeB:IC:=rS [mC 2 (.s []),mC 3 (.b false),mZ 4 0] [0] (sQ (rS [m1 7 0,o1 8 (.callr 105 [.t 7]),nT 9 8] [0,9] (cD 9 nO .skip)) AfX)
def yY:B7:=⟨18,AeB,[.t 2,.t 3,.t 4]⟩
theorem Ags:AQ π 136 yY=true:=by kernel_rfl
def tB:IC:=sQ (.block 1 (rS [iA 23 19 21 45 2,lA 24 23 2,o1 8 (.alloc (.agg [.s [],.nil])),sT 8 24 2] [6,8,19,20,21] (.seqr [m1 25 6,fA 26 8 1,l1 27 26,o1 28 (.msl true 43 1 [.t 27]),o1 29 (.app (.t 25) (.t 28) 43 1),m1 6 29] [6,19,20,21]))) (.seqr [bZ 30 .add 21 1,m1 21 30] [6,19,20,21])
def r6:IC:=rS [m1 32 6,o1 33 (.callr 135 [.t 32]),m1 31 33,xT 34 31 0,xT 35 31 1,xT 36 31 2,m1 9 34,m1 10 35,m1 11 36] [9,10,11] (rS [m1 37 9,m1 38 11,bZ 39 .eql 38 0,m1 40 39,BX 41 40 10,gT 42 40 (.not (.t 41)),pA 43 40 42,m1 4 37,m1 5 43] [4,5] .ret)
def Acn:IC:=sQ (rS [m1 19 0,nL 20 19,mZ 21 0] [6,19,20,21] (.block 0 (.loop (rS [bT 22 .lss 21 20] [6,19,20,21,22] (sQ (cD 22 .skip (.exit 0)) tB))))) r6
def l8:IC:=rS [fA 55 13 1,l1 56 55,o1 57 (.callr 136 [.t 56]),m1 54 57,xT 58 54 0,xT 59 54 1,xT 60 54 2,m1 14 58,m1 15 59,m1 16 60] [14,15,16] (rS [m1 61 14,m1 62 16,bZ 63 .eql 62 0,m1 64 63,BX 65 64 15,pA 66 64 65,m1 4 61,m1 5 66] [4,5] .ret)
def sE:IC:=sQ (.block 3 (rS [iA 48 44 46 45 2,lA 49 48 2,o1 13 (.alloc (.agg [.s [],.nil])),sT 13 49 2] [1,13,44,45,46] (rS [fA 50 13 0,l1 51 50,m1 52 1,bT 53 .eql 51 52] [1,13,44,45,46,53] (cD 53 l8 .skip)))) (.seqr [bZ 67 .add 46 1,m1 46 67] [1,44,45,46])
def mU:IC:=sQ (rS [m1 44 0,nL 45 44,mZ 46 0] [1,44,45,46] (.block 2 (.loop (rS [bT 47 .lss 46 45] [1,44,45,46,47] (sQ (cD 47 .skip (.exit 2)) sE))))) (rS [mC 4 (.s []),mC 5 (.b false)] [4,5] .ret)
def Af4:IC:=rS [mC 4 (.s []),mC 5 (.b false)] [0,1] (sQ (rS [m1 17 1,bC 18 .eql 17 (.s [111,116,104,101,114])] [0,1,18] (cD 18 (rS [mC 6 .nil] [0,6] Acn) .skip)) mU)
def uT:B7:=⟨68,Af4,[.t 4,.t 5]⟩
theorem AaK:AQ π 112 uT=true:=by kernel_rfl
def qH:IC:=rS [m1 17 6,m1 18 17,BX 19 18 0,BX 20 18 4,gT 21 18 (.callw (.t 19) [.t 20]),gT 22 18 (.not (.t 21)),pA 23 18 22] [0,1,7,8,23] (cD 23 nO .skip)
def AcH:IC:=sQ (.block 1 (rS [o1 10 (.pu (.aget 6 1 false) [.t 7,.t 8]),m1 4 10] [0,1,4,7,8] (rS [l1 12 1,m1 13 4,o1 14 (.callr 112 [.t 12,.t 13]),m1 11 14,xT 15 11 0,xT 16 11 1,m1 5 15,m1 6 16] [0,1,4,6,7,8] qH))) (.seqr [bZ 24 .add 8 1,m1 8 24] [0,1,7,8])
def Abv:IC:=rS [o1 7 (.call 111 []),mZ 8 0] [0,1,7,8] (.block 0 (.loop (rS [bZ 9 .lss 8 6] [0,1,7,8,9] (sQ (cD 9 .skip (.exit 0)) AcH))))
def Aa0:B7:=⟨25,Abv,[]⟩
theorem Aey:AQ π 110 Aa0=true:=by kernel_rfl
def Al8:IC:=rS [bX 1 0,mC 2 .nf] [1] (rS [o1 3 (.mkfn 110 [] [.t 1]),m1 2 3] [2] .ret)
def Ako:B7:=⟨4,Al8,[.t 2]⟩
theorem Ai5:AQ π 90 Ako=true:=by kernel_rfl
def AcV:IC:=sQ (rS [m1 6 1] [2,6] (.block 0 (.rfn (.t 6) [7] (.seqr [m1 5 7] [2,5]) (.block 1 (.seqr [l1 8 2,m1 9 5,o1 10 (.msl true 9 1 [.t 9]),o1 11 (.app (.t 8) (.t 10) 9 1),sT 2 11 1] [])) [2,7] [2]))) (rS [l1 12 2,m1 4 12] [4] .ret)
def AbO:IC:=rS [bX 2 0,mC 4 .nil] [1,2] AcV
def vJ:B7:=⟨13,AbO,[.t 4]⟩
theorem AcM:AQ π 109 vJ=true:=by kernel_rfl
def Aj1:IC:=rS [mC 2 .nil] [0] (rS [m1 3 0,o1 4 (.calls 109 [.c .nil,.t 3]),m1 2 4] [2] .ret)
def AnA:B7:=⟨5,Aj1,[.t 2]⟩
theorem Ah3:AQ π 89 AnA=true:=by kernel_rfl
def AkD:IC:=sQ (rS [m1 5 0,o1 6 (.callr 87 [.t 5]),nT 7 6] [0,7] (cD 7 nO .skip)) (sQ (rS [m1 8 0,o1 9 (.callr 88 [.t 8]),m1 4 9] [0,4] (rS [m1 10 4,bZ 11 .neq 10 0] [0,4,11] (cD 11 nO .skip))) (rS [m1 13 0,o1 14 (.callr 90 [.t 13]),o1 15 (.calls 89 [.t 14]),m1 2 15,mZ 3 0] [2,3] .ret))
def Ap0:IC:=rS [mC 2 .nil,mZ 3 0] [0] AkD
def AlD:B7:=⟨16,Ap0,[.t 2,.t 3]⟩
theorem AlE:AQ π 67 AlD=true:=by kernel_rfl
def Ab6:IC:=rS [lA 27 1 16,m1 28 4,m1 29 6,o1 30 (.build [.s [],.s [],.s [],.nil,.nil,.s [],.s [],.s [],.s [],.i .i64 0,.i .i64 0,.nil,.nil,.nil,.nil,.nil,.nil,.nil] [(0,16,.t 27),(16,1,.t 28),(17,1,.t 29)]),sT 2 30 18,mZ 3 0] [2,3] .ret
def Ao4:IC:=rS [fA 15 1 4,l1 16 15,o1 17 (.callr 67 [.t 16]),m1 14 17,xT 18 14 0,xT 19 14 1,m1 6 18,m1 7 19] [1,2,4,5,6,7] (sQ (rS [m1 20 5,bZ 21 .neq 20 0,m1 22 21,B0 23 22 7,EZ 24 22 .neq 23 0,pO 25 22 24] [1,2,4,6,25] (cD 25 nO .skip)) Ab6)
def Ake:IC:=rS [bX 1 0,o1 2 (.alloc (.agg [.s [],.s [],.s [],.nil,.nil,.s [],.s [],.s [],.s [],.i .i64 0,.i .i64 0,.nil,.nil,.nil,.nil,.nil,.nil,.nil])),mZ 3 0] [1,2] (rS [fA 9 1 3,l1 10 9,o1 11 (.callr 67 [.t 10]),m1 8 11,xT 12 8 0,xT 13 8 1,m1 4 12,m1 5 13] [1,2,4,5] Ao4)
def Anm:B7:=⟨31,Ake,[.c 2 18 true,.t 3]⟩
theorem Ajo:AQ π 42 Anm=true:=by kernel_rfl
def AhL:IC:=sQ (rS [m1 6 1,o1 7 (.callr 14 [.t 6]),nT 8 7] [2,4,8] (cD 8 nO .skip)) (rS [lA 10 2 16,o1 11 (.callr 42 [.t 10]),xT 12 11 0,xT 13 11 1,sT 4 12 18,m1 5 13] [4,5] .ret)
def AlI:IC:=rS [bX 2 0,o1 4 (.alloc (.agg [.s [],.s [],.s [],.nil,.nil,.s [],.s [],.s [],.s [],.i .i64 0,.i .i64 0,.nil,.nil,.nil,.nil,.nil,.nil,.nil])),mZ 5 0] [1,2,4] AhL
def AhU:B7:=⟨14,AlI,[.c 4 18 true,.t 5]⟩
theorem AiM:AQ π 18 AhU=true:=by kernel_rfl
def AiG:IC:=rS [bX 3 0,bX 4 1,mC 6 (.b false)] [] (rS [mC 6 (.b true)] [6] .ret)
def Al1:B7:=⟨7,AiG,[.t 6]⟩
theorem AoN:AQ π 19 Al1=true:=by kernel_rfl
def Al4:B7:=⟨0,.skip,[]⟩
theorem AmR:AQ π 20 Al4=true:=by kernel_rfl
def AmS:IC:=rS [bX 2 0,mC 4 .nil] [1,2] (sQ (rS [m1 5 1,bZ 6 .eql 5 8] [2,6] (cD 6 nO .skip)) (rS [fA 9 2 16,l1 10 9,m1 4 10] [4] .ret))
def AoG:B7:=⟨11,AmS,[.t 4]⟩
theorem Aly:AQ π 22 AoG=true:=by kernel_rfl
def AkN:IC:=rS [bX 2 0,mC 3 (.b false)] [1,2] (rS [fA 4 2 0,l1 5 4,l1 6 1,bT 7 .eql 5 6,m1 3 7] [3] .ret)
def AjC:B7:=⟨8,AkN,[.t 3]⟩
theorem AjS:AQ π 44 AjC=true:=by kernel_rfl
def Abq:IC:=rS [m1 11 1,m1 12 0,m1 13 5,iA 14 12 13 56 2,lA 15 14 2,o1 16 (.callw (.t 11) [.t 15])] [0,1,5,7,8,16] (cD 16 (rS [m1 17 5,m1 4 17] [4] .ret) .skip)
def AiV:IC:=rS [bT 9 .lss 8 7] [0,1,7,8,9] (sQ (cD 9 .skip (.exit 0)) (sQ (.block 1 (rS [m1 10 8,m1 5 10] [0,1,5,7,8] Abq)) (.seqr [bZ 18 .add 8 1,m1 8 18] [0,1,7,8])))
def AnY:IC:=rS [mZ 4 0] [0,1] (sQ (rS [m1 6 0,nL 7 6,mZ 8 0] [0,1,7,8] (.block 0 (.loop AiV))) (rS [mZ 4 (-1)] [4] .ret))
def AjY:B7:=⟨19,AnY,[.t 4]⟩
theorem Alw:AQ π 68 AjY=true:=by kernel_rfl
def AoR:IC:=rS [mC 4 (.b false)] [0,1] (rS [m1 5 0,m1 6 1,o1 7 (.calls 68 [.t 5,.t 6]),bZ 8 .geq 7 0,m1 4 8] [4] .ret)
def Aio:B7:=⟨9,AoR,[.t 4]⟩
theorem AmU:AQ π 43 Aio=true:=by kernel_rfl
def Alv:IC:=rS [bX 2 0,bX 3 1,mC 4 (.b false)] [2,3] (rS [fA 5 2 4,l1 6 5,o1 7 (.mkfn 44 [] [.t 3]),o1 8 (.calls 43 [.t 6,.t 7]),m1 4 8] [4] .ret)
def Amc:B7:=⟨9,Alv,[.t 4]⟩
theorem AnU:AQ π 23 Amc=true:=by kernel_rfl
def Adz:IC:=.seqr [l1 28 3,m1 29 1,m1 30 7,o1 31 (.build [.s [],.s []] [(0,1,.t 29),(1,1,.t 30)]),o1 32 (.msl true 29 2 [.t 31]),o1 33 (.app (.t 28) (.t 32) 29 2),sT 3 33 1] [1,3,4,14,15,16]
def Adt:IC:=rS [m1 20 7,bC 21 .neq 20 (.s [111,116,104,101,114]),m1 22 21,gT 23 22 (.load (.t 4) 6 true),BX 24 22 7,gT 25 22 (.callr 23 [.t 23,.t 24]),gT 26 22 (.not (.t 25)),pA 27 22 26] [1,3,4,7,14,15,16,27] (cD 27 Adz .skip)
def AaQ:IC:=rS [bT 17 .lss 16 15] [1,3,4,14,15,16,17] (sQ (cD 17 .skip (.exit 0)) (sQ (.block 1 (rS [iA 18 14 16 9 1,l1 19 18,m1 7 19] [1,3,4,7,14,15,16] Adt)) (.seqr [bZ 34 .add 16 1,m1 16 34] [1,3,4,14,15,16])))
def AlC:IC:=sQ (rS [fA 8 4 0,l1 9 8,bZ 10 .eql 9 9] [1,2,3,4,10] (cD 10 nO .skip)) (rS [lA 11 2 18,fA 12 4 0,l1 13 12,o1 14 (.callr 22 [.t 11,.t 13]),nL 15 14,mZ 16 0] [1,3,4,14,15,16] (.block 0 (.loop AaQ)))
def Akd:IC:=rS [bX 4 0] [1,2,3,4] AlC
def Aoc:B7:=⟨35,Akd,[]⟩
theorem Ajl:AQ π 21 Aoc=true:=by kernel_rfl
def AeN:IC:=rS [m1 11 1,m1 12 0,m1 13 5,iA 14 12 13 59 6,lA 15 14 6,o1 16 (.callw (.t 11) [.t 15])] [0,1,5,7,8,16] (cD 16 (rS [m1 17 5,m1 4 17] [4] .ret) nO)
def Ao6:IC:=sQ (rS [m1 6 0,nL 7 6,mZ 8 0] [0,1,7,8] (.block 0 (.loop (rS [bT 9 .lss 8 7] [0,1,7,8,9] (sQ (cD 9 .skip nO) (sQ (.block 1 (rS [m1 10 8,m1 5 10] [0,1,5,7,8] AeN)) nO)))))) nO
def AoL:IC:=rS [mZ 4 0] [0,1] Ao6
def Alc:B7:=⟨19,AoL,[.t 4]⟩
theorem AoZ:AQ π 78 Alc=true:=by kernel_rfl
def Ang:IC:=rS [mC 4 (.b false)] [0,1] (rS [m1 5 0,m1 6 1,o1 7 (.calls 78 [.t 5,.t 6]),bZ 8 .geq 7 0,m1 4 8] [4] .ret)
def Aoe:B7:=⟨9,Ang,[.t 4]⟩
theorem Aj7:AQ π 56 Aoe=true:=by kernel_rfl
def AhI:IC:=rS [fA 3 1 0,l1 4 3,q1 5 35 4,nT 6 5,m1 7 6,D0 8 7 1 5,Dm 9 7 8,gT 10 7 (.callr 33 [.t 9]),pA 11 7 10,m1 12 11,D0 13 12 1 4,Dm 14 12 13,gT 15 12 (.calls 43 [.t 14,.c (.fn 79 [] [])]),gT 16 12 (.not (.t 15)),pA 17 12 16,m1 2 17] [2] .ret
def AmD:IC:=rS [bX 1 0,mC 2 (.b false)] [1] AhI
def Ajh:B7:=⟨18,AmD,[.t 2]⟩
theorem Aig:AQ π 58 Ajh=true:=by kernel_rfl
def AlR:IC:=rS [bX 1 0,mC 2 (.b false)] [1] (rS [lA 3 1 6,o1 4 (.callr 58 [.t 3]),nT 5 4,m1 2 5] [2] .ret)
def Als:B7:=⟨6,AlR,[.t 2]⟩
theorem App:AQ π 57 Als=true:=by kernel_rfl
def AlH:IC:=rS [mC 2 (.b false)] [0] (rS [m1 3 0,o1 4 (.calls 56 [.t 3,.c (.fn 57 [] [])]),nT 5 4,m1 2 5] [2] .ret)
def AjK:B7:=⟨6,AlH,[.t 2]⟩
theorem Aps:AQ π 33 AjK=true:=by kernel_rfl
def AfW:IC:=rS [lA 55 3 3,fA 56 11 1,l1 57 56,m1 58 9,bC 59 .add 58 (.s [47]),fA 60 11 0,l1 61 60,bT 62 .add 59 61,bC 63 .add 62 (.s [47]),o1 64 (.calls 24 [.t 55,.t 57,.t 63])] [2,3,6,8,9,12,13,14,43,44,45] (.seqr [fA 65 3 2,l1 66 65,o1 67 (.callw (.t 66) [])] [2,3,6,8,9,12,13,14,43,44,45])
def AbZ:IC:=rS [fA 49 3 1,l1 50 49,lA 51 8 6,lA 52 11 2,m1 53 9,o1 54 (.callw (.t 50) [.t 51,.t 52,.t 53])] [2,3,6,8,9,11,12,13,14,43,44,45,54] (cD 54 AfW .skip)
def Afh:IC:=sQ (.block 3 (rS [iA 47 43 45 56 2,lA 48 47 2,o1 11 (.alloc (.agg [.s [],.nil])),sT 11 48 2] [2,3,6,8,9,11,12,13,14,43,44,45] AbZ)) (.seqr [bZ 68 .add 45 1,m1 45 68] [2,3,6,8,9,12,13,14,43,44,45])
def Acf:IC:=rS [fA 42 8 4,l1 43 42,nL 44 43,mZ 45 0] [2,3,6,8,9,12,13,14,43,44,45] (.block 2 (.loop (rS [bT 46 .lss 45 44] [2,3,6,8,9,12,13,14,43,44,45,46] (sQ (cD 46 .skip (.exit 2)) Afh))))
def Ads:IC:=sQ (rS [fA 27 8 0,l1 28 27,q1 29 35 28,nT 30 29] [2,3,6,8,9,12,13,14,30] (cD 30 nO .skip)) (rS [fA 37 3 0,l1 38 37,lA 39 8 6,m1 40 9,o1 41 (.callw (.t 38) [.t 39,.t 40])] [2,3,6,8,9,12,13,14] Acf)
def Afg:IC:=sQ (rS [lA 18 8 6,o1 19 (.msl true 59 6 [.t 18]),o1 20 (.callr 33 [.t 19])] [2,3,6,8,12,13,14,20] (cD 20 nO .skip)) (rS [m1 21 6,bZ 22 .add 21 1,m1 6 22] [2,3,6,8,12,13,14] (rS [m1 23 2,m1 24 6,q1 25 34 24,bT 26 .add 23 25,m1 9 26] [2,3,6,8,9,12,13,14] Ads))
def Af1:IC:=sQ (.block 1 (rS [iA 16 12 14 59 6,lA 17 16 6,o1 8 (.alloc (.agg [.i .i64 0,.s [],.s [],.s [],.nil,.nil])),sT 8 17 6] [2,3,6,8,12,13,14] Afg)) (.seqr [bZ 69 .add 14 1,m1 14 69] [2,3,6,12,13,14])
def AmI:IC:=rS [m1 12 1,nL 13 12,mZ 14 0] [2,3,6,12,13,14] (.block 0 (.loop (rS [bT 15 .lss 14 13] [2,3,6,12,13,14,15] (sQ (cD 15 .skip (.exit 0)) Af1))))
def Am7:IC:=rS [bX 3 0] [1,2,3] (rS [mZ 6 0] [1,2,3,6] AmI)
def Air:B7:=⟨70,Am7,[]⟩
theorem AlO:AQ π 24 Air=true:=by kernel_rfl
def Amt:IC:=rS [o1 20 (.mkfn 21 [] [.t 6,.t 8]),fA 21 9 0,sT 21 20 1] [1,8,9] (rS [lA 22 9 3,m1 23 1,o1 24 (.calls 24 [.t 22,.t 23,.c (.s [])])] [8] (rS [l1 25 8,m1 4 25,mZ 5 0] [4,5] .ret))
def Akp:IC:=rS [o1 19 (.build [.nf,.nf,.nf] [(1,1,.c (.fn 19 [] [])),(2,1,.c (.fn 20 [] []))]),o1 9 (.alloc (.agg [.nf,.nf,.nf])),sT 9 19 3] [1,6,8,9] Amt
def Ar4:IC:=rS [lA 11 2 16,m1 12 1,o1 13 (.callr 18 [.t 11,.t 12]),m1 10 13,xT 14 10 0,xT 15 10 1,o1 6 (.alloc (.agg [.s [],.s [],.s [],.nil,.nil,.s [],.s [],.s [],.s [],.i .i64 0,.i .i64 0,.nil,.nil,.nil,.nil,.nil,.nil,.nil])),sT 6 14 18,m1 7 15] [1,6,7] (sQ (rS [m1 16 7,bZ 17 .neq 16 0] [1,6,7,17] (cD 17 nO .skip)) (rS [o1 8 (.alloc .nil)] [1,6,8] Akp))
def Atz:IC:=rS [bX 2 0,mC 4 .nil,mZ 5 0] [1,2] Ar4
def FR:B7:=⟨26,Atz,[.t 4,.t 5]⟩
theorem Atk:AQ π 9 FR=true:=by kernel_rfl
def AkY:B7:=⟨0,.skip,[]⟩
theorem Al2:AQ π 45 AkY=true:=by kernel_rfl
def AoP:IC:=.seqr [bX 2 0] []
def Aix:B7:=⟨4,AoP,[]⟩
theorem Alg:AQ π 46 Aix=true:=by kernel_rfl
def Aj2:IC:=.seqr [l1 26 3,lA 27 8 2,fA 29 5 0,l1 30 29,o1 31 (.msl true 9 1 [.t 30]),o1 32 (.wrm (.ment (.st [(0,.int),(1,.str)]) .nil) (.t 26) [.t 27]),xT 28 32 0,o1 33 (.app (.t 28) (.t 31) 9 1),xT 34 32 1,o0 (.wrm .mst (.t 26) [.t 34,.t 33])] []
def Al7:IC:=sQ (sQ (.ops [fA 14 5 0,l1 15 14,bC 16 .neq 15 (.s [111,116,104,101,114]),m1 17 16,Dm 18 17 3,gT 19 17 (.load (.t 8) 2 true),gT 20 17 (.rdm (.mget (.st [(0,.int),(1,.str)]) .nil false) (.t 18) [.t 19]),D0 21 17 5 0,Dm 22 17 21,gT 23 17 (.callr 48 [.t 20,.t 22]),gT 24 17 (.not (.t 23)),pA 25 17 24] [3,5,8,25] [[0,1],[1,2],[2,3],[3,4],[3,5],[3,6],[4,6],[5,6],[3,7],[3,8],[7,8],[3,9],[6,9],[8,9],[3,10],[9,10],[3,11],[10,11]]) (cD 25 Aj2 .skip)) (rS [mC 7 (.b true)] [7] .ret)
def Aiu:IC:=rS [fA 9 4 0,l1 10 9,fA 11 4 2,l1 12 11,o1 13 (.build [.i .i64 0,.s []] [(0,1,.t 10),(1,1,.t 12)]),o1 8 (.alloc (.agg [.i .i64 0,.s []])),sT 8 13 2] [3,5,8] Al7
def AhE:IC:=rS [bX 4 0,bX 5 1,mC 7 (.b false)] [3,4,5] Aiu
def Aph:B7:=⟨35,AhE,[.t 7]⟩
theorem An2:AQ π 47 Aph=true:=by kernel_rfl
def AhM:IC:=rS [o1 8 (.mkfn 47 [] [.t 3]),fA 9 4 1,sT 9 8 1] [0,3,4] (rS [lA 10 4 3,m1 11 0,o1 12 (.calls 24 [.t 10,.t 11,.c (.s [])])] [3] (rS [l1 13 3,m1 2 13] [2] .ret))
def Akn:IC:=rS [o1 6 (.build [.nf,.nf,.nf] [(2,1,.c (.fn 45 [] []))]),o1 4 (.alloc (.agg [.nf,.nf,.nf])),sT 4 6 3] [0,3,4] (rS [fA 7 4 0,o0 (.store (.t 7) (.c (.fn 46 [] [])) 1)] [0,3,4] AhM)
def Amk:IC:=rS [mC 2 .nm] [0] (rS [o1 5 (.mkm .mkmap []),o1 3 (.alloc .nm),sT 3 5 1] [0,3] Akn)
def Aog:B7:=⟨14,Amk,[.t 2]⟩
theorem Am1:AQ π 25 Aog=true:=by kernel_rfl
def Ant:IC:=sQ (rS [m1 3 0,o1 4 (.pu (.isnil false) [.t 3])] [0,4] (cD 4 nO .skip)) (rS [o1 5 (.msl true 9 1 []),m1 6 0,o1 7 (.app (.t 5) (.t 6) 9 1),m1 2 7] [2] .ret)
def Aih:IC:=rS [mC 2 .nil] [0] Ant
def AnW:B7:=⟨8,Aih,[.t 2]⟩
theorem AmO:AQ π 28 AnW=true:=by kernel_rfl
def AnM:IC:=rS [m1 5 0,nS 6 5,m1 7 1,nS 8 7,bT 9 .geq 6 8,m1 10 9,BX 11 10 0,BX 12 10 1,gT 13 10 (.lenS (.t 12)),gT 14 10 (.slS (.t 11) none (some (.t 13))),BX 15 10 1,gT 16 10 (.bin .eql (.t 14) (.t 15)),pA 17 10 16,m1 4 17] [4] .ret
def AiY:IC:=rS [mC 4 (.b false)] [0,1] AnM
def Ao9:B7:=⟨18,AiY,[.t 4]⟩
theorem AmW:AQ π 70 Ao9=true:=by kernel_rfl
def Aif:IC:=rS [mC 4 (.b false)] [0,1] (rS [m1 5 0,m1 6 1,q2 7 70 5 6,m1 4 7] [4] .ret)
def AhK:B7:=⟨8,Aif,[.t 4]⟩
theorem Alt:AQ π 49 AhK=true:=by kernel_rfl
def AnT:IC:=rS [m1 4 0,bC 5 .eql 4 (.s [111,116,104,101,114]),m1 6 5,C4 7 6 1 2,C3 8 6 7,B0 9 6 0,gF 10 6 (.callr 48 [.t 8,.t 9]),gF 11 6 (.not (.t 10)),pO 12 6 11,m1 3 12] [3] .ret
def AlG:IC:=rS [mC 3 (.b false)] [0,1] AnT
def Ain:B7:=⟨13,AlG,[.t 3]⟩
theorem AoY:AQ π 51 Ain=true:=by kernel_rfl
def Afy:IC:=rS [m1 11 1,m1 12 0,m1 13 5,iA 14 12 13 9 1,l1 15 14,o1 16 (.callw (.t 11) [.t 15])] [0,1,5,7,8,16] (cD 16 (rS [m1 17 5,m1 4 17] [4] .ret) nO)
def Anx:IC:=sQ (rS [m1 6 0,nL 7 6,mZ 8 0] [0,1,7,8] (.block 0 (.loop (rS [bT 9 .lss 8 7] [0,1,7,8,9] (sQ (cD 9 .skip nO) (sQ (.block 1 (rS [m1 10 8,m1 5 10] [0,1,5,7,8] Afy)) nO)))))) nO
def Aoo:IC:=rS [mZ 4 0] [0,1] Anx
def Aj8:B7:=⟨19,Aoo,[.t 4]⟩
theorem AnZ:AQ π 71 Aj8=true:=by kernel_rfl
def Ail:IC:=rS [mC 4 (.b false)] [0,1] (rS [m1 5 0,m1 6 1,o1 7 (.calls 71 [.t 5,.t 6]),bZ 8 .geq 7 0,m1 4 8] [4] .ret)
def Ak2:B7:=⟨9,Ail,[.t 4]⟩
theorem An0:AQ π 50 Ak2=true:=by kernel_rfl
def AdB:IC:=rS [m1 26 8,o1 27 (.call 49 [.t 26,.c (.s [61])]),m1 28 27,B0 29 28 8,gF 30 28 (.bin .neq (.t 29) (.c (.s [111,116,104,101,114]))),B0 31 28 30,BX 32 31 5,BX 33 31 8,gT 34 31 (.callr 48 [.t 32,.t 33]),gF 35 28 (.pick (.t 31) (.t 34) (.c (.b false))),pO 36 28 35] [3,5,6,8,20,21,22,36] (cD 36 nO .skip)
def AcZ:IC:=rS [bT 23 .lss 22 21] [3,5,6,20,21,22,23] (sQ (cD 23 .skip (.exit 0)) (sQ (.block 1 (rS [iA 24 20 22 9 1,l1 25 24,m1 8 25] [3,5,6,8,20,21,22] AdB)) (.seqr [bZ 41 .add 22 1,m1 22 41] [3,5,6,20,21,22])))
def Acy:IC:=sQ (rS [m1 42 5,o1 43 (.mkfn 51 [] [.t 3]),o1 44 (.calls 50 [.t 42,.t 43])] [6,44] (cD 44 (.seqr [m1 45 6,o1 46 (.msl true 9 1 [.c (.s [111,116,104,101,114])]),o1 47 (.app (.t 45) (.t 46) 9 1),m1 6 47] [6]) nO)) (rS [m1 48 6,m1 4 48] [4] .ret)
def An9:IC:=rS [lA 15 2 18,fA 16 3 0,l1 17 16,o1 18 (.callr 22 [.t 15,.t 17]),m1 5 18] [3,5] (rS [mC 6 .nil] [3,5,6] (sQ (rS [fA 19 3 2,l1 20 19,nL 21 20,mZ 22 0] [3,5,6,20,21,22] (.block 0 (.loop AcZ))) Acy))
def AoQ:IC:=rS [bX 2 0,bX 3 1,mC 4 .nil] [2,3] (sQ (rS [fA 9 3 0,l1 10 9,bZ 11 .eql 10 9] [2,3,11] (cD 11 nO .skip)) An9)
def AlK:B7:=⟨49,AoQ,[.t 4]⟩
theorem AjO:AQ π 27 AlK=true:=by kernel_rfl
def AhJ:IC:=.ops [l1 19 4,lA 20 7 2,lA 21 3 18,fA 22 5 0,l1 23 22,fA 24 5 2,l1 25 24,l1 26 4,lA 27 7 2,o1 28 (.rdm (.mget (.st [(0,.int),(1,.str)]) .nil false) (.t 26) [.t 27]),o1 29 (.callr 28 [.t 28]),o1 30 (.msl true 9 1 [.c (.s [111,116,104,101,114])]),⟨some 31,.app (.t 29) (.t 30) 9 1,none,[.t 4,.t 7,.t 3,.t 22,.t 24]⟩,o1 32 (.build [.i .i64 0,.s [],.nil] [(0,1,.t 23),(1,1,.t 25),(2,1,.t 31)]),o1 33 (.callr 27 [.t 21,.t 32]),o0 (.wrm (.mput (.st [(0,.int),(1,.str)])) (.t 19) [.t 20,.t 33])] [] [[3,4],[5,6],[7,9],[8,9],[9,10],[7,9,10,12],[8,9,10,12],[9,10,12],[10,12],[11,12],[4,13],[6,13],[12,13],[2,14],[11,12,14],[12,14],[13,14],[0,15],[1,15],[2,15],[4,15],[6,15],[7,15],[8,15],[9,15],[10,15],[12,15],[14,15]]
def Ao3:IC:=rS [l1 13 2,lA 14 7 2,o1 15 (.rdm (.mget (.st [(0,.int),(1,.str)]) (.b false) false) (.t 13) [.t 14]),nT 16 15] [2,3,4,5,7,16] (cD 16 (rS [l1 17 2,lA 18 7 2,o0 (.wrm (.mput (.st [(0,.int),(1,.str)])) (.t 17) [.t 18,.c (.b true)])] [3,4,5,7] AhJ) nO)
def AiD:IC:=rS [fA 8 5 0,l1 9 8,fA 10 5 2,l1 11 10,o1 12 (.build [.i .i64 0,.s []] [(0,1,.t 9),(1,1,.t 11)]),o1 7 (.alloc (.agg [.i .i64 0,.s []])),sT 7 12 2] [2,3,4,5,7] Ao3
def Aiz:IC:=rS [bX 5 0] [2,3,4,5] AiD
def AoB:B7:=⟨34,Aiz,[]⟩
theorem AmA:AQ π 26 AoB=true:=by kernel_rfl
def Aji:IC:=rS [bX 3 0,bX 4 1,mC 6 (.s [])] [2,3,4] (sQ (rS [lA 10 4 6,m1 11 2,o1 12 (.callr 23 [.t 10,.t 11])] [2,3,4,12] (cD 12 (rS [m1 13 2,m1 6 13] [6] .ret) nO)) nO)
def AiF:B7:=⟨34,Aji,[.t 6]⟩
theorem AjU:AQ π 30 AiF=true:=by kernel_rfl
def AcL:IC:=sQ (.ops [lA 28 4 18,lA 29 7 6,m1 30 14,o1 31 (.callr 30 [.t 28,.t 29,.t 30]),fA 32 8 0,l1 33 32,bT 34 .eql 31 33] [2,3,4,5,6,7,8,11,12,14,22,23,24,34] [[0,3],[1,3],[2,3],[4,5],[3,6],[5,6]]) (cD 34 (.seqr [m1 35 12,m1 36 14,o1 37 (.msl true 9 1 [.t 36]),o1 38 (.app (.t 35) (.t 37) 9 1),m1 12 38] [2,3,4,5,6,7,8,11,12,22,23,24]) .skip)
def AfY:IC:=sQ (.block 1 (rS [iA 26 22 24 9 1,l1 27 26,m1 14 27] [2,3,4,5,6,7,8,11,12,14,22,23,24] AcL)) (.seqr [bZ 39 .add 24 1,m1 24 39] [2,3,4,5,6,7,8,11,12,22,23,24])
def Adc:IC:=rS [l1 43 5,m1 44 2,fA 45 8 0,l1 46 45,o1 47 (.build [.s [],.s []] [(0,1,.t 44),(1,1,.t 46)]),o1 48 (.msl true 29 2 [.t 47]),o1 49 (.app (.t 43) (.t 48) 29 2),sT 5 49 1] [] (rS [mC 10 (.b false)] [10] .ret)
def Acx:IC:=sQ (.ops [l1 50 6,lA 51 11 2,l1 52 3,lA 53 11 2,o1 54 (.rdm (.mget (.st [(0,.int),(1,.str)]) .nil false) (.t 52) [.t 53]),o1 55 (.build [.i .i64 0,.s [],.nil] [(0,2,.t 51),(2,1,.t 54)]),o1 56 (.msl true 89 3 [.t 55]),o1 57 (.app (.t 50) (.t 56) 89 3),sT 6 57 1] [3,11,12] [[2,4],[3,4],[1,5],[4,5],[5,6],[0,7],[1,5,6,7],[2,4,5,6,7],[3,4,5,6,7],[4,5,6,7],[6,7],[0,8],[1,8],[2,8],[3,8],[4,8],[7,8]]) (rS [l1 58 3,lA 59 11 2,m1 60 12,o0 (.wrm (.mput (.st [(0,.int),(1,.str)])) (.t 58) [.t 59,.t 60])] [] (rS [mC 10 (.b true)] [10] .ret))
def Ak9:IC:=sQ (rS [l1 20 3,lA 21 11 2,o1 22 (.rdm (.mget (.st [(0,.int),(1,.str)]) .nil false) (.t 20) [.t 21]),nL 23 22,mZ 24 0] [2,3,4,5,6,7,8,11,12,22,23,24] (.block 0 (.loop (rS [bT 25 .lss 24 23] [2,3,4,5,6,7,8,11,12,22,23,24,25] (sQ (cD 25 .skip (.exit 0)) AfY))))) (sQ (rS [m1 40 12,nL 41 40,bZ 42 .eql 41 0] [2,3,5,6,8,11,12,42] (cD 42 Adc .skip)) Acx)
def Ahu:IC:=rS [fA 15 7 0,l1 16 15,fA 17 7 2,l1 18 17,o1 19 (.build [.i .i64 0,.s []] [(0,1,.t 16),(1,1,.t 18)]),o1 11 (.alloc (.agg [.i .i64 0,.s []])),sT 11 19 2] [2,3,4,5,6,7,8,11] (rS [mC 12 .nil] [2,3,4,5,6,7,8,11,12] Ak9)
def Aoa:IC:=rS [bX 7 0,bX 8 1,mC 10 (.b false)] [2,3,4,5,6,7,8] Ahu
def Aot:B7:=⟨61,Aoa,[.t 10]⟩
theorem AhD:AQ π 29 Aot=true:=by kernel_rfl
def AjE:IC:=rS [l1 9 0,l1 10 0,nL 11 10,bZ 12 .sub 11 1,o1 13 (.slL (.t 9) none (some (.t 12)) 3),sT 0 13 1] [1,2] (.seqr [l1 14 1,fA 15 2 0,lA 16 15 2,fA 17 2 2,l1 18 17,o0 (.wrm (.mput (.st [(0,.int),(1,.str)])) (.t 14) [.t 16,.t 18])] [])
def Ak6:IC:=rS [l1 3 0,l1 4 0,nL 5 4,bZ 6 .sub 5 1,iA 7 3 6 89 3,lA 8 7 3,o1 2 (.alloc (.agg [.i .i64 0,.s [],.nil])),sT 2 8 3] [0,1,2] AjE
def An6:B7:=⟨19,Ak6,[]⟩
theorem AoJ:AQ π 31 An6=true:=by kernel_rfl
def Abc:IC:=rS [o1 30 (.mkfn 31 [] [.t 11,.t 8]),fA 31 12 2,sT 31 30 1] [1,10,12] (rS [lA 32 12 3,m1 33 1,o1 34 (.calls 24 [.t 32,.t 33,.c (.s [])])] [10] (rS [l1 35 10,m1 4 35,mZ 5 0] [4,5] .ret))
def Ab7:IC:=rS [o1 26 (.mkfn 26 [] [.t 9,.t 6,.t 8]),fA 27 12 0,sT 27 26 1] [1,6,8,10,11,12] (rS [o1 28 (.mkfn 29 [] [.t 8,.t 6,.t 10,.t 11]),fA 29 12 1,sT 29 28 1] [1,8,10,11,12] Abc)
def Ace:IC:=rS [o1 10 (.alloc .nil)] [1,6,8,9,10] (rS [o1 11 (.alloc .nil)] [1,6,8,9,10,11] (rS [o1 25 (.build [.nf,.nf,.nf] []),o1 12 (.alloc (.agg [.nf,.nf,.nf])),sT 12 25 3] [1,6,8,9,10,11,12] Ab7))
def AfO:IC:=rS [m1 22 1,o1 23 (.callr 25 [.t 22]),o1 8 (.alloc .nm),sT 8 23 1] [1,6,8] (rS [o1 24 (.mkm .mkmap []),o1 9 (.alloc .nm),sT 9 24 1] [1,6,8,9] Ace)
def Aht:IC:=rS [lA 14 2 16,m1 15 1,o1 16 (.callr 18 [.t 14,.t 15]),m1 13 16,xT 17 13 0,xT 18 13 1,o1 6 (.alloc (.agg [.s [],.s [],.s [],.nil,.nil,.s [],.s [],.s [],.s [],.i .i64 0,.i .i64 0,.nil,.nil,.nil,.nil,.nil,.nil,.nil])),sT 6 17 18,m1 7 18] [1,6,7] (sQ (rS [m1 19 7,bZ 20 .neq 19 0] [1,6,7,20] (cD 20 nO .skip)) AfO)
def Api:IC:=rS [bX 2 0,mC 4 .nil,mZ 5 0] [1,2] Aht
def Aiy:B7:=⟨36,Api,[.t 4,.t 5]⟩
theorem Ahy:AQ π 10 Aiy=true:=by kernel_rfl
def AlJ:IC:=rS [m1 32 4,bZ 33 .eql 32 0,m1 34 33,BX 35 34 6,F7 36 34 .eql 35 0,pA 37 34 36,m1 38 37,BX 39 38 3,gT 40 38 (.lenL (.t 39)),F7 41 38 .eql 40 1,pA 42 38 41,m1 43 42,BX 44 43 3,gT 45 43 (.iaddr (.t 44) (ci 0) 29 2),gT 46 43 (.load (.t 45) 2 true),gT 47 43 (.build [.s [],.s []] [(0,1,.c (.s [49])),(1,1,.c (.s [111,110,101]))]),gT 48 43 (.pu (.eqs false [(0,.str),(1,.str)]) [.t 46,.t 47]),pA 49 43 48,m1 50 49,BX 51 50 5,gT 52 50 (.lenL (.t 51)),F7 53 50 .eql 52 1,pA 54 50 53,m1 55 54,BX 56 55 5,gT 57 55 (.iaddr (.t 56) (ci 0) 29 2),gT 58 55 (.load (.t 57) 2 true),gT 59 55 (.build [.s [],.s []] [(0,1,.c (.s [49])),(1,1,.c (.s [116,119,111]))]),gT 60 55 (.pu (.eqs false [(0,.str),(1,.str)]) [.t 58,.t 59]),pA 61 55 60,m1 0 61] [0] .ret
def Auv:IC:=rS [lA 21 1 16,m1 22 2,o1 23 (.callr 9 [.t 21,.t 22]),m1 20 23,xT 24 20 0,xT 25 20 1,m1 3 24,m1 4 25] [1,2,3,4] (rS [lA 27 1 16,m1 28 2,o1 29 (.callr 10 [.t 27,.t 28]),m1 26 29,xT 30 26 0,xT 31 26 1,m1 5 30,m1 6 31] [3,4,5,6] AlJ)
def ArM:IC:=rS [o1 15 (.build [.s [],.nil] [(0,1,.c (.s [116,119,111]))]),o1 16 (.build [.s [],.nil] [(0,1,.c (.s [111,116,104,101,114]))]),o1 17 (.msl true 56 2 [.t 15,.t 16]),o1 18 (.build [.i .i64 0,.s [],.s [],.s [],.nil,.nil] [(0,1,ci 7),(2,1,.c (.s [110])),(4,1,.t 17)]),o1 19 (.msl true 59 6 [.t 18]),m1 2 19] [1,2] Auv
def At2:IC:=rS [o1 7 (.build [.i .i64 0,.i .i64 0] [(0,1,ci 1),(1,1,ci 1)]),o1 8 (.msl true 37 2 [.t 7]),o1 9 (.build [.i .i64 0,.i .i64 0,.b false,.nil] [(0,1,ci 1),(3,1,.t 8)]),o1 10 (.msl true 40 4 [.t 9]),o1 11 (.msl true 41 1 [.t 10]),o1 12 (.build [.s [],.nil] [(0,1,.c (.s [111,110,101])),(1,1,.t 11)]),o1 13 (.msl true 45 2 [.t 12]),o1 14 (.build [.s [],.s [],.s [],.nil,.nil,.s [],.s [],.s [],.s [],.i .i64 0,.i .i64 0,.nil,.nil,.nil,.nil,.nil] [(3,1,.t 13)]),o1 1 (.alloc (.agg [.s [],.s [],.s [],.nil,.nil,.s [],.s [],.s [],.s [],.i .i64 0,.i .i64 0,.nil,.nil,.nil,.nil,.nil])),sT 1 14 16] [1] ArM
def AtH:IC:=rS [mC 0 (.b false)] [] At2
def Gi:B7:=⟨62,AtH,[.t 0]⟩
theorem AtZ:AQ π 4 Gi=true:=by kernel_rfl
noncomputable def C5:FuncId->Option B7:=(A6 88 (A6 43 (A6 25 (A6 19 (A6 10 (A6 9 (A5 4 Gi) (A5 9 FR)) (A6 14 (A5 10 Aiy) (A6 18 (A5 14 Amg) (A5 18 AhU)))) (A6 22 (A6 20 (A5 19 Al1) (A6 21 (A5 20 Al4) (A5 21 Aoc))) (A6 23 (A5 22 AoG) (A6 24 (A5 23 Amc) (A5 24 Air))))) (A6 30 (A6 27 (A6 26 (A5 25 Aog) (A5 26 AoB)) (A6 28 (A5 27 AlK) (A6 29 (A5 28 AnW) (A5 29 Aot)))) (A6 33 (A6 31 (A5 30 AiF) (A6 32 (A5 31 An6) (A5 32 AhH))) (A6 35 (A5 33 AjK) (A6 42 (A5 35 Amr) (A5 42 Anm)))))) (A6 57 (A6 48 (A6 45 (A6 44 (A5 43 Aio) (A5 44 AjC)) (A6 46 (A5 45 AkY) (A6 47 (A5 46 Aix) (A5 47 Aph)))) (A6 51 (A6 49 (A5 48 AkR) (A6 50 (A5 49 AhK) (A5 50 Ak2))) (A6 54 (A5 51 Ain) (A6 56 (A5 54 AnN) (A5 56 Aoe))))) (A6 70 (A6 67 (A6 58 (A5 57 Als) (A5 58 Ajh)) (A6 68 (A5 67 AlD) (A6 69 (A5 68 AjY) (A5 69 AnD)))) (A6 75 (A6 71 (A5 70 Ao9) (A6 74 (A5 71 Aj8) (A5 74 Am5))) (A6 78 (A5 75 AkC) (A6 87 (A5 78 Alc) (A5 87 Ajw))))))) (A6 136 (A6 111 (A6 104 (A6 90 (A6 89 (A5 88 AmM) (A5 89 AnA)) (A6 92 (A5 90 Ako) (A6 94 (A5 92 Alx) (A5 94 Apg)))) (A6 108 (A6 105 (A5 104 Aac) (A6 106 (A5 105 y5) (A5 106 yF))) (A6 109 (A5 108 Aak) (A6 110 (A5 109 vJ) (A5 110 Aa0))))) (A6 129 (A6 116 (A6 112 (A5 111 wV) (A5 112 uT)) (A6 119 (A5 116 wI) (A6 120 (A5 119 uY) (A5 120 zL)))) (A6 132 (A6 130 (A5 129 Aa1) (A6 131 (A5 130 Aar) (A5 131 uU))) (A6 133 (A5 132 Aag) (A6 135 (A5 133 Aaf) (A5 135 zU)))))) (A6 163 (A6 149 (A6 146 (A6 139 (A5 136 yY) (A5 139 v7)) (A6 147 (A5 146 w9) (A6 148 (A5 147 uC) (A5 148 UX)))) (A6 152 (A6 150 (A5 149 Aau) (A6 151 (A5 150 z1) (A5 151 wL))) (A6 153 (A5 152 zR) (A6 154 (A5 153 Aav) (A5 154 uB))))) (A6 169 (A6 166 (A6 164 (A5 163 vO) (A6 165 (A5 164 wA) (A5 165 zC))) (A6 167 (A5 166 zT) (A6 168 (A5 167 y7) (A5 168 Aap)))) (A6 182 (A6 170 (A5 169 w5) (A6 181 (A5 170 yG) (A5 181 tQ))) (A6 183 (A5 182 zA) (A6 194 (A5 183 z6) (A5 194 zP))))))))
theorem Kw:Fw π C5:=(.node (.node (.node (.node (.node (.node (.leaf AtZ) (.leaf Atk)) (.node (.leaf Ahy) (.node (.leaf Aox) (.leaf AiM)))) (.node (.node (.leaf AoN) (.node (.leaf AmR) (.leaf Ajl))) (.node (.leaf Aly) (.node (.leaf AnU) (.leaf AlO))))) (.node (.node (.node (.leaf Am1) (.leaf AmA)) (.node (.leaf AjO) (.node (.leaf AmO) (.leaf AhD)))) (.node (.node (.leaf AjU) (.node (.leaf AoJ) (.leaf AkJ))) (.node (.leaf Aps) (.node (.leaf Ak0) (.leaf Ajo)))))) (.node (.node (.node (.node (.leaf AmU) (.leaf AjS)) (.node (.leaf Al2) (.node (.leaf Alg) (.leaf An2)))) (.node (.node (.leaf Ani) (.node (.leaf Alt) (.leaf An0))) (.node (.leaf AoY) (.node (.leaf Apt) (.leaf Aj7))))) (.node (.node (.node (.leaf App) (.leaf Aig)) (.node (.leaf AlE) (.node (.leaf Alw) (.leaf AmL)))) (.node (.node (.leaf AmW) (.node (.leaf AnZ) (.leaf Ai8))) (.node (.leaf Ame) (.node (.leaf AoZ) (.leaf AoW))))))) (.node (.node (.node (.node (.node (.leaf Aoj) (.leaf Ah3)) (.node (.leaf Ai5) (.node (.leaf Aoi) (.leaf AlB)))) (.node (.node (.leaf Aea) (.node (.leaf Agb) (.leaf Adm))) (.node (.leaf AeP) (.node (.leaf AcM) (.leaf Aey))))) (.node (.node (.node (.leaf Ad4) (.leaf AaK)) (.node (.leaf AfA) (.node (.leaf Acb) (.leaf Abx)))) (.node (.node (.leaf Ab9) (.node (.leaf AbL) (.leaf Ad1))) (.node (.leaf Af2) (.node (.leaf Ad3) (.leaf Ac1)))))) (.node (.node (.node (.node (.leaf Ags) (.leaf Agv)) (.node (.leaf AbX) (.node (.leaf AaR) (.leaf AdU)))) (.node (.node (.leaf Ag5) (.node (.leaf AbA) (.leaf AfH))) (.node (.leaf AfC) (.node (.leaf AfJ) (.leaf AdL))))) (.node (.node (.node (.leaf Adp) (.node (.leaf Adx) (.leaf Agw))) (.node (.leaf Abi) (.node (.leaf Ael) (.leaf Afz)))) (.node (.node (.leaf Ad9) (.node (.leaf AaP) (.leaf AbC))) (.node (.leaf Abd) (.node (.leaf Add) (.leaf Afk))))))))
end Go.Ir
end
section
set_option maxRecDepth 1000000
namespace Go.Ir
open Go.Proofs
def YS:List V->Option V
 | [.i .i64 (.ofNat k)]=>bif Nat.blt k 100000 then some (.s (Lib.decDigits k)) else none
 | _=>none
noncomputable def Jt:Az:=X5 34 YS
noncomputable def O2:Az:=Gm C5 Jt 100000 100
def N5:IC:=fJ PA
noncomputable def rR(m:Nat)(s:Nat->St)(i:Nat):Option St:=tE O2 54 m N5 (100000-50*(i+1)) 50 (s i)
theorem Yj{m:Nat}{s:Nat->St}(h:∀i,i<20->rR m s i=some (s (i+1))):∀n,n<=20->Cp (EI C5 Jt 100000 100) 54 m 100000 (.loop N5) (s 0)=Cp (EI C5 Jt 100000 100) 54 m (100000-50*n) (.loop N5) (s n)
 | 0,_=>rfl
 | n+1,b=>by rw[Yj h n (by omega)];have:=h n (by omega);unfold rR O2 at this;rw[HC] at this;have a:=UK this;rw[<-a];congr 1;omega
def pR(b:Nat)(l:List UInt8):V:=.agg [.i .u64 b,.s l]
def lR:V:=.sl [.agg [.i .i64 1,.i .i64 0,.b false,.sl [.agg [.i .i64 1,.i .i64 1]]]]
def EB(i:Nat):List V:=[pR 0 [48],pR 1 [49],pR 0 [49,48]]++bif Nat.blt i 3 then[] else[pR 0 [49,48,48]]
def Fj(i:Nat):List V:=[pR 0 [48],pR 0 [49,48]]++bif Nat.blt i 3 then[] else[pR 0 [49,48,48]]
def wY(b:Nat):List V:=[pR 0 [],pR 0 [48],pR b [49],pR 0 [48,48],pR b [48,49],pR 0 [48,48,48],pR b [48,48,49],pR 0 [48,48,48,48],pR b [48,48,48,49],pR 0 [48,48,48,48,48],pR b [48,48,48,48,49],pR 0 [48,48,48,48,48,48],pR b [48,48,48,48,48,49]]
def F5:Nat->St
 | 0=>⟨[(0,lR),(3,.ref (21,11) 0),(12,.i .i64 0)],[((21,11),.box (.agg [lR,.nil,.nil]))],23⟩
 | i+1=>⟨[(0,lR),(3,.ref (21,11) 0),(12,.i .i64 (50*i+50:Nat))],[((1350*i+1371,47),.arr 224 2 (EB (i+1))),((1350*i+1349,19),.arr 220 2 [.agg [.i .i64 2,.i .i64 0]]),((21,11),.box (.agg [lR,.arr (1350*i+1371,47),.nil]))],1350*i+1373⟩
def F6:Nat->St
 | 0=>⟨[(0,.nil),(3,.ref (7,11) 0),(12,.i .i64 0)],[((7,11),.box (.agg [.nil,.nil,.nil]))],9⟩
 | i+1=>⟨[(0,.nil),(3,.ref (7,11) 0),(12,.i .i64 (50*i+50:Nat))],((400*i+407,47),.arr 224 2 (Fj (i+1)))::(match(50*i+50)%11 with|0=>[((7,11),.box (.agg [.nil,.arr (400*i+407,47),.nil]))]|g+1=>((400*i+404,19),.arr 220 2 [])::((7,11),.box (.agg [.nil,.arr (400*i+407,47),.nil]))::(List.range g).map λj=>((400*i+396-8*j,19),.arr 220 2 [])),400*i+409⟩
theorem Al3:rR 20 F5 0=some (F5 1):=by kernel_rfl
theorem AmE:rR 20 F5 1=some (F5 2):=by kernel_rfl
theorem Ale:rR 20 F5 2=some (F5 3):=by kernel_rfl
theorem Aki:rR 20 F5 3=some (F5 4):=by kernel_rfl
theorem AiO:rR 20 F5 4=some (F5 5):=by kernel_rfl
theorem Ajy:rR 20 F5 5=some (F5 6):=by kernel_rfl
theorem AoE:rR 20 F5 6=some (F5 7):=by kernel_rfl
theorem Alz:rR 20 F5 7=some (F5 8):=by kernel_rfl
theorem Ajn:rR 20 F5 8=some (F5 9):=by kernel_rfl
theorem Ao0:rR 20 F5 9=some (F5 10):=by kernel_rfl
theorem Ade:rR 20 F5 10=some (F5 11):=by kernel_rfl
theorem Ab5:rR 20 F5 11=some (F5 12):=by kernel_rfl
theorem AdG:rR 20 F5 12=some (F5 13):=by kernel_rfl
theorem Abg:rR 20 F5 13=some (F5 14):=by kernel_rfl
theorem AbF:rR 20 F5 14=some (F5 15):=by kernel_rfl
theorem AcY:rR 20 F5 15=some (F5 16):=by kernel_rfl
theorem Agh:rR 20 F5 16=some (F5 17):=by kernel_rfl
theorem AbK:rR 20 F5 17=some (F5 18):=by kernel_rfl
theorem AaZ:rR 20 F5 18=some (F5 19):=by kernel_rfl
theorem Ag4:rR 20 F5 19=some (F5 20):=by kernel_rfl
theorem AoF:rR 6 F6 0=some (F6 1):=by kernel_rfl
theorem Amx:rR 6 F6 1=some (F6 2):=by kernel_rfl
theorem Akx:rR 6 F6 2=some (F6 3):=by kernel_rfl
theorem AkW:rR 6 F6 3=some (F6 4):=by kernel_rfl
theorem Ai0:rR 6 F6 4=some (F6 5):=by kernel_rfl
theorem AiR:rR 6 F6 5=some (F6 6):=by kernel_rfl
theorem Aou:rR 6 F6 6=some (F6 7):=by kernel_rfl
theorem Aj5:rR 6 F6 7=some (F6 8):=by kernel_rfl
theorem An1:rR 6 F6 8=some (F6 9):=by kernel_rfl
theorem Aks:rR 6 F6 9=some (F6 10):=by kernel_rfl
theorem Acc:rR 6 F6 10=some (F6 11):=by kernel_rfl
theorem Ado:rR 6 F6 11=some (F6 12):=by kernel_rfl
theorem AaX:rR 6 F6 12=some (F6 13):=by kernel_rfl
theorem Afo:rR 6 F6 13=some (F6 14):=by kernel_rfl
theorem Aex:rR 6 F6 14=some (F6 15):=by kernel_rfl
theorem AdM:rR 6 F6 15=some (F6 16):=by kernel_rfl
theorem Ad2:rR 6 F6 16=some (F6 17):=by kernel_rfl
theorem AfR:rR 6 F6 17=some (F6 18):=by kernel_rfl
theorem Ae4:rR 6 F6 18=some (F6 19):=by kernel_rfl
theorem AcU:rR 6 F6 19=some (F6 20):=by kernel_rfl
theorem GS:∀i,i<20->rR 20 F5 i=some (F5 (i+1))
 | 0,_=>Al3
 | 1,_=>AmE
 | 2,_=>Ale
 | 3,_=>Aki
 | 4,_=>AiO
 | 5,_=>Ajy
 | 6,_=>AoE
 | 7,_=>Alz
 | 8,_=>Ajn
 | 9,_=>Ao0
 | 10,_=>Ade
 | 11,_=>Ab5
 | 12,_=>AdG
 | 13,_=>Abg
 | 14,_=>AbF
 | 15,_=>AcY
 | 16,_=>Agh
 | 17,_=>AbK
 | 18,_=>AaZ
 | 19,_=>Ag4
 | n+20,h=>absurd h (by omega)
theorem GQ:∀i,i<20->rR 6 F6 i=some (F6 (i+1))
 | 0,_=>AoF
 | 1,_=>Amx
 | 2,_=>Akx
 | 3,_=>AkW
 | 4,_=>Ai0
 | 5,_=>AiR
 | 6,_=>Aou
 | 7,_=>Aj5
 | 8,_=>An1
 | 9,_=>Aks
 | 10,_=>Acc
 | 11,_=>Ado
 | 12,_=>AaX
 | 13,_=>Afo
 | 14,_=>Aex
 | 15,_=>AdM
 | 16,_=>Ad2
 | 17,_=>AfR
 | 18,_=>Ae4
 | 19,_=>AcU
 | n+20,h=>absurd h (by omega)
noncomputable def yU(m:Nat):JS:=D1 O2 54 m 100000
def Dy:V×Aj×Nat:=(.ref (21,11) 0,[((29724,51),.arr 224 2 (wY 9223372036854775808)),((27021,47),.arr 224 2 (EB 20)),((21,11),.box (.agg [lR,.arr (27021,47),.arr (29724,51)]))],29933)
def DI:V×Aj×Nat:=(.ref (7,11) 0,[((9818,51),.arr 224 2 (wY 9223372036854775808)),((8007,47),.arr 224 2 (Fj 20)),((7,11),.box (.agg [.nil,.arr (8007,47),.arr (9818,51)]))],9957)
noncomputable def Af7(m:Nat)(a:V):Option (Exit×St):=CL O2 (yU m) (uP PA) ⟨params 0 [a],[],m⟩
noncomputable def Ag2(m:Nat)(s:St):Option (V×Aj×Nat):=match CL O2 (yU m) (Zq PA) s with
 | some (.ret,a)=>M5 UX m a
 | _=>none
def TH(s:St):St:=⟨s.env++[(13,.b false)],s.σ,s.n+1⟩
theorem Ah4:Af7 20 lR=some (.normal,F5 0):=by kernel_rfl
theorem AmZ:Af7 6 .nil=some (.normal,F6 0):=by kernel_rfl
theorem Apu:D1 O2 54 20 99000 (.loop N5) (F5 20)=some (.exit 0,TH (F5 20)):=by kernel_rfl
theorem Aj9:D1 O2 54 6 99000 (.loop N5) (F6 20)=some (.exit 0,TH (F6 20)):=by kernel_rfl
theorem Aka:Ag2 20 (TH (F5 20))=some Dy:=by kernel_rfl
theorem AlW:Ag2 6 (TH (F6 20))=some DI:=by kernel_rfl
theorem Fm{m:Nat}{a:V}{s:Nat->St}{r:V×Aj×Nat}(c:Af7 m a=some (.normal,s 0))(e:∀i,i<20->rR m s i=some (s (i+1)))(b:D1 O2 54 m 99000 (.loop N5) (s 20)=some (.exit 0,TH (s 20)))(g:Ag2 m (TH (s 20))=some r):EI C5 Jt 100000 101 148 [a] [] m=some r:=by have h:=Yj e 20 (Nat.le_refl _);rw[Fn] at b;unfold O2 at b;rw[HC] at b;exact sW (F:=UX) (s0:=s 0) (s1:=TH (s 20)) (by kernel_rfl) (by kernel_rfl) (by kernel_rfl) (by rfl) c (h.trans b) g
variable(W0:World)
theorem Anh(hB:AF π W0 Jt):DL π W0 148 [lR] [] 20 Dy.1 Dy.2.1 Dy.2.2:=LA Kw hB N4 _ _ _ _ _ _ _ _ (Fm Ah4 GS Apu Aka) (CU.2 [lR] rfl) Cu.nil
theorem AhC(hB:AF π W0 Jt):DL π W0 148 [.nil] [] 6 DI.1 DI.2.1 DI.2.2:=LA Kw hB N4 _ _ _ _ _ _ _ _ (Fm AmZ GQ Aj9 AlW) (CU.2 [.nil] rfl) Cu.nil
noncomputable def t7(f0:Nat)(T:FuncId->Option B7):FuncId->Option B7:=λf=>bif Nat.beq f f0 then none else T f
theorem Jd{P:Program}{f0:Nat}{T:FuncId->Option B7}(h:Fw P T):Fw P (t7 f0 T):=by
 intro f F a;unfold t7 at a;cases b:Nat.beq f f0 with
 | true=>rw[b] at a;cases a
 | false=>rw[b] at a;exact h f F a
noncomputable def AsK:Az:=Cr (rW 148 [lR] 20 Dy) (Cr (rW 148 [.nil] 6 DI) Jt)
theorem ON(hB:AF π W0 Jt):AF π W0 AsK:=Mu (Uk (Anh W0 hB)) (Mu (Uk (AhC W0 hB)) hB)
def cR:V:=.sl [lR]
def Ab2:List V:=[.sl [cR],.fn 154 [] []]
def AbG:List V:=[.sl [cR],.fn 153 [] []]
def Aes:List V:=[.nil,.fn 153 [] []]
def WF(c:UInt8):V:=.tup [.s [c],.b true]
theorem ZM(hB:AF π W0 Jt):An π W0 133 Ab2 [] (WF 49) []:=FN (Jd (f0:=148) Kw) (ON W0 hB) N4 (K:=100000) (k:=100) (by kernel_rfl) rfl rfl
theorem XK(hB:AF π W0 Jt):An π W0 133 AbG [] (WF 48) []:=FN (Jd (f0:=148) Kw) (ON W0 hB) N4 (K:=100000) (k:=100) (by kernel_rfl) rfl rfl
theorem XU(hB:AF π W0 Jt):An π W0 133 Aes [] (WF 48) []:=FN (Jd (f0:=148) Kw) (ON W0 hB) N4 (K:=100000) (k:=100) (by kernel_rfl) rfl rfl
end Go.Ir
end
section
namespace Go.Ir
abbrev Aa:=List UInt8
structure Ab where
 kind:Int
 text:Aa
 name:Aa
 style:Aa
 cases:List (Aa×List Ab)
 parts:List Ab
abbrev Ar:=Aa×List Ab
mutual
def Ab.enc:Ab->V
 | ⟨k,t,n,s,cs,ps⟩=>.agg [.i .i64 k,.s t,.s n,.s s,.sl (Gn cs),.sl (EW ps)]
def EW:List Ab->List V
 | []=>[]
 | p::ps=>p.enc::EW ps
def Gn:List (Aa×List Ab)->List V
 | []=>[]
 | (k,ps)::cs=>.agg [.s k,.sl (EW ps)]::Gn cs
end
mutual
def Ab.wt:Ab->Nat
 | ⟨_,t,n,s,cs,ps⟩=>1+t.length+n.length+s.length+B9 cs+Aw ps
def Aw:List Ab->Nat
 | []=>0
 | p::ps=>p.wt+Aw ps
def B9:List (Aa×List Ab)->Nat
 | []=>0
 | (k,ps)::cs=>1+k.length+Aw ps+B9 cs
end
def Ar.enc(c:Ar):V:=.agg [.s c.1,.sl (EW c.2)]
theorem Ey:∀ps,EW ps=ps.map Ab.enc
 | []=>by simp[EW]
 | p::ps=>by simp[EW,Ey ps]
theorem Gw:∀cs,Gn cs=cs.map Ar.enc
 | []=>by simp[Gn]
 | (k,ps)::cs=>by simp[Gn,Gw cs,Ar.enc]
@[push_cast] theorem Ab.enc_eq(p:Ab):p.enc=.agg [.i .i64 p.kind,.s p.text,.s p.name,.s p.style,.sl (p.cases.map Ar.enc),.sl (p.parts.map Ab.enc)]:=by cases p;simp[Ab.enc,Ey,Gw]
@[push_cast] theorem Ar.enc_eq(c:Ar):Ar.enc c=.agg [.s c.1,.sl (c.2.map Ab.enc)]:=by simp[Ar.enc,Ey]
theorem Ab.wt_eq(p:Ab):p.wt=1+p.text.length+p.name.length+p.style.length+B9 p.cases+Aw p.parts:=by cases p;simp[Ab.wt]
theorem Aq(p:Ab)(ps:List Ab):Aw (p::ps)=p.wt+Aw ps:=by simp[Aw]
theorem Ay(c:Ar)(cs:List Ar):B9 (c::cs)=1+c.1.length+Aw c.2+B9 cs:=by obtain⟨k,ps⟩:=c;simp[B9]
theorem BF:Aw []=0:=by simp[Aw]
theorem Gs:B9 []=0:=by simp[B9]
theorem CC{ps:List Ab}{p:Ab}(h:p∈ps):p.wt<=Aw ps:=by
 induction ps with
 | nil=>cases h
 | cons d ps a=>rw[Aq];grind
theorem Bj{cs:List Ar}{c:Ar}(h:c∈cs):1+c.1.length+Aw c.2<=B9 cs:=by
 induction cs with
 | nil=>cases h
 | cons d cs a=>rw[Ay];grind
theorem C7(ps:List Ab):ps.length<=Aw ps:=by
 induction ps with
 | nil=>simp
 | cons p ps a=>rw[Aq,List.length_cons,p.wt_eq];omega
theorem Cc(cs:List Ar):cs.length<=B9 cs:=by
 induction cs with
 | nil=>simp
 | cons p ps a=>rw[Ay,List.length_cons];omega
section zip
variable{α β:Type}{f:α→β}{dn rest:List α}{x:α}
@[push_cast] theorem Au6:decide ((dn.length:Int)<((dn++x::rest).length:Int))=true:=by simp;omega
@[push_cast] theorem Aqw:(List.map f (dn++x::rest))[dn.length]?=some (f x):=by simp
@[push_cast] theorem Alb:(dn++x::rest)[dn.length]?=some x:=by simp
@[push_cast] theorem Aqh(n:Int):decide (n<n)=false:=by simp
theorem Ac(x:α){dn:List α}(h:dn.length<2^62):IntKind.i64.wrap ((dn.length:Int)+1)=((dn++[x]).length:Int):=by rw[wrap64 (by omega) (by omega)];simp
theorem AW{xs:List α}(h:xs=dn++x::rest):dn.length<xs.length:=by rw[h];simp
end zip
attribute [push_cast] List.length_map
@[push_cast] theorem Aha{c:UInt8}{r:List UInt8}:(c::r==[])=false:=rfl
@[push_cast] theorem AgV:(([]:List UInt8)==[])=true:=rfl
@[push_cast] theorem LJ(a k:Nat):(a+1+k=a)=False:=by simp;omega
@[push_cast] theorem Axb(a k:Nat):(a=a+1+k)=False:=by simp;omega
@[push_cast] theorem Mb(a k j:Nat):(a+1+k+1+j=a)=False:=by simp;omega
@[push_cast] theorem Awc(a k j:Nat):(a=a+1+k+1+j)=False:=by simp;omega
@[push_cast] theorem Mz(a k j i:Nat):(a+1+k+1+j+1+i=a)=False:=by simp;omega
@[push_cast] theorem AwQ(a k j i:Nat):(a=a+1+k+1+j+1+i)=False:=by simp;omega
@[push_cast] theorem LX(a k j i h:Nat):(a+1+k+1+j+1+i+1+h=a)=False:=by simp;omega
@[push_cast] theorem Aw2(a k j i h:Nat):(a=a+1+k+1+j+1+i+1+h)=False:=by simp;omega
@[push_cast] theorem LY(a k j i h g:Nat):(a+1+k+1+j+1+i+1+h+1+g=a)=False:=by simp;omega
@[push_cast] theorem Axw(a k j i h g:Nat):(a=a+1+k+1+j+1+i+1+h+1+g)=False:=by simp;omega
@[push_cast] theorem Ali(l:List V):Cq (.sl l)=none:=rfl
@[push_cast] theorem AgN:Cq .nil=none:=rfl
@[push_cast] theorem Anv(v:V)(k:Nat):Cq (v.ep k)=none:=rfl
@[push_cast] theorem ApZ(l:Aa):Cq (.s l)=none:=rfl
@[push_cast] theorem Art(l:Bool):Cq (.b l)=none:=rfl
@[push_cast] theorem AqQ(k:IntKind)(l:Int):Cq (.i k l)=none:=rfl
@[push_cast] theorem AgX(l:List V):Cq (.agg l)=none:=rfl
@[push_cast] theorem Ahk(id:Id)(o:Nat):Cq (.ref id o)=some id:=rfl
@[push_cast] theorem Ahq(id:Id):Cq (.arr id)=some id:=rfl
attribute [push_cast] List.forall_mem_cons List.not_mem_nil false_imp_iff implies_true Option.some.injEq forall_eq' ne_eq not_false_eq_true
def Ab.v(p:Ab):V:=.agg [.i .i64 p.kind,.s p.text,.s p.name,.s p.style,.sl (p.cases.map Ar.enc),.sl (p.parts.map Ab.enc)]
def Ar.v(c:Ar):V:=.agg [.s c.1,.sl (c.2.map Ab.enc)]
theorem Cj(x:UInt8){dn:List UInt8}(h:dn.length<AO):IntKind.i64.wrap ((dn.length:Int)+1)=((dn++[x]).length:Int):=Ac x (by unfold AO at h;omega)
@[push_cast] theorem AtA(w r:Aa):(if 0<=w.length/\w.length<=(w++r).length then some (V.s (List.take w.length (w++r))) else none)=some (V.s w):=by grind
@[push_cast] theorem Atn(w r:Aa):(if w.length<=(w++r).length/\(w++r).length<=(w++r).length then some (V.s (List.drop w.length (List.take (w++r).length (w++r)))) else none)=some (V.s r):=by grind
@[push_cast] theorem AqM(w r:Aa)(c:UInt8):(if(w++[c]).length<=(w++c::r).length/\(w++c::r).length<=(w++c::r).length then some (V.s (List.drop (w++[c]).length (List.take (w++c::r).length (w++c::r)))) else none)=some (V.s r):=by rw[if_pos ⟨by simp,Nat.le_refl _⟩,List.take_length,show w++c::r=(w++[c])++r by simp];simp only[List.drop_left]
@[push_cast] theorem Arc(w:Aa):(if 0<=w.length/\w.length<=w.length then some (V.s (List.take w.length w)) else none)=some (V.s w):=by grind
@[push_cast] theorem Asz{α:Type}(f:α->V)(w r:List α):(if 0<=w.length/\w.length<=(w++r).length then some (V.sl (List.take w.length (List.map f (w++r)))) else none)=some (V.sl (List.map f w)):=by grind
end Go.Ir
end
namespace Go.Ir
open Go.Proofs
variable{P:Program}{W0:World}{nt n:Nat}{Q:Exit→St→Prop}{env:AB}{σ:Aj}
def aK:IC:=sQ (.block 3 (oP [m1 31 3,m1 32 0,m1 33 4,iA 34 32 33 59 6,fA 35 34 4,l1 36 35,m1 37 5,iA 38 36 37 56 2,fA 39 38 1,l1 40 39,q1 41 11 40,o1 42 (.bin .add (ci 1) (.t 41)),o1 43 (.mx false (.t 31) [.t 42]),m1 3 43] [0,3,4,5])) (oP [m1 29 5,bZ 30 .add 29 1,m1 5 30] [0,3,4,5])
def gS:IC:=sQ (.block 1 (oS [m1 12 3,m1 13 0,m1 14 4,iA 15 13 14 59 6,fA 16 15 5,l1 17 16,q1 18 11 17,o1 19 (.bin .add (ci 1) (.t 18)),o1 20 (.mx false (.t 12) [ci 1,.t 19]),m1 3 20] [0,3,4] (oS [mZ 5 0] [0,3,4,5] (.block 2 (.loop (sQ (oS [m1 21 5,m1 22 0,m1 23 4,iA 24 22 23 59 6,fA 25 24 4,l1 26 25,nL 27 26,bT 28 .lss 21 27] [0,3,4,5,28] (cD 28 .skip (.exit 2))) aK)))))) (oP [m1 10 4,bZ 11 .add 10 1,m1 4 11] [0,3,4])
def tN:IC:=sQ (oS [mZ 4 0] [0,3,4] (.block 0 (.loop (sQ (oS [m1 6 4,m1 7 0,nL 8 7,bT 9 .lss 6 8] [0,3,4,9] (cD 9 .skip (.exit 0))) gS)))) (oR [m1 44 3,m1 2 44] [2])
def uQ:IC:=oS [mZ 2 0] [0] (oS [mZ 3 0] [0,3] tN)
@[push_cast]def Au7:List R:=[.t 2]
@[push_cast]def AwT:=AL aK.eq_1<|AL gS.eq_1<|AL tN.eq_1<|AZ uQ.eq_1
theorem AkL:AD π 11 45 uQ Au7=true:=by kernel_rfl
def j6:IC:=sQ (.block 3 (oP [m1 39 3,m1 40 0,m1 41 4,iA 42 40 41 59 6,fA 43 42 4,l1 44 43,m1 45 5,iA 46 44 45 56 2,fA 47 46 1,l1 48 47,q1 49 12 48,o1 50 (.bin .add (ci 1) (.t 49)),bT 51 .add 39 50,m1 3 51] [0,3,4,5])) (oP [m1 37 5,bZ 38 .add 37 1,m1 5 38] [0,3,4,5])
def Yo:IC:=sQ (.block 1 (sQ (.ops [m1 12 3,m1 13 0,m1 14 4,iA 15 13 14 59 6,fA 16 15 5,l1 17 16,q1 18 12 17,o1 19 (.bin .add (ci 1) (.t 18)),m1 20 0,m1 21 4,iA 22 20 21 59 6,fA 23 22 1,l1 24 23,nS 25 24,bZ 26 .quo 25 20,bT 27 .add 19 26,bT 28 .add 12 27,m1 3 28] [0,3,4] [[1,3],[2,3],[3,4],[4,5],[5,6],[6,7],[8,10],[9,10],[10,11],[11,12],[12,13],[13,14],[7,15],[14,15],[0,16],[15,16],[0,17],[16,17]]) (oS [mZ 5 0] [0,3,4,5] (.block 2 (.loop (sQ (oS [m1 29 5,m1 30 0,m1 31 4,iA 32 30 31 59 6,fA 33 32 4,l1 34 33,nL 35 34,bT 36 .lss 29 35] [0,3,4,5,36] (cD 36 .skip (.exit 2))) j6)))))) (oP [m1 10 4,bZ 11 .add 10 1,m1 4 11] [0,3,4])
def Aai:IC:=sQ (oS [mZ 4 0] [0,3,4] (.block 0 (.loop (sQ (oS [m1 6 4,m1 7 0,nL 8 7,bT 9 .lss 6 8] [0,3,4,9] (cD 9 .skip (.exit 0))) Yo)))) (oR [m1 52 3,m1 2 52] [2])
def vE:IC:=oS [mZ 2 0] [0] (oS [mZ 3 0] [0,3] Aai)
@[push_cast]def As2:List R:=[.t 2]
@[push_cast]def Axi:=AL j6.eq_1<|AL Yo.eq_1<|AL Aai.eq_1<|AZ vE.eq_1
theorem AmB:AD π 12 53 vE As2=true:=by kernel_rfl
def bH:IC:=sQ (.block 3 (oS [m1 46 0,m1 47 3,iA 48 46 47 59 6,fA 49 48 4,l1 50 49,m1 51 4,iA 52 50 51 56 2,fA 53 52 0,l1 54 53,nS 55 54,bZ 56 .gtr 55 60,m1 57 56,B0 58 57 0,B0 59 57 3,gF 60 57 (.iaddr (.t 58) (.t 59) 59 6),C4 61 57 60 4,C3 62 57 61,B0 63 57 4,gF 64 57 (.iaddr (.t 62) (.t 63) 56 2),C4 65 57 64 1,C3 66 57 65,gF 67 57 (.call 13 [.t 66]),gF 68 57 (.not (.t 67)),pO 69 57 68] [0,3,4,69] (cD 69 (oR [mC 2 (.b false)] [2]) .skip))) (oP [m1 44 4,bZ 45 .add 44 1,m1 4 45] [0,3,4])
def YQ:IC:=sQ (.block 1 (sQ (oS [m1 11 0,m1 12 3,iA 13 11 12 59 6,fA 14 13 2,l1 15 14,nS 16 15,bZ 17 .gtr 16 60,m1 18 17,B0 19 18 0,B0 20 18 3,gF 21 18 (.iaddr (.t 19) (.t 20) 59 6),C4 22 18 21 3,C3 23 18 22,gF 24 18 (.lenS (.t 23)),EZ 25 18 .gtr 24 60,pO 26 18 25,m1 27 26,B0 28 27 0,B0 29 27 3,gF 30 27 (.iaddr (.t 28) (.t 29) 59 6),C4 31 27 30 5,C3 32 27 31,gF 33 27 (.call 13 [.t 32]),gF 34 27 (.not (.t 33)),pO 35 27 34] [0,3,35] (cD 35 (oR [mC 2 (.b false)] [2]) .skip)) (oS [mZ 4 0] [0,3,4] (.block 2 (.loop (sQ (oS [m1 36 4,m1 37 0,m1 38 3,iA 39 37 38 59 6,fA 40 39 4,l1 41 40,nL 42 41,bT 43 .lss 36 42] [0,3,4,43] (cD 43 .skip (.exit 2))) bH)))))) (oP [m1 9 3,bZ 10 .add 9 1,m1 3 10] [0,3])
def xR:IC:=sQ (oS [mZ 3 0] [0,3] (.block 0 (.loop (sQ (oS [m1 5 3,m1 6 0,nL 7 6,bT 8 .lss 5 7] [0,3,8] (cD 8 .skip (.exit 0))) YQ)))) (oR [mC 2 (.b true)] [2])
def uV:IC:=oS [mC 2 (.b false)] [0] xR
@[push_cast]def Aru:List R:=[.t 2]
@[push_cast]def Axm:=AL bH.eq_1<|AL YQ.eq_1<|AL xR.eq_1<|AZ uV.eq_1
theorem AhW:AD π 13 70 uV Aru=true:=by kernel_rfl
def An7:IC:=oR [m1 3 0,q1 4 11 3,bZ 5 .leq 4 12,m1 6 5,BX 7 6 0,gT 8 6 (.call 12 [.t 7]),F7 9 6 .leq 8 300,pA 10 6 9,m1 11 10,BX 12 11 0,gT 13 11 (.call 13 [.t 12]),pA 14 11 13,m1 2 14] [2]
def AjN:IC:=oS [mC 2 (.b false)] [0] An7
@[push_cast]def G9:List R:=[.t 2]
@[push_cast]def Mn:=AL An7.eq_1<|AZ AjN.eq_1
theorem Asi:AD π 5 15 AjN G9=true:=by kernel_rfl
def tS:IC:=oS [mC 2 (.b false)] [0] (oR [m1 3 0,bZ 4 .eql 3 7,m1 5 4,B0 6 5 0,EZ 7 5 .eql 6 8,pO 8 5 7,m1 9 8,B0 10 9 0,EZ 11 9 .eql 10 9,pO 12 9 11,m1 2 12] [2])
@[push_cast]def Asc:List R:=[.t 2]
@[push_cast]def Axa:=AZ tS.eq_1
theorem Ao5:AD π 61 13 tS Asc=true:=by kernel_rfl
def j0:IC:=sQ (.block 1 (oS [m1 12 0,m1 13 5,iA 14 12 13 9 1,l1 15 14,m1 16 1,bT 17 .eql 15 16] [0,1,5,17] (cD 17 (oR [mC 4 (.b true)] [4]) .skip))) (oP [m1 10 5,bZ 11 .add 10 1,m1 5 11] [0,1,5])
def vM:IC:=sQ (oS [mZ 5 0] [0,1,5] (.block 0 (.loop (sQ (oS [m1 6 5,m1 7 0,nL 8 7,bT 9 .lss 6 8] [0,1,5,9] (cD 9 .skip (.exit 0))) j0)))) (oR [mC 4 (.b false)] [4])
def wH:IC:=oS [mC 4 (.b false)] [0,1] vM
@[push_cast]def ArZ:List R:=[.t 4]
@[push_cast]def Awo:=AL j0.eq_1<|AL vM.eq_1<|AZ wH.eq_1
theorem Yn:AD π 63 18 wH ArZ=true:=by kernel_rfl
end Go.Ir
section
namespace Go.Ir
open Go.Proofs
mutual
def Ab.shortB:Ab->Bool
 | ⟨_,_,n,s,cs,ps⟩=>!(decide ((n.length:Int)>60)||decide ((s.length:Int)>60)||!Da ps)&&FI cs
def Da:List Ab->Bool
 | []=>true
 | p::ps=>p.shortB&&Da ps
def FI:List (Aa×List Ab)->Bool
 | []=>true
 | (k,ps)::cs=>!(decide ((k.length:Int)>60)||!Da ps)&&FI cs
end
theorem Ab.shortB_eq(p:Ab):p.shortB=(!(decide ((p.name.length:Int)>60)||decide ((p.style.length:Int)>60)||!Da p.parts)&&FI p.cases):=by cases p;simp only[Ab.shortB]
theorem OY(p:Ab)(ps:List Ab):Da (p::ps)=(p.shortB&&Da ps):=by simp only[Da]
theorem OH(c:Ar)(ps:List Ar):FI (c::ps)=(!(decide ((c.1.length:Int)>60)||!Da c.2)&&FI ps):=by obtain⟨k,q⟩:=c;simp only[FI]
theorem VX(W0:World):∀(N:Nat) (ps:List Ab),Aw ps<N->Aw ps<=2^24->An Tryz.prog W0 13 [.sl (ps.map Ab.enc)] [] (.b (Da ps)) []:=by
 intro N
 induction N with
 | zero=>intro ps h;omega
 | succ N r=>
 intro ps z A;generalize hS:Da ps=S;refine Ak (vs:=[.b S]) AhW (by simp) (by simp) λn v=>?_;clear v;simp only[push_cast,seval,reduceEqDiff];intro _ _;refine As ps.length (Inv:=λm q=>∃dn rest n,ps=dn++rest/\m=rest.length/\Da rest=S/\q=⟨[(0,.sl (ps.map Ab.enc)),(3,.i .i64 dn.length)],[],n⟩) ⟨_,Al.refl,[],ps,_,rfl,rfl,hS,rfl⟩ ?_;clear hS;rintro m _ ⟨dn,rest,n,rfl,rfl,e,rfl⟩;have o:=C7 (dn++rest);cases rest with
 | nil=>simp only[push_cast,seval,reduceEqDiff];intro _ _;exact Af (by rw[<-e];rfl)
 | cons p rest=>
  have w:=CC (ps:=dn++p::rest) (p:=p) (by simp);rw[p.wt_eq] at w;rw[OY,p.shortB_eq] at e;simp only[push_cast,seval,reduceEqDiff]
  repeat' (first|(((first|apply Ad|apply Ai|apply Ah)<;>intro _h)<;>(simp only[push_cast,seval,reduceEqDiff,_h];try (have _g:=_h;simp at _g)))|(refine Ae (by exact r p.parts (by omega) (by omega)) ?_;simp only[push_cast,seval,reduceEqDiff])|intro _)
  all_goals (try exact Af (by simp[get,<-e, *];done))
  have k:(FI p.cases&&Da rest)=S:=by rw[<-e];simp[*]
  refine As p.cases.length (Inv:=λm q=>∃g j n,p.cases=g++j/\m=j.length/\(FI j&&Da rest)=S/\q=⟨[(0,.sl ((dn++p::rest).map Ab.enc)),(3,.i .i64 dn.length),(4,.i .i64 g.length)],[],n⟩) ⟨_,Al.refl,[],p.cases,_,rfl,rfl,k,rfl⟩ ?_;clear e k;rintro m _ ⟨g,j,n,a,rfl,e,rfl⟩;have u:=Cc p.cases;cases j with
  | nil=>simp only[push_cast,seval,reduceEqDiff,a,Ac p (dn:=dn) (by simp at o;omega)];intro _ _;exact⟨_,_,Nat.lt_succ_self _,Al.refl,dn++[p],rest,_,by simp,rfl,by rw[<-e];rfl,rfl⟩
  | cons c j=>
   have y:=Bj (cs:=p.cases) (c:=c) (by simp[a]);have s:=AW a;rw[OH] at e;simp only[push_cast,seval,reduceEqDiff,a,Ac c (dn:=g) (by omega)]
   repeat' (first|(((first|apply Ad|apply Ai|apply Ah)<;>intro _h)<;>(simp only[push_cast,seval,reduceEqDiff,_h,a,Ac c (dn:=g) (by omega)];try (have _g:=_h;simp at _g)))|(refine Ae (by exact r c.2 (by omega) (by omega)) ?_;simp only[push_cast,seval,reduceEqDiff,a,Ac c (dn:=g) (by omega)])|intro _)
   all_goals (try exact Af (by simp[get,<-e, *];done))
   exact⟨_,_,Nat.lt_succ_self _,Al.refl,g++[c],j,_,by simp[a],rfl,by rw[<-e];simp[*],rfl⟩
end Go.Ir
end
namespace Go.Ir
open Go.Proofs
variable{P:Program}{W0:World}{nt n:Nat}{Q:Exit→St→Prop}{env:AB}{σ:Aj}
def YA:IC:=oR [m1 3 0,bC 4 .geq 3 (.i .u8 97),m1 5 4,BX 6 5 0,gT 7 5 (.bin .leq (.t 6) (.c (.i .u8 122))),pA 8 5 7,m1 9 8,B0 10 9 0,gF 11 9 (.bin .geq (.t 10) (.c (.i .u8 65))),B0 12 9 11,BX 13 12 0,gT 14 12 (.bin .leq (.t 13) (.c (.i .u8 90))),gF 15 9 (.pick (.t 12) (.t 14) (.c (.b false))),pO 16 9 15,m1 17 16,B0 18 17 0,gF 19 17 (.bin .geq (.t 18) (.c (.i .u8 48))),B0 20 17 19,BX 21 20 0,gT 22 20 (.bin .leq (.t 21) (.c (.i .u8 57))),gF 23 17 (.pick (.t 20) (.t 22) (.c (.b false))),pO 24 17 23,m1 2 24] [2]
def cJ:IC:=oS [mC 2 (.b false)] [0] YA
@[push_cast]def Alr:List R:=[.t 2]
@[push_cast]def AuM:=AL YA.eq_1<|AZ cJ.eq_1
theorem Aft:AD π 119 25 cJ Alr=true:=by kernel_rfl
def eB:IC:=oS [m1 26 0,m1 27 3,o1 28 (.idx (.t 26) (.t 27)),q1 29 119 28,nT 30 29,m1 31 30,BX 32 31 0,BX 33 31 3,gT 34 31 (.idx (.t 32) (.t 33)),gT 35 31 (.bin .neq (.t 34) (.c (.i .u8 95))),pA 36 31 35,m1 37 36,BX 38 37 0,BX 39 37 3,gT 40 37 (.idx (.t 38) (.t 39)),gT 41 37 (.bin .neq (.t 40) (.c (.i .u8 45))),pA 42 37 41] [0,22,23,42] (cD 42 (oR [mC 2 (.b false)] [2]) .skip)
def Ze:IC:=oS [bT 24 .lss 23 22] [0,22,23,24] (sQ (cD 24 .skip (.exit 0)) (sQ (.block 1 (oS [m1 25 23,m1 3 25] [0,3,22,23] eB)) (oP [bZ 43 .add 23 1,m1 23 43] [0,22,23])))
def xB:IC:=sQ (oS [m1 4 0,bC 5 .eql 4 (.s []),m1 6 5,B0 7 6 0,gF 8 6 (.lenS (.t 7)),EZ 9 6 .gtr 8 40,pO 10 6 9,m1 11 10,B0 12 11 0,gF 13 11 (.idx (.t 12) (ci 0)),gF 14 11 (.bin .lss (.t 13) (.c (.i .u8 97))),pO 15 11 14,m1 16 15,B0 17 16 0,gF 18 16 (.idx (.t 17) (ci 0)),gF 19 16 (.bin .gtr (.t 18) (.c (.i .u8 122))),pO 20 16 19] [0,20] (cD 20 (oR [mC 2 (.b false)] [2]) .skip)) (sQ (oS [m1 21 0,nS 22 21,mZ 23 0] [0,22,23] (.block 0 (.loop Ze))) (oR [mC 2 (.b true)] [2]))
def vH:IC:=oS [mC 2 (.b false)] [0] xB
@[push_cast]def Ar6:List R:=[.t 2]
@[push_cast]def Awa:=AL eB.eq_1<|AL Ze.eq_1<|AL xB.eq_1<|AZ vH.eq_1
theorem Aos:AD π 92 44 vH Ar6=true:=by kernel_rfl
def TN:IC:=cD 4 .skip (oS [bC 8 .eql 3 (.s [102,101,119]),m1 4 8] [3,4] (cD 4 .skip (oS [bC 9 .eql 3 (.s [109,97,110,121]),m1 4 9] [3,4] (cD 4 .skip (oP [bC 10 .eql 3 (.s [111,116,104,101,114]),m1 4 10] [4])))))
def fK:IC:=.block 0 (sQ (oS [bC 5 .eql 3 (.s [122,101,114,111]),m1 4 5] [3,4] (cD 4 .skip (oS [bC 6 .eql 3 (.s [111,110,101]),m1 4 6] [3,4] (cD 4 .skip (oS [bC 7 .eql 3 (.s [116,119,111]),m1 4 7] [3,4] TN))))) (cD 4 (oR [mC 2 (.b true)] [2]) .skip))
def Yp:IC:=oS [mC 2 (.b false)] [0] (sQ (oS [m1 3 0] [3] fK) (oR [mC 2 (.b false)] [2]))
@[push_cast]def AlQ:List R:=[.t 2]
@[push_cast]def Avr:=AL TN.eq_1<|AL fK.eq_1<|AZ Yp.eq_1
theorem Ae7:AD π 120 11 Yp AlQ=true:=by kernel_rfl
def aL:IC:=oS [m1 13 4,bC 14 .lss 13 (.i .u8 97),m1 15 14,B0 16 15 4,gF 17 15 (.bin .gtr (.t 16) (.c (.i .u8 122))),pO 18 15 17,m1 19 18,BX 20 19 4,gT 21 19 (.bin .lss (.t 20) (.c (.i .u8 65))),BX 22 19 21,B0 23 22 4,gF 24 22 (.bin .gtr (.t 23) (.c (.i .u8 90))),gT 25 19 (.pick (.t 22) (.c (.b true)) (.t 24)),pA 26 19 25] [0,6,7,26] (cD 26 (oR [mC 2 (.b false)] [2]) .skip)
def dY:IC:=sQ (.block 1 (oS [m1 9 7,m1 3 9] [0,3,6,7] (oS [m1 10 0,m1 11 3,o1 12 (.idx (.t 10) (.t 11)),m1 4 12] [0,4,6,7] aL))) (oP [bZ 27 .add 7 1,m1 7 27] [0,6,7])
def Aae:IC:=sQ (oS [m1 5 0,nS 6 5,mZ 7 0] [0,6,7] (.block 0 (.loop (oS [bT 8 .lss 7 6] [0,6,7,8] (sQ (cD 8 .skip (.exit 0)) dY))))) (oR [m1 28 0,bC 29 .neq 28 (.s []),m1 30 29,BX 31 30 0,gT 32 30 (.lenS (.t 31)),F7 33 30 .leq 32 40,pA 34 30 33,m1 2 34] [2])
def Aa2:IC:=oS [mC 2 (.b false)] [0] Aae
@[push_cast]def As0:List R:=[.t 2]
@[push_cast]def Axn:=AL aL.eq_1<|AL dY.eq_1<|AL Aae.eq_1<|AZ Aa2.eq_1
theorem AkZ:AD π 93 35 Aa2 As0=true:=by kernel_rfl
def uL:IC:=oS [mC 2 (.b false)] [0] (oR [m1 3 0,bZ 4 .geq 3 7,m1 5 4,BX 6 5 0,F7 7 5 .leq 6 9,pA 8 5 7,m1 2 8] [2])
@[push_cast]def AsW:List R:=[.t 2]
@[push_cast]def AvX:=AZ uL.eq_1
theorem An3:AD π 35 9 uL AsW=true:=by kernel_rfl
def uW:IC:=oS [mC 2 (.b false)] [0] (oR [m1 3 0,bC 4 .geq 3 (.i .u8 97),m1 5 4,BX 6 5 0,gT 7 5 (.bin .leq (.t 6) (.c (.i .u8 122))),pA 8 5 7,m1 2 8] [2])
@[push_cast]def AtL:List R:=[.t 2]
@[push_cast]def AwP:=AZ uW.eq_1
theorem AiN:AD π 82 9 uW AtL=true:=by kernel_rfl
def ZC:IC:=oR [m1 3 0,q1 4 82 3,m1 5 4,B0 6 5 0,gF 7 5 (.bin .geq (.t 6) (.c (.i .u8 65))),B0 8 5 7,BX 9 8 0,gT 10 8 (.bin .leq (.t 9) (.c (.i .u8 90))),gF 11 5 (.pick (.t 8) (.t 10) (.c (.b false))),pO 12 5 11,m1 2 12] [2]
def Yv:IC:=oS [mC 2 (.b false)] [0] ZC
@[push_cast]def AlN:List R:=[.t 2]
@[push_cast]def Avh:=AL ZC.eq_1<|AZ Yv.eq_1
theorem Abw:AD π 102 13 Yv AlN=true:=by kernel_rfl
def vX:IC:=oR [m1 3 0,q1 4 102 3,m1 5 4,B0 6 5 0,gF 7 5 (.bin .geq (.t 6) (.c (.i .u8 48))),B0 8 5 7,BX 9 8 0,gT 10 8 (.bin .leq (.t 9) (.c (.i .u8 57))),gF 11 5 (.pick (.t 8) (.t 10) (.c (.b false))),pO 12 5 11,m1 13 12,B0 14 13 0,gF 15 13 (.bin .eql (.t 14) (.c (.i .u8 95))),pO 16 13 15,m1 17 16,B0 18 17 0,gF 19 17 (.bin .eql (.t 18) (.c (.i .u8 45))),pO 20 17 19,m1 2 20] [2]
def Aaj:IC:=oS [mC 2 (.b false)] [0] vX
@[push_cast]def At7:List R:=[.t 2]
@[push_cast]def Axc:=AL vX.eq_1<|AZ Aaj.eq_1
theorem AhO:AD π 81 21 Aaj At7=true:=by kernel_rfl
def X9:IC:=sQ (.block 1 (oS [m1 10 0,m1 11 3,o1 12 (.idx (.t 10) (.t 11)),q1 13 81 12,nT 14 13] [0,3,14] (cD 14 (oR [mC 2 (.b false)] [2]) .skip))) (oP [m1 8 3,bZ 9 .add 8 1,m1 3 9] [0,3])
def j5:IC:=oR [m1 15 0,nS 16 15,bZ 17 .geq 16 1,m1 18 17,BX 19 18 0,gT 20 18 (.lenS (.t 19)),F7 21 18 .leq 20 40,pA 22 18 21,m1 23 22,BX 24 23 0,gT 25 23 (.idx (.t 24) (ci 0)),gT 26 23 (.call 82 [.t 25]),pA 27 23 26,m1 2 27] [2]
def zN:IC:=oS [mC 2 (.b false)] [0] (sQ (oS [mZ 3 0] [0,3] (.block 0 (.loop (sQ (oS [m1 4 3,m1 5 0,nS 6 5,bT 7 .lss 4 6] [0,3,7] (cD 7 .skip (.exit 0))) X9)))) j5)
@[push_cast]def AtJ:List R:=[.t 2]
@[push_cast]def AwV:=AL X9.eq_1<|AL j5.eq_1<|AZ zN.eq_1
theorem Ane:AD π 60 28 zN AtJ=true:=by kernel_rfl
def uZ:IC:=oR [m1 3 0,bC 4 .eql 3 (.i .u8 123),m1 5 4,B0 6 5 0,gF 7 5 (.bin .eql (.t 6) (.c (.i .u8 125))),pO 8 5 7,m1 9 8,B0 10 9 0,gF 11 9 (.bin .eql (.t 10) (.c (.i .u8 60))),pO 12 9 11,m1 13 12,B0 14 13 0,gF 15 13 (.bin .eql (.t 14) (.c (.i .u8 62))),pO 16 13 15,m1 17 16,B0 18 17 0,gF 19 17 (.bin .eql (.t 18) (.c (.i .u8 35))),pO 20 17 19,m1 21 20,B0 22 21 0,gF 23 21 (.bin .eql (.t 22) (.c (.i .u8 92))),pO 24 21 23,m1 2 24] [2]
def yN:IC:=oS [mC 2 (.b false)] [0] uZ
@[push_cast]def Asq:List R:=[.t 2]
@[push_cast]def AwC:=AL uZ.eq_1<|AZ yN.eq_1
theorem Aol:AD π 86 25 yN Asq=true:=by kernel_rfl
def xN:IC:=oR [m1 3 0,bC 4 .eql 3 (.s [122,101,114,111]),m1 5 4,B0 6 5 0,gF 7 5 (.bin .eql (.t 6) (.c (.s [111,110,101]))),pO 8 5 7,m1 9 8,B0 10 9 0,gF 11 9 (.bin .eql (.t 10) (.c (.s [116,119,111]))),pO 12 9 11,m1 13 12,B0 14 13 0,gF 15 13 (.bin .eql (.t 14) (.c (.s [102,101,119]))),pO 16 13 15,m1 17 16,B0 18 17 0,gF 19 17 (.bin .eql (.t 18) (.c (.s [109,97,110,121]))),pO 20 17 19,m1 21 20,B0 22 21 0,gF 23 21 (.bin .eql (.t 22) (.c (.s [111,116,104,101,114]))),pO 24 21 23,m1 2 24] [2]
def Aat:IC:=oS [mC 2 (.b false)] [0] xN
@[push_cast]def AsV:List R:=[.t 2]
@[push_cast]def Axr:=AL xN.eq_1<|AZ Aat.eq_1
theorem Ai9:AD π 83 25 Aat AsV=true:=by kernel_rfl
def cZ:IC:=oS [m1 14 4,bC 15 .geq 14 (.i .u8 97),m1 16 15,BX 17 16 4,gT 18 16 (.bin .leq (.t 17) (.c (.i .u8 122))),pA 19 16 18,m1 20 19,B0 21 20 4,gF 22 20 (.bin .geq (.t 21) (.c (.i .u8 65))),B0 23 20 22,BX 24 23 4,gT 25 23 (.bin .leq (.t 24) (.c (.i .u8 90))),gF 26 20 (.pick (.t 23) (.t 25) (.c (.b false))),pO 27 20 26,nT 28 27] [0,3,28] (cD 28 (oR [mC 2 (.b false)] [2]) .skip)
def Aaq:IC:=sQ (oS [m1 5 3,m1 6 0,nS 7 6,bT 8 .lss 5 7] [0,3,8] (cD 8 .skip (.exit 0))) (sQ (.block 1 (oS [m1 11 0,m1 12 3,o1 13 (.idx (.t 11) (.t 12)),m1 4 13] [0,3,4] cZ)) (oP [m1 9 3,bZ 10 .add 9 1,m1 3 10] [0,3]))
def tX:IC:=oS [mC 2 (.b false)] [0] (sQ (oS [mZ 3 0] [0,3] (.block 0 (.loop Aaq))) (oR [m1 29 0,nS 30 29,bZ 31 .geq 30 1,m1 32 31,BX 33 32 0,gT 34 32 (.lenS (.t 33)),F7 35 32 .leq 34 40,pA 36 32 35,m1 2 36] [2]))
@[push_cast]def Aus:List R:=[.t 2]
@[push_cast]def Axe:=AL cZ.eq_1<|AL Aaq.eq_1<|AZ tX.eq_1
theorem Apv:AD π 85 37 tX Aus=true:=by kernel_rfl
def tZ:IC:=oS [mC 2 (.b false)] [0] (oR [m1 3 0,bZ 4 .eql 3 7,m1 5 4,B0 6 5 0,EZ 7 5 .eql 6 8,pO 8 5 7,m1 2 8] [2])
@[push_cast]def ArE:List R:=[.t 2]
@[push_cast]def Awi:=AZ tZ.eq_1
theorem Apz:AD π 64 9 tZ ArE=true:=by kernel_rfl
def Ux:IC:=sQ (.block 1 (oS [m1 10 0,m1 11 3,o1 12 (.idx (.t 10) (.t 11)),bC 13 .lss 12 (.i .u8 48),m1 14 13,B0 15 14 0,B0 16 14 3,gF 17 14 (.idx (.t 15) (.t 16)),gF 18 14 (.bin .gtr (.t 17) (.c (.i .u8 57))),pO 19 14 18] [0,3,19] (cD 19 (oR [mC 2 (.b false)] [2]) .skip))) (oP [m1 8 3,bZ 9 .add 8 1,m1 3 9] [0,3])
def i6:IC:=sQ (oS [mZ 3 0] [0,3] (.block 0 (.loop (sQ (oS [m1 4 3,m1 5 0,nS 6 5,bT 7 .lss 4 6] [0,3,7] (cD 7 .skip (.exit 0))) Ux)))) (oR [mC 2 (.b true)] [2])
def Zf:IC:=oS [mC 2 (.b false)] [0] i6
@[push_cast]def Aku:List R:=[.t 2]
@[push_cast]def Avi:=AL Ux.eq_1<|AL i6.eq_1<|AZ Zf.eq_1
theorem AdK:AD π 127 20 Zf Aku=true:=by kernel_rfl
def Vr:IC:=sQ (.block 1 (oS [m1 10 0,m1 11 3,o1 12 (.idx (.t 10) (.t 11)),bC 13 .neq 12 (.i .u8 48)] [0,3,13] (cD 13 (oR [mC 2 (.b false)] [2]) .skip))) (oP [m1 8 3,bZ 9 .add 8 1,m1 3 9] [0,3])
def Yh:IC:=sQ (oS [mZ 3 0] [0,3] (.block 0 (.loop (sQ (oS [m1 4 3,m1 5 0,nS 6 5,bT 7 .lss 4 6] [0,3,7] (cD 7 .skip (.exit 0))) Vr)))) (oR [mC 2 (.b true)] [2])
def jG:IC:=oS [mC 2 (.b false)] [0] Yh
@[push_cast]def Anl:List R:=[.t 2]
@[push_cast]def AuO:=AL Vr.eq_1<|AL Yh.eq_1<|AZ jG.eq_1
theorem Ab3:AD π 128 14 jG Anl=true:=by kernel_rfl
end Go.Ir
section
namespace Go.Ir
theorem Ag{W0:World}{nt n:Nat}{a:List R}{vs:List V}{env:AB}{σ:Aj}(h:D4 ⟨env,σ,n⟩ a vs):I1 W0 nt a vs [] .ret ⟨env,σ,n⟩:=
 ⟨_,Al.refl,h,λid e h=>by simp[lk] at h⟩
section
variable{P:Program}{W0:World}{nt n ep:Nat}{live:List Nat}{Q:Exit→St→Prop}{env:AB}{σ:Aj}{l:List I}{t:Bool}
class Eu (p:Prop) (A B:outParam Prop):Prop where
 go:A->B->p
instance splC{a b:IC}:Eu (Om P W0 nt (.b t) a b Q env σ n) (t=true->aW P W0 nt a Q ⟨env,σ,n⟩) (t=false->aW P W0 nt b Q ⟨env,σ,n⟩):=⟨Ad⟩
instance splT{d:Option Nat}{a:AE}{ap:List X}:Eu (RL P W0 ep live Q (.b t) true d a ap l env σ) (t=true->J P W0 ep live Q (⟨d,a,none,ap⟩::l) env σ) (t=false->J P W0 ep live Q l (put env d (.tup [])) σ):=⟨Ai⟩
instance splF{d:Option Nat}{a:AE}{ap:List X}:Eu (RL P W0 ep live Q (.b t) false d a ap l env σ) (t=false->J P W0 ep live Q (⟨d,a,none,ap⟩::l) env σ) (t=true->J P W0 ep live Q l (put env d (.tup [])) σ):=⟨Ah⟩
end
def p6(o:Option AX)(a k:Nat)(b:Bool)(v:V):Prop:=∃u,o=some (.box u)/\sub u a k b=some v
def AeM(x:V)(σ:Aj)(k:Nat)(b:Bool)(v:V):Prop:=∃id a u,x=.ref id a/\lk σ id=some (.box u)/\sub u a k b=some v
@[push_cast] theorem Am2{u v:V}{a k:Nat}{b:Bool}:p6 (some (.box u)) a k b v=(sub u a k b=some v):=by simp[p6]
@[push_cast] theorem AlY{id:Id}{a k:Nat}{σ:Aj}{b:Bool}{v:V}:AeM (.ref id a) σ k b v=p6 (lk σ id) a k b v:=by unfold AeM p6;grind
@[push_cast] theorem Anz{env:AB}{σ:Aj}{n s k:Nat}{a:Bool}{b:List R}{v:V}{vs:List V}:D4 ⟨env,σ,n⟩ (.c s k a::b) (v::vs)=(AeM (get env s) σ k a v/\D4 ⟨env,σ,n⟩ b vs):=rfl
@[push_cast] theorem AnC{env:AB}{σ:Aj}{n s:Nat}{a:List R}{v:V}{vs:List V}:D4 ⟨env,σ,n⟩ (.t s::a) (v::vs)=(get env s=v/\D4 ⟨env,σ,n⟩ a vs):=rfl
@[push_cast] theorem AcP{a:St}:D4 a [] []=True:=rfl
theorem Al.drop1{W0:World}{nt n n':Nat}{env:AB}{σ:Aj}{id:Id}{x:AX}(h:lk σ id=none)(b:n<=n'):Al W0 nt ⟨env,(id,x)::σ,n⟩ ⟨env,σ,n'⟩:=by
 refine Al.drop (λc e a=>?_) b;simp only[lk];rw[if_neg]
 .exact a
 grind
theorem JK{σ:Aj}{a:Id}{x:AX}(h:lk σ a=none):∀id e,lk σ id=some e->lk ((a,x)::σ) id=some e:=by
 intro id e b;simp only[lk];rw[if_neg]
 .exact b
 grind
end Go.Ir
end
section
namespace Go.Ir
theorem Al.dropM{W0:World}{nt n n':Nat}{env:AB}{a m:Id×AX}{σ:Aj}(h:lk σ m.1=none)(c:n<=n'):Al W0 nt ⟨env,a::m::σ,n⟩ ⟨env,a::σ,n'⟩:=by obtain⟨j,g⟩:=a;refine Al.drop (λi e b=>?_) c;simp only[lk] at b⊢;grind
theorem F3{P:Program}{W0:World}{ep:Nat}{live:List Nat}{Q:Exit->St->Prop}{p:Prop}{l:List I}{env:AB}{σ:Aj}(h:p)(k:J P W0 ep live Q l env σ):JP P W0 ep live Q p l env σ:=⟨h,k⟩
section
variable{P:Program}{W0:World}{ep d:Nat}{live:List Nat}{Q:Exit→St→Prop}{l:List I}{env:AB}{σ:Aj}
theorem UL{id:Id}{e e':AX}(h:∀p∈σ,p.1≠id):over [(id,e)] [(id,e')] ((id,e)::σ)=(id,e')::σ:=by
 have:List.filter (λp:Id×AX=>(lk [(id,e)] p.1).isNone) σ=σ:=by rw[List.filter_eq_self];intro p hp;have:=h p hp;simp[lk,Ne.symm this]
 unfold over;rw[List.filter_cons_of_neg (by simp[lk]),this];rfl
theorem T7{f:FuncId}{vs:List V}{v:V}{id:Id}{e e':AX}(h:An P W0 f vs [(id,e)] v [(id,e')])(a:∀p∈σ,p.1≠id)
  (b:J P W0 ep live Q l ((d,v)::env) ((id,e')::σ)):GK P W0 ep live Q f vs l d env ((id,e)::σ):=by
 refine Dn h (λi y c=>?_) (by rw[UL a];exact b);simp only[lk] at c⊢;grind
theorem N2{f:FuncId}{vs:List V}{v:V}{id:Id}{e e':AX}{a:Id×AX}(h:An P W0 f vs [(id,e)] v [(id,e')])(b:∀p∈a::σ,p.1≠id)
  (m:J P W0 ep live Q l ((d,v)::env) ((id,e')::a::σ)):GK P W0 ep live Q f vs l d env (a::(id,e)::σ):=by
 have k:a.1≠id:=b a (by simp);refine Dn h (λi y o=>?_) ?_
 .obtain⟨j,x⟩:=a;simp only[lk] at o⊢;grind
 .have:over [(id,e)] [(id,e')] (a::(id,e)::σ)=(id,e')::a::σ:=by
   have c:=UL (e:=e) (e':=e') (λp hp=>b p (List.mem_cons_of_mem a hp));have g:(lk [(id,e)] a.1).isNone=true:=by simp[lk,Ne.symm k]
   simp only[over,List.filter_cons,g,if_true,List.singleton_append,List.cons.injEq,true_and] at c⊢;simpa[lk] using c
  rw[this];exact m
end
end Go.Ir
end
namespace Go.Ir
open Go.Proofs
variable(W0:World)
def HO(n:Int):Bool:=decide (n>=97)&&decide (n<=122)||decide (n>=65)&&decide (n<=90)||decide (n>=48)&&decide (n<=57)
theorem Xi(n:Int):An π W0 119 [.i .u8 n] [] (.b (HO n)) []:=by
 refine Ak (vs:=[.b (HO n)]) Aft (by simp) (by simp) λn0 a=>?_;clear a;simp only[push_cast,seval,reduceEqDiff]
 repeat' (first|(((first|apply Ad|apply Ai|apply Ah)<;>intro _h)<;>(simp only[push_cast,seval,reduceEqDiff,_h];try (have _g:=_h;simp at _g)))|intro _)
 all_goals (first|(refine Af ?_;simp[get,HO, *]<;>(intros;omega);done)|(refine Ag ?_;simp[push_cast,get,HO, *];done)|skip)
def AJ(n:Int):Bool:=decide (n>=7)&&decide (n<=9)
theorem D5(n:Int):An π W0 35 [.i .i64 n] [] (.b (AJ n)) []:=by
 refine Ak (vs:=[.b (AJ n)]) An3 (by simp) (by simp) λn0 a=>?_;clear a;simp only[push_cast,seval,reduceEqDiff]
 repeat' (first|(((first|apply Ad|apply Ai|apply Ah)<;>intro _h)<;>(simp only[push_cast,seval,reduceEqDiff,_h];try (have _g:=_h;simp at _g)))|intro _)
 all_goals (first|(refine Af ?_;simp[get,AJ, *]<;>(intros;omega);done)|(refine Ag ?_;simp[push_cast,get,AJ, *];done)|skip)
def Gy(n:Int):Bool:=n==123||n==125||n==60||n==62||n==35||n==92
def ET(s:Aa):Bool:=s==[122,101,114,111]||s==[111,110,101]||s==[116,119,111]||s==[102,101,119]||s==[109,97,110,121]||s==[111,116,104,101,114]
theorem kH(s:Aa):An π W0 120 [.s s] [] (.b (ET s)) []:=by
 refine Ak (vs:=[.b (ET s)]) Ae7 (by simp) (by simp) λn0 a=>?_;clear a;simp only[push_cast,seval,reduceEqDiff]
 repeat' (first|(((first|apply Ad|apply Ai|apply Ah)<;>intro _h)<;>(simp only[push_cast,seval,reduceEqDiff,_h];try (have _g:=_h;simp at _g)))|intro _)
 all_goals (first|(refine Af ?_;simp[get,ET, *]<;>(intros;omega);done)|(refine Ag ?_;simp[push_cast,get,ET, *];done)|skip)
def DV(n:Int):Bool:=decide (n>=97)&&decide (n<=122)
theorem Qw(n:Int):An π W0 82 [.i .u8 n] [] (.b (DV n)) []:=by
 refine Ak (vs:=[.b (DV n)]) AiN (by simp) (by simp) λn0 a=>?_;clear a;simp only[push_cast,seval,reduceEqDiff]
 repeat' (first|(((first|apply Ad|apply Ai|apply Ah)<;>intro _h)<;>(simp only[push_cast,seval,reduceEqDiff,_h];try (have _g:=_h;simp at _g)))|intro _)
 all_goals (first|(refine Af ?_;simp[get,DV, *]<;>(intros;omega);done)|(refine Ag ?_;simp[push_cast,get,DV, *];done)|skip)
def HM(n:Int):Bool:=DV n||decide (n>=65)&&decide (n<=90)
theorem V7(n:Int):An π W0 102 [.i .u8 n] [] (.b (HM n)) []:=by
 refine Ak (vs:=[.b (HM n)]) Abw (by simp) (by simp) λn0 a=>?_;clear a;simp only[push_cast,seval,reduceEqDiff]
 repeat' (first|(((first|apply Ad|apply Ai|apply Ah)<;>intro _h)<;>(simp only[push_cast,seval,reduceEqDiff,_h];try (have _g:=_h;simp at _g)))|(refine Ae (by exact Qw W0 n) ?_;simp only[push_cast,seval,reduceEqDiff])|intro _)
 all_goals (first|(refine Af ?_;simp[get,HM, *]<;>(intros;omega);done)|(refine Ag ?_;simp[push_cast,get,HM, *];done)|skip)
def Kt(n:Int):Bool:=HM n||decide (n>=48)&&decide (n<=57)||n==95||n==45
theorem bN(n:Int):An π W0 81 [.i .u8 n] [] (.b (Kt n)) []:=by
 refine Ak (vs:=[.b (Kt n)]) AhO (by simp) (by simp) λn0 a=>?_;clear a;simp only[push_cast,seval,reduceEqDiff]
 repeat' (first|(((first|apply Ad|apply Ai|apply Ah)<;>intro _h)<;>(simp only[push_cast,seval,reduceEqDiff,_h];try (have _g:=_h;simp at _g)))|(refine Ae (by exact V7 W0 n) ?_;simp only[push_cast,seval,reduceEqDiff])|intro _)
 all_goals (first|(refine Af ?_;simp[get,Kt, *]<;>(intros;omega);done)|(refine Ag ?_;simp[push_cast,get,Kt, *];done)|skip)
theorem Th(n:Int):An π W0 86 [.i .u8 n] [] (.b (Gy n)) []:=by
 refine Ak (vs:=[.b (Gy n)]) Aol (by simp) (by simp) λn0 a=>?_;clear a;simp only[push_cast,seval,reduceEqDiff]
 repeat' (first|(((first|apply Ad|apply Ai|apply Ah)<;>intro _h)<;>(simp only[push_cast,seval,reduceEqDiff,_h];try (have _g:=_h;simp at _g)))|intro _)
 all_goals (first|(refine Af ?_;simp[get,Gy, *]<;>(intros;omega);done)|(refine Ag ?_;simp[push_cast,get,Gy, *];done)|skip)
theorem iQ(s:Aa):An π W0 83 [.s s] [] (.b (ET s)) []:=by
 refine Ak (vs:=[.b (ET s)]) Ai9 (by simp) (by simp) λn0 a=>?_;clear a;simp only[push_cast,seval,reduceEqDiff]
 repeat' (first|(((first|apply Ad|apply Ai|apply Ah)<;>intro _h)<;>(simp only[push_cast,seval,reduceEqDiff,_h];try (have _g:=_h;simp at _g)))|intro _)
 all_goals (first|(refine Af ?_;simp[get,ET, *]<;>(intros;omega);done)|(refine Ag ?_;simp[push_cast,get,ET, *];done)|skip)
def K7(n:Int):Bool:=n==7||n==8
theorem TA(n:Int):An π W0 64 [.i .i64 n] [] (.b (K7 n)) []:=by
 refine Ak (vs:=[.b (K7 n)]) Apz (by simp) (by simp) λn0 a=>?_;clear a;simp only[push_cast,seval,reduceEqDiff]
 repeat' (first|(((first|apply Ad|apply Ai|apply Ah)<;>intro _h)<;>(simp only[push_cast,seval,reduceEqDiff,_h];try (have _g:=_h;simp at _g)))|intro _)
 all_goals (first|(refine Af ?_;simp[get,K7, *]<;>(intros;omega);done)|(refine Ag ?_;simp[push_cast,get,K7, *];done)|skip)
def FZ(n:Int):Bool:=HO n||n==95||n==45
theorem Xo(n:Int):Kt n=FZ n:=by simp[Kt,FZ,HM,DV,HO,Bool.or_assoc]
def EM(f:Int->Bool):Aa->Bool
 | []=>true
 | c::r=>f c.toNat&&EM f r
def BA:Aa->Bool
 | []=>false
 | c::r=>decide (((c::r).length:Int)<=40)&&DV c.toNat&&EM FZ (c::r)
theorem DF(s:Aa)(q:s.length<AO):An π W0 92 [.s s] [] (.b (BA s)) []:=by
 generalize hS:BA s=S;refine Ak (vs:=[.b S]) Aos (by simp) (by simp) λn0 j=>?_;clear j;simp only[push_cast,seval,reduceEqDiff];cases s with
 | nil=>
  simp only[push_cast,seval,reduceEqDiff]
  repeat' (first|(((first|apply Ad|apply Ai|apply Ah)<;>intro _h)<;>(simp only[push_cast,seval,reduceEqDiff,_h];try (have _g:=_h;simp at _g)))|intro _)
  all_goals exact Af (by simp[get,<-hS,BA])
 | cons a h=>
  unfold BA at hS;simp only at hS;simp only[push_cast,seval,reduceEqDiff]
  repeat' (first|(((first|apply Ad|apply Ai|apply Ah)<;>intro _h)<;>(simp only[push_cast,seval,reduceEqDiff,_h];try (have _g:=_h;simp at _g)))|intro _)
  all_goals (first|(refine Af ?_;simp[get,<-hS,DV, *]<;>(intros;omega);done)|(refine Ag ?_;simp[push_cast,get,<-hS,DV, *];done)|skip)
  have k:(decide (((a::h).length:Int)<=40)&&DV a.toNat)=true:=by simp[DV];omega
  rw[k,Bool.true_and] at hS;refine As (a::h).length (Inv:=λm o=>∃dn rest n,a::h=dn++rest/\m=rest.length/\EM FZ rest=S/\o=⟨[(0,.s (a::h)),(22,.i .i64 (a::h).length),(23,.i .i64 dn.length)],[],n⟩) ⟨_,Al.refl,[],_,_,rfl,rfl,hS,by simp;rfl⟩ ?_;clear hS;rintro m _ ⟨dn,rest,n,g,rfl,e,rfl⟩;cases rest with
  | nil=>
   simp only[push_cast,seval,reduceEqDiff,g]
   repeat' (first|(((first|apply Ad|apply Ai|apply Ah)<;>intro _h)<;>(simp only[push_cast,seval,reduceEqDiff,_h];try (have _g:=_h;simp at _g)))|intro _)
   all_goals (first|(refine Af ?_;simp[get,<-e,EM, *]<;>(intros;omega);done)|(refine Ag ?_;simp[push_cast,get,<-e,EM, *];done)|skip)
  | cons c rest=>
   have p:=AW g;simp only[push_cast,seval,reduceEqDiff,g,Cj c (dn:=dn) (by omega)]
   repeat' (first|(((first|apply Ad|apply Ai|apply Ah)<;>intro _h)<;>(simp only[push_cast,seval,reduceEqDiff,_h,g,Cj c (dn:=dn) (by omega)];try (have _g:=_h;simp at _g)))|(refine Ae (by exact Xi W0 _) ?_;simp only[push_cast,seval,reduceEqDiff,g,Cj c (dn:=dn) (by omega)])|intro _)
   all_goals (first|(refine Af ?_;simp[get,<-e,EM,FZ, *]<;>(intros;omega);done)|(refine Ag ?_;simp[push_cast,get,<-e,EM,FZ, *];done)|skip)
   all_goals (first|(refine⟨_,_,Nat.lt_succ_self _,Al.refl,dn++[c],rest,_,?_,rfl,?_,rfl⟩<;>first|rfl|assumption|(simp[*];done)|(simp[<-e,EM,FZ, *]<;>(intros;omega);done))|skip)
theorem LD(s:Aa)(u:s.length<AO):An π W0 60 [.s s] [] (.b (BA s)) []:=by
 generalize hS:BA s=S;have a:(EM FZ s&&(decide ((s.length:Int)>=1)&&decide ((s.length:Int)<=40)&&DV ((s.headD 0).toNat:Int)))=S:=by
  rw[<-hS];cases s with
  | nil=>rfl
  | cons c r=>
   simp only[BA,List.headD_cons];have k:(1:Int)<=(r.length:Int)+1:=by omega
   cases EM FZ (c::r)<;>simp[k]
 clear hS;generalize h:(decide ((s.length:Int)>=1)&&decide ((s.length:Int)<=40)&&DV ((s.headD 0).toNat:Int))=T at a;refine Ak (vs:=[.b S]) Ane (by simp) (by simp) λn0 j=>?_;clear j;simp only[push_cast,seval,reduceEqDiff];intro _ _;refine As s.length (Inv:=λm o=>∃dn rest n,s=dn++rest/\m=rest.length/\(EM FZ rest&&T)=S/\o=⟨[(0,.s s),(3,.i .i64 dn.length)],[],n⟩) ⟨_,Al.refl,[],_,_,rfl,rfl,a,rfl⟩ ?_;clear a;rintro m _ ⟨dn,rest,n,g,rfl,e,rfl⟩;cases rest with
 | nil=>
  have e:T=S:=by rw[<-e];rfl
  rw[List.append_nil] at g;subst g;cases s with
  | nil=>
   simp only[push_cast,seval,reduceEqDiff]
   repeat' (first|(((first|apply Ad|apply Ai|apply Ah)<;>intro _h)<;>(simp only[push_cast,seval,reduceEqDiff,_h];try (have _g:=_h;simp at _g)))|intro _)
   all_goals (first|(refine Af ?_;simp[get,<-e,<-h, *]<;>(intros;omega);done)|(refine Ag ?_;simp[push_cast,get,<-e,<-h, *];done)|skip)
  | cons p v=>
   simp only[push_cast,seval,reduceEqDiff]
   repeat' (first|(((first|apply Ad|apply Ai|apply Ah)<;>intro _h)<;>(simp only[push_cast,seval,reduceEqDiff,_h];try (have _g:=_h;simp at _g)))|(refine Ae (by exact Qw W0 _) ?_;simp only[push_cast,seval,reduceEqDiff])|intro _)
   all_goals (first|(refine Af ?_;simp[get,<-e,<-h, *]<;>(intros;omega);done)|(refine Ag ?_;simp[push_cast,get,<-e,<-h, *];done)|skip)
 | cons c rest=>
  have q:=AW g;simp only[push_cast,seval,reduceEqDiff,g,Cj c (dn:=dn) (by omega)]
  repeat' (first|(((first|apply Ad|apply Ai|apply Ah)<;>intro _h)<;>(simp only[push_cast,seval,reduceEqDiff,_h,g,Cj c (dn:=dn) (by omega)];try (have _g:=_h;simp at _g)))|(refine Ae (by exact bN W0 _) ?_;simp only[push_cast,seval,reduceEqDiff,g,Cj c (dn:=dn) (by omega)])|intro _)
  all_goals (try rw[Xo] at *)
  all_goals subst e
  all_goals (first|(refine Af ?_;simp[get,EM, *]<;>(intros;omega);done)|(refine Ag ?_;simp[push_cast,get,EM, *];done)|skip)
  all_goals (first|(refine⟨_,_,Nat.lt_succ_self _,Al.refl,dn++[c],rest,_,?_,rfl,?_,rfl⟩<;>first|rfl|assumption|(simp[*];done)|(simp[EM, *]<;>(intros;omega);done))|skip)
def Jj(n:Int):Bool:=decide (n>=97)&&decide (n<=122)||decide (n>=65)&&decide (n<=90)
def Dv(s:Aa):Bool:=EM Jj s&&(decide ((s.length:Int)>=1)&&decide ((s.length:Int)<=40))
theorem QT(s:Aa)(o:s.length<AO):An π W0 85 [.s s] [] (.b (Dv s)) []:=by
 generalize hS:Dv s=S;unfold Dv at hS;generalize h:(decide ((s.length:Int)>=1)&&decide ((s.length:Int)<=40))=T at hS;refine Ak (vs:=[.b S]) Apv (by simp) (by simp) λn0 g=>?_;clear g;simp only[push_cast,seval,reduceEqDiff];intro _ _;refine As s.length (Inv:=λm j=>∃dn rest n,s=dn++rest/\m=rest.length/\(EM Jj rest&&T)=S/\j=⟨[(0,.s s),(3,.i .i64 dn.length)],[],n⟩) ⟨_,Al.refl,[],_,_,rfl,rfl,hS,rfl⟩ ?_;clear hS;rintro m _ ⟨dn,rest,n,e,rfl,a,rfl⟩;cases rest with
 | nil=>
  have a:T=S:=by rw[<-a];rfl
  rw[List.append_nil] at e;subst e;simp only[push_cast,seval,reduceEqDiff]
  repeat' (first|(((first|apply Ad|apply Ai|apply Ah)<;>intro _h)<;>(simp only[push_cast,seval,reduceEqDiff,_h];try (have _g:=_h;simp at _g)))|intro _)
  all_goals (first|(refine Af ?_;simp[get,<-a,<-h, *]<;>(intros;omega);done)|(refine Ag ?_;simp[push_cast,get,<-a,<-h, *];done)|skip)
 | cons c rest=>
  have k:=AW e;simp only[push_cast,seval,reduceEqDiff,e,Cj c (dn:=dn) (by omega)]
  repeat' (first|(((first|apply Ad|apply Ai|apply Ah)<;>intro _h)<;>(simp only[push_cast,seval,reduceEqDiff,_h,e,Cj c (dn:=dn) (by omega)];try (have _g:=_h;simp at _g)))|intro _)
  all_goals (first|(refine Af ?_;simp[get,<-a,EM,Jj, *]<;>(intros;omega);done)|(refine Ag ?_;simp[push_cast,get,<-a,EM,Jj, *];done)|skip)
  all_goals (first|(refine⟨_,_,Nat.lt_succ_self _,Al.refl,dn++[c],rest,_,?_,rfl,?_,rfl⟩<;>first|rfl|assumption|(simp[*];done)|(simp[<-a,EM,Jj, *]<;>(intros;omega);done))|skip)
theorem QD(s:Aa)(p:s.length<AO):An π W0 93 [.s s] [] (.b (Dv s)) []:=by
 generalize hS:Dv s=S;unfold Dv at hS;generalize g:(decide ((s.length:Int)>=1)&&decide ((s.length:Int)<=40))=T at hS;refine Ak (vs:=[.b S]) AkZ (by simp) (by simp) λn0 h=>?_;clear h;simp only[push_cast,seval,reduceEqDiff];intro _ _;refine As s.length (Inv:=λm j=>∃dn rest n,s=dn++rest/\m=rest.length/\(EM Jj rest&&T)=S/\j=⟨[(0,.s s),(6,.i .i64 s.length),(7,.i .i64 dn.length)],[],n⟩) ⟨_,Al.refl,[],_,_,rfl,rfl,hS,rfl⟩ ?_;clear hS;rintro m _ ⟨dn,rest,n,e,rfl,a,rfl⟩;cases rest with
 | nil=>
  have a:T=S:=by rw[<-a];rfl
  rw[List.append_nil] at e;subst e;cases s with
  | nil=>
   simp only[push_cast,seval,reduceEqDiff]
   repeat' (first|(((first|apply Ad|apply Ai|apply Ah)<;>intro _h)<;>(simp only[push_cast,seval,reduceEqDiff,_h];try (have _g:=_h;simp at _g)))|intro _)
   all_goals (first|(refine Af ?_;simp[get,<-a,<-g, *]<;>(intros;omega);done)|(refine Ag ?_;simp[push_cast,get,<-a,<-g, *];done)|skip)
  | cons k q=>
   simp only[push_cast,seval,reduceEqDiff]
   repeat' (first|(((first|apply Ad|apply Ai|apply Ah)<;>intro _h)<;>(simp only[push_cast,seval,reduceEqDiff,_h];try (have _g:=_h;simp at _g)))|intro _)
   all_goals (first|(refine Af ?_;simp[get,<-a,<-g, *]<;>(intros;omega);done)|(refine Ag ?_;simp[push_cast,get,<-a,<-g, *];done)|skip)
 | cons c rest=>
  have o:=AW e;simp only[push_cast,seval,reduceEqDiff,e,Cj c (dn:=dn) (by omega)]
  repeat' (first|(((first|apply Ad|apply Ai|apply Ah)<;>intro _h)<;>(simp only[push_cast,seval,reduceEqDiff,_h,e,Cj c (dn:=dn) (by omega)];try (have _g:=_h;simp at _g)))|intro _)
  all_goals (first|(refine Af ?_;simp[get,<-a,EM,Jj, *]<;>(intros;omega);done)|(refine Ag ?_;simp[push_cast,get,<-a,EM,Jj, *];done)|skip)
  all_goals (first|(refine⟨_,_,Nat.lt_succ_self _,Al.refl,dn++[c],rest,_,?_,rfl,?_,rfl⟩<;>first|rfl|assumption|(simp[*];done)|(simp[<-a,EM,Jj, *]<;>(intros;omega);done))|skip)
end Go.Ir

namespace Go.Ir
variable{P:Program}{W0:World}{nt n:Nat}{Q:Exit→St→Prop}{env:AB}{σ:Aj}
def v8(e sz:Nat)(a:Bool):IC:=.ops [o1 4 (.mv (ci 0))] [0,1] []
def wG(e sz:Nat)(a:Bool):IC:=.ops [m1 6 0,o1 7 (.lenL (.t 6)),o1 8 (.mv (ci 0))] [0,1,7,8] []
def zD(e sz:Nat)(a:Bool):IC:=.ops [o1 9 (.bin .lss (.t 8) (.t 7))] [0,1,7,8,9] []
def aT(e sz:Nat)(a:Bool):IC:=.cond (.t 9) .skip (.exit 0)
def bD(e sz:Nat)(a:Bool):IC:=.ops [m1 10 8,m1 5 10] [0,1,5,7,8] []
def Yq(e sz:Nat)(a:Bool):IC:=.ops [m1 11 1,m1 12 0,m1 13 5,o1 14 (.iaddr (.t 12) (.t 13) e sz),o1 15 (.load (.t 14) sz a),o1 16 (.callvs (.t 11) [(.t 15)])] [0,1,5,7,8,16] []
def kJ(e sz:Nat)(a:Bool):IC:=.ops [m1 17 5,m1 4 17] [4] []
def jB(e sz:Nat)(a:Bool):IC:=.seq (kJ e sz a) .ret
def eK(e sz:Nat)(a:Bool):IC:=.cond (.t 16) (jB e sz a) .skip
def Zs(e sz:Nat)(a:Bool):IC:=.seq (Yq e sz a) (eK e sz a)
def cX(e sz:Nat)(a:Bool):IC:=.seq (bD e sz a) (Zs e sz a)
def Z3(e sz:Nat)(a:Bool):IC:=.block 1 (cX e sz a)
def hJ(e sz:Nat)(a:Bool):IC:=.ops [o1 18 (.bin .add (.t 8) (ci 1)),m1 8 18] [0,1,7,8] []
def aV(e sz:Nat)(a:Bool):IC:=.seq (Z3 e sz a) (hJ e sz a)
def yH(e sz:Nat)(a:Bool):IC:=.seq (aT e sz a) (aV e sz a)
def vL(e sz:Nat)(a:Bool):IC:=.seq (zD e sz a) (yH e sz a)
def uS(e sz:Nat)(a:Bool):IC:=.loop (vL e sz a)
def uX(e sz:Nat)(a:Bool):IC:=.block 0 (uS e sz a)
def wO(e sz:Nat)(a:Bool):IC:=.seq (wG e sz a) (uX e sz a)
def iC(e sz:Nat)(a:Bool):IC:=.ops [o1 4 (.mv (ci (-1)))] [4] []
def fH(e sz:Nat)(a:Bool):IC:=.seq (iC e sz a) .ret
def vY(e sz:Nat)(a:Bool):IC:=.seq (wO e sz a) (fH e sz a)
def Il(e sz:Nat)(a:Bool):IC:=.seq (v8 e sz a) (vY e sz a)
def OF:List R:=[.t 4]
@[push_cast]def Ato(e sz:Nat)(a:Bool):=AZ (v8.eq_1 e sz a)
@[push_cast]def Au3(e sz:Nat)(a:Bool):=AZ (wG.eq_1 e sz a)
@[push_cast]def AtS(e sz:Nat)(a:Bool):=AZ (zD.eq_1 e sz a)
@[push_cast]def Aqg(e sz:Nat)(a:Bool):=AZ (aT.eq_1 e sz a)
@[push_cast]def Aq0(e sz:Nat)(a:Bool):=AZ (bD.eq_1 e sz a)
@[push_cast]def AqY(e sz:Nat)(a:Bool):=AZ (Yq.eq_1 e sz a)
@[push_cast]def Ap8(e sz:Nat)(a:Bool):=AZ (kJ.eq_1 e sz a)
@[push_cast]def ApM(e sz:Nat)(a:Bool):=AZ (jB.eq_1 e sz a)
@[push_cast]def ApH(e sz:Nat)(a:Bool):=AZ (eK.eq_1 e sz a)
@[push_cast]def Aq9(e sz:Nat)(a:Bool):=AZ (Zs.eq_1 e sz a)
@[push_cast]def Aqt(e sz:Nat)(a:Bool):=AZ (cX.eq_1 e sz a)
@[push_cast]def Aqo(e sz:Nat)(a:Bool):=AZ (Z3.eq_1 e sz a)
@[push_cast]def Aro(e sz:Nat)(a:Bool):=AZ (hJ.eq_1 e sz a)
@[push_cast]def ApO(e sz:Nat)(a:Bool):=AZ (aV.eq_1 e sz a)
@[push_cast]def Ats(e sz:Nat)(a:Bool):=AZ (yH.eq_1 e sz a)
@[push_cast]def Aty(e sz:Nat)(a:Bool):=AZ (vL.eq_1 e sz a)
@[push_cast]def AtG(e sz:Nat)(a:Bool):=AZ (uS.eq_1 e sz a)
@[push_cast]def AsT(e sz:Nat)(a:Bool):=AZ (uX.eq_1 e sz a)
@[push_cast]def AsP(e sz:Nat)(a:Bool):=AZ (wO.eq_1 e sz a)
@[push_cast]def AqA(e sz:Nat)(a:Bool):=AZ (iC.eq_1 e sz a)
@[push_cast]def AqS(e sz:Nat)(a:Bool):=AZ (fH.eq_1 e sz a)
@[push_cast]def AtM(e sz:Nat)(a:Bool):=AZ (vY.eq_1 e sz a)
@[push_cast]def AuC(e sz:Nat)(a:Bool):=AZ (Il.eq_1 e sz a)
def Aaw(g:Nat):IC:=.ops [o1 4 (.mv (.c (.b false)))] [0,1] []
def tY(g:Nat):IC:=.ops [m1 5 0,m1 6 1,o1 7 (.calls g [(.t 5),(.t 6)]),o1 8 (.bin .geq (.t 7) (ci 0)),m1 4 8] [4] []
def xX(g:Nat):IC:=.seq (tY g) .ret
def KL(g:Nat):IC:=.seq (Aaw g) (xX g)
def S1:List R:=[.t 4]
@[push_cast]def Arw(g:Nat):=AZ (Aaw.eq_1 g)
@[push_cast]def AtP(g:Nat):=AZ (tY.eq_1 g)
@[push_cast]def AtU(g:Nat):=AZ (xX.eq_1 g)
@[push_cast]def ArW(g:Nat):=AZ (KL.eq_1 g)
end Go.Ir

namespace Go.Ir
open Go.Proofs
variable{P:Program}(W0:World){α:Type}
def Bu(p:α->Bool):List α->Int
 | []=>-1
 | x::xs=>bif p x then 0 else if Bu p xs<0 then -1 else Bu p xs+1
theorem E7(p:α->Bool):∀xs,decide (Bu p xs>=0)=xs.any p
 | []=>by simp[Bu]
 | x::xs=>by
  have a:=E7 p xs;rw[List.any_cons,<-a];rcases Bool.eq_false_or_eq_true (p x) with hp|hp
  .simp[Bu,hp]
  .simp only[Bu,hp,cond_false,Bool.false_or];grind
theorem Ed(p:α->Bool):∀xs,-1<=Bu p xs
 | []=>by simp[Bu]
 | x::xs=>by have a:=Ed p xs;simp only[Bu];cases p x<;>simp;split<;>omega
def MC(a:Bool)(sz:Nat)(v:V):Prop:=(cells v).length=sz/\sub v 0 sz a=some v
theorem Gl{sz:Nat}{cs:List V}(h:cs.length=sz):MC true sz (.agg cs):=by subst h;simp[MC,cells,sub,Vo]
theorem MC.get{a:Bool}{sz:Nat}{v:V}(h:MC a sz v):(if a=true then some (V.agg (cells v)) else(cells v)[0]?)=some v:=by have:=h.2;unfold sub at this;simpa[h.1,Vo] using this
theorem CS{f e sz:Nat}{ag:Bool}(hck:AD P f 19 (Il e sz ag) OF=true)(enc:α->V)(xs:List α)(p:α->Bool)(g:FuncId)(first caps:List V)(σ:Aj)
  (hc:∀x∈xs,MC ag sz (enc x))(hg:∀x∈xs,An P W0 g (first++[enc x]++caps) σ (.b (p x)) σ)(hlen:xs.length<2^62) :
  An P W0 f [.sl (xs.map enc),.fn g first caps] σ (.i .i64 (Bu p xs)) σ:=by
 generalize hS:Bu p xs=S
 refine Ak (vs:=[.i .i64 S]) hck (by simp) (fun _ h=>h) fun n0 hn0=>?_
 simp only[push_cast,reduceEqDiff]
 intro _ _
 refine As xs.length (Inv:=fun m st=>∃dn rest n,xs=dn++rest/\m=rest.length/\(if Bu p rest<0 then -1 else Bu p rest+dn.length)=S/\st=⟨[(0,.sl (xs.map enc)),(1,.fn g first caps),(7,.i .i64 xs.length),(8,.i .i64 dn.length)],σ,n⟩) ⟨_,Al.refl,[],_,_,rfl,rfl,?_,rfl⟩ ?_
 .have:=Ed p xs
  rw[<-hS];simp;omega
 clear hS
 rintro m _ ⟨dn,rest,n,hz,rfl,hd,rfl⟩
 cases rest with
 | nil=>
  simp only[push_cast,reduceEqDiff,hz]
  intro _ _
  refine A4 ?_ (fun _ _ h=>h)
  rw[<-hd];simp[Bu,get]
 | cons x rest=>
  have hb:=AW hz
  have hx:x∈xs:=by rw[hz];simp
  have h1:=(hc x hx).1
  have h2:=(hc x hx).get
  simp only[push_cast,reduceEqDiff,hz,h1,h2]
  intro _ _
  refine Dn (σi:=σ) (σo:=σ) (hg x hx) (fun _ _ h=>h) ?_
  rw[Dw]
  simp only[push_cast,reduceEqDiff]
  intro _
  ((first|apply Ad|apply Ai|apply Ah)<;>intro hp)<;>simp only[push_cast,reduceEqDiff,Ac x (dn:=dn) (by omega)]
  .intro _
   refine A4 ?_ (fun _ _ h=>h)
   rw[<-hd]
   simp[Bu,hp,get]
  .intro _
   refine⟨_,_,Nat.lt_succ_self _,Al.refl,dn++[x],rest,_,by simp ,rfl,?_,rfl⟩
   rw[<-hd]
   have hlo:=Ed p rest
   simp only[Bu,hp,cond_false]
   grind
theorem Ch{f c:Nat}(a:AD P f 9 (KL c) S1=true)(v w:V)(i:Int)(σ:Aj)(h:An P W0 c [v,w] σ (.i .i64 i) σ):An P W0 f [v,w] σ (.b (decide (i>=0))) σ:=by refine Ak (vs:=[.b (decide (i>=0))]) a (by simp) (λ_ h=>h) λn0 e=>?_;simp only[push_cast];intro _;refine Dn (σi:=σ) (σo:=σ) h (λ_ _ h=>h) ?_;rw[Dw];simp only[push_cast];intro _;exact A4 (by simp[get]) (λ_ _ h=>h)
end Go.Ir
section
namespace Go.Ir
open Go.Proofs
variable{P:Program}(W0:World){α:Type}
section
variable{P:Program}{W0:World}{nt n:Nat}{Q:Exit→St→Prop}{env:AB}{σ:Aj}
@[push_cast] def zG(g:Nat):List I:=[⟨some 4,.mv (.c (.b false)),none,[]⟩]
def i7(g:Nat):IC:=.ops (zG g) [0,1] []
@[push_cast] theorem AuD{g:Nat}:aW P W0 nt (i7 g) Q ⟨env,σ,n⟩=J P W0 n [0,1] Q (zG g) env σ:=rfl
@[push_cast] def zM(g:Nat):List I:=[⟨some 5,.mv (.t 0),none,[]⟩,
 ⟨some 6,.mv (.t 1),none,[]⟩,
 ⟨some 7,.calls g [(.t 5),(.t 6)],none,[]⟩,
 ⟨some 8,.bin .geq (.t 7) (.c (.i .i64 0)),none,[]⟩,
 ⟨some 4,.mv (.t 8),none,[]⟩]
def fG(g:Nat):IC:=.ops (zM g) [4] []
@[push_cast] theorem AsR{g:Nat}:aW P W0 nt (fG g) Q ⟨env,σ,n⟩=J P W0 n [4] Q (zM g) env σ:=rfl
def ZU(g:Nat):IC:=.seq (fG g) .ret
@[push_cast] theorem AsH{g:Nat}:aW P W0 nt (ZU g) Q ⟨env,σ,n⟩=aW P W0 nt (fG g) (NW P W0 nt .ret Q) ⟨env,σ,n⟩:=rfl
def wK(g:Nat):IC:=.seq (i7 g) (ZU g)
@[push_cast] theorem AuE{g:Nat}:aW P W0 nt (wK g) Q ⟨env,σ,n⟩=aW P W0 nt (i7 g) (NW P W0 nt (ZU g) Q) ⟨env,σ,n⟩:=rfl
end
end Go.Ir
end
namespace Go.Ir
open Go.Proofs
variable{P:Program}{W0:World}{nt n:Nat}{Q:Exit→St→Prop}{env:AB}{σ:Aj}
def Aa3:IC:=oS [mC 2 (.b false)] [0] (oR [m1 3 0,o1 4 (.calls 56 [.t 3,.c (.fn 57 [] [])]),nT 5 4,m1 2 5] [2])
@[push_cast]def ArO:List R:=[.t 2]
@[push_cast]def AxA:=AZ Aa3.eq_1
theorem AjZ:AD π 33 6 Aa3 ArO=true:=by kernel_rfl
def xW:IC:=oS [bX 1 0,mC 2 (.b false)] [1] (oR [lA 3 1 6,q1 4 58 3,nT 5 4,m1 2 5] [2])
@[push_cast]def AsG:List R:=[.t 2]
@[push_cast]def AwM:=AZ xW.eq_1
theorem Aj4:AD π 57 6 xW AsG=true:=by kernel_rfl
def x8:IC:=oR [fA 3 1 0,l1 4 3,q1 5 35 4,nT 6 5,m1 7 6,D0 8 7 1 5,Dm 9 7 8,gT 10 7 (.call 33 [.t 9]),pA 11 7 10,m1 12 11,D0 13 12 1 4,Dm 14 12 13,gT 15 12 (.calls 43 [.t 14,.c (.fn 79 [] [])]),gT 16 12 (.not (.t 15)),pA 17 12 16,m1 2 17] [2]
def y6:IC:=oS [bX 1 0,mC 2 (.b false)] [1] x8
@[push_cast]def Atl:List R:=[.t 2]
@[push_cast]def Axk:=AL x8.eq_1<|AZ y6.eq_1
theorem yI:AD π 58 18 y6 Atl=true:=by kernel_rfl
def xQ:IC:=oS [bX 1 0,mC 2 (.b false)] [1] (oR [fA 3 1 1,l1 4 3,q1 5 33 4,nT 6 5,m1 2 6] [2])
@[push_cast]def AtE:List R:=[.t 2]
@[push_cast]def AwA:=AZ xQ.eq_1
theorem tV:AD π 79 7 xQ AtE=true:=by kernel_rfl
def XP:IC:=sQ (.block 3 (oS [m1 36 0,m1 37 3,iA 38 36 37 59 6,fA 39 38 4,l1 40 39,m1 41 4,iA 42 40 41 56 2,fA 43 42 1,l1 44 43,q1 45 39 44,nT 46 45] [0,3,4,46] (cD 46 (oR [mC 2 (.b false)] [2]) .skip))) (oP [m1 34 4,bZ 35 .add 34 1,m1 4 35] [0,3,4])
def aS:IC:=sQ (.block 1 (sQ (oS [m1 11 0,m1 12 3,iA 13 11 12 59 6,fA 14 13 0,l1 15 14,q1 16 61 15,m1 17 16,B0 18 17 0,B0 19 17 3,gF 20 17 (.iaddr (.t 18) (.t 19) 59 6),C4 21 17 20 5,C3 22 17 21,gF 23 17 (.call 39 [.t 22]),gF 24 17 (.not (.t 23)),pO 25 17 24] [0,3,25] (cD 25 (oR [mC 2 (.b false)] [2]) .skip)) (oS [mZ 4 0] [0,3,4] (.block 2 (.loop (sQ (oS [m1 26 4,m1 27 0,m1 28 3,iA 29 27 28 59 6,fA 30 29 4,l1 31 30,nL 32 31,bT 33 .lss 26 32] [0,3,4,33] (cD 33 .skip (.exit 2))) XP)))))) (oP [m1 9 3,bZ 10 .add 9 1,m1 3 10] [0,3])
def xG:IC:=sQ (oS [mZ 3 0] [0,3] (.block 0 (.loop (sQ (oS [m1 5 3,m1 6 0,nL 7 6,bT 8 .lss 5 7] [0,3,8] (cD 8 .skip (.exit 0))) aS)))) (oR [mC 2 (.b true)] [2])
def wJ:IC:=oS [mC 2 (.b false)] [0] xG
@[push_cast]def ArB:List R:=[.t 2]
@[push_cast]def AvZ:=AL XP.eq_1<|AL aS.eq_1<|AL xG.eq_1<|AZ wJ.eq_1
theorem Ajj:AD π 39 47 wJ ArB=true:=by kernel_rfl
def xE:IC:=sQ (.block 3 (sQ (.ops [fA 78 6 4,l1 79 78,m1 80 8,iA 81 79 80 56 2,fA 82 81 0,l1 83 82,fA 84 7 4,l1 85 84,m1 86 8,iA 87 85 86 56 2,fA 88 87 0,l1 89 88,bT 90 .neq 83 89,m1 91 90,C4 92 91 6 4,C3 93 91 92,B0 94 91 8,gF 95 91 (.iaddr (.t 93) (.t 94) 56 2),C4 96 91 95 1,C3 97 91 96,C4 98 91 7 4,C3 99 91 98,B0 100 91 8,gF 101 91 (.iaddr (.t 99) (.t 100) 56 2),C4 102 91 101 1,C3 103 91 102,gF 104 91 (.call 8 [.t 97,.t 103]),gF 105 91 (.not (.t 104)),pO 106 91 105] [0,1,5,6,7,8,106] [[0,1],[1,3],[2,3],[3,4],[4,5],[6,7],[7,9],[8,9],[9,10],[10,11],[5,12],[11,12],[12,13],[13,14],[13,15],[14,15],[13,16],[13,17],[15,17],[16,17],[13,18],[17,18],[13,19],[18,19],[13,20],[13,21],[20,21],[13,22],[13,23],[21,23],[22,23],[13,24],[23,24],[13,25],[24,25],[13,26],[19,26],[25,26],[13,27],[26,27],[13,28],[27,28]]) (cD 106 (oR [mC 4 (.b false)] [4]) .skip))) (oP [m1 76 8,bZ 77 .add 76 1,m1 8 77] [0,1,5,6,7,8])
def yB:IC:=sQ (oS [fA 28 6 0,l1 29 28,fA 30 7 0,l1 31 30,bT 32 .neq 29 31,m1 33 32,C4 34 33 6 1,C3 35 33 34,C4 36 33 7 1,C3 37 33 36,gF 38 33 (.bin .neq (.t 35) (.t 37)),pO 39 33 38,m1 40 39,C4 41 40 6 2,C3 42 40 41,C4 43 40 7 2,C3 44 40 43,gF 45 40 (.bin .neq (.t 42) (.t 44)),pO 46 40 45,m1 47 46,C4 48 47 6 3,C3 49 47 48,C4 50 47 7 3,C3 51 47 50,gF 52 47 (.bin .neq (.t 49) (.t 51)),pO 53 47 52,m1 54 53,C4 55 54 6 4,C3 56 54 55,gF 57 54 (.lenL (.t 56)),C4 58 54 7 4,C3 59 54 58,gF 60 54 (.lenL (.t 59)),gF 61 54 (.bin .neq (.t 57) (.t 60)),pO 62 54 61,m1 63 62,C4 64 63 6 5,C3 65 63 64,C4 66 63 7 5,C3 67 63 66,gF 68 63 (.call 8 [.t 65,.t 67]),gF 69 63 (.not (.t 68)),pO 70 63 69] [0,1,5,6,7,70] (cD 70 (oR [mC 4 (.b false)] [4]) .skip)) (oS [mZ 8 0] [0,1,5,6,7,8] (.block 2 (.loop (sQ (oS [m1 71 8,fA 72 6 4,l1 73 72,nL 74 73,bT 75 .lss 71 74] [0,1,5,6,7,8,75] (cD 75 .skip (.exit 2))) xE))))
def zJ:IC:=sQ (.block 1 (sQ (.ops [m1 20 0,m1 21 5,iA 22 20 21 59 6,lA 23 22 6,m1 24 1,m1 25 5,iA 26 24 25 59 6,lA 27 26 6,o1 6 (.alloc (.agg [.i .i64 0,.s [],.s [],.s [],.nil,.nil])),o1 7 (.alloc (.agg [.i .i64 0,.s [],.s [],.s [],.nil,.nil])),⟨none,.store (.t 6) (.t 23) 6,none,[.t 24,.t 26]⟩,sT 7 27 6] [0,1,5,6,7] [[0,2],[1,2],[2,3],[4,6],[5,6],[6,7],[2,10],[3,10],[8,10],[2,11],[3,11],[6,11],[7,11],[9,11],[10,11]]) yB)) (oP [m1 18 5,bZ 19 .add 18 1,m1 5 19] [0,1,5])
def AjP:IC:=sQ (oS [mZ 5 0] [0,1,5] (.block 0 (.loop (sQ (oS [m1 14 5,m1 15 0,nL 16 15,bT 17 .lss 14 16] [0,1,5,17] (cD 17 .skip (.exit 0))) zJ)))) (oR [mC 4 (.b true)] [4])
def Amz:IC:=oS [mC 4 (.b false)] [0,1] (sQ (oS [m1 9 0,nL 10 9,m1 11 1,nL 12 11,bT 13 .neq 10 12] [0,1,13] (cD 13 (oR [mC 4 (.b false)] [4]) .skip)) AjP)
@[push_cast]def Jy:List R:=[.t 4]
@[push_cast]def LO:=AL xE.eq_1<|AL yB.eq_1<|AL zJ.eq_1<|AL AjP.eq_1<|AZ Amz.eq_1
theorem Ash:AD π 8 107 Amz Jy=true:=by kernel_rfl
end Go.Ir
section
namespace Go.Ir
open Go.Proofs
variable(W0:World)
theorem AeD(p:Ab):MC true 6 p.enc:=by rw[Ab.enc_eq];exact Gl rfl
theorem AeA(c:Ar):MC true 2 c.enc:=by rw[Ar.enc_eq];exact Gl rfl
theorem Abr:AD π 78 19 (Il 59 6 true) OF=true:=by kernel_rfl
theorem Adh:AD π 68 19 (Il 56 2 true) OF=true:=by kernel_rfl
theorem Acm:AD π 56 9 (KL 78) S1=true:=by kernel_rfl
theorem AaV:AD π 43 9 (KL 68) S1=true:=by kernel_rfl
theorem qY{ps:List Ab}{g:FuncId}{first a:List V}{σ:Aj}{p:Ab->Bool}(e:ps.length<2^62)(c:∀x∈ps,An π W0 g (first++[x.v]++a) σ (.b (p x)) σ) :
  An π W0 56 [.sl (ps.map Ab.enc),.fn g first a] σ (.b (ps.any p)) σ:=by
 rw[<-E7];exact Ch W0 Acm _ _ _ _ (CS W0 Abr Ab.enc ps p g first a σ (λx _=>AeD x) (λx h=>by rw[Ab.enc_eq];exact c x h) e)
theorem UU{cs:List Ar}{g:FuncId}{first a:List V}{σ:Aj}{p:Ar->Bool}(e:cs.length<2^62)(c:∀x∈cs,An π W0 g (first++[Ar.v x]++a) σ (.b (p x)) σ) :
  An π W0 43 [.sl (cs.map Ar.enc),.fn g first a] σ (.b (cs.any p)) σ:=by
 rw[<-E7];exact Ch W0 AaV _ _ _ _ (CS W0 Adh Ar.enc cs p g first a σ (λx _=>AeA x) (λx h=>by rw[Ar.enc_eq];exact c x h) e)
mutual
def Ab.solid:Ab->Bool
 | ⟨k,_,_,_,cs,ps⟩=>!AJ k&&AK ps&&Dl cs
def AK:List Ab->Bool
 | []=>true
 | p::ps=>p.solid&&AK ps
def Dl:List (Aa×List Ab)->Bool
 | []=>true
 | (_,ps)::cs=>AK ps&&Dl cs
end
theorem Ab.solid_eq(p:Ab):p.solid=(!AJ p.kind&&AK p.parts&&Dl p.cases):=by cases p;simp only[Ab.solid]
theorem EE:AK []=true:=by simp only[AK]
theorem Do(p:Ab)(ps:List Ab):AK (p::ps)=(p.solid&&AK ps):=by simp only[AK]
theorem Qs:Dl []=true:=by simp only[Dl]
theorem JG(c:Ar)(cs:List Ar):Dl (c::cs)=(AK c.2&&Dl cs):=by obtain⟨k,q⟩:=c;simp only[Dl]
theorem Rg(ps:List Ab):(!ps.any λp=>!p.solid)=AK ps:=by
 induction ps with
 | nil=>rfl
 | cons p ps a=>rw[Do,<-a];simp
theorem KO(cs:List Ar):(!cs.any λc=>!AK c.2)=Dl cs:=by
 induction cs with
 | nil=>rfl
 | cons p ps a=>rw[JG,<-a];simp
theorem Pe:∀(N:Nat) (ps:List Ab),Aw ps<N->Aw ps<=2^24->An π W0 33 [.sl (ps.map Ab.enc)] [] (.b (AK ps)) []:=by
 intro N
 induction N with
 | zero=>intro ps h;omega
 | succ N k=>
 intro ps q r;have s:=C7 ps;have e:∀(c:Ar),Aw c.2<N->Aw c.2<=2^24->An π W0 79 [Ar.v c] [] (.b (!AK c.2)) []:=by
  intro c i j;unfold Ar.v;refine Ak (vs:=[.b (!AK c.2)]) tV (by simp) (by simp) λn0 a=>?_;clear a;simp only[push_cast,seval,reduceEqDiff]
  repeat' (first|(((first|apply Ad|apply Ai|apply Ah)<;>intro _h)<;>(simp only[push_cast,seval,reduceEqDiff,_h];try (have _g:=_h;simp at _g)))|(refine Ae (by exact k c.2 i j) ?_;simp only[push_cast,seval,reduceEqDiff])|intro _)
  all_goals (first|(refine Af ?_;simp[get]<;>(intros;omega);done)|(refine Ag ?_;simp[push_cast,get];done)|skip)
 have solid:∀(p:Ab),p.wt<=N->p.wt<=2^24->An π W0 58 [p.v] [] (.b p.solid) []:=by
  intro p i j;rw[p.wt_eq] at i j;have o:=Cc p.cases;have g:An π W0 43 [.sl (p.cases.map Ar.enc),.fn 79 [] []] [] (.b (p.cases.any λc=>!AK c.2)) []:=
   UU W0 (by omega) (λc m=>by have:=Bj m;exact e c (by omega) (by omega))
  rw[Ab.solid_eq,<-KO];generalize hS:(!AJ p.kind&&AK p.parts&&!p.cases.any λc=>!AK c.2)=S;unfold Ab.v;refine Ak (vs:=[.b S]) yI (by simp) (by simp) λn0 a=>?_;clear a;simp only[push_cast,seval,reduceEqDiff]
  repeat' (first|(((first|apply Ad|apply Ai|apply Ah)<;>intro _h)<;>(simp only[push_cast,seval,reduceEqDiff,_h];try (have _g:=_h;simp at _g)))|((first|refine Ae (by exact D5 W0 _) ?_|refine Ae (by exact k p.parts (by omega) (by omega)) ?_);simp only[push_cast,seval,reduceEqDiff])|intro _)
  all_goals (try (refine Ju g ?_;simp only[push_cast,seval,reduceEqDiff]))
  repeat' (first|(((first|apply Ad|apply Ai|apply Ah)<;>intro _h)<;>(simp only[push_cast,seval,reduceEqDiff,_h];try (have _g:=_h;simp at _g)))|intro _)
  all_goals (first|(refine Af ?_;simp[get,<-hS, *]<;>(intros;omega);done)|(refine Ag ?_;simp[push_cast,get,<-hS, *];done)|skip)
 have cl:∀p∈ps,An π W0 57 [p.v] [] (.b (!p.solid)) []:=by
  intro p hp;have u:=CC hp;unfold Ab.v;refine Ak (vs:=[.b (!p.solid)]) Aj4 (by simp) (by simp) λn0 a=>?_;clear a;simp only[push_cast,seval,reduceEqDiff]
  repeat' (first|(((first|apply Ad|apply Ai|apply Ah)<;>intro _h)<;>(simp only[push_cast,seval,reduceEqDiff,_h];try (have _g:=_h;simp at _g)))|(refine Ae (by exact solid p (by omega) (by omega)) ?_;simp only[push_cast,seval,reduceEqDiff])|intro _)
  all_goals (first|(refine Af ?_;simp[get]<;>(intros;omega);done)|(refine Ag ?_;simp[push_cast,get];done)|skip)
 rw[<-Rg];refine Ak (vs:=[.b (!ps.any λp=>!p.solid)]) AjZ (by simp) (by simp) λn0 a=>?_;clear a;simp only[push_cast,seval,reduceEqDiff];intro _;refine Ju (qY W0 (by omega) cl) ?_;simp only[push_cast,seval,reduceEqDiff]
 repeat' (first|(((first|apply Ad|apply Ai|apply Ah)<;>intro _h)<;>(simp only[push_cast,seval,reduceEqDiff,_h];try (have _g:=_h;simp at _g)))|intro _)
 all_goals (first|(refine Af ?_;simp[get]<;>(intros;omega);done)|(refine Ag ?_;simp[push_cast,get];done)|skip)
end Go.Ir
end
section
namespace Go.Ir
open Go.Proofs
variable(W0:World)
def PP(n:Int):Bool:=n==7||n==8||n==9
theorem dN(n:Int):PP n=AJ n:=by unfold PP AJ;grind
theorem SB(n:Int):An π W0 61 [.i .i64 n] [] (.b (AJ n)) []:=by
 rw[<-dN];refine Ak (vs:=[.b (PP n)]) Ao5 (by simp) (by simp) λn0 a=>?_;clear a;simp only[push_cast,seval,reduceEqDiff]
 repeat' (first|(((first|apply Ad|apply Ai|apply Ah)<;>intro _h)<;>(simp only[push_cast,seval,reduceEqDiff,_h];try (have _g:=_h;simp at _g)))|intro _)
 all_goals (first|(refine Af ?_;simp[get,PP, *]<;>(intros;omega);done)|(refine Ag ?_;simp[push_cast,get,PP, *];done)|skip)
theorem cG:∀(N:Nat) (ps:List Ab),Aw ps<N->Aw ps<=2^24->An π W0 39 [.sl (ps.map Ab.enc)] [] (.b (AK ps)) []:=by
 intro N
 induction N with
 | zero=>intro ps h;omega
 | succ N u=>
 intro ps B C;generalize hS:AK ps=S;refine Ak (vs:=[.b S]) Ajj (by simp) (by simp) λn0 q=>?_;clear q;simp only[push_cast,seval,reduceEqDiff];intro _ _;have s:=C7 ps;refine As ps.length (Inv:=λm r=>∃dn rest n,ps=dn++rest/\m=rest.length/\AK rest=S/\r=⟨[(0,.sl (ps.map Ab.enc)),(3,.i .i64 dn.length)],[],n⟩) ⟨_,Al.refl,[],ps,_,rfl,rfl,hS,rfl⟩ ?_;clear hS;rintro m _ ⟨dn,rest,n,g,rfl,e,rfl⟩;cases rest with
 | nil=>
  simp only[push_cast,seval,reduceEqDiff,g]
  repeat' (first|(((first|apply Ad|apply Ai|apply Ah)<;>intro _h)<;>(simp only[push_cast,seval,reduceEqDiff,_h];try (have _g:=_h;simp at _g)))|intro _)
  all_goals (first|(refine Af ?_;simp[get,<-e,EE]<;>(intros;omega);done)|(refine Ag ?_;simp[push_cast,get,<-e,EE];done)|skip)
 | cons p rest=>
  have v:=AW g;have z:=CC (ps:=ps) (p:=p) (by rw[g];simp);rw[p.wt_eq] at z;have y:=Cc p.cases;rw[Do,p.solid_eq] at e;simp only[push_cast,seval,reduceEqDiff,g,Ac p (dn:=dn) (by omega)]
  repeat' (first|(((first|apply Ad|apply Ai|apply Ah)<;>intro _h)<;>(simp only[push_cast,seval,reduceEqDiff,_h,g,Ac p (dn:=dn) (by omega)];try (have _g:=_h;simp at _g)))|((first|refine Ae (by exact SB W0 _) ?_|refine Ae (by exact u p.parts (by omega) (by omega)) ?_);simp only[push_cast,seval,reduceEqDiff,g,Ac p (dn:=dn) (by omega)])|intro _)
  all_goals (first|(refine Af ?_;simp[get,<-e, *];done)|skip)
  have o:(Dl p.cases&&AK rest)=S:=by rw[<-e];simp[*]
  refine As p.cases.length (Inv:=λm r=>∃j k n,p.cases=j++k/\m=k.length/\(Dl k&&AK rest)=S/\r=⟨[(0,.sl (ps.map Ab.enc)),(3,.i .i64 dn.length),(4,.i .i64 j.length)],[],n⟩) ⟨_,Al.refl,[],p.cases,_,rfl,rfl,o,by rw[g];rfl⟩ ?_;clear e o;rintro m _ ⟨j,k,n,a,rfl,e,rfl⟩;cases k with
  | nil=>simp only[push_cast,seval,reduceEqDiff,g,Ac p (dn:=dn) (by omega),a];intro _ _;exact⟨_,_,Nat.lt_succ_self _,Al.refl,dn++[p],rest,_,by simp,rfl,by rw[<-e,Qs,Bool.true_and],rfl⟩
  | cons c k=>
   have A:=Bj (cs:=p.cases) (c:=c) (by simp[a]);have w:=AW a;rw[JG] at e;simp only[push_cast,seval,reduceEqDiff,g,a,Ac c (dn:=j) (by omega)]
   repeat' (first|(((first|apply Ad|apply Ai|apply Ah)<;>intro _h)<;>(simp only[push_cast,seval,reduceEqDiff,_h,g,a,Ac c (dn:=j) (by omega)];try (have _g:=_h;simp at _g)))|(refine Ae (by exact u c.2 (by omega) (by omega)) ?_;simp only[push_cast,seval,reduceEqDiff,g,a,Ac c (dn:=j) (by omega)])|intro _)
   all_goals (first|(refine Af ?_;simp[get,<-e, *];done)|skip)
   exact⟨_,_,Nat.lt_succ_self _,Al.refl,j++[c],k,_,by simp[a],rfl,by rw[<-e];simp[*],rfl⟩
mutual
def Ab.eqB:Ab->Ab->Bool
 | ⟨k,t,n,s,cs,ps⟩,q=>k==q.kind&&t==q.text&&n==q.name&&s==q.style&&Dc ps q.parts&&Ft cs q.cases
def Dc:List Ab->List Ab->Bool
 | [],[]=>true
 | p::ps,q::a=>p.eqB q&&Dc ps a
 | _,_=>false
def Ft:List (Aa×List Ab)->List Ar->Bool
 | [],[]=>true
 | (k,ps)::cs,d::a=>k==d.1&&Dc ps d.2&&Ft cs a
 | _,_=>false
end
theorem Ab.eqB_eq(p q:Ab):p.eqB q=(p.kind==q.kind&&p.text==q.text&&p.name==q.name&&p.style==q.style&&Dc p.parts q.parts&&Ft p.cases q.cases):=by cases p;simp only[Ab.eqB]
theorem Gr(p q:Ab)(ps a:List Ab):Dc (p::ps) (q::a)=(p.eqB q&&Dc ps a):=by simp only[Dc]
theorem Gc(c d:Ar)(cs a:List Ar):Ft (c::cs) (d::a)=(c.1==d.1&&Dc c.2 d.2&&Ft cs a):=by obtain⟨k,q⟩:=c;simp only[Ft]
end Go.Ir
end
section
namespace Go.Ir
open Go.Proofs
variable(W0:World)
mutual
def Ab.depth:Ab->Nat
 | ⟨_,_,_,_,cs,ps⟩=>max (max 1 (1+B3 ps)) (Ec cs)
def B3:List Ab->Nat
 | []=>0
 | p::ps=>max p.depth (B3 ps)
def Ec:List (Aa×List Ab)->Nat
 | []=>0
 | (_,ps)::cs=>max (1+B3 ps) (Ec cs)
end
theorem Ab.depth_eq(p:Ab):p.depth=max (max 1 (1+B3 p.parts)) (Ec p.cases):=by cases p;simp[Ab.depth]
theorem Fd(p:Ab)(ps:List Ab):B3 (p::ps)=max p.depth (B3 ps):=by simp[B3]
theorem JV(c:Ar)(ps:List Ar):Ec (c::ps)=max (1+B3 c.2) (Ec ps):=by obtain⟨k,q⟩:=c;simp[Ec]
theorem cE:(∀p:Ab,p.depth<=p.wt):=by
 have key:∀N:Nat,(∀ps:List Ab,Aw ps<N->B3 ps<=Aw ps):=by
  intro N
  induction N with
  | zero=>intro ps h;omega
  | succ N e=>
   have b:∀cs:List Ar,B9 cs<N->Ec cs<=B9 cs:=by
    intro cs
    induction cs with
    | nil=>intro _;simp[Ec]
    | cons c cs a=>intro h;rw[Ay] at h;rw[JV,Ay];grind
   intro ps
   induction ps with
   | nil=>intro _;simp[B3]
   | cons p ps a=>intro h;rw[Aq] at h;rw[Fd,Aq];have:=a (by omega);rw[p.wt_eq] at *;rw[p.depth_eq];grind
 intro p;have:=key _ [p] (Nat.lt_succ_self _);rw[Fd,Aq,BF] at this;omega
theorem LK(ps:List Ab):B3 ps<=Aw ps:=by
 induction ps with
 | nil=>simp[B3]
 | cons p ps a=>rw[Fd,Aq];have:=cE p;omega
theorem mV:∀(N:Nat) (ps:List Ab),Aw ps<N->Aw ps<=2^24->An π W0 11 [.sl (ps.map Ab.enc)] [] (.i .i64 (B3 ps)) []:=by
 intro N
 induction N with
 | zero=>intro ps h;omega
 | succ N v=>
 intro ps F G;generalize hS:(B3 ps:Int)=S;refine Ak (vs:=[.i .i64 S]) AkL (by simp) (by simp) λn0 r=>?_;clear r;simp only[push_cast,seval,reduceEqDiff];intros;have u:=C7 ps;refine As ps.length (Inv:=λm s=>∃dn rest n d,ps=dn++rest/\m=rest.length/\max d (B3 rest:Int)=S/\0<=d/\s=⟨[(0,.sl (ps.map Ab.enc)),(3,.i .i64 d),(4,.i .i64 dn.length)],[],n⟩) ⟨_,Al.refl,[],ps,_,0,rfl,rfl,by rw[<-hS];omega,by omega,rfl⟩ ?_;clear hS;rintro m _ ⟨dn,rest,n,d,b,rfl,k,j,rfl⟩;cases rest with
 | nil=>
  rw[B3] at k;simp only[push_cast,seval,reduceEqDiff,b]
  repeat' (first|(((first|apply Ad|apply Ai|apply Ah)<;>intro _h)<;>(simp only[push_cast,seval,reduceEqDiff,_h];try (have _g:=_h;simp at _g)))|intro _)
  have:d=S:=by omega
  subst this
  all_goals (first|(refine Af ?_;simp[get]<;>(intros;omega);done)|(refine Ag ?_;simp[push_cast,get];done)|skip)
 | cons p rest=>
  have y:=AW b;have D:=CC (ps:=ps) (p:=p) (by rw[b];simp);rw[p.wt_eq] at D;have B:=Cc p.cases;have C:=LK p.parts;rw[Fd,p.depth_eq] at k;simp only[push_cast,seval,reduceEqDiff,b,Ac p (dn:=dn) (by omega)]
  repeat' (first|(((first|apply Ad|apply Ai|apply Ah)<;>intro _h)<;>(simp only[push_cast,seval,reduceEqDiff,_h,b,Ac p (dn:=dn) (by omega)];try (have _g:=_h;simp at _g)))|(refine Ae (by exact v p.parts (by omega) (by omega)) ?_;simp only[push_cast,seval,reduceEqDiff,b,Ac p (dn:=dn) (by omega)])|intro _)
  have w:IntKind.i64.wrap (1+(B3 p.parts:Int))=1+(B3 p.parts:Int):=wrap64 (by omega) (by omega);simp only[push_cast,seval,reduceEqDiff,b,Ac p (dn:=dn) (by omega),w];have o:max (max (max (max d 1) (1+(B3 p.parts:Int))) (Ec p.cases)) (B3 rest)=S:=by omega
  refine As p.cases.length (Inv:=λm s=>∃e g n d,p.cases=e++g/\m=g.length/\max (max d (Ec g:Int)) (B3 rest:Int)=S/\0<=d/\s=⟨[(0,.sl (ps.map Ab.enc)),(3,.i .i64 d),(4,.i .i64 dn.length),(5,.i .i64 e.length)],[],n⟩) ⟨_,Al.refl,[],p.cases,_,_,rfl,rfl,o,by omega,by rw[b];rfl⟩ ?_;clear k o j d;rintro m _ ⟨e,g,n,d,a,rfl,k,j,rfl⟩;cases g with
  | nil=>rw[Ec] at k;simp only[push_cast,seval,reduceEqDiff,b,Ac p (dn:=dn) (by omega),a];intros;exact⟨_,_,Nat.lt_succ_self _,Al.refl,dn++[p],rest,_,d,by simp,rfl,by omega,j,rfl⟩
  | cons c g=>
   have E:=Bj (cs:=p.cases) (c:=c) (by simp[a]);have z:=AW a;have A:=LK c.2;rw[JV] at k;have q:IntKind.i64.wrap (1+(B3 c.2:Int))=1+(B3 c.2:Int):=wrap64 (by omega) (by omega);simp only[push_cast,seval,reduceEqDiff,b,a,Ac c (dn:=e) (by omega),q]
   repeat' (first|(((first|apply Ad|apply Ai|apply Ah)<;>intro _h)<;>(simp only[push_cast,seval,reduceEqDiff,_h,b,a,Ac c (dn:=e) (by omega),q];try (have _g:=_h;simp at _g)))|(refine Ae (by exact v c.2 (by omega) (by omega)) ?_;simp only[push_cast,seval,reduceEqDiff,b,a,Ac c (dn:=e) (by omega),q])|intro _)
   exact⟨_,_,Nat.lt_succ_self _,Al.refl,e++[c],g,_,_,by simp[a],rfl,by omega,by omega,rfl⟩
mutual
def Ab.size:Ab->Nat
 | ⟨_,t,_,_,cs,ps⟩=>1+BC ps+t.length / 20+Fp cs
def BC:List Ab->Nat
 | []=>0
 | p::ps=>p.size+BC ps
def Fp:List (Aa×List Ab)->Nat
 | []=>0
 | (_,ps)::cs=>1+BC ps+Fp cs
end
theorem Ab.size_eq(p:Ab):p.size=1+BC p.parts+p.text.length / 20+Fp p.cases:=by cases p;simp[Ab.size]
theorem KQ(p:Ab)(ps:List Ab):BC (p::ps)=p.size+BC ps:=by simp[BC]
theorem KJ(c:Ar)(ps:List Ar):Fp (c::ps)=1+BC c.2+Fp ps:=by obtain⟨k,q⟩:=c;simp[Fp]
theorem n4:∀N:Nat,(∀ps:List Ab,Aw ps<N->BC ps<=Aw ps):=by
 intro N
 induction N with
 | zero=>intro ps h;omega
 | succ N e=>
  have b:∀cs:List Ar,B9 cs<N->Fp cs<=B9 cs:=by
   intro cs
   induction cs with
   | nil=>intro _;simp[Fp]
   | cons c cs a=>intro h;rw[Ay] at h;rw[KJ,Ay];grind
  intro ps
  induction ps with
  | nil=>intro _;simp[BC]
  | cons p ps a=>intro h;rw[Aq] at h;rw[KQ,Aq];have:=a (by omega);rw[p.wt_eq] at *;rw[p.size_eq];grind
theorem Kv(ps:List Ab):BC ps<=Aw ps:=n4 _ ps (Nat.lt_succ_self _)
theorem AdH:∀(N:Nat) (ps:List Ab),Aw ps<N->Aw ps<=2^24->An π W0 12 [.sl (ps.map Ab.enc)] [] (.i .i64 (BC ps)) []:=by
 intro N
 induction N with
 | zero=>intro ps h;omega
 | succ N y=>
 intro ps L M;generalize hS:(BC ps:Int)=S;refine Ak (vs:=[.i .i64 S]) AmB (by simp) (by simp) λn0 s=>?_;clear s;simp only[push_cast,seval,reduceEqDiff];intros;have w:=C7 ps;have K:=Kv ps;have B:S<=2^24:=by omega
 refine As ps.length (Inv:=λm u=>∃dn rest n d,ps=dn++rest/\m=rest.length/\d+(BC rest:Int)=S/\0<=d/\u=⟨[(0,.sl (ps.map Ab.enc)),(3,.i .i64 d),(4,.i .i64 dn.length)],[],n⟩) ⟨_,Al.refl,[],ps,_,0,rfl,rfl,by rw[<-hS];omega,by omega,rfl⟩ ?_;clear hS;rintro m _ ⟨dn,rest,n,d,b,rfl,k,j,rfl⟩;cases rest with
 | nil=>
  rw[BC] at k;simp only[push_cast,seval,reduceEqDiff,b]
  repeat' (first|(((first|apply Ad|apply Ai|apply Ah)<;>intro _h)<;>(simp only[push_cast,seval,reduceEqDiff,_h];try (have _g:=_h;simp at _g)))|intro _)
  have:d=S:=by omega
  subst this
  all_goals (first|(refine Af ?_;simp[get]<;>(intros;omega);done)|(refine Ag ?_;simp[push_cast,get];done)|skip)
 | cons p rest=>
  have C:=AW b;have H:=CC (ps:=ps) (p:=p) (by rw[b];simp);rw[p.wt_eq] at H;have F:=Cc p.cases;have G:=Kv p.parts;rw[KQ,p.size_eq] at k;simp only[push_cast,seval,reduceEqDiff,b,Ac p (dn:=dn) (by omega)]
  repeat' (first|(((first|apply Ad|apply Ai|apply Ah)<;>intro _h)<;>(simp only[push_cast,seval,reduceEqDiff,_h,b,Ac p (dn:=dn) (by omega)];try (have _g:=_h;simp at _g)))|(refine Ae (by exact y p.parts (by omega) (by omega)) ?_;simp only[push_cast,seval,reduceEqDiff,b,Ac p (dn:=dn) (by omega)])|intro _)
  have e0:IntKind.i64.wrap ((p.text.length:Int).tdiv 20)=(p.text.length:Int) / 20:=by rw[Int.tdiv_eq_ediv_of_nonneg (by omega),wrap64 (by omega) (by omega)]
  have z:IntKind.i64.wrap (1+(BC p.parts:Int))=1+(BC p.parts:Int):=wrap64 (by omega) (by omega);have A:IntKind.i64.wrap (1+(BC p.parts:Int)+(p.text.length:Int) / 20)=1+(BC p.parts:Int)+(p.text.length:Int) / 20:=wrap64 (by omega) (by omega);have v:IntKind.i64.wrap (d+(1+(BC p.parts:Int)+(p.text.length:Int) / 20))=d+(1+(BC p.parts:Int)+(p.text.length:Int) / 20):=wrap64 (by omega) (by omega);simp only[push_cast,seval,reduceEqDiff,b,Ac p (dn:=dn) (by omega),e0,z,A,v];have o:d+(1+(BC p.parts:Int)+(p.text.length:Int) / 20)+Fp p.cases+BC rest=S:=by omega
  refine As p.cases.length (Inv:=λm u=>∃e g n d,p.cases=e++g/\m=g.length/\d+(Fp g:Int)+(BC rest:Int)=S/\0<=d/\u=⟨[(0,.sl (ps.map Ab.enc)),(3,.i .i64 d),(4,.i .i64 dn.length),(5,.i .i64 e.length)],[],n⟩) ⟨_,Al.refl,[],p.cases,_,_,rfl,rfl,o,by omega,by rw[b];rfl⟩ ?_;clear k o j v d;rintro m _ ⟨e,g,n,d,a,rfl,k,j,rfl⟩;cases g with
  | nil=>rw[Fp] at k;simp only[push_cast,seval,reduceEqDiff,b,Ac p (dn:=dn) (by omega),a];intros;exact⟨_,_,Nat.lt_succ_self _,Al.refl,dn++[p],rest,_,d,by simp,rfl,by omega,j,rfl⟩
  | cons c g=>
   have J:=Bj (cs:=p.cases) (c:=c) (by simp[a]);have D:=AW a;have E:=Kv c.2;rw[KJ] at k;have q:IntKind.i64.wrap (1+(BC c.2:Int))=1+(BC c.2:Int):=wrap64 (by omega) (by omega);have r:IntKind.i64.wrap (d+(1+(BC c.2:Int)))=d+(1+(BC c.2:Int)):=wrap64 (by omega) (by omega);simp only[push_cast,seval,reduceEqDiff,b,a,Ac c (dn:=e) (by omega),q,r]
   repeat' (first|(((first|apply Ad|apply Ai|apply Ah)<;>intro _h)<;>(simp only[push_cast,seval,reduceEqDiff,_h,b,a,Ac c (dn:=e) (by omega),q,r];try (have _g:=_h;simp at _g)))|(refine Ae (by exact y c.2 (by omega) (by omega)) ?_;simp only[push_cast,seval,reduceEqDiff,b,a,Ac c (dn:=e) (by omega),q,r])|intro _)
   exact⟨_,_,Nat.lt_succ_self _,Al.refl,e++[c],g,_,_,by simp[a],rfl,by omega,by omega,rfl⟩
def Vh(ps:List Ab):Bool:=decide ((B3 ps:Int)<=12)&&decide ((BC ps:Int)<=300)&&Da ps
theorem AvT(ps:List Ab)(a:Aw ps<=2^24):An π W0 5 [.sl (ps.map Ab.enc)] [] (.b (Vh ps)) []:=by
 refine Ak (vs:=[.b (Vh ps)]) Asi (by simp) (by simp) λn0 c=>?_;clear c;simp only[push_cast,seval,reduceEqDiff]
 repeat' (first|(((first|apply Ad|apply Ai|apply Ah)<;>intro _h)<;>(simp only[push_cast,seval,reduceEqDiff,_h];try (have _g:=_h;simp at _g)))|((first|refine Ae (by exact mV W0 _ ps (Nat.lt_succ_self _) a) ?_|refine Ae (by exact AdH W0 _ ps (Nat.lt_succ_self _) a) ?_|refine Ae (by exact VX W0 _ ps (Nat.lt_succ_self _) a) ?_);simp only[push_cast,seval,reduceEqDiff])|intro _)
 all_goals (first|(refine Af ?_;simp[get,Vh, *]<;>(intros;omega);done)|(refine Ag ?_;simp[push_cast,get,Vh, *];done)|skip)
theorem Asx(l:List Aa)(s:Aa)(j:l.length<=2^40):An π W0 63 [.sl (l.map V.s),.s s] [] (.b (l.contains s)) []:=by
 generalize hS:l.contains s=S;refine Ak (vs:=[.b S]) Yn (by simp) (by simp) λn0 e=>?_;clear e;simp only[push_cast,seval,reduceEqDiff];intros;refine As l.length (Inv:=λm h=>∃dn rest n,l=dn++rest/\m=rest.length/\rest.contains s=S/\h=⟨[(0,.sl (l.map V.s)),(1,.s s),(5,.i .i64 dn.length)],[],n⟩) ⟨_,Al.refl,[],l,_,rfl,rfl,hS,rfl⟩ ?_;clear hS;rintro m _ ⟨dn,rest,n,c,rfl,a,rfl⟩;cases rest with
 | nil=>
  simp only[push_cast,seval,reduceEqDiff,c]
  repeat' (first|(((first|apply Ad|apply Ai|apply Ah)<;>intro _h)<;>(simp only[push_cast,seval,reduceEqDiff,_h];try (have _g:=_h;simp at _g)))|intro _)
  all_goals (first|(refine Af ?_;simp[get,<-a]<;>(intros;omega);done)|(refine Ag ?_;simp[push_cast,get,<-a];done)|skip)
 | cons x rest=>
  have g:=AW c;rw[List.contains_cons,Bool.beq_comm] at a;simp only[push_cast,seval,reduceEqDiff,c,Ac x (dn:=dn) (by omega)]
  repeat' (first|(((first|apply Ad|apply Ai|apply Ah)<;>intro _h)<;>(simp only[push_cast,seval,reduceEqDiff,_h,c,Ac x (dn:=dn) (by omega)];try (have _g:=_h;simp at _g)))|intro _)
  all_goals (first|(refine Af ?_;simp[get,<-a, *];done)|skip)
  exact⟨_,_,Nat.lt_succ_self _,Al.refl,dn++[x],rest,_,by simp,rfl,by rw[<-a];simp[*],rfl⟩
end Go.Ir
end
namespace Go.Ir
open Go.Proofs
variable(W0:World)
theorem bF{ps a:List Ab}(h:Dc ps a=true):ps.length=a.length:=by
 induction ps generalizing a with
 | nil=>cases a with
  | nil=>rfl
  | cons q a=>simp[Dc] at h
 | cons p ps b=>cases a with
  | nil=>simp[Dc] at h
  | cons q a=>rw[Gr] at h;simp at h;simp[b h.2]
theorem XX{ps a:List Ar}(h:Ft ps a=true):ps.length=a.length:=by
 induction ps generalizing a with
 | nil=>cases a with
  | nil=>rfl
  | cons q a=>simp[Ft] at h
 | cons p ps b=>cases a with
  | nil=>simp[Ft] at h
  | cons q a=>rw[Gc] at h;simp at h;simp[b h.2]
theorem pQ{ps b:List Ar}(h:¬((ps.length:Int)=(b.length:Int))):Ft ps b=false:=by
 rcases Bool.eq_false_or_eq_true (Ft ps b) with a|a
 .have:=XX a;omega
 .exact a
theorem AnB:∀(N:Nat) (ps y:List Ab),Aw ps<N->Aw ps<=2^24->An π W0 8 [.sl (ps.map Ab.enc),.sl (y.map Ab.enc)] [] (.b (Dc ps y)) []:=by
 intro N
 induction N with
 | zero=>intro ps y h;omega
 | succ N M=>
 intro ps y T U;generalize hS:Dc ps y=S;refine Ak (vs:=[.b S]) Ash (by simp) (by simp) λn0 V=>?_;clear V;simp only[push_cast,seval,reduceEqDiff];intros;have A:=C7 ps
 repeat' (first|(((first|apply Ad|apply Ai|apply Ah)<;>intro _h)<;>(simp only[push_cast,seval,reduceEqDiff,_h];try (have _g:=_h;simp at _g)))|intro _)
 .have:Dc ps y=false:=by
   rcases Bool.eq_false_or_eq_true (Dc ps y) with h|h
   .have:=bF h;simp_all
   .exact h
  rw[this] at hS
  all_goals (first|(refine Af ?_;simp[get,hS]<;>(intros;omega);done)|(refine Ag ?_;simp[push_cast,get,hS];done)|skip)
 .have g:ps.length=y.length:=by omega
  refine As ps.length (Inv:=λm Y=>∃dn rest E C n0,ps=dn++rest/\y=E++C/\E.length=dn.length/\m=rest.length/\Dc rest C=S/\Y=⟨[(0,.sl (ps.map Ab.enc)),(1,.sl (y.map Ab.enc)),(5,.i .i64 dn.length)],[],n0⟩) ⟨_,Al.refl,[],ps,[],y,_,rfl,rfl,rfl,rfl,hS,rfl⟩ ?_;clear hS;rintro m _ ⟨dn,rest,E,C,n0,k,s,o,rfl,z,rfl⟩;cases rest with
  | nil=>
   simp only[push_cast,seval,reduceEqDiff,k]
   repeat' (first|(((first|apply Ad|apply Ai|apply Ah)<;>intro _h)<;>(simp only[push_cast,seval,reduceEqDiff,_h];try (have _g:=_h;simp at _g)))|intro _)
   have:C=[]:=by rw[k,s] at g;simp[o] at g;exact g
   subst this
   all_goals (first|(refine Af ?_;simp[get,<-z,Dc]<;>(intros;omega);done)|(refine Ag ?_;simp[push_cast,get,<-z,Dc];done)|skip)
  | cons p rest=>
   obtain⟨q,u,rfl⟩:∃q u,C=q::u:=by
    cases C with
    | nil=>rw[k,s] at g;simp[o] at g
    | cons q r=>exact⟨q,r,rfl⟩
   have H:=AW k;have O:=CC (ps:=ps) (p:=p) (by rw[k];simp);rw[p.wt_eq] at O;have ab:=Cc p.cases;rw[Gr,Ab.eqB_eq] at z;have F:(y.map Ab.enc)[dn.length]?=some q.enc:=by rw[s,<-o];simp
   have J:decide ((dn.length:Int)<(y.length:Int))=true:=by rw[<-g];simp;omega
   simp only[push_cast,seval,reduceEqDiff,k,Ac p (dn:=dn) (by omega),F,J];intro k1 k2
   repeat' (first|(((first|apply Ad|apply Ai|apply Ah)<;>intro _h)<;>(simp only[push_cast,seval,reduceEqDiff,_h,k,Ac p (dn:=dn) (by omega),F,J];try (have _g:=_h;simp at _g)))|(refine Ae (by exact M p.parts q.parts (by omega) (by omega)) ?_;simp only[push_cast,seval,reduceEqDiff,k,Ac p (dn:=dn) (by omega),F,J])|intro _)
   all_goals (first|(refine Af ?_;clear M k s g F J o U T O H A;subst z;first|(simp[get, *];done)|(rw[pQ (by assumption)];simp[get, *];done))|skip)
   .have e:p.cases.length=q.cases.length:=by omega
    have L:(Ft p.cases q.cases&&Dc rest u)=S:=by clear M k s g F J o U T O H A;subst z;simp[*]
    refine As p.cases.length (Inv:=λm Y=>∃B D E C n,p.cases=B++D/\q.cases=E++C/\E.length=B.length/\m=D.length/\(Ft D C&&Dc rest u)=S/\Y=⟨[(0,.sl (ps.map Ab.enc)),(1,.sl (y.map Ab.enc)),(5,.i .i64 dn.length),(6,.ref (n0+1+k1,6) 0),(7,.ref (n0+1+k1,7) 0),(8,.i .i64 B.length)],[((n0+1+k1,7),.box q.v),((n0+1+k1,6),.box p.v)],n⟩) ⟨_,Al.refl,[],p.cases,[],q.cases,_,rfl,rfl,rfl,rfl,L,by rw[k];rfl⟩ ?_;clear z L;rintro m _ ⟨B,D,Z,W,n,a,j,w,rfl,z,rfl⟩;unfold Ab.v;cases D with
    | nil=>
     simp only[push_cast,seval,reduceEqDiff,k,Ac p (dn:=dn) (by omega),F,J,a];intros;have:W=[]:=by rw[a,j] at e;simp[w] at e;exact e
     subst this;exact⟨_,_,Nat.lt_succ_self _,Al.drop (λ_ _ h=>by simp[lk] at h) (Nat.le_refl _),dn++[p],rest,E++[q],u,_,by simp,by simp[s],by simp[o],rfl,by rw[<-z];simp[Ft],rfl⟩
    | cons c D=>
     obtain⟨R,X,rfl⟩:∃q u,W=q::u:=by
      cases W with
      | nil=>rw[a,j] at e;simp[w] at e
      | cons q r=>exact⟨q,r,rfl⟩
     have ac:=Bj (cs:=p.cases) (c:=c) (by simp[a]);have aa:=AW a;have G:(q.cases.map Ar.enc)[B.length]?=some (Ar.enc R):=by rw[j,<-w];simp
     have K:decide ((B.length:Int)<(q.cases.length:Int))=true:=by rw[<-e];simp;omega
     rw[Gc] at z;simp only[push_cast,seval,reduceEqDiff,k,a,Ac c (dn:=B) (by omega),G,K]
     repeat' (first|(((first|apply Ad|apply Ai|apply Ah)<;>intro _h)<;>(simp only[push_cast,seval,reduceEqDiff,_h,k,a,Ac c (dn:=B) (by omega),G,K];try (have _g:=_h;simp at _g)))|(refine Ae (by exact M c.2 R.2 (by omega) (by omega)) ?_;simp only[push_cast,seval,reduceEqDiff,k,a,Ac c (dn:=B) (by omega),G,K])|intro _)
     all_goals (first|(refine Af ?_;clear M k s g F J o U T O H A a j;subst z;simp[get, *];done)|skip)
     exact⟨_,_,Nat.lt_succ_self _,Al.refl,B++[c],D,Z++[R],X,_,by simp[a],by simp[j],by simp[w],rfl,by rw[<-z];simp[*],rfl⟩
end Go.Ir

namespace Go.Ir
structure GG where
 lo:Int
 hi:Int
structure D6 where
 op:Int
 mod:Int
 neg:Bool
 spans:List GG
structure BY where
 cls:Aa
 cond:List (List D6)
def GG.enc(s:GG):V:=.agg [.i .i64 s.lo,.i .i64 s.hi]
def D6.enc(r:D6):V:=.agg [.i .i64 r.op,.i .i64 r.mod,.b r.neg,.sl (r.spans.map GG.enc)]
def GY(l:List D6):V:=.sl (l.map D6.enc)
def BY.enc(r:BY):V:=.agg [.s r.cls,.sl (r.cond.map GY)]
@[push_cast] theorem GG.enc_eq(s:GG):s.enc=.agg [.i .i64 s.lo,.i .i64 s.hi]:=rfl
@[push_cast] theorem D6.enc_eq(r:D6):r.enc=.agg [.i .i64 r.op,.i .i64 r.mod,.b r.neg,.sl (r.spans.map GG.enc)]:=rfl
@[push_cast] theorem Qv(l:List D6):GY l=.sl (l.map D6.enc):=rfl
@[push_cast] theorem BY.enc_eq(r:BY):r.enc=.agg [.s r.cls,.sl (r.cond.map GY)]:=rfl
def D6.wt(r:D6):Nat:=1+r.spans.length
def Df:List D6->Nat
 | []=>1
 | r::a=>r.wt+Df a
def EP:List (List D6)->Nat
 | []=>0
 | r::a=>Df r+EP a
def BY.wt(r:BY):Nat:=1+r.cls.length+EP r.cond
structure PE where
 tag:Aa
 parent:Aa
 dir:Aa
 card:List BY
 ord:List BY
 rest:List V
def PE.enc(l:PE):V:=.agg (.s l.tag :: .s l.parent :: .s l.dir :: .sl (l.card.map BY.enc) :: .sl (l.ord.map BY.enc)::l.rest)
@[push_cast] theorem PE.enc_eq(l:PE):l.enc=.agg (.s l.tag :: .s l.parent :: .s l.dir :: .sl (l.card.map BY.enc) :: .sl (l.ord.map BY.enc)::l.rest):=rfl
def Bc(s:Aa):Bool:=s.all λc=>!(decide (c<48)||decide (c>57))
def CQ(s:Aa):Bool:=s.all λc=>c==48
def Ho(s:Aa):Bool:=match s with
 | 45::_=>true
 | _=>false
def Dx(s:Aa):Aa:=if Ho s then s.tail else s
def B8(s:Aa):Aa:=(Dx s).takeWhile (· != 46)
def Mp(s:Aa):Aa:=(Dx s).dropWhile (· != 46)
def Cg(s:Aa):Aa:=(Mp s).tail
def LV(s:Aa):Bool:=match s[0]? with
 | some c=>(c.toNat:Int)==48
 | none=>false
def Ei(s:Aa):Bool:=
 !(decide (((B8 s).length:Int)<1)||decide (((B8 s).length:Int)>15)||!Bc (B8 s)||decide (((B8 s).length:Int)>1)&&LV (B8 s))
  && !((!(Mp s).isEmpty&&((Cg s).length:Int)==0)||decide (((Cg s).length:Int)>6)||!Bc (Cg s))&&(!Ho s||!(CQ (B8 s)&&CQ (Cg s)))
theorem Fx(a b:Aa):Bc (a++b)=(Bc a&&Bc b):=by simp[Bc]
theorem G2(a b:Aa):CQ (a++b)=(CQ a&&CQ b):=by simp[CQ]
theorem Jb(s:Aa):Dx s=B8 s++Mp s:=(List.takeWhile_append_dropWhile).symm
theorem Mt(s:Aa):(Dx s).length<=s.length:=by unfold Dx;split<;>simp
theorem Xw(s:Aa):(B8 s).length<=s.length:=by have:=Mt s;rw[Jb,List.length_append] at this;omega
theorem Vg{w t:Aa}{c:UInt8}(h:∀x∈w,(x !=c)=true):Lib.indexByte (w++c::t) c=w.length:=by
 induction w with
 | nil=>simp[Lib.indexByte]
 | cons x w b=>have e:=h x (by simp);have:=b (λy a=>h y (by simp[a]));simp only[List.cons_append,Lib.indexByte,this];grind
theorem Ro{w:Aa}{c:UInt8}(h:∀x∈w,(x !=c)=true):Lib.indexByte w c=-1:=by
 induction w with
 | nil=>simp[Lib.indexByte]
 | cons x w b=>have e:=h x (by simp);have:=b (λy a=>h y (by simp[a]));simp only[Lib.indexByte,this];grind
theorem Ns{α:Type}{p:α->Bool}(l:List α):∀x∈l.takeWhile p,p x=true:=by intro x a;exact List.all_eq_true.1 List.all_takeWhile x a
theorem Fq{α:Type}{p:α->Bool}{l t:List α}{c:α}(h:l.dropWhile p=c::t):p c=false:=by
 induction l with
 | nil=>simp at h
 | cons x l a=>rw[List.dropWhile_cons] at h;grind
theorem RD{α:Type}{p:α->Bool}{w r:List α}(h:∀x∈w,p x=true)(a:∀x∈r.head?,p x=false):(w++r).takeWhile p=w/\(w++r).dropWhile p=r:=by
 induction w with
 | nil=>
  cases r with
  | nil=>simp
  | cons x r=>simp_all
 | cons x w b=>simp_all
theorem E3{α:Type}{p:α->Bool}{l:List α}:l.dropWhile p=[]↔∀x∈l,p x=true:=by
 induction l with
 | nil=>simp
 | cons x l a=>rw[List.dropWhile_cons];grind
theorem N8(s cs:Aa):(Lib.trimS s cs==[])=s.all (λc=>cs.contains c):=by
 rcases Bool.eq_false_or_eq_true (s.all (λc=>cs.contains c)) with h|h
 .rw[h];have:s.reverse.dropWhile (λc=>cs.contains c)=[]:=by rw[E3];grind
  unfold Lib.trimS Lib.trimLeftS Lib.trimRightS;rw[this];rfl
 .rw[h];rw[List.all_eq_false] at h;obtain⟨x,g,hp⟩:=h;rw[beq_eq_false_iff_ne];intro a;unfold Lib.trimS Lib.trimLeftS Lib.trimRightS at a;rw[E3] at a;cases b:s.reverse.dropWhile (λc=>cs.contains c) with
  | nil=>rw[E3] at b;grind
  | cons d t=>have e:=Fq b;grind
theorem Jh(s:Aa):(Lib.trimS s [48,49,50,51,52,53,54,55,56,57]==[])=Bc s:=by rw[N8];unfold Bc;congr 1;funext c;rw[Bool.eq_iff_iff];simp[UInt8.lt_iff_toNat_lt,<-UInt8.toNat_inj];omega
theorem Mi(s:Aa):(Lib.trimS s [48]==[])=CQ s:=by rw[N8];unfold CQ;grind
theorem D7(s:Aa):Lib.hasPrefix s [45]=Ho s:=by
 unfold Lib.hasPrefix Ho;split
 .simp 
 .rename_i h;cases s with
  | nil=>simp 
  | cons c s=>simp only[List.isPrefixOf,Bool.and_true,beq_eq_false_iff_ne];intro a;exact h s (by rw[<-a])
theorem Ee(s:Aa):Lib.trimPrefix s [45]=Dx s:=by unfold Lib.trimPrefix Dx;rw[D7];split<;>simp
theorem aN(s:Aa):∀x∈(Mp s).head?,(x !=46)=false:=by
 intro x a;cases h:Mp s with
 | nil=>rw[h] at a;simp at a
 | cons c t=>rw[h] at a;simp at a;subst a;exact Fq (p:=(· != 46)) h
structure BK where
 kind:Int
 name:Aa
 keys:List Aa
def Jo(k:Int)(n:Aa)(s:BK):Bool:=s.kind==k&&s.name==n
def BL(l:List BK)(k:Int)(n:Aa):Int:=Bu (Jo k n) l
def Ct(key:Aa)(s:BK):BK:=if s.keys.contains key then s else{ s with keys:=s.keys++[key] }
def CK(l:List BK)(k:Int)(n:Aa):List BK:=if BL l k n<0 then l++[⟨k,n,[]⟩] else l
def B5(l b:List BK):Prop:=l.length<=b.length/\∀(i:Nat) (s a:BK),l[i]?=some s->b[i]?=some a->s.kind=a.kind/\s.name=a.name
theorem B5.refl(l:List BK):B5 l l:=⟨Nat.le_refl _,λi s b h a=>by grind⟩
theorem B5.trans{a b c:List BK}(h:B5 a b)(k:B5 b c):B5 a c:=by refine⟨Nat.le_trans h.1 k.1,λi s o j e=>?_⟩;have m:i<b.length:=Nat.lt_of_lt_of_le (List.getElem?_eq_some_iff.1 j).1 h.1;have g:b[i]?=some b[i]:=List.getElem?_eq_getElem m;have p:=h.2 i s _ j g;have q:=k.2 i _ o g e;grind
theorem B5.app(l m:List BK):B5 l (l++m):=by refine⟨by simp,λi s b h a=>?_⟩;grind
theorem Qi(key:Aa)(s:BK):(Ct key s).kind=s.kind/\(Ct key s).name=s.name:=by unfold Ct;split<;>exact⟨rfl,rfl⟩
theorem B5.mod(l:List BK)(j:Nat)(key:Aa):B5 l (l.modify j (Ct key)):=by
 refine⟨by simp,λi s e h a=>?_⟩;rw[List.getElem?_modify,h] at a;by_cases c:j=i
 .have b:Ct key s=e:=by simpa[c] using a
  rw[<-b];have:=Qi key s;grind
 grind
theorem Kr{l c:List BK}(h:B5 l c)(k:Int)(n:Aa)(g:¬BL l k n<0):BL c k n=BL l k n:=by
 induction l generalizing c with
 | nil=>exact absurd (by simp[BL,Bu]) g
 | cons s l r=>
  cases c with
  | nil=>have:=h.1;simp at this
  | cons j c=>
   have e:=h.2 0 s j rfl rfl;have q:B5 l c:=⟨by have:=h.1;simpa using this,λi a b m o=>h.2 (i+1) a b (by simpa using m) (by simpa using o)⟩
   have p:Jo k n j=Jo k n s:=by unfold Jo;rw[e.1,e.2]
   unfold BL at *;simp only[Bu,p] at g⊢;grind
end Go.Ir
section
namespace Go.Ir
def Db(l:List Aa):List (V×V):=l.map λk=>(.s k,.b true)
theorem Qk(l:List Aa):(Db l).length=l.length:=by simp[Db]
def Nl(k:Aa)(l:List Aa):List Aa:=if l.contains k then l else l++[k]
theorem d9(k:Aa)(l:List Aa):∀n,(l.contains k=true/\∃i,Bz .str (.s k) (Db l) n=some (some (n+i,.b true))/\(Db l).modify i (λe=>(e.1,.b true))=Db l)\/(l.contains k=false/\Bz .str (.s k) (Db l) n=some none):=by
 induction l with
 | nil=>intro n;exact .inr ⟨rfl,rfl⟩
 | cons x l j=>
  intro n;have g:Bz .str (.s k) (Db (x::l)) n=(match EY .str (.s k) (.s x) with
   | some true=>some (some (n,.b true))
   | some false=>Bz .str (.s k) (Db l) (n+1)
   | none=>none):=rfl
  have c:EY .str (.s k) (.s x)=some (k==x):=rfl;rw[g,c,List.contains_cons];by_cases h:k=x
  .subst h;refine .inl ⟨by simp,0,?_,?_⟩
   .simp
   .simp[Db]
  .have a:(k==x)=false:=by simpa using h
   rw[a,Bool.false_or];rcases j (n+1) with⟨h1,i,h2,h3⟩|⟨h1,h2⟩
   .refine .inl ⟨h1,i+1,?_,?_⟩
    .grind
    .show(Db (x::l)).modify (i+1) _=_;simp only[Db,List.map_cons,List.modify_succ_cons] at h3⊢;rw[h3]
   grind
theorem Gt(k:Aa)(l:List Aa):(l.contains k=true/\Nl k l=l/\∃i,Bz .str (.s k) (Db l) 0=some (some (i,.b true))/\(Db l).modify i (λe=>(e.1,.b true))=Db l)\/(l.contains k=false/\Nl k l=l++[k]/\Bz .str (.s k) (Db l) 0=some none):=by
 rcases d9 k l 0 with⟨h1,i,h2,h3⟩|⟨h1,h2⟩
 .exact .inl ⟨h1,by unfold Nl;rw[h1];rfl,i,by simpa using h2,h3⟩
 .exact .inr ⟨h1,by unfold Nl;rw[h1];rfl,h2⟩
theorem Bo(k:Aa)(l:List Aa):Db l++[(V.s k,V.b true)]=Db (l++[k]):=by simp[Db]
theorem fV{a:Id×AX}{σ:Aj}(h:∀p∈σ,p.1≠a.1):∀i e,lk (a::σ) i=some e->lk (σ++[a]) i=some e:=by
 obtain⟨g,q⟩:=a
 induction σ with
 | nil=>intro i e h;exact h
 | cons b σ o=>
  obtain⟨j,m⟩:=b;intro i e c;simp only[lk] at c;show(if j=i then some m else lk (σ++[(g,q)]) i)=some e;split at c
  .rename_i k;subst k;have:j≠g:=h (j,m) (by simp);rw[if_neg this];exact o (λp hp=>h p (List.mem_cons_of_mem _ hp)) g e (by simp[lk];exact Option.some.inj c)
  .rename_i k;split at c
   .grind
   .rename_i r;rw[if_neg r];exact o (λp hp=>h p (List.mem_cons_of_mem _ hp)) i e (by simp only[lk];rw[if_neg k];exact c)
theorem CF{id:Id}{x:AX}{σ:Aj}:∀i e,lk [(id,x)] i=some e->lk ((id,x)::σ) i=some e:=by intro i e h;simp only[lk] at h⊢;grind
theorem Ek{id:Id}{x:AX}{a:Id×AX}{σ:Aj}(g:(a.1=id)=False):∀i e,lk [(id,x)] i=some e->lk (a::(id,x)::σ) i=some e:=by intro i e h;obtain⟨c,b⟩:=a;simp only[lk] at h⊢;grind
section
variable{P:Program}{W0:World}{ep d:Nat}{live:List Nat}{Q:Exit→St→Prop}{l:List I}{env:AB}{σ:Aj}
theorem Ep{f:FuncId}{vs:List V}{v:V}{id:Id}{e e':AX}{pre:Aj}(h:An P W0 f vs [(id,e)] v [(id,e')])(b:∀p∈pre++σ,p.1≠id)
  (r:J P W0 ep live Q l ((d,v)::env) ((id,e')::(pre++σ))):GK P W0 ep live Q f vs l d env (pre++(id,e)::σ):=by
 have j:∀(τ:Aj),(∀p∈τ,p.1≠id)->lk (τ++(id,e)::σ) id=some e:=by
  intro τ k
  induction τ with
  | nil=>simp[lk]
  | cons a τ s=>obtain⟨g,m⟩:=a;have:g≠id:=k (g,m) (by simp);show(if g=id then some m else lk (τ++(id,e)::σ) id)=some e;grind
 refine Dn h (λi y c=>?_) ?_
 .simp only[lk] at c;split at c
  .rename_i o;subst o;cases c;exact j pre λp hp=>b p (List.mem_append_left _ hp)
  .cases c
 .have q:List.filter (λp:Id×AX=>(lk [(id,e)] p.1).isNone) (pre++(id,e)::σ)=pre++σ:=by
   rw[List.filter_append,List.filter_cons_of_neg (by simp[lk]),<-List.filter_append,List.filter_eq_self];intro p hp;simp[lk,Ne.symm (b p hp)]
  unfold over;rw[q];exact r
end
end Go.Ir
end
namespace Go.Ir
open Go.Proofs
variable{P:Program}{W0:World}{nt n:Nat}{Q:Exit→St→Prop}{env:AB}{σ:Aj}
end Go.Ir

namespace Go.Ir
open Go.Proofs
theorem Gk{σ:Aj}{i:Id}{e:AX}(h:lk σ i=some e):(i,e)∈σ:=by
 induction σ with
 | nil=>cases h
 | cons p σ a=>obtain⟨k,x⟩:=p;simp only[lk] at h;grind
theorem Gd{σ:Aj}{i:Id}{e:AX}(a:(σ.map (·.1)).Nodup)(h:(i,e)∈σ):lk σ i=some e:=by
 induction σ with
 | nil=>cases h
 | cons p σ b=>obtain⟨k,x⟩:=p;rw[List.map_cons,List.nodup_cons] at a;simp only[lk];grind
theorem Hl{σ τ:Aj}{i:Id}{e:AX}(h:lk σ i=some e):lk (σ++τ) i=some e:=by
 induction σ with
 | nil=>cases h
 | cons p σ a=>obtain⟨k,x⟩:=p;rw[List.cons_append];simp only[lk] at h⊢;grind
theorem Al.sub{W0:World}{nt n n':Nat}{env:AB}{σ σ':Aj}(a:(σ.map (·.1)).Nodup)(h:∀p∈σ',p∈σ)(c:n<=n'):Al W0 nt ⟨env,σ,n⟩ ⟨env,σ',n'⟩:=
 Al.drop (λi e b=>Gd a (h _ (Gk b))) c
theorem Al.pre{W0:World}{nt n n':Nat}{env:AB}{σ τ:Aj}(b:n<=n'):Al W0 nt ⟨env,σ++τ,n⟩ ⟨env,σ,n'⟩:=
 Al.drop (λi e a=>Hl a) b
abbrev OS:=BK×Option Id
def sv(o:Option Id):V:=match o with
 | none=>.nil
 | some id=>.arr id
def UH(x:OS):V:=.agg [.i .i64 x.1.kind,.s x.1.name,sv x.2]
def k7(x:OS):Aj:=match x.2 with
 | none=>[]
 | some id=>[(id,.arr 9 1 (x.1.keys.map V.s))]
def C1(L:List OS):Aj:=L.flatMap k7
def slE(e:Nat)(a:Option Id)(L:List OS):Aj:=match a with
 | none=>[]
 | some id=>[(id,.arr e 3 (L.map UH))]
def MX(e:Nat)(a:Option Id)(L:List OS):Aj:=slE e a L++C1 L
theorem DA(A B:List OS):C1 (A++B)=C1 A++C1 B:=by simp[C1]
theorem Fl(x:OS)(B:List OS):C1 (x::B)=k7 x++C1 B:=by simp[C1]
structure AuN (e:Nat) (hd:Aj) (lo:Option Id) (L:List OS) (n:Nat):Prop where
 nd:((hd++MX e lo L).map (·.1)).Nodup
 lt:∀p∈hd++MX e lo L,p.1.1<n
 ne:lo=none->L=[]
 kn:∀x∈L,x.2=none->x.1.keys=[]
end Go.Ir

namespace Go.Ir
open Go.Proofs
variable(W0:World)
end Go.Ir

namespace Go.Ir
open Go.Proofs
structure SelO (T:Nat) (lo:Option Id) (L:List OS) (n:Nat):Prop where
 nd:((MX T lo L).map (·.1)).Nodup
 lt:∀p∈MX T lo L,p.1.1<n
 ne:lo=none->L=[]
 kn:∀x∈L,x.2=none->x.1.keys=[]
theorem SelO.more{T:Nat}{a:Option Id}{L:List OS}{n n':Nat}(h:SelO T a L n)(b:n<=n'):SelO T a L n':=⟨h.nd,λp hp=>Nat.lt_of_lt_of_le (h.lt p hp) b,h.ne,h.kn⟩
theorem Bv{T:Nat}{id:Id}{L:List OS}:MX T (some id) L=(id,.arr T 3 (L.map UH))::C1 L:=rfl
theorem LE{a:Id×AX}{σ:Aj}(h:(σ.map (·.1)).Nodup)(b:∀p∈σ,p.1≠a.1):((a::σ).map (·.1)).Nodup:=by grind
theorem Abs{a:Id×AX}{σ:Aj}(h:((a::σ).map (·.1)).Nodup):(σ.map (·.1)).Nodup/\∀p∈σ,p.1≠a.1:=by grind
theorem gU{σ τ:Aj}(h:(σ.map (·.1)).Nodup)(k:(τ.map (·.1)).Nodup)(a:∀p∈σ,∀q∈τ,p.1≠q.1):((σ++τ).map (·.1)).Nodup:=by grind
theorem Sb{σ τ:Aj}(h:((σ++τ).map (·.1)).Nodup):(σ.map (·.1)).Nodup/\(τ.map (·.1)).Nodup/\∀p∈σ,∀q∈τ,p.1≠q.1:=by rw[List.map_append,List.nodup_append] at h;exact⟨h.1,h.2.1,λp hp q a=>h.2.2 _ (List.mem_map.2 ⟨p,hp,rfl⟩) _ (List.mem_map.2 ⟨q,a,rfl⟩)⟩
theorem dL{σ τ:Aj}(h:(σ.map (·.1)).Nodup)(a:List.Sublist τ σ):(τ.map (·.1)).Nodup:=h.sublist (a.map _)
theorem SelO.arr{T:Nat}{b:Id}{L:List OS}{n:Nat}(h:SelO T (some b) L n):b.1<n/\(∀p∈C1 L,p.1≠b)/\(∀p∈C1 L,p.1.1<n)/\((C1 L).map (·.1)).Nodup:=by have c:((C1 L).map (·.1)).Nodup/\∀p∈C1 L,p.1≠b:=Abs (a:=(b,.arr T 3 (L.map UH))) h.nd;exact⟨h.lt (b,.arr T 3 (L.map UH)) (by simp[Bv]),c.2,λp hp=>h.lt p (by simp[Bv,hp]),c.1⟩
theorem SelO.add{T:Nat}{i:Option Id}{L:List OS}{n n':Nat}{id:Id}(h:SelO T i L n)(q:n<=id.1)(c:id.1<n')(k:Int)(j:Aa):SelO T (some id) (L++[(⟨k,j,[]⟩,none)]) n':=by
 have g:C1 (L++[(⟨k,j,[]⟩,none)])=C1 L:=by rw[DA];simp[C1,k7]
 have a:∀p∈C1 L,p∈MX T i L:=λp hp=>List.mem_append_right _ hp;have e:((C1 L).map (·.1)).Nodup:=dL h.nd (List.sublist_append_right _ _);refine⟨?_,?_,(by simp),?_⟩
 .rw[Bv,g];refine LE e λp hp o=>?_;have:=h.lt p (a p hp);grind
 .rw[Bv,g];intro p hp;rcases List.mem_cons.1 hp with rfl|hp
  .exact c
  .have:=h.lt p (a p hp);omega
 .intro x b m;rcases List.mem_append.1 b with b|b
  .exact h.kn x b m
  .simp at b;rw[b]
theorem SelO.key{T:Nat}{b:Id}{A B:List OS}{x:OS}{n n':Nat}{id:Id}(h:SelO T (some b) (A++x::B) n)(C:n<=id.1)(r:id.1<n')(s:BK):SelO T (some b) (A++(s,some id)::B) n':=by
 obtain⟨w,k,m,i⟩:=h.arr;have o:C1 (A++x::B)=C1 A++(k7 x++C1 B):=by rw[DA,Fl]
 have c:C1 (A++(s,some id)::B)=C1 A++((id,.arr 9 1 (s.keys.map V.s))::C1 B):=by rw[DA,Fl];rfl
 rw[o] at k m i;have j:∀p∈C1 A++C1 B,p.1≠b/\p.1.1<n:=by
  intro p hp;have:p∈C1 A++(k7 x++C1 B):=by grind
  grind
 have g:((C1 A++C1 B).map (·.1)).Nodup:=dL i ((List.Sublist.refl _).append (List.sublist_append_right _ _));obtain⟨u,v,E⟩:=Sb g;refine⟨?_,?_,(by simp),?_⟩
 .rw[Bv,c];refine LE (gU u (LE v λp hp z=>?_) λp hp q D=>?_) λp hp=>?_
  .grind
  .grind
  grind
 .rw[Bv,c];intro p hp;rcases List.mem_cons.1 hp with rfl|hp
  .simp only;omega
  grind
 .intro y a e;rcases List.mem_append.1 a with a|a
  .exact h.kn y (List.mem_append_left _ a) e
  .rcases List.mem_cons.1 a with rfl|a
   .cases e
   .exact h.kn y (List.mem_append_right _ (List.mem_cons_of_mem _ a)) e
end Go.Ir
namespace Go.Proofs
open Go.Shelf
def Tryz.lays103_ren:Go.Shelf.Ren:=⟨fun|103=>52|210=>72|206=>70|n=>n,fun|9=>9|4=>4|24=>104|3=>3|n=>n,fun|n=>n⟩
theorem Tryz.lays103:Go.Proofs.Lays.n103 Tryz.prog Tryz.lays103_ren:=by constructor;all_goals intros;kernel_rfl
def Tryz.lays219_ren:Go.Shelf.Ren:=⟨fun|219=>185|217=>195|225=>196|224=>197|267=>198|266=>207|314=>208|n=>n,fun|9=>9|3=>3|4=>4|5=>5|46=>174|146=>256|51=>172|n=>n,fun|1=>3|n=>n⟩
theorem Tryz.lays219:Go.Proofs.Lays.n219 Tryz.prog Tryz.lays219_ren:=by constructor;all_goals intros;kernel_rfl
def Tryz.lays160_ren:Go.Shelf.Ren:=⟨fun|160=>172|232=>174|231=>186|227=>175|234=>176|233=>187|236=>177|235=>188|228=>189|271=>190|151=>191|197=>199|120=>200|152=>201|260=>209|137=>210|119=>211|224=>197|225=>196|217=>195|266=>207|n=>n,fun|9=>9|4=>4|3=>3|5=>5|117=>229|116=>228|0=>0|124=>232|21=>21|105=>244|46=>174|119=>264|139=>267|138=>266|n=>n,fun|3=>6|4=>7|n=>n⟩
theorem Tryz.lays160:Go.Proofs.Lays.n160 Tryz.prog Tryz.lays160_ren:=by constructor;all_goals intros;kernel_rfl
end Go.Proofs
section
namespace Go.Ir
open Go.Proofs Go.RowKit
theorem Hp.below{W0:World}{σ:Aj}{n:Nat}{μ:Id->Option Value}{H:Addr->Option Value}{w w':World}(hp:Hp W0 σ n μ H w)(a:Below w.heap.size w w'):Hp W0 σ n μ H w'/\Fr μ H σ w μ H σ w':=by
 have i:AY (λ_=>False) w w':=⟨a.os,a.tape,a.output,a.size,λk b _=>a.block k b⟩
 refine⟨⟨hp.base_turned i (λ_ h=>h.elim),hp.pins_turned i (λ_ h=>h.elim),λid e g=>?_,hp.unp,hp.sep,hp.bd⟩,⟨λ_ _ h=>h,λ_ _ h=>h,a.size,λc b _=>a.block c b,λ_ _ _=>rfl,λ_ _ h=>h⟩⟩;exact(hp.ents id e g).keep (λ_ _ h=>h) (λ_ _ h=>h) (λc b=>a.block c ((hp.ents id e g).block b).2)
theorem BJ{P:Program}{W0:World}{f:FuncId}{args:List V}{v:V}(g:callable P f=true)
  (h:∀w vals,Below W0.heap.size W0 w->(∃μ H,VRels μ H args vals)->Calls P f vals.toArray w λe w'=>∃val,e=.returned val/\(∀μ H,Ap μ H v val)/\Below w.heap.size w w'):An P W0 f args [] v [] where
 callable:=g
 dom id h:=h
 run n w μ H vals hp hv:=by refine(h w vals hp.base ⟨μ,H,hv⟩).mono λe w' ⟨val,i,j,c⟩=>?_;obtain⟨a,b⟩:=hp.below c;exact⟨val,μ,H,n,i,j μ H,a,Nat.le_refl _,b,λ_ _ h=>h⟩
theorem VRels.one_s{μ:Id->Option Value}{H:Addr->Option Value}{l:Aa}{vals:List Value}(h:VRels μ H [.s l] vals):vals=[.string ⟨l.toArray⟩]/\l.length<=AO:=by
 obtain⟨v,a,b⟩:=h.get (k:=0) rfl;have:=h.len
 match vals,this,a with
 | [x],_,a=>
  simp at a;subst a;cases b with
  | s l c=>exact⟨rfl,c⟩
theorem VRels.two{μ:Id->Option Value}{H:Addr->Option Value}{a b:V}{vals:List Value}(h:VRels μ H [a,b] vals):∃x y,vals=[x,y]/\Ap μ H a x/\Ap μ H b y:=by
 have:=h.len
 match vals,this with
 | [x,y],_=>exact⟨x,y,rfl,h.at_ 0 _ _ rfl rfl,h.at_ 1 _ _ rfl rfl⟩
variable(W0:World)
theorem G4{l:Aa}{μ:Id->Option Value}{H:Addr->Option Value}{x:Value}(h:Ap μ H (.s l) x):x=.string ⟨l.toArray⟩/\l.length<=AO:=by
 cases h with
 | s l a=>exact⟨rfl,a⟩
theorem Q8{a b:V}{x y:Value}(g:∀μ H,Ap μ H a x)(h:∀μ H,Ap μ H b y):∀μ H,Ap μ H (.tup [a,b]) (.tuple #[x,y]):=
 λμ H=>Ap.tup [a,b] [x,y] rfl λk c v e i=>by
  match k with
  | 0=>grind
  | 1=>grind
  | k+2=>simp at e
theorem Rs(s cs:Aa):(Lib.trimRightS s cs).length<=s.length:=by unfold Lib.trimRightS;rw[List.length_reverse];exact Nat.le_trans (List.dropWhile_sublist _).length_le (by simp)
theorem qV(s cs:Aa):(Lib.trimS s cs).length<=s.length:=by unfold Lib.trimS Lib.trimLeftS;exact Nat.le_trans (List.dropWhile_sublist _).length_le (Rs s cs)
theorem FU(s p:Aa):An π W0 52 [.s s,.s p] [] (.tup [.s (Lib.trimPrefix s p),.b (Lib.hasPrefix s p)]) []:=by
 refine BJ (by kernel_rfl) λw vals k ⟨μ,H,g⟩=>?_;obtain⟨x,y,rfl,i,j⟩:=g.two;obtain⟨rfl,c⟩:=G4 i;obtain⟨rfl,_⟩:=G4 j;refine(Any.strings_CutPrefix Tryz.lays103 ⟨s.toArray⟩ ⟨p.toArray⟩ w).mono λe w' ⟨a,h⟩=>?_;subst h;refine⟨_,a,Q8 (λ_ _=>.s _ ?_) (λ_ _=>.b _),Below.refl _ _⟩;unfold Lib.trimPrefix;split
 .rw[List.length_drop];omega
 .exact c
theorem MA(s:Aa)(c:UInt8):An π W0 185 [.s s,.s [c]] [] (.i .i64 (Lib.indexByte s c)) []:=by refine BJ (by kernel_rfl) λw vals k ⟨μ,H,b⟩=>?_;obtain⟨x,y,rfl,h,j⟩:=b.two;obtain⟨rfl,m⟩:=G4 h;obtain⟨rfl,_⟩:=G4 j;refine(Any.stringslite_Index_one Tryz.lays219 ⟨s.toArray⟩ c w).mono λe w' ⟨a,g⟩=>?_;subst g;exact⟨_,a,λ_ _=>.i _ _,Below.refl _ _⟩
theorem Ty(s cs:Aa)(a:cs.length<4294967281)(g:∀b∈cs,b.toNat<128):An π W0 172 [.s s,.s cs] [] (.s (Lib.trimS s cs)) []:=by refine BJ (by kernel_rfl) λw vals q ⟨μ,H,k⟩=>?_;obtain⟨x,y,rfl,o,p⟩:=k.two;obtain⟨rfl,c⟩:=G4 o;obtain⟨rfl,_⟩:=G4 p;refine(Any.strings_Trim_laid Tryz.lays160 (by kernel_rfl) ⟨s.toArray⟩ ⟨cs.toArray⟩ w (by show s.toArray.size<=_;unfold AO at c;simp;omega) (by simpa[ByteArray.size] using a) (λj b i=>g b (List.mem_of_getElem? i))).mono λe w' ⟨h,m⟩=>?_;exact⟨_,h,λ_ _=>.s _ (Nat.le_trans (qV s cs) c),m⟩
end Go.Ir
end
namespace Go.Ir
open Go.Proofs
variable{P:Program}{W0:World}{nt n:Nat}{Q:Exit→St→Prop}{env:AB}{σ:Aj}
def ZR:IC:=oS [mC 4 (.s []),mC 5 (.s []),mC 6 (.b false)] [0,1] (oR [m1 7 0,m1 8 1,q2 9 171 7 8,xT 10 9 0,xT 11 9 1,xT 12 9 2,m1 4 10,m1 5 11,m1 6 12] [4,5,6])
@[push_cast]def Akr:List R:=[.t 4,.t 5,.t 6]
@[push_cast]def Ava:=AZ ZR.eq_1
theorem Afb:AD π 155 13 ZR Akr=true:=by kernel_rfl
def bV:IC:=sQ (.ops [m1 13 0,m1 14 7,o1 15 (.slS (.t 13) none (some (.t 14))),m1 16 0,m1 17 7,m1 18 1,nS 19 18,bT 20 .add 17 19,o1 21 (.slS (.t 16) (some (.t 20)) none),m1 4 15,m1 5 21,mC 6 (.b true)] [4,5,6] [[0,2],[1,2],[5,6],[4,7],[6,7],[3,8],[7,8],[2,9],[8,10]]) .ret
def eG:IC:=sQ (oS [m1 8 0,m1 9 1,q2 10 185 8 9,m1 7 10] [0,1,7] (oS [m1 11 7,bZ 12 .geq 11 0] [0,1,7,12] (cD 12 bV .skip))) (oR [m1 22 0,m1 4 22,mC 5 (.s []),mC 6 (.b false)] [4,5,6])
def eO:IC:=oS [mC 4 (.s []),mC 5 (.s []),mC 6 (.b false)] [0,1] eG
@[push_cast]def AlA:List R:=[.t 4,.t 5,.t 6]
@[push_cast]def AvJ:=AL bV.eq_1<|AL eG.eq_1<|AZ eO.eq_1
theorem YP:AD π 171 23 eO AlA=true:=by kernel_rfl
def kE:IC:=oS [mC 2 (.b false)] [0] (oR [m1 3 0,o1 4 (.call 172 [.t 3,.c (.s [48,49,50,51,52,53,54,55,56,57])]),bC 5 .eql 4 (.s []),m1 2 5] [2])
@[push_cast]def Aib:List R:=[.t 2]
@[push_cast]def AvI:=AZ kE.eq_1
theorem AeG:AD π 156 6 kE Aib=true:=by kernel_rfl
def g8:IC:=oS [mC 2 (.b false)] [0] (oR [m1 3 0,o1 4 (.call 172 [.t 3,.c (.s [48])]),bC 5 .eql 4 (.s []),m1 2 5] [2])
@[push_cast]def Aoz:List R:=[.t 2]
@[push_cast]def AuR:=AZ g8.eq_1
theorem AfM:AD π 173 6 g8 Aoz=true:=by kernel_rfl
def jQ:IC:=oS [bX 1 0,mC 2 (.b false)] [1] (oR [fA 3 1 1,l1 4 3,q1 5 173 4,m1 6 5,D0 7 6 1 2,Dm 8 6 7,gT 9 6 (.call 173 [.t 8]),pA 10 6 9,m1 2 10] [2])
@[push_cast]def Ak8:List R:=[.t 2]
@[push_cast]def AvE:=AZ jQ.eq_1
theorem Af9:AD π 157 11 jQ Ak8=true:=by kernel_rfl
def U9:IC:=oS [m1 51 8,m1 52 51,BX 53 52 7,gT 54 52 (.lenS (.t 53)),F7 55 52 .eql 54 0,pA 56 52 55,m1 57 56,B0 58 57 7,gF 59 57 (.lenS (.t 58)),EZ 60 57 .gtr 59 6,pO 61 57 60,m1 62 61,B0 63 62 7,gF 64 62 (.call 156 [.t 63]),gF 65 62 (.not (.t 64)),pO 66 62 65,m1 50 66] [2,5,9,50] (cD 50 (oR [lA 67 9 3,sT 2 67 3,mC 3 (.b false)] [2,3]) .skip)
def Uf:IC:=sQ (.ops [lA 68 9 3,m1 69 5,nT 70 69,m1 71 70,gF 72 71 (.load (.t 9) 3 true),gF 73 71 (.call 157 [.t 72]),gF 74 71 (.not (.t 73)),pO 75 71 74,sT 2 68 3,m1 3 75] [2,3] [[1,2],[2,3],[3,4],[3,5],[4,5],[3,6],[5,6],[3,7],[6,7],[0,8],[4,5,8],[7,9]]) .ret
def aY:IC:=sQ (.block 0 (oS [m1 26 6,nS 27 26,bZ 28 .lss 27 1,m1 29 28,B0 30 29 6,gF 31 29 (.lenS (.t 30)),EZ 32 29 .gtr 31 15,pO 33 29 32,m1 34 33,B0 35 34 6,gF 36 34 (.call 156 [.t 35]),gF 37 34 (.not (.t 36)),pO 38 34 37,m1 39 38,B0 40 39 6,gF 41 39 (.lenS (.t 40)),EZ 42 39 .gtr 41 1,B0 43 39 42,BX 44 43 6,gT 45 43 (.idx (.t 44) (ci 0)),gT 46 43 (.bin .eql (.t 45) (.c (.i .u8 48))),gF 47 39 (.pick (.t 43) (.t 46) (.c (.b false))),pO 48 39 47,m1 25 48] [2,5,7,8,9,25] (cD 25 (oR [lA 49 9 3,sT 2 49 3,mC 3 (.b false)] [2,3]) U9))) Uf
def gR:IC:=oS [m1 21 5,m1 22 6,m1 23 7,o1 24 (.build [.b false,.s [],.s []] [(0,1,.t 21),(1,1,.t 22),(2,1,.t 23)]),o1 9 (.alloc (.agg [.b false,.s [],.s []])),sT 9 24 3] [2,5,6,7,8,9] aY
def aJ:IC:=oS [m1 11 0,o1 12 (.call 52 [.t 11,.c (.s [45])]),m1 10 12,xT 13 10 0,xT 14 10 1,m1 4 13,m1 5 14] [2,4,5] (oS [m1 16 4,o1 17 (.call 155 [.t 16,.c (.s [46])]),m1 15 17,xT 18 15 0,xT 19 15 1,xT 20 15 2,m1 6 18,m1 7 19,m1 8 20] [2,5,6,7,8] gR)
def kS:IC:=oS [o1 2 (.alloc (.agg [.b false,.s [],.s []])),mC 3 (.b false)] [0,2] aJ
@[push_cast]def AlU:List R:=[.c 2 3 true,.t 3]
@[push_cast]def Avf:=AL U9.eq_1<|AL Uf.eq_1<|AL aY.eq_1<|AL gR.eq_1<|AL aJ.eq_1<|AZ kS.eq_1
theorem iE:AD π 137 76 kS AlU=true:=by kernel_rfl
def iY:IC:=oS [mC 2 (.b false)] [0] (oS [m1 6 0,q1 7 137 6,m1 5 7,xT 8 5 0,xT 9 5 1,o1 3 (.alloc (.agg [.b false,.s [],.s []])),sT 3 8 3,m1 4 9] [4] (oR [m1 10 4,m1 2 10] [2]))
@[push_cast]def Ap3:List R:=[.t 2]
@[push_cast]def AuT:=AZ iY.eq_1
theorem AfT:AD π 113 11 iY Ap3=true:=by kernel_rfl
def eT:IC:=.ops [m1 14 0,o1 15 (.slS (.t 14) (some (ci 1)) none),fA 16 4 0,o0 (.store (.t 16) (.c (.b true)) 1),m1 0 15] [0,2,4] [[0,1],[2,3],[0,4],[1,4]]
def UW:IC:=sQ (oS [m1 17 5,m1 18 0,nS 19 18,bT 20 .lss 17 19,m1 21 20,BX 22 21 0,BX 23 21 5,gT 24 21 (.idx (.t 22) (.t 23)),gT 25 21 (.bin .neq (.t 24) (.c (.i .u8 46))),pA 26 21 25] [0,2,4,5,26] (cD 26 .skip (.exit 0))) (.block 1 (oP [m1 27 5,bZ 28 .add 27 1,m1 5 28] [0,2,4,5]))
def US:IC:=oS [fA 42 4 2,l1 43 42,nS 44 43,bZ 45 .eql 44 0] [2,4,45] (cD 45 (oR [o1 46 (.build [.b false,.s [],.s []] []),sT 2 46 3,mC 3 (.b false)] [2,3]) .skip)
def Uz:IC:=sQ (oS [fA 47 4 1,l1 48 47,fA 49 4 2,l1 50 49,bT 51 .add 48 50,q1 52 127 51,nT 53 52,m1 54 53,C4 55 54 4 1,C3 56 54 55,gF 57 54 (.lenS (.t 56)),EZ 58 54 .lss 57 1,pO 59 54 58,m1 60 59,C4 61 60 4 1,C3 62 60 61,gF 63 60 (.lenS (.t 62)),EZ 64 60 .gtr 63 15,pO 65 60 64,m1 66 65,C4 67 66 4 1,C3 68 66 67,gF 69 66 (.lenS (.t 68)),EZ 70 66 .gtr 69 1,B0 71 66 70,D0 72 71 4 1,Dm 73 71 72,gT 74 71 (.idx (.t 73) (ci 0)),gT 75 71 (.bin .eql (.t 74) (.c (.i .u8 48))),gF 76 66 (.pick (.t 71) (.t 75) (.c (.b false))),pO 77 66 76,m1 78 77,C4 79 78 4 2,C3 80 78 79,gF 81 78 (.lenS (.t 80)),EZ 82 78 .gtr 81 6,pO 83 78 82,m1 84 83,C4 85 84 4 0,C3 86 84 85,B0 87 84 86,D0 88 87 4 1,Dm 89 87 88,D0 90 87 4 2,Dm 91 87 90,gT 92 87 (.bin .add (.t 89) (.t 91)),gT 93 87 (.call 128 [.t 92]),gF 94 84 (.pick (.t 87) (.t 93) (.c (.b false))),pO 95 84 94] [2,4,95] (cD 95 (oR [o1 96 (.build [.b false,.s [],.s []] []),sT 2 96 3,mC 3 (.b false)] [2,3]) .skip)) (oR [lA 97 4 3,sT 2 97 3,mC 3 (.b true)] [2,3])
def UC:IC:=sQ (oS [m1 33 5,m1 34 0,nS 35 34,bT 36 .lss 33 35] [0,2,4,5,36] (cD 36 (oS [m1 37 0,m1 38 5,bZ 39 .add 38 1,o1 40 (.slS (.t 37) (some (.t 39)) none),fA 41 4 2,sT 41 40 1] [2,4] US) .skip)) Uz
def RY:IC:=oS [mZ 5 0] [0,2,4,5] (sQ (.block 0 (.loop UW)) (oS [m1 29 0,m1 30 5,o1 31 (.slS (.t 29) none (some (.t 30))),fA 32 4 1,sT 32 31 1] [0,2,4,5] UC))
def Za:IC:=sQ (oS [m1 6 0,nS 7 6,bZ 8 .gtr 7 0,m1 9 8,BX 10 9 0,gT 11 9 (.idx (.t 10) (ci 0)),gT 12 9 (.bin .eql (.t 11) (.c (.i .u8 45))),pA 13 9 12] [0,2,4,13] (cD 13 eT .skip)) RY
def fZ:IC:=oS [o1 2 (.alloc (.agg [.b false,.s [],.s []])),mC 3 (.b false)] [0,2] (oS [o1 4 (.alloc (.agg [.b false,.s [],.s []]))] [0,2,4] Za)
@[push_cast]def uN:List R:=[.c 2 3 true,.t 3]
@[push_cast]def Av3:=AL eT.eq_1<|AL UW.eq_1<|AL US.eq_1<|AL Uz.eq_1<|AL UC.eq_1<|AL RY.eq_1<|AL Za.eq_1<|AZ fZ.eq_1
theorem Abn:AD π 103 98 fZ uN=true:=by kernel_rfl
def Aa4:IC:=oS [mC 2 (.b false)] [0] (oS [m1 6 0,q1 7 103 6,m1 5 7,xT 8 5 0,xT 9 5 1,o1 3 (.alloc (.agg [.b false,.s [],.s []])),sT 3 8 3,m1 4 9] [4] (oR [m1 10 4,m1 2 10] [2]))
@[push_cast]def Atd:List R:=[.t 2]
@[push_cast]def Axv:=AZ Aa4.eq_1
theorem uH:AD π 84 11 Aa4 Atd=true:=by kernel_rfl
end Go.Ir

namespace Go.Ir
open Go.Proofs
variable(W0:World)
theorem Afc(w r:Aa)(h:∀x∈w,(x !=46)=true)(e:∀x∈r.head?,(x !=46)=false)(g:w.length<=2^40):An π W0 171 [.s (w++r),.s [46]] [] (.tup [.s w,.s r.tail,.b (!r.isEmpty)]) []:=by
 cases r with
 | nil=>
  refine Ak (vs:=[.s w,.s [],.b false]) YP (by simp) (by simp) λn0 a=>?_;clear a;simp only[push_cast,seval,reduceEqDiff]
  repeat' (first|(((first|apply Ad|apply Ai|apply Ah)<;>intro _h)<;>(simp only[push_cast,seval,reduceEqDiff,_h,Ro h];try (have _g:=_h;simp at _g)))|(refine Ae (by exact MA W0 _ _) ?_;simp only[push_cast,seval,reduceEqDiff,Ro h])|intro _)
  all_goals (first|(refine Af ?_;simp[get]<;>(intros;omega);done)|(refine Ag ?_;simp[push_cast,get];done)|skip)
 | cons c t=>
  have:c=46:=by have:=e c (by simp);simpa using this
  subst this;refine Ak (vs:=[.s w,.s t,.b true]) YP (by simp) (by simp) λn0 a=>?_;clear a;simp only[push_cast,seval,reduceEqDiff]
  repeat' (first|(((first|apply Ad|apply Ai|apply Ah)<;>intro _h)<;>(simp only[push_cast,seval,reduceEqDiff,_h,Vg h,Ac (46:UInt8) (dn:=w) (by omega)];try (have _g:=_h;simp at _g)))|(refine Ae (by exact MA W0 _ _) ?_;simp only[push_cast,seval,reduceEqDiff,Vg h,Ac (46:UInt8) (dn:=w) (by omega)])|intro _)
  all_goals (first|(refine Af ?_;simp[get]<;>(intros;omega);done)|(refine Ag ?_;simp[push_cast,get];done)|skip)
theorem AmQ(w r:Aa)(h:∀x∈w,(x !=46)=true)(e:∀x∈r.head?,(x !=46)=false)(c:w.length<=2^40):An π W0 155 [.s (w++r),.s [46]] [] (.tup [.s w,.s r.tail,.b (!r.isEmpty)]) []:=by
 refine Ak (vs:=[.s w,.s r.tail,.b (!r.isEmpty)]) Afb (by simp) (by simp) λn0 a=>?_;clear a;simp only[push_cast,seval,reduceEqDiff]
 repeat' (first|(((first|apply Ad|apply Ai|apply Ah)<;>intro _h)<;>(simp only[push_cast,seval,reduceEqDiff,_h];try (have _g:=_h;simp at _g)))|(refine Ae (by exact Afc W0 w r h e c) ?_;simp only[push_cast,seval,reduceEqDiff])|intro _)
 all_goals (first|(refine Af ?_;simp[get]<;>(intros;omega);done)|(refine Ag ?_;simp[push_cast,get];done)|skip)
theorem Jg(s:Aa):An π W0 156 [.s s] [] (.b (Bc s)) []:=by
 refine Ak (vs:=[.b (Bc s)]) AeG (by simp) (by simp) λn0 a=>?_;clear a;simp only[push_cast,seval,reduceEqDiff]
 repeat' (first|(((first|apply Ad|apply Ai|apply Ah)<;>intro _h)<;>(simp only[push_cast,seval,reduceEqDiff,_h,Jh];try (have _g:=_h;simp at _g)))|(refine Ae (by exact Ty W0 _ _ (by decide) (by decide)) ?_;simp only[push_cast,seval,reduceEqDiff,Jh])|intro _)
 all_goals (first|(refine Af ?_;simp[get]<;>(intros;omega);done)|(refine Ag ?_;simp[push_cast,get];done)|skip)
theorem Afn(s:Aa):An π W0 173 [.s s] [] (.b (CQ s)) []:=by
 refine Ak (vs:=[.b (CQ s)]) AfM (by simp) (by simp) λn0 a=>?_;clear a;simp only[push_cast,seval,reduceEqDiff]
 repeat' (first|(((first|apply Ad|apply Ai|apply Ah)<;>intro _h)<;>(simp only[push_cast,seval,reduceEqDiff,_h,Mi];try (have _g:=_h;simp at _g)))|(refine Ae (by exact Ty W0 _ _ (by decide) (by decide)) ?_;simp only[push_cast,seval,reduceEqDiff,Mi])|intro _)
 all_goals (first|(refine Af ?_;simp[get]<;>(intros;omega);done)|(refine Ag ?_;simp[push_cast,get];done)|skip)
def Jq(s:Aa):V:=.agg [.b (Ho s),.s (B8 s),.s (Cg s)]
theorem TQ(s:Aa):An π W0 157 [Jq s] [] (.b (CQ (B8 s)&&CQ (Cg s))) []:=by
 unfold Jq;refine Ak (vs:=[.b (CQ (B8 s)&&CQ (Cg s))]) Af9 (by simp) (by simp) λn0 a=>?_;clear a;simp only[push_cast,seval,reduceEqDiff]
 repeat' (first|(((first|apply Ad|apply Ai|apply Ah)<;>intro _h)<;>(simp only[push_cast,seval,reduceEqDiff,_h];try (have _g:=_h;simp at _g)))|(refine Ae (by exact Afn W0 _) ?_;simp only[push_cast,seval,reduceEqDiff])|intro _)
 all_goals (first|(refine Af ?_;simp[get, *]<;>(intros;omega);done)|(refine Ag ?_;simp[push_cast,get, *];done)|skip)
theorem Z1(s:Aa)(a:s.length<=2^40):An π W0 155 [.s (Dx s),.s [46]] [] (.tup [.s (B8 s),.s (Cg s),.b (!(Mp s).isEmpty)]) []:=by have:=Xw s;rw[Jb];exact AmQ W0 _ _ (Ns _) (aN s) (by omega)
theorem Ua(s:Aa)(g:s.length<=2^40):An π W0 137 [.s s] [] (.tup [Jq s,.b (Ei s)]) []:=by
 generalize hS:Ei s=S;unfold Ei at hS;rcases hW:(B8 s)[0]? with _|c
 .have a:(B8 s).length=0:=by simpa using hW
  rw[a] at hS;subst hS;refine Ak (vs:=[Jq s,.b _]) iE (by simp) (by simp) λn0 e=>?_;clear e;simp only[push_cast,seval,reduceEqDiff]
  repeat' (first|(((first|apply Ad|apply Ai|apply Ah)<;>intro _h)<;>(simp only[push_cast,seval,reduceEqDiff,_h,D7,Ee,a];try (have _g:=_h;simp at _g)))|((first|refine Ae (by exact(FU W0 s [45])) ?_|refine Ae (by exact Z1 W0 s g) ?_|refine Ae (by exact Jg W0 (B8 s)) ?_|refine Ae (by exact Jg W0 (Cg s)) ?_|refine Ae (by exact TQ W0 s) ?_);simp only[push_cast,seval,reduceEqDiff,D7,Ee,a])|intro _)
  all_goals (first|(refine Af ?_;simp[get,Jq]<;>(intros;omega);done)|(refine Ag ?_;simp[push_cast,get,Jq];done)|skip)
 .have h:LV (B8 s)=((c.toNat:Int)==48):=by simp[LV,hW]
  rw[h] at hS;subst hS;refine Ak (vs:=[Jq s,.b _]) iE (by simp) (by simp) λn0 e=>?_;clear e;simp only[push_cast,seval,reduceEqDiff]
  repeat' (first|(((first|apply Ad|apply Ai|apply Ah)<;>intro _h)<;>(simp only[push_cast,seval,reduceEqDiff,_h,D7,Ee,hW];try (have _g:=_h;simp at _g)))|((first|refine Ae (by exact(FU W0 s [45])) ?_|refine Ae (by exact Z1 W0 s g) ?_|refine Ae (by exact Jg W0 (B8 s)) ?_|refine Ae (by exact Jg W0 (Cg s)) ?_|refine Ae (by exact TQ W0 s) ?_);simp only[push_cast,seval,reduceEqDiff,D7,Ee,hW])|intro _)
  all_goals (first|(refine Af ?_;simp[get,Jq, *]<;>(intros;omega);done)|(refine Ag ?_;simp[push_cast,get,Jq, *];done)|skip)
theorem MJ(s:Aa)(c:s.length<=2^40):An π W0 113 [.s s] [] (.b (Ei s)) []:=by
 have:=Ua W0 s c;unfold Jq at this;refine Ak (vs:=[.b (Ei s)]) AfT (by simp) (by simp) λn0 a=>?_;clear a;simp only[push_cast,seval,reduceEqDiff]
 repeat' (first|(((first|apply Ad|apply Ai|apply Ah)<;>intro _h)<;>(simp only[push_cast,seval,reduceEqDiff,_h];try (have _g:=_h;simp at _g)))|(refine Ae (by exact this) ?_;simp only[push_cast,seval,reduceEqDiff])|intro _)
 all_goals (first|(refine Af ?_;simp[get]<;>(intros;omega);done)|(refine Ag ?_;simp[push_cast,get];done)|skip)
theorem O9(c:UInt8)(s:Aa):Bc (c::s)=(!(decide ((c.toNat:Int)<48)||decide ((c.toNat:Int)>57))&&Bc s):=by simp only[Bc,List.all_cons];congr 2;rw[Bool.eq_iff_iff];simp[UInt8.lt_iff_toNat_lt];omega
theorem ST(c:UInt8)(s:Aa):CQ (c::s)=((c.toNat:Int)==48&&CQ s):=by simp only[CQ,List.all_cons];congr 1;rw[Bool.eq_iff_iff];simp[<-UInt8.toNat_inj];omega
theorem HZ(s:Aa)(k:s.length<=2^40):An π W0 127 [.s s] [] (.b (Bc s)) []:=by
 generalize hS:Bc s=S;refine Ak (vs:=[.b S]) AdK (by simp) (by simp) λn0 g=>?_;clear g;simp only[push_cast,seval,reduceEqDiff];intros;refine As s.length (Inv:=λm h=>∃dn rest n,s=dn++rest/\m=rest.length/\Bc rest=S/\h=⟨[(0,.s s),(3,.i .i64 dn.length)],[],n⟩) ⟨_,Al.refl,[],_,_,rfl,rfl,hS,rfl⟩ ?_;clear hS;rintro m _ ⟨dn,rest,n,e,rfl,a,rfl⟩;cases rest with
 | nil=>
  subst a;simp only[push_cast,seval,reduceEqDiff,e]
  repeat' (first|(((first|apply Ad|apply Ai|apply Ah)<;>intro _h)<;>(simp only[push_cast,seval,reduceEqDiff,_h];try (have _g:=_h;simp at _g)))|intro _)
  all_goals (first|(refine Af ?_;simp[get,Bc]<;>(intros;omega);done)|(refine Ag ?_;simp[push_cast,get,Bc];done)|skip)
 | cons c rest=>
  have j:=AW e;rw[O9] at a;simp only[push_cast,seval,reduceEqDiff,e,Ac c (dn:=dn) (by omega)]
  repeat' (first|(((first|apply Ad|apply Ai|apply Ah)<;>intro _h)<;>(simp only[push_cast,seval,reduceEqDiff,_h,e,Ac c (dn:=dn) (by omega)];try (have _g:=_h;simp at _g)))|intro _)
  all_goals (first|(exact⟨_,_,Nat.lt_succ_self _,Al.refl,dn++[c],rest,_,by simp,rfl,by rw[<-a];simp[*],rfl⟩)|skip)
  all_goals subst a
  all_goals (first|(refine Af ?_;simp[get, *]<;>(intros;omega);done)|(refine Ag ?_;simp[push_cast,get, *];done)|skip)
theorem Lv(s:Aa)(k:s.length<=2^40):An π W0 128 [.s s] [] (.b (CQ s)) []:=by
 generalize hS:CQ s=S;refine Ak (vs:=[.b S]) Ab3 (by simp) (by simp) λn0 g=>?_;clear g;simp only[push_cast,seval,reduceEqDiff];intros;refine As s.length (Inv:=λm h=>∃dn rest n,s=dn++rest/\m=rest.length/\CQ rest=S/\h=⟨[(0,.s s),(3,.i .i64 dn.length)],[],n⟩) ⟨_,Al.refl,[],_,_,rfl,rfl,hS,rfl⟩ ?_;clear hS;rintro m _ ⟨dn,rest,n,e,rfl,a,rfl⟩;cases rest with
 | nil=>
  subst a;simp only[push_cast,seval,reduceEqDiff,e]
  repeat' (first|(((first|apply Ad|apply Ai|apply Ah)<;>intro _h)<;>(simp only[push_cast,seval,reduceEqDiff,_h];try (have _g:=_h;simp at _g)))|intro _)
  all_goals (first|(refine Af ?_;simp[get,CQ]<;>(intros;omega);done)|(refine Ag ?_;simp[push_cast,get,CQ];done)|skip)
 | cons c rest=>
  have j:=AW e;rw[ST] at a;simp only[push_cast,seval,reduceEqDiff,e,Ac c (dn:=dn) (by omega)]
  repeat' (first|(((first|apply Ad|apply Ai|apply Ah)<;>intro _h)<;>(simp only[push_cast,seval,reduceEqDiff,_h,e,Ac c (dn:=dn) (by omega)];try (have _g:=_h;simp at _g)))|intro _)
  all_goals (first|(exact⟨_,_,Nat.lt_succ_self _,Al.refl,dn++[c],rest,_,by simp,rfl,by rw[<-a];simp[*],rfl⟩)|skip)
  all_goals subst a
  all_goals (first|(refine Af ?_;simp[get, *]<;>(intros;omega);done)|(refine Ag ?_;simp[push_cast,get, *];done)|skip)
set_option maxHeartbeats 4000000 in
theorem T3(s:Aa)(M:s.length<=2^30)(S:Bool)(hS:Ei s=S)(a b k:Nat) :
  aW π W0 98 RY (I1 W0 98 uN [bif S then .agg [.b (Ho s),.s (B8 s),.s (Cg s)] else .agg [.b false,.s [],.s []],.b S] [])
   ⟨[(0,.s (Dx s)),(2,.ref (a,2) 0),(4,.ref (b,4) 0)],[((b,4),.box (.agg [.b (Ho s),.s [],.s []])),((a,2),.box (.agg [.b false,.s [],.s []]))],k⟩:=by
 have g:=Mt s;simp only[push_cast,seval,reduceEqDiff];intros;refine As (Dx s).length (Inv:=λm N=>∃dn r n,Dx s=dn++r/\(∀x∈dn,(x !=46)=true)/\m=r.length/\N=⟨[(0,.s (Dx s)),(2,.ref (a,2) 0),(4,.ref (b,4) 0),(5,.i .i64 dn.length)],[((b,4),.box (.agg [.b (Ho s),.s [],.s []])),((a,2),.box (.agg [.b false,.s [],.s []]))],n⟩) ⟨_,Al.refl,[],Dx s,_,rfl,by simp,rfl,rfl⟩ ?_;rintro m _ ⟨dn,r,n,e,C,rfl,rfl⟩;have D:dn.length<=2^30:=by rw[e,List.length_append] at g;omega
 cases r with
 | nil=>
  obtain⟨E,t2⟩:=RD (p:=(· != 46)) (w:=dn) (r:=[]) C (by simp);have A:B8 s=dn:=by unfold B8;rw[e];exact E
  have y:Mp s=[]:=by unfold Mp;rw[e];exact t2
  have v:Cg s=[]:=by unfold Cg;rw[y];rfl
  unfold Ei at hS;rw[A,y,v,show Bc []=true from rfl,show CQ []=true from rfl] at hS;rw[A,v];have o:dn.length<=AO:=by unfold AO;omega
  have q:0<=AO:=Nat.zero_le _;rcases hZ:dn[0]? with _|F
  .have:dn=[]:=by simpa using hZ
   subst this;have z:S=false:=by rw[<-hS];simp
   subst z;simp only[push_cast,seval,reduceEqDiff,e,q];intros
   repeat' (first|(((first|apply Ad|apply Ai|apply Ah)<;>intro _h)<;>(simp only[push_cast,seval,reduceEqDiff,_h,e,q];try (have _g:=_h;simp at _g)))|((first|refine Ae (by exact HZ W0 [] (by simp)) ?_|refine Ae (by exact Lv W0 [] (by simp)) ?_);simp only[push_cast,seval,reduceEqDiff,e,q])|intro _)
   all_goals (first|(refine Af ?_;simp[get]<;>(intros;omega);done)|(refine Ag ?_;simp[push_cast,get];done)|skip)
  .have j:LV dn=((F.toNat:Int)==48):=by simp[LV,hZ]
   rw[j] at hS;simp only[push_cast,seval,reduceEqDiff,e,hZ,o];intros
   repeat' (first|(((first|apply Ad|apply Ai|apply Ah)<;>intro _h)<;>(simp only[push_cast,seval,reduceEqDiff,_h,e,hZ,o];try (have _g:=_h;simp at _g)))|((first|refine Ae (by exact HZ W0 dn (by omega)) ?_|refine Ae (by exact Lv W0 dn (by omega)) ?_);simp only[push_cast,seval,reduceEqDiff,e,hZ,o])|intro _)
   all_goals clear e g C D E t2 A y v o q j M hZ
   all_goals rcases S with _|_
   all_goals (try (exfalso;revert hS;simp[*];done))
   all_goals clear hS
   all_goals (first|(refine Af ?_;simp[get, *]<;>(intros;omega);done)|(refine Ag ?_;simp[push_cast,get, *];done)|skip)
 | cons c t=>
  have K:=AW e;have L:(((c.toNat:Int) !=46)=true/\(c !=46)=true)\/(((c.toNat:Int) !=46)=false/\c=46):=by
   by_cases h:c=46
   .subst h;exact .inr ⟨rfl,rfl⟩
   .refine .inl ⟨?_,by simp[h]⟩;rw[bne_iff_ne];intro O;exact h (by rw[<-UInt8.toNat_inj];show c.toNat=46;omega)
  rcases L with⟨hc1,hc2⟩|⟨hc1,rfl⟩
  .skip;simp only[push_cast,seval,reduceEqDiff,e,hc1,Ac c (dn:=dn) (by omega)];intros;exact⟨_,_,Nat.lt_succ_self _,Al.refl,dn++[c],t,_,by simp,by intro x B;rcases List.mem_append.1 B with B|B;exact C x B;simp at B;subst B;exact hc2,rfl,rfl⟩
  .obtain⟨E,t2⟩:=RD (p:=(· != 46)) (w:=dn) (r:=46::t) C (by simp);have A:B8 s=dn:=by unfold B8;rw[e];exact E
   have y:Mp s=46::t:=by unfold Mp;rw[e];exact t2
   have v:Cg s=t:=by unfold Cg;rw[y];rfl
   unfold Ei at hS;rw[A,y,v] at hS;rw[A,v];have u:dn.length+t.length<=2^30:=by rw[e] at g;simp at g;omega
   have o:dn.length+t.length<=AO:=by unfold AO;omega
   rcases hZ:dn[0]? with _|F
   .have:dn=[]:=by simpa using hZ
    subst this;have z:S=false:=by rw[<-hS];simp
    subst z;have e0:decide ((0:Int)<(t.length:Int)+1)=true:=by simp<;>omega
    have G:(if t.length<=t.length then some (V.s (List.take t.length t)) else none)=some (V.s t):=by rw[if_pos (Nat.le_refl _),List.take_length]
    have H:t.length<=AO:=by unfold AO;simp at u;omega
    have J:IntKind.i64.wrap 1=1:=rfl;simp only[push_cast,seval,reduceEqDiff,e,hc1,e0,G,H,J];intros
    repeat' (first|(((first|apply Ad|apply Ai|apply Ah)<;>intro _h)<;>(simp only[push_cast,seval,reduceEqDiff,_h,e,hc1,e0,G,H,J];try (have _g:=_h;simp at _g)))|((first|refine Ae (by exact HZ W0 t (by simp at u;omega)) ?_|refine Ae (by exact Lv W0 t (by simp at u;omega)) ?_);simp only[push_cast,seval,reduceEqDiff,e,hc1,e0,G,H,J])|intro _)
    all_goals (first|(refine Af ?_;simp[get]<;>(intros;omega);done)|(refine Ag ?_;simp[push_cast,get];done)|skip)
   .have j:LV dn=((F.toNat:Int)==48):=by simp[LV,hZ]
    rw[j] at hS;simp only[push_cast,seval,reduceEqDiff,e,hZ,o,hc1,Ac (46:UInt8) (dn:=dn) (by omega),Fx,G2];intros
    repeat' (first|(((first|apply Ad|apply Ai|apply Ah)<;>intro _h)<;>(simp only[push_cast,seval,reduceEqDiff,_h,e,hZ,o,hc1,Ac (46:UInt8) (dn:=dn) (by omega),Fx,G2];try (have _g:=_h;simp at _g)))|((first|refine Ae (by exact HZ W0 (dn++t) (by simp;omega)) ?_|refine Ae (by exact Lv W0 (dn++t) (by simp;omega)) ?_);simp only[push_cast,seval,reduceEqDiff,e,hZ,o,hc1,Ac (46:UInt8) (dn:=dn) (by omega),Fx,G2])|intro _)
    all_goals clear e g C D E t2 A y v o j M hZ u K hc1
    all_goals rcases S with _|_
    all_goals (try (exfalso;revert hS;simp[*];done))
    all_goals (try (exfalso;(rcases _g with h|h)<;>(simp[h] at hS;done)))
    all_goals clear hS
    all_goals (first|(refine Af ?_;simp[get, *]<;>(intros;omega);done)|(refine Ag ?_;simp[push_cast,get, *];done)|skip)
theorem g7(s:Aa)(r:s.length<=2^30):An π W0 103 [.s s] [] (.tup [bif Ei s then Jq s else .agg [.b false,.s [],.s []],.b (Ei s)]) []:=by
 generalize hS:Ei s=S;unfold Jq;refine Ak (vs:=[bif S then .agg [.b (Ho s),.s (B8 s),.s (Cg s)] else .agg [.b false,.s [],.s []],.b S]) Abn (by simp) (by simp) λn0 p=>?_;clear p;simp only[push_cast,seval,reduceEqDiff];have e:(∃i c,(decide ((s.length:Int)>0)=i)/\(i=true->s[0]?=some c/\((c.toNat:Int)==45)=false)/\Ho s=false/\Dx s=s)\/(decide ((s.length:Int)>0)=true/\s[0]?=some 45/\Ho s=true/\(if 1<=s.length/\s.length<=s.length then some (V.s (List.drop 1 (List.take s.length s))) else none)=some (V.s (Dx s))):=by
  cases s with
  | nil=>exact .inl ⟨false,0,rfl,λh=>by(cases h),rfl,rfl⟩
  | cons c t=>
   by_cases o:c=45
   .subst o;refine .inr ⟨by simp<;>omega,rfl,rfl,?_⟩;rw[if_pos ⟨by simp,Nat.le_refl _⟩,List.take_length];rfl
   .have q:Ho (c::t)=false:=by
     unfold Ho;split
     .rename_i h;cases h;exact absurd rfl o
     .rfl
    refine .inl ⟨true,c,by simp<;>omega,λ_=>⟨rfl,?_⟩,q,by unfold Dx;rw[q];rfl⟩;rw[beq_eq_false_iff_ne];intro g;exact o (by rw[<-UInt8.toNat_inj];show c.toNat=45;omega)
 intro k1 k2;have m:(decide ((s.length:Int)>0)=false/\Ho s=false/\Dx s=s)\/(∃c,decide ((s.length:Int)>0)=true/\s[0]?=some c/\((c.toNat:Int)==45)=false/\Ho s=false/\Dx s=s)\/(decide ((s.length:Int)>0)=true/\s[0]?=some 45/\Ho s=true/\(if 1<=s.length/\s.length<=s.length then some (V.s (List.drop 1 (List.take s.length s))) else none)=some (V.s (Dx s))):=by
  rcases e with⟨i,c,h1,g,hN,hR⟩|h
  .cases i with
   | false=>exact .inl ⟨h1,hN,hR⟩
   | true=>exact .inr (.inl ⟨c,h1,(g rfl).1,(g rfl).2,hN,hR⟩)
  .exact .inr (.inr h)
 clear e;have a:=λk=>T3 W0 s r S hS n0 (n0+1+k1) k;rcases m with⟨h1,hN,hR⟩|⟨c,h1,g,m,hN,hR⟩|⟨h1,g,hN,hR⟩
 .skip;simp only[push_cast,seval,reduceEqDiff,h1];intros;simp only[hN,hR] at a⊢;simp only[push_cast,seval,reduceEqDiff] at a;exact a _ _
 .skip;simp only[push_cast,seval,reduceEqDiff,h1,g,m];intros;simp only[hN,hR] at a⊢;simp only[push_cast,seval,reduceEqDiff] at a;exact a _ _
 .have j:((UInt8.toNat 45:Int)==45)=true:=rfl;simp only[push_cast,seval,reduceEqDiff,h1,g,hR,j];intros;simp only[hN] at a⊢;simp only[push_cast,seval,reduceEqDiff] at a;exact a _ _
theorem WS(s:Aa)(e:s.length<=2^30):An π W0 84 [.s s] [] (.b (Ei s)) []:=by
 have:=g7 W0 s e;unfold Jq at this;rcases Bool.eq_false_or_eq_true (Ei s) with c|c
 all_goals (rw[c] at this⊢;simp only[cond_true,cond_false] at this)
 .skip;refine Ak (vs:=[.b true]) uH (by simp) (by simp) λn0 a=>?_;clear a;simp only[push_cast,seval,reduceEqDiff]
  repeat' (first|(((first|apply Ad|apply Ai|apply Ah)<;>intro _h)<;>(simp only[push_cast,seval,reduceEqDiff,_h];try (have _g:=_h;simp at _g)))|(refine Ae (by exact this) ?_;simp only[push_cast,seval,reduceEqDiff])|intro _)
  all_goals (first|(refine Af ?_;simp[get]<;>(intros;omega);done)|(refine Ag ?_;simp[push_cast,get];done)|skip)
 .skip;refine Ak (vs:=[.b false]) uH (by simp) (by simp) λn0 a=>?_;clear a;simp only[push_cast,seval,reduceEqDiff]
  repeat' (first|(((first|apply Ad|apply Ai|apply Ah)<;>intro _h)<;>(simp only[push_cast,seval,reduceEqDiff,_h];try (have _g:=_h;simp at _g)))|(refine Ae (by exact this) ?_;simp only[push_cast,seval,reduceEqDiff])|intro _)
  all_goals (first|(refine Af ?_;simp[get]<;>(intros;omega);done)|(refine Ag ?_;simp[push_cast,get];done)|skip)
end Go.Ir

namespace Go.Ir
open Go.Proofs
variable{P:Program}{W0:World}{nt n:Nat}{Q:Exit→St→Prop}{env:AB}{σ:Aj}
def xJ:IC:=oR [m1 9 1,q1 10 83 9,m1 11 10,B0 12 11 1,gF 13 11 (.lenS (.t 12)),EZ 14 11 .gtr 13 1,B0 15 11 14,BX 16 15 1,gT 17 15 (.idx (.t 16) (ci 0)),gT 18 15 (.bin .eql (.t 17) (.c (.i .u8 61))),gF 19 11 (.pick (.t 15) (.t 18) (.c (.b false))),B0 20 11 19,BX 21 20 1,gT 22 20 (.slS (.t 21) (some (ci 1)) none),gT 23 20 (.call 84 [.t 22]),gF 24 11 (.pick (.t 20) (.t 23) (.c (.b false))),pO 25 11 24,m1 4 25] [4]
def vC:IC:=oS [mC 4 (.b false)] [0,1] (sQ (oS [m1 5 0,bZ 6 .eql 5 9] [1,6] (cD 6 (oR [m1 7 1,q1 8 60 7,m1 4 8] [4]) .skip)) xJ)
@[push_cast]def ArS:List R:=[.t 4]
@[push_cast]def Axq:=AL xJ.eq_1<|AZ vC.eq_1
theorem Ys:AD π 62 26 vC ArS=true:=by kernel_rfl
def Zm:IC:=oS [bZ 33 .eql 11 4,m1 31 33] [2,5,6,11,31] (cD 31 .skip (oS [bZ 34 .eql 11 5,m1 31 34] [2,5,6,11,31] (cD 31 .skip (oP [bZ 35 .eql 11 6,m1 31 35] [2,5,6,31]))))
def hY:IC:=oP [m1 55 6,m1 56 55,D0 57 56 2 3,Dm 58 56 57,gT 59 56 (.bin .eql (.t 58) (.c (.s []))),BX 60 56 59,C4 61 60 2 3,C3 62 60 61,gF 63 60 (.bin .eql (.t 62) (.c (.s [105,110,116,101,103,101,114]))),gT 64 56 (.pick (.t 60) (.c (.b true)) (.t 63)),BX 65 56 64,C4 66 65 2 3,C3 67 65 66,gF 68 65 (.bin .eql (.t 67) (.c (.s [112,101,114,99,101,110,116]))),gT 69 56 (.pick (.t 65) (.c (.b true)) (.t 68)),pA 70 56 69,m1 6 70] [2,5,6]
def YK:IC:=oS [bZ 72 .eql 46 5,m1 71 72] [2,5,6,71] (cD 71 (oP [m1 73 6,m1 74 73,D0 75 74 2 3,Dm 76 74 75,gT 77 74 (.call 85 [.t 76]),pA 78 74 77,m1 6 78] [2,5,6]) (oP [m1 47 6,m1 48 47,D0 49 48 2 3,Dm 50 48 49,gT 51 48 (.call 60 [.t 50]),pA 52 48 51,m1 6 52] [2,5,6]))
def kV:IC:=oS [fA 42 2 2,l1 43 42,q1 44 60 43,m1 6 44] [2,5,6] (oS [fA 45 2 0,l1 46 45] [2,5,6,46] (.block 1 (oS [bZ 54 .eql 46 3,m1 53 54] [2,5,6,46,53] (cD 53 hY YK))))
def j8:IC:=sQ (.ops [fA 36 2 2,l1 37 36,fA 38 2 3,l1 39 38,fA 40 5 2,⟨none,.store (.t 40) (.t 37) 1,none,[.t 38]⟩,fA 41 5 3,sT 41 39 1] [2,5] [[0,1],[2,3],[1,5],[4,5],[1,7],[3,7],[5,7],[6,7]]) kV
def YX:IC:=oS [bZ 24 .eql 11 2,m1 23 24] [2,5,6,11,23] (cD 23 (oS [fA 25 2 2,l1 26 25,fA 27 5 2,sT 27 26 1] [2,5] (oP [fA 28 2 2,l1 29 28,q1 30 60 29,m1 6 30] [2,5,6])) (sQ (oS [bZ 32 .eql 11 3,m1 31 32] [2,5,6,11,31] (cD 31 .skip Zm)) (cD 31 j8 .skip)))
def uR:IC:=.block 0 (oS [bZ 13 .eql 11 1,m1 12 13] [1,2,5,6,11,12] (cD 12 (oS [fA 14 2 1,l1 15 14,fA 16 5 1,sT 16 15 1] [2,5] (oP [fA 17 2 1,l1 18 17,bC 19 .neq 18 (.s []),m1 6 19] [2,5,6])) (oS [bZ 21 .eql 11 10,m1 20 21] [1,2,5,6,11,20] (cD 20 (oP [m1 22 1,m1 6 22] [2,5,6]) YX))))
def iL:IC:=oR [m1 79 6,m1 80 79,D0 81 80 2 4,Dm 82 80 81,gT 83 80 (.lenL (.t 82)),F7 84 80 .eql 83 0,pA 85 80 84,m1 86 85,D0 87 86 2 5,Dm 88 86 87,gT 89 86 (.lenL (.t 88)),F7 90 86 .eql 89 0,pA 91 86 90,m1 92 91,D0 93 92 2 1,Dm 94 92 93,D0 95 92 5 1,Dm 96 92 95,gT 97 92 (.bin .eql (.t 94) (.t 96)),pA 98 92 97,m1 99 98,D0 100 99 2 2,Dm 101 99 100,D0 102 99 5 2,Dm 103 99 102,gT 104 99 (.bin .eql (.t 101) (.t 103)),pA 105 99 104,m1 106 105,D0 107 106 2 3,Dm 108 106 107,D0 109 106 5 3,Dm 110 106 109,gT 111 106 (.bin .eql (.t 108) (.t 110)),pA 112 106 111,m1 4 112] [4]
def wM:IC:=oS [fA 7 2 0,l1 8 7,o1 9 (.build [.i .i64 0,.s [],.s [],.s [],.nil,.nil] [(0,1,.t 8)]),o1 5 (.alloc (.agg [.i .i64 0,.s [],.s [],.s [],.nil,.nil])),sT 5 9 6] [1,2,5] (oS [mC 6 (.b false)] [1,2,5,6] (sQ (oS [fA 10 2 0,l1 11 10] [1,2,5,6,11] uR) iL))
def tO:IC:=oS [bX 2 0,mC 4 (.b false)] [1,2] wM
@[push_cast]def At0:List R:=[.t 4]
@[push_cast]def Axo:=AL Zm.eq_1<|AL hY.eq_1<|AL YK.eq_1<|AL kV.eq_1<|AL j8.eq_1<|AL YX.eq_1<|AL uR.eq_1<|AL iL.eq_1<|AL wM.eq_1<|AZ tO.eq_1
theorem Anp:AD π 65 113 tO At0=true:=by kernel_rfl
def eX:IC:=oS [m1 42 1,bZ 43 .gtr 42 8,m1 44 43,C4 45 44 8 2,C3 46 44 45,gF 47 44 (.call 60 [.t 46]),gF 48 44 (.not (.t 47)),pO 49 44 48,m1 50 49,C4 51 50 8 1,C3 52 50 51,gF 53 50 (.bin .neq (.t 52) (.c (.s []))),pO 54 50 53,m1 55 54,C4 56 55 8 3,C3 57 55 56,gF 58 55 (.bin .neq (.t 57) (.c (.s []))),pO 59 55 58,m1 60 59,C4 61 60 8 4,C3 62 60 61,gF 63 60 (.lenL (.t 62)),EZ 64 60 .gtr 63 0,pO 65 60 64,m1 66 65,C4 67 66 8 5,C3 68 66 67,B0 69 66 1,EZ 70 66 .add 69 1,B0 71 66 2,gF 72 66 (.call 36 [.t 68,.t 70,.t 71]),gF 73 66 (.not (.t 72)),pO 74 66 73] [0,1,2,7,74] (cD 74 (oR [mC 6 (.b false)] [6]) .skip)
def eC:IC:=sQ (sQ (.ops [fA 127 8 0,l1 128 127,fA 129 11 0,l1 130 129,q2 131 62 128 130,nT 132 131,m1 133 132,B0 134 133 9,C4 135 133 11 0,C3 136 133 135,gF 137 133 (.calls 63 [.t 134,.t 136]),pO 138 133 137,m1 139 138,C4 140 139 11 1,C3 141 139 140,B0 142 139 1,EZ 143 139 .add 142 1,B0 144 139 2,B0 145 139 144,C4 146 145 8 0,C3 147 145 146,gF 148 145 (.call 64 [.t 147]),gF 149 139 (.pick (.t 145) (.c (.b true)) (.t 148)),gF 150 139 (.call 36 [.t 141,.t 143,.t 149]),gF 151 139 (.not (.t 150)),pO 152 139 151] [0,1,2,7,8,9,10,11,152] [[0,1],[2,3],[1,4],[3,4],[4,5],[5,6],[6,7],[6,8],[6,9],[8,9],[1,4,6,10],[3,4,6,10],[6,10],[7,10],[9,10],[6,11],[10,11],[11,12],[12,13],[10,12,14],[12,14],[13,14],[12,15],[12,16],[15,16],[12,17],[12,18],[17,18],[18,19],[10,12,18,20],[18,20],[19,20],[18,21],[20,21],[12,22],[18,22],[21,22],[12,23],[14,23],[16,23],[22,23],[12,24],[23,24],[12,25],[24,25]]) (cD 152 (oR [mC 6 (.b false)] [6]) .skip)) (oP [m1 153 9,fA 154 11 0,l1 155 154,o1 156 (.msl false 9 1 [.t 155]),o1 157 (.app (.t 153) (.t 156) 9 1),m1 9 157] [0,1,2,7,8,9,10])
def YM:IC:=sQ (.block 4 (oS [fA 122 8 4,l1 123 122,m1 124 10,iA 125 123 124 56 2,lA 126 125 2,o1 11 (.alloc (.agg [.s [],.nil])),sT 11 126 2] [0,1,2,7,8,9,10,11] eC)) (oP [m1 120 10,bZ 121 .add 120 1,m1 10 121] [0,1,2,7,8,9,10])
def jD:IC:=sQ (oS [mZ 10 0] [0,1,2,7,8,9,10] (.block 3 (.loop (sQ (oS [m1 115 10,fA 116 8 4,l1 117 116,nL 118 117,bT 119 .lss 115 118] [0,1,2,7,8,9,10,119] (cD 119 .skip (.exit 3))) YM)))) (oS [m1 158 9,o1 159 (.calls 63 [.t 158,.c (.s [111,116,104,101,114])]),nT 160 159] [0,1,2,7,160] (cD 160 (oR [mC 6 (.b false)] [6]) .skip))
def XT:IC:=sQ (oS [m1 79 1,bZ 80 .gtr 79 8,m1 81 80,C4 82 81 8 2,C3 83 81 82,gF 84 81 (.call 60 [.t 83]),gF 85 81 (.not (.t 84)),pO 86 81 85,m1 87 86,C4 88 87 8 1,C3 89 87 88,gF 90 87 (.bin .neq (.t 89) (.c (.s []))),pO 91 87 90,m1 92 91,C4 93 92 8 3,C3 94 92 93,gF 95 92 (.bin .neq (.t 94) (.c (.s []))),pO 96 92 95,m1 97 96,C4 98 97 8 5,C3 99 97 98,gF 100 97 (.lenL (.t 99)),EZ 101 97 .gtr 100 0,pO 102 97 101,m1 103 102,C4 104 103 8 4,C3 105 103 104,gF 106 103 (.lenL (.t 105)),EZ 107 103 .lss 106 1,pO 108 103 107,m1 109 108,C4 110 109 8 4,C3 111 109 110,gF 112 109 (.lenL (.t 111)),EZ 113 109 .gtr 112 20,pO 114 109 113] [0,1,2,7,8,114] (cD 114 (oR [mC 6 (.b false)] [6]) .skip)) (oS [mC 9 .nil] [0,1,2,7,8,9] jD)
def aB:IC:=oS [fA 76 8 0,l1 77 76,q1 78 61 77,m1 75 78] [0,1,2,7,8,75] (cD 75 XT (oS [lA 162 8 6,m1 163 2,q2 164 65 162 163,nT 165 164,m1 161 165] [0,1,2,7,161] (cD 161 (oR [mC 6 (.b false)] [6]) .skip)))
def ZV:IC:=sQ (oS [m1 22 7,bZ 23 .gtr 22 0,m1 24 23,D0 25 24 8 0,Dm 26 24 25,F7 27 24 .eql 26 1,pA 28 24 27,m1 29 28,BX 30 29 0,BX 31 29 7,F7 32 29 .sub 31 1,gT 33 29 (.iaddr (.t 30) (.t 32) 59 6),D0 34 29 33 0,Dm 35 29 34,F7 36 29 .eql 35 1,pA 37 29 36] [0,1,2,7,8,37] (cD 37 (oR [mC 6 (.b false)] [6]) .skip)) (.block 2 (oS [fA 39 8 0,l1 40 39,bZ 41 .eql 40 11,m1 38 41] [0,1,2,7,8,38] (cD 38 eX aB)))
def aO:IC:=sQ (.block 1 (oS [m1 18 0,m1 19 7,iA 20 18 19 59 6,lA 21 20 6,o1 8 (.alloc (.agg [.i .i64 0,.s [],.s [],.s [],.nil,.nil])),sT 8 21 6] [0,1,2,7,8] ZV)) (oP [m1 16 7,bZ 17 .add 16 1,m1 7 17] [0,1,2,7])
def uM:IC:=sQ (oS [mZ 7 0] [0,1,2,7] (.block 0 (.loop (sQ (oS [m1 12 7,m1 13 0,nL 14 13,bT 15 .lss 12 14] [0,1,2,7,15] (cD 15 .skip (.exit 0))) aO)))) (oR [mC 6 (.b true)] [6])
def vW:IC:=oS [mC 6 (.b false)] [0,1,2] uM
@[push_cast]def Au0:List R:=[.t 6]
@[push_cast]def Axx:=AL eX.eq_1<|AL eC.eq_1<|AL YM.eq_1<|AL jD.eq_1<|AL XT.eq_1<|AL aB.eq_1<|AL ZV.eq_1<|AL aO.eq_1<|AL uM.eq_1<|AZ vW.eq_1
theorem AoI:AD π 36 166 vW Au0=true:=by kernel_rfl
def aA:IC:=.ops [o1 33 (.msl true 9 1 []),m1 34 1,o1 35 (.app (.t 33) (.t 34) 9 1),fA 36 6 2,⟨some 37,.load (.t 36) 1 false,none,[.t 33]⟩,o1 38 (.msl false 9 1 [.t 37]),o1 39 (.app (.t 35) (.t 38) 9 1),m1 1 39] [0,1,5,6] [[0,2],[1,2],[3,4],[4,5],[2,6],[4,5,6],[5,6],[1,7],[6,7]]
def XM:IC:=sQ (.block 3 (oP [fA 51 6 4,l1 52 51,m1 53 7,iA 54 52 53 56 2,fA 55 54 1,l1 56 55,m1 57 1,q2 58 37 56 57,m1 1 58] [0,1,5,6,7])) (oP [m1 49 7,bZ 50 .add 49 1,m1 7 50] [0,1,5,6,7])
def eN:IC:=sQ (.wk (oP [fA 40 6 5,l1 41 40,m1 42 1,q2 43 37 41 42,m1 1 43] [0,1,5,6])) (oS [mZ 7 0] [0,1,5,6,7] (.block 2 (.loop (sQ (oS [m1 44 7,fA 45 6 4,l1 46 45,nL 47 46,bT 48 .lss 44 47] [0,1,5,6,7,48] (cD 48 .skip (.exit 2))) XM))))
def kB:IC:=sQ (oS [fA 18 6 0,l1 19 18,bZ 20 .geq 19 2,m1 21 20,D0 22 21 6 0,Dm 23 21 22,F7 24 21 .leq 23 9,pA 25 21 24,m1 26 25,BX 27 26 1,D0 28 26 6 2,Dm 29 26 28,gT 30 26 (.call 63 [.t 27,.t 29]),gT 31 26 (.not (.t 30)),pA 32 26 31] [0,1,5,6,32] (cD 32 aA .skip)) eN
def gB:IC:=sQ (.block 1 (oS [m1 14 0,m1 15 5,iA 16 14 15 59 6,lA 17 16 6,o1 6 (.alloc (.agg [.i .i64 0,.s [],.s [],.s [],.nil,.nil])),sT 6 17 6] [0,1,5,6] kB)) (oP [m1 12 5,bZ 13 .add 12 1,m1 5 13] [0,1,5])
def yT:IC:=sQ (oS [mZ 5 0] [0,1,5] (.block 0 (.loop (sQ (oS [m1 8 5,m1 9 0,nL 10 9,bT 11 .lss 8 10] [0,1,5,11] (cD 11 .skip (.exit 0))) gB)))) (oR [m1 59 1,m1 4 59] [4])
def zY:IC:=oS [mC 4 .nil] [0,1] yT
@[push_cast]def ArK:List R:=[.t 4]
@[push_cast]def Aw7:=AL aA.eq_1<|AL XM.eq_1<|AL eN.eq_1<|AL kB.eq_1<|AL gB.eq_1<|AL yT.eq_1<|AZ zY.eq_1
theorem AjM:AD π 37 60 zY ArK=true:=by kernel_rfl
def vQ:IC:=oR [m1 3 0,o1 4 (.call 36 [.t 3,ci 1,.c (.b false)]),m1 5 4,BX 6 5 0,gT 7 5 (.call 37 [.t 6,.c .nil]),gT 8 5 (.lenL (.t 7)),F7 9 5 .leq 8 20,pA 10 5 9,m1 11 10,BX 12 11 0,gT 13 11 (.call 38 [.t 12,.c (.s [32])]),gT 14 11 (.lenS (.t 13)),F7 15 11 .leq 14 4000,pA 16 11 15,m1 2 16] [2]
def zZ:IC:=oS [mC 2 (.b false)] [0] vQ
@[push_cast]def Atw:List R:=[.t 2]
@[push_cast]def Awt:=AL vQ.eq_1<|AZ zZ.eq_1
theorem Apf:AD π 16 17 zZ Atw=true:=by kernel_rfl
def Y2:IC:=oR [m1 16 1,q1 17 120 16,m1 18 17,B0 19 18 6,B0 20 18 19,BX 21 20 5,gT 22 20 (.call 113 [.t 21]),gF 23 18 (.pick (.t 20) (.t 22) (.c (.b false))),pO 24 18 23,m1 4 24] [4]
def Aa5:IC:=sQ (oS [m1 7 0,bZ 8 .eql 7 9] [1,8] (cD 8 (oR [m1 9 1,q1 10 92 9,m1 4 10] [4]) .skip)) (oS [m1 12 1,o1 13 (.call 52 [.t 12,.c (.s [61])]),m1 11 13,xT 14 11 0,xT 15 11 1,m1 5 14,m1 6 15] [1,5,6] Y2)
def xV:IC:=oS [mC 4 (.b false)] [0,1] Aa5
@[push_cast]def AtB:List R:=[.t 4]
@[push_cast]def AwL:=AL Y2.eq_1<|AL Aa5.eq_1<|AZ xV.eq_1
theorem iU:AD π 94 25 xV AtB=true:=by kernel_rfl
def Zi:IC:=oS [bZ 21 .eql 9 7,m1 18 21] [1,3,4,9,18] (cD 18 .skip (oS [bZ 22 .eql 9 8,m1 18 22] [1,3,4,9,18] (cD 18 .skip (oP [bZ 23 .eql 9 9,m1 18 23] [1,3,4,9,18]))))
def X8:IC:=oP [fA 35 1 3,l1 36 35,bC 37 .eql 36 (.s []),m1 38 37,C4 39 38 1 3,C3 40 38 39,gF 41 38 (.bin .eql (.t 40) (.c (.s [105,110,116,101,103,101,114]))),pO 42 38 41,m1 43 42,C4 44 43 1 3,C3 45 43 44,gF 46 43 (.bin .eql (.t 45) (.c (.s [112,101,114,99,101,110,116]))),pO 47 43 46,m1 4 47] [1,3,4]
def Ym:IC:=sQ (.ops [fA 29 1 2,l1 30 29,fA 31 1 3,l1 32 31,fA 33 3 2,⟨none,.store (.t 33) (.t 30) 1,none,[.t 31]⟩,fA 34 3 3,sT 34 32 1] [1,3] [[0,1],[2,3],[1,5],[4,5],[1,7],[3,7],[5,7],[6,7]]) X8
def iN:IC:=sQ (.ops [fA 51 1 2,l1 52 51,fA 53 1 3,l1 54 53,fA 55 3 2,⟨none,.store (.t 55) (.t 52) 1,none,[.t 53]⟩,fA 56 3 3,sT 56 54 1] [1,3] [[0,1],[2,3],[1,5],[4,5],[1,7],[3,7],[5,7],[6,7]]) (oP [fA 57 1 3,l1 58 57,q1 59 92 58,m1 4 59] [1,3,4])
def bI:IC:=sQ (.ops [fA 62 1 2,l1 63 62,fA 64 1 3,l1 65 64,fA 66 3 2,⟨none,.store (.t 66) (.t 63) 1,none,[.t 64]⟩,fA 67 3 3,sT 67 65 1] [1,3] [[0,1],[2,3],[1,5],[4,5],[1,7],[3,7],[5,7],[6,7]]) (oP [fA 68 1 3,l1 69 68,q1 70 93 69,m1 4 70] [1,3,4])
def dV:IC:=oS [bZ 61 .eql 9 5,m1 60 61] [1,3,4,9,60] (cD 60 bI (oS [bZ 72 .eql 9 10,m1 71 72] [1,3,4,71] (cD 71 .skip (oP [mC 4 (.b false)] [1,3,4]))))
def jU:IC:=oS [bZ 28 .eql 9 3,m1 27 28] [1,3,4,9,27] (cD 27 Ym (sQ (oS [bZ 49 .eql 9 4,m1 48 49] [1,3,4,9,48] (cD 48 .skip (oP [bZ 50 .eql 9 6,m1 48 50] [1,3,4,9,48]))) (cD 48 iN dV)))
def Yi:IC:=sQ (oS [bZ 19 .eql 9 2,m1 18 19] [1,3,4,9,18] (cD 18 .skip (oS [bZ 20 .eql 9 11,m1 18 20] [1,3,4,9,18] (cD 18 .skip Zi)))) (cD 18 (oP [fA 24 1 2,l1 25 24,fA 26 3 2,sT 26 25 1] [1,3,4]) jU)
def Aan:IC:=.block 0 (oS [bZ 11 .eql 9 1,m1 10 11] [1,3,4,9,10] (cD 10 (oS [fA 12 1 1,l1 13 12,fA 14 3 1,sT 14 13 1] [1,3] (oP [fA 15 1 1,l1 16 15,bC 17 .neq 16 (.s []),m1 4 17] [1,3,4])) Yi))
def aM:IC:=oR [m1 92 4,m1 93 92,D0 94 93 1 1,Dm 95 93 94,D0 96 93 3 1,Dm 97 93 96,gT 98 93 (.bin .eql (.t 95) (.t 97)),pA 99 93 98,m1 100 99,D0 101 100 1 2,Dm 102 100 101,D0 103 100 3 2,Dm 104 100 103,gT 105 100 (.bin .eql (.t 102) (.t 104)),pA 106 100 105,m1 107 106,D0 108 107 1 3,Dm 109 107 108,D0 110 107 3 3,Dm 111 107 110,gT 112 107 (.bin .eql (.t 109) (.t 111)),pA 113 107 112,m1 114 113,D0 115 114 1 4,Dm 116 114 115,gT 117 114 (.lenL (.t 116)),F7 118 114 .eql 117 0,BX 119 114 118,C4 120 119 1 0,C3 121 119 120,gF 122 119 (.call 35 [.t 121]),gT 123 114 (.pick (.t 119) (.c (.b true)) (.t 122)),pA 124 114 123,m1 125 124,D0 126 125 1 5,Dm 127 125 126,gT 128 125 (.lenL (.t 127)),F7 129 125 .eql 128 0,BX 130 125 129,C4 131 130 1 0,C3 132 130 131,EZ 133 130 .eql 132 11,gT 134 125 (.pick (.t 130) (.c (.b true)) (.t 133)),pA 135 125 134,m1 2 135] [2]
def eV:IC:=sQ (oS [fA 73 3 2,l1 74 73,bC 75 .neq 74 (.s []),m1 76 75,C4 77 76 1 0,C3 78 76 77,EZ 79 76 .neq 78 1,B0 80 76 79,D0 81 80 1 0,Dm 82 80 81,F7 83 80 .neq 82 10,gF 84 76 (.pick (.t 80) (.t 83) (.c (.b false))),pO 85 76 84] [1,3,4,85] (cD 85 (oP [m1 86 4,m1 87 86,D0 88 87 1 2,Dm 89 87 88,gT 90 87 (.call 92 [.t 89]),pA 91 87 90,m1 4 91] [1,3,4]) .skip)) aM
def xA:IC:=oS [fA 5 1 0,l1 6 5,o1 7 (.build [.i .i64 0,.s [],.s [],.s [],.nil,.nil] [(0,1,.t 6)]),o1 3 (.alloc (.agg [.i .i64 0,.s [],.s [],.s [],.nil,.nil])),sT 3 7 6] [1,3] (oS [mC 4 (.b true)] [1,3,4] (sQ (oS [fA 8 1 0,l1 9 8] [1,3,4,9] Aan) eV))
def z7:IC:=oS [bX 1 0,mC 2 (.b false)] [1] xA
@[push_cast]def ArX:List R:=[.t 2]
@[push_cast]def AwK:=AL Zi.eq_1<|AL X8.eq_1<|AL Ym.eq_1<|AL iN.eq_1<|AL bI.eq_1<|AL dV.eq_1<|AL jU.eq_1<|AL Yi.eq_1<|AL Aan.eq_1<|AL aM.eq_1<|AL eV.eq_1<|AL xA.eq_1<|AZ z7.eq_1
theorem GX:AD π 74 136 z7 ArX=true:=by kernel_rfl
def gH:IC:=.ops [m1 56 5,fA 57 8 2,l1 58 57,o1 59 (.bin .add (.c (.s [60])) (.t 58)),bC 60 .add 59 (.s [62]),fA 61 8 5,l1 62 61,m1 63 1,q2 64 38 62 63,bT 65 .add 60 64,bC 66 .add 65 (.s [60,47]),fA 67 8 2,l1 68 67,bT 69 .add 66 68,bC 70 .add 69 (.s [62]),bT 71 .add 56 70,m1 5 71] [0,1,5,6,7] [[1,2],[2,3],[3,4],[5,6],[6,8],[7,8],[4,9],[8,9],[9,10],[11,12],[10,13],[12,13],[13,14],[0,15],[14,15],[0,16],[15,16]]
def kQ:IC:=oP [m1 109 5,m1 110 1,o1 111 (.bin .add (.c (.s [44])) (.t 110)),fA 112 8 3,l1 113 112,bT 114 .add 111 113,bT 115 .add 109 114,m1 5 115] [0,1,5,6,7,8]
def aP:IC:=sQ (.block 4 (.ops [m1 128 5,m1 129 1,fA 130 8 4,l1 131 130,m1 132 9,iA 133 131 132 56 2,fA 134 133 0,l1 135 134,bT 136 .add 129 135,m1 137 1,bT 138 .add 136 137,bC 139 .add 138 (.s [123]),fA 140 8 4,l1 141 140,m1 142 9,iA 143 141 142 56 2,fA 144 143 1,l1 145 144,m1 146 1,q2 147 38 145 146,bT 148 .add 139 147,bC 149 .add 148 (.s [125]),bT 150 .add 128 149,m1 5 150] [0,1,5,6,7,8,9] [[2,3],[3,5],[4,5],[5,6],[6,7],[1,8],[7,8],[8,10],[9,10],[10,11],[12,13],[13,15],[14,15],[15,16],[16,17],[17,19],[18,19],[11,20],[19,20],[20,21],[0,22],[21,22],[0,23],[22,23]])) (oP [m1 126 9,bZ 127 .add 126 1,m1 9 127] [0,1,5,6,7,8,9])
def Zx:IC:=sQ (oS [mZ 9 0] [0,1,5,6,7,8,9] (.block 3 (.loop (sQ (oS [m1 121 9,fA 122 8 4,l1 123 122,nL 124 123,bT 125 .lss 121 124] [0,1,5,6,7,8,9,125] (cD 125 .skip (.exit 3))) aP)))) (oP [m1 151 5,bC 152 .add 151 (.s [125]),m1 5 152] [0,1,5,6,7])
def Zu:IC:=sQ (oS [fA 116 8 0,l1 117 116,q1 118 61 117] [0,1,5,6,7,8,118] (cD 118 (oP [m1 119 5,bC 120 .add 119 (.s [44]),m1 5 120] [0,1,5,6,7,8]) .skip)) Zx
def iI:IC:=sQ (.ops [m1 91 5,fA 92 8 2,l1 93 92,o1 94 (.bin .add (.c (.s [123])) (.t 93)),bC 95 .add 94 (.s [44]),m1 96 1,bT 97 .add 95 96,m1 98 6,fA 99 8 0,l1 100 99,bZ 101 .sub 100 3,iA 102 98 101 9 1,l1 103 102,bT 104 .add 97 103,bT 105 .add 91 104,m1 5 105] [0,1,5,6,7,8] [[1,2],[2,3],[3,4],[4,6],[5,6],[8,9],[9,10],[7,11],[10,11],[11,12],[6,13],[12,13],[0,14],[13,14],[0,15],[14,15]]) (sQ (oS [fA 106 8 3,l1 107 106,bC 108 .neq 107 (.s [])] [0,1,5,6,7,8,108] (cD 108 kQ .skip)) Zu)
def eP:IC:=oS [fA 83 8 0,l1 84 83,bZ 85 .geq 84 3,m1 86 85,D0 87 86 8 0,Dm 88 86 87,F7 89 86 .leq 88 9,pA 90 86 89,m1 82 90] [0,1,5,6,7,8,82] (cD 82 iI .skip)
def fX:IC:=oS [fA 73 8 0,l1 74 73,bZ 75 .eql 74 2,m1 72 75] [0,1,5,6,7,8,72] (cD 72 (oP [m1 76 5,fA 77 8 2,l1 78 77,o1 79 (.bin .add (.c (.s [123])) (.t 78)),bC 80 .add 79 (.s [125]),bT 81 .add 76 80,m1 5 81] [0,1,5,6,7]) eP)
def iR:IC:=oS [fA 37 8 0,l1 38 37,bZ 39 .eql 38 11,m1 40 39,D0 41 40 8 5,Dm 42 40 41,gT 43 40 (.lenL (.t 42)),F7 44 40 .eql 43 0,pA 45 40 44,m1 36 45] [0,1,5,6,7,8,36] (cD 36 (oP [m1 46 5,fA 47 8 2,l1 48 47,o1 49 (.bin .add (.c (.s [60])) (.t 48)),bC 50 .add 49 (.s [47,62]),bT 51 .add 46 50,m1 5 51] [0,1,5,6,7]) (oS [fA 53 8 0,l1 54 53,bZ 55 .eql 54 11,m1 52 55] [0,1,5,6,7,8,52] (cD 52 gH fX)))
def Zw:IC:=.block 2 (oS [fA 22 8 0,l1 23 22,bZ 24 .eql 23 1,m1 21 24] [0,1,5,6,7,8,21] (cD 21 (oP [m1 25 5,fA 26 8 1,l1 27 26,q1 28 66 27,bT 29 .add 25 28,m1 5 29] [0,1,5,6,7]) (oS [fA 31 8 0,l1 32 31,bZ 33 .eql 32 10,m1 30 33] [0,1,5,6,7,8,30] (cD 30 (oP [m1 34 5,bC 35 .add 34 (.s [35]),m1 5 35] [0,1,5,6,7]) iR))))
def dF:IC:=sQ (.block 1 (oS [m1 17 0,m1 18 7,iA 19 17 18 59 6,lA 20 19 6,o1 8 (.alloc (.agg [.i .i64 0,.s [],.s [],.s [],.nil,.nil])),sT 8 20 6] [0,1,5,6,7,8] Zw)) (oP [m1 15 7,bZ 16 .add 15 1,m1 7 16] [0,1,5,6,7])
def Aa9:IC:=sQ (oS [mZ 7 0] [0,1,5,6,7] (.block 0 (.loop (sQ (oS [m1 11 7,m1 12 0,nL 13 12,bT 14 .lss 11 13] [0,1,5,6,7,14] (cD 14 .skip (.exit 0))) dF)))) (oR [m1 153 5,m1 4 153] [4])
def zK:IC:=oS [o1 10 (.msl false 9 1 [.c (.s [110,117,109,98,101,114]),.c (.s [117,110,105,116]),.c (.s [100,97,116,101]),.c (.s [108,105,115,116]),.c (.s [112,108,117,114,97,108]),.c (.s [111,114,100,105,110,97,108]),.c (.s [115,101,108,101,99,116])]),m1 6 10] [0,1,5,6] Aa9
def yJ:IC:=oS [mC 4 (.s [])] [0,1] (oS [mC 5 (.s [])] [0,1,5] zK)
@[push_cast]def AtD:List R:=[.t 4]
@[push_cast]def Ax5:=AL gH.eq_1<|AL kQ.eq_1<|AL aP.eq_1<|AL Zx.eq_1<|AL Zu.eq_1<|AL iI.eq_1<|AL eP.eq_1<|AL fX.eq_1<|AL iR.eq_1<|AL Zw.eq_1<|AL dF.eq_1<|AL Aa9.eq_1<|AL zK.eq_1<|AZ yJ.eq_1
theorem Amh:AD π 38 154 yJ AtD=true:=by kernel_rfl
end Go.Ir

namespace Go.Ir
open Go.Proofs
variable(W0:World)
theorem wD(l:List Aa)(s:Aa)(id:Id)(e:Nat)(p:l.length<=2^40):An π W0 63 [.arr id,.s s] [(id,.arr e 1 (l.map V.s))] (.b (l.contains s)) [(id,.arr e 1 (l.map V.s))]:=by
 generalize hS:l.contains s=S;refine Ak (vs:=[.b S]) Yn (by simp) (λ_ h=>h) λn0 j=>?_;clear j;simp only[push_cast,seval,reduceEqDiff];intros;refine As l.length (Inv:=λm o=>∃dn rest n,l=dn++rest/\m=rest.length/\rest.contains s=S/\o=⟨[(0,.arr id),(1,.s s),(5,.i .i64 dn.length)],[(id,.arr e 1 (l.map V.s))],n⟩) ⟨_,Al.refl,[],l,_,rfl,rfl,hS,rfl⟩ ?_;clear hS;rintro m _ ⟨dn,rest,n,g,rfl,c,rfl⟩;cases rest with
 | nil=>
  subst c;simp only[push_cast,seval,reduceEqDiff,g]
  repeat' (first|(((first|apply Ad|apply Ai|apply Ah)<;>intro _h)<;>(simp only[push_cast,seval,reduceEqDiff,_h];try (have _g:=_h;simp at _g)))|intro _)
  all_goals (refine A4 ?_ (λ_ _ h=>h);simp[get])
 | cons x rest=>
  have k:=AW g;rw[List.contains_cons,Bool.beq_comm] at c;have a:dn.length<(dn++x::rest).length:=by simp
  simp only[push_cast,seval,reduceEqDiff,g,Ac x (dn:=dn) (by omega),if_pos a]
  repeat' (first|(((first|apply Ad|apply Ai|apply Ah)<;>intro _h)<;>(simp only[push_cast,seval,reduceEqDiff,_h,g,Ac x (dn:=dn) (by omega),if_pos a];try (have _g:=_h;simp at _g)))|intro _)
  all_goals (first|(exact⟨_,_,Nat.lt_succ_self _,Al.refl,dn++[x],rest,_,by simp,rfl,by rw[<-c];simp[*],rfl⟩)|skip)
  all_goals subst c
  all_goals (refine A4 ?_ (λ_ _ h=>h);simp[get, *])
def QK:Aa->Bool
 | []=>false
 | c::t=>(c.toNat:Int)==61&&Ei t
def Gp(a:Int)(s:Aa):Bool:=if a==9 then BA s else ET s||QK s
theorem LZ:Ei []=false:=by decide
theorem AfV(e:Int)(s:Aa)(m:s.length<=2^30):An π W0 62 [.i .i64 e,.s s] [] (.b (Gp e s)) []:=by
 generalize hS:Gp e s=S;unfold Gp at hS;have j:=LD W0 s (by unfold AO;omega);have k:=iQ W0 s;cases s with
 | nil=>
  refine Ak (vs:=[.b S]) Ys (by simp) (by simp) λn0 a=>?_;clear a;simp only[push_cast,seval,reduceEqDiff]
  repeat' (first|(((first|apply Ad|apply Ai|apply Ah)<;>intro _h)<;>(simp only[push_cast,seval,reduceEqDiff,_h];try (have _g:=_h;simp at _g)))|((first|refine Ae (by exact j) ?_|refine Ae (by exact k) ?_);simp only[push_cast,seval,reduceEqDiff])|intro _)
  all_goals subst hS
  all_goals (first|(refine Af ?_;simp[get,QK, *]<;>(intros;omega);done)|(refine Ag ?_;simp[push_cast,get,QK, *];done)|skip)
 | cons c t=>
  generalize BA (c::t)=N at j hS;generalize ET (c::t)=C at k hS;rw[QK] at hS;have o:=WS W0 t (by simp at m;omega);cases t with
  | nil=>
   rw[LZ,Bool.and_false] at hS;refine Ak (vs:=[.b S]) Ys (by simp) (by simp) λn0 a=>?_;clear a;simp only[push_cast,seval,reduceEqDiff]
   repeat' (first|(((first|apply Ad|apply Ai|apply Ah)<;>intro _h)<;>(simp only[push_cast,seval,reduceEqDiff,_h];try (have _g:=_h;simp at _g)))|((first|refine Ae (by exact j) ?_|refine Ae (by exact k) ?_);simp only[push_cast,seval,reduceEqDiff])|intro _)
   all_goals subst hS
   all_goals (first|(refine Af ?_;simp[get, *]<;>(intros;omega);done)|(refine Ag ?_;simp[push_cast,get, *];done)|skip)
  | cons d t=>
   have g:decide (((c::d::t).length:Int)>1)=true:=by simp<;>omega
   have h:(if 1<=(c::d::t).length/\(c::d::t).length<=(c::d::t).length then some (V.s (List.drop 1 (List.take (c::d::t).length (c::d::t)))) else none)=some (V.s (d::t)):=by rw[if_pos ⟨by simp,Nat.le_refl _⟩,List.take_length];rfl
   simp only[push_cast,seval,reduceEqDiff] at g h;refine Ak (vs:=[.b S]) Ys (by simp) (by simp) λn0 a=>?_;clear a;simp only[push_cast,seval,reduceEqDiff,g,h]
   repeat' (first|(((first|apply Ad|apply Ai|apply Ah)<;>intro _h)<;>(simp only[push_cast,seval,reduceEqDiff,_h,g,h];try (have _g:=_h;simp at _g)))|((first|refine Ae (by exact j) ?_|refine Ae (by exact k) ?_|refine Ae (by exact o) ?_);simp only[push_cast,seval,reduceEqDiff,g,h])|intro _)
   all_goals subst hS
   all_goals (first|(refine Af ?_;simp[get, *]<;>(intros;omega);done)|(refine Ag ?_;simp[push_cast,get, *];done)|skip)
theorem Abl(e:Int)(s:Aa)(p:s.length<=2^30):An π W0 94 [.i .i64 e,.s s] [] (.b (Gp e s)) []:=by
 generalize hS:Gp e s=S;unfold Gp at hS;have h:=DF W0 s (by unfold AO;omega);have j:=kH W0 s;have g:=FU W0 s [61];cases s with
 | nil=>
  have k:=MJ W0 [] (by simp);refine Ak (vs:=[.b S]) iU (by simp) (by simp) λn0 a=>?_;clear a;simp only[push_cast,seval,reduceEqDiff]
  repeat' (first|(((first|apply Ad|apply Ai|apply Ah)<;>intro _h)<;>(simp only[push_cast,seval,reduceEqDiff,_h];try (have _g:=_h;simp at _g)))|((first|refine Ae (by exact h) ?_|refine Ae (by exact j) ?_|refine Ae (by exact g) ?_|refine Ae (by exact k) ?_);simp only[push_cast,seval,reduceEqDiff])|intro _)
  all_goals subst hS
  all_goals (first|(refine Af ?_;simp[get,QK,LZ, *]<;>(intros;omega);done)|(refine Ag ?_;simp[push_cast,get,QK,LZ, *];done)|skip)
 | cons c t=>
  have hp:Lib.hasPrefix (c::t) [61]=((c.toNat:Int)==61):=by unfold Lib.hasPrefix;simp only[List.isPrefixOf,Bool.and_true];rw[Bool.eq_iff_iff];simp[<-UInt8.toNat_inj];omega
  have o:Lib.trimPrefix (c::t) [61]=if((c.toNat:Int)==61)=true then t else c::t:=by unfold Lib.trimPrefix;rw[hp];rfl
  rw[hp,o] at g;generalize BA (c::t)=N at h hS;generalize ET (c::t)=C at j hS;rw[QK] at hS;have k:=MJ W0 t (by simp at p;omega);rcases Bool.eq_false_or_eq_true ((c.toNat:Int)==61) with m|m
  all_goals (rw[m] at g hS;simp only[if_true,Bool.true_and,Bool.false_and,Bool.false_eq_true,if_false] at g hS)
  .skip;refine Ak (vs:=[.b S]) iU (by simp) (by simp) λn0 a=>?_;clear a;simp only[push_cast,seval,reduceEqDiff]
   repeat' (first|(((first|apply Ad|apply Ai|apply Ah)<;>intro _h)<;>(simp only[push_cast,seval,reduceEqDiff,_h];try (have _g:=_h;simp at _g)))|((first|refine Ae (by exact h) ?_|refine Ae (by exact j) ?_|refine Ae (by exact g) ?_|refine Ae (by exact k) ?_);simp only[push_cast,seval,reduceEqDiff])|intro _)
   all_goals subst hS
   all_goals (first|(refine Af ?_;simp[get, *]<;>(intros;omega);done)|(refine Ag ?_;simp[push_cast,get, *];done)|skip)
  .skip;refine Ak (vs:=[.b S]) iU (by simp) (by simp) λn0 a=>?_;clear a;simp only[push_cast,seval,reduceEqDiff]
   repeat' (first|(((first|apply Ad|apply Ai|apply Ah)<;>intro _h)<;>(simp only[push_cast,seval,reduceEqDiff,_h];try (have _g:=_h;simp at _g)))|((first|refine Ae (by exact h) ?_|refine Ae (by exact j) ?_|refine Ae (by exact g) ?_);simp only[push_cast,seval,reduceEqDiff])|intro _)
   all_goals subst hS
   all_goals (first|(refine Af ?_;simp[get, *]<;>(intros;omega);done)|(refine Ag ?_;simp[push_cast,get, *];done)|skip)
def wT(p:Ab):Aa:=if p.kind==1 then p.text else[]
def wN(p:Ab):Aa:=if p.kind==1 then[] else if p.kind==10 then[] else if p.kind==2 then p.name else if p.kind==3||p.kind==4||p.kind==5||p.kind==6 then p.name else[]
def wS(p:Ab):Aa:=if p.kind==1 then[] else if p.kind==10 then[] else if p.kind==2 then[] else if p.kind==3||p.kind==4||p.kind==5||p.kind==6 then p.style else[]
def M6(p:Ab)(c:Bool):Bool:=
 if p.kind==1 then !(p.text==[]) else if p.kind==10 then c else if p.kind==2 then BA p.name
 else if p.kind==3||p.kind==4||p.kind==5||p.kind==6 then BA p.name&&(if p.kind==3 then p.style==[]||p.style==[105,110,116,101,103,101,114]||p.style==[112,101,114,99,101,110,116] else if p.kind==5 then Dv p.style else BA p.style)
 else false
def Fz(p:Ab)(c:Bool):Bool:=M6 p c&&((p.cases.length:Int)==0)&&((p.parts.length:Int)==0)&&(p.text==wT p)&&(p.name==wN p)&&(p.style==wS p)
set_option maxHeartbeats 4000000 in
theorem VI(p:Ab)(c:Bool)(g:p.name.length<AO)(e:p.style.length<AO):An π W0 65 [p.enc,.b c] [] (.b (Fz p c)) []:=by
 generalize hS:Fz p c=S;unfold Fz M6 wT wN wS at hS;rw[Ab.enc_eq];refine Ak (vs:=[.b S]) Anp (by simp) (by simp) λn0 a=>?_;clear a;simp only[push_cast,seval,reduceEqDiff]
 repeat' (first|(((first|apply Ad|apply Ai|apply Ah)<;>intro _h)<;>(simp only[push_cast,seval,reduceEqDiff,_h];try (have _g:=_h;simp at _g)))|((first|refine Ae (by exact LD W0 p.name g) ?_|refine Ae (by exact LD W0 p.style e) ?_|refine Ae (by exact QT W0 p.style e) ?_);simp only[push_cast,seval,reduceEqDiff])|intro _)
 all_goals subst hS
 all_goals (first|(refine Af ?_;simp[get, *]<;>(intros;omega);done)|(refine Ag ?_;simp[push_cast,get, *];done)|skip)
end Go.Ir
section
namespace Go.Ir
open Go.Proofs
variable(W0:World)
theorem Al.frz{W0:World}{nt n n':Nat}{env env':AB}{σ:Aj}{id:Id}{e sz:Nat}{es:List V}(m:lk σ id=none)(q:∀y∈es,y.ok=true)
  (b:∀s,get env' s=get env s\/(get env s=.arr id/\get env' s=.sl es))(j:n<=n'):Al W0 nt ⟨env,(id,.arr e sz es)::σ,n⟩ ⟨env',σ,n'⟩:=by
 refine Al.weak (λi=>if i=id then some es else none) (λi es' h=>?_) (λs=>?_) (λi e' h=>?_) j
 .split at h
  .rename_i p;subst p;cases h;exact⟨⟨e,sz,by simp[lk]⟩,m⟩
  .cases h
 .rcases b s with h|⟨g,a⟩
  .rw[h];exact .refl _
  .rw[g,a];refine .arr id es es (by simp) rfl (λk c o g a=>?_) (λk c o g a=>?_)
   .rw[g] at a;cases a;exact .refl _
   grind
 .refine⟨e',JK m i e' h,.refl _⟩
theorem Al.nilS{W0:World}{nt n n':Nat}{env env':AB}{σ:Aj}(a:∀s,get env' s=get env s\/(get env s=.nil/\get env' s=.sl []))(b:n<=n'):Al W0 nt ⟨env,σ,n⟩ ⟨env',σ,n'⟩:=by
 refine Al.weak (λ_=>none) (λ_ _ h=>by cases h) (λs=>?_) (λi e' h=>⟨e',h,.refl _⟩) b;rcases a s with h|⟨c,e⟩
 .rw[h];exact .refl _
 .rw[c,e];exact .nil
theorem Al.envD{W0:World}{nt n n':Nat}{env env':AB}{σ:Aj}(a:∀s,get env' s=get env s\/get env' s=.any)(b:n<=n'):Al W0 nt ⟨env,σ,n⟩ ⟨env',σ,n'⟩:=by
 refine Al.weak (λ_=>none) (λ_ _ h=>by cases h) (λs=>?_) (λi e' h=>⟨e',h,.refl _⟩) b;rcases a s with h|h
 .rw[h];exact .refl _
 .rw[h];exact .any _
def Kb(k:Int)(n:Aa)(l:List Aa):List Aa:=if decide (k>=2)&&decide (k<=9)&&!l.contains n then l++[n] else l
mutual
def Ab.names:Ab->List Aa->List Aa
 | ⟨k,_,n,_,cs,ps⟩,l=>CZ cs (BE ps (Kb k n l))
def BE:List Ab->List Aa->List Aa
 | [],l=>l
 | p::ps,l=>BE ps (p.names l)
def CZ:List (Aa×List Ab)->List Aa->List Aa
 | [],l=>l
 | (_,ps)::cs,l=>CZ cs (BE ps l)
end
theorem Ab.names_eq(p:Ab)(l:List Aa):p.names l=CZ p.cases (BE p.parts (Kb p.kind p.name l)):=by cases p;simp only[Ab.names]
theorem G5(p:Ab)(ps:List Ab)(l:List Aa):BE (p::ps) l=BE ps (p.names l):=by simp only[BE]
theorem Ff(c:Ar)(cs:List Ar)(l:List Aa):CZ (c::cs) l=CZ cs (BE c.2 l):=by obtain⟨k,q⟩:=c;simp only[CZ]
theorem Rn(k:Int)(n:Aa)(l:List Aa):(Kb k n l).length<=l.length+1:=by unfold Kb;split<;>simp
theorem KA:∀(N:Nat) (ps:List Ab),Aw ps<N->∀l,(BE ps l).length<=l.length+Aw ps:=by
 intro N
 induction N with
 | zero=>intro ps h;omega
 | succ N e=>
  have b:∀cs:List Ar,B9 cs<N->∀l,(CZ cs l).length<=l.length+B9 cs:=by
   intro cs
   induction cs with
   | nil=>intro _ l;simp[CZ]
   | cons c cs a=>intro h l;rw[Ay] at h;rw[Ff,Ay];grind
  intro ps
  induction ps with
  | nil=>intro _ l;simp[BE]
  | cons p ps a=>intro h l;rw[Aq] at h;rw[G5,Aq];have j:=a (by omega) (p.names l);rw[p.wt_eq] at *;rw[p.names_eq] at *;have g:=e p.parts (by omega) (Kb p.kind p.name l);have i:=b p.cases (by omega) (BE p.parts (Kb p.kind p.name l));have k:=Rn p.kind p.name l;omega
theorem Yb:∀(N:Nat) (ps:List Ab) (l:List Aa) (v:V),Aw ps<N->Aw ps<=2^24->l.length+Aw ps<=2^25->(v=.nil/\l=[]\/v=.sl (l.map V.s))->
  An π W0 37 [.sl (ps.map Ab.enc),v] [] (.sl ((BE ps l).map V.s)) []:=by
 intro N
 induction N with
 | zero=>intro ps l v h;omega
 | succ N T=>
 intro ps l v hN hb b R;have O:=C7 ps;generalize hS:BE ps l=S;refine Ak (vs:=[.sl (S.map V.s)]) AjM (by simp) (by simp) λn0 K=>?_;clear K;simp only[push_cast,seval,reduceEqDiff];intro k1 k2;refine As ps.length (Inv:=λm L=>∃dn rest n q,ps=dn++rest/\m=rest.length/\BE rest q=S/\q.length+Aw rest<=2^25/\L=⟨[(0,.sl (ps.map Ab.enc)),(1,.sl (q.map V.s)),(5,.i .i64 dn.length)],[],n⟩) ⟨_,?_,[],ps,n0+1+k1+1+k2,l,rfl,rfl,hS,b,rfl⟩ ?_
 .rcases R with⟨rfl,rfl⟩|rfl
  .refine Al.nilS (λs=>?_) (Nat.le_refl _);simp only[get];by_cases j:0=s
   .simp[j]
   .by_cases r:1=s
    .right;simp[j,r]
    .left;simp[j,r]
  .exact Al.refl
 clear hS b R l;rintro m _ ⟨dn,rest,n,l,k,rfl,o,b,rfl⟩;cases rest with
 | nil=>
  rw[BE] at o;subst o;simp only[push_cast,seval,reduceEqDiff,k]
  repeat' (first|(((first|apply Ad|apply Ai|apply Ah)<;>intro _h)<;>(simp only[push_cast,seval,reduceEqDiff,_h];try (have _g:=_h;simp at _g)))|intro _)
  all_goals (first|(refine Af ?_;simp[get]<;>(intros;omega);done)|(refine Ag ?_;simp[push_cast,get];done)|skip)
 | cons p rest=>
  have W:=AW k;have hw:=CC (ps:=ps) (p:=p) (by rw[k];simp);rw[Aq] at b;rw[p.wt_eq] at hw b;rw[G5,p.names_eq] at o;have C:=Asx W0 l p.name (by omega);have e0:l.length+1<=Bf:=by unfold Bf;omega
  have u:l.length<=Bf:=by unfold Bf;omega
  have F:∀y∈List.map V.s l,(cells y).length=1:=by intro y G;obtain⟨x,_,rfl⟩:=List.mem_map.1 G;rfl
  have U:(List.map V.s l).length=l.length:=by simp
  simp only[push_cast,seval,reduceEqDiff,k,Ac p (dn:=dn) (by omega),eq_true e0,eq_true u,eq_true F];intro k3
  repeat' (first|(((first|apply Ad|apply Ai|apply Ah)<;>intro _h)<;>(simp only[push_cast,seval,reduceEqDiff,_h,k,Ac p (dn:=dn) (by omega),eq_true e0,eq_true u,eq_true F];try (have _g:=_h;simp at _g)))|(refine Ae (by exact C) ?_;simp only[push_cast,seval,reduceEqDiff,k,Ac p (dn:=dn) (by omega),eq_true e0,eq_true u,eq_true F])|intro _)
  all_goals
   obtain⟨A,w,D⟩:∃A,Kb p.kind p.name l=A/\A.length<=l.length+1:=⟨_,rfl,Rn _ _ _⟩;rw[w] at o
   first
   | (have g:Kb p.kind p.name l=l++[p.name]:=by unfold Kb;rw[if_pos (by simp[*])]
      refine RF (Al.frz (env':=[(0,.sl (List.map Ab.enc (dn++p::rest))),(1,.sl ((l++[p.name]).map V.s)),(5,.i .i64 dn.length),(6,.ref (n+1+k3,6) 0)]) (by simp[lk]) (λy G=>by simp at G;rcases G with⟨a,_,rfl⟩|rfl<;>rfl) (λs=>?_) (Nat.le_refl _)) ?_
      .simp only[get];by_cases j:0=s
       .simp[j]
       .by_cases r:1=s
        .right;simp[j,r]
        .left;simp[j,r]
      rw[<-g,w])
   | (have g:Kb p.kind p.name l=l:=by unfold Kb;rw[if_neg (by simp[*])]
      refine RF (Al.envD (env':=[(0,.sl (List.map Ab.enc (dn++p::rest))),(1,.sl (l.map V.s)),(5,.i .i64 dn.length),(6,.ref (n+1+k3,6) 0)]) (λs=>?_) (Nat.le_refl _)) ?_
      .simp only[get];by_cases j:0=s
       .simp[j]
       .by_cases r:1=s
        .simp[j,r]
        .by_cases H:5=s
         .simp[j,r,H]
         .by_cases M:6=s
          .simp[j,r,H,M]
          .simp[j,r,H,M]
      rw[show List.map V.s l=List.map V.s A by rw[<-w,g]])
  all_goals clear w
  all_goals
   clear g F U e0 u C;have hp:=T p.parts A (.sl (A.map V.s)) (by omega) (by omega) (by omega) (.inr rfl);have E:=KA _ p.parts (Nat.lt_succ_self _) A;generalize BE p.parts A=l3 at hp o E;have Z:=Cc p.cases
  all_goals simp only[push_cast,seval,reduceEqDiff]
  repeat' (first|(((first|apply Ad|apply Ai|apply Ah)<;>intro _h)<;>(simp only[push_cast,seval,reduceEqDiff,_h,k,Ac p (dn:=dn) (by omega)];try (have _g:=_h;simp at _g)))|(refine Ae (by exact hp) ?_;simp only[push_cast,seval,reduceEqDiff,k,Ac p (dn:=dn) (by omega)])|intro _)
  all_goals
   refine As p.cases.length (Inv:=λm L=>∃B z n' q,p.cases=B++z/\m=z.length/\BE rest (CZ z q)=S/\q.length+B9 z+Aw rest<=2^25/\L=⟨[(0,.sl (ps.map Ab.enc)),(1,.sl (q.map V.s)),(5,.i .i64 dn.length),(6,.ref (n+1+k3,6) 0),(7,.i .i64 B.length)],[((n+1+k3,6),.box p.v)],n'⟩) ⟨_,Al.refl,[],p.cases,_,l3,rfl,rfl,o,by omega,by rw[k];rfl⟩ ?_;clear o hp E D b;rintro m _ ⟨B,z,n',q,e,rfl,o,b,rfl⟩;unfold Ab.v;cases z with
   | nil=>rw[CZ] at o;rw[Gs] at b;simp only[push_cast,seval,reduceEqDiff,k,Ac p (dn:=dn) (by omega),e];intros;exact⟨_,_,Nat.lt_succ_self _,Al.drop1 rfl (Nat.le_refl _),dn++[p],rest,_,q,by simp,rfl,o,by omega,rfl⟩
   | cons c z=>
    have ab:=Bj (cs:=p.cases) (c:=c) (by simp[e]);have X:=AW e;rw[Ff] at o;rw[Ay] at b;have J:=T c.2 q (.sl (q.map V.s)) (by omega) (by omega) (by omega) (.inr rfl);have Y:=KA _ c.2 (Nat.lt_succ_self _) q;simp only[push_cast,seval,reduceEqDiff,k,e,Ac c (dn:=B) (by omega)]
    repeat' (first|(((first|apply Ad|apply Ai|apply Ah)<;>intro _h)<;>(simp only[push_cast,seval,reduceEqDiff,_h,k,e,Ac c (dn:=B) (by omega)];try (have _g:=_h;simp at _g)))|(refine Ae (by exact J) ?_;simp only[push_cast,seval,reduceEqDiff,k,e,Ac c (dn:=B) (by omega)])|intro _)
    exact⟨_,_,Nat.lt_succ_self _,Al.refl,B++[c],z,_,_,by simp[e],rfl,o,by omega,rfl⟩
end Go.Ir
end
