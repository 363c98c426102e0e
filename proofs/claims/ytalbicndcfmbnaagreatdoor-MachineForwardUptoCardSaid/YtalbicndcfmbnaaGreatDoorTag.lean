/- Parts of the proof: the calculus of walks, contracts of functions, plain laws; each theorem states its conditions. -/
import Derived.Test.YtalbicndcfmbnaaGreatDoorTaf
set_option linter.all false
open Nat (reduceEqDiff)
section
set_option maxRecDepth 100000
namespace Go.Ir
open Go.Proofs
def Aie:IC:=rS [m1 3 0,bC 4 .eql 3 (.i .u8 32),m1 5 4,Br 6 5 0,gF 7 5 (.bin .eql (.t 6) (.c (.i .u8 9))),pO 8 5 7,m1 9 8,Br 10 9 0,gF 11 9 (.bin .eql (.t 10) (.c (.i .u8 10))),pO 12 9 11,m1 2 12] [2] .ret
def AhJ:IC:=rS [mC 2 (.b false)] [0] Aie
def AfZ:Cs:=⟨13,AhJ,[.t 2]⟩
theorem Ait:Bz Tryz.prog 109 AfZ=true:=by kernel_rfl
def AiK:IC:=rS [mC 2 (.b false)] [0] (rS [m1 3 0,bC 4 .geq 3 (.i .u8 97),m1 5 4,By 6 5 0,gT 7 5 (.bin .leq (.t 6) (.c (.i .u8 122))),pA 8 5 7,m1 2 8] [2] .ret)
def Af6:Cs:=⟨9,AiK,[.t 2]⟩
theorem Alc:Bz Tryz.prog 284 Af6=true:=by kernel_rfl
def Al8:IC:=rS [m1 3 0,q1 4 284 3,m1 5 4,Br 6 5 0,gF 7 5 (.bin .geq (.t 6) (.c (.i .u8 65))),Br 8 5 7,By 9 8 0,gT 10 8 (.bin .leq (.t 9) (.c (.i .u8 90))),gF 11 5 (.pick (.t 8) (.t 10) (.c (.b false))),pO 12 5 11,m1 2 12] [2] .ret
def AlJ:IC:=rS [mC 2 (.b false)] [0] Al8
def AfN:Cs:=⟨13,AlJ,[.t 2]⟩
theorem Akv:Bz Tryz.prog 283 AfN=true:=by kernel_rfl
def AkG:IC:=rS [m1 3 0,q1 4 283 3,m1 5 4,Br 6 5 0,gF 7 5 (.bin .geq (.t 6) (.c (.i .u8 48))),Br 8 5 7,By 9 8 0,gT 10 8 (.bin .leq (.t 9) (.c (.i .u8 57))),gF 11 5 (.pick (.t 8) (.t 10) (.c (.b false))),pO 12 5 11,m1 13 12,Br 14 13 0,gF 15 13 (.bin .eql (.t 14) (.c (.i .u8 95))),pO 16 13 15,m1 17 16,Br 18 17 0,gF 19 17 (.bin .eql (.t 18) (.c (.i .u8 45))),pO 20 17 19,m1 2 20] [2] .ret
def AkO:IC:=rS [mC 2 (.b false)] [0] AkG
def Aed:Cs:=⟨21,AkO,[.t 2]⟩
theorem Ai6:Bz Tryz.prog 223 Aed=true:=by kernel_rfl
def AgY:IC:=rS [m1 3 0,q1 4 223 3,m1 5 4,Br 6 5 0,gF 7 5 (.bin .eql (.t 6) (.c (.i .u8 46))),pO 8 5 7,m1 9 8,Br 10 9 0,gF 11 9 (.bin .eql (.t 10) (.c (.i .u8 61))),pO 12 9 11,m1 2 12] [2] .ret
def Aly:IC:=rS [mC 2 (.b false)] [0] AgY
def Afd:Cs:=⟨13,Aly,[.t 2]⟩
theorem Ai3:Bz Tryz.prog 161 Afd=true:=by kernel_rfl
def Ajo:IC:=sQ (rS [m1 7 5,m1 8 0,nS 9 8,bT 10 .lss 7 9,m1 11 10,By 12 11 0,By 13 11 5,gT 14 11 (.idx (.t 12) (.t 13)),gT 15 11 (.call 161 [.t 14]),pA 16 11 15] [0,1,4,5,16] (cD 16 .skip (.exit 0))) (.block 1 (.seqr [m1 17 5,bZ 18 .add 17 1,m1 5 18] [0,1,4,5]))
def zJ:IC:=rS [m1 23 0,m1 24 1,m1 25 5,o1 26 (.slS (.t 23) (some (.t 24)) (some (.t 25))),m1 27 1,m1 28 5,o1 29 (.build [.i .i64 0,.s [],.i .i64 0,.i .i64 0] [(0,1,ci 9),(1,1,.t 26),(2,1,.t 27),(3,1,.t 28)]),sT 4 29 4] [4] .ret
def Acs:IC:=rS [m1 35 1,m1 36 1,bZ 37 .add 36 1,o1 38 (.build [.i .i64 0,.s [],.i .i64 0,.i .i64 0] [(0,1,ci 2),(1,1,.c (.s [123])),(2,1,.t 35),(3,1,.t 37)]),sT 4 38 4] [4] .ret
def zC:IC:=rS [m1 44 1,m1 45 1,bZ 46 .add 45 1,o1 47 (.build [.i .i64 0,.s [],.i .i64 0,.i .i64 0] [(0,1,ci 3),(1,1,.c (.s [125])),(2,1,.t 44),(3,1,.t 46)]),sT 4 47 4] [4] .ret
def Ab8:IC:=rS [m1 53 1,m1 54 1,bZ 55 .add 54 1,o1 56 (.build [.i .i64 0,.s [],.i .i64 0,.i .i64 0] [(0,1,ci 8),(1,1,.c (.s [44])),(2,1,.t 53),(3,1,.t 55)]),sT 4 56 4] [4] .ret
def AcQ:IC:=rS [m1 40 0,m1 41 1,o1 42 (.idx (.t 40) (.t 41)),bC 43 .eql 42 (.i .u8 125),m1 39 43] [0,1,4,39] (cD 39 zC (rS [m1 49 0,m1 50 1,o1 51 (.idx (.t 49) (.t 50)),bC 52 .eql 51 (.i .u8 44),m1 48 52] [1,4,48] (cD 48 Ab8 nO)))
def AbZ:IC:=sQ (.block 2 (rS [m1 20 5,m1 21 1,bT 22 .gtr 20 21,m1 19 22] [0,1,4,5,19] (cD 19 zJ (rS [m1 31 0,m1 32 1,o1 33 (.idx (.t 31) (.t 32)),bC 34 .eql 33 (.i .u8 123),m1 30 34] [0,1,4,30] (cD 30 Acs AcQ))))) nO
def Akw:IC:=rS [o1 4 (.alloc (.agg [.i .i64 0,.s [],.i .i64 0,.i .i64 0]))] [0,1,4] (rS [m1 6 1,m1 5 6] [0,1,4,5] (sQ (.block 0 (.loop Ajo)) AbZ))
def Af5:Cs:=⟨58,Akw,[.c 4 4 true]⟩
theorem Akl:Bz Tryz.prog 110 Af5=true:=by kernel_rfl
def AjS:IC:=rS [m1 3 0,bC 4 .eql 3 (.i .u8 123),m1 5 4,Br 6 5 0,gF 7 5 (.bin .eql (.t 6) (.c (.i .u8 125))),pO 8 5 7,m1 9 8,Br 10 9 0,gF 11 9 (.bin .eql (.t 10) (.c (.i .u8 60))),pO 12 9 11,m1 13 12,Br 14 13 0,gF 15 13 (.bin .eql (.t 14) (.c (.i .u8 62))),pO 16 13 15,m1 17 16,Br 18 17 0,gF 19 17 (.bin .eql (.t 18) (.c (.i .u8 35))),pO 20 17 19,m1 21 20,Br 22 21 0,gF 23 21 (.bin .eql (.t 22) (.c (.i .u8 92))),pO 24 21 23,m1 2 24] [2] .ret
def AlN:IC:=rS [mC 2 (.b false)] [0] AjS
def Ae5:Cs:=⟨25,AlN,[.t 2]⟩
theorem AkU:Bz Tryz.prog 164 Ae5=true:=by kernel_rfl
def Aa8:IC:=rS [m1 32 0,m1 33 1,o1 34 (.idx (.t 32) (.t 33)),q1 35 164 34,nT 36 35,m1 31 36] [0,1,31] (cD 31 (.seqr [m1 37 1,bZ 38 .add 37 1,m1 1 38] [0,1]) (rS [m1 9 1,m1 4 9] [4] .ret))
def Aio:IC:=.block 1 (.block 2 (rS [m1 11 0,m1 12 1,o1 13 (.idx (.t 11) (.t 12)),bC 14 .eql 13 (.i .u8 92),m1 15 14,By 16 15 1,C8 17 15 .add 16 1,By 18 15 0,gT 19 15 (.lenS (.t 18)),gT 20 15 (.bin .lss (.t 17) (.t 19)),pA 21 15 20,m1 22 21,By 23 22 0,By 24 22 1,C8 25 22 .add 24 1,gT 26 22 (.idx (.t 23) (.t 25)),gT 27 22 (.call 164 [.t 26]),pA 28 22 27,m1 10 28] [0,1,10] (cD 10 nO Aa8)))
def Amm:IC:=rS [mZ 4 0] [0,1] (sQ (.block 0 (.loop (sQ (rS [m1 5 1,m1 6 0,nS 7 6,bT 8 .lss 5 7] [0,1,8] (cD 8 .skip nO)) Aio))) nO)
def AfA:Cs:=⟨40,Amm,[.t 4]⟩
theorem AgN:Bz Tryz.prog 162 AfA=true:=by kernel_rfl
def AbM:IC:=sQ (.block 1 (rS [m1 10 0,m1 11 3,o1 12 (.idx (.t 10) (.t 11)),q1 13 223 12,nT 14 13] [0,3,14] (cD 14 nO .skip))) (.seqr [m1 8 3,bZ 9 .add 8 1,m1 3 9] [0,3])
def Acj:IC:=rS [m1 15 0,nS 16 15,bZ 17 .geq 16 1,m1 18 17,By 19 18 0,gT 20 18 (.lenS (.t 19)),C8 21 18 .leq 20 40,pA 22 18 21,m1 23 22,By 24 23 0,gT 25 23 (.idx (.t 24) (ci 0)),gT 26 23 (.call 284 [.t 25]),pA 27 23 26,m1 2 27] [2] .ret
def AiP:IC:=rS [mC 2 (.b false)] [0] (sQ (rS [mZ 3 0] [0,3] (.block 0 (.loop (sQ (rS [m1 4 3,m1 5 0,nS 6 5,bT 7 .lss 4 6] [0,3,7] (cD 7 .skip (.exit 0))) AbM)))) Acj)
def Ad3:Cs:=⟨28,AiP,[.t 2]⟩
theorem Aki:Bz Tryz.prog 224 Ad3=true:=by kernel_rfl
def Akx:IC:=rS [m1 14 0,m1 15 1,m1 16 7,o1 17 (.slS (.t 14) (some (.t 15)) (some (.t 16))),m1 18 1,m1 19 7,o1 20 (.build [.i .i64 0,.s [],.i .i64 0,.i .i64 0] [(0,1,ci 1),(1,1,.t 17),(2,1,.t 18),(3,1,.t 19)]),sT 6 20 4] [6] .ret
def AbL:IC:=rS [m1 26 1,m1 27 1,bZ 28 .add 27 1,o1 29 (.build [.i .i64 0,.s [],.i .i64 0,.i .i64 0] [(0,1,ci 2),(1,1,.c (.s [123])),(2,1,.t 26),(3,1,.t 28)]),sT 6 29 4] [6] .ret
def yX:IC:=rS [m1 39 1,m1 40 1,bZ 41 .add 40 1,o1 42 (.build [.i .i64 0,.s [],.i .i64 0,.i .i64 0] [(0,1,ci 3),(1,1,.c (.s [125])),(2,1,.t 39),(3,1,.t 41)]),sT 6 42 4] [6] .ret
def AcU:IC:=rS [m1 31 0,m1 32 1,o1 33 (.idx (.t 31) (.t 32)),bC 34 .eql 33 (.i .u8 125),m1 35 34,By 36 35 2,C8 37 35 .gtr 36 0,pA 38 35 37,m1 30 38] [0,1,6,30] (cD 30 yX nO)
def yQ:IC:=sQ (.block 0 (rS [m1 22 0,m1 23 1,o1 24 (.idx (.t 22) (.t 23)),bC 25 .eql 24 (.i .u8 123),m1 21 25] [0,1,2,6,21] (cD 21 AbL AcU))) nO
def AiW:IC:=sQ (rS [m1 8 0,m1 9 1,q2 10 162 8 9,m1 7 10] [0,1,2,6,7] (rS [m1 11 7,m1 12 1,bT 13 .gtr 11 12] [0,1,2,6,7,13] (cD 13 Akx .skip))) yQ
def Aho:IC:=rS [o1 6 (.alloc (.agg [.i .i64 0,.s [],.i .i64 0,.i .i64 0]))] [0,1,2,6] AiW
def Afr:Cs:=⟨55,Aho,[.c 6 4 true]⟩
theorem Aid:Bz Tryz.prog 111 Afr=true:=by kernel_rfl
def Amp:IC:=rS [bZ 44 .eql 39 2,m1 43 44] [0,5,7,9,39,43] (cD 43 (.seqr [m1 45 7,bZ 46 .add 45 1,m1 7 46] [0,5,7,9]) (rS [bZ 48 .eql 39 3,m1 47 48] [0,5,7,9,47] (cD 47 (.seqr [m1 49 7,bZ 50 .sub 49 1,m1 7 50] [0,5,7,9]) .skip)))
def AgU:IC:=rS [m1 51 5,lA 52 9 4,o1 53 (.msl true 220 4 [.t 52]),o1 54 (.app (.t 51) (.t 53) 220 4),m1 5 54] [0,5,7,9] (.seqr [fA 55 9 3,l1 56 55,m1 6 56] [0,5,6,7])
def AiI:IC:=rS [o1 29 (.build [.i .i64 0,.s [],.i .i64 0,.i .i64 0] []),o1 9 (.alloc (.agg [.i .i64 0,.s [],.i .i64 0,.i .i64 0])),sT 9 29 4] [0,5,6,7,8,9] (sQ (rS [m1 30 8] [0,5,6,7,9,30] (cD 30 (.seqr [m1 31 0,m1 32 6,q2 33 110 31 32,sT 9 33 4] [0,5,6,7,9]) (.seqr [m1 34 0,m1 35 6,m1 36 7,q3 37 111 34 35 36,sT 9 37 4] [0,5,6,7,9]))) (sQ (rS [fA 38 9 0,l1 39 38] [0,5,6,7,9,39] (.block 2 (rS [bZ 41 .eql 39 0,m1 40 41] [0,5,6,7,9,39,40] (cD 40 nO Amp)))) AgU))
def AhQ:IC:=sQ (rS [m1 20 8,m1 21 20,By 22 21 0,By 23 21 6,gT 24 21 (.idx (.t 22) (.t 23)),gT 25 21 (.call 109 [.t 24]),pA 26 21 25] [0,5,6,7,8,26] (cD 26 (rS [m1 27 6,bZ 28 .add 27 1,m1 6 28] [0,5,6,7] (.exit 1)) .skip)) AiI
def AlY:IC:=sQ (rS [m1 13 6,m1 14 0,nS 15 14,bT 16 .lss 13 15] [0,5,6,7,16] (cD 16 .skip (.exit 0))) (.block 1 (rS [m1 17 7,bZ 18 .rem 17 2,bZ 19 .eql 18 1,m1 8 19] [0,5,6,7,8] AhQ))
def Alf:IC:=rS [mZ 6 0,mZ 7 0] [0,5,6,7] (sQ (.block 0 (.loop AlY)) (sQ (rS [m1 57 7,bZ 58 .gtr 57 0] [0,5,58] (cD 58 nO .skip)) (rS [m1 61 5,m1 2 61,mZ 3 0,mZ 4 0] [2,3,4] .ret)))
def AqJ:IC:=rS [mC 2 .nil,mZ 3 0,mZ 4 0] [0] (sQ (rS [m1 10 0,nS 11 10,bZ 12 .gtr 11 4000] [0,12] (cD 12 nO .skip)) (rS [mC 5 .nil] [0,5] Alf))
def AnM:Cs:=⟨62,AqJ,[.t 2,.t 3,.t 4]⟩
theorem Ap2:Bz Tryz.prog 73 AnM=true:=by kernel_rfl
def Ag3:IC:=sQ (.ops [m1 9 0,nC 10 9,fA 11 10 1,l1 12 11,m1 13 0,nC 14 13,fA 15 14 1,l1 16 15,o1 17 (.build [.i .i64 0,.s [],.i .i64 0,.i .i64 0] [(2,1,.t 12),(3,1,.t 16)]),sT 2 17 4] [2] [[0,1],[1,2],[2,3],[4,5],[5,6],[6,7],[3,8],[7,8],[3,9],[7,9],[8,9]]) .ret
def Ahj:IC:=sQ (rS [m1 3 0,nC 4 3,fA 5 4 0,l1 6 5,nL 7 6,bZ 8 .eql 7 0] [0,2,8] (cD 8 Ag3 .skip)) (rS [m1 18 0,nC 19 18,fA 20 19 0,l1 21 20,o1 22 (.iaddr (.t 21) (ci 0) 220 4),lA 23 22 4,sT 2 23 4] [2] .ret)
def AkX:IC:=rS [o1 2 (.alloc (.agg [.i .i64 0,.s [],.i .i64 0,.i .i64 0]))] [0,2] Ahj
def AeP:Cs:=⟨24,AkX,[.c 2 4 true]⟩
theorem AiY:Bz Tryz.prog 112 AeP=true:=by kernel_rfl
def AcJ:IC:=rS [m1 19 0,m1 20 0,nC 21 20,fA 22 21 0,l1 23 22,o1 24 (.slL (.t 23) (some (ci 1)) none 4),nC 25 19,fA 26 25 0,sT 26 24 1] [5] (rS [fA 27 5 1,l1 28 27,m1 4 28] [4] .ret)
def AjU:IC:=sQ (rS [fA 8 5 0,l1 9 8,m1 10 1,bT 11 .neq 9 10] [0,5,11] (cD 11 nO .skip)) (sQ (rS [m1 14 0,nC 15 14,fA 16 15 4,l1 17 16,bZ 18 .neq 17 0] [0,5,18] (cD 18 nO .skip)) AcJ)
def Ajk:IC:=rS [mC 4 (.s [])] [0,1] (rS [m1 6 0,o1 7 (.calls 112 [.t 6]),o1 5 (.alloc (.agg [.i .i64 0,.s [],.i .i64 0,.i .i64 0])),sT 5 7 4] [0,1,5] AjU)
def Afx:Cs:=⟨29,Ajk,[.t 4]⟩
theorem AhU:Bz Tryz.prog 114 Afx=true:=by kernel_rfl
def zL:IC:=sQ (.block 1 (sQ (rS [m1 13 0,m1 14 6,o1 15 (.idx (.t 13) (.t 14)),bC 16 .eql 15 (.i .u8 92),m1 17 16,By 18 17 6,C8 19 17 .add 18 1,By 20 17 0,gT 21 17 (.lenS (.t 20)),gT 22 17 (.bin .lss (.t 19) (.t 21)),pA 23 17 22,m1 24 23,By 25 24 0,By 26 24 6,C8 27 24 .add 26 1,gT 28 24 (.idx (.t 25) (.t 27)),gT 29 24 (.call 164 [.t 28]),pA 30 24 29] [0,5,6,30] (cD 30 nO (rS [m1 33 0,m1 34 6,o1 35 (.idx (.t 33) (.t 34)),q1 36 164 35] [0,5,6,36] (cD 36 nO .skip)))) (.seqr [m1 38 5,m1 39 0,m1 40 6,o1 41 (.idx (.t 39) (.t 40)),o1 42 (.msl true 5 1 [.t 41]),o1 43 (.app (.t 38) (.t 42) 5 1),m1 5 43] [0,5,6]))) (.seqr [m1 11 6,bZ 12 .add 11 1,m1 6 12] [0,5,6])
def AhX:IC:=rS [mC 5 .nil] [0,5] (sQ (rS [mZ 6 0] [0,5,6] (.block 0 (.loop (sQ (rS [m1 7 6,m1 8 0,nS 9 8,bT 10 .lss 7 9] [0,5,6,10] (cD 10 .skip (.exit 0))) zL)))) (rS [m1 44 5,o1 45 (.btos (.t 44)),m1 2 45,mZ 3 0,mZ 4 0] [2,3,4] .ret))
def Aik:IC:=rS [mC 2 (.s []),mZ 3 0,mZ 4 0] [0] AhX
def AeU:Cs:=⟨46,Aik,[.t 2,.t 3,.t 4]⟩
theorem Aj2:Bz Tryz.prog 113 AeU=true:=by kernel_rfl
def AkC:IC:=rS [m1 4 1,bZ 5 .gtr 4 8] [0,5] (cD 5 nO .skip)
def AeO:Cs:=⟨8,AkC,[]⟩
theorem Agr:Bz Tryz.prog 115 AeO=true:=by kernel_rfl
def Ahc:IC:=sQ (.block 1 (rS [m1 12 0,m1 13 5,iA 14 12 13 9 1,l1 15 14,m1 16 1,bT 17 .eql 15 16] [0,1,5,17] (cD 17 (rS [mC 4 (.b true)] [4] .ret) .skip))) (.seqr [m1 10 5,bZ 11 .add 10 1,m1 5 11] [0,1,5])
def Aq3:IC:=sQ (rS [mZ 5 0] [0,1,5] (.block 0 (.loop (sQ (rS [m1 6 5,m1 7 0,nL 8 7,bT 9 .lss 6 8] [0,1,5,9] (cD 9 .skip (.exit 0))) Ahc)))) (rS [mC 4 (.b false)] [4] .ret)
def AqC:IC:=rS [mC 4 (.b false)] [0,1] Aq3
def AmL:Cs:=⟨18,AqC,[.t 4]⟩
theorem AqW:Bz Tryz.prog 21 AmL=true:=by kernel_rfl
def AkD:IC:=sQ (rS [m1 5 0,o1 6 (.calls 112 [.t 5]),o1 7 (.fld (.t 6) 0 1 false),bZ 8 .neq 7 9,m1 9 8,Br 10 9 1,gF 11 9 (.not (.t 10)),pO 12 9 11] [0,12] (cD 12 nO .skip)) (rS [m1 15 0,o1 16 (.calls 114 [.t 15,ci 9]),m1 4 16] [4] .ret)
def AkR:IC:=rS [mC 4 (.s [])] [0,1] AkD
def Ae7:Cs:=⟨17,AkR,[.t 4]⟩
theorem Aju:Bz Tryz.prog 225 Ae7=true:=by kernel_rfl
def AcR:IC:=.seqr [m1 32 0,m1 33 0,nC 34 33,fA 35 34 2,l1 36 35,m1 37 3,o1 38 (.msl true 9 1 [.t 37]),o1 39 (.app (.t 36) (.t 38) 9 1),nC 40 32,fA 41 40 2,sT 41 39 1] [0,3]
def Ahz:IC:=sQ (rS [m1 7 0,o1 8 (.calls 112 [.t 7]),o1 9 (.fld (.t 8) 0 1 false),bZ 10 .eql 9 9,m1 11 10,By 12 11 3,gT 13 11 (.call 224 [.t 12]),pA 14 11 13,m1 15 14,By 16 15 0,gT 17 15 (.nilck (.t 16)),Dv 18 15 17 2,Db 19 15 18,By 20 15 3,gT 21 15 (.callr 21 [.t 19,.t 20]),gT 22 15 (.not (.t 21)),pA 23 15 22] [0,3,23] (cD 23 (sQ (rS [m1 24 0,nC 25 24,fA 26 25 2,l1 27 26,nL 28 27,bZ 29 .geq 28 20] [0,3,29] (cD 29 nO .skip)) AcR) nO)) (rS [m1 42 0,m1 43 3,q1 44 224 43,o1 45 (.calls 225 [.t 42,.t 44]),m1 2 45] [2] .ret)
def AgH:IC:=rS [mC 2 (.s [])] [0] (rS [m1 4 0,o1 5 (.calls 112 [.t 4]),o1 6 (.fld (.t 5) 1 1 false),m1 3 6] [0,3] Ahz)
def AdV:Cs:=⟨46,AgH,[.t 2]⟩
theorem Ak7:Bz Tryz.prog 165 AdV=true:=by kernel_rfl
def yM:IC:=sQ (.block 1 (rS [m1 12 3,m1 13 4,iA 14 12 13 9 1,l1 15 14,m1 16 0,bT 17 .eql 15 16] [0,3,4,17] (cD 17 (rS [m1 18 4,o1 19 (.bin .add (ci 3) (.t 18)),m1 2 19] [2] .ret) .skip))) (.seqr [m1 10 4,bZ 11 .add 10 1,m1 4 11] [0,3,4])
def AlE:IC:=rS [o1 5 (.msl true 9 1 [.c (.s [110,117,109,98,101,114]),.c (.s [117,110,105,116]),.c (.s [100,97,116,101]),.c (.s [108,105,115,116]),.c (.s [112,108,117,114,97,108]),.c (.s [111,114,100,105,110,97,108]),.c (.s [115,101,108,101,99,116])]),m1 3 5] [0,3] (sQ (rS [mZ 4 0] [0,3,4] (.block 0 (.loop (sQ (rS [m1 6 4,m1 7 3,nL 8 7,bT 9 .lss 6 8] [0,3,4,9] (cD 9 .skip nO)) yM)))) nO)
def Amt:IC:=rS [mZ 2 0] [0] AlE
def Afn:Cs:=⟨20,Amt,[.t 2]⟩
theorem AkQ:Bz Tryz.prog 226 Afn=true:=by kernel_rfl
def Ajr:IC:=rS [mC 2 (.b false)] [0] (rS [m1 3 0,bZ 4 .eql 3 7,m1 5 4,Br 6 5 0,Dg 7 5 .eql 6 8,pO 8 5 7,m1 9 8,Br 10 9 0,Dg 11 9 .eql 10 9,pO 12 9 11,m1 2 12] [2] .ret)
def Adt:Cs:=⟨13,Ajr,[.t 2]⟩
theorem Ai8:Bz Tryz.prog 119 Adt=true:=by kernel_rfl
def Agk:IC:=rS [mC 2 (.b false)] [0] (rS [m1 3 0,bZ 4 .eql 3 7,m1 5 4,Br 6 5 0,Dg 7 5 .eql 6 8,pO 8 5 7,m1 2 8] [2] .ret)
def Afk:Cs:=⟨9,Agk,[.t 2]⟩
theorem Ahg:Bz Tryz.prog 229 Afk=true:=by kernel_rfl
def All:IC:=rS [m1 3 0,bC 4 .eql 3 (.s [122,101,114,111]),m1 5 4,Br 6 5 0,gF 7 5 (.bin .eql (.t 6) (.c (.s [111,110,101]))),pO 8 5 7,m1 9 8,Br 10 9 0,gF 11 9 (.bin .eql (.t 10) (.c (.s [116,119,111]))),pO 12 9 11,m1 13 12,Br 14 13 0,gF 15 13 (.bin .eql (.t 14) (.c (.s [102,101,119]))),pO 16 13 15,m1 17 16,Br 18 17 0,gF 19 17 (.bin .eql (.t 18) (.c (.s [109,97,110,121]))),pO 20 17 19,m1 21 20,Br 22 21 0,gF 23 21 (.bin .eql (.t 22) (.c (.s [111,116,104,101,114]))),pO 24 21 23,m1 2 24] [2] .ret
def Al4:IC:=rS [mC 2 (.b false)] [0] All
def Afu:Cs:=⟨25,Al4,[.t 2]⟩
theorem Ahq:Bz Tryz.prog 316 Afu=true:=by kernel_rfl
def Abb:IC:=sQ (.block 1 (rS [m1 10 0,m1 11 3,o1 12 (.idx (.t 10) (.t 11)),bC 13 .lss 12 (.i .u8 48),m1 14 13,Br 15 14 0,Br 16 14 3,gF 17 14 (.idx (.t 15) (.t 16)),gF 18 14 (.bin .gtr (.t 17) (.c (.i .u8 57))),pO 19 14 18] [0,3,19] (cD 19 nO .skip))) (.seqr [m1 8 3,bZ 9 .add 8 1,m1 3 9] [0,3])
def Ahp:IC:=sQ (rS [mZ 3 0] [0,3] (.block 0 (.loop (sQ (rS [m1 4 3,m1 5 0,nS 6 5,bT 7 .lss 4 6] [0,3,7] (cD 7 .skip (.exit 0))) Abb)))) (rS [mC 2 (.b true)] [2] .ret)
def AjR:IC:=rS [mC 2 (.b false)] [0] Ahp
def Aeo:Cs:=⟨20,AjR,[.t 2]⟩
theorem Ago:Bz Tryz.prog 347 Aeo=true:=by kernel_rfl
def yP:IC:=sQ (rS [m1 17 5,m1 18 0,nS 19 18,bT 20 .lss 17 19,m1 21 20,By 22 21 0,By 23 21 5,gT 24 21 (.idx (.t 22) (.t 23)),gT 25 21 (.bin .neq (.t 24) (.c (.i .u8 46))),pA 26 21 25] [0,2,4,5,26] (cD 26 .skip (.exit 0))) (.block 1 (.seqr [m1 27 5,bZ 28 .add 27 1,m1 5 28] [0,2,4,5]))
def zM:IC:=sQ (rS [fA 47 4 1,l1 48 47,fA 49 4 2,l1 50 49,bT 51 .add 48 50,q1 52 347 51,nT 53 52,m1 54 53,Du 55 54 4 1,CM 56 54 55,gF 57 54 (.lenS (.t 56)),Dg 58 54 .lss 57 1,pO 59 54 58,m1 60 59,Du 61 60 4 1,CM 62 60 61,gF 63 60 (.lenS (.t 62)),Dg 64 60 .gtr 63 15,pO 65 60 64,m1 66 65,Du 67 66 4 1,CM 68 66 67,gF 69 66 (.lenS (.t 68)),Dg 70 66 .gtr 69 1,Br 71 66 70,Dv 72 71 4 1,Db 73 71 72,gT 74 71 (.idx (.t 73) (ci 0)),gT 75 71 (.bin .eql (.t 74) (.c (.i .u8 48))),gF 76 66 (.pick (.t 71) (.t 75) (.c (.b false))),pO 77 66 76,m1 78 77,Du 79 78 4 2,CM 80 78 79,gF 81 78 (.lenS (.t 80)),Dg 82 78 .gtr 81 6,pO 83 78 82,m1 84 83,Du 85 84 4 0,CM 86 84 85,Br 87 84 86,Dv 88 87 4 1,Db 89 87 88,Dv 90 87 4 2,Db 91 87 90,gT 92 87 (.bin .add (.t 89) (.t 91)),gT 93 87 (.call 348 [.t 92]),gF 94 84 (.pick (.t 87) (.t 93) (.c (.b false))),pO 95 84 94] [2,4,95] (cD 95 nO .skip)) (rS [lA 97 4 3,sT 2 97 3,mC 3 (.b true)] [2,3] .ret)
def Adh:IC:=rS [m1 29 0,m1 30 5,o1 31 (.slS (.t 29) none (some (.t 30))),fA 32 4 1,sT 32 31 1] [0,2,4,5] (sQ (rS [m1 33 5,m1 34 0,nS 35 34,bT 36 .lss 33 35] [0,2,4,5,36] (cD 36 nO .skip)) zM)
def Al3:IC:=sQ (rS [m1 6 0,nS 7 6,bZ 8 .gtr 7 0,m1 9 8,By 10 9 0,gT 11 9 (.idx (.t 10) (ci 0)),gT 12 9 (.bin .eql (.t 11) (.c (.i .u8 45))),pA 13 9 12] [0,2,4,13] (cD 13 nO .skip)) (rS [mZ 5 0] [0,2,4,5] (sQ (.block 0 (.loop yP)) Adh))
def AiX:IC:=rS [o1 2 (.alloc (.agg [.b false,.s [],.s []])),mC 3 (.b false)] [0,2] (rS [o1 4 (.alloc (.agg [.b false,.s [],.s []]))] [0,2,4] Al3)
def Ae0:Cs:=⟨98,AiX,[.c 2 3 true,.t 3]⟩
theorem Ai2:Bz Tryz.prog 336 Ae0=true:=by kernel_rfl
def Ak9:IC:=rS [m1 6 0,q1 7 336 6,m1 5 7,xT 8 5 0,xT 9 5 1,o1 3 (.alloc (.agg [.b false,.s [],.s []])),sT 3 8 3,m1 4 9] [4] (rS [m1 10 4,m1 2 10] [2] .ret)
def AkB:IC:=rS [mC 2 (.b false)] [0] Ak9
def AfY:Cs:=⟨11,AkB,[.t 2]⟩
theorem AlA:Bz Tryz.prog 317 AfY=true:=by kernel_rfl
def Aih:IC:=rS [m1 9 1,q1 10 316 9,m1 11 10,Br 12 11 1,gF 13 11 (.lenS (.t 12)),Dg 14 11 .gtr 13 1,Br 15 11 14,By 16 15 1,gT 17 15 (.idx (.t 16) (ci 0)),gT 18 15 (.bin .eql (.t 17) (.c (.i .u8 61))),gF 19 11 (.pick (.t 15) (.t 18) (.c (.b false))),Br 20 11 19,By 21 20 1,gT 22 20 (.slS (.t 21) (some (ci 1)) none),gT 23 20 (.call 317 [.t 22]),gF 24 11 (.pick (.t 20) (.t 23) (.c (.b false))),pO 25 11 24,m1 4 25] [4] .ret
def Ah4:IC:=rS [mC 4 (.b false)] [0,1] (sQ (rS [m1 5 0,bZ 6 .eql 5 9] [1,6] (cD 6 nO .skip)) Aih)
def Agc:Cs:=⟨26,Ah4,[.t 4]⟩
theorem AhP:Bz Tryz.prog 285 Agc=true:=by kernel_rfl
def AcX:IC:=sQ (rS [m1 42 8,nL 43 42,bZ 44 .geq 43 20] [0,1,2,3,8,9,44] (cD 44 nO .skip)) (rS [m1 47 8,fA 48 9 1,l1 49 48,o1 50 (.callr 21 [.t 47,.t 49])] [0,1,2,3,8,9,50] (cD 50 nO .skip))
def zN:IC:=.seqr [m1 75 1,m1 76 1,nC 77 76,fA 78 77 4,l1 79 78,m1 80 10,m1 81 11,o1 82 (.build [.s [],.nil] [(0,1,.t 80),(1,1,.t 81)]),o1 83 (.msl true 118 2 [.t 82]),o1 84 (.app (.t 79) (.t 83) 118 2),nC 85 75,fA 86 85 4,sT 86 84 1] [0,1,2,3,8]
def Aco:IC:=rS [m1 68 0,m1 69 2,bZ 70 .add 69 1,m1 71 3,o1 72 (.calls 74 [.t 68,.t 70,.t 71]),m1 11 72] [0,1,2,3,8,10,11] (rS [m1 73 0,o1 74 (.calls 114 [.t 73,ci 3])] [0,1,2,3,8,10,11] zN)
def Add:IC:=rS [m1 62 8,m1 63 10,o1 64 (.msl true 9 1 [.t 63]),o1 65 (.app (.t 62) (.t 64) 9 1),m1 8 65] [0,1,2,3,8,10] (rS [m1 66 0,o1 67 (.calls 114 [.t 66,ci 2])] [0,1,2,3,8,10] Aco)
def AcK:IC:=sQ (.ops [m1 53 0,m1 54 1,nC 55 54,fA 56 55 0,l1 57 56,fA 58 9 1,l1 59 58,q2 60 285 57 59,o1 61 (.calls 225 [.t 53,.t 60]),m1 10 61] [0,1,2,3,8,10] [[1,2],[2,3],[3,4],[5,6],[4,7],[6,7],[0,8],[4,7,8],[6,7,8],[7,8],[8,9]]) Add
def Acq:IC:=sQ (sQ (.ops [fA 30 9 0,l1 31 30,bZ 32 .eql 31 9,m1 33 32,By 34 33 1,gT 35 33 (.nilck (.t 34)),Dv 36 33 35 0,Db 37 33 36,Dv 38 33 9 1,Db 39 33 38,gT 40 33 (.call 285 [.t 37,.t 39]),pA 41 33 40] [0,1,2,3,8,9,41] [[0,1],[1,2],[2,3],[3,4],[3,5],[4,5],[3,6],[5,6],[3,7],[6,7],[3,8],[3,9],[8,9],[3,10],[7,10],[9,10],[3,11],[10,11]]) (cD 41 AcX nO)) AcK
def Agi:IC:=.block 1 (rS [m1 28 0,o1 29 (.calls 112 [.t 28]),o1 9 (.alloc (.agg [.i .i64 0,.s [],.i .i64 0,.i .i64 0])),sT 9 29 4] [0,1,2,3,8,9] Acq)
def AiH:IC:=sQ (rS [m1 12 0,nC 13 12,fA 14 13 4,l1 15 14,bZ 16 .eql 15 0,m1 17 16,By 18 17 8,gT 19 17 (.lenL (.t 18)),C8 20 17 .eql 19 0,By 21 17 20,Br 22 21 0,gF 23 21 (.calls 112 [.t 22]),gF 24 21 (.fld (.t 23) 0 1 false),Dg 25 21 .neq 24 3,gT 26 17 (.pick (.t 21) (.c (.b true)) (.t 25)),pA 27 17 26] [0,1,2,3,8,27] (cD 27 .skip (.exit 0))) Agi
def Acm:IC:=rS [m1 87 0,nC 88 87,fA 89 88 4,l1 90 89,bZ 91 .eql 90 0,m1 92 91,By 93 92 8,gT 94 92 (.callr 21 [.t 93,.c (.s [111,116,104,101,114])]),gT 95 92 (.not (.t 94)),pA 96 92 95] [0,96] (cD 96 nO .skip)
def Amd:IC:=rS [mC 8 .nil] [0,1,2,3,8] (sQ (.block 0 (.loop AiH)) Acm)
def Agb:Cs:=⟨99,Amd,[]⟩
theorem AlP:Bz Tryz.prog 228 Agb=true:=by kernel_rfl
def Acg:IC:=.seqr [m1 62 0,m1 63 1,m1 64 2,m1 65 3,m1 66 65,Br 67 66 1,gF 68 66 (.nilck (.t 67)),Du 69 66 68 0,CM 70 66 69,gF 71 66 (.call 229 [.t 70]),pO 72 66 71,o1 73 (.calls 228 [.t 62,.t 63,.t 64,.t 72])] []
def Aav:IC:=rS [bZ 88 .eql 61 5,m1 87 88] [0,1,2,3,8,61,87] (cD 87 nO (sQ (rS [bZ 97 .eql 61 4,m1 96 97] [0,1,2,3,8,61,96] (cD 96 nO (.seqr [bZ 98 .eql 61 6,m1 96 98] [0,1,2,3,8,96]))) (cD 96 nO Acg)))
def Adi:IC:=rS [m1 55 0,o1 56 (.calls 112 [.t 55]),o1 57 (.fld (.t 56) 1 1 false),m1 8 57] [0,1,2,3,8] (rS [m1 58 1,nC 59 58,fA 60 59 0,l1 61 60] [0,1,2,3,8,61] (.block 0 (rS [bZ 75 .eql 61 3,m1 74 75] [0,1,2,3,8,61,74] (cD 74 nO Aav))))
def Ab0:IC:=sQ (rS [m1 42 1,nC 43 42,fA 44 43 0,l1 45 44,bZ 46 .eql 45 3,m1 47 46,By 48 47 0,gT 49 47 (.calls 112 [.t 48]),gT 50 47 (.fld (.t 49) 0 1 false),C8 51 47 .neq 50 8,pA 52 47 51] [0,1,2,3,52] (cD 52 nO .skip)) (rS [m1 53 0,o1 54 (.calls 114 [.t 53,ci 8])] [0,1,2,3] Adi)
def AgV:IC:=rS [m1 30 0,m1 31 1,nC 32 31,fA 33 32 0,l1 34 33,bZ 35 .neq 34 0,o1 36 (.calls 225 [.t 30,.t 35])] [0,1,2,3] (sQ (rS [m1 37 0,nC 38 37,fA 39 38 4,l1 40 39,bZ 41 .neq 40 0] [0,1,2,3,41] (cD 41 nO .skip)) Ab0)
def AgR:IC:=sQ (rS [m1 16 0,o1 17 (.calls 112 [.t 16]),o1 18 (.fld (.t 17) 0 1 false),bZ 19 .eql 18 9,m1 20 19,By 21 20 1,gT 22 20 (.nilck (.t 21)),Dv 23 20 22 0,Db 24 20 23,gT 25 20 (.call 119 [.t 24]),pA 26 20 25] [0,1,2,3,26] (cD 26 (.seqr [m1 27 0,m1 28 2,o1 29 (.calls 115 [.t 27,.t 28])] [0,1,2,3]) nO)) AgV
def Aiq:IC:=rS [m1 9 1,m1 10 0,o1 11 (.calls 112 [.t 10]),o1 12 (.fld (.t 11) 1 1 false),q1 13 226 12,nC 14 9,fA 15 14 0,sT 15 13 1] [0,1,2,3] AgR
def AdS:Cs:=⟨106,Aiq,[]⟩
theorem Akd:Bz Tryz.prog 166 AdS=true:=by kernel_rfl
def yR:IC:=rS [m1 24 0,o1 25 (.calls 114 [.t 24,ci 8])] [0,1,2,6,7] (.seqr [m1 26 0,m1 27 1,m1 28 2,o1 29 (.calls 166 [.t 26,.t 7,.t 27,.t 28])] [0,6,7])
def Aiz:IC:=sQ (rS [m1 13 0,nC 14 13,fA 15 14 4,l1 16 15,bZ 17 .eql 16 0,m1 18 17,By 19 18 0,gT 20 18 (.calls 112 [.t 19]),gT 21 18 (.fld (.t 20) 0 1 false),C8 22 18 .eql 21 8,pA 23 18 22] [0,1,2,6,7,23] (cD 23 yR nO)) (rS [m1 30 0,o1 31 (.calls 114 [.t 30,ci 3])] [6,7] (rS [lA 32 7 6,sT 6 32 6] [6] .ret))
def AjV:IC:=rS [m1 10 0,o1 11 (.calls 165 [.t 10]),o1 12 (.build [.i .i64 0,.s [],.s [],.s [],.nil,.nil] [(0,1,ci 2),(2,1,.t 11)]),o1 7 (.alloc (.agg [.i .i64 0,.s [],.s [],.s [],.nil,.nil])),sT 7 12 6] [0,1,2,6,7] Aiz
def Aj1:IC:=rS [o1 6 (.alloc (.agg [.i .i64 0,.s [],.s [],.s [],.nil,.nil]))] [0,1,2,6] (rS [m1 8 0,o1 9 (.calls 114 [.t 8,ci 2])] [0,1,2,6] AjV)
def AeX:Cs:=⟨33,Aj1,[.c 6 6 true]⟩
theorem AlK:Bz Tryz.prog 116 AeX=true:=by kernel_rfl
def AhL:IC:=.seqr [m1 34 7,m1 35 9,o1 36 (.build [.i .i64 0,.s [],.s [],.s [],.nil,.nil] [(0,1,ci 1),(1,1,.t 35)]),o1 37 (.msl true 116 6 [.t 36]),o1 38 (.app (.t 34) (.t 37) 116 6),m1 7 38] [0,1,2,7]
def Ak3:IC:=rS [m1 26 0,fA 27 8 0,l1 28 27,o1 29 (.calls 114 [.t 26,.t 28]),q1 30 113 29,m1 25 30,xT 31 25 0,xT 32 25 1,xT 33 25 2,m1 9 31,m1 10 32,m1 11 33] [0,1,2,7,9] AhL
def AhW:IC:=.seqr [m1 111 7,m1 112 0,m1 113 1,m1 114 2,o1 115 (.calls 116 [.t 112,.t 113,.t 114]),o1 116 (.msl true 116 6 [.t 115]),o1 117 (.app (.t 111) (.t 116) 116 6),m1 7 117] [0,1,2,7]
def Agx:IC:=rS [fA 70 8 0,l1 71 70,bZ 72 .eql 71 5,m1 69 72] [0,1,2,7,8,69] (cD 69 nO (rS [fA 108 8 0,l1 109 108,bZ 110 .eql 109 2,m1 107 110] [0,1,2,7,107] (cD 107 AhW (rS [m1 20 7,m1 6 20] [6] .ret))))
def Ajy:IC:=rS [fA 40 8 0,l1 41 40,bZ 42 .eql 41 4,m1 43 42,By 44 43 2,pA 45 43 44,m1 39 45] [0,1,2,7,8,39] (cD 39 nO (rS [fA 55 8 0,l1 56 55,bZ 57 .eql 56 7,m1 54 57] [0,1,2,7,8,54] (cD 54 nO Agx)))
def AiM:IC:=.block 1 (rS [m1 18 0,o1 19 (.calls 112 [.t 18]),o1 8 (.alloc (.agg [.i .i64 0,.s [],.i .i64 0,.i .i64 0])),sT 8 19 4] [0,1,2,7,8] (.block 2 (rS [fA 22 8 0,l1 23 22,bZ 24 .eql 23 1,m1 21 24] [0,1,2,7,8,21] (cD 21 Ak3 Ajy))))
def Asn:IC:=rS [mC 7 .nil] [0,1,2,7] (sQ (.block 0 (.loop (sQ (rS [m1 13 0,nC 14 13,fA 15 14 4,l1 16 15,bZ 17 .eql 16 0] [0,1,2,7,17] (cD 17 .skip nO)) AiM))) nO)
def Aos:IC:=rS [mC 6 .nil] [0,1,2] Asn
def AoQ:Cs:=⟨118,Aos,[.t 6]⟩
theorem An2:Bz Tryz.prog 74 AoQ=true:=by kernel_rfl
def AbQ:IC:=sQ (.block 1 (sQ (rS [m1 11 0,m1 12 4,o1 13 (.idx (.t 11) (.t 12)),q1 14 164 13] [0,3,4,14] (cD 14 nO .skip)) (.seqr [m1 18 3,m1 19 0,m1 20 4,o1 21 (.idx (.t 19) (.t 20)),o1 22 (.msl true 5 1 [.t 21]),o1 23 (.app (.t 18) (.t 22) 5 1),m1 3 23] [0,3,4]))) (.seqr [m1 9 4,bZ 10 .add 9 1,m1 4 10] [0,3,4])
def AhN:IC:=sQ (rS [mZ 4 0] [0,3,4] (.block 0 (.loop (sQ (rS [m1 5 4,m1 6 0,nS 7 6,bT 8 .lss 5 7] [0,3,4,8] (cD 8 .skip (.exit 0))) AbQ)))) (rS [m1 24 3,o1 25 (.btos (.t 24)),m1 2 25] [2] .ret)
def Alk:IC:=rS [mC 2 (.s [])] [0] (rS [mC 3 .nil] [0,3] AhN)
def Ado:Cs:=⟨26,Alk,[.t 2]⟩
theorem Ah2:Bz Tryz.prog 118 Ado=true:=by kernel_rfl
def AgQ:IC:=sQ (.block 4 (.ops [m1 128 5,m1 129 1,fA 130 8 4,l1 131 130,m1 132 9,iA 133 131 132 118 2,fA 134 133 0,l1 135 134,bT 136 .add 129 135,m1 137 1,bT 138 .add 136 137,bC 139 .add 138 (.s [123]),fA 140 8 4,l1 141 140,m1 142 9,iA 143 141 142 118 2,fA 144 143 1,l1 145 144,m1 146 1,o1 147 (.callr 77 [.t 145,.t 146]),bT 148 .add 139 147,bC 149 .add 148 (.s [125]),bT 150 .add 128 149,m1 5 150] [0,1,5,6,7,8,9] [[2,3],[3,5],[4,5],[5,6],[6,7],[1,8],[7,8],[8,10],[9,10],[10,11],[12,13],[13,15],[14,15],[15,16],[16,17],[17,19],[18,19],[11,20],[19,20],[20,21],[0,22],[21,22],[0,23],[22,23]])) (.seqr [m1 126 9,bZ 127 .add 126 1,m1 9 127] [0,1,5,6,7,8,9])
def AhD:IC:=sQ (rS [mZ 9 0] [0,1,5,6,7,8,9] (.block 3 (.loop (sQ (rS [m1 121 9,fA 122 8 4,l1 123 122,nL 124 123,bT 125 .lss 121 124] [0,1,5,6,7,8,9,125] (cD 125 .skip (.exit 3))) AgQ)))) (.seqr [m1 151 5,bC 152 .add 151 (.s [125]),m1 5 152] [0,1,5,6,7])
def Alz:IC:=sQ (rS [fA 116 8 0,l1 117 116,q1 118 119 117] [0,1,5,6,7,8,118] (cD 118 (.seqr [m1 119 5,bC 120 .add 119 (.s [44]),m1 5 120] [0,1,5,6,7,8]) nO)) AhD
def AiE:IC:=sQ (.ops [m1 91 5,fA 92 8 2,l1 93 92,o1 94 (.bin .add (.c (.s [123])) (.t 93)),bC 95 .add 94 (.s [44]),m1 96 1,bT 97 .add 95 96,m1 98 6,fA 99 8 0,l1 100 99,bZ 101 .sub 100 3,iA 102 98 101 9 1,l1 103 102,bT 104 .add 97 103,bT 105 .add 91 104,m1 5 105] [0,1,5,6,7,8] [[1,2],[2,3],[3,4],[4,6],[5,6],[8,9],[9,10],[7,11],[10,11],[11,12],[6,13],[12,13],[0,14],[13,14],[0,15],[14,15]]) (sQ (rS [fA 106 8 3,l1 107 106,bC 108 .neq 107 (.s [])] [0,1,5,6,7,8,108] (cD 108 nO .skip)) Alz)
def Aj9:IC:=rS [fA 83 8 0,l1 84 83,bZ 85 .geq 84 3,m1 86 85,Dv 87 86 8 0,Db 88 86 87,C8 89 86 .leq 88 9,pA 90 86 89,m1 82 90] [0,1,5,6,7,8,82] (cD 82 AiE nO)
def Aha:IC:=rS [fA 53 8 0,l1 54 53,bZ 55 .eql 54 11,m1 52 55] [0,1,5,6,7,8,52] (cD 52 nO (rS [fA 73 8 0,l1 74 73,bZ 75 .eql 74 2,m1 72 75] [0,1,5,6,7,8,72] (cD 72 nO Aj9)))
def Alx:IC:=rS [fA 37 8 0,l1 38 37,bZ 39 .eql 38 11,m1 40 39,Dv 41 40 8 5,Db 42 40 41,gT 43 40 (.lenL (.t 42)),C8 44 40 .eql 43 0,pA 45 40 44,m1 36 45] [0,1,5,6,7,8,36] (cD 36 nO Aha)
def Alg:IC:=.block 2 (rS [fA 22 8 0,l1 23 22,bZ 24 .eql 23 1,m1 21 24] [0,1,5,6,7,8,21] (cD 21 (.seqr [m1 25 5,fA 26 8 1,l1 27 26,q1 28 118 27,bT 29 .add 25 28,m1 5 29] [0,1,5,6,7]) (rS [fA 31 8 0,l1 32 31,bZ 33 .eql 32 10,m1 30 33] [0,1,5,6,7,8,30] (cD 30 nO Alx))))
def AhH:IC:=sQ (.block 1 (rS [m1 17 0,m1 18 7,iA 19 17 18 116 6,lA 20 19 6,o1 8 (.alloc (.agg [.i .i64 0,.s [],.s [],.s [],.nil,.nil])),sT 8 20 6] [0,1,5,6,7,8] Alg)) (.seqr [m1 15 7,bZ 16 .add 15 1,m1 7 16] [0,1,5,6,7])
def AoG:IC:=sQ (rS [mZ 7 0] [0,1,5,6,7] (.block 0 (.loop (sQ (rS [m1 11 7,m1 12 0,nL 13 12,bT 14 .lss 11 13] [0,1,5,6,7,14] (cD 14 .skip (.exit 0))) AhH)))) (rS [m1 153 5,m1 4 153] [4] .ret)
def AnY:IC:=rS [o1 10 (.msl true 9 1 [.c (.s [110,117,109,98,101,114]),.c (.s [117,110,105,116]),.c (.s [100,97,116,101]),.c (.s [108,105,115,116]),.c (.s [112,108,117,114,97,108]),.c (.s [111,114,100,105,110,97,108]),.c (.s [115,101,108,101,99,116])]),m1 6 10] [0,1,5,6] AoG
def Ao7:IC:=rS [mC 4 (.s [])] [0,1] (rS [mC 5 (.s [])] [0,1,5] AnY)
def Aqd:Cs:=⟨154,Ao7,[.t 4]⟩
theorem AoC:Bz Tryz.prog 77 Aqd=true:=by kernel_rfl
def Amx:IC:=sQ (rS [m1 69 11,o1 70 (.callr 77 [.t 69,.c (.s [32])]),nS 71 70,bZ 72 .gtr 71 4000] [5,11,72] (cD 72 nO .skip)) (rS [m1 74 11,o1 75 (.build [.i .i64 0,.i .i64 0,.i .i64 0] []),m1 4 74,sT 5 75 3,mZ 6 0] [4,5,6] .ret)
def Ahy:IC:=sQ (rS [m1 35 10,nC 36 35,fA 37 36 4,l1 38 37,bZ 39 .eql 38 0,m1 40 39,By 41 40 10,gT 42 40 (.nilck (.t 41)),Dv 43 40 42 0,Db 44 40 43,gT 45 40 (.lenL (.t 44)),C8 46 40 .gtr 45 0,pA 47 40 46] [0,5,10,11,47] (cD 47 nO .skip)) (sQ (rS [m1 50 10,nC 51 50,fA 52 51 4,l1 53 52,bZ 54 .neq 53 0] [0,5,10,11,54] (cD 54 nO .skip)) Amx)
def AhI:IC:=rS [m1 25 7,m1 26 0,nS 27 26,m1 28 8,m1 29 9,o1 30 (.build [.nil,.i .i64 0,.nil,.i .i64 0,.i .i64 0] [(0,1,.t 25),(1,1,.t 27),(3,1,.t 28),(4,1,.t 29)]),bX 31 30,m1 10 31] [0,1,5,10] (rS [m1 32 10,m1 33 1,o1 34 (.calls 74 [.t 32,ci 1,.t 33]),m1 11 34] [0,5,10,11] Ahy)
def Ar2:IC:=rS [m1 15 0,q1 16 73 15,m1 14 16,xT 17 14 0,xT 18 14 1,xT 19 14 2,m1 7 17,m1 8 18,m1 9 19] [0,1,5,7,8,9] (sQ (rS [m1 20 9,bZ 21 .eql 20 6] [0,1,5,7,8,9,21] (cD 21 nO .skip)) AhI)
def As1:IC:=rS [mC 4 .nil,o1 5 (.alloc (.agg [.i .i64 0,.i .i64 0,.i .i64 0])),mZ 6 0] [0,1,5] Ar2
def AoD:Cs:=⟨76,As1,[.t 4,.c 5 3 true,.t 6]⟩
theorem Ask:Bz Tryz.prog 46 AoD=true:=by kernel_rfl
def AnF:IC:=rS [mC 2 .nil,o1 3 (.alloc (.agg [.i .i64 0,.i .i64 0,.i .i64 0])),mZ 4 0] [0,3] (rS [m1 5 0,o1 6 (.call 46 [.t 5,.c (.b false)]),xT 7 6 0,xT 8 6 1,xT 9 6 2,m1 2 7,sT 3 8 3,m1 4 9] [2,3,4] .ret)
def Aqq:Cs:=⟨10,AnF,[.t 2,.c 3 3 true,.t 4]⟩
theorem Apk:Bz Tryz.prog 27 Aqq=true:=by kernel_rfl
def Aqe:IC:=rS [m1 3 0,bC 4 .geq 3 (.i .u8 97),m1 5 4,By 6 5 0,gT 7 5 (.bin .leq (.t 6) (.c (.i .u8 122))),pA 8 5 7,m1 9 8,Br 10 9 0,gF 11 9 (.bin .geq (.t 10) (.c (.i .u8 65))),Br 12 9 11,By 13 12 0,gT 14 12 (.bin .leq (.t 13) (.c (.i .u8 90))),gF 15 9 (.pick (.t 12) (.t 14) (.c (.b false))),pO 16 9 15,m1 17 16,Br 18 17 0,gF 19 17 (.bin .geq (.t 18) (.c (.i .u8 48))),Br 20 17 19,By 21 20 0,gT 22 20 (.bin .leq (.t 21) (.c (.i .u8 57))),gF 23 17 (.pick (.t 20) (.t 22) (.c (.b false))),pO 24 17 23,m1 2 24] [2] .ret
def Aqj:IC:=rS [mC 2 (.b false)] [0] Aqe
def Api:Cs:=⟨25,Aqj,[.t 2]⟩
theorem ApJ:Bz Tryz.prog 97 Api=true:=by kernel_rfl
def Ah3:IC:=rS [m1 26 0,m1 27 3,o1 28 (.idx (.t 26) (.t 27)),q1 29 97 28,nT 30 29,m1 31 30,By 32 31 0,By 33 31 3,gT 34 31 (.idx (.t 32) (.t 33)),gT 35 31 (.bin .neq (.t 34) (.c (.i .u8 95))),pA 36 31 35,m1 37 36,By 38 37 0,By 39 37 3,gT 40 37 (.idx (.t 38) (.t 39)),gT 41 37 (.bin .neq (.t 40) (.c (.i .u8 45))),pA 42 37 41] [0,22,23,42] (cD 42 nO .skip)
def AhS:IC:=rS [bT 24 .lss 23 22] [0,22,23,24] (sQ (cD 24 .skip (.exit 0)) (sQ (.block 1 (rS [m1 25 23,m1 3 25] [0,3,22,23] Ah3)) (.seqr [bZ 43 .add 23 1,m1 23 43] [0,22,23])))
def Ast:IC:=sQ (rS [m1 4 0,bC 5 .eql 4 (.s []),m1 6 5,Br 7 6 0,gF 8 6 (.lenS (.t 7)),Dg 9 6 .gtr 8 40,pO 10 6 9,m1 11 10,Br 12 11 0,gF 13 11 (.idx (.t 12) (ci 0)),gF 14 11 (.bin .lss (.t 13) (.c (.i .u8 97))),pO 15 11 14,m1 16 15,Br 17 16 0,gF 18 16 (.idx (.t 17) (ci 0)),gF 19 16 (.bin .gtr (.t 18) (.c (.i .u8 122))),pO 20 16 19] [0,20] (cD 20 nO .skip)) (sQ (rS [m1 21 0,nS 22 21,mZ 23 0] [0,22,23] (.block 0 (.loop AhS))) (rS [mC 2 (.b true)] [2] .ret))
def ApO:IC:=rS [mC 2 (.b false)] [0] Ast
def AnN:Cs:=⟨44,ApO,[.t 2]⟩
theorem AsB:Bz Tryz.prog 62 AnN=true:=by kernel_rfl
def As6:IC:=rS [mC 2 (.b false)] [0] (rS [m1 3 0,bZ 4 .geq 3 7,m1 5 4,By 6 5 0,C8 7 5 .leq 6 9,pA 8 5 7,m1 2 8] [2] .ret)
def AsI:Cs:=⟨9,As6,[.t 2]⟩
theorem ArT:Bz Tryz.prog 79 AsI=true:=by kernel_rfl
def AbS:IC:=sQ (rS [bZ 19 .eql 9 2,m1 18 19] [1,3,4,9,18] (cD 18 nO (rS [bZ 20 .eql 9 11,m1 18 20] [1,3,4,9,18] (cD 18 nO (rS [bZ 21 .eql 9 7,m1 18 21] [1,3,4,9,18] (cD 18 .skip nO)))))) (cD 18 (.seqr [fA 24 1 2,l1 25 24,fA 26 3 2,sT 26 25 1] [1,3,4]) nO)
def AjT:IC:=.block 0 (rS [bZ 11 .eql 9 1,m1 10 11] [1,3,4,9,10] (cD 10 (rS [fA 12 1 1,l1 13 12,fA 14 3 1,sT 14 13 1] [1,3] (.seqr [fA 15 1 1,l1 16 15,bC 17 .neq 16 (.s []),m1 4 17] [1,3,4])) AbS))
def Aam:IC:=rS [m1 92 4,m1 93 92,Dv 94 93 1 1,Db 95 93 94,Dv 96 93 3 1,Db 97 93 96,gT 98 93 (.bin .eql (.t 95) (.t 97)),pA 99 93 98,m1 100 99,Dv 101 100 1 2,Db 102 100 101,Dv 103 100 3 2,Db 104 100 103,gT 105 100 (.bin .eql (.t 102) (.t 104)),pA 106 100 105,m1 107 106,Dv 108 107 1 3,Db 109 107 108,Dv 110 107 3 3,Db 111 107 110,gT 112 107 (.bin .eql (.t 109) (.t 111)),pA 113 107 112,m1 114 113,Dv 115 114 1 4,Db 116 114 115,gT 117 114 (.lenL (.t 116)),C8 118 114 .eql 117 0,By 119 114 118,Du 120 119 1 0,CM 121 119 120,gF 122 119 (.call 79 [.t 121]),gT 123 114 (.pick (.t 119) (.c (.b true)) (.t 122)),pA 124 114 123,m1 125 124,Dv 126 125 1 5,Db 127 125 126,gT 128 125 (.lenL (.t 127)),C8 129 125 .eql 128 0,By 130 125 129,Du 131 130 1 0,CM 132 130 131,Dg 133 130 .eql 132 11,gT 134 125 (.pick (.t 130) (.c (.b true)) (.t 133)),pA 135 125 134,m1 2 135] [2] .ret
def Aau:IC:=sQ (rS [fA 73 3 2,l1 74 73,bC 75 .neq 74 (.s []),m1 76 75,Du 77 76 1 0,CM 78 76 77,Dg 79 76 .neq 78 1,Br 80 76 79,Dv 81 80 1 0,Db 82 80 81,C8 83 80 .neq 82 10,gF 84 76 (.pick (.t 80) (.t 83) (.c (.b false))),pO 85 76 84] [1,3,4,85] (cD 85 (.seqr [m1 86 4,m1 87 86,Dv 88 87 1 2,Db 89 87 88,gT 90 87 (.call 62 [.t 89]),pA 91 87 90,m1 4 91] [1,3,4]) .skip)) Aam
def AiQ:IC:=rS [fA 5 1 0,l1 6 5,o1 7 (.build [.i .i64 0,.s [],.s [],.s [],.nil,.nil] [(0,1,.t 6)]),o1 3 (.alloc (.agg [.i .i64 0,.s [],.s [],.s [],.nil,.nil])),sT 3 7 6] [1,3] (rS [mC 4 (.b true)] [1,3,4] (sQ (rS [fA 8 1 0,l1 9 8] [1,3,4,9] AjT) Aau))
def AiF:IC:=rS [bX 1 0,mC 2 (.b false)] [1] AiQ
def AfW:Cs:=⟨136,AiF,[.t 2]⟩
theorem AkZ:Bz Tryz.prog 131 AfW=true:=by kernel_rfl
def zE:IC:=cD 4 nO (rS [bC 8 .eql 3 (.s [102,101,119]),m1 4 8] [3,4] (cD 4 nO (rS [bC 9 .eql 3 (.s [109,97,110,121]),m1 4 9] [3,4] (cD 4 nO (.seqr [bC 10 .eql 3 (.s [111,116,104,101,114]),m1 4 10] [4])))))
def Ag9:IC:=.block 0 (sQ (rS [bC 5 .eql 3 (.s [122,101,114,111]),m1 4 5] [3,4] (cD 4 nO (rS [bC 6 .eql 3 (.s [111,110,101]),m1 4 6] [3,4] (cD 4 nO (rS [bC 7 .eql 3 (.s [116,119,111]),m1 4 7] [3,4] zE))))) (cD 4 (rS [mC 2 (.b true)] [2] .ret) .skip))
def Amk:IC:=rS [mC 2 (.b false)] [0] (sQ (rS [m1 3 0] [3] Ag9) (rS [mC 2 (.b false)] [2] .ret))
def Aej:Cs:=⟨11,Amk,[.t 2]⟩
theorem Ams:Bz Tryz.prog 242 Aej=true:=by kernel_rfl
def Aip:IC:=sQ (rS [m1 8 0,m1 9 1,q2 10 244 8 9,m1 7 10] [0,1,7] (rS [m1 11 7,bZ 12 .geq 11 0] [0,1,7,12] (cD 12 nO .skip))) (rS [m1 22 0,m1 4 22,mC 5 (.s []),mC 6 (.b false)] [4,5,6] .ret)
def Agj:IC:=rS [mC 4 (.s []),mC 5 (.s []),mC 6 (.b false)] [0,1] Aip
def AfV:Cs:=⟨23,Agj,[.t 4,.t 5,.t 6]⟩
theorem Ag7:Bz Tryz.prog 189 AfV=true:=by kernel_rfl
def Ami:IC:=rS [mC 4 (.s []),mC 5 (.s []),mC 6 (.b false)] [0,1] (rS [m1 7 0,m1 8 1,q2 9 189 7 8,xT 10 9 0,xT 11 9 1,xT 12 9 2,m1 4 10,m1 5 11,m1 6 12] [4,5,6] .ret)
def AeD:Cs:=⟨13,Ami,[.t 4,.t 5,.t 6]⟩
theorem Ah1:Bz Tryz.prog 136 AeD=true:=by kernel_rfl
def Ag2:IC:=rS [mC 2 (.b false)] [0] (rS [m1 3 0,o1 4 (.call 190 [.t 3,.c (.s [48,49,50,51,52,53,54,55,56,57])]),bC 5 .eql 4 (.s []),m1 2 5] [2] .ret)
def Ae4:Cs:=⟨6,Ag2,[.t 2]⟩
theorem AgL:Bz Tryz.prog 137 Ae4=true:=by kernel_rfl
def AkT:IC:=rS [m1 51 8,m1 52 51,By 53 52 7,gT 54 52 (.lenS (.t 53)),C8 55 52 .eql 54 0,pA 56 52 55,m1 57 56,Br 58 57 7,gF 59 57 (.lenS (.t 58)),Dg 60 57 .gtr 59 6,pO 61 57 60,m1 62 61,Br 63 62 7,gF 64 62 (.call 137 [.t 63]),gF 65 62 (.not (.t 64)),pO 66 62 65,m1 50 66] [2,5,9,50] (cD 50 nO .skip)
def Ame:IC:=sQ (.ops [lA 68 9 3,m1 69 5,nT 70 69,m1 71 70,gF 72 71 (.load (.t 9) 3 true),gF 73 71 (.call 138 [.t 72]),gF 74 71 (.not (.t 73)),pO 75 71 74,sT 2 68 3,m1 3 75] [2,3] [[1,2],[2,3],[3,4],[3,5],[4,5],[3,6],[5,6],[3,7],[6,7],[0,8],[4,5,8],[7,9]]) .ret
def Arr:IC:=sQ (.block 0 (rS [m1 26 6,nS 27 26,bZ 28 .lss 27 1,m1 29 28,Br 30 29 6,gF 31 29 (.lenS (.t 30)),Dg 32 29 .gtr 31 15,pO 33 29 32,m1 34 33,Br 35 34 6,gF 36 34 (.call 137 [.t 35]),gF 37 34 (.not (.t 36)),pO 38 34 37,m1 39 38,Br 40 39 6,gF 41 39 (.lenS (.t 40)),Dg 42 39 .gtr 41 1,Br 43 39 42,By 44 43 6,gT 45 43 (.idx (.t 44) (ci 0)),gT 46 43 (.bin .eql (.t 45) (.c (.i .u8 48))),gF 47 39 (.pick (.t 43) (.t 46) (.c (.b false))),pO 48 39 47,m1 25 48] [2,5,7,8,9,25] (cD 25 nO AkT))) Ame
def Apm:IC:=rS [m1 21 5,m1 22 6,m1 23 7,o1 24 (.build [.b false,.s [],.s []] [(0,1,.t 21),(1,1,.t 22),(2,1,.t 23)]),o1 9 (.alloc (.agg [.b false,.s [],.s []])),sT 9 24 3] [2,5,6,7,8,9] Arr
def ApV:IC:=rS [m1 11 0,o1 12 (.call 135 [.t 11,.c (.s [45])]),m1 10 12,xT 13 10 0,xT 14 10 1,m1 4 13,m1 5 14] [2,4,5] (rS [m1 16 4,o1 17 (.call 136 [.t 16,.c (.s [46])]),m1 15 17,xT 18 15 0,xT 19 15 1,xT 20 15 2,m1 6 18,m1 7 19,m1 8 20] [2,5,6,7,8] Apm)
def ArC:IC:=rS [o1 2 (.alloc (.agg [.b false,.s [],.s []])),mC 3 (.b false)] [0,2] ApV
def Asq:Cs:=⟨76,ArC,[.c 2 3 true,.t 3]⟩
theorem Aoo:Bz Tryz.prog 98 Asq=true:=by kernel_rfl
def AsJ:IC:=rS [m1 6 0,q1 7 98 6,m1 5 7,xT 8 5 0,xT 9 5 1,o1 3 (.alloc (.agg [.b false,.s [],.s []])),sT 3 8 3,m1 4 9] [4] (rS [m1 10 4,m1 2 10] [2] .ret)
def AoL:IC:=rS [mC 2 (.b false)] [0] AsJ
def An4:Cs:=⟨11,AoL,[.t 2]⟩
theorem Arg:Bz Tryz.prog 67 An4=true:=by kernel_rfl
def Ac6:IC:=rS [m1 16 1,q1 17 242 16,m1 18 17,Br 19 18 6,Br 20 18 19,By 21 20 5,gT 22 20 (.call 67 [.t 21]),gF 23 18 (.pick (.t 20) (.t 22) (.c (.b false))),pO 24 18 23,m1 4 24] [4] .ret
def Akk:IC:=sQ (rS [m1 7 0,bZ 8 .eql 7 9] [1,8] (cD 8 nO .skip)) (rS [m1 12 1,o1 13 (.call 135 [.t 12,.c (.s [61])]),m1 11 13,xT 14 11 0,xT 15 11 1,m1 5 14,m1 6 15] [1,5,6] Ac6)
def Ak6:IC:=rS [mC 4 (.b false)] [0,1] Akk
def Aeg:Cs:=⟨25,Ak6,[.t 4]⟩
theorem AjE:Bz Tryz.prog 185 Aeg=true:=by kernel_rfl
def Aae:IC:=sQ (rS [fA 20 5 0,l1 21 20,fA 22 11 0,l1 23 22,q2 24 185 21 23,nT 25 24,m1 26 25,Br 27 26 9,Du 28 26 11 0,CM 29 26 28,gF 30 26 (.rdm (.mget .str (.b false) false) (.t 27) [.t 29]),pO 31 26 30,m1 32 31,gF 33 32 (.load (.t 4) 1 true),Du 34 32 11 1,CM 35 32 34,Br 36 32 2,Br 37 32 3,Br 38 32 37,Du 39 38 5 0,CM 40 38 39,Dg 41 38 .neq 40 9,gF 42 32 (.pick (.t 38) (.c (.b true)) (.t 41)),gF 43 32 (.calls 95 [.t 33,.t 35,.t 36,.t 42]),gF 44 32 (.not (.t 43)),pO 45 32 44] [2,3,4,5,9,11,14,15,16,45] (cD 45 nO .skip)) (.seqr [m1 46 9,fA 47 11 0,l1 48 47,o0 (.wrm (.mput .str) (.t 46) [.t 48,.c (.b true)])] [2,3,4,5,9,14,15,16])
def AaK:IC:=sQ (.block 1 (rS [iA 18 14 16 118 2,lA 19 18 2,o1 11 (.alloc (.agg [.s [],.nil])),sT 11 19 2] [2,3,4,5,9,11,14,15,16] Aae)) (.seqr [bZ 49 .add 16 1,m1 16 49] [2,3,4,5,9,14,15,16])
def Abx:IC:=rS [fA 50 5 4,l1 51 50,nL 52 51,bZ 53 .leq 52 20,m1 54 53,By 55 54 9,gT 56 54 (.rdm (.mget .str (.b false) false) (.t 55) [.c (.s [111,116,104,101,114])]),pA 57 54 56,m1 8 57] [8] .ret
def AhO:IC:=sQ (rS [fA 13 5 4,l1 14 13,nL 15 14,mZ 16 0] [2,3,4,5,9,14,15,16] (.block 0 (.loop (rS [bT 17 .lss 16 15] [2,3,4,5,9,14,15,16,17] (sQ (cD 17 .skip (.exit 0)) AaK))))) Abx
def AiU:IC:=rS [bX 4 0,bX 5 1,mC 8 (.b false)] [2,3,4,5] (rS [o1 12 (.mkm .mkmap []),m1 9 12] [2,3,4,5,9] AhO)
def Ae9:Cs:=⟨58,AiU,[.t 8]⟩
theorem Ahu:Bz Tryz.prog 132 Ae9=true:=by kernel_rfl
def AkJ:IC:=rS [fA 81 10 0,l1 82 81,bZ 83 .neq 82 11,m1 84 83,Dv 85 84 10 2,Db 86 84 85,gT 87 84 (.bin .neq (.t 86) (.c (.s []))),pA 88 84 87] [1,2,3,4,10,11,12,13,88] (cD 88 (.seqr [fA 89 4 0,l1 90 89,fA 91 10 2,l1 92 91,o0 (.wrm (.mput .str) (.t 90) [.t 92,.c (.b true)])] [1,2,3,4,11,12,13]) .skip)
def Amh:IC:=sQ (rS [fA 65 10 0,l1 66 65,q1 67 79 66,m1 68 67,By 69 68 2,C8 70 68 .geq 69 8,By 71 68 70,gF 72 71 (.load (.t 4) 1 true),gF 73 71 (.load (.t 10) 6 true),Br 74 71 2,Dg 75 71 .add 74 1,Br 76 71 3,gF 77 71 (.calls 132 [.t 72,.t 73,.t 75,.t 76]),gF 78 71 (.not (.t 77)),gT 79 68 (.pick (.t 71) (.c (.b true)) (.t 78)),pA 80 68 79] [1,2,3,4,10,11,12,13,80] (cD 80 nO .skip)) AkJ
def AgZ:IC:=sQ (rS [fA 48 10 0,l1 49 48,bZ 50 .eql 49 11,m1 51 50,By 52 51 2,C8 53 51 .geq 52 8,By 54 51 53,gF 55 54 (.load (.t 4) 1 true),Du 56 54 10 5,CM 57 54 56,Br 58 54 2,Dg 59 54 .add 58 1,Br 60 54 3,gF 61 54 (.calls 95 [.t 55,.t 57,.t 59,.t 60]),gF 62 54 (.not (.t 61)),gT 63 51 (.pick (.t 54) (.c (.b true)) (.t 62)),pA 64 51 63] [1,2,3,4,10,11,12,13,64] (cD 64 nO .skip)) Amh
def Akz:IC:=sQ (rS [lA 18 10 6,o1 19 (.callr 131 [.t 18]),nT 20 19,m1 21 20,Du 22 21 10 0,CM 23 21 22,Dg 24 21 .eql 23 10,Br 25 21 24,By 26 25 3,gT 27 25 (.not (.t 26)),gF 28 21 (.pick (.t 25) (.t 27) (.c (.b false))),pO 29 21 28,m1 30 29,Br 31 30 9,Dg 32 30 .gtr 31 0,Br 33 30 32,Dv 34 33 10 0,Db 35 33 34,C8 36 33 .eql 35 1,gF 37 30 (.pick (.t 33) (.t 36) (.c (.b false))),Br 38 30 37,By 39 38 1,By 40 38 9,C8 41 38 .sub 40 1,gT 42 38 (.iaddr (.t 39) (.t 41) 116 6),Dv 43 38 42 0,Db 44 38 43,C8 45 38 .eql 44 1,gF 46 30 (.pick (.t 38) (.t 45) (.c (.b false))),pO 47 30 46] [1,2,3,4,10,11,12,13,47] (cD 47 nO .skip)) AgZ
def Ako:IC:=sQ (.block 1 (rS [m1 15 13,iA 16 11 13 116 6,lA 17 16 6,o1 10 (.alloc (.agg [.i .i64 0,.s [],.s [],.s [],.nil,.nil])),m1 9 15,sT 10 17 6] [1,2,3,4,9,10,11,12,13] Akz)) (.seqr [bZ 93 .add 13 1,m1 13 93] [1,2,3,4,11,12,13])
def Apw:IC:=sQ (rS [m1 11 1,nL 12 11,mZ 13 0] [1,2,3,4,11,12,13] (.block 0 (.loop (rS [bT 14 .lss 13 12] [1,2,3,4,11,12,13,14] (sQ (cD 14 .skip (.exit 0)) Ako))))) (rS [mC 8 (.b true)] [8] .ret)
def AmS:IC:=rS [bX 4 0,mC 8 (.b false)] [1,2,3,4] Apw
def ApE:Cs:=⟨94,AmS,[.t 8]⟩
theorem Ar3:Bz Tryz.prog 95 ApE=true:=by kernel_rfl
def AqY:IC:=rS [lA 8 5 1,m1 9 0,m1 10 1,o1 11 (.calls 95 [.t 8,.t 9,ci 0,.t 10]),m1 12 11,Dv 13 12 5 0,Db 14 12 13,gT 15 12 (.rdm .mlen (.t 14) []),C8 16 12 .leq 15 20,pA 17 12 16,m1 18 17,By 19 18 0,gT 20 18 (.callr 96 [.t 19]),C8 21 18 .leq 20 4000,pA 22 18 21,m1 4 22] [4] .ret
def ArZ:IC:=rS [mC 4 (.b false)] [0,1] (rS [o1 6 (.mkm .mkmap []),o1 7 (.build [.nm] [(0,1,.t 6)]),o1 5 (.alloc (.agg [.nm])),sT 5 7 1] [0,1,5] AqY)
def AsH:Cs:=⟨23,ArZ,[.t 4]⟩
theorem Anw:Bz Tryz.prog 59 AsH=true:=by kernel_rfl
def AqB:IC:=rS [mC 2 (.b false)] [0] (rS [m1 3 0,o1 4 (.callr 59 [.t 3,.c (.b false)]),m1 2 4] [2] .ret)
def Asr:Cs:=⟨5,AqB,[.t 2]⟩
theorem ApQ:Bz Tryz.prog 35 Asr=true:=by kernel_rfl
def AmX:IC:=sQ (.ops [m1 5 0,m1 6 0,nC 7 6,fA 8 7 0,fA 9 8 1,l1 10 9,lA 11 3 4,o1 12 (.msl true 54 4 [.t 11]),o1 13 (.app (.t 10) (.t 12) 54 4),nC 14 5,fA 15 14 0,fA 16 15 1,sT 16 13 1] [0] [[1,2],[2,3],[3,4],[4,5],[6,7],[5,8],[6,7,8],[7,8],[0,9],[9,10],[10,11],[5,12],[6,12],[8,12],[11,12]]) (rS [m1 17 0,nC 18 17,fA 19 18 0,fA 20 19 1,l1 21 20,nL 22 21,bZ 23 .sub 22 1,m1 4 23] [4] .ret)
def AnG:IC:=rS [bX 3 1,mZ 4 0] [0,3] AmX
def Apv:Cs:=⟨24,AnG,[.t 4]⟩
theorem Ap9:Bz Tryz.prog 48 Apv=true:=by kernel_rfl
def Aji:IC:=sQ (rS [m1 6 0,nL 7 6,mZ 8 0] [0,1,7,8] (.block 0 (.loop (rS [bT 9 .lss 8 7] [0,1,7,8,9] (sQ (cD 9 nO (.exit 0)) nO))))) (rS [mZ 4 (-1)] [4] .ret)
def AjG:IC:=rS [mZ 4 0] [0,1] Aji
def Afo:Cs:=⟨19,AjG,[.t 4]⟩
theorem Als:Bz Tryz.prog 120 Afo=true:=by kernel_rfl
def Ai4:IC:=.seqr [m1 21 0,m1 22 0,nC 23 22,fA 24 23 0,fA 25 24 0,l1 26 25,m1 27 1,o1 28 (.msl true 9 1 [.t 27]),o1 29 (.app (.t 26) (.t 28) 9 1),nC 30 21,fA 31 30 0,fA 32 31 0,sT 32 29 1] [5]
def AqL:IC:=sQ (rS [m1 13 5,bZ 14 .lss 13 0] [0,1,5,14] (cD 14 (rS [m1 15 0,nC 16 15,fA 17 16 0,fA 18 17 0,l1 19 18,nL 20 19,m1 5 20] [0,1,5] Ai4) nO)) (rS [m1 33 5,m1 4 33] [4] .ret)
def Ant:IC:=rS [mZ 4 0] [0,1] (rS [m1 6 0,nC 7 6,fA 8 7 0,fA 9 8 0,l1 10 9,m1 11 1,o1 12 (.callr 120 [.t 10,.t 11]),m1 5 12] [0,1,5] AqL)
def ArB:Cs:=⟨34,Ant,[.t 4]⟩
theorem ApH:Bz Tryz.prog 78 ArB=true:=by kernel_rfl
def AlC:IC:=.seqr [m1 41 0,fA 42 8 0,l1 43 42,o1 44 (.build [.i .i64 0,.i .i64 0,.i .i64 0,.s []] [(0,1,ci 11),(3,1,.t 43)]),o1 45 (.calls 48 [.t 41,.t 44])] [0,2,4,6,35,36,37]
def Ajq:IC:=sQ (.block 1 (rS [iA 39 35 37 118 2,lA 40 39 2,o1 8 (.alloc (.agg [.s [],.nil])),sT 8 40 2] [0,2,4,6,8,35,36,37] AlC)) (.seqr [bZ 46 .add 37 1,m1 37 46] [0,2,4,6,35,36,37])
def Aj4:IC:=.seqr [m1 76 9,m1 77 0,o1 78 (.build [.i .i64 0,.i .i64 0,.i .i64 0,.s []] [(0,1,ci 12)]),o1 79 (.calls 48 [.t 77,.t 78]),o1 80 (.msl true 3 1 [.t 79]),o1 81 (.app (.t 76) (.t 80) 3 1),m1 9 81] [0,2,6,9,48,49,50]
def AkS:IC:=sQ (.ops [m1 55 0,nC 56 55,fA 57 56 0,fA 58 57 1,l1 59 58,m1 60 6,m1 61 10,bT 62 .add 60 61,m1 63 0,nC 64 63,fA 65 64 0,fA 66 65 1,l1 67 66,nL 68 67,iA 69 59 62 54 4,fA 70 69 1,sT 70 68 1] [0,2,6,9,11,48,49,50] [[0,1],[1,2],[2,3],[3,4],[5,7],[6,7],[8,9],[9,10],[10,11],[11,12],[12,13],[4,14],[7,14],[14,15],[4,16],[12,16],[13,16],[14,15,16],[15,16]]) (rS [m1 71 0,fA 72 11 1,l1 73 72,m1 74 2,o1 75 (.calls 47 [.t 71,.t 73,.t 74])] [0,2,6,9,48,49,50] Aj4)
def Al5:IC:=sQ (.block 3 (rS [m1 52 50,iA 53 48 50 118 2,lA 54 53 2,o1 11 (.alloc (.agg [.s [],.nil])),m1 10 52,sT 11 54 2] [0,2,6,9,10,11,48,49,50] AkS)) (.seqr [bZ 82 .add 50 1,m1 50 82] [0,2,6,9,48,49,50])
def Ajw:IC:=.ops [m1 89 0,nC 90 89,fA 91 90 0,fA 92 91 1,l1 93 92,m1 94 13,m1 95 0,nC 96 95,fA 97 96 0,fA 98 97 1,l1 99 98,nL 100 99,iA 101 93 94 54 4,fA 102 101 1,sT 102 100 1] [0,83,84,85] [[0,1],[1,2],[2,3],[3,4],[6,7],[7,8],[8,9],[9,10],[10,11],[4,12],[5,12],[12,13],[4,14],[10,14],[11,14],[12,13,14],[13,14]]
def Ajp:IC:=rS [bT 86 .lss 85 84] [0,83,84,85,86] (sQ (cD 86 .skip (.exit 4)) (sQ (.block 5 (rS [iA 87 83 85 3 1,l1 88 87,m1 13 88] [0,13,83,84,85] Ajw)) (.seqr [bZ 103 .add 85 1,m1 85 103] [0,83,84,85])))
def AlS:IC:=sQ (rS [fA 47 4 4,l1 48 47,nL 49 48,mZ 50 0] [0,2,6,9,48,49,50] (.block 2 (.loop (rS [bT 51 .lss 50 49] [0,2,6,9,48,49,50,51] (sQ (cD 51 .skip (.exit 2)) Al5))))) (rS [m1 83 9,nL 84 83,mZ 85 0] [0,83,84,85] (.block 4 (.loop Ajp)))
def Al2:IC:=sQ (rS [fA 34 4 4,l1 35 34,nL 36 35,mZ 37 0] [0,2,4,6,35,36,37] (.block 0 (.loop (rS [bT 38 .lss 37 36] [0,2,4,6,35,36,37,38] (sQ (cD 38 .skip (.exit 0)) Ajq))))) (rS [mC 9 .nil] [0,2,4,6,9] AlS)
def ArV:IC:=sQ (.anyr [m1 19 0,m1 20 0,fA 21 4 2,l1 22 21,o1 23 (.calls 78 [.t 20,.t 22]),fA 24 4 0,l1 25 24,o1 26 (.build [.i .i64 0,.i .i64 0,.i .i64 0,.s []] [(0,1,ci 10),(1,1,.t 23),(2,1,.t 25)]),o1 27 (.calls 48 [.t 19,.t 26])] [0,2,4] [[],[],[],[2],[1,3],[],[5],[4,6],[0,4,7]]) (rS [m1 28 0,nC 29 28,fA 30 29 0,fA 31 30 1,l1 32 31,nL 33 32,m1 6 33] [0,2,4,6] Al2)
def Arw:IC:=rS [bX 4 1] [0,2,4] (sQ (rS [fA 14 4 0,l1 15 14,bZ 16 .neq 15 9] [0,2,4,16] (cD 16 (.seqr [fA 17 4 2,l1 18 17,m1 2 18] [0,2,4]) nO)) ArV)
def Ar6:Cs:=⟨104,Arw,[]⟩
theorem ArW:Bz Tryz.prog 80 Ar6=true:=by kernel_rfl
def AhE:IC:=.seqr [m1 30 0,fA 31 7 1,l1 32 31,o1 33 (.build [.i .i64 0,.i .i64 0,.i .i64 0,.s []] [(0,1,ci 1),(3,1,.t 32)]),o1 34 (.calls 48 [.t 30,.t 33])] [0,2,8,9,10]
def AjI:IC:=rS [fA 80 7 0,l1 81 80,q1 82 79 81,m1 79 82] [0,2,7,8,9,10,79] (cD 79 (.seqr [m1 83 0,lA 84 7 6,m1 85 2,o1 86 (.calls 80 [.t 83,.t 84,.t 85])] [0,2,8,9,10]) nO)
def AhY:IC:=rS [fA 46 7 0,l1 47 46,bZ 48 .eql 47 11,m1 49 48,Dv 50 49 7 5,Db 51 49 50,gT 52 49 (.lenL (.t 51)),C8 53 49 .eql 52 0,pA 54 49 53,m1 45 54] [0,2,7,8,9,10,45] (cD 45 nO (rS [fA 61 7 0,l1 62 61,bZ 63 .eql 62 11,m1 60 63] [0,2,7,8,9,10,60] (cD 60 nO AjI)))
def Ag8:IC:=.block 2 (rS [fA 27 7 0,l1 28 27,bZ 29 .eql 28 1,m1 26 29] [0,2,7,8,9,10,26] (cD 26 AhE (rS [fA 36 7 0,l1 37 36,bZ 38 .eql 37 10,m1 35 38] [0,2,7,8,9,10,35] (cD 35 nO AhY))))
def AmE:IC:=sQ (.block 1 (rS [iA 12 8 10 116 6,lA 13 12 6,o1 7 (.alloc (.agg [.i .i64 0,.s [],.s [],.s [],.nil,.nil])),sT 7 13 6] [0,2,7,8,9,10] Ag8)) (.seqr [bZ 87 .add 10 1,m1 10 87] [0,2,8,9,10])
def AnT:IC:=rS [m1 8 1,nL 9 8,mZ 10 0] [0,2,8,9,10] (.block 0 (.loop (rS [bT 11 .lss 10 9] [0,2,8,9,10,11] (sQ (cD 11 .skip (.exit 0)) AmE))))
def ArN:Cs:=⟨88,AnT,[]⟩
theorem Aps:Bz Tryz.prog 47 ArN=true:=by kernel_rfl
def AlX:IC:=rS [m1 14 4,o1 15 (.build [.i .i64 0,.i .i64 0,.i .i64 0,.s []] [(0,1,ci 13)]),o1 16 (.calls 48 [.t 14,.t 15])] [2,4] (rS [m1 17 4,nC 18 17,fA 19 18 0,lA 20 19 2,sT 2 20 2,mZ 3 0] [2,3] .ret)
def Asp:IC:=sQ (rS [m1 5 0,o1 6 (.callr 35 [.t 5]),nT 7 6] [0,2,7] (cD 7 nO .skip)) (rS [o1 9 (.build [.nil,.nil] []),bX 10 9,m1 4 10] [0,2,4] (rS [m1 11 4,m1 12 0,o1 13 (.calls 47 [.t 11,.t 12,.c (.s [])])] [2,4] AlX))
def Ar1:IC:=rS [o1 2 (.alloc (.agg [.nil,.nil])),mZ 3 0] [0,2] Asp
def Aoe:Cs:=⟨21,Ar1,[.c 2 2 true,.t 3]⟩
theorem ApM:Bz Tryz.prog 28 Aoe=true:=by kernel_rfl
def Al0:IC:=sQ (.block 1 (sQ (.ops [m1 17 0,m1 18 5,iA 19 17 18 3 1,l1 20 19,m1 21 1,m1 22 5,iA 23 21 22 3 1,l1 24 23,bT 25 .neq 20 24] [0,1,5,25] [[0,2],[1,2],[2,3],[4,6],[5,6],[6,7],[3,8],[7,8]]) (cD 25 nO .skip))) (.seqr [m1 15 5,bZ 16 .add 15 1,m1 5 16] [0,1,5])
def AmV:IC:=sQ (rS [mZ 5 0] [0,1,5] (.block 0 (.loop (sQ (rS [m1 11 5,m1 12 0,nL 13 12,bT 14 .lss 11 13] [0,1,5,14] (cD 14 .skip (.exit 0))) Al0)))) (rS [mC 4 (.b true)] [4] .ret)
def Apz:IC:=rS [mC 4 (.b false)] [0,1] (sQ (rS [m1 6 0,nL 7 6,m1 8 1,nL 9 8,bT 10 .neq 7 9] [0,1,10] (cD 10 nO .skip)) AmV)
def Anr:Cs:=⟨26,Apz,[.t 4]⟩
theorem AnS:Bz Tryz.prog 31 Anr=true:=by kernel_rfl
def Ai1:IC:=rS [m1 44 8,bZ 45 .eql 44 0,m1 46 45,By 47 46 7,gT 48 46 (.bin .eql (.t 47) (.c (.s [97]))),pA 49 46 48,m1 50 49,By 51 50 10,C8 52 50 .eql 51 0,pA 53 50 52,m1 54 53,By 55 54 9,gT 56 54 (.msl true 3 1 [ci 0,ci 3,ci 4,ci 7]),gT 57 54 (.callr 31 [.t 55,.t 56]),pA 58 54 57,m1 59 58,By 60 59 12,C8 61 59 .eql 60 0,pA 62 59 61,m1 63 62,By 64 63 11,gT 65 63 (.lenL (.t 64)),C8 66 63 .eql 65 1,pA 67 63 66,m1 68 67,By 69 68 11,gT 70 68 (.iaddr (.t 69) (ci 0) 86 2),Dv 71 68 70 1,Db 72 68 71,C8 73 68 .eql 72 2,pA 74 68 73,m1 0 74] [0] .ret
def Aib:IC:=rS [lA 33 4 2,o1 34 (.build [.s [],.s [],.s [],.nil,.nil,.s [],.s [],.s [],.s [],.i .i64 0,.i .i64 0,.nil,.nil,.nil,.nil,.nil] []),m1 35 6,o1 36 (.callr 15 [.t 33,.t 34,.t 35,.c (.b false)]),m1 32 36,xT 37 32 0,xT 38 32 1,m1 9 37,m1 10 38] [4,7,8,9,10] (rS [lA 40 4 2,o1 41 (.callr 30 [.t 40]),m1 39 41,xT 42 39 0,xT 43 39 1,m1 11 42,m1 12 43] [7,8,9,10,11,12] Ai1)
def Ap1:IC:=rS [lA 26 4 2,o1 27 (.build [.s [],.s [],.s [],.nil,.nil,.s [],.s [],.s [],.s [],.i .i64 0,.i .i64 0,.nil,.nil,.nil,.nil,.nil] []),m1 28 6,o1 29 (.callr 29 [.t 26,.t 27,.t 28,.c (.b false)]),m1 25 29,xT 30 25 0,xT 31 25 1,m1 7 30,m1 8 31] [4,6,7,8] Aib
def Aox:IC:=rS [o1 23 (.build [.s [],.i .i64 0,.s [],.i .i64 0,.nil] [(0,1,.c (.s [110])),(1,1,ci 2),(2,1,.c (.s [49]))]),o1 24 (.msl true 62 5 [.t 23]),m1 6 24] [4,6] Ap1
def ApR:IC:=rS [o1 14 (.call 27 [.c (.s [123,110,44,32,112,108,117,114,97,108,44,32,61,49,32,123,97,125,32,111,116,104,101,114,32,123,98,125,125])]),m1 13 14,xT 15 13 0,xT 16 13 1,xT 17 13 2,o1 2 (.alloc (.agg [.i .i64 0,.i .i64 0,.i .i64 0])),m1 1 15,sT 2 16 3,m1 3 17] [1] (rS [m1 19 1,o1 20 (.callr 28 [.t 19]),m1 18 20,xT 21 18 0,xT 22 18 1,o1 4 (.alloc (.agg [.nil,.nil])),sT 4 21 2,m1 5 22] [4] Aox)
def Ano:IC:=rS [mC 0 (.b false)] [] ApR
def Apu:Cs:=⟨75,Ano,[.t 0]⟩
theorem Ana:Bz Tryz.prog 11 Apu=true:=by kernel_rfl
noncomputable def evM:FuncId->Option Cs:=(AP 116 (AP 77 (AP 47 (AP 28 (AP 21 (AO 11 Apu) (AP 27 (AO 21 AmL) (AO 27 Aqq))) (AP 35 (AP 31 (AO 28 Aoe) (AO 31 Anr)) (AP 46 (AO 35 Asr) (AO 46 AoD)))) (AP 62 (AP 48 (AO 47 ArN) (AP 59 (AO 48 Apv) (AO 59 AsH))) (AP 73 (AP 67 (AO 62 AnN) (AO 67 An4)) (AP 74 (AO 73 AnM) (AO 74 AoQ))))) (AP 109 (AP 80 (AP 78 (AO 77 Aqd) (AP 79 (AO 78 ArB) (AO 79 AsI))) (AP 97 (AP 95 (AO 80 Ar6) (AO 95 ApE)) (AP 98 (AO 97 Api) (AO 98 Asq)))) (AP 112 (AP 110 (AO 109 AfZ) (AP 111 (AO 110 Af5) (AO 111 Afr))) (AP 114 (AP 113 (AO 112 AeP) (AO 113 AeU)) (AP 115 (AO 114 Afx) (AO 115 AeO)))))) (AP 189 (AP 137 (AP 120 (AP 118 (AO 116 AeX) (AP 119 (AO 118 Ado) (AO 119 Adt))) (AP 132 (AP 131 (AO 120 Afo) (AO 131 AfW)) (AP 136 (AO 132 Ae9) (AO 136 AeD)))) (AP 164 (AP 161 (AO 137 Ae4) (AP 162 (AO 161 Afd) (AO 162 AfA))) (AP 166 (AP 165 (AO 164 Ae5) (AO 165 AdV)) (AP 185 (AO 166 AdS) (AO 185 Aeg))))) (AP 242 (AP 225 (AP 223 (AO 189 AfV) (AP 224 (AO 223 Aed) (AO 224 Ad3))) (AP 228 (AP 226 (AO 225 Ae7) (AO 226 Afn)) (AP 229 (AO 228 Agb) (AO 229 Afk)))) (AP 316 (AP 284 (AP 283 (AO 242 Aej) (AO 283 AfN)) (AP 285 (AO 284 Af6) (AO 285 Agc))) (AP 336 (AP 317 (AO 316 Afu) (AO 317 AfY)) (AP 347 (AO 336 Ae0) (AO 347 Aeo)))))))
theorem Ahk:HI Tryz.prog evM:=(.node (.node (.node (.node (.node (.leaf Ana) (.node (.leaf AqW) (.leaf Apk))) (.node (.node (.leaf ApM) (.leaf AnS)) (.node (.leaf ApQ) (.leaf Ask)))) (.node (.node (.leaf Aps) (.node (.leaf Ap9) (.leaf Anw))) (.node (.node (.leaf AsB) (.leaf Arg)) (.node (.leaf Ap2) (.leaf An2))))) (.node (.node (.node (.leaf AoC) (.node (.leaf ApH) (.leaf ArT))) (.node (.node (.leaf ArW) (.leaf Ar3)) (.node (.leaf ApJ) (.leaf Aoo)))) (.node (.node (.leaf Ait) (.node (.leaf Akl) (.leaf Aid))) (.node (.node (.leaf AiY) (.leaf Aj2)) (.node (.leaf AhU) (.leaf Agr)))))) (.node (.node (.node (.node (.leaf AlK) (.node (.leaf Ah2) (.leaf Ai8))) (.node (.node (.leaf Als) (.leaf AkZ)) (.node (.leaf Ahu) (.leaf Ah1)))) (.node (.node (.leaf AgL) (.node (.leaf Ai3) (.leaf AgN))) (.node (.node (.leaf AkU) (.leaf Ak7)) (.node (.leaf Akd) (.leaf AjE))))) (.node (.node (.node (.leaf Ag7) (.node (.leaf Ai6) (.leaf Aki))) (.node (.node (.leaf Aju) (.leaf AkQ)) (.node (.leaf AlP) (.leaf Ahg)))) (.node (.node (.node (.leaf Ams) (.leaf Akv)) (.node (.leaf Alc) (.leaf AhP))) (.node (.node (.leaf Ahq) (.leaf AlA)) (.node (.leaf Ai2) (.leaf Ago)))))))
end Go.Ir
end
namespace Go.Ir
def Mq(L:BR)(k:Int)(a:List Aa)(v:BC):Aa×Int:=
 if !Dc k then([],1) else if !CU [] (H5 L k) then([],18) else if !Ls k v then([],11)
 else if DA a (F3 L k v)<0 then([],13) else(a.getD (DA a (F3 L k v)).toNat [],0)
def Ab6(X:WX)(names:List Aa)(x:Az):Ev:=match JG X.vs (Cy names x.a) with
 | none=>.er 12
 | some v=>Adw X.iso (MR X.L (x.op-3) x.s v)
def Dj(ins:List Az)(i:Nat):List Aa:=(BF (ins.drop (i+1))).map (·.s)
def MV(X:WX)(names:List Aa)(ins:List Az)(i:Nat)(x:Az):Aa×Int:=match JG X.vs (Cy names x.a) with
 | none=>([],if(Mq X.L x.b (Dj ins i) ⟨[],0,[],0,[]⟩).2==18 then 18 else 12)
 | some v=>Mq X.L x.b (Dj ins i) v
def aAt(ins:List Az)(k:Nat):Int:=match ins[k]? with
 | some x=>x.a
 | none=>0
def Kj(X:WX)(names:List Aa)(ins:List Az)(i:Nat)(x:Az):Int×Int:=
 if(MV X names ins i x).2==0 then(aAt ins (i+1+(B7 (λy=>(MV X names ins i x).1==y) (Dj ins i)).toNat),0) else(i,(MV X names ins i x).2)
def Zh(X:WX)(names:List Aa)(x:Az):Ev:=
 if x.op==1 then .pc x.s else if x.op==2 then .pc (60::(x.s++[62])) else if x.op==3 then .pc (60::47::(x.s++[62]))
 else if x.op==4 then .pc (60::(x.s++[62,60,47]++x.s++[62])) else Ab6 X names x
def DS(X:WX)(names:List Aa)(ins:List Az)(i:Nat)(x:Az)(st:Aa×Int):(Aa×Int)×Int:=
 if x.op==10 then((st.1,if(Kj X names ins i x).2==0 then st.2 else(Kj X names ins i x).2),(Kj X names ins i x).1)
 else if x.op==12 then(st,x.a) else(Iv st (Zh X names x),(i:Int)+1)
def J0(X:WX)(names:List Aa)(ins:List Az):Nat->Nat->Aa×Int->List Int->(Aa×Int)×List Int
 | 0,_,st,a=>(st,a)
 | n+1,i,st,a=>if st.2==0 then(match ins[i]? with
  | none=>(st,a)
  | some x=>if x.op==13 then(st,a++[(i:Int)]) else J0 X names ins n (DS X names ins i x st).2.toNat (DS X names ins i x st).1 (a++[(i:Int)])) else(st,a)
def F4(X:WX)(names:List Aa)(ins:List Az):(Aa×Int)×List Int:=J0 X names ins (ins.length+1) 0 ([],0) []
structure LZ (nn:Nat) (ins:List Az):Prop where
 pr:∀k y,ins[k]?=some y->AG nn ins k y=true
 la:CV ins (ins.length-1)=13
 po:0<ins.length
theorem sD{names:List Aa}{ins:List Az}(h:((Cv names ins).2==0)=true):LZ names.length ins:=by
 have hp:¬Ce names.length ins 0 ins>=0:=by
  intro hp;unfold Cv at h;rw[if_pos hp] at h;split at h
  .simp at h
  .split at h<;>simp at h
 have b:CV ins (ins.length-1)=13/\0<ins.length:=by
  unfold Cv at h;rw[if_neg hp] at h;split at h
  .simp at h
  .split at h
   .simp at h
   .split at h
    .simp at h
    .rename_i a;simp only[AxU,not_or,Ar9,Bool.not_eq_false,beq_iff_eq] at a;refine⟨by simpa using a.2,?_⟩;cases ins with
     | nil=>simp at a
     | cons y r=>simp
 exact⟨λk y c=>by have:=KN _ ins ins 0 hp k y c;rwa [Aw5] at this,b.1,b.2⟩
theorem QC:∀{l:List Az} {k:Nat},k<(BF l).length->∃y,(BF l)[k]?=some y/\l[k]?=some y/\y.op=11:=by
 intro l
 induction l with
 | nil=>intro k h;simp[BF] at h
 | cons x r e=>
  intro k h;rw[BF] at h⊢;split at h
  .rename_i a;rw[if_pos a];cases k with
   | zero=>exact⟨x,by simp,by simp,by simpa using a⟩
   | succ k=>obtain⟨y,b,c,d⟩:=e (k:=k) (by simpa using h);exact⟨y,by simpa using b,by simpa using c,d⟩
  .simp at h
theorem Qc{a:List Aa}{w:Aa}(h:w∈a):0<=B7 (λx=>w==x) a/\B7 (λx=>w==x) a<a.length:=by
 refine⟨?_,Xv _ _⟩
 induction a with
 | nil=>cases h
 | cons k r c=>
  rw[B7];cases b:(w==k) with
  | true=>simp
  | false=>
   simp only[cond_false];rcases Am8.1 h with rfl|h
   .simp at b
   .have:=c h;rw[if_neg (by omega)];omega
theorem e9{L:BR}{k:Int}{a:List Aa}{v:BC}(h:((Mq L k a v).2==0)=true):(Mq L k a v).1∈a:=by
 unfold Mq at h⊢;split at h
 .simp at h
 .rename_i b;rw[if_neg b];split at h
  .simp at h
  .rename_i c;rw[if_neg c];split at h
   .simp at h
   .rename_i d;rw[if_neg d];split at h
    .simp at h
    .rename_i e;rw[if_neg e];have f:=(N8 a (F3 L k v)).2;simp only;rw[AtX,Afb (by omega)];simp
theorem QP{X:WX}{names:List Aa}{ins:List Az}{i:Nat}{x:Az}(h:((MV X names ins i x).2==0)=true):(MV X names ins i x).1∈Dj ins i:=by
 unfold MV at h⊢;split at h
 .rename_i a;simp only at h;split at h<;>simp at h
 .exact e9 h
theorem Nt{nn:Nat}{ins:List Az}{i:Nat}{x:Az}(h:AG nn ins i x=true)(b:x.op=11\/x.op=12):Lk ins i x.a=true:=by unfold AG at h;rcases b with b|b<;>(rw[b] at h;simp only[Int.reduceBEq,AcT,if_false,Bool.or_self,if_true,AzP] at h;exact h.1)
theorem WB{ins:List Az}{i:Nat}{a:Int}(h:Lk ins i a=true):(CV ins a.toNat==11)=false:=by unfold Lk at h;simp only[AzP,Ar9] at h;exact h.2.2
theorem Ze{nn:Nat}{ins:List Az}{i:Nat}{x:Az}(h:AG nn ins i x=true):1<=x.op/\x.op<=13:=by
 by_cases a:1<=x.op/\x.op<=13
 .exact a
 .exfalso;have e:∀k:Int,1<=k->k<=13->(x.op==k)=false:=λk b c=>by simp only[beq_eq_false_iff_ne];omega
  unfold AG at h;simp only[e 1 (by omega) (by omega),e 2 (by omega) (by omega),e 3 (by omega) (by omega),e 4 (by omega) (by omega),e 5 (by omega) (by omega),e 6 (by omega) (by omega),e 7 (by omega) (by omega),e 8 (by omega) (by omega),e 9 (by omega) (by omega),e 10 (by omega) (by omega),e 11 (by omega) (by omega),e 12 (by omega) (by omega),e 13 (by omega) (by omega),Bool.or_self,AcT,if_false] at h
theorem CL{ins:List Az}{i:Nat}{x:Az}(h:ins[i]?=some x):CV ins i=x.op:=by unfold CV;rw[h]
theorem N6{X:WX}{names:List Aa}{ins:List Az}{i:Nat}{x:Az}{st:Aa×Int}(o:LZ names.length ins)(p:ins[i]?=some x)(g:(x.op==11)=false)(j:(x.op==13)=false)
  (c:((DS X names ins i x st).1.2==0)=true)(C:(st.2==0)=true):(i:Int)<(DS X names ins i x st).2/\(DS X names ins i x st).2<(ins.length:Int)/\(CV ins (DS X names ins i x st).2.toNat==11)=false:=by
 have E:i<ins.length:=(Af8.1 p).1;have hp:=o.pr i x p;unfold DS at c⊢;split at c
 .rename_i d;rw[if_pos d];simp only at c⊢;unfold Kj at c⊢;split at c
  .rename_i f;rw[if_pos f];simp only;have z:=QP f;have m:=Qc z;generalize hI:B7 (λy=>(MV X names ins i x).1==y) (Dj ins i)=I at *;unfold Dj at m;rw[Abn] at m;obtain⟨y,D,q,v⟩:=QC (l:=ins.drop (i+1)) (k:=I.toNat) (by omega);rw[AxB] at q;have w:aAt ins (i+1+I.toNat)=y.a:=by unfold aAt;rw[q]
   rw[w];have b:=Nt (o.pr _ y q) (.inl v);have:=J2 b;exact⟨by omega,by omega,WB b⟩
  .rename_i f;simp only at c
   first
    | exact absurd c f
    | (split at c
       .rename_i r;exact absurd r f
       .exact absurd c f)
 .rename_i d;rw[if_neg d];split at c
  .rename_i e;rw[if_pos e];have b:=Nt hp (.inr (by simpa using e));have:=J2 b;exact⟨by simp only;omega,by simp only;omega,WB b⟩
  .rename_i e;rw[if_neg e];simp only;have B:i≠ins.length-1:=by rintro rfl;have:=o.la;rw[CL p] at this;rw[this] at j;simp at j
   refine⟨by omega,by omega,?_⟩;have A:(((i:Int)+1).toNat)=i+1:=by omega
   rw[A];cases u:(CV ins (i+1)==11) with
   | false=>rfl
   | true=>
    exfalso;have s:i+1<ins.length:=by omega
    have t:ins[i+1]?=some ins[i+1]:=Afb s;rw[CL t] at u;have b:=o.pr _ _ t;unfold AG at b;rw[show(ins[i+1]).op=11 by simpa using u] at b;simp only[Int.reduceBEq,AcT,if_false,Bool.or_self,if_true,AzP,Nat.add_sub_cancel,CL p,AxU] at b;rcases b.2.2.2 with h|h
    .exact d h
    .rw[h] at g;cases g
def Up(ins:List Az):Int->List Int->Prop
 | _,[]=>True
 | k,j::r=>k<=j/\j<(ins.length:Int)/\(CV ins j.toNat==11)=false/\Up ins (j+1) r
theorem Alb{X:WX}{names:List Aa}{ins:List Az}(w:LZ names.length ins):∀(n i:Nat) (st:Aa×Int) (b:List Int),i<ins.length->(CV ins i==11)=false->
  ∃l,(J0 X names ins n i st b).2=b++l/\Up ins i l/\((st.2==0)=true->0<n->l.head?=some (i:Int))/\
   (((J0 X names ins n i st b).1.2==0)=true->ins.length<n+i->∃j,l.getLast?=some j/\CV ins j.toNat=13):=by
 intro n
 induction n with
 | zero=>intro i st b p a;exact⟨[],by simp[J0],trivial,λ_ h=>by omega,λ_ h=>by omega⟩
 | succ n x=>
  intro i st b p a;have d:ins[i]?=some ins[i]:=Afb p;rw[J0];cases o:(st.2==0) with
  | false=>exact⟨[],by simp,trivial,λh=>(by cases h),λh=>(by simp[o] at h)⟩
  | true=>
   simp only[if_true,d];rw[CL d] at a;cases e:((ins[i]).op==13) with
   | true=>
    simp only[if_true];refine⟨[(i:Int)],rfl,⟨by omega,by omega,?_,trivial⟩,λ_ _=>rfl,λ_ _=>⟨i,rfl,?_⟩⟩
    .rw[AvY,CL d];exact a
    .rw[AvY,CL d];simpa using e
   | false=>
    simp only[AcT,if_false];have f:∀l,Up ins ((i:Int)+1) l->Up ins i ((i:Int)::l):=λl h=>⟨by omega,by omega,by rw[AvY,CL d];exact a,h⟩
    cases c:((DS X names ins i ins[i] st).1.2==0) with
    | true=>
     obtain⟨y,a2,a3⟩:=N6 w d a e c o;generalize DS X names ins i ins[i] st=R at *;obtain⟨l,q,g,A,s⟩:=x R.2.toNat R.1 (b++[(i:Int)]) (by omega) a3;refine⟨(i:Int)::l,by rw[q];simp,f l ?_,λ_ _=>rfl,λu B=>?_⟩
     .rw[show((R.2.toNat:Nat):Int)=R.2 by omega] at g;cases l with
      | nil=>trivial
      | cons j r=>exact⟨by have:=g.1;omega,g.2⟩
     .obtain⟨j,m,t⟩:=s u (by omega);refine⟨j,?_,t⟩;cases l with
      | nil=>cases m
      | cons z r=>rw[List.getLast?_cons_cons];exact m
    | false=>
     generalize DS X names ins i ins[i] st=R at *;have v:∀n k b,J0 X names ins n k R.1 b=(R.1,b):=λn k b=>by cases n<;>simp[J0,c]
     rw[v];exact⟨[(i:Int)],rfl,f [] trivial,λ_ _=>rfl,λh=>by simp[c] at h⟩
end Go.Ir

namespace Go.Ir
open Go.Proofs
variable{P:Program}{W0:World}{nt n:Nat}{Q:Exit→St→Prop}{env:A9}{σ:Aj}
def WY:IC:=cD 15 (oR [mC 8 (.s []),mZ 9 18] [8,9]) (oS [m1 22 1,lA 23 7 5,q2 24 154 22 23,nT 25 24,m1 21 25] [1,2,4,7,21] (cD 21 (oR [mC 8 (.s []),mZ 9 11] [8,9]) .skip))
def Xg:IC:=sQ (oS [m1 31 10,bZ 32 .lss 31 0] [2,10,32] (cD 32 (oR [mC 8 (.s []),mZ 9 13] [8,9]) .skip)) (oR [m1 33 2,m1 34 10,iA 35 33 34 9 1,l1 36 35,m1 8 36,mZ 9 0] [8,9])
def qA:IC:=sQ (.block 0 (oS [m1 12 1,q1 13 79 12,nT 14 13,m1 11 14] [1,2,4,7,11] (cD 11 (oR [mC 8 (.s []),mZ 9 1] [8,9]) (oS [lA 16 4 16,m1 17 1,q2 18 153 16 17,q1 19 152 18,nT 20 19,m1 15 20] [1,2,4,7,15] WY)))) (oS [lA 26 4 16,m1 27 1,m1 28 2,lA 29 7 5,o1 30 (.call 155 [.t 26,.t 27,.t 28,.t 29]),m1 10 30] [2,10] Xg)
def xD:IC:=oS [bX 4 0,bX 7 3,mC 8 (.s []),mZ 9 0] [1,2,4,7] qA
@[push_cast]def Apf:List R:=[.t 8,.t 9]
@[push_cast]def Awe:=Aq WY.eq_1<|Aq Xg.eq_1<|Aq qA.eq_1<|AL xD.eq_1
theorem Amq:Av Tryz.prog 126 37 xD Apf=true:=by kernel_rfl
def jU:IC:=oR [o1 3 (.build [.i .i64 0,.i .i64 0,.i .i64 0,.i .i64 0,.i .i64 0,.i .i64 0,.i .i64 0,.i .i64 0,.i .i64 0,.i .i64 0] [(5,1,ci 2),(6,1,ci 3),(7,1,ci 4),(8,1,ci 5),(9,1,ci 6)]),m1 4 0,o1 5 (.pu (.aget 10 1 false) [.t 3,.t 4]),m1 2 5] [2]
def nI:IC:=oS [mZ 2 0] [0] jU
@[push_cast]def ApB:List R:=[.t 2]
@[push_cast]def Awh:=Aq jU.eq_1<|AL nI.eq_1
theorem AjP:Av Tryz.prog 127 6 nI ApB=true:=by kernel_rfl
def Ad8:IC:=oS [m1 9 0,nC 10 9,fA 11 10 20,o1 12 (.calls 125 [.t 11]),bZ 13 .gtr 12 20000] [0,13] (cD 13 (oP [m1 14 0,nC 15 14,fA 16 15 23,o0 (.store (.t 16) (ci 6) 1)] []) .skip)
def AfI:IC:=sQ (.opx [m1 4 0,nC 5 4,fA 6 5 20,m1 7 1] [0,6,7] 8 124 [.t 6,.t 7] [] [0]) Ad8
@[push_cast]def Avm:List R:=[]
@[push_cast]def Ayk:=Aq Ad8.eq_1<|AL AfI.eq_1
theorem AmJ:Av Tryz.prog 86 17 AfI Avm=true:=by kernel_rfl
def rB:IC:=oS [m1 56 0,nC 57 56,fA 58 57 19,l1 59 58,m1 55 59] [0,6,55] (cD 55 (.opx [m1 60 0,m1 61 6,q1 62 128 61] [60,62] 63 86 [.t 60,.t 62] [] []) (.opx [m1 45 0,m1 46 6] [45,46] 47 86 [.t 45,.t 46] [] []))
def sK:IC:=sQ (.ops [m1 31 0,nC 32 31,fA 33 32 2,lA 34 33 16,fA 35 3 0,l1 36 35,q1 37 127 36,fA 38 3 3,l1 39 38,o1 40 (.build [.i .i64 0,.s [],.s [],.s [],.nil,.nil] [(0,1,.t 37),(3,1,.t 39)]),lA 41 4 5,q3 42 108 34 40 41,m1 30 42,xT 43 30 0,xT 44 30 1,m1 6 43,m1 7 44] [0,6,7] [[0,1],[1,2],[2,3],[4,5],[5,6],[7,8],[6,9],[8,9],[3,11],[9,11],[10,11],[11,12],[12,13],[12,14],[13,15],[14,16]]) (.block 0 (oS [m1 49 7,bZ 50 .neq 49 0,m1 48 50] [0,6,7,48] (cD 48 (oP [m1 51 0,m1 52 7,nC 53 51,fA 54 53 23,sT 54 52 1] []) rB)))
def AeN:IC:=sQ (.ops [m1 9 0,nC 10 9,fA 11 10 18,l1 12 11,m1 13 0,nC 14 13,fA 15 14 0,fA 16 15 0,l1 17 16,fA 18 3 1,l1 19 18,iA 20 17 19 9 1,l1 21 20,q2 22 39 12 21,m1 8 22,xT 23 8 0,xT 24 8 1,o1 4 (.alloc (.agg [.s [],.i .i64 0,.s [],.i .i64 0,.nil])),sT 4 23 5,m1 5 24] [0,3,4,5] [[0,1],[1,2],[2,3],[4,5],[5,6],[6,7],[7,8],[9,10],[8,11],[10,11],[11,12],[3,13],[12,13],[13,14],[14,15],[14,16],[3,18],[8,18],[10,18],[11,18],[12,18],[15,18],[17,18],[16,19]]) (sQ (oS [m1 25 5,nT 26 25] [0,3,4,26] (cD 26 (oR [m1 27 0,nC 28 27,fA 29 28 23,o0 (.store (.t 29) (ci 12) 1)] []) .skip)) sK)
def AeH:IC:=oS [bX 3 1] [0,3] AeN
@[push_cast]def Av2:List R:=[]
@[push_cast]def AyI:=Aq rB.eq_1<|Aq sK.eq_1<|Aq AeN.eq_1<|AL AeH.eq_1
theorem AnZ:Av Tryz.prog 88 64 AeH Av2=true:=by kernel_rfl
def vN:IC:=sQ (.block 1 (oP [m1 34 6,m1 35 0,nC 36 35,fA 37 36 0,fA 38 37 1,l1 39 38,m1 40 7,iA 41 39 40 54 4,fA 42 41 3,l1 43 42,o1 44 (.msl false 9 1 [.t 43]),o1 45 (.app (.t 34) (.t 44) 9 1),m1 6 45] [0,1,5,6,7])) (oP [m1 32 7,bZ 33 .add 32 1,m1 7 33] [0,1,5,6,7])
def m6:IC:=sQ (oS [m1 22 0,nC 23 22,fA 24 23 0,fA 25 24 1,l1 26 25,m1 27 7,iA 28 26 27 54 4,fA 29 28 0,l1 30 29,bZ 31 .eql 30 11] [0,1,5,6,7,31] (cD 31 .skip (.exit 0))) vN
def n8:IC:=.ops [m1 47 0,nC 48 47,fA 49 48 18,l1 50 49,m1 51 0,nC 52 51,fA 53 52 0,fA 54 53 0,l1 55 54,fA 56 5 1,l1 57 56,iA 58 55 57 9 1,l1 59 58,q2 60 39 50 59,m1 46 60,xT 61 46 0,xT 62 46 1,o1 8 (.alloc (.agg [.s [],.i .i64 0,.s [],.i .i64 0,.nil])),sT 8 61 5,m1 9 62] [0,1,5,6,8,9] [[0,1],[1,2],[2,3],[4,5],[5,6],[6,7],[7,8],[9,10],[8,11],[10,11],[11,12],[3,13],[12,13],[13,14],[14,15],[14,16],[3,18],[8,18],[10,18],[11,18],[12,18],[15,18],[17,18],[16,19]]
def lS:IC:=sQ (.ops [m1 88 0,nC 89 88,fA 90 89 0,fA 91 90 1,l1 92 91,m1 93 1,bZ 94 .add 93 1,m1 95 6,m1 96 10,q2 97 120 95 96,bT 98 .add 94 97,iA 99 92 98 54 4,fA 100 99 1,l1 101 100,m1 4 101] [4] [[0,1],[1,2],[2,3],[3,4],[5,6],[7,9],[8,9],[6,10],[9,10],[4,11],[10,11],[11,12],[12,13],[13,14]]) .ret
def iY:IC:=sQ (oS [m1 81 11,bZ 82 .neq 81 0] [0,1,6,10,11,82] (cD 82 (oS [m1 83 0,m1 84 11,nC 85 83,fA 86 85 23,sT 86 84 1] [1] (oR [m1 87 1,m1 4 87] [4])) .skip)) lS
def pW:IC:=sQ (oS [m1 75 9,nT 76 75,m1 77 76,By 78 77 11,C8 79 77 .neq 78 18,pA 80 77 79] [0,1,6,10,11,80] (cD 80 (oP [mZ 11 12] [0,1,6,10,11]) .skip)) iY
def jI:IC:=sQ (.ops [m1 64 0,nC 65 64,fA 66 65 2,lA 67 66 16,fA 68 5 2,l1 69 68,m1 70 6,lA 71 8 5,o1 72 (.call 126 [.t 67,.t 69,.t 70,.t 71]),m1 63 72,xT 73 63 0,xT 74 63 1,m1 10 73,m1 11 74] [0,1,6,9,10,11] [[0,1],[1,2],[2,3],[4,5],[3,8],[5,8],[6,8],[7,8],[8,9],[9,10],[9,11],[10,12],[11,13]]) pW
def Afw:IC:=oS [m1 12 0,nC 13 12,fA 14 13 0,fA 15 14 1,l1 16 15,m1 17 1,iA 18 16 17 54 4,lA 19 18 4,o1 5 (.alloc (.agg [.i .i64 0,.i .i64 0,.i .i64 0,.s []])),sT 5 19 4] [0,1,5] (oS [mC 6 .nil] [0,1,5,6] (sQ (oS [m1 20 1,bZ 21 .add 20 1,m1 7 21] [0,1,5,6,7] (.block 0 (.loop m6))) (sQ (.wk n8) jI)))
def Afe:IC:=oS [mZ 4 0] [0,1] Afw
@[push_cast]def Aut:List R:=[.t 4]
@[push_cast]def Ay2:=Aq vN.eq_1<|Aq m6.eq_1<|Aq n8.eq_1<|Aq lS.eq_1<|Aq iY.eq_1<|Aq pW.eq_1<|Aq jI.eq_1<|Aq Afw.eq_1<|AL Afe.eq_1
theorem Anu:Av Tryz.prog 87 102 Afe Aut=true:=by kernel_rfl
def pZ:IC:=.opx [m1 53 0,fA 54 5 3,l1 55 54,o1 56 (.bin .add (.c (.s [60])) (.t 55)),bC 57 .add 56 (.s [62,60,47]),fA 58 5 3,l1 59 58,bT 60 .add 57 59,bC 61 .add 60 (.s [62])] [1,53,61] 62 86 [.t 53,.t 61] [] [1]
def xM:IC:=cD 63 (oR [m1 65 0,m1 66 1,o1 67 (.calls 87 [.t 65,.t 66]),m1 4 67] [4]) (oS [bZ 69 .eql 25 12,m1 68 69] [0,1,5,68] (cD 68 (oR [fA 70 5 1,l1 71 70,m1 4 71] [4]) (.opx [m1 26 0,lA 27 5 4] [1,26,27] 28 88 [.t 26,.t 27] [] [1])))
def oG:IC:=cD 43 (.opx [m1 45 0,fA 46 5 3,l1 47 46,o1 48 (.bin .add (.c (.s [60,47])) (.t 47)),bC 49 .add 48 (.s [62])] [1,45,49] 50 86 [.t 45,.t 49] [] [1]) (oS [bZ 52 .eql 25 4,m1 51 52] [0,1,5,25,51] (cD 51 pZ (oS [bZ 64 .eql 25 10,m1 63 64] [0,1,5,25,63] xM)))
def l8:IC:=cD 35 (.opx [m1 37 0,fA 38 5 3,l1 39 38,o1 40 (.bin .add (.c (.s [60])) (.t 39)),bC 41 .add 40 (.s [62])] [1,37,41] 42 86 [.t 37,.t 41] [] [1]) (oS [bZ 44 .eql 25 3,m1 43 44] [0,1,5,25,43] oG)
def Aez:IC:=oS [fA 24 5 0,l1 25 24] [0,1,5,25] (.block 0 (oS [bZ 30 .eql 25 1,m1 29 30] [0,1,5,25,29] (cD 29 (.opx [m1 31 0,fA 32 5 3,l1 33 32] [1,31,33] 34 86 [.t 31,.t 33] [] [1]) (oS [bZ 36 .eql 25 2,m1 35 36] [0,1,5,25,35] l8))))
def Adq:IC:=sQ (oS [m1 16 0,nC 17 16,fA 18 17 0,fA 19 18 1,l1 20 19,m1 21 1,iA 22 20 21 54 4,lA 23 22 4,o1 5 (.alloc (.agg [.i .i64 0,.i .i64 0,.i .i64 0,.s []])),sT 5 23 4] [0,1,5] Aez) (oR [m1 72 1,bZ 73 .add 72 1,m1 4 73] [4])
def AfX:IC:=oS [m1 6 0,m1 7 0,nC 8 7,fA 9 8 22,l1 10 9,m1 11 1,o1 12 (.msl false 3 1 [.t 11]),o1 13 (.app (.t 10) (.t 12) 3 1),nC 14 6,fA 15 14 22,sT 15 13 1] [0,1] Adq
def Af3:IC:=oS [mZ 4 0] [0,1] AfX
@[push_cast]def Avt:List R:=[.t 4]
@[push_cast]def Ayl:=Aq pZ.eq_1<|Aq xM.eq_1<|Aq oG.eq_1<|Aq l8.eq_1<|Aq Aez.eq_1<|Aq Adq.eq_1<|Aq AfX.eq_1<|AL Af3.eq_1
theorem An6:Av Tryz.prog 55 74 Af3 Avt=true:=by kernel_rfl
def fT:IC:=sQ (oS [m1 26 11,nC 27 26,fA 28 27 23,l1 29 28,bZ 30 .eql 29 0,m1 31 30,Dv 32 31 4 1,Db 33 31 32,By 34 31 12,gT 35 31 (.iaddr (.t 33) (.t 34) 54 4),Dv 36 31 35 0,Db 37 31 36,C8 38 31 .neq 37 13,pA 39 31 38] [4,11,12,39] (cD 39 .skip (.exit 0))) (.block 1 (.opx [m1 40 11,m1 41 12] [4,11,40,41] 42 55 [.t 40,.t 41] [m1 12 42] [4,11,12]))
def qS:IC:=oP [m1 48 11,m1 49 11,nC 50 49,fA 51 50 22,l1 52 51,m1 53 12,o1 54 (.msl false 3 1 [.t 53]),o1 55 (.app (.t 52) (.t 54) 3 1),nC 56 48,fA 57 56 22,sT 57 55 1] [11]
def kU:IC:=oS [lA 20 4 2,lA 21 5 16,m1 22 2,m1 23 3,o1 24 (.build [.nil,.nil,.s [],.s [],.s [],.nil,.nil,.s [],.s [],.s [],.s [],.i .i64 0,.i .i64 0,.nil,.nil,.nil,.nil,.nil,.nil,.b false,.np,.nil,.nil,.i .i64 0] [(0,2,.t 20),(2,16,.t 21),(18,1,.t 22),(19,1,.t 23)]),o1 25 (.mkm (.tbx 100) [.t 24]),m1 11 25] [4,11] (sQ (.wk (oP [mZ 12 0] [4,11,12])) (sQ (.block 0 (.loop fT)) (sQ (oS [m1 43 11,nC 44 43,fA 45 44 23,l1 46 45,bZ 47 .eql 46 0] [11,12,47] (cD 47 qS .skip)) (oR [m1 58 11,m1 8 58] [8]))))
def AdY:IC:=sQ (oS [lA 14 4 2,q1 15 17 14,m1 13 15,xT 16 13 0,xT 17 13 1,m1 9 16,m1 10 17] [2,3,4,5,10] (oS [m1 18 10,bZ 19 .neq 18 0] [2,3,4,5,19] (cD 19 (oR [mC 8 .np] [8]) .skip))) kU
def Ad7:IC:=oS [bX 4 0,bX 5 1,mC 8 .np] [2,3,4,5] AdY
@[push_cast]def Auo:List R:=[.t 8]
@[push_cast]def Ay0:=Aq fT.eq_1<|Aq qS.eq_1<|Aq kU.eq_1<|Aq AdY.eq_1<|AL Ad7.eq_1
theorem AqI:Av Tryz.prog 33 59 Ad7 Auo=true:=by kernel_rfl
def rV:IC:=oS [m1 20 10,nC 21 20,fA 22 21 23,l1 23 22,bZ 24 .neq 23 0,m1 19 24] [10,19] (cD 19 (sQ (.ops [m1 25 10,nC 26 25,fA 27 26 23,l1 28 27,mC 8 (.s []),m1 9 28] [8,9] [[0,1],[1,2],[2,3],[3,5]]) .ret) .skip)
def AdK:IC:=sQ (.block 0 (oS [m1 17 10,o1 18 (.pu (.nilq .p false) [.t 17]),m1 16 18] [10,16] (cD 16 (oR [mC 8 (.s []),mZ 9 1] [8,9]) rV))) (oR [m1 29 10,nC 30 29,fA 31 30 20,o1 32 (.calls 45 [.t 31]),m1 8 32,mZ 9 0] [8,9])
def Aep:IC:=oS [bX 4 0,bX 5 1,mC 8 (.s []),mZ 9 0] [2,3,4,5] (sQ (.opx [lA 11 4 2,lA 12 5 16,m1 13 2,m1 14 3] [11,12,13,14] 15 33 [.t 11,.t 12,.t 13,.t 14] [m1 10 15] [10]) AdK)
@[push_cast]def Atz:List R:=[.t 8,.t 9]
@[push_cast]def Ay9:=Aq rV.eq_1<|Aq AdK.eq_1<|AL Aep.eq_1
theorem Arp:Av Tryz.prog 29 33 Aep Atz=true:=by kernel_rfl
def Adx:IC:=sQ (oS [m1 16 10,o1 17 (.pu (.nilq .p false) [.t 16])] [10,17] (cD 17 (oR [mC 8 .nil,mZ 9 1] [8,9]) .skip)) (oR [m1 18 10,nC 19 18,fA 20 19 22,l1 21 20,m1 8 21,mZ 9 0] [8,9])
def Afp:IC:=oS [bX 4 0,bX 5 1,mC 8 .nil,mZ 9 0] [2,3,4,5] (sQ (.opx [lA 11 4 2,lA 12 5 16,m1 13 2,m1 14 3] [11,12,13,14] 15 33 [.t 11,.t 12,.t 13,.t 14] [m1 10 15] [10]) Adx)
@[push_cast]def AvN:List R:=[.t 8,.t 9]
@[push_cast]def AxL:=Aq Adx.eq_1<|AL Afp.eq_1
theorem ApT:Av Tryz.prog 15 22 Afp AvN=true:=by kernel_rfl
def Aew:IC:=oR [fA 3 1 0,lA 4 3 16,o1 5 (.msl false 30 16 [.t 4]),o1 6 (.build [.nil,.nil,.nil] [(0,1,.t 5)]),q1 7 32 6,m1 8 7,Dv 9 8 1 16,Db 10 8 9,gT 11 8 (.call 18 [.t 10]),pA 12 8 11,m1 2 12] [2]
def Ad2:IC:=oS [bX 1 0,mC 2 (.b false)] [1] Aew
@[push_cast]def Av6:List R:=[.t 2]
@[push_cast]def Ayg:=Aq Aew.eq_1<|AL Ad2.eq_1
theorem AmM:Av Tryz.prog 13 13 Ad2 Av6=true:=by kernel_rfl
def AeZ:IC:=oR [lA 6 3 2,fA 7 2 0,lA 8 7 16,fA 9 2 16,l1 10 9,fA 11 2 17,l1 12 11,o1 13 (.call 29 [.t 6,.t 8,.t 10,.t 12]),xT 14 13 0,xT 15 13 1,m1 4 14,m1 5 15] [4,5]
def Adp:IC:=oS [bX 2 0,bX 3 1,mC 4 (.s []),mZ 5 0] [2,3] AeZ
@[push_cast]def AuH:List R:=[.t 4,.t 5]
@[push_cast]def AxZ:=Aq AeZ.eq_1<|AL Adp.eq_1
theorem ArH:Av Tryz.prog 16 16 Adp AuH=true:=by kernel_rfl
def Af7:IC:=sQ (.block 1 (sQ (.ops [m1 54 8,bZ 55 .gtr 54 0,m1 56 55,By 57 56 6,By 58 56 8,gT 59 56 (.iaddr (.t 57) (.t 58) 3 1),Db 60 56 59,By 61 56 6,By 62 56 8,C8 63 56 .sub 62 1,gT 64 56 (.iaddr (.t 61) (.t 63) 3 1),Db 65 56 64,gT 66 56 (.bin .leq (.t 60) (.t 65)),pA 67 56 66,m1 68 67,Br 69 68 6,Br 70 68 8,gF 71 68 (.iaddr (.t 69) (.t 70) 3 1),CM 72 68 71,Du 73 68 5 1,CM 74 68 73,gF 75 68 (.lenL (.t 74)),gF 76 68 (.bin .geq (.t 72) (.t 75)),pO 77 68 76,m1 78 77,Du 79 78 5 1,CM 80 78 79,Br 81 78 6,Br 82 78 8,gF 83 78 (.iaddr (.t 81) (.t 82) 3 1),CM 84 78 83,gF 85 78 (.iaddr (.t 80) (.t 84) 54 4),Du 86 78 85 0,CM 87 78 86,Dg 88 78 .eql 87 11,pO 89 78 88] [3,5,6,8,89] [[0,1],[1,2],[2,3],[2,4],[2,5],[3,5],[4,5],[2,6],[5,6],[2,7],[2,8],[2,9],[8,9],[2,10],[7,10],[9,10],[2,11],[10,11],[2,12],[6,12],[11,12],[2,13],[12,13],[13,14],[14,15],[14,16],[14,17],[15,17],[16,17],[14,18],[17,18],[14,19],[14,20],[19,20],[14,21],[20,21],[14,22],[18,22],[21,22],[14,23],[22,23],[23,24],[24,25],[24,26],[25,26],[24,27],[24,28],[24,29],[27,29],[28,29],[24,30],[29,30],[24,31],[26,31],[30,31],[24,32],[31,32],[24,33],[32,33],[24,34],[33,34],[24,35],[34,35]]) (cD 89 (oR [mC 4 (.b false)] [4]) .skip))) (oP [m1 52 8,bZ 53 .add 52 1,m1 8 53] [3,5,6,8])
def Afs:IC:=sQ (.ops [m1 96 10,bZ 97 .neq 96 0,m1 98 97,Du 99 98 5 1,CM 100 98 99,Br 101 98 6,Br 102 98 6,gF 103 98 (.lenL (.t 102)),Dg 104 98 .sub 103 1,gF 105 98 (.iaddr (.t 101) (.t 104) 3 1),CM 106 98 105,gF 107 98 (.iaddr (.t 100) (.t 106) 54 4),Du 108 98 107 0,CM 109 98 108,Dg 110 98 .eql 109 13,pO 111 98 110,m1 4 111] [4] [[0,1],[1,2],[2,3],[2,4],[3,4],[2,5],[2,6],[2,7],[6,7],[2,8],[7,8],[2,9],[5,9],[8,9],[2,10],[9,10],[2,11],[4,11],[10,11],[2,12],[11,12],[2,13],[12,13],[2,14],[13,14],[2,15],[14,15],[15,16]]) .ret
def Afc:IC:=sQ (oS [m1 39 6,nL 40 39,bZ 41 .eql 40 0,m1 42 41,Br 43 42 6,gF 44 42 (.iaddr (.t 43) (ci 0) 3 1),CM 45 42 44,Dg 46 42 .neq 45 0,pO 47 42 46] [3,5,6,47] (cD 47 (oR [mC 4 (.b false)] [4]) .skip)) (sQ (oS [mZ 8 0] [3,5,6,8] (.block 0 (.loop (sQ (oS [m1 48 8,m1 49 6,nL 50 49,bT 51 .lss 48 50] [3,5,6,8,51] (cD 51 .skip (.exit 0))) Af7)))) (oS [lA 91 3 18,lA 92 5 2,q2 93 16 91 92,m1 90 93,xT 94 90 0,xT 95 90 1,m1 9 94,m1 10 95] [5,6,10] Afs))
def AfM:IC:=oS [lA 24 5 2,fA 25 3 0,lA 26 25 16,fA 27 3 16,l1 28 27,fA 29 3 17,l1 30 29,o1 31 (.call 15 [.t 24,.t 26,.t 28,.t 30]),m1 23 31,xT 32 23 0,xT 33 23 1,m1 6 32,m1 7 33] [3,5,6,7] (sQ (oS [m1 34 7,bZ 35 .neq 34 0] [3,5,6,35] (cD 35 (oR [m1 36 6,nL 37 36,bZ 38 .eql 37 0,m1 4 38] [4]) .skip)) Afc)
def Aph:IC:=sQ (oS [lA 13 2 2,q1 14 12 13,nT 15 14,m1 16 15,gF 17 16 (.load (.t 3) 18 true),gF 18 16 (.call 13 [.t 17]),gF 19 16 (.not (.t 18)),pO 20 16 19] [2,3,20] (cD 20 (oR [mC 4 (.b true)] [4]) .skip)) (oS [lA 21 2 2,q1 22 14 21,o1 5 (.alloc (.agg [.nil,.nil])),sT 5 22 2] [3,5] AfM)
def AmI:IC:=oS [bX 2 0,bX 3 1,mC 4 (.b false)] [2,3] (sQ (oS [o1 11 (.call 11 []),nT 12 11] [2,3,12] (cD 12 (oR [mC 4 (.b false)] [4]) .skip)) Aph)
@[push_cast]def f4R:List R:=[.t 4]
@[push_cast]def f4e:=Aq Af7.eq_1<|Aq Afs.eq_1<|Aq Afc.eq_1<|Aq AfM.eq_1<|Aq Aph.eq_1<|AL AmI.eq_1
theorem AcP:Av Tryz.prog 4 112 AmI f4R=true:=by kernel_rfl
end Go.Ir

namespace Go.Ir
open Go.Proofs
variable(W0:World)
set_option maxHeartbeats 4000000 in
theorem UV(L:BR)(k:Int)(c:List Aa)(v:BC)(D:v.text.length<=2^29)(y:A7 L.card+A7 L.ord<=2^24)(C:c.length<=2^30) :
  Al Tryz.prog W0 126 [L.enc,.i .i64 k,.sl (c.map V.s),v.enc] [] (.tup [.s (Mq L k c v).1,.i .i64 (Mq L k c v).2]) []:=by
 have r:=TE W0 k;have o:=NU W0 L k;have u:A7 (H5 L k)<=2^30:=by
  unfold H5;split
  .omega
  .split
   .omega
   .simp[A7]
 have t:Al Tryz.prog W0 152 [Pd L k] [] (.b (CU [] (H5 L k))) []:=by
  refine CX (IG W0 (H5 L k) u) rfl λj a F p l=>?_
  match j with
  | 0=>simp at p l;subst p l;exact VW L k
  | j+1=>simp at p
 have e:=Akt W0 k v (by omega);have d:=Zt W0 L k c v D y C;have z:=N8 c (F3 L k v);generalize hS:Mq L k c v=S;unfold Mq at hS;generalize CU [] (H5 L k)=R at *;generalize Pd L k=E at *;generalize Dc k=w at *;generalize Ls k v=x at *;generalize DA c (F3 L k v)=h at *;rw[BR.enc_eq] at o d⊢;rw[BC.enc_eq] at e d⊢;refine Ae (vs:=[.s S.1,.i .i64 S.2]) Amq (by simp) (by simp) λn0 q=>?_;clear q;by_cases g:(w&&R&&x)=true
 .simp only[AzP] at g;obtain⟨⟨rfl,rfl⟩,rfl⟩:=g;simp only[bq] at hS;cases m:decide (h<0) with
  | true=>
   have f:h<0:=of_decide_eq_true m;rw[if_pos f] at hS;subst hS;simp only[push_cast,reduceEqDiff]
   repeat' (first|(first|refine Ac (by exact r) ?_|refine Ac (by exact o) ?_|refine Ac (by exact t) ?_|refine Ac (by exact e) ?_|refine Ac (by exact d) ?_)|intro _)<;>(try simp only[push_cast,reduceEqDiff,m])
   refine Ad ?_;simp[push_cast]
  | false=>
   have f:¬h<0:=of_decide_eq_false m;rw[if_neg f] at hS;subst hS;obtain⟨j,rfl⟩:∃j:Nat,h=j:=⟨h.toNat,by omega⟩
   have B:j<c.length:=by omega
   have A:(c.map V.s)[j]?=some (.s (c.getD j [])):=by rw[Akg,AtX,Afb B];rfl
   simp only[push_cast,reduceEqDiff]
   repeat' (first|(first|refine Ac (by exact r) ?_|refine Ac (by exact o) ?_|refine Ac (by exact t) ?_|refine Ac (by exact e) ?_|refine Ac (by exact d) ?_)|intro _)<;>(try simp only[push_cast,reduceEqDiff,m,A])
   refine Ad ?_;simp[push_cast]
 .cases w<;>cases R<;>cases x
  all_goals (first|(exact absurd rfl g)|skip)
  all_goals (simp only[bq] at hS;subst hS;simp only[push_cast,reduceEqDiff])
  all_goals (repeat' (first|(first|refine Ac (by exact r) ?_|refine Ac (by exact o) ?_|refine Ac (by exact t) ?_|refine Ac (by exact e) ?_)|intro _)<;>(try simp only[push_cast,reduceEqDiff]))
  all_goals (refine Ad ?_;simp[push_cast])
structure MX where
 X:WX
 names:List Aa
 ins:List Az
def T4:Nat:=100
def mA(u:Bool)(a:Id):V:=if u then .ref a 20 else .np
def rC(M:MX)(a:V)(b t:Id)(e:Int):V:=.agg [.sl (M.names.map V.s),.sl (M.ins.map Az.enc),.s M.X.L.tag,.s M.X.L.parent,.s M.X.L.dir,.sl (M.X.L.card.map AF.enc),.sl (M.X.L.ord.map AF.enc),.s M.X.L.dec,.s M.X.L.grp,.s M.X.L.minus,.s M.X.L.perc,.i .i64 M.X.L.prim,.i .i64 M.X.L.sec,.sl (M.X.L.lists.map CJ.enc),.sl (M.X.L.units.map D6.enc),.sl (M.X.L.dates.map CO.enc),.sl (M.X.L.months.map V.s),.sl (M.X.L.days.map V.s),.sl (M.X.vs.map BC.enc),.b M.X.iso,a,.arr b,.arr t,.i .i64 e]
@[push_cast] theorem Af0(M:MX)(a:V)(b t:Id)(e:Int):rC M a b t e=.agg [.sl (M.names.map V.s),.sl (M.ins.map Az.enc),.s M.X.L.tag,.s M.X.L.parent,.s M.X.L.dir,.sl (M.X.L.card.map AF.enc),.sl (M.X.L.ord.map AF.enc),.s M.X.L.dec,.s M.X.L.grp,.s M.X.L.minus,.s M.X.L.perc,.i .i64 M.X.L.prim,.i .i64 M.X.L.sec,.sl (M.X.L.lists.map CJ.enc),.sl (M.X.L.units.map D6.enc),.sl (M.X.L.dates.map CO.enc),.sl (M.X.L.months.map V.s),.sl (M.X.L.days.map V.s),.sl (M.X.vs.map BC.enc),.b M.X.iso,a,.arr b,.arr t,.i .i64 e]:=rfl
def BQ(a:Id)(M:MX)(u:Bool)(b t:Id)(st:Aa×Int):Aj:=[(a,.tbox T4 (rC M (mA u a) b t st.2)),(b,.arr 5 1 (Ay st.1))]
def MRW(c:Id)(M:MX)(b t:Id)(st:Aa×Int)(n n':Nat)(v:V)(σ':Aj):Prop:=v=.tup []/\∃(d:Bool) (a:Id),(n<=a.1/\a.1<n'\/a=b)/\σ'=BQ c M d a t st
theorem CB{a b t:Id}{M:MX}{u:Bool}{st:Aa×Int}:lk (BQ a M u b t st) a=some (.tbox T4 (rC M (mA u a) b t st.2)):=by simp[BQ,lk]
theorem kY{a b t x:Id}{M:MX}{u:Bool}{st:Aa×Int}{e:A5}{τ:Aj}(c:a≠x)(d:b≠x):lk (BQ a M u b t st++(x,e)::τ) x=some e:=by simp[BQ,lk,c,d]
theorem Tp{a b t x:Id}{M:MX}{u:Bool}{st:Aa×Int}(c:a≠x)(d:b≠x):lk (BQ a M u b t st) x=none:=by simp[BQ,lk,c,d]
theorem DW{a b t x y:Id}{M:MX}{u:Bool}{st:Aa×Int}{c d:A5}{σo:Aj}(f:a≠x)(g:b≠x)(h:a≠y)(i:b≠y):over (BQ a M u b t st) σo ((y,c)::(x,d)::BQ a M u b t st)=σo++[(y,c),(x,d)]:=
 EF (pre:=[(y,c),(x,d)]) (λp hp q e=>by
  simp[BQ] at hp e;rcases hp with rfl|rfl<;>rcases e with rfl|rfl
  .exact AfT h
  .exact AfT i
  .exact AfT f
  .exact AfT g)
theorem Cq{a b t x y:Id}{M:MX}{u:Bool}{st:Aa×Int}{c d:A5}(g:a≠x)(h:b≠x)(j:a≠y)(k:b≠y):∀i e,lk (BQ a M u b t st) i=some e->lk ((y,c)::(x,d)::BQ a M u b t st) i=some e:=
 AaI (pre:=[(y,c),(x,d)]) λq f=>by
  simp at f;rcases f with rfl|rfl
  .exact Tp j k
  .exact Tp g h
theorem bA(a b t:Id)(M:MX)(u:Bool)(l s:Aa)(e:Int)(c:b≠a)(h:l.length+s.length<=2^30) :
  Ez Tryz.prog W0 124 [.ref a 20,.s s] (BQ a M u b t (l,e)) (λn n' v σ'=>v=.tup [.i .i64 s.length,.ni]/\∃d:Id,(n<=d.1/\d.1<n')/\σ'=BQ a M true d t (l++s,e)):=by
 generalize C:(fun(n n':Nat) (v:V) (σ':Aj)=>v=V.tup [.i .i64 s.length,.ni]/\∃d:Id,(n<=d.1/\d.1<n')/\σ'=BQ a M true d t (l++s,e))=R;refine BN qP (by simp) λn0 m=>?_;have F:a.1<n0:=m a _ (by simp[BQ,lk];rfl);have E:b.1<n0:=m b _ (by simp[BQ,lk,AfT c];rfl);clear m;have f:Al Tryz.prog W0 180 [.ref a 20] [(a,.tbox T4 (rC M (mA u a) b t e))] (.tup []) [(a,.tbox T4 (rC M (mA true a) b t e))]:=by
  cases u with
  | true=>exact IY (by kernel_rfl) rfl λb w q=>Of b 20 w q
  | false=>exact HC (by kernel_rfl) rfl (by simp[rC,mA,Da,cells]) λb w q x r o=>Lf T4 24 20 (by kernel_rfl) b w q x r o
 simp only[Af0] at f;have z:(a=b)=False:=eq_false (AfT c);have D:(b=a)=False:=eq_false c;simp only[push_cast,BQ];intro k1;refine Bw f (λi e h=>AB (τ:=[(b,A5.arr 5 1 (Ay l))]) h) ?_;rw[I7 (λp hp=>by simp at hp;subst hp;exact c)];clear f;have y:∀k j:Nat,((n0+1+k1+1+k,j)=a)=False:=λk j=>eq_false λg=>by have:=congrArg Prod.fst g;simp only at this;omega
 have A:∀k j:Nat,((n0+1+k,j)=b)=False:=λk j=>eq_false λg=>(by have:=congrArg Prod.fst g;(try simp only at this);omega)
 have B:∀k j:Nat,(b=(n0+1+k,j))=False:=λk j=>eq_false λg=>of_eq_false (A k j) g.symm;simp only[push_cast,seval,z,Bx];intro k2;refine Ar (by unfold AI;omega) ?_;simp only[push_cast,seval,y];intro k3 G;subst C;rw[EM];exact⟨_,Ak.refl,[.i .i64 s.length,.ni],BQ a M true (n0+1+k1+1+k2,14) t (l++s,e),⟨rfl,rfl,trivial⟩,Lb (AfT (λg=>of_eq_false (y _ _) g)),rfl,_,⟨by simp only;omega,by simp only;omega⟩,rfl⟩
theorem Alm(a b t:Id)(M:MX)(u:Bool)(l:Aa)(e:Int)(c:b≠a):Al Tryz.prog W0 125 [.ref a 20] (BQ a M u b t (l,e)) (.i .i64 l.length) (BQ a M u b t (l,e)):=by refine Ae (vs:=[.i .i64 l.length]) Alw (by simp) (λ_ h=>h) λn0 d=>?_;clear d;have f:(a=b)=False:=eq_false (AfT c);have g:(b=a)=False:=eq_false c;simp only[push_cast,reduceEqDiff,f,BQ,Bx];intros;exact Bn (by simp[get]) (λ_ _ h=>h)
theorem FO(a b t:Id)(M:MX)(u:Bool)(l s:Aa)(g:b≠a)(h:l.length+s.length<=2^30) :
  Ez Tryz.prog W0 86 [.ref a 0,.s s] (BQ a M u b t (l,0)) (MRW a M b t (Iv (l,0) (.pc s))):=by
 generalize i:MRW a M b t (Iv (l,0) (.pc s))=R;refine BN AmJ (by simp) λn0 e=>?_;have w:a.1<n0:=e a _ (by simp[BQ,lk];rfl);have r:b.1<n0:=e b _ (by simp[BQ,lk,AfT g];rfl);clear e;simp only[push_cast,seval,reduceEqDiff,CB];intro k1;refine Bd (bA W0 a b t M u l s 0 g (by omega)) (λ_ _ h=>h) (λx v σo q i=>?_);obtain⟨rfl,f,⟨j,o⟩,rfl⟩:=i;rw[Ti];simp only[push_cast,seval,reduceEqDiff,CB];intro k2;have c:f≠a:=λp=>by rw[p] at j;omega
 refine Bw (Alm W0 a f t M true (l++s) 0 c) (λ_ _ h=>h) ?_;rw[C7];cases d:decide (((l++s).length:Int)>20000) with
 | false=>simp only[push_cast,seval,reduceEqDiff,d];intro k3;subst i;refine⟨_,Ak.refl,[],_,trivial,λ_ _ h=>h,rfl,true,f,.inl ⟨by omega,by simp only;omega⟩,?_⟩;unfold Iv;simp only;rw[if_neg (of_decide_eq_false d)]
 | true=>have k:(a=f)=False:=eq_false (AfT c);have m:(f=a)=False:=eq_false c;simp only[push_cast,seval,reduceEqDiff,d,CB,BQ,k,m];intros;subst i;refine⟨_,Ak.refl,[],_,trivial,λ_ _ h=>h,rfl,true,f,.inl ⟨by omega,by simp only;omega⟩,?_⟩;unfold Iv;simp only;rw[if_pos (of_decide_eq_true d)];rfl
theorem Abh(k:Int)(h:5<=k/\k<=9):Al Tryz.prog W0 127 [.i .i64 k] [] (.i .i64 (k-3)) []:=by
 have b:k=5\/k=6\/k=7\/k=8\/k=9:=by omega
 refine Ae (vs:=[.i .i64 (k-3)]) AjP (by simp) (by simp) λn0 a=>?_;clear a;have c:Fv (.aget 10 1 false) [.agg [.i .i64 0,.i .i64 0,.i .i64 0,.i .i64 0,.i .i64 0,.i .i64 2,.i .i64 3,.i .i64 4,.i .i64 5,.i .i64 6],.i .i64 k]=some (.i .i64 (k-3)):=by rcases b with rfl|rfl|rfl|rfl|rfl<;>rfl
 simp only[push_cast,seval,c];intros;exact Af (by simp[get])
theorem Aaj(h:Bi W0)(l:Bu W0)(L:BR)(c:Nat)(g:WD L c)(k:Int)(st:Aa)(v:BC)(m:Ri v)(o:st.length<=2^24) :
  Al Tryz.prog W0 108 [L.enc,.agg [.i .i64 k,.s [],.s [],.s st,.nil,.nil],v.enc] [] (.tup [.s (MR L k st v).1,.i .i64 (MR L k st v).2]) []:=by
 refine CX (TS W0 h l L c g ⟨k,[],[],st,[],[]⟩ v m o) rfl λj a p f d=>?_
 match j with
 | 0=>simp at f d;subst f d;exact .refl _
 | 1=>
  simp at f d;subst f d;rw[Aw.enc_eq];refine .agg _ _ rfl λk c q b e=>?_
  match k with
  | 0=>simp at b e;subst b e;exact .refl _
  | 1=>simp at b e;subst b e;exact .refl _
  | 2=>simp at b e;subst b e;exact .refl _
  | 3=>simp at b e;subst b e;exact .refl _
  | 4=>simp at b e;subst b e;exact .nil
  | 5=>simp at b e;subst b e;exact .nil
  | k+6=>simp at b
 | 2=>simp at f d;subst f d;exact .refl _
 | j+3=>simp at f
set_option maxHeartbeats 4000000 in
theorem AhZ(hM:Bi W0)(hT:Bu W0)(c:Nat)(d b t:Id)(M:MX)(u:Bool)(l:Aa)(x:Az)(U:XOk M.X c)(C:b≠d)(h:l.length<=20000)(ho:5<=x.op/\x.op<=9)(ha:0<=x.a/\x.a.toNat<M.names.length)(hs:x.s.length<=2^24) :
  Ez Tryz.prog W0 88 [.ref d 0,x.enc] (BQ d M u b t (l,0)) (MRW d M b t (Iv (l,0) (Ab6 M.X M.names x))):=by
 obtain⟨a0,T⟩:=ha;have a2:(0<=x.a)=True:=eq_true a0;have a3:=rO T;have j:=Qa W0 M.X.vs (Cy M.names x.a) U.n (λv hv=>(U.vals v hv).1.len);have F:=Abh W0 x.op ho;generalize K:Ab6 M.X M.names x=E;unfold Ab6 at K;generalize w:MRW d M b t (Iv (l,0) E)=R;refine BN AnZ (by simp) λn0 S=>?_;have hw:d.1<n0:=S d _ (by simp[BQ,lk];rfl);have hb:b.1<n0:=S b _ (by simp[BQ,lk,AfT C];rfl);clear S;rw[Az.enc_eq];obtain⟨y,W⟩:∃y:Id,y=(n0,3):=⟨_,rfl⟩;have Y:y.1=n0:=by rw[W]
 have o:d≠y:=λe=>by rw[e] at hw;omega
 have m:b≠y:=λe=>by rw[e] at hb;omega
 have p:=eq_false o;have q:=eq_false (AfT o);have G:=eq_false m;have H:=eq_false (AfT m);have I:=eq_false C;have J:=eq_false (AfT C);cases Z:JG M.X.vs (Cy M.names x.a) with
 | none=>
  rw[Z] at K j;simp only at K;subst K;simp only[eZ,gV,Ala,AxE] at j;simp only[push_cast,seval,reduceEqDiff,<-W,BQ,lk,p,q,G,H,I,J,a2,T,a3,Abn];have _h:=trivial;repeat' (first|(first|((first|apply Ab|apply Ag|apply Ah)<;>intro _h)|refine Ac j ?_|refine Ar (by omega) ?_)<;>simp only[push_cast,seval,reduceEqDiff,_h,<-W,BQ,lk,p,q,G,H,I,J,a2,T,a3,Abn]|intro _)
  generalize hz:((_,4):Id)=z;have r:n0<z.1:=by rw[<-hz];simp only;omega
  have g:z≠d:=λe=>by rw[e] at r;omega
  have f:z≠b:=λe=>by rw[e] at r;omega
  have D:z≠y:=λe=>by rw[e,Y] at r;omega
  have A:=eq_false g;have z2:=eq_false (AfT g);have z3:=eq_false f;have z4:=eq_false (AfT f);have z5:=eq_false D;have B:=eq_false (AfT D);simp only[push_cast,seval,reduceEqDiff,p,q,G,H,I,J,A,z2,z3,z4,z5,B]
  repeat' (first|(((first|apply Ab|apply Ag|apply Ah)<;>intro _h)<;>simp only[push_cast,seval,reduceEqDiff,_h,p,q,G,H,I,J,A,z2,z3,z4,z5,B])|(refine Ar (by simp only[AhT,AiL,Ank,AJ]<;>omega) ?_;simp only[push_cast,seval,reduceEqDiff,p,q,G,H,I,J,A,z2,z3,z4,z5,B])|intro _)
  subst w;exact⟨_,Ak.refl,[],BQ d M u b t (l,12),trivial,Cq (st:=(l,12)) o m (AfT g) (AfT f),rfl,u,b,.inr rfl,rfl⟩
 | some v=>
  rw[Z] at K j;simp only at K;subst K;obtain⟨ac,aq⟩:=U.vals v (Jv Z);have k:=Aaj W0 hM hT M.X.L c U.L (x.op-3) x.s v ac hs;have V:=uM W0 hT M.X c U (x.op-3) x.s v (Jv Z);rw[BR.enc_eq,BC.enc_eq] at k;simp only[eZ,gV,Atq] at j;rw[BC.enc_eq] at j;unfold Adw at w;generalize MR M.X.L (x.op-3) x.s v=NF at *;obtain⟨nt,ne⟩:=NF;simp only at w k V;have ad:=Ahi W0 nt V;have au:=xP nt;simp only[push_cast,seval,reduceEqDiff,<-W,CB,p,q,a2,T,a3,Abn];have _h:=trivial;repeat' (first|(first|((first|apply Ab|apply Ag|apply Ah)<;>intro _h)|refine Ac j ?_|refine Ac F ?_|refine Ac k ?_|refine Ar (by omega) ?_)<;>simp only[push_cast,seval,reduceEqDiff,_h,<-W,CB,p,q,a2,T,a3,Abn]|intro _)
  generalize hz:((_,4):Id)=z;have r:n0<z.1:=by rw[<-hz];simp only;omega
  have g:z≠d:=λe=>by rw[e] at r;omega
  have f:z≠b:=λe=>by rw[e] at r;omega
  have D:z≠y:=λe=>by rw[e,Y] at r;omega
  have A:=eq_false g;have z2:=eq_false (AfT g);have z3:=eq_false f;have z4:=eq_false (AfT f);have z5:=eq_false D;have B:=eq_false (AfT D);cases e:(ne==0) with
  | false=>
   rw[e] at w;simp only[AcT,if_false] at w;simp only[push_cast,seval,reduceEqDiff,bne,e,BQ,lk,p,q,G,H,I,J,A,z2,z3,z4,z5,B];have _h:=trivial;repeat' (first|(first|((first|apply Ab|apply Ag|apply Ah)<;>intro _h)|refine Ac j ?_|refine Ac F ?_|refine Ac k ?_|refine Ar (by omega) ?_)<;>simp only[push_cast,seval,reduceEqDiff,_h,bne,e,BQ,lk,p,q,G,H,I,J,A,z2,z3,z4,z5,B]|intro _)
   subst w;exact⟨_,Ak.refl,[],BQ d M u b t (l,ne),trivial,Cq (st:=(l,ne)) o m (AfT g) (AfT f),rfl,u,b,.inr rfl,rfl⟩
  | true=>
   rw[e] at w;simp only[if_true] at w;cases hI:M.X.iso with
   | true=>
    rw[hI] at w;simp only[if_true] at w;generalize NZ nt=WT at *;simp only[push_cast,seval,reduceEqDiff,bne,e,hI,CB,p,q,A,z2,z5,B];have _h:=trivial;repeat' (first|(first|((first|apply Ab|apply Ag|apply Ah)<;>intro _h)|refine Ac j ?_|refine Ac F ?_|refine Ac k ?_|refine Ac ad ?_|refine Ar (by omega) ?_)<;>simp only[push_cast,seval,reduceEqDiff,_h,bne,e,hI,CB,p,q,A,z2,z5,B]|intro _)
    refine Bd (FO W0 d b t M u l WT C (by omega)) (Cq (st:=(l,0)) o m (AfT g) (AfT f)) (λn2 v σo ab N=>?_);obtain⟨rfl,u1,b1,O,rfl⟩:=N;rw[DW o m (AfT g) (AfT f)];simp only[push_cast,seval,reduceEqDiff,bne,e,hI,CB,p,q,A,z2,z5,B];intros;subst w;exact⟨_,Ak.refl,[],_,trivial,λi z h=>AB h,rfl,u1,b1,Kt O (by omega) (by simp only;omega),rfl⟩
   | false=>
    rw[hI] at w;simp only[AcT,if_false] at w;simp only[push_cast,seval,reduceEqDiff,bne,e,hI,CB,p,q,A,z2,z5,B];have _h:=trivial;repeat' (first|(first|((first|apply Ab|apply Ag|apply Ah)<;>intro _h)|refine Ac j ?_|refine Ac F ?_|refine Ac k ?_|refine Ar (by omega) ?_)<;>simp only[push_cast,seval,reduceEqDiff,_h,bne,e,hI,CB,p,q,A,z2,z5,B]|intro _)
    refine Bd (FO W0 d b t M u l nt C (by omega)) (Cq (st:=(l,0)) o m (AfT g) (AfT f)) (λn2 v σo ab N=>?_);obtain⟨rfl,u1,b1,O,rfl⟩:=N;rw[DW o m (AfT g) (AfT f)];simp only[push_cast,seval,reduceEqDiff,bne,e,hI,CB,p,q,A,z2,z5,B];intros;subst w;exact⟨_,Ak.refl,[],_,trivial,λi z h=>AB h,rfl,u1,b1,Kt O (by omega) (by simp only;omega),rfl⟩
def iP(L:BR)(vs:List BC)(iso:Bool):V:=.agg [.s L.tag,.s L.parent,.s L.dir,.sl (L.card.map AF.enc),.sl (L.ord.map AF.enc),.s L.dec,.s L.grp,.s L.minus,.s L.perc,.i .i64 L.prim,.i .i64 L.sec,.sl (L.lists.map CJ.enc),.sl (L.units.map D6.enc),.sl (L.dates.map CO.enc),.sl (L.months.map V.s),.sl (L.days.map V.s),.sl (vs.map BC.enc),.b iso]
theorem Ht(L:BR)(vs:List BC)(iso:Bool):iP L vs iso=.agg [.s L.tag,.s L.parent,.s L.dir,.sl (L.card.map AF.enc),.sl (L.ord.map AF.enc),.s L.dec,.s L.grp,.s L.minus,.s L.perc,.i .i64 L.prim,.i .i64 L.sec,.sl (L.lists.map CJ.enc),.sl (L.units.map D6.enc),.sl (L.dates.map CO.enc),.sl (L.months.map V.s),.sl (L.days.map V.s),.sl (vs.map BC.enc),.b iso]:=rfl
theorem mD(L:BR)(vs:List BC)(iso:Bool)(f:Nb L<=2^40)(g:A7 L.card+A7 L.ord<=2^24)(h:vs.length<=2^40)(i:∀v∈vs,v.list.length<=2^40) :
  Al Tryz.prog W0 13 [iP L vs iso] [] (.b (Ix L&&C6 (decide ((vs.length:Int)<=30)) vs)) []:=by
 have e:=Aap W0 L f g;have c3:=Yw W0 vs h i;rw[BR.enc_eq] at e;generalize Ix L=c at *;generalize C6 (decide ((vs.length:Int)<=30)) vs=d at *;rw[Ht];refine Ae (vs:=[.b (c&&d)]) AmM (by simp) (by simp) λn0 a=>?_;clear a;simp only[push_cast,seval,reduceEqDiff];cases c<;>cases d
 all_goals (repeat' (first|(first|refine Ac (by exact e) ?_|refine Ac (by exact c3) ?_)|intro _)<;>(try simp only[push_cast,seval,reduceEqDiff]))
 all_goals exact Af (by simp[get])
theorem Ajl{a b t f:Id}{M:MX}{u g:Bool}{st d:Aa×Int}:∀id,lk (BQ a M u b t st) id≠none->lk (BQ a M g b f d) id≠none:=by
 intro id h;by_cases c:a=id
 .simp[BQ,lk,c]
 .by_cases e:b=id
  .simp[BQ,lk,c,e]
  .simp[BQ,lk,c,e] at h
theorem Adf{nn:Nat}{ins:List Az}{i:Nat}{x:Az}{c:List Az}(o:LZ nn ins)(d:ins[i]?=some x)(f:x.op=10)(e:ins=ins.take (i+1)++c)(j:∀y∈c,y.op=11):False:=by
 have a:=o.la;have p:i<ins.length:=(Af8.1 d).1;have m:ins.length=i+1+c.length:=by have:=congrArg List.length e;rw[AhT,AxJ,Ay3 (by omega)] at this;exact this
 cases l:c.length with
 | zero=>
  have:ins.length-1=i:=by omega
  rw[this,CL d] at a;omega
 | succ k=>
  have b:ins[ins.length-1]?=c[k]?:=by
   rw[show ins.length-1=(ins.take (i+1)).length+k by rw[AxJ,Ay3 (by omega)];omega];have h:(ins.take (i+1)++c)[(ins.take (i+1)).length+k]?=c[k]?:=by rw[AsT (by omega),Nat.add_sub_cancel_left]
   rwa [<-e] at h
  have g:c[k]?=some (c[k]'(by omega)):=Afb (by omega);rw[g] at b;rw[CL b] at a;have:=j _ (Azm (by omega:k<c.length));omega
theorem AgS(c:Nat)(X:WX)(names:List Aa)(ins:List Az)(i:Nat)(x:Az)(o:XOk X c)(p:(Dj ins i).length<=2^30) :
  ∃(t:Aa) (u:Int) (w:Aa) (y:Int) (z:V) (ok:Bool) (m:Aa×Int),Al Tryz.prog W0 39 [.sl (X.vs.map BC.enc),.s (Cy names x.a)] [] (.tup [.agg [.s t,.i .i64 u,.s w,.i .i64 y,z],.b ok]) []/\
   Al Tryz.prog W0 126 [X.L.enc,.i .i64 x.b,.sl ((Dj ins i).map V.s),.agg [.s t,.i .i64 u,.s w,.i .i64 y,z]] [] (.tup [.s m.1,.i .i64 m.2]) []/\
   (ok=true->MV X names ins i x=m)/\(ok=false->m.2≠0/\(MV X names ins i x).2=if m.2==18 then 18 else 12):=by
 have e:=Qa W0 X.vs (Cy names x.a) o.n (λv A=>(o.vals v A).1.len);unfold MV;cases q:JG X.vs (Cy names x.a) with
 | none=>
  rw[q] at e;refine⟨[],0,[],0,.nil,false,Mq X.L x.b (Dj ins i) ⟨[],0,[],0,[]⟩,e,?_,λh=>(by cases h),λ_=>⟨?_,rfl⟩⟩
  .refine CX (UV W0 X.L x.b (Dj ins i) ⟨[],0,[],0,[]⟩ (by simp) o.rules p) rfl λj a D l d=>?_
   match j with
   | 0=>simp at l d;subst l d;exact .refl _
   | 1=>simp at l d;subst l d;exact .refl _
   | 2=>simp at l d;subst l d;exact .refl _
   | 3=>
    simp at l d;subst l d;rw[BC.enc_eq];refine .agg _ _ rfl λk c E f g=>?_
    match k with
    | 0=>simp at f g;subst f g;exact .refl _
    | 1=>simp at f g;subst f g;exact .refl _
    | 2=>simp at f g;subst f g;exact .refl _
    | 3=>simp at f g;subst f g;exact .refl _
    | 4=>simp at f g;subst f g;exact .nil
    | k+5=>simp at f
   | j+4=>simp at l
  .have r:Ls x.b ⟨[],0,[],0,[]⟩=false:=by unfold Ls Js;simp
   unfold Mq;rw[r];split
   .simp
   .split
    .simp
    .simp
 | some v=>rw[q] at e;obtain⟨B,C⟩:=o.vals v (Jv q);simp only[eZ,gV,Atq] at e;have p:=UV W0 X.L x.b (Dj ins i) v (by omega) o.rules p;rw[BC.enc_eq] at e p;exact⟨_,_,_,_,_,true,_,e,p,λ_=>rfl,λh=>by cases h⟩
set_option maxHeartbeats 4000000 in
theorem Zn(c:Nat)(f b t:Id)(M:MX)(u:Bool)(l:Aa)(i:Nat)(x:Az)(hx:M.ins[i]?=some x)(hs:LZ M.names.length M.ins)(hX:XOk M.X c)(ak:b≠f)(av:x.op=10)(hl:M.ins.length<=2^30) :
  Al Tryz.prog W0 87 [.ref f 0,.i .i64 i] (BQ f M u b t (l,0)) (.i .i64 (Kj M.X M.names M.ins i x).1) (BQ f M u b t (l,(Kj M.X M.names M.ins i x).2)):=by
 have hi:i<M.ins.length:=(Af8.1 hx).1;have aA:(i<M.ins.length)=True:=eq_true hi;have ex:(M.ins.map Az.enc)[i]?=some (.agg [.i .i64 x.op,.i .i64 x.a,.i .i64 x.b,.s x.s]):=by rw[Akg,hx];rfl
 obtain⟨a0,a1⟩:=JJ (hs.pr i x hx) (by unfold J6;rw[av];rfl);have a2:(0<=x.a)=True:=eq_true a0;have a3:=rO a1;have aG:(M.ins.take (i+1)).length=i+1:=by rw[AxJ,Ay3 (by omega)]
 have ew:IntKind.i64.wrap ((i:Int)+1)=((M.ins.take (i+1)).length:Int):=by rw[wrap64 (by omega) (by omega),aG];simp
 have aT:(Dj M.ins i).length<=2^30:=by unfold Dj;obtain⟨q,hq⟩:=Om (M.ins.drop (i+1));have:=congrArg List.length hq;simp at this⊢;omega
 obtain⟨g1,g2,g3,g4,g5,ok,KV,az,E,D,ah⟩:=AgS W0 c M.X M.names M.ins i x hX aT;have O:=@QP M.X M.names M.ins i x;generalize K:Kj M.X M.names M.ins i x=C;unfold Kj at K;rw[BR.enc_eq] at E;have aB:=λw:Aa=>HV W0 t6 (Dj M.ins i) w (by omega);have ay:=λw:Aa=>@Qc (Dj M.ins i) w;have ai:Dj M.ins i=(BF (M.ins.drop (i+1))).map (·.s):=rfl;generalize hS:BF (M.ins.drop (i+1))=S at ai;have ax:∀I:Nat,I<(Dj M.ins i).length->∃y:Az,M.ins[i+1+I]?=some y/\aAt M.ins (i+1+I)=y.a:=by intro I hI;unfold Dj at hI;rw[Abn] at hI;obtain⟨y,_,h2,_⟩:=QC hI;rw[AxB] at h2;exact⟨y,h2,by unfold aAt;rw[h2]⟩
 refine Ae (vs:=[.i .i64 C.1]) Anu (by simp) Ajl λn0 aj=>?_;have hw:f.1<n0:=aj f _ (by simp[BQ,lk];rfl);have hb:b.1<n0:=aj b _ (by simp[BQ,lk,AfT ak];rfl);clear aj;simp only[push_cast,seval,reduceEqDiff,CB,ex,aA,ew,Abn];intros;rename_i k4 k3 k2 k1;obtain⟨y,hy⟩:∃y:Id,y=(n0+1+k4,5):=⟨_,rfl⟩
 obtain⟨n1,aD⟩:∃n,n=n0+1+k4+1+k3+1+k2+1+k1:=⟨_,rfl⟩;rw[<-hy,<-aD];have bn:n0<y.1:=by rw[hy];simp only;omega
 have aY:y.1<n1:=by rw[hy];simp only;omega
 have bc:n0<n1:=by omega
 clear hy aD;have r:f≠y:=λg=>by rw[g] at hw;omega
 have B:b≠y:=λg=>by rw[g] at hb;omega
 have H:=eq_false r;have J:=eq_false (AfT r);have e3:=eq_false B;have e4:=eq_false (AfT B);have e5:=eq_false ak;have e6:=eq_false (AfT ak);obtain⟨τ,U⟩:∃τ:Aj,τ=(y,A5.box (.agg [.i .i64 x.op,.i .i64 x.a,.i .i64 x.b,.s x.s]))::BQ f M u b t (l,0):=⟨_,rfl⟩
 rw[<-U];have tr:lk τ f=some (.tbox T4 (rC M (mA u f) b t 0)):=by rw[U];simp only[lk];rw[if_neg (AfT r)];exact CB
 have tn:∀id:Id,n1<=id.1->lk τ id=none/\del τ id=τ:=by
  intro id bl;have d1:y≠id:=λg=>by rw[g] at aY;omega
  have d2:f≠id:=λg=>by rw[g] at hw;omega
  have d3:b≠id:=λg=>by rw[g] at hb;omega
  rw[U];exact⟨by simp[BQ,lk,d1,d2,d3],by simp[BQ,del,d1,d2,d3]⟩
 refine Am (M.ins.drop (i+1)).length (Inv:=λm st=>∃c rest dn n o,dn=M.ins.take (i+1)++c/\M.ins=dn++rest/\m=rest.length/\c++BF rest=S/\(∀z∈c,z.op=11)/\n1<=n/\n1<=o.1/\o.1<n/\st=⟨[(0,.ref f 0),(1,.i .i64 i),(5,.ref y 0),(6,.arr o),(7,.i .i64 dn.length)],(o,.arr 9 1 ((c.map (·.s)).map V.s))::τ,n⟩) ⟨_,(Ak.own (s:=6) (e:=9) (sz:=1) (k:=0) rfl).trans (Ak.envD (env':=[(0,.ref f 0),(1,.i .i64 i),(5,.ref y 0),(6,.arr (n1,0)),(7,.i .i64 (M.ins.take (i+1)).length)]) (λs=>?_) (AzR _)),[],M.ins.drop (i+1),M.ins.take (i+1),_,(n1,0),by simp,(Ayp _ _).symm,rfl,hS,(by simp),by omega,AzR _,AzS _,rfl⟩ ?_
 .left;simp only[get];by_cases h6:6=s
  .subst h6;simp
  .simp[h6]
 clear hS;rintro m _ ⟨cs,rest,dn,n,o,N,G,rfl,hd,L,hn,Y,aR,rfl⟩;have d1:o≠f:=λg=>by rw[g] at Y;omega
 have ae:=eq_false d1;have td:=(tn o Y).2;cases rest with
 | nil=>
  exfalso;rw[Arm] at G;rw[G] at N;refine Adf hs hx av (c:=cs) ?_ L
  conv=>lhs;rw[G,N]
  rw[<-G]
 | cons z rest=>
  have aP:=AM G;have f1:=Su G;have f3:(dn.length<M.ins.length)=True:=eq_true (by rw[G];simp);rw[BF] at hd;cases F:(z.op==11) with
  | true=>
   rw[F] at hd;simp only[if_true] at hd;have aX:IntKind.i64.wrap ((dn.length:Int)+1)=((dn++[z]).length:Int):=Ai z (by omega);have aQ:cs.length+1<=AI:=by
    have:cs.length<=dn.length:=by rw[N];simp
    unfold AI;omega
   have ar:∀k j:Nat,((n+1+k,j)=o)=False:=λk j=>eq_false λg=>(by have:=congrArg Prod.fst g;(try simp only at this);omega)
   have au:∀k j:Nat,(o=(n+1+k,j))=False:=λk j=>eq_false λg=>of_eq_false (ar k j) g.symm;simp only[push_cast,seval,reduceEqDiff,tr,ae,f1,f3,F,aX,Abn,eq_true aQ,td,ar,au];intros;have hm:List.map V.s (List.map (λx=>x.s) cs)++[V.s z.s]=((cs++[z]).map (·.s)).map V.s:=by simp
   rw[hm];rename_i j3 j2 j1;refine⟨rest.length,_,AzS _,Ak.refl,cs++[z],rest,dn++[z],_,_,by rw[N];simp,by rw[G];simp,rfl,by rw[<-hd];simp,?_,?_,?_,?_,rfl⟩
   .intro q hq;rcases Am2.1 hq with h|h
    .exact L q h
    .simp at h;subst h;simpa using F
   .omega
   .simp only;omega
   .simp only;omega
  | false=>
   rw[F] at hd;simp only[AcT,if_false,Arm] at hd;subst hd;simp only[push_cast,seval,reduceEqDiff,tr,ae,f1,f3,F,Abn];intros;refine LW (Ak.frzAt (s:=6) (id:=o) rfl (tn o Y).1 (λy hy=>by obtain⟨z,_,rfl⟩:=AmB.1 hy;rfl) (AzR _)) ?_;rw[<-ai];rw[U];rename_i k5;obtain⟨n2,aE⟩:∃n2,n2=n+1+k5:=⟨_,rfl⟩
   rw[<-aE];have bd:n1<=n2:=by omega
   clear aE td ae d1 G aP f1 f3 F ai U tr tn Y aR N L ex aA ew aG;obtain⟨kb,W⟩:=KV;simp only at E D ah;have af:(ok=true/\(W==0)=true)\/(∃e,C=((i:Int),e)/\((ok=true/\(W==0)=false/\e=W)\/(ok=false/\(W==18)=true/\e=W)\/(ok=false/\(W==18)=false/\e=12))):=by
    cases ok with
    | true=>
     cases d:(W==0) with
     | true=>exact .inl ⟨rfl,rfl⟩
     | false=>refine .inr ⟨W,?_,.inl ⟨rfl,rfl,rfl⟩⟩;rw[D rfl] at K;simp only[d,AcT,if_false] at K;exact K.symm
    | false=>
     obtain⟨h1,h2⟩:=ah rfl;rw[h2] at K;refine .inr ⟨if(W==18)=true then 18 else 12,?_,?_⟩
     .rw[<-K];split<;>rfl
     .cases aO:(W==18) with
      | true=>exact .inr (.inl ⟨rfl,rfl,by simpa using(by simpa using aO:W=18).symm⟩)
      | false=>exact .inr (.inr ⟨rfl,rfl,rfl⟩)
   rcases af with⟨rfl,d⟩|⟨e,rfl,hE⟩
   .have aU:=D rfl;rw[aU] at K O;simp only[d,if_true] at K;obtain⟨i0,i1⟩:=ay kb (O d);have aC:=aB kb;generalize B7 (λy=>kb==y) (Dj M.ins i)=I at *;obtain⟨j,rfl⟩:∃j:Nat,I=j:=⟨I.toNat,by omega⟩
    obtain⟨q,aF,aW⟩:=ax j (by omega);rw[AvY,aW] at K;subst K;have aS:=(Af8.1 aF).1;have w1:IntKind.i64.wrap ((i:Int)+1)=(i:Int)+1:=wrap64 (by omega) (by omega);have w2:IntKind.i64.wrap ((i:Int)+1+(j:Int))=(i:Int)+1+(j:Int):=wrap64 (by omega) (by omega);have w3:(0<=(i:Int)+1+(j:Int))=True:=eq_true (by omega);have w4:((i:Int)+1+(j:Int)).toNat=i+1+j:=by omega
    have A:(i+1+j<M.ins.length)=True:=eq_true aS;have Z:(M.ins.map Az.enc)[i+1+j]?=some (.agg [.i .i64 q.op,.i .i64 q.a,.i .i64 q.b,.s q.s]):=by rw[Akg,aF];rfl
    simp only[push_cast,seval,reduceEqDiff,H,J,CB,a2,a1,a3,Abn,w1,w2,w3,w4,A,Z,bne,d];have _h:=trivial;repeat' (first|(first|((first|apply Ab|apply Ag|apply Ah)<;>intro _h)|refine Ac az ?_|refine Ar (by omega) ?_)<;>simp only[push_cast,seval,reduceEqDiff,_h,H,J,CB,a2,a1,a3,Abn,w1,w2,w3,w4,A,Z,bne,d]|intro _)
    generalize G:((_,8):Id)=z;have v:y.1<z.1:=by rw[<-G];simp only;omega
    have p:z≠f:=λg=>by rw[g] at v;omega
    have T:z≠y:=λg=>by rw[g] at v;omega
    have z1:=eq_false p;have z2:=eq_false (AfT p);have z5:=eq_false T;have z6:=eq_false (AfT T);simp only[push_cast,seval,reduceEqDiff,H,J,z1,z2,z5,z6,CB,a2,a1,a3,Abn,w1,w2,w3,w4,A,Z,bne,d];have _h:=trivial;repeat' (first|(first|((first|apply Ab|apply Ag|apply Ah)<;>intro _h)|refine Ac E ?_|refine Ac aC ?_|refine Ar (by omega) ?_)<;>simp only[push_cast,seval,reduceEqDiff,_h,H,J,z1,z2,z5,z6,CB,a2,a1,a3,Abn,w1,w2,w3,w4,A,Z,bne,d]|intro _)
    refine Bn ?_ (Cq (st:=(l,0)) r B (AfT p) (λg=>by rw[<-g] at v;omega));simp[get]
   .skip;simp only[push_cast,seval,reduceEqDiff,H,J,CB,a2,a1,a3,Abn];have _h:=trivial;repeat' (first|(first|((first|apply Ab|apply Ag|apply Ah)<;>intro _h)|refine Ac az ?_|refine Ar (by omega) ?_)<;>simp only[push_cast,seval,reduceEqDiff,_h,H,J,CB,a2,a1,a3,Abn]|intro _)
    generalize G:((_,8):Id)=z;have v:y.1<z.1:=by rw[<-G];simp only;omega
    have p:z≠f:=λg=>by rw[g] at v;omega
    have T:z≠y:=λg=>by rw[g] at v;omega
    have R:z≠b:=λg=>by rw[g] at v;omega
    have z1:=eq_false p;have z2:=eq_false (AfT p);have z3:=eq_false R;have z4:=eq_false (AfT R);have z5:=eq_false T;have z6:=eq_false (AfT T);clear K D ah O ay ax aB;rcases hE with⟨rfl,d,rfl⟩|⟨rfl,d,rfl⟩|⟨rfl,d,rfl⟩
    .skip;simp only[push_cast,seval,reduceEqDiff,H,J,e3,e4,e5,e6,z1,z2,z3,z4,z5,z6,BQ,lk,Abn,bne,d];have _h:=trivial;repeat' (first|(first|((first|apply Ab|apply Ag|apply Ah)<;>intro _h)|refine Ac E ?_|refine Ar (by omega) ?_)<;>simp only[push_cast,seval,reduceEqDiff,_h,H,J,e3,e4,e5,e6,z1,z2,z3,z4,z5,z6,BQ,lk,Abn,bne,d]|intro _)
     refine Bn ?_ (Cq (st:=(l,e)) r B (AfT p) (AfT R));simp[get]
    .have D:e=18:=by simpa using d
     subst D;simp only[push_cast,seval,reduceEqDiff,H,J,e3,e4,e5,e6,z1,z2,z3,z4,z5,z6,BQ,lk,Abn,bne];have _h:=trivial;repeat' (first|(first|((first|apply Ab|apply Ag|apply Ah)<;>intro _h)|refine Ac E ?_|refine Ar (by omega) ?_)<;>simp only[push_cast,seval,reduceEqDiff,_h,H,J,e3,e4,e5,e6,z1,z2,z3,z4,z5,z6,BQ,lk,Abn,bne]|intro _)
     refine Bn ?_ (Cq (st:=(l,18)) r B (AfT p) (AfT R));simp[get]
    .skip;simp only[push_cast,seval,reduceEqDiff,H,J,e3,e4,e5,e6,z1,z2,z3,z4,z5,z6,BQ,lk,Abn,bne,d];have _h:=trivial;repeat' (first|(first|((first|apply Ab|apply Ag|apply Ah)<;>intro _h)|refine Ac E ?_|refine Ar (by omega) ?_)<;>simp only[push_cast,seval,reduceEqDiff,_h,H,J,e3,e4,e5,e6,z1,z2,z3,z4,z5,z6,BQ,lk,Abn,bne,d]|intro _)
     refine Bn ?_ (Cq (st:=(l,12)) r B (AfT p) (AfT R));simp[get]
def GC(a:List Int):List V:=a.map (V.i .i64)
def MRT(d:Id)(M:MX)(b:Id)(st:Aa×Int)(e:List Int)(next:Int)(n n':Nat)(v:V)(σ':Aj):Prop:=
 v=.i .i64 next/\∃(f:Bool) (a c:Id),(n<=a.1/\a.1<n'\/a=b)/\(n<=c.1/\c.1<n')/\a≠c/\σ'=BQ d M f a c st++[(c,.arr 3 1 (GC e))]
theorem AcY{σ:Aj}{y t:Id}{Y T:A5}(b:lk σ y=none)(d:y≠t):∀i e,lk (σ++[(t,T)]) i=some e->lk (σ++[(y,Y),(t,T)]) i=some e:=by
 induction σ with
 | nil=>
  intro i e h;simp only[AwM,lk] at h⊢;split at h
  .rename_i f;subst f;rw[if_neg d,if_pos rfl];exact h
  .cases h
 | cons p σ g=>
  obtain⟨a,A⟩:=p;intro i e h;simp only[Auh,lk] at h b⊢;split at b
  .cases b
  .split at h
   .rename_i c;rw[if_pos c];exact h
   .rename_i c;rw[if_neg c];exact g b i e h
theorem aI{a b t y:Id}{M:MX}{u:Bool}{st:Aa×Int}{Y T:A5}(f:a≠t)(g:b≠t)(j:a≠y)(k:b≠y)(l:y≠t):∀i e,lk (BQ a M u b t st++[(t,T)]) i=some e->lk ((y,Y)::(t,T)::BQ a M u b t st) i=some e:=by
 intro i e h;by_cases c:a=i
 .subst c;simp[BQ,lk] at h⊢;simp[AfT j,AfT f,h]
 .by_cases d:b=i
  .subst d;simp[BQ,lk,c] at h⊢;simp[AfT g,AfT k,h]
  .by_cases c3:t=i
   .subst c3;simp[BQ,lk,c,d] at h⊢;simp[l,h]
   .simp[BQ,lk,c,d,c3] at h
theorem Sq{nn:Nat}{ins:List Az}{i:Nat}{x:Az}(h:AG nn ins i x=true)(a:(x.op==11)=false)(b:(x.op==13)=false):x.op=1\/x.op=2\/x.op=3\/x.op=4\/(5<=x.op/\x.op<=9)\/x.op=10\/x.op=12:=by have:=Ze h;simp only[beq_eq_false_iff_ne] at a b;omega
set_option maxHeartbeats 4000000 in
theorem Acc(hM:Bi W0)(hT:Bu W0)(c:Nat)(d b t:Id)(M:MX)(u:Bool)(l:Aa)(Z:List Int)(i:Nat)(x:Az)(hx:M.ins[i]?=some x)(hs:LZ M.names.length M.ins)(hX:XOk M.X c)(S:b≠d)(af:b≠t)(ag:d≠t)
  (ax:(x.op==11)=false)(ay:(x.op==13)=false)(hl:M.ins.length<=2^30)(aD:∀y∈M.ins,y.s.length<=2^24)(h:l.length<=20000)(a2:Z.length<=2^30) :
  Ez Tryz.prog W0 55 [.ref d 0,.i .i64 i] (BQ d M u b t (l,0)++[(t,.arr 3 1 (GC Z))]) (MRT d M b (DS M.X M.names M.ins i x (l,0)).1 (Z++[(i:Int)]) (DS M.X M.names M.ins i x (l,0)).2):=by
 have hi:i<M.ins.length:=(Af8.1 hx).1;have aC:(i<M.ins.length)=True:=eq_true hi;have ex:(M.ins.map Az.enc)[i]?=some (.agg [.i .i64 x.op,.i .i64 x.a,.i .i64 x.b,.s x.s]):=by rw[Akg,hx];rfl
 have an:=hs.pr i x hx;have aE:=aD x (AzT hx);have al:(Z.length+1<=AI)=True:=eq_true (by unfold AI;omega);generalize B:DS M.X M.names M.ins i x (l,0)=P;unfold DS at B;generalize hR:MRT d M b P.1 (Z++[(i:Int)]) P.2=R;refine BN An6 (by simp) λn0 ab=>?_;have hw:d.1<n0:=ab d _ (by simp[BQ,lk];rfl);have hb:b.1<n0:=ab b _ (by simp[BQ,lk,AfT S];rfl);have ht:t.1<n0:=ab t _ (kY (AfT (AfT ag)) af);clear ab;have e1:=eq_false S;have e2:=eq_false (AfT S);have e3:=eq_false af;have e4:=eq_false (AfT af);have e5:=eq_false ag;have e6:=eq_false (AfT ag);have q1:∀k j:Nat,((n0+1+k,j)=d)=False:=λk j=>eq_false λA=>(by have:=congrArg Prod.fst A;(try simp only at this);omega)
 have ap:∀k j:Nat,(d=(n0+1+k,j))=False:=λk j=>eq_false λA=>of_eq_false (q1 k j) A.symm;have q2:∀k j:Nat,((n0+1+k,j)=b)=False:=λk j=>eq_false λA=>(by have:=congrArg Prod.fst A;(try simp only at this);omega)
 have aq:∀k j:Nat,(b=(n0+1+k,j))=False:=λk j=>eq_false λA=>of_eq_false (q2 k j) A.symm;have q3:∀k j:Nat,((n0+1+k,j)=t)=False:=λk j=>eq_false λA=>(by have:=congrArg Prod.fst A;(try simp only at this);omega)
 have aJ:∀k j:Nat,(t=(n0+1+k,j))=False:=λk j=>eq_false λA=>of_eq_false (q3 k j) A.symm;simp only[push_cast,seval,reduceEqDiff,BQ,lk,e1,e2,e3,e4,e5,e6,q1,ap,q2,aq,ex,aC,al,GC,Abn];intros;rename_i k5 k4 k3 k2 k1;obtain⟨K,ac⟩:∃y:Id,y=(n0+1+k5,13):=⟨_,rfl⟩
 obtain⟨y,hy⟩:∃y:Id,y=(n0+1+k5+1+k4,5):=⟨_,rfl⟩;obtain⟨n1,am⟩:∃n,n=n0+1+k5+1+k4+1+k3+1+k2+1+k1:=⟨_,rfl⟩;rw[<-am,<-hy,<-ac];have a1:n0<K.1:=by rw[ac];simp only;omega
 have aF:K.1<y.1:=by rw[ac,hy];simp only;omega
 have a3:y.1<n1:=by rw[hy];simp only;omega
 clear ac hy am q1 ap q2 aq q3 aJ al;rw[<-Af0 M (mA u d) b K 0,show([(d,A5.tbox T4 (rC M (mA u d) b K 0)),(b,A5.arr 5 1 (Ay l))]:Aj)=BQ d M u b K (l,0) from rfl,
  show(Z.map (V.i .i64)++[V.i .i64 (i:Int)])=GC (Z++[(i:Int)]) from by simp[GC]]
 have f:d≠K:=λA=>by rw[A] at hw;omega
 have e:b≠K:=λA=>by rw[A] at hb;omega
 have m:d≠y:=λA=>by rw[A] at hw;omega
 have r:b≠y:=λA=>by rw[A] at hb;omega
 have ad:y≠K:=λA=>by rw[A] at aF;omega
 have N:∀(ah:Aa×Int) (next:Int) (n2 n3:Nat) (Y:Bool) (U:Id) (env:A9),n1<=n2->n2<=n3->(n1<=U.1/\U.1<n2\/U=b)->get env 4=.i .i64 next->MRT d M b ah (Z++[(i:Int)]) next=R->
   AeG W0 74 [.t 4] R n0 .ret ⟨env,BQ d M Y U K ah++[(y,.box (.agg [.i .i64 x.op,.i .i64 x.a,.i .i64 x.b,.s x.s])),(K,.arr 3 1 (GC (Z++[(i:Int)])))],n3⟩:=by
  intro ah next n2 n3 Y U env h1 h2 z hg aA
  subst aA;have ak:U≠y:=λA=>by rcases z with h|h;(rw[A] at h;omega);exact r (h ▸ A)
  have aj:U≠K:=λA=>by rcases z with h|h;(rw[A] at h;omega);exact e (h ▸ A)
  exact⟨_,Ak.refl,[.i .i64 next],_,⟨hg,trivial⟩,AcY (Tp m ak) ad,rfl,Y,U,K,Kt z (by omega) (by simp only;omega),⟨by omega,by simp only;omega⟩,aj,rfl⟩
 have L:IntKind.i64.wrap ((i:Int)+1)=(i:Int)+1:=wrap64 (by omega) (by omega);have F:∀k:Int,x.op≠k->(x.op==k)=false:=λk h=>by simpa using h
 have T:∀k:Int,x.op=k->(x.op==k)=true:=λk h=>by simpa using h
 have E:=eq_false m;have G:=eq_false (AfT m);have H:=eq_false f;have I:=eq_false (AfT f);have J:=eq_false ad;have f6:=eq_false (AfT ad);rcases Sq an ax ay with o|o|o|o|o|o|o
 .have p:=T 1 o;have g:=F 10 (by omega);have q:=F 12 (by omega);simp only[g,q,AcT,if_false] at B;unfold Zh at B;simp only[p,AcT,if_false,if_true] at B;subst B;simp only[push_cast,seval,reduceEqDiff,p,L,E,G,H,I,J,f6];intros;refine Bd (FO W0 d b K M u l x.s S (by(try simp only[AhT,AiL,Ank]);omega)) (Cq (st:=(l,0)) f e m r) (λn2 v σo aa O=>?_);obtain⟨rfl,Y,U,z,rfl⟩:=O;rw[DW f e m r];simp only[push_cast,seval,reduceEqDiff,p,L,E,G,H,I,J,f6];intros;exact N _ _ n2 _ Y U _ (by omega) (by omega) (Kt z (by omega) (by omega)) (by simp[get]) hR
 .have p:=F 1 (by omega);have w:=T 2 o;have g:=F 10 (by omega);have q:=F 12 (by omega);simp only[g,q,AcT,if_false] at B;unfold Zh at B;simp only[p,w,AcT,if_false,if_true] at B;subst B;simp only[push_cast,seval,reduceEqDiff,p,w,L,E,G,H,I,J,f6];intros;refine Ar (by unfold AJ;(try simp only[AhT,AiL,Ank]);omega) ?_;simp only[push_cast,seval,reduceEqDiff,p,w,L,E,G,H,I,J,f6];intros;refine Ar (by unfold AJ;(try simp only[AhT,AiL,Ank]);omega) ?_;simp only[push_cast,seval,reduceEqDiff,p,w,L,E,G,H,I,J,f6];intros;refine Bd (FO W0 d b K M u l (60::(x.s++[62])) S (by(try simp only[AhT,AiL,Ank]);omega)) (Cq (st:=(l,0)) f e m r) (λn2 v σo aa O=>?_);obtain⟨rfl,Y,U,z,rfl⟩:=O;rw[DW f e m r];simp only[push_cast,seval,reduceEqDiff,p,w,L,E,G,H,I,J,f6];intros;exact N _ _ n2 _ Y U _ (by omega) (by omega) (Kt z (by omega) (by omega)) (by simp[get]) hR
 .have p:=F 1 (by omega);have w:=F 2 (by omega);have D:=T 3 o;have g:=F 10 (by omega);have q:=F 12 (by omega);simp only[g,q,AcT,if_false] at B;unfold Zh at B;simp only[p,w,D,AcT,if_false,if_true] at B;subst B;simp only[push_cast,seval,reduceEqDiff,p,w,D,L,E,G,H,I,J,f6];intros;refine Ar (by unfold AJ;(try simp only[AhT,AiL,Ank]);omega) ?_;simp only[push_cast,seval,reduceEqDiff,p,w,D,L,E,G,H,I,J,f6];intros;refine Ar (by unfold AJ;(try simp only[AhT,AiL,Ank]);omega) ?_;simp only[push_cast,seval,reduceEqDiff,p,w,D,L,E,G,H,I,J,f6];intros;refine Bd (FO W0 d b K M u l (60::47::(x.s++[62])) S (by(try simp only[AhT,AiL,Ank]);omega)) (Cq (st:=(l,0)) f e m r) (λn2 v σo aa O=>?_);obtain⟨rfl,Y,U,z,rfl⟩:=O;rw[DW f e m r];simp only[push_cast,seval,reduceEqDiff,p,w,D,L,E,G,H,I,J,f6];intros;exact N _ _ n2 _ Y U _ (by omega) (by omega) (Kt z (by omega) (by omega)) (by simp[get]) hR
 .have p:=F 1 (by omega);have w:=F 2 (by omega);have D:=F 3 (by omega);have W:=T 4 o;have g:=F 10 (by omega);have q:=F 12 (by omega);simp only[g,q,AcT,if_false] at B;unfold Zh at B;simp only[p,w,D,W,AcT,if_false,if_true] at B;subst B;simp only[push_cast,seval,reduceEqDiff,p,w,D,W,L,E,G,H,I,J,f6];intros;refine Ar (by unfold AJ;(try simp only[AhT,AiL,Ank]);omega) ?_;simp only[push_cast,seval,reduceEqDiff,p,w,D,W,L,E,G,H,I,J,f6];intros;refine Ar (by unfold AJ;(try simp only[AhT,AiL,Ank]);omega) ?_;simp only[push_cast,seval,reduceEqDiff,p,w,D,W,L,E,G,H,I,J,f6];intros;refine Ar (by unfold AJ;(try simp only[AhT,AiL,Ank]);omega) ?_;simp only[push_cast,seval,reduceEqDiff,p,w,D,W,L,E,G,H,I,J,f6];intros;refine Ar (by unfold AJ;(try simp only[AhT,AiL,Ank]);omega) ?_;simp only[push_cast,seval,reduceEqDiff,p,w,D,W,L,E,G,H,I,J,f6];intros;refine Bd (FO W0 d b K M u l (60::(x.s++[62,60,47]++x.s++[62])) S (by(try simp only[AhT,AiL,Ank]);omega)) (Cq (st:=(l,0)) f e m r) (λn2 v σo aa O=>?_);obtain⟨rfl,Y,U,z,rfl⟩:=O;rw[DW f e m r];simp only[push_cast,seval,reduceEqDiff,p,w,D,W,L,E,G,H,I,J,f6];intros;exact N _ _ n2 _ Y U _ (by omega) (by omega) (Kt z (by omega) (by omega)) (by simp[get]) hR
 .have p:=F 1 (by omega);have w:=F 2 (by omega);have D:=F 3 (by omega);have W:=F 4 (by omega);have g:=F 10 (by omega);have q:=F 12 (by omega);simp only[g,q,AcT,if_false] at B;unfold Zh at B;simp only[p,w,D,W,AcT,if_false] at B;subst B;have ai:=AhZ W0 hM hT c d b K M u l x hX S h o (JJ an (by unfold J6;simp;omega)) aE;rw[Az.enc_eq] at ai;simp only[push_cast,seval,reduceEqDiff,p,w,D,W,g,q,L,E,G,H,I,J,f6];intros;refine Bd ai (Cq (st:=(l,0)) f e m r) (λn2 v σo aa O=>?_);obtain⟨rfl,Y,U,z,rfl⟩:=O;rw[DW f e m r];simp only[push_cast,seval,reduceEqDiff,p,w,D,W,g,q,L,E,G,H,I,J,f6];intros;exact N _ _ n2 _ Y U _ (by omega) (by omega) (Kt z (by omega) (by omega)) (by simp[get]) hR
 .have p:=F 1 (by omega);have w:=F 2 (by omega);have D:=F 3 (by omega);have W:=F 4 (by omega);have g:=T 10 o;simp only[g,if_true] at B;have az:P=((l,(Kj M.X M.names M.ins i x).2),(Kj M.X M.names M.ins i x).1):=by
   rw[<-B];by_cases h0:((Kj M.X M.names M.ins i x).2==0)=true
   .have aw:(Kj M.X M.names M.ins i x).2=0:=by simpa using h0
    rw[if_pos h0,aw]
   .rw[if_neg h0]
  rw[az] at hR;have aB:=Zn W0 c d b K M u l i x hx hs hX S o hl;generalize Kj M.X M.names M.ins i x=C at *;simp only[push_cast,seval,reduceEqDiff,p,w,D,W,g,L,E,G,H,I,J,f6];intros;refine Bw aB (Cq (st:=(l,0)) f e m r) ?_;rw[DW f e m r];simp only[push_cast,seval,reduceEqDiff,p,w,D,W,g,L,E,G,H,I,J,f6];intros;exact N _ _ n1 _ u b _ (by omega) (by omega) (.inr rfl) (by simp[get]) hR
 .have p:=F 1 (by omega);have w:=F 2 (by omega);have D:=F 3 (by omega);have W:=F 4 (by omega);have g:=F 10 (by omega);have q:=T 12 o;simp only[g,q,AcT,if_false,if_true] at B;subst B;subst hR;simp only[push_cast,seval,reduceEqDiff,p,w,D,W,g,q,L,E,G,H,I,J,f6];intros;exact⟨_,Ak.refl,[.i .i64 x.a],BQ d M u b K (l,0)++[(K,.arr 3 1 (GC (Z++[(i:Int)])))],⟨by simp[Dp,get],trivial⟩,aI f e m r ad,rfl,u,b,K,.inr rfl,⟨by omega,by simp only;omega⟩,e,rfl⟩
theorem uK{nn:Nat}{ins:List Az}(hs:LZ nn ins):(CV ins 0==11)=false:=by
 cases h:(CV ins 0==11) with
 | false=>rfl
 | true=>
  have hg:ins[0]?=some (ins[0]'hs.po):=Afb hs.po
  rw[CL hg] at h
  have hp:=hs.pr _ _ hg
  unfold AG at hp
  rw[show(ins[0]'hs.po).op=11 by simpa using h] at hp
  simp at hp
def Kw(names:List Aa)(ins:List Az):Bool:=(Cv names ins).2==0
def KD(X:WX)(names:List Aa)(ins:List Az):Aa×Int:=
 if Kw names ins then(if(F4 X names ins).1.2==0 then((F4 X names ins).1.1,0) else([],(F4 X names ins).1.2)) else([],1)
def HN(X:WX)(names:List Aa)(ins:List Az):List Int×Int:=if Kw names ins then((F4 X names ins).2,0) else([],1)
def MST(M:MX)(n n':Nat)(v:V)(σ':Aj):Prop:=
 (Kw M.names M.ins=false/\v=.np/\σ'=[])\/(Kw M.names M.ins=true/\∃(u:Bool) (a b t:Id),n<=a.1/\b≠a/\b≠t/\a≠t/\v=.ref a 0/\σ'=BQ a M u b t (F4 M.X M.names M.ins).1++[(t,.arr 3 1 (GC (F4 M.X M.names M.ins).2))])
theorem Nq{X:WX}{names:List Aa}{ins:List Az}{i:Nat}{x:Az}{st:Aa×Int}(h:(st.2==0)=true)(a:aA st):aA (DS X names ins i x st).1:=by
 unfold DS;split
 .intro _;exact a h
 .split
  .exact a
  .exact aV (a h) _
def rA(M:MX):List V:=[.sl (M.names.map V.s),.sl (M.ins.map Az.enc),.s M.X.L.tag,.s M.X.L.parent,.s M.X.L.dir,.sl (M.X.L.card.map AF.enc),.sl (M.X.L.ord.map AF.enc),.s M.X.L.dec,.s M.X.L.grp,.s M.X.L.minus,.s M.X.L.perc,.i .i64 M.X.L.prim,.i .i64 M.X.L.sec,.sl (M.X.L.lists.map CJ.enc),.sl (M.X.L.units.map D6.enc),.sl (M.X.L.dates.map CO.enc),.sl (M.X.L.months.map V.s),.sl (M.X.L.days.map V.s),.sl (M.X.vs.map BC.enc),.b M.X.iso]
theorem AcN{W0:World}{nt n:Nat}{env:A9}{M:MX}{b a:Id}{C D:A5}{d:Id}(e:b.1<n)(f:a.1<n)(g:b≠a)(o:d≠b)(q:d≠a) :
  Ak W0 nt ⟨env,[(b,.tbox T4 (.agg (rA M++[.np,.nil,.nil,.i .i64 0]))),(d,D),(a,C)],n⟩ ⟨env,(BQ b M false (n,0) (n+1,1) ([],0)++[((n+1,1),.arr 3 1 (GC []))])++[(a,C)],n+1+1⟩:=by
 have j:((n,0):Id)≠b:=λc=>by rw[<-c] at e;simp only at e;omega
 have k:((n,0):Id)≠a:=λc=>by rw[<-c] at f;simp only at f;omega
 have l:((n+1,1):Id)≠b:=λc=>by rw[<-c] at e;simp only at e;omega
 have m:((n+1,1):Id)≠a:=λc=>by rw[<-c] at f;simp only at f;omega
 have r:((n+1,1):Id)≠(n,0):=λc=>by cases c
 refine(Ak.sub (σ':=[(b,.tbox T4 (.agg ((rA M++[.np])++.nil::[.nil,.i .i64 0]))),(a,C)]) ?_ ?_ (AzR n)).trans ((Ak.ownTbox (A:=rA M++[.np]) (B:=[.nil,.i .i64 0]) 5 1 0).trans ((Ak.sub (σ':=[(b,.tbox T4 (.agg ((rA M++[.np,.arr (n,0)])++.nil::[.i .i64 0]))),((n,0),.arr 5 1 []),(a,C)]) ?_ ?_ (AzR (n+1))).trans ((Ak.ownTbox (A:=rA M++[.np,.arr (n,0)]) (B:=[.i .i64 0]) 3 1 1).trans (Ak.sub ?_ ?_ (AzR (n+1+1))))))
 .simp[g,q,AfT o]
 .intro p hp;simp at hp⊢;rcases hp with h|h<;>simp[h]
 .simp[j,k,g]
 .intro p hp;simp at hp⊢;rcases hp with h|h|h<;>simp[h]
 .simp[k,l,m,g,AfT j]
 .intro p hp;simp[BQ,rC,rA,mA,Ay,GC] at hp⊢;rcases hp with h|h|h|h<;>simp[h]
theorem sA{a b t:Id}{M:MX}{u:Bool}{st:Aa×Int}{T:A5}(f:a≠t)(g:b≠t):∀i e,lk (BQ a M u b t st++[(t,T)]) i=some e->lk ((t,T)::BQ a M u b t st) i=some e:=by
 intro i e h;by_cases c:a=i
 .subst c;simp[BQ,lk] at h⊢;simp[AfT f,h]
 .by_cases d:b=i
  .subst d;simp[BQ,lk,c] at h⊢;simp[AfT g,h]
  .by_cases c3:t=i
   .subst c3;simp[BQ,lk,c,d] at h⊢;simp[h]
   .simp[BQ,lk,c,d,c3] at h
theorem fL{σi σo:Aj}{x:Id}{C:A5}(h:∀q∈σi,x≠q.1):over σi σo (σi++[(x,C)])=σo++[(x,C)]:=by have:=IL (σi:=σi) (σo:=σo) (pre:=[]) (post:=[(x,C)]) (λp hp=>by cases hp) (λp hp q a=>by simp at hp;subst hp;exact h q a);simpa using this
set_option maxHeartbeats 4000000 in
theorem VD(hM:Bi W0)(hT:Bu W0)(c:Nat)(M:MX)(hX:XOk M.X c)(hn:M.names.length<=2^20)(hl:M.ins.length<=2^20)(aC:∀s∈M.names,s.length<=2^24)(ai:∀y∈M.ins,y.s.length<=2^24) :
  Ez Tryz.prog W0 33 [AH M.names M.ins,M.X.L.enc,.sl (M.X.vs.map BC.enc),.b M.X.iso] [] (MST M):=by
 have al:=Qi W0 M.names M.ins (by omega) (by omega) (λs h=>by have:=aC s h;unfold AJ;omega) (λy h=>by have:=ai y h;omega);generalize hR:MST M=R;generalize ae:Cv M.names M.ins=CK at *;obtain⟨c1,c2⟩:=CK;have Y:Kw M.names M.ins=(c2==0):=by unfold Kw;rw[ae]
 rw[BR.enc_eq];unfold AH at *;refine BN AqI (by simp) λn0 aB=>?_;clear aB;cases p:(c2==0) with
 | false=>
  have T:(c2 !=0)=true:=by simp[bne,p]
  simp only[push_cast,seval,reduceEqDiff];have _h:=trivial;repeat' (first|(first|((first|apply Ab|apply Ag|apply Ah)<;>intro _h)|refine Ac al ?_)<;>simp only[push_cast,seval,reduceEqDiff,_h,T]|intro _)
  subst hR;exact⟨_,Ak.refl,[.np],[],⟨rfl,trivial⟩,(λi e h=>by cases h),.inl ⟨by rw[Y,p],rfl,rfl⟩⟩
 | true=>
  have T:(c2 !=0)=false:=by simp[bne,p]
  simp only[push_cast,seval,reduceEqDiff];have _h:=trivial;repeat' (first|(first|((first|apply Ab|apply Ag|apply Ah)<;>intro _h)|refine Ac al ?_)<;>simp only[push_cast,seval,reduceEqDiff,_h,T]|intro _)
  rename_i k4 k3 k2 k1;have hs:=sD (names:=M.names) (ins:=M.ins) (by rw[ae];exact p);obtain⟨d,l⟩:∃y:Id,y=(n0+1+k4+1+k3+1+k2,25):=⟨_,rfl⟩
  obtain⟨n1,ag⟩:∃n,n=n0+1+k4+1+k3+1+k2+1+k1:=⟨_,rfl⟩;rw[<-ag,<-l];have D:n0<d.1:=by rw[l];simp only;omega
  have aE:d.1<n1:=by rw[l];simp only;omega
  have r:d≠(n0,4):=λj=>by rw[j] at D;simp only at D;omega
  have aF:((n0,5):Id)≠d:=λj=>by rw[<-j] at D;simp only at D;omega
  clear ag l;obtain⟨f,B⟩:∃y:Id,y=(n0,4):=⟨_,rfl⟩
  have aZ:f.1<d.1:=by rw[B];exact D
  have ay:((n0,5):Id)≠f:=by rw[B];exact λj=>by cases j
  rw[<-B] at r⊢;refine LW (AcN (M:=M) aE (by omega) r aF ay) ?_;simp only[push_cast,seval,reduceEqDiff];intro k5;generalize hS:F4 M.X M.names M.ins=S;have ab:=hS;unfold F4 at hS;refine Am (M.ins.length+1) (Inv:=λm st=>∃z w E u b t n,J0 M.X M.names M.ins m z.toNat w E=S/\((w.2==0)=true->0<=z/\M.ins.length<m+z.toNat/\z<(M.ins.length:Int)/\(CV M.ins z.toNat==11)=false)/\aA w/\E.length+m<=M.ins.length+1/\b≠t/\n1<=b.1/\b.1<n/\n1<=t.1/\t.1<n/\st=⟨[(4,.ref f 0),(11,.ref d 0),(12,.i .i64 z)],(BQ d M u b t w++[(t,.arr 3 1 (GC E))])++[(f,.box (.agg [.sl (M.names.map V.s),.sl (M.ins.map Az.enc)]))],n⟩) ⟨_,Ak.refl,0,([],0),[],false,(n1,0),(n1+1,1),_,hS,λ_=>⟨Int.le_refl _,by simp,by have:=hs.po;omega,uK hs⟩,λ_=>by simp,by simp,λj=>(by cases j),AzR _,by simp only;omega,Am9 _,by simp only;omega,rfl⟩ ?_;clear hS;rintro m _ ⟨z,w,E,u,b,t,n,F,hw,hI,a4,H,O,aY,ak,a1,rfl⟩;have A:b≠d:=λj=>by rw[j] at O;omega
  have G:b≠f:=λj=>by rw[j] at O;omega
  have N:t≠d:=λj=>by rw[j] at ak;omega
  have K:t≠f:=λj=>by rw[j] at ak;omega
  obtain⟨C,hC⟩:∃C:A5,C=.box (.agg [.sl (M.names.map V.s),.sl (M.ins.map Az.enc)]):=⟨_,rfl⟩;rw[<-hC];have lr:lk ((BQ d M u b t w++[(t,.arr 3 1 (GC E))])++[(f,C)]) d=some (.tbox T4 (rC M (mA u d) b t w.2)):=by simp[BQ,lk]
  have lc:lk ((BQ d M u b t w++[(t,.arr 3 1 (GC E))])++[(f,C)]) f=some (.box (.agg [.sl (M.names.map V.s),.sl (M.ins.map Az.enc)])):=by rw[hC];simp[BQ,lk,G,K,r]
  cases g:(w.2==0) with
  | false=>
   have ax:S=(w,E):=by rw[<-F];cases m<;>simp[J0,g]
   simp only[push_cast,seval,reduceEqDiff,lr,g];intros;subst hR;exact⟨_,Ak.refl,[.ref d 0],_,⟨by simp[Dp,get],trivial⟩,λi e h=>AB h,.inr ⟨by rw[Y,p],u,d,b,t,by omega,A,H,AfT N,rfl,by rw[ab,ax]⟩⟩
  | true=>
   obtain⟨z0,af,a6,o⟩:=hw g;obtain⟨i,rfl⟩:∃i:Nat,z=i:=⟨z.toNat,by omega⟩;rw[AvY] at F af o;cases m with
   | zero=>omega
   | succ m=>
   obtain⟨x,hx⟩:∃x,M.ins[i]?=some x:=⟨_,Afb (by omega)⟩;have ex:(M.ins.map Az.enc)[i]?=some (.agg [.i .i64 x.op,.i .i64 x.a,.i .i64 x.b,.s x.s]):=by rw[Akg,hx];rfl
   have U:(i<M.ins.length)=True:=eq_true (by omega);rw[J0,g] at F;simp only[if_true,hx] at F;rw[CL hx] at o;have aG:w=(w.1,0):=by
    have:w.2=0:=by simpa using g
    rw[<-this]
   have aH:=hI g;cases k:(x.op==13) with
   | true=>
    rw[k] at F;simp only[if_true] at F;have az:(E.length+1<=AI)=True:=eq_true (by unfold AI;omega);have f1:=eq_false A;have f2:=eq_false (AfT A);have f3:=eq_false H;have f4:=eq_false (AfT H);have f5:=eq_false N;have f6:=eq_false (AfT N);have f7:=eq_false K;have f8:=eq_false (AfT K);have f9:=eq_false G;have f10:=eq_false (AfT G);have f11:=eq_false r;have aa:=eq_false (AfT r);rw[hC];simp only[push_cast,seval,reduceEqDiff,BQ,lk,f1,f2,f3,f4,f5,f6,f7,f8,f9,f10,f11,aa,g,ex,U,bne,k,az,GC,Abn];intros;rename_i k7 k6;obtain⟨q,Z⟩:∃q:Id,q=(n+1+k7+1+k6,55):=⟨_,rfl⟩
    rw[<-Z];have W:n<=q.1:=by rw[Z];simp only;omega
    clear Z;have J:d≠q:=λj=>by rw[<-j] at W;omega
    have I:b≠q:=λj=>by rw[<-j] at W;omega
    have ah:q≠f:=λj=>by rw[j] at W;omega
    have q1:=eq_false J;have q2:=eq_false (AfT J);have q3:=eq_false I;have q4:=eq_false (AfT I);have q5:=eq_false ah;have q6:=eq_false (AfT ah);simp only[push_cast,seval,reduceEqDiff,BQ,lk,f1,f2,f3,f4,f5,f6,f7,f8,f9,f10,f11,aa,q1,q2,q3,q4,q5,q6,GC];intros;subst hR;refine⟨_,Ak.refl,[.ref d 0],BQ d M u b q w++[(q,.arr 3 1 (GC (E++[(i:Int)])))],⟨by simp[Dp,get],trivial⟩,λi e h=>?_,.inr ⟨by rw[Y,p],u,d,b,q,by omega,A,I,J,rfl,by rw[ab,<-F]⟩⟩;have:=AB (τ:=[(f,A5.box (.agg [.sl (M.names.map V.s),.sl (M.ins.map Az.enc)]))]) (sA J I i e h);rw[GC,Azd] at this;exact this
   | false=>
    rw[k] at F;simp only[AcT,if_false] at F;have aj:=Acc W0 hM hT c d b t M u w.1 E i x hx hs hX A H (AfT N) o k (by omega) ai aH (by omega);rw[<-aG] at aj;have aD:=@N6 M.X M.names M.ins i x w hs hx o k;have au:=@Nq M.X M.names M.ins i x w g hI;generalize DS M.X M.names M.ins i x w=P at *;simp only[push_cast,seval,reduceEqDiff,lr,lc,g,ex,U,bne,k,Abn];intros;rename_i k7 k6;refine Bd aj (λi e h=>AB h) (λn2 v σo a0 aw=>?_);obtain⟨rfl,u1,b1,t1,ac,⟨a2,a3⟩,ad,rfl⟩:=aw;rw[fL (λq Z=>by
     simp only[BQ,Auh,AwM,Am8,AxN,or_false] at Z;rcases Z with rfl|rfl|rfl
     .exact AfT r
     .exact AfT G
     .exact AfT K)]
    simp only[push_cast,seval,reduceEqDiff,lr,lc,g,ex,U,bne,k,Abn];intros;refine⟨m,_,AzS _,Ak.refl,P.2,P.1,E++[(i:Int)],u1,b1,t1,_,F,λh0=>?_,au,by simp;omega,ad,?_,?_,by omega,?_,rfl⟩
    .obtain⟨x1,x2,x3⟩:=aD h0 g;exact⟨by omega,by omega,x2,x3⟩
    .rcases ac with h|h
     .omega
     .rw[h];exact O
    .rcases ac with h|h
     .omega
     .rw[h];omega
    .omega
theorem Od(σo σ:Aj):over [] σo σ=σo++σ:=by have:=EF (σi:=[]) (σo:=σo) (pre:=σ) (λp hp q a=>by cases a);simpa using this
theorem lF{X:WX}{names:List Aa}{ins:List Az}:∀(n i:Nat) (st:Aa×Int) (a:List Int),aA st->aA (J0 X names ins n i st a).1:=by
 intro n
 induction n with
 | zero=>intro i st a h;exact h
 | succ n c=>
  intro i st a h;rw[J0];split
  .rename_i b;split
   .exact h
   .split
    .exact h
    .exact c _ _ _ (Nq b h)
  .exact h
theorem vG{X:WX}{names:List Aa}{ins:List Az}:(KD X names ins).1.length<=20000:=by
 unfold KD;split
 .split
  .rename_i h;exact lF _ _ _ _ (λ_=>by simp) h
  .simp
 .simp
theorem YI{W0:World}{nt n s r:Nat}{env:A9}{σ:Aj}{id:Id}{e sz:Nat}{es:List V}{v:V}(f:s≠r)(l:get env s=.arr id)(m:get env r=v)(p:lk σ id=some (.arr e sz es))(d:∀y∈es,y.ok=true):KC W0 nt [.t s,.t r] [.sl es,v] [] .ret ⟨env,σ,n⟩:=by
 refine⟨⟨[(s,.sl es),(r,v)],[],n⟩,Ak.weak (λi=>if i=id then some es else none) (λi es' h=>?_) (λt=>?_) (λi q h=>by cases h) (AzR _),⟨by simp[Dp,get],by simp[Dp,get,f],trivial⟩,λ_ _ h=>by cases h⟩
 .split at h
  .rename_i o;subst o;cases h;exact⟨⟨e,sz,p⟩,rfl⟩
  .cases h
 .by_cases h:s=t
  .subst h;rw[l];simp only[get];refine .arr id es es (by simp) rfl (λk c j b a=>?_) (λk c j b a=>?_)
   .rw[b] at a;cases a;exact .refl _
   .rw[b] at a;cases a;have:=d c (AzT b);exact⟨rfl,this,this⟩
  .by_cases g:r=t
   .subst g;rw[m];simp only[get];simp[h];exact .refl _
   .simp only[get,if_neg h,if_neg g];exact .any _
structure MOk (M:MX) (c:Nat):Prop where
 X:XOk M.X c
 n:M.names.length<=2^20
 l:M.ins.length<=2^20
 ns:∀s∈M.names,s.length<=2^24
 ss:∀y∈M.ins,y.s.length<=2^24
set_option maxHeartbeats 4000000 in
theorem o8(o:Bi W0)(q:Bu W0)(c:Nat)(M:MX)(h:MOk M c) :
  Al Tryz.prog W0 29 [AH M.names M.ins,M.X.L.enc,.sl (M.X.vs.map BC.enc),.b M.X.iso] [] (.tup [.s (KD M.X M.names M.ins).1,.i .i64 (KD M.X M.names M.ins).2]) []:=by
 have j:=VD W0 o q c M h.X h.n h.l h.ns h.ss;have f:=@vG M.X M.names M.ins;generalize hS:KD M.X M.names M.ins=S at *;unfold KD at hS;rw[BR.enc_eq] at *;unfold AH at *;refine Ae (vs:=[.s S.1,.i .i64 S.2]) Arp (by simp) (by simp) λn0 g=>?_;clear g;simp only[push_cast,reduceEqDiff];intros;refine Bd j (λi e h=>by cases h) (λz v σo r p=>?_);rw[Od];rcases p with⟨hsf,rfl,rfl⟩|⟨hsf,u,rid,b,t,hr,hbr,hbt,hrt,rfl,rfl⟩
 .rw[hsf] at hS;simp only[AcT] at hS;subst hS;simp only[push_cast,reduceEqDiff];intros;refine Ad ?_;simp[push_cast]
 .rw[hsf] at hS;simp only[if_true] at hS;generalize F4 M.X M.names M.ins=Q at *;obtain⟨w,y⟩:=Q;simp only at hS⊢;have k:∀τ:Aj,lk ((BQ rid M u b t w++[(t,.arr 3 1 (GC y))])++τ) rid=some (.tbox T4 (rC M (mA u rid) b t w.2)):=λτ=>by simp[BQ,lk]
  cases a:(w.2==0) with
  | false=>rw[a] at hS;simp only[AcT] at hS;subst hS;simp only[push_cast,reduceEqDiff,k,bne,a];intros;refine Ad ?_;simp[push_cast]
  | true=>
   rw[a] at hS;simp only[if_true] at hS;subst hS;have d:Al Tryz.prog W0 45 [.ref rid 20] [(rid,.tbox T4 (rC M (mA u rid) b t w.2)),(b,.arr 5 1 (Ay w.1))] (.s w.1) [(rid,.tbox T4 (rC M (mA u rid) b t w.2))]:=
    K8 (off:=20) (by kernel_rfl) rfl hbr (by unfold AJ;simp only at f;omega) λb v B w' m x=>K3 b 20 w.1 v B w' m x
   simp only[push_cast,reduceEqDiff,k,bne,a];intros;refine Bw d (λi e h=>AB (AB h)) ?_;simp only[push_cast,reduceEqDiff];intros;refine Ad ?_;simp[push_cast]
set_option maxHeartbeats 4000000 in
theorem RG(g:Bi W0)(k:Bu W0)(c:Nat)(M:MX)(h:MOk M c) :
  Al Tryz.prog W0 15 [AH M.names M.ins,M.X.L.enc,.sl (M.X.vs.map BC.enc),.b M.X.iso] [] (.tup [.sl (GC (HN M.X M.names M.ins).1),.i .i64 (HN M.X M.names M.ins).2]) []:=by
 have d:=VD W0 g k c M h.X h.n h.l h.ns h.ss;generalize hS:HN M.X M.names M.ins=S at *;unfold HN at hS;rw[BR.enc_eq] at *;unfold AH at *;refine Ae (vs:=[.sl (GC S.1),.i .i64 S.2]) ApT (by simp) (by simp) λn0 a=>?_;clear a;simp only[push_cast,reduceEqDiff];intros;refine Bd d (λi e h=>by cases h) (λx v σo m j=>?_);rw[Od];rcases j with⟨hsf,rfl,rfl⟩|⟨hsf,u,rid,b,t,hr,hbr,hbt,hrt,rfl,rfl⟩
 .rw[hsf] at hS;simp only[AcT] at hS;subst hS;simp only[push_cast,reduceEqDiff];intros;exact⟨⟨[(8,.sl []),(9,.i .i64 1)],[],_⟩,Ak.weak (λ_=>none) (λ_ _ h=>by cases h) (λt=>by
   by_cases h:8=t
   .subst h;simp only[get];simp;exact .nil
   .by_cases f:9=t
    .subst f;simp only[get];simp;exact .refl _
    .simp only[get,if_neg h,if_neg f];exact .any _) (λ_ _ h=>by cases h) (AzR _),⟨by simp[Dp,get,GC],by simp[Dp,get],trivial⟩,λ_ _ h=>by cases h⟩
 .rw[hsf] at hS;simp only  at hS;generalize F4 M.X M.names M.ins=Q at *;obtain⟨w,q⟩:=Q;simp only at hS⊢;subst hS;have p:∀τ:Aj,lk ((BQ rid M u b t w++[(t,.arr 3 1 (GC q))])++τ) rid=some (.tbox T4 (rC M (mA u rid) b t w.2)):=λτ=>by simp[BQ,lk]
  simp only[push_cast,reduceEqDiff,p];intros;refine YI (s:=8) (r:=9) (id:=t) (e:=3) (sz:=1) (by decide) (by simp[get]) (by simp[get]) ?_ (λy o=>by obtain⟨z,_,rfl⟩:=AmB.1 o;rfl);exact AB (kY (AfT (AfT hrt)) hbt)
theorem gC(d:Bi W0)(e:Bu W0)(c:Nat)(M:MX)(h:MOk M c) :
  Al Tryz.prog W0 16 [iP M.X.L M.X.vs M.X.iso,AH M.names M.ins] [] (.tup [.s (KD M.X M.names M.ins).1,.i .i64 (KD M.X M.names M.ins).2]) []:=by
 have b:=o8 W0 d e c M h;rw[BR.enc_eq] at b;rw[Ht];unfold AH at *;generalize KD M.X M.names M.ins=S at *;refine Ae (vs:=[.s S.1,.i .i64 S.2]) ArH (by simp) (by simp) λn0 a=>?_;clear a;simp only[push_cast,seval,reduceEqDiff];have _h:=trivial;repeat' (first|(first|((first|apply Ab|apply Ag|apply Ah)<;>intro _h)|refine Ac b ?_)<;>simp only[push_cast,seval,reduceEqDiff,_h]|intro _)
 refine Ad ?_;simp[push_cast,get]
end Go.Ir

namespace Go.Ir
open Go.Proofs Go.RowKit
variable(W0:World)
def AkI(names:List Aa)(ins:List Az)(L:BR)(vs:List BC):Bool:=
 (Nat.ble names.length 1000&&Nat.ble ins.length 1000)&&((lenB 1000 names&&Zc 1000 ins)&&As8 L [] vs)
def Acx:List V->Option (MX)
 | [.agg [a,b],l,vs,.b iso]=>(Mf Cw a).bind λnames=>(Mf Acn b).bind λins=>(cZ l).bind λL=>(Mf TG vs).bind λvs=>bif AkI names ins L vs then some ⟨⟨L,vs,iso⟩,names,ins⟩ else none
 | _=>none
theorem V0(z:Bu W0){args:List V}{M:MX}(h:Acx args=some M):MOk M (El M.X.L.months+El M.X.L.days+24)/\args.length=4/\
  ∀(k:Nat) (a m:V),args[k]?=some a->([AH M.names M.ins,M.X.L.enc,.sl (M.X.vs.map BC.enc),.b M.X.iso]:List V)[k]?=some m->Jw (λ_=>none) a m:=by
 unfold Acx at h;split at h
 .rename_i a b l E iso;obtain⟨names,t,h⟩:=Aem.1 h;obtain⟨ins,u,h⟩:=Aem.1 h;obtain⟨L,w,h⟩:=Aem.1 h;obtain⟨vs,y,h⟩:=Aem.1 h;cases g:AkI names ins L vs with
  | false=>rw[g] at h;cases h
  | true=>
   rw[g] at h;cases h;unfold AkI As8 at g;simp only[AzP,decide_eq_true_eq,Am3,Azo,Ay8] at g;obtain⟨⟨q1,q2⟩,⟨q3,D⟩,o,F,p,q,G,H,r⟩:=g;have A:=wS W0 z L vs iso o p q (by omega) (by omega) λv B=>by obtain⟨q1,q2⟩:=r v B;exact⟨⟨by omega,by rw[q2];simp,by rw[q2];simp⟩,by omega⟩
   refine⟨⟨A,by simp only;omega,by simp only;omega,λs g=>by have:=Ya q3 s g;omega,λx C=>by have:=Wc D x C;omega⟩,rfl,λk a m e d=>?_⟩
   match k with
   | 0=>
    simp at e d;subst e d;refine .agg _ _ rfl λj c I i f=>?_
    match j with
    | 0=>simp at i f;subst i f;exact(Eu B3 _ _ t).1
    | 1=>simp at i f;subst i f;exact(Eu Vl _ _ u).1
    | j+2=>simp at i
   | 1=>simp at e d;subst e d;exact(uZ _ _ w).1
   | 2=>simp at e d;subst e d;exact(Eu aE _ _ y).1
   | 3=>simp at e d;subst e d;exact .refl _
   | k+4=>simp at e
 .cases h
def AoY(args:List V):Option V:=(Acx args).map λM=>.tup [.s (KD M.X M.names M.ins).1,.i .i64 (KD M.X M.names M.ins).2]
theorem AsF(e:Bi W0)(a:Bu W0):AX Tryz.prog W0 (onP 29 AoY):=kN λargs v h=>by obtain⟨M,f,rfl⟩:=AeM.1 h;obtain⟨b,c,d⟩:=V0 W0 a f;exact⟨CX (o8 W0 e a _ M b) c d,rfl⟩
def cK(args:List V):Option V:=(Acx args).map λM=>.tup [.sl (GC (HN M.X M.names M.ins).1),.i .i64 (HN M.X M.names M.ins).2]
theorem tK(l:List Int)(e:Int):Nv (.tup [.sl (GC l),.i .i64 e])=true:=by
 have h:∀l:List Int,HW (GC l)=true:=by
  intro l
  induction l with
  | nil=>rfl
  | cons a l b=>simp only[GC,AlG,HW,Nv,Au4];exact b
 simp only[Nv,HW,h,Ax6]
theorem Ac4(e:Bi W0)(a:Bu W0):AX Tryz.prog W0 (bL 15 cK):=Lc λargs v h=>by obtain⟨M,f,rfl⟩:=AeM.1 h;obtain⟨b,c,d⟩:=V0 W0 a f;exact⟨CX (RG W0 e a _ M b) c d,tK _ _⟩
end Go.Ir
section
set_option maxRecDepth 1000000
namespace Go.Ir
open Go.Proofs
noncomputable def Aql:AV:=orC (bL 135 HQ) (orC (bL 244 Pm) (orC (bL 190 mH)
 (orC (onP 96 O5) (orC (bL 30 Sv) (orC (onP 29 AoY) (bL 15 cK))))))
theorem AbE(W0:World)(a:Bi W0)(b:Bu W0):AX Tryz.prog W0 Aql:=
 JU (Sk W0) (JU (fQ W0) (JU (AjX W0) (JU (sW W0) (JU (Ab1 W0) (JU (AsF W0 a b) (Ac4 W0 a b))))))
theorem SD:Ao9 (LD evM Aql 100000 100 11 [] [] 0)=some (.b true):=by kernel_rfl
theorem lB(W0:World)(a:Bi W0)(c:Bu W0):Al Tryz.prog W0 11 [] [] (.b true) []:=Ra Ahk (AbE W0 a c) sO SD rfl rfl
end Go.Ir
end
namespace Go.Ir
open Go.Proofs
theorem AuG:Tryz.prog.cellsOf 57=4:=by kernel_rfl
theorem Aru:Tryz.prog.cellsOf 40=1:=by kernel_rfl
theorem Ao6:Tryz.prog.cellsOf 42=2:=by kernel_rfl
theorem At1:CW Tryz.prog 57=some true:=by kernel_rfl
def S7(x:Az):Nat:=bw x.s
theorem AiC(c:List V)(h:Ew Tryz.prog 57 c):∃x:Az,V.agg c=x.enc/\S7 x<=A8 c:=by obtain⟨g,a⟩:=h.st_inv Tryz.underlying57;rw[AuG] at g;obtain⟨l,m,o,p,rfl⟩:=Anh g;have b:=a _ (by exact Age);have d:=a _ (by exact AzQ _ Age);have e:=a _ (by exact AzQ _ (AzQ _ Age));have f:=a _ (by exact AzQ _ (AzQ _ (AzQ _ Age)));simp only[c9,c3,Awv,AuI,AtZ,AvS] at b d e f;obtain⟨n0,rfl,_⟩:=b.int_inv Tryz.underlying3;obtain⟨i,rfl,_⟩:=d.int_inv Tryz.underlying3;obtain⟨j,rfl,_⟩:=e.int_inv Tryz.underlying3;obtain⟨k,rfl⟩:=f.str_inv Tryz.underlying9;exact⟨⟨n0,i,j,k⟩,rfl,by simp only[S7,bw,A8,BG];omega⟩
theorem AaL(c:List V)(h:Ew Tryz.prog 42 c):∃names ins,V.agg c=AH names ins/\Dk bw names<=A8 c/\Dk S7 ins<=A8 c:=by
 obtain⟨e,d⟩:=h.st_inv Tryz.underlying42;rw[Ao6] at e;obtain⟨j,k,rfl⟩:=xC e;have a:=d _ (by exact Age);have b:=d _ (by exact AzQ _ Age);simp only[lU,Aru,Awv,AuI,AtZ,AvS] at a b;obtain⟨i,rfl,f⟩:=La j a;obtain⟨is,rfl,g⟩:=Dn b Tryz.underlying40 At1 Az.enc S7 AiC;refine⟨i,is,rfl,?_,?_⟩
 .simp only[A8,BG] at f⊢;omega
 .simp only[A8,BG] at g⊢;omega
theorem P8(s:Aa):1<=bw s/\s.length<=bw s:=by unfold bw;omega
end Go.Ir

namespace Go.Ir
open Go.Proofs
variable(W0:World)
theorem X5{ins:List Az}:∀{dn rest:List Int} {k y x:Int},Up ins k (dn++y::x::rest)->y<x
 | [],rest,k,y,x,h=>by have:=h.2.2.2.1;omega
 | d::dn,rest,k,y,x,h=>X5 h.2.2.2
theorem Aff{ins:List Az}:∀{dn rest:List Int} {k x:Int},Up ins k (dn++x::rest)->k<=x/\x<(ins.length:Int)/\(CV ins x.toNat==11)=false
 | [],rest,k,x,h=>⟨h.1,h.2.1,h.2.2.1⟩
 | d::dn,rest,k,x,h=>by have a:=Aff h.2.2.2;have b:=h.1;exact⟨by omega,a.2⟩
theorem Abk{X:WX}{names:List Aa}{ins:List Az}(h:Kw names ins=true):∃r,(F4 X names ins).2=0::r/\Up ins 0 (0::r)/\(((F4 X names ins).1.2==0)=true->∃j,(0::r).getLast?=some j/\CV ins j.toNat=13):=by
 have b:=sD h;obtain⟨l,c,d,e,f⟩:=Alb (X:=X) b (ins.length+1) 0 ([],0) [] b.po (uK b);have a:=e rfl (by omega);cases l with
 | nil=>cases a
 | cons z r=>simp at a;subst a;exact⟨r,c,d,λh=>f h (by omega)⟩
theorem nM{ins:List Az}:∀{l:List Int} {k x:Int},Up ins k l->x∈l->k<=x/\x<(ins.length:Int)
 | y::l,k,x,h,a=>by
  rcases Am8.1 a with rfl|a
  .exact⟨h.1,h.2.1⟩
  .have b:=nM h.2.2.2 a;have c:=h.1;exact⟨by omega,b.2⟩
theorem eU{ins:List Az}:∀{l:List Int} {k:Int},Up ins k l->0<=k->(l.length:Int)+k<=max k (ins.length:Int)
 | [],k,_,_=>by simp;omega
 | x::l,k,h,d=>by have a:=eU h.2.2.2 (by have:=h.1;omega);have b:=h.1;have c:=h.2.1;simp only[AiL];omega
theorem Aiv(f:Bu W0){names:List Aa}{ins:List Az}{L:BR}{vs:List BC}{iso:Bool}(i:names.length<=2^20)(g:ins.length<=2^20)(b:∀s∈names,s.length<=2^20)(c:∀x∈ins,x.s.length<=2^20)
  (hp:-9223372036854775808<=L.prim)(j:L.sec<9223372036854775808)(d:A7 L.card+A7 L.ord<=2^24)(e:vs.length<=2^40)(a:(Ix L&&C6 (decide ((vs.length:Int)<=30)) vs)=true) :
  MOk ⟨⟨L,vs,iso⟩,names,ins⟩ (El L.months+El L.days+24):=by
 rw[AzP] at a;exact⟨zO W0 f L vs iso hp j d e a.1 a.2,i,g,λs h=>by have:=b s h;omega,λx h=>by have:=c x h;omega⟩
set_option maxHeartbeats 4000000 in
theorem Jx(hM:Bi W0)(hT:Bu W0)(p:Al Tryz.prog W0 11 [] [] (.b true) [])(names:List Aa)(ins:List Az)(L:BR)(vs:List BC)(iso:Bool)(hn:names.length<=2^20)(hl:ins.length<=2^20)(ak:∀s∈names,s.length<=2^20)(al:∀x∈ins,x.s.length<=2^20)
  (hp:-9223372036854775808<=L.prim)(hs:L.sec<9223372036854775808)(h1:Nb L<=2^40)(h2:A7 L.card+A7 L.ord<=2^24)(h4:vs.length<=2^40)(h5:∀v∈vs,v.list.length<=2^40) :
  Al Tryz.prog W0 4 [AH names ins,iP L vs iso] [] (.b true) []:=by
 have c:=AgW W0 names ins (by omega) (by omega);have l:=mD W0 L vs iso h1 h2 h4 h5;have E:=Ail W0 names ins (by omega);cases hA:XE names ins with
 | false=>
  rw[hA] at c;rw[Ht] at *;unfold AH at *;refine Ae (vs:=[.b true]) AcP (by simp) (by simp) λn0 g=>?_;clear g;simp only[push_cast,seval,reduceEqDiff];have _h:=trivial;repeat' (first|(first|((first|apply Ab|apply Ag|apply Ah)<;>intro _h)|refine Ac p ?_|refine Ac c ?_)<;>simp only[push_cast,seval,reduceEqDiff,_h]|intro _)
  all_goals exact Af (by simp[get])
 | true=>
 cases hB:(Ix L&&C6 (decide ((vs.length:Int)<=30)) vs) with
 | false=>
  rw[hA] at c;rw[hB] at l;rw[Ht] at *;unfold AH at *;refine Ae (vs:=[.b true]) AcP (by simp) (by simp) λn0 g=>?_;clear g;simp only[push_cast,seval,reduceEqDiff];have _h:=trivial;repeat' (first|(first|((first|apply Ab|apply Ag|apply Ah)<;>intro _h)|refine Ac p ?_|refine Ac c ?_|refine Ac l ?_)<;>simp only[push_cast,seval,reduceEqDiff,_h]|intro _)
  all_goals exact Af (by simp[get])
 | true=>
 have aa:=Aiv W0 hT (iso:=iso) hn hl ak al hp hs h2 h4 hB;have f:=RG W0 hM hT _ _ aa;have e:=gC W0 hM hT _ _ aa;simp only at f e;have am:=@Abk ⟨L,vs,iso⟩ names ins;rw[hA] at c;rw[hB] at l;unfold HN at f;unfold KD at e;generalize F4 ⟨L,vs,iso⟩ names ins=S at *;obtain⟨⟨S1,S2⟩,tr⟩:=S;rw[BR.enc_eq] at f;rw[Ht] at *;cases hC:Kw names ins with
 | false=>
  simp only[hC,AcT,if_false] at f e;unfold AH at *;refine Ae (vs:=[.b true]) AcP (by simp) (by simp) λn0 g=>?_;clear g;simp only[push_cast,seval,reduceEqDiff];have _h:=trivial;repeat' (first|(first|((first|apply Ab|apply Ag|apply Ah)<;>intro _h)|refine Ac p ?_|refine Ac c ?_|refine Ac l ?_|refine Ac E ?_|refine Ac f ?_)<;>simp only[push_cast,seval,reduceEqDiff,_h]|intro _)
  all_goals (refine Af ?_;simp[get,GC])
 | true=>
 obtain⟨r,h6,N,h8⟩:=am hC;simp only at h6 h8;simp only[hC,if_true] at f e;subst h6;unfold AH at *;have R:(GC (0::r))[0]?=some (.i .i64 0):=rfl;have X:(0<(GC (0::r)).length)=True:=eq_true (by simp[GC]);have Z:(((GC (0::r)).length:Int)==0)=false:=by simp[GC];omega
 generalize A:GC (0::r)=T at *;refine Ae (vs:=[.b true]) AcP (by simp) (by simp) λn0 g=>?_;clear g;simp only[push_cast,seval,reduceEqDiff,R,X,Z];have _h:=trivial;repeat' (first|(first|((first|apply Ab|apply Ag|apply Ah)<;>intro _h)|refine Ac p ?_|refine Ac c ?_|refine Ac l ?_|refine Ac E ?_|refine Ac f ?_)<;>simp only[push_cast,seval,reduceEqDiff,_h,R,X,Z]|intro _)
 rename_i k8 k7 k6 k5 k4 k3 k2 k1;obtain⟨o5,D⟩:∃y:Id,y=(n0+1+k8+1+k7+1+k6,5):=⟨_,rfl⟩
 have M:((n0,3):Id)≠o5:=by rw[D];intro he;cases congrArg Prod.snd he
 rw[<-D];clear D;have aC:=eq_false M;have ae:=eq_false (AfT M);generalize H:([(o5,_),((n0,3),_),((n0,2),_)]:Aj)=τ;have t5:lk τ o5=some (.box (.agg [.sl (names.map V.s),.sl (ins.map Az.enc)])):=by rw[<-H];simp[lk]
 have t3:lk τ (n0,3)=some (.box (.agg [.s L.tag,.s L.parent,.s L.dir,.sl (L.card.map AF.enc),.sl (L.ord.map AF.enc),.s L.dec,.s L.grp,.s L.minus,.s L.perc,.i .i64 L.prim,.i .i64 L.sec,.sl (L.lists.map CJ.enc),.sl (L.units.map D6.enc),.sl (L.dates.map CO.enc),.sl (L.months.map V.s),.sl (L.days.map V.s),.sl (vs.map BC.enc),.b iso])):=by rw[<-H];simp[lk,ae]
 clear H;have B:T.length=r.length+1:=by rw[<-A];simp[GC]
 have ay:r.length+1<=2^24:=by have:=eU N (by omega);simp only[AiL] at this;omega
 have C:∀(dn rest:List Int) (x:Int),(0::r)=dn++x::rest->T[dn.length]?=some (.i .i64 x):=λdone rest x h=>by rw[<-A,h];simp[GC]
 have W:∀j:Nat,j<ins.length->∃z:Az,CV ins j=z.op/\(ins.map Az.enc)[j]?=some (.agg [.i .i64 z.op,.i .i64 z.a,.i .i64 z.b,.s z.s]):=λj h=>⟨ins[j],CL (Afb h),by rw[Akg,Afb h];rfl⟩
 clear A p c l E f;refine Am (r.length+1) (Inv:=λm st=>∃dn rest n,(0::r)=dn++rest/\m=rest.length/\st=⟨[(3,.ref (n0,3) 0),(5,.ref o5 0),(6,.sl T),(8,.i .i64 dn.length)],τ,n⟩) ⟨_,Ak.refl,[],0::r,_,rfl,rfl,rfl⟩ ?_;rintro m _ ⟨dn,rest,n,F,rfl,rfl⟩;cases rest with
 | cons x rest=>
  have aj:dn.length<r.length+1:=by have:=congrArg List.length F;simp at this;omega
  rw[F] at N;obtain⟨u1,u2,u3⟩:=Aff N;obtain⟨j,rfl⟩:∃j:Nat,x=j:=⟨x.toNat,by omega⟩
  rw[AvY] at u3;obtain⟨z,G,q⟩:=W j (by omega);rw[G] at u3;have gx:=C dn rest j F;have I:decide ((dn.length:Int)<(T.length:Int))=true:=by rw[B];simp;omega
  have b1:(dn.length<T.length)=True:=eq_true (by omega);have b2:(j<ins.length)=True:=eq_true (by omega);have b3:decide ((j:Int)>=(ins.length:Int))=false:=decide_eq_false (by omega);have b4:IntKind.i64.wrap ((dn.length:Int)+1)=((dn++[(j:Int)]).length:Int):=Ai _ (by omega);rcases Az5 dn with rfl|⟨d,y,rfl⟩
  .have c0:decide ((0:Int)<(T.length:Int))=true:=decide_eq_true (by omega);have J:T[0]?=some (.i .i64 (j:Int)):=gx;have K:(0<T.length)=True:=eq_true (by omega);simp only[push_cast,seval,reduceEqDiff,t5,t3,J,q,u3,c0,K,b2,b3,Abn];intros;exact⟨_,_,AzS _,Ak.refl,[]++[(j:Int)],rest,_,by rw[F];simp,rfl,rfl⟩
  .rw[Az6] at *;have c0:decide ((((d++[y]).length:Nat):Int)>0)=true:=by simp
   have O:(d++[y]).length=d.length+1:=by simp
   have J:IntKind.i64.wrap (((d++[y]).length:Int)-1)=(d.length:Int):=by rw[wrap64 (by omega) (by omega),O];omega
   have gy:=C d (j::rest) y (by rw[F];simp);have K:(d.length<T.length)=True:=eq_true (by simp at aj;omega);have c3:decide ((j:Int)<=y)=false:=by have:=X5 (dn:=d) (y:=y) (x:=(j:Int)) (rest:=rest) (k:=0) (by simpa using N);exact decide_eq_false (by omega)
   simp only[push_cast,seval,reduceEqDiff,t5,t3,gx,gy,q,u3,I,b1,b2,b3,b4,c0,J,K,c3,Abn];intros;exact⟨_,_,AzS _,Ak.refl,(d++[y])++[(j:Int)],rest,_,by rw[F];simp,rfl,rfl⟩
 | nil=>
  have I:decide ((dn.length:Int)<(T.length:Int))=false:=by have:=congrArg List.length F;simp at this;rw[B];simp;omega
  cases o:(S2==0) with
  | false=>
   simp only[o,AcT,if_false] at e;simp only[push_cast,seval,reduceEqDiff,t5,t3,I,bne,o,Abn];have _h:=trivial;repeat' (first|(first|((first|apply Ab|apply Ag|apply Ah)<;>intro _h)|refine Ac e ?_|refine Ar (by omega) ?_)<;>simp only[push_cast,seval,reduceEqDiff,_h,t5,t3,I,bne,o,Abn]|intro _)
   exact Af (by simp[get])
  | true=>
   simp only[o,if_true] at e;obtain⟨j,w,t⟩:=h8 o;have aH:=nM N (List.mem_of_getLast? w);obtain⟨j,rfl⟩:∃k:Nat,j=k:=⟨j.toNat,by omega⟩
   rw[AvY] at t;obtain⟨z,G,q⟩:=W j (by omega);rw[G] at t;have U:T[r.length]?=some (.i .i64 (j:Int)):=by
    rw[List.getLast?_eq_getElem?] at w;have af:(0::r).length-1=r.length:=by simp
    rw[af] at w;have Y:r.length<(0::r).length:=by simp
    have:=C ((0::r).take r.length) [] j (by have u:=(Ayp r.length (0::r)).symm;rw[Azs Y,List.drop_eq_nil_of_le (by simp)] at u;rw[Afb Y] at w;injection w with w;rw[w] at u;exact u)
    rwa [AxJ,Ay3 (by simp)] at this
   have J:IntKind.i64.wrap ((T.length:Int)-1)=(r.length:Int):=by rw[B,wrap64 (by omega) (by omega)];simp
   have K:(r.length<T.length)=True:=eq_true (by omega);have c3:(j<ins.length)=True:=eq_true (by omega);have c4:(z.op==13)=true:=by simp[t]
   simp only[push_cast,seval,reduceEqDiff,t5,t3,I,J,K,c3,c4,U,q,Abn];have _h:=trivial;repeat' (first|(first|((first|apply Ab|apply Ag|apply Ah)<;>intro _h)|refine Ac e ?_|refine Ar (by omega) ?_)<;>simp only[push_cast,seval,reduceEqDiff,_h,t5,t3,I,J,K,c3,c4,U,q,Abn]|intro _)
   exact Af (by simp[get])
end Go.Ir

namespace Go.Ir
open Go.Proofs
theorem Ai9:Tryz.prog.cellsOf 44=18:=by kernel_rfl
theorem TT(c:List V)(h:Ew Tryz.prog 44 c):∃L vs iso,V.agg c=iP L vs iso/\Nb L<=200*A8 c/\A7 L.card+A7 L.ord<=A8 c/\Dk BC.wt vs<=A8 c/\-9223372036854775808<=L.prim/\L.sec<9223372036854775808:=by
 obtain⟨w,f⟩:=h.st_inv Tryz.underlying44;rw[Ai9] at w;obtain⟨a,r,rfl,t,x⟩:∃a r,c=a++r/\a.length=16/\r.length=2:=⟨c.take 16,c.drop 16,(Ayp 16 c).symm,by simp;omega,by simp;omega⟩;obtain⟨d,e,rfl⟩:=xC x;have o:=f _ (by exact Age);have p:=f _ (by exact AzQ _ Age);have q:=f _ (by exact AzQ _ (AzQ _ Age));clear f;have b:(a++[d,e]).drop 16=[d,e]:=by rw[<-t,AzH]
 have g:(a++[d,e]).drop 17=[e]:=by rw[<-Az0 (i:=1) (j:=16),b];rfl
 have m:(a++[d,e]).take 16=a:=by rw[<-t,List.take_left]
 simp only[AmN,Asm,AfU,Awv,b,g,m,AtZ,AvS] at o p q;obtain⟨L,s,u,v,k,l⟩:=Aj5 a o;obtain⟨vs,rfl,y⟩:=z7 d p;obtain⟨iso,rfl⟩:=q.bool_inv Tryz.underlying4;refine⟨L,vs,iso,?_,?_,?_,?_,k,l⟩
 .rw[BR.enc_eq] at s;cases s;rw[Ht];rfl
 all_goals (rw[Fx];simp only[A8];omega)
end Go.Ir
