/- Parts of the proof: the calculus of walks, contracts of functions, plain laws; each theorem states its conditions. -/
import Derived.Test.YtalbicndcfmbnaaGreatDoorSaf
set_option linter.all false
open Nat (reduceEqDiff)
section
set_option maxRecDepth 100000
namespace Go.Ir
open Go.Proofs
def AgW:IC:=rS [m1 3 0,bC 4 .eql 3 (.i .u8 32),m1 5 4,Bu 6 5 0,gF 7 5 (.bin .eql (.t 6) (.c (.i .u8 9))),pO 8 5 7,m1 9 8,Bu 10 9 0,gF 11 9 (.bin .eql (.t 10) (.c (.i .u8 10))),pO 12 9 11,m1 2 12] [2] .ret
def Ais:IC:=rS [mC 2 (.b false)] [0] AgW
def AfB:Cv:=⟨13,Ais,[.t 2]⟩
theorem Ahr:Bz π 109 AfB=true:=by kernel_rfl
def Am3:IC:=rS [mC 2 (.b false)] [0] (rS [m1 3 0,bC 4 .geq 3 (.i .u8 97),m1 5 4,B3 6 5 0,gT 7 5 (.bin .leq (.t 6) (.c (.i .u8 122))),pA 8 5 7,m1 2 8] [2] .ret)
def Ad9:Cv:=⟨9,Am3,[.t 2]⟩
theorem AkI:Bz π 284 Ad9=true:=by kernel_rfl
def AkU:IC:=rS [m1 3 0,q1 4 284 3,m1 5 4,Bu 6 5 0,gF 7 5 (.bin .geq (.t 6) (.c (.i .u8 65))),Bu 8 5 7,B3 9 8 0,gT 10 8 (.bin .leq (.t 9) (.c (.i .u8 90))),gF 11 5 (.pick (.t 8) (.t 10) (.c (.b false))),pO 12 5 11,m1 2 12] [2] .ret
def Alg:IC:=rS [mC 2 (.b false)] [0] AkU
def Af9:Cv:=⟨13,Alg,[.t 2]⟩
theorem Amh:Bz π 283 Af9=true:=by kernel_rfl
def AjT:IC:=rS [m1 3 0,q1 4 283 3,m1 5 4,Bu 6 5 0,gF 7 5 (.bin .geq (.t 6) (.c (.i .u8 48))),Bu 8 5 7,B3 9 8 0,gT 10 8 (.bin .leq (.t 9) (.c (.i .u8 57))),gF 11 5 (.pick (.t 8) (.t 10) (.c (.b false))),pO 12 5 11,m1 13 12,Bu 14 13 0,gF 15 13 (.bin .eql (.t 14) (.c (.i .u8 95))),pO 16 13 15,m1 17 16,Bu 18 17 0,gF 19 17 (.bin .eql (.t 18) (.c (.i .u8 45))),pO 20 17 19,m1 2 20] [2] .ret
def AgB:IC:=rS [mC 2 (.b false)] [0] AjT
def Agn:Cv:=⟨21,AgB,[.t 2]⟩
theorem Amk:Bz π 223 Agn=true:=by kernel_rfl
def Amz:IC:=rS [m1 3 0,q1 4 223 3,m1 5 4,Bu 6 5 0,gF 7 5 (.bin .eql (.t 6) (.c (.i .u8 46))),pO 8 5 7,m1 9 8,Bu 10 9 0,gF 11 9 (.bin .eql (.t 10) (.c (.i .u8 61))),pO 12 9 11,m1 2 12] [2] .ret
def AmC:IC:=rS [mC 2 (.b false)] [0] Amz
def Af1:Cv:=⟨13,AmC,[.t 2]⟩
theorem AlO:Bz π 161 Af1=true:=by kernel_rfl
def AgP:IC:=sQ (rS [m1 7 5,m1 8 0,nS 9 8,bT 10 .lss 7 9,m1 11 10,B3 12 11 0,B3 13 11 5,gT 14 11 (.idx (.t 12) (.t 13)),gT 15 11 (.call 161 [.t 14]),pA 16 11 15] [0,1,4,5,16] (cD 16 .skip (.exit 0))) (.block 1 (.seqr [m1 17 5,bZ 18 .add 17 1,m1 5 18] [0,1,4,5]))
def Ab5:IC:=rS [m1 23 0,m1 24 1,m1 25 5,o1 26 (.slS (.t 23) (some (.t 24)) (some (.t 25))),m1 27 1,m1 28 5,o1 29 (.build [.i .i64 0,.s [],.i .i64 0,.i .i64 0] [(0,1,ci 9),(1,1,.t 26),(2,1,.t 27),(3,1,.t 28)]),sT 4 29 4] [4] .ret
def yU:IC:=rS [m1 35 1,m1 36 1,bZ 37 .add 36 1,o1 38 (.build [.i .i64 0,.s [],.i .i64 0,.i .i64 0] [(0,1,ci 2),(1,1,.c (.s [123])),(2,1,.t 35),(3,1,.t 37)]),sT 4 38 4] [4] .ret
def Ac4:IC:=rS [m1 44 1,m1 45 1,bZ 46 .add 45 1,o1 47 (.build [.i .i64 0,.s [],.i .i64 0,.i .i64 0] [(0,1,ci 3),(1,1,.c (.s [125])),(2,1,.t 44),(3,1,.t 46)]),sT 4 47 4] [4] .ret
def Abl:IC:=rS [m1 53 1,m1 54 1,bZ 55 .add 54 1,o1 56 (.build [.i .i64 0,.s [],.i .i64 0,.i .i64 0] [(0,1,ci 8),(1,1,.c (.s [44])),(2,1,.t 53),(3,1,.t 55)]),sT 4 56 4] [4] .ret
def AbN:IC:=rS [m1 40 0,m1 41 1,o1 42 (.idx (.t 40) (.t 41)),bC 43 .eql 42 (.i .u8 125),m1 39 43] [0,1,4,39] (cD 39 Ac4 (rS [m1 49 0,m1 50 1,o1 51 (.idx (.t 49) (.t 50)),bC 52 .eql 51 (.i .u8 44),m1 48 52] [1,4,48] (cD 48 Abl nO)))
def Aam:IC:=sQ (.block 2 (rS [m1 20 5,m1 21 1,bT 22 .gtr 20 21,m1 19 22] [0,1,4,5,19] (cD 19 Ab5 (rS [m1 31 0,m1 32 1,o1 33 (.idx (.t 31) (.t 32)),bC 34 .eql 33 (.i .u8 123),m1 30 34] [0,1,4,30] (cD 30 yU AbN))))) nO
def Aj9:IC:=rS [o1 4 (.alloc (.agg [.i .i64 0,.s [],.i .i64 0,.i .i64 0]))] [0,1,4] (rS [m1 6 1,m1 5 6] [0,1,4,5] (sQ (.block 0 (.loop AgP)) Aam))
def Af3:Cv:=⟨58,Aj9,[.c 4 4 true]⟩
theorem Al0:Bz π 110 Af3=true:=by kernel_rfl
def Amq:IC:=rS [m1 3 0,bC 4 .eql 3 (.i .u8 123),m1 5 4,Bu 6 5 0,gF 7 5 (.bin .eql (.t 6) (.c (.i .u8 125))),pO 8 5 7,m1 9 8,Bu 10 9 0,gF 11 9 (.bin .eql (.t 10) (.c (.i .u8 60))),pO 12 9 11,m1 13 12,Bu 14 13 0,gF 15 13 (.bin .eql (.t 14) (.c (.i .u8 62))),pO 16 13 15,m1 17 16,Bu 18 17 0,gF 19 17 (.bin .eql (.t 18) (.c (.i .u8 35))),pO 20 17 19,m1 21 20,Bu 22 21 0,gF 23 21 (.bin .eql (.t 22) (.c (.i .u8 92))),pO 24 21 23,m1 2 24] [2] .ret
def Ain:IC:=rS [mC 2 (.b false)] [0] Amq
def Afg:Cv:=⟨25,Ain,[.t 2]⟩
theorem Ahp:Bz π 164 Afg=true:=by kernel_rfl
def AaE:IC:=rS [m1 32 0,m1 33 1,o1 34 (.idx (.t 32) (.t 33)),q1 35 164 34,nT 36 35,m1 31 36] [0,1,31] (cD 31 (.seqr [m1 37 1,bZ 38 .add 37 1,m1 1 38] [0,1]) (rS [m1 9 1,m1 4 9] [4] .ret))
def Ahq:IC:=.block 1 (.block 2 (rS [m1 11 0,m1 12 1,o1 13 (.idx (.t 11) (.t 12)),bC 14 .eql 13 (.i .u8 92),m1 15 14,B3 16 15 1,CH 17 15 .add 16 1,B3 18 15 0,gT 19 15 (.lenS (.t 18)),gT 20 15 (.bin .lss (.t 17) (.t 19)),pA 21 15 20,m1 22 21,B3 23 22 0,B3 24 22 1,CH 25 22 .add 24 1,gT 26 22 (.idx (.t 23) (.t 25)),gT 27 22 (.call 164 [.t 26]),pA 28 22 27,m1 10 28] [0,1,10] (cD 10 nO AaE)))
def Ag2:IC:=rS [mZ 4 0] [0,1] (sQ (.block 0 (.loop (sQ (rS [m1 5 1,m1 6 0,nS 7 6,bT 8 .lss 5 7] [0,1,8] (cD 8 .skip nO)) Ahq))) nO)
def Ad5:Cv:=⟨40,Ag2,[.t 4]⟩
theorem Ams:Bz π 162 Ad5=true:=by kernel_rfl
def AcY:IC:=sQ (.block 1 (rS [m1 10 0,m1 11 3,o1 12 (.idx (.t 10) (.t 11)),q1 13 223 12,nT 14 13] [0,3,14] (cD 14 nO .skip))) (.seqr [m1 8 3,bZ 9 .add 8 1,m1 3 9] [0,3])
def Ab7:IC:=rS [m1 15 0,nS 16 15,bZ 17 .geq 16 1,m1 18 17,B3 19 18 0,gT 20 18 (.lenS (.t 19)),CH 21 18 .leq 20 40,pA 22 18 21,m1 23 22,B3 24 23 0,gT 25 23 (.idx (.t 24) (ci 0)),gT 26 23 (.call 284 [.t 25]),pA 27 23 26,m1 2 27] [2] .ret
def AgH:IC:=rS [mC 2 (.b false)] [0] (sQ (rS [mZ 3 0] [0,3] (.block 0 (.loop (sQ (rS [m1 4 3,m1 5 0,nS 6 5,bT 7 .lss 4 6] [0,3,7] (cD 7 .skip (.exit 0))) AcY)))) Ab7)
def Ae7:Cv:=⟨28,AgH,[.t 2]⟩
theorem AiO:Bz π 224 Ae7=true:=by kernel_rfl
def AhI:IC:=rS [m1 14 0,m1 15 1,m1 16 7,o1 17 (.slS (.t 14) (some (.t 15)) (some (.t 16))),m1 18 1,m1 19 7,o1 20 (.build [.i .i64 0,.s [],.i .i64 0,.i .i64 0] [(0,1,ci 1),(1,1,.t 17),(2,1,.t 18),(3,1,.t 19)]),sT 6 20 4] [6] .ret
def AcR:IC:=rS [m1 26 1,m1 27 1,bZ 28 .add 27 1,o1 29 (.build [.i .i64 0,.s [],.i .i64 0,.i .i64 0] [(0,1,ci 2),(1,1,.c (.s [123])),(2,1,.t 26),(3,1,.t 28)]),sT 6 29 4] [6] .ret
def Ab0:IC:=rS [m1 39 1,m1 40 1,bZ 41 .add 40 1,o1 42 (.build [.i .i64 0,.s [],.i .i64 0,.i .i64 0] [(0,1,ci 3),(1,1,.c (.s [125])),(2,1,.t 39),(3,1,.t 41)]),sT 6 42 4] [6] .ret
def AcS:IC:=rS [m1 31 0,m1 32 1,o1 33 (.idx (.t 31) (.t 32)),bC 34 .eql 33 (.i .u8 125),m1 35 34,B3 36 35 2,CH 37 35 .gtr 36 0,pA 38 35 37,m1 30 38] [0,1,6,30] (cD 30 Ab0 nO)
def AcL:IC:=sQ (.block 0 (rS [m1 22 0,m1 23 1,o1 24 (.idx (.t 22) (.t 23)),bC 25 .eql 24 (.i .u8 123),m1 21 25] [0,1,2,6,21] (cD 21 AcR AcS))) nO
def Alk:IC:=sQ (rS [m1 8 0,m1 9 1,q2 10 162 8 9,m1 7 10] [0,1,2,6,7] (rS [m1 11 7,m1 12 1,bT 13 .gtr 11 12] [0,1,2,6,7,13] (cD 13 AhI .skip))) AcL
def Akm:IC:=rS [o1 6 (.alloc (.agg [.i .i64 0,.s [],.i .i64 0,.i .i64 0]))] [0,1,2,6] Alk
def Afj:Cv:=⟨55,Akm,[.c 6 4 true]⟩
theorem Ajw:Bz π 111 Afj=true:=by kernel_rfl
def Aha:IC:=rS [bZ 44 .eql 39 2,m1 43 44] [0,5,7,9,39,43] (cD 43 (.seqr [m1 45 7,bZ 46 .add 45 1,m1 7 46] [0,5,7,9]) (rS [bZ 48 .eql 39 3,m1 47 48] [0,5,7,9,47] (cD 47 (.seqr [m1 49 7,bZ 50 .sub 49 1,m1 7 50] [0,5,7,9]) .skip)))
def Ahu:IC:=rS [m1 51 5,lA 52 9 4,o1 53 (.msl true 220 4 [.t 52]),o1 54 (.app (.t 51) (.t 53) 220 4),m1 5 54] [0,5,7,9] (.seqr [fA 55 9 3,l1 56 55,m1 6 56] [0,5,6,7])
def AkZ:IC:=rS [o1 29 (.build [.i .i64 0,.s [],.i .i64 0,.i .i64 0] []),o1 9 (.alloc (.agg [.i .i64 0,.s [],.i .i64 0,.i .i64 0])),sT 9 29 4] [0,5,6,7,8,9] (sQ (rS [m1 30 8] [0,5,6,7,9,30] (cD 30 (.seqr [m1 31 0,m1 32 6,q2 33 110 31 32,sT 9 33 4] [0,5,6,7,9]) (.seqr [m1 34 0,m1 35 6,m1 36 7,q3 37 111 34 35 36,sT 9 37 4] [0,5,6,7,9]))) (sQ (rS [fA 38 9 0,l1 39 38] [0,5,6,7,9,39] (.block 2 (rS [bZ 41 .eql 39 0,m1 40 41] [0,5,6,7,9,39,40] (cD 40 nO Aha)))) Ahu))
def Alc:IC:=sQ (rS [m1 20 8,m1 21 20,B3 22 21 0,B3 23 21 6,gT 24 21 (.idx (.t 22) (.t 23)),gT 25 21 (.call 109 [.t 24]),pA 26 21 25] [0,5,6,7,8,26] (cD 26 (rS [m1 27 6,bZ 28 .add 27 1,m1 6 28] [0,5,6,7] (.exit 1)) .skip)) AkZ
def AhW:IC:=sQ (rS [m1 13 6,m1 14 0,nS 15 14,bT 16 .lss 13 15] [0,5,6,7,16] (cD 16 .skip (.exit 0))) (.block 1 (rS [m1 17 7,bZ 18 .rem 17 2,bZ 19 .eql 18 1,m1 8 19] [0,5,6,7,8] Alc))
def AlC:IC:=rS [mZ 6 0,mZ 7 0] [0,5,6,7] (sQ (.block 0 (.loop AhW)) (sQ (rS [m1 57 7,bZ 58 .gtr 57 0] [0,5,58] (cD 58 nO .skip)) (rS [m1 61 5,m1 2 61,mZ 3 0,mZ 4 0] [2,3,4] .ret)))
def AqV:IC:=rS [mC 2 .nil,mZ 3 0,mZ 4 0] [0] (sQ (rS [m1 10 0,nS 11 10,bZ 12 .gtr 11 4000] [0,12] (cD 12 nO .skip)) (rS [mC 5 .nil] [0,5] AlC))
def As9:Cv:=⟨62,AqV,[.t 2,.t 3,.t 4]⟩
theorem Aou:Bz π 73 As9=true:=by kernel_rfl
def AiI:IC:=sQ (.ops [m1 9 0,nC 10 9,fA 11 10 1,l1 12 11,m1 13 0,nC 14 13,fA 15 14 1,l1 16 15,o1 17 (.build [.i .i64 0,.s [],.i .i64 0,.i .i64 0] [(2,1,.t 12),(3,1,.t 16)]),sT 2 17 4] [2] [[0,1],[1,2],[2,3],[4,5],[5,6],[6,7],[3,8],[7,8],[3,9],[7,9],[8,9]]) .ret
def AjA:IC:=sQ (rS [m1 3 0,nC 4 3,fA 5 4 0,l1 6 5,nL 7 6,bZ 8 .eql 7 0] [0,2,8] (cD 8 AiI .skip)) (rS [m1 18 0,nC 19 18,fA 20 19 0,l1 21 20,o1 22 (.iaddr (.t 21) (ci 0) 220 4),lA 23 22 4,sT 2 23 4] [2] .ret)
def Aiv:IC:=rS [o1 2 (.alloc (.agg [.i .i64 0,.s [],.i .i64 0,.i .i64 0]))] [0,2] AjA
def AdZ:Cv:=⟨24,Aiv,[.c 2 4 true]⟩
theorem Ah8:Bz π 112 AdZ=true:=by kernel_rfl
def AbK:IC:=rS [m1 19 0,m1 20 0,nC 21 20,fA 22 21 0,l1 23 22,o1 24 (.slL (.t 23) (some (ci 1)) none 4),nC 25 19,fA 26 25 0,sT 26 24 1] [5] (rS [fA 27 5 1,l1 28 27,m1 4 28] [4] .ret)
def AhN:IC:=sQ (rS [fA 8 5 0,l1 9 8,m1 10 1,bT 11 .neq 9 10] [0,5,11] (cD 11 nO .skip)) (sQ (rS [m1 14 0,nC 15 14,fA 16 15 4,l1 17 16,bZ 18 .neq 17 0] [0,5,18] (cD 18 nO .skip)) AbK)
def AhR:IC:=rS [mC 4 (.s [])] [0,1] (rS [m1 6 0,o1 7 (.calls 112 [.t 6]),o1 5 (.alloc (.agg [.i .i64 0,.s [],.i .i64 0,.i .i64 0])),sT 5 7 4] [0,1,5] AhN)
def AfN:Cv:=⟨29,AhR,[.t 4]⟩
theorem Am1:Bz π 114 AfN=true:=by kernel_rfl
def Adj:IC:=sQ (.block 1 (sQ (rS [m1 13 0,m1 14 6,o1 15 (.idx (.t 13) (.t 14)),bC 16 .eql 15 (.i .u8 92),m1 17 16,B3 18 17 6,CH 19 17 .add 18 1,B3 20 17 0,gT 21 17 (.lenS (.t 20)),gT 22 17 (.bin .lss (.t 19) (.t 21)),pA 23 17 22,m1 24 23,B3 25 24 0,B3 26 24 6,CH 27 24 .add 26 1,gT 28 24 (.idx (.t 25) (.t 27)),gT 29 24 (.call 164 [.t 28]),pA 30 24 29] [0,5,6,30] (cD 30 nO (rS [m1 33 0,m1 34 6,o1 35 (.idx (.t 33) (.t 34)),q1 36 164 35] [0,5,6,36] (cD 36 nO .skip)))) (.seqr [m1 38 5,m1 39 0,m1 40 6,o1 41 (.idx (.t 39) (.t 40)),o1 42 (.msl true 5 1 [.t 41]),o1 43 (.app (.t 38) (.t 42) 5 1),m1 5 43] [0,5,6]))) (.seqr [m1 11 6,bZ 12 .add 11 1,m1 6 12] [0,5,6])
def Akr:IC:=rS [mC 5 .nil] [0,5] (sQ (rS [mZ 6 0] [0,5,6] (.block 0 (.loop (sQ (rS [m1 7 6,m1 8 0,nS 9 8,bT 10 .lss 7 9] [0,5,6,10] (cD 10 .skip (.exit 0))) Adj)))) (rS [m1 44 5,o1 45 (.btos (.t 44)),m1 2 45,mZ 3 0,mZ 4 0] [2,3,4] .ret))
def AkV:IC:=rS [mC 2 (.s []),mZ 3 0,mZ 4 0] [0] Akr
def Aes:Cv:=⟨46,AkV,[.t 2,.t 3,.t 4]⟩
theorem AiN:Bz π 113 Aes=true:=by kernel_rfl
def Aie:IC:=rS [m1 4 1,bZ 5 .gtr 4 8] [0,5] (cD 5 nO .skip)
def Aee:Cv:=⟨8,Aie,[]⟩
theorem Alh:Bz π 115 Aee=true:=by kernel_rfl
def AiZ:IC:=sQ (.block 1 (rS [m1 12 0,m1 13 5,iA 14 12 13 9 1,l1 15 14,m1 16 1,bT 17 .eql 15 16] [0,1,5,17] (cD 17 (rS [mC 4 (.b true)] [4] .ret) .skip))) (.seqr [m1 10 5,bZ 11 .add 10 1,m1 5 11] [0,1,5])
def AsV:IC:=sQ (rS [mZ 5 0] [0,1,5] (.block 0 (.loop (sQ (rS [m1 6 5,m1 7 0,nL 8 7,bT 9 .lss 6 8] [0,1,5,9] (cD 9 .skip (.exit 0))) AiZ)))) (rS [mC 4 (.b false)] [4] .ret)
def Asp:IC:=rS [mC 4 (.b false)] [0,1] AsV
def Aoi:Cv:=⟨18,Asp,[.t 4]⟩
theorem Aqx:Bz π 21 Aoi=true:=by kernel_rfl
def AgE:IC:=sQ (rS [m1 5 0,o1 6 (.calls 112 [.t 5]),o1 7 (.fld (.t 6) 0 1 false),bZ 8 .neq 7 9,m1 9 8,Bu 10 9 1,gF 11 9 (.not (.t 10)),pO 12 9 11] [0,12] (cD 12 nO .skip)) (rS [m1 15 0,o1 16 (.calls 114 [.t 15,ci 9]),m1 4 16] [4] .ret)
def AlX:IC:=rS [mC 4 (.s [])] [0,1] AgE
def AfF:Cv:=⟨17,AlX,[.t 4]⟩
theorem AhL:Bz π 225 AfF=true:=by kernel_rfl
def zH:IC:=.seqr [m1 32 0,m1 33 0,nC 34 33,fA 35 34 2,l1 36 35,m1 37 3,o1 38 (.msl true 9 1 [.t 37]),o1 39 (.app (.t 36) (.t 38) 9 1),nC 40 32,fA 41 40 2,sT 41 39 1] [0,3]
def AlB:IC:=sQ (rS [m1 7 0,o1 8 (.calls 112 [.t 7]),o1 9 (.fld (.t 8) 0 1 false),bZ 10 .eql 9 9,m1 11 10,B3 12 11 3,gT 13 11 (.call 224 [.t 12]),pA 14 11 13,m1 15 14,B3 16 15 0,gT 17 15 (.nilck (.t 16)),Dr 18 15 17 2,Dp 19 15 18,B3 20 15 3,gT 21 15 (.callr 21 [.t 19,.t 20]),gT 22 15 (.not (.t 21)),pA 23 15 22] [0,3,23] (cD 23 (sQ (rS [m1 24 0,nC 25 24,fA 26 25 2,l1 27 26,nL 28 27,bZ 29 .geq 28 20] [0,3,29] (cD 29 nO .skip)) zH) nO)) (rS [m1 42 0,m1 43 3,q1 44 224 43,o1 45 (.calls 225 [.t 42,.t 44]),m1 2 45] [2] .ret)
def Aj5:IC:=rS [mC 2 (.s [])] [0] (rS [m1 4 0,o1 5 (.calls 112 [.t 4]),o1 6 (.fld (.t 5) 1 1 false),m1 3 6] [0,3] AlB)
def AdC:Cv:=⟨46,Aj5,[.t 2]⟩
theorem AjJ:Bz π 165 AdC=true:=by kernel_rfl
def AaV:IC:=sQ (.block 1 (rS [m1 12 3,m1 13 4,iA 14 12 13 9 1,l1 15 14,m1 16 0,bT 17 .eql 15 16] [0,3,4,17] (cD 17 (rS [m1 18 4,o1 19 (.bin .add (ci 3) (.t 18)),m1 2 19] [2] .ret) .skip))) (.seqr [m1 10 4,bZ 11 .add 10 1,m1 4 11] [0,3,4])
def Akd:IC:=rS [o1 5 (.msl true 9 1 [.c (.s [110,117,109,98,101,114]),.c (.s [117,110,105,116]),.c (.s [100,97,116,101]),.c (.s [108,105,115,116]),.c (.s [112,108,117,114,97,108]),.c (.s [111,114,100,105,110,97,108]),.c (.s [115,101,108,101,99,116])]),m1 3 5] [0,3] (sQ (rS [mZ 4 0] [0,3,4] (.block 0 (.loop (sQ (rS [m1 6 4,m1 7 3,nL 8 7,bT 9 .lss 6 8] [0,3,4,9] (cD 9 .skip nO)) AaV)))) nO)
def Akf:IC:=rS [mZ 2 0] [0] Akd
def Ad4:Cv:=⟨20,Akf,[.t 2]⟩
theorem AhT:Bz π 226 Ad4=true:=by kernel_rfl
def Aj1:IC:=rS [mC 2 (.b false)] [0] (rS [m1 3 0,bZ 4 .eql 3 7,m1 5 4,Bu 6 5 0,D7 7 5 .eql 6 8,pO 8 5 7,m1 9 8,Bu 10 9 0,D7 11 9 .eql 10 9,pO 12 9 11,m1 2 12] [2] .ret)
def AfW:Cv:=⟨13,Aj1,[.t 2]⟩
theorem Ak9:Bz π 119 AfW=true:=by kernel_rfl
def AlK:IC:=rS [mC 2 (.b false)] [0] (rS [m1 3 0,bZ 4 .eql 3 7,m1 5 4,Bu 6 5 0,D7 7 5 .eql 6 8,pO 8 5 7,m1 2 8] [2] .ret)
def Aeo:Cv:=⟨9,AlK,[.t 2]⟩
theorem AjH:Bz π 229 Aeo=true:=by kernel_rfl
def Ag7:IC:=rS [m1 3 0,bC 4 .eql 3 (.s [122,101,114,111]),m1 5 4,Bu 6 5 0,gF 7 5 (.bin .eql (.t 6) (.c (.s [111,110,101]))),pO 8 5 7,m1 9 8,Bu 10 9 0,gF 11 9 (.bin .eql (.t 10) (.c (.s [116,119,111]))),pO 12 9 11,m1 13 12,Bu 14 13 0,gF 15 13 (.bin .eql (.t 14) (.c (.s [102,101,119]))),pO 16 13 15,m1 17 16,Bu 18 17 0,gF 19 17 (.bin .eql (.t 18) (.c (.s [109,97,110,121]))),pO 20 17 19,m1 21 20,Bu 22 21 0,gF 23 21 (.bin .eql (.t 22) (.c (.s [111,116,104,101,114]))),pO 24 21 23,m1 2 24] [2] .ret
def AlM:IC:=rS [mC 2 (.b false)] [0] Ag7
def Ae9:Cv:=⟨25,AlM,[.t 2]⟩
theorem Als:Bz π 316 Ae9=true:=by kernel_rfl
def Ack:IC:=sQ (.block 1 (rS [m1 10 0,m1 11 3,o1 12 (.idx (.t 10) (.t 11)),bC 13 .lss 12 (.i .u8 48),m1 14 13,Bu 15 14 0,Bu 16 14 3,gF 17 14 (.idx (.t 15) (.t 16)),gF 18 14 (.bin .gtr (.t 17) (.c (.i .u8 57))),pO 19 14 18] [0,3,19] (cD 19 nO .skip))) (.seqr [m1 8 3,bZ 9 .add 8 1,m1 3 9] [0,3])
def AgS:IC:=sQ (rS [mZ 3 0] [0,3] (.block 0 (.loop (sQ (rS [m1 4 3,m1 5 0,nS 6 5,bT 7 .lss 4 6] [0,3,7] (cD 7 .skip (.exit 0))) Ack)))) (rS [mC 2 (.b true)] [2] .ret)
def Ak5:IC:=rS [mC 2 (.b false)] [0] AgS
def AfE:Cv:=⟨20,Ak5,[.t 2]⟩
theorem Al9:Bz π 347 AfE=true:=by kernel_rfl
def AaO:IC:=sQ (rS [m1 17 5,m1 18 0,nS 19 18,bT 20 .lss 17 19,m1 21 20,B3 22 21 0,B3 23 21 5,gT 24 21 (.idx (.t 22) (.t 23)),gT 25 21 (.bin .neq (.t 24) (.c (.i .u8 46))),pA 26 21 25] [0,2,4,5,26] (cD 26 .skip (.exit 0))) (.block 1 (.seqr [m1 27 5,bZ 28 .add 27 1,m1 5 28] [0,2,4,5]))
def Abf:IC:=sQ (rS [fA 47 4 1,l1 48 47,fA 49 4 2,l1 50 49,bT 51 .add 48 50,q1 52 347 51,nT 53 52,m1 54 53,DP 55 54 4 1,Dy 56 54 55,gF 57 54 (.lenS (.t 56)),D7 58 54 .lss 57 1,pO 59 54 58,m1 60 59,DP 61 60 4 1,Dy 62 60 61,gF 63 60 (.lenS (.t 62)),D7 64 60 .gtr 63 15,pO 65 60 64,m1 66 65,DP 67 66 4 1,Dy 68 66 67,gF 69 66 (.lenS (.t 68)),D7 70 66 .gtr 69 1,Bu 71 66 70,Dr 72 71 4 1,Dp 73 71 72,gT 74 71 (.idx (.t 73) (ci 0)),gT 75 71 (.bin .eql (.t 74) (.c (.i .u8 48))),gF 76 66 (.pick (.t 71) (.t 75) (.c (.b false))),pO 77 66 76,m1 78 77,DP 79 78 4 2,Dy 80 78 79,gF 81 78 (.lenS (.t 80)),D7 82 78 .gtr 81 6,pO 83 78 82,m1 84 83,DP 85 84 4 0,Dy 86 84 85,Bu 87 84 86,Dr 88 87 4 1,Dp 89 87 88,Dr 90 87 4 2,Dp 91 87 90,gT 92 87 (.bin .add (.t 89) (.t 91)),gT 93 87 (.call 348 [.t 92]),gF 94 84 (.pick (.t 87) (.t 93) (.c (.b false))),pO 95 84 94] [2,4,95] (cD 95 nO .skip)) (rS [lA 97 4 3,sT 2 97 3,mC 3 (.b true)] [2,3] .ret)
def Abk:IC:=rS [m1 29 0,m1 30 5,o1 31 (.slS (.t 29) none (some (.t 30))),fA 32 4 1,sT 32 31 1] [0,2,4,5] (sQ (rS [m1 33 5,m1 34 0,nS 35 34,bT 36 .lss 33 35] [0,2,4,5,36] (cD 36 nO .skip)) Abf)
def AlL:IC:=sQ (rS [m1 6 0,nS 7 6,bZ 8 .gtr 7 0,m1 9 8,B3 10 9 0,gT 11 9 (.idx (.t 10) (ci 0)),gT 12 9 (.bin .eql (.t 11) (.c (.i .u8 45))),pA 13 9 12] [0,2,4,13] (cD 13 nO .skip)) (rS [mZ 5 0] [0,2,4,5] (sQ (.block 0 (.loop AaO)) Abk))
def AkS:IC:=rS [o1 2 (.alloc (.agg [.b false,.s [],.s []])),mC 3 (.b false)] [0,2] (rS [o1 4 (.alloc (.agg [.b false,.s [],.s []]))] [0,2,4] AlL)
def Aea:Cv:=⟨98,AkS,[.c 2 3 true,.t 3]⟩
theorem Ag6:Bz π 336 Aea=true:=by kernel_rfl
def AlG:IC:=rS [m1 6 0,q1 7 336 6,m1 5 7,xT 8 5 0,xT 9 5 1,o1 3 (.alloc (.agg [.b false,.s [],.s []])),sT 3 8 3,m1 4 9] [4] (rS [m1 10 4,m1 2 10] [2] .ret)
def AgU:IC:=rS [mC 2 (.b false)] [0] AlG
def AeF:Cv:=⟨11,AgU,[.t 2]⟩
theorem AhS:Bz π 317 AeF=true:=by kernel_rfl
def AjI:IC:=rS [m1 9 1,q1 10 316 9,m1 11 10,Bu 12 11 1,gF 13 11 (.lenS (.t 12)),D7 14 11 .gtr 13 1,Bu 15 11 14,B3 16 15 1,gT 17 15 (.idx (.t 16) (ci 0)),gT 18 15 (.bin .eql (.t 17) (.c (.i .u8 61))),gF 19 11 (.pick (.t 15) (.t 18) (.c (.b false))),Bu 20 11 19,B3 21 20 1,gT 22 20 (.slS (.t 21) (some (ci 1)) none),gT 23 20 (.call 317 [.t 22]),gF 24 11 (.pick (.t 20) (.t 23) (.c (.b false))),pO 25 11 24,m1 4 25] [4] .ret
def Alo:IC:=rS [mC 4 (.b false)] [0,1] (sQ (rS [m1 5 0,bZ 6 .eql 5 9] [1,6] (cD 6 nO .skip)) AjI)
def AeV:Cv:=⟨26,Alo,[.t 4]⟩
theorem Alq:Bz π 285 AeV=true:=by kernel_rfl
def AbV:IC:=sQ (rS [m1 42 8,nL 43 42,bZ 44 .geq 43 20] [0,1,2,3,8,9,44] (cD 44 nO .skip)) (rS [m1 47 8,fA 48 9 1,l1 49 48,o1 50 (.callr 21 [.t 47,.t 49])] [0,1,2,3,8,9,50] (cD 50 nO .skip))
def Acd:IC:=.seqr [m1 75 1,m1 76 1,nC 77 76,fA 78 77 4,l1 79 78,m1 80 10,m1 81 11,o1 82 (.build [.s [],.nil] [(0,1,.t 80),(1,1,.t 81)]),o1 83 (.msl true 118 2 [.t 82]),o1 84 (.app (.t 79) (.t 83) 118 2),nC 85 75,fA 86 85 4,sT 86 84 1] [0,1,2,3,8]
def Aco:IC:=rS [m1 68 0,m1 69 2,bZ 70 .add 69 1,m1 71 3,o1 72 (.calls 74 [.t 68,.t 70,.t 71]),m1 11 72] [0,1,2,3,8,10,11] (rS [m1 73 0,o1 74 (.calls 114 [.t 73,ci 3])] [0,1,2,3,8,10,11] Acd)
def AaL:IC:=rS [m1 62 8,m1 63 10,o1 64 (.msl true 9 1 [.t 63]),o1 65 (.app (.t 62) (.t 64) 9 1),m1 8 65] [0,1,2,3,8,10] (rS [m1 66 0,o1 67 (.calls 114 [.t 66,ci 2])] [0,1,2,3,8,10] Aco)
def AaI:IC:=sQ (.ops [m1 53 0,m1 54 1,nC 55 54,fA 56 55 0,l1 57 56,fA 58 9 1,l1 59 58,q2 60 285 57 59,o1 61 (.calls 225 [.t 53,.t 60]),m1 10 61] [0,1,2,3,8,10] [[1,2],[2,3],[3,4],[5,6],[4,7],[6,7],[0,8],[4,7,8],[6,7,8],[7,8],[8,9]]) AaL
def AcD:IC:=sQ (sQ (.ops [fA 30 9 0,l1 31 30,bZ 32 .eql 31 9,m1 33 32,B3 34 33 1,gT 35 33 (.nilck (.t 34)),Dr 36 33 35 0,Dp 37 33 36,Dr 38 33 9 1,Dp 39 33 38,gT 40 33 (.call 285 [.t 37,.t 39]),pA 41 33 40] [0,1,2,3,8,9,41] [[0,1],[1,2],[2,3],[3,4],[3,5],[4,5],[3,6],[5,6],[3,7],[6,7],[3,8],[3,9],[8,9],[3,10],[7,10],[9,10],[3,11],[10,11]]) (cD 41 AbV nO)) AaI
def Aix:IC:=.block 1 (rS [m1 28 0,o1 29 (.calls 112 [.t 28]),o1 9 (.alloc (.agg [.i .i64 0,.s [],.i .i64 0,.i .i64 0])),sT 9 29 4] [0,1,2,3,8,9] AcD)
def AiA:IC:=sQ (rS [m1 12 0,nC 13 12,fA 14 13 4,l1 15 14,bZ 16 .eql 15 0,m1 17 16,B3 18 17 8,gT 19 17 (.lenL (.t 18)),CH 20 17 .eql 19 0,B3 21 17 20,Bu 22 21 0,gF 23 21 (.calls 112 [.t 22]),gF 24 21 (.fld (.t 23) 0 1 false),D7 25 21 .neq 24 3,gT 26 17 (.pick (.t 21) (.c (.b true)) (.t 25)),pA 27 17 26] [0,1,2,3,8,27] (cD 27 .skip (.exit 0))) Aix
def AcW:IC:=rS [m1 87 0,nC 88 87,fA 89 88 4,l1 90 89,bZ 91 .eql 90 0,m1 92 91,B3 93 92 8,gT 94 92 (.callr 21 [.t 93,.c (.s [111,116,104,101,114])]),gT 95 92 (.not (.t 94)),pA 96 92 95] [0,96] (cD 96 nO .skip)
def Ale:IC:=rS [mC 8 .nil] [0,1,2,3,8] (sQ (.block 0 (.loop AiA)) AcW)
def AeY:Cv:=⟨99,Ale,[]⟩
theorem AjQ:Bz π 228 AeY=true:=by kernel_rfl
def Ado:IC:=.seqr [m1 62 0,m1 63 1,m1 64 2,m1 65 3,m1 66 65,Bu 67 66 1,gF 68 66 (.nilck (.t 67)),DP 69 66 68 0,Dy 70 66 69,gF 71 66 (.call 229 [.t 70]),pO 72 66 71,o1 73 (.calls 228 [.t 62,.t 63,.t 64,.t 72])] []
def AbI:IC:=rS [bZ 88 .eql 61 5,m1 87 88] [0,1,2,3,8,61,87] (cD 87 nO (sQ (rS [bZ 97 .eql 61 4,m1 96 97] [0,1,2,3,8,61,96] (cD 96 nO (.seqr [bZ 98 .eql 61 6,m1 96 98] [0,1,2,3,8,96]))) (cD 96 nO Ado)))
def Aaf:IC:=rS [m1 55 0,o1 56 (.calls 112 [.t 55]),o1 57 (.fld (.t 56) 1 1 false),m1 8 57] [0,1,2,3,8] (rS [m1 58 1,nC 59 58,fA 60 59 0,l1 61 60] [0,1,2,3,8,61] (.block 0 (rS [bZ 75 .eql 61 3,m1 74 75] [0,1,2,3,8,61,74] (cD 74 nO AbI))))
def Adr:IC:=sQ (rS [m1 42 1,nC 43 42,fA 44 43 0,l1 45 44,bZ 46 .eql 45 3,m1 47 46,B3 48 47 0,gT 49 47 (.calls 112 [.t 48]),gT 50 47 (.fld (.t 49) 0 1 false),CH 51 47 .neq 50 8,pA 52 47 51] [0,1,2,3,52] (cD 52 nO .skip)) (rS [m1 53 0,o1 54 (.calls 114 [.t 53,ci 8])] [0,1,2,3] Aaf)
def Aik:IC:=rS [m1 30 0,m1 31 1,nC 32 31,fA 33 32 0,l1 34 33,bZ 35 .neq 34 0,o1 36 (.calls 225 [.t 30,.t 35])] [0,1,2,3] (sQ (rS [m1 37 0,nC 38 37,fA 39 38 4,l1 40 39,bZ 41 .neq 40 0] [0,1,2,3,41] (cD 41 nO .skip)) Adr)
def Al3:IC:=sQ (rS [m1 16 0,o1 17 (.calls 112 [.t 16]),o1 18 (.fld (.t 17) 0 1 false),bZ 19 .eql 18 9,m1 20 19,B3 21 20 1,gT 22 20 (.nilck (.t 21)),Dr 23 20 22 0,Dp 24 20 23,gT 25 20 (.call 119 [.t 24]),pA 26 20 25] [0,1,2,3,26] (cD 26 (.seqr [m1 27 0,m1 28 2,o1 29 (.calls 115 [.t 27,.t 28])] [0,1,2,3]) nO)) Aik
def AgK:IC:=rS [m1 9 1,m1 10 0,o1 11 (.calls 112 [.t 10]),o1 12 (.fld (.t 11) 1 1 false),q1 13 226 12,nC 14 9,fA 15 14 0,sT 15 13 1] [0,1,2,3] Al3
def Ae3:Cv:=⟨106,AgK,[]⟩
theorem Aht:Bz π 166 Ae3=true:=by kernel_rfl
def AaY:IC:=rS [m1 24 0,o1 25 (.calls 114 [.t 24,ci 8])] [0,1,2,6,7] (.seqr [m1 26 0,m1 27 1,m1 28 2,o1 29 (.calls 166 [.t 26,.t 7,.t 27,.t 28])] [0,6,7])
def Ag8:IC:=sQ (rS [m1 13 0,nC 14 13,fA 15 14 4,l1 16 15,bZ 17 .eql 16 0,m1 18 17,B3 19 18 0,gT 20 18 (.calls 112 [.t 19]),gT 21 18 (.fld (.t 20) 0 1 false),CH 22 18 .eql 21 8,pA 23 18 22] [0,1,2,6,7,23] (cD 23 AaY nO)) (rS [m1 30 0,o1 31 (.calls 114 [.t 30,ci 3])] [6,7] (rS [lA 32 7 6,sT 6 32 6] [6] .ret))
def Aku:IC:=rS [m1 10 0,o1 11 (.calls 165 [.t 10]),o1 12 (.build [.i .i64 0,.s [],.s [],.s [],.nil,.nil] [(0,1,ci 2),(2,1,.t 11)]),o1 7 (.alloc (.agg [.i .i64 0,.s [],.s [],.s [],.nil,.nil])),sT 7 12 6] [0,1,2,6,7] Ag8
def AkA:IC:=rS [o1 6 (.alloc (.agg [.i .i64 0,.s [],.s [],.s [],.nil,.nil]))] [0,1,2,6] (rS [m1 8 0,o1 9 (.calls 114 [.t 8,ci 2])] [0,1,2,6] Aku)
def Agm:Cv:=⟨33,AkA,[.c 6 6 true]⟩
theorem AiK:Bz π 116 Agm=true:=by kernel_rfl
def Amv:IC:=.seqr [m1 34 7,m1 35 9,o1 36 (.build [.i .i64 0,.s [],.s [],.s [],.nil,.nil] [(0,1,ci 1),(1,1,.t 35)]),o1 37 (.msl true 116 6 [.t 36]),o1 38 (.app (.t 34) (.t 37) 116 6),m1 7 38] [0,1,2,7]
def AkR:IC:=rS [m1 26 0,fA 27 8 0,l1 28 27,o1 29 (.calls 114 [.t 26,.t 28]),q1 30 113 29,m1 25 30,xT 31 25 0,xT 32 25 1,xT 33 25 2,m1 9 31,m1 10 32,m1 11 33] [0,1,2,7,9] Amv
def Ak7:IC:=.seqr [m1 111 7,m1 112 0,m1 113 1,m1 114 2,o1 115 (.calls 116 [.t 112,.t 113,.t 114]),o1 116 (.msl true 116 6 [.t 115]),o1 117 (.app (.t 111) (.t 116) 116 6),m1 7 117] [0,1,2,7]
def Alr:IC:=rS [fA 70 8 0,l1 71 70,bZ 72 .eql 71 5,m1 69 72] [0,1,2,7,8,69] (cD 69 nO (rS [fA 108 8 0,l1 109 108,bZ 110 .eql 109 2,m1 107 110] [0,1,2,7,107] (cD 107 Ak7 (rS [m1 20 7,m1 6 20] [6] .ret))))
def AhP:IC:=rS [fA 40 8 0,l1 41 40,bZ 42 .eql 41 4,m1 43 42,B3 44 43 2,pA 45 43 44,m1 39 45] [0,1,2,7,8,39] (cD 39 nO (rS [fA 55 8 0,l1 56 55,bZ 57 .eql 56 7,m1 54 57] [0,1,2,7,8,54] (cD 54 nO Alr)))
def Ahf:IC:=.block 1 (rS [m1 18 0,o1 19 (.calls 112 [.t 18]),o1 8 (.alloc (.agg [.i .i64 0,.s [],.i .i64 0,.i .i64 0])),sT 8 19 4] [0,1,2,7,8] (.block 2 (rS [fA 22 8 0,l1 23 22,bZ 24 .eql 23 1,m1 21 24] [0,1,2,7,8,21] (cD 21 AkR AhP))))
def Asm:IC:=rS [mC 7 .nil] [0,1,2,7] (sQ (.block 0 (.loop (sQ (rS [m1 13 0,nC 14 13,fA 15 14 4,l1 16 15,bZ 17 .eql 16 0] [0,1,2,7,17] (cD 17 .skip nO)) Ahf))) nO)
def Arl:IC:=rS [mC 6 .nil] [0,1,2] Asm
def Aq7:Cv:=⟨118,Arl,[.t 6]⟩
theorem Asa:Bz π 74 Aq7=true:=by kernel_rfl
def zY:IC:=sQ (.block 1 (sQ (rS [m1 11 0,m1 12 4,o1 13 (.idx (.t 11) (.t 12)),q1 14 164 13] [0,3,4,14] (cD 14 nO .skip)) (.seqr [m1 18 3,m1 19 0,m1 20 4,o1 21 (.idx (.t 19) (.t 20)),o1 22 (.msl true 5 1 [.t 21]),o1 23 (.app (.t 18) (.t 22) 5 1),m1 3 23] [0,3,4]))) (.seqr [m1 9 4,bZ 10 .add 9 1,m1 4 10] [0,3,4])
def AjK:IC:=sQ (rS [mZ 4 0] [0,3,4] (.block 0 (.loop (sQ (rS [m1 5 4,m1 6 0,nS 7 6,bT 8 .lss 5 7] [0,3,4,8] (cD 8 .skip (.exit 0))) zY)))) (rS [m1 24 3,o1 25 (.btos (.t 24)),m1 2 25] [2] .ret)
def AlQ:IC:=rS [mC 2 (.s [])] [0] (rS [mC 3 .nil] [0,3] AjK)
def Ady:Cv:=⟨26,AlQ,[.t 2]⟩
theorem Ag5:Bz π 118 Ady=true:=by kernel_rfl
def AhA:IC:=sQ (.block 4 (.ops [m1 128 5,m1 129 1,fA 130 8 4,l1 131 130,m1 132 9,iA 133 131 132 118 2,fA 134 133 0,l1 135 134,bT 136 .add 129 135,m1 137 1,bT 138 .add 136 137,bC 139 .add 138 (.s [123]),fA 140 8 4,l1 141 140,m1 142 9,iA 143 141 142 118 2,fA 144 143 1,l1 145 144,m1 146 1,o1 147 (.callr 77 [.t 145,.t 146]),bT 148 .add 139 147,bC 149 .add 148 (.s [125]),bT 150 .add 128 149,m1 5 150] [0,1,5,6,7,8,9] [[2,3],[3,5],[4,5],[5,6],[6,7],[1,8],[7,8],[8,10],[9,10],[10,11],[12,13],[13,15],[14,15],[15,16],[16,17],[17,19],[18,19],[11,20],[19,20],[20,21],[0,22],[21,22],[0,23],[22,23]])) (.seqr [m1 126 9,bZ 127 .add 126 1,m1 9 127] [0,1,5,6,7,8,9])
def Amd:IC:=sQ (rS [mZ 9 0] [0,1,5,6,7,8,9] (.block 3 (.loop (sQ (rS [m1 121 9,fA 122 8 4,l1 123 122,nL 124 123,bT 125 .lss 121 124] [0,1,5,6,7,8,9,125] (cD 125 .skip (.exit 3))) AhA)))) (.seqr [m1 151 5,bC 152 .add 151 (.s [125]),m1 5 152] [0,1,5,6,7])
def Alm:IC:=sQ (rS [fA 116 8 0,l1 117 116,q1 118 119 117] [0,1,5,6,7,8,118] (cD 118 (.seqr [m1 119 5,bC 120 .add 119 (.s [44]),m1 5 120] [0,1,5,6,7,8]) nO)) Amd
def AiJ:IC:=sQ (.ops [m1 91 5,fA 92 8 2,l1 93 92,o1 94 (.bin .add (.c (.s [123])) (.t 93)),bC 95 .add 94 (.s [44]),m1 96 1,bT 97 .add 95 96,m1 98 6,fA 99 8 0,l1 100 99,bZ 101 .sub 100 3,iA 102 98 101 9 1,l1 103 102,bT 104 .add 97 103,bT 105 .add 91 104,m1 5 105] [0,1,5,6,7,8] [[1,2],[2,3],[3,4],[4,6],[5,6],[8,9],[9,10],[7,11],[10,11],[11,12],[6,13],[12,13],[0,14],[13,14],[0,15],[14,15]]) (sQ (rS [fA 106 8 3,l1 107 106,bC 108 .neq 107 (.s [])] [0,1,5,6,7,8,108] (cD 108 nO .skip)) Alm)
def Ajs:IC:=rS [fA 83 8 0,l1 84 83,bZ 85 .geq 84 3,m1 86 85,Dr 87 86 8 0,Dp 88 86 87,CH 89 86 .leq 88 9,pA 90 86 89,m1 82 90] [0,1,5,6,7,8,82] (cD 82 AiJ nO)
def AkH:IC:=rS [fA 53 8 0,l1 54 53,bZ 55 .eql 54 11,m1 52 55] [0,1,5,6,7,8,52] (cD 52 nO (rS [fA 73 8 0,l1 74 73,bZ 75 .eql 74 2,m1 72 75] [0,1,5,6,7,8,72] (cD 72 nO Ajs)))
def Ajb:IC:=rS [fA 37 8 0,l1 38 37,bZ 39 .eql 38 11,m1 40 39,Dr 41 40 8 5,Dp 42 40 41,gT 43 40 (.lenL (.t 42)),CH 44 40 .eql 43 0,pA 45 40 44,m1 36 45] [0,1,5,6,7,8,36] (cD 36 nO AkH)
def AjF:IC:=.block 2 (rS [fA 22 8 0,l1 23 22,bZ 24 .eql 23 1,m1 21 24] [0,1,5,6,7,8,21] (cD 21 (.seqr [m1 25 5,fA 26 8 1,l1 27 26,q1 28 118 27,bT 29 .add 25 28,m1 5 29] [0,1,5,6,7]) (rS [fA 31 8 0,l1 32 31,bZ 33 .eql 32 10,m1 30 33] [0,1,5,6,7,8,30] (cD 30 nO Ajb))))
def AjX:IC:=sQ (.block 1 (rS [m1 17 0,m1 18 7,iA 19 17 18 116 6,lA 20 19 6,o1 8 (.alloc (.agg [.i .i64 0,.s [],.s [],.s [],.nil,.nil])),sT 8 20 6] [0,1,5,6,7,8] AjF)) (.seqr [m1 15 7,bZ 16 .add 15 1,m1 7 16] [0,1,5,6,7])
def ArJ:IC:=sQ (rS [mZ 7 0] [0,1,5,6,7] (.block 0 (.loop (sQ (rS [m1 11 7,m1 12 0,nL 13 12,bT 14 .lss 11 13] [0,1,5,6,7,14] (cD 14 .skip (.exit 0))) AjX)))) (rS [m1 153 5,m1 4 153] [4] .ret)
def AsY:IC:=rS [o1 10 (.msl true 9 1 [.c (.s [110,117,109,98,101,114]),.c (.s [117,110,105,116]),.c (.s [100,97,116,101]),.c (.s [108,105,115,116]),.c (.s [112,108,117,114,97,108]),.c (.s [111,114,100,105,110,97,108]),.c (.s [115,101,108,101,99,116])]),m1 6 10] [0,1,5,6] ArJ
def ApF:IC:=rS [mC 4 (.s [])] [0,1] (rS [mC 5 (.s [])] [0,1,5] AsY)
def AsX:Cv:=⟨154,ApF,[.t 4]⟩
theorem AnR:Bz π 77 AsX=true:=by kernel_rfl
def AkE:IC:=sQ (rS [m1 69 11,o1 70 (.callr 77 [.t 69,.c (.s [32])]),nS 71 70,bZ 72 .gtr 71 4000] [5,11,72] (cD 72 nO .skip)) (rS [m1 74 11,o1 75 (.build [.i .i64 0,.i .i64 0,.i .i64 0] []),m1 4 74,sT 5 75 3,mZ 6 0] [4,5,6] .ret)
def Amt:IC:=sQ (rS [m1 35 10,nC 36 35,fA 37 36 4,l1 38 37,bZ 39 .eql 38 0,m1 40 39,B3 41 40 10,gT 42 40 (.nilck (.t 41)),Dr 43 40 42 0,Dp 44 40 43,gT 45 40 (.lenL (.t 44)),CH 46 40 .gtr 45 0,pA 47 40 46] [0,5,10,11,47] (cD 47 nO .skip)) (sQ (rS [m1 50 10,nC 51 50,fA 52 51 4,l1 53 52,bZ 54 .neq 53 0] [0,5,10,11,54] (cD 54 nO .skip)) AkE)
def Ai2:IC:=rS [m1 25 7,m1 26 0,nS 27 26,m1 28 8,m1 29 9,o1 30 (.build [.nil,.i .i64 0,.nil,.i .i64 0,.i .i64 0] [(0,1,.t 25),(1,1,.t 27),(3,1,.t 28),(4,1,.t 29)]),bX 31 30,m1 10 31] [0,1,5,10] (rS [m1 32 10,m1 33 1,o1 34 (.calls 74 [.t 32,ci 1,.t 33]),m1 11 34] [0,5,10,11] Amt)
def AnE:IC:=rS [m1 15 0,q1 16 73 15,m1 14 16,xT 17 14 0,xT 18 14 1,xT 19 14 2,m1 7 17,m1 8 18,m1 9 19] [0,1,5,7,8,9] (sQ (rS [m1 20 9,bZ 21 .eql 20 6] [0,1,5,7,8,9,21] (cD 21 nO .skip)) Ai2)
def AoM:IC:=rS [mC 4 .nil,o1 5 (.alloc (.agg [.i .i64 0,.i .i64 0,.i .i64 0])),mZ 6 0] [0,1,5] AnE
def AqF:Cv:=⟨76,AoM,[.t 4,.c 5 3 true,.t 6]⟩
theorem Atf:Bz π 46 AqF=true:=by kernel_rfl
def ApP:IC:=rS [mC 2 .nil,o1 3 (.alloc (.agg [.i .i64 0,.i .i64 0,.i .i64 0])),mZ 4 0] [0,3] (rS [m1 5 0,o1 6 (.call 46 [.t 5,.c (.b false)]),xT 7 6 0,xT 8 6 1,xT 9 6 2,m1 2 7,sT 3 8 3,m1 4 9] [2,3,4] .ret)
def Api:Cv:=⟨10,ApP,[.t 2,.c 3 3 true,.t 4]⟩
theorem AqR:Bz π 27 Api=true:=by kernel_rfl
def An7:IC:=rS [m1 3 0,bC 4 .geq 3 (.i .u8 97),m1 5 4,B3 6 5 0,gT 7 5 (.bin .leq (.t 6) (.c (.i .u8 122))),pA 8 5 7,m1 9 8,Bu 10 9 0,gF 11 9 (.bin .geq (.t 10) (.c (.i .u8 65))),Bu 12 9 11,B3 13 12 0,gT 14 12 (.bin .leq (.t 13) (.c (.i .u8 90))),gF 15 9 (.pick (.t 12) (.t 14) (.c (.b false))),pO 16 9 15,m1 17 16,Bu 18 17 0,gF 19 17 (.bin .geq (.t 18) (.c (.i .u8 48))),Bu 20 17 19,B3 21 20 0,gT 22 20 (.bin .leq (.t 21) (.c (.i .u8 57))),gF 23 17 (.pick (.t 20) (.t 22) (.c (.b false))),pO 24 17 23,m1 2 24] [2] .ret
def AmX:IC:=rS [mC 2 (.b false)] [0] An7
def Ap3:Cv:=⟨25,AmX,[.t 2]⟩
theorem AoW:Bz π 97 Ap3=true:=by kernel_rfl
def AgT:IC:=rS [m1 26 0,m1 27 3,o1 28 (.idx (.t 26) (.t 27)),q1 29 97 28,nT 30 29,m1 31 30,B3 32 31 0,B3 33 31 3,gT 34 31 (.idx (.t 32) (.t 33)),gT 35 31 (.bin .neq (.t 34) (.c (.i .u8 95))),pA 36 31 35,m1 37 36,B3 38 37 0,B3 39 37 3,gT 40 37 (.idx (.t 38) (.t 39)),gT 41 37 (.bin .neq (.t 40) (.c (.i .u8 45))),pA 42 37 41] [0,22,23,42] (cD 42 nO .skip)
def Ajd:IC:=rS [bT 24 .lss 23 22] [0,22,23,24] (sQ (cD 24 .skip (.exit 0)) (sQ (.block 1 (rS [m1 25 23,m1 3 25] [0,3,22,23] AgT)) (.seqr [bZ 43 .add 23 1,m1 23 43] [0,22,23])))
def Ao7:IC:=sQ (rS [m1 4 0,bC 5 .eql 4 (.s []),m1 6 5,Bu 7 6 0,gF 8 6 (.lenS (.t 7)),D7 9 6 .gtr 8 40,pO 10 6 9,m1 11 10,Bu 12 11 0,gF 13 11 (.idx (.t 12) (ci 0)),gF 14 11 (.bin .lss (.t 13) (.c (.i .u8 97))),pO 15 11 14,m1 16 15,Bu 17 16 0,gF 18 16 (.idx (.t 17) (ci 0)),gF 19 16 (.bin .gtr (.t 18) (.c (.i .u8 122))),pO 20 16 19] [0,20] (cD 20 nO .skip)) (sQ (rS [m1 21 0,nS 22 21,mZ 23 0] [0,22,23] (.block 0 (.loop Ajd))) (rS [mC 2 (.b true)] [2] .ret))
def Aq1:IC:=rS [mC 2 (.b false)] [0] Ao7
def AqH:Cv:=⟨44,Aq1,[.t 2]⟩
theorem ApY:Bz π 62 AqH=true:=by kernel_rfl
def Aok:IC:=rS [mC 2 (.b false)] [0] (rS [m1 3 0,bZ 4 .geq 3 7,m1 5 4,B3 6 5 0,CH 7 5 .leq 6 9,pA 8 5 7,m1 2 8] [2] .ret)
def Arp:Cv:=⟨9,Aok,[.t 2]⟩
theorem AoI:Bz π 79 Arp=true:=by kernel_rfl
def Abe:IC:=sQ (rS [bZ 19 .eql 9 2,m1 18 19] [1,3,4,9,18] (cD 18 nO (rS [bZ 20 .eql 9 11,m1 18 20] [1,3,4,9,18] (cD 18 nO (rS [bZ 21 .eql 9 7,m1 18 21] [1,3,4,9,18] (cD 18 .skip nO)))))) (cD 18 (.seqr [fA 24 1 2,l1 25 24,fA 26 3 2,sT 26 25 1] [1,3,4]) nO)
def Aml:IC:=.block 0 (rS [bZ 11 .eql 9 1,m1 10 11] [1,3,4,9,10] (cD 10 (rS [fA 12 1 1,l1 13 12,fA 14 3 1,sT 14 13 1] [1,3] (.seqr [fA 15 1 1,l1 16 15,bC 17 .neq 16 (.s []),m1 4 17] [1,3,4])) Abe))
def Ac2:IC:=rS [m1 92 4,m1 93 92,Dr 94 93 1 1,Dp 95 93 94,Dr 96 93 3 1,Dp 97 93 96,gT 98 93 (.bin .eql (.t 95) (.t 97)),pA 99 93 98,m1 100 99,Dr 101 100 1 2,Dp 102 100 101,Dr 103 100 3 2,Dp 104 100 103,gT 105 100 (.bin .eql (.t 102) (.t 104)),pA 106 100 105,m1 107 106,Dr 108 107 1 3,Dp 109 107 108,Dr 110 107 3 3,Dp 111 107 110,gT 112 107 (.bin .eql (.t 109) (.t 111)),pA 113 107 112,m1 114 113,Dr 115 114 1 4,Dp 116 114 115,gT 117 114 (.lenL (.t 116)),CH 118 114 .eql 117 0,B3 119 114 118,DP 120 119 1 0,Dy 121 119 120,gF 122 119 (.call 79 [.t 121]),gT 123 114 (.pick (.t 119) (.c (.b true)) (.t 122)),pA 124 114 123,m1 125 124,Dr 126 125 1 5,Dp 127 125 126,gT 128 125 (.lenL (.t 127)),CH 129 125 .eql 128 0,B3 130 125 129,DP 131 130 1 0,Dy 132 130 131,D7 133 130 .eql 132 11,gT 134 125 (.pick (.t 130) (.c (.b true)) (.t 133)),pA 135 125 134,m1 2 135] [2] .ret
def Aal:IC:=sQ (rS [fA 73 3 2,l1 74 73,bC 75 .neq 74 (.s []),m1 76 75,DP 77 76 1 0,Dy 78 76 77,D7 79 76 .neq 78 1,Bu 80 76 79,Dr 81 80 1 0,Dp 82 80 81,CH 83 80 .neq 82 10,gF 84 76 (.pick (.t 80) (.t 83) (.c (.b false))),pO 85 76 84] [1,3,4,85] (cD 85 (.seqr [m1 86 4,m1 87 86,Dr 88 87 1 2,Dp 89 87 88,gT 90 87 (.call 62 [.t 89]),pA 91 87 90,m1 4 91] [1,3,4]) .skip)) Ac2
def Amn:IC:=rS [fA 5 1 0,l1 6 5,o1 7 (.build [.i .i64 0,.s [],.s [],.s [],.nil,.nil] [(0,1,.t 6)]),o1 3 (.alloc (.agg [.i .i64 0,.s [],.s [],.s [],.nil,.nil])),sT 3 7 6] [1,3] (rS [mC 4 (.b true)] [1,3,4] (sQ (rS [fA 8 1 0,l1 9 8] [1,3,4,9] Aml) Aal))
def Akj:IC:=rS [bX 1 0,mC 2 (.b false)] [1] Amn
def Aei:Cv:=⟨136,Akj,[.t 2]⟩
theorem AlF:Bz π 131 Aei=true:=by kernel_rfl
def AcE:IC:=cD 4 nO (rS [bC 8 .eql 3 (.s [102,101,119]),m1 4 8] [3,4] (cD 4 nO (rS [bC 9 .eql 3 (.s [109,97,110,121]),m1 4 9] [3,4] (cD 4 nO (.seqr [bC 10 .eql 3 (.s [111,116,104,101,114]),m1 4 10] [4])))))
def Aih:IC:=.block 0 (sQ (rS [bC 5 .eql 3 (.s [122,101,114,111]),m1 4 5] [3,4] (cD 4 nO (rS [bC 6 .eql 3 (.s [111,110,101]),m1 4 6] [3,4] (cD 4 nO (rS [bC 7 .eql 3 (.s [116,119,111]),m1 4 7] [3,4] AcE))))) (cD 4 (rS [mC 2 (.b true)] [2] .ret) .skip))
def Ahk:IC:=rS [mC 2 (.b false)] [0] (sQ (rS [m1 3 0] [3] Aih) (rS [mC 2 (.b false)] [2] .ret))
def Afn:Cv:=⟨11,Ahk,[.t 2]⟩
theorem Akz:Bz π 242 Afn=true:=by kernel_rfl
def AgO:IC:=sQ (rS [m1 8 0,m1 9 1,q2 10 244 8 9,m1 7 10] [0,1,7] (rS [m1 11 7,bZ 12 .geq 11 0] [0,1,7,12] (cD 12 nO .skip))) (rS [m1 22 0,m1 4 22,mC 5 (.s []),mC 6 (.b false)] [4,5,6] .ret)
def AlN:IC:=rS [mC 4 (.s []),mC 5 (.s []),mC 6 (.b false)] [0,1] AgO
def AfT:Cv:=⟨23,AlN,[.t 4,.t 5,.t 6]⟩
theorem Ajr:Bz π 189 AfT=true:=by kernel_rfl
def Alw:IC:=rS [mC 4 (.s []),mC 5 (.s []),mC 6 (.b false)] [0,1] (rS [m1 7 0,m1 8 1,q2 9 189 7 8,xT 10 9 0,xT 11 9 1,xT 12 9 2,m1 4 10,m1 5 11,m1 6 12] [4,5,6] .ret)
def Agf:Cv:=⟨13,Alw,[.t 4,.t 5,.t 6]⟩
theorem Aib:Bz π 136 Agf=true:=by kernel_rfl
def Ahz:IC:=rS [mC 2 (.b false)] [0] (rS [m1 3 0,o1 4 (.call 190 [.t 3,.c (.s [48,49,50,51,52,53,54,55,56,57])]),bC 5 .eql 4 (.s []),m1 2 5] [2] .ret)
def Adt:Cv:=⟨6,Ahz,[.t 2]⟩
theorem AjU:Bz π 137 Adt=true:=by kernel_rfl
def Alx:IC:=rS [m1 51 8,m1 52 51,B3 53 52 7,gT 54 52 (.lenS (.t 53)),CH 55 52 .eql 54 0,pA 56 52 55,m1 57 56,Bu 58 57 7,gF 59 57 (.lenS (.t 58)),D7 60 57 .gtr 59 6,pO 61 57 60,m1 62 61,Bu 63 62 7,gF 64 62 (.call 137 [.t 63]),gF 65 62 (.not (.t 64)),pO 66 62 65,m1 50 66] [2,5,9,50] (cD 50 nO .skip)
def AkC:IC:=sQ (.ops [lA 68 9 3,m1 69 5,nT 70 69,m1 71 70,gF 72 71 (.load (.t 9) 3 true),gF 73 71 (.call 138 [.t 72]),gF 74 71 (.not (.t 73)),pO 75 71 74,sT 2 68 3,m1 3 75] [2,3] [[1,2],[2,3],[3,4],[3,5],[4,5],[3,6],[5,6],[3,7],[6,7],[0,8],[4,5,8],[7,9]]) .ret
def Ate:IC:=sQ (.block 0 (rS [m1 26 6,nS 27 26,bZ 28 .lss 27 1,m1 29 28,Bu 30 29 6,gF 31 29 (.lenS (.t 30)),D7 32 29 .gtr 31 15,pO 33 29 32,m1 34 33,Bu 35 34 6,gF 36 34 (.call 137 [.t 35]),gF 37 34 (.not (.t 36)),pO 38 34 37,m1 39 38,Bu 40 39 6,gF 41 39 (.lenS (.t 40)),D7 42 39 .gtr 41 1,Bu 43 39 42,B3 44 43 6,gT 45 43 (.idx (.t 44) (ci 0)),gT 46 43 (.bin .eql (.t 45) (.c (.i .u8 48))),gF 47 39 (.pick (.t 43) (.t 46) (.c (.b false))),pO 48 39 47,m1 25 48] [2,5,7,8,9,25] (cD 25 nO Alx))) AkC
def AqK:IC:=rS [m1 21 5,m1 22 6,m1 23 7,o1 24 (.build [.b false,.s [],.s []] [(0,1,.t 21),(1,1,.t 22),(2,1,.t 23)]),o1 9 (.alloc (.agg [.b false,.s [],.s []])),sT 9 24 3] [2,5,6,7,8,9] Ate
def ApJ:IC:=rS [m1 11 0,o1 12 (.call 135 [.t 11,.c (.s [45])]),m1 10 12,xT 13 10 0,xT 14 10 1,m1 4 13,m1 5 14] [2,4,5] (rS [m1 16 4,o1 17 (.call 136 [.t 16,.c (.s [46])]),m1 15 17,xT 18 15 0,xT 19 15 1,xT 20 15 2,m1 6 18,m1 7 19,m1 8 20] [2,5,6,7,8] AqK)
def Aqu:IC:=rS [o1 2 (.alloc (.agg [.b false,.s [],.s []])),mC 3 (.b false)] [0,2] ApJ
def Aqr:Cv:=⟨76,Aqu,[.c 2 3 true,.t 3]⟩
theorem Aps:Bz π 98 Aqr=true:=by kernel_rfl
def AnD:IC:=rS [m1 6 0,q1 7 98 6,m1 5 7,xT 8 5 0,xT 9 5 1,o1 3 (.alloc (.agg [.b false,.s [],.s []])),sT 3 8 3,m1 4 9] [4] (rS [m1 10 4,m1 2 10] [2] .ret)
def Aob:IC:=rS [mC 2 (.b false)] [0] AnD
def Ao0:Cv:=⟨11,Aob,[.t 2]⟩
theorem Aof:Bz π 67 Ao0=true:=by kernel_rfl
def zS:IC:=rS [m1 16 1,q1 17 242 16,m1 18 17,Bu 19 18 6,Bu 20 18 19,B3 21 20 5,gT 22 20 (.call 67 [.t 21]),gF 23 18 (.pick (.t 20) (.t 22) (.c (.b false))),pO 24 18 23,m1 4 24] [4] .ret
def AiQ:IC:=sQ (rS [m1 7 0,bZ 8 .eql 7 9] [1,8] (cD 8 nO .skip)) (rS [m1 12 1,o1 13 (.call 135 [.t 12,.c (.s [61])]),m1 11 13,xT 14 11 0,xT 15 11 1,m1 5 14,m1 6 15] [1,5,6] zS)
def Al4:IC:=rS [mC 4 (.b false)] [0,1] AiQ
def Af7:Cv:=⟨25,Al4,[.t 4]⟩
theorem AlW:Bz π 185 Af7=true:=by kernel_rfl
def AcT:IC:=sQ (rS [fA 20 5 0,l1 21 20,fA 22 11 0,l1 23 22,q2 24 185 21 23,nT 25 24,m1 26 25,Bu 27 26 9,DP 28 26 11 0,Dy 29 26 28,gF 30 26 (.rdm (.mget .str (.b false) false) (.t 27) [.t 29]),pO 31 26 30,m1 32 31,gF 33 32 (.load (.t 4) 1 true),DP 34 32 11 1,Dy 35 32 34,Bu 36 32 2,Bu 37 32 3,Bu 38 32 37,DP 39 38 5 0,Dy 40 38 39,D7 41 38 .neq 40 9,gF 42 32 (.pick (.t 38) (.c (.b true)) (.t 41)),gF 43 32 (.calls 95 [.t 33,.t 35,.t 36,.t 42]),gF 44 32 (.not (.t 43)),pO 45 32 44] [2,3,4,5,9,11,14,15,16,45] (cD 45 nO .skip)) (.seqr [m1 46 9,fA 47 11 0,l1 48 47,o0 (.wrm (.mput .str) (.t 46) [.t 48,.c (.b true)])] [2,3,4,5,9,14,15,16])
def Ab8:IC:=sQ (.block 1 (rS [iA 18 14 16 118 2,lA 19 18 2,o1 11 (.alloc (.agg [.s [],.nil])),sT 11 19 2] [2,3,4,5,9,11,14,15,16] AcT)) (.seqr [bZ 49 .add 16 1,m1 16 49] [2,3,4,5,9,14,15,16])
def zR:IC:=rS [fA 50 5 4,l1 51 50,nL 52 51,bZ 53 .leq 52 20,m1 54 53,B3 55 54 9,gT 56 54 (.rdm (.mget .str (.b false) false) (.t 55) [.c (.s [111,116,104,101,114])]),pA 57 54 56,m1 8 57] [8] .ret
def Akx:IC:=sQ (rS [fA 13 5 4,l1 14 13,nL 15 14,mZ 16 0] [2,3,4,5,9,14,15,16] (.block 0 (.loop (rS [bT 17 .lss 16 15] [2,3,4,5,9,14,15,16,17] (sQ (cD 17 .skip (.exit 0)) Ab8))))) zR
def AjS:IC:=rS [bX 4 0,bX 5 1,mC 8 (.b false)] [2,3,4,5] (rS [o1 12 (.mkm .mkmap []),m1 9 12] [2,3,4,5,9] Akx)
def AdT:Cv:=⟨58,AjS,[.t 8]⟩
theorem AhQ:Bz π 132 AdT=true:=by kernel_rfl
def Ai5:IC:=rS [fA 81 10 0,l1 82 81,bZ 83 .neq 82 11,m1 84 83,Dr 85 84 10 2,Dp 86 84 85,gT 87 84 (.bin .neq (.t 86) (.c (.s []))),pA 88 84 87] [1,2,3,4,10,11,12,13,88] (cD 88 (.seqr [fA 89 4 0,l1 90 89,fA 91 10 2,l1 92 91,o0 (.wrm (.mput .str) (.t 90) [.t 92,.c (.b true)])] [1,2,3,4,11,12,13]) .skip)
def AhY:IC:=sQ (rS [fA 65 10 0,l1 66 65,q1 67 79 66,m1 68 67,B3 69 68 2,CH 70 68 .geq 69 8,B3 71 68 70,gF 72 71 (.load (.t 4) 1 true),gF 73 71 (.load (.t 10) 6 true),Bu 74 71 2,D7 75 71 .add 74 1,Bu 76 71 3,gF 77 71 (.calls 132 [.t 72,.t 73,.t 75,.t 76]),gF 78 71 (.not (.t 77)),gT 79 68 (.pick (.t 71) (.c (.b true)) (.t 78)),pA 80 68 79] [1,2,3,4,10,11,12,13,80] (cD 80 nO .skip)) Ai5
def Aln:IC:=sQ (rS [fA 48 10 0,l1 49 48,bZ 50 .eql 49 11,m1 51 50,B3 52 51 2,CH 53 51 .geq 52 8,B3 54 51 53,gF 55 54 (.load (.t 4) 1 true),DP 56 54 10 5,Dy 57 54 56,Bu 58 54 2,D7 59 54 .add 58 1,Bu 60 54 3,gF 61 54 (.calls 95 [.t 55,.t 57,.t 59,.t 60]),gF 62 54 (.not (.t 61)),gT 63 51 (.pick (.t 54) (.c (.b true)) (.t 62)),pA 64 51 63] [1,2,3,4,10,11,12,13,64] (cD 64 nO .skip)) AhY
def Ame:IC:=sQ (rS [lA 18 10 6,o1 19 (.callr 131 [.t 18]),nT 20 19,m1 21 20,DP 22 21 10 0,Dy 23 21 22,D7 24 21 .eql 23 10,Bu 25 21 24,B3 26 25 3,gT 27 25 (.not (.t 26)),gF 28 21 (.pick (.t 25) (.t 27) (.c (.b false))),pO 29 21 28,m1 30 29,Bu 31 30 9,D7 32 30 .gtr 31 0,Bu 33 30 32,Dr 34 33 10 0,Dp 35 33 34,CH 36 33 .eql 35 1,gF 37 30 (.pick (.t 33) (.t 36) (.c (.b false))),Bu 38 30 37,B3 39 38 1,B3 40 38 9,CH 41 38 .sub 40 1,gT 42 38 (.iaddr (.t 39) (.t 41) 116 6),Dr 43 38 42 0,Dp 44 38 43,CH 45 38 .eql 44 1,gF 46 30 (.pick (.t 38) (.t 45) (.c (.b false))),pO 47 30 46] [1,2,3,4,10,11,12,13,47] (cD 47 nO .skip)) Aln
def All:IC:=sQ (.block 1 (rS [m1 15 13,iA 16 11 13 116 6,lA 17 16 6,o1 10 (.alloc (.agg [.i .i64 0,.s [],.s [],.s [],.nil,.nil])),m1 9 15,sT 10 17 6] [1,2,3,4,9,10,11,12,13] Ame)) (.seqr [bZ 93 .add 13 1,m1 13 93] [1,2,3,4,11,12,13])
def Arm:IC:=sQ (rS [m1 11 1,nL 12 11,mZ 13 0] [1,2,3,4,11,12,13] (.block 0 (.loop (rS [bT 14 .lss 13 12] [1,2,3,4,11,12,13,14] (sQ (cD 14 .skip (.exit 0)) All))))) (rS [mC 8 (.b true)] [8] .ret)
def Arh:IC:=rS [bX 4 0,mC 8 (.b false)] [1,2,3,4] Arm
def Aoh:Cv:=⟨94,Arh,[.t 8]⟩
theorem An3:Bz π 95 Aoh=true:=by kernel_rfl
def AsB:IC:=rS [lA 8 5 1,m1 9 0,m1 10 1,o1 11 (.calls 95 [.t 8,.t 9,ci 0,.t 10]),m1 12 11,Dr 13 12 5 0,Dp 14 12 13,gT 15 12 (.rdm .mlen (.t 14) []),CH 16 12 .leq 15 20,pA 17 12 16,m1 18 17,B3 19 18 0,gT 20 18 (.callr 96 [.t 19]),CH 21 18 .leq 20 4000,pA 22 18 21,m1 4 22] [4] .ret
def Anf:IC:=rS [mC 4 (.b false)] [0,1] (rS [o1 6 (.mkm .mkmap []),o1 7 (.build [.nm] [(0,1,.t 6)]),o1 5 (.alloc (.agg [.nm])),sT 5 7 1] [0,1,5] AsB)
def Ap7:Cv:=⟨23,Anf,[.t 4]⟩
theorem Ani:Bz π 59 Ap7=true:=by kernel_rfl
def Anc:IC:=rS [mC 2 (.b false)] [0] (rS [m1 3 0,o1 4 (.callr 59 [.t 3,.c (.b false)]),m1 2 4] [2] .ret)
def Asj:Cv:=⟨5,Anc,[.t 2]⟩
theorem Ars:Bz π 35 Asj=true:=by kernel_rfl
def AnL:IC:=sQ (.ops [m1 5 0,m1 6 0,nC 7 6,fA 8 7 0,fA 9 8 1,l1 10 9,lA 11 3 4,o1 12 (.msl true 54 4 [.t 11]),o1 13 (.app (.t 10) (.t 12) 54 4),nC 14 5,fA 15 14 0,fA 16 15 1,sT 16 13 1] [0] [[1,2],[2,3],[3,4],[4,5],[6,7],[5,8],[6,7,8],[7,8],[0,9],[9,10],[10,11],[5,12],[6,12],[8,12],[11,12]]) (rS [m1 17 0,nC 18 17,fA 19 18 0,fA 20 19 1,l1 21 20,nL 22 21,bZ 23 .sub 22 1,m1 4 23] [4] .ret)
def ApB:IC:=rS [bX 3 1,mZ 4 0] [0,3] AnL
def Ary:Cv:=⟨24,ApB,[.t 4]⟩
theorem Aoy:Bz π 48 Ary=true:=by kernel_rfl
def Am5:IC:=sQ (rS [m1 6 0,nL 7 6,mZ 8 0] [0,1,7,8] (.block 0 (.loop (rS [bT 9 .lss 8 7] [0,1,7,8,9] (sQ (cD 9 nO (.exit 0)) nO))))) (rS [mZ 4 (-1)] [4] .ret)
def Am7:IC:=rS [mZ 4 0] [0,1] Am5
def Aeu:Cv:=⟨19,Am7,[.t 4]⟩
theorem Agy:Bz π 120 Aeu=true:=by kernel_rfl
def Ah5:IC:=.seqr [m1 21 0,m1 22 0,nC 23 22,fA 24 23 0,fA 25 24 0,l1 26 25,m1 27 1,o1 28 (.msl true 9 1 [.t 27]),o1 29 (.app (.t 26) (.t 28) 9 1),nC 30 21,fA 31 30 0,fA 32 31 0,sT 32 29 1] [5]
def AoE:IC:=sQ (rS [m1 13 5,bZ 14 .lss 13 0] [0,1,5,14] (cD 14 (rS [m1 15 0,nC 16 15,fA 17 16 0,fA 18 17 0,l1 19 18,nL 20 19,m1 5 20] [0,1,5] Ah5) nO)) (rS [m1 33 5,m1 4 33] [4] .ret)
def Aod:IC:=rS [mZ 4 0] [0,1] (rS [m1 6 0,nC 7 6,fA 8 7 0,fA 9 8 0,l1 10 9,m1 11 1,o1 12 (.callr 120 [.t 10,.t 11]),m1 5 12] [0,1,5] AoE)
def AnA:Cv:=⟨34,Aod,[.t 4]⟩
theorem Anv:Bz π 78 AnA=true:=by kernel_rfl
def AjP:IC:=.seqr [m1 41 0,fA 42 8 0,l1 43 42,o1 44 (.build [.i .i64 0,.i .i64 0,.i .i64 0,.s []] [(0,1,ci 11),(3,1,.t 43)]),o1 45 (.calls 48 [.t 41,.t 44])] [0,2,4,6,35,36,37]
def Aj0:IC:=sQ (.block 1 (rS [iA 39 35 37 118 2,lA 40 39 2,o1 8 (.alloc (.agg [.s [],.nil])),sT 8 40 2] [0,2,4,6,8,35,36,37] AjP)) (.seqr [bZ 46 .add 37 1,m1 37 46] [0,2,4,6,35,36,37])
def Ajq:IC:=.seqr [m1 76 9,m1 77 0,o1 78 (.build [.i .i64 0,.i .i64 0,.i .i64 0,.s []] [(0,1,ci 12)]),o1 79 (.calls 48 [.t 77,.t 78]),o1 80 (.msl true 3 1 [.t 79]),o1 81 (.app (.t 76) (.t 80) 3 1),m1 9 81] [0,2,6,9,48,49,50]
def Ahe:IC:=sQ (.ops [m1 55 0,nC 56 55,fA 57 56 0,fA 58 57 1,l1 59 58,m1 60 6,m1 61 10,bT 62 .add 60 61,m1 63 0,nC 64 63,fA 65 64 0,fA 66 65 1,l1 67 66,nL 68 67,iA 69 59 62 54 4,fA 70 69 1,sT 70 68 1] [0,2,6,9,11,48,49,50] [[0,1],[1,2],[2,3],[3,4],[5,7],[6,7],[8,9],[9,10],[10,11],[11,12],[12,13],[4,14],[7,14],[14,15],[4,16],[12,16],[13,16],[14,15,16],[15,16]]) (rS [m1 71 0,fA 72 11 1,l1 73 72,m1 74 2,o1 75 (.calls 47 [.t 71,.t 73,.t 74])] [0,2,6,9,48,49,50] Ajq)
def AgY:IC:=sQ (.block 3 (rS [m1 52 50,iA 53 48 50 118 2,lA 54 53 2,o1 11 (.alloc (.agg [.s [],.nil])),m1 10 52,sT 11 54 2] [0,2,6,9,10,11,48,49,50] Ahe)) (.seqr [bZ 82 .add 50 1,m1 50 82] [0,2,6,9,48,49,50])
def AhF:IC:=.ops [m1 89 0,nC 90 89,fA 91 90 0,fA 92 91 1,l1 93 92,m1 94 13,m1 95 0,nC 96 95,fA 97 96 0,fA 98 97 1,l1 99 98,nL 100 99,iA 101 93 94 54 4,fA 102 101 1,sT 102 100 1] [0,83,84,85] [[0,1],[1,2],[2,3],[3,4],[6,7],[7,8],[8,9],[9,10],[10,11],[4,12],[5,12],[12,13],[4,14],[10,14],[11,14],[12,13,14],[13,14]]
def Ak4:IC:=rS [bT 86 .lss 85 84] [0,83,84,85,86] (sQ (cD 86 .skip (.exit 4)) (sQ (.block 5 (rS [iA 87 83 85 3 1,l1 88 87,m1 13 88] [0,13,83,84,85] AhF)) (.seqr [bZ 103 .add 85 1,m1 85 103] [0,83,84,85])))
def Ahj:IC:=sQ (rS [fA 47 4 4,l1 48 47,nL 49 48,mZ 50 0] [0,2,6,9,48,49,50] (.block 2 (.loop (rS [bT 51 .lss 50 49] [0,2,6,9,48,49,50,51] (sQ (cD 51 .skip (.exit 2)) AgY))))) (rS [m1 83 9,nL 84 83,mZ 85 0] [0,83,84,85] (.block 4 (.loop Ak4)))
def AjG:IC:=sQ (rS [fA 34 4 4,l1 35 34,nL 36 35,mZ 37 0] [0,2,4,6,35,36,37] (.block 0 (.loop (rS [bT 38 .lss 37 36] [0,2,4,6,35,36,37,38] (sQ (cD 38 .skip (.exit 0)) Aj0))))) (rS [mC 9 .nil] [0,2,4,6,9] Ahj)
def Aqq:IC:=sQ (.anyr [m1 19 0,m1 20 0,fA 21 4 2,l1 22 21,o1 23 (.calls 78 [.t 20,.t 22]),fA 24 4 0,l1 25 24,o1 26 (.build [.i .i64 0,.i .i64 0,.i .i64 0,.s []] [(0,1,ci 10),(1,1,.t 23),(2,1,.t 25)]),o1 27 (.calls 48 [.t 19,.t 26])] [0,2,4] [[],[],[],[2],[1,3],[],[5],[4,6],[0,4,7]]) (rS [m1 28 0,nC 29 28,fA 30 29 0,fA 31 30 1,l1 32 31,nL 33 32,m1 6 33] [0,2,4,6] AjG)
def Aru:IC:=rS [bX 4 1] [0,2,4] (sQ (rS [fA 14 4 0,l1 15 14,bZ 16 .neq 15 9] [0,2,4,16] (cD 16 (.seqr [fA 17 4 2,l1 18 17,m1 2 18] [0,2,4]) nO)) Aqq)
def ApU:Cv:=⟨104,Aru,[]⟩
theorem Ar0:Bz π 80 ApU=true:=by kernel_rfl
def Akq:IC:=.seqr [m1 30 0,fA 31 7 1,l1 32 31,o1 33 (.build [.i .i64 0,.i .i64 0,.i .i64 0,.s []] [(0,1,ci 1),(3,1,.t 32)]),o1 34 (.calls 48 [.t 30,.t 33])] [0,2,8,9,10]
def AlU:IC:=rS [fA 80 7 0,l1 81 80,q1 82 79 81,m1 79 82] [0,2,7,8,9,10,79] (cD 79 (.seqr [m1 83 0,lA 84 7 6,m1 85 2,o1 86 (.calls 80 [.t 83,.t 84,.t 85])] [0,2,8,9,10]) nO)
def Al7:IC:=rS [fA 46 7 0,l1 47 46,bZ 48 .eql 47 11,m1 49 48,Dr 50 49 7 5,Dp 51 49 50,gT 52 49 (.lenL (.t 51)),CH 53 49 .eql 52 0,pA 54 49 53,m1 45 54] [0,2,7,8,9,10,45] (cD 45 nO (rS [fA 61 7 0,l1 62 61,bZ 63 .eql 62 11,m1 60 63] [0,2,7,8,9,10,60] (cD 60 nO AlU)))
def AiV:IC:=.block 2 (rS [fA 27 7 0,l1 28 27,bZ 29 .eql 28 1,m1 26 29] [0,2,7,8,9,10,26] (cD 26 Akq (rS [fA 36 7 0,l1 37 36,bZ 38 .eql 37 10,m1 35 38] [0,2,7,8,9,10,35] (cD 35 nO Al7))))
def AsD:IC:=sQ (.block 1 (rS [iA 12 8 10 116 6,lA 13 12 6,o1 7 (.alloc (.agg [.i .i64 0,.s [],.s [],.s [],.nil,.nil])),sT 7 13 6] [0,2,7,8,9,10] AiV)) (.seqr [bZ 87 .add 10 1,m1 10 87] [0,2,8,9,10])
def AqG:IC:=rS [m1 8 1,nL 9 8,mZ 10 0] [0,2,8,9,10] (.block 0 (.loop (rS [bT 11 .lss 10 9] [0,2,8,9,10,11] (sQ (cD 11 .skip (.exit 0)) AsD))))
def Arr:Cv:=⟨88,AqG,[]⟩
theorem An2:Bz π 47 Arr=true:=by kernel_rfl
def Ahs:IC:=rS [m1 14 4,o1 15 (.build [.i .i64 0,.i .i64 0,.i .i64 0,.s []] [(0,1,ci 13)]),o1 16 (.calls 48 [.t 14,.t 15])] [2,4] (rS [m1 17 4,nC 18 17,fA 19 18 0,lA 20 19 2,sT 2 20 2,mZ 3 0] [2,3] .ret)
def Ao2:IC:=sQ (rS [m1 5 0,o1 6 (.callr 35 [.t 5]),nT 7 6] [0,2,7] (cD 7 nO .skip)) (rS [o1 9 (.build [.nil,.nil] []),bX 10 9,m1 4 10] [0,2,4] (rS [m1 11 4,m1 12 0,o1 13 (.calls 47 [.t 11,.t 12,.c (.s [])])] [2,4] Ahs))
def Apm:IC:=rS [o1 2 (.alloc (.agg [.nil,.nil])),mZ 3 0] [0,2] Ao2
def ApE:Cv:=⟨21,Apm,[.c 2 2 true,.t 3]⟩
theorem AoQ:Bz π 28 ApE=true:=by kernel_rfl
def Al6:IC:=sQ (.block 1 (sQ (.ops [m1 17 0,m1 18 5,iA 19 17 18 3 1,l1 20 19,m1 21 1,m1 22 5,iA 23 21 22 3 1,l1 24 23,bT 25 .neq 20 24] [0,1,5,25] [[0,2],[1,2],[2,3],[4,6],[5,6],[6,7],[3,8],[7,8]]) (cD 25 nO .skip))) (.seqr [m1 15 5,bZ 16 .add 15 1,m1 5 16] [0,1,5])
def AoF:IC:=sQ (rS [mZ 5 0] [0,1,5] (.block 0 (.loop (sQ (rS [m1 11 5,m1 12 0,nL 13 12,bT 14 .lss 11 13] [0,1,5,14] (cD 14 .skip (.exit 0))) Al6)))) (rS [mC 4 (.b true)] [4] .ret)
def Ao5:IC:=rS [mC 4 (.b false)] [0,1] (sQ (rS [m1 6 0,nL 7 6,m1 8 1,nL 9 8,bT 10 .neq 7 9] [0,1,10] (cD 10 nO .skip)) AoF)
def ArA:Cv:=⟨26,Ao5,[.t 4]⟩
theorem AnU:Bz π 31 ArA=true:=by kernel_rfl
def AlV:IC:=rS [m1 44 8,bZ 45 .eql 44 0,m1 46 45,B3 47 46 7,gT 48 46 (.bin .eql (.t 47) (.c (.s [97]))),pA 49 46 48,m1 50 49,B3 51 50 10,CH 52 50 .eql 51 0,pA 53 50 52,m1 54 53,B3 55 54 9,gT 56 54 (.msl true 3 1 [ci 0,ci 3,ci 4,ci 7]),gT 57 54 (.callr 31 [.t 55,.t 56]),pA 58 54 57,m1 59 58,B3 60 59 12,CH 61 59 .eql 60 0,pA 62 59 61,m1 63 62,B3 64 63 11,gT 65 63 (.lenL (.t 64)),CH 66 63 .eql 65 1,pA 67 63 66,m1 68 67,B3 69 68 11,gT 70 68 (.iaddr (.t 69) (ci 0) 86 2),Dr 71 68 70 1,Dp 72 68 71,CH 73 68 .eql 72 2,pA 74 68 73,m1 0 74] [0] .ret
def Ajv:IC:=rS [lA 33 4 2,o1 34 (.build [.s [],.s [],.s [],.nil,.nil,.s [],.s [],.s [],.s [],.i .i64 0,.i .i64 0,.nil,.nil,.nil,.nil,.nil] []),m1 35 6,o1 36 (.callr 15 [.t 33,.t 34,.t 35,.c (.b false)]),m1 32 36,xT 37 32 0,xT 38 32 1,m1 9 37,m1 10 38] [4,7,8,9,10] (rS [lA 40 4 2,o1 41 (.callr 30 [.t 40]),m1 39 41,xT 42 39 0,xT 43 39 1,m1 11 42,m1 12 43] [7,8,9,10,11,12] AlV)
def AnK:IC:=rS [lA 26 4 2,o1 27 (.build [.s [],.s [],.s [],.nil,.nil,.s [],.s [],.s [],.s [],.i .i64 0,.i .i64 0,.nil,.nil,.nil,.nil,.nil] []),m1 28 6,o1 29 (.callr 29 [.t 26,.t 27,.t 28,.c (.b false)]),m1 25 29,xT 30 25 0,xT 31 25 1,m1 7 30,m1 8 31] [4,6,7,8] Ajv
def Asg:IC:=rS [o1 23 (.build [.s [],.i .i64 0,.s [],.i .i64 0,.nil] [(0,1,.c (.s [110])),(1,1,ci 2),(2,1,.c (.s [49]))]),o1 24 (.msl true 62 5 [.t 23]),m1 6 24] [4,6] AnK
def Aqa:IC:=rS [o1 14 (.call 27 [.c (.s [123,110,44,32,112,108,117,114,97,108,44,32,61,49,32,123,97,125,32,111,116,104,101,114,32,123,98,125,125])]),m1 13 14,xT 15 13 0,xT 16 13 1,xT 17 13 2,o1 2 (.alloc (.agg [.i .i64 0,.i .i64 0,.i .i64 0])),m1 1 15,sT 2 16 3,m1 3 17] [1] (rS [m1 19 1,o1 20 (.callr 28 [.t 19]),m1 18 20,xT 21 18 0,xT 22 18 1,o1 4 (.alloc (.agg [.nil,.nil])),sT 4 21 2,m1 5 22] [4] Asg)
def Ant:IC:=rS [mC 0 (.b false)] [] Aqa
def Ao1:Cv:=⟨75,Ant,[.t 0]⟩
theorem AsF:Bz π 11 Ao1=true:=by kernel_rfl
noncomputable def evM:FuncId->Option Cv:=(AP 116 (AP 77 (AP 47 (AP 28 (AP 21 (AO 11 Ao1) (AP 27 (AO 21 Aoi) (AO 27 Api))) (AP 35 (AP 31 (AO 28 ApE) (AO 31 ArA)) (AP 46 (AO 35 Asj) (AO 46 AqF)))) (AP 62 (AP 48 (AO 47 Arr) (AP 59 (AO 48 Ary) (AO 59 Ap7))) (AP 73 (AP 67 (AO 62 AqH) (AO 67 Ao0)) (AP 74 (AO 73 As9) (AO 74 Aq7))))) (AP 109 (AP 80 (AP 78 (AO 77 AsX) (AP 79 (AO 78 AnA) (AO 79 Arp))) (AP 97 (AP 95 (AO 80 ApU) (AO 95 Aoh)) (AP 98 (AO 97 Ap3) (AO 98 Aqr)))) (AP 112 (AP 110 (AO 109 AfB) (AP 111 (AO 110 Af3) (AO 111 Afj))) (AP 114 (AP 113 (AO 112 AdZ) (AO 113 Aes)) (AP 115 (AO 114 AfN) (AO 115 Aee)))))) (AP 189 (AP 137 (AP 120 (AP 118 (AO 116 Agm) (AP 119 (AO 118 Ady) (AO 119 AfW))) (AP 132 (AP 131 (AO 120 Aeu) (AO 131 Aei)) (AP 136 (AO 132 AdT) (AO 136 Agf)))) (AP 164 (AP 161 (AO 137 Adt) (AP 162 (AO 161 Af1) (AO 162 Ad5))) (AP 166 (AP 165 (AO 164 Afg) (AO 165 AdC)) (AP 185 (AO 166 Ae3) (AO 185 Af7))))) (AP 242 (AP 225 (AP 223 (AO 189 AfT) (AP 224 (AO 223 Agn) (AO 224 Ae7))) (AP 228 (AP 226 (AO 225 AfF) (AO 226 Ad4)) (AP 229 (AO 228 AeY) (AO 229 Aeo)))) (AP 316 (AP 284 (AP 283 (AO 242 Afn) (AO 283 Af9)) (AP 285 (AO 284 Ad9) (AO 285 AeV))) (AP 336 (AP 317 (AO 316 Ae9) (AO 317 AeF)) (AP 347 (AO 336 Aea) (AO 347 AfE)))))))
theorem Am2:HP π evM:=(.node (.node (.node (.node (.node (.leaf AsF) (.node (.leaf Aqx) (.leaf AqR))) (.node (.node (.leaf AoQ) (.leaf AnU)) (.node (.leaf Ars) (.leaf Atf)))) (.node (.node (.leaf An2) (.node (.leaf Aoy) (.leaf Ani))) (.node (.node (.leaf ApY) (.leaf Aof)) (.node (.leaf Aou) (.leaf Asa))))) (.node (.node (.node (.leaf AnR) (.node (.leaf Anv) (.leaf AoI))) (.node (.node (.leaf Ar0) (.leaf An3)) (.node (.leaf AoW) (.leaf Aps)))) (.node (.node (.leaf Ahr) (.node (.leaf Al0) (.leaf Ajw))) (.node (.node (.leaf Ah8) (.leaf AiN)) (.node (.leaf Am1) (.leaf Alh)))))) (.node (.node (.node (.node (.leaf AiK) (.node (.leaf Ag5) (.leaf Ak9))) (.node (.node (.leaf Agy) (.leaf AlF)) (.node (.leaf AhQ) (.leaf Aib)))) (.node (.node (.leaf AjU) (.node (.leaf AlO) (.leaf Ams))) (.node (.node (.leaf Ahp) (.leaf AjJ)) (.node (.leaf Aht) (.leaf AlW))))) (.node (.node (.node (.leaf Ajr) (.node (.leaf Amk) (.leaf AiO))) (.node (.node (.leaf AhL) (.leaf AhT)) (.node (.leaf AjQ) (.leaf AjH)))) (.node (.node (.node (.leaf Akz) (.leaf Amh)) (.node (.leaf AkI) (.leaf Alq))) (.node (.node (.leaf Als) (.leaf AhS)) (.node (.leaf Ag6) (.leaf Al9)))))))
end Go.Ir
end
namespace Go.Ir
def My(L:BV)(k:Int)(a:List Aa)(v:B4):Aa×Int:=
 if !Dm k then([],1) else if !CR [] (HA L k) then([],18) else if !Mw k v then([],11)
 else if DA a (FSz L k v)<0 then([],13) else(a.getD (DA a (FSz L k v)).toNat [],0)
def SL(X:WX)(names:List Aa)(x:Az):Ev:=match FA X.vs (BM names x.a) with
 | none=>.er 12
 | some v=>AeC X.iso (Ni X.L (x.op-3) x.s v)
def Db(ins:List Az)(i:Nat):List Aa:=(BG (ins.drop (i+1))).map (·.s)
def J3(X:WX)(names:List Aa)(ins:List Az)(i:Nat)(x:Az):Aa×Int:=match FA X.vs (BM names x.a) with
 | none=>([],if(My X.L x.b (Db ins i) ⟨[],0,[],0,[]⟩).2==18 then 18 else 12)
 | some v=>My X.L x.b (Db ins i) v
def aAt(ins:List Az)(k:Nat):Int:=match ins[k]? with
 | some x=>x.a
 | none=>0
def Jg(X:WX)(names:List Aa)(ins:List Az)(i:Nat)(x:Az):Int×Int:=
 if(J3 X names ins i x).2==0 then(aAt ins (i+1+(B8 (λy=>(J3 X names ins i x).1==y) (Db ins i)).toNat),0) else(i,(J3 X names ins i x).2)
def Lv(X:WX)(names:List Aa)(x:Az):Ev:=
 if x.op==1 then .pc x.s else if x.op==2 then .pc (60::(x.s++[62])) else if x.op==3 then .pc (60::47::(x.s++[62]))
 else if x.op==4 then .pc (60::(x.s++[62,60,47]++x.s++[62])) else SL X names x
def Ck(X:WX)(names:List Aa)(ins:List Az)(i:Nat)(x:Az)(st:Aa×Int):(Aa×Int)×Int:=
 if x.op==10 then((st.1,if(Jg X names ins i x).2==0 then st.2 else(Jg X names ins i x).2),(Jg X names ins i x).1)
 else if x.op==12 then(st,x.a) else(IQ st (Lv X names x),(i:Int)+1)
def KG(X:WX)(names:List Aa)(ins:List Az):Nat->Nat->Aa×Int->List Int->(Aa×Int)×List Int
 | 0,_,st,a=>(st,a)
 | n+1,i,st,a=>if st.2==0 then(match ins[i]? with
  | none=>(st,a)
  | some x=>if x.op==13 then(st,a++[(i:Int)]) else KG X names ins n (Ck X names ins i x st).2.toNat (Ck X names ins i x st).1 (a++[(i:Int)])) else(st,a)
def F7(X:WX)(names:List Aa)(ins:List Az):(Aa×Int)×List Int:=KG X names ins (ins.length+1) 0 ([],0) []
structure Ky (nn:Nat) (ins:List Az):Prop where
 pr:∀k y,ins[k]?=some y->AI nn ins k y=true
 la:Eg ins (ins.length-1)=13
 po:0<ins.length
theorem oY{names:List Aa}{ins:List Az}(h:((Cc names ins).2==0)=true):Ky names.length ins:=by
 have hp:¬Ci names.length ins 0 ins>=0:=by
  intro hp;unfold Cc at h;rw[if_pos hp] at h;split at h
  .simp at h
  .split at h<;>simp at h
 have b:Eg ins (ins.length-1)=13/\0<ins.length:=by
  unfold Cc at h;rw[if_neg hp] at h;split at h
  .simp at h
  .split at h
   .simp at h
   .split at h
    .simp at h
    .rename_i a;simp only[AxS,not_or,AsJ,A0e,beq_iff_eq] at a;refine⟨by simpa using a.2,?_⟩;cases ins with
     | nil=>simp at a
     | cons y r=>simp
 exact⟨λk y c=>by have:=KR _ ins ins 0 hp k y c;rwa [AwQ] at this,b.1,b.2⟩
theorem Qz:∀{l:List Az} {k:Nat},k<(BG l).length->∃y,(BG l)[k]?=some y/\l[k]?=some y/\y.op=11:=by
 intro l
 induction l with
 | nil=>intro k h;simp[BG] at h
 | cons x r e=>
  intro k h;rw[BG] at h⊢;split at h
  .rename_i a;rw[if_pos a];cases k with
   | zero=>exact⟨x,by simp,by simp,by simpa using a⟩
   | succ k=>obtain⟨y,b,c,d⟩:=e (k:=k) (by simpa using h);exact⟨y,by simpa using b,by simpa using c,d⟩
  .simp at h
theorem RB{a:List Aa}{w:Aa}(h:w∈a):0<=B8 (λx=>w==x) a/\B8 (λx=>w==x) a<a.length:=by
 refine⟨?_,Yk _ _⟩
 induction a with
 | nil=>cases h
 | cons k r c=>
  rw[B8];cases b:(w==k) with
  | true=>simp
  | false=>
   simp only[cond_false];rcases AmR.1 h with rfl|h
   .simp at b
   .have:=c h;rw[if_neg (by omega)];omega
theorem vR{L:BV}{k:Int}{a:List Aa}{v:B4}(h:((My L k a v).2==0)=true):(My L k a v).1∈a:=by
 unfold My at h⊢;split at h
 .simp at h
 .rename_i b;rw[if_neg b];split at h
  .simp at h
  .rename_i c;rw[if_neg c];split at h
   .simp at h
   .rename_i d;rw[if_neg d];split at h
    .simp at h
    .rename_i e;rw[if_neg e];have f:=(NV a (FSz L k v)).2;simp only;rw[Atj,Ae8 (by omega)];simp
theorem RF{X:WX}{names:List Aa}{ins:List Az}{i:Nat}{x:Az}(h:((J3 X names ins i x).2==0)=true):(J3 X names ins i x).1∈Db ins i:=by
 unfold J3 at h⊢;split at h
 .rename_i a;simp only at h;split at h<;>simp at h
 .exact vR h
theorem Ou{nn:Nat}{ins:List Az}{i:Nat}{x:Az}(h:AI nn ins i x=true)(b:x.op=11\/x.op=12):Li ins i x.a=true:=by unfold AI at h;rcases b with b|b<;>(rw[b] at h;simp only[Int.reduceBEq,AcJ,if_false,Bool.or_self,if_true,A0g] at h;exact h.1)
theorem Wq{ins:List Az}{i:Nat}{a:Int}(h:Li ins i a=true):(Eg ins a.toNat==11)=false:=by unfold Li at h;simp only[A0g,AsJ] at h;exact h.2.2
theorem ZW{nn:Nat}{ins:List Az}{i:Nat}{x:Az}(h:AI nn ins i x=true):1<=x.op/\x.op<=13:=by
 by_cases a:1<=x.op/\x.op<=13
 .exact a
 .exfalso;have e:∀k:Int,1<=k->k<=13->(x.op==k)=false:=λk b c=>by simp only[beq_eq_false_iff_ne];omega
  unfold AI at h;simp only[e 1 (by omega) (by omega),e 2 (by omega) (by omega),e 3 (by omega) (by omega),e 4 (by omega) (by omega),e 5 (by omega) (by omega),e 6 (by omega) (by omega),e 7 (by omega) (by omega),e 8 (by omega) (by omega),e 9 (by omega) (by omega),e 10 (by omega) (by omega),e 11 (by omega) (by omega),e 12 (by omega) (by omega),e 13 (by omega) (by omega),Bool.or_self,AcJ,if_false] at h
theorem EZ{ins:List Az}{i:Nat}{x:Az}(h:ins[i]?=some x):Eg ins i=x.op:=by unfold Eg;rw[h]
theorem Nk{X:WX}{names:List Aa}{ins:List Az}{i:Nat}{x:Az}{st:Aa×Int}(o:Ky names.length ins)(p:ins[i]?=some x)(g:(x.op==11)=false)(j:(x.op==13)=false)
  (c:((Ck X names ins i x st).1.2==0)=true)(C:(st.2==0)=true):(i:Int)<(Ck X names ins i x st).2/\(Ck X names ins i x st).2<(ins.length:Int)/\(Eg ins (Ck X names ins i x st).2.toNat==11)=false:=by
 have E:i<ins.length:=(Afk.1 p).1;have hp:=o.pr i x p;unfold Ck at c⊢;split at c
 .rename_i d;rw[if_pos d];simp only at c⊢;unfold Jg at c⊢;split at c
  .rename_i f;rw[if_pos f];simp only;have z:=RF f;have m:=RB z;generalize hI:B8 (λy=>(J3 X names ins i x).1==y) (Db ins i)=I at *;unfold Db at m;rw[AcG] at m;obtain⟨y,D,q,v⟩:=Qz (l:=ins.drop (i+1)) (k:=I.toNat) (by omega);rw[AxW] at q;have w:aAt ins (i+1+I.toNat)=y.a:=by unfold aAt;rw[q]
   rw[w];have b:=Ou (o.pr _ y q) (.inl v);have:=Kc b;exact⟨by omega,by omega,Wq b⟩
  .rename_i f;simp only at c
   first
    | exact absurd c f
    | (split at c
       .rename_i r;exact absurd r f
       .exact absurd c f)
 .rename_i d;rw[if_neg d];split at c
  .rename_i e;rw[if_pos e];have b:=Ou hp (.inr (by simpa using e));have:=Kc b;exact⟨by simp only;omega,by simp only;omega,Wq b⟩
  .rename_i e;rw[if_neg e];simp only;have B:i≠ins.length-1:=by rintro rfl;have:=o.la;rw[EZ p] at this;rw[this] at j;simp at j
   refine⟨by omega,by omega,?_⟩;have A:(((i:Int)+1).toNat)=i+1:=by omega
   rw[A];cases u:(Eg ins (i+1)==11) with
   | false=>rfl
   | true=>
    exfalso;have s:i+1<ins.length:=by omega
    have t:ins[i+1]?=some ins[i+1]:=Ae8 s;rw[EZ t] at u;have b:=o.pr _ _ t;unfold AI at b;rw[show(ins[i+1]).op=11 by simpa using u] at b;simp only[Int.reduceBEq,AcJ,if_false,Bool.or_self,if_true,A0g,Nat.add_sub_cancel,EZ p,AxS] at b;rcases b.2.2.2 with h|h
    .exact d h
    .rw[h] at g;cases g
def xV(v:B4):B4:={ v with name:=120::v.name }
theorem cL(vs:List B4)(n:Aa):FA (vs.map xV) (120::n)=(FA vs n).map xV:=by
 induction vs with
 | nil=>rfl
 | cons v r a=>
  rw[Ajf,FA,FA];have h:(((xV v).name==120::n):Bool)=(v.name==n):=by simp[xV]
  rw[h,a];cases(v.name==n)<;>rfl
end Go.Ir

namespace Go.Ir
open Go.Proofs
variable{P:Program}{W0:World}{nt n:Nat}{Q:Exit→St→Prop}{env:A9}{σ:Aj}
def XF:IC:=cD 15 (oR [mC 8 (.s []),mZ 9 18] [8,9]) (oS [m1 22 1,lA 23 7 5,q2 24 154 22 23,nT 25 24,m1 21 25] [1,2,4,7,21] (cD 21 (oR [mC 8 (.s []),mZ 9 11] [8,9]) .skip))
def VA:IC:=sQ (oS [m1 31 10,bZ 32 .lss 31 0] [2,10,32] (cD 32 (oR [mC 8 (.s []),mZ 9 13] [8,9]) .skip)) (oR [m1 33 2,m1 34 10,iA 35 33 34 9 1,l1 36 35,m1 8 36,mZ 9 0] [8,9])
def iC:IC:=sQ (.block 0 (oS [m1 12 1,q1 13 79 12,nT 14 13,m1 11 14] [1,2,4,7,11] (cD 11 (oR [mC 8 (.s []),mZ 9 1] [8,9]) (oS [lA 16 4 16,m1 17 1,q2 18 153 16 17,q1 19 152 18,nT 20 19,m1 15 20] [1,2,4,7,15] XF)))) (oS [lA 26 4 16,m1 27 1,m1 28 2,lA 29 7 5,o1 30 (.call 155 [.t 26,.t 27,.t 28,.t 29]),m1 10 30] [2,10] VA)
def qX:IC:=oS [bX 4 0,bX 7 3,mC 8 (.s []),mZ 9 0] [1,2,4,7] iC
@[push_cast]def Ar7:List R:=[.t 8,.t 9]
@[push_cast]def Axj:=Aq XF.eq_1<|Aq VA.eq_1<|Aq iC.eq_1<|AM qX.eq_1
theorem AkG:Au π 126 37 qX Ar7=true:=by kernel_rfl
def tG:IC:=oR [o1 3 (.build [.i .i64 0,.i .i64 0,.i .i64 0,.i .i64 0,.i .i64 0,.i .i64 0,.i .i64 0,.i .i64 0,.i .i64 0,.i .i64 0] [(5,1,ci 2),(6,1,ci 3),(7,1,ci 4),(8,1,ci 5),(9,1,ci 6)]),m1 4 0,o1 5 (.pu (.aget 10 1 false) [.t 3,.t 4]),m1 2 5] [2]
def dP:IC:=oS [mZ 2 0] [0] tG
@[push_cast]def ArU:List R:=[.t 2]
@[push_cast]def Aw3:=Aq tG.eq_1<|AM dP.eq_1
theorem AhM:Au π 127 6 dP ArU=true:=by kernel_rfl
def Aey:IC:=oS [m1 9 0,nC 10 9,fA 11 10 20,o1 12 (.calls 125 [.t 11]),bZ 13 .gtr 12 20000] [0,13] (cD 13 (oP [m1 14 0,nC 15 14,fA 16 15 23,o0 (.store (.t 16) (ci 6) 1)] []) .skip)
def AeA:IC:=sQ (.opx [m1 4 0,nC 5 4,fA 6 5 20,m1 7 1] [0,6,7] 8 124 [.t 6,.t 7] [] [0]) Aey
@[push_cast]def Aus:List R:=[]
@[push_cast]def Ayl:=Aq Aey.eq_1<|AM AeA.eq_1
theorem Apv:Au π 86 17 AeA Aus=true:=by kernel_rfl
def gU:IC:=oS [m1 56 0,nC 57 56,fA 58 57 19,l1 59 58,m1 55 59] [0,6,55] (cD 55 (.opx [m1 60 0,m1 61 6,q1 62 128 61] [60,62] 63 86 [.t 60,.t 62] [] []) (.opx [m1 45 0,m1 46 6] [45,46] 47 86 [.t 45,.t 46] [] []))
def vD:IC:=sQ (.ops [m1 31 0,nC 32 31,fA 33 32 2,lA 34 33 16,fA 35 3 0,l1 36 35,q1 37 127 36,fA 38 3 3,l1 39 38,o1 40 (.build [.i .i64 0,.s [],.s [],.s [],.nil,.nil] [(0,1,.t 37),(3,1,.t 39)]),lA 41 4 5,q3 42 108 34 40 41,m1 30 42,xT 43 30 0,xT 44 30 1,m1 6 43,m1 7 44] [0,6,7] [[0,1],[1,2],[2,3],[4,5],[5,6],[7,8],[6,9],[8,9],[3,11],[9,11],[10,11],[11,12],[12,13],[12,14],[13,15],[14,16]]) (.block 0 (oS [m1 49 7,bZ 50 .neq 49 0,m1 48 50] [0,6,7,48] (cD 48 (oP [m1 51 0,m1 52 7,nC 53 51,fA 54 53 23,sT 54 52 1] []) gU)))
def AfR:IC:=sQ (.ops [m1 9 0,nC 10 9,fA 11 10 18,l1 12 11,m1 13 0,nC 14 13,fA 15 14 0,fA 16 15 0,l1 17 16,fA 18 3 1,l1 19 18,iA 20 17 19 9 1,l1 21 20,q2 22 39 12 21,m1 8 22,xT 23 8 0,xT 24 8 1,o1 4 (.alloc (.agg [.s [],.i .i64 0,.s [],.i .i64 0,.nil])),sT 4 23 5,m1 5 24] [0,3,4,5] [[0,1],[1,2],[2,3],[4,5],[5,6],[6,7],[7,8],[9,10],[8,11],[10,11],[11,12],[3,13],[12,13],[13,14],[14,15],[14,16],[3,18],[8,18],[10,18],[11,18],[12,18],[15,18],[17,18],[16,19]]) (sQ (oS [m1 25 5,nT 26 25] [0,3,4,26] (cD 26 (oR [m1 27 0,nC 28 27,fA 29 28 23,o0 (.store (.t 29) (ci 12) 1)] []) .skip)) vD)
def Afa:IC:=oS [bX 3 1] [0,3] AfR
@[push_cast]def Au1:List R:=[]
@[push_cast]def Ayp:=Aq gU.eq_1<|Aq vD.eq_1<|Aq AfR.eq_1<|AM Afa.eq_1
theorem Ata:Au π 88 64 Afa Au1=true:=by kernel_rfl
def cN:IC:=sQ (.block 1 (oP [m1 34 6,m1 35 0,nC 36 35,fA 37 36 0,fA 38 37 1,l1 39 38,m1 40 7,iA 41 39 40 54 4,fA 42 41 3,l1 43 42,o1 44 (.msl false 9 1 [.t 43]),o1 45 (.app (.t 34) (.t 44) 9 1),m1 6 45] [0,1,5,6,7])) (oP [m1 32 7,bZ 33 .add 32 1,m1 7 33] [0,1,5,6,7])
def iV:IC:=sQ (oS [m1 22 0,nC 23 22,fA 24 23 0,fA 25 24 1,l1 26 25,m1 27 7,iA 28 26 27 54 4,fA 29 28 0,l1 30 29,bZ 31 .eql 30 11] [0,1,5,6,7,31] (cD 31 .skip (.exit 0))) cN
def vE:IC:=.ops [m1 47 0,nC 48 47,fA 49 48 18,l1 50 49,m1 51 0,nC 52 51,fA 53 52 0,fA 54 53 0,l1 55 54,fA 56 5 1,l1 57 56,iA 58 55 57 9 1,l1 59 58,q2 60 39 50 59,m1 46 60,xT 61 46 0,xT 62 46 1,o1 8 (.alloc (.agg [.s [],.i .i64 0,.s [],.i .i64 0,.nil])),sT 8 61 5,m1 9 62] [0,1,5,6,8,9] [[0,1],[1,2],[2,3],[4,5],[5,6],[6,7],[7,8],[9,10],[8,11],[10,11],[11,12],[3,13],[12,13],[13,14],[14,15],[14,16],[3,18],[8,18],[10,18],[11,18],[12,18],[15,18],[17,18],[16,19]]
def oX:IC:=sQ (.ops [m1 88 0,nC 89 88,fA 90 89 0,fA 91 90 1,l1 92 91,m1 93 1,bZ 94 .add 93 1,m1 95 6,m1 96 10,q2 97 120 95 96,bT 98 .add 94 97,iA 99 92 98 54 4,fA 100 99 1,l1 101 100,m1 4 101] [4] [[0,1],[1,2],[2,3],[3,4],[5,6],[7,9],[8,9],[6,10],[9,10],[4,11],[10,11],[11,12],[12,13],[13,14]]) .ret
def m4:IC:=sQ (oS [m1 81 11,bZ 82 .neq 81 0] [0,1,6,10,11,82] (cD 82 (oS [m1 83 0,m1 84 11,nC 85 83,fA 86 85 23,sT 86 84 1] [1] (oR [m1 87 1,m1 4 87] [4])) .skip)) oX
def kT:IC:=sQ (oS [m1 75 9,nT 76 75,m1 77 76,B3 78 77 11,CH 79 77 .neq 78 18,pA 80 77 79] [0,1,6,10,11,80] (cD 80 (oP [mZ 11 12] [0,1,6,10,11]) .skip)) m4
def mX:IC:=sQ (.ops [m1 64 0,nC 65 64,fA 66 65 2,lA 67 66 16,fA 68 5 2,l1 69 68,m1 70 6,lA 71 8 5,o1 72 (.call 126 [.t 67,.t 69,.t 70,.t 71]),m1 63 72,xT 73 63 0,xT 74 63 1,m1 10 73,m1 11 74] [0,1,6,9,10,11] [[0,1],[1,2],[2,3],[4,5],[3,8],[5,8],[6,8],[7,8],[8,9],[9,10],[9,11],[10,12],[11,13]]) kT
def Aek:IC:=oS [m1 12 0,nC 13 12,fA 14 13 0,fA 15 14 1,l1 16 15,m1 17 1,iA 18 16 17 54 4,lA 19 18 4,o1 5 (.alloc (.agg [.i .i64 0,.i .i64 0,.i .i64 0,.s []])),sT 5 19 4] [0,1,5] (oS [mC 6 .nil] [0,1,5,6] (sQ (oS [m1 20 1,bZ 21 .add 20 1,m1 7 21] [0,1,5,6,7] (.block 0 (.loop iV))) (sQ (.wk vE) mX)))
def Adz:IC:=oS [mZ 4 0] [0,1] Aek
@[push_cast]def Awe:List R:=[.t 4]
@[push_cast]def Azn:=Aq cN.eq_1<|Aq iV.eq_1<|Aq vE.eq_1<|Aq oX.eq_1<|Aq m4.eq_1<|Aq kT.eq_1<|Aq mX.eq_1<|Aq Aek.eq_1<|AM Adz.eq_1
theorem Ann:Au π 87 102 Adz Awe=true:=by kernel_rfl
def tK:IC:=.opx [m1 53 0,fA 54 5 3,l1 55 54,o1 56 (.bin .add (.c (.s [60])) (.t 55)),bC 57 .add 56 (.s [62,60,47]),fA 58 5 3,l1 59 58,bT 60 .add 57 59,bC 61 .add 60 (.s [62])] [1,53,61] 62 86 [.t 53,.t 61] [] [1]
def eU:IC:=cD 63 (oR [m1 65 0,m1 66 1,o1 67 (.calls 87 [.t 65,.t 66]),m1 4 67] [4]) (oS [bZ 69 .eql 25 12,m1 68 69] [0,1,5,68] (cD 68 (oR [fA 70 5 1,l1 71 70,m1 4 71] [4]) (.opx [m1 26 0,lA 27 5 4] [1,26,27] 28 88 [.t 26,.t 27] [] [1])))
def sF:IC:=cD 43 (.opx [m1 45 0,fA 46 5 3,l1 47 46,o1 48 (.bin .add (.c (.s [60,47])) (.t 47)),bC 49 .add 48 (.s [62])] [1,45,49] 50 86 [.t 45,.t 49] [] [1]) (oS [bZ 52 .eql 25 4,m1 51 52] [0,1,5,25,51] (cD 51 tK (oS [bZ 64 .eql 25 10,m1 63 64] [0,1,5,25,63] eU)))
def gA:IC:=cD 35 (.opx [m1 37 0,fA 38 5 3,l1 39 38,o1 40 (.bin .add (.c (.s [60])) (.t 39)),bC 41 .add 40 (.s [62])] [1,37,41] 42 86 [.t 37,.t 41] [] [1]) (oS [bZ 44 .eql 25 3,m1 43 44] [0,1,5,25,43] sF)
def Ad6:IC:=oS [fA 24 5 0,l1 25 24] [0,1,5,25] (.block 0 (oS [bZ 30 .eql 25 1,m1 29 30] [0,1,5,25,29] (cD 29 (.opx [m1 31 0,fA 32 5 3,l1 33 32] [1,31,33] 34 86 [.t 31,.t 33] [] [1]) (oS [bZ 36 .eql 25 2,m1 35 36] [0,1,5,25,35] gA))))
def Agl:IC:=sQ (oS [m1 16 0,nC 17 16,fA 18 17 0,fA 19 18 1,l1 20 19,m1 21 1,iA 22 20 21 54 4,lA 23 22 4,o1 5 (.alloc (.agg [.i .i64 0,.i .i64 0,.i .i64 0,.s []])),sT 5 23 4] [0,1,5] Ad6) (oR [m1 72 1,bZ 73 .add 72 1,m1 4 73] [4])
def AfU:IC:=oS [m1 6 0,m1 7 0,nC 8 7,fA 9 8 22,l1 10 9,m1 11 1,o1 12 (.msl false 3 1 [.t 11]),o1 13 (.app (.t 10) (.t 12) 3 1),nC 14 6,fA 15 14 22,sT 15 13 1] [0,1] Agl
def Agg:IC:=oS [mZ 4 0] [0,1] AfU
@[push_cast]def Auk:List R:=[.t 4]
@[push_cast]def AyW:=Aq tK.eq_1<|Aq eU.eq_1<|Aq sF.eq_1<|Aq gA.eq_1<|Aq Ad6.eq_1<|Aq Agl.eq_1<|Aq AfU.eq_1<|AM Agg.eq_1
theorem Anq:Au π 55 74 Agg Auk=true:=by kernel_rfl
def tB:IC:=sQ (oS [m1 26 11,nC 27 26,fA 28 27 23,l1 29 28,bZ 30 .eql 29 0,m1 31 30,Dr 32 31 4 1,Dp 33 31 32,B3 34 31 12,gT 35 31 (.iaddr (.t 33) (.t 34) 54 4),Dr 36 31 35 0,Dp 37 31 36,CH 38 31 .neq 37 13,pA 39 31 38] [4,11,12,39] (cD 39 .skip (.exit 0))) (.block 1 (.opx [m1 40 11,m1 41 12] [4,11,40,41] 42 55 [.t 40,.t 41] [m1 12 42] [4,11,12]))
def eD:IC:=oP [m1 48 11,m1 49 11,nC 50 49,fA 51 50 22,l1 52 51,m1 53 12,o1 54 (.msl false 3 1 [.t 53]),o1 55 (.app (.t 52) (.t 54) 3 1),nC 56 48,fA 57 56 22,sT 57 55 1] [11]
def mQ:IC:=oS [lA 20 4 2,lA 21 5 16,m1 22 2,m1 23 3,o1 24 (.build [.nil,.nil,.s [],.s [],.s [],.nil,.nil,.s [],.s [],.s [],.s [],.i .i64 0,.i .i64 0,.nil,.nil,.nil,.nil,.nil,.nil,.b false,.np,.nil,.nil,.i .i64 0] [(0,2,.t 20),(2,16,.t 21),(18,1,.t 22),(19,1,.t 23)]),o1 25 (.mkm (.tbx 100) [.t 24]),m1 11 25] [4,11] (sQ (.wk (oP [mZ 12 0] [4,11,12])) (sQ (.block 0 (.loop tB)) (sQ (oS [m1 43 11,nC 44 43,fA 45 44 23,l1 46 45,bZ 47 .eql 46 0] [11,12,47] (cD 47 eD .skip)) (oR [m1 58 11,m1 8 58] [8]))))
def Af2:IC:=sQ (oS [lA 14 4 2,q1 15 17 14,m1 13 15,xT 16 13 0,xT 17 13 1,m1 9 16,m1 10 17] [2,3,4,5,10] (oS [m1 18 10,bZ 19 .neq 18 0] [2,3,4,5,19] (cD 19 (oR [mC 8 .np] [8]) .skip))) mQ
def Aeq:IC:=oS [bX 4 0,bX 5 1,mC 8 .np] [2,3,4,5] Af2
@[push_cast]def Avc:List R:=[.t 8]
@[push_cast]def Ay6:=Aq tB.eq_1<|Aq eD.eq_1<|Aq mQ.eq_1<|Aq Af2.eq_1<|AM Aeq.eq_1
theorem AoO:Au π 33 59 Aeq Avc=true:=by kernel_rfl
def n9:IC:=oS [m1 20 10,nC 21 20,fA 22 21 23,l1 23 22,bZ 24 .neq 23 0,m1 19 24] [10,19] (cD 19 (sQ (.ops [m1 25 10,nC 26 25,fA 27 26 23,l1 28 27,mC 8 (.s []),m1 9 28] [8,9] [[0,1],[1,2],[2,3],[3,5]]) .ret) .skip)
def AdM:IC:=sQ (.block 0 (oS [m1 17 10,o1 18 (.pu (.nilq .p false) [.t 17]),m1 16 18] [10,16] (cD 16 (oR [mC 8 (.s []),mZ 9 1] [8,9]) n9))) (oR [m1 29 10,nC 30 29,fA 31 30 20,o1 32 (.calls 45 [.t 31]),m1 8 32,mZ 9 0] [8,9])
def Afz:IC:=oS [bX 4 0,bX 5 1,mC 8 (.s []),mZ 9 0] [2,3,4,5] (sQ (.opx [lA 11 4 2,lA 12 5 16,m1 13 2,m1 14 3] [11,12,13,14] 15 33 [.t 11,.t 12,.t 13,.t 14] [m1 10 15] [10]) AdM)
@[push_cast]def AvX:List R:=[.t 8,.t 9]
@[push_cast]def AyX:=Aq n9.eq_1<|Aq AdM.eq_1<|AM Afz.eq_1
theorem App:Au π 29 33 Afz AvX=true:=by kernel_rfl
def Aez:IC:=sQ (oS [m1 16 10,o1 17 (.pu (.nilq .p false) [.t 16])] [10,17] (cD 17 (oR [mC 8 .nil,mZ 9 1] [8,9]) .skip)) (oR [m1 18 10,nC 19 18,fA 20 19 22,l1 21 20,m1 8 21,mZ 9 0] [8,9])
def Aga:IC:=oS [bX 4 0,bX 5 1,mC 8 .nil,mZ 9 0] [2,3,4,5] (sQ (.opx [lA 11 4 2,lA 12 5 16,m1 13 2,m1 14 3] [11,12,13,14] 15 33 [.t 11,.t 12,.t 13,.t 14] [m1 10 15] [10]) Aez)
@[push_cast]def Awa:List R:=[.t 8,.t 9]
@[push_cast]def Azf:=Aq Aez.eq_1<|AM Aga.eq_1
theorem Aq8:Au π 15 22 Aga Awa=true:=by kernel_rfl
def AeK:IC:=oR [fA 3 1 0,lA 4 3 16,o1 5 (.msl false 30 16 [.t 4]),o1 6 (.build [.nil,.nil,.nil] [(0,1,.t 5)]),q1 7 32 6,m1 8 7,Dr 9 8 1 16,Dp 10 8 9,gT 11 8 (.call 18 [.t 10]),pA 12 8 11,m1 2 12] [2]
def Afc:IC:=oS [bX 1 0,mC 2 (.b false)] [1] AeK
@[push_cast]def AvO:List R:=[.t 2]
@[push_cast]def Azg:=Aq AeK.eq_1<|AM Afc.eq_1
theorem As2:Au π 13 13 Afc AvO=true:=by kernel_rfl
def Afb:IC:=oR [lA 6 3 2,fA 7 2 0,lA 8 7 16,fA 9 2 16,l1 10 9,fA 11 2 17,l1 12 11,o1 13 (.call 29 [.t 6,.t 8,.t 10,.t 12]),xT 14 13 0,xT 15 13 1,m1 4 14,m1 5 15] [4,5]
def Age:IC:=oS [bX 2 0,bX 3 1,mC 4 (.s []),mZ 5 0] [2,3] Afb
@[push_cast]def AuD:List R:=[.t 4,.t 5]
@[push_cast]def AyC:=Aq Afb.eq_1<|AM Age.eq_1
theorem AnO:Au π 16 16 Age AuD=true:=by kernel_rfl
def AfG:IC:=.ops [fA 53 8 0,l1 54 53,fA 55 5 0,l1 56 55,m1 57 9,iA 58 56 57 9 1,l1 59 58,o1 60 (.bin .add (.c (.s [120])) (.t 59)),o1 61 (.msl false 9 1 [.t 60]),o1 62 (.app (.t 54) (.t 61) 9 1),fA 63 8 0,sT 63 62 1] [3,5,8,9] [[0,1],[2,3],[3,5],[4,5],[5,6],[6,7],[7,8],[1,9],[3,5,6,7,8,9],[5,6,7,8,9],[6,7,8,9],[8,9],[1,11],[3,11],[5,11],[6,11],[9,11],[10,11]]
def AdY:IC:=sQ (.block 1 (sQ (oS [fA 46 5 0,l1 47 46,m1 48 9,iA 49 47 48 9 1,l1 50 49,nS 51 50,bZ 52 .geq 51 40] [3,5,8,9,52] (cD 52 (oR [mC 4 (.b true)] [4]) .skip)) AfG)) (oP [m1 44 9,bZ 45 .add 44 1,m1 9 45] [3,5,8,9])
def Af0:IC:=oP [fA 64 3 0,lA 65 64 16,fA 66 3 17,l1 67 66,o1 68 (.build [.s [],.s [],.s [],.nil,.nil,.s [],.s [],.s [],.s [],.i .i64 0,.i .i64 0,.nil,.nil,.nil,.nil,.nil,.nil,.b false] [(0,16,.t 65),(17,1,.t 67)]),o1 10 (.alloc (.agg [.s [],.s [],.s [],.nil,.nil,.s [],.s [],.s [],.s [],.i .i64 0,.i .i64 0,.nil,.nil,.nil,.nil,.nil,.nil,.b false])),sT 10 68 18] [3,5,8,10]
def AeM:IC:=oS [fA 81 12 0,l1 82 81,o1 83 (.bin .add (.c (.s [120])) (.t 82)),fA 84 12 0,sT 84 83 1] [3,5,8,10,11,12] (oP [fA 85 10 16,l1 86 85,lA 87 12 5,o1 88 (.msl false 62 5 [.t 87]),o1 89 (.app (.t 86) (.t 88) 62 5),fA 90 10 16,sT 90 89 1] [3,5,8,10,11])
def Ad7:IC:=sQ (.block 3 (oS [fA 76 3 16,l1 77 76,m1 78 11,iA 79 77 78 62 5,lA 80 79 5,o1 12 (.alloc (.agg [.s [],.i .i64 0,.s [],.i .i64 0,.nil])),sT 12 80 5] [3,5,8,10,11,12] AeM)) (oP [m1 74 11,bZ 75 .add 74 1,m1 11 75] [3,5,8,10,11])
def AdO:IC:=oR [m1 103 13,m1 104 15,bT 105 .eql 103 104,m1 106 105,B3 107 106 14,B3 108 106 16,gT 109 106 (.bin .eql (.t 107) (.t 108)),pA 110 106 109,m1 4 110] [4]
def Agb:IC:=sQ (.wk Af0) (sQ (sQ (.wk (oP [mZ 11 0] [3,5,8,10,11])) (.block 2 (.loop (sQ (oS [m1 69 11,fA 70 3 16,l1 71 70,nL 72 71,bT 73 .lss 69 72] [3,5,8,10,11,73] (cD 73 .skip (.exit 2))) Ad7)))) (sQ (.wk (oP [lA 92 3 18,lA 93 5 2,q2 94 16 92 93,m1 91 94,xT 95 91 0,xT 96 91 1,m1 13 95,m1 14 96] [8,10,13,14])) (oS [lA 98 10 18,lA 99 8 2,q2 100 16 98 99,m1 97 100,xT 101 97 0,xT 102 97 1,m1 15 101,m1 16 102] [13,14,15,16] AdO)))
def AfO:IC:=oS [fA 36 5 1,l1 37 36,o1 38 (.build [.nil,.nil] [(1,1,.t 37)]),o1 8 (.alloc (.agg [.nil,.nil])),sT 8 38 2] [3,5,8] (sQ (sQ (.wk (oP [mZ 9 0] [3,5,8,9])) (.block 0 (.loop (sQ (oS [m1 39 9,fA 40 5 0,l1 41 40,nL 42 41,bT 43 .lss 39 42] [3,5,8,9,43] (cD 43 .skip (.exit 0))) AdY)))) Agb)
def AdX:IC:=sQ (oS [lA 30 5 2,q1 31 17 30,m1 29 31,xT 32 29 0,xT 33 29 1,m1 6 32,m1 7 33] [3,5,7] (oS [m1 34 7,bZ 35 .neq 34 0] [3,5,35] (cD 35 (oR [mC 4 (.b true)] [4]) .skip))) AfO
def Aqn:IC:=sQ (oS [lA 19 2 2,q1 20 12 19,nT 21 20,m1 22 21,gF 23 22 (.load (.t 3) 18 true),gF 24 22 (.call 13 [.t 23]),gF 25 22 (.not (.t 24)),pO 26 22 25] [2,3,26] (cD 26 (oR [mC 4 (.b true)] [4]) .skip)) (oS [lA 27 2 2,q1 28 14 27,o1 5 (.alloc (.agg [.nil,.nil])),sT 5 28 2] [3,5] AdX)
def Apn:IC:=oS [bX 2 0,bX 3 1,mC 4 (.b false)] [2,3] (sQ (oS [o1 17 (.call 11 []),nT 18 17] [2,3,18] (cD 18 (oR [mC 4 (.b false)] [4]) .skip)) Aqn)
@[push_cast]def f6R:List R:=[.t 4]
@[push_cast]def f6e:=Aq AfG.eq_1<|Aq AdY.eq_1<|Aq Af0.eq_1<|Aq AeM.eq_1<|Aq Ad7.eq_1<|Aq AdO.eq_1<|Aq Agb.eq_1<|Aq AfO.eq_1<|Aq AdX.eq_1<|Aq Aqn.eq_1<|AM Apn.eq_1
theorem zE:Au π 6 111 Apn f6R=true:=by kernel_rfl
end Go.Ir

namespace Go.Ir
open Go.Proofs
variable(W0:World)
set_option maxHeartbeats 4000000 in
theorem Xi(L:BV)(k:Int)(c:List Aa)(v:B4)(D:v.text.length<=2^29)(y:A7 L.card+A7 L.ord<=2^24)(C:c.length<=2^30) :
  Al π W0 126 [L.enc,.i .i64 k,.sl (c.map V.s),v.enc] [] (.tup [.s (My L k c v).1,.i .i64 (My L k c v).2]) []:=by
 have r:=TO W0 k;have o:=Nx W0 L k;have u:A7 (HA L k)<=2^30:=by
  unfold HA;split
  .omega
  .split
   .omega
   .simp[A7]
 have t:Al π W0 152 [P5 L k] [] (.b (CR [] (HA L k))) []:=by
  refine CX (Jl W0 (HA L k) u) rfl λj a F p l=>?_
  match j with
  | 0=>simp at p l;subst p l;exact Wz L k
  | j+1=>simp at p
 have e:=Air W0 k v (by omega);have d:=ZJ W0 L k c v D y C;have z:=NV c (FSz L k v);generalize hS:My L k c v=S;unfold My at hS;generalize CR [] (HA L k)=R at *;generalize P5 L k=E at *;generalize Dm k=w at *;generalize Mw k v=x at *;generalize DA c (FSz L k v)=h at *;rw[BV.enc_eq] at o d⊢;rw[B4.enc_eq] at e d⊢;refine Ae (vs:=[.s S.1,.i .i64 S.2]) AkG (by simp) (by simp) λn0 q=>?_;clear q;by_cases g:(w&&R&&x)=true
 .simp only[A0g] at g;obtain⟨⟨rfl,rfl⟩,rfl⟩:=g;simp only[bq] at hS;cases m:decide (h<0) with
  | true=>
   have f:h<0:=of_decide_eq_true m;rw[if_pos f] at hS;subst hS;simp only[push_cast,reduceEqDiff]
   repeat' (first|(first|refine Ac (by exact r) ?_|refine Ac (by exact o) ?_|refine Ac (by exact t) ?_|refine Ac (by exact e) ?_|refine Ac (by exact d) ?_)|intro _)<;>(try simp only[push_cast,reduceEqDiff,m])
   refine Ad ?_;simp[push_cast]
  | false=>
   have f:¬h<0:=of_decide_eq_false m;rw[if_neg f] at hS;subst hS;obtain⟨j,rfl⟩:∃j:Nat,h=j:=⟨h.toNat,by omega⟩
   have B:j<c.length:=by omega
   have A:(c.map V.s)[j]?=some (.s (c.getD j [])):=by rw[AgQ,Atj,Ae8 B];rfl
   simp only[push_cast,reduceEqDiff]
   repeat' (first|(first|refine Ac (by exact r) ?_|refine Ac (by exact o) ?_|refine Ac (by exact t) ?_|refine Ac (by exact e) ?_|refine Ac (by exact d) ?_)|intro _)<;>(try simp only[push_cast,reduceEqDiff,m,A])
   refine Ad ?_;simp[push_cast]
 .cases w<;>cases R<;>cases x
  all_goals (first|(exact absurd rfl g)|skip)
  all_goals (simp only[bq] at hS;subst hS;simp only[push_cast,reduceEqDiff])
  all_goals (repeat' (first|(first|refine Ac (by exact r) ?_|refine Ac (by exact o) ?_|refine Ac (by exact t) ?_|refine Ac (by exact e) ?_)|intro _)<;>(try simp only[push_cast,reduceEqDiff]))
  all_goals (refine Ad ?_;simp[push_cast])
structure MX where
 X:WX
 names:List Aa
 ins:List Az
def TQ:Nat:=100
def mA(u:Bool)(rid:Id):V:=if u then .ref rid 20 else .np
def rC(M:MX)(a:V)(b t:Id)(e:Int):V:=.agg [.sl (M.names.map V.s),.sl (M.ins.map Az.enc),.s M.X.L.tag,.s M.X.L.parent,.s M.X.L.dir,.sl (M.X.L.card.map AB.enc),.sl (M.X.L.ord.map AB.enc),.s M.X.L.dec,.s M.X.L.grp,.s M.X.L.minus,.s M.X.L.perc,.i .i64 M.X.L.prim,.i .i64 M.X.L.sec,.sl (M.X.L.lists.map CA.enc),.sl (M.X.L.units.map Dd.enc),.sl (M.X.L.dates.map CG.enc),.sl (M.X.L.months.map V.s),.sl (M.X.L.days.map V.s),.sl (M.X.vs.map B4.enc),.b M.X.iso,a,.arr b,.arr t,.i .i64 e]
@[push_cast] theorem Afq(M:MX)(a:V)(b t:Id)(e:Int):rC M a b t e=.agg [.sl (M.names.map V.s),.sl (M.ins.map Az.enc),.s M.X.L.tag,.s M.X.L.parent,.s M.X.L.dir,.sl (M.X.L.card.map AB.enc),.sl (M.X.L.ord.map AB.enc),.s M.X.L.dec,.s M.X.L.grp,.s M.X.L.minus,.s M.X.L.perc,.i .i64 M.X.L.prim,.i .i64 M.X.L.sec,.sl (M.X.L.lists.map CA.enc),.sl (M.X.L.units.map Dd.enc),.sl (M.X.L.dates.map CG.enc),.sl (M.X.L.months.map V.s),.sl (M.X.L.days.map V.s),.sl (M.X.vs.map B4.enc),.b M.X.iso,a,.arr b,.arr t,.i .i64 e]:=rfl
def BT(rid:Id)(M:MX)(u:Bool)(b t:Id)(st:Aa×Int):Aj:=[(rid,.tbox TQ (rC M (mA u rid) b t st.2)),(b,.arr 5 1 (Ay st.1))]
def MRW(rid:Id)(M:MX)(b t:Id)(st:Aa×Int)(n n':Nat)(v:V)(σ':Aj):Prop:=v=.tup []/\∃(c:Bool) (a:Id),(n<=a.1/\a.1<n'\/a=b)/\σ'=BT rid M c a t st
theorem CD{rid b t:Id}{M:MX}{u:Bool}{st:Aa×Int}:lk (BT rid M u b t st) rid=some (.tbox TQ (rC M (mA u rid) b t st.2)):=by simp[BT,lk]
theorem tO{rid b t x:Id}{M:MX}{u:Bool}{st:Aa×Int}{e:A5}{τ:Aj}(a:rid≠x)(c:b≠x):lk (BT rid M u b t st++(x,e)::τ) x=some e:=by simp[BT,lk,a,c]
theorem SV{rid b t x:Id}{M:MX}{u:Bool}{st:Aa×Int}(a:rid≠x)(c:b≠x):lk (BT rid M u b t st) x=none:=by simp[BT,lk,a,c]
theorem Eb{rid b t x y:Id}{M:MX}{u:Bool}{st:Aa×Int}{a c:A5}{σo:Aj}(e:rid≠x)(f:b≠x)(g:rid≠y)(h:b≠y):over (BT rid M u b t st) σo ((y,a)::(x,c)::BT rid M u b t st)=σo++[(y,a),(x,c)]:=
 EO (pre:=[(y,a),(x,c)]) (λp hp q d=>by
  simp[BT] at hp d;rcases hp with rfl|rfl<;>rcases d with rfl|rfl
  .exact Ae2 g
  .exact Ae2 h
  .exact Ae2 e
  .exact Ae2 f)
theorem Ct{rid b t x y:Id}{M:MX}{u:Bool}{st:Aa×Int}{a c:A5}(f:rid≠x)(g:b≠x)(h:rid≠y)(j:b≠y):∀i e,lk (BT rid M u b t st) i=some e->lk ((y,a)::(x,c)::BT rid M u b t st) i=some e:=
 AcU (pre:=[(y,a),(x,c)]) λq d=>by
  simp at d;rcases d with rfl|rfl
  .exact SV h j
  .exact SV f g
theorem YP(rid b t:Id)(M:MX)(u:Bool)(l s:Aa)(e:Int)(a:b≠rid)(h:l.length+s.length<=2^30) :
  Ew π W0 124 [.ref rid 20,.s s] (BT rid M u b t (l,e)) (λn n' v σ'=>v=.tup [.i .i64 s.length,.ni]/\∃c:Id,(n<=c.1/\c.1<n')/\σ'=BT rid M true c t (l++s,e)):=by
 generalize B:(fun(n n':Nat) (v:V) (σ':Aj)=>v=V.tup [.i .i64 s.length,.ni]/\∃c:Id,(n<=c.1/\c.1<n')/\σ'=BT rid M true c t (l++s,e))=R;refine BK yK (by simp) λn0 g=>?_;have E:rid.1<n0:=g rid _ (by simp[BT,lk];rfl);have D:b.1<n0:=g b _ (by simp[BT,lk,Ae2 a];rfl);clear g;have d:Al π W0 180 [.ref rid 20] [(rid,.tbox TQ (rC M (mA u rid) b t e))] (.tup []) [(rid,.tbox TQ (rC M (mA true rid) b t e))]:=by
  cases u with
  | true=>exact Jr (by kernel_rfl) rfl λb w o=>Oh b 20 w o
  | false=>exact HG (by kernel_rfl) rfl (by simp[rC,mA,CZ,cells]) λb w o r q m=>LI TQ 24 20 (by kernel_rfl) b w o r q m
 simp only[Afq] at d;have y:(rid=b)=False:=eq_false (Ae2 a);have C:(b=rid)=False:=eq_false a;simp only[push_cast,BT];intro k1;refine Bx d (λi e h=>AC (τ:=[(b,A5.arr 5 1 (Ay l))]) h) ?_;rw[I1 (λp hp=>by simp at hp;subst hp;exact a)];clear d;have x:∀k j:Nat,((n0+1+k1+1+k,j)=rid)=False:=λk j=>eq_false λf=>by have:=congrArg Prod.fst f;simp only at this;omega
 have z:∀k j:Nat,((n0+1+k,j)=b)=False:=λk j=>eq_false λf=>(by have:=congrArg Prod.fst f;(try simp only at this);omega)
 have A:∀k j:Nat,(b=(n0+1+k,j))=False:=λk j=>eq_false λf=>of_eq_false (z k j) f.symm;simp only[push_cast,seval,y,Bv];intro k2;refine Ar (by unfold AH;omega) ?_;simp only[push_cast,seval,x];intro k3 F;subst B;rw[ER];exact⟨_,Ak.refl,[.i .i64 s.length,.ni],BT rid M true (n0+1+k1+1+k2,14) t (l++s,e),⟨rfl,rfl,trivial⟩,Lc (Ae2 (λf=>of_eq_false (x _ _) f)),rfl,_,⟨by simp only;omega,by simp only;omega⟩,rfl⟩
theorem AlZ(rid b t:Id)(M:MX)(u:Bool)(l:Aa)(e:Int)(a:b≠rid):Al π W0 125 [.ref rid 20] (BT rid M u b t (l,e)) (.i .i64 l.length) (BT rid M u b t (l,e)):=by refine Ae (vs:=[.i .i64 l.length]) Aiy (by simp) (λ_ h=>h) λn0 c=>?_;clear c;have d:(rid=b)=False:=eq_false (Ae2 a);have f:(b=rid)=False:=eq_false a;simp only[push_cast,reduceEqDiff,d,BT,Bv];intros;exact Bn (by simp[get]) (λ_ _ h=>h)
theorem FR(rid b t:Id)(M:MX)(u:Bool)(l s:Aa)(f:b≠rid)(h:l.length+s.length<=2^30) :
  Ew π W0 86 [.ref rid 0,.s s] (BT rid M u b t (l,0)) (MRW rid M b t (IQ (l,0) (.pc s))):=by
 generalize g:MRW rid M b t (IQ (l,0) (.pc s))=R;refine BK Apv (by simp) λn0 d=>?_;have r:rid.1<n0:=d rid _ (by simp[BT,lk];rfl);have q:b.1<n0:=d b _ (by simp[BT,lk,Ae2 f];rfl);clear d;simp only[push_cast,seval,reduceEqDiff,CD];intro k1;refine Bd (YP W0 rid b t M u l s 0 f (by omega)) (λ_ _ h=>h) (λw v σo p g=>?_);obtain⟨rfl,e,⟨i,m⟩,rfl⟩:=g;rw[TI];simp only[push_cast,seval,reduceEqDiff,CD];intro k2;have a:e≠rid:=λo=>by rw[o] at i;omega
 refine Bx (AlZ W0 rid e t M true (l++s) 0 a) (λ_ _ h=>h) ?_;rw[C5];cases c:decide (((l++s).length:Int)>20000) with
 | false=>simp only[push_cast,seval,reduceEqDiff,c];intro k3;subst g;refine⟨_,Ak.refl,[],_,trivial,λ_ _ h=>h,rfl,true,e,.inl ⟨by omega,by simp only;omega⟩,?_⟩;unfold IQ;simp only;rw[if_neg (of_decide_eq_false c)]
 | true=>have j:(rid=e)=False:=eq_false (Ae2 a);have k:(e=rid)=False:=eq_false a;simp only[push_cast,seval,reduceEqDiff,c,CD,BT,j,k];intros;subst g;refine⟨_,Ak.refl,[],_,trivial,λ_ _ h=>h,rfl,true,e,.inl ⟨by omega,by simp only;omega⟩,?_⟩;unfold IQ;simp only;rw[if_pos (of_decide_eq_true c)];rfl
theorem Aa1(k:Int)(h:5<=k/\k<=9):Al π W0 127 [.i .i64 k] [] (.i .i64 (k-3)) []:=by
 have b:k=5\/k=6\/k=7\/k=8\/k=9:=by omega
 refine Ae (vs:=[.i .i64 (k-3)]) AhM (by simp) (by simp) λn0 a=>?_;clear a;have c:F2 (.aget 10 1 false) [.agg [.i .i64 0,.i .i64 0,.i .i64 0,.i .i64 0,.i .i64 0,.i .i64 2,.i .i64 3,.i .i64 4,.i .i64 5,.i .i64 6],.i .i64 k]=some (.i .i64 (k-3)):=by rcases b with rfl|rfl|rfl|rfl|rfl<;>rfl
 simp only[push_cast,seval,c];intros;exact Af (by simp[get])
theorem AbL(h:Bj W0)(l:By W0)(L:BV)(c:Nat)(g:XW L c)(k:Int)(st:Aa)(v:B4)(m:Q7 v)(o:st.length<=2^24) :
  Al π W0 108 [L.enc,.agg [.i .i64 k,.s [],.s [],.s st,.nil,.nil],v.enc] [] (.tup [.s (Ni L k st v).1,.i .i64 (Ni L k st v).2]) []:=by
 refine CX (Um W0 h l L c g ⟨k,[],[],st,[],[]⟩ v m o) rfl λj a p f d=>?_
 match j with
 | 0=>simp at f d;subst f d;exact .refl _
 | 1=>
  simp at f d;subst f d;rw[Aw.enc_eq];refine .agg _ _ rfl λk c q b e=>?_
  match k with
  | 0=>simp at b e;subst b e;exact .refl _
  | 1=>simp at b e;subst b e;exact .refl _
  | 2=>simp at b e;subst b e;exact .refl _
  | 3=>simp at b e;subst b e;exact .refl _
  | 4=>simp at b e;subst b e;exact .nil
  | 5=>simp at b e;subst b e;exact .nil
  | k+6=>simp at b
 | 2=>simp at f d;subst f d;exact .refl _
 | j+3=>simp at f
set_option maxHeartbeats 4000000 in
theorem Ah6(hM:Bj W0)(hT:By W0)(c:Nat)(rid b t:Id)(M:MX)(u:Bool)(l:Aa)(x:Az)(T:XOk M.X c)(B:b≠rid)(h:l.length<=20000)(ho:5<=x.op/\x.op<=9)(ha:0<=x.a/\x.a.toNat<M.names.length)(hs:x.s.length<=2^24) :
  Ew π W0 88 [.ref rid 0,x.enc] (BT rid M u b t (l,0)) (MRW rid M b t (IQ (l,0) (SL M.X M.names x))):=by
 obtain⟨a0,S⟩:=ha;have a2:(0<=x.a)=True:=eq_true a0;have a3:=t7 S;have g:=Q8 W0 M.X.vs (BM M.names x.a) T.n (λv hv=>(T.vals v hv).1.len);have D:=Aa1 W0 x.op ho;generalize J:SL M.X M.names x=E;unfold SL at J;generalize r:MRW rid M b t (IQ (l,0) E)=R;refine BK Ata (by simp) λn0 O=>?_;have hw:rid.1<n0:=O rid _ (by simp[BT,lk];rfl);have hb:b.1<n0:=O b _ (by simp[BT,lk,Ae2 B];rfl);clear O;rw[Az.enc_eq];obtain⟨y,V⟩:∃y:Id,y=(n0,3):=⟨_,rfl⟩;have W:y.1=n0:=by rw[V]
 have m:rid≠y:=λd=>by rw[d] at hw;omega
 have k:b≠y:=λd=>by rw[d] at hb;omega
 have o:=eq_false m;have p:=eq_false (Ae2 m);have F:=eq_false k;have G:=eq_false (Ae2 k);have H:=eq_false B;have I:=eq_false (Ae2 B);cases Y:FA M.X.vs (BM M.names x.a) with
 | none=>
  rw[Y] at J g;simp only at J;subst J;simp only[vT,gV,Ai3,Ayb] at g;simp only[push_cast,seval,reduceEqDiff,<-V,BT,lk,o,p,F,G,H,I,a2,S,a3,AcG];have _h:=trivial;repeat' (first|(first|((first|apply Ab|apply Ag|apply Ah)<;>intro _h)|refine Ac g ?_|refine Ar (by omega) ?_)<;>simp only[push_cast,seval,reduceEqDiff,_h,<-V,BT,lk,o,p,F,G,H,I,a2,S,a3,AcG]|intro _)
  generalize hz:((_,4):Id)=z;have q:n0<z.1:=by rw[<-hz];simp only;omega
  have f:z≠rid:=λd=>by rw[d] at q;omega
  have e:z≠b:=λd=>by rw[d] at q;omega
  have C:z≠y:=λd=>by rw[d,W] at q;omega
  have w:=eq_false f;have z2:=eq_false (Ae2 f);have z3:=eq_false e;have z4:=eq_false (Ae2 e);have z5:=eq_false C;have A:=eq_false (Ae2 C);simp only[push_cast,seval,reduceEqDiff,o,p,F,G,H,I,w,z2,z3,z4,z5,A]
  repeat' (first|(((first|apply Ab|apply Ag|apply Ah)<;>intro _h)<;>simp only[push_cast,seval,reduceEqDiff,_h,o,p,F,G,H,I,w,z2,z3,z4,z5,A])|(refine Ar (by simp only[AgM,A0k,AmS,AG]<;>omega) ?_;simp only[push_cast,seval,reduceEqDiff,o,p,F,G,H,I,w,z2,z3,z4,z5,A])|intro _)
  subst r;exact⟨_,Ak.refl,[],BT rid M u b t (l,12),trivial,Ct (st:=(l,12)) m k (Ae2 f) (Ae2 e),rfl,u,b,.inr rfl,rfl⟩
 | some v=>
  rw[Y] at J g;simp only at J;subst J;obtain⟨ab,ap⟩:=T.vals v (ID Y);have j:=AbL W0 hM hT M.X.L c T.L (x.op-3) x.s v ab hs;have U:=cF W0 hT M.X c T (x.op-3) x.s v (ID Y);rw[BV.enc_eq,B4.enc_eq] at j;simp only[vT,gV,AtG] at g;rw[B4.enc_eq] at g;unfold AeC at r;generalize Ni M.X.L (x.op-3) x.s v=NF at *;obtain⟨nt,ne⟩:=NF;simp only at r j U;have ac:=Ahl W0 nt U;have ar:=pH nt;simp only[push_cast,seval,reduceEqDiff,<-V,CD,o,p,a2,S,a3,AcG];have _h:=trivial;repeat' (first|(first|((first|apply Ab|apply Ag|apply Ah)<;>intro _h)|refine Ac g ?_|refine Ac D ?_|refine Ac j ?_|refine Ar (by omega) ?_)<;>simp only[push_cast,seval,reduceEqDiff,_h,<-V,CD,o,p,a2,S,a3,AcG]|intro _)
  generalize hz:((_,4):Id)=z;have q:n0<z.1:=by rw[<-hz];simp only;omega
  have f:z≠rid:=λd=>by rw[d] at q;omega
  have e:z≠b:=λd=>by rw[d] at q;omega
  have C:z≠y:=λd=>by rw[d,W] at q;omega
  have w:=eq_false f;have z2:=eq_false (Ae2 f);have z3:=eq_false e;have z4:=eq_false (Ae2 e);have z5:=eq_false C;have A:=eq_false (Ae2 C);cases d:(ne==0) with
  | false=>
   rw[d] at r;simp only[AcJ,if_false] at r;simp only[push_cast,seval,reduceEqDiff,bne,d,BT,lk,o,p,F,G,H,I,w,z2,z3,z4,z5,A];have _h:=trivial;repeat' (first|(first|((first|apply Ab|apply Ag|apply Ah)<;>intro _h)|refine Ac g ?_|refine Ac D ?_|refine Ac j ?_|refine Ar (by omega) ?_)<;>simp only[push_cast,seval,reduceEqDiff,_h,bne,d,BT,lk,o,p,F,G,H,I,w,z2,z3,z4,z5,A]|intro _)
   subst r;exact⟨_,Ak.refl,[],BT rid M u b t (l,ne),trivial,Ct (st:=(l,ne)) m k (Ae2 f) (Ae2 e),rfl,u,b,.inr rfl,rfl⟩
  | true=>
   rw[d] at r;simp only[if_true] at r;cases hI:M.X.iso with
   | true=>
    rw[hI] at r;simp only[if_true] at r;generalize NX nt=WT at *;simp only[push_cast,seval,reduceEqDiff,bne,d,hI,CD,o,p,w,z2,z5,A];have _h:=trivial;repeat' (first|(first|((first|apply Ab|apply Ag|apply Ah)<;>intro _h)|refine Ac g ?_|refine Ac D ?_|refine Ac j ?_|refine Ac ac ?_|refine Ar (by omega) ?_)<;>simp only[push_cast,seval,reduceEqDiff,_h,bne,d,hI,CD,o,p,w,z2,z5,A]|intro _)
    refine Bd (FR W0 rid b t M u l WT B (by omega)) (Ct (st:=(l,0)) m k (Ae2 f) (Ae2 e)) (λn2 v σo aa K=>?_);obtain⟨rfl,u1,Z,N,rfl⟩:=K;rw[Eb m k (Ae2 f) (Ae2 e)];simp only[push_cast,seval,reduceEqDiff,bne,d,hI,CD,o,p,w,z2,z5,A];intros;subst r;exact⟨_,Ak.refl,[],_,trivial,λi z h=>AC h,rfl,u1,Z,Ko N (by omega) (by simp only;omega),rfl⟩
   | false=>
    rw[hI] at r;simp only[AcJ,if_false] at r;simp only[push_cast,seval,reduceEqDiff,bne,d,hI,CD,o,p,w,z2,z5,A];have _h:=trivial;repeat' (first|(first|((first|apply Ab|apply Ag|apply Ah)<;>intro _h)|refine Ac g ?_|refine Ac D ?_|refine Ac j ?_|refine Ar (by omega) ?_)<;>simp only[push_cast,seval,reduceEqDiff,_h,bne,d,hI,CD,o,p,w,z2,z5,A]|intro _)
    refine Bd (FR W0 rid b t M u l nt B (by omega)) (Ct (st:=(l,0)) m k (Ae2 f) (Ae2 e)) (λn2 v σo aa K=>?_);obtain⟨rfl,u1,Z,N,rfl⟩:=K;rw[Eb m k (Ae2 f) (Ae2 e)];simp only[push_cast,seval,reduceEqDiff,bne,d,hI,CD,o,p,w,z2,z5,A];intros;subst r;exact⟨_,Ak.refl,[],_,trivial,λi z h=>AC h,rfl,u1,Z,Ko N (by omega) (by simp only;omega),rfl⟩
def yI(L:BV)(vs:List B4)(iso:Bool):V:=.agg [.s L.tag,.s L.parent,.s L.dir,.sl (L.card.map AB.enc),.sl (L.ord.map AB.enc),.s L.dec,.s L.grp,.s L.minus,.s L.perc,.i .i64 L.prim,.i .i64 L.sec,.sl (L.lists.map CA.enc),.sl (L.units.map Dd.enc),.sl (L.dates.map CG.enc),.sl (L.months.map V.s),.sl (L.days.map V.s),.sl (vs.map B4.enc),.b iso]
theorem Gg(L:BV)(vs:List B4)(iso:Bool):yI L vs iso=.agg [.s L.tag,.s L.parent,.s L.dir,.sl (L.card.map AB.enc),.sl (L.ord.map AB.enc),.s L.dec,.s L.grp,.s L.minus,.s L.perc,.i .i64 L.prim,.i .i64 L.sec,.sl (L.lists.map CA.enc),.sl (L.units.map Dd.enc),.sl (L.dates.map CG.enc),.sl (L.months.map V.s),.sl (L.days.map V.s),.sl (vs.map B4.enc),.b iso]:=rfl
theorem fN(L:BV)(vs:List B4)(iso:Bool)(f:Na L<=2^40)(g:A7 L.card+A7 L.ord<=2^24)(h:vs.length<=2^40)(i:∀v∈vs,v.list.length<=2^40) :
  Al π W0 13 [yI L vs iso] [] (.b (IG L&&C7 (decide ((vs.length:Int)<=30)) vs)) []:=by
 have e:=AaC W0 L f g;have c3:=Zc W0 vs h i;rw[BV.enc_eq] at e;generalize IG L=c at *;generalize C7 (decide ((vs.length:Int)<=30)) vs=d at *;rw[Gg];refine Ae (vs:=[.b (c&&d)]) As2 (by simp) (by simp) λn0 a=>?_;clear a;simp only[push_cast,seval,reduceEqDiff];cases c<;>cases d
 all_goals (repeat' (first|(first|refine Ac (by exact e) ?_|refine Ac (by exact c3) ?_)|intro _)<;>(try simp only[push_cast,seval,reduceEqDiff]))
 all_goals exact Af (by simp[get])
theorem Ah9{rid b t e:Id}{M:MX}{u f:Bool}{st c:Aa×Int}:∀id,lk (BT rid M u b t st) id≠none->lk (BT rid M f b e c) id≠none:=by
 intro id h;by_cases a:rid=id
 .simp[BT,lk,a]
 .by_cases d:b=id
  .simp[BT,lk,a,d]
  .simp[BT,lk,a,d] at h
theorem AcC{nn:Nat}{ins:List Az}{i:Nat}{x:Az}{c:List Az}(o:Ky nn ins)(d:ins[i]?=some x)(f:x.op=10)(e:ins=ins.take (i+1)++c)(j:∀y∈c,y.op=11):False:=by
 have a:=o.la;have p:i<ins.length:=(Afk.1 d).1;have m:ins.length=i+1+c.length:=by have:=congrArg List.length e;rw[AgM,Ayq,Aza (by omega)] at this;exact this
 cases l:c.length with
 | zero=>
  have:ins.length-1=i:=by omega
  rw[this,EZ d] at a;omega
 | succ k=>
  have b:ins[ins.length-1]?=c[k]?:=by
   rw[show ins.length-1=(ins.take (i+1)).length+k by rw[Ayq,Aza (by omega)];omega];have h:(ins.take (i+1)++c)[(ins.take (i+1)).length+k]?=c[k]?:=by rw[Apb (by omega),Nat.add_sub_cancel_left]
   rwa [<-e] at h
  have g:c[k]?=some (c[k]'(by omega)):=Ae8 (by omega);rw[g] at b;rw[EZ b] at a;have:=j _ (Az4 (by omega:k<c.length));omega
theorem AgZ(c:Nat)(X:WX)(names:List Aa)(ins:List Az)(i:Nat)(x:Az)(o:XOk X c)(p:(Db ins i).length<=2^30) :
  ∃(t:Aa) (u:Int) (w:Aa) (y:Int) (z:V) (ok:Bool) (m:Aa×Int),Al π W0 39 [.sl (X.vs.map B4.enc),.s (BM names x.a)] [] (.tup [.agg [.s t,.i .i64 u,.s w,.i .i64 y,z],.b ok]) []/\
   Al π W0 126 [X.L.enc,.i .i64 x.b,.sl ((Db ins i).map V.s),.agg [.s t,.i .i64 u,.s w,.i .i64 y,z]] [] (.tup [.s m.1,.i .i64 m.2]) []/\
   (ok=true->J3 X names ins i x=m)/\(ok=false->m.2≠0/\(J3 X names ins i x).2=if m.2==18 then 18 else 12):=by
 have e:=Q8 W0 X.vs (BM names x.a) o.n (λv A=>(o.vals v A).1.len);unfold J3;cases q:FA X.vs (BM names x.a) with
 | none=>
  rw[q] at e;refine⟨[],0,[],0,.nil,false,My X.L x.b (Db ins i) ⟨[],0,[],0,[]⟩,e,?_,λh=>(by cases h),λ_=>⟨?_,rfl⟩⟩
  .refine CX (Xi W0 X.L x.b (Db ins i) ⟨[],0,[],0,[]⟩ (by simp) o.rules p) rfl λj a D l d=>?_
   match j with
   | 0=>simp at l d;subst l d;exact .refl _
   | 1=>simp at l d;subst l d;exact .refl _
   | 2=>simp at l d;subst l d;exact .refl _
   | 3=>
    simp at l d;subst l d;rw[B4.enc_eq];refine .agg _ _ rfl λk c E f g=>?_
    match k with
    | 0=>simp at f g;subst f g;exact .refl _
    | 1=>simp at f g;subst f g;exact .refl _
    | 2=>simp at f g;subst f g;exact .refl _
    | 3=>simp at f g;subst f g;exact .refl _
    | 4=>simp at f g;subst f g;exact .nil
    | k+5=>simp at f
   | j+4=>simp at l
  .have r:Mw x.b ⟨[],0,[],0,[]⟩=false:=by unfold Mw IJ;simp
   unfold My;rw[r];split
   .simp
   .split
    .simp
    .simp
 | some v=>rw[q] at e;obtain⟨B,C⟩:=o.vals v (ID q);simp only[vT,gV,AtG] at e;have p:=Xi W0 X.L x.b (Db ins i) v (by omega) o.rules p;rw[B4.enc_eq] at e p;exact⟨_,_,_,_,_,true,_,e,p,λ_=>rfl,λh=>by cases h⟩
set_option maxHeartbeats 4000000 in
theorem aK(c:Nat)(rid b t:Id)(M:MX)(u:Bool)(l:Aa)(i:Nat)(x:Az)(hx:M.ins[i]?=some x)(hs:Ky M.names.length M.ins)(hX:XOk M.X c)(aj:b≠rid)(au:x.op=10)(hl:M.ins.length<=2^30) :
  Al π W0 87 [.ref rid 0,.i .i64 i] (BT rid M u b t (l,0)) (.i .i64 (Jg M.X M.names M.ins i x).1) (BT rid M u b t (l,(Jg M.X M.names M.ins i x).2)):=by
 have hi:i<M.ins.length:=(Afk.1 hx).1;have az:(i<M.ins.length)=True:=eq_true hi;have ex:(M.ins.map Az.enc)[i]?=some (.agg [.i .i64 x.op,.i .i64 x.a,.i .i64 x.b,.s x.s]):=by rw[AgQ,hx];rfl
 obtain⟨a0,a1⟩:=Hz (hs.pr i x hx) (by unfold H8;rw[au];rfl);have a2:(0<=x.a)=True:=eq_true a0;have a3:=t7 a1;have aF:(M.ins.take (i+1)).length=i+1:=by rw[Ayq,Aza (by omega)]
 have ew:IntKind.i64.wrap ((i:Int)+1)=((M.ins.take (i+1)).length:Int):=by rw[wrap64 (by omega) (by omega),aF];simp
 have aT:(Db M.ins i).length<=2^30:=by unfold Db;obtain⟨q,hq⟩:=ND (M.ins.drop (i+1));have:=congrArg List.length hq;simp at this⊢;omega
 obtain⟨g1,g2,g3,g4,g5,ok,KV,ay,D,B,ag⟩:=AgZ W0 c M.X M.names M.ins i x hX aT;have N:=@RF M.X M.names M.ins i x;generalize J:Jg M.X M.names M.ins i x=C;unfold Jg at J;rw[BV.enc_eq] at D;have aA:=λw:Aa=>Is W0 sP (Db M.ins i) w (by omega);have ax:=λw:Aa=>@RB (Db M.ins i) w;have ah:Db M.ins i=(BG (M.ins.drop (i+1))).map (·.s):=rfl;generalize hS:BG (M.ins.drop (i+1))=S at ah;have aw:∀I:Nat,I<(Db M.ins i).length->∃y:Az,M.ins[i+1+I]?=some y/\aAt M.ins (i+1+I)=y.a:=by intro I hI;unfold Db at hI;rw[AcG] at hI;obtain⟨y,_,h2,_⟩:=Qz hI;rw[AxW] at h2;exact⟨y,h2,by unfold aAt;rw[h2]⟩
 refine Ae (vs:=[.i .i64 C.1]) Ann (by simp) Ah9 λn0 ai=>?_;have hw:rid.1<n0:=ai rid _ (by simp[BT,lk];rfl);have hb:b.1<n0:=ai b _ (by simp[BT,lk,Ae2 aj];rfl);clear ai;simp only[push_cast,seval,reduceEqDiff,CD,ex,az,ew,AcG];intros;rename_i k4 k3 k2 k1;obtain⟨y,hy⟩:∃y:Id,y=(n0+1+k4,5):=⟨_,rfl⟩
 obtain⟨n1,aC⟩:∃n,n=n0+1+k4+1+k3+1+k2+1+k1:=⟨_,rfl⟩;rw[<-hy,<-aC];have bn:n0<y.1:=by rw[hy];simp only;omega
 have aY:y.1<n1:=by rw[hy];simp only;omega
 have bc:n0<n1:=by omega
 clear hy aC;have p:rid≠y:=λf=>by rw[f] at hw;omega
 have A:b≠y:=λf=>by rw[f] at hb;omega
 have G:=eq_false p;have H:=eq_false (Ae2 p);have e3:=eq_false A;have e4:=eq_false (Ae2 A);have e5:=eq_false aj;have e6:=eq_false (Ae2 aj);obtain⟨τ,T⟩:∃τ:Aj,τ=(y,A5.box (.agg [.i .i64 x.op,.i .i64 x.a,.i .i64 x.b,.s x.s]))::BT rid M u b t (l,0):=⟨_,rfl⟩
 rw[<-T];have tr:lk τ rid=some (.tbox TQ (rC M (mA u rid) b t 0)):=by rw[T];simp only[lk];rw[if_neg (Ae2 p)];exact CD
 have tn:∀id:Id,n1<=id.1->lk τ id=none/\del τ id=τ:=by
  intro id bl;have d1:y≠id:=λf=>by rw[f] at aY;omega
  have d2:rid≠id:=λf=>by rw[f] at hw;omega
  have d3:b≠id:=λf=>by rw[f] at hb;omega
  rw[T];exact⟨by simp[BT,lk,d1,d2,d3],by simp[BT,del,d1,d2,d3]⟩
 refine Am (M.ins.drop (i+1)).length (Inv:=λm st=>∃c g dn n kid,dn=M.ins.take (i+1)++c/\M.ins=dn++g/\m=g.length/\c++BG g=S/\(∀z∈c,z.op=11)/\n1<=n/\n1<=kid.1/\kid.1<n/\st=⟨[(0,.ref rid 0),(1,.i .i64 i),(5,.ref y 0),(6,.arr kid),(7,.i .i64 dn.length)],(kid,.arr 9 1 ((c.map (·.s)).map V.s))::τ,n⟩) ⟨_,(Ak.own (s:=6) (e:=9) (sz:=1) (k:=0) rfl).trans (Ak.envD (env':=[(0,.ref rid 0),(1,.i .i64 i),(5,.ref y 0),(6,.arr (n1,0)),(7,.i .i64 (M.ins.take (i+1)).length)]) (λs=>?_) (A0h _)),[],M.ins.drop (i+1),M.ins.take (i+1),_,(n1,0),by simp,(AyY _ _).symm,rfl,hS,(by simp),by omega,A0h _,A0j _,rfl⟩ ?_
 .left;simp only[get];by_cases h6:6=s
  .subst h6;simp
  .simp[h6]
 clear hS;rintro m _ ⟨cs,g,dn,n,kid,L,F,rfl,hd,K,hn,W,aR,rfl⟩;have d1:kid≠rid:=λf=>by rw[f] at W;omega
 have ad:=eq_false d1;have td:=(tn kid W).2;cases g with
 | nil=>
  exfalso;rw[AoG] at F;rw[F] at L;refine AcC hs hx au (c:=cs) ?_ K
  conv=>lhs;rw[F,L]
  rw[<-F]
 | cons z g=>
  have aP:=AL F;have f1:=SZ F;have f3:(dn.length<M.ins.length)=True:=eq_true (by rw[F];simp);rw[BG] at hd;cases E:(z.op==11) with
  | true=>
   rw[E] at hd;simp only[if_true] at hd;have aX:IntKind.i64.wrap ((dn.length:Int)+1)=((dn++[z]).length:Int):=Ai z (by omega);have aQ:cs.length+1<=AH:=by
    have:cs.length<=dn.length:=by rw[L];simp
    unfold AH;omega
   have aq:∀k j:Nat,((n+1+k,j)=kid)=False:=λk j=>eq_false λf=>(by have:=congrArg Prod.fst f;(try simp only at this);omega)
   have ar:∀k j:Nat,(kid=(n+1+k,j))=False:=λk j=>eq_false λf=>of_eq_false (aq k j) f.symm;simp only[push_cast,seval,reduceEqDiff,tr,ad,f1,f3,E,aX,AcG,eq_true aQ,td,aq,ar];intros;have hm:List.map V.s (List.map (λx=>x.s) cs)++[V.s z.s]=((cs++[z]).map (·.s)).map V.s:=by simp
   rw[hm];rename_i j3 j2 j1;refine⟨g.length,_,A0j _,Ak.refl,cs++[z],g,dn++[z],_,_,by rw[L];simp,by rw[F];simp,rfl,by rw[<-hd];simp,?_,?_,?_,?_,rfl⟩
   .intro q hq;rcases AmG.1 hq with h|h
    .exact K q h
    .simp at h;subst h;simpa using E
   .omega
   .simp only;omega
   .simp only;omega
  | false=>
   rw[E] at hd;simp only[AcJ,if_false,AoG] at hd;subst hd;simp only[push_cast,seval,reduceEqDiff,tr,ad,f1,f3,E,AcG];intros;refine GM (Ak.frzAt (s:=6) (id:=kid) rfl (tn kid W).1 (λy hy=>by obtain⟨z,_,rfl⟩:=AmO.1 hy;rfl) (A0h _)) ?_;rw[<-ah];rw[T];rename_i k5;obtain⟨n2,aD⟩:∃n2,n2=n+1+k5:=⟨_,rfl⟩
   rw[<-aD];have bd:n1<=n2:=by omega
   clear aD td ad d1 F aP f1 f3 E ah T tr tn W aR L K ex az ew aF;obtain⟨kb,U⟩:=KV;simp only at D B ag;have ae:(ok=true/\(U==0)=true)\/(∃e,C=((i:Int),e)/\((ok=true/\(U==0)=false/\e=U)\/(ok=false/\(U==18)=true/\e=U)\/(ok=false/\(U==18)=false/\e=12))):=by
    cases ok with
    | true=>
     cases d:(U==0) with
     | true=>exact .inl ⟨rfl,rfl⟩
     | false=>refine .inr ⟨U,?_,.inl ⟨rfl,rfl,rfl⟩⟩;rw[B rfl] at J;simp only[d,AcJ,if_false] at J;exact J.symm
    | false=>
     obtain⟨h1,h2⟩:=ag rfl;rw[h2] at J;refine .inr ⟨if(U==18)=true then 18 else 12,?_,?_⟩
     .rw[<-J];split<;>rfl
     .cases aO:(U==18) with
      | true=>exact .inr (.inl ⟨rfl,rfl,by simpa using(by simpa using aO:U=18).symm⟩)
      | false=>exact .inr (.inr ⟨rfl,rfl,rfl⟩)
   rcases ae with⟨rfl,d⟩|⟨e,rfl,hE⟩
   .have aU:=B rfl;rw[aU] at J N;simp only[d,if_true] at J;obtain⟨i0,i1⟩:=ax kb (N d);have aB:=aA kb;generalize B8 (λy=>kb==y) (Db M.ins i)=I at *;obtain⟨j,rfl⟩:∃j:Nat,I=j:=⟨I.toNat,by omega⟩
    obtain⟨q,aE,aW⟩:=aw j (by omega);rw[AyG,aW] at J;subst J;have aS:=(Afk.1 aE).1;have w1:IntKind.i64.wrap ((i:Int)+1)=(i:Int)+1:=wrap64 (by omega) (by omega);have w2:IntKind.i64.wrap ((i:Int)+1+(j:Int))=(i:Int)+1+(j:Int):=wrap64 (by omega) (by omega);have w3:(0<=(i:Int)+1+(j:Int))=True:=eq_true (by omega);have w4:((i:Int)+1+(j:Int)).toNat=i+1+j:=by omega
    have v:(i+1+j<M.ins.length)=True:=eq_true aS;have Y:(M.ins.map Az.enc)[i+1+j]?=some (.agg [.i .i64 q.op,.i .i64 q.a,.i .i64 q.b,.s q.s]):=by rw[AgQ,aE];rfl
    simp only[push_cast,seval,reduceEqDiff,G,H,CD,a2,a1,a3,AcG,w1,w2,w3,w4,v,Y,bne,d];have _h:=trivial;repeat' (first|(first|((first|apply Ab|apply Ag|apply Ah)<;>intro _h)|refine Ac ay ?_|refine Ar (by omega) ?_)<;>simp only[push_cast,seval,reduceEqDiff,_h,G,H,CD,a2,a1,a3,AcG,w1,w2,w3,w4,v,Y,bne,d]|intro _)
    generalize F:((_,8):Id)=z;have r:y.1<z.1:=by rw[<-F];simp only;omega
    have o:z≠rid:=λf=>by rw[f] at r;omega
    have R:z≠y:=λf=>by rw[f] at r;omega
    have Z:=eq_false o;have z2:=eq_false (Ae2 o);have z5:=eq_false R;have z6:=eq_false (Ae2 R);simp only[push_cast,seval,reduceEqDiff,G,H,Z,z2,z5,z6,CD,a2,a1,a3,AcG,w1,w2,w3,w4,v,Y,bne,d];have _h:=trivial;repeat' (first|(first|((first|apply Ab|apply Ag|apply Ah)<;>intro _h)|refine Ac D ?_|refine Ac aB ?_|refine Ar (by omega) ?_)<;>simp only[push_cast,seval,reduceEqDiff,_h,G,H,Z,z2,z5,z6,CD,a2,a1,a3,AcG,w1,w2,w3,w4,v,Y,bne,d]|intro _)
    refine Bn ?_ (Ct (st:=(l,0)) p A (Ae2 o) (λf=>by rw[<-f] at r;omega));simp[get]
   .skip;simp only[push_cast,seval,reduceEqDiff,G,H,CD,a2,a1,a3,AcG];have _h:=trivial;repeat' (first|(first|((first|apply Ab|apply Ag|apply Ah)<;>intro _h)|refine Ac ay ?_|refine Ar (by omega) ?_)<;>simp only[push_cast,seval,reduceEqDiff,_h,G,H,CD,a2,a1,a3,AcG]|intro _)
    generalize F:((_,8):Id)=z;have r:y.1<z.1:=by rw[<-F];simp only;omega
    have o:z≠rid:=λf=>by rw[f] at r;omega
    have R:z≠y:=λf=>by rw[f] at r;omega
    have O:z≠b:=λf=>by rw[f] at r;omega
    have Z:=eq_false o;have z2:=eq_false (Ae2 o);have z3:=eq_false O;have z4:=eq_false (Ae2 O);have z5:=eq_false R;have z6:=eq_false (Ae2 R);clear J B ag N ax aw aA;rcases hE with⟨rfl,d,rfl⟩|⟨rfl,d,rfl⟩|⟨rfl,d,rfl⟩
    .skip;simp only[push_cast,seval,reduceEqDiff,G,H,e3,e4,e5,e6,Z,z2,z3,z4,z5,z6,BT,lk,AcG,bne,d];have _h:=trivial;repeat' (first|(first|((first|apply Ab|apply Ag|apply Ah)<;>intro _h)|refine Ac D ?_|refine Ar (by omega) ?_)<;>simp only[push_cast,seval,reduceEqDiff,_h,G,H,e3,e4,e5,e6,Z,z2,z3,z4,z5,z6,BT,lk,AcG,bne,d]|intro _)
     refine Bn ?_ (Ct (st:=(l,e)) p A (Ae2 o) (Ae2 O));simp[get]
    .have B:e=18:=by simpa using d
     subst B;simp only[push_cast,seval,reduceEqDiff,G,H,e3,e4,e5,e6,Z,z2,z3,z4,z5,z6,BT,lk,AcG,bne];have _h:=trivial;repeat' (first|(first|((first|apply Ab|apply Ag|apply Ah)<;>intro _h)|refine Ac D ?_|refine Ar (by omega) ?_)<;>simp only[push_cast,seval,reduceEqDiff,_h,G,H,e3,e4,e5,e6,Z,z2,z3,z4,z5,z6,BT,lk,AcG,bne]|intro _)
     refine Bn ?_ (Ct (st:=(l,18)) p A (Ae2 o) (Ae2 O));simp[get]
    .skip;simp only[push_cast,seval,reduceEqDiff,G,H,e3,e4,e5,e6,Z,z2,z3,z4,z5,z6,BT,lk,AcG,bne,d];have _h:=trivial;repeat' (first|(first|((first|apply Ab|apply Ag|apply Ah)<;>intro _h)|refine Ac D ?_|refine Ar (by omega) ?_)<;>simp only[push_cast,seval,reduceEqDiff,_h,G,H,e3,e4,e5,e6,Z,z2,z3,z4,z5,z6,BT,lk,AcG,bne,d]|intro _)
     refine Bn ?_ (Ct (st:=(l,12)) p A (Ae2 o) (Ae2 O));simp[get]
def Kx(a:List Int):List V:=a.map (V.i .i64)
def MRT(rid:Id)(M:MX)(b:Id)(st:Aa×Int)(d:List Int)(next:Int)(n n':Nat)(v:V)(σ':Aj):Prop:=
 v=.i .i64 next/\∃(e:Bool) (a c:Id),(n<=a.1/\a.1<n'\/a=b)/\(n<=c.1/\c.1<n')/\a≠c/\σ'=BT rid M e a c st++[(c,.arr 3 1 (Kx d))]
theorem AcZ{σ:Aj}{y t:Id}{Y T:A5}(b:lk σ y=none)(d:y≠t):∀i e,lk (σ++[(t,T)]) i=some e->lk (σ++[(y,Y),(t,T)]) i=some e:=by
 induction σ with
 | nil=>
  intro i e h;simp only[AuZ,lk] at h⊢;split at h
  .rename_i f;subst f;rw[if_neg d,if_pos rfl];exact h
  .cases h
 | cons p σ g=>
  obtain⟨a,A⟩:=p;intro i e h;simp only[AtN,lk] at h b⊢;split at b
  .cases b
  .split at h
   .rename_i c;rw[if_pos c];exact h
   .rename_i c;rw[if_neg c];exact g b i e h
theorem aC{rid b t y:Id}{M:MX}{u:Bool}{st:Aa×Int}{Y T:A5}(d:rid≠t)(f:b≠t)(g:rid≠y)(j:b≠y)(k:y≠t):∀i e,lk (BT rid M u b t st++[(t,T)]) i=some e->lk ((y,Y)::(t,T)::BT rid M u b t st) i=some e:=by
 intro i e h;by_cases a:rid=i
 .subst a;simp[BT,lk] at h⊢;simp[Ae2 g,Ae2 d,h]
 .by_cases c:b=i
  .subst c;simp[BT,lk,a] at h⊢;simp[Ae2 f,Ae2 j,h]
  .by_cases c3:t=i
   .subst c3;simp[BT,lk,a,c] at h⊢;simp[k,h]
   .simp[BT,lk,a,c,c3] at h
theorem Ml{nn:Nat}{ins:List Az}{i:Nat}{x:Az}(h:AI nn ins i x=true)(a:(x.op==11)=false)(b:(x.op==13)=false):x.op=1\/x.op=2\/x.op=3\/x.op=4\/(5<=x.op/\x.op<=9)\/x.op=10\/x.op=12:=by have:=ZW h;simp only[beq_eq_false_iff_ne] at a b;omega
set_option maxHeartbeats 4000000 in
theorem Aax(hM:Bj W0)(hT:By W0)(c:Nat)(rid b t:Id)(M:MX)(u:Bool)(l:Aa)(Y:List Int)(i:Nat)(x:Az)(hx:M.ins[i]?=some x)(hs:Ky M.names.length M.ins)(hX:XOk M.X c)(O:b≠rid)(ae:b≠t)(af:rid≠t)
  (aw:(x.op==11)=false)(ax:(x.op==13)=false)(hl:M.ins.length<=2^30)(aD:∀y∈M.ins,y.s.length<=2^24)(h:l.length<=20000)(a2:Y.length<=2^30) :
  Ew π W0 55 [.ref rid 0,.i .i64 i] (BT rid M u b t (l,0)++[(t,.arr 3 1 (Kx Y))]) (MRT rid M b (Ck M.X M.names M.ins i x (l,0)).1 (Y++[(i:Int)]) (Ck M.X M.names M.ins i x (l,0)).2):=by
 have hi:i<M.ins.length:=(Afk.1 hx).1;have aB:(i<M.ins.length)=True:=eq_true hi;have ex:(M.ins.map Az.enc)[i]?=some (.agg [.i .i64 x.op,.i .i64 x.a,.i .i64 x.b,.s x.s]):=by rw[AgQ,hx];rfl
 have am:=hs.pr i x hx;have aE:=aD x (AfA hx);have ak:(Y.length+1<=AH)=True:=eq_true (by unfold AH;omega);generalize A:Ck M.X M.names M.ins i x (l,0)=P;unfold Ck at A;generalize hR:MRT rid M b P.1 (Y++[(i:Int)]) P.2=R;refine BK Anq (by simp) λn0 aa=>?_;have hw:rid.1<n0:=aa rid _ (by simp[BT,lk];rfl);have hb:b.1<n0:=aa b _ (by simp[BT,lk,Ae2 O];rfl);have ht:t.1<n0:=aa t _ (tO (Ae2 (Ae2 af)) ae);clear aa;have e1:=eq_false O;have e2:=eq_false (Ae2 O);have e3:=eq_false ae;have e4:=eq_false (Ae2 ae);have e5:=eq_false af;have e6:=eq_false (Ae2 af);have q1:∀k j:Nat,((n0+1+k,j)=rid)=False:=λk j=>eq_false λz=>(by have:=congrArg Prod.fst z;(try simp only at this);omega)
 have ao:∀k j:Nat,(rid=(n0+1+k,j))=False:=λk j=>eq_false λz=>of_eq_false (q1 k j) z.symm;have q2:∀k j:Nat,((n0+1+k,j)=b)=False:=λk j=>eq_false λz=>(by have:=congrArg Prod.fst z;(try simp only at this);omega)
 have ap:∀k j:Nat,(b=(n0+1+k,j))=False:=λk j=>eq_false λz=>of_eq_false (q2 k j) z.symm;have q3:∀k j:Nat,((n0+1+k,j)=t)=False:=λk j=>eq_false λz=>(by have:=congrArg Prod.fst z;(try simp only at this);omega)
 have aI:∀k j:Nat,(t=(n0+1+k,j))=False:=λk j=>eq_false λz=>of_eq_false (q3 k j) z.symm;simp only[push_cast,seval,reduceEqDiff,BT,lk,e1,e2,e3,e4,e5,e6,q1,ao,q2,ap,ex,aB,ak,Kx,AcG];intros;rename_i k5 k4 k3 k2 k1;obtain⟨J,ab⟩:∃y:Id,y=(n0+1+k5,13):=⟨_,rfl⟩
 obtain⟨y,hy⟩:∃y:Id,y=(n0+1+k5+1+k4,5):=⟨_,rfl⟩;obtain⟨n1,al⟩:∃n,n=n0+1+k5+1+k4+1+k3+1+k2+1+k1:=⟨_,rfl⟩;rw[<-al,<-hy,<-ab];have a1:n0<J.1:=by rw[ab];simp only;omega
 have aF:J.1<y.1:=by rw[ab,hy];simp only;omega
 have a3:y.1<n1:=by rw[hy];simp only;omega
 clear ab hy al q1 ao q2 ap q3 aI ak;rw[<-Afq M (mA u rid) b J 0,show([(rid,A5.tbox TQ (rC M (mA u rid) b J 0)),(b,A5.arr 5 1 (Ay l))]:Aj)=BT rid M u b J (l,0) from rfl,
  show(Y.map (V.i .i64)++[V.i .i64 (i:Int)])=Kx (Y++[(i:Int)]) from by simp[Kx]]
 have e:rid≠J:=λz=>by rw[z] at hw;omega
 have d:b≠J:=λz=>by rw[z] at hb;omega
 have g:rid≠y:=λz=>by rw[z] at hw;omega
 have q:b≠y:=λz=>by rw[z] at hb;omega
 have ac:y≠J:=λz=>by rw[z] at aF;omega
 have L:∀(ag:Aa×Int) (next:Int) (n2 n3:Nat) (W:Bool) (S:Id) (env:A9),n1<=n2->n2<=n3->(n1<=S.1/\S.1<n2\/S=b)->get env 4=.i .i64 next->MRT rid M b ag (Y++[(i:Int)]) next=R->
   AeJ W0 74 [.t 4] R n0 .ret ⟨env,BT rid M W S J ag++[(y,.box (.agg [.i .i64 x.op,.i .i64 x.a,.i .i64 x.b,.s x.s])),(J,.arr 3 1 (Kx (Y++[(i:Int)])))],n3⟩:=by
  intro ag next n2 n3 W S env h1 h2 w hg az
  subst az;have aj:S≠y:=λz=>by rcases w with h|h;(rw[z] at h;omega);exact q (h ▸ z)
  have ai:S≠J:=λz=>by rcases w with h|h;(rw[z] at h;omega);exact d (h ▸ z)
  exact⟨_,Ak.refl,[.i .i64 next],_,⟨hg,trivial⟩,AcZ (SV g aj) ac,rfl,W,S,J,Ko w (by omega) (by simp only;omega),⟨by omega,by simp only;omega⟩,ai,rfl⟩
 have K:IntKind.i64.wrap ((i:Int)+1)=(i:Int)+1:=wrap64 (by omega) (by omega);have F:∀k:Int,x.op≠k->(x.op==k)=false:=λk h=>by simpa using h
 have T:∀k:Int,x.op=k->(x.op==k)=true:=λk h=>by simpa using h
 have D:=eq_false g;have E:=eq_false (Ae2 g);have G:=eq_false e;have H:=eq_false (Ae2 e);have I:=eq_false ac;have f6:=eq_false (Ae2 ac);rcases Ml am aw ax with o|o|o|o|o|o|o
 .have m:=T 1 o;have f:=F 10 (by omega);have p:=F 12 (by omega);simp only[f,p,AcJ,if_false] at A;unfold Lv at A;simp only[m,AcJ,if_false,if_true] at A;subst A;simp only[push_cast,seval,reduceEqDiff,m,K,D,E,G,H,I,f6];intros;refine Bd (FR W0 rid b J M u l x.s O (by(try simp only[AgM,A0k,AmS]);omega)) (Ct (st:=(l,0)) e d g q) (λn2 v σo Z N=>?_);obtain⟨rfl,W,S,w,rfl⟩:=N;rw[Eb e d g q];simp only[push_cast,seval,reduceEqDiff,m,K,D,E,G,H,I,f6];intros;exact L _ _ n2 _ W S _ (by omega) (by omega) (Ko w (by omega) (by omega)) (by simp[get]) hR
 .have m:=F 1 (by omega);have r:=T 2 o;have f:=F 10 (by omega);have p:=F 12 (by omega);simp only[f,p,AcJ,if_false] at A;unfold Lv at A;simp only[m,r,AcJ,if_false,if_true] at A;subst A;simp only[push_cast,seval,reduceEqDiff,m,r,K,D,E,G,H,I,f6];intros;refine Ar (by unfold AG;(try simp only[AgM,A0k,AmS]);omega) ?_;simp only[push_cast,seval,reduceEqDiff,m,r,K,D,E,G,H,I,f6];intros;refine Ar (by unfold AG;(try simp only[AgM,A0k,AmS]);omega) ?_;simp only[push_cast,seval,reduceEqDiff,m,r,K,D,E,G,H,I,f6];intros;refine Bd (FR W0 rid b J M u l (60::(x.s++[62])) O (by(try simp only[AgM,A0k,AmS]);omega)) (Ct (st:=(l,0)) e d g q) (λn2 v σo Z N=>?_);obtain⟨rfl,W,S,w,rfl⟩:=N;rw[Eb e d g q];simp only[push_cast,seval,reduceEqDiff,m,r,K,D,E,G,H,I,f6];intros;exact L _ _ n2 _ W S _ (by omega) (by omega) (Ko w (by omega) (by omega)) (by simp[get]) hR
 .have m:=F 1 (by omega);have r:=F 2 (by omega);have B:=T 3 o;have f:=F 10 (by omega);have p:=F 12 (by omega);simp only[f,p,AcJ,if_false] at A;unfold Lv at A;simp only[m,r,B,AcJ,if_false,if_true] at A;subst A;simp only[push_cast,seval,reduceEqDiff,m,r,B,K,D,E,G,H,I,f6];intros;refine Ar (by unfold AG;(try simp only[AgM,A0k,AmS]);omega) ?_;simp only[push_cast,seval,reduceEqDiff,m,r,B,K,D,E,G,H,I,f6];intros;refine Ar (by unfold AG;(try simp only[AgM,A0k,AmS]);omega) ?_;simp only[push_cast,seval,reduceEqDiff,m,r,B,K,D,E,G,H,I,f6];intros;refine Bd (FR W0 rid b J M u l (60::47::(x.s++[62])) O (by(try simp only[AgM,A0k,AmS]);omega)) (Ct (st:=(l,0)) e d g q) (λn2 v σo Z N=>?_);obtain⟨rfl,W,S,w,rfl⟩:=N;rw[Eb e d g q];simp only[push_cast,seval,reduceEqDiff,m,r,B,K,D,E,G,H,I,f6];intros;exact L _ _ n2 _ W S _ (by omega) (by omega) (Ko w (by omega) (by omega)) (by simp[get]) hR
 .have m:=F 1 (by omega);have r:=F 2 (by omega);have B:=F 3 (by omega);have U:=T 4 o;have f:=F 10 (by omega);have p:=F 12 (by omega);simp only[f,p,AcJ,if_false] at A;unfold Lv at A;simp only[m,r,B,U,AcJ,if_false,if_true] at A;subst A;simp only[push_cast,seval,reduceEqDiff,m,r,B,U,K,D,E,G,H,I,f6];intros;refine Ar (by unfold AG;(try simp only[AgM,A0k,AmS]);omega) ?_;simp only[push_cast,seval,reduceEqDiff,m,r,B,U,K,D,E,G,H,I,f6];intros;refine Ar (by unfold AG;(try simp only[AgM,A0k,AmS]);omega) ?_;simp only[push_cast,seval,reduceEqDiff,m,r,B,U,K,D,E,G,H,I,f6];intros;refine Ar (by unfold AG;(try simp only[AgM,A0k,AmS]);omega) ?_;simp only[push_cast,seval,reduceEqDiff,m,r,B,U,K,D,E,G,H,I,f6];intros;refine Ar (by unfold AG;(try simp only[AgM,A0k,AmS]);omega) ?_;simp only[push_cast,seval,reduceEqDiff,m,r,B,U,K,D,E,G,H,I,f6];intros;refine Bd (FR W0 rid b J M u l (60::(x.s++[62,60,47]++x.s++[62])) O (by(try simp only[AgM,A0k,AmS]);omega)) (Ct (st:=(l,0)) e d g q) (λn2 v σo Z N=>?_);obtain⟨rfl,W,S,w,rfl⟩:=N;rw[Eb e d g q];simp only[push_cast,seval,reduceEqDiff,m,r,B,U,K,D,E,G,H,I,f6];intros;exact L _ _ n2 _ W S _ (by omega) (by omega) (Ko w (by omega) (by omega)) (by simp[get]) hR
 .have m:=F 1 (by omega);have r:=F 2 (by omega);have B:=F 3 (by omega);have U:=F 4 (by omega);have f:=F 10 (by omega);have p:=F 12 (by omega);simp only[f,p,AcJ,if_false] at A;unfold Lv at A;simp only[m,r,B,U,AcJ,if_false] at A;subst A;have ah:=Ah6 W0 hM hT c rid b J M u l x hX O h o (Hz am (by unfold H8;simp;omega)) aE;rw[Az.enc_eq] at ah;simp only[push_cast,seval,reduceEqDiff,m,r,B,U,f,p,K,D,E,G,H,I,f6];intros;refine Bd ah (Ct (st:=(l,0)) e d g q) (λn2 v σo Z N=>?_);obtain⟨rfl,W,S,w,rfl⟩:=N;rw[Eb e d g q];simp only[push_cast,seval,reduceEqDiff,m,r,B,U,f,p,K,D,E,G,H,I,f6];intros;exact L _ _ n2 _ W S _ (by omega) (by omega) (Ko w (by omega) (by omega)) (by simp[get]) hR
 .have m:=F 1 (by omega);have r:=F 2 (by omega);have B:=F 3 (by omega);have U:=F 4 (by omega);have f:=T 10 o;simp only[f,if_true] at A;have ay:P=((l,(Jg M.X M.names M.ins i x).2),(Jg M.X M.names M.ins i x).1):=by
   rw[<-A];by_cases h0:((Jg M.X M.names M.ins i x).2==0)=true
   .have av:(Jg M.X M.names M.ins i x).2=0:=by simpa using h0
    rw[if_pos h0,av]
   .rw[if_neg h0]
  rw[ay] at hR;have aA:=aK W0 c rid b J M u l i x hx hs hX O o hl;generalize Jg M.X M.names M.ins i x=C at *;simp only[push_cast,seval,reduceEqDiff,m,r,B,U,f,K,D,E,G,H,I,f6];intros;refine Bx aA (Ct (st:=(l,0)) e d g q) ?_;rw[Eb e d g q];simp only[push_cast,seval,reduceEqDiff,m,r,B,U,f,K,D,E,G,H,I,f6];intros;exact L _ _ n1 _ u b _ (by omega) (by omega) (.inr rfl) (by simp[get]) hR
 .have m:=F 1 (by omega);have r:=F 2 (by omega);have B:=F 3 (by omega);have U:=F 4 (by omega);have f:=F 10 (by omega);have p:=T 12 o;simp only[f,p,AcJ,if_false,if_true] at A;subst A;subst hR;simp only[push_cast,seval,reduceEqDiff,m,r,B,U,f,p,K,D,E,G,H,I,f6];intros;exact⟨_,Ak.refl,[.i .i64 x.a],BT rid M u b J (l,0)++[(J,.arr 3 1 (Kx (Y++[(i:Int)])))],⟨by simp[Dn,get],trivial⟩,aC e d g q ac,rfl,u,b,J,.inr rfl,⟨by omega,by simp only;omega⟩,d,rfl⟩
theorem oM{nn:Nat}{ins:List Az}(hs:Ky nn ins):(Eg ins 0==11)=false:=by
 cases h:(Eg ins 0==11) with
 | false=>rfl
 | true=>
  have hg:ins[0]?=some (ins[0]'hs.po):=Ae8 hs.po
  rw[EZ hg] at h
  have hp:=hs.pr _ _ hg
  unfold AI at hp
  rw[show(ins[0]'hs.po).op=11 by simpa using h] at hp
  simp at hp
def GZ(names:List Aa)(ins:List Az):Bool:=(Cc names ins).2==0
def G0(X:WX)(names:List Aa)(ins:List Az):Aa×Int:=
 if GZ names ins then(if(F7 X names ins).1.2==0 then((F7 X names ins).1.1,0) else([],(F7 X names ins).1.2)) else([],1)
def JE(X:WX)(names:List Aa)(ins:List Az):List Int×Int:=if GZ names ins then((F7 X names ins).2,0) else([],1)
def MST(M:MX)(n n':Nat)(v:V)(σ':Aj):Prop:=
 (GZ M.names M.ins=false/\v=.np/\σ'=[])\/(GZ M.names M.ins=true/\∃(u:Bool) (rid b t:Id),n<=rid.1/\b≠rid/\b≠t/\rid≠t/\v=.ref rid 0/\σ'=BT rid M u b t (F7 M.X M.names M.ins).1++[(t,.arr 3 1 (Kx (F7 M.X M.names M.ins).2))])
theorem NO{X:WX}{names:List Aa}{ins:List Az}{i:Nat}{x:Az}{st:Aa×Int}(h:(st.2==0)=true)(a:ZQ st):ZQ (Ck X names ins i x st).1:=by
 unfold Ck;split
 .intro _;exact a h
 .split
  .exact a
  .exact YL (a h) _
def rA(M:MX):List V:=[.sl (M.names.map V.s),.sl (M.ins.map Az.enc),.s M.X.L.tag,.s M.X.L.parent,.s M.X.L.dir,.sl (M.X.L.card.map AB.enc),.sl (M.X.L.ord.map AB.enc),.s M.X.L.dec,.s M.X.L.grp,.s M.X.L.minus,.s M.X.L.perc,.i .i64 M.X.L.prim,.i .i64 M.X.L.sec,.sl (M.X.L.lists.map CA.enc),.sl (M.X.L.units.map Dd.enc),.sl (M.X.L.dates.map CG.enc),.sl (M.X.L.months.map V.s),.sl (M.X.L.days.map V.s),.sl (M.X.vs.map B4.enc),.b M.X.iso]
theorem zD{W0:World}{nt n:Nat}{env:A9}{M:MX}{rid a:Id}{C D:A5}{c:Id}(d:rid.1<n)(e:a.1<n)(f:rid≠a)(m:c≠rid)(o:c≠a) :
  Ak W0 nt ⟨env,[(rid,.tbox TQ (.agg (rA M++[.np,.nil,.nil,.i .i64 0]))),(c,D),(a,C)],n⟩ ⟨env,(BT rid M false (n,0) (n+1,1) ([],0)++[((n+1,1),.arr 3 1 (Kx []))])++[(a,C)],n+1+1⟩:=by
 have g:((n,0):Id)≠rid:=λb=>by rw[<-b] at d;simp only at d;omega
 have j:((n,0):Id)≠a:=λb=>by rw[<-b] at e;simp only at e;omega
 have k:((n+1,1):Id)≠rid:=λb=>by rw[<-b] at d;simp only at d;omega
 have l:((n+1,1):Id)≠a:=λb=>by rw[<-b] at e;simp only at e;omega
 have q:((n+1,1):Id)≠(n,0):=λb=>by cases b
 refine(Ak.sub (σ':=[(rid,.tbox TQ (.agg ((rA M++[.np])++.nil::[.nil,.i .i64 0]))),(a,C)]) ?_ ?_ (A0h n)).trans ((Ak.ownTbox (A:=rA M++[.np]) (B:=[.nil,.i .i64 0]) 5 1 0).trans ((Ak.sub (σ':=[(rid,.tbox TQ (.agg ((rA M++[.np,.arr (n,0)])++.nil::[.i .i64 0]))),((n,0),.arr 5 1 []),(a,C)]) ?_ ?_ (A0h (n+1))).trans ((Ak.ownTbox (A:=rA M++[.np,.arr (n,0)]) (B:=[.i .i64 0]) 3 1 1).trans (Ak.sub ?_ ?_ (A0h (n+1+1))))))
 .simp[f,o,Ae2 m]
 .intro p hp;simp at hp⊢;rcases hp with h|h<;>simp[h]
 .simp[g,j,f]
 .intro p hp;simp at hp⊢;rcases hp with h|h|h<;>simp[h]
 .simp[j,k,l,f,Ae2 g]
 .intro p hp;simp[BT,rC,rA,mA,Ay,Kx] at hp⊢;rcases hp with h|h|h|h<;>simp[h]
theorem eF{rid b t:Id}{M:MX}{u:Bool}{st:Aa×Int}{T:A5}(d:rid≠t)(f:b≠t):∀i e,lk (BT rid M u b t st++[(t,T)]) i=some e->lk ((t,T)::BT rid M u b t st) i=some e:=by
 intro i e h;by_cases a:rid=i
 .subst a;simp[BT,lk] at h⊢;simp[Ae2 d,h]
 .by_cases c:b=i
  .subst c;simp[BT,lk,a] at h⊢;simp[Ae2 f,h]
  .by_cases c3:t=i
   .subst c3;simp[BT,lk,a,c] at h⊢;simp[h]
   .simp[BT,lk,a,c,c3] at h
theorem nH{σi σo:Aj}{x:Id}{C:A5}(h:∀q∈σi,x≠q.1):over σi σo (σi++[(x,C)])=σo++[(x,C)]:=by have:=Jx (σi:=σi) (σo:=σo) (pre:=[]) (post:=[(x,C)]) (λp hp=>by cases hp) (λp hp q a=>by simp at hp;subst hp;exact h q a);simpa using this
set_option maxHeartbeats 4000000 in
theorem VI(hM:Bj W0)(hT:By W0)(c:Nat)(M:MX)(hX:XOk M.X c)(hn:M.names.length<=2^20)(hl:M.ins.length<=2^20)(aA:∀s∈M.names,s.length<=2^24)(ah:∀y∈M.ins,y.s.length<=2^24) :
  Ew π W0 33 [AJ M.names M.ins,M.X.L.enc,.sl (M.X.vs.map B4.enc),.b M.X.iso] [] (MST M):=by
 have ak:=LL W0 M.names M.ins (by omega) (by omega) (λs h=>by have:=aA s h;unfold AG;omega) (λy h=>by have:=ah y h;omega);generalize hR:MST M=R;generalize ad:Cc M.names M.ins=CK at *;obtain⟨c1,c2⟩:=CK;have W:GZ M.names M.ins=(c2==0):=by unfold GZ;rw[ad]
 rw[BV.enc_eq];unfold AJ at *;refine BK AoO (by simp) λn0 az=>?_;clear az;cases o:(c2==0) with
 | false=>
  have O:(c2 !=0)=true:=by simp[bne,o]
  simp only[push_cast,seval,reduceEqDiff];have _h:=trivial;repeat' (first|(first|((first|apply Ab|apply Ag|apply Ah)<;>intro _h)|refine Ac ak ?_)<;>simp only[push_cast,seval,reduceEqDiff,_h,O]|intro _)
  subst hR;exact⟨_,Ak.refl,[.np],[],⟨rfl,trivial⟩,(λi e h=>by cases h),.inl ⟨by rw[W,o],rfl,rfl⟩⟩
 | true=>
  have O:(c2 !=0)=false:=by simp[bne,o]
  simp only[push_cast,seval,reduceEqDiff];have _h:=trivial;repeat' (first|(first|((first|apply Ab|apply Ag|apply Ah)<;>intro _h)|refine Ac ak ?_)<;>simp only[push_cast,seval,reduceEqDiff,_h,O]|intro _)
  rename_i k4 k3 k2 k1;have hs:=oY (names:=M.names) (ins:=M.ins) (by rw[ad];exact o);obtain⟨rid,k⟩:∃y:Id,y=(n0+1+k4+1+k3+1+k2,25):=⟨_,rfl⟩
  obtain⟨n1,af⟩:∃n,n=n0+1+k4+1+k3+1+k2+1+k1:=⟨_,rfl⟩;rw[<-af,<-k];have B:n0<rid.1:=by rw[k];simp only;omega
  have aC:rid.1<n1:=by rw[k];simp only;omega
  have p:rid≠(n0,4):=λg=>by rw[g] at B;simp only at B;omega
  have aD:((n0,5):Id)≠rid:=λg=>by rw[<-g] at B;simp only at B;omega
  clear af k;obtain⟨d,A⟩:∃y:Id,y=(n0,4):=⟨_,rfl⟩
  have aX:d.1<rid.1:=by rw[A];exact B
  have ax:((n0,5):Id)≠d:=by rw[A];exact λg=>by cases g
  rw[<-A] at p⊢;refine GM (zD (M:=M) aC (by omega) p aD ax) ?_;simp only[push_cast,seval,reduceEqDiff];intro k5;generalize hS:F7 M.X M.names M.ins=S;have aa:=hS;unfold F7 at hS;refine Am (M.ins.length+1) (Inv:=λm st=>∃z w D u b t n,KG M.X M.names M.ins m z.toNat w D=S/\((w.2==0)=true->0<=z/\M.ins.length<m+z.toNat/\z<(M.ins.length:Int)/\(Eg M.ins z.toNat==11)=false)/\ZQ w/\D.length+m<=M.ins.length+1/\b≠t/\n1<=b.1/\b.1<n/\n1<=t.1/\t.1<n/\st=⟨[(4,.ref d 0),(11,.ref rid 0),(12,.i .i64 z)],(BT rid M u b t w++[(t,.arr 3 1 (Kx D))])++[(d,.box (.agg [.sl (M.names.map V.s),.sl (M.ins.map Az.enc)]))],n⟩) ⟨_,Ak.refl,0,([],0),[],false,(n1,0),(n1+1,1),_,hS,λ_=>⟨Int.le_refl _,by simp,by have:=hs.po;omega,oM hs⟩,λ_=>by simp,by simp,λg=>(by cases g),A0h _,by simp only;omega,AmQ _,by simp only;omega,rfl⟩ ?_;clear hS;rintro m _ ⟨z,w,D,u,b,t,n,E,hw,hI,a2,G,N,aW,aj,aZ,rfl⟩;have r:b≠rid:=λg=>by rw[g] at N;omega
  have F:b≠d:=λg=>by rw[g] at N;omega
  have K:t≠rid:=λg=>by rw[g] at aj;omega
  have J:t≠d:=λg=>by rw[g] at aj;omega
  obtain⟨C,hC⟩:∃C:A5,C=.box (.agg [.sl (M.names.map V.s),.sl (M.ins.map Az.enc)]):=⟨_,rfl⟩;rw[<-hC];have lr:lk ((BT rid M u b t w++[(t,.arr 3 1 (Kx D))])++[(d,C)]) rid=some (.tbox TQ (rC M (mA u rid) b t w.2)):=by simp[BT,lk]
  have lc:lk ((BT rid M u b t w++[(t,.arr 3 1 (Kx D))])++[(d,C)]) d=some (.box (.agg [.sl (M.names.map V.s),.sl (M.ins.map Az.enc)])):=by rw[hC];simp[BT,lk,F,J,p]
  cases f:(w.2==0) with
  | false=>
   have aw:S=(w,D):=by rw[<-E];cases m<;>simp[KG,f]
   simp only[push_cast,seval,reduceEqDiff,lr,f];intros;subst hR;exact⟨_,Ak.refl,[.ref rid 0],_,⟨by simp[Dn,get],trivial⟩,λi e h=>AC h,.inr ⟨by rw[W,o],u,rid,b,t,by omega,r,G,Ae2 K,rfl,by rw[aa,aw]⟩⟩
  | true=>
   obtain⟨z0,ae,a4,l⟩:=hw f;obtain⟨i,rfl⟩:∃i:Nat,z=i:=⟨z.toNat,by omega⟩;rw[AyG] at E ae l;cases m with
   | zero=>omega
   | succ m=>
   obtain⟨x,hx⟩:∃x,M.ins[i]?=some x:=⟨_,Ae8 (by omega)⟩;have ex:(M.ins.map Az.enc)[i]?=some (.agg [.i .i64 x.op,.i .i64 x.a,.i .i64 x.b,.s x.s]):=by rw[AgQ,hx];rfl
   have T:(i<M.ins.length)=True:=eq_true (by omega);rw[KG,f] at E;simp only[if_true,hx] at E;rw[EZ hx] at l;have aE:w=(w.1,0):=by
    have:w.2=0:=by simpa using f
    rw[<-this]
   have aF:=hI f;cases j:(x.op==13) with
   | true=>
    rw[j] at E;simp only[if_true] at E;have ay:(D.length+1<=AH)=True:=eq_true (by unfold AH;omega);have f1:=eq_false r;have f2:=eq_false (Ae2 r);have f3:=eq_false G;have f4:=eq_false (Ae2 G);have f5:=eq_false K;have f6:=eq_false (Ae2 K);have f7:=eq_false J;have f8:=eq_false (Ae2 J);have f9:=eq_false F;have f10:=eq_false (Ae2 F);have f11:=eq_false p;have Z:=eq_false (Ae2 p);rw[hC];simp only[push_cast,seval,reduceEqDiff,BT,lk,f1,f2,f3,f4,f5,f6,f7,f8,f9,f10,f11,Z,f,ex,T,bne,j,ay,Kx,AcG];intros;rename_i k7 k6;obtain⟨q,Y⟩:∃q:Id,q=(n+1+k7+1+k6,55):=⟨_,rfl⟩
    rw[<-Y];have U:n<=q.1:=by rw[Y];simp only;omega
    clear Y;have I:rid≠q:=λg=>by rw[<-g] at U;omega
    have H:b≠q:=λg=>by rw[<-g] at U;omega
    have ag:q≠d:=λg=>by rw[g] at U;omega
    have q1:=eq_false I;have q2:=eq_false (Ae2 I);have q3:=eq_false H;have q4:=eq_false (Ae2 H);have q5:=eq_false ag;have q6:=eq_false (Ae2 ag);simp only[push_cast,seval,reduceEqDiff,BT,lk,f1,f2,f3,f4,f5,f6,f7,f8,f9,f10,f11,Z,q1,q2,q3,q4,q5,q6,Kx];intros;subst hR;refine⟨_,Ak.refl,[.ref rid 0],BT rid M u b q w++[(q,.arr 3 1 (Kx (D++[(i:Int)])))],⟨by simp[Dn,get],trivial⟩,λi e h=>?_,.inr ⟨by rw[W,o],u,rid,b,q,by omega,r,H,I,rfl,by rw[aa,<-E]⟩⟩;have:=AC (τ:=[(d,A5.box (.agg [.sl (M.names.map V.s),.sl (M.ins.map Az.enc)]))]) (eF I H i e h);rw[Kx,Azb] at this;exact this
   | false=>
    rw[j] at E;simp only[AcJ,if_false] at E;have ai:=Aax W0 hM hT c rid b t M u w.1 D i x hx hs hX r G (Ae2 K) l j (by omega) ah aF (by omega);rw[<-aE] at ai;have aB:=@Nk M.X M.names M.ins i x w hs hx l j;have ar:=@NO M.X M.names M.ins i x w f hI;generalize Ck M.X M.names M.ins i x w=P at *;simp only[push_cast,seval,reduceEqDiff,lr,lc,f,ex,T,bne,j,AcG];intros;rename_i k7 k6;refine Bd ai (λi e h=>AC h) (λn2 v σo aY av=>?_);obtain⟨rfl,u1,b1,t1,ab,⟨a0,a1⟩,ac,rfl⟩:=av;rw[nH (λq Y=>by
     simp only[BT,AtN,AuZ,AmR,Ayf,or_false] at Y;rcases Y with rfl|rfl|rfl
     .exact Ae2 p
     .exact Ae2 F
     .exact Ae2 J)]
    simp only[push_cast,seval,reduceEqDiff,lr,lc,f,ex,T,bne,j,AcG];intros;refine⟨m,_,A0j _,Ak.refl,P.2,P.1,D++[(i:Int)],u1,b1,t1,_,E,λh0=>?_,ar,by simp;omega,ac,?_,?_,by omega,?_,rfl⟩
    .obtain⟨x1,x2,x3⟩:=aB h0 f;exact⟨by omega,by omega,x2,x3⟩
    .rcases ab with h|h
     .omega
     .rw[h];exact N
    .rcases ab with h|h
     .omega
     .rw[h];omega
    .omega
theorem No(σo σ:Aj):over [] σo σ=σo++σ:=by have:=EO (σi:=[]) (σo:=σo) (pre:=σ) (λp hp q a=>by cases a);simpa using this
theorem kO{X:WX}{names:List Aa}{ins:List Az}:∀(n i:Nat) (st:Aa×Int) (a:List Int),ZQ st->ZQ (KG X names ins n i st a).1:=by
 intro n
 induction n with
 | zero=>intro i st a h;exact h
 | succ n c=>
  intro i st a h;rw[KG];split
  .rename_i b;split
   .exact h
   .split
    .exact h
    .exact c _ _ _ (NO b h)
  .exact h
theorem gP{X:WX}{names:List Aa}{ins:List Az}:(G0 X names ins).1.length<=20000:=by
 unfold G0;split
 .split
  .rename_i h;exact kO _ _ _ _ (λ_=>by simp) h
  .simp
 .simp
theorem YK{W0:World}{nt n s r:Nat}{env:A9}{σ:Aj}{id:Id}{e sz:Nat}{es:List V}{v:V}(f:s≠r)(l:get env s=.arr id)(m:get env r=v)(p:lk σ id=some (.arr e sz es))(d:∀y∈es,y.ok=true):KE W0 nt [.t s,.t r] [.sl es,v] [] .ret ⟨env,σ,n⟩:=by
 refine⟨⟨[(s,.sl es),(r,v)],[],n⟩,Ak.weak (λi=>if i=id then some es else none) (λi es' h=>?_) (λt=>?_) (λi q h=>by cases h) (A0h _),⟨by simp[Dn,get],by simp[Dn,get,f],trivial⟩,λ_ _ h=>by cases h⟩
 .split at h
  .rename_i o;subst o;cases h;exact⟨⟨e,sz,p⟩,rfl⟩
  .cases h
 .by_cases h:s=t
  .subst h;rw[l];simp only[get];refine .arr id es es (by simp) rfl (λk c j b a=>?_) (λk c j b a=>?_)
   .rw[b] at a;cases a;exact .refl _
   .rw[b] at a;cases a;have:=d c (AfA b);exact⟨rfl,this,this⟩
  .by_cases g:r=t
   .subst g;rw[m];simp only[get];simp[h];exact .refl _
   .simp only[get,if_neg h,if_neg g];exact .any _
structure MOk (M:MX) (c:Nat):Prop where
 X:XOk M.X c
 n:M.names.length<=2^20
 l:M.ins.length<=2^20
 ns:∀s∈M.names,s.length<=2^24
 ss:∀y∈M.ins,y.s.length<=2^24
set_option maxHeartbeats 4000000 in
theorem vW(o:Bj W0)(q:By W0)(c:Nat)(M:MX)(h:MOk M c) :
  Al π W0 29 [AJ M.names M.ins,M.X.L.enc,.sl (M.X.vs.map B4.enc),.b M.X.iso] [] (.tup [.s (G0 M.X M.names M.ins).1,.i .i64 (G0 M.X M.names M.ins).2]) []:=by
 have j:=VI W0 o q c M h.X h.n h.l h.ns h.ss;have f:=@gP M.X M.names M.ins;generalize hS:G0 M.X M.names M.ins=S at *;unfold G0 at hS;rw[BV.enc_eq] at *;unfold AJ at *;refine Ae (vs:=[.s S.1,.i .i64 S.2]) App (by simp) (by simp) λn0 g=>?_;clear g;simp only[push_cast,reduceEqDiff];intros;refine Bd j (λi e h=>by cases h) (λz v σo r p=>?_);rw[No];rcases p with⟨hsf,rfl,rfl⟩|⟨hsf,u,rid,b,t,hr,hbr,hbt,hrt,rfl,rfl⟩
 .rw[hsf] at hS;simp only[AcJ] at hS;subst hS;simp only[push_cast,reduceEqDiff];intros;refine Ad ?_;simp[push_cast]
 .rw[hsf] at hS;simp only[if_true] at hS;generalize F7 M.X M.names M.ins=Q at *;obtain⟨w,y⟩:=Q;simp only at hS⊢;have k:∀τ:Aj,lk ((BT rid M u b t w++[(t,.arr 3 1 (Kx y))])++τ) rid=some (.tbox TQ (rC M (mA u rid) b t w.2)):=λτ=>by simp[BT,lk]
  cases a:(w.2==0) with
  | false=>rw[a] at hS;simp only[AcJ] at hS;subst hS;simp only[push_cast,reduceEqDiff,k,bne,a];intros;refine Ad ?_;simp[push_cast]
  | true=>
   rw[a] at hS;simp only[if_true] at hS;subst hS;have d:Al π W0 45 [.ref rid 20] [(rid,.tbox TQ (rC M (mA u rid) b t w.2)),(b,.arr 5 1 (Ay w.1))] (.s w.1) [(rid,.tbox TQ (rC M (mA u rid) b t w.2))]:=
    K5 (off:=20) (by kernel_rfl) rfl hbr (by unfold AG;simp only at f;omega) λb v B w' m x=>K9 b 20 w.1 v B w' m x
   simp only[push_cast,reduceEqDiff,k,bne,a];intros;refine Bx d (λi e h=>AC (AC h)) ?_;simp only[push_cast,reduceEqDiff];intros;refine Ad ?_;simp[push_cast]
set_option maxHeartbeats 4000000 in
theorem o9(g:Bj W0)(k:By W0)(c:Nat)(M:MX)(h:MOk M c) :
  Al π W0 15 [AJ M.names M.ins,M.X.L.enc,.sl (M.X.vs.map B4.enc),.b M.X.iso] [] (.tup [.sl (Kx (JE M.X M.names M.ins).1),.i .i64 (JE M.X M.names M.ins).2]) []:=by
 have d:=VI W0 g k c M h.X h.n h.l h.ns h.ss;generalize hS:JE M.X M.names M.ins=S at *;unfold JE at hS;rw[BV.enc_eq] at *;unfold AJ at *;refine Ae (vs:=[.sl (Kx S.1),.i .i64 S.2]) Aq8 (by simp) (by simp) λn0 a=>?_;clear a;simp only[push_cast,reduceEqDiff];intros;refine Bd d (λi e h=>by cases h) (λx v σo m j=>?_);rw[No];rcases j with⟨hsf,rfl,rfl⟩|⟨hsf,u,rid,b,t,hr,hbr,hbt,hrt,rfl,rfl⟩
 .rw[hsf] at hS;simp only[AcJ] at hS;subst hS;simp only[push_cast,reduceEqDiff];intros;exact⟨⟨[(8,.sl []),(9,.i .i64 1)],[],_⟩,Ak.weak (λ_=>none) (λ_ _ h=>by cases h) (λt=>by
   by_cases h:8=t
   .subst h;simp only[get];simp;exact .nil
   .by_cases f:9=t
    .subst f;simp only[get];simp;exact .refl _
    .simp only[get,if_neg h,if_neg f];exact .any _) (λ_ _ h=>by cases h) (A0h _),⟨by simp[Dn,get,Kx],by simp[Dn,get],trivial⟩,λ_ _ h=>by cases h⟩
 .rw[hsf] at hS;simp only  at hS;generalize F7 M.X M.names M.ins=Q at *;obtain⟨w,q⟩:=Q;simp only at hS⊢;subst hS;have p:∀τ:Aj,lk ((BT rid M u b t w++[(t,.arr 3 1 (Kx q))])++τ) rid=some (.tbox TQ (rC M (mA u rid) b t w.2)):=λτ=>by simp[BT,lk]
  simp only[push_cast,reduceEqDiff,p];intros;refine YK (s:=8) (r:=9) (id:=t) (e:=3) (sz:=1) (by decide) (by simp[get]) (by simp[get]) ?_ (λy o=>by obtain⟨z,_,rfl⟩:=AmO.1 o;rfl);exact AC (tO (Ae2 (Ae2 hrt)) hbt)
theorem QI(d:Bj W0)(e:By W0)(c:Nat)(M:MX)(h:MOk M c) :
  Al π W0 16 [yI M.X.L M.X.vs M.X.iso,AJ M.names M.ins] [] (.tup [.s (G0 M.X M.names M.ins).1,.i .i64 (G0 M.X M.names M.ins).2]) []:=by
 have b:=vW W0 d e c M h;rw[BV.enc_eq] at b;rw[Gg];unfold AJ at *;generalize G0 M.X M.names M.ins=S at *;refine Ae (vs:=[.s S.1,.i .i64 S.2]) AnO (by simp) (by simp) λn0 a=>?_;clear a;simp only[push_cast,seval,reduceEqDiff];have _h:=trivial;repeat' (first|(first|((first|apply Ab|apply Ag|apply Ah)<;>intro _h)|refine Ac b ?_)<;>simp only[push_cast,seval,reduceEqDiff,_h]|intro _)
 refine Ad ?_;simp[push_cast,get]
end Go.Ir

namespace Go.Ir
open Go.Proofs Go.RowKit
variable(W0:World)
def Alv(names:List Aa)(ins:List Az)(L:BV)(vs:List B4):Bool:=
 (Nat.ble names.length 1000&&Nat.ble ins.length 1000)&&((lenB 1000 names&&YI 1000 ins)&&AsU L [] vs)
def AcV:List V->Option (MX)
 | [.agg [a,b],l,vs,.b iso]=>(Md Cx a).bind λnames=>(Md zJ b).bind λins=>(gM l).bind λL=>(Md Uc vs).bind λvs=>bif Alv names ins L vs then some ⟨⟨L,vs,iso⟩,names,ins⟩ else none
 | _=>none
theorem WV(z:By W0){args:List V}{M:MX}(h:AcV args=some M):MOk M (DU M.X.L.months+DU M.X.L.days+24)/\args.length=4/\
  ∀(k:Nat) (a m:V),args[k]?=some a->([AJ M.names M.ins,M.X.L.enc,.sl (M.X.vs.map B4.enc),.b M.X.iso]:List V)[k]?=some m->J2 (λ_=>none) a m:=by
 unfold AcV at h;split at h
 .rename_i a b l E iso;obtain⟨names,t,h⟩:=AdK.1 h;obtain⟨ins,u,h⟩:=AdK.1 h;obtain⟨L,w,h⟩:=AdK.1 h;obtain⟨vs,y,h⟩:=AdK.1 h;cases g:Alv names ins L vs with
  | false=>rw[g] at h;cases h
  | true=>
   rw[g] at h;cases h;unfold Alv AsU at g;simp only[A0g,decide_eq_true_eq,AmH,Az6,AyJ] at g;obtain⟨⟨q1,q2⟩,⟨q3,D⟩,o,F,p,q,G,H,r⟩:=g;have A:=dH W0 z L vs iso o p q (by omega) (by omega) λv B=>by obtain⟨q1,q2⟩:=r v B;exact⟨⟨by omega,by rw[q2];simp,by rw[q2];simp⟩,by omega⟩
   refine⟨⟨A,by simp only;omega,by simp only;omega,λs g=>by have:=WG q3 s g;omega,λx C=>by have:=Xn D x C;omega⟩,rfl,λk a m e d=>?_⟩
   match k with
   | 0=>
    simp at e d;subst e d;refine .agg _ _ rfl λj c I i f=>?_
    match j with
    | 0=>simp at i f;subst i f;exact(Ex B0 _ _ t).1
    | 1=>simp at i f;subst i f;exact(Ex Xo _ _ u).1
    | j+2=>simp at i
   | 1=>simp at e d;subst e d;exact(pL _ _ w).1
   | 2=>simp at e d;subst e d;exact(Ex aX _ _ y).1
   | 3=>simp at e d;subst e d;exact .refl _
   | k+4=>simp at e
 .cases h
def AqB(args:List V):Option V:=(AcV args).map λM=>.tup [.s (G0 M.X M.names M.ins).1,.i .i64 (G0 M.X M.names M.ins).2]
theorem AmZ(e:Bj W0)(a:By W0):AX π W0 (onP 29 AqB):=mU λargs v h=>by obtain⟨M,f,rfl⟩:=AdV.1 h;obtain⟨b,c,d⟩:=WV W0 a f;exact⟨CX (vW W0 e a _ M b) c d,rfl⟩
def gD(args:List V):Option V:=(AcV args).map λM=>.tup [.sl (Kx (JE M.X M.names M.ins).1),.i .i64 (JE M.X M.names M.ins).2]
theorem lQ(l:List Int)(e:Int):Ow (.tup [.sl (Kx l),.i .i64 e])=true:=by
 have h:∀l:List Int,Iv (Kx l)=true:=by
  intro l
  induction l with
  | nil=>rfl
  | cons a l b=>simp only[Kx,Ajf,Iv,Ow,AuB];exact b
 simp only[Ow,Iv,h,AwW]
theorem Ac0(e:Bj W0)(a:By W0):AX π W0 (bO 15 gD):=Mk λargs v h=>by obtain⟨M,f,rfl⟩:=AdV.1 h;obtain⟨b,c,d⟩:=WV W0 a f;exact⟨CX (o9 W0 e a _ M b) c d,lQ _ _⟩
end Go.Ir
section
set_option maxRecDepth 1000000
namespace Go.Ir
open Go.Proofs
noncomputable def As0:AV:=orC (bO 135 HS) (orC (bO 244 OX) (orC (bO 190 mF)
 (orC (onP 96 Pd) (orC (bO 30 TN) (orC (onP 29 AqB) (bO 15 gD))))))
theorem Acc(W0:World)(a:Bj W0)(b:By W0):AX Tryz.prog W0 As0:=
 JB (RH W0) (JB (wS W0) (JB (AkK W0) (JB (kY W0) (JB (Aa9 W0) (JB (AmZ W0 a b) (Ac0 W0 a b))))))
theorem U0:Apq (LM evM As0 100000 100 11 [] [] 0)=some (.b true):=by kernel_rfl
theorem vM(W0:World)(a:Bj W0)(c:By W0):Al Tryz.prog W0 11 [] [] (.b true) []:=RT Am2 (Acc W0 a c) jX U0 rfl rfl
end Go.Ir
end
namespace Go.Ir
open Go.Proofs
theorem Auy:π.cellsOf 57=4:=by kernel_rfl
theorem AnT:π.cellsOf 40=1:=by kernel_rfl
theorem AsE:π.cellsOf 42=2:=by kernel_rfl
theorem AuH:CU π 57=some true:=by kernel_rfl
def Tb(x:Az):Nat:=bw x.s
theorem Amx(c:List V)(h:Et π 57 c):∃x:Az,V.agg c=x.enc/\Tb x<=A8 c:=by obtain⟨g,a⟩:=h.st_inv Tryz.underlying57;rw[Auy] at g;obtain⟨l,m,o,p,rfl⟩:=Arn g;have b:=a _ (by exact Aft);have d:=a _ (by exact A0i _ Aft);have e:=a _ (by exact A0i _ (A0i _ Aft));have f:=a _ (by exact A0i _ (A0i _ (A0i _ Aft)));simp only[c9,c3,Aw4,AuN,AuA,Awu] at b d e f;obtain⟨n0,rfl,_⟩:=b.int_inv Tryz.underlying3;obtain⟨i,rfl,_⟩:=d.int_inv Tryz.underlying3;obtain⟨j,rfl,_⟩:=e.int_inv Tryz.underlying3;obtain⟨k,rfl⟩:=f.str_inv Tryz.underlying9;exact⟨⟨n0,i,j,k⟩,rfl,by simp only[Tb,bw,A8,BH];omega⟩
theorem Acz(c:List V)(h:Et π 42 c):∃names ins,V.agg c=AJ names ins/\De bw names<=A8 c/\De Tb ins<=A8 c:=by
 obtain⟨e,d⟩:=h.st_inv Tryz.underlying42;rw[AsE] at e;obtain⟨j,k,rfl⟩:=kS e;have a:=d _ (by exact Aft);have b:=d _ (by exact A0i _ Aft);simp only[jW,AnT,Aw4,AuN,AuA,Awu] at a b;obtain⟨i,rfl,f⟩:=KP j a;obtain⟨is,rfl,g⟩:=Dg b Tryz.underlying40 AuH Az.enc Tb Amx;refine⟨i,is,rfl,?_,?_⟩
 .simp only[A8,BH] at f⊢;omega
 .simp only[A8,BH] at g⊢;omega
theorem PQ(s:Aa):1<=bw s/\s.length<=bw s:=by unfold bw;omega
end Go.Ir

namespace Go.Ir
open Go.Proofs
variable(W0:World)
theorem Ajz(f:By W0){names:List Aa}{ins:List Az}{L:BV}{vs:List B4}{iso:Bool}(i:names.length<=2^20)(g:ins.length<=2^20)(b:∀s∈names,s.length<=2^20)(c:∀x∈ins,x.s.length<=2^20)
  (hp:-9223372036854775808<=L.prim)(j:L.sec<9223372036854775808)(d:A7 L.card+A7 L.ord<=2^24)(e:vs.length<=2^40)(a:(IG L&&C7 (decide ((vs.length:Int)<=30)) vs)=true) :
  MOk ⟨⟨L,vs,iso⟩,names,ins⟩ (DU L.months+DU L.days+24):=by
 rw[A0g] at a;exact⟨Ada W0 f L vs iso hp j d e a.1 a.2,i,g,λs h=>by have:=b s h;omega,λx h=>by have:=c x h;omega⟩
def xN(n:Aa):Aa:=120::n
theorem Aad{n:Aa}(h:Cy n=true)(a:n.length<40):Cy (xN n)=true:=by
 cases n with
 | nil=>simp[Cy] at h
 | cons c r=>unfold xN;rw[Cy] at h⊢;simp only[A0g,decide_eq_true_eq] at h⊢;refine⟨⟨by simp at a⊢;omega,by decide⟩,?_⟩;rw[KH,h.2];decide
theorem AoH(l:List Aa)(x:Aa):(l.map xN).contains (xN x)=l.contains x:=by
 induction l with
 | nil=>rfl
 | cons y r a=>rw[Ajf,A0c,A0c,a];simp[xN]
theorem Nr:∀(l seen:List Aa),Fl seen l=true->(∀n∈l,n.length<40)->Fl (seen.map xN) (l.map xN)=true
 | [],seen,_,_=>rfl
 | x::r,seen,h,c=>by
  rw[Ajf];rw[Fl] at h⊢;split at h
  .cases h
  .rename_i a;simp only[AxS,not_or,AsJ,A0e] at a;have b:seen.contains x=false:=by simpa using a.2
   have d:=Nr r (seen++[x]) h (λn e=>c n (by simp[e]));rw[Azb] at d;rw[Aad a.1 (c x (by simp)),AoH,b];simpa using d
theorem AkY{names:List Aa}{ins:List Az}(h:GZ names ins=true)(d:∀n∈names,n.length<40):GZ (names.map xN) ins=true:=by
 have a:EJ names=true:=by
  cases c:EJ names with
  | true=>rfl
  | false=>unfold GZ Cc at h;rw[c] at h;simp at h
 have b:EJ (names.map xN)=true:=by unfold EJ at a⊢;rw[A0g] at a;rw[AcG,a.2,AwW];exact Nr names [] a.1 d
 unfold GZ Cc at h⊢;rw[a] at h;rw[b,AcG];exact h
theorem wZ{names:List Aa}{a:Int}(h:a.toNat<names.length):BM (names.map xN) a=xN (BM names a):=by unfold BM;rw[Atj,Atj,AgQ,Ae8 h];rfl
def xX(X:WX):WX:=⟨X.L,X.vs.map xV,X.iso⟩
theorem AhB{X:WX}{names:List Aa}{ins:List Az}{i:Nat}{x:Az}{st:Aa×Int}(l:Ky names.length ins)(m:ins[i]?=some x)(d:(x.op==11)=false)(e:(x.op==13)=false) :
  Ck (xX X) (names.map xN) ins i x st=Ck X names ins i x st:=by
 have hp:=l.pr i x m;have f:H8 x=true->SL (xX X) (names.map xN) x=SL X names x/\J3 (xX X) (names.map xN) ins i x=J3 X names ins i x:=by
  intro g;have k:=(Hz hp g).2;have j:FA (xX X).vs (BM (names.map xN) x.a)=(FA X.vs (BM names x.a)).map xV:=by rw[wZ k];exact cL _ _
  unfold SL J3;rw[j];cases FA X.vs (BM names x.a) with
  | none=>exact⟨rfl,rfl⟩
  | some v=>exact⟨rfl,rfl⟩
 rcases Ml hp d e with o|o|o|o|o|o|o
 .unfold Ck Lv;rw[o];rfl
 .unfold Ck Lv;rw[o];rfl
 .unfold Ck Lv;rw[o];rfl
 .unfold Ck Lv;rw[o];rfl
 .have h:=(f (by unfold H8;simp;omega)).1;unfold Ck Lv;rw[h];have b:(x.op==10)=false:=by simp;omega
  have c:(x.op==12)=false:=by simp;omega
  rw[b,c];rfl
 .have h:=(f (by unfold H8;rw[o];rfl)).2;unfold Ck Jg;rw[h];have b:(x.op==10)=true:=by simp[o]
  rw[b];rfl
 .unfold Ck;rw[o];rfl
theorem Aqg{X:WX}{names:List Aa}{ins:List Az}(f:Ky names.length ins):∀(n i:Nat) (st:Aa×Int) (e:List Int),i<ins.length->(Eg ins i==11)=false->KG (xX X) (names.map xN) ins n i st e=KG X names ins n i st e:=by
 intro n
 induction n with
 | zero=>intro i st e _ _;rfl
 | succ n j=>
  intro i st e h a;have d:ins[i]?=some ins[i]:=Ae8 h;rw[KG,KG];cases g:(st.2==0) with
  | false=>simp
  | true=>
   simp only[d];rw[EZ d] at a;cases b:((ins[i]).op==13) with
   | true=>simp
   | false=>
    simp only[AcJ];rw[AhB f d a b];cases c:((Ck X names ins i ins[i] st).1.2==0) with
    | true=>obtain⟨k,a2,a3⟩:=Nk f d a b c g;exact j _ _ _ (by omega) a3
    | false=>generalize Ck X names ins i ins[i] st=R at *;cases n<;>simp[KG,c]
theorem AiS{X:WX}{names:List Aa}{ins:List Az}(h:GZ names ins=true)(b:∀n∈names,n.length<40):G0 (xX X) (names.map xN) ins=G0 X names ins:=by
 have a:=oY h;have c:F7 (xX X) (names.map xN) ins=F7 X names ins:=by unfold F7;exact Aqg a _ 0 _ _ a.po (oM a)
 unfold G0;rw[AkY h b,h,c]
theorem W3{a c:Id}{A C:A5}{τ:Aj}(h:a≠c):∀i e,lk ((a,A)::(c,C)::τ) i=some e->lk ((c,C)::(a,A)::τ) i=some e:=by
 intro i e b;simp only[lk] at b⊢;by_cases d:a=i
 .subst d;rw[if_pos rfl] at b;rw[if_neg (Ae2 h),if_pos rfl];exact b
 .rw[if_neg d] at b;rw[if_neg d];exact b
set_option maxHeartbeats 4000000 in
theorem Ly(hM:Bj W0)(hT:By W0)(T:Al π W0 11 [] [] (.b true) [])(names:List Aa)(ins:List Az)(L:BV)(vs:List B4)(iso:Bool)(hn:names.length<=2^20)(hl:ins.length<=2^20)(ar:∀s∈names,s.length<=2^20)(aR:∀x∈ins,x.s.length<=2^20)
  (hp:-9223372036854775808<=L.prim)(hs:L.sec<9223372036854775808)(h1:Na L<=2^40)(h2:A7 L.card+A7 L.ord<=2^24)(h4:vs.length<=2^20)(h5:∀v∈vs,v.list.length<=2^20/\v.name.length<=2^20) :
  Al π W0 6 [AJ names ins,yI L vs iso] [] (.b true) []:=by
 have C:=Aij W0 names ins (by omega) (by omega);have M:=fN W0 L vs iso h1 h2 (by omega) (λv hv=>by have:=(h5 v hv).1;omega);have au:=AjR W0 names ins (by omega);have av:=LL W0 names ins (by omega) (by omega) (λs h=>by have:=ar s h;unfold AG;omega) (λy h=>by have:=aR y h;omega);cases hA:XG names ins with
 | false=>
  rw[hA] at C;rw[Gg] at *;unfold AJ at *;refine Ae (vs:=[.b true]) zE (by simp) (by simp) λn0 D=>?_;clear D;simp only[push_cast,seval,reduceEqDiff];have _h:=trivial;repeat' (first|(first|((first|apply Ab|apply Ag|apply Ah)<;>intro _h)|refine Ac T ?_|refine Ac C ?_)<;>simp only[push_cast,seval,reduceEqDiff,_h]|intro _)
  all_goals exact Af (by simp[get])
 | true=>
 cases hB:(IG L&&C7 (decide ((vs.length:Int)<=30)) vs) with
 | false=>
  rw[hA] at C;rw[hB] at M;rw[Gg] at *;unfold AJ at *;refine Ae (vs:=[.b true]) zE (by simp) (by simp) λn0 D=>?_;clear D;simp only[push_cast,seval,reduceEqDiff];have _h:=trivial;repeat' (first|(first|((first|apply Ab|apply Ag|apply Ah)<;>intro _h)|refine Ac T ?_|refine Ac C ?_|refine Ac M ?_)<;>simp only[push_cast,seval,reduceEqDiff,_h]|intro _)
  all_goals exact Af (by simp[get])
 | true=>
 rw[hA] at C;rw[hB] at M;cases hC:((Cc names ins).2==0) with
 | false=>
  rw[Gg] at *;unfold AJ at *;refine Ae (vs:=[.b true]) zE (by simp) (by simp) λn0 D=>?_;clear D;simp only[push_cast,seval,reduceEqDiff,bne,hC];have _h:=trivial;repeat' (first|(first|((first|apply Ab|apply Ag|apply Ah)<;>intro _h)|refine Ac T ?_|refine Ac C ?_|refine Ac M ?_|refine Ac au ?_|refine Ac av ?_)<;>simp only[push_cast,seval,reduceEqDiff,_h,bne,hC]|intro _)
  all_goals exact Af (by simp[get])
 | true=>
 have K:=Ajz W0 hT (iso:=iso) hn hl ar aR hp hs h2 (by omega) hB;have aP:=QI W0 hM hT _ _ K;have aO:MOk ⟨xX ⟨L,vs,iso⟩,names.map xN,ins⟩ (DU L.months+DU L.days+24):=by
  refine⟨⟨K.X.L,K.X.rules,λv hv=>?_,?_,K.X.dlen⟩,by simpa using hn,hl,λs h=>?_,K.ss⟩
  .obtain⟨w,hw,rfl⟩:=AmO.1 hv;obtain⟨a1,a2⟩:=K.X.vals w hw;exact⟨⟨a1.text,a1.len,a1.list⟩,a2⟩
  .show(vs.map xV).length<=2^40;rw[AcG];omega
  .obtain⟨w,hw,rfl⟩:=AmO.1 h;have:=ar w hw;unfold xN;simp only[A0k];omega
 have Z:=QI W0 hM hT _ _ aO;have aQ:(∀n∈names,n.length<40)->G0 (xX ⟨L,vs,iso⟩) (names.map xN) ins=G0 ⟨L,vs,iso⟩ names ins:=λh=>AiS hC h;simp only at aP Z;simp only[xX] at Z aQ;generalize G0 ⟨L,vs,iso⟩ names ins=S at *;generalize G0 ⟨L,vs.map xV,iso⟩ (names.map xN) ins=S' at *;obtain⟨S1,S2⟩:=S;rw[Gg] at *;unfold AJ at *;refine Ae (vs:=[.b true]) zE (by simp) (by simp) λn0 D=>?_;clear D;simp only[push_cast,seval,reduceEqDiff,bne,hC];have _h:=trivial;repeat' (first|(first|((first|apply Ab|apply Ag|apply Ah)<;>intro _h)|refine Ac T ?_|refine Ac C ?_|refine Ac M ?_|refine Ac au ?_|refine Ac av ?_)<;>simp only[push_cast,seval,reduceEqDiff,_h,bne,hC]|intro _)
 rename_i k7 k6 k5 k4 k3 k2 k1;obtain⟨O,Y⟩:∃y:Id,y=(n0+1+k7+1+k6+1+k5,5):=⟨_,rfl⟩
 obtain⟨t,aj⟩:∃y:Id,y=(n0+1+k7+1+k6+1+k5+1+k4+1+k3+1+k2,8):=⟨_,rfl⟩;obtain⟨n1,ap⟩:∃n,n=n0+1+k7+1+k6+1+k5+1+k4+1+k3+1+k2+1+k1:=⟨_,rfl⟩;have aK:((n0,3):Id)≠O:=by rw[Y];intro a;cases congrArg Prod.snd a
 have J:t.1<n1:=by rw[aj,ap];simp only;omega
 have I:O.1<t.1:=by rw[Y,aj];simp only;omega
 have bE:n0<O.1:=by rw[Y];simp only;omega
 rw[<-Y,<-aj,<-ap];clear Y aj ap;have r:t≠O:=λa=>by rw[a] at I;omega
 have p:t≠(n0,3):=λa=>by rw[a] at I;simp only at I;omega
 have f1:=eq_false aK;have f2:=eq_false (Ae2 aK);have f3:=eq_false r;have f4:=eq_false (Ae2 r);have f5:=eq_false p;have f6:=eq_false (Ae2 p);generalize aa:([(O,_),((n0,3),_),((n0,2),_)]:Aj)=τ;have t5:lk τ O=some (.box (.agg [.sl (names.map V.s),.sl (ins.map Az.enc)])):=by rw[<-aa];simp[lk]
 have t3:lk τ (n0,3)=some (.box (.agg [.s L.tag,.s L.parent,.s L.dir,.sl (L.card.map AB.enc),.sl (L.ord.map AB.enc),.s L.dec,.s L.grp,.s L.minus,.s L.perc,.i .i64 L.prim,.i .i64 L.sec,.sl (L.lists.map CA.enc),.sl (L.units.map Dd.enc),.sl (L.dates.map CG.enc),.sl (L.months.map V.s),.sl (L.days.map V.s),.sl (vs.map B4.enc),.b iso])):=by rw[<-aa];simp[lk,f2]
 have tn:∀i:Id,n1<=i.1->lk τ i=none/\del τ i=τ:=by
  intro i hi;have d1:O≠i:=λa=>by rw[a] at I;omega
  have R:∀j,((n0,j):Id)≠i:=λj a=>by rw[<-a] at hi;simp only at hi;omega
  rw[<-aa];exact⟨by simp[lk,d1,R],by simp[del,d1,R]⟩
 have t8:lk τ t=none:=by
  have R:((n0,2):Id)≠t:=λa=>by rw[<-a] at I;simp only at I;omega
  rw[<-aa];simp[lk,Ae2 r,Ae2 p,R]
 clear aa T C M au av;refine GM (Ak.ownBox (A:=[]) (B:=[.sl (ins.map Az.enc)]) 9 1 0) ?_;simp only[AuZ];simp only[push_cast,seval,reduceEqDiff,bne,hC];intros;rename_i k0;refine Am names.length (Inv:=λm st=>∃dn c n id,names=dn++c/\m=c.length/\(∀q∈dn,q.length<40)/\n1<=id.1/\id.1<n/\st=⟨[(3,.ref (n0,3) 0),(5,.ref O 0),(8,.ref t 0),(9,.i .i64 dn.length)],(t,.box (.agg [.arr id,.sl (ins.map Az.enc)]))::(id,.arr 9 1 ((dn.map xN).map V.s))::τ,n⟩) ⟨_,Ak.drop (W3 (λa=>by rw[a] at J;simp only at J;omega)) (A0h _),[],names,n1+1+1+k0,(n1,0),rfl,rfl,(λq h=>by cases h),A0h _,by simp only;omega,rfl⟩ ?_;rintro m _ ⟨dn,c,n,id,H,rfl,aL,f,aN,rfl⟩;have g:t≠id:=λa=>by rw[a] at J;omega
 have F:id≠O:=λa=>by rw[a] at f;omega
 have E:id≠(n0,3):=λa=>by rw[a] at f;simp only at f;omega
 have d1:=eq_false g;have R:=eq_false (Ae2 g);have d3:=eq_false F;have d4:=eq_false E;have td:=(tn id f).2;cases c with
 | cons q c=>
  have ao:=AL H;have b0:=F6 H;have b1:=X4 H;have b2:(dn.length<names.length)=True:=eq_true ao;have b4:=Ai q (dn:=dn) (by omega);cases hq:decide ((q.length:Int)>=40) with
  | true=>simp only[push_cast,seval,reduceEqDiff,f3,f5,d3,d4,t5,t3,b0,b1,b2,hq,AcG];intros;exact Af (by simp[get])
  | false=>
   have a7:q.length<40:=by have:=of_decide_eq_false hq;omega
   have U:(1+q.length<=AG)=True:=eq_true (by unfold AG;omega);have W:(dn.length+1<=AH)=True:=eq_true (by unfold AH;omega);simp only[push_cast,seval,reduceEqDiff,f3,f5,d1,R,d3,d4,td,t5,t3,b0,b1,b2,b4,hq,U,W,AcG];intros;rename_i w2 w1;obtain⟨N,hN⟩:∃N,N=n+1+w2+1+w1:=⟨_,rfl⟩
   rw[<-hN];have bG:n<=N:=by omega
   have an:t≠(N,62):=λa=>by rw[a] at J;simp only at J;omega
   have g1:=eq_false an;have g2:=eq_false (Ae2 an);simp only[push_cast,seval,reduceEqDiff,g1,g2,f3,f5,d1,R,d3,d4,td,t5,t3,b0,b1,b2,b4,hq,U,W,AcG];intros;have hm:List.map V.s (List.map xN dn)++[V.s (120::q)]=((dn++[q]).map xN).map V.s:=by simp[xN]
   rw[hm];refine⟨_,_,A0j _,Ak.drop (W3 an) (A0h _),dn++[q],c,_,(N,62),by rw[H];simp,rfl,?_,?_,?_,rfl⟩
   .intro y hy;rcases AmG.1 hy with h|h
    .exact aL y h
    .simp at h;subst h;exact a7
   .simp only;omega
   .simp only;omega
 | nil=>
  rw[AoG] at H;subst H;have b0:decide ((names.length:Int)<(names.length:Int))=false:=by simp
  simp only[push_cast,seval,reduceEqDiff,f3,f5,d3,d4,t5,t3,b0,AcG];intros;refine GM (QM (e:=9) (sz:=1) (rid:=t) (kid:=id) (A:=[]) (B:=[.sl (ins.map Az.enc)]) (es:=(names.map xN).map V.s) (τ:=τ) g (by simp[lk]) (by simp only[lk];rw[if_neg g];simp only[if_true]) (λi e' h=>?_) t8 (λy hy=>by obtain⟨z,_,rfl⟩:=AmO.1 hy;rfl) (λs=>.inl rfl) (A0h _)) ?_
  .have x1:t≠i:=by rintro rfl;rw[t8] at h;cases h
   have x2:id≠i:=by rintro rfl;rw[(tn _ f).1] at h;cases h
   exact⟨by simp only[lk];rw[if_neg x1,if_neg x2];exact h,Ae2 x2⟩
  simp only[AuZ];simp only[push_cast,seval,reduceEqDiff,f3,f5,d3,d4,t5,t3,AcG];intros;rename_i j2 j1;obtain⟨d,G⟩:∃y:Id,y=(n+1+j2,10):=⟨_,rfl⟩
  obtain⟨n2,aq⟩:∃m,m=n+1+j2+1+j1:=⟨_,rfl⟩;have l:n1<=d.1:=by rw[G];simp only;omega
  have u:d.1<n2:=by rw[G,aq];simp only;omega
  rw[<-G,<-aq];clear G aq;have ai:d≠t:=λa=>by rw[a] at l;omega
  have ah:d≠O:=λa=>by rw[a] at l;omega
  have ag:d≠(n0,3):=λa=>by rw[a] at l;simp only at l;omega
  obtain⟨k,o⟩:∃k:Aj,k=(t,A5.box (.agg [.sl ((names.map xN).map V.s),.sl (ins.map Az.enc)]))::τ:=⟨_,rfl⟩;rw[<-o];have u8:lk k t=some (.box (.agg [.sl ((names.map xN).map V.s),.sl (ins.map Az.enc)])):=by rw[o];simp[lk]
  have u5:lk k O=some (.box (.agg [.sl (names.map V.s),.sl (ins.map Az.enc)])):=by rw[o];simp only[lk];rw[if_neg r];exact t5
  have u3:lk k (n0,3)=some (.box (.agg [.s L.tag,.s L.parent,.s L.dir,.sl (L.card.map AB.enc),.sl (L.ord.map AB.enc),.s L.dec,.s L.grp,.s L.minus,.s L.perc,.i .i64 L.prim,.i .i64 L.sec,.sl (L.lists.map CA.enc),.sl (L.units.map Dd.enc),.sl (L.dates.map CG.enc),.sl (L.months.map V.s),.sl (L.days.map V.s),.sl (vs.map B4.enc),.b iso])):=by rw[o];simp only[lk];rw[if_neg p];exact t3
  have un:∀i:Id,n1<=i.1->lk k i=none/\del k i=k:=by
   intro i hi;have x1:t≠i:=λa=>by rw[a] at J;omega
   obtain⟨y1,y2⟩:=tn i hi;rw[o];refine⟨by simp only[lk];rw[if_neg x1];exact y1,?_⟩;simp only[del];rw[if_neg x1,y2]
  clear o t5 t3 t8 tn td d1 R d3 d4 g F E f aN;refine GM (Ak.ownBox (A:=[.s L.tag,.s L.parent,.s L.dir,.sl (L.card.map AB.enc),.sl (L.ord.map AB.enc),.s L.dec,.s L.grp,.s L.minus,.s L.perc,.i .i64 L.prim,.i .i64 L.sec,.sl (L.lists.map CA.enc),.sl (L.units.map Dd.enc),.sl (L.dates.map CG.enc),.sl (L.months.map V.s),.sl (L.days.map V.s)]) (B:=[.b iso]) 62 5 0) ?_;simp only[AtN,AuZ];simp only[push_cast,seval,reduceEqDiff];intros;rename_i j0;refine Am vs.length (Inv:=λm st=>∃dn c n id,vs=dn++c/\m=c.length/\n2<=id.1/\id.1<n/\st=⟨[(3,.ref (n0,3) 0),(5,.ref O 0),(8,.ref t 0),(10,.ref d 0),(11,.i .i64 dn.length)],(d,.box (.agg [.s L.tag,.s L.parent,.s L.dir,.sl (L.card.map AB.enc),.sl (L.ord.map AB.enc),.s L.dec,.s L.grp,.s L.minus,.s L.perc,.i .i64 L.prim,.i .i64 L.sec,.sl (L.lists.map CA.enc),.sl (L.units.map Dd.enc),.sl (L.dates.map CG.enc),.sl (L.months.map V.s),.sl (L.days.map V.s),.arr id,.b iso]))::(id,.arr 62 5 ((dn.map xV).map B4.enc))::k,n⟩) ⟨_,Ak.drop (W3 (λa=>by rw[a] at u;simp only at u;omega)) (A0h _),[],vs,n2+1+1+j0,(n2,0),rfl,rfl,A0h _,by simp only;omega,rfl⟩ ?_;rintro m _ ⟨dn,c,n,id,H,rfl,f,aN,rfl⟩;have af:d≠id:=λa=>by rw[a] at u;omega
  have E:id≠(n0,3):=λa=>by rw[a] at f;simp only at f;omega
  have F:id≠O:=λa=>by rw[a] at f;omega
  have g:id≠t:=λa=>by rw[a] at f;omega
  have d1:=eq_false af;have R:=eq_false (Ae2 af);have d3:=eq_false E;have d5:=eq_false F;have d8:=eq_false g;have e3:=eq_false ag;have e5:=eq_false ah;have e8:=eq_false ai;have ud:=(un id (by omega)).2;cases c with
  | cons v c=>
   have ao:=AL H;have b0:=F6 H;have b1:(vs.map B4.enc)[dn.length]?=some (.agg [.s v.name,.i .i64 v.type,.s v.text,.i .i64 v.date,.sl (v.list.map V.s)]):=by rw[H];simp[B4.enc_eq]
   have b2:(dn.length<vs.length)=True:=eq_true ao;have b4:=Ai v (dn:=dn) (by omega);have U:(1+v.name.length<=AG)=True:=eq_true (by have:=(h5 v (by rw[H];simp)).2;unfold AG;omega);have W:(dn.length+1<=AH)=True:=eq_true (by unfold AH;omega);have al:(∀y∈(dn.map xV).map B4.enc,(cells y).length=5)=True:=eq_true (λy hy=>by obtain⟨w,_,rfl⟩:=AmO.1 hy;rw[B4.enc_eq];rfl);simp only[push_cast,seval,reduceEqDiff,d1,R,d3,d5,d8,e3,e5,e8,ud,u3,u5,u8,b0,b1,b2,b4,U,W,al,AcG];intros;rename_i w3 w2 w1;obtain⟨vb,ak⟩:∃y:Id,y=(n+1+w3,12):=⟨_,rfl⟩
   obtain⟨N,hN⟩:∃N,N=n+1+w3+1+w2+1+w1:=⟨_,rfl⟩;have aS:n<vb.1:=by rw[ak];simp only;omega
   have aT:vb.1<N:=by rw[ak,hN];simp only;omega
   rw[<-ak,<-hN];clear ak hN;have x1:vb≠d:=λa=>by rw[a] at aS;omega
   have x2:vb≠id:=λa=>by rw[a] at aS;omega
   have x3:((N,89):Id)≠d:=λa=>by rw[<-a] at u;simp only at u;omega
   have x4:((N,89):Id)≠vb:=λa=>by rw[<-a] at aT;simp only at aT;omega
   have y1:=eq_false x1;have y2:=eq_false (Ae2 x1);have y3:=eq_false x2;have y4:=eq_false (Ae2 x2);have y5:=eq_false x3;have y6:=eq_false (Ae2 x3);have y7:=eq_false x4;have y8:=eq_false (Ae2 x4);simp only[push_cast,seval,reduceEqDiff,y1,y2,y3,y4,y5,y6,y7,y8,d1,R,d3,d5,d8,e3,e5,e8,ud,u3,u5,u8,b0,b1,b2,b4,U,W,al,AcG];intros;have hm:List.map B4.enc (List.map xV dn)++[.agg [.s (120::v.name),.i .i64 v.type,.s v.text,.i .i64 v.date,.sl (v.list.map V.s)]]=((dn++[v]).map xV).map B4.enc:=by simp[xV,B4.enc_eq]
   rw[hm];refine⟨_,_,A0j _,(Ak.dropM (by simp only[lk];rw[if_neg (Ae2 x1)];exact(un vb (by omega)).1) (A0h _)).trans (Ak.drop (W3 (Ae2 x3)) (A0h _)),dn++[v],c,_,(N,89),by rw[H];simp,rfl,?_,?_,rfl⟩
   .simp only;omega
   .simp only;omega
  | nil=>
   rw[AoG] at H;subst H;have a8:=aQ (λq hq=>aL q (by simpa using hq));subst a8;have b0:decide ((vs.length:Int)<(vs.length:Int))=false:=by simp
   simp only[push_cast,seval,reduceEqDiff,d1,R,d3,d5,d8,e3,e5,e8,u3,u5,u8,b0,AcG];intros;refine GM (QM (e:=62) (sz:=5) (rid:=d) (kid:=id) (A:=[.s L.tag,.s L.parent,.s L.dir,.sl (L.card.map AB.enc),.sl (L.ord.map AB.enc),.s L.dec,.s L.grp,.s L.minus,.s L.perc,.i .i64 L.prim,.i .i64 L.sec,.sl (L.lists.map CA.enc),.sl (L.units.map Dd.enc),.sl (L.dates.map CG.enc),.sl (L.months.map V.s),.sl (L.days.map V.s)]) (B:=[.b iso]) (es:=(vs.map xV).map B4.enc) (τ:=k) af (by simp[lk]) (by simp only[lk];rw[if_neg af];simp only[if_true]) (λi e' h=>?_) (un d l).1 (λy hy=>by obtain⟨z,_,rfl⟩:=AmO.1 hy;rfl) (λs=>.inl rfl) (A0h _)) ?_
   .have x1:d≠i:=by rintro rfl;rw[(un _ l).1] at h;cases h
    have x2:id≠i:=by rintro rfl;rw[(un _ (by omega)).1] at h;cases h
    exact⟨by simp only[lk];rw[if_neg x1,if_neg x2];exact h,Ae2 x2⟩
   simp only[AtN,AuZ];have s1:(S1==S1)=true:=by simp
   have s2:(S2==S2)=true:=by simp
   simp only[push_cast,seval,reduceEqDiff,e3,e5,e8,u3,u5,u8,s1,s2];have _h:=trivial;repeat' (first|(first|((first|apply Ab|apply Ag|apply Ah)<;>intro _h)|refine Ac aP ?_|refine Ac Z ?_|refine Ar (by omega) ?_)<;>simp only[push_cast,seval,reduceEqDiff,_h,e3,e5,e8,u3,u5,u8,s1,s2]|intro _)
   exact Af (by simp[get])
end Go.Ir

namespace Go.Ir
open Go.Proofs
theorem Alp:π.cellsOf 44=18:=by kernel_rfl
theorem Uj(c:List V)(h:Et π 44 c):∃L vs iso,V.agg c=yI L vs iso/\Na L<=200*A8 c/\A7 L.card+A7 L.ord<=A8 c/\De B4.wt vs<=A8 c/\-9223372036854775808<=L.prim/\L.sec<9223372036854775808:=by
 obtain⟨w,f⟩:=h.st_inv Tryz.underlying44;rw[Alp] at w;obtain⟨a,r,rfl,t,x⟩:∃a r,c=a++r/\a.length=16/\r.length=2:=⟨c.take 16,c.drop 16,(AyY 16 c).symm,by simp;omega,by simp;omega⟩;obtain⟨d,e,rfl⟩:=kS x;have o:=f _ (by exact Aft);have p:=f _ (by exact A0i _ Aft);have q:=f _ (by exact A0i _ (A0i _ Aft));clear f;have b:(a++[d,e]).drop 16=[d,e]:=by rw[<-t,AzW]
 have g:(a++[d,e]).drop 17=[e]:=by rw[<-AzH (i:=1) (j:=16),b];rfl
 have m:(a++[d,e]).take 16=a:=by rw[<-t,List.take_left]
 simp only[Aqh,Aop,AfV,Aw4,b,g,m,AuA,Awu] at o p q;obtain⟨L,s,u,v,k,l⟩:=Ajp a o;obtain⟨vs,rfl,y⟩:=Ach d p;obtain⟨iso,rfl⟩:=q.bool_inv Tryz.underlying4;refine⟨L,vs,iso,?_,?_,?_,?_,k,l⟩
 .rw[BV.enc_eq] at s;cases s;rw[Gg];rfl
 all_goals (rw[Fq];simp only[A8];omega)
end Go.Ir
