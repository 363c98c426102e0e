/- Parts of the proof: the calculus of walks, contracts of functions, plain laws; each theorem states its conditions. -/
import Derived.Test.YtalbicndcfmbnaaGreatDoorRaf
set_option linter.all false
open Nat (reduceEqDiff)
section
set_option maxRecDepth 100000
namespace Go.Ir
open Go.Proofs
def AiF:IC:=rS [m1 3 0,bC 4 .eql 3 (.i .u8 32),m1 5 4,Br 6 5 0,gF 7 5 (.bin .eql (.t 6) (.c (.i .u8 9))),pO 8 5 7,m1 9 8,Br 10 9 0,gF 11 9 (.bin .eql (.t 10) (.c (.i .u8 10))),pO 12 9 11,m1 2 12] [2] .ret
def AhP:IC:=rS [mC 2 (.b false)] [0] AiF
def Aev:Cw:=⟨13,AhP,[.t 2]⟩
theorem AkG:Bz π 109 Aev=true:=by kernel_rfl
def Aj5:IC:=rS [mC 2 (.b false)] [0] (rS [m1 3 0,bC 4 .geq 3 (.i .u8 97),m1 5 4,B4 6 5 0,gT 7 5 (.bin .leq (.t 6) (.c (.i .u8 122))),pA 8 5 7,m1 2 8] [2] .ret)
def Aeu:Cw:=⟨9,Aj5,[.t 2]⟩
theorem Ahx:Bz π 284 Aeu=true:=by kernel_rfl
def Ajl:IC:=rS [m1 3 0,q1 4 284 3,m1 5 4,Br 6 5 0,gF 7 5 (.bin .geq (.t 6) (.c (.i .u8 65))),Br 8 5 7,B4 9 8 0,gT 10 8 (.bin .leq (.t 9) (.c (.i .u8 90))),gF 11 5 (.pick (.t 8) (.t 10) (.c (.b false))),pO 12 5 11,m1 2 12] [2] .ret
def Ag1:IC:=rS [mC 2 (.b false)] [0] Ajl
def AeL:Cw:=⟨13,Ag1,[.t 2]⟩
theorem Aks:Bz π 283 AeL=true:=by kernel_rfl
def Alk:IC:=rS [m1 3 0,q1 4 283 3,m1 5 4,Br 6 5 0,gF 7 5 (.bin .geq (.t 6) (.c (.i .u8 48))),Br 8 5 7,B4 9 8 0,gT 10 8 (.bin .leq (.t 9) (.c (.i .u8 57))),gF 11 5 (.pick (.t 8) (.t 10) (.c (.b false))),pO 12 5 11,m1 13 12,Br 14 13 0,gF 15 13 (.bin .eql (.t 14) (.c (.i .u8 95))),pO 16 13 15,m1 17 16,Br 18 17 0,gF 19 17 (.bin .eql (.t 18) (.c (.i .u8 45))),pO 20 17 19,m1 2 20] [2] .ret
def Aip:IC:=rS [mC 2 (.b false)] [0] Alk
def Afn:Cw:=⟨21,Aip,[.t 2]⟩
theorem Akb:Bz π 223 Afn=true:=by kernel_rfl
def AiB:IC:=rS [m1 3 0,q1 4 223 3,m1 5 4,Br 6 5 0,gF 7 5 (.bin .eql (.t 6) (.c (.i .u8 46))),pO 8 5 7,m1 9 8,Br 10 9 0,gF 11 9 (.bin .eql (.t 10) (.c (.i .u8 61))),pO 12 9 11,m1 2 12] [2] .ret
def Ald:IC:=rS [mC 2 (.b false)] [0] AiB
def Aff:Cw:=⟨13,Ald,[.t 2]⟩
theorem Alt:Bz π 161 Aff=true:=by kernel_rfl
def AjC:IC:=sQ (rS [m1 7 5,m1 8 0,nS 9 8,bT 10 .lss 7 9,m1 11 10,B4 12 11 0,B4 13 11 5,gT 14 11 (.idx (.t 12) (.t 13)),gT 15 11 (.call 161 [.t 14]),pA 16 11 15] [0,1,4,5,16] (cD 16 .skip (.exit 0))) (.block 1 (.seqr [m1 17 5,bZ 18 .add 17 1,m1 5 18] [0,1,4,5]))
def Adh:IC:=rS [m1 23 0,m1 24 1,m1 25 5,o1 26 (.slS (.t 23) (some (.t 24)) (some (.t 25))),m1 27 1,m1 28 5,o1 29 (.build [.i .i64 0,.s [],.i .i64 0,.i .i64 0] [(0,1,ci 9),(1,1,.t 26),(2,1,.t 27),(3,1,.t 28)]),sT 4 29 4] [4] .ret
def zY:IC:=rS [m1 35 1,m1 36 1,bZ 37 .add 36 1,o1 38 (.build [.i .i64 0,.s [],.i .i64 0,.i .i64 0] [(0,1,ci 2),(1,1,.c (.s [123])),(2,1,.t 35),(3,1,.t 37)]),sT 4 38 4] [4] .ret
def Acp:IC:=rS [m1 44 1,m1 45 1,bZ 46 .add 45 1,o1 47 (.build [.i .i64 0,.s [],.i .i64 0,.i .i64 0] [(0,1,ci 3),(1,1,.c (.s [125])),(2,1,.t 44),(3,1,.t 46)]),sT 4 47 4] [4] .ret
def AaN:IC:=rS [m1 53 1,m1 54 1,bZ 55 .add 54 1,o1 56 (.build [.i .i64 0,.s [],.i .i64 0,.i .i64 0] [(0,1,ci 8),(1,1,.c (.s [44])),(2,1,.t 53),(3,1,.t 55)]),sT 4 56 4] [4] .ret
def Adr:IC:=rS [m1 40 0,m1 41 1,o1 42 (.idx (.t 40) (.t 41)),bC 43 .eql 42 (.i .u8 125),m1 39 43] [0,1,4,39] (cD 39 Acp (rS [m1 49 0,m1 50 1,o1 51 (.idx (.t 49) (.t 50)),bC 52 .eql 51 (.i .u8 44),m1 48 52] [1,4,48] (cD 48 AaN nO)))
def Acy:IC:=sQ (.block 2 (rS [m1 20 5,m1 21 1,bT 22 .gtr 20 21,m1 19 22] [0,1,4,5,19] (cD 19 Adh (rS [m1 31 0,m1 32 1,o1 33 (.idx (.t 31) (.t 32)),bC 34 .eql 33 (.i .u8 123),m1 30 34] [0,1,4,30] (cD 30 zY Adr))))) nO
def Alr:IC:=rS [o1 4 (.alloc (.agg [.i .i64 0,.s [],.i .i64 0,.i .i64 0]))] [0,1,4] (rS [m1 6 1,m1 5 6] [0,1,4,5] (sQ (.block 0 (.loop AjC)) Acy))
def AdG:Cw:=⟨58,Alr,[.c 4 4 true]⟩
theorem Ale:Bz π 110 AdG=true:=by kernel_rfl
def Am9:IC:=rS [m1 3 0,bC 4 .eql 3 (.i .u8 123),m1 5 4,Br 6 5 0,gF 7 5 (.bin .eql (.t 6) (.c (.i .u8 125))),pO 8 5 7,m1 9 8,Br 10 9 0,gF 11 9 (.bin .eql (.t 10) (.c (.i .u8 60))),pO 12 9 11,m1 13 12,Br 14 13 0,gF 15 13 (.bin .eql (.t 14) (.c (.i .u8 62))),pO 16 13 15,m1 17 16,Br 18 17 0,gF 19 17 (.bin .eql (.t 18) (.c (.i .u8 35))),pO 20 17 19,m1 21 20,Br 22 21 0,gF 23 21 (.bin .eql (.t 22) (.c (.i .u8 92))),pO 24 21 23,m1 2 24] [2] .ret
def Ak1:IC:=rS [mC 2 (.b false)] [0] Am9
def Adt:Cw:=⟨25,Ak1,[.t 2]⟩
theorem AkX:Bz π 164 Adt=true:=by kernel_rfl
def AaP:IC:=rS [m1 32 0,m1 33 1,o1 34 (.idx (.t 32) (.t 33)),q1 35 164 34,nT 36 35,m1 31 36] [0,1,31] (cD 31 (.seqr [m1 37 1,bZ 38 .add 37 1,m1 1 38] [0,1]) (rS [m1 9 1,m1 4 9] [4] .ret))
def Aho:IC:=.block 1 (.block 2 (rS [m1 11 0,m1 12 1,o1 13 (.idx (.t 11) (.t 12)),bC 14 .eql 13 (.i .u8 92),m1 15 14,B4 16 15 1,CH 17 15 .add 16 1,B4 18 15 0,gT 19 15 (.lenS (.t 18)),gT 20 15 (.bin .lss (.t 17) (.t 19)),pA 21 15 20,m1 22 21,B4 23 22 0,B4 24 22 1,CH 25 22 .add 24 1,gT 26 22 (.idx (.t 23) (.t 25)),gT 27 22 (.call 164 [.t 26]),pA 28 22 27,m1 10 28] [0,1,10] (cD 10 nO AaP)))
def AjX:IC:=rS [mZ 4 0] [0,1] (sQ (.block 0 (.loop (sQ (rS [m1 5 1,m1 6 0,nS 7 6,bT 8 .lss 5 7] [0,1,8] (cD 8 .skip nO)) Aho))) nO)
def Afg:Cw:=⟨40,AjX,[.t 4]⟩
theorem AhS:Bz π 162 Afg=true:=by kernel_rfl
def AaR:IC:=sQ (.block 1 (rS [m1 10 0,m1 11 3,o1 12 (.idx (.t 10) (.t 11)),q1 13 223 12,nT 14 13] [0,3,14] (cD 14 nO .skip))) (.seqr [m1 8 3,bZ 9 .add 8 1,m1 3 9] [0,3])
def zP:IC:=rS [m1 15 0,nS 16 15,bZ 17 .geq 16 1,m1 18 17,B4 19 18 0,gT 20 18 (.lenS (.t 19)),CH 21 18 .leq 20 40,pA 22 18 21,m1 23 22,B4 24 23 0,gT 25 23 (.idx (.t 24) (ci 0)),gT 26 23 (.call 284 [.t 25]),pA 27 23 26,m1 2 27] [2] .ret
def Aj4:IC:=rS [mC 2 (.b false)] [0] (sQ (rS [mZ 3 0] [0,3] (.block 0 (.loop (sQ (rS [m1 4 3,m1 5 0,nS 6 5,bT 7 .lss 4 6] [0,3,7] (cD 7 .skip (.exit 0))) AaR)))) zP)
def Afe:Cw:=⟨28,Aj4,[.t 2]⟩
theorem Alz:Bz π 224 Afe=true:=by kernel_rfl
def Alq:IC:=rS [m1 14 0,m1 15 1,m1 16 7,o1 17 (.slS (.t 14) (some (.t 15)) (some (.t 16))),m1 18 1,m1 19 7,o1 20 (.build [.i .i64 0,.s [],.i .i64 0,.i .i64 0] [(0,1,ci 1),(1,1,.t 17),(2,1,.t 18),(3,1,.t 19)]),sT 6 20 4] [6] .ret
def AbT:IC:=rS [m1 26 1,m1 27 1,bZ 28 .add 27 1,o1 29 (.build [.i .i64 0,.s [],.i .i64 0,.i .i64 0] [(0,1,ci 2),(1,1,.c (.s [123])),(2,1,.t 26),(3,1,.t 28)]),sT 6 29 4] [6] .ret
def Aa5:IC:=rS [m1 39 1,m1 40 1,bZ 41 .add 40 1,o1 42 (.build [.i .i64 0,.s [],.i .i64 0,.i .i64 0] [(0,1,ci 3),(1,1,.c (.s [125])),(2,1,.t 39),(3,1,.t 41)]),sT 6 42 4] [6] .ret
def Ac9:IC:=rS [m1 31 0,m1 32 1,o1 33 (.idx (.t 31) (.t 32)),bC 34 .eql 33 (.i .u8 125),m1 35 34,B4 36 35 2,CH 37 35 .gtr 36 0,pA 38 35 37,m1 30 38] [0,1,6,30] (cD 30 Aa5 nO)
def AbX:IC:=sQ (.block 0 (rS [m1 22 0,m1 23 1,o1 24 (.idx (.t 22) (.t 23)),bC 25 .eql 24 (.i .u8 123),m1 21 25] [0,1,2,6,21] (cD 21 AbT Ac9))) nO
def Amp:IC:=sQ (rS [m1 8 0,m1 9 1,q2 10 162 8 9,m1 7 10] [0,1,2,6,7] (rS [m1 11 7,m1 12 1,bT 13 .gtr 11 12] [0,1,2,6,7,13] (cD 13 Alq .skip))) AbX
def AhY:IC:=rS [o1 6 (.alloc (.agg [.i .i64 0,.s [],.i .i64 0,.i .i64 0]))] [0,1,2,6] Amp
def AeR:Cw:=⟨55,AhY,[.c 6 4 true]⟩
theorem Amf:Bz π 111 AeR=true:=by kernel_rfl
def Aif:IC:=rS [bZ 44 .eql 39 2,m1 43 44] [0,5,7,9,39,43] (cD 43 (.seqr [m1 45 7,bZ 46 .add 45 1,m1 7 46] [0,5,7,9]) (rS [bZ 48 .eql 39 3,m1 47 48] [0,5,7,9,47] (cD 47 (.seqr [m1 49 7,bZ 50 .sub 49 1,m1 7 50] [0,5,7,9]) .skip)))
def Alp:IC:=rS [m1 51 5,lA 52 9 4,o1 53 (.msl true 220 4 [.t 52]),o1 54 (.app (.t 51) (.t 53) 220 4),m1 5 54] [0,5,7,9] (.seqr [fA 55 9 3,l1 56 55,m1 6 56] [0,5,6,7])
def AjY:IC:=rS [o1 29 (.build [.i .i64 0,.s [],.i .i64 0,.i .i64 0] []),o1 9 (.alloc (.agg [.i .i64 0,.s [],.i .i64 0,.i .i64 0])),sT 9 29 4] [0,5,6,7,8,9] (sQ (rS [m1 30 8] [0,5,6,7,9,30] (cD 30 (.seqr [m1 31 0,m1 32 6,q2 33 110 31 32,sT 9 33 4] [0,5,6,7,9]) (.seqr [m1 34 0,m1 35 6,m1 36 7,q3 37 111 34 35 36,sT 9 37 4] [0,5,6,7,9]))) (sQ (rS [fA 38 9 0,l1 39 38] [0,5,6,7,9,39] (.block 2 (rS [bZ 41 .eql 39 0,m1 40 41] [0,5,6,7,9,39,40] (cD 40 nO Aif)))) Alp))
def Ama:IC:=sQ (rS [m1 20 8,m1 21 20,B4 22 21 0,B4 23 21 6,gT 24 21 (.idx (.t 22) (.t 23)),gT 25 21 (.call 109 [.t 24]),pA 26 21 25] [0,5,6,7,8,26] (cD 26 (rS [m1 27 6,bZ 28 .add 27 1,m1 6 28] [0,5,6,7] (.exit 1)) .skip)) AjY
def AgK:IC:=sQ (rS [m1 13 6,m1 14 0,nS 15 14,bT 16 .lss 13 15] [0,5,6,7,16] (cD 16 .skip (.exit 0))) (.block 1 (rS [m1 17 7,bZ 18 .rem 17 2,bZ 19 .eql 18 1,m1 8 19] [0,5,6,7,8] Ama))
def Ag7:IC:=rS [mZ 6 0,mZ 7 0] [0,5,6,7] (sQ (.block 0 (.loop AgK)) (sQ (rS [m1 57 7,bZ 58 .gtr 57 0] [0,5,58] (cD 58 nO .skip)) (rS [m1 61 5,m1 2 61,mZ 3 0,mZ 4 0] [2,3,4] .ret)))
def AsP:IC:=rS [mC 2 .nil,mZ 3 0,mZ 4 0] [0] (sQ (rS [m1 10 0,nS 11 10,bZ 12 .gtr 11 4000] [0,12] (cD 12 nO .skip)) (rS [mC 5 .nil] [0,5] Ag7))
def AnW:Cw:=⟨62,AsP,[.t 2,.t 3,.t 4]⟩
theorem Arz:Bz π 73 AnW=true:=by kernel_rfl
def AhE:IC:=sQ (.ops [m1 9 0,nC 10 9,fA 11 10 1,l1 12 11,m1 13 0,nC 14 13,fA 15 14 1,l1 16 15,o1 17 (.build [.i .i64 0,.s [],.i .i64 0,.i .i64 0] [(2,1,.t 12),(3,1,.t 16)]),sT 2 17 4] [2] [[0,1],[1,2],[2,3],[4,5],[5,6],[6,7],[3,8],[7,8],[3,9],[7,9],[8,9]]) .ret
def Alo:IC:=sQ (rS [m1 3 0,nC 4 3,fA 5 4 0,l1 6 5,nL 7 6,bZ 8 .eql 7 0] [0,2,8] (cD 8 AhE .skip)) (rS [m1 18 0,nC 19 18,fA 20 19 0,l1 21 20,o1 22 (.iaddr (.t 21) (ci 0) 220 4),lA 23 22 4,sT 2 23 4] [2] .ret)
def Amo:IC:=rS [o1 2 (.alloc (.agg [.i .i64 0,.s [],.i .i64 0,.i .i64 0]))] [0,2] Alo
def AdB:Cw:=⟨24,Amo,[.c 2 4 true]⟩
theorem Ah3:Bz π 112 AdB=true:=by kernel_rfl
def Ac5:IC:=rS [m1 19 0,m1 20 0,nC 21 20,fA 22 21 0,l1 23 22,o1 24 (.slL (.t 23) (some (ci 1)) none 4),nC 25 19,fA 26 25 0,sT 26 24 1] [5] (rS [fA 27 5 1,l1 28 27,m1 4 28] [4] .ret)
def Al1:IC:=sQ (rS [fA 8 5 0,l1 9 8,m1 10 1,bT 11 .neq 9 10] [0,5,11] (cD 11 nO .skip)) (sQ (rS [m1 14 0,nC 15 14,fA 16 15 4,l1 17 16,bZ 18 .neq 17 0] [0,5,18] (cD 18 nO .skip)) Ac5)
def Aha:IC:=rS [mC 4 (.s [])] [0,1] (rS [m1 6 0,o1 7 (.calls 112 [.t 6]),o1 5 (.alloc (.agg [.i .i64 0,.s [],.i .i64 0,.i .i64 0])),sT 5 7 4] [0,1,5] Al1)
def Agi:Cw:=⟨29,Aha,[.t 4]⟩
theorem Aml:Bz π 114 Agi=true:=by kernel_rfl
def Ab2:IC:=sQ (.block 1 (sQ (rS [m1 13 0,m1 14 6,o1 15 (.idx (.t 13) (.t 14)),bC 16 .eql 15 (.i .u8 92),m1 17 16,B4 18 17 6,CH 19 17 .add 18 1,B4 20 17 0,gT 21 17 (.lenS (.t 20)),gT 22 17 (.bin .lss (.t 19) (.t 21)),pA 23 17 22,m1 24 23,B4 25 24 0,B4 26 24 6,CH 27 24 .add 26 1,gT 28 24 (.idx (.t 25) (.t 27)),gT 29 24 (.call 164 [.t 28]),pA 30 24 29] [0,5,6,30] (cD 30 nO (rS [m1 33 0,m1 34 6,o1 35 (.idx (.t 33) (.t 34)),q1 36 164 35] [0,5,6,36] (cD 36 nO .skip)))) (.seqr [m1 38 5,m1 39 0,m1 40 6,o1 41 (.idx (.t 39) (.t 40)),o1 42 (.msl true 5 1 [.t 41]),o1 43 (.app (.t 38) (.t 42) 5 1),m1 5 43] [0,5,6]))) (.seqr [m1 11 6,bZ 12 .add 11 1,m1 6 12] [0,5,6])
def AlU:IC:=rS [mC 5 .nil] [0,5] (sQ (rS [mZ 6 0] [0,5,6] (.block 0 (.loop (sQ (rS [m1 7 6,m1 8 0,nS 9 8,bT 10 .lss 7 9] [0,5,6,10] (cD 10 .skip (.exit 0))) Ab2)))) (rS [m1 44 5,o1 45 (.btos (.t 44)),m1 2 45,mZ 3 0,mZ 4 0] [2,3,4] .ret))
def Alg:IC:=rS [mC 2 (.s []),mZ 3 0,mZ 4 0] [0] AlU
def Af4:Cw:=⟨46,Alg,[.t 2,.t 3,.t 4]⟩
theorem Aiw:Bz π 113 Af4=true:=by kernel_rfl
def Ajn:IC:=rS [m1 4 1,bZ 5 .gtr 4 8] [0,5] (cD 5 nO .skip)
def Afo:Cw:=⟨8,Ajn,[]⟩
theorem AhJ:Bz π 115 Afo=true:=by kernel_rfl
def Alh:IC:=sQ (.block 1 (rS [m1 12 0,m1 13 5,iA 14 12 13 9 1,l1 15 14,m1 16 1,bT 17 .eql 15 16] [0,1,5,17] (cD 17 (rS [mC 4 (.b true)] [4] .ret) .skip))) (.seqr [m1 10 5,bZ 11 .add 10 1,m1 5 11] [0,1,5])
def Ans:IC:=sQ (rS [mZ 5 0] [0,1,5] (.block 0 (.loop (sQ (rS [m1 6 5,m1 7 0,nL 8 7,bT 9 .lss 6 8] [0,1,5,9] (cD 9 .skip (.exit 0))) Alh)))) (rS [mC 4 (.b false)] [4] .ret)
def Aro:IC:=rS [mC 4 (.b false)] [0,1] Ans
def ArG:Cw:=⟨18,Aro,[.t 4]⟩
theorem AoZ:Bz π 21 ArG=true:=by kernel_rfl
def Ait:IC:=sQ (rS [m1 5 0,o1 6 (.calls 112 [.t 5]),o1 7 (.fld (.t 6) 0 1 false),bZ 8 .neq 7 9,m1 9 8,Br 10 9 1,gF 11 9 (.not (.t 10)),pO 12 9 11] [0,12] (cD 12 nO .skip)) (rS [m1 15 0,o1 16 (.calls 114 [.t 15,ci 9]),m1 4 16] [4] .ret)
def AkV:IC:=rS [mC 4 (.s [])] [0,1] Ait
def Ael:Cw:=⟨17,AkV,[.t 4]⟩
theorem AjQ:Bz π 225 Ael=true:=by kernel_rfl
def Ab0:IC:=.seqr [m1 32 0,m1 33 0,nC 34 33,fA 35 34 2,l1 36 35,m1 37 3,o1 38 (.msl true 9 1 [.t 37]),o1 39 (.app (.t 36) (.t 38) 9 1),nC 40 32,fA 41 40 2,sT 41 39 1] [0,3]
def AiU:IC:=sQ (rS [m1 7 0,o1 8 (.calls 112 [.t 7]),o1 9 (.fld (.t 8) 0 1 false),bZ 10 .eql 9 9,m1 11 10,B4 12 11 3,gT 13 11 (.call 224 [.t 12]),pA 14 11 13,m1 15 14,B4 16 15 0,gT 17 15 (.nilck (.t 16)),Dv 18 15 17 2,Dr 19 15 18,B4 20 15 3,gT 21 15 (.callr 21 [.t 19,.t 20]),gT 22 15 (.not (.t 21)),pA 23 15 22] [0,3,23] (cD 23 (sQ (rS [m1 24 0,nC 25 24,fA 26 25 2,l1 27 26,nL 28 27,bZ 29 .geq 28 20] [0,3,29] (cD 29 nO .skip)) Ab0) nO)) (rS [m1 42 0,m1 43 3,q1 44 224 43,o1 45 (.calls 225 [.t 42,.t 44]),m1 2 45] [2] .ret)
def Aiq:IC:=rS [mC 2 (.s [])] [0] (rS [m1 4 0,o1 5 (.calls 112 [.t 4]),o1 6 (.fld (.t 5) 1 1 false),m1 3 6] [0,3] AiU)
def AeF:Cw:=⟨46,Aiq,[.t 2]⟩
theorem Ah9:Bz π 165 AeF=true:=by kernel_rfl
def AcG:IC:=sQ (.block 1 (rS [m1 12 3,m1 13 4,iA 14 12 13 9 1,l1 15 14,m1 16 0,bT 17 .eql 15 16] [0,3,4,17] (cD 17 (rS [m1 18 4,o1 19 (.bin .add (ci 3) (.t 18)),m1 2 19] [2] .ret) .skip))) (.seqr [m1 10 4,bZ 11 .add 10 1,m1 4 11] [0,3,4])
def Alw:IC:=rS [o1 5 (.msl true 9 1 [.c (.s [110,117,109,98,101,114]),.c (.s [117,110,105,116]),.c (.s [100,97,116,101]),.c (.s [108,105,115,116]),.c (.s [112,108,117,114,97,108]),.c (.s [111,114,100,105,110,97,108]),.c (.s [115,101,108,101,99,116])]),m1 3 5] [0,3] (sQ (rS [mZ 4 0] [0,3,4] (.block 0 (.loop (sQ (rS [m1 6 4,m1 7 3,nL 8 7,bT 9 .lss 6 8] [0,3,4,9] (cD 9 .skip nO)) AcG)))) nO)
def AlS:IC:=rS [mZ 2 0] [0] Alw
def Aea:Cw:=⟨20,AlS,[.t 2]⟩
theorem Aja:Bz π 226 Aea=true:=by kernel_rfl
def Ali:IC:=rS [mC 2 (.b false)] [0] (rS [m1 3 0,bZ 4 .eql 3 7,m1 5 4,Br 6 5 0,Dw 7 5 .eql 6 8,pO 8 5 7,m1 9 8,Br 10 9 0,Dw 11 9 .eql 10 9,pO 12 9 11,m1 2 12] [2] .ret)
def Aed:Cw:=⟨13,Ali,[.t 2]⟩
theorem Aiu:Bz π 119 Aed=true:=by kernel_rfl
def Aiz:IC:=rS [mC 2 (.b false)] [0] (rS [m1 3 0,bZ 4 .eql 3 7,m1 5 4,Br 6 5 0,Dw 7 5 .eql 6 8,pO 8 5 7,m1 2 8] [2] .ret)
def AdC:Cw:=⟨9,Aiz,[.t 2]⟩
theorem AjW:Bz π 229 AdC=true:=by kernel_rfl
def Akr:IC:=rS [m1 3 0,bC 4 .eql 3 (.s [122,101,114,111]),m1 5 4,Br 6 5 0,gF 7 5 (.bin .eql (.t 6) (.c (.s [111,110,101]))),pO 8 5 7,m1 9 8,Br 10 9 0,gF 11 9 (.bin .eql (.t 10) (.c (.s [116,119,111]))),pO 12 9 11,m1 13 12,Br 14 13 0,gF 15 13 (.bin .eql (.t 14) (.c (.s [102,101,119]))),pO 16 13 15,m1 17 16,Br 18 17 0,gF 19 17 (.bin .eql (.t 18) (.c (.s [109,97,110,121]))),pO 20 17 19,m1 21 20,Br 22 21 0,gF 23 21 (.bin .eql (.t 22) (.c (.s [111,116,104,101,114]))),pO 24 21 23,m1 2 24] [2] .ret
def Air:IC:=rS [mC 2 (.b false)] [0] Akr
def Ad6:Cw:=⟨25,Air,[.t 2]⟩
theorem Ahi:Bz π 316 Ad6=true:=by kernel_rfl
def AaX:IC:=sQ (.block 1 (rS [m1 10 0,m1 11 3,o1 12 (.idx (.t 10) (.t 11)),bC 13 .lss 12 (.i .u8 48),m1 14 13,Br 15 14 0,Br 16 14 3,gF 17 14 (.idx (.t 15) (.t 16)),gF 18 14 (.bin .gtr (.t 17) (.c (.i .u8 57))),pO 19 14 18] [0,3,19] (cD 19 nO .skip))) (.seqr [m1 8 3,bZ 9 .add 8 1,m1 3 9] [0,3])
def AlP:IC:=sQ (rS [mZ 3 0] [0,3] (.block 0 (.loop (sQ (rS [m1 4 3,m1 5 0,nS 6 5,bT 7 .lss 4 6] [0,3,7] (cD 7 .skip (.exit 0))) AaX)))) (rS [mC 2 (.b true)] [2] .ret)
def AhZ:IC:=rS [mC 2 (.b false)] [0] AlP
def AdZ:Cw:=⟨20,AhZ,[.t 2]⟩
theorem Ahv:Bz π 347 AdZ=true:=by kernel_rfl
def Acb:IC:=sQ (rS [m1 17 5,m1 18 0,nS 19 18,bT 20 .lss 17 19,m1 21 20,B4 22 21 0,B4 23 21 5,gT 24 21 (.idx (.t 22) (.t 23)),gT 25 21 (.bin .neq (.t 24) (.c (.i .u8 46))),pA 26 21 25] [0,2,4,5,26] (cD 26 .skip (.exit 0))) (.block 1 (.seqr [m1 27 5,bZ 28 .add 27 1,m1 5 28] [0,2,4,5]))
def AaS:IC:=sQ (rS [fA 47 4 1,l1 48 47,fA 49 4 2,l1 50 49,bT 51 .add 48 50,q1 52 347 51,nT 53 52,m1 54 53,DA 55 54 4 1,Du 56 54 55,gF 57 54 (.lenS (.t 56)),Dw 58 54 .lss 57 1,pO 59 54 58,m1 60 59,DA 61 60 4 1,Du 62 60 61,gF 63 60 (.lenS (.t 62)),Dw 64 60 .gtr 63 15,pO 65 60 64,m1 66 65,DA 67 66 4 1,Du 68 66 67,gF 69 66 (.lenS (.t 68)),Dw 70 66 .gtr 69 1,Br 71 66 70,Dv 72 71 4 1,Dr 73 71 72,gT 74 71 (.idx (.t 73) (ci 0)),gT 75 71 (.bin .eql (.t 74) (.c (.i .u8 48))),gF 76 66 (.pick (.t 71) (.t 75) (.c (.b false))),pO 77 66 76,m1 78 77,DA 79 78 4 2,Du 80 78 79,gF 81 78 (.lenS (.t 80)),Dw 82 78 .gtr 81 6,pO 83 78 82,m1 84 83,DA 85 84 4 0,Du 86 84 85,Br 87 84 86,Dv 88 87 4 1,Dr 89 87 88,Dv 90 87 4 2,Dr 91 87 90,gT 92 87 (.bin .add (.t 89) (.t 91)),gT 93 87 (.call 348 [.t 92]),gF 94 84 (.pick (.t 87) (.t 93) (.c (.b false))),pO 95 84 94] [2,4,95] (cD 95 nO .skip)) (rS [lA 97 4 3,sT 2 97 3,mC 3 (.b true)] [2,3] .ret)
def zA:IC:=rS [m1 29 0,m1 30 5,o1 31 (.slS (.t 29) none (some (.t 30))),fA 32 4 1,sT 32 31 1] [0,2,4,5] (sQ (rS [m1 33 5,m1 34 0,nS 35 34,bT 36 .lss 33 35] [0,2,4,5,36] (cD 36 nO .skip)) AaS)
def AlI:IC:=sQ (rS [m1 6 0,nS 7 6,bZ 8 .gtr 7 0,m1 9 8,B4 10 9 0,gT 11 9 (.idx (.t 10) (ci 0)),gT 12 9 (.bin .eql (.t 11) (.c (.i .u8 45))),pA 13 9 12] [0,2,4,13] (cD 13 nO .skip)) (rS [mZ 5 0] [0,2,4,5] (sQ (.block 0 (.loop Acb)) zA))
def Ake:IC:=rS [o1 2 (.alloc (.agg [.b false,.s [],.s []])),mC 3 (.b false)] [0,2] (rS [o1 4 (.alloc (.agg [.b false,.s [],.s []]))] [0,2,4] AlI)
def AdM:Cw:=⟨98,Ake,[.c 2 3 true,.t 3]⟩
theorem Ajs:Bz π 336 AdM=true:=by kernel_rfl
def AgM:IC:=rS [m1 6 0,q1 7 336 6,m1 5 7,xT 8 5 0,xT 9 5 1,o1 3 (.alloc (.agg [.b false,.s [],.s []])),sT 3 8 3,m1 4 9] [4] (rS [m1 10 4,m1 2 10] [2] .ret)
def AkY:IC:=rS [mC 2 (.b false)] [0] AgM
def Afv:Cw:=⟨11,AkY,[.t 2]⟩
theorem Aj7:Bz π 317 Afv=true:=by kernel_rfl
def AiK:IC:=rS [m1 9 1,q1 10 316 9,m1 11 10,Br 12 11 1,gF 13 11 (.lenS (.t 12)),Dw 14 11 .gtr 13 1,Br 15 11 14,B4 16 15 1,gT 17 15 (.idx (.t 16) (ci 0)),gT 18 15 (.bin .eql (.t 17) (.c (.i .u8 61))),gF 19 11 (.pick (.t 15) (.t 18) (.c (.b false))),Br 20 11 19,B4 21 20 1,gT 22 20 (.slS (.t 21) (some (ci 1)) none),gT 23 20 (.call 317 [.t 22]),gF 24 11 (.pick (.t 20) (.t 23) (.c (.b false))),pO 25 11 24,m1 4 25] [4] .ret
def AgB:IC:=rS [mC 4 (.b false)] [0,1] (sQ (rS [m1 5 0,bZ 6 .eql 5 9] [1,6] (cD 6 nO .skip)) AiK)
def Ad7:Cw:=⟨26,AgB,[.t 4]⟩
theorem AlO:Bz π 285 Ad7=true:=by kernel_rfl
def Aa3:IC:=sQ (rS [m1 42 8,nL 43 42,bZ 44 .geq 43 20] [0,1,2,3,8,9,44] (cD 44 nO .skip)) (rS [m1 47 8,fA 48 9 1,l1 49 48,o1 50 (.callr 21 [.t 47,.t 49])] [0,1,2,3,8,9,50] (cD 50 nO .skip))
def Abc:IC:=.seqr [m1 75 1,m1 76 1,nC 77 76,fA 78 77 4,l1 79 78,m1 80 10,m1 81 11,o1 82 (.build [.s [],.nil] [(0,1,.t 80),(1,1,.t 81)]),o1 83 (.msl true 118 2 [.t 82]),o1 84 (.app (.t 79) (.t 83) 118 2),nC 85 75,fA 86 85 4,sT 86 84 1] [0,1,2,3,8]
def AbU:IC:=rS [m1 68 0,m1 69 2,bZ 70 .add 69 1,m1 71 3,o1 72 (.calls 74 [.t 68,.t 70,.t 71]),m1 11 72] [0,1,2,3,8,10,11] (rS [m1 73 0,o1 74 (.calls 114 [.t 73,ci 3])] [0,1,2,3,8,10,11] Abc)
def AcP:IC:=rS [m1 62 8,m1 63 10,o1 64 (.msl true 9 1 [.t 63]),o1 65 (.app (.t 62) (.t 64) 9 1),m1 8 65] [0,1,2,3,8,10] (rS [m1 66 0,o1 67 (.calls 114 [.t 66,ci 2])] [0,1,2,3,8,10] AbU)
def Abq:IC:=sQ (.ops [m1 53 0,m1 54 1,nC 55 54,fA 56 55 0,l1 57 56,fA 58 9 1,l1 59 58,q2 60 285 57 59,o1 61 (.calls 225 [.t 53,.t 60]),m1 10 61] [0,1,2,3,8,10] [[1,2],[2,3],[3,4],[5,6],[4,7],[6,7],[0,8],[4,7,8],[6,7,8],[7,8],[8,9]]) AcP
def Aco:IC:=sQ (sQ (.ops [fA 30 9 0,l1 31 30,bZ 32 .eql 31 9,m1 33 32,B4 34 33 1,gT 35 33 (.nilck (.t 34)),Dv 36 33 35 0,Dr 37 33 36,Dv 38 33 9 1,Dr 39 33 38,gT 40 33 (.call 285 [.t 37,.t 39]),pA 41 33 40] [0,1,2,3,8,9,41] [[0,1],[1,2],[2,3],[3,4],[3,5],[4,5],[3,6],[5,6],[3,7],[6,7],[3,8],[3,9],[8,9],[3,10],[7,10],[9,10],[3,11],[10,11]]) (cD 41 Aa3 nO)) Abq
def AiG:IC:=.block 1 (rS [m1 28 0,o1 29 (.calls 112 [.t 28]),o1 9 (.alloc (.agg [.i .i64 0,.s [],.i .i64 0,.i .i64 0])),sT 9 29 4] [0,1,2,3,8,9] Aco)
def Al7:IC:=sQ (rS [m1 12 0,nC 13 12,fA 14 13 4,l1 15 14,bZ 16 .eql 15 0,m1 17 16,B4 18 17 8,gT 19 17 (.lenL (.t 18)),CH 20 17 .eql 19 0,B4 21 17 20,Br 22 21 0,gF 23 21 (.calls 112 [.t 22]),gF 24 21 (.fld (.t 23) 0 1 false),Dw 25 21 .neq 24 3,gT 26 17 (.pick (.t 21) (.c (.b true)) (.t 25)),pA 27 17 26] [0,1,2,3,8,27] (cD 27 .skip (.exit 0))) AiG
def Acc:IC:=rS [m1 87 0,nC 88 87,fA 89 88 4,l1 90 89,bZ 91 .eql 90 0,m1 92 91,B4 93 92 8,gT 94 92 (.callr 21 [.t 93,.c (.s [111,116,104,101,114])]),gT 95 92 (.not (.t 94)),pA 96 92 95] [0,96] (cD 96 nO .skip)
def Agy:IC:=rS [mC 8 .nil] [0,1,2,3,8] (sQ (.block 0 (.loop Al7)) Acc)
def Af5:Cw:=⟨99,Agy,[]⟩
theorem AiM:Bz π 228 Af5=true:=by kernel_rfl
def AcK:IC:=.seqr [m1 62 0,m1 63 1,m1 64 2,m1 65 3,m1 66 65,Br 67 66 1,gF 68 66 (.nilck (.t 67)),DA 69 66 68 0,Du 70 66 69,gF 71 66 (.call 229 [.t 70]),pO 72 66 71,o1 73 (.calls 228 [.t 62,.t 63,.t 64,.t 72])] []
def Add:IC:=rS [bZ 88 .eql 61 5,m1 87 88] [0,1,2,3,8,61,87] (cD 87 nO (sQ (rS [bZ 97 .eql 61 4,m1 96 97] [0,1,2,3,8,61,96] (cD 96 nO (.seqr [bZ 98 .eql 61 6,m1 96 98] [0,1,2,3,8,96]))) (cD 96 nO AcK)))
def AcE:IC:=rS [m1 55 0,o1 56 (.calls 112 [.t 55]),o1 57 (.fld (.t 56) 1 1 false),m1 8 57] [0,1,2,3,8] (rS [m1 58 1,nC 59 58,fA 60 59 0,l1 61 60] [0,1,2,3,8,61] (.block 0 (rS [bZ 75 .eql 61 3,m1 74 75] [0,1,2,3,8,61,74] (cD 74 nO Add))))
def Ab1:IC:=sQ (rS [m1 42 1,nC 43 42,fA 44 43 0,l1 45 44,bZ 46 .eql 45 3,m1 47 46,B4 48 47 0,gT 49 47 (.calls 112 [.t 48]),gT 50 47 (.fld (.t 49) 0 1 false),CH 51 47 .neq 50 8,pA 52 47 51] [0,1,2,3,52] (cD 52 nO .skip)) (rS [m1 53 0,o1 54 (.calls 114 [.t 53,ci 8])] [0,1,2,3] AcE)
def Ag4:IC:=rS [m1 30 0,m1 31 1,nC 32 31,fA 33 32 0,l1 34 33,bZ 35 .neq 34 0,o1 36 (.calls 225 [.t 30,.t 35])] [0,1,2,3] (sQ (rS [m1 37 0,nC 38 37,fA 39 38 4,l1 40 39,bZ 41 .neq 40 0] [0,1,2,3,41] (cD 41 nO .skip)) Ab1)
def Ai6:IC:=sQ (rS [m1 16 0,o1 17 (.calls 112 [.t 16]),o1 18 (.fld (.t 17) 0 1 false),bZ 19 .eql 18 9,m1 20 19,B4 21 20 1,gT 22 20 (.nilck (.t 21)),Dv 23 20 22 0,Dr 24 20 23,gT 25 20 (.call 119 [.t 24]),pA 26 20 25] [0,1,2,3,26] (cD 26 (.seqr [m1 27 0,m1 28 2,o1 29 (.calls 115 [.t 27,.t 28])] [0,1,2,3]) nO)) Ag4
def AiP:IC:=rS [m1 9 1,m1 10 0,o1 11 (.calls 112 [.t 10]),o1 12 (.fld (.t 11) 1 1 false),q1 13 226 12,nC 14 9,fA 15 14 0,sT 15 13 1] [0,1,2,3] Ai6
def Afz:Cw:=⟨106,AiP,[]⟩
theorem Amy:Bz π 166 Afz=true:=by kernel_rfl
def Acx:IC:=rS [m1 24 0,o1 25 (.calls 114 [.t 24,ci 8])] [0,1,2,6,7] (.seqr [m1 26 0,m1 27 1,m1 28 2,o1 29 (.calls 166 [.t 26,.t 7,.t 27,.t 28])] [0,6,7])
def Akg:IC:=sQ (rS [m1 13 0,nC 14 13,fA 15 14 4,l1 16 15,bZ 17 .eql 16 0,m1 18 17,B4 19 18 0,gT 20 18 (.calls 112 [.t 19]),gT 21 18 (.fld (.t 20) 0 1 false),CH 22 18 .eql 21 8,pA 23 18 22] [0,1,2,6,7,23] (cD 23 Acx nO)) (rS [m1 30 0,o1 31 (.calls 114 [.t 30,ci 3])] [6,7] (rS [lA 32 7 6,sT 6 32 6] [6] .ret))
def Am5:IC:=rS [m1 10 0,o1 11 (.calls 165 [.t 10]),o1 12 (.build [.i .i64 0,.s [],.s [],.s [],.nil,.nil] [(0,1,ci 2),(2,1,.t 11)]),o1 7 (.alloc (.agg [.i .i64 0,.s [],.s [],.s [],.nil,.nil])),sT 7 12 6] [0,1,2,6,7] Akg
def Akt:IC:=rS [o1 6 (.alloc (.agg [.i .i64 0,.s [],.s [],.s [],.nil,.nil]))] [0,1,2,6] (rS [m1 8 0,o1 9 (.calls 114 [.t 8,ci 2])] [0,1,2,6] Am5)
def Ae9:Cw:=⟨33,Akt,[.c 6 6 true]⟩
theorem AkC:Bz π 116 Ae9=true:=by kernel_rfl
def AkM:IC:=.seqr [m1 34 7,m1 35 9,o1 36 (.build [.i .i64 0,.s [],.s [],.s [],.nil,.nil] [(0,1,ci 1),(1,1,.t 35)]),o1 37 (.msl true 116 6 [.t 36]),o1 38 (.app (.t 34) (.t 37) 116 6),m1 7 38] [0,1,2,7]
def Ag3:IC:=rS [m1 26 0,fA 27 8 0,l1 28 27,o1 29 (.calls 114 [.t 26,.t 28]),q1 30 113 29,m1 25 30,xT 31 25 0,xT 32 25 1,xT 33 25 2,m1 9 31,m1 10 32,m1 11 33] [0,1,2,7,9] AkM
def Aij:IC:=.seqr [m1 111 7,m1 112 0,m1 113 1,m1 114 2,o1 115 (.calls 116 [.t 112,.t 113,.t 114]),o1 116 (.msl true 116 6 [.t 115]),o1 117 (.app (.t 111) (.t 116) 116 6),m1 7 117] [0,1,2,7]
def AkA:IC:=rS [fA 70 8 0,l1 71 70,bZ 72 .eql 71 5,m1 69 72] [0,1,2,7,8,69] (cD 69 nO (rS [fA 108 8 0,l1 109 108,bZ 110 .eql 109 2,m1 107 110] [0,1,2,7,107] (cD 107 Aij (rS [m1 20 7,m1 6 20] [6] .ret))))
def AkI:IC:=rS [fA 40 8 0,l1 41 40,bZ 42 .eql 41 4,m1 43 42,B4 44 43 2,pA 45 43 44,m1 39 45] [0,1,2,7,8,39] (cD 39 nO (rS [fA 55 8 0,l1 56 55,bZ 57 .eql 56 7,m1 54 57] [0,1,2,7,8,54] (cD 54 nO AkA)))
def Akz:IC:=.block 1 (rS [m1 18 0,o1 19 (.calls 112 [.t 18]),o1 8 (.alloc (.agg [.i .i64 0,.s [],.i .i64 0,.i .i64 0])),sT 8 19 4] [0,1,2,7,8] (.block 2 (rS [fA 22 8 0,l1 23 22,bZ 24 .eql 23 1,m1 21 24] [0,1,2,7,8,21] (cD 21 Ag3 AkI))))
def Arl:IC:=rS [mC 7 .nil] [0,1,2,7] (sQ (.block 0 (.loop (sQ (rS [m1 13 0,nC 14 13,fA 15 14 4,l1 16 15,bZ 17 .eql 16 0] [0,1,2,7,17] (cD 17 .skip nO)) Akz))) nO)
def AoS:IC:=rS [mC 6 .nil] [0,1,2] Arl
def As5:Cw:=⟨118,AoS,[.t 6]⟩
theorem ApI:Bz π 74 As5=true:=by kernel_rfl
def Adf:IC:=sQ (.block 1 (sQ (rS [m1 11 0,m1 12 4,o1 13 (.idx (.t 11) (.t 12)),q1 14 164 13] [0,3,4,14] (cD 14 nO .skip)) (.seqr [m1 18 3,m1 19 0,m1 20 4,o1 21 (.idx (.t 19) (.t 20)),o1 22 (.msl true 5 1 [.t 21]),o1 23 (.app (.t 18) (.t 22) 5 1),m1 3 23] [0,3,4]))) (.seqr [m1 9 4,bZ 10 .add 9 1,m1 4 10] [0,3,4])
def Ajo:IC:=sQ (rS [mZ 4 0] [0,3,4] (.block 0 (.loop (sQ (rS [m1 5 4,m1 6 0,nS 7 6,bT 8 .lss 5 7] [0,3,4,8] (cD 8 .skip (.exit 0))) Adf)))) (rS [m1 24 3,o1 25 (.btos (.t 24)),m1 2 25] [2] .ret)
def AkO:IC:=rS [mC 2 (.s [])] [0] (rS [mC 3 .nil] [0,3] Ajo)
def AeH:Cw:=⟨26,AkO,[.t 2]⟩
theorem Aj1:Bz π 118 AeH=true:=by kernel_rfl
def AiR:IC:=sQ (.block 4 (.ops [m1 128 5,m1 129 1,fA 130 8 4,l1 131 130,m1 132 9,iA 133 131 132 118 2,fA 134 133 0,l1 135 134,bT 136 .add 129 135,m1 137 1,bT 138 .add 136 137,bC 139 .add 138 (.s [123]),fA 140 8 4,l1 141 140,m1 142 9,iA 143 141 142 118 2,fA 144 143 1,l1 145 144,m1 146 1,o1 147 (.callr 77 [.t 145,.t 146]),bT 148 .add 139 147,bC 149 .add 148 (.s [125]),bT 150 .add 128 149,m1 5 150] [0,1,5,6,7,8,9] [[2,3],[3,5],[4,5],[5,6],[6,7],[1,8],[7,8],[8,10],[9,10],[10,11],[12,13],[13,15],[14,15],[15,16],[16,17],[17,19],[18,19],[11,20],[19,20],[20,21],[0,22],[21,22],[0,23],[22,23]])) (.seqr [m1 126 9,bZ 127 .add 126 1,m1 9 127] [0,1,5,6,7,8,9])
def Ams:IC:=sQ (rS [mZ 9 0] [0,1,5,6,7,8,9] (.block 3 (.loop (sQ (rS [m1 121 9,fA 122 8 4,l1 123 122,nL 124 123,bT 125 .lss 121 124] [0,1,5,6,7,8,9,125] (cD 125 .skip (.exit 3))) AiR)))) (.seqr [m1 151 5,bC 152 .add 151 (.s [125]),m1 5 152] [0,1,5,6,7])
def Ahq:IC:=sQ (rS [fA 116 8 0,l1 117 116,q1 118 119 117] [0,1,5,6,7,8,118] (cD 118 (.seqr [m1 119 5,bC 120 .add 119 (.s [44]),m1 5 120] [0,1,5,6,7,8]) nO)) Ams
def AkF:IC:=sQ (.ops [m1 91 5,fA 92 8 2,l1 93 92,o1 94 (.bin .add (.c (.s [123])) (.t 93)),bC 95 .add 94 (.s [44]),m1 96 1,bT 97 .add 95 96,m1 98 6,fA 99 8 0,l1 100 99,bZ 101 .sub 100 3,iA 102 98 101 9 1,l1 103 102,bT 104 .add 97 103,bT 105 .add 91 104,m1 5 105] [0,1,5,6,7,8] [[1,2],[2,3],[3,4],[4,6],[5,6],[8,9],[9,10],[7,11],[10,11],[11,12],[6,13],[12,13],[0,14],[13,14],[0,15],[14,15]]) (sQ (rS [fA 106 8 3,l1 107 106,bC 108 .neq 107 (.s [])] [0,1,5,6,7,8,108] (cD 108 nO .skip)) Ahq)
def AiW:IC:=rS [fA 83 8 0,l1 84 83,bZ 85 .geq 84 3,m1 86 85,Dv 87 86 8 0,Dr 88 86 87,CH 89 86 .leq 88 9,pA 90 86 89,m1 82 90] [0,1,5,6,7,8,82] (cD 82 AkF nO)
def Ajx:IC:=rS [fA 53 8 0,l1 54 53,bZ 55 .eql 54 11,m1 52 55] [0,1,5,6,7,8,52] (cD 52 nO (rS [fA 73 8 0,l1 74 73,bZ 75 .eql 74 2,m1 72 75] [0,1,5,6,7,8,72] (cD 72 nO AiW)))
def Ame:IC:=rS [fA 37 8 0,l1 38 37,bZ 39 .eql 38 11,m1 40 39,Dv 41 40 8 5,Dr 42 40 41,gT 43 40 (.lenL (.t 42)),CH 44 40 .eql 43 0,pA 45 40 44,m1 36 45] [0,1,5,6,7,8,36] (cD 36 nO Ajx)
def Ajb:IC:=.block 2 (rS [fA 22 8 0,l1 23 22,bZ 24 .eql 23 1,m1 21 24] [0,1,5,6,7,8,21] (cD 21 (.seqr [m1 25 5,fA 26 8 1,l1 27 26,q1 28 118 27,bT 29 .add 25 28,m1 5 29] [0,1,5,6,7]) (rS [fA 31 8 0,l1 32 31,bZ 33 .eql 32 10,m1 30 33] [0,1,5,6,7,8,30] (cD 30 nO Ame))))
def AiL:IC:=sQ (.block 1 (rS [m1 17 0,m1 18 7,iA 19 17 18 116 6,lA 20 19 6,o1 8 (.alloc (.agg [.i .i64 0,.s [],.s [],.s [],.nil,.nil])),sT 8 20 6] [0,1,5,6,7,8] Ajb)) (.seqr [m1 15 7,bZ 16 .add 15 1,m1 7 16] [0,1,5,6,7])
def Aqu:IC:=sQ (rS [mZ 7 0] [0,1,5,6,7] (.block 0 (.loop (sQ (rS [m1 11 7,m1 12 0,nL 13 12,bT 14 .lss 11 13] [0,1,5,6,7,14] (cD 14 .skip (.exit 0))) AiL)))) (rS [m1 153 5,m1 4 153] [4] .ret)
def Apk:IC:=rS [o1 10 (.msl true 9 1 [.c (.s [110,117,109,98,101,114]),.c (.s [117,110,105,116]),.c (.s [100,97,116,101]),.c (.s [108,105,115,116]),.c (.s [112,108,117,114,97,108]),.c (.s [111,114,100,105,110,97,108]),.c (.s [115,101,108,101,99,116])]),m1 6 10] [0,1,5,6] Aqu
def ArN:IC:=rS [mC 4 (.s [])] [0,1] (rS [mC 5 (.s [])] [0,1,5] Apk)
def An1:Cw:=⟨154,ArN,[.t 4]⟩
theorem Ar3:Bz π 77 An1=true:=by kernel_rfl
def Ai3:IC:=sQ (rS [m1 69 11,o1 70 (.callr 77 [.t 69,.c (.s [32])]),nS 71 70,bZ 72 .gtr 71 4000] [5,11,72] (cD 72 nO .skip)) (rS [m1 74 11,o1 75 (.build [.i .i64 0,.i .i64 0,.i .i64 0] []),m1 4 74,sT 5 75 3,mZ 6 0] [4,5,6] .ret)
def Aik:IC:=sQ (rS [m1 35 10,nC 36 35,fA 37 36 4,l1 38 37,bZ 39 .eql 38 0,m1 40 39,B4 41 40 10,gT 42 40 (.nilck (.t 41)),Dv 43 40 42 0,Dr 44 40 43,gT 45 40 (.lenL (.t 44)),CH 46 40 .gtr 45 0,pA 47 40 46] [0,5,10,11,47] (cD 47 nO .skip)) (sQ (rS [m1 50 10,nC 51 50,fA 52 51 4,l1 53 52,bZ 54 .neq 53 0] [0,5,10,11,54] (cD 54 nO .skip)) Ai3)
def AhN:IC:=rS [m1 25 7,m1 26 0,nS 27 26,m1 28 8,m1 29 9,o1 30 (.build [.nil,.i .i64 0,.nil,.i .i64 0,.i .i64 0] [(0,1,.t 25),(1,1,.t 27),(3,1,.t 28),(4,1,.t 29)]),bX 31 30,m1 10 31] [0,1,5,10] (rS [m1 32 10,m1 33 1,o1 34 (.calls 74 [.t 32,ci 1,.t 33]),m1 11 34] [0,5,10,11] Aik)
def AnY:IC:=rS [m1 15 0,q1 16 73 15,m1 14 16,xT 17 14 0,xT 18 14 1,xT 19 14 2,m1 7 17,m1 8 18,m1 9 19] [0,1,5,7,8,9] (sQ (rS [m1 20 9,bZ 21 .eql 20 6] [0,1,5,7,8,9,21] (cD 21 nO .skip)) AhN)
def AsW:IC:=rS [mC 4 .nil,o1 5 (.alloc (.agg [.i .i64 0,.i .i64 0,.i .i64 0])),mZ 6 0] [0,1,5] AnY
def Arc:Cw:=⟨76,AsW,[.t 4,.c 5 3 true,.t 6]⟩
theorem AsK:Bz π 46 Arc=true:=by kernel_rfl
def Aqc:IC:=rS [mC 2 .nil,o1 3 (.alloc (.agg [.i .i64 0,.i .i64 0,.i .i64 0])),mZ 4 0] [0,3] (rS [m1 5 0,o1 6 (.call 46 [.t 5,.c (.b false)]),xT 7 6 0,xT 8 6 1,xT 9 6 2,m1 2 7,sT 3 8 3,m1 4 9] [2,3,4] .ret)
def AnJ:Cw:=⟨10,Aqc,[.t 2,.c 3 3 true,.t 4]⟩
theorem Asg:Bz π 27 AnJ=true:=by kernel_rfl
def ApT:IC:=rS [m1 3 0,bC 4 .geq 3 (.i .u8 97),m1 5 4,B4 6 5 0,gT 7 5 (.bin .leq (.t 6) (.c (.i .u8 122))),pA 8 5 7,m1 9 8,Br 10 9 0,gF 11 9 (.bin .geq (.t 10) (.c (.i .u8 65))),Br 12 9 11,B4 13 12 0,gT 14 12 (.bin .leq (.t 13) (.c (.i .u8 90))),gF 15 9 (.pick (.t 12) (.t 14) (.c (.b false))),pO 16 9 15,m1 17 16,Br 18 17 0,gF 19 17 (.bin .geq (.t 18) (.c (.i .u8 48))),Br 20 17 19,B4 21 20 0,gT 22 20 (.bin .leq (.t 21) (.c (.i .u8 57))),gF 23 17 (.pick (.t 20) (.t 22) (.c (.b false))),pO 24 17 23,m1 2 24] [2] .ret
def AoJ:IC:=rS [mC 2 (.b false)] [0] ApT
def Aq5:Cw:=⟨25,AoJ,[.t 2]⟩
theorem Asf:Bz π 97 Aq5=true:=by kernel_rfl
def AlX:IC:=rS [m1 26 0,m1 27 3,o1 28 (.idx (.t 26) (.t 27)),q1 29 97 28,nT 30 29,m1 31 30,B4 32 31 0,B4 33 31 3,gT 34 31 (.idx (.t 32) (.t 33)),gT 35 31 (.bin .neq (.t 34) (.c (.i .u8 95))),pA 36 31 35,m1 37 36,B4 38 37 0,B4 39 37 3,gT 40 37 (.idx (.t 38) (.t 39)),gT 41 37 (.bin .neq (.t 40) (.c (.i .u8 45))),pA 42 37 41] [0,22,23,42] (cD 42 nO .skip)
def Amz:IC:=rS [bT 24 .lss 23 22] [0,22,23,24] (sQ (cD 24 .skip (.exit 0)) (sQ (.block 1 (rS [m1 25 23,m1 3 25] [0,3,22,23] AlX)) (.seqr [bZ 43 .add 23 1,m1 23 43] [0,22,23])))
def Asj:IC:=sQ (rS [m1 4 0,bC 5 .eql 4 (.s []),m1 6 5,Br 7 6 0,gF 8 6 (.lenS (.t 7)),Dw 9 6 .gtr 8 40,pO 10 6 9,m1 11 10,Br 12 11 0,gF 13 11 (.idx (.t 12) (ci 0)),gF 14 11 (.bin .lss (.t 13) (.c (.i .u8 97))),pO 15 11 14,m1 16 15,Br 17 16 0,gF 18 16 (.idx (.t 17) (ci 0)),gF 19 16 (.bin .gtr (.t 18) (.c (.i .u8 122))),pO 20 16 19] [0,20] (cD 20 nO .skip)) (sQ (rS [m1 21 0,nS 22 21,mZ 23 0] [0,22,23] (.block 0 (.loop Amz))) (rS [mC 2 (.b true)] [2] .ret))
def AqR:IC:=rS [mC 2 (.b false)] [0] Asj
def Ape:Cw:=⟨44,AqR,[.t 2]⟩
theorem Apr:Bz π 62 Ape=true:=by kernel_rfl
def Aov:IC:=rS [mC 2 (.b false)] [0] (rS [m1 3 0,bZ 4 .geq 3 7,m1 5 4,B4 6 5 0,CH 7 5 .leq 6 9,pA 8 5 7,m1 2 8] [2] .ret)
def Anm:Cw:=⟨9,Aov,[.t 2]⟩
theorem AoV:Bz π 79 Anm=true:=by kernel_rfl
def Ab3:IC:=sQ (rS [bZ 19 .eql 9 2,m1 18 19] [1,3,4,9,18] (cD 18 nO (rS [bZ 20 .eql 9 11,m1 18 20] [1,3,4,9,18] (cD 18 nO (rS [bZ 21 .eql 9 7,m1 18 21] [1,3,4,9,18] (cD 18 .skip nO)))))) (cD 18 (.seqr [fA 24 1 2,l1 25 24,fA 26 3 2,sT 26 25 1] [1,3,4]) nO)
def AgA:IC:=.block 0 (rS [bZ 11 .eql 9 1,m1 10 11] [1,3,4,9,10] (cD 10 (rS [fA 12 1 1,l1 13 12,fA 14 3 1,sT 14 13 1] [1,3] (.seqr [fA 15 1 1,l1 16 15,bC 17 .neq 16 (.s []),m1 4 17] [1,3,4])) Ab3))
def AcC:IC:=rS [m1 92 4,m1 93 92,Dv 94 93 1 1,Dr 95 93 94,Dv 96 93 3 1,Dr 97 93 96,gT 98 93 (.bin .eql (.t 95) (.t 97)),pA 99 93 98,m1 100 99,Dv 101 100 1 2,Dr 102 100 101,Dv 103 100 3 2,Dr 104 100 103,gT 105 100 (.bin .eql (.t 102) (.t 104)),pA 106 100 105,m1 107 106,Dv 108 107 1 3,Dr 109 107 108,Dv 110 107 3 3,Dr 111 107 110,gT 112 107 (.bin .eql (.t 109) (.t 111)),pA 113 107 112,m1 114 113,Dv 115 114 1 4,Dr 116 114 115,gT 117 114 (.lenL (.t 116)),CH 118 114 .eql 117 0,B4 119 114 118,DA 120 119 1 0,Du 121 119 120,gF 122 119 (.call 79 [.t 121]),gT 123 114 (.pick (.t 119) (.c (.b true)) (.t 122)),pA 124 114 123,m1 125 124,Dv 126 125 1 5,Dr 127 125 126,gT 128 125 (.lenL (.t 127)),CH 129 125 .eql 128 0,B4 130 125 129,DA 131 130 1 0,Du 132 130 131,Dw 133 130 .eql 132 11,gT 134 125 (.pick (.t 130) (.c (.b true)) (.t 133)),pA 135 125 134,m1 2 135] [2] .ret
def Adm:IC:=sQ (rS [fA 73 3 2,l1 74 73,bC 75 .neq 74 (.s []),m1 76 75,DA 77 76 1 0,Du 78 76 77,Dw 79 76 .neq 78 1,Br 80 76 79,Dv 81 80 1 0,Dr 82 80 81,CH 83 80 .neq 82 10,gF 84 76 (.pick (.t 80) (.t 83) (.c (.b false))),pO 85 76 84] [1,3,4,85] (cD 85 (.seqr [m1 86 4,m1 87 86,Dv 88 87 1 2,Dr 89 87 88,gT 90 87 (.call 62 [.t 89]),pA 91 87 90,m1 4 91] [1,3,4]) .skip)) AcC
def AlY:IC:=rS [fA 5 1 0,l1 6 5,o1 7 (.build [.i .i64 0,.s [],.s [],.s [],.nil,.nil] [(0,1,.t 6)]),o1 3 (.alloc (.agg [.i .i64 0,.s [],.s [],.s [],.nil,.nil])),sT 3 7 6] [1,3] (rS [mC 4 (.b true)] [1,3,4] (sQ (rS [fA 8 1 0,l1 9 8] [1,3,4,9] AgA) Adm))
def AhW:IC:=rS [bX 1 0,mC 2 (.b false)] [1] AlY
def Ad2:Cw:=⟨136,AhW,[.t 2]⟩
theorem AhU:Bz π 131 Ad2=true:=by kernel_rfl
def AbW:IC:=cD 4 nO (rS [bC 8 .eql 3 (.s [102,101,119]),m1 4 8] [3,4] (cD 4 nO (rS [bC 9 .eql 3 (.s [109,97,110,121]),m1 4 9] [3,4] (cD 4 nO (.seqr [bC 10 .eql 3 (.s [111,116,104,101,114]),m1 4 10] [4])))))
def Ahe:IC:=.block 0 (sQ (rS [bC 5 .eql 3 (.s [122,101,114,111]),m1 4 5] [3,4] (cD 4 nO (rS [bC 6 .eql 3 (.s [111,110,101]),m1 4 6] [3,4] (cD 4 nO (rS [bC 7 .eql 3 (.s [116,119,111]),m1 4 7] [3,4] AbW))))) (cD 4 (rS [mC 2 (.b true)] [2] .ret) .skip))
def Al9:IC:=rS [mC 2 (.b false)] [0] (sQ (rS [m1 3 0] [3] Ahe) (rS [mC 2 (.b false)] [2] .ret))
def AfG:Cw:=⟨11,Al9,[.t 2]⟩
theorem Ail:Bz π 242 AfG=true:=by kernel_rfl
def Amt:IC:=sQ (rS [m1 8 0,m1 9 1,q2 10 244 8 9,m1 7 10] [0,1,7] (rS [m1 11 7,bZ 12 .geq 11 0] [0,1,7,12] (cD 12 nO .skip))) (rS [m1 22 0,m1 4 22,mC 5 (.s []),mC 6 (.b false)] [4,5,6] .ret)
def Alf:IC:=rS [mC 4 (.s []),mC 5 (.s []),mC 6 (.b false)] [0,1] Amt
def AfC:Cw:=⟨23,Alf,[.t 4,.t 5,.t 6]⟩
theorem AiY:Bz π 189 AfC=true:=by kernel_rfl
def Ag2:IC:=rS [mC 4 (.s []),mC 5 (.s []),mC 6 (.b false)] [0,1] (rS [m1 7 0,m1 8 1,q2 9 189 7 8,xT 10 9 0,xT 11 9 1,xT 12 9 2,m1 4 10,m1 5 11,m1 6 12] [4,5,6] .ret)
def Afh:Cw:=⟨13,Ag2,[.t 4,.t 5,.t 6]⟩
theorem Ahg:Bz π 136 Afh=true:=by kernel_rfl
def Aio:IC:=rS [mC 2 (.b false)] [0] (rS [m1 3 0,o1 4 (.call 190 [.t 3,.c (.s [48,49,50,51,52,53,54,55,56,57])]),bC 5 .eql 4 (.s []),m1 2 5] [2] .ret)
def AfN:Cw:=⟨6,Aio,[.t 2]⟩
theorem Ai0:Bz π 137 AfN=true:=by kernel_rfl
def Ah5:IC:=rS [m1 51 8,m1 52 51,B4 53 52 7,gT 54 52 (.lenS (.t 53)),CH 55 52 .eql 54 0,pA 56 52 55,m1 57 56,Br 58 57 7,gF 59 57 (.lenS (.t 58)),Dw 60 57 .gtr 59 6,pO 61 57 60,m1 62 61,Br 63 62 7,gF 64 62 (.call 137 [.t 63]),gF 65 62 (.not (.t 64)),pO 66 62 65,m1 50 66] [2,5,9,50] (cD 50 nO .skip)
def AgP:IC:=sQ (.ops [lA 68 9 3,m1 69 5,nT 70 69,m1 71 70,gF 72 71 (.load (.t 9) 3 true),gF 73 71 (.call 138 [.t 72]),gF 74 71 (.not (.t 73)),pO 75 71 74,sT 2 68 3,m1 3 75] [2,3] [[1,2],[2,3],[3,4],[3,5],[4,5],[3,6],[5,6],[3,7],[6,7],[0,8],[4,5,8],[7,9]]) .ret
def AqJ:IC:=sQ (.block 0 (rS [m1 26 6,nS 27 26,bZ 28 .lss 27 1,m1 29 28,Br 30 29 6,gF 31 29 (.lenS (.t 30)),Dw 32 29 .gtr 31 15,pO 33 29 32,m1 34 33,Br 35 34 6,gF 36 34 (.call 137 [.t 35]),gF 37 34 (.not (.t 36)),pO 38 34 37,m1 39 38,Br 40 39 6,gF 41 39 (.lenS (.t 40)),Dw 42 39 .gtr 41 1,Br 43 39 42,B4 44 43 6,gT 45 43 (.idx (.t 44) (ci 0)),gT 46 43 (.bin .eql (.t 45) (.c (.i .u8 48))),gF 47 39 (.pick (.t 43) (.t 46) (.c (.b false))),pO 48 39 47,m1 25 48] [2,5,7,8,9,25] (cD 25 nO Ah5))) AgP
def Ass:IC:=rS [m1 21 5,m1 22 6,m1 23 7,o1 24 (.build [.b false,.s [],.s []] [(0,1,.t 21),(1,1,.t 22),(2,1,.t 23)]),o1 9 (.alloc (.agg [.b false,.s [],.s []])),sT 9 24 3] [2,5,6,7,8,9] AqJ
def ApD:IC:=rS [m1 11 0,o1 12 (.call 135 [.t 11,.c (.s [45])]),m1 10 12,xT 13 10 0,xT 14 10 1,m1 4 13,m1 5 14] [2,4,5] (rS [m1 16 4,o1 17 (.call 136 [.t 16,.c (.s [46])]),m1 15 17,xT 18 15 0,xT 19 15 1,xT 20 15 2,m1 6 18,m1 7 19,m1 8 20] [2,5,6,7,8] Ass)
def Aqj:IC:=rS [o1 2 (.alloc (.agg [.b false,.s [],.s []])),mC 3 (.b false)] [0,2] ApD
def ArX:Cw:=⟨76,Aqj,[.c 2 3 true,.t 3]⟩
theorem Asa:Bz π 98 ArX=true:=by kernel_rfl
def AnF:IC:=rS [m1 6 0,q1 7 98 6,m1 5 7,xT 8 5 0,xT 9 5 1,o1 3 (.alloc (.agg [.b false,.s [],.s []])),sT 3 8 3,m1 4 9] [4] (rS [m1 10 4,m1 2 10] [2] .ret)
def AqP:IC:=rS [mC 2 (.b false)] [0] AnF
def AsS:Cw:=⟨11,AqP,[.t 2]⟩
theorem AnH:Bz π 67 AsS=true:=by kernel_rfl
def AbE:IC:=rS [m1 16 1,q1 17 242 16,m1 18 17,Br 19 18 6,Br 20 18 19,B4 21 20 5,gT 22 20 (.call 67 [.t 21]),gF 23 18 (.pick (.t 20) (.t 22) (.c (.b false))),pO 24 18 23,m1 4 24] [4] .ret
def Ahb:IC:=sQ (rS [m1 7 0,bZ 8 .eql 7 9] [1,8] (cD 8 nO .skip)) (rS [m1 12 1,o1 13 (.call 135 [.t 12,.c (.s [61])]),m1 11 13,xT 14 11 0,xT 15 11 1,m1 5 14,m1 6 15] [1,5,6] AbE)
def Aj9:IC:=rS [mC 4 (.b false)] [0,1] Ahb
def Afp:Cw:=⟨25,Aj9,[.t 4]⟩
theorem Am7:Bz π 185 Afp=true:=by kernel_rfl
def yZ:IC:=sQ (rS [fA 20 5 0,l1 21 20,fA 22 11 0,l1 23 22,q2 24 185 21 23,nT 25 24,m1 26 25,Br 27 26 9,DA 28 26 11 0,Du 29 26 28,gF 30 26 (.rdm (.mget .str (.b false) false) (.t 27) [.t 29]),pO 31 26 30,m1 32 31,gF 33 32 (.load (.t 4) 1 true),DA 34 32 11 1,Du 35 32 34,Br 36 32 2,Br 37 32 3,Br 38 32 37,DA 39 38 5 0,Du 40 38 39,Dw 41 38 .neq 40 9,gF 42 32 (.pick (.t 38) (.c (.b true)) (.t 41)),gF 43 32 (.calls 95 [.t 33,.t 35,.t 36,.t 42]),gF 44 32 (.not (.t 43)),pO 45 32 44] [2,3,4,5,9,11,14,15,16,45] (cD 45 nO .skip)) (.seqr [m1 46 9,fA 47 11 0,l1 48 47,o0 (.wrm (.mput .str) (.t 46) [.t 48,.c (.b true)])] [2,3,4,5,9,14,15,16])
def Aag:IC:=sQ (.block 1 (rS [iA 18 14 16 118 2,lA 19 18 2,o1 11 (.alloc (.agg [.s [],.nil])),sT 11 19 2] [2,3,4,5,9,11,14,15,16] yZ)) (.seqr [bZ 49 .add 16 1,m1 16 49] [2,3,4,5,9,14,15,16])
def AbH:IC:=rS [fA 50 5 4,l1 51 50,nL 52 51,bZ 53 .leq 52 20,m1 54 53,B4 55 54 9,gT 56 54 (.rdm (.mget .str (.b false) false) (.t 55) [.c (.s [111,116,104,101,114])]),pA 57 54 56,m1 8 57] [8] .ret
def Ajw:IC:=sQ (rS [fA 13 5 4,l1 14 13,nL 15 14,mZ 16 0] [2,3,4,5,9,14,15,16] (.block 0 (.loop (rS [bT 17 .lss 16 15] [2,3,4,5,9,14,15,16,17] (sQ (cD 17 .skip (.exit 0)) Aag))))) AbH
def Akc:IC:=rS [bX 4 0,bX 5 1,mC 8 (.b false)] [2,3,4,5] (rS [o1 12 (.mkm .mkmap []),m1 9 12] [2,3,4,5,9] Ajw)
def AdI:Cw:=⟨58,Akc,[.t 8]⟩
theorem Ak3:Bz π 132 AdI=true:=by kernel_rfl
def Ahy:IC:=rS [fA 81 10 0,l1 82 81,bZ 83 .neq 82 11,m1 84 83,Dv 85 84 10 2,Dr 86 84 85,gT 87 84 (.bin .neq (.t 86) (.c (.s []))),pA 88 84 87] [1,2,3,4,10,11,12,13,88] (cD 88 (.seqr [fA 89 4 0,l1 90 89,fA 91 10 2,l1 92 91,o0 (.wrm (.mput .str) (.t 90) [.t 92,.c (.b true)])] [1,2,3,4,11,12,13]) .skip)
def AhG:IC:=sQ (rS [fA 65 10 0,l1 66 65,q1 67 79 66,m1 68 67,B4 69 68 2,CH 70 68 .geq 69 8,B4 71 68 70,gF 72 71 (.load (.t 4) 1 true),gF 73 71 (.load (.t 10) 6 true),Br 74 71 2,Dw 75 71 .add 74 1,Br 76 71 3,gF 77 71 (.calls 132 [.t 72,.t 73,.t 75,.t 76]),gF 78 71 (.not (.t 77)),gT 79 68 (.pick (.t 71) (.c (.b true)) (.t 78)),pA 80 68 79] [1,2,3,4,10,11,12,13,80] (cD 80 nO .skip)) Ahy
def Ah8:IC:=sQ (rS [fA 48 10 0,l1 49 48,bZ 50 .eql 49 11,m1 51 50,B4 52 51 2,CH 53 51 .geq 52 8,B4 54 51 53,gF 55 54 (.load (.t 4) 1 true),DA 56 54 10 5,Du 57 54 56,Br 58 54 2,Dw 59 54 .add 58 1,Br 60 54 3,gF 61 54 (.calls 95 [.t 55,.t 57,.t 59,.t 60]),gF 62 54 (.not (.t 61)),gT 63 51 (.pick (.t 54) (.c (.b true)) (.t 62)),pA 64 51 63] [1,2,3,4,10,11,12,13,64] (cD 64 nO .skip)) AhG
def AkE:IC:=sQ (rS [lA 18 10 6,o1 19 (.callr 131 [.t 18]),nT 20 19,m1 21 20,DA 22 21 10 0,Du 23 21 22,Dw 24 21 .eql 23 10,Br 25 21 24,B4 26 25 3,gT 27 25 (.not (.t 26)),gF 28 21 (.pick (.t 25) (.t 27) (.c (.b false))),pO 29 21 28,m1 30 29,Br 31 30 9,Dw 32 30 .gtr 31 0,Br 33 30 32,Dv 34 33 10 0,Dr 35 33 34,CH 36 33 .eql 35 1,gF 37 30 (.pick (.t 33) (.t 36) (.c (.b false))),Br 38 30 37,B4 39 38 1,B4 40 38 9,CH 41 38 .sub 40 1,gT 42 38 (.iaddr (.t 39) (.t 41) 116 6),Dv 43 38 42 0,Dr 44 38 43,CH 45 38 .eql 44 1,gF 46 30 (.pick (.t 38) (.t 45) (.c (.b false))),pO 47 30 46] [1,2,3,4,10,11,12,13,47] (cD 47 nO .skip)) Ah8
def Ajt:IC:=sQ (.block 1 (rS [m1 15 13,iA 16 11 13 116 6,lA 17 16 6,o1 10 (.alloc (.agg [.i .i64 0,.s [],.s [],.s [],.nil,.nil])),m1 9 15,sT 10 17 6] [1,2,3,4,9,10,11,12,13] AkE)) (.seqr [bZ 93 .add 13 1,m1 13 93] [1,2,3,4,11,12,13])
def AoD:IC:=sQ (rS [m1 11 1,nL 12 11,mZ 13 0] [1,2,3,4,11,12,13] (.block 0 (.loop (rS [bT 14 .lss 13 12] [1,2,3,4,11,12,13,14] (sQ (cD 14 .skip (.exit 0)) Ajt))))) (rS [mC 8 (.b true)] [8] .ret)
def AnE:IC:=rS [bX 4 0,mC 8 (.b false)] [1,2,3,4] AoD
def Apv:Cw:=⟨94,AnE,[.t 8]⟩
theorem Ars:Bz π 95 Apv=true:=by kernel_rfl
def AnK:IC:=rS [lA 8 5 1,m1 9 0,m1 10 1,o1 11 (.calls 95 [.t 8,.t 9,ci 0,.t 10]),m1 12 11,Dv 13 12 5 0,Dr 14 12 13,gT 15 12 (.rdm .mlen (.t 14) []),CH 16 12 .leq 15 20,pA 17 12 16,m1 18 17,B4 19 18 0,gT 20 18 (.callr 96 [.t 19]),CH 21 18 .leq 20 4000,pA 22 18 21,m1 4 22] [4] .ret
def AoE:IC:=rS [mC 4 (.b false)] [0,1] (rS [o1 6 (.mkm .mkmap []),o1 7 (.build [.nm] [(0,1,.t 6)]),o1 5 (.alloc (.agg [.nm])),sT 5 7 1] [0,1,5] AnK)
def Aof:Cw:=⟨23,AoE,[.t 4]⟩
theorem Arb:Bz π 59 Aof=true:=by kernel_rfl
def Ap5:IC:=rS [mC 2 (.b false)] [0] (rS [m1 3 0,o1 4 (.callr 59 [.t 3,.c (.b false)]),m1 2 4] [2] .ret)
def Ao5:Cw:=⟨5,Ap5,[.t 2]⟩
theorem Aqn:Bz π 35 Ao5=true:=by kernel_rfl
def AqW:IC:=sQ (.ops [m1 5 0,m1 6 0,nC 7 6,fA 8 7 0,fA 9 8 1,l1 10 9,lA 11 3 4,o1 12 (.msl true 54 4 [.t 11]),o1 13 (.app (.t 10) (.t 12) 54 4),nC 14 5,fA 15 14 0,fA 16 15 1,sT 16 13 1] [0] [[1,2],[2,3],[3,4],[4,5],[6,7],[5,8],[6,7,8],[7,8],[0,9],[9,10],[10,11],[5,12],[6,12],[8,12],[11,12]]) (rS [m1 17 0,nC 18 17,fA 19 18 0,fA 20 19 1,l1 21 20,nL 22 21,bZ 23 .sub 22 1,m1 4 23] [4] .ret)
def Ard:IC:=rS [bX 3 1,mZ 4 0] [0,3] AqW
def AnB:Cw:=⟨24,Ard,[.t 4]⟩
theorem ArD:Bz π 48 AnB=true:=by kernel_rfl
def AlV:IC:=sQ (rS [m1 6 0,nL 7 6,mZ 8 0] [0,1,7,8] (.block 0 (.loop (rS [bT 9 .lss 8 7] [0,1,7,8,9] (sQ (cD 9 nO (.exit 0)) nO))))) (rS [mZ 4 (-1)] [4] .ret)
def AiI:IC:=rS [mZ 4 0] [0,1] AlV
def Aeq:Cw:=⟨19,AiI,[.t 4]⟩
theorem Ahd:Bz π 120 Aeq=true:=by kernel_rfl
def Ahk:IC:=.seqr [m1 21 0,m1 22 0,nC 23 22,fA 24 23 0,fA 25 24 0,l1 26 25,m1 27 1,o1 28 (.msl true 9 1 [.t 27]),o1 29 (.app (.t 26) (.t 28) 9 1),nC 30 21,fA 31 30 0,fA 32 31 0,sT 32 29 1] [5]
def ApY:IC:=sQ (rS [m1 13 5,bZ 14 .lss 13 0] [0,1,5,14] (cD 14 (rS [m1 15 0,nC 16 15,fA 17 16 0,fA 18 17 0,l1 19 18,nL 20 19,m1 5 20] [0,1,5] Ahk) nO)) (rS [m1 33 5,m1 4 33] [4] .ret)
def Ani:IC:=rS [mZ 4 0] [0,1] (rS [m1 6 0,nC 7 6,fA 8 7 0,fA 9 8 0,l1 10 9,m1 11 1,o1 12 (.callr 120 [.t 10,.t 11]),m1 5 12] [0,1,5] ApY)
def ArB:Cw:=⟨34,Ani,[.t 4]⟩
theorem ApM:Bz π 78 ArB=true:=by kernel_rfl
def Aih:IC:=.seqr [m1 41 0,fA 42 8 0,l1 43 42,o1 44 (.build [.i .i64 0,.i .i64 0,.i .i64 0,.s []] [(0,1,ci 11),(3,1,.t 43)]),o1 45 (.calls 48 [.t 41,.t 44])] [0,2,4,6,35,36,37]
def Amr:IC:=sQ (.block 1 (rS [iA 39 35 37 118 2,lA 40 39 2,o1 8 (.alloc (.agg [.s [],.nil])),sT 8 40 2] [0,2,4,6,8,35,36,37] Aih)) (.seqr [bZ 46 .add 37 1,m1 37 46] [0,2,4,6,35,36,37])
def AiN:IC:=.seqr [m1 76 9,m1 77 0,o1 78 (.build [.i .i64 0,.i .i64 0,.i .i64 0,.s []] [(0,1,ci 12)]),o1 79 (.calls 48 [.t 77,.t 78]),o1 80 (.msl true 3 1 [.t 79]),o1 81 (.app (.t 76) (.t 80) 3 1),m1 9 81] [0,2,6,9,48,49,50]
def Aj6:IC:=sQ (.ops [m1 55 0,nC 56 55,fA 57 56 0,fA 58 57 1,l1 59 58,m1 60 6,m1 61 10,bT 62 .add 60 61,m1 63 0,nC 64 63,fA 65 64 0,fA 66 65 1,l1 67 66,nL 68 67,iA 69 59 62 54 4,fA 70 69 1,sT 70 68 1] [0,2,6,9,11,48,49,50] [[0,1],[1,2],[2,3],[3,4],[5,7],[6,7],[8,9],[9,10],[10,11],[11,12],[12,13],[4,14],[7,14],[14,15],[4,16],[12,16],[13,16],[14,15,16],[15,16]]) (rS [m1 71 0,fA 72 11 1,l1 73 72,m1 74 2,o1 75 (.calls 47 [.t 71,.t 73,.t 74])] [0,2,6,9,48,49,50] AiN)
def Amu:IC:=sQ (.block 3 (rS [m1 52 50,iA 53 48 50 118 2,lA 54 53 2,o1 11 (.alloc (.agg [.s [],.nil])),m1 10 52,sT 11 54 2] [0,2,6,9,10,11,48,49,50] Aj6)) (.seqr [bZ 82 .add 50 1,m1 50 82] [0,2,6,9,48,49,50])
def Akj:IC:=.ops [m1 89 0,nC 90 89,fA 91 90 0,fA 92 91 1,l1 93 92,m1 94 13,m1 95 0,nC 96 95,fA 97 96 0,fA 98 97 1,l1 99 98,nL 100 99,iA 101 93 94 54 4,fA 102 101 1,sT 102 100 1] [0,83,84,85] [[0,1],[1,2],[2,3],[3,4],[6,7],[7,8],[8,9],[9,10],[10,11],[4,12],[5,12],[12,13],[4,14],[10,14],[11,14],[12,13,14],[13,14]]
def Amj:IC:=rS [bT 86 .lss 85 84] [0,83,84,85,86] (sQ (cD 86 .skip (.exit 4)) (sQ (.block 5 (rS [iA 87 83 85 3 1,l1 88 87,m1 13 88] [0,13,83,84,85] Akj)) (.seqr [bZ 103 .add 85 1,m1 85 103] [0,83,84,85])))
def AiE:IC:=sQ (rS [fA 47 4 4,l1 48 47,nL 49 48,mZ 50 0] [0,2,6,9,48,49,50] (.block 2 (.loop (rS [bT 51 .lss 50 49] [0,2,6,9,48,49,50,51] (sQ (cD 51 .skip (.exit 2)) Amu))))) (rS [m1 83 9,nL 84 83,mZ 85 0] [0,83,84,85] (.block 4 (.loop Amj)))
def Ai5:IC:=sQ (rS [fA 34 4 4,l1 35 34,nL 36 35,mZ 37 0] [0,2,4,6,35,36,37] (.block 0 (.loop (rS [bT 38 .lss 37 36] [0,2,4,6,35,36,37,38] (sQ (cD 38 .skip (.exit 0)) Amr))))) (rS [mC 9 .nil] [0,2,4,6,9] AiE)
def Arr:IC:=sQ (.anyr [m1 19 0,m1 20 0,fA 21 4 2,l1 22 21,o1 23 (.calls 78 [.t 20,.t 22]),fA 24 4 0,l1 25 24,o1 26 (.build [.i .i64 0,.i .i64 0,.i .i64 0,.s []] [(0,1,ci 10),(1,1,.t 23),(2,1,.t 25)]),o1 27 (.calls 48 [.t 19,.t 26])] [0,2,4] [[],[],[],[2],[1,3],[],[5],[4,6],[0,4,7]]) (rS [m1 28 0,nC 29 28,fA 30 29 0,fA 31 30 1,l1 32 31,nL 33 32,m1 6 33] [0,2,4,6] Ai5)
def Asz:IC:=rS [bX 4 1] [0,2,4] (sQ (rS [fA 14 4 0,l1 15 14,bZ 16 .neq 15 9] [0,2,4,16] (cD 16 (.seqr [fA 17 4 2,l1 18 17,m1 2 18] [0,2,4]) nO)) Arr)
def AsX:Cw:=⟨104,Asz,[]⟩
theorem Ar1:Bz π 80 AsX=true:=by kernel_rfl
def AlN:IC:=.seqr [m1 30 0,fA 31 7 1,l1 32 31,o1 33 (.build [.i .i64 0,.i .i64 0,.i .i64 0,.s []] [(0,1,ci 1),(3,1,.t 32)]),o1 34 (.calls 48 [.t 30,.t 33])] [0,2,8,9,10]
def Akp:IC:=rS [fA 80 7 0,l1 81 80,q1 82 79 81,m1 79 82] [0,2,7,8,9,10,79] (cD 79 (.seqr [m1 83 0,lA 84 7 6,m1 85 2,o1 86 (.calls 80 [.t 83,.t 84,.t 85])] [0,2,8,9,10]) nO)
def Ahr:IC:=rS [fA 46 7 0,l1 47 46,bZ 48 .eql 47 11,m1 49 48,Dv 50 49 7 5,Dr 51 49 50,gT 52 49 (.lenL (.t 51)),CH 53 49 .eql 52 0,pA 54 49 53,m1 45 54] [0,2,7,8,9,10,45] (cD 45 nO (rS [fA 61 7 0,l1 62 61,bZ 63 .eql 62 11,m1 60 63] [0,2,7,8,9,10,60] (cD 60 nO Akp)))
def AjZ:IC:=.block 2 (rS [fA 27 7 0,l1 28 27,bZ 29 .eql 28 1,m1 26 29] [0,2,7,8,9,10,26] (cD 26 AlN (rS [fA 36 7 0,l1 37 36,bZ 38 .eql 37 10,m1 35 38] [0,2,7,8,9,10,35] (cD 35 nO Ahr))))
def Aot:IC:=sQ (.block 1 (rS [iA 12 8 10 116 6,lA 13 12 6,o1 7 (.alloc (.agg [.i .i64 0,.s [],.s [],.s [],.nil,.nil])),sT 7 13 6] [0,2,7,8,9,10] AjZ)) (.seqr [bZ 87 .add 10 1,m1 10 87] [0,2,8,9,10])
def Ana:IC:=rS [m1 8 1,nL 9 8,mZ 10 0] [0,2,8,9,10] (.block 0 (.loop (rS [bT 11 .lss 10 9] [0,2,8,9,10,11] (sQ (cD 11 .skip (.exit 0)) Aot))))
def Aoj:Cw:=⟨88,Ana,[]⟩
theorem As2:Bz π 47 Aoj=true:=by kernel_rfl
def AkK:IC:=rS [m1 14 4,o1 15 (.build [.i .i64 0,.i .i64 0,.i .i64 0,.s []] [(0,1,ci 13)]),o1 16 (.calls 48 [.t 14,.t 15])] [2,4] (rS [m1 17 4,nC 18 17,fA 19 18 0,lA 20 19 2,sT 2 20 2,mZ 3 0] [2,3] .ret)
def AsH:IC:=sQ (rS [m1 5 0,o1 6 (.callr 35 [.t 5]),nT 7 6] [0,2,7] (cD 7 nO .skip)) (rS [o1 9 (.build [.nil,.nil] []),bX 10 9,m1 4 10] [0,2,4] (rS [m1 11 4,m1 12 0,o1 13 (.calls 47 [.t 11,.t 12,.c (.s [])])] [2,4] AkK))
def Asx:IC:=rS [o1 2 (.alloc (.agg [.nil,.nil])),mZ 3 0] [0,2] AsH
def AoK:Cw:=⟨21,Asx,[.c 2 2 true,.t 3]⟩
theorem Aq0:Bz π 28 AoK=true:=by kernel_rfl
def Am4:IC:=sQ (.block 1 (sQ (.ops [m1 17 0,m1 18 5,iA 19 17 18 3 1,l1 20 19,m1 21 1,m1 22 5,iA 23 21 22 3 1,l1 24 23,bT 25 .neq 20 24] [0,1,5,25] [[0,2],[1,2],[2,3],[4,6],[5,6],[6,7],[3,8],[7,8]]) (cD 25 nO .skip))) (.seqr [m1 15 5,bZ 16 .add 15 1,m1 5 16] [0,1,5])
def AqY:IC:=sQ (rS [mZ 5 0] [0,1,5] (.block 0 (.loop (sQ (rS [m1 11 5,m1 12 0,nL 13 12,bT 14 .lss 11 13] [0,1,5,14] (cD 14 .skip (.exit 0))) Am4)))) (rS [mC 4 (.b true)] [4] .ret)
def AoY:IC:=rS [mC 4 (.b false)] [0,1] (sQ (rS [m1 6 0,nL 7 6,m1 8 1,nL 9 8,bT 10 .neq 7 9] [0,1,10] (cD 10 nO .skip)) AqY)
def ApX:Cw:=⟨26,AoY,[.t 4]⟩
theorem AnO:Bz π 31 ApX=true:=by kernel_rfl
def AiX:IC:=rS [m1 44 8,bZ 45 .eql 44 0,m1 46 45,B4 47 46 7,gT 48 46 (.bin .eql (.t 47) (.c (.s [97]))),pA 49 46 48,m1 50 49,B4 51 50 10,CH 52 50 .eql 51 0,pA 53 50 52,m1 54 53,B4 55 54 9,gT 56 54 (.msl true 3 1 [ci 0,ci 3,ci 4,ci 7]),gT 57 54 (.callr 31 [.t 55,.t 56]),pA 58 54 57,m1 59 58,B4 60 59 12,CH 61 59 .eql 60 0,pA 62 59 61,m1 63 62,B4 64 63 11,gT 65 63 (.lenL (.t 64)),CH 66 63 .eql 65 1,pA 67 63 66,m1 68 67,B4 69 68 11,gT 70 68 (.iaddr (.t 69) (ci 0) 86 2),Dv 71 68 70 1,Dr 72 68 71,CH 73 68 .eql 72 2,pA 74 68 73,m1 0 74] [0] .ret
def AhL:IC:=rS [lA 33 4 2,o1 34 (.build [.s [],.s [],.s [],.nil,.nil,.s [],.s [],.s [],.s [],.i .i64 0,.i .i64 0,.nil,.nil,.nil,.nil,.nil] []),m1 35 6,o1 36 (.callr 15 [.t 33,.t 34,.t 35,.c (.b false)]),m1 32 36,xT 37 32 0,xT 38 32 1,m1 9 37,m1 10 38] [4,7,8,9,10] (rS [lA 40 4 2,o1 41 (.callr 30 [.t 40]),m1 39 41,xT 42 39 0,xT 43 39 1,m1 11 42,m1 12 43] [7,8,9,10,11,12] AiX)
def An8:IC:=rS [lA 26 4 2,o1 27 (.build [.s [],.s [],.s [],.nil,.nil,.s [],.s [],.s [],.s [],.i .i64 0,.i .i64 0,.nil,.nil,.nil,.nil,.nil] []),m1 28 6,o1 29 (.callr 29 [.t 26,.t 27,.t 28,.c (.b false)]),m1 25 29,xT 30 25 0,xT 31 25 1,m1 7 30,m1 8 31] [4,6,7,8] AhL
def AoM:IC:=rS [o1 23 (.build [.s [],.i .i64 0,.s [],.i .i64 0,.nil] [(0,1,.c (.s [110])),(1,1,ci 2),(2,1,.c (.s [49]))]),o1 24 (.msl true 62 5 [.t 23]),m1 6 24] [4,6] An8
def AoB:IC:=rS [o1 14 (.call 27 [.c (.s [123,110,44,32,112,108,117,114,97,108,44,32,61,49,32,123,97,125,32,111,116,104,101,114,32,123,98,125,125])]),m1 13 14,xT 15 13 0,xT 16 13 1,xT 17 13 2,o1 2 (.alloc (.agg [.i .i64 0,.i .i64 0,.i .i64 0])),m1 1 15,sT 2 16 3,m1 3 17] [1] (rS [m1 19 1,o1 20 (.callr 28 [.t 19]),m1 18 20,xT 21 18 0,xT 22 18 1,o1 4 (.alloc (.agg [.nil,.nil])),sT 4 21 2,m1 5 22] [4] AoM)
def ApK:IC:=rS [mC 0 (.b false)] [] AoB
def ArL:Cw:=⟨75,ApK,[.t 0]⟩
theorem Aog:Bz π 11 ArL=true:=by kernel_rfl
noncomputable def evM:FuncId->Option Cw:=(AP 116 (AP 77 (AP 47 (AP 28 (AP 21 (AN 11 ArL) (AP 27 (AN 21 ArG) (AN 27 AnJ))) (AP 35 (AP 31 (AN 28 AoK) (AN 31 ApX)) (AP 46 (AN 35 Ao5) (AN 46 Arc)))) (AP 62 (AP 48 (AN 47 Aoj) (AP 59 (AN 48 AnB) (AN 59 Aof))) (AP 73 (AP 67 (AN 62 Ape) (AN 67 AsS)) (AP 74 (AN 73 AnW) (AN 74 As5))))) (AP 109 (AP 80 (AP 78 (AN 77 An1) (AP 79 (AN 78 ArB) (AN 79 Anm))) (AP 97 (AP 95 (AN 80 AsX) (AN 95 Apv)) (AP 98 (AN 97 Aq5) (AN 98 ArX)))) (AP 112 (AP 110 (AN 109 Aev) (AP 111 (AN 110 AdG) (AN 111 AeR))) (AP 114 (AP 113 (AN 112 AdB) (AN 113 Af4)) (AP 115 (AN 114 Agi) (AN 115 Afo)))))) (AP 189 (AP 137 (AP 120 (AP 118 (AN 116 Ae9) (AP 119 (AN 118 AeH) (AN 119 Aed))) (AP 132 (AP 131 (AN 120 Aeq) (AN 131 Ad2)) (AP 136 (AN 132 AdI) (AN 136 Afh)))) (AP 164 (AP 161 (AN 137 AfN) (AP 162 (AN 161 Aff) (AN 162 Afg))) (AP 166 (AP 165 (AN 164 Adt) (AN 165 AeF)) (AP 185 (AN 166 Afz) (AN 185 Afp))))) (AP 242 (AP 225 (AP 223 (AN 189 AfC) (AP 224 (AN 223 Afn) (AN 224 Afe))) (AP 228 (AP 226 (AN 225 Ael) (AN 226 Aea)) (AP 229 (AN 228 Af5) (AN 229 AdC)))) (AP 316 (AP 284 (AP 283 (AN 242 AfG) (AN 283 AeL)) (AP 285 (AN 284 Aeu) (AN 285 Ad7))) (AP 336 (AP 317 (AN 316 Ad6) (AN 317 Afv)) (AP 347 (AN 336 AdM) (AN 347 AdZ)))))))
theorem Ajy:HF π evM:=(.node (.node (.node (.node (.node (.leaf Aog) (.node (.leaf AoZ) (.leaf Asg))) (.node (.node (.leaf Aq0) (.leaf AnO)) (.node (.leaf Aqn) (.leaf AsK)))) (.node (.node (.leaf As2) (.node (.leaf ArD) (.leaf Arb))) (.node (.node (.leaf Apr) (.leaf AnH)) (.node (.leaf Arz) (.leaf ApI))))) (.node (.node (.node (.leaf Ar3) (.node (.leaf ApM) (.leaf AoV))) (.node (.node (.leaf Ar1) (.leaf Ars)) (.node (.leaf Asf) (.leaf Asa)))) (.node (.node (.leaf AkG) (.node (.leaf Ale) (.leaf Amf))) (.node (.node (.leaf Ah3) (.leaf Aiw)) (.node (.leaf Aml) (.leaf AhJ)))))) (.node (.node (.node (.node (.leaf AkC) (.node (.leaf Aj1) (.leaf Aiu))) (.node (.node (.leaf Ahd) (.leaf AhU)) (.node (.leaf Ak3) (.leaf Ahg)))) (.node (.node (.leaf Ai0) (.node (.leaf Alt) (.leaf AhS))) (.node (.node (.leaf AkX) (.leaf Ah9)) (.node (.leaf Amy) (.leaf Am7))))) (.node (.node (.node (.leaf AiY) (.node (.leaf Akb) (.leaf Alz))) (.node (.node (.leaf AjQ) (.leaf Aja)) (.node (.leaf AiM) (.leaf AjW)))) (.node (.node (.node (.leaf Ail) (.leaf Aks)) (.node (.leaf Ahx) (.leaf AlO))) (.node (.node (.leaf Ahi) (.leaf Aj7)) (.node (.leaf Ajs) (.leaf Ahv)))))))
end Go.Ir
end
namespace Go.Ir
def Ly(L:BQ)(k:Int)(a:List Aa)(v:BD):Aa×Int:=
 if !Dh k then([],1) else if !CS [] (H7 L k) then([],18) else if !LJ k v then([],11)
 else if DC a (FH L k v)<0 then([],13) else(a.getD (DC a (FH L k v)).toNat [],0)
def zF(X:WX)(names:List Aa)(x:Ay):Ev:=match Ka X.vs (C5 names x.a) with
 | none=>.er 12
 | some v=>AdW X.iso (MU X.L (x.op-3) x.s v)
def Cu(ins:List Ay)(i:Nat):List Aa:=(Bu (ins.drop (i+1))).map (·.s)
def Ja(X:WX)(names:List Aa)(ins:List Ay)(i:Nat)(x:Ay):Aa×Int:=match Ka X.vs (C5 names x.a) with
 | none=>([],if(Ly X.L x.b (Cu ins i) ⟨[],0,[],0,[]⟩).2==18 then 18 else 12)
 | some v=>Ly X.L x.b (Cu ins i) v
def aAt(ins:List Ay)(k:Nat):Int:=match ins[k]? with
 | some x=>x.a
 | none=>0
def H5(X:WX)(names:List Aa)(ins:List Ay)(i:Nat)(x:Ay):Int×Int:=
 if(Ja X names ins i x).2==0 then(aAt ins (i+1+(B7 (λy=>(Ja X names ins i x).1==y) (Cu ins i)).toNat),0) else(i,(Ja X names ins i x).2)
def Yx(X:WX)(names:List Aa)(x:Ay):Ev:=
 if x.op==1 then .pc x.s else if x.op==2 then .pc (60::(x.s++[62])) else if x.op==3 then .pc (60::47::(x.s++[62]))
 else if x.op==4 then .pc (60::(x.s++[62,60,47]++x.s++[62])) else zF X names x
def CB(X:WX)(names:List Aa)(ins:List Ay)(i:Nat)(x:Ay)(st:Aa×Int):(Aa×Int)×Int:=
 if x.op==10 then((st.1,if(H5 X names ins i x).2==0 then st.2 else(H5 X names ins i x).2),(H5 X names ins i x).1)
 else if x.op==12 then(st,x.a) else(Jn st (Yx X names x),(i:Int)+1)
def FD(X:WX)(names:List Aa)(ins:List Ay):Nat->Nat->Aa×Int->List Int->(Aa×Int)×List Int
 | 0,_,st,a=>(st,a)
 | n+1,i,st,a=>if st.2==0 then(match ins[i]? with
  | none=>(st,a)
  | some x=>if x.op==13 then(st,a++[(i:Int)]) else FD X names ins n (CB X names ins i x st).2.toNat (CB X names ins i x st).1 (a++[(i:Int)])) else(st,a)
def Dn(X:WX)(names:List Aa)(ins:List Ay):(Aa×Int)×List Int:=FD X names ins (ins.length+1) 0 ([],0) []
structure Jh (nn:Nat) (ins:List Ay):Prop where
 pr:∀k y,ins[k]?=some y->AI nn ins k y=true
 la:Cd ins (ins.length-1)=13
 po:0<ins.length
theorem TZ{names:List Aa}{ins:List Ay}(h:((Cb names ins).2==0)=true):Jh names.length ins:=by
 have hp:¬Ci names.length ins 0 ins>=0:=by
  intro hp;unfold Cb at h;rw[if_pos hp] at h;split at h
  .simp at h
  .split at h<;>simp at h
 have b:Cd ins (ins.length-1)=13/\0<ins.length:=by
  unfold Cb at h;rw[if_neg hp] at h;split at h
  .simp at h
  .split at h
   .simp at h
   .split at h
    .simp at h
    .rename_i a;simp only[Ayh,not_or,AsT,Bool.not_eq_false,beq_iff_eq] at a;refine⟨by simpa using a.2,?_⟩;cases ins with
     | nil=>simp at a
     | cons y r=>simp
 exact⟨λk y c=>by have:=Lg _ ins ins 0 hp k y c;rwa [Axh] at this,b.1,b.2⟩
theorem MA:∀{l:List Ay} {k:Nat},k<(Bu l).length->∃y,(Bu l)[k]?=some y/\l[k]?=some y/\y.op=11:=by
 intro l
 induction l with
 | nil=>intro k h;simp[Bu] at h
 | cons x r e=>
  intro k h;rw[Bu] at h⊢;split at h
  .rename_i a;rw[if_pos a];cases k with
   | zero=>exact⟨x,by simp,by simp,by simpa using a⟩
   | succ k=>obtain⟨y,b,c,d⟩:=e (k:=k) (by simpa using h);exact⟨y,by simpa using b,by simpa using c,d⟩
  .simp at h
theorem Mg{a:List Aa}{w:Aa}(h:w∈a):0<=B7 (λx=>w==x) a/\B7 (λx=>w==x) a<a.length:=by
 refine⟨?_,XA _ _⟩
 induction a with
 | nil=>cases h
 | cons k r c=>
  rw[B7];cases b:(w==k) with
  | true=>simp
  | false=>
   simp only[cond_false];rcases AmK.1 h with rfl|h
   .simp at b
   .have:=c h;rw[if_neg (by omega)];omega
theorem qQ{L:BQ}{k:Int}{a:List Aa}{v:BD}(h:((Ly L k a v).2==0)=true):(Ly L k a v).1∈a:=by
 unfold Ly at h⊢;split at h
 .simp at h
 .rename_i b;rw[if_neg b];split at h
  .simp at h
  .rename_i c;rw[if_neg c];split at h
   .simp at h
   .rename_i d;rw[if_neg d];split at h
    .simp at h
    .rename_i e;rw[if_neg e];have f:=(NO a (FH L k v)).2;simp only;rw[Aue,AeP (by omega)];simp
theorem L0{X:WX}{names:List Aa}{ins:List Ay}{i:Nat}{x:Ay}(h:((Ja X names ins i x).2==0)=true):(Ja X names ins i x).1∈Cu ins i:=by
 unfold Ja at h⊢;split at h
 .rename_i a;simp only at h;split at h<;>simp at h
 .exact qQ h
theorem N7{nn:Nat}{ins:List Ay}{i:Nat}{x:Ay}(h:AI nn ins i x=true)(b:x.op=11\/x.op=12):LC ins i x.a=true:=by unfold AI at h;rcases b with b|b<;>(rw[b] at h;simp only[Int.reduceBEq,Adx,if_false,Bool.or_self,if_true,A0b] at h;exact h.1)
theorem Wx{ins:List Ay}{i:Nat}{a:Int}(h:LC ins i a=true):(Cd ins a.toNat==11)=false:=by unfold LC at h;simp only[A0b,AsT] at h;exact h.2.2
theorem YT{nn:Nat}{ins:List Ay}{i:Nat}{x:Ay}(h:AI nn ins i x=true):1<=x.op/\x.op<=13:=by
 by_cases a:1<=x.op/\x.op<=13
 .exact a
 .exfalso;have e:∀k:Int,1<=k->k<=13->(x.op==k)=false:=λk b c=>by simp only[beq_eq_false_iff_ne];omega
  unfold AI at h;simp only[e 1 (by omega) (by omega),e 2 (by omega) (by omega),e 3 (by omega) (by omega),e 4 (by omega) (by omega),e 5 (by omega) (by omega),e 6 (by omega) (by omega),e 7 (by omega) (by omega),e 8 (by omega) (by omega),e 9 (by omega) (by omega),e 10 (by omega) (by omega),e 11 (by omega) (by omega),e 12 (by omega) (by omega),e 13 (by omega) (by omega),Bool.or_self,Adx,if_false] at h
theorem Cg{ins:List Ay}{i:Nat}{x:Ay}(h:ins[i]?=some x):Cd ins i=x.op:=by unfold Cd;rw[h]
theorem Kj{X:WX}{names:List Aa}{ins:List Ay}{i:Nat}{x:Ay}{st:Aa×Int}(o:Jh names.length ins)(p:ins[i]?=some x)(g:(x.op==11)=false)(j:(x.op==13)=false)
  (c:((CB X names ins i x st).1.2==0)=true)(C:(st.2==0)=true):(i:Int)<(CB X names ins i x st).2/\(CB X names ins i x st).2<(ins.length:Int)/\(Cd ins (CB X names ins i x st).2.toNat==11)=false:=by
 have E:i<ins.length:=(AfJ.1 p).1;have hp:=o.pr i x p;unfold CB at c⊢;split at c
 .rename_i d;rw[if_pos d];simp only at c⊢;unfold H5 at c⊢;split at c
  .rename_i f;rw[if_pos f];simp only;have z:=L0 f;have m:=Mg z;generalize hI:B7 (λy=>(Ja X names ins i x).1==y) (Cu ins i)=I at *;unfold Cu at m;rw[Adp] at m;obtain⟨y,D,q,v⟩:=MA (l:=ins.drop (i+1)) (k:=I.toNat) (by omega);rw[AwF] at q;have w:aAt ins (i+1+I.toNat)=y.a:=by unfold aAt;rw[q]
   rw[w];have b:=N7 (o.pr _ y q) (.inl v);have:=J8 b;exact⟨by omega,by omega,Wx b⟩
  .rename_i f;simp only at c
   first
    | exact absurd c f
    | (split at c
       .rename_i r;exact absurd r f
       .exact absurd c f)
 .rename_i d;rw[if_neg d];split at c
  .rename_i e;rw[if_pos e];have b:=N7 hp (.inr (by simpa using e));have:=J8 b;exact⟨by simp only;omega,by simp only;omega,Wx b⟩
  .rename_i e;rw[if_neg e];simp only;have B:i≠ins.length-1:=by rintro rfl;have:=o.la;rw[Cg p] at this;rw[this] at j;simp at j
   refine⟨by omega,by omega,?_⟩;have A:(((i:Int)+1).toNat)=i+1:=by omega
   rw[A];cases u:(Cd ins (i+1)==11) with
   | false=>rfl
   | true=>
    exfalso;have s:i+1<ins.length:=by omega
    have t:ins[i+1]?=some ins[i+1]:=AeP s;rw[Cg t] at u;have b:=o.pr _ _ t;unfold AI at b;rw[show(ins[i+1]).op=11 by simpa using u] at b;simp only[Int.reduceBEq,Adx,if_false,Bool.or_self,if_true,A0b,Nat.add_sub_cancel,Cg p,Ayh] at b;rcases b.2.2.2 with h|h
    .exact d h
    .rw[h] at g;cases g
def Up(ins:List Ay):Int->List Int->Prop
 | _,[]=>True
 | k,j::r=>k<=j/\j<(ins.length:Int)/\(Cd ins j.toNat==11)=false/\Up ins (j+1) r
theorem gQ{X:WX}{names:List Aa}{ins:List Ay}(w:Jh names.length ins):∀(n i:Nat) (st:Aa×Int) (b:List Int),i<ins.length->(Cd ins i==11)=false->
  ∃l,(FD X names ins n i st b).2=b++l/\Up ins i l/\((st.2==0)=true->0<n->l.head?=some (i:Int))/\
   (((FD X names ins n i st b).1.2==0)=true->ins.length<n+i->∃j,l.getLast?=some j/\Cd ins j.toNat=13):=by
 intro n
 induction n with
 | zero=>intro i st b p a;exact⟨[],by simp[FD],trivial,λ_ h=>by omega,λ_ h=>by omega⟩
 | succ n x=>
  intro i st b p a;have d:ins[i]?=some ins[i]:=AeP p;rw[FD];cases o:(st.2==0) with
  | false=>exact⟨[],by simp,trivial,λh=>(by cases h),λh=>(by simp[o] at h)⟩
  | true=>
   simp only[if_true,d];rw[Cg d] at a;cases e:((ins[i]).op==13) with
   | true=>
    simp only[if_true];refine⟨[(i:Int)],rfl,⟨by omega,by omega,?_,trivial⟩,λ_ _=>rfl,λ_ _=>⟨i,rfl,?_⟩⟩
    .rw[AxM,Cg d];exact a
    .rw[AxM,Cg d];simpa using e
   | false=>
    simp only[Adx,if_false];have f:∀l,Up ins ((i:Int)+1) l->Up ins i ((i:Int)::l):=λl h=>⟨by omega,by omega,by rw[AxM,Cg d];exact a,h⟩
    cases c:((CB X names ins i ins[i] st).1.2==0) with
    | true=>
     obtain⟨y,a2,a3⟩:=Kj w d a e c o;generalize CB X names ins i ins[i] st=R at *;obtain⟨l,q,g,A,s⟩:=x R.2.toNat R.1 (b++[(i:Int)]) (by omega) a3;refine⟨(i:Int)::l,by rw[q];simp,f l ?_,λ_ _=>rfl,λu B=>?_⟩
     .rw[show((R.2.toNat:Nat):Int)=R.2 by omega] at g;cases l with
      | nil=>trivial
      | cons j r=>exact⟨by have:=g.1;omega,g.2⟩
     .obtain⟨j,m,t⟩:=s u (by omega);refine⟨j,?_,t⟩;cases l with
      | nil=>cases m
      | cons z r=>rw[List.getLast?_cons_cons];exact m
    | false=>
     generalize CB X names ins i ins[i] st=R at *;have v:∀n k b,FD X names ins n k R.1 b=(R.1,b):=λn k b=>by cases n<;>simp[FD,c]
     rw[v];exact⟨[(i:Int)],rfl,f [] trivial,λ_ _=>rfl,λh=>by simp[c] at h⟩
theorem dB{X:WX}{names:List Aa}{ins b:List Ay}(s:Jh names.length ins):∀(n i:Nat) (st:Aa×Int) (f:List Int),i<ins.length->(Cd ins i==11)=false->
  (∀(j:Nat) (x:Ay),(j:Int)∈(FD X names ins n i st f).2->ins[j]?=some x->b[j]?=some x/\(x.op=10->H5 X names b j x=H5 X names ins j x))->FD X names b n i st f=FD X names ins n i st f:=by
 intro n
 induction n with
 | zero=>intro i st f _ _ _;rfl
 | succ n y=>
  intro i st f p d a;have k:ins[i]?=some ins[i]:=AeP p;have c:(st.2==0)=true->(i:Int)∈(FD X names ins (n+1) i st f).2:=by
   intro h;obtain⟨l,t,_,u,_⟩:=gQ (X:=X) s (n+1) i st f p d;rw[t];have:=u h (by omega);cases l with
   | nil=>cases this
   | cons z r=>simp at this;subst this;simp
  rw[FD] at a c⊢;rw[FD];cases h:(st.2==0) with
  | false=>simp
  | true=>
   rw[h] at a c;have q:=c rfl;simp only[if_true,k] at a q⊢;obtain⟨v,w⟩:=a i ins[i] q k;rw[v];rw[Cg k] at d;cases e:((ins[i]).op==13) with
   | true=>simp only[if_true,e]
   | false=>
    simp only[e,Adx] at a⊢;have o:CB X names b i ins[i] st=CB X names ins i ins[i] st:=by
     unfold CB;split
     .rename_i m;rw[w (by simpa using m)]
     .rfl
    rw[o];cases g:((CB X names ins i ins[i] st).1.2==0) with
    | true=>obtain⟨A,a2,a3⟩:=Kj s k d e g h;exact y _ _ _ (by omega) a3 a
    | false=>generalize CB X names ins i ins[i] st=R at *;cases n<;>simp[FD,g]
theorem aY(z:Ay)(c:(z.op==11)=false):∀(l:List Ay) (k:Nat),(Cd l k==11)=false->Bu (l.set k z)=Bu l:=by
 intro l
 induction l with
 | nil=>intro k _;rfl
 | cons x r d=>
  intro k a;cases k with
  | zero=>
   have b:(x.op==11)=false:=by simpa[Cd] using a
   rw[List.set_cons_zero,Bu,Bu,b,c];rfl
  | succ k=>rw[List.set_cons_succ,Bu,Bu,d k (by simpa[Cd] using a)]
theorem YM(l:List Ay)(i k:Nat):Cd (l.drop i) k=Cd l (i+k):=by unfold Cd;rw[AwF]
theorem pG{X:WX}{names:List Aa}{ins:List Ay}(hs:Jh names.length ins)(k:Nat)(z:Ay)(hz:(z.op==11)=false)(hk:(Cd ins k==11)=false)(hl:k<ins.length)(hk2:(k:Int)∉(Dn X names ins).2) :
  Dn X names (ins.set k z)=Dn X names ins:=by
 have h0:(Cd ins 0==11)=false:=by
  cases h:(Cd ins 0==11) with
  | false=>rfl
  | true=>
   have hg:ins[0]?=some (ins[0]'hs.po):=AeP hs.po
   rw[Cg hg] at h
   have hp:=hs.pr _ _ hg
   unfold AI at hp
   rw[show(ins[0]'hs.po).op=11 by simpa using h] at hp
   simp at hp
 unfold Dn at *
 rw[AyX]
 refine dB hs _ 0 _ _ hs.po h0 fun j x hj hx=>?_
 have hne:j≠k:=by rintro rfl;exact hk2 hj
 refine⟨by rw[AzO (AeS hne)];exact hx,fun h10=>?_⟩
 have hcs:Bu ((ins.set k z).drop (j+1))=Bu (ins.drop (j+1)):=by
  rw[List.drop_set]
  split
  .rfl
  .rename_i hlt
   refine aY z hz _ _ ?_
   rw[YM,show j+1+(k-(j+1))=k by omega]
   exact hk
 have hks:Cu (ins.set k z) j=Cu ins j:=by unfold Cu;rw[hcs]
 have hkm:Ja X names (ins.set k z) j x=Ja X names ins j x:=by unfold Ja;rw[hks]
 unfold H5
 rw[hkm,hks]
 split
 .rename_i h
  have hix:=Mg (L0 h)
  generalize B7 (fun y=>(Ja X names ins j x).1==y) (Cu ins j)=I at *
  unfold Cu at hix
  rw[Adp] at hix
  obtain⟨y,_,h2,h3⟩:=MA (l:=ins.drop (j+1)) (k:=I.toNat) (by omega)
  rw[AwF] at h2
  have hne2:j+1+I.toNat≠k:=by
   rintro he
   rw[<-he,Cg h2,h3] at hk
   simp at hk
  unfold aAt
  rw[AzO (AeS hne2)]
 .rfl
end Go.Ir

namespace Go.Ir
open Go.Proofs
variable{P:Program}{W0:World}{nt n:Nat}{Q:Exit→St→Prop}{env:A9}{σ:Aj}
def WB:IC:=cD 15 (oR [mC 8 (.s []),mZ 9 18] [8,9]) (oS [m1 22 1,lA 23 7 5,q2 24 154 22 23,nT 25 24,m1 21 25] [1,2,4,7,21] (cD 21 (oR [mC 8 (.s []),mZ 9 11] [8,9]) .skip))
def X0:IC:=sQ (oS [m1 31 10,bZ 32 .lss 31 0] [2,10,32] (cD 32 (oR [mC 8 (.s []),mZ 9 13] [8,9]) .skip)) (oR [m1 33 2,m1 34 10,iA 35 33 34 9 1,l1 36 35,m1 8 36,mZ 9 0] [8,9])
def b8:IC:=sQ (.block 0 (oS [m1 12 1,q1 13 79 12,nT 14 13,m1 11 14] [1,2,4,7,11] (cD 11 (oR [mC 8 (.s []),mZ 9 1] [8,9]) (oS [lA 16 4 16,m1 17 1,q2 18 153 16 17,q1 19 152 18,nT 20 19,m1 15 20] [1,2,4,7,15] WB)))) (oS [lA 26 4 16,m1 27 1,m1 28 2,lA 29 7 5,o1 30 (.call 155 [.t 26,.t 27,.t 28,.t 29]),m1 10 30] [2,10] X0)
def uO:IC:=oS [bX 4 0,bX 7 3,mC 8 (.s []),mZ 9 0] [1,2,4,7] b8
@[push_cast]def Ao6:List R:=[.t 8,.t 9]
@[push_cast]def AwO:=Ap WB.eq_1<|Ap X0.eq_1<|Ap b8.eq_1<|AM uO.eq_1
theorem AgI:Au π 126 37 uO Ao6=true:=by kernel_rfl
def vL:IC:=oR [o1 3 (.build [.i .i64 0,.i .i64 0,.i .i64 0,.i .i64 0,.i .i64 0,.i .i64 0,.i .i64 0,.i .i64 0,.i .i64 0,.i .i64 0] [(5,1,ci 2),(6,1,ci 3),(7,1,ci 4),(8,1,ci 5),(9,1,ci 6)]),m1 4 0,o1 5 (.pu (.aget 10 1 false) [.t 3,.t 4]),m1 2 5] [2]
def oB:IC:=oS [mZ 2 0] [0] vL
@[push_cast]def As3:List R:=[.t 2]
@[push_cast]def AxG:=Ap vL.eq_1<|AM oB.eq_1
theorem Ajm:Au π 127 6 oB As3=true:=by kernel_rfl
def Aeh:IC:=oS [m1 9 0,nC 10 9,fA 11 10 20,o1 12 (.calls 125 [.t 11]),bZ 13 .gtr 12 20000] [0,13] (cD 13 (oP [m1 14 0,nC 15 14,fA 16 15 23,o0 (.store (.t 16) (ci 6) 1)] []) .skip)
def AdL:IC:=sQ (.opx [m1 4 0,nC 5 4,fA 6 5 20,m1 7 1] [0,6,7] 8 124 [.t 6,.t 7] [] [0]) Aeh
@[push_cast]def Aum:List R:=[]
@[push_cast]def AyC:=Ap Aeh.eq_1<|AM AdL.eq_1
theorem AnP:Au π 86 17 AdL Aum=true:=by kernel_rfl
def oV:IC:=oS [m1 56 0,nC 57 56,fA 58 57 19,l1 59 58,m1 55 59] [0,6,55] (cD 55 (.opx [m1 60 0,m1 61 6,q1 62 128 61] [60,62] 63 86 [.t 60,.t 62] [] []) (.opx [m1 45 0,m1 46 6] [45,46] 47 86 [.t 45,.t 46] [] []))
def cZ:IC:=sQ (.ops [m1 31 0,nC 32 31,fA 33 32 2,lA 34 33 16,fA 35 3 0,l1 36 35,q1 37 127 36,fA 38 3 3,l1 39 38,o1 40 (.build [.i .i64 0,.s [],.s [],.s [],.nil,.nil] [(0,1,.t 37),(3,1,.t 39)]),lA 41 4 5,q3 42 108 34 40 41,m1 30 42,xT 43 30 0,xT 44 30 1,m1 6 43,m1 7 44] [0,6,7] [[0,1],[1,2],[2,3],[4,5],[5,6],[7,8],[6,9],[8,9],[3,11],[9,11],[10,11],[11,12],[12,13],[12,14],[13,15],[14,16]]) (.block 0 (oS [m1 49 7,bZ 50 .neq 49 0,m1 48 50] [0,6,7,48] (cD 48 (oP [m1 51 0,m1 52 7,nC 53 51,fA 54 53 23,sT 54 52 1] []) oV)))
def AfO:IC:=sQ (.ops [m1 9 0,nC 10 9,fA 11 10 18,l1 12 11,m1 13 0,nC 14 13,fA 15 14 0,fA 16 15 0,l1 17 16,fA 18 3 1,l1 19 18,iA 20 17 19 9 1,l1 21 20,q2 22 39 12 21,m1 8 22,xT 23 8 0,xT 24 8 1,o1 4 (.alloc (.agg [.s [],.i .i64 0,.s [],.i .i64 0,.nil])),sT 4 23 5,m1 5 24] [0,3,4,5] [[0,1],[1,2],[2,3],[4,5],[5,6],[6,7],[7,8],[9,10],[8,11],[10,11],[11,12],[3,13],[12,13],[13,14],[14,15],[14,16],[3,18],[8,18],[10,18],[11,18],[12,18],[15,18],[17,18],[16,19]]) (sQ (oS [m1 25 5,nT 26 25] [0,3,4,26] (cD 26 (oR [m1 27 0,nC 28 27,fA 29 28 23,o0 (.store (.t 29) (ci 12) 1)] []) .skip)) cZ)
def Ady:IC:=oS [bX 3 1] [0,3] AfO
@[push_cast]def Avc:List R:=[]
@[push_cast]def AyU:=Ap oV.eq_1<|Ap cZ.eq_1<|Ap AfO.eq_1<|AM Ady.eq_1
theorem Aqr:Au π 88 64 Ady Avc=true:=by kernel_rfl
def rG:IC:=sQ (.block 1 (oP [m1 34 6,m1 35 0,nC 36 35,fA 37 36 0,fA 38 37 1,l1 39 38,m1 40 7,iA 41 39 40 54 4,fA 42 41 3,l1 43 42,o1 44 (.msl false 9 1 [.t 43]),o1 45 (.app (.t 34) (.t 44) 9 1),m1 6 45] [0,1,5,6,7])) (oP [m1 32 7,bZ 33 .add 32 1,m1 7 33] [0,1,5,6,7])
def lT:IC:=sQ (oS [m1 22 0,nC 23 22,fA 24 23 0,fA 25 24 1,l1 26 25,m1 27 7,iA 28 26 27 54 4,fA 29 28 0,l1 30 29,bZ 31 .eql 30 11] [0,1,5,6,7,31] (cD 31 .skip (.exit 0))) rG
def wB:IC:=.ops [m1 47 0,nC 48 47,fA 49 48 18,l1 50 49,m1 51 0,nC 52 51,fA 53 52 0,fA 54 53 0,l1 55 54,fA 56 5 1,l1 57 56,iA 58 55 57 9 1,l1 59 58,q2 60 39 50 59,m1 46 60,xT 61 46 0,xT 62 46 1,o1 8 (.alloc (.agg [.s [],.i .i64 0,.s [],.i .i64 0,.nil])),sT 8 61 5,m1 9 62] [0,1,5,6,8,9] [[0,1],[1,2],[2,3],[4,5],[5,6],[6,7],[7,8],[9,10],[8,11],[10,11],[11,12],[3,13],[12,13],[13,14],[14,15],[14,16],[3,18],[8,18],[10,18],[11,18],[12,18],[15,18],[17,18],[16,19]]
def wV:IC:=sQ (.ops [m1 88 0,nC 89 88,fA 90 89 0,fA 91 90 1,l1 92 91,m1 93 1,bZ 94 .add 93 1,m1 95 6,m1 96 10,q2 97 120 95 96,bT 98 .add 94 97,iA 99 92 98 54 4,fA 100 99 1,l1 101 100,m1 4 101] [4] [[0,1],[1,2],[2,3],[3,4],[5,6],[7,9],[8,9],[6,10],[9,10],[4,11],[10,11],[11,12],[12,13],[13,14]]) .ret
def dU:IC:=sQ (oS [m1 81 11,bZ 82 .neq 81 0] [0,1,6,10,11,82] (cD 82 (oS [m1 83 0,m1 84 11,nC 85 83,fA 86 85 23,sT 86 84 1] [1] (oR [m1 87 1,m1 4 87] [4])) .skip)) wV
def kR:IC:=sQ (oS [m1 75 9,nT 76 75,m1 77 76,B4 78 77 11,CH 79 77 .neq 78 18,pA 80 77 79] [0,1,6,10,11,80] (cD 80 (oP [mZ 11 12] [0,1,6,10,11]) .skip)) dU
def pW:IC:=sQ (.ops [m1 64 0,nC 65 64,fA 66 65 2,lA 67 66 16,fA 68 5 2,l1 69 68,m1 70 6,lA 71 8 5,o1 72 (.call 126 [.t 67,.t 69,.t 70,.t 71]),m1 63 72,xT 73 63 0,xT 74 63 1,m1 10 73,m1 11 74] [0,1,6,9,10,11] [[0,1],[1,2],[2,3],[4,5],[3,8],[5,8],[6,8],[7,8],[8,9],[9,10],[9,11],[10,12],[11,13]]) kR
def Aei:IC:=oS [m1 12 0,nC 13 12,fA 14 13 0,fA 15 14 1,l1 16 15,m1 17 1,iA 18 16 17 54 4,lA 19 18 4,o1 5 (.alloc (.agg [.i .i64 0,.i .i64 0,.i .i64 0,.s []])),sT 5 19 4] [0,1,5] (oS [mC 6 .nil] [0,1,5,6] (sQ (oS [m1 20 1,bZ 21 .add 20 1,m1 7 21] [0,1,5,6,7] (.block 0 (.loop lT))) (sQ (.wk wB) pW)))
def AfF:IC:=oS [mZ 4 0] [0,1] Aei
@[push_cast]def AuX:List R:=[.t 4]
@[push_cast]def AxI:=Ap rG.eq_1<|Ap lT.eq_1<|Ap wB.eq_1<|Ap wV.eq_1<|Ap dU.eq_1<|Ap kR.eq_1<|Ap pW.eq_1<|Ap Aei.eq_1<|AM AfF.eq_1
theorem ArI:Au π 87 102 AfF AuX=true:=by kernel_rfl
def oN:IC:=.opx [m1 53 0,fA 54 5 3,l1 55 54,o1 56 (.bin .add (.c (.s [60])) (.t 55)),bC 57 .add 56 (.s [62,60,47]),fA 58 5 3,l1 59 58,bT 60 .add 57 59,bC 61 .add 60 (.s [62])] [1,53,61] 62 86 [.t 53,.t 61] [] [1]
def mW:IC:=cD 63 (oR [m1 65 0,m1 66 1,o1 67 (.calls 87 [.t 65,.t 66]),m1 4 67] [4]) (oS [bZ 69 .eql 25 12,m1 68 69] [0,1,5,68] (cD 68 (oR [fA 70 5 1,l1 71 70,m1 4 71] [4]) (.opx [m1 26 0,lA 27 5 4] [1,26,27] 28 88 [.t 26,.t 27] [] [1])))
def sV:IC:=cD 43 (.opx [m1 45 0,fA 46 5 3,l1 47 46,o1 48 (.bin .add (.c (.s [60,47])) (.t 47)),bC 49 .add 48 (.s [62])] [1,45,49] 50 86 [.t 45,.t 49] [] [1]) (oS [bZ 52 .eql 25 4,m1 51 52] [0,1,5,25,51] (cD 51 oN (oS [bZ 64 .eql 25 10,m1 63 64] [0,1,5,25,63] mW)))
def rR:IC:=cD 35 (.opx [m1 37 0,fA 38 5 3,l1 39 38,o1 40 (.bin .add (.c (.s [60])) (.t 39)),bC 41 .add 40 (.s [62])] [1,37,41] 42 86 [.t 37,.t 41] [] [1]) (oS [bZ 44 .eql 25 3,m1 43 44] [0,1,5,25,43] sV)
def AdQ:IC:=oS [fA 24 5 0,l1 25 24] [0,1,5,25] (.block 0 (oS [bZ 30 .eql 25 1,m1 29 30] [0,1,5,25,29] (cD 29 (.opx [m1 31 0,fA 32 5 3,l1 33 32] [1,31,33] 34 86 [.t 31,.t 33] [] [1]) (oS [bZ 36 .eql 25 2,m1 35 36] [0,1,5,25,35] rR))))
def Aes:IC:=sQ (oS [m1 16 0,nC 17 16,fA 18 17 0,fA 19 18 1,l1 20 19,m1 21 1,iA 22 20 21 54 4,lA 23 22 4,o1 5 (.alloc (.agg [.i .i64 0,.i .i64 0,.i .i64 0,.s []])),sT 5 23 4] [0,1,5] AdQ) (oR [m1 72 1,bZ 73 .add 72 1,m1 4 73] [4])
def Afq:IC:=oS [m1 6 0,m1 7 0,nC 8 7,fA 9 8 22,l1 10 9,m1 11 1,o1 12 (.msl false 3 1 [.t 11]),o1 13 (.app (.t 10) (.t 12) 3 1),nC 14 6,fA 15 14 22,sT 15 13 1] [0,1] Aes
def Aeo:IC:=oS [mZ 4 0] [0,1] Afq
@[push_cast]def AvQ:List R:=[.t 4]
@[push_cast]def Ayc:=Ap oN.eq_1<|Ap mW.eq_1<|Ap sV.eq_1<|Ap rR.eq_1<|Ap AdQ.eq_1<|Ap Aes.eq_1<|Ap Afq.eq_1<|AM Aeo.eq_1
theorem Aqq:Au π 55 74 Aeo AvQ=true:=by kernel_rfl
def wE:IC:=sQ (oS [m1 26 11,nC 27 26,fA 28 27 23,l1 29 28,bZ 30 .eql 29 0,m1 31 30,Dv 32 31 4 1,Dr 33 31 32,B4 34 31 12,gT 35 31 (.iaddr (.t 33) (.t 34) 54 4),Dv 36 31 35 0,Dr 37 31 36,CH 38 31 .neq 37 13,pA 39 31 38] [4,11,12,39] (cD 39 .skip (.exit 0))) (.block 1 (.opx [m1 40 11,m1 41 12] [4,11,40,41] 42 55 [.t 40,.t 41] [m1 12 42] [4,11,12]))
def nQ:IC:=oP [m1 48 11,m1 49 11,nC 50 49,fA 51 50 22,l1 52 51,m1 53 12,o1 54 (.msl false 3 1 [.t 53]),o1 55 (.app (.t 52) (.t 54) 3 1),nC 56 48,fA 57 56 22,sT 57 55 1] [11]
def kQ:IC:=oS [lA 20 4 2,lA 21 5 16,m1 22 2,m1 23 3,o1 24 (.build [.nil,.nil,.s [],.s [],.s [],.nil,.nil,.s [],.s [],.s [],.s [],.i .i64 0,.i .i64 0,.nil,.nil,.nil,.nil,.nil,.nil,.b false,.np,.nil,.nil,.i .i64 0] [(0,2,.t 20),(2,16,.t 21),(18,1,.t 22),(19,1,.t 23)]),o1 25 (.mkm (.tbx 100) [.t 24]),m1 11 25] [4,11] (sQ (.wk (oP [mZ 12 0] [4,11,12])) (sQ (.block 0 (.loop wE)) (sQ (oS [m1 43 11,nC 44 43,fA 45 44 23,l1 46 45,bZ 47 .eql 46 0] [11,12,47] (cD 47 nQ .skip)) (oR [m1 58 11,m1 8 58] [8]))))
def AdK:IC:=sQ (oS [lA 14 4 2,q1 15 17 14,m1 13 15,xT 16 13 0,xT 17 13 1,m1 9 16,m1 10 17] [2,3,4,5,10] (oS [m1 18 10,bZ 19 .neq 18 0] [2,3,4,5,19] (cD 19 (oR [mC 8 .np] [8]) .skip))) kQ
def AdO:IC:=oS [bX 4 0,bX 5 1,mC 8 .np] [2,3,4,5] AdK
@[push_cast]def Avk:List R:=[.t 8]
@[push_cast]def AxV:=Ap wE.eq_1<|Ap nQ.eq_1<|Ap kQ.eq_1<|Ap AdK.eq_1<|AM AdO.eq_1
theorem AmX:Au π 33 59 AdO Avk=true:=by kernel_rfl
def uA:IC:=oS [m1 20 10,nC 21 20,fA 22 21 23,l1 23 22,bZ 24 .neq 23 0,m1 19 24] [10,19] (cD 19 (sQ (.ops [m1 25 10,nC 26 25,fA 27 26 23,l1 28 27,mC 8 (.s []),m1 9 28] [8,9] [[0,1],[1,2],[2,3],[3,5]]) .ret) .skip)
def AfV:IC:=sQ (.block 0 (oS [m1 17 10,o1 18 (.pu (.nilq .p false) [.t 17]),m1 16 18] [10,16] (cD 16 (oR [mC 8 (.s []),mZ 9 1] [8,9]) uA))) (oR [m1 29 10,nC 30 29,fA 31 30 20,o1 32 (.calls 45 [.t 31]),m1 8 32,mZ 9 0] [8,9])
def AeY:IC:=oS [bX 4 0,bX 5 1,mC 8 (.s []),mZ 9 0] [2,3,4,5] (sQ (.opx [lA 11 4 2,lA 12 5 16,m1 13 2,m1 14 3] [11,12,13,14] 15 33 [.t 11,.t 12,.t 13,.t 14] [m1 10 15] [10]) AfV)
@[push_cast]def Avz:List R:=[.t 8,.t 9]
@[push_cast]def Aye:=Ap uA.eq_1<|Ap AfV.eq_1<|AM AeY.eq_1
theorem Arm:Au π 29 33 AeY Avz=true:=by kernel_rfl
def Afs:IC:=sQ (oS [m1 16 10,o1 17 (.pu (.nilq .p false) [.t 16])] [10,17] (cD 17 (oR [mC 8 .nil,mZ 9 1] [8,9]) .skip)) (oR [m1 18 10,nC 19 18,fA 20 19 22,l1 21 20,m1 8 21,mZ 9 0] [8,9])
def Aee:IC:=oS [bX 4 0,bX 5 1,mC 8 .nil,mZ 9 0] [2,3,4,5] (sQ (.opx [lA 11 4 2,lA 12 5 16,m1 13 2,m1 14 3] [11,12,13,14] 15 33 [.t 11,.t 12,.t 13,.t 14] [m1 10 15] [10]) Afs)
@[push_cast]def Avf:List R:=[.t 8,.t 9]
@[push_cast]def Ay7:=Ap Afs.eq_1<|AM Aee.eq_1
theorem Asw:Au π 15 22 Aee Avf=true:=by kernel_rfl
def Ags:IC:=oR [fA 3 1 0,lA 4 3 16,o1 5 (.msl false 30 16 [.t 4]),o1 6 (.build [.nil,.nil,.nil] [(0,1,.t 5)]),q1 7 32 6,m1 8 7,Dv 9 8 1 16,Dr 10 8 9,gT 11 8 (.call 18 [.t 10]),pA 12 8 11,m1 2 12] [2]
def AeA:IC:=oS [bX 1 0,mC 2 (.b false)] [1] Ags
@[push_cast]def Auy:List R:=[.t 2]
@[push_cast]def AxQ:=Ap Ags.eq_1<|AM AeA.eq_1
theorem ArQ:Au π 13 13 AeA Auy=true:=by kernel_rfl
def AdF:IC:=oR [lA 6 3 2,fA 7 2 0,lA 8 7 16,fA 9 2 16,l1 10 9,fA 11 2 17,l1 12 11,o1 13 (.call 29 [.t 6,.t 8,.t 10,.t 12]),xT 14 13 0,xT 15 13 1,m1 4 14,m1 5 15] [4,5]
def Af9:IC:=oS [bX 2 0,bX 3 1,mC 4 (.s []),mZ 5 0] [2,3] AdF
@[push_cast]def AuF:List R:=[.t 4,.t 5]
@[push_cast]def AyG:=Ap AdF.eq_1<|AM Af9.eq_1
theorem AsC:Au π 16 16 Af9 AuF=true:=by kernel_rfl
def AeJ:IC:=sQ (.block 3 (oP [m1 82 13,m1 83 82,Br 84 83 8,Br 85 83 14,gF 86 83 (.iaddr (.t 84) (.t 85) 3 1),Du 87 83 86,Br 88 83 12,gF 89 83 (.bin .eql (.t 87) (.t 88)),pO 90 83 89,m1 13 90] [4,5,7,8,10,11,12,13,14])) (oP [m1 80 14,bZ 81 .add 80 1,m1 14 81] [4,5,7,8,10,11,12,13,14])
def AfM:IC:=oR [m1 117 10,m1 118 18,bT 119 .eql 117 118,m1 120 119,B4 121 120 11,B4 122 120 19,gT 123 120 (.bin .eql (.t 121) (.t 122)),pA 124 120 123,m1 6 124] [6]
def AdY:IC:=oS [fA 99 15 1,l1 100 99,m1 101 12,lA 102 4 4,iA 103 100 101 54 4,sT 103 102 4] [4,5,7,8,10,11,12,15] (sQ (sQ (.wk (oP [lA 105 15 2,q1 106 17 105,m1 104 106,xT 107 104 0,xT 108 104 1,m1 16 107,m1 17 108] [4,5,7,8,10,11,12,15,17])) (oS [m1 109 17,bZ 110 .neq 109 0] [4,5,7,8,10,11,12,15,110] (cD 110 (.exit 1) .skip))) (oS [lA 112 5 18,lA 113 15 2,q2 114 16 112 113,m1 111 114,xT 115 111 0,xT 116 111 1,m1 18 115,m1 19 116] [10,11,18,19] AfM))
def Aej:IC:=sQ (.ops [fA 92 7 0,l1 93 92,o1 94 (.msl true 54 4 []),fA 95 7 1,l1 96 95,⟨some 97,.app (.t 94) (.t 96) 54 4,none,[.t 92]⟩,o1 98 (.build [.nil,.nil] [(0,1,.t 93),(1,1,.t 97)]),o1 15 (.alloc (.agg [.nil,.nil])),sT 15 98 2] [4,5,7,8,10,11,12,15] [[0,1],[3,4],[2,5],[4,5],[1,6],[5,6],[1,8],[4,8],[5,8],[6,8],[7,8]]) AdY
def AfD:IC:=sQ (oS [mZ 14 0] [4,5,7,8,10,11,12,13,14] (.block 2 (.loop (sQ (oS [m1 76 14,m1 77 8,nL 78 77,bT 79 .lss 76 78] [4,5,7,8,10,11,12,13,14,79] (cD 79 .skip (.exit 2))) AeJ)))) (sQ (oS [m1 91 13] [4,5,7,8,10,11,12,91] (cD 91 (.exit 1) .skip)) Aej)
def AeM:IC:=sQ (.block 1 (oS [fA 69 7 1,l1 70 69,m1 71 12,iA 72 70 71 54 4,fA 73 72 0,l1 74 73,bZ 75 .eql 74 11,m1 13 75] [4,5,7,8,10,11,12,13] AfD)) (oP [m1 67 12,bZ 68 .add 67 1,m1 12 68] [4,5,7,8,10,11,12])
def Aen:IC:=sQ (oS [mZ 12 0] [4,5,7,8,10,11,12] (.block 0 (.loop (sQ (oS [m1 62 12,fA 63 7 1,l1 64 63,nL 65 64,bT 66 .lss 62 65] [4,5,7,8,10,11,12,66] (cD 66 .skip (.exit 0))) AeM)))) (oR [mC 6 (.b true)] [6])
def Aeb:IC:=sQ (oS [m1 49 9,bZ 50 .neq 49 0,m1 51 50,DA 52 51 4 0,Du 53 51 52,Dw 54 51 .eql 53 11,pO 55 51 54] [4,5,7,8,55] (cD 55 (oR [mC 6 (.b true)] [6]) .skip)) (oS [lA 57 5 18,lA 58 7 2,q2 59 16 57 58,m1 56 59,xT 60 56 0,xT 61 56 1,m1 10 60,m1 11 61] [4,5,7,8,10,11] Aen)
def Adz:IC:=oS [lA 39 7 2,fA 40 5 0,lA 41 40 16,fA 42 5 16,l1 43 42,fA 44 5 17,l1 45 44,o1 46 (.call 15 [.t 39,.t 41,.t 43,.t 45]),m1 38 46,xT 47 38 0,xT 48 38 1,m1 8 47,m1 9 48] [4,5,7,8,9] Aeb
def Aq7:IC:=sQ (oS [lA 22 3 2,q1 23 12 22,nT 24 23,m1 25 24,gF 26 25 (.load (.t 5) 18 true),gF 27 25 (.call 13 [.t 26]),gF 28 25 (.not (.t 27)),pO 29 25 28,m1 30 29,DA 31 30 4 3,Du 32 30 31,gF 33 30 (.lenS (.t 32)),Dw 34 30 .gtr 33 300,pO 35 30 34] [3,4,5,35] (cD 35 (oR [mC 6 (.b true)] [6]) .skip)) (oS [lA 36 3 2,q1 37 14 36,o1 7 (.alloc (.agg [.nil,.nil])),sT 7 37 2] [4,5,7] Adz)
def AsZ:IC:=oS [bX 3 0,bX 4 1,bX 5 2,mC 6 (.b false)] [3,4,5] (sQ (oS [o1 20 (.call 11 []),nT 21 20] [3,4,5,21] (cD 21 (oR [mC 6 (.b false)] [6]) .skip)) Aq7)
@[push_cast]def f5R:List R:=[.t 6]
@[push_cast]def f5e:=Ap AeJ.eq_1<|Ap AfM.eq_1<|Ap AdY.eq_1<|Ap Aej.eq_1<|Ap AfD.eq_1<|Ap AeM.eq_1<|Ap Aen.eq_1<|Ap Aeb.eq_1<|Ap Adz.eq_1<|Ap Aq7.eq_1<|AM AsZ.eq_1
theorem bB:Au π 5 125 AsZ f5R=true:=by kernel_rfl
end Go.Ir

namespace Go.Ir
open Go.Proofs
variable(W0:World)
set_option maxHeartbeats 4000000 in
theorem Xg(L:BQ)(k:Int)(c:List Aa)(v:BD)(D:v.text.length<=2^29)(y:A8 L.card+A8 L.ord<=2^24)(C:c.length<=2^30) :
  Al π W0 126 [L.enc,.i .i64 k,.sl (c.map V.s),v.enc] [] (.tup [.s (Ly L k c v).1,.i .i64 (Ly L k c v).2]) []:=by
 have r:=Uu W0 k;have o:=Ox W0 L k;have u:A8 (H7 L k)<=2^30:=by
  unfold H7;split
  .omega
  .split
   .omega
   .simp[A8]
 have t:Al π W0 152 [OM L k] [] (.b (CS [] (H7 L k))) []:=by
  refine CZ (I8 W0 (H7 L k) u) rfl λj a F p l=>?_
  match j with
  | 0=>simp at p l;subst p l;exact XZ L k
  | j+1=>simp at p
 have e:=Amw W0 k v (by omega);have d:=Z8 W0 L k c v D y C;have z:=NO c (FH L k v);generalize hS:Ly L k c v=S;unfold Ly at hS;generalize CS [] (H7 L k)=R at *;generalize OM L k=E at *;generalize Dh k=w at *;generalize LJ k v=x at *;generalize DC c (FH L k v)=h at *;rw[BQ.enc_eq] at o d⊢;rw[BD.enc_eq] at e d⊢;refine Ae (vs:=[.s S.1,.i .i64 S.2]) AgI (by simp) (by simp) λn0 q=>?_;clear q;by_cases g:(w&&R&&x)=true
 .simp only[A0b] at g;obtain⟨⟨rfl,rfl⟩,rfl⟩:=g;simp only[bq] at hS;cases m:decide (h<0) with
  | true=>
   have f:h<0:=of_decide_eq_true m;rw[if_pos f] at hS;subst hS;simp only[push_cast,reduceEqDiff]
   repeat' (first|(first|refine Ac (by exact r) ?_|refine Ac (by exact o) ?_|refine Ac (by exact t) ?_|refine Ac (by exact e) ?_|refine Ac (by exact d) ?_)|intro _)<;>(try simp only[push_cast,reduceEqDiff,m])
   refine Ad ?_;simp[push_cast]
  | false=>
   have f:¬h<0:=of_decide_eq_false m;rw[if_neg f] at hS;subst hS;obtain⟨j,rfl⟩:∃j:Nat,h=j:=⟨h.toNat,by omega⟩
   have B:j<c.length:=by omega
   have A:(c.map V.s)[j]?=some (.s (c.getD j [])):=by rw[Ak6,Aue,AeP B];rfl
   simp only[push_cast,reduceEqDiff]
   repeat' (first|(first|refine Ac (by exact r) ?_|refine Ac (by exact o) ?_|refine Ac (by exact t) ?_|refine Ac (by exact e) ?_|refine Ac (by exact d) ?_)|intro _)<;>(try simp only[push_cast,reduceEqDiff,m,A])
   refine Ad ?_;simp[push_cast]
 .cases w<;>cases R<;>cases x
  all_goals (first|(exact absurd rfl g)|skip)
  all_goals (simp only[bq] at hS;subst hS;simp only[push_cast,reduceEqDiff])
  all_goals (repeat' (first|(first|refine Ac (by exact r) ?_|refine Ac (by exact o) ?_|refine Ac (by exact t) ?_|refine Ac (by exact e) ?_)|intro _)<;>(try simp only[push_cast,reduceEqDiff]))
  all_goals (refine Ad ?_;simp[push_cast])
structure MX where
 X:WX
 names:List Aa
 ins:List Ay
def T6:Nat:=100
def mA(u:Bool)(rid:Id):V:=if u then .ref rid 20 else .np
def rC(M:MX)(a:V)(b t:Id)(e:Int):V:=.agg [.sl (M.names.map V.s),.sl (M.ins.map Ay.enc),.s M.X.L.tag,.s M.X.L.parent,.s M.X.L.dir,.sl (M.X.L.card.map AH.enc),.sl (M.X.L.ord.map AH.enc),.s M.X.L.dec,.s M.X.L.grp,.s M.X.L.minus,.s M.X.L.perc,.i .i64 M.X.L.prim,.i .i64 M.X.L.sec,.sl (M.X.L.lists.map CN.enc),.sl (M.X.L.units.map DG.enc),.sl (M.X.L.dates.map CX.enc),.sl (M.X.L.months.map V.s),.sl (M.X.L.days.map V.s),.sl (M.X.vs.map BD.enc),.b M.X.iso,a,.arr b,.arr t,.i .i64 e]
@[push_cast] theorem AdE(M:MX)(a:V)(b t:Id)(e:Int):rC M a b t e=.agg [.sl (M.names.map V.s),.sl (M.ins.map Ay.enc),.s M.X.L.tag,.s M.X.L.parent,.s M.X.L.dir,.sl (M.X.L.card.map AH.enc),.sl (M.X.L.ord.map AH.enc),.s M.X.L.dec,.s M.X.L.grp,.s M.X.L.minus,.s M.X.L.perc,.i .i64 M.X.L.prim,.i .i64 M.X.L.sec,.sl (M.X.L.lists.map CN.enc),.sl (M.X.L.units.map DG.enc),.sl (M.X.L.dates.map CX.enc),.sl (M.X.L.months.map V.s),.sl (M.X.L.days.map V.s),.sl (M.X.vs.map BD.enc),.b M.X.iso,a,.arr b,.arr t,.i .i64 e]:=rfl
def BU(rid:Id)(M:MX)(u:Bool)(b t:Id)(st:Aa×Int):Aj:=[(rid,.tbox T6 (rC M (mA u rid) b t st.2)),(b,.arr 5 1 (Az st.1))]
def MRW(rid:Id)(M:MX)(b t:Id)(st:Aa×Int)(n n':Nat)(v:V)(σ':Aj):Prop:=v=.tup []/\∃(c:Bool) (a:Id),(n<=a.1/\a.1<n'\/a=b)/\σ'=BU rid M c a t st
theorem CE{rid b t:Id}{M:MX}{u:Bool}{st:Aa×Int}:lk (BU rid M u b t st) rid=some (.tbox T6 (rC M (mA u rid) b t st.2)):=by simp[BU,lk]
theorem nH{rid b t x:Id}{M:MX}{u:Bool}{st:Aa×Int}{e:A5}{τ:Aj}(a:rid≠x)(c:b≠x):lk (BU rid M u b t st++(x,e)::τ) x=some e:=by simp[BU,lk,a,c]
theorem Uv{rid b t x:Id}{M:MX}{u:Bool}{st:Aa×Int}(a:rid≠x)(c:b≠x):lk (BU rid M u b t st) x=none:=by simp[BU,lk,a,c]
theorem DZ{rid b t x y:Id}{M:MX}{u:Bool}{st:Aa×Int}{a c:A5}{σo:Aj}(e:rid≠x)(f:b≠x)(g:rid≠y)(h:b≠y):over (BU rid M u b t st) σo ((y,a)::(x,c)::BU rid M u b t st)=σo++[(y,a),(x,c)]:=
 EV (pre:=[(y,a),(x,c)]) (λp hp q d=>by
  simp[BU] at hp d;rcases hp with rfl|rfl<;>rcases d with rfl|rfl
  .exact AeS g
  .exact AeS h
  .exact AeS e
  .exact AeS f)
theorem Ct{rid b t x y:Id}{M:MX}{u:Bool}{st:Aa×Int}{a c:A5}(f:rid≠x)(g:b≠x)(h:rid≠y)(j:b≠y):∀i e,lk (BU rid M u b t st) i=some e->lk ((y,a)::(x,c)::BU rid M u b t st) i=some e:=
 Aci (pre:=[(y,a),(x,c)]) λq d=>by
  simp at d;rcases d with rfl|rfl
  .exact Uv h j
  .exact Uv f g
theorem Zs(rid b t:Id)(M:MX)(u:Bool)(l s:Aa)(e:Int)(a:b≠rid)(h:l.length+s.length<=2^30) :
  Ex π W0 124 [.ref rid 20,.s s] (BU rid M u b t (l,e)) (λn n' v σ'=>v=.tup [.i .i64 s.length,.ni]/\∃c:Id,(n<=c.1/\c.1<n')/\σ'=BU rid M true c t (l++s,e)):=by
 generalize B:(fun(n n':Nat) (v:V) (σ':Aj)=>v=V.tup [.i .i64 s.length,.ni]/\∃c:Id,(n<=c.1/\c.1<n')/\σ'=BU rid M true c t (l++s,e))=R;refine BK yF (by simp) λn0 g=>?_;have E:rid.1<n0:=g rid _ (by simp[BU,lk];rfl);have D:b.1<n0:=g b _ (by simp[BU,lk,AeS a];rfl);clear g;have d:Al π W0 180 [.ref rid 20] [(rid,.tbox T6 (rC M (mA u rid) b t e))] (.tup []) [(rid,.tbox T6 (rC M (mA true rid) b t e))]:=by
  cases u with
  | true=>exact Jf (by kernel_rfl) rfl λb w o=>N3 b 20 w o
  | false=>exact HI (by kernel_rfl) rfl (by simp[rC,mA,Db,cells]) λb w o r q m=>Mh T6 24 20 (by kernel_rfl) b w o r q m
 simp only[AdE] at d;have y:(rid=b)=False:=eq_false (AeS a);have C:(b=rid)=False:=eq_false a;simp only[push_cast,BU];intro k1;refine Bx d (λi e h=>AB (τ:=[(b,A5.arr 5 1 (Az l))]) h) ?_;rw[IU (λp hp=>by simp at hp;subst hp;exact a)];clear d;have x:∀k j:Nat,((n0+1+k1+1+k,j)=rid)=False:=λk j=>eq_false λf=>by have:=congrArg Prod.fst f;simp only at this;omega
 have z:∀k j:Nat,((n0+1+k,j)=b)=False:=λk j=>eq_false λf=>(by have:=congrArg Prod.fst f;(try simp only at this);omega)
 have A:∀k j:Nat,(b=(n0+1+k,j))=False:=λk j=>eq_false λf=>of_eq_false (z k j) f.symm;simp only[push_cast,seval,y,Bw];intro k2;refine Ar (by unfold AG;omega) ?_;simp only[push_cast,seval,x];intro k3 F;subst B;rw[EG];exact⟨_,Ak.refl,[.i .i64 s.length,.ni],BU rid M true (n0+1+k1+1+k2,14) t (l++s,e),⟨rfl,rfl,trivial⟩,KO (AeS (λf=>of_eq_false (x _ _) f)),rfl,_,⟨by simp only;omega,by simp only;omega⟩,rfl⟩
theorem Ah4(rid b t:Id)(M:MX)(u:Bool)(l:Aa)(e:Int)(a:b≠rid):Al π W0 125 [.ref rid 20] (BU rid M u b t (l,e)) (.i .i64 l.length) (BU rid M u b t (l,e)):=by refine Ae (vs:=[.i .i64 l.length]) AhM (by simp) (λ_ h=>h) λn0 c=>?_;clear c;have d:(rid=b)=False:=eq_false (AeS a);have f:(b=rid)=False:=eq_false a;simp only[push_cast,reduceEqDiff,d,BU,Bw];intros;exact Bm (by simp[get]) (λ_ _ h=>h)
theorem FA(rid b t:Id)(M:MX)(u:Bool)(l s:Aa)(f:b≠rid)(h:l.length+s.length<=2^30) :
  Ex π W0 86 [.ref rid 0,.s s] (BU rid M u b t (l,0)) (MRW rid M b t (Jn (l,0) (.pc s))):=by
 generalize g:MRW rid M b t (Jn (l,0) (.pc s))=R;refine BK AnP (by simp) λn0 d=>?_;have r:rid.1<n0:=d rid _ (by simp[BU,lk];rfl);have q:b.1<n0:=d b _ (by simp[BU,lk,AeS f];rfl);clear d;simp only[push_cast,seval,reduceEqDiff,CE];intro k1;refine Bd (Zs W0 rid b t M u l s 0 f (by omega)) (λ_ _ h=>h) (λw v σo p g=>?_);obtain⟨rfl,e,⟨i,m⟩,rfl⟩:=g;rw[Ua];simp only[push_cast,seval,reduceEqDiff,CE];intro k2;have a:e≠rid:=λo=>by rw[o] at i;omega
 refine Bx (Ah4 W0 rid e t M true (l++s) 0 a) (λ_ _ h=>h) ?_;rw[C6];cases c:decide (((l++s).length:Int)>20000) with
 | false=>simp only[push_cast,seval,reduceEqDiff,c];intro k3;subst g;refine⟨_,Ak.refl,[],_,trivial,λ_ _ h=>h,rfl,true,e,.inl ⟨by omega,by simp only;omega⟩,?_⟩;unfold Jn;simp only;rw[if_neg (of_decide_eq_false c)]
 | true=>have j:(rid=e)=False:=eq_false (AeS a);have k:(e=rid)=False:=eq_false a;simp only[push_cast,seval,reduceEqDiff,c,CE,BU,j,k];intros;subst g;refine⟨_,Ak.refl,[],_,trivial,λ_ _ h=>h,rfl,true,e,.inl ⟨by omega,by simp only;omega⟩,?_⟩;unfold Jn;simp only;rw[if_pos (of_decide_eq_true c)];rfl
theorem zR(k:Int)(h:5<=k/\k<=9):Al π W0 127 [.i .i64 k] [] (.i .i64 (k-3)) []:=by
 have b:k=5\/k=6\/k=7\/k=8\/k=9:=by omega
 refine Ae (vs:=[.i .i64 (k-3)]) Ajm (by simp) (by simp) λn0 a=>?_;clear a;have c:Fw (.aget 10 1 false) [.agg [.i .i64 0,.i .i64 0,.i .i64 0,.i .i64 0,.i .i64 0,.i .i64 2,.i .i64 3,.i .i64 4,.i .i64 5,.i .i64 6],.i .i64 k]=some (.i .i64 (k-3)):=by rcases b with rfl|rfl|rfl|rfl|rfl<;>rfl
 simp only[push_cast,seval,c];intros;exact Af (by simp[get])
theorem Ab6(h:Bi W0)(l:Bv W0)(L:BQ)(c:Nat)(g:Wa L c)(k:Int)(st:Aa)(v:BD)(m:R9 v)(o:st.length<=2^24) :
  Al π W0 108 [L.enc,.agg [.i .i64 k,.s [],.s [],.s st,.nil,.nil],v.enc] [] (.tup [.s (MU L k st v).1,.i .i64 (MU L k st v).2]) []:=by
 refine CZ (TE W0 h l L c g ⟨k,[],[],st,[],[]⟩ v m o) rfl λj a p f d=>?_
 match j with
 | 0=>simp at f d;subst f d;exact .refl _
 | 1=>
  simp at f d;subst f d;rw[Aw.enc_eq];refine .agg _ _ rfl λk c q b e=>?_
  match k with
  | 0=>simp at b e;subst b e;exact .refl _
  | 1=>simp at b e;subst b e;exact .refl _
  | 2=>simp at b e;subst b e;exact .refl _
  | 3=>simp at b e;subst b e;exact .refl _
  | 4=>simp at b e;subst b e;exact .nil
  | 5=>simp at b e;subst b e;exact .nil
  | k+6=>simp at b
 | 2=>simp at f d;subst f d;exact .refl _
 | j+3=>simp at f
set_option maxHeartbeats 4000000 in
theorem AkZ(hM:Bi W0)(hT:Bv W0)(c:Nat)(rid b t:Id)(M:MX)(u:Bool)(l:Aa)(x:Ay)(T:XOk M.X c)(B:b≠rid)(h:l.length<=20000)(ho:5<=x.op/\x.op<=9)(ha:0<=x.a/\x.a.toNat<M.names.length)(hs:x.s.length<=2^24) :
  Ex π W0 88 [.ref rid 0,x.enc] (BU rid M u b t (l,0)) (MRW rid M b t (Jn (l,0) (zF M.X M.names x))):=by
 obtain⟨a0,S⟩:=ha;have a2:(0<=x.a)=True:=eq_true a0;have a3:=cL S;have g:=Rg W0 M.X.vs (C5 M.names x.a) T.n (λv hv=>(T.vals v hv).1.len);have D:=zR W0 x.op ho;generalize J:zF M.X M.names x=E;unfold zF at J;generalize r:MRW rid M b t (Jn (l,0) E)=R;refine BK Aqr (by simp) λn0 O=>?_;have hw:rid.1<n0:=O rid _ (by simp[BU,lk];rfl);have hb:b.1<n0:=O b _ (by simp[BU,lk,AeS B];rfl);clear O;rw[Ay.enc_eq];obtain⟨y,V⟩:∃y:Id,y=(n0,3):=⟨_,rfl⟩;have W:y.1=n0:=by rw[V]
 have m:rid≠y:=λd=>by rw[d] at hw;omega
 have k:b≠y:=λd=>by rw[d] at hb;omega
 have o:=eq_false m;have p:=eq_false (AeS m);have F:=eq_false k;have G:=eq_false (AeS k);have H:=eq_false B;have I:=eq_false (AeS B);cases Y:Ka M.X.vs (C5 M.names x.a) with
 | none=>
  rw[Y] at J g;simp only at J;subst J;simp only[oZ,gV,AiT,AxU] at g;simp only[push_cast,seval,reduceEqDiff,<-V,BU,lk,o,p,F,G,H,I,a2,S,a3,Adp];have _h:=trivial;repeat' (first|(first|((first|apply Ab|apply Ah|apply Ag)<;>intro _h)|refine Ac g ?_|refine Ar (by omega) ?_)<;>simp only[push_cast,seval,reduceEqDiff,_h,<-V,BU,lk,o,p,F,G,H,I,a2,S,a3,Adp]|intro _)
  generalize hz:((_,4):Id)=z;have q:n0<z.1:=by rw[<-hz];simp only;omega
  have f:z≠rid:=λd=>by rw[d] at q;omega
  have e:z≠b:=λd=>by rw[d] at q;omega
  have C:z≠y:=λd=>by rw[d,W] at q;omega
  have w:=eq_false f;have z2:=eq_false (AeS f);have z3:=eq_false e;have z4:=eq_false (AeS e);have z5:=eq_false C;have A:=eq_false (AeS C);simp only[push_cast,seval,reduceEqDiff,o,p,F,G,H,I,w,z2,z3,z4,z5,A]
  repeat' (first|(((first|apply Ab|apply Ah|apply Ag)<;>intro _h)<;>simp only[push_cast,seval,reduceEqDiff,_h,o,p,F,G,H,I,w,z2,z3,z4,z5,A])|(refine Ar (by simp only[Ai8,Aj0,An0,AJ]<;>omega) ?_;simp only[push_cast,seval,reduceEqDiff,o,p,F,G,H,I,w,z2,z3,z4,z5,A])|intro _)
  subst r;exact⟨_,Ak.refl,[],BU rid M u b t (l,12),trivial,Ct (st:=(l,12)) m k (AeS f) (AeS e),rfl,u,b,.inr rfl,rfl⟩
 | some v=>
  rw[Y] at J g;simp only at J;subst J;obtain⟨ab,ap⟩:=T.vals v (Jv Y);have j:=Ab6 W0 hM hT M.X.L c T.L (x.op-3) x.s v ab hs;have U:=iR W0 hT M.X c T (x.op-3) x.s v (Jv Y);rw[BQ.enc_eq,BD.enc_eq] at j;simp only[oZ,gV,Atx] at g;rw[BD.enc_eq] at g;unfold AdW at r;generalize MU M.X.L (x.op-3) x.s v=NF at *;obtain⟨nt,ne⟩:=NF;simp only at r j U;have ac:=AhK W0 nt U;have ar:=vR nt;simp only[push_cast,seval,reduceEqDiff,<-V,CE,o,p,a2,S,a3,Adp];have _h:=trivial;repeat' (first|(first|((first|apply Ab|apply Ah|apply Ag)<;>intro _h)|refine Ac g ?_|refine Ac D ?_|refine Ac j ?_|refine Ar (by omega) ?_)<;>simp only[push_cast,seval,reduceEqDiff,_h,<-V,CE,o,p,a2,S,a3,Adp]|intro _)
  generalize hz:((_,4):Id)=z;have q:n0<z.1:=by rw[<-hz];simp only;omega
  have f:z≠rid:=λd=>by rw[d] at q;omega
  have e:z≠b:=λd=>by rw[d] at q;omega
  have C:z≠y:=λd=>by rw[d,W] at q;omega
  have w:=eq_false f;have z2:=eq_false (AeS f);have z3:=eq_false e;have z4:=eq_false (AeS e);have z5:=eq_false C;have A:=eq_false (AeS C);cases d:(ne==0) with
  | false=>
   rw[d] at r;simp only[Adx,if_false] at r;simp only[push_cast,seval,reduceEqDiff,bne,d,BU,lk,o,p,F,G,H,I,w,z2,z3,z4,z5,A];have _h:=trivial;repeat' (first|(first|((first|apply Ab|apply Ah|apply Ag)<;>intro _h)|refine Ac g ?_|refine Ac D ?_|refine Ac j ?_|refine Ar (by omega) ?_)<;>simp only[push_cast,seval,reduceEqDiff,_h,bne,d,BU,lk,o,p,F,G,H,I,w,z2,z3,z4,z5,A]|intro _)
   subst r;exact⟨_,Ak.refl,[],BU rid M u b t (l,ne),trivial,Ct (st:=(l,ne)) m k (AeS f) (AeS e),rfl,u,b,.inr rfl,rfl⟩
  | true=>
   rw[d] at r;simp only[if_true] at r;cases hI:M.X.iso with
   | true=>
    rw[hI] at r;simp only[if_true] at r;generalize Nx nt=WT at *;simp only[push_cast,seval,reduceEqDiff,bne,d,hI,CE,o,p,w,z2,z5,A];have _h:=trivial;repeat' (first|(first|((first|apply Ab|apply Ah|apply Ag)<;>intro _h)|refine Ac g ?_|refine Ac D ?_|refine Ac j ?_|refine Ac ac ?_|refine Ar (by omega) ?_)<;>simp only[push_cast,seval,reduceEqDiff,_h,bne,d,hI,CE,o,p,w,z2,z5,A]|intro _)
    refine Bd (FA W0 rid b t M u l WT B (by omega)) (Ct (st:=(l,0)) m k (AeS f) (AeS e)) (λn2 v σo aa K=>?_);obtain⟨rfl,u1,Z,N,rfl⟩:=K;rw[DZ m k (AeS f) (AeS e)];simp only[push_cast,seval,reduceEqDiff,bne,d,hI,CE,o,p,w,z2,z5,A];intros;subst r;exact⟨_,Ak.refl,[],_,trivial,λi z h=>AB h,rfl,u1,Z,Kz N (by omega) (by simp only;omega),rfl⟩
   | false=>
    rw[hI] at r;simp only[Adx,if_false] at r;simp only[push_cast,seval,reduceEqDiff,bne,d,hI,CE,o,p,w,z2,z5,A];have _h:=trivial;repeat' (first|(first|((first|apply Ab|apply Ah|apply Ag)<;>intro _h)|refine Ac g ?_|refine Ac D ?_|refine Ac j ?_|refine Ar (by omega) ?_)<;>simp only[push_cast,seval,reduceEqDiff,_h,bne,d,hI,CE,o,p,w,z2,z5,A]|intro _)
    refine Bd (FA W0 rid b t M u l nt B (by omega)) (Ct (st:=(l,0)) m k (AeS f) (AeS e)) (λn2 v σo aa K=>?_);obtain⟨rfl,u1,Z,N,rfl⟩:=K;rw[DZ m k (AeS f) (AeS e)];simp only[push_cast,seval,reduceEqDiff,bne,d,hI,CE,o,p,w,z2,z5,A];intros;subst r;exact⟨_,Ak.refl,[],_,trivial,λi z h=>AB h,rfl,u1,Z,Kz N (by omega) (by simp only;omega),rfl⟩
def Zw(L:BQ)(vs:List BD)(iso:Bool):V:=.agg [.s L.tag,.s L.parent,.s L.dir,.sl (L.card.map AH.enc),.sl (L.ord.map AH.enc),.s L.dec,.s L.grp,.s L.minus,.s L.perc,.i .i64 L.prim,.i .i64 L.sec,.sl (L.lists.map CN.enc),.sl (L.units.map DG.enc),.sl (L.dates.map CX.enc),.sl (L.months.map V.s),.sl (L.days.map V.s),.sl (vs.map BD.enc),.b iso]
theorem Ez(L:BQ)(vs:List BD)(iso:Bool):Zw L vs iso=.agg [.s L.tag,.s L.parent,.s L.dir,.sl (L.card.map AH.enc),.sl (L.ord.map AH.enc),.s L.dec,.s L.grp,.s L.minus,.s L.perc,.i .i64 L.prim,.i .i64 L.sec,.sl (L.lists.map CN.enc),.sl (L.units.map DG.enc),.sl (L.dates.map CX.enc),.sl (L.months.map V.s),.sl (L.days.map V.s),.sl (vs.map BD.enc),.b iso]:=rfl
theorem dW(L:BQ)(vs:List BD)(iso:Bool)(f:Nh L<=2^40)(g:A8 L.card+A8 L.ord<=2^24)(h:vs.length<=2^40)(i:∀v∈vs,v.list.length<=2^40) :
  Al π W0 13 [Zw L vs iso] [] (.b (Jx L&&C9 (decide ((vs.length:Int)<=30)) vs)) []:=by
 have e:=zK W0 L f g;have c3:=ZG W0 vs h i;rw[BQ.enc_eq] at e;generalize Jx L=c at *;generalize C9 (decide ((vs.length:Int)<=30)) vs=d at *;rw[Ez];refine Ae (vs:=[.b (c&&d)]) ArQ (by simp) (by simp) λn0 a=>?_;clear a;simp only[push_cast,seval,reduceEqDiff];cases c<;>cases d
 all_goals (repeat' (first|(first|refine Ac (by exact e) ?_|refine Ac (by exact c3) ?_)|intro _)<;>(try simp only[push_cast,seval,reduceEqDiff]))
 all_goals exact Af (by simp[get])
theorem AhI{rid b t e:Id}{M:MX}{u f:Bool}{st c:Aa×Int}:∀id,lk (BU rid M u b t st) id≠none->lk (BU rid M f b e c) id≠none:=by
 intro id h;by_cases a:rid=id
 .simp[BU,lk,a]
 .by_cases d:b=id
  .simp[BU,lk,a,d]
  .simp[BU,lk,a,d] at h
theorem AaG{nn:Nat}{ins:List Ay}{i:Nat}{x:Ay}{c:List Ay}(o:Jh nn ins)(d:ins[i]?=some x)(f:x.op=10)(e:ins=ins.take (i+1)++c)(j:∀y∈c,y.op=11):False:=by
 have a:=o.la;have p:i<ins.length:=(AfJ.1 d).1;have m:ins.length=i+1+c.length:=by have:=congrArg List.length e;rw[Ai8,Ayk,AyY (by omega)] at this;exact this
 cases l:c.length with
 | zero=>
  have:ins.length-1=i:=by omega
  rw[this,Cg d] at a;omega
 | succ k=>
  have b:ins[ins.length-1]?=c[k]?:=by
   rw[show ins.length-1=(ins.take (i+1)).length+k by rw[Ayk,AyY (by omega)];omega];have h:(ins.take (i+1)++c)[(ins.take (i+1)).length+k]?=c[k]?:=by rw[Atj (by omega),Nat.add_sub_cancel_left]
   rwa [<-e] at h
  have g:c[k]?=some (c[k]'(by omega)):=AeP (by omega);rw[g] at b;rw[Cg b] at a;have:=j _ (Azz (by omega:k<c.length));omega
theorem AjV(c:Nat)(X:WX)(names:List Aa)(ins:List Ay)(i:Nat)(x:Ay)(o:XOk X c)(p:(Cu ins i).length<=2^30) :
  ∃(t:Aa) (u:Int) (w:Aa) (y:Int) (z:V) (ok:Bool) (m:Aa×Int),Al π W0 39 [.sl (X.vs.map BD.enc),.s (C5 names x.a)] [] (.tup [.agg [.s t,.i .i64 u,.s w,.i .i64 y,z],.b ok]) []/\
   Al π W0 126 [X.L.enc,.i .i64 x.b,.sl ((Cu ins i).map V.s),.agg [.s t,.i .i64 u,.s w,.i .i64 y,z]] [] (.tup [.s m.1,.i .i64 m.2]) []/\
   (ok=true->Ja X names ins i x=m)/\(ok=false->m.2≠0/\(Ja X names ins i x).2=if m.2==18 then 18 else 12):=by
 have e:=Rg W0 X.vs (C5 names x.a) o.n (λv A=>(o.vals v A).1.len);unfold Ja;cases q:Ka X.vs (C5 names x.a) with
 | none=>
  rw[q] at e;refine⟨[],0,[],0,.nil,false,Ly X.L x.b (Cu ins i) ⟨[],0,[],0,[]⟩,e,?_,λh=>(by cases h),λ_=>⟨?_,rfl⟩⟩
  .refine CZ (Xg W0 X.L x.b (Cu ins i) ⟨[],0,[],0,[]⟩ (by simp) o.rules p) rfl λj a D l d=>?_
   match j with
   | 0=>simp at l d;subst l d;exact .refl _
   | 1=>simp at l d;subst l d;exact .refl _
   | 2=>simp at l d;subst l d;exact .refl _
   | 3=>
    simp at l d;subst l d;rw[BD.enc_eq];refine .agg _ _ rfl λk c E f g=>?_
    match k with
    | 0=>simp at f g;subst f g;exact .refl _
    | 1=>simp at f g;subst f g;exact .refl _
    | 2=>simp at f g;subst f g;exact .refl _
    | 3=>simp at f g;subst f g;exact .refl _
    | 4=>simp at f g;subst f g;exact .nil
    | k+5=>simp at f
   | j+4=>simp at l
  .have r:LJ x.b ⟨[],0,[],0,[]⟩=false:=by unfold LJ I0;simp
   unfold Ly;rw[r];split
   .simp
   .split
    .simp
    .simp
 | some v=>rw[q] at e;obtain⟨B,C⟩:=o.vals v (Jv q);simp only[oZ,gV,Atx] at e;have p:=Xg W0 X.L x.b (Cu ins i) v (by omega) o.rules p;rw[BD.enc_eq] at e p;exact⟨_,_,_,_,_,true,_,e,p,λ_=>rfl,λh=>by cases h⟩
set_option maxHeartbeats 4000000 in
theorem Zf(c:Nat)(rid b t:Id)(M:MX)(u:Bool)(l:Aa)(i:Nat)(x:Ay)(hx:M.ins[i]?=some x)(hs:Jh M.names.length M.ins)(hX:XOk M.X c)(aj:b≠rid)(au:x.op=10)(hl:M.ins.length<=2^30) :
  Al π W0 87 [.ref rid 0,.i .i64 i] (BU rid M u b t (l,0)) (.i .i64 (H5 M.X M.names M.ins i x).1) (BU rid M u b t (l,(H5 M.X M.names M.ins i x).2)):=by
 have hi:i<M.ins.length:=(AfJ.1 hx).1;have az:(i<M.ins.length)=True:=eq_true hi;have ex:(M.ins.map Ay.enc)[i]?=some (.agg [.i .i64 x.op,.i .i64 x.a,.i .i64 x.b,.s x.s]):=by rw[Ak6,hx];rfl
 obtain⟨a0,a1⟩:=J5 (hs.pr i x hx) (by unfold JG;rw[au];rfl);have a2:(0<=x.a)=True:=eq_true a0;have a3:=cL a1;have aF:(M.ins.take (i+1)).length=i+1:=by rw[Ayk,AyY (by omega)]
 have ew:IntKind.i64.wrap ((i:Int)+1)=((M.ins.take (i+1)).length:Int):=by rw[wrap64 (by omega) (by omega),aF];simp
 have aS:(Cu M.ins i).length<=2^30:=by unfold Cu;obtain⟨q,hq⟩:=N8 (M.ins.drop (i+1));have:=congrArg List.length hq;simp at this⊢;omega
 obtain⟨g1,g2,g3,g4,g5,ok,KV,ay,D,B,ag⟩:=AjV W0 c M.X M.names M.ins i x hX aS;have N:=@L0 M.X M.names M.ins i x;generalize J:H5 M.X M.names M.ins i x=C;unfold H5 at J;rw[BQ.enc_eq] at D;have aA:=λw:Aa=>If W0 uV (Cu M.ins i) w (by omega);have ax:=λw:Aa=>@Mg (Cu M.ins i) w;have ah:Cu M.ins i=(Bu (M.ins.drop (i+1))).map (·.s):=rfl;generalize hS:Bu (M.ins.drop (i+1))=S at ah;have aw:∀I:Nat,I<(Cu M.ins i).length->∃y:Ay,M.ins[i+1+I]?=some y/\aAt M.ins (i+1+I)=y.a:=by intro I hI;unfold Cu at hI;rw[Adp] at hI;obtain⟨y,_,h2,_⟩:=MA hI;rw[AwF] at h2;exact⟨y,h2,by unfold aAt;rw[h2]⟩
 refine Ae (vs:=[.i .i64 C.1]) ArI (by simp) AhI λn0 ai=>?_;have hw:rid.1<n0:=ai rid _ (by simp[BU,lk];rfl);have hb:b.1<n0:=ai b _ (by simp[BU,lk,AeS aj];rfl);clear ai;simp only[push_cast,seval,reduceEqDiff,CE,ex,az,ew,Adp];intros;rename_i k4 k3 k2 k1;obtain⟨y,hy⟩:∃y:Id,y=(n0+1+k4,5):=⟨_,rfl⟩
 obtain⟨n1,aC⟩:∃n,n=n0+1+k4+1+k3+1+k2+1+k1:=⟨_,rfl⟩;rw[<-hy,<-aC];have bm:n0<y.1:=by rw[hy];simp only;omega
 have aX:y.1<n1:=by rw[hy];simp only;omega
 have bb:n0<n1:=by omega
 clear hy aC;have p:rid≠y:=λf=>by rw[f] at hw;omega
 have A:b≠y:=λf=>by rw[f] at hb;omega
 have G:=eq_false p;have H:=eq_false (AeS p);have e3:=eq_false A;have e4:=eq_false (AeS A);have e5:=eq_false aj;have e6:=eq_false (AeS aj);obtain⟨τ,T⟩:∃τ:Aj,τ=(y,A5.box (.agg [.i .i64 x.op,.i .i64 x.a,.i .i64 x.b,.s x.s]))::BU rid M u b t (l,0):=⟨_,rfl⟩
 rw[<-T];have tr:lk τ rid=some (.tbox T6 (rC M (mA u rid) b t 0)):=by rw[T];simp only[lk];rw[if_neg (AeS p)];exact CE
 have tn:∀id:Id,n1<=id.1->lk τ id=none/\del τ id=τ:=by
  intro id bk;have d1:y≠id:=λf=>by rw[f] at aX;omega
  have d2:rid≠id:=λf=>by rw[f] at hw;omega
  have d3:b≠id:=λf=>by rw[f] at hb;omega
  rw[T];exact⟨by simp[BU,lk,d1,d2,d3],by simp[BU,del,d1,d2,d3]⟩
 refine Am (M.ins.drop (i+1)).length (Inv:=λm st=>∃c g dn n kid,dn=M.ins.take (i+1)++c/\M.ins=dn++g/\m=g.length/\c++Bu g=S/\(∀z∈c,z.op=11)/\n1<=n/\n1<=kid.1/\kid.1<n/\st=⟨[(0,.ref rid 0),(1,.i .i64 i),(5,.ref y 0),(6,.arr kid),(7,.i .i64 dn.length)],(kid,.arr 9 1 ((c.map (·.s)).map V.s))::τ,n⟩) ⟨_,(Ak.own (s:=6) (e:=9) (sz:=1) (k:=0) rfl).trans (Ak.envD (env':=[(0,.ref rid 0),(1,.i .i64 i),(5,.ref y 0),(6,.arr (n1,0)),(7,.i .i64 (M.ins.take (i+1)).length)]) (λs=>?_) (A0d _)),[],M.ins.drop (i+1),M.ins.take (i+1),_,(n1,0),by simp,(AyW _ _).symm,rfl,hS,(by simp),by omega,A0d _,A0e _,rfl⟩ ?_
 .left;simp only[get];by_cases h6:6=s
  .subst h6;simp
  .simp[h6]
 clear hS;rintro m _ ⟨cs,g,dn,n,kid,L,F,rfl,hd,K,hn,W,aQ,rfl⟩;have d1:kid≠rid:=λf=>by rw[f] at W;omega
 have ad:=eq_false d1;have td:=(tn kid W).2;cases g with
 | nil=>
  exfalso;rw[ApV] at F;rw[F] at L;refine AaG hs hx au (c:=cs) ?_ K
  conv=>lhs;rw[F,L]
  rw[<-F]
 | cons z g=>
  have aO:=AL F;have f1:=Sm F;have f3:(dn.length<M.ins.length)=True:=eq_true (by rw[F];simp);rw[Bu] at hd;cases E:(z.op==11) with
  | true=>
   rw[E] at hd;simp only[if_true] at hd;have aW:IntKind.i64.wrap ((dn.length:Int)+1)=((dn++[z]).length:Int):=Ai z (by omega);have aP:cs.length+1<=AG:=by
    have:cs.length<=dn.length:=by rw[L];simp
    unfold AG;omega
   have aq:∀k j:Nat,((n+1+k,j)=kid)=False:=λk j=>eq_false λf=>(by have:=congrArg Prod.fst f;(try simp only at this);omega)
   have ar:∀k j:Nat,(kid=(n+1+k,j))=False:=λk j=>eq_false λf=>of_eq_false (aq k j) f.symm;simp only[push_cast,seval,reduceEqDiff,tr,ad,f1,f3,E,aW,Adp,eq_true aP,td,aq,ar];intros;have hm:List.map V.s (List.map (λx=>x.s) cs)++[V.s z.s]=((cs++[z]).map (·.s)).map V.s:=by simp
   rw[hm];rename_i j3 j2 j1;refine⟨g.length,_,A0e _,Ak.refl,cs++[z],g,dn++[z],_,_,by rw[L];simp,by rw[F];simp,rfl,by rw[<-hd];simp,?_,?_,?_,?_,rfl⟩
   .intro q hq;rcases AmD.1 hq with h|h
    .exact K q h
    .simp at h;subst h;simpa using E
   .omega
   .simp only;omega
   .simp only;omega
  | false=>
   rw[E] at hd;simp only[Adx,if_false,ApV] at hd;subst hd;simp only[push_cast,seval,reduceEqDiff,tr,ad,f1,f3,E,Adp];intros;refine KC (Ak.frzAt (s:=6) (id:=kid) rfl (tn kid W).1 (λy hy=>by obtain⟨z,_,rfl⟩:=AmO.1 hy;rfl) (A0d _)) ?_;rw[<-ah];rw[T];rename_i k5;obtain⟨n2,aD⟩:∃n2,n2=n+1+k5:=⟨_,rfl⟩
   rw[<-aD];have bc:n1<=n2:=by omega
   clear aD td ad d1 F aO f1 f3 E ah T tr tn W aQ L K ex az ew aF;obtain⟨kb,U⟩:=KV;simp only at D B ag;have ae:(ok=true/\(U==0)=true)\/(∃e,C=((i:Int),e)/\((ok=true/\(U==0)=false/\e=U)\/(ok=false/\(U==18)=true/\e=U)\/(ok=false/\(U==18)=false/\e=12))):=by
    cases ok with
    | true=>
     cases d:(U==0) with
     | true=>exact .inl ⟨rfl,rfl⟩
     | false=>refine .inr ⟨U,?_,.inl ⟨rfl,rfl,rfl⟩⟩;rw[B rfl] at J;simp only[d,Adx,if_false] at J;exact J.symm
    | false=>
     obtain⟨h1,h2⟩:=ag rfl;rw[h2] at J;refine .inr ⟨if(U==18)=true then 18 else 12,?_,?_⟩
     .rw[<-J];split<;>rfl
     .cases aN:(U==18) with
      | true=>exact .inr (.inl ⟨rfl,rfl,by simpa using(by simpa using aN:U=18).symm⟩)
      | false=>exact .inr (.inr ⟨rfl,rfl,rfl⟩)
   rcases ae with⟨rfl,d⟩|⟨e,rfl,hE⟩
   .have aT:=B rfl;rw[aT] at J N;simp only[d,if_true] at J;obtain⟨i0,i1⟩:=ax kb (N d);have aB:=aA kb;generalize B7 (λy=>kb==y) (Cu M.ins i)=I at *;obtain⟨j,rfl⟩:∃j:Nat,I=j:=⟨I.toNat,by omega⟩
    obtain⟨q,aE,aV⟩:=aw j (by omega);rw[AxM,aV] at J;subst J;have aR:=(AfJ.1 aE).1;have w1:IntKind.i64.wrap ((i:Int)+1)=(i:Int)+1:=wrap64 (by omega) (by omega);have w2:IntKind.i64.wrap ((i:Int)+1+(j:Int))=(i:Int)+1+(j:Int):=wrap64 (by omega) (by omega);have w3:(0<=(i:Int)+1+(j:Int))=True:=eq_true (by omega);have w4:((i:Int)+1+(j:Int)).toNat=i+1+j:=by omega
    have v:(i+1+j<M.ins.length)=True:=eq_true aR;have Y:(M.ins.map Ay.enc)[i+1+j]?=some (.agg [.i .i64 q.op,.i .i64 q.a,.i .i64 q.b,.s q.s]):=by rw[Ak6,aE];rfl
    simp only[push_cast,seval,reduceEqDiff,G,H,CE,a2,a1,a3,Adp,w1,w2,w3,w4,v,Y,bne,d];have _h:=trivial;repeat' (first|(first|((first|apply Ab|apply Ah|apply Ag)<;>intro _h)|refine Ac ay ?_|refine Ar (by omega) ?_)<;>simp only[push_cast,seval,reduceEqDiff,_h,G,H,CE,a2,a1,a3,Adp,w1,w2,w3,w4,v,Y,bne,d]|intro _)
    generalize F:((_,8):Id)=z;have r:y.1<z.1:=by rw[<-F];simp only;omega
    have o:z≠rid:=λf=>by rw[f] at r;omega
    have R:z≠y:=λf=>by rw[f] at r;omega
    have Z:=eq_false o;have z2:=eq_false (AeS o);have z5:=eq_false R;have z6:=eq_false (AeS R);simp only[push_cast,seval,reduceEqDiff,G,H,Z,z2,z5,z6,CE,a2,a1,a3,Adp,w1,w2,w3,w4,v,Y,bne,d];have _h:=trivial;repeat' (first|(first|((first|apply Ab|apply Ah|apply Ag)<;>intro _h)|refine Ac D ?_|refine Ac aB ?_|refine Ar (by omega) ?_)<;>simp only[push_cast,seval,reduceEqDiff,_h,G,H,Z,z2,z5,z6,CE,a2,a1,a3,Adp,w1,w2,w3,w4,v,Y,bne,d]|intro _)
    refine Bm ?_ (Ct (st:=(l,0)) p A (AeS o) (λf=>by rw[<-f] at r;omega));simp[get]
   .skip;simp only[push_cast,seval,reduceEqDiff,G,H,CE,a2,a1,a3,Adp];have _h:=trivial;repeat' (first|(first|((first|apply Ab|apply Ah|apply Ag)<;>intro _h)|refine Ac ay ?_|refine Ar (by omega) ?_)<;>simp only[push_cast,seval,reduceEqDiff,_h,G,H,CE,a2,a1,a3,Adp]|intro _)
    generalize F:((_,8):Id)=z;have r:y.1<z.1:=by rw[<-F];simp only;omega
    have o:z≠rid:=λf=>by rw[f] at r;omega
    have R:z≠y:=λf=>by rw[f] at r;omega
    have O:z≠b:=λf=>by rw[f] at r;omega
    have Z:=eq_false o;have z2:=eq_false (AeS o);have z3:=eq_false O;have z4:=eq_false (AeS O);have z5:=eq_false R;have z6:=eq_false (AeS R);clear J B ag N ax aw aA;rcases hE with⟨rfl,d,rfl⟩|⟨rfl,d,rfl⟩|⟨rfl,d,rfl⟩
    .skip;simp only[push_cast,seval,reduceEqDiff,G,H,e3,e4,e5,e6,Z,z2,z3,z4,z5,z6,BU,lk,Adp,bne,d];have _h:=trivial;repeat' (first|(first|((first|apply Ab|apply Ah|apply Ag)<;>intro _h)|refine Ac D ?_|refine Ar (by omega) ?_)<;>simp only[push_cast,seval,reduceEqDiff,_h,G,H,e3,e4,e5,e6,Z,z2,z3,z4,z5,z6,BU,lk,Adp,bne,d]|intro _)
     refine Bm ?_ (Ct (st:=(l,e)) p A (AeS o) (AeS O));simp[get]
    .have B:e=18:=by simpa using d
     subst B;simp only[push_cast,seval,reduceEqDiff,G,H,e3,e4,e5,e6,Z,z2,z3,z4,z5,z6,BU,lk,Adp,bne];have _h:=trivial;repeat' (first|(first|((first|apply Ab|apply Ah|apply Ag)<;>intro _h)|refine Ac D ?_|refine Ar (by omega) ?_)<;>simp only[push_cast,seval,reduceEqDiff,_h,G,H,e3,e4,e5,e6,Z,z2,z3,z4,z5,z6,BU,lk,Adp,bne]|intro _)
     refine Bm ?_ (Ct (st:=(l,18)) p A (AeS o) (AeS O));simp[get]
    .skip;simp only[push_cast,seval,reduceEqDiff,G,H,e3,e4,e5,e6,Z,z2,z3,z4,z5,z6,BU,lk,Adp,bne,d];have _h:=trivial;repeat' (first|(first|((first|apply Ab|apply Ah|apply Ag)<;>intro _h)|refine Ac D ?_|refine Ar (by omega) ?_)<;>simp only[push_cast,seval,reduceEqDiff,_h,G,H,e3,e4,e5,e6,Z,z2,z3,z4,z5,z6,BU,lk,Adp,bne,d]|intro _)
     refine Bm ?_ (Ct (st:=(l,12)) p A (AeS o) (AeS O));simp[get]
def Gy(a:List Int):List V:=a.map (V.i .i64)
def MRT(rid:Id)(M:MX)(b:Id)(st:Aa×Int)(d:List Int)(next:Int)(n n':Nat)(v:V)(σ':Aj):Prop:=
 v=.i .i64 next/\∃(e:Bool) (a c:Id),(n<=a.1/\a.1<n'\/a=b)/\(n<=c.1/\c.1<n')/\a≠c/\σ'=BU rid M e a c st++[(c,.arr 3 1 (Gy d))]
theorem Abd{σ:Aj}{y t:Id}{Y T:A5}(b:lk σ y=none)(d:y≠t):∀i e,lk (σ++[(t,T)]) i=some e->lk (σ++[(y,Y),(t,T)]) i=some e:=by
 induction σ with
 | nil=>
  intro i e h;simp only[Awp,lk] at h⊢;split at h
  .rename_i f;subst f;rw[if_neg d,if_pos rfl];exact h
  .cases h
 | cons p σ g=>
  obtain⟨a,A⟩:=p;intro i e h;simp only[AtX,lk] at h b⊢;split at b
  .cases b
  .split at h
   .rename_i c;rw[if_pos c];exact h
   .rename_i c;rw[if_neg c];exact g b i e h
theorem Z0{rid b t y:Id}{M:MX}{u:Bool}{st:Aa×Int}{Y T:A5}(d:rid≠t)(f:b≠t)(g:rid≠y)(j:b≠y)(k:y≠t):∀i e,lk (BU rid M u b t st++[(t,T)]) i=some e->lk ((y,Y)::(t,T)::BU rid M u b t st) i=some e:=by
 intro i e h;by_cases a:rid=i
 .subst a;simp[BU,lk] at h⊢;simp[AeS g,AeS d,h]
 .by_cases c:b=i
  .subst c;simp[BU,lk,a] at h⊢;simp[AeS f,AeS j,h]
  .by_cases c3:t=i
   .subst c3;simp[BU,lk,a,c] at h⊢;simp[k,h]
   .simp[BU,lk,a,c,c3] at h
theorem Tg{nn:Nat}{ins:List Ay}{i:Nat}{x:Ay}(h:AI nn ins i x=true)(a:(x.op==11)=false)(b:(x.op==13)=false):x.op=1\/x.op=2\/x.op=3\/x.op=4\/(5<=x.op/\x.op<=9)\/x.op=10\/x.op=12:=by have:=YT h;simp only[beq_eq_false_iff_ne] at a b;omega
set_option maxHeartbeats 4000000 in
theorem Abp(hM:Bi W0)(hT:Bv W0)(c:Nat)(rid b t:Id)(M:MX)(u:Bool)(l:Aa)(Y:List Int)(i:Nat)(x:Ay)(hx:M.ins[i]?=some x)(hs:Jh M.names.length M.ins)(hX:XOk M.X c)(O:b≠rid)(ae:b≠t)(af:rid≠t)
  (aw:(x.op==11)=false)(ax:(x.op==13)=false)(hl:M.ins.length<=2^30)(aC:∀y∈M.ins,y.s.length<=2^24)(h:l.length<=20000)(a0:Y.length<=2^30) :
  Ex π W0 55 [.ref rid 0,.i .i64 i] (BU rid M u b t (l,0)++[(t,.arr 3 1 (Gy Y))]) (MRT rid M b (CB M.X M.names M.ins i x (l,0)).1 (Y++[(i:Int)]) (CB M.X M.names M.ins i x (l,0)).2):=by
 have hi:i<M.ins.length:=(AfJ.1 hx).1;have aB:(i<M.ins.length)=True:=eq_true hi;have ex:(M.ins.map Ay.enc)[i]?=some (.agg [.i .i64 x.op,.i .i64 x.a,.i .i64 x.b,.s x.s]):=by rw[Ak6,hx];rfl
 have am:=hs.pr i x hx;have aD:=aC x (AgY hx);have ak:(Y.length+1<=AG)=True:=eq_true (by unfold AG;omega);generalize A:CB M.X M.names M.ins i x (l,0)=P;unfold CB at A;generalize hR:MRT rid M b P.1 (Y++[(i:Int)]) P.2=R;refine BK Aqq (by simp) λn0 aa=>?_;have hw:rid.1<n0:=aa rid _ (by simp[BU,lk];rfl);have hb:b.1<n0:=aa b _ (by simp[BU,lk,AeS O];rfl);have ht:t.1<n0:=aa t _ (nH (AeS (AeS af)) ae);clear aa;have e1:=eq_false O;have e2:=eq_false (AeS O);have e3:=eq_false ae;have e4:=eq_false (AeS ae);have e5:=eq_false af;have e6:=eq_false (AeS af);have q1:∀k j:Nat,((n0+1+k,j)=rid)=False:=λk j=>eq_false λz=>(by have:=congrArg Prod.fst z;(try simp only at this);omega)
 have ao:∀k j:Nat,(rid=(n0+1+k,j))=False:=λk j=>eq_false λz=>of_eq_false (q1 k j) z.symm;have q2:∀k j:Nat,((n0+1+k,j)=b)=False:=λk j=>eq_false λz=>(by have:=congrArg Prod.fst z;(try simp only at this);omega)
 have ap:∀k j:Nat,(b=(n0+1+k,j))=False:=λk j=>eq_false λz=>of_eq_false (q2 k j) z.symm;have q3:∀k j:Nat,((n0+1+k,j)=t)=False:=λk j=>eq_false λz=>(by have:=congrArg Prod.fst z;(try simp only at this);omega)
 have aH:∀k j:Nat,(t=(n0+1+k,j))=False:=λk j=>eq_false λz=>of_eq_false (q3 k j) z.symm;simp only[push_cast,seval,reduceEqDiff,BU,lk,e1,e2,e3,e4,e5,e6,q1,ao,q2,ap,ex,aB,ak,Gy,Adp];intros;rename_i k5 k4 k3 k2 k1;obtain⟨J,ab⟩:∃y:Id,y=(n0+1+k5,13):=⟨_,rfl⟩
 obtain⟨y,hy⟩:∃y:Id,y=(n0+1+k5+1+k4,5):=⟨_,rfl⟩;obtain⟨n1,al⟩:∃n,n=n0+1+k5+1+k4+1+k3+1+k2+1+k1:=⟨_,rfl⟩;rw[<-al,<-hy,<-ab];have aZ:n0<J.1:=by rw[ab];simp only;omega
 have aE:J.1<y.1:=by rw[ab,hy];simp only;omega
 have a1:y.1<n1:=by rw[hy];simp only;omega
 clear ab hy al q1 ao q2 ap q3 aH ak;rw[<-AdE M (mA u rid) b J 0,show([(rid,A5.tbox T6 (rC M (mA u rid) b J 0)),(b,A5.arr 5 1 (Az l))]:Aj)=BU rid M u b J (l,0) from rfl,
  show(Y.map (V.i .i64)++[V.i .i64 (i:Int)])=Gy (Y++[(i:Int)]) from by simp[Gy]]
 have e:rid≠J:=λz=>by rw[z] at hw;omega
 have d:b≠J:=λz=>by rw[z] at hb;omega
 have g:rid≠y:=λz=>by rw[z] at hw;omega
 have q:b≠y:=λz=>by rw[z] at hb;omega
 have ac:y≠J:=λz=>by rw[z] at aE;omega
 have L:∀(ag:Aa×Int) (next:Int) (n2 n3:Nat) (W:Bool) (S:Id) (env:A9),n1<=n2->n2<=n3->(n1<=S.1/\S.1<n2\/S=b)->get env 4=.i .i64 next->MRT rid M b ag (Y++[(i:Int)]) next=R->
   AeI W0 74 [.t 4] R n0 .ret ⟨env,BU rid M W S J ag++[(y,.box (.agg [.i .i64 x.op,.i .i64 x.a,.i .i64 x.b,.s x.s])),(J,.arr 3 1 (Gy (Y++[(i:Int)])))],n3⟩:=by
  intro ag next n2 n3 W S env h1 h2 w hg az
  subst az;have aj:S≠y:=λz=>by rcases w with h|h;(rw[z] at h;omega);exact q (h ▸ z)
  have ai:S≠J:=λz=>by rcases w with h|h;(rw[z] at h;omega);exact d (h ▸ z)
  exact⟨_,Ak.refl,[.i .i64 next],_,⟨hg,trivial⟩,Abd (Uv g aj) ac,rfl,W,S,J,Kz w (by omega) (by simp only;omega),⟨by omega,by simp only;omega⟩,ai,rfl⟩
 have K:IntKind.i64.wrap ((i:Int)+1)=(i:Int)+1:=wrap64 (by omega) (by omega);have F:∀k:Int,x.op≠k->(x.op==k)=false:=λk h=>by simpa using h
 have T:∀k:Int,x.op=k->(x.op==k)=true:=λk h=>by simpa using h
 have D:=eq_false g;have E:=eq_false (AeS g);have G:=eq_false e;have H:=eq_false (AeS e);have I:=eq_false ac;have f6:=eq_false (AeS ac);rcases Tg am aw ax with o|o|o|o|o|o|o
 .have m:=T 1 o;have f:=F 10 (by omega);have p:=F 12 (by omega);simp only[f,p,Adx,if_false] at A;unfold Yx at A;simp only[m,Adx,if_false,if_true] at A;subst A;simp only[push_cast,seval,reduceEqDiff,m,K,D,E,G,H,I,f6];intros;refine Bd (FA W0 rid b J M u l x.s O (by(try simp only[Ai8,Aj0,An0]);omega)) (Ct (st:=(l,0)) e d g q) (λn2 v σo Z N=>?_);obtain⟨rfl,W,S,w,rfl⟩:=N;rw[DZ e d g q];simp only[push_cast,seval,reduceEqDiff,m,K,D,E,G,H,I,f6];intros;exact L _ _ n2 _ W S _ (by omega) (by omega) (Kz w (by omega) (by omega)) (by simp[get]) hR
 .have m:=F 1 (by omega);have r:=T 2 o;have f:=F 10 (by omega);have p:=F 12 (by omega);simp only[f,p,Adx,if_false] at A;unfold Yx at A;simp only[m,r,Adx,if_false,if_true] at A;subst A;simp only[push_cast,seval,reduceEqDiff,m,r,K,D,E,G,H,I,f6];intros;refine Ar (by unfold AJ;(try simp only[Ai8,Aj0,An0]);omega) ?_;simp only[push_cast,seval,reduceEqDiff,m,r,K,D,E,G,H,I,f6];intros;refine Ar (by unfold AJ;(try simp only[Ai8,Aj0,An0]);omega) ?_;simp only[push_cast,seval,reduceEqDiff,m,r,K,D,E,G,H,I,f6];intros;refine Bd (FA W0 rid b J M u l (60::(x.s++[62])) O (by(try simp only[Ai8,Aj0,An0]);omega)) (Ct (st:=(l,0)) e d g q) (λn2 v σo Z N=>?_);obtain⟨rfl,W,S,w,rfl⟩:=N;rw[DZ e d g q];simp only[push_cast,seval,reduceEqDiff,m,r,K,D,E,G,H,I,f6];intros;exact L _ _ n2 _ W S _ (by omega) (by omega) (Kz w (by omega) (by omega)) (by simp[get]) hR
 .have m:=F 1 (by omega);have r:=F 2 (by omega);have B:=T 3 o;have f:=F 10 (by omega);have p:=F 12 (by omega);simp only[f,p,Adx,if_false] at A;unfold Yx at A;simp only[m,r,B,Adx,if_false,if_true] at A;subst A;simp only[push_cast,seval,reduceEqDiff,m,r,B,K,D,E,G,H,I,f6];intros;refine Ar (by unfold AJ;(try simp only[Ai8,Aj0,An0]);omega) ?_;simp only[push_cast,seval,reduceEqDiff,m,r,B,K,D,E,G,H,I,f6];intros;refine Ar (by unfold AJ;(try simp only[Ai8,Aj0,An0]);omega) ?_;simp only[push_cast,seval,reduceEqDiff,m,r,B,K,D,E,G,H,I,f6];intros;refine Bd (FA W0 rid b J M u l (60::47::(x.s++[62])) O (by(try simp only[Ai8,Aj0,An0]);omega)) (Ct (st:=(l,0)) e d g q) (λn2 v σo Z N=>?_);obtain⟨rfl,W,S,w,rfl⟩:=N;rw[DZ e d g q];simp only[push_cast,seval,reduceEqDiff,m,r,B,K,D,E,G,H,I,f6];intros;exact L _ _ n2 _ W S _ (by omega) (by omega) (Kz w (by omega) (by omega)) (by simp[get]) hR
 .have m:=F 1 (by omega);have r:=F 2 (by omega);have B:=F 3 (by omega);have U:=T 4 o;have f:=F 10 (by omega);have p:=F 12 (by omega);simp only[f,p,Adx,if_false] at A;unfold Yx at A;simp only[m,r,B,U,Adx,if_false,if_true] at A;subst A;simp only[push_cast,seval,reduceEqDiff,m,r,B,U,K,D,E,G,H,I,f6];intros;refine Ar (by unfold AJ;(try simp only[Ai8,Aj0,An0]);omega) ?_;simp only[push_cast,seval,reduceEqDiff,m,r,B,U,K,D,E,G,H,I,f6];intros;refine Ar (by unfold AJ;(try simp only[Ai8,Aj0,An0]);omega) ?_;simp only[push_cast,seval,reduceEqDiff,m,r,B,U,K,D,E,G,H,I,f6];intros;refine Ar (by unfold AJ;(try simp only[Ai8,Aj0,An0]);omega) ?_;simp only[push_cast,seval,reduceEqDiff,m,r,B,U,K,D,E,G,H,I,f6];intros;refine Ar (by unfold AJ;(try simp only[Ai8,Aj0,An0]);omega) ?_;simp only[push_cast,seval,reduceEqDiff,m,r,B,U,K,D,E,G,H,I,f6];intros;refine Bd (FA W0 rid b J M u l (60::(x.s++[62,60,47]++x.s++[62])) O (by(try simp only[Ai8,Aj0,An0]);omega)) (Ct (st:=(l,0)) e d g q) (λn2 v σo Z N=>?_);obtain⟨rfl,W,S,w,rfl⟩:=N;rw[DZ e d g q];simp only[push_cast,seval,reduceEqDiff,m,r,B,U,K,D,E,G,H,I,f6];intros;exact L _ _ n2 _ W S _ (by omega) (by omega) (Kz w (by omega) (by omega)) (by simp[get]) hR
 .have m:=F 1 (by omega);have r:=F 2 (by omega);have B:=F 3 (by omega);have U:=F 4 (by omega);have f:=F 10 (by omega);have p:=F 12 (by omega);simp only[f,p,Adx,if_false] at A;unfold Yx at A;simp only[m,r,B,U,Adx,if_false] at A;subst A;have ah:=AkZ W0 hM hT c rid b J M u l x hX O h o (J5 am (by unfold JG;simp;omega)) aD;rw[Ay.enc_eq] at ah;simp only[push_cast,seval,reduceEqDiff,m,r,B,U,f,p,K,D,E,G,H,I,f6];intros;refine Bd ah (Ct (st:=(l,0)) e d g q) (λn2 v σo Z N=>?_);obtain⟨rfl,W,S,w,rfl⟩:=N;rw[DZ e d g q];simp only[push_cast,seval,reduceEqDiff,m,r,B,U,f,p,K,D,E,G,H,I,f6];intros;exact L _ _ n2 _ W S _ (by omega) (by omega) (Kz w (by omega) (by omega)) (by simp[get]) hR
 .have m:=F 1 (by omega);have r:=F 2 (by omega);have B:=F 3 (by omega);have U:=F 4 (by omega);have f:=T 10 o;simp only[f,if_true] at A;have ay:P=((l,(H5 M.X M.names M.ins i x).2),(H5 M.X M.names M.ins i x).1):=by
   rw[<-A];by_cases h0:((H5 M.X M.names M.ins i x).2==0)=true
   .have av:(H5 M.X M.names M.ins i x).2=0:=by simpa using h0
    rw[if_pos h0,av]
   .rw[if_neg h0]
  rw[ay] at hR;have aA:=Zf W0 c rid b J M u l i x hx hs hX O o hl;generalize H5 M.X M.names M.ins i x=C at *;simp only[push_cast,seval,reduceEqDiff,m,r,B,U,f,K,D,E,G,H,I,f6];intros;refine Bx aA (Ct (st:=(l,0)) e d g q) ?_;rw[DZ e d g q];simp only[push_cast,seval,reduceEqDiff,m,r,B,U,f,K,D,E,G,H,I,f6];intros;exact L _ _ n1 _ u b _ (by omega) (by omega) (.inr rfl) (by simp[get]) hR
 .have m:=F 1 (by omega);have r:=F 2 (by omega);have B:=F 3 (by omega);have U:=F 4 (by omega);have f:=F 10 (by omega);have p:=T 12 o;simp only[f,p,Adx,if_false,if_true] at A;subst A;subst hR;simp only[push_cast,seval,reduceEqDiff,m,r,B,U,f,p,K,D,E,G,H,I,f6];intros;exact⟨_,Ak.refl,[.i .i64 x.a],BU rid M u b J (l,0)++[(J,.arr 3 1 (Gy (Y++[(i:Int)])))],⟨by simp[Dg,get],trivial⟩,Z0 e d g q ac,rfl,u,b,J,.inr rfl,⟨by omega,by simp only;omega⟩,d,rfl⟩
theorem m3{nn:Nat}{ins:List Ay}(hs:Jh nn ins):(Cd ins 0==11)=false:=by
 cases h:(Cd ins 0==11) with
 | false=>rfl
 | true=>
  have hg:ins[0]?=some (ins[0]'hs.po):=AeP hs.po
  rw[Cg hg] at h
  have hp:=hs.pr _ _ hg
  unfold AI at hp
  rw[show(ins[0]'hs.po).op=11 by simpa using h] at hp
  simp at hp
def I7(names:List Aa)(ins:List Ay):Bool:=(Cb names ins).2==0
def G7(X:WX)(names:List Aa)(ins:List Ay):Aa×Int:=
 if I7 names ins then(if(Dn X names ins).1.2==0 then((Dn X names ins).1.1,0) else([],(Dn X names ins).1.2)) else([],1)
def HN(X:WX)(names:List Aa)(ins:List Ay):List Int×Int:=if I7 names ins then((Dn X names ins).2,0) else([],1)
def MST(M:MX)(n n':Nat)(v:V)(σ':Aj):Prop:=
 (I7 M.names M.ins=false/\v=.np/\σ'=[])\/(I7 M.names M.ins=true/\∃(u:Bool) (rid b t:Id),n<=rid.1/\b≠rid/\b≠t/\rid≠t/\v=.ref rid 0/\σ'=BU rid M u b t (Dn M.X M.names M.ins).1++[(t,.arr 3 1 (Gy (Dn M.X M.names M.ins).2))])
theorem Ok{X:WX}{names:List Aa}{ins:List Ay}{i:Nat}{x:Ay}{st:Aa×Int}(h:(st.2==0)=true)(a:Z6 st):Z6 (CB X names ins i x st).1:=by
 unfold CB;split
 .intro _;exact a h
 .split
  .exact a
  .exact Yr (a h) _
def rA(M:MX):List V:=[.sl (M.names.map V.s),.sl (M.ins.map Ay.enc),.s M.X.L.tag,.s M.X.L.parent,.s M.X.L.dir,.sl (M.X.L.card.map AH.enc),.sl (M.X.L.ord.map AH.enc),.s M.X.L.dec,.s M.X.L.grp,.s M.X.L.minus,.s M.X.L.perc,.i .i64 M.X.L.prim,.i .i64 M.X.L.sec,.sl (M.X.L.lists.map CN.enc),.sl (M.X.L.units.map DG.enc),.sl (M.X.L.dates.map CX.enc),.sl (M.X.L.months.map V.s),.sl (M.X.L.days.map V.s),.sl (M.X.vs.map BD.enc),.b M.X.iso]
theorem AbF{W0:World}{nt n:Nat}{env:A9}{M:MX}{rid a:Id}{C D:A5}{c:Id}(d:rid.1<n)(e:a.1<n)(f:rid≠a)(m:c≠rid)(o:c≠a) :
  Ak W0 nt ⟨env,[(rid,.tbox T6 (.agg (rA M++[.np,.nil,.nil,.i .i64 0]))),(c,D),(a,C)],n⟩ ⟨env,(BU rid M false (n,0) (n+1,1) ([],0)++[((n+1,1),.arr 3 1 (Gy []))])++[(a,C)],n+1+1⟩:=by
 have g:((n,0):Id)≠rid:=λb=>by rw[<-b] at d;simp only at d;omega
 have j:((n,0):Id)≠a:=λb=>by rw[<-b] at e;simp only at e;omega
 have k:((n+1,1):Id)≠rid:=λb=>by rw[<-b] at d;simp only at d;omega
 have l:((n+1,1):Id)≠a:=λb=>by rw[<-b] at e;simp only at e;omega
 have q:((n+1,1):Id)≠(n,0):=λb=>by cases b
 refine(Ak.sub (σ':=[(rid,.tbox T6 (.agg ((rA M++[.np])++.nil::[.nil,.i .i64 0]))),(a,C)]) ?_ ?_ (A0d n)).trans ((Ak.ownTbox (A:=rA M++[.np]) (B:=[.nil,.i .i64 0]) 5 1 0).trans ((Ak.sub (σ':=[(rid,.tbox T6 (.agg ((rA M++[.np,.arr (n,0)])++.nil::[.i .i64 0]))),((n,0),.arr 5 1 []),(a,C)]) ?_ ?_ (A0d (n+1))).trans ((Ak.ownTbox (A:=rA M++[.np,.arr (n,0)]) (B:=[.i .i64 0]) 3 1 1).trans (Ak.sub ?_ ?_ (A0d (n+1+1))))))
 .simp[f,o,AeS m]
 .intro p hp;simp at hp⊢;rcases hp with h|h<;>simp[h]
 .simp[g,j,f]
 .intro p hp;simp at hp⊢;rcases hp with h|h|h<;>simp[h]
 .simp[j,k,l,f,AeS g]
 .intro p hp;simp[BU,rC,rA,mA,Az,Gy] at hp⊢;rcases hp with h|h|h|h<;>simp[h]
theorem kC{rid b t:Id}{M:MX}{u:Bool}{st:Aa×Int}{T:A5}(d:rid≠t)(f:b≠t):∀i e,lk (BU rid M u b t st++[(t,T)]) i=some e->lk ((t,T)::BU rid M u b t st) i=some e:=by
 intro i e h;by_cases a:rid=i
 .subst a;simp[BU,lk] at h⊢;simp[AeS d,h]
 .by_cases c:b=i
  .subst c;simp[BU,lk,a] at h⊢;simp[AeS f,h]
  .by_cases c3:t=i
   .subst c3;simp[BU,lk,a,c] at h⊢;simp[h]
   .simp[BU,lk,a,c,c3] at h
theorem xK{σi σo:Aj}{x:Id}{C:A5}(h:∀q∈σi,x≠q.1):over σi σo (σi++[(x,C)])=σo++[(x,C)]:=by have:=I5 (σi:=σi) (σo:=σo) (pre:=[]) (post:=[(x,C)]) (λp hp=>by cases hp) (λp hp q a=>by simp at hp;subst hp;exact h q a);simpa using this
set_option maxHeartbeats 4000000 in
theorem WJ(hM:Bi W0)(hT:Bv W0)(c:Nat)(M:MX)(hX:XOk M.X c)(hn:M.names.length<=2^20)(hl:M.ins.length<=2^20)(aA:∀s∈M.names,s.length<=2^24)(ah:∀y∈M.ins,y.s.length<=2^24) :
  Ex π W0 33 [AF M.names M.ins,M.X.L.enc,.sl (M.X.vs.map BD.enc),.b M.X.iso] [] (MST M):=by
 have ak:=Lr W0 M.names M.ins (by omega) (by omega) (λs h=>by have:=aA s h;unfold AJ;omega) (λy h=>by have:=ah y h;omega);generalize hR:MST M=R;generalize ad:Cb M.names M.ins=CK at *;obtain⟨c1,c2⟩:=CK;have W:I7 M.names M.ins=(c2==0):=by unfold I7;rw[ad]
 rw[BQ.enc_eq];unfold AF at *;refine BK AmX (by simp) λn0 az=>?_;clear az;cases o:(c2==0) with
 | false=>
  have O:(c2 !=0)=true:=by simp[bne,o]
  simp only[push_cast,seval,reduceEqDiff];have _h:=trivial;repeat' (first|(first|((first|apply Ab|apply Ah|apply Ag)<;>intro _h)|refine Ac ak ?_)<;>simp only[push_cast,seval,reduceEqDiff,_h,O]|intro _)
  subst hR;exact⟨_,Ak.refl,[.np],[],⟨rfl,trivial⟩,(λi e h=>by cases h),.inl ⟨by rw[W,o],rfl,rfl⟩⟩
 | true=>
  have O:(c2 !=0)=false:=by simp[bne,o]
  simp only[push_cast,seval,reduceEqDiff];have _h:=trivial;repeat' (first|(first|((first|apply Ab|apply Ah|apply Ag)<;>intro _h)|refine Ac ak ?_)<;>simp only[push_cast,seval,reduceEqDiff,_h,O]|intro _)
  rename_i k4 k3 k2 k1;have hs:=TZ (names:=M.names) (ins:=M.ins) (by rw[ad];exact o);obtain⟨rid,k⟩:∃y:Id,y=(n0+1+k4+1+k3+1+k2,25):=⟨_,rfl⟩
  obtain⟨n1,af⟩:∃n,n=n0+1+k4+1+k3+1+k2+1+k1:=⟨_,rfl⟩;rw[<-af,<-k];have B:n0<rid.1:=by rw[k];simp only;omega
  have aC:rid.1<n1:=by rw[k];simp only;omega
  have p:rid≠(n0,4):=λg=>by rw[g] at B;simp only at B;omega
  have aD:((n0,5):Id)≠rid:=λg=>by rw[<-g] at B;simp only at B;omega
  clear af k;obtain⟨d,A⟩:∃y:Id,y=(n0,4):=⟨_,rfl⟩
  have aX:d.1<rid.1:=by rw[A];exact B
  have ax:((n0,5):Id)≠d:=by rw[A];exact λg=>by cases g
  rw[<-A] at p⊢;refine KC (AbF (M:=M) aC (by omega) p aD ax) ?_;simp only[push_cast,seval,reduceEqDiff];intro k5;generalize hS:Dn M.X M.names M.ins=S;have aa:=hS;unfold Dn at hS;refine Am (M.ins.length+1) (Inv:=λm st=>∃z w D u b t n,FD M.X M.names M.ins m z.toNat w D=S/\((w.2==0)=true->0<=z/\M.ins.length<m+z.toNat/\z<(M.ins.length:Int)/\(Cd M.ins z.toNat==11)=false)/\Z6 w/\D.length+m<=M.ins.length+1/\b≠t/\n1<=b.1/\b.1<n/\n1<=t.1/\t.1<n/\st=⟨[(4,.ref d 0),(11,.ref rid 0),(12,.i .i64 z)],(BU rid M u b t w++[(t,.arr 3 1 (Gy D))])++[(d,.box (.agg [.sl (M.names.map V.s),.sl (M.ins.map Ay.enc)]))],n⟩) ⟨_,Ak.refl,0,([],0),[],false,(n1,0),(n1+1,1),_,hS,λ_=>⟨Int.le_refl _,by simp,by have:=hs.po;omega,m3 hs⟩,λ_=>by simp,by simp,λg=>(by cases g),A0d _,by simp only;omega,AmJ _,by simp only;omega,rfl⟩ ?_;clear hS;rintro m _ ⟨z,w,D,u,b,t,n,E,hw,hI,a2,G,N,aW,aj,aZ,rfl⟩;have r:b≠rid:=λg=>by rw[g] at N;omega
  have F:b≠d:=λg=>by rw[g] at N;omega
  have K:t≠rid:=λg=>by rw[g] at aj;omega
  have J:t≠d:=λg=>by rw[g] at aj;omega
  obtain⟨C,hC⟩:∃C:A5,C=.box (.agg [.sl (M.names.map V.s),.sl (M.ins.map Ay.enc)]):=⟨_,rfl⟩;rw[<-hC];have lr:lk ((BU rid M u b t w++[(t,.arr 3 1 (Gy D))])++[(d,C)]) rid=some (.tbox T6 (rC M (mA u rid) b t w.2)):=by simp[BU,lk]
  have lc:lk ((BU rid M u b t w++[(t,.arr 3 1 (Gy D))])++[(d,C)]) d=some (.box (.agg [.sl (M.names.map V.s),.sl (M.ins.map Ay.enc)])):=by rw[hC];simp[BU,lk,F,J,p]
  cases f:(w.2==0) with
  | false=>
   have aw:S=(w,D):=by rw[<-E];cases m<;>simp[FD,f]
   simp only[push_cast,seval,reduceEqDiff,lr,f];intros;subst hR;exact⟨_,Ak.refl,[.ref rid 0],_,⟨by simp[Dg,get],trivial⟩,λi e h=>AB h,.inr ⟨by rw[W,o],u,rid,b,t,by omega,r,G,AeS K,rfl,by rw[aa,aw]⟩⟩
  | true=>
   obtain⟨z0,ae,a4,l⟩:=hw f;obtain⟨i,rfl⟩:∃i:Nat,z=i:=⟨z.toNat,by omega⟩;rw[AxM] at E ae l;cases m with
   | zero=>omega
   | succ m=>
   obtain⟨x,hx⟩:∃x,M.ins[i]?=some x:=⟨_,AeP (by omega)⟩;have ex:(M.ins.map Ay.enc)[i]?=some (.agg [.i .i64 x.op,.i .i64 x.a,.i .i64 x.b,.s x.s]):=by rw[Ak6,hx];rfl
   have T:(i<M.ins.length)=True:=eq_true (by omega);rw[FD,f] at E;simp only[if_true,hx] at E;rw[Cg hx] at l;have aE:w=(w.1,0):=by
    have:w.2=0:=by simpa using f
    rw[<-this]
   have aF:=hI f;cases j:(x.op==13) with
   | true=>
    rw[j] at E;simp only[if_true] at E;have ay:(D.length+1<=AG)=True:=eq_true (by unfold AG;omega);have f1:=eq_false r;have f2:=eq_false (AeS r);have f3:=eq_false G;have f4:=eq_false (AeS G);have f5:=eq_false K;have f6:=eq_false (AeS K);have f7:=eq_false J;have f8:=eq_false (AeS J);have f9:=eq_false F;have f10:=eq_false (AeS F);have f11:=eq_false p;have Z:=eq_false (AeS p);rw[hC];simp only[push_cast,seval,reduceEqDiff,BU,lk,f1,f2,f3,f4,f5,f6,f7,f8,f9,f10,f11,Z,f,ex,T,bne,j,ay,Gy,Adp];intros;rename_i k7 k6;obtain⟨q,Y⟩:∃q:Id,q=(n+1+k7+1+k6,55):=⟨_,rfl⟩
    rw[<-Y];have U:n<=q.1:=by rw[Y];simp only;omega
    clear Y;have I:rid≠q:=λg=>by rw[<-g] at U;omega
    have H:b≠q:=λg=>by rw[<-g] at U;omega
    have ag:q≠d:=λg=>by rw[g] at U;omega
    have q1:=eq_false I;have q2:=eq_false (AeS I);have q3:=eq_false H;have q4:=eq_false (AeS H);have q5:=eq_false ag;have q6:=eq_false (AeS ag);simp only[push_cast,seval,reduceEqDiff,BU,lk,f1,f2,f3,f4,f5,f6,f7,f8,f9,f10,f11,Z,q1,q2,q3,q4,q5,q6,Gy];intros;subst hR;refine⟨_,Ak.refl,[.ref rid 0],BU rid M u b q w++[(q,.arr 3 1 (Gy (D++[(i:Int)])))],⟨by simp[Dg,get],trivial⟩,λi e h=>?_,.inr ⟨by rw[W,o],u,rid,b,q,by omega,r,H,I,rfl,by rw[aa,<-E]⟩⟩;have:=AB (τ:=[(d,A5.box (.agg [.sl (M.names.map V.s),.sl (M.ins.map Ay.enc)]))]) (kC I H i e h);rw[Gy,Azr] at this;exact this
   | false=>
    rw[j] at E;simp only[Adx,if_false] at E;have ai:=Abp W0 hM hT c rid b t M u w.1 D i x hx hs hX r G (AeS K) l j (by omega) ah aF (by omega);rw[<-aE] at ai;have aB:=@Kj M.X M.names M.ins i x w hs hx l j;have ar:=@Ok M.X M.names M.ins i x w f hI;generalize CB M.X M.names M.ins i x w=P at *;simp only[push_cast,seval,reduceEqDiff,lr,lc,f,ex,T,bne,j,Adp];intros;rename_i k7 k6;refine Bd ai (λi e h=>AB h) (λn2 v σo aY av=>?_);obtain⟨rfl,u1,b1,t1,ab,⟨a0,a1⟩,ac,rfl⟩:=av;rw[xK (λq Y=>by
     simp only[BU,AtX,Awp,AmK,AxX,or_false] at Y;rcases Y with rfl|rfl|rfl
     .exact AeS p
     .exact AeS F
     .exact AeS J)]
    simp only[push_cast,seval,reduceEqDiff,lr,lc,f,ex,T,bne,j,Adp];intros;refine⟨m,_,A0e _,Ak.refl,P.2,P.1,D++[(i:Int)],u1,b1,t1,_,E,λh0=>?_,ar,by simp;omega,ac,?_,?_,by omega,?_,rfl⟩
    .obtain⟨x1,x2,x3⟩:=aB h0 f;exact⟨by omega,by omega,x2,x3⟩
    .rcases ab with h|h
     .omega
     .rw[h];exact N
    .rcases ab with h|h
     .omega
     .rw[h];omega
    .omega
theorem NC(σo σ:Aj):over [] σo σ=σo++σ:=by have:=EV (σi:=[]) (σo:=σo) (pre:=σ) (λp hp q a=>by cases a);simpa using this
theorem dQ{X:WX}{names:List Aa}{ins:List Ay}:∀(n i:Nat) (st:Aa×Int) (a:List Int),Z6 st->Z6 (FD X names ins n i st a).1:=by
 intro n
 induction n with
 | zero=>intro i st a h;exact h
 | succ n c=>
  intro i st a h;rw[FD];split
  .rename_i b;split
   .exact h
   .split
    .exact h
    .exact c _ _ _ (Ok b h)
  .exact h
theorem qH{X:WX}{names:List Aa}{ins:List Ay}:(G7 X names ins).1.length<=20000:=by
 unfold G7;split
 .split
  .rename_i h;exact dQ _ _ _ _ (λ_=>by simp) h
  .simp
 .simp
theorem bI{W0:World}{nt n s r:Nat}{env:A9}{σ:Aj}{id:Id}{e sz:Nat}{es:List V}{v:V}(f:s≠r)(l:get env s=.arr id)(m:get env r=v)(p:lk σ id=some (.arr e sz es))(d:∀y∈es,y.ok=true):KH W0 nt [.t s,.t r] [.sl es,v] [] .ret ⟨env,σ,n⟩:=by
 refine⟨⟨[(s,.sl es),(r,v)],[],n⟩,Ak.weak (λi=>if i=id then some es else none) (λi es' h=>?_) (λt=>?_) (λi q h=>by cases h) (A0d _),⟨by simp[Dg,get],by simp[Dg,get,f],trivial⟩,λ_ _ h=>by cases h⟩
 .split at h
  .rename_i o;subst o;cases h;exact⟨⟨e,sz,p⟩,rfl⟩
  .cases h
 .by_cases h:s=t
  .subst h;rw[l];simp only[get];refine .arr id es es (by simp) rfl (λk c j b a=>?_) (λk c j b a=>?_)
   .rw[b] at a;cases a;exact .refl _
   .rw[b] at a;cases a;have:=d c (AgY b);exact⟨rfl,this,this⟩
  .by_cases g:r=t
   .subst g;rw[m];simp only[get];simp[h];exact .refl _
   .simp only[get,if_neg h,if_neg g];exact .any _
structure MOk (M:MX) (c:Nat):Prop where
 X:XOk M.X c
 n:M.names.length<=2^20
 l:M.ins.length<=2^20
 ns:∀s∈M.names,s.length<=2^24
 ss:∀y∈M.ins,y.s.length<=2^24
set_option maxHeartbeats 4000000 in
theorem lG(o:Bi W0)(q:Bv W0)(c:Nat)(M:MX)(h:MOk M c) :
  Al π W0 29 [AF M.names M.ins,M.X.L.enc,.sl (M.X.vs.map BD.enc),.b M.X.iso] [] (.tup [.s (G7 M.X M.names M.ins).1,.i .i64 (G7 M.X M.names M.ins).2]) []:=by
 have j:=WJ W0 o q c M h.X h.n h.l h.ns h.ss;have f:=@qH M.X M.names M.ins;generalize hS:G7 M.X M.names M.ins=S at *;unfold G7 at hS;rw[BQ.enc_eq] at *;unfold AF at *;refine Ae (vs:=[.s S.1,.i .i64 S.2]) Arm (by simp) (by simp) λn0 g=>?_;clear g;simp only[push_cast,reduceEqDiff];intros;refine Bd j (λi e h=>by cases h) (λz v σo r p=>?_);rw[NC];rcases p with⟨hsf,rfl,rfl⟩|⟨hsf,u,rid,b,t,hr,hbr,hbt,hrt,rfl,rfl⟩
 .rw[hsf] at hS;simp only[Adx] at hS;subst hS;simp only[push_cast,reduceEqDiff];intros;refine Ad ?_;simp[push_cast]
 .rw[hsf] at hS;simp only[if_true] at hS;generalize Dn M.X M.names M.ins=Q at *;obtain⟨w,y⟩:=Q;simp only at hS⊢;have k:∀τ:Aj,lk ((BU rid M u b t w++[(t,.arr 3 1 (Gy y))])++τ) rid=some (.tbox T6 (rC M (mA u rid) b t w.2)):=λτ=>by simp[BU,lk]
  cases a:(w.2==0) with
  | false=>rw[a] at hS;simp only[Adx] at hS;subst hS;simp only[push_cast,reduceEqDiff,k,bne,a];intros;refine Ad ?_;simp[push_cast]
  | true=>
   rw[a] at hS;simp only[if_true] at hS;subst hS;have d:Al π W0 45 [.ref rid 20] [(rid,.tbox T6 (rC M (mA u rid) b t w.2)),(b,.arr 5 1 (Az w.1))] (.s w.1) [(rid,.tbox T6 (rC M (mA u rid) b t w.2))]:=
    K6 (off:=20) (by kernel_rfl) rfl hbr (by unfold AJ;simp only at f;omega) λb v B w' m x=>Ks b 20 w.1 v B w' m x
   simp only[push_cast,reduceEqDiff,k,bne,a];intros;refine Bx d (λi e h=>AB (AB h)) ?_;simp only[push_cast,reduceEqDiff];intros;refine Ad ?_;simp[push_cast]
set_option maxHeartbeats 4000000 in
theorem Qi(g:Bi W0)(k:Bv W0)(c:Nat)(M:MX)(h:MOk M c) :
  Al π W0 15 [AF M.names M.ins,M.X.L.enc,.sl (M.X.vs.map BD.enc),.b M.X.iso] [] (.tup [.sl (Gy (HN M.X M.names M.ins).1),.i .i64 (HN M.X M.names M.ins).2]) []:=by
 have d:=WJ W0 g k c M h.X h.n h.l h.ns h.ss;generalize hS:HN M.X M.names M.ins=S at *;unfold HN at hS;rw[BQ.enc_eq] at *;unfold AF at *;refine Ae (vs:=[.sl (Gy S.1),.i .i64 S.2]) Asw (by simp) (by simp) λn0 a=>?_;clear a;simp only[push_cast,reduceEqDiff];intros;refine Bd d (λi e h=>by cases h) (λx v σo m j=>?_);rw[NC];rcases j with⟨hsf,rfl,rfl⟩|⟨hsf,u,rid,b,t,hr,hbr,hbt,hrt,rfl,rfl⟩
 .rw[hsf] at hS;simp only[Adx] at hS;subst hS;simp only[push_cast,reduceEqDiff];intros;exact⟨⟨[(8,.sl []),(9,.i .i64 1)],[],_⟩,Ak.weak (λ_=>none) (λ_ _ h=>by cases h) (λt=>by
   by_cases h:8=t
   .subst h;simp only[get];simp;exact .nil
   .by_cases f:9=t
    .subst f;simp only[get];simp;exact .refl _
    .simp only[get,if_neg h,if_neg f];exact .any _) (λ_ _ h=>by cases h) (A0d _),⟨by simp[Dg,get,Gy],by simp[Dg,get],trivial⟩,λ_ _ h=>by cases h⟩
 .rw[hsf] at hS;simp only  at hS;generalize Dn M.X M.names M.ins=Q at *;obtain⟨w,q⟩:=Q;simp only at hS⊢;subst hS;have p:∀τ:Aj,lk ((BU rid M u b t w++[(t,.arr 3 1 (Gy q))])++τ) rid=some (.tbox T6 (rC M (mA u rid) b t w.2)):=λτ=>by simp[BU,lk]
  simp only[push_cast,reduceEqDiff,p];intros;refine bI (s:=8) (r:=9) (id:=t) (e:=3) (sz:=1) (by decide) (by simp[get]) (by simp[get]) ?_ (λy o=>by obtain⟨z,_,rfl⟩:=AmO.1 o;rfl);exact AB (nH (AeS (AeS hrt)) hbt)
theorem Sr(d:Bi W0)(e:Bv W0)(c:Nat)(M:MX)(h:MOk M c) :
  Al π W0 16 [Zw M.X.L M.X.vs M.X.iso,AF M.names M.ins] [] (.tup [.s (G7 M.X M.names M.ins).1,.i .i64 (G7 M.X M.names M.ins).2]) []:=by
 have b:=lG W0 d e c M h;rw[BQ.enc_eq] at b;rw[Ez];unfold AF at *;generalize G7 M.X M.names M.ins=S at *;refine Ae (vs:=[.s S.1,.i .i64 S.2]) AsC (by simp) (by simp) λn0 a=>?_;clear a;simp only[push_cast,seval,reduceEqDiff];have _h:=trivial;repeat' (first|(first|((first|apply Ab|apply Ah|apply Ag)<;>intro _h)|refine Ac b ?_)<;>simp only[push_cast,seval,reduceEqDiff,_h]|intro _)
 refine Ad ?_;simp[push_cast,get]
end Go.Ir

namespace Go.Ir
open Go.Proofs Go.RowKit
variable(W0:World)
def Akx(names:List Aa)(ins:List Ay)(L:BQ)(vs:List BD):Bool:=
 (Nat.ble names.length 1000&&Nat.ble ins.length 1000)&&((lenB 1000 names&&ZF 1000 ins)&&Apz L [] vs)
def AaM:List V->Option (MX)
 | [.agg [a,b],l,vs,.b iso]=>(MC C4 a).bind λnames=>(MC Acm b).bind λins=>(vD l).bind λL=>(MC TD vs).bind λvs=>bif Akx names ins L vs then some ⟨⟨L,vs,iso⟩,names,ins⟩ else none
 | _=>none
theorem XB(z:Bv W0){args:List V}{M:MX}(h:AaM args=some M):MOk M (Ep M.X.L.months+Ep M.X.L.days+24)/\args.length=4/\
  ∀(k:Nat) (a m:V),args[k]?=some a->([AF M.names M.ins,M.X.L.enc,.sl (M.X.vs.map BD.enc),.b M.X.iso]:List V)[k]?=some m->J4 (λ_=>none) a m:=by
 unfold AaM at h;split at h
 .rename_i a b l E iso;obtain⟨names,t,h⟩:=AdT.1 h;obtain⟨ins,u,h⟩:=AdT.1 h;obtain⟨L,w,h⟩:=AdT.1 h;obtain⟨vs,y,h⟩:=AdT.1 h;cases g:Akx names ins L vs with
  | false=>rw[g] at h;cases h
  | true=>
   rw[g] at h;cases h;unfold Akx Apz at g;simp only[A0b,decide_eq_true_eq,AmF,Az1,Ay9] at g;obtain⟨⟨q1,q2⟩,⟨q3,D⟩,o,F,p,q,G,H,r⟩:=g;have A:=lS W0 z L vs iso o p q (by omega) (by omega) λv B=>by obtain⟨q1,q2⟩:=r v B;exact⟨⟨by omega,by rw[q2];simp,by rw[q2];simp⟩,by omega⟩
   refine⟨⟨A,by simp only;omega,by simp only;omega,λs g=>by have:=W7 q3 s g;omega,λx C=>by have:=Wn D x C;omega⟩,rfl,λk a m e d=>?_⟩
   match k with
   | 0=>
    simp at e d;subst e d;refine .agg _ _ rfl λj c I i f=>?_
    match j with
    | 0=>simp at i f;subst i f;exact(E4 B3 _ _ t).1
    | 1=>simp at i f;subst i f;exact(E4 VE _ _ u).1
    | j+2=>simp at i
   | 1=>simp at e d;subst e d;exact(xN _ _ w).1
   | 2=>simp at e d;subst e d;exact(E4 Zi _ _ y).1
   | 3=>simp at e d;subst e d;exact .refl _
   | k+4=>simp at e
 .cases h
def Aql(args:List V):Option V:=(AaM args).map λM=>.tup [.s (G7 M.X M.names M.ins).1,.i .i64 (G7 M.X M.names M.ins).2]
theorem ApW(e:Bi W0)(a:Bv W0):AX π W0 (onP 29 Aql):=rP λargs v h=>by obtain⟨M,f,rfl⟩:=AeC.1 h;obtain⟨b,c,d⟩:=XB W0 a f;exact⟨CZ (lG W0 e a _ M b) c d,rfl⟩
def sG(args:List V):Option V:=(AaM args).map λM=>.tup [.sl (Gy (HN M.X M.names M.ins).1),.i .i64 (HN M.X M.names M.ins).2]
theorem iL(l:List Int)(e:Int):NN (.tup [.sl (Gy l),.i .i64 e])=true:=by
 have h:∀l:List Int,HV (Gy l)=true:=by
  intro l
  induction l with
  | nil=>rfl
  | cons a l b=>simp only[Gy,AmB,HV,NN,Avi];exact b
 simp only[NN,HV,h,AxN]
theorem Acd(e:Bi W0)(a:Bv W0):AX π W0 (bQ 15 sG):=Lq λargs v h=>by obtain⟨M,f,rfl⟩:=AeC.1 h;obtain⟨b,c,d⟩:=XB W0 a f;exact⟨CZ (Qi W0 e a _ M b) c d,iL _ _⟩
end Go.Ir
section
set_option maxRecDepth 1000000
namespace Go.Ir
open Go.Proofs
noncomputable def Ara:AU:=orC (bQ 135 Iw) (orC (bQ 244 Ps) (orC (bQ 190 pE)
 (orC (onP 96 Pi) (orC (bQ 30 TY) (orC (onP 29 Aql) (bQ 15 sG))))))
theorem yX(W0:World)(a:Bi W0)(b:Bv W0):AX Tryz.prog W0 Ara:=
 JR (Rd W0) (JR (vA W0) (JR (Ai9 W0) (JR (jK W0) (JR (AbN W0) (JR (ApW W0 a b) (Acd W0 a b))))))
theorem S8:Ast (Lo evM Ara 100000 100 11 [] [] 0)=some (.b true):=by kernel_rfl
theorem d9(W0:World)(a:Bi W0)(c:Bv W0):Al Tryz.prog W0 11 [] [] (.b true) []:=Qx Ajy (yX W0 a c) pK S8 rfl rfl
end Go.Ir
end
namespace Go.Ir
open Go.Proofs
theorem AtB:π.cellsOf 57=4:=by kernel_rfl
theorem AoG:π.cellsOf 40=1:=by kernel_rfl
theorem Apw:π.cellsOf 42=2:=by kernel_rfl
theorem Au0:CQ π 57=some true:=by kernel_rfl
def RL(x:Ay):Nat:=bw x.s
theorem wS(c:List V)(h:Et π 57 c):∃x:Ay,V.agg c=x.enc/\RL x<=A7 c:=by obtain⟨g,a⟩:=h.st_inv Tryz.underlying57;rw[AtB] at g;obtain⟨l,m,o,p,rfl⟩:=AqV g;have b:=a _ (by exact Agk);have d:=a _ (by exact A0c _ Agk);have e:=a _ (by exact A0c _ (A0c _ Agk));have f:=a _ (by exact A0c _ (A0c _ (A0c _ Agk)));simp only[c9,c3,AwJ,AvL,Au8,Awk] at b d e f;obtain⟨n0,rfl,_⟩:=b.int_inv Tryz.underlying3;obtain⟨i,rfl,_⟩:=d.int_inv Tryz.underlying3;obtain⟨j,rfl,_⟩:=e.int_inv Tryz.underlying3;obtain⟨k,rfl⟩:=f.str_inv Tryz.underlying9;exact⟨⟨n0,i,j,k⟩,rfl,by simp only[RL,bw,A7,BH];omega⟩
theorem Ach(c:List V)(h:Et π 42 c):∃names ins,V.agg c=AF names ins/\Dj bw names<=A7 c/\Dj RL ins<=A7 c:=by
 obtain⟨e,d⟩:=h.st_inv Tryz.underlying42;rw[Apw] at e;obtain⟨j,k,rfl⟩:=xR e;have a:=d _ (by exact Agk);have b:=d _ (by exact A0c _ Agk);simp only[sY,AoG,AwJ,AvL,Au8,Awk] at a b;obtain⟨i,rfl,f⟩:=KJ j a;obtain⟨is,rfl,g⟩:=Dm b Tryz.underlying40 Au0 Ay.enc RL wS;refine⟨i,is,rfl,?_,?_⟩
 .simp only[A7,BH] at f⊢;omega
 .simp only[A7,BH] at g⊢;omega
theorem MG(s:Aa):1<=bw s/\s.length<=bw s:=by unfold bw;omega
end Go.Ir

namespace Go.Ir
open Go.Proofs
variable(W0:World)
theorem AaU{X:WX}{names:List Aa}{ins:List Ay}(h:I7 names ins=true):∃r,(Dn X names ins).2=0::r/\Up ins 0 (0::r)/\(((Dn X names ins).1.2==0)=true->∃j,(0::r).getLast?=some j/\Cd ins j.toNat=13):=by
 have b:=TZ h;obtain⟨l,c,d,e,f⟩:=gQ (X:=X) b (ins.length+1) 0 ([],0) [] b.po (m3 b);have a:=e rfl (by omega);cases l with
 | nil=>cases a
 | cons z r=>simp at a;subst a;exact⟨r,c,d,λh=>f h (by omega)⟩
theorem jV{ins:List Ay}:∀{l:List Int} {k:Int},Up ins k l->0<=k->(l.length:Int)+k<=max k (ins.length:Int)
 | [],k,_,_=>by simp;omega
 | x::l,k,h,d=>by have a:=jV h.2.2.2 (by have:=h.1;omega);have b:=h.1;have c:=h.2.1;simp only[Aj0];omega
theorem kY(f:Bv W0){names:List Aa}{ins:List Ay}{L:BQ}{vs:List BD}{iso:Bool}(i:names.length<=2^20)(g:ins.length<=2^20)(b:∀s∈names,s.length<=2^20)(c:∀x∈ins,x.s.length<=2^20)
  (hp:-9223372036854775808<=L.prim)(j:L.sec<9223372036854775808)(d:A8 L.card+A8 L.ord<=2^24)(e:vs.length<=2^40)(a:(Jx L&&C9 (decide ((vs.length:Int)<=30)) vs)=true) :
  MOk ⟨⟨L,vs,iso⟩,names,ins⟩ (Ep L.months+Ep L.days+24):=by
 rw[A0b] at a;exact⟨Aad W0 f L vs iso hp j d e a.1 a.2,i,g,λs h=>by have:=b s h;omega,λx h=>by have:=c x h;omega⟩
set_option maxHeartbeats 4000000 in
theorem HM(hM:Bi W0)(hT:Bv W0)(u:Al π W0 11 [] [] (.b true) [])(names:List Aa)(ins:List Ay)(z:Ay)(L:BQ)(vs:List BD)(iso:Bool)(hn:names.length<=2^20)(hl:ins.length<=2^20)(Y:∀s∈names,s.length<=2^20)(Z:∀x∈ins,x.s.length<=2^20)(aT:z.s.length<=2^20)
  (hp:-9223372036854775808<=L.prim)(hs:L.sec<9223372036854775808)(h1:Nh L<=2^40)(h2:A8 L.card+A8 L.ord<=2^24)(h4:vs.length<=2^40)(h5:∀v∈vs,v.list.length<=2^40) :
  Al π W0 5 [AF names ins,z.enc,Zw L vs iso] [] (.b true) []:=by
 have o:=Alv W0 names ins (by omega) (by omega);have p:=dW W0 L vs iso h1 h2 h4 h5;have K:=Aku W0 names ins (by omega);rw[Ay.enc_eq];cases hA:Xb names ins with
 | false=>
  rw[hA] at o;rw[Ez] at *;unfold AF at *;refine Ae (vs:=[.b true]) bB (by simp) (by simp) λn0 f=>?_;clear f;simp only[push_cast,seval,reduceEqDiff];have _h:=trivial;repeat' (first|(first|((first|apply Ab|apply Ah|apply Ag)<;>intro _h)|refine Ac u ?_|refine Ac o ?_)<;>simp only[push_cast,seval,reduceEqDiff,_h]|intro _)
  all_goals exact Af (by simp[get])
 | true=>
 cases hB:(Jx L&&C9 (decide ((vs.length:Int)<=30)) vs) with
 | false=>
  rw[hA] at o;rw[hB] at p;rw[Ez] at *;unfold AF at *;refine Ae (vs:=[.b true]) bB (by simp) (by simp) λn0 f=>?_;clear f;simp only[push_cast,seval,reduceEqDiff];have _h:=trivial;repeat' (first|(first|((first|apply Ab|apply Ah|apply Ag)<;>intro _h)|refine Ac u ?_|refine Ac o ?_|refine Ac p ?_)<;>simp only[push_cast,seval,reduceEqDiff,_h]|intro _)
  all_goals exact Af (by simp[get])
 | true=>
 have aq:=kY W0 hT (iso:=iso) hn hl Y Z hp hs h2 h4 hB;have c:=Qi W0 hM hT _ _ aq;have M:=Sr W0 hM hT _ _ aq;simp only at c M;rw[hA] at o;rw[hB] at p;unfold HN at c;cases O:decide ((z.s.length:Int)>300) with
 | true=>
  rw[Ez] at *;unfold AF at *;refine Ae (vs:=[.b true]) bB (by simp) (by simp) λn0 f=>?_;clear f;simp only[push_cast,seval,reduceEqDiff,O];have _h:=trivial;repeat' (first|(first|((first|apply Ab|apply Ah|apply Ag)<;>intro _h)|refine Ac u ?_|refine Ac o ?_|refine Ac p ?_)<;>simp only[push_cast,seval,reduceEqDiff,_h,O]|intro _)
  all_goals exact Af (by simp[get])
 | false=>
 cases hC:I7 names ins with
 | false=>
  simp only[hC,Adx,if_false] at c;rw[BQ.enc_eq] at c;rw[Ez] at *;unfold AF at *;refine Ae (vs:=[.b true]) bB (by simp) (by simp) λn0 f=>?_;clear f;simp only[push_cast,seval,reduceEqDiff,O];have _h:=trivial;repeat' (first|(first|((first|apply Ab|apply Ah|apply Ag)<;>intro _h)|refine Ac u ?_|refine Ac o ?_|refine Ac p ?_|refine Ac K ?_|refine Ac c ?_)<;>simp only[push_cast,seval,reduceEqDiff,_h,O]|intro _)
  all_goals exact Af (by simp[get])
 | true=>
 simp only[hC,if_true] at c;cases q:(z.op==11) with
 | true=>
  rw[BQ.enc_eq] at c;rw[Ez] at *;unfold AF at *;refine Ae (vs:=[.b true]) bB (by simp) (by simp) λn0 f=>?_;clear f;simp only[push_cast,seval,reduceEqDiff,O,q];have _h:=trivial;repeat' (first|(first|((first|apply Ab|apply Ah|apply Ag)<;>intro _h)|refine Ac u ?_|refine Ac o ?_|refine Ac p ?_|refine Ac K ?_|refine Ac c ?_)<;>simp only[push_cast,seval,reduceEqDiff,_h,O,q]|intro _)
  all_goals exact Af (by simp[get])
 | false=>
 have an:∀i:Nat,i<ins.length->(Cd ins i==11)=false->(i:Int)∉(Dn ⟨L,vs,iso⟩ names ins).2->I7 names (ins.set i z)=true->
   Al π W0 16 [Zw L vs iso,AF names (ins.set i z)] [] (.tup [.s (G7 ⟨L,vs,iso⟩ names ins).1,.i .i64 (G7 ⟨L,vs,iso⟩ names ins).2]) []:=by
  intro i hi ho hm ax;have ar:=kY W0 hT (iso:=iso) (ins:=ins.set i z) hn (by simpa using hl) Y (λx hx=>by
   rcases Az5 hx with h|h
   .exact Z x h
   .rw[h];exact aT) hp hs h2 h4 hB
  have au:=Sr W0 hM hT _ _ ar;have l:G7 ⟨L,vs,iso⟩ names (ins.set i z)=G7 ⟨L,vs,iso⟩ names ins:=by unfold G7;rw[ax,hC,pG (TZ hC) i z q ho hi hm]
  simp only at au
  rwa [l] at au
 have aR:∀i:Nat,Al π W0 17 [AF names (ins.set i z)] [] (.tup [.i .i64 (Cb names (ins.set i z)).1,.i .i64 (Cb names (ins.set i z)).2]) []:=λi=>
  Lr W0 names (ins.set i z) (by omega) (by simp;omega) (λs h=>by have:=Y s h;unfold AJ;omega) (λy h=>by
   rcases Az5 h with h|h
   .have:=Z y h;omega
   .rw[h];omega)
 have R:(Dn ⟨L,vs,iso⟩ names ins).2.length<=2^24:=by obtain⟨r,h6,h7,_⟩:=@AaU ⟨L,vs,iso⟩ names ins hC;have:=jV h7 (by omega);rw[h6];simp only[Aj0] at this⊢;omega
 generalize bi:G7 ⟨L,vs,iso⟩ names ins=RV at *;generalize hS:Dn ⟨L,vs,iso⟩ names ins=S at *;obtain⟨S1,C⟩:=S;obtain⟨R1,R2⟩:=RV;rw[BQ.enc_eq] at c;rw[Ez] at *;unfold AF at *;simp only at an c M R;refine Ae (vs:=[.b true]) bB (by simp) (by simp) λn0 f=>?_;clear f;simp only[push_cast,seval,reduceEqDiff,O,q];have _h:=trivial;repeat' (first|(first|((first|apply Ab|apply Ah|apply Ag)<;>intro _h)|refine Ac u ?_|refine Ac o ?_|refine Ac p ?_|refine Ac K ?_|refine Ac c ?_|refine Ac M ?_)<;>simp only[push_cast,seval,reduceEqDiff,_h,O,q]|intro _)
 rename_i k8 k7 k6 k5 k4 k3 k2 k1;obtain⟨J,G⟩:∃y:Id,y=(n0+1+k8+1+k7+1+k6,7):=⟨_,rfl⟩
 obtain⟨n1,X⟩:∃n,n=n0+1+k8+1+k7+1+k6+1+k5+1+k4+1+k3+1+k2+1+k1:=⟨_,rfl⟩;have ah:((n0,5):Id)≠J:=by rw[G];intro l;cases congrArg Prod.snd l
 have ag:((n0,4):Id)≠J:=by rw[G];intro l;cases congrArg Prod.snd l
 have T:J.1<n1:=by rw[G,X];simp only;omega
 have bd:n0<n1:=by omega
 rw[<-G,<-X];clear G X;have f1:=eq_false ah;have f2:=eq_false (AeS ah);have f3:=eq_false ag;have f4:=eq_false (AeS ag);generalize I:([(J,_),((n0,5),_),((n0,4),_),((n0,3),_)]:Aj)=τ;have t7:lk τ J=some (.box (.agg [.sl (names.map V.s),.sl (ins.map Ay.enc)])):=by rw[<-I];simp[lk]
 have t5:lk τ (n0,5)=some (.box (.agg [.s L.tag,.s L.parent,.s L.dir,.sl (L.card.map AH.enc),.sl (L.ord.map AH.enc),.s L.dec,.s L.grp,.s L.minus,.s L.perc,.i .i64 L.prim,.i .i64 L.sec,.sl (L.lists.map CN.enc),.sl (L.units.map DG.enc),.sl (L.dates.map CX.enc),.sl (L.months.map V.s),.sl (L.days.map V.s),.sl (vs.map BD.enc),.b iso])):=by rw[<-I];simp[lk,f2]
 have t4:lk τ (n0,4)=some (.box (.agg [.i .i64 z.op,.i .i64 z.a,.i .i64 z.b,.s z.s])):=by rw[<-I];simp[lk,f4]
 have tn:∀i:Id,n1<=i.1->lk τ i=none/\del τ i=τ:=by
  intro i hi;have d1:J≠i:=λl=>by rw[l] at T;omega
  have d2:∀j,((n0,j):Id)≠i:=λj l=>by rw[<-l] at hi;simp only at hi;omega
  rw[<-I];exact⟨by simp[lk,d1,d2],by simp[del,d1,d2]⟩
 clear I u o p K c M;refine Am ins.length (Inv:=λm st=>∃dn g n,ins=dn++g/\m=g.length/\n1<=n/\st=⟨[(4,.ref (n0,4) 0),(5,.ref (n0,5) 0),(7,.ref J 0),(8,.sl (Gy C)),(10,.s R1),(11,.i .i64 R2),(12,.i .i64 dn.length)],τ,n⟩) ⟨_,Ak.refl,[],ins,_,rfl,rfl,A0d _,rfl⟩ ?_;rintro m _ ⟨dn,g,n,hz,rfl,bk,rfl⟩;cases g with
 | nil=>
  have b0:decide ((dn.length:Int)<(ins.length:Int))=false:=by rw[hz];simp
  simp only[push_cast,seval,reduceEqDiff,t7,b0,Adp];intros;exact Af (by simp[get])
 | cons x g=>
  have al:=AL hz;have b0:=Gw hz;have b1:=Sm hz;have b2:(dn.length<ins.length)=True:=eq_true al;have hx:ins[dn.length]?=some x:=by rw[hz];simp
  simp only[push_cast,seval,reduceEqDiff,t7,b0,b1,b2,Adp];intros;rename_i q3 q2 q1;rw[show(V.b (x.op==11))=V.b (x.op==11||([]:List Int).any (· == (dn.length:Int))) from by simp];refine Am C.length (Inv:=λm st=>∃d r n2,C=d++r/\m=r.length/\n1<=n2/\st=⟨[(4,.ref (n0,4) 0),(5,.ref (n0,5) 0),(7,.ref J 0),(8,.sl (Gy C)),(10,.s R1),(11,.i .i64 R2),(12,.i .i64 dn.length),(13,.b (x.op==11||d.any (· == (dn.length:Int)))),(14,.i .i64 d.length)],τ,n2⟩) ⟨_,Ak.refl,[],C,_,rfl,rfl,?_,rfl⟩ ?_
  .omega
  rintro m _ ⟨d,r,n2,t,rfl,bj,rfl⟩;cases r with
  | cons y r=>
   have c0:decide ((d.length:Int)<((Gy C).length:Int))=true:=by unfold Gy;rw[Adp,t];simp;omega
   have c1:(Gy C)[d.length]?=some (.i .i64 y):=by rw[t];simp[Gy]
   have c2:(d.length<(Gy C).length)=True:=eq_true (by unfold Gy;rw[Adp,t];simp);have c3:IntKind.i64.wrap ((d.length:Int)+1)=((d++[y]).length:Int):=Ai _ (by have:=R;have:=congrArg List.length t;simp at this;omega);have c4:(x.op==11||(d++[y]).any (· == (dn.length:Int)))=((x.op==11||d.any (· == (dn.length:Int)))||y==(dn.length:Int)):=by rw[List.any_append];simp[Bool.or_assoc]
   generalize(x.op==11||d.any (· == (dn.length:Int)))=B at *;cases B with
   | true=>simp only[push_cast,seval,reduceEqDiff,c0,c1,c2,c3];intros;rename_i w3 w2 w1;exact⟨_,_,A0e _,Ak.refl,d++[y],r,n2+1+w3+1+w2+1+w1,by rw[t];simp,rfl,by omega,by rw[c4];first|rfl|(rw[AyR])|(rw[Axu])⟩
   | false=>simp only[push_cast,seval,reduceEqDiff,c0,c1,c2,c3];intros;rename_i w3 w2 w1;exact⟨_,_,A0e _,Ak.refl,d++[y],r,n2+1+w3+1+w2+1+w1,by rw[t];simp,rfl,by omega,by rw[c4];first|rfl|(rw[AyR])|(rw[Axu])⟩
  | nil=>
   rw[ApV] at t;subst t;have c0:decide ((C.length:Int)<((Gy C).length:Int))=false:=by simp[Gy]
   cases U:(x.op==11||C.any (· == (dn.length:Int))) with
   | true=>simp only[push_cast,seval,reduceEqDiff,c0,Ai x (dn:=dn) (by omega)];intros;exact⟨_,_,A0e _,Ak.refl,dn++[x],g,_,by rw[hz];simp,rfl,by omega,rfl⟩
   | false=>
    simp only[push_cast,seval,reduceEqDiff,c0,t7,t4,t5,b1,b2,Adp];intros;rename_i w2 w1;obtain⟨N,hN⟩:∃N,N=n2+1+w2+1+w1:=⟨_,rfl⟩
    rw[<-hN];have aj:n1<=N:=by omega
    clear hN;have g1:∀j:Nat,((N,j)=J)=False:=λj=>eq_false λl=>by rw[<-l] at T;simp only at T;omega
    have D:∀j:Nat,(J=(N,j))=False:=λj=>eq_false λl=>of_eq_false (g1 j) l.symm;have g2:∀j k:Nat,((N,j)=(n0,k))=False:=λj k=>eq_false λl=>by have:=congrArg Prod.fst l;simp only at this;omega
    have E:∀j k:Nat,((n0,k)=(N,j))=False:=λj k=>eq_false λl=>of_eq_false (g2 j k) l.symm;have H:∀j,lk τ (N,j)=none:=λj=>(tn _ aj).1;have aQ:∀j,del τ (N,j)=τ:=λj=>(tn _ aj).2;have am:(∀y∈ins.map Ay.enc,(cells y).length=4)=True:=eq_true (λy hy=>by obtain⟨w,_,rfl⟩:=AmO.1 hy;rfl);have ap:(0+ins.length<=AG)=True:=eq_true (by unfold AG;omega);have W:(ins.length<=AG)=True:=eq_true (by unfold AG;omega);simp only[push_cast,seval,reduceEqDiff,c0,t7,t4,t5,b1,b2,g1,D,g2,E,H,aQ,am,ap,W,Adp,Awp];intros;have aw:(ins.map Ay.enc).set dn.length (V.agg [.i .i64 z.op,.i .i64 z.a,.i .i64 z.b,.s z.s])=(ins.set dn.length z).map Ay.enc:=by have:=@List.map_set _ _ Ay.enc ins dn.length z;rw[this,Ay.enc_eq]
    rw[aw];refine KC (uW (e:=54) (sz:=4) (rid:=(N,15)) (kid:=(N,97)) (A:=[.sl (names.map V.s)]) (B:=[]) (es:=(ins.set dn.length z).map Ay.enc) (τ:=τ) (λl=>by cases congrArg Prod.snd l) (by simp[lk]) (by simp only[lk];rw[if_neg (λl=>by cases congrArg Prod.snd l)];simp only[if_true]) (λi e' h=>?_) (H 15) (Afx _) (λs=>.inl rfl) (A0d _)) ?_
    .have aM:((N,15):Id)≠i:=by rintro rfl;rw[H] at h;cases h
     have ao:((N,97):Id)≠i:=by rintro rfl;rw[H] at h;cases h
     exact⟨by simp only[lk];rw[if_neg aM,if_neg ao];exact h,AeS ao⟩
    rw[AxY] at U;have aO:(dn.length:Int)∉C:=λhm=>by have:=List.any_eq_false.1 U.2 _ hm;simp at this
    have ay:=aR dn.length;have aP:=an dn.length al (by rw[Cg hx];exact U.1) aO;simp only[AtX,Awp];have s1:(R1==R1)=true:=by simp
    have s2:(R2==R2)=true:=by simp
    cases F:((Cb names (ins.set dn.length z)).2==0) with
    | false=>
     simp only[push_cast,seval,reduceEqDiff,g1,D,g2,E,bne,F,t5,Ai x (dn:=dn) (by omega)];have _h:=trivial;repeat' (first|(first|((first|apply Ab|apply Ah|apply Ag)<;>intro _h)|refine Ac ay ?_|refine Ar (by omega) ?_)<;>simp only[push_cast,seval,reduceEqDiff,_h,g1,D,g2,E,bne,F,t5,Ai x (dn:=dn) (by omega)]|intro _)
     exact⟨_,_,A0e _,Ak.drop1 (H 15) (A0d _),dn++[x],g,_,by rw[hz];simp,rfl,by omega,rfl⟩
    | true=>
     have av:=aP F;simp only[push_cast,seval,reduceEqDiff,g1,D,g2,E,bne,F,t5,s1,s2];have _h:=trivial;repeat' (first|(first|((first|apply Ab|apply Ah|apply Ag)<;>intro _h)|refine Ac ay ?_|refine Ac av ?_|refine Ar (by omega) ?_)<;>simp only[push_cast,seval,reduceEqDiff,_h,g1,D,g2,E,bne,F,t5,s1,s2]|intro _)
     exact Af (by simp[get])
end Go.Ir

namespace Go.Ir
open Go.Proofs
theorem Am8:π.cellsOf 44=18:=by kernel_rfl
theorem Ue(c:List V)(h:Et π 44 c):∃L vs iso,V.agg c=Zw L vs iso/\Nh L<=200*A7 c/\A8 L.card+A8 L.ord<=A7 c/\Dj BD.wt vs<=A7 c/\-9223372036854775808<=L.prim/\L.sec<9223372036854775808:=by
 obtain⟨w,f⟩:=h.st_inv Tryz.underlying44;rw[Am8] at w;obtain⟨a,r,rfl,t,x⟩:∃a r,c=a++r/\a.length=16/\r.length=2:=⟨c.take 16,c.drop 16,(AyW 16 c).symm,by simp;omega,by simp;omega⟩;obtain⟨d,e,rfl⟩:=xR x;have o:=f _ (by exact Agk);have p:=f _ (by exact A0c _ Agk);have q:=f _ (by exact A0c _ (A0c _ Agk));clear f;have b:(a++[d,e]).drop 16=[d,e]:=by rw[<-t,AzT]
 have g:(a++[d,e]).drop 17=[e]:=by rw[<-AzD (i:=1) (j:=16),b];rfl
 have m:(a++[d,e]).take 16=a:=by rw[<-t,List.take_left]
 simp only[Aoc,Aqy,AdD,AwJ,b,g,m,Au8,Awk] at o p q;obtain⟨L,s,u,v,k,l⟩:=Aln a o;obtain⟨vs,rfl,y⟩:=Acr d p;obtain⟨iso,rfl⟩:=q.bool_inv Tryz.underlying4;refine⟨L,vs,iso,?_,?_,?_,?_,k,l⟩
 .rw[BQ.enc_eq] at s;cases s;rw[Ez];rfl
 all_goals (rw[F1];simp only[A7];omega)
end Go.Ir
