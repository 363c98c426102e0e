/- Parts of the proof: the calculus of walks, contracts of functions, plain laws; each theorem states its conditions. -/
import Derived.Test.YtalbicndcfmbnaaGreatDoorTad
import Derived.Lib.RuneBytes
import Derived.Lib.RuneCount
set_option linter.all false
open Nat (reduceEqDiff)
namespace Go.Ir
open Go.Proofs
variable{P:Program}{W0:World}{nt n:Nat}{Q:Exit→St→Prop}{env:A9}{σ:Aj}
def fP:IC:=sQ (oS [m1 5 1] [2,5] (.block 0 (oS [bZ 7 .eql 5 7,m1 6 7] [2,5,6] (cD 6 (oR [fA 8 2 3,l1 9 8,m1 4 9] [4]) (oS [bZ 11 .eql 5 8,m1 10 11] [2,10] (cD 10 (oR [fA 12 2 4,l1 13 12,m1 4 13] [4]) .skip)))))) (oR [mC 4 .nil] [4])
def qZ:IC:=oS [bX 2 0,mC 4 .nil] [1,2] fP
@[push_cast]def Aro:List R:=[.t 4]
@[push_cast]def AwN:=Aq fP.eq_1<|AL qZ.eq_1
theorem Amn:Av Tryz.prog 153 14 qZ Aro=true:=by kernel_rfl
def gD:IC:=sQ (oS [m1 5 0,bZ 6 .eql 5 9] [3,6] (cD 6 (oR [lA 7 3 5,q1 8 40 7,m1 9 8,Dv 10 9 3 1,Db 11 9 10,C8 12 9 .eql 11 1,pA 13 9 12,m1 4 13] [4]) .skip)) (oR [lA 14 3 5,q1 15 40 14,m1 16 15,Dv 17 16 3 1,Db 18 16 17,C8 19 16 .eql 18 2,pA 20 16 19,m1 4 20] [4])
def yA:IC:=oS [bX 3 1,mC 4 (.b false)] [0,3] gD
@[push_cast]def AoU:List R:=[.t 4]
@[push_cast]def Awo:=Aq gD.eq_1<|AL yA.eq_1
theorem Aht:Av Tryz.prog 154 21 yA AoU=true:=by kernel_rfl
def VU:IC:=oR [fA 23 5 2,l1 24 23,o1 25 (.bin .add (.c (.s [61])) (.t 24)),m1 26 7,o1 27 (.msl false 9 1 [.t 25,.t 26,.c (.s [111,116,104,101,114])]),m1 6 27] [6]
def uI:IC:=sQ (.ops [lA 15 3 16,m1 16 1,q2 17 153 15 16,fA 18 5 2,l1 19 18,q2 20 210 17 19,m1 14 20,xT 21 14 0,xT 22 14 1,m1 7 21,m1 8 22] [5,7] [[0,2],[1,2],[3,4],[2,5],[4,5],[5,6],[6,7],[6,8],[7,9],[8,10]]) VU
def oV:IC:=sQ (oS [m1 9 1,bZ 10 .eql 9 9] [1,3,5,10] (cD 10 (oR [fA 11 5 2,l1 12 11,o1 13 (.msl false 9 1 [.t 12,.c (.s [111,116,104,101,114])]),m1 6 13] [6]) .skip)) uI
def dS:IC:=oS [bX 3 0,bX 5 2,mC 6 .nil] [1,3,5] oV
@[push_cast]def Ase:List R:=[.t 6]
@[push_cast]def Aw1:=Aq VU.eq_1<|Aq uI.eq_1<|Aq oV.eq_1<|AL dS.eq_1
theorem Ain:Av Tryz.prog 209 28 dS Ase=true:=by kernel_rfl
def Wr:IC:=oS [m1 21 2,m1 22 10,q2 23 120 21 22,m1 11 23] [2,11,15,16,17] (oS [m1 24 11,bZ 25 .geq 24 0] [2,11,15,16,17,25] (cD 25 (oR [m1 26 11,m1 8 26] [8]) .skip))
def uB:IC:=oS [bT 18 .lss 17 16] [2,15,16,17,18] (sQ (cD 18 .skip (.exit 0)) (sQ (.block 1 (oS [iA 19 15 17 9 1,l1 20 19,m1 10 20] [2,10,15,16,17] Wr)) (oP [bZ 27 .add 17 1,m1 17 27] [2,15,16,17])))
def uL:IC:=oS [bX 4 0,bX 7 3,mZ 8 0] [1,2,4,7] (sQ (oS [lA 12 4 16,m1 13 1,lA 14 7 5,q3 15 209 12 13 14,nL 16 15,mZ 17 0] [2,15,16,17] (.block 0 (.loop uB))) (oR [mZ 8 (-1)] [8]))
@[push_cast]def Ap0:List R:=[.t 8]
@[push_cast]def Aws:=Aq Wr.eq_1<|Aq uB.eq_1<|AL uL.eq_1
theorem AkF:Av Tryz.prog 155 28 uL Ap0=true:=by kernel_rfl
def WU:IC:=oS [m1 45 7,m1 46 8,m1 47 6,o1 48 (.slS (.t 46) (some (.t 47)) none),o1 49 (.msl false 9 1 [.t 48]),o1 50 (.app (.t 45) (.t 49) 9 1),m1 7 50] [2,5,6,7,8] (oP [m1 51 8,m1 52 6,o1 53 (.slS (.t 51) none (some (.t 52))),m1 8 53] [2,5,7,8])
def O6:IC:=sQ (oS [m1 38 8,bC 39 .neq 38 (.s [])] [2,5,7,8,39] (cD 39 .skip (.exit 0))) (.block 1 (oS [m1 40 8,nS 41 40,m1 42 5,bT 43 .sub 41 42,o1 44 (.mx false (ci 0) [.t 43]),m1 6 44] [2,5,6,7,8] WU))
def Vy:IC:=sQ (oS [m1 35 1,m1 36 6,o1 37 (.slS (.t 35) none (some (.t 36))),m1 8 37] [2,5,7,8] (.block 0 (.loop O6))) (oS [m1 54 7,o1 55 (.calls 260 [.t 54])] [2,7] (sQ (.wk (oP [m1 56 7,fA 57 2 1,l1 58 57,q2 59 261 56 58,m1 4 59] [4])) .ret))
def W3:IC:=oS [m1 26 1,nS 27 26,fA 28 2 4,l1 29 28,bT 30 .sub 27 29,m1 6 30] [1,2,5,6] (oS [m1 31 1,m1 32 6,o1 33 (.slS (.t 31) (some (.t 32)) none),o1 34 (.msl true 9 1 [.t 33]),m1 7 34] [1,2,5,6,7] Vy)
def uN:IC:=oS [fA 20 2 5,l1 21 20,m1 5 21] [1,2,5] (sQ (oS [m1 22 5,bZ 23 .lss 22 1] [1,2,5,23] (cD 23 (oP [fA 24 2 4,l1 25 24,m1 5 25] [1,2,5]) .skip)) W3)
def cM:IC:=sQ (oS [fA 9 2 4,l1 10 9,bZ 11 .lss 10 1,m1 12 11,Br 13 12 1,gF 14 12 (.lenS (.t 13)),Du 15 12 2 4,CM 16 12 15,gF 17 12 (.bin .leq (.t 14) (.t 16)),pO 18 12 17] [1,2,18] (cD 18 (oR [m1 19 1,m1 4 19] [4]) .skip)) uN
def gY:IC:=oS [bX 2 0,mC 4 (.s [])] [1,2] cM
@[push_cast]def Arn:List R:=[.t 4]
@[push_cast]def Ax4:=Aq WU.eq_1<|Aq O6.eq_1<|Aq Vy.eq_1<|Aq W3.eq_1<|Aq uN.eq_1<|Aq cM.eq_1<|AL gY.eq_1
theorem Tr:Av Tryz.prog 204 60 gY Arn=true:=by kernel_rfl
def pC:IC:=oS [lA 22 2 6,m1 23 7,q2 24 204 22 23,m1 10 24] [2,6,8,9,10] (sQ (oS [m1 25 9] [2,6,8,10,25] (cD 25 (oP [m1 26 10,fA 27 2 0,l1 28 27,m1 29 8,bT 30 .add 28 29,bT 31 .add 26 30,m1 10 31] [2,6,10]) .skip)) (sQ (oS [m1 32 6] [2,10,32] (cD 32 (oP [fA 33 2 2,l1 34 33,m1 35 10,bT 36 .add 34 35,m1 10 36] [10]) .skip)) (oR [m1 37 10,m1 4 37] [4])))
def bV:IC:=oS [m1 12 1,o1 13 (.call 135 [.t 12,.c (.s [45])]),m1 11 13,xT 14 11 0,xT 15 11 1,m1 5 14,m1 6 15] [2,5,6] (oS [m1 17 5,o1 18 (.call 136 [.t 17,.c (.s [46])]),m1 16 18,xT 19 16 0,xT 20 16 1,xT 21 16 2,m1 7 19,m1 8 20,m1 9 21] [2,6,7,8,9] pC)
def nH:IC:=oS [bX 2 0,mC 4 (.s [])] [1,2] bV
@[push_cast]def AoS:List R:=[.t 4]
@[push_cast]def Axk:=Aq pC.eq_1<|Aq bV.eq_1<|AL nH.eq_1
theorem Amo:Av Tryz.prog 151 38 nH AoS=true:=by kernel_rfl
def iK:IC:=cD 13 (oR [mC 6 (.s []),mZ 7 1] [6,7]) (oS [fA 30 8 0,l1 31 30,bC 32 .eql 31 (.s []),m1 29 32] [1,2,8,29] (cD 29 (oR [mC 6 (.s []),mZ 7 18] [6,7]) .skip))
def Vp:IC:=oS [m1 44 1,o1 45 (.call 150 [.t 44,ci 2]),m1 43 45,xT 46 43 0,xT 47 43 1,m1 1 46,m1 10 47] [1,8,10] (oP [fA 48 8 3,l1 49 48,m1 9 49] [1,8,9,10])
def Wz:IC:=.block 1 (oS [bC 35 .eql 33 (.s [105,110,116,101,103,101,114]),m1 34 35] [1,8,9,10,33,34] (cD 34 (oP [m1 37 1,o1 38 (.call 149 [.t 37,ci 0]),m1 36 38,xT 39 36 0,xT 40 36 1,m1 1 39,m1 10 40] [1,8,9,10]) (oS [bC 42 .eql 33 (.s [112,101,114,99,101,110,116]),m1 41 42] [1,8,9,10,41] (cD 41 Vp .skip))))
def VN:IC:=sQ (oS [m1 50 10,bZ 51 .neq 50 0] [1,8,9,10,51] (cD 51 (oR [m1 52 10,mC 6 (.s []),m1 7 52] [6,7]) .skip)) (oR [lA 53 8 6,m1 54 1,q2 55 151 53 54,m1 56 9,bT 57 .add 55 56,m1 6 57,mZ 7 0] [6,7])
def o7:IC:=sQ (.block 0 (oS [m1 14 1,q1 15 67 14,nT 16 15,m1 17 16,Br 18 17 2,gF 19 17 (.bin .neq (.t 18) (.c (.s []))),Br 20 17 19,By 21 20 2,gT 22 20 (.bin .neq (.t 21) (.c (.s [105,110,116,101,103,101,114]))),gF 23 17 (.pick (.t 20) (.t 22) (.c (.b false))),Br 24 17 23,By 25 24 2,gT 26 24 (.bin .neq (.t 25) (.c (.s [112,101,114,99,101,110,116]))),gF 27 17 (.pick (.t 24) (.t 26) (.c (.b false))),pO 28 17 27,m1 13 28] [1,2,8,13] iK)) (oS [mC 9 (.s [])] [1,2,8,9] (oS [mZ 10 0] [1,2,8,9,10] (sQ (oS [m1 33 2] [1,8,9,10,33] Wz) VN)))
def iH:IC:=oS [bX 3 0,mC 6 (.s []),mZ 7 0] [1,2,3] (oS [fA 11 3 5,lA 12 11 6,o1 8 (.alloc (.agg [.s [],.s [],.s [],.s [],.i .i64 0,.i .i64 0])),sT 8 12 6] [1,2,8] o7)
@[push_cast]def App:List R:=[.t 6,.t 7]
@[push_cast]def Axp:=Aq iK.eq_1<|Aq Vp.eq_1<|Aq Wz.eq_1<|Aq VN.eq_1<|Aq o7.eq_1<|AL iH.eq_1
theorem Ai7:Av Tryz.prog 105 58 iH App=true:=by kernel_rfl
def oM:IC:=sQ (oS [fA 14 1 0,l1 15 14,m1 16 15,gT 17 16 (.load (.t 1) 3 true),gT 18 16 (.call 138 [.t 17]),gT 19 16 (.not (.t 18)),pA 20 16 19] [3,20] (cD 20 (oP [m1 21 3,o1 22 (.bin .add (.c (.s [45])) (.t 21)),m1 3 22] [3]) .skip)) (oR [m1 23 3,m1 2 23] [2])
def b9:IC:=sQ (oS [fA 6 1 2,l1 7 6,bC 8 .neq 7 (.s [])] [1,3,8] (cD 8 (oP [m1 9 3,fA 10 1 2,l1 11 10,o1 12 (.bin .add (.c (.s [46])) (.t 11)),bT 13 .add 9 12,m1 3 13] [1,3]) .skip)) oM
def kV:IC:=oS [bX 1 0,mC 2 (.s [])] [1] (oS [fA 4 1 1,l1 5 4,m1 3 5] [1,3] b9)
@[push_cast]def Ar0:List R:=[.t 2]
@[push_cast]def AwR:=Aq oM.eq_1<|Aq b9.eq_1<|AL kV.eq_1
theorem AlO:Av Tryz.prog 258 24 kV Ar0=true:=by kernel_rfl
def m9:IC:=sQ (oS [fA 4 1 1,l1 5 4,nS 6 5,bZ 7 .gtr 6 15,m1 8 7,Du 9 8 1 2,CM 10 8 9,gF 11 8 (.lenS (.t 10)),Dg 12 8 .gtr 11 6,pO 13 8 12] [1,13] (cD 13 (oR [mC 2 (.s []),mZ 3 2] [2,3]) .skip)) (oR [lA 14 1 3,q1 15 258 14,m1 2 15,mZ 3 0] [2,3])
def qT:IC:=oS [bX 1 0,mC 2 (.s []),mZ 3 0] [1] m9
@[push_cast]def Aqi:List R:=[.t 2,.t 3]
@[push_cast]def AwX:=Aq m9.eq_1<|AL qT.eq_1
theorem Ajz:Av Tryz.prog 201 16 qT Aqi=true:=by kernel_rfl
def pK:IC:=sQ (oS [m1 4 0,o1 5 (.call 259 [.t 4,.c (.s [48])]),m1 3 5] [3] (oS [m1 6 3,bC 7 .neq 6 (.s [])] [3,7] (cD 7 (oR [m1 8 3,m1 2 8] [2]) .skip))) (oR [mC 2 (.s [48])] [2])
def bO:IC:=oS [mC 2 (.s [])] [0] pK
@[push_cast]def AoE:List R:=[.t 2]
@[push_cast]def Awm:=Aq pK.eq_1<|AL bO.eq_1
theorem AhA:Av Tryz.prog 203 9 bO AoE=true:=by kernel_rfl
def W8:IC:=oS [m1 19 1,bZ 20 .lss 19 0,m1 21 20,Br 22 21 1,Dg 23 21 .gtr 22 6,pO 24 21 23,m1 18 24] [1,6,18] (cD 18 (oR [mC 4 (.s []),mZ 5 2] [4,5]) .skip)
def UC:IC:=sQ (.ops [fA 30 6 2,l1 31 30,m1 32 1,fA 33 6 2,l1 34 33,nS 35 34,bT 36 .sub 32 35,o1 37 (.call 200 [.c (.s [48]),.t 36]),bT 38 .add 31 37,fA 39 6 2,sT 39 38 1] [6] [[0,1],[3,4],[4,5],[2,6],[5,6],[6,7],[1,8],[7,8],[1,10],[4,10],[8,10],[9,10]]) (oR [lA 40 6 3,q1 41 201 40,xT 42 41 0,xT 43 41 1,m1 4 42,m1 5 43] [4,5])
def WV:IC:=sQ (.ops [m1 59 8,m1 60 8,nS 61 60,m1 62 1,bT 63 .sub 61 62,o1 64 (.slS (.t 59) none (some (.t 63))),m1 65 8,m1 66 8,nS 67 66,m1 68 1,bT 69 .sub 67 68,o1 70 (.slS (.t 65) (some (.t 69)) none),fA 71 6 1,sT 71 64 1,fA 72 6 2,sT 72 70 1] [6] [[1,2],[2,4],[3,4],[0,5],[4,5],[7,8],[8,10],[9,10],[6,11],[10,11],[5,13],[12,13],[11,15],[13,15],[14,15]]) (oR [lA 73 6 3,q1 74 201 73,xT 75 74 0,xT 76 74 1,m1 4 75,m1 5 76] [4,5])
def Wy:IC:=sQ (.ops [fA 44 6 1,l1 45 44,fA 46 6 2,l1 47 46,m1 48 1,o1 49 (.slS (.t 47) none (some (.t 48))),bT 50 .add 45 49,fA 51 6 2,l1 52 51,m1 53 1,o1 54 (.idx (.t 52) (.t 53)),bC 55 .geq 54 (.i .u8 53),m1 8 50,m1 9 55] [1,6,8,9] [[0,1],[2,3],[3,5],[4,5],[1,6],[5,6],[7,8],[8,10],[9,10],[10,11],[6,12],[11,13]]) (sQ (oS [m1 56 9] [1,6,8,56] (cD 56 (oP [m1 57 8,q1 58 202 57,m1 8 58] [1,6,8]) .skip)) WV)
def iL:IC:=sQ (.block 0 (oS [m1 16 7,nT 17 16,m1 15 17] [1,6,15] (cD 15 (oR [mC 4 (.s []),mZ 5 1] [4,5]) W8))) (sQ (oS [m1 25 1,fA 26 6 2,l1 27 26,nS 28 27,bT 29 .geq 25 28] [1,6,29] (cD 29 UC .skip)) Wy)
def kL:IC:=oS [mC 4 (.s []),mZ 5 0] [0,1] (oS [m1 11 0,q1 12 98 11,m1 10 12,xT 13 10 0,xT 14 10 1,o1 6 (.alloc (.agg [.b false,.s [],.s []])),sT 6 13 3,m1 7 14] [1,6,7] iL)
@[push_cast]def AoK:List R:=[.t 4,.t 5]
@[push_cast]def Awr:=Aq W8.eq_1<|Aq UC.eq_1<|Aq WV.eq_1<|Aq Wy.eq_1<|Aq iL.eq_1<|AL kL.eq_1
theorem Sw:Av Tryz.prog 149 77 kL AoK=true:=by kernel_rfl
def VE:IC:=.ops [fA 27 6 1,l1 28 27,m1 29 8,m1 30 1,o1 31 (.slS (.t 29) none (some (.t 30))),bT 32 .add 28 31,q1 33 203 32,fA 34 6 2,l1 35 34,m1 36 1,fA 37 6 2,l1 38 37,nS 39 38,o1 40 (.mx true (.t 36) [.t 39]),o1 41 (.slS (.t 35) (some (.t 40)) none),fA 42 6 1,sT 42 33 1,fA 43 6 2,sT 43 41 1] [6] [[0,1],[2,4],[3,4],[1,5],[4,5],[5,6],[7,8],[10,11],[11,12],[9,13],[12,13],[8,14],[13,14],[1,16],[6,16],[8,16],[11,16],[15,16],[1,18],[8,18],[11,18],[14,18],[16,18],[17,18]]
def W6:IC:=sQ (.ops [fA 22 6 2,l1 23 22,m1 24 1,o1 25 (.call 200 [.c (.s [48]),.t 24]),bT 26 .add 23 25,m1 8 26] [1,6,8] [[0,1],[2,3],[1,4],[3,4],[4,5]]) VE
def WP:IC:=.ops [m1 50 9,m1 51 9,nS 52 51,m1 53 1,bT 54 .add 52 53,o1 55 (.slS (.t 50) none (some (.t 54))),q1 56 203 55,m1 57 9,m1 58 9,nS 59 58,m1 60 1,bT 61 .add 59 60,o1 62 (.slS (.t 57) (some (.t 61)) none),fA 63 6 2,l1 64 63,bT 65 .add 62 64,fA 66 6 1,sT 66 56 1,fA 67 6 2,sT 67 65 1] [6] [[1,2],[2,4],[3,4],[0,5],[4,5],[5,6],[8,9],[9,11],[10,11],[7,12],[11,12],[13,14],[12,15],[14,15],[6,17],[14,17],[16,17],[14,19],[15,19],[17,19],[18,19]]
def XT:IC:=sQ (.ops [m1 44 1,o1 45 (.neg (.t 44)),o1 46 (.call 200 [.c (.s [48]),.t 45]),fA 47 6 1,l1 48 47,bT 49 .add 46 48,m1 9 49] [1,6,9] [[0,1],[1,2],[3,4],[2,5],[4,5],[5,6]]) WP
def XD:IC:=oS [m1 17 1,o1 18 (.mx true (.t 17) [ci 40]),o1 19 (.mx false (.t 18) [ci (-40)]),m1 1 19] [1,6] (sQ (oS [m1 20 1,bZ 21 .geq 20 0] [1,6,21] (cD 21 W6 XT)) (oR [lA 68 6 3,q1 69 201 68,xT 70 69 0,xT 71 69 1,m1 4 70,m1 5 71] [4,5]))
def pF:IC:=oS [m1 11 0,q1 12 98 11,m1 10 12,xT 13 10 0,xT 14 10 1,o1 6 (.alloc (.agg [.b false,.s [],.s []])),sT 6 13 3,m1 7 14] [1,6,7] (sQ (oS [m1 15 7,nT 16 15] [1,6,16] (cD 16 (oR [mC 4 (.s []),mZ 5 1] [4,5]) .skip)) XD)
def pY:IC:=oS [mC 4 (.s []),mZ 5 0] [0,1] pF
@[push_cast]def As0:List R:=[.t 4,.t 5]
@[push_cast]def Awz:=Aq VE.eq_1<|Aq W6.eq_1<|Aq WP.eq_1<|Aq XT.eq_1<|Aq XD.eq_1<|Aq pF.eq_1<|AL pY.eq_1
theorem kR:Av Tryz.prog 150 72 pY As0=true:=by kernel_rfl
end Go.Ir

namespace Go.Ir
open Go.Proofs
variable(W0:World)
theorem eV(c:Bool)(w f:Aa):Al Tryz.prog W0 138 [.agg [.b c,.s w,.s f]] [] (.b (Dw w&&Dw f)) []:=by
 refine Ae (vs:=[.b (Dw w&&Dw f)]) wI (by simp) (by simp) λn0 a=>?_;clear a;simp only[push_cast,reduceEqDiff];have _h:=trivial;repeat' (first|(first|((first|apply Ab|apply Ag|apply Ah)<;>intro _h)|refine Ac (gP W0 _) ?_)<;>(simp only[push_cast,reduceEqDiff,_h];try (have _g:=_h;simp at _g))|intro _)
 all_goals (first|(refine Af ?_;simp <;>(intros;omega);done)|(refine Ad ?_;simp[push_cast, *];done)|skip)
theorem AbI(a:Bool)(w f:Aa)(h:w.length<=2^30)(g:f.length<=2^30):Al Tryz.prog W0 258 [.agg [.b a,.s w,.s f]] [] (.s (Hq a w f)) []:=by
 have e:=eV W0 a w f;generalize hS:Hq a w f=S;unfold Hq at hS;generalize(Dw w&&Dw f)=Z at *;refine Ae (vs:=[.s S]) AlO (by simp) (by simp) λn0 d=>?_;clear d;simp only[push_cast,reduceEqDiff];cases a<;>cases Z
 all_goals (cases c:(f==([]:Aa)))
 all_goals ((try simp only[c] at hS);subst hS)
 all_goals (try simp only[push_cast,reduceEqDiff])
 all_goals (repeat' (first|((first|refine Ac (by exact e) ?_|refine Ar (by simp only[AhT,AiL,AJ]<;>omega) ?_);(try simp only[push_cast,reduceEqDiff]))|intro _))
 all_goals (first|(refine Af ?_;simp ;done)|(refine Ad ?_;simp[push_cast];done)|skip)
theorem JN(a:Bool)(w f:Aa)(h:w.length<=2^30)(g:f.length<=2^30):Al Tryz.prog W0 201 [.agg [.b a,.s w,.s f]] [] (.tup [.s (Fk a w f).1,.i .i64 (Fk a w f).2]) []:=by
 have j:=AbI W0 a w f h g;generalize hS:Fk a w f=S;unfold Fk at hS;generalize Hq a w f=Z at *;refine Ae (vs:=[.s S.1,.i .i64 S.2]) Ajz (by simp) (by simp) λn0 e=>?_;clear e;simp only[push_cast,reduceEqDiff]
 all_goals (cases d:(decide ((w.length:Int)>15))<;>cases c:(decide ((f.length:Int)>6)))
 all_goals ((try simp only[d,c] at hS);subst hS)
 all_goals (try simp only[push_cast,reduceEqDiff,c])
 all_goals (repeat' (first|((first|refine Ac (by exact j) ?_|refine Ar (by omega) ?_);(try simp only[push_cast,reduceEqDiff]))|intro _))
 all_goals (first|(refine Af ?_;simp ;done)|(refine Ad ?_;simp[push_cast];done)|skip)
theorem ZT(w:Aa):Al Tryz.prog W0 203 [.s w] [] (.s (Ed w)) []:=by
 have c:=OR W0 w [48] (by decide) (by decide);generalize hS:Ed w=S;unfold Ed at hS;generalize Lib.trimLeftS w [48]=Z at *;refine Ae (vs:=[.s S]) AhA (by simp) (by simp) λn0 b=>?_;clear b;simp only[push_cast,reduceEqDiff]
 all_goals (cases a:(Z==([]:Aa)))
 all_goals ((try simp only[a] at hS);subst hS)
 all_goals (try simp only )
 all_goals (repeat' (first|((first|refine Ac (by exact c) ?_|refine Ar (by omega) ?_);(try simp only[push_cast,reduceEqDiff,a]))|intro _))
 all_goals (first|(refine Af ?_;simp ;done)|(refine Ad ?_;simp[push_cast];done)|skip)
theorem aL:Al Tryz.prog W0 200 [.s [48],.i .i64 0] [] (.s []) []:=NA W0 [48] 0 (by decide) (by decide) (by decide)
theorem Yt:Al Tryz.prog W0 200 [.s [48],.i .i64 2] [] (.s [48,48]) []:=NA W0 [48] 2 (by decide) (by decide) (by decide)
theorem IQ{s:Aa}(h:DI s=true):(AN s).length<=15/\(Bo s).length<=6:=⟨(Gn h).2.2.1,(Gn h).2.2.2⟩
theorem U2(w:Aa):(Ed w).length<=w.length+1:=by unfold Ed;have:=EP w [48];split<;>simp<;>omega
theorem AbX(s:Aa)(q:s.length<=2^30):Al Tryz.prog W0 150 [.s s,.i .i64 2] [] (.tup [.s (CT s).1,.i .i64 (CT s).2]) []:=by
 have a:=KK W0 s (by omega);have m:=Yt W0;generalize hS:CT s=S;unfold CT at hS;unfold JC at a;cases k:DI s with
 | false=>
  rw[k] at a hS;refine Ae (vs:=[.s S.1,.i .i64 S.2]) kR (by simp) (by simp) λn0 h=>?_;clear h;simp only[push_cast,seval,reduceEqDiff]
  all_goals ((try simp only[bq,if_true,if_false,Int.reduceBEq,reduceCtorEq] at hS);subst hS)
  all_goals (try simp only[push_cast,seval,reduceEqDiff])
  all_goals (repeat' (first|((first|refine Ac (by exact a) ?_|refine Ar (by omega) ?_);(try simp only[push_cast,seval,reduceEqDiff]))|intro _))
  all_goals (first|(refine Af ?_;simp[get];done)|(refine Ad ?_;simp[push_cast,get];done)|skip)
 | true=>
  rw[k] at a hS;obtain⟨r,t⟩:=IQ k;have j:((Bo s++[48,48]).take 2).length=2:=by simp
  have l:=U2 (AN s++(Bo s++[48,48]).take 2);rw[AhT,j] at l;have o:=ZT W0 (AN s++(Bo s++[48,48]).take 2);have hp:=JN W0 (IM s) (Ed (AN s++(Bo s++[48,48]).take 2)) ((Bo s).drop (min 2 (Bo s).length)) (by omega) (by simp;omega);generalize IM s=p at *;generalize AN s=W at *;generalize Bo s=F at *;generalize Ed (W++(F++[48,48]).take 2)=TB at *;have b:max (min (2:Int) 40) (-40)=2:=rfl;have c:decide ((2:Int)>=0)=true:=rfl;have d:(2<=(F++[48,48]).length)=True:=eq_true (by simp);have e:min (2:Int) (F.length:Int)=((min 2 F.length:Nat):Int):=by omega
  have f:((min 2 F.length:Nat)<=F.length)=True:=eq_true (by omega);have g:(W.length+(List.take 2 (F++[48,48])).length<=AJ)=True:=eq_true (by unfold AJ;omega);refine Ae (vs:=[.s S.1,.i .i64 S.2]) kR (by simp) (by simp) λn0 h=>?_;clear h;simp only[push_cast,seval,reduceEqDiff,b,c,d,e,f,g,AzR,Am7]
  all_goals ((try simp only[bq,if_true,if_false,Int.reduceBEq,reduceCtorEq] at hS);subst hS)
  all_goals (try simp only[push_cast,seval,reduceEqDiff,b,c,d,e,f,g,AzR,Am7])
  all_goals (repeat' (first|((first|refine Ac (by exact a) ?_|refine Ac (by exact m) ?_|refine Ac (by exact o) ?_|refine Ac (by exact hp) ?_|refine Ar (by simp only[AhT,AiL,Ank,AJ]<;>omega) ?_);(try simp only[push_cast,seval,reduceEqDiff,b,c,d,e,f,g,AzR,Am7]))|intro _))
  all_goals (first|(refine Af ?_;simp[get];done)|(refine Ad ?_;simp[push_cast,get];done)|skip)
theorem pS(l:List UInt8):(KA l).length<=l.length+1:=by
 induction l with
 | nil=>simp[KA]
 | cons c l a=>rw[KA];grind
theorem yZ(s:Aa):(H3 s).length<=s.length+1:=by have:=pS s.reverse;simpa[H3] using this
theorem AcW(s:Aa)(C:s.length<=2^30):Al Tryz.prog W0 149 [.s s,.i .i64 0] [] (.tup [.s (CR s).1,.i .i64 (CR s).2]) []:=by
 have a:=KK W0 s (by omega);have x:=aL W0;generalize hS:CR s=S;unfold CR at hS;unfold JC at a;have d:decide ((0:Int)<0)=false:=rfl;have e:decide ((0:Int)>6)=false:=rfl;cases u:DI s with
 | false=>
  rw[u] at a hS;refine Ae (vs:=[.s S.1,.i .i64 S.2]) Sw (by simp) (by simp) λn0 b=>?_;clear b;simp only[push_cast,seval,reduceEqDiff,d,e]
  all_goals ((try simp only[bq,if_true,if_false,Int.reduceBEq,reduceCtorEq] at hS);subst hS)
  all_goals (try simp only[push_cast,seval,reduceEqDiff,d,e])
  all_goals (repeat' (first|((first|refine Ac (by exact a) ?_|refine Ar (by omega) ?_);(try simp only[push_cast,seval,reduceEqDiff,d,e]))|intro _))
  all_goals (first|(refine Af ?_;simp[get];done)|(refine Ad ?_;simp[push_cast,get];done)|skip)
 | true=>
  rw[u] at a hS;obtain⟨D,E⟩:=IQ u;have A:=yZ (AN s);have t:=AkY W0 (AN s) (by omega);have y:=JN W0 (IM s) (AN s) [] (by omega) (by simp);have q1:=JN W0 (IM s) (H3 (AN s)) [] (by omega) (by simp);generalize IM s=B at *;generalize H3 (AN s)=v at *;generalize AN s=W at *;cases w:Bo s with
  | nil=>
   rw[w] at a hS;have f:decide ((0:Int)>=(([]:List UInt8).length:Int))=true:=rfl;have j:([]:List UInt8)++[]=[]:=rfl;have k:(([]:List UInt8)==[])=true:=rfl;simp only[if_true,k] at hS;refine Ae (vs:=[.s S.1,.i .i64 S.2]) Sw (by simp) (by simp) λn0 b=>?_;clear b;simp only[push_cast,seval,reduceEqDiff,d,e,f,j]
   all_goals ((try simp only[bq,if_true,if_false,Int.reduceBEq,reduceCtorEq] at hS);subst hS)
   all_goals (try simp only[push_cast,seval,reduceEqDiff,d,e,f,j])
   all_goals (repeat' (first|((first|refine Ac (by exact a) ?_|refine Ac (by exact x) ?_|refine Ac (by exact y) ?_|refine Ar (by omega) ?_);(try simp only[push_cast,seval,reduceEqDiff,d,e,f,j]))|intro _))
   all_goals (first|(refine Af ?_;simp[get];done)|(refine Ad ?_;simp[push_cast,get];done)|skip)
  | cons c F=>
   rw[w] at a hS;obtain⟨G,h⟩:∃G,G=c::F:=⟨_,rfl⟩
   rw[<-h] at a hS;have f:decide ((0:Int)>=(G.length:Int))=false:=by grind
   have k:(G==([]:List UInt8))=false:=by rw[h];rfl
   have l:(0<=G.length)=True:=eq_true (Aqn _);have m:W++List.take 0 G=W:=by simp
   have o:G[0]?=some c:=by rw[h];rfl
   have r:(W.length+(List.take 0 G).length<=AJ)=True:=eq_true (by simp;unfold AJ;omega);have z:Aeu G=decide ((c.toNat:Int)>=53):=by rw[h];rfl
   simp only[if_true,if_false,AcT,k,z] at hS;clear h;have q:IntKind.i64.wrap ((W.length:Int)-0)=(W.length:Int):=by rw[wrap64 (by omega) (by omega)];omega
   have p:IntKind.i64.wrap ((v.length:Int)-0)=(v.length:Int):=by rw[wrap64 (by omega) (by omega)];omega
   refine Ae (vs:=[.s S.1,.i .i64 S.2]) Sw (by simp) (by simp) λn0 b=>?_;clear b;simp only[push_cast,seval,reduceEqDiff,d,e,f,l,m,o,r,q,p,Aqn,AzR,Am7,List.drop_length]
   all_goals (cases g:(decide ((c.toNat:Int)>=53)))
   all_goals ((try simp only[g,bq,if_true,if_false,Int.reduceBEq,reduceCtorEq] at hS);subst hS)
   all_goals (try simp only[push_cast,seval,reduceEqDiff,g,d,e,f,l,m,o,r,q,p,Aqn,AzR,Am7,List.drop_length])
   all_goals (repeat' (first|((first|refine Ac (by exact a) ?_|refine Ac (by exact x) ?_|refine Ac (by exact y) ?_|refine Ac (by exact q1) ?_|refine Ac (by exact t) ?_|refine Ar (by simp only[AhT,AiL,Ank,AJ]<;>omega) ?_);(try simp only[push_cast,seval,reduceEqDiff,g,d,e,f,l,m,o,r,q,p,Aqn,AzR,Am7,List.drop_length]))|intro _))
   all_goals (first|(refine Af ?_;simp[get];done)|(refine Ad ?_;simp[push_cast,get];done)|skip)
theorem Jc(sep:Aa)(n m:Nat)(f:sep.length<=m):∀(c:List Aa),(∀l∈c,l.length<=n)->(Lib.join c sep).length<=c.length*(n+m)
 | [],_=>by simp[Lib.join]
 | [a],h=>by have:=h a (by simp);simp[Lib.join];omega
 | a::b::r,h=>by
  have g:=h a (by simp);have i:=Jc sep n m f (b::r) λl e=>h l (AzQ _ e);have d:Lib.join (a::b::r) sep=a++sep++Lib.join (b::r) sep:=by simp[Lib.join]
  rw[d,AhT,AhT,AiL,AzL];omega
theorem Kv(a:Nat)(h:1<=a):∀(n m:Nat) (r:Aa),r.length<=n->r.length<=m->Bq a n r=Bq a m r:=by
 intro n
 induction n with
 | zero=>
  intro m r b c;have:r=[]:=by simpa using b
  subst this;cases m<;>simp[Bq]
 | succ n d=>
  intro m r b c;cases m with
  | zero=>grind
  | succ m=>rw[Bq,Bq];grind
theorem SW(u:V)(f a F:Nat)(sv:Int)(A:sv=(f:Int))(G:1<=f)(L:f<9223372036854775808)(t:List Aa)(e:Id)(h:Aa)(w:h.length<=64)(v:t.length+h.length<=100)(k:a<e.1)(l:e.1<F)(Q:Exit->St->Prop)
  (H:∀d n,a<d.1->d.1<n->Q (.exit 0) ⟨[(2,.ref (a,2) 0),(5,.i .i64 sv),(7,.arr d),(8,.s []),(39,.b false)],[(d,.arr 9 1 ((t++Bq f h.length h).map V.s)),((a,2),.box u)],n⟩) :
  GT Tryz.prog W0 60 O6 Q ⟨[(2,.ref (a,2) 0),(5,.i .i64 sv),(7,.arr e),(8,.s h)],[(e,.arr 9 1 (t.map V.s)),((a,2),.box u)],F⟩:=by
 subst A;generalize hS:t++Bq f h.length h=S at H;refine Am h.length (Inv:=λm st=>∃r n d g,m=r.length/\g++Bq f r.length r=S/\r.length<=64/\g.length+r.length<=100/\a<d.1/\d.1<n/\st=⟨[(2,.ref (a,2) 0),(5,.i .i64 f),(7,.arr d),(8,.s r)],[(d,.arr 9 1 (g.map V.s)),((a,2),.box u)],n⟩) ⟨_,Ak.refl,h,_,e,t,rfl,hS,w,v,k,l,rfl⟩ ?_;clear hS w v k l;rintro m _ ⟨r,n,d,g,rfl,o,K,I,k,l,rfl⟩;cases r with
 | nil=>simp only[Bq,Ank,Arm] at o;subst o;simp only[push_cast,reduceEqDiff];grind
 | cons c r=>
  obtain⟨R,y⟩:∃R,R=c::r:=⟨_,rfl⟩;rw[<-y] at o K I⊢;have M:1<=R.length:=by rw[y];simp
  have z:(R==([]:Aa))=false:=by rw[y];rfl
  clear y;obtain⟨q,J⟩:∃q,R.length=q+1:=⟨R.length-1,by omega⟩
  rw[J,Bq,if_neg (by rw[z];simp)] at o;rw[Kv f G q (R.take (R.length-f)).length (R.take (R.length-f)) (by simp;omega) (by simp)] at o;have B:max (0:Int) (IntKind.i64.wrap ((R.length:Int)-(f:Int)))=((R.length-f:Nat):Int):=by rw[wrap64 (by omega) (by omega)];omega
  have C:(R.length-f<=R.length)=True:=eq_true (by omega);have D:((g.length:Nat)+1<=AI)=True:=eq_true (by unfold AI;omega);have x:∀j:Nat,((a,j)=d)=False:=λj=>eq_false λE=>(by grind)
  have p:∀j:Nat,(d=(a,j))=False:=λj=>eq_false λE=>of_eq_false (x j) E.symm;simp only[push_cast,reduceEqDiff,x,z,B,C,D,Aqn,AzR,Am7]
  repeat' (first|(((first|apply Ab|apply Ag|apply Ah)<;>intro _h)<;>simp only[push_cast,reduceEqDiff,x,p,z,B,C,D,Aqn,AzR,Am7,Abn])|(refine Ar (by omega) ?_;simp only[push_cast,reduceEqDiff,x,p,z,B,C,D,Aqn,AzR,Am7,Abn])|intro _)
  refine⟨_,_,?_,Ak.refl,R.take (R.length-f),_,_,g++[R.drop (R.length-f)],rfl,by rw[<-o];simp,by simp;omega,by simp;omega,?_,?_,by rw[Azd];rfl⟩
  .simp;omega
  .simp only;omega
  .simp only;omega
theorem Ac5(F e u D:Aa)(a b:Int)(d:Aa)(Z:d.length<=64)(T:e.length<=2^22)(hp:-9223372036854775808<=a)(hs:b<9223372036854775808) :
  Al Tryz.prog W0 204 [.agg [.s F,.s e,.s u,.s D,.i .i64 a,.i .i64 b],.s d] [] (.s (Ig a b e d)) []:=by
 generalize hS:Ig a b e d=S;unfold Ig at hS;cases c:decide (a<1) with
 | true=>
  simp only[c,bq,if_true,if_false,Int.reduceBEq,reduceCtorEq] at hS;subst hS;refine Ae (vs:=[.s d]) Tr (by simp) (by simp) λn0 h=>?_;clear h;simp only[push_cast,seval,reduceEqDiff,c]
  repeat' (first|(((first|apply Ab|apply Ag|apply Ah)<;>intro _h)<;>simp only[push_cast,seval,reduceEqDiff,_h,c])|(refine Ar (by omega) ?_;simp only[push_cast,seval,reduceEqDiff,c])|intro _)
  all_goals exact Af (by simp[get])
 | false=>
 cases g:decide ((d.length:Int)<=a) with
 | true=>
  simp only[c,g,bq,if_true,if_false,Int.reduceBEq,reduceCtorEq] at hS;subst hS;refine Ae (vs:=[.s d]) Tr (by simp) (by simp) λn0 h=>?_;clear h;simp only[push_cast,seval,reduceEqDiff,c,g]
  repeat' (first|(((first|apply Ab|apply Ag|apply Ah)<;>intro _h)<;>simp only[push_cast,seval,reduceEqDiff,_h,c,g])|(refine Ar (by omega) ?_;simp only[push_cast,seval,reduceEqDiff,c,g])|intro _)
  all_goals exact Af (by simp[get])
 | false=>
  simp only[c,g,bq,if_true,if_false,Int.reduceBEq,reduceCtorEq] at hS;have k1:¬a<1:=of_decide_eq_false c;have k2:¬(d.length:Int)<=a:=of_decide_eq_false g;obtain⟨p,rfl⟩:∃p:Nat,a=p:=⟨a.toNat,by omega⟩
  have v:IntKind.i64.wrap ((d.length:Int)-(p:Int))=((d.length-p:Nat):Int):=by rw[wrap64 (by omega) (by omega)];omega
  have w:(d.length-p<=d.length)=True:=eq_true (by omega);obtain⟨f,t⟩:∃f:Nat,f=(if b<1 then(p:Int) else b).toNat:=⟨_,rfl⟩
  rw[<-t] at hS;have o:1<=f:=by rw[t];split<;>omega
  have B:f<9223372036854775808:=by rw[t];split<;>omega
  have V:(d.take (d.length-p)).length=d.length-p:=by simp
  have K:([d.drop (d.length-p)]++Bq f (d.take (d.length-p)).length (d.take (d.length-p)))≠[]:=by simp
  have I:∀(n:Nat) (r:Aa),(Bq f n r).length<=n/\∀l∈Bq f n r,l.length<=r.length:=by
   intro n
   induction n with
   | zero=>intro r;simp[Bq]
   | succ n ih=>intro r;rw[Bq];grind
  obtain⟨X,Y⟩:=I (d.take (d.length-p)).length (d.take (d.length-p));have A:S=Lib.join ([d.drop (d.length-p)]++Bq f (d.take (d.length-p)).length (d.take (d.length-p))).reverse e:=by rw[<-hS,Kv f o (d.take (d.length-p)).length d.length _ (by simp) (by simp)];rfl
  clear hS;have O:([d.drop (d.length-p)]++Bq f (d.take (d.length-p)).length (d.take (d.length-p))).length<=65:=by grind
  have H:∀l∈[d.drop (d.length-p)]++Bq f (d.take (d.length-p)).length (d.take (d.length-p)),l.length<=64:=by grind
  refine Ae (vs:=[.s S]) Tr (by simp) (by simp) λn0 h=>?_;clear h;simp only[push_cast,seval,reduceEqDiff,c,g,v,w,Aqn,AzR,Am7];have C:(if decide (b<1) then(p:Int) else b)=(f:Int):=by grind
  cases E:decide (b<1)
  all_goals simp only[E,if_true,if_false,AcT] at C
  all_goals simp only[push_cast,seval,reduceEqDiff,E,c,g,v,w,Aqn,AzR,Am7]
  all_goals repeat' (first|(((first|apply Ab|apply Ag|apply Ah)<;>intro _h)<;>simp only[push_cast,seval,reduceEqDiff,_h,c,g,v,w,Aqn,AzR,Am7,E])|(refine Ar (by omega) ?_;simp only[push_cast,seval,reduceEqDiff,c,g,v,w,Aqn,AzR,Am7,E])|intro _)
  all_goals refine SW W0 _ f _ _ _ C o B [d.drop (d.length-p)] _ _ (by simp;omega) (by simp;omega) (by simp only;omega) (by simp only;omega) _ (λm n i1 i2=>?_)
  all_goals generalize[d.drop (d.length-p)]++Bq f (d.take (d.length-p)).length (d.take (d.length-p))=G at *
  all_goals have J:=Jc e 64 (2^22) T G.reverse (λl U=>H l (by simpa using U))
  all_goals rw[<-A] at J
  all_goals have N:=sN W0 G.reverse e (by grind)
  all_goals rw[<-A] at N
  all_goals have L:=aO W0 G m K (by omega)
  all_goals have x:∀j,((n0,j)=m)=False:=λj=>eq_false λM=>by grind
  all_goals have q:∀j,(m=(n0,j))=False:=λj=>eq_false λM=>of_eq_false (x j) M.symm
  all_goals simp only[push_cast,seval,reduceEqDiff,x,q]
  all_goals refine MC L (by grind) ?_
  all_goals simp only[push_cast,seval,reduceEqDiff,x,q]
  all_goals intro k
  all_goals refine LW (Ak.frzAt (s:=7) (id:=m) rfl (by simp only[lk,x,if_false]) (λy W=>by obtain⟨z,_,rfl⟩:=AmB.1 W;rfl) (AzR _)) ?_
  all_goals simp only[push_cast,seval,reduceEqDiff,x,q]
  all_goals repeat' (first|(((first|apply Ab|apply Ag|apply Ah)<;>intro _h)<;>simp only[push_cast,seval,reduceEqDiff,_h,c,g,v,w,Aqn,AzR,Am7])|((first|refine Ac (by exact N) ?_|refine Ar (by omega) ?_);simp only[push_cast,seval,reduceEqDiff,c,g,v,w,Aqn,AzR,Am7])|intro _)
  all_goals exact Af (by simp[get])
structure K6 (L:BR):Prop where
 dec:L.dec.length<=2^16
 grp:L.grp.length<=2^16
 minus:L.minus.length<=2^16
 perc:L.perc.length<=2^16
 prim:-9223372036854775808<=L.prim
 sec:L.sec<9223372036854775808
theorem Nj(L:BR)(c:K6 L)(d:Aa)(g:d.length<=64):(Ig L.prim L.sec L.grp d).length<=2^23:=by
 unfold Ig;split
 .omega
 .have a:∀(b n:Nat) (r:Aa),(Bq b n r).length<=n/\∀l∈Bq b n r,l.length<=r.length:=by
   intro b n
   induction n with
   | zero=>intro r;simp[Bq]
   | succ n i=>intro r;rw[Bq];grind
  obtain⟨e,f⟩:=a (if L.sec<1 then L.prim else L.sec).toNat d.length (d.take (d.length-L.prim.toNat));refine Am5 (Jc L.grp 64 (2^16) c.grp _ λl h=>?_) ?_
  .grind
  grind
theorem DE(L:BR)(a:K6 L)(n:Aa)(g:n.length<=64):(EL L n).length<=2^23+2^18:=by have b:=J7 n;have c:=QD n;have d:=Nj L a (AN n) (by omega);have e:=a.dec;have f:=a.minus;unfold EL;grind
theorem LX(L:BR)(a:K6 L)(n:Aa)(o:n.length<=64):Al Tryz.prog W0 151 [.agg [.s L.dec,.s L.grp,.s L.minus,.s L.perc,.i .i64 L.prim,.i .i64 L.sec],.s n] [] (.s (EL L n)) []:=by
 have h:=J7 n;have j:=QD n;have k:=Nj L a (AN n) (by omega);have l:=a.dec;have m:=a.minus;have b:=Eb W0 n [45];rw[DP,EJ] at b;have d:=Uo W0 n (by omega);have g:=Ac5 W0 L.dec L.grp L.minus L.perc L.prim L.sec (AN n) (by omega) (by have:=a.grp;omega) a.prim a.sec;generalize hS:EL L n=S;unfold EL at hS;generalize Ig L.prim L.sec L.grp (AN n)=G at *;generalize AN n=W at *;generalize Bo n=F at *;generalize GL n=R at *;generalize L.dec=D at *;generalize L.minus=M at *;refine Ae (vs:=[.s S]) Amo (by simp) (by simp) λn0 c=>?_;clear c;simp only[push_cast,reduceEqDiff];cases e:IM n<;>cases f:(OY n).isEmpty
 all_goals simp only[e,f,Au9,AuR] at hS b d
 all_goals subst hS
 all_goals repeat' (first|(((first|apply Ab|apply Ag|apply Ah)<;>intro _h)<;>simp only[push_cast,reduceEqDiff])|((first|refine Ac (by exact b) ?_|refine Ac (by exact d) ?_|refine Ac (by exact g) ?_|refine Ar (by simp only[AhT,AJ]<;>omega) ?_);simp only[push_cast,reduceEqDiff])|intro _)
 all_goals exact Af (by simp[get])
theorem Ld(a:Bool)(w f:Aa):(Fk a w f).1.length<=64:=by
 unfold Fk;split
 .simp
 .rename_i h;simp only[AxU,decide_eq_true_eq,not_or] at h;unfold Hq;split<;>split<;>simp only[AiL,AhT]<;>omega
theorem JA(s:Aa):(CR s).1.length<=64:=by
 unfold CR;split
 .exact Ld _ _ _
 .simp
theorem Ke(s:Aa):(CT s).1.length<=64:=by
 unfold CT;split
 .exact Ld _ _ _
 .simp
theorem PQ{n:Aa}(h:DI n=true):n.length<=64:=by
 obtain⟨_,_,b,c⟩:=Gn h;have a:n.length<=(GL n).length+1:=by unfold GL;grind
 rw[Jg,AhT] at a;have d:(OY n).length<=(Bo n).length+1:=by unfold Bo;grind
 omega
theorem QB(L:BR)(a:K6 L)(n st:Aa)(v:n.length<=2^30):Al Tryz.prog W0 105 [L.enc,.s n,.s st] [] (.tup [.s (DL L n st).1,.i .i64 (DL L n st).2]) []:=by
 have b:=G3 W0 n (by omega);have l:=AcW W0 n (by omega);have m:=AbX W0 n (by omega);have l1:=DE L a (CR n).1 (JA n);have x:=DE L a (CT n).1 (Ke n);have q:=LX W0 L a (CR n).1 (JA n);have t2:=LX W0 L a (CT n).1 (Ke n);have k:=a.perc;generalize hS:DL L n st=S;unfold DL Mo Lu at hS;rw[BR.enc_eq];generalize EL L (CR n).1=t at *;generalize EL L (CT n).1=u at *;generalize(CR n).1=y at *;generalize(CR n).2=o at *;generalize(CT n).1=z at *;generalize(CT n).2=p at *;refine Ae (vs:=[.s S.1,.i .i64 S.2]) Ai7 (by simp) (by simp) λn0 j=>?_;clear j;simp only[push_cast,seval,reduceEqDiff];cases hB:DI n with
 | false=>
  rw[hB] at b hS;simp only[bq,if_true,if_false,Int.reduceBEq,reduceCtorEq] at hS;subst hS;have _h:=trivial;repeat' (first|(first|((first|apply Ab|apply Ag|apply Ah)<;>intro _h)|refine Ac b ?_|refine Ar (by omega) ?_)<;>simp only[push_cast,seval,reduceEqDiff,_h]|intro _)
  refine Ad ?_;simp[push_cast,get]
 | true=>
  have t0:=LX W0 L a n (PQ hB);have w:=DE L a n (PQ hB);generalize EL L n=r at *;rw[hB] at b hS;cases c:(st==([]:Aa))<;>cases d:(st==([105,110,116,101,103,101,114]:Aa))<;>cases e:(st==([112,101,114,99,101,110,116]:Aa))<;>cases f:(L.dec==([]:Aa))<;>cases g:(o==0)<;>cases h:(p==0)
  all_goals (try simp only[c,d,e,f,g,h,bq,if_true,if_false,Int.reduceBEq,reduceCtorEq,Au9,AuR,Ax6,AyS,AuF,AxX,bne] at hS;subst hS)
  all_goals repeat' (first|(((first|apply Ab|apply Ag|apply Ah)<;>intro _h)<;>simp only[push_cast,seval,reduceEqDiff,_h,c,d,e,f,g,h,bne])|((first|refine Ac (by exact b) ?_|refine Ac (by exact l) ?_|refine Ac (by exact m) ?_|refine Ac (by exact t0) ?_|refine Ac (by exact q) ?_|refine Ac (by exact t2) ?_|refine Ar (by simp only[AhT,AiL,Ank,AJ]<;>omega) ?_);simp only[push_cast,seval,reduceEqDiff,c,d,e,f,g,h,bne])|intro _)
  all_goals (refine Ad ?_;simp[push_cast,get])
end Go.Ir

namespace Go.Ir
open Go.Proofs
variable{P:Program}{W0:World}{nt n:Nat}{Q:Exit→St→Prop}{env:A9}{σ:Aj}
def bN:IC:=oR [o1 3 (.msl false 9 1 [.c (.s [121]),.c (.s [77]),.c (.s [77,77]),.c (.s [77,77,77]),.c (.s [69]),.c (.s [100]),.c (.s [100,100])]),m1 4 0,q2 5 241 3 4,m1 2 5] [2]
def mI:IC:=oS [mC 2 (.b false)] [0] bN
@[push_cast]def AnV:List R:=[.t 2]
@[push_cast]def AwY:=Aq bN.eq_1<|AL mI.eq_1
theorem AjM:Av Tryz.prog 330 6 mI AnV=true:=by kernel_rfl
def VL:IC:=sQ (oS [m1 29 9,q1 30 330 29,nT 31 30] [4,8,9,11,12,13,31] (cD 31 (oR [mC 2 .nil,mZ 3 3] [2,3]) .skip)) (oP [m1 32 4,m1 33 9,o1 34 (.msl false 9 1 [.t 33]),o1 35 (.app (.t 32) (.t 34) 9 1),m1 36 8,m1 4 35,m1 5 36] [4,5,11,12,13])
def WL:IC:=oS [m1 20 5,m1 21 5,nS 22 21,m1 23 8,nS 24 23,bT 25 .sub 22 24,o1 26 (.slS (.t 20) none (some (.t 25))),m1 9 26] [4,5,8,9,11,12,13] (sQ (oS [m1 27 9,bC 28 .eql 27 (.s [])] [4,5,8,9,11,12,13,28] (cD 28 (.exit 1) .skip)) VL)
def UY:IC:=sQ (.block 1 (oS [iA 15 11 13 9 1,l1 16 15,m1 7 16] [4,5,7,11,12,13] (oS [m1 17 5,m1 18 7,q2 19 259 17 18,m1 8 19] [4,5,8,11,12,13] WL))) (oP [bZ 37 .add 13 1,m1 13 37] [4,5,11,12,13])
def WF:IC:=sQ (oS [m1 38 5,bC 39 .neq 38 (.s []),m1 40 39,Br 41 40 4,gF 42 40 (.lenL (.t 41)),Dg 43 40 .eql 42 0,pO 44 40 43] [4,44] (cD 44 (oR [mC 2 .nil,mZ 3 3] [2,3]) .skip)) (sQ (.wk (oP [m1 45 4,m1 2 45,mZ 3 0] [2,3])) .ret)
def b8:IC:=sQ (oS [o1 11 (.msl false 9 1 [.c (.s [121]),.c (.s [77]),.c (.s [69]),.c (.s [100])]),nL 12 11,mZ 13 0] [4,5,11,12,13] (.block 0 (.loop (oS [bT 14 .lss 13 12] [4,5,11,12,13,14] (sQ (cD 14 .skip (.exit 0)) UY))))) WF
def tP:IC:=oS [mC 2 .nil,mZ 3 0] [0] (oS [mC 4 .nil] [0,4] (oS [m1 10 0,m1 5 10] [4,5] b8))
@[push_cast]def Asi:List R:=[.t 2,.t 3]
@[push_cast]def Awu:=Aq VL.eq_1<|Aq WL.eq_1<|Aq UY.eq_1<|Aq WF.eq_1<|Aq b8.eq_1<|AL tP.eq_1
theorem AjO:Av Tryz.prog 311 46 tP Asi=true:=by kernel_rfl
def Vt:IC:=sQ (oS [m1 20 6,q1 21 330 20,nT 22 21] [4,5,6,22] (cD 22 (oR [mC 2 .nil,mC 3 (.b false)] [2,3]) .skip)) (oS [m1 23 4,m1 24 6,o1 25 (.msl false 9 1 [.t 24]),o1 26 (.app (.t 23) (.t 25) 9 1),m1 27 5,m1 4 26,m1 0 27] [0,4] (.exit 1))
def XO:IC:=sQ (oS [m1 11 0,m1 12 0,nS 13 12,m1 14 5,nS 15 14,bT 16 .sub 13 15,o1 17 (.slS (.t 11) none (some (.t 16))),m1 6 17] [0,4,5,6] (oS [m1 18 6,bC 19 .neq 18 (.s [])] [0,4,5,6,19] (cD 19 Vt .skip))) (oP [m1 28 0,o1 29 (.slS (.t 28) (some (ci 1)) none),m1 0 29] [0,4])
def Vs:IC:=.block 1 (oS [m1 9 0,o1 10 (.call 259 [.t 9,.c (.s [65,66,67,68,69,70,71,72,73,74,75,76,77,78,79,80,81,82,83,84,85,86,87,88,89,90,97,98,99,100,101,102,103,104,105,106,107,108,109,110,111,112,113,114,115,116,117,118,119,120,121,122])]),m1 5 10] [0,4,5] XO)
def qO:IC:=oS [mC 4 .nil] [0,4] (sQ (.block 0 (.loop (sQ (oS [m1 7 0,bC 8 .neq 7 (.s [])] [0,4,8] (cD 8 .skip (.exit 0))) Vs))) (sQ (.wk (oP [m1 30 4,m1 2 30,mC 3 (.b true)] [2,3])) .ret))
def jF:IC:=oS [mC 2 .nil,mC 3 (.b false)] [0] qO
@[push_cast]def AnE:List R:=[.t 2,.t 3]
@[push_cast]def Awx:=Aq Vt.eq_1<|Aq XO.eq_1<|Aq Vs.eq_1<|Aq qO.eq_1<|AL jF.eq_1
theorem Aic:Av Tryz.prog 312 31 jF AnE=true:=by kernel_rfl
def Yk:IC:=oP [m1 14 4,m1 15 6,o1 16 (.slS (.t 15) none (some (ci 1))),o1 17 (.msl false 9 1 [.t 16]),o1 18 (.app (.t 14) (.t 17) 9 1),m1 4 18] [4,8,9,10]
def bR:IC:=oS [bT 11 .lss 10 9] [4,8,9,10,11] (sQ (cD 11 .skip (.exit 0)) (sQ (.block 1 (oS [iA 12 8 10 9 1,l1 13 12,m1 6 13] [4,6,8,9,10] Yk)) (oP [bZ 19 .add 10 1,m1 10 19] [4,8,9,10])))
def WH:IC:=sQ (.opx [m1 22 4,o1 23 (.calln 66 [.t 22])] [4,23] 24 331 [.t 23] [m1 7 24] [4,7]) (sQ (.wk (oP [m1 25 7,o1 26 (.call 261 [.t 25,.c (.s [])]),m1 27 7,nL 28 27,m1 29 4,nL 30 29,bT 31 .eql 28 30,m1 2 26,m1 3 31] [2,3])) .ret)
def iN:IC:=oS [mC 2 (.s []),mC 3 (.b false)] [0] (oS [mC 4 .nil] [0,4] (sQ (oS [m1 8 0,nL 9 8,mZ 10 0] [4,8,9,10] (.block 0 (.loop bR))) (oS [m1 20 4,o1 21 (.calls 83 [.t 20])] [4] WH)))
@[push_cast]def Ans:List R:=[.t 2,.t 3]
@[push_cast]def Awi:=Aq Yk.eq_1<|Aq bR.eq_1<|Aq WH.eq_1<|AL iN.eq_1
theorem AjN:Av Tryz.prog 313 32 iN Ans=true:=by kernel_rfl
def Wf:IC:=oS [m1 40 7,q1 41 313 40,m1 39 41,xT 42 39 0,xT 43 39 1,m1 11 42,m1 12 43] [9,11,12] (oR [m1 44 12,m1 45 44,By 46 45 9,By 47 45 11,gT 48 45 (.bin .eql (.t 46) (.t 47)),pA 49 45 48,m1 4 49] [4])
def wU:IC:=sQ (oS [m1 23 6,bZ 24 .neq 23 0,m1 25 24,Br 26 25 8,gF 27 25 (.not (.t 26)),pO 28 25 27,m1 29 28,Br 30 29 7,gF 31 29 (.lenL (.t 30)),Dg 32 29 .eql 31 0,pO 33 29 32] [5,7,33] (cD 33 (oR [mC 4 (.b false)] [4]) .skip)) (oS [m1 35 5,q1 36 313 35,m1 34 36,xT 37 34 0,xT 38 34 1,m1 9 37,m1 10 38] [7,9] Wf)
def kT:IC:=oS [m1 14 0,q1 15 311 14,m1 13 15,xT 16 13 0,xT 17 13 1,m1 5 16,m1 6 17] [1,5,6] (oS [m1 19 1,q1 20 312 19,m1 18 20,xT 21 18 0,xT 22 18 1,m1 7 21,m1 8 22] [5,6,7,8] wU)
def nP:IC:=oS [mC 4 (.b false)] [0,1] kT
@[push_cast]def Ary:List R:=[.t 4]
@[push_cast]def Awd:=Aq Wf.eq_1<|Aq wU.eq_1<|Aq kT.eq_1<|AL nP.eq_1
theorem O3:Av Tryz.prog 277 50 nP Ary=true:=by kernel_rfl
def VG:IC:=sQ (oS [m1 21 0,m1 22 6,q2 23 269 21 22,bZ 24 .neq 23 1] [0,6,13,14,24] (cD 24 (oR [mC 4 (.b false)] [4]) .skip)) (oP [m1 25 0,m1 26 6,o1 27 (.call 213 [.t 25,.t 26,.c (.s [0]),ci 1]),m1 0 27] [0,13,14])
def Xd:IC:=sQ (.block 1 (oS [m1 16 14,m1 5 16] [0,5,13,14] (oS [m1 17 5,q1 18 221 17,o1 19 (.bin .add (.c (.s [123])) (.t 18)),bC 20 .add 19 (.s [125]),m1 6 20] [0,6,13,14] VG))) (oP [bZ 28 .add 14 1,m1 14 28] [0,13,14])
def vV:IC:=sQ (oS [m1 13 1,mZ 14 0] [0,13,14] (.block 0 (.loop (oS [bT 15 .lss 14 13] [0,13,14,15] (sQ (cD 15 .skip (.exit 0)) Xd))))) (oR [m1 29 0,o1 30 (.call 270 [.t 29,.c (.s [123,125])]),nT 31 30,m1 4 31] [4])
def qB:IC:=oS [mC 4 (.b false)] [0,1] (sQ (oS [m1 7 1,bZ 8 .lss 7 1,m1 9 8,Br 10 9 1,Dg 11 9 .gtr 10 9,pO 12 9 11] [0,1,12] (cD 12 (oR [mC 4 (.b false)] [4]) .skip)) vV)
@[push_cast]def Aq6:List R:=[.t 4]
@[push_cast]def Axa:=Aq VG.eq_1<|Aq Xd.eq_1<|Aq vV.eq_1<|AL qB.eq_1
theorem AiA:Av Tryz.prog 212 32 qB Aq6=true:=by kernel_rfl
def cU:IC:=oR [m1 3 0,bZ 4 .rem 3 4,bZ 5 .eql 4 0,m1 6 5,By 7 6 0,C8 8 6 .rem 7 100,C8 9 6 .neq 8 0,pA 10 6 9,m1 11 10,Br 12 11 0,Dg 13 11 .rem 12 400,Dg 14 11 .eql 13 0,pO 15 11 14,m1 2 15] [2]
def v6:IC:=oS [mC 2 (.b false)] [0] cU
@[push_cast]def Ao0:List R:=[.t 2]
@[push_cast]def AvT:=Aq cU.eq_1<|AL v6.eq_1
theorem Akj:Av Tryz.prog 310 16 v6 Ao0=true:=by kernel_rfl
def mY:IC:=oR [o1 11 (.build [.i .i64 0,.i .i64 0,.i .i64 0,.i .i64 0,.i .i64 0,.i .i64 0,.i .i64 0,.i .i64 0,.i .i64 0,.i .i64 0,.i .i64 0,.i .i64 0] [(0,1,ci 31),(1,1,ci 28),(2,1,ci 31),(3,1,ci 30),(4,1,ci 31),(5,1,ci 30),(6,1,ci 31),(7,1,ci 31),(8,1,ci 30),(9,1,ci 31),(10,1,ci 30),(11,1,ci 31)]),m1 12 1,bZ 13 .sub 12 1,o1 14 (.pu (.aget 12 1 false) [.t 11,.t 13]),m1 4 14] [4]
def nW:IC:=oS [mZ 4 0] [0,1] (sQ (oS [m1 5 1,bZ 6 .eql 5 2,m1 7 6,By 8 7 0,gT 9 7 (.call 310 [.t 8]),pA 10 7 9] [1,10] (cD 10 (oR [mZ 4 29] [4]) .skip)) mY)
@[push_cast]def Aok:List R:=[.t 4]
@[push_cast]def Axq:=Aq mY.eq_1<|AL nW.eq_1
theorem AgI:Av Tryz.prog 274 15 nW Aok=true:=by kernel_rfl
def wJ:IC:=oS [mZ 2 0] [0] (sQ (oS [m1 3 0,q1 4 310 3] [4] (cD 4 (oR [mZ 2 366] [2]) .skip)) (oR [mZ 2 365] [2]))
@[push_cast]def Ari:List R:=[.t 2]
@[push_cast]def Awb:=AL wJ.eq_1
theorem AiB:Av Tryz.prog 273 5 wJ Ari=true:=by kernel_rfl
def WI:IC:=sQ (oS [m1 14 4,m1 15 2,q1 16 273 15,bT 17 .geq 14 16] [2,3,4,17] (cD 17 .skip (.exit 0))) (.block 1 (oS [m1 18 4,m1 19 2,q1 20 273 19,bT 21 .sub 18 20,m1 4 21] [2,3,4] (oP [m1 22 2,bZ 23 .add 22 1,m1 2 23] [2,3,4])))
def Yd:IC:=sQ (oS [m1 24 4,m1 25 2,m1 26 3,q2 27 274 25 26,bT 28 .geq 24 27] [2,3,4,28] (cD 28 .skip (.exit 2))) (.block 3 (oS [m1 29 4,m1 30 2,m1 31 3,q2 32 274 30 31,bT 33 .sub 29 32,m1 4 33] [2,3,4] (oP [m1 34 3,bZ 35 .add 34 1,m1 3 35] [2,3,4])))
def i7:IC:=oS [m1 12 0,bZ 13 .sub 12 (-25567),mZ 2 1900,mZ 3 1,m1 4 13] [2,3,4] (sQ (.block 0 (.loop WI)) (sQ (.block 2 (.loop Yd)) (oR [m1 36 2,m1 37 3,m1 38 4,bZ 39 .add 38 1,m1 2 36,m1 3 37,m1 4 39,mZ 5 0] [2,3,4,5])))
def iF:IC:=sQ (oS [m1 6 0,bZ 7 .lss 6 (-25567),m1 8 7,Br 9 8 0,Dg 10 8 .gtr 9 84005,pO 11 8 10] [0,11] (cD 11 (oR [mZ 2 0,mZ 3 0,mZ 4 0,mZ 5 2] [2,3,4,5]) .skip)) i7
def sP:IC:=oS [mZ 2 0,mZ 3 0,mZ 4 0,mZ 5 0] [0] iF
@[push_cast]def Apr:List R:=[.t 2,.t 3,.t 4,.t 5]
@[push_cast]def Axv:=Aq WI.eq_1<|Aq Yd.eq_1<|Aq i7.eq_1<|Aq iF.eq_1<|AL sP.eq_1
theorem lI:Av Tryz.prog 214 40 sP Apr=true:=by kernel_rfl
def wH:IC:=sQ (oS [m1 4 0,bZ 5 .lss 4 (-25567),m1 6 5,Br 7 6 0,Dg 8 6 .gtr 7 84005,pO 9 6 8] [0,9] (cD 9 (oR [mZ 2 0,mZ 3 2] [2,3]) .skip)) (oR [m1 10 0,bZ 11 .sub 10 (-25567),bZ 12 .rem 11 7,m1 2 12,mZ 3 0] [2,3])
def hZ:IC:=oS [mZ 2 0,mZ 3 0] [0] wH
@[push_cast]def Ap8:List R:=[.t 2,.t 3]
@[push_cast]def Axh:=Aq wH.eq_1<|AL hZ.eq_1
theorem AgP:Av Tryz.prog 217 13 hZ Ap8=true:=by kernel_rfl
def tF:IC:=sQ (oS [m1 3 0,bZ 4 .lss 3 10] [0,4] (cD 4 (oR [m1 5 0,q1 6 221 5,o1 7 (.bin .add (.c (.s [48])) (.t 6)),m1 2 7] [2]) .skip)) (oR [m1 8 0,q1 9 221 8,m1 2 9] [2])
def dV:IC:=oS [mC 2 (.s [])] [0] tF
@[push_cast]def AnO:List R:=[.t 2]
@[push_cast]def AvP:=Aq tF.eq_1<|AL dV.eq_1
theorem Aje:Av Tryz.prog 222 10 dV AnO=true:=by kernel_rfl
def X2:IC:=oR [m1 16 3,q1 17 221 16,bC 18 .add 17 (.s [45]),m1 19 4,q1 20 222 19,bT 21 .add 18 20,bC 22 .add 21 (.s [45]),m1 23 5,q1 24 222 23,bT 25 .add 22 24,m1 2 25] [2]
def s7:IC:=oS [m1 8 0,q1 9 214 8,m1 7 9,xT 10 7 0,xT 11 7 1,xT 12 7 2,xT 13 7 3,m1 3 10,m1 4 11,m1 5 12,m1 6 13] [3,4,5,6] (sQ (oS [m1 14 6,bZ 15 .neq 14 0] [3,4,5,15] (cD 15 (oR [mC 2 (.s [])] [2]) .skip)) X2)
def rT:IC:=oS [mC 2 (.s [])] [0] s7
@[push_cast]def AoJ:List R:=[.t 2]
@[push_cast]def Aw7:=Aq X2.eq_1<|Aq s7.eq_1<|AL rT.eq_1
theorem tX:Av Tryz.prog 160 26 rT AoJ=true:=by kernel_rfl
def X0:IC:=sQ (.block 1 (oS [iA 21 17 19 9 1,l1 22 21,m1 8 22] [6,8,17,18,19] (oP [m1 23 6,m1 24 8,o1 25 (.slS (.t 24) none (some (ci 1))),m1 26 8,nS 27 26,o0 (.wrm (.mput .str) (.t 23) [.t 25,.t 27])] [6,17,18,19]))) (oP [bZ 28 .add 19 1,m1 19 28] [6,17,18,19])
def Vz:IC:=sQ (oS [m1 17 4,nL 18 17,mZ 19 0] [6,17,18,19] (.block 0 (.loop (oS [bT 20 .lss 19 18] [6,17,18,19,20] (sQ (cD 20 .skip (.exit 0)) X0))))) (oR [m1 29 6,m1 2 29,mC 3 (.b true)] [2,3])
def tH:IC:=sQ (oS [m1 14 5,bZ 15 .neq 14 0] [4,15] (cD 15 (oR [mC 2 .nm,mC 3 (.b false)] [2,3]) .skip)) (oS [o1 16 (.mkm .mkmap []),m1 6 16] [4,6] Vz)
def rK:IC:=oS [mC 2 .nm,mC 3 (.b false)] [0] (oS [m1 10 0,q1 11 311 10,m1 9 11,xT 12 9 0,xT 13 9 1,m1 4 12,m1 5 13] [4,5] tH)
@[push_cast]def Aqa:List R:=[.t 2,.t 3]
@[push_cast]def Aw2:=Aq X0.eq_1<|Aq Vz.eq_1<|Aq tH.eq_1<|AL rK.eq_1
theorem dP:Av Tryz.prog 275 30 rK Aqa=true:=by kernel_rfl
def UQ:IC:=oP [m1 26 6,m1 27 8,m1 28 9,bT 29 .sub 27 28,m1 30 9,m1 31 8,bT 32 .sub 30 31,o1 33 (.mx false (.t 29) [.t 32]),bT 34 .add 26 33,m1 6 34] [0,1,6,12]
def UX:IC:=oS [m1 19 1,m1 20 7,o1 21 (.rdm (.mget .str (.i .i64 0) true) (.t 19) [.t 20]),m1 18 21,xT 22 18 0,xT 23 18 1,m1 9 22,m1 10 23] [0,1,6,8,9,10,12] (sQ (oS [m1 24 10,nT 25 24] [0,1,6,8,9,12,25] (cD 25 (oR [mZ 4 0,mC 5 (.b false)] [4,5]) .skip)) UQ)
def eO:IC:=sQ (.mnext 13 14 (.t 12) [0,1,6,12,14]) (sQ (cD 14 .skip (.exit 0)) (.block 1 (oS [o1 15 (.mentry (.t 12)),xT 16 15 0,xT 17 15 1,m1 7 16,m1 8 17] [0,1,6,7,8,12] UX)))
def tC:IC:=sQ (oS [m1 11 0,o1 12 (.mrange (.t 11))] [0,1,6,12] (.block 0 (.loop eO))) (oR [m1 35 6,m1 36 0,o1 37 (.rdm .mlen (.t 36) []),m1 38 1,o1 39 (.rdm .mlen (.t 38) []),bT 40 .eql 37 39,m1 4 35,m1 5 40] [4,5])
def p7:IC:=oS [mZ 4 0,mC 5 (.b false)] [0,1] (oS [mZ 6 0] [0,1,6] tC)
@[push_cast]def Ash:List R:=[.t 4,.t 5]
@[push_cast]def AvW:=Aq UQ.eq_1<|Aq UX.eq_1<|Aq eO.eq_1<|Aq tC.eq_1<|AL p7.eq_1
theorem Ahx:Av Tryz.prog 276 41 p7 Ash=true:=by kernel_rfl
def Wl:IC:=oS [m1 44 15,m1 45 44,By 46 45 8,C8 47 45 .lss 46 0,By 48 45 47,Br 49 48 14,Br 50 48 9,gF 51 48 (.bin .lss (.t 49) (.t 50)),gT 52 45 (.pick (.t 48) (.c (.b true)) (.t 51)),pA 53 45 52] [6,8,9,10,14,23,24,25,53] (cD 53 (oP [m1 54 10,m1 55 14,m1 8 54,m1 9 55] [6,8,9,23,24,25]) .skip)
def Xi:IC:=sQ (oS [m1 36 13,nT 37 36] [6,8,9,10,12,23,24,25,37] (cD 37 (.exit 1) .skip)) (oS [m1 39 6,m1 40 12,o1 41 (.callr 276 [.t 39,.t 40]),m1 38 41,xT 42 38 0,xT 43 38 1,m1 14 42,m1 15 43] [6,8,9,10,14,15,23,24,25] Wl)
def Xp:IC:=sQ (.opx [fA 31 11 0,l1 32 31] [6,8,9,10,23,24,25,32] 33 275 [.t 32] [m1 30 33,xT 34 30 0,xT 35 30 1,m1 12 34,m1 13 35] [6,8,9,10,12,13,23,24,25]) Xi
def WN:IC:=sQ (.block 1 (oS [m1 27 25,iA 28 23 25 182 2,lA 29 28 2,o1 11 (.alloc (.agg [.s [],.s []])),m1 10 27,sT 11 29 2] [6,8,9,10,11,23,24,25] Xp)) (oP [bZ 56 .add 25 1,m1 25 56] [6,8,9,23,24,25])
def Vq:IC:=sQ (oS [m1 23 0,nL 24 23,mZ 25 0] [6,8,9,23,24,25] (.block 0 (.loop (oS [bT 26 .lss 25 24] [6,8,9,23,24,25,26] (sQ (cD 26 .skip (.exit 0)) WN))))) (sQ (oS [m1 57 8,bZ 58 .lss 57 0] [8,58] (cD 58 (oR [mZ 4 0,mZ 5 8] [4,5]) .skip)) (oR [m1 59 8,m1 4 59,mZ 5 0] [4,5]))
def rH:IC:=sQ (.opx [m1 17 1] [0,17] 18 275 [.t 17] [m1 16 18,xT 19 16 0,xT 20 16 1,m1 6 19,m1 7 20] [0,6,7]) (sQ (oS [m1 21 7,nT 22 21] [0,6,22] (cD 22 (oR [mZ 4 0,mZ 5 3] [4,5]) .skip)) (oS [mZ 8 (-1),mZ 9 0] [0,6,8,9] Vq))
def iB:IC:=oS [mZ 4 0,mZ 5 0] [0,1] rH
@[push_cast]def Apt:List R:=[.t 4,.t 5]
@[push_cast]def Axy:=Aq Wl.eq_1<|Aq Xi.eq_1<|Aq Xp.eq_1<|Aq WN.eq_1<|Aq Vq.eq_1<|Aq rH.eq_1<|AL iB.eq_1
theorem eG:Av Tryz.prog 215 60 iB Apt=true:=by kernel_rfl
def fK:IC:=oR [m1 3 0,bC 4 .geq 3 (.i .u8 65),m1 5 4,By 6 5 0,gT 7 5 (.bin .leq (.t 6) (.c (.i .u8 90))),pA 8 5 7,m1 9 8,Br 10 9 0,gF 11 9 (.bin .geq (.t 10) (.c (.i .u8 97))),Br 12 9 11,By 13 12 0,gT 14 12 (.bin .leq (.t 13) (.c (.i .u8 122))),gF 15 9 (.pick (.t 12) (.t 14) (.c (.b false))),pO 16 9 15,m1 2 16] [2]
def vK:IC:=oS [mC 2 (.b false)] [0] fK
@[push_cast]def Aon:List R:=[.t 2]
@[push_cast]def Ax3:=Aq fK.eq_1<|AL vK.eq_1
theorem AhF:Av Tryz.prog 278 17 vK Aon=true:=by kernel_rfl
def WM:IC:=oS [m1 35 4,m1 36 6,bT 37 .add 35 36,m1 38 8,bT 39 .add 37 38,m1 40 10,bT 41 .add 39 40,m1 42 0,q2 43 277 41 42] [0,4,6,8,11,12,13,17,18,19,23,24,25,29,30,31,43] (cD 43 (oR [mC 2 (.b true)] [2]) .skip)
def Yf:IC:=sQ (.block 7 (oS [iA 33 29 31 9 1,l1 34 33,m1 10 34] [0,4,6,8,10,11,12,13,17,18,19,23,24,25,29,30,31] WM)) (oP [bZ 44 .add 31 1,m1 31 44] [0,4,6,8,11,12,13,17,18,19,23,24,25,29,30,31])
def Va:IC:=oS [o1 29 (.msl false 9 1 [.c (.s []),.c (.s [100])]),nL 30 29,mZ 31 0] [0,4,6,8,11,12,13,17,18,19,23,24,25,29,30,31] (.block 6 (.loop (oS [bT 32 .lss 31 30] [0,4,6,8,11,12,13,17,18,19,23,24,25,29,30,31,32] (sQ (cD 32 .skip (.exit 6)) Yf))))
def Xo:IC:=sQ (.block 5 (oS [iA 27 23 25 9 1,l1 28 27,m1 8 28] [0,4,6,8,11,12,13,17,18,19,23,24,25] Va)) (oP [bZ 45 .add 25 1,m1 25 45] [0,4,6,11,12,13,17,18,19,23,24,25])
def Ws:IC:=oS [o1 23 (.msl false 9 1 [.c (.s []),.c (.s [69])]),nL 24 23,mZ 25 0] [0,4,6,11,12,13,17,18,19,23,24,25] (.block 4 (.loop (oS [bT 26 .lss 25 24] [0,4,6,11,12,13,17,18,19,23,24,25,26] (sQ (cD 26 .skip (.exit 4)) Xo))))
def Wh:IC:=sQ (.block 3 (oS [iA 21 17 19 9 1,l1 22 21,m1 6 22] [0,4,6,11,12,13,17,18,19] Ws)) (oP [bZ 46 .add 19 1,m1 19 46] [0,4,11,12,13,17,18,19])
def XA:IC:=oS [o1 17 (.msl false 9 1 [.c (.s []),.c (.s [77])]),nL 18 17,mZ 19 0] [0,4,11,12,13,17,18,19] (.block 2 (.loop (oS [bT 20 .lss 19 18] [0,4,11,12,13,17,18,19,20] (sQ (cD 20 .skip (.exit 2)) Wh))))
def kC:IC:=oS [bT 14 .lss 13 12] [0,11,12,13,14] (sQ (cD 14 .skip (.exit 0)) (sQ (.block 1 (oS [iA 15 11 13 9 1,l1 16 15,m1 4 16] [0,4,11,12,13] XA)) (oP [bZ 47 .add 13 1,m1 13 47] [0,11,12,13])))
def bW:IC:=sQ (oS [o1 11 (.msl false 9 1 [.c (.s []),.c (.s [121])]),nL 12 11,mZ 13 0] [0,11,12,13] (.block 0 (.loop kC))) (oR [mC 2 (.b false)] [2])
def p9:IC:=oS [mC 2 (.b false)] [0] bW
@[push_cast]def ApG:List R:=[.t 2]
@[push_cast]def Axg:=Aq WM.eq_1<|Aq Yf.eq_1<|Aq Va.eq_1<|Aq Xo.eq_1<|Aq Ws.eq_1<|Aq Wh.eq_1<|Aq XA.eq_1<|Aq kC.eq_1<|Aq bW.eq_1<|AL p9.eq_1
theorem Akm:Av Tryz.prog 216 48 p9 ApG=true:=by kernel_rfl
def UJ:IC:=sQ (oS [fA 24 2 0,fA 25 24 14,l1 26 25,nL 27 26,bZ 28 .neq 27 12] [2,28] (cD 28 (oR [mC 4 (.s []),mZ 5 18] [4,5]) .skip)) (oR [fA 29 2 0,fA 30 29 14,l1 31 30,fA 32 2 17,l1 33 32,bZ 34 .sub 33 1,iA 35 31 34 9 1,l1 36 35,m1 4 36,mZ 5 0] [4,5])
def Vg:IC:=sQ (oS [fA 39 2 0,fA 40 39 15,l1 41 40,nL 42 41,bZ 43 .neq 42 7] [2,43] (cD 43 (oR [mC 4 (.s []),mZ 5 18] [4,5]) .skip)) (oR [fA 44 2 0,fA 45 44 15,l1 46 45,fA 47 2 19,l1 48 47,iA 49 46 48 9 1,l1 50 49,m1 4 50,mZ 5 0] [4,5])
def X1:IC:=oS [bC 38 .eql 6 (.s [69]),m1 37 38] [2,6,37] (cD 37 Vg (oS [bC 52 .eql 6 (.s [100]),m1 51 52] [2,51] (cD 51 (oR [fA 53 2 18,l1 54 53,q1 55 221 54,m1 4 55,mZ 5 0] [4,5]) .skip)))
def Vh:IC:=oS [bC 18 .eql 6 (.s [77,77]),m1 17 18] [2,6,17] (cD 17 (oR [fA 19 2 17,l1 20 19,q1 21 222 20,m1 4 21,mZ 5 0] [4,5]) (oS [bC 23 .eql 6 (.s [77,77,77]),m1 22 23] [2,6,22] (cD 22 UJ X1)))
def gS:IC:=.block 0 (oS [bC 8 .eql 6 (.s [121]),m1 7 8] [2,6,7] (cD 7 (oR [fA 9 2 16,l1 10 9,q1 11 221 10,m1 4 11,mZ 5 0] [4,5]) (oS [bC 13 .eql 6 (.s [77]),m1 12 13] [2,6,12] (cD 12 (oR [fA 14 2 17,l1 15 14,q1 16 221 15,m1 4 16,mZ 5 0] [4,5]) Vh))))
def tO:IC:=oS [bX 2 0,mC 4 (.s []),mZ 5 0] [1,2] (sQ (oS [m1 6 1] [2,6] gS) (oR [fA 56 2 18,l1 57 56,q1 58 222 57,m1 4 58,mZ 5 0] [4,5]))
@[push_cast]def Arc:List R:=[.t 4,.t 5]
@[push_cast]def AwB:=Aq UJ.eq_1<|Aq Vg.eq_1<|Aq X1.eq_1<|Aq Vh.eq_1<|Aq gS.eq_1<|AL tO.eq_1
theorem Agm:Av Tryz.prog 279 59 tO Arc=true:=by kernel_rfl
def OE:IC:=sQ (oS [m1 12 7,m1 13 1,nS 14 13,bT 15 .lss 12 14,m1 16 15,By 17 16 1,By 18 16 7,gT 19 16 (.idx (.t 17) (.t 18)),gT 20 16 (.call 278 [.t 19]),pA 21 16 20] [1,2,6,7,21] (cD 21 .skip (.exit 2))) (.block 3 (oP [m1 22 7,bZ 23 .add 22 1,m1 7 23] [1,2,6,7]))
def UG:IC:=sQ (.opx [m1 26 1,o1 27 (.idx (.t 26) (ci 0))] [1,2,6,27] 28 187 [.t 6,.t 27] [] [1,2,6]) (oS [m1 29 1,o1 30 (.slS (.t 29) (some (ci 1)) none),m1 1 30] [1,2,6] (.exit 1))
def V8:IC:=sQ (.opx [m1 42 8] [1,2,6,7,42] 43 124 [.t 6,.t 42] [] [1,2,6,7]) (oP [m1 44 1,m1 45 7,o1 46 (.slS (.t 44) (some (.t 45)) none),m1 1 46] [1,2,6])
def Vr:IC:=sQ (.ops [lA 32 2 20,m1 33 1,m1 34 7,o1 35 (.slS (.t 33) none (some (.t 34))),q2 36 279 32 35,m1 31 36,xT 37 31 0,xT 38 31 1,m1 8 37,m1 9 38] [1,2,6,7,8,9] [[1,3],[2,3],[0,4],[3,4],[4,5],[5,6],[5,7],[6,8],[7,9]]) (sQ (oS [m1 39 9,bZ 40 .neq 39 0] [1,2,6,7,8,9,40] (cD 40 (oR [m1 41 9,mC 4 (.s []),m1 5 41] [4,5]) .skip)) V8)
def Vi:IC:=.block 1 (oS [mZ 7 0] [1,2,6,7] (sQ (.block 2 (.loop OE)) (sQ (oS [m1 24 7,bZ 25 .eql 24 0] [1,2,6,7,25] (cD 25 UG .skip)) Vr)))
def dY:IC:=sQ (.block 0 (.loop (sQ (oS [m1 10 1,bC 11 .neq 10 (.s [])] [1,2,6,11] (cD 11 .skip (.exit 0))) Vi))) (oR [o1 47 (.calls 45 [.t 6]),m1 4 47,mZ 5 0] [4,5])
def uA:IC:=oS [bX 2 0,mC 4 (.s []),mZ 5 0] [1,2] (oS [o1 6 (.mkm (.tnew 98 (.agg [.np,.nil])) [])] [1,2,6] dY)
@[push_cast]def Ane:List R:=[.t 4,.t 5]
@[push_cast]def AwU:=Aq OE.eq_1<|Aq UG.eq_1<|Aq V8.eq_1<|Aq Vr.eq_1<|Aq Vi.eq_1<|Aq dY.eq_1<|AL uA.eq_1
theorem Agv:Av Tryz.prog 218 48 uA Ane=true:=by kernel_rfl
def VT:IC:=oS [fA 40 3 13,l1 41 40,m1 42 12,iA 43 41 42 182 2,fA 44 43 1,l1 45 44,q1 46 216 45,nT 47 46,m1 39 47] [2,3,8,9,10,12,39] (cD 39 (oR [mC 6 (.s []),mZ 7 4] [6,7]) .skip)
def W2:IC:=cD 32 (oR [mC 6 (.s []),mZ 7 18] [6,7]) (oS [m1 36 11,bZ 37 .neq 36 0,m1 35 37] [2,3,8,9,10,11,12,35] (cD 35 (oR [m1 38 11,mC 6 (.s []),m1 7 38] [6,7]) VT))
def WZ:IC:=sQ (.ops [lA 53 3 16,m1 54 8,m1 55 9,m1 56 10,m1 57 13,o1 58 (.build [.s [],.s [],.s [],.nil,.nil,.s [],.s [],.s [],.s [],.i .i64 0,.i .i64 0,.nil,.nil,.nil,.nil,.nil,.i .i64 0,.i .i64 0,.i .i64 0,.i .i64 0] [(0,16,.t 53),(16,1,.t 54),(17,1,.t 55),(18,1,.t 56),(19,1,.t 57)]),fA 59 3 13,l1 60 59,m1 61 12,iA 62 60 61 182 2,fA 63 62 1,l1 64 63,q2 65 218 58 64,xT 66 65 0,xT 67 65 1,m1 6 66,m1 7 67] [6,7] [[0,5],[1,5],[2,5],[3,5],[4,5],[6,7],[7,9],[8,9],[9,10],[10,11],[5,12],[11,12],[12,13],[12,14],[13,15],[14,16]]) .ret
def X3:IC:=sQ (.block 0 (oS [m1 33 11,bZ 34 .eql 33 8,m1 32 34] [2,3,8,9,10,11,12,32] W2)) (oS [m1 49 2,q1 50 217 49,m1 48 50,xT 51 48 0,xT 52 48 1,m1 13 51,m1 14 52] [3,8,9,10,12,13] WZ)
def mG:IC:=sQ (oS [m1 22 11,bZ 23 .neq 22 0] [1,2,3,8,9,10,11,23] (cD 23 (oR [m1 24 11,mC 6 (.s []),m1 7 24] [6,7]) .skip)) (oS [fA 26 3 13,l1 27 26,m1 28 1,q2 29 215 27 28,m1 25 29,xT 30 25 0,xT 31 25 1,m1 12 30,m1 11 31] [2,3,8,9,10,11,12] X3)
def sX:IC:=oS [bX 3 0,mC 6 (.s []),mZ 7 0] [1,2,3] (oS [m1 16 2,q1 17 214 16,m1 15 17,xT 18 15 0,xT 19 15 1,xT 20 15 2,xT 21 15 3,m1 8 18,m1 9 19,m1 10 20,m1 11 21] [1,2,3,8,9,10,11] mG)
@[push_cast]def AmC:List R:=[.t 6,.t 7]
@[push_cast]def Awc:=Aq VT.eq_1<|Aq W2.eq_1<|Aq WZ.eq_1<|Aq X3.eq_1<|Aq mG.eq_1<|AL sX.eq_1
theorem Mt:Av Tryz.prog 158 68 sX AmC=true:=by kernel_rfl
def Xq:IC:=sQ (.block 1 (oS [iA 13 9 11 178 5,lA 14 13 5,o1 7 (.alloc (.agg [.s [],.s [],.s [],.s [],.s []])),sT 7 14 5] [1,4,7,9,10,11] (oS [fA 15 7 0,l1 16 15,m1 17 1,bT 18 .eql 16 17] [1,4,7,9,10,11,18] (cD 18 (oR [lA 19 7 5,sT 4 19 5,mC 5 (.b true)] [4,5]) .skip)))) (oP [bZ 20 .add 11 1,m1 11 20] [1,4,9,10,11])
def pI:IC:=sQ (oS [fA 8 2 11,l1 9 8,nL 10 9,mZ 11 0] [1,4,9,10,11] (.block 0 (.loop (oS [bT 12 .lss 11 10] [1,4,9,10,11,12] (sQ (cD 12 .skip (.exit 0)) Xq))))) (oR [o1 21 (.build [.s [],.s [],.s [],.s [],.s []] []),sT 4 21 5,mC 5 (.b false)] [4,5])
def uF:IC:=oS [bX 2 0,o1 4 (.alloc (.agg [.s [],.s [],.s [],.s [],.s []])),mC 5 (.b false)] [1,2,4] pI
@[push_cast]def Asy:List R:=[.c 4 5 true,.t 5]
@[push_cast]def AvV:=Aq Xq.eq_1<|Aq pI.eq_1<|AL uF.eq_1
theorem AjK:Av Tryz.prog 219 22 uF Asy=true:=by kernel_rfl
def UD:IC:=oS [m1 39 8,o1 40 (.call 136 [.t 39,.c (.s [123,49,125])]),m1 38 40,xT 41 38 0,xT 42 38 1,xT 43 38 2,m1 13 41,m1 14 42,m1 15 43] [1,2,7,13,14] (oR [m1 44 7,m1 45 1,bT 46 .add 44 45,m1 47 13,bT 48 .add 46 47,m1 49 2,bT 50 .add 48 49,m1 51 14,bT 52 .add 50 51,m1 6 52] [6])
def jS:IC:=sQ (oS [m1 23 7,o1 24 (.call 136 [.t 23,.c (.s [123,49,125])]),m1 22 24,xT 25 22 0,xT 26 22 1,xT 27 22 2,m1 10 25,m1 11 26,m1 12 27] [1,2,7,8,10,11,12] (oS [m1 28 12] [1,2,7,8,10,11,28] (cD 28 (oR [m1 29 10,m1 30 2,bT 31 .add 29 30,m1 32 11,bT 33 .add 31 32,m1 34 1,bT 35 .add 33 34,m1 36 8,bT 37 .add 35 36,m1 6 37] [6]) .skip))) UD
def iQ:IC:=oS [m1 17 0,o1 18 (.call 136 [.t 17,.c (.s [123,48,125])]),m1 16 18,xT 19 16 0,xT 20 16 1,xT 21 16 2,m1 7 19,m1 8 20,m1 9 21] [1,2,7,8] jS
def iC:IC:=oS [mC 6 (.s [])] [0,1,2] iQ
@[push_cast]def AmD:List R:=[.t 6]
@[push_cast]def Ax2:=Aq UD.eq_1<|Aq jS.eq_1<|Aq iQ.eq_1<|AL iC.eq_1
theorem dE:Av Tryz.prog 280 53 iC AmD=true:=by kernel_rfl
def Yc:IC:=sQ (.block 1 (oS [iA 33 29 31 9 1,l1 34 33,m1 11 34] [2,8,11,29,30,31] (oS [m1 35 11,o1 36 (.call 212 [.t 35,ci 2]),nT 37 36] [2,8,29,30,31,37] (cD 37 (oR [mC 6 (.s []),mZ 7 4] [6,7]) .skip)))) (oP [bZ 38 .add 31 1,m1 31 38] [2,8,29,30,31])
def Xc:IC:=oS [lA 42 8 5,m1 43 2,q2 44 220 42 43,m1 12 44] [12] (sQ (oS [m1 45 12,nS 46 45,bZ 47 .gtr 46 20000] [12,47] (cD 47 (oR [mC 6 (.s []),mZ 7 6] [6,7]) .skip)) (oR [m1 48 12,m1 6 48,mZ 7 0] [6,7]))
def Yg:IC:=sQ (oS [fA 21 8 1,l1 22 21,fA 23 8 2,l1 24 23,fA 25 8 3,l1 26 25,fA 27 8 4,l1 28 27,o1 29 (.msl false 9 1 [.t 22,.t 24,.t 26,.t 28]),nL 30 29,mZ 31 0] [2,8,29,30,31] (.block 0 (.loop (oS [bT 32 .lss 31 30] [2,8,29,30,31,32] (sQ (cD 32 .skip (.exit 0)) Yc))))) (sQ (oS [m1 39 2,nL 40 39,bZ 41 .gtr 40 1000] [2,8,41] (cD 41 (oR [mC 6 (.s []),mZ 7 6] [6,7]) .skip)) Xc)
def qU:IC:=oS [lA 14 3 16,m1 15 1,q2 16 219 14 15,m1 13 16,xT 17 13 0,xT 18 13 1,o1 8 (.alloc (.agg [.s [],.s [],.s [],.s [],.s []])),sT 8 17 5,m1 9 18] [2,8,9] (sQ (oS [m1 19 9,nT 20 19] [2,8,20] (cD 20 (oR [mC 6 (.s []),mZ 7 18] [6,7]) .skip)) Yg)
def gA:IC:=oS [bX 3 0,mC 6 (.s []),mZ 7 0] [1,2,3] qU
@[push_cast]def ApK:List R:=[.t 6,.t 7]
@[push_cast]def Axc:=Aq Yc.eq_1<|Aq Xc.eq_1<|Aq Yg.eq_1<|Aq qU.eq_1<|AL gA.eq_1
theorem eC:Av Tryz.prog 159 49 gA ApK=true:=by kernel_rfl
def VV:IC:=oS [m1 28 8,nT 29 28] [3,5,6,11,12,13,29] (cD 29 (oP [m1 30 3,lA 31 6 2,fA 32 5 2,l1 33 32,o0 (.wrm (.mput (.st [(0,.str),(1,.str)])) (.t 30) [.t 31,.t 33])] [3,11,12,13]) .skip)
def WW:IC:=oS [m1 23 3,lA 24 6 2,o1 25 (.rdm (.mget (.st [(0,.str),(1,.str)]) (.s []) true) (.t 23) [.t 24]),m1 22 25,xT 26 22 0,xT 27 22 1,m1 7 26,m1 8 27] [3,5,6,8,11,12,13] VV
def Vk:IC:=oS [fA 17 5 0,l1 18 17,fA 19 5 1,l1 20 19,o1 21 (.build [.s [],.s []] [(0,1,.t 18),(1,1,.t 20)]),o1 6 (.alloc (.agg [.s [],.s []])),sT 6 21 2] [3,5,6,11,12,13] WW
def Wj:IC:=sQ (.block 1 (oS [iA 15 11 13 180 3,lA 16 15 3,o1 5 (.alloc (.agg [.s [],.s [],.s []])),sT 5 16 3] [3,5,11,12,13] Vk)) (oP [bZ 34 .add 13 1,m1 13 34] [3,11,12,13])
def wQ:IC:=sQ (oS [fA 10 1 12,l1 11 10,nL 12 11,mZ 13 0] [3,11,12,13] (.block 0 (.loop (oS [bT 14 .lss 13 12] [3,11,12,13,14] (sQ (cD 14 .skip (.exit 0)) Wj))))) (oR [m1 35 3,m1 2 35] [2])
def wY:IC:=oS [bX 1 0,mC 2 .nm] [1] (oS [o1 9 (.mkm .mkmap []),m1 3 9] [1,3] wQ)
@[push_cast]def ArM:List R:=[.t 2]
@[push_cast]def Awq:=Aq VV.eq_1<|Aq WW.eq_1<|Aq Vk.eq_1<|Aq Wj.eq_1<|Aq wQ.eq_1<|AL wY.eq_1
theorem Ajt:Av Tryz.prog 268 36 wY ArM=true:=by kernel_rfl
def VB:IC:=oS [m1 26 8,m1 27 1,o1 28 (.build [.s [],.s []] [(0,1,.t 27),(1,1,.c (.s [111,116,104,101,114]))]),o1 29 (.rdm (.mget (.st [(0,.str),(1,.str)]) (.s []) true) (.t 26) [.t 28]),m1 25 29,xT 30 25 0,xT 31 25 1,m1 11 30,m1 12 31] [11,12] (oR [m1 32 11,m1 33 12,m1 6 32,m1 7 33] [6,7])
def vS:IC:=sQ (oS [m1 16 8,m1 17 1,m1 18 2,o1 19 (.build [.s [],.s []] [(0,1,.t 17),(1,1,.t 18)]),o1 20 (.rdm (.mget (.st [(0,.str),(1,.str)]) (.s []) true) (.t 16) [.t 19]),m1 15 20,xT 21 15 0,xT 22 15 1,m1 9 21,m1 10 22] [1,8,9,10] (oS [m1 23 10] [1,8,9,23] (cD 23 (oR [m1 24 9,m1 6 24,mC 7 (.b true)] [6,7]) .skip))) VB
def mL:IC:=oS [bX 3 0,mC 6 (.s []),mC 7 (.b false)] [1,2,3] (oS [lA 13 3 16,o1 14 (.calln 268 [.t 13]),m1 8 14] [1,2,8] vS)
@[push_cast]def Anm:List R:=[.t 6,.t 7]
@[push_cast]def Axd:=Aq VB.eq_1<|Aq vS.eq_1<|AL mL.eq_1
theorem Agp:Av Tryz.prog 211 34 mL Anm=true:=by kernel_rfl
def XH:IC:=cD 30 (oR [mC 6 (.s []),mZ 7 18] [6,7]) (oS [m1 34 10,o1 35 (.call 212 [.t 34,ci 1]),nT 36 35,m1 33 36] [2,3,10,33] (cD 33 (oR [mC 6 (.s []),mZ 7 4] [6,7]) .skip))
def W4:IC:=sQ (oS [m1 43 9,bZ 44 .neq 43 0] [9,10,12,44] (cD 44 (oR [m1 45 9,mC 6 (.s []),m1 7 45] [6,7]) .skip)) (oR [m1 46 10,m1 47 12,o1 48 (.call 213 [.t 46,.c (.s [123,48,125]),.t 47,ci 1]),m1 6 48,mZ 7 0] [6,7])
def Vo:IC:=sQ (.block 0 (oS [m1 31 11,nT 32 31,m1 30 32] [2,3,10,30] XH)) (oS [lA 38 3 16,m1 39 2,o1 40 (.call 105 [.t 38,.t 39,.c (.s [])]),m1 37 40,xT 41 37 0,xT 42 37 1,m1 12 41,m1 9 42] [9,10,12] W4)
def wX:IC:=sQ (oS [m1 20 9,bZ 21 .neq 20 0] [1,2,3,8,9,21] (cD 21 (oR [m1 22 9,mC 6 (.s []),m1 7 22] [6,7]) .skip)) (oS [lA 24 3 16,m1 25 1,m1 26 8,q3 27 211 24 25 26,m1 23 27,xT 28 23 0,xT 29 23 1,m1 10 28,m1 11 29] [2,3,10,11] Vo)
def lL:IC:=oS [bX 3 0,mC 6 (.s []),mZ 7 0] [1,2,3] (oS [fA 14 3 3,l1 15 14,m1 16 2,q2 17 210 15 16,m1 13 17,xT 18 13 0,xT 19 13 1,m1 8 18,m1 9 19] [1,2,3,8,9] wX)
@[push_cast]def AoZ:List R:=[.t 6,.t 7]
@[push_cast]def AwI:=Aq XH.eq_1<|Aq W4.eq_1<|Aq Vo.eq_1<|Aq wX.eq_1<|AL lL.eq_1
theorem L8:Av Tryz.prog 157 49 lL AoZ=true:=by kernel_rfl
def pJ:IC:=oR [m1 3 0,bZ 4 .geq 3 0,m1 5 4,By 6 5 0,C8 7 5 .leq 6 1114111,pA 8 5 7,m1 9 8,By 10 9 0,C8 11 9 .lss 10 55296,By 12 9 11,Br 13 12 0,Dg 14 12 .gtr 13 57343,gT 15 9 (.pick (.t 12) (.c (.b true)) (.t 14)),pA 16 9 15,m1 2 16] [2]
def nR:IC:=oS [mC 2 (.b false)] [0] pJ
@[push_cast]def Aq8:List R:=[.t 2]
@[push_cast]def Awp:=Aq pJ.eq_1<|AL nR.eq_1
theorem AiJ:Av Tryz.prog 237 17 nR Aq8=true:=by kernel_rfl
def XJ:IC:=sQ (cD 9 .skip (.exit 0)) (.block 1 (oS [xT 10 8 2,m1 5 10] [3,5,7] (oP [m1 11 3,m1 12 5,o1 13 (.cvi .i64 (.t 12)),o1 14 (.msl false 3 1 [.t 13]),o1 15 (.app (.t 11) (.t 14) 3 1),m1 3 15] [3,7])))
def eS:IC:=sQ (oS [m1 6 0,o1 7 (.mkm .strit [.t 6])] [3,7] (.block 0 (.loop (oS [o1 8 (.wrm .next (.t 7) []),xT 9 8 0] [3,7,8,9] XJ)))) (sQ (.wk (oP [m1 16 3,m1 2 16] [2])) .ret)
def mF:IC:=oS [mC 2 .nil] [0] (oS [mC 3 .nil] [0,3] eS)
@[push_cast]def ApF:List R:=[.t 2]
@[push_cast]def AwS:=Aq XJ.eq_1<|Aq eS.eq_1<|AL mF.eq_1
theorem Ahm:Av Tryz.prog 239 17 mF ApF=true:=by kernel_rfl
def WG:IC:=sQ (oS [m1 12 5,q1 13 237 12,nT 14 13] [3,5,6,7,8,14] (cD 14 (oP [mZ 5 65533] [3,5,6,7,8]) .skip)) (.opx [m1 15 5,o1 16 (.cvi .i32 (.t 15))] [3,6,7,8,16] 17 238 [.t 3,.t 16] [] [3,6,7,8])
def dB:IC:=oS [bT 9 .lss 8 7] [3,6,7,8,9] (sQ (cD 9 .skip (.exit 0)) (sQ (.block 1 (oS [iA 10 6 8 3 1,l1 11 10,m1 5 11] [3,5,6,7,8] WG)) (oP [bZ 18 .add 8 1,m1 8 18] [3,6,7,8])))
def wB:IC:=oS [mC 2 (.s [])] [0] (oS [o1 3 (.mkm (.tnew 98 (.agg [.np,.nil])) [])] [0,3] (sQ (oS [m1 6 0,nL 7 6,mZ 8 0] [3,6,7,8] (.block 0 (.loop dB))) (oR [o1 19 (.calls 45 [.t 3]),m1 2 19] [2])))
@[push_cast]def AqN:List R:=[.t 2]
@[push_cast]def Ax1:=Aq WG.eq_1<|Aq dB.eq_1<|AL wB.eq_1
theorem Aim:Av Tryz.prog 181 20 wB AqN=true:=by kernel_rfl
def o6:IC:=oS [mC 2 (.b false)] [0] (oR [m1 3 0,bZ 4 .geq 3 8294,m1 5 4,By 6 5 0,C8 7 5 .leq 6 8296,pA 8 5 7,m1 2 8] [2])
@[push_cast]def AmY:List R:=[.t 2]
@[push_cast]def AwP:=AL o6.eq_1
theorem Aka:Av Tryz.prog 240 9 o6 AmY=true:=by kernel_rfl
def Yh:IC:=oS [m1 22 4,m1 23 8,o1 24 (.msl false 4 1 [.t 23]),o1 25 (.app (.t 22) (.t 24) 4 1),m1 4 25] [3,4,5,7,8,11,12,13] (sQ (oS [m1 26 8,nT 27 26] [3,4,5,7,11,12,13,27] (cD 27 (.exit 1) .skip)) (oP [m1 28 5,bZ 29 .add 28 1,m1 5 29] [3,4,5,7,11,12,13]))
def VZ:IC:=oS [m1 42 4,m1 43 4,nL 44 43,bZ 45 .sub 44 1,o1 46 (.slT (.t 42) (.t 45) 1),m1 4 46] [3,4,5,7,9,11,12,13] (sQ (oS [m1 47 9,nT 48 47] [3,4,5,7,11,12,13,48] (cD 48 (.exit 1) .skip)) (oP [m1 49 5,bZ 50 .sub 49 1,m1 5 50] [3,4,5,7,11,12,13]))
def XC:IC:=sQ (oS [m1 33 4,nL 34 33,bZ 35 .eql 34 0] [3,4,5,7,11,12,13,35] (cD 35 (.exit 1) .skip)) (oS [m1 36 4,m1 37 4,nL 38 37,bZ 39 .sub 38 1,iA 40 36 39 4 1,l1 41 40,m1 9 41] [3,4,5,7,9,11,12,13] VZ)
def VC:IC:=sQ (.block 2 (oS [m1 18 7,q1 19 240 18,m1 17 19] [3,4,5,7,11,12,13,17] (cD 17 (oS [m1 20 5,bZ 21 .lss 20 8,m1 8 21] [3,4,5,7,8,11,12,13] Yh) (oS [m1 31 7,bZ 32 .eql 31 8297,m1 30 32] [3,4,5,7,11,12,13,30] (cD 30 XC .skip))))) (.opx [m1 51 7,o1 52 (.msl false 3 1 [.t 51]),q1 53 181 52] [3,4,5,11,12,13,53] 54 124 [.t 3,.t 53] [] [3,4,5,11,12,13])
def X7:IC:=oS [bT 14 .lss 13 12] [3,4,5,11,12,13,14] (sQ (cD 14 .skip (.exit 0)) (sQ (.block 1 (oS [iA 15 11 13 3 1,l1 16 15,m1 7 16] [3,4,5,7,11,12,13] VC)) (oP [bZ 55 .add 13 1,m1 13 55] [3,4,5,11,12,13])))
def Xb:IC:=sQ (.block 4 (.opx [o1 59 (.msl false 3 1 [ci 8297]),q1 60 181 59] [3,56,57,60] 61 124 [.t 3,.t 60] [] [3,56,57])) (oP [bZ 62 .add 57 1,m1 57 62] [3,56,57])
def UM:IC:=sQ (oS [m1 56 5,mZ 57 0] [3,56,57] (.block 3 (.loop (oS [bT 58 .lss 57 56] [3,56,57,58] (sQ (cD 58 .skip (.exit 3)) Xb))))) (oR [o1 63 (.calls 45 [.t 3]),m1 2 63] [2])
def pR:IC:=oS [mC 4 .nil] [0,3,4] (oS [mZ 5 0] [0,3,4,5] (sQ (oS [m1 10 0,q1 11 239 10,nL 12 11,mZ 13 0] [3,4,5,11,12,13] (.block 0 (.loop X7))) UM))
def cH:IC:=oS [mC 2 (.s [])] [0] (oS [o1 3 (.mkm (.tnew 98 (.agg [.np,.nil])) [])] [0,3] pR)
@[push_cast]def AqX:List R:=[.t 2]
@[push_cast]def Ax5:=Aq Yh.eq_1<|Aq VZ.eq_1<|Aq XC.eq_1<|Aq VC.eq_1<|Aq X7.eq_1<|Aq Xb.eq_1<|Aq UM.eq_1<|Aq pR.eq_1<|AL cH.eq_1
theorem Ajv:Av Tryz.prog 182 64 cH AqX=true:=by kernel_rfl
def uX:IC:=oR [o1 3 (.msl false 3 1 [ci 8296]),q1 4 181 3,m1 5 0,q1 6 182 5,bT 7 .add 4 6,o1 8 (.msl false 3 1 [ci 8297]),q1 9 181 8,bT 10 .add 7 9,m1 2 10] [2]
def uC:IC:=oS [mC 2 (.s [])] [0] uX
@[push_cast]def AsK:List R:=[.t 2]
@[push_cast]def Aw6:=Aq uX.eq_1<|AL uC.eq_1
theorem Ajg:Av Tryz.prog 128 11 uC AsK=true:=by kernel_rfl
def VA:IC:=oS [bZ 12 .eql 5 5,m1 11 12] [3,5,11] (cD 11 (oR [fA 13 3 1,l1 14 13,bZ 15 .eql 14 3,m1 4 15] [4]) (oS [bZ 17 .eql 5 6,m1 16 17] [3,16] (cD 16 (oR [fA 18 3 1,l1 19 18,bZ 20 .eql 19 4,m1 4 20] [4]) .skip)))
def vA:IC:=oS [bX 3 1,mC 4 (.b false)] [0,3] (sQ (oS [m1 5 0] [3,5] (.block 0 (oS [bZ 7 .eql 5 2,m1 6 7] [3,5,6] (cD 6 (oR [fA 8 3 1,l1 9 8,bZ 10 .neq 9 4,m1 4 10] [4]) VA)))) (oR [fA 21 3 1,l1 22 21,bZ 23 .eql 22 2,m1 4 23] [4]))
@[push_cast]def AqA:List R:=[.t 4]
@[push_cast]def Axn:=Aq VA.eq_1<|AL vA.eq_1
theorem Akb:Av Tryz.prog 156 24 vA AqA=true:=by kernel_rfl
def Wk:IC:=oS [bZ 60 .eql 28 6,m1 59 60] [3,4,5,59] (cD 59 (oR [lA 61 3 16,fA 62 4 3,l1 63 62,fA 64 5 4,l1 65 64,q3 66 159 61 63 65,xT 67 66 0,xT 68 66 1,m1 6 67,m1 7 68] [6,7]) .skip)
def Vn:IC:=oS [bZ 50 .eql 28 5,m1 49 50] [3,4,5,28,49] (cD 49 (oR [lA 51 3 16,fA 52 4 3,l1 53 52,fA 54 5 3,l1 55 54,q3 56 158 51 53 55,xT 57 56 0,xT 58 56 1,m1 6 57,m1 7 58] [6,7]) Wk)
def Xw:IC:=oS [bZ 40 .eql 28 4,m1 39 40] [3,4,5,28,39] (cD 39 (oR [lA 41 3 16,fA 42 4 3,l1 43 42,fA 44 5 2,l1 45 44,q3 46 157 41 43 45,xT 47 46 0,xT 48 46 1,m1 6 47,m1 7 48] [6,7]) Vn)
def UH:IC:=.block 0 (oS [bZ 30 .eql 28 3,m1 29 30] [3,4,5,28,29] (cD 29 (oR [lA 31 3 16,fA 32 5 2,l1 33 32,fA 34 4 3,l1 35 34,q3 36 105 31 33 35,xT 37 36 0,xT 38 36 1,m1 6 37,m1 7 38] [6,7]) Xw))
def Xh:IC:=oS [fA 74 5 3,l1 75 74,q1 76 160 75,m1 8 76] [8] (sQ (oS [m1 77 8,bC 78 .eql 77 (.s [])] [8,78] (cD 78 (oR [mC 6 (.s []),mZ 7 2] [6,7]) .skip)) (oR [m1 79 8,m1 6 79,mZ 7 0] [6,7]))
def Xa:IC:=sQ (oS [fA 27 4 0,l1 28 27] [3,4,5,28] UH) (sQ (oS [fA 69 5 1,l1 70 69,bZ 71 .neq 70 3] [5,71] (cD 71 (oR [fA 72 5 2,l1 73 72,m1 6 73,mZ 7 0] [6,7]) .skip)) Xh)
def eT:IC:=sQ (oS [lA 17 5 5,q1 18 40 17,nT 19 18,m1 20 19,Du 21 20 4 0,CM 22 20 21,gF 23 20 (.load (.t 5) 5 true),gF 24 20 (.call 156 [.t 22,.t 23]),gF 25 20 (.not (.t 24)),pO 26 20 25] [3,4,5,26] (cD 26 (oR [mC 6 (.s []),mZ 7 11] [6,7]) .skip)) Xa
def fS:IC:=sQ (oS [fA 9 4 0,l1 10 9,bZ 11 .lss 10 2,m1 12 11,Du 13 12 4 0,CM 14 12 13,Dg 15 12 .gtr 14 6,pO 16 12 15] [3,4,5,16] (cD 16 (oR [mC 6 (.s []),mZ 7 1] [6,7]) .skip)) eT
def p6:IC:=oS [bX 3 0,bX 4 1,bX 5 2,mC 6 (.s []),mZ 7 0] [3,4,5] fS
@[push_cast]def Aom:List R:=[.t 6,.t 7]
@[push_cast]def Awg:=Aq Wk.eq_1<|Aq Vn.eq_1<|Aq Xw.eq_1<|Aq UH.eq_1<|Aq Xh.eq_1<|Aq Xa.eq_1<|Aq eT.eq_1<|Aq fS.eq_1<|AL p6.eq_1
theorem Me:Av Tryz.prog 108 80 p6 Aom=true:=by kernel_rfl
def dH:IC:=oS [m1 7 0,m1 8 0,nC 9 8,fA 10 9 1,l1 11 10,m1 12 1,o1 13 (.msl false 5 1 [.t 12]),o1 14 (.app (.t 11) (.t 13) 5 1),nC 15 7,fA 16 15 1,sT 16 14 1] [] (oR [mC 4 .ni] [4])
def qL:IC:=oS [mC 4 .ni] [0,1] (oS [m1 5 0,o1 6 (.calls 180 [.t 5])] [0,1] dH)
@[push_cast]def Ar4:List R:=[.t 4]
@[push_cast]def Axj:=Aq dH.eq_1<|AL qL.eq_1
theorem Ai0:Av Tryz.prog 187 17 qL Ar4=true:=by kernel_rfl
def pV:IC:=sQ (.opx [m1 14 0,m1 15 0,nC 16 15,fA 17 16 1,l1 18 17,m1 19 1] [0,6,14,18,19] 20 287 [.t 18,.t 19] [nC 21 14,fA 22 21 1,sT 22 20 1] [0,6]) (oR [m1 23 0,nC 24 23,fA 25 24 1,l1 26 25,nL 27 26,m1 28 6,bT 29 .sub 27 28,m1 4 29,mC 5 .ni] [4,5])
def bM:IC:=oS [mZ 4 0,mC 5 .ni] [0,1] (oS [m1 7 0,o1 8 (.calls 180 [.t 7])] [0,1] (oS [m1 9 0,nC 10 9,fA 11 10 1,l1 12 11,nL 13 12,m1 6 13] [0,1,6] pV))
@[push_cast]def Ark:List R:=[.t 4,.t 5]
@[push_cast]def AvX:=Aq pV.eq_1<|AL bM.eq_1
theorem AjD:Av Tryz.prog 238 30 bM Ark=true:=by kernel_rfl
def nX:IC:=sQ (oS [m1 5 1,o1 6 (.cvi .u32 (.t 5)),bC 7 .leq 6 (.i .u32 127)] [0,1,7] (cD 7 (oR [m1 8 0,m1 9 1,o1 10 (.cvi .u8 (.t 9)),o1 11 (.msl false 5 1 [.t 10]),o1 12 (.app (.t 8) (.t 11) 5 1),m1 4 12] [4]) .skip)) (sQ (.opx [m1 13 0,m1 14 1] [13,14] 15 318 [.t 13,.t 14] [m1 4 15] [4]) .ret)
def r8:IC:=oS [mC 4 .nil] [0,1] nX
@[push_cast]def ArQ:List R:=[.t 4]
@[push_cast]def AwA:=Aq nX.eq_1<|AL r8.eq_1
theorem oQ:Av Tryz.prog 287 16 r8 ArQ=true:=by kernel_rfl
def eQ:IC:=oR [m1 14 0,m1 15 1,o1 16 (.pu (.shf .shr) [.t 15,.c (.i .u64 6)]),o1 17 (.cvi .u8 (.t 16)),o1 18 (.pu (.bit .or) [.c (.i .u8 192),.t 17]),m1 19 1,o1 20 (.cvi .u8 (.t 19)),o1 21 (.pu (.bit .and) [.t 20,.c (.i .u8 63)]),o1 22 (.pu (.bit .or) [.c (.i .u8 128),.t 21]),o1 23 (.msl false 5 1 [.t 18,.t 22]),o1 24 (.app (.t 14) (.t 23) 5 1),m1 4 24] [4]
def VX:IC:=oP [m1 28 5,o1 29 (.bin .lss (.c (.i .u32 57343)) (.t 28)),m1 30 29,By 31 30 5,gT 32 30 (.bin .leq (.t 31) (.c (.i .u32 65535))),pA 33 30 32,m1 25 33] [0,1,5,25]
def UU:IC:=oR [m1 34 0,m1 35 1,o1 36 (.pu (.shf .shr) [.t 35,.c (.i .u64 12)]),o1 37 (.cvi .u8 (.t 36)),o1 38 (.pu (.bit .or) [.c (.i .u8 224),.t 37]),m1 39 1,o1 40 (.pu (.shf .shr) [.t 39,.c (.i .u64 6)]),o1 41 (.cvi .u8 (.t 40)),o1 42 (.pu (.bit .and) [.t 41,.c (.i .u8 63)]),o1 43 (.pu (.bit .or) [.c (.i .u8 128),.t 42]),m1 44 1,o1 45 (.cvi .u8 (.t 44)),o1 46 (.pu (.bit .and) [.t 45,.c (.i .u8 63)]),o1 47 (.pu (.bit .or) [.c (.i .u8 128),.t 46]),o1 48 (.msl false 5 1 [.t 38,.t 43,.t 47]),o1 49 (.app (.t 34) (.t 48) 5 1),m1 4 49] [4]
def XK:IC:=oR [m1 57 0,m1 58 1,o1 59 (.pu (.shf .shr) [.t 58,.c (.i .u64 18)]),o1 60 (.cvi .u8 (.t 59)),o1 61 (.pu (.bit .or) [.c (.i .u8 240),.t 60]),m1 62 1,o1 63 (.pu (.shf .shr) [.t 62,.c (.i .u64 12)]),o1 64 (.cvi .u8 (.t 63)),o1 65 (.pu (.bit .and) [.t 64,.c (.i .u8 63)]),o1 66 (.pu (.bit .or) [.c (.i .u8 128),.t 65]),m1 67 1,o1 68 (.pu (.shf .shr) [.t 67,.c (.i .u64 6)]),o1 69 (.cvi .u8 (.t 68)),o1 70 (.pu (.bit .and) [.t 69,.c (.i .u8 63)]),o1 71 (.pu (.bit .or) [.c (.i .u8 128),.t 70]),m1 72 1,o1 73 (.cvi .u8 (.t 72)),o1 74 (.pu (.bit .and) [.t 73,.c (.i .u8 63)]),o1 75 (.pu (.bit .or) [.c (.i .u8 128),.t 74]),o1 76 (.msl false 5 1 [.t 61,.t 66,.t 71,.t 75]),o1 77 (.app (.t 57) (.t 76) 5 1),m1 4 77] [4]
def Wx:IC:=oS [m1 51 5,bC 52 .gtr 51 (.i .u32 65535),m1 53 52,By 54 53 5,gT 55 53 (.bin .leq (.t 54) (.c (.i .u32 1114111))),pA 56 53 55,m1 50 56] [0,1,50] (cD 50 XK (oR [m1 8 0,o1 9 (.msl false 5 1 [.c (.i .u8 239),.c (.i .u8 191),.c (.i .u8 189)]),o1 10 (.app (.t 8) (.t 9) 5 1),m1 4 10] [4]))
def fX:IC:=.block 0 (oS [m1 12 5,bC 13 .leq 12 (.i .u32 2047),m1 11 13] [0,1,5,11] (cD 11 eQ (sQ (oS [m1 26 5,bC 27 .lss 26 (.i .u32 55296),m1 25 27] [0,1,5,25] (cD 25 .skip VX)) (cD 25 UU Wx))))
def xK:IC:=oS [mC 4 .nil] [0,1] (oS [m1 6 1,o1 7 (.cvi .u32 (.t 6)),m1 5 7] [0,1,5] fX)
@[push_cast]def AmP:List R:=[.t 4]
@[push_cast]def Axt:=Aq eQ.eq_1<|Aq VX.eq_1<|Aq UU.eq_1<|Aq XK.eq_1<|Aq Wx.eq_1<|Aq fX.eq_1<|AL xK.eq_1
theorem Agz:Av Tryz.prog 318 78 xK AmP=true:=by kernel_rfl
end Go.Ir

namespace Go.Ir
open Go.Proofs
variable(W0:World)
theorem Sc(s:Aa):Al Tryz.prog W0 330 [.s s] [] (.b (Fz s)) []:=by
 have a:=GX W0 EE s (by decide);unfold Fz;generalize d:EE.contains s=K at *;unfold EE at a;simp only[AlG,Apy] at a;refine Ae (vs:=[.b K]) AjM (by simp) (by simp) λn0 c=>?_;clear c;simp only[push_cast];have _h:=trivial;repeat' (first|(first|((first|apply Ab|apply Ag|apply Ah)<;>intro _h)|refine Ac a ?_)<;>simp only[push_cast]|intro _)
 exact Af (by simp[get])
theorem ED{a β:Type}(f:a->β)(l:List a)(x:a):List.map f l++[f x]=List.map f (l++[x]):=by simp
def G1(o:Option (List Aa)):V:=match o with
 | some l=>.sl (l.map V.s)
 | none=>.nil
def P2(o:Option (List Aa))(e:Int):Int:=if o.isSome then 0 else e
theorem Ms(s:Aa)(A:s.length<=2^30):Al Tryz.prog W0 311 [.s s] [] (.tup [G1 (Cf s),.i .i64 (P2 (Cf s) 3)]) []:=by
 generalize hS:Cf s=S;unfold Cf at hS;refine Ae (vs:=[G1 S,.i .i64 (P2 S 3)]) AjO (by simp) (by simp) λn0 v=>?_;clear v;simp only[push_cast,seval,reduceEqDiff]
 repeat' (first|(((first|apply Ab|apply Ag|apply Ah)<;>intro _h)<;>simp only[push_cast,seval,reduceEqDiff,_h])|(refine Ar (by omega) ?_;simp only[push_cast,seval,reduceEqDiff])|intro _)
 rename_i k1 k2 k3 E;generalize n0+1+k1+1+k2+1+k3+1+E=B;have G:CC.length=4:=rfl;refine Am 4 (Inv:=λm st=>∃dn rest n id r out,CC=dn++rest/\m=rest.length/\Cj rest r out=S/\r.length<=2^30/\out.length+rest.length<=4/\id.1<n/\st=⟨[(4,.arr id),(5,.s r),(11,.sl (CC.map V.s)),(12,.i .i64 CC.length),(13,.i .i64 dn.length)],[(id,.arr 9 1 (out.map V.s))],n⟩) ⟨_,(Ak.own (s:=4) (e:=9) (sz:=1) (k:=0) rfl).trans (Ak.envD (env':=[(4,.arr (B,0)),(5,.s s),(11,.sl (CC.map V.s)),(12,.i .i64 4),(13,.i .i64 0)]) (λt=>?_) (AzR _)),[],CC,_,(B,0),s,[],rfl,rfl,hS,A,by decide,AzS _,rfl⟩ ?_
 .left;simp only[get];by_cases h:4=t
  .subst h;simp
  .simp[h,CC]
 clear hS A;rintro m _ ⟨dn,rest,n,id,r,out,j,rfl,c,I,o,H,rfl⟩;cases rest with
 | nil=>
  have d:decide ((dn.length:Int)<(CC.length:Int))=false:=by rw[j];simp
  rw[Cj] at c;have f:((out.length:Int)==0)=(out.length==0):=by cases out<;>simp<;>omega
  cases a:(r==([]:Aa))<;>cases g:(out.length==0)
  all_goals simp only[a,g,bq,if_true,if_false,Int.reduceBEq,reduceCtorEq,Au9,AuR] at c
  all_goals subst c
  all_goals simp only[push_cast,seval,reduceEqDiff,d,f,a,g]
  all_goals repeat' (first|(((first|apply Ab|apply Ag|apply Ah)<;>intro _h)<;>simp only[push_cast,seval,reduceEqDiff,_h,d,f,a,g])|(refine Ar (by omega) ?_;simp only[push_cast,seval,reduceEqDiff,d,f,a,g])|intro _)
  all_goals (first|(refine Ad ?_;simp[push_cast,get,G1,P2];done)|skip)
  refine LW (Ak.frzAt (s:=4) (id:=id) rfl (by simp[lk]) (oY out) (AzR _)) ?_;simp only[push_cast,seval,reduceEqDiff,d,f];intros;refine Ad ?_;simp[push_cast,get,G1,P2]
 | cons k rest=>
  have C:=AM j;have q:k∈CC:=by rw[j];simp
  have u:k.length=1/\∀b∈k,b.toNat<128:=by unfold CC at q;simp at q;rcases q with rfl|rfl|rfl|rfl<;>simp
  have w:=OR W0 r k (by omega) u.2;have D:=EP r k;rw[Cj] at c;have l:=Sc W0 (r.take (r.length-(Lib.trimLeftS r k).length));generalize Lib.trimLeftS r k=T at *;have x:IntKind.i64.wrap ((r.length:Int)-(T.length:Int))=((r.length-T.length:Nat):Int):=by rw[wrap64 (by omega) (by omega)];omega
  have y:(r.length-T.length<=r.length)=True:=eq_true (by omega);have z:(out.length+1<=AI)=True:=eq_true (by simp at o;unfold AI;omega);generalize p:r.take (r.length-T.length)=F at *;cases a:(F==([]:Aa))<;>cases g:Fz F
  all_goals simp only[a,g,bq,if_true,if_false,Int.reduceBEq,reduceCtorEq] at c l
  all_goals simp only[push_cast,seval,reduceEqDiff,j,Ai k (dn:=dn) (by omega),x,y,z,p,Aqn,AzR,Am7,Abn,a]
  all_goals repeat' (first|(((first|apply Ab|apply Ag|apply Ah)<;>intro _h)<;>simp only[push_cast,seval,reduceEqDiff,_h,j,Ai k (dn:=dn) (by omega),x,y,z,p,Aqn,AzR,Am7,Abn,a])|((first|refine Ac (by exact w) ?_|refine Ac (by exact l) ?_|refine Ar (by omega) ?_);simp only[push_cast,seval,reduceEqDiff,j,Ai k (dn:=dn) (by omega),x,y,z,p,Aqn,AzR,Am7,Abn,a])|intro _)
  .subst c;refine Ad ?_;simp[push_cast,get,G1,P2]
  .rw[ED];exact⟨_,_,AzS _,Ak.refl,dn++[k],rest,_,_,T,out++[F],by simp,rfl,c,by omega,by simp at o⊢;omega,by simp only;omega,rfl⟩
  .exact⟨_,_,AzS _,Ak.refl,dn++[k],rest,_,id,r,out,by simp,rfl,c,by omega,by simp at o⊢;omega,by omega,rfl⟩
  .exact⟨_,_,AzS _,Ak.refl,dn++[k],rest,_,id,r,out,by simp,rfl,c,by omega,by simp at o⊢;omega,by omega,rfl⟩
theorem ZL:∀(n m:Nat) (p:Aa) (out:List Aa),p.length<n->p.length<m->Co n p out=Co m p out:=by
 intro n
 induction n with
 | zero=>intro m p out h;omega
 | succ n f=>
  intro m p out c d;cases m with
  | zero=>omega
  | succ m=>
   have a:=EP p Bc;rw[Co,Co];split
   .rfl
   .rename_i hp;have b:1<=p.length:=by grind
    split
    .grind
    .rename_i e;have:(Lib.trimLeftS p Bc).length<p.length:=by
      rcases Awy (Lib.trimLeftS p Bc).length p.length with h|h
      .exact h
      simp_all
     grind
theorem AgA(s:Aa)(q:s.length<=2^30):Al Tryz.prog W0 312 [.s s] [] (.tup [G1 (GU s),.b (GU s).isSome]) []:=by
 generalize hS:GU s=S;unfold GU at hS;refine Ae (vs:=[G1 S,.b S.isSome]) Aic (by simp) (by simp) λn0 o=>?_;clear o;simp only[push_cast]
 repeat' (first|(((first|apply Ab|apply Ag|apply Ah)<;>intro _h)<;>simp only[push_cast,seval])|(refine Ar (by omega) ?_;simp only[push_cast,seval])|intro _)
 rename_i k1 k2;generalize n0+1+k1+1+k2=v;refine Am s.length (Inv:=λm st=>∃n id p out,m=p.length/\Co (p.length+1) p out=S/\p.length<=2^30/\out.length+p.length<=2^30/\id.1<n/\st=⟨[(0,.s p),(4,.arr id)],[(id,.arr 9 1 (out.map V.s))],n⟩) ⟨_,(Ak.own (s:=4) (e:=9) (sz:=1) (k:=0) rfl).trans (Ak.envD (env':=[(0,.s s),(4,.arr (v,0))]) (λt=>?_) (AzR _)),_,(v,0),s,[],rfl,hS,q,by simpa using q,AzS _,rfl⟩ ?_
 .left;simp only[get];grind
 clear hS q;rintro m _ ⟨n,id,p,out,rfl,a,hp,E,G,rfl⟩;cases p with
 | nil=>rw[Co] at a;simp only[beq_self_eq_true] at a;subst a;simp only[push_cast];intros;refine LW (Ak.frzAt (s:=4) (id:=id) rfl (by simp[lk]) (oY out) (AzR _)) ?_;simp only[push_cast];intros;refine Ad ?_;simp[push_cast,G1]
 | cons c p=>
  obtain⟨R,d⟩:∃R,R=c::p:=⟨_,rfl⟩;have i:R.drop 1=p:=by rw[d];rfl
  have C:R.length=p.length+1:=by rw[d];simp
  rw[<-d] at a hp E⊢;have l:(R==([]:Aa))=false:=by rw[d];rfl
  clear d;have u:=OR W0 R Bc (by decide) (by decide);have D:=EP R Bc;rw[Co,l] at a;have f:=Sc W0 (R.take (R.length-(Lib.trimLeftS R Bc).length));generalize Lib.trimLeftS R Bc=T at *;unfold Bc at u;have w:IntKind.i64.wrap ((R.length:Int)-(T.length:Int))=((R.length-T.length:Nat):Int):=by rw[wrap64 (by omega) (by omega)];omega
  have x:(R.length-T.length<=R.length)=True:=eq_true (by omega);have y:(out.length+1<=AI)=True:=eq_true (by unfold AI;omega);have z:(1<=R.length)=True:=eq_true (by omega);have B:T.length=R.length->R.take (R.length-T.length)=[]:=λh=>by rw[h];simp
  generalize r:R.take (R.length-T.length)=F at *;cases j:(F==([]:Aa))<;>cases A:Fz F
  all_goals simp only[j,A] at a f
  all_goals simp only[push_cast,seval,l]
  all_goals repeat' (first|(((first|apply Ab|apply Ag|apply Ah)<;>intro _h)<;>simp only[push_cast,seval,l,w,x,y,z,r,i,Aqn,AzR,Am7,Abn,j])|((first|refine Ac (by exact u) ?_|refine Ac (by exact f) ?_|refine Ar (by omega) ?_);simp only[push_cast,seval,w,x,y,z,r,i,Aqn,AzR,Am7,j])|intro _)
  .subst a;refine Ad ?_;simp[push_cast,G1]
  .rw[ED];have g:T.length<R.length:=by grind
   exact⟨_,_,g,Ak.refl,_,_,T,out++[F],rfl,by rw[ZL _ R.length T _ (by omega) g];exact a,by omega,by simp;omega,by simp only;omega,rfl⟩
  .exact⟨_,_,show p.length<R.length by omega,Ak.refl,_,id,p,out,rfl,by grind,by omega,by omega,by omega,rfl⟩
  .exact⟨_,_,show p.length<R.length by omega,Ak.refl,_,id,p,out,rfl,by grind,by omega,by omega,by omega,rfl⟩
theorem UE(l:List Aa)(N:l≠[])(F:l.length<=2^20)(Y:∀f∈l,1<=f.length):Al Tryz.prog W0 313 [.sl (l.map V.s)] [] (.tup [.s (Gh l).1,.b (Gh l).2]) []:=by
 generalize hS:Gh l=S;unfold Gh Kx at hS;refine Ae (vs:=[.s S.1,.b S.2]) AjN (by simp) (by simp) λn0 M=>?_;clear M;simp only[push_cast,seval,reduceEqDiff]
 repeat' (first|(((first|apply Ab|apply Ag|apply Ah)<;>intro _h)<;>simp only[push_cast,seval,reduceEqDiff,_h])|(refine Ar (by simp only[AhT,AiL,Ank,AJ]<;>omega) ?_;simp only[push_cast,seval,reduceEqDiff])|intro _)
 rename_i k1 k2 k3;generalize n0+1+k1+1+k2+1+k3=T;refine Am l.length (Inv:=λm st=>∃dn rest n id,l=dn++rest/\m=rest.length/\T<=n/\id.1<n/\st=⟨[(4,.arr id),(8,.sl (l.map V.s)),(9,.i .i64 l.length),(10,.i .i64 dn.length)],[(id,.arr 9 1 ((dn.map λf=>f.take 1).map V.s))],n⟩) ⟨_,(Ak.own (s:=4) (e:=9) (sz:=1) (k:=0) rfl).trans (Ak.envD (env':=[(4,.arr (T,0)),(8,.sl (l.map V.s)),(9,.i .i64 l.length),(10,.i .i64 0)]) (λt=>?_) (AzR _)),[],l,_,(T,0),rfl,rfl,Am9 _,AzS _,rfl⟩ ?_
 .left;simp only[get];by_cases h:4=t
  .subst h;simp
  .simp[h]
 rintro m _ ⟨dn,rest,n,id,r,rfl,hn,E,rfl⟩;cases rest with
 | nil=>
  have ae:decide ((dn.length:Int)<(l.length:Int))=false:=by rw[r];simp
  have K:dn=l:=by rw[r];simp
  rw[K];clear r;have C:(l.map λf=>f.take 1).length=l.length:=by simp
  have g:(l.map λf=>f.take 1)≠[]:=by simpa using N
  have w:decide ((l.length:Int)<(l.length:Int))=false:=by simp
  rw[<-C] at hS⊢;obtain⟨G,u⟩:∃G,G=l.map λf=>f.take 1:=⟨_,rfl⟩
  rw[<-u] at hS C g⊢;have H:=Acy W0 G id g (by omega);have d:(G.mergeSort λx y=>decide (x<=y)).length=G.length:=Azj ..;have o:(G.mergeSort λx y=>decide (x<=y))≠[]:=by intro h;rw[h] at d;simp at d;exact g (by simpa using d.symm)
  have z:∀l∈(G.mergeSort λx y=>decide (x<=y)),l∈G:=λl F=>by simpa using F
  generalize(G.mergeSort λx y=>decide (x<=y))=Q at *;have J:=K7 Q;rw[d] at J;have A:∀l∈Lib.compact Q,l.length<=1:=by intro l F;have:=z l (K0 F);rw[u] at this;obtain⟨f,_,rfl⟩:=AmB.1 this;simp;omega
  have hj:=sN W0 (Lib.compact Q) [] (by have:=Jc [] 1 0 (by simp) (Lib.compact Q) A;omega);clear z u A;have hc:=jX W0 Q id o (by omega);have hx:=Lg W0 Q;simp only[push_cast,seval,reduceEqDiff,w];intro k;refine MC H (λp hp=>by cases hp) ?_;simp only[push_cast,seval,reduceEqDiff,w];intro k2;refine KO hc (λ_ _ h=>h) ?_;rw[C7];simp only[push_cast,seval,reduceEqDiff,w];intro k3;have D:((n+1+k+1+k2,23):Id)≠id:=λB=>by rw[<-B] at E;simp only at E;omega
  refine Bd (Lg W0 Q _ o (by omega)) (λi e h=>by
   simp only[lk] at h⊢;split at h
   .rename_i X;rw[if_pos X];exact h
   .cases h) (λn2 v σo ad Z=>?_)
  obtain⟨c,i1,i2,rfl,rfl⟩:=Z;have O:over [((n+1+k+1+k2,23),A5.arr 9 1 (List.map V.s Q))] [(c,A5.arr 9 1 (List.map V.s (Lib.compact Q)))] [((n+1+k+1+k2,23),A5.arr 9 1 (List.map V.s Q)),(id,A5.arr 9 1 (List.map V.s Q))]=[(c,A5.arr 9 1 (List.map V.s (Lib.compact Q))),(id,A5.arr 9 1 (List.map V.s Q))]:=by have:=IL (σi:=[((n+1+k+1+k2,23),A5.arr 9 1 (List.map V.s Q))]) (σo:=[(c,A5.arr 9 1 (List.map V.s (Lib.compact Q)))]) (pre:=[]) (post:=[(id,A5.arr 9 1 (List.map V.s Q))]) (λp hp=>by cases hp) (λp hp q H=>by simp at hp H;subst hp H;exact AfT D);simpa using this
  rw[O];have a:(id=c)=False:=eq_false λB=>by rw[B] at E;omega
  have j:(c=id)=False:=eq_false λB=>by rw[<-B] at E;omega
  simp only[push_cast,seval,reduceEqDiff,a,j];intro k4;refine LW (Ak.frzAt (s:=7) (id:=c) rfl (by simp only[lk,a,if_false]) (oY (Lib.compact Q)) (AzR _)) ?_;simp only[push_cast,seval,reduceEqDiff,a,j];have _h:=trivial;repeat' (first|(first|((first|apply Ab|apply Ag|apply Ah)<;>intro _h)|refine Ac hj ?_|refine Ar (by omega) ?_)<;>simp only[push_cast,seval,reduceEqDiff,_h,a,j]|intro _)
  have I:(((Lib.compact Q).length:Int)==(Q.length:Int))=((Lib.compact Q).length==G.length):=by rw[d,Ats];simp;omega
  subst hS;refine Ad ?_;simp[push_cast,get,I]
 | cons f rest=>
  have aa:=AM r;have L:=Y f (by rw[r];simp);have U:(dn.length+1<=AI)=True:=eq_true (by unfold AI;omega);have W:(1<=f.length)=True:=eq_true L;simp only[push_cast,seval,reduceEqDiff,r,Ai f (dn:=dn) (by omega),U,W,Aqn,AzR,Am7,Abn]
  repeat' (first|(((first|apply Ab|apply Ag|apply Ah)<;>intro _h)<;>simp only[push_cast,seval,reduceEqDiff,_h,r,Ai f (dn:=dn) (by omega),U,W,Aqn,AzR,Am7,Abn])|(refine Ar (by simp only[AhT,AiL,Ank,AJ]<;>omega) ?_;simp only[push_cast,seval,reduceEqDiff,r,Ai f (dn:=dn) (by omega),U,W,Aqn,AzR,Am7,Abn])|intro _)
  rw[ED,ED (λf:Aa=>List.take 1 f)];exact⟨_,_,AzS _,Ak.refl,dn++[f],rest,_,_,by simp,rfl,by omega,by simp only;omega,rfl⟩
theorem RL:∀(a:List Aa) (r:Aa) (out w:List Aa),Cj a r out=some w->(∀f∈out,1<=f.length)->w≠[]/\w.length<=out.length+a.length/\∀f∈w,1<=f.length:=by
 intro a
 induction a with
 | nil=>intro r out w h b;rw[Cj] at h;grind
 | cons k a c=>
  intro r out w h b;rw[Cj] at h;split at h
  .grind
  .rename_i i;split at h
   .obtain⟨d,e,g⟩:=c _ _ _ h (λf j=>by grind
)
    grind
   .cases h
theorem FT{s:Aa}{w:List Aa}(h:Cf s=some w):w≠[]/\w.length<=4/\∀f∈w,1<=f.length:=by have:=RL CC s [] w h (by simp);simpa[CC] using this
theorem aN:∀(n:Nat) (p:Aa) (out g:List Aa),Co n p out=some g->(∀f∈out,1<=f.length)->g.length<=out.length+p.length/\∀f∈g,1<=f.length:=by
 intro n
 induction n with
 | zero=>intro p out g h;cases h
 | succ n e=>
  intro p out g h d;have a:=EP p Bc;rw[Co] at h;split at h
  .grind
  .split at h
   .grind
   .rename_i c;split at h
    .have b:(Lib.trimLeftS p Bc).length<p.length:=by
      rcases Awy (Lib.trimLeftS p Bc).length p.length with h|h
      .exact h
      simp_all
     grind
    .cases h
theorem rF{s:Aa}{g:List Aa}(h:GU s=some g):g.length<=s.length/\∀f∈g,1<=f.length:=by have:=aN _ s [] g h (by simp);simpa using this
theorem AaH(f p:Aa)(h:f.length<=2^30)(r:p.length<=2^20):Al Tryz.prog W0 277 [.s f,.s p] [] (.b (Dz f p)) []:=by
 have d:=Ms W0 f h;have c:=AgA W0 p (by omega);generalize hS:Dz f p=S;unfold Dz at hS;cases i:Cf f with
 | none=>
  rw[i] at d hS;simp only[G1,P2,AxE,AcT] at d;refine Ae (vs:=[.b S]) O3 (by simp) (by simp) λn0 a=>?_;clear a;simp only[push_cast];cases e:GU p with
  | none=>
   rw[e] at c hS;simp only[G1,AxE] at c
   all_goals ((try simp only  at hS);subst hS)
   all_goals (try simp only )
   all_goals (repeat' (first|((first|refine Ac (by exact d) ?_|refine Ac (by exact c) ?_|refine Ar (by omega) ?_);(try simp only[push_cast,seval]))|intro _))
   all_goals (first|(refine Af ?_;simp ;done)|(refine Ad ?_;simp[push_cast];done)|skip)
  | some g=>
   rw[e] at c hS;simp only[G1,Atq] at c
   all_goals ((try simp only  at hS);subst hS)
   all_goals (try simp only )
   all_goals (repeat' (first|((first|refine Ac (by exact d) ?_|refine Ac (by exact c) ?_|refine Ar (by omega) ?_);(try simp only[push_cast,seval]))|intro _))
   all_goals (first|(refine Af ?_;simp ;done)|(refine Ad ?_;simp[push_cast];done)|skip)
 | some w=>
  rw[i] at d hS;simp only[G1,P2,Atq] at d;obtain⟨m,a2,a3⟩:=FT i;have k1:=UE W0 w m (by omega) a3;cases e:GU p with
  | none=>
   rw[e] at c hS;simp only[G1,AxE] at c;refine Ae (vs:=[.b S]) O3 (by simp) (by simp) λn0 a=>?_;clear a;simp only[push_cast]
   all_goals ((try simp only  at hS);subst hS)
   all_goals (try simp only )
   all_goals (repeat' (first|((first|refine Ac (by exact d) ?_|refine Ac (by exact c) ?_|refine Ar (by omega) ?_);(try simp only[push_cast,seval]))|intro _))
   all_goals (first|(refine Af ?_;simp ;done)|(refine Ad ?_;simp[push_cast];done)|skip)
  | some g=>
   rw[e] at c hS;simp only[G1,Atq] at c;obtain⟨q,o⟩:=rF e;by_cases l:g=[]
   .subst l;simp only[Apy] at c;refine Ae (vs:=[.b S]) O3 (by simp) (by simp) λn0 a=>?_;clear a;simp only[push_cast]
    all_goals ((try simp only  at hS);subst hS)
    all_goals (try simp only[push_cast,seval])
    all_goals (repeat' (first|((first|refine Ac (by exact d) ?_|refine Ac (by exact c) ?_|refine Ar (by omega) ?_);(try simp only[push_cast,seval]))|intro _))
    all_goals (first|(refine Af ?_;simp ;done)|(refine Ad ?_;simp[push_cast];done)|skip)
   .have k2:=UE W0 g l (by omega) o;have j:((g.length:Int)==0)=false:=by simp_all
    have k:(g.length==0)=false:=by grind
    simp only[k] at hS;refine Ae (vs:=[.b S]) O3 (by simp) (by simp) λn0 a=>?_;clear a;simp only[push_cast];cases h:(Gh g).2
    all_goals simp only[h] at k2 hS
    all_goals ((try simp only  at hS);subst hS)
    all_goals (try simp only )
    all_goals (repeat' (first|((first|refine Ac (by exact d) ?_|refine Ac (by exact c) ?_|refine Ac (by exact k1) ?_|refine Ac (by exact k2) ?_|refine Ar (by omega) ?_);(try simp only[push_cast,seval,j]))|intro _))
    all_goals (first|(refine Af ?_;simp ;done)|(refine Ad ?_;simp[push_cast];done)|skip)
end Go.Ir
section
namespace Go.Ir
section tree
variable{P:Aw→Prop}{Q:List Aw→Prop}{R:List DR→Prop}
end tree
def OZ(l a m:List Aa):Prop:=(∀x,x∈a↔x∈l\/x∈m)/\(l.Nodup->a.Nodup)
theorem OZ.refl(l:List Aa):OZ l l []:=⟨λx=>by simp,λh=>h⟩
theorem OZ.trans{a b c m n:List Aa}(h:OZ a b m)(k:OZ b c n):OZ a c (m++n):=
 ⟨λx=>by rw[k.1,h.1];simp[or_assoc],λd=>k.2 (h.2 d)⟩
theorem OZ.same{a b m n:List Aa}(h:OZ a b m)(c:∀x,x∈m↔x∈n):OZ a b n:=⟨λx=>by rw[h.1,c],h.2⟩
theorem ZU{a b:List Aa}(c:a.Nodup)(h:∀x∈a,x∈b):a.length<=b.length:=by
 induction a generalizing b with
 | nil=>simp
 | cons x a d=>
  rw[Avo] at c;have e:x∈b:=h x (by simp);have:=d (b:=b.erase x) c.2 λy f=>by grind
  grind
end Go.Ir
end
namespace Go.Ir
structure WfP (p:Aw):Prop where
 keys:Dc p.kind=true->∀c∈p.cases,Qy p.kind c.1=true
 other:Dc p.kind=true->∃c∈p.cases,c.1=CN
 cases0:Dc p.kind=false->p.cases=[]
 parts0:(p.kind==11)=false->p.parts=[]
 elem:(p.kind==11)=true->p.text=[]/\p.style=[]
 name:Dc p.kind=true->p.name.length<=40
def Tm(L:List E7)(p:Aw):Prop:=Dc p.kind=true->¬HA L p.kind p.name<0
theorem Tm.mono{L a:List E7}(h:D8 L a){p:Aw}(hp:Tm L p):Tm a p:=λb=>by have:=hp b;rw[aS h _ _ this];exact this
def KS(G:Int->Aa->Prop)(l:List E7):Prop:=∀s∈l,∀k∈s.keys,G s.kind k
theorem KS.mod{G:Int->Aa->Prop}{l:List E7}(h:KS G l){j:Nat}{key:Aa}{s:E7}(e:l[j]?=some s)(m:G s.kind key):KS G (l.modify j (Gd key)):=by
 intro t o k a;obtain⟨i,c⟩:=List.getElem?_of_mem o;rw[AyM] at c;by_cases g:j=i
 .subst g;rw[e] at c;have f:Gd key s=t:=by simpa using c
  subst f;have d:=AzT e;unfold Gd at a⊢;split at a
  .rename_i b;rw[if_pos b];exact h s d k a
  .rename_i b;rw[if_neg b];simp only[Am2,Atd] at a;rcases a with a|rfl
   .exact h s d k a
   .exact m
 .have:l[i]?=some t:=by
   grind
  exact h t (AzT this) k a
theorem KS.add{G:Int->Aa->Prop}{l:List E7}(h:KS G l)(k:Int)(n:Aa):KS G (Um l k n):=by
 unfold Um;split
 .intro s a k b;rcases Am2.1 a with a|a
  .exact h s a k b
  grind
 .exact h
theorem KS.nil(G:Int->Aa->Prop):KS G []:=λs a=>by cases a

structure AtN (p:Aw):Prop where
 sel:Dc p.kind=false
 ten:(p.kind==10)=false
 cs:p.cases=[]
structure Aw4 (l:List E7):Prop where
 nm:∀s∈l,Dc s.kind=true/\De s.name=true
 nd:(l.map fun s=>(s.kind,s.name)).Nodup
 ks:∀s∈l,s.keys.Nodup

structure AtB (l:Loc) (ps:List Aw) (F:fW):Prop where
 sound:Agy F=true
 some:0<F.2.length
 bare:∀v∈F.2,UT AtN v/\Eo v<=2^19/\(n9 v=true->ApC l v=(([],[v]),0))
 only:KX ps=true->F.2=[ps]
 nm:∀s∈F.1,s.name.length<=40
def Ip(t:Int):Bool:=decide (t>=0)&&decide (t<=4)
def GO(a b:Int):Int×Bool:=if !Ip a||!Ip b then(0,false) else if a==b then(a,true) else if a==0&&b !=4 then(b,true) else if b==0&&a !=4 then(a,true) else(0,false)
def DU(t:Dt×Bool)(u:Aa×Int):Dt×Bool:=match AU t.1 u.1 with
 | none=>(Ep t.1 u.1 u.2,t.2)
 | some a=>(Ep t.1 u.1 (GO a u.2).1,t.2||!(GO a u.2).2)
theorem RX(m:Dt)(n:Aa)(k:Int)(a:Aa):AU (Ep m n k) a=if a=n then some k else AU m a:=by
 induction m with
 | nil=>simp only[Ep,AU,beq_iff_eq];grind
 | cons e m c=>
  rw[Ep];by_cases h:e.1=n
  .have b:(e.1==n)=true:=by simpa using h
   rw[b,if_pos rfl];simp only[AU,beq_iff_eq];grind
  .have b:(e.1==n)=false:=by simpa using h
   rw[b,if_neg (by simp)];simp only[AU,beq_iff_eq,c];grind
theorem Yo(t:Dt×Bool)(u:Aa×Int)(h:(DU t u).2=false):t.2=false:=by unfold DU at h;grind
theorem TK(us:List (Aa×Int)):∀t:Dt×Bool,(us.foldl DU t).2=false->t.2=false:=by
 induction us with
 | nil=>intro t h;exact h
 | cons u us a=>intro t h;exact Yo _ _ (a _ h)
end Go.Ir

namespace Go.Ir
open Go.Proofs
variable{P:Program}{W0:World}{nt n:Nat}{Q:Exit→St→Prop}{env:A9}{σ:Aj}
def Afy:IC:=oS [mC 2 (.b false)] [0] (oR [m1 3 0,bZ 4 .geq 3 0,m1 5 4,By 6 5 0,C8 7 5 .leq 6 4,pA 8 5 7,m1 2 8] [2])
@[push_cast]def Auj:List R:=[.t 2]
@[push_cast]def AyB:=AL Afy.eq_1
theorem AqQ:Av Tryz.prog 63 9 Afy Auj=true:=by kernel_rfl
def cI:IC:=oS [m1 29 1,bZ 30 .eql 29 0,m1 31 30,By 32 31 0,C8 33 31 .neq 32 4,pA 34 31 33,m1 28 34] [0,28] (cD 28 (oR [m1 35 0,m1 4 35,mC 5 (.b true)] [4,5]) .skip)
def tU:IC:=oS [m1 21 0,bZ 22 .eql 21 0,m1 23 22,By 24 23 1,C8 25 23 .neq 24 4,pA 26 23 25,m1 20 26] [0,1,20] (cD 20 (oR [m1 27 1,m1 4 27,mC 5 (.b true)] [4,5]) cI)
def AeL:IC:=cD 6 (oR [mZ 4 0,mC 5 (.b false)] [4,5]) (oS [m1 16 0,m1 17 1,bT 18 .eql 16 17,m1 15 18] [0,1,15] (cD 15 (oR [m1 19 0,m1 4 19,mC 5 (.b true)] [4,5]) tU))
def AdD:IC:=sQ (.block 0 (oS [m1 7 0,q1 8 63 7,nT 9 8,m1 10 9,Br 11 10 1,gF 12 10 (.call 63 [.t 11]),gF 13 10 (.not (.t 12)),pO 14 10 13,m1 6 14] [0,1,6] AeL)) (oR [mZ 4 0,mC 5 (.b false)] [4,5])
def Af1:IC:=oS [mZ 4 0,mC 5 (.b false)] [0,1] AdD
@[push_cast]def AtO:List R:=[.t 4,.t 5]
@[push_cast]def AxK:=Aq cI.eq_1<|Aq tU.eq_1<|Aq AeL.eq_1<|Aq AdD.eq_1<|AL Af1.eq_1
theorem ApD:Av Tryz.prog 50 36 Af1 AtO=true:=by kernel_rfl
end Go.Ir

namespace Go.Ir
open Go.Proofs
variable(W0:World)
def MZ(a:Aa×Int):V:=.agg [.s a.1,.i .i64 a.2]
theorem QA(t:Int):Al Tryz.prog W0 63 [.i .i64 t] [] (.b (Ip t)) []:=by
 generalize hS:Ip t=S;unfold Ip at hS;refine Ae (vs:=[.b S]) AqQ (by simp) (by simp) λn0 a=>?_;clear a;simp only[push_cast,reduceEqDiff]
 repeat' (first|(((first|apply Ab|apply Ag|apply Ah)<;>intro _h)<;>simp only[push_cast,reduceEqDiff,_h])|intro _)
 all_goals (subst hS;refine Af ?_;simp[get, *];done)
theorem AiT(a b:Int):Al Tryz.prog W0 50 [.i .i64 a,.i .i64 b] [] (.tup [.i .i64 (GO a b).1,.b (GO a b).2]) []:=by
 have d:=QA W0 a;have e:=QA W0 b;generalize hS:GO a b=S;unfold GO at hS;generalize Ip a=f at *;generalize Ip b=g at *;refine Ae (vs:=[.i .i64 S.1,.b S.2]) ApD (by simp) (by simp) λn0 c=>?_;clear c;simp only[push_cast,reduceEqDiff];have _h:=trivial;repeat' (first|(first|((first|apply Ab|apply Ag|apply Ah)<;>intro _h)|refine Ac d ?_|refine Ac e ?_)<;>simp only[push_cast,reduceEqDiff,_h]|intro _)
 all_goals (simp only[*] at hS)
 all_goals (subst hS;refine Ad ?_;simp[push_cast])

abbrev As5:=Aa×List Aw
def Asj(l:As5):V:=.agg [.s l.1,.sl (l.2.map Aw.enc)]

end Go.Ir

namespace Go.Ir
open Go.Proofs
variable{P:Program}{W0:World}{nt n:Nat}{Q:Exit→St→Prop}{env:A9}{σ:Aj}
end Go.Ir

namespace Go.Ir
open Go.Proofs
variable(W0:World)
end Go.Ir
section
namespace Go.Ir
abbrev ZZ:=List (List Aw)
mutual
def Aw.bld:Aw->ZZ->Aw×ZZ
 | ⟨k,t,n,s,cs,ps⟩,l=>if Dc k then(⟨k,t,n,s,(Xt cs l).1,ps⟩,(Xt cs l).2) else(⟨k,t,n,s,cs,l.headD []++(T5 ps l.tail).1⟩,(T5 ps l.tail).2)
def T5:List Aw->ZZ->List Aw×ZZ
 | [],l=>([],l)
 | p::ps,l=>((p.bld l).1::((p.bld l).2.headD []++(T5 ps (p.bld l).2.tail).1),(T5 ps (p.bld l).2.tail).2)
def Xt:List (Aa×List Aw)->ZZ->List (Aa×List Aw)×ZZ
 | [],l=>([],l)
 | (k,ps)::cs,l=>((k,l.headD []++(T5 ps l.tail).1)::(Xt cs (T5 ps l.tail).2).1,(Xt cs (T5 ps l.tail).2).2)
end
end Go.Ir
end
namespace Go.Ir
structure WfK (p:Aw):Prop where
 bare:Dc p.kind=true->p.text=[]/\p.style=[]
 nodup:Dc p.kind=true->(p.cases.map (·.1)).Nodup
theorem ofNat_toNat{n:Nat}(h:n<256):(UInt8.ofNat n).toNat=n:=by simp_all

end Go.Ir

namespace Go.Ir
open Go.Proofs
variable{P:Program}{W0:World}{nt n:Nat}{Q:Exit→St→Prop}{env:A9}{σ:Aj}
end Go.Ir

namespace Go.Ir
open Go.Proofs
variable(W0:World)
def bx(l:List As5):A5:=.box (.agg [.sl (l.map Asj)])
theorem X6{b:Id}{E e:A5}{i:Id}(h:lk [(b,E)] i=some e):i=b/\e=E:=by simp only[lk] at h;grind
def Dl(m:Dt):List (V×V):=m.map λe=>(.s e.1,.i .i64 e.2)
theorem I0(k:Aa)(m:Dt):∀n,(∃i v,AU m k=some v/\Bs .str (.s k) (Dl m) n=some (some (n+i,.i .i64 v))/\∀x:Int,(Dl m).modify i (λe=>(e.1,.i .i64 x))=Dl (Ep m k x))\/(AU m k=none/\Bs .str (.s k) (Dl m) n=some none/\∀x:Int,Dl m++[(.s k,.i .i64 x)]=Dl (Ep m k x)):=by
 induction m with
 | nil=>intro n;exact .inr ⟨rfl,rfl,λx=>rfl⟩
 | cons e m f=>
  intro n;have d:Bs .str (.s k) (Dl (e::m)) n=(match Ef .str (.s k) (.s e.1) with
   | some true=>some (some (n,.i .i64 e.2))
   | some false=>Bs .str (.s k) (Dl m) (n+1)
   | none=>none):=rfl
  have c:Ef .str (.s k) (.s e.1)=some (k==e.1):=rfl;rw[d,c];simp only[AU,Ep];by_cases h:e.1=k
  .subst h;refine .inl ⟨0,e.2,by simp,by simp,λx=>by simp[Dl]⟩
  .have b:(k==e.1)=false:=by simpa using AfT h
   have a:(e.1==k)=false:=by simpa using h
   rw[b,a];rcases f (n+1) with⟨i,v,h1,h2,h3⟩|⟨h1,h2,h3⟩
   .refine .inl ⟨i+1,v,by simpa using h1,?_,λx=>?_⟩
    .grind
    .have:=h3 x;show(Dl (e::m)).modify (i+1) _=_;simp only[Dl,AlG,List.modify_succ_cons,AcT,if_false] at this⊢;rw[this]
   .refine .inr ⟨by simpa using h1,by simpa using h2,λx=>?_⟩;have:=h3 x;simp only[Dl,AlG,Auh,AcT,if_false] at this⊢;rw[this]
theorem oZ(y:Int):Al Tryz.prog W0 310 [.i .i64 y] [] (.b (ID y)) []:=by
 generalize hS:ID y=S;unfold ID at hS;refine Ae (vs:=[.b S]) Akj (by simp) (by simp) λn0 e=>?_;clear e;simp only[push_cast,seval];cases d:(y.tmod 4==0)<;>cases a:(y.tmod 100==0)<;>cases c:(y.tmod 400==0)
 all_goals simp only[d,a,c,bne,Au9,AuR,Ax6,AyS,AxX,AuF] at hS
 all_goals subst hS
 all_goals simp only[push_cast,seval,a,c,bne]
 all_goals repeat' (first|(((first|apply Ab|apply Ag|apply Ah)<;>intro _h)<;>simp only[push_cast,seval,d,a,c,bne])|(refine Ar (by omega) ?_;simp only[push_cast,seval,d,a,c,bne])|intro _)
 all_goals exact Af (by simp[get])
theorem zK(y:Int):Al Tryz.prog W0 273 [.i .i64 y] [] (.i .i64 (Dy y)) []:=by
 have h:=oZ W0 y;generalize hS:Dy y=S;unfold Dy at hS;generalize ID y=B at *;refine Ae (vs:=[.i .i64 S]) AiB (by simp) (by simp) λn0 a=>?_;clear a;simp only[push_cast];cases B
 all_goals ((try simp only  at hS);subst hS)
 all_goals (try simp only )
 all_goals (repeat' (first|((first|refine Ac (by exact h) ?_|refine Ar (by omega) ?_);(try simp only[push_cast]))|intro _))
 all_goals (first|(refine Af ?_;simp ;done)|(refine Ad ?_;simp[push_cast];done)|skip)
theorem AlI(y:Int)(m:Nat)(f:1<=m)(a:m<=12):Al Tryz.prog W0 274 [.i .i64 y,.i .i64 m] [] (.i .i64 (Hy y m)) []:=by
 have h:=oZ W0 y;generalize hS:Hy y m=S;unfold Hy at hS;generalize ID y=B at *;have c:((m:Int)==2)=(m==2):=by grind
 have d:IntKind.i64.wrap ((m:Int)-1)=((m-1:Nat):Int):=by rw[wrap64 (by omega) (by omega)];omega
 have b:Fv (.aget 12 1 false) [.agg [.i .i64 31,.i .i64 28,.i .i64 31,.i .i64 30,.i .i64 31,.i .i64 30,.i .i64 31,.i .i64 31,.i .i64 30,.i .i64 31,.i .i64 30,.i .i64 31],.i .i64 ((m-1:Nat):Int)]=some (.i .i64 (AbK.getD (m-1) 0)):=by
  have:m=1\/m=2\/m=3\/m=4\/m=5\/m=6\/m=7\/m=8\/m=9\/m=10\/m=11\/m=12:=by omega
  rcases this with rfl|rfl|rfl|rfl|rfl|rfl|rfl|rfl|rfl|rfl|rfl|rfl<;>rfl
 refine Ae (vs:=[.i .i64 S]) AgI (by simp) (by simp) λn0 e=>?_;clear e;simp only[push_cast,seval,reduceEqDiff,c,d,b];cases a:(m==2)<;>cases B
 all_goals simp only[a,bq,if_true,if_false,Int.reduceBEq,reduceCtorEq,Ax6,AyS,Au4,AxA] at hS
 all_goals subst hS
 all_goals simp only[push_cast,seval,reduceEqDiff,c,d,b,a]
 all_goals repeat' (first|(((first|apply Ab|apply Ag|apply Ah)<;>intro _h)<;>simp only[push_cast,seval,reduceEqDiff,_h,c,d,b,a])|((first|refine Ac (by exact h) ?_|refine Ar (by omega) ?_);simp only[push_cast,seval,reduceEqDiff,c,d,b,a])|intro _)
 all_goals exact Af (by simp[get])
theorem ZV(d:Int)(c:DD d=true):Al Tryz.prog W0 217 [.i .i64 d] [] (.tup [.i .i64 (((d+25567).tmod 7).toNat:Nat),.i .i64 0]) []:=by
 unfold DD at c;simp only[Ar9,Aya] at c;obtain⟨a,b⟩:=c;have g:¬d < -25567:=of_decide_eq_false a;have h:¬d>84005:=of_decide_eq_false b;have f:IntKind.i64.wrap (d-(-25567))=d+25567:=by rw[wrap64 (by omega) (by omega)];omega
 have j:(((d+25567).tmod 7).toNat:Int)=(d+25567).tmod 7:=by grind
 rw[j];refine Ae (vs:=[.i .i64 ((d+25567).tmod 7),.i .i64 0]) AgP (by simp) (by simp) λn0 e=>?_;clear e;simp only[push_cast,seval,reduceEqDiff,a,b,f]
 repeat' (first|(((first|apply Ab|apply Ag|apply Ah)<;>intro _h)<;>simp only[push_cast,seval,reduceEqDiff,_h,a,b,f])|(refine Ar (by omega) ?_;simp only[push_cast,seval,reduceEqDiff,a,b,f])|intro _)
 all_goals (refine Ad ?_;simp[push_cast,get])
theorem rJ(c:UInt8):Al Tryz.prog W0 278 [.i .u8 c.toNat] [] (.b (DF c)) []:=by
 generalize hS:DF c=S;unfold DF at hS;refine Ae (vs:=[.b S]) AhF (by simp) (by simp) λn0 g=>?_;clear g;simp only[push_cast,reduceEqDiff];cases f:decide ((c.toNat:Int)>=65)<;>cases a:decide ((c.toNat:Int)<=90)<;>cases d:decide ((c.toNat:Int)>=97)<;>cases e:decide ((c.toNat:Int)<=122)
 all_goals simp only[f,a,d,e,Ax6,AyS,AxX,AuF] at hS
 all_goals subst hS
 all_goals simp only[push_cast,reduceEqDiff,a,d,e]
 all_goals repeat' (first|(((first|apply Ab|apply Ag|apply Ah)<;>intro _h)<;>simp only[push_cast,reduceEqDiff,f,a,d,e])|(refine Ar (by omega) ?_;simp only[push_cast,reduceEqDiff,f,a,d,e])|intro _)
 all_goals exact Af (by simp[get])
theorem GD(y:Int):365<=Dy y/\Dy y<=366:=by unfold Dy;split<;>omega
theorem Yb(y:Int)(m:Nat)(a:1<=m)(b:m<=12):28<=Hy y m/\Hy y m<=31:=by
 have:m=1\/m=2\/m=3\/m=4\/m=5\/m=6\/m=7\/m=8\/m=9\/m=10\/m=11\/m=12:=by omega
 unfold Hy AbK;rcases this with rfl|rfl|rfl|rfl|rfl|rfl|rfl|rfl|rfl|rfl|rfl|rfl<;>cases ID y<;>simp
theorem Yu:∀(n m:Nat) (y d:Int),d<=n->d<=m->FL n y d=FL m y d:=by
 intro n
 induction n with
 | zero=>
  intro m y d a b;have c:=GD y;cases m with
  | zero=>rfl
  | succ m=>rw[FL,FL,if_neg (by omega)]
 | succ n e=>
  intro m y d a b;have c:=GD y;cases m with
  | zero=>grind
  | succ m=>rw[FL,FL];grind
theorem AaQ:∀(n:Nat) (y d:Int),0<=d->d<=n->y<=(FL n y d).1/\(FL n y d).1<=y+d/\0<=(FL n y d).2/\(FL n y d).2<Dy (FL n y d).1:=by
 intro n
 induction n with
 | zero=>intro y d f g;have h:=GD y;rw[FL];grind
 | succ n i=>
  intro y d f g;have h:=GD y;rw[FL];split
  .obtain⟨a,b,c,e⟩:=i (y+1) (d-Dy y) (by omega) (by omega);omega
  .simp only;omega
def EU(y:Int):Nat->Nat->Int
 | 0,_=>0
 | n+1,m=>Hy y m+EU y n (m+1)
theorem Rz(y:Int):EU y 12 1=Dy y:=by unfold EU EU EU EU EU EU EU EU EU EU EU EU EU;unfold Dy Hy AbK;cases ID y<;>simp
theorem AbY(y:Int):∀(n m:Nat) (d:Int),n+m=13->1<=m->0<=d->d<EU y n m->m<=(Nf y n m d).1/\(Nf y n m d).1<=12/\0<=(Nf y n m d).2/\(Nf y n m d).2<31:=by
 intro n
 induction n with
 | zero=>intro m d c b e a;simp[EU] at a;omega
 | succ n g=>
  intro m d c b e a;have f:=Yb y m b (by omega);rw[EU] at a;rw[Nf];split
  .grind
  omega
theorem Pv{d:Int}(f:DD d=true):1900<=(G8 d).1/\(G8 d).1<=120000/\1<=(Fy d).1/\(Fy d).1<=12/\0<=(Fy d).2/\(Fy d).2<31:=by unfold DD at f;simp only[Ar9,Aya] at f;have j:¬d < -25567:=of_decide_eq_false f.1;have k:¬d>84005:=of_decide_eq_false f.2;obtain⟨a,b,c,e⟩:=AaQ (d+25567).toNat 1900 (d+25567) (by omega) (by omega);have l:G8 d=FL (d+25567).toNat 1900 (d+25567):=rfl;rw[<-l] at a b c e;obtain⟨a2,g,h,i⟩:=AbY (G8 d).1 12 1 (G8 d).2 rfl (by omega) c (by rw[Rz];exact e);exact⟨a,by omega,a2,g,h,i⟩
theorem WE(d:Int)(a:DD d=true):Al Tryz.prog W0 214 [.i .i64 d] [] (.tup [.i .i64 (G8 d).1,.i .i64 (Fy d).1,.i .i64 ((Fy d).2+1),.i .i64 0]) []:=by
 have u:=a;obtain⟨q1,q2,q3,K,L,N⟩:=Pv u;unfold DD at a;simp only[Ar9,Aya] at a;obtain⟨o,p⟩:=a;have E:¬d < -25567:=of_decide_eq_false o;have F:¬d>84005:=of_decide_eq_false p;have w:IntKind.i64.wrap (d-(-25567))=d+25567:=by rw[wrap64 (by omega) (by omega)];omega
 generalize r:G8 d=Y at *;generalize G:Fy d=M at *;have j:FL (d+25567).toNat 1900 (d+25567)=Y:=r;have f:Nf Y.1 12 1 Y.2=M:=by rw[<-G];unfold Fy;rw[r]
 refine Ae (vs:=[.i .i64 Y.1,.i .i64 M.1,.i .i64 (M.2+1),.i .i64 0]) lI (by simp) (by simp) λn0 v=>?_;clear v;simp only[push_cast,reduceEqDiff,o,p,w]
 repeat' (first|(((first|apply Ab|apply Ag|apply Ah)<;>intro _h)<;>simp only[push_cast,reduceEqDiff,o,p,w])|(refine Ar (by omega) ?_;simp only[push_cast,reduceEqDiff,o,p,w])|intro _)
 refine Am (d+25567).toNat (Inv:=λm st=>∃n y x,m=x.toNat/\0<=x/\x<=120000/\1900<=y/\y+x<=130000/\FL x.toNat y x=Y/\st=⟨[(2,.i .i64 y),(3,.i .i64 1),(4,.i .i64 x)],[],n⟩) ⟨_,Ak.refl,_,1900,d+25567,rfl,by omega,by omega,by omega,by omega,j,rfl⟩ ?_;rintro m _ ⟨n,y,x,rfl,A,B,O,S,a,rfl⟩;have t:=zK W0 y;have C:=GD y;by_cases c:x>=Dy y
 .have e:decide (x>=Dy y)=true:=by simpa using c
  have l:IntKind.i64.wrap (x-Dy y)=x-Dy y:=by rw[wrap64 (by omega) (by omega)]
  have z:IntKind.i64.wrap (y+1)=y+1:=by rw[wrap64 (by omega) (by omega)]
  simp only[push_cast,reduceEqDiff];have _h:=trivial;repeat' (first|(first|((first|apply Ab|apply Ag|apply Ah)<;>intro _h)|refine Ac t ?_|refine Ar (by omega) ?_)<;>simp only[push_cast,reduceEqDiff,l,z,e]|intro _)
  refine⟨_,_,?_,Ak.refl,_,y+1,x-Dy y,rfl,by omega,by omega,by omega,by omega,?_,rfl⟩
  .omega
  .rw[<-a];obtain⟨q,H⟩:∃q,x.toNat=q+1:=⟨x.toNat-1,by omega⟩
   rw[H,FL,if_pos c];exact Yu _ _ _ _ (by omega) (by omega)
 .have e:decide (x>=Dy y)=false:=by simpa using c
  have g:Y=(y,x):=by
   rw[<-a];cases x.toNat with
   | zero=>rfl
   | succ q=>rw[FL,if_neg c]
  rw[g] at f;simp only[push_cast,reduceEqDiff];have _h:=trivial;repeat' (first|(first|((first|apply Ab|apply Ag|apply Ah)<;>intro _h)|refine Ac t ?_|refine Ar (by omega) ?_)<;>simp only[push_cast,reduceEqDiff,e]|intro _)
  have b:x<EU y 12 1:=by rw[Rz];omega
  rename_i k;generalize n+1+k=J;refine Am 12 (Inv:=λk st=>∃n m x,k+m=13/\1<=m/\0<=x/\x<EU y k m/\x<=120000/\Nf y k m x=M/\st=⟨[(2,.i .i64 y),(3,.i .i64 (m:Nat)),(4,.i .i64 x)],[],n⟩) ⟨_,Ak.envD (env':=[(2,.i .i64 y),(3,.i .i64 (1:Nat)),(4,.i .i64 x)]) (λs=>?_) (AzR _),_,1,x,rfl,AzR _,A,b,B,f,rfl⟩ ?_
  .by_cases h:17=s
   .subst h;right;rfl
   .left;simp[get,h]
  rw[g];clear f b A B a e C t c g r j;rintro k _ ⟨n,m,x,I,m1,A,b,B,a,rfl⟩;cases k with
  | zero=>simp[EU] at b;omega
  | succ k=>
   have D:=AlI W0 y m m1 (by omega);have C:=Yb y m m1 (by omega);rw[EU] at b;rw[Nf] at a;by_cases c:x>=Hy y m
   .have e:decide (x>=Hy y m)=true:=by simpa using c
    have l:IntKind.i64.wrap (x-Hy y m)=x-Hy y m:=by rw[wrap64 (by omega) (by omega)]
    have z:IntKind.i64.wrap ((m:Int)+1)=((m+1:Nat):Int):=by rw[wrap64 (by omega) (by omega)];omega
    rw[if_pos c] at a;simp only[push_cast,reduceEqDiff];have _h:=trivial;repeat' (first|(first|((first|apply Ab|apply Ag|apply Ah)<;>intro _h)|refine Ac D ?_|refine Ar (by omega) ?_)<;>simp only[push_cast,reduceEqDiff,l,z,e]|intro _)
    exact⟨_,_,AzS _,Ak.refl,_,m+1,x-Hy y m,by omega,by omega,by omega,by omega,by omega,a,rfl⟩
   .have e:decide (x>=Hy y m)=false:=by simpa using c
    rw[if_neg c] at a;subst a;have l:IntKind.i64.wrap (x+1)=x+1:=by rw[wrap64 (by omega) (by omega)]
    simp only[push_cast,reduceEqDiff];have _h:=trivial;repeat' (first|(first|((first|apply Ab|apply Ag|apply Ah)<;>intro _h)|refine Ac D ?_|refine Ar (by omega) ?_)<;>simp only[push_cast,reduceEqDiff,l,e]|intro _)
    refine Ad ?_;simp[push_cast]
theorem F9(d:Bu W0)(n:Nat)(g:n<2^40):Al Tryz.prog W0 222 [.i .i64 n] [] (.s (Il n)) []/\(Il n).length<=21:=by
 obtain⟨c,f⟩:=Fg W0 d n (by omega);refine⟨?_,by unfold Il;split<;>(try simp only[AiL])<;>omega⟩;generalize hS:Il n=S;unfold Il at hS;generalize Lib.decDigits n=D at *;have e:decide ((n:Int)<10)=decide (n<10):=by rw[Ats];simp;omega
 refine Ae (vs:=[.s S]) Aje (by simp) (by simp) λn0 a=>?_;clear a;simp only[push_cast,reduceEqDiff,e];cases b:decide (n<10)
 .have:=of_decide_eq_false b;rw[if_neg this] at hS;subst hS;simp only[push_cast];have _h:=trivial;repeat' (first|(first|((first|apply Ab|apply Ag|apply Ah)<;>intro _h)|refine Ac c ?_|refine Ar (by simp only <;>omega) ?_)<;>simp only[push_cast]|intro _)
  exact Af (by simp[get])
 .have:=of_decide_eq_true b;rw[if_pos this] at hS;subst hS;simp only[push_cast];have _h:=trivial;repeat' (first|(first|((first|apply Ab|apply Ag|apply Ah)<;>intro _h)|refine Ac c ?_|refine Ar (by simp only[AJ]<;>omega) ?_)<;>simp only[push_cast]|intro _)
  exact Af (by simp[get])
theorem Sd(d:Int)(b:DD d=false):Al Tryz.prog W0 214 [.i .i64 d] [] (.tup [.i .i64 0,.i .i64 0,.i .i64 0,.i .i64 2]) []:=by
 unfold DD at b;simp only[AzM] at b;refine Ae (vs:=[.i .i64 0,.i .i64 0,.i .i64 0,.i .i64 2]) lI (by simp) (by simp) λn0 e=>?_;clear e;simp only[push_cast,reduceEqDiff];cases c:decide (d < -25567)<;>cases a:decide (d>84005)
 .rw[c,a] at b;cases b
 all_goals simp only[push_cast,reduceEqDiff,a]
 all_goals repeat' (first|(((first|apply Ab|apply Ag|apply Ah)<;>intro _h)<;>simp only[push_cast,reduceEqDiff,c,a])|(refine Ar (by omega) ?_;simp only[push_cast,reduceEqDiff,c,a])|intro _)
 all_goals (refine Ad ?_;simp[push_cast])
theorem Lx(e:Bu W0)(d:Int):Al Tryz.prog W0 160 [.i .i64 d] [] (.s (Do d)) []/\(Do d).length<=100:=by
 cases b:DD d with
 | false=>
  have c:=Sd W0 d b;have hS:Do d=[]:=by unfold Do;rw[b];rfl
  rw[hS];refine⟨?_,by simp⟩;refine Ae (vs:=[.s []]) tX (by simp) (by simp) λn0 a=>?_;clear a;simp only[push_cast];have _h:=trivial;repeat' (first|(first|((first|apply Ab|apply Ag|apply Ah)<;>intro _h)|refine Ac c ?_|refine Ar (by simp only <;>omega) ?_)<;>simp only[push_cast,seval]|intro _)
  exact Af (by simp[get])
 | true=>
  obtain⟨q1,q2,q3,q,r,t⟩:=Pv b;have c:=WE W0 d b;obtain⟨y,g⟩:∃y:Nat,(G8 d).1=y:=⟨(G8 d).1.toNat,by omega⟩;obtain⟨x,f⟩:∃x:Nat,(Fy d).2+1=x:=⟨((Fy d).2+1).toNat,by omega⟩;have hS:Do d=Lib.decDigits y++[45]++Il (Fy d).1++[45]++Il x:=by unfold Do;rw[b,g,f];simp
  rw[g,f] at c;obtain⟨l,l1⟩:=Fg W0 e y (by omega);obtain⟨m,o⟩:=F9 W0 e (Fy d).1 (by omega);obtain⟨c3,p⟩:=F9 W0 e x (by omega);rw[hS];generalize Lib.decDigits y=h at *;generalize Il (Fy d).1=j at *;generalize Il x=k at *;refine⟨?_,by simp;omega⟩;refine Ae (vs:=[.s (h++[45]++j++[45]++k)]) tX (by simp) (by simp) λn0 a=>?_;clear a;simp only[push_cast];have _h:=trivial;repeat' (first|(first|((first|apply Ab|apply Ag|apply Ah)<;>intro _h)|refine Ac c ?_|refine Ac l ?_|refine Ac m ?_|refine Ac c3 ?_|refine Ar (by simp only[AhT,AiL,Ank,AJ]<;>omega) ?_)<;>simp only[push_cast,seval]|intro _)
  exact Af (by simp[get])
def lY:List Aa:=[[],[121]]
def lM:List Aa:=[[],[77]]
def lE:List Aa:=[[],[69]]
def lD:List Aa:=[[],[100]]
theorem KG{l d:List Aa}(h:l=d++[])(a:l.length=2):decide ((d.length:Int)<2)=false:=by grind
theorem IE{l d r:List Aa}{y:Aa}(h:l=d++y::r)(b:l.length=2):decide ((d.length:Int)<2)=true/\(l.map V.s)[d.length]?=some (.s y)/\IntKind.i64.wrap ((d.length:Int)+1)=((d++[y]).length:Int)/\y∈l:=by have a:=AM h;refine⟨by simp;omega,by rw[h];simp,Ai y (by omega),by rw[h];simp⟩
set_option maxHeartbeats 1000000 in
theorem Apa(p:Aa)(hp:p.length<=2^20):Al Tryz.prog W0 216 [.s p] [] (.b (ZM p)) []:=by
 generalize hS:ZM p=S;have hS:lY.any (λy=>lM.any λm=>lE.any λe=>lD.any λd=>Dz (y++m++e++d) p)=S:=hS;have G:∀y∈lY,y.length<=1:=by decide
 have F:∀y∈lM,y.length<=1:=by decide
 have le:∀y∈lE,y.length<=1:=by decide
 have T:∀y∈lD,y.length<=1:=by decide
 refine Ae (vs:=[.b S]) Akm (by simp) (by simp) λn0 N=>?_;clear N;simp only[push_cast,seval,reduceEqDiff]
 repeat' (first|(((first|apply Ab|apply Ag|apply Ah)<;>intro _h)<;>simp only[push_cast,seval,reduceEqDiff,_h])|(refine Ar (by omega) ?_;simp only[push_cast,seval,reduceEqDiff])|intro _)
 refine Am 2 (Inv:=λk st=>∃t h n,lY=t++h/\k=h.length/\(h.any (λy=>lM.any λm=>lE.any λe=>lD.any λd=>Dz (y++m++e++d) p))=S/\st=⟨[(0,.s p),(11,.sl (lY.map V.s)),(12,.i .i64 2),(13,.i .i64 (t.length:Nat))],[],n⟩) ⟨_,Ak.refl,[],lY,_,rfl,rfl,hS,rfl⟩ ?_;clear hS;rintro _ _ ⟨t,h,U,u,rfl,c,rfl⟩;rcases h with _|⟨y,h⟩
 .have q1:=KG u rfl;simp only[List.any_nil,AxP] at c;subst c;simp only[push_cast,seval,reduceEqDiff,q1];intros;exact Af (by simp[get])
 obtain⟨H,I,J,j⟩:=IE u rfl;rw[Az3] at c;simp only[push_cast,seval,reduceEqDiff,H,I];intros;refine Am 2 (Inv:=λk st=>∃A o n,lM=A++o/\k=o.length/\(o.any (λm=>lE.any λe=>lD.any λd=>Dz (y++m++e++d) p)||h.any (λy=>lM.any λm=>lE.any λe=>lD.any λd=>Dz (y++m++e++d) p))=S/\st=⟨[(0,.s p),(4,.s y),(11,.sl (lY.map V.s)),(12,.i .i64 2),(13,.i .i64 (t.length:Nat)),(17,.sl (lM.map V.s)),(18,.i .i64 2),(19,.i .i64 (A.length:Nat))],[],n⟩) ⟨_,Ak.refl,[],lM,_,rfl,rfl,c,rfl⟩ ?_;clear c;rintro _ _ ⟨A,o,W,v,rfl,f,rfl⟩;rcases o with _|⟨m,o⟩
 .have q1:=KG v rfl;simp only[List.any_nil,AxP] at f;simp only[push_cast,seval,reduceEqDiff,q1,J];intros;exact⟨_,_,AzS _,Ak.refl,t++[y],h,_,by rw[u];simp,rfl,f,rfl⟩
 obtain⟨K,L,a23,a24⟩:=IE v rfl;rw[Az3] at f;simp only[push_cast,seval,reduceEqDiff,K,L];intros;refine Am 2 (Inv:=λk st=>∃D q n,lE=D++q/\k=q.length/\(q.any (λe=>lD.any λd=>Dz (y++m++e++d) p)||o.any (λm=>lE.any λe=>lD.any λd=>Dz (y++m++e++d) p)||h.any (λy=>lM.any λm=>lE.any λe=>lD.any λd=>Dz (y++m++e++d) p))=S/\st=⟨[(0,.s p),(4,.s y),(6,.s m),(11,.sl (lY.map V.s)),(12,.i .i64 2),(13,.i .i64 (t.length:Nat)),(17,.sl (lM.map V.s)),(18,.i .i64 2),(19,.i .i64 (A.length:Nat)),(23,.sl (lE.map V.s)),(24,.i .i64 2),(25,.i .i64 (D.length:Nat))],[],n⟩) ⟨_,Ak.refl,[],lE,_,rfl,rfl,f,rfl⟩ ?_;clear f;rintro _ _ ⟨D,q,X,w,rfl,g,rfl⟩;rcases q with _|⟨e,q⟩
 .have q1:=KG w rfl;simp only[List.any_nil,AxP] at g;simp only[push_cast,seval,reduceEqDiff,q1,a23];intros;exact⟨_,_,AzS _,Ak.refl,A++[m],o,_,by rw[v];simp,rfl,g,rfl⟩
 obtain⟨M,a32,a33,r⟩:=IE w rfl;rw[Az3] at g;simp only[push_cast,seval,reduceEqDiff,M,a32];intros;refine Am 2 (Inv:=λk st=>∃E z n,lD=E++z/\k=z.length/\(z.any (λd=>Dz (y++m++e++d) p)||q.any (λe=>lD.any λd=>Dz (y++m++e++d) p)||o.any (λm=>lE.any λe=>lD.any λd=>Dz (y++m++e++d) p)||h.any (λy=>lM.any λm=>lE.any λe=>lD.any λd=>Dz (y++m++e++d) p))=S/\st=⟨[(0,.s p),(4,.s y),(6,.s m),(8,.s e),(11,.sl (lY.map V.s)),(12,.i .i64 2),(13,.i .i64 (t.length:Nat)),(17,.sl (lM.map V.s)),(18,.i .i64 2),(19,.i .i64 (A.length:Nat)),(23,.sl (lE.map V.s)),(24,.i .i64 2),(25,.i .i64 (D.length:Nat)),(29,.sl (lD.map V.s)),(30,.i .i64 2),(31,.i .i64 (E.length:Nat))],[],n⟩) ⟨_,Ak.refl,[],lD,_,rfl,rfl,g,rfl⟩ ?_;clear g;rintro _ _ ⟨E,z,Y,x,rfl,a,rfl⟩;rcases z with _|⟨d,z⟩
 .have q1:=KG x rfl;simp only[List.any_nil,AxP] at a;simp only[push_cast,seval,reduceEqDiff,q1,a33];intros;exact⟨_,_,AzS _,Ak.refl,D++[e],q,_,by rw[w];simp,rfl,a,rfl⟩
 obtain⟨a41,l,C,a44⟩:=IE x rfl;rw[Az3] at a;have O:=AaH W0 (y++m++e++d) p (by have:=G y j;have:=F m a24;have:=le e r;have:=T d a44;simp;omega) hp;generalize Dz (y++m++e++d) p=B at *;have k1:(y.length+m.length<=AJ)=True:=eq_true (by have:=G y j;have:=F m a24;unfold AJ;omega);have k2:((y++m).length+e.length<=AJ)=True:=eq_true (by have:=G y j;have:=F m a24;have:=le e r;unfold AJ;simp;omega);have k3:((y++m++e).length+d.length<=AJ)=True:=eq_true (by have:=G y j;have:=F m a24;have:=le e r;have:=T d a44;unfold AJ;simp;omega);cases B
 .simp only[AxP] at a;simp only[push_cast,seval,reduceEqDiff,a41,l,k1,k2,k3];have _h:=trivial;repeat' (first|(first|((first|apply Ab|apply Ag|apply Ah)<;>intro _h)|refine Ac O ?_|refine Ar (by omega) ?_)<;>simp only[push_cast,seval,reduceEqDiff,_h,a41,l,C,k1,k2,k3]|intro _)
  exact⟨_,_,AzS _,Ak.refl,E++[d],z,_,by rw[x];simp,rfl,a,rfl⟩
 .simp only[Azi] at a;subst a;simp only[push_cast,seval,reduceEqDiff,a41,l,k1,k2,k3];have _h:=trivial;repeat' (first|(first|((first|apply Ab|apply Ag|apply Ah)<;>intro _h)|refine Ac O ?_|refine Ar (by omega) ?_)<;>simp only[push_cast,seval,reduceEqDiff,_h,a41,l,C,k1,k2,k3]|intro _)
  exact Af (by simp[get])
theorem cO(q:Bu W0)(x:Ll)(f:Aa)(e:x.y<2^40)(a:1<=x.m/\x.m<=12)(b:x.d<2^40)(c:x.wd<7) :
  Al Tryz.prog W0 279 [.agg [.s x.L.tag,.s x.L.parent,.s x.L.dir,.sl (x.L.card.map AF.enc),.sl (x.L.ord.map AF.enc),.s x.L.dec,.s x.L.grp,.s x.L.minus,.s x.L.perc,.i .i64 x.L.prim,.i .i64 x.L.sec,.sl (x.L.lists.map CJ.enc),.sl (x.L.units.map D6.enc),.sl (x.L.dates.map CO.enc),.sl (x.L.months.map V.s),.sl (x.L.days.map V.s),.i .i64 x.y,.i .i64 x.m,.i .i64 x.d,.i .i64 x.wd],.s f] [] (.tup [.s (F0 x f).1,.i .i64 (F0 x f).2]) []:=by
 obtain⟨u,l1⟩:=Fg W0 q x.y (by omega);obtain⟨v,F⟩:=Fg W0 q x.m (by omega);obtain⟨c3,G⟩:=Fg W0 q x.d (by omega);obtain⟨w,H⟩:=F9 W0 q x.m (by omega);obtain⟨z,I⟩:=F9 W0 q x.d (by omega);generalize hS:F0 x f=S;unfold F0 at hS;have k:IntKind.i64.wrap ((x.m:Int)-1)=((x.m-1:Nat):Int):=by rw[wrap64 (by omega) (by omega)];omega
 have o:x.L.months.length=12->(x.L.months.map V.s)[x.m-1]?=some (.s (x.L.months.getD (x.m-1) [])):=λh=>by grind
 have p:x.L.days.length=7->(x.L.days.map V.s)[x.wd]?=some (.s (x.L.days.getD x.wd [])):=λh=>by grind
 generalize Lib.decDigits x.y=A at *;generalize Lib.decDigits x.m=B at *;generalize Lib.decDigits x.d=C at *;generalize Il x.m=D at *;generalize Il x.d=E at *;refine Ae (vs:=[.s S.1,.i .i64 S.2]) Agm (by simp) (by simp) λn0 t=>?_;clear t;simp only[push_cast,reduceEqDiff];cases e:(f==([121]:Aa)) with
 | true=>
  simp only[e] at hS;subst hS;simp only[push_cast];have _h:=trivial;repeat' (first|(first|((first|apply Ab|apply Ag|apply Ah)<;>intro _h)|refine Ac u ?_|refine Ar (by omega) ?_)<;>simp only[push_cast,reduceEqDiff]|intro _)
  refine Ad ?_;simp[push_cast]
 | false=>
 cases a:(f==([77]:Aa)) with
 | true=>
  simp only[e,a] at hS;subst hS;simp only[push_cast,reduceEqDiff,a];have _h:=trivial;repeat' (first|(first|((first|apply Ab|apply Ag|apply Ah)<;>intro _h)|refine Ac v ?_|refine Ar (by omega) ?_)<;>simp only[push_cast,reduceEqDiff]|intro _)
  refine Ad ?_;simp[push_cast]
 | false=>
 cases b:(f==([77,77]:Aa)) with
 | true=>
  simp only[e,a,b] at hS;subst hS;simp only[push_cast,reduceEqDiff,a,b];have _h:=trivial;repeat' (first|(first|((first|apply Ab|apply Ag|apply Ah)<;>intro _h)|refine Ac w ?_|refine Ar (by omega) ?_)<;>simp only[push_cast,reduceEqDiff]|intro _)
  refine Ad ?_;simp[push_cast]
 | false=>
 cases c:(f==([77,77,77]:Aa)) with
 | true=>
  cases g:((x.L.months.length:Int)==12) with
  | true=>
   have l:x.L.months.length=12:=by grind
   have o:=o l;simp only[e,a,b,c,g,bne,Au9] at hS;subst hS;simp only[push_cast,reduceEqDiff,k,bne,a,b,c,g]
   repeat' (first|(((first|apply Ab|apply Ag|apply Ah)<;>intro _h)<;>simp only[push_cast,reduceEqDiff,k,bne,e,a,b,c,g,o])|(refine Ar (by omega) ?_;simp only[push_cast,reduceEqDiff,k,bne,e,a,b,c,g,o])|intro _)
   simp only[push_cast,reduceEqDiff,o];intros;refine Ad ?_;simp[push_cast]
  | false=>
   simp only[e,a,b,c,g,bne,AuR] at hS;subst hS;simp only[push_cast,reduceEqDiff,bne,a,b,c,g]
   repeat' (first|(((first|apply Ab|apply Ag|apply Ah)<;>intro _h)<;>simp only[push_cast,reduceEqDiff,k,bne,e,a,b,c,g])|(refine Ar (by omega) ?_;simp only[push_cast,reduceEqDiff,k,bne,e,a,b,c,g])|intro _)
   refine Ad ?_;simp[push_cast]
 | false=>
 cases j:(f==([69]:Aa)) with
 | true=>
  cases g:((x.L.days.length:Int)==7) with
  | true=>
   have l:x.L.days.length=7:=by grind
   have p:=p l;simp only[e,a,b,c,j,g,bne,Au9] at hS;subst hS;simp only[push_cast,reduceEqDiff,bne,a,b,c,j,g]
   repeat' (first|(((first|apply Ab|apply Ag|apply Ah)<;>intro _h)<;>simp only[push_cast,reduceEqDiff,k,bne,e,a,b,c,j,g,p])|(refine Ar (by omega) ?_;simp only[push_cast,reduceEqDiff,k,bne,e,a,b,c,j,g,p])|intro _)
   simp only[push_cast,reduceEqDiff,p];intros;refine Ad ?_;simp[push_cast]
  | false=>
   simp only[e,a,b,c,j,g,bne,AuR] at hS;subst hS;simp only[push_cast,reduceEqDiff,bne,a,b,c,j,g]
   repeat' (first|(((first|apply Ab|apply Ag|apply Ah)<;>intro _h)<;>simp only[push_cast,reduceEqDiff,k,bne,e,a,b,c,j,g])|(refine Ar (by omega) ?_;simp only[push_cast,reduceEqDiff,k,bne,e,a,b,c,j,g])|intro _)
   refine Ad ?_;simp[push_cast]
 | false=>
 cases r:(f==([100]:Aa)) with
 | true=>
  simp only[e,a,b,c,j,r] at hS;subst hS;simp only[push_cast,reduceEqDiff,a,b,c,j,r];have _h:=trivial;repeat' (first|(first|((first|apply Ab|apply Ag|apply Ah)<;>intro _h)|refine Ac c3 ?_|refine Ar (by omega) ?_)<;>simp only[push_cast,reduceEqDiff]|intro _)
  refine Ad ?_;simp[push_cast]
 | false=>
  simp only[e,a,b,c,j,r] at hS;subst hS;simp only[push_cast,reduceEqDiff,a,b,c,j,r];have _h:=trivial;repeat' (first|(first|((first|apply Ab|apply Ag|apply Ah)<;>intro _h)|refine Ac z ?_|refine Ar (by omega) ?_)<;>simp only[push_cast,reduceEqDiff]|intro _)
  refine Ad ?_;simp[push_cast]
theorem EK(σ σo:Aj):over σ σo σ=σo:=by have:=EF (σi:=σ) (σo:=σo) (pre:=[]) (λp hp=>by cases hp);simpa using this
theorem qD(σo σ:Aj):over [] σo σ=σo++σ:=by unfold over;congr 1;rw[AzF];intro p _;rfl
theorem I3{P:Program}{W0:World}{f:FuncId}{args:List V}{v:V}(h:Al P W0 f args [] v []):Ez P W0 f args [] (λn n' u σ'=>u=v/\σ'=[]) where
 callable:=h.callable
 run:=λn w μ H vals hp l=>(h.run n w μ H vals hp l).mono λe w' ⟨val,a,b,n',c,d,g,i,j,k⟩=>⟨val,a,b,n',v,[],c,⟨rfl,rfl⟩,d,g,i,j,k⟩
theorem UO(a:Aa)(e:a.length<=2^30)(h:Cf a=none):Al Tryz.prog W0 275 [.s a] [] (.tup [.nm,.b false]) []:=by
 have c:=Ms W0 a e;rw[h] at c;simp only[G1,P2,AxE,AcT] at c;refine Ae (vs:=[.nm,.b false]) dP (by simp) (by simp) λn0 d=>?_;clear d;simp only[push_cast];have _h:=trivial;repeat' (first|(first|((first|apply Ab|apply Ag|apply Ah)<;>intro _h)|refine Ac c ?_|refine Ar (by omega) ?_)<;>simp only[push_cast,seval]|intro _)
 refine Ad ?_;simp[push_cast]
def Aeq(m:Dt)(n n':Nat)(v:V)(σ':Aj):Prop:=∃mid:Id,n<=mid.1/\mid.1<n'/\v=.tup [.arr mid,.b true]/\σ'=[(mid,.map (Dl m))]
theorem kD(g:Aa)(l:List Aa)(y:g.length<=2^30)(h:Cf g=some l):Ez Tryz.prog W0 275 [.s g] [] (Aeq (EO l)):=by
 have j:=Ms W0 g y;rw[h] at j;simp only[G1,P2,Atq,if_true] at j;obtain⟨_,w,k⟩:=FT h;generalize hS:EO l=S;unfold EO at hS;generalize t:Aeq S=R;refine BN dP (by simp) λn0 o=>?_;clear o;simp only[push_cast,seval,reduceEqDiff];have _h:=trivial;repeat' (first|(first|((first|apply Ab|apply Ag|apply Ah)<;>intro _h)|refine Ac j ?_|refine Ar (by omega) ?_)<;>simp only[push_cast,seval,reduceEqDiff,_h]|intro _)
 rename_i k1 k2 k3 q r;generalize p:((n0+1+k1+1+k2+1+k3,16):Id)=mid;have x:n0<=mid.1:=by grind
 have e:mid.1<n0+1+k1+1+k2+1+k3+1+q+1+r:=by grind
 generalize n0+1+k1+1+k2+1+k3+1+q+1+r=A at *;refine Am l.length (Inv:=λm st=>∃dn rest n M,l=dn++rest/\m=rest.length/\rest.foldl (λm f=>Ep m (f.take 1) f.length) M=S/\mid.1<n/\st=⟨[(6,.arr mid),(17,.sl (l.map V.s)),(18,.i .i64 l.length),(19,.i .i64 dn.length)],[(mid,.map (Dl M))],n⟩) ⟨_,Ak.refl,[],l,_,[],rfl,rfl,hS,e,rfl⟩ ?_;clear hS e;rintro m _ ⟨dn,rest,n,M,a,rfl,d,z,rfl⟩;cases rest with
 | nil=>simp only[Ayd] at d;subst d;simp only[push_cast,seval,reduceEqDiff,a];intros;subst t;exact⟨_,Ak.refl,[.arr mid,.b true],_,⟨rfl,rfl,trivial⟩,λ_ _ h=>h,mid,by omega,by simp only;omega,rfl,rfl⟩
 | cons f rest=>
  have u:=AM a;have c:(1<=f.length)=True:=eq_true (k f (by rw[a];simp));rw[AvR] at d;rcases I0 (f.take 1) M 0 with⟨i,v,h1,h2,h3⟩|⟨h1,h2,h3⟩
  .simp only[Aw5] at h2;simp only[push_cast,seval,reduceEqDiff,a,Ai f (dn:=dn) (by omega),c,h2,h3]
   repeat' (first|(((first|apply Ab|apply Ag|apply Ah)<;>intro _h)<;>simp only[push_cast,seval,reduceEqDiff,_h,a,Ai f (dn:=dn) (by omega),c,h2,h3])|(refine Ar (by omega) ?_;simp only[push_cast,seval,reduceEqDiff,a,Ai f (dn:=dn) (by omega),c,h2,h3])|intro _)
   exact⟨_,_,AzS _,Ak.refl,dn++[f],rest,_,_,by simp,rfl,d,by omega,rfl⟩
  .skip;simp only[push_cast,seval,reduceEqDiff,a,Ai f (dn:=dn) (by omega),c,h2,h3]
   repeat' (first|(((first|apply Ab|apply Ag|apply Ah)<;>intro _h)<;>simp only[push_cast,seval,reduceEqDiff,_h,a,Ai f (dn:=dn) (by omega),c,h2,h3])|(refine Ar (by omega) ?_;simp only[push_cast,seval,reduceEqDiff,a,Ai f (dn:=dn) (by omega),c,h2,h3])|intro _)
   exact⟨_,_,AzS _,Ak.refl,dn++[f],rest,_,_,by simp,rfl,d,by omega,rfl⟩
def FW(f:Nat->Int):List Nat->Int
 | []=>0
 | i::l=>f i+FW f l
theorem MB(f:Nat->Int):∀(l:List Nat) (i:Nat),i∈l->FW f l=f i+FW f (l.erase i)
 | [],i,h=>by cases h
 | x::l,i,h=>by
  by_cases a:x=i
  .subst a;simp[FW]
  .have:i∈l:=by grind
   rw[List.erase_cons_tail (by simpa using a),FW,FW,MB f l i this];omega
theorem Ml(f:Nat->Int):∀(l:List Nat) (i:Nat),FW f (l++[i])=FW f l+f i
 | [],i=>by simp[FW]
 | x::l,i=>by rw[Auh,FW,FW,Ml f l i];omega
theorem Jm:∀(n:Nat) (l:List Nat),l.Nodup->(∀i∈l,i<n)->l.length<=n
 | 0,l,_,h=>by
  cases l with
  | nil=>simp
  | cons x l=>exact absurd (h x (by simp)) (by omega)
 | n+1,l,a,h=>by
  by_cases c:n∈l
  .have:=Jm n (l.erase n) (a.erase n) λi b=>by
    grind
   grind
  .have:=Jm n l a λi b=>by
    grind
   omega
theorem PU(f:Nat->Int):∀(n:Nat) (l:List Nat),l.Nodup->(∀i∈l,i<n)->(∀i,i<n->i∈l)->FW f l=FW f (List.range n)
 | 0,l,_,h,_=>by
  cases l with
  | nil=>rfl
  | cons x l=>exact absurd (h x (by simp)) (by omega)
 | n+1,l,c,h,b=>by
  rw[List.range_succ,Ml,MB f l n (b n (by omega))];have:=PU f n (l.erase n) (c.erase n) (λi a=>by
    have e:=h i (List.mem_of_mem_erase a);have g:i≠n:=λd=>by rw[d] at a;exact(List.Nodup.not_mem_erase c) a
    omega) (λi a=>(List.mem_erase_of_ne (by omega)).2 (b i (by omega)))
  omega
theorem To(g:(Aa×Int)->Int):∀(a:Dt),FW (λi=>match a[i]? with|some e=>g e|none=>0) (List.range a.length)=(a.map g).sum:=by
 have key:∀(a b:Dt),FW (λi=>match(b++a)[i]? with|some e=>g e|none=>0) ((List.range a.length).map (· + b.length))=(a.map g).sum:=by
  intro a
  induction a with
  | nil=>intro b;rfl
  | cons e a d=>
   intro b;rw[AiL,List.range_succ_eq_map,AlG,FW,AlG,List.sum_cons];have c:(b++e::a)[0+b.length]?=some e:=by simp
   rw[c];simp only[AyY];have:=d (b++[e]);simp only[Ay5,List.singleton_append,AhT,AiL,Ank] at this;rw[<-this];congr 2;apply Axz;grind
 intro a;simpa using key a []
def wtE(b:Dt)(e:Aa×Int):Int:=max (e.2-(AU b e.1).getD 0) ((AU b e.1).getD 0-e.2)
theorem AgO{b:Dt}(a:∀e∈b,0<=e.2/\e.2<=2^30){e:Aa×Int}(c:0<=e.2/\e.2<=2^30):0<=(AU b e.1).getD 0/\(AU b e.1).getD 0<=2^30:=by
 have:∀(b:Dt),(∀e∈b,0<=e.2/\e.2<=2^30)->0<=(AU b e.1).getD 0/\(AU b e.1).getD 0<=2^30:=by
  intro b
  induction b with
  | nil=>intro _;simp[AU]
  | cons x b d=>intro h;rw[AU];grind
 exact this b a
theorem mE(a b:Dt):(a.map λe=>max (e.2-(AU b e.1).getD 0) ((AU b e.1).getD 0-e.2)).sum=FW (λi=>match a[i]? with|some e=>wtE b e|none=>0) (List.range a.length):=(To (wtE b) a).symm
theorem Amc(a b:Dt)(c d:Id)(B:c≠d)(Z:∀e∈a,0<=e.2/\e.2<=2^30)(hb:∀e∈b,0<=e.2/\e.2<=2^30)(ac:a.length<=2^20) :
  Al Tryz.prog W0 276 [.arr c,.arr d] [(c,.map (Dl a)),(d,.map (Dl b))] (.tup [.i .i64 (Ky a b).1,.b (Ky a b).2]) [(c,.map (Dl a)),(d,.map (Dl b))]:=by
 have q:(Dl a).length=a.length:=by simp[Dl]
 have w:(Dl b).length=b.length:=by simp[Dl]
 have o:(c=d)=False:=eq_false B;have D:(d=c)=False:=eq_false (AfT B);generalize hS:Ky a b=S;unfold Ky at hS;rw[mE] at hS;refine Ae (vs:=[.i .i64 S.1,.b S.2]) Ahx (by simp) (λ_ h=>h) λn0 z=>?_;have h1:c.1<n0:=z c _ (by simp[lk];rfl);have h2:d.1<n0:=z d _ (by simp[lk,B];rfl);clear z;simp only[push_cast,reduceEqDiff];intros;rename_i k1 k2 k3;generalize X:((n0+1+k1+1+k2,12):Id)=mid;have H:mid≠c:=λr=>by grind
 have I:mid≠d:=λr=>by grind
 have k:(mid=c)=False:=eq_false H;have p:(mid=d)=False:=eq_false I;have E:(c=mid)=False:=eq_false (AfT H);have f6:(d=mid)=False:=eq_false (AfT I);refine Am a.length (Inv:=λm st=>∃seen n x,m+seen.length=a.length/\seen.Nodup/\(∀i∈seen,i<a.length)/\(∀i e,i∈seen->a[i]?=some e->(AU b e.1).isSome=true)/\x=FW (λi=>match a[i]? with|some e=>wtE b e|none=>0) seen/\0<=x/\x<=seen.length*2^30/\st=⟨[(0,.arr c),(1,.arr d),(6,.i .i64 x),(12,.arr mid)],[(mid,.mit c (Dl a).length seen (Dl a).length),(c,.map (Dl a)),(d,.map (Dl b))],n⟩) ⟨_,Ak.refl,[],_,0,rfl,List.nodup_nil,(by simp),(by simp),rfl,(by omega),(by simp),rfl⟩ ?_;rintro m _ ⟨seen,n,x,hm,A,C,O,T,x1,x2,rfl⟩;have ae:=Jm _ _ A C;simp only[push_cast];refine Xl (id:=mid) (mid:=c) (es:=Dl a) (seen:=seen) rfl (by simp[lk]) (by simp[lk,k]) (by simp) (by simp) (λi kv l ad=>?_) (λg=>?_)
 .obtain⟨e,r,rfl⟩:∃e,a[i]?=some e/\kv=(.s e.1,.i .i64 e.2):=by
   unfold Dl at l;grind
  have ab:i<a.length:=(Af8.1 r).1;have M:=Z e (AzT r);have f:(seen++[i]).getLast?=some i:=by simp
  have t:(seen++[i]).Nodup:=by rw[AzN];exact⟨A,by simp,λx T y hy=>by grind⟩
  have u:∀j∈seen++[i],j<a.length:=by
   intro j N;rcases Am2.1 N with h|h
   .exact C j h
   .simp at h;omega
  have J:=Jm _ _ t u;rw[AhT,AiL,Ank] at J;rcases I0 e.1 b 0 with⟨j,v,g1,g2,g3⟩|⟨g1,g2,g3⟩
  .have G:=AgO hb M;rw[g1] at G;simp only[Option.getD_some] at G;simp only[Aw5] at g2;have U:IntKind.i64.wrap (e.2-v)=e.2-v:=by rw[wrap64 (by omega) (by omega)]
   have V:IntKind.i64.wrap (v-e.2)=v-e.2:=by rw[wrap64 (by omega) (by omega)]
   have W:IntKind.i64.wrap (x+max (e.2-v) (v-e.2))=x+max (e.2-v) (v-e.2):=by have:(seen.length:Int)*2^30<=2^20*2^30:=Int.mul_le_mul_of_nonneg_right (by omega) (by omega);rw[wrap64 (by omega) (by omega)]
   have hw:wtE b e=max (e.2-v) (v-e.2):=by unfold wtE;rw[g1];rfl
   simp only[push_cast,reduceEqDiff,f,l,o,k,p,g2,U,V,W]
   repeat' (first|(((first|apply Ab|apply Ag|apply Ah)<;>intro _h)<;>simp only[push_cast,reduceEqDiff,f,l,o,D,k,p,E,f6,g2,U,V,W])|(refine Ar (by omega) ?_;simp only[push_cast,reduceEqDiff,f,l,o,D,k,p,E,f6,g2,U,V,W])|intro _)
   refine⟨a.length-(seen.length+1),_,by omega,Ak.refl,seen++[i],_,x+max (e.2-v) (v-e.2),by simp;omega,t,u,?_,?_,by omega,?_,rfl⟩
   .intro j Y N L;rcases Am2.1 N with h|h
    .exact O j Y h L
    .simp at h;grind
   .rw[Ml,<-T,r];simp only[hw]
   .simp only[AhT,AiL,Ank];omega
  .have g:(a.all λe=>(AU b e.1).isSome)=false:=by
    rw[List.all_eq_false];exact⟨e,AzT r,by rw[g1];simp⟩
   rw[g] at hS;simp only[AcT] at hS;subst hS;simp only[push_cast,reduceEqDiff,f,l,o,k,p,g2]
   repeat' (first|(((first|apply Ab|apply Ag|apply Ah)<;>intro _h)<;>simp only[push_cast,reduceEqDiff,f,l,o,D,k,p,E,f6,g2])|(refine Ar (by omega) ?_;simp only[push_cast,reduceEqDiff,f,l,o,D,k,p,E,f6,g2])|intro _)
   exact⟨_,Ak.refl,⟨rfl,rfl,trivial⟩,λi e h=>by
    simp only[lk] at h⊢;split at h
    .grind
    .rename_i h0;split at h
     .grind
     .cases h⟩
 .have K:x=FW (λi=>match a[i]? with|some e=>wtE b e|none=>0) (List.range a.length):=by
   rw[T];exact PU _ _ _ A C λi l=>g i (by rw[q];exact l)
  have F:(a.all λe=>(AU b e.1).isSome)=true:=by rw[Am3];intro e r;obtain⟨i,l⟩:=At5.1 r;grind
  rw[F,<-K] at hS;simp only  at hS;subst hS;simp only[push_cast,reduceEqDiff,o,k,p,q,w]
  repeat' (first|(((first|apply Ab|apply Ag|apply Ah)<;>intro _h)<;>simp only[push_cast,reduceEqDiff,o,D,k,p,E,f6,q,w])|(refine Ar (by omega) ?_;simp only[push_cast,reduceEqDiff,o,D,k,p,E,f6,q,w])|intro _)
  exact⟨_,Ak.refl,⟨rfl,rfl,trivial⟩,λi e h=>by simp only[lk] at h⊢;grind
⟩
theorem Yj{l:List Aa}(a:l.length<=4)(h:∀f∈l,f.length<=2^24):(∀e∈EO l,0<=e.2/\e.2<=2^30)/\(EO l).length<=4:=by
 have put:∀(m:Dt) (n:Aa) (k:Int),0<=k->k<=2^30->(∀e∈m,0<=e.2/\e.2<=2^30)->(∀e∈Ep m n k,0<=e.2/\e.2<=2^30)/\(Ep m n k).length<=m.length+1:=by
  intro m n k k1 k2
  induction m with
  | nil=>intro _;simp[Ep];omega
  | cons x m c=>intro h;have q:=h x (by simp);obtain⟨d,i2⟩:=c λe i=>h e (AzQ _ i);rw[Ep];grind
 have key:∀(l:List Aa) (m:Dt),(∀f∈l,f.length<=2^24)->(∀e∈m,0<=e.2/\e.2<=2^30)->(∀e∈l.foldl (λm f=>Ep m (f.take 1) f.length) m,0<=e.2/\e.2<=2^30)/\(l.foldl (λm f=>Ep m (f.take 1) f.length) m).length<=m.length+l.length:=by
  intro l
  induction l with
  | nil=>intro m _ b;exact⟨b,by simp⟩
  | cons f l c=>intro m a b;have p:=a f (by simp);obtain⟨o,r⟩:=put m (f.take 1) f.length (by omega) (by omega) b;obtain⟨d,i2⟩:=c _ (λg j=>a g (AzQ _ j)) o;exact⟨d,by simp only[AvR,AiL];omega⟩
 obtain⟨k1,k2⟩:=key l [] h (by simp);exact⟨k1,by unfold EO;simp at k2;omega⟩
theorem Mh{s:Aa}{l:List Aa}(h:Cf s=some l):∀f∈l,f.length<=s.length:=by
 have key:∀(a:List Aa) (r:Aa) (out w:List Aa),Cj a r out=some w->r.length<=s.length->(∀f∈out,f.length<=s.length)->∀f∈w,f.length<=s.length:=by
  intro a
  induction a with
  | nil=>intro r out w h d c;rw[Cj] at h;grind
  | cons k a e=>intro r out w h d c;have b:=EP r k;rw[Cj] at h;grind
 exact key CC s [] l h (AzR _) (by simp)
theorem Aj3(l:List CO)(r:Aa)(X:r.length<=2^24)(hl:l.length<=2^30)(hp:∀p∈l,p.skel.length<=2^20):Al Tryz.prog W0 215 [.sl (l.map CO.enc),.s r] [] (.tup [.i .i64 (Ee l r).1,.i .i64 (Ee l r).2]) []:=by
 generalize hS:Ee l r=S;unfold Ee at hS;cases z:Cf r with
 | none=>
  have I:=I3 (UO W0 r (by omega) z);rw[z] at hS;simp only at hS;subst hS;refine Ae (vs:=[.i .i64 0,.i .i64 3]) eG (by simp) (by simp) λn0 y=>?_;clear y;simp only[push_cast,reduceEqDiff];intros;refine Bd I (λ_ _ h=>h) (λN v σo x t=>?_);obtain⟨rfl,rfl⟩:=t;rw[EK];simp only[push_cast,reduceEqDiff]
  repeat' (first|(((first|apply Ab|apply Ag|apply Ah)<;>intro _h)<;>simp only[push_cast,reduceEqDiff])|(refine Ar (by omega) ?_;simp only[push_cast,reduceEqDiff])|intro _)
  refine Ad ?_;simp[push_cast]
 | some w=>
  have I:=kD W0 r w (by omega) z;rw[z] at hS;simp only at hS;obtain⟨w1,G,w3⟩:=FT z;obtain⟨m1,m2⟩:=Yj G (λf K=>Am5 (Mh z f K) X);generalize EO w=A at *;refine Ae (vs:=[.i .i64 S.1,.i .i64 S.2]) eG (by simp) (by simp) λn0 y=>?_;clear y;simp only[push_cast,reduceEqDiff];intros;refine Bd I (λ_ _ h=>h) (λN v σo x t=>?_);obtain⟨mid,i1,i2,rfl,rfl⟩:=t;rw[EK];simp only[push_cast,reduceEqDiff]
  repeat' (first|(((first|apply Ab|apply Ag|apply Ah)<;>intro _h)<;>simp only[push_cast,reduceEqDiff])|(refine Ar (by omega) ?_;simp only[push_cast,reduceEqDiff])|intro _)
  rename_i k1 k2 k3 T;have E:mid.1<N+1+k1+1+k2+1+k3+1+T:=by omega
  generalize N+1+k1+1+k2+1+k3+1+T=n1 at *;obtain⟨B,hB⟩:∃B,B=CS A l 0 (-1) 0:=⟨_,rfl⟩
  rw[<-hB] at hS;refine Am l.length (Inv:=λm st=>∃dn rest n b a,l=dn++rest/\m=rest.length/\CS A rest dn.length b a=B/\mid.1<n/\st=⟨[(6,.arr mid),(8,.i .i64 b),(9,.i .i64 a),(23,.sl (l.map CO.enc)),(24,.i .i64 l.length),(25,.i .i64 dn.length)],[(mid,.map (Dl A))],n⟩) ⟨_,Ak.refl,[],l,_,-1,0,rfl,rfl,hB.symm,E,rfl⟩ ?_;clear hB E;rintro m _ ⟨dn,rest,n,b,a,o,rfl,d,W,rfl⟩;cases rest with
  | nil=>
   rw[CS] at d;subst d;cases q:decide (b<0)
   .rw[if_neg (of_decide_eq_false q)] at hS;subst hS;simp only[push_cast,reduceEqDiff,o,q]
    repeat' (first|(((first|apply Ab|apply Ag|apply Ah)<;>intro _h)<;>simp only[push_cast,reduceEqDiff,q])|(refine Ar (by omega) ?_;simp only[push_cast,reduceEqDiff,q])|intro _)
    refine Ad ?_;simp[push_cast]
   .rw[if_pos (of_decide_eq_true q)] at hS;subst hS;simp only[push_cast,reduceEqDiff,o,q]
    repeat' (first|(((first|apply Ab|apply Ag|apply Ah)<;>intro _h)<;>simp only[push_cast,reduceEqDiff,q])|(refine Ar (by omega) ?_;simp only[push_cast,reduceEqDiff,q])|intro _)
    refine Ad ?_;simp[push_cast]
  | cons p rest=>
   have V:=AM o;have L:=hp p (by rw[o];simp);rw[CS] at d;have M:(dn.length:Int)+1=((dn++[p]).length:Int):=by simp
   rw[M] at d;have F:∀k j:Nat,(((n+1+k,j):Id)=mid)=False:=λk j=>eq_false λO=>by grind
   simp only[push_cast,reduceEqDiff,o];intros;cases c:Cf p.skel with
   | none=>
    rw[c] at d;simp only at d;refine Bd (I3 (UO W0 p.skel (by omega) c)) (λ_ _ h=>by simp[lk] at h) (λY v σo x t=>?_);obtain⟨rfl,rfl⟩:=t;rw[qD,AwM];simp only[push_cast,reduceEqDiff,Ai p (dn:=dn) (by omega)]
    repeat' (first|(((first|apply Ab|apply Ag|apply Ah)<;>intro _h)<;>simp only[push_cast,reduceEqDiff,o,Ai p (dn:=dn) (by omega),F])|(refine Ar (by omega) ?_;simp only[push_cast,reduceEqDiff,o,Ai p (dn:=dn) (by omega),F])|intro _)
    exact⟨_,_,AzS _,Ak.drop1 (by simp only[lk];grind) (AzR _),dn++[p],rest,_,b,a,by simp,rfl,d,by omega,rfl⟩
   | some G=>
    rw[c] at d;simp only at d;refine Bd (kD W0 p.skel G (by omega) c) (λ_ _ h=>by simp[lk] at h) (λY v σo x t=>?_);obtain⟨g,j1,j2,rfl,rfl⟩:=t;rw[qD,List.singleton_append];obtain⟨Z,a2,a3⟩:=FT c;obtain⟨U,b2⟩:=Yj a2 (λf K=>Am5 (Mh c f K) (Am5 L (by omega)));generalize EO G=H at *;have C:mid≠g:=λO=>by rw[O] at W;omega
    have J:=Amc W0 A H mid g C m1 U (by omega);have g2:(g=mid)=False:=eq_false (AfT C);generalize hD:Ky A H=D at *;simp only[push_cast,reduceEqDiff];intros;refine V6 J (λi e h=>?_) ?_
    .simp only[lk] at h⊢;split at h
     .grind
     grind
    have u:∀(k:Nat) i e,lk [(mid,A5.map (Dl A))] i=some e->lk [(g,A5.map (Dl H)),((n+1+k,11),A5.box (.agg [.s p.skel,.s p.pat])),(mid,A5.map (Dl A))] i=some e:=by
     intro k i e h;simp only[lk] at h⊢;split at h
     .grind
     .cases h
    cases q1:D.2<;>cases q2:decide (b<0)<;>cases q3:decide (D.1<a)
    all_goals simp only[q1,q2,q3,Au4,AxA,AxX,AuF,AcT] at d
    all_goals simp only[push_cast,reduceEqDiff,Ai p (dn:=dn) (by omega),q2,q3]
    all_goals repeat' (first|(((first|apply Ab|apply Ag|apply Ah)<;>intro _h)<;>simp only[push_cast,reduceEqDiff,o,Ai p (dn:=dn) (by omega),F,q1,q2,q3])|(refine Ar (by omega) ?_;simp only[push_cast,reduceEqDiff,o,Ai p (dn:=dn) (by omega),F,q1,q2,q3])|intro _)
    all_goals exact⟨_,_,AzS _,Ak.drop (u _) (AzR _),dn++[p],rest,_,_,_,by simp,rfl,d,by omega,rfl⟩
def TB:Nat:=98
def bS(u:Bool)(x b:Id)(l:Aa):Aj:=[(x,.tbox TB (.agg [wA u x,.arr b])),(b,.arr 5 1 (Ay l))]
def BW(x:Id)(l:Aa)(r:V)(n n':Nat)(v:V)(σ':Aj):Prop:=v=r/\∃a:Id,n<=a.1/\a.1<n'/\σ'=bS true x a l
theorem U4{u:Bool}{x b:Id}{l:Aa}:lk (bS u x b l) x=some (.tbox TB (.agg [wA u x,.arr b])):=by simp[bS,lk]
theorem PO(u:Bool)(x b:Id):Al Tryz.prog W0 180 [.ref x 0] [(x,.tbox TB (.agg [wA u x,.arr b]))] (.tup []) [(x,.tbox TB (.agg [.ref x 0,.arr b]))]:=by
 cases u with
 | true=>exact Abo W0
 | false=>exact Aal W0 (by kernel_rfl)
theorem Lo(u:Bool)(x b:Id)(l t:Aa)(c:b≠x)(h:l.length+t.length<=2^30):Ez Tryz.prog W0 124 [.ref x 0,.s t] (bS u x b l) (BW x (l++t) (.tup [.i .i64 t.length,.ni])):=by
 generalize v:BW x (l++t) (.tup [.i .i64 t.length,.ni])=R;refine BN qP (by simp) λn0 a=>?_;have y:x.1<n0:=a x _ U4;have w:b.1<n0:=a b _ (by simp[bS,lk,AfT c];rfl);clear a;have d:=PO W0 u x b;have g:(x=b)=False:=eq_false (AfT c);have m:(b=x)=False:=eq_false c;simp only[push_cast,seval,reduceEqDiff,g,m,bS];intro k1;refine Bw d (λi e h=>AB (τ:=[(b,A5.arr 5 1 (Ay l))]) h) ?_;rw[I7 (λp hp=>by grind)];clear d;have o:∀k j:Nat,((n0+1+k1+1+k,j)=x)=False:=λk j=>eq_false λf=>by grind
 have q:∀k j:Nat,((n0+1+k,j)=b)=False:=λk j=>eq_false λf=>(by grind)
 have r:∀k j:Nat,(b=(n0+1+k,j))=False:=λk j=>eq_false λf=>of_eq_false (q k j) f.symm;simp only[push_cast,seval,reduceEqDiff,g,m,o,Bx];intro k2;refine Ar (by unfold AI;omega) ?_;simp only[push_cast,seval,reduceEqDiff,g,m,o,Bx];intro k3 z;subst v;rw[EM];exact⟨_,Ak.refl,[.i .i64 t.length,.ni],bS true x (n0+1+k1+1+k2,14) (l++t),⟨rfl,rfl,trivial⟩,Lb (AfT (λf=>of_eq_false (o _ _) f)),rfl,_,by simp only;omega,by simp only;omega,rfl⟩
theorem Ahw(u:Bool)(x b:Id)(l:Aa)(c:UInt8)(d:b≠x)(h:l.length+1<=2^30):Ez Tryz.prog W0 187 [.ref x 0,.i .u8 c.toNat] (bS u x b l) (BW x (l++[c]) .ni):=by
 generalize t:BW x (l++[c]) .ni=R;refine BN Ai0 (by simp) λn0 a=>?_;have z:x.1<n0:=a x _ U4;have y:b.1<n0:=a b _ (by simp[bS,lk,AfT d];rfl);clear a;have f:=PO W0 u x b;have o:(x=b)=False:=eq_false (AfT d);have w:(b=x)=False:=eq_false d;simp only[push_cast,bS];intro k1;refine Bw f (λi e h=>AB (τ:=[(b,A5.arr 5 1 (Ay l))]) h) ?_;rw[I7 (λp hp=>by grind)];clear f;have m:∀k j:Nat,((n0+1+k1+1+k,j)=x)=False:=λk j=>eq_false λg=>by grind
 have q:∀k j:Nat,((n0+1+k,j)=b)=False:=λk j=>eq_false λg=>(by grind)
 have r:∀k j:Nat,(b=(n0+1+k,j))=False:=λk j=>eq_false λg=>of_eq_false (q k j) g.symm;have s:(l.length+1<=AI)=True:=eq_true (by unfold AI;omega);simp only[push_cast,seval,o,m,Bx,s];intro k2 k3 A;subst t;have v:Ay l++[.i .u8 c.toNat]=Ay (l++[c]):=by rw[<-EM];rfl
 rw[v];exact⟨_,Ak.refl,[.ni],bS true x (n0+1+k1+1+k2,14) (l++[c]),⟨rfl,trivial⟩,Lb (AfT (λg=>of_eq_false (m _ _) g)),rfl,_,by simp only;omega,by simp only;omega,rfl⟩
def yY(a b:Int):Int:=IntKind.u8.wrap (BitVec.ofInt 8 a ||| BitVec.ofInt 8 b).toNat
def anU(a b:Int):Int:=IntKind.u8.wrap (BitVec.ofInt 8 a &&& BitVec.ofInt 8 b).toNat
def srI(a:Int)(k:Nat):Int:=a.fdiv (2 ^ k)
def u8B(n:Int):UInt8:=UInt8.ofNat n.toNat
theorem AoR(a b:Int):Fv (.bit .or) [.i .u8 a,.i .u8 b]=some (.i .u8 (yY a b)):=rfl
theorem AgC(a b:Int):Fv (.bit .and) [.i .u8 a,.i .u8 b]=some (.i .u8 (anU a b)):=rfl
theorem T8(a b:Int)(h:0<=b):Fv (.shf .shr) [.i .i32 a,.i .u64 b]=some (.i .i32 (srI a (min b.toNat 32))):=by simp only[Fv,if_pos h];rfl
theorem Vd(n:Int):IntKind.u8.wrap n=n % 256:=by simp only[IntKind.wrap,IntKind.bits,IntKind.signed];simp
theorem AiV(a b:Int):0<=yY a b/\yY a b<256:=by unfold yY;rw[Vd];omega
theorem Arv{n:Int}(h:0<=n/\n<256):V.i .u8 n=.i .u8 ((u8B n).toNat:Int):=by unfold u8B;congr 1;rw[UInt8.toNat_ofNat'];omega
def u8(r:Int):Int:=IntKind.u8.wrap r
def cA(r:Int)(k:Nat):Int:=yY 128 (anU (u8 (srI r k)) 63)
def oE(r:Int):Int:=yY 128 (anU (u8 r) 63)
def IB(r:Int):List Int:=
 if decide (IntKind.u32.wrap r<=127) then[u8 r]
 else if decide (IntKind.u32.wrap r<=2047) then[yY 192 (u8 (srI r 6)),oE r]
 else if decide (IntKind.u32.wrap r<55296)||decide (57343<IntKind.u32.wrap r)&&decide (IntKind.u32.wrap r<=65535) then[yY 224 (u8 (srI r 12)),cA r 6,oE r]
 else if decide (IntKind.u32.wrap r>65535)&&decide (IntKind.u32.wrap r<=1114111) then[yY 240 (u8 (srI r 18)),cA r 12,cA r 6,oE r]
 else[239,191,189]
def Cd(r:Int):Aa:=(IB r).map u8B
theorem sR(r:Int):∀n∈IB r,0<=n/\n<256:=by
 have b:=AiV;unfold IB;split
 .intro n a;simp at a;subst a;unfold u8;rw[Vd];omega
 .split
  .intro n a;simp at a;rcases a with rfl|rfl<;>exact b _ _
  .split
   .intro n a;simp at a;rcases a with rfl|rfl|rfl<;>exact b _ _
   .split
    .intro n a;simp at a;rcases a with rfl|rfl|rfl|rfl<;>exact b _ _
    grind
theorem JZ(r:Int):1<=(Cd r).length/\(Cd r).length<=4:=by unfold Cd IB;grind
theorem Aeh(r:Int):(IB r).map (V.i .u8)=Ay (Cd r):=by unfold Cd Ay;rw[AyY];exact Axz λn a=>Arv (sR r n a)
def U5(l:Aa)(n n':Nat)(v:V)(σ':Aj):Prop:=∃a:Id,n<=a.1/\a.1<n'/\v=.arr a/\σ'=[(a,.arr 5 1 (Ay l))]
theorem iW(b:Id)(l:Aa)(r:Int)(u:l.length<=2^30)(s:decide (IntKind.u32.wrap r<=127)=false):Ez Tryz.prog W0 318 [.arr b,.i .i32 r] [(b,.arr 5 1 (Ay l))] (U5 (l++Cd r)):=by
 have t:Ay (l++Cd r)=Ay l++(IB r).map (V.i .u8):=by rw[Aeh,<-EM]
 generalize e:U5 (l++Cd r)=R;unfold U5 at e;rw[t] at e;generalize hS:IB r=S at e;unfold IB at hS;rw[s] at hS;have q1:=λa b=>AoR a b;have q2:=λa b=>AgC a b;have q:=T8 r 6 (by omega);have c:=T8 r 12 (by omega);have d:=T8 r 18 (by omega);have k:(l.length+2<=AI)=True:=eq_true (by unfold AI;omega);have m:(l.length+3<=AI)=True:=eq_true (by unfold AI;omega);have o:(l.length+4<=AI)=True:=eq_true (by unfold AI;omega);refine BN Agz (by simp) λn0 p=>?_;clear p;cases k1:decide (IntKind.u32.wrap r<=2047)<;>cases k2:decide (IntKind.u32.wrap r<55296)<;>cases k3:decide (57343<IntKind.u32.wrap r)<;>cases f:decide (IntKind.u32.wrap r<=65535)<;>cases g:decide (IntKind.u32.wrap r>65535)<;>cases j:decide (IntKind.u32.wrap r<=1114111)
 all_goals simp only[k1,k2,k3,f,g,j,Au4,AxA,AxX,AuF,AcT] at hS
 all_goals subst hS
 all_goals simp only[push_cast,seval,q1,q2,q,c,d,k,m,o,Bx,k1,k2,k3,f,g,j]
 all_goals repeat' (first|(((first|apply Ab|apply Ag|apply Ah)<;>intro _h)<;>simp only[push_cast,seval,q1,q2,q,c,d,k,m,o,Bx,k1,k2,k3,f,g,j])|(refine Ar (by omega) ?_;simp only[push_cast,seval,q1,q2,q,c,d,k,m,o,Bx,k1,k2,k3,f,g,j])|intro _)
 all_goals (first|(intros;subst e;exact⟨_,Ak.refl,[.arr _],[_],⟨rfl,trivial⟩,λ_ _ h=>h,_,by simp only;omega,by simp only;omega,rfl,rfl⟩)|skip)
theorem Zp(b:Id)(l:Aa)(r:Int)(t:l.length<=2^30):Ez Tryz.prog W0 287 [.arr b,.i .i32 r] [(b,.arr 5 1 (Ay l))] (U5 (l++Cd r)):=by
 cases a:decide (IntKind.u32.wrap r<=127) with
 | true=>
  have x:Ay (l++Cd r)=Ay l++[.i .u8 (IntKind.u8.wrap r)]:=by rw[<-EM,<-Aeh];unfold IB;rw[a];rfl
  generalize d:U5 (l++Cd r)=R;unfold U5 at d;rw[x] at d;have g:(l.length+1<=AI)=True:=eq_true (by unfold AI;omega);refine BN oQ (by simp) λn0 f=>?_;clear f;simp only[push_cast,reduceEqDiff,g,Bx,a]
  repeat' (first|(((first|apply Ab|apply Ag|apply Ah)<;>intro _h)<;>simp only[push_cast,reduceEqDiff,g,Bx,a])|(refine Ar (by omega) ?_;simp only[push_cast,reduceEqDiff,g,Bx,a])|intro _)
  subst d;exact⟨_,Ak.refl,[.arr _],[_],⟨rfl,trivial⟩,λ_ _ h=>h,_,by simp only;omega,by simp only;omega,rfl,rfl⟩
 | false=>
  have q:=iW W0 b l r t a;generalize d:U5 (l++Cd r)=R;rw[d] at q;have j:∀n n' v σ',R n n' v σ'->∀m o,m<=n->n'<=o->R m o v σ':=by rw[<-d];rintro n n' v σ' ⟨c,y,i2,h⟩ m o z w;exact⟨c,by omega,by omega,h⟩
  have k:∀n n' v σ',R n n' v σ'->∃c,v=.arr c/\∃e,σ'=[(c,e)]:=by rw[<-d];rintro n n' v σ' ⟨c,y,i2,a,s⟩;exact⟨c,a,_,s⟩
  refine BN oQ (by simp) λn0 f=>?_;clear f;simp only[push_cast,reduceEqDiff,a]
  repeat' (first|(((first|apply Ab|apply Ag|apply Ah)<;>intro _h)<;>simp only[push_cast,reduceEqDiff,a])|(refine Ar (by omega) ?_;simp only[push_cast,reduceEqDiff,a])|intro _)
  refine Bd q (λ_ _ h=>h) (λA v σo u p=>?_);rw[EK];obtain⟨c,rfl,e,rfl⟩:=k _ _ _ _ p;simp only[push_cast]
  repeat' (first|(((first|apply Ab|apply Ag|apply Ah)<;>intro _h)<;>simp only[push_cast,reduceEqDiff,a])|(refine Ar (by omega) ?_;simp only[push_cast,reduceEqDiff,a])|intro _)
  exact⟨_,Ak.refl,[.arr c],[(c,e)],⟨rfl,trivial⟩,λ_ _ h=>h,j _ _ _ _ p _ _ (by omega) (by simp only;omega)⟩
theorem AlW(u:Bool)(x b:Id)(l:Aa)(r:Int)(d:b≠x)(h:l.length<=2^29):Ez Tryz.prog W0 238 [.ref x 0,.i .i32 r] (bS u x b l) (BW x (l++Cd r) (.tup [.i .i64 ((Cd r).length:Nat),.ni])):=by
 have B:=JZ r;generalize z:BW x (l++Cd r) (.tup [.i .i64 ((Cd r).length:Nat),.ni])=R;refine BN AjD (by simp) λn0 c=>?_;have F:x.1<n0:=c x _ U4;have D:b.1<n0:=c b _ (by simp[bS,lk,AfT d];rfl);clear c;have f:=PO W0 u x b;have j:(x=b)=False:=eq_false (AfT d);have o:(b=x)=False:=eq_false d;simp only[push_cast,seval,reduceEqDiff,j,o,bS,Bx];intro k1;refine Bw f (λi e h=>AB (τ:=[(b,A5.arr 5 1 (Ay l))]) h) ?_;rw[I7 (λp hp=>by grind)];clear f;simp only[push_cast,seval,reduceEqDiff,j,o,bS,Bx];intros;refine Bd (Zp W0 b l r (by omega)) (λi e h=>by
  simp only[lk] at h⊢;split at h
  .rename_i w;subst w;simp only[j,if_false,if_true];exact h
  .cases h) (λG v σo A y=>?_)
 obtain⟨a,s,i2,rfl,rfl⟩:=y;have k:over [(b,A5.arr 5 1 (Ay l))] [(a,A5.arr 5 1 (Ay (l++Cd r)))] [(x,A5.tbox TB (.agg [.ref x 0,.arr b])),(b,A5.arr 5 1 (Ay l))]=[(a,A5.arr 5 1 (Ay (l++Cd r))),(x,A5.tbox TB (.agg [.ref x 0,.arr b]))]:=by have:=EF (σi:=[(b,A5.arr 5 1 (Ay l))]) (σo:=[(a,A5.arr 5 1 (Ay (l++Cd r)))]) (pre:=[(x,A5.tbox TB (.agg [.ref x 0,.arr b]))]) (λp hp q E=>by grind);simpa using this
 rw[k];have t:(a=x)=False:=eq_false λg=>by rw[g] at s;omega
 have m:(x=a)=False:=eq_false λg=>by rw[<-g] at s;omega
 have C:IntKind.i64.wrap (((l++Cd r).length:Nat)-(l.length:Int))=((Cd r).length:Nat):=by rw[AhT,wrap64 (by omega) (by omega)];omega
 simp only[push_cast,seval,reduceEqDiff,t,m,Bx,C];intros;subst z;exact⟨_,Ak.refl,[.i .i64 ((Cd r).length:Nat),.ni],bS true x a (l++Cd r),⟨rfl,rfl,trivial⟩,Lb (λg=>of_eq_false m g),rfl,a,by omega,by simp only;omega,rfl⟩
theorem Ak.bld{W0:World}{nt n:Nat}{env:A9}{τ:Aj}{x:Id}(f:x.1<n):Ak W0 nt ⟨env,(x,.tbox TB (.agg [.np,.nil]))::τ,n⟩ ⟨env,bS false x (n,0) []++τ,n+1⟩:=by
 have a:((n,0):Id)≠x:=λd=>by grind
 refine(Ak.ownTbox (A:=[.np]) (B:=[]) 5 1 0).trans (Ak.drop (λi e h=>?_) (AzR _));simp only[bS,Auh,AwM,lk] at h⊢;by_cases b:x=i
 .subst b;rw[if_pos rfl] at h;rw[if_neg a,if_pos rfl];exact h
 .rw[if_neg b] at h;by_cases c:((n,0):Id)=i
  .rw[if_pos c] at h⊢;exact h
  grind
theorem Td(u:Bool)(x b:Id)(l:Aa)(a:b≠x)(c:l.length<=2^30):Al Tryz.prog W0 45 [.ref x 0] (bS u x b l) (.s l) [(x,.tbox TB (.agg [wA u x,.arr b]))]:=
 ZA W0 (T:=TB) (r:=[]) a (by unfold AJ;omega)
theorem Pk{u d:Bool}{x b a:Id}{l c:Aa}{τ:Aj}(f:∀p∈τ,p.1≠x/\p.1≠b):over (bS u x b l) (bS d x a c) (bS u x b l++τ)=bS d x a c++τ:=by
 have:=IL (σi:=bS u x b l) (σo:=bS d x a c) (pre:=[]) (post:=τ) (λp hp=>by cases hp) (λp hp q e=>by simp[bS] at e;grind
)
 simpa using this
theorem Pt{u:Bool}{x b:Id}{l:Aa}{τ:Aj}:∀i e,lk (bS u x b l) i=some e->lk (bS u x b l++τ) i=some e:=λi e h=>AB h
def G5(n:Int):Bool:=decide (n>=0)&&(decide (n<=1114111)&&(decide (n<55296)||decide (n>57343)))
theorem Aaa(n:Int):Al Tryz.prog W0 237 [.i .i64 n] [] (.b (G5 n)) []:=by
 generalize hS:G5 n=S;unfold G5 at hS;refine Ae (vs:=[.b S]) AiJ (by simp) (by simp) λn0 f=>?_;clear f;simp only[push_cast,reduceEqDiff];cases e:decide (n>=0)<;>cases a:decide (n<=1114111)<;>cases c:decide (n<55296)<;>cases d:decide (n>57343)
 all_goals simp only[e,a,c,d,Au4,AxA,AxX,AuF] at hS
 all_goals subst hS
 all_goals simp only[push_cast,reduceEqDiff,a,c,d]
 all_goals repeat' (first|(((first|apply Ab|apply Ag|apply Ah)<;>intro _h)<;>simp only[push_cast,reduceEqDiff,e,a,c,d])|(refine Ar (by omega) ?_;simp only[push_cast,reduceEqDiff,e,a,c,d])|intro _)
 all_goals exact Af (by simp[get])
def RN(c:Int):Bool:=decide (c>=8294)&&decide (c<=8296)
theorem Qm(c:Int):Al Tryz.prog W0 240 [.i .i64 c] [] (.b (RN c)) []:=by
 generalize hS:RN c=S;unfold RN at hS;refine Ae (vs:=[.b S]) Aka (by simp) (by simp) λn0 e=>?_;clear e;simp only[push_cast,reduceEqDiff];cases d:decide (c>=8294)<;>cases a:decide (c<=8296)
 all_goals simp only[d,a,Au4,AxA] at hS
 all_goals subst hS
 all_goals simp only[push_cast,reduceEqDiff,a]
 all_goals repeat' (first|(((first|apply Ab|apply Ag|apply Ah)<;>intro _h)<;>simp only[push_cast,reduceEqDiff,d,a])|(refine Ar (by omega) ?_;simp only[push_cast,reduceEqDiff,d,a])|intro _)
 all_goals exact Af (by simp[get])
def Fj(s:Aa):Nat->Nat->List Int
 | 0,_=>[]
 | n+1,p=>if p<s.length then(Utf8.decode ⟨s.toArray⟩ p).1::Fj s n (p+(Utf8.decode ⟨s.toArray⟩ p).2) else[]
def Ma(s:Aa):List Int:=Fj s s.length 0
def Ft(l:List Int):Aa:=l.flatMap λn=>Cd (IntKind.i32.wrap (if G5 n then n else 65533))
theorem Tt(s:Aa):∀(n m p:Nat),s.length<=n+p->s.length<=m+p->Fj s n p=Fj s m p:=by
 intro n
 induction n with
 | zero=>
  intro m p a b;cases m with
  | zero=>rfl
  | succ m=>rw[Fj,Fj,if_neg (by omega)]
 | succ n c=>
  intro m p a b;cases m with
  | zero=>grind
  | succ m=>
   rw[Fj,Fj];split
   .rename_i hp;have:=Lib.decode_width_pos ⟨s.toArray⟩ p (by simpa[ByteArray.size] using hp);grind
   .rfl
theorem Nm(s:Aa):∀(n p:Nat),(Fj s n p).length<=n:=by
 intro n
 induction n with
 | zero=>intro p;simp[Fj]
 | succ n a=>intro p;rw[Fj];grind
theorem sG(l:List Int):(Ft l).length<=4*l.length:=by
 induction l with
 | nil=>simp[Ft]
 | cons n l a=>have h:=JZ (IntKind.i32.wrap (if G5 n then n else 65533));have:Ft (n::l)=Cd (IntKind.i32.wrap (if G5 n then n else 65533))++Ft l:=rfl;grind
theorem Aor(l:List Int):∀y∈l.map (V.i .i64),y.ok=true:=by intro y a;obtain⟨x,_,rfl⟩:=AmB.1 a;rfl
theorem oA(s:Aa)(C:s.length<=2^28):Al Tryz.prog W0 239 [.s s] [] (.sl ((Ma s).map (V.i .i64))) []:=by
 generalize hS:Ma s=S;unfold Ma at hS;refine Ae (vs:=[.sl (S.map (V.i .i64))]) Ahm (by simp) (by simp) λn0 o=>?_;clear o;simp only[push_cast,reduceEqDiff]
 repeat' (first|(((first|apply Ab|apply Ag|apply Ah)<;>intro _h)<;>simp only[push_cast,reduceEqDiff])|(refine Ar (by omega) ?_;simp only[push_cast,reduceEqDiff])|intro _)
 rename_i k1 k2 k3;generalize x:((n0+1+k1+1+k2,7):Id)=c;have a:c.1<n0+1+k1+1+k2+1+k3:=by grind
 generalize n0+1+k1+1+k2+1+k3=v at *;refine Am s.length (Inv:=λm st=>∃n p id out,m=s.length-p/\out++Fj s (s.length-p) p=S/\out.length<=p/\out.length<=s.length/\c.1<id.1/\id.1<n/\st=⟨[(3,.arr id),(7,.arr c)],[(id,.arr 3 1 (out.map (V.i .i64))),(c,.it s p)],n⟩) ⟨_,(Ak.own (s:=3) (e:=3) (sz:=1) (k:=0) rfl).trans (Ak.envD (env':=[(3,.arr (v,0)),(7,.arr c)]) (λt=>?_) (AzR _)),_,0,(v,0),[],rfl,hS,AzR _,Aqn _,a,AzS _,rfl⟩ ?_
 .left;simp only[get];grind
 clear hS a;rintro m _ ⟨n,p,id,out,rfl,g,B,z,a,w,rfl⟩;have d:(id=c)=False:=eq_false λl=>by rw[l] at a;omega
 have f:(c=id)=False:=eq_false λl=>by rw[l] at a;omega
 by_cases hp:p<s.length
 .have u:=Lib.decode_width_pos ⟨s.toArray⟩ p (by simpa[ByteArray.size] using hp);have b:(p<s.length)=True:=eq_true hp;obtain⟨q,A⟩:∃q,s.length-p=q+1:=⟨s.length-p-1,by omega⟩
  rw[A,Fj,if_pos hp] at g;rw[Tt s q (s.length-(p+(Utf8.decode ⟨s.toArray⟩ p).2)) _ (by omega) (by omega)] at g;have y:=decode_le ⟨s.toArray⟩ p;generalize h:Utf8.decode ⟨s.toArray⟩ p=D at *;have j:(out.length+1<=AI)=True:=eq_true (by unfold AI;omega);have r:IntKind.i64.wrap (D.1:Int)=(D.1:Int):=wrap64 (by omega) (by omega);simp only[push_cast,reduceEqDiff,b,h,d,f,j,r]
  repeat' (first|(((first|apply Ab|apply Ag|apply Ah)<;>intro _h)<;>simp only[push_cast,reduceEqDiff,b,h,d,f,j,r,Abn])|(refine Ar (by omega) ?_;simp only[push_cast,reduceEqDiff,b,h,d,f,j,r,Abn])|intro _)
  rw[ED];exact⟨_,_,by omega,Ak.refl,_,p+D.2,_,out++[(D.1:Int)],rfl,by grind,by simp;omega,by simp;omega,by simp only;omega,by simp only;omega,rfl⟩
 .have b:(p<s.length)=False:=eq_false hp;rw[show s.length-p=0 by omega,Fj,Arm] at g;subst g;simp only[push_cast,reduceEqDiff,b,d];intros;refine LW (Ak.frzAt (s:=3) (id:=id) rfl (by simp[lk,f]) (Aor out) (AzR _)) ?_;simp only[push_cast];intros;exact Af (by simp[get])
theorem oJ(l:List Int)(E:l.length<=2^26):Al Tryz.prog W0 181 [.sl (l.map (V.i .i64))] [] (.s (Ft l)) []:=by
 generalize hS:Ft l=S;refine Ae (vs:=[.s S]) Aim (by simp) (by simp) λn0 k=>?_;clear k;simp only[push_cast,seval,reduceEqDiff]
 repeat' (first|(((first|apply Ab|apply Ag|apply Ah)<;>intro _h)<;>simp only[push_cast,seval,reduceEqDiff,_h])|(refine Ar (by omega) ?_;simp only[push_cast,seval,reduceEqDiff])|intro _)
 rename_i k1 k2 k3;generalize F:((n0+1+k1,3):Id)=x;have d:x.1<n0+1+k1+1+k2+1+k3:=by grind
 generalize n0+1+k1+1+k2+1+k3=D at *;refine Am l.length (Inv:=λm st=>∃dn rest n u b out,l=dn++rest/\m=rest.length/\out++Ft rest=S/\out.length+4*rest.length<=2^28/\x.1<b.1/\b.1<n/\st=⟨[(3,.ref x 0),(6,.sl (l.map (V.i .i64))),(7,.i .i64 l.length),(8,.i .i64 dn.length)],bS u x b out,n⟩) ⟨_,Ak.bld d,[],l,_,false,(D,0),[],rfl,rfl,hS,by simp;omega,d,AzS _,by simp⟩ ?_;clear hS d;rintro m _ ⟨dn,rest,n,u,b,out,a,rfl,f,t,g,z,rfl⟩;have e:b≠x:=λB=>by rw[B] at g;omega
 cases rest with
 | nil=>simp only[Ft,List.flatMap_nil,Arm] at f;subst f;have q:=Td W0 u x b out e (by omega);simp only[push_cast,seval,reduceEqDiff,a];intros;refine Bw q (λ_ _ h=>h) ?_;simp only[push_cast,seval,reduceEqDiff];intros;exact Af (by simp[get])
 | cons c rest=>
  have A:=AM a;have o:=Aaa W0 c;have j:out++(Cd (IntKind.i32.wrap (if G5 c then c else 65533))++Ft rest)=S:=f;clear f;generalize G5 c=r at *;have p:=JZ (IntKind.i32.wrap (if r then c else 65533));cases r
  all_goals simp only[if_true,if_false,AcT] at j p
  all_goals simp only[push_cast,seval,reduceEqDiff,a,Ai c (dn:=dn) (by omega)]
  all_goals repeat' (first|(((first|apply Ab|apply Ag|apply Ah)<;>intro _h)<;>simp only[push_cast,seval,reduceEqDiff,_h,a,Ai c (dn:=dn) (by omega)])|((first|refine Ac (by exact o) ?_|refine Ar (by omega) ?_);simp only[push_cast,seval,reduceEqDiff,a,Ai c (dn:=dn) (by omega)])|intro _)
  all_goals (refine Bd (AlW W0 u x b out _ e (by simp at t;omega)) (λ_ _ h=>h) (λH v σo C y=>?_))
  all_goals (obtain⟨rfl,w,G,i2,rfl⟩:=y)
  all_goals rw[EK]
  all_goals simp only[push_cast,seval,reduceEqDiff,a,Ai c (dn:=dn) (by omega)]
  all_goals repeat' (first|(((first|apply Ab|apply Ag|apply Ah)<;>intro _h)<;>simp only[push_cast,seval,reduceEqDiff,_h,a,Ai c (dn:=dn) (by omega)])|(refine Ar (by omega) ?_;simp only[push_cast,seval,reduceEqDiff,a,Ai c (dn:=dn) (by omega)])|intro _)
  all_goals exact⟨_,_,AzS _,Ak.refl,dn++[c],rest,_,true,w,_,by simp,rfl,by grind,by simp at t⊢;omega,by omega,by omega,rfl⟩
def DZ:List Int->List Bool->Int->Aa->Aa×Int
 | [],_,k,out=>(out,k)
 | c::r,op,k,out=>
  if RN c then(if decide (k<8) then DZ r (op++[true]) (k+1) (out++Ft [c]) else DZ r (op++[false]) k out)
  else if c==8297 then(match op.getLast? with
   | none=>DZ r op k out
   | some true=>DZ r op.dropLast (k-1) (out++Ft [c])
   | some false=>DZ r op.dropLast k out)
  else DZ r op k (out++Ft [c])
def Gw:Nat->Aa
 | 0=>[]
 | n+1=>Ft [8297]++Gw n
def U0(s:Aa):Aa:=(DZ (Ma s) [] 0 []).1++Gw (DZ (Ma s) [] 0 []).2.toNat
theorem Po(c:Int):Al Tryz.prog W0 181 [.sl [.i .i64 c]] [] (.s (Ft [c])) []:=oJ W0 [c] (by simp)
theorem Ec(c:Int):(Ft [c]).length<=4:=sG [c]
theorem P3{u:Bool}{x b a:Id}{out:Aa}{E:A5}(c:a≠x)(d:a≠b):∀i e,lk (bS u x b out++[(a,E)]) i=some e->lk ((a,E)::bS u x b out) i=some e:=by intro i e h;simp only[bS,Auh,AwM,lk] at h⊢;grind
theorem RY{u e:Bool}{x b c a:Id}{l d:Aa}{E:A5}(g:a≠x)(h:a≠b):over (bS u x b l) (bS e x c d) ((a,E)::bS u x b l)=bS e x c d++[(a,E)]:=by
 have:=EF (σi:=bS u x b l) (σo:=bS e x c d) (pre:=[(a,E)]) (λp hp q f=>by simp at hp;subst hp;simp[bS] at f;grind
)
 simpa using this
theorem Vv{u:Bool}{x b a:Id}{l:Aa}{E:A5}(c:a≠x)(d:a≠b):∀i e,lk (bS u x b l) i=some e->lk ((a,E)::bS u x b l) i=some e:=by intro i e h;simp only[lk];rw[if_neg,<-h];rintro rfl;simp[bS,lk,AfT c,AfT d] at h
set_option maxHeartbeats 4000000 in
theorem aX(s:Aa)(hs:s.length<=2^24):Al Tryz.prog W0 182 [.s s] [] (.s (U0 s)) []:=by
 have ah:=Nm s s.length 0;have ag:=oA W0 s (by omega);generalize hS:U0 s=S;unfold U0 at hS;have aL:(Ma s).length<=2^24:=by unfold Ma;omega
 generalize Ma s=D at *;generalize hB:DZ D [] 0 []=B at hS;refine Ae (vs:=[.s S]) Ajv (by simp) (by simp) λn0 av=>?_;clear av;simp only[push_cast,reduceEqDiff];have _h:=trivial;repeat' (first|(first|((first|apply Ab|apply Ag|apply Ah)<;>intro _h)|refine Ac ag ?_|refine Ar (by omega) ?_)<;>simp only[push_cast,reduceEqDiff]|intro _)
 rename_i k1 k2 k3 k4 k5;generalize hx:((n0+1+k1,3):Id)=x;have W:x.1<n0+1+k1+1+k2+1+k3+1+k4+1+k5:=by grind
 generalize n0+1+k1+1+k2+1+k3+1+k4+1+k5=n1 at *;refine Am D.length (Inv:=λm st=>∃dn rest n u b out op k f,D=dn++rest/\m=rest.length/\DZ rest op k out=B/\-(dn.length:Int)<=k/\k<=8/\op.length<=dn.length/\out.length+4*rest.length<=2^26/\x.1<b.1/\x.1<f.1/\f≠b/\b.1<n/\f.1<n/\st=⟨[(3,.ref x 0),(4,.arr f),(5,.i .i64 k),(11,.sl (D.map (V.i .i64))),(12,.i .i64 D.length),(13,.i .i64 dn.length)],bS u x b out++[(f,.arr 4 1 (op.map V.b))],n⟩) ⟨_,((Ak.bld (τ:=[]) W).trans (Ak.own (s:=4) (e:=4) (sz:=1) (k:=0) rfl)).trans ((Ak.envD (env':=[(3,.ref x 0),(4,.arr (n1+1,0)),(5,.i .i64 0),(11,.sl (D.map (V.i .i64))),(12,.i .i64 D.length),(13,.i .i64 0)]) (λt=>?_) (AzR _)).trans (Ak.drop (σ':=bS false x (n1,0) []++[((n1+1,0),.arr 4 1 [])]) (P3 (λl=>by grind) (by simp)) (AzR _))),[],D,_,false,(n1,0),[],[],0,(n1+1,0),rfl,rfl,hB,by simp,by omega,AzR _,by simp;omega,W,by simp only;omega,by simp,by simp only;omega,by simp only;omega,rfl⟩ ?_
 .left;simp only[get];grind
 clear hB W;rintro m _ ⟨dn,rest,n,u,b,out,op,k,f,w,rfl,a,q1,q2,q3,q4,M,q6,q7,q8,q9,rfl⟩;have g:b≠x:=λl=>by rw[l] at M;omega
 have U:f≠x:=λl=>by rw[l] at q6;omega
 cases rest with
 | nil=>
  rw[DZ] at a;subst a;simp only at hS;have au:D.length=dn.length:=by rw[w];simp
  have f1:(x=b)=False:=eq_false (AfT g);have f2:(b=x)=False:=eq_false g;simp only[push_cast,reduceEqDiff,w];intros;rename_i Y X;have af:b.1<n+1+Y+1+X:=by omega
  generalize n+1+Y+1+X=n2 at *;have aw:out.length<=2^26:=by omega
  clear w au q1 q3 q4 q6 q7 q8 q9 U;refine Am k.toNat (Inv:=λm st=>∃n u b out j,m=(k-j).toNat/\0<=j/\j<=8/\out++Gw (k-j).toNat=S/\(out.length:Int)<=2^26+4*j/\x.1<b.1/\b.1<n/\st=⟨[(3,.ref x 0),(56,.i .i64 k),(57,.i .i64 j)],bS u x b out,n⟩) ⟨_,Ak.pre (AzR _),_,u,b,out,0,by simp,by omega,by omega,by simpa using hS,by omega,M,af,rfl⟩ ?_;clear hS af aw M f1 f2 g;rintro m _ ⟨n,u,b,out,j,rfl,X,Y,a,ho,M,q8,rfl⟩;have g:b≠x:=λl=>by rw[l] at M;omega
  cases hj:decide (j<k) with
  | true=>
   have ar:=of_decide_eq_true hj;have o:=Po W0 8297;have ap:=Ec 8297;obtain⟨q,hq⟩:∃q,(k-j).toNat=q+1:=⟨(k-j).toNat-1,by omega⟩
   rw[hq,Gw,<-Ay5] at a;generalize Ft [8297]=z at *;have w1:IntKind.i64.wrap (j+1)=j+1:=by rw[wrap64 (by omega) (by omega)]
   simp only[push_cast,seval,hj];have _h:=trivial;repeat' (first|(first|((first|apply Ab|apply Ag|apply Ah)<;>intro _h)|refine Ac o ?_|refine Ar (by omega) ?_)<;>simp only[push_cast,reduceEqDiff]|intro _)
   refine Bd (Lo W0 u x b out z g (by omega)) (λ_ _ h=>h) (λn2 v σo T O=>?_);obtain⟨rfl,A,i1,i2,rfl⟩:=O;rw[EK];simp only[push_cast,reduceEqDiff,w1]
   repeat' (first|(((first|apply Ab|apply Ag|apply Ah)<;>intro _h)<;>simp only[push_cast,seval,reduceEqDiff,_h,hj,w1])|(refine Ar (by omega) ?_;simp only[push_cast,seval,reduceEqDiff,hj,w1])|intro _)
   exact⟨q,_,by omega,Ak.refl,_,true,A,out++z,j+1,by omega,by omega,by omega,by grind,by simp;omega,by omega,by omega,rfl⟩
  | false=>have ar:=of_decide_eq_false hj;rw[show(k-j).toNat=0 by omega,Gw,Arm] at a;subst a;have ax:=Td W0 u x b out g (by omega);simp only[push_cast,reduceEqDiff,hj];intros;refine Bw ax (λ_ _ h=>h) ?_;simp only[push_cast];intros;exact Af (by simp[get])
 | cons c rest=>
  have aM:=AM w;have r:=Qm W0 c;have o:=Po W0 c;have ap:=Ec c;rw[DZ] at a;generalize Ft [c]=z at *;have f1:(x=b)=False:=eq_false (AfT g);have f2:(b=x)=False:=eq_false g;have f3:(x=f)=False:=eq_false (AfT U);have f4:(f=x)=False:=eq_false U;have f5:(b=f)=False:=eq_false (AfT q7);have f6:(f=b)=False:=eq_false q7;simp only[AiL] at q4;cases hI:RN c with
  | true=>
   rw[hI] at a r;simp only[if_true] at a;have hL:(op.length+1<=AI)=True:=eq_true (by unfold AI;omega);cases hK:decide (k<8) with
   | true=>
    rw[hK] at a;simp only[if_true] at a;have aN:=of_decide_eq_true hK;have w1:IntKind.i64.wrap (k+1)=k+1:=by rw[wrap64 (by omega) (by omega)]
    simp only[push_cast,seval,w,bS];have _h:=trivial;repeat' (first|(first|((first|apply Ab|apply Ag|apply Ah)<;>intro _h)|refine Ac r ?_|refine Ac o ?_|refine Ar (by omega) ?_)<;>simp only[push_cast,reduceEqDiff,f3,f5,hL,w1,hK]|intro _)
    rename_i L H G F Z Y X j0;generalize y:((n+1+L+1+H+1+G+1+F,25):Id)=d;have J:d≠x:=λl=>by grind
    have C:d≠b:=λl=>by grind
    have N:x.1<d.1:=by grind
    have g4:d.1<n+1+L+1+H+1+G+1+F+1:=by grind
    clear y;refine Bd (σi:=bS u x b out) (Lo W0 u x b out z g (by omega)) (Vv J C) (λn2 v σo T O=>?_);obtain⟨rfl,A,i1,i2,rfl⟩:=O;have E:over (bS u x b out) (bS true x A (out++z)) [(d,A5.arr 4 1 (List.map V.b op++[V.b true])),(x,A5.tbox TB (.agg [wA u x,.arr b])),(b,A5.arr 5 1 (Ay out))]=bS true x A (out++z)++[(d,A5.arr 4 1 ((op++[true]).map V.b))]:=by rw[<-ED];exact RY J C
    rw[E];clear E;simp only[push_cast,reduceEqDiff,Ai c (dn:=dn) (by omega)]
    repeat' (first|(((first|apply Ab|apply Ag|apply Ah)<;>intro _h)<;>simp only[push_cast,seval,reduceEqDiff,_h,w,Ai c (dn:=dn) (by omega)])|(refine Ar (by omega) ?_;simp only[push_cast,seval,reduceEqDiff,w,Ai c (dn:=dn) (by omega)])|intro _)
    exact⟨_,_,AzS _,Ak.refl,dn++[c],rest,_,true,A,out++z,op++[true],k+1,d,by simp,rfl,a,by simp;omega,by omega,by simp;omega,by simp;omega,by omega,N,λl=>by rw[<-l] at i1;omega,by omega,by omega,rfl⟩
   | false=>
    rw[hK] at a;simp only[if_false,AcT] at a;simp only[push_cast,seval,w,bS];have _h:=trivial;repeat' (first|(first|((first|apply Ab|apply Ag|apply Ah)<;>intro _h)|refine Ac r ?_|refine Ac o ?_|refine Ar (by omega) ?_)<;>simp only[push_cast,reduceEqDiff,Ai c (dn:=dn) (by omega),f3,f5,hL,hK]|intro _)
    rename_i H G F Z Y X j0;generalize y:((n+1+H+1+G+1+F+1+Z,25):Id)=d;have J:d≠x:=λl=>by grind
    have C:d≠b:=λl=>by grind
    have N:x.1<d.1:=by grind
    have g4:d.1<n+1+H+1+G+1+F+1+Z+1:=by grind
    clear y;rw[ED];exact⟨_,_,AzS _,Ak.drop (σ':=bS u x b out++[(d,A5.arr 4 1 ((op++[false]).map V.b))]) (P3 J C) (AzR _),dn++[c],rest,_,u,b,out,op++[false],k,d,by simp,rfl,a,by simp;omega,q2,by simp;omega,by omega,M,N,C,by omega,by omega,rfl⟩
  | false=>
   rw[hI] at a r;simp only[if_false,AcT] at a;cases K:(c==8297) with
   | false=>
    rw[K] at a;simp only[if_false,AcT] at a;simp only[push_cast,seval,w];have _h:=trivial;repeat' (first|(first|((first|apply Ab|apply Ag|apply Ah)<;>intro _h)|refine Ac r ?_|refine Ac o ?_|refine Ar (by omega) ?_)<;>simp only[push_cast,reduceEqDiff,K]|intro _)
    refine Bd (σi:=bS u x b out) (Lo W0 u x b out z g (by omega)) Pt (λn2 v σo T O=>?_);obtain⟨rfl,A,i1,i2,rfl⟩:=O;rw[Pk (λp hp=>by grind)];simp only[push_cast,reduceEqDiff,Ai c (dn:=dn) (by omega)]
    repeat' (first|(((first|apply Ab|apply Ag|apply Ah)<;>intro _h)<;>simp only[push_cast,seval,reduceEqDiff,_h,w,Ai c (dn:=dn) (by omega),K])|(refine Ar (by omega) ?_;simp only[push_cast,seval,reduceEqDiff,w,Ai c (dn:=dn) (by omega),K])|intro _)
    exact⟨_,_,AzS _,Ak.refl,dn++[c],rest,_,true,A,out++z,op,k,f,by simp,rfl,a,by simp;omega,q2,by simp;omega,by simp;omega,by omega,q6,λl=>by rw[<-l] at i1;omega,by omega,by omega,rfl⟩
   | true=>
    rw[K] at a;simp only[if_true] at a;rcases Az5 op with rfl|⟨ops,I,rfl⟩
    .simp only[List.getLast?_nil] at a;simp only[push_cast,seval,w,bS];have _h:=trivial;repeat' (first|(first|((first|apply Ab|apply Ag|apply Ah)<;>intro _h)|refine Ac r ?_|refine Ac o ?_|refine Ar (by omega) ?_)<;>simp only[push_cast,seval,Ai c (dn:=dn) (by omega),f3,f5,K]|intro _)
     exact⟨_,_,AzS _,Ak.refl,dn++[c],rest,_,u,b,out,[],k,f,by simp,rfl,a,by simp;omega,q2,by simp,by omega,M,q6,q7,by omega,by omega,rfl⟩
    .have aq:(ops++[I]).getLast?=some I:=by simp
     have ah:(ops++[I]).dropLast=ops:=by simp
     rw[Az6] at *;rw[aq,ah] at a;have e0:(((ops++[I]).length:Int)==0)=false:=by grind
     have w5:IntKind.i64.wrap (((ops++[I]).length:Int)-1)=(ops.length:Int):=by simp only[AhT,AiL,Ank] at q3⊢;rw[wrap64 (by omega) (by omega)];omega
     have e1:(List.map V.b (ops++[I]))[ops.length]?=some (.b I):=by simp
     have e2:(ops.length<(ops++[I]).length)=True:=eq_true (by simp);have e3:List.take ops.length (List.map V.b (ops++[I]))=List.map V.b ops:=by simp
     have e4:(ops.length<=(ops++[I]).length)=True:=eq_true (by simp);have w6:IntKind.i64.wrap (k-1)=k-1:=by rw[wrap64 (by omega) (by omega)]
     simp only[AhT,AiL,Ank] at q3;cases I
     .simp only at a;simp only[push_cast,seval,w,bS];have _h:=trivial;repeat' (first|(first|((first|apply Ab|apply Ag|apply Ah)<;>intro _h)|refine Ac r ?_|refine Ac o ?_|refine Ar (by omega) ?_)<;>simp only[push_cast,reduceEqDiff,Ai c (dn:=dn) (by omega),f3,f5,K,e0,e2,e3,e4,w5]|intro _)
      rename_i j8 L H G F Z Y X j0;generalize y:((n+1+j8+1+L+1+H+1+G+1+F+1+Z,46):Id)=d;have J:d≠x:=λl=>by grind
      have C:d≠b:=λl=>by grind
      have N:x.1<d.1:=by grind
      have g4:d.1<n+1+j8+1+L+1+H+1+G+1+F+1+Z+1:=by grind
      clear y;exact⟨_,_,AzS _,Ak.drop (σ':=bS u x b out++[(d,A5.arr 4 1 (ops.map V.b))]) (P3 J C) (AzR _),dn++[c],rest,_,u,b,out,ops,k,d,by simp,rfl,a,by simp;omega,q2,by simp;omega,by omega,M,N,C,by omega,by omega,rfl⟩
     .simp only at a;simp only[push_cast,seval,w,bS];have _h:=trivial;repeat' (first|(first|((first|apply Ab|apply Ag|apply Ah)<;>intro _h)|refine Ac r ?_|refine Ac o ?_|refine Ar (by omega) ?_)<;>simp only[push_cast,reduceEqDiff,f3,f5,K,e0,e2,e3,e4,w5,w6]|intro _)
      rename_i j9 j8 L H G F Z Y X j0;generalize y:((n+1+j9+1+j8+1+L+1+H+1+G+1+F,46):Id)=d;have J:d≠x:=λl=>by grind
      have C:d≠b:=λl=>by grind
      have N:x.1<d.1:=by grind
      have g4:d.1<n+1+j9+1+j8+1+L+1+H+1+G+1+F+1:=by grind
      clear y;refine Bd (σi:=bS u x b out) (Lo W0 u x b out z g (by omega)) (Vv J C) (λn2 v σo T O=>?_);obtain⟨rfl,A,i1,i2,rfl⟩:=O;have E:over (bS u x b out) (bS true x A (out++z)) [(d,A5.arr 4 1 (List.map V.b ops)),(x,A5.tbox TB (.agg [wA u x,.arr b])),(b,A5.arr 5 1 (Ay out))]=bS true x A (out++z)++[(d,A5.arr 4 1 (ops.map V.b))]:=RY J C;rw[E];clear E;simp only[push_cast,reduceEqDiff,Ai c (dn:=dn) (by omega)]
      repeat' (first|(((first|apply Ab|apply Ag|apply Ah)<;>intro _h)<;>simp only[push_cast,seval,reduceEqDiff,_h,w,Ai c (dn:=dn) (by omega)])|(refine Ar (by omega) ?_;simp only[push_cast,seval,reduceEqDiff,w,Ai c (dn:=dn) (by omega)])|intro _)
      exact⟨_,_,AzS _,Ak.refl,dn++[c],rest,_,true,A,out++z,ops,k-1,d,by simp,rfl,a,by simp;omega,by omega,by simp;omega,by simp;omega,by omega,N,λl=>by rw[<-l] at i1;omega,by omega,by omega,rfl⟩
def NZ(s:Aa):Aa:=Ft [8296]++U0 s++Ft [8297]
theorem Zd:∀(l:List Int) (op:List Bool) (k:Int) (out:Aa),k<=8->(DZ l op k out).1.length<=out.length+4*l.length/\(DZ l op k out).2<=8:=by
 intro l
 induction l with
 | nil=>intro op k out a;rw[DZ];simp;exact a
 | cons c l d=>
  intro op k out a;have b:=Ec c;rw[DZ];split
  .grind
  .split
   .split
    .grind
    .grind
    grind
   grind
theorem Yz(n:Nat):(Gw n).length<=4*n:=by
 induction n with
 | zero=>simp[Gw]
 | succ n a=>have:=Ec 8297;rw[Gw,AhT];omega
theorem Xn(s:Aa):(U0 s).length<=4*s.length+32:=by have b:=Zd (Ma s) [] 0 [] (by omega);have c:=Yz (DZ (Ma s) [] 0 []).2.toNat;have a:=Nm s s.length 0;unfold U0;rw[AhT];have d:(Ma s).length<=s.length:=a;grind
theorem xP(s:Aa):(NZ s).length<=4*s.length+40:=by have a:=Xn s;have b:=Ec 8296;have c:=Ec 8297;unfold NZ;grind
theorem Ahi(s:Aa)(g:s.length<=2^24):Al Tryz.prog W0 128 [.s s] [] (.s (NZ s)) []:=by
 have f:=aX W0 s g;have d:=Po W0 8296;have e:=Po W0 8297;have h:=Xn s;have i:=Ec 8296;have j:=Ec 8297;unfold NZ;generalize Ft [8296]=b at *;generalize Ft [8297]=c at *;generalize U0 s=B at *;refine Ae (vs:=[.s (b++B++c)]) Ajg (by simp) (by simp) λn0 a=>?_;clear a;simp only[push_cast,reduceEqDiff];have _h:=trivial;repeat' (first|(first|((first|apply Ab|apply Ag|apply Ah)<;>intro _h)|refine Ac f ?_|refine Ac d ?_|refine Ac e ?_|refine Ar (by simp only[AhT,AJ]<;>omega) ?_)<;>simp only[push_cast,reduceEqDiff]|intro _)
 exact Af (by simp[get])
def M7(x:Ll):V:=.agg [.s x.L.tag,.s x.L.parent,.s x.L.dir,.sl (x.L.card.map AF.enc),.sl (x.L.ord.map AF.enc),.s x.L.dec,.s x.L.grp,.s x.L.minus,.s x.L.perc,.i .i64 x.L.prim,.i .i64 x.L.sec,.sl (x.L.lists.map CJ.enc),.sl (x.L.units.map D6.enc),.sl (x.L.dates.map CO.enc),.sl (x.L.months.map V.s),.sl (x.L.days.map V.s),.i .i64 x.y,.i .i64 x.m,.i .i64 x.d,.i .i64 x.wd]
structure NO (x:Ll) (c:Nat):Prop where
 y:x.y<2^40
 m1:1<=x.m
 m2:x.m<=12
 d:x.d<2^40
 wd:x.wd<7
 c24:24<=c
 ml:∀s∈x.L.months,s.length<=c
 dl:∀s∈x.L.days,s.length<=c
theorem Mr(b:Bu W0)(x:Ll)(c:Nat)(a:NO x c)(f:Aa):(F0 x f).1.length<=c:=by
 have j:=a.c24;obtain⟨_,l1⟩:=Fg W0 b x.y (by have:=a.y;omega);obtain⟨_,k⟩:=Fg W0 b x.m (by have:=a.m2;omega);obtain⟨_,o⟩:=Fg W0 b x.d (by have:=a.d;omega);obtain⟨_,p⟩:=F9 W0 b x.m (by have:=a.m2;omega);obtain⟨_,q⟩:=F9 W0 b x.d (by have:=a.d;omega);have e:∀(l:List Aa) (i:Nat),(∀s∈l,s.length<=c)->(l.getD i []).length<=c:=by grind
 have g:=e x.L.months (x.m-1) a.ml;have h:=e x.L.days x.wd a.dl;unfold F0;grind
theorem OJ(x:Ll):∀(n m:Nat) (p out:Aa),p.length<n->p.length<m->BS x n p out=BS x m p out:=by
 intro n
 induction n with
 | zero=>intro m p out h;omega
 | succ n d=>
  intro m p out b c;cases m with
  | zero=>omega
  | succ m=>
   rw[BS,BS];split
   .rfl
   .rename_i hp;have a:1<=p.length:=by grind
    grind
theorem aC(p:Aa)(hp:p.length<=2^20)(A B:V)(τ:Aj)(n0:Nat)(Q:Exit->St->Prop)
  (g:∀n,n0<=n->Q (.exit 2) ⟨[(1,.s p),(2,A),(6,B),(7,.i .i64 ((p.takeWhile DF).length:Nat)),(21,.b false)],τ,n⟩) :
  GT Tryz.prog W0 48 OE Q ⟨[(1,.s p),(2,A),(6,B),(7,.i .i64 0)],τ,n0⟩:=by
 refine Am p.length (Inv:=λm st=>∃dn rest n,p=dn++rest/\m=rest.length/\(∀c∈dn,DF c=true)/\n0<=n/\st=⟨[(1,.s p),(2,A),(6,B),(7,.i .i64 dn.length)],τ,n⟩) ⟨_,Ak.refl,[],p,_,rfl,rfl,by simp,AzR _,rfl⟩ ?_;rintro m _ ⟨dn,rest,n,f,rfl,l,q,rfl⟩;cases rest with
 | nil=>
  have e:p.takeWhile DF=dn:=by have:=(rM (p:=DF) (w:=dn) (r:=[]) l (by simp)).1;rw[f];simpa using this
  rw[e] at g;have h:decide ((dn.length:Int)<(p.length:Int))=false:=by rw[f];simp
  simp only[push_cast,reduceEqDiff,h];grind
 | cons c rest=>
  have k:=AM f;have a:=rJ W0 c;cases j:DF c with
  | true=>
   rw[j] at a;simp only[push_cast,reduceEqDiff,f];have _h:=trivial;repeat' (first|(first|((first|apply Ab|apply Ag|apply Ah)<;>intro _h)|refine Ac a ?_|refine Ar (by omega) ?_)<;>simp only[push_cast,reduceEqDiff,Ai c (dn:=dn) (by omega)]|intro _)
   exact⟨_,_,AzS _,Ak.refl,dn++[c],rest,_,by simp,rfl,λd o=>by grind
,by omega,rfl⟩
  | false=>
   rw[j] at a;have e:p.takeWhile DF=dn:=by simp_all
   rw[e,f] at g;simp only[push_cast,reduceEqDiff,f];have _h:=trivial;repeat' (first|(first|((first|apply Ab|apply Ag|apply Ah)<;>intro _h)|refine Ac a ?_|refine Ar (by omega) ?_)<;>simp only[push_cast,reduceEqDiff]|intro _)
   exact g _ (by omega)
set_option maxHeartbeats 4000000 in
theorem AaJ(Z:Bu W0)(x:Ll)(c:Nat)(z:NO x c)(p:Aa)(hp:p.length<=2^20)(hb:(p.length+1)*(c+1)<=2^29):Al Tryz.prog W0 218 [M7 x,.s p] [] (.tup [.s (Ic x p).1,.i .i64 (Ic x p).2]) []:=by
 generalize hS:Ic x p=S;unfold Ic at hS;have M:=Mr W0 Z x c z;unfold M7;refine Ae (vs:=[.s S.1,.i .i64 S.2]) Agv (by simp) (by simp) λn0 U=>?_;clear U;simp only[push_cast,reduceEqDiff]
 repeat' (first|(((first|apply Ab|apply Ag|apply Ah)<;>intro _h)<;>simp only[push_cast,seval,reduceEqDiff,_h])|(refine Ar (by omega) ?_;simp only[push_cast,seval,reduceEqDiff])|intro _)
 rename_i k1 k2;generalize af:((n0+1+k1,6):Id)=bx;have h:bx.1<n0+1+k1+1+k2:=by grind
 have aa:n0<bx.1:=by grind
 generalize n0+1+k1+1+k2=n1 at *;have ag:NO x c:=z;obtain⟨Y,ac⟩:∃Y,Y=M7 x:=⟨_,rfl⟩
 refine Am p.length (Inv:=λm st=>∃n u b q out,m=q.length/\BS x (q.length+1) q out=S/\q.length<=p.length/\out.length+q.length*(c+1)<=2^29/\bx.1<b.1/\b.1<n/\st=⟨[(1,.s q),(2,.ref (n0,2) 0),(6,.ref bx 0)],bS u bx b out++[((n0,2),.box (M7 x))],n⟩) ⟨_,Ak.bld h,_,false,(n1,0),p,[],rfl,hS,AzR _,by grind,h,AzS _,rfl⟩ ?_;clear hS h;rintro m _ ⟨n,u,b,q,out,rfl,e,hq,V,L,ae,rfl⟩;have k:b≠bx:=λC=>by rw[C] at L;omega
 have f1:(bx=b)=False:=eq_false (AfT k);have f2:(b=bx)=False:=eq_false k;have f3:∀j,(((n0,j):Id)=bx)=False:=λj=>eq_false λC=>by grind
 have f4:∀j,(bx=((n0,j):Id))=False:=λj=>eq_false λC=>by grind
 have f5:∀j,(((n0,j):Id)=b)=False:=λj=>eq_false λC=>by grind
 have f6:∀j,(b=((n0,j):Id))=False:=λj=>eq_false λC=>by grind
 have r:∀E:A5,∀p∈[(((n0,2):Id),E)],p.1≠bx/\p.1≠b:=λE p hp=>by grind
 cases q with
 | nil=>rw[BS] at e;simp only[beq_self_eq_true,if_true] at e;subst e;have X:=Td W0 u bx b out k (by simp at V;omega);simp only[push_cast,reduceEqDiff];intros;refine Bw X Pt ?_;simp only[push_cast,reduceEqDiff];intros;refine Ad ?_;simp[push_cast]
 | cons A q=>
  obtain⟨R,t⟩:∃R,R=A::q:=⟨_,rfl⟩;have J:R.length=q.length+1:=by rw[t];simp
  have I:R[0]?=some A:=by rw[t];rfl
  have w:R.drop 1=q:=by rw[t];rfl
  have ad:R.take 1=[A]:=by rw[t];rfl
  have B:(R==([]:Aa))=false:=by rw[t];rfl
  rw[<-t] at e hq V⊢;clear t;rw[BS,B] at e;simp only[if_false,AcT] at e;simp only[push_cast,seval,B];intros;refine aC W0 R (by omega) _ _ _ _ _ (λn3 ai=>?_);have O:(R.takeWhile DF).length<=R.length:=(List.takeWhile_sublist _).length_le;have D:=cO W0 Z x (R.take (R.takeWhile DF).length) z.y ⟨z.m1,z.m2⟩ z.d z.wd;have ah:=M (R.take (R.takeWhile DF).length);generalize(R.takeWhile DF).length=K at *;have a:((K:Int)==0)=(K==0):=by rw[Ats];simp
  cases l:(K==0) with
  | true=>
   rw[l] at e;simp only[if_true] at e;simp only[push_cast,seval,a,l,I];intros;have W:out.length+1<=2^29:=by grind
   refine Bd (σi:=bS u bx b out) (Ahw W0 u bx b out A k (by omega)) Pt (λn2 v σo T H=>?_);obtain⟨rfl,G,i1,i2,rfl⟩:=H;rw[Pk (r _)];have g:(1<=R.length)=True:=eq_true (by omega);simp only[push_cast,seval,g,w,AzR,Am7]
   repeat' (first|(((first|apply Ab|apply Ag|apply Ah)<;>intro _h)<;>simp only[push_cast,seval,reduceEqDiff,_h,g,w,AzR,Am7])|(refine Ar (by omega) ?_;simp only[push_cast,seval,reduceEqDiff,g,w,AzR,Am7])|intro _)
   refine⟨_,_,show q.length<R.length by omega,Ak.refl,_,true,G,q,out++[A],rfl,?_,by omega,?_,by omega,by omega,rfl⟩
   .grind
   .rw[J,AzL] at V;grind
  | false=>
   rw[l] at e;simp only[if_false,AcT] at e;have N:1<=K:=by grind
   have g:(K<=R.length)=True:=eq_true O;generalize hF:F0 x (R.take K)=F at *;have f:∀E:A5,lk (bS u bx b out++[((n0,2),E)]) (n0,2)=some E:=λE=>by simp only[bS,Auh,AwM,lk,f4,f6,if_false,if_true]
   cases o:(F.2==0) with
   | true=>
    rw[o] at e;simp only[if_true] at e;have W:out.length+F.1.length<=2^29:=by have:1*(c+1)<=R.length*(c+1):=Ayz _ (by omega);omega
    simp only[push_cast,reduceEqDiff,a,l,f,M7,g,Aqn];intros;refine Ac (by exact D) ?_;simp only[push_cast,reduceEqDiff,o,bne]
    repeat' (first|(((first|apply Ab|apply Ag|apply Ah)<;>intro _h)<;>simp only[push_cast,seval,reduceEqDiff,_h,a,l,f,M7,g,o,bne,Aqn,AzR,Am7])|(refine Ar (by omega) ?_;simp only[push_cast,seval,reduceEqDiff,a,l,f,M7,g,o,bne,Aqn,AzR,Am7])|intro _)
    refine Bd (σi:=bS u bx b out) (Lo W0 u bx b out F.1 k (by omega)) Pt (λn2 v σo T H=>?_);obtain⟨rfl,G,i1,i2,rfl⟩:=H;rw[Pk (r _)];simp only[push_cast,reduceEqDiff,g,AzR,Am7]
    repeat' (first|(((first|apply Ab|apply Ag|apply Ah)<;>intro _h)<;>simp only[push_cast,seval,reduceEqDiff,_h,a,g,Aqn,AzR,Am7])|(refine Ar (by omega) ?_;simp only[push_cast,seval,reduceEqDiff,a,g,Aqn,AzR,Am7])|intro _)
    refine⟨_,_,show(R.drop K).length<R.length by simp;omega,Ak.refl,_,true,G,R.drop K,out++F.1,rfl,?_,by simp;omega,?_,by omega,?_,rfl⟩
    .rw[OJ x _ R.length (R.drop K) _ (by omega) (by simp;omega)];exact e
    .have h1:R.length*(c+1)=(R.drop K).length*(c+1)+K*(c+1):=by rw[<-AzL];congr 1;simp;omega
     have h2:1*(c+1)<=K*(c+1):=Ayz _ N;grind
    .omega
   | false=>
    rw[o] at e;simp only[if_false,AcT] at e;subst e;simp only[push_cast,reduceEqDiff,a,l,f,M7,g,Aqn];intros;refine Ac (by exact D) ?_;simp only[push_cast,reduceEqDiff,o,bne]
    repeat' (first|(((first|apply Ab|apply Ag|apply Ah)<;>intro _h)<;>simp only[push_cast,seval,reduceEqDiff,_h,a,l,f,M7,g,o,bne,Aqn,AzR,Am7])|(refine Ar (by omega) ?_;simp only[push_cast,seval,reduceEqDiff,a,l,f,M7,g,o,bne,Aqn,AzR,Am7])|intro _)
    refine Ad ?_;simp[push_cast]
structure lC (L:BR) (c:Nat):Prop where
 c24:24<=c
 ml:∀s∈L.months,s.length<=c
 dl:∀s∈L.days,s.length<=c
 n:L.dates.length<=2^20
 sk:∀p∈L.dates,p.skel.length<=2^20
 pt:∀p∈L.dates,p.pat.length<=2^20/\(p.pat.length+1)*(c+1)<=2^29
theorem bG(A:Dt):∀(l:List CO) (i b a:Int),CS A l i b a=b\/i<=CS A l i b a/\CS A l i b a<i+l.length:=by
 intro l
 induction l with
 | nil=>intro i b a;left;rw[CS]
 | cons p l c=>intro i b a;rw[CS];grind
theorem zQ{l:List CO}{a:Aa}(h:(Ee l a).2=0):∃(i:Nat) (p:CO),(Ee l a).1=i/\l[i]?=some p:=by
 unfold Ee at h⊢;cases b:Cf a with
 | none=>rw[b] at h;cases h
 | some w=>
  rw[b] at h;simp only at h⊢;have c:=bG (EO w) l 0 (-1) 0;generalize CS (EO w) l 0 (-1) 0=B at *;by_cases hB:B<0
  .grind
  .rw[if_neg hB];refine⟨B.toNat,l[B.toNat]'(by omega),by simp only;omega,Afb (by omega)⟩
theorem aF(l:List CO)(a:Aa):(Ee l a).2=0\/(Ee l a).2=3\/(Ee l a).2=8:=by unfold Ee;grind
set_option maxHeartbeats 4000000 in
theorem ZY(F:Bu W0)(L:BR)(c:Nat)(k:lC L c)(b:Aa)(d:Int)(G:b.length<=2^24):Al Tryz.prog W0 158 [L.enc,.s b,.i .i64 d] [] (.tup [.s (Ex L b d).1,.i .i64 (Ex L b d).2]) []:=by
 have e:=Aj3 W0 L.dates b G (by have:=k.n;omega) k.sk;have u:=aF L.dates b;have v:=@zQ L.dates b;generalize hS:Ex L b d=S;unfold Ex at hS;rw[BR.enc_eq];cases m:DD d with
 | false=>
  have l:=Sd W0 d m;rw[m] at hS;refine Ae (vs:=[.s S.1,.i .i64 S.2]) Mt (by simp) (by simp) λn0 a=>?_;clear a;simp only[push_cast,seval,reduceEqDiff]
  all_goals ((try simp only[bq,if_true,if_false,Int.reduceBEq,reduceCtorEq] at hS);subst hS)
  all_goals (try simp only[push_cast,seval,reduceEqDiff])
  all_goals (repeat' (first|((first|refine Ac (by exact l) ?_|refine Ar (by omega) ?_);(try simp only[push_cast,seval,reduceEqDiff]))|intro _))
  all_goals (first|(refine Af ?_;simp[get];done)|(refine Ad ?_;simp[push_cast,get];done)|skip)
 | true=>
  have l:=WE W0 d m;have t:=ZV W0 d m;obtain⟨q1,q2,q3,H,N,O⟩:=Pv m;have o:NO (Kk L d) c:=by
   have M:(d+25567).tmod 7<7:=Int.tmod_lt_of_pos _ (by omega);refine⟨?_,q3,H,?_,?_,k.c24,k.ml,k.dl⟩
   .show(G8 d).1.toNat<_;omega
   .show((Fy d).2+1).toNat<_;omega
   .show((d+25567).tmod 7).toNat<_;omega
  have h:=fun(p:Aa) (B:p.length<=2^20) (C:(p.length+1)*(c+1)<=2^29)=>AaJ W0 F (Kk L d) c o p B C;have z:(((Kk L d).y:Nat):Int)=(G8 d).1:=by show((G8 d).1.toNat:Int)=_;omega
  have A:(((Kk L d).d:Nat):Int)=(Fy d).2+1:=by show(((Fy d).2+1).toNat:Int)=_;omega
  unfold M7 at h;rw[z,A] at h;rw[m] at hS;simp only[if_true] at hS;generalize D:(Ee L.dates b).1=J at *;generalize E:(Ee L.dates b).2=K at *;rcases u with rfl|rfl|rfl
  .obtain⟨i,p,rfl,hp⟩:=v rfl;have j:=k.pt p (AzT hp);have q:=h p.pat j.1 j.2;have g:=Apa W0 p.pat j.1;have r:(L.dates.map CO.enc)[i]?=some p.enc:=by simp_all
   have f:(i<L.dates.length)=True:=eq_true (Af8.1 hp).1;have I:((0:Int)==8)=false:=rfl;have z2:((0:Int)==0)=true:=rfl;simp only[I,z2,if_true,if_false,AcT,AvY,hp] at hS;generalize Ic (Kk L d) p.pat=w at *;rw[CO.enc_eq] at r;cases x:ZM p.pat with
   | true=>
    rw[x] at g hS;simp only[if_true] at hS;subst hS;refine Ae (vs:=[.s w.1,.i .i64 w.2]) Mt (by simp) (by simp) λn0 a=>?_;clear a;simp only[push_cast,seval,reduceEqDiff,r,f];have _h:=trivial;repeat' (first|(first|((first|apply Ab|apply Ag|apply Ah)<;>intro _h)|refine Ac l ?_|refine Ac e ?_|refine Ac g ?_|refine Ac t ?_|refine Ac q ?_|refine Ar (by omega) ?_)<;>simp only[push_cast,seval,reduceEqDiff,_h,r,f]|intro _)
    refine Ad ?_;simp[push_cast,get]
   | false=>
    rw[x] at g hS;simp only[if_false,AcT] at hS;subst hS;refine Ae (vs:=[.s [],.i .i64 4]) Mt (by simp) (by simp) λn0 a=>?_;clear a;simp only[push_cast,seval,reduceEqDiff,r,f];have _h:=trivial;repeat' (first|(first|((first|apply Ab|apply Ag|apply Ah)<;>intro _h)|refine Ac l ?_|refine Ac e ?_|refine Ac g ?_|refine Ac t ?_|refine Ar (by omega) ?_)<;>simp only[push_cast,seval,reduceEqDiff,_h,r,f]|intro _)
    refine Ad ?_;simp[push_cast,get]
  .simp only[show((3:Int)==8)=false from rfl,show((3:Int)==0)=false from rfl,if_false,AcT] at hS;subst hS;refine Ae (vs:=[.s [],.i .i64 3]) Mt (by simp) (by simp) λn0 a=>?_;clear a;simp only[push_cast,seval,reduceEqDiff];have _h:=trivial;repeat' (first|(first|((first|apply Ab|apply Ag|apply Ah)<;>intro _h)|refine Ac l ?_|refine Ac e ?_|refine Ar (by omega) ?_)<;>simp only[push_cast,seval,reduceEqDiff,_h]|intro _)
   refine Ad ?_;simp[push_cast,get]
  .simp only[show((8:Int)==8)=true from rfl,if_true] at hS;subst hS;refine Ae (vs:=[.s [],.i .i64 18]) Mt (by simp) (by simp) λn0 a=>?_;clear a;simp only[push_cast,seval,reduceEqDiff];have _h:=trivial;repeat' (first|(first|((first|apply Ab|apply Ag|apply Ah)<;>intro _h)|refine Ac l ?_|refine Ac e ?_|refine Ar (by omega) ?_)<;>simp only[push_cast,seval,reduceEqDiff,_h]|intro _)
   refine Ad ?_;simp[push_cast,get]
end Go.Ir

namespace Go.Ir
open Go.Proofs
variable{P:Program}{W0:World}{nt n:Nat}{Q:Exit→St→Prop}{env:A9}{σ:Aj}
def VQ:IC:=sQ (.ops [fA 22 2 1,l1 23 22,m1 24 1,o1 25 (.iaddr (.t 24) (ci 0) 9 1),l1 26 25,m1 27 1,o1 28 (.iaddr (.t 27) (ci 1) 9 1),l1 29 28,q3 30 280 23 26 29,sT 4 30 1] [4] [[0,1],[2,3],[3,4],[5,6],[6,7],[1,8],[4,8],[7,8],[1,9],[3,9],[4,9],[6,9],[7,9],[8,9]]) .ret
def UB:IC:=oS [bZ 16 .eql 12 1,m1 15 16] [1,2,4,5,12,15] (cD 15 (oR [m1 17 1,o1 18 (.iaddr (.t 17) (ci 0) 9 1),l1 19 18,sT 4 19 1] [4]) (oS [bZ 21 .eql 12 2,m1 20 21] [1,2,4,5,20] (cD 20 VQ .skip)))
def DQ:IC:=oS [m1 7 49] [2,4,6,7,50] (oP [m1 8 50] [2,4,6,7,8])
def XN:IC:=sQ (oS [m1 57 7,bZ 58 .eql 57 0] [2,6,8,9,58] (cD 58 (oP [fA 59 2 2,l1 60 59,m1 9 60] [6,8,9]) .skip)) (oP [m1 61 9,m1 62 8,l1 63 6,q3 64 280 61 62 63,sT 6 64 1] [])
def DN:IC:=.block 2 (sQ (oS [l1 51 6,nS 52 51,bZ 53 .gtr 52 20000] [2,4,6,7,8,53] (cD 53 (oR [l1 54 6,sT 4 54 1] []) .skip)) (oS [fA 55 2 3,l1 56 55,m1 9 56] [2,6,7,8,9] XN))
def W7:IC:=sQ (sQ (.opx [m1 44 1,m1 45 5,bZ 46 .sub 45 2,o1 47 (.slL (.t 44) none (some (.t 46)) 1)] [2,4,6,47] 48 281 [.t 47] [] [2,4,6,48]) (.block 1 (.rfn (.t 48) [49,50] DQ DN [2,4,6,49,50] [4,6]))) (oR [l1 65 6,sT 4 65 1] [4])
def W5:IC:=sQ (.ops [fA 31 2 4,l1 32 31,m1 33 1,m1 34 5,bZ 35 .sub 34 2,iA 36 33 35 9 1,l1 37 36,m1 38 1,m1 39 5,bZ 40 .sub 39 1,iA 41 38 40 9 1,l1 42 41,q3 43 280 32 37 42,o1 6 (.alloc (.s [])),sT 6 43 1] [1,2,4,5,6] [[0,1],[3,4],[2,5],[4,5],[5,6],[8,9],[7,10],[9,10],[10,11],[1,12],[6,12],[11,12],[1,14],[5,14],[6,14],[10,14],[11,14],[12,14],[13,14]]) W7
def gM:IC:=oS [m1 10 1,nL 11 10,m1 5 11] [1,2,4,5] (sQ (oS [m1 12 5] [1,2,4,5,12] (.block 0 (oS [bZ 14 .eql 12 0,m1 13 14] [1,2,4,5,12,13] (cD 13 (oR [o0 (.store (.t 4) (.c (.s [])) 1)] [4]) UB)))) W5)
def pX:IC:=oS [bX 2 0,o1 4 (.alloc (.s []))] [1,2,4] gM
@[push_cast]def Arq:List R:=[.c 4 1 false]
@[push_cast]def Axb:=Aq VQ.eq_1<|Aq UB.eq_1<|Aq DQ.eq_1<|Aq XN.eq_1<|Aq DN.eq_1<|Aq W7.eq_1<|Aq W5.eq_1<|Aq gM.eq_1<|AL pX.eq_1
theorem PR:Av Tryz.prog 220 66 pX Arq=true:=by kernel_rfl
def eP:IC:=oS [bX 1 0,mC 2 .nf] [1] (oR [o1 3 (.mkfn 314 [] [.t 1]),m1 2 3] [2])
@[push_cast]def ArU:List R:=[.t 2]
@[push_cast]def Axf:=AL eP.eq_1
theorem AjW:Av Tryz.prog 281 4 eP ArU=true:=by kernel_rfl
def lW:IC:=sQ (.block 1 (sQ (.opxv [m1 11 0,m1 12 3,l1 13 1,m1 14 3,iA 15 13 14 9 1,l1 16 15] [0,1,3,11,12,16] 17 (.t 11) [.t 12,.t 16] [nT 18 17] [0,1,3,18]) (cD 18 .ret .skip))) (oP [m1 9 3,bZ 10 .sub 9 1,m1 3 10] [0,1,3])
def vL:IC:=oS [l1 4 1,nL 5 4,bZ 6 .sub 5 1,m1 3 6] [0,1,3] (.block 0 (.loop (sQ (oS [m1 7 3,bZ 8 .geq 7 0] [0,1,3,8] (cD 8 .skip (.exit 0))) lW)))
@[push_cast]def Anv:List R:=[]
@[push_cast]def Axm:=Aq lW.eq_1<|AL vL.eq_1
theorem Agq:Av Tryz.prog 314 19 vL Anv=true:=by kernel_rfl
end Go.Ir
section
namespace Go.Ir
open Go.Proofs
section
variable{P:Program}{W0:World}{nt n:Nat}{env:A9}{σ:Aj}
def AuO(id:Id)(n:Nat)(R:Nat->Nat->V->Aj->Prop)(e:Exit)(s:St):Prop:=
 ∃f c a d a2 i h g σ',e=jL f/\lk s.σ id=some (.loop c a d a2 i h g)/\(∀j x,lk σ' j=some x->lk (upd s.σ id (.loop c a d a2 i (bif f.isNone then .ready else .done) f)) j=some x)/\R n s.n (.b f.isNone) σ'
theorem Aj6(s:Gq P){id:Id}{vs:List V}{ps:List Nat}{a b:IC}{w:Option (Option Nat)}{R:Nat->Nat->V->Aj->Prop}
  (m:lk σ id=some (.loop nt env ps a b .ready w))(i:vs.length=ps.length)(r:(ps.all λp=>Nat.blt p nt)=true)(q:(a.nr&&b.nr)=true)
  (h:∀n,(∀id e,lk σ id=some e->id.1<n)->aW P W0 nt a (λe j=>e=.normal/\∃d c g k l f,lk j.σ id=some (.loop d c g k l .ready f)/\
   aW P W0 nt b (QW W0 nt (AuO id n R)) ⟨j.env,upd j.σ id (.loop d c g k l .busy f),j.n⟩) ⟨H8 ps vs env,σ,n⟩):S9 P W0 (.arr id::vs) σ R:=
 YD s m i r q λn v=>LY (BU (h n v)) λe j ⟨u,d,c,g,k,l,f,o,t⟩=>⟨u,d,c,g,k,l,f,o,Mx (BU t)⟩
theorem Ak5(m:Gq P){s:Nat}{ps:List Nat}{a b:IC}{f live:List Nat}{Q:Exit->St->Prop}{i:FuncId}{first c:List V}(q:get env s=.fn i first c){σi:Aj}{R:Nat->Nat->V->Aj->Prop}
  (p:Ez P W0 i (first++[.arr (n,0)]++c) σi R)(r:∀id e,lk σi id=some e->lk (((n,0),A5.loop nt (restrict f env) ps a b .ready none)::σ) id=some e)
  (o:∀n' v σo,n+1<=n'->R (n+1) n' v σo->∃g d h k l s j,lk (over σi σo (((n,0),A5.loop nt (restrict f env) ps a b .ready none)::σ)) (n,0)=some (.loop g d h k l s j)/\Kd s=false/\Q (jL j) ⟨restrict live env,del (over σi σo (((n,0),A5.loop nt (restrict f env) ps a b .ready none)::σ)) (n,0),n'⟩) :
  AjQ P W0 nt (.t s) ps a b f live Q ⟨env,σ,n⟩:=AaO (st:=⟨env,σ,n⟩) m q p r o
end
variable(W0:World)
theorem Ahe(es:List V):Ez Tryz.prog W0 281 [.sl es] [] (λn n' v σ'=>∃id:Id,n<=id.1/\id.1<n'/\v=.fn 314 [] [.ref id 0]/\σ'=[(id,.box (.sl es))]):=by generalize b:(fun(n n':Nat) (v:V) (σ':Aj)=>∃id:Id,n<=id.1/\id.1<n'/\v=V.fn 314 [] [.ref id 0]/\σ'=[(id,.box (.sl es))])=R;refine BN AjW (by simp) λn0 a=>?_;clear a;simp only[push_cast,seval,reduceEqDiff];intro k1 k2;subst b;exact⟨_,Ak.refl,[.fn 314 [] [.ref (n0,1) 0]],_,⟨rfl,trivial⟩,λ_ _ h=>h,(n0,1),AzR _,by simp only;omega,rfl,rfl⟩
theorem AaA(l:List Aa)(H:l.length<=2^30)(id a:Id)(Inv:Nat->Aj->Prop)(c:Aj->Prop)(hI:∀k σ,Inv k σ->lk σ a=none)
  (G:∀k σ e,Inv k σ->k<l.length->l[l.length-1-k]?=some e->∃R,S9 Tryz.prog W0 [.arr id,.i .i64 ((l.length:Int)-1-k),.s e] σ R/\∀n n' v σ',R n n' v σ'->(v=.b true/\Inv (k+1) σ')\/(v=.b false/\c σ'))
  (σ0:Aj)(D:Inv 0 σ0):Ez Tryz.prog W0 314 [.arr id,.ref a 0] (σ0++[(a,.box (.sl (l.map V.s)))]) (λn n' v σ'=>Inv l.length σ'\/c σ'):=by
 have g:∀σ,lk σ a=none->lk (σ++[(a,.box (.sl (l.map V.s)))]) a=some (.box (.sl (l.map V.s))):=λσ h=>by rw[N5,h];simp[lk]
 have z:∀σ σo,lk σ a=none->over σ σo (σ++[(a,.box (.sl (l.map V.s)))])=σo++[(a,.box (.sl (l.map V.s)))]:=λσ σo h=>by have o:=EF (σi:=σ) (σo:=σo) (pre:=[]) (λp hp=>by cases hp);rw[AwM,Arm] at o;unfold over at o⊢;rw[Azz,<-Ay5,o];simp[h]
 have w:(l.map V.s).length=l.length:=by simp
 generalize E:(fun(n n':Nat) (v:V) (σ':Aj)=>Inv l.length σ'\/c σ')=R;refine BN Agq (by simp) λn0 x=>?_;clear x;have u:=g _ (hI _ _ D);have B:IntKind.i64.wrap ((l.length:Int)-1)=(l.length:Int)-1:=wrap64 (by omega) (by omega);simp only[push_cast,seval,reduceEqDiff,u,w,B];intros;refine Am l.length (Inv:=λm st=>∃k σ n,m=l.length-k/\k<=l.length/\Inv k σ/\st=⟨[(0,.arr id),(1,.ref a 0),(3,.i .i64 ((l.length:Int)-1-k))],σ++[(a,.box (.sl (l.map V.s)))],n⟩) ⟨_,Ak.refl,0,σ0,_,rfl,Aqn _,D,by rw[show((0:Nat):Int)=0 from rfl,Int.sub_zero]⟩ ?_;rintro m _ ⟨k,σ,n,rfl,M,j,rfl⟩;have I:=g _ (hI _ _ j);by_cases f:k<l.length
 .obtain⟨e,F⟩:∃e,l[l.length-1-k]?=some e:=⟨l[l.length-1-k]'(by omega),Afb (by omega)⟩;obtain⟨L,q,r⟩:=G k σ e j f F;have t:(l.map V.s)[l.length-1-k]?=some (.s e):=by simp[F]
  have d:decide ((l.length:Int)-1-k>=0)=true:=by simp;omega
  have y:(0<=(l.length:Int)-1-k)=True:=by simp;omega
  have A:((l.length:Int)-1-k).toNat=l.length-1-k:=by omega
  have C:IntKind.i64.wrap ((l.length:Int)-1-k-1)=(l.length:Int)-1-(k+1:Nat):=by rw[wrap64 (by omega) (by omega)];omega
  simp only[push_cast,seval,reduceEqDiff,I,d,y,A,t];intro k1 k2;refine AbD q (λ_ _ h=>AB h) (λN v σo J K=>?_);rw[z _ _ (hI _ _ j)];rcases r _ _ _ _ K with⟨rfl,hi'⟩|⟨rfl,ho⟩
  .simp only[push_cast,seval,reduceEqDiff,C];intros;exact⟨_,_,by omega,Ak.refl,k+1,σo,_,rfl,f,hi',rfl⟩
  .simp only[push_cast,seval,reduceEqDiff];intros;subst E;exact⟨_,Ak.refl,[],σo,trivial,λ_ _ h=>AB h,.inr ho⟩
 .have:k=l.length:=by omega
  subst this;have d:decide ((l.length:Int)-1-l.length>=0)=false:=by simp;omega
  simp only[push_cast,seval,reduceEqDiff,d];intros;subst E;exact⟨_,Ak.refl,[],σ,trivial,λ_ _ h=>AB h,.inl j⟩
end Go.Ir
end
namespace Go.Ir
open Go.Proofs
variable(W0:World)
theorem Gz{W0:World}{nt n:Nat}{env:A9}{σ:Aj}{s k:Nat}{a:Bool}{v u:V}{id:Id}{off:Nat}(h:get env s=.ref id off)(b:lk σ id=some (.box u))(d:sub u off k a=some v):KC W0 nt [.c s k a] [v] [] .ret ⟨env,σ,n⟩:=
 ⟨_,Ak.refl,⟨⟨id,off,u,h,b,d⟩,trivial⟩,λid e h=>by simp[lk] at h⟩
theorem S6(σ σo:Aj):over [] σo σ=σo++σ:=by simp[over,lk]
theorem pM(p:CJ)(l:List Aa)(hp:p.two.length<=2^20/\p.start.length<=2^20/\p.mid.length<=2^20/\p.fin.length<=2^20)(hl:l.length<=1000)(hs:∀s∈l,s.length<=2^20)
  (hf:∀q a b:Aa,q.length<=2^20->a.length<=2^21->b.length<=2^21->Al Tryz.prog W0 280 [.s q,.s a,.s b] [] (.s (EB q a b)) []/\(EB q a b).length<=q.length+a.length+b.length) :
  Al Tryz.prog W0 220 [p.enc,.sl (l.map V.s)] [] (.s (N4 p l)) []:=by
 obtain⟨aS,bh,bi,aT⟩:=hp;generalize hS:N4 p l=S;rw[CJ.enc_eq]
 match l,hS with
 | [],hS=>have hS:[]=S:=hS;subst hS;refine Ae (vs:=[.s []]) PR (by simp) (by simp) λn0 C=>?_;clear C;simp only[push_cast,seval,reduceEqDiff];intros;exact Gz (u:=.s []) rfl (by simp[lk]) rfl
 | [a],hS=>have hS:a=S:=hS;subst hS;refine Ae (vs:=[.s a]) PR (by simp) (by simp) λn0 C=>?_;clear C;simp only[push_cast,seval,reduceEqDiff];intros;exact Gz (u:=.s a) rfl (by simp[lk]) rfl
 | [a,b],hS=>
  have hS:EB p.two a b=S:=hS;have h1:=hs a (by simp);have h2:=hs b (by simp);have c1:=(hf p.two a b aS (by omega) (by omega)).1;subst hS;refine Ae (vs:=[.s (EB p.two a b)]) PR (by simp) (by simp) λn0 C=>?_;clear C;simp only[push_cast,seval,reduceEqDiff];have _h:=trivial;repeat' (first|(first|((first|apply Ab|apply Ag|apply Ah)<;>intro _h)|refine Ac c1 ?_)<;>simp only[push_cast,seval,reduceEqDiff,_h]|intro _)
  exact Gz (u:=.s (EB p.two a b)) rfl (by simp[lk]) rfl
 | a::b::c::l,hS=>
  have hN:3<=(a::b::c::l).length:=by simp
  have hS:I9 p ((a::b::c::l).take ((a::b::c::l).length-2)).reverse (EB p.fin ((a::b::c::l).getD ((a::b::c::l).length-2) []) ((a::b::c::l).getD ((a::b::c::l).length-1) []))=S:=hS;generalize(a::b::c::l)=L at *;obtain⟨x,hx⟩:∃x,L[L.length-2]?=some x:=⟨L[L.length-2]'(by omega),Afb (by omega)⟩
  obtain⟨y,hy⟩:∃y,L[L.length-1]?=some y:=⟨L[L.length-1]'(by omega),Afb (by omega)⟩;rw[AtX,AtX,hx,hy] at hS;simp only[Option.getD_some] at hS;have h1:=hs x (AzT hx);have h2:=hs y (AzT hy);obtain⟨c1,bj⟩:=hf p.fin x y aT (by omega) (by omega);generalize EB p.fin x y=r0 at *;have ac:(L.map V.s)[L.length-2]?=some (.s x):=by simp[hx]
  have ad:(L.map V.s)[L.length-1]?=some (.s y):=by simp[hy]
  have Y:(L.map V.s).length=L.length:=by simp
  have w1:IntKind.i64.wrap ((L.length:Int)-2)=(L.length:Int)-2:=wrap64 (by omega) (by omega);have w2:IntKind.i64.wrap ((L.length:Int)-1)=(L.length:Int)-1:=wrap64 (by omega) (by omega);have af:(0<=(L.length:Int)-2)=True:=eq_true (by omega);have ag:(0<=(L.length:Int)-1)=True:=eq_true (by omega);have t1:((L.length:Int)-2).toNat=L.length-2:=by omega
  have t2:((L.length:Int)-1).toNat=L.length-1:=by omega
  have q0:((L.length:Int)==0)=false:=beq_eq_false_iff_ne.2 (by omega);have q1:((L.length:Int)==1)=false:=beq_eq_false_iff_ne.2 (by omega);have q2:((L.length:Int)==2)=false:=beq_eq_false_iff_ne.2 (by omega);have H:(L.length-2<=L.length)=True:=eq_true (by omega);have hz:(0<=L.length-2)=True:=eq_true (by omega);have X:(∀y∈L.map V.s,(cells y).length=1)=True:=eq_true (by intro y hy;simp at hy;obtain⟨z,_,rfl⟩:=hy;rfl);have hT:∀s∈L.take (L.length-2),s.length<=2^20:=λs h=>hs s (AwH h);have a8:(L.take (L.length-2)).length<=1000:=by simp;omega
  have aa:(L.map V.s).take (L.length-2)=(L.take (L.length-2)).map V.s:=by simp
  generalize L.take (L.length-2)=T at *;refine Ae (vs:=[.s S]) PR (by simp) (by simp) λn0 C=>?_;clear C;simp only[push_cast,seval,reduceEqDiff,Y,w1,w2,af,ag,t1,t2,q0,q1,q2,ac,ad,H,hz,X,aa];have _h:=trivial;repeat' (first|(first|((first|apply Ab|apply Ag|apply Ah)<;>intro _h)|refine Ac c1 ?_)<;>simp only[push_cast,seval,reduceEqDiff,_h,Y,w1,w2,af,ag,t1,t2,q0,q1,q2,ac,ad,H,hz,X,aa]|intro _)
  rename_i k1 k2 k3 k4 k5 k6 k7 k8;obtain⟨j,W⟩:∃x:Id,x=(n0+1+k1+1+k2+1+k3+1+k4+1+k5+1+k6,6):=⟨_,rfl⟩
  obtain⟨g,U⟩:∃x:Id,x=(n0,4):=⟨_,rfl⟩;obtain⟨o,O⟩:∃x:Id,x=(n0,2):=⟨_,rfl⟩;rw[<-W,<-U,<-O];have i6:j.1<n0+1+k1+1+k2+1+k3+1+k4+1+k5+1+k6+1+k7+1+k8:=by rw[W];simp only;omega
  have i4:g.1<n0+1+k1+1+k2+1+k3+1+k4+1+k5+1+k6+1+k7+1+k8:=by rw[U];simp only;omega
  have i2:o.1<n0+1+k1+1+k2+1+k3+1+k4+1+k5+1+k6+1+k7+1+k8:=by rw[O];simp only;omega
  have w:j≠g:=λB=>by grind
  have ap:j≠o:=λB=>by grind
  have ao:g≠o:=λB=>by grind
  clear W U O;generalize n0+1+k1+1+k2+1+k3+1+k4+1+k5+1+k6+1+k7+1+k8=n1 at *;refine Bd (Ahe W0 (T.map V.s)) (λ_ _ h=>by cases h) (λn2 v σo H hR=>?_);obtain⟨f,ab,bl,rfl,rfl⟩:=hR;rw[S6];simp only[push_cast,seval,reduceEqDiff,Y,w1,w2,af,ag,t1,t2,q0,q1,q2,ac,ad,H,hz,X,aa];intro k9;have j6:j.1<n2+1+k9:=by omega
  have j4:g.1<n2+1+k9:=by omega
  have j2:o.1<n2+1+k9:=by omega
  have js:f.1<n2+1+k9:=by omega
  have N:f≠j:=λB=>by rw[B] at ab;omega
  have M:f≠g:=λB=>by rw[B] at ab;omega
  have K:f≠o:=λB=>by rw[B] at ab;omega
  generalize n2+1+k9=n3 at *;obtain⟨ρ,ae⟩:∃x:Id,x=(n3,0):=⟨_,rfl⟩
  have r6:ρ≠j:=λB=>by grind
  have r4:ρ≠g:=λB=>by grind
  have r2:ρ≠o:=λB=>by grind
  have rs:ρ≠f:=λB=>by grind
  obtain⟨Bp,A⟩:∃x,x=V.agg [.s p.style,.s p.two,.s p.start,.s p.mid,.s p.fin]:=⟨_,rfl⟩;obtain⟨F,aq⟩:∃x:A9,x=[(2,.ref o 0),(4,.ref g 0),(6,.ref j 0),(49,.any),(50,.any)]:=⟨_,rfl⟩;obtain⟨LP,m⟩:∃x:LoopState->Option (Option Nat)->A5,x=λs D=>.loop 66 F [49,50] DQ DN s D:=⟨_,rfl⟩;obtain⟨t,aM⟩:∃x:LoopState->Option (Option Nat)->Aa->Aa->Aj,x=λs D r q=>[(ρ,LP s D),(j,.box (.s r)),(g,.box (.s q)),(o,.box Bp)]:=⟨_,rfl⟩;have d:∀s D r q,t s D r q=[(ρ,LP s D),(j,.box (.s r)),(g,.box (.s q)),(o,.box Bp)]:=λs D r q=>by rw[aM]
  have Z:∀s D r q,lk (t s D r q) ρ=some (LP s D):=λs D r q=>by rw[d];simp[lk]
  have hI:∀s D r q,lk (t s D r q) f=none:=λs D r q=>by rw[d];simp[lk,rs,AfT N,AfT M,AfT K]
  have hY:∀k σ e,(∃r:Aa,I9 p (T.reverse.drop k) r=S/\r.length<=2^22/\σ=t .ready none r [])->k<T.length->T[T.length-1-k]?=some e->
    ∃R,S9 Tryz.prog W0 [.arr ρ,.i .i64 ((T.length:Int)-1-k),.s e] σ R/\∀n n' v σ',R n n' v σ'->(v=.b true/\∃r:Aa,I9 p (T.reverse.drop (k+1)) r=S/\r.length<=2^22/\σ'=t .ready none r [])\/(v=.b false/\∃r:Aa,σ'=t .done (some none) r S):=by
   rintro k _ e ⟨r,E,bk,rfl⟩ hk B;obtain⟨R,hR⟩:∃R:Nat->Nat->V->Aj->Prop,R=λn n' v σ'=>(v=.b true/\∃r:Aa,I9 p (T.reverse.drop (k+1)) r=S/\r.length<=2^22/\σ'=t .ready none r [])\/(v=.b false/\∃r:Aa,σ'=t .done (some none) r S):=⟨_,rfl⟩;refine⟨R,?_,λn n' v σ' h=>by rw[hR] at h;exact h⟩;have hd:T.reverse.drop k=e::T.reverse.drop (k+1):=by
    rw[Azs (by simpa using hk)];congr 1;have:T.reverse[k]?=some e:=by rw[List.getElem?_reverse hk];exact B
    rw[Afb (by simpa using hk)] at this;exact Option.some.inj this
   have aN:(T.reverse.drop (k+1)).isEmpty=((T.length:Int)-1-k==0):=by rw[Ats,Ay8,List.drop_eq_nil_iff,beq_iff_eq,AzG];omega
   rw[hd,I9,aN] at E;have au:=Z .ready none r [];rw[m] at au;refine Aj6 sO au rfl rfl rfl λn hn=>?_;clear hn;rw[aq];simp only[H8];rw[d,A];have f1:(ρ=j)=False:=eq_false r6;have f2:(ρ=g)=False:=eq_false r4;have f3:(ρ=o)=False:=eq_false r2;have I:(j=g)=False:=eq_false w;have f5:(j=o)=False:=eq_false ap;have f6:(g=o)=False:=eq_false ao;have f7:(g=j)=False:=eq_false (AfT w);have f8:(j=ρ)=False:=eq_false (AfT r6);have f9:(g=ρ)=False:=eq_false (AfT r4);have ba:e.length<=2^20:=hT e (AzT B);simp only[push_cast,seval,reduceEqDiff,f1,f2,f3,I,f5,f6,f7,f8,f9];intro k1 k2;refine⟨66,F,[49,50],DQ,DN,none,by rw[m],?_⟩;cases hg:decide ((r.length:Int)>20000) with
   | true=>
    rw[if_pos (of_decide_eq_true hg)] at E;subst E;simp only[push_cast,seval,reduceEqDiff,f1,f2,f3,I,f5,f6,f7,f8,f9,hg];intros;refine⟨_,Ak.refl,some none,66,F,[49,50],DQ,DN,.busy,none,t .done (some none) r r,rfl,?_,?_,?_⟩
    .simp[lk]
    .rw[d,m,A];simp only[upd,if_true];exact λ_ _ h=>h
    .rw[hR];exact .inr ⟨rfl,r,rfl⟩
   | false=>
    have aP:=of_decide_eq_false hg;rw[if_neg aP] at E;obtain⟨Q,hQ⟩:∃Q:Aa,Q=if((T.length:Int)-1-k==0)=true then p.start else p.mid:=⟨_,rfl⟩
    have aL:Q.length<=2^20:=by rw[hQ];split<;>assumption
    rw[<-hQ] at E;obtain⟨c2,bd⟩:=hf Q e r aL (by omega) (by omega);generalize bc:EB Q e r=r' at *;cases G:((T.length:Int)-1-k==0) with
    | true=>
     rw[G,if_pos rfl] at hQ;subst hQ;simp only[push_cast,seval,reduceEqDiff,f1,f2,f3,I,f5,f6,f7,f8,f9,hg,G];have _h:=trivial;repeat' (first|(first|((first|apply Ab|apply Ag|apply Ah)<;>intro _h)|refine Ac c2 ?_)<;>simp only[push_cast,seval,reduceEqDiff,_h,f1,f2,f3,I,f5,f6,f7,f8,f9]|intro _)
     refine⟨_,Ak.refl,none,66,F,[49,50],DQ,DN,.busy,none,t .ready none r' [],rfl,?_,?_,?_⟩
     .simp[lk]
     .rw[d,m,A];simp only[upd,if_true];exact λ_ _ h=>h
     .rw[hR];exact .inl ⟨rfl,r',E,by omega,rfl⟩
    | false=>
     rw[G,if_neg (by simp)] at hQ;subst hQ;simp only[push_cast,seval,reduceEqDiff,f1,f2,f3,I,f5,f6,f7,f8,f9,hg,G];have _h:=trivial;repeat' (first|(first|((first|apply Ab|apply Ag|apply Ah)<;>intro _h)|refine Ac c2 ?_)<;>simp only[push_cast,seval,reduceEqDiff,_h,f1,f2,f3,I,f5,f6,f7,f8,f9]|intro _)
     refine⟨_,Ak.refl,none,66,F,[49,50],DQ,DN,.busy,none,t .ready none r' [],rfl,?_,?_,?_⟩
     .simp[lk]
     .rw[d,m,A];simp only[upd,if_true];exact λ_ _ h=>h
     .rw[hR];exact .inl ⟨rfl,r',E,by omega,rfl⟩
  rw[<-A];have J:restrict [2,4,6,49,50] [(2,V.ref o 0),(4,.ref g 0),(6,.ref j 0),(48,.fn 314 [] [.ref f 0])]=F:=by rw[aq];simp[restrict,get]
  refine Ak5 sO rfl (AaA W0 T (by omega) (n3,0) f (λk σ=>∃r:Aa,I9 p (T.reverse.drop k) r=S/\r.length<=2^22/\σ=t .ready none r []) (λσ=>∃r:Aa,σ=t .done (some none) r S) ?_ (by rw[<-ae];exact hY) (t .ready none r0 []) ⟨r0,by simpa using hS,by omega,rfl⟩) ?_ ?_
  .rintro k _ ⟨r,_,_,rfl⟩;exact hI _ _ _ _
  .rw[J,<-ae,d,m];intro id e h;simp only[lk,Auh,AwM] at h⊢;by_cases x1:f=id
   .subst x1;simpa[rs,AfT N,AfT M,AfT K] using h
   .simpa[x1] using h
  .rintro n' v σo bf ho;rw[J,<-ae];have aR:over (t .ready none r0 []++[(f,.box (.sl (T.map V.s)))]) σo [(ρ,A5.loop 66 F [49,50] DQ DN .ready none),(f,.box (.sl (T.map V.s))),(j,.box (.s r0)),(g,.box (.s [])),(o,.box Bp)]=σo:=by unfold over;rw[d];simp[lk,r6,r4,r2,rs,w,ap,ao,AfT N,AfT M,AfT K]
   rw[aR];rcases ho with⟨r,E,_,rfl⟩|⟨r,rfl⟩
   .rw[List.drop_eq_nil_of_le (by simp),I9] at E;subst E;refine⟨66,F,[49,50],DQ,DN,.ready,none,by rw[Z,m],rfl,?_⟩;rw[d,A];have I:(j=g)=False:=eq_false w;have f8:(j=ρ)=False:=eq_false (AfT r6);have f9:(g=ρ)=False:=eq_false (AfT r4);have fa:(o=ρ)=False:=eq_false (AfT r2);have fb:(j=g)=False:=eq_false w;simp only[push_cast,seval,reduceEqDiff,I,jL,f8,f9,fa,fb];intro k;exact Gz (u:=.s r) rfl (by simp[lk,w]) rfl
   .refine⟨66,F,[49,50],DQ,DN,.done,some none,by rw[Z,m],rfl,?_⟩;rw[d,A];have f8:(j=ρ)=False:=eq_false (AfT r6);have f9:(g=ρ)=False:=eq_false (AfT r4);have fa:(o=ρ)=False:=eq_false (AfT r2);simp only[push_cast,seval,reduceEqDiff,jL,f8,f9,fa];exact Gz (u:=.s S) rfl (by simp[lk,w]) rfl
theorem AcG(i:Nat)(h:i<2):(AW i).length=3:=by
 have:i=0\/i=1:=by omega
 rcases this with rfl|rfl<;>(unfold AW Lib.decDigits;rfl)
theorem HM:∀(s p:Aa),Lib.index s p=-1\/0<=Lib.index s p/\Lib.index s p+p.length<=s.length
 | [],p=>by unfold Lib.index;grind
 | b::l,p=>by
  unfold Lib.index;split
  .grind
  .split
   .left;rfl
   .rename_i h;right;rcases HM l p with a|⟨a,c⟩
    .grind
    grind
theorem Aa3(s p:Aa)(hp:p.length=3)(h:Lib.count s p=1):(Lib.replace s p [0] 1).length<=s.length:=by
 have a:(p==[0])=false:=by grind
 unfold Lib.replace Lib.replaceNum;rw[a];simp only[AcT,if_false,h];have b:¬((1:Int)<0\/((1:Nat):Int)<1):=by omega
 rw[if_neg b];show(Lib.replaceK p [0] 1 s).length<=s.length;unfold Lib.replaceK;split
 .omega
 .rename_i d;rcases HM s p with c|⟨c,e⟩
  .grind
  .unfold Lib.replaceK;grind
theorem NV(y:Bi W0)(s:Aa)(n:Nat)(E:1<=n)(F:n<=2)(A:s.length<=2^20):Al Tryz.prog W0 212 [.s s,.i .i64 n] [] (.b (Pj s n)) []:=by
 generalize hS:Pj s n=S;unfold Pj at hS;have r:decide ((n:Int)<1)=false:=by simp;omega
 have t:decide ((n:Int)>9)=false:=by simp;omega
 refine Ae (vs:=[.b S]) AiA (by simp) (by simp) λn0 u=>?_;clear u;simp only[push_cast,seval,reduceEqDiff,r,t]
 repeat' (first|(((first|apply Ab|apply Ag|apply Ah)<;>intro _h)<;>simp only[push_cast,seval,reduceEqDiff,_h,r,t])|(refine Ar (by simp only[AhT,AiL,Ank,AJ]<;>omega) ?_;simp only[push_cast,seval,reduceEqDiff,r,t])|intro _)
 refine Am n (Inv:=λm st=>∃k q i,m+i=n/\Sj m i q=S/\q.length<=2^20/\st=⟨[(0,.s q),(13,.i .i64 n),(14,.i .i64 (i:Nat))],[],k⟩) ⟨_,Ak.refl,_,s,0,rfl,hS,A,rfl⟩ ?_;clear hS A;rintro m _ ⟨k,q,i,H,d,I,rfl⟩;cases m with
 | zero=>
  rw[Sj] at d;subst d;have a:decide ((i:Int)<(n:Int))=false:=by simp;omega
  have C:=tL W0 q (by omega);simp only[push_cast,seval,reduceEqDiff,a];have _h:=trivial;repeat' (first|(first|((first|apply Ab|apply Ag|apply Ah)<;>intro _h)|refine Ac C ?_|refine Ar (by simp only[AhT,AiL,Ank,AJ]<;>omega) ?_)<;>simp only[push_cast,seval,reduceEqDiff,_h,a]|intro _)
  exact Af (by simp[get])
 | succ m=>
  have a:decide ((i:Int)<(n:Int))=true:=by simp;omega
  have g:=AcG i (by omega);have l:=Akn W0 i (by omega);have j:=Ac3 W0 y q (AW i) (by omega) (by omega);rw[Sj] at d;have v:=Aa3 q (AW i) g;have e:123::Lib.decDigits i++[125]=AW i:=by unfold AW;simp
  have D:(Lib.decDigits i).length=1:=by unfold AW at g;simp at g;omega
  have w:=fun(h:(Lib.replace q (AW i) [0] 1).length<=AJ)=>LJ W0 y q (AW i) [0] 1 (by omega) (by omega) (by simp;omega) h;have p:IntKind.i64.wrap ((i:Int)+1)=((i+1:Nat):Int):=by rw[wrap64 (by omega) (by omega)];omega
  have k1:(1+(Lib.decDigits i).length<=AJ)=True:=eq_true (by unfold AJ;omega);have k2:((123::Lib.decDigits i).length+1<=AJ)=True:=eq_true (by simp;unfold AJ;omega);have c:((Lib.count q (AW i):Int)==1)=(Lib.count q (AW i)==1):=by rw[Ats];simp;omega
  generalize G:AW i=x at *;cases f:(Lib.count q x==1) with
  | true=>
   rw[f] at d;simp only[if_true] at d;have z:=v (by simpa using f);have o:=w (by unfold AJ;omega);generalize Lib.replace q x [0] 1=B at *;simp only[push_cast,seval,reduceEqDiff,a,p,k1,k2,e,c,f,bne];have _h:=trivial;repeat' (first|(first|((first|apply Ab|apply Ag|apply Ah)<;>intro _h)|refine Ac l ?_|refine Ac j ?_|refine Ac o ?_|refine Ar (by simp only[AhT,AiL,Ank,AJ]<;>omega) ?_)<;>simp only[push_cast,seval,reduceEqDiff,_h,a,p,k1,k2,e,c,f,bne]|intro _)
   exact⟨m,_,AzS _,Ak.refl,_,B,i+1,by omega,d,by omega,by rw[Int.natCast_add];rfl⟩
  | false=>
   rw[f] at d;simp only[if_false,AcT] at d;subst d;simp only[push_cast,seval,reduceEqDiff,a,p,k1,k2,e,c,f,bne];have _h:=trivial;repeat' (first|(first|((first|apply Ab|apply Ag|apply Ah)<;>intro _h)|refine Ac l ?_|refine Ac j ?_|refine Ar (by simp only[AhT,AiL,Ank,AJ]<;>omega) ?_)<;>simp only[push_cast,seval,reduceEqDiff,_h,a,p,k1,k2,e,c,f,bne]|intro _)
   exact Af (by simp[get])
theorem OC(s p:Aa):(Lib.cut s p).1.length+(Lib.cut s p).2.1.length<=s.length:=by unfold Lib.cut;grind
def AkV:CJ:=⟨[],[],[],[],[]⟩
theorem zV(L:BR)(a:Aa)(j:L.lists.length<=2^20):Al Tryz.prog W0 219 [L.enc,.s a] [] (.tup [((GW a L.lists).getD AkV).enc,.b (GW a L.lists).isSome]) []:=by
 generalize hS:GW a L.lists=S;rw[BR.enc_eq];refine Ae (vs:=[(S.getD AkV).enc,.b S.isSome]) AjK (by simp) (by simp) λn0 g=>?_;clear g;simp only[push_cast,seval,reduceEqDiff]
 repeat' (first|(((first|apply Ab|apply Ag|apply Ah)<;>intro _h)<;>simp only[push_cast,seval,reduceEqDiff,_h])|(refine Ar (by omega) ?_;simp only[push_cast,seval,reduceEqDiff])|intro _)
 rename_i k1 k2;refine Am L.lists.length (Inv:=λm st=>∃dn rest n,L.lists=dn++rest/\m=rest.length/\GW a rest=S/\st=⟨[(1,.s a),(4,.ref (n0,4) 0),(9,.sl (L.lists.map CJ.enc)),(10,.i .i64 L.lists.length),(11,.i .i64 dn.length)],[((n0,4),.box (.agg [.s [],.s [],.s [],.s [],.s []]))],n⟩) ⟨_,Ak.pre (σ:=[_]) (AzR _),[],L.lists,_,rfl,rfl,hS,rfl⟩ ?_;clear hS;rintro m _ ⟨dn,rest,n,e,rfl,c,rfl⟩;cases rest with
 | nil=>
  rw[GW] at c;subst c;simp only[push_cast,seval,reduceEqDiff,e]
  repeat' (first|(((first|apply Ab|apply Ag|apply Ah)<;>intro _h)<;>simp only[push_cast,seval,reduceEqDiff,_h])|(refine Ar (by omega) ?_;simp only[push_cast,seval,reduceEqDiff])|intro _)
  refine Ad ?_;simp[push_cast,get,AkV]
 | cons p rest=>
  have h:=AM e;rw[GW] at c;have f:∀k:Nat,(((n+1+k,7):Id)=(n0,4))=False:=λk=>by simp
  cases d:(p.style==a) with
  | true=>
   rw[d] at c;simp only[if_true] at c;subst c;simp only[push_cast,seval,reduceEqDiff,e,Ai p (dn:=dn) (by omega),f,d]
   repeat' (first|(((first|apply Ab|apply Ag|apply Ah)<;>intro _h)<;>simp only[push_cast,seval,reduceEqDiff,_h,e,Ai p (dn:=dn) (by omega),f,d])|(refine Ar (by omega) ?_;simp only[push_cast,seval,reduceEqDiff,e,Ai p (dn:=dn) (by omega),f,d])|intro _)
   refine Ad ?_;simp[push_cast,get]
  | false=>
   rw[d] at c;simp only[if_false,AcT] at c;simp only[push_cast,seval,reduceEqDiff,e,Ai p (dn:=dn) (by omega),f,d]
   repeat' (first|(((first|apply Ab|apply Ag|apply Ah)<;>intro _h)<;>simp only[push_cast,seval,reduceEqDiff,_h,e,Ai p (dn:=dn) (by omega),f,d])|(refine Ar (by omega) ?_;simp only[push_cast,seval,reduceEqDiff,e,Ai p (dn:=dn) (by omega),f,d])|intro _)
   exact⟨_,_,AzS _,Ak.drop1 (by simp[lk]) (AzR _),dn++[p],rest,_,by simp,rfl,c,rfl⟩
theorem Air(j:Bi W0)(p a b:Aa)(hp:p.length<=2^20)(q:a.length<=2^21)(r:b.length<=2^21):Al Tryz.prog W0 280 [.s p,.s a,.s b] [] (.s (EB p a b)) []/\(EB p a b).length<=p.length+a.length+b.length:=by
 have e0:AW 0=[123,48,125]:=by unfold AW Lib.decDigits;rfl
 have m:AW 1=[123,49,125]:=by unfold AW Lib.decDigits;rfl
 have i:=S3 W0 j p (AW 0) (by omega);have o:=OC p (AW 0);have d:=S3 W0 j (Lib.cut p (AW 0)).1 (AW 1) (by omega);have l1:=OC (Lib.cut p (AW 0)).1 (AW 1);have f:=S3 W0 j (Lib.cut p (AW 0)).2.1 (AW 1) (by omega);have l:=OC (Lib.cut p (AW 0)).2.1 (AW 1);generalize hS:EB p a b=S;unfold EB at hS;rw[e0] at i o d l1 f l hS;rw[m] at d l1 f l hS;generalize Lib.cut p [123,48,125]=e at *;generalize Lib.cut e.1 [123,49,125]=g at *;generalize Lib.cut e.2.1 [123,49,125]=k at *;cases h:g.2.2 with
 | true=>
  rw[h] at d hS;simp only[if_true] at hS;subst hS;refine⟨?_,by simp only[AhT];omega⟩;refine Ae (vs:=[.s (g.1++b++g.2.1++a++e.2.1)]) dE (by simp) (by simp) λn0 c=>?_;clear c;simp only[push_cast,seval,reduceEqDiff];have _h:=trivial;repeat' (first|(first|((first|apply Ab|apply Ag|apply Ah)<;>intro _h)|refine Ac i ?_|refine Ac d ?_|refine Ac f ?_|refine Ar (by simp only[AhT,AiL,Ank,AJ]<;>omega) ?_)<;>simp only[push_cast,seval,reduceEqDiff,_h]|intro _)
  exact Af (by simp[get])
 | false=>
  rw[h] at d hS;simp only[if_false,AcT] at hS;subst hS;refine⟨?_,by simp only[AhT];omega⟩;refine Ae (vs:=[.s (e.1++a++k.1++b++k.2.1)]) dE (by simp) (by simp) λn0 c=>?_;clear c;simp only[push_cast,seval,reduceEqDiff];have _h:=trivial;repeat' (first|(first|((first|apply Ab|apply Ag|apply Ah)<;>intro _h)|refine Ac i ?_|refine Ac d ?_|refine Ac f ?_|refine Ar (by simp only[AhT,AiL,Ank,AJ]<;>omega) ?_)<;>simp only[push_cast,seval,reduceEqDiff,_h]|intro _)
  exact Af (by simp[get])
structure AfO (L:BR):Prop where
 n:L.lists.length<=2^20
 t:∀p∈L.lists,p.two.length<=2^20/\p.start.length<=2^20/\p.mid.length<=2^20/\p.fin.length<=2^20
theorem Ns{st:Aa}:∀{l:List CJ} {p:CJ},GW st l=some p->p∈l
 | [],p,h=>by cases h
 | x::l,p,h=>by
  rw[GW] at h;split at h
  .cases h;simp
  .exact AzQ _ (Ns h)
theorem Aa2(f:Bi W0)(p:CJ)(l:List Aa)(hp:p.two.length<=2^20/\p.start.length<=2^20/\p.mid.length<=2^20/\p.fin.length<=2^20)(g:l.length<=1000)(h:∀s∈l,s.length<=2^20):Al Tryz.prog W0 220 [p.enc,.sl (l.map V.s)] [] (.s (N4 p l)) []:=by exact pM W0 p l hp g h (λq a b c d e=>Air W0 f q a b c d e)
theorem YK(C:Bi W0)(L:BR)(B:AfO L)(b:Aa)(l:List Aa)(J:l.length<=2^30)(H:∀s∈l,s.length<=2^20):Al Tryz.prog W0 159 [L.enc,.s b,.sl (l.map V.s)] [] (.tup [.s (Fb L b l).1,.i .i64 (Fb L b l).2]) []:=by
 have g:=zV W0 L b B.n;generalize hS:Fb L b l=S;unfold Fb at hS;rw[BR.enc_eq] at g⊢;cases x:GW b L.lists with
 | none=>
  rw[x] at g hS;simp only[Option.getD_none,AxE] at g;simp only at hS;subst hS;refine Ae (vs:=[.s [],.i .i64 18]) eC (by simp) (by simp) λn0 k=>?_;clear k;simp only[push_cast,seval,reduceEqDiff];have _h:=trivial;repeat' (first|(first|((first|apply Ab|apply Ag|apply Ah)<;>intro _h)|refine Ac g ?_|refine Ar (by omega) ?_)<;>simp only[push_cast,seval,reduceEqDiff,_h]|intro _)
  refine Ad ?_;simp[push_cast,get]
 | some p=>
  have A:=B.t p (Ns x);rw[x] at g hS;simp only[Option.getD_some,Atq] at g;simp only at hS;have r:=λh=>Aa2 W0 C p l A h H;generalize N4 p l=v at *;rw[CJ.enc_eq] at g r;have j:uS p=[p.two,p.start,p.mid,p.fin].all λs=>Pj s 2:=rfl;obtain⟨Q,u⟩:∃Q,Q=[p.two,p.start,p.mid,p.fin]:=⟨_,rfl⟩
  have z:∀s∈Q,s.length<=2^20:=by grind
  have y:Q.length=4:=by rw[u];rfl
  have q:Q.map V.s=[.s p.two,.s p.start,.s p.mid,.s p.fin]:=by rw[u];rfl
  rw[<-u] at j;generalize uS p=I at *;clear u;refine Ae (vs:=[.s S.1,.i .i64 S.2]) eC (by simp) (by simp) λn0 k=>?_;clear k;simp only[push_cast,seval,reduceEqDiff];have _h:=trivial;repeat' (first|(first|((first|apply Ab|apply Ag|apply Ah)<;>intro _h)|refine Ac g ?_|refine Ar (by omega) ?_)<;>simp only[push_cast,seval,reduceEqDiff,_h]|intro _)
  rename_i k1 k2 k3 K;have f:(4:Int)=(Q.length:Int):=by rw[y];rfl
  generalize G:((n0+1+k1,8):Id)=E;refine Am Q.length (Inv:=λm st=>∃dn rest n,Q=dn++rest/\m=rest.length/\(if rest.all (λs=>Pj s 2) then(if(l.length:Int)>1000 then(([]:Aa),(6:Int)) else if(v.length:Int)>20000 then([],6) else(v,0)) else([],4))=S/\st=⟨[(2,.sl (l.map V.s)),(8,.ref E 0),(29,.sl (Q.map V.s)),(30,.i .i64 Q.length),(31,.i .i64 dn.length)],[(E,.box (.agg [.s p.style,.s p.two,.s p.start,.s p.mid,.s p.fin]))],n⟩) ⟨_,Ak.pre (σ:=[_]) (AzR _),[],Q,_,rfl,rfl,by rw[<-j];exact hS,by rw[q,<-f];rfl⟩ ?_;clear hS j q f;rintro m _ ⟨dn,rest,n,e,rfl,a,rfl⟩;cases rest with
  | nil=>
   simp only[List.all_nil,if_true] at a;cases c:decide ((l.length:Int)>1000) with
   | true=>
    rw[if_pos (of_decide_eq_true c)] at a;subst a;simp only[push_cast,seval,reduceEqDiff,c,e]
    repeat' (first|(((first|apply Ab|apply Ag|apply Ah)<;>intro _h)<;>simp only[push_cast,seval,reduceEqDiff,_h,c])|(refine Ar (by omega) ?_;simp only[push_cast,seval,reduceEqDiff,c])|intro _)
    refine Ad ?_;simp[push_cast,get]
   | false=>
    have w:=of_decide_eq_false c;rw[if_neg w] at a;have D:=r (by omega);cases o:decide ((v.length:Int)>20000) with
    | true=>
     rw[if_pos (of_decide_eq_true o)] at a;subst a;simp only[push_cast,seval,reduceEqDiff,c,o,e];have _h:=trivial;repeat' (first|(first|((first|apply Ab|apply Ag|apply Ah)<;>intro _h)|refine Ac D ?_|refine Ar (by omega) ?_)<;>simp only[push_cast,seval,reduceEqDiff,_h,c,o]|intro _)
     refine Ad ?_;simp[push_cast,get]
    | false=>
     rw[if_neg (of_decide_eq_false o)] at a;subst a;simp only[push_cast,seval,reduceEqDiff,c,o,e];have _h:=trivial;repeat' (first|(first|((first|apply Ab|apply Ag|apply Ah)<;>intro _h)|refine Ac D ?_|refine Ar (by omega) ?_)<;>simp only[push_cast,seval,reduceEqDiff,_h,c,o]|intro _)
     refine Ad ?_;simp[push_cast,get]
  | cons s rest=>
   have F:=AM e;have d:=NV W0 C s 2 (by omega) (by omega) (z s (by rw[e];simp));rw[Azb] at a;cases hB:Pj s 2 with
   | true=>
    rw[hB] at a d;simp only[Au4] at a;simp only[push_cast,seval,reduceEqDiff,e,Ai s (dn:=dn) (by omega)];have _h:=trivial;repeat' (first|(first|((first|apply Ab|apply Ag|apply Ah)<;>intro _h)|refine Ac d ?_|refine Ar (by omega) ?_)<;>simp only[push_cast,seval,reduceEqDiff,_h,e,Ai s (dn:=dn) (by omega)]|intro _)
    exact⟨_,_,AzS _,Ak.refl,dn++[s],rest,_,by simp,rfl,a,rfl⟩
   | false=>
    rw[hB] at a d;simp only[AxA,AcT,if_false] at a;subst a;simp only[push_cast,seval,reduceEqDiff,e,Ai s (dn:=dn) (by omega)];have _h:=trivial;repeat' (first|(first|((first|apply Ab|apply Ag|apply Ah)<;>intro _h)|refine Ac d ?_|refine Ar (by omega) ?_)<;>simp only[push_cast,seval,reduceEqDiff,_h,e,Ai s (dn:=dn) (by omega)]|intro _)
    refine Ad ?_;simp[push_cast,get]
def II(l:List (Aa×Aa×Aa)):List (V×V):=l.map λe=>(.agg [.s e.1,.s e.2.1],.s e.2.2)
def UK:Cr:=.st [(0,.str),(1,.str)]
def Fa(u c:Aa):List (Aa×Aa×Aa)->Option Aa
 | []=>none
 | e::l=>if u==e.1&&c==e.2.1 then some e.2.2 else Fa u c l
theorem Tb(u c:Aa):∀(l:List (Aa×Aa×Aa)) (n:Nat),(∃i p,Fa u c l=some p/\Bs UK (.agg [.s u,.s c]) (II l) n=some (some (i,.s p)))\/(Fa u c l=none/\Bs UK (.agg [.s u,.s c]) (II l) n=some none):=by
 intro l
 induction l with
 | nil=>intro n;right;exact⟨rfl,rfl⟩
 | cons e l d=>
  intro n;have a:Ef UK (.agg [.s u,.s c]) (.agg [.s e.1,.s e.2.1])=some (u==e.1&&c==e.2.1):=by unfold UK Ef;simp only[AiL,Ank,and_self,if_true,eqO,Ayf,AxG,DB];cases(u==e.1)<;>cases(c==e.2.1)<;>rfl
  have b:Bs UK (.agg [.s u,.s c]) (II (e::l)) n=(match Ef UK (.agg [.s u,.s c]) (.agg [.s e.1,.s e.2.1]) with
   | some true=>some (some (n,.s e.2.2))
   | some false=>Bs UK (.agg [.s u,.s c]) (II l) (n+1)
   | none=>none):=rfl
  rw[b,a,Fa];grind
def Pz(l:List (Aa×Aa×Aa))(x:D6):List (Aa×Aa×Aa):=match Fa x.unit x.cls l with
 | some _=>l
 | none=>l++[(x.unit,x.cls,x.pat)]
theorem ZX(u c:Aa)(l:List (Aa×Aa×Aa))(e:Aa×Aa×Aa):Fa u c (l++[e])=match Fa u c l with
  | some p=>some p
  | none=>if u==e.1&&c==e.2.1 then some e.2.2 else none:=by
 induction l with
 | nil=>rfl
 | cons x l a=>rw[Auh,Fa,Fa];grind
theorem LM(u c:Aa):∀(us:List D6) (l:List (Aa×Aa×Aa)),Fa u c (us.foldl Pz l)=match Fa u c l with
  | some p=>some p
  | none=>K9 u c us:=by
 intro us
 induction us with
 | nil=>intro l;simp only[Ayd,K9];split<;>simp_all
 | cons x us b=>
  intro l;rw[AvR,b,K9];have a:(x.unit==u&&x.cls==c)=(u==x.unit&&c==x.cls):=by grind
  rw[a];unfold Pz;cases d:Fa x.unit x.cls l with
  | some p=>grind
  | none=>simp only;rw[ZX];grind
theorem JH(l:List (Aa×Aa×Aa))(u c p:Aa):II l++[(.agg [.s u,.s c],.s p)]=II (l++[(u,c,p)]):=by simp[II]
theorem Ajj(L:BR)(x:L.units.length<=2^20):Iu Tryz.prog W0 268 [L.enc] [] (.map (II (L.units.foldl Pz []))) []:=by
 generalize hS:L.units.foldl Pz []=S;rw[BR.enc_eq];refine VK (s:=2) Ajt (by simp) (by simp[lk]) λn0 r=>?_;clear r;simp only[push_cast,seval,reduceEqDiff]
 repeat' (first|(((first|apply Ab|apply Ag|apply Ah)<;>intro _h)<;>simp only[push_cast,seval,reduceEqDiff,_h])|(refine Ar (by omega) ?_;simp only[push_cast,seval,reduceEqDiff])|intro _)
 rename_i k1 k2 k3;generalize t:((n0+1+k1,9):Id)=mid;have q:mid.1<n0+1+k1+1+k2+1+k3:=by grind
 generalize n0+1+k1+1+k2+1+k3=y at *;refine Am L.units.length (Inv:=λm st=>∃dn rest n M,L.units=dn++rest/\m=rest.length/\rest.foldl Pz M=S/\mid.1<n/\st=⟨[(3,.arr mid),(11,.sl (L.units.map D6.enc)),(12,.i .i64 L.units.length),(13,.i .i64 dn.length)],[(mid,.map (II M))],n⟩) ⟨_,Ak.drop (λi e h=>AB (τ:=[_]) h) (AzR _),[],L.units,_,[],rfl,rfl,hS,q,rfl⟩ ?_;clear hS q;rintro m _ ⟨dn,rest,n,M,g,rfl,f,w,rfl⟩;cases rest with
 | nil=>simp only[Ayd] at f;subst f;simp only[push_cast,seval,reduceEqDiff,g];intros;exact Abt rfl (by simp[lk])
 | cons u rest=>
  have v:=AM g;rw[AvR] at f;have d:∀k j,(mid=(n+1+k,j))=False:=λk j=>eq_false λo=>by grind
  have c:∀k j,((n+1+k,j)=mid)=False:=λk j=>eq_false λo=>of_eq_false (d k j) o.symm;have b:∀k l j,(mid=(n+1+k+1+l,j))=False:=λk l j=>eq_false λo=>by grind
  have a:∀k l j,((n+1+k+1+l,j)=mid)=False:=λk l j=>eq_false λo=>of_eq_false (b k l j) o.symm;unfold Pz at f;rcases Tb u.unit u.cls M 0 with⟨i,p,h1,h2⟩|⟨h1,h2⟩
  .rw[h1] at f;simp only at f;unfold UK at h2;simp only[push_cast,seval,reduceEqDiff,g,Ai u (dn:=dn) (by omega),h2,d,c,b,a]
   repeat' (first|(((first|apply Ab|apply Ag|apply Ah)<;>intro _h)<;>simp only[push_cast,seval,reduceEqDiff,_h,g,Ai u (dn:=dn) (by omega),h2,d,c,b,a])|(refine Ar (by omega) ?_;simp only[push_cast,seval,reduceEqDiff,g,Ai u (dn:=dn) (by omega),h2,d,c,b,a])|intro _)
   exact⟨_,_,AzS _,Ak.drop (λi e h=>by obtain⟨rfl,rfl⟩:=X6 h;simp[lk,c,a]) (AzR _),dn++[u],rest,_,_,by simp,rfl,f,by omega,rfl⟩
  .rw[h1] at f;simp only at f;unfold UK at h2;simp only[push_cast,seval,reduceEqDiff,g,Ai u (dn:=dn) (by omega),h2,d,c,b,a,JH]
   repeat' (first|(((first|apply Ab|apply Ag|apply Ah)<;>intro _h)<;>simp only[push_cast,seval,reduceEqDiff,_h,g,Ai u (dn:=dn) (by omega),h2,d,c,b,a,JH])|(refine Ar (by omega) ?_;simp only[push_cast,seval,reduceEqDiff,g,Ai u (dn:=dn) (by omega),h2,d,c,b,a,JH])|intro _)
   exact⟨_,_,AzS _,Ak.drop (λi e h=>by obtain⟨rfl,rfl⟩:=X6 h;simp[lk,c,a]) (AzR _),dn++[u],rest,_,_,by simp,rfl,f,by omega,rfl⟩
end Go.Ir
