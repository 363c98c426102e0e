/- A part of the proof that the law EvalFlat answers true at every input of a bulk of at most 2^20. -/
import Derived.Test.YtkejfpeffolhpaaGreatDoorPac
import Derived.BigCall
import Derived.Laws.IdiomStrings
import Derived.Shelf.Strings.IndexAnyAll
import Derived.Lib.OthersKept
import Derived.Scope
import Derived.RegionCalls
import Derived.BigRegion
import Derived.Deep.RegionWith
import Derived.Laws.Runes
import Derived.Laws.RangeAny
set_option linter.all false
set_option maxHeartbeats 4000000
set_option maxRecDepth 1000000
open Nat renaming reduceEqDiff→rq
open Int renaming reduceBEq→rn
open Int renaming reduceBNe→qz
namespace Go.Ir
open Go.Proofs
variable(O:World)
def J3(a:List Hj):Int:=(a.map λr=>1+(r.spans.length:Int)).sum
theorem YR a:0<=J3 a:=by
 induction a with
 | nil=>simp[J3]
 | cons r a b=>simp[J3] at *;omega
theorem Ac0 a:J3 a<Dy a:=by
 induction a with
 | nil=>simp[J3,Dy]
 | cons r a b=>simp[J3,Dy,Hj.wt] at *;omega
theorem fW r a:J3 (r::a)=(1+(r.spans.length:Int))+J3 a:=by simp[J3]
def uK(d:Int):List (List Hj)->Bool
 | []=>true
 | l::c=>!(decide (d+J3 l>80))&&uK (d+J3 l) c
def Ic(c:List (List Hj)):Bool:=uK 0 c&&decide ((c.length:Int)<=30)
theorem Akc c(F:E0 c<=2^24):Ak π O 64 [.sl (c.map Gv)] [] (.b (Ic c)) []:=by
 generalize hS:Ic c=S;refine Ac (vs:=[.b S]) ArD (by simp) (by simp) λn0 q=>?_;clear q;simp only[push_cast,rq];intros;have u:=Kx c;refine Aj c.length (Inv:=λm st=>∃dn a n d,c=dn++a/\m=a.length/\(uK d a&&decide ((c.length:Int)<=30))=S/\0<=d/\d<=80/\st=⟨[(0,.sl (c.map Gv)),(3,.i .i64 d),(4,.i .i64 dn.length)],[],n⟩) ⟨_,Ag.refl,[],c,_,0,rfl,rfl,hS,by omega,by omega,rfl⟩ ?_;clear hS;rintro m _ ⟨dn,a,n,d,h,rfl,k,o,A,rfl⟩;cases a with
 | nil=>
  subst k;simp only[push_cast,rq,h]
  repeat' (first|((apply AL<;>intro _h)<;>(simp only[push_cast,rq,_h];try (have _g:=_h;simp at _g)))|intro _)
  all_goals (refine Af ?_;simp[get,uK])
 | cons p a=>
  have x:=A9 h;have G:=Ke (l:=c) (r:=p) (by rw[h];simp);have C:=Ge p;have D:=YR p;have E:=Ac0 p;rw[uK] at k;simp only[push_cast,rq,h];intros;refine Aj p.length (Inv:=λm st=>∃j g n e,p=j++g/\m=g.length/\e+J3 g=d+J3 p/\0<=e/\st=⟨[(0,.sl (c.map Gv)),(3,.i .i64 e),(4,.i .i64 dn.length),(5,.i .i64 j.length)],[],n⟩) ⟨_,Ag.refl,[],p,_,_,rfl,rfl,rfl,o,by rw[h];rfl⟩ ?_;rintro m _ ⟨j,g,n,e,f,rfl,t,B,rfl⟩;cases g with
  | nil=>
   have:e=d+J3 p:=by simp[J3] at t⊢;omega
   subst this;simp only[push_cast,rq,h,f]
   repeat' (first|((apply AL<;>intro _h)<;>(simp only[push_cast,rq,Ae p (dn:=dn) (by omega)];try (have _g:=_h;simp at _g)))|intro _)
   all_goals (simp only[At9] at f;subst f)
   .refine Af ?_;subst k;simp[get, *]
   .exact⟨_,_,Ab4 _,Ag.refl,dn++[p],a,_,d+J3 p,by simp,rfl,by rw[<-k];simp[*],by omega,by omega,rfl⟩
  | cons r g=>have z:=A9 f;have s:=Ky (l:=p) (r:=r) (by simp[f]);rw[Hj.wt] at s;rw[fW] at t;have y:=YR g;have v:IntKind.i64.wrap (1+(r.spans.length:Int))=1+(r.spans.length:Int):=wrap64 (by omega) (by omega);have w:IntKind.i64.wrap (e+(1+(r.spans.length:Int)))=e+(1+(r.spans.length:Int)):=wrap64 (by omega) (by omega);simp only[push_cast,rq,h,f,Ae r (dn:=j) (by omega),v,w];intros;exact⟨_,_,Ab4 _,Ag.refl,j++[r],g,_,e+(1+(r.spans.length:Int)),by simp,rfl,by rw[<-f];omega,by omega,rfl⟩
end Go.Ir

namespace Go.Ir
open Go.Proofs
variable{P:Program}{O:World}{nt n:Nat}{Q:Exit→St→Prop}{env:BB}{σ:Aq}
def XN:IC:=sQ (oS [bZ 13 .eql 5 5,m1 12 13] [1,5,12] (cD 12 .skip (oP [bZ 14 .eql 5 6,m1 12 14] [1,12]))) (cD 12 (oR [m1 15 1,bZ 16 .eql 15 10,m1 17 16,BU 18 17 1,Fg 19 17 .eql 18 100,pO 20 17 19,m1 4 20] [4]) .skip)
def lC:IC:=.block 0 (sQ (oS [bZ 7 .eql 5 1,m1 6 7] [1,5,6] (cD 6 .skip (oP [bZ 8 .eql 5 2,m1 6 8] [1,5,6]))) (cD 6 (oR [o1 9 (.msl false 3 1 [ci 2,ci 3,ci 4,ci 5,ci 6,ci 10,ci 20,ci 25,ci 50,ci 100]),m1 10 1,q2 11 145 9 10,m1 4 11] [4]) XN))
def jY:IC:=oS [mC 4 (.b false)] [0,1] (sQ (oS [m1 5 0] [1,5] lC) (oR [mC 4 (.b false)] [4]))
def AsS:List R:=[.t 4]
def Ay1:=An XN.eq_1<|An lC.eq_1<|AR jY.eq_1
theorem Anv:Ao π 104 21 jY AsS=true:=by kernel_rfl
def nW:IC:=oS [mZ 2 0] [0] (sQ (oS [m1 3 0,bZ 4 .eql 3 3,m1 5 4,BU 6 5 0,Fg 7 5 .eql 6 4,pO 8 5 7] [8] (cD 8 (oR [mZ 2 6] [2]) .skip)) (oR [mZ 2 100] [2]))
def AqP:List R:=[.t 2]
def AyI:=AR nW.eq_1
theorem Anq:Ao π 105 9 nW AqP=true:=by kernel_rfl
def oO:IC:=sQ (.ops [fA 45 4 0,l1 46 45,bZ 47 .lss 46 0,m1 48 47,E5 49 48 4 0,Eh 50 48 49,E5 51 48 4 1,Eh 52 48 51,gF 53 48 (.bin .gtr (.t 50) (.t 52)),pO 54 48 53,m1 55 54,E5 56 55 4 1,Eh 57 55 56,E5 58 55 1 0,Eh 59 55 58,gF 60 55 (.call 105 [.t 59]),gF 61 55 (.bin .gtr (.t 57) (.t 60)),pO 62 55 61] [1,39,40,41,62] [[0,1],[1,2],[2,3],[3,4],[3,5],[4,5],[3,6],[3,7],[6,7],[3,8],[5,8],[7,8],[3,9],[8,9],[9,10],[10,11],[10,12],[11,12],[10,13],[10,14],[13,14],[10,15],[14,15],[10,16],[12,16],[15,16],[10,17],[16,17]]) (cD 62 (oR [mC 2 (.b false)] [2]) .skip)
def rQ:IC:=sQ (.block 1 (oS [iA 43 39 41 172 2,lA 44 43 2,o1 4 (.alloc (.agg [.i .i64 0,.i .i64 0])),sT 4 44 2] [1,4,39,40,41] oO)) (oP [bZ 63 .add 41 1,m1 41 63] [1,39,40,41])
def AiV:IC:=sQ (oS [fA 38 1 3,l1 39 38,nL 40 39,mZ 41 0] [1,39,40,41] (.block 0 (.loop (oS [bT 42 .lss 41 40] [1,39,40,41,42] (sQ (cD 42 .skip (.exit 0)) rQ))))) (oR [mC 2 (.b true)] [2])
def Agp:IC:=sQ (oS [fA 5 1 0,l1 6 5,bZ 7 .lss 6 1,m1 8 7,E5 9 8 1 0,Eh 10 8 9,Fg 11 8 .gtr 10 6,pO 12 8 11,m1 13 12,E5 14 13 1 1,Eh 15 13 14,Fg 16 13 .neq 15 0,BU 17 13 16,Fa 18 17 1 0,E3 19 17 18,Fa 20 17 1 1,E3 21 17 20,gT 22 17 (.call 104 [.t 19,.t 21]),gT 23 17 (.not (.t 22)),gF 24 13 (.pick (.t 17) (.t 23) (.c (.b false))),pO 25 13 24,m1 26 25,E5 27 26 1 3,Eh 28 26 27,gF 29 26 (.lenL (.t 28)),Fg 30 26 .lss 29 1,pO 31 26 30,m1 32 31,E5 33 32 1 3,Eh 34 32 33,gF 35 32 (.lenL (.t 34)),Fg 36 32 .gtr 35 4,pO 37 32 36] [1,37] (cD 37 (oR [mC 2 (.b false)] [2]) .skip)) AiV
def AhN:IC:=oS [bX 1 0,mC 2 (.b false)] [1] Agp
def AxC:List R:=[.t 2]
def A0X:=An oO.eq_1<|An rQ.eq_1<|An AiV.eq_1<|An Agp.eq_1<|AR AhN.eq_1
theorem Aut:Ao π 79 64 AhN AxC=true:=by kernel_rfl
def AhC:IC:=oS [bX 1 0,mC 2 (.b false)] [1] (oR [lA 3 1 4,q1 4 79 3,nT 5 4,m1 2 5] [2])
def AvN:List R:=[.t 2]
def AzO:=AR AhC.eq_1
theorem ApH:Ao π 78 6 AhC AvN=true:=by kernel_rfl
def Abe:IC:=sQ (oS [m1 12 5,nL 13 12,bZ 14 .eql 13 0,m1 15 14,BU 16 15 5,gF 17 15 (.calls 77 [.t 16,.c (.fn 78 [] [])]),pO 18 15 17] [0,3,5,6,7,8,18] (cD 18 (oR [mC 2 (.b false)] [2]) .skip)) (oP [m1 19 3,m1 20 5,nL 21 20,bT 22 .add 19 21,m1 3 22] [0,3,6,7,8])
def Aie:IC:=oS [bT 9 .lss 8 7] [0,3,6,7,8,9] (sQ (cD 9 .skip (.exit 0)) (sQ (.block 1 (oS [iA 10 6 8 154 1,l1 11 10,m1 5 11] [0,3,5,6,7,8] Abe)) (oP [bZ 23 .add 8 1,m1 8 23] [0,3,6,7,8])))
def AgM:IC:=sQ (oS [m1 6 0,nL 7 6,mZ 8 0] [0,3,6,7,8] (.block 0 (.loop Aie))) (oR [m1 24 0,nL 25 24,bZ 26 .gtr 25 0,m1 27 26,BY 28 27 3,Gi 29 27 .leq 28 6,pA 30 27 29,m1 2 30] [2])
def Agy:IC:=oS [mC 2 (.b false)] [0] (oS [mZ 3 0] [0,3] AgM)
def Awm:List R:=[.t 2]
def Azz:=An Abe.eq_1<|An Aie.eq_1<|An AgM.eq_1<|AR Agy.eq_1
theorem Arj:Ao π 39 31 Agy Awm=true:=by kernel_rfl
def sU:IC:=oR [l1 4 1,fA 5 2 0,l1 6 5,bT 7 .geq 4 6,m1 8 7,E3 9 8 1,Fa 10 8 2 1,E3 11 8 10,gT 12 8 (.bin .leq (.t 9) (.t 11)),pA 13 8 12,m1 3 13] [3]
def nZ:IC:=oS [bX 2 0,mC 3 (.b false)] [1,2] sU
def AoY:List R:=[.t 3]
def AxY:=An sU.eq_1<|AR nZ.eq_1
theorem AnA:Ao π 194 14 nZ AoY=true:=by kernel_rfl
def jN:IC:=oS [bX 3 1,mC 4 (.b false)] [0,3] (oR [m1 5 0,o1 6 (.mkfn 194 [] [.t 3]),o1 7 (.calls 193 [.t 5,.t 6]),m1 4 7] [4])
def Atb:List R:=[.t 4]
def AxS:=AR jN.eq_1
theorem AnK:Ao π 151 8 jN Atb=true:=by kernel_rfl
def XP:IC:=sQ (.ops [fA 25 2 3,l1 26 25,m1 27 5,q2 28 151 26 27,fA 29 2 2,l1 30 29,o1 31 (.eqb true (.t 28) (.t 30)),m1 4 31] [4] [[0,1],[1,3],[2,3],[4,5],[3,6],[5,6],[6,7]]) .ret
def vR:IC:=oS [m1 8 1,fA 9 2 0,l1 10 9,q2 11 150 8 10,m1 7 11,xT 12 7 0,xT 13 7 1,m1 5 12,m1 6 13] [2,5,6] (sQ (oS [m1 14 6,bZ 15 .neq 14 0] [2,5,15] (cD 15 (oR [fA 16 2 2,l1 17 16,m1 4 17] [4]) .skip)) (sQ (oS [fA 18 2 1,l1 19 18,bZ 20 .neq 19 0] [2,5,20] (cD 20 (oP [m1 21 5,fA 22 2 1,l1 23 22,bT 24 .rem 21 23,m1 5 24] [2,5]) .skip)) XP))
def xL:IC:=oS [bX 2 0,mC 4 (.b false)] [1,2] vR
def AtM:List R:=[.t 4]
def Ayb:=An XP.eq_1<|An vR.eq_1<|AR xL.eq_1
theorem AmF:Ao π 113 32 xL AtM=true:=by kernel_rfl
def tM:IC:=oS [bX 2 0,mC 3 (.b false)] [1,2] (oR [lA 4 2 4,l1 5 1,q2 6 113 4 5,nT 7 6,m1 3 7] [3])
def Aui:List R:=[.t 3]
def Ays:=AR tM.eq_1
theorem Am6:Ao π 112 8 tM Aui=true:=by kernel_rfl
def Aaf:IC:=oS [mC 3 (.b false)] [0,1] (oR [m1 4 0,o1 5 (.mkfn 112 [] [.t 1]),o1 6 (.calls 77 [.t 4,.t 5]),nT 7 6,m1 3 7] [3])
def ApR:List R:=[.t 3]
def AyL:=AR Aaf.eq_1
theorem AmM:Ao π 111 8 Aaf ApR=true:=by kernel_rfl
def Aii:IC:=sQ (oS [m1 6 0,q1 7 39 6,nT 8 7,m1 9 8,Eh 10 9 3,gF 11 9 (.call 52 [.t 10]),gF 12 9 (.not (.t 11)),pO 13 9 12] [0,3,13] (cD 13 (oR [mC 4 (.b false),mZ 5 1] [4,5]) .skip)) (oR [m1 14 0,o1 15 (.mkfn 111 [] [.t 3]),o1 16 (.calls 110 [.t 14,.t 15]),m1 4 16,mZ 5 0] [4,5])
def Ahp:IC:=oS [bX 3 1,mC 4 (.b false),mZ 5 0] [0,3] Aii
def Awr:List R:=[.t 4,.t 5]
def Az1:=An Aii.eq_1<|AR Ahp.eq_1
theorem As3:Ao π 87 17 Ahp Awr=true:=by kernel_rfl
def Ag8:IC:=oR [o1 1 (.build [.s [],.s [],.s [],.s [],.s [],.s []] [(0,1,.c (.s [122,101,114,111])),(1,1,.c (.s [111,110,101])),(2,1,.c (.s [116,119,111])),(3,1,.c (.s [102,101,119])),(4,1,.c (.s [109,97,110,121])),(5,1,.c (.s [111,116,104,101,114]))]),sT 0 1 6] [0]
def Ahx:IC:=oS [o1 0 (.alloc (.agg [.s [],.s [],.s [],.s [],.s [],.s []]))] [0] Ag8
def AuX:List R:=[.c 0 6 true]
def A0K:=An Ag8.eq_1<|AR Ahx.eq_1
theorem As0:Ao π 76 2 Ahx AuX=true:=by kernel_rfl
def AfC:IC:=oS [o1 4 (.call 76 []),o1 3 (.alloc (.agg [.s [],.s [],.s [],.s [],.s [],.s []])),sT 3 4 6] [0,3] (oR [o1 5 (.frz (.t 3) 6),m1 6 0,q2 7 53 5 6,m1 2 7] [2])
def AfR:IC:=oS [mC 2 (.b false)] [0] AfC
def Ax7:List R:=[.t 2]
def AzT:=An AfC.eq_1<|AR AfR.eq_1
theorem AtD:Ao π 38 8 AfR Ax7=true:=by kernel_rfl
def Agi:IC:=oS [bX 2 0,mC 3 (.b false)] [1,2] (oR [fA 4 2 0,l1 5 4,fA 6 1 0,l1 7 6,bT 8 .eql 5 7,m1 3 8] [3])
def Avw:List R:=[.t 3]
def AzA:=AR Agi.eq_1
theorem AoH:Ao π 41 9 Agi Avw=true:=by kernel_rfl
def vL:IC:=oS [fA 12 4 0,l1 13 12,q1 14 38 13,nT 15 14,m1 16 15,E5 17 16 4 0,Eh 18 16 17,gF 19 16 (.bin .eql (.t 18) (.c (.s [111,116,104,101,114]))),pO 20 16 19,m1 21 20,E5 22 21 4 1,Eh 23 21 22,gF 24 21 (.call 39 [.t 23]),gF 25 21 (.not (.t 24)),pO 26 21 25,m1 27 26,BU 28 27 0,BU 29 27 3,gF 30 27 (.slL (.t 28) none (some (.t 29)) 2),gF 31 27 (.mkfn 41 [] [.t 4]),gF 32 27 (.calls 40 [.t 30,.t 31]),pO 33 27 32] [0,5,6,7,33] (cD 33 (oR [mC 2 (.b false)] [2]) .skip)
def o7:IC:=sQ (.block 1 (oS [m1 9 7,iA 10 5 7 113 2,lA 11 10 2,o1 4 (.alloc (.agg [.s [],.nil])),m1 3 9,sT 4 11 2] [0,3,4,5,6,7] vL)) (oP [bZ 34 .add 7 1,m1 7 34] [0,5,6,7])
def Ag3:IC:=sQ (oS [m1 5 0,nL 6 5,mZ 7 0] [0,5,6,7] (.block 0 (.loop (oS [bT 8 .lss 7 6] [0,5,6,7,8] (sQ (cD 8 .skip (.exit 0)) o7))))) (oR [mC 2 (.b true)] [2])
def Aip:IC:=oS [mC 2 (.b false)] [0] Ag3
def Awh:List R:=[.t 2]
def A0R:=An vL.eq_1<|An o7.eq_1<|An Ag3.eq_1<|AR Aip.eq_1
theorem Aue:Ao π 18 35 Aip Awh=true:=by kernel_rfl
def qM:IC:=cD 42 (oR [m1 45 12,mC 4 (.s []),m1 5 45] [4,5]) (oS [m1 47 11,m1 46 47] [1,10,29,30,31,46] (cD 46 (oR [fA 48 10 0,l1 49 48,m1 4 49,mZ 5 0] [4,5]) .skip))
def Abs:IC:=oS [fA 36 10 1,l1 37 36,m1 38 1,q2 39 87 37 38,m1 35 39,xT 40 35 0,xT 41 35 1,m1 11 40,m1 12 41] [1,10,11,12,29,30,31] (.block 2 (oS [m1 43 12,bZ 44 .neq 43 0,m1 42 44] [1,10,11,12,29,30,31,42] qM))
def Abt:IC:=sQ (.block 1 (oS [iA 33 29 31 113 2,lA 34 33 2,o1 10 (.alloc (.agg [.s [],.nil])),sT 10 34 2] [1,10,29,30,31] Abs)) (oP [bZ 50 .add 31 1,m1 31 50] [1,29,30,31])
def rT:IC:=sQ (oS [m1 29 0,nL 30 29,mZ 31 0] [1,29,30,31] (.block 0 (.loop (oS [bT 32 .lss 31 30] [1,29,30,31,32] (sQ (cD 32 .skip (.exit 0)) Abt))))) (oR [mC 4 (.s [111,116,104,101,114]),mZ 5 0] [4,5])
def jX:IC:=sQ (oS [m1 22 6,m1 23 1,q2 24 87 22 23,m1 21 24,xT 25 21 0,xT 26 21 1,m1 7 25,m1 8 26] [0,1,8] (oS [m1 27 8,bZ 28 .neq 27 0] [0,1,28] (cD 28 (oR [mC 4 (.s []),mZ 5 1] [4,5]) .skip))) rT
def Af5:IC:=oS [o1 16 (.build [.i .i64 0,.i .i64 0] []),o1 17 (.msl false 172 2 [.t 16]),o1 18 (.build [.i .i64 0,.i .i64 0,.b false,.nil] [(0,1,ci 2),(2,1,.c (.b true)),(3,1,.t 17)]),o1 19 (.msl false 158 4 [.t 18]),o1 20 (.msl false 154 1 [.t 19]),m1 6 20] [0,1,6] jX
def Ai8:IC:=oS [mC 4 (.s []),mZ 5 0] [0,1] (sQ (oS [m1 13 0,q1 14 18 13,nT 15 14] [0,1,15] (cD 15 (oR [mC 4 (.s []),mZ 5 1] [4,5]) .skip)) Af5)
def Ax8:List R:=[.t 4,.t 5]
def A0Y:=An qM.eq_1<|An Abs.eq_1<|An Abt.eq_1<|An rT.eq_1<|An jX.eq_1<|An Af5.eq_1<|AR Ai8.eq_1
theorem kD:Ao π 56 51 Ai8 Ax8=true:=by kernel_rfl
attribute[push_cast]AsS Ay1 AqP AyI AxC A0X AvN AzO Awm Azz AoY AxY Atb AxS AtM Ayb Aui Ays ApR AyL Awr Az1 AuX A0K Ax7 AzT Avw AzA Awh A0R Ax8 A0Y
end Go.Ir

namespace Go.Ir
open Go.Proofs
variable(O:World)
def XA:List Int:=[2,3,4,5,6,10,20,25,50,100]
theorem n9 l (v:Int):decide (AV (λx=>v==x) l>=0)=l.contains v:=by rw[EY,A1M]
theorem Aqp:Ao π 182 19 (O3 3) gB=true:=by kernel_rfl
theorem Ap0:Ao π 145 9 (ZM 182) Anr=true:=by kernel_rfl
theorem Tz(l:List Int) v (a:l.length<2^62):Ak π O 145 [.sl (l.map (V.i .i64)),.i .i64 v] [] (.b (l.contains v)) []:=by rw[<-n9];exact JD O Ap0 _ _ _ (Xh O Aqp l v a)
def Z1(a mod:Int):Bool:=if a==1||a==2 then XA.contains mod else if a==5||a==6 then mod==10||mod==100 else false
theorem TX d mod:Ak π O 104 [.i .i64 d,.i .i64 mod] [] (.b (Z1 d mod)) []:=by
 have a:=Tz O XA mod (by decide);unfold XA at a;simp only[Ao7,Ava] at a;generalize hS:Z1 d mod=S;unfold Z1 XA at hS;refine Ac (vs:=[.b S]) Anv (by simp) (by simp) λn0 c=>?_;clear c;simp only[push_cast,rq];repeat' (first|(first|(apply AL<;>intro _h)|refine Ab a ?_)<;>(simp only[push_cast,rq,_h];try (have _g:=_h;simp at _g))|intro _)
 all_goals subst hS
 all_goals (first|(refine Af ?_;simp[get, *]<;>(intros;omega);done)|(refine Ah ?_;simp[push_cast,get, *];done)|skip)
def AeH(a:Int):Int:=if a==3||a==4 then 6 else 100
theorem VQ b:Ak π O 105 [.i .i64 b] [] (.i .i64 (AeH b)) []:=by
 generalize hS:AeH b=S;unfold AeH at hS;refine Ac (vs:=[.i .i64 S]) Anq (by simp) (by simp) λn0 a=>?_;clear a;simp only[push_cast,rq]
 repeat' (first|((apply AL<;>intro _h)<;>(simp only[push_cast,rq,_h];try (have _g:=_h;simp at _g)))|intro _)
 all_goals subst hS
 all_goals (first|(refine Af ?_;simp[get, *]<;>(intros;omega);done)|(refine Ah ?_;simp[push_cast,get, *];done)|skip)
def Yz(a:Int)(s:Iv):Bool:=!(decide (s.lo<0)||decide (s.lo>s.hi)||decide (s.hi>AeH a))
def G9(r:Hj):Bool:=!(decide (r.op<1)||decide (r.op>6)||(r.mod !=0&&!Z1 r.op r.mod)||decide ((r.spans.length:Int)<1)||decide ((r.spans.length:Int)>4))&&r.spans.all (Yz r.op)
theorem kG r (g:r.spans.length<=2^30):Ak π O 79 [r.enc] [] (.b (G9 r)) []:=by
 generalize hS:G9 r=S;unfold G9 at hS;rw[Hj.enc_eq];refine Ac (vs:=[.b S]) Aut (by simp) (by simp) λn0 e=>?_;clear e;simp only[push_cast,rq];repeat' (first|(first|(apply AL<;>intro _h)|refine Ab (TX O _ _) ?_)<;>(simp only[push_cast,rq,_h];try (have _g:=_h;simp at _g))|intro _)
 all_goals (first|(refine Af ?_;subst hS;simp[get, *];done)|skip)
 all_goals
  have c:r.spans.all (Yz r.op)=S:=by subst hS;simp[*]
  clear hS;refine Aj r.spans.length (Inv:=λm st=>∃dn a n,r.spans=dn++a/\m=a.length/\a.all (Yz r.op)=S/\st=⟨[(1,.ref (n0,1) 0),(39,.sl (r.spans.map Iv.enc)),(40,.i .i64 r.spans.length),(41,.i .i64 dn.length)],[((n0,1),.box r.enc)],n⟩) ⟨_,Ag.refl,[],_,_,rfl,rfl,c,rfl⟩ ?_;clear c;rintro m _ ⟨dn,a,n,d,rfl,c,rfl⟩;cases a with
  | nil=>
   simp only[push_cast,rq,d]
   repeat' (first|((apply AL<;>intro _h)<;>(simp only[push_cast,rq,_h];try (have _g:=_h;simp at _g)))|intro _)
   all_goals (first|(refine Af ?_;simp[get,<-c]<;>(intros;omega);done)|(refine Ah ?_;simp[push_cast,get,<-c];done)|skip)
  | cons s a=>
   have f:=A9 d;rw[A1D,Yz] at c;simp only[push_cast,rq,d];repeat' (first|(first|(apply AL<;>intro _h)|refine Ab (VQ O r.op) ?_)<;>(simp only[push_cast,rq,_h,d,Ae s (dn:=dn) (by omega)];try (have _g:=_h;simp at _g))|intro _)
   all_goals (first|(exact⟨_,_,Ab4 _,Ag.drop1 (by simp[lk]) (Ab6 _),dn++[s],a,_,by simp,rfl,by rw[<-c];simp[*],rfl⟩)|skip)
   all_goals subst c
   all_goals (first|(refine Af ?_;simp[get, *]<;>(intros;omega);done)|(refine Ah ?_;simp[push_cast,get, *];done)|skip)
theorem kX r (c:r.spans.length<=2^30):Ak π O 78 [r.enc] [] (.b (!G9 r)) []:=by
 have h:=kG O r c;rw[Hj.enc_eq] at *;refine Ac (vs:=[.b (!G9 r)]) ApH (by simp) (by simp) λn0 a=>?_;clear a;simp only[push_cast,rq];repeat' (first|(first|(apply AL<;>intro _h)|refine Ab h ?_)<;>(simp only[push_cast];try (have _g:=_h;simp at _g))|intro _)
 all_goals (first|(refine Af ?_;simp[get]<;>(intros;omega);done)|(exact Gj;done)|skip)
theorem AoX:Ao π 103 19 (JA 158 4 true) Rc=true:=by kernel_rfl
theorem ApS:Ao π 77 9 (O5 103) cT=true:=by kernel_rfl
theorem uV(l:List Hj) p g caps σ (a:∀r∈l,Ak π O g ([r.enc]++caps) σ (.b (p r)) σ)(c:l.length<2^62) :
  Ak π O 77 [.sl (l.map Hj.enc),.fn g [] caps] σ (.b (l.any p)) σ:=by
 rw[<-EY];exact CQ O ApS _ _ _ _ (Cn O AoX Hj.enc l p g [] caps σ (λx _=>Fh rfl) (λr d=>a r d) c)
def OQ(c:List (List Hj)):Int:=(c.map λl=>(l.length:Int)).sum
theorem P7 l c:OQ (l::c)=l.length+OQ c:=by simp[OQ]
def Zv(l:List Hj):Bool:=!((l.length:Int)==0||l.any λr=>!G9 r)
def JF(c:List (List Hj)):Bool:=c.all Zv&&(decide ((c.length:Int)>0)&&decide (OQ c<=6))
theorem aP c:0<=OQ c/\OQ c<=E0 c:=by
 induction c with
 | nil=>simp[OQ]
 | cons l c a=>have:=Ge l;rw[P7,E0];omega
theorem Ya c (x:E0 c<=2^30):Ak π O 39 [.sl (c.map Gv)] [] (.b (JF c)) []:=by
 generalize hS:JF c=S;unfold JF at hS;have o:=Kx c;have w:=aP c;refine Ac (vs:=[.b S]) Arj (by simp) (by simp) λn0 j=>?_;clear j;simp only[push_cast,rq];intros;refine Aj c.length (Inv:=λm st=>∃dn a n d,c=dn++a/\m=a.length/\(a.all Zv&&(decide ((c.length:Int)>0)&&decide (d+OQ a<=6)))=S/\0<=d/\d+OQ a=OQ c/\st=⟨[(0,.sl (c.map Gv)),(3,.i .i64 d),(6,.sl (c.map Gv)),(7,.i .i64 c.length),(8,.i .i64 dn.length)],[],n⟩) ⟨_,Ag.refl,[],_,_,0,rfl,rfl,by grind,by omega,by omega,rfl⟩ ?_;clear hS;rintro m _ ⟨dn,a,n,d,e,rfl,f,s,h,rfl⟩;cases a with
 | nil=>
  rw[show OQ []=0 from rfl,Int.add_zero] at f;simp only[push_cast,rq,e];rw[At9] at e
  repeat' (first|((apply AL<;>intro _h)<;>(simp only[push_cast,rq,_h];try (have _g:=_h;simp at _g)))|intro _)
  all_goals subst f
  all_goals subst e
  all_goals (first|(refine Af ?_;simp[get, *]<;>(intros;omega);done)|(refine Ah ?_;simp[push_cast,get, *];done)|skip)
 | cons l a=>
  have q:=A9 e;have y:=Ke (l:=c) (r:=l) (by rw[e];simp);have t:=Ge l;rw[A1D] at f;rw[P7] at f h;have v:=aP a;have p:IntKind.i64.wrap (d+(l.length:Int))=d+(l.length:Int):=wrap64 (by omega) (by omega);have k:=uV O l (λr=>!G9 r) 78 [] [] (λr u=>kX O r (by have:=Ky u;rw[Hj.wt] at this;omega)) (by omega);have ⟨A,hA⟩:∃A,(l.any λr=>!G9 r)=A:=⟨_,rfl⟩
  have g:Zv l=!((l.length:Int)==0||A):=by unfold Zv;rw[hA]
  rw[hA] at k;rw[g] at f;clear hA g;simp only[push_cast,rq,e]
  repeat' (first|((apply AL<;>intro _h)<;>(simp only[push_cast,rq,_h];try (have _g:=_h;simp at _g)))|intro _)
  all_goals (try (refine T9 k ?_;simp only[push_cast,rq]))
  repeat' (first|((apply AL<;>intro _h)<;>(simp only[push_cast,rq,Ae l (dn:=dn) (by omega),p];try (have _g:=_h;simp at _g)))|intro _)
  all_goals (first|(exact⟨_,_,Ab4 _,Ag.refl,dn++[l],a,_,_,by simp,rfl,by grind,by omega,by rw[<-e];omega,rfl⟩)|skip)
  all_goals subst f
  all_goals (first|(refine Af ?_;simp[get, *]<;>(intros;omega);done)|(refine Ah ?_;simp[push_cast,get, *];done)|skip)
def inB(l:List Iv)(n:Int):Bool:=l.any λs=>decide (n>=s.lo)&&decide (n<=s.hi)
theorem AnI:Ao π 229 19 (JA 172 2 true) Rc=true:=by kernel_rfl
theorem Al4:Ao π 193 9 (O5 229) cT=true:=by kernel_rfl
theorem ArV(s:Iv) n a:Ak π O 194 [s.enc,.ref (a,3) 0] [((a,3),.box (.i .i64 n))] (.b (decide (n>=s.lo)&&decide (n<=s.hi))) [((a,3),.box (.i .i64 n))]:=by
 rw[Iv.enc_eq];refine Ac (vs:=[.b (decide (n>=s.lo)&&decide (n<=s.hi))]) AnA (by simp) (λ_ h=>h) λn0 c=>?_;clear c;simp only[push_cast,rq]
 repeat' (first|((apply AL<;>intro _h)<;>(simp only[push_cast,rq,_h];try (have _g:=_h;simp at _g)))|intro _)
 all_goals (refine Aw ?_ (Cj (by simp[lk]));simp[get])
theorem AqH l n (d:l.length<2^62):Ak π O 151 [.sl (l.map Iv.enc),.i .i64 n] [] (.b (inB l n)) []:=by
 unfold inB;refine Ac (vs:=[.b (l.any λs=>decide (n>=s.lo)&&decide (n<=s.hi))]) AnK (by simp) (by simp) λn0 a=>?_;clear a;simp only[push_cast,rq];intro k1;have c:Ak π O 193 [.sl (l.map Iv.enc),.fn 194 [] [.ref (n0,3) 0]] [((n0,3),.box (.i .i64 n))] (.b (l.any λs=>decide (n>=s.lo)&&decide (n<=s.hi))) [((n0,3),.box (.i .i64 n))]:=by rw[<-EY];exact CQ O Al4 _ _ _ _ (Cn O AnI Iv.enc l _ _ [] _ _ (λx _=>Fh rfl) (λs _=>ArV O s n n0) d)
 refine AX c (λ_ _ h=>h) ?_;rw[B5];simp only[push_cast]
 repeat' (first|((apply AL<;>intro _h)<;>(simp only[push_cast,rq,_h];try (have _g:=_h;simp at _g)))|intro _)
 all_goals (first|(refine Af ?_;simp[get]<;>(intros;omega);done)|(exact Gj;done)|skip)
def If(r:Hj)(s:Aa):Bool:=
 if(opV s r.op).2 !=0 then r.neg else inB r.spans (if r.mod !=0 then(opV s r.op).1.tmod r.mod else(opV s r.op).1) !=r.neg
theorem AbE r (s:Aa)(d:s.length<=2^30)(c:r.spans.length<2^62):Ak π O 113 [r.enc,.s s] [] (.b (If r s)) []:=by
 generalize hS:If r s=S;unfold If at hS;rw[Hj.enc_eq];refine Ac (vs:=[.b S]) AmF (by simp) (by simp) λn0 a=>?_;clear a;simp only[push_cast,rq];repeat' (first|(first|(apply AL<;>intro _h)|refine Ab (Apu O s r.op (by omega)) ?_|refine Ab (AqH O r.spans _ c) ?_)<;>(simp only[push_cast,rq,_h];try (have _g:=_h;simp at _g))|intro _)
 all_goals (try (simp only[push_cast,rq,_g]))
 repeat' (first|(first|(apply AL<;>intro _h)|refine Ab (AqH O r.spans _ c) ?_)<;>(simp only[push_cast,rq];try (have _g:=_h;simp at _g))|intro _)
 all_goals subst hS
 all_goals (refine Af ?_;simp[get, *]<;>simp[bne])
theorem dO r (s:Aa) a (e:s.length<=2^30)(d:r.spans.length<2^62):Ak π O 112 [r.enc,.ref (a,3) 0] [((a,3),.box (.s s))] (.b (!If r s)) [((a,3),.box (.s s))]:=by
 have h:=AbE O r s e d;rw[Hj.enc_eq] at *;refine Ac (vs:=[.b (!If r s)]) Am6 (by simp) (λ_ h=>h) λn0 c=>?_;clear c;simp only[push_cast,rq];repeat' (first|(first|(apply AL<;>intro _h)|refine Ab h ?_)<;>(simp only[push_cast];try (have _g:=_h;simp at _g))|intro _)
 all_goals (refine Aw ?_ (Cj (by simp[lk]));simp[get])
theorem uS l (s:Aa) a (f:s.length<=2^30)(g:Dy l<=2^30):Ak π O 111 [Gv l,.ref (a,3) 0] [((a,3),.box (.s s))] (.b (!l.any λr=>!If r s)) [((a,3),.box (.s s))]:=by
 have d:=Ge l;have h:=uV O l (λr=>!If r s) 112 [.ref (a,3) 0] [((a,3),.box (.s s))] (λr e=>dO O r s a f (by have:=Ky e;rw[Hj.wt] at this;omega)) (by omega);rw[Tg];generalize(l.any λr=>!If r s)=A at h;refine Ac (vs:=[.b (!A)]) AmM (by simp) (λ_ h=>h) λn0 c=>?_;clear c;push_cast
 repeat' (first|((apply AL<;>intro _h)<;>(push_cast[_h];try (have _g:=_h;simp at _g)))|intro _)
 refine AX h (λ_ _ h=>h) ?_;rw[B5];push_cast
 repeat' (first|((apply AL<;>intro _h)<;>(push_cast[_h];try (have _g:=_h;simp at _g)))|intro _)
 all_goals (refine Aw ?_ (λ_ _ h=>h);simp[get])
def Qt(c:List (List Hj))(s:Aa):Bool:=c.any λl=>!l.any λr=>!If r s
theorem AmV:Ao π 149 19 (JA 154 1 false) Rc=true:=by kernel_rfl
theorem Ak7:Ao π 110 9 (O5 149) cT=true:=by kernel_rfl
theorem Yj c (s:Aa)(k:s.length<=2^30)(d:E0 c<=2^30):Ak π O 87 [.sl (c.map Gv),.s s] [] (.tup [.b (JF c&&E6 s&&Qt c s),.i .i64 (bif JF c&&E6 s then 0 else 1)]) []:=by
 have j:=Kx c;generalize e:Qt c s=A;refine Ac (vs:=[.b (JF c&&E6 s&&A),.i .i64 (bif JF c&&E6 s then 0 else 1)]) As3 (by simp) (by simp) λn0 a=>?_;clear a;simp only[push_cast,rq];intro k1;have f:Ak π O 110 [.sl (c.map Gv),.fn 111 [] [.ref (n0,3) 0]] [((n0,3),.box (.s s))] (.b A) [((n0,3),.box (.s s))]:=by rw[<-e,Qt,<-EY];exact CQ O Ak7 _ _ _ _ (Cn O AmV Gv c _ _ [] _ _ (λx _=>vN rfl) (λl g=>uS O l s n0 k (AoW (Ke g) d)) (by omega))
 repeat' (first|(first|(apply AL<;>intro _h)|refine Ab (Ya O c d) ?_|refine Ab (I3 O s (by omega)) ?_)<;>(simp only[push_cast,rq,_h];try (have _g:=_h;simp at _g))|intro _)
 all_goals (try (refine AX f (λ_ _ h=>h) ?_;rw[B5];simp only[push_cast,rq]))
 repeat' (first|((apply AL<;>intro _h)<;>(simp only[push_cast,rq,_h];try (have _g:=_h;simp at _g)))|intro _)
 all_goals (first|(refine Af ?_;simp[get, *]<;>(intros;omega);done)|(refine Ah ?_;simp[push_cast, *];done)|skip)
def OO:Aa:=[111,116,104,101,114]
def Hw:List Aa:=[[122,101,114,111],[111,110,101],[116,119,111],[102,101,119],[109,97,110,121]]
def UE:List Aa:=[[122,101,114,111],[111,110,101],[116,119,111],[102,101,119],[109,97,110,121],[111,116,104,101,114]]
theorem AdQ:Ak π O 76 [] [] (.agg (UE.map V.s)) []:=by
 unfold UE;simp only[Ao7,Ava];refine Ac (vs:=[.agg [.s [122,101,114,111],.s [111,110,101],.s [116,119,111],.s [102,101,119],.s [109,97,110,121],.s [111,116,104,101,114]]]) As0 (by simp) (by simp) λn0 a=>?_;clear a;simp only[push_cast,seval]
 repeat' (first|((apply AL<;>intro _h)<;>(simp only[push_cast,seval,_h];try (have _g:=_h;simp at _g)))|intro _)
 all_goals (first|(refine Af ?_;simp[get]<;>(intros;omega);done)|(exact Gj;done)|skip)
theorem nK:Ao π 58 19 (O3 9) gB=true:=by kernel_rfl
theorem Aqh:Ao π 53 9 (ZM 58) Anr=true:=by kernel_rfl
theorem G8(l:List Aa)(v:Aa)(a:l.length<2^62):Ak π O 53 [.sl (l.map V.s),.s v] [] (.b (l.contains v)) []:=by rw[A1M,<-EY];exact JD O Aqh _ _ _ (JN O nK l v a)
theorem AeD(s:Aa):Ak π O 38 [.s s] [] (.b (UE.contains s)) []:=by
 have d:=AdQ O;have a:=G8 O UE s (by decide);generalize e:UE.contains s=K at a;unfold UE at d a;simp only[Ao7,Ava] at d a;refine Ac (vs:=[.b K]) AtD (by simp) (by simp) λn0 c=>?_;clear c;simp only[push_cast,rq];repeat' (first|(first|(apply AL<;>intro _h)|refine Ab d ?_)<;>(simp only[push_cast,rq];try (have _g:=_h;simp at _g))|intro _)
 repeat' (first|(first|(apply AL<;>intro _h)|refine Ab a ?_)<;>(simp only[push_cast];try (have _g:=_h;simp at _g))|intro _)
 all_goals (first|(refine Af ?_;simp[get]<;>(intros;omega);done)|(exact Gj;done)|skip)
def AdS(s:Aa):Bool:=Hw.contains s
theorem AeQ s:(!UE.contains s||s==OO)=!AdS s:=by unfold AdS UE Hw OO;rw[Aym];simp;grind
def AW(dn:List A8):List A8->Bool
 | []=>true
 | r::a=>!(!AdS r.cls||!JF r.cond||dn.any λx=>x.cls==r.cls)&&AW (dn++[r]) a
theorem AjH:Ao π 80 19 (JA 113 2 true) Rc=true:=by kernel_rfl
theorem AmK:Ao π 40 9 (O5 80) cT=true:=by kernel_rfl
theorem fI(x r:A8) a:Ak π O 41 [x.enc,.ref (a,4) 0] [((a,4),.box r.enc)] (.b (x.cls==r.cls)) [((a,4),.box r.enc)]:=by
 rw[A8.enc_eq,A8.enc_eq];refine Ac (vs:=[.b (x.cls==r.cls)]) AoH (by simp) (λ_ h=>h) λn0 c=>?_;clear c;simp only[push_cast,rq]
 repeat' (first|((apply AL<;>intro _h)<;>(simp only[push_cast,rq,_h];try (have _g:=_h;simp at _g)))|intro _)
 all_goals (refine Aw ?_ (Cj (by simp[lk]));simp[get])
theorem Fu l (q:Ax l<=2^30):Ak π O 18 [.sl (l.map A8.enc)] [] (.b (AW [] l)) []:=by
 generalize hS:AW [] l=S;have g:=G7 l;refine Ac (vs:=[.b S]) Aue (by simp) (by simp) λn0 e=>?_;clear e;simp only[push_cast,rq];intros;refine Aj l.length (Inv:=λm st=>∃dn a n,l=dn++a/\m=a.length/\AW dn a=S/\st=⟨[(0,.sl (l.map A8.enc)),(5,.sl (l.map A8.enc)),(6,.i .i64 l.length),(7,.i .i64 dn.length)],[],n⟩) ⟨_,Ag.refl,[],_,_,rfl,rfl,hS,rfl⟩ ?_;clear hS;rintro m _ ⟨dn,a,n,d,rfl,c,rfl⟩;cases a with
 | nil=>
  rw[AW] at c;simp only[push_cast,rq,d]
  repeat' (first|((apply AL<;>intro _h)<;>(simp only[push_cast,rq,_h];try (have _g:=_h;simp at _g)))|intro _)
  subst c
  all_goals (first|(refine Af ?_;simp[get]<;>(intros;omega);done)|(exact Gj;done)|skip)
 | cons r a=>
  have k:=A9 d;have o:=GO (l:=l) (r:=r) (by rw[d];simp);rw[A8.wt] at o;rw[AW,<-AeQ] at c;unfold OO at c;have j:∀y∈List.map A8.enc (dn++r::a),(cells y).length=2:=by intro y p;obtain⟨x,_,rfl⟩:=Aov.1 p;rfl
  have ⟨A,hA⟩:∃A,(dn.any λx=>x.cls==r.cls)=A:=⟨_,rfl⟩
  rw[hA] at c;simp only[push_cast,rq,d];intro k1 k2;have f:Ak π O 40 [.sl (dn.map A8.enc),.fn 41 [] [.ref (n+1+k1,4) 0]] [((n+1+k1,4),.box r.enc)] (.b A) [((n+1+k1,4),.box r.enc)]:=by rw[<-hA,<-EY];exact CQ O AmK _ _ _ _ (Cn O AjH A8.enc dn _ _ [] _ _ (λx _=>Fh rfl) (λx _=>fI O x r _) (by omega))
  clear hA;rw[A8.enc_eq] at f;repeat' (first|(first|(apply AL<;>intro _h)|refine Ab (AeD O r.cls) ?_|refine Ab (Ya O r.cond (by omega)) ?_)<;>(simp only[push_cast,rq,_h,Arp j];try (have _g:=_h;simp at _g))|intro _)
  all_goals (try (refine AX f (λ_ _ h=>h) ?_;rw[B5];simp only[push_cast,rq]))
  repeat' (first|((apply AL<;>intro _h)<;>(simp only[push_cast,rq,Ae r (dn:=dn) (by omega)];try (have _g:=_h;simp at _g)))|intro _)
  all_goals (first|(exact⟨_,_,Ab4 _,Ag.drop1 (by simp[lk]) (Ab6 _),dn++[r],a,_,by simp,rfl,by rw[<-c];simp[*],rfl⟩)|skip)
  all_goals subst c
  all_goals (first|(refine Af ?_;simp[get, *]<;>(intros;omega);done)|(refine Ah ?_;simp[push_cast,get, *];done)|skip)
def Mx(s:Aa):List A8->Aa
 | []=>OO
 | r::a=>bif Qt r.cond s then r.cls else Mx s a
def Cs(l:List A8)(s:Aa):Aa×Int:=bif AW [] l&&E6 s then(Mx s l,0) else([],1)
theorem UO{dn a}(h:AW dn a=true):∀r∈a,JF r.cond=true:=by
 induction a generalizing dn with
 | nil=>intro r b;cases b
 | cons x a c=>rw[AW] at h;grind
theorem MV l (s:Aa)(t:s.length<=2^30)(j:Ax l<=2^30):Ak π O 56 [.sl (l.map A8.enc),.s s] [] (.tup [.s (Cs l s).1,.i .i64 (Cs l s).2]) []:=by
 generalize hS:Cs l s=S;have q:=G7 l;unfold Cs at hS;have c:=Yj O [[⟨2,0,true,[⟨0,0⟩]⟩]] s t (by decide);rw[show JF [[⟨2,0,true,[⟨0,0⟩]⟩]]=true by decide,AxA] at c;simp only[Ao7,Ava,Tg,Hj.enc_eq,Iv.enc_eq] at c;generalize Qt [[⟨2,0,true,[⟨0,0⟩]⟩]] s=w at c;rcases Ay8 (E6 s) with h|h
 all_goals (rw[h] at c hS;simp only[AxA,AyN,A0e,A0j,A00,A0d] at c hS)
 .rcases Ay8 (AW [] l) with e|e
  all_goals (rw[e] at hS;simp only[A00,A0d] at hS;subst hS)
  .have o:=UO e;generalize hS:Mx s l=S;have f:=Fu O l j;rw[e] at f;refine Ac (vs:=[.s S,.i .i64 0]) kD (by simp) (by simp) λn0 b=>?_;clear b;simp only[push_cast,seval];repeat' (first|(first|(apply AL<;>intro _h)|refine Ab f ?_|refine Ab c ?_)<;>(simp only[push_cast,seval];try (have _g:=_h;simp at _g))|intro _)
   refine Aj l.length (Inv:=λm st=>∃dn a n,l=dn++a/\m=a.length/\Mx s a=S/\st=⟨[(1,.s s),(29,.sl (l.map A8.enc)),(30,.i .i64 l.length),(31,.i .i64 dn.length)],[],n⟩) ⟨_,Ag.refl,[],_,_,rfl,rfl,hS,rfl⟩ ?_;clear hS;rintro m _ ⟨dn,a,n,g,rfl,d,rfl⟩;cases a with
   | nil=>
    rw[Mx] at d;unfold OO at d;subst d;simp only[push_cast,seval,g]
    repeat' (first|((apply AL<;>intro _h)<;>(simp only[push_cast,seval,_h];try (have _g:=_h;simp at _g)))|intro _)
    all_goals (first|(refine Af ?_;simp[get]<;>(intros;omega);done)|(exact Gj;done)|skip)
   | cons r a=>
    have u:=A9 g;have v:=GO (l:=l) (r:=r) (by rw[g];simp);rw[A8.wt] at v;have k:=o r (by rw[g];simp);have p:=Yj O r.cond s t (by omega);rw[k,h] at p;simp only[AxA,A00] at p;rw[Mx] at d;simp only[push_cast,seval,g];repeat' (first|(first|(apply AL<;>intro _h)|refine Ab p ?_)<;>(simp only[push_cast,seval,Ae r (dn:=dn) (by omega)];try (have _g:=_h;simp at _g))|intro _)
    all_goals (first|(exact⟨_,_,Ab4 _,Ag.drop1 (by simp[lk]) (Ab6 _),dn++[r],a,_,by simp,rfl,by rw[<-d];simp[*],rfl⟩)|skip)
    all_goals subst d
    all_goals (first|(refine Af ?_;simp[get, *]<;>(intros;omega);done)|(refine Ah ?_;simp[push_cast, *];done)|skip)
  .have f:=Fu O l j;rw[e] at f;refine Ac (vs:=[.s [],.i .i64 1]) kD (by simp) (by simp) λn0 b=>?_;clear b;simp only[push_cast,seval];repeat' (first|(first|(apply AL<;>intro _h)|refine Ab f ?_)<;>(simp only[push_cast,seval];try (have _g:=_h;simp at _g))|intro _)
   all_goals (first|(refine Af ?_;simp[get]<;>(intros;omega);done)|(exact Gj;done)|skip)
 .subst hS;refine Ac (vs:=[.s [],.i .i64 1]) kD (by simp) (by simp) λn0 b=>?_;clear b;simp only[push_cast,seval];repeat' (first|(first|(apply AL<;>intro _h)|refine Ab (Fu O l j) ?_|refine Ab c ?_)<;>(simp only[push_cast,seval];try (have _g:=_h;simp at _g))|intro _)
  all_goals (first|(refine Af ?_;simp[get]<;>(intros;omega);done)|(exact Gj;done)|skip)

end Go.Ir

namespace Go.Ir
open Go.Proofs
variable{P:Program}{O:World}{nt n:Nat}{Q:Exit→St→Prop}{env:BB}{σ:Aq}
def AgJ:IC:=oS [mC 4 (.b false)] [0,1] (oR [m1 5 0,m1 6 1,q2 7 102 5 6,m1 4 7] [4])
def Axn:List R:=[.t 4]
def AzC:=AR AgJ.eq_1
theorem AoR:Ao π 74 8 AgJ Axn=true:=by kernel_rfl
def o8:IC:=oR [m1 5 0,nS 6 5,m1 7 1,nS 8 7,bT 9 .geq 6 8,m1 10 9,BY 11 10 0,BY 12 10 1,gT 13 10 (.lenS (.t 12)),gT 14 10 (.slS (.t 11) none (some (.t 13))),BY 15 10 1,gT 16 10 (.bin .eql (.t 14) (.t 15)),pA 17 10 16,m1 4 17] [4]
def Aay:IC:=oS [mC 4 (.b false)] [0,1] o8
def Aq9:List R:=[.t 4]
def AxU:=An o8.eq_1<|AR Aay.eq_1
theorem mE:Ao π 102 18 Aay Aq9=true:=by kernel_rfl
def AhL:IC:=oS [bX 2 0,mC 4 .nil] [1,2] (sQ (oS [m1 5 1,bZ 6 .eql 5 8] [2,6] (cD 6 (oR [fA 7 2 4,l1 8 7,m1 4 8] [4]) .skip)) (oR [fA 9 2 3,l1 10 9,m1 4 10] [4]))
def Aw7:List R:=[.t 4]
def A09:=AR AhL.eq_1
theorem Asv:Ao π 57 11 AhL Aw7=true:=by kernel_rfl
def pM:IC:=oS [lA 33 3 16,fA 34 4 0,l1 35 34,q2 36 57 33 35,m1 37 9,q2 38 56 36 37,m1 32 38,xT 39 32 0,xT 40 32 1,m1 11 39,m1 12 40] [4,7,11] (oP [m1 41 7,m1 42 11,o1 43 (.callvs (.t 41) [.t 42]),m1 8 43] [4,7,8])
def AiI:IC:=oS [m1 22 8,bZ 23 .lss 22 0,m1 24 23,BY 25 24 10,pA 26 24 25,m1 27 26,Fa 28 27 4 0,E3 29 27 28,Gi 30 27 .neq 29 9,pA 31 27 30] [3,4,7,8,9,31] (cD 31 pM .skip)
def AhB:IC:=sQ (oS [m1 18 2,o1 19 (.call 84 [.t 18,.c (.s [61])]),m1 17 19,xT 20 17 0,xT 21 17 1,m1 9 20,m1 10 21] [3,4,7,8,9,10] AiI) (sQ (oS [m1 44 8,bZ 45 .lss 44 0] [4,7,8,45] (cD 45 (oP [m1 46 7,o1 47 (.callvs (.t 46) [.c (.s [111,116,104,101,114])]),m1 8 47] [4,8]) .skip)) (oR [fA 48 4 4,l1 49 48,m1 50 8,iA 51 49 50 101 2,fA 52 51 1,l1 53 52,m1 6 53] [6]))
def AiK:IC:=oS [bX 3 0,bX 4 1,mC 6 .nil] [2,3,4] (oS [o1 13 (.mkfn 81 [] [.t 4]),m1 7 13] [2,3,4,7] (oS [m1 14 7,m1 15 2,o1 16 (.callvs (.t 14) [.t 15]),m1 8 16] [2,3,4,7,8] AhB))
def AwR:List R:=[.t 6]
def A04:=An pM.eq_1<|An AiI.eq_1<|An AhB.eq_1<|AR AiK.eq_1
theorem Aqg:Ao π 45 54 AiK AwR=true:=by kernel_rfl
def Ahn:IC:=oS [bX 2 0,mZ 3 0] [1,2] (oR [fA 4 1 4,l1 5 4,o1 6 (.mkfn 83 [] [.t 2]),o1 7 (.callr 82 [.t 5,.t 6]),m1 3 7] [3])
def Awf:List R:=[.t 3]
def A0V:=AR Ahn.eq_1
theorem ArF:Ao π 81 8 Ahn Awf=true:=by kernel_rfl
def Agt:IC:=oS [bX 2 0,mC 3 (.b false)] [1,2] (oR [fA 4 2 0,l1 5 4,l1 6 1,bT 7 .eql 5 6,m1 3 7] [3])
def Awp:List R:=[.t 3]
def A02:=AR Agt.eq_1
theorem Ar6:Ao π 83 8 Agt Awp=true:=by kernel_rfl
def Agr:IC:=sQ (.ops [m1 24 0,m1 25 5,bZ 26 .sub 25 1,iA 27 24 26 96 6,fA 28 27 1,l1 29 28,fA 30 3 1,l1 31 30,bT 32 .add 29 31,iA 33 24 26 96 6,fA 34 33 1,sT 34 32 1] [0] [[1,2],[0,3],[2,3],[3,4],[4,5],[6,7],[5,8],[7,8],[0,9],[2,9],[9,10],[3,11],[5,11],[7,11],[8,11],[9,10,11],[10,11]]) (oR [m1 35 0,m1 4 35] [4])
def Ah3:IC:=oS [m1 8 5,bZ 9 .gtr 8 0,m1 10 9,Fa 11 10 3 0,E3 12 10 11,Gi 13 10 .eql 12 1,pA 14 10 13,m1 15 14,BY 16 15 0,BY 17 15 5,Gi 18 15 .sub 17 1,gT 19 15 (.iaddr (.t 16) (.t 18) 96 6),Fa 20 15 19 0,E3 21 15 20,Gi 22 15 .eql 21 1,pA 23 15 22] [0,3,5,23] (cD 23 Agr .skip)
def Ahr:IC:=oS [bX 3 1,mC 4 .nil] [0,3] (sQ (oS [m1 6 0,nL 7 6,m1 5 7] [0,3,5] Ah3) (oR [m1 36 0,lA 37 3 6,o1 38 (.msl false 96 6 [.t 37]),o1 39 (.app (.t 36) (.t 38) 96 6),m1 4 39] [4]))
def Ax5:List R:=[.t 4]
def A0W:=An Agr.eq_1<|An Ah3.eq_1<|AR Ahr.eq_1
theorem AsI:Ao π 46 40 Ahr Ax5=true:=by kernel_rfl
def AgS:IC:=sQ (.ops [m1 65 9,nC 66 65,fA 67 66 17,l1 68 67,m1 69 11,m1 70 12,m1 71 10,m1 72 12,nL 73 72,bT 74 .rem 71 73,iA 75 70 74 9 1,l1 76 75,iA 77 68 69 9 1,sT 77 76 1] [1,2,4,6,9,10,11,12,37,38] [[0,1],[1,2],[2,3],[7,8],[6,9],[8,9],[5,10],[9,10],[10,11],[3,12],[4,12],[3,13],[8,13],[10,13],[11,13],[12,13]]) (oP [m1 78 10,m1 79 12,nL 80 79,bT 81 .quo 78 80,m1 10 81] [1,2,4,6,9,10,11,37,38])
def Ahg:IC:=sQ (.block 3 (oS [fA 59 6 0,l1 60 59,m1 61 11,iA 62 60 61 70 3,fA 63 62 2,l1 64 63,m1 12 64] [1,2,4,6,9,10,11,12,37,38] AgS)) (oP [m1 57 11,bZ 58 .sub 57 1,m1 11 58] [1,2,4,6,9,10,11,37,38])
def qA:IC:=sQ (oS [m1 55 11,bZ 56 .geq 55 0] [1,2,4,6,9,10,11,37,38,56] (cD 56 .skip (.exit 2))) Ahg
def Ah9:IC:=.ops [fA 82 6 1,l1 83 82,m1 84 9,m1 85 1,o1 86 (.callr 19 [.t 84,.t 85,.c (.s [])]),o1 87 (.msl false 31 1 [.t 86]),o1 88 (.app (.t 83) (.t 87) 31 1),fA 89 6 1,sT 89 88 1] [1,2,4,6,37,38] [[0,1],[2,4],[3,4],[4,5],[1,6],[4,6],[5,6],[1,8],[4,8],[6,8],[7,8]]
def Aho:IC:=sQ (.ops [lA 41 2 16,fA 42 6 0,l1 43 42,fA 44 6 0,l1 45 44,nL 46 45,o1 47 (.mksl (.t 46) (.t 46) (.s []) 9 1),o1 48 (.build [.s [],.s [],.s [],.nil,.nil,.s [],.s [],.s [],.s [],.i .i64 0,.i .i64 0,.nil,.nil,.nil,.nil,.nil,.nil,.nil] [(0,16,.t 41),(16,1,.t 43),(17,1,.t 47)]),bX 49 48,m1 9 49] [1,2,4,6,8,9,37,38] [[1,2],[3,4],[4,5],[5,6],[0,7],[2,7],[6,7],[7,8],[8,9]]) (oS [m1 50 8,m1 10 50] [1,2,4,6,9,10,37,38] (sQ (oS [fA 51 6 0,l1 52 51,nL 53 52,bZ 54 .sub 53 1,m1 11 54] [1,2,4,6,9,10,11,37,38] (.block 2 (.loop qA))) (.wk Ah9)))
def AgE:IC:=oS [bT 39 .lss 38 37] [1,2,4,6,37,38,39] (sQ (cD 39 .skip (.exit 0)) (sQ (.block 1 (oS [m1 40 38,m1 8 40] [1,2,4,6,8,37,38] Aho)) (oP [bZ 90 .add 38 1,m1 38 90] [1,2,4,6,37,38])))
def AiR:IC:=sQ (oS [fA 26 2 3,l1 27 26,q1 28 18 27,nT 29 28,m1 30 29,E5 31 30 2 4,Eh 32 30 31,gF 33 30 (.call 18 [.t 32]),gF 34 30 (.not (.t 33)),pO 35 30 34] [1,2,4,6,7,35] (cD 35 (oR [o1 36 (.build [.nil,.nil] []),sT 4 36 2,mZ 5 18] [4,5]) .skip)) (sQ (oS [m1 37 7,mZ 38 0] [1,2,4,6,37,38] (.block 0 (.loop AgE))) (oR [lA 91 6 2,sT 4 91 2,mZ 5 0] [4,5]))
def Ahu:IC:=oS [fA 20 6 0,l1 21 20,q1 22 17 21,m1 7 22] [1,2,4,6,7] (sQ (oS [m1 23 7,bZ 24 .gtr 23 400] [1,2,4,6,7,24] (cD 24 (oR [o1 25 (.build [.nil,.nil] []),sT 4 25 2,mZ 5 6] [4,5]) .skip)) AiR)
def AsJ:IC:=sQ (oS [m1 13 1,q1 14 11 13,nT 15 14] [1,2,4,15] (cD 15 (oR [o1 16 (.build [.nil,.nil] []),sT 4 16 2,mZ 5 1] [4,5]) .skip)) (oS [m1 17 1,q1 18 16 17,o1 19 (.build [.nil,.nil] [(0,1,.t 18)]),o1 6 (.alloc (.agg [.nil,.nil])),sT 6 19 2] [1,2,4,6] Ahu)
def AsL:IC:=oS [bX 2 0,o1 4 (.alloc (.agg [.nil,.nil])),mZ 5 0] [1,2,4] AsJ
def f7R:List R:=[.c 4 2 true,.t 5]
def f7e:=An AgS.eq_1<|An Ahg.eq_1<|An qA.eq_1<|An Ah9.eq_1<|An Aho.eq_1<|An AgE.eq_1<|An AiR.eq_1<|An Ahu.eq_1<|An AsJ.eq_1<|AR AsL.eq_1
theorem Aws:Ao π 7 92 AsL f7R=true:=by kernel_rfl
def lT:IC:=sQ (.block 4 (oS [iA 58 54 56 96 6,lA 59 58 6,o1 13 (.alloc (.agg [.i .i64 0,.s [],.s [],.s [],.nil,.nil])),sT 13 59 6] [0,2,7,13,14,15,16,54,55,56] (oP [m1 60 7,lA 61 13 6,o1 62 (.calln 46 [.t 60,.t 61]),m1 7 62] [0,2,7,14,15,16,54,55,56]))) (oP [bZ 63 .add 56 1,m1 56 63] [0,2,7,14,15,16,54,55,56])
def Wr:IC:=oS [bT 57 .lss 56 55] [0,2,7,14,15,16,54,55,56,57] (sQ (cD 57 .skip (.exit 3)) lT)
def pQ:IC:=sQ (.ops [m1 39 0,m1 40 0,nC 41 40,fA 42 41 0,lA 43 42 16,lA 44 9 6,m1 45 0,nC 46 45,fA 47 46 17,l1 48 47,m1 49 10,iA 50 48 49 9 1,l1 51 50,q3 52 45 43 44 51,m1 53 11,o1 54 (.callr 19 [.t 39,.t 52,.t 53]),nL 55 54,mZ 56 0] [0,2,7,14,15,16,54,55,56] [[1,2],[2,3],[3,4],[6,7],[7,8],[8,9],[9,11],[10,11],[11,12],[4,13],[5,13],[12,13],[0,15],[13,15],[14,15],[15,16]]) (.block 3 (.loop Wr))
def tC:IC:=sQ (oS [fA 34 9 0,l1 35 34,bZ 36 .neq 35 9] [0,2,7,9,10,11,14,15,16,36] (cD 36 (oP [fA 37 9 2,l1 38 37,m1 11 38] [0,2,7,9,10,11,14,15,16]) .skip)) pQ
def mM:IC:=oS [m1 27 0,nC 28 27,fA 29 28 16,l1 30 29,o1 31 (.mkfn 44 [] [.t 9]),o1 32 (.callr 43 [.t 30,.t 31]),m1 10 32] [0,2,7,9,10,14,15,16] (oS [m1 33 2,m1 11 33] [0,2,7,9,10,11,14,15,16] tC)
def iX:IC:=oP [m1 68 7,m1 69 2,o1 70 (.build [.i .i64 0,.s [],.s [],.s [],.nil,.nil] [(0,1,ci 3),(2,1,.t 69)]),o1 71 (.msl false 96 6 [.t 70]),o1 72 (.app (.t 68) (.t 71) 96 6),m1 7 72] [0,2,7,14,15,16]
def sY:IC:=oS [m1 77 0,fA 78 9 5,l1 79 78,m1 80 2,o1 81 (.callr 19 [.t 77,.t 79,.t 80]),fA 82 9 5,sT 82 81 1] [0,2,7,9,14,15,16] (oP [m1 83 7,lA 84 9 6,o1 85 (.msl false 96 6 [.t 84]),o1 86 (.app (.t 83) (.t 85) 96 6),m1 7 86] [0,2,7,14,15,16])
def pS:IC:=oS [fA 74 9 0,l1 75 74,bZ 76 .eql 75 11,m1 73 76] [0,2,7,9,14,15,16,73] (cD 73 sY (oP [m1 20 7,lA 21 9 6,o1 22 (.calln 46 [.t 20,.t 21]),m1 7 22] [0,2,7,14,15,16]))
def nI:IC:=.block 2 (oS [fA 24 9 0,l1 25 24,q1 26 42 25,m1 23 26] [0,2,7,9,14,15,16,23] (cD 23 mM (oS [fA 65 9 0,l1 66 65,bZ 67 .eql 66 10,m1 64 67] [0,2,7,9,14,15,16,64] (cD 64 iX pS))))
def lQ:IC:=sQ (.block 1 (oS [iA 18 14 16 96 6,lA 19 18 6,o1 9 (.alloc (.agg [.i .i64 0,.s [],.s [],.s [],.nil,.nil])),sT 9 19 6] [0,2,7,9,14,15,16] nI)) (oP [bZ 87 .add 16 1,m1 16 87] [0,2,7,14,15,16])
def Aiv:IC:=sQ (oS [m1 14 1,nL 15 14,mZ 16 0] [0,2,7,14,15,16] (.block 0 (.loop (oS [bT 17 .lss 16 15] [0,2,7,14,15,16,17] (sQ (cD 17 .skip (.exit 0)) lQ))))) (oR [m1 88 7,m1 6 88] [6])
def Ag2:IC:=oS [mC 6 .nil] [0,1,2] (oS [mC 7 .nil] [0,1,2,7] Aiv)
def Axh:List R:=[.t 6]
def A0t:=An lT.eq_1<|An Wr.eq_1<|An pQ.eq_1<|An tC.eq_1<|An mM.eq_1<|An iX.eq_1<|An sY.eq_1<|An pS.eq_1<|An nI.eq_1<|An lQ.eq_1<|An Aiv.eq_1<|AR Ag2.eq_1
theorem ApO:Ao π 19 89 Ag2 Axh=true:=by kernel_rfl
def Ah0:IC:=oR [fA 4 2 0,l1 5 4,fA 6 1 0,l1 7 6,bT 8 .eql 5 7,m1 9 8,Fa 10 9 2 1,E3 11 9 10,Fa 12 9 1 2,E3 13 9 12,gT 14 9 (.bin .eql (.t 11) (.t 13)),pA 15 9 14,m1 3 15] [3]
def AiU:IC:=oS [bX 2 0,mC 3 (.b false)] [1,2] Ah0
def AwI:List R:=[.t 3]
def A0k:=An Ah0.eq_1<|AR AiU.eq_1
theorem Asp:Ao π 44 16 AiU AwI=true:=by kernel_rfl

attribute[push_cast]Axn AzC Aq9 AxU Aw7 A09 AwR A04 Awf A0V Awp A02 Ax5 A0W f7R f7e Axh A0t AwI A0k
end Go.Ir

namespace Go.Ir
open Go.Proofs
variable(O:World)
theorem H7{O:World}{nt n s:Nat}{env:BB}{σ:Aq}{id:Id}{e sz:Nat}{es:List V}(m:get env s=.arr id)(l:∀y∈es,y.ok=true)(j:lk σ id=some (.arr e sz es)):ME O nt [.t s] [.sl es] [] .ret ⟨env,σ,n⟩:=by
 refine⟨⟨[(s,.sl es)],[],n⟩,Ag.weak (λi=>if i=id then some es else none) (λi es' h=>?_) (λt=>?_) (λi e' h=>by cases h) (Ab6 _),⟨by simp[M5,get],trivial⟩,λ_ _ h=>by cases h⟩
 .split at h
  .rename_i g;subst g;cases h;exact⟨⟨e,sz,j⟩,rfl⟩
  .cases h
 .by_cases d:s=t
  .subst d;rw[m];simp only[get];refine .arr id es es (by simp) rfl (λk c f b a=>?_) (λk c f b a=>?_)
   .rw[b] at a;cases a;exact .refl _
   grind
  .simp only[get,AfL d];exact .any _
def Cv:Aa->Bool
 | []=>false
 | c::_=>(c.toNat:Int)==61
def KI(kind:Int)(k:Aa):Bool:=!(k==AH)&&(kind==9||Cv k)
def MG(kind:Int)(keys:List Aa):List Aa:=if kind==9 then[] else Hw.filter λk=>keys.contains k
def HG(kind:Int)(keys:List Aa):List Aa:=keys.filter (KI kind)++(MG kind keys++[AH])
theorem dG(s:Aa):Ak π O 102 [.s s,.s [61]] [] (.b (Cv s)) []:=by
 cases s with
 | nil=>
  refine Ac (vs:=[.b false]) mE (by simp) (by simp) λn0 a=>?_;clear a;simp only[push_cast,seval]
  repeat' (first|((apply AL<;>intro _h)<;>simp only[push_cast,seval,_h,decide_false])|intro _)
  all_goals (first|(refine Af ?_;simp[get]<;>(intros;omega);done)|(exact Gj;done)|skip)
 | cons c t=>
  have d:decide (((c::t).length:Int)>=1)=true:=by simp<;>omega
  have e:(if 0<=1/\1<=(c::t).length then some (V.s (List.take 1 (c::t))) else none)=some (V.s [c]):=by simp
  have f:([c]==[61])=((c.toNat:Int)==61):=by rw[Aym];simp[<-A1y];omega
  simp only[push_cast,seval] at d e;refine Ac (vs:=[.b (Cv (c::t))]) mE (by simp) (by simp) λn0 a=>?_;clear a;simp only[push_cast,seval,d,f]
  repeat' (first|((apply AL<;>intro _h)<;>simp only[push_cast,seval,_h,d,e,f])|intro _)
  all_goals (first|(refine Af ?_;simp[get,Cv]<;>(intros;omega);done)|(refine Ah ?_;simp[push_cast,get,Cv];done)|skip)
theorem oW(s:Aa):Ak π O 74 [.s s,.s [61]] [] (.b (Cv s)) []:=by
 refine Ac (vs:=[.b (Cv s)]) AoR (by simp) (by simp) λn0 a=>?_;clear a;push_cast;repeat' (first|(first|(apply AL<;>intro _h)|refine Ab (dG O s) ?_)<;>push_cast[_h]|intro _)
 all_goals (first|(refine Af ?_;simp[get]<;>(intros;omega);done)|(exact Gj;done)|skip)
theorem Wi:Ak π O 75 [] [] (.sl (Hw.map V.s)) []:=by
 unfold Hw;simp only[Ao7,Ava];refine Ac (vs:=[.sl [.s [122,101,114,111],.s [111,110,101],.s [116,119,111],.s [102,101,119],.s [109,97,110,121]]]) AoE (by simp) (by simp) λn0 a=>?_;clear a;simp only[push_cast]
 repeat' (first|((apply AL<;>intro _h)<;>(simp only[push_cast,_h];try (have _g:=_h;simp at _g)))|intro _)
 all_goals (first|(refine Af ?_;simp[get]<;>(intros;omega);done)|(exact Gj;done)|skip)
theorem FN(o:List Aa)(k:Aa):List.map V.s o++[V.s k]=List.map V.s (o++[k]):=by simp
theorem okS(o:List Aa):∀y∈List.map V.s o,y.ok=true:=by intro y a;obtain⟨x,_,rfl⟩:=Aov.1 a;rfl
theorem gM(kind:Int)(p:Aa)(keys:List Aa)(J:keys.length<=2^26) :
  Ak π O 37 [.agg [.i .i64 kind,.s p,.sl (keys.map V.s)]] [] (.sl ((HG kind keys).map V.s)) []:=by
 have A:=Wi O;generalize hS:HG kind keys=S;unfold HG at hS;refine Ac (vs:=[.sl (S.map V.s)]) ArT (by simp) (by simp) λn0 E=>?_;clear E;simp only[push_cast,rq];intros;refine Aj keys.length (Inv:=λm st=>∃dn b n id o,keys=dn++b/\m=b.length/\o++(b.filter (KI kind)++(MG kind keys++[AH]))=S/\o.length<=dn.length/\(id=(n0,1))=False/\st=⟨[(1,.ref (n0,1) 0),(3,.arr id),(9,.sl (keys.map V.s)),(10,.i .i64 keys.length),(11,.i .i64 dn.length)],[(id,.arr 9 1 (o.map V.s)),((n0,1),.box (.agg [.i .i64 kind,.s p,.sl (keys.map V.s)]))],n⟩) ⟨_,(Ag.own (s:=3) (e:=9) (sz:=1) (k:=29) rfl).trans (Ag.envD (λt=>?_) (Ab6 _)),[],keys,_,_,[],rfl,rfl,hS,by simp,by simp,rfl⟩ ?_
 .left;by_cases F:3=t
  .subst F;rfl
  .simp[get,F]
 rintro m _ ⟨dn,b,n,id,o,q,rfl,g,G,d,rfl⟩;have f:((n0,1)=id)=False:=Ab8 λB=>AiZ d B.symm;cases b with
 | nil=>
  rw[List.filter_nil,Avc] at g;have D:o.length<=2^26:=by grind
  have u:∀a:Nat,a<=2^26+5->(a+1<=AJ)=True:=λa h=>Arp (by unfold AJ;omega);rcases Ay8 (kind==9) with l|l
  .have r:(kind !=9)=false:=by simp[bne,l]
   unfold MG at g;rw[l,Amm rfl,Avc] at g;unfold AH at g;simp only[push_cast,rq,d,f,r,u o.length (by omega),FN,g,q]
   repeat' (first|(((first|apply Ai|apply Am|apply Al)<;>intro _h)<;>simp only[push_cast,rq,_h,d,f,r,u o.length (by omega),Afb,FN,g])|intro _)
   exact H7 (e:=9) (sz:=1) rfl (okS _) (by simp[lk])
  .have r:(kind !=9)=true:=by simp[bne,l]
   unfold MG at g;rw[l,AfL (by simp)] at g;have x:o.length<=keys.length:=by grind
   have y:decide ((dn.length:Int)<(keys.length:Int))=false:=by rw[q];simp
   clear G q;simp only[push_cast,rq,d,r,y];repeat' (first|(first|((first|apply Ai|apply Am|apply Al)<;>intro _h)|refine Ab A ?_)<;>simp only[push_cast,rq]|intro _)
   refine Aj 5 (Inv:=λm st=>∃dn b n id o,Hw=dn++b/\m=b.length/\o++(b.filter (λk=>keys.contains k)++[AH])=S/\o.length<=keys.length+dn.length/\(id=(n0,1))=False/\st=⟨[(1,.ref (n0,1) 0),(3,.arr id),(34,.sl (Hw.map V.s)),(35,.i .i64 5),(36,.i .i64 dn.length)],[(id,.arr 9 1 (o.map V.s)),((n0,1),.box (.agg [.i .i64 kind,.s p,.sl (keys.map V.s)]))],n⟩) ⟨_,Ag.refl,[],Hw,_,id,o,rfl,rfl,g,by simpa using x,d,rfl⟩ ?_;clear d f g x o id D;rintro m _ ⟨c,b,n,id,o,q,rfl,g,G,d,rfl⟩;have f:((n0,1)=id)=False:=Ab8 λB=>AiZ d B.symm;have w:c.length+b.length=5:=by have:=A1o List.length q;simp at this;exact this.symm
   cases b with
   | nil=>
    rw[List.filter_nil,Avc] at g;simp at w;unfold AH at g;have j:decide ((c.length:Int)<5)=false:=by simp;omega
    simp only[push_cast,rq,f,u o.length (by omega),FN,g,j]
    repeat' (first|(((first|apply Ai|apply Am|apply Al)<;>intro _h)<;>simp only[push_cast,rq,_h,d,f,u o.length (by omega),Afb,FN,g,j])|intro _)
    exact H7 (e:=9) (sz:=1) rfl (okS _) (by simp[lk])
   | cons k b=>
    have v:=G8 O keys k (by omega);have j:decide ((c.length:Int)<5)=true:=by grind
    rw[q];generalize H:keys.contains k=C at v;cases C with
    | true=>
     simp only[push_cast,rq,d,j];repeat' (first|(first|((first|apply Ai|apply Am|apply Al)<;>intro _h)|refine Ab v ?_)<;>simp only[push_cast,rq,f,u o.length (by omega),FN,Ae k (dn:=c) (by simp at w;omega)]|intro _)
     exact⟨_,_,Ab4 _,Ag.refl,c++[k],b,_,_,o++[k],by simp,rfl,by grind,by simp;omega,by simp,rfl⟩
    | false=>
     simp only[push_cast,rq,d,j];repeat' (first|(first|((first|apply Ai|apply Am|apply Al)<;>intro _h)|refine Ab v ?_)<;>simp only[push_cast,rq,Ae k (dn:=c) (by simp at w;omega)]|intro _)
     exact⟨_,_,Ab4 _,Ag.refl,c++[k],b,_,_,o,by simp,rfl,by grind,by simp;omega,d,rfl⟩
 | cons k b=>
  have I:=A9 q;have u:o.length+1<=AJ:=by unfold AJ;omega
  have z:=oW O k;simp only[push_cast,rq,q];repeat' (first|(first|((first|apply Ai|apply Am|apply Al)<;>intro _h)|refine Ab z ?_)<;>simp only[push_cast,rq,_h,Ae k (dn:=dn) (by omega),d,f,Arp u,FN]|intro _)
  all_goals (try simp only[AsZ,Ay9] at *)
  all_goals (first|exact⟨_,_,Ab4 _,Ag.refl,dn++[k],b,_,_,o++[k],by simp,rfl,by rw[<-g,List.filter_cons_of_pos (by simp only[KI,AH, *];rfl)];simp[q],by simp;omega,by simp,rfl⟩|exact⟨_,_,Ab4 _,Ag.refl,dn++[k],b,_,_,o,by simp,rfl,by rw[<-g,A1Q (by simp only[KI,AH, *];simp)];simp[q],by simp;omega,d,rfl⟩|skip)
def TS:Nat:=70
theorem Rh l (k:Aa):l.contains k=decide (AV (λx=>k==x) l>=0):=by rw[EY,A1M]
theorem Al5(l:List Aa)(k:Aa) id (a:l.length<=2^40):Ak π O 53 [.arr id,.s k] [(id,.arr 9 1 (l.map V.s))] (.b (l.contains k)) [(id,.arr 9 1 (l.map V.s))]:=by rw[Rh];exact J9 O (by kernel_rfl) _ _ _ _ (TV O (f:=58) (e:=9) (by kernel_rfl) l k id _ (by omega))
theorem AlK(k:Aa):Ak π O 53 [.nil,.s k] [] (.b false) []:=
 J9 O (by kernel_rfl) _ _ _ _ (WE O (f:=58) (e:=9) (by kernel_rfl) k)
def CO(a:Id)(b:Option Id)(L:List OS):Aq:=(a,.box (.agg [sv b]))::OM TS b L
structure Eg (cid:Id) (lo:Option Id) (L:List OS) (n:Nat):Prop extends SelO TS lo L n where
 c_lt:cid.1<n
 c_ne:∀p∈OM TS lo L,p.1≠cid
theorem Eg.nd'{a b L n}(h:Eg a b L n):((CO a b L).map (·.1)).Nodup:=BP h.nd h.c_ne
theorem Eg.lt'{a b L n}(h:Eg a b L n):∀p∈CO a b L,p.1.1<n:=by
 intro p hp;rcases Ahk.1 hp with rfl|hp
 .exact h.c_lt
 .exact h.lt p hp
def BL(n:Nat)(a:Option Id)(b:List OS)(c:Option Id)(L:List OS):Prop:=∀p∈OM TS c L,n<=p.1.1\/p.1∈(OM TS a b).map (·.1)
theorem BL.refl n a L:BL n a L a L:=λp hp=>.inr (Aov.2 ⟨p,hp,rfl⟩)
theorem BL.trans{n n' b f a d L c}(h:BL n b d f L)(k:BL n' f L a c)(i:n<=n'):BL n b d a c:=by
 intro p hp;rcases k p hp with e|e
 .grind
 .have ⟨q,hq,he⟩:=Aov.1 e;rcases h q hq with g|g
  .grind
  grind
theorem Eg.more{a c L n n'}(h:Eg a c L n)(b:n<=n'):Eg a c L n':=⟨h.toSelO.more b,AuD h.c_lt b,h.c_ne⟩
theorem Afh{σ:Aq}{id}{X:AP}(h:(σ.map (·.1)).Nodup)(b:∀p∈σ,p.1≠id):((σ++[(id,X)]).map (·.1)).Nodup:=
 uW h (by simp) (λp hp q a=>by grind)
theorem pJ{a:Id}{e b:Option Id}{L d:List OS}{n m:Nat}{id:Id}(h:Eg a e L m)(i:m<=id.1)(j:id.1<n)(g:BL n e L b d):∀p∈CO a b d,p.1≠id:=by
 intro p hp f;rcases Ahk.1 hp with rfl|hp
 .have:=h.c_lt;grind
 .rcases g p hp with c|c
  .rw[f] at c;omega
  .have ⟨q,hq,hqe⟩:=Aov.1 c;have:=h.lt q hq;grind
def AfG(a:Id)(d:Option Id)(e:List OS)(b:List B4)(n n':Nat)(v:V)(σ':Aq):Prop:=
 v=.tup []/\∃c L,σ'=CO a c L/\Eg a c L n'/\L.map (·.1)=b/\BL n d e c L
theorem VW{σ τ}(a:(σ.map (·.1)).Nodup)(h:∀p∈τ,p∈σ):∀i e,lk τ i=some e->lk σ i=some e:=λi e b=>FR a (h _ (Hv b))
theorem Eg.key{b a A B}{x:OS}{n n' id}(h:Eg b (some a) (A++x::B) n)(e:n<=id.1)(d:id.1<n') s:Eg b (some a) (A++(s,some id)::B) n':=by
 refine⟨h.toSelO.key e d s,by have:=h.c_lt;omega,λp hp c=>?_⟩;rw[AB,Cx,Dk] at hp;rcases Ahk.1 hp with rfl|hp
 .exact h.c_ne (a,.arr TS 3 ((A++x::B).map Hf)) (by simp[AB]) c
 .rcases AfJ.1 hp with hp|hp
  .exact h.c_ne p (by rw[AB,Cx];grind) c
  .rcases AfJ.1 hp with hp|hp
   .simp[OY] at hp;subst hp;have:=h.c_lt;grind
   .exact h.c_ne p (by rw[AB,Cx,Dk];grind) c
theorem BL.key{a A B}{x:OS}{n id}(b:n<=id.1) s:BL n (some a) (A++x::B) (some a) (A++(s,some id)::B):=by
 intro p hp;rw[AB,Cx,Dk] at hp;rw[AB,Cx,Dk];rcases Ahk.1 hp with rfl|hp
 .right;simp
 .rcases AfJ.1 hp with hp|hp
  .grind
  .rcases AfJ.1 hp with hp|hp
   .simp[OY] at hp;grind
   grind
theorem Sf A B (x:OS) o f:((A++x::B).map (·.1)).modify A.length f=(A++(f x.1,o)::B).map (·.1):=by
 induction A with
 | nil=>rfl
 | cons a A b=>simpa using b
theorem Fq{P O nt c Q st a}(h:Ag O nt st a)(k:F8 P O nt c Q a):F8 P O nt c Q st:=by unfold F8 at *;exact WU h k
theorem RR(cs:List AD)(f:Id)(j:Nat)(M:Id)(L0:List OS)(n0:Nat)(a9 ay az:V)(Q:Exit->St->Prop)
  (aE:∀x∈cs,∀lo L n1,DA (L.map (·.1))+A7 x.2<=2^26->Eg f lo L n1->FK π O 36 [.ref f 0,.sl (x.2.map Ad.enc)] (CO f lo L) (AfG f lo L (Av x.2 (L.map (·.1)))))
  (hw:DA (L0.map (·.1))+De cs<=2^26)(t:Eg f (some M) L0 n0)(hj:j<L0.length)
  (hQ:∀d L n',L.map (·.1)=BG cs j (L0.map (·.1))->Eg f (some d) L n'->n0<=n'->BL n0 (some M) L0 (some d) L->Q (.exit 2) ⟨[(0,.ref f 0),(6,.i .i64 j),(9,a9),(10,ay),(11,az),(51,.sl (cs.map AD.enc)),(52,.i .i64 cs.length),(53,.i .i64 cs.length),(54,.b false)],CO f (some d) L,n'⟩) :
  F8 π O 94 WK Q ⟨[(0,.ref f 0),(6,.i .i64 j),(9,a9),(10,ay),(11,az),(51,.sl (cs.map AD.enc)),(52,.i .i64 cs.length),(53,.i .i64 0)],CO f (some M) L0,n0⟩:=by
 have bh:=Er cs;generalize hS:BG cs j (L0.map (·.1))=S at hQ;refine Aj cs.length (Inv:=λm st=>∃cd cr n d L,cs=cd++cr/\m=cr.length/\BG cr j (L.map (·.1))=S/\DA (L.map (·.1))+De cr<=2^26/\Eg f (some d) L n/\n0<=n/\BL n0 (some M) L0 (some d) L/\j<L.length/\st=⟨[(0,.ref f 0),(6,.i .i64 j),(9,a9),(10,ay),(11,az),(51,.sl (cs.map AD.enc)),(52,.i .i64 cs.length),(53,.i .i64 cd.length)],CO f (some d) L,n⟩) ⟨_,Ag.refl,[],cs,_,M,L0,rfl,rfl,hS,hw,t,Ab6 _,BL.refl _ _ _,hj,rfl⟩ ?_;clear hS t hj;rintro m _ ⟨cd,cr,n,d,L,hz,rfl,hd,hw,t,bj,au,hj,rfl⟩;cases cr with
 | nil=>rw[BG] at hd;rw[hz] at hQ⊢;simp only[At9] at hQ⊢;simp only[push_cast,seval];intro k2;exact hQ d L _ hd (t.more (by omega)) (by omega) au
 | cons c cr=>
  have bc:=A9 hz;have aq:c∈cs:=by rw[hz];simp
  have bk:=B7 aq;rw[Cb] at hd;rw[Bn] at hw;have ⟨l1,l2,l3,l4⟩:=t.toSelO.arr;have ⟨A,x,B,hL,hA⟩:∃A x B,L=A++x::B/\A.length=j:=⟨L.take j,L[j],L.drop (j+1),by simp,by simp;omega⟩
  subst hL;subst hA;have a5:=t.lt';have aY:=t.nd';have hE:Bc (A++x::B)=Bc A++(OY x++Bc B):=by rw[Cx,Dk]
  have a4:(A++x::B).length<=2^26:=by have:=KL ((A++x::B).map (·.1));grind
  simp only[push_cast,seval,hz];intro k2 k3;have hy:∀q∈CO f (some d) (A++x::B),q.1≠(n+1+k2,8):=by grind
  refine H3 (Ag.sub (BP aY hy) (σ':=((n+1+k2,8),.box (.agg [.s c.1,.sl (c.2.map Ad.enc)]))::(f,.box (.agg [.arr d]))::(d,.arr TS 3 ((A++x::B).map Hf))::(OY x++(Bc A++Bc B))) (λq g=>?_) (Ab6 _)) ?_
  .simp only[CO,AB,hE,Ahk,AfJ] at g⊢;rcases g with h|h|h|h|h|h
   .exact .inl h
   .exact .inr (.inl h)
   .grind
   .grind
   .grind
   grind
  have bm:n<n+1+k2/\n+1+k2<n+1+k2+1+k3:=by omega
  generalize n+1+k2=R at *;generalize bi:R+1+k3=m1 at *;have bd:=t.c_lt;have y:((R,8)=f)=False:=Ab8 λp=>by grind
  have ac:(f=(R,8))=False:=Ab8 λp=>AiZ y p.symm;have w:((R,8)=d)=False:=Ab8 λp=>by grind
  have ad:(d=(R,8))=False:=Ab8 λp=>AiZ w p.symm;have U:(f=d)=False:=Ab8 λp=>t.c_ne (d,.arr TS 3 ((A++x::B).map Hf)) (by simp[AB]) p.symm;have aG:(d=f)=False:=Ab8 λp=>AiZ U p.symm;have ae:∀k,((m1+1+k,85)=f)=False:=λk=>Ab8 λp=>by grind
  have H:∀k,((m1+1+k,85)=d)=False:=λk=>Ab8 λp=>by grind
  have a3:((A++x::B).map Hf)[A.length]?=some (Hf x):=by simp
  have be:A.length<((A++x::B).map Hf).length:=by simp
  rcases x with⟨s,ko⟩;cases ko with
  | none=>
   have aZ:s.keys=[]:=t.kn (s,none) (by simp) rfl;have C:∀q∈Bc A++Bc B,q.1≠d/\q.1≠f/\q.1.1<n:=by
    intro q g;have aa:q∈Bc (A++(s,none)::B):=by rw[hE];simpa[OY] using g
    exact⟨l2 q aa,t.c_ne q (by rw[AB];exact Ab5 _ aa),l3 q aa⟩
   have W:Hf (s,none)=.agg [.i .i64 s.kind,.s s.name,.nil]:=rfl;simp only[OY,Avc];generalize hT:Bc A++Bc B=T at *;simp only[push_cast,seval,Amm hj,W,TS,y,w,U];refine T9 (AlK O c.1) ?_;simp only[push_cast,seval,Amm hj,W,y,w,U];intro K;have ah:∀id,(List.map Hf (A++(s,none)::B)).set A.length (.agg [.i .i64 s.kind,.s s.name,.arr id])=List.map Hf (A++((⟨s.kind,s.name,[c.1]⟩:B4),some id)::B):=λid=>Y8 A B (s,none) (⟨s.kind,s.name,[c.1]⟩,some id);simp only[push_cast,seval,Amm hj,W,w,U,H,Arp (show 1<=AJ by decide),ah];intro k5 k6;have ⟨u,hL2⟩:∃u,u=A++((⟨s.kind,s.name,[c.1]⟩:B4),some (m1+1+K,85))::B:=⟨_,rfl⟩
   have ⟨N2,hN2⟩:∃N2,N2=m1+1+K+1:=⟨_,rfl⟩
   have J:Eg f (some d) u N2:=by rw[hL2,hN2];exact t.key (by simp;omega) (by simp) _
   have I:BL n (some d) (A++(s,none)::B) (some d) u:=by rw[hL2];exact BL.key (by simp;omega) _
   have o:((A++(s,none)::B).map (·.1)).modify A.length (AZ c.1)=u.map (·.1):=by rw[hL2,Sf A B (s,none) (some (m1+1+K,85))];simp[AZ,aZ]
   have aD:(T.map (·.1)).Nodup:=by rw[<-hT];simpa[hE,OY] using l4
   have F:∀X Y Z:AP,((((m1+1+K,85),X)::((R,8),Y)::(f,.box (.agg [.arr d]))::(d,Z)::T).map (λq:Id×AP=>q.1)).Nodup:=λX Y Z=>
    BP (BP (BP (BP aD λq g=>(C q g).1) λq g=>by
     rcases Ahk.1 g with rfl|g
     .exact AiZ aG
     .exact(C q g).2.1) λq g=>by
     rcases Ahk.1 g with rfl|g
     .exact AiZ ac
     .rcases Ahk.1 g with rfl|g
      .exact AiZ ad
      .intro p;have:=(C q g).2.2;rw[p] at this;simp at this;omega) λq g=>by
     rcases Ahk.1 g with rfl|g
     .simp
     .rcases Ahk.1 g with rfl|g
      .exact λp=>AiZ (ae K) p.symm
      .rcases Ahk.1 g with rfl|g
       .exact λp=>AiZ (H K) p.symm
       .intro p;have:=(C q g).2.2;rw[p] at this;simp at this;omega
   have F:=F (.arr 9 1 [.s c.1]) (.box (.agg [.s c.1,.sl (c.2.map Ad.enc)])) (.arr TS 3 (u.map Hf));have G:∀q∈CO f (some d) u,q∈((m1+1+K,85),AP.arr 9 1 [.s c.1])::((R,8),AP.box (.agg [.s c.1,.sl (c.2.map Ad.enc)]))::(f,.box (.agg [.arr d]))::(d,.arr TS 3 (u.map Hf))::T:=by
    intro q g;have af:Bc u=Bc A++(((m1+1+K,85),.arr 9 1 [.s c.1])::Bc B):=by rw[hL2,Cx,Dk];rfl
    simp only[CO,AB,af,<-hT,sv,Ahk,AfJ] at g⊢;rcases g with h|h|h|h|h
    .exact .inr (.inr (.inl h))
    .exact .inr (.inr (.inr (.inl h)))
    .exact .inr (.inr (.inr (.inr (.inl h))))
    .exact .inl h
    .exact .inr (.inr (.inr (.inr (.inr h))))
   rw[<-hL2];refine Bd (aE c aq (some d) u N2 (by rw[<-o];have:=Fb ((A++(s,none)::B).map (·.1)) A.length c.1;omega) J) (VW F G) (λn2 v σo aO hR=>?_);obtain⟨rfl,aj,L1,rfl,z,E,ag⟩:=hR;rw[<-o] at E;have D:=(IZ _ c.2 (Ab4 _) (((A++(s,none)::B).map (·.1)).modify A.length (AZ c.1))).2.1;rw[<-E] at D;rw[A1J,Afb,Afb] at D;have h1:=Fm c.2 (((A++(s,none)::B).map (·.1)).modify A.length (AZ c.1));have h2:=Fb ((A++(s,none)::B).map (·.1)) A.length c.1;rw[<-E] at h1 hd;cases aj with
   | none=>have:=z.ne rfl;subst this;simp at D
   | some N=>simp only[push_cast,seval,Ae c (dn:=cd) (by omega)];intros;exact⟨_,_,Ab4 _,Ag.drop (λi e hl=>AK hl) (Ab6 _),cd++[c],cr,_,N,L1,by simp,rfl,hd,by omega,z.more (by omega),by omega,(au.trans I (by omega)).trans ag (by omega),by omega,rfl⟩
  | some kid=>
   have aM:d≠kid:=λp=>l2 (kid,.arr 9 1 (s.keys.map V.s)) (by rw[hE];simp[OY]) p.symm;have aL:kid≠f:=t.c_ne (kid,.arr 9 1 (s.keys.map V.s)) (by rw[AB,hE];simp[OY]);have bg:kid.1<n:=l3 (kid,.arr 9 1 (s.keys.map V.s)) (by rw[hE];simp[OY]);have aU:(kid=d)=False:=Ab8 (Ao0 aM);have aB:(d=kid)=False:=Ab8 aM;have aT:(kid=f)=False:=Ab8 aL;have an:(f=kid)=False:=Ab8 (Ao0 aL);have aA:(kid=(R,8))=False:=Ab8 λp=>by grind
   have ao:((R,8)=kid)=False:=Ab8 λp=>AiZ aA p.symm;have bb:∀k,((m1+1+k,85)=kid)=False:=λk=>Ab8 λp=>by grind
   have C:∀q∈Bc A++Bc B,q.1≠d/\q.1≠f/\q.1.1<n/\q.1≠kid:=by
    intro q g;have aa:q∈Bc (A++(s,some kid)::B):=by
     rw[hE];rcases AfJ.1 g with h|h
     .exact Axe _ h
     .exact Axf _ (Axf _ h)
    refine⟨l2 q aa,t.c_ne q (by rw[AB];exact Ab5 _ aa),l3 q aa,?_⟩;rw[hE] at l4;have ⟨n1,n2,n3⟩:=HK l4;have ⟨n4,n5,n6⟩:=HK n2;rcases AfJ.1 g with h|h
    .exact n3 q h (kid,.arr 9 1 (s.keys.map V.s)) (Axe _ (by simp[OY]))
    .exact(n6 (kid,.arr 9 1 (s.keys.map V.s)) (by simp[OY]) q h).symm
   have aD:((Bc A++Bc B).map (·.1)).Nodup:=by rw[hE] at l4;exact WR l4 ((List.Sublist.refl _).append (A1l _ _))
   have W:Hf (s,some kid)=.agg [.i .i64 s.kind,.s s.name,.arr kid]:=rfl;have bf:s.keys.length<=2^26:=by have:=LS (l:=(A++(s,some kid)::B).map (·.1)) (s:=s) (by simp);omega
   simp only[OY,AvC,Avc];generalize hT:Bc A++Bc B=T at *;have aw:∀X Y:AP,(([((R,8),X),(f,.box (.agg [.arr d])),(d,Y)]++T).map (λq:Id×AP=>q.1)).Nodup:=λX Y=>
    BP (BP (BP aD λq g=>(C q g).1) λq g=>by
     rcases Ahk.1 g with rfl|g
     .exact AiZ aG
     .exact(C q g).2.1) λq g=>by
     rcases Ahk.1 g with rfl|g
     .exact AiZ ac
     .rcases Ahk.1 g with rfl|g
      .exact AiZ ad
      .intro p;have:=(C q g).2.2.1;rw[p] at this;simp at this;omega
   have aK:=Al5 O s.keys c.1 kid (by omega);have ax:∀X Y Z:AP,over [(kid,Z)] [(kid,Z)] (((R,8),X)::(f,.box (.agg [.arr d]))::(d,Y)::(kid,Z)::T)=(kid,Z)::((R,8),X)::(f,.box (.agg [.arr d]))::(d,Y)::T:=λX Y Z=>
    Gw (σi:=[(kid,Z)]) (pre:=[((R,8),X),(f,.box (.agg [.arr d])),(d,Y)]) (post:=T) (λq g r hr=>by
     simp at hr;subst hr;simp at g;rcases g with rfl|rfl|rfl
     .exact AiZ ao
     .exact AiZ an
     omega) (λq g r hr=>by simp at hr;subst hr;exact(C q g).2.2.2)
   have ai:∀X Y Z:AP,∀i e,lk [(kid,Z)] i=some e->lk (((R,8),X)::(f,.box (.agg [.arr d]))::(d,Y)::(kid,Z)::T) i=some e:=by
    intro X Y Z i e h;simp only[lk] at h;split at h
    .rename_i h1;subst h1;simp only[lk,ao,an,aB,Ab9,AbA];exact h
    .cases h
   generalize aH:s.keys.contains c.1=IN at *;have ah:∀id,(List.map Hf (A++(s,some kid)::B)).set A.length (.agg [.i .i64 s.kind,.s s.name,.arr id])=List.map Hf (A++((⟨s.kind,s.name,s.keys++[c.1]⟩:B4),some id)::B):=λid=>Y8 A B (s,some kid) (⟨s.kind,s.name,s.keys++[c.1]⟩,some id);have aW:List.map V.s s.keys++[V.s c.1]=List.map V.s (s.keys++[c.1]):=by simp
   have aX:s.keys.length+1<=AJ:=by unfold AJ;omega
   have aV:=TF (λq g=>(C q g).2.2.2);cases IN with
   | true=>
    simp only[push_cast,seval,Amm hj,W,TS,y,w,U];refine AX aK (ai _ _ _) ?_;rw[ax];simp only[push_cast,seval,aA];intro k5 k6;have ⟨u,hL2⟩:∃u,u=A++(s,some kid)::B:=⟨_,rfl⟩
    have ⟨N2,hN2⟩:∃N2,N2=m1:=⟨_,rfl⟩
    have J:Eg f (some d) u N2:=by rw[hL2,hN2];exact t.more (by omega)
    have I:BL n (some d) (A++(s,some kid)::B) (some d) u:=by rw[hL2];exact BL.refl _ _ _
    have o:((A++(s,some kid)::B).map (·.1)).modify A.length (AZ c.1)=u.map (·.1):=by rw[hL2,Sf A B (s,some kid) (some kid)];simp only[AZ,aH,AbA]
    have F:=BP (a:=(kid,.arr 9 1 (s.keys.map V.s))) (aw (.box (.agg [.s c.1,.sl (c.2.map Ad.enc)])) (.arr TS 3 (u.map Hf))) (λq g=>by
     rcases Ahk.1 g with rfl|g
     .exact AiZ ao
     .rcases Ahk.1 g with rfl|g
      .exact AiZ an
      .rcases Ahk.1 g with rfl|g
       .exact AiZ aB
       .exact(C q g).2.2.2)
    have G:∀q∈CO f (some d) u,q∈(kid,AP.arr 9 1 (s.keys.map V.s))::([((R,8),AP.box (.agg [.s c.1,.sl (c.2.map Ad.enc)])),(f,.box (.agg [.arr d])),(d,.arr TS 3 (u.map Hf))]++T):=by
     intro q g;have af:Bc u=Bc A++((kid,.arr 9 1 (s.keys.map V.s))::Bc B):=by rw[hL2,Cx,Dk];rfl
     simp only[CO,AB,af,<-hT,sv,Ahk,AfJ] at g⊢;rcases g with h|h|h|h|h
     .exact .inr (.inl (.inr (.inl h)))
     .exact .inr (.inl (.inr (.inr (.inl h))))
     .exact .inr (.inr (.inl h))
     .exact .inl h
     .exact .inr (.inr (.inr h))
    rw[<-hL2];refine Bd (aE c aq (some d) u N2 (by rw[<-o];have:=Fb ((A++(s,some kid)::B).map (·.1)) A.length c.1;omega) J) (VW F G) (λn2 v σo aO hR=>?_);obtain⟨rfl,aj,L1,rfl,z,E,ag⟩:=hR;rw[<-o] at E;have D:=(IZ _ c.2 (Ab4 _) (((A++(s,some kid)::B).map (·.1)).modify A.length (AZ c.1))).2.1;rw[<-E] at D;rw[A1J,Afb,Afb] at D;have h1:=Fm c.2 (((A++(s,some kid)::B).map (·.1)).modify A.length (AZ c.1));have h2:=Fb ((A++(s,some kid)::B).map (·.1)) A.length c.1;rw[<-E] at h1 hd;cases aj with
    | none=>have:=z.ne rfl;subst this;simp at D
    | some N=>simp only[push_cast,seval,Ae c (dn:=cd) (by omega)];intros;exact⟨_,_,Ab4 _,Ag.drop (λi e hl=>AK hl) (Ab6 _),cd++[c],cr,_,N,L1,by simp,rfl,hd,by omega,z.more (by omega),by omega,(au.trans I (by omega)).trans ag (by omega),by omega,rfl⟩
   | false=>
    simp only[push_cast,seval,Amm hj,W,TS,y,w,U];refine AX aK (ai _ _ _) ?_;rw[ax];simp only[push_cast,seval,Amm hj,W,y,w,U,H,aU,aB,aT,an,aA,ao,Arp aX,ah,aV,aW];intro K k5 k6;have ⟨u,hL2⟩:∃u,u=A++((⟨s.kind,s.name,s.keys++[c.1]⟩:B4),some (m1+1+K,85))::B:=⟨_,rfl⟩
    have ⟨N2,hN2⟩:∃N2,N2=m1+1+K+1:=⟨_,rfl⟩
    have J:Eg f (some d) u N2:=by rw[hL2,hN2];exact t.key (by simp;omega) (by simp) _
    have I:BL n (some d) (A++(s,some kid)::B) (some d) u:=by rw[hL2];exact BL.key (by simp;omega) _
    have o:((A++(s,some kid)::B).map (·.1)).modify A.length (AZ c.1)=u.map (·.1):=by rw[hL2,Sf A B (s,some kid) (some (m1+1+K,85))];simp only[AZ,aH,Ab9,Ab7]
    have F:=BP (a:=((m1+1+K,85),.arr 9 1 ((s.keys++[c.1]).map V.s))) (aw (.box (.agg [.s c.1,.sl (c.2.map Ad.enc)])) (.arr TS 3 (u.map Hf))) (λq g=>by
     rcases Ahk.1 g with rfl|g
     .simp
     .rcases Ahk.1 g with rfl|g
      .exact λp=>AiZ (ae K) p.symm
      .rcases Ahk.1 g with rfl|g
       .exact λp=>AiZ (H K) p.symm
       .intro p;have:=(C q g).2.2.1;rw[p] at this;simp at this;omega)
    have G:∀q∈CO f (some d) u,q∈((m1+1+K,85),AP.arr 9 1 ((s.keys++[c.1]).map V.s))::([((R,8),AP.box (.agg [.s c.1,.sl (c.2.map Ad.enc)])),(f,.box (.agg [.arr d])),(d,.arr TS 3 (u.map Hf))]++T):=by
     intro q g;have af:Bc u=Bc A++(((m1+1+K,85),.arr 9 1 ((s.keys++[c.1]).map V.s))::Bc B):=by rw[hL2,Cx,Dk];rfl
     simp only[CO,AB,af,<-hT,sv,Ahk,AfJ] at g⊢;rcases g with h|h|h|h|h
     .exact .inr (.inl (.inr (.inl h)))
     .exact .inr (.inl (.inr (.inr (.inl h))))
     .exact .inr (.inr (.inl h))
     .exact .inl h
     .exact .inr (.inr (.inr h))
    rw[<-hL2];refine Bd (aE c aq (some d) u N2 (by rw[<-o];have:=Fb ((A++(s,some kid)::B).map (·.1)) A.length c.1;omega) J) (VW F G) (λn2 v σo aO hR=>?_);obtain⟨rfl,aj,L1,rfl,z,E,ag⟩:=hR;rw[<-o] at E;have D:=(IZ _ c.2 (Ab4 _) (((A++(s,some kid)::B).map (·.1)).modify A.length (AZ c.1))).2.1;rw[<-E] at D;rw[A1J,Afb,Afb] at D;have h1:=Fm c.2 (((A++(s,some kid)::B).map (·.1)).modify A.length (AZ c.1));have h2:=Fb ((A++(s,some kid)::B).map (·.1)) A.length c.1;rw[<-E] at h1 hd;cases aj with
    | none=>have:=z.ne rfl;subst this;simp at D
    | some N=>simp only[push_cast,seval,Ae c (dn:=cd) (by omega)];intros;exact⟨_,_,Ab4 _,Ag.drop (λi e hl=>AK hl) (Ab6 _),cd++[c],cr,_,N,L1,by simp,rfl,hd,by omega,z.more (by omega),by omega,(au.trans I (by omega)).trans ag (by omega),by omega,rfl⟩
theorem QA{a} p (l:List a):AV p l<l.length:=by
 induction l with
 | nil=>simp[AV]
 | cons x l b=>simp only[AV,An9];grind
theorem Um id:UX (V.arr id)=false:=rfl
theorem No(cs:List AD) j l:DA (BG cs j l)<=DA l+De cs:=by
 induction cs generalizing l with
 | nil=>simp[BG]
 | cons c cs a=>rw[Cb,Bn];have b:=Fm c.2 (l.modify j (AZ c.1));have d:=a (Av c.2 (l.modify j (AZ c.1)));have e:=Fb l j c.1;omega
theorem Eg.add{a g L n n' id}(h:Eg a g L n)(f:n<=id.1)(b:id.1<n') k d:Eg a (some id) (L++[(⟨k,d,[]⟩,none)]) n':=by
 refine⟨h.toSelO.add f b k d,by have:=h.c_lt;omega,λp hp e=>?_⟩;rw[AB,Cx] at hp;rcases Ahk.1 hp with rfl|hp
 .have:=h.c_lt;grind
 .have c:p∈Bc L:=by simpa[Bc,OY] using hp
  exact h.c_ne p (Axf _ c) e
theorem BL.add{c L n id}(b:n<=id.1) k d:BL n c L (some id) (L++[(⟨k,d,[]⟩,none)]):=by
 intro p hp;rw[AB,Cx] at hp;rcases Ahk.1 hp with rfl|hp
 .exact .inl b
 .have a:p∈Bc L:=by simpa[Bc,OY] using hp
  exact .inr (Aov.2 ⟨p,Axf _ a,rfl⟩)
theorem Amw:∀(N:Nat) (ps:List Ad) (f:Id) (C:Option Id) (L0:List OS) (n1:Nat),A7 ps<N->DA (L0.map (·.1))+A7 ps<=2^26->Eg f C L0 n1->
  FK π O 36 [.ref f 0,.sl (ps.map Ad.enc)] (CO f C L0) (AfG f C L0 (Av ps (L0.map (·.1)))):=by
 intro N
 induction N with
 | zero=>intro ps f C L0 n1 h;omega
 | succ N ih=>
 intro ps f C L0 n1 hN hb z;have ba:=El ps;generalize hS:Av ps (L0.map (·.1))=S;refine C7 Asq (by simp) λn0 av=>?_;have B:Eg f C L0 n0:=by have hl:∀p∈CO f C L0,p.1.1<n0:=λp hp=>av p.1 p.2 (FR z.nd' hp);exact⟨⟨z.nd,λp hp=>hl p (Ab5 _ hp),z.ne,z.kn⟩,hl _ (Aea),z.c_ne⟩
 clear av z;simp only[push_cast,seval];intro k1;refine Aj ps.length (Inv:=λm st=>∃dn t n T L,ps=dn++t/\m=t.length/\Av t (L.map (·.1))=S/\DA (L.map (·.1))+A7 t<=2^26/\Eg f T L n/\n0<=n/\BL n0 C L0 T L/\st=⟨[(0,.ref f 0),(9,.sl (ps.map Ad.enc)),(10,.i .i64 ps.length),(11,.i .i64 dn.length)],CO f T L,n⟩) ⟨_,Ag.refl,[],ps,_,C,L0,rfl,rfl,hS,hb,?_,?_,?_,rfl⟩ ?_
 .exact B.more (by omega)
 .omega
 .exact BL.refl _ _ _
 clear hS B;rintro m _ ⟨dn,t,n,T,L,hz,rfl,A,hw,B,av,au,rfl⟩;cases t with
 | nil=>rw[Av] at A;simp only[push_cast,seval,hz];intro k2;exact⟨_,Ag.refl,[],_,trivial,λ_ _ h=>h,rfl,T,L,rfl,B.more (by simp only;omega),A,au⟩
 | cons p t=>
  have bg:=A9 hz;have bl:=Fd (ps:=ps) (p:=p) (by rw[hz];simp);rw[A5] at hw;have bj:=p.wt_eq;rw[CR,p.coll_eq] at A;simp only[push_cast,seval,hz];intro k2 k3 k4;refine Bd (ih p.parts f T L n (by omega) (by omega) B) (λi e h=>Cj (Gr λq l D=>?_) i e h) (λn2 v σo a1 hR=>?_)
  .have:=B.lt' q l;grind
  obtain⟨rfl,o,g,rfl,k,aI,aq⟩:=hR;have R:∀q∈CO f o g,q.1≠(n+1+k2,5):=pJ B (by simp;omega) (by simp;omega) aq;have ad:=Fm p.parts (L.map (·.1));rw[<-aI] at ad A;have E:=au.trans aq (by omega);have bh:n0<=n2:=by omega
  clear au aq aI;have ai:∀X:AP,∀q∈[((n+1+k2,5),X)],∀r∈CO f T L,q.1≠r.1:=by intro X q l r hr D;simp at l;subst l;have:=B.lt' r hr;grind
  rw[show ∀a:Id×AP,a::CO f T L=[a]++CO f T L from λ_=>rfl,Fs (ai _)];clear ai B;simp only[push_cast,seval];intro k5;have al:∀X:AP,((CO f o g++[((n+1+k2,5),X)]).map (λq:Id×AP=>q.1)).Nodup:=λX=>Afh k.nd' R;refine H3 (Ag.sub (al _) (σ':=[_]++CO f o g) (λq l=>by rcases AfJ.1 l with h|h;exact Axf _ h;grind) (Ab6 _)) ?_;have bm:n+1+k2<n2:=by omega
  clear al a1;generalize n+1+k2=x0 at *;have k:=k.more (show n2<=n2+1+k5 by omega);generalize bi:n2+1+k5=n3 at *;have W:=D7 O p.kind;have aX:=KL (g.map (·.1));rw[Afb] at aX;rcases Ay8 (AI p.kind) with hs|hs;rotate_left
  .rw[hs] at A W;simp only[Ab9,reduceCtorEq] at A;simp only[push_cast,seval];repeat' (first|(first|((first|apply Ai|apply Am|apply Al)<;>intro _h)|refine Ab W ?_)<;>simp only[push_cast,seval,Ae p (dn:=dn) (by omega)]|intro _)
   exact⟨_,_,Ab4 _,Ag.drop1 (Gr R) (Ab6 _),dn++[p],t,_,o,g,by simp,rfl,A,by omega,k.more (by omega),by omega,E,rfl⟩
  .rw[hs] at A W;simp only[AbA] at A;have a0:Ak π O 73 [.ref f 0,.i .i64 p.kind,.s p.name] ((f,.box (.agg [sv o]))::slE TS o g) (.i .i64 (B9 (g.map (·.1)) p.kind p.name)) ((f,.box (.agg [sv o]))::slE TS o g):=Akx O p.kind p.name f o g (by omega) k.ne (λid h D=>by subst h;exact k.c_ne (id,.arr TS 3 (g.map Hf)) (by simp[AB]) D);have am:∀X:AP,∀i e,lk ((f,.box (.agg [sv o]))::slE TS o g) i=some e->lk (((x0,5),X)::CO f o g) i=some e:=by intro X i e h;exact Cj (Gr R) i e (AK (τ:=Bc g) h)
   have aL:∀X:AP,over ((f,.box (.agg [sv o]))::slE TS o g) ((f,.box (.agg [sv o]))::slE TS o g) (((x0,5),X)::CO f o g)=((f,.box (.agg [sv o]))::slE TS o g)++(((x0,5),X)::Bc g):=by intro X;have a3:=HK (σ:=(f,.box (.agg [sv o]))::slE TS o g) (τ:=Bc g) k.nd';exact Gw (pre:=[((x0,5),X)]) (post:=Bc g) (λq l r hr D=>by simp at l;subst l;exact R r (Axe (Bc g) hr) D.symm) (λq l r hr D=>a3.2.2 r hr q l D.symm)
   generalize ar:B9 (g.map (·.1)) p.kind p.name=FI at *;simp only[push_cast,seval];repeat' (first|(first|((first|apply Ai|apply Am|apply Al)<;>intro _h)|refine Ab W ?_)<;>simp only[push_cast,seval]|intro _)
   rename_i aw;refine AX a0 (am _) ?_;rw[aL];clear aL am;have aj:(f=(x0,5))=False:=Ab8 (R (f,.box (.agg [sv o])) (by simp[CO]));have aB:((x0,5)=f)=False:=Ab8 λD=>AiZ aj D.symm;have ai:∀q∈Bc g,q.1≠(x0,5):=λq l=>R q (Ab5 _ (Axf _ l));have aG:∀q∈Bc g,q.1≠f:=λq l=>k.c_ne q (Axf _ l);have a8:=k.c_lt;have an:∀a b c d,((n3+1+a+1+b+1+c+1+d,47)=f)=False:=λa b c d=>Ab8 λD=>by grind
   have bd:=DQ (BX p.kind p.name) (g.map (·.1));cases o with
   | none=>
    have aa:=k.ne rfl;subst aa;simp only[slE,sv,Bc,A1X,AvC,Avc];have aF:FI=-1:=by rw[<-ar];rfl
    subst aF;simp only[push_cast,seval,aj,an,Um,Arp (show 1<=AJ by decide)];intro k6 k7 k8 k9 k10;have J:F5 (([]:List OS).map (·.1)) p.kind p.name=0:=rfl;rw[J] at A;have ⟨g,aa⟩:∃g:List OS,g=[]:=⟨[],rfl⟩
    have ⟨u,hL2⟩:∃u,u=g++[((⟨p.kind,p.name,[]⟩:B4),none)]:=⟨_,rfl⟩
    have y:u.map (·.1)=Br (g.map (·.1)) p.kind p.name:=by rw[hL2,aa];rfl
    rw[<-aa] at A E k ad;have ⟨U,hni⟩:∃U,U=n3+1+aw+1+k6+1+k7+1+k8:=⟨_,rfl⟩
    have H:Eg f (some (U,47)) u (U+1):=by rw[hL2];exact k.add (by simp;omega) (by simp) _ _
    have F:BL n3 none g (some (U,47)) u:=by rw[hL2];exact BL.add (by simp;omega) _ _
    have ag:0<u.length:=by rw[hL2];simp
    rw[<-hni];refine Fq (Ag.sub (BP (BP (BP (by simp) (by simp)) (λq l=>by simp at l;grind)) (λq l=>by simp at l;rcases l with rfl|rfl;exact λD=>AiZ (an aw k6 k7 k8) (by grind);simp)) (σ':=CO f (some (U,47)) u) (λq l=>?_) (Ab6 _)) (RR O p.cases f 0 (U,47) u _ _ _ _ _ (λx hx T L n1 h1 h2=>ih x.2 f T L n1 (by have:=B7 hx;omega) h1 h2) (by rw[y];have:=HE (g.map (·.1)) p.kind p.name;omega) (H.more (by omega)) ag ?_)
    .have ap:Bc u=[]:=by rw[hL2,aa];rfl
     have aY:u.map Hf=[V.agg [.i .i64 p.kind,.s p.name,.nil]]:=by rw[hL2,aa];rfl
     simp only[CO,AB,ap,aY,sv,Ahk,AzL,or_false] at l⊢;rcases l with h|h
     .exact .inr (.inl h)
     .exact .inl h
    .intro K L3 n5 G I aJ af;rw[y] at G;have ae:=No p.cases 0 (Br (g.map (·.1)) p.kind p.name);rw[<-G] at ae A;have aN:=HE (g.map (·.1)) p.kind p.name;simp only[push_cast,seval,Ae p (dn:=dn) (by omega)];intros;exact⟨_,_,Ab4 _,Ag.refl,dn++[p],t,_,some K,L3,by simp,rfl,A,by omega,I.more (by omega),by omega,(E.trans F (by omega)).trans af (by omega),rfl⟩
   | some w=>
    have ⟨l1,l2,l3,l4⟩:=k.toSelO.arr;have aA:(f=w)=False:=Ab8 λD=>k.c_ne (w,.arr TS 3 (g.map Hf)) (by simp[AB]) D.symm;have aW:(w=f)=False:=Ab8 λD=>AiZ aA D.symm;have ao:(w=(x0,5))=False:=Ab8 (R (w,.arr TS 3 (g.map Hf)) (by simp[CO,AB]));have aC:((x0,5)=w)=False:=Ab8 λD=>AiZ ao D.symm;have aZ:=TF l2;simp only[slE,sv,AvC,Avc];by_cases ah:FI<0
    .have M:decide (FI<0)=true:=by simpa using ah
     have a2:g.length+1<=AJ:=by unfold AJ;omega
     have J:F5 (g.map (·.1)) p.kind p.name=g.length:=by unfold F5;grind
     rw[J] at A;have a4:List.map Hf g++[V.agg [V.i .i64 p.kind,.s p.name,.nil]]=List.map Hf (g++[((⟨p.kind,p.name,[]⟩:B4),none)]):=by simp[Hf,sv]
     simp only[push_cast,seval,aj,aA,ao,aC,an,Um,aZ,M,Arp a2,TS,a4];intro k6 k7 k8 k9 k10;have ⟨u,hL2⟩:∃u,u=g++[((⟨p.kind,p.name,[]⟩:B4),none)]:=⟨_,rfl⟩
     have y:u.map (·.1)=Br (g.map (·.1)) p.kind p.name:=by rw[hL2];unfold Br;grind
     have ⟨U,hni⟩:∃U,U=n3+1+aw+1+k6+1+k7+1+k8:=⟨_,rfl⟩
     have H:Eg f (some (U,47)) u (U+1):=by rw[hL2];exact k.add (by simp;omega) (by simp) _ _
     have F:BL n3 (some w) g (some (U,47)) u:=by rw[hL2];exact BL.add (by simp;omega) _ _
     have ag:g.length<u.length:=by rw[hL2];simp
     rw[<-hni,<-hL2];have ap:Bc u=Bc g:=by rw[hL2,Cx];simp[Bc,OY]
     refine Fq (Ag.sub (BP (BP (BP l4 ai) (λq l=>by
           rcases Ahk.1 l with rfl|l
           .exact AiZ aB
           .exact aG q l)) (λq l=>by
           rcases Ahk.1 l with rfl|l
           .grind
           .rcases Ahk.1 l with rfl|l
            .simp
            .intro D;have:=l3 q l;grind)) (σ':=CO f (some (U,47)) u) (λq l=>?_) (Ab6 _)) (RR O p.cases f g.length (U,47) u _ _ _ _ _ (λx hx T L n1 h1 h2=>ih x.2 f T L n1 (by have:=B7 hx;omega) h1 h2) (by rw[y];have:=HE (g.map (·.1)) p.kind p.name;omega) (H.more (by omega)) ag ?_)
     .simp only[CO,AB,ap,sv,Ahk] at l⊢;rcases l with h|h|h
      .exact .inr (.inl h)
      .exact .inl h
      grind
     .intro K L3 n5 G I aJ af;rw[y] at G;have ae:=No p.cases g.length (Br (g.map (·.1)) p.kind p.name);rw[<-G] at ae A;have aN:=HE (g.map (·.1)) p.kind p.name;simp only[push_cast,seval,Ae p (dn:=dn) (by omega)];intros;exact⟨_,_,Ab4 _,Ag.refl,dn++[p],t,_,some K,L3,by simp,rfl,A,by omega,I.more (by omega),by omega,(E.trans F (by omega)).trans af (by omega),rfl⟩
    .have ⟨j,hj⟩:∃j:Nat,FI=j:=⟨FI.toNat,by omega⟩
     subst hj;have M:decide ((j:Int)<0)=false:=by simpa using ah
     have J:F5 (g.map (·.1)) p.kind p.name=j:=by unfold F5;grind
     rw[J] at A;simp only[push_cast,seval,aj,ao,M,TS];intro k6 k7 k8;have ⟨u,hL2⟩:∃u,u=g:=⟨_,rfl⟩
     have y:u.map (·.1)=Br (g.map (·.1)) p.kind p.name:=by rw[hL2];unfold Br;rw[ar,AfL ah]
     have H:Eg f (some w) u n3:=by rw[hL2];exact k
     have F:BL n3 (some w) g (some w) u:=by rw[hL2];exact BL.refl _ _ _
     have ag:j<u.length:=by have:=QA (BX p.kind p.name) (g.map (·.1));unfold B9 at ar;grind
     have a7:((Bc u).map (·.1)).Nodup:=by rw[hL2];exact l4
     have aP:∀q∈Bc u,q.1≠(x0,5):=by rw[hL2];exact ai
     have a6:∀q∈Bc u,q.1≠w:=by rw[hL2];exact l2
     have aH:∀q∈Bc u,q.1≠f:=by rw[hL2];exact aG
     have aK:∀X Y Z:AP,(([(f,X),(w,Y),((x0,5),Z)]++Bc u).map (λq:Id×AP=>q.1)).Nodup:=λX Y Z=>
      BP (a:=(f,X)) (BP (a:=(w,Y)) (BP (a:=((x0,5),Z)) a7 aP) (λq l=>by
       rcases Ahk.1 l with rfl|l
       .exact AiZ aC
       .exact a6 q l)) (λq l=>by
       rcases Ahk.1 l with rfl|l
       .exact AiZ aW
       .rcases Ahk.1 l with rfl|l
        .exact AiZ aB
        .exact aH q l)
     rw[<-hL2];refine Fq (Ag.sub (aK _ _ _) (σ':=CO f (some w) u) (λq l=>?_) (Ab6 _)) (RR O p.cases f j w u _ _ _ _ _ (λx hx T L n1 h1 h2=>ih x.2 f T L n1 (by have:=B7 hx;omega) h1 h2) (by grind) (H.more (by omega)) ag ?_)
     .simp only[CO,AB,sv,Ahk] at l⊢;rcases l with h|h|h
      .exact .inl h
      .exact .inr (.inl h)
      .exact .inr (.inr (.inr h))
     .intro K L3 n5 G I aJ af;rw[y] at G;have ae:=No p.cases j (Br (g.map (·.1)) p.kind p.name);rw[<-G] at ae A;have aN:=HE (g.map (·.1)) p.kind p.name;simp only[push_cast,seval,Ae p (dn:=dn) (by omega)];intros;exact⟨_,_,Ab4 _,Ag.refl,dn++[p],t,_,some K,L3,by simp,rfl,A,by omega,I.more (by omega),by omega,(E.trans F (by omega)).trans af (by omega),rfl⟩
def B4.enc(s:B4):V:=.agg [.i .i64 s.kind,.s s.name,.sl (s.keys.map V.s)]
@[push_cast]theorem B4.enc_eq(s:B4):s.enc=.agg [.i .i64 s.kind,.s s.name,.sl (s.keys.map V.s)]:=rfl
def B4.ord(s:B4):B4:={ s with keys:=HG s.kind s.keys }
def Bl(ps:List Ad):List B4:=(Av ps []).map B4.ord
def cC(L:List OS)(i:Id):Option (List V):=match lk (Bc L) i with
 | some (.arr _ _ es)=>some es
 | _=>none
theorem qI{L x id}(b:((Bc L).map (·.1)).Nodup)(c:x∈L)(a:x.2=some id):cC L id=some (x.1.keys.map V.s):=by
 have:(id,AP.arr 9 1 (x.1.keys.map V.s))∈Bc L:=by refine A1b.2 ⟨x,c,?_⟩;unfold OY;rw[a];simp
 unfold cC;rw[FR b this]
theorem eE{L i es}(h:cC L i=some es):∃e sz,lk (Bc L) i=some (.arr e sz es):=by unfold cC at h;grind
theorem AeY{T i L n}(h:SelO T i L n)(e:((Bc L).map (·.1)).Nodup){x}(g:x∈L):JI (cC L) (Hf x) x.1.enc:=by
 unfold Hf;refine .agg _ _ rfl λk c f a b=>?_
 match k with
 | 0=>simp at a b;subst a b;exact .refl _
 | 1=>simp at a b;subst a b;exact .refl _
 | 2=>
  simp at a b;subst a b;cases d:x.2 with
  | none=>rw[h.kn x g d];exact .nil
  | some id=>
   refine .arr id _ _ (qI e g d) rfl (λk c f a b=>?_) (λk c f a b=>?_)
   .rw[a] at b;cases b;exact .refl _
   .rw[a] at b;cases b;have:=okS _ c (Ao6 a);grind
 | k+3=>simp at a
theorem AkZ{O nt n n' env b a L}(h:Eg b (some a) L n)(v:n<=n') :
  Ag O nt ⟨env,CO b (some a) L,n⟩ ⟨env,[(b,.box (.agg [.arr a])),(a,.arr TS 3 (L.map λx=>x.1.enc))],n'⟩:=by
 have ⟨l1,l2,l3,l4⟩:=h.toSelO.arr;have r:b≠a:=λs=>h.c_ne (a,.arr TS 3 (L.map Hf)) (by simp[AB]) s.symm;have q:∀p∈Bc L,p.1≠b:=λp hp=>h.c_ne p (by rw[AB];grind);refine Ag.weak (cC L) (λi es u=>?_) (λt=>.refl _) (λi e' d=>?_) v
 .have ⟨e,sz,d⟩:=eE u;have f:=Hv d;refine⟨⟨e,sz,FR h.nd' ?_⟩,?_⟩
  .exact Ab5 _ (by rw[AB];grind)
  .refine Gr λp hp=>?_;grind
 .have f:=Hv d;simp at f;rcases f with⟨rfl,rfl⟩|⟨rfl,rfl⟩
  .exact⟨_,by simp[CO,lk,sv],.refl _⟩
  .refine⟨.arr TS 3 (L.map Hf),FR h.nd' (by simp[CO,AB]),.arr _ _ _ _ (by simp) λk c w j l=>?_⟩;simp only[ArI,Afo] at j l;obtain⟨x,m,rfl⟩:=j;obtain⟨y,o,rfl⟩:=l;rw[m] at o;cases o;have g:=Ao6 m;exact⟨AeY h.toSelO l4 g,rfl,by unfold Hf sv;cases x.2<;>rfl,rfl⟩
theorem Nl{O nt n s env σ}(b:get env s=.nil):ME O nt [.t s] [.sl []] [] .ret ⟨env,σ,n⟩:=by
 refine⟨⟨[(s,.sl [])],[],n⟩,Ag.weak (λi=>none) (λi es' h=>by cases h) (λt=>?_) (λi e' h=>by cases h) (Ab6 _),⟨by simp[M5,get],trivial⟩,λ_ _ h=>by cases h⟩;by_cases a:s=t
 .subst a;rw[b];simp only[get,AbA];exact .nil
 .simp only[get,AfL a];exact .any _
theorem AqB(l:List B4):∀y∈l.map B4.enc,y.ok=true:=by intro y a;obtain⟨x,_,rfl⟩:=Aov.1 a;rfl
theorem U0(ps:List Ad)(T:A7 ps<=2^24):Ak π O 16 [.sl (ps.map Ad.enc)] [] (.sl ((Bl ps).map B4.enc)) []:=by
 generalize hS:Bl ps=S;refine Ac (vs:=[.sl (S.map B4.enc)]) ArW (by simp) (by simp) λn0 C=>?_;clear C;simp only[push_cast,seval];intro k1 k2 k3;have y:Eg (n0+1+k1,6) none [] (n0+1+k1+1):=⟨⟨by simp[Ji,Bc],by simp[Ji,Bc],λ_=>rfl,by simp⟩,by simp,by simp[Ji,Bc]⟩
 refine Bd (Amw O _ ps (n0+1+k1,6) none [] _ (Ab4 _) (by simp[DA];omega) y) (λ_ _ h=>h) (λW v σo J F=>?_);obtain⟨rfl,N,L,rfl,g,q,_⟩:=F;have o:=Fm ps [];rw[show([]:List OS).map (·.1)=([]:List B4) from rfl] at q;rw[<-q] at o;simp only[DA] at o;have k:=KL (L.map (·.1));rw[Afb] at k;generalize(n0+1+k1,6)=b at *;simp only[push_cast,seval];intro U;cases N with
 | none=>
  have E:=g.ne rfl;subst E;refine H3 (Ag.pre (σ:=CO b none []) (Ab6 _)) ?_;have u:S=[]:=by rw[<-hS];unfold Bl;rw[<-q];rfl
  subst u;unfold CO;simp only[Ji,Bc,A1X,sv];simp only[push_cast,seval];intros;refine Aj 0 (Inv:=λm st=>∃n,st=⟨[(3,.ref b 0),(14,.i .i64 0),(15,.i .i64 0)],[(b,.box (.agg [.nil]))],n⟩) ⟨_,Ag.refl,_,rfl⟩ ?_;rintro m _ ⟨n,rfl⟩;simp only[push_cast,seval];intros;exact Nl rfl
 | some d=>
  refine H3 ((Ag.pre (σ:=CO b (some d) L) (Ab6 _)).trans (AkZ (g.more (by omega)) (Ab6 _))) ?_;have ⟨l1,l2,l3,l4⟩:=g.toSelO.arr;have f:(b=d)=False:=Ab8 λz=>g.c_ne (d,.arr TS 3 (L.map Hf)) (by simp[AB]) z.symm;have p:(d=b)=False:=Ab8 λz=>AiZ f z.symm;have G:(L.map (·.1)).map B4.ord=S:=by rw[q,<-hS];rfl
  have A:∀s∈L.map (·.1),s.keys.length<=2^26:=λs K=>by have:=LS K;omega
  rw[show(L.map λx=>x.1.enc)=(L.map (·.1)).map B4.enc by simp];have B:(L.map (·.1)).length<=2^26:=by grind
  generalize L.map (·.1)=M at *;clear g q o k l2 l3 l4;simp only[push_cast,seval,f,TS];intros;refine Aj M.length (Inv:=λm st=>∃dn a n,M=dn++a/\m=a.length/\st=⟨[(3,.ref b 0),(14,.i .i64 M.length),(15,.i .i64 dn.length)],[(b,.box (.agg [.arr d])),(d,.arr TS 3 ((dn.map B4.ord++a).map B4.enc))],n⟩) ⟨_,Ag.refl,[],M,_,rfl,rfl,rfl⟩ ?_;rintro m _ ⟨dn,a,n,t,rfl,rfl⟩;cases a with
  | nil=>
   have c:decide ((dn.length:Int)<(M.length:Int))=false:=by rw[t];simp
   have w:dn.map B4.ord=S:=by grind
   rw[At9,w];simp only[push_cast,seval,c]
   repeat' (first|(((first|apply Ai|apply Am|apply Al)<;>intro _h)<;>simp only[push_cast,seval,_h,c,f,p])|intro _)
   exact H7 (e:=TS) (sz:=3) rfl (AqB _) (by simp[lk,Ao0 (AiZ p)])
  | cons s a=>
   have I:=A9 t;have c:decide ((dn.length:Int)<(M.length:Int))=true:=by simp;omega
   have D:=gM O s.kind s.name s.keys (A s (by rw[t];simp));have j:((dn.map B4.ord++s::a).map B4.enc)[dn.length]?=some s.enc:=by simp_all
   have r:((dn.map B4.ord++s::a).map B4.enc).set dn.length (.agg [.i .i64 s.kind,.s s.name,.sl ((HG s.kind s.keys).map V.s)])=(((dn++[s]).map B4.ord)++a).map B4.enc:=by simp[B4.ord,B4.enc]
   have l:dn.length<((dn.map B4.ord++s::a)).length:=by simp
   generalize H:(dn.map B4.ord++s::a)=R at *;simp only[push_cast,seval,c,f,j,Amm l,TS];repeat' (first|(first|((first|apply Ai|apply Am|apply Al)<;>intro _h)|refine Ab D ?_)<;>simp only[push_cast,seval,f,j,r,Amm l,Ae s (dn:=dn) (by omega)]|intro _)
   exact⟨_,_,Ab4 _,Ag.refl,dn++[s],a,_,by rw[t];simp,rfl,rfl⟩



def CS(n:Nat):List B4->Nat
 | []=>n
 | s::l=>if 400<n*s.keys.length then n*s.keys.length else CS (n*s.keys.length) l
theorem xS L (u:L.length<=2^40)(q:∀s∈L,s.keys.length<=2^40):Ak π O 17 [.sl (L.map B4.enc)] [] (.i .i64 (CS 1 L)) []:=by
 generalize hS:CS 1 L=S;refine Ac (vs:=[.i .i64 S]) Art (by simp) (by simp) λn0 j=>?_;clear j;simp only[push_cast,rq];intros;refine Aj L.length (Inv:=λm st=>∃dn a n x k,L=dn++a/\m=a.length/\CS k a=S/\k<=400/\x=(k:Int)/\st=⟨[(3,.i .i64 x),(6,.sl (L.map B4.enc)),(7,.i .i64 L.length),(8,.i .i64 dn.length)],[],n⟩) ⟨_,Ag.refl,[],L,_,_,1,rfl,rfl,hS,by omega,rfl,rfl⟩ ?_;clear hS;rintro m _ ⟨dn,a,n,x,k,e,rfl,c,f,p,rfl⟩;cases a with
 | nil=>
  rw[CS] at c;subst c p;simp only[push_cast,rq,e]
  repeat' (first|((apply AL<;>intro _h)<;>(simp only[push_cast,rq,_h];try (have _g:=_h;simp at _g)))|intro _)
  all_goals (first|(refine Af ?_;simp[get]<;>(intros;omega);done)|(exact Gj;done)|skip)
 | cons s a=>
  have t:=A9 e;have g:=q s (by rw[e];simp);have v:k*s.keys.length<=400*2^40:=A1N f g;have d:(x*(s.keys.length:Int))=((k*s.keys.length:Nat):Int):=by rw[p];simp
  rw[CS] at c;generalize r:k*s.keys.length=M at *;have o:IntKind.i64.wrap (M:Int)=M:=by simp(disch:=omega) only [wrap64]
  by_cases l:400<M
  .have b:decide ((M:Int)>400)=true:=by simp;omega
   rw[Amm l] at c;simp only[push_cast,rq,e,d,o,b];intros;subst c;exact Kn
  .have b:decide ((M:Int)>400)=false:=by simp;omega
   rw[AfL l] at c;simp only[push_cast,rq,e,Ae s (dn:=dn) (by omega),d,o,b];intros;exact⟨_,_,Ab4 _,Ag.drop (λ_ _ h=>by cases h) (Ab6 _),dn++[s],a,_,_,M,by simp,rfl,c,by omega,rfl,rfl⟩
def CX(l:Jp)(kind:Int):List A8:=if kind==8 then l.ord else l.card
theorem YJ l kind (b:(Jp.enc l).ok=true):Ak π O 57 [l.enc,.i .i64 kind] [] (.sl ((CX l kind).map A8.enc)) []:=by
 generalize hS:CX l kind=S;unfold CX at hS;rw[Jp.enc_eq];refine Ac (vs:=[.sl (S.map A8.enc)]) Asv (by simp) (by simp) λn0 a=>?_;clear a;simp only[push_cast,rq]
 repeat' (first|((apply AL<;>intro _h)<;>simp only[push_cast])|intro _)
 all_goals subst hS
 all_goals (refine Af ?_;simp[get, *])
def Mo:Nat:=96
def oE(a:Option Id)(xs:List Ad):Aq:=match a with
 | none=>[]
 | some id=>[(id,.arr Mo 6 (xs.map Ad.enc))]
def D8(o:List Ad)(x:Ad):List Ad:=match o.getLast? with
 | none=>[x]
 | some y=>if x.kind==1&&y.kind==1 then o.dropLast++[{ y with text:=y.text++x.text }] else o++[x]
theorem KD x:D8 [] x=[x]:=rfl
theorem EG d y x:D8 (d++[y]) x=if x.kind==1&&y.kind==1 then d++[{ y with text:=y.text++x.text }] else d++[y]++[x]:=by simp[D8]
theorem MP{O nt n s env σ id x}(b:get env s=.arr id)(a:lk σ id=some x):Ahv O nt s x [] .ret ⟨env,σ,n⟩:=
 ⟨_,Ag.refl,id,b,a,rfl,λ_ _ h=>by cases h⟩
theorem AfM p o x (A:p=none->o=[])(m:o.length<=2^30)(B:∀y∈o,y.text.length<=2^30)(E:x.text.length<=2^30) :
  Kk π O 46 [sv p,x.enc] (oE p o) (.arr Mo 6 ((D8 o x).map Ad.enc)) []:=by
 refine Sk (s:=4) AsI (by simp) (by simp[lk]) λn0 c=>?_;cases p with
 | none=>
  have m:=A rfl;subst m;clear c;have b:sv none=.nil:=rfl;have a:oE none []=[]:=rfl;simp only[push_cast,seval,b,a,Arp (show 1<=AJ by decide),Mo]
  repeat' (first|((apply AL<;>intro _h)<;>simp only[push_cast,seval,_h,b,a,show decide ((0:Int)>0)=false from rfl,Arp (show 1<=AJ by decide),Mo])|intro _)
  exact MP rfl (by simp[lk,D8,Ad.enc_eq])
 | some id=>
  have r:id.1<n0:=c id (.arr Mo 6 (o.map Ad.enc)) (by simp[oE,lk]);have e:∀j,((n0,j)=id)=False:=λj=>Gt r;have q:∀j,(id=(n0,j))=False:=λj=>Ab8 λz=>AiZ (e j) z.symm;clear c;have b:sv (some id)=.arr id:=rfl;have a:oE (some id) o=[(id,.arr Mo 6 (o.map Ad.enc))]:=rfl;obtain rfl|⟨d,y,rfl⟩:o=[]\/∃d y,o=d++[y]:=by rcases Ay5 o with h|⟨d,y,h⟩;exact .inl h;grind
  .skip;simp only[push_cast,seval,b,a,Arp (show 1<=AJ by decide),Mo,e]
   repeat' (first|((apply AL<;>intro _h)<;>simp only[push_cast,seval,_h,b,a,show decide ((0:Int)>0)=false from rfl,Arp (show 1<=AJ by decide),Mo,e,q,show(([]:List Ad).length:Int)=0 from rfl,Ava,AtX,show((0:Nat):Int)=0 from rfl])|intro _)
   exact MP rfl (by simp[lk,D8,Ad.enc_eq])
  .have g:(((d++[y]).length:Int)>0):=by simp<;>omega
   have v:IntKind.i64.wrap ((((d++[y]).length:Nat):Int)-1)=(d.length:Int):=by simp only[Ajd,An9,AtX];rw[wrap64 (by simp at m;omega) (by simp at m;omega)];omega
   have f:d.length<(d++[y]).length:=by simp
   have C:=B y (by simp);generalize w:D8 (d++[y]) x=D;rw[EG] at w;have l:∀t,((d++[y]).map Ad.enc).set d.length (.agg [.i .i64 y.kind,.s t,.s y.name,.s y.style,.sl (y.cases.map AD.enc),.sl (y.parts.map Ad.enc)])=(d++[({ y with text:=t }:Ad)]).map Ad.enc:=by intro t;simp[Ad.enc_eq]
   have u:(d++[y]).length+1<=AJ:=by unfold AJ;omega
   have k:List.map Ad.enc (d++[y])++[x.enc]=(d++[y]++[x]).map Ad.enc:=by simp
   rw[Ad.enc_eq] at k;simp only[push_cast,seval,b,a,Mo,e,Arp g]
   repeat' (first|((apply AL<;>intro _h)<;>simp only[push_cast,seval,_h,e,v,Amm f,Arp u,k])|(refine As (by simp only[AG]<;>omega) ?_;simp only[push_cast,seval,e,Amm f,l])|intro _)
   all_goals subst w
   all_goals exact MP rfl (by simp[lk, *])
def P2(a b:List Ad):List Ad:=match a.getLast?,b with
 | some y,z::t=>if y.kind==1&&z.kind==1 then a.dropLast++[{ y with text:=y.text++z.text }]++t else a++b
 | _,_=>a++b
theorem AlE(l:List Ad):∀y∈l.map Ad.enc,y.ok=true:=by intro y a;obtain⟨x,_,rfl⟩:=Aov.1 a;rw[Ad.enc_eq];rfl
end Go.Ir
section
namespace Go.Ir
def Cz{a:Type}(cs:List (Aa×a))(k:Aa):Option a:=(cs.find? λc=>c.1==k).map (·.2)
def Ea{b:Type}(a:Aa->Aa)(kind:Int)(cs:List (Aa×b))(key:Aa):Option b:=
 (Cz cs key).or ((if Cv key&&kind !=9 then Cz cs (a key.tail) else none).or (Cz cs AH))
theorem LX{a β}(f:a->β) cs k:Cz (cs.map λc=>(c.1,f c.2)) k=(Cz cs k).map f:=by
 unfold Cz
 induction cs with
 | nil=>rfl
 | cons c cs b=>grind
theorem yU{c β:Type}(f:c->β)(a b:Option c):(a.or b).map f=(a.map f).or (b.map f):=by cases a<;>rfl
theorem Qh{b β}(f:b->β) a kind cs k:Ea a kind (cs.map λc=>(c.1,f c.2)) k=(Ea a kind cs k).map f:=by unfold Ea;rw[LX,LX,LX,yU,yU];split<;>rfl
theorem LN{b cs k}{a:b}(h:Cz cs k=some a):(k,a)∈cs:=by unfold Cz at h;simp only[Afo] at h;grind
theorem dH{a}{cs:List (Aa×a)}{k}(h:∀c∈cs,c.1≠k):Cz cs k=none:=by unfold Cz;grind
theorem XB{c:Type}{a b}{x:c}(h:a.or b=some x):a=some x\/b=some x:=by
 cases a with
 | none=>right;exact h
 | some y=>left;exact h
theorem Q5{c b kind cs key}{a:c}(h:Ea b kind cs key=some a):∃k,(k,a)∈cs:=by
 unfold Ea at h;rcases XB h with h|h
 .exact⟨_,LN h⟩
 .rcases XB h with h|h
  .split at h
   .exact⟨_,LN h⟩
   .cases h
  .exact⟨_,LN h⟩
abbrev Py:=Int->Aa->List (Aa×List Ad)->List Ad
mutual
def Ad.res(c:Py)(a:Aa):Ad->List Ad->List Ad
 | ⟨k,t,b,st,cs,ps⟩,out=>
  if AI k then(c k b (Gc c (if k==9 then a else b) cs)).foldl D8 out
  else if k==10 then out++[⟨3,[],a,[],[],[]⟩]
  else if k==11 then out++[⟨k,t,b,st,cs,BM c a ps []⟩]
  else D8 out ⟨k,t,b,st,cs,ps⟩
def BM(b:Py)(a:Aa):List Ad->List Ad->List Ad
 | [],out=>out
 | p::ps,out=>BM b a ps (p.res b a out)
def Gc(b:Py)(a:Aa):List (Aa×List Ad)->List (Aa×List Ad)
 | []=>[]
 | (k,ps)::cs=>(k,BM b a ps [])::Gc b a cs
end
theorem Ad.res_eq b a p out:p.res b a out =
  if AI p.kind then(b p.kind p.name (Gc b (if p.kind==9 then a else p.name) p.cases)).foldl D8 out
  else if p.kind==10 then out++[⟨3,[],a,[],[],[]⟩]
  else if p.kind==11 then out++[⟨p.kind,p.text,p.name,p.style,p.cases,BM b a p.parts []⟩]
  else D8 out p:=by cases p;simp only[Ad.res]
theorem ES b a p ps out:BM b a (p::ps) out=BM b a ps (p.res b a out):=by simp only[BM]
theorem Hn b a cs:Gc b a cs=cs.map λc=>(c.1,BM b a c.2 []):=by
 induction cs with
 | nil=>simp only[Gc,Ava]
 | cons c cs d=>have ⟨k,ps⟩:=c;simp only[Gc,Ao7,d]
mutual
def Ad.rres(c:Py)(a:Aa):Ad->List Ad->List Ad
 | ⟨k,t,b,st,cs,ps⟩,out=>
  if k==10 then out++[⟨3,[],a,[],[],[]⟩]
  else if k==11 then out++[⟨k,[],b,[],[],GZ c a ps []⟩]
  else if AI k then P2 out (c k b (HR c (if k==9 then a else b) cs))
  else P2 out [⟨k,t,b,st,cs,ps⟩]
def GZ(b:Py)(a:Aa):List Ad->List Ad->List Ad
 | [],out=>out
 | p::ps,out=>GZ b a ps (p.rres b a out)
def HR(b:Py)(a:Aa):List (Aa×List Ad)->List (Aa×List Ad)
 | []=>[]
 | (k,ps)::cs=>(k,GZ b a ps [])::HR b a cs
end
theorem Ad.rres_eq b a p out:p.rres b a out =
  if p.kind==10 then out++[⟨3,[],a,[],[],[]⟩]
  else if p.kind==11 then out++[⟨p.kind,[],p.name,[],[],GZ b a p.parts []⟩]
  else if AI p.kind then P2 out (b p.kind p.name (HR b (if p.kind==9 then a else p.name) p.cases))
  else P2 out [p]:=by cases p;simp only[Ad.rres]
theorem UA b a p ps out:GZ b a (p::ps) out=GZ b a ps (p.rres b a out):=by simp only[GZ]
theorem Vt b a cs:HR b a cs=cs.map λc=>(c.1,GZ b a c.2 []):=by
 induction cs with
 | nil=>simp only[HR,Ava]
 | cons c cs d=>have ⟨k,ps⟩:=c;simp only[HR,Ao7,d]
def tw(ps:List Ad):Nat:=(ps.map λp=>1+p.text.length).sum
theorem D6:tw []=0:=rfl
theorem CZ p ps:tw (p::ps)=1+p.text.length+tw ps:=by simp[tw]
theorem GU a b:tw (a++b)=tw a+tw b:=by simp[tw]
theorem VF a:a.length<=tw a:=by
 induction a with
 | nil=>simp
 | cons p a b=>rw[CZ];simp;omega
theorem Yl{a p}(h:p∈a):p.text.length<=tw a:=by
 induction a with
 | nil=>cases h
 | cons q a b=>rw[CZ];grind
theorem Sy o x:tw (D8 o x)<=tw o+(1+x.text.length):=by
 rcases Ay5 o with rfl|⟨d,y,rfl⟩
 .simp[D8,tw]
 .rw[Azh,EG];split
  .simp only[GU,CZ,D6,Ajd];omega
  .simp only[GU,CZ,D6];omega
theorem Sb l:∀o,tw (l.foldl D8 o)<=tw o+tw l:=by
 induction l with
 | nil=>intro o;simp 
 | cons x l a=>intro o;rw[AyT,CZ];have b:=a (D8 o x);have c:=Sy o x;omega
theorem Yh a b:tw (P2 a b)<=tw a+tw b:=by
 unfold P2;rcases Ay5 a with rfl|⟨d,y,rfl⟩
 .simp 
 .rw[Azh];cases b with
  | nil=>simp 
  | cons z t=>
   simp only[List.getLast?_append,List.getLast?_singleton,Option.some_or,List.dropLast_concat];split
   .simp only[GU,CZ,D6,Ajd];omega
   .simp only[GU,CZ,D6];omega
def SF(b:Py):Prop:=∀k a cs,b k a cs=[]\/∃key,(key,b k a cs)∈cs
theorem AfY b (e:SF b):∀(N) (ps),A7 ps<N->∀a out,tw (BM b a ps out)<=tw out+A7 ps/\tw (GZ b a ps out)<=tw out+A7 ps:=by
 intro N
 induction N with
 | zero=>intro ps h;omega
 | succ N j=>
  intro ps
  induction ps with
  | nil=>intro _ a out;simp[BM,GZ]
  | cons p ps g=>
   intro h a out;rw[A5] at h;rw[ES,UA,A5];have l:=(g (by omega) a (p.res b a out)).1;have m:=(g (by omega) a (p.rres b a out)).2;have t:=p.wt_eq;have s:∀a key q,(key,q)∈Gc b a p.cases->tw q<=De p.cases:=by intro a key q f;rw[Hn] at f;have ⟨c,hc,he⟩:=Aov.1 f;cases he;have:=B7 hc;have:=(j c.2 (by omega) a []).1;rw[D6] at this;omega
   have k:∀a key q,(key,q)∈HR b a p.cases->tw q<=De p.cases:=by intro a key q f;rw[Vt] at f;have ⟨c,hc,he⟩:=Aov.1 f;cases he;have:=B7 hc;have:=(j c.2 (by omega) a []).2;rw[D6] at this;omega
   have o:tw (p.res b a out)<=tw out+p.wt:=by
    rw[p.res_eq];split
    .have i:=Sb (b p.kind p.name (Gc b (if p.kind==9 then a else p.name) p.cases)) out;rcases e p.kind p.name (Gc b (if p.kind==9 then a else p.name) p.cases) with d|⟨key,d⟩
     .grind
     grind
    .split
     .rw[GU,CZ,D6];grind
     .split
      .rw[GU,CZ,D6];grind
      .have:=Sy out p;omega
   have r:tw (p.rres b a out)<=tw out+p.wt:=by
    rw[p.rres_eq];split
    .rw[GU,CZ,D6];grind
    .split
     .rw[GU,CZ,D6];grind
     .split
      .have i:=Yh out (b p.kind p.name (HR b (if p.kind==9 then a else p.name) p.cases));rcases e p.kind p.name (HR b (if p.kind==9 then a else p.name) p.cases) with d|⟨key,d⟩
       .rw[d,D6] at i;rw[d];omega
       grind
      .have i:=Yh out [p];rw[CZ,D6] at i;omega
   grind
end Go.Ir
end
namespace Go.Ir
open Go.Proofs
variable(O:World)
def ixC{a:Type}(cs:List (Aa×a))(k:Aa):Int:=AV (λc=>c.1==k) cs
theorem OF{b}(cs:List (Aa×b)) k:(ixC cs k<0/\Cz cs k=none)\/∃j c,ixC cs k=(j:Nat)/\cs[j]?=some c/\Cz cs k=some c.2:=by
 unfold ixC Cz
 induction cs with
 | nil=>left;simp[AV]
 | cons c cs a=>
  simp only[AV,List.find?_cons];cases e:c.1==k with
  | true=>right;exact⟨0,c,by simp,rfl,rfl⟩
  | false=>
   simp only[A0d];rcases a with⟨h1,h2⟩|⟨j,d,h1,h2,h3⟩
   .grind
   .right;rw[h1];exact⟨j+1,d,by grind,by simpa using h2,h3⟩
theorem Ald c (k:Aa) kid σ (f:lk σ kid=some (.box (.s k))):Ak π O 83 [AD.enc c,.ref kid 0] σ (.b (c.1==k)) σ:=by have ⟨a,ps⟩:=c;refine Ac (vs:=[.b (a==k)]) Ar6 (by simp) (λ_ h=>h) λn0 d=>?_;have g:∀j,((n0,j)=kid)=False:=λj=>Gt (d _ _ f);simp only[push_cast,rq,g,f];intros;exact Aw (by simp[get]) (λi e h=>DJ (d i e h) h)
theorem AtA(x:Ad)(k:Aa) a σ (g:lk σ a=some (.box x.v))(m:x.cases.length<=2^40):Ak π O 81 [.s k,.ref a 0] σ (.i .i64 (ixC x.cases k)) σ:=by
 generalize hS:ixC x.cases k=S;unfold ixC at hS;refine Ac (vs:=[.i .i64 S]) ArF (by simp) (λ_ h=>h) λn0 d=>?_;have l:∀j,((n0,j)=a)=False:=λj=>Gt (d _ _ g);have b:=Cn (P:=π) (O:=O) (f:=82) (e:=101) (sz:=2) (ag:=true) (by kernel_rfl) AD.enc x.cases (λc=>c.1==k) 83 [] [.ref (n0,2) 0] [((n0,2),.box (.s k))] (λc _=>Fh rfl) (λc _=>Ald O c k _ _ (by simp[lk])) (by omega);rw[hS] at b;unfold Ad.v at g;simp only[push_cast,rq,l,g];intro _;refine Ej b (λi e h=>?_) ?_
 .simp only[lk] at h⊢;grind
 simp only[push_cast];intro _;exact Aw (by simp[get]) (λi e h=>DJ (d i e h) h)
theorem Asb(s:Aa):Lib.hasPrefix s [61]=Cv s/\(Cv s=true->Lib.trimPrefix s [61]=s.tail):=by
 cases s with
 | nil=>exact⟨by decide,by decide⟩
 | cons c t=>
  have h:Cv (c::t)=(c==61):=by unfold Cv;rw[Aym];simp only[AjK,<-A1y];grind
  have a:Lib.hasPrefix (c::t) [61]=(61==c):=by simp[Lib.hasPrefix,List.isPrefixOf]
  have b:(61==c)=(c==61):=by grind
  rw[h,<-b];refine⟨a,λd=>?_⟩;unfold Lib.trimPrefix;rw[a,d];rfl
def K5(l:Jp)(kind:Int)(n:Aa):Aa:=(Cs (CX l kind) n).1
theorem oJ(l:Jp)(x:Ad)(key:Aa)(M:(Jp.enc l).ok=true)(y:l.rest.length=11)(T:Ax l.card+Ax l.ord<=2^24)(K:key.length<=2^30)(E:x.cases.length<=2^40)(L:Cz x.cases AH≠none) :
  Ak π O 45 [l.enc,x.enc,.s key] [] (.sl (((Ea (K5 l x.kind) x.kind x.cases key).getD []).map Ad.enc)) []:=by
 have d:=Eb O key [61];have ⟨hc1,hc2⟩:=Asb key;rw[hc1] at d;generalize hS:(Ea (K5 l x.kind) x.kind x.cases key).getD []=S;unfold Ea at hS;have m:=λk p σ z=>AtA O x k p σ z E;unfold Ad.v at m;rw[Jp.enc_eq];refine Ac (vs:=[.sl (S.map Ad.enc)]) Aqg (by simp) (by simp) λn0 G=>?_;clear G;simp only[push_cast,rq];intro k1 k2;refine AX (m key (n0,4) _ (by simp[lk])) (λ_ _ h=>h) ?_;rw[B5];have g:∀(j:Nat) (c:AD),x.cases[j]?=some c->(x.cases.map AD.enc)[j]?=some (.agg [.s c.1,.sl (c.2.map Ad.enc)]):=by intro j c h;rw[ArI,h];have ⟨a,b⟩:=c;rw[Azw,AD.enc_eq]
 have J:∀(j:Nat) (c:AD),x.cases[j]?=some c->j<x.cases.length:=λj c h=>(Ao5.1 h).1;have w:∃(j:Nat) (c:AD),ixC x.cases AH=(j:Nat)/\x.cases[j]?=some c/\Cz x.cases AH=some c.2:=by
  rcases OF x.cases AH with⟨_,h⟩|h
  .exact absurd h L
  .exact h
 have ⟨jo,co,hjo,hjo2,hfo⟩:=w;rw[hfo] at hS;rcases OF x.cases key with⟨hi,hf⟩|⟨j,c,hi,hj,hf⟩
 .have i:decide (ixC x.cases key<0)=true:=by simpa using hi
  rw[hf] at hS;generalize hI:ixC x.cases key=I at *;have f:=λp σ z=>m AH p σ z;rw[hjo] at f;unfold AH at f;generalize hB:(Cv key&&x.kind !=9)=B at hS;cases B with
  | false=>
   have e:S=co.2:=by rw[<-hS];rfl
   have D:Cv key=false\/Cv key=true/\(x.kind !=9)=false:=by grind
   clear hS;rcases D with u|⟨u,C⟩
   .rw[u] at d;simp only[push_cast,rq,e];repeat' (first|(first|((first|apply Ai|apply Am|apply Al)<;>intro _h)|refine Ab d ?_)<;>simp only[push_cast,rq,i]|intro _)
    refine AX (f (n0,4) _ (by simp[lk])) (λ_ _ h=>h) ?_;rw[B5];simp only[push_cast,rq,g jo co hjo2];intros;exact Af (by simp[get])
   .rw[u] at d;simp only[push_cast,rq,e];repeat' (first|(first|((first|apply Ai|apply Am|apply Al)<;>intro _h)|refine Ab d ?_)<;>simp only[push_cast,rq,i,C]|intro _)
    refine AX (f (n0,4) _ (by simp[lk])) (λ_ _ h=>h) ?_;rw[B5];simp only[push_cast,rq,g jo co hjo2];intros;exact Af (by simp[get])
  | true=>
   simp only[AaS] at hB;have ⟨u,C⟩:=hB;rw[u,hc2 u] at d;have t:=YJ O l x.kind M;have H:Ax (CX l x.kind)<=2^30:=by unfold CX;split<;>omega
   have r:=MV O (CX l x.kind) key.tail (by simp;omega) H;have F:K5 l x.kind key.tail=(Cs (CX l x.kind) key.tail).1:=rfl;rw[F] at hS;generalize(Cs (CX l x.kind) key.tail).1=A at *;generalize(Cs (CX l x.kind) key.tail).2=R at *;rw[Jp.enc_eq] at t;have N:List.take 11 l.rest=l.rest:=by grind
   rcases OF x.cases A with⟨hi2,hf2⟩|⟨j,c,hi2,hj,hf2⟩
   .have o:decide (ixC x.cases A<0)=true:=by simpa using hi2
    rw[hf2] at hS;have e:S=co.2:=by rw[<-hS];rfl
    simp only[push_cast,rq,e];repeat' (first|(first|((first|apply Ai|apply Am|apply Al)<;>intro _h)|refine Ab d ?_|refine Ab t ?_|refine Ab r ?_)<;>simp only[push_cast,rq,i,C,Amm y]|intro _)
    refine AX (m A (n0,4) _ (by simp[lk])) (λ_ _ h=>h) ?_;rw[B5];simp only[push_cast,rq,o];intros;refine AX (f (n0,4) _ (by simp[lk])) (λ_ _ h=>h) ?_;rw[B5];simp only[push_cast,rq,g jo co hjo2];intros;exact Af (by simp[get])
   .rw[hf2] at hS;have e:S=c.2:=by rw[<-hS];rfl
    have o:decide ((j:Int)<0)=false:=by simp
    have q:=λp σ z=>m A p σ z;rw[hi2] at q;clear hjo2 hfo hjo;simp only[push_cast,rq,e];repeat' (first|(first|((first|apply Ai|apply Am|apply Al)<;>intro _h)|refine Ab d ?_|refine Ab t ?_|refine Ab r ?_)<;>simp only[push_cast,rq,i,C,Amm y]|intro _)
    refine AX (q (n0,4) _ (by simp[lk])) (λ_ _ h=>h) ?_;rw[B5];simp only[push_cast,rq,g j c hj,o];intros;exact Af (by simp[get])
 .rw[hi];rw[hf] at hS;clear hjo2 hfo hjo;have i:decide ((j:Int)<0)=false:=by simp
  have e:S=c.2:=by rw[<-hS];rfl
  simp only[push_cast,rq,e];repeat' (first|(first|((first|apply Ai|apply Am|apply Al)<;>intro _h)|refine Ab d ?_)<;>simp only[push_cast,rq,i,g j c hj]|intro _)
  exact Af (by simp[get])
end Go.Ir
section
namespace Go.Ir
open Go.Proofs
variable(O:World)
mutual
def Ad.all(f:Ad->Prop):Ad->Prop
 | ⟨k,t,a,st,cs,ps⟩=>f ⟨k,t,a,st,cs,ps⟩/\B8 f cs/\A4 f ps
def A4(f:Ad->Prop):List Ad->Prop
 | []=>True
 | p::ps=>p.all f/\A4 f ps
def B8(f:Ad->Prop):List (Aa×List Ad)->Prop
 | []=>True
 | (k,ps)::cs=>A4 f ps/\B8 f cs
end
theorem Ad.all_eq f p:p.all f↔f p/\B8 f p.cases/\A4 f p.parts:=by cases p;simp only[Ad.all]
theorem AA f p ps:A4 f (p::ps)↔p.all f/\A4 f ps:=by simp only[A4]
theorem Bt f (c:AD)(cs:List AD):B8 f (c::cs)↔A4 f c.2/\B8 f cs:=by have ⟨a,b⟩:=c;simp only[B8]
theorem Qd{f}{cs:List AD}(h:B8 f cs){c}(a:c∈cs):A4 f c.2:=by
 induction cs with
 | nil=>cases a
 | cons d cs b=>rw[Bt] at h;grind
def Nq(L:List B4)(keys:List Aa)(k:Int)(a:Aa):Aa:=keys[(B9 L k a).toNat]?.getD []
def Kz(l:Jp)(L:List B4)(keys:List Aa):Py:=λk a cs=>(Ea (K5 l k) k cs (Nq L keys k a)).getD []
theorem LH l L keys:SF (Kz l L keys):=by
 intro k b cs;unfold Kz;cases h:Ea (K5 l k) k cs (Nq L keys k b) with
 | none=>left;rfl
 | some a=>right;have ⟨key,hk⟩:=Q5 h;exact⟨key,hk⟩
def ZV(L:List B4)(p:Ad):Prop:=AI p.kind=true->¬B9 L p.kind p.name<0/\Cz p.cases AH≠none
theorem QC{r:List V}(h:r.length=11):∃a b c d e f g i j k l,r=[a,b,c,d,e,f,g,i,j,k,l]:=by
 match r,h with
 | [a,b,c,d,e,f,g,i,j,k,l],_=>grind
theorem Aoo s (x:Ad) a σ (d:lk σ a=some (.box x.v)):Ak π O 44 [s.enc,.ref a 0] σ (.b (BX x.kind x.name s)) σ:=by
 generalize hS:BX x.kind x.name s=S;unfold BX at hS;refine Ac (vs:=[.b S]) Asp (by simp) (λ_ h=>h) λn0 c=>?_;have f:∀j,((n0,j)=a)=False:=λj=>Gt (c _ _ d);unfold Ad.v at d;simp only[push_cast,rq,f,d]
 repeat' (first|((apply AL<;>intro _h)<;>simp only[push_cast,rq,_h,f,d])|intro _)
 all_goals subst hS
 all_goals (refine Aw (by simp[get, *]) (λi e h=>DJ (c i e h) h))
theorem fO{O nt n s env σ σ' id}{e sz:Nat}{es}(p:get env s=.arr id)(o:∀y∈es,y.ok=true)(l:lk σ id=some (.arr e sz es))(b:∀i e',lk σ' i=some e'->lk σ i=some e'/\i≠id):ME O nt [.t s] [.sl es] σ' .ret ⟨env,σ,n⟩:=by
 refine⟨⟨[(s,.sl es)],σ',n⟩,Ag.weak (λi=>if i=id then some es else none) (λi es' h=>?_) (λt=>?_) (λi e' h=>⟨e',(b i e' h).1,.refl _⟩) (Ab6 _),⟨by simp[M5,get],trivial⟩,λ_ _ h=>h⟩
 .split at h
  .rename_i j;subst j;cases h;refine⟨⟨e,sz,l⟩,?_⟩;cases m:lk σ' i with
   | none=>rfl
   | some e'=>grind
  .cases h
 .by_cases f:s=t
  .subst f;rw[p];simp only[get,AbA];refine .arr id es es (by simp) rfl (λk c g d a=>?_) (λk c g d a=>?_)
   .rw[d] at a;cases a;exact .refl _
   grind
  .simp only[get,AfL f];exact .any _
def rV(l:Jp)(L:List B4)(keys:List Aa):V:=.agg (.s l.tag :: .s l.parent :: .s l.dir :: .sl (l.card.map A8.enc) :: .sl (l.ord.map A8.enc)::(l.rest++[.sl (L.map B4.enc),.sl (keys.map V.s)]))
theorem Aaq{id a c A X Y C}(b:(id=a)=False)(d:(id=c)=False):over [(id,X)] [] [(a,A),(id,Y),(c,C)]=[(a,A),(c,C)]:=by simp[over,lk,b,d]
theorem Amx{O nt n n' env σ τ id o v y}(t:∀φ,JI φ v y.enc)(m:(cells y.enc).length=(cells v).length)(l:v.ok=true)
  (g:lk σ id=some (.arr Mo 6 (o.map Ad.enc++[v])))(f:∀i e,lk τ i=some e->(i=id/\e=.arr Mo 6 ((o++[y]).map Ad.enc))\/lk σ i=some e)(r:n<=n'):Ag O nt ⟨env,σ,n⟩ ⟨env,τ,n'⟩:=by
 refine Ag.weak (λ_=>none) (λ_ _ h=>by cases h) (λ_=>.refl _) (λi e j=>?_) r;rcases f i e j with⟨rfl,rfl⟩|h
 .refine⟨_,g,.arr _ _ _ _ (by simp) λk c u b a=>?_⟩;rw[A0D] at a;by_cases d:k<(o.map Ad.enc).length
  .rw[AxD d] at b a;rw[b] at a;cases a;have p:=Ao6 b;have:=AlE _ _ p;exact⟨.refl _,rfl,this,this⟩
  .rw[Au5 (by omega)] at b a;cases s:k-(o.map Ad.enc).length with
   | zero=>rw[s] at b a;simp at b a;subst b a;exact⟨t _,m,l,AlE [y] _ (by simp)⟩
   | succ q=>simp_all
 .exact⟨e,h,.refl _⟩
theorem bG(d:Aa) φ:JI φ (.agg [.i .i64 3,.s [],.s d,.s [],.nil,.nil]) (Ad.enc ⟨3,[],d,[],[],[]⟩):=by
 rw[Ad.enc_eq];refine .agg _ _ rfl λk c e a b=>?_
 match k with
 | 0=>simp at a b;subst a b;exact .refl _
 | 1=>simp at a b;subst a b;exact .refl _
 | 2=>simp at a b;subst a b;exact .refl _
 | 3=>simp at a b;subst a b;exact .refl _
 | 4=>simp at a b;subst a b;exact .nil
 | 5=>simp at a b;subst a b;exact .nil
 | k+6=>simp at a
theorem Qa(rid:Id)(R:V)(a0 a2 r s t:V)(c:List Ad)(n0:Nat)(G:rid.1<n0)(f:Id)(o0:List Ad)(H:Nat)(l:n0<=f.1)(q:f.1<H)(x:tw o0+tw c<=2^26)(Q:Exit->St->Prop)
  (B:∀id n,n0<=id.1->id.1<n->Q (.exit 3) ⟨[(0,a0),(2,a2),(7,.arr id),(14,r),(15,s),(16,t),(54,.sl (c.map Ad.enc)),(55,.i .i64 c.length),(56,.i .i64 c.length),(57,.b false)],[(id,.arr Mo 6 ((c.foldl D8 o0).map Ad.enc)),(rid,.box R)],n⟩) :
  F8 π O 89 Wr Q ⟨[(0,a0),(2,a2),(7,.arr f),(14,r),(15,s),(16,t),(54,.sl (c.map Ad.enc)),(55,.i .i64 c.length),(56,.i .i64 0)],[(f,.arr Mo 6 (o0.map Ad.enc)),(rid,.box R)],H⟩:=by
 generalize hS:c.foldl D8 o0=S at B;have M:=VF c;have J:c.length<=2^26:=by omega
 refine Aj c.length (Inv:=λm st=>∃dn a n id o,c=dn++a/\m=a.length/\a.foldl D8 o=S/\tw o+tw a<=2^26/\n0<=id.1/\id.1<n/\st=⟨[(0,a0),(2,a2),(7,.arr id),(14,r),(15,s),(16,t),(54,.sl (c.map Ad.enc)),(55,.i .i64 c.length),(56,.i .i64 dn.length)],[(id,.arr Mo 6 (o.map Ad.enc)),(rid,.box R)],n⟩) ⟨_,Ag.refl,[],c,_,_,o0,rfl,rfl,hS,x,l,q,rfl⟩ ?_;clear hS x l q;rintro m _ ⟨dn,a,n,id,o,F,rfl,w,x,C,L,rfl⟩;have u:(id=rid)=False:=Ab8 λd=>by rw[d] at C;omega
 have I:(rid=id)=False:=Ab8 λd=>AiZ u d.symm;cases a with
 | nil=>rw[A1d] at w;subst w;rw[F] at B⊢;simp only[At9] at B⊢;simp only[push_cast,rq];grind
 | cons p a=>
  have K:=A9 F;rw[AyT] at w;rw[CZ] at x;have E:o.length<=2^30:=by have:=VF o;omega
  have D:∀y∈o,y.text.length<=2^30:=λy N=>by have:=Yl N;omega
  have g:=AfM O (some id) o p (λh=>by cases h) E D (by omega);rw[Ad.enc_eq] at g;have v:∀k j,(id=(n+1+k,j))=False:=λk j=>Ab8 λd=>by grind
  have A:∀k j,((n+1+k,j)=id)=False:=λk j=>Ab8 λd=>AiZ (v k j) d.symm;have z:∀k j,(rid=(n+1+k,j))=False:=λk j=>Ab8 λd=>by grind
  simp only[push_cast,rq,F];intros;refine Jn g (λi e h=>?_) ?_
  .simp only[oE,lk] at h;split at h
   .rename_i d;subst d;simp only[lk,A,Ab9,AbA];exact h
   .cases h
  rw[show oE (some id) o=[(id,.arr Mo 6 (o.map Ad.enc))] from rfl,Aaq (v _ _) u];simp only[push_cast,rq,Ae p (dn:=dn) (by omega)];intros;exact⟨_,_,Ab4 _,Ag.dropM (by simp[lk,z]) (Ab6 _),dn++[p],a,_,_,D8 o p,by simp,rfl,w,by have:=Sy o p;omega,by(try simp);omega,by(try simp);omega,rfl⟩
theorem dP(l:Jp)(L:List B4)(keys:List Aa)(rid:Id)(hr:(Jp.enc l).ok=true)(au:l.rest.length=11)(hb:Ax l.card+Ax l.ord<=2^24)(aV:L.length<=2^26)(a3:keys.length=L.length)(aI:∀k∈keys,k.length<=2^30) :
  ∀(N:Nat) (ps:List Ad) (c:Aa),A7 ps<N->A7 ps<=2^24->A4 (ZV L) ps->
  Ak π O 19 [.ref rid 0,.sl (ps.map Ad.enc),.s c] [(rid,.box (rV l L keys))] (.sl ((BM (Kz l L keys) c ps []).map Ad.enc)) [(rid,.box (rV l L keys))]:=by
 intro N
 induction N with
 | zero=>intro ps c h;omega
 | succ N ih=>
 intro ps c hN a8 ha;have aS:=El ps;have ar:=LH l L keys;generalize hP:Kz l L keys=Z at *;generalize hS:BM Z c ps []=S;refine Ac (vs:=[.sl (S.map Ad.enc)]) ApO (by simp) (λ_ h=>h) λn0 ap=>?_;have ad:rid.1<n0:=ap rid (.box (rV l L keys)) (by simp[lk]);clear ap;have fr:∀a j,n0<=a->((a,j)=rid)=False:=λa j h=>Gt (by omega);have az:∀a j,n0<=a->(rid=(a,j))=False:=λa j h=>Ab8 λF=>AiZ (fr a j h) F.symm;simp only[push_cast,seval,rq];intros;refine Aj ps.length (Inv:=λm st=>∃dn A n id o,ps=dn++A/\m=A.length/\BM Z c A o=S/\tw o+A7 A<=2^25/\A4 (ZV L) A/\n0<=id.1/\id.1<n/\st=⟨[(0,.ref rid 0),(2,.s c),(7,.arr id),(14,.sl (ps.map Ad.enc)),(15,.i .i64 ps.length),(16,.i .i64 dn.length)],[(id,.arr Mo 6 (o.map Ad.enc)),(rid,.box (rV l L keys))],n⟩) ⟨_,(Ag.own (s:=7) (e:=Mo) (sz:=6) (k:=99) rfl).trans (Ag.envD (λt=>?_) (Ab6 _)),[],ps,_,_,[],rfl,rfl,hS,by rw[D6];omega,ha,?_,?_,rfl⟩ ?_
 .left;by_cases h3:7=t
  .subst h3;rfl
  .simp[get,h3]
 .simp;omega
 .simp
 clear hS ha;rintro m _ ⟨dn,A,n,id,o,H,rfl,D,hw,ha,af,a2,rfl⟩;have g:(id=rid)=False:=Ab8 λF=>by rw[F] at af;omega
 have w:(rid=id)=False:=Ab8 λF=>AiZ g F.symm;cases A with
 | nil=>rw[BM] at D;subst D;simp only[push_cast,seval,rq,H];intros;exact fO (e:=Mo) (sz:=6) rfl (AlE _) (by simp[lk,w]) (λi e h=>by simp only[lk] at h⊢;grind
)
 | cons p A=>
  have a0:=A9 H;have a9:=Fd (ps:=ps) (p:=p) (by rw[H];simp);rw[A5] at hw;have a5:=p.wt_eq;rw[AA,p.all_eq] at ha;obtain⟨⟨aD,aE,aF⟩,T⟩:=ha;rw[ES,p.res_eq] at D;have G:=D7 O p.kind;have r:∀k j,(id=(n+1+k,j))=False:=λk j=>Ab8 λF=>by grind
  have x:∀k j,((n+1+k,j)=id)=False:=λk j=>Ab8 λF=>AiZ (r k j) F.symm;have d:∀k j,(rid=(n+1+k,j))=False:=λk j=>az _ _ (by omega);have u:∀k j,((n+1+k,j)=rid)=False:=λk j=>fr _ _ (by omega);have aL:o.length<=2^30:=by have:=VF o;omega
  have aK:∀y∈o,y.text.length<=2^30:=λy hy=>by have:=Yl hy;omega
  have ac:=AfM O (some id) o p (λh=>by cases h) aL aK (by omega);rw[Ad.enc_eq] at ac;have av:∀X:Id×AP,X.1≠id->∀i e,lk (oE (some id) o) i=some e->lk [X,(id,.arr Mo 6 (o.map Ad.enc)),(rid,.box (rV l L keys))] i=some e:=by
   intro X hX i e h;simp only[oE,lk] at h;split at h
   .rename_i F;subst F;obtain⟨a,b⟩:=X;simp only[lk,AfL hX,AbA];exact h
   .cases h
  cases hs:AI p.kind with
  | false=>
   rw[hs] at D G;have U:o.length+1<=AJ:=by unfold AJ;omega
   cases I:p.kind==10 with
   | true=>
    rw[I] at D;simp only[bq,AbA,Ab9,rn,reduceCtorEq] at D;simp only[push_cast,seval,rq,H,Ae p (dn:=dn) (by omega),r,x,d,u,g,w,I,Arp U,Afb,Mo];repeat' (first|(first|((first|apply Ai|apply Am|apply Al)<;>intro _h)|refine Ab G ?_)<;>simp only[push_cast,seval,rq,_h,H,Ae p (dn:=dn) (by omega),r,x,d,u,g,w,I,Arp U,Afb,Mo]|intro _)
    rename_i k1 k2 k3 k4 k5 k6;exact⟨_,_,Ab4 _,Amx (id:=(n+1+k1+1+k2+1+k3+1+k4,72)) (o:=o) (bG c) (by rw[Ad.enc_eq];rfl) rfl (by simp[lk,Mo]) (λi e h=>by
     simp only[lk] at h⊢;split at h
     .rename_i F;subst F;left;cases h;exact⟨rfl,rfl⟩
     .rename_i F;rw[AfL F];right;rw[AfL (λh2=>by rw[<-h2] at h;simp[d,d] at h)];exact h) (Ab6 _),dn++[p],A,_,_,o++[⟨3,[],c,[],[],[]⟩],by simp,rfl,D,by rw[GU,CZ,D6];simp only[AtX];omega,T,by simp;omega,by simp;omega,rfl⟩
   | false=>
    rw[I] at D;cases J:p.kind==11 with
    | true=>
     rw[J] at D;simp only[bq,AbA,Ab9,rn,reduceCtorEq] at D;have W:=ih p.parts c (by omega) (by omega) aF;generalize aX:BM Z c p.parts []=RP at *;have ah:List.map Ad.enc o++[V.agg [.i .i64 p.kind,.s p.text,.s p.name,.s p.style,.sl (p.cases.map AD.enc),.sl (RP.map Ad.enc)]]=List.map Ad.enc (o++[⟨p.kind,p.text,p.name,p.style,p.cases,RP⟩]):=by rw[A0D,Ao7,Ad.enc_eq ⟨p.kind,p.text,p.name,p.style,p.cases,RP⟩];rfl
     simp only[push_cast,seval,rq,H,Ae p (dn:=dn) (by omega),r,x,d,u,g,w,I,J,Arp U,Afb,Mo,ah];repeat' (first|(first|((first|apply Ai|apply Am|apply Al)<;>intro _h)|refine Ab G ?_)<;>simp only[push_cast,seval,rq,_h,H,Ae p (dn:=dn) (by omega),r,x,d,u,g,w,I,J,Arp U,Afb,Mo,ah]|intro _)
     refine Ej W (λi e h=>?_) ?_
     .simp only[lk] at h;split at h
      .rename_i F;subst F;simp only[lk,u,g,Ab9,AbA];exact h
      .cases h
     simp only[push_cast,seval,rq,H,Ae p (dn:=dn) (by omega),r,x,d,u,g,w,I,J,Arp U,Afb,Mo,ah];intros;exact⟨_,_,Ab4 _,Ag.dropM (by simp[lk,d]) (Ab6 _),dn++[p],A,_,_,o++[⟨p.kind,p.text,p.name,p.style,p.cases,RP⟩],by simp,rfl,D,by rw[GU,CZ,D6];simp only;omega,T,by simp;omega,by simp;omega,rfl⟩
    | false=>
     rw[J] at D;simp only[bq,AbA,Ab9,rn,reduceCtorEq] at D;simp only[push_cast,seval,rq,H,Ae p (dn:=dn) (by omega),r,x,d,u,g,w,I,J];repeat' (first|(first|((first|apply Ai|apply Am|apply Al)<;>intro _h)|refine Ab G ?_)<;>simp only[push_cast,seval,rq,_h,H,Ae p (dn:=dn) (by omega),r,x,d,u,g,w,I,J]|intro _)
     rename_i k1 k2 k3 k4 k5;refine Jn ac (av _ (AiZ (x _ _))) ?_;rw[show oE (some id) o=[(id,.arr Mo 6 (o.map Ad.enc))] from rfl,Aaq (r _ _) g];simp only[push_cast,seval,rq,H,Ae p (dn:=dn) (by omega),r,x,d,u,g,w,I,J];intros;exact⟨_,_,Ab4 _,Ag.dropM (by simp[lk,d]) (Ab6 _),dn++[p],A,_,_,D8 o p,by simp,rfl,D,by have:=Sy o p;omega,T,by simp;omega,by simp;omega,rfl⟩
  | true=>
   rw[hs] at D G;simp only[bq,AbA,Ab9,rn,reduceCtorEq] at D;obtain⟨a1,aq⟩:=aD hs;have an:=QA (BX p.kind p.name) L;obtain⟨j,hj⟩:∃j:Nat,B9 L p.kind p.name=j:=⟨(B9 L p.kind p.name).toNat,by omega⟩
   have B:j<keys.length:=by rw[show AV (BX p.kind p.name) L=B9 L p.kind p.name from rfl,hj] at an;omega
   have aJ:keys[j]?=some keys[j]:=Am7 B;have aH:Nq L keys p.kind p.name=keys[j]:=by unfold Nq;rw[hj,A1i,aJ];rfl
   have ao:keys[j].length<=2^30:=aI _ (A18 B);have a4:=Er p.cases;have K:=oJ O l p keys[j] hr au hb ao (by omega) aq;have aM:∀cs,Z p.kind p.name cs=(Ea (K5 l p.kind) p.kind cs keys[j]).getD []:=λcs=>by rw[<-hP];unfold Kz;rw[aH]
   rw[aM,Hn,Qh (λq=>BM Z (if p.kind==9 then c else p.name) q [])] at D;obtain⟨R,aA,aB⟩:∃R,Ea (K5 l p.kind) p.kind p.cases keys[j]=some R/\∃k,(k,R)∈p.cases:=by
    cases h:Ea (K5 l p.kind) p.kind p.cases keys[j] with
    | none=>
     exfalso;unfold Ea at h;cases h1:Cz p.cases AH with
     | none=>exact aq h1
     | some y=>
      rw[h1] at h;cases h2:Cz p.cases keys[j] with
      | some z=>rw[h2] at h;cases h
      | none=>
       rw[h2] at h;split at h
       .cases h3:Cz p.cases (K5 l p.kind keys[j].tail) with
        | none=>rw[h3] at h;cases h
        | some z=>rw[h3] at h;cases h
       .cases h
    | some R=>exact⟨R,rfl,Q5 h⟩
   obtain⟨ck,al⟩:=aB;rw[aA] at K D;simp only[Option.getD_some,Azw] at K D;have M:=B7 al;have ae:=Qd aE al;have W:=λcnt=>ih R cnt (by simp only at M;omega) (by simp only at M;omega) ae;have ab:=fun(aw:Id)=>Cn (P:=π) (O:=O) (f:=43) (e:=TS) (sz:=3) (ag:=true) (by kernel_rfl) B4.enc L (BX p.kind p.name) 44 [] [.ref aw 0] [(aw,.box p.v)] (λs _=>Fh rfl) (λs _=>Aoo O s p _ _ (by simp[lk])) (by omega);rw[show AV (BX p.kind p.name) L=B9 L p.kind p.name from rfl,hj] at ab;unfold Ad.v at ab;rw[Jp.enc_eq,Ad.enc_eq] at K;obtain⟨r1,r2,r3,r4,r5,r6,r7,r8,r9,aQ,aR,Y⟩:=QC au;have aC:rV l L keys=.agg [.s l.tag,.s l.parent,.s l.dir,.sl (l.card.map A8.enc),.sl (l.ord.map A8.enc),r1,r2,r3,r4,r5,r6,r7,r8,r9,aQ,aR,.sl (L.map B4.enc),.sl (keys.map V.s)]:=by unfold rV;rw[Y];rfl
   rw[Y] at K;simp only[aC] at W⊢;have E:(keys.map V.s)[j]?=some (.s keys[j]):=by simp
   cases h9:p.kind==9 with
   | true=>
    have C:(p.kind !=9)=false:=by simp[bne,h9]
    rw[h9] at D;simp only[bq,AbA,Ab9,rn,reduceCtorEq] at D;simp only[push_cast,seval,rq,H,Ae p (dn:=dn) (by omega),r,x,d,u,g,w,C,E,Amm B,Afb];repeat' (first|(first|((first|apply Ai|apply Am|apply Al)<;>intro _h)|refine Ab G ?_)<;>simp only[push_cast,seval,rq,_h,H,Ae p (dn:=dn) (by omega),r,x,d,u,g,w,C,E,Amm B,Afb]|intro _)
    refine Ej (ab _) (λi e h=>?_) ?_
    .simp only[lk] at h⊢;split at h
     .rename_i F;rw[Amm F];exact h
     .cases h
    simp only[push_cast,seval,rq,H,Ae p (dn:=dn) (by omega),r,x,d,u,g,w,C,E,Amm B,Afb];intros;refine Ab K ?_;simp only[push_cast,seval,rq,H,Ae p (dn:=dn) (by omega),r,x,d,u,g,w,C,E,Amm B,Afb];refine Ej (W c) (λi e h=>?_) ?_
    .simp only[lk] at h;split at h
     .rename_i F;subst F;simp only[lk,u,g,Ab9,AbA];exact h
     .cases h
    have ai:=(AfY Z ar _ R (Ab4 _) c []).1;rw[D6] at ai;have aO:=Sb (BM Z c R []) o;simp only[push_cast,seval,rq,H,Ae p (dn:=dn) (by omega),r,x,d,u,g,w,C,E,Amm B,Afb];intros;generalize BM Z c R []=RP at *;refine Fq (Ag.drop (λi e h=>Cj (by simp[lk,d,r]) i e h) (Ab6 _)) (Qa O rid _ _ _ _ _ _ RP n0 ad id o _ af (by omega) (by simp only at M;omega) _ λaP n2 h1 h2=>?_);simp only[push_cast,seval,rq,H,Ae p (dn:=dn) (by omega),r,x,d,u,g,w,C,E,Amm B,Afb];intros;exact⟨_,_,Ab4 _,Ag.refl,dn++[p],A,_,_,RP.foldl D8 o,by simp,rfl,D,by simp only at M;omega,T,by(try simp);omega,by(try simp);omega,rfl⟩
   | false=>
    have C:(p.kind !=9)=true:=by simp[bne,h9]
    rw[h9] at D;simp only[bq,AbA,Ab9,rn,reduceCtorEq] at D;simp only[push_cast,seval,rq,H,Ae p (dn:=dn) (by omega),r,x,d,u,g,w,C,E,Amm B,Afb];repeat' (first|(first|((first|apply Ai|apply Am|apply Al)<;>intro _h)|refine Ab G ?_)<;>simp only[push_cast,seval,rq,_h,H,Ae p (dn:=dn) (by omega),r,x,d,u,g,w,C,E,Amm B,Afb]|intro _)
    refine Ej (ab _) (λi e h=>?_) ?_
    .simp only[lk] at h⊢;split at h
     .rename_i F;rw[Amm F];exact h
     .cases h
    simp only[push_cast,seval,rq,H,Ae p (dn:=dn) (by omega),r,x,d,u,g,w,C,E,Amm B,Afb];intros;refine Ab K ?_;simp only[push_cast,seval,rq,H,Ae p (dn:=dn) (by omega),r,x,d,u,g,w,C,E,Amm B,Afb];refine Ej (W p.name) (λi e h=>?_) ?_
    .simp only[lk] at h;split at h
     .rename_i F;subst F;simp only[lk,u,g,Ab9,AbA];exact h
     .cases h
    have ai:=(AfY Z ar _ R (Ab4 _) p.name []).1;rw[D6] at ai;have aO:=Sb (BM Z p.name R []) o;simp only[push_cast,seval,rq,H,Ae p (dn:=dn) (by omega),r,x,d,u,g,w,C,E,Amm B,Afb];intros;generalize BM Z p.name R []=RP at *;refine Fq (Ag.drop (λi e h=>Cj (by simp[lk,d,r]) i e h) (Ab6 _)) (Qa O rid _ _ _ _ _ _ RP n0 ad id o _ af (by omega) (by simp only at M;omega) _ λaP n2 h1 h2=>?_);simp only[push_cast,seval,rq,H,Ae p (dn:=dn) (by omega),r,x,d,u,g,w,C,E,Amm B,Afb];intros;exact⟨_,_,Ab4 _,Ag.refl,dn++[p],A,_,_,RP.foldl D8 o,by simp,rfl,D,by simp only at M;omega,T,by(try simp);omega,by(try simp);omega,rfl⟩
end Go.Ir
end
namespace Go.Ir
open Go.Proofs
variable{P:Program}{O:World}{nt n:Nat}{Q:Exit→St→Prop}{env:BB}{σ:Aq}
def mR:IC:=oS [fA 51 4 2,l1 52 51,m1 53 5,o1 54 (.slL (.t 52) none (some (.t 53)) 1),m1 55 6,q2 56 53 54 55] [1,3,4,9,10,11,44,45,46,56] (cD 56 (oR [mC 2 (.b false)] [2]) .skip)
def AaO:IC:=sQ (.block 3 (oS [m1 48 46,iA 49 44 46 9 1,l1 50 49,m1 5 48,m1 6 50] [1,3,4,5,6,9,10,11,44,45,46] mR)) (oP [bZ 57 .add 46 1,m1 46 57] [1,3,4,9,10,11,44,45,46])
def tV:IC:=oS [fA 58 1 0,l1 59 58,m1 60 3,o1 61 (.slL (.t 59) none (some (.t 60)) 3),o1 62 (.mkfn 55 [] [.t 4]),o1 63 (.callr 54 [.t 61,.t 62])] [1,9,10,11,63] (cD 63 (oR [mC 2 (.b false)] [2]) .skip)
def yA:IC:=sQ (oS [fA 43 4 2,l1 44 43,nL 45 44,mZ 46 0] [1,3,4,9,10,11,44,45,46] (.block 2 (.loop (oS [bT 47 .lss 46 45] [1,3,4,9,10,11,44,45,46,47] (sQ (cD 47 .skip (.exit 2)) AaO))))) tV
def vM:IC:=sQ (oS [fA 16 4 0,l1 17 16,q1 18 42 17,nT 19 18,m1 20 19,E5 21 20 4 1,Eh 22 20 21,gF 23 20 (.call 47 [.t 22]),gF 24 20 (.not (.t 23)),pO 25 20 24,m1 26 25,E5 27 26 4 2,Eh 28 26 27,gF 29 26 (.lenL (.t 28)),Fg 30 26 .eql 29 0,pO 31 26 30,m1 32 31,E5 33 32 4 2,Eh 34 32 33,E5 35 32 4 2,Eh 36 32 35,gF 37 32 (.lenL (.t 36)),Fg 38 32 .sub 37 1,gF 39 32 (.iaddr (.t 34) (.t 38) 9 1),Eh 40 32 39,gF 41 32 (.bin .neq (.t 40) (.c (.s [111,116,104,101,114]))),pO 42 32 41] [1,3,4,9,10,11,42] (cD 42 (oR [mC 2 (.b false)] [2]) .skip)) yA
def pR:IC:=sQ (.block 1 (oS [m1 13 11,iA 14 9 11 70 3,lA 15 14 3,o1 4 (.alloc (.agg [.i .i64 0,.s [],.nil])),m1 3 13,sT 4 15 3] [1,3,4,9,10,11] vM)) (oP [bZ 64 .add 11 1,m1 11 64] [1,9,10,11])
def tZ:IC:=oR [m1 68 7,bZ 69 .leq 68 400,m1 70 69,Fa 71 70 1 1,E3 72 70 71,gT 73 70 (.lenL (.t 72)),BY 74 70 7,gT 75 70 (.bin .eql (.t 73) (.t 74)),pA 76 70 75,m1 2 76] [2]
def Aik:IC:=sQ (oS [fA 8 1 0,l1 9 8,nL 10 9,mZ 11 0] [1,9,10,11] (.block 0 (.loop (oS [bT 12 .lss 11 10] [1,9,10,11,12] (sQ (cD 12 .skip (.exit 0)) pR))))) (oS [fA 65 1 0,l1 66 65,q1 67 17 66,m1 7 67] [1,7] tZ)
def Age:IC:=oS [bX 1 0,mC 2 (.b false)] [1] Aik
def Axz:List R:=[.t 2]
def Azr:=An mR.eq_1<|An AaO.eq_1<|An tV.eq_1<|An yA.eq_1<|An vM.eq_1<|An pR.eq_1<|An tZ.eq_1<|An Aik.eq_1<|AR Age.eq_1
theorem ArJ:Ao π 24 77 Age Axz=true:=by kernel_rfl
def AgQ:IC:=oR [fA 4 2 0,l1 5 4,fA 6 1 0,l1 7 6,bT 8 .eql 5 7,m1 9 8,Fa 10 9 2 1,E3 11 9 10,Fa 12 9 1 1,E3 13 9 12,gT 14 9 (.bin .eql (.t 11) (.t 13)),pA 15 9 14,m1 3 15] [3]
def AgC:IC:=oS [bX 2 0,mC 3 (.b false)] [1,2] AgQ
def AwX:List R:=[.t 3]
def Az2:=An AgQ.eq_1<|AR AgC.eq_1
theorem Apr:Ao π 55 16 AgC AwX=true:=by kernel_rfl
attribute[push_cast]Axz Azr AwX Az2
end Go.Ir

namespace Go.Ir
open Go.Proofs
variable(O:World)
end Go.Ir

namespace Go.Ir
open Go.Proofs
variable{P:Program}{O:World}{nt n:Nat}{Q:Exit→St→Prop}{env:BB}{σ:Aq}
def AgL:IC:=oS [bX 2 0,mC 3 (.b false)] [1,2] (oR [fA 4 2 0,l1 5 4,l1 6 1,bT 7 .eql 5 6,m1 3 7] [3])
def AwC:List R:=[.t 3]
def AzP:=AR AgL.eq_1
theorem Asy:Ao π 50 8 AgL AwC=true:=by kernel_rfl
def p6:IC:=oS [m1 14 0,m1 15 6,iA 16 14 15 55 5,lA 17 16 5,o1 7 (.alloc (.agg [.s [],.i .i64 0,.s [],.i .i64 0,.nil])),sT 7 17 5] [4,7] (oS [fA 18 7 4,l1 19 18,q1 20 51 19,fA 21 7 4,sT 21 20 1] [4,7] (oR [lA 22 7 5,sT 4 22 5,mC 5 (.b true)] [4,5]))
def Ahc:IC:=sQ (oS [m1 11 6,bZ 12 .lss 11 0] [0,4,6,12] (cD 12 (oR [o1 13 (.build [.s [],.i .i64 0,.s [],.i .i64 0,.nil] []),sT 4 13 5,mC 5 (.b false)] [4,5]) .skip)) p6
def AfI:IC:=oS [bX 3 1,o1 4 (.alloc (.agg [.s [],.i .i64 0,.s [],.i .i64 0,.nil])),mC 5 (.b false)] [0,3,4] (oS [m1 8 0,o1 9 (.mkfn 50 [] [.t 3]),o1 10 (.calls 49 [.t 8,.t 9]),m1 6 10] [0,4,6] Ahc)
def Aw1:List R:=[.c 4 5 true,.t 5]
def A08:=An p6.eq_1<|An Ahc.eq_1<|AR AfI.eq_1
theorem ApQ:Ao π 21 23 AfI Aw1=true:=by kernel_rfl
def y7:IC:=oR [fA 18 1 2,l1 19 18,q1 20 52 19,m1 21 20,Fa 22 21 1 3,E3 23 21 22,Gi 24 21 .eql 23 0,pA 25 21 24,m1 26 25,Fa 27 26 1 4,E3 28 26 27,gT 29 26 (.lenL (.t 28)),Gi 30 26 .eql 29 0,pA 31 26 30,m1 2 31] [2]
def qB:IC:=oR [fA 34 1 2,l1 35 34,bC 36 .eql 35 (.s []),m1 37 36,Fa 38 37 1 4,E3 39 37 38,gT 40 37 (.lenL (.t 39)),Gi 41 37 .eql 40 0,pA 42 37 41,m1 2 42] [2]
def Aao:IC:=oS [bZ 44 .eql 4 4,m1 43 44] [1,43] (cD 43 (oR [fA 45 1 2,l1 46 45,bC 47 .eql 46 (.s []),m1 48 47,Fa 49 48 1 3,E3 50 48 49,Gi 51 48 .eql 50 0,pA 52 48 51,m1 2 52] [2]) .skip)
def Af1:IC:=.block 0 (oS [bZ 6 .eql 4 1,m1 5 6] [1,4,5] (cD 5 (oR [fA 7 1 3,l1 8 7,bZ 9 .eql 8 0,m1 10 9,Fa 11 10 1 4,E3 12 10 11,gT 13 10 (.lenL (.t 12)),Gi 14 10 .eql 13 0,pA 15 10 14,m1 2 15] [2]) (oS [bZ 17 .eql 4 2,m1 16 17] [1,4,16] (cD 16 y7 (oS [bZ 33 .eql 4 3,m1 32 33] [1,4,32] (cD 32 qB Aao))))))
def Ai3:IC:=oS [bX 1 0,mC 2 (.b false)] [1] (sQ (oS [fA 3 1 1,l1 4 3] [1,4] Af1) (oR [mC 2 (.b false)] [2]))
def Awv:List R:=[.t 2]
def A0l:=An y7.eq_1<|An qB.eq_1<|An Aao.eq_1<|An Af1.eq_1<|AR Ai3.eq_1
theorem ArZ:Ao π 22 53 Ai3 Awv=true:=by kernel_rfl
def Ag9:IC:=sQ (.ops [lA 20 3 16,fA 21 4 0,l1 22 21,q2 23 57 20 22,fA 24 5 2,l1 25 24,q2 26 56 23 25,m1 19 26,xT 27 19 0,xT 28 19 1,m1 8 27,m1 9 28] [4,5,8] [[1,2],[0,3],[2,3],[4,5],[3,6],[5,6],[6,7],[7,8],[7,9],[8,10],[9,11]]) (oP [fA 29 5 2,l1 30 29,o1 31 (.bin .add (.c (.s [61])) (.t 30)),m1 32 8,o1 33 (.msl false 9 1 [.t 31,.t 32]),m1 7 33] [4,7])
def AaW:IC:=oS [fA 40 4 2,l1 41 40,m1 42 11,q2 43 58 41 42,m1 12 43] [4,12,34,35,36] (oS [m1 44 12,bZ 45 .geq 44 0] [4,12,34,35,36,45] (cD 45 (oR [m1 46 12,m1 6 46] [6]) .skip))
def V2:IC:=oS [bT 37 .lss 36 35] [4,34,35,36,37] (sQ (cD 37 .skip (.exit 0)) (sQ (.block 1 (oS [iA 38 34 36 9 1,l1 39 38,m1 11 39] [4,11,34,35,36] AaW)) (oP [bZ 47 .add 36 1,m1 36 47] [4,34,35,36])))
def AgD:IC:=sQ (oS [fA 16 4 0,l1 17 16,bZ 18 .neq 17 9] [3,4,5,7,18] (cD 18 Ag9 .skip)) (sQ (oS [m1 34 7,nL 35 34,mZ 36 0] [4,34,35,36] (.block 0 (.loop V2))) (oR [fA 48 4 2,l1 49 48,nL 50 49,bZ 51 .sub 50 1,m1 6 51] [6]))
def Ag7:IC:=oS [bX 3 0,bX 4 1,bX 5 2,mZ 6 0] [3,4,5] (oS [fA 13 5 2,l1 14 13,o1 15 (.msl false 9 1 [.t 14]),m1 7 15] [3,4,5,7] AgD)
def Awt:List R:=[.t 6]
def A0N:=An Ag9.eq_1<|An AaW.eq_1<|An V2.eq_1<|An AgD.eq_1<|AR Ag7.eq_1
theorem AsG:Ao π 25 52 Ag7 Awt=true:=by kernel_rfl
def AiH:IC:=oS [lA 48 11 5,q1 49 22 48,nT 50 49,m1 51 50,E5 52 51 11 1,Eh 53 51 52,BU 54 51 13,gF 55 51 (.bin .neq (.t 53) (.t 54)),pO 56 51 55,m1 47 56] [2,3,8,10,11,28,29,30,47] (cD 47 (oR [mZ 6 0,mZ 7 11] [6,7]) .skip)
def Ah2:IC:=.ops [m1 57 8,fA 58 10 2,l1 59 58,nL 60 59,bT 61 .mul 57 60,lA 62 3 16,lA 63 10 3,lA 64 11 5,q3 65 25 62 63 64,bT 66 .add 61 65,m1 8 66] [2,3,8,28,29,30] [[1,2],[2,3],[0,4],[3,4],[5,8],[6,8],[7,8],[4,9],[8,9],[0,10],[9,10]]
def Ag5:IC:=sQ (oS [fA 41 10 0,l1 42 41,bZ 43 .eql 42 9] [2,3,8,10,11,12,13,28,29,30,43] (cD 43 (oP [mZ 13 1] [2,3,8,10,11,12,13,28,29,30]) .skip)) (sQ (.block 2 (oS [m1 45 12,nT 46 45,m1 44 46] [2,3,8,10,11,13,28,29,30,44] (cD 44 (oR [mZ 6 0,mZ 7 12] [6,7]) AiH))) Ah2)
def Ai4:IC:=oS [m1 35 2,fA 36 10 1,l1 37 36,q2 38 21 35 37,m1 34 38,xT 39 34 0,xT 40 34 1,o1 11 (.alloc (.agg [.s [],.i .i64 0,.s [],.i .i64 0,.nil])),sT 11 39 5,m1 12 40] [2,3,8,10,11,12,28,29,30] (oS [mZ 13 2] [2,3,8,10,11,12,13,28,29,30] Ag5)
def Agn:IC:=sQ (.block 1 (oS [iA 32 28 30 70 3,lA 33 32 3,o1 10 (.alloc (.agg [.i .i64 0,.s [],.nil])),sT 10 33 3] [2,3,8,10,28,29,30] Ai4)) (oP [bZ 67 .add 30 1,m1 30 67] [2,3,8,28,29,30])
def AhJ:IC:=sQ (oS [fA 27 4 0,l1 28 27,nL 29 28,mZ 30 0] [2,3,8,28,29,30] (.block 0 (.loop (oS [bT 31 .lss 30 29] [2,3,8,28,29,30,31] (sQ (cD 31 .skip (.exit 0)) Agn))))) (oR [m1 68 8,m1 6 68,mZ 7 0] [6,7])
def At5:IC:=sQ (oS [fA 17 3 3,l1 18 17,q1 19 18 18,nT 20 19,m1 21 20,E5 22 21 3 4,Eh 23 21 22,gF 24 21 (.call 18 [.t 23]),gF 25 21 (.not (.t 24)),pO 26 21 25] [2,3,4,26] (cD 26 (oR [mZ 6 0,mZ 7 18] [6,7]) .skip)) (oS [mZ 8 0] [2,3,4,8] AhJ)
def Aub:IC:=oS [bX 3 0,bX 4 1,mZ 6 0,mZ 7 0] [2,3,4] (sQ (oS [lA 14 4 2,q1 15 24 14,nT 16 15] [2,3,4,16] (cD 16 (oR [mZ 6 0,mZ 7 1] [6,7]) .skip)) At5)
def f9R:List R:=[.t 6,.t 7]
def f9e:=An AiH.eq_1<|An Ah2.eq_1<|An Ag5.eq_1<|An Ai4.eq_1<|An Agn.eq_1<|An AhJ.eq_1<|An At5.eq_1<|AR Aub.eq_1
theorem Axw:Ao π 9 69 Aub f9R=true:=by kernel_rfl
def Ab1:IC:=sQ (.block 3 (oP [m1 28 4,m1 29 0,m1 30 3,iA 31 29 30 55 5,fA 32 31 4,l1 33 32,m1 34 5,iA 35 33 34 9 1,l1 36 35,nS 37 36,o1 38 (.mx false (.t 28) [.t 37]),m1 4 38] [0,3,4,5])) (oP [m1 26 5,bZ 27 .add 26 1,m1 5 27] [0,3,4,5])
def Abr:IC:=oS [m1 39 4,bZ 40 .gtr 39 200,m1 41 40,BU 42 41 0,BU 43 41 3,gF 44 41 (.iaddr (.t 42) (.t 43) 55 5),E5 45 41 44 4,Eh 46 41 45,gF 47 41 (.lenL (.t 46)),Fg 48 41 .gtr 47 12,pO 49 41 48,m1 50 49,BU 51 50 0,BU 52 50 3,gF 53 50 (.iaddr (.t 51) (.t 52) 55 5),E5 54 50 53 0,Eh 55 50 54,gF 56 50 (.lenS (.t 55)),Fg 57 50 .gtr 56 60,pO 58 50 57] [0,3,58] (cD 58 (oR [mC 2 (.b false)] [2]) .skip)
def iO:IC:=sQ (.block 1 (oS [m1 12 0,m1 13 3,iA 14 12 13 55 5,fA 15 14 2,l1 16 15,nS 17 16,m1 4 17] [0,3,4] (sQ (oS [mZ 5 0] [0,3,4,5] (.block 2 (.loop (sQ (oS [m1 18 5,m1 19 0,m1 20 3,iA 21 19 20 55 5,fA 22 21 4,l1 23 22,nL 24 23,bT 25 .lss 18 24] [0,3,4,5,25] (cD 25 .skip (.exit 2))) Ab1)))) Abr))) (oP [m1 10 3,bZ 11 .add 10 1,m1 3 11] [0,3])
def Ahd:IC:=oS [mC 2 (.b false)] [0] (sQ (oS [mZ 3 0] [0,3] (.block 0 (.loop (sQ (oS [m1 6 3,m1 7 0,nL 8 7,bT 9 .lss 6 8] [0,3,9] (cD 9 .skip (.exit 0))) iO)))) (oR [m1 59 0,nL 60 59,bZ 61 .leq 60 30,m1 2 61] [2]))
def AwF:List R:=[.t 2]
def Azy:=An Ab1.eq_1<|An Abr.eq_1<|An iO.eq_1<|AR Ahd.eq_1
theorem Aq2:Ao π 31 62 Ahd AwF=true:=by kernel_rfl
def Ah1:IC:=sQ (oS [m1 3 0,o1 4 (.pu (.isnil false) [.t 3])] [0,4] (cD 4 (oR [mC 2 .nil] [2]) .skip)) (oR [o1 5 (.msl true 9 1 []),m1 6 0,o1 7 (.app (.t 5) (.t 6) 9 1),m1 2 7] [2])
def Af4:IC:=oS [mC 2 .nil] [0] Ah1
def Ax4:List R:=[.t 2]
def AzJ:=An Ah1.eq_1<|AR Af4.eq_1
theorem AoJ:Ao π 51 8 Af4 Ax4=true:=by kernel_rfl
attribute[push_cast]AwC AzP Aw1 A08 Awv A0l Awt A0N f9R f9e AwF Azy Ax4 AzJ
end Go.Ir

namespace Go.Ir
open Go.Proofs
variable(O:World)
structure Ch where
 name:Aa
 type:Int
 text:Aa
 date:Int
 list:List Aa
def Ch.enc(v:Ch):V:=.agg [.s v.name,.i .i64 v.type,.s v.text,.i .i64 v.date,.sl (v.list.map V.s)]
def Ch.wt(v:Ch):Nat:=1+v.name.length+v.text.length+v.list.length
theorem Ch.enc_eq(v:Ch):v.enc=.agg [.s v.name,.i .i64 v.type,.s v.text,.i .i64 v.date,.sl (v.list.map V.s)]:=rfl
def dC:V:=.agg [.s [],.i .i64 0,.s [],.i .i64 0,.nil]
def Fo:List Ch->Aa->Option Ch
 | [],_=>none
 | v::vs,n=>if v.name==n then some v else Fo vs n
def gV:Option Ch->V
 | none=>dC
 | some v=>v.enc
def O2(o:Option Ch):V:=.tup [gV o,.b o.isSome]
theorem Gd{vs n v}(h:Fo vs n=some v):v∈vs:=by
 induction vs with
 | nil=>cases h
 | cons x vs a=>rw[Fo] at h;grind
theorem Ae7(v:Ch)(n:Aa) a σ (d:lk σ a=some (.box (.s n))):Ak π O 50 [v.enc,.ref a 0] σ (.b (v.name==n)) σ:=by
 refine Ac (vs:=[.b (v.name==n)]) Asy (by simp) (λ_ h=>h) λn0 c=>?_;have f:∀j,((n0,j)=a)=False:=λj=>Gt (c _ _ d);simp only[push_cast,rq,f,d,Ch.enc_eq]
 repeat' (first|((apply AL<;>intro _h)<;>simp only[push_cast,rq,_h,f,d,Ch.enc_eq])|intro _)
 all_goals (refine Aw (by simp[get]) (λi e h=>DJ (c i e h) h))
theorem nN(l:List Aa):∀y∈l.map V.s,y.ok=true:=by intro y a;obtain⟨x,_,rfl⟩:=Aov.1 a;rfl
theorem Aua(l:List Aa):∀y∈l.map V.s,(cells y).length=1:=by intro y a;obtain⟨x,_,rfl⟩:=Aov.1 a;rfl
theorem rH(l:List Aa)(f:l.length<=2^30):Ak π O 51 [.sl (l.map V.s)] [] (.sl (l.map V.s)) []:=by
 refine Ac (vs:=[.sl (l.map V.s)]) AoJ (by simp) (by simp) λn0 d=>?_;clear d;have b:l.length<=AJ:=by unfold AJ;omega
 cases l with
 | nil=>
  simp only[push_cast,rq,Arp (show 0<=AJ by decide)];intros;refine⟨?_,?_⟩
  .intros;exact Nl rfl
  .intros;exact H7 (e:=9) (sz:=1) rfl (nN []) (by simp[lk])
 | cons c cs=>have a:=Aua (c::cs);rw[Ao7] at a;rw[Ao7] at *;rw[An9] at b;simp only[push_cast,rq,Arp a,Arp b];intros;exact H7 (e:=9) (sz:=1) rfl (nN (c::cs)) (by simp[lk])
theorem AtP(v:Ch):Pg true 5 v.enc:=Fh rfl
theorem Asj:Ao π 49 19 (JA 55 5 true) Rc=true:=by kernel_rfl
theorem AvO vs n:(AV (λv=>v.name==n) vs<0/\Fo vs n=none)\/∃(j:Nat) (v:Ch),AV (λv=>v.name==n) vs=(j:Nat)/\vs[j]?=some v/\Fo vs n=some v:=by
 induction vs with
 | nil=>left;exact⟨by simp[AV],rfl⟩
 | cons x vs b=>
  rw[Fo];cases a:(x.name==n) with
  | true=>right;exact⟨0,x,by simp[AV,a],rfl,rfl⟩
  | false=>
   rcases b with⟨h1,h2⟩|⟨j,v,h1,h2,h3⟩
   .left;refine⟨?_,by simpa using h2⟩;simp[AV,a,h1]
   .right;refine⟨j+1,v,?_,by simpa using h2,by simpa using h3⟩;simp only[AV,a,A0d,h1];grind
theorem Lx vs (n:Aa)(o:vs.length<=2^40)(l:∀v∈vs,v.list.length<=2^30):Ak π O 21 [.sl (vs.map Ch.enc),.s n] [] (O2 (Fo vs n)) []:=by
 have e:=λc σ k=>Cn O Asj Ch.enc vs (λv=>v.name==n) 50 [] [.ref c 0] σ (λx _=>AtP x) (λx _=>Ae7 O x n c σ k) (by omega);unfold O2;refine Ac (vs:=[gV (Fo vs n),.b (Fo vs n).isSome]) ApQ (by simp) (by simp) λn0 g=>?_;clear g;simp only[push_cast,seval];intro k1;refine AX (e (n0,3) _ (by simp[lk])) (λ_ _ h=>h) ?_;rw[B5];rcases AvO vs n with⟨h1,h2⟩|⟨j,v,h1,h2,h3⟩
 .have d:decide (AV (λv=>v.name==n) vs<0)=true:=by simpa using h1
  rw[h2];simp only[push_cast,seval,d];intros;refine Ah ?_;simp[push_cast,gV,dC]
 .have i:=rH O v.list (l v (Gd h3));have a:(vs.map Ch.enc)[j]?=some v.enc:=by grind
  have m:=(Ao5.1 h2).1;have f:decide ((j:Int)<0)=false:=by simp
  rw[h3,h1];simp only[push_cast,seval,f,a,Ch.enc_eq];repeat' (first|(first|(apply AL<;>intro _h)|refine Ab i ?_)<;>simp only[push_cast,seval]|intro _)
  refine Ah ?_;simp[push_cast,gV,Ch.enc_eq]
def FA(v:Ch):Bool:=
 if v.type==1 then v.date==0&&(v.list.length:Int)==0 else if v.type==2 then E6 v.text&&v.date==0&&(v.list.length:Int)==0
 else if v.type==3 then v.text==[]&&(v.list.length:Int)==0 else if v.type==4 then v.text==[]&&v.date==0 else false
theorem Je v (d:v.text.length<=2^30):Ak π O 22 [v.enc] [] (.b (FA v)) []:=by
 have c:=I3 O v.text (by omega);generalize hS:FA v=S;unfold FA at hS;refine Ac (vs:=[.b S]) ArZ (by simp) (by simp) λn0 a=>?_;clear a;simp only[push_cast,rq,Ch.enc_eq];repeat' (first|(first|(apply AL<;>intro _h)|refine Ab c ?_)<;>simp only[push_cast,rq,_h,Ch.enc_eq,Afb]|intro _)
 all_goals (refine Af ?_;simp only[Cd,bq, *] at hS⊢;grind)
def HH(s:Aa):Bool:=s==[]||s==[105,110,116,101,103,101,114]||s==[112,101,114,99,101,110,116]
def AM(k:Int)(t a st:Aa)(c q:Int):Bool:=
 if k==1 then !(t==[])&&(a==[]&&(st==[]&&(c==0&&q==0)))
 else if k==10 then t==[]&&(a==[]&&(st==[]&&(c==0&&q==0)))
 else BF a&&(t==[]&&(
  if k==2 then st==[]&&(c==0&&q==0)
  else if k==11 then st==[]&&c==0
  else if k==7||k==8||k==9 then st==[]&&q==0
  else if k==3 then HH st&&(c==0&&q==0)
  else if k==4||k==6 then BF st&&(c==0&&q==0)
  else if k==5 then FQ st&&(c==0&&q==0)
  else false))
def Ad.fieldsB(p:Ad):Bool:=AM p.kind p.text p.name p.style p.cases.length p.parts.length
theorem cV(t a st:Aa)(cs:List AD)(ps:List Ad)(j:a.length<AG)(f:st.length<AG):Ak π O 89 [.agg [.i .i64 1,.s t,.s a,.s st,.sl (cs.map AD.enc),.sl (ps.map Ad.enc)]] [] (.b (AM 1 t a st cs.length ps.length)) []:=by
 generalize hS:AM 1 t a st cs.length ps.length=S;unfold AM HH at hS;simp only[rn,AbA] at hS;have g:(t==t)=true:=by simp
 have d:(a==a)=true:=by simp
 have e:(st==st)=true:=by simp
 have h:AI 1=false:=rfl;refine Ac (vs:=[.b S]) Iq (by simp) (by simp) λn0 c=>?_;clear c;simp only[push_cast,seval];repeat' (first|(first|(apply AL<;>intro _h)|refine Ab (D7 O 1) ?_)<;>simp only[push_cast,seval,_h,g,h]|intro _)
 all_goals subst hS
 all_goals (refine Af ?_;simp only[Cd,AbA, *,bq];done)
theorem WD(t a st:Aa)(cs:List AD)(ps:List Ad)(h:a.length<AG)(f:st.length<AG):Ak π O 89 [.agg [.i .i64 10,.s t,.s a,.s st,.sl (cs.map AD.enc),.sl (ps.map Ad.enc)]] [] (.b (AM 10 t a st cs.length ps.length)) []:=by
 generalize hS:AM 10 t a st cs.length ps.length=S;unfold AM HH at hS;simp only[rn,bq,AbA,Ab9] at hS;have j:(t==t)=true:=by simp
 have d:(a==a)=true:=by simp
 have e:(st==st)=true:=by simp
 have g:AI 10=false:=rfl;refine Ac (vs:=[.b S]) Iq (by simp) (by simp) λn0 c=>?_;clear c;simp only[push_cast,seval];repeat' (first|(first|(apply AL<;>intro _h)|refine Ab (D7 O 10) ?_)<;>simp only[push_cast,seval,_h,g]|intro _)
 all_goals subst hS
 all_goals (refine Af ?_;simp only[Cd,AbA, *,bq];done)
theorem fV(t a st:Aa)(cs:List AD)(ps:List Ad)(g:a.length<AG)(h:st.length<AG):Ak π O 89 [.agg [.i .i64 2,.s t,.s a,.s st,.sl (cs.map AD.enc),.sl (ps.map Ad.enc)]] [] (.b (AM 2 t a st cs.length ps.length)) []:=by
 generalize hS:AM 2 t a st cs.length ps.length=S;unfold AM HH at hS;simp only[rn,bq,AbA,Ab9] at hS;have j:(t==t)=true:=by simp
 have d:(a==a)=true:=by simp
 have e:(st==st)=true:=by simp
 have k:AI 2=false:=rfl;have f:=Ds O a g;generalize BF a=l at f hS;refine Ac (vs:=[.b S]) Iq (by simp) (by simp) λn0 c=>?_;clear c;simp only[push_cast,seval];repeat' (first|(first|(apply AL<;>intro _h)|refine Ab (D7 O 2) ?_|refine Ab f ?_)<;>simp only[push_cast,seval,_h,j,d,e,k,rn,qz]|intro _)
 all_goals subst hS
 all_goals (refine Af ?_;simp only[Cd,AbA, *,bq];done)
theorem Vi(t a st:Aa)(cs:List AD)(ps:List Ad)(g:a.length<AG)(h:st.length<AG):Ak π O 89 [.agg [.i .i64 11,.s t,.s a,.s st,.sl (cs.map AD.enc),.sl (ps.map Ad.enc)]] [] (.b (AM 11 t a st cs.length ps.length)) []:=by
 generalize hS:AM 11 t a st cs.length ps.length=S;unfold AM HH at hS;simp only[rn,bq,AbA,Ab9] at hS;have j:(t==t)=true:=by simp
 have d:(a==a)=true:=by simp
 have e:(st==st)=true:=by simp
 have k:AI 11=false:=rfl;have f:=Ds O a g;generalize BF a=l at f hS;refine Ac (vs:=[.b S]) Iq (by simp) (by simp) λn0 c=>?_;clear c;simp only[push_cast,seval];repeat' (first|(first|(apply AL<;>intro _h)|refine Ab (D7 O 11) ?_|refine Ab f ?_)<;>simp only[push_cast,seval,_h,j,d,e,k,rn,qz]|intro _)
 all_goals subst hS
 all_goals (refine Af ?_;simp only[Cd,AbA, *,bq];done)
theorem dL(t a st:Aa)(cs:List AD)(ps:List Ad)(g:a.length<AG)(h:st.length<AG):Ak π O 89 [.agg [.i .i64 7,.s t,.s a,.s st,.sl (cs.map AD.enc),.sl (ps.map Ad.enc)]] [] (.b (AM 7 t a st cs.length ps.length)) []:=by
 generalize hS:AM 7 t a st cs.length ps.length=S;unfold AM HH at hS;simp only[rn,bq,AbA,Ab9] at hS;have j:(t==t)=true:=by simp
 have d:(a==a)=true:=by simp
 have e:(st==st)=true:=by simp
 have k:AI 7=true:=rfl;have f:=Ds O a g;generalize BF a=l at f hS;refine Ac (vs:=[.b S]) Iq (by simp) (by simp) λn0 c=>?_;clear c;simp only[push_cast,seval];repeat' (first|(first|(apply AL<;>intro _h)|refine Ab (D7 O 7) ?_|refine Ab f ?_)<;>simp only[push_cast,seval,_h,j,d,e,k,rn,qz]|intro _)
 all_goals subst hS
 all_goals (refine Af ?_;simp only[Cd,AbA,Ab9, *,bq];done)
theorem dW(t a st:Aa)(cs:List AD)(ps:List Ad)(g:a.length<AG)(h:st.length<AG):Ak π O 89 [.agg [.i .i64 8,.s t,.s a,.s st,.sl (cs.map AD.enc),.sl (ps.map Ad.enc)]] [] (.b (AM 8 t a st cs.length ps.length)) []:=by
 generalize hS:AM 8 t a st cs.length ps.length=S;unfold AM HH at hS;simp only[rn,bq,AbA,Ab9] at hS;have j:(t==t)=true:=by simp
 have d:(a==a)=true:=by simp
 have e:(st==st)=true:=by simp
 have k:AI 8=true:=rfl;have f:=Ds O a g;generalize BF a=l at f hS;refine Ac (vs:=[.b S]) Iq (by simp) (by simp) λn0 c=>?_;clear c;simp only[push_cast,seval];repeat' (first|(first|(apply AL<;>intro _h)|refine Ab (D7 O 8) ?_|refine Ab f ?_)<;>simp only[push_cast,seval,_h,j,d,e,k,rn,qz]|intro _)
 all_goals subst hS
 all_goals (refine Af ?_;simp only[Cd,AbA,Ab9, *,bq];done)
theorem dR(t a st:Aa)(cs:List AD)(ps:List Ad)(g:a.length<AG)(h:st.length<AG):Ak π O 89 [.agg [.i .i64 9,.s t,.s a,.s st,.sl (cs.map AD.enc),.sl (ps.map Ad.enc)]] [] (.b (AM 9 t a st cs.length ps.length)) []:=by
 generalize hS:AM 9 t a st cs.length ps.length=S;unfold AM HH at hS;simp only[rn,bq,AbA,Ab9] at hS;have j:(t==t)=true:=by simp
 have d:(a==a)=true:=by simp
 have e:(st==st)=true:=by simp
 have k:AI 9=true:=rfl;have f:=Ds O a g;generalize BF a=l at f hS;refine Ac (vs:=[.b S]) Iq (by simp) (by simp) λn0 c=>?_;clear c;simp only[push_cast,seval];repeat' (first|(first|(apply AL<;>intro _h)|refine Ab (D7 O 9) ?_|refine Ab f ?_)<;>simp only[push_cast,seval,_h,j,d,e,k,rn,qz]|intro _)
 all_goals subst hS
 all_goals (refine Af ?_;simp only[Cd,AbA,Ab9, *,bq];done)
theorem fR(t a st:Aa)(cs:List AD)(ps:List Ad)(g:a.length<AG)(h:st.length<AG):Ak π O 89 [.agg [.i .i64 3,.s t,.s a,.s st,.sl (cs.map AD.enc),.sl (ps.map Ad.enc)]] [] (.b (AM 3 t a st cs.length ps.length)) []:=by
 generalize hS:AM 3 t a st cs.length ps.length=S;unfold AM HH at hS;simp only[rn,bq,AbA,Ab9] at hS;have j:(t==t)=true:=by simp
 have d:(a==a)=true:=by simp
 have e:(st==st)=true:=by simp
 have k:AI 3=false:=rfl;have f:=Ds O a g;generalize BF a=l at f hS;refine Ac (vs:=[.b S]) Iq (by simp) (by simp) λn0 c=>?_;clear c;simp only[push_cast,seval];repeat' (first|(first|((first|apply Ai|apply Am|apply Al)<;>intro _h)|refine Ab (D7 O 3) ?_|refine Ab f ?_)<;>simp only[push_cast,seval,_h,j,d,e,k,rn,qz]|intro _)
 all_goals subst hS
 all_goals (refine Af ?_;simp only[Cd,AbA,Ab9, *,bq];done)
theorem dE(t a st:Aa)(cs:List AD)(ps:List Ad)(h:a.length<AG)(f:st.length<AG):Ak π O 89 [.agg [.i .i64 4,.s t,.s a,.s st,.sl (cs.map AD.enc),.sl (ps.map Ad.enc)]] [] (.b (AM 4 t a st cs.length ps.length)) []:=by
 generalize hS:AM 4 t a st cs.length ps.length=S;unfold AM HH at hS;simp only[rn,bq,AbA,Ab9] at hS;have j:(t==t)=true:=by simp
 have d:(a==a)=true:=by simp
 have e:(st==st)=true:=by simp
 have k:AI 4=false:=rfl;have g:=Ds O a h;generalize BF a=l at g hS;have v2:=Ds O st f;generalize BF st=m at v2 hS;refine Ac (vs:=[.b S]) Iq (by simp) (by simp) λn0 c=>?_;clear c;simp only[push_cast,seval];repeat' (first|(first|(apply AL<;>intro _h)|refine Ab (D7 O 4) ?_|refine Ab g ?_|refine Ab v2 ?_)<;>simp only[push_cast,seval,_h,j,d,e,k,rn,qz]|intro _)
 all_goals subst hS
 all_goals (refine Af ?_;simp only[Cd,AbA, *,bq];done)
theorem eI(t a st:Aa)(cs:List AD)(ps:List Ad)(h:a.length<AG)(f:st.length<AG):Ak π O 89 [.agg [.i .i64 6,.s t,.s a,.s st,.sl (cs.map AD.enc),.sl (ps.map Ad.enc)]] [] (.b (AM 6 t a st cs.length ps.length)) []:=by
 generalize hS:AM 6 t a st cs.length ps.length=S;unfold AM HH at hS;simp only[rn,bq,AbA,Ab9] at hS;have j:(t==t)=true:=by simp
 have d:(a==a)=true:=by simp
 have e:(st==st)=true:=by simp
 have k:AI 6=false:=rfl;have g:=Ds O a h;generalize BF a=l at g hS;have v2:=Ds O st f;generalize BF st=m at v2 hS;refine Ac (vs:=[.b S]) Iq (by simp) (by simp) λn0 c=>?_;clear c;simp only[push_cast,seval];repeat' (first|(first|(apply AL<;>intro _h)|refine Ab (D7 O 6) ?_|refine Ab g ?_|refine Ab v2 ?_)<;>simp only[push_cast,seval,_h,j,d,e,k,rn,qz]|intro _)
 all_goals subst hS
 all_goals (refine Af ?_;simp only[Cd,AbA, *,bq];done)
theorem aX(t a st:Aa)(cs:List AD)(ps:List Ad)(h:a.length<AG)(f:st.length<AG):Ak π O 89 [.agg [.i .i64 5,.s t,.s a,.s st,.sl (cs.map AD.enc),.sl (ps.map Ad.enc)]] [] (.b (AM 5 t a st cs.length ps.length)) []:=by
 generalize hS:AM 5 t a st cs.length ps.length=S;unfold AM HH at hS;simp only[rn,bq,AbA,Ab9] at hS;have j:(t==t)=true:=by simp
 have d:(a==a)=true:=by simp
 have e:(st==st)=true:=by simp
 have k:AI 5=false:=rfl;have g:=Ds O a h;generalize BF a=l at g hS;have v3:=T7 O st f;generalize FQ st=m at v3 hS;refine Ac (vs:=[.b S]) Iq (by simp) (by simp) λn0 c=>?_;clear c;simp only[push_cast,seval];repeat' (first|(first|(apply AL<;>intro _h)|refine Ab (D7 O 5) ?_|refine Ab g ?_|refine Ab v3 ?_)<;>simp only[push_cast,seval,_h,j,d,e,k,rn,qz]|intro _)
 all_goals subst hS
 all_goals (refine Af ?_;simp only[Cd,AbA, *,bq];done)
theorem bY k (t q st:Aa)(cs:List AD)(ps:List Ad)(d:(k==1)=false)(e:(k==2)=false)(f:(k==3)=false)(g:(k==4)=false)(h:(k==5)=false)(j:(k==6)=false)(l:(k==7)=false)(m:(k==8)=false)(o:(k==9)=false)(a:(k==10)=false)(c:(k==11)=false):Ak π O 89 [.agg [.i .i64 k,.s t,.s q,.s st,.sl (cs.map AD.enc),.sl (ps.map Ad.enc)]] [] (.b (AM k t q st cs.length ps.length)) []:=by
 generalize hS:AM k t q st cs.length ps.length=S;unfold AM at hS;simp only[d,e,f,g,h,j,l,m,o,a,c,A0T,Ab7,Ab9,A0j] at hS;subst hS;have r:(k !=1)=true:=by grind
 have u:(k !=10)=true:=by grind
 refine Ac (vs:=[.b false]) Iq (by simp) (by simp) λn0 p=>?_;clear p;simp only[push_cast,seval,d,e,f,g,h,j,l,m,o,a,c,r,u]
 repeat' (first|((apply AL<;>intro _h)<;>simp only[push_cast,seval,_h,d,e,f,g,h,j,l,m,o,a,c,r,u])|intro _)
 all_goals (refine Af ?_;simp only[Cd,AbA];done)
theorem Aau(p:Ad)(a:p.name.length<AG)(c:p.style.length<AG):Ak π O 89 [p.enc] [] (.b p.fieldsB) []:=by
 unfold Ad.fieldsB;have ⟨k,t,nm,st,cs,ps⟩:=p;simp only at a c⊢;rw[Ad.enc_eq];simp only;have r:k=1\/k=2\/k=3\/k=4\/k=5\/k=6\/k=7\/k=8\/k=9\/k=10\/k=11\/((k==1)=false/\(k==2)=false/\(k==3)=false/\(k==4)=false/\(k==5)=false/\(k==6)=false/\(k==7)=false/\(k==8)=false/\(k==9)=false/\(k==10)=false/\(k==11)=false):=by grind
 rcases r with rfl|rfl|rfl|rfl|rfl|rfl|rfl|rfl|rfl|rfl|rfl|⟨f,g,h,i,j,l,m,o,q,d,e⟩
 .exact cV O t nm st cs ps a c
 .exact fV O t nm st cs ps a c
 .exact fR O t nm st cs ps a c
 .exact dE O t nm st cs ps a c
 .exact aX O t nm st cs ps a c
 .exact eI O t nm st cs ps a c
 .exact dL O t nm st cs ps a c
 .exact dW O t nm st cs ps a c
 .exact dR O t nm st cs ps a c
 .exact WD O t nm st cs ps a c
 .exact Vi O t nm st cs ps a c
 .exact bY O k t nm st cs ps f g h i j l m o q d e
end Go.Ir

namespace Go.Ir
open Go.Proofs
variable{P:Program}{O:World}{nt n:Nat}{Q:Exit→St→Prop}{env:BB}{σ:Aq}
def vK:IC:=sQ (oS [fA 20 5 0,l1 21 20,fA 22 11 0,l1 23 22,q2 24 121 21 23,nT 25 24,m1 26 25,BU 27 26 9,E5 28 26 11 0,Eh 29 26 28,gF 30 26 (.rdm (.mget .str (.b false) false) (.t 27) [.t 29]),pO 31 26 30,m1 32 31,gF 33 32 (.load (.t 4) 1 true),E5 34 32 11 1,Eh 35 32 34,BU 36 32 2,BU 37 32 3,BU 38 32 37,E5 39 38 5 0,Eh 40 38 39,Fg 41 38 .neq 40 9,gF 42 32 (.pick (.t 38) (.c (.b true)) (.t 41)),gF 43 32 (.calls 61 [.t 33,.t 35,.t 36,.t 42]),gF 44 32 (.not (.t 43)),pO 45 32 44] [2,3,4,5,9,11,14,15,16,45] (cD 45 (oR [mC 8 (.b false)] [8]) .skip)) (oP [m1 46 9,fA 47 11 0,l1 48 47,o0 (.wrm (.mput .str) (.t 46) [.t 48,.c (.b true)])] [2,3,4,5,9,14,15,16])
def lO:IC:=sQ (.block 1 (oS [iA 18 14 16 101 2,lA 19 18 2,o1 11 (.alloc (.agg [.s [],.nil])),sT 11 19 2] [2,3,4,5,9,11,14,15,16] vK)) (oP [bZ 49 .add 16 1,m1 16 49] [2,3,4,5,9,14,15,16])
def tD:IC:=oR [fA 50 5 4,l1 51 50,nL 52 51,bZ 53 .leq 52 20,m1 54 53,BY 55 54 9,gT 56 54 (.rdm (.mget .str (.b false) false) (.t 55) [.c (.s [111,116,104,101,114])]),pA 57 54 56,m1 8 57] [8]
def Aid:IC:=sQ (oS [fA 13 5 4,l1 14 13,nL 15 14,mZ 16 0] [2,3,4,5,9,14,15,16] (.block 0 (.loop (oS [bT 17 .lss 16 15] [2,3,4,5,9,14,15,16,17] (sQ (cD 17 .skip (.exit 0)) lO))))) tD
def AgP:IC:=oS [bX 4 0,bX 5 1,mC 8 (.b false)] [2,3,4,5] (oS [o1 12 (.mkm .mkmap []),m1 9 12] [2,3,4,5,9] Aid)
def Axk:List R:=[.t 8]
def Az6:=An vK.eq_1<|An lO.eq_1<|An tD.eq_1<|An Aid.eq_1<|AR AgP.eq_1
theorem AqU:Ao π 90 58 AgP Axk=true:=by kernel_rfl
def Aat:IC:=oS [fA 81 10 0,l1 82 81,bZ 83 .neq 82 11,m1 84 83,Fa 85 84 10 2,E3 86 84 85,gT 87 84 (.bin .neq (.t 86) (.c (.s []))),pA 88 84 87] [1,2,3,4,10,11,12,13,88] (cD 88 (oP [fA 89 4 0,l1 90 89,fA 91 10 2,l1 92 91,o0 (.wrm (.mput .str) (.t 90) [.t 92,.c (.b true)])] [1,2,3,4,11,12,13]) .skip)
def kO:IC:=sQ (oS [fA 65 10 0,l1 66 65,q1 67 42 66,m1 68 67,BY 69 68 2,Gi 70 68 .geq 69 8,BY 71 68 70,gF 72 71 (.load (.t 4) 1 true),gF 73 71 (.load (.t 10) 6 true),BU 74 71 2,Fg 75 71 .add 74 1,BU 76 71 3,gF 77 71 (.calls 90 [.t 72,.t 73,.t 75,.t 76]),gF 78 71 (.not (.t 77)),gT 79 68 (.pick (.t 71) (.c (.b true)) (.t 78)),pA 80 68 79] [1,2,3,4,10,11,12,13,80] (cD 80 (oR [mC 8 (.b false)] [8]) .skip)) Aat
def kC:IC:=sQ (oS [fA 48 10 0,l1 49 48,bZ 50 .eql 49 11,m1 51 50,BY 52 51 2,Gi 53 51 .geq 52 8,BY 54 51 53,gF 55 54 (.load (.t 4) 1 true),E5 56 54 10 5,Eh 57 54 56,BU 58 54 2,Fg 59 54 .add 58 1,BU 60 54 3,gF 61 54 (.calls 61 [.t 55,.t 57,.t 59,.t 60]),gF 62 54 (.not (.t 61)),gT 63 51 (.pick (.t 54) (.c (.b true)) (.t 62)),pA 64 51 63] [1,2,3,4,10,11,12,13,64] (cD 64 (oR [mC 8 (.b false)] [8]) .skip)) kO
def AaV:IC:=sQ (oS [lA 18 10 6,q1 19 89 18,nT 20 19,m1 21 20,E5 22 21 10 0,Eh 23 21 22,Fg 24 21 .eql 23 10,BU 25 21 24,BY 26 25 3,gT 27 25 (.not (.t 26)),gF 28 21 (.pick (.t 25) (.t 27) (.c (.b false))),pO 29 21 28,m1 30 29,BU 31 30 9,Fg 32 30 .gtr 31 0,BU 33 30 32,Fa 34 33 10 0,E3 35 33 34,Gi 36 33 .eql 35 1,gF 37 30 (.pick (.t 33) (.t 36) (.c (.b false))),BU 38 30 37,BY 39 38 1,BY 40 38 9,Gi 41 38 .sub 40 1,gT 42 38 (.iaddr (.t 39) (.t 41) 96 6),Fa 43 38 42 0,E3 44 38 43,Gi 45 38 .eql 44 1,gF 46 30 (.pick (.t 38) (.t 45) (.c (.b false))),pO 47 30 46] [1,2,3,4,10,11,12,13,47] (cD 47 (oR [mC 8 (.b false)] [8]) .skip)) kC
def vF:IC:=sQ (.block 1 (oS [m1 15 13,iA 16 11 13 96 6,lA 17 16 6,o1 10 (.alloc (.agg [.i .i64 0,.s [],.s [],.s [],.nil,.nil])),m1 9 15,sT 10 17 6] [1,2,3,4,9,10,11,12,13] AaV)) (oP [bZ 93 .add 13 1,m1 13 93] [1,2,3,4,11,12,13])
def AfP:IC:=sQ (oS [m1 11 1,nL 12 11,mZ 13 0] [1,2,3,4,11,12,13] (.block 0 (.loop (oS [bT 14 .lss 13 12] [1,2,3,4,11,12,13,14] (sQ (cD 14 .skip (.exit 0)) vF))))) (oR [mC 8 (.b true)] [8])
def AhP:IC:=oS [bX 4 0,mC 8 (.b false)] [1,2,3,4] AfP
def AwG:List R:=[.t 8]
def A0s:=An Aat.eq_1<|An kO.eq_1<|An kC.eq_1<|An AaV.eq_1<|An vF.eq_1<|An AfP.eq_1<|AR AhP.eq_1
theorem Aq6:Ao π 61 94 AhP AwG=true:=by kernel_rfl
def AfK:IC:=oR [o1 1 (.mkm .mkmap []),o0 (.wrm (.mput .str) (.t 1) [.c (.s [110,117,109,98,101,114]),ci 3]),o0 (.wrm (.mput .str) (.t 1) [.c (.s [117,110,105,116]),ci 4]),o0 (.wrm (.mput .str) (.t 1) [.c (.s [100,97,116,101]),ci 5]),o0 (.wrm (.mput .str) (.t 1) [.c (.s [108,105,115,116]),ci 6]),o0 (.wrm (.mput .str) (.t 1) [.c (.s [112,108,117,114,97,108]),ci 7]),o0 (.wrm (.mput .str) (.t 1) [.c (.s [111,114,100,105,110,97,108]),ci 8]),o0 (.wrm (.mput .str) (.t 1) [.c (.s [115,101,108,101,99,116]),ci 9]),m1 2 1,m1 0 2] [0]
def Aih:IC:=oS [mC 0 .nm] [] AfK
def Axl:List R:=[.t 0]
def AzU:=An AfK.eq_1<|AR Aih.eq_1
theorem Aqv:Ao π 92 3 Aih Axl=true:=by kernel_rfl
def pX:IC:=.ops [m1 96 3,fA 97 5 2,l1 98 97,nS 99 98,o1 100 (.bin .add (ci 2) (.t 99)),fA 101 5 5,l1 102 101,q1 103 62 102,bT 104 .add 100 103,bT 105 .add 96 104,m1 3 105] [3,10,11,12] [[1,2],[2,3],[3,4],[5,6],[6,7],[4,8],[7,8],[0,9],[8,9],[0,10],[9,10]]
def jU:IC:=oS [m1 86 3,fA 87 5 2,l1 88 87,nS 89 88,o1 90 (.bin .add (ci 3) (.t 89)),bT 91 .add 86 90,m1 3 91] [3,5,10,11,12] (oS [fA 92 5 5,l1 93 92,nL 94 93,bZ 95 .gtr 94 0] [3,5,10,11,12,95] (cD 95 pX .skip))
def nV:IC:=oS [m1 31 7,fA 32 5 0,l1 33 32,bT 34 .eql 31 33] [3,5,6,10,11,12,25,34] (cD 34 (oP [m1 35 3,m1 36 6,nS 37 36,o1 38 (.bin .add (ci 2) (.t 37)),bT 39 .add 35 38,m1 3 39] [3,5,10,11,12,25]) .skip)
def lF:IC:=sQ (.mnext 26 27 (.t 25) [3,5,10,11,12,25,27]) (sQ (cD 27 .skip (.exit 3)) (.block 4 (oS [o1 28 (.mentry (.t 25)),xT 29 28 0,xT 30 28 1,m1 6 29,m1 7 30] [3,5,6,7,10,11,12,25] nV)))
def qF:IC:=.ops [m1 61 3,fA 62 9 0,l1 63 62,nS 64 63,o1 65 (.bin .add (ci 4) (.t 64)),fA 66 9 1,l1 67 66,q1 68 62 67,bT 69 .add 65 68,bT 70 .add 61 69,m1 3 70] [3,10,11,12,55,56,57] [[1,2],[2,3],[3,4],[5,6],[6,7],[4,8],[7,8],[0,9],[8,9],[0,10],[9,10]]
def uP:IC:=sQ (.block 6 (oS [iA 59 55 57 101 2,lA 60 59 2,o1 9 (.alloc (.agg [.s [],.nil])),sT 9 60 2] [3,9,10,11,12,55,56,57] qF)) (oP [bZ 71 .add 57 1,m1 57 71] [3,10,11,12,55,56,57])
def zK:IC:=oS [fA 54 5 4,l1 55 54,nL 56 55,mZ 57 0] [3,10,11,12,55,56,57] (.block 5 (.loop (oS [bT 58 .lss 57 56] [3,10,11,12,55,56,57,58] (sQ (cD 58 .skip (.exit 5)) uP))))
def qE:IC:=sQ (oS [fA 40 5 3,l1 41 40,bC 42 .neq 41 (.s [])] [3,5,10,11,12,42] (cD 42 (oP [m1 43 3,fA 44 5 3,l1 45 44,nS 46 45,o1 47 (.bin .add (ci 2) (.t 46)),bT 48 .add 43 47,m1 3 48] [3,5,10,11,12]) .skip)) (sQ (oS [fA 49 5 0,l1 50 49,q1 51 42 50] [3,5,10,11,12,51] (cD 51 (oP [m1 52 3,bZ 53 .add 52 1,m1 3 53] [3,5,10,11,12]) .skip)) zK)
def tK:IC:=oS [m1 18 3,fA 19 5 2,l1 20 19,nS 21 20,o1 22 (.bin .add (ci 2) (.t 21)),bT 23 .add 18 22,m1 3 23] [3,5,10,11,12] (sQ (oS [o1 24 (.calln 92 []),o1 25 (.mrange (.t 24))] [3,5,10,11,12,25] (.block 3 (.loop lF))) qE)
def AaM:IC:=cD 72 (oP [m1 74 3,fA 75 5 1,l1 76 75,q1 77 91 76,nS 78 77,bT 79 .add 74 78,m1 3 79] [3,10,11,12]) (oS [bZ 81 .eql 17 10,m1 80 81] [3,5,10,11,12,17,80] (cD 80 (oP [m1 82 3,bZ 83 .add 82 1,m1 3 83] [3,10,11,12]) (oS [bZ 85 .eql 17 11,m1 84 85] [3,5,10,11,12,84] (cD 84 jU tK))))
def zD:IC:=sQ (.block 1 (oS [iA 14 10 12 96 6,lA 15 14 6,o1 5 (.alloc (.agg [.i .i64 0,.s [],.s [],.s [],.nil,.nil])),sT 5 15 6] [3,5,10,11,12] (oS [fA 16 5 0,l1 17 16] [3,5,10,11,12,17] (.block 2 (oS [bZ 73 .eql 17 1,m1 72 73] [3,5,10,11,12,17,72] AaM))))) (oP [bZ 106 .add 12 1,m1 12 106] [3,10,11,12])
def AiE:IC:=sQ (oS [m1 10 0,nL 11 10,mZ 12 0] [3,10,11,12] (.block 0 (.loop (oS [bT 13 .lss 12 11] [3,10,11,12,13] (sQ (cD 13 .skip (.exit 0)) zD))))) (oR [m1 107 3,m1 2 107] [2])
def Ajb:IC:=oS [mZ 2 0] [0] (oS [mZ 3 0] [0,3] AiE)
def Aw6:List R:=[.t 2]
def A07:=An pX.eq_1<|An jU.eq_1<|An nV.eq_1<|An lF.eq_1<|An qF.eq_1<|An uP.eq_1<|An zK.eq_1<|An qE.eq_1<|An tK.eq_1<|An AaM.eq_1<|An zD.eq_1<|An AiE.eq_1<|AR Ajb.eq_1
theorem Ati:Ao π 62 108 Ajb Aw6=true:=by kernel_rfl
def Ags:IC:=oR [lA 8 5 1,m1 9 0,m1 10 1,o1 11 (.calls 61 [.t 8,.t 9,ci 0,.t 10]),m1 12 11,Fa 13 12 5 0,E3 14 12 13,gT 15 12 (.rdm .mlen (.t 14) []),Gi 16 12 .leq 15 20,pA 17 12 16,m1 18 17,BY 19 18 0,gT 20 18 (.call 62 [.t 19]),Gi 21 18 .leq 20 4000,pA 22 18 21,m1 4 22] [4]
def AfS:IC:=oS [mC 4 (.b false)] [0,1] (oS [o1 6 (.mkm .mkmap []),o1 7 (.build [.nm] [(0,1,.t 6)]),o1 5 (.alloc (.agg [.nm])),sT 5 7 1] [0,1,5] Ags)
def AwB:List R:=[.t 4]
def A0q:=An Ags.eq_1<|AR AfS.eq_1
theorem Asi:Ao π 27 23 AfS AwB=true:=by kernel_rfl
def Ai5:IC:=oS [mC 2 (.b false)] [0] (oR [m1 3 0,o1 4 (.call 27 [.t 3,.c (.b false)]),m1 2 4] [2])
def AwS:List R:=[.t 2]
def A0L:=AR Ai5.eq_1
theorem Atc:Ao π 11 5 Ai5 AwS=true:=by kernel_rfl
attribute[push_cast]Axk Az6 AwG A0s Axl AzU Aw6 A07 AwB A0q AwS A0L
end Go.Ir
section
namespace Go.Ir
open Go.Proofs
variable(O:World)
mutual
def Ad.chk:Ad->Int->Bool->List Aa->Bool×List Aa
 | ⟨k,t,b,st,cs,ps⟩,d,c,l=>
  match(if k==11 then(if decide (d>=8) then(false,l) else BZ ps (d+1) c false l) else(true,l)) with
  | (false,l1)=>(false,l1)
  | (true,l1)=>match(if AI k then(if decide (d>=8) then(false,l1) else Ey cs k (d+1) c cs.length [] l1) else(true,l1)) with
   | (false,a)=>(false,a)
   | (true,a)=>(true,if !(k==11)&&!(b==[]) then Pd b a else a)
def BZ:List Ad->Int->Bool->Bool->List Aa->Bool×List Aa
 | [],_,_,_,l=>(true,l)
 | p::ps,d,c,a,l=>
  if !p.fieldsB||(p.kind==10&&!c)||(a&&p.kind==1) then(false,l) else
  match p.chk d c l with
  | (false,l1)=>(false,l1)
  | (true,l1)=>BZ ps d c (p.kind==1) l1
def Ey:List (Aa×List Ad)->Int->Int->Bool->Nat->List Aa->List Aa->Bool×List Aa
 | [],_,_,_,n,seen,l=>(decide ((n:Int)<=20)&&seen.contains AH,l)
 | (key,ps)::cs,k,d,c,n,seen,l=>
  if !Lv k key||seen.contains key then(false,l) else
  match BZ ps d (c||(k !=9)) false l with
  | (false,l1)=>(false,l1)
  | (true,l1)=>Ey cs k d c n (seen++[key]) l1
end
theorem Ad.chk_eq(p:Ad) d c l:p.chk d c l =
  match(if p.kind==11 then(if decide (d>=8) then(false,l) else BZ p.parts (d+1) c false l) else(true,l)) with
  | (false,l1)=>(false,l1)
  | (true,l1)=>match(if AI p.kind then(if decide (d>=8) then(false,l1) else Ey p.cases p.kind (d+1) c p.cases.length [] l1) else(true,l1)) with
   | (false,a)=>(false,a)
   | (true,a)=>(true,if !(p.kind==11)&&!(p.name==[]) then Pd p.name a else a):=by cases p;simp only[Ad.chk]
theorem JZ p ps d c a l:BZ (p::ps) d c a l =
  if !p.fieldsB||(p.kind==10&&!c)||(a&&p.kind==1) then(false,l) else
  match p.chk d c l with
  | (false,l1)=>(false,l1)
  | (true,l1)=>BZ ps d c (p.kind==1) l1:=by simp only[BZ]
theorem Kb(x:AD)(cs:List AD) k d c n seen l:Ey (x::cs) k d c n seen l =
  if !Lv k x.1||seen.contains x.1 then(false,l) else
  match BZ x.2 d (c||(k !=9)) false l with
  | (false,l1)=>(false,l1)
  | (true,l1)=>Ey cs k d c n (seen++[x.1]) l1:=by have ⟨a,b⟩:=x;simp only[Ey]
theorem T4{id:Id}{a}(h:id.1<a) j:((a,j)=id)=False:=by grind
theorem Or{id:Id}{a}(h:id.1<a) j:(id=(a,j))=False:=by grind
theorem ArP{id e e'}:∀i,lk [(id,e')] i≠none->lk [(id,e)] i≠none:=by intro i h;simp only[lk] at h⊢;grind
theorem Aeb(p:Ad) d c l id (K:p.wt<=2^24)(hp:∀x∈p.cases,∀l,Ak π O 61 [.agg [.arr id],.sl (x.2.map Ad.enc),.i .i64 d,.b (c||(p.kind !=9))] [(id,.map (Dv l))] (.b (BZ x.2 d (c||(p.kind !=9)) false l).1) [(id,.map (Dv (BZ x.2 d (c||(p.kind !=9)) false l).2))]) :
  Ak π O 90 [.agg [.arr id],p.enc,.i .i64 d,.b c] [(id,.map (Dv l))] (.b (Ey p.cases p.kind d c p.cases.length [] l).1) [(id,.map (Dv (Ey p.cases p.kind d c p.cases.length [] l).2))]:=by
 rw[p.wt_eq] at K;have N:=Er p.cases;generalize hS:Ey p.cases p.kind d c p.cases.length [] l=S;refine Ac (vs:=[.b S.1]) AqU (by simp) ArP λn0 A=>?_;have z:id.1<n0:=A id (.map (Dv l)) (by simp[lk]);clear A;rw[Ad.enc_eq];have E:∀j,((n0,j)=id)=False:=λj=>T4 z j;have e:∀j,(id=(n0,j))=False:=λj=>Or z j;simp only[push_cast,rq];intro k1 k2 k3;refine Aj p.cases.length (Inv:=λm st=>∃t h n' seen g r,p.cases=t++h/\m=h.length/\Ey h p.kind d c p.cases.length seen g=S/\id.1<r/\id.1<n'/\st=⟨[(2,.i .i64 d),(3,.b c),(4,.ref (n0,4) 0),(5,.ref (n0,5) 0),(9,.arr (r,12)),(14,.sl (p.cases.map AD.enc)),(15,.i .i64 p.cases.length),(16,.i .i64 t.length)],[(id,.map (Dv g)),((r,12),.map (Dv seen)),((n0,5),.box p.v),((n0,4),.box (.agg [.arr id]))],n'⟩) ⟨_,Ag.drop (Aam (σ:=[_,_,_]) ?_) (Ab6 _),[],p.cases,_,[],l,_,rfl,rfl,hS,?_,?_,rfl⟩ ?_
 .grind
 .omega
 .omega
 clear hS;rintro m _ ⟨t,h,n',seen,g,r,a,rfl,o,u,T,rfl⟩;unfold Ad.v;have F:∀j,((r,j)=id)=False:=λj=>T4 u j;have f:∀j,(id=(r,j))=False:=λj=>Or u j;have B:∀k j,((n'+1+k,j)=id)=False:=λk j=>T4 (by omega) j;have y:∀k j,(id=(n'+1+k,j))=False:=λk j=>Or (by omega) j;cases h with
 | nil=>
  rw[Ey] at o;subst o;rcases Hu AH seen with⟨h1,_,i,h2,_⟩|⟨h1,_,h2⟩
  all_goals unfold AH at h2
  .skip;simp only[push_cast,rq,e,a]
   repeat' (first|((apply AL<;>intro _h)<;>simp only[push_cast,rq,_h,f,h2])|intro _)
   all_goals (refine Aw ?_ CM;simp only[Cd,h1,AbA,A0e];done)
  .skip;simp only[push_cast,rq,e,a]
   repeat' (first|((apply AL<;>intro _h)<;>simp only[push_cast,rq,_h,f,h2])|intro _)
   all_goals (refine Aw ?_ CM;simp only[Cd,h1,AbA,A0j];done)
 | cons x h=>
  have M:=A9 a;have w:x∈p.cases:=by rw[a];simp
  have U:=B7 w;have G:=Ajv O p.kind x.1 (by omega);have D:c=true->Ak π O 61 [.agg [.arr id],.sl (x.2.map Ad.enc),.i .i64 d,.b true] [(id,.map (Dv g))] (.b (BZ x.2 d (c||(p.kind !=9)) false g).1) [(id,.map (Dv (BZ x.2 d (c||(p.kind !=9)) false g).2))]:=by intro L;have:=hp x w g;grind
  have C:c=false->Ak π O 61 [.agg [.arr id],.sl (x.2.map Ad.enc),.i .i64 d,.b (p.kind !=9)] [(id,.map (Dv g))] (.b (BZ x.2 d (c||(p.kind !=9)) false g).1) [(id,.map (Dv (BZ x.2 d (c||(p.kind !=9)) false g).2))]:=by intro L;have:=hp x w g;grind
  rw[Kb] at o;clear hp;generalize BZ x.2 d (c||(p.kind !=9)) false g=R at *;generalize Lv p.kind x.1=J at *;have I:∀k j,∀q∈[((n'+1+k,j),AP.box (.agg [V.s x.fst,V.sl (List.map Ad.enc x.snd)]))]++[((r,12),AP.map (Dv seen)),((n0,5),.box (.agg [V.i IntKind.i64 p.kind,V.s p.text,V.s p.name,V.s p.style,V.sl (List.map AD.enc (t++x::h)),V.sl (List.map Ad.enc p.parts)])),((n0,4),.box (.agg [.arr id]))],q.1≠id:=by
   intro k j q H;simp at H;rcases H with rfl|rfl|rfl|rfl
   all_goals simp[E,F,B]
  rcases Hu x.1 seen with⟨h1,_,i,h2,_⟩|⟨h1,_,h2⟩
  all_goals rw[h1] at o
  .rw[A1r,Amm rfl] at o;subst o;simp only[push_cast,rq,a,e];repeat' (first|(first|(apply AL<;>intro _h)|refine Ab G ?_)<;>simp only[push_cast,rq,_h,f,h2]|intro _)
   all_goals (refine Aw ?_ (EF (B _ _));simp only[Cd,AbA];done)
  .rw[A0T] at o;have ⟨rb,rl⟩:=R;cases J
   all_goals cases rb
   all_goals
    simp only[Azx,AzQ,AbA,Ab9,Ab7] at o;skip;simp only[push_cast,rq,a,e];repeat' (first|(first|(apply AL<;>intro _h)|refine Ab G ?_)<;>simp only[push_cast,rq,_h,e,f,h2]|intro _)
    all_goals (try (first|refine EO (pre:=[_]) (D (by assumption)) (I _ _) ?_|refine EO (pre:=[_]) (C (by assumption)) (I _ _) ?_))
    all_goals (try simp only[push_cast,rq,f,y,h2,Ae x (dn:=t) (by omega),FO])
    repeat' (first|((apply AL<;>intro _h)<;>simp only[push_cast,rq,_h,a,E,e,F,f,B,y,h2,Ae x (dn:=t) (by omega),FO])|intro _)
    all_goals (try (exfalso;simp_all;done))
    all_goals subst_vars
    all_goals (first|(refine Aw (by simp[get]) ?_;first|exact CM|exact EF (B _ _))|exact⟨_,_,Ab4 _,Ag.dropM (by simp[lk]) (Ab6 _),t++[x],h,_,seen++[x.1],rl,r,by simp,rfl,by rw[a],u,by omega,rfl⟩|skip)
end Go.Ir
end
namespace Go.Ir
open Go.Proofs
variable(O:World)
theorem m7{k}(h:AI k=true):(k==1)=false/\(k==10)=false/\(k==11)=false/\(k !=11)=true:=by unfold AI at h;grind
theorem Apm:∀(N:Nat) (ps:List Ad) (d:Int) (c:Bool) (l:List Aa) (id:Id),A7 ps<N->A7 ps<=2^24->0<=d->d<=2^30->
  Ak π O 61 [.agg [.arr id],.sl (ps.map Ad.enc),.i .i64 d,.b c] [(id,.map (Dv l))] (.b (BZ ps d c false l).1) [(id,.map (Dv (BZ ps d c false l).2))]:=by
 intro N
 induction N with
 | zero=>intro ps d c l id h;omega
 | succ N U=>
 intro ps d c l id hN hb ac ad;have Y:=El ps;generalize hS:BZ ps d c false l=S;refine Ac (vs:=[.b S.1]) Aq6 (by simp) ArP λn0 M=>?_;have L:id.1<n0:=M id (.map (Dv l)) (by simp[lk]);clear M;have A:∀j,((n0,j)=id)=False:=λj=>T4 L j;have r:∀j,(id=(n0,j))=False:=λj=>Or L j;simp only[push_cast,rq];intro k1 k2;refine Aj ps.length (Inv:=λm st=>∃dn a n' E,ps=dn++a/\m=a.length/\BZ a d c (Q4 dn) E=S/\id.1<n'/\st=⟨[(1,.sl (ps.map Ad.enc)),(2,.i .i64 d),(3,.b c),(4,.ref (n0,4) 0),(11,.sl (ps.map Ad.enc)),(12,.i .i64 ps.length),(13,.i .i64 dn.length)],[(id,.map (Dv E)),((n0,4),.box (.agg [.arr id]))],n'⟩) ⟨_,Ag.drop (Aam (σ:=[_]) ?_) (Ab6 _),[],ps,_,l,rfl,rfl,hS,?_,rfl⟩ ?_
 .simp[A]
 .omega
 clear hS;rintro m _ ⟨dn,a,n',E,u,rfl,e,ae,rfl⟩;have v:∀k j,((n'+1+k,j)=id)=False:=λk j=>T4 (by omega) j;have f:∀k j,(id=(n'+1+k,j))=False:=λk j=>Or (by omega) j;cases a with
 | nil=>
  rw[BZ] at e;subst e;simp only[push_cast,rq,u]
  repeat' (first|(((first|apply Ai|apply Am|apply Al)<;>intro _h)<;>simp only[push_cast,rq,_h,A,r,v,f])|intro _)
  all_goals (refine Aw (by simp[get]) CM)
 | cons p a=>
  have ab:=A9 u;have hw:=Fd (ps:=ps) (p:=p) (by rw[u];simp);have af:=hw;rw[p.wt_eq] at hw;have o:Q4 (dn++[p])=(p.kind==1):=by simp[Q4]
  rw[JZ] at e;have J:(decide ((dn.length:Int)>0)=false/\Q4 dn=false)\/(∃q:Ad,decide ((dn.length:Int)>0)=true/\(List.map Ad.enc (dn++p::a))[(IntKind.i64.wrap ((dn.length:Int)-1)).toNat]?=some q.enc/\(0<=IntKind.i64.wrap ((dn.length:Int)-1))=True/\Q4 dn=(q.kind==1)):=by
   rcases Ay5 dn with rfl|⟨W,q,rfl⟩
   .exact .inl ⟨rfl,rfl⟩
   .rw[Azh] at *;have:IntKind.i64.wrap (((W++[q]).length:Int)-1)=(W.length:Int):=by rw[wrap64]<;>simp at *<;>omega
    refine .inr ⟨q,by simp<;>omega,?_,?_,by simp[Q4]⟩
    .rw[this];simp
    .rw[this];simp
  have s:=Aau O p (by unfold AG;omega) (by unfold AG;omega);rw[Ad.enc_eq] at s;have g:=D7 O p.kind;have y:IntKind.i64.wrap (d+1)=d+1:=wrap64 (by omega) (by omega);rw[p.chk_eq] at e;have F:∀k j (X:AP),∀q∈[((n'+1+k,j),X)]++[((n0,4),AP.box (.agg [.arr id]))],q.1≠id:=by
   intro k j X q Z;simp at Z;rcases Z with rfl|rfl
   all_goals simp[A,v]
  have D:d<8/\decide (d>=8)=false\/decide (d>=8)=true:=by
   by_cases h:d<8
   .exact .inl ⟨h,by simp;omega⟩
   .exact .inr (by simp;omega)
  by_cases kB:p.kind=11
  .have z:=fun(D:d<8)=>U p.parts (d+1) c E id (by omega) (by omega) (by omega) (by omega);have V:AI 11=false:=rfl;have q1:(p.kind==1)=false:=by rw[kB];rfl
   rw[kB] at e s g;rw[V] at g e;clear J;generalize p.fieldsB=K at *;generalize BZ p.parts (d+1) c false E=R at *;have ⟨rb,rl⟩:=R;cases K
   .simp only[bq,AbA] at e;simp only[push_cast,rq,u,kB];repeat' (first|(first|((first|apply Ai|apply Am|apply Al)<;>intro _h)|refine Ab s ?_|refine Ab g ?_)<;>simp only[push_cast,rq]|intro _)
    all_goals (first|(subst e;refine Aw (by simp[get]) ?_;first|exact CM|exact EF (v _ _))|exact⟨_,_,Ab4 _,Ag.dropM (by simp[lk]) (Ab6 _),dn++[p],a,_,_,by simp,rfl,by rw[o,q1];exact e,by omega,rfl⟩|exact⟨_,_,Ab4 _,Ag.drop1 (by simp[lk,f]) (Ab6 _),dn++[p],a,_,_,by simp,rfl,by rw[o,q1];exact e,by omega,rfl⟩|skip)
   .rcases D with⟨D,e8⟩|e8
    .cases rb
     all_goals
      rw[e8] at e;simp only[bq,AbA,Ab9,rn] at e;skip;simp only[push_cast,rq,u,kB];repeat' (first|(first|((first|apply Ai|apply Am|apply Al)<;>intro _h)|refine Ab s ?_|refine Ab g ?_)<;>simp only[push_cast,rq,_h,u,A,r,v,f,Ae p (dn:=dn) (by omega),y,kB,rn,qz,e8]|intro _)
      all_goals (refine EO (pre:=[_]) (z D) (F _ _ _) ?_;simp only[push_cast,rq,f])
      repeat' (first|(first|((first|apply Ai|apply Am|apply Al)<;>intro _h)|refine Ab g ?_)<;>simp only[push_cast,rq,f,Ae p (dn:=dn) (by omega),qz]|intro _)
      all_goals (first|(subst e;refine Aw (by simp[get]) ?_;first|exact CM|exact EF (v _ _))|exact⟨_,_,Ab4 _,Ag.dropM (by simp[lk]) (Ab6 _),dn++[p],a,_,_,by simp,rfl,by rw[o,q1];exact e,by omega,rfl⟩|exact⟨_,_,Ab4 _,Ag.drop1 (by simp[lk,f]) (Ab6 _),dn++[p],a,_,_,by simp,rfl,by rw[o,q1];exact e,by omega,rfl⟩|skip)
    .rw[e8] at e;simp only[bq,AbA,Ab9,rn] at e;simp only[push_cast,rq,u,kB];repeat' (first|(first|((first|apply Ai|apply Am|apply Al)<;>intro _h)|refine Ab s ?_|refine Ab g ?_)<;>simp only[push_cast,rq,_h,rn,e8]|intro _)
     all_goals (first|(subst e;refine Aw (by simp[get]) ?_;first|exact CM|exact EF (v _ _))|exact⟨_,_,Ab4 _,Ag.dropM (by simp[lk]) (Ab6 _),dn++[p],a,_,_,by simp,rfl,by rw[o,q1];exact e,by omega,rfl⟩|exact⟨_,_,Ab4 _,Ag.drop1 (by simp[lk,f]) (Ab6 _),dn++[p],a,_,_,by simp,rfl,by rw[o,q1];exact e,by omega,rfl⟩|skip)
  .have t:(p.kind==11)=false:=by simpa using kB
   have B:(p.kind !=11)=true:=by simp[bne,t]
   rcases Ay8 (AI p.kind) with T|T
   .have ⟨q1,q10,_,_⟩:=m7 T;have z:=fun(D:d<8)=>Aeb O p (d+1) c E id (by omega) (λx F l=>U x.2 (d+1) _ l id (by have:=B7 F;omega) (by have:=B7 F;omega) (by omega) (by omega));clear J U;rw[Ad.enc_eq] at z;rw[T] at g e;simp only[bq,AbA,Ab9,q1,q10,t] at e;generalize p.fieldsB=K at *;generalize Ey p.cases p.kind (d+1) c p.cases.length [] E=R at *;have ⟨rb,rl⟩:=R;cases K
    .simp only[bq,AbA] at e;simp only[push_cast,rq,u];repeat' (first|(first|((first|apply Ai|apply Am|apply Al)<;>intro _h)|refine Ab s ?_|refine Ab g ?_)<;>simp only[push_cast,rq]|intro _)
     all_goals (first|(subst e;refine Aw (by simp[get]) ?_;first|exact CM|exact EF (v _ _))|exact⟨_,_,Ab4 _,Ag.dropM (by simp[lk]) (Ab6 _),dn++[p],a,_,_,by simp,rfl,by rw[o,q1];exact e,by omega,rfl⟩|exact⟨_,_,Ab4 _,Ag.drop1 (by simp[lk,f]) (Ab6 _),dn++[p],a,_,_,by simp,rfl,by rw[o,q1];exact e,by omega,rfl⟩|skip)
    .rcases D with⟨D,e8⟩|e8
     .simp only[bq,Ab9,e8] at e;cases rb
      .simp only  at e;simp only[push_cast,rq,u];repeat' (first|(first|((first|apply Ai|apply Am|apply Al)<;>intro _h)|refine Ab s ?_|refine Ab g ?_)<;>simp only[push_cast,rq,_h,r,y,q1,q10,t,e8]|intro _)
       all_goals (refine EO (pre:=[_]) (z D) (F _ _ _) ?_;simp only[push_cast,rq])
       repeat' (first|(((first|apply Ai|apply Am|apply Al)<;>intro _h)<;>simp only[push_cast,rq,_h,u,A,r,v,f,Ae p (dn:=dn) (by omega),y,q1,q10,t,B,rn,qz,e8])|intro _)
       all_goals (first|(subst e;refine Aw (by simp[get]) ?_;first|exact CM|exact EF (v _ _))|exact⟨_,_,Ab4 _,Ag.dropM (by simp[lk]) (Ab6 _),dn++[p],a,_,_,by simp,rfl,by rw[o,q1];exact e,by omega,rfl⟩|exact⟨_,_,Ab4 _,Ag.drop1 (by simp[lk,f]) (Ab6 _),dn++[p],a,_,_,by simp,rfl,by rw[o,q1];exact e,by omega,rfl⟩|skip)
      .simp only  at e;rcases Ay8 (p.name==[]) with w|w
       .simp only[bq,Ab9,w] at e;simp only[push_cast,rq,u];repeat' (first|(first|((first|apply Ai|apply Am|apply Al)<;>intro _h)|refine Ab s ?_|refine Ab g ?_)<;>simp only[push_cast,rq,_h,r,y,q1,q10,t,e8]|intro _)
        all_goals (refine EO (pre:=[_]) (z D) (F _ _ _) ?_;simp only[push_cast,rq,f,Ae p (dn:=dn) (by omega),B,w])
        repeat' (first|(((first|apply Ai|apply Am|apply Al)<;>intro _h)<;>simp only[push_cast,rq,_h,u,A,r,v,f,Ae p (dn:=dn) (by omega),y,q1,q10,t,B,rn,qz,e8,w])|intro _)
        all_goals (first|(subst e;refine Aw (by simp ) ?_;first|exact CM|exact EF (v _ _))|exact⟨_,_,Ab4 _,Ag.dropM (by simp[lk]) (Ab6 _),dn++[p],a,_,_,by simp,rfl,by grind,by omega,rfl⟩|exact⟨_,_,Ab4 _,Ag.drop1 (by simp[lk,f]) (Ab6 _),dn++[p],a,_,_,by simp,rfl,by rw[o,q1];exact e,by omega,rfl⟩|skip)
       .simp only[bq,AbA,w] at e;rcases Hu p.name rl with⟨_,hpu,i,h2,h3⟩|⟨_,hpu,h2⟩
        .rw[hpu] at e;simp only[push_cast,rq,u];repeat' (first|(first|((first|apply Ai|apply Am|apply Al)<;>intro _h)|refine Ab s ?_|refine Ab g ?_)<;>simp only[push_cast,rq,_h,r,y,q1,q10,t,e8]|intro _)
         all_goals (refine EO (pre:=[_]) (z D) (F _ _ _) ?_;simp only[push_cast,rq,r,f,Ae p (dn:=dn) (by omega),B,w,h2,h3])
         repeat' (first|(((first|apply Ai|apply Am|apply Al)<;>intro _h)<;>simp only[push_cast,rq,_h,u,A,r,v,f,Ae p (dn:=dn) (by omega),y,q1,q10,t,B,rn,qz,e8,w,h2,h3])|intro _)
         all_goals (first|(subst e;refine Aw (by simp ) ?_;first|exact CM|exact EF (v _ _))|exact⟨_,_,Ab4 _,Ag.dropM (by simp[lk]) (Ab6 _),dn++[p],a,_,_,by simp,rfl,by grind,by omega,rfl⟩|exact⟨_,_,Ab4 _,Ag.drop1 (by simp[lk,f]) (Ab6 _),dn++[p],a,_,_,by simp,rfl,by rw[o,q1];exact e,by omega,rfl⟩|skip)
        .rw[hpu] at e;simp only[push_cast,rq,u];repeat' (first|(first|((first|apply Ai|apply Am|apply Al)<;>intro _h)|refine Ab s ?_|refine Ab g ?_)<;>simp only[push_cast,rq,_h,r,y,q1,q10,t,e8]|intro _)
         all_goals (refine EO (pre:=[_]) (z D) (F _ _ _) ?_;simp only[push_cast,rq,r,f,Ae p (dn:=dn) (by omega),B,w,h2,FO])
         repeat' (first|(((first|apply Ai|apply Am|apply Al)<;>intro _h)<;>simp only[push_cast,rq,_h,u,A,r,v,f,Ae p (dn:=dn) (by omega),y,q1,q10,t,B,rn,qz,e8,w,h2,FO])|intro _)
         all_goals (first|(subst e;refine Aw (by simp ) ?_;first|exact CM|exact EF (v _ _))|exact⟨_,_,Ab4 _,Ag.dropM (by simp[lk]) (Ab6 _),dn++[p],a,_,_,by simp,rfl,by grind,by omega,rfl⟩|exact⟨_,_,Ab4 _,Ag.drop1 (by simp[lk,f]) (Ab6 _),dn++[p],a,_,_,by simp,rfl,by rw[o,q1];exact e,by omega,rfl⟩|skip)
     .simp only[bq,AbA,Ab9,e8] at e;simp only[push_cast,rq,u];repeat' (first|(first|((first|apply Ai|apply Am|apply Al)<;>intro _h)|refine Ab s ?_|refine Ab g ?_)<;>simp only[push_cast,rq,_h,q1,q10,t,e8]|intro _)
      all_goals (first|(subst e;refine Aw (by simp[get]) ?_;first|exact CM|exact EF (v _ _))|exact⟨_,_,Ab4 _,Ag.dropM (by simp[lk]) (Ab6 _),dn++[p],a,_,_,by simp,rfl,by rw[o,q1];exact e,by omega,rfl⟩|exact⟨_,_,Ab4 _,Ag.drop1 (by simp[lk,f]) (Ab6 _),dn++[p],a,_,_,by simp,rfl,by rw[o,q1];exact e,by omega,rfl⟩|skip)
   .clear U;rw[T] at g e;generalize p.fieldsB=K at *;cases K
    .simp only[bq,AbA] at e;simp only[push_cast,rq,u];repeat' (first|(first|((first|apply Ai|apply Am|apply Al)<;>intro _h)|refine Ab s ?_|refine Ab g ?_)<;>simp only[push_cast,rq]|intro _)
     all_goals (first|(subst e;refine Aw (by simp[get]) ?_;first|exact CM|exact EF (v _ _))|exact⟨_,_,Ab4 _,Ag.dropM (by simp[lk]) (Ab6 _),dn++[p],a,_,_,by simp,rfl,by rw[o];exact e,by omega,rfl⟩|exact⟨_,_,Ab4 _,Ag.drop1 (by simp[lk,f]) (Ab6 _),dn++[p],a,_,_,by simp,rfl,by rw[o];exact e,by omega,rfl⟩|skip)
    .simp only[bq,Ab9,t] at e;generalize C:BZ a d c (p.kind==1)=G at e;rcases J with⟨e1,hl⟩|⟨q,e1,H,I,hl⟩
     case' inl=>have H:=e1;have I:=e1
     all_goals rw[hl] at e
     all_goals rcases Ay8 (p.name==[]) with w|w
     .simp only[bq,Ab9,w] at e;skip;simp only[push_cast,rq,u];repeat' (first|(first|((first|apply Ai|apply Am|apply Al)<;>intro _h)|refine Ab s ?_|refine Ab g ?_)<;>simp only[push_cast,rq,_h,u,A,r,v,f,Ae p (dn:=dn) (by omega),y,t,B,rn,qz,e1,H,I,w]|intro _)
      all_goals (try simp only[AsZ,Ay9] at *)
      all_goals (try simp only[*,bq,AbA,Ab9] at e)
      all_goals (first|(subst e;refine Aw (by simp[get]) ?_;first|exact CM|exact EF (v _ _))|exact⟨_,_,Ab4 _,Ag.dropM (by simp[lk]) (Ab6 _),dn++[p],a,_,_,by simp,rfl,by rw[o,C];exact e,by omega,rfl⟩|exact⟨_,_,Ab4 _,Ag.drop1 (by simp[lk,f]) (Ab6 _),dn++[p],a,_,_,by simp,rfl,by rw[o,C];exact e,by omega,rfl⟩|skip)
     .rcases Hu p.name E with⟨_,hpu,i,h2,h3⟩|⟨_,hpu,h2⟩
      all_goals simp only[bq,AbA,w,hpu] at e
      .skip;simp only[push_cast,rq,u];repeat' (first|(first|((first|apply Ai|apply Am|apply Al)<;>intro _h)|refine Ab s ?_|refine Ab g ?_)<;>simp only[push_cast,rq,_h,u,A,r,v,f,Ae p (dn:=dn) (by omega),y,t,B,rn,qz,e1,H,I,w,h2,h3]|intro _)
       all_goals (try simp only[AsZ,Ay9] at *)
       all_goals (try simp only[*,bq,AbA,Ab9] at e)
       all_goals (first|(subst e;refine Aw (by simp[get]) ?_;first|exact CM|exact EF (v _ _))|exact⟨_,_,Ab4 _,Ag.dropM (by simp[lk]) (Ab6 _),dn++[p],a,_,_,by simp,rfl,by rw[o,C];exact e,by omega,rfl⟩|exact⟨_,_,Ab4 _,Ag.drop1 (by simp[lk,f]) (Ab6 _),dn++[p],a,_,_,by simp,rfl,by rw[o,C];exact e,by omega,rfl⟩|skip)
      .skip;simp only[push_cast,rq,u];repeat' (first|(first|((first|apply Ai|apply Am|apply Al)<;>intro _h)|refine Ab s ?_|refine Ab g ?_)<;>simp only[push_cast,rq,_h,u,A,r,v,f,Ae p (dn:=dn) (by omega),y,t,B,rn,qz,e1,H,I,w,h2,FO]|intro _)
       all_goals (try simp only[AsZ,Ay9] at *)
       all_goals (try simp only[*,bq,AbA,Ab9] at e)
       all_goals (first|(subst e;refine Aw (by simp[get]) ?_;first|exact CM|exact EF (v _ _))|exact⟨_,_,Ab4 _,Ag.dropM (by simp[lk]) (Ab6 _),dn++[p],a,_,_,by simp,rfl,by rw[o,C];exact e,by omega,rfl⟩|exact⟨_,_,Ab4 _,Ag.drop1 (by simp[lk,f]) (Ab6 _),dn++[p],a,_,_,by simp,rfl,by rw[o,C];exact e,by omega,rfl⟩|skip)
     .simp only[bq,Ab9,w] at e;skip;simp only[push_cast,rq,u];repeat' (first|(first|((first|apply Ai|apply Am|apply Al)<;>intro _h)|refine Ab s ?_|refine Ab g ?_)<;>simp only[push_cast,rq,_h,u,A,r,v,f,Ae p (dn:=dn) (by omega),y,t,B,rn,qz,e1,H,I,w]|intro _)
      all_goals (try simp only[AsZ,Ay9] at *)
      all_goals (try simp only[*,bq,AbA,Ab9] at e)
      all_goals (first|(subst e;refine Aw (by simp[get]) ?_;first|exact CM|exact EF (v _ _))|exact⟨_,_,Ab4 _,Ag.dropM (by simp[lk]) (Ab6 _),dn++[p],a,_,_,by simp,rfl,by rw[o,C];exact e,by omega,rfl⟩|exact⟨_,_,Ab4 _,Ag.drop1 (by simp[lk,f]) (Ab6 _),dn++[p],a,_,_,by simp,rfl,by rw[o,C];exact e,by omega,rfl⟩|skip)
     .rcases Hu p.name E with⟨_,hpu,i,h2,h3⟩|⟨_,hpu,h2⟩
      all_goals simp only[bq,AbA,w,hpu] at e
      .skip;simp only[push_cast,rq,u];repeat' (first|(first|((first|apply Ai|apply Am|apply Al)<;>intro _h)|refine Ab s ?_|refine Ab g ?_)<;>simp only[push_cast,rq,_h,u,A,r,v,f,Ae p (dn:=dn) (by omega),y,t,B,rn,qz,e1,H,I,w,h2,h3]|intro _)
       all_goals (try simp only[AsZ,Ay9] at *)
       all_goals (try simp only[*,bq,AbA,Ab9] at e)
       all_goals (first|(subst e;refine Aw (by simp[get]) ?_;first|exact CM|exact EF (v _ _))|exact⟨_,_,Ab4 _,Ag.dropM (by simp[lk]) (Ab6 _),dn++[p],a,_,_,by simp,rfl,by rw[o,C];exact e,by omega,rfl⟩|exact⟨_,_,Ab4 _,Ag.drop1 (by simp[lk,f]) (Ab6 _),dn++[p],a,_,_,by simp,rfl,by rw[o,C];exact e,by omega,rfl⟩|skip)
      .skip;simp only[push_cast,rq,u];repeat' (first|(first|((first|apply Ai|apply Am|apply Al)<;>intro _h)|refine Ab s ?_|refine Ab g ?_)<;>simp only[push_cast,rq,_h,u,A,r,v,f,Ae p (dn:=dn) (by omega),y,t,B,rn,qz,e1,H,I,w,h2,FO]|intro _)
       all_goals (try simp only[AsZ,Ay9] at *)
       all_goals (try simp only[*,bq,AbA,Ab9] at e)
       all_goals (first|(subst e;refine Aw (by simp[get]) ?_;first|exact CM|exact EF (v _ _))|exact⟨_,_,Ab4 _,Ag.dropM (by simp[lk]) (Ab6 _),dn++[p],a,_,_,by simp,rfl,by rw[o,C];exact e,by omega,rfl⟩|exact⟨_,_,Ab4 _,Ag.drop1 (by simp[lk,f]) (Ab6 _),dn++[p],a,_,_,by simp,rfl,by rw[o,C];exact e,by omega,rfl⟩|skip)
end Go.Ir

namespace Go.Ir
open Go.Proofs
variable{P:Program}{O:World}{nt n:Nat}{Q:Exit→St→Prop}{env:BB}{σ:Aq}
end Go.Ir

namespace Go.Ir
open Go.Proofs
variable(O:World)
def GT:Aa->Aa
 | []=>[]
 | c::s=>(if T8 c.toNat then[92,c] else[c])++GT s
end Go.Ir
section
namespace Go.Ir
open Go.Proofs
variable(O:World)
def Ve(k:Int):Aa:=
 if k==3 then[110,117,109,98,101,114] else if k==4 then[117,110,105,116] else if k==5 then[100,97,116,101] else if k==6 then[108,105,115,116]
 else if k==7 then[112,108,117,114,97,108] else if k==8 then[111,114,100,105,110,97,108] else[115,101,108,101,99,116]
theorem NR k:(Ve k).length<=7:=by
 unfold Ve;repeat' split
 all_goals simp
theorem Th s:(GT s).length<=2*s.length:=by
 induction s with
 | nil=>simp[GT]
 | cons c s a=>rw[GT];split<;>simp<;>omega
def AcG(p:Ad):Aa:=[123]++p.name++[44]++[32]++Ve p.kind
def AdP(p:Ad):Aa:=if p.style==[] then[] else[44]++[32]++p.style
def Aeo(p:Ad):Aa:=if AI p.kind then[44] else[]
mutual
def Ad.textB:Ad->Aa
 | ⟨k,t,a,st,cs,ps⟩=>
  if k==1 then GT t
  else if k==10 then[35]
  else if k==11 then(if ps.isEmpty then[60]++a++[47,62] else[60]++a++[62]++F3 ps++[60,47]++a++[62])
  else if k==2 then[123]++a++[125]
  else if decide (k>=3)&&decide (k<=9) then AcG ⟨k,t,a,st,cs,ps⟩++AdP ⟨k,t,a,st,cs,ps⟩++Aeo ⟨k,t,a,st,cs,ps⟩++HV cs++[125]
  else[]
def F3:List Ad->Aa
 | []=>[]
 | p::ps=>p.textB++F3 ps
def HV:List (Aa×List Ad)->Aa
 | []=>[]
 | (key,ps)::cs=>[32]++key++[32]++[123]++F3 ps++[125]++HV cs
end
theorem Ad.textB_eq(p:Ad):p.textB=(if p.kind==1 then GT p.text
  else if p.kind==10 then[35]
  else if p.kind==11 then(if p.parts.isEmpty then[60]++p.name++[47,62] else[60]++p.name++[62]++F3 p.parts++[60,47]++p.name++[62])
  else if p.kind==2 then[123]++p.name++[125]
  else if decide (p.kind>=3)&&decide (p.kind<=9) then AcG p++AdP p++Aeo p++HV p.cases++[125]
  else[]):=by cases p;simp only[Ad.textB]
theorem TT p ps:F3 (p::ps)=p.textB++F3 ps:=by simp only[F3]
theorem UU(c:AD)(cs:List AD):HV (c::cs)=[32]++c.1++[32]++[123]++F3 c.2++[125]++HV cs:=by have ⟨k,q⟩:=c;simp only[HV]
end Go.Ir
end
namespace Go.Proofs
open Go.Shelf
def Tryz.lays169_ren:Go.Shelf.Ren:=⟨fun|169=>60|n=>n,fun|70=>131|9=>9|0=>0|72=>134|37=>132|127=>176|3=>3|5=>5|n=>n,fun|n=>n⟩
theorem Tryz.lays169:Go.Proofs.Lays.n169 Tryz.prog Tryz.lays169_ren:=by constructor;all_goals intros;kernel_rfl
end Go.Proofs
namespace Go.Ir
open Go.Proofs Go.RowKit
theorem Hr:Go.Proofs.Builder.Extra π Tryz.lays169_ren where
 sizeBuilder:=by kernel_rfl
 liesBuilder:=by kernel_rfl
 t5:=Tryz.underlying5
 a5:=Tryz.isAgg5
 z5:=Tryz.sizeOf5
 v5:=Tryz.zeroValue5
 infoByte:=by kernel_rfl
 cellsByte:=by kernel_rfl
 sizeByte:=by kernel_rfl
 neB5:=by decide
theorem jI(b:Nat)(w:World)(a:w.cell? ⟨b,0,none⟩=some (.pointer (some ⟨b,0,none⟩))) :
  Calls Tryz.prog 167 #[.pointer (some ⟨b,0,none⟩)] w λe w'=>e=.returned (.tuple #[])/\w'=w:=by
 have ⟨j,hj,_⟩:=Afo.1 Hr.sizeBuilder
 go_enter Tryz.func167,Tryz.ntmps167
 go_wp2
 rw[Lib.run_neq_ptr_same w _ Tryz.underlying131 hj]
 go_wp2
 go_end0
 exact⟨rfl,rfl⟩
theorem cN(b:Nat)(w:World)(d:w.cell? ⟨b,0,none⟩=some (.pointer none))(a:w.shape? b=some (134,2))(c:w.frozen? ⟨b,0,none⟩=false) :
  Calls Tryz.prog 167 #[.pointer (some ⟨b,0,none⟩)] w λe w'=>e=.returned (.tuple #[])/\w'=w.setCell ⟨b,0,none⟩ (.pointer (some ⟨b,0,none⟩)):=by
 have ⟨j,hj,hjs⟩:=Afo.1 Hr.sizeBuilder
 go_enter Tryz.func167,Tryz.ntmps167
 go_wp2
 rw[Lib.run_to_unsafe w ⟨b,0,none⟩ Tryz.underlying131 Tryz.underlying298 hj (by rw[hjs];decide) a (Nat.zero_lt_succ 1)];simp only[Result.andThen];rw[A1z]
 go_wp2
 rw[run_callFunc_extern Tryz.func215 (by kernel_rfl) (by kernel_rfl) (by kernel_rfl) (e:=Extern.AbiNoEscape.same) (by kernel_rfl),Lib.run_noEscape];simp only[Result.andThen];rw[A1z]
 go_wp2
 rw[Lib.run_from_unsafe w ⟨b,0,none⟩ Tryz.underlying298 Tryz.underlying131 hj a Hr.liesBuilder];simp only[Result.andThen];rw[A1z]
 go_wp2
 go_end0
 exact⟨rfl,rfl⟩
theorem bQ(B b:Nat)(d:List Value)(w:World)(h:Lib.IsBuilder 134 5 B b d w) :
  Calls Tryz.prog 167 #[.pointer (some ⟨b,0,none⟩)] w λe w'=>e=.returned (.tuple #[])/\(Lib.BuilderAt 134 5 B b (.pointer (some ⟨b,0,none⟩)) d w'/\Below B w w'):=by
 rcases h with h|h
 .refine(cN b w h.cell0 h.shape h.frozen0).mono λe w' ⟨a,c⟩=>?_;subst c;exact⟨a,h.used _,(AyF B w).setCell (p:=⟨b,0,none⟩) h.1 _⟩
 .refine(jI b w h.cell0).mono λe w' ⟨a,c⟩=>?_;subst c;exact⟨a,h,AyF _ _⟩
theorem Ns(B b:Nat)(q:List Value)(c:Int)(w:World)(h:Lib.IsBuilder 134 5 B b q w)(A:q.length+1<=140737488355328)(D:B<=w.heap.size) :
  Calls Tryz.prog 123 #[.pointer (some ⟨b,0,none⟩),.int .u8 c] w λe w'=>e=.returned .nilIface/\(Lib.BuilderAt 134 5 B b (.pointer (some ⟨b,0,none⟩)) (q++[.int .u8 c]) w'/\Below B w w'):=by
 have ⟨i0,hi,hz0,hz1,hz2⟩:=info_parts Hr.infoByte;have x:∀args w,(callFunc 167 args).run Tryz.prog w=.ok (.enter 167 args) w:=enters_of Tryz.func167 (by kernel_rfl) rfl
 go_enter Tryz.func123,Tryz.ntmps123
 go_wp2_with (go_at_fn 167;refine(bQ B b q _ h).mono ?_)
 rintro e r ⟨rfl,⟨hB,v,m,o,z⟩,i⟩;have G:r.cell? ⟨b,0,none⟩=some (.pointer (some ⟨b,0,none⟩)):=by rw[Lib.cell_of_heap m];rfl
 have c1:r.cell? ⟨b,1,none⟩=some v:=by rw[Lib.cell_of_heap m];rfl
 go_wp2_with (at_builtin;refine wpList_append_own _ rfl _ _ 132 rfl B 5 i0 (.int .u8 0) 1 1 Tryz.underlying132 hi hz0 hz1 hz2 rfl (by decide) _ _ _ rfl (o.alloc _) ⟨r.heap.size,0,none⟩ 1 1 [.int .u8 c] rfl rfl ?c1 ?c2 ?c3 ?c4 ?c5 ?_)
 case c1=>
  intro j u s
  match j,s with
  | 0,s=>simp at s;subst s;simp[Addr.add]
 case c2=>intro u C;simp at C;subst C;rfl
 case c3=>unfold maxLen;omega
 case c4=>omega
 case c5=>have:=i.size;simp;omega
 intro F t d a _;have y:b<r.heap.size:=(AuO.1 m).1;have l:t.heap[b]?=some (.cells #[.pointer (some ⟨b,0,none⟩),v] 134 (0,0)):=by rw[a.block b (by simp;omega) (λe=>z e.symm),Lib.alloc_old r _ b y];exact m
 have H:t.cell? ⟨b,0,none⟩=some (.pointer (some ⟨b,0,none⟩)):=by rw[Lib.cell_of_heap l];rfl
 have I:t.cell? ⟨b,1,none⟩=some v:=by rw[Lib.cell_of_heap l];rfl
 have J:t.frozen? ⟨b,1,none⟩=false:=Lib.frozen_of_heap l 1;obtain⟨g,f,rfl⟩:∃g f,F=.slice (some ⟨g,0,none⟩) (q.length+1) f:=by
  rcases d.2 with⟨_,h0⟩|⟨g,f,cur,hv,_⟩
  .omega
  .exact⟨g,f,hv⟩
 go_wp2
 go_ret
 exact⟨rfl,Lib.BuilderAt.put (T:=134) (e:=5) hB l (bs':=q++[.int .u8 c]) (by simpa using d) (by decide),((i.alloc (by have:=i.size;omega) _).grown a (by have:=i.size;simp;omega) (λk E=>(o.lt k E).1)).setCell (p:=⟨b,1,none⟩) hB _⟩
theorem WC B b l w (h:Lib.IsBuilder 134 5 B b (Lib.byteCells l) w)(a:B<=w.heap.size) :
  Calls Tryz.prog 60 #[.pointer (some ⟨b,0,none⟩)] w λe w'=>e=.returned (.string ⟨l.toArray⟩)/\Below B w w':=
 Any.Builder_String_any Tryz.lays169 Hr B b l w h a
theorem Ph{P:Program}{f:FuncId}{args:List V}{v:V}{a:List Value}{w:World}(h:Ak P w f args [] v [])(j:VRels (λ_=>none) (λ_=>none) args a) :
  Calls P f a.toArray w λe w'=>∃val μ H,e=.returned val/\Ap μ H v val/\Below w.heap.size w w':=by
 have hp:Hp w [] 0 (λ_=>none) (λ_=>none) w:=
  {base:=AyF _ _
   pins:=λ_ _ h=>by cases h
   ents:=λ_ _ h=>by cases h
   unp:=λ_ ⟨_,_,h,_⟩=>by cases h
   sep:=λ_ _ _ _ _ h=>by cases h
   bd:=λ_ _=>rfl }
 refine(h.run 0 w _ _ a hp j).mono λe w' ⟨val,c,d,n',g,i,b,_⟩=>⟨val,c,d,g,i,b.base⟩
theorem Po(c:UInt8) w:Calls Tryz.prog 122 #[.int .u8 c.toNat] w λe w'=>e=.returned (.bool (T8 c.toNat))/\w'=w:=by
 go_enter Tryz.func122,Tryz.ntmps122
 go_wp2
 all_goals (go_ret;exact⟨by simp[T8, *],rfl⟩)
theorem qQ(s:Aa)(z:s.length<=2^26)(w:World):Calls Tryz.prog 91 #[.string ⟨s.toArray⟩] w λe w'=>e=.returned (.string ⟨(GT s).toArray⟩)/\Below w.heap.size w w':=by
 go_enter Tryz.func91,Tryz.ntmps91
 go_wp2
 go_loopw [7] (λi wr=>∃(dn a b:Aa),dn++a=s/\i=.int .i64 dn.length/\Lib.IsBuilder 134 5 w.heap.size w.heap.size (Lib.byteCells b) wr/\Below w.heap.size w wr/\b++GT a=GT s/\b.length<=2*dn.length) (λi _=>s.length-(RowKit.intOf i).toNat)
 case atStart=>refine⟨[],s,[],rfl,rfl,Lib.fresh_isBuilder _ _ _,(AyF _ w).alloc (Ab6 _) _,rfl,by simp⟩
 case round=>
  have ⟨dn,a,b,hz,hi,hI,hbw,hacc,hal⟩:=hrel;subst hi;have f:s.length=dn.length+a.length:=by rw[<-hz];simp
  cases a with
  | nil=>
   have d:decide (dn.length<s.length)=false:=by simp at f⊢;omega
   have j:¬dn.length<s.length:=by simpa using d
   clear f
   go_wp2_with (go_at_call 60;refine(WC w.heap.size w.heap.size b _ hI hbw.size).mono ?_)
   rintro e t ⟨rfl,o⟩
   go_wp2
   go_ret
   rw[GT,At9] at hacc;rw[<-hacc];exact⟨rfl,hbw.trans o⟩
  | cons c a=>
   have v:∀args w,(callFunc 122 args).run Tryz.prog w=.ok (.enter 122 args) w:=enters_of Tryz.func122 (by kernel_rfl) rfl;have x:∀args w,(callFunc 123 args).run Tryz.prog w=.ok (.enter 123 args) w:=enters_of Tryz.func123 (by kernel_rfl) rfl;have d:decide (dn.length<s.length)=true:=by simp at f⊢;omega
   have j:dn.length<s.length:=by simpa using d
   have m:b.length+2<=2^28/\dn.length<2^26:=by simp at f;omega
   have ⟨m,hld⟩:=m;clear f;have r:RowKit.wrap64 ((dn.length:Int)+1)=(dn.length:Int)+1:=by unfold RowKit.wrap64;omega
   have y:∀h,(⟨s.toArray⟩:ByteArray)[dn.length]'h=c:=by subst hz;intro h;show(dn++c::a).toArray[dn.length]=c;simp
   go_wp2_with (go_at_call 122;refine(Po _ _).mono ?_)
   rintro e t ⟨rfl,rfl⟩;by_cases g:T8 c.toNat=true
   .rw[g]
    go_wp2_with (go_at_call 123;refine(Ns w.heap.size w.heap.size _ 92 _ hI (by rw[Lib.byteCells_length];omega) hbw.size).mono ?_)
    rintro e u ⟨rfl,l,k⟩
    go_wp2_with (go_at_call 123;refine(Ns w.heap.size w.heap.size _ _ _ (.inr l) (by simp[Lib.byteCells_length];omega) (by have:=hbw.size;have:=k.size;omega)).mono ?_)
    rintro e A ⟨rfl,q,p⟩
    go_wp2
    go_roundw
    case rel=>
     refine⟨dn++[c],a,b++[92,c],by rw[<-hz];simp,?_,?_,?_,?_,?_⟩
     .simp
     .right;simpa[Lib.byteCells] using q
     .exact(hbw.trans k).trans p
     .rw[<-hacc,GT,g];simp
     .simp;omega
    case measure=>simp at d;simp[RowKit.intOf];omega
   .have g:T8 c.toNat=false:=by simpa using g
    rw[g]
    go_wp2_with (go_at_call 123;refine(Ns w.heap.size w.heap.size _ _ _ hI (by rw[Lib.byteCells_length];omega) hbw.size).mono ?_)
    rintro e u ⟨rfl,l,k⟩
    go_wp2
    go_roundw
    case rel=>
     refine⟨dn++[c],a,b++[c],by rw[<-hz];simp,?_,?_,?_,?_,?_⟩
     .simp
     .right;simpa[Lib.byteCells] using l
     .exact hbw.trans k
     .rw[<-hacc,GT,g];simp
     .simp;omega
    case measure=>simp at d;simp[RowKit.intOf];omega
theorem eS s:(GT s).length<=2*s.length:=by
 induction s with
 | nil=>simp[GT]
 | cons c s a=>rw[GT];split<;>simp<;>omega
theorem eV O (s:Aa)(c:s.length<=2^26):Ak π O 91 [.s s] [] (.s (GT s)) []:=by refine Ba (by kernel_rfl) λw a g ⟨μ,H,d⟩=>?_;obtain⟨rfl,_⟩:=d.one_s;refine(qQ s c w).mono λe w' ⟨b,f⟩=>?_;refine⟨_,b,λ_ _=>.s _ ?_,f⟩;have:=eS s;unfold AG;omega
def Sa(B:Nat)(l:Aa)(wr:World):Prop:=∀j (h:j<l.length),wr.cell? ⟨B,j,none⟩=some (.int .u8 (l[j].toNat:Int))/\wr.frozen? ⟨B,j,none⟩=false
theorem Sa.new(w:World) s:Sa w.heap.size s (w.drew.alloc (.cells (bytesRow ⟨s.toArray⟩ (grownCap w s.length 0 5)) 5 ((bytesRow ⟨s.toArray⟩ (grownCap w s.length 0 5)).size,(bytesRow ⟨s.toArray⟩ (grownCap w s.length 0 5)).size+1))):=by
 intro j h;have a:w.drew.heap.size=w.heap.size:=rfl;rw[<-a,World.cell?_alloc_mark,World.frozen?_alloc_mark,bytesRow_at _ _ _ (by simpa using h)];refine⟨by simp,?_⟩;have:j<(bytesRow ⟨s.toArray⟩ (grownCap w s.length 0 5)).size:=by unfold bytesRow;simp;omega
 simp;omega
theorem Sa.set{B p post c wr}(h:Sa B (p++[c]++post) wr)(d:UInt8):Sa B (p++[d]++post) (wr.setCell ⟨B,p.length,none⟩ (.int .u8 (d.toNat:Int))):=by
 intro j e;have a:j<(p++[c]++post).length:=by simp at e⊢;omega
 have ⟨h1,h2⟩:=h j a;rw[World.frozen?_setCell];refine⟨?_,h2⟩;by_cases b:j=p.length
 .subst b;rw[World.cell?_setCell_same' _ _ _ (by rw[h1];rfl)];simp
 .rw[World.cell?_setCell_other wr ⟨B,p.length,none⟩ ⟨B,j,none⟩ _ (by grind),h1];grind
theorem Sa.back{B n l wr}(h:Sa B l wr)(c:l.length=n) a:(convert 132 9 (.slice (some ⟨B,0,none⟩) n a)).run Tryz.prog wr=.ok (.string ⟨l.toArray⟩) wr:=by subst c;exact run_convert_bytes_back (P:=Tryz.prog) wr 132 9 5 ⟨B,0,none⟩ a l Tryz.underlying132 Tryz.underlying5 Tryz.underlying9 (λj b=>by have:=(h j b).1;unfold Addr.add;split<;>simp_all)
theorem lX:J6 []=[49]:=rfl
theorem AkT p:J6 (p++[57])=J6 p++[48]:=by unfold J6;rw[List.reverse_append];show(MF (57::p.reverse)).reverse=_;rw[MF];simp
theorem Ak0 p (c:UInt8)(h:(c==57)=false):J6 (p++[c])=p++[c+1]:=by unfold J6;rw[List.reverse_append];show(MF (c::p.reverse)).reverse=_;rw[MF,h];simp
theorem fX(s:Aa)(y:s.length<=2^26)(w:World):Calls Tryz.prog 199 #[.string ⟨s.toArray⟩] w λe w'=>e=.returned (.string ⟨(J6 s).toArray⟩)/\Below w.heap.size w w':=by
 have k:=fun(w:World) (s:ByteArray)=>run_bytes_of_string (P:=Tryz.prog) w 9 132 5 s Tryz.underlying9 Tryz.underlying132 Tryz.underlying5;have q:RowKit.wrap64 ((s.length:Int)-1)=(s.length:Int)-1:=by unfold RowKit.wrap64;omega
 go_enter Tryz.func199,Tryz.ntmps199
 go_wp2
 go_loopw [4] (λi wr=>∃(pre post:Aa),pre.length+post.length=s.length/\i=.int .i64 ((pre.length:Int)-1)/\Sa w.heap.size (pre++post) wr/\Below w.heap.size w wr/\J6 pre++post=J6 s) (λi _=>(RowKit.intOf i+1).toNat)
 case atStart=>refine⟨s,[],by simp,by rw[<-q],by rw[At9];exact Sa.new w s,((AyF _ w).alloc (Ab6 _) _).drew,At9 _⟩
 case round=>
  have ⟨pre,post,hz,hi,hrow,hbw,hd⟩:=hrel;subst hi;rcases Ay5 pre with rfl|⟨p,c,rfl⟩
  .have f:=hrow.back (by simpa using hz) (grownCap w s.length 0 5)
   go_wp2
   go_ret
   refine⟨?_,hbw⟩;rw[<-hd,lX];rfl
  .simp only[Azh,Ajd,An9,AtX] at *;have m:((p.length+(0+1):Nat):Int)-1=(p.length:Int):=by omega
   rw[m];have j:=hrow p.length (by simp);have b:((p++[c])++post)[p.length]'(by simp)=c:=by simp
   rw[b] at j;have ⟨c0,f0⟩:=j;have v:(p.length:Int)<(s.length:Int):=by omega
   have r:p.length<s.length:=by omega
   have o:(p++[c+1]++post).length=s.length:=by simp;omega
   have l:((c+1).toNat:Int)=((c.toNat:Int)+1) % 256:=by simp 
   have f:=(hrow.set (c+1)).back o (grownCap w s.length 0 5);rw[l] at f;have g:=hrow.set 48;have u:((c.toNat:Int) !=57)=!(c==57):=by
    rw[Aym];simp only[bne_iff_ne,AsZ,A1s,ne_eq];constructor
    .rintro h rfl;exact h rfl
    .intro h x;apply h;have t:c.toNat=(57:UInt8).toNat:=by
      have:c.toNat=57:=by omega
      rw[this];rfl
     exact A1y.1 t
   go_wp2
   .have a:(c==57)=false:=by
     have:=‹(!(c==57))=true›;simpa using this
    go_ret
    refine⟨?_,hbw.setCell (p:=⟨w.heap.size,p.length,none⟩) (Ab6 _) _⟩;rw[<-hd,Ak0 p c a];simp
   .have a:(c==57)=true:=by
     have:=‹(!(c==57))=false›;simpa using this
    have d:c=57:=by simpa using a
    subst d;rw[AkT] at hd;refine⟨⟨p,48::post,by simp;omega,rfl,?_,hbw.setCell (p:=⟨w.heap.size,p.length,none⟩) (Ab6 _) _,by rw[<-hd];simp⟩,by simp only[RowKit.intOf];omega⟩;simpa using g
theorem fJ l:(MF l).length<=l.length+1:=by
 induction l with
 | nil=>simp[MF]
 | cons c l a=>rw[MF];split<;>simp;omega
theorem Aj0 O(s:Aa)(g:s.length<=2^20):Ak π O 199 [.s s] [] (.s (J6 s)) []:=by refine Ba (by kernel_rfl) λw a f ⟨μ,H,c⟩=>?_;obtain⟨rfl,_⟩:=c.one_s;refine(fX s (by omega) w).mono λe w' ⟨b,d⟩=>?_;refine⟨_,b,λ_ _=>.s _ ?_,d⟩;have:=fJ s.reverse;unfold J6 AG;simp at this⊢;omega
end Go.Ir
namespace Go.Proofs
open Go.Shelf
def Tryz.lays150_ren:Go.Shelf.Ren:=⟨fun|150=>242|153=>268|152=>258|226=>284|227=>186|228=>224|137=>216|119=>276|224=>222|225=>221|217=>220|266=>255|n=>n,fun|9=>9|4=>4|3=>3|5=>5|21=>21|117=>275|116=>274|0=>0|46=>205|124=>278|n=>n,fun|n=>n⟩
theorem Tryz.lays150:Go.Proofs.Lays.n150 Tryz.prog Tryz.lays150_ren:=by constructor;all_goals intros;kernel_rfl
end Go.Proofs
namespace Go.Ir
open Go.Proofs Go.RowKit
theorem TD(w:World):Calls Tryz.prog 258 #[.string ⟨#[123,125]⟩,.int .i32 65533] w λe w'=>e=.returned (.int .i64 (-1))/\Below w.heap.size w w':=by
 go_enter Tryz.func258,Tryz.ntmps258
 go_wp2
 go_loopg [5,6,176,177,178,179,180,181] 2 (λg _ _ _ _ _ _ _ _ f=>∃i:Nat,i+g=2/\f=w.iter ⟨#[123,125]⟩ i)
 case atStart=>exact⟨0,rfl,rfl⟩
 case round=>
  obtain⟨i,d,rfl⟩:=hrel;cases gk with
  | zero=>
   obtain rfl:i=2:=by omega
   have a:=run_next_end (P:=Tryz.prog) w ⟨#[123,125]⟩ 2
   go_wp2
   go_ret
   exact⟨rfl,(AyF _ w).alloc (Ab6 _) _⟩
  | succ g=>
   have c:i=0\/i=1:=by omega
   rcases c with rfl|rfl
   .have a:=λb=>run_next_ascii (P:=Tryz.prog) w ⟨#[123,125]⟩ 0 b (by decide) (by decide)
    go_wp2
    go_roundg g
    case measure=>omega
    case rel=>exact⟨1,by omega,rfl⟩
   .have a:=λb=>run_next_ascii (P:=Tryz.prog) w ⟨#[123,125]⟩ 1 b (by decide) (by decide)
    go_wp2
    go_roundg g
    case measure=>omega
    case rel=>exact⟨2,by omega,rfl⟩
theorem U8(r:Int)(g:55296<=r)(h:r<=57343)(w:World):Calls Tryz.prog 258 #[.string ⟨#[123,125]⟩,.int .i32 r] w λe w'=>e=.returned (.int .i64 (-1))/\Below w.heap.size w w':=by
 have a:decide (0<=r)=true:=by simp;omega
 have b:decide (r<128)=false:=by simp;omega
 have c:(r==65533)=false:=by simp;omega
 have d:¬r<55296:=by omega
 have f:¬57343<r:=by omega
 go_enter Tryz.func258,Tryz.ntmps258
 go_wp2
 go_ret
 exact⟨rfl,AyF _ w⟩
theorem O1(r:Int)(h1:128<=r)(hr:r<55296\/57343<r)(h2:r<=1114111)(h3:(r==65533)=false)(w:World):Calls Tryz.prog 258 #[.string ⟨#[123,125]⟩,.int .i32 r] w fun e w'=>e=.returned (.int .i64 (-1))/\Below w.heap.size w w':=by
 have mixed:=Tryz.lays150.mixed
 have g1:decide (0<=r)=true:=by simp;omega
 have g2:decide (r<128)=false:=by simp;omega
 have hv:Utf8.valid r=true:=by
  rw[validRune_eq]
  unfold validRune
  apply decide_eq_true
  omega
 have ⟨f1,f2,f3⟩:=encode_facts r hv h1
 have hcv:=fun(w:World)=>run_convert_int_string (P:=Tryz.prog) w 21 9 .i32 r (by rw[Tryz.underlying21];rfl) Tryz.underlying9
 generalize Utf8.encode r=E at *
 have hw1:RowKit.wrap64 ((E.size:Int)-1)=(E.size:Int)-1:=by unfold RowKit.wrap64;omega
 have hw1':(E.size:Int)-1=((E.size-1:Nat):Int):=by omega
 rw[hw1'] at hw1
 rcases hr with hr|hr
 .go_enter Tryz.func258,Tryz.ntmps258
  go_wp2
  refine wp_scope_straight ?_
  go_wp2
  go_loopw [9] (fun i wr=>i=.int .i64 ((E.size-1:Nat):Int)/\wr=w) (fun _ _=>0)
  case atStart=>exact⟨rfl,rfl⟩
  case round=>
   obtain⟨rfl,rfl⟩:=hrel
   by_cases hs:E.size=2
   .have hs1:E.size-1=1:=by omega
    have ⟨x,hx⟩:∃x,x=E[1]'(by omega):=⟨_,rfl⟩
    have hx2:128<=x.toNat:=by
     have:=f3 (by omega)
     rw[hx];simp only[hs1] at this;exact this
    have g6:(1:Nat)<E.size:=by omega
    have g8:((125:Int) !=(x.toNat:Int))=true:=by simp;omega
    have hib:=fun w=>Any.strings_IndexByte (P:=Tryz.prog) (ρ:=Tryz.lays150_ren) { Tryz.lays150 with } ⟨#[]⟩ (x.toNat:Int) w
    simp only[hs1] at hw1⊢
    go_wp2
    refine wp_scope_straight ?_
    go_wp2
    have hq:(((((⟨#[123,125]⟩:ByteArray)[1]'(by decide)).toNat:Nat):Int) !=(((E[1]'g6).toNat:Nat):Int))=true:=by rw[<-hx];exact g8
    go_region
    go_wp2
    go_region_with (go_at_call 216;refine(Any.strings_IndexByte (P:=Tryz.prog) (ρ:=Tryz.lays150_ren) { Tryz.lays150 with } _ _ _).mono ?_;rintro e w' ⟨rfl,hw⟩;rw[hw])
    go_wp2
    all_goals (simp +zetaDelta only [Exit.noGoto,Exit.inBlock,Exit.then];go_ret;exact⟨rfl,((AyF _ _).drew).drew⟩)
   .have g6:¬E.size-1<2:=by omega
    have g7:decide (((E.size-1:Nat):Int)<2)=false:=by simp;omega
    go_wp2
    simp only[Exit.noGoto]
    go_ret
    exact⟨rfl,AyF _ _⟩
 .have g9:¬r<55296:=by omega
  go_enter Tryz.func258,Tryz.ntmps258
  go_wp2
  refine wp_scope_straight ?_
  go_wp2
  go_loopw [9] (fun i wr=>i=.int .i64 ((E.size-1:Nat):Int)/\wr=w) (fun _ _=>0)
  case atStart=>exact⟨rfl,rfl⟩
  case round=>
   obtain⟨rfl,rfl⟩:=hrel
   by_cases hs:E.size=2
   .have hs1:E.size-1=1:=by omega
    have ⟨x,hx⟩:∃x,x=E[1]'(by omega):=⟨_,rfl⟩
    have hx2:128<=x.toNat:=by
     have:=f3 (by omega)
     rw[hx];simp only[hs1] at this;exact this
    have g6:(1:Nat)<E.size:=by omega
    have g8:((125:Int) !=(x.toNat:Int))=true:=by simp;omega
    have hib:=fun w=>Any.strings_IndexByte (P:=Tryz.prog) (ρ:=Tryz.lays150_ren) { Tryz.lays150 with } ⟨#[]⟩ (x.toNat:Int) w
    simp only[hs1] at hw1⊢
    go_wp2
    refine wp_scope_straight ?_
    go_wp2
    have hq:(((((⟨#[123,125]⟩:ByteArray)[1]'(by decide)).toNat:Nat):Int) !=(((E[1]'g6).toNat:Nat):Int))=true:=by rw[<-hx];exact g8
    go_region
    go_wp2
    go_region_with (go_at_call 216;refine(Any.strings_IndexByte (P:=Tryz.prog) (ρ:=Tryz.lays150_ren) { Tryz.lays150 with } _ _ _).mono ?_;rintro e w' ⟨rfl,hw⟩;rw[hw])
    go_wp2
    all_goals (simp +zetaDelta only [Exit.noGoto,Exit.inBlock,Exit.then];go_ret;exact⟨rfl,((AyF _ _).drew).drew⟩)
   .have g6:¬E.size-1<2:=by omega
    have g7:decide (((E.size-1:Nat):Int)<2)=false:=by simp;omega
    go_wp2
    simp only[Exit.noGoto]
    go_ret
    exact⟨rfl,AyF _ _⟩
theorem VT r (b:128<=r)(c:r<=1114111) w:Calls Tryz.prog 258 #[.string ⟨#[123,125]⟩,.int .i32 r] w λe w'=>e=.returned (.int .i64 (-1))/\Below w.heap.size w w':=by
 by_cases d:r=65533
 .subst d;exact TD w
 .have a:(r==65533)=false:=by simp[d]
  by_cases f:r<55296
  .exact O1 r b (.inl f) c a w
  .by_cases g:57343<r
   .exact O1 r b (.inr g) c a w
   .exact U8 r (by omega) (by omega) w
theorem sM s p (h:128<=(s.get! p).toNat):(Utf8.decode s p).1<=1114111/\∀k,k<(Utf8.decode s p).2->128<=(s.get! (p+k)).toNat:=by
 have a:∀k,(s.get! (p+k)).toNat<256:=λk=>(s.get! (p+k)).toNat_lt;have g:=a 0;have i:=a 1;have j:=a 2;have l:=a 3;have f:¬(s.get! (p+0)).toNat<128:=by rw[A1f];omega
 have m:128<=(s.get! (p+0)).toNat:=by rw[A1f];exact h
 have one:∀k,k<1->128<=(s.get! (p+k)).toNat:=λk e=>by grind
 simp only[Utf8.decode,f,Ab9,Utf8.runeError];split
 .grind
 .split
  .grind
  .split
   .rename_i c;simp only[AaS,AjK] at c;split
    .rename_i d;have b:=d;simp only[Utf8.valid,AaS,AzS,Avv] at b;refine⟨by simp only;omega,λk e=>?_⟩;grind
    .exact⟨by simp,one⟩
   .exact⟨by simp,one⟩
def AoK(s:ByteArray)(i:Nat):Prop:=∀j,j<i->j<s.size->s.get! j≠123/\s.get! j≠125
theorem S5(s:ByteArray)(h8:s.size<=8)(w:World):Calls Tryz.prog 268 #[.string s,.string ⟨#[123,125]⟩] w fun e w'=>(∃v:Int,e=.returned (.int .i64 v)/\((0<=v/\∃j,j<s.size/\(s.get! j=123\/s.get! j=125))\/(v=-1/\AoK s s.size)))/\Below w.heap.size w w':=by
 have mixed:=Tryz.lays150.mixed
 have h8z:decide ((8:Int)<(s.size:Int))=false:=decide_eq_false (by omega)
 have e152:∀args w,(callFunc 258 args).run Tryz.prog w=.ok (.enter 258 args) w:=enters_of Tryz.func258 (by kernel_rfl) rfl
 have L153:Lays.n153 Tryz.prog Tryz.lays150_ren:={ Tryz.lays150 with }
 have e226:∀args w,(callFunc (Tryz.lays150_ren.f 226) args).run Tryz.prog w=.ok (.enter (Tryz.lays150_ren.f 226) args) w:=enters_of L153.f226 (by kernel_rfl) rfl
 go_enter Tryz.func268,Tryz.ntmps268
 go_wp2_with (go_at_call 284;refine(Any.strings_shouldUseASCIISet (P:=Tryz.prog) (ρ:=Tryz.lays150_ren) { Tryz.lays150 with } _ _).mono ?_;rintro e w' ⟨rfl,hw⟩;rw[hw,h8z])
 go_loopw [9,10] (fun _ _ wr=>∃i:Nat,wr.heap[w.heap.size]?=some (.stringIter s i)/\Below w.heap.size w wr/\AoK s i) (fun _ _ wr=>s.size-wr.iterPos w.heap.size)
 case atStart=>exact⟨0,World.iter_heap _ _ _,(AyF _ w).alloc (Ab6 _) _,fun j hj=>by omega⟩
 case round=>
  have ⟨i,hit,hbw,hno⟩:=hrel
  by_cases hi:i<s.size
  .by_cases ha:(s[i]'hi).toNat<128
   .have hnx:=fun ty=>Go.Lib.run_next_ascii_at (P:=Tryz.prog) wr w.heap.size s i ty hit hi ha
    have hg:s.get! i=s[i]'hi:=by
     simp[ByteArray.get!,hi]
     rfl
    have hp1:=Lib.iterAt_heap wr w.heap.size s i (i+1) hit
    have hm:s.size-(wr.iterAt w.heap.size s (i+1)).iterPos w.heap.size<s.size-wr.iterPos w.heap.size:=by
     unfold World.iterPos
     rw[hp1,hit]
     simp only
     omega
    have hb1:=Lib.below_iterAt hbw (k:=w.heap.size) (Ab6 _) s (i+1)
    have Hm:Hid (s.size-(wr.iterAt w.heap.size s (i+1)).iterPos w.heap.size<s.size-wr.iterPos w.heap.size):=hm
    have Hp:Hid ((wr.iterAt w.heap.size s (i+1)).heap[w.heap.size]?=some (.stringIter s (i+1))):=hp1
    clear hm hp1
    generalize s[i]'hi=x at *
    have Hg:Hid (s.get! i=x):=hg
    clear hg
    have hcon:=Lib.contains_iff_indexByte [123,125] x
    have hback:((x.toNat:Int)).toNat.toUInt8=x:=by simp
    cases hin:([123,125]:List UInt8).contains x
    .rw[hin] at hcon
     have hlt:¬((0:Int)<=Lib.indexByte [123,125] x):=AvV hcon.symm
     have Hin:Hid (([123,125]:List UInt8).contains x=false):=hin
     clear hcon hin
     go_wp2_with (go_at_call 258;refine(Any.strings_IndexRune_ascii (P:=Tryz.prog) (ρ:=Tryz.lays150_ren) { Tryz.lays150 with } _ _ _ (by omega) (by omega)).mono ?_;rintro e w' ⟨rfl,hw⟩;rw[hw,hback])
     refine⟨⟨i+1,Hp.out,hb1,fun j hj hjs=>?_⟩,Hm.out⟩
     by_cases he:j=i
     .subst he
      rw[Hg.out]
      have:=Hin.out
      simp at this
      exact this
     .exact hno j (by omega) hjs
    .rw[hin] at hcon
     have hge:(0:Int)<=Lib.indexByte [123,125] x:=Awz hcon.symm
     have Hin:Hid (([123,125]:List UInt8).contains x=true):=hin
     clear hcon hin
     go_wp2_with (go_at_call 258;refine(Any.strings_IndexRune_ascii (P:=Tryz.prog) (ρ:=Tryz.lays150_ren) { Tryz.lays150 with } _ _ _ (by omega) (by omega)).mono ?_;rintro e w' ⟨rfl,hw⟩;rw[hw,hback])
     go_ret
     refine⟨⟨i,rfl,.inl ⟨by omega,i,hi,?_⟩⟩,hb1⟩
     rw[Hg.out]
     have:=Hin.out
     simpa using this
   .have hnx:=fun ty=>Go.Lib.run_next_any_at (P:=Tryz.prog) wr w.heap.size s i ty hit hi
    have hg:s.get! i=s[i]'hi:=by
     simp[ByteArray.get!,hi]
     rfl
    have ⟨d1,d2⟩:=decode_high s i hi (by omega)
    have ⟨d3,d4⟩:=sM s i (by rw[hg];omega)
    generalize hD:Utf8.decode s i=D at *
    have ⟨r,n⟩:=D
    simp only at d1 d2 d3 d4 hnx
    have hp1:=Lib.iterAt_heap wr w.heap.size s i (i+n) hit
    have hsz:=Lib.iterAt_size wr w.heap.size s (i+n)
    have hlt:w.heap.size<wr.heap.size:=(AuO.1 hit).1
    have hb1:=Lib.below_iterAt hbw (k:=w.heap.size) (Ab6 _) s (i+n)
    have Hp:Hid ((wr.iterAt w.heap.size s (i+n)).heap[w.heap.size]?=some (.stringIter s (i+n))):=hp1
    have Hd:Hid (∀k,k<n->128<=(s.get! (i+k)).toNat):=d4
    have Hsz:Hid ((wr.iterAt w.heap.size s (i+n)).heap.size=wr.heap.size):=hsz
    have Hb:Hid (Below w.heap.size w (wr.iterAt w.heap.size s (i+n))):=hb1
    clear hp1 d4 hg ha hD hsz hb1
    go_wp2_with (go_at_call 258;refine(VT (r:Int) (by omega) (by omega) _).mono ?_;rintro e w2 ⟨rfl,hw2⟩)
    have hb2:Below w.heap.size (wr.iterAt w.heap.size s (i+n)) w2:=hw2.mono (by rw[Hsz.out];omega)
    have hp2:w2.heap[w.heap.size]?=some (.stringIter s (i+n)):=by
     rw[hw2.block _ (by rw[Hsz.out];exact hlt)]
     exact Hp.out
    refine⟨⟨i+n,hp2,Hb.out.trans hb2,fun j hj hjs=>?_⟩,?_⟩
    .by_cases he:j<i
     .exact hno j he hjs
     .have:=Hd.out (j-i) (by omega)
      rw[show i+(j-i)=j by omega] at this
      constructor
      .intro h;rw[h] at this;simp at this
      .intro h;rw[h] at this;simp at this
    .unfold World.iterPos
     rw[hp2,hit]
     simp only
     omega
  .have hnx:=fun ty=>Go.Lib.run_next_end_at (P:=Tryz.prog) wr w.heap.size s i ty hit hi
   go_wp2
   go_ret
   exact⟨⟨-1,rfl,.inr ⟨rfl,fun j hj=>hno j (by omega)⟩⟩,hbw⟩
theorem PY s:(∃j,j<(⟨s.toArray⟩:ByteArray).size/\((⟨s.toArray⟩:ByteArray).get! j=123\/(⟨s.toArray⟩:ByteArray).get! j=125))↔GX s=true:=by
 unfold GX;rw[A0z];have d:∀j (h:j<s.length),(⟨s.toArray⟩:ByteArray).get! j=s[j]:=λj h=>by simp[ByteArray.get!,h]
 constructor
 .rintro⟨j,a,h⟩;have b:j<s.length:=by simpa[ByteArray.size] using a
  grind
 .rintro⟨x,c,h⟩;obtain⟨j,a,rfl⟩:=List.getElem_of_mem c;refine⟨j,by simpa[ByteArray.size] using a,?_⟩;grind
theorem tI:∀s:Aa,decide (0<=Lib.indexAny s [123,125])=GX s
 | []=>rfl
 | b::l=>by
  have e:=tI l;have d:=Lib.indexAny_ge [123,125] l;have c:([123,125]:List UInt8).contains b=(b==123||b==125):=by rw[Aym];simp
  have a:GX (b::l)=((b==123||b==125)||GX l):=rfl;rw[Lib.indexAny,c,a,<-e];grind
theorem VJ s (k:s.length<4294967281) w:Calls Tryz.prog 268 #[.string ⟨s.toArray⟩,.string ⟨#[123,125]⟩] w λe w'=>(∃v,e=.returned (.int .i64 v)/\decide (0<=v)=GX s)/\Below w.heap.size w w':=by
 by_cases f:s.length<=8
 .refine(S5 ⟨s.toArray⟩ (by simpa[ByteArray.size] using f) w).mono λe w' ⟨⟨v,c,d⟩,h3⟩=>⟨⟨v,c,?_⟩,h3⟩
  rcases d with⟨h4,h5⟩|⟨rfl,h5⟩
  .rw[(PY s).1 h5];simpa using h4
  .cases g:GX s with
   | false=>rfl
   | true=>have ⟨j,hj,h⟩:=(PY s).2 g;have:=h5 j hj hj;grind
 .have a:(Tryz.prog.info? (Tryz.lays150_ren.t 116)).map (λi=>(i.zero,i.size))=some (some (.agg (Array.replicate 256 (.bool false))),256):=by kernel_rfl
  refine(Any.strings_IndexAny_long (P:=Tryz.prog) (ρ:=Tryz.lays150_ren) { Tryz.lays150 with } (zero_of_info a).1 (zero_of_info a).2 ⟨s.toArray⟩ ⟨#[123,125]⟩ w (by decide) (by simp[ByteArray.size];omega) (by simpa[ByteArray.size] using k) (by decide) (λj b h=>by
   match j with
   | 0=>simp at h;subst h;decide
   | 1=>simp at h;subst h;decide
   | j+2=>simp at h)).mono λe w' ⟨c,d⟩=>⟨⟨_,c,?_⟩,?_⟩
  .exact tI s
  .rw[d];exact((AyF _ _).alloc (Ab6 _) _).alloc (by simp) _
theorem Aeh(s:Aa)(a:s.length<4294967281)(w:World):Calls Tryz.prog 242 #[.string ⟨s.toArray⟩,.string ⟨#[123,125]⟩] w λe w'=>e=.returned (.bool (GX s))/\Below w.heap.size w w':=by
 have c:=VJ s a w
 go_enter Tryz.func242,Tryz.ntmps242
 go_wp2_with (go_at_call 268;refine c.mono ?_;rintro e w' ⟨⟨v,rfl,b⟩,d⟩)
 go_ret
 simp_all
theorem qD O (s:Aa)(k:s.length<=2^31):Ak π O 242 [.s s,.s [123,125]] [] (.b (GX s)) []:=by
 refine Ba (by kernel_rfl) λw a i ⟨μ,H,d⟩=>?_;have c:=d.len;obtain⟨x,y,rfl⟩:∃x y,a=[x,y]:=by
  match a,c with
  | [x,y],_=>exact⟨x,y,rfl⟩
 obtain⟨rfl,j⟩:=Bx (d.at_ 0 _ _ rfl rfl);obtain⟨rfl,g⟩:=Bx (d.at_ 1 _ _ rfl rfl);exact(Aeh s (by omega) w).mono λe w' ⟨f,h⟩=>⟨_,f,λ_ _=>.b _,h⟩
end Go.Ir
section
namespace Go.Ir
open Go.Proofs
variable(O:World)
def F7:List (V×V):=[(.s [110,117,109,98,101,114],.i .i64 3),(.s [117,110,105,116],.i .i64 4),(.s [100,97,116,101],.i .i64 5),(.s [108,105,115,116],.i .i64 6),(.s [112,108,117,114,97,108],.i .i64 7),(.s [111,114,100,105,110,97,108],.i .i64 8),(.s [115,101,108,101,99,116],.i .i64 9)]
theorem Anz:Kk π O 92 [] [] (.map F7) []:=by refine Sk (s:=0) Aqv (by simp) (by simp) λn0 a=>?_;clear a;unfold F7;have i:BE .str (.s [110,117,109,98,101,114]) [] 0=some none:=rfl;have b:BE .str (.s [117,110,105,116]) (F7.take 1) 0=some none:=rfl;have c:BE .str (.s [100,97,116,101]) (F7.take 2) 0=some none:=rfl;have d:BE .str (.s [108,105,115,116]) (F7.take 3) 0=some none:=rfl;have e:BE .str (.s [112,108,117,114,97,108]) (F7.take 4) 0=some none:=rfl;have f:BE .str (.s [111,114,100,105,110,97,108]) (F7.take 5) 0=some none:=rfl;have g:BE .str (.s [115,101,108,101,99,116]) (F7.take 6) 0=some none:=rfl;simp only[F7,AxB,Azg] at b c d e f g;simp only[push_cast,i,b,c,d,e,f,g];intros;exact⟨_,Ag.refl,_,rfl,by simp[lk],rfl,λ_ _ h=>by simp[lk] at h⟩
def Pr(k:Int):Nat:=if decide (k>=3)&&decide (k<=9) then 2+(Ve k).length else 0
mutual
def Ad.lenB:Ad->Nat
 | ⟨k,t,a,st,cs,ps⟩=>
  if k==1 then(GT t).length
  else if k==10 then 1
  else if k==11 then(3+a.length)+(if ps.isEmpty then 0 else(2+a.length)+CV ps)
  else(2+a.length)+Pr k+(if st==[] then 0 else 2+st.length)+(if AI k then 1 else 0)+E8 cs
def CV:List Ad->Nat
 | []=>0
 | p::ps=>p.lenB+CV ps
def E8:List (Aa×List Ad)->Nat
 | []=>0
 | (key,ps)::cs=>((4+key.length)+CV ps)+E8 cs
end
theorem Ad.lenB_eq(p:Ad):p.lenB=(if p.kind==1 then(GT p.text).length
  else if p.kind==10 then 1
  else if p.kind==11 then(3+p.name.length)+(if p.parts.isEmpty then 0 else(2+p.name.length)+CV p.parts)
  else(2+p.name.length)+Pr p.kind+(if p.style==[] then 0 else 2+p.style.length)+(if AI p.kind then 1 else 0)+E8 p.cases):=by cases p;simp only[Ad.lenB]
theorem Ig p ps:CV (p::ps)=p.lenB+CV ps:=by simp only[CV]
theorem Gx(c:AD)(cs:List AD):E8 (c::cs)=((4+c.1.length)+CV c.2)+E8 cs:=by have ⟨k,q⟩:=c;simp only[E8]
theorem Zo k:Pr k<=9:=by unfold Pr;have:=NR k;split<;>omega
theorem Ad.lenB_le1(p:Ad)(b:CV p.parts<=20*A7 p.parts)(c:E8 p.cases<=20*De p.cases):p.lenB<=20*p.wt:=by rw[p.wt_eq,p.lenB_eq];have a:=Th p.text;have a2:=Zo p.kind;grind
theorem bF:∀(N) (ps),A7 ps<N->CV ps<=20*A7 ps:=by
 intro N
 induction N with
 | zero=>intro ps h;omega
 | succ N d=>
  have b:∀cs:List AD,De cs<N->E8 cs<=20*De cs:=by
   intro cs
   induction cs with
   | nil=>intro _;simp[E8]
   | cons c cs a=>intro h;rw[Bn] at h;rw[Gx,Bn];grind
  intro ps
  induction ps with
  | nil=>intro _;simp[CV]
  | cons p ps a=>intro h;rw[A5] at h;rw[Ig,A5];have e:=a (by omega);have f:=p.wt_eq;have:=p.lenB_le1 (d p.parts (by omega)) (b p.cases (by omega));omega
theorem KO ps:CV ps<=20*A7 ps:=bF _ ps (Ab4 _)
theorem qK(cs:List AD):E8 cs<=20*De cs:=by
 induction cs with
 | nil=>simp[E8]
 | cons c cs a=>rw[Gx,Bn];have:=KO c.2;omega
theorem Ad.lenB_le(p:Ad):p.lenB<=20*p.wt:=p.lenB_le1 (KO _) (qK _)
theorem SN:F7.length=7:=rfl
theorem Aeg{i a}(h:F7[i]?=some a):i<7/\a=(.s (Ve (i+3:Nat)),.i .i64 (i+3:Nat)):=by
 have b:i<7:=by have:=(Ao5.1 h).1;rw[SN] at this;exact this
 refine⟨b,?_⟩;have:i=0\/i=1\/i=2\/i=3\/i=4\/i=5\/i=6:=by omega
 rcases this with rfl|rfl|rfl|rfl|rfl|rfl|rfl<;>(simp only[F7,A0B,Azq,Ao3] at h;rw[<-h];rfl)
def H5(k:Int)(seen:List Nat):Nat:=if decide (k>=3)&&seen.contains (k-3).toNat then 2+(Ve k).length else 0
theorem eK k:H5 k []=0:=by simp[H5]
theorem gZ{k seen i}(h:((i+3:Nat):Int)=k)(b:i∉seen):H5 k seen=0/\H5 k (seen++[i])=2+(Ve (i+3:Nat)).length:=by
 subst h;have:(((i+3:Nat):Int)-3).toNat=i:=by omega
 have a:((i+3:Nat):Int)>=3:=by omega
 unfold H5;grind
theorem Wp{k seen i}(h:((i+3:Nat):Int)≠k):H5 k (seen++[i])=H5 k seen:=by unfold H5;grind
theorem cW{k seen}(a:∀i,i<7->i∈seen)(b:∀i∈seen,i<7):H5 k seen=Pr k:=by unfold H5 Pr;grind
def Ui(seen:List Nat):Nat:=(if 0∈seen then 0 else 1)+(if 1∈seen then 0 else 1)+(if 2∈seen then 0 else 1)+(if 3∈seen then 0 else 1)+(if 4∈seen then 0 else 1)+(if 5∈seen then 0 else 1)+(if 6∈seen then 0 else 1)
theorem kN{seen i}(b:i<7)(a:i∉seen):Ui (seen++[i])<Ui seen:=by
 have:i=0\/i=1\/i=2\/i=3\/i=4\/i=5\/i=6:=by omega
 unfold Ui;rcases this with rfl|rfl|rfl|rfl|rfl|rfl|rfl<;>simp[a]
end Go.Ir
end
