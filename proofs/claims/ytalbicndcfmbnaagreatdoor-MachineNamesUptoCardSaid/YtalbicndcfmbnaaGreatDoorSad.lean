/- Parts of the proof: the calculus of walks, contracts of functions, plain laws; each theorem states its conditions. -/
import Derived.Test.YtalbicndcfmbnaaGreatDoorSac
import Derived.Lib.IndexMore
import Derived.Lib.Replace
import Derived.Lib.IndexAny
import Derived.Lib.Join
import Derived.Lib.SlicesCompact
import Derived.Lib.ItoaNum
import Derived.Shelf.Small.Wraps
import Derived.Shelf.Strconv.Itoa3
import Derived.Shelf.Strconv.Atoi
import Derived.Shelf.Strings.Search2
import Derived.Shelf.Strings.SlTrimAscii
import Derived.Deep.Draws
import Derived.Lib.AtoiErrMem
import Derived.BigCall
import Derived.Laws.IdiomStrings
import Derived.Shelf.Strings.IndexAnyAll
import Derived.Lib.OthersKept
import Derived.Scope
import Derived.RegionCalls
import Derived.BigRegion
import Derived.Deep.RegionWith
import Derived.Laws.Runes
import Derived.Laws.RangeAny
import Derived.Lib.LaidTab
import Derived.Lib.ItoaLen
import Derived.MakeChecks
import Derived.Shelf.Small.Strs
import Derived.Shelf.Strings.OnBuilder
import Derived.Shelf.Strings.Split
import Derived.Shelf.Strings.Cut
import Derived.Shelf.Strings.Replace
import Derived.Shelf.Slices.ReverseS
import Derived.Shelf.SlIter.Nil
import Derived.Shelf.SortM.Plain
import Derived.Shelf.SortM.SortNone
import Derived.Ground.GgzProg
import Derived.Ground.SlgmProg
import Derived.Shelf.Strings.Repeat
import Derived.Lib.ReplaceLaws
import Derived.Lib.SplitLaws
import Derived.ShapedOpen
import Derived.Shelf.Slices.Clone
import Derived.Shelf.Slices.CompactS
set_option linter.all false
open Nat (reduceEqDiff)
namespace Go.Ir
def H6(a:Bool)(w f:Aa):Aa:=
 if a&&!(Dv w&&Dv f) then 45::(if f==[] then w else w++46::f) else(if f==[] then w else w++46::f)
def Fn(a:Bool)(w f:Aa):Aa×Int:=if decide ((w.length:Int)>15)||decide ((f.length:Int)>6) then([],2) else(H6 a w f,0)
def DR(w:Aa):Aa:=if Lib.trimLeftS w [48]==[] then[48] else Lib.trimLeftS w [48]
def CP(s:Aa):Aa×Int:=if DK s then Fn (IK s) (DR (AN s++(Bo s++[48,48]).take 2)) ((Bo s).drop (min 2 (Bo s).length)) else([],1)
def KD:List UInt8->List UInt8
 | []=>[49]
 | c::r=>if c==57 then 48::KD r else(c+1)::r
def H7(s:Aa):Aa:=(KD s.reverse).reverse
def Ago:Aa->Bool
 | c::_=>decide ((c.toNat:Int)>=53)
 | []=>false
def CQ(s:Aa):Aa×Int:=if DK s then Fn (IK s) (if Bo s==[] then AN s else if Ago (Bo s) then H7 (AN s) else AN s) [] else([],1)
def Bq(a:Nat):Nat->Aa->List Aa
 | 0,_=>[]
 | n+1,r=>if r==[] then[] else r.drop (r.length-a)::Bq a n (r.take (r.length-a))
def HT(a b:Int)(c d:Aa):Aa:=
 if decide (a<1)||decide ((d.length:Int)<=a) then d
 else Lib.join (d.drop (d.length-a.toNat)::Bq (if b<1 then a else b).toNat d.length (d.take (d.length-a.toNat))).reverse c
def E7(L:BV)(n:Aa):Aa:=
 let a:=HT L.prim L.sec L.grp (AN n);let b:=if(Oy n).isEmpty then a else a++(L.dec++Bo n)
 if IK n then L.minus++b else b
def Lu:Aa:=[105,110,116,101,103,101,114]
def L6:Aa:=[112,101,114,99,101,110,116]
def DG(L:BV)(n st:Aa):Aa×Int:=
 if !DK n||(!(st==[])&&!(st==Lu)&&!(st==L6)) then([],1)
 else if L.dec==[] then([],18)
 else if st==Lu then(if(CQ n).2==0 then(E7 L (CQ n).1,0) else([],(CQ n).2))
 else if st==L6 then(if(CP n).2==0 then(E7 L (CP n).1++L.perc,0) else([],(CP n).2))
 else(E7 L n,0)
def EL:List Aa:=[[121],[77],[77,77],[77,77,77],[69],[100],[100,100]]
def Fw(s:Aa):Bool:=EL.contains s
def Cl:List Aa->Aa->List Aa->Option (List Aa)
 | [],a,out=>if !(a==[])||out.length==0 then none else some out
 | k::b,a,out=>
  if a.take (a.length-(Lib.trimLeftS a k).length)==[] then Cl b a out
  else if Fw (a.take (a.length-(Lib.trimLeftS a k).length)) then Cl b (Lib.trimLeftS a k) (out++[a.take (a.length-(Lib.trimLeftS a k).length)]) else none
def CF:List Aa:=[[121],[77],[69],[100]]
def Ch(s:Aa):Option (List Aa):=Cl CF s []
def Bc:Aa:=[65,66,67,68,69,70,71,72,73,74,75,76,77,78,79,80,81,82,83,84,85,86,87,88,89,90,97,98,99,100,101,102,103,104,105,106,107,108,109,110,111,112,113,114,115,116,117,118,119,120,121,122]
def Cr:Nat->Aa->List Aa->Option (List Aa)
 | 0,_,_=>none
 | n+1,p,out=>if p==[] then some out
  else if p.take (p.length-(Lib.trimLeftS p Bc).length)==[] then Cr n (p.drop 1) out
  else if Fw (p.take (p.length-(Lib.trimLeftS p Bc).length)) then Cr n (Lib.trimLeftS p Bc) (out++[p.take (p.length-(Lib.trimLeftS p Bc).length)]) else none
def GD(p:Aa):Option (List Aa):=Cr (p.length+1) p []
def K0(l:List Aa):List Aa:=l.mergeSort λx y=>decide (x<=y)
def Gs(l:List Aa):Aa×Bool:=(Lib.join (Lib.compact (K0 (l.map λf=>f.take 1))) [],(Lib.compact (K0 (l.map λf=>f.take 1))).length==l.length)
def Dx(a p:Aa):Bool:=match Ch a,GD p with
 | some w,some g=>!(g.length==0)&&((Gs g).2&&(Gs w).1==(Gs g).1)
 | _,_=>false
def AW(i:Nat):Aa:=123::(Lib.decDigits i++[125])
def Fv(s:Aa):Bool:=s.any λc=>c==123||c==125
def Q9:Nat->Nat->Aa->Bool
 | 0,_,s=>!Fv s
 | k+1,i,s=>if Lib.count s (AW i)==1 then Q9 k (i+1) (Lib.replace s (AW i) [0] 1) else false
def OT(s:Aa)(n:Nat):Bool:=Q9 n 0 s
def IE(y:Int):Bool:=(y.tmod 4==0&&y.tmod 100 !=0)||y.tmod 400==0
def Dt(y:Int):Int:=if IE y then 366 else 365
def AcH:List Int:=[31,28,31,30,31,30,31,31,30,31,30,31]
def H9(y:Int)(m:Nat):Int:=if m==2&&IE y then 29 else AcH.getD (m-1) 0
def FG:Nat->Int->Int->Int×Int
 | 0,y,d=>(y,d)
 | n+1,y,d=>if d>=Dt y then FG n (y+1) (d-Dt y) else(y,d)
def Nb(y:Int):Nat->Nat->Int->Nat×Int
 | 0,m,d=>(m,d)
 | n+1,m,d=>if d>=H9 y m then Nb y n (m+1) (d-H9 y m) else(m,d)
def DE(d:Int):Bool:=!(decide (d < -25567)||decide (d>84005))
def Hf(d:Int):Int×Int:=FG (d+25567).toNat 1900 (d+25567)
def Fz(d:Int):Nat×Int:=Nb (Hf d).1 12 1 (Hf d).2
def Iu(n:Nat):Aa:=if n<10 then 48::Lib.decDigits n else Lib.decDigits n
def Dj(d:Int):Aa:=if DE d then Lib.decDigits (Hf d).1.toNat++[45]++Iu (Fz d).1++[45]++Iu ((Fz d).2+1).toNat else[]
def EG(l:List Aa):Dq:=l.foldl (λm f=>Ep m (f.take 1) f.length) []
def Ks(a b:Dq):Int×Bool:=if a.all (λe=>(AU b e.1).isSome) then((a.map λe=>max (e.2-(AU b e.1).getD 0) ((AU b e.1).getD 0-e.2)).sum,(a.length:Int)==(b.length:Int)) else(0,false)
def CV(a:Dq):List CG->Int->Int->Int->Int
 | [],_,b,_=>b
 | p::ps,i,b,c=>match Ch p.skel with
  | none=>CV a ps (i+1) b c
  | some l=>if(Ks a (EG l)).2&&(decide (b<0)||decide ((Ks a (EG l)).1<c)) then CV a ps (i+1) i (Ks a (EG l)).1 else CV a ps (i+1) b c
def DY(l:List CG)(a:Aa):Int×Int:=match Ch a with
 | none=>(0,3)
 | some w=>if CV (EG w) l 0 (-1) 0<0 then(0,8) else(CV (EG w) l 0 (-1) 0,0)
def Z8(p:Aa):Bool:=[[],[121]].any λy=>[[],[77]].any λm=>[[],[69]].any λe=>[[],[100]].any λd=>Dx (y++m++e++d) p
def DI(c:UInt8):Bool:=(decide ((c.toNat:Int)>=65)&&decide ((c.toNat:Int)<=90))||(decide ((c.toNat:Int)>=97)&&decide ((c.toNat:Int)<=122))
structure ME where
 L:BV
 y:Nat
 m:Nat
 d:Nat
 wd:Nat
def Ft(x:ME)(f:Aa):Aa×Int:=
 if f==[121] then(Lib.decDigits x.y,0) else if f==[77] then(Lib.decDigits x.m,0) else if f==[77,77] then(Iu x.m,0)
 else if f==[77,77,77] then(if(x.L.months.length:Int) !=12 then([],18) else(x.L.months.getD (x.m-1) [],0))
 else if f==[69] then(if(x.L.days.length:Int) !=7 then([],18) else(x.L.days.getD x.wd [],0))
 else if f==[100] then(Lib.decDigits x.d,0) else(Iu x.d,0)
def BS(x:ME):Nat->Aa->Aa->Aa×Int
 | 0,_,out=>(out,0)
 | n+1,p,out=>if p==[] then(out,0)
  else if(p.takeWhile DI).length==0 then BS x n (p.drop 1) (out++p.take 1)
  else if(Ft x (p.take (p.takeWhile DI).length)).2==0 then BS x n (p.drop (p.takeWhile DI).length) (out++(Ft x (p.take (p.takeWhile DI).length)).1)
  else([],(Ft x (p.take (p.takeWhile DI).length)).2)
def Ic(x:ME)(p:Aa):Aa×Int:=BS x (p.length+1) p []
def Km(L:BV)(d:Int):ME:=⟨L,(Hf d).1.toNat,(Fz d).1,((Fz d).2+1).toNat,((d+25567).tmod 7).toNat⟩
def Eu(L:BV)(a:Aa)(d:Int):Aa×Int:=
 if DE d then
  if(DY L.dates a).2==8 then([],18) else if(DY L.dates a).2==0 then
   match L.dates[(DY L.dates a).1.toNat]? with
   | some p=>if Z8 p.pat then Ic (Km L d) p.pat else([],4)
   | none=>([],4)
  else([],(DY L.dates a).2)
 else([],2)
def EK(p a b:Aa):Aa:=
 if(Lib.cut (Lib.cut p (AW 0)).1 (AW 1)).2.2 then(Lib.cut (Lib.cut p (AW 0)).1 (AW 1)).1++b++(Lib.cut (Lib.cut p (AW 0)).1 (AW 1)).2.1++a++(Lib.cut p (AW 0)).2.1
 else(Lib.cut p (AW 0)).1++a++(Lib.cut (Lib.cut p (AW 0)).2.1 (AW 1)).1++b++(Lib.cut (Lib.cut p (AW 0)).2.1 (AW 1)).2.1
def Ha(s:Aa):List CA->Option CA
 | []=>none
 | x::l=>if x.style==s then some x else Ha s l
def IB(p:CA):List Aa->Aa->Aa
 | [],a=>a
 | s::r,a=>if(a.length:Int)>20000 then a else IB p r (EK (if r.isEmpty then p.start else p.mid) s a)
def Ny(p:CA)(l:List Aa):Aa:=match l with
 | []=>[]
 | [a]=>a
 | [a,b]=>EK p.two a b
 | l=>IB p (l.take (l.length-2)).reverse (EK p.fin (l.getD (l.length-2) []) (l.getD (l.length-1) []))
def mM(p:CA):Bool:=[p.two,p.start,p.mid,p.fin].all λs=>OT s 2
def EX(L:BV)(st:Aa)(l:List Aa):Aa×Int:=match Ha st L.lists with
 | none=>([],18)
 | some p=>if mM p then(if(l.length:Int)>1000 then([],6) else if((Ny p l).length:Int)>20000 then([],6) else(Ny p l,0)) else([],4)
def K6(u c:Aa):List Dd->Option Aa
 | []=>none
 | x::l=>if x.unit==u&&x.cls==c then some x.pat else K6 u c l
def J0(L:BV)(u c:Aa):Option Aa:=match K6 u c L.units with
 | some p=>some p
 | none=>K6 u [111,116,104,101,114] L.units
end Go.Ir

namespace Go.Ir
open Go.Proofs
variable{P:Program}{W0:World}{nt n:Nat}{Q:Exit→St→Prop}{env:A9}{σ:Aj}
def sB:IC:=sQ (.block 1 (oP [m1 11 3,m1 12 0,m1 13 4,iA 14 12 13 9 1,l1 15 14,nS 16 15,bZ 17 .add 16 30,bT 18 .add 11 17,m1 3 18] [0,3,4])) (oP [m1 9 4,bZ 10 .add 9 1,m1 4 10] [0,3,4])
def Ae0:IC:=sQ (oS [mZ 4 0] [0,3,4] (.block 0 (.loop (sQ (oS [m1 5 4,m1 6 0,nL 7 6,bT 8 .lss 5 7] [0,3,4,8] (cD 8 .skip (.exit 0))) sB)))) (oR [m1 19 3,m1 2 19] [2])
def Aej:IC:=oS [mZ 2 0] [0] (oS [mZ 3 0] [0,3] Ae0)
@[push_cast]def Avx:List R:=[.t 2]
@[push_cast]def Aya:=Aq sB.eq_1<|Aq Ae0.eq_1<|AM Aej.eq_1
theorem AnG:Au π 85 20 Aej Avx=true:=by kernel_rfl
def jC:IC:=sQ (.block 3 (.ops [m1 69 3,fA 70 5 11,l1 71 70,m1 72 6,iA 73 71 72 178 5,fA 74 73 0,l1 75 74,fA 76 5 11,l1 77 76,m1 78 6,iA 79 77 78 178 5,fA 80 79 1,l1 81 80,fA 82 5 11,l1 83 82,m1 84 6,iA 85 83 84 178 5,fA 86 85 2,l1 87 86,fA 88 5 11,l1 89 88,m1 90 6,iA 91 89 90 178 5,fA 92 91 3,l1 93 92,fA 94 5 11,l1 95 94,m1 96 6,iA 97 95 96 178 5,fA 98 97 4,l1 99 98,o1 100 (.msl false 9 1 [.t 75,.t 81,.t 87,.t 93,.t 99]),q1 101 85 100,bT 102 .add 69 101,m1 3 102] [1,3,4,5,6] [[1,2],[2,4],[3,4],[4,5],[5,6],[7,8],[8,10],[9,10],[10,11],[11,12],[13,14],[14,16],[15,16],[16,17],[17,18],[19,20],[20,22],[21,22],[22,23],[23,24],[25,26],[26,28],[27,28],[28,29],[29,30],[6,31],[12,31],[18,31],[24,31],[30,31],[31,32],[0,33],[32,33],[0,34],[33,34]])) (oP [m1 67 6,bZ 68 .add 67 1,m1 6 68] [1,3,4,5,6])
def gQ:IC:=sQ (.block 5 (.ops [m1 110 3,fA 111 5 12,l1 112 111,m1 113 7,iA 114 112 113 180 3,fA 115 114 0,l1 116 115,fA 117 5 12,l1 118 117,m1 119 7,iA 120 118 119 180 3,fA 121 120 1,l1 122 121,fA 123 5 12,l1 124 123,m1 125 7,iA 126 124 125 180 3,fA 127 126 2,l1 128 127,o1 129 (.msl false 9 1 [.t 116,.t 122,.t 128]),q1 130 85 129,bT 131 .add 110 130,m1 3 131] [1,3,4,5,7] [[1,2],[2,4],[3,4],[4,5],[5,6],[7,8],[8,10],[9,10],[10,11],[11,12],[13,14],[14,16],[15,16],[16,17],[17,18],[6,19],[12,19],[18,19],[19,20],[0,21],[20,21],[0,22],[21,22]])) (oP [m1 108 7,bZ 109 .add 108 1,m1 7 109] [1,3,4,5,7])
def qC:IC:=sQ (.block 7 (.ops [m1 139 3,fA 140 5 13,l1 141 140,m1 142 8,iA 143 141 142 182 2,fA 144 143 0,l1 145 144,fA 146 5 13,l1 147 146,m1 148 8,iA 149 147 148 182 2,fA 150 149 1,l1 151 150,o1 152 (.msl false 9 1 [.t 145,.t 151]),q1 153 85 152,bT 154 .add 139 153,m1 3 154] [1,3,4,5,8] [[1,2],[2,4],[3,4],[4,5],[5,6],[7,8],[8,10],[9,10],[10,11],[11,12],[6,13],[12,13],[13,14],[0,15],[14,15],[0,16],[15,16]])) (oP [m1 137 8,bZ 138 .add 137 1,m1 8 138] [1,3,4,5,8])
def iD:IC:=sQ (oS [mZ 7 0] [1,3,4,5,7] (.block 4 (.loop (sQ (oS [m1 103 7,fA 104 5 12,l1 105 104,nL 106 105,bT 107 .lss 103 106] [1,3,4,5,7,107] (cD 107 .skip (.exit 4))) gQ)))) (oS [mZ 8 0] [1,3,4,5,8] (.block 6 (.loop (sQ (oS [m1 132 8,fA 133 5 13,l1 134 133,nL 135 134,bT 136 .lss 132 135] [1,3,4,5,8,136] (cD 136 .skip (.exit 6))) qC))))
def xF:IC:=sQ (.ops [m1 23 3,fA 24 5 0,l1 25 24,fA 26 5 1,l1 27 26,fA 28 5 2,l1 29 28,fA 30 5 5,fA 31 30 0,l1 32 31,fA 33 5 5,fA 34 33 1,l1 35 34,fA 36 5 5,fA 37 36 2,l1 38 37,fA 39 5 5,fA 40 39 3,l1 41 40,o1 42 (.msl false 9 1 [.t 25,.t 27,.t 29,.t 32,.t 35,.t 38,.t 41]),q1 43 85 42,fA 44 5 14,l1 45 44,q1 46 85 45,bT 47 .add 43 46,fA 48 5 15,l1 49 48,q1 50 85 49,bT 51 .add 47 50,fA 52 5 3,l1 53 52,nL 54 53,fA 55 5 4,l1 56 55,nL 57 56,bT 58 .add 54 57,o1 59 (.bin .mul (ci 100) (.t 58)),bT 60 .add 51 59,bT 61 .add 23 60,m1 3 61] [1,3,4,5] [[1,2],[3,4],[5,6],[7,8],[8,9],[10,11],[11,12],[13,14],[14,15],[16,17],[17,18],[2,19],[4,19],[6,19],[9,19],[12,19],[15,19],[18,19],[19,20],[21,22],[22,23],[20,24],[23,24],[25,26],[26,27],[24,28],[27,28],[29,30],[30,31],[32,33],[33,34],[31,35],[34,35],[35,36],[28,37],[36,37],[0,38],[37,38],[0,39],[38,39]]) (sQ (oS [mZ 6 0] [1,3,4,5,6] (.block 2 (.loop (sQ (oS [m1 62 6,fA 63 5 11,l1 64 63,nL 65 64,bT 66 .lss 62 65] [1,3,4,5,6,66] (cD 66 .skip (.exit 2))) jC)))) iD)
def rT:IC:=sQ (.block 1 (oS [fA 18 1 0,l1 19 18,m1 20 4,iA 21 19 20 30 16,lA 22 21 16,o1 5 (.alloc (.agg [.s [],.s [],.s [],.nil,.nil,.s [],.s [],.s [],.s [],.i .i64 0,.i .i64 0,.nil,.nil,.nil,.nil,.nil])),sT 5 22 16] [1,3,4,5] xF)) (oP [m1 16 4,bZ 17 .add 16 1,m1 4 17] [1,3,4])
def cA:IC:=sQ (.block 9 (.ops [m1 162 3,fA 163 1 1,l1 164 163,m1 165 9,iA 166 164 165 184 2,fA 167 166 0,l1 168 167,fA 169 1 1,l1 170 169,m1 171 9,iA 172 170 171 184 2,fA 173 172 1,l1 174 173,o1 175 (.msl false 9 1 [.t 168,.t 174]),q1 176 85 175,bT 177 .add 162 176,m1 3 177] [1,3,9] [[1,2],[2,4],[3,4],[4,5],[5,6],[7,8],[8,10],[9,10],[10,11],[11,12],[6,13],[12,13],[13,14],[0,15],[14,15],[0,16],[15,16]])) (oP [m1 160 9,bZ 161 .add 160 1,m1 9 161] [1,3,9])
def xW:IC:=sQ (.block 11 (.ops [m1 185 3,fA 186 1 2,l1 187 186,m1 188 10,iA 189 187 188 186 3,fA 190 189 0,l1 191 190,fA 192 1 2,l1 193 192,m1 194 10,iA 195 193 194 186 3,fA 196 195 1,l1 197 196,o1 198 (.msl false 9 1 [.t 191,.t 197]),q1 199 85 198,bT 200 .add 185 199,m1 3 200] [1,3,10] [[1,2],[2,4],[3,4],[4,5],[5,6],[7,8],[8,10],[9,10],[10,11],[11,12],[6,13],[12,13],[13,14],[0,15],[14,15],[0,16],[15,16]])) (oP [m1 183 10,bZ 184 .add 183 1,m1 10 184] [1,3,10])
def eI:IC:=sQ (oS [mZ 10 0] [1,3,10] (.block 10 (.loop (sQ (oS [m1 178 10,fA 179 1 2,l1 180 179,nL 181 180,bT 182 .lss 178 181] [1,3,10,182] (cD 182 .skip (.exit 10))) xW)))) (oR [m1 201 3,m1 2 201] [2])
def Afh:IC:=sQ (oS [mZ 4 0] [1,3,4] (.block 0 (.loop (sQ (oS [m1 11 4,fA 12 1 0,l1 13 12,nL 14 13,bT 15 .lss 11 14] [1,3,4,15] (cD 15 .skip (.exit 0))) rT)))) (sQ (oS [mZ 9 0] [1,3,9] (.block 8 (.loop (sQ (oS [m1 155 9,fA 156 1 1,l1 157 156,nL 158 157,bT 159 .lss 155 158] [1,3,9,159] (cD 159 .skip (.exit 8))) cA)))) eI)
def Ae4:IC:=oS [bX 1 0,mZ 2 0] [1] (oS [mZ 3 0] [1,3] Afh)
@[push_cast]def Auu:List R:=[.t 2]
@[push_cast]def AyZ:=Aq jC.eq_1<|Aq gQ.eq_1<|Aq qC.eq_1<|Aq iD.eq_1<|Aq xF.eq_1<|Aq rT.eq_1<|Aq cA.eq_1<|Aq xW.eq_1<|Aq eI.eq_1<|Aq Afh.eq_1<|AM Ae4.eq_1
theorem Anz:Au π 54 202 Ae4 Auu=true:=by kernel_rfl
def kK:IC:=sQ (.block 3 (sQ (.ops [o1 70 (.msl true 139 2 []),fA 71 4 3,l1 72 71,o1 73 (.app (.t 70) (.t 72) 139 2),fA 74 4 4,⟨some 75,.load (.t 74) 1 false,none,[.t 70]⟩,o1 76 (.app (.t 73) (.t 75) 139 2),m1 77 5,iA 78 76 77 139 2,lA 79 78 2,o1 6 (.alloc (.agg [.s [],.nil])),sT 6 79 2] [1,3,4,5,6] [[1,2],[0,3],[2,3],[4,5],[2,3,6],[3,6],[5,6],[3,6,8],[6,8],[7,8],[3,6,8,9],[6,8,9],[8,9],[2,11],[3,11],[5,11],[6,11],[8,11],[9,11],[10,11]]) (oS [fA 80 6 1,l1 81 80,q1 82 53 81,nT 83 82] [1,3,4,5,83] (cD 83 (oR [mC 2 (.b false)] [2]) .skip)))) (oP [m1 68 5,bZ 69 .add 68 1,m1 5 69] [1,3,4,5])
def kD:IC:=sQ (oS [m1 59 5,fA 60 4 3,l1 61 60,nL 62 61,fA 63 4 4,l1 64 63,nL 65 64,bT 66 .add 62 65,bT 67 .lss 59 66] [1,3,4,5,67] (cD 67 .skip (.exit 2))) kK
def dT:IC:=sQ (oS [fA 19 4 3,l1 20 19,nL 21 20,bZ 22 .gtr 21 12,m1 23 22,DP 24 23 4 4,Dy 25 23 24,gF 26 23 (.lenL (.t 25)),D7 27 23 .gtr 26 12,pO 28 23 27,m1 29 28,DP 30 29 4 11,Dy 31 29 30,gF 32 29 (.lenL (.t 31)),D7 33 29 .gtr 32 12,pO 34 29 33,m1 35 34,DP 36 35 4 12,Dy 37 35 36,gF 38 35 (.lenL (.t 37)),D7 39 35 .gtr 38 110,pO 40 35 39,m1 41 40,DP 42 41 4 13,Dy 43 41 42,gF 44 41 (.lenL (.t 43)),D7 45 41 .gtr 44 40,pO 46 41 45,m1 47 46,DP 48 47 4 14,Dy 49 47 48,gF 50 47 (.lenL (.t 49)),D7 51 47 .gtr 50 20,pO 52 47 51,m1 53 52,DP 54 53 4 15,Dy 55 53 54,gF 56 53 (.lenL (.t 55)),D7 57 53 .gtr 56 20,pO 58 53 57] [1,3,4,58] (cD 58 (oR [mC 2 (.b false)] [2]) .skip)) (oS [mZ 5 0] [1,3,4,5] (.block 2 (.loop kD)))
def gY:IC:=sQ (.block 1 (oS [fA 14 1 0,l1 15 14,m1 16 3,iA 17 15 16 30 16,lA 18 17 16,o1 4 (.alloc (.agg [.s [],.s [],.s [],.nil,.nil,.s [],.s [],.s [],.s [],.i .i64 0,.i .i64 0,.nil,.nil,.nil,.nil,.nil])),sT 4 18 16] [1,3,4] dT)) (oP [m1 12 3,bZ 13 .add 12 1,m1 3 13] [1,3])
def fF:IC:=oR [fA 84 1 0,l1 85 84,nL 86 85,bZ 87 .leq 86 62,m1 88 87,Dr 89 88 1 1,Dp 90 88 89,gT 91 88 (.lenL (.t 90)),CH 92 88 .leq 91 205,pA 93 88 92,m1 94 93,Dr 95 94 1 2,Dp 96 94 95,gT 97 94 (.lenL (.t 96)),CH 98 94 .leq 97 205,pA 99 94 98,m1 100 99,gT 101 100 (.load (.t 1) 3 true),gT 102 100 (.call 54 [.t 101]),CH 103 100 .leq 102 40000,pA 104 100 103,m1 2 104] [2]
def Agt:IC:=oS [bX 1 0,mC 2 (.b false)] [1] (sQ (oS [mZ 3 0] [1,3] (.block 0 (.loop (sQ (oS [m1 7 3,fA 8 1 0,l1 9 8,nL 10 9,bT 11 .lss 7 10] [1,3,11] (cD 11 .skip (.exit 0))) gY)))) fF)
@[push_cast]def Avt:List R:=[.t 2]
@[push_cast]def Aze:=Aq kK.eq_1<|Aq kD.eq_1<|Aq dT.eq_1<|Aq gY.eq_1<|Aq fF.eq_1<|AM Agt.eq_1
theorem Aq0:Au π 32 105 Agt Avt=true:=by kernel_rfl
def qR:IC:=oS [m1 8 0,m1 9 0,nC 10 9,fA 11 10 1,l1 12 11,m1 13 1,o1 14 (.apps (.t 12) (.t 13) 5),nC 15 8,fA 16 15 1,sT 16 14 1] [1] (oR [m1 17 1,nS 18 17,m1 4 18,mC 5 .ni] [4,5])
def cG:IC:=oS [mZ 4 0,mC 5 .ni] [0,1] (oS [m1 6 0,o1 7 (.calls 180 [.t 6])] [0,1] qR)
@[push_cast]def AmU:List R:=[.t 4,.t 5]
@[push_cast]def AwN:=Aq qR.eq_1<|AM cG.eq_1
theorem yK:Au π 124 19 cG AmU=true:=by kernel_rfl
def nJ:IC:=oS [mZ 2 0] [0] (oR [m1 3 0,nC 4 3,fA 5 4 1,l1 6 5,nL 7 6,m1 2 7] [2])
@[push_cast]def Anb:List R:=[.t 2]
@[push_cast]def AxJ:=AM nJ.eq_1
theorem Aiy:Au π 125 8 nJ Anb=true:=by kernel_rfl
end Go.Ir
section
namespace Go.Ir
structure Ez where
 kind:Int
 name:Aa
 keys:List Aa
def Qe(k:Int)(n:Aa)(s:Ez):Bool:=s.kind==k&&s.name==n
def HO(l:List Ez)(k:Int)(n:Aa):Int:=B8 (Qe k n) l
def FY(key:Aa)(s:Ez):Ez:=if s.keys.contains key then s else{ s with keys:=s.keys++[key] }
def AnJ(l:List Ez)(k:Int)(n:Aa):Nat:=if HO l k n<0 then l.length else(HO l k n).toNat
def Uu(l:List Ez)(k:Int)(n:Aa):List Ez:=if HO l k n<0 then l++[⟨k,n,[]⟩] else l
mutual
def Aw.coll:Aw->List Ez->List Ez
 | ⟨k,_,a,_,cs,ps⟩,l=>
  if Dm k then eZ cs (AnJ (J8 ps l) k a) (Uu (J8 ps l) k a) else J8 ps l
def J8:List Aw->List Ez->List Ez
 | [],l=>l
 | p::ps,l=>J8 ps (p.coll l)
def eZ:List (Aa×List Aw)->Nat->List Ez->List Ez
 | [],_,l=>l
 | (key,ps)::cs,j,l=>eZ cs j (J8 ps (l.modify j (FY key)))
end
def DB(l b:List Ez):Prop:=l.length<=b.length/\∀(i:Nat) (s a:Ez),l[i]?=some s->b[i]?=some a->s.kind=a.kind/\s.name=a.name
theorem DB.refl(l:List Ez):DB l l:=⟨A0h _,λi s b h a=>by grind⟩
theorem DB.trans{a b c:List Ez}(h:DB a b)(k:DB b c):DB a c:=by refine⟨AmI h.1 k.1,λi s m g e=>?_⟩;have j:i<b.length:=Ank (Afk.1 g).1 h.1;have f:b[i]?=some b[i]:=Ae8 j;have o:=h.2 i s _ g f;have p:=k.2 i _ m f e;grind
theorem DB.app(l m:List Ez):DB l (l++m):=by refine⟨by simp,λi s b h a=>?_⟩;grind
theorem Qf(key:Aa)(s:Ez):(FY key s).kind=s.kind/\(FY key s).name=s.name:=by unfold FY;split<;>exact⟨rfl,rfl⟩
theorem DB.mod(l:List Ez)(j:Nat)(key:Aa):DB l (l.modify j (FY key)):=by
 refine⟨by simp,λi s e h a=>?_⟩;rw[Azk,h] at a;by_cases c:j=i
 .have b:FY key s=e:=by simpa[c] using a
  rw[<-b];have:=Qf key s;grind
 grind
theorem Zx{l c:List Ez}(h:DB l c)(k:Int)(n:Aa)(f:¬HO l k n<0):HO c k n=HO l k n:=by
 induction l generalizing c with
 | nil=>exact absurd (by simp[HO,B8]) f
 | cons s l q=>
  cases c with
  | nil=>have:=h.1;simp at this
  | cons g c=>
   have e:=h.2 0 s g rfl rfl;have p:DB l c:=⟨by have:=h.1;simpa using this,λi a b j m=>h.2 (i+1) a b (by simpa using j) (by simpa using m)⟩
   have o:Qe k n g=Qe k n s:=by unfold Qe;rw[e.1,e.2]
   unfold HO at *;simp only[B8,o] at f⊢;grind
end Go.Ir
end
section
namespace Go.Ir
def AvU(k:Aa)(l:List Aa):List Aa:=if l.contains k then l else l++[k]
section
variable{P:Program}{W0:World}{ep d:Nat}{live:List Nat}{Q:Exit→St→Prop}{l:List I}{env:A9}{σ:Aj}
end
end Go.Ir
end
namespace Go.Ir
open Go.Proofs
variable{P:Program}{W0:World}{nt n:Nat}{Q:Exit→St→Prop}{env:A9}{σ:Aj}
end Go.Ir

namespace Go.Ir
open Go.Proofs
theorem N7{σ:Aj}{i:Id}{e:A5}(h:lk σ i=some e):(i,e)∈σ:=by
 induction σ with
 | nil=>cases h
 | cons p σ a=>obtain⟨k,x⟩:=p;simp only[lk] at h;grind
theorem Z2{σ:Aj}{i:Id}{e:A5}(a:(σ.map (·.1)).Nodup)(h:(i,e)∈σ):lk σ i=some e:=by
 induction σ with
 | nil=>cases h
 | cons p σ b=>obtain⟨k,x⟩:=p;rw[Ajf,Awp] at a;simp only[lk];grind
theorem TH{σ:Aj}{i:Id}(h:∀p∈σ,p.1≠i):lk σ i=none:=by
 cases a:lk σ i with
 | none=>rfl
 | some e=>exact absurd rfl (h _ (N7 a))
theorem AC{σ τ:Aj}{i:Id}{e:A5}(h:lk σ i=some e):lk (σ++τ) i=some e:=by
 induction σ with
 | nil=>cases h
 | cons p σ a=>obtain⟨k,x⟩:=p;rw[AtN];simp only[lk] at h⊢;grind
theorem Jx{σi σo pre post:Aj}(f:∀p∈pre,∀q∈σi,p.1≠q.1)(g:∀p∈post,∀q∈σi,p.1≠q.1):over σi σo (pre++σi++post)=σo++(pre++post):=by
 have keep:∀τ:Aj,(∀p∈τ,∀q∈σi,p.1≠q.1)->List.filter (λp:Id×A5=>(lk σi p.1).isNone) τ=τ:=by intro τ h;rw[AzU];intro p hp;rw[TH λq i=>Ae2 (h p hp q i)];rfl
 have a:List.filter (λp:Id×A5=>(lk σi p.1).isNone) σi=[]:=by
  rw[AyN];intro p hp c;cases b:lk σi p.1 with
  | none=>
   clear keep
   revert hp b
   generalize σi=τ;intro hp b
   induction τ with
   | nil=>cases hp
   | cons q τ j=>obtain⟨k,x⟩:=q;simp only[lk] at b;grind
  | some e=>rw[b] at c;cases c
 unfold over;rw[AzG,AzG,keep pre f,a,keep post g,AoG]
theorem Ak.sub{W0:World}{nt n n':Nat}{env:A9}{σ σ':Aj}(a:(σ.map (·.1)).Nodup)(h:∀p∈σ',p∈σ)(c:n<=n'):Ak W0 nt ⟨env,σ,n⟩ ⟨env,σ',n'⟩:=
 Ak.drop (λi e b=>Z2 a (h _ (N7 b))) c
theorem Ak.pre{W0:World}{nt n n':Nat}{env:A9}{σ τ:Aj}(b:n<=n'):Ak W0 nt ⟨env,σ++τ,n⟩ ⟨env,σ,n'⟩:=
 Ak.drop (λi e a=>AC a) b
abbrev OS:=Ez×Option Id
def sv(o:Option Id):V:=match o with
 | none=>.nil
 | some id=>.arr id
def osV(x:OS):V:=.agg [.i .i64 x.1.kind,.s x.1.name,sv x.2]
def osE(x:OS):Aj:=match x.2 with
 | none=>[]
 | some id=>[(id,.arr 9 1 (x.1.keys.map V.s))]
def CS(L:List OS):Aj:=L.flatMap osE
def slE(e:Nat)(a:Option Id)(L:List OS):Aj:=match a with
 | none=>[]
 | some id=>[(id,.arr e 3 (L.map osV))]
def bE(e:Nat)(a:Option Id)(L:List OS):Aj:=slE e a L++CS L
theorem LT(A B:List OS):CS (A++B)=CS A++CS B:=by simp[CS]
theorem Nl(x:OS)(B:List OS):CS (x::B)=osE x++CS B:=by simp[CS]
structure AwP (e:Nat) (hd:Aj) (lo:Option Id) (L:List OS) (n:Nat):Prop where
 nd:((hd++bE e lo L).map (·.1)).Nodup
 lt:∀p∈hd++bE e lo L,p.1.1<n
 ne:lo=none->L=[]
 kn:∀x∈L,x.2=none->x.1.keys=[]
end Go.Ir

namespace Go.Ir
open Go.Proofs
variable(W0:World)
theorem Amo{id:Id}{a j:Nat}(h:id.1<a):((a,j)=id)=False:=by grind
end Go.Ir

namespace Go.Ir
open Go.Proofs
structure MI (T:Nat) (lo:Option Id) (L:List OS) (n:Nat):Prop where
 nd:((bE T lo L).map (·.1)).Nodup
 lt:∀p∈bE T lo L,p.1.1<n
 ne:lo=none->L=[]
 kn:∀x∈L,x.2=none->x.1.keys=[]
theorem MI.more{T:Nat}{a:Option Id}{L:List OS}{n n':Nat}(h:MI T a L n)(b:n<=n'):MI T a L n':=⟨h.nd,λp hp=>Ank (h.lt p hp) b,h.ne,h.kn⟩
theorem E5{T:Nat}{id:Id}{L:List OS}:bE T (some id) L=(id,.arr T 3 (L.map osV))::CS L:=rfl
theorem Pt{a:Id×A5}{σ:Aj}(h:(σ.map (·.1)).Nodup)(b:∀p∈σ,p.1≠a.1):((a::σ).map (·.1)).Nodup:=by grind
theorem Ahb{a:Id×A5}{σ:Aj}(h:((a::σ).map (·.1)).Nodup):(σ.map (·.1)).Nodup/\∀p∈σ,p.1≠a.1:=by grind
theorem AlD{σ τ:Aj}(h:(σ.map (·.1)).Nodup)(k:(τ.map (·.1)).Nodup)(a:∀p∈σ,∀q∈τ,p.1≠q.1):((σ++τ).map (·.1)).Nodup:=by grind
theorem T3{σ τ:Aj}(h:((σ++τ).map (·.1)).Nodup):(σ.map (·.1)).Nodup/\(τ.map (·.1)).Nodup/\∀p∈σ,∀q∈τ,p.1≠q.1:=by rw[Azb,A0d] at h;exact⟨h.1,h.2.1,λp hp q a=>h.2.2 _ (AmO.2 ⟨p,hp,rfl⟩) _ (AmO.2 ⟨q,a,rfl⟩)⟩
theorem sE{σ τ:Aj}(h:(σ.map (·.1)).Nodup)(a:List.Sublist τ σ):(τ.map (·.1)).Nodup:=h.sublist (a.map _)
theorem MI.arr{T:Nat}{b:Id}{L:List OS}{n:Nat}(h:MI T (some b) L n):b.1<n/\(∀p∈CS L,p.1≠b)/\(∀p∈CS L,p.1.1<n)/\((CS L).map (·.1)).Nodup:=by have c:((CS L).map (·.1)).Nodup/\∀p∈CS L,p.1≠b:=Ahb (a:=(b,.arr T 3 (L.map osV))) h.nd;exact⟨h.lt (b,.arr T 3 (L.map osV)) (by simp[E5]),c.2,λp hp=>h.lt p (by simp[E5,hp]),c.1⟩
theorem MI.add{T:Nat}{g:Option Id}{L:List OS}{n n':Nat}{id:Id}(h:MI T g L n)(o:n<=id.1)(c:id.1<n')(k:Int)(i:Aa):MI T (some id) (L++[(⟨k,i,[]⟩,none)]) n':=by
 have f:CS (L++[(⟨k,i,[]⟩,none)])=CS L:=by rw[LT];simp[CS,osE]
 have a:∀p∈CS L,p∈bE T g L:=λp hp=>Azh _ hp;have e:((CS L).map (·.1)).Nodup:=sE h.nd (AzA _ _);refine⟨?_,?_,(by simp),?_⟩
 .rw[E5,f];refine Pt e λp hp m=>?_;have:=h.lt p (a p hp);grind
 .rw[E5,f];intro p hp;rcases AmR.1 hp with rfl|hp
  .exact c
  .have:=h.lt p (a p hp);omega
 .intro x b j;rcases AmG.1 b with b|b
  .exact h.kn x b j
  .simp at b;rw[b]
theorem MI.key{T:Nat}{b:Id}{A B:List OS}{x:OS}{n n':Nat}{id:Id}(h:MI T (some b) (A++x::B) n)(w:n<=id.1)(o:id.1<n')(s:Ez):MI T (some b) (A++(s,some id)::B) n':=by
 obtain⟨u,j,k,g⟩:=h.arr;have m:CS (A++x::B)=CS A++(osE x++CS B):=by rw[LT,Nl]
 have c:CS (A++(s,some id)::B)=CS A++((id,.arr 9 1 (s.keys.map V.s))::CS B):=by rw[LT,Nl];rfl
 rw[m] at j k g;have i:∀p∈CS A++CS B,p.1≠b/\p.1.1<n:=by
  intro p hp;have:p∈CS A++(osE x++CS B):=by grind
  grind
 have f:((CS A++CS B).map (·.1)).Nodup:=sE g ((List.Sublist.refl _).append (AzA _ _));obtain⟨r,t,C⟩:=T3 f;refine⟨?_,?_,(by simp),?_⟩
 .rw[E5,c];refine Pt (AlD r (Pt t λp hp v=>?_) λp hp q z=>?_) λp hp=>?_
  .grind
  .grind
  grind
 .rw[E5,c];intro p hp;rcases AmR.1 hp with rfl|hp
  .simp only;omega
  grind
 .intro y a e;rcases AmG.1 a with a|a
  .exact h.kn y (Awy _ a) e
  .rcases AmR.1 a with rfl|a
   .cases e
   .exact h.kn y (Azh _ (A0i _ a)) e
theorem EO{σi σo pre:Aj}(a:∀p∈pre,∀q∈σi,p.1≠q.1):over σi σo (pre++σi)=σo++pre:=by have:=Jx (σi:=σi) (σo:=σo) (pre:=pre) (post:=[]) a (by simp);simpa using this
end Go.Ir
namespace Go.Proofs
open Go.Shelf
def Tryz.lays103_ren:Go.Shelf.Ren:=⟨fun|103=>135|210=>188|206=>243|n=>n,fun|9=>9|4=>4|24=>250|3=>3|n=>n,fun|n=>n⟩
theorem Tryz.lays103:Go.Proofs.Lays.n103 Tryz.prog Tryz.lays103_ren:=by constructor;all_goals intros;kernel_rfl
def Tryz.lays219_ren:Go.Shelf.Ren:=⟨fun|219=>244|217=>288|225=>289|224=>290|267=>291|266=>319|314=>320|n=>n,fun|9=>9|3=>3|4=>4|5=>5|46=>237|146=>358|51=>280|n=>n,fun|1=>0|n=>n⟩
theorem Tryz.lays219:Go.Proofs.Lays.n219 Tryz.prog Tryz.lays219_ren:=by constructor;all_goals intros;kernel_rfl
def Tryz.lays160_ren:Go.Shelf.Ren:=⟨fun|160=>190|232=>246|231=>245|227=>247|234=>249|233=>248|236=>251|235=>250|228=>292|271=>294|151=>293|197=>272|120=>322|152=>321|260=>309|137=>252|119=>337|224=>290|225=>289|217=>288|266=>319|n=>n,fun|9=>9|4=>4|3=>3|5=>5|117=>323|116=>322|0=>0|124=>326|21=>21|105=>344|46=>237|119=>380|139=>383|138=>382|n=>n,fun|3=>1|4=>2|n=>n⟩
theorem Tryz.lays160:Go.Proofs.Lays.n160 Tryz.prog Tryz.lays160_ren:=by constructor;all_goals intros;kernel_rfl
def Tryz.lays162_ren:Go.Shelf.Ren:=⟨fun|162=>339|232=>246|227=>247|234=>249|236=>251|228=>292|271=>294|151=>293|120=>322|197=>272|152=>321|260=>309|137=>252|119=>337|224=>290|225=>289|217=>288|266=>319|n=>n,fun|9=>9|4=>4|3=>3|5=>5|117=>323|116=>322|0=>0|124=>326|21=>21|105=>344|46=>237|119=>380|139=>383|138=>382|n=>n,fun|3=>1|4=>2|n=>n⟩
theorem Tryz.lays162:Go.Proofs.Lays.n162 Tryz.prog Tryz.lays162_ren:=by constructor;all_goals intros;kernel_rfl
def Tryz.lays172_ren:Go.Shelf.Ren:=⟨fun|172=>349|244=>353|245=>354|247=>355|279=>356|280=>357|281=>358|282=>359|287=>360|316=>361|171=>221|205=>362|321=>363|322=>364|243=>282|246=>315|283=>332|284=>333|285=>334|286=>335|129=>179|317=>343|318=>344|319=>345|320=>346|337=>351|338=>352|n=>n,fun|9=>9|3=>3|75=>239|76=>240|4=>4|5=>5|167=>403|37=>96|0=>0|85=>404|2=>2|168=>406|53=>282|175=>409|46=>237|210=>412|127=>158|145=>417|143=>415|21=>21|171=>384|173=>386|212=>397|51=>280|20=>20|213=>398|232=>401|233=>402|80=>123|n=>n,fun|15=>6|16=>7|17=>3|18=>4|19=>5|n=>n⟩
theorem Tryz.lays172:Go.Proofs.Lays.n172 Tryz.prog Tryz.lays172_ren:=by constructor;all_goals intros;kernel_rfl
def Tryz.lays171_ren:Go.Shelf.Ren:=⟨fun|171=>221|243=>282|246=>315|283=>332|284=>333|285=>334|286=>335|129=>179|317=>343|318=>344|319=>345|320=>346|337=>351|338=>352|n=>n,fun|3=>3|9=>9|2=>2|4=>4|171=>384|0=>0|53=>282|37=>96|5=>5|173=>386|212=>397|51=>280|20=>20|213=>398|46=>237|232=>401|233=>402|n=>n,fun|17=>3|18=>4|19=>5|n=>n⟩
theorem Tryz.lays171:Go.Proofs.Lays.n171 Tryz.prog Tryz.lays171_ren:=by constructor;all_goals intros;kernel_rfl
end Go.Proofs
section
namespace Go.Ir
open Go.Proofs Go.RowKit
theorem Hp.below{W0:World}{σ:Aj}{n:Nat}{μ:Id->Option Value}{H:Addr->Option Value}{w w':World}(hp:Hp W0 σ n μ H w)(a:Below w.heap.size w w'):Hp W0 σ n μ H w'/\Fr μ H σ w μ H σ w':=by
 have g:AQ (λ_=>False) w w':=⟨a.os,a.tape,a.output,a.size,λk b _=>a.block k b⟩
 refine⟨⟨hp.base_turned g (λ_ h=>h.elim),hp.pins_turned g (λ_ h=>h.elim),λid e f=>?_,hp.unp,hp.sep,hp.bd⟩,⟨λ_ _ h=>h,λ_ _ h=>h,a.size,λc b _=>a.block c b,λ_ _ _=>rfl,λ_ _ h=>h⟩⟩;exact(hp.ents id e f).keep (λ_ _ h=>h) (λ_ _ h=>h) (λc b=>a.block c ((hp.ents id e f).block b).2)
theorem AR{P:Program}{W0:World}{f:FuncId}{args:List V}{v:V}(g:callable P f=true)
  (h:∀w vals,Below W0.heap.size W0 w->(∃μ H,VRels μ H args vals)->Calls P f vals.toArray w λe w'=>∃val,e=.returned val/\(∀μ H,Ao μ H v val)/\Below w.heap.size w w'):Al P W0 f args [] v [] where
 callable:=g
 dom id h:=h
 run n w μ H vals hp hv:=by refine(h w vals hp.base ⟨μ,H,hv⟩).mono λe w' ⟨val,i,j,c⟩=>?_;obtain⟨a,b⟩:=hp.below c;exact⟨val,μ,H,n,i,j μ H,a,A0h _,b,λ_ _ h=>h⟩
theorem Below.drewN_{B:Nat}{a w:World}(h:Below B a w)(n:Nat):Below B a (w.drewN n):=⟨h.os,h.tape,h.output,h.size,h.block⟩
theorem VRels.one_s{μ:Id->Option Value}{H:Addr->Option Value}{l:Aa}{vals:List Value}(h:VRels μ H [.s l] vals):vals=[.string ⟨l.toArray⟩]/\l.length<=AG:=by
 obtain⟨v,a,b⟩:=h.get (k:=0) rfl;have:=h.len
 match vals,this,a with
 | [x],_,a=>
  simp at a;subst a;cases b with
  | s l c=>exact⟨rfl,c⟩
theorem VRels.two{μ:Id->Option Value}{H:Addr->Option Value}{a b:V}{vals:List Value}(h:VRels μ H [a,b] vals):∃x y,vals=[x,y]/\Ao μ H a x/\Ao μ H b y:=by
 have:=h.len
 match vals,this with
 | [x,y],_=>exact⟨x,y,rfl,h.at_ 0 _ _ rfl rfl,h.at_ 1 _ _ rfl rfl⟩
variable(W0:World)
theorem B7{l:Aa}{μ:Id->Option Value}{H:Addr->Option Value}{x:Value}(h:Ao μ H (.s l) x):x=.string ⟨l.toArray⟩/\l.length<=AG:=by
 cases h with
 | s l a=>exact⟨rfl,a⟩
theorem Rn{a b:V}{x y:Value}(f:∀μ H,Ao μ H a x)(g:∀μ H,Ao μ H b y):∀μ H,Ao μ H (.tup [a,b]) (.tuple #[x,y]):=
 λμ H=>Ao.tup [a,b] [x,y] rfl λk c v e h=>by
  match k with
  | 0=>grind
  | 1=>grind
  | k+2=>simp at e
theorem Rj(s cs:Aa):(Lib.trimRightS s cs).length<=s.length:=by unfold Lib.trimRightS;rw[AzV];exact AmI (AyR _).length_le (by simp)
theorem Acj(s cs:Aa):(Lib.trimS s cs).length<=s.length:=by unfold Lib.trimS Lib.trimLeftS;exact AmI (AyR _).length_le (Rj s cs)
theorem Ed(s p:Aa):Al π W0 135 [.s s,.s p] [] (.tup [.s (Lib.trimPrefix s p),.b (Lib.hasPrefix s p)]) []:=by refine AR (by kernel_rfl) λw vals i ⟨μ,H,c⟩=>?_;obtain⟨x,y,rfl,g,h⟩:=c.two;obtain⟨rfl,j⟩:=B7 g;obtain⟨rfl,_⟩:=B7 h;refine(Any.strings_CutPrefix Tryz.lays103 ⟨s.toArray⟩ ⟨p.toArray⟩ w).mono λe w' ⟨a,f⟩=>?_;subst f;refine⟨_,a,Rn (λ_ _=>.s _ ?_) (λ_ _=>.b _),Aw0 _ _⟩;unfold Lib.trimPrefix;grind
theorem Mn(s:Aa)(c:UInt8):Al π W0 244 [.s s,.s [c]] [] (.i .i64 (Lib.indexByte s c)) []:=by refine AR (by kernel_rfl) λw vals j ⟨μ,H,b⟩=>?_;obtain⟨x,y,rfl,g,h⟩:=b.two;obtain⟨rfl,k⟩:=B7 g;obtain⟨rfl,_⟩:=B7 h;refine(Any.stringslite_Index_one Tryz.lays219 ⟨s.toArray⟩ c w).mono λe w' ⟨a,f⟩=>?_;subst f;exact⟨_,a,λ_ _=>.i _ _,Aw0 _ _⟩
theorem S3(s cs:Aa)(a:cs.length<4294967281)(f:∀b∈cs,b.toNat<128):Al π W0 190 [.s s,.s cs] [] (.s (Lib.trimS s cs)) []:=by refine AR (by kernel_rfl) λw vals p ⟨μ,H,i⟩=>?_;obtain⟨x,y,rfl,m,o⟩:=i.two;obtain⟨rfl,c⟩:=B7 m;obtain⟨rfl,_⟩:=B7 o;refine(Any.strings_Trim_laid Tryz.lays160 (by kernel_rfl) ⟨s.toArray⟩ ⟨cs.toArray⟩ w (by show s.toArray.size<=_;unfold AG at c;simp;omega) (by simpa[ByteArray.size] using a) (λj b h=>f b (AfA h))).mono λe w' ⟨g,k⟩=>?_;exact⟨_,g,λ_ _=>.s _ (AmI (Acj s cs) c),k⟩
theorem Abm(s cs:Aa)(a:cs.length<4294967281)(f:∀b∈cs,b.toNat<128):Al π W0 339 [.s s,.s cs] [] (.s (Lib.trimRightS s cs)) []:=by refine AR (by kernel_rfl) λw vals p ⟨μ,H,i⟩=>?_;obtain⟨x,y,rfl,m,o⟩:=i.two;obtain⟨rfl,c⟩:=B7 m;obtain⟨rfl,_⟩:=B7 o;refine(Any.strings_TrimRight_laid Tryz.lays162 (by kernel_rfl) ⟨s.toArray⟩ ⟨cs.toArray⟩ w (by show s.toArray.size<=_;unfold AG at c;simp;omega) (by simpa[ByteArray.size] using a) (λj b h=>f b (AfA h))).mono λe w' ⟨g,k⟩=>?_;exact⟨_,g,λ_ _=>.s _ (AmI (Rj s cs) c),k⟩
theorem AlS(s:Aa)(n:Int)(c:s.length<=18)(b:Lib.atoi s=some n):Al Tryz.prog W0 349 [.s s] [] (.tup [.i .i64 n,.ni]) []:=by refine AR (by kernel_rfl) λw vals h ⟨μ,H,f⟩=>?_;obtain⟨rfl,j⟩:=f.one_s;refine(Any.strconv_Atoi Tryz.lays172 ⟨s.toArray⟩ n (by simpa[ByteArray.size] using c) b w).mono λe w' ⟨a,t,g⟩=>?_;refine⟨_,a,Rn (λ_ _=>.i _ _) (λ_ _=>.ni),?_⟩;rw[g];exact Lib.bytesWorld_below _ _ _
theorem Aho(i:Nat)(f:i<100):Al π W0 221 [.i .i64 i] [] (.s (Lib.decDigits i)) []:=by
 refine AR (by kernel_rfl) λw vals j ⟨μ,H,b⟩=>?_;have a:=b.len;obtain⟨x,rfl⟩:∃x,vals=[x]:=by
  match vals,a with
  | [x],_=>exact⟨x,rfl⟩
 have h:=b.at_ 0 _ _ rfl rfl;cases h;refine(Any.strconv_Itoa_small Tryz.lays171 i f w).mono λe w' ⟨c,g⟩=>?_;subst g;refine⟨_,c,λ_ _=>.s _ ?_,Aw0 _ _⟩;unfold AG;unfold Lib.decDigits;split
 .simp
 .unfold Lib.decDigits;grind
end Go.Ir
end
namespace Go.Ir
open Go.Proofs
variable{P:Program}{W0:World}{nt n:Nat}{Q:Exit→St→Prop}{env:A9}{σ:Aj}
def tL:IC:=oS [mC 4 (.s []),mC 5 (.s []),mC 6 (.b false)] [0,1] (oR [m1 7 0,m1 8 1,q2 9 189 7 8,xT 10 9 0,xT 11 9 1,xT 12 9 2,m1 4 10,m1 5 11,m1 6 12] [4,5,6])
@[push_cast]def Aqt:List R:=[.t 4,.t 5,.t 6]
@[push_cast]def Ax1:=AM tL.eq_1
theorem Ajt:Au π 136 13 tL Aqt=true:=by kernel_rfl
def iO:IC:=sQ (.ops [m1 13 0,m1 14 7,o1 15 (.slS (.t 13) none (some (.t 14))),m1 16 0,m1 17 7,m1 18 1,nS 19 18,bT 20 .add 17 19,o1 21 (.slS (.t 16) (some (.t 20)) none),m1 4 15,m1 5 21,mC 6 (.b true)] [4,5,6] [[0,2],[1,2],[5,6],[4,7],[6,7],[3,8],[7,8],[2,9],[8,10]]) .ret
def dX:IC:=sQ (oS [m1 8 0,m1 9 1,q2 10 244 8 9,m1 7 10] [0,1,7] (oS [m1 11 7,bZ 12 .geq 11 0] [0,1,7,12] (cD 12 iO .skip))) (oR [m1 22 0,m1 4 22,mC 5 (.s []),mC 6 (.b false)] [4,5,6])
def fG:IC:=oS [mC 4 (.s []),mC 5 (.s []),mC 6 (.b false)] [0,1] dX
@[push_cast]def AsH:List R:=[.t 4,.t 5,.t 6]
@[push_cast]def Awh:=Aq iO.eq_1<|Aq dX.eq_1<|AM fG.eq_1
theorem bQ:Au π 189 23 fG AsH=true:=by kernel_rfl
def dE:IC:=oS [mC 2 (.b false)] [0] (oR [m1 3 0,o1 4 (.call 190 [.t 3,.c (.s [48,49,50,51,52,53,54,55,56,57])]),bC 5 .eql 4 (.s []),m1 2 5] [2])
@[push_cast]def AqT:List R:=[.t 2]
@[push_cast]def Ax8:=AM dE.eq_1
theorem Amb:Au π 137 6 dE AqT=true:=by kernel_rfl
def uW:IC:=oS [mC 2 (.b false)] [0] (oR [m1 3 0,o1 4 (.call 190 [.t 3,.c (.s [48])]),bC 5 .eql 4 (.s []),m1 2 5] [2])
@[push_cast]def Arg:List R:=[.t 2]
@[push_cast]def AxG:=AM uW.eq_1
theorem Ajh:Au π 191 6 uW Arg=true:=by kernel_rfl
def yH:IC:=oS [bX 1 0,mC 2 (.b false)] [1] (oR [fA 3 1 1,l1 4 3,q1 5 191 4,m1 6 5,Dr 7 6 1 2,Dp 8 6 7,gT 9 6 (.call 191 [.t 8]),pA 10 6 9,m1 2 10] [2])
@[push_cast]def Asz:List R:=[.t 2]
@[push_cast]def AwU:=AM yH.eq_1
theorem eJ:Au π 138 11 yH Asz=true:=by kernel_rfl
def mT:IC:=oS [m1 51 8,m1 52 51,B3 53 52 7,gT 54 52 (.lenS (.t 53)),CH 55 52 .eql 54 0,pA 56 52 55,m1 57 56,Bu 58 57 7,gF 59 57 (.lenS (.t 58)),D7 60 57 .gtr 59 6,pO 61 57 60,m1 62 61,Bu 63 62 7,gF 64 62 (.call 137 [.t 63]),gF 65 62 (.not (.t 64)),pO 66 62 65,m1 50 66] [2,5,9,50] (cD 50 (oR [lA 67 9 3,sT 2 67 3,mC 3 (.b false)] [2,3]) .skip)
def iW:IC:=sQ (.ops [lA 68 9 3,m1 69 5,nT 70 69,m1 71 70,gF 72 71 (.load (.t 9) 3 true),gF 73 71 (.call 138 [.t 72]),gF 74 71 (.not (.t 73)),pO 75 71 74,sT 2 68 3,m1 3 75] [2,3] [[1,2],[2,3],[3,4],[3,5],[4,5],[3,6],[5,6],[3,7],[6,7],[0,8],[4,5,8],[7,9]]) .ret
def AeI:IC:=sQ (.block 0 (oS [m1 26 6,nS 27 26,bZ 28 .lss 27 1,m1 29 28,Bu 30 29 6,gF 31 29 (.lenS (.t 30)),D7 32 29 .gtr 31 15,pO 33 29 32,m1 34 33,Bu 35 34 6,gF 36 34 (.call 137 [.t 35]),gF 37 34 (.not (.t 36)),pO 38 34 37,m1 39 38,Bu 40 39 6,gF 41 39 (.lenS (.t 40)),D7 42 39 .gtr 41 1,Bu 43 39 42,B3 44 43 6,gT 45 43 (.idx (.t 44) (ci 0)),gT 46 43 (.bin .eql (.t 45) (.c (.i .u8 48))),gF 47 39 (.pick (.t 43) (.t 46) (.c (.b false))),pO 48 39 47,m1 25 48] [2,5,7,8,9,25] (cD 25 (oR [lA 49 9 3,sT 2 49 3,mC 3 (.b false)] [2,3]) mT))) iW
def AfK:IC:=oS [m1 21 5,m1 22 6,m1 23 7,o1 24 (.build [.b false,.s [],.s []] [(0,1,.t 21),(1,1,.t 22),(2,1,.t 23)]),o1 9 (.alloc (.agg [.b false,.s [],.s []])),sT 9 24 3] [2,5,6,7,8,9] AeI
def AeE:IC:=oS [m1 11 0,o1 12 (.call 135 [.t 11,.c (.s [45])]),m1 10 12,xT 13 10 0,xT 14 10 1,m1 4 13,m1 5 14] [2,4,5] (oS [m1 16 4,o1 17 (.call 136 [.t 16,.c (.s [46])]),m1 15 17,xT 18 15 0,xT 19 15 1,xT 20 15 2,m1 6 18,m1 7 19,m1 8 20] [2,5,6,7,8] AfK)
def Af8:IC:=oS [o1 2 (.alloc (.agg [.b false,.s [],.s []])),mC 3 (.b false)] [0,2] AeE
@[push_cast]def Au5:List R:=[.c 2 3 true,.t 3]
@[push_cast]def AyL:=Aq mT.eq_1<|Aq iW.eq_1<|Aq AeI.eq_1<|Aq AfK.eq_1<|Aq AeE.eq_1<|AM Af8.eq_1
theorem Afp:Au π 98 76 Af8 Au5=true:=by kernel_rfl
def Agu:IC:=oS [mC 2 (.b false)] [0] (oS [m1 6 0,q1 7 98 6,m1 5 7,xT 8 5 0,xT 9 5 1,o1 3 (.alloc (.agg [.b false,.s [],.s []])),sT 3 8 3,m1 4 9] [4] (oR [m1 10 4,m1 2 10] [2]))
@[push_cast]def AvV:List R:=[.t 2]
@[push_cast]def Ays:=AM Agu.eq_1
theorem Anr:Au π 67 11 Agu AvV=true:=by kernel_rfl
def wY:IC:=oS [mZ 2 0] [0] (oS [m1 6 0,o1 7 (.bin .add (.c (.s [48])) (.t 6)),q1 8 349 7,m1 5 8,xT 9 5 0,xT 10 5 1,m1 3 9,m1 4 10] [3] (oR [m1 11 3,m1 2 11] [2]))
@[push_cast]def Ano:List R:=[.t 2]
@[push_cast]def AwV:=AM wY.eq_1
theorem AkO:Au π 340 12 wY Ano=true:=by kernel_rfl
def Vg:IC:=sQ (oS [m1 22 8,bC 23 .neq 22 (.s [])] [6,23] (cD 23 (oR [mZ 4 0,mZ 5 8] [4,5]) .skip)) (oR [fA 24 6 1,l1 25 24,q1 26 340 25,m1 4 26,mZ 5 0] [4,5])
def Wl:IC:=cD 41 (oR [fA 43 6 2,l1 44 43,q1 45 340 44,m1 4 45,mZ 5 0] [4,5]) (oS [bZ 47 .eql 19 6,m1 46 47] [8,46] (cD 46 (oR [m1 48 8,q1 49 340 48,m1 4 49,mZ 5 0] [4,5]) .skip))
def Xb:IC:=cD 32 (oR [fA 34 6 2,l1 35 34,nS 36 35,m1 4 36,mZ 5 0] [4,5]) (oS [bZ 38 .eql 19 4,m1 37 38] [6,8,19,37] (cD 37 (oR [m1 39 8,nS 40 39,m1 4 40,mZ 5 0] [4,5]) (oS [bZ 42 .eql 19 5,m1 41 42] [6,8,19,41] Wl)))
def WO:IC:=cD 20 Vg (oS [bZ 28 .eql 19 2,m1 27 28] [6,8,19,27] (cD 27 (oR [fA 29 6 1,l1 30 29,q1 31 340 30,m1 4 31,mZ 5 0] [4,5]) (oS [bZ 33 .eql 19 3,m1 32 33] [6,8,19,32] Xb)))
def UO:IC:=oS [fA 16 6 2,l1 17 16,o1 18 (.call 339 [.t 17,.c (.s [48])]),m1 8 18] [1,6,8] (sQ (oS [m1 19 1] [6,8,19] (.block 0 (oS [bZ 21 .eql 19 1,m1 20 21] [6,8,19,20] WO))) (oR [mZ 4 0,mZ 5 1] [4,5]))
def wG:IC:=oS [m1 10 0,q1 11 98 10,m1 9 11,xT 12 9 0,xT 13 9 1,o1 6 (.alloc (.agg [.b false,.s [],.s []])),sT 6 12 3,m1 7 13] [1,6,7] (sQ (oS [m1 14 7,nT 15 14] [1,6,15] (cD 15 (oR [mZ 4 0,mZ 5 1] [4,5]) .skip)) UO)
def uF:IC:=oS [mZ 4 0,mZ 5 0] [0,1] wG
@[push_cast]def Ap4:List R:=[.t 4,.t 5]
@[push_cast]def AxA:=Aq Vg.eq_1<|Aq Wl.eq_1<|Aq Xb.eq_1<|Aq WO.eq_1<|Aq UO.eq_1<|Aq wG.eq_1<|AM uF.eq_1
theorem yC:Au π 327 50 uF Ap4=true:=by kernel_rfl
end Go.Ir

namespace Go.Ir
open Go.Proofs
variable(W0:World)
theorem Amu(w r:Aa)(h:∀x∈w,(x !=46)=true)(f:∀x∈r.head?,(x !=46)=false)(e:w.length<=2^40):Al π W0 189 [.s (w++r),.s [46]] [] (.tup [.s w,.s r.tail,.b (!r.isEmpty)]) []:=by
 cases r with
 | nil=>
  refine Ae (vs:=[.s w,.s [],.b false]) bQ (by simp) (by simp) λn0 a=>?_;clear a;simp only[push_cast];have _h:=trivial;repeat' (first|(first|((first|apply Ab|apply Ag|apply Ah)<;>intro _h)|refine Ac (Mn W0 _ _) ?_)<;>(simp only[push_cast,seval,iU h];try (have _g:=_h;simp at _g))|intro _)
  all_goals (first|(refine Af ?_;simp <;>(intros;omega);done)|(refine Ad ?_;simp[push_cast];done)|skip)
 | cons c t=>
  have:c=46:=by simp_all
  subst this;refine Ae (vs:=[.s w,.s t,.b true]) bQ (by simp) (by simp) λn0 a=>?_;clear a;simp only[push_cast];have _h:=trivial;repeat' (first|(first|((first|apply Ab|apply Ag|apply Ah)<;>intro _h)|refine Ac (Mn W0 _ _) ?_)<;>(simp only[push_cast,seval,Ac6 h,Ai (46:UInt8) (dn:=w) (by omega)];try (have _g:=_h;simp at _g))|intro _)
  all_goals (first|(refine Af ?_;simp <;>(intros;omega);done)|(refine Ad ?_;simp[push_cast];done)|skip)
theorem AnW(w r:Aa)(h:∀x∈w,(x !=46)=true)(e:∀x∈r.head?,(x !=46)=false)(c:w.length<=2^40):Al π W0 136 [.s (w++r),.s [46]] [] (.tup [.s w,.s r.tail,.b (!r.isEmpty)]) []:=by
 refine Ae (vs:=[.s w,.s r.tail,.b (!r.isEmpty)]) Ajt (by simp) (by simp) λn0 a=>?_;clear a;simp only[push_cast,reduceEqDiff];have _h:=trivial;repeat' (first|(first|((first|apply Ab|apply Ag|apply Ah)<;>intro _h)|refine Ac (Amu W0 w r h e c) ?_)<;>(simp only[push_cast,reduceEqDiff];try (have _g:=_h;simp at _g))|intro _)
 all_goals (first|(refine Af ?_;simp <;>(intros;omega);done)|(refine Ad ?_;simp[push_cast];done)|skip)
theorem Ja(s:Aa):Al π W0 137 [.s s] [] (.b (Ca s)) []:=by
 refine Ae (vs:=[.b (Ca s)]) Amb (by simp) (by simp) λn0 a=>?_;clear a;simp only[push_cast];have _h:=trivial;repeat' (first|(first|((first|apply Ab|apply Ag|apply Ah)<;>intro _h)|refine Ac (S3 W0 _ _ (by decide) (by decide)) ?_)<;>(simp only[push_cast,OB];try (have _g:=_h;simp at _g))|intro _)
 all_goals (first|(refine Af ?_;simp <;>(intros;omega);done)|(refine Ad ?_;simp[push_cast];done)|skip)
theorem sL(s:Aa):Al π W0 191 [.s s] [] (.b (Dv s)) []:=by
 refine Ae (vs:=[.b (Dv s)]) Ajh (by simp) (by simp) λn0 a=>?_;clear a;simp only[push_cast];have _h:=trivial;repeat' (first|(first|((first|apply Ab|apply Ag|apply Ah)<;>intro _h)|refine Ac (S3 W0 _ _ (by decide) (by decide)) ?_)<;>(simp only[push_cast,Ug];try (have _g:=_h;simp at _g))|intro _)
 all_goals (first|(refine Af ?_;simp <;>(intros;omega);done)|(refine Ad ?_;simp[push_cast];done)|skip)
def JH(s:Aa):V:=.agg [.b (IK s),.s (AN s),.s (Bo s)]
theorem Wf(s:Aa):Al π W0 138 [JH s] [] (.b (Dv (AN s)&&Dv (Bo s))) []:=by
 unfold JH;refine Ae (vs:=[.b (Dv (AN s)&&Dv (Bo s))]) eJ (by simp) (by simp) λn0 a=>?_;clear a;simp only[push_cast,reduceEqDiff];have _h:=trivial;repeat' (first|(first|((first|apply Ab|apply Ag|apply Ah)<;>intro _h)|refine Ac (sL W0 _) ?_)<;>(simp only[push_cast,reduceEqDiff,_h];try (have _g:=_h;simp at _g))|intro _)
 all_goals (first|(refine Af ?_;simp <;>(intros;omega);done)|(refine Ad ?_;simp[push_cast, *];done)|skip)
theorem Ui(s:Aa)(a:s.length<=2^40):Al π W0 136 [.s (GN s),.s [46]] [] (.tup [.s (AN s),.s (Bo s),.b (!(Oy s).isEmpty)]) []:=by have:=JS s;rw[IV];exact AnW W0 _ _ (Nf _) (kF s) (by omega)
theorem KY(s:Aa)(f:s.length<=2^40):Al π W0 98 [.s s] [] (.tup [JH s,.b (DK s)]) []:=by
 generalize hS:DK s=S;unfold DK at hS;rcases hW:(AN s)[0]? with _|c
 .have e:(AN s).length=0:=by simpa using hW
  rw[e] at hS;subst hS;refine Ae (vs:=[JH s,.b _]) Afp (by simp) (by simp) λn0 a=>?_;clear a;simp only[push_cast,seval];have _h:=trivial;repeat' (first|(first|((first|apply Ab|apply Ag|apply Ah)<;>intro _h)|refine Ac ((Ed W0 s [45])) ?_|refine Ac (Ui W0 s f) ?_|refine Ac (Ja W0 (AN s)) ?_|refine Ac (Ja W0 (Bo s)) ?_|refine Ac (Wf W0 s) ?_)<;>(simp only[push_cast,seval,DL,E8,e];try (have _g:=_h;simp at _g))|intro _)
  all_goals (first|(refine Af ?_;simp[JH]<;>(intros;omega);done)|(refine Ad ?_;simp[push_cast,JH];done)|skip)
 .have g:dD (AN s)=((c.toNat:Int)==48):=by simp[dD,hW]
  rw[g] at hS;subst hS;refine Ae (vs:=[JH s,.b _]) Afp (by simp) (by simp) λn0 a=>?_;clear a;simp only[push_cast];have _h:=trivial;repeat' (first|(first|((first|apply Ab|apply Ag|apply Ah)<;>intro _h)|refine Ac ((Ed W0 s [45])) ?_|refine Ac (Ui W0 s f) ?_|refine Ac (Ja W0 (AN s)) ?_|refine Ac (Ja W0 (Bo s)) ?_|refine Ac (Wf W0 s) ?_)<;>(simp only[push_cast,seval,_h,DL,E8,hW];try (have _g:=_h;simp at _g))|intro _)
  all_goals (first|(refine Af ?_;simp[JH, *]<;>(intros;omega);done)|(refine Ad ?_;simp[push_cast,JH];done)|skip)
theorem G6(s:Aa)(c:s.length<=2^40):Al π W0 67 [.s s] [] (.b (DK s)) []:=by
 have:=KY W0 s c;unfold JH at this;refine Ae (vs:=[.b (DK s)]) Anr (by simp) (by simp) λn0 a=>?_;clear a;simp only[push_cast,reduceEqDiff];have _h:=trivial;repeat' (first|(first|((first|apply Ab|apply Ag|apply Ah)<;>intro _h)|refine Ac this ?_)<;>(simp only[push_cast,reduceEqDiff];try (have _g:=_h;simp at _g))|intro _)
 all_goals (first|(refine Af ?_;simp <;>(intros;omega);done)|(refine Ad ?_;simp[push_cast];done)|skip)
theorem OJ(s:Aa)(h:Ca s=true)(e:s.length<=15):Al π W0 340 [.s s] [] (.i .i64 (Ll 0 s)) []:=by
 have c:=AlS W0 (48::s) _ (by simp;omega) (o3 s h);have b:1+s.length<=AG:=by unfold AG;omega
 refine Ae (vs:=[.i .i64 (Ll 0 s)]) AkO (by simp) (by simp) λn0 a=>?_;clear a;simp only[push_cast,reduceEqDiff,b];have _h:=trivial;repeat' (first|(first|((first|apply Ab|apply Ag|apply Ah)<;>intro _h)|refine Ac c ?_)<;>(simp only[push_cast,reduceEqDiff];try (have _g:=_h;simp at _g))|intro _)
 all_goals (first|(refine Af ?_;simp <;>(intros;omega);done)|(refine Ad ?_;simp[push_cast];done)|skip)
theorem Ao8(s:Aa)(op:Int)(j:s.length<=2^40):Al π W0 327 [.s s,.i .i64 op] [] (.tup [.i .i64 (opV s op).1,.i .i64 (opV s op).2]) []:=by
 have b:=KY W0 s j;have c:=Abm W0 (Bo s) [48] (by decide) (by decide);unfold JH at b;rw[show Lib.trimRightS (Bo s) [48]=Jz (Bo s) from rfl] at c;by_cases e:DK s=true
 .obtain⟨g,f,h,k⟩:=Ga e;have m:=t6 (Bo s);have o:=OJ W0 (AN s) g h;have v2:=OJ W0 (Bo s) f (by omega);have v3:=OJ W0 (Jz (Bo s)) (P2 f) (by omega);generalize hS:opV s op=S;unfold opV at hS;refine Ae (vs:=[.i .i64 S.1,.i .i64 S.2]) yC (by simp) (by simp) λn0 a=>?_;clear a;simp only[push_cast,reduceEqDiff];have _h:=trivial;repeat' (first|(first|((first|apply Ab|apply Ag|apply Ah)<;>intro _h)|refine Ac b ?_|refine Ac c ?_|refine Ac o ?_|refine Ac v2 ?_|refine Ac v3 ?_)<;>(simp only[push_cast,reduceEqDiff,e];try (have _g:=_h;simp at _g))|intro _)
  all_goals subst hS
  all_goals (first|(refine Af ?_;simp[ *]<;>(intros;omega);done)|(refine Ad ?_;simp[push_cast, *];done)|skip)
 .generalize hS:opV s op=S;unfold opV at hS;rw[if_neg e] at hS;subst hS;rw[Bool.not_eq_true] at e;refine Ae (vs:=[.i .i64 0,.i .i64 1]) yC (by simp) (by simp) λn0 a=>?_;clear a;simp only[push_cast,reduceEqDiff];have _h:=trivial;repeat' (first|(first|((first|apply Ab|apply Ag|apply Ah)<;>intro _h)|refine Ac b ?_|refine Ac c ?_)<;>(simp only[push_cast,reduceEqDiff,e];try (have _g:=_h;simp at _g))|intro _)
  all_goals (first|(refine Af ?_;simp[ *]<;>(intros;omega);done)|(refine Ad ?_;simp[push_cast];done)|skip)

end Go.Ir

namespace Go.Ir
open Go.Proofs
variable{P:Program}{W0:World}{nt n:Nat}{Q:Exit→St→Prop}{env:A9}{σ:Aj}
end Go.Ir

namespace Go.Ir
open Go.Proofs
variable(W0:World)
def zV:Aa->Bool
 | []=>false
 | c::t=>(c.toNat:Int)==61&&DK t
def Rz(a:Int)(s:Aa):Bool:=if a==9 then Cy s else J4 s||zV s
theorem QY:DK []=false:=by decide
end Go.Ir
section
namespace Go.Ir
open Go.Proofs
variable(W0:World)
theorem Ak.frz{W0:World}{nt n n':Nat}{env env':A9}{σ:Aj}{id:Id}{e sz:Nat}{es:List V}(m:lk σ id=none)(q:∀y∈es,y.ok=true)
  (b:∀s,get env' s=get env s\/(get env s=.arr id/\get env' s=.sl es))(g:n<=n'):Ak W0 nt ⟨env,(id,.arr e sz es)::σ,n⟩ ⟨env',σ,n'⟩:=by
 refine Ak.weak (λi=>if i=id then some es else none) (λi es' h=>?_) (λs=>?_) (λi j h=>?_) g
 .split at h
  .rename_i p;subst p;cases h;exact⟨⟨e,sz,by simp[lk]⟩,m⟩
  .cases h
 .rcases b s with h|⟨f,a⟩
  .rw[h];exact .refl _
  .rw[f,a];refine .arr id es es (by simp) rfl (λk c o f a=>?_) (λk c o f a=>?_)
   .rw[f] at a;cases a;exact .refl _
   grind
 .refine⟨j,C3 m i j h,.refl _⟩
theorem Ak.frzAt{W0:World}{nt n n' s:Nat}{env:A9}{σ:Aj}{id:Id}{e sz:Nat}{es:List V}(f:get env s=.arr id)(c:lk σ id=none)(b:∀y∈es,y.ok=true)(a:n<=n') :
  Ak W0 nt ⟨env,(id,.arr e sz es)::σ,n⟩ ⟨(s,.sl es)::env,σ,n'⟩:=by
 refine Ak.frz c b (λt=>?_) a;by_cases h:s=t
 .subst h;exact .inr ⟨f,by simp[get]⟩
 .exact .inl (by simp[get,h])
theorem Ak.envD{W0:World}{nt n n':Nat}{env env':A9}{σ:Aj}(a:∀s,get env' s=get env s\/get env' s=.any)(b:n<=n'):Ak W0 nt ⟨env,σ,n⟩ ⟨env',σ,n'⟩:=by
 refine Ak.weak (λ_=>none) (λ_ _ h=>by cases h) (λs=>?_) (λi c h=>⟨c,h,.refl _⟩) b;rcases a s with h|h
 .rw[h];exact .refl _
 .rw[h];exact .any _
def Aue(k:Int)(n:Aa)(l:List Aa):List Aa:=if decide (k>=2)&&decide (k<=9)&&!l.contains n then l++[n] else l
mutual
def Aw.names:Aw->List Aa->List Aa
 | ⟨k,_,n,_,cs,ps⟩,l=>VU cs (Pi ps (Aue k n l))
def Pi:List Aw->List Aa->List Aa
 | [],l=>l
 | p::ps,l=>Pi ps (p.names l)
def VU:List (Aa×List Aw)->List Aa->List Aa
 | [],l=>l
 | (_,ps)::cs,l=>VU cs (Pi ps l)
end
end Go.Ir
end
namespace Go.Ir
open Go.Proofs
variable(W0:World)
def CO:Aa:=[111,116,104,101,114]
def HB(a:List CJ):Int:=(a.map λr=>1+(r.spans.length:Int)).sum
theorem Wr(a:List CJ):0<=HB a:=by
 induction a with
 | nil=>simp[HB]
 | cons r a b=>simp[HB] at *;omega
theorem zI(a:List CJ):HB a<C4 a:=by
 induction a with
 | nil=>simp[HB,C4]
 | cons r a b=>simp[HB,C4,CJ.wt] at *;omega
theorem Zs(r:CJ)(a:List CJ):HB (r::a)=(1+(r.spans.length:Int))+HB a:=by simp[HB]
def jJ(d:Int):List (List CJ)->Bool
 | []=>true
 | l::c=>!(decide (d+HB l>80))&&jJ (d+HB l) c
def FT(c:List (List CJ)):Bool:=jJ 0 c&&decide ((c.length:Int)<=30)
theorem Aki(c:List (List CJ))(F:Dc c<=2^24):Al π W0 53 [.sl (c.map EH)] [] (.b (FT c)) []:=by
 generalize hS:FT c=S;refine Ae (vs:=[.b S]) Ash (by simp) (by simp) λn0 q=>?_;clear q;simp only[push_cast,reduceEqDiff];intros;have u:=Ii c;refine Am c.length (Inv:=λm st=>∃dn a n d,c=dn++a/\m=a.length/\(jJ d a&&decide ((c.length:Int)<=30))=S/\0<=d/\d<=80/\st=⟨[(0,.sl (c.map EH)),(3,.i .i64 d),(4,.i .i64 dn.length)],[],n⟩) ⟨_,Ak.refl,[],c,_,0,rfl,rfl,hS,by omega,by omega,rfl⟩ ?_;clear hS;rintro m _ ⟨dn,a,n,d,h,rfl,k,o,A,rfl⟩;cases a with
 | nil=>
  subst k;simp only[push_cast,reduceEqDiff,h]
  repeat' (first|(((first|apply Ab|apply Ag|apply Ah)<;>intro _h)<;>(simp only[push_cast,reduceEqDiff];try (have _g:=_h;simp at _g)))|intro _)
  all_goals (refine Af ?_;simp[get,jJ])
 | cons p a=>
  have x:=AL h;have G:=Iw (l:=c) (r:=p) (by rw[h];simp);have C:=EN p;have D:=Wr p;have E:=zI p;rw[jJ] at k;simp only[push_cast,reduceEqDiff,h];intros;refine Am p.length (Inv:=λm st=>∃j g n e,p=j++g/\m=g.length/\e+HB g=d+HB p/\0<=e/\st=⟨[(0,.sl (c.map EH)),(3,.i .i64 e),(4,.i .i64 dn.length),(5,.i .i64 j.length)],[],n⟩) ⟨_,Ak.refl,[],p,_,_,rfl,rfl,rfl,o,by rw[h];rfl⟩ ?_;rintro m _ ⟨j,g,n,e,f,rfl,t,B,rfl⟩;cases g with
  | nil=>
   have:e=d+HB p:=by simp[HB] at t⊢;omega
   subst this;simp only[push_cast,reduceEqDiff,h,f]
   repeat' (first|(((first|apply Ab|apply Ag|apply Ah)<;>intro _h)<;>(simp only[push_cast,reduceEqDiff,Ai p (dn:=dn) (by omega)];try (have _g:=_h;simp at _g)))|intro _)
   all_goals (simp only[AoG] at f;subst f)
   .refine Af ?_;subst k;simp[get, *]
   .exact⟨_,_,A0j _,Ak.refl,dn++[p],a,_,d+HB p,by simp,rfl,by rw[<-k];simp[*],by omega,by omega,rfl⟩
  | cons r g=>have z:=AL f;have s:=HV (l:=p) (r:=r) (by simp[f]);rw[CJ.wt] at s;rw[Zs] at t;have y:=Wr g;have v:IntKind.i64.wrap (1+(r.spans.length:Int))=1+(r.spans.length:Int):=wrap64 (by omega) (by omega);have w:IntKind.i64.wrap (e+(1+(r.spans.length:Int)))=e+(1+(r.spans.length:Int)):=wrap64 (by omega) (by omega);simp only[push_cast,reduceEqDiff,h,f,Ai r (dn:=j) (by omega),v,w];intros;exact⟨_,_,A0j _,Ak.refl,j++[r],g,_,e+(1+(r.spans.length:Int)),by simp,rfl,by rw[<-f];omega,by omega,rfl⟩
end Go.Ir

namespace Go.Ir
open Go.Proofs
variable{P:Program}{W0:World}{nt n:Nat}{Q:Exit→St→Prop}{env:A9}{σ:Aj}
def XB:IC:=sQ (oS [bZ 13 .eql 5 5,m1 12 13] [1,5,12] (cD 12 .skip (oP [bZ 14 .eql 5 6,m1 12 14] [1,12]))) (cD 12 (oR [m1 15 1,bZ 16 .eql 15 10,m1 17 16,Bu 18 17 1,D7 19 17 .eql 18 100,pO 20 17 19,m1 4 20] [4]) .skip)
def oL:IC:=.block 0 (sQ (oS [bZ 7 .eql 5 1,m1 6 7] [1,5,6] (cD 6 .skip (oP [bZ 8 .eql 5 2,m1 6 8] [1,5,6]))) (cD 6 (oR [o1 9 (.msl false 3 1 [ci 2,ci 3,ci 4,ci 5,ci 6,ci 10,ci 20,ci 25,ci 50,ci 100]),m1 10 1,q2 11 325 9 10,m1 4 11] [4]) XB))
def lO:IC:=oS [mC 4 (.b false)] [0,1] (sQ (oS [m1 5 0] [1,5] oL) (oR [mC 4 (.b false)] [4]))
@[push_cast]def AsP:List R:=[.t 4]
@[push_cast]def Axb:=Aq XB.eq_1<|Aq oL.eq_1<|AM lO.eq_1
theorem Aju:Au π 300 21 lO AsP=true:=by kernel_rfl
def pQ:IC:=oS [mZ 2 0] [0] (sQ (oS [m1 3 0,bZ 4 .eql 3 3,m1 5 4,Bu 6 5 0,D7 7 5 .eql 6 4,pO 8 5 7] [8] (cD 8 (oR [mZ 2 6] [2]) .skip)) (oR [mZ 2 100] [2]))
@[push_cast]def AsQ:List R:=[.t 2]
@[push_cast]def Aw7:=AM pQ.eq_1
theorem AjZ:Au π 301 9 pQ AsQ=true:=by kernel_rfl
def Yo:IC:=sQ (.ops [fA 45 4 0,l1 46 45,bZ 47 .lss 46 0,m1 48 47,DP 49 48 4 0,Dy 50 48 49,DP 51 48 4 1,Dy 52 48 51,gF 53 48 (.bin .gtr (.t 50) (.t 52)),pO 54 48 53,m1 55 54,DP 56 55 4 1,Dy 57 55 56,DP 58 55 1 0,Dy 59 55 58,gF 60 55 (.call 301 [.t 59]),gF 61 55 (.bin .gtr (.t 57) (.t 60)),pO 62 55 61] [1,39,40,41,62] [[0,1],[1,2],[2,3],[3,4],[3,5],[4,5],[3,6],[3,7],[6,7],[3,8],[5,8],[7,8],[3,9],[8,9],[9,10],[10,11],[10,12],[11,12],[10,13],[10,14],[13,14],[10,15],[14,15],[10,16],[12,16],[15,16],[10,17],[16,17]]) (cD 62 (oR [mC 2 (.b false)] [2]) .skip)
def WL:IC:=sQ (.block 1 (oS [iA 43 39 41 337 2,lA 44 43 2,o1 4 (.alloc (.agg [.i .i64 0,.i .i64 0])),sT 4 44 2] [1,4,39,40,41] Yo)) (oP [bZ 63 .add 41 1,m1 41 63] [1,39,40,41])
def e9:IC:=sQ (oS [fA 38 1 3,l1 39 38,nL 40 39,mZ 41 0] [1,39,40,41] (.block 0 (.loop (oS [bT 42 .lss 41 40] [1,39,40,41,42] (sQ (cD 42 .skip (.exit 0)) WL))))) (oR [mC 2 (.b true)] [2])
def qI:IC:=sQ (oS [fA 5 1 0,l1 6 5,bZ 7 .lss 6 1,m1 8 7,DP 9 8 1 0,Dy 10 8 9,D7 11 8 .gtr 10 6,pO 12 8 11,m1 13 12,DP 14 13 1 1,Dy 15 13 14,D7 16 13 .neq 15 0,Bu 17 13 16,Dr 18 17 1 0,Dp 19 17 18,Dr 20 17 1 1,Dp 21 17 20,gT 22 17 (.call 300 [.t 19,.t 21]),gT 23 17 (.not (.t 22)),gF 24 13 (.pick (.t 17) (.t 23) (.c (.b false))),pO 25 13 24,m1 26 25,DP 27 26 1 3,Dy 28 26 27,gF 29 26 (.lenL (.t 28)),D7 30 26 .lss 29 1,pO 31 26 30,m1 32 31,DP 33 32 1 3,Dy 34 32 33,gF 35 32 (.lenL (.t 34)),D7 36 32 .gtr 35 4,pO 37 32 36] [1,37] (cD 37 (oR [mC 2 (.b false)] [2]) .skip)) e9
def jG:IC:=oS [bX 1 0,mC 2 (.b false)] [1] qI
@[push_cast]def ArP:List R:=[.t 2]
@[push_cast]def Ax4:=Aq Yo.eq_1<|Aq WL.eq_1<|Aq e9.eq_1<|Aq qI.eq_1<|AM jG.eq_1
theorem Amw:Au π 265 64 jG ArP=true:=by kernel_rfl
def pM:IC:=oS [bX 1 0,mC 2 (.b false)] [1] (oR [lA 3 1 4,q1 4 265 3,nT 5 4,m1 2 5] [2])
@[push_cast]def Apu:List R:=[.t 2]
@[push_cast]def Axy:=AM pM.eq_1
theorem AhV:Au π 264 6 pM Apu=true:=by kernel_rfl
def V0:IC:=sQ (oS [m1 12 5,nL 13 12,bZ 14 .eql 13 0,m1 15 14,Bu 16 15 5,gF 17 15 (.calls 263 [.t 16,.c (.fn 264 [] [])]),pO 18 15 17] [0,3,5,6,7,8,18] (cD 18 (oR [mC 2 (.b false)] [2]) .skip)) (oP [m1 19 3,m1 20 5,nL 21 20,bT 22 .add 19 21,m1 3 22] [0,3,6,7,8])
def eQ:IC:=oS [bT 9 .lss 8 7] [0,3,6,7,8,9] (sQ (cD 9 .skip (.exit 0)) (sQ (.block 1 (oS [iA 10 6 8 172 1,l1 11 10,m1 5 11] [0,3,5,6,7,8] V0)) (oP [bZ 23 .add 8 1,m1 8 23] [0,3,6,7,8])))
def l9:IC:=sQ (oS [m1 6 0,nL 7 6,mZ 8 0] [0,3,6,7,8] (.block 0 (.loop eQ))) (oR [m1 24 0,nL 25 24,bZ 26 .gtr 25 0,m1 27 26,B3 28 27 3,CH 29 27 .leq 28 6,pA 30 27 29,m1 2 30] [2])
def gE:IC:=oS [mC 2 (.b false)] [0] (oS [mZ 3 0] [0,3] l9)
@[push_cast]def ArF:List R:=[.t 2]
@[push_cast]def Axl:=Aq V0.eq_1<|Aq eQ.eq_1<|Aq l9.eq_1<|AM gE.eq_1
theorem Aia:Au π 206 31 gE ArF=true:=by kernel_rfl
def eM:IC:=oR [l1 4 1,fA 5 2 0,l1 6 5,bT 7 .geq 4 6,m1 8 7,Dp 9 8 1,Dr 10 8 2 1,Dp 11 8 10,gT 12 8 (.bin .leq (.t 9) (.t 11)),pA 13 8 12,m1 3 13] [3]
def vZ:IC:=oS [bX 2 0,mC 3 (.b false)] [1,2] eM
@[push_cast]def Anp:List R:=[.t 3]
@[push_cast]def Ax0:=Aq eM.eq_1<|AM vZ.eq_1
theorem Ak2:Au π 342 14 vZ Anp=true:=by kernel_rfl
def mR:IC:=oS [bX 3 1,mC 4 (.b false)] [0,3] (oR [m1 5 0,o1 6 (.mkfn 342 [] [.t 3]),o1 7 (.calls 341 [.t 5,.t 6]),m1 4 7] [4])
@[push_cast]def Aos:List R:=[.t 4]
@[push_cast]def AxH:=AM mR.eq_1
theorem Amg:Au π 328 8 mR Aos=true:=by kernel_rfl
def Wb:IC:=sQ (.ops [fA 25 2 3,l1 26 25,m1 27 5,q2 28 328 26 27,fA 29 2 2,l1 30 29,o1 31 (.eqb true (.t 28) (.t 30)),m1 4 31] [4] [[0,1],[1,3],[2,3],[4,5],[3,6],[5,6],[6,7]]) .ret
def xU:IC:=oS [m1 8 1,fA 9 2 0,l1 10 9,q2 11 327 8 10,m1 7 11,xT 12 7 0,xT 13 7 1,m1 5 12,m1 6 13] [2,5,6] (sQ (oS [m1 14 6,bZ 15 .neq 14 0] [2,5,15] (cD 15 (oR [fA 16 2 2,l1 17 16,m1 4 17] [4]) .skip)) (sQ (oS [fA 18 2 1,l1 19 18,bZ 20 .neq 19 0] [2,5,20] (cD 20 (oP [m1 21 5,fA 22 2 1,l1 23 22,bT 24 .rem 21 23,m1 5 24] [2,5]) .skip)) Wb))
def mL:IC:=oS [bX 2 0,mC 4 (.b false)] [1,2] xU
@[push_cast]def Aog:List R:=[.t 4]
@[push_cast]def Axs:=Aq Wb.eq_1<|Aq xU.eq_1<|AM mL.eq_1
theorem AiF:Au π 305 32 mL Aog=true:=by kernel_rfl
def xH:IC:=oS [bX 2 0,mC 3 (.b false)] [1,2] (oR [lA 4 2 4,l1 5 1,q2 6 305 4 5,nT 7 6,m1 3 7] [3])
@[push_cast]def Apd:List R:=[.t 3]
@[push_cast]def Axi:=AM xH.eq_1
theorem AgR:Au π 304 8 xH Apd=true:=by kernel_rfl
def vH:IC:=oS [mC 3 (.b false)] [0,1] (oR [m1 4 0,o1 5 (.mkfn 304 [] [.t 1]),o1 6 (.calls 263 [.t 4,.t 5]),nT 7 6,m1 3 7] [3])
@[push_cast]def AoV:List R:=[.t 3]
@[push_cast]def Aw8:=AM vH.eq_1
theorem Ahv:Au π 303 8 vH AoV=true:=by kernel_rfl
def vU:IC:=sQ (oS [m1 6 0,q1 7 206 6,nT 8 7,m1 9 8,Dy 10 9 3,gF 11 9 (.call 67 [.t 10]),gF 12 9 (.not (.t 11)),pO 13 9 12] [0,3,13] (cD 13 (oR [mC 4 (.b false),mZ 5 1] [4,5]) .skip)) (oR [m1 14 0,o1 15 (.mkfn 303 [] [.t 3]),o1 16 (.calls 302 [.t 14,.t 15]),m1 4 16,mZ 5 0] [4,5])
def eY:IC:=oS [bX 3 1,mC 4 (.b false),mZ 5 0] [0,3] vU
@[push_cast]def Aqj:List R:=[.t 4,.t 5]
@[push_cast]def Axz:=Aq vU.eq_1<|AM eY.eq_1
theorem AgX:Au π 267 17 eY Aqj=true:=by kernel_rfl
def l8:IC:=oR [o1 1 (.build [.s [],.s [],.s [],.s [],.s [],.s []] [(0,1,.c (.s [122,101,114,111])),(1,1,.c (.s [111,110,101])),(2,1,.c (.s [116,119,111])),(3,1,.c (.s [102,101,119])),(4,1,.c (.s [109,97,110,121])),(5,1,.c (.s [111,116,104,101,114]))]),sT 0 1 6] [0]
def oQ:IC:=oS [o1 0 (.alloc (.agg [.s [],.s [],.s [],.s [],.s [],.s []]))] [0] l8
@[push_cast]def AnC:List R:=[.c 0 6 true]
@[push_cast]def Aw2:=Aq l8.eq_1<|AM oQ.eq_1
theorem Ald:Au π 262 2 oQ AnC=true:=by kernel_rfl
def wO:IC:=oS [o1 4 (.call 262 []),o1 3 (.alloc (.agg [.s [],.s [],.s [],.s [],.s [],.s []])),sT 3 4 6] [0,3] (oR [o1 5 (.frz (.t 3) 6),m1 6 0,q2 7 241 5 6,m1 2 7] [2])
def dZ:IC:=oS [mC 2 (.b false)] [0] wO
@[push_cast]def ApA:List R:=[.t 2]
@[push_cast]def Awk:=Aq wO.eq_1<|AM dZ.eq_1
theorem Aj8:Au π 205 8 dZ ApA=true:=by kernel_rfl
def bY:IC:=oS [bX 2 0,mC 3 (.b false)] [1,2] (oR [fA 4 2 0,l1 5 4,fA 6 1 0,l1 7 6,bT 8 .eql 5 7,m1 3 8] [3])
@[push_cast]def AsC:List R:=[.t 3]
@[push_cast]def AxF:=AM bY.eq_1
theorem AmB:Au π 208 9 bY AsC=true:=by kernel_rfl
def V4:IC:=oS [fA 12 4 0,l1 13 12,q1 14 205 13,nT 15 14,m1 16 15,DP 17 16 4 0,Dy 18 16 17,gF 19 16 (.bin .eql (.t 18) (.c (.s [111,116,104,101,114]))),pO 20 16 19,m1 21 20,DP 22 21 4 1,Dy 23 21 22,gF 24 21 (.call 206 [.t 23]),gF 25 21 (.not (.t 24)),pO 26 21 25,m1 27 26,Bu 28 27 0,Bu 29 27 3,gF 30 27 (.slL (.t 28) none (some (.t 29)) 2),gF 31 27 (.mkfn 208 [] [.t 4]),gF 32 27 (.calls 207 [.t 30,.t 31]),pO 33 27 32] [0,5,6,7,33] (cD 33 (oR [mC 2 (.b false)] [2]) .skip)
def VL:IC:=sQ (.block 1 (oS [m1 9 7,iA 10 5 7 139 2,lA 11 10 2,o1 4 (.alloc (.agg [.s [],.nil])),m1 3 9,sT 4 11 2] [0,3,4,5,6,7] V4)) (oP [bZ 34 .add 7 1,m1 7 34] [0,5,6,7])
def eO:IC:=sQ (oS [m1 5 0,nL 6 5,mZ 7 0] [0,5,6,7] (.block 0 (.loop (oS [bT 8 .lss 7 6] [0,5,6,7,8] (sQ (cD 8 .skip (.exit 0)) VL))))) (oR [mC 2 (.b true)] [2])
def tV:IC:=oS [mC 2 (.b false)] [0] eO
@[push_cast]def As7:List R:=[.t 2]
@[push_cast]def AwF:=Aq V4.eq_1<|Aq VL.eq_1<|Aq eO.eq_1<|AM tV.eq_1
theorem AjW:Au π 152 35 tV As7=true:=by kernel_rfl
def XN:IC:=cD 42 (oR [m1 45 12,mC 4 (.s []),m1 5 45] [4,5]) (oS [m1 47 11,m1 46 47] [1,10,29,30,31,46] (cD 46 (oR [fA 48 10 0,l1 49 48,m1 4 49,mZ 5 0] [4,5]) .skip))
def WM:IC:=oS [fA 36 10 1,l1 37 36,m1 38 1,q2 39 267 37 38,m1 35 39,xT 40 35 0,xT 41 35 1,m1 11 40,m1 12 41] [1,10,11,12,29,30,31] (.block 2 (oS [m1 43 12,bZ 44 .neq 43 0,m1 42 44] [1,10,11,12,29,30,31,42] XN))
def X9:IC:=sQ (.block 1 (oS [iA 33 29 31 139 2,lA 34 33 2,o1 10 (.alloc (.agg [.s [],.nil])),sT 10 34 2] [1,10,29,30,31] WM)) (oP [bZ 50 .add 31 1,m1 31 50] [1,29,30,31])
def Xc:IC:=sQ (oS [m1 29 0,nL 30 29,mZ 31 0] [1,29,30,31] (.block 0 (.loop (oS [bT 32 .lss 31 30] [1,29,30,31,32] (sQ (cD 32 .skip (.exit 0)) X9))))) (oR [mC 4 (.s [111,116,104,101,114]),mZ 5 0] [4,5])
def WC:IC:=sQ (oS [m1 22 6,m1 23 1,q2 24 267 22 23,m1 21 24,xT 25 21 0,xT 26 21 1,m1 7 25,m1 8 26] [0,1,8] (oS [m1 27 8,bZ 28 .neq 27 0] [0,1,28] (cD 28 (oR [mC 4 (.s []),mZ 5 1] [4,5]) .skip))) Xc
def eC:IC:=oS [o1 16 (.build [.i .i64 0,.i .i64 0] []),o1 17 (.msl false 337 2 [.t 16]),o1 18 (.build [.i .i64 0,.i .i64 0,.b false,.nil] [(0,1,ci 2),(2,1,.c (.b true)),(3,1,.t 17)]),o1 19 (.msl false 175 4 [.t 18]),o1 20 (.msl false 172 1 [.t 19]),m1 6 20] [0,1,6] WC
def sV:IC:=oS [mC 4 (.s []),mZ 5 0] [0,1] (sQ (oS [m1 13 0,q1 14 152 13,nT 15 14] [0,1,15] (cD 15 (oR [mC 4 (.s []),mZ 5 1] [4,5]) .skip)) eC)
@[push_cast]def Anh:List R:=[.t 4,.t 5]
@[push_cast]def AwB:=Aq XN.eq_1<|Aq WM.eq_1<|Aq X9.eq_1<|Aq Xc.eq_1<|Aq WC.eq_1<|Aq eC.eq_1<|AM sV.eq_1
theorem Tt:Au π 210 51 sV Anh=true:=by kernel_rfl
end Go.Ir

namespace Go.Ir
open Go.Proofs
variable(W0:World)
def Vz:List Int:=[2,3,4,5,6,10,20,25,50,100]
theorem nZ(l:List Int)(v:Int):decide (B8 (λx=>v==x) l>=0)=l.contains v:=by rw[Gc,List.contains_eq_any_beq]
theorem ArS:Au π 338 19 (QD 3) AcP=true:=by kernel_rfl
theorem AqA:Au π 325 9 (Ve 338) Aiq=true:=by kernel_rfl
theorem Sh(l:List Int)(v:Int)(a:l.length<2^62):Al π W0 325 [.sl (l.map (V.i .i64)),.i .i64 v] [] (.b (l.contains v)) []:=by rw[<-nZ];exact HH W0 AqA _ _ _ (Uk W0 ArS l v a)
def WE(op mod:Int):Bool:=if op==1||op==2 then Vz.contains mod else if op==5||op==6 then mod==10||mod==100 else false
theorem Rg(op mod:Int):Al π W0 300 [.i .i64 op,.i .i64 mod] [] (.b (WE op mod)) []:=by
 have a:=Sh W0 Vz mod (by decide);unfold Vz at a;simp only[Ajf,Ast] at a;generalize hS:WE op mod=S;unfold WE Vz at hS;refine Ae (vs:=[.b S]) Aju (by simp) (by simp) λn0 c=>?_;clear c;simp only[push_cast,reduceEqDiff];have _h:=trivial;repeat' (first|(first|((first|apply Ab|apply Ag|apply Ah)<;>intro _h)|refine Ac a ?_)<;>(simp only[push_cast,reduceEqDiff,_h];try (have _g:=_h;simp at _g))|intro _)
 all_goals subst hS
 all_goals (first|(refine Af ?_;simp[ *]<;>(intros;omega);done)|(refine Ad ?_;simp[push_cast, *];done)|skip)
def AcX(op:Int):Int:=if op==3||op==4 then 6 else 100
theorem TY(op:Int):Al π W0 301 [.i .i64 op] [] (.i .i64 (AcX op)) []:=by
 generalize hS:AcX op=S;unfold AcX at hS;refine Ae (vs:=[.i .i64 S]) AjZ (by simp) (by simp) λn0 a=>?_;clear a;simp only[push_cast,reduceEqDiff]
 repeat' (first|(((first|apply Ab|apply Ag|apply Ah)<;>intro _h)<;>(simp only[push_cast,reduceEqDiff,_h];try (have _g:=_h;simp at _g)))|intro _)
 all_goals subst hS
 all_goals (first|(refine Af ?_;simp[ *]<;>(intros;omega);done)|(refine Ad ?_;simp[push_cast, *];done)|skip)
def US(op:Int)(s:Gk):Bool:=!(decide (s.lo<0)||decide (s.lo>s.hi)||decide (s.hi>AcX op))
def Fj(r:CJ):Bool:=!(decide (r.op<1)||decide (r.op>6)||(r.mod !=0&&!WE r.op r.mod)||decide ((r.spans.length:Int)<1)||decide ((r.spans.length:Int)>4))&&r.spans.all (US r.op)
theorem sI(r:CJ)(h:r.spans.length<=2^30):Al π W0 265 [r.enc] [] (.b (Fj r)) []:=by
 generalize hS:Fj r=S;unfold Fj at hS;rw[CJ.enc_eq];refine Ae (vs:=[.b S]) Amw (by simp) (by simp) λn0 e=>?_;clear e;simp only[push_cast,reduceEqDiff];have _h:=trivial;repeat' (first|(first|((first|apply Ab|apply Ag|apply Ah)<;>intro _h)|refine Ac (Rg W0 _ _) ?_)<;>(simp only[push_cast,reduceEqDiff,_h];try (have _g:=_h;simp at _g))|intro _)
 all_goals (first|(refine Af ?_;subst hS;simp[get, *];done)|skip)
 all_goals
  have c:r.spans.all (US r.op)=S:=by subst hS;simp[*]
  clear hS;refine Am r.spans.length (Inv:=λm st=>∃dn a n,r.spans=dn++a/\m=a.length/\a.all (US r.op)=S/\st=⟨[(1,.ref (n0,1) 0),(39,.sl (r.spans.map Gk.enc)),(40,.i .i64 r.spans.length),(41,.i .i64 dn.length)],[((n0,1),.box r.enc)],n⟩) ⟨_,Ak.refl,[],_,_,rfl,rfl,c,rfl⟩ ?_;clear c;rintro m _ ⟨dn,a,n,f,rfl,c,rfl⟩;cases a with
  | nil=>
   simp only[push_cast,reduceEqDiff,f]
   repeat' (first|(((first|apply Ab|apply Ag|apply Ah)<;>intro _h)<;>(simp only[push_cast,reduceEqDiff,_h];try (have _g:=_h;simp at _g)))|intro _)
   all_goals (first|(refine Af ?_;simp[get,<-c]<;>(intros;omega);done)|(refine Ad ?_;simp[push_cast,get,<-c];done)|skip)
  | cons s a=>
   have g:=AL f;rw[Azv,US] at c;simp only[push_cast,reduceEqDiff,f];have _h:=trivial;repeat' (first|(first|((first|apply Ab|apply Ag|apply Ah)<;>intro _h)|refine Ac (TY W0 r.op) ?_)<;>(simp only[push_cast,reduceEqDiff,_h,Ai s (dn:=dn) (by omega)];try (have _g:=_h;simp at _g))|intro _)
   all_goals (first|(exact⟨_,_,A0j _,Ak.drop1 (by simp[lk]) (A0h _),dn++[s],a,_,by simp,rfl,by rw[<-c];simp[*],rfl⟩)|skip)
   all_goals subst c
   all_goals (first|(refine Af ?_;simp[get, *]<;>(intros;omega);done)|(refine Ad ?_;simp[push_cast,get, *];done)|skip)
theorem lK(r:CJ)(c:r.spans.length<=2^30):Al π W0 264 [r.enc] [] (.b (!Fj r)) []:=by
 have h:=sI W0 r c;rw[CJ.enc_eq] at *;refine Ae (vs:=[.b (!Fj r)]) AhV (by simp) (by simp) λn0 a=>?_;clear a;simp only[push_cast,reduceEqDiff];have _h:=trivial;repeat' (first|(first|((first|apply Ab|apply Ag|apply Ah)<;>intro _h)|refine Ac h ?_)<;>(simp only[push_cast];try (have _g:=_h;simp at _g))|intro _)
 all_goals (first|(refine Af ?_;simp <;>(intros;omega);done)|(refine Ad ?_;simp[push_cast];done)|skip)
theorem Ar2:Au π 299 19 (Mj 175 4 true) Z7=true:=by kernel_rfl
theorem ArQ:Au π 263 9 (N6 299) gG=true:=by kernel_rfl
theorem xQ(l:List CJ)(p:CJ->Bool)(g:FuncId)(a:List V)(σ:Aj)(c:∀r∈l,Al π W0 g ([r.enc]++a) σ (.b (p r)) σ)(e:l.length<2^62) :
  Al π W0 263 [.sl (l.map CJ.enc),.fn g [] a] σ (.b (l.any p)) σ:=by
 rw[<-Gc];exact C8 W0 ArQ _ _ _ _ (CM W0 Ar2 CJ.enc l p g [] a σ (λx _=>Jb rfl) (λr f=>c r f) e)
def Lj(c:List (List CJ)):Int:=(c.map λl=>(l.length:Int)).sum
theorem Og(l:List CJ)(c:List (List CJ)):Lj (l::c)=l.length+Lj c:=by simp[Lj]
def Vq(l:List CJ):Bool:=!((l.length:Int)==0||l.any λr=>!Fj r)
def HI(c:List (List CJ)):Bool:=c.all Vq&&(decide ((c.length:Int)>0)&&decide (Lj c<=6))
theorem XT(c:List (List CJ)):0<=Lj c/\Lj c<=Dc c:=by
 induction c with
 | nil=>simp[Lj]
 | cons l c a=>have:=EN l;rw[Og,Dc];omega
theorem Wd(c:List (List CJ))(y:Dc c<=2^30):Al π W0 206 [.sl (c.map EH)] [] (.b (HI c)) []:=by
 generalize hS:HI c=S;unfold HI at hS;have p:=Ii c;have x:=XT c;refine Ae (vs:=[.b S]) Aia (by simp) (by simp) λn0 k=>?_;clear k;simp only[push_cast,reduceEqDiff];intros;refine Am c.length (Inv:=λm st=>∃dn a n d,c=dn++a/\m=a.length/\(a.all Vq&&(decide ((c.length:Int)>0)&&decide (d+Lj a<=6)))=S/\0<=d/\d+Lj a=Lj c/\st=⟨[(0,.sl (c.map EH)),(3,.i .i64 d),(6,.sl (c.map EH)),(7,.i .i64 c.length),(8,.i .i64 dn.length)],[],n⟩) ⟨_,Ak.refl,[],_,_,0,rfl,rfl,by rw[Int.zero_add];exact hS,by omega,by omega,rfl⟩ ?_;clear hS;rintro m _ ⟨dn,a,n,d,e,rfl,f,t,j,rfl⟩;cases a with
 | nil=>
  rw[show Lj []=0 from rfl,Int.add_zero] at f;simp only[push_cast,reduceEqDiff,e];rw[AoG] at e
  repeat' (first|(((first|apply Ab|apply Ag|apply Ah)<;>intro _h)<;>(simp only[push_cast,reduceEqDiff,_h];try (have _g:=_h;simp at _g)))|intro _)
  all_goals subst f
  all_goals subst e
  all_goals (first|(refine Af ?_;simp[ *]<;>(intros;omega);done)|(refine Ad ?_;simp[push_cast, *];done)|skip)
 | cons l a=>
  have s:=AL e;have z:=Iw (l:=c) (r:=l) (by rw[e];simp);have u:=EN l;rw[Azv] at f;rw[Og] at f j;have w:=XT a;have q:IntKind.i64.wrap (d+(l.length:Int))=d+(l.length:Int):=wrap64 (by omega) (by omega);have o:=xQ W0 l (λr=>!Fj r) 264 [] [] (λr v=>lK W0 r (by have:=HV v;rw[CJ.wt] at this;omega)) (by omega);obtain⟨A,h⟩:∃A,(l.any λr=>!Fj r)=A:=⟨_,rfl⟩
  have g:Vq l=!((l.length:Int)==0||A):=by unfold Vq;rw[h]
  rw[h] at o;rw[g] at f;clear h g;simp only[push_cast,reduceEqDiff,e]
  repeat' (first|(((first|apply Ab|apply Ag|apply Ah)<;>intro _h)<;>(simp only[push_cast,reduceEqDiff,_h];try (have _g:=_h;simp at _g)))|intro _)
  all_goals (try (refine vY o ?_;simp only[push_cast,reduceEqDiff]))
  repeat' (first|(((first|apply Ab|apply Ag|apply Ah)<;>intro _h)<;>(simp only[push_cast,reduceEqDiff,Ai l (dn:=dn) (by omega),q];try (have _g:=_h;simp at _g)))|intro _)
  all_goals (first|(exact⟨_,_,A0j _,Ak.refl,dn++[l],a,_,_,by simp,rfl,by grind,by omega,by rw[<-e];omega,rfl⟩)|skip)
  all_goals subst f
  all_goals (first|(refine Af ?_;simp[ *]<;>(intros;omega);done)|(refine Ad ?_;simp[push_cast, *];done)|skip)
def inB(l:List Gk)(n:Int):Bool:=l.any λs=>decide (n>=s.lo)&&decide (n<=s.hi)
theorem AjB:Au π 350 19 (Mj 337 2 true) Z7=true:=by kernel_rfl
theorem Al8:Au π 341 9 (N6 350) gG=true:=by kernel_rfl
theorem ArI(s:Gk)(n:Int)(a:Nat):Al π W0 342 [s.enc,.ref (a,3) 0] [((a,3),.box (.i .i64 n))] (.b (decide (n>=s.lo)&&decide (n<=s.hi))) [((a,3),.box (.i .i64 n))]:=by
 rw[Gk.enc_eq];refine Ae (vs:=[.b (decide (n>=s.lo)&&decide (n<=s.hi))]) Ak2 (by simp) (λ_ h=>h) λn0 c=>?_;clear c;simp only[push_cast,reduceEqDiff]
 repeat' (first|(((first|apply Ab|apply Ag|apply Ah)<;>intro _h)<;>(simp only[push_cast,reduceEqDiff,_h];try (have _g:=_h;simp at _g)))|intro _)
 all_goals (refine Bn ?_ (C3 (by simp[lk]));simp[get])
theorem Aoo(l:List Gk)(n:Int)(e:l.length<2^62):Al π W0 328 [.sl (l.map Gk.enc),.i .i64 n] [] (.b (inB l n)) []:=by
 unfold inB;refine Ae (vs:=[.b (l.any λs=>decide (n>=s.lo)&&decide (n<=s.hi))]) Amg (by simp) (by simp) λn0 a=>?_;clear a;simp only[push_cast,reduceEqDiff];intro k1;have c:Al π W0 341 [.sl (l.map Gk.enc),.fn 342 [] [.ref (n0,3) 0]] [((n0,3),.box (.i .i64 n))] (.b (l.any λs=>decide (n>=s.lo)&&decide (n<=s.hi))) [((n0,3),.box (.i .i64 n))]:=by rw[<-Gc];exact C8 W0 Al8 _ _ _ _ (CM W0 AjB Gk.enc l _ _ [] _ _ (λx _=>Jb rfl) (λs _=>ArI W0 s n n0) e)
 refine Bx c (λ_ _ h=>h) ?_;rw[C5];simp only[push_cast]
 repeat' (first|(((first|apply Ab|apply Ag|apply Ah)<;>intro _h)<;>(simp only[push_cast,reduceEqDiff];try (have _g:=_h;simp at _g)))|intro _)
 all_goals (first|(refine Af ?_;simp <;>(intros;omega);done)|(refine Ad ?_;simp[push_cast];done)|skip)
def Gm(r:CJ)(s:Aa):Bool:=
 if(opV s r.op).2 !=0 then r.neg else inB r.spans (if r.mod !=0 then(opV s r.op).1.tmod r.mod else(opV s r.op).1) !=r.neg
theorem AaS(r:CJ)(s:Aa)(e:s.length<=2^30)(c:r.spans.length<2^62):Al π W0 305 [r.enc,.s s] [] (.b (Gm r s)) []:=by
 generalize hS:Gm r s=S;unfold Gm at hS;rw[CJ.enc_eq];refine Ae (vs:=[.b S]) AiF (by simp) (by simp) λn0 a=>?_;clear a;simp only[push_cast,reduceEqDiff];have _h:=trivial;repeat' (first|(first|((first|apply Ab|apply Ag|apply Ah)<;>intro _h)|refine Ac (Ao8 W0 s r.op (by omega)) ?_|refine Ac (Aoo W0 r.spans _ c) ?_)<;>(simp only[push_cast,reduceEqDiff];try (have _g:=_h;simp at _g))|intro _)
 all_goals (try (simp only[push_cast,reduceEqDiff,_g]))
 have _h:=trivial;repeat' (first|(first|((first|apply Ab|apply Ag|apply Ah)<;>intro _h)|refine Ac (Aoo W0 r.spans _ c) ?_)<;>(simp only[push_cast,reduceEqDiff];try (have _g:=_h;simp at _g))|intro _)
 all_goals subst hS
 all_goals (refine Af ?_;simp[get, *]<;>simp[bne])
theorem YH(r:CJ)(s:Aa)(a:Nat)(f:s.length<=2^30)(e:r.spans.length<2^62):Al π W0 304 [r.enc,.ref (a,3) 0] [((a,3),.box (.s s))] (.b (!Gm r s)) [((a,3),.box (.s s))]:=by
 have h:=AaS W0 r s f e;rw[CJ.enc_eq] at *;refine Ae (vs:=[.b (!Gm r s)]) AgR (by simp) (λ_ h=>h) λn0 c=>?_;clear c;simp only[push_cast,reduceEqDiff];have _h:=trivial;repeat' (first|(first|((first|apply Ab|apply Ag|apply Ah)<;>intro _h)|refine Ac h ?_)<;>(simp only[push_cast];try (have _g:=_h;simp at _g))|intro _)
 all_goals (refine Bn ?_ (C3 (by simp[lk]));simp[get])
theorem m8(l:List CJ)(s:Aa)(a:Nat)(g:s.length<=2^30)(i:C4 l<=2^30):Al π W0 303 [EH l,.ref (a,3) 0] [((a,3),.box (.s s))] (.b (!l.any λr=>!Gm r s)) [((a,3),.box (.s s))]:=by
 have e:=EN l;have h:=xQ W0 l (λr=>!Gm r s) 304 [.ref (a,3) 0] [((a,3),.box (.s s))] (λr f=>YH W0 r s a g (by have:=HV f;rw[CJ.wt] at this;omega)) (by omega);rw[QU];generalize(l.any λr=>!Gm r s)=A at h;refine Ae (vs:=[.b (!A)]) Ahv (by simp) (λ_ h=>h) λn0 c=>?_;clear c;simp only[push_cast]
 repeat' (first|(((first|apply Ab|apply Ag|apply Ah)<;>intro _h)<;>(simp only[push_cast];try (have _g:=_h;simp at _g)))|intro _)
 refine Bx h (λ_ _ h=>h) ?_;rw[C5];simp only[push_cast]
 repeat' (first|(((first|apply Ab|apply Ag|apply Ah)<;>intro _h)<;>(simp only[push_cast];try (have _g:=_h;simp at _g)))|intro _)
 all_goals (refine Bn ?_ (λ_ _ h=>h);simp[get])
def Qc(c:List (List CJ))(s:Aa):Bool:=c.any λl=>!l.any λr=>!Gm r s
theorem Ajk:Au π 326 19 (Mj 172 1 false) Z7=true:=by kernel_rfl
theorem AiM:Au π 302 9 (N6 326) gG=true:=by kernel_rfl
theorem VX(c:List (List CJ))(s:Aa)(m:s.length<=2^30)(e:Dc c<=2^30):Al π W0 267 [.sl (c.map EH),.s s] [] (.tup [.b (HI c&&DK s&&Qc c s),.i .i64 (bif HI c&&DK s then 0 else 1)]) []:=by
 have k:=Ii c;generalize f:Qc c s=A;refine Ae (vs:=[.b (HI c&&DK s&&A),.i .i64 (bif HI c&&DK s then 0 else 1)]) AgX (by simp) (by simp) λn0 a=>?_;clear a;simp only[push_cast,reduceEqDiff];intro k1;have g:Al π W0 302 [.sl (c.map EH),.fn 303 [] [.ref (n0,3) 0]] [((n0,3),.box (.s s))] (.b A) [((n0,3),.box (.s s))]:=by rw[<-f,Qc,<-Gc];exact C8 W0 AiM _ _ _ _ (CM W0 Ajk EH c _ _ [] _ _ (λx _=>rP rfl) (λl j=>m8 W0 l s n0 m (AmI (Iw j) e)) (by omega))
 have _h:=trivial;repeat' (first|(first|((first|apply Ab|apply Ag|apply Ah)<;>intro _h)|refine Ac (Wd W0 c e) ?_|refine Ac (G6 W0 s (by omega)) ?_)<;>(simp only[push_cast,reduceEqDiff,_h];try (have _g:=_h;simp at _g))|intro _)
 all_goals (try (refine Bx g (λ_ _ h=>h) ?_;rw[C5];simp only[push_cast,reduceEqDiff]))
 repeat' (first|(((first|apply Ab|apply Ag|apply Ah)<;>intro _h)<;>(simp only[push_cast,reduceEqDiff,_h];try (have _g:=_h;simp at _g)))|intro _)
 all_goals (first|(refine Af ?_;simp[ *]<;>(intros;omega);done)|(refine Ad ?_;simp[push_cast, *];done)|skip)
def MA:Aa:=[111,116,104,101,114]
def dG:List Aa:=[[122,101,114,111],[111,110,101],[116,119,111],[102,101,119],[109,97,110,121]]
def RG:List Aa:=[[122,101,114,111],[111,110,101],[116,119,111],[102,101,119],[109,97,110,121],[111,116,104,101,114]]
theorem Abi:Al π W0 262 [] [] (.agg (RG.map V.s)) []:=by
 unfold RG;simp only[Ajf,Ast];refine Ae (vs:=[.agg [.s [122,101,114,111],.s [111,110,101],.s [116,119,111],.s [102,101,119],.s [109,97,110,121],.s [111,116,104,101,114]]]) Ald (by simp) (by simp) λn0 a=>?_;clear a;simp only[push_cast,seval]
 repeat' (first|(((first|apply Ab|apply Ag|apply Ah)<;>intro _h)<;>(simp only[push_cast,seval];try (have _g:=_h;simp at _g)))|intro _)
 all_goals (first|(refine Af ?_;simp <;>(intros;omega);done)|(refine Ad ?_;simp[push_cast];done)|skip)
theorem sP:Au π 120 19 (QD 9) AcP=true:=by kernel_rfl
theorem AnH:Au π 241 9 (Ve 120) Aiq=true:=by kernel_rfl
theorem GS(l:List Aa)(v:Aa)(a:l.length<2^62):Al π W0 241 [.sl (l.map V.s),.s v] [] (.b (l.contains v)) []:=by rw[List.contains_eq_any_beq,<-Gc];exact HH W0 AnH _ _ _ (Is W0 sP l v a)
theorem AaR(s:Aa):Al π W0 205 [.s s] [] (.b (RG.contains s)) []:=by
 have e:=Abi W0;have a:=GS W0 RG s (by decide);generalize f:RG.contains s=K at a;unfold RG at e a;simp only[Ajf,Ast] at e a;refine Ae (vs:=[.b K]) Aj8 (by simp) (by simp) λn0 c=>?_;clear c;simp only[push_cast,reduceEqDiff];have _h:=trivial;repeat' (first|(first|((first|apply Ab|apply Ag|apply Ah)<;>intro _h)|refine Ac e ?_)<;>(simp only[push_cast,reduceEqDiff];try (have _g:=_h;simp at _g))|intro _)
 have _h:=trivial;repeat' (first|(first|((first|apply Ab|apply Ag|apply Ah)<;>intro _h)|refine Ac a ?_)<;>(simp only[push_cast];try (have _g:=_h;simp at _g))|intro _)
 all_goals (first|(refine Af ?_;simp <;>(intros;omega);done)|(refine Ad ?_;simp[push_cast];done)|skip)
def Ahi(s:Aa):Bool:=dG.contains s
theorem zB(s:Aa):(!RG.contains s||s==MA)=!Ahi s:=by unfold Ahi RG dG MA;rw[AtV];simp;grind
def CR(dn:List AB):List AB->Bool
 | []=>true
 | r::a=>!(!Ahi r.cls||!HI r.cond||dn.any λx=>x.cls==r.cls)&&CR (dn++[r]) a
theorem Aio:Au π 266 19 (Mj 139 2 true) Z7=true:=by kernel_rfl
theorem AhH:Au π 207 9 (N6 266) gG=true:=by kernel_rfl
theorem ZX(x r:AB)(a:Nat):Al π W0 208 [x.enc,.ref (a,4) 0] [((a,4),.box r.enc)] (.b (x.cls==r.cls)) [((a,4),.box r.enc)]:=by
 rw[AB.enc_eq,AB.enc_eq];refine Ae (vs:=[.b (x.cls==r.cls)]) AmB (by simp) (λ_ h=>h) λn0 c=>?_;clear c;simp only[push_cast,reduceEqDiff]
 repeat' (first|(((first|apply Ab|apply Ag|apply Ah)<;>intro _h)<;>(simp only[push_cast,reduceEqDiff];try (have _g:=_h;simp at _g)))|intro _)
 all_goals (refine Bn ?_ (C3 (by simp[lk]));simp[get])
theorem Jl(l:List AB)(t:A7 l<=2^30):Al π W0 152 [.sl (l.map AB.enc)] [] (.b (CR [] l)) []:=by
 generalize hS:CR [] l=S;have k:=Fb l;refine Ae (vs:=[.b S]) AjW (by simp) (by simp) λn0 g=>?_;clear g;simp only[push_cast,reduceEqDiff];intros;refine Am l.length (Inv:=λm st=>∃dn a n,l=dn++a/\m=a.length/\CR dn a=S/\st=⟨[(0,.sl (l.map AB.enc)),(5,.sl (l.map AB.enc)),(6,.i .i64 l.length),(7,.i .i64 dn.length)],[],n⟩) ⟨_,Ak.refl,[],_,_,rfl,rfl,hS,rfl⟩ ?_;clear hS;rintro m _ ⟨dn,a,n,e,rfl,c,rfl⟩;cases a with
 | nil=>
  rw[CR] at c;simp only[push_cast,reduceEqDiff,e]
  repeat' (first|(((first|apply Ab|apply Ag|apply Ah)<;>intro _h)<;>(simp only[push_cast,reduceEqDiff,_h];try (have _g:=_h;simp at _g)))|intro _)
  subst c
  all_goals (first|(refine Af ?_;simp <;>(intros;omega);done)|(refine Ad ?_;simp[push_cast];done)|skip)
 | cons r a=>
  have p:=AL e;have q:=EW (l:=l) (r:=r) (by rw[e];simp);rw[AB.wt] at q;rw[CR,<-zB] at c;unfold MA at c;have o:∀y∈List.map AB.enc (dn++r::a),(cells y).length=2:=by intro y s;obtain⟨x,_,rfl⟩:=AmO.1 s;rfl
  obtain⟨A,f⟩:∃A,(dn.any λx=>x.cls==r.cls)=A:=⟨_,rfl⟩;rw[f] at c;simp only[push_cast,reduceEqDiff,e];intro k1 k2;have j:Al π W0 207 [.sl (dn.map AB.enc),.fn 208 [] [.ref (n+1+k1,4) 0]] [((n+1+k1,4),.box r.enc)] (.b A) [((n+1+k1,4),.box r.enc)]:=by rw[<-f,<-Gc];exact C8 W0 AhH _ _ _ _ (CM W0 Aio AB.enc dn _ _ [] _ _ (λx _=>Jb rfl) (λx _=>ZX W0 x r _) (by omega))
  clear f;rw[AB.enc_eq] at j;have _h:=trivial;repeat' (first|(first|((first|apply Ab|apply Ag|apply Ah)<;>intro _h)|refine Ac (AaR W0 r.cls) ?_|refine Ac (Wd W0 r.cond (by omega)) ?_)<;>(simp only[push_cast,reduceEqDiff,_h,eq_true o];try (have _g:=_h;simp at _g))|intro _)
  all_goals (try (refine Bx j (λ_ _ h=>h) ?_;rw[C5];simp only[push_cast,reduceEqDiff]))
  repeat' (first|(((first|apply Ab|apply Ag|apply Ah)<;>intro _h)<;>(simp only[push_cast,reduceEqDiff,Ai r (dn:=dn) (by omega)];try (have _g:=_h;simp at _g)))|intro _)
  all_goals (first|(exact⟨_,_,A0j _,Ak.drop1 (by simp[lk]) (A0h _),dn++[r],a,_,by simp,rfl,by rw[<-c];simp[*],rfl⟩)|skip)
  all_goals subst c
  all_goals (first|(refine Af ?_;simp[ *]<;>(intros;omega);done)|(refine Ad ?_;simp[push_cast, *];done)|skip)
def NS(s:Aa):List AB->Aa
 | []=>MA
 | r::a=>bif Qc r.cond s then r.cls else NS s a
def CB(l:List AB)(s:Aa):Aa×Int:=bif CR [] l&&DK s then(NS s l,0) else([],1)
theorem Rk{dn a:List AB}(h:CR dn a=true):∀r∈a,HI r.cond=true:=by
 induction a generalizing dn with
 | nil=>intro r b;cases b
 | cons x a c=>rw[CR] at h;grind
theorem UL(l:List AB)(s:Aa)(u:s.length<=2^30)(k:A7 l<=2^30):Al π W0 210 [.sl (l.map AB.enc),.s s] [] (.tup [.s (CB l s).1,.i .i64 (CB l s).2]) []:=by
 generalize hS:CB l s=S;have t:=Fb l;unfold CB at hS;have c:=VX W0 [[⟨2,0,true,[⟨0,0⟩]⟩]] s u (by decide);rw[show HI [[⟨2,0,true,[⟨0,0⟩]⟩]]=true by decide,AuB] at c;simp only[Ajf,Ast,QU,CJ.enc_eq,Gk.enc_eq] at c;generalize Qc [[⟨2,0,true,[⟨0,0⟩]⟩]] s=x at c;rcases AyD (DK s) with j|j
 all_goals (rw[j] at c hS;simp only[AuB,AxP,AwW,Azp,cond_true,cond_false] at c hS)
 .rcases AyD (CR [] l) with g|g
  all_goals (rw[g] at hS;simp only[cond_true,cond_false] at hS;subst hS)
  .have p:=Rk g;generalize hS:NS s l=S;have h:=Jl W0 l k;rw[g] at h;refine Ae (vs:=[.s S,.i .i64 0]) Tt (by simp) (by simp) λn0 b=>?_;clear b;simp only[push_cast,seval,reduceEqDiff];have _h:=trivial;repeat' (first|(first|((first|apply Ab|apply Ag|apply Ah)<;>intro _h)|refine Ac h ?_|refine Ac c ?_)<;>(simp only[push_cast,seval,reduceEqDiff,_h];try (have _g:=_h;simp at _g))|intro _)
   refine Am l.length (Inv:=λm st=>∃dn a n,l=dn++a/\m=a.length/\NS s a=S/\st=⟨[(1,.s s),(29,.sl (l.map AB.enc)),(30,.i .i64 l.length),(31,.i .i64 dn.length)],[],n⟩) ⟨_,Ak.refl,[],_,_,rfl,rfl,hS,rfl⟩ ?_;clear hS;rintro m _ ⟨dn,a,n,f,rfl,e,rfl⟩;cases a with
   | nil=>
    rw[NS] at e;unfold MA at e;subst e;simp only[push_cast,seval,reduceEqDiff,f]
    repeat' (first|(((first|apply Ab|apply Ag|apply Ah)<;>intro _h)<;>(simp only[push_cast,seval,reduceEqDiff,_h];try (have _g:=_h;simp at _g)))|intro _)
    all_goals (first|(refine Af ?_;simp[get]<;>(intros;omega);done)|(refine Ad ?_;simp[push_cast,get];done)|skip)
   | cons r a=>
    have v:=AL f;have w:=EW (l:=l) (r:=r) (by rw[f];simp);rw[AB.wt] at w;have o:=p r (by rw[f];simp);have q:=VX W0 r.cond s u (by omega);rw[o,j] at q;simp only[AuB,AwW,cond_true] at q;rw[NS] at e;simp only[push_cast,seval,reduceEqDiff,f,Ai r (dn:=dn) (by omega)];have _h:=trivial;repeat' (first|(first|((first|apply Ab|apply Ag|apply Ah)<;>intro _h)|refine Ac q ?_)<;>(simp only[push_cast,seval,reduceEqDiff,_h,f,Ai r (dn:=dn) (by omega)];try (have _g:=_h;simp at _g))|intro _)
    all_goals (first|(exact⟨_,_,A0j _,Ak.drop1 (by simp[lk]) (A0h _),dn++[r],a,_,by simp,rfl,by rw[<-e];simp[*],rfl⟩)|skip)
    all_goals subst e
    all_goals (first|(refine Af ?_;simp[get, *]<;>(intros;omega);done)|(refine Ad ?_;simp[push_cast,get, *];done)|skip)
  .have h:=Jl W0 l k;rw[g] at h;refine Ae (vs:=[.s [],.i .i64 1]) Tt (by simp) (by simp) λn0 b=>?_;clear b;simp only[push_cast,seval,reduceEqDiff];have _h:=trivial;repeat' (first|(first|((first|apply Ab|apply Ag|apply Ah)<;>intro _h)|refine Ac h ?_)<;>(simp only[push_cast,seval,reduceEqDiff,_h];try (have _g:=_h;simp at _g))|intro _)
   all_goals (first|(refine Af ?_;simp[get]<;>(intros;omega);done)|(refine Ad ?_;simp[push_cast,get];done)|skip)
 .subst hS;refine Ae (vs:=[.s [],.i .i64 1]) Tt (by simp) (by simp) λn0 b=>?_;clear b;simp only[push_cast,seval,reduceEqDiff];have _h:=trivial;repeat' (first|(first|((first|apply Ab|apply Ag|apply Ah)<;>intro _h)|refine Ac (Jl W0 l k) ?_|refine Ac c ?_)<;>(simp only[push_cast,seval,reduceEqDiff,_h];try (have _g:=_h;simp at _g))|intro _)
  all_goals (first|(refine Af ?_;simp[get]<;>(intros;omega);done)|(refine Ad ?_;simp[push_cast,get];done)|skip)

end Go.Ir

namespace Go.Ir
open Go.Proofs
variable{P:Program}{W0:World}{nt n:Nat}{Q:Exit→St→Prop}{env:A9}{σ:Aj}

end Go.Ir

namespace Go.Ir
open Go.Proofs
variable(W0:World)
theorem Q3{W0:World}{nt n s:Nat}{env:A9}{σ:Aj}{id:Id}{e sz:Nat}{es:List V}(p:get env s=.arr id)(o:∀y∈es,y.ok=true)(m:lk σ id=some (.arr e sz es)):KE W0 nt [.t s] [.sl es] [] .ret ⟨env,σ,n⟩:=by
 refine⟨⟨[(s,.sl es)],[],n⟩,Ak.weak (λi=>if i=id then some es else none) (λi es' h=>?_) (λt=>?_) (λi q h=>by cases h) (A0h _),⟨by simp[Dn,get],trivial⟩,λ_ _ h=>by cases h⟩
 .split at h
  .rename_i j;subst j;cases h;exact⟨⟨e,sz,m⟩,rfl⟩
  .cases h
 .by_cases f:s=t
  .subst f;rw[p];simp only[get];refine .arr id es es (by simp) rfl (λk c g b a=>?_) (λk c g b a=>?_)
   .rw[b] at a;cases a;exact .refl _
   grind
  .simp only[get,if_neg f];exact .any _
def tW:Aa->Bool
 | []=>false
 | c::_=>(c.toNat:Int)==61
def AqN(a:Int)(k:Aa):Bool:=!(k==CO)&&(a==9||tW k)
def Aur(b:Int)(a:List Aa):List Aa:=if b==9 then[] else dG.filter λk=>a.contains k
def Au3(b:Int)(a:List Aa):List Aa:=a.filter (AqN b)++(Aur b a++[CO])
theorem Si{P:Program}{W0:World}{nt:Nat}{c:IC}{Q:Exit->St->Prop}{st a:St}(h:Ak W0 nt st a)(k:G7 P W0 nt c Q a):G7 P W0 nt c Q st:=by unfold G7 at *;exact Uz h k
theorem Yk{a:Type}(p:a->Bool)(l:List a):B8 p l<l.length:=by
 induction l with
 | nil=>simp[B8]
 | cons x l b=>simp only[B8,A0k];grind
def Ez.enc(s:Ez):V:=.agg [.i .i64 s.kind,.s s.name,.sl (s.keys.map V.s)]
@[push_cast] theorem Ez.enc_eq(s:Ez):s.enc=.agg [.i .i64 s.kind,.s s.name,.sl (s.keys.map V.s)]:=rfl
def Ez.ord(s:Ez):Ez:={ s with keys:=Au3 s.kind s.keys }
def RZ(ps:List Aw):List Ez:=(J8 ps []).map Ez.ord
theorem vL{W0:World}{nt n s:Nat}{env:A9}{σ:Aj}(b:get env s=.nil):KE W0 nt [.t s] [.sl []] [] .ret ⟨env,σ,n⟩:=by
 refine⟨⟨[(s,.sl [])],[],n⟩,Ak.weak (λi=>none) (λi es' h=>by cases h) (λt=>?_) (λi c h=>by cases h) (A0h _),⟨by simp[Dn,get],trivial⟩,λ_ _ h=>by cases h⟩;by_cases a:s=t
 .subst a;rw[b];simp only[get];exact .nil
 .simp only[get,if_neg a];exact .any _



def Qu(n:Nat):List Ez->Nat
 | []=>n
 | s::l=>if 400<n*s.keys.length then n*s.keys.length else Qu (n*s.keys.length) l
def AbT(l:Loc)(a:Int):List AB:=if a==8 then l.ord else l.card
def Aph(o:List Aw)(x:Aw):List Aw:=match o.getLast? with
 | none=>[x]
 | some y=>if x.kind==1&&y.kind==1 then o.dropLast++[{ y with text:=y.text++x.text }] else o++[x]
theorem AbB{W0:World}{nt n s:Nat}{env:A9}{σ:Aj}{id:Id}{x:A5}(b:get env s=.arr id)(a:lk σ id=some x):AfQ W0 nt s x [] .ret ⟨env,σ,n⟩:=
 ⟨_,Ak.refl,id,b,a,rfl,λ_ _ h=>by cases h⟩
end Go.Ir
section
namespace Go.Ir
def nR{a:Type}(cs:List (Aa×a))(k:Aa):Option a:=(cs.find? λc=>c.1==k).map (·.2)
def AnS{c:Type}(b:Aa->Aa)(a:Int)(cs:List (Aa×c))(key:Aa):Option c:=
 (nR cs key).or ((if tW key&&a !=9 then nR cs (b key.tail) else none).or (nR cs CO))
abbrev kX:=Int->Aa->List (Aa×List Aw)->List Aw
mutual
def Aw.res(c:kX)(a:Aa):Aw->List Aw->List Aw
 | ⟨k,t,b,st,cs,ps⟩,out=>
  if Dm k then(c k b (Afd c (if k==9 then a else b) cs)).foldl Aph out
  else if k==10 then out++[⟨3,[],a,[],[],[]⟩]
  else if k==11 then out++[⟨k,t,b,st,cs,XO c a ps []⟩]
  else Aph out ⟨k,t,b,st,cs,ps⟩
def XO(b:kX)(a:Aa):List Aw->List Aw->List Aw
 | [],out=>out
 | p::ps,out=>XO b a ps (p.res b a out)
def Afd(b:kX)(a:Aa):List (Aa×List Aw)->List (Aa×List Aw)
 | []=>[]
 | (k,ps)::cs=>(k,XO b a ps [])::Afd b a cs
end
end Go.Ir
end
namespace Go.Ir
open Go.Proofs
variable(W0:World)
def AvB(l:Loc)(a:Int)(n:Aa):Aa:=(CB (AbT l a) n).1
end Go.Ir
section
namespace Go.Ir
open Go.Proofs
variable(W0:World)
mutual
def Aw.all(f:Aw->Prop):Aw->Prop
 | ⟨k,t,a,st,cs,ps⟩=>f ⟨k,t,a,st,cs,ps⟩/\AeL f cs/\Xe f ps
def Xe(f:Aw->Prop):List Aw->Prop
 | []=>True
 | p::ps=>p.all f/\Xe f ps
def AeL(f:Aw->Prop):List (Aa×List Aw)->Prop
 | []=>True
 | (k,ps)::cs=>Xe f ps/\AeL f cs
end
def ArK(L:List Ez)(a:List Aa)(k:Int)(b:Aa):Aa:=a[(HO L k b).toNat]?.getD []
def pkP(l:Loc)(L:List Ez)(a:List Aa):kX:=λk b cs=>(AnS (AvB l k) k cs (ArK L a k b)).getD []
end Go.Ir
end
namespace Go.Ir
open Go.Proofs
variable{P:Program}{W0:World}{nt n:Nat}{Q:Exit→St→Prop}{env:A9}{σ:Aj}
end Go.Ir

namespace Go.Ir
open Go.Proofs
variable(W0:World)
theorem QM{W0:World}{nt n n' e sz:Nat}{env env':A9}{σ τ:Aj}{rid kid:Id}{A B es:List V}(o:rid≠kid)(z:lk σ rid=some (.box (.agg (A++.arr kid::B))))(m:lk σ kid=some (.arr e sz es))(p:∀i j,lk τ i=some j->lk σ i=some j/\i≠kid)(u:lk τ rid=none)(w:∀y∈es,y.ok=true)(f:∀s,get env' s=get env s\/get env' s=.any)(v:n<=n') :
  Ak W0 nt ⟨env,σ,n⟩ ⟨env',(rid,.box (.agg (A++.sl es::B)))::τ,n'⟩:=by
 refine Ak.weak (λi=>if i=kid then some es else none) (λi es' h=>?_) (λs=>?_) (λi j h=>?_) v
 .split at h
  .rename_i g;subst g;cases h;refine⟨⟨e,sz,m⟩,?_⟩;simp only[lk,if_neg o];cases C:lk τ i with
   | none=>rfl
   | some x=>grind
  .cases h
 .rcases f s with h|h
  .rw[h];exact .refl _
  .rw[h];exact .any _
 .simp only[lk] at h;by_cases g:rid=i
  .rw[if_pos g] at h;cases h;subst g;refine⟨_,z,.box _ _ (.agg _ _ (by simp) λk c r b a=>?_) (by simp[cells]) rfl rfl⟩;by_cases m:k<A.length
   .rw[AtT m] at b a;rw[b] at a;cases a;exact .refl _
   .rw[Apb (by omega)] at b a;cases t:k-A.length with
    | zero=>
     rw[t] at b a;simp at b a;subst b a;refine .arr kid es es (by simp) rfl (λk c r b a=>?_) (λk c r b a=>?_)
     .rw[b] at a;cases a;exact .refl _
     grind
    | succ q=>rw[t] at b a;simp only[Awx] at b a;rw[b] at a;cases a;exact .refl _
  .rw[if_neg g] at h;exact⟨_,(p i j h).1,.refl _⟩
end Go.Ir

namespace Go.Ir
open Go.Proofs
variable{P:Program}{W0:World}{nt n:Nat}{Q:Exit→St→Prop}{env:A9}{σ:Aj}
def Agh:IC:=oS [bX 2 0,mC 3 (.b false)] [1,2] (oR [fA 4 2 0,l1 5 4,l1 6 1,bT 7 .eql 5 6,m1 3 7] [3])
@[push_cast]def Awc:List R:=[.t 3]
@[push_cast]def AxX:=AM Agh.eq_1
theorem ApI:Au π 65 8 Agh Awc=true:=by kernel_rfl
def sM:IC:=oS [m1 14 0,m1 15 6,iA 16 14 15 62 5,lA 17 16 5,o1 7 (.alloc (.agg [.s [],.i .i64 0,.s [],.i .i64 0,.nil])),sT 7 17 5] [4,7] (oS [fA 18 7 4,l1 19 18,q1 20 66 19,fA 21 7 4,sT 21 20 1] [4,7] (oR [lA 22 7 5,sT 4 22 5,mC 5 (.b true)] [4,5]))
def Afw:IC:=sQ (oS [m1 11 6,bZ 12 .lss 11 0] [0,4,6,12] (cD 12 (oR [o1 13 (.build [.s [],.i .i64 0,.s [],.i .i64 0,.nil] []),sT 4 13 5,mC 5 (.b false)] [4,5]) .skip)) sM
def AdA:IC:=oS [bX 3 1,o1 4 (.alloc (.agg [.s [],.i .i64 0,.s [],.i .i64 0,.nil])),mC 5 (.b false)] [0,3,4] (oS [m1 8 0,o1 9 (.mkfn 65 [] [.t 3]),o1 10 (.calls 64 [.t 8,.t 9]),m1 6 10] [0,4,6] Afw)
@[push_cast]def Av6:List R:=[.c 4 5 true,.t 5]
@[push_cast]def AyS:=Aq sM.eq_1<|Aq Afw.eq_1<|AM AdA.eq_1
theorem AqC:Au π 39 23 AdA Av6=true:=by kernel_rfl
def cO:IC:=oR [fA 18 1 2,l1 19 18,q1 20 67 19,m1 21 20,Dr 22 21 1 3,Dp 23 21 22,CH 24 21 .eql 23 0,pA 25 21 24,m1 26 25,Dr 27 26 1 4,Dp 28 26 27,gT 29 26 (.lenL (.t 28)),CH 30 26 .eql 29 0,pA 31 26 30,m1 2 31] [2]
def rL:IC:=oR [fA 34 1 2,l1 35 34,bC 36 .eql 35 (.s []),m1 37 36,Dr 38 37 1 4,Dp 39 37 38,gT 40 37 (.lenL (.t 39)),CH 41 37 .eql 40 0,pA 42 37 41,m1 2 42] [2]
def tF:IC:=oS [bZ 44 .eql 4 4,m1 43 44] [1,43] (cD 43 (oR [fA 45 1 2,l1 46 45,bC 47 .eql 46 (.s []),m1 48 47,Dr 49 48 1 3,Dp 50 48 49,CH 51 48 .eql 50 0,pA 52 48 51,m1 2 52] [2]) .skip)
def Aeh:IC:=.block 0 (oS [bZ 6 .eql 4 1,m1 5 6] [1,4,5] (cD 5 (oR [fA 7 1 3,l1 8 7,bZ 9 .eql 8 0,m1 10 9,Dr 11 10 1 4,Dp 12 10 11,gT 13 10 (.lenL (.t 12)),CH 14 10 .eql 13 0,pA 15 10 14,m1 2 15] [2]) (oS [bZ 17 .eql 4 2,m1 16 17] [1,4,16] (cD 16 cO (oS [bZ 33 .eql 4 3,m1 32 33] [1,4,32] (cD 32 rL tF))))))
def Ags:IC:=oS [bX 1 0,mC 2 (.b false)] [1] (sQ (oS [fA 3 1 1,l1 4 3] [1,4] Aeh) (oR [mC 2 (.b false)] [2]))
@[push_cast]def AvZ:List R:=[.t 2]
@[push_cast]def Ayx:=Aq cO.eq_1<|Aq rL.eq_1<|Aq tF.eq_1<|Aq Aeh.eq_1<|AM Ags.eq_1
theorem AsI:Au π 40 53 Ags AvZ=true:=by kernel_rfl
def wU:IC:=sQ (.block 3 (oP [m1 28 4,m1 29 0,m1 30 3,iA 31 29 30 62 5,fA 32 31 4,l1 33 32,m1 34 5,iA 35 33 34 9 1,l1 36 35,nS 37 36,o1 38 (.mx false (.t 28) [.t 37]),m1 4 38] [0,3,4,5])) (oP [m1 26 5,bZ 27 .add 26 1,m1 5 27] [0,3,4,5])
def kN:IC:=oS [m1 39 4,bZ 40 .gtr 39 200,m1 41 40,Bu 42 41 0,Bu 43 41 3,gF 44 41 (.iaddr (.t 42) (.t 43) 62 5),DP 45 41 44 4,Dy 46 41 45,gF 47 41 (.lenL (.t 46)),D7 48 41 .gtr 47 12,pO 49 41 48,m1 50 49,Bu 51 50 0,Bu 52 50 3,gF 53 50 (.iaddr (.t 51) (.t 52) 62 5),DP 54 50 53 0,Dy 55 50 54,gF 56 50 (.lenS (.t 55)),D7 57 50 .gtr 56 60,pO 58 50 57] [0,3,58] (cD 58 (oR [mC 2 (.b false)] [2]) .skip)
def kQ:IC:=sQ (.block 1 (oS [m1 12 0,m1 13 3,iA 14 12 13 62 5,fA 15 14 2,l1 16 15,nS 17 16,m1 4 17] [0,3,4] (sQ (oS [mZ 5 0] [0,3,4,5] (.block 2 (.loop (sQ (oS [m1 18 5,m1 19 0,m1 20 3,iA 21 19 20 62 5,fA 22 21 4,l1 23 22,nL 24 23,bT 25 .lss 18 24] [0,3,4,5,25] (cD 25 .skip (.exit 2))) wU)))) kN))) (oP [m1 10 3,bZ 11 .add 10 1,m1 3 11] [0,3])
def AdE:IC:=oS [mC 2 (.b false)] [0] (sQ (oS [mZ 3 0] [0,3] (.block 0 (.loop (sQ (oS [m1 6 3,m1 7 0,nL 8 7,bT 9 .lss 6 8] [0,3,9] (cD 9 .skip (.exit 0))) kQ)))) (oR [m1 59 0,nL 60 59,bZ 61 .leq 60 30,m1 2 61] [2]))
@[push_cast]def Av8:List R:=[.t 2]
@[push_cast]def Ayz:=Aq wU.eq_1<|Aq kN.eq_1<|Aq kQ.eq_1<|AM AdE.eq_1
theorem AoX:Au π 18 62 AdE Av8=true:=by kernel_rfl
def AdP:IC:=sQ (oS [m1 3 0,o1 4 (.pu (.isnil false) [.t 3])] [0,4] (cD 4 (oR [mC 2 .nil] [2]) .skip)) (oR [o1 5 (.msl true 9 1 []),m1 6 0,o1 7 (.app (.t 5) (.t 6) 9 1),m1 2 7] [2])
def Afv:IC:=oS [mC 2 .nil] [0] AdP
@[push_cast]def Aui:List R:=[.t 2]
@[push_cast]def AxT:=Aq AdP.eq_1<|AM Afv.eq_1
theorem ApM:Au π 66 8 Afv Aui=true:=by kernel_rfl
end Go.Ir

namespace Go.Ir
open Go.Proofs
variable(W0:World)
structure B4 where
 name:Aa
 type:Int
 text:Aa
 date:Int
 list:List Aa
def B4.enc(v:B4):V:=.agg [.s v.name,.i .i64 v.type,.s v.text,.i .i64 v.date,.sl (v.list.map V.s)]
def B4.wt(v:B4):Nat:=1+v.name.length+v.text.length+v.list.length
theorem B4.enc_eq(v:B4):v.enc=.agg [.s v.name,.i .i64 v.type,.s v.text,.i .i64 v.date,.sl (v.list.map V.s)]:=rfl
def Ai3:V:=.agg [.s [],.i .i64 0,.s [],.i .i64 0,.nil]
def FA:List B4->Aa->Option B4
 | [],_=>none
 | v::vs,n=>if v.name==n then some v else FA vs n
def gV:Option B4->V
 | none=>Ai3
 | some v=>v.enc
def vT(o:Option B4):V:=.tup [gV o,.b o.isSome]
theorem ID{vs:List B4}{n:Aa}{v:B4}(h:FA vs n=some v):v∈vs:=by
 induction vs with
 | nil=>cases h
 | cons x vs a=>rw[FA] at h;grind
theorem AaA(v:B4)(n:Aa)(a:Id)(σ:Aj)(f:lk σ a=some (.box (.s n))):Al π W0 65 [v.enc,.ref a 0] σ (.b (v.name==n)) σ:=by
 refine Ae (vs:=[.b (v.name==n)]) ApI (by simp) (λ_ h=>h) λn0 c=>?_;have g:∀j,((n0,j)=a)=False:=λj=>Amo (c _ _ f);simp only[push_cast,reduceEqDiff,g,f,B4.enc_eq]
 repeat' (first|(((first|apply Ab|apply Ag|apply Ah)<;>intro _h)<;>simp only[push_cast,reduceEqDiff,g,f,B4.enc_eq])|intro _)
 all_goals (refine Bn (by simp[get]) (λi e h=>v8 (c i e h) h))
theorem l7(l:List Aa):∀y∈l.map V.s,y.ok=true:=by intro y a;obtain⟨x,_,rfl⟩:=AmO.1 a;rfl
theorem Ark(l:List Aa):∀y∈l.map V.s,(cells y).length=1:=by intro y a;obtain⟨x,_,rfl⟩:=AmO.1 a;rfl
theorem vC(l:List Aa)(g:l.length<=2^30):Al π W0 66 [.sl (l.map V.s)] [] (.sl (l.map V.s)) []:=by
 refine Ae (vs:=[.sl (l.map V.s)]) ApM (by simp) (by simp) λn0 f=>?_;clear f;have b:l.length<=AH:=by unfold AH;omega
 cases l with
 | nil=>
  simp only[push_cast,reduceEqDiff,eq_true (show 0<=AH by decide)];intros;refine⟨?_,?_⟩
  .intros;exact vL rfl
  .intros;exact Q3 (e:=9) (sz:=1) rfl (l7 []) (by simp[lk])
 | cons c cs=>have a:=Ark (c::cs);rw[Ajf] at a;rw[Ajf] at *;rw[A0k] at b;simp only[push_cast,reduceEqDiff,eq_true a,eq_true b];intros;exact Q3 (e:=9) (sz:=1) rfl (l7 (c::cs)) (by simp[lk])
theorem Arz(v:B4):QO true 5 v.enc:=Jb rfl
theorem As3:Au π 64 19 (Mj 62 5 true) Z7=true:=by kernel_rfl
theorem AvD(vs:List B4)(n:Aa):(B8 (λv=>v.name==n) vs<0/\FA vs n=none)\/∃(j:Nat) (v:B4),B8 (λv=>v.name==n) vs=(j:Nat)/\vs[j]?=some v/\FA vs n=some v:=by
 induction vs with
 | nil=>left;exact⟨by simp[B8],rfl⟩
 | cons x vs b=>
  rw[FA];cases a:(x.name==n) with
  | true=>right;exact⟨0,x,by simp[B8,a],rfl,rfl⟩
  | false=>
   rcases b with⟨h1,h2⟩|⟨j,v,h1,h2,h3⟩
   .left;refine⟨?_,by simpa using h2⟩;simp[B8,a,h1]
   .right;refine⟨j+1,v,?_,by simpa using h2,by simpa using h3⟩;simp only[B8,a,cond_false,h1];omega
theorem Q8(vs:List B4)(n:Aa)(q:vs.length<=2^40)(p:∀v∈vs,v.list.length<=2^30):Al π W0 39 [.sl (vs.map B4.enc),.s n] [] (vT (FA vs n)) []:=by
 have g:=λe σ o=>CM W0 As3 B4.enc vs (λv=>v.name==n) 65 [] [.ref e 0] σ (λx _=>Arz x) (λx _=>AaA W0 x n e σ o) (by omega);unfold vT;refine Ae (vs:=[gV (FA vs n),.b (FA vs n).isSome]) AqC (by simp) (by simp) λn0 i=>?_;clear i;simp only[push_cast,seval,reduceEqDiff];intro k1;refine Bx (g (n0,3) _ (by simp[lk])) (λ_ _ h=>h) ?_;rw[C5];rcases AvD vs n with⟨h1,h2⟩|⟨j,v,h1,h2,h3⟩
 .have f:decide (B8 (λv=>v.name==n) vs<0)=true:=by simpa using h1
  rw[h2];simp only[push_cast,seval,reduceEqDiff,f];intros;refine Ad ?_;simp[push_cast,get,gV,Ai3]
 .have m:=vC W0 v.list (p v (ID h3));have a:(vs.map B4.enc)[j]?=some v.enc:=by grind
  have k:=(Afk.1 h2).1;have c:decide ((j:Int)<0)=false:=by simp
  rw[h3,h1];simp only[push_cast,seval,reduceEqDiff,c,a,if_pos k,B4.enc_eq,AcG];have _h:=trivial;repeat' (first|(first|((first|apply Ab|apply Ag|apply Ah)<;>intro _h)|refine Ac m ?_)<;>simp only[push_cast,seval,reduceEqDiff,_h,c,a,if_pos k,B4.enc_eq,AcG]|intro _)
  refine Ad ?_;simp[push_cast,get,gV,B4.enc_eq]
def IJ(v:B4):Bool:=
 if v.type==1 then v.date==0&&(v.list.length:Int)==0 else if v.type==2 then DK v.text&&v.date==0&&(v.list.length:Int)==0
 else if v.type==3 then v.text==[]&&(v.list.length:Int)==0 else if v.type==4 then v.text==[]&&v.date==0 else false
theorem Oi(v:B4)(e:v.text.length<=2^30):Al π W0 40 [v.enc] [] (.b (IJ v)) []:=by
 have c:=G6 W0 v.text (by omega);generalize hS:IJ v=S;unfold IJ at hS;refine Ae (vs:=[.b S]) AsI (by simp) (by simp) λn0 a=>?_;clear a;simp only[push_cast,reduceEqDiff,B4.enc_eq];have _h:=trivial;repeat' (first|(first|((first|apply Ab|apply Ag|apply Ah)<;>intro _h)|refine Ac c ?_)<;>simp only[push_cast,reduceEqDiff,_h]|intro _)
 all_goals (refine Af ?_;simp only[Bw, *] at hS⊢;grind)
def Apo(s:Aa):Bool:=s==[]||s==[105,110,116,101,103,101,114]||s==[112,101,114,99,101,110,116]
def Ab6(k:Int)(t a st:Aa)(c q:Int):Bool:=
 if k==1 then !(t==[])&&(a==[]&&(st==[]&&(c==0&&q==0)))
 else if k==10 then t==[]&&(a==[]&&(st==[]&&(c==0&&q==0)))
 else Cy a&&(t==[]&&(
  if k==2 then st==[]&&(c==0&&q==0)
  else if k==11 then st==[]&&c==0
  else if k==7||k==8||k==9 then st==[]&&q==0
  else if k==3 then Apo st&&(c==0&&q==0)
  else if k==4||k==6 then Cy st&&(c==0&&q==0)
  else if k==5 then E6 st&&(c==0&&q==0)
  else false))
def Aw.fieldsB(p:Aw):Bool:=Ab6 p.kind p.text p.name p.style p.cases.length p.parts.length
end Go.Ir

namespace Go.Ir
open Go.Proofs
variable{P:Program}{W0:World}{nt n:Nat}{Q:Exit→St→Prop}{env:A9}{σ:Aj}
def rH:IC:=oR [o1 1 (.mkm .mkmap []),o0 (.wrm (.mput .str) (.t 1) [.c (.s [110,117,109,98,101,114]),ci 3]),o0 (.wrm (.mput .str) (.t 1) [.c (.s [117,110,105,116]),ci 4]),o0 (.wrm (.mput .str) (.t 1) [.c (.s [100,97,116,101]),ci 5]),o0 (.wrm (.mput .str) (.t 1) [.c (.s [108,105,115,116]),ci 6]),o0 (.wrm (.mput .str) (.t 1) [.c (.s [112,108,117,114,97,108]),ci 7]),o0 (.wrm (.mput .str) (.t 1) [.c (.s [111,114,100,105,110,97,108]),ci 8]),o0 (.wrm (.mput .str) (.t 1) [.c (.s [115,101,108,101,99,116]),ci 9]),m1 2 1,m1 0 2] [0]
def r9:IC:=oS [mC 0 .nm] [] rH
@[push_cast]def Ao4:List R:=[.t 0]
@[push_cast]def AxC:=Aq rH.eq_1<|AM r9.eq_1
theorem AiY:Au π 134 3 r9 Ao4=true:=by kernel_rfl
def rZ:IC:=.ops [m1 96 3,fA 97 5 2,l1 98 97,nS 99 98,o1 100 (.bin .add (ci 2) (.t 99)),fA 101 5 5,l1 102 101,q1 103 96 102,bT 104 .add 100 103,bT 105 .add 96 104,m1 3 105] [3,10,11,12] [[1,2],[2,3],[3,4],[5,6],[6,7],[4,8],[7,8],[0,9],[8,9],[0,10],[9,10]]
def cV:IC:=oS [m1 86 3,fA 87 5 2,l1 88 87,nS 89 88,o1 90 (.bin .add (ci 3) (.t 89)),bT 91 .add 86 90,m1 3 91] [3,5,10,11,12] (oS [fA 92 5 5,l1 93 92,nL 94 93,bZ 95 .gtr 94 0] [3,5,10,11,12,95] (cD 95 rZ .skip))
def yJ:IC:=oS [m1 31 7,fA 32 5 0,l1 33 32,bT 34 .eql 31 33] [3,5,6,10,11,12,25,34] (cD 34 (oP [m1 35 3,m1 36 6,nS 37 36,o1 38 (.bin .add (ci 2) (.t 37)),bT 39 .add 35 38,m1 3 39] [3,5,10,11,12,25]) .skip)
def kB:IC:=sQ (.mnext 26 27 (.t 25) [3,5,10,11,12,25,27]) (sQ (cD 27 .skip (.exit 3)) (.block 4 (oS [o1 28 (.mentry (.t 25)),xT 29 28 0,xT 30 28 1,m1 6 29,m1 7 30] [3,5,6,7,10,11,12,25] yJ)))
def lZ:IC:=.ops [m1 61 3,fA 62 9 0,l1 63 62,nS 64 63,o1 65 (.bin .add (ci 4) (.t 64)),fA 66 9 1,l1 67 66,q1 68 96 67,bT 69 .add 65 68,bT 70 .add 61 69,m1 3 70] [3,10,11,12,55,56,57] [[1,2],[2,3],[3,4],[5,6],[6,7],[4,8],[7,8],[0,9],[8,9],[0,10],[9,10]]
def gZ:IC:=sQ (.block 6 (oS [iA 59 55 57 118 2,lA 60 59 2,o1 9 (.alloc (.agg [.s [],.nil])),sT 9 60 2] [3,9,10,11,12,55,56,57] lZ)) (oP [bZ 71 .add 57 1,m1 57 71] [3,10,11,12,55,56,57])
def sA:IC:=oS [fA 54 5 4,l1 55 54,nL 56 55,mZ 57 0] [3,10,11,12,55,56,57] (.block 5 (.loop (oS [bT 58 .lss 57 56] [3,10,11,12,55,56,57,58] (sQ (cD 58 .skip (.exit 5)) gZ))))
def eV:IC:=sQ (oS [fA 40 5 3,l1 41 40,bC 42 .neq 41 (.s [])] [3,5,10,11,12,42] (cD 42 (oP [m1 43 3,fA 44 5 3,l1 45 44,nS 46 45,o1 47 (.bin .add (ci 2) (.t 46)),bT 48 .add 43 47,m1 3 48] [3,5,10,11,12]) .skip)) (sQ (oS [fA 49 5 0,l1 50 49,q1 51 79 50] [3,5,10,11,12,51] (cD 51 (oP [m1 52 3,bZ 53 .add 52 1,m1 3 53] [3,5,10,11,12]) .skip)) sA)
def cJ:IC:=oS [m1 18 3,fA 19 5 2,l1 20 19,nS 21 20,o1 22 (.bin .add (ci 2) (.t 21)),bT 23 .add 18 22,m1 3 23] [3,5,10,11,12] (sQ (oS [o1 24 (.calln 134 []),o1 25 (.mrange (.t 24))] [3,5,10,11,12,25] (.block 3 (.loop kB))) eV)
def mD:IC:=cD 72 (oP [m1 74 3,fA 75 5 1,l1 76 75,q1 77 133 76,nS 78 77,bT 79 .add 74 78,m1 3 79] [3,10,11,12]) (oS [bZ 81 .eql 17 10,m1 80 81] [3,5,10,11,12,17,80] (cD 80 (oP [m1 82 3,bZ 83 .add 82 1,m1 3 83] [3,10,11,12]) (oS [bZ 85 .eql 17 11,m1 84 85] [3,5,10,11,12,84] (cD 84 cV cJ))))
def wV:IC:=sQ (.block 1 (oS [iA 14 10 12 116 6,lA 15 14 6,o1 5 (.alloc (.agg [.i .i64 0,.s [],.s [],.s [],.nil,.nil])),sT 5 15 6] [3,5,10,11,12] (oS [fA 16 5 0,l1 17 16] [3,5,10,11,12,17] (.block 2 (oS [bZ 73 .eql 17 1,m1 72 73] [3,5,10,11,12,17,72] mD))))) (oP [bZ 106 .add 12 1,m1 12 106] [3,10,11,12])
def AeH:IC:=sQ (oS [m1 10 0,nL 11 10,mZ 12 0] [3,10,11,12] (.block 0 (.loop (oS [bT 13 .lss 12 11] [3,10,11,12,13] (sQ (cD 13 .skip (.exit 0)) wV))))) (oR [m1 107 3,m1 2 107] [2])
def AeZ:IC:=oS [mZ 2 0] [0] (oS [mZ 3 0] [0,3] AeH)
@[push_cast]def Aub:List R:=[.t 2]
@[push_cast]def Ay0:=Aq rZ.eq_1<|Aq cV.eq_1<|Aq yJ.eq_1<|Aq kB.eq_1<|Aq lZ.eq_1<|Aq gZ.eq_1<|Aq sA.eq_1<|Aq eV.eq_1<|Aq cJ.eq_1<|Aq mD.eq_1<|Aq wV.eq_1<|Aq AeH.eq_1<|AM AeZ.eq_1
theorem Aqb:Au π 96 108 AeZ Aub=true:=by kernel_rfl
end Go.Ir
section
namespace Go.Ir
open Go.Proofs
variable(W0:World)
mutual
def Aw.chk:Aw->Int->Bool->List Aa->Bool×List Aa
 | ⟨k,t,b,st,cs,ps⟩,d,c,l=>
  match(if k==11 then(if decide (d>=8) then(false,l) else R1 ps (d+1) c false l) else(true,l)) with
  | (false,l1)=>(false,l1)
  | (true,l1)=>match(if Dm k then(if decide (d>=8) then(false,l1) else Adw cs k (d+1) c cs.length [] l1) else(true,l1)) with
   | (false,a)=>(false,a)
   | (true,a)=>(true,if !(k==11)&&!(b==[]) then AvU b a else a)
def R1:List Aw->Int->Bool->Bool->List Aa->Bool×List Aa
 | [],_,_,_,l=>(true,l)
 | p::ps,d,c,a,l=>
  if !p.fieldsB||(p.kind==10&&!c)||(a&&p.kind==1) then(false,l) else
  match p.chk d c l with
  | (false,l1)=>(false,l1)
  | (true,l1)=>R1 ps d c (p.kind==1) l1
def Adw:List (Aa×List Aw)->Int->Int->Bool->Nat->List Aa->List Aa->Bool×List Aa
 | [],_,_,_,n,seen,l=>(decide ((n:Int)<=20)&&seen.contains CO,l)
 | (key,ps)::cs,k,d,c,n,seen,l=>
  if !Rz k key||seen.contains key then(false,l) else
  match R1 ps d (c||(k !=9)) false l with
  | (false,l1)=>(false,l1)
  | (true,l1)=>Adw cs k d c n (seen++[key]) l1
end
end Go.Ir
end
namespace Go.Ir
open Go.Proofs
variable(W0:World)
end Go.Ir

namespace Go.Ir
open Go.Proofs
variable{P:Program}{W0:World}{nt n:Nat}{Q:Exit→St→Prop}{env:A9}{σ:Aj}
end Go.Ir

namespace Go.Ir
open Go.Proofs
variable(W0:World)
def GA:Aa->Aa
 | []=>[]
 | c::s=>(if Rx c.toNat then[92,c] else[c])++GA s
def YT(k:Int):Aa:=
 if k==3 then[110,117,109,98,101,114] else if k==4 then[117,110,105,116] else if k==5 then[100,97,116,101] else if k==6 then[108,105,115,116]
 else if k==7 then[112,108,117,114,97,108] else if k==8 then[111,114,100,105,110,97,108] else[115,101,108,101,99,116]
theorem MH(k:Int):(YT k).length<=7:=by
 unfold YT;repeat' split
 all_goals simp
theorem QT(s:Aa):(GA s).length<=2*s.length:=by
 induction s with
 | nil=>simp[GA]
 | cons c s a=>rw[GA];split<;>simp<;>omega
end Go.Ir
namespace Go.Proofs
open Go.Shelf
def Tryz.lays169_ren:Go.Shelf.Ren:=⟨fun|169=>45|n=>n,fun|70=>95|9=>9|0=>0|72=>98|37=>96|127=>158|3=>3|5=>5|n=>n,fun|n=>n⟩
theorem Tryz.lays169:Go.Proofs.Lays.n169 Tryz.prog Tryz.lays169_ren:=by constructor;all_goals intros;kernel_rfl
end Go.Proofs
namespace Go.Ir
open Go.Proofs Go.RowKit
theorem F5:Go.Proofs.Builder.Extra π Tryz.lays169_ren where
 sizeBuilder:=by kernel_rfl
 liesBuilder:=by kernel_rfl
 t5:=Tryz.underlying5
 a5:=Tryz.isAgg5
 z5:=Tryz.sizeOf5
 v5:=Tryz.zeroValue5
 infoByte:=by kernel_rfl
 cellsByte:=by kernel_rfl
 sizeByte:=by kernel_rfl
 neB5:=by decide
set_option maxHeartbeats 1000000 in
set_option maxRecDepth 100000 in
theorem rM(b:Nat)(w:World)(c:w.cell? ⟨b,0,none⟩=some (.pointer (some ⟨b,0,none⟩))) :
  Calls Tryz.prog 180 #[.pointer (some ⟨b,0,none⟩)] w λe w'=>e=.returned (.tuple #[])/\w'=w:=by
 obtain⟨j,a,_⟩:=AdV.1 F5.sizeBuilder
 go_enter Tryz.func180,Tryz.ntmps180
 go_wp2
 rw[Lib.run_neq_ptr_same w _ Tryz.underlying95 a]
 go_wp2
 go_end0
 exact⟨rfl,rfl⟩
set_option maxHeartbeats 1000000 in
set_option maxRecDepth 100000 in
theorem YJ(b:Nat)(w:World)(h:w.cell? ⟨b,0,none⟩=some (.pointer none))(a:w.shape? b=some (98,2))(g:w.frozen? ⟨b,0,none⟩=false) :
  Calls Tryz.prog 180 #[.pointer (some ⟨b,0,none⟩)] w λe w'=>e=.returned (.tuple #[])/\w'=w.setCell ⟨b,0,none⟩ (.pointer (some ⟨b,0,none⟩)):=by
 obtain⟨j,f,c⟩:=AdV.1 F5.sizeBuilder
 go_enter Tryz.func180,Tryz.ntmps180
 go_wp2
 rw[Lib.run_to_unsafe w ⟨b,0,none⟩ Tryz.underlying95 Tryz.underlying315 f (by rw[c];decide) a (Nat.zero_lt_succ 1)];simp only[Result.andThen];rw[Azx]
 go_wp2
 rw[run_callFunc_extern Tryz.func236 (by kernel_rfl) (by kernel_rfl) (by kernel_rfl) (e:=Extern.AbiNoEscape.same) (by kernel_rfl),Lib.run_noEscape];simp only[Result.andThen];rw[Azx]
 go_wp2
 rw[Lib.run_from_unsafe w ⟨b,0,none⟩ Tryz.underlying315 Tryz.underlying95 f a F5.liesBuilder];simp only[Result.andThen];rw[Azx]
 go_wp2
 go_end0
 exact⟨rfl,rfl⟩
theorem YV(B b:Nat)(f:List Value)(w:World)(h:Lib.IsBuilder 98 5 B b f w) :
  Calls Tryz.prog 180 #[.pointer (some ⟨b,0,none⟩)] w λe w'=>e=.returned (.tuple #[])/\(Lib.BuilderAt 98 5 B b (.pointer (some ⟨b,0,none⟩)) f w'/\Below B w w'):=by
 rcases h with h|h
 .refine(YJ b w h.cell0 h.shape h.frozen0).mono λe w' ⟨a,c⟩=>?_;subst c;exact⟨a,h.used _,(Aw0 B w).setCell (p:=⟨b,0,none⟩) h.1 _⟩
 .refine(rM b w h.cell0).mono λe w' ⟨a,c⟩=>?_;subst c;exact⟨a,h,Aw0 _ _⟩
set_option maxHeartbeats 2000000 in
set_option maxRecDepth 100000 in
theorem Lp(B b:Nat)(s:List Value)(c:Int)(w:World)(h:Lib.IsBuilder 98 5 B b s w)(G:s.length+1<=140737488355328)(J:B<=w.heap.size) :
  Calls Tryz.prog 187 #[.pointer (some ⟨b,0,none⟩),.int .u8 c] w λe w'=>e=.returned .nilIface/\(Lib.BuilderAt 98 5 B b (.pointer (some ⟨b,0,none⟩)) (s++[.int .u8 c]) w'/\Below B w w'):=by
 obtain⟨i0,K,D,E,F⟩:=info_parts F5.infoByte;have z:∀args w,(callFunc 180 args).run Tryz.prog w=.ok (.enter 180 args) w:=enters_of Tryz.func180 (by kernel_rfl) rfl
 go_enter Tryz.func187,Tryz.ntmps187
 go_wp2_with (go_at_fn 180;refine(YV B b s _ h).mono ?_)
 rintro e t ⟨rfl,⟨hB,v,q,r,C⟩,m⟩;have N:t.cell? ⟨b,0,none⟩=some (.pointer (some ⟨b,0,none⟩)):=by rw[Lib.cell_of_heap q];rfl
 have c1:t.cell? ⟨b,1,none⟩=some v:=by rw[Lib.cell_of_heap q];rfl
 go_wp2_with (at_builtin;refine wpList_append_own _ rfl _ _ 96 rfl B 5 i0 (.int .u8 0) 1 1 Tryz.underlying96 K D E F rfl (by decide) _ _ _ rfl (r.alloc _) ⟨t.heap.size,0,none⟩ 1 1 [.int .u8 c] rfl rfl ?c1 ?c2 ?c3 ?c4 ?c5 ?_)
 case c1=>
  intro j u x
  match j,x with
  | 0,x=>simp at x;subst x;simp[Addr.add]
 case c2=>intro u H;simp at H;subst H;rfl
 case c3=>unfold maxLen;omega
 case c4=>omega
 case c5=>have:=m.size;simp;omega
 intro M y f a _;have A:b<t.heap.size:=(Ath.1 q).1;have o:y.heap[b]?=some (.cells #[.pointer (some ⟨b,0,none⟩),v] 98 (0,0)):=by rw[a.block b (by simp;omega) (λe=>C e.symm),Lib.alloc_old t _ b A];exact q
 have O:y.cell? ⟨b,0,none⟩=some (.pointer (some ⟨b,0,none⟩)):=by rw[Lib.cell_of_heap o];rfl
 have R:y.cell? ⟨b,1,none⟩=some v:=by rw[Lib.cell_of_heap o];rfl
 have S:y.frozen? ⟨b,1,none⟩=false:=Lib.frozen_of_heap o 1;obtain⟨g,i,rfl⟩:∃g i,M=.slice (some ⟨g,0,none⟩) (s.length+1) i:=by
  rcases f.2 with⟨_,h0⟩|⟨g,i,cur,hv,_⟩
  .omega
  .exact⟨g,i,hv⟩
 go_wp2
 go_ret
 exact⟨rfl,Lib.BuilderAt.put (T:=98) (e:=5) hB o (bs':=s++[.int .u8 c]) (by simpa using f) (by decide),((m.alloc (by have:=m.size;omega) _).grown a (by have:=m.size;simp;omega) (λk L=>(r.lt k L).1)).setCell (p:=⟨b,1,none⟩) hB _⟩
theorem TE(B b:Nat)(l:List UInt8)(w:World)(h:Lib.IsBuilder 98 5 B b (Lib.byteCells l) w)(a:B<=w.heap.size) :
  Calls Tryz.prog 45 #[.pointer (some ⟨b,0,none⟩)] w λe w'=>e=.returned (.string ⟨l.toArray⟩)/\Below B w w':=
 Any.Builder_String_any Tryz.lays169 F5 B b l w h a
theorem MY(c:UInt8)(w:World):Calls Tryz.prog 186 #[.int .u8 c.toNat] w λe w'=>e=.returned (.bool (Rx c.toNat))/\w'=w:=by
 go_enter Tryz.func186,Tryz.ntmps186
 go_wp2
 all_goals (go_ret;exact⟨by simp[Rx, *],rfl⟩)
set_option maxHeartbeats 4000000 in
set_option maxRecDepth 1000000 in
theorem iG(s:Aa)(H:s.length<=2^26)(w:World):Calls Tryz.prog 133 #[.string ⟨s.toArray⟩] w λe w'=>e=.returned (.string ⟨(GA s).toArray⟩)/\Below w.heap.size w w':=by
 go_enter Tryz.func133,Tryz.ntmps133
 go_wp2
 go_loopw [7] (λi wr=>∃(dn a b:Aa),dn++a=s/\i=.int .i64 dn.length/\Lib.IsBuilder 98 5 w.heap.size w.heap.size (Lib.byteCells b) wr/\Below w.heap.size w wr/\b++GA a=GA s/\b.length<=2*dn.length) (λi _=>s.length-(RowKit.intOf i).toNat)
 case atStart=>refine⟨[],s,[],rfl,rfl,Lib.fresh_isBuilder _ _ _,(Aw0 _ w).alloc (A0h _) _,rfl,by simp⟩
 case round=>
  obtain⟨dn,a,b,q,z,hI,f,g,y⟩:=hrel;subst z;have k:s.length=dn.length+a.length:=by rw[<-q];simp
  cases a with
  | nil=>
   have j:decide (dn.length<s.length)=false:=by simp at k⊢;omega
   have o:¬dn.length<s.length:=by simpa using j
   clear k
   go_wp2_with (go_at_call 45;refine(TE w.heap.size w.heap.size b _ hI f.size).mono ?_)
   rintro e C ⟨rfl,u⟩
   go_wp2
   go_ret
   rw[GA,AoG] at g;rw[<-g];exact⟨rfl,f.trans u⟩
  | cons c a=>
   have E:∀args w,(callFunc 186 args).run Tryz.prog w=.ok (.enter 186 args) w:=enters_of Tryz.func186 (by kernel_rfl) rfl;have F:∀args w,(callFunc 187 args).run Tryz.prog w=.ok (.enter 187 args) w:=enters_of Tryz.func187 (by kernel_rfl) rfl;have j:decide (dn.length<s.length)=true:=by simp at k⊢;omega
   have o:dn.length<s.length:=by simpa using j
   have t:b.length+2<=2^28/\dn.length<2^26:=by simp at k;omega
   obtain⟨t,A⟩:=t;clear k;have B:RowKit.wrap64 ((dn.length:Int)+1)=(dn.length:Int)+1:=by unfold RowKit.wrap64;omega
   have G:∀h,(⟨s.toArray⟩:ByteArray)[dn.length]'h=c:=by subst q;intro h;show(dn++c::a).toArray[dn.length]=c;simp
   go_wp2_with (go_at_call 186;refine(MY _ _).mono ?_)
   rintro e C ⟨rfl,rfl⟩;by_cases m:Rx c.toNat=true
   .rw[m]
    go_wp2_with (go_at_call 187;refine(Lp w.heap.size w.heap.size _ 92 _ hI (by rw[Lib.byteCells_length];omega) f.size).mono ?_)
    rintro e D ⟨rfl,r,p⟩
    go_wp2_with (go_at_call 187;refine(Lp w.heap.size w.heap.size _ _ _ (.inr r) (by simp[Lib.byteCells_length];omega) (by have:=f.size;have:=p.size;omega)).mono ?_)
    rintro e J ⟨rfl,x,v⟩
    go_wp2
    go_roundw
    case rel=>
     refine⟨dn++[c],a,b++[92,c],by rw[<-q];simp,?_,?_,?_,?_,?_⟩
     .simp
     .right;simpa[Lib.byteCells] using x
     .exact(f.trans p).trans v
     .rw[<-g,GA,m];simp
     .simp;omega
    case measure=>simp at j;simp[RowKit.intOf];omega
   .have m:Rx c.toNat=false:=by simpa using m
    rw[m]
    go_wp2_with (go_at_call 187;refine(Lp w.heap.size w.heap.size _ _ _ hI (by rw[Lib.byteCells_length];omega) f.size).mono ?_)
    rintro e D ⟨rfl,r,p⟩
    go_wp2
    go_roundw
    case rel=>
     refine⟨dn++[c],a,b++[c],by rw[<-q];simp,?_,?_,?_,?_,?_⟩
     .simp
     .right;simpa[Lib.byteCells] using r
     .exact f.trans p
     .rw[<-g,GA,m];simp
     .simp;omega
    case measure=>simp at j;simp[RowKit.intOf];omega
theorem ZA(s:Aa):(GA s).length<=2*s.length:=by
 induction s with
 | nil=>simp[GA]
 | cons c s a=>rw[GA];split<;>simp<;>omega
theorem Y2(W0:World)(s:Aa)(b:s.length<=2^26):Al Tryz.prog W0 133 [.s s] [] (.s (GA s)) []:=by refine AR (by kernel_rfl) λw vals g ⟨μ,H,c⟩=>?_;obtain⟨rfl,_⟩:=c.one_s;refine(iG s b w).mono λe w' ⟨a,f⟩=>?_;refine⟨_,a,λ_ _=>.s _ ?_,f⟩;have:=ZA s;unfold AG;omega
def OR(B:Nat)(l:Aa)(wr:World):Prop:=∀j (h:j<l.length),wr.cell? ⟨B,j,none⟩=some (.int .u8 (l[j].toNat:Int))/\wr.frozen? ⟨B,j,none⟩=false
theorem OR.new(w:World)(s:Aa):OR w.heap.size s (w.drew.alloc (.cells (bytesRow ⟨s.toArray⟩ (grownCap w s.length 0 5)) 5 ((bytesRow ⟨s.toArray⟩ (grownCap w s.length 0 5)).size,(bytesRow ⟨s.toArray⟩ (grownCap w s.length 0 5)).size+1))):=by
 intro j h;have a:w.drew.heap.size=w.heap.size:=rfl;rw[<-a,World.cell?_alloc_mark,World.frozen?_alloc_mark,bytesRow_at _ _ _ (by simpa using h)];refine⟨by simp,?_⟩;have:j<(bytesRow ⟨s.toArray⟩ (grownCap w s.length 0 5)).size:=by unfold bytesRow;simp;omega
 simp;omega
theorem OR.set{B:Nat}{p post:Aa}{c:UInt8}{wr:World}(h:OR B (p++[c]++post) wr)(d:UInt8):OR B (p++[d]++post) (wr.setCell ⟨B,p.length,none⟩ (.int .u8 (d.toNat:Int))):=by
 intro j g;have a:j<(p++[c]++post).length:=by simp at g⊢;omega
 obtain⟨b,e⟩:=h j a;rw[World.frozen?_setCell];refine⟨?_,e⟩;by_cases f:j=p.length
 .subst f;rw[World.cell?_setCell_same' _ _ _ (by rw[b];rfl)];simp
 .rw[World.cell?_setCell_other wr ⟨B,p.length,none⟩ ⟨B,j,none⟩ _ (by grind),b];grind
theorem OR.back{B n:Nat}{l:Aa}{wr:World}(h:OR B l wr)(c:l.length=n)(a:Nat):(convert 96 9 (.slice (some ⟨B,0,none⟩) n a)).run Tryz.prog wr=.ok (.string ⟨l.toArray⟩) wr:=by subst c;exact run_convert_bytes_back (P:=Tryz.prog) wr 96 9 5 ⟨B,0,none⟩ a l Tryz.underlying96 Tryz.underlying5 Tryz.underlying9 (λj b=>by have:=(h j b).1;unfold Addr.add;split<;>simp_all)
theorem xZ:H7 []=[49]:=rfl
theorem Al5(p:Aa):H7 (p++[57])=H7 p++[48]:=by unfold H7;rw[List.reverse_append];show(KD (57::p.reverse)).reverse=_;rw[KD];simp
theorem Ahy(p:Aa)(c:UInt8)(h:(c==57)=false):H7 (p++[c])=p++[c+1]:=by unfold H7;rw[List.reverse_append];show(KD (c::p.reverse)).reverse=_;rw[KD,h];simp
set_option maxHeartbeats 4000000 in
set_option maxRecDepth 1000000 in
theorem Y3(s:Aa)(H:s.length<=2^26)(w:World):Calls Tryz.prog 202 #[.string ⟨s.toArray⟩] w λe w'=>e=.returned (.string ⟨(H7 s).toArray⟩)/\Below w.heap.size w w':=by
 have r:=fun(w:World) (s:ByteArray)=>run_bytes_of_string (P:=Tryz.prog) w 9 96 5 s Tryz.underlying9 Tryz.underlying96 Tryz.underlying5;have x:RowKit.wrap64 ((s.length:Int)-1)=(s.length:Int)-1:=by unfold RowKit.wrap64;omega
 go_enter Tryz.func202,Tryz.ntmps202
 go_wp2
 go_loopw [4] (λi wr=>∃(pre post:Aa),pre.length+post.length=s.length/\i=.int .i64 ((pre.length:Int)-1)/\OR w.heap.size (pre++post) wr/\Below w.heap.size w wr/\H7 pre++post=H7 s) (λi _=>(RowKit.intOf i+1).toNat)
 case atStart=>refine⟨s,[],by simp,by rw[<-x],by rw[AoG];exact OR.new w s,((Aw0 _ w).alloc (A0h _) _).drew,AoG _⟩
 case round=>
  obtain⟨pre,post,D,B,a,f,q⟩:=hrel;subst B;rcases List.eq_nil_or_concat pre with rfl|⟨p,c,rfl⟩
  .have k:=a.back (by simpa using D) (grownCap w s.length 0 5)
   go_wp2
   go_ret
   refine⟨?_,f⟩;rw[<-q,xZ];rfl
  .simp only[List.concat_eq_append,AgM,A0k,AmS] at *;have u:((p.length+(0+1):Nat):Int)-1=(p.length:Int):=by omega
   rw[u];have o:=a p.length (by simp);have g:((p++[c])++post)[p.length]'(by simp)=c:=by simp
   rw[g] at o;obtain⟨E,F⟩:=o;have C:(p.length:Int)<(s.length:Int):=by omega
   have y:p.length<s.length:=by omega
   have v:(p++[c+1]++post).length=s.length:=by simp;omega
   have t:((c+1).toNat:Int)=((c.toNat:Int)+1) % 256:=by simp 
   have k:=(a.set (c+1)).back v (grownCap w s.length 0 5);rw[t] at k;have m:=a.set 48;have A:((c.toNat:Int) !=57)=!(c==57):=by
    rw[AtV];simp only[bne_iff_ne,AsJ,beq_eq_false_iff_ne,ne_eq];constructor
    .rintro h rfl;exact h rfl
    .intro h G;apply h;have z:c.toNat=(57:UInt8).toNat:=by grind
     exact AzR.1 z
   go_wp2
   .have b:(c==57)=false:=by
     simp_all
    go_ret
    refine⟨?_,f.setCell (p:=⟨w.heap.size,p.length,none⟩) (A0h _) _⟩;rw[<-q,Ahy p c b];simp
   .have b:(c==57)=true:=by
     grind
    have j:c=57:=by simpa using b
    subst j;rw[Al5] at q;refine⟨⟨p,48::post,by simp;omega,rfl,?_,f.setCell (p:=⟨w.heap.size,p.length,none⟩) (A0h _) _,by rw[<-q];simp⟩,by simp only[RowKit.intOf];omega⟩;simpa using m
theorem YA(l:List UInt8):(KD l).length<=l.length+1:=by
 induction l with
 | nil=>simp[KD]
 | cons c l a=>rw[KD];split<;>simp;omega
theorem AgN(W0:World)(s:Aa)(g:s.length<=2^20):Al Tryz.prog W0 202 [.s s] [] (.s (H7 s)) []:=by refine AR (by kernel_rfl) λw vals f ⟨μ,H,b⟩=>?_;obtain⟨rfl,_⟩:=b.one_s;refine(Y3 s (by omega) w).mono λe w' ⟨a,c⟩=>?_;refine⟨_,a,λ_ _=>.s _ ?_,c⟩;have:=YA s.reverse;unfold H7 AG;simp at this⊢;omega
end Go.Ir
namespace Go.Proofs
open Go.Shelf
def Tryz.lays150_ren:Go.Shelf.Ren:=⟨fun|150=>270|153=>308|152=>321|226=>329|227=>247|228=>292|137=>252|119=>337|224=>290|225=>289|217=>288|266=>319|n=>n,fun|9=>9|4=>4|3=>3|5=>5|21=>21|117=>323|116=>322|0=>0|46=>237|124=>326|n=>n,fun|n=>n⟩
theorem Tryz.lays150:Go.Proofs.Lays.n150 Tryz.prog Tryz.lays150_ren:=by constructor;all_goals intros;kernel_rfl
end Go.Proofs
namespace Go.Ir
open Go.Proofs Go.RowKit
set_option maxHeartbeats 4000000 in
set_option maxRecDepth 1000000 in
theorem Sn(w:World):Calls Tryz.prog 321 #[.string ⟨#[123,125]⟩,.int .i32 65533] w λe w'=>e=.returned (.int .i64 (-1))/\Below w.heap.size w w':=by
 go_enter Tryz.func321,Tryz.ntmps321
 go_wp2
 go_loopg [5,6,176,177,178,179,180,181] 2 (λg _ _ _ _ _ _ _ _ h=>∃i:Nat,i+g=2/\h=w.iter ⟨#[123,125]⟩ i)
 case atStart=>exact⟨0,rfl,rfl⟩
 case round=>
  obtain⟨i,f,rfl⟩:=hrel;cases gk with
  | zero=>
   obtain rfl:i=2:=by omega
   have a:=run_next_end (P:=Tryz.prog) w ⟨#[123,125]⟩ 2
   go_wp2
   go_ret
   exact⟨rfl,(Aw0 _ w).alloc (A0h _) _⟩
  | succ g=>
   have c:i=0\/i=1:=by omega
   rcases c with rfl|rfl
   .have a:=λb=>run_next_ascii (P:=Tryz.prog) w ⟨#[123,125]⟩ 0 b (by decide) (by decide)
    go_wp2
    go_roundg g
    case measure=>omega
    grind
   .have a:=λb=>run_next_ascii (P:=Tryz.prog) w ⟨#[123,125]⟩ 1 b (by decide) (by decide)
    go_wp2
    go_roundg g
    case measure=>omega
    grind
set_option maxHeartbeats 4000000 in
set_option maxRecDepth 1000000 in
theorem Sm(r:Int)(h:55296<=r)(i:r<=57343)(w:World):Calls Tryz.prog 321 #[.string ⟨#[123,125]⟩,.int .i32 r] w λe w'=>e=.returned (.int .i64 (-1))/\Below w.heap.size w w':=by
 have a:decide (0<=r)=true:=by simp;omega
 have b:decide (r<128)=false:=by simp;omega
 have c:(r==65533)=false:=by simp;omega
 have f:¬r<55296:=by omega
 have g:¬57343<r:=by omega
 go_enter Tryz.func321,Tryz.ntmps321
 go_wp2
 go_ret
 exact⟨rfl,Aw0 _ w⟩
set_option maxHeartbeats 4000000 in
set_option maxRecDepth 1000000 in
theorem MB(r:Int)(h1:128<=r)(hr:r<55296\/57343<r)(h2:r<=1114111)(h3:(r==65533)=false)(w:World):Calls Tryz.prog 321 #[.string ⟨#[123,125]⟩,.int .i32 r] w fun e w'=>e=.returned (.int .i64 (-1))/\Below w.heap.size w w':=by
 have mixed:=Tryz.lays150.mixed
 have g1:decide (0<=r)=true:=by simp;omega
 have g2:decide (r<128)=false:=by simp;omega
 have hv:Utf8.valid r=true:=by
  rw[validRune_eq]
  unfold validRune
  grind
 obtain⟨f1,f2,f3⟩:=encode_facts r hv h1
 have hcv:=fun(w:World)=>run_convert_int_string (P:=Tryz.prog) w 21 9 .i32 r (by rw[Tryz.underlying21];rfl) Tryz.underlying9
 generalize Utf8.encode r=E at *
 have hw1:RowKit.wrap64 ((E.size:Int)-1)=(E.size:Int)-1:=by unfold RowKit.wrap64;omega
 have hw1':(E.size:Int)-1=((E.size-1:Nat):Int):=by omega
 rw[hw1'] at hw1
 rcases hr with hr|hr
 .go_enter Tryz.func321,Tryz.ntmps321
  go_wp2
  refine wp_scope_straight ?_
  go_wp2
  go_loopw [9] (fun i wr=>i=.int .i64 ((E.size-1:Nat):Int)/\wr=w) (fun _ _=>0)
  case atStart=>exact⟨rfl,rfl⟩
  case round=>
   obtain⟨rfl,rfl⟩:=hrel
   by_cases hs:E.size=2
   .have hs1:E.size-1=1:=by omega
    obtain⟨x,hx⟩:∃x,x=E[1]'(by omega):=⟨_,rfl⟩
    have hx2:128<=x.toNat:=by
     simp_all
    have g6:(1:Nat)<E.size:=by omega
    have g8:((125:Int) !=(x.toNat:Int))=true:=by simp;omega
    have hib:=fun w=>Any.strings_IndexByte (P:=Tryz.prog) (ρ:=Tryz.lays150_ren) { Tryz.lays150 with } ⟨#[]⟩ (x.toNat:Int) w
    simp only[hs1] at hw1⊢
    go_wp2
    refine wp_scope_straight ?_
    go_wp2
    have hq:(((((⟨#[123,125]⟩:ByteArray)[1]'(by decide)).toNat:Nat):Int) !=(((E[1]'g6).toNat:Nat):Int))=true:=by rw[<-hx];exact g8
    go_region
    go_wp2
    go_region_with (go_at_call 252;refine(Any.strings_IndexByte (P:=Tryz.prog) (ρ:=Tryz.lays150_ren) { Tryz.lays150 with } _ _ _).mono ?_;rintro e w' ⟨rfl,hw⟩;rw[hw])
    go_wp2
    all_goals (simp +zetaDelta only [Exit.noGoto,Exit.inBlock,Exit.then];go_ret;exact⟨rfl,((Aw0 _ _).drew).drew⟩)
   .have g6:¬E.size-1<2:=by omega
    have g7:decide (((E.size-1:Nat):Int)<2)=false:=by simp;omega
    go_wp2
    simp only[Exit.noGoto]
    go_ret
    exact⟨rfl,Aw0 _ _⟩
 .have g9:¬r<55296:=by omega
  go_enter Tryz.func321,Tryz.ntmps321
  go_wp2
  refine wp_scope_straight ?_
  go_wp2
  go_loopw [9] (fun i wr=>i=.int .i64 ((E.size-1:Nat):Int)/\wr=w) (fun _ _=>0)
  case atStart=>exact⟨rfl,rfl⟩
  case round=>
   obtain⟨rfl,rfl⟩:=hrel
   by_cases hs:E.size=2
   .have hs1:E.size-1=1:=by omega
    obtain⟨x,hx⟩:∃x,x=E[1]'(by omega):=⟨_,rfl⟩
    have hx2:128<=x.toNat:=by
     simp_all
    have g6:(1:Nat)<E.size:=by omega
    have g8:((125:Int) !=(x.toNat:Int))=true:=by simp;omega
    have hib:=fun w=>Any.strings_IndexByte (P:=Tryz.prog) (ρ:=Tryz.lays150_ren) { Tryz.lays150 with } ⟨#[]⟩ (x.toNat:Int) w
    simp only[hs1] at hw1⊢
    go_wp2
    refine wp_scope_straight ?_
    go_wp2
    have hq:(((((⟨#[123,125]⟩:ByteArray)[1]'(by decide)).toNat:Nat):Int) !=(((E[1]'g6).toNat:Nat):Int))=true:=by rw[<-hx];exact g8
    go_region
    go_wp2
    go_region_with (go_at_call 252;refine(Any.strings_IndexByte (P:=Tryz.prog) (ρ:=Tryz.lays150_ren) { Tryz.lays150 with } _ _ _).mono ?_;rintro e w' ⟨rfl,hw⟩;rw[hw])
    go_wp2
    all_goals (simp +zetaDelta only [Exit.noGoto,Exit.inBlock,Exit.then];go_ret;exact⟨rfl,((Aw0 _ _).drew).drew⟩)
   .have g6:¬E.size-1<2:=by omega
    have g7:decide (((E.size-1:Nat):Int)<2)=false:=by simp;omega
    go_wp2
    simp only[Exit.noGoto]
    go_ret
    exact⟨rfl,Aw0 _ _⟩
theorem To(r:Int)(b:128<=r)(c:r<=1114111)(w:World):Calls Tryz.prog 321 #[.string ⟨#[123,125]⟩,.int .i32 r] w λe w'=>e=.returned (.int .i64 (-1))/\Below w.heap.size w w':=by
 by_cases f:r=65533
 .subst f;exact Sn w
 .have a:(r==65533)=false:=by simp[f]
  by_cases g:r<55296
  .exact MB r b (.inl g) c a w
  .by_cases h:57343<r
   .exact MB r b (.inr h) c a w
   .exact Sm r (by omega) (by omega) w
theorem eT(s:ByteArray)(p:Nat)(h:128<=(s.get! p).toNat):(Utf8.decode s p).1<=1114111/\∀k,k<(Utf8.decode s p).2->128<=(s.get! (p+k)).toNat:=by
 have a:∀k,(s.get! (p+k)).toNat<256:=λk=>(s.get! (p+k)).toNat_lt;have g:=a 0;have i:=a 1;have j:=a 2;have m:=a 3;have f:¬(s.get! (p+0)).toNat<128:=by rw[AyV];omega
 have o:128<=(s.get! (p+0)).toNat:=by rw[AyV];exact h
 have one:∀k,k<1->128<=(s.get! (p+k)).toNat:=λk e=>by grind
 simp only[Utf8.decode,f,if_false,Utf8.runeError];split
 .grind
 .split
  .grind
  .split
   .rename_i c;simp only[A0g,beq_iff_eq] at c;split
    .rename_i d;have b:=d;simp only[Utf8.valid,A0g,AxS,decide_eq_true_eq] at b;refine⟨by simp only;omega,λk e=>?_⟩;grind
    .exact⟨by simp,one⟩
   .exact⟨by simp,one⟩
def AoT(s:ByteArray)(i:Nat):Prop:=∀j,j<i->j<s.size->s.get! j≠123/\s.get! j≠125
set_option maxHeartbeats 4000000 in
set_option maxRecDepth 1000000 in
theorem Pk(s:ByteArray)(h8:s.size<=8)(w:World):Calls Tryz.prog 308 #[.string s,.string ⟨#[123,125]⟩] w fun e w'=>(∃v:Int,e=.returned (.int .i64 v)/\((0<=v/\∃j,j<s.size/\(s.get! j=123\/s.get! j=125))\/(v=-1/\AoT s s.size)))/\Below w.heap.size w w':=by
 have mixed:=Tryz.lays150.mixed
 have h8z:decide ((8:Int)<(s.size:Int))=false:=decide_eq_false (by omega)
 have e152:∀args w,(callFunc 321 args).run Tryz.prog w=.ok (.enter 321 args) w:=enters_of Tryz.func321 (by kernel_rfl) rfl
 have L153:Lays.n153 Tryz.prog Tryz.lays150_ren:={ Tryz.lays150 with }
 have e226:∀args w,(callFunc (Tryz.lays150_ren.f 226) args).run Tryz.prog w=.ok (.enter (Tryz.lays150_ren.f 226) args) w:=enters_of L153.f226 (by kernel_rfl) rfl
 go_enter Tryz.func308,Tryz.ntmps308
 go_wp2_with (go_at_call 329;refine(Any.strings_shouldUseASCIISet (P:=Tryz.prog) (ρ:=Tryz.lays150_ren) { Tryz.lays150 with } _ _).mono ?_;rintro e w' ⟨rfl,hw⟩;rw[hw,h8z])
 go_loopw [9,10] (fun _ _ wr=>∃i:Nat,wr.heap[w.heap.size]?=some (.stringIter s i)/\Below w.heap.size w wr/\AoT s i) (fun _ _ wr=>s.size-wr.iterPos w.heap.size)
 case atStart=>exact⟨0,World.iter_heap _ _ _,(Aw0 _ w).alloc (A0h _) _,fun j hj=>by omega⟩
 case round=>
  obtain⟨i,hit,hbw,hno⟩:=hrel
  by_cases hi:i<s.size
  .by_cases ha:(s[i]'hi).toNat<128
   .have hnx:=fun ty=>Go.Lib.run_next_ascii_at (P:=Tryz.prog) wr w.heap.size s i ty hit hi ha
    have hg:s.get! i=s[i]'hi:=by
     simp[ByteArray.get!,hi]
     rfl
    have hp1:=Lib.iterAt_heap wr w.heap.size s i (i+1) hit
    have hm:s.size-(wr.iterAt w.heap.size s (i+1)).iterPos w.heap.size<s.size-wr.iterPos w.heap.size:=by
     unfold World.iterPos
     grind
    have hb1:=Lib.below_iterAt hbw (k:=w.heap.size) (A0h _) s (i+1)
    have Hm:Hid (s.size-(wr.iterAt w.heap.size s (i+1)).iterPos w.heap.size<s.size-wr.iterPos w.heap.size):=hm
    have Hp:Hid ((wr.iterAt w.heap.size s (i+1)).heap[w.heap.size]?=some (.stringIter s (i+1))):=hp1
    clear hm hp1
    generalize s[i]'hi=x at *
    have Hg:Hid (s.get! i=x):=hg
    clear hg
    have hcon:=Lib.contains_iff_indexByte [123,125] x
    have hback:((x.toNat:Int)).toNat.toUInt8=x:=by simp
    cases hin:([123,125]:List UInt8).contains x
    .rw[hin] at hcon
     have hlt:¬((0:Int)<=Lib.indexByte [123,125] x):=of_decide_eq_false hcon.symm
     have Hin:Hid (([123,125]:List UInt8).contains x=false):=hin
     clear hcon hin
     go_wp2_with (go_at_call 321;refine(Any.strings_IndexRune_ascii (P:=Tryz.prog) (ρ:=Tryz.lays150_ren) { Tryz.lays150 with } _ _ _ (by omega) (by omega)).mono ?_;rintro e w' ⟨rfl,hw⟩;rw[hw,hback])
     refine⟨⟨i+1,Hp.out,hb1,fun j hj hjs=>?_⟩,Hm.out⟩
     by_cases he:j=i
     .subst he
      rw[Hg.out]
      have:=Hin.out
      grind
     .exact hno j (by omega) hjs
    .rw[hin] at hcon
     have hge:(0:Int)<=Lib.indexByte [123,125] x:=of_decide_eq_true hcon.symm
     have Hin:Hid (([123,125]:List UInt8).contains x=true):=hin
     clear hcon hin
     go_wp2_with (go_at_call 321;refine(Any.strings_IndexRune_ascii (P:=Tryz.prog) (ρ:=Tryz.lays150_ren) { Tryz.lays150 with } _ _ _ (by omega) (by omega)).mono ?_;rintro e w' ⟨rfl,hw⟩;rw[hw,hback])
     go_ret
     refine⟨⟨i,rfl,.inl ⟨by omega,i,hi,?_⟩⟩,hb1⟩
     rw[Hg.out]
     have:=Hin.out
     simpa using this
   .have hnx:=fun ty=>Go.Lib.run_next_any_at (P:=Tryz.prog) wr w.heap.size s i ty hit hi
    have hg:s.get! i=s[i]'hi:=by
     simp[ByteArray.get!,hi]
     rfl
    obtain⟨d1,d2⟩:=decode_high s i hi (by omega)
    obtain⟨d3,d4⟩:=eT s i (by rw[hg];omega)
    generalize hD:Utf8.decode s i=D at *
    obtain⟨r,n⟩:=D
    simp only at d1 d2 d3 d4 hnx
    have hp1:=Lib.iterAt_heap wr w.heap.size s i (i+n) hit
    have hsz:=Lib.iterAt_size wr w.heap.size s (i+n)
    have hlt:w.heap.size<wr.heap.size:=(Ath.1 hit).1
    have hb1:=Lib.below_iterAt hbw (k:=w.heap.size) (A0h _) s (i+n)
    have Hp:Hid ((wr.iterAt w.heap.size s (i+n)).heap[w.heap.size]?=some (.stringIter s (i+n))):=hp1
    have Hd:Hid (∀k,k<n->128<=(s.get! (i+k)).toNat):=d4
    have Hsz:Hid ((wr.iterAt w.heap.size s (i+n)).heap.size=wr.heap.size):=hsz
    have Hb:Hid (Below w.heap.size w (wr.iterAt w.heap.size s (i+n))):=hb1
    clear hp1 d4 hg ha hD hsz hb1
    go_wp2_with (go_at_call 321;refine(To (r:Int) (by omega) (by omega) _).mono ?_;rintro e w2 ⟨rfl,hw2⟩)
    have hb2:Below w.heap.size (wr.iterAt w.heap.size s (i+n)) w2:=hw2.mono (by rw[Hsz.out];omega)
    have hp2:w2.heap[w.heap.size]?=some (.stringIter s (i+n)):=by
     rw[hw2.block _ (by rw[Hsz.out];exact hlt)]
     exact Hp.out
    refine⟨⟨i+n,hp2,Hb.out.trans hb2,fun j hj hjs=>?_⟩,?_⟩
    .by_cases he:j<i
     .exact hno j he hjs
     .have:=Hd.out (j-i) (by omega)
      rw[show i+(j-i)=j by omega] at this
      constructor
      .intro h;simp_all
      .intro h;simp_all
    .unfold World.iterPos
     grind
  .have hnx:=fun ty=>Go.Lib.run_next_end_at (P:=Tryz.prog) wr w.heap.size s i ty hit hi
   go_wp2
   go_ret
   exact⟨⟨-1,rfl,.inr ⟨rfl,fun j hj=>hno j (by omega)⟩⟩,hbw⟩
theorem N8(s:Aa):(∃j,j<(⟨s.toArray⟩:ByteArray).size/\((⟨s.toArray⟩:ByteArray).get! j=123\/(⟨s.toArray⟩:ByteArray).get! j=125))↔Fv s=true:=by
 unfold Fv;rw[Ay1];have e:∀j (h:j<s.length),(⟨s.toArray⟩:ByteArray).get! j=s[j]:=λj h=>by simp[ByteArray.get!,h]
 constructor
 .rintro⟨j,a,h⟩;have b:j<s.length:=by simpa[ByteArray.size] using a
  grind
 .rintro⟨x,c,h⟩;obtain⟨j,a,rfl⟩:=List.getElem_of_mem c;refine⟨j,by simpa[ByteArray.size] using a,?_⟩;grind
theorem pS:∀s:Aa,decide (0<=Lib.indexAny s [123,125])=Fv s
 | []=>rfl
 | b::l=>by
  have f:=pS l;have e:=Lib.indexAny_ge [123,125] l;have c:([123,125]:List UInt8).contains b=(b==123||b==125):=by rw[AtV];simp
  have a:Fv (b::l)=((b==123||b==125)||Fv l):=rfl;rw[Lib.indexAny,c,a,<-f];grind
theorem SK(s:Aa)(o:s.length<4294967281)(w:World):Calls Tryz.prog 308 #[.string ⟨s.toArray⟩,.string ⟨#[123,125]⟩] w λe w'=>(∃v:Int,e=.returned (.int .i64 v)/\decide (0<=v)=Fv s)/\Below w.heap.size w w':=by
 by_cases k:s.length<=8
 .refine(Pk ⟨s.toArray⟩ (by simpa[ByteArray.size] using k) w).mono λe w' ⟨⟨v,c,f⟩,h3⟩=>⟨⟨v,c,?_⟩,h3⟩
  rcases f with⟨h4,h5⟩|⟨rfl,h5⟩
  .rw[(N8 s).1 h5];simpa using h4
  .cases m:Fv s with
   | false=>rfl
   | true=>obtain⟨j,g,h⟩:=(N8 s).2 m;have:=h5 j g g;grind
 .have a:(Tryz.prog.info? (Tryz.lays150_ren.t 116)).map (λi=>(i.zero,i.size))=some (some (.agg (Array.replicate 256 (.bool false))),256):=by kernel_rfl
  refine(Any.strings_IndexAny_long (P:=Tryz.prog) (ρ:=Tryz.lays150_ren) { Tryz.lays150 with } (zero_of_info a).1 (zero_of_info a).2 ⟨s.toArray⟩ ⟨#[123,125]⟩ w (by decide) (by simp[ByteArray.size];omega) (by simpa[ByteArray.size] using o) (by decide) (λj b h=>by
   match j with
   | 0=>simp at h;subst h;decide
   | 1=>simp at h;subst h;decide
   | j+2=>simp at h)).mono λe w' ⟨c,f⟩=>⟨⟨_,c,?_⟩,?_⟩
  .exact pS s
  .rw[f];exact((Aw0 _ _).alloc (A0h _) _).alloc (by simp) _
set_option maxHeartbeats 1000000 in
theorem Aab(s:Aa)(a:s.length<4294967281)(w:World):Calls Tryz.prog 270 #[.string ⟨s.toArray⟩,.string ⟨#[123,125]⟩] w λe w'=>e=.returned (.bool (Fv s))/\Below w.heap.size w w':=by
 have c:=SK s a w
 go_enter Tryz.func270,Tryz.ntmps270
 go_wp2_with (go_at_call 308;refine c.mono ?_;rintro e w' ⟨⟨v,rfl,b⟩,f⟩)
 go_ret
 simp_all
theorem nD(W0:World)(s:Aa)(k:s.length<=2^31):Al Tryz.prog W0 270 [.s s,.s [123,125]] [] (.b (Fv s)) []:=by
 refine AR (by kernel_rfl) λw vals i ⟨μ,H,c⟩=>?_;have a:=c.len;obtain⟨x,y,rfl⟩:∃x y,vals=[x,y]:=by
  match vals,a with
  | [x,y],_=>exact⟨x,y,rfl⟩
 obtain⟨rfl,j⟩:=B7 (c.at_ 0 _ _ rfl rfl);obtain⟨rfl,g⟩:=B7 (c.at_ 1 _ _ rfl rfl);exact(Aab s (by omega) w).mono λe w' ⟨f,h⟩=>⟨_,f,λ_ _=>.b _,h⟩
end Go.Ir
section
namespace Go.Ir
open Go.Proofs
variable(W0:World)
def Eq:List (V×V):=[(.s [110,117,109,98,101,114],.i .i64 3),(.s [117,110,105,116],.i .i64 4),(.s [100,97,116,101],.i .i64 5),(.s [108,105,115,116],.i .i64 6),(.s [112,108,117,114,97,108],.i .i64 7),(.s [111,114,100,105,110,97,108],.i .i64 8),(.s [115,101,108,101,99,116],.i .i64 9)]
theorem Ak8:IU π W0 134 [] [] (.map Eq) []:=by refine Xu (s:=0) AiY (by simp) (by simp) λn0 a=>?_;clear a;unfold Eq;have j:Bs .str (.s [110,117,109,98,101,114]) [] 0=some none:=rfl;have b:Bs .str (.s [117,110,105,116]) (Eq.take 1) 0=some none:=rfl;have c:Bs .str (.s [100,97,116,101]) (Eq.take 2) 0=some none:=rfl;have e:Bs .str (.s [108,105,115,116]) (Eq.take 3) 0=some none:=rfl;have f:Bs .str (.s [112,108,117,114,97,108]) (Eq.take 4) 0=some none:=rfl;have g:Bs .str (.s [111,114,100,105,110,97,108]) (Eq.take 5) 0=some none:=rfl;have i:Bs .str (.s [115,101,108,101,99,116]) (Eq.take 6) 0=some none:=rfl;simp only[Eq,AuA,Awu] at b c e f g i;simp only[push_cast,j,b,c,e,f,g,i];intros;exact⟨_,Ak.refl,_,rfl,by simp[lk],rfl,λ_ _ h=>by simp[lk] at h⟩
def Th(k:Int):Nat:=if decide (k>=3)&&decide (k<=9) then 2+(YT k).length else 0
mutual
def Aw.lenB:Aw->Nat
 | ⟨k,t,a,st,cs,ps⟩=>
  if k==1 then(GA t).length
  else if k==10 then 1
  else if k==11 then(3+a.length)+(if ps.isEmpty then 0 else(2+a.length)+CL ps)
  else(2+a.length)+Th k+(if st==[] then 0 else 2+st.length)+(if Dm k then 1 else 0)+FE cs
def CL:List Aw->Nat
 | []=>0
 | p::ps=>p.lenB+CL ps
def FE:List (Aa×List Aw)->Nat
 | []=>0
 | (key,ps)::cs=>((4+key.length)+CL ps)+FE cs
end
theorem Aw.lenB_eq(p:Aw):p.lenB=(if p.kind==1 then(GA p.text).length
  else if p.kind==10 then 1
  else if p.kind==11 then(3+p.name.length)+(if p.parts.isEmpty then 0 else(2+p.name.length)+CL p.parts)
  else(2+p.name.length)+Th p.kind+(if p.style==[] then 0 else 2+p.style.length)+(if Dm p.kind then 1 else 0)+FE p.cases):=by cases p;simp only[Aw.lenB]
theorem Lr(p:Aw)(ps:List Aw):CL (p::ps)=p.lenB+CL ps:=by simp only[CL]
theorem HW(c:Ea)(cs:List Ea):FE (c::cs)=((4+c.1.length)+CL c.2)+FE cs:=by obtain⟨k,q⟩:=c;simp only[FE]
theorem Vo(k:Int):Th k<=9:=by unfold Th;have:=MH k;split<;>omega
theorem Aw.lenB_le1(p:Aw)(b:CL p.parts<=20*Ei p.parts)(c:FE p.cases<=20*If p.cases):p.lenB<=20*p.wt:=by rw[p.wt_eq,p.lenB_eq];have a:=QT p.text;have a2:=Vo p.kind;grind
theorem bJ:∀(N:Nat) (ps:List Aw),Ei ps<N->CL ps<=20*Ei ps:=by
 intro N
 induction N with
 | zero=>intro ps h;omega
 | succ N e=>
  have b:∀cs:List Ea,If cs<N->FE cs<=20*If cs:=by
   intro cs
   induction cs with
   | nil=>intro _;simp[FE]
   | cons c cs a=>intro h;rw[E4] at h;rw[HW,E4];grind
  intro ps
  induction ps with
  | nil=>intro _;simp[CL]
  | cons p ps a=>intro h;rw[FM] at h;rw[Lr,FM];have f:=a (by omega);have g:=p.wt_eq;have:=p.lenB_le1 (e p.parts (by omega)) (b p.cases (by omega));omega
theorem I4(ps:List Aw):CL ps<=20*Ei ps:=bJ _ ps (A0j _)
theorem sD(cs:List Ea):FE cs<=20*If cs:=by
 induction cs with
 | nil=>simp[FE]
 | cons c cs a=>rw[HW,E4];have:=I4 c.2;omega
theorem Aw.lenB_le(p:Aw):p.lenB<=20*p.wt:=p.lenB_le1 (I4 _) (sD _)
theorem Sd:Eq.length=7:=rfl
theorem Aag{i:Nat}{a:V×V}(h:Eq[i]?=some a):i<7/\a=(.s (YT (i+3:Nat)),.i .i64 (i+3:Nat)):=by
 have b:i<7:=by have:=(Afk.1 h).1;rw[Sd] at this;exact this
 refine⟨b,?_⟩;have:i=0\/i=1\/i=2\/i=3\/i=4\/i=5\/i=6:=by omega
 rcases this with rfl|rfl|rfl|rfl|rfl|rfl|rfl<;>(simp only[Eq,Aye,Awx,AmF] at h;rw[<-h];rfl)
def FL(k:Int)(seen:List Nat):Nat:=if decide (k>=3)&&seen.contains (k-3).toNat then 2+(YT k).length else 0
theorem aQ(k:Int):FL k []=0:=by simp[FL]
theorem Y1{k:Int}{seen:List Nat}{i:Nat}(h:((i+3:Nat):Int)=k)(b:i∉seen):FL k seen=0/\FL k (seen++[i])=2+(YT (i+3:Nat)).length:=by
 subst h;have:(((i+3:Nat):Int)-3).toNat=i:=by omega
 have a:((i+3:Nat):Int)>=3:=by omega
 unfold FL;grind
theorem S0{k:Int}{seen:List Nat}{i:Nat}(h:((i+3:Nat):Int)≠k):FL k (seen++[i])=FL k seen:=by unfold FL;grind
theorem aU{k:Int}{seen:List Nat}(a:∀i,i<7->i∈seen)(b:∀i∈seen,i<7):FL k seen=Th k:=by unfold FL Th;grind
def Qr(seen:List Nat):Nat:=(if 0∈seen then 0 else 1)+(if 1∈seen then 0 else 1)+(if 2∈seen then 0 else 1)+(if 3∈seen then 0 else 1)+(if 4∈seen then 0 else 1)+(if 5∈seen then 0 else 1)+(if 6∈seen then 0 else 1)
theorem qT{seen:List Nat}{i:Nat}(b:i<7)(a:i∉seen):Qr (seen++[i])<Qr seen:=by
 have:i=0\/i=1\/i=2\/i=3\/i=4\/i=5\/i=6:=by omega
 unfold Qr;rcases this with rfl|rfl|rfl|rfl|rfl|rfl|rfl<;>simp[a]
end Go.Ir
end
namespace Go.Ir
open Go.Proofs
variable(W0:World)
set_option maxHeartbeats 4000000 in
theorem rK:∀(N:Nat) (ps:List Aw),Ei ps<N->Ei ps<=2^24->
  Al π W0 96 [.sl (ps.map Aw.enc)] [] (.i .i64 (CL ps)) []:=by
 intro N
 induction N with
 | zero=>intro ps h;omega
 | succ N ih=>
 intro ps hN hb;have ab:=oT ps;generalize hS:CL ps=S;refine Ae (vs:=[.i .i64 S]) Aqb (by simp) (by simp) λn0 W=>?_;clear W;simp only[push_cast,seval,reduceEqDiff];intros;refine Am ps.length (Inv:=λm st=>∃dn a n f x,x=((f:Nat):Int)/\ps=dn++a/\m=a.length/\f+CL a=S/\f+20*Ei a<=20*Ei ps/\st=⟨[(3,.i .i64 x),(10,.sl (ps.map Aw.enc)),(11,.i .i64 ps.length),(12,.i .i64 dn.length)],[],n⟩) ⟨_,Ak.refl,[],ps,_,0,0,rfl,rfl,rfl,by omega,by omega,rfl⟩ ?_;clear hS;rintro m _ ⟨dn,a,n,f,_,rfl,e,rfl,b,F,rfl⟩;cases a with
 | nil=>
  rw[CL,AyV] at b;subst b;simp only[push_cast,seval,reduceEqDiff,e]
  repeat' (first|(((first|apply Ab|apply Ag|apply Ah)<;>intro _h)<;>simp only[push_cast,seval,reduceEqDiff,_h])|intro _)
  all_goals (first|(refine Af ?_;simp[get]<;>(intros;omega);done)|(refine Ad ?_;simp[push_cast,get];done)|skip)
 | cons p a=>
  have ag:=AL e;have hw:=mH (ps:=ps) (p:=p) (by rw[e];simp);rw[p.wt_eq] at hw;rw[Lr,<-AyH] at b;rw[FM,p.wt_eq] at F;have X:=p.lenB_le;rw[p.wt_eq] at X;have ak:=I4 p.parts;have aj:=wE p.cases;have V:=ih p.parts (by omega) (by omega);have L:=TO W0 p.kind;rw[p.lenB_eq] at b;by_cases k1:p.kind=1
  .have R:=Y2 W0 p.text (by omega);have:=QT p.text;rw[k1] at b;simp only[push_cast,seval,reduceEqDiff,e,Ai p (dn:=dn) (by omega),k1,Int.reduceBEq,Int.reduceBNe];have _h:=trivial;repeat' (first|(first|((first|apply Ab|apply Ag|apply Ah)<;>intro _h)|refine Ac R ?_|refine Ar (by omega) ?_)<;>simp only[push_cast,seval,reduceEqDiff,_h,e,Ai p (dn:=dn) (by omega),k1,Int.reduceBEq,Int.reduceBNe]|intro _)
   refine⟨_,_,A0j _,Ak.drop1 rfl (A0h _),dn++[p],a,_,f+(GA p.text).length,_,by(try simp(disch:=omega) only [wrap64]);omega,by simp,rfl,by rw[<-b];simp,by rw[<-e];omega,rfl⟩
  by_cases k2:p.kind=10
  .rw[k2] at b;simp only[push_cast,seval,reduceEqDiff,e,Ai p (dn:=dn) (by omega),k2,Int.reduceBEq,Int.reduceBNe]
   repeat' (first|(((first|apply Ab|apply Ag|apply Ah)<;>intro _h)<;>simp only[push_cast,seval,reduceEqDiff,_h,e,Ai p (dn:=dn) (by omega),k2,Int.reduceBEq,Int.reduceBNe])|(refine Ar (by omega) ?_;simp only[push_cast,seval,reduceEqDiff,e,Ai p (dn:=dn) (by omega),k2,Int.reduceBEq,Int.reduceBNe])|intro _)
   refine⟨_,_,A0j _,Ak.drop1 rfl (A0h _),dn++[p],a,_,f+1,_,by(try simp(disch:=omega) only [wrap64]);omega,by simp,rfl,by rw[<-b];simp,by rw[<-e];omega,rfl⟩
  by_cases k3:p.kind=11
  .rw[k3] at b;rcases hps:p.parts with _|⟨q,qs⟩
   .rw[hps] at b;simp only[push_cast,seval,reduceEqDiff,e,Ai p (dn:=dn) (by omega),k3,Int.reduceBEq,Int.reduceBNe,hps]
    repeat' (first|(((first|apply Ab|apply Ag|apply Ah)<;>intro _h)<;>simp only[push_cast,seval,reduceEqDiff,_h,e,Ai p (dn:=dn) (by omega),k3,Int.reduceBEq,Int.reduceBNe,hps])|(refine Ar (by omega) ?_;simp only[push_cast,seval,reduceEqDiff,e,Ai p (dn:=dn) (by omega),k3,Int.reduceBEq,Int.reduceBNe,hps])|intro _)
    refine⟨_,_,A0j _,Ak.drop1 rfl (A0h _),dn++[p],a,_,f+(3+p.name.length),_,by(try simp(disch:=omega) only [wrap64]);omega,by simp,rfl,by rw[<-b];simp,by rw[<-e];omega,rfl⟩
   .have Z:decide ((p.parts.length:Int)>0)=true:=by rw[hps];simp<;>omega
    have e2:p.parts.isEmpty=false:=by rw[hps];rfl
    rw[e2] at b;clear hps;simp only[push_cast,seval,reduceEqDiff,e,Ai p (dn:=dn) (by omega),k3,Int.reduceBEq,Int.reduceBNe,Z];have _h:=trivial;repeat' (first|(first|((first|apply Ab|apply Ag|apply Ah)<;>intro _h)|refine Ac V ?_|refine Ar (by omega) ?_)<;>simp only[push_cast,seval,reduceEqDiff,_h,e,Ai p (dn:=dn) (by omega),k3,Int.reduceBEq,Int.reduceBNe,Z]|intro _)
    refine⟨_,_,A0j _,Ak.drop1 rfl (A0h _),dn++[p],a,_,f+(3+p.name.length)+((2+p.name.length)+CL p.parts),_,by(try simp(disch:=omega) only [wrap64]);omega,by simp,rfl,by rw[<-b];simp<;>omega,by rw[<-e];omega,rfl⟩
  have q1:(p.kind==1)=false:=by simpa using k1
  have q2:(p.kind==10)=false:=by simpa using k2
  have q3:(p.kind==11)=false:=by simpa using k3
  rw[q1,q2,q3] at b;simp only[bq,if_true,if_false,Int.reduceBEq,reduceCtorEq] at b;simp only[push_cast,seval,reduceEqDiff,e,Ai p (dn:=dn) (by omega),q1,q2,q3,Int.reduceBEq,Int.reduceBNe];intros;refine KZ (Ak8 W0) (λ_ _ h=>by simp[lk] at h) ?_;rw[GQ];simp only[push_cast,seval,reduceEqDiff];intro kk;have an:=MH p.kind;refine Am (Qr []) (Inv:=λm st=>∃seen n' x B M,x=((f+(2+p.name.length)+FL p.kind seen:Nat):Int)/\m=Qr seen/\(∀i∈seen,i<7)/\st=⟨[(3,.i .i64 x),(5,.ref (M,5) 0),(10,.sl (List.map Aw.enc (dn++p::a))),(11,.i .i64 (dn++p::a).length),(12,.i .i64 dn.length),(25,.arr (B,25))],[((B,25),.mit (B,24) Eq.length seen Eq.length),((B,24),.map Eq),((M,5),.box p.v)],n'⟩) ⟨_,Ak.refl,[],_,_,_,_,by(simp(disch:=omega) only [wrap64,aQ];omega),rfl,by simp,rfl⟩ ?_;rintro m _ ⟨seen,n',x,B,M,Y,rfl,K,rfl⟩;unfold Aw.v;simp only[push_cast,seval,reduceEqDiff,e,Ai p (dn:=dn) (by omega),q1,q2,q3,Int.reduceBEq,Int.reduceBNe];refine WI (id:=(B,25)) (mid:=(B,24)) (es:=Eq) (seen:=seen) rfl (by simp[lk]) (by simp[lk]) (by simp) (by simp) (λi kv T J=>?_) (λs=>?_)
  .obtain⟨U,rfl⟩:=Aag T;have u:(seen++[i]).getLast?=some i:=by simp
   have ac:=MH (i+3:Nat);have H:=qT U J;have A:∀j∈seen++[i],j<7:=by grind
   have G:=λh=>Y1 (k:=p.kind) (seen:=seen) (i:=i) h J;have C:=λh=>S0 (k:=p.kind) (seen:=seen) (i:=i) h;generalize ai:((i+3:Nat):Int)=ki at *;have al:FL p.kind seen<=9:=by unfold FL;split<;>omega
   simp only[push_cast,seval,reduceEqDiff,u,T]
   repeat' (first|(((first|apply Ab|apply Ag|apply Ah)<;>intro _h)<;>simp only[push_cast,seval,reduceEqDiff,_h,u,T])|intro _)
   .obtain⟨u1,u2⟩:=G (by simpa using _h);refine⟨_,_,H,Ak.refl,seen++[i],_,_,_,_,?_,rfl,A,rfl⟩;rw[u2];rw[u1] at Y;simp(disch:=omega) only [wrap64];omega
   .have u2:=C (by simpa using _h);refine⟨_,_,H,Ak.envD (λt=>?_) (A0h _),seen++[i],_,x,B,M,?_,rfl,A,rfl⟩
    .by_cases h6:6=t
     .right;subst h6;rfl
     .by_cases E:34=t
      .right;subst E;rfl
      .left;simp[get,h6,E]
    omega
  .rw[Sd] at s;rw[aU s K] at Y;have ao:=Vo p.kind;clear s K;obtain⟨sS,y⟩:∃n,n=(if(p.style==[])=true then 0 else 2+p.style.length):=⟨_,rfl⟩
   obtain⟨sC,w⟩:∃n,n=(if Dm p.kind=true then 1 else 0):=⟨_,rfl⟩;rw[<-y,<-w] at b;simp only[push_cast,seval,reduceEqDiff,e,Ai p (dn:=dn) (by omega),q1,q2,q3,Int.reduceBEq,Int.reduceBNe];have _h:=trivial;repeat' (first|(first|((first|apply Ab|apply Ag|apply Ah)<;>intro _h)|refine Ac L ?_)<;>simp only[push_cast,seval,reduceEqDiff,_h,e,Ai p (dn:=dn) (by omega),q1,q2,q3,Int.reduceBEq,Int.reduceBNe]|intro _)
   all_goals (try simp only[AsJ,A0b] at *)
   all_goals (first|rw[if_pos (by assumption)] at y|rw[if_neg (by grind)] at y)
   all_goals (first|rw[if_pos (by assumption)] at w|rw[if_neg (by grind)] at w)
   all_goals
    refine Am p.cases.length (Inv:=λm st=>∃D z n' g x,x=((g:Nat):Int)/\p.cases=D++z/\m=z.length/\g+FE z+CL a=S/\g+20*If z+20*Ei a<=20*Ei ps/\st=⟨[(3,.i .i64 x),(10,.sl (List.map Aw.enc (dn++p::a))),(11,.i .i64 (dn++p::a).length),(12,.i .i64 dn.length),(55,.sl (p.cases.map Ea.enc)),(56,.i .i64 p.cases.length),(57,.i .i64 D.length)],[],n'⟩) ⟨_,Ak.drop (λ_ _ h=>by cases h) (A0h _),[],p.cases,_,f+(2+p.name.length)+Th p.kind+sS+sC,_,by((try simp(disch:=omega) only [wrap64]);omega),rfl,rfl,by rw[<-b];omega,by omega,rfl⟩ ?_;clear b y w Y;rintro m _ ⟨D,z,n',g,x,rfl,o,rfl,b,r,rfl⟩;cases z with
    | nil=>rw[FE,AyV] at b;rw[iL] at r;simp only[push_cast,seval,reduceEqDiff,o,Ai p (dn:=dn) (by omega)];intros;exact⟨_,_,A0j _,Ak.refl,dn++[p],a,_,g,_,rfl,by simp,rfl,b,by rw[<-e];omega,rfl⟩
    | cons c z=>
     have ah:=AL o;have aq:=bR (cs:=p.cases) (c:=c) (by simp[o]);rw[HW] at b;rw[E4] at r;have am:=I4 c.2;have O:=ih c.2 (by omega) (by omega);simp only[push_cast,seval,reduceEqDiff,o,Ai c (dn:=D) (by omega)]
     repeat' (first|(refine Ac (by exact O) ?_;simp only[push_cast,seval,reduceEqDiff,o,Ai c (dn:=D) (by omega)])|intro _)
     refine⟨_,_,A0j _,Ak.drop1 rfl (A0h _),D++[c],z,_,g+((4+c.1.length)+CL c.2),_,by(simp(disch:=omega) only [wrap64];omega),by simp[o],rfl,by rw[<-b];omega,by omega,rfl⟩
def oH(ps:List Aw):Bool:=(R1 ps 0 false false []).1&&decide (((R1 ps 0 false false []).2.length:Int)<=20)&&decide ((CL ps:Int)<=4000)
structure WX where
 L:BV
 vs:List B4
 iso:Bool
def wA(u:Bool)(a:Id):V:=if u then .ref a 0 else .np
def wC(X:WX)(a:V)(b:Id)(e:Int):V:=.agg [a,.arr b,.s X.L.tag,.s X.L.parent,.s X.L.dir,.sl (X.L.card.map AB.enc),.sl (X.L.ord.map AB.enc),.s X.L.dec,.s X.L.grp,.s X.L.minus,.s X.L.perc,.i .i64 X.L.prim,.i .i64 X.L.sec,.sl (X.L.lists.map CA.enc),.sl (X.L.units.map Dd.enc),.sl (X.L.dates.map CG.enc),.sl (X.L.months.map V.s),.sl (X.L.days.map V.s),.sl (X.vs.map B4.enc),.b X.iso,.i .i64 e]
@[push_cast] theorem Awo(X:WX)(a:V)(b:Id)(e:Int):wC X a b e=.agg [a,.arr b,.s X.L.tag,.s X.L.parent,.s X.L.dir,.sl (X.L.card.map AB.enc),.sl (X.L.ord.map AB.enc),.s X.L.dec,.s X.L.grp,.s X.L.minus,.s X.L.perc,.i .i64 X.L.prim,.i .i64 X.L.sec,.sl (X.L.lists.map CA.enc),.sl (X.L.units.map Dd.enc),.sl (X.L.dates.map CG.enc),.sl (X.L.months.map V.s),.sl (X.L.days.map V.s),.sl (X.vs.map B4.enc),.b X.iso,.i .i64 e]:=rfl
theorem Ko{n0 n n' m:Nat}{b a:Id}(h:n<=a.1/\a.1<n'\/a=b)(c:n0<=n)(e:n'<=m):n0<=a.1/\a.1<m\/a=b:=by grind
theorem ER(a b:Aa):Ay a++Ay b=Ay (a++b):=by simp[Ay]
theorem Bv(a:Aa):(Ay a).length=a.length:=by simp[Ay]
theorem Lc{a c:Id}{A C:A5}(h:a≠c):∀i e,lk [(a,A),(c,C)] i=some e->lk [(c,C),(a,A)] i=some e:=by intro i e b;simp only[lk] at b⊢;grind
theorem TI(σ σo:Aj):over σ σo σ=σo:=by have:=EO (σi:=σ) (σo:=σo) (pre:=[]) (λp hp=>by cases hp);simpa using this
theorem Ak.ownTbox{W0:World}{T:TypeId}{nt n:Nat}{env:A9}{τ:Aj}{rid:Id}{A B:List V}(e sz k:Nat):Ak W0 nt ⟨env,(rid,.tbox T (.agg (A++.nil::B)))::τ,n⟩ ⟨env,((n,k),.arr e sz [])::(rid,.tbox T (.agg (A++.arr (n,k)::B)))::τ,n+1⟩:=by
 intro Z a w u;obtain⟨μ,H,J,hp,S,t,p,y⟩:=u;have b:μ (n,k)=none:=hp.bd _ (A0h _);have m:=Bh (v:=.slice none 0 0) b;have C:lk ((rid,A5.tbox T (.agg (A++.nil::B)))::τ) rid=some (.tbox T (.agg (A++.nil::B))):=by simp[lk]
 have s:((n,k):Id)≠rid:=by rintro rfl;obtain⟨_,F⟩:=(hp.ents _ _ C).named;rw[b] at F;cases F
 have f:=(hp.more (AmQ n)).new_ (n':=n+1) (w':=w) (R:=λ_=>False) ⟨rfl,rfl,rfl,A0h _,λ_ _ _=>rfl⟩ (λ_ h=>h.elim) (σ1:=(rid,.tbox T (.agg (A++.nil::B)))::τ) (λid e h=>⟨h,λ_ _ h=>h⟩) (id:=(n,k)) (e:=.arr e sz []) (val:=.slice none 0 0) b (A0j _) (A0h _) (λE O=>by simp[BC] at O)
  ⟨.slice none 0 0,[],Ap _ _ _,rfl,Azj w _ e sz,ArD _,(λx X=>by cases X),AK.nil_⟩
 have r:lk (((n,k),A5.arr e sz [])::(rid,.tbox T (.agg (A++.nil::B)))::τ) rid=some (.tbox T (.agg (A++.nil::B))):=by simp[lk,s]
 have g:=f.1.set_ r (w':=w) (e:=.tbox T (.agg (A++.arr (n,k)::B))) ⟨rfl,rfl,rfl,A0h _,λ_ _ _=>rfl⟩ (by
  obtain⟨E,vals,L,M,N,o⟩:=f.1.ents _ _ r;refine⟨E,vals,L,M,N,⟨⟨by have:=o.len;simpa[cells] using this,λj c v i D=>?_⟩,o.one⟩⟩;simp only[cells] at i;by_cases U:j<A.length
  .rw[AtT U] at i;exact o.at_ j c v (by simp only[cells];grind) D
  .rw[Apb (by omega)] at i;cases G:j-A.length with
   | zero=>rw[G] at i;simp only[Aye,AmF] at i;subst i;have:=o.at_ j .nil v (by simp only[cells];grind) D;rw[this.nil_inv];exact .arr _ _ (Ap _ _ _) rfl
   | succ q=>rw[G] at i;simp only[Awx] at i;exact o.at_ j c v (by simp only[cells];grind) D)
 have W:upd (((n,k),A5.arr e sz [])::(rid,.tbox T (.agg (A++.nil::B)))::τ) rid (.tbox T (.agg (A++.arr (n,k)::B)))=((n,k),.arr e sz [])::(rid,.tbox T (.agg (A++.arr (n,k)::B)))::τ:=by simp[upd,s]
 rw[W] at g;refine⟨_,H,⟨J.size,λY=>(J.at_ Y).mono m (λ_ _ h=>h)⟩,g.1,S.trans (f.2.trans g.2),λid z K=>?_,AmI p (AmQ _),y⟩;simp only at p;rw[Br _ _ (by grind)];exact t id z K


def Adi:List Ez->Nat->List Aa×Nat
 | [],i=>([],i)
 | s::L,i=>(s.keys[(Adi L i).2 % s.keys.length]?.getD []::(Adi L i).1,(Adi L i).2 / s.keys.length)
abbrev rX:=List Ez×List (List Aw)
def AiX(a:List Aa->kX)(L:List Ez)(ps:List Aw)(n:Nat):List (List Aw):=(List.range n).map λi=>XO (a (Adi L i).1) [] ps []
def ArR(l:Loc)(ps:List Aw):rX×Int:=
 if !oH ps then(([],[]),1)
 else if decide ((Qu 1 (RZ ps):Int)>400) then(([],[]),6)
 else if !CR [] l.card||!CR [] l.ord then(([],[]),18)
 else((RZ ps,AiX (pkP l (RZ ps)) (RZ ps) ps (Qu 1 (RZ ps))),0)
def sU:List Aa->List Aa->Bool
 | _,[]=>true
 | d,k::r=>!d.contains k&&sU (d++[k]) r
def aH(l:List Aa):Bool:=match l.getLast? with
 | none=>false
 | some k=>k==CO
def ArY(s:Ez):Bool:=Dm s.kind&&(Cy s.name&&aH s.keys)
def Wo:List Ez->List Ez->Bool
 | _,[]=>true
 | d,s::r=>ArY s&&(sU [] s.keys&&(!d.any (Qe s.kind s.name)&&Wo (d++[s]) r))
def AlH(f:rX):Bool:=Wo [] f.1&&(decide ((Qu 1 f.1:Int)<=400)&&((f.2.length:Int)==(Qu 1 f.1:Int)))

def Re:List Aa->Int->Int
 | [],n=>n
 | x::r,n=>Re r (max n (x.length:Int))
def C7(e:Bool):List B4->Bool
 | []=>e
 | v::r=>!(decide (Re v.list (v.text.length:Int)>200)||decide ((v.list.length:Int)>12)||decide ((v.name.length:Int)>60))&&C7 e r
set_option maxHeartbeats 4000000 in
theorem Zc(vs:List B4)(F:vs.length<=2^40)(C:∀v∈vs,v.list.length<=2^40):Al π W0 18 [.sl (vs.map B4.enc)] [] (.b (C7 (decide ((vs.length:Int)<=30)) vs)) []:=by
 generalize z:decide ((vs.length:Int)<=30)=E;generalize hS:C7 E vs=S;refine Ae (vs:=[.b S]) AoX (by simp) (by simp) λn0 u=>?_;clear u;simp only[push_cast,reduceEqDiff];intros;refine Am vs.length (Inv:=λm st=>∃dn c n,vs=dn++c/\m=c.length/\C7 E c=S/\st=⟨[(0,.sl (vs.map B4.enc)),(3,.i .i64 dn.length)],[],n⟩) ⟨_,Ak.refl,[],vs,_,rfl,rfl,hS,rfl⟩ ?_;clear hS;rintro m _ ⟨dn,c,n,q,rfl,j,rfl⟩;cases c with
 | nil=>
  have g:decide ((dn.length:Int)<(vs.length:Int))=false:=by rw[q];simp
  rw[C7] at j;simp only[push_cast,reduceEqDiff,g,z];intros;exact Af (by simp[get,j])
 | cons v c=>
  have g:decide ((dn.length:Int)<(vs.length:Int))=true:=by rw[q];simp;omega
  have A:=AL q;have e:(vs.map B4.enc)[dn.length]?=some (.agg [.s v.name,.i .i64 v.type,.s v.text,.i .i64 v.date,.sl (v.list.map V.s)]):=by rw[q,AgQ,Apb (by simp)];simp[B4.enc_eq]
  have D:=C v (by rw[q];simp);rw[C7] at j;simp only[push_cast,reduceEqDiff,g,e];intros;refine Am v.list.length (Inv:=λm st=>∃o p n a,v.list=o++p/\m=p.length/\Re v.list (v.text.length:Int)=Re p a/\st=⟨[(0,.sl (vs.map B4.enc)),(3,.i .i64 dn.length),(4,.i .i64 a),(5,.i .i64 o.length)],[],n⟩) ⟨_,Ak.refl,[],v.list,_,_,rfl,rfl,rfl,rfl⟩ ?_;rintro m _ ⟨o,p,G,a,f,rfl,r,rfl⟩;cases p with
  | nil=>
   have h:decide ((o.length:Int)<(v.list.length:Int))=false:=by rw[f];simp
   rw[Re] at r;rw[r] at j;simp only[push_cast,reduceEqDiff,h,e];clear r f
   repeat' (first|(((first|apply Ab|apply Ag|apply Ah)<;>intro _h)<;>simp only[push_cast,reduceEqDiff,_h,e,Ai v (dn:=dn) (by omega)])|intro _)
   all_goals (first|(simp only[*] at j;subst j;exact Af (by simp[get]))|skip)
   have w:decide ((v.list.length:Int)>12)=false:=by assumption
   have x:decide ((v.name.length:Int)>60)=false:=by assumption
   have y:decide (a>200)=false:=by assumption
   simp only[w,x,y] at j;exact⟨_,_,A0j _,Ak.refl,dn++[v],c,_,by rw[q];simp,rfl,j,rfl⟩
  | cons k p=>
   have h:decide ((o.length:Int)<(v.list.length:Int))=true:=by rw[f];simp;omega
   have B:=AL f;have t:(v.list.map V.s)[o.length]?=some (.s k):=by simp_all
   rw[Re] at r;simp only[push_cast,reduceEqDiff,h,e,t,Ai k (dn:=o) (by omega)];intros;exact⟨_,_,A0j _,Ak.refl,o++[k],p,_,_,by rw[f];simp,rfl,r,rfl⟩
def Hu(s:Aa):Nat:=s.length+30
def DU(l:List Aa):Nat:=B6 Hu l
theorem FP(l:List Aa)(o:DU l<=2^40):Al π W0 85 [.sl (l.map V.s)] [] (.i .i64 (DU l)) []:=by
 have g:l.length<=DU l:=EB (λx=>by unfold Hu;omega) l;generalize hS:DU l=S at *;refine Ae (vs:=[.i .i64 S]) AnG (by simp) (by simp) λn0 e=>?_;clear e;simp only[push_cast,reduceEqDiff];intros;refine Am l.length (Inv:=λm st=>∃dn b n,∃a:Nat,l=dn++b/\m=b.length/\a+DU b=S/\st=⟨[(0,.sl (l.map V.s)),(3,.i .i64 a),(4,.i .i64 dn.length)],[],n⟩) ⟨_,Ak.refl,[],l,_,0,rfl,rfl,by rw[hS];omega,rfl⟩ ?_;clear hS;rintro m _ ⟨dn,b,n,a,f,rfl,c,rfl⟩;cases b with
 | nil=>
  have:a=S:=by simpa[DU,B6] using c
  subst this;simp only[push_cast,reduceEqDiff,f];intros
  all_goals (first|(refine Af ?_;simp <;>(intros;omega);done)|(refine Ad ?_;simp[push_cast];done)|skip)
 | cons p b=>
  have h:=AL f;unfold DU at c;rw[B6] at c;have hp:Hu p=p.length+30:=rfl;have j:IntKind.i64.wrap ((p.length:Int)+30)=((Hu p:Nat):Int):=by rw[wrap64 (by omega) (by omega),hp];omega
  have k:IntKind.i64.wrap ((a:Int)+((Hu p:Nat):Int))=((a+Hu p:Nat):Int):=by rw[wrap64 (by omega) (by omega)];omega
  simp only[push_cast,reduceEqDiff,f,Ai p (dn:=dn) (by omega),j,k];intros;exact⟨_,_,A0j _,Ak.refl,dn++[p],b,_,a+Hu p,by simp,rfl,by unfold DU;omega,rfl⟩
def CA.sz(x:CA):Nat:=DU [x.style,x.two,x.start,x.mid,x.fin]
def Dd.sz(x:Dd):Nat:=DU [x.unit,x.cls,x.pat]
def CG.sz(x:CG):Nat:=DU [x.skel,x.pat]
def Na(L:BV):Nat:=(DU [L.tag,L.parent,L.dir,L.dec,L.grp,L.minus,L.perc]+DU L.months+DU L.days+100*(L.card.length+L.ord.length))+B6 CA.sz L.lists+B6 Dd.sz L.units+B6 CG.sz L.dates
set_option maxHeartbeats 4000000 in
theorem Adg(L:BV)(B:Na L<=2^40):Al π W0 54 [.agg [.sl [L.enc],.nil,.nil]] [] (.i .i64 (Na L)) []:=by
 have W:L.lists.length<=B6 CA.sz L.lists:=EB (λx=>by unfold CA.sz DU;simp only[B6,Hu];omega) _;have X:L.units.length<=B6 Dd.sz L.units:=EB (λx=>by unfold Dd.sz DU;simp only[B6,Hu];omega) _;have Y:L.dates.length<=B6 CG.sz L.dates:=EB (λx=>by unfold CG.sz DU;simp only[B6,Hu];omega) _;have N:=FP W0 [L.tag,L.parent,L.dir,L.dec,L.grp,L.minus,L.perc] (by unfold Na at B;omega);have R:=FP W0 L.days (by unfold Na at B;omega);have c3:=FP W0 L.months (by unfold Na at B;omega);simp only[Ajf,Ast] at N;generalize hS:Na L=S;unfold Na at hS B;generalize DU [L.tag,L.parent,L.dir,L.dec,L.grp,L.minus,L.perc]=u at *;generalize DU L.days=C at *;generalize DU L.months=v at *;generalize hA:u+v+C+100*(L.card.length+L.ord.length)=A at *;refine Ae (vs:=[.i .i64 S]) Anz (by simp) (by simp) λn0 K=>?_;clear K;simp only[push_cast,seval,reduceEqDiff];intros;refine Am 1 (Inv:=λm st=>∃n,∃a:Nat,(a=0/\m=1\/a=S/\m=0)/\st=⟨[(1,.ref (n0,1) 0),(3,.i .i64 a),(4,.i .i64 ((1-m:Nat):Int))],[((n0,1),.box (.agg [.sl [L.enc],.nil,.nil]))],n⟩) ⟨_,Ak.refl,_,0,.inl ⟨rfl,rfl⟩,rfl⟩ ?_;rintro m _ ⟨n,a,Z,rfl⟩;rcases Z with⟨rfl,rfl⟩|⟨rfl,rfl⟩
 .have D:IntKind.i64.wrap ((u:Int)+(v:Int))=(u:Int)+(v:Int):=by rw[wrap64 (by omega) (by omega)]
  have E:IntKind.i64.wrap ((u:Int)+(v:Int)+(C:Int))=(u:Int)+(v:Int)+(C:Int):=by rw[wrap64 (by omega) (by omega)]
  have F:IntKind.i64.wrap ((L.card.length:Int)+(L.ord.length:Int))=(L.card.length:Int)+(L.ord.length:Int):=by rw[wrap64 (by omega) (by omega)]
  have G:IntKind.i64.wrap (100*((L.card.length:Int)+(L.ord.length:Int)))=100*((L.card.length:Int)+(L.ord.length:Int)):=by rw[wrap64 (by omega) (by omega)]
  have H:IntKind.i64.wrap ((u:Int)+(v:Int)+(C:Int)+100*((L.card.length:Int)+(L.ord.length:Int)))=(A:Int):=by rw[wrap64 (by omega) (by omega)];omega
  have J:IntKind.i64.wrap (0+(A:Int))=(A:Int):=by grind
  simp only[push_cast,seval,reduceEqDiff,D,E,F,G,H,J];intros;refine Ac (by exact N) ?_;simp only[push_cast,seval,reduceEqDiff,D,E,F,G,H,J];refine Ac (by exact c3) ?_;simp only[push_cast,seval,reduceEqDiff,D,E,F,G,H,J];refine Ac (by exact R) ?_;simp only[push_cast,seval,reduceEqDiff,D,E,F,G,H,J];intros;rename_i k1 k2 k3 k4;obtain⟨x,O⟩:∃x:Id,x=(n+1+k1,5):=⟨_,rfl⟩
  have M:x≠(n0,1):=by rw[O];simp
  rw[<-O];generalize z:((x,A5.box (.agg [.s L.tag,.s L.parent,.s L.dir,.sl (L.card.map AB.enc),.sl (L.ord.map AB.enc),.s L.dec,.s L.grp,.s L.minus,.s L.perc,.i .i64 L.prim,.i .i64 L.sec,.sl (L.lists.map CA.enc),.sl (L.units.map Dd.enc),.sl (L.dates.map CG.enc),.sl (L.months.map V.s),.sl (L.days.map V.s)]))::_:Aj)=τ;have e:lk τ x=some (.box (.agg [.s L.tag,.s L.parent,.s L.dir,.sl (L.card.map AB.enc),.sl (L.ord.map AB.enc),.s L.dec,.s L.grp,.s L.minus,.s L.perc,.i .i64 L.prim,.i .i64 L.sec,.sl (L.lists.map CA.enc),.sl (L.units.map Dd.enc),.sl (L.dates.map CG.enc),.sl (L.months.map V.s),.sl (L.days.map V.s)])):=by rw[<-z];simp[lk]
  obtain⟨t,T⟩:∃t,t=A+B6 CA.sz L.lists:=⟨_,rfl⟩;obtain⟨w,U⟩:∃w,w=t+B6 Dd.sz L.units:=⟨_,rfl⟩;refine Am L.lists.length (Inv:=λm st=>∃dn b k,∃a:Nat,L.lists=dn++b/\m=b.length/\a+B6 CA.sz b=A+B6 CA.sz L.lists/\st=⟨[(1,.ref (n0,1) 0),(3,.i .i64 a),(4,.i .i64 0),(5,.ref x 0),(6,.i .i64 dn.length)],τ,k⟩) ⟨_,Ak.refl,[],L.lists,_,A,rfl,rfl,rfl,rfl⟩ ?_;rintro m _ ⟨dn,b,k,a,g,rfl,o,rfl⟩;cases b with
  | cons p b=>
   have h:=AL g;rw[B6] at o;have q:CA.sz p<=2^40:=by omega
   have cs:Al π W0 85 [.sl [.s p.style,.s p.two,.s p.start,.s p.mid,.s p.fin]] [] (.i .i64 (CA.sz p)) []:=FP W0 [p.style,p.two,p.start,p.mid,p.fin] q;have r:IntKind.i64.wrap ((a:Int)+((CA.sz p:Nat):Int))=(a:Int)+((CA.sz p:Nat):Int):=by rw[wrap64 (by omega) (by omega)]
   have f:(L.lists.map CA.enc)[dn.length]?=some (CA.enc p):=by rw[g];simp
   have c:decide ((dn.length:Int)<(L.lists.length:Int))=true:=by rw[g];simp;omega
   have j:IntKind.i64.wrap ((dn.length:Int)+1)=((dn++[p]).length:Int):=Ai p (by omega);simp only[push_cast,seval,reduceEqDiff,f,c,j,e,r,if_pos h];have _h:=trivial;repeat' (first|(first|((first|apply Ab|apply Ag|apply Ah)<;>intro _h)|refine Ac cs ?_)<;>simp only[push_cast,seval,reduceEqDiff,_h,f,c,j,e,r,if_pos h]|intro _)
   exact⟨_,_,A0j _,Ak.refl,dn++[p],b,_,a+CA.sz p,by rw[g];simp,rfl,by omega,rfl⟩
  | nil=>
   have y:a=t:=by rw[B6] at o;omega
   rw[y];have c:decide ((dn.length:Int)<(L.lists.length:Int))=false:=by rw[g];simp
   simp only[push_cast,seval,reduceEqDiff,c,e];intros;clear o g c;refine Am L.units.length (Inv:=λm st=>∃dn b k,∃a:Nat,L.units=dn++b/\m=b.length/\a+B6 Dd.sz b=t+B6 Dd.sz L.units/\st=⟨[(1,.ref (n0,1) 0),(3,.i .i64 a),(4,.i .i64 0),(5,.ref x 0),(7,.i .i64 dn.length)],τ,k⟩) ⟨_,Ak.refl,[],L.units,_,t,rfl,rfl,rfl,rfl⟩ ?_;rintro m _ ⟨dn,b,k,a,g,rfl,o,rfl⟩;cases b with
   | cons p b=>
    have h:=AL g;rw[B6] at o;have q:Dd.sz p<=2^40:=by omega
    have cs:Al π W0 85 [.sl [.s p.unit,.s p.cls,.s p.pat]] [] (.i .i64 (Dd.sz p)) []:=FP W0 [p.unit,p.cls,p.pat] q;have r:IntKind.i64.wrap ((a:Int)+((Dd.sz p:Nat):Int))=(a:Int)+((Dd.sz p:Nat):Int):=by rw[wrap64 (by omega) (by omega)]
    have f:(L.units.map Dd.enc)[dn.length]?=some (Dd.enc p):=by rw[g];simp
    have c:decide ((dn.length:Int)<(L.units.length:Int))=true:=by rw[g];simp;omega
    have j:IntKind.i64.wrap ((dn.length:Int)+1)=((dn++[p]).length:Int):=Ai p (by omega);simp only[push_cast,seval,reduceEqDiff,f,c,j,e,r,if_pos h];have _h:=trivial;repeat' (first|(first|((first|apply Ab|apply Ag|apply Ah)<;>intro _h)|refine Ac cs ?_)<;>simp only[push_cast,seval,reduceEqDiff,_h,f,c,j,e,r,if_pos h]|intro _)
    exact⟨_,_,A0j _,Ak.refl,dn++[p],b,_,a+Dd.sz p,by rw[g];simp,rfl,by omega,rfl⟩
   | nil=>
    have y:a=w:=by rw[B6] at o;omega
    rw[y];have c:decide ((dn.length:Int)<(L.units.length:Int))=false:=by rw[g];simp
    simp only[push_cast,seval,reduceEqDiff,c,e];intros;clear o g c;refine Am L.dates.length (Inv:=λm st=>∃dn b k,∃a:Nat,L.dates=dn++b/\m=b.length/\a+B6 CG.sz b=w+B6 CG.sz L.dates/\st=⟨[(1,.ref (n0,1) 0),(3,.i .i64 a),(4,.i .i64 0),(5,.ref x 0),(8,.i .i64 dn.length)],τ,k⟩) ⟨_,Ak.refl,[],L.dates,_,w,rfl,rfl,rfl,rfl⟩ ?_;rintro m _ ⟨dn,b,k,a,g,rfl,o,rfl⟩;cases b with
    | cons p b=>
     have h:=AL g;rw[B6] at o;have q:CG.sz p<=2^40:=by omega
     have cs:Al π W0 85 [.sl [.s p.skel,.s p.pat]] [] (.i .i64 (CG.sz p)) []:=FP W0 [p.skel,p.pat] q;have r:IntKind.i64.wrap ((a:Int)+((CG.sz p:Nat):Int))=(a:Int)+((CG.sz p:Nat):Int):=by rw[wrap64 (by omega) (by omega)]
     have f:(L.dates.map CG.enc)[dn.length]?=some (CG.enc p):=by rw[g];simp
     have c:decide ((dn.length:Int)<(L.dates.length:Int))=true:=by rw[g];simp;omega
     have j:IntKind.i64.wrap ((dn.length:Int)+1)=((dn++[p]).length:Int):=Ai p (by omega);simp only[push_cast,seval,reduceEqDiff,f,c,j,e,r,if_pos h];have _h:=trivial;repeat' (first|(first|((first|apply Ab|apply Ag|apply Ah)<;>intro _h)|refine Ac cs ?_)<;>simp only[push_cast,seval,reduceEqDiff,_h,f,c,j,e,r,if_pos h]|intro _)
     exact⟨_,_,A0j _,Ak.refl,dn++[p],b,_,a+CG.sz p,by rw[g];simp,rfl,by omega,rfl⟩
    | nil=>
     have y:a=S:=by rw[B6] at o;omega
     rw[y];have c:decide ((dn.length:Int)<(L.dates.length:Int))=false:=by rw[g];simp
     simp only[push_cast,seval,reduceEqDiff,c,e];intros;clear o g c;exact⟨_,_,by omega,(by rw[<-z];exact Ak.drop1 (by simp[lk,Ae2 M]) (A0h _)),_,S,.inr ⟨rfl,rfl⟩,rfl⟩
 .skip;simp only[push_cast,seval,reduceEqDiff,lk];intros;refine Am 0 (Inv:=λm st=>∃k,st=⟨[(1,.ref (n0,1) 0),(3,.i .i64 a),(9,.i .i64 0)],[((n0,1),.box (.agg [.sl [L.enc],.nil,.nil]))],k⟩) ⟨_,Ak.refl,_,rfl⟩ ?_;rintro m _ ⟨k,rfl⟩;simp only[push_cast,seval,reduceEqDiff,lk];intros;refine Am 0 (Inv:=λm st=>∃k,st=⟨[(1,.ref (n0,1) 0),(3,.i .i64 a),(10,.i .i64 0)],[((n0,1),.box (.agg [.sl [L.enc],.nil,.nil]))],k⟩) ⟨_,Ak.refl,_,rfl⟩ ?_;rintro m _ ⟨k,rfl⟩;simp only[push_cast,seval,reduceEqDiff,lk];intros;exact Af (by simp[get])
def O1(L:BV):Bool:=!(decide ((L.card.length:Int)>12)||decide ((L.ord.length:Int)>12)||decide ((L.lists.length:Int)>12)||decide ((L.units.length:Int)>110)||decide ((L.dates.length:Int)>40)||decide ((L.months.length:Int)>20)||decide ((L.days.length:Int)>20))
def IG(L:BV):Bool:=O1 L&&((L.card++L.ord).all (λr=>FT r.cond)&&decide ((Na L:Int)<=40000))
set_option maxHeartbeats 4000000 in
theorem AaC(L:BV)(hb:Na L<=2^40)(hw:A7 L.card+A7 L.ord<=2^24):Al π W0 32 [.agg [.sl [L.enc],.nil,.nil]] [] (.b (IG L)) []:=by
 have ac:=Adg W0 L hb;have g1:=Fb L.card;have g2:=Fb L.ord;generalize hS:IG L=S;unfold IG at hS;refine Ae (vs:=[.b S]) Aq0 (by simp) (by simp) λn0 ab=>?_;clear ab;simp only[push_cast,seval,reduceEqDiff];intros;refine Am 1 (Inv:=λm st=>∃n,(m=1/\(O1 L&&((L.card++L.ord).all (λr=>FT r.cond)&&decide ((Na L:Int)<=40000)))=S\/m=0/\decide ((Na L:Int)<=40000)=S)/\st=⟨[(1,.ref (n0,1) 0),(3,.i .i64 ((1-m:Nat):Int))],[((n0,1),.box (.agg [.sl [L.enc],.nil,.nil]))],n⟩) ⟨_,Ak.refl,_,.inl ⟨rfl,hS⟩,rfl⟩ ?_;clear hS;rintro m _ ⟨n,⟨rfl,c⟩|⟨rfl,c⟩,rfl⟩
 .generalize X:O1 L=F at c;unfold O1 at X;simp only[push_cast,seval,reduceEqDiff,AcG]
  repeat' (first|(((first|apply Ab|apply Ag|apply Ah)<;>intro _h)<;>simp only[push_cast,seval,reduceEqDiff,_h,AcG])|intro _)
  all_goals (first|(simp only[*,bq,if_true,if_false,Int.reduceBEq,reduceCtorEq] at X;subst X;simp only[bq,if_true,if_false,Int.reduceBEq,reduceCtorEq] at c;subst c;exact Af (by simp[get]))|skip)
  have H:F=true:=by grind
  rw[H,AuB] at c;rename_i k1 k2 _ _ _ _ _ _ k3 k4;clear X H;obtain⟨x,hx⟩:∃x:Id,x=(n+1+k1,4):=⟨_,rfl⟩
  have af:x≠(n0,1):=by rw[hx];simp
  have ae:x.1<n+1+k1+1+k2+1+k3+1+k4:=by rw[hx];simp only;omega
  rw[<-hx];generalize n+1+k1+1+k2+1+k3+1+k4=n1 at ae⊢;have o:lk [((n0,1),A5.box (.agg [.sl [L.enc],.nil,.nil]))] x=none:=by simp[lk,Ae2 af]
  rw[L.enc_eq] at o;generalize g:((x,A5.box (.agg [.s L.tag,.s L.parent,.s L.dir,.sl (L.card.map AB.enc),.sl (L.ord.map AB.enc),.s L.dec,.s L.grp,.s L.minus,.s L.perc,.i .i64 L.prim,.i .i64 L.sec,.sl (L.lists.map CA.enc),.sl (L.units.map Dd.enc),.sl (L.dates.map CG.enc),.sl (L.months.map V.s),.sl (L.days.map V.s)]))::_:Aj)=τ;have q:lk τ x=some (.box (.agg [.s L.tag,.s L.parent,.s L.dir,.sl (L.card.map AB.enc),.sl (L.ord.map AB.enc),.s L.dec,.s L.grp,.s L.minus,.s L.perc,.i .i64 L.prim,.i .i64 L.sec,.sl (L.lists.map CA.enc),.sl (L.units.map Dd.enc),.sl (L.dates.map CG.enc),.sl (L.months.map V.s),.sl (L.days.map V.s)])):=by rw[<-g];simp[lk]
  have f:IntKind.i64.wrap ((L.card.length:Int)+(L.ord.length:Int))=((L.card++L.ord).length:Int):=by rw[wrap64 (by omega) (by omega)];simp
  have D:∀{env:A9} {n:Nat},Ak W0 105 ⟨env,τ,n⟩ ⟨env,[((n0,1),A5.box (.agg [.sl [L.enc],.nil,.nil]))],n⟩:=by intro env n;rw[<-g];exact Ak.drop1 o (A0h _)
  have A:∀id:Id,id≠x->id≠(n0,1)->del τ id=τ:=by intro id U W;rw[<-g];simp[del,U,W,Ae2 U,Ae2 W]
  have B:∀id:Id,id≠x->id≠(n0,1)->lk τ id=none:=by intro id U W;rw[<-g];simp[lk,Ae2 U,Ae2 W]
  clear g o;obtain⟨C,Z⟩:∃C,C=L.card++L.ord:=⟨_,rfl⟩
  rw[<-Z] at f c;have aj:C.length<=2^26:=by grind
  have aa:∀r∈C,Dc r.cond<=2^24:=by
   intro r hr;rw[Z] at hr;rcases AmG.1 hr with h|h
   .have:=EW h;unfold AB.wt at this;omega
   .have:=EW h;unfold AB.wt at this;omega
  refine Am C.length (Inv:=λm st=>∃dn a v,C=dn++a/\m=a.length/\(a.all (λr=>FT r.cond)&&decide ((Na L:Int)<=40000))=S/\n1<=v/\st=⟨[(1,.ref (n0,1) 0),(3,.i .i64 0),(4,.ref x 0),(5,.i .i64 dn.length)],τ,v⟩) ⟨_,Ak.refl,[],C,_,rfl,rfl,c,A0h _,rfl⟩ ?_;clear c;rintro m _ ⟨dn,a,v,G,rfl,c,hn,rfl⟩;cases a with
  | nil=>
   have u:decide ((dn.length:Int)<(C.length:Int))=false:=by rw[G];simp
   rw[List.all_nil,AuB] at c;simp only[push_cast,seval,reduceEqDiff,u,q,f];intros;exact⟨_,_,by omega,D,_,.inr ⟨rfl,c⟩,rfl⟩
  | cons p a=>
   have al:=AL G;have u:decide ((dn.length:Int)<(C.length:Int))=true:=by rw[G];simp;omega
   have R:IntKind.i64.wrap ((dn.length:Int)+1)=((dn++[p]).length:Int):=Ai p (by omega);have hf:=Aki W0 p.cond (aa p (by rw[G];simp));have z:(L.card.map AB.enc++L.ord.map AB.enc)[dn.length]?=some p.enc:=by rw[<-Azb,<-Z,G];simp
   have e:∀k j,((v+1+k,j)=x)=False:=λk j=>eq_false λt=>by grind
   have T:∀k j,(x=(v+1+k,j))=False:=λk j=>eq_false λt=>of_eq_false (e k j) t.symm;rw[Azv] at c;have M:∀l:List AB,(∀y∈l.map AB.enc,(cells y).length=2)=True:=λl=>eq_true λy hy=>by obtain⟨r,_,rfl⟩:=AmO.1 hy;rfl
   have N:∀k,del τ (v+1+k,70)=τ:=λk=>A _ (λt=>of_eq_false (e k 70) t) (by simp);have O:∀k,del τ (v+1+k,73)=τ:=λk=>A _ (λt=>of_eq_false (e k 73) t) (by simp);have J:(L.card.length<=AH)=True:=eq_true (by unfold AH;omega);have K:(L.card.length+L.ord.length<=AH)=True:=eq_true (by unfold AH;omega);have w:(dn.length<(L.card.map AB.enc++L.ord.map AB.enc).length)=True:=eq_true (by grind);simp only[push_cast,seval,reduceEqDiff,u,R,q,f,z,w,e,T,M,N,O,J,K,AcG];have _h:=trivial;repeat' (first|(first|((first|apply Ab|apply Ag|apply Ah)<;>intro _h)|refine Ac hf ?_)<;>simp only[push_cast,seval,reduceEqDiff,_h,u,R,q,f,z,w,e,T,M,N,O,J,K,AcG]|intro _)
   .have E:FT p.cond=false:=by simpa using _h
    rw[E,AxP,AxP] at c;subst c;exact Af (by simp[get])
   .have E:FT p.cond=true:=by simpa using _h
    rw[E,AuB] at c;have e6:∀k,lk τ (v+1+k,6)=none:=λk=>B _ (λt=>of_eq_false (e k 6) t) (by simp);have Y:∀k,lk τ (v+1+k,76)=none:=λk=>B _ (λt=>of_eq_false (e k 76) t) (by simp);exact⟨_,_,A0j _,(Ak.drop1 (by simp[lk,e6]) (A0h _)).trans (Ak.drop1 (Y _) (A0h _)),dn++[p],a,_,by rw[G];simp,rfl,c,by omega,rfl⟩
 .skip;simp only[push_cast,seval,reduceEqDiff,lk];have _h:=trivial;repeat' (first|(first|((first|apply Ab|apply Ag|apply Ah)<;>intro _h)|refine Ac ac ?_)<;>simp only[push_cast,seval,reduceEqDiff,_h,lk]|intro _)
  exact Af (by simp[get,c])

end Go.Ir
namespace Go.Proofs
open Go.Shelf
def Tryz.laysM171_ren:Go.Shelf.Ren:=⟨fun|171=>221|243=>282|246=>315|283=>332|284=>333|285=>334|286=>335|129=>179|317=>343|318=>344|319=>345|320=>346|337=>351|338=>352|n=>n,fun|3=>3|9=>9|2=>2|4=>4|171=>384|0=>0|53=>282|37=>96|5=>5|173=>386|212=>397|51=>280|20=>20|213=>398|46=>237|232=>401|233=>402|n=>n,fun|17=>3|18=>4|19=>5|n=>n⟩
theorem Tryz.laysM171:Go.Proofs.LaysM.n171 Tryz.prog Tryz.laysM171_ren:={
 mixed:=by kernel_rfl
 f129:=Tryz.func179.trans (congrArg some (by kernel_rfl))
 f171:=Tryz.func221.trans (congrArg some (by kernel_rfl))
 f243:=Tryz.func282.trans (congrArg some (by kernel_rfl))
 f246:=Tryz.func315.trans (congrArg some (by kernel_rfl))
 f283:=Tryz.func332.trans (congrArg some (by kernel_rfl))
 f284:=Tryz.func333.trans (congrArg some (by kernel_rfl))
 f285:=Tryz.func334.trans (congrArg some (by kernel_rfl))
 f286:=Tryz.func335.trans (congrArg some (by kernel_rfl))
 f317:=Tryz.func343.trans (congrArg some (by kernel_rfl))
 f318:=Tryz.func344.trans (congrArg some (by kernel_rfl))
 f319:=Tryz.func345.trans (congrArg some (by kernel_rfl))
 f320:=Tryz.func346.trans (congrArg some (by kernel_rfl))
 f337:=Tryz.func351.trans (congrArg some (by kernel_rfl))
 f338:=Tryz.func352.trans (congrArg some (by kernel_rfl))
 t0:=Tryz.underlying0
 a0:=Tryz.isAgg0
 z0:=Tryz.sizeOf0
 v0:=Tryz.zeroValue0
 t2:=Tryz.underlying2
 a2:=Tryz.isAgg2
 z2:=Tryz.sizeOf2
 v2:=Tryz.zeroValue2
 t3:=Tryz.underlying3
 a3:=Tryz.isAgg3
 z3:=Tryz.sizeOf3
 v3:=Tryz.zeroValue3
 t4:=Tryz.underlying4
 a4:=Tryz.isAgg4
 z4:=Tryz.sizeOf4
 v4:=Tryz.zeroValue4
 t5:=Tryz.underlying5
 a5:=Tryz.isAgg5
 z5:=Tryz.sizeOf5
 v5:=Tryz.zeroValue5
 t9:=Tryz.underlying9
 a9:=Tryz.isAgg9
 z9:=Tryz.sizeOf9
 v9:=Tryz.zeroValue9
 t20:=Tryz.underlying20
 a20:=Tryz.isAgg20
 z20:=Tryz.sizeOf20
 v20:=Tryz.zeroValue20
 t37:=Tryz.underlying96
 a37:=Tryz.isAgg96
 z37:=Tryz.sizeOf96
 v37:=Tryz.zeroValue96
 t46:=Tryz.underlying237
 a46:=Tryz.isAgg237
 z46:=Tryz.sizeOf237
 v46:=Tryz.zeroValue237
 t51:=Tryz.underlying280
 a51:=Tryz.isAgg280
 z51:=Tryz.sizeOf280
 v51:=Tryz.zeroValue280
 t53:=Tryz.underlying282
 a53:=Tryz.isAgg282
 z53:=Tryz.sizeOf282
 v53:=Tryz.zeroValue282
 t171:=Tryz.underlying384
 a171:=Tryz.isAgg384
 z171:=Tryz.sizeOf384
 v171:=Tryz.zeroValue384
 t173:=Tryz.underlying386
 a173:=Tryz.isAgg386
 z173:=Tryz.sizeOf386
 v173:=Tryz.zeroValue386
 t212:=Tryz.underlying397
 a212:=Tryz.isAgg397
 z212:=Tryz.sizeOf397
 v212:=Tryz.zeroValue397
 t213:=Tryz.underlying398
 a213:=Tryz.isAgg398
 z213:=Tryz.sizeOf398
 t232:=Tryz.underlying401
 a232:=Tryz.isAgg401
 z232:=Tryz.sizeOf401
 v232:=Tryz.zeroValue401
 t233:=Tryz.underlying402
 a233:=Tryz.isAgg402
 z233:=Tryz.sizeOf402
 v233:=Tryz.zeroValue402
 g17:=by kernel_rfl
 g18:=by kernel_rfl
 g19:=by kernel_rfl
 i0:=by kernel_rfl
 i2:=by kernel_rfl
 i3:=by kernel_rfl
 i4:=by kernel_rfl
 i5:=by kernel_rfl
 i9:=by kernel_rfl
 i20:=by kernel_rfl
 i37:=by kernel_rfl
 i46:=by kernel_rfl
 i51:=by kernel_rfl
 i53:=by kernel_rfl
 i171:=by kernel_rfl
 i173:=by kernel_rfl
 i212:=by kernel_rfl
 i232:=by kernel_rfl
 i233:=by kernel_rfl
 m17:=by kernel_rfl
 m18:=by kernel_rfl
 m19:=by kernel_rfl }
end Go.Proofs
namespace Go.Ir
open Go.Proofs Go.RowKit
variable(W0:World)
def By(W0:World):Prop := Lib.TabIs Tryz.prog W0 "internal/strconv.uint64pow10" .u64 Lib.pow10Tab
theorem aZ{P:Program}{W0 w:World}{a:String}{k:IntKind}{zs:List Int}(e:Below W0.heap.size W0 w)(h:Lib.TabIs P W0 a k zs):Lib.TabIs P w a k zs:=by
 unfold Lib.TabIs World.var? at *;cases b:P.globalNamed a with
 | none=>rw[b] at h;cases h
 | some g=>
  rw[b] at h;simp only[AyK] at h⊢;cases c:W0.heap[g]? with
  | none=>rw[c] at h;cases h
  | some o=>rw[e.block g (Ath.1 c).1];exact h
theorem Fp(f:By W0)(i:Nat)(q:i<2^62):Al π W0 221 [.i .i64 i] [] (.s (Lib.decDigits i)) []/\(Lib.decDigits i).length<=20:=by
 have b:(Lib.decDigits i).length<=20:=by rw[Lib.decDigits_length];exact Lib.nDigits_le20 _ (by omega)
 refine⟨AR (by kernel_rfl) λw vals g ⟨μ,H,c⟩=>?_,b⟩;have a:=c.len;obtain⟨x,rfl⟩:∃x,vals=[x]:=by
  match vals,a with
  | [x],_=>exact⟨x,rfl⟩
 have p:=c.at_ 0 _ _ rfl rfl;cases p;refine(Any.strconv_Itoa Tryz.laysM171 i (by omega) (by omega) w (aZ g f)).mono λe w' ⟨h,k,r,o⟩=>?_;subst o;refine⟨_,h,λ_ _=>?_,?_⟩
 .rw[Lib.itoa_nonneg];exact .s _ (by unfold AG;omega)
 .refine⟨rfl,rfl,rfl,by simp_all,λj m=>?_⟩;simp only[Sort.grow];rw[Az8 (by simpa using m)];rfl
theorem ZR(laid:List (String×DataW Unit))(hl:(laid.all fun x => x.2.handleName?.isNone)=true){a b:String×DataW Unit}{r:List (String×DataW Unit)}(he:laid=a :: b :: ("internal/strconv.uint64pow10", Lib.tabData .u64 Lib.pow10Tab) :: r)
  {g:Nat}{t e:TypeId}{n:Nat}(hg:(Tryz.prog).globalNamed "internal/strconv.uint64pow10" = some g)(hty:((Tryz.prog).globals[g]?).map (·.type)=some t)(ht:(Tryz.prog).underlying t=some (.array n e))(hu:(Tryz.prog).underlying e=some (.int .u64))(hce:(Tryz.prog).cellsOf e=1)(hct:(Tryz.prog).cellsOf t=n)
  {W:World}(h:laidMetH Tryz.prog laid W):By W:=by
 rw[MakeChecks.laidMetH_plain _ _ _ hl] at h
 subst he
 have tl:∀{x:String×DataW Unit} {r:List (String×DataW Unit)},laidMet Tryz.prog (x::r) W->laidMet Tryz.prog r W:=by
  rintro⟨n,d⟩ r ⟨ps,hv,hnd,hrows⟩
  obtain⟨g,t,cs,fuel,p,q,_,_,_,_,hq,rfl⟩:=hv
  exact⟨q,hq,List.Nodup.sublist (AzA _ _) hnd,fun b off hm=>hrows b off (Azh _ hm)⟩
 exact Lib.tabIs_of_head hg hty ht hu hce hct (tl (tl h))
end Go.Ir

namespace Go.Ir
open Go.Proofs
variable(W0:World)
end Go.Ir
namespace Go.Proofs
open Go.Shelf
def Tryz.lays156_ren:Go.Shelf.Ren:=⟨fun|156=>261|165=>257|166=>124|169=>45|240=>180|241=>298|276=>236|277=>324|n=>n,fun|31=>28|9=>9|3=>3|4=>4|0=>0|20=>20|72=>98|76=>240|70=>95|37=>96|75=>239|127=>158|164=>315|5=>5|80=>123|n=>n,fun|n=>n⟩
theorem Tryz.lays156:Go.Proofs.Lays.n156 Tryz.prog Tryz.lays156_ren:=by constructor;all_goals intros;kernel_rfl
end Go.Proofs
namespace Go.Ir
open Go.Proofs Go.RowKit
variable(W0:World)
theorem P9{P:Program}{W0:World}{f:FuncId}{args:List V}{v:V}(i:callable P f=true)
  (h:∀w vals μ H,Below W0.heap.size W0 w->VRels μ H args vals->(∀a x,H a=some x->w.cell? a=some x)->Calls P f vals.toArray w λe w'=>∃val,e=.returned val/\(∀μ H,Ao μ H v val)/\Below w.heap.size w w'):Al P W0 f args [] v [] where
 callable:=i
 dom id h:=h
 run n w μ H vals hp hv:=by refine(h w vals μ H hp.base hv hp.pins).mono λe w' ⟨val,j,k,g⟩=>?_;obtain⟨b,c⟩:=hp.below g;exact⟨val,μ,H,n,j,k μ H,b,A0h _,c,λ_ _ h=>h⟩
theorem FN(b:List Aa):AD (b.map V.s)=b.map V.s:=by
 induction b with
 | nil=>rfl
 | cons a r c=>simp only[AD,Ajf,Azi] at *;rw[c];rfl
theorem Ig:Go.Proofs.Builder.Extra π Tryz.lays156_ren where
 sizeBuilder:=by kernel_rfl
 liesBuilder:=by kernel_rfl
 t5:=Tryz.underlying5
 a5:=Tryz.isAgg5
 z5:=Tryz.sizeOf5
 v5:=Tryz.zeroValue5
 infoByte:=by kernel_rfl
 cellsByte:=by kernel_rfl
 sizeByte:=by kernel_rfl
 neB5:=by decide
theorem bV(p:List Aa)(sep:Aa)(W:(Lib.join p sep).length<=1073741824):Al Tryz.prog W0 261 [.sl (p.map V.s),.s sep] [] (.s (Lib.join p sep)) []:=by
 refine P9 (by kernel_rfl) λw vals μ H hb Y E=>?_;obtain⟨x,y,rfl,G,Z⟩:=Y.two;obtain⟨rfl,hl⟩:=B7 Z;obtain⟨A,a,rfl,t,C,U⟩:=G.sl_inv;have i:∀(μ:Id->Option Value) (H:Addr->Option Value),Ao μ H (.s (Lib.join p sep)) (.string ⟨(Lib.join p sep).toArray⟩):=λ_ _=>.s _ (by unfold AG;omega);rcases U with R|⟨J,sz,vs,rfl,X,g,hp⟩
 .have K:p=[]:=by simpa using R
  subst K;refine(Any.strings_Join_none Tryz.lays156 Ig A a ⟨sep.toArray⟩ w).mono λe w' ⟨u,F⟩=>?_;subst F;exact⟨_,u,i,Aw0 _ _⟩
 .rw[FN] at g;cases p with
  | nil=>refine(Any.strings_Join_none Tryz.lays156 Ig _ a ⟨sep.toArray⟩ w).mono λe w' ⟨u,F⟩=>?_;subst F;exact⟨_,u,i,Aw0 _ _⟩
  | cons h m=>
   have f:∀(j:Nat) (l:Aa),(h::m)[j]?=some l->w.cell? (J.add j)=some (.string ⟨l.toArray⟩):=by intro j l W;obtain⟨v,O,S⟩:=g.toVRels.get (k:=j) (c:=.s l) (by grind);rw[(B7 S).1] at O;exact E _ _ (hp j _ O)
   have q:=f 0 h rfl;have r:J.spot=none:=by
    simp only[Addr.add] at q;unfold World.cell? at q;split at q
    .simp_all
    .cases q
   obtain⟨N,o,sp⟩:=J;simp only at r;subst r;have L:N<w.heap.size:=AzI w _ q;have B:(h::m).length<=a:=by simpa using t
   have D:((h::m).map λl=>(⟨l.toArray⟩:ByteArray)).map (λb=>b.data.toList)=h::m:=by rw[Azs];exact(AxO (λ_ _=>rfl)).trans (List.map_id _)
   have T:Lib.join (((h::m).map λl=>(⟨l.toArray⟩:ByteArray)).map λb=>b.data.toList) sep=Lib.join (h::m) sep:=by rw[D]
   have key:=Any.strings_Join Tryz.lays156 Ig N o a ((h::m).map λl=>(⟨l.toArray⟩:ByteArray)) ⟨sep.toArray⟩ w (λj x G=>?_) L
    (by unfold AH at C;grind) (by simpa using B) (by grind
)
   .rw[show(⟨sep.toArray⟩:ByteArray).data.toList=sep from rfl,T] at key;simp only[AcG] at key⊢;exact key.mono λe w' ⟨u,F⟩=>⟨_,u,i,F⟩
   .rw[AgQ] at G;obtain⟨l,M,rfl⟩:=AdV.1 G;have:=f j l M;by_cases z:j=0
    .subst z;exact this
    .simpa[Addr.add,z] using this
def HS:List V->Option V
 | [.s s,.s p]=>some (.tup [.s (Lib.trimPrefix s p),.b (Lib.hasPrefix s p)])
 | _=>none
def OX:List V->Option V
 | [.s s,.s [c]]=>some (.i .i64 (Lib.indexByte s c))
 | _=>none
def P4(l:Aa):Bool:=Nat.blt l.length 100&&l.all λb=>Nat.blt b.toNat 128
def mF:List V->Option V
 | [.s s,.s cs]=>bif P4 cs then some (.s (Lib.trimS s cs)) else none
 | _=>none
theorem YR{l:Aa}(h:P4 l=true):l.length<4294967281/\∀b∈l,b.toNat<128:=by unfold P4 at h;simp only[A0g,AzQ,AmH] at h;exact⟨by omega,h.2⟩
theorem RH:AX π W0 (bO 135 HS):=Mk λargs v h=>by
 unfold HS at h;split at h
 .cases h;exact⟨Ed W0 _ _,rfl⟩
 .cases h
theorem wS:AX π W0 (bO 244 OX):=Mk λargs v h=>by
 unfold OX at h;split at h
 .cases h;exact⟨Mn W0 _ _,rfl⟩
 .cases h
theorem AkK:AX π W0 (bO 190 mF):=Mk λargs v h=>by
 unfold mF at h;split at h
 .rename_i s cs;cases a:P4 cs with
  | true=>rw[a] at h;cases h;obtain⟨b,c⟩:=YR a;exact⟨S3 W0 _ _ b c,rfl⟩
  | false=>rw[a] at h;cases h
 .cases h
end Go.Ir
namespace Go.Proofs
open Go.Shelf
def Tryz.lays161_ren:Go.Shelf.Ren:=⟨fun|161=>259|231=>245|227=>247|233=>248|235=>250|228=>292|197=>272|151=>293|260=>309|152=>321|137=>252|119=>337|224=>290|225=>289|217=>288|266=>319|n=>n,fun|9=>9|4=>4|3=>3|5=>5|117=>323|116=>322|0=>0|124=>326|105=>344|21=>21|119=>380|46=>237|139=>383|138=>382|n=>n,fun|3=>1|4=>2|n=>n⟩
theorem Tryz.lays161:Go.Proofs.Lays.n161 Tryz.prog Tryz.lays161_ren:=by constructor;all_goals intros;kernel_rfl
def Tryz.lays138_ren:Go.Shelf.Ren:=⟨fun|138=>269|195=>306|218=>307|143=>271|219=>244|217=>288|225=>289|224=>290|267=>291|266=>319|314=>320|n=>n,fun|9=>9|3=>3|4=>4|5=>5|0=>0|46=>237|146=>358|51=>280|n=>n,fun|1=>0|n=>n⟩
theorem Tryz.lays138:Go.Proofs.Lays.n138 Tryz.prog Tryz.lays138_ren:=by constructor;all_goals intros;kernel_rfl
def Tryz.lays145_ren:Go.Shelf.Ren:=⟨fun|145=>136|220=>189|219=>244|217=>288|225=>289|224=>290|267=>291|266=>319|314=>320|n=>n,fun|9=>9|4=>4|59=>252|3=>3|5=>5|46=>237|146=>358|51=>280|n=>n,fun|1=>0|n=>n⟩
theorem Tryz.lays145:Go.Proofs.Lays.n145 Tryz.prog Tryz.lays145_ren:=by constructor;all_goals intros;kernel_rfl
def Tryz.lays154_ren:Go.Shelf.Ren:=⟨fun|154=>213|138=>269|165=>257|143=>271|166=>124|197=>272|169=>45|195=>306|218=>307|240=>180|241=>298|219=>244|260=>309|276=>236|277=>324|217=>288|225=>289|224=>290|267=>291|266=>319|314=>320|n=>n,fun|9=>9|3=>3|4=>4|72=>98|0=>0|76=>240|105=>344|21=>21|5=>5|70=>95|20=>20|37=>96|75=>239|127=>158|164=>315|46=>237|119=>380|139=>383|138=>382|146=>358|51=>280|80=>123|n=>n,fun|1=>0|3=>1|4=>2|n=>n⟩
theorem Tryz.lays154:Go.Proofs.Lays.n154 Tryz.prog Tryz.lays154_ren:=by constructor;all_goals intros;kernel_rfl
def Tryz.laysT17_ren:Go.Shelf.Ren:=⟨fun|17=>260|n=>n,fun|24=>28|9=>9|3=>3|4=>4|0=>0|n=>n,fun|n=>n⟩
theorem Tryz.laysT17:Go.Proofs.Lays2.n17 Tryz.prog Tryz.laysT17_ren:=by constructor;all_goals intros;kernel_rfl
def Tryz.keysA_ren:Go.Shelf.Ren:=⟨fun|7=>52|10=>84|n=>n,fun|23=>106|26=>9|3=>3|28=>134|0=>0|27=>133|33=>153|4=>4|n=>n,fun|n=>n⟩
theorem Tryz.keysA:Go.Proofs.SlLaysZ.n7 Tryz.prog Tryz.keysA_ren:={
 mixed:=by kernel_rfl
 f7:=⟨Tryz.f52.name,by decide,Tryz.func52.trans (congrArg some (by kernel_rfl))⟩
 f10:=⟨Tryz.f84.name,by decide,Tryz.func84.trans (congrArg some (by kernel_rfl))⟩
 t0:=Tryz.underlying0
 a0:=Tryz.isAgg0
 z0:=Tryz.sizeOf0
 v0:=Tryz.zeroValue0
 t4:=Tryz.underlying4
 a4:=Tryz.isAgg4
 z4:=Tryz.sizeOf4
 v4:=Tryz.zeroValue4
 t23:=Tryz.underlying106
 a23:=Tryz.isAgg106
 z23:=Tryz.sizeOf106
 v23:=Tryz.zeroValue106
 t26:=Tryz.underlying9
 a26:=Tryz.isAgg9
 z26:=Tryz.sizeOf9
 v26:=Tryz.zeroValue9
 t27:=Tryz.underlying133
 a27:=Tryz.isAgg133
 z27:=Tryz.sizeOf133
 v27:=Tryz.zeroValue133
 t28:=Tryz.underlying134
 a28:=Tryz.isAgg134
 z28:=Tryz.sizeOf134
 v28:=Tryz.zeroValue134
 t33:=Tryz.underlying153
 a33:=Tryz.isAgg153
 z33:=Tryz.sizeOf153
 v33:=Tryz.zeroValue153 }
def Tryz.sortedA_ren:Go.Shelf.Ren:=⟨fun|6=>51|8=>82|9=>83|11=>121|13=>123|12=>122|23=>178|24=>179|14=>169|15=>170|16=>171|17=>172|18=>173|19=>174|20=>175|21=>176|22=>177|25=>230|26=>231|27=>232|28=>233|29=>234|30=>235|31=>286|n=>n,fun|26=>9|28=>134|24=>28|0=>0|3=>3|37=>237|48=>280|50=>282|4=>4|40=>273|39=>272|45=>129|5=>5|9=>9|51=>309|55=>313|57=>354|58=>229|33=>153|n=>n,fun|n=>n⟩
theorem Tryz.sortedA:Go.Proofs.SlLaysZ.n6 Tryz.prog Tryz.sortedA_ren:={
 mixed:=by kernel_rfl
 f6:=⟨Tryz.f51.name,by decide,Tryz.func51.trans (congrArg some (by kernel_rfl))⟩
 f8:=⟨Tryz.f82.name,by decide,Tryz.func82.trans (congrArg some (by kernel_rfl))⟩
 f11:=⟨Tryz.f121.name,by decide,Tryz.func121.trans (congrArg some (by kernel_rfl))⟩
 t0:=Tryz.underlying0
 a0:=Tryz.isAgg0
 z0:=Tryz.sizeOf0
 v0:=Tryz.zeroValue0
 t24:=Tryz.underlying28
 a24:=Tryz.isAgg28
 z24:=Tryz.sizeOf28
 v24:=Tryz.zeroValue28
 t26:=Tryz.underlying9
 a26:=Tryz.isAgg9
 z26:=Tryz.sizeOf9
 v26:=Tryz.zeroValue9
 t28:=Tryz.underlying134
 a28:=Tryz.isAgg134
 z28:=Tryz.sizeOf134
 v28:=Tryz.zeroValue134
 i26:=by kernel_rfl }
def Tryz.sortA_ren:Go.Shelf.Ren:=⟨fun|6=>83|8=>123|9=>122|19=>178|20=>179|21=>169|22=>170|23=>171|24=>172|25=>173|26=>174|27=>175|28=>176|29=>177|36=>230|31=>231|32=>232|37=>233|38=>234|39=>235|41=>286|n=>n,fun|27=>28|29=>9|3=>3|32=>237|26=>28|0=>0|44=>280|46=>282|4=>4|36=>273|35=>272|41=>129|5=>5|9=>9|53=>309|57=>313|63=>354|64=>229|n=>n,fun|n=>n⟩
theorem Tryz.sortA:Go.Proofs.SlLaysM.n6 Tryz.prog Tryz.sortA_ren:={
 mixed:=by kernel_rfl
 f6:=⟨Tryz.f83.name,by decide,Tryz.func83.trans (congrArg some (by kernel_rfl))⟩
 f8:=Tryz.func123.trans (congrArg some (by kernel_rfl))
 f9:=⟨Tryz.f122.name,by decide,Tryz.func122.trans (congrArg some (by kernel_rfl))⟩
 f19:=Tryz.func178.trans (congrArg some (by kernel_rfl))
 f20:=Tryz.func179.trans (congrArg some (by kernel_rfl))
 f21:=⟨Tryz.f169.name,by decide,Tryz.func169.trans (congrArg some (by kernel_rfl))⟩
 f22:=⟨Tryz.f170.name,by decide,Tryz.func170.trans (congrArg some (by kernel_rfl))⟩
 f23:=⟨Tryz.f171.name,by decide,Tryz.func171.trans (congrArg some (by kernel_rfl))⟩
 f24:=⟨Tryz.f172.name,by decide,Tryz.func172.trans (congrArg some (by kernel_rfl))⟩
 f25:=⟨Tryz.f173.name,by decide,Tryz.func173.trans (congrArg some (by kernel_rfl))⟩
 f26:=⟨Tryz.f174.name,by decide,Tryz.func174.trans (congrArg some (by kernel_rfl))⟩
 f27:=⟨Tryz.f175.name,by decide,Tryz.func175.trans (congrArg some (by kernel_rfl))⟩
 f28:=⟨Tryz.f176.name,by decide,Tryz.func176.trans (congrArg some (by kernel_rfl))⟩
 f29:=⟨Tryz.f177.name,by decide,Tryz.func177.trans (congrArg some (by kernel_rfl))⟩
 f31:=Tryz.func231.trans (congrArg some (by kernel_rfl))
 f32:=Tryz.func232.trans (congrArg some (by kernel_rfl))
 f36:=⟨Tryz.f230.name,by decide,Tryz.func230.trans (congrArg some (by kernel_rfl))⟩
 f37:=⟨Tryz.f233.name,by decide,Tryz.func233.trans (congrArg some (by kernel_rfl))⟩
 f38:=⟨Tryz.f234.name,by decide,Tryz.func234.trans (congrArg some (by kernel_rfl))⟩
 f39:=⟨Tryz.f235.name,by decide,Tryz.func235.trans (congrArg some (by kernel_rfl))⟩
 f41:=⟨Tryz.f286.name,by decide,Tryz.func286.trans (congrArg some (by kernel_rfl))⟩
 t0:=Tryz.underlying0
 a0:=Tryz.isAgg0
 z0:=Tryz.sizeOf0
 v0:=Tryz.zeroValue0
 t3:=Tryz.underlying3
 a3:=Tryz.isAgg3
 z3:=Tryz.sizeOf3
 v3:=Tryz.zeroValue3
 t4:=Tryz.underlying4
 a4:=Tryz.isAgg4
 z4:=Tryz.sizeOf4
 v4:=Tryz.zeroValue4
 t5:=Tryz.underlying5
 a5:=Tryz.isAgg5
 z5:=Tryz.sizeOf5
 v5:=Tryz.zeroValue5
 t9:=Tryz.underlying9
 a9:=Tryz.isAgg9
 z9:=Tryz.sizeOf9
 v9:=Tryz.zeroValue9
 t26:=Tryz.underlying28
 a26:=Tryz.isAgg28
 z26:=Tryz.sizeOf28
 v26:=Tryz.zeroValue28
 t27:=Tryz.underlying28
 a27:=Tryz.isAgg28
 z27:=Tryz.sizeOf28
 v27:=Tryz.zeroValue28
 t29:=Tryz.underlying9
 a29:=Tryz.isAgg9
 z29:=Tryz.sizeOf9
 v29:=Tryz.zeroValue9
 t32:=Tryz.underlying237
 a32:=Tryz.isAgg237
 z32:=Tryz.sizeOf237
 v32:=Tryz.zeroValue237
 t35:=Tryz.underlying272
 a35:=Tryz.isAgg272
 z35:=Tryz.sizeOf272
 v35:=Tryz.zeroValue272
 t36:=Tryz.underlying273
 a36:=Tryz.isAgg273
 z36:=Tryz.sizeOf273
 v36:=Tryz.zeroValue273
 t41:=Tryz.underlying129
 a41:=Tryz.isAgg129
 z41:=Tryz.sizeOf129
 v41:=Tryz.zeroValue129
 t44:=Tryz.underlying280
 a44:=Tryz.isAgg280
 z44:=Tryz.sizeOf280
 v44:=Tryz.zeroValue280
 t46:=Tryz.underlying282
 a46:=Tryz.isAgg282
 z46:=Tryz.sizeOf282
 v46:=Tryz.zeroValue282
 t53:=Tryz.underlying309
 a53:=Tryz.isAgg309
 z53:=Tryz.sizeOf309
 v53:=Tryz.zeroValue309
 t57:=Tryz.underlying313
 a57:=Tryz.isAgg313
 z57:=Tryz.sizeOf313
 v57:=Tryz.zeroValue313
 t63:=Tryz.underlying354
 a63:=Tryz.isAgg354
 z63:=Tryz.sizeOf354
 v63:=Tryz.zeroValue354
 t64:=Tryz.underlying229
 a64:=Tryz.isAgg229
 z64:=Tryz.sizeOf229
 v64:=Tryz.zeroValue229 }
def Tryz.lays105_ren:Go.Shelf.Ren:=⟨fun|105=>200|212=>255|99=>256|165=>257|166=>124|170=>125|169=>45|263=>296|264=>297|206=>243|240=>180|241=>298|276=>236|277=>324|n=>n,fun|9=>9|3=>3|4=>4|20=>20|0=>0|46=>237|109=>328|5=>5|72=>98|76=>240|51=>280|146=>358|53=>282|148=>360|70=>95|37=>96|75=>239|127=>158|164=>315|80=>123|n=>n,fun|n=>n⟩
theorem Tryz.lays105:Go.Proofs.Lays.n105 Tryz.prog Tryz.lays105_ren:=by constructor;all_goals intros;kernel_rfl
end Go.Proofs
section
namespace Go.Ir
open Go.Proofs Go.RowKit
variable(W0:World)
def Bj(W0:World):Prop:=∃m,W0.cell? ⟨Tryz.lays138_ren.g 1,0,none⟩=some (.int .i64 m)
theorem Gt{W0 w:World}(h:Bj W0)(c:Below W0.heap.size W0 w):∃m,w.cell? ⟨Tryz.lays138_ren.g 1,0,none⟩=some (.int .i64 m):=by
 obtain⟨m,b⟩:=h;refine⟨m,?_⟩;rw[<-b];unfold World.cell? at b⊢;cases a:W0.heap[Tryz.lays138_ren.g 1]? with
 | none=>grind
 | some o=>simp only[c.block _ (Ath.1 a).1,a]
theorem Ade(s sep:Aa):(Lib.cut s sep).1.length<=s.length/\(Lib.cut s sep).2.1.length<=s.length:=by unfold Lib.cut;grind
theorem wJ:Go.Proofs.Builder.Extra π Tryz.lays154_ren where
 sizeBuilder:=by kernel_rfl
 liesBuilder:=by kernel_rfl
 t5:=Tryz.underlying5
 a5:=Tryz.isAgg5
 z5:=Tryz.sizeOf5
 v5:=Tryz.zeroValue5
 infoByte:=by kernel_rfl
 cellsByte:=by kernel_rfl
 sizeByte:=by kernel_rfl
 neB5:=by decide
theorem pJ:Go.Proofs.Builder.Extra π Tryz.lays105_ren where
 sizeBuilder:=by kernel_rfl
 liesBuilder:=by kernel_rfl
 t5:=Tryz.underlying5
 a5:=Tryz.isAgg5
 z5:=Tryz.sizeOf5
 v5:=Tryz.zeroValue5
 infoByte:=by kernel_rfl
 cellsByte:=by kernel_rfl
 sizeByte:=by kernel_rfl
 neB5:=by decide
theorem NQ(s:Aa)(k:Nat)(p:s.length*k<=2^30)(m:k<=2^30)(b:(Lib.repeatL s k).length<=AG):Al π W0 200 [.s s,.i .i64 (k:Int)] [] (.s (Lib.repeatL s k)) []:=by refine AR (by kernel_rfl) λw vals j ⟨μ,H,c⟩=>?_;obtain⟨x,y,rfl,g,h⟩:=c.two;obtain⟨rfl,o⟩:=B7 g;cases h;refine(Any.strings_Repeat Tryz.lays105 pJ ⟨s.toArray⟩ k w (by omega) (by simp[ByteArray.size];omega)).mono λe w' ⟨a,f⟩=>?_;exact⟨_,a,λ_ _=>.s _ b,f⟩
variable(hM:Bj W0)
include hM
theorem yW(s sub:Aa)(q:s.length<=2^31)(a:1<=sub.length):Al π W0 269 [.s s,.s sub] [] (.i .i64 (Lib.count s sub)) []:=by refine AR (by kernel_rfl) λw vals b ⟨μ,H,h⟩=>?_;obtain⟨x,y,rfl,k,o⟩:=h.two;obtain⟨rfl,p⟩:=B7 k;obtain⟨rfl,f⟩:=B7 o;obtain⟨m,g⟩:=Gt hM b;refine(Any.strings_Count_any Tryz.lays138 ⟨s.toArray⟩ ⟨sub.toArray⟩ m w (by simp[ByteArray.size];omega) g (by simpa[ByteArray.size] using a)).mono λe w' ⟨c,j⟩=>?_;subst j;exact⟨_,c,λ_ _=>.i _ _,Aw0 _ _⟩
theorem T4(s sep:Aa)(z:s.length<=2^31):Al π W0 136 [.s s,.s sep] [] (.tup [.s (Lib.cut s sep).1,.s (Lib.cut s sep).2.1,.b (Lib.cut s sep).2.2]) []:=by
 refine AR (by kernel_rfl) λw vals j ⟨μ,H,a⟩=>?_;obtain⟨x,y,rfl,t,u⟩:=a.two;obtain⟨rfl,g⟩:=B7 t;obtain⟨rfl,p⟩:=B7 u;obtain⟨m,q⟩:=Gt hM j;refine(Any.strings_Cut Tryz.lays145 ⟨s.toArray⟩ ⟨sep.toArray⟩ m w (by simp[ByteArray.size];omega) q).mono λe w' ⟨o,n,r⟩=>?_;subst r;obtain⟨h,i⟩:=Ade s sep;refine⟨_,o,λμ H=>Ao.tup [.s (Lib.cut s sep).1,.s (Lib.cut s sep).2.1,.b (Lib.cut s sep).2.2] [.string ⟨(Lib.cut s sep).1.toArray⟩,.string ⟨(Lib.cut s sep).2.1.toArray⟩,.bool (Lib.cut s sep).2.2] rfl λk c v f a=>?_,Below.drewN_ (Aw0 _ _) n⟩
 match k with
 | 0=>simp at f a;subst f a;exact .s _ (AmI h g)
 | 1=>simp at f a;subst f a;exact .s _ (AmI i g)
 | 2=>simp at f a;subst f a;exact .b _
 | k+3=>simp at f
theorem M9(s a new:Aa)(n:Int)(D:s.length<=2^31)(j:1<=a.length)(C:s.length*new.length<=2^41)(t:(Lib.replace s a new n).length<=AG):Al π W0 213 [.s s,.s a,.s new,.i .i64 n] [] (.s (Lib.replace s a new n)) []:=by
 refine AR (by kernel_rfl) λw vals k ⟨μ,H,g⟩=>?_;have f:=g.len;obtain⟨x,y,z,u,rfl⟩:∃x y z u,vals=[x,y,z,u]:=by
  match vals,f with
  | [x,y,z,u],_=>exact⟨x,y,z,u,rfl⟩
 obtain⟨rfl,B⟩:=B7 (g.at_ 0 _ _ rfl rfl);obtain⟨rfl,p⟩:=B7 (g.at_ 1 _ _ rfl rfl);obtain⟨rfl,q⟩:=B7 (g.at_ 2 _ _ rfl rfl);have v:=g.at_ 3 _ _ rfl rfl;cases v;obtain⟨m,r⟩:=Gt hM k;have b:=Lib.countB_le ⟨a.toArray⟩ (by simpa[ByteArray.size] using j) s.length ⟨s.toArray⟩ (by simp[ByteArray.size]);have c:(⟨s.toArray⟩:ByteArray).size=s.length:=by simp[ByteArray.size]
 have h:(⟨new.toArray⟩:ByteArray).size=new.length:=by simp[ByteArray.size]
 refine(Any.strings_Replace Tryz.lays154 wJ ⟨s.toArray⟩ ⟨a.toArray⟩ ⟨new.toArray⟩ n m w (by rw[c];omega) r (by simpa[ByteArray.size] using j) ?_).mono λe w' ⟨o,A⟩=>?_
 .rw[c,h];rw[c] at b;have:Lib.countB ⟨s.toArray⟩ ⟨a.toArray⟩*new.length<=s.length*new.length:=AyA _ b;omega
 .exact⟨_,o,λ_ _=>.s _ t,A⟩
omit hM
theorem ES(s cs:Aa):(Lib.trimLeftS s cs).length<=s.length:=(AyR _).length_le
theorem OW(s cs:Aa)(a:cs.length<4294967281)(c:∀b∈cs,b.toNat<128):Al π W0 259 [.s s,.s cs] [] (.s (Lib.trimLeftS s cs)) []:=by refine AR (by kernel_rfl) λw vals p ⟨μ,H,i⟩=>?_;obtain⟨x,y,rfl,m,o⟩:=i.two;obtain⟨rfl,h⟩:=B7 m;obtain⟨rfl,_⟩:=B7 o;refine(Any.strings_TrimLeft_laid Tryz.lays161 (by kernel_rfl) ⟨s.toArray⟩ ⟨cs.toArray⟩ w (by simpa[ByteArray.size] using a) (λj b g=>c b (AfA g))).mono λe w' ⟨f,k⟩=>?_;exact⟨_,f,λ_ _=>.s _ (AmI (ES s cs) h),k⟩
theorem Q5{μ:Id->Option Value}{H:Addr->Option Value}{a:List Aa}{vals:List Value}(h:AK μ H (AD (a.map V.s)) vals):vals=a.map encStr:=by
 rw[FN] at h;apply AwS;intro k;rw[AgQ];cases f:a[k]? with
 | none=>
  have:vals.length=a.length:=by have:=h.len;simpa using this.symm
  grind
 | some l=>obtain⟨v,b,e⟩:=h.toVRels.get (k:=k) (c:=.s l) (by grind);rw[b,(B7 e).1];rfl
theorem LN{μ:Id->Option Value}{H:Addr->Option Value}{b:List Aa}(g:∀l∈b,l.length<=AG):AK μ H (AD (b.map V.s)) (b.map encStr):=by
 rw[FN];refine⟨⟨by simp,λk c v e a=>?_⟩,λv a=>?_⟩
 .rw[AgQ] at e a;obtain⟨x,f,rfl⟩:=AdV.1 e;rw[f] at a;cases a;exact .s _ (g x (AfA f))
 .obtain⟨x,_,rfl⟩:=AmO.1 a;rfl
theorem JD{w:World}{g:Nat}{a:Array Value}{e:TypeId}{b:List Aa}(f:w.heap[g]?=some (.cells a e (0,0)))(k:a.toList.take b.length=b.map encStr):Sort.Holds encStr w g 0 b.toArray:=by
 intro j i;have c:j<b.length:=by simpa using i
 have h:a[j]?=some (encStr b[j]):=by
  have:(a.toList.take b.length)[j]?=some (encStr b[j]):=by rw[k];simp 
  grind
 refine⟨?_,?_⟩
 .simp[World.cell?,f,h,c]
 .simp[World.frozen?,f]
theorem IP{P:Program}{W0:World}{f:FuncId}{e:TypeId}{o a:List Aa}(id:Id)(S:callable P f=true)(X:o≠[])(b:a.length=o.length)(z:∀l∈a,l∈o)
  (h:∀(w:World) BC cap,Sort.Holds encStr w BC 0 o.toArray->BC<w.heap.size->Calls P f #[.slice (some ⟨BC,0,none⟩) o.length cap] w λe w'=>e=.returned (.tuple #[])/\∃n B,w'=Sort.grow (Sort.putRow encStr (Sort.ahead w n) BC 0 a.toArray) B) :
  Al P W0 f [.arr id] [(id,.arr e 1 (o.map V.s))] (.tup []) [(id,.arr e 1 (a.map V.s))] where
 callable:=S
 dom:=λi T=>by simp only[lk] at T⊢;grind
 run:=by
  intro n w μ H vals hp N;obtain⟨x,rfl⟩:∃x,vals=[x]:=by
   match vals,N.len with
   | [x],_=>exact⟨x,rfl⟩
  have A:=(N.at_ 0 _ _ rfl rfl).arr_inv.1;have y:lk [(id,A5.arr e 1 (o.map V.s))] id=some (.arr e 1 (o.map V.s)):=by simp[lk]
  obtain⟨v,vs,L,h2,C,O,h5,D⟩:=hp.ents _ _ y;rw[A] at L;cases L;have K:=Q5 D;subst K;obtain⟨U,C⟩:=C;rcases C with⟨_,h0⟩|⟨g,cap,cur,rfl,hB,hg,hncap,hcap,hcur,htake⟩
  .grind
  simp only[AcG,Nat.mul_one] at htake U hcur hncap⊢;have r:g<w.heap.size:=(Ath.1 hg).1;have J:∀l∈o,l.length<=AG:=by intro l G;obtain⟨k,M⟩:=AtX.1 G;rw[FN] at D;obtain⟨v,_,R⟩:=D.toVRels.get (k:=k) (c:=.s l) (by grind);exact(B7 R).2
  refine(h w g cap (JD hg htake) r).mono ?_;rintro Z w' ⟨rfl,k,B,rfl⟩;have t:∀j,j<w.heap.size->(Sort.grow (Sort.putRow encStr (Sort.ahead w k) g 0 a.toArray) B).heap[j]?=if j=g then some (.cells (Sort.putCells encStr 0 a.toArray cur) e (0,0)) else w.heap[j]?:=by
   intro j u;simp only[Sort.grow,Sort.putRow,Sort.mapBlock,Sort.ahead];rw[Az8 (by simpa using u),Array.getElem?_modify];by_cases F:g=j
   .subst F;simp[hg,Sort.onCells]
   grind
  have p:AQ (λq=>BC (μ id)=some q) w (Sort.grow (Sort.putRow encStr (Sort.ahead w k) g 0 a.toArray) B):=by refine⟨rfl,rfl,rfl,by grind,λj u W=>?_⟩;rw[t j u,if_neg];rintro rfl;exact W (by rw[A];rfl)
  have m:=hp.set_ (e:=.arr e 1 (a.map V.s)) y p ⟨_,a.map encStr,A,rfl,⟨by simp,.inr ⟨g,cap,Sort.putCells encStr 0 a.toArray cur,by simp[b],hB,by rw[t g r,if_pos rfl],by simp[b];exact hncap,hcap,by simp[Sort.putCells,hcur],?_⟩⟩,by simpa[b] using O,λx A=>by grind,LN λl G=>J l (z l G)⟩
  .have Y:upd [(id,A5.arr e 1 (o.map V.s))] id (.arr e 1 (a.map V.s))=[(id,.arr e 1 (a.map V.s))]:=by simp[upd]
   rw[Y] at m;exact⟨_,μ,H,n,rfl,.tup [] [] rfl (λk c v M=>by simp at M),m.1,A0h _,m.2,λ_ _ h=>h⟩
  .apply AwS;intro j;simp only[AcG,Nat.mul_one,Ay3,AgQ];split
   .rename_i u;have E:j<cur.size:=by omega
    simp[Sort.putCells,E,u]
   grind
theorem aS(a:List Aa)(id:Id)(c:a≠[])(f:a.length<=2^40):Al π W0 260 [.arr id] [(id,.arr 9 1 (a.map V.s))] (.tup []) [(id,.arr 9 1 (a.reverse.map V.s))]:=by refine IP id (by kernel_rfl) c (by simp) (λl f=>by simpa using f) λw BC b g h=>?_;refine(Any.slices_Reverse_string Tryz.laysT17 BC 0 b a w g (by omega)).mono ?_;rintro e w' ⟨rfl,n,rfl⟩;exact⟨rfl,n,#[],by simp⟩
end Go.Ir
end
section
set_option maxRecDepth 100000
namespace Go.Ir
open Go.Proofs Go.RowKit
theorem On{W:World}(h:W.ShapedOpen Tryz.prog):Bj W:=by
 obtain⟨cs,j,m,k⟩:=h.1 (Tryz.lays138_ren.g 1) #[.int .i64 0] 3 (of_decide_eq_true (by kernel_rfl)) (by kernel_rfl);obtain⟨q,e,_,c⟩:=k (by kernel_rfl);have i:Tryz.prog.cellTypes Tryz.prog.depth 3=some [3]:=by kernel_rfl
 rw[i] at e;cases e;have p:0<cs.size:=by rw[m];decide
 obtain⟨u,f,a⟩:=c 0 cs[0] (by simp );have:u=3:=by simpa using f.symm
 subst this;have b:W.cell? ⟨Tryz.lays138_ren.g 1,0,none⟩=some cs[0]:=by simp[World.cell?,j]
 unfold Bj;rw[b];unfold Cell.ok at a;rw[Tryz.underlying3] at a;cases o:cs[0]<;>rw[o] at a<;>first|(simp at a;done)|skip
 grind
end Go.Ir
end
namespace Go.Proofs
open Go.Shelf
def Tryz.laysT16_ren:Go.Shelf.Ren:=⟨fun|16=>66|n=>n,fun|24=>28|9=>9|4=>4|n=>n,fun|n=>n⟩
theorem Tryz.laysT16:Go.Proofs.Lays2.n16 Tryz.prog Tryz.laysT16_ren:=by constructor;all_goals intros;kernel_rfl
def Tryz.lays194_ren:Go.Shelf.Ren:=⟨fun|194=>331|n=>n,fun|31=>28|9=>9|3=>3|4=>4|0=>0|n=>n,fun|n=>n⟩
theorem Tryz.lays194:Go.Proofs.Lays.n194 Tryz.prog Tryz.lays194_ren:=by constructor;all_goals intros;kernel_rfl
end Go.Proofs
namespace Go.Ir
open Go.Proofs Go.RowKit
variable(W0:World)
theorem Aac(a:List Aa)(id:Id)(c:a≠[])(e:a.length<=2^40):Al π W0 83 [.arr id] [(id,.arr 9 1 (a.map V.s))] (.tup []) [(id,.arr 9 1 ((a.mergeSort λx y=>decide (x<=y)).map V.s))]:=by refine IP id (by kernel_rfl) c (Az1 ..) (λl e=>by simpa using e) λw BC b f g=>?_;exact AnyM.slices_Sort_string Tryz.sortA BC 0 b a w f g (by omega)
theorem lI{W0:World}{n:Nat}{μ:Id->Option Value}{H:Addr->Option Value}{w:World}{id:Id}{e:TypeId}{f:List Aa}(hp:Hp W0 [(id,.arr e 1 (f.map V.s))] n μ H w)(u:f≠[]){x:Value}(y:μ id=some x) :
  ∃g a b,x=.slice (some ⟨g,0,none⟩) f.length a/\W0.heap.size<=g/\w.heap[g]?=some (.cells b e (0,0))/\f.length<=a/\a<=maxLen/\b.size=a/\b.toList.take f.length=f.map encStr/\f.length<=AH/\∀l∈f,l.length<=AG:=by
 have j:lk [(id,A5.arr e 1 (f.map V.s))] id=some (.arr e 1 (f.map V.s)):=by simp[lk]
 obtain⟨v,vs,o,z,h,p,A,i⟩:=hp.ents _ _ j;rw[y] at o;cases o;have m:=Q5 i;subst m;obtain⟨r,h⟩:=h;rcases h with⟨_,h0⟩|⟨g,a,b,rfl,hB,hg,hncap,hcap,hcur,htake⟩
 .grind
 simp only[AcG,Nat.mul_one] at htake r hcur hncap p⊢;refine⟨g,a,b,rfl,hB,hg,hncap,hcap,hcur,htake,p,λl t=>?_⟩;obtain⟨k,B⟩:=AtX.1 t;rw[FN] at i;obtain⟨v,_,q⟩:=i.toVRels.get (k:=k) (c:=.s l) (by grind);exact(B7 q).2
theorem uT{W0:World}{σ:Aj}{n:Nat}{μ:Id->Option Value}{H:Addr->Option Value}{w:World}(hp:Hp W0 σ n μ H w){id:Id}(h:μ id=none):lk σ id=none:=by
 cases a:lk σ id with
 | none=>rfl
 | some e=>exact absurd (hp.ents _ _ a).named (by grind)
theorem vS(b:List Aa)(id:Id)(B:b≠[])(S:b.length<=2^30):IU π W0 66 [.arr id] [(id,.arr 9 1 (b.map V.s))] (.arr 9 1 (b.map V.s)) [(id,.arr 9 1 (b.map V.s))] where
 callable:=by kernel_rfl
 dom:=λ_ h=>h
 run:=by
  intro n w μ H vals hp G;obtain⟨x,rfl⟩:∃x,vals=[x]:=by
   match vals,G.len with
   | [x],_=>exact⟨x,rfl⟩
  have M:=(G.at_ 0 _ _ rfl rfl).arr_inv.1;obtain⟨g,p,r,rfl,hB,F,A,D,E,q,_,C⟩:=lI hp B M;have key:=Any.slices_Clone_string Tryz.laysT16 g 0 b.length p (b.map λl=>(⟨l.toArray⟩:ByteArray)) w (by simp) (by omega) (λj K=>by
   have z:j<b.length:=by simpa using K
   have:=(JD F q j (by simpa using z)).1;grind
)
  refine key.mono ?_;rintro e w' ⟨v,rfl,f,_,i⟩;have t:List.map Value.string ((b.map λl=>(⟨l.toArray⟩:ByteArray)).take b.length)=b.map encStr:=by rw[Azy (by simp),Azs];simp_all
  rw[t] at f;have a:μ (n,0)=none:=hp.bd _ (A0h _);have c:=f.2;have o:v.oneCell'=true:=by rcases c with⟨rfl,_⟩|⟨g,p,r,rfl,_⟩<;>rfl
  have m:=(hp.more (AmQ n)).new_ (n':=n+1) (R:=λ_=>False) (w':=w') ⟨i.os,i.tape,i.output,i.size,λk L _=>i.block k L⟩ (λ_ h=>h.elim) (σ1:=[(id,.arr 9 1 (b.map V.s))]) (λid e h=>⟨h,λ_ _ h=>h⟩) (id:=(n,0)) (e:=.arr 9 1 (b.map V.s)) (val:=v) a (A0j _) (A0h _) (λO i=>by
    right;rcases c with⟨rfl,_⟩|⟨g,p,r,rfl,F,_⟩
    .simp[BC] at i
    .simp[BC] at i;omega)
   ⟨v,b.map encStr,Ap _ _ _,o,by rw[AcG];exact ownsRow_base_a f hp.base.size,by grind,by intro y N;obtain⟨x,_,rfl⟩:=AmO.1 N;rfl,LN C⟩
  refine⟨v,_,H,n+1,(n,0),rfl,Ap _ _ _,o,a,uT hp a,m.1,AmQ _,m.2,λid u J=>?_⟩;rw[Br _ _ (by rintro rfl;simp at u)];exact J
theorem K3{a:List Aa}{l:Aa}(h:l∈Lib.compact a):l∈a:=by unfold Lib.compact Lib.compactUpTo at h;grind
theorem Kw(a:List Aa):(Lib.compact a).length<=a.length:=by unfold Lib.compact Lib.compactUpTo;grind
theorem M5(a:List Aa)(id:Id)(G:a≠[])(hl:a.length<=2^30):Ew π W0 331 [.arr id] [(id,.arr 9 1 (a.map V.s))] (λn n' v σ'=>∃b:Id,n<=b.1/\b.1<n'/\v=.arr b/\σ'=[(b,.arr 9 1 ((Lib.compact a).map V.s))]) where
 callable:=by kernel_rfl
 run:=by
  intro n w μ H vals hp O;obtain⟨x,rfl⟩:∃x,vals=[x]:=by
   match vals,O.len with
   | [x],_=>exact⟨x,rfl⟩
  have K:=(O.at_ 0 _ _ rfl rfl).arr_inv.1;obtain⟨g,f,i,rfl,hB,A,o,t,u,r,_,J⟩:=lI hp G K;have W:=Kw a;have X:g<w.heap.size:=(Ath.1 A).1;refine(Any.slices_Compact_string Tryz.lays194 g 0 f a w (JD A r) (by omega) o).mono ?_;rintro en w' ⟨rfl,q,rfl⟩;generalize L:Lib.compact a++List.replicate (a.length-(Lib.compact a).length) []=T;have U:T.length=a.length:=by rw[<-L];simp;omega
  have z:∀j,(Sort.putRow encStr (Sort.ahead w q) g 0 T.toArray).heap[j]?=if j=g then some (.cells (Sort.putCells encStr 0 T.toArray i) 9 (0,0)) else w.heap[j]?:=by
   intro j;simp only[Sort.putRow,Sort.mapBlock,Sort.ahead];rw[Array.getElem?_modify];by_cases m:g=j
   .subst m;simp[A,Sort.onCells]
   .rw[if_neg m,if_neg (Ae2 m)]
  have p:μ (n,0)=none:=hp.bd _ (A0h _);have F:lk [(id,A5.arr 9 1 (a.map V.s))] id=some (.arr 9 1 (a.map V.s)):=by simp[lk]
  have c:=(hp.more (AmQ n)).new_ (n':=n+1) (σ1:=[]) (w':=Sort.putRow encStr (Sort.ahead w q) g 0 T.toArray) (R:=λk=>BC (μ id)=some k) ⟨rfl,rfl,rfl,by simp ,λk N Z=>by rw[z,if_neg];rintro rfl;exact Z (by rw[K];rfl)⟩ (λk N=>⟨id,_,F,N⟩) (λab e' h=>by simp[lk] at h) p (id:=(n,0)) (e:=.arr 9 1 ((Lib.compact a).map V.s)) (val:=.slice (some ⟨g,0,none⟩) (Lib.compact a).length f) (A0j _) (A0h _) (λbk M=>by
    simp only[BC,AmF] at M;subst M;left;rw[K];rfl)
   ⟨_,(Lib.compact a).map encStr,Ap _ _ _,rfl,⟨by simp,.inr ⟨g,f,Sort.putCells encStr 0 T.toArray i,by simp,hB,by rw[z,if_pos rfl],by simp;omega,t,by simp[Sort.putCells,u],by
    apply AwS;intro j;simp only[AcG,Nat.mul_one,Ay3,AgQ];split
    .rename_i C;have E:j<i.size:=by omega
     have D:j<T.length:=by omega
     have:T[j]=(Lib.compact a)[j]:=by simp only[<-L];rw[List.getElem_append_left C]
     simp[Sort.putCells,E,D,this,C]
    .rename_i C;rw[AzL (by omega)];rfl⟩⟩,by simp;unfold AH;omega,by intro y hy;obtain⟨x,_,rfl⟩:=AmO.1 hy;rfl,LN λl Y=>J l (K3 Y)⟩
  refine⟨_,_,H,n+1,_,_,rfl,⟨(n,0),A0h _,A0j _,rfl,rfl⟩,.arr _ _ (Ap _ _ _) rfl,c.1,AmQ _,c.2,λid B S=>?_⟩;rw[Br _ _ (by rintro rfl;simp at B)];exact S
end Go.Ir
