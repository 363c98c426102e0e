/- Parts of the proof: the calculus of walks, contracts of functions, plain laws; each theorem states its conditions. -/
import Derived.Test.YtalbicndcfmbnaaGreatDoorTac
import Derived.Lib.IndexMore
import Derived.Lib.Replace
import Derived.Lib.IndexAny
import Derived.Lib.Join
import Derived.Lib.SlicesCompact
import Derived.Lib.ItoaNum
import Derived.Shelf.Small.Wraps
import Derived.Shelf.Strconv.Itoa3
import Derived.Shelf.Strconv.Atoi
import Derived.Shelf.Strings.Search2
import Derived.Shelf.Strings.SlTrimAscii
import Derived.Deep.Draws
import Derived.Lib.AtoiErrMem
import Derived.BigCall
import Derived.Laws.IdiomStrings
import Derived.Shelf.Strings.IndexAnyAll
import Derived.Lib.OthersKept
import Derived.Scope
import Derived.RegionCalls
import Derived.BigRegion
import Derived.Deep.RegionWith
import Derived.Laws.Runes
import Derived.Laws.RangeAny
import Derived.Lib.LaidTab
import Derived.Lib.ItoaLen
import Derived.MakeChecks
import Derived.Shelf.Small.Strs
import Derived.Shelf.Strings.OnBuilder
import Derived.Shelf.Strings.Split
import Derived.Shelf.Strings.Cut
import Derived.Shelf.Strings.Replace
import Derived.Shelf.Slices.ReverseS
import Derived.Shelf.SlIter.Nil
import Derived.Shelf.SortM.Plain
import Derived.Shelf.SortM.SortNone
import Derived.Ground.GgzProg
import Derived.Ground.SlgmProg
import Derived.Shelf.Strings.Repeat
import Derived.Lib.ReplaceLaws
import Derived.Lib.SplitLaws
import Derived.ShapedOpen
import Derived.Shelf.Slices.Clone
import Derived.Shelf.Slices.CompactS
set_option linter.all false
open Nat (reduceEqDiff)
namespace Go.Ir
def Hq(a:Bool)(w f:Aa):Aa:=
 if a&&!(Dw w&&Dw f) then 45::(if f==[] then w else w++46::f) else(if f==[] then w else w++46::f)
def Fk(a:Bool)(w f:Aa):Aa×Int:=if decide ((w.length:Int)>15)||decide ((f.length:Int)>6) then([],2) else(Hq a w f,0)
def Ed(w:Aa):Aa:=if Lib.trimLeftS w [48]==[] then[48] else Lib.trimLeftS w [48]
def CT(s:Aa):Aa×Int:=if DI s then Fk (IM s) (Ed (AN s++(Bo s++[48,48]).take 2)) ((Bo s).drop (min 2 (Bo s).length)) else([],1)
def KA:List UInt8->List UInt8
 | []=>[49]
 | c::r=>if c==57 then 48::KA r else(c+1)::r
def H3(s:Aa):Aa:=(KA s.reverse).reverse
def Aeu:Aa->Bool
 | c::_=>decide ((c.toNat:Int)>=53)
 | []=>false
def CR(s:Aa):Aa×Int:=if DI s then Fk (IM s) (if Bo s==[] then AN s else if Aeu (Bo s) then H3 (AN s) else AN s) [] else([],1)
def Bq(a:Nat):Nat->Aa->List Aa
 | 0,_=>[]
 | n+1,r=>if r==[] then[] else r.drop (r.length-a)::Bq a n (r.take (r.length-a))
def Ig(a b:Int)(c d:Aa):Aa:=
 if decide (a<1)||decide ((d.length:Int)<=a) then d
 else Lib.join (d.drop (d.length-a.toNat)::Bq (if b<1 then a else b).toNat d.length (d.take (d.length-a.toNat))).reverse c
def EL(L:BR)(n:Aa):Aa:=
 let a:=Ig L.prim L.sec L.grp (AN n);let b:=if(OY n).isEmpty then a else a++(L.dec++Bo n)
 if IM n then L.minus++b else b
def Mo:Aa:=[105,110,116,101,103,101,114]
def Lu:Aa:=[112,101,114,99,101,110,116]
def DL(L:BR)(n st:Aa):Aa×Int:=
 if !DI n||(!(st==[])&&!(st==Mo)&&!(st==Lu)) then([],1)
 else if L.dec==[] then([],18)
 else if st==Mo then(if(CR n).2==0 then(EL L (CR n).1,0) else([],(CR n).2))
 else if st==Lu then(if(CT n).2==0 then(EL L (CT n).1++L.perc,0) else([],(CT n).2))
 else(EL L n,0)
def EE:List Aa:=[[121],[77],[77,77],[77,77,77],[69],[100],[100,100]]
def Fz(s:Aa):Bool:=EE.contains s
def Cj:List Aa->Aa->List Aa->Option (List Aa)
 | [],rest,out=>if !(rest==[])||out.length==0 then none else some out
 | k::a,rest,out=>
  if rest.take (rest.length-(Lib.trimLeftS rest k).length)==[] then Cj a rest out
  else if Fz (rest.take (rest.length-(Lib.trimLeftS rest k).length)) then Cj a (Lib.trimLeftS rest k) (out++[rest.take (rest.length-(Lib.trimLeftS rest k).length)]) else none
def CC:List Aa:=[[121],[77],[69],[100]]
def Cf(s:Aa):Option (List Aa):=Cj CC s []
def Bc:Aa:=[65,66,67,68,69,70,71,72,73,74,75,76,77,78,79,80,81,82,83,84,85,86,87,88,89,90,97,98,99,100,101,102,103,104,105,106,107,108,109,110,111,112,113,114,115,116,117,118,119,120,121,122]
def Co:Nat->Aa->List Aa->Option (List Aa)
 | 0,_,_=>none
 | n+1,p,out=>if p==[] then some out
  else if p.take (p.length-(Lib.trimLeftS p Bc).length)==[] then Co n (p.drop 1) out
  else if Fz (p.take (p.length-(Lib.trimLeftS p Bc).length)) then Co n (Lib.trimLeftS p Bc) (out++[p.take (p.length-(Lib.trimLeftS p Bc).length)]) else none
def GU(p:Aa):Option (List Aa):=Co (p.length+1) p []
def Kx(l:List Aa):List Aa:=l.mergeSort λx y=>decide (x<=y)
def Gh(l:List Aa):Aa×Bool:=(Lib.join (Lib.compact (Kx (l.map λf=>f.take 1))) [],(Lib.compact (Kx (l.map λf=>f.take 1))).length==l.length)
def Dz(a p:Aa):Bool:=match Cf a,GU p with
 | some w,some g=>!(g.length==0)&&((Gh g).2&&(Gh w).1==(Gh g).1)
 | _,_=>false
def AW(i:Nat):Aa:=123::(Lib.decDigits i++[125])
def F1(s:Aa):Bool:=s.any λc=>c==123||c==125
def Sj:Nat->Nat->Aa->Bool
 | 0,_,s=>!F1 s
 | k+1,i,s=>if Lib.count s (AW i)==1 then Sj k (i+1) (Lib.replace s (AW i) [0] 1) else false
def Pj(s:Aa)(n:Nat):Bool:=Sj n 0 s
def ID(y:Int):Bool:=(y.tmod 4==0&&y.tmod 100 !=0)||y.tmod 400==0
def Dy(y:Int):Int:=if ID y then 366 else 365
def AbK:List Int:=[31,28,31,30,31,30,31,31,30,31,30,31]
def Hy(y:Int)(m:Nat):Int:=if m==2&&ID y then 29 else AbK.getD (m-1) 0
def FL:Nat->Int->Int->Int×Int
 | 0,y,d=>(y,d)
 | n+1,y,d=>if d>=Dy y then FL n (y+1) (d-Dy y) else(y,d)
def Nf(y:Int):Nat->Nat->Int->Nat×Int
 | 0,m,d=>(m,d)
 | n+1,m,d=>if d>=Hy y m then Nf y n (m+1) (d-Hy y m) else(m,d)
def DD(d:Int):Bool:=!(decide (d < -25567)||decide (d>84005))
def G8(d:Int):Int×Int:=FL (d+25567).toNat 1900 (d+25567)
def Fy(d:Int):Nat×Int:=Nf (G8 d).1 12 1 (G8 d).2
def Il(n:Nat):Aa:=if n<10 then 48::Lib.decDigits n else Lib.decDigits n
def Do(d:Int):Aa:=if DD d then Lib.decDigits (G8 d).1.toNat++[45]++Il (Fy d).1++[45]++Il ((Fy d).2+1).toNat else[]
def EO(l:List Aa):Dt:=l.foldl (λm f=>Ep m (f.take 1) f.length) []
def Ky(a b:Dt):Int×Bool:=if a.all (λe=>(AU b e.1).isSome) then((a.map λe=>max (e.2-(AU b e.1).getD 0) ((AU b e.1).getD 0-e.2)).sum,(a.length:Int)==(b.length:Int)) else(0,false)
def CS(a:Dt):List CO->Int->Int->Int->Int
 | [],_,b,_=>b
 | p::ps,i,b,c=>match Cf p.skel with
  | none=>CS a ps (i+1) b c
  | some l=>if(Ky a (EO l)).2&&(decide (b<0)||decide ((Ky a (EO l)).1<c)) then CS a ps (i+1) i (Ky a (EO l)).1 else CS a ps (i+1) b c
def Ee(l:List CO)(a:Aa):Int×Int:=match Cf a with
 | none=>(0,3)
 | some w=>if CS (EO w) l 0 (-1) 0<0 then(0,8) else(CS (EO w) l 0 (-1) 0,0)
def ZM(p:Aa):Bool:=[[],[121]].any λy=>[[],[77]].any λm=>[[],[69]].any λe=>[[],[100]].any λd=>Dz (y++m++e++d) p
def DF(c:UInt8):Bool:=(decide ((c.toNat:Int)>=65)&&decide ((c.toNat:Int)<=90))||(decide ((c.toNat:Int)>=97)&&decide ((c.toNat:Int)<=122))
structure Ll where
 L:BR
 y:Nat
 m:Nat
 d:Nat
 wd:Nat
def F0(x:Ll)(f:Aa):Aa×Int:=
 if f==[121] then(Lib.decDigits x.y,0) else if f==[77] then(Lib.decDigits x.m,0) else if f==[77,77] then(Il x.m,0)
 else if f==[77,77,77] then(if(x.L.months.length:Int) !=12 then([],18) else(x.L.months.getD (x.m-1) [],0))
 else if f==[69] then(if(x.L.days.length:Int) !=7 then([],18) else(x.L.days.getD x.wd [],0))
 else if f==[100] then(Lib.decDigits x.d,0) else(Il x.d,0)
def BS(x:Ll):Nat->Aa->Aa->Aa×Int
 | 0,_,out=>(out,0)
 | n+1,p,out=>if p==[] then(out,0)
  else if(p.takeWhile DF).length==0 then BS x n (p.drop 1) (out++p.take 1)
  else if(F0 x (p.take (p.takeWhile DF).length)).2==0 then BS x n (p.drop (p.takeWhile DF).length) (out++(F0 x (p.take (p.takeWhile DF).length)).1)
  else([],(F0 x (p.take (p.takeWhile DF).length)).2)
def Ic(x:Ll)(p:Aa):Aa×Int:=BS x (p.length+1) p []
def Kk(L:BR)(d:Int):Ll:=⟨L,(G8 d).1.toNat,(Fy d).1,((Fy d).2+1).toNat,((d+25567).tmod 7).toNat⟩
def Ex(L:BR)(a:Aa)(d:Int):Aa×Int:=
 if DD d then
  if(Ee L.dates a).2==8 then([],18) else if(Ee L.dates a).2==0 then
   match L.dates[(Ee L.dates a).1.toNat]? with
   | some p=>if ZM p.pat then Ic (Kk L d) p.pat else([],4)
   | none=>([],4)
  else([],(Ee L.dates a).2)
 else([],2)
def EB(p a b:Aa):Aa:=
 if(Lib.cut (Lib.cut p (AW 0)).1 (AW 1)).2.2 then(Lib.cut (Lib.cut p (AW 0)).1 (AW 1)).1++b++(Lib.cut (Lib.cut p (AW 0)).1 (AW 1)).2.1++a++(Lib.cut p (AW 0)).2.1
 else(Lib.cut p (AW 0)).1++a++(Lib.cut (Lib.cut p (AW 0)).2.1 (AW 1)).1++b++(Lib.cut (Lib.cut p (AW 0)).2.1 (AW 1)).2.1
def GW(s:Aa):List CJ->Option CJ
 | []=>none
 | x::l=>if x.style==s then some x else GW s l
def I9(p:CJ):List Aa->Aa->Aa
 | [],rest=>rest
 | s::r,rest=>if(rest.length:Int)>20000 then rest else I9 p r (EB (if r.isEmpty then p.start else p.mid) s rest)
def N4(p:CJ)(l:List Aa):Aa:=match l with
 | []=>[]
 | [a]=>a
 | [a,b]=>EB p.two a b
 | l=>I9 p (l.take (l.length-2)).reverse (EB p.fin (l.getD (l.length-2) []) (l.getD (l.length-1) []))
def uS(p:CJ):Bool:=[p.two,p.start,p.mid,p.fin].all λs=>Pj s 2
def Fb(L:BR)(st:Aa)(l:List Aa):Aa×Int:=match GW st L.lists with
 | none=>([],18)
 | some p=>if uS p then(if(l.length:Int)>1000 then([],6) else if((N4 p l).length:Int)>20000 then([],6) else(N4 p l,0)) else([],4)
def K9(u c:Aa):List D6->Option Aa
 | []=>none
 | x::l=>if x.unit==u&&x.cls==c then some x.pat else K9 u c l
def Jt(L:BR)(u c:Aa):Option Aa:=match K9 u c L.units with
 | some p=>some p
 | none=>K9 u [111,116,104,101,114] L.units
end Go.Ir

namespace Go.Ir
open Go.Proofs
variable{P:Program}{W0:World}{nt n:Nat}{Q:Exit→St→Prop}{env:A9}{σ:Aj}
def d8:IC:=sQ (.block 1 (oP [m1 11 3,m1 12 0,m1 13 4,iA 14 12 13 9 1,l1 15 14,nS 16 15,bZ 17 .add 16 30,bT 18 .add 11 17,m1 3 18] [0,3,4])) (oP [m1 9 4,bZ 10 .add 9 1,m1 4 10] [0,3,4])
def Adl:IC:=sQ (oS [mZ 4 0] [0,3,4] (.block 0 (.loop (sQ (oS [m1 5 4,m1 6 0,nL 7 6,bT 8 .lss 5 7] [0,3,4,8] (cD 8 .skip (.exit 0))) d8)))) (oR [m1 19 3,m1 2 19] [2])
def Ad5:IC:=oS [mZ 2 0] [0] (oS [mZ 3 0] [0,3] Adl)
@[push_cast]def AuQ:List R:=[.t 2]
@[push_cast]def AxW:=Aq d8.eq_1<|Aq Adl.eq_1<|AL Ad5.eq_1
theorem Asx:Av Tryz.prog 85 20 Ad5 AuQ=true:=by kernel_rfl
def wM:IC:=sQ (.block 3 (.ops [m1 69 3,fA 70 5 11,l1 71 70,m1 72 6,iA 73 71 72 178 5,fA 74 73 0,l1 75 74,fA 76 5 11,l1 77 76,m1 78 6,iA 79 77 78 178 5,fA 80 79 1,l1 81 80,fA 82 5 11,l1 83 82,m1 84 6,iA 85 83 84 178 5,fA 86 85 2,l1 87 86,fA 88 5 11,l1 89 88,m1 90 6,iA 91 89 90 178 5,fA 92 91 3,l1 93 92,fA 94 5 11,l1 95 94,m1 96 6,iA 97 95 96 178 5,fA 98 97 4,l1 99 98,o1 100 (.msl false 9 1 [.t 75,.t 81,.t 87,.t 93,.t 99]),q1 101 85 100,bT 102 .add 69 101,m1 3 102] [1,3,4,5,6] [[1,2],[2,4],[3,4],[4,5],[5,6],[7,8],[8,10],[9,10],[10,11],[11,12],[13,14],[14,16],[15,16],[16,17],[17,18],[19,20],[20,22],[21,22],[22,23],[23,24],[25,26],[26,28],[27,28],[28,29],[29,30],[6,31],[12,31],[18,31],[24,31],[30,31],[31,32],[0,33],[32,33],[0,34],[33,34]])) (oP [m1 67 6,bZ 68 .add 67 1,m1 6 68] [1,3,4,5,6])
def mR:IC:=sQ (.block 5 (.ops [m1 110 3,fA 111 5 12,l1 112 111,m1 113 7,iA 114 112 113 180 3,fA 115 114 0,l1 116 115,fA 117 5 12,l1 118 117,m1 119 7,iA 120 118 119 180 3,fA 121 120 1,l1 122 121,fA 123 5 12,l1 124 123,m1 125 7,iA 126 124 125 180 3,fA 127 126 2,l1 128 127,o1 129 (.msl false 9 1 [.t 116,.t 122,.t 128]),q1 130 85 129,bT 131 .add 110 130,m1 3 131] [1,3,4,5,7] [[1,2],[2,4],[3,4],[4,5],[5,6],[7,8],[8,10],[9,10],[10,11],[11,12],[13,14],[14,16],[15,16],[16,17],[17,18],[6,19],[12,19],[18,19],[19,20],[0,21],[20,21],[0,22],[21,22]])) (oP [m1 108 7,bZ 109 .add 108 1,m1 7 109] [1,3,4,5,7])
def vP:IC:=sQ (.block 7 (.ops [m1 139 3,fA 140 5 13,l1 141 140,m1 142 8,iA 143 141 142 182 2,fA 144 143 0,l1 145 144,fA 146 5 13,l1 147 146,m1 148 8,iA 149 147 148 182 2,fA 150 149 1,l1 151 150,o1 152 (.msl false 9 1 [.t 145,.t 151]),q1 153 85 152,bT 154 .add 139 153,m1 3 154] [1,3,4,5,8] [[1,2],[2,4],[3,4],[4,5],[5,6],[7,8],[8,10],[9,10],[10,11],[11,12],[6,13],[12,13],[13,14],[0,15],[14,15],[0,16],[15,16]])) (oP [m1 137 8,bZ 138 .add 137 1,m1 8 138] [1,3,4,5,8])
def tN:IC:=sQ (oS [mZ 7 0] [1,3,4,5,7] (.block 4 (.loop (sQ (oS [m1 103 7,fA 104 5 12,l1 105 104,nL 106 105,bT 107 .lss 103 106] [1,3,4,5,7,107] (cD 107 .skip (.exit 4))) mR)))) (oS [mZ 8 0] [1,3,4,5,8] (.block 6 (.loop (sQ (oS [m1 132 8,fA 133 5 13,l1 134 133,nL 135 134,bT 136 .lss 132 135] [1,3,4,5,8,136] (cD 136 .skip (.exit 6))) vP))))
def wR:IC:=sQ (.ops [m1 23 3,fA 24 5 0,l1 25 24,fA 26 5 1,l1 27 26,fA 28 5 2,l1 29 28,fA 30 5 5,fA 31 30 0,l1 32 31,fA 33 5 5,fA 34 33 1,l1 35 34,fA 36 5 5,fA 37 36 2,l1 38 37,fA 39 5 5,fA 40 39 3,l1 41 40,o1 42 (.msl false 9 1 [.t 25,.t 27,.t 29,.t 32,.t 35,.t 38,.t 41]),q1 43 85 42,fA 44 5 14,l1 45 44,q1 46 85 45,bT 47 .add 43 46,fA 48 5 15,l1 49 48,q1 50 85 49,bT 51 .add 47 50,fA 52 5 3,l1 53 52,nL 54 53,fA 55 5 4,l1 56 55,nL 57 56,bT 58 .add 54 57,o1 59 (.bin .mul (ci 100) (.t 58)),bT 60 .add 51 59,bT 61 .add 23 60,m1 3 61] [1,3,4,5] [[1,2],[3,4],[5,6],[7,8],[8,9],[10,11],[11,12],[13,14],[14,15],[16,17],[17,18],[2,19],[4,19],[6,19],[9,19],[12,19],[15,19],[18,19],[19,20],[21,22],[22,23],[20,24],[23,24],[25,26],[26,27],[24,28],[27,28],[29,30],[30,31],[32,33],[33,34],[31,35],[34,35],[35,36],[28,37],[36,37],[0,38],[37,38],[0,39],[38,39]]) (sQ (oS [mZ 6 0] [1,3,4,5,6] (.block 2 (.loop (sQ (oS [m1 62 6,fA 63 5 11,l1 64 63,nL 65 64,bT 66 .lss 62 65] [1,3,4,5,6,66] (cD 66 .skip (.exit 2))) wM)))) tN)
def jA:IC:=sQ (.block 1 (oS [fA 18 1 0,l1 19 18,m1 20 4,iA 21 19 20 30 16,lA 22 21 16,o1 5 (.alloc (.agg [.s [],.s [],.s [],.nil,.nil,.s [],.s [],.s [],.s [],.i .i64 0,.i .i64 0,.nil,.nil,.nil,.nil,.nil])),sT 5 22 16] [1,3,4,5] wR)) (oP [m1 16 4,bZ 17 .add 16 1,m1 4 17] [1,3,4])
def vH:IC:=sQ (.block 9 (.ops [m1 162 3,fA 163 1 1,l1 164 163,m1 165 9,iA 166 164 165 184 2,fA 167 166 0,l1 168 167,fA 169 1 1,l1 170 169,m1 171 9,iA 172 170 171 184 2,fA 173 172 1,l1 174 173,o1 175 (.msl false 9 1 [.t 168,.t 174]),q1 176 85 175,bT 177 .add 162 176,m1 3 177] [1,3,9] [[1,2],[2,4],[3,4],[4,5],[5,6],[7,8],[8,10],[9,10],[10,11],[11,12],[6,13],[12,13],[13,14],[0,15],[14,15],[0,16],[15,16]])) (oP [m1 160 9,bZ 161 .add 160 1,m1 9 161] [1,3,9])
def dA:IC:=sQ (.block 11 (.ops [m1 185 3,fA 186 1 2,l1 187 186,m1 188 10,iA 189 187 188 186 3,fA 190 189 0,l1 191 190,fA 192 1 2,l1 193 192,m1 194 10,iA 195 193 194 186 3,fA 196 195 1,l1 197 196,o1 198 (.msl false 9 1 [.t 191,.t 197]),q1 199 85 198,bT 200 .add 185 199,m1 3 200] [1,3,10] [[1,2],[2,4],[3,4],[4,5],[5,6],[7,8],[8,10],[9,10],[10,11],[11,12],[6,13],[12,13],[13,14],[0,15],[14,15],[0,16],[15,16]])) (oP [m1 183 10,bZ 184 .add 183 1,m1 10 184] [1,3,10])
def fY:IC:=sQ (oS [mZ 10 0] [1,3,10] (.block 10 (.loop (sQ (oS [m1 178 10,fA 179 1 2,l1 180 179,nL 181 180,bT 182 .lss 178 181] [1,3,10,182] (cD 182 .skip (.exit 10))) dA)))) (oR [m1 201 3,m1 2 201] [2])
def AeI:IC:=sQ (oS [mZ 4 0] [1,3,4] (.block 0 (.loop (sQ (oS [m1 11 4,fA 12 1 0,l1 13 12,nL 14 13,bT 15 .lss 11 14] [1,3,4,15] (cD 15 .skip (.exit 0))) jA)))) (sQ (oS [mZ 9 0] [1,3,9] (.block 8 (.loop (sQ (oS [m1 155 9,fA 156 1 1,l1 157 156,nL 158 157,bT 159 .lss 155 158] [1,3,9,159] (cD 159 .skip (.exit 8))) vH)))) fY)
def AdN:IC:=oS [bX 1 0,mZ 2 0] [1] (oS [mZ 3 0] [1,3] AeI)
@[push_cast]def Avq:List R:=[.t 2]
@[push_cast]def AyQ:=Aq wM.eq_1<|Aq mR.eq_1<|Aq vP.eq_1<|Aq tN.eq_1<|Aq wR.eq_1<|Aq jA.eq_1<|Aq vH.eq_1<|Aq dA.eq_1<|Aq fY.eq_1<|Aq AeI.eq_1<|AL AdN.eq_1
theorem Aoj:Av Tryz.prog 54 202 AdN Avq=true:=by kernel_rfl
def gX:IC:=sQ (.block 3 (sQ (.ops [o1 70 (.msl true 139 2 []),fA 71 4 3,l1 72 71,o1 73 (.app (.t 70) (.t 72) 139 2),fA 74 4 4,⟨some 75,.load (.t 74) 1 false,none,[.t 70]⟩,o1 76 (.app (.t 73) (.t 75) 139 2),m1 77 5,iA 78 76 77 139 2,lA 79 78 2,o1 6 (.alloc (.agg [.s [],.nil])),sT 6 79 2] [1,3,4,5,6] [[1,2],[0,3],[2,3],[4,5],[2,3,6],[3,6],[5,6],[3,6,8],[6,8],[7,8],[3,6,8,9],[6,8,9],[8,9],[2,11],[3,11],[5,11],[6,11],[8,11],[9,11],[10,11]]) (oS [fA 80 6 1,l1 81 80,q1 82 53 81,nT 83 82] [1,3,4,5,83] (cD 83 (oR [mC 2 (.b false)] [2]) .skip)))) (oP [m1 68 5,bZ 69 .add 68 1,m1 5 69] [1,3,4,5])
def tJ:IC:=sQ (oS [m1 59 5,fA 60 4 3,l1 61 60,nL 62 61,fA 63 4 4,l1 64 63,nL 65 64,bT 66 .add 62 65,bT 67 .lss 59 66] [1,3,4,5,67] (cD 67 .skip (.exit 2))) gX
def m8:IC:=sQ (oS [fA 19 4 3,l1 20 19,nL 21 20,bZ 22 .gtr 21 12,m1 23 22,Du 24 23 4 4,CM 25 23 24,gF 26 23 (.lenL (.t 25)),Dg 27 23 .gtr 26 12,pO 28 23 27,m1 29 28,Du 30 29 4 11,CM 31 29 30,gF 32 29 (.lenL (.t 31)),Dg 33 29 .gtr 32 12,pO 34 29 33,m1 35 34,Du 36 35 4 12,CM 37 35 36,gF 38 35 (.lenL (.t 37)),Dg 39 35 .gtr 38 110,pO 40 35 39,m1 41 40,Du 42 41 4 13,CM 43 41 42,gF 44 41 (.lenL (.t 43)),Dg 45 41 .gtr 44 40,pO 46 41 45,m1 47 46,Du 48 47 4 14,CM 49 47 48,gF 50 47 (.lenL (.t 49)),Dg 51 47 .gtr 50 20,pO 52 47 51,m1 53 52,Du 54 53 4 15,CM 55 53 54,gF 56 53 (.lenL (.t 55)),Dg 57 53 .gtr 56 20,pO 58 53 57] [1,3,4,58] (cD 58 (oR [mC 2 (.b false)] [2]) .skip)) (oS [mZ 5 0] [1,3,4,5] (.block 2 (.loop tJ)))
def sI:IC:=sQ (.block 1 (oS [fA 14 1 0,l1 15 14,m1 16 3,iA 17 15 16 30 16,lA 18 17 16,o1 4 (.alloc (.agg [.s [],.s [],.s [],.nil,.nil,.s [],.s [],.s [],.s [],.i .i64 0,.i .i64 0,.nil,.nil,.nil,.nil,.nil])),sT 4 18 16] [1,3,4] m8)) (oP [m1 12 3,bZ 13 .add 12 1,m1 3 13] [1,3])
def kA:IC:=oR [fA 84 1 0,l1 85 84,nL 86 85,bZ 87 .leq 86 62,m1 88 87,Dv 89 88 1 1,Db 90 88 89,gT 91 88 (.lenL (.t 90)),C8 92 88 .leq 91 205,pA 93 88 92,m1 94 93,Dv 95 94 1 2,Db 96 94 95,gT 97 94 (.lenL (.t 96)),C8 98 94 .leq 97 205,pA 99 94 98,m1 100 99,gT 101 100 (.load (.t 1) 3 true),gT 102 100 (.call 54 [.t 101]),C8 103 100 .leq 102 40000,pA 104 100 103,m1 2 104] [2]
def Aev:IC:=oS [bX 1 0,mC 2 (.b false)] [1] (sQ (oS [mZ 3 0] [1,3] (.block 0 (.loop (sQ (oS [m1 7 3,fA 8 1 0,l1 9 8,nL 10 9,bT 11 .lss 7 10] [1,3,11] (cD 11 .skip (.exit 0))) sI)))) kA)
@[push_cast]def AtS:List R:=[.t 2]
@[push_cast]def Ayo:=Aq gX.eq_1<|Aq tJ.eq_1<|Aq m8.eq_1<|Aq sI.eq_1<|Aq kA.eq_1<|AL Aev.eq_1
theorem Ar7:Av Tryz.prog 32 105 Aev AtS=true:=by kernel_rfl
def iI:IC:=oS [m1 8 0,m1 9 0,nC 10 9,fA 11 10 1,l1 12 11,m1 13 1,o1 14 (.apps (.t 12) (.t 13) 5),nC 15 8,fA 16 15 1,sT 16 14 1] [1] (oR [m1 17 1,nS 18 17,m1 4 18,mC 5 .ni] [4,5])
def gZ:IC:=oS [mZ 4 0,mC 5 .ni] [0,1] (oS [m1 6 0,o1 7 (.calls 180 [.t 6])] [0,1] iI)
@[push_cast]def AqP:List R:=[.t 4,.t 5]
@[push_cast]def AvU:=Aq iI.eq_1<|AL gZ.eq_1
theorem qP:Av Tryz.prog 124 19 gZ AqP=true:=by kernel_rfl
def jH:IC:=oS [mZ 2 0] [0] (oR [m1 3 0,nC 4 3,fA 5 4 1,l1 6 5,nL 7 6,m1 2 7] [2])
@[push_cast]def An5:List R:=[.t 2]
@[push_cast]def Awl:=AL jH.eq_1
theorem Alw:Av Tryz.prog 125 8 jH An5=true:=by kernel_rfl
end Go.Ir
section
namespace Go.Ir
structure E7 where
 kind:Int
 name:Aa
 keys:List Aa
def Qq(k:Int)(n:Aa)(s:E7):Bool:=s.kind==k&&s.name==n
def HA(l:List E7)(k:Int)(n:Aa):Int:=B7 (Qq k n) l
def Gd(key:Aa)(s:E7):E7:=if s.keys.contains key then s else{ s with keys:=s.keys++[key] }
def Anc(l:List E7)(k:Int)(n:Aa):Nat:=if HA l k n<0 then l.length else(HA l k n).toNat
def Um(l:List E7)(k:Int)(n:Aa):List E7:=if HA l k n<0 then l++[⟨k,n,[]⟩] else l
mutual
def Aw.coll:Aw->List E7->List E7
 | ⟨k,_,a,_,cs,ps⟩,l=>
  if Dc k then wE cs (Anc (Kc ps l) k a) (Um (Kc ps l) k a) else Kc ps l
def Kc:List Aw->List E7->List E7
 | [],l=>l
 | p::ps,l=>Kc ps (p.coll l)
def wE:List (Aa×List Aw)->Nat->List E7->List E7
 | [],_,l=>l
 | (key,ps)::cs,j,l=>wE cs j (Kc ps (l.modify j (Gd key)))
end
def D8(l b:List E7):Prop:=l.length<=b.length/\∀(i:Nat) (s a:E7),l[i]?=some s->b[i]?=some a->s.kind=a.kind/\s.name=a.name
theorem D8.refl(l:List E7):D8 l l:=⟨AzR _,λi s b h a=>by grind⟩
theorem D8.trans{a b c:List E7}(h:D8 a b)(k:D8 b c):D8 a c:=by refine⟨Am5 h.1 k.1,λi s m g e=>?_⟩;have j:i<b.length:=Apd (Af8.1 g).1 h.1;have f:b[i]?=some b[i]:=Afb j;have o:=h.2 i s _ g f;have p:=k.2 i _ m f e;grind
theorem D8.app(l m:List E7):D8 l (l++m):=by refine⟨by simp,λi s b h a=>?_⟩;grind
theorem Qe(key:Aa)(s:E7):(Gd key s).kind=s.kind/\(Gd key s).name=s.name:=by unfold Gd;split<;>exact⟨rfl,rfl⟩
theorem D8.mod(l:List E7)(j:Nat)(key:Aa):D8 l (l.modify j (Gd key)):=by
 refine⟨by simp,λi s e h a=>?_⟩;rw[AyM,h] at a;by_cases c:j=i
 .have b:Gd key s=e:=by simpa[c] using a
  rw[<-b];have:=Qe key s;grind
 grind
theorem aS{l c:List E7}(h:D8 l c)(k:Int)(n:Aa)(f:¬HA l k n<0):HA c k n=HA l k n:=by
 induction l generalizing c with
 | nil=>exact absurd (by simp[HA,B7]) f
 | cons s l q=>
  cases c with
  | nil=>have:=h.1;simp at this
  | cons g c=>
   have e:=h.2 0 s g rfl rfl;have p:D8 l c:=⟨by have:=h.1;simpa using this,λi a b j m=>h.2 (i+1) a b (by simpa using j) (by simpa using m)⟩
   have o:Qq k n g=Qq k n s:=by unfold Qq;rw[e.1,e.2]
   unfold HA at *;simp only[B7,o] at f⊢;grind
end Go.Ir
end
section
namespace Go.Ir
def Av8(k:Aa)(l:List Aa):List Aa:=if l.contains k then l else l++[k]
section
variable{P:Program}{W0:World}{ep d:Nat}{live:List Nat}{Q:Exit→St→Prop}{l:List I}{env:A9}{σ:Aj}
end
end Go.Ir
end
namespace Go.Ir
open Go.Proofs
variable{P:Program}{W0:World}{nt n:Nat}{Q:Exit→St→Prop}{env:A9}{σ:Aj}
end Go.Ir

namespace Go.Ir
open Go.Proofs
theorem Oh{σ:Aj}{i:Id}{e:A5}(h:lk σ i=some e):(i,e)∈σ:=by
 induction σ with
 | nil=>cases h
 | cons p σ a=>obtain⟨k,x⟩:=p;simp only[lk] at h;grind
theorem ZN{σ:Aj}{i:Id}{e:A5}(a:(σ.map (·.1)).Nodup)(h:(i,e)∈σ):lk σ i=some e:=by
 induction σ with
 | nil=>cases h
 | cons p σ b=>obtain⟨k,x⟩:=p;rw[AlG,Avo] at a;simp only[lk];grind
theorem Uh{σ:Aj}{i:Id}(h:∀p∈σ,p.1≠i):lk σ i=none:=by
 cases a:lk σ i with
 | none=>rfl
 | some e=>exact absurd rfl (h _ (Oh a))
theorem AB{σ τ:Aj}{i:Id}{e:A5}(h:lk σ i=some e):lk (σ++τ) i=some e:=by
 induction σ with
 | nil=>cases h
 | cons p σ a=>obtain⟨k,x⟩:=p;rw[Auh];simp only[lk] at h⊢;grind
theorem IL{σi σo pre post:Aj}(f:∀p∈pre,∀q∈σi,p.1≠q.1)(g:∀p∈post,∀q∈σi,p.1≠q.1):over σi σo (pre++σi++post)=σo++(pre++post):=by
 have keep:∀τ:Aj,(∀p∈τ,∀q∈σi,p.1≠q.1)->List.filter (λp:Id×A5=>(lk σi p.1).isNone) τ=τ:=by intro τ h;rw[AzF];intro p hp;rw[Uh λq i=>AfT (h p hp q i)];rfl
 have a:List.filter (λp:Id×A5=>(lk σi p.1).isNone) σi=[]:=by
  rw[AyE];intro p hp c;cases b:lk σi p.1 with
  | none=>
   clear keep
   revert hp b
   generalize σi=τ;intro hp b
   induction τ with
   | nil=>cases hp
   | cons q τ j=>obtain⟨k,x⟩:=q;simp only[lk] at b;grind
  | some e=>rw[b] at c;cases c
 unfold over;rw[Azz,Azz,keep pre f,a,keep post g,Arm]
theorem Ak.sub{W0:World}{nt n n':Nat}{env:A9}{σ σ':Aj}(a:(σ.map (·.1)).Nodup)(h:∀p∈σ',p∈σ)(c:n<=n'):Ak W0 nt ⟨env,σ,n⟩ ⟨env,σ',n'⟩:=
 Ak.drop (λi e b=>ZN a (h _ (Oh b))) c
theorem Ak.pre{W0:World}{nt n n':Nat}{env:A9}{σ τ:Aj}(b:n<=n'):Ak W0 nt ⟨env,σ++τ,n⟩ ⟨env,σ,n'⟩:=
 Ak.drop (λi e a=>AB a) b
abbrev OS:=E7×Option Id
def sv(o:Option Id):V:=match o with
 | none=>.nil
 | some id=>.arr id
def osV(x:OS):V:=.agg [.i .i64 x.1.kind,.s x.1.name,sv x.2]
def osE(x:OS):Aj:=match x.2 with
 | none=>[]
 | some id=>[(id,.arr 9 1 (x.1.keys.map V.s))]
def CQ(L:List OS):Aj:=L.flatMap osE
def slE(e:Nat)(a:Option Id)(L:List OS):Aj:=match a with
 | none=>[]
 | some id=>[(id,.arr e 3 (L.map osV))]
def bI(e:Nat)(a:Option Id)(L:List OS):Aj:=slE e a L++CQ L
theorem Ly(A B:List OS):CQ (A++B)=CQ A++CQ B:=by simp[CQ]
theorem NQ(x:OS)(B:List OS):CQ (x::B)=osE x++CQ B:=by simp[CQ]
structure Aw3 (e:Nat) (hd:Aj) (lo:Option Id) (L:List OS) (n:Nat):Prop where
 nd:((hd++bI e lo L).map (·.1)).Nodup
 lt:∀p∈hd++bI e lo L,p.1.1<n
 ne:lo=none->L=[]
 kn:∀x∈L,x.2=none->x.1.keys=[]
end Go.Ir

namespace Go.Ir
open Go.Proofs
variable(W0:World)
theorem AjY{id:Id}{a j:Nat}(h:id.1<a):((a,j)=id)=False:=by grind
end Go.Ir

namespace Go.Ir
open Go.Proofs
structure M6 (T:Nat) (lo:Option Id) (L:List OS) (n:Nat):Prop where
 nd:((bI T lo L).map (·.1)).Nodup
 lt:∀p∈bI T lo L,p.1.1<n
 ne:lo=none->L=[]
 kn:∀x∈L,x.2=none->x.1.keys=[]
theorem M6.more{T:Nat}{a:Option Id}{L:List OS}{n n':Nat}(h:M6 T a L n)(b:n<=n'):M6 T a L n':=⟨h.nd,λp hp=>Apd (h.lt p hp) b,h.ne,h.kn⟩
theorem E4{T:Nat}{id:Id}{L:List OS}:bI T (some id) L=(id,.arr T 3 (L.map osV))::CQ L:=rfl
theorem PD{a:Id×A5}{σ:Aj}(h:(σ.map (·.1)).Nodup)(b:∀p∈σ,p.1≠a.1):((a::σ).map (·.1)).Nodup:=by grind
theorem Akf{a:Id×A5}{σ:Aj}(h:((a::σ).map (·.1)).Nodup):(σ.map (·.1)).Nodup/\∀p∈σ,p.1≠a.1:=by grind
theorem Ak2{σ τ:Aj}(h:(σ.map (·.1)).Nodup)(k:(τ.map (·.1)).Nodup)(a:∀p∈σ,∀q∈τ,p.1≠q.1):((σ++τ).map (·.1)).Nodup:=by grind
theorem SR{σ τ:Aj}(h:((σ++τ).map (·.1)).Nodup):(σ.map (·.1)).Nodup/\(τ.map (·.1)).Nodup/\∀p∈σ,∀q∈τ,p.1≠q.1:=by rw[Azd,AzN] at h;exact⟨h.1,h.2.1,λp hp q a=>h.2.2 _ (AmB.2 ⟨p,hp,rfl⟩) _ (AmB.2 ⟨q,a,rfl⟩)⟩
theorem qQ{σ τ:Aj}(h:(σ.map (·.1)).Nodup)(a:List.Sublist τ σ):(τ.map (·.1)).Nodup:=h.sublist (a.map _)
theorem M6.arr{T:Nat}{b:Id}{L:List OS}{n:Nat}(h:M6 T (some b) L n):b.1<n/\(∀p∈CQ L,p.1≠b)/\(∀p∈CQ L,p.1.1<n)/\((CQ L).map (·.1)).Nodup:=by have c:((CQ L).map (·.1)).Nodup/\∀p∈CQ L,p.1≠b:=Akf (a:=(b,.arr T 3 (L.map osV))) h.nd;exact⟨h.lt (b,.arr T 3 (L.map osV)) (by simp[E4]),c.2,λp hp=>h.lt p (by simp[E4,hp]),c.1⟩
theorem M6.add{T:Nat}{g:Option Id}{L:List OS}{n n':Nat}{id:Id}(h:M6 T g L n)(o:n<=id.1)(c:id.1<n')(k:Int)(i:Aa):M6 T (some id) (L++[(⟨k,i,[]⟩,none)]) n':=by
 have f:CQ (L++[(⟨k,i,[]⟩,none)])=CQ L:=by rw[Ly];simp[CQ,osE]
 have a:∀p∈CQ L,p∈bI T g L:=λp hp=>AyK _ hp;have e:((CQ L).map (·.1)).Nodup:=qQ h.nd (Azt _ _);refine⟨?_,?_,(by simp),?_⟩
 .rw[E4,f];refine PD e λp hp m=>?_;have:=h.lt p (a p hp);grind
 .rw[E4,f];intro p hp;rcases Am8.1 hp with rfl|hp
  .exact c
  .have:=h.lt p (a p hp);omega
 .intro x b j;rcases Am2.1 b with b|b
  .exact h.kn x b j
  .simp at b;rw[b]
theorem M6.key{T:Nat}{b:Id}{A B:List OS}{x:OS}{n n':Nat}{id:Id}(h:M6 T (some b) (A++x::B) n)(w:n<=id.1)(o:id.1<n')(s:E7):M6 T (some b) (A++(s,some id)::B) n':=by
 obtain⟨u,j,k,g⟩:=h.arr;have m:CQ (A++x::B)=CQ A++(osE x++CQ B):=by rw[Ly,NQ]
 have c:CQ (A++(s,some id)::B)=CQ A++((id,.arr 9 1 (s.keys.map V.s))::CQ B):=by rw[Ly,NQ];rfl
 rw[m] at j k g;have i:∀p∈CQ A++CQ B,p.1≠b/\p.1.1<n:=by
  intro p hp;have:p∈CQ A++(osE x++CQ B):=by grind
  grind
 have f:((CQ A++CQ B).map (·.1)).Nodup:=qQ g ((List.Sublist.refl _).append (Azt _ _));obtain⟨r,t,C⟩:=SR f;refine⟨?_,?_,(by simp),?_⟩
 .rw[E4,c];refine PD (Ak2 r (PD t λp hp v=>?_) λp hp q z=>?_) λp hp=>?_
  .grind
  .grind
  grind
 .rw[E4,c];intro p hp;rcases Am8.1 hp with rfl|hp
  .simp only;omega
  grind
 .intro y a e;rcases Am2.1 a with a|a
  .exact h.kn y (Awj _ a) e
  .rcases Am8.1 a with rfl|a
   .cases e
   .exact h.kn y (AyK _ (AzQ _ a)) e
theorem EF{σi σo pre:Aj}(a:∀p∈pre,∀q∈σi,p.1≠q.1):over σi σo (pre++σi)=σo++pre:=by have:=IL (σi:=σi) (σo:=σo) (pre:=pre) (post:=[]) a (by simp);simpa using this
end Go.Ir
namespace Go.Proofs
open Go.Shelf
def Tryz.lays103_ren:Go.Shelf.Ren:=⟨fun|103=>135|210=>188|206=>243|n=>n,fun|9=>9|4=>4|24=>250|3=>3|n=>n,fun|n=>n⟩
theorem Tryz.lays103:Go.Proofs.Lays.n103 Tryz.prog Tryz.lays103_ren:=by constructor;all_goals intros;kernel_rfl
def Tryz.lays219_ren:Go.Shelf.Ren:=⟨fun|219=>244|217=>288|225=>289|224=>290|267=>291|266=>319|314=>320|n=>n,fun|9=>9|3=>3|4=>4|5=>5|46=>237|146=>358|51=>280|n=>n,fun|1=>0|n=>n⟩
theorem Tryz.lays219:Go.Proofs.Lays.n219 Tryz.prog Tryz.lays219_ren:=by constructor;all_goals intros;kernel_rfl
def Tryz.lays160_ren:Go.Shelf.Ren:=⟨fun|160=>190|232=>246|231=>245|227=>247|234=>249|233=>248|236=>251|235=>250|228=>292|271=>294|151=>293|197=>272|120=>322|152=>321|260=>309|137=>252|119=>337|224=>290|225=>289|217=>288|266=>319|n=>n,fun|9=>9|4=>4|3=>3|5=>5|117=>323|116=>322|0=>0|124=>326|21=>21|105=>344|46=>237|119=>380|139=>383|138=>382|n=>n,fun|3=>1|4=>2|n=>n⟩
theorem Tryz.lays160:Go.Proofs.Lays.n160 Tryz.prog Tryz.lays160_ren:=by constructor;all_goals intros;kernel_rfl
def Tryz.lays162_ren:Go.Shelf.Ren:=⟨fun|162=>339|232=>246|227=>247|234=>249|236=>251|228=>292|271=>294|151=>293|120=>322|197=>272|152=>321|260=>309|137=>252|119=>337|224=>290|225=>289|217=>288|266=>319|n=>n,fun|9=>9|4=>4|3=>3|5=>5|117=>323|116=>322|0=>0|124=>326|21=>21|105=>344|46=>237|119=>380|139=>383|138=>382|n=>n,fun|3=>1|4=>2|n=>n⟩
theorem Tryz.lays162:Go.Proofs.Lays.n162 Tryz.prog Tryz.lays162_ren:=by constructor;all_goals intros;kernel_rfl
def Tryz.lays172_ren:Go.Shelf.Ren:=⟨fun|172=>349|244=>353|245=>354|247=>355|279=>356|280=>357|281=>358|282=>359|287=>360|316=>361|171=>221|205=>362|321=>363|322=>364|243=>282|246=>315|283=>332|284=>333|285=>334|286=>335|129=>179|317=>343|318=>344|319=>345|320=>346|337=>351|338=>352|n=>n,fun|9=>9|3=>3|75=>239|76=>240|4=>4|5=>5|167=>403|37=>96|0=>0|85=>404|2=>2|168=>406|53=>282|175=>409|46=>237|210=>412|127=>158|145=>417|143=>415|21=>21|171=>384|173=>386|212=>397|51=>280|20=>20|213=>398|232=>401|233=>402|80=>123|n=>n,fun|15=>6|16=>7|17=>3|18=>4|19=>5|n=>n⟩
theorem Tryz.lays172:Go.Proofs.Lays.n172 Tryz.prog Tryz.lays172_ren:=by constructor;all_goals intros;kernel_rfl
def Tryz.lays171_ren:Go.Shelf.Ren:=⟨fun|171=>221|243=>282|246=>315|283=>332|284=>333|285=>334|286=>335|129=>179|317=>343|318=>344|319=>345|320=>346|337=>351|338=>352|n=>n,fun|3=>3|9=>9|2=>2|4=>4|171=>384|0=>0|53=>282|37=>96|5=>5|173=>386|212=>397|51=>280|20=>20|213=>398|46=>237|232=>401|233=>402|n=>n,fun|17=>3|18=>4|19=>5|n=>n⟩
theorem Tryz.lays171:Go.Proofs.Lays.n171 Tryz.prog Tryz.lays171_ren:=by constructor;all_goals intros;kernel_rfl
end Go.Proofs
section
namespace Go.Ir
open Go.Proofs Go.RowKit
theorem Hp.below{W0:World}{σ:Aj}{n:Nat}{μ:Id->Option Value}{H:Addr->Option Value}{w w':World}(hp:Hp W0 σ n μ H w)(a:Below w.heap.size w w'):Hp W0 σ n μ H w'/\Fr μ H σ w μ H σ w':=by
 have g:AR (λ_=>False) w w':=⟨a.os,a.tape,a.output,a.size,λk b _=>a.block k b⟩
 refine⟨⟨hp.base_turned g (λ_ h=>h.elim),hp.pins_turned g (λ_ h=>h.elim),λid e f=>?_,hp.unp,hp.sep,hp.bd⟩,⟨λ_ _ h=>h,λ_ _ h=>h,a.size,λc b _=>a.block c b,λ_ _ _=>rfl,λ_ _ h=>h⟩⟩;exact(hp.ents id e f).keep (λ_ _ h=>h) (λ_ _ h=>h) (λc b=>a.block c ((hp.ents id e f).block b).2)
theorem AQ{P:Program}{W0:World}{f:FuncId}{args:List V}{v:V}(g:callable P f=true)
  (h:∀w vals,Below W0.heap.size W0 w->(∃μ H,VRels μ H args vals)->Calls P f vals.toArray w λe w'=>∃val,e=.returned val/\(∀μ H,Ao μ H v val)/\Below w.heap.size w w'):Al P W0 f args [] v [] where
 callable:=g
 dom id h:=h
 run n w μ H vals hp hv:=by refine(h w vals hp.base ⟨μ,H,hv⟩).mono λe w' ⟨val,i,j,c⟩=>?_;obtain⟨a,b⟩:=hp.below c;exact⟨val,μ,H,n,i,j μ H,a,AzR _,b,λ_ _ h=>h⟩
theorem Below.drewN_{B:Nat}{a w:World}(h:Below B a w)(n:Nat):Below B a (w.drewN n):=⟨h.os,h.tape,h.output,h.size,h.block⟩
theorem VRels.one_s{μ:Id->Option Value}{H:Addr->Option Value}{l:Aa}{vals:List Value}(h:VRels μ H [.s l] vals):vals=[.string ⟨l.toArray⟩]/\l.length<=AJ:=by
 obtain⟨v,a,b⟩:=h.get (k:=0) rfl;have:=h.len
 match vals,this,a with
 | [x],_,a=>
  simp at a;subst a;cases b with
  | s l c=>exact⟨rfl,c⟩
theorem VRels.two{μ:Id->Option Value}{H:Addr->Option Value}{a b:V}{vals:List Value}(h:VRels μ H [a,b] vals):∃x y,vals=[x,y]/\Ao μ H a x/\Ao μ H b y:=by
 have:=h.len
 match vals,this with
 | [x,y],_=>exact⟨x,y,rfl,h.at_ 0 _ _ rfl rfl,h.at_ 1 _ _ rfl rfl⟩
variable(W0:World)
theorem B6{l:Aa}{μ:Id->Option Value}{H:Addr->Option Value}{x:Value}(h:Ao μ H (.s l) x):x=.string ⟨l.toArray⟩/\l.length<=AJ:=by
 cases h with
 | s l a=>exact⟨rfl,a⟩
theorem Ql{a b:V}{x y:Value}(f:∀μ H,Ao μ H a x)(g:∀μ H,Ao μ H b y):∀μ H,Ao μ H (.tup [a,b]) (.tuple #[x,y]):=
 λμ H=>Ao.tup [a,b] [x,y] rfl λk c v e h=>by
  match k with
  | 0=>grind
  | 1=>grind
  | k+2=>simp at e
theorem R9(s cs:Aa):(Lib.trimRightS s cs).length<=s.length:=by unfold Lib.trimRightS;rw[AzG];exact Am5 (AyF _).length_le (by simp)
theorem AbA(s cs:Aa):(Lib.trimS s cs).length<=s.length:=by unfold Lib.trimS Lib.trimLeftS;exact Am5 (AyF _).length_le (R9 s cs)
theorem Eb(s p:Aa):Al Tryz.prog W0 135 [.s s,.s p] [] (.tup [.s (Lib.trimPrefix s p),.b (Lib.hasPrefix s p)]) []:=by refine AQ (by kernel_rfl) λw vals i ⟨μ,H,c⟩=>?_;obtain⟨x,y,rfl,g,h⟩:=c.two;obtain⟨rfl,j⟩:=B6 g;obtain⟨rfl,_⟩:=B6 h;refine(Any.strings_CutPrefix Tryz.lays103 ⟨s.toArray⟩ ⟨p.toArray⟩ w).mono λe w' ⟨a,f⟩=>?_;subst f;refine⟨_,a,Ql (λ_ _=>.s _ ?_) (λ_ _=>.b _),Awt _ _⟩;unfold Lib.trimPrefix;grind
theorem Lr(s:Aa)(c:UInt8):Al Tryz.prog W0 244 [.s s,.s [c]] [] (.i .i64 (Lib.indexByte s c)) []:=by refine AQ (by kernel_rfl) λw vals j ⟨μ,H,b⟩=>?_;obtain⟨x,y,rfl,g,h⟩:=b.two;obtain⟨rfl,k⟩:=B6 g;obtain⟨rfl,_⟩:=B6 h;refine(Any.stringslite_Index_one Tryz.lays219 ⟨s.toArray⟩ c w).mono λe w' ⟨a,f⟩=>?_;subst f;exact⟨_,a,λ_ _=>.i _ _,Awt _ _⟩
theorem S4(s cs:Aa)(a:cs.length<4294967281)(f:∀b∈cs,b.toNat<128):Al Tryz.prog W0 190 [.s s,.s cs] [] (.s (Lib.trimS s cs)) []:=by refine AQ (by kernel_rfl) λw vals p ⟨μ,H,i⟩=>?_;obtain⟨x,y,rfl,m,o⟩:=i.two;obtain⟨rfl,c⟩:=B6 m;obtain⟨rfl,_⟩:=B6 o;refine(Any.strings_Trim_laid Tryz.lays160 (by kernel_rfl) ⟨s.toArray⟩ ⟨cs.toArray⟩ w (by show s.toArray.size<=_;unfold AJ at c;simp;omega) (by simpa[ByteArray.size] using a) (λj b h=>f b (AzT h))).mono λe w' ⟨g,k⟩=>?_;exact⟨_,g,λ_ _=>.s _ (Am5 (AbA s cs) c),k⟩
theorem AcO(s cs:Aa)(a:cs.length<4294967281)(f:∀b∈cs,b.toNat<128):Al Tryz.prog W0 339 [.s s,.s cs] [] (.s (Lib.trimRightS s cs)) []:=by refine AQ (by kernel_rfl) λw vals p ⟨μ,H,i⟩=>?_;obtain⟨x,y,rfl,m,o⟩:=i.two;obtain⟨rfl,c⟩:=B6 m;obtain⟨rfl,_⟩:=B6 o;refine(Any.strings_TrimRight_laid Tryz.lays162 (by kernel_rfl) ⟨s.toArray⟩ ⟨cs.toArray⟩ w (by show s.toArray.size<=_;unfold AJ at c;simp;omega) (by simpa[ByteArray.size] using a) (λj b h=>f b (AzT h))).mono λe w' ⟨g,k⟩=>?_;exact⟨_,g,λ_ _=>.s _ (Am5 (R9 s cs) c),k⟩
theorem Aj7(s:Aa)(n:Int)(c:s.length<=18)(b:Lib.atoi s=some n):Al Tryz.prog W0 349 [.s s] [] (.tup [.i .i64 n,.ni]) []:=by refine AQ (by kernel_rfl) λw vals h ⟨μ,H,f⟩=>?_;obtain⟨rfl,j⟩:=f.one_s;refine(Any.strconv_Atoi Tryz.lays172 ⟨s.toArray⟩ n (by simpa[ByteArray.size] using c) b w).mono λe w' ⟨a,t,g⟩=>?_;refine⟨_,a,Ql (λ_ _=>.i _ _) (λ_ _=>.ni),?_⟩;rw[g];exact Lib.bytesWorld_below _ _ _
theorem Akn(i:Nat)(f:i<100):Al Tryz.prog W0 221 [.i .i64 i] [] (.s (Lib.decDigits i)) []:=by
 refine AQ (by kernel_rfl) λw vals j ⟨μ,H,b⟩=>?_;have a:=b.len;obtain⟨x,rfl⟩:∃x,vals=[x]:=by
  match vals,a with
  | [x],_=>exact⟨x,rfl⟩
 have h:=b.at_ 0 _ _ rfl rfl;cases h;refine(Any.strconv_Itoa_small Tryz.lays171 i f w).mono λe w' ⟨c,g⟩=>?_;subst g;refine⟨_,c,λ_ _=>.s _ ?_,Awt _ _⟩;unfold AJ;unfold Lib.decDigits;split
 .simp
 .unfold Lib.decDigits;grind
end Go.Ir
end
namespace Go.Ir
open Go.Proofs
variable{P:Program}{W0:World}{nt n:Nat}{Q:Exit→St→Prop}{env:A9}{σ:Aj}
def pG:IC:=oS [mC 4 (.s []),mC 5 (.s []),mC 6 (.b false)] [0,1] (oR [m1 7 0,m1 8 1,q2 9 189 7 8,xT 10 9 0,xT 11 9 1,xT 12 9 2,m1 4 10,m1 5 11,m1 6 12] [4,5,6])
@[push_cast]def Aog:List R:=[.t 4,.t 5,.t 6]
@[push_cast]def Axl:=AL pG.eq_1
theorem Ajb:Av Tryz.prog 136 13 pG Aog=true:=by kernel_rfl
def wW:IC:=sQ (.ops [m1 13 0,m1 14 7,o1 15 (.slS (.t 13) none (some (.t 14))),m1 16 0,m1 17 7,m1 18 1,nS 19 18,bT 20 .add 17 19,o1 21 (.slS (.t 16) (some (.t 20)) none),m1 4 15,m1 5 21,mC 6 (.b true)] [4,5,6] [[0,2],[1,2],[5,6],[4,7],[6,7],[3,8],[7,8],[2,9],[8,10]]) .ret
def mJ:IC:=sQ (oS [m1 8 0,m1 9 1,q2 10 244 8 9,m1 7 10] [0,1,7] (oS [m1 11 7,bZ 12 .geq 11 0] [0,1,7,12] (cD 12 wW .skip))) (oR [m1 22 0,m1 4 22,mC 5 (.s []),mC 6 (.b false)] [4,5,6])
def rE:IC:=oS [mC 4 (.s []),mC 5 (.s []),mC 6 (.b false)] [0,1] mJ
@[push_cast]def AqO:List R:=[.t 4,.t 5,.t 6]
@[push_cast]def AwQ:=Aq wW.eq_1<|Aq mJ.eq_1<|AL rE.eq_1
theorem eR:Av Tryz.prog 189 23 rE AqO=true:=by kernel_rfl
def pH:IC:=oS [mC 2 (.b false)] [0] (oR [m1 3 0,o1 4 (.call 190 [.t 3,.c (.s [48,49,50,51,52,53,54,55,56,57])]),bC 5 .eql 4 (.s []),m1 2 5] [2])
@[push_cast]def ArS:List R:=[.t 2]
@[push_cast]def AwE:=AL pH.eq_1
theorem AiS:Av Tryz.prog 137 6 pH ArS=true:=by kernel_rfl
def pD:IC:=oS [mC 2 (.b false)] [0] (oR [m1 3 0,o1 4 (.call 190 [.t 3,.c (.s [48])]),bC 5 .eql 4 (.s []),m1 2 5] [2])
@[push_cast]def Anx:List R:=[.t 2]
@[push_cast]def Aw8:=AL pD.eq_1
theorem Alv:Av Tryz.prog 191 6 pD Anx=true:=by kernel_rfl
def lK:IC:=oS [bX 1 0,mC 2 (.b false)] [1] (oR [fA 3 1 1,l1 4 3,q1 5 191 4,m1 6 5,Dv 7 6 1 2,Db 8 6 7,gT 9 6 (.call 191 [.t 8]),pA 10 6 9,m1 2 10] [2])
@[push_cast]def Aq7:List R:=[.t 2]
@[push_cast]def Ax0:=AL lK.eq_1
theorem wI:Av Tryz.prog 138 11 lK Aq7=true:=by kernel_rfl
def d6:IC:=oS [m1 51 8,m1 52 51,By 53 52 7,gT 54 52 (.lenS (.t 53)),C8 55 52 .eql 54 0,pA 56 52 55,m1 57 56,Br 58 57 7,gF 59 57 (.lenS (.t 58)),Dg 60 57 .gtr 59 6,pO 61 57 60,m1 62 61,Br 63 62 7,gF 64 62 (.call 137 [.t 63]),gF 65 62 (.not (.t 64)),pO 66 62 65,m1 50 66] [2,5,9,50] (cD 50 (oR [lA 67 9 3,sT 2 67 3,mC 3 (.b false)] [2,3]) .skip)
def pP:IC:=sQ (.ops [lA 68 9 3,m1 69 5,nT 70 69,m1 71 70,gF 72 71 (.load (.t 9) 3 true),gF 73 71 (.call 138 [.t 72]),gF 74 71 (.not (.t 73)),pO 75 71 74,sT 2 68 3,m1 3 75] [2,3] [[1,2],[2,3],[3,4],[3,5],[4,5],[3,6],[5,6],[3,7],[6,7],[0,8],[4,5,8],[7,9]]) .ret
def Adu:IC:=sQ (.block 0 (oS [m1 26 6,nS 27 26,bZ 28 .lss 27 1,m1 29 28,Br 30 29 6,gF 31 29 (.lenS (.t 30)),Dg 32 29 .gtr 31 15,pO 33 29 32,m1 34 33,Br 35 34 6,gF 36 34 (.call 137 [.t 35]),gF 37 34 (.not (.t 36)),pO 38 34 37,m1 39 38,Br 40 39 6,gF 41 39 (.lenS (.t 40)),Dg 42 39 .gtr 41 1,Br 43 39 42,By 44 43 6,gT 45 43 (.idx (.t 44) (ci 0)),gT 46 43 (.bin .eql (.t 45) (.c (.i .u8 48))),gF 47 39 (.pick (.t 43) (.t 46) (.c (.b false))),pO 48 39 47,m1 25 48] [2,5,7,8,9,25] (cD 25 (oR [lA 49 9 3,sT 2 49 3,mC 3 (.b false)] [2,3]) d6))) pP
def Agh:IC:=oS [m1 21 5,m1 22 6,m1 23 7,o1 24 (.build [.b false,.s [],.s []] [(0,1,.t 21),(1,1,.t 22),(2,1,.t 23)]),o1 9 (.alloc (.agg [.b false,.s [],.s []])),sT 9 24 3] [2,5,6,7,8,9] Adu
def Agd:IC:=oS [m1 11 0,o1 12 (.call 135 [.t 11,.c (.s [45])]),m1 10 12,xT 13 10 0,xT 14 10 1,m1 4 13,m1 5 14] [2,4,5] (oS [m1 16 4,o1 17 (.call 136 [.t 16,.c (.s [46])]),m1 15 17,xT 18 15 0,xT 19 15 1,xT 20 15 2,m1 6 18,m1 7 19,m1 8 20] [2,5,6,7,8] Agh)
def AfH:IC:=oS [o1 2 (.alloc (.agg [.b false,.s [],.s []])),mC 3 (.b false)] [0,2] Agd
@[push_cast]def Auw:List R:=[.c 2 3 true,.t 3]
@[push_cast]def Ayi:=Aq d6.eq_1<|Aq pP.eq_1<|Aq Adu.eq_1<|Aq Agh.eq_1<|Aq Agd.eq_1<|AL AfH.eq_1
theorem AdQ:Av Tryz.prog 98 76 AfH Auw=true:=by kernel_rfl
def AdL:IC:=oS [mC 2 (.b false)] [0] (oS [m1 6 0,q1 7 98 6,m1 5 7,xT 8 5 0,xT 9 5 1,o1 3 (.alloc (.agg [.b false,.s [],.s []])),sT 3 8 3,m1 4 9] [4] (oR [m1 10 4,m1 2 10] [2]))
@[push_cast]def AtY:List R:=[.t 2]
@[push_cast]def Ay1:=AL AdL.eq_1
theorem Ann:Av Tryz.prog 67 11 AdL AtY=true:=by kernel_rfl
def jW:IC:=oS [mZ 2 0] [0] (oS [m1 6 0,o1 7 (.bin .add (.c (.s [48])) (.t 6)),q1 8 349 7,m1 5 8,xT 9 5 0,xT 10 5 1,m1 3 9,m1 4 10] [3] (oR [m1 11 3,m1 2 11] [2]))
@[push_cast]def Asc:List R:=[.t 2]
@[push_cast]def Axe:=AL jW.eq_1
theorem AlH:Av Tryz.prog 340 12 jW Asc=true:=by kernel_rfl
def XL:IC:=sQ (oS [m1 22 8,bC 23 .neq 22 (.s [])] [6,23] (cD 23 (oR [mZ 4 0,mZ 5 8] [4,5]) .skip)) (oR [fA 24 6 1,l1 25 24,q1 26 340 25,m1 4 26,mZ 5 0] [4,5])
def Vc:IC:=cD 41 (oR [fA 43 6 2,l1 44 43,q1 45 340 44,m1 4 45,mZ 5 0] [4,5]) (oS [bZ 47 .eql 19 6,m1 46 47] [8,46] (cD 46 (oR [m1 48 8,q1 49 340 48,m1 4 49,mZ 5 0] [4,5]) .skip))
def Wb:IC:=cD 32 (oR [fA 34 6 2,l1 35 34,nS 36 35,m1 4 36,mZ 5 0] [4,5]) (oS [bZ 38 .eql 19 4,m1 37 38] [6,8,19,37] (cD 37 (oR [m1 39 8,nS 40 39,m1 4 40,mZ 5 0] [4,5]) (oS [bZ 42 .eql 19 5,m1 41 42] [6,8,19,41] Vc)))
def VJ:IC:=cD 20 XL (oS [bZ 28 .eql 19 2,m1 27 28] [6,8,19,27] (cD 27 (oR [fA 29 6 1,l1 30 29,q1 31 340 30,m1 4 31,mZ 5 0] [4,5]) (oS [bZ 33 .eql 19 3,m1 32 33] [6,8,19,32] Wb)))
def Wo:IC:=oS [fA 16 6 2,l1 17 16,o1 18 (.call 339 [.t 17,.c (.s [48])]),m1 8 18] [1,6,8] (sQ (oS [m1 19 1] [6,8,19] (.block 0 (oS [bZ 21 .eql 19 1,m1 20 21] [6,8,19,20] VJ))) (oR [mZ 4 0,mZ 5 1] [4,5]))
def jR:IC:=oS [m1 10 0,q1 11 98 10,m1 9 11,xT 12 9 0,xT 13 9 1,o1 6 (.alloc (.agg [.b false,.s [],.s []])),sT 6 12 3,m1 7 13] [1,6,7] (sQ (oS [m1 14 7,nT 15 14] [1,6,15] (cD 15 (oR [mZ 4 0,mZ 5 1] [4,5]) .skip)) Wo)
def eK:IC:=oS [mZ 4 0,mZ 5 0] [0,1] jR
@[push_cast]def ApN:List R:=[.t 4,.t 5]
@[push_cast]def AvQ:=Aq XL.eq_1<|Aq Vc.eq_1<|Aq Wb.eq_1<|Aq VJ.eq_1<|Aq Wo.eq_1<|Aq jR.eq_1<|AL eK.eq_1
theorem sE:Av Tryz.prog 327 50 eK ApN=true:=by kernel_rfl
end Go.Ir

namespace Go.Ir
open Go.Proofs
variable(W0:World)
theorem Ajn(w r:Aa)(h:∀x∈w,(x !=46)=true)(f:∀x∈r.head?,(x !=46)=false)(e:w.length<=2^40):Al Tryz.prog W0 189 [.s (w++r),.s [46]] [] (.tup [.s w,.s r.tail,.b (!r.isEmpty)]) []:=by
 cases r with
 | nil=>
  refine Ae (vs:=[.s w,.s [],.b false]) eR (by simp) (by simp) λn0 a=>?_;clear a;simp only[push_cast];have _h:=trivial;repeat' (first|(first|((first|apply Ab|apply Ag|apply Ah)<;>intro _h)|refine Ac (Lr W0 _ _) ?_)<;>(simp only[push_cast,seval,uU h];try (have _g:=_h;simp at _g))|intro _)
  all_goals (first|(refine Af ?_;simp <;>(intros;omega);done)|(refine Ad ?_;simp[push_cast];done)|skip)
 | cons c t=>
  have:c=46:=by simp_all
  subst this;refine Ae (vs:=[.s w,.s t,.b true]) eR (by simp) (by simp) λn0 a=>?_;clear a;simp only[push_cast];have _h:=trivial;repeat' (first|(first|((first|apply Ab|apply Ag|apply Ah)<;>intro _h)|refine Ac (Lr W0 _ _) ?_)<;>(simp only[push_cast,seval,Ab3 h,Ai (46:UInt8) (dn:=w) (by omega)];try (have _g:=_h;simp at _g))|intro _)
  all_goals (first|(refine Af ?_;simp <;>(intros;omega);done)|(refine Ad ?_;simp[push_cast];done)|skip)
theorem AsA(w r:Aa)(h:∀x∈w,(x !=46)=true)(e:∀x∈r.head?,(x !=46)=false)(c:w.length<=2^40):Al Tryz.prog W0 136 [.s (w++r),.s [46]] [] (.tup [.s w,.s r.tail,.b (!r.isEmpty)]) []:=by
 refine Ae (vs:=[.s w,.s r.tail,.b (!r.isEmpty)]) Ajb (by simp) (by simp) λn0 a=>?_;clear a;simp only[push_cast,reduceEqDiff];have _h:=trivial;repeat' (first|(first|((first|apply Ab|apply Ag|apply Ah)<;>intro _h)|refine Ac (Ajn W0 w r h e c) ?_)<;>(simp only[push_cast,reduceEqDiff];try (have _g:=_h;simp at _g))|intro _)
 all_goals (first|(refine Af ?_;simp <;>(intros;omega);done)|(refine Ad ?_;simp[push_cast];done)|skip)
theorem Jf(s:Aa):Al Tryz.prog W0 137 [.s s] [] (.b (BZ s)) []:=by
 refine Ae (vs:=[.b (BZ s)]) AiS (by simp) (by simp) λn0 a=>?_;clear a;simp only[push_cast];have _h:=trivial;repeat' (first|(first|((first|apply Ab|apply Ag|apply Ah)<;>intro _h)|refine Ac (S4 W0 _ _ (by decide) (by decide)) ?_)<;>(simp only[push_cast,OW];try (have _g:=_h;simp at _g))|intro _)
 all_goals (first|(refine Af ?_;simp <;>(intros;omega);done)|(refine Ad ?_;simp[push_cast];done)|skip)
theorem gP(s:Aa):Al Tryz.prog W0 191 [.s s] [] (.b (Dw s)) []:=by
 refine Ae (vs:=[.b (Dw s)]) Alv (by simp) (by simp) λn0 a=>?_;clear a;simp only[push_cast];have _h:=trivial;repeat' (first|(first|((first|apply Ab|apply Ag|apply Ah)<;>intro _h)|refine Ac (S4 W0 _ _ (by decide) (by decide)) ?_)<;>(simp only[push_cast,TN];try (have _g:=_h;simp at _g))|intro _)
 all_goals (first|(refine Af ?_;simp <;>(intros;omega);done)|(refine Ad ?_;simp[push_cast];done)|skip)
def JC(s:Aa):V:=.agg [.b (IM s),.s (AN s),.s (Bo s)]
theorem XZ(s:Aa):Al Tryz.prog W0 138 [JC s] [] (.b (Dw (AN s)&&Dw (Bo s))) []:=by
 unfold JC;refine Ae (vs:=[.b (Dw (AN s)&&Dw (Bo s))]) wI (by simp) (by simp) λn0 a=>?_;clear a;simp only[push_cast,reduceEqDiff];have _h:=trivial;repeat' (first|(first|((first|apply Ab|apply Ag|apply Ah)<;>intro _h)|refine Ac (gP W0 _) ?_)<;>(simp only[push_cast,reduceEqDiff,_h];try (have _g:=_h;simp at _g))|intro _)
 all_goals (first|(refine Af ?_;simp <;>(intros;omega);done)|(refine Ad ?_;simp[push_cast, *];done)|skip)
theorem Uo(s:Aa)(a:s.length<=2^40):Al Tryz.prog W0 136 [.s (GL s),.s [46]] [] (.tup [.s (AN s),.s (Bo s),.b (!(OY s).isEmpty)]) []:=by have:=J7 s;rw[Jg];exact AsA W0 _ _ (Ng _) (wG s) (by omega)
theorem KK(s:Aa)(f:s.length<=2^40):Al Tryz.prog W0 98 [.s s] [] (.tup [JC s,.b (DI s)]) []:=by
 generalize hS:DI s=S;unfold DI at hS;rcases hW:(AN s)[0]? with _|c
 .have e:(AN s).length=0:=by simpa using hW
  rw[e] at hS;subst hS;refine Ae (vs:=[JC s,.b _]) AdQ (by simp) (by simp) λn0 a=>?_;clear a;simp only[push_cast,seval];have _h:=trivial;repeat' (first|(first|((first|apply Ab|apply Ag|apply Ah)<;>intro _h)|refine Ac ((Eb W0 s [45])) ?_|refine Ac (Uo W0 s f) ?_|refine Ac (Jf W0 (AN s)) ?_|refine Ac (Jf W0 (Bo s)) ?_|refine Ac (XZ W0 s) ?_)<;>(simp only[push_cast,seval,DP,EJ,e];try (have _g:=_h;simp at _g))|intro _)
  all_goals (first|(refine Af ?_;simp[JC]<;>(intros;omega);done)|(refine Ad ?_;simp[push_cast,JC];done)|skip)
 .have g:l6 (AN s)=((c.toNat:Int)==48):=by simp[l6,hW]
  rw[g] at hS;subst hS;refine Ae (vs:=[JC s,.b _]) AdQ (by simp) (by simp) λn0 a=>?_;clear a;simp only[push_cast];have _h:=trivial;repeat' (first|(first|((first|apply Ab|apply Ag|apply Ah)<;>intro _h)|refine Ac ((Eb W0 s [45])) ?_|refine Ac (Uo W0 s f) ?_|refine Ac (Jf W0 (AN s)) ?_|refine Ac (Jf W0 (Bo s)) ?_|refine Ac (XZ W0 s) ?_)<;>(simp only[push_cast,seval,_h,DP,EJ,hW];try (have _g:=_h;simp at _g))|intro _)
  all_goals (first|(refine Af ?_;simp[JC, *]<;>(intros;omega);done)|(refine Ad ?_;simp[push_cast,JC];done)|skip)
theorem G3(s:Aa)(c:s.length<=2^40):Al Tryz.prog W0 67 [.s s] [] (.b (DI s)) []:=by
 have:=KK W0 s c;unfold JC at this;refine Ae (vs:=[.b (DI s)]) Ann (by simp) (by simp) λn0 a=>?_;clear a;simp only[push_cast,reduceEqDiff];have _h:=trivial;repeat' (first|(first|((first|apply Ab|apply Ag|apply Ah)<;>intro _h)|refine Ac this ?_)<;>(simp only[push_cast,reduceEqDiff];try (have _g:=_h;simp at _g))|intro _)
 all_goals (first|(refine Af ?_;simp <;>(intros;omega);done)|(refine Ad ?_;simp[push_cast];done)|skip)
theorem Pl(s:Aa)(h:BZ s=true)(e:s.length<=15):Al Tryz.prog W0 340 [.s s] [] (.i .i64 (LS 0 s)) []:=by
 have c:=Aj7 W0 (48::s) _ (by simp;omega) (tZ s h);have b:1+s.length<=AJ:=by unfold AJ;omega
 refine Ae (vs:=[.i .i64 (LS 0 s)]) AlH (by simp) (by simp) λn0 a=>?_;clear a;simp only[push_cast,reduceEqDiff,b];have _h:=trivial;repeat' (first|(first|((first|apply Ab|apply Ag|apply Ah)<;>intro _h)|refine Ac c ?_)<;>(simp only[push_cast,reduceEqDiff];try (have _g:=_h;simp at _g))|intro _)
 all_goals (first|(refine Af ?_;simp <;>(intros;omega);done)|(refine Ad ?_;simp[push_cast];done)|skip)
theorem Anb(s:Aa)(op:Int)(j:s.length<=2^40):Al Tryz.prog W0 327 [.s s,.i .i64 op] [] (.tup [.i .i64 (opV s op).1,.i .i64 (opV s op).2]) []:=by
 have b:=KK W0 s j;have c:=AcO W0 (Bo s) [48] (by decide) (by decide);unfold JC at b;rw[show Lib.trimRightS (Bo s) [48]=Jd (Bo s) from rfl] at c;by_cases e:DI s=true
 .obtain⟨g,f,h,k⟩:=Gn e;have m:=mP (Bo s);have o:=Pl W0 (AN s) g h;have v2:=Pl W0 (Bo s) f (by omega);have v3:=Pl W0 (Jd (Bo s)) (P7 f) (by omega);generalize hS:opV s op=S;unfold opV at hS;refine Ae (vs:=[.i .i64 S.1,.i .i64 S.2]) sE (by simp) (by simp) λn0 a=>?_;clear a;simp only[push_cast,reduceEqDiff];have _h:=trivial;repeat' (first|(first|((first|apply Ab|apply Ag|apply Ah)<;>intro _h)|refine Ac b ?_|refine Ac c ?_|refine Ac o ?_|refine Ac v2 ?_|refine Ac v3 ?_)<;>(simp only[push_cast,reduceEqDiff,e];try (have _g:=_h;simp at _g))|intro _)
  all_goals subst hS
  all_goals (first|(refine Af ?_;simp[ *]<;>(intros;omega);done)|(refine Ad ?_;simp[push_cast, *];done)|skip)
 .generalize hS:opV s op=S;unfold opV at hS;rw[if_neg e] at hS;subst hS;rw[Bool.not_eq_true] at e;refine Ae (vs:=[.i .i64 0,.i .i64 1]) sE (by simp) (by simp) λn0 a=>?_;clear a;simp only[push_cast,reduceEqDiff];have _h:=trivial;repeat' (first|(first|((first|apply Ab|apply Ag|apply Ah)<;>intro _h)|refine Ac b ?_|refine Ac c ?_)<;>(simp only[push_cast,reduceEqDiff,e];try (have _g:=_h;simp at _g))|intro _)
  all_goals (first|(refine Af ?_;simp[ *]<;>(intros;omega);done)|(refine Ad ?_;simp[push_cast];done)|skip)

end Go.Ir

namespace Go.Ir
open Go.Proofs
variable{P:Program}{W0:World}{nt n:Nat}{Q:Exit→St→Prop}{env:A9}{σ:Aj}
end Go.Ir

namespace Go.Ir
open Go.Proofs
variable(W0:World)
def AaG:Aa->Bool
 | []=>false
 | c::t=>(c.toNat:Int)==61&&DI t
def Qy(a:Int)(s:Aa):Bool:=if a==9 then De s else J1 s||AaG s
theorem RK:DI []=false:=by decide
end Go.Ir
section
namespace Go.Ir
open Go.Proofs
variable(W0:World)
theorem Ak.frz{W0:World}{nt n n':Nat}{env env':A9}{σ:Aj}{id:Id}{e sz:Nat}{es:List V}(m:lk σ id=none)(q:∀y∈es,y.ok=true)
  (b:∀s,get env' s=get env s\/(get env s=.arr id/\get env' s=.sl es))(g:n<=n'):Ak W0 nt ⟨env,(id,.arr e sz es)::σ,n⟩ ⟨env',σ,n'⟩:=by
 refine Ak.weak (λi=>if i=id then some es else none) (λi es' h=>?_) (λs=>?_) (λi j h=>?_) g
 .split at h
  .rename_i p;subst p;cases h;exact⟨⟨e,sz,by simp[lk]⟩,m⟩
  .cases h
 .rcases b s with h|⟨f,a⟩
  .rw[h];exact .refl _
  .rw[f,a];refine .arr id es es (by simp) rfl (λk c o f a=>?_) (λk c o f a=>?_)
   .rw[f] at a;cases a;exact .refl _
   grind
 .refine⟨j,Ct m i j h,.refl _⟩
theorem Ak.frzAt{W0:World}{nt n n' s:Nat}{env:A9}{σ:Aj}{id:Id}{e sz:Nat}{es:List V}(f:get env s=.arr id)(c:lk σ id=none)(b:∀y∈es,y.ok=true)(a:n<=n') :
  Ak W0 nt ⟨env,(id,.arr e sz es)::σ,n⟩ ⟨(s,.sl es)::env,σ,n'⟩:=by
 refine Ak.frz c b (λt=>?_) a;by_cases h:s=t
 .subst h;exact .inr ⟨f,by simp[get]⟩
 .exact .inl (by simp[get,h])
theorem Ak.envD{W0:World}{nt n n':Nat}{env env':A9}{σ:Aj}(a:∀s,get env' s=get env s\/get env' s=.any)(b:n<=n'):Ak W0 nt ⟨env,σ,n⟩ ⟨env',σ,n'⟩:=by
 refine Ak.weak (λ_=>none) (λ_ _ h=>by cases h) (λs=>?_) (λi c h=>⟨c,h,.refl _⟩) b;rcases a s with h|h
 .rw[h];exact .refl _
 .rw[h];exact .any _
def Auf(k:Int)(n:Aa)(l:List Aa):List Aa:=if decide (k>=2)&&decide (k<=9)&&!l.contains n then l++[n] else l
mutual
def Aw.names:Aw->List Aa->List Aa
 | ⟨k,_,n,_,cs,ps⟩,l=>Wu cs (P0 ps (Auf k n l))
def P0:List Aw->List Aa->List Aa
 | [],l=>l
 | p::ps,l=>P0 ps (p.names l)
def Wu:List (Aa×List Aw)->List Aa->List Aa
 | [],l=>l
 | (_,ps)::cs,l=>Wu cs (P0 ps l)
end
end Go.Ir
end
namespace Go.Ir
open Go.Proofs
variable(W0:World)
def CN:Aa:=[111,116,104,101,114]
def Hz(a:List CF):Int:=(a.map λr=>1+(r.spans.length:Int)).sum
theorem UL(a:List CF):0<=Hz a:=by
 induction a with
 | nil=>simp[Hz]
 | cons r a b=>simp[Hz] at *;omega
theorem Ac9(a:List CF):Hz a<Cx a:=by
 induction a with
 | nil=>simp[Hz,Cx]
 | cons r a b=>simp[Hz,Cx,CF.wt] at *;omega
theorem YW(r:CF)(a:List CF):Hz (r::a)=(1+(r.spans.length:Int))+Hz a:=by simp[Hz]
def uO(d:Int):List (List CF)->Bool
 | []=>true
 | l::c=>!(decide (d+Hz l>80))&&uO (d+Hz l) c
def Ga(c:List (List CF)):Bool:=uO 0 c&&decide ((c.length:Int)<=30)
theorem AkK(c:List (List CF))(E:Dh c<=2^24):Al Tryz.prog W0 53 [.sl (c.map EQ)] [] (.b (Ga c)) []:=by
 generalize hS:Ga c=S;refine Ae (vs:=[.b S]) AsC (by simp) (by simp) λn0 o=>?_;clear o;simp only[push_cast,reduceEqDiff];intros;have t:=HY c;refine Am c.length (Inv:=λm st=>∃dn rest n d,c=dn++rest/\m=rest.length/\(uO d rest&&decide ((c.length:Int)<=30))=S/\0<=d/\d<=80/\st=⟨[(0,.sl (c.map EQ)),(3,.i .i64 d),(4,.i .i64 dn.length)],[],n⟩) ⟨_,Ak.refl,[],c,_,0,rfl,rfl,hS,by omega,by omega,rfl⟩ ?_;clear hS;rintro m _ ⟨dn,rest,n,d,g,rfl,j,k,z,rfl⟩;cases rest with
 | nil=>
  subst j;simp only[push_cast,reduceEqDiff,g]
  repeat' (first|(((first|apply Ab|apply Ag|apply Ah)<;>intro _h)<;>(simp only[push_cast,reduceEqDiff];try (have _g:=_h;simp at _g)))|intro _)
  all_goals (refine Af ?_;simp[get,uO])
 | cons p rest=>
  have w:=AM g;have F:=Ik (l:=c) (r:=p) (by rw[g];simp);have B:=ES p;have C:=UL p;have D:=Ac9 p;rw[uO] at j;simp only[push_cast,reduceEqDiff,g];intros;refine Am p.length (Inv:=λm st=>∃h f n e,p=h++f/\m=f.length/\e+Hz f=d+Hz p/\0<=e/\st=⟨[(0,.sl (c.map EQ)),(3,.i .i64 e),(4,.i .i64 dn.length),(5,.i .i64 h.length)],[],n⟩) ⟨_,Ak.refl,[],p,_,_,rfl,rfl,rfl,k,by rw[g];rfl⟩ ?_;rintro m _ ⟨h,f,n,e,a,rfl,s,A,rfl⟩;cases f with
  | nil=>
   have:e=d+Hz p:=by simp[Hz] at s⊢;omega
   subst this;simp only[push_cast,reduceEqDiff,g,a]
   repeat' (first|(((first|apply Ab|apply Ag|apply Ah)<;>intro _h)<;>(simp only[push_cast,reduceEqDiff,Ai p (dn:=dn) (by omega)];try (have _g:=_h;simp at _g)))|intro _)
   all_goals (simp only[Arm] at a;subst a)
   .refine Af ?_;subst j;simp[get, *]
   .exact⟨_,_,AzS _,Ak.refl,dn++[p],rest,_,d+Hz p,by simp,rfl,by rw[<-j];simp[*],by omega,by omega,rfl⟩
  | cons r f=>have y:=AM a;have q:=Ib (l:=p) (r:=r) (by simp[a]);rw[CF.wt] at q;rw[YW] at s;have x:=UL f;have u:IntKind.i64.wrap (1+(r.spans.length:Int))=1+(r.spans.length:Int):=wrap64 (by omega) (by omega);have v:IntKind.i64.wrap (e+(1+(r.spans.length:Int)))=e+(1+(r.spans.length:Int)):=wrap64 (by omega) (by omega);simp only[push_cast,reduceEqDiff,g,a,Ai r (dn:=h) (by omega),u,v];intros;exact⟨_,_,AzS _,Ak.refl,h++[r],f,_,e+(1+(r.spans.length:Int)),by simp,rfl,by rw[<-a];omega,by omega,rfl⟩
end Go.Ir

namespace Go.Ir
open Go.Proofs
variable{P:Program}{W0:World}{nt n:Nat}{Q:Exit→St→Prop}{env:A9}{σ:Aj}
def UR:IC:=sQ (oS [bZ 13 .eql 5 5,m1 12 13] [1,5,12] (cD 12 .skip (oP [bZ 14 .eql 5 6,m1 12 14] [1,12]))) (cD 12 (oR [m1 15 1,bZ 16 .eql 15 10,m1 17 16,Br 18 17 1,Dg 19 17 .eql 18 100,pO 20 17 19,m1 4 20] [4]) .skip)
def sF:IC:=.block 0 (sQ (oS [bZ 7 .eql 5 1,m1 6 7] [1,5,6] (cD 6 .skip (oP [bZ 8 .eql 5 2,m1 6 8] [1,5,6]))) (cD 6 (oR [o1 9 (.msl false 3 1 [ci 2,ci 3,ci 4,ci 5,ci 6,ci 10,ci 20,ci 25,ci 50,ci 100]),m1 10 1,q2 11 325 9 10,m1 4 11] [4]) UR))
def dO:IC:=oS [mC 4 (.b false)] [0,1] (sQ (oS [m1 5 0] [1,5] sF) (oR [mC 4 (.b false)] [4]))
@[push_cast]def An8:List R:=[.t 4]
@[push_cast]def AwK:=Aq UR.eq_1<|Aq sF.eq_1<|AL dO.eq_1
theorem Ah5:Av Tryz.prog 300 21 dO An8=true:=by kernel_rfl
def dT:IC:=oS [mZ 2 0] [0] (sQ (oS [m1 3 0,bZ 4 .eql 3 3,m1 5 4,Br 6 5 0,Dg 7 5 .eql 6 4,pO 8 5 7] [8] (cD 8 (oR [mZ 2 6] [2]) .skip)) (oR [mZ 2 100] [2]))
@[push_cast]def AqG:List R:=[.t 2]
@[push_cast]def AvZ:=AL dT.eq_1
theorem AhM:Av Tryz.prog 301 9 dT AqG=true:=by kernel_rfl
def WA:IC:=sQ (.ops [fA 45 4 0,l1 46 45,bZ 47 .lss 46 0,m1 48 47,Du 49 48 4 0,CM 50 48 49,Du 51 48 4 1,CM 52 48 51,gF 53 48 (.bin .gtr (.t 50) (.t 52)),pO 54 48 53,m1 55 54,Du 56 55 4 1,CM 57 55 56,Du 58 55 1 0,CM 59 55 58,gF 60 55 (.call 301 [.t 59]),gF 61 55 (.bin .gtr (.t 57) (.t 60)),pO 62 55 61] [1,39,40,41,62] [[0,1],[1,2],[2,3],[3,4],[3,5],[4,5],[3,6],[3,7],[6,7],[3,8],[5,8],[7,8],[3,9],[8,9],[9,10],[10,11],[10,12],[11,12],[10,13],[10,14],[13,14],[10,15],[14,15],[10,16],[12,16],[15,16],[10,17],[16,17]]) (cD 62 (oR [mC 2 (.b false)] [2]) .skip)
def WK:IC:=sQ (.block 1 (oS [iA 43 39 41 337 2,lA 44 43 2,o1 4 (.alloc (.agg [.i .i64 0,.i .i64 0])),sT 4 44 2] [1,4,39,40,41] WA)) (oP [bZ 63 .add 41 1,m1 41 63] [1,39,40,41])
def pE:IC:=sQ (oS [fA 38 1 3,l1 39 38,nL 40 39,mZ 41 0] [1,39,40,41] (.block 0 (.loop (oS [bT 42 .lss 41 40] [1,39,40,41,42] (sQ (cD 42 .skip (.exit 0)) WK))))) (oR [mC 2 (.b true)] [2])
def rD:IC:=sQ (oS [fA 5 1 0,l1 6 5,bZ 7 .lss 6 1,m1 8 7,Du 9 8 1 0,CM 10 8 9,Dg 11 8 .gtr 10 6,pO 12 8 11,m1 13 12,Du 14 13 1 1,CM 15 13 14,Dg 16 13 .neq 15 0,Br 17 13 16,Dv 18 17 1 0,Db 19 17 18,Dv 20 17 1 1,Db 21 17 20,gT 22 17 (.call 300 [.t 19,.t 21]),gT 23 17 (.not (.t 22)),gF 24 13 (.pick (.t 17) (.t 23) (.c (.b false))),pO 25 13 24,m1 26 25,Du 27 26 1 3,CM 28 26 27,gF 29 26 (.lenL (.t 28)),Dg 30 26 .lss 29 1,pO 31 26 30,m1 32 31,Du 33 32 1 3,CM 34 32 33,gF 35 32 (.lenL (.t 34)),Dg 36 32 .gtr 35 4,pO 37 32 36] [1,37] (cD 37 (oR [mC 2 (.b false)] [2]) .skip)) pE
def oT:IC:=oS [bX 1 0,mC 2 (.b false)] [1] rD
@[push_cast]def AnD:List R:=[.t 2]
@[push_cast]def Axo:=Aq WA.eq_1<|Aq WK.eq_1<|Aq pE.eq_1<|Aq rD.eq_1<|AL oT.eq_1
theorem Ah0:Av Tryz.prog 265 64 oT AnD=true:=by kernel_rfl
def m3:IC:=oS [bX 1 0,mC 2 (.b false)] [1] (oR [lA 3 1 4,q1 4 265 3,nT 5 4,m1 2 5] [2])
@[push_cast]def AqS:List R:=[.t 2]
@[push_cast]def AwG:=AL m3.eq_1
theorem Ahs:Av Tryz.prog 264 6 m3 AqS=true:=by kernel_rfl
def UI:IC:=sQ (oS [m1 12 5,nL 13 12,bZ 14 .eql 13 0,m1 15 14,Br 16 15 5,gF 17 15 (.calls 263 [.t 16,.c (.fn 264 [] [])]),pO 18 15 17] [0,3,5,6,7,8,18] (cD 18 (oR [mC 2 (.b false)] [2]) .skip)) (oP [m1 19 3,m1 20 5,nL 21 20,bT 22 .add 19 21,m1 3 22] [0,3,6,7,8])
def jJ:IC:=oS [bT 9 .lss 8 7] [0,3,6,7,8,9] (sQ (cD 9 .skip (.exit 0)) (sQ (.block 1 (oS [iA 10 6 8 172 1,l1 11 10,m1 5 11] [0,3,5,6,7,8] UI)) (oP [bZ 23 .add 8 1,m1 8 23] [0,3,6,7,8])))
def vO:IC:=sQ (oS [m1 6 0,nL 7 6,mZ 8 0] [0,3,6,7,8] (.block 0 (.loop jJ))) (oR [m1 24 0,nL 25 24,bZ 26 .gtr 25 0,m1 27 26,By 28 27 3,C8 29 27 .leq 28 6,pA 30 27 29,m1 2 30] [2])
def jD:IC:=oS [mC 2 (.b false)] [0] (oS [mZ 3 0] [0,3] vO)
@[push_cast]def Anl:List R:=[.t 2]
@[push_cast]def Aww:=Aq UI.eq_1<|Aq jJ.eq_1<|Aq vO.eq_1<|AL jD.eq_1
theorem Ajd:Av Tryz.prog 206 31 jD Anl=true:=by kernel_rfl
def qF:IC:=oR [l1 4 1,fA 5 2 0,l1 6 5,bT 7 .geq 4 6,m1 8 7,Db 9 8 1,Dv 10 8 2 1,Db 11 8 10,gT 12 8 (.bin .leq (.t 9) (.t 11)),pA 13 8 12,m1 3 13] [3]
def rZ:IC:=oS [bX 2 0,mC 3 (.b false)] [1,2] qF
@[push_cast]def Ap5:List R:=[.t 3]
@[push_cast]def AwL:=Aq qF.eq_1<|AL rZ.eq_1
theorem Ake:Av Tryz.prog 342 14 rZ Ap5=true:=by kernel_rfl
def uE:IC:=oS [bX 3 1,mC 4 (.b false)] [0,3] (oR [m1 5 0,o1 6 (.mkfn 342 [] [.t 3]),o1 7 (.calls 341 [.t 5,.t 6]),m1 4 7] [4])
@[push_cast]def ArK:List R:=[.t 4]
@[push_cast]def AwJ:=AL uE.eq_1
theorem Amb:Av Tryz.prog 328 8 uE ArK=true:=by kernel_rfl
def V3:IC:=sQ (.ops [fA 25 2 3,l1 26 25,m1 27 5,q2 28 328 26 27,fA 29 2 2,l1 30 29,o1 31 (.eqb true (.t 28) (.t 30)),m1 4 31] [4] [[0,1],[1,3],[2,3],[4,5],[3,6],[5,6],[6,7]]) .ret
def xW:IC:=oS [m1 8 1,fA 9 2 0,l1 10 9,q2 11 327 8 10,m1 7 11,xT 12 7 0,xT 13 7 1,m1 5 12,m1 6 13] [2,5,6] (sQ (oS [m1 14 6,bZ 15 .neq 14 0] [2,5,15] (cD 15 (oR [fA 16 2 2,l1 17 16,m1 4 17] [4]) .skip)) (sQ (oS [fA 18 2 1,l1 19 18,bZ 20 .neq 19 0] [2,5,20] (cD 20 (oP [m1 21 5,fA 22 2 1,l1 23 22,bT 24 .rem 21 23,m1 5 24] [2,5]) .skip)) V3))
def lG:IC:=oS [bX 2 0,mC 4 (.b false)] [1,2] xW
@[push_cast]def AoP:List R:=[.t 4]
@[push_cast]def AwV:=Aq V3.eq_1<|Aq xW.eq_1<|AL lG.eq_1
theorem AjF:Av Tryz.prog 305 32 lG AoP=true:=by kernel_rfl
def o9:IC:=oS [bX 2 0,mC 3 (.b false)] [1,2] (oR [lA 4 2 4,l1 5 1,q2 6 305 4 5,nT 7 6,m1 3 7] [3])
@[push_cast]def AoM:List R:=[.t 3]
@[push_cast]def Awa:=AL o9.eq_1
theorem AjA:Av Tryz.prog 304 8 o9 AoM=true:=by kernel_rfl
def xQ:IC:=oS [mC 3 (.b false)] [0,1] (oR [m1 4 0,o1 5 (.mkfn 304 [] [.t 1]),o1 6 (.calls 263 [.t 4,.t 5]),nT 7 6,m1 3 7] [3])
@[push_cast]def AnQ:List R:=[.t 3]
@[push_cast]def AwT:=AL xQ.eq_1
theorem AiZ:Av Tryz.prog 303 8 xQ AnQ=true:=by kernel_rfl
def kX:IC:=sQ (oS [m1 6 0,q1 7 206 6,nT 8 7,m1 9 8,CM 10 9 3,gF 11 9 (.call 67 [.t 10]),gF 12 9 (.not (.t 11)),pO 13 9 12] [0,3,13] (cD 13 (oR [mC 4 (.b false),mZ 5 1] [4,5]) .skip)) (oR [m1 14 0,o1 15 (.mkfn 303 [] [.t 3]),o1 16 (.calls 302 [.t 14,.t 15]),m1 4 16,mZ 5 0] [4,5])
def cC:IC:=oS [bX 3 1,mC 4 (.b false),mZ 5 0] [0,3] kX
@[push_cast]def Are:List R:=[.t 4,.t 5]
@[push_cast]def Aw0:=Aq kX.eq_1<|AL cC.eq_1
theorem Ald:Av Tryz.prog 267 17 cC Are=true:=by kernel_rfl
def dQ:IC:=oR [o1 1 (.build [.s [],.s [],.s [],.s [],.s [],.s []] [(0,1,.c (.s [122,101,114,111])),(1,1,.c (.s [111,110,101])),(2,1,.c (.s [116,119,111])),(3,1,.c (.s [102,101,119])),(4,1,.c (.s [109,97,110,121])),(5,1,.c (.s [111,116,104,101,114]))]),sT 0 1 6] [0]
def uP:IC:=oS [o1 0 (.alloc (.agg [.s [],.s [],.s [],.s [],.s [],.s []]))] [0] dQ
@[push_cast]def Ani:List R:=[.c 0 6 true]
@[push_cast]def Awf:=Aq dQ.eq_1<|AL uP.eq_1
theorem Ajs:Av Tryz.prog 262 2 uP Ani=true:=by kernel_rfl
def t8:IC:=oS [o1 4 (.call 262 []),o1 3 (.alloc (.agg [.s [],.s [],.s [],.s [],.s [],.s []])),sT 3 4 6] [0,3] (oR [o1 5 (.frz (.t 3) 6),m1 6 0,q2 7 241 5 6,m1 2 7] [2])
def gL:IC:=oS [mC 2 (.b false)] [0] t8
@[push_cast]def Aoy:List R:=[.t 2]
@[push_cast]def Axw:=Aq t8.eq_1<|AL gL.eq_1
theorem Ajh:Av Tryz.prog 205 8 gL Aoy=true:=by kernel_rfl
def iM:IC:=oS [bX 2 0,mC 3 (.b false)] [1,2] (oR [fA 4 2 0,l1 5 4,fA 6 1 0,l1 7 6,bT 8 .eql 5 7,m1 3 8] [3])
@[push_cast]def AmF:List R:=[.t 3]
@[push_cast]def AwF:=AL iM.eq_1
theorem AhV:Av Tryz.prog 208 9 iM AmF=true:=by kernel_rfl
def Wg:IC:=oS [fA 12 4 0,l1 13 12,q1 14 205 13,nT 15 14,m1 16 15,Du 17 16 4 0,CM 18 16 17,gF 19 16 (.bin .eql (.t 18) (.c (.s [111,116,104,101,114]))),pO 20 16 19,m1 21 20,Du 22 21 4 1,CM 23 21 22,gF 24 21 (.call 206 [.t 23]),gF 25 21 (.not (.t 24)),pO 26 21 25,m1 27 26,Br 28 27 0,Br 29 27 3,gF 30 27 (.slL (.t 28) none (some (.t 29)) 2),gF 31 27 (.mkfn 208 [] [.t 4]),gF 32 27 (.calls 207 [.t 30,.t 31]),pO 33 27 32] [0,5,6,7,33] (cD 33 (oR [mC 2 (.b false)] [2]) .skip)
def VS:IC:=sQ (.block 1 (oS [m1 9 7,iA 10 5 7 139 2,lA 11 10 2,o1 4 (.alloc (.agg [.s [],.nil])),m1 3 9,sT 4 11 2] [0,3,4,5,6,7] Wg)) (oP [bZ 34 .add 7 1,m1 7 34] [0,5,6,7])
def wZ:IC:=sQ (oS [m1 5 0,nL 6 5,mZ 7 0] [0,5,6,7] (.block 0 (.loop (oS [bT 8 .lss 7 6] [0,5,6,7,8] (sQ (cD 8 .skip (.exit 0)) VS))))) (oR [mC 2 (.b true)] [2])
def uT:IC:=oS [mC 2 (.b false)] [0] wZ
@[push_cast]def AqT:List R:=[.t 2]
@[push_cast]def Aw9:=Aq Wg.eq_1<|Aq VS.eq_1<|Aq wZ.eq_1<|AL uT.eq_1
theorem AkN:Av Tryz.prog 152 35 uT AqT=true:=by kernel_rfl
def VR:IC:=cD 42 (oR [m1 45 12,mC 4 (.s []),m1 5 45] [4,5]) (oS [m1 47 11,m1 46 47] [1,10,29,30,31,46] (cD 46 (oR [fA 48 10 0,l1 49 48,m1 4 49,mZ 5 0] [4,5]) .skip))
def VY:IC:=oS [fA 36 10 1,l1 37 36,m1 38 1,q2 39 267 37 38,m1 35 39,xT 40 35 0,xT 41 35 1,m1 11 40,m1 12 41] [1,10,11,12,29,30,31] (.block 2 (oS [m1 43 12,bZ 44 .neq 43 0,m1 42 44] [1,10,11,12,29,30,31,42] VR))
def Wm:IC:=sQ (.block 1 (oS [iA 33 29 31 139 2,lA 34 33 2,o1 10 (.alloc (.agg [.s [],.nil])),sT 10 34 2] [1,10,29,30,31] VY)) (oP [bZ 50 .add 31 1,m1 31 50] [1,29,30,31])
def Ve:IC:=sQ (oS [m1 29 0,nL 30 29,mZ 31 0] [1,29,30,31] (.block 0 (.loop (oS [bT 32 .lss 31 30] [1,29,30,31,32] (sQ (cD 32 .skip (.exit 0)) Wm))))) (oR [mC 4 (.s [111,116,104,101,114]),mZ 5 0] [4,5])
def Wi:IC:=sQ (oS [m1 22 6,m1 23 1,q2 24 267 22 23,m1 21 24,xT 25 21 0,xT 26 21 1,m1 7 25,m1 8 26] [0,1,8] (oS [m1 27 8,bZ 28 .neq 27 0] [0,1,28] (cD 28 (oR [mC 4 (.s []),mZ 5 1] [4,5]) .skip))) Ve
def qK:IC:=oS [o1 16 (.build [.i .i64 0,.i .i64 0] []),o1 17 (.msl false 337 2 [.t 16]),o1 18 (.build [.i .i64 0,.i .i64 0,.b false,.nil] [(0,1,ci 2),(2,1,.c (.b true)),(3,1,.t 17)]),o1 19 (.msl false 175 4 [.t 18]),o1 20 (.msl false 172 1 [.t 19]),m1 6 20] [0,1,6] Wi
def gJ:IC:=oS [mC 4 (.s []),mZ 5 0] [0,1] (sQ (oS [m1 13 0,q1 14 152 13,nT 15 14] [0,1,15] (cD 15 (oR [mC 4 (.s []),mZ 5 1] [4,5]) .skip)) qK)
@[push_cast]def Ara:List R:=[.t 4,.t 5]
@[push_cast]def Awk:=Aq VR.eq_1<|Aq VY.eq_1<|Aq Wm.eq_1<|Aq Ve.eq_1<|Aq Wi.eq_1<|Aq qK.eq_1<|AL gJ.eq_1
theorem SH:Av Tryz.prog 210 51 gJ Ara=true:=by kernel_rfl
end Go.Ir

namespace Go.Ir
open Go.Proofs
variable(W0:World)
def X4:List Int:=[2,3,4,5,6,10,20,25,50,100]
theorem dJ(l:List Int)(v:Int):decide (B7 (λx=>v==x) l>=0)=l.contains v:=by rw[Gi,List.contains_eq_any_beq]
theorem Apj:Av Tryz.prog 338 19 (RC 3) z8=true:=by kernel_rfl
theorem Asg:Av Tryz.prog 325 9 (Xr 338) Alu=true:=by kernel_rfl
theorem Qn(l:List Int)(v:Int)(a:l.length<2^62):Al Tryz.prog W0 325 [.sl (l.map (V.i .i64)),.i .i64 v] [] (.b (l.contains v)) []:=by rw[<-dJ];exact HB W0 Asg _ _ _ (T3 W0 Apj l v a)
def V5(op mod:Int):Bool:=if op==1||op==2 then X4.contains mod else if op==5||op==6 then mod==10||mod==100 else false
theorem RU(op mod:Int):Al Tryz.prog W0 300 [.i .i64 op,.i .i64 mod] [] (.b (V5 op mod)) []:=by
 have a:=Qn W0 X4 mod (by decide);unfold X4 at a;simp only[AlG,Apy] at a;generalize hS:V5 op mod=S;unfold V5 X4 at hS;refine Ae (vs:=[.b S]) Ah5 (by simp) (by simp) λn0 c=>?_;clear c;simp only[push_cast,reduceEqDiff];have _h:=trivial;repeat' (first|(first|((first|apply Ab|apply Ag|apply Ah)<;>intro _h)|refine Ac a ?_)<;>(simp only[push_cast,reduceEqDiff,_h];try (have _g:=_h;simp at _g))|intro _)
 all_goals subst hS
 all_goals (first|(refine Af ?_;simp[ *]<;>(intros;omega);done)|(refine Ad ?_;simp[push_cast, *];done)|skip)
def Acu(op:Int):Int:=if op==3||op==4 then 6 else 100
theorem Tf(op:Int):Al Tryz.prog W0 301 [.i .i64 op] [] (.i .i64 (Acu op)) []:=by
 generalize hS:Acu op=S;unfold Acu at hS;refine Ae (vs:=[.i .i64 S]) AhM (by simp) (by simp) λn0 a=>?_;clear a;simp only[push_cast,reduceEqDiff]
 repeat' (first|(((first|apply Ab|apply Ag|apply Ah)<;>intro _h)<;>(simp only[push_cast,reduceEqDiff,_h];try (have _g:=_h;simp at _g)))|intro _)
 all_goals subst hS
 all_goals (first|(refine Af ?_;simp[ *]<;>(intros;omega);done)|(refine Ad ?_;simp[push_cast, *];done)|skip)
def Wt(op:Int)(s:FR):Bool:=!(decide (s.lo<0)||decide (s.lo>s.hi)||decide (s.hi>Acu op))
def Fh(r:CF):Bool:=!(decide (r.op<1)||decide (r.op>6)||(r.mod !=0&&!V5 r.op r.mod)||decide ((r.spans.length:Int)<1)||decide ((r.spans.length:Int)>4))&&r.spans.all (Wt r.op)
theorem nE(r:CF)(g:r.spans.length<=2^30):Al Tryz.prog W0 265 [r.enc] [] (.b (Fh r)) []:=by
 generalize hS:Fh r=S;unfold Fh at hS;rw[CF.enc_eq];refine Ae (vs:=[.b S]) Ah0 (by simp) (by simp) λn0 c=>?_;clear c;simp only[push_cast,reduceEqDiff];have _h:=trivial;repeat' (first|(first|((first|apply Ab|apply Ag|apply Ah)<;>intro _h)|refine Ac (RU W0 _ _) ?_)<;>(simp only[push_cast,reduceEqDiff,_h];try (have _g:=_h;simp at _g))|intro _)
 all_goals (first|(refine Af ?_;subst hS;simp[get, *];done)|skip)
 all_goals
  have a:r.spans.all (Wt r.op)=S:=by subst hS;simp[*]
  clear hS;refine Am r.spans.length (Inv:=λm st=>∃dn rest n,r.spans=dn++rest/\m=rest.length/\rest.all (Wt r.op)=S/\st=⟨[(1,.ref (n0,1) 0),(39,.sl (r.spans.map FR.enc)),(40,.i .i64 r.spans.length),(41,.i .i64 dn.length)],[((n0,1),.box r.enc)],n⟩) ⟨_,Ak.refl,[],_,_,rfl,rfl,a,rfl⟩ ?_;clear a;rintro m _ ⟨dn,rest,n,e,rfl,a,rfl⟩;cases rest with
  | nil=>
   simp only[push_cast,reduceEqDiff,e]
   repeat' (first|(((first|apply Ab|apply Ag|apply Ah)<;>intro _h)<;>(simp only[push_cast,reduceEqDiff,_h];try (have _g:=_h;simp at _g)))|intro _)
   all_goals (first|(refine Af ?_;simp[get,<-a]<;>(intros;omega);done)|(refine Ad ?_;simp[push_cast,get,<-a];done)|skip)
  | cons s rest=>
   have f:=AM e;rw[Azb,Wt] at a;simp only[push_cast,reduceEqDiff,e];have _h:=trivial;repeat' (first|(first|((first|apply Ab|apply Ag|apply Ah)<;>intro _h)|refine Ac (Tf W0 r.op) ?_)<;>(simp only[push_cast,reduceEqDiff,_h,Ai s (dn:=dn) (by omega)];try (have _g:=_h;simp at _g))|intro _)
   all_goals (first|(exact⟨_,_,AzS _,Ak.drop1 (by simp[lk]) (AzR _),dn++[s],rest,_,by simp,rfl,by rw[<-a];simp[*],rfl⟩)|skip)
   all_goals subst a
   all_goals (first|(refine Af ?_;simp[get, *]<;>(intros;omega);done)|(refine Ad ?_;simp[push_cast,get, *];done)|skip)
theorem jG(r:CF)(c:r.spans.length<=2^30):Al Tryz.prog W0 264 [r.enc] [] (.b (!Fh r)) []:=by
 have h:=nE W0 r c;rw[CF.enc_eq] at *;refine Ae (vs:=[.b (!Fh r)]) Ahs (by simp) (by simp) λn0 a=>?_;clear a;simp only[push_cast,reduceEqDiff];have _h:=trivial;repeat' (first|(first|((first|apply Ab|apply Ag|apply Ah)<;>intro _h)|refine Ac h ?_)<;>(simp only[push_cast];try (have _g:=_h;simp at _g))|intro _)
 all_goals (first|(refine Af ?_;simp <;>(intros;omega);done)|(refine Ad ?_;simp[push_cast];done)|skip)
theorem As7:Av Tryz.prog 299 19 (M5 175 4 true) ZS=true:=by kernel_rfl
theorem ArF:Av Tryz.prog 263 9 (NB 299) iE=true:=by kernel_rfl
theorem fM(l:List CF)(p:CF->Bool)(g:FuncId)(a:List V)(σ:Aj)(c:∀r∈l,Al Tryz.prog W0 g ([r.enc]++a) σ (.b (p r)) σ)(e:l.length<2^62) :
  Al Tryz.prog W0 263 [.sl (l.map CF.enc),.fn g [] a] σ (.b (l.any p)) σ:=by
 rw[<-Gi];exact C3 W0 ArF _ _ _ _ (CE W0 As7 CF.enc l p g [] a σ (λx _=>Ja rfl) (λr f=>c r f) e)
def LL(c:List (List CF)):Int:=(c.map λl=>(l.length:Int)).sum
theorem NR(l:List CF)(c:List (List CF)):LL (l::c)=l.length+LL c:=by simp[LL]
def UA(l:List CF):Bool:=!((l.length:Int)==0||l.any λr=>!Fh r)
def HG(c:List (List CF)):Bool:=c.all UA&&(decide ((c.length:Int)>0)&&decide (LL c<=6))
theorem WQ(c:List (List CF)):0<=LL c/\LL c<=Dh c:=by
 induction c with
 | nil=>simp[LL]
 | cons l c a=>have:=ES l;rw[NR,Dh];omega
theorem XW(c:List (List CF))(x:Dh c<=2^30):Al Tryz.prog W0 206 [.sl (c.map EQ)] [] (.b (HG c)) []:=by
 generalize hS:HG c=S;unfold HG at hS;have o:=HY c;have w:=WQ c;refine Ae (vs:=[.b S]) Ajd (by simp) (by simp) λn0 j=>?_;clear j;simp only[push_cast,reduceEqDiff];intros;refine Am c.length (Inv:=λm st=>∃dn rest n d,c=dn++rest/\m=rest.length/\(rest.all UA&&(decide ((c.length:Int)>0)&&decide (d+LL rest<=6)))=S/\0<=d/\d+LL rest=LL c/\st=⟨[(0,.sl (c.map EQ)),(3,.i .i64 d),(6,.sl (c.map EQ)),(7,.i .i64 c.length),(8,.i .i64 dn.length)],[],n⟩) ⟨_,Ak.refl,[],_,_,0,rfl,rfl,by rw[Int.zero_add];exact hS,by omega,by omega,rfl⟩ ?_;clear hS;rintro m _ ⟨dn,rest,n,d,a,rfl,e,s,h,rfl⟩;cases rest with
 | nil=>
  rw[show LL []=0 from rfl,Int.add_zero] at e;simp only[push_cast,reduceEqDiff,a];rw[Arm] at a
  repeat' (first|(((first|apply Ab|apply Ag|apply Ah)<;>intro _h)<;>(simp only[push_cast,reduceEqDiff,_h];try (have _g:=_h;simp at _g)))|intro _)
  all_goals subst e
  all_goals subst a
  all_goals (first|(refine Af ?_;simp[ *]<;>(intros;omega);done)|(refine Ad ?_;simp[push_cast, *];done)|skip)
 | cons l rest=>
  have q:=AM a;have y:=Ik (l:=c) (r:=l) (by rw[a];simp);have t:=ES l;rw[Azb] at e;rw[NR] at e h;have v:=WQ rest;have p:IntKind.i64.wrap (d+(l.length:Int))=d+(l.length:Int):=wrap64 (by omega) (by omega);have k:=fM W0 l (λr=>!Fh r) 264 [] [] (λr u=>jG W0 r (by have:=Ib u;rw[CF.wt] at this;omega)) (by omega);obtain⟨A,g⟩:∃A,(l.any λr=>!Fh r)=A:=⟨_,rfl⟩
  have f:UA l=!((l.length:Int)==0||A):=by unfold UA;rw[g]
  rw[g] at k;rw[f] at e;clear g f;simp only[push_cast,reduceEqDiff,a]
  repeat' (first|(((first|apply Ab|apply Ag|apply Ah)<;>intro _h)<;>(simp only[push_cast,reduceEqDiff,_h];try (have _g:=_h;simp at _g)))|intro _)
  all_goals (try (refine mT k ?_;simp only[push_cast,reduceEqDiff]))
  repeat' (first|(((first|apply Ab|apply Ag|apply Ah)<;>intro _h)<;>(simp only[push_cast,reduceEqDiff,Ai l (dn:=dn) (by omega),p];try (have _g:=_h;simp at _g)))|intro _)
  all_goals (first|(exact⟨_,_,AzS _,Ak.refl,dn++[l],rest,_,_,by simp,rfl,by grind,by omega,by rw[<-a];omega,rfl⟩)|skip)
  all_goals subst e
  all_goals (first|(refine Af ?_;simp[ *]<;>(intros;omega);done)|(refine Ad ?_;simp[push_cast, *];done)|skip)
def inB(l:List FR)(n:Int):Bool:=l.any λs=>decide (n>=s.lo)&&decide (n<=s.hi)
theorem Agl:Av Tryz.prog 350 19 (M5 337 2 true) ZS=true:=by kernel_rfl
theorem AiR:Av Tryz.prog 341 9 (NB 350) iE=true:=by kernel_rfl
theorem Ass(s:FR)(n:Int)(a:Nat):Al Tryz.prog W0 342 [s.enc,.ref (a,3) 0] [((a,3),.box (.i .i64 n))] (.b (decide (n>=s.lo)&&decide (n<=s.hi))) [((a,3),.box (.i .i64 n))]:=by
 rw[FR.enc_eq];refine Ae (vs:=[.b (decide (n>=s.lo)&&decide (n<=s.hi))]) Ake (by simp) (λ_ h=>h) λn0 c=>?_;clear c;simp only[push_cast,reduceEqDiff]
 repeat' (first|(((first|apply Ab|apply Ag|apply Ah)<;>intro _h)<;>(simp only[push_cast,reduceEqDiff,_h];try (have _g:=_h;simp at _g)))|intro _)
 all_goals (refine Bn ?_ (Ct (by simp[lk]));simp[get])
theorem Apx(l:List FR)(n:Int)(e:l.length<2^62):Al Tryz.prog W0 328 [.sl (l.map FR.enc),.i .i64 n] [] (.b (inB l n)) []:=by
 unfold inB;refine Ae (vs:=[.b (l.any λs=>decide (n>=s.lo)&&decide (n<=s.hi))]) Amb (by simp) (by simp) λn0 a=>?_;clear a;simp only[push_cast,reduceEqDiff];intro k1;have c:Al Tryz.prog W0 341 [.sl (l.map FR.enc),.fn 342 [] [.ref (n0,3) 0]] [((n0,3),.box (.i .i64 n))] (.b (l.any λs=>decide (n>=s.lo)&&decide (n<=s.hi))) [((n0,3),.box (.i .i64 n))]:=by rw[<-Gi];exact C3 W0 AiR _ _ _ _ (CE W0 Agl FR.enc l _ _ [] _ _ (λx _=>Ja rfl) (λs _=>Ass W0 s n n0) e)
 refine Bw c (λ_ _ h=>h) ?_;rw[C7];simp only[push_cast]
 repeat' (first|(((first|apply Ab|apply Ag|apply Ah)<;>intro _h)<;>(simp only[push_cast,reduceEqDiff];try (have _g:=_h;simp at _g)))|intro _)
 all_goals (first|(refine Af ?_;simp <;>(intros;omega);done)|(refine Ad ?_;simp[push_cast];done)|skip)
def FX(r:CF)(s:Aa):Bool:=
 if(opV s r.op).2 !=0 then r.neg else inB r.spans (if r.mod !=0 then(opV s r.op).1.tmod r.mod else(opV s r.op).1) !=r.neg
theorem AbU(r:CF)(s:Aa)(e:s.length<=2^30)(c:r.spans.length<2^62):Al Tryz.prog W0 305 [r.enc,.s s] [] (.b (FX r s)) []:=by
 generalize hS:FX r s=S;unfold FX at hS;rw[CF.enc_eq];refine Ae (vs:=[.b S]) AjF (by simp) (by simp) λn0 a=>?_;clear a;simp only[push_cast,reduceEqDiff];have _h:=trivial;repeat' (first|(first|((first|apply Ab|apply Ag|apply Ah)<;>intro _h)|refine Ac (Anb W0 s r.op (by omega)) ?_|refine Ac (Apx W0 r.spans _ c) ?_)<;>(simp only[push_cast,reduceEqDiff];try (have _g:=_h;simp at _g))|intro _)
 all_goals (try (simp only[push_cast,reduceEqDiff,_g]))
 have _h:=trivial;repeat' (first|(first|((first|apply Ab|apply Ag|apply Ah)<;>intro _h)|refine Ac (Apx W0 r.spans _ c) ?_)<;>(simp only[push_cast,reduceEqDiff];try (have _g:=_h;simp at _g))|intro _)
 all_goals subst hS
 all_goals (refine Af ?_;simp[get, *]<;>simp[bne])
theorem YE(r:CF)(s:Aa)(a:Nat)(f:s.length<=2^30)(e:r.spans.length<2^62):Al Tryz.prog W0 304 [r.enc,.ref (a,3) 0] [((a,3),.box (.s s))] (.b (!FX r s)) [((a,3),.box (.s s))]:=by
 have h:=AbU W0 r s f e;rw[CF.enc_eq] at *;refine Ae (vs:=[.b (!FX r s)]) AjA (by simp) (λ_ h=>h) λn0 c=>?_;clear c;simp only[push_cast,reduceEqDiff];have _h:=trivial;repeat' (first|(first|((first|apply Ab|apply Ag|apply Ah)<;>intro _h)|refine Ac h ?_)<;>(simp only[push_cast];try (have _g:=_h;simp at _g))|intro _)
 all_goals (refine Bn ?_ (Ct (by simp[lk]));simp[get])
theorem jM(l:List CF)(s:Aa)(a:Nat)(g:s.length<=2^30)(i:Cx l<=2^30):Al Tryz.prog W0 303 [EQ l,.ref (a,3) 0] [((a,3),.box (.s s))] (.b (!l.any λr=>!FX r s)) [((a,3),.box (.s s))]:=by
 have e:=ES l;have h:=fM W0 l (λr=>!FX r s) 304 [.ref (a,3) 0] [((a,3),.box (.s s))] (λr f=>YE W0 r s a g (by have:=Ib f;rw[CF.wt] at this;omega)) (by omega);rw[QH];generalize(l.any λr=>!FX r s)=A at h;refine Ae (vs:=[.b (!A)]) AiZ (by simp) (λ_ h=>h) λn0 c=>?_;clear c;simp only[push_cast]
 repeat' (first|(((first|apply Ab|apply Ag|apply Ah)<;>intro _h)<;>(simp only[push_cast];try (have _g:=_h;simp at _g)))|intro _)
 refine Bw h (λ_ _ h=>h) ?_;rw[C7];simp only[push_cast]
 repeat' (first|(((first|apply Ab|apply Ag|apply Ah)<;>intro _h)<;>(simp only[push_cast];try (have _g:=_h;simp at _g)))|intro _)
 all_goals (refine Bn ?_ (λ_ _ h=>h);simp[get])
def Rh(c:List (List CF))(s:Aa):Bool:=c.any λl=>!l.any λr=>!FX r s
theorem Aif:Av Tryz.prog 326 19 (M5 172 1 false) ZS=true:=by kernel_rfl
theorem Amw:Av Tryz.prog 302 9 (NB 326) iE=true:=by kernel_rfl
theorem U8(c:List (List CF))(s:Aa)(m:s.length<=2^30)(e:Dh c<=2^30):Al Tryz.prog W0 267 [.sl (c.map EQ),.s s] [] (.tup [.b (HG c&&DI s&&Rh c s),.i .i64 (bif HG c&&DI s then 0 else 1)]) []:=by
 have k:=HY c;generalize f:Rh c s=A;refine Ae (vs:=[.b (HG c&&DI s&&A),.i .i64 (bif HG c&&DI s then 0 else 1)]) Ald (by simp) (by simp) λn0 a=>?_;clear a;simp only[push_cast,reduceEqDiff];intro k1;have g:Al Tryz.prog W0 302 [.sl (c.map EQ),.fn 303 [] [.ref (n0,3) 0]] [((n0,3),.box (.s s))] (.b A) [((n0,3),.box (.s s))]:=by rw[<-f,Rh,<-Gi];exact C3 W0 Amw _ _ _ _ (CE W0 Aif EQ c _ _ [] _ _ (λx _=>nD rfl) (λl j=>jM W0 l s n0 m (Am5 (Ik j) e)) (by omega))
 have _h:=trivial;repeat' (first|(first|((first|apply Ab|apply Ag|apply Ah)<;>intro _h)|refine Ac (XW W0 c e) ?_|refine Ac (G3 W0 s (by omega)) ?_)<;>(simp only[push_cast,reduceEqDiff,_h];try (have _g:=_h;simp at _g))|intro _)
 all_goals (try (refine Bw g (λ_ _ h=>h) ?_;rw[C7];simp only[push_cast,reduceEqDiff]))
 repeat' (first|(((first|apply Ab|apply Ag|apply Ah)<;>intro _h)<;>(simp only[push_cast,reduceEqDiff,_h];try (have _g:=_h;simp at _g)))|intro _)
 all_goals (first|(refine Af ?_;simp[ *]<;>(intros;omega);done)|(refine Ad ?_;simp[push_cast, *];done)|skip)
def Mz:Aa:=[111,116,104,101,114]
def kF:List Aa:=[[122,101,114,111],[111,110,101],[116,119,111],[102,101,119],[109,97,110,121]]
def QT:List Aa:=[[122,101,114,111],[111,110,101],[116,119,111],[102,101,119],[109,97,110,121],[111,116,104,101,114]]
theorem AaT:Al Tryz.prog W0 262 [] [] (.agg (QT.map V.s)) []:=by
 unfold QT;simp only[AlG,Apy];refine Ae (vs:=[.agg [.s [122,101,114,111],.s [111,110,101],.s [116,119,111],.s [102,101,119],.s [109,97,110,121],.s [111,116,104,101,114]]]) Ajs (by simp) (by simp) λn0 a=>?_;clear a;simp only[push_cast,seval]
 repeat' (first|(((first|apply Ab|apply Ag|apply Ah)<;>intro _h)<;>(simp only[push_cast,seval];try (have _g:=_h;simp at _g)))|intro _)
 all_goals (first|(refine Af ?_;simp <;>(intros;omega);done)|(refine Ad ?_;simp[push_cast];done)|skip)
theorem t6:Av Tryz.prog 120 19 (RC 9) z8=true:=by kernel_rfl
theorem AnI:Av Tryz.prog 241 9 (Xr 120) Alu=true:=by kernel_rfl
theorem GX(l:List Aa)(v:Aa)(a:l.length<2^62):Al Tryz.prog W0 241 [.sl (l.map V.s),.s v] [] (.b (l.contains v)) []:=by rw[List.contains_eq_any_beq,<-Gi];exact HB W0 AnI _ _ _ (HV W0 t6 l v a)
theorem zZ(s:Aa):Al Tryz.prog W0 205 [.s s] [] (.b (QT.contains s)) []:=by
 have e:=AaT W0;have a:=GX W0 QT s (by decide);generalize f:QT.contains s=K at a;unfold QT at e a;simp only[AlG,Apy] at e a;refine Ae (vs:=[.b K]) Ajh (by simp) (by simp) λn0 c=>?_;clear c;simp only[push_cast,reduceEqDiff];have _h:=trivial;repeat' (first|(first|((first|apply Ab|apply Ag|apply Ah)<;>intro _h)|refine Ac e ?_)<;>(simp only[push_cast,reduceEqDiff];try (have _g:=_h;simp at _g))|intro _)
 have _h:=trivial;repeat' (first|(first|((first|apply Ab|apply Ag|apply Ah)<;>intro _h)|refine Ac a ?_)<;>(simp only[push_cast];try (have _g:=_h;simp at _g))|intro _)
 all_goals (first|(refine Af ?_;simp <;>(intros;omega);done)|(refine Ad ?_;simp[push_cast];done)|skip)
def Ak0(s:Aa):Bool:=kF.contains s
theorem yT(s:Aa):(!QT.contains s||s==Mz)=!Ak0 s:=by unfold Ak0 QT kF Mz;rw[Ats];simp;grind
def CU(dn:List AF):List AF->Bool
 | []=>true
 | r::rest=>!(!Ak0 r.cls||!HG r.cond||dn.any λx=>x.cls==r.cls)&&CU (dn++[r]) rest
theorem Al7:Av Tryz.prog 266 19 (M5 139 2 true) ZS=true:=by kernel_rfl
theorem AhG:Av Tryz.prog 207 9 (NB 266) iE=true:=by kernel_rfl
theorem Za(x r:AF)(a:Nat):Al Tryz.prog W0 208 [x.enc,.ref (a,4) 0] [((a,4),.box r.enc)] (.b (x.cls==r.cls)) [((a,4),.box r.enc)]:=by
 rw[AF.enc_eq,AF.enc_eq];refine Ae (vs:=[.b (x.cls==r.cls)]) AhV (by simp) (λ_ h=>h) λn0 c=>?_;clear c;simp only[push_cast,reduceEqDiff]
 repeat' (first|(((first|apply Ab|apply Ag|apply Ah)<;>intro _h)<;>(simp only[push_cast,reduceEqDiff];try (have _g:=_h;simp at _g)))|intro _)
 all_goals (refine Bn ?_ (Ct (by simp[lk]));simp[get])
theorem IG(l:List AF)(s:A7 l<=2^30):Al Tryz.prog W0 152 [.sl (l.map AF.enc)] [] (.b (CU [] l)) []:=by
 generalize hS:CU [] l=S;have j:=Fl l;refine Ae (vs:=[.b S]) AkN (by simp) (by simp) λn0 f=>?_;clear f;simp only[push_cast,reduceEqDiff];intros;refine Am l.length (Inv:=λm st=>∃dn rest n,l=dn++rest/\m=rest.length/\CU dn rest=S/\st=⟨[(0,.sl (l.map AF.enc)),(5,.sl (l.map AF.enc)),(6,.i .i64 l.length),(7,.i .i64 dn.length)],[],n⟩) ⟨_,Ak.refl,[],_,_,rfl,rfl,hS,rfl⟩ ?_;clear hS;rintro m _ ⟨dn,rest,n,c,rfl,a,rfl⟩;cases rest with
 | nil=>
  rw[CU] at a;simp only[push_cast,reduceEqDiff,c]
  repeat' (first|(((first|apply Ab|apply Ag|apply Ah)<;>intro _h)<;>(simp only[push_cast,reduceEqDiff,_h];try (have _g:=_h;simp at _g)))|intro _)
  subst a
  all_goals (first|(refine Af ?_;simp <;>(intros;omega);done)|(refine Ad ?_;simp[push_cast];done)|skip)
 | cons r rest=>
  have o:=AM c;have p:=EV (l:=l) (r:=r) (by rw[c];simp);rw[AF.wt] at p;rw[CU,<-yT] at a;unfold Mz at a;have k:∀y∈List.map AF.enc (dn++r::rest),(cells y).length=2:=by intro y q;obtain⟨x,_,rfl⟩:=AmB.1 q;rfl
  obtain⟨A,e⟩:∃A,(dn.any λx=>x.cls==r.cls)=A:=⟨_,rfl⟩;rw[e] at a;simp only[push_cast,reduceEqDiff,c];intro k1 k2;have g:Al Tryz.prog W0 207 [.sl (dn.map AF.enc),.fn 208 [] [.ref (n+1+k1,4) 0]] [((n+1+k1,4),.box r.enc)] (.b A) [((n+1+k1,4),.box r.enc)]:=by rw[<-e,<-Gi];exact C3 W0 AhG _ _ _ _ (CE W0 Al7 AF.enc dn _ _ [] _ _ (λx _=>Ja rfl) (λx _=>Za W0 x r _) (by omega))
  clear e;rw[AF.enc_eq] at g;have _h:=trivial;repeat' (first|(first|((first|apply Ab|apply Ag|apply Ah)<;>intro _h)|refine Ac (zZ W0 r.cls) ?_|refine Ac (XW W0 r.cond (by omega)) ?_)<;>(simp only[push_cast,reduceEqDiff,_h,eq_true k];try (have _g:=_h;simp at _g))|intro _)
  all_goals (try (refine Bw g (λ_ _ h=>h) ?_;rw[C7];simp only[push_cast,reduceEqDiff]))
  repeat' (first|(((first|apply Ab|apply Ag|apply Ah)<;>intro _h)<;>(simp only[push_cast,reduceEqDiff,Ai r (dn:=dn) (by omega)];try (have _g:=_h;simp at _g)))|intro _)
  all_goals (first|(exact⟨_,_,AzS _,Ak.drop1 (by simp[lk]) (AzR _),dn++[r],rest,_,by simp,rfl,by rw[<-a];simp[*],rfl⟩)|skip)
  all_goals subst a
  all_goals (first|(refine Af ?_;simp[ *]<;>(intros;omega);done)|(refine Ad ?_;simp[push_cast, *];done)|skip)
def Ny(s:Aa):List AF->Aa
 | []=>Mz
 | r::rest=>bif Rh r.cond s then r.cls else Ny s rest
def C9(l:List AF)(s:Aa):Aa×Int:=bif CU [] l&&DI s then(Ny s l,0) else([],1)
theorem RQ{dn rest:List AF}(h:CU dn rest=true):∀r∈rest,HG r.cond=true:=by
 induction rest generalizing dn with
 | nil=>intro r a;cases a
 | cons x rest b=>rw[CU] at h;grind
theorem WR(l:List AF)(s:Aa)(t:s.length<=2^30)(j:A7 l<=2^30):Al Tryz.prog W0 210 [.sl (l.map AF.enc),.s s] [] (.tup [.s (C9 l s).1,.i .i64 (C9 l s).2]) []:=by
 generalize hS:C9 l s=S;have q:=Fl l;unfold C9 at hS;have b:=U8 W0 [[⟨2,0,true,[⟨0,0⟩]⟩]] s t (by decide);rw[show HG [[⟨2,0,true,[⟨0,0⟩]⟩]]=true by decide,Au4] at b;simp only[AlG,Apy,QH,CF.enc_eq,FR.enc_eq] at b;generalize Rh [[⟨2,0,true,[⟨0,0⟩]⟩]] s=w at b;rcases Ay4 (DI s) with h|h
 all_goals (rw[h] at b hS;simp only[Au4,AxA,Ax6,AyS,cond_true,cond_false] at b hS)
 .rcases Ay4 (CU [] l) with f|f
  all_goals (rw[f] at hS;simp only[cond_true,cond_false] at hS;subst hS)
  .have o:=RQ f;generalize hS:Ny s l=S;have g:=IG W0 l j;rw[f] at g;refine Ae (vs:=[.s S,.i .i64 0]) SH (by simp) (by simp) λn0 a=>?_;clear a;simp only[push_cast,seval,reduceEqDiff];have _h:=trivial;repeat' (first|(first|((first|apply Ab|apply Ag|apply Ah)<;>intro _h)|refine Ac g ?_|refine Ac b ?_)<;>(simp only[push_cast,seval,reduceEqDiff,_h];try (have _g:=_h;simp at _g))|intro _)
   refine Am l.length (Inv:=λm st=>∃dn rest n,l=dn++rest/\m=rest.length/\Ny s rest=S/\st=⟨[(1,.s s),(29,.sl (l.map AF.enc)),(30,.i .i64 l.length),(31,.i .i64 dn.length)],[],n⟩) ⟨_,Ak.refl,[],_,_,rfl,rfl,hS,rfl⟩ ?_;clear hS;rintro m _ ⟨dn,rest,n,e,rfl,c,rfl⟩;cases rest with
   | nil=>
    rw[Ny] at c;unfold Mz at c;subst c;simp only[push_cast,seval,reduceEqDiff,e]
    repeat' (first|(((first|apply Ab|apply Ag|apply Ah)<;>intro _h)<;>(simp only[push_cast,seval,reduceEqDiff,_h];try (have _g:=_h;simp at _g)))|intro _)
    all_goals (first|(refine Af ?_;simp[get]<;>(intros;omega);done)|(refine Ad ?_;simp[push_cast,get];done)|skip)
   | cons r rest=>
    have u:=AM e;have v:=EV (l:=l) (r:=r) (by rw[e];simp);rw[AF.wt] at v;have k:=o r (by rw[e];simp);have p:=U8 W0 r.cond s t (by omega);rw[k,h] at p;simp only[Au4,Ax6,cond_true] at p;rw[Ny] at c;simp only[push_cast,seval,reduceEqDiff,e,Ai r (dn:=dn) (by omega)];have _h:=trivial;repeat' (first|(first|((first|apply Ab|apply Ag|apply Ah)<;>intro _h)|refine Ac p ?_)<;>(simp only[push_cast,seval,reduceEqDiff,_h,e,Ai r (dn:=dn) (by omega)];try (have _g:=_h;simp at _g))|intro _)
    all_goals (first|(exact⟨_,_,AzS _,Ak.drop1 (by simp[lk]) (AzR _),dn++[r],rest,_,by simp,rfl,by rw[<-c];simp[*],rfl⟩)|skip)
    all_goals subst c
    all_goals (first|(refine Af ?_;simp[get, *]<;>(intros;omega);done)|(refine Ad ?_;simp[push_cast,get, *];done)|skip)
  .have g:=IG W0 l j;rw[f] at g;refine Ae (vs:=[.s [],.i .i64 1]) SH (by simp) (by simp) λn0 a=>?_;clear a;simp only[push_cast,seval,reduceEqDiff];have _h:=trivial;repeat' (first|(first|((first|apply Ab|apply Ag|apply Ah)<;>intro _h)|refine Ac g ?_)<;>(simp only[push_cast,seval,reduceEqDiff,_h];try (have _g:=_h;simp at _g))|intro _)
   all_goals (first|(refine Af ?_;simp[get]<;>(intros;omega);done)|(refine Ad ?_;simp[push_cast,get];done)|skip)
 .subst hS;refine Ae (vs:=[.s [],.i .i64 1]) SH (by simp) (by simp) λn0 a=>?_;clear a;simp only[push_cast,seval,reduceEqDiff];have _h:=trivial;repeat' (first|(first|((first|apply Ab|apply Ag|apply Ah)<;>intro _h)|refine Ac (IG W0 l j) ?_|refine Ac b ?_)<;>(simp only[push_cast,seval,reduceEqDiff,_h];try (have _g:=_h;simp at _g))|intro _)
  all_goals (first|(refine Af ?_;simp[get]<;>(intros;omega);done)|(refine Ad ?_;simp[push_cast,get];done)|skip)

end Go.Ir

namespace Go.Ir
open Go.Proofs
variable{P:Program}{W0:World}{nt n:Nat}{Q:Exit→St→Prop}{env:A9}{σ:Aj}

end Go.Ir

namespace Go.Ir
open Go.Proofs
variable(W0:World)
theorem Ro{W0:World}{nt n s:Nat}{env:A9}{σ:Aj}{id:Id}{e sz:Nat}{es:List V}(p:get env s=.arr id)(o:∀y∈es,y.ok=true)(m:lk σ id=some (.arr e sz es)):KC W0 nt [.t s] [.sl es] [] .ret ⟨env,σ,n⟩:=by
 refine⟨⟨[(s,.sl es)],[],n⟩,Ak.weak (λi=>if i=id then some es else none) (λi es' h=>?_) (λt=>?_) (λi q h=>by cases h) (AzR _),⟨by simp[Dp,get],trivial⟩,λ_ _ h=>by cases h⟩
 .split at h
  .rename_i j;subst j;cases h;exact⟨⟨e,sz,m⟩,rfl⟩
  .cases h
 .by_cases f:s=t
  .subst f;rw[p];simp only[get];refine .arr id es es (by simp) rfl (λk c g b a=>?_) (λk c g b a=>?_)
   .rw[b] at a;cases a;exact .refl _
   grind
  .simp only[get,if_neg f];exact .any _
def lH:Aa->Bool
 | []=>false
 | c::_=>(c.toNat:Int)==61
def Ap4(a:Int)(k:Aa):Bool:=!(k==CN)&&(a==9||lH k)
def AvD(b:Int)(a:List Aa):List Aa:=if b==9 then[] else kF.filter λk=>a.contains k
def AvH(b:Int)(a:List Aa):List Aa:=a.filter (Ap4 b)++(AvD b a++[CN])
theorem Rn{P:Program}{W0:World}{nt:Nat}{c:IC}{Q:Exit->St->Prop}{st a:St}(h:Ak W0 nt st a)(k:GT P W0 nt c Q a):GT P W0 nt c Q st:=by unfold GT at *;exact U6 h k
theorem Xv{a:Type}(p:a->Bool)(l:List a):B7 p l<l.length:=by
 induction l with
 | nil=>simp[B7]
 | cons x l b=>simp only[B7,AiL];grind
def E7.enc(s:E7):V:=.agg [.i .i64 s.kind,.s s.name,.sl (s.keys.map V.s)]
@[push_cast] theorem E7.enc_eq(s:E7):s.enc=.agg [.i .i64 s.kind,.s s.name,.sl (s.keys.map V.s)]:=rfl
def E7.ord(s:E7):E7:={ s with keys:=AvH s.kind s.keys }
def Rg(ps:List Aw):List E7:=(Kc ps []).map E7.ord
theorem rQ{W0:World}{nt n s:Nat}{env:A9}{σ:Aj}(b:get env s=.nil):KC W0 nt [.t s] [.sl []] [] .ret ⟨env,σ,n⟩:=by
 refine⟨⟨[(s,.sl [])],[],n⟩,Ak.weak (λi=>none) (λi es' h=>by cases h) (λt=>?_) (λi c h=>by cases h) (AzR _),⟨by simp[Dp,get],trivial⟩,λ_ _ h=>by cases h⟩;by_cases a:s=t
 .subst a;rw[b];simp only[get];exact .nil
 .simp only[get,if_neg a];exact .any _



def QE(n:Nat):List E7->Nat
 | []=>n
 | s::l=>if 400<n*s.keys.length then n*s.keys.length else QE (n*s.keys.length) l
def Acf(l:Loc)(a:Int):List AF:=if a==8 then l.ord else l.card
def Aq0(o:List Aw)(x:Aw):List Aw:=match o.getLast? with
 | none=>[x]
 | some y=>if x.kind==1&&y.kind==1 then o.dropLast++[{ y with text:=y.text++x.text }] else o++[x]
theorem Abt{W0:World}{nt n s:Nat}{env:A9}{σ:Aj}{id:Id}{x:A5}(b:get env s=.arr id)(a:lk σ id=some x):AfC W0 nt s x [] .ret ⟨env,σ,n⟩:=
 ⟨_,Ak.refl,id,b,a,rfl,λ_ _ h=>by cases h⟩
end Go.Ir
section
namespace Go.Ir
def xZ{a:Type}(cs:List (Aa×a))(k:Aa):Option a:=(cs.find? λc=>c.1==k).map (·.2)
def AoX{c:Type}(b:Aa->Aa)(a:Int)(cs:List (Aa×c))(key:Aa):Option c:=
 (xZ cs key).or ((if lH key&&a !=9 then xZ cs (b key.tail) else none).or (xZ cs CN))
abbrev qC:=Int->Aa->List (Aa×List Aw)->List Aw
mutual
def Aw.res(c:qC)(a:Aa):Aw->List Aw->List Aw
 | ⟨k,t,b,st,cs,ps⟩,out=>
  if Dc k then(c k b (AdI c (if k==9 then a else b) cs)).foldl Aq0 out
  else if k==10 then out++[⟨3,[],a,[],[],[]⟩]
  else if k==11 then out++[⟨k,t,b,st,cs,XM c a ps []⟩]
  else Aq0 out ⟨k,t,b,st,cs,ps⟩
def XM(b:qC)(a:Aa):List Aw->List Aw->List Aw
 | [],out=>out
 | p::ps,out=>XM b a ps (p.res b a out)
def AdI(b:qC)(a:Aa):List (Aa×List Aw)->List (Aa×List Aw)
 | []=>[]
 | (k,ps)::cs=>(k,XM b a ps [])::AdI b a cs
end
end Go.Ir
end
namespace Go.Ir
open Go.Proofs
variable(W0:World)
def Avg(l:Loc)(a:Int)(n:Aa):Aa:=(C9 (Acf l a) n).1
end Go.Ir
section
namespace Go.Ir
open Go.Proofs
variable(W0:World)
mutual
def Aw.all(f:Aw->Prop):Aw->Prop
 | ⟨k,t,a,st,cs,ps⟩=>f ⟨k,t,a,st,cs,ps⟩/\AdE f cs/\UT f ps
def UT(f:Aw->Prop):List Aw->Prop
 | []=>True
 | p::ps=>p.all f/\UT f ps
def AdE(f:Aw->Prop):List (Aa×List Aw)->Prop
 | []=>True
 | (k,ps)::cs=>UT f ps/\AdE f cs
end
def Aq5(L:List E7)(a:List Aa)(k:Int)(b:Aa):Aa:=a[(HA L k b).toNat]?.getD []
def pkP(l:Loc)(L:List E7)(a:List Aa):qC:=λk b cs=>(AoX (Avg l k) k cs (Aq5 L a k b)).getD []
end Go.Ir
end
namespace Go.Ir
open Go.Proofs
variable{P:Program}{W0:World}{nt n:Nat}{Q:Exit→St→Prop}{env:A9}{σ:Aj}
end Go.Ir

namespace Go.Ir
open Go.Proofs
variable(W0:World)
end Go.Ir

namespace Go.Ir
open Go.Proofs
variable{P:Program}{W0:World}{nt n:Nat}{Q:Exit→St→Prop}{env:A9}{σ:Aj}
def AeJ:IC:=oS [bX 2 0,mC 3 (.b false)] [1,2] (oR [fA 4 2 0,l1 5 4,l1 6 1,bT 7 .eql 5 6,m1 3 7] [3])
@[push_cast]def AvE:List R:=[.t 3]
@[push_cast]def AxC:=AL AeJ.eq_1
theorem AnX:Av Tryz.prog 65 8 AeJ AvE=true:=by kernel_rfl
def cV:IC:=oS [m1 14 0,m1 15 6,iA 16 14 15 62 5,lA 17 16 5,o1 7 (.alloc (.agg [.s [],.i .i64 0,.s [],.i .i64 0,.nil])),sT 7 17 5] [4,7] (oS [fA 18 7 4,l1 19 18,q1 20 66 19,fA 21 7 4,sT 21 20 1] [4,7] (oR [lA 22 7 5,sT 4 22 5,mC 5 (.b true)] [4,5]))
def Agf:IC:=sQ (oS [m1 11 6,bZ 12 .lss 11 0] [0,4,6,12] (cD 12 (oR [o1 13 (.build [.s [],.i .i64 0,.s [],.i .i64 0,.nil] []),sT 4 13 5,mC 5 (.b false)] [4,5]) .skip)) cV
def Af4:IC:=oS [bX 3 1,o1 4 (.alloc (.agg [.s [],.i .i64 0,.s [],.i .i64 0,.nil])),mC 5 (.b false)] [0,3,4] (oS [m1 8 0,o1 9 (.mkfn 65 [] [.t 3]),o1 10 (.calls 64 [.t 8,.t 9]),m1 6 10] [0,4,6] Agf)
@[push_cast]def AtG:List R:=[.c 4 5 true,.t 5]
@[push_cast]def AyD:=Aq cV.eq_1<|Aq Agf.eq_1<|AL Af4.eq_1
theorem ApP:Av Tryz.prog 39 23 Af4 AtG=true:=by kernel_rfl
def gE:IC:=oR [fA 18 1 2,l1 19 18,q1 20 67 19,m1 21 20,Dv 22 21 1 3,Db 23 21 22,C8 24 21 .eql 23 0,pA 25 21 24,m1 26 25,Dv 27 26 1 4,Db 28 26 27,gT 29 26 (.lenL (.t 28)),C8 30 26 .eql 29 0,pA 31 26 30,m1 2 31] [2]
def xS:IC:=oR [fA 34 1 2,l1 35 34,bC 36 .eql 35 (.s []),m1 37 36,Dv 38 37 1 4,Db 39 37 38,gT 40 37 (.lenL (.t 39)),C8 41 37 .eql 40 0,pA 42 37 41,m1 2 42] [2]
def uV:IC:=oS [bZ 44 .eql 4 4,m1 43 44] [1,43] (cD 43 (oR [fA 45 1 2,l1 46 45,bC 47 .eql 46 (.s []),m1 48 47,Dv 49 48 1 3,Db 50 48 49,C8 51 48 .eql 50 0,pA 52 48 51,m1 2 52] [2]) .skip)
def Aei:IC:=.block 0 (oS [bZ 6 .eql 4 1,m1 5 6] [1,4,5] (cD 5 (oR [fA 7 1 3,l1 8 7,bZ 9 .eql 8 0,m1 10 9,Dv 11 10 1 4,Db 12 10 11,gT 13 10 (.lenL (.t 12)),C8 14 10 .eql 13 0,pA 15 10 14,m1 2 15] [2]) (oS [bZ 17 .eql 4 2,m1 16 17] [1,4,16] (cD 16 gE (oS [bZ 33 .eql 4 3,m1 32 33] [1,4,32] (cD 32 xS uV))))))
def AeF:IC:=oS [bX 1 0,mC 2 (.b false)] [1] (sQ (oS [fA 3 1 1,l1 4 3] [1,4] Aei) (oR [mC 2 (.b false)] [2]))
@[push_cast]def Avx:List R:=[.t 2]
@[push_cast]def AyA:=Aq gE.eq_1<|Aq xS.eq_1<|Aq uV.eq_1<|Aq Aei.eq_1<|AL AeF.eq_1
theorem Arb:Av Tryz.prog 40 53 AeF Avx=true:=by kernel_rfl
def sM:IC:=sQ (.block 3 (oP [m1 28 4,m1 29 0,m1 30 3,iA 31 29 30 62 5,fA 32 31 4,l1 33 32,m1 34 5,iA 35 33 34 9 1,l1 36 35,nS 37 36,o1 38 (.mx false (.t 28) [.t 37]),m1 4 38] [0,3,4,5])) (oP [m1 26 5,bZ 27 .add 26 1,m1 5 27] [0,3,4,5])
def mQ:IC:=oS [m1 39 4,bZ 40 .gtr 39 200,m1 41 40,Br 42 41 0,Br 43 41 3,gF 44 41 (.iaddr (.t 42) (.t 43) 62 5),Du 45 41 44 4,CM 46 41 45,gF 47 41 (.lenL (.t 46)),Dg 48 41 .gtr 47 12,pO 49 41 48,m1 50 49,Br 51 50 0,Br 52 50 3,gF 53 50 (.iaddr (.t 51) (.t 52) 62 5),Du 54 50 53 0,CM 55 50 54,gF 56 50 (.lenS (.t 55)),Dg 57 50 .gtr 56 60,pO 58 50 57] [0,3,58] (cD 58 (oR [mC 2 (.b false)] [2]) .skip)
def pN:IC:=sQ (.block 1 (oS [m1 12 0,m1 13 3,iA 14 12 13 62 5,fA 15 14 2,l1 16 15,nS 17 16,m1 4 17] [0,3,4] (sQ (oS [mZ 5 0] [0,3,4,5] (.block 2 (.loop (sQ (oS [m1 18 5,m1 19 0,m1 20 3,iA 21 19 20 62 5,fA 22 21 4,l1 23 22,nL 24 23,bT 25 .lss 18 24] [0,3,4,5,25] (cD 25 .skip (.exit 2))) sM)))) mQ))) (oP [m1 10 3,bZ 11 .add 10 1,m1 3 11] [0,3])
def AfQ:IC:=oS [mC 2 (.b false)] [0] (sQ (oS [mZ 3 0] [0,3] (.block 0 (.loop (sQ (oS [m1 6 3,m1 7 0,nL 8 7,bT 9 .lss 6 8] [0,3,9] (cD 9 .skip (.exit 0))) pN)))) (oR [m1 59 0,nL 60 59,bZ 61 .leq 60 30,m1 2 61] [2]))
@[push_cast]def AuK:List R:=[.t 2]
@[push_cast]def AxD:=Aq sM.eq_1<|Aq mQ.eq_1<|Aq pN.eq_1<|AL AfQ.eq_1
theorem An3:Av Tryz.prog 18 62 AfQ AuK=true:=by kernel_rfl
def Aft:IC:=sQ (oS [m1 3 0,o1 4 (.pu (.isnil false) [.t 3])] [0,4] (cD 4 (oR [mC 2 .nil] [2]) .skip)) (oR [o1 5 (.msl true 9 1 []),m1 6 0,o1 7 (.app (.t 5) (.t 6) 9 1),m1 2 7] [2])
def Ad0:IC:=oS [mC 2 .nil] [0] Aft
@[push_cast]def Avb:List R:=[.t 2]
@[push_cast]def AxS:=Aq Aft.eq_1<|AL Ad0.eq_1
theorem ArO:Av Tryz.prog 66 8 Ad0 Avb=true:=by kernel_rfl
end Go.Ir

namespace Go.Ir
open Go.Proofs
variable(W0:World)
structure BC where
 name:Aa
 type:Int
 text:Aa
 date:Int
 list:List Aa
def BC.enc(v:BC):V:=.agg [.s v.name,.i .i64 v.type,.s v.text,.i .i64 v.date,.sl (v.list.map V.s)]
def BC.wt(v:BC):Nat:=1+v.name.length+v.text.length+v.list.length
theorem BC.enc_eq(v:BC):v.enc=.agg [.s v.name,.i .i64 v.type,.s v.text,.i .i64 v.date,.sl (v.list.map V.s)]:=rfl
def Ala:V:=.agg [.s [],.i .i64 0,.s [],.i .i64 0,.nil]
def JG:List BC->Aa->Option BC
 | [],_=>none
 | v::vs,n=>if v.name==n then some v else JG vs n
def gV:Option BC->V
 | none=>Ala
 | some v=>v.enc
def eZ(o:Option BC):V:=.tup [gV o,.b o.isSome]
theorem Jv{vs:List BC}{n:Aa}{v:BC}(h:JG vs n=some v):v∈vs:=by
 induction vs with
 | nil=>cases h
 | cons x vs a=>rw[JG] at h;grind
theorem zX(v:BC)(n:Aa)(a:Id)(σ:Aj)(f:lk σ a=some (.box (.s n))):Al Tryz.prog W0 65 [v.enc,.ref a 0] σ (.b (v.name==n)) σ:=by
 refine Ae (vs:=[.b (v.name==n)]) AnX (by simp) (λ_ h=>h) λn0 c=>?_;have g:∀j,((n0,j)=a)=False:=λj=>AjY (c _ _ f);simp only[push_cast,reduceEqDiff,g,f,BC.enc_eq]
 repeat' (first|(((first|apply Ab|apply Ag|apply Ah)<;>intro _h)<;>simp only[push_cast,reduceEqDiff,g,f,BC.enc_eq])|intro _)
 all_goals (refine Bn (by simp[get]) (λi e h=>vU (c i e h) h))
theorem oY(l:List Aa):∀y∈l.map V.s,y.ok=true:=by intro y a;obtain⟨x,_,rfl⟩:=AmB.1 a;rfl
theorem Aob(l:List Aa):∀y∈l.map V.s,(cells y).length=1:=by intro y a;obtain⟨x,_,rfl⟩:=AmB.1 a;rfl
theorem kZ(l:List Aa)(g:l.length<=2^30):Al Tryz.prog W0 66 [.sl (l.map V.s)] [] (.sl (l.map V.s)) []:=by
 refine Ae (vs:=[.sl (l.map V.s)]) ArO (by simp) (by simp) λn0 f=>?_;clear f;have b:l.length<=AI:=by unfold AI;omega
 cases l with
 | nil=>
  simp only[push_cast,reduceEqDiff,eq_true (show 0<=AI by decide)];intros;refine⟨?_,?_⟩
  .intros;exact rQ rfl
  .intros;exact Ro (e:=9) (sz:=1) rfl (oY []) (by simp[lk])
 | cons c cs=>have a:=Aob (c::cs);rw[AlG] at a;rw[AlG] at *;rw[AiL] at b;simp only[push_cast,reduceEqDiff,eq_true a,eq_true b];intros;exact Ro (e:=9) (sz:=1) rfl (oY (c::cs)) (by simp[lk])
theorem Aq2(v:BC):Rk true 5 v.enc:=Ja rfl
theorem Aoq:Av Tryz.prog 64 19 (M5 62 5 true) ZS=true:=by kernel_rfl
theorem AuT(vs:List BC)(n:Aa):(B7 (λv=>v.name==n) vs<0/\JG vs n=none)\/∃(j:Nat) (v:BC),B7 (λv=>v.name==n) vs=(j:Nat)/\vs[j]?=some v/\JG vs n=some v:=by
 induction vs with
 | nil=>left;exact⟨by simp[B7],rfl⟩
 | cons x vs b=>
  rw[JG];cases a:(x.name==n) with
  | true=>right;exact⟨0,x,by simp[B7,a],rfl,rfl⟩
  | false=>
   rcases b with⟨h1,h2⟩|⟨j,v,h1,h2,h3⟩
   .left;refine⟨?_,by simpa using h2⟩;simp[B7,a,h1]
   .right;refine⟨j+1,v,?_,by simpa using h2,by simpa using h3⟩;simp only[B7,a,cond_false,h1];omega
theorem Qa(vs:List BC)(n:Aa)(q:vs.length<=2^40)(p:∀v∈vs,v.list.length<=2^30):Al Tryz.prog W0 39 [.sl (vs.map BC.enc),.s n] [] (eZ (JG vs n)) []:=by
 have g:=λe σ o=>CE W0 Aoq BC.enc vs (λv=>v.name==n) 65 [] [.ref e 0] σ (λx _=>Aq2 x) (λx _=>zX W0 x n e σ o) (by omega);unfold eZ;refine Ae (vs:=[gV (JG vs n),.b (JG vs n).isSome]) ApP (by simp) (by simp) λn0 i=>?_;clear i;simp only[push_cast,seval,reduceEqDiff];intro k1;refine Bw (g (n0,3) _ (by simp[lk])) (λ_ _ h=>h) ?_;rw[C7];rcases AuT vs n with⟨h1,h2⟩|⟨j,v,h1,h2,h3⟩
 .have f:decide (B7 (λv=>v.name==n) vs<0)=true:=by simpa using h1
  rw[h2];simp only[push_cast,seval,reduceEqDiff,f];intros;refine Ad ?_;simp[push_cast,get,gV,Ala]
 .have m:=kZ W0 v.list (p v (Jv h3));have a:(vs.map BC.enc)[j]?=some v.enc:=by grind
  have k:=(Af8.1 h2).1;have c:decide ((j:Int)<0)=false:=by simp
  rw[h3,h1];simp only[push_cast,seval,reduceEqDiff,c,a,if_pos k,BC.enc_eq,Abn];have _h:=trivial;repeat' (first|(first|((first|apply Ab|apply Ag|apply Ah)<;>intro _h)|refine Ac m ?_)<;>simp only[push_cast,seval,reduceEqDiff,_h,c,a,if_pos k,BC.enc_eq,Abn]|intro _)
  refine Ad ?_;simp[push_cast,get,gV,BC.enc_eq]
def Js(v:BC):Bool:=
 if v.type==1 then v.date==0&&(v.list.length:Int)==0 else if v.type==2 then DI v.text&&v.date==0&&(v.list.length:Int)==0
 else if v.type==3 then v.text==[]&&(v.list.length:Int)==0 else if v.type==4 then v.text==[]&&v.date==0 else false
theorem NE(v:BC)(e:v.text.length<=2^30):Al Tryz.prog W0 40 [v.enc] [] (.b (Js v)) []:=by
 have c:=G3 W0 v.text (by omega);generalize hS:Js v=S;unfold Js at hS;refine Ae (vs:=[.b S]) Arb (by simp) (by simp) λn0 a=>?_;clear a;simp only[push_cast,reduceEqDiff,BC.enc_eq];have _h:=trivial;repeat' (first|(first|((first|apply Ab|apply Ag|apply Ah)<;>intro _h)|refine Ac c ?_)<;>simp only[push_cast,reduceEqDiff,_h]|intro _)
 all_goals (refine Af ?_;simp only[Bv, *] at hS⊢;grind)
def ApZ(s:Aa):Bool:=s==[]||s==[105,110,116,101,103,101,114]||s==[112,101,114,99,101,110,116]
def zT(k:Int)(t a st:Aa)(c q:Int):Bool:=
 if k==1 then !(t==[])&&(a==[]&&(st==[]&&(c==0&&q==0)))
 else if k==10 then t==[]&&(a==[]&&(st==[]&&(c==0&&q==0)))
 else De a&&(t==[]&&(
  if k==2 then st==[]&&(c==0&&q==0)
  else if k==11 then st==[]&&c==0
  else if k==7||k==8||k==9 then st==[]&&q==0
  else if k==3 then ApZ st&&(c==0&&q==0)
  else if k==4||k==6 then De st&&(c==0&&q==0)
  else if k==5 then E6 st&&(c==0&&q==0)
  else false))
def Aw.fieldsB(p:Aw):Bool:=zT p.kind p.text p.name p.style p.cases.length p.parts.length
end Go.Ir

namespace Go.Ir
open Go.Proofs
variable{P:Program}{W0:World}{nt n:Nat}{Q:Exit→St→Prop}{env:A9}{σ:Aj}
def kS:IC:=oR [o1 1 (.mkm .mkmap []),o0 (.wrm (.mput .str) (.t 1) [.c (.s [110,117,109,98,101,114]),ci 3]),o0 (.wrm (.mput .str) (.t 1) [.c (.s [117,110,105,116]),ci 4]),o0 (.wrm (.mput .str) (.t 1) [.c (.s [100,97,116,101]),ci 5]),o0 (.wrm (.mput .str) (.t 1) [.c (.s [108,105,115,116]),ci 6]),o0 (.wrm (.mput .str) (.t 1) [.c (.s [112,108,117,114,97,108]),ci 7]),o0 (.wrm (.mput .str) (.t 1) [.c (.s [111,114,100,105,110,97,108]),ci 8]),o0 (.wrm (.mput .str) (.t 1) [.c (.s [115,101,108,101,99,116]),ci 9]),m1 2 1,m1 0 2] [0]
def cJ:IC:=oS [mC 0 .nm] [] kS
@[push_cast]def Ars:List R:=[.t 0]
@[push_cast]def AwO:=Aq kS.eq_1<|AL cJ.eq_1
theorem Ajf:Av Tryz.prog 134 3 cJ Ars=true:=by kernel_rfl
def vF:IC:=.ops [m1 96 3,fA 97 5 2,l1 98 97,nS 99 98,o1 100 (.bin .add (ci 2) (.t 99)),fA 101 5 5,l1 102 101,q1 103 96 102,bT 104 .add 100 103,bT 105 .add 96 104,m1 3 105] [3,10,11,12] [[1,2],[2,3],[3,4],[5,6],[6,7],[4,8],[7,8],[0,9],[8,9],[0,10],[9,10]]
def xH:IC:=oS [m1 86 3,fA 87 5 2,l1 88 87,nS 89 88,o1 90 (.bin .add (ci 3) (.t 89)),bT 91 .add 86 90,m1 3 91] [3,5,10,11,12] (oS [fA 92 5 5,l1 93 92,nL 94 93,bZ 95 .gtr 94 0] [3,5,10,11,12,95] (cD 95 vF .skip))
def fZ:IC:=oS [m1 31 7,fA 32 5 0,l1 33 32,bT 34 .eql 31 33] [3,5,6,10,11,12,25,34] (cD 34 (oP [m1 35 3,m1 36 6,nS 37 36,o1 38 (.bin .add (ci 2) (.t 37)),bT 39 .add 35 38,m1 3 39] [3,5,10,11,12,25]) .skip)
def iR:IC:=sQ (.mnext 26 27 (.t 25) [3,5,10,11,12,25,27]) (sQ (cD 27 .skip (.exit 3)) (.block 4 (oS [o1 28 (.mentry (.t 25)),xT 29 28 0,xT 30 28 1,m1 6 29,m1 7 30] [3,5,6,7,10,11,12,25] fZ)))
def wP:IC:=.ops [m1 61 3,fA 62 9 0,l1 63 62,nS 64 63,o1 65 (.bin .add (ci 4) (.t 64)),fA 66 9 1,l1 67 66,q1 68 96 67,bT 69 .add 65 68,bT 70 .add 61 69,m1 3 70] [3,10,11,12,55,56,57] [[1,2],[2,3],[3,4],[5,6],[6,7],[4,8],[7,8],[0,9],[8,9],[0,10],[9,10]]
def cB:IC:=sQ (.block 6 (oS [iA 59 55 57 118 2,lA 60 59 2,o1 9 (.alloc (.agg [.s [],.nil])),sT 9 60 2] [3,9,10,11,12,55,56,57] wP)) (oP [bZ 71 .add 57 1,m1 57 71] [3,10,11,12,55,56,57])
def dI:IC:=oS [fA 54 5 4,l1 55 54,nL 56 55,mZ 57 0] [3,10,11,12,55,56,57] (.block 5 (.loop (oS [bT 58 .lss 57 56] [3,10,11,12,55,56,57,58] (sQ (cD 58 .skip (.exit 5)) cB))))
def l9:IC:=sQ (oS [fA 40 5 3,l1 41 40,bC 42 .neq 41 (.s [])] [3,5,10,11,12,42] (cD 42 (oP [m1 43 3,fA 44 5 3,l1 45 44,nS 46 45,o1 47 (.bin .add (ci 2) (.t 46)),bT 48 .add 43 47,m1 3 48] [3,5,10,11,12]) .skip)) (sQ (oS [fA 49 5 0,l1 50 49,q1 51 79 50] [3,5,10,11,12,51] (cD 51 (oP [m1 52 3,bZ 53 .add 52 1,m1 3 53] [3,5,10,11,12]) .skip)) dI)
def bY:IC:=oS [m1 18 3,fA 19 5 2,l1 20 19,nS 21 20,o1 22 (.bin .add (ci 2) (.t 21)),bT 23 .add 18 22,m1 3 23] [3,5,10,11,12] (sQ (oS [o1 24 (.calln 134 []),o1 25 (.mrange (.t 24))] [3,5,10,11,12,25] (.block 3 (.loop iR))) l9)
def kH:IC:=cD 72 (oP [m1 74 3,fA 75 5 1,l1 76 75,q1 77 133 76,nS 78 77,bT 79 .add 74 78,m1 3 79] [3,10,11,12]) (oS [bZ 81 .eql 17 10,m1 80 81] [3,5,10,11,12,17,80] (cD 80 (oP [m1 82 3,bZ 83 .add 82 1,m1 3 83] [3,10,11,12]) (oS [bZ 85 .eql 17 11,m1 84 85] [3,5,10,11,12,84] (cD 84 xH bY))))
def dM:IC:=sQ (.block 1 (oS [iA 14 10 12 116 6,lA 15 14 6,o1 5 (.alloc (.agg [.i .i64 0,.s [],.s [],.s [],.nil,.nil])),sT 5 15 6] [3,5,10,11,12] (oS [fA 16 5 0,l1 17 16] [3,5,10,11,12,17] (.block 2 (oS [bZ 73 .eql 17 1,m1 72 73] [3,5,10,11,12,17,72] kH))))) (oP [bZ 106 .add 12 1,m1 12 106] [3,10,11,12])
def Aga:IC:=sQ (oS [m1 10 0,nL 11 10,mZ 12 0] [3,10,11,12] (.block 0 (.loop (oS [bT 13 .lss 12 11] [3,10,11,12,13] (sQ (cD 13 .skip (.exit 0)) dM))))) (oR [m1 107 3,m1 2 107] [2])
def Adz:IC:=oS [mZ 2 0] [0] (oS [mZ 3 0] [0,3] Aga)
@[push_cast]def Auz:List R:=[.t 2]
@[push_cast]def Ax7:=Aq vF.eq_1<|Aq xH.eq_1<|Aq fZ.eq_1<|Aq iR.eq_1<|Aq wP.eq_1<|Aq cB.eq_1<|Aq dI.eq_1<|Aq l9.eq_1<|Aq bY.eq_1<|Aq kH.eq_1<|Aq dM.eq_1<|Aq Aga.eq_1<|AL Adz.eq_1
theorem Apn:Av Tryz.prog 96 108 Adz Auz=true:=by kernel_rfl
end Go.Ir
section
namespace Go.Ir
open Go.Proofs
variable(W0:World)
mutual
def Aw.chk:Aw->Int->Bool->List Aa->Bool×List Aa
 | ⟨k,t,b,st,cs,ps⟩,d,c,l=>
  match(if k==11 then(if decide (d>=8) then(false,l) else RE ps (d+1) c false l) else(true,l)) with
  | (false,l1)=>(false,l1)
  | (true,l1)=>match(if Dc k then(if decide (d>=8) then(false,l1) else Aea cs k (d+1) c cs.length [] l1) else(true,l1)) with
   | (false,a)=>(false,a)
   | (true,a)=>(true,if !(k==11)&&!(b==[]) then Av8 b a else a)
def RE:List Aw->Int->Bool->Bool->List Aa->Bool×List Aa
 | [],_,_,_,l=>(true,l)
 | p::ps,d,c,a,l=>
  if !p.fieldsB||(p.kind==10&&!c)||(a&&p.kind==1) then(false,l) else
  match p.chk d c l with
  | (false,l1)=>(false,l1)
  | (true,l1)=>RE ps d c (p.kind==1) l1
def Aea:List (Aa×List Aw)->Int->Int->Bool->Nat->List Aa->List Aa->Bool×List Aa
 | [],_,_,_,n,seen,l=>(decide ((n:Int)<=20)&&seen.contains CN,l)
 | (key,ps)::cs,k,d,c,n,seen,l=>
  if !Qy k key||seen.contains key then(false,l) else
  match RE ps d (c||(k !=9)) false l with
  | (false,l1)=>(false,l1)
  | (true,l1)=>Aea cs k d c n (seen++[key]) l1
end
end Go.Ir
end
namespace Go.Ir
open Go.Proofs
variable(W0:World)
end Go.Ir

namespace Go.Ir
open Go.Proofs
variable{P:Program}{W0:World}{nt n:Nat}{Q:Exit→St→Prop}{env:A9}{σ:Aj}
end Go.Ir

namespace Go.Ir
open Go.Proofs
variable(W0:World)
def Gx:Aa->Aa
 | []=>[]
 | c::s=>(if PY c.toNat then[92,c] else[c])++Gx s
def Z7(k:Int):Aa:=
 if k==3 then[110,117,109,98,101,114] else if k==4 then[117,110,105,116] else if k==5 then[100,97,116,101] else if k==6 then[108,105,115,116]
 else if k==7 then[112,108,117,114,97,108] else if k==8 then[111,114,100,105,110,97,108] else[115,101,108,101,99,116]
theorem MH(k:Int):(Z7 k).length<=7:=by
 unfold Z7;repeat' split
 all_goals simp
theorem QL(s:Aa):(Gx s).length<=2*s.length:=by
 induction s with
 | nil=>simp[Gx]
 | cons c s a=>rw[Gx];split<;>simp<;>omega
end Go.Ir
namespace Go.Proofs
open Go.Shelf
def Tryz.lays169_ren:Go.Shelf.Ren:=⟨fun|169=>45|n=>n,fun|70=>95|9=>9|0=>0|72=>98|37=>96|127=>158|3=>3|5=>5|n=>n,fun|n=>n⟩
theorem Tryz.lays169:Go.Proofs.Lays.n169 Tryz.prog Tryz.lays169_ren:=by constructor;all_goals intros;kernel_rfl
end Go.Proofs
namespace Go.Ir
open Go.Proofs Go.RowKit
theorem F8:Go.Proofs.Builder.Extra Tryz.prog Tryz.lays169_ren where
 sizeBuilder:=by kernel_rfl
 liesBuilder:=by kernel_rfl
 t5:=Tryz.underlying5
 a5:=Tryz.isAgg5
 z5:=Tryz.sizeOf5
 v5:=Tryz.zeroValue5
 infoByte:=by kernel_rfl
 cellsByte:=by kernel_rfl
 sizeByte:=by kernel_rfl
 neB5:=by decide
set_option maxHeartbeats 1000000 in
set_option maxRecDepth 100000 in
theorem lP(b:Nat)(w:World)(c:w.cell? ⟨b,0,none⟩=some (.pointer (some ⟨b,0,none⟩))) :
  Calls Tryz.prog 180 #[.pointer (some ⟨b,0,none⟩)] w λe w'=>e=.returned (.tuple #[])/\w'=w:=by
 obtain⟨j,a,_⟩:=AeM.1 F8.sizeBuilder
 go_enter Tryz.func180,Tryz.ntmps180
 go_wp2
 rw[Lib.run_neq_ptr_same w _ Tryz.underlying95 a]
 go_wp2
 go_end0
 exact⟨rfl,rfl⟩
set_option maxHeartbeats 1000000 in
set_option maxRecDepth 100000 in
theorem aT(b:Nat)(w:World)(h:w.cell? ⟨b,0,none⟩=some (.pointer none))(a:w.shape? b=some (98,2))(g:w.frozen? ⟨b,0,none⟩=false) :
  Calls Tryz.prog 180 #[.pointer (some ⟨b,0,none⟩)] w λe w'=>e=.returned (.tuple #[])/\w'=w.setCell ⟨b,0,none⟩ (.pointer (some ⟨b,0,none⟩)):=by
 obtain⟨j,f,c⟩:=AeM.1 F8.sizeBuilder
 go_enter Tryz.func180,Tryz.ntmps180
 go_wp2
 rw[Lib.run_to_unsafe w ⟨b,0,none⟩ Tryz.underlying95 Tryz.underlying315 f (by rw[c];decide) a (Nat.zero_lt_succ 1)];simp only[Result.andThen];rw[Aze]
 go_wp2
 rw[run_callFunc_extern Tryz.func236 (by kernel_rfl) (by kernel_rfl) (by kernel_rfl) (e:=Extern.AbiNoEscape.same) (by kernel_rfl),Lib.run_noEscape];simp only[Result.andThen];rw[Aze]
 go_wp2
 rw[Lib.run_from_unsafe w ⟨b,0,none⟩ Tryz.underlying315 Tryz.underlying95 f a F8.liesBuilder];simp only[Result.andThen];rw[Aze]
 go_wp2
 go_end0
 exact⟨rfl,rfl⟩
theorem Y5(B b:Nat)(f:List Value)(w:World)(h:Lib.IsBuilder 98 5 B b f w) :
  Calls Tryz.prog 180 #[.pointer (some ⟨b,0,none⟩)] w λe w'=>e=.returned (.tuple #[])/\(Lib.BuilderAt 98 5 B b (.pointer (some ⟨b,0,none⟩)) f w'/\Below B w w'):=by
 rcases h with h|h
 .refine(aT b w h.cell0 h.shape h.frozen0).mono λe w' ⟨a,c⟩=>?_;subst c;exact⟨a,h.used _,(Awt B w).setCell (p:=⟨b,0,none⟩) h.1 _⟩
 .refine(lP b w h.cell0).mono λe w' ⟨a,c⟩=>?_;subst c;exact⟨a,h,Awt _ _⟩
set_option maxHeartbeats 2000000 in
set_option maxRecDepth 100000 in
theorem Lw(B b:Nat)(s:List Value)(c:Int)(w:World)(h:Lib.IsBuilder 98 5 B b s w)(G:s.length+1<=140737488355328)(J:B<=w.heap.size) :
  Calls Tryz.prog 187 #[.pointer (some ⟨b,0,none⟩),.int .u8 c] w λe w'=>e=.returned .nilIface/\(Lib.BuilderAt 98 5 B b (.pointer (some ⟨b,0,none⟩)) (s++[.int .u8 c]) w'/\Below B w w'):=by
 obtain⟨i0,K,D,E,F⟩:=info_parts F8.infoByte;have z:∀args w,(callFunc 180 args).run Tryz.prog w=.ok (.enter 180 args) w:=enters_of Tryz.func180 (by kernel_rfl) rfl
 go_enter Tryz.func187,Tryz.ntmps187
 go_wp2_with (go_at_fn 180;refine(Y5 B b s _ h).mono ?_)
 rintro e t ⟨rfl,⟨hB,v,q,r,C⟩,m⟩;have N:t.cell? ⟨b,0,none⟩=some (.pointer (some ⟨b,0,none⟩)):=by rw[Lib.cell_of_heap q];rfl
 have c1:t.cell? ⟨b,1,none⟩=some v:=by rw[Lib.cell_of_heap q];rfl
 go_wp2_with (at_builtin;refine wpList_append_own _ rfl _ _ 96 rfl B 5 i0 (.int .u8 0) 1 1 Tryz.underlying96 K D E F rfl (by decide) _ _ _ rfl (r.alloc _) ⟨t.heap.size,0,none⟩ 1 1 [.int .u8 c] rfl rfl ?c1 ?c2 ?c3 ?c4 ?c5 ?_)
 case c1=>
  intro j u x
  match j,x with
  | 0,x=>simp at x;subst x;simp[Addr.add]
 case c2=>intro u H;simp at H;subst H;rfl
 case c3=>unfold maxLen;omega
 case c4=>omega
 case c5=>have:=m.size;simp;omega
 intro M y f a _;have A:b<t.heap.size:=(As4.1 q).1;have o:y.heap[b]?=some (.cells #[.pointer (some ⟨b,0,none⟩),v] 98 (0,0)):=by rw[a.block b (by simp;omega) (λe=>C e.symm),Lib.alloc_old t _ b A];exact q
 have O:y.cell? ⟨b,0,none⟩=some (.pointer (some ⟨b,0,none⟩)):=by rw[Lib.cell_of_heap o];rfl
 have R:y.cell? ⟨b,1,none⟩=some v:=by rw[Lib.cell_of_heap o];rfl
 have S:y.frozen? ⟨b,1,none⟩=false:=Lib.frozen_of_heap o 1;obtain⟨g,i,rfl⟩:∃g i,M=.slice (some ⟨g,0,none⟩) (s.length+1) i:=by
  rcases f.2 with⟨_,h0⟩|⟨g,i,cur,hv,_⟩
  .omega
  .exact⟨g,i,hv⟩
 go_wp2
 go_ret
 exact⟨rfl,Lib.BuilderAt.put (T:=98) (e:=5) hB o (bs':=s++[.int .u8 c]) (by simpa using f) (by decide),((m.alloc (by have:=m.size;omega) _).grown a (by have:=m.size;simp;omega) (λk L=>(r.lt k L).1)).setCell (p:=⟨b,1,none⟩) hB _⟩
theorem U7(B b:Nat)(l:List UInt8)(w:World)(h:Lib.IsBuilder 98 5 B b (Lib.byteCells l) w)(a:B<=w.heap.size) :
  Calls Tryz.prog 45 #[.pointer (some ⟨b,0,none⟩)] w λe w'=>e=.returned (.string ⟨l.toArray⟩)/\Below B w w':=
 Any.Builder_String_any Tryz.lays169 F8 B b l w h a
theorem MU(c:UInt8)(w:World):Calls Tryz.prog 186 #[.int .u8 c.toNat] w λe w'=>e=.returned (.bool (PY c.toNat))/\w'=w:=by
 go_enter Tryz.func186,Tryz.ntmps186
 go_wp2
 all_goals (go_ret;exact⟨by simp[PY, *],rfl⟩)
set_option maxHeartbeats 4000000 in
set_option maxRecDepth 1000000 in
theorem lX(s:Aa)(G:s.length<=2^26)(w:World):Calls Tryz.prog 133 #[.string ⟨s.toArray⟩] w λe w'=>e=.returned (.string ⟨(Gx s).toArray⟩)/\Below w.heap.size w w':=by
 go_enter Tryz.func133,Tryz.ntmps133
 go_wp2
 go_loopw [7] (λi wr=>∃(dn rest a:Aa),dn++rest=s/\i=.int .i64 dn.length/\Lib.IsBuilder 98 5 w.heap.size w.heap.size (Lib.byteCells a) wr/\Below w.heap.size w wr/\a++Gx rest=Gx s/\a.length<=2*dn.length) (λi _=>s.length-(RowKit.intOf i).toNat)
 case atStart=>refine⟨[],s,[],rfl,rfl,Lib.fresh_isBuilder _ _ _,(Awt _ w).alloc (AzR _) _,rfl,by simp⟩
 case round=>
  obtain⟨dn,rest,a,p,y,hI,b,f,x⟩:=hrel;subst y;have j:s.length=dn.length+rest.length:=by rw[<-p];simp
  cases rest with
  | nil=>
   have g:decide (dn.length<s.length)=false:=by simp at j⊢;omega
   have m:¬dn.length<s.length:=by simpa using g
   clear j
   go_wp2_with (go_at_call 45;refine(U7 w.heap.size w.heap.size a _ hI b.size).mono ?_)
   rintro e B ⟨rfl,t⟩
   go_wp2
   go_ret
   rw[Gx,Arm] at f;rw[<-f];exact⟨rfl,b.trans t⟩
  | cons c rest=>
   have D:∀args w,(callFunc 186 args).run Tryz.prog w=.ok (.enter 186 args) w:=enters_of Tryz.func186 (by kernel_rfl) rfl;have E:∀args w,(callFunc 187 args).run Tryz.prog w=.ok (.enter 187 args) w:=enters_of Tryz.func187 (by kernel_rfl) rfl;have g:decide (dn.length<s.length)=true:=by simp at j⊢;omega
   have m:dn.length<s.length:=by simpa using g
   have r:a.length+2<=2^28/\dn.length<2^26:=by simp at j;omega
   obtain⟨r,z⟩:=r;clear j;have A:RowKit.wrap64 ((dn.length:Int)+1)=(dn.length:Int)+1:=by unfold RowKit.wrap64;omega
   have F:∀h,(⟨s.toArray⟩:ByteArray)[dn.length]'h=c:=by subst p;intro h;show(dn++c::rest).toArray[dn.length]=c;simp
   go_wp2_with (go_at_call 186;refine(MU _ _).mono ?_)
   rintro e B ⟨rfl,rfl⟩;by_cases k:PY c.toNat=true
   .rw[k]
    go_wp2_with (go_at_call 187;refine(Lw w.heap.size w.heap.size _ 92 _ hI (by rw[Lib.byteCells_length];omega) b.size).mono ?_)
    rintro e C ⟨rfl,q,o⟩
    go_wp2_with (go_at_call 187;refine(Lw w.heap.size w.heap.size _ _ _ (.inr q) (by simp[Lib.byteCells_length];omega) (by have:=b.size;have:=o.size;omega)).mono ?_)
    rintro e H ⟨rfl,v,u⟩
    go_wp2
    go_roundw
    case rel=>
     refine⟨dn++[c],rest,a++[92,c],by rw[<-p];simp,?_,?_,?_,?_,?_⟩
     .simp
     .right;simpa[Lib.byteCells] using v
     .exact(b.trans o).trans u
     .rw[<-f,Gx,k];simp
     .simp;omega
    case measure=>simp at g;simp[RowKit.intOf];omega
   .have k:PY c.toNat=false:=by simpa using k
    rw[k]
    go_wp2_with (go_at_call 187;refine(Lw w.heap.size w.heap.size _ _ _ hI (by rw[Lib.byteCells_length];omega) b.size).mono ?_)
    rintro e C ⟨rfl,q,o⟩
    go_wp2
    go_roundw
    case rel=>
     refine⟨dn++[c],rest,a++[c],by rw[<-p];simp,?_,?_,?_,?_,?_⟩
     .simp
     .right;simpa[Lib.byteCells] using q
     .exact b.trans o
     .rw[<-f,Gx,k];simp
     .simp;omega
    case measure=>simp at g;simp[RowKit.intOf];omega
theorem bH(s:Aa):(Gx s).length<=2*s.length:=by
 induction s with
 | nil=>simp[Gx]
 | cons c s a=>rw[Gx];split<;>simp<;>omega
theorem aR(W0:World)(s:Aa)(b:s.length<=2^26):Al Tryz.prog W0 133 [.s s] [] (.s (Gx s)) []:=by refine AQ (by kernel_rfl) λw vals g ⟨μ,H,c⟩=>?_;obtain⟨rfl,_⟩:=c.one_s;refine(lX s b w).mono λe w' ⟨a,f⟩=>?_;refine⟨_,a,λ_ _=>.s _ ?_,f⟩;have:=bH s;unfold AJ;omega
def PF(B:Nat)(l:Aa)(wr:World):Prop:=∀j (h:j<l.length),wr.cell? ⟨B,j,none⟩=some (.int .u8 (l[j].toNat:Int))/\wr.frozen? ⟨B,j,none⟩=false
theorem PF.new(w:World)(s:Aa):PF w.heap.size s (w.drew.alloc (.cells (bytesRow ⟨s.toArray⟩ (grownCap w s.length 0 5)) 5 ((bytesRow ⟨s.toArray⟩ (grownCap w s.length 0 5)).size,(bytesRow ⟨s.toArray⟩ (grownCap w s.length 0 5)).size+1))):=by
 intro j h;have a:w.drew.heap.size=w.heap.size:=rfl;rw[<-a,World.cell?_alloc_mark,World.frozen?_alloc_mark,bytesRow_at _ _ _ (by simpa using h)];refine⟨by simp,?_⟩;have:j<(bytesRow ⟨s.toArray⟩ (grownCap w s.length 0 5)).size:=by unfold bytesRow;simp;omega
 simp;omega
theorem PF.set{B:Nat}{p post:Aa}{c:UInt8}{wr:World}(h:PF B (p++[c]++post) wr)(d:UInt8):PF B (p++[d]++post) (wr.setCell ⟨B,p.length,none⟩ (.int .u8 (d.toNat:Int))):=by
 intro j g;have a:j<(p++[c]++post).length:=by simp at g⊢;omega
 obtain⟨b,e⟩:=h j a;rw[World.frozen?_setCell];refine⟨?_,e⟩;by_cases f:j=p.length
 .subst f;rw[World.cell?_setCell_same' _ _ _ (by rw[b];rfl)];simp
 .rw[World.cell?_setCell_other wr ⟨B,p.length,none⟩ ⟨B,j,none⟩ _ (by grind),b];grind
theorem PF.back{B n:Nat}{l:Aa}{wr:World}(h:PF B l wr)(c:l.length=n)(a:Nat):(convert 96 9 (.slice (some ⟨B,0,none⟩) n a)).run Tryz.prog wr=.ok (.string ⟨l.toArray⟩) wr:=by subst c;exact run_convert_bytes_back (P:=Tryz.prog) wr 96 9 5 ⟨B,0,none⟩ a l Tryz.underlying96 Tryz.underlying5 Tryz.underlying9 (λj b=>by have:=(h j b).1;unfold Addr.add;split<;>simp_all)
theorem tM:H3 []=[49]:=rfl
theorem Ajx(p:Aa):H3 (p++[57])=H3 p++[48]:=by unfold H3;rw[List.reverse_append];show(KA (57::p.reverse)).reverse=_;rw[KA];simp
theorem AlZ(p:Aa)(c:UInt8)(h:(c==57)=false):H3 (p++[c])=p++[c+1]:=by unfold H3;rw[List.reverse_append];show(KA (c::p.reverse)).reverse=_;rw[KA,h];simp
set_option maxHeartbeats 4000000 in
set_option maxRecDepth 1000000 in
theorem YZ(s:Aa)(H:s.length<=2^26)(w:World):Calls Tryz.prog 202 #[.string ⟨s.toArray⟩] w λe w'=>e=.returned (.string ⟨(H3 s).toArray⟩)/\Below w.heap.size w w':=by
 have r:=fun(w:World) (s:ByteArray)=>run_bytes_of_string (P:=Tryz.prog) w 9 96 5 s Tryz.underlying9 Tryz.underlying96 Tryz.underlying5;have x:RowKit.wrap64 ((s.length:Int)-1)=(s.length:Int)-1:=by unfold RowKit.wrap64;omega
 go_enter Tryz.func202,Tryz.ntmps202
 go_wp2
 go_loopw [4] (λi wr=>∃(pre post:Aa),pre.length+post.length=s.length/\i=.int .i64 ((pre.length:Int)-1)/\PF w.heap.size (pre++post) wr/\Below w.heap.size w wr/\H3 pre++post=H3 s) (λi _=>(RowKit.intOf i+1).toNat)
 case atStart=>refine⟨s,[],by simp,by rw[<-x],by rw[Arm];exact PF.new w s,((Awt _ w).alloc (AzR _) _).drew,Arm _⟩
 case round=>
  obtain⟨pre,post,D,B,a,f,q⟩:=hrel;subst B;rcases Az5 pre with rfl|⟨p,c,rfl⟩
  .have k:=a.back (by simpa using D) (grownCap w s.length 0 5)
   go_wp2
   go_ret
   refine⟨?_,f⟩;rw[<-q,tM];rfl
  .simp only[Az6,AhT,AiL,Ank] at *;have u:((p.length+(0+1):Nat):Int)-1=(p.length:Int):=by omega
   rw[u];have o:=a p.length (by simp);have g:((p++[c])++post)[p.length]'(by simp)=c:=by simp
   rw[g] at o;obtain⟨E,F⟩:=o;have C:(p.length:Int)<(s.length:Int):=by omega
   have y:p.length<s.length:=by omega
   have v:(p++[c+1]++post).length=s.length:=by simp;omega
   have t:((c+1).toNat:Int)=((c.toNat:Int)+1) % 256:=by simp 
   have k:=(a.set (c+1)).back v (grownCap w s.length 0 5);rw[t] at k;have m:=a.set 48;have A:((c.toNat:Int) !=57)=!(c==57):=by
    rw[Ats];simp only[bne_iff_ne,Ar9,beq_eq_false_iff_ne,ne_eq];constructor
    .rintro h rfl;exact h rfl
    .intro h G;apply h;have z:c.toNat=(57:UInt8).toNat:=by grind
     exact AzC.1 z
   go_wp2
   .have b:(c==57)=false:=by
     simp_all
    go_ret
    refine⟨?_,f.setCell (p:=⟨w.heap.size,p.length,none⟩) (AzR _) _⟩;rw[<-q,AlZ p c b];simp
   .have b:(c==57)=true:=by
     grind
    have j:c=57:=by simpa using b
    subst j;rw[Ajx] at q;refine⟨⟨p,48::post,by simp;omega,rfl,?_,f.setCell (p:=⟨w.heap.size,p.length,none⟩) (AzR _) _,by rw[<-q];simp⟩,by simp only[RowKit.intOf];omega⟩;simpa using m
theorem Zl(l:List UInt8):(KA l).length<=l.length+1:=by
 induction l with
 | nil=>simp[KA]
 | cons c l a=>rw[KA];split<;>simp;omega
theorem AkY(W0:World)(s:Aa)(g:s.length<=2^20):Al Tryz.prog W0 202 [.s s] [] (.s (H3 s)) []:=by refine AQ (by kernel_rfl) λw vals f ⟨μ,H,b⟩=>?_;obtain⟨rfl,_⟩:=b.one_s;refine(YZ s (by omega) w).mono λe w' ⟨a,c⟩=>?_;refine⟨_,a,λ_ _=>.s _ ?_,c⟩;have:=Zl s.reverse;unfold H3 AJ;simp at this⊢;omega
end Go.Ir
namespace Go.Proofs
open Go.Shelf
def Tryz.lays150_ren:Go.Shelf.Ren:=⟨fun|150=>270|153=>308|152=>321|226=>329|227=>247|228=>292|137=>252|119=>337|224=>290|225=>289|217=>288|266=>319|n=>n,fun|9=>9|4=>4|3=>3|5=>5|21=>21|117=>323|116=>322|0=>0|46=>237|124=>326|n=>n,fun|n=>n⟩
theorem Tryz.lays150:Go.Proofs.Lays.n150 Tryz.prog Tryz.lays150_ren:=by constructor;all_goals intros;kernel_rfl
end Go.Proofs
namespace Go.Ir
open Go.Proofs Go.RowKit
set_option maxHeartbeats 4000000 in
set_option maxRecDepth 1000000 in
theorem Rd(w:World):Calls Tryz.prog 321 #[.string ⟨#[123,125]⟩,.int .i32 65533] w λe w'=>e=.returned (.int .i64 (-1))/\Below w.heap.size w w':=by
 go_enter Tryz.func321,Tryz.ntmps321
 go_wp2
 go_loopg [5,6,176,177,178,179,180,181] 2 (λg _ _ _ _ _ _ _ _ h=>∃i:Nat,i+g=2/\h=w.iter ⟨#[123,125]⟩ i)
 case atStart=>exact⟨0,rfl,rfl⟩
 case round=>
  obtain⟨i,f,rfl⟩:=hrel;cases gk with
  | zero=>
   obtain rfl:i=2:=by omega
   have a:=run_next_end (P:=Tryz.prog) w ⟨#[123,125]⟩ 2
   go_wp2
   go_ret
   exact⟨rfl,(Awt _ w).alloc (AzR _) _⟩
  | succ g=>
   have c:i=0\/i=1:=by omega
   rcases c with rfl|rfl
   .have a:=λb=>run_next_ascii (P:=Tryz.prog) w ⟨#[123,125]⟩ 0 b (by decide) (by decide)
    go_wp2
    go_roundg g
    case measure=>omega
    grind
   .have a:=λb=>run_next_ascii (P:=Tryz.prog) w ⟨#[123,125]⟩ 1 b (by decide) (by decide)
    go_wp2
    go_roundg g
    case measure=>omega
    grind
set_option maxHeartbeats 4000000 in
set_option maxRecDepth 1000000 in
theorem Sm(r:Int)(h:55296<=r)(i:r<=57343)(w:World):Calls Tryz.prog 321 #[.string ⟨#[123,125]⟩,.int .i32 r] w λe w'=>e=.returned (.int .i64 (-1))/\Below w.heap.size w w':=by
 have a:decide (0<=r)=true:=by simp;omega
 have b:decide (r<128)=false:=by simp;omega
 have c:(r==65533)=false:=by simp;omega
 have f:¬r<55296:=by omega
 have g:¬57343<r:=by omega
 go_enter Tryz.func321,Tryz.ntmps321
 go_wp2
 go_ret
 exact⟨rfl,Awt _ w⟩
set_option maxHeartbeats 4000000 in
set_option maxRecDepth 1000000 in
theorem My(r:Int)(h1:128<=r)(hr:r<55296\/57343<r)(h2:r<=1114111)(h3:(r==65533)=false)(w:World):Calls Tryz.prog 321 #[.string ⟨#[123,125]⟩,.int .i32 r] w fun e w'=>e=.returned (.int .i64 (-1))/\Below w.heap.size w w':=by
 have mixed:=Tryz.lays150.mixed
 have g1:decide (0<=r)=true:=by simp;omega
 have g2:decide (r<128)=false:=by simp;omega
 have hv:Utf8.valid r=true:=by
  rw[validRune_eq]
  unfold validRune
  grind
 obtain⟨f1,f2,f3⟩:=encode_facts r hv h1
 have hcv:=fun(w:World)=>run_convert_int_string (P:=Tryz.prog) w 21 9 .i32 r (by rw[Tryz.underlying21];rfl) Tryz.underlying9
 generalize Utf8.encode r=E at *
 have hw1:RowKit.wrap64 ((E.size:Int)-1)=(E.size:Int)-1:=by unfold RowKit.wrap64;omega
 have hw1':(E.size:Int)-1=((E.size-1:Nat):Int):=by omega
 rw[hw1'] at hw1
 rcases hr with hr|hr
 .go_enter Tryz.func321,Tryz.ntmps321
  go_wp2
  refine wp_scope_straight ?_
  go_wp2
  go_loopw [9] (fun i wr=>i=.int .i64 ((E.size-1:Nat):Int)/\wr=w) (fun _ _=>0)
  case atStart=>exact⟨rfl,rfl⟩
  case round=>
   obtain⟨rfl,rfl⟩:=hrel
   by_cases hs:E.size=2
   .have hs1:E.size-1=1:=by omega
    obtain⟨x,hx⟩:∃x,x=E[1]'(by omega):=⟨_,rfl⟩
    have hx2:128<=x.toNat:=by
     simp_all
    have g6:(1:Nat)<E.size:=by omega
    have g8:((125:Int) !=(x.toNat:Int))=true:=by simp;omega
    have hib:=fun w=>Any.strings_IndexByte (P:=Tryz.prog) (ρ:=Tryz.lays150_ren) { Tryz.lays150 with } ⟨#[]⟩ (x.toNat:Int) w
    simp only[hs1] at hw1⊢
    go_wp2
    refine wp_scope_straight ?_
    go_wp2
    have hq:(((((⟨#[123,125]⟩:ByteArray)[1]'(by decide)).toNat:Nat):Int) !=(((E[1]'g6).toNat:Nat):Int))=true:=by rw[<-hx];exact g8
    go_region
    go_wp2
    go_region_with (go_at_call 252;refine(Any.strings_IndexByte (P:=Tryz.prog) (ρ:=Tryz.lays150_ren) { Tryz.lays150 with } _ _ _).mono ?_;rintro e w' ⟨rfl,hw⟩;rw[hw])
    go_wp2
    all_goals (simp +zetaDelta only [Exit.noGoto,Exit.inBlock,Exit.then];go_ret;exact⟨rfl,((Awt _ _).drew).drew⟩)
   .have g6:¬E.size-1<2:=by omega
    have g7:decide (((E.size-1:Nat):Int)<2)=false:=by simp;omega
    go_wp2
    simp only[Exit.noGoto]
    go_ret
    exact⟨rfl,Awt _ _⟩
 .have g9:¬r<55296:=by omega
  go_enter Tryz.func321,Tryz.ntmps321
  go_wp2
  refine wp_scope_straight ?_
  go_wp2
  go_loopw [9] (fun i wr=>i=.int .i64 ((E.size-1:Nat):Int)/\wr=w) (fun _ _=>0)
  case atStart=>exact⟨rfl,rfl⟩
  case round=>
   obtain⟨rfl,rfl⟩:=hrel
   by_cases hs:E.size=2
   .have hs1:E.size-1=1:=by omega
    obtain⟨x,hx⟩:∃x,x=E[1]'(by omega):=⟨_,rfl⟩
    have hx2:128<=x.toNat:=by
     simp_all
    have g6:(1:Nat)<E.size:=by omega
    have g8:((125:Int) !=(x.toNat:Int))=true:=by simp;omega
    have hib:=fun w=>Any.strings_IndexByte (P:=Tryz.prog) (ρ:=Tryz.lays150_ren) { Tryz.lays150 with } ⟨#[]⟩ (x.toNat:Int) w
    simp only[hs1] at hw1⊢
    go_wp2
    refine wp_scope_straight ?_
    go_wp2
    have hq:(((((⟨#[123,125]⟩:ByteArray)[1]'(by decide)).toNat:Nat):Int) !=(((E[1]'g6).toNat:Nat):Int))=true:=by rw[<-hx];exact g8
    go_region
    go_wp2
    go_region_with (go_at_call 252;refine(Any.strings_IndexByte (P:=Tryz.prog) (ρ:=Tryz.lays150_ren) { Tryz.lays150 with } _ _ _).mono ?_;rintro e w' ⟨rfl,hw⟩;rw[hw])
    go_wp2
    all_goals (simp +zetaDelta only [Exit.noGoto,Exit.inBlock,Exit.then];go_ret;exact⟨rfl,((Awt _ _).drew).drew⟩)
   .have g6:¬E.size-1<2:=by omega
    have g7:decide (((E.size-1:Nat):Int)<2)=false:=by simp;omega
    go_wp2
    simp only[Exit.noGoto]
    go_ret
    exact⟨rfl,Awt _ _⟩
theorem SE(r:Int)(b:128<=r)(c:r<=1114111)(w:World):Calls Tryz.prog 321 #[.string ⟨#[123,125]⟩,.int .i32 r] w λe w'=>e=.returned (.int .i64 (-1))/\Below w.heap.size w w':=by
 by_cases f:r=65533
 .subst f;exact Rd w
 .have a:(r==65533)=false:=by simp[f]
  by_cases g:r<55296
  .exact My r b (.inl g) c a w
  .by_cases h:57343<r
   .exact My r b (.inr h) c a w
   .exact Sm r (by omega) (by omega) w
theorem tT(s:ByteArray)(p:Nat)(h:128<=(s.get! p).toNat):(Utf8.decode s p).1<=1114111/\∀k,k<(Utf8.decode s p).2->128<=(s.get! (p+k)).toNat:=by
 have a:∀k,(s.get! (p+k)).toNat<256:=λk=>(s.get! (p+k)).toNat_lt;have g:=a 0;have i:=a 1;have j:=a 2;have m:=a 3;have f:¬(s.get! (p+0)).toNat<128:=by rw[AyJ];omega
 have o:128<=(s.get! (p+0)).toNat:=by rw[AyJ];exact h
 have one:∀k,k<1->128<=(s.get! (p+k)).toNat:=λk e=>by grind
 simp only[Utf8.decode,f,if_false,Utf8.runeError];split
 .grind
 .split
  .grind
  .split
   .rename_i c;simp only[AzP,beq_iff_eq] at c;split
    .rename_i d;have b:=d;simp only[Utf8.valid,AzP,AxU,decide_eq_true_eq] at b;refine⟨by simp only;omega,λk e=>?_⟩;grind
    .exact⟨by simp,one⟩
   .exact⟨by simp,one⟩
def Arf(s:ByteArray)(i:Nat):Prop:=∀j,j<i->j<s.size->s.get! j≠123/\s.get! j≠125
set_option maxHeartbeats 4000000 in
set_option maxRecDepth 1000000 in
theorem P6(s:ByteArray)(h8:s.size<=8)(w:World):Calls Tryz.prog 308 #[.string s,.string ⟨#[123,125]⟩] w fun e w'=>(∃v:Int,e=.returned (.int .i64 v)/\((0<=v/\∃j,j<s.size/\(s.get! j=123\/s.get! j=125))\/(v=-1/\Arf s s.size)))/\Below w.heap.size w w':=by
 have mixed:=Tryz.lays150.mixed
 have h8z:decide ((8:Int)<(s.size:Int))=false:=decide_eq_false (by omega)
 have e152:∀args w,(callFunc 321 args).run Tryz.prog w=.ok (.enter 321 args) w:=enters_of Tryz.func321 (by kernel_rfl) rfl
 have L153:Lays.n153 Tryz.prog Tryz.lays150_ren:={ Tryz.lays150 with }
 have e226:∀args w,(callFunc (Tryz.lays150_ren.f 226) args).run Tryz.prog w=.ok (.enter (Tryz.lays150_ren.f 226) args) w:=enters_of L153.f226 (by kernel_rfl) rfl
 go_enter Tryz.func308,Tryz.ntmps308
 go_wp2_with (go_at_call 329;refine(Any.strings_shouldUseASCIISet (P:=Tryz.prog) (ρ:=Tryz.lays150_ren) { Tryz.lays150 with } _ _).mono ?_;rintro e w' ⟨rfl,hw⟩;rw[hw,h8z])
 go_loopw [9,10] (fun _ _ wr=>∃i:Nat,wr.heap[w.heap.size]?=some (.stringIter s i)/\Below w.heap.size w wr/\Arf s i) (fun _ _ wr=>s.size-wr.iterPos w.heap.size)
 case atStart=>exact⟨0,World.iter_heap _ _ _,(Awt _ w).alloc (AzR _) _,fun j hj=>by omega⟩
 case round=>
  obtain⟨i,hit,hbw,hno⟩:=hrel
  by_cases hi:i<s.size
  .by_cases ha:(s[i]'hi).toNat<128
   .have hnx:=fun ty=>Go.Lib.run_next_ascii_at (P:=Tryz.prog) wr w.heap.size s i ty hit hi ha
    have hg:s.get! i=s[i]'hi:=by
     simp[ByteArray.get!,hi]
     rfl
    have hp1:=Lib.iterAt_heap wr w.heap.size s i (i+1) hit
    have hm:s.size-(wr.iterAt w.heap.size s (i+1)).iterPos w.heap.size<s.size-wr.iterPos w.heap.size:=by
     unfold World.iterPos
     grind
    have hb1:=Lib.below_iterAt hbw (k:=w.heap.size) (AzR _) s (i+1)
    have Hm:Hid (s.size-(wr.iterAt w.heap.size s (i+1)).iterPos w.heap.size<s.size-wr.iterPos w.heap.size):=hm
    have Hp:Hid ((wr.iterAt w.heap.size s (i+1)).heap[w.heap.size]?=some (.stringIter s (i+1))):=hp1
    clear hm hp1
    generalize s[i]'hi=x at *
    have Hg:Hid (s.get! i=x):=hg
    clear hg
    have hcon:=Lib.contains_iff_indexByte [123,125] x
    have hback:((x.toNat:Int)).toNat.toUInt8=x:=by simp
    cases hin:([123,125]:List UInt8).contains x
    .rw[hin] at hcon
     have hlt:¬((0:Int)<=Lib.indexByte [123,125] x):=of_decide_eq_false hcon.symm
     have Hin:Hid (([123,125]:List UInt8).contains x=false):=hin
     clear hcon hin
     go_wp2_with (go_at_call 321;refine(Any.strings_IndexRune_ascii (P:=Tryz.prog) (ρ:=Tryz.lays150_ren) { Tryz.lays150 with } _ _ _ (by omega) (by omega)).mono ?_;rintro e w' ⟨rfl,hw⟩;rw[hw,hback])
     refine⟨⟨i+1,Hp.out,hb1,fun j hj hjs=>?_⟩,Hm.out⟩
     by_cases he:j=i
     .subst he
      rw[Hg.out]
      have:=Hin.out
      grind
     .exact hno j (by omega) hjs
    .rw[hin] at hcon
     have hge:(0:Int)<=Lib.indexByte [123,125] x:=of_decide_eq_true hcon.symm
     have Hin:Hid (([123,125]:List UInt8).contains x=true):=hin
     clear hcon hin
     go_wp2_with (go_at_call 321;refine(Any.strings_IndexRune_ascii (P:=Tryz.prog) (ρ:=Tryz.lays150_ren) { Tryz.lays150 with } _ _ _ (by omega) (by omega)).mono ?_;rintro e w' ⟨rfl,hw⟩;rw[hw,hback])
     go_ret
     refine⟨⟨i,rfl,.inl ⟨by omega,i,hi,?_⟩⟩,hb1⟩
     rw[Hg.out]
     have:=Hin.out
     simpa using this
   .have hnx:=fun ty=>Go.Lib.run_next_any_at (P:=Tryz.prog) wr w.heap.size s i ty hit hi
    have hg:s.get! i=s[i]'hi:=by
     simp[ByteArray.get!,hi]
     rfl
    obtain⟨d1,d2⟩:=decode_high s i hi (by omega)
    obtain⟨d3,d4⟩:=tT s i (by rw[hg];omega)
    generalize hD:Utf8.decode s i=D at *
    obtain⟨r,n⟩:=D
    simp only at d1 d2 d3 d4 hnx
    have hp1:=Lib.iterAt_heap wr w.heap.size s i (i+n) hit
    have hsz:=Lib.iterAt_size wr w.heap.size s (i+n)
    have hlt:w.heap.size<wr.heap.size:=(As4.1 hit).1
    have hb1:=Lib.below_iterAt hbw (k:=w.heap.size) (AzR _) s (i+n)
    have Hp:Hid ((wr.iterAt w.heap.size s (i+n)).heap[w.heap.size]?=some (.stringIter s (i+n))):=hp1
    have Hd:Hid (∀k,k<n->128<=(s.get! (i+k)).toNat):=d4
    have Hsz:Hid ((wr.iterAt w.heap.size s (i+n)).heap.size=wr.heap.size):=hsz
    have Hb:Hid (Below w.heap.size w (wr.iterAt w.heap.size s (i+n))):=hb1
    clear hp1 d4 hg ha hD hsz hb1
    go_wp2_with (go_at_call 321;refine(SE (r:Int) (by omega) (by omega) _).mono ?_;rintro e w2 ⟨rfl,hw2⟩)
    have hb2:Below w.heap.size (wr.iterAt w.heap.size s (i+n)) w2:=hw2.mono (by rw[Hsz.out];omega)
    have hp2:w2.heap[w.heap.size]?=some (.stringIter s (i+n)):=by
     rw[hw2.block _ (by rw[Hsz.out];exact hlt)]
     exact Hp.out
    refine⟨⟨i+n,hp2,Hb.out.trans hb2,fun j hj hjs=>?_⟩,?_⟩
    .by_cases he:j<i
     .exact hno j he hjs
     .have:=Hd.out (j-i) (by omega)
      rw[show i+(j-i)=j by omega] at this
      constructor
      .intro h;simp_all
      .intro h;simp_all
    .unfold World.iterPos
     grind
  .have hnx:=fun ty=>Go.Lib.run_next_end_at (P:=Tryz.prog) wr w.heap.size s i ty hit hi
   go_wp2
   go_ret
   exact⟨⟨-1,rfl,.inr ⟨rfl,fun j hj=>hno j (by omega)⟩⟩,hbw⟩
theorem Oj(s:Aa):(∃j,j<(⟨s.toArray⟩:ByteArray).size/\((⟨s.toArray⟩:ByteArray).get! j=123\/(⟨s.toArray⟩:ByteArray).get! j=125))↔F1 s=true:=by
 unfold F1;rw[Ayj];have e:∀j (h:j<s.length),(⟨s.toArray⟩:ByteArray).get! j=s[j]:=λj h=>by simp[ByteArray.get!,h]
 constructor
 .rintro⟨j,a,h⟩;have b:j<s.length:=by simpa[ByteArray.size] using a
  grind
 .rintro⟨x,c,h⟩;obtain⟨j,a,rfl⟩:=List.getElem_of_mem c;refine⟨j,by simpa[ByteArray.size] using a,?_⟩;grind
theorem qG:∀s:Aa,decide (0<=Lib.indexAny s [123,125])=F1 s
 | []=>rfl
 | b::l=>by
  have f:=qG l;have e:=Lib.indexAny_ge [123,125] l;have c:([123,125]:List UInt8).contains b=(b==123||b==125):=by rw[Ats];simp
  have a:F1 (b::l)=((b==123||b==125)||F1 l):=rfl;rw[Lib.indexAny,c,a,<-f];grind
theorem Uc(s:Aa)(o:s.length<4294967281)(w:World):Calls Tryz.prog 308 #[.string ⟨s.toArray⟩,.string ⟨#[123,125]⟩] w λe w'=>(∃v:Int,e=.returned (.int .i64 v)/\decide (0<=v)=F1 s)/\Below w.heap.size w w':=by
 by_cases k:s.length<=8
 .refine(P6 ⟨s.toArray⟩ (by simpa[ByteArray.size] using k) w).mono λe w' ⟨⟨v,c,f⟩,h3⟩=>⟨⟨v,c,?_⟩,h3⟩
  rcases f with⟨h4,h5⟩|⟨rfl,h5⟩
  .rw[(Oj s).1 h5];simpa using h4
  .cases m:F1 s with
   | false=>rfl
   | true=>obtain⟨j,g,h⟩:=(Oj s).2 m;have:=h5 j g g;grind
 .have a:(Tryz.prog.info? (Tryz.lays150_ren.t 116)).map (λi=>(i.zero,i.size))=some (some (.agg (Array.replicate 256 (.bool false))),256):=by kernel_rfl
  refine(Any.strings_IndexAny_long (P:=Tryz.prog) (ρ:=Tryz.lays150_ren) { Tryz.lays150 with } (zero_of_info a).1 (zero_of_info a).2 ⟨s.toArray⟩ ⟨#[123,125]⟩ w (by decide) (by simp[ByteArray.size];omega) (by simpa[ByteArray.size] using o) (by decide) (λj b h=>by
   match j with
   | 0=>simp at h;subst h;decide
   | 1=>simp at h;subst h;decide
   | j+2=>simp at h)).mono λe w' ⟨c,f⟩=>⟨⟨_,c,?_⟩,?_⟩
  .exact qG s
  .rw[f];exact((Awt _ _).alloc (AzR _) _).alloc (by simp) _
set_option maxHeartbeats 1000000 in
theorem AaX(s:Aa)(a:s.length<4294967281)(w:World):Calls Tryz.prog 270 #[.string ⟨s.toArray⟩,.string ⟨#[123,125]⟩] w λe w'=>e=.returned (.bool (F1 s))/\Below w.heap.size w w':=by
 have c:=Uc s a w
 go_enter Tryz.func270,Tryz.ntmps270
 go_wp2_with (go_at_call 308;refine c.mono ?_;rintro e w' ⟨⟨v,rfl,b⟩,f⟩)
 go_ret
 simp_all
theorem tL(W0:World)(s:Aa)(k:s.length<=2^31):Al Tryz.prog W0 270 [.s s,.s [123,125]] [] (.b (F1 s)) []:=by
 refine AQ (by kernel_rfl) λw vals i ⟨μ,H,c⟩=>?_;have a:=c.len;obtain⟨x,y,rfl⟩:∃x y,vals=[x,y]:=by
  match vals,a with
  | [x,y],_=>exact⟨x,y,rfl⟩
 obtain⟨rfl,j⟩:=B6 (c.at_ 0 _ _ rfl rfl);obtain⟨rfl,g⟩:=B6 (c.at_ 1 _ _ rfl rfl);exact(AaX s (by omega) w).mono λe w' ⟨f,h⟩=>⟨_,f,λ_ _=>.b _,h⟩
end Go.Ir
section
namespace Go.Ir
open Go.Proofs
variable(W0:World)
def Et:List (V×V):=[(.s [110,117,109,98,101,114],.i .i64 3),(.s [117,110,105,116],.i .i64 4),(.s [100,97,116,101],.i .i64 5),(.s [108,105,115,116],.i .i64 6),(.s [112,108,117,114,97,108],.i .i64 7),(.s [111,114,100,105,110,97,108],.i .i64 8),(.s [115,101,108,101,99,116],.i .i64 9)]
theorem Ak4:Iu Tryz.prog W0 134 [] [] (.map Et) []:=by refine VK (s:=0) Ajf (by simp) (by simp) λn0 a=>?_;clear a;unfold Et;have j:Bs .str (.s [110,117,109,98,101,114]) [] 0=some none:=rfl;have b:Bs .str (.s [117,110,105,116]) (Et.take 1) 0=some none:=rfl;have c:Bs .str (.s [100,97,116,101]) (Et.take 2) 0=some none:=rfl;have e:Bs .str (.s [108,105,115,116]) (Et.take 3) 0=some none:=rfl;have f:Bs .str (.s [112,108,117,114,97,108]) (Et.take 4) 0=some none:=rfl;have g:Bs .str (.s [111,114,100,105,110,97,108]) (Et.take 5) 0=some none:=rfl;have i:Bs .str (.s [115,101,108,101,99,116]) (Et.take 6) 0=some none:=rfl;simp only[Et,AtZ,AvS] at b c e f g i;simp only[push_cast,j,b,c,e,f,g,i];intros;exact⟨_,Ak.refl,_,rfl,by simp[lk],rfl,λ_ _ h=>by simp[lk] at h⟩
def T2(k:Int):Nat:=if decide (k>=3)&&decide (k<=9) then 2+(Z7 k).length else 0
mutual
def Aw.lenB:Aw->Nat
 | ⟨k,t,a,st,cs,ps⟩=>
  if k==1 then(Gx t).length
  else if k==10 then 1
  else if k==11 then(3+a.length)+(if ps.isEmpty then 0 else(2+a.length)+CH ps)
  else(2+a.length)+T2 k+(if st==[] then 0 else 2+st.length)+(if Dc k then 1 else 0)+FK cs
def CH:List Aw->Nat
 | []=>0
 | p::ps=>p.lenB+CH ps
def FK:List (Aa×List Aw)->Nat
 | []=>0
 | (key,ps)::cs=>((4+key.length)+CH ps)+FK cs
end
theorem Aw.lenB_eq(p:Aw):p.lenB=(if p.kind==1 then(Gx p.text).length
  else if p.kind==10 then 1
  else if p.kind==11 then(3+p.name.length)+(if p.parts.isEmpty then 0 else(2+p.name.length)+CH p.parts)
  else(2+p.name.length)+T2 p.kind+(if p.style==[] then 0 else 2+p.style.length)+(if Dc p.kind then 1 else 0)+FK p.cases):=by cases p;simp only[Aw.lenB]
theorem L9(p:Aw)(ps:List Aw):CH (p::ps)=p.lenB+CH ps:=by simp only[CH]
theorem Ij(c:DR)(cs:List DR):FK (c::cs)=((4+c.1.length)+CH c.2)+FK cs:=by obtain⟨k,q⟩:=c;simp only[FK]
theorem W9(k:Int):T2 k<=9:=by unfold T2;have:=MH k;split<;>omega
theorem Aw.lenB_le1(p:Aw)(b:CH p.parts<=20*Eo p.parts)(c:FK p.cases<=20*Io p.cases):p.lenB<=20*p.wt:=by rw[p.wt_eq,p.lenB_eq];have a:=QL p.text;have a2:=W9 p.kind;grind
theorem Yv:∀(N:Nat) (ps:List Aw),Eo ps<N->CH ps<=20*Eo ps:=by
 intro N
 induction N with
 | zero=>intro ps h;omega
 | succ N e=>
  have b:∀cs:List DR,Io cs<N->FK cs<=20*Io cs:=by
   intro cs
   induction cs with
   | nil=>intro _;simp[FK]
   | cons c cs a=>intro h;rw[E5] at h;rw[Ij,E5];grind
  intro ps
  induction ps with
  | nil=>intro _;simp[CH]
  | cons p ps a=>intro h;rw[FM] at h;rw[L9,FM];have f:=a (by omega);have g:=p.wt_eq;have:=p.lenB_le1 (e p.parts (by omega)) (b p.cases (by omega));omega
theorem Iw(ps:List Aw):CH ps<=20*Eo ps:=Yv _ ps (AzS _)
theorem kJ(cs:List DR):FK cs<=20*Io cs:=by
 induction cs with
 | nil=>simp[FK]
 | cons c cs a=>rw[Ij,E5];have:=Iw c.2;omega
theorem Aw.lenB_le(p:Aw):p.lenB<=20*p.wt:=p.lenB_le1 (Iw _) (kJ _)
theorem Q9:Et.length=7:=rfl
theorem Aa7{i:Nat}{a:V×V}(h:Et[i]?=some a):i<7/\a=(.s (Z7 (i+3:Nat)),.i .i64 (i+3:Nat)):=by
 have b:i<7:=by have:=(Af8.1 h).1;rw[Q9] at this;exact this
 refine⟨b,?_⟩;have:i=0\/i=1\/i=2\/i=3\/i=4\/i=5\/i=6:=by omega
 rcases this with rfl|rfl|rfl|rfl|rfl|rfl|rfl<;>(simp only[Et,Ayf,AxG,Amy] at h;rw[<-h];rfl)
def FN(k:Int)(seen:List Nat):Nat:=if decide (k>=3)&&seen.contains (k-3).toNat then 2+(Z7 k).length else 0
theorem bF(k:Int):FN k []=0:=by simp[FN]
theorem YQ{k:Int}{seen:List Nat}{i:Nat}(h:((i+3:Nat):Int)=k)(b:i∉seen):FN k seen=0/\FN k (seen++[i])=2+(Z7 (i+3:Nat)).length:=by
 subst h;have:(((i+3:Nat):Int)-3).toNat=i:=by omega
 have a:((i+3:Nat):Int)>=3:=by omega
 unfold FN;grind
theorem Th{k:Int}{seen:List Nat}{i:Nat}(h:((i+3:Nat):Int)≠k):FN k (seen++[i])=FN k seen:=by unfold FN;grind
theorem YG{k:Int}{seen:List Nat}(a:∀i,i<7->i∈seen)(b:∀i∈seen,i<7):FN k seen=T2 k:=by unfold FN T2;grind
def Qh(seen:List Nat):Nat:=(if 0∈seen then 0 else 1)+(if 1∈seen then 0 else 1)+(if 2∈seen then 0 else 1)+(if 3∈seen then 0 else 1)+(if 4∈seen then 0 else 1)+(if 5∈seen then 0 else 1)+(if 6∈seen then 0 else 1)
theorem sZ{seen:List Nat}{i:Nat}(b:i<7)(a:i∉seen):Qh (seen++[i])<Qh seen:=by
 have:i=0\/i=1\/i=2\/i=3\/i=4\/i=5\/i=6:=by omega
 unfold Qh;rcases this with rfl|rfl|rfl|rfl|rfl|rfl|rfl<;>simp[a]
end Go.Ir
end
namespace Go.Ir
open Go.Proofs
variable(W0:World)
set_option maxHeartbeats 4000000 in
theorem dX:∀(N:Nat) (ps:List Aw),Eo ps<N->Eo ps<=2^24->
  Al Tryz.prog W0 96 [.sl (ps.map Aw.enc)] [] (.i .i64 (CH ps)) []:=by
 intro N
 induction N with
 | zero=>intro ps h;omega
 | succ N ih=>
 intro ps hN hb;have aa:=eJ ps;generalize hS:CH ps=S;refine Ae (vs:=[.i .i64 S]) Apn (by simp) (by simp) λn0 V=>?_;clear V;simp only[push_cast,seval,reduceEqDiff];intros;refine Am ps.length (Inv:=λm st=>∃dn rest n e x,x=((e:Nat):Int)/\ps=dn++rest/\m=rest.length/\e+CH rest=S/\e+20*Eo rest<=20*Eo ps/\st=⟨[(3,.i .i64 x),(10,.sl (ps.map Aw.enc)),(11,.i .i64 ps.length),(12,.i .i64 dn.length)],[],n⟩) ⟨_,Ak.refl,[],ps,_,0,0,rfl,rfl,rfl,by omega,by omega,rfl⟩ ?_;clear hS;rintro m _ ⟨dn,rest,n,e,_,rfl,b,rfl,a,E,rfl⟩;cases rest with
 | nil=>
  rw[CH,AyJ] at a;subst a;simp only[push_cast,seval,reduceEqDiff,b]
  repeat' (first|(((first|apply Ab|apply Ag|apply Ah)<;>intro _h)<;>simp only[push_cast,seval,reduceEqDiff,_h])|intro _)
  all_goals (first|(refine Af ?_;simp[get]<;>(intros;omega);done)|(refine Ad ?_;simp[push_cast,get];done)|skip)
 | cons p rest=>
  have af:=AM b;have hw:=jY (ps:=ps) (p:=p) (by rw[b];simp);rw[p.wt_eq] at hw;rw[L9,<-Ay6] at a;rw[FM,p.wt_eq] at E;have W:=p.lenB_le;rw[p.wt_eq] at W;have aj:=Iw p.parts;have ai:=nQ p.cases;have U:=ih p.parts (by omega) (by omega);have K:=TE W0 p.kind;rw[p.lenB_eq] at a;by_cases k1:p.kind=1
  .have O:=aR W0 p.text (by omega);have:=QL p.text;rw[k1] at a;simp only[push_cast,seval,reduceEqDiff,b,Ai p (dn:=dn) (by omega),k1,Int.reduceBEq,Int.reduceBNe];have _h:=trivial;repeat' (first|(first|((first|apply Ab|apply Ag|apply Ah)<;>intro _h)|refine Ac O ?_|refine Ar (by omega) ?_)<;>simp only[push_cast,seval,reduceEqDiff,_h,b,Ai p (dn:=dn) (by omega),k1,Int.reduceBEq,Int.reduceBNe]|intro _)
   refine⟨_,_,AzS _,Ak.drop1 rfl (AzR _),dn++[p],rest,_,e+(Gx p.text).length,_,by(try simp(disch:=omega) only [wrap64]);omega,by simp,rfl,by rw[<-a];simp,by rw[<-b];omega,rfl⟩
  by_cases k2:p.kind=10
  .rw[k2] at a;simp only[push_cast,seval,reduceEqDiff,b,Ai p (dn:=dn) (by omega),k2,Int.reduceBEq,Int.reduceBNe]
   repeat' (first|(((first|apply Ab|apply Ag|apply Ah)<;>intro _h)<;>simp only[push_cast,seval,reduceEqDiff,_h,b,Ai p (dn:=dn) (by omega),k2,Int.reduceBEq,Int.reduceBNe])|(refine Ar (by omega) ?_;simp only[push_cast,seval,reduceEqDiff,b,Ai p (dn:=dn) (by omega),k2,Int.reduceBEq,Int.reduceBNe])|intro _)
   refine⟨_,_,AzS _,Ak.drop1 rfl (AzR _),dn++[p],rest,_,e+1,_,by(try simp(disch:=omega) only [wrap64]);omega,by simp,rfl,by rw[<-a];simp,by rw[<-b];omega,rfl⟩
  by_cases k3:p.kind=11
  .rw[k3] at a;rcases hps:p.parts with _|⟨q,qs⟩
   .rw[hps] at a;simp only[push_cast,seval,reduceEqDiff,b,Ai p (dn:=dn) (by omega),k3,Int.reduceBEq,Int.reduceBNe,hps]
    repeat' (first|(((first|apply Ab|apply Ag|apply Ah)<;>intro _h)<;>simp only[push_cast,seval,reduceEqDiff,_h,b,Ai p (dn:=dn) (by omega),k3,Int.reduceBEq,Int.reduceBNe,hps])|(refine Ar (by omega) ?_;simp only[push_cast,seval,reduceEqDiff,b,Ai p (dn:=dn) (by omega),k3,Int.reduceBEq,Int.reduceBNe,hps])|intro _)
    refine⟨_,_,AzS _,Ak.drop1 rfl (AzR _),dn++[p],rest,_,e+(3+p.name.length),_,by(try simp(disch:=omega) only [wrap64]);omega,by simp,rfl,by rw[<-a];simp,by rw[<-b];omega,rfl⟩
   .have Y:decide ((p.parts.length:Int)>0)=true:=by rw[hps];simp<;>omega
    have e2:p.parts.isEmpty=false:=by rw[hps];rfl
    rw[e2] at a;clear hps;simp only[push_cast,seval,reduceEqDiff,b,Ai p (dn:=dn) (by omega),k3,Int.reduceBEq,Int.reduceBNe,Y];have _h:=trivial;repeat' (first|(first|((first|apply Ab|apply Ag|apply Ah)<;>intro _h)|refine Ac U ?_|refine Ar (by omega) ?_)<;>simp only[push_cast,seval,reduceEqDiff,_h,b,Ai p (dn:=dn) (by omega),k3,Int.reduceBEq,Int.reduceBNe,Y]|intro _)
    refine⟨_,_,AzS _,Ak.drop1 rfl (AzR _),dn++[p],rest,_,e+(3+p.name.length)+((2+p.name.length)+CH p.parts),_,by(try simp(disch:=omega) only [wrap64]);omega,by simp,rfl,by rw[<-a];simp<;>omega,by rw[<-b];omega,rfl⟩
  have q1:(p.kind==1)=false:=by simpa using k1
  have q2:(p.kind==10)=false:=by simpa using k2
  have q3:(p.kind==11)=false:=by simpa using k3
  rw[q1,q2,q3] at a;simp only[bq,if_true,if_false,Int.reduceBEq,reduceCtorEq] at a;simp only[push_cast,seval,reduceEqDiff,b,Ai p (dn:=dn) (by omega),q1,q2,q3,Int.reduceBEq,Int.reduceBNe];intros;refine KO (Ak4 W0) (λ_ _ h=>by simp[lk] at h) ?_;rw[GS];simp only[push_cast,seval,reduceEqDiff];intro kk;have am:=MH p.kind;refine Am (Qh []) (Inv:=λm st=>∃seen n' x A L,x=((e+(2+p.name.length)+FN p.kind seen:Nat):Int)/\m=Qh seen/\(∀i∈seen,i<7)/\st=⟨[(3,.i .i64 x),(5,.ref (L,5) 0),(10,.sl (List.map Aw.enc (dn++p::rest))),(11,.i .i64 (dn++p::rest).length),(12,.i .i64 dn.length),(25,.arr (A,25))],[((A,25),.mit (A,24) Et.length seen Et.length),((A,24),.map Et),((L,5),.box p.v)],n'⟩) ⟨_,Ak.refl,[],_,_,_,_,by(simp(disch:=omega) only [wrap64,bF];omega),rfl,by simp,rfl⟩ ?_;rintro m _ ⟨seen,n',x,A,L,X,rfl,J,rfl⟩;unfold Aw.v;simp only[push_cast,seval,reduceEqDiff,b,Ai p (dn:=dn) (by omega),q1,q2,q3,Int.reduceBEq,Int.reduceBNe];refine Xl (id:=(A,25)) (mid:=(A,24)) (es:=Et) (seen:=seen) rfl (by simp[lk]) (by simp[lk]) (by simp) (by simp) (λi kv R H=>?_) (λr=>?_)
  .obtain⟨T,rfl⟩:=Aa7 R;have s:(seen++[i]).getLast?=some i:=by simp
   have ab:=MH (i+3:Nat);have G:=sZ T H;have z:∀j∈seen++[i],j<7:=by grind
   have F:=λh=>YQ (k:=p.kind) (seen:=seen) (i:=i) h H;have B:=λh=>Th (k:=p.kind) (seen:=seen) (i:=i) h;generalize ah:((i+3:Nat):Int)=ki at *;have ak:FN p.kind seen<=9:=by unfold FN;split<;>omega
   simp only[push_cast,seval,reduceEqDiff,s,R]
   repeat' (first|(((first|apply Ab|apply Ag|apply Ah)<;>intro _h)<;>simp only[push_cast,seval,reduceEqDiff,_h,s,R])|intro _)
   .obtain⟨u1,u2⟩:=F (by simpa using _h);refine⟨_,_,G,Ak.refl,seen++[i],_,_,_,_,?_,rfl,z,rfl⟩;rw[u2];rw[u1] at X;simp(disch:=omega) only [wrap64];omega
   .have u2:=B (by simpa using _h);refine⟨_,_,G,Ak.envD (λt=>?_) (AzR _),seen++[i],_,x,A,L,?_,rfl,z,rfl⟩
    .by_cases Z:6=t
     .right;subst Z;rfl
     .by_cases D:34=t
      .right;subst D;rfl
      .left;simp[get,Z,D]
    omega
  .rw[Q9] at r;rw[YG r J] at X;have an:=W9 p.kind;clear r J;obtain⟨sS,w⟩:∃n,n=(if(p.style==[])=true then 0 else 2+p.style.length):=⟨_,rfl⟩
   obtain⟨sC,u⟩:∃n,n=(if Dc p.kind=true then 1 else 0):=⟨_,rfl⟩;rw[<-w,<-u] at a;simp only[push_cast,seval,reduceEqDiff,b,Ai p (dn:=dn) (by omega),q1,q2,q3,Int.reduceBEq,Int.reduceBNe];have _h:=trivial;repeat' (first|(first|((first|apply Ab|apply Ag|apply Ah)<;>intro _h)|refine Ac K ?_)<;>simp only[push_cast,seval,reduceEqDiff,_h,b,Ai p (dn:=dn) (by omega),q1,q2,q3,Int.reduceBEq,Int.reduceBNe]|intro _)
   all_goals (try simp only[Ar9,AzM] at *)
   all_goals (first|rw[if_pos (by assumption)] at w|rw[if_neg (by grind)] at w)
   all_goals (first|rw[if_pos (by assumption)] at u|rw[if_neg (by grind)] at u)
   all_goals
    refine Am p.cases.length (Inv:=λm st=>∃C y n' f x,x=((f:Nat):Int)/\p.cases=C++y/\m=y.length/\f+FK y+CH rest=S/\f+20*Io y+20*Eo rest<=20*Eo ps/\st=⟨[(3,.i .i64 x),(10,.sl (List.map Aw.enc (dn++p::rest))),(11,.i .i64 (dn++p::rest).length),(12,.i .i64 dn.length),(55,.sl (p.cases.map DR.enc)),(56,.i .i64 p.cases.length),(57,.i .i64 C.length)],[],n'⟩) ⟨_,Ak.drop (λ_ _ h=>by cases h) (AzR _),[],p.cases,_,e+(2+p.name.length)+T2 p.kind+sS+sC,_,by((try simp(disch:=omega) only [wrap64]);omega),rfl,rfl,by rw[<-a];omega,by omega,rfl⟩ ?_;clear a w u X;rintro m _ ⟨C,y,n',f,x,rfl,g,rfl,a,o,rfl⟩;cases y with
    | nil=>rw[FK,AyJ] at a;rw[iV] at o;simp only[push_cast,seval,reduceEqDiff,g,Ai p (dn:=dn) (by omega)];intros;exact⟨_,_,AzS _,Ak.refl,dn++[p],rest,_,f,_,rfl,by simp,rfl,a,by rw[<-b];omega,rfl⟩
    | cons c y=>
     have ag:=AM g;have ap:=iT (cs:=p.cases) (c:=c) (by simp[g]);rw[Ij] at a;rw[E5] at o;have al:=Iw c.2;have M:=ih c.2 (by omega) (by omega);simp only[push_cast,seval,reduceEqDiff,g,Ai c (dn:=C) (by omega)]
     repeat' (first|(refine Ac (by exact M) ?_;simp only[push_cast,seval,reduceEqDiff,g,Ai c (dn:=C) (by omega)])|intro _)
     refine⟨_,_,AzS _,Ak.drop1 rfl (AzR _),C++[c],y,_,f+((4+c.1.length)+CH c.2),_,by(simp(disch:=omega) only [wrap64];omega),by simp[g],rfl,by rw[<-a];omega,by omega,rfl⟩
def n9(ps:List Aw):Bool:=(RE ps 0 false false []).1&&decide (((RE ps 0 false false []).2.length:Int)<=20)&&decide ((CH ps:Int)<=4000)
structure WX where
 L:BR
 vs:List BC
 iso:Bool
def wA(u:Bool)(a:Id):V:=if u then .ref a 0 else .np
def wC(X:WX)(a:V)(b:Id)(e:Int):V:=.agg [a,.arr b,.s X.L.tag,.s X.L.parent,.s X.L.dir,.sl (X.L.card.map AF.enc),.sl (X.L.ord.map AF.enc),.s X.L.dec,.s X.L.grp,.s X.L.minus,.s X.L.perc,.i .i64 X.L.prim,.i .i64 X.L.sec,.sl (X.L.lists.map CJ.enc),.sl (X.L.units.map D6.enc),.sl (X.L.dates.map CO.enc),.sl (X.L.months.map V.s),.sl (X.L.days.map V.s),.sl (X.vs.map BC.enc),.b X.iso,.i .i64 e]
@[push_cast] theorem AwC(X:WX)(a:V)(b:Id)(e:Int):wC X a b e=.agg [a,.arr b,.s X.L.tag,.s X.L.parent,.s X.L.dir,.sl (X.L.card.map AF.enc),.sl (X.L.ord.map AF.enc),.s X.L.dec,.s X.L.grp,.s X.L.minus,.s X.L.perc,.i .i64 X.L.prim,.i .i64 X.L.sec,.sl (X.L.lists.map CJ.enc),.sl (X.L.units.map D6.enc),.sl (X.L.dates.map CO.enc),.sl (X.L.months.map V.s),.sl (X.L.days.map V.s),.sl (X.vs.map BC.enc),.b X.iso,.i .i64 e]:=rfl
theorem Kt{n0 n n' m:Nat}{b a:Id}(h:n<=a.1/\a.1<n'\/a=b)(c:n0<=n)(e:n'<=m):n0<=a.1/\a.1<m\/a=b:=by grind
theorem EM(a b:Aa):Ay a++Ay b=Ay (a++b):=by simp[Ay]
theorem Bx(a:Aa):(Ay a).length=a.length:=by simp[Ay]
theorem Lb{a c:Id}{A C:A5}(h:a≠c):∀i e,lk [(a,A),(c,C)] i=some e->lk [(c,C),(a,A)] i=some e:=by intro i e b;simp only[lk] at b⊢;grind
theorem Ti(σ σo:Aj):over σ σo σ=σo:=by have:=EF (σi:=σ) (σo:=σo) (pre:=[]) (λp hp=>by cases hp);simpa using this
theorem Ak.ownTbox{W0:World}{T:TypeId}{nt n:Nat}{env:A9}{τ:Aj}{b:Id}{A B:List V}(e sz k:Nat):Ak W0 nt ⟨env,(b,.tbox T (.agg (A++.nil::B)))::τ,n⟩ ⟨env,((n,k),.arr e sz [])::(b,.tbox T (.agg (A++.arr (n,k)::B)))::τ,n+1⟩:=by
 intro B' a w y;obtain⟨μ,H,K,hp,U,u,r,z⟩:=y;have f:μ (n,k)=none:=hp.bd _ (AzR _);have o:=Bm (v:=.slice none 0 0) f;have D:lk ((b,A5.tbox T (.agg (A++.nil::B)))::τ) b=some (.tbox T (.agg (A++.nil::B))):=by simp[lk]
 have t:((n,k):Id)≠b:=by rintro rfl;obtain⟨_,G⟩:=(hp.ents _ _ D).named;rw[f] at G;cases G
 have g:=(hp.more (Am9 n)).new_ (n':=n+1) (w':=w) (R:=λ_=>False) ⟨rfl,rfl,rfl,AzR _,λ_ _ _=>rfl⟩ (λ_ h=>h.elim) (σ1:=(b,.tbox T (.agg (A++.nil::B)))::τ) (λid e h=>⟨h,λ_ _ h=>h⟩) (id:=(n,k)) (e:=.arr e sz []) (val:=.slice none 0 0) f (AzS _) (AzR _) (λF S=>by simp[BB] at S)
  ⟨.slice none 0 0,[],Ap _ _ _,rfl,Azg w _ e sz,Aqn _,(λx Y=>by cases Y),AK.nil_⟩
 have s:lk (((n,k),A5.arr e sz [])::(b,.tbox T (.agg (A++.nil::B)))::τ) b=some (.tbox T (.agg (A++.nil::B))):=by simp[lk,t]
 have i:=g.1.set_ s (w':=w) (e:=.tbox T (.agg (A++.arr (n,k)::B))) ⟨rfl,rfl,rfl,AzR _,λ_ _ _=>rfl⟩ (by
  obtain⟨F,vals,M,N,O,p⟩:=g.1.ents _ _ s;refine⟨F,vals,M,N,O,⟨⟨by have:=p.len;simpa[cells] using this,λj c v m E=>?_⟩,p.one⟩⟩;simp only[cells] at m;by_cases W:j<A.length
  .rw[Ava W] at m;exact p.at_ j c v (by simp only[cells];grind) E
  .rw[AsT (by omega)] at m;cases J:j-A.length with
   | zero=>rw[J] at m;simp only[Ayf,Amy] at m;subst m;have:=p.at_ j .nil v (by simp only[cells];grind) E;rw[this.nil_inv];exact .arr _ _ (Ap _ _ _) rfl
   | succ q=>rw[J] at m;simp only[AxG] at m;exact p.at_ j c v (by simp only[cells];grind) E)
 have X:upd (((n,k),A5.arr e sz [])::(b,.tbox T (.agg (A++.nil::B)))::τ) b (.tbox T (.agg (A++.arr (n,k)::B)))=((n,k),.arr e sz [])::(b,.tbox T (.agg (A++.arr (n,k)::B)))::τ:=by simp[upd,t]
 rw[X] at i;refine⟨_,H,⟨K.size,λZ=>(K.at_ Z).mono o (λ_ _ h=>h)⟩,i.1,U.trans (g.2.trans i.2),λid C L=>?_,Am5 r (Am9 _),z⟩;simp only at r;rw[B0 _ _ (by grind)];exact u id C L


def Aa9:List E7->Nat->List Aa×Nat
 | [],i=>([],i)
 | s::L,i=>(s.keys[(Aa9 L i).2 % s.keys.length]?.getD []::(Aa9 L i).1,(Aa9 L i).2 / s.keys.length)
abbrev fW:=List E7×List (List Aw)
def AjZ(a:List Aa->qC)(L:List E7)(ps:List Aw)(n:Nat):List (List Aw):=(List.range n).map λi=>XM (a (Aa9 L i).1) [] ps []
def ApC(l:Loc)(ps:List Aw):fW×Int:=
 if !n9 ps then(([],[]),1)
 else if decide ((QE 1 (Rg ps):Int)>400) then(([],[]),6)
 else if !CU [] l.card||!CU [] l.ord then(([],[]),18)
 else((Rg ps,AjZ (pkP l (Rg ps)) (Rg ps) ps (QE 1 (Rg ps))),0)
def dG:List Aa->List Aa->Bool
 | _,[]=>true
 | d,k::r=>!d.contains k&&dG (d++[k]) r
def YJ(l:List Aa):Bool:=match l.getLast? with
 | none=>false
 | some k=>k==CN
def Anq(s:E7):Bool:=Dc s.kind&&(De s.name&&YJ s.keys)
def Vw:List E7->List E7->Bool
 | _,[]=>true
 | d,s::r=>Anq s&&(dG [] s.keys&&(!d.any (Qq s.kind s.name)&&Vw (d++[s]) r))
def Agy(f:fW):Bool:=Vw [] f.1&&(decide ((QE 1 f.1:Int)<=400)&&((f.2.length:Int)==(QE 1 f.1:Int)))

def QX:List Aa->Int->Int
 | [],n=>n
 | x::r,n=>QX r (max n (x.length:Int))
def C6(e:Bool):List BC->Bool
 | []=>e
 | v::r=>!(decide (QX v.list (v.text.length:Int)>200)||decide ((v.list.length:Int)>12)||decide ((v.name.length:Int)>60))&&C6 e r
set_option maxHeartbeats 4000000 in
theorem Yw(vs:List BC)(D:vs.length<=2^40)(B:∀v∈vs,v.list.length<=2^40):Al Tryz.prog W0 18 [.sl (vs.map BC.enc)] [] (.b (C6 (decide ((vs.length:Int)<=30)) vs)) []:=by
 generalize y:decide ((vs.length:Int)<=30)=E;generalize hS:C6 E vs=S;refine Ae (vs:=[.b S]) An3 (by simp) (by simp) λn0 t=>?_;clear t;simp only[push_cast,reduceEqDiff];intros;refine Am vs.length (Inv:=λm st=>∃dn rest n,vs=dn++rest/\m=rest.length/\C6 E rest=S/\st=⟨[(0,.sl (vs.map BC.enc)),(3,.i .i64 dn.length)],[],n⟩) ⟨_,Ak.refl,[],vs,_,rfl,rfl,hS,rfl⟩ ?_;clear hS;rintro m _ ⟨dn,rest,n,p,rfl,h,rfl⟩;cases rest with
 | nil=>
  have f:decide ((dn.length:Int)<(vs.length:Int))=false:=by rw[p];simp
  rw[C6] at h;simp only[push_cast,reduceEqDiff,f,y];intros;exact Af (by simp[get,h])
 | cons v rest=>
  have f:decide ((dn.length:Int)<(vs.length:Int))=true:=by rw[p];simp;omega
  have z:=AM p;have c:(vs.map BC.enc)[dn.length]?=some (.agg [.s v.name,.i .i64 v.type,.s v.text,.i .i64 v.date,.sl (v.list.map V.s)]):=by rw[p,Akg,AsT (by simp)];simp[BC.enc_eq]
  have C:=B v (by rw[p];simp);rw[C6] at h;simp only[push_cast,reduceEqDiff,f,c];intros;refine Am v.list.length (Inv:=λm st=>∃j o n a,v.list=j++o/\m=o.length/\QX v.list (v.text.length:Int)=QX o a/\st=⟨[(0,.sl (vs.map BC.enc)),(3,.i .i64 dn.length),(4,.i .i64 a),(5,.i .i64 j.length)],[],n⟩) ⟨_,Ak.refl,[],v.list,_,_,rfl,rfl,rfl,rfl⟩ ?_;rintro m _ ⟨j,o,F,a,e,rfl,q,rfl⟩;cases o with
  | nil=>
   have g:decide ((j.length:Int)<(v.list.length:Int))=false:=by rw[e];simp
   rw[QX] at q;rw[q] at h;simp only[push_cast,reduceEqDiff,g,c];clear q e
   repeat' (first|(((first|apply Ab|apply Ag|apply Ah)<;>intro _h)<;>simp only[push_cast,reduceEqDiff,_h,c,Ai v (dn:=dn) (by omega)])|intro _)
   all_goals (first|(simp only[*] at h;subst h;exact Af (by simp[get]))|skip)
   have u:decide ((v.list.length:Int)>12)=false:=by assumption
   have w:decide ((v.name.length:Int)>60)=false:=by assumption
   have x:decide (a>200)=false:=by assumption
   simp only[u,w,x] at h;exact⟨_,_,AzS _,Ak.refl,dn++[v],rest,_,by rw[p];simp,rfl,h,rfl⟩
  | cons k o=>
   have g:decide ((j.length:Int)<(v.list.length:Int))=true:=by rw[e];simp;omega
   have A:=AM e;have r:(v.list.map V.s)[j.length]?=some (.s k):=by simp_all
   rw[QX] at q;simp only[push_cast,reduceEqDiff,g,c,r,Ai k (dn:=j) (by omega)];intros;exact⟨_,_,AzS _,Ak.refl,j++[k],o,_,_,by rw[e];simp,rfl,q,rfl⟩
def Hi(s:Aa):Nat:=s.length+30
def El(l:List Aa):Nat:=B5 Hi l
theorem FA(l:List Aa)(k:El l<=2^40):Al Tryz.prog W0 85 [.sl (l.map V.s)] [] (.i .i64 (El l)) []:=by
 have f:l.length<=El l:=ET (λx=>by unfold Hi;omega) l;generalize hS:El l=S at *;refine Ae (vs:=[.i .i64 S]) Asx (by simp) (by simp) λn0 c=>?_;clear c;simp only[push_cast,reduceEqDiff];intros;refine Am l.length (Inv:=λm st=>∃dn rest n,∃a:Nat,l=dn++rest/\m=rest.length/\a+El rest=S/\st=⟨[(0,.sl (l.map V.s)),(3,.i .i64 a),(4,.i .i64 dn.length)],[],n⟩) ⟨_,Ak.refl,[],l,_,0,rfl,rfl,by rw[hS];omega,rfl⟩ ?_;clear hS;rintro m _ ⟨dn,rest,n,a,e,rfl,b,rfl⟩;cases rest with
 | nil=>
  have:a=S:=by simpa[El,B5] using b
  subst this;simp only[push_cast,reduceEqDiff,e];intros
  all_goals (first|(refine Af ?_;simp <;>(intros;omega);done)|(refine Ad ?_;simp[push_cast];done)|skip)
 | cons p rest=>
  have g:=AM e;unfold El at b;rw[B5] at b;have hp:Hi p=p.length+30:=rfl;have h:IntKind.i64.wrap ((p.length:Int)+30)=((Hi p:Nat):Int):=by rw[wrap64 (by omega) (by omega),hp];omega
  have j:IntKind.i64.wrap ((a:Int)+((Hi p:Nat):Int))=((a+Hi p:Nat):Int):=by rw[wrap64 (by omega) (by omega)];omega
  simp only[push_cast,reduceEqDiff,e,Ai p (dn:=dn) (by omega),h,j];intros;exact⟨_,_,AzS _,Ak.refl,dn++[p],rest,_,a+Hi p,by simp,rfl,by unfold El;omega,rfl⟩
def CJ.sz(x:CJ):Nat:=El [x.style,x.two,x.start,x.mid,x.fin]
def D6.sz(x:D6):Nat:=El [x.unit,x.cls,x.pat]
def CO.sz(x:CO):Nat:=El [x.skel,x.pat]
def Nb(L:BR):Nat:=(El [L.tag,L.parent,L.dir,L.dec,L.grp,L.minus,L.perc]+El L.months+El L.days+100*(L.card.length+L.ord.length))+B5 CJ.sz L.lists+B5 D6.sz L.units+B5 CO.sz L.dates
set_option maxHeartbeats 4000000 in
theorem AcZ(L:BR)(z:Nb L<=2^40):Al Tryz.prog W0 54 [.agg [.sl [L.enc],.nil,.nil]] [] (.i .i64 (Nb L)) []:=by
 have U:L.lists.length<=B5 CJ.sz L.lists:=ET (λx=>by unfold CJ.sz El;simp only[B5,Hi];omega) _;have W:L.units.length<=B5 D6.sz L.units:=ET (λx=>by unfold D6.sz El;simp only[B5,Hi];omega) _;have X:L.dates.length<=B5 CO.sz L.dates:=ET (λx=>by unfold CO.sz El;simp only[B5,Hi];omega) _;have M:=FA W0 [L.tag,L.parent,L.dir,L.dec,L.grp,L.minus,L.perc] (by unfold Nb at z;omega);have O:=FA W0 L.days (by unfold Nb at z;omega);have c3:=FA W0 L.months (by unfold Nb at z;omega);simp only[AlG,Apy] at M;generalize hS:Nb L=S;unfold Nb at hS z;generalize El [L.tag,L.parent,L.dir,L.dec,L.grp,L.minus,L.perc]=t at *;generalize El L.days=B at *;generalize El L.months=u at *;generalize Z:t+u+B+100*(L.card.length+L.ord.length)=A at *;refine Ae (vs:=[.i .i64 S]) Aoj (by simp) (by simp) λn0 J=>?_;clear J;simp only[push_cast,seval,reduceEqDiff];intros;refine Am 1 (Inv:=λm st=>∃n,∃a:Nat,(a=0/\m=1\/a=S/\m=0)/\st=⟨[(1,.ref (n0,1) 0),(3,.i .i64 a),(4,.i .i64 ((1-m:Nat):Int))],[((n0,1),.box (.agg [.sl [L.enc],.nil,.nil]))],n⟩) ⟨_,Ak.refl,_,0,.inl ⟨rfl,rfl⟩,rfl⟩ ?_;rintro m _ ⟨n,a,Y,rfl⟩;rcases Y with⟨rfl,rfl⟩|⟨rfl,rfl⟩
 .have C:IntKind.i64.wrap ((t:Int)+(u:Int))=(t:Int)+(u:Int):=by rw[wrap64 (by omega) (by omega)]
  have D:IntKind.i64.wrap ((t:Int)+(u:Int)+(B:Int))=(t:Int)+(u:Int)+(B:Int):=by rw[wrap64 (by omega) (by omega)]
  have E:IntKind.i64.wrap ((L.card.length:Int)+(L.ord.length:Int))=(L.card.length:Int)+(L.ord.length:Int):=by rw[wrap64 (by omega) (by omega)]
  have F:IntKind.i64.wrap (100*((L.card.length:Int)+(L.ord.length:Int)))=100*((L.card.length:Int)+(L.ord.length:Int)):=by rw[wrap64 (by omega) (by omega)]
  have G:IntKind.i64.wrap ((t:Int)+(u:Int)+(B:Int)+100*((L.card.length:Int)+(L.ord.length:Int)))=(A:Int):=by rw[wrap64 (by omega) (by omega)];omega
  have H:IntKind.i64.wrap (0+(A:Int))=(A:Int):=by grind
  simp only[push_cast,seval,reduceEqDiff,C,D,E,F,G,H];intros;refine Ac (by exact M) ?_;simp only[push_cast,seval,reduceEqDiff,C,D,E,F,G,H];refine Ac (by exact c3) ?_;simp only[push_cast,seval,reduceEqDiff,C,D,E,F,G,H];refine Ac (by exact O) ?_;simp only[push_cast,seval,reduceEqDiff,C,D,E,F,G,H];intros;rename_i k1 k2 k3 k4;obtain⟨x,N⟩:∃x:Id,x=(n+1+k1,5):=⟨_,rfl⟩
  have K:x≠(n0,1):=by rw[N];simp
  rw[<-N];generalize y:((x,A5.box (.agg [.s L.tag,.s L.parent,.s L.dir,.sl (L.card.map AF.enc),.sl (L.ord.map AF.enc),.s L.dec,.s L.grp,.s L.minus,.s L.perc,.i .i64 L.prim,.i .i64 L.sec,.sl (L.lists.map CJ.enc),.sl (L.units.map D6.enc),.sl (L.dates.map CO.enc),.sl (L.months.map V.s),.sl (L.days.map V.s)]))::_:Aj)=τ;have c:lk τ x=some (.box (.agg [.s L.tag,.s L.parent,.s L.dir,.sl (L.card.map AF.enc),.sl (L.ord.map AF.enc),.s L.dec,.s L.grp,.s L.minus,.s L.perc,.i .i64 L.prim,.i .i64 L.sec,.sl (L.lists.map CJ.enc),.sl (L.units.map D6.enc),.sl (L.dates.map CO.enc),.sl (L.months.map V.s),.sl (L.days.map V.s)])):=by rw[<-y];simp[lk]
  obtain⟨r,R⟩:∃r,r=A+B5 CJ.sz L.lists:=⟨_,rfl⟩;obtain⟨v,T⟩:∃v,v=r+B5 D6.sz L.units:=⟨_,rfl⟩;refine Am L.lists.length (Inv:=λm st=>∃dn rest j,∃a:Nat,L.lists=dn++rest/\m=rest.length/\a+B5 CJ.sz rest=A+B5 CJ.sz L.lists/\st=⟨[(1,.ref (n0,1) 0),(3,.i .i64 a),(4,.i .i64 0),(5,.ref x 0),(6,.i .i64 dn.length)],τ,j⟩) ⟨_,Ak.refl,[],L.lists,_,A,rfl,rfl,rfl,rfl⟩ ?_;rintro m _ ⟨dn,rest,j,a,f,rfl,k,rfl⟩;cases rest with
  | cons p rest=>
   have g:=AM f;rw[B5] at k;have o:CJ.sz p<=2^40:=by omega
   have cs:Al Tryz.prog W0 85 [.sl [.s p.style,.s p.two,.s p.start,.s p.mid,.s p.fin]] [] (.i .i64 (CJ.sz p)) []:=FA W0 [p.style,p.two,p.start,p.mid,p.fin] o;have q:IntKind.i64.wrap ((a:Int)+((CJ.sz p:Nat):Int))=(a:Int)+((CJ.sz p:Nat):Int):=by rw[wrap64 (by omega) (by omega)]
   have e:(L.lists.map CJ.enc)[dn.length]?=some (CJ.enc p):=by rw[f];simp
   have b:decide ((dn.length:Int)<(L.lists.length:Int))=true:=by rw[f];simp;omega
   have h:IntKind.i64.wrap ((dn.length:Int)+1)=((dn++[p]).length:Int):=Ai p (by omega);simp only[push_cast,seval,reduceEqDiff,e,b,h,c,q,if_pos g];have _h:=trivial;repeat' (first|(first|((first|apply Ab|apply Ag|apply Ah)<;>intro _h)|refine Ac cs ?_)<;>simp only[push_cast,seval,reduceEqDiff,_h,e,b,h,c,q,if_pos g]|intro _)
   exact⟨_,_,AzS _,Ak.refl,dn++[p],rest,_,a+CJ.sz p,by rw[f];simp,rfl,by omega,rfl⟩
  | nil=>
   have w:a=r:=by rw[B5] at k;omega
   rw[w];have b:decide ((dn.length:Int)<(L.lists.length:Int))=false:=by rw[f];simp
   simp only[push_cast,seval,reduceEqDiff,b,c];intros;clear k f b;refine Am L.units.length (Inv:=λm st=>∃dn rest j,∃a:Nat,L.units=dn++rest/\m=rest.length/\a+B5 D6.sz rest=r+B5 D6.sz L.units/\st=⟨[(1,.ref (n0,1) 0),(3,.i .i64 a),(4,.i .i64 0),(5,.ref x 0),(7,.i .i64 dn.length)],τ,j⟩) ⟨_,Ak.refl,[],L.units,_,r,rfl,rfl,rfl,rfl⟩ ?_;rintro m _ ⟨dn,rest,j,a,f,rfl,k,rfl⟩;cases rest with
   | cons p rest=>
    have g:=AM f;rw[B5] at k;have o:D6.sz p<=2^40:=by omega
    have cs:Al Tryz.prog W0 85 [.sl [.s p.unit,.s p.cls,.s p.pat]] [] (.i .i64 (D6.sz p)) []:=FA W0 [p.unit,p.cls,p.pat] o;have q:IntKind.i64.wrap ((a:Int)+((D6.sz p:Nat):Int))=(a:Int)+((D6.sz p:Nat):Int):=by rw[wrap64 (by omega) (by omega)]
    have e:(L.units.map D6.enc)[dn.length]?=some (D6.enc p):=by rw[f];simp
    have b:decide ((dn.length:Int)<(L.units.length:Int))=true:=by rw[f];simp;omega
    have h:IntKind.i64.wrap ((dn.length:Int)+1)=((dn++[p]).length:Int):=Ai p (by omega);simp only[push_cast,seval,reduceEqDiff,e,b,h,c,q,if_pos g];have _h:=trivial;repeat' (first|(first|((first|apply Ab|apply Ag|apply Ah)<;>intro _h)|refine Ac cs ?_)<;>simp only[push_cast,seval,reduceEqDiff,_h,e,b,h,c,q,if_pos g]|intro _)
    exact⟨_,_,AzS _,Ak.refl,dn++[p],rest,_,a+D6.sz p,by rw[f];simp,rfl,by omega,rfl⟩
   | nil=>
    have w:a=v:=by rw[B5] at k;omega
    rw[w];have b:decide ((dn.length:Int)<(L.units.length:Int))=false:=by rw[f];simp
    simp only[push_cast,seval,reduceEqDiff,b,c];intros;clear k f b;refine Am L.dates.length (Inv:=λm st=>∃dn rest j,∃a:Nat,L.dates=dn++rest/\m=rest.length/\a+B5 CO.sz rest=v+B5 CO.sz L.dates/\st=⟨[(1,.ref (n0,1) 0),(3,.i .i64 a),(4,.i .i64 0),(5,.ref x 0),(8,.i .i64 dn.length)],τ,j⟩) ⟨_,Ak.refl,[],L.dates,_,v,rfl,rfl,rfl,rfl⟩ ?_;rintro m _ ⟨dn,rest,j,a,f,rfl,k,rfl⟩;cases rest with
    | cons p rest=>
     have g:=AM f;rw[B5] at k;have o:CO.sz p<=2^40:=by omega
     have cs:Al Tryz.prog W0 85 [.sl [.s p.skel,.s p.pat]] [] (.i .i64 (CO.sz p)) []:=FA W0 [p.skel,p.pat] o;have q:IntKind.i64.wrap ((a:Int)+((CO.sz p:Nat):Int))=(a:Int)+((CO.sz p:Nat):Int):=by rw[wrap64 (by omega) (by omega)]
     have e:(L.dates.map CO.enc)[dn.length]?=some (CO.enc p):=by rw[f];simp
     have b:decide ((dn.length:Int)<(L.dates.length:Int))=true:=by rw[f];simp;omega
     have h:IntKind.i64.wrap ((dn.length:Int)+1)=((dn++[p]).length:Int):=Ai p (by omega);simp only[push_cast,seval,reduceEqDiff,e,b,h,c,q,if_pos g];have _h:=trivial;repeat' (first|(first|((first|apply Ab|apply Ag|apply Ah)<;>intro _h)|refine Ac cs ?_)<;>simp only[push_cast,seval,reduceEqDiff,_h,e,b,h,c,q,if_pos g]|intro _)
     exact⟨_,_,AzS _,Ak.refl,dn++[p],rest,_,a+CO.sz p,by rw[f];simp,rfl,by omega,rfl⟩
    | nil=>
     have w:a=S:=by rw[B5] at k;omega
     rw[w];have b:decide ((dn.length:Int)<(L.dates.length:Int))=false:=by rw[f];simp
     simp only[push_cast,seval,reduceEqDiff,b,c];intros;clear k f b;exact⟨_,_,by omega,(by rw[<-y];exact Ak.drop1 (by simp[lk,AfT K]) (AzR _)),_,S,.inr ⟨rfl,rfl⟩,rfl⟩
 .skip;simp only[push_cast,seval,reduceEqDiff,lk];intros;refine Am 0 (Inv:=λm st=>∃j,st=⟨[(1,.ref (n0,1) 0),(3,.i .i64 a),(9,.i .i64 0)],[((n0,1),.box (.agg [.sl [L.enc],.nil,.nil]))],j⟩) ⟨_,Ak.refl,_,rfl⟩ ?_;rintro m _ ⟨j,rfl⟩;simp only[push_cast,seval,reduceEqDiff,lk];intros;refine Am 0 (Inv:=λm st=>∃j,st=⟨[(1,.ref (n0,1) 0),(3,.i .i64 a),(10,.i .i64 0)],[((n0,1),.box (.agg [.sl [L.enc],.nil,.nil]))],j⟩) ⟨_,Ak.refl,_,rfl⟩ ?_;rintro m _ ⟨j,rfl⟩;simp only[push_cast,seval,reduceEqDiff,lk];intros;exact Af (by simp[get])
def PK(L:BR):Bool:=!(decide ((L.card.length:Int)>12)||decide ((L.ord.length:Int)>12)||decide ((L.lists.length:Int)>12)||decide ((L.units.length:Int)>110)||decide ((L.dates.length:Int)>40)||decide ((L.months.length:Int)>20)||decide ((L.days.length:Int)>20))
def Ix(L:BR):Bool:=PK L&&((L.card++L.ord).all (λr=>Ga r.cond)&&decide ((Nb L:Int)<=40000))
set_option maxHeartbeats 4000000 in
theorem Aap(L:BR)(hb:Nb L<=2^40)(hw:A7 L.card+A7 L.ord<=2^24):Al Tryz.prog W0 32 [.agg [.sl [L.enc],.nil,.nil]] [] (.b (Ix L)) []:=by
 have ab:=AcZ W0 L hb;have g1:=Fl L.card;have g2:=Fl L.ord;generalize hS:Ix L=S;unfold Ix at hS;refine Ae (vs:=[.b S]) Ar7 (by simp) (by simp) λn0 aa=>?_;clear aa;simp only[push_cast,seval,reduceEqDiff];intros;refine Am 1 (Inv:=λm st=>∃n,(m=1/\(PK L&&((L.card++L.ord).all (λr=>Ga r.cond)&&decide ((Nb L:Int)<=40000)))=S\/m=0/\decide ((Nb L:Int)<=40000)=S)/\st=⟨[(1,.ref (n0,1) 0),(3,.i .i64 ((1-m:Nat):Int))],[((n0,1),.box (.agg [.sl [L.enc],.nil,.nil]))],n⟩) ⟨_,Ak.refl,_,.inl ⟨rfl,hS⟩,rfl⟩ ?_;clear hS;rintro m _ ⟨n,⟨rfl,a⟩|⟨rfl,a⟩,rfl⟩
 .generalize W:PK L=F at a;unfold PK at W;simp only[push_cast,seval,reduceEqDiff,Abn]
  repeat' (first|(((first|apply Ab|apply Ag|apply Ah)<;>intro _h)<;>simp only[push_cast,seval,reduceEqDiff,_h,Abn])|intro _)
  all_goals (first|(simp only[*,bq,if_true,if_false,Int.reduceBEq,reduceCtorEq] at W;subst W;simp only[bq,if_true,if_false,Int.reduceBEq,reduceCtorEq] at a;subst a;exact Af (by simp[get]))|skip)
  have G:F=true:=by grind
  rw[G,Au4] at a;rename_i k1 k2 _ _ _ _ _ _ k3 k4;clear W G;obtain⟨x,hx⟩:∃x:Id,x=(n+1+k1,4):=⟨_,rfl⟩
  have ae:x≠(n0,1):=by rw[hx];simp
  have ad:x.1<n+1+k1+1+k2+1+k3+1+k4:=by rw[hx];simp only;omega
  rw[<-hx];generalize n+1+k1+1+k2+1+k3+1+k4=n1 at ad⊢;have g:lk [((n0,1),A5.box (.agg [.sl [L.enc],.nil,.nil]))] x=none:=by simp[lk,AfT ae]
  rw[L.enc_eq] at g;generalize f:((x,A5.box (.agg [.s L.tag,.s L.parent,.s L.dir,.sl (L.card.map AF.enc),.sl (L.ord.map AF.enc),.s L.dec,.s L.grp,.s L.minus,.s L.perc,.i .i64 L.prim,.i .i64 L.sec,.sl (L.lists.map CJ.enc),.sl (L.units.map D6.enc),.sl (L.dates.map CO.enc),.sl (L.months.map V.s),.sl (L.days.map V.s)]))::_:Aj)=τ;have o:lk τ x=some (.box (.agg [.s L.tag,.s L.parent,.s L.dir,.sl (L.card.map AF.enc),.sl (L.ord.map AF.enc),.s L.dec,.s L.grp,.s L.minus,.s L.perc,.i .i64 L.prim,.i .i64 L.sec,.sl (L.lists.map CJ.enc),.sl (L.units.map D6.enc),.sl (L.dates.map CO.enc),.sl (L.months.map V.s),.sl (L.days.map V.s)])):=by rw[<-f];simp[lk]
  have e:IntKind.i64.wrap ((L.card.length:Int)+(L.ord.length:Int))=((L.card++L.ord).length:Int):=by rw[wrap64 (by omega) (by omega)];simp
  have B:∀{env:A9} {n:Nat},Ak W0 105 ⟨env,τ,n⟩ ⟨env,[((n0,1),A5.box (.agg [.sl [L.enc],.nil,.nil]))],n⟩:=by intro env n;rw[<-f];exact Ak.drop1 g (AzR _)
  have z:∀id:Id,id≠x->id≠(n0,1)->del τ id=τ:=by intro id T U;rw[<-f];simp[del,T,U,AfT T,AfT U]
  have A:∀id:Id,id≠x->id≠(n0,1)->lk τ id=none:=by intro id T U;rw[<-f];simp[lk,AfT T,AfT U]
  clear f g;obtain⟨C,Y⟩:∃C,C=L.card++L.ord:=⟨_,rfl⟩
  rw[<-Y] at e a;have ai:C.length<=2^26:=by grind
  have Z:∀r∈C,Dh r.cond<=2^24:=by
   intro r hr;rw[Y] at hr;rcases Am2.1 hr with h|h
   .have:=EV h;unfold AF.wt at this;omega
   .have:=EV h;unfold AF.wt at this;omega
  refine Am C.length (Inv:=λm st=>∃dn rest u,C=dn++rest/\m=rest.length/\(rest.all (λr=>Ga r.cond)&&decide ((Nb L:Int)<=40000))=S/\n1<=u/\st=⟨[(1,.ref (n0,1) 0),(3,.i .i64 0),(4,.ref x 0),(5,.i .i64 dn.length)],τ,u⟩) ⟨_,Ak.refl,[],C,_,rfl,rfl,a,AzR _,rfl⟩ ?_;clear a;rintro m _ ⟨dn,rest,u,E,rfl,a,hn,rfl⟩;cases rest with
  | nil=>
   have t:decide ((dn.length:Int)<(C.length:Int))=false:=by rw[E];simp
   rw[List.all_nil,Au4] at a;simp only[push_cast,seval,reduceEqDiff,t,o,e];intros;exact⟨_,_,by omega,B,_,.inr ⟨rfl,a⟩,rfl⟩
  | cons p rest=>
   have ak:=AM E;have t:decide ((dn.length:Int)<(C.length:Int))=true:=by rw[E];simp;omega
   have O:IntKind.i64.wrap ((dn.length:Int)+1)=((dn++[p]).length:Int):=Ai p (by omega);have hf:=AkK W0 p.cond (Z p (by rw[E];simp));have w:(L.card.map AF.enc++L.ord.map AF.enc)[dn.length]?=some p.enc:=by rw[<-Azd,<-Y,E];simp
   have c:∀k j,((u+1+k,j)=x)=False:=λk j=>eq_false λq=>by grind
   have R:∀k j,(x=(u+1+k,j))=False:=λk j=>eq_false λq=>of_eq_false (c k j) q.symm;rw[Azb] at a;have K:∀l:List AF,(∀y∈l.map AF.enc,(cells y).length=2)=True:=λl=>eq_true λy hy=>by obtain⟨r,_,rfl⟩:=AmB.1 hy;rfl
   have M:∀k,del τ (u+1+k,70)=τ:=λk=>z _ (λq=>of_eq_false (c k 70) q) (by simp);have N:∀k,del τ (u+1+k,73)=τ:=λk=>z _ (λq=>of_eq_false (c k 73) q) (by simp);have H:(L.card.length<=AI)=True:=eq_true (by unfold AI;omega);have J:(L.card.length+L.ord.length<=AI)=True:=eq_true (by unfold AI;omega);have v:(dn.length<(L.card.map AF.enc++L.ord.map AF.enc).length)=True:=eq_true (by grind);simp only[push_cast,seval,reduceEqDiff,t,O,o,e,w,v,c,R,K,M,N,H,J,Abn];have _h:=trivial;repeat' (first|(first|((first|apply Ab|apply Ag|apply Ah)<;>intro _h)|refine Ac hf ?_)<;>simp only[push_cast,seval,reduceEqDiff,_h,t,O,o,e,w,v,c,R,K,M,N,H,J,Abn]|intro _)
   .have D:Ga p.cond=false:=by simpa using _h
    rw[D,AxA,AxA] at a;subst a;exact Af (by simp[get])
   .have D:Ga p.cond=true:=by simpa using _h
    rw[D,Au4] at a;have e6:∀k,lk τ (u+1+k,6)=none:=λk=>A _ (λq=>of_eq_false (c k 6) q) (by simp);have X:∀k,lk τ (u+1+k,76)=none:=λk=>A _ (λq=>of_eq_false (c k 76) q) (by simp);exact⟨_,_,AzS _,(Ak.drop1 (by simp[lk,e6]) (AzR _)).trans (Ak.drop1 (X _) (AzR _)),dn++[p],rest,_,by rw[E];simp,rfl,a,by omega,rfl⟩
 .skip;simp only[push_cast,seval,reduceEqDiff,lk];have _h:=trivial;repeat' (first|(first|((first|apply Ab|apply Ag|apply Ah)<;>intro _h)|refine Ac ab ?_)<;>simp only[push_cast,seval,reduceEqDiff,_h,lk]|intro _)
  exact Af (by simp[get,a])

end Go.Ir
namespace Go.Proofs
open Go.Shelf
def Tryz.laysM171_ren:Go.Shelf.Ren:=⟨fun|171=>221|243=>282|246=>315|283=>332|284=>333|285=>334|286=>335|129=>179|317=>343|318=>344|319=>345|320=>346|337=>351|338=>352|n=>n,fun|3=>3|9=>9|2=>2|4=>4|171=>384|0=>0|53=>282|37=>96|5=>5|173=>386|212=>397|51=>280|20=>20|213=>398|46=>237|232=>401|233=>402|n=>n,fun|17=>3|18=>4|19=>5|n=>n⟩
theorem Tryz.laysM171:Go.Proofs.LaysM.n171 Tryz.prog Tryz.laysM171_ren:={
 mixed:=by kernel_rfl
 f129:=Tryz.func179.trans (congrArg some (by kernel_rfl))
 f171:=Tryz.func221.trans (congrArg some (by kernel_rfl))
 f243:=Tryz.func282.trans (congrArg some (by kernel_rfl))
 f246:=Tryz.func315.trans (congrArg some (by kernel_rfl))
 f283:=Tryz.func332.trans (congrArg some (by kernel_rfl))
 f284:=Tryz.func333.trans (congrArg some (by kernel_rfl))
 f285:=Tryz.func334.trans (congrArg some (by kernel_rfl))
 f286:=Tryz.func335.trans (congrArg some (by kernel_rfl))
 f317:=Tryz.func343.trans (congrArg some (by kernel_rfl))
 f318:=Tryz.func344.trans (congrArg some (by kernel_rfl))
 f319:=Tryz.func345.trans (congrArg some (by kernel_rfl))
 f320:=Tryz.func346.trans (congrArg some (by kernel_rfl))
 f337:=Tryz.func351.trans (congrArg some (by kernel_rfl))
 f338:=Tryz.func352.trans (congrArg some (by kernel_rfl))
 t0:=Tryz.underlying0
 a0:=Tryz.isAgg0
 z0:=Tryz.sizeOf0
 v0:=Tryz.zeroValue0
 t2:=Tryz.underlying2
 a2:=Tryz.isAgg2
 z2:=Tryz.sizeOf2
 v2:=Tryz.zeroValue2
 t3:=Tryz.underlying3
 a3:=Tryz.isAgg3
 z3:=Tryz.sizeOf3
 v3:=Tryz.zeroValue3
 t4:=Tryz.underlying4
 a4:=Tryz.isAgg4
 z4:=Tryz.sizeOf4
 v4:=Tryz.zeroValue4
 t5:=Tryz.underlying5
 a5:=Tryz.isAgg5
 z5:=Tryz.sizeOf5
 v5:=Tryz.zeroValue5
 t9:=Tryz.underlying9
 a9:=Tryz.isAgg9
 z9:=Tryz.sizeOf9
 v9:=Tryz.zeroValue9
 t20:=Tryz.underlying20
 a20:=Tryz.isAgg20
 z20:=Tryz.sizeOf20
 v20:=Tryz.zeroValue20
 t37:=Tryz.underlying96
 a37:=Tryz.isAgg96
 z37:=Tryz.sizeOf96
 v37:=Tryz.zeroValue96
 t46:=Tryz.underlying237
 a46:=Tryz.isAgg237
 z46:=Tryz.sizeOf237
 v46:=Tryz.zeroValue237
 t51:=Tryz.underlying280
 a51:=Tryz.isAgg280
 z51:=Tryz.sizeOf280
 v51:=Tryz.zeroValue280
 t53:=Tryz.underlying282
 a53:=Tryz.isAgg282
 z53:=Tryz.sizeOf282
 v53:=Tryz.zeroValue282
 t171:=Tryz.underlying384
 a171:=Tryz.isAgg384
 z171:=Tryz.sizeOf384
 v171:=Tryz.zeroValue384
 t173:=Tryz.underlying386
 a173:=Tryz.isAgg386
 z173:=Tryz.sizeOf386
 v173:=Tryz.zeroValue386
 t212:=Tryz.underlying397
 a212:=Tryz.isAgg397
 z212:=Tryz.sizeOf397
 v212:=Tryz.zeroValue397
 t213:=Tryz.underlying398
 a213:=Tryz.isAgg398
 z213:=Tryz.sizeOf398
 t232:=Tryz.underlying401
 a232:=Tryz.isAgg401
 z232:=Tryz.sizeOf401
 v232:=Tryz.zeroValue401
 t233:=Tryz.underlying402
 a233:=Tryz.isAgg402
 z233:=Tryz.sizeOf402
 v233:=Tryz.zeroValue402
 g17:=by kernel_rfl
 g18:=by kernel_rfl
 g19:=by kernel_rfl
 i0:=by kernel_rfl
 i2:=by kernel_rfl
 i3:=by kernel_rfl
 i4:=by kernel_rfl
 i5:=by kernel_rfl
 i9:=by kernel_rfl
 i20:=by kernel_rfl
 i37:=by kernel_rfl
 i46:=by kernel_rfl
 i51:=by kernel_rfl
 i53:=by kernel_rfl
 i171:=by kernel_rfl
 i173:=by kernel_rfl
 i212:=by kernel_rfl
 i232:=by kernel_rfl
 i233:=by kernel_rfl
 m17:=by kernel_rfl
 m18:=by kernel_rfl
 m19:=by kernel_rfl }
end Go.Proofs
namespace Go.Ir
open Go.Proofs Go.RowKit
variable(W0:World)
def Bu(W0:World):Prop := Lib.TabIs Tryz.prog W0 "internal/strconv.uint64pow10" .u64 Lib.pow10Tab
theorem YF{P:Program}{W0 w:World}{a:String}{k:IntKind}{zs:List Int}(e:Below W0.heap.size W0 w)(h:Lib.TabIs P W0 a k zs):Lib.TabIs P w a k zs:=by
 unfold Lib.TabIs World.var? at *;cases b:P.globalNamed a with
 | none=>rw[b] at h;cases h
 | some g=>
  rw[b] at h;simp only[AyC] at h⊢;cases c:W0.heap[g]? with
  | none=>rw[c] at h;cases h
  | some o=>rw[e.block g (As4.1 c).1];exact h
theorem Fg(f:Bu W0)(i:Nat)(q:i<2^62):Al Tryz.prog W0 221 [.i .i64 i] [] (.s (Lib.decDigits i)) []/\(Lib.decDigits i).length<=20:=by
 have b:(Lib.decDigits i).length<=20:=by rw[Lib.decDigits_length];exact Lib.nDigits_le20 _ (by omega)
 refine⟨AQ (by kernel_rfl) λw vals g ⟨μ,H,c⟩=>?_,b⟩;have a:=c.len;obtain⟨x,rfl⟩:∃x,vals=[x]:=by
  match vals,a with
  | [x],_=>exact⟨x,rfl⟩
 have p:=c.at_ 0 _ _ rfl rfl;cases p;refine(Any.strconv_Itoa Tryz.laysM171 i (by omega) (by omega) w (YF g f)).mono λe w' ⟨h,k,r,o⟩=>?_;subst o;refine⟨_,h,λ_ _=>?_,?_⟩
 .rw[Lib.itoa_nonneg];exact .s _ (by unfold AJ;omega)
 .refine⟨rfl,rfl,rfl,by simp_all,λj m=>?_⟩;simp only[Sort.grow];rw[Azq (by simpa using m)];rfl
theorem Y4(laid:List (String×DataW Unit))(hl:(laid.all fun x => x.2.handleName?.isNone)=true){a b:String×DataW Unit}{r:List (String×DataW Unit)}(he:laid=a :: b :: ("internal/strconv.uint64pow10", Lib.tabData .u64 Lib.pow10Tab) :: r)
  {g:Nat}{t e:TypeId}{n:Nat}(hg:(Tryz.prog).globalNamed "internal/strconv.uint64pow10" = some g)(hty:((Tryz.prog).globals[g]?).map (·.type)=some t)(ht:(Tryz.prog).underlying t=some (.array n e))(hu:(Tryz.prog).underlying e=some (.int .u64))(hce:(Tryz.prog).cellsOf e=1)(hct:(Tryz.prog).cellsOf t=n)
  {W:World}(h:laidMetH Tryz.prog laid W):Bu W:=by
 rw[MakeChecks.laidMetH_plain _ _ _ hl] at h
 subst he
 have tl:∀{x:String×DataW Unit} {r:List (String×DataW Unit)},laidMet Tryz.prog (x::r) W->laidMet Tryz.prog r W:=by
  rintro⟨n,d⟩ r ⟨ps,hv,hnd,hrows⟩
  obtain⟨g,t,cs,fuel,p,q,_,_,_,_,hq,rfl⟩:=hv
  exact⟨q,hq,List.Nodup.sublist (Azt _ _) hnd,fun b off hm=>hrows b off (AyK _ hm)⟩
 exact Lib.tabIs_of_head hg hty ht hu hce hct (tl (tl h))
end Go.Ir

namespace Go.Ir
open Go.Proofs
variable(W0:World)
end Go.Ir
namespace Go.Proofs
open Go.Shelf
def Tryz.lays156_ren:Go.Shelf.Ren:=⟨fun|156=>261|165=>257|166=>124|169=>45|240=>180|241=>298|276=>236|277=>324|n=>n,fun|31=>28|9=>9|3=>3|4=>4|0=>0|20=>20|72=>98|76=>240|70=>95|37=>96|75=>239|127=>158|164=>315|5=>5|80=>123|n=>n,fun|n=>n⟩
theorem Tryz.lays156:Go.Proofs.Lays.n156 Tryz.prog Tryz.lays156_ren:=by constructor;all_goals intros;kernel_rfl
end Go.Proofs
namespace Go.Ir
open Go.Proofs Go.RowKit
variable(W0:World)
theorem OB{P:Program}{W0:World}{f:FuncId}{args:List V}{v:V}(i:callable P f=true)
  (h:∀w vals μ H,Below W0.heap.size W0 w->VRels μ H args vals->(∀a x,H a=some x->w.cell? a=some x)->Calls P f vals.toArray w λe w'=>∃val,e=.returned val/\(∀μ H,Ao μ H v val)/\Below w.heap.size w w'):Al P W0 f args [] v [] where
 callable:=i
 dom id h:=h
 run n w μ H vals hp hv:=by refine(h w vals μ H hp.base hv hp.pins).mono λe w' ⟨val,j,k,g⟩=>?_;obtain⟨b,c⟩:=hp.below g;exact⟨val,μ,H,n,j,k μ H,b,AzR _,c,λ_ _ h=>h⟩
theorem F7(b:List Aa):AC (b.map V.s)=b.map V.s:=by
 induction b with
 | nil=>rfl
 | cons a r c=>simp only[AC,AlG,AyL] at *;rw[c];rfl
theorem Iq:Go.Proofs.Builder.Extra Tryz.prog Tryz.lays156_ren where
 sizeBuilder:=by kernel_rfl
 liesBuilder:=by kernel_rfl
 t5:=Tryz.underlying5
 a5:=Tryz.isAgg5
 z5:=Tryz.sizeOf5
 v5:=Tryz.zeroValue5
 infoByte:=by kernel_rfl
 cellsByte:=by kernel_rfl
 sizeByte:=by kernel_rfl
 neB5:=by decide
theorem sN(p:List Aa)(sep:Aa)(W:(Lib.join p sep).length<=1073741824):Al Tryz.prog W0 261 [.sl (p.map V.s),.s sep] [] (.s (Lib.join p sep)) []:=by
 refine OB (by kernel_rfl) λw vals μ H hb Y E=>?_;obtain⟨x,y,rfl,G,Z⟩:=Y.two;obtain⟨rfl,hl⟩:=B6 Z;obtain⟨A,a,rfl,t,C,U⟩:=G.sl_inv;have i:∀(μ:Id->Option Value) (H:Addr->Option Value),Ao μ H (.s (Lib.join p sep)) (.string ⟨(Lib.join p sep).toArray⟩):=λ_ _=>.s _ (by unfold AJ;omega);rcases U with R|⟨J,sz,vs,rfl,X,g,hp⟩
 .have K:p=[]:=by simpa using R
  subst K;refine(Any.strings_Join_none Tryz.lays156 Iq A a ⟨sep.toArray⟩ w).mono λe w' ⟨u,F⟩=>?_;subst F;exact⟨_,u,i,Awt _ _⟩
 .rw[F7] at g;cases p with
  | nil=>refine(Any.strings_Join_none Tryz.lays156 Iq _ a ⟨sep.toArray⟩ w).mono λe w' ⟨u,F⟩=>?_;subst F;exact⟨_,u,i,Awt _ _⟩
  | cons h m=>
   have f:∀(j:Nat) (l:Aa),(h::m)[j]?=some l->w.cell? (J.add j)=some (.string ⟨l.toArray⟩):=by intro j l W;obtain⟨v,O,S⟩:=g.toVRels.get (k:=j) (c:=.s l) (by grind);rw[(B6 S).1] at O;exact E _ _ (hp j _ O)
   have q:=f 0 h rfl;have r:J.spot=none:=by
    simp only[Addr.add] at q;unfold World.cell? at q;split at q
    .simp_all
    .cases q
   obtain⟨N,o,sp⟩:=J;simp only at r;subst r;have L:N<w.heap.size:=Az1 w _ q;have B:(h::m).length<=a:=by simpa using t
   have D:((h::m).map λl=>(⟨l.toArray⟩:ByteArray)).map (λb=>b.data.toList)=h::m:=by rw[AyY];exact(Axz (λ_ _=>rfl)).trans (List.map_id _)
   have T:Lib.join (((h::m).map λl=>(⟨l.toArray⟩:ByteArray)).map λb=>b.data.toList) sep=Lib.join (h::m) sep:=by rw[D]
   have key:=Any.strings_Join Tryz.lays156 Iq N o a ((h::m).map λl=>(⟨l.toArray⟩:ByteArray)) ⟨sep.toArray⟩ w (λj x G=>?_) L
    (by unfold AI at C;grind) (by simpa using B) (by grind
)
   .rw[show(⟨sep.toArray⟩:ByteArray).data.toList=sep from rfl,T] at key;simp only[Abn] at key⊢;exact key.mono λe w' ⟨u,F⟩=>⟨_,u,i,F⟩
   .rw[Akg] at G;obtain⟨l,M,rfl⟩:=AeM.1 G;have:=f j l M;by_cases z:j=0
    .subst z;exact this
    .simpa[Addr.add,z] using this
def HQ:List V->Option V
 | [.s s,.s p]=>some (.tup [.s (Lib.trimPrefix s p),.b (Lib.hasPrefix s p)])
 | _=>none
def Pm:List V->Option V
 | [.s s,.s [c]]=>some (.i .i64 (Lib.indexByte s c))
 | _=>none
def OT(l:Aa):Bool:=Nat.blt l.length 100&&l.all λb=>Nat.blt b.toNat 128
def mH:List V->Option V
 | [.s s,.s cs]=>bif OT cs then some (.s (Lib.trimS s cs)) else none
 | _=>none
theorem Z5{l:Aa}(h:OT l=true):l.length<4294967281/\∀b∈l,b.toNat<128:=by unfold OT at h;simp only[AzP,AzB,Am3] at h;exact⟨by omega,h.2⟩
theorem Sk:AX Tryz.prog W0 (bL 135 HQ):=Lc λargs v h=>by
 unfold HQ at h;split at h
 .cases h;exact⟨Eb W0 _ _,rfl⟩
 .cases h
theorem fQ:AX Tryz.prog W0 (bL 244 Pm):=Lc λargs v h=>by
 unfold Pm at h;split at h
 .cases h;exact⟨Lr W0 _ _,rfl⟩
 .cases h
theorem AjX:AX Tryz.prog W0 (bL 190 mH):=Lc λargs v h=>by
 unfold mH at h;split at h
 .rename_i s cs;cases a:OT cs with
  | true=>rw[a] at h;cases h;obtain⟨b,c⟩:=Z5 a;exact⟨S4 W0 _ _ b c,rfl⟩
  | false=>rw[a] at h;cases h
 .cases h
end Go.Ir
namespace Go.Proofs
open Go.Shelf
def Tryz.lays161_ren:Go.Shelf.Ren:=⟨fun|161=>259|231=>245|227=>247|233=>248|235=>250|228=>292|197=>272|151=>293|260=>309|152=>321|137=>252|119=>337|224=>290|225=>289|217=>288|266=>319|n=>n,fun|9=>9|4=>4|3=>3|5=>5|117=>323|116=>322|0=>0|124=>326|105=>344|21=>21|119=>380|46=>237|139=>383|138=>382|n=>n,fun|3=>1|4=>2|n=>n⟩
theorem Tryz.lays161:Go.Proofs.Lays.n161 Tryz.prog Tryz.lays161_ren:=by constructor;all_goals intros;kernel_rfl
def Tryz.lays138_ren:Go.Shelf.Ren:=⟨fun|138=>269|195=>306|218=>307|143=>271|219=>244|217=>288|225=>289|224=>290|267=>291|266=>319|314=>320|n=>n,fun|9=>9|3=>3|4=>4|5=>5|0=>0|46=>237|146=>358|51=>280|n=>n,fun|1=>0|n=>n⟩
theorem Tryz.lays138:Go.Proofs.Lays.n138 Tryz.prog Tryz.lays138_ren:=by constructor;all_goals intros;kernel_rfl
def Tryz.lays145_ren:Go.Shelf.Ren:=⟨fun|145=>136|220=>189|219=>244|217=>288|225=>289|224=>290|267=>291|266=>319|314=>320|n=>n,fun|9=>9|4=>4|59=>252|3=>3|5=>5|46=>237|146=>358|51=>280|n=>n,fun|1=>0|n=>n⟩
theorem Tryz.lays145:Go.Proofs.Lays.n145 Tryz.prog Tryz.lays145_ren:=by constructor;all_goals intros;kernel_rfl
def Tryz.lays154_ren:Go.Shelf.Ren:=⟨fun|154=>213|138=>269|165=>257|143=>271|166=>124|197=>272|169=>45|195=>306|218=>307|240=>180|241=>298|219=>244|260=>309|276=>236|277=>324|217=>288|225=>289|224=>290|267=>291|266=>319|314=>320|n=>n,fun|9=>9|3=>3|4=>4|72=>98|0=>0|76=>240|105=>344|21=>21|5=>5|70=>95|20=>20|37=>96|75=>239|127=>158|164=>315|46=>237|119=>380|139=>383|138=>382|146=>358|51=>280|80=>123|n=>n,fun|1=>0|3=>1|4=>2|n=>n⟩
theorem Tryz.lays154:Go.Proofs.Lays.n154 Tryz.prog Tryz.lays154_ren:=by constructor;all_goals intros;kernel_rfl
def Tryz.laysT17_ren:Go.Shelf.Ren:=⟨fun|17=>260|n=>n,fun|24=>28|9=>9|3=>3|4=>4|0=>0|n=>n,fun|n=>n⟩
theorem Tryz.laysT17:Go.Proofs.Lays2.n17 Tryz.prog Tryz.laysT17_ren:=by constructor;all_goals intros;kernel_rfl
def Tryz.keysA_ren:Go.Shelf.Ren:=⟨fun|7=>52|10=>84|n=>n,fun|23=>106|26=>9|3=>3|28=>134|0=>0|27=>133|33=>153|4=>4|n=>n,fun|n=>n⟩
theorem Tryz.keysA:Go.Proofs.SlLaysZ.n7 Tryz.prog Tryz.keysA_ren:={
 mixed:=by kernel_rfl
 f7:=⟨Tryz.f52.name,by decide,Tryz.func52.trans (congrArg some (by kernel_rfl))⟩
 f10:=⟨Tryz.f84.name,by decide,Tryz.func84.trans (congrArg some (by kernel_rfl))⟩
 t0:=Tryz.underlying0
 a0:=Tryz.isAgg0
 z0:=Tryz.sizeOf0
 v0:=Tryz.zeroValue0
 t4:=Tryz.underlying4
 a4:=Tryz.isAgg4
 z4:=Tryz.sizeOf4
 v4:=Tryz.zeroValue4
 t23:=Tryz.underlying106
 a23:=Tryz.isAgg106
 z23:=Tryz.sizeOf106
 v23:=Tryz.zeroValue106
 t26:=Tryz.underlying9
 a26:=Tryz.isAgg9
 z26:=Tryz.sizeOf9
 v26:=Tryz.zeroValue9
 t27:=Tryz.underlying133
 a27:=Tryz.isAgg133
 z27:=Tryz.sizeOf133
 v27:=Tryz.zeroValue133
 t28:=Tryz.underlying134
 a28:=Tryz.isAgg134
 z28:=Tryz.sizeOf134
 v28:=Tryz.zeroValue134
 t33:=Tryz.underlying153
 a33:=Tryz.isAgg153
 z33:=Tryz.sizeOf153
 v33:=Tryz.zeroValue153 }
def Tryz.sortedA_ren:Go.Shelf.Ren:=⟨fun|6=>51|8=>82|9=>83|11=>121|13=>123|12=>122|23=>178|24=>179|14=>169|15=>170|16=>171|17=>172|18=>173|19=>174|20=>175|21=>176|22=>177|25=>230|26=>231|27=>232|28=>233|29=>234|30=>235|31=>286|n=>n,fun|26=>9|28=>134|24=>28|0=>0|3=>3|37=>237|48=>280|50=>282|4=>4|40=>273|39=>272|45=>129|5=>5|9=>9|51=>309|55=>313|57=>354|58=>229|33=>153|n=>n,fun|n=>n⟩
theorem Tryz.sortedA:Go.Proofs.SlLaysZ.n6 Tryz.prog Tryz.sortedA_ren:={
 mixed:=by kernel_rfl
 f6:=⟨Tryz.f51.name,by decide,Tryz.func51.trans (congrArg some (by kernel_rfl))⟩
 f8:=⟨Tryz.f82.name,by decide,Tryz.func82.trans (congrArg some (by kernel_rfl))⟩
 f11:=⟨Tryz.f121.name,by decide,Tryz.func121.trans (congrArg some (by kernel_rfl))⟩
 t0:=Tryz.underlying0
 a0:=Tryz.isAgg0
 z0:=Tryz.sizeOf0
 v0:=Tryz.zeroValue0
 t24:=Tryz.underlying28
 a24:=Tryz.isAgg28
 z24:=Tryz.sizeOf28
 v24:=Tryz.zeroValue28
 t26:=Tryz.underlying9
 a26:=Tryz.isAgg9
 z26:=Tryz.sizeOf9
 v26:=Tryz.zeroValue9
 t28:=Tryz.underlying134
 a28:=Tryz.isAgg134
 z28:=Tryz.sizeOf134
 v28:=Tryz.zeroValue134
 i26:=by kernel_rfl }
def Tryz.sortA_ren:Go.Shelf.Ren:=⟨fun|6=>83|8=>123|9=>122|19=>178|20=>179|21=>169|22=>170|23=>171|24=>172|25=>173|26=>174|27=>175|28=>176|29=>177|36=>230|31=>231|32=>232|37=>233|38=>234|39=>235|41=>286|n=>n,fun|27=>28|29=>9|3=>3|32=>237|26=>28|0=>0|44=>280|46=>282|4=>4|36=>273|35=>272|41=>129|5=>5|9=>9|53=>309|57=>313|63=>354|64=>229|n=>n,fun|n=>n⟩
theorem Tryz.sortA:Go.Proofs.SlLaysM.n6 Tryz.prog Tryz.sortA_ren:={
 mixed:=by kernel_rfl
 f6:=⟨Tryz.f83.name,by decide,Tryz.func83.trans (congrArg some (by kernel_rfl))⟩
 f8:=Tryz.func123.trans (congrArg some (by kernel_rfl))
 f9:=⟨Tryz.f122.name,by decide,Tryz.func122.trans (congrArg some (by kernel_rfl))⟩
 f19:=Tryz.func178.trans (congrArg some (by kernel_rfl))
 f20:=Tryz.func179.trans (congrArg some (by kernel_rfl))
 f21:=⟨Tryz.f169.name,by decide,Tryz.func169.trans (congrArg some (by kernel_rfl))⟩
 f22:=⟨Tryz.f170.name,by decide,Tryz.func170.trans (congrArg some (by kernel_rfl))⟩
 f23:=⟨Tryz.f171.name,by decide,Tryz.func171.trans (congrArg some (by kernel_rfl))⟩
 f24:=⟨Tryz.f172.name,by decide,Tryz.func172.trans (congrArg some (by kernel_rfl))⟩
 f25:=⟨Tryz.f173.name,by decide,Tryz.func173.trans (congrArg some (by kernel_rfl))⟩
 f26:=⟨Tryz.f174.name,by decide,Tryz.func174.trans (congrArg some (by kernel_rfl))⟩
 f27:=⟨Tryz.f175.name,by decide,Tryz.func175.trans (congrArg some (by kernel_rfl))⟩
 f28:=⟨Tryz.f176.name,by decide,Tryz.func176.trans (congrArg some (by kernel_rfl))⟩
 f29:=⟨Tryz.f177.name,by decide,Tryz.func177.trans (congrArg some (by kernel_rfl))⟩
 f31:=Tryz.func231.trans (congrArg some (by kernel_rfl))
 f32:=Tryz.func232.trans (congrArg some (by kernel_rfl))
 f36:=⟨Tryz.f230.name,by decide,Tryz.func230.trans (congrArg some (by kernel_rfl))⟩
 f37:=⟨Tryz.f233.name,by decide,Tryz.func233.trans (congrArg some (by kernel_rfl))⟩
 f38:=⟨Tryz.f234.name,by decide,Tryz.func234.trans (congrArg some (by kernel_rfl))⟩
 f39:=⟨Tryz.f235.name,by decide,Tryz.func235.trans (congrArg some (by kernel_rfl))⟩
 f41:=⟨Tryz.f286.name,by decide,Tryz.func286.trans (congrArg some (by kernel_rfl))⟩
 t0:=Tryz.underlying0
 a0:=Tryz.isAgg0
 z0:=Tryz.sizeOf0
 v0:=Tryz.zeroValue0
 t3:=Tryz.underlying3
 a3:=Tryz.isAgg3
 z3:=Tryz.sizeOf3
 v3:=Tryz.zeroValue3
 t4:=Tryz.underlying4
 a4:=Tryz.isAgg4
 z4:=Tryz.sizeOf4
 v4:=Tryz.zeroValue4
 t5:=Tryz.underlying5
 a5:=Tryz.isAgg5
 z5:=Tryz.sizeOf5
 v5:=Tryz.zeroValue5
 t9:=Tryz.underlying9
 a9:=Tryz.isAgg9
 z9:=Tryz.sizeOf9
 v9:=Tryz.zeroValue9
 t26:=Tryz.underlying28
 a26:=Tryz.isAgg28
 z26:=Tryz.sizeOf28
 v26:=Tryz.zeroValue28
 t27:=Tryz.underlying28
 a27:=Tryz.isAgg28
 z27:=Tryz.sizeOf28
 v27:=Tryz.zeroValue28
 t29:=Tryz.underlying9
 a29:=Tryz.isAgg9
 z29:=Tryz.sizeOf9
 v29:=Tryz.zeroValue9
 t32:=Tryz.underlying237
 a32:=Tryz.isAgg237
 z32:=Tryz.sizeOf237
 v32:=Tryz.zeroValue237
 t35:=Tryz.underlying272
 a35:=Tryz.isAgg272
 z35:=Tryz.sizeOf272
 v35:=Tryz.zeroValue272
 t36:=Tryz.underlying273
 a36:=Tryz.isAgg273
 z36:=Tryz.sizeOf273
 v36:=Tryz.zeroValue273
 t41:=Tryz.underlying129
 a41:=Tryz.isAgg129
 z41:=Tryz.sizeOf129
 v41:=Tryz.zeroValue129
 t44:=Tryz.underlying280
 a44:=Tryz.isAgg280
 z44:=Tryz.sizeOf280
 v44:=Tryz.zeroValue280
 t46:=Tryz.underlying282
 a46:=Tryz.isAgg282
 z46:=Tryz.sizeOf282
 v46:=Tryz.zeroValue282
 t53:=Tryz.underlying309
 a53:=Tryz.isAgg309
 z53:=Tryz.sizeOf309
 v53:=Tryz.zeroValue309
 t57:=Tryz.underlying313
 a57:=Tryz.isAgg313
 z57:=Tryz.sizeOf313
 v57:=Tryz.zeroValue313
 t63:=Tryz.underlying354
 a63:=Tryz.isAgg354
 z63:=Tryz.sizeOf354
 v63:=Tryz.zeroValue354
 t64:=Tryz.underlying229
 a64:=Tryz.isAgg229
 z64:=Tryz.sizeOf229
 v64:=Tryz.zeroValue229 }
def Tryz.lays105_ren:Go.Shelf.Ren:=⟨fun|105=>200|212=>255|99=>256|165=>257|166=>124|170=>125|169=>45|263=>296|264=>297|206=>243|240=>180|241=>298|276=>236|277=>324|n=>n,fun|9=>9|3=>3|4=>4|20=>20|0=>0|46=>237|109=>328|5=>5|72=>98|76=>240|51=>280|146=>358|53=>282|148=>360|70=>95|37=>96|75=>239|127=>158|164=>315|80=>123|n=>n,fun|n=>n⟩
theorem Tryz.lays105:Go.Proofs.Lays.n105 Tryz.prog Tryz.lays105_ren:=by constructor;all_goals intros;kernel_rfl
end Go.Proofs
section
namespace Go.Ir
open Go.Proofs Go.RowKit
variable(W0:World)
def Bi(W0:World):Prop:=∃m,W0.cell? ⟨Tryz.lays138_ren.g 1,0,none⟩=some (.int .i64 m)
theorem Ge{W0 w:World}(h:Bi W0)(c:Below W0.heap.size W0 w):∃m,w.cell? ⟨Tryz.lays138_ren.g 1,0,none⟩=some (.int .i64 m):=by
 obtain⟨m,b⟩:=h;refine⟨m,?_⟩;rw[<-b];unfold World.cell? at b⊢;cases a:W0.heap[Tryz.lays138_ren.g 1]? with
 | none=>grind
 | some o=>simp only[c.block _ (As4.1 a).1,a]
theorem AaN(s sep:Aa):(Lib.cut s sep).1.length<=s.length/\(Lib.cut s sep).2.1.length<=s.length:=by unfold Lib.cut;grind
theorem lQ:Go.Proofs.Builder.Extra Tryz.prog Tryz.lays154_ren where
 sizeBuilder:=by kernel_rfl
 liesBuilder:=by kernel_rfl
 t5:=Tryz.underlying5
 a5:=Tryz.isAgg5
 z5:=Tryz.sizeOf5
 v5:=Tryz.zeroValue5
 infoByte:=by kernel_rfl
 cellsByte:=by kernel_rfl
 sizeByte:=by kernel_rfl
 neB5:=by decide
theorem gR:Go.Proofs.Builder.Extra Tryz.prog Tryz.lays105_ren where
 sizeBuilder:=by kernel_rfl
 liesBuilder:=by kernel_rfl
 t5:=Tryz.underlying5
 a5:=Tryz.isAgg5
 z5:=Tryz.sizeOf5
 v5:=Tryz.zeroValue5
 infoByte:=by kernel_rfl
 cellsByte:=by kernel_rfl
 sizeByte:=by kernel_rfl
 neB5:=by decide
theorem NA(s:Aa)(k:Nat)(p:s.length*k<=2^30)(m:k<=2^30)(b:(Lib.repeatL s k).length<=AJ):Al Tryz.prog W0 200 [.s s,.i .i64 (k:Int)] [] (.s (Lib.repeatL s k)) []:=by refine AQ (by kernel_rfl) λw vals j ⟨μ,H,c⟩=>?_;obtain⟨x,y,rfl,g,h⟩:=c.two;obtain⟨rfl,o⟩:=B6 g;cases h;refine(Any.strings_Repeat Tryz.lays105 gR ⟨s.toArray⟩ k w (by omega) (by simp[ByteArray.size];omega)).mono λe w' ⟨a,f⟩=>?_;exact⟨_,a,λ_ _=>.s _ b,f⟩
variable(hM:Bi W0)
include hM
theorem Ac3(s sub:Aa)(q:s.length<=2^31)(a:1<=sub.length):Al Tryz.prog W0 269 [.s s,.s sub] [] (.i .i64 (Lib.count s sub)) []:=by refine AQ (by kernel_rfl) λw vals b ⟨μ,H,h⟩=>?_;obtain⟨x,y,rfl,k,o⟩:=h.two;obtain⟨rfl,p⟩:=B6 k;obtain⟨rfl,f⟩:=B6 o;obtain⟨m,g⟩:=Ge hM b;refine(Any.strings_Count_any Tryz.lays138 ⟨s.toArray⟩ ⟨sub.toArray⟩ m w (by simp[ByteArray.size];omega) g (by simpa[ByteArray.size] using a)).mono λe w' ⟨c,j⟩=>?_;subst j;exact⟨_,c,λ_ _=>.i _ _,Awt _ _⟩
theorem S3(s sep:Aa)(z:s.length<=2^31):Al Tryz.prog W0 136 [.s s,.s sep] [] (.tup [.s (Lib.cut s sep).1,.s (Lib.cut s sep).2.1,.b (Lib.cut s sep).2.2]) []:=by
 refine AQ (by kernel_rfl) λw vals j ⟨μ,H,a⟩=>?_;obtain⟨x,y,rfl,t,u⟩:=a.two;obtain⟨rfl,g⟩:=B6 t;obtain⟨rfl,p⟩:=B6 u;obtain⟨m,q⟩:=Ge hM j;refine(Any.strings_Cut Tryz.lays145 ⟨s.toArray⟩ ⟨sep.toArray⟩ m w (by simp[ByteArray.size];omega) q).mono λe w' ⟨o,n,r⟩=>?_;subst r;obtain⟨h,i⟩:=AaN s sep;refine⟨_,o,λμ H=>Ao.tup [.s (Lib.cut s sep).1,.s (Lib.cut s sep).2.1,.b (Lib.cut s sep).2.2] [.string ⟨(Lib.cut s sep).1.toArray⟩,.string ⟨(Lib.cut s sep).2.1.toArray⟩,.bool (Lib.cut s sep).2.2] rfl λk c v f a=>?_,Below.drewN_ (Awt _ _) n⟩
 match k with
 | 0=>simp at f a;subst f a;exact .s _ (Am5 h g)
 | 1=>simp at f a;subst f a;exact .s _ (Am5 i g)
 | 2=>simp at f a;subst f a;exact .b _
 | k+3=>simp at f
theorem LJ(s a new:Aa)(n:Int)(D:s.length<=2^31)(j:1<=a.length)(C:s.length*new.length<=2^41)(t:(Lib.replace s a new n).length<=AJ):Al Tryz.prog W0 213 [.s s,.s a,.s new,.i .i64 n] [] (.s (Lib.replace s a new n)) []:=by
 refine AQ (by kernel_rfl) λw vals k ⟨μ,H,g⟩=>?_;have f:=g.len;obtain⟨x,y,z,u,rfl⟩:∃x y z u,vals=[x,y,z,u]:=by
  match vals,f with
  | [x,y,z,u],_=>exact⟨x,y,z,u,rfl⟩
 obtain⟨rfl,B⟩:=B6 (g.at_ 0 _ _ rfl rfl);obtain⟨rfl,p⟩:=B6 (g.at_ 1 _ _ rfl rfl);obtain⟨rfl,q⟩:=B6 (g.at_ 2 _ _ rfl rfl);have v:=g.at_ 3 _ _ rfl rfl;cases v;obtain⟨m,r⟩:=Ge hM k;have b:=Lib.countB_le ⟨a.toArray⟩ (by simpa[ByteArray.size] using j) s.length ⟨s.toArray⟩ (by simp[ByteArray.size]);have c:(⟨s.toArray⟩:ByteArray).size=s.length:=by simp[ByteArray.size]
 have h:(⟨new.toArray⟩:ByteArray).size=new.length:=by simp[ByteArray.size]
 refine(Any.strings_Replace Tryz.lays154 lQ ⟨s.toArray⟩ ⟨a.toArray⟩ ⟨new.toArray⟩ n m w (by rw[c];omega) r (by simpa[ByteArray.size] using j) ?_).mono λe w' ⟨o,A⟩=>?_
 .rw[c,h];rw[c] at b;have:Lib.countB ⟨s.toArray⟩ ⟨a.toArray⟩*new.length<=s.length*new.length:=Ayz _ b;omega
 .exact⟨_,o,λ_ _=>.s _ t,A⟩
omit hM
theorem EP(s cs:Aa):(Lib.trimLeftS s cs).length<=s.length:=(AyF _).length_le
theorem OR(s cs:Aa)(a:cs.length<4294967281)(c:∀b∈cs,b.toNat<128):Al Tryz.prog W0 259 [.s s,.s cs] [] (.s (Lib.trimLeftS s cs)) []:=by refine AQ (by kernel_rfl) λw vals p ⟨μ,H,i⟩=>?_;obtain⟨x,y,rfl,m,o⟩:=i.two;obtain⟨rfl,h⟩:=B6 m;obtain⟨rfl,_⟩:=B6 o;refine(Any.strings_TrimLeft_laid Tryz.lays161 (by kernel_rfl) ⟨s.toArray⟩ ⟨cs.toArray⟩ w (by simpa[ByteArray.size] using a) (λj b g=>c b (AzT g))).mono λe w' ⟨f,k⟩=>?_;exact⟨_,f,λ_ _=>.s _ (Am5 (EP s cs) h),k⟩
theorem PS{μ:Id->Option Value}{H:Addr->Option Value}{a:List Aa}{vals:List Value}(h:AK μ H (AC (a.map V.s)) vals):vals=a.map encStr:=by
 rw[F7] at h;apply AwD;intro k;rw[Akg];cases f:a[k]? with
 | none=>
  have:vals.length=a.length:=by have:=h.len;simpa using this.symm
  grind
 | some l=>obtain⟨v,b,e⟩:=h.toVRels.get (k:=k) (c:=.s l) (by grind);rw[b,(B6 e).1];rfl
theorem L0{μ:Id->Option Value}{H:Addr->Option Value}{b:List Aa}(g:∀l∈b,l.length<=AJ):AK μ H (AC (b.map V.s)) (b.map encStr):=by
 rw[F7];refine⟨⟨by simp,λk c v e a=>?_⟩,λv a=>?_⟩
 .rw[Akg] at e a;obtain⟨x,f,rfl⟩:=AeM.1 e;rw[f] at a;cases a;exact .s _ (g x (AzT f))
 .obtain⟨x,_,rfl⟩:=AmB.1 a;rfl
theorem J3{w:World}{g:Nat}{a:Array Value}{e:TypeId}{b:List Aa}(f:w.heap[g]?=some (.cells a e (0,0)))(k:a.toList.take b.length=b.map encStr):Sort.Holds encStr w g 0 b.toArray:=by
 intro j i;have c:j<b.length:=by simpa using i
 have h:a[j]?=some (encStr b[j]):=by
  have:(a.toList.take b.length)[j]?=some (encStr b[j]):=by rw[k];simp 
  grind
 refine⟨?_,?_⟩
 .simp[World.cell?,f,h,c]
 .simp[World.frozen?,f]
theorem IF{P:Program}{W0:World}{f:FuncId}{e:TypeId}{o a:List Aa}(id:Id)(S:callable P f=true)(X:o≠[])(b:a.length=o.length)(z:∀l∈a,l∈o)
  (h:∀(w:World) BB cap,Sort.Holds encStr w BB 0 o.toArray->BB<w.heap.size->Calls P f #[.slice (some ⟨BB,0,none⟩) o.length cap] w λe w'=>e=.returned (.tuple #[])/\∃n B,w'=Sort.grow (Sort.putRow encStr (Sort.ahead w n) BB 0 a.toArray) B) :
  Al P W0 f [.arr id] [(id,.arr e 1 (o.map V.s))] (.tup []) [(id,.arr e 1 (a.map V.s))] where
 callable:=S
 dom:=λi T=>by simp only[lk] at T⊢;grind
 run:=by
  intro n w μ H vals hp N;obtain⟨x,rfl⟩:∃x,vals=[x]:=by
   match vals,N.len with
   | [x],_=>exact⟨x,rfl⟩
  have A:=(N.at_ 0 _ _ rfl rfl).arr_inv.1;have y:lk [(id,A5.arr e 1 (o.map V.s))] id=some (.arr e 1 (o.map V.s)):=by simp[lk]
  obtain⟨v,vs,L,h2,C,O,h5,D⟩:=hp.ents _ _ y;rw[A] at L;cases L;have K:=PS D;subst K;obtain⟨U,C⟩:=C;rcases C with⟨_,h0⟩|⟨g,cap,cur,rfl,hB,hg,hncap,hcap,hcur,htake⟩
  .grind
  simp only[Abn,Nat.mul_one] at htake U hcur hncap⊢;have r:g<w.heap.size:=(As4.1 hg).1;have J:∀l∈o,l.length<=AJ:=by intro l G;obtain⟨k,M⟩:=At5.1 G;rw[F7] at D;obtain⟨v,_,R⟩:=D.toVRels.get (k:=k) (c:=.s l) (by grind);exact(B6 R).2
  refine(h w g cap (J3 hg htake) r).mono ?_;rintro Z w' ⟨rfl,k,B,rfl⟩;have t:∀j,j<w.heap.size->(Sort.grow (Sort.putRow encStr (Sort.ahead w k) g 0 a.toArray) B).heap[j]?=if j=g then some (.cells (Sort.putCells encStr 0 a.toArray cur) e (0,0)) else w.heap[j]?:=by
   intro j u;simp only[Sort.grow,Sort.putRow,Sort.mapBlock,Sort.ahead];rw[Azq (by simpa using u),Array.getElem?_modify];by_cases F:g=j
   .subst F;simp[hg,Sort.onCells]
   grind
  have p:AR (λq=>BB (μ id)=some q) w (Sort.grow (Sort.putRow encStr (Sort.ahead w k) g 0 a.toArray) B):=by refine⟨rfl,rfl,rfl,by grind,λj u W=>?_⟩;rw[t j u,if_neg];rintro rfl;exact W (by rw[A];rfl)
  have m:=hp.set_ (e:=.arr e 1 (a.map V.s)) y p ⟨_,a.map encStr,A,rfl,⟨by simp,.inr ⟨g,cap,Sort.putCells encStr 0 a.toArray cur,by simp[b],hB,by rw[t g r,if_pos rfl],by simp[b];exact hncap,hcap,by simp[Sort.putCells,hcur],?_⟩⟩,by simpa[b] using O,λx A=>by grind,L0 λl G=>J l (z l G)⟩
  .have Y:upd [(id,A5.arr e 1 (o.map V.s))] id (.arr e 1 (a.map V.s))=[(id,.arr e 1 (a.map V.s))]:=by simp[upd]
   rw[Y] at m;exact⟨_,μ,H,n,rfl,.tup [] [] rfl (λk c v M=>by simp at M),m.1,AzR _,m.2,λ_ _ h=>h⟩
  .apply AwD;intro j;simp only[Abn,Nat.mul_one,Aym,Akg];split
   .rename_i u;have E:j<cur.size:=by omega
    simp[Sort.putCells,E,u]
   grind
theorem aO(a:List Aa)(id:Id)(c:a≠[])(f:a.length<=2^40):Al Tryz.prog W0 260 [.arr id] [(id,.arr 9 1 (a.map V.s))] (.tup []) [(id,.arr 9 1 (a.reverse.map V.s))]:=by refine IF id (by kernel_rfl) c (by simp) (λl f=>by simpa using f) λw BB b g h=>?_;refine(Any.slices_Reverse_string Tryz.laysT17 BB 0 b a w g (by omega)).mono ?_;rintro e w' ⟨rfl,n,rfl⟩;exact⟨rfl,n,#[],by simp⟩
end Go.Ir
end
section
set_option maxRecDepth 100000
namespace Go.Ir
open Go.Proofs Go.RowKit
theorem Nl{W:World}(h:W.ShapedOpen Tryz.prog):Bi W:=by
 obtain⟨cs,j,m,k⟩:=h.1 (Tryz.lays138_ren.g 1) #[.int .i64 0] 3 (of_decide_eq_true (by kernel_rfl)) (by kernel_rfl);obtain⟨q,e,_,c⟩:=k (by kernel_rfl);have i:Tryz.prog.cellTypes Tryz.prog.depth 3=some [3]:=by kernel_rfl
 rw[i] at e;cases e;have p:0<cs.size:=by rw[m];decide
 obtain⟨u,f,a⟩:=c 0 cs[0] (by simp );have:u=3:=by simpa using f.symm
 subst this;have b:W.cell? ⟨Tryz.lays138_ren.g 1,0,none⟩=some cs[0]:=by simp[World.cell?,j]
 unfold Bi;rw[b];unfold Cell.ok at a;rw[Tryz.underlying3] at a;cases o:cs[0]<;>rw[o] at a<;>first|(simp at a;done)|skip
 grind
end Go.Ir
end
namespace Go.Proofs
open Go.Shelf
def Tryz.laysT16_ren:Go.Shelf.Ren:=⟨fun|16=>66|n=>n,fun|24=>28|9=>9|4=>4|n=>n,fun|n=>n⟩
theorem Tryz.laysT16:Go.Proofs.Lays2.n16 Tryz.prog Tryz.laysT16_ren:=by constructor;all_goals intros;kernel_rfl
def Tryz.lays194_ren:Go.Shelf.Ren:=⟨fun|194=>331|n=>n,fun|31=>28|9=>9|3=>3|4=>4|0=>0|n=>n,fun|n=>n⟩
theorem Tryz.lays194:Go.Proofs.Lays.n194 Tryz.prog Tryz.lays194_ren:=by constructor;all_goals intros;kernel_rfl
end Go.Proofs
namespace Go.Ir
open Go.Proofs Go.RowKit
variable(W0:World)
theorem Acy(a:List Aa)(id:Id)(c:a≠[])(e:a.length<=2^40):Al Tryz.prog W0 83 [.arr id] [(id,.arr 9 1 (a.map V.s))] (.tup []) [(id,.arr 9 1 ((a.mergeSort λx y=>decide (x<=y)).map V.s))]:=by refine IF id (by kernel_rfl) c (Azj ..) (λl e=>by simpa using e) λw BB b f g=>?_;exact AnyM.slices_Sort_string Tryz.sortA BB 0 b a w f g (by omega)
theorem bQ{W0:World}{n:Nat}{μ:Id->Option Value}{H:Addr->Option Value}{w:World}{id:Id}{e:TypeId}{f:List Aa}(hp:Hp W0 [(id,.arr e 1 (f.map V.s))] n μ H w)(u:f≠[]){x:Value}(y:μ id=some x) :
  ∃g a b,x=.slice (some ⟨g,0,none⟩) f.length a/\W0.heap.size<=g/\w.heap[g]?=some (.cells b e (0,0))/\f.length<=a/\a<=maxLen/\b.size=a/\b.toList.take f.length=f.map encStr/\f.length<=AI/\∀l∈f,l.length<=AJ:=by
 have j:lk [(id,A5.arr e 1 (f.map V.s))] id=some (.arr e 1 (f.map V.s)):=by simp[lk]
 obtain⟨v,vs,o,z,h,p,A,i⟩:=hp.ents _ _ j;rw[y] at o;cases o;have m:=PS i;subst m;obtain⟨r,h⟩:=h;rcases h with⟨_,h0⟩|⟨g,a,b,rfl,hB,hg,hncap,hcap,hcur,htake⟩
 .grind
 simp only[Abn,Nat.mul_one] at htake r hcur hncap p⊢;refine⟨g,a,b,rfl,hB,hg,hncap,hcap,hcur,htake,p,λl t=>?_⟩;obtain⟨k,B⟩:=At5.1 t;rw[F7] at i;obtain⟨v,_,q⟩:=i.toVRels.get (k:=k) (c:=.s l) (by grind);exact(B6 q).2
theorem iZ{W0:World}{σ:Aj}{n:Nat}{μ:Id->Option Value}{H:Addr->Option Value}{w:World}(hp:Hp W0 σ n μ H w){id:Id}(h:μ id=none):lk σ id=none:=by
 cases a:lk σ id with
 | none=>rfl
 | some e=>exact absurd (hp.ents _ _ a).named (by grind)
theorem jX(b:List Aa)(id:Id)(B:b≠[])(S:b.length<=2^30):Iu Tryz.prog W0 66 [.arr id] [(id,.arr 9 1 (b.map V.s))] (.arr 9 1 (b.map V.s)) [(id,.arr 9 1 (b.map V.s))] where
 callable:=by kernel_rfl
 dom:=λ_ h=>h
 run:=by
  intro n w μ H vals hp G;obtain⟨x,rfl⟩:∃x,vals=[x]:=by
   match vals,G.len with
   | [x],_=>exact⟨x,rfl⟩
  have M:=(G.at_ 0 _ _ rfl rfl).arr_inv.1;obtain⟨g,p,r,rfl,hB,F,A,D,E,q,_,C⟩:=bQ hp B M;have key:=Any.slices_Clone_string Tryz.laysT16 g 0 b.length p (b.map λl=>(⟨l.toArray⟩:ByteArray)) w (by simp) (by omega) (λj K=>by
   have z:j<b.length:=by simpa using K
   have:=(J3 F q j (by simpa using z)).1;grind
)
  refine key.mono ?_;rintro e w' ⟨v,rfl,f,_,i⟩;have t:List.map Value.string ((b.map λl=>(⟨l.toArray⟩:ByteArray)).take b.length)=b.map encStr:=by rw[Azf (by simp),AyY];simp_all
  rw[t] at f;have a:μ (n,0)=none:=hp.bd _ (AzR _);have c:=f.2;have o:v.oneCell'=true:=by rcases c with⟨rfl,_⟩|⟨g,p,r,rfl,_⟩<;>rfl
  have m:=(hp.more (Am9 n)).new_ (n':=n+1) (R:=λ_=>False) (w':=w') ⟨i.os,i.tape,i.output,i.size,λk L _=>i.block k L⟩ (λ_ h=>h.elim) (σ1:=[(id,.arr 9 1 (b.map V.s))]) (λid e h=>⟨h,λ_ _ h=>h⟩) (id:=(n,0)) (e:=.arr 9 1 (b.map V.s)) (val:=v) a (AzS _) (AzR _) (λO i=>by
    right;rcases c with⟨rfl,_⟩|⟨g,p,r,rfl,F,_⟩
    .simp[BB] at i
    .simp[BB] at i;omega)
   ⟨v,b.map encStr,Ap _ _ _,o,by rw[Abn];exact ownsRow_base_a f hp.base.size,by grind,by intro y N;obtain⟨x,_,rfl⟩:=AmB.1 N;rfl,L0 C⟩
  refine⟨v,_,H,n+1,(n,0),rfl,Ap _ _ _,o,a,iZ hp a,m.1,Am9 _,m.2,λid u J=>?_⟩;rw[B0 _ _ (by rintro rfl;simp at u)];exact J
theorem K0{a:List Aa}{l:Aa}(h:l∈Lib.compact a):l∈a:=by unfold Lib.compact Lib.compactUpTo at h;grind
theorem K7(a:List Aa):(Lib.compact a).length<=a.length:=by unfold Lib.compact Lib.compactUpTo;grind
theorem Lg(a:List Aa)(id:Id)(G:a≠[])(hl:a.length<=2^30):Ez Tryz.prog W0 331 [.arr id] [(id,.arr 9 1 (a.map V.s))] (λn n' v σ'=>∃b:Id,n<=b.1/\b.1<n'/\v=.arr b/\σ'=[(b,.arr 9 1 ((Lib.compact a).map V.s))]) where
 callable:=by kernel_rfl
 run:=by
  intro n w μ H vals hp O;obtain⟨x,rfl⟩:∃x,vals=[x]:=by
   match vals,O.len with
   | [x],_=>exact⟨x,rfl⟩
  have K:=(O.at_ 0 _ _ rfl rfl).arr_inv.1;obtain⟨g,f,i,rfl,hB,A,o,t,u,r,_,J⟩:=bQ hp G K;have W:=K7 a;have X:g<w.heap.size:=(As4.1 A).1;refine(Any.slices_Compact_string Tryz.lays194 g 0 f a w (J3 A r) (by omega) o).mono ?_;rintro en w' ⟨rfl,q,rfl⟩;generalize L:Lib.compact a++List.replicate (a.length-(Lib.compact a).length) []=T;have U:T.length=a.length:=by rw[<-L];simp;omega
  have z:∀j,(Sort.putRow encStr (Sort.ahead w q) g 0 T.toArray).heap[j]?=if j=g then some (.cells (Sort.putCells encStr 0 T.toArray i) 9 (0,0)) else w.heap[j]?:=by
   intro j;simp only[Sort.putRow,Sort.mapBlock,Sort.ahead];rw[Array.getElem?_modify];by_cases m:g=j
   .subst m;simp[A,Sort.onCells]
   .rw[if_neg m,if_neg (AfT m)]
  have p:μ (n,0)=none:=hp.bd _ (AzR _);have F:lk [(id,A5.arr 9 1 (a.map V.s))] id=some (.arr 9 1 (a.map V.s)):=by simp[lk]
  have c:=(hp.more (Am9 n)).new_ (n':=n+1) (σ1:=[]) (w':=Sort.putRow encStr (Sort.ahead w q) g 0 T.toArray) (R:=λk=>BB (μ id)=some k) ⟨rfl,rfl,rfl,by simp ,λk N Z=>by rw[z,if_neg];rintro rfl;exact Z (by rw[K];rfl)⟩ (λk N=>⟨id,_,F,N⟩) (λab e' h=>by simp[lk] at h) p (id:=(n,0)) (e:=.arr 9 1 ((Lib.compact a).map V.s)) (val:=.slice (some ⟨g,0,none⟩) (Lib.compact a).length f) (AzS _) (AzR _) (λbk M=>by
    simp only[BB,Amy] at M;subst M;left;rw[K];rfl)
   ⟨_,(Lib.compact a).map encStr,Ap _ _ _,rfl,⟨by simp,.inr ⟨g,f,Sort.putCells encStr 0 T.toArray i,by simp,hB,by rw[z,if_pos rfl],by simp;omega,t,by simp[Sort.putCells,u],by
    apply AwD;intro j;simp only[Abn,Nat.mul_one,Aym,Akg];split
    .rename_i C;have E:j<i.size:=by omega
     have D:j<T.length:=by omega
     have:T[j]=(Lib.compact a)[j]:=by simp only[<-L];rw[List.getElem_append_left C]
     simp[Sort.putCells,E,D,this,C]
    .rename_i C;rw[Az4 (by omega)];rfl⟩⟩,by simp;unfold AI;omega,by intro y hy;obtain⟨x,_,rfl⟩:=AmB.1 hy;rfl,L0 λl Y=>J l (K0 Y)⟩
  refine⟨_,_,H,n+1,_,_,rfl,⟨(n,0),AzR _,AzS _,rfl,rfl⟩,.arr _ _ (Ap _ _ _) rfl,c.1,Am9 _,c.2,λid B S=>?_⟩;rw[B0 _ _ (by rintro rfl;simp at B)];exact S
end Go.Ir
