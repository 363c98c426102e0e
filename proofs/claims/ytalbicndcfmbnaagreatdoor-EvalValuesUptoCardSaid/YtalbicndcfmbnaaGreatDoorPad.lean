/-
  Numbers as plain Lean data: sign, whole part, fraction.
  Maps from names to numbers, as lists.
  How numbers, units, dates and lists are written, as plain ..
  The IR of functions of the program, printed by our own tool
  Selectors as plain Lean data: what collects them.
  Maps that are sets of strings, and calls over a store with ..
  Stores of which a part is a list
  Contracts: the selectors' find, of both sides.
  Selectors whose keys are owned: the names in the store, and ..
  DERIVED: THE SHELF's CONTRACTS AT THIS DUMP, IN PLAIN WORDS ..
  The library's contracts, as the shelf gives them, as ..
  Contracts: numbers, of the program.
  Contracts: numbers, of the reference.
  Contracts: keys, names of the reference.
  Contracts: the names of a message, in the reference.
  Contracts: formed, of the reference.
  Contracts: FewRules.
  Contracts: conditions of the program.
  Contracts: rules of the program.
  Contracts: conditions and rules of the reference.
  Contracts: the keys of a selector in their order, of both ..
  Contracts: what collects the selectors, in the program.
  Contracts: what collects the selectors, in the program: the ..
  Contracts: the selectors of a message, in the program.
  Contracts: the selectors of a message, in the reference: ..
  Contracts: the selectors of a message, in the reference.
  Contracts: combinations, rules, add and Join, of both sides.
  Resolved messages as plain Lean data: the case that a key ..
  Contracts: the case that a key determines, of both sides.
  Contracts: resolve, of the program.
  Contracts: Clone of cases, cloned.
  Contracts: values
  Contracts: the fields of parts.
  Contracts: the checker of the program.
  Contracts: the checker of the program: parts.
  Contracts: Escape of the reference.
  Contracts: the text of a message, of the reference.
  A builder of the library at this program: the check of ..
  Increased of the program: []byte(s), at the model.
  strings.ContainsAny(s, "{}") at any s.
  strings.IndexAny(s, "{}") at a short s of any bytes.
  Contracts: the length of a message's text, of the program.
-/
import Derived.Test.YtalbicndcfmbnaaGreatDoorPac
import Derived.Lib.SlTrimSet
import Derived.Lib.Bytealg
import Derived.Lib.Atoi
import Derived.Lib.IndexMore
import Derived.Lib.Replace
import Derived.Lib.IndexAny
import Derived.Lib.Join
import Derived.Lib.SlicesCompact
import Derived.Lib.ItoaNum
import Derived.Shelf.Small.Wraps
import Derived.Shelf.Strconv.Itoa3
import Derived.Shelf.Strconv.Atoi
import Derived.Shelf.Strings.Search2
import Derived.Shelf.Strings.SlTrimAscii
import Derived.Deep.Draws
import Derived.Lib.AtoiErrMem
import Derived.BigCall
import Derived.Laws.IdiomStrings
import Derived.Shelf.Strings.IndexAnyAll
import Derived.Lib.OthersKept
import Derived.Scope
import Derived.RegionCalls
import Derived.BigRegion
import Derived.Deep.RegionWith
import Derived.Laws.Runes
import Derived.Laws.RangeAny
set_option linter.all false
set_option linter.defProp false
set_option linter.unusedSimpArgs false
set_option linter.unusedVariables false
open Nat (reduceEqDiff)
namespace Go.Ir
def Cl(s:Aa):Bool:=s.all λc=>!(decide (c<48)||decide (c>57))
def DP(s:Aa):Bool:=s.all λc=>c==48
def JI(s:Aa):Bool:=match s with
 | 45::_=>true
 | _=>false
def HC(s:Aa):Aa:=if JI s then s.tail else s
def AO(s:Aa):Aa:=(HC s).takeWhile (· != 46)
def Pq(s:Aa):Aa:=(HC s).dropWhile (· != 46)
def Bn(s:Aa):Aa:=(Pq s).tail
def vL(s:Aa):Bool:=match s[0]? with
 | some c=>(c.toNat:Int)==48
 | none=>false
def DF(s:Aa):Bool:=
 !(decide (((AO s).length:Int)<1)||decide (((AO s).length:Int)>15)||!Cl (AO s)||decide (((AO s).length:Int)>1)&&vL (AO s))
  && !((!(Pq s).isEmpty&&((Bn s).length:Int)==0)||decide (((Bn s).length:Int)>6)||!Cl (Bn s))&&(!JI s||!(DP (AO s)&&DP (Bn s)))
theorem Jy(s:Aa):HC s=AO s++Pq s:=(List.takeWhile_append_dropWhile).symm
theorem QI(s:Aa):(HC s).length<=s.length:=by unfold HC;split<;>simp
theorem Kx(s:Aa):(AO s).length<=s.length:=by have:=QI s;rw[Jy,Agz] at this;omega
theorem RA(s:Aa):(AO s).length+(Bn s).length<=s.length:=by have:=QI s;rw[Jy,Agz] at this;unfold Bn;grind
theorem Ac9{w t:Aa}{c:UInt8}(h:∀x∈w,(x !=c)=true):Lib.indexByte (w++c::t) c=w.length:=by
 induction w with
 | nil=>simp[Lib.indexByte]
 | cons x w b=>have e:=h x (by simp);have:=b (λy a=>h y (by simp[a]));simp only[Anz,Lib.indexByte,this];grind
theorem vR{w:Aa}{c:UInt8}(h:∀x∈w,(x !=c)=true):Lib.indexByte w c=-1:=by
 induction w with
 | nil=>simp[Lib.indexByte]
 | cons x w b=>have e:=h x (by simp);have:=b (λy a=>h y (by simp[a]));simp only[Lib.indexByte,this];grind
theorem NI{a:Type}{p:a->Bool}(l:List a):∀x∈l.takeWhile p,p x=true:=by intro x b;exact Alm.1 List.all_takeWhile x b
theorem H6{a:Type}{p:a->Bool}{l t:List a}{c:a}(h:l.dropWhile p=c::t):p c=false:=by
 induction l with
 | nil=>simp at h
 | cons x l b=>rw[List.dropWhile_cons] at h;grind
theorem oU{a:Type}{p:a->Bool}{w r:List a}(h:∀x∈w,p x=true)(b:∀x∈r.head?,p x=false):(w++r).takeWhile p=w/\(w++r).dropWhile p=r:=by
 induction w with
 | nil=>
  cases r with
  | nil=>simp
  | cons x r=>simp_all
 | cons x w c=>simp_all
def Aoz(d:Nat)(c:UInt8):Nat:=10*d+(c.toNat-48)
def Mt(d:Nat)(s:Aa):Nat:=s.foldl Aoz d
theorem eV(d:Nat):Mt d []=d:=rfl
theorem NY(d:Nat)(c:UInt8)(s:Aa):Mt d (c::s)=Mt (10*d+(c.toNat-48)) s:=Awx ..
theorem Rv(s:Aa):∀d,Cl s=true->Lib.decFrom d s=some (Mt d s):=by
 induction s with
 | nil=>intro d _;rw[eV,Lib.decFrom]
 | cons c s e=>
  intro d h;simp only[Cl,Axc,Aan] at h;have a:=h.1;simp[UInt8.lt_iff_toNat_lt] at a;have b:Lib.digitVal c=some (c.toNat-48):=by unfold Lib.digitVal;simp;omega
  rw[Lib.decFrom,b];simp only[NY];rw[Nat.mul_comm 10 d];exact e _ h.2
theorem gM(s:Aa)(h:Cl s=true):Lib.atoi (48::s)=some (Mt 0 s:Int):=by have:=Rv (48::s) 0 (by simpa[Cl] using h);simp[Lib.atoi,Lib.decNat,this,NY]
def J2(s:Aa):Aa:=Lib.trimRightS s [48]
theorem FU{a:Type}{p:a->Bool}{l:List a}:l.dropWhile p=[]↔∀x∈l,p x=true:=by
 induction l with
 | nil=>simp
 | cons x l b=>rw[List.dropWhile_cons];grind
theorem O9(s cs:Aa):(Lib.trimS s cs==[])=s.all (λc=>cs.contains c):=by
 rcases AuE (s.all (λc=>cs.contains c)) with h|h
 ·rw[h];have:s.reverse.dropWhile (λc=>cs.contains c)=[]:=by rw[FU];grind
  unfold Lib.trimS Lib.trimLeftS Lib.trimRightS;rw[this];rfl
 ·rw[h];rw[List.all_eq_false] at h;obtain⟨x,f,hp⟩:=h;rw[beq_eq_false_iff_ne];intro a;unfold Lib.trimS Lib.trimLeftS Lib.trimRightS at a;rw[FU] at a;cases b:s.reverse.dropWhile (λc=>cs.contains c) with
  | nil=>rw[FU] at b;grind
  | cons d t=>have e:=H6 b;grind
theorem PG(s:Aa):(Lib.trimS s [48,49,50,51,52,53,54,55,56,57]==[])=Cl s:=by rw[O9];unfold Cl;congr 1;funext c;rw[Atk];simp[UInt8.lt_iff_toNat_lt,<-AxH];omega
theorem Um(s:Aa):(Lib.trimS s [48]==[])=DP s:=by rw[O9];unfold DP;grind
theorem Ej(s:Aa):Lib.hasPrefix s [45]=JI s:=by
 unfold Lib.hasPrefix JI;split
 ·simp[List.isPrefixOf]
 ·rename_i h;cases s with
  | nil=>simp[List.isPrefixOf]
  | cons c s=>simp only[List.isPrefixOf,Auy,beq_eq_false_iff_ne];intro a;exact h s (by rw[<-a])
theorem Fl(s:Aa):Lib.trimPrefix s [45]=HC s:=by unfold Lib.trimPrefix HC;rw[Ej];split<;>simp
theorem kY(s:Aa):∀x∈(Pq s).head?,(x !=46)=false:=by
 intro x a;cases h:Pq s with
 | nil=>rw[h] at a;simp at a
 | cons c t=>rw[h] at a;simp at a;subst a;exact H6 (p:=(· != 46)) h
theorem PM{s:Aa}(h:Cl s=true):Cl (J2 s)=true:=by unfold Cl at *;rw[Alm] at *;intro x a;refine h x ?_;unfold J2 Lib.trimRightS at a;have:=(Aw9 (l:=s.reverse) (λc=>List.contains [48] c)).mem (by simpa using a);simpa using this
theorem gB(s:Aa):(J2 s).length<=s.length:=by unfold J2 Lib.trimRightS;rw[AxJ];exact All (Aw9 _).length_le (by simp)
def yF(s:Aa)(a:Int):Int×Int:=
 if DF s then
  if a=1 then(if J2 (Bn s)==[] then(Mt 0 (AO s),0) else(0,8))
  else if a=2 then(Mt 0 (AO s),0)
  else if a=3 then((Bn s).length,0)
  else if a=4 then((J2 (Bn s)).length,0)
  else if a=5 then(Mt 0 (Bn s),0)
  else if a=6 then(Mt 0 (J2 (Bn s)),0)
  else(0,1)
 else(0,1)
theorem GQ{s:Aa}(h:DF s=true):Cl (AO s)=true/\Cl (Bn s)=true/\(AO s).length<=15/\(Bn s).length<=6:=by unfold DF at h;grind
abbrev CO:=List (Aa×Int)
def Bl:CO->Aa->Option Int
 | [],_=>none
 | e::m,n=>if e.1==n then some e.2 else Bl m n
def Gw:CO->Aa->Int->CO
 | [],n,k=>[(n,k)]
 | e::m,n,k=>if e.1==n then(e.1,k)::m else e::Gw m n k
def Ij(a:Bool)(w f:Aa):Aa:=
 if a&&!(DP w&&DP f) then 45::(if f==[] then w else w++46::f) else(if f==[] then w else w++46::f)
def Em(a:Bool)(w f:Aa):Aa×Int:=if decide ((w.length:Int)>15)||decide ((f.length:Int)>6) then([],2) else(Ij a w f,0)
def Ey(w:Aa):Aa:=if Lib.trimLeftS w [48]==[] then[48] else Lib.trimLeftS w [48]
def CI(s:Aa):Aa×Int:=if DF s then Em (JI s) (Ey (AO s++(Bn s++[48,48]).take 2)) ((Bn s).drop (min 2 (Bn s).length)) else([],1)
def Ly:List UInt8->List UInt8
 | []=>[49]
 | c::r=>if c==57 then 48::Ly r else(c+1)::r
def Ip(s:Aa):Aa:=(Ly s.reverse).reverse
def AeH:Aa->Bool
 | c::_=>decide ((c.toNat:Int)>=53)
 | []=>false
def CQ(s:Aa):Aa×Int:=if DF s then Em (JI s) (if Bn s==[] then AO s else if AeH (Bn s) then Ip (AO s) else AO s) [] else([],1)
def Bo(a:Nat):Nat->Aa->List Aa
 | 0,_=>[]
 | n+1,r=>if r==[] then[] else r.drop (r.length-a)::Bo a n (r.take (r.length-a))
def IT(a b:Int)(c d:Aa):Aa:=
 if decide (a<1)||decide ((d.length:Int)<=a) then d
 else Lib.join (d.drop (d.length-a.toNat)::Bo (if b<1 then a else b).toNat d.length (d.take (d.length-a.toNat))).reverse c
def Fi(L:BO)(n:Aa):Aa:=
 let a:=IT L.prim L.sec L.grp (AO n);let b:=if(Pq n).isEmpty then a else a++(L.dec++Bn n)
 if JI n then L.minus++b else b
def Nc:Aa:=[105,110,116,101,103,101,114]
def Mj:Aa:=[112,101,114,99,101,110,116]
def Cw(L:BO)(n st:Aa):Aa×Int:=
 if !DF n||(!(st==[])&&!(st==Nc)&&!(st==Mj)) then([],1)
 else if L.dec==[] then([],18)
 else if st==Nc then(if(CQ n).2==0 then(Fi L (CQ n).1,0) else([],(CQ n).2))
 else if st==Mj then(if(CI n).2==0 then(Fi L (CI n).1++L.perc,0) else([],(CI n).2))
 else(Fi L n,0)
def Fk:List Aa:=[[121],[77],[77,77],[77,77,77],[69],[100],[100,100]]
def FR(s:Aa):Bool:=Fk.contains s
def Cz:List Aa->Aa->List Aa->Option (List Aa)
 | [],a,out=>if !(a==[])||out.length==0 then none else some out
 | k::b,a,out=>
  if a.take (a.length-(Lib.trimLeftS a k).length)==[] then Cz b a out
  else if FR (a.take (a.length-(Lib.trimLeftS a k).length)) then Cz b (Lib.trimLeftS a k) (out++[a.take (a.length-(Lib.trimLeftS a k).length)]) else none
def CZ:List Aa:=[[121],[77],[69],[100]]
def Cu(s:Aa):Option (List Aa):=Cz CZ s []
def Ba:Aa:=[65,66,67,68,69,70,71,72,73,74,75,76,77,78,79,80,81,82,83,84,85,86,87,88,89,90,97,98,99,100,101,102,103,104,105,106,107,108,109,110,111,112,113,114,115,116,117,118,119,120,121,122]
def C6:Nat->Aa->List Aa->Option (List Aa)
 | 0,_,_=>none
 | n+1,p,out=>if p==[] then some out
  else if p.take (p.length-(Lib.trimLeftS p Ba).length)==[] then C6 n (p.drop 1) out
  else if FR (p.take (p.length-(Lib.trimLeftS p Ba).length)) then C6 n (Lib.trimLeftS p Ba) (out++[p.take (p.length-(Lib.trimLeftS p Ba).length)]) else none
def Hn(p:Aa):Option (List Aa):=C6 (p.length+1) p []
def Lc(l:List Aa):List Aa:=l.mergeSort λx y=>decide (x<=y)
def GG(l:List Aa):Aa×Bool:=(Lib.join (Lib.compact (Lc (l.map λf=>f.take 1))) [],(Lib.compact (Lc (l.map λf=>f.take 1))).length==l.length)
def DL(a p:Aa):Bool:=match Cu a,Hn p with
 | some w,some g=>!(g.length==0)&&((GG g).2&&(GG w).1==(GG g).1)
 | _,_=>false
def AR(i:Nat):Aa:=123::(Lib.decDigits i++[125])
def FQ(s:Aa):Bool:=s.any λc=>c==123||c==125
def Sl:Nat->Nat->Aa->Bool
 | 0,_,s=>!FQ s
 | k+1,i,s=>if Lib.count s (AR i)==1 then Sl k (i+1) (Lib.replace s (AR i) [0] 1) else false
def Q0(s:Aa)(n:Nat):Bool:=Sl n 0 s
def J0(y:Int):Bool:=(y.tmod 4==0&&y.tmod 100 !=0)||y.tmod 400==0
def DO(y:Int):Int:=if J0 y then 366 else 365
def AbQ:List Int:=[31,28,31,30,31,30,31,31,30,31,30,31]
def Is(y:Int)(m:Nat):Int:=if m==2&&J0 y then 29 else AbQ.getD (m-1) 0
def FY:Nat->Int->Int->Int×Int
 | 0,y,d=>(y,d)
 | n+1,y,d=>if d>=DO y then FY n (y+1) (d-DO y) else(y,d)
def ND(y:Int):Nat->Nat->Int->Nat×Int
 | 0,m,d=>(m,d)
 | n+1,m,d=>if d>=Is y m then ND y n (m+1) (d-Is y m) else(m,d)
def DQ(d:Int):Bool:=!(decide (d < -25567)||decide (d>84005))
def Hq(d:Int):Int×Int:=FY (d+25567).toNat 1900 (d+25567)
def FM(d:Int):Nat×Int:=ND (Hq d).1 12 1 (Hq d).2
def Jb(n:Nat):Aa:=if n<10 then 48::Lib.decDigits n else Lib.decDigits n
def D0(d:Int):Aa:=if DQ d then Lib.decDigits (Hq d).1.toNat++[45]++Jb (FM d).1++[45]++Jb ((FM d).2+1).toNat else[]
def Fe(l:List Aa):CO:=l.foldl (λm f=>Gw m (f.take 1) f.length) []
def KW(a b:CO):Int×Bool:=if a.all (λe=>(Bl b e.1).isSome) then((a.map λe=>max (e.2-(Bl b e.1).getD 0) ((Bl b e.1).getD 0-e.2)).sum,(a.length:Int)==(b.length:Int)) else(0,false)
def Dp(a:CO):List CE->Int->Int->Int->Int
 | [],_,b,_=>b
 | p::ps,i,b,c=>match Cu p.skel with
  | none=>Dp a ps (i+1) b c
  | some l=>if(KW a (Fe l)).2&&(decide (b<0)||decide ((KW a (Fe l)).1<c)) then Dp a ps (i+1) i (KW a (Fe l)).1 else Dp a ps (i+1) b c
def Dz(l:List CE)(a:Aa):Int×Int:=match Cu a with
 | none=>(0,3)
 | some w=>if Dp (Fe w) l 0 (-1) 0<0 then(0,8) else(Dp (Fe w) l 0 (-1) 0,0)
def Zj(p:Aa):Bool:=[[],[121]].any λy=>[[],[77]].any λm=>[[],[69]].any λe=>[[],[100]].any λd=>DL (y++m++e++d) p
def DH(c:UInt8):Bool:=(decide ((c.toNat:Int)>=65)&&decide ((c.toNat:Int)<=90))||(decide ((c.toNat:Int)>=97)&&decide ((c.toNat:Int)<=122))
structure Ko where
 L:BO
 y:Nat
 m:Nat
 d:Nat
 wd:Nat
def EG(x:Ko)(f:Aa):Aa×Int:=
 if f==[121] then(Lib.decDigits x.y,0) else if f==[77] then(Lib.decDigits x.m,0) else if f==[77,77] then(Jb x.m,0)
 else if f==[77,77,77] then(if(x.L.months.length:Int) !=12 then([],18) else(x.L.months.getD (x.m-1) [],0))
 else if f==[69] then(if(x.L.days.length:Int) !=7 then([],18) else(x.L.days.getD x.wd [],0))
 else if f==[100] then(Lib.decDigits x.d,0) else(Jb x.d,0)
def BD(x:Ko):Nat->Aa->Aa->Aa×Int
 | 0,_,out=>(out,0)
 | n+1,p,out=>if p==[] then(out,0)
  else if(p.takeWhile DH).length==0 then BD x n (p.drop 1) (out++p.take 1)
  else if(EG x (p.take (p.takeWhile DH).length)).2==0 then BD x n (p.drop (p.takeWhile DH).length) (out++(EG x (p.take (p.takeWhile DH).length)).1)
  else([],(EG x (p.take (p.takeWhile DH).length)).2)
def I6(x:Ko)(p:Aa):Aa×Int:=BD x (p.length+1) p []
def Lp(L:BO)(d:Int):Ko:=⟨L,(Hq d).1.toNat,(FM d).1,((FM d).2+1).toNat,((d+25567).tmod 7).toNat⟩
def DB(L:BO)(a:Aa)(d:Int):Aa×Int:=
 if DQ d then
  if(Dz L.dates a).2==8 then([],18) else if(Dz L.dates a).2==0 then
   match L.dates[(Dz L.dates a).1.toNat]? with
   | some p=>if Zj p.pat then I6 (Lp L d) p.pat else([],4)
   | none=>([],4)
  else([],(Dz L.dates a).2)
 else([],2)
def Fg(p a b:Aa):Aa:=
 if(Lib.cut (Lib.cut p (AR 0)).1 (AR 1)).2.2 then(Lib.cut (Lib.cut p (AR 0)).1 (AR 1)).1++b++(Lib.cut (Lib.cut p (AR 0)).1 (AR 1)).2.1++a++(Lib.cut p (AR 0)).2.1
 else(Lib.cut p (AR 0)).1++a++(Lib.cut (Lib.cut p (AR 0)).2.1 (AR 1)).1++b++(Lib.cut (Lib.cut p (AR 0)).2.1 (AR 1)).2.1
def Hf(s:Aa):List CF->Option CF
 | []=>none
 | x::l=>if x.style==s then some x else Hf s l
def JR(p:CF):List Aa->Aa->Aa
 | [],a=>a
 | s::r,a=>if(a.length:Int)>20000 then a else JR p r (Fg (if r.isEmpty then p.start else p.mid) s a)
def On(p:CF)(l:List Aa):Aa:=match l with
 | []=>[]
 | [a]=>a
 | [a,b]=>Fg p.two a b
 | l=>JR p (l.take (l.length-2)).reverse (Fg p.fin (l.getD (l.length-2) []) (l.getD (l.length-1) []))
def kL(p:CF):Bool:=[p.two,p.start,p.mid,p.fin].all λs=>Q0 s 2
def Eh(L:BO)(st:Aa)(l:List Aa):Aa×Int:=match Hf st L.lists with
 | none=>([],18)
 | some p=>if kL p then(if(l.length:Int)>1000 then([],6) else if((On p l).length:Int)>20000 then([],6) else(On p l,0)) else([],4)
def KV(u c:Aa):List Dt->Option Aa
 | []=>none
 | x::l=>if x.unit==u&&x.cls==c then some x.pat else KV u c l
def Kh(L:BO)(u c:Aa):Option Aa:=match KV u c L.units with
 | some p=>some p
 | none=>KV u [111,116,104,101,114] L.units
end Go.Ir

namespace Go.Ir
open Go.Proofs
variable{P:Program}{W0:World}{nt n:Nat}{Q:Exit→St→Prop}{env:AE}{σ:Al}
def d6:IC:=sQ (.block 1 (oP [m1 11 3,m1 12 0,m1 13 4,iA 14 12 13 9 1,l1 15 14,nS 16 15,bZ 17 .add 16 30,bT 18 .add 11 17,m1 3 18] [0,3,4])) (oP [m1 9 4,bZ 10 .add 9 1,m1 4 10] [0,3,4])
def AdY:IC:=sQ (oS [mZ 4 0] [0,3,4] (.block 0 (.loop (sQ (oS [m1 5 4,m1 6 0,nL 7 6,bT 8 .lss 5 7] [0,3,4,8] (cD 8 .skip (.exit 0))) d6)))) (oR [m1 19 3,m1 2 19] [2])
def Ae2:IC:=oS [mZ 2 0] [0] (oS [mZ 3 0] [0,3] AdY)
@[push_cast]def Asy:List R:=[.t 2]
@[push_cast]def Awp:=Ar d6.eq_1<|Ar AdY.eq_1<|AM Ae2.eq_1
theorem AnB:Au Tryz.prog 85 20 Ae2 Asy=true:=by kernel_rfl
def nZ:IC:=sQ (.block 3 (.ops [m1 69 3,fA 70 5 11,l1 71 70,m1 72 6,iA 73 71 72 178 5,fA 74 73 0,l1 75 74,fA 76 5 11,l1 77 76,m1 78 6,iA 79 77 78 178 5,fA 80 79 1,l1 81 80,fA 82 5 11,l1 83 82,m1 84 6,iA 85 83 84 178 5,fA 86 85 2,l1 87 86,fA 88 5 11,l1 89 88,m1 90 6,iA 91 89 90 178 5,fA 92 91 3,l1 93 92,fA 94 5 11,l1 95 94,m1 96 6,iA 97 95 96 178 5,fA 98 97 4,l1 99 98,o1 100 (.msl false 9 1 [.t 75,.t 81,.t 87,.t 93,.t 99]),q1 101 85 100,bT 102 .add 69 101,m1 3 102] [1,3,4,5,6] [[1,2],[2,4],[3,4],[4,5],[5,6],[7,8],[8,10],[9,10],[10,11],[11,12],[13,14],[14,16],[15,16],[16,17],[17,18],[19,20],[20,22],[21,22],[22,23],[23,24],[25,26],[26,28],[27,28],[28,29],[29,30],[6,31],[12,31],[18,31],[24,31],[30,31],[31,32],[0,33],[32,33],[0,34],[33,34]])) (oP [m1 67 6,bZ 68 .add 67 1,m1 6 68] [1,3,4,5,6])
def wR:IC:=sQ (.block 5 (.ops [m1 110 3,fA 111 5 12,l1 112 111,m1 113 7,iA 114 112 113 180 3,fA 115 114 0,l1 116 115,fA 117 5 12,l1 118 117,m1 119 7,iA 120 118 119 180 3,fA 121 120 1,l1 122 121,fA 123 5 12,l1 124 123,m1 125 7,iA 126 124 125 180 3,fA 127 126 2,l1 128 127,o1 129 (.msl false 9 1 [.t 116,.t 122,.t 128]),q1 130 85 129,bT 131 .add 110 130,m1 3 131] [1,3,4,5,7] [[1,2],[2,4],[3,4],[4,5],[5,6],[7,8],[8,10],[9,10],[10,11],[11,12],[13,14],[14,16],[15,16],[16,17],[17,18],[6,19],[12,19],[18,19],[19,20],[0,21],[20,21],[0,22],[21,22]])) (oP [m1 108 7,bZ 109 .add 108 1,m1 7 109] [1,3,4,5,7])
def jS:IC:=sQ (.block 7 (.ops [m1 139 3,fA 140 5 13,l1 141 140,m1 142 8,iA 143 141 142 182 2,fA 144 143 0,l1 145 144,fA 146 5 13,l1 147 146,m1 148 8,iA 149 147 148 182 2,fA 150 149 1,l1 151 150,o1 152 (.msl false 9 1 [.t 145,.t 151]),q1 153 85 152,bT 154 .add 139 153,m1 3 154] [1,3,4,5,8] [[1,2],[2,4],[3,4],[4,5],[5,6],[7,8],[8,10],[9,10],[10,11],[11,12],[6,13],[12,13],[13,14],[0,15],[14,15],[0,16],[15,16]])) (oP [m1 137 8,bZ 138 .add 137 1,m1 8 138] [1,3,4,5,8])
def eB:IC:=sQ (oS [mZ 7 0] [1,3,4,5,7] (.block 4 (.loop (sQ (oS [m1 103 7,fA 104 5 12,l1 105 104,nL 106 105,bT 107 .lss 103 106] [1,3,4,5,7,107] (cD 107 .skip (.exit 4))) wR)))) (oS [mZ 8 0] [1,3,4,5,8] (.block 6 (.loop (sQ (oS [m1 132 8,fA 133 5 13,l1 134 133,nL 135 134,bT 136 .lss 132 135] [1,3,4,5,8,136] (cD 136 .skip (.exit 6))) jS))))
def tH:IC:=sQ (.ops [m1 23 3,fA 24 5 0,l1 25 24,fA 26 5 1,l1 27 26,fA 28 5 2,l1 29 28,fA 30 5 5,fA 31 30 0,l1 32 31,fA 33 5 5,fA 34 33 1,l1 35 34,fA 36 5 5,fA 37 36 2,l1 38 37,fA 39 5 5,fA 40 39 3,l1 41 40,o1 42 (.msl false 9 1 [.t 25,.t 27,.t 29,.t 32,.t 35,.t 38,.t 41]),q1 43 85 42,fA 44 5 14,l1 45 44,q1 46 85 45,bT 47 .add 43 46,fA 48 5 15,l1 49 48,q1 50 85 49,bT 51 .add 47 50,fA 52 5 3,l1 53 52,nL 54 53,fA 55 5 4,l1 56 55,nL 57 56,bT 58 .add 54 57,o1 59 (.bin .mul (ci 100) (.t 58)),bT 60 .add 51 59,bT 61 .add 23 60,m1 3 61] [1,3,4,5] [[1,2],[3,4],[5,6],[7,8],[8,9],[10,11],[11,12],[13,14],[14,15],[16,17],[17,18],[2,19],[4,19],[6,19],[9,19],[12,19],[15,19],[18,19],[19,20],[21,22],[22,23],[20,24],[23,24],[25,26],[26,27],[24,28],[27,28],[29,30],[30,31],[32,33],[33,34],[31,35],[34,35],[35,36],[28,37],[36,37],[0,38],[37,38],[0,39],[38,39]]) (sQ (oS [mZ 6 0] [1,3,4,5,6] (.block 2 (.loop (sQ (oS [m1 62 6,fA 63 5 11,l1 64 63,nL 65 64,bT 66 .lss 62 65] [1,3,4,5,6,66] (cD 66 .skip (.exit 2))) nZ)))) eB)
def dB:IC:=sQ (.block 1 (oS [fA 18 1 0,l1 19 18,m1 20 4,iA 21 19 20 30 16,lA 22 21 16,o1 5 (.alloc (.agg [.s [],.s [],.s [],.nil,.nil,.s [],.s [],.s [],.s [],.i .i64 0,.i .i64 0,.nil,.nil,.nil,.nil,.nil])),sT 5 22 16] [1,3,4,5] tH)) (oP [m1 16 4,bZ 17 .add 16 1,m1 4 17] [1,3,4])
def oC:IC:=sQ (.block 9 (.ops [m1 162 3,fA 163 1 1,l1 164 163,m1 165 9,iA 166 164 165 184 2,fA 167 166 0,l1 168 167,fA 169 1 1,l1 170 169,m1 171 9,iA 172 170 171 184 2,fA 173 172 1,l1 174 173,o1 175 (.msl false 9 1 [.t 168,.t 174]),q1 176 85 175,bT 177 .add 162 176,m1 3 177] [1,3,9] [[1,2],[2,4],[3,4],[4,5],[5,6],[7,8],[8,10],[9,10],[10,11],[11,12],[6,13],[12,13],[13,14],[0,15],[14,15],[0,16],[15,16]])) (oP [m1 160 9,bZ 161 .add 160 1,m1 9 161] [1,3,9])
def p7:IC:=sQ (.block 11 (.ops [m1 185 3,fA 186 1 2,l1 187 186,m1 188 10,iA 189 187 188 186 3,fA 190 189 0,l1 191 190,fA 192 1 2,l1 193 192,m1 194 10,iA 195 193 194 186 3,fA 196 195 1,l1 197 196,o1 198 (.msl false 9 1 [.t 191,.t 197]),q1 199 85 198,bT 200 .add 185 199,m1 3 200] [1,3,10] [[1,2],[2,4],[3,4],[4,5],[5,6],[7,8],[8,10],[9,10],[10,11],[11,12],[6,13],[12,13],[13,14],[0,15],[14,15],[0,16],[15,16]])) (oP [m1 183 10,bZ 184 .add 183 1,m1 10 184] [1,3,10])
def tS:IC:=sQ (oS [mZ 10 0] [1,3,10] (.block 10 (.loop (sQ (oS [m1 178 10,fA 179 1 2,l1 180 179,nL 181 180,bT 182 .lss 178 181] [1,3,10,182] (cD 182 .skip (.exit 10))) p7)))) (oR [m1 201 3,m1 2 201] [2])
def Aee:IC:=sQ (oS [mZ 4 0] [1,3,4] (.block 0 (.loop (sQ (oS [m1 11 4,fA 12 1 0,l1 13 12,nL 14 13,bT 15 .lss 11 14] [1,3,4,15] (cD 15 .skip (.exit 0))) dB)))) (sQ (oS [mZ 9 0] [1,3,9] (.block 8 (.loop (sQ (oS [m1 155 9,fA 156 1 1,l1 157 156,nL 158 157,bT 159 .lss 155 158] [1,3,9,159] (cD 159 .skip (.exit 8))) oC)))) tS)
def Aej:IC:=oS [bX 1 0,mZ 2 0] [1] (oS [mZ 3 0] [1,3] Aee)
@[push_cast]def Ar8:List R:=[.t 2]
@[push_cast]def AvG:=Ar nZ.eq_1<|Ar wR.eq_1<|Ar jS.eq_1<|Ar eB.eq_1<|Ar tH.eq_1<|Ar dB.eq_1<|Ar oC.eq_1<|Ar p7.eq_1<|Ar tS.eq_1<|Ar Aee.eq_1<|AM Aej.eq_1
theorem Ama:Au Tryz.prog 54 202 Aej Ar8=true:=by kernel_rfl
def iZ:IC:=sQ (.block 3 (sQ (.ops [o1 70 (.msl true 139 2 []),fA 71 4 3,l1 72 71,o1 73 (.app (.t 70) (.t 72) 139 2),fA 74 4 4,⟨some 75,.load (.t 74) 1 false,none,[.t 70]⟩,o1 76 (.app (.t 73) (.t 75) 139 2),m1 77 5,iA 78 76 77 139 2,lA 79 78 2,o1 6 (.alloc (.agg [.s [],.nil])),sT 6 79 2] [1,3,4,5,6] [[1,2],[0,3],[2,3],[4,5],[2,3,6],[3,6],[5,6],[3,6,8],[6,8],[7,8],[3,6,8,9],[6,8,9],[8,9],[2,11],[3,11],[5,11],[6,11],[8,11],[9,11],[10,11]]) (oS [fA 80 6 1,l1 81 80,q1 82 53 81,nT 83 82] [1,3,4,5,83] (cD 83 (oR [mC 2 (.b false)] [2]) .skip)))) (oP [m1 68 5,bZ 69 .add 68 1,m1 5 69] [1,3,4,5])
def uT:IC:=sQ (oS [m1 59 5,fA 60 4 3,l1 61 60,nL 62 61,fA 63 4 4,l1 64 63,nL 65 64,bT 66 .add 62 65,bT 67 .lss 59 66] [1,3,4,5,67] (cD 67 .skip (.exit 2))) iZ
def tW:IC:=sQ (oS [fA 19 4 3,l1 20 19,nL 21 20,bZ 22 .gtr 21 12,m1 23 22,ER 24 23 4 4,E8 25 23 24,gF 26 23 (.lenL (.t 25)),EI 27 23 .gtr 26 12,pO 28 23 27,m1 29 28,ER 30 29 4 11,E8 31 29 30,gF 32 29 (.lenL (.t 31)),EI 33 29 .gtr 32 12,pO 34 29 33,m1 35 34,ER 36 35 4 12,E8 37 35 36,gF 38 35 (.lenL (.t 37)),EI 39 35 .gtr 38 110,pO 40 35 39,m1 41 40,ER 42 41 4 13,E8 43 41 42,gF 44 41 (.lenL (.t 43)),EI 45 41 .gtr 44 40,pO 46 41 45,m1 47 46,ER 48 47 4 14,E8 49 47 48,gF 50 47 (.lenL (.t 49)),EI 51 47 .gtr 50 20,pO 52 47 51,m1 53 52,ER 54 53 4 15,E8 55 53 54,gF 56 53 (.lenL (.t 55)),EI 57 53 .gtr 56 20,pO 58 53 57] [1,3,4,58] (cD 58 (oR [mC 2 (.b false)] [2]) .skip)) (oS [mZ 5 0] [1,3,4,5] (.block 2 (.loop uT)))
def tC:IC:=sQ (.block 1 (oS [fA 14 1 0,l1 15 14,m1 16 3,iA 17 15 16 30 16,lA 18 17 16,o1 4 (.alloc (.agg [.s [],.s [],.s [],.nil,.nil,.s [],.s [],.s [],.s [],.i .i64 0,.i .i64 0,.nil,.nil,.nil,.nil,.nil])),sT 4 18 16] [1,3,4] tW)) (oP [m1 12 3,bZ 13 .add 12 1,m1 3 13] [1,3])
def xJ:IC:=oR [fA 84 1 0,l1 85 84,nL 86 85,bZ 87 .leq 86 62,m1 88 87,Ft 89 88 1 1,EQ 90 88 89,gT 91 88 (.lenL (.t 90)),Fz 92 88 .leq 91 205,pA 93 88 92,m1 94 93,Ft 95 94 1 2,EQ 96 94 95,gT 97 94 (.lenL (.t 96)),Fz 98 94 .leq 97 205,pA 99 94 98,m1 100 99,gT 101 100 (.load (.t 1) 3 true),gT 102 100 (.call 54 [.t 101]),Fz 103 100 .leq 102 40000,pA 104 100 103,m1 2 104] [2]
def Ads:IC:=oS [bX 1 0,mC 2 (.b false)] [1] (sQ (oS [mZ 3 0] [1,3] (.block 0 (.loop (sQ (oS [m1 7 3,fA 8 1 0,l1 9 8,nL 10 9,bT 11 .lss 7 10] [1,3,11] (cD 11 .skip (.exit 0))) tC)))) xJ)
@[push_cast]def Att:List R:=[.t 2]
@[push_cast]def Awj:=Ar iZ.eq_1<|Ar uT.eq_1<|Ar tW.eq_1<|Ar tC.eq_1<|Ar xJ.eq_1<|AM Ads.eq_1
theorem Ame:Au Tryz.prog 32 105 Ads Att=true:=by kernel_rfl
def Aeq:IC:=oR [lA 7 3 16,o1 8 (.msl false 30 16 [.t 7]),o1 9 (.build [.nil,.nil,.nil] [(0,1,.t 8)]),q1 10 32 9,m1 11 10,BL 12 11 1,gT 13 11 (.call 43 [.t 12]),pA 14 11 13,m1 15 14,BL 16 15 2,gT 17 15 (.call 18 [.t 16]),pA 18 15 17,m1 6 18] [6]
def Afd:IC:=oS [bX 3 0,mC 6 (.b false)] [1,2,3] Aeq
@[push_cast]def AsO:List R:=[.t 6]
@[push_cast]def AwP:=Ar Aeq.eq_1<|AM Afd.eq_1
theorem AqP:Au Tryz.prog 25 19 Afd AsO=true:=by kernel_rfl
def AmK:IC:=oS [bX 1 0,mC 2 (.b false)] [1] (oR [fA 3 1 0,lA 4 3 16,fA 5 1 16,l1 6 5,fA 7 1 17,l1 8 7,q3 9 25 4 6 8,m1 2 9] [2])
@[push_cast]def f9R:List R:=[.t 2]
@[push_cast]def f9e:=AM AmK.eq_1
theorem Atw:Au Tryz.prog 9 10 AmK f9R=true:=by kernel_rfl
def Af0:IC:=oR [fA 6 2 0,lA 7 6 16,m1 8 1,fA 9 2 17,l1 10 9,fA 11 2 18,l1 12 11,o1 13 (.call 26 [.t 7,.t 8,.t 10,.t 12]),xT 14 13 0,xT 15 13 1,m1 4 14,m1 5 15] [4,5]
def AfA:IC:=oS [bX 2 0,mC 4 (.s []),mZ 5 0] [1,2] Af0
@[push_cast]def Asn:List R:=[.t 4,.t 5]
@[push_cast]def Aw3:=Ar Af0.eq_1<|AM AfA.eq_1
theorem Ao0:Au Tryz.prog 10 16 AfA Asn=true:=by kernel_rfl
def cP:IC:=oS [m1 9 0,nC 10 9,fA 11 10 0,o1 12 (.calls 125 [.t 11]),bZ 13 .gtr 12 20000] [0,13] (cD 13 (oP [m1 14 0,nC 15 14,fA 16 15 20,o0 (.store (.t 16) (ci 6) 1)] []) .skip)
def m5:IC:=sQ (.opx [m1 4 0,nC 5 4,fA 6 5 0,m1 7 1] [0,6,7] 8 124 [.t 6,.t 7] [] [0]) cP
@[push_cast]def Aqj:List R:=[]
@[push_cast]def AuW:=Ar cP.eq_1<|AM m5.eq_1
theorem Aku:Au Tryz.prog 103 17 m5 Aqj=true:=by kernel_rfl
def pC:IC:=oS [m1 17 0,nC 18 17,fA 19 18 19,l1 20 19,m1 16 20] [0,1,16] (cD 16 (.opx [m1 21 0,m1 22 1,q1 23 128 22] [21,23] 24 103 [.t 21,.t 23] [] []) (.opx [m1 6 0,m1 7 1] [6,7] 8 103 [.t 6,.t 7] [] []))
def kN:IC:=.block 0 (oS [m1 10 2,bZ 11 .neq 10 0,m1 9 11] [0,1,2,9] (cD 9 (oP [m1 12 0,m1 13 2,nC 14 12,fA 15 14 20,sT 15 13 1] []) pC))
@[push_cast]def AoB:List R:=[]
@[push_cast]def Au0:=Ar pC.eq_1<|AM kN.eq_1
theorem Ako:Au Tryz.prog 104 25 kN AoB=true:=by kernel_rfl
def oM:IC:=sQ (oS [m1 14 0,nC 15 14,fA 16 15 20,l1 17 16,bZ 18 .neq 17 0] [0,2,7,8,9,10,18] (cD 18 .ret .skip)) (.opx [m1 19 0,lA 20 7 6,m1 21 2] [0,2,8,9,10,19,20,21] 22 72 [.t 19,.t 20,.t 21] [] [0,2,8,9,10])
def Afo:IC:=sQ (.block 1 (oS [iA 12 8 10 116 6,lA 13 12 6,o1 7 (.alloc (.agg [.i .i64 0,.s [],.s [],.s [],.nil,.nil])),sT 7 13 6] [0,2,7,8,9,10] oM)) (oP [bZ 23 .add 10 1,m1 10 23] [0,2,8,9,10])
def Adk:IC:=oS [m1 8 1,nL 9 8,mZ 10 0] [0,2,8,9,10] (.block 0 (.loop (oS [bT 11 .lss 10 9] [0,2,8,9,10,11] (sQ (cD 11 .skip (.exit 0)) Afo))))
@[push_cast]def Ash:List R:=[]
@[push_cast]def AvK:=Ar oM.eq_1<|Ar Afo.eq_1<|AM Adk.eq_1
theorem Ap7:Au Tryz.prog 44 24 Adk Ash=true:=by kernel_rfl
def p9:IC:=.opx [m1 48 0,m1 49 0,nC 50 49,fA 51 50 2,lA 52 51 16,m1 53 2,o1 54 (.call 105 [.t 52,.t 53,.c (.s [])]),xT 55 54 0,xT 56 54 1] [48,55,56] 57 104 [.t 48,.t 55,.t 56] [] []
def tQ:IC:=sQ (.ops [m1 91 0,nC 92 91,fA 93 92 18,l1 94 93,fA 95 4 2,l1 96 95,q2 97 39 94 96,m1 90 97,xT 98 90 0,xT 99 90 1,o1 8 (.alloc (.agg [.s [],.i .i64 0,.s [],.i .i64 0,.nil])),sT 8 98 5,m1 9 99] [0,4,6,8] [[0,1],[1,2],[2,3],[4,5],[3,6],[5,6],[6,7],[7,8],[7,9],[3,11],[5,11],[8,11],[10,11],[9,12]]) (oP [fA 100 8 2,l1 101 100,m1 2 101] [0,2,4,6])
def tE:IC:=.opx [m1 102 0,fA 103 4 4,l1 104 103,m1 105 6,iA 106 104 105 118 2,fA 107 106 1,l1 108 107,m1 109 2] [102,108,109] 110 44 [.t 102,.t 108,.t 109] [] []
def qA:IC:=sQ (oS [m1 81 7,bZ 82 .neq 81 0] [0,2,4,6,7,82] (cD 82 (oR [m1 83 0,m1 84 7,nC 85 83,fA 86 85 20,sT 86 84 1] []) .skip)) (sQ (oS [fA 87 4 0,l1 88 87,bZ 89 .neq 88 9] [0,2,4,6,89] (cD 89 tQ .skip)) tE)
def kD:IC:=sQ (.ops [m1 69 0,nC 70 69,fA 71 70 2,lA 72 71 16,lA 73 4 6,m1 74 0,nC 75 74,fA 76 75 18,l1 77 76,q3 78 107 72 73 77,m1 68 78,xT 79 68 0,xT 80 68 1,m1 6 79,m1 7 80] [0,2,4,6,7] [[0,1],[1,2],[2,3],[5,6],[6,7],[7,8],[3,9],[4,9],[8,9],[9,10],[10,11],[10,12],[11,13],[12,14]]) qA
def wJ:IC:=.opxd [m1 29 0,m1 30 0,nC 31 30,fA 32 31 2,lA 33 32 16,lA 34 4 6,lA 35 10 5,q3 36 108 33 34 35,xT 37 36 0,xT 38 36 1] [29,37,38] 39 104 [.t 29,.t 37,.t 38] [] [[1,2],[2,3],[3,4],[4,7],[5,7],[6,7],[7,8],[7,9],[0,10],[1,2,3,4,7,10],[2,3,4,7,10],[3,4,7,10],[4,7,10],[5,7,10],[6,7,10],[7,10],[8,10],[9,10]]
def wX:IC:=sQ (.ops [m1 15 0,nC 16 15,fA 17 16 18,l1 18 17,fA 19 4 2,l1 20 19,q2 21 39 18 20,m1 14 21,xT 22 14 0,xT 23 14 1,o1 10 (.alloc (.agg [.s [],.i .i64 0,.s [],.i .i64 0,.nil])),sT 10 22 5,m1 11 23] [0,4,10,11] [[0,1],[1,2],[2,3],[4,5],[3,6],[5,6],[6,7],[7,8],[7,9],[3,11],[5,11],[8,11],[10,11],[9,12]]) (sQ (oS [m1 24 11,nT 25 24] [0,4,10,25] (cD 25 (oR [m1 26 0,nC 27 26,fA 28 27 20,o0 (.store (.t 28) (ci 12) 1)] []) .skip)) wJ)
def wU:IC:=sQ (oS [bZ 65 .eql 13 7,m1 64 65] [0,2,4,13,64] (cD 64 .skip (oS [bZ 66 .eql 13 8,m1 64 66] [0,2,4,13,64] (cD 64 .skip (oP [bZ 67 .eql 13 9,m1 64 67] [0,2,4,64]))))) (cD 64 kD wX)
def AeX:IC:=oS [bZ 47 .eql 13 10,m1 46 47] [0,2,4,13,46] (cD 46 p9 (oS [bZ 59 .eql 13 11,m1 58 59] [0,2,4,13,58] (cD 58 (.opx [m1 60 0,lA 61 4 6,m1 62 2] [60,61,62] 63 106 [.t 60,.t 61,.t 62] [] []) wU)))
def Afl:IC:=oS [bX 4 1] [0,2,4] (oS [fA 12 4 0,l1 13 12] [0,2,4,13] (.block 0 (oS [bZ 41 .eql 13 1,m1 40 41] [0,2,4,13,40] (cD 40 (.opx [m1 42 0,fA 43 4 1,l1 44 43] [42,44] 45 103 [.t 42,.t 44] [] []) AeX))))
@[push_cast]def ArQ:List R:=[]
@[push_cast]def Aw8:=Ar p9.eq_1<|Ar tQ.eq_1<|Ar tE.eq_1<|Ar qA.eq_1<|Ar kD.eq_1<|Ar wJ.eq_1<|Ar wX.eq_1<|Ar wU.eq_1<|Ar AeX.eq_1<|AM Afl.eq_1
theorem Aps:Au Tryz.prog 72 111 Afl ArQ=true:=by kernel_rfl
def sW:IC:=oS [m1 17 0,nC 18 17,fA 19 18 20,l1 20 19,bZ 21 .eql 20 0] [0,4,21] (cD 21 (.opx [m1 22 0,fA 23 4 2,l1 24 23,o1 25 (.bin .add (.c (.s [60,47])) (.t 24)),bC 26 .add 25 (.s [62])] [22,26] 27 103 [.t 22,.t 26] [] []) .skip)
def pQ:IC:=sQ (.opx [m1 6 0,fA 7 4 2,l1 8 7,o1 9 (.bin .add (.c (.s [60])) (.t 8)),bC 10 .add 9 (.s [62])] [0,2,4,6,10] 11 103 [.t 6,.t 10] [] [0,2,4]) (sQ (.opx [m1 12 0,fA 13 4 5,l1 14 13,m1 15 2] [0,4,12,14,15] 16 44 [.t 12,.t 14,.t 15] [] [0,4]) sW)
def rD:IC:=oS [bX 4 1] [0,2,4] pQ
@[push_cast]def Am3:List R:=[]
@[push_cast]def Av8:=Ar sW.eq_1<|Ar pQ.eq_1<|AM rD.eq_1
theorem Aic:Au Tryz.prog 106 28 rD Am3=true:=by kernel_rfl
def kF:IC:=sQ (oS [m1 22 10,nC 23 22,fA 24 23 20,l1 25 24,bZ 26 .neq 25 0] [10,26] (cD 26 (sQ (.ops [m1 27 10,nC 28 27,fA 29 28 20,l1 30 29,mC 8 (.s []),m1 9 30] [8,9] [[0,1],[1,2],[2,3],[3,5]]) .ret) .skip)) (oR [m1 31 10,nC 32 31,fA 33 32 0,o1 34 (.calls 45 [.t 33]),m1 8 34,mZ 9 0] [8,9])
def AdK:IC:=oS [lA 14 4 16,m1 15 2,m1 16 3,o1 17 (.build [.np,.nil,.s [],.s [],.s [],.nil,.nil,.s [],.s [],.s [],.s [],.i .i64 0,.i .i64 0,.nil,.nil,.nil,.nil,.nil,.nil,.b false,.i .i64 0] [(2,16,.t 14),(18,1,.t 15),(19,1,.t 16)]),o1 18 (.mkm (.tbx 121) [.t 17]),m1 10 18] [1,10] (sQ (.wk (.opx [m1 19 10,m1 20 1] [10,19,20] 21 44 [.t 19,.t 20,.c (.s [])] [] [10])) kF)
def Aes:IC:=oS [bX 4 0,mC 8 (.s []),mZ 9 0] [1,2,3,4] (sQ (oS [m1 11 1,q1 12 35 11,nT 13 12] [1,2,3,4,13] (cD 13 (oR [mC 8 (.s []),mZ 9 1] [8,9]) .skip)) AdK)
@[push_cast]def ArX:List R:=[.t 8,.t 9]
@[push_cast]def AvW:=Ar kF.eq_1<|Ar AdK.eq_1<|AM Aes.eq_1
theorem Am4:Au Tryz.prog 26 35 Aes ArX=true:=by kernel_rfl
def iB:IC:=oS [m1 8 0,m1 9 0,nC 10 9,fA 11 10 1,l1 12 11,m1 13 1,o1 14 (.apps (.t 12) (.t 13) 5),nC 15 8,fA 16 15 1,sT 16 14 1] [1] (oR [m1 17 1,nS 18 17,m1 4 18,mC 5 .ni] [4,5])
def kS:IC:=oS [mZ 4 0,mC 5 .ni] [0,1] (oS [m1 6 0,o1 7 (.calls 180 [.t 6])] [0,1] iB)
@[push_cast]def Ap6:List R:=[.t 4,.t 5]
@[push_cast]def Avw:=Ar iB.eq_1<|AM kS.eq_1
theorem iX:Au Tryz.prog 124 19 kS Ap6=true:=by kernel_rfl
def wW:IC:=oS [mZ 2 0] [0] (oR [m1 3 0,nC 4 3,fA 5 4 1,l1 6 5,nL 7 6,m1 2 7] [2])
@[push_cast]def Aql:List R:=[.t 2]
@[push_cast]def Av5:=AM wW.eq_1
theorem Ajv:Au Tryz.prog 125 8 wW Aql=true:=by kernel_rfl
end Go.Ir
section
namespace Go.Ir
structure EU where
 kind:Int
 name:Aa
 keys:List Aa
def Q9(k:Int)(n:Aa)(s:EU):Bool:=s.kind==k&&s.name==n
def I1(l:List EU)(k:Int)(n:Aa):Int:=Cb (Q9 k n) l
def G9(key:Aa)(s:EU):EU:=if s.keys.contains key then s else{ s with keys:=s.keys++[key] }
def AlU(l:List EU)(k:Int)(n:Aa):Nat:=if I1 l k n<0 then l.length else(I1 l k n).toNat
def Ub(l:List EU)(k:Int)(n:Aa):List EU:=if I1 l k n<0 then l++[⟨k,n,[]⟩] else l
mutual
def Aj.coll:Aj->List EU->List EU
 | ⟨k,_,a,_,cs,ps⟩,l=>
  if Bf k then uO cs (AlU (KL ps l) k a) (Ub (KL ps l) k a) else KL ps l
def KL:List Aj->List EU->List EU
 | [],l=>l
 | p::ps,l=>KL ps (p.coll l)
def uO:List (Aa×List Aj)->Nat->List EU->List EU
 | [],_,l=>l
 | (key,ps)::cs,j,l=>uO cs j (KL ps (l.modify j (G9 key)))
end
def DR(l b:List EU):Prop:=l.length<=b.length/\∀(i:Nat) (s a:EU),l[i]?=some s->b[i]?=some a->s.kind=a.kind/\s.name=a.name
theorem DR.refl(l:List EU):DR l l:=⟨Abm _,λi s b h a=>by grind⟩
theorem DR.trans{a b c:List EU}(h:DR a b)(k:DR b c):DR a c:=by refine⟨All h.1 k.1,λi s m g e=>?_⟩;have j:i<b.length:=AmR (Alp.1 g).1 h.1;have f:b[i]?=some b[i]:=Ai0 j;have o:=h.2 i s _ g f;have p:=k.2 i _ m f e;grind
theorem DR.app(l m:List EU):DR l (l++m):=by refine⟨by simp,λi s b h a=>?_⟩;grind
theorem Sd(key:Aa)(s:EU):(G9 key s).kind=s.kind/\(G9 key s).name=s.name:=by unfold G9;split<;>exact⟨rfl,rfl⟩
theorem DR.mod(l:List EU)(j:Nat)(key:Aa):DR l (l.modify j (G9 key)):=by
 refine⟨by simp,λi s e h a=>?_⟩;rw[AwM,h] at a;by_cases c:j=i
 ·have b:G9 key s=e:=by simpa[c] using a
  rw[<-b];have:=Sd key s;grind
 grind
theorem YK{l c:List EU}(h:DR l c)(k:Int)(n:Aa)(f:¬I1 l k n<0):I1 c k n=I1 l k n:=by
 induction l generalizing c with
 | nil=>exact absurd (by simp[I1,Cb]) f
 | cons s l q=>
  cases c with
  | nil=>have:=h.1;simp at this
  | cons g c=>
   have e:=h.2 0 s g rfl rfl;have p:DR l c:=⟨by have:=h.1;simpa using this,λi a b j m=>h.2 (i+1) a b (by simpa using j) (by simpa using m)⟩
   have o:Q9 k n g=Q9 k n s:=by unfold Q9;rw[e.1,e.2]
   unfold I1 at *;simp only[Cb,o] at f⊢;grind
end Go.Ir
end
section
namespace Go.Ir
def CN(l:List Aa):List (V×V):=l.map λk=>(.s k,.b true)
theorem SG(l:List Aa):(CN l).length=l.length:=by simp[CN]
def NP(k:Aa)(l:List Aa):List Aa:=if l.contains k then l else l++[k]
theorem iM(k:Aa)(l:List Aa):∀n,(l.contains k=true/\∃i,Br .str (.s k) (CN l) n=some (some (n+i,.b true))/\(CN l).modify i (λe=>(e.1,.b true))=CN l)\/(l.contains k=false/\Br .str (.s k) (CN l) n=some none):=by
 induction l with
 | nil=>intro n;exact .inr ⟨rfl,rfl⟩
 | cons x l g=>
  intro n;have f:Br .str (.s k) (CN (x::l)) n=(match Et .str (.s k) (.s x) with
   | some true=>some (some (n,.b true))
   | some false=>Br .str (.s k) (CN l) (n+1)
   | none=>none):=rfl
  have c:Et .str (.s k) (.s x)=some (k==x):=rfl;rw[f,c,List.contains_cons];by_cases h:k=x
  ·subst h;refine .inl ⟨by simp,0,?_,?_⟩
   ·simp
   ·simp[CN]
  ·have a:(k==x)=false:=by simpa using h
   rw[a,Awz];rcases g (n+1) with⟨h1,i,h2,h3⟩|⟨h1,h2⟩
   ·refine .inl ⟨h1,i+1,?_,?_⟩
    ·grind
    ·show(CN (x::l)).modify (i+1) _=_;simp only[CN,Alh,List.modify_succ_cons] at h3⊢;rw[h3]
   grind
theorem Ga(k:Aa)(l:List Aa):(l.contains k=true/\NP k l=l/\∃i,Br .str (.s k) (CN l) 0=some (some (i,.b true))/\(CN l).modify i (λe=>(e.1,.b true))=CN l)\/(l.contains k=false/\NP k l=l++[k]/\Br .str (.s k) (CN l) 0=some none):=by
 rcases iM k l 0 with⟨h1,i,h2,h3⟩|⟨h1,h2⟩
 ·exact .inl ⟨h1,by unfold NP;rw[h1];rfl,i,by simpa using h2,h3⟩
 ·exact .inr ⟨h1,by unfold NP;rw[h1];rfl,h2⟩
theorem BJ(k:Aa)(l:List Aa):CN l++[(V.s k,V.b true)]=CN (l++[k]):=by simp[CN]
theorem jW{a:Id×Ax}{σ:Al}(h:∀p∈σ,p.1≠a.1):∀i e,lk (a::σ) i=some e->lk (σ++[a]) i=some e:=by
 obtain⟨f,o⟩:=a
 induction σ with
 | nil=>intro i e h;exact h
 | cons b σ m=>
  obtain⟨g,k⟩:=b;intro i e c;simp only[lk] at c;show(if g=i then some k else lk (σ++[(f,o)]) i)=some e;split at c
  ·rename_i j;subst j;have:g≠f:=h (g,k) (by simp);rw[if_neg this];exact m (λp hp=>h p (AaC _ hp)) f e (by simp[lk];exact Option.some.inj c)
  ·rename_i j;split at c
   ·grind
   ·rename_i q;rw[if_neg q];exact m (λp hp=>h p (AaC _ hp)) i e (by simp only[lk];rw[if_neg j];exact c)
theorem Cq{id:Id}{x:Ax}{σ:Al}:∀i e,lk [(id,x)] i=some e->lk ((id,x)::σ) i=some e:=by intro i e h;simp only[lk] at h⊢;grind
theorem DK{id:Id}{x:Ax}{a:Id×Ax}{σ:Al}(f:(a.1=id)=False):∀i e,lk [(id,x)] i=some e->lk (a::(id,x)::σ) i=some e:=by intro i e h;obtain⟨c,b⟩:=a;simp only[lk] at h⊢;grind
section
variable{P:Program}{W0:World}{ep d:Nat}{live:List Nat}{Q:Exit→St→Prop}{l:List I}{env:AE}{σ:Al}
theorem DW{f:FuncId}{vs:List V}{v:V}{id:Id}{e e':Ax}{pre:Al}(h:An P W0 f vs [(id,e)] v [(id,e')])(b:∀p∈pre++σ,p.1≠id)
  (r:J P W0 ep live Q l ((d,v)::env) ((id,e')::(pre++σ))):Gx P W0 ep live Q f vs l d env (pre++(id,e)::σ):=by
 have j:∀(τ:Al),(∀p∈τ,p.1≠id)->lk (τ++(id,e)::σ) id=some e:=by
  intro τ k
  induction τ with
  | nil=>simp[lk]
  | cons a τ s=>obtain⟨g,m⟩:=a;have:g≠id:=k (g,m) (by simp);show(if g=id then some m else lk (τ++(id,e)::σ) id)=some e;grind
 refine Bq h (λi y c=>?_) ?_
 ·simp only[lk] at c;split at c
  ·rename_i o;subst o;cases c;exact j pre λp hp=>b p (AtS _ hp)
  ·cases c
 ·have q:List.filter (λp:Id×Ax=>(lk [(id,e)] p.1).isNone) (pre++(id,e)::σ)=pre++σ:=by
   rw[Axh,List.filter_cons_of_neg (by simp[lk]),<-Axh,Axs];intro p hp;simp[lk,AhZ (b p hp)]
  unfold over;rw[q];exact r
end
end Go.Ir
end
namespace Go.Ir
open Go.Proofs
variable{P:Program}{W0:World}{nt n:Nat}{Q:Exit→St→Prop}{env:AE}{σ:Al}
end Go.Ir

namespace Go.Ir
open Go.Proofs
theorem Or{σ:Al}{i:Id}{e:Ax}(h:lk σ i=some e):(i,e)∈σ:=by
 induction σ with
 | nil=>cases h
 | cons p σ a=>obtain⟨k,x⟩:=p;simp only[lk] at h;grind
theorem YT{σ:Al}{i:Id}{e:Ax}(a:(σ.map (·.1)).Nodup)(h:(i,e)∈σ):lk σ i=some e:=by
 induction σ with
 | nil=>cases h
 | cons p σ b=>obtain⟨k,x⟩:=p;rw[Alh,Aun] at a;simp only[lk];grind
theorem Tv{σ:Al}{i:Id}(h:∀p∈σ,p.1≠i):lk σ i=none:=by
 cases a:lk σ i with
 | none=>rfl
 | some e=>exact absurd rfl (h _ (Or a))
theorem AP{σ τ:Al}{i:Id}{e:Ax}(h:lk σ i=some e):lk (σ++τ) i=some e:=by
 induction σ with
 | nil=>cases h
 | cons p σ a=>obtain⟨k,x⟩:=p;rw[Anz];simp only[lk] at h⊢;grind
theorem H5{σi σo pre post:Al}(f:∀p∈pre,∀q∈σi,p.1≠q.1)(g:∀p∈post,∀q∈σi,p.1≠q.1):over σi σo (pre++σi++post)=σo++(pre++post):=by
 have keep:∀τ:Al,(∀p∈τ,∀q∈σi,p.1≠q.1)->List.filter (λp:Id×Ax=>(lk σi p.1).isNone) τ=τ:=by intro τ h;rw[Axs];intro p hp;rw[Tv λq i=>AhZ (h p hp q i)];rfl
 have a:List.filter (λp:Id×Ax=>(lk σi p.1).isNone) σi=[]:=by
  rw[List.filter_eq_nil_iff];intro p hp c;cases b:lk σi p.1 with
  | none=>
   clear keep
   revert hp b
   generalize σi=τ;intro hp b
   induction τ with
   | nil=>cases hp
   | cons q τ j=>obtain⟨k,x⟩:=q;simp only[lk] at b;grind
  | some e=>rw[b] at c;cases c
 unfold over;rw[Axh,Axh,keep pre f,a,keep post g,Ary]
theorem Ak.sub{W0:World}{nt n n':Nat}{env:AE}{σ σ':Al}(a:(σ.map (·.1)).Nodup)(h:∀p∈σ',p∈σ)(c:n<=n'):Ak W0 nt ⟨env,σ,n⟩ ⟨env,σ',n'⟩:=
 Ak.drop (λi e b=>YT a (h _ (Or b))) c
theorem Ak.pre{W0:World}{nt n n':Nat}{env:AE}{σ τ:Al}(b:n<=n'):Ak W0 nt ⟨env,σ++τ,n⟩ ⟨env,σ,n'⟩:=
 Ak.drop (λi e a=>AP a) b
abbrev OS:=EU×Option Id
def sv(o:Option Id):V:=match o with
 | none=>.nil
 | some id=>.arr id
def osV(x:OS):V:=.agg [.i .i64 x.1.kind,.s x.1.name,sv x.2]
def osE(x:OS):Al:=match x.2 with
 | none=>[]
 | some id=>[(id,.arr 9 1 (x.1.keys.map V.s))]
def Do(L:List OS):Al:=L.flatMap osE
def slE(e:Nat)(a:Option Id)(L:List OS):Al:=match a with
 | none=>[]
 | some id=>[(id,.arr e 3 (L.map osV))]
def Zr(e:Nat)(a:Option Id)(L:List OS):Al:=slE e a L++Do L
theorem Mq(A B:List OS):Do (A++B)=Do A++Do B:=by simp[Do]
theorem Oy(x:OS)(B:List OS):Do (x::B)=osE x++Do B:=by simp[Do]
structure Avq (e:Nat) (hd:Al) (lo:Option Id) (L:List OS) (n:Nat):Prop where
 nd:((hd++Zr e lo L).map (·.1)).Nodup
 lt:∀p∈hd++Zr e lo L,p.1.1<n
 ne:lo=none->L=[]
 kn:∀x∈L,x.2=none->x.1.keys=[]
end Go.Ir

namespace Go.Ir
open Go.Proofs
variable(W0:World)
theorem Agu{id:Id}{a j:Nat}(h:id.1<a):((a,j)=id)=False:=by grind
end Go.Ir

namespace Go.Ir
open Go.Proofs
structure Mb (T:Nat) (lo:Option Id) (L:List OS) (n:Nat):Prop where
 nd:((Zr T lo L).map (·.1)).Nodup
 lt:∀p∈Zr T lo L,p.1.1<n
 ne:lo=none->L=[]
 kn:∀x∈L,x.2=none->x.1.keys=[]
theorem Mb.more{T:Nat}{a:Option Id}{L:List OS}{n n':Nat}(h:Mb T a L n)(b:n<=n'):Mb T a L n':=⟨h.nd,λp hp=>AmR (h.lt p hp) b,h.ne,h.kn⟩
theorem EV{T:Nat}{id:Id}{L:List OS}:Zr T (some id) L=(id,.arr T 3 (L.map osV))::Do L:=rfl
theorem Qf{a:Id×Ax}{σ:Al}(h:(σ.map (·.1)).Nodup)(b:∀p∈σ,p.1≠a.1):((a::σ).map (·.1)).Nodup:=by grind
theorem AjA{a:Id×Ax}{σ:Al}(h:((a::σ).map (·.1)).Nodup):(σ.map (·.1)).Nodup/\∀p∈σ,p.1≠a.1:=by grind
theorem Aif{σ τ:Al}(h:(σ.map (·.1)).Nodup)(k:(τ.map (·.1)).Nodup)(a:∀p∈σ,∀q∈τ,p.1≠q.1):((σ++τ).map (·.1)).Nodup:=by grind
theorem TV{σ τ:Al}(h:((σ++τ).map (·.1)).Nodup):(σ.map (·.1)).Nodup/\(τ.map (·.1)).Nodup/\∀p∈σ,∀q∈τ,p.1≠q.1:=by rw[Axu,AxT] at h;exact⟨h.1,h.2.1,λp hp q a=>h.2.2 _ (Alx.2 ⟨p,hp,rfl⟩) _ (Alx.2 ⟨q,a,rfl⟩)⟩
theorem uN{σ τ:Al}(h:(σ.map (·.1)).Nodup)(a:List.Sublist τ σ):(τ.map (·.1)).Nodup:=h.sublist (a.map _)
theorem Mb.arr{T:Nat}{b:Id}{L:List OS}{n:Nat}(h:Mb T (some b) L n):b.1<n/\(∀p∈Do L,p.1≠b)/\(∀p∈Do L,p.1.1<n)/\((Do L).map (·.1)).Nodup:=by have c:((Do L).map (·.1)).Nodup/\∀p∈Do L,p.1≠b:=AjA (a:=(b,.arr T 3 (L.map osV))) h.nd;exact⟨h.lt (b,.arr T 3 (L.map osV)) (by simp[EV]),c.2,λp hp=>h.lt p (by simp[EV,hp]),c.1⟩
theorem Mb.add{T:Nat}{g:Option Id}{L:List OS}{n n':Nat}{id:Id}(h:Mb T g L n)(o:n<=id.1)(c:id.1<n')(k:Int)(i:Aa):Mb T (some id) (L++[(⟨k,i,[]⟩,none)]) n':=by
 have f:Do (L++[(⟨k,i,[]⟩,none)])=Do L:=by rw[Mq];simp[Do,osE]
 have a:∀p∈Do L,p∈Zr T g L:=λp hp=>Awv _ hp;have e:((Do L).map (·.1)).Nodup:=uN h.nd (Axv _ _);refine⟨?_,?_,(by simp),?_⟩
 ·rw[EV,f];refine Qf e λp hp m=>?_;have:=h.lt p (a p hp);grind
 ·rw[EV,f];intro p hp;rcases AqN.1 hp with rfl|hp
  ·exact c
  ·have:=h.lt p (a p hp);omega
 ·intro x b j;rcases Ajn.1 b with b|b
  ·exact h.kn x b j
  ·simp at b;rw[b]
theorem Mb.key{T:Nat}{b:Id}{A B:List OS}{x:OS}{n n':Nat}{id:Id}(h:Mb T (some b) (A++x::B) n)(w:n<=id.1)(o:id.1<n')(s:EU):Mb T (some b) (A++(s,some id)::B) n':=by
 obtain⟨u,j,k,g⟩:=h.arr;have m:Do (A++x::B)=Do A++(osE x++Do B):=by rw[Mq,Oy]
 have c:Do (A++(s,some id)::B)=Do A++((id,.arr 9 1 (s.keys.map V.s))::Do B):=by rw[Mq,Oy];rfl
 rw[m] at j k g;have i:∀p∈Do A++Do B,p.1≠b/\p.1.1<n:=by
  intro p hp;have:p∈Do A++(osE x++Do B):=by grind
  grind
 have f:((Do A++Do B).map (·.1)).Nodup:=uN g ((List.Sublist.refl _).append (Axv _ _));obtain⟨r,t,C⟩:=TV f;refine⟨?_,?_,(by simp),?_⟩
 ·rw[EV,c];refine Qf (Aif r (Qf t λp hp v=>?_) λp hp q z=>?_) λp hp=>?_
  ·grind
  ·grind
  grind
 ·rw[EV,c];intro p hp;rcases AqN.1 hp with rfl|hp
  ·simp only;omega
  grind
 ·intro y a e;rcases Ajn.1 a with a|a
  ·exact h.kn y (AtS _ a) e
  ·rcases AqN.1 a with rfl|a
   ·cases e
   ·exact h.kn y (Awv _ (AaC _ a)) e
theorem Eq{σi σo pre:Al}(a:∀p∈pre,∀q∈σi,p.1≠q.1):over σi σo (pre++σi)=σo++pre:=by have:=H5 (σi:=σi) (σo:=σo) (pre:=pre) (post:=[]) a (by simp);simpa using this
end Go.Ir
namespace Go.Proofs
open Go.Shelf
def Tryz.lays103_ren:Go.Shelf.Ren:=⟨fun|103=>135|210=>188|206=>243|n=>n,fun|9=>9|4=>4|24=>250|3=>3|n=>n,fun|n=>n⟩
theorem Tryz.lays103:Go.Proofs.Lays.n103 Tryz.prog Tryz.lays103_ren:=by constructor;all_goals intros;kernel_rfl
def Tryz.lays219_ren:Go.Shelf.Ren:=⟨fun|219=>244|217=>288|225=>289|224=>290|267=>291|266=>319|314=>320|n=>n,fun|9=>9|3=>3|4=>4|5=>5|46=>237|146=>358|51=>280|n=>n,fun|1=>0|n=>n⟩
theorem Tryz.lays219:Go.Proofs.Lays.n219 Tryz.prog Tryz.lays219_ren:=by constructor;all_goals intros;kernel_rfl
def Tryz.lays160_ren:Go.Shelf.Ren:=⟨fun|160=>190|232=>246|231=>245|227=>247|234=>249|233=>248|236=>251|235=>250|228=>292|271=>294|151=>293|197=>272|120=>322|152=>321|260=>309|137=>252|119=>337|224=>290|225=>289|217=>288|266=>319|n=>n,fun|9=>9|4=>4|3=>3|5=>5|117=>323|116=>322|0=>0|124=>326|21=>21|105=>344|46=>237|119=>380|139=>383|138=>382|n=>n,fun|3=>1|4=>2|n=>n⟩
theorem Tryz.lays160:Go.Proofs.Lays.n160 Tryz.prog Tryz.lays160_ren:=by constructor;all_goals intros;kernel_rfl
def Tryz.lays162_ren:Go.Shelf.Ren:=⟨fun|162=>339|232=>246|227=>247|234=>249|236=>251|228=>292|271=>294|151=>293|120=>322|197=>272|152=>321|260=>309|137=>252|119=>337|224=>290|225=>289|217=>288|266=>319|n=>n,fun|9=>9|4=>4|3=>3|5=>5|117=>323|116=>322|0=>0|124=>326|21=>21|105=>344|46=>237|119=>380|139=>383|138=>382|n=>n,fun|3=>1|4=>2|n=>n⟩
theorem Tryz.lays162:Go.Proofs.Lays.n162 Tryz.prog Tryz.lays162_ren:=by constructor;all_goals intros;kernel_rfl
def Tryz.lays172_ren:Go.Shelf.Ren:=⟨fun|172=>349|244=>353|245=>354|247=>355|279=>356|280=>357|281=>358|282=>359|287=>360|316=>361|171=>221|205=>362|321=>363|322=>364|243=>282|246=>315|283=>332|284=>333|285=>334|286=>335|129=>179|317=>343|318=>344|319=>345|320=>346|337=>351|338=>352|n=>n,fun|9=>9|3=>3|75=>239|76=>240|4=>4|5=>5|167=>403|37=>96|0=>0|85=>404|2=>2|168=>406|53=>282|175=>409|46=>237|210=>412|127=>158|145=>417|143=>415|21=>21|171=>384|173=>386|212=>397|51=>280|20=>20|213=>398|232=>401|233=>402|80=>123|n=>n,fun|15=>6|16=>7|17=>3|18=>4|19=>5|n=>n⟩
theorem Tryz.lays172:Go.Proofs.Lays.n172 Tryz.prog Tryz.lays172_ren:=by constructor;all_goals intros;kernel_rfl
def Tryz.lays171_ren:Go.Shelf.Ren:=⟨fun|171=>221|243=>282|246=>315|283=>332|284=>333|285=>334|286=>335|129=>179|317=>343|318=>344|319=>345|320=>346|337=>351|338=>352|n=>n,fun|3=>3|9=>9|2=>2|4=>4|171=>384|0=>0|53=>282|37=>96|5=>5|173=>386|212=>397|51=>280|20=>20|213=>398|46=>237|232=>401|233=>402|n=>n,fun|17=>3|18=>4|19=>5|n=>n⟩
theorem Tryz.lays171:Go.Proofs.Lays.n171 Tryz.prog Tryz.lays171_ren:=by constructor;all_goals intros;kernel_rfl
end Go.Proofs
section
namespace Go.Ir
open Go.Proofs Go.RowKit
theorem Hp.below{W0:World}{σ:Al}{n:Nat}{μ:Id->Option Value}{H:Addr->Option Value}{w w':World}(hp:Hp W0 σ n μ H w)(a:Below w.heap.size w w'):Hp W0 σ n μ H w'/\Fr μ H σ w μ H σ w':=by
 have g:AL (λ_=>False) w w':=⟨a.os,a.tape,a.output,a.size,λk b _=>a.block k b⟩
 refine⟨⟨hp.base_turned g (λ_ h=>h.elim),hp.pins_turned g (λ_ h=>h.elim),λid e f=>?_,hp.unp,hp.sep,hp.bd⟩,⟨λ_ _ h=>h,λ_ _ h=>h,a.size,λc b _=>a.block c b,λ_ _ _=>rfl,λ_ _ h=>h⟩⟩;exact(hp.ents id e f).keep (λ_ _ h=>h) (λ_ _ h=>h) (λc b=>a.block c ((hp.ents id e f).block b).2)
theorem AN{P:Program}{W0:World}{f:FuncId}{args:List V}{v:V}(g:callable P f=true)
  (h:∀w vals,Below W0.heap.size W0 w->(∃μ H,VRels μ H args vals)->Calls P f vals.toArray w λe w'=>∃val,e=.returned val/\(∀μ H,Ap μ H v val)/\Below w.heap.size w w'):An P W0 f args [] v [] where
 callable:=g
 dom id h:=h
 run n w μ H vals hp hv:=by refine(h w vals hp.base ⟨μ,H,hv⟩).mono λe w' ⟨val,i,j,c⟩=>?_;obtain⟨a,b⟩:=hp.below c;exact⟨val,μ,H,n,i,j μ H,a,Abm _,b,λ_ _ h=>h⟩
theorem Below.drewN_{B:Nat}{a w:World}(h:Below B a w)(n:Nat):Below B a (w.drewN n):=⟨h.os,h.tape,h.output,h.size,h.block⟩
theorem VRels.one_s{μ:Id->Option Value}{H:Addr->Option Value}{l:Aa}{vals:List Value}(h:VRels μ H [.s l] vals):vals=[.string ⟨l.toArray⟩]/\l.length<=AA:=by
 obtain⟨v,a,b⟩:=h.get (k:=0) rfl;have:=h.len
 match vals,this,a with
 | [x],_,a=>
  simp at a;subst a;cases b with
  | s l c=>exact⟨rfl,c⟩
theorem VRels.two{μ:Id->Option Value}{H:Addr->Option Value}{a b:V}{vals:List Value}(h:VRels μ H [a,b] vals):∃x y,vals=[x,y]/\Ap μ H a x/\Ap μ H b y:=by
 have:=h.len
 match vals,this with
 | [x,y],_=>exact⟨x,y,rfl,h.at_ 0 _ _ rfl rfl,h.at_ 1 _ _ rfl rfl⟩
variable(W0:World)
theorem BB{l:Aa}{μ:Id->Option Value}{H:Addr->Option Value}{x:Value}(h:Ap μ H (.s l) x):x=.string ⟨l.toArray⟩/\l.length<=AA:=by
 cases h with
 | s l a=>exact⟨rfl,a⟩
theorem SJ{a b:V}{x y:Value}(f:∀μ H,Ap μ H a x)(g:∀μ H,Ap μ H b y):∀μ H,Ap μ H (.tup [a,b]) (.tuple #[x,y]):=
 λμ H=>Ap.tup [a,b] [x,y] rfl λk c v e h=>by
  match k with
  | 0=>grind
  | 1=>grind
  | k+2=>simp at e
theorem SL(s cs:Aa):(Lib.trimRightS s cs).length<=s.length:=by unfold Lib.trimRightS;rw[AxJ];exact All (Aw9 _).length_le (by simp)
theorem Abb(s cs:Aa):(Lib.trimS s cs).length<=s.length:=by unfold Lib.trimS Lib.trimLeftS;exact All (Aw9 _).length_le (SL s cs)
theorem Eu(s p:Aa):An Tryz.prog W0 135 [.s s,.s p] [] (.tup [.s (Lib.trimPrefix s p),.b (Lib.hasPrefix s p)]) []:=by refine AN (by kernel_rfl) λw vals i ⟨μ,H,c⟩=>?_;obtain⟨x,y,rfl,g,h⟩:=c.two;obtain⟨rfl,j⟩:=BB g;obtain⟨rfl,_⟩:=BB h;refine(Any.strings_CutPrefix Tryz.lays103 ⟨s.toArray⟩ ⟨p.toArray⟩ w).mono λe w' ⟨a,f⟩=>?_;subst f;refine⟨_,a,SJ (λ_ _=>.s _ ?_) (λ_ _=>.b _),Auw _ _⟩;unfold Lib.trimPrefix;grind
theorem MI(s:Aa)(c:UInt8):An Tryz.prog W0 244 [.s s,.s [c]] [] (.i .i64 (Lib.indexByte s c)) []:=by refine AN (by kernel_rfl) λw vals j ⟨μ,H,b⟩=>?_;obtain⟨x,y,rfl,g,h⟩:=b.two;obtain⟨rfl,k⟩:=BB g;obtain⟨rfl,_⟩:=BB h;refine(Any.stringslite_Index_one Tryz.lays219 ⟨s.toArray⟩ c w).mono λe w' ⟨a,f⟩=>?_;subst f;exact⟨_,a,λ_ _=>.i _ _,Auw _ _⟩
theorem TR(s cs:Aa)(a:cs.length<4294967281)(f:∀b∈cs,b.toNat<128):An Tryz.prog W0 190 [.s s,.s cs] [] (.s (Lib.trimS s cs)) []:=by refine AN (by kernel_rfl) λw vals p ⟨μ,H,i⟩=>?_;obtain⟨x,y,rfl,m,o⟩:=i.two;obtain⟨rfl,c⟩:=BB m;obtain⟨rfl,_⟩:=BB o;refine(Any.strings_Trim_laid Tryz.lays160 (by kernel_rfl) ⟨s.toArray⟩ ⟨cs.toArray⟩ w (by show s.toArray.size<=_;unfold AA at c;simp;omega) (by simpa[ByteArray.size] using a) (λj b h=>f b (Aln h))).mono λe w' ⟨g,k⟩=>?_;exact⟨_,g,λ_ _=>.s _ (All (Abb s cs) c),k⟩
theorem AcG(s cs:Aa)(a:cs.length<4294967281)(f:∀b∈cs,b.toNat<128):An Tryz.prog W0 339 [.s s,.s cs] [] (.s (Lib.trimRightS s cs)) []:=by refine AN (by kernel_rfl) λw vals p ⟨μ,H,i⟩=>?_;obtain⟨x,y,rfl,m,o⟩:=i.two;obtain⟨rfl,c⟩:=BB m;obtain⟨rfl,_⟩:=BB o;refine(Any.strings_TrimRight_laid Tryz.lays162 (by kernel_rfl) ⟨s.toArray⟩ ⟨cs.toArray⟩ w (by show s.toArray.size<=_;unfold AA at c;simp;omega) (by simpa[ByteArray.size] using a) (λj b h=>f b (Aln h))).mono λe w' ⟨g,k⟩=>?_;exact⟨_,g,λ_ _=>.s _ (All (SL s cs) c),k⟩
theorem AiP(s:Aa)(n:Int)(c:s.length<=18)(b:Lib.atoi s=some n):An Tryz.prog W0 349 [.s s] [] (.tup [.i .i64 n,.ni]) []:=by refine AN (by kernel_rfl) λw vals h ⟨μ,H,f⟩=>?_;obtain⟨rfl,j⟩:=f.one_s;refine(Any.strconv_Atoi Tryz.lays172 ⟨s.toArray⟩ n (by simpa[ByteArray.size] using c) b w).mono λe w' ⟨a,t,g⟩=>?_;refine⟨_,a,SJ (λ_ _=>.i _ _) (λ_ _=>.ni),?_⟩;rw[g];exact Lib.bytesWorld_below _ _ _
theorem AgI(i:Nat)(f:i<100):An Tryz.prog W0 221 [.i .i64 i] [] (.s (Lib.decDigits i)) []:=by
 refine AN (by kernel_rfl) λw vals j ⟨μ,H,b⟩=>?_;have a:=b.len;obtain⟨x,rfl⟩:∃x,vals=[x]:=by
  match vals,a with
  | [x],_=>exact⟨x,rfl⟩
 have h:=b.at_ 0 _ _ rfl rfl;cases h;refine(Any.strconv_Itoa_small Tryz.lays171 i f w).mono λe w' ⟨c,g⟩=>?_;subst g;refine⟨_,c,λ_ _=>.s _ ?_,Auw _ _⟩;unfold AA;unfold Lib.decDigits;split
 ·simp
 ·unfold Lib.decDigits;grind
end Go.Ir
end
namespace Go.Ir
open Go.Proofs
variable{P:Program}{W0:World}{nt n:Nat}{Q:Exit→St→Prop}{env:AE}{σ:Al}
def eR:IC:=oS [mC 4 (.s []),mC 5 (.s []),mC 6 (.b false)] [0,1] (oR [m1 7 0,m1 8 1,q2 9 189 7 8,xT 10 9 0,xT 11 9 1,xT 12 9 2,m1 4 10,m1 5 11,m1 6 12] [4,5,6])
@[push_cast]def Apd:List R:=[.t 4,.t 5,.t 6]
@[push_cast]def Avy:=AM eR.eq_1
theorem AiZ:Au Tryz.prog 136 13 eR Apd=true:=by kernel_rfl
def kA:IC:=sQ (.ops [m1 13 0,m1 14 7,o1 15 (.slS (.t 13) none (some (.t 14))),m1 16 0,m1 17 7,m1 18 1,nS 19 18,bT 20 .add 17 19,o1 21 (.slS (.t 16) (some (.t 20)) none),m1 4 15,m1 5 21,mC 6 (.b true)] [4,5,6] [[0,2],[1,2],[5,6],[4,7],[6,7],[3,8],[7,8],[2,9],[8,10]]) .ret
def fV:IC:=sQ (oS [m1 8 0,m1 9 1,q2 10 244 8 9,m1 7 10] [0,1,7] (oS [m1 11 7,bZ 12 .geq 11 0] [0,1,7,12] (cD 12 kA .skip))) (oR [m1 22 0,m1 4 22,mC 5 (.s []),mC 6 (.b false)] [4,5,6])
def dH:IC:=oS [mC 4 (.s []),mC 5 (.s []),mC 6 (.b false)] [0,1] fV
@[push_cast]def AnH:List R:=[.t 4,.t 5,.t 6]
@[push_cast]def Avt:=Ar kA.eq_1<|Ar fV.eq_1<|AM dH.eq_1
theorem lZ:Au Tryz.prog 189 23 dH AnH=true:=by kernel_rfl
def sX:IC:=oS [mC 2 (.b false)] [0] (oR [m1 3 0,o1 4 (.call 190 [.t 3,.c (.s [48,49,50,51,52,53,54,55,56,57])]),bC 5 .eql 4 (.s []),m1 2 5] [2])
@[push_cast]def Amn:List R:=[.t 2]
@[push_cast]def Au2:=AM sX.eq_1
theorem Aid:Au Tryz.prog 137 6 sX Amn=true:=by kernel_rfl
def xA:IC:=oS [mC 2 (.b false)] [0] (oR [m1 3 0,o1 4 (.call 190 [.t 3,.c (.s [48])]),bC 5 .eql 4 (.s []),m1 2 5] [2])
@[push_cast]def AnR:List R:=[.t 2]
@[push_cast]def Au3:=AM xA.eq_1
theorem Ai2:Au Tryz.prog 191 6 xA AnR=true:=by kernel_rfl
def uQ:IC:=oS [bX 1 0,mC 2 (.b false)] [1] (oR [fA 3 1 1,l1 4 3,q1 5 191 4,m1 6 5,Ft 7 6 1 2,EQ 8 6 7,gT 9 6 (.call 191 [.t 8]),pA 10 6 9,m1 2 10] [2])
@[push_cast]def AqO:List R:=[.t 2]
@[push_cast]def AuS:=AM uQ.eq_1
theorem eU:Au Tryz.prog 138 11 uQ AqO=true:=by kernel_rfl
def mW:IC:=oS [m1 51 8,m1 52 51,BL 53 52 7,gT 54 52 (.lenS (.t 53)),Fz 55 52 .eql 54 0,pA 56 52 55,m1 57 56,BI 58 57 7,gF 59 57 (.lenS (.t 58)),EI 60 57 .gtr 59 6,pO 61 57 60,m1 62 61,BI 63 62 7,gF 64 62 (.call 137 [.t 63]),gF 65 62 (.not (.t 64)),pO 66 62 65,m1 50 66] [2,5,9,50] (cD 50 (oR [lA 67 9 3,sT 2 67 3,mC 3 (.b false)] [2,3]) .skip)
def oQ:IC:=sQ (.ops [lA 68 9 3,m1 69 5,nT 70 69,m1 71 70,gF 72 71 (.load (.t 9) 3 true),gF 73 71 (.call 138 [.t 72]),gF 74 71 (.not (.t 73)),pO 75 71 74,sT 2 68 3,m1 3 75] [2,3] [[1,2],[2,3],[3,4],[3,5],[4,5],[3,6],[5,6],[3,7],[6,7],[0,8],[4,5,8],[7,9]]) .ret
def Aey:IC:=sQ (.block 0 (oS [m1 26 6,nS 27 26,bZ 28 .lss 27 1,m1 29 28,BI 30 29 6,gF 31 29 (.lenS (.t 30)),EI 32 29 .gtr 31 15,pO 33 29 32,m1 34 33,BI 35 34 6,gF 36 34 (.call 137 [.t 35]),gF 37 34 (.not (.t 36)),pO 38 34 37,m1 39 38,BI 40 39 6,gF 41 39 (.lenS (.t 40)),EI 42 39 .gtr 41 1,BI 43 39 42,BL 44 43 6,gT 45 43 (.idx (.t 44) (ci 0)),gT 46 43 (.bin .eql (.t 45) (.c (.i .u8 48))),gF 47 39 (.pick (.t 43) (.t 46) (.c (.b false))),pO 48 39 47,m1 25 48] [2,5,7,8,9,25] (cD 25 (oR [lA 49 9 3,sT 2 49 3,mC 3 (.b false)] [2,3]) mW))) oQ
def AeN:IC:=oS [m1 21 5,m1 22 6,m1 23 7,o1 24 (.build [.b false,.s [],.s []] [(0,1,.t 21),(1,1,.t 22),(2,1,.t 23)]),o1 9 (.alloc (.agg [.b false,.s [],.s []])),sT 9 24 3] [2,5,6,7,8,9] Aey
def Aew:IC:=oS [m1 11 0,o1 12 (.call 135 [.t 11,.c (.s [45])]),m1 10 12,xT 13 10 0,xT 14 10 1,m1 4 13,m1 5 14] [2,4,5] (oS [m1 16 4,o1 17 (.call 136 [.t 16,.c (.s [46])]),m1 15 17,xT 18 15 0,xT 19 15 1,xT 20 15 2,m1 6 18,m1 7 19,m1 8 20] [2,5,6,7,8] AeN)
def AdM:IC:=oS [o1 2 (.alloc (.agg [.b false,.s [],.s []])),mC 3 (.b false)] [0,2] Aew
@[push_cast]def Asw:List R:=[.c 2 3 true,.t 3]
@[push_cast]def Awk:=Ar mW.eq_1<|Ar oQ.eq_1<|Ar Aey.eq_1<|Ar AeN.eq_1<|Ar Aew.eq_1<|AM AdM.eq_1
theorem AdC:Au Tryz.prog 98 76 AdM Asw=true:=by kernel_rfl
def Ado:IC:=oS [mC 2 (.b false)] [0] (oS [m1 6 0,q1 7 98 6,m1 5 7,xT 8 5 0,xT 9 5 1,o1 3 (.alloc (.agg [.b false,.s [],.s []])),sT 3 8 3,m1 4 9] [4] (oR [m1 10 4,m1 2 10] [2]))
@[push_cast]def At6:List R:=[.t 2]
@[push_cast]def AwU:=AM Ado.eq_1
theorem AoL:Au Tryz.prog 67 11 Ado At6=true:=by kernel_rfl
def jT:IC:=oS [mZ 2 0] [0] (oS [m1 6 0,o1 7 (.bin .add (.c (.s [48])) (.t 6)),q1 8 349 7,m1 5 8,xT 9 5 0,xT 10 5 1,m1 3 9,m1 4 10] [3] (oR [m1 11 3,m1 2 11] [2]))
@[push_cast]def Apx:List R:=[.t 2]
@[push_cast]def AuF:=AM jT.eq_1
theorem Ahj:Au Tryz.prog 340 12 jT Apx=true:=by kernel_rfl
def VX:IC:=sQ (oS [m1 22 8,bC 23 .neq 22 (.s [])] [6,23] (cD 23 (oR [mZ 4 0,mZ 5 8] [4,5]) .skip)) (oR [fA 24 6 1,l1 25 24,q1 26 340 25,m1 4 26,mZ 5 0] [4,5])
def Xq:IC:=cD 41 (oR [fA 43 6 2,l1 44 43,q1 45 340 44,m1 4 45,mZ 5 0] [4,5]) (oS [bZ 47 .eql 19 6,m1 46 47] [8,46] (cD 46 (oR [m1 48 8,q1 49 340 48,m1 4 49,mZ 5 0] [4,5]) .skip))
def W1:IC:=cD 32 (oR [fA 34 6 2,l1 35 34,nS 36 35,m1 4 36,mZ 5 0] [4,5]) (oS [bZ 38 .eql 19 4,m1 37 38] [6,8,19,37] (cD 37 (oR [m1 39 8,nS 40 39,m1 4 40,mZ 5 0] [4,5]) (oS [bZ 42 .eql 19 5,m1 41 42] [6,8,19,41] Xq)))
def Ws:IC:=cD 20 VX (oS [bZ 28 .eql 19 2,m1 27 28] [6,8,19,27] (cD 27 (oR [fA 29 6 1,l1 30 29,q1 31 340 30,m1 4 31,mZ 5 0] [4,5]) (oS [bZ 33 .eql 19 3,m1 32 33] [6,8,19,32] W1)))
def Xu:IC:=oS [fA 16 6 2,l1 17 16,o1 18 (.call 339 [.t 17,.c (.s [48])]),m1 8 18] [1,6,8] (sQ (oS [m1 19 1] [6,8,19] (.block 0 (oS [bZ 21 .eql 19 1,m1 20 21] [6,8,19,20] Ws))) (oR [mZ 4 0,mZ 5 1] [4,5]))
def gR:IC:=oS [m1 10 0,q1 11 98 10,m1 9 11,xT 12 9 0,xT 13 9 1,o1 6 (.alloc (.agg [.b false,.s [],.s []])),sT 6 12 3,m1 7 13] [1,6,7] (sQ (oS [m1 14 7,nT 15 14] [1,6,15] (cD 15 (oR [mZ 4 0,mZ 5 1] [4,5]) .skip)) Xu)
def cR:IC:=oS [mZ 4 0,mZ 5 0] [0,1] gR
@[push_cast]def AnN:List R:=[.t 4,.t 5]
@[push_cast]def Aur:=Ar VX.eq_1<|Ar Xq.eq_1<|Ar W1.eq_1<|Ar Ws.eq_1<|Ar Xu.eq_1<|Ar gR.eq_1<|AM cR.eq_1
theorem kQ:Au Tryz.prog 327 50 cR AnN=true:=by kernel_rfl
end Go.Ir

namespace Go.Ir
open Go.Proofs
variable(W0:World)
theorem AkH(w r:Aa)(h:∀x∈w,(x !=46)=true)(f:∀x∈r.head?,(x !=46)=false)(e:w.length<=2^40):An Tryz.prog W0 189 [.s (w++r),.s [46]] [] (.tup [.s w,.s r.tail,.b (!r.isEmpty)]) []:=by
 cases r with
 | nil=>
  refine Ah (vs:=[.s w,.s [],.b false]) lZ (by simp) (by simp) λn0 a=>?_;clear a;simp only[push_cast,seval,reduceEqDiff];have _h:=trivial;repeat' (first|(first|((first|apply Ab|apply Ag|apply Af)<;>intro _h)|refine Ac (MI W0 _ _) ?_)<;>(simp only[push_cast,seval,reduceEqDiff,_h,vR h];try (have _g:=_h;simp at _g))|intro _)
  all_goals (first|(refine Ai ?_;simp[get]<;>(intros;omega);done)|(refine Ae ?_;simp[push_cast,get];done)|skip)
 | cons c t=>
  have:c=46:=by simp_all
  subst this;refine Ah (vs:=[.s w,.s t,.b true]) lZ (by simp) (by simp) λn0 a=>?_;clear a;simp only[push_cast,seval,reduceEqDiff];have _h:=trivial;repeat' (first|(first|((first|apply Ab|apply Ag|apply Af)<;>intro _h)|refine Ac (MI W0 _ _) ?_)<;>(simp only[push_cast,seval,reduceEqDiff,_h,Ac9 h,Ad (46:UInt8) (done:=w) (by omega)];try (have _g:=_h;simp at _g))|intro _)
  all_goals (first|(refine Ai ?_;simp[get]<;>(intros;omega);done)|(refine Ae ?_;simp[push_cast,get];done)|skip)
theorem Aqm(w r:Aa)(h:∀x∈w,(x !=46)=true)(e:∀x∈r.head?,(x !=46)=false)(c:w.length<=2^40):An Tryz.prog W0 136 [.s (w++r),.s [46]] [] (.tup [.s w,.s r.tail,.b (!r.isEmpty)]) []:=by
 refine Ah (vs:=[.s w,.s r.tail,.b (!r.isEmpty)]) AiZ (by simp) (by simp) λn0 a=>?_;clear a;simp only[push_cast,seval,reduceEqDiff];have _h:=trivial;repeat' (first|(first|((first|apply Ab|apply Ag|apply Af)<;>intro _h)|refine Ac (AkH W0 w r h e c) ?_)<;>(simp only[push_cast,seval,reduceEqDiff,_h];try (have _g:=_h;simp at _g))|intro _)
 all_goals (first|(refine Ai ?_;simp[get]<;>(intros;omega);done)|(refine Ae ?_;simp[push_cast,get];done)|skip)
theorem JZ(s:Aa):An Tryz.prog W0 137 [.s s] [] (.b (Cl s)) []:=by
 refine Ah (vs:=[.b (Cl s)]) Aid (by simp) (by simp) λn0 a=>?_;clear a;simp only[push_cast,seval,reduceEqDiff];have _h:=trivial;repeat' (first|(first|((first|apply Ab|apply Ag|apply Af)<;>intro _h)|refine Ac (TR W0 _ _ (by decide) (by decide)) ?_)<;>(simp only[push_cast,seval,reduceEqDiff,_h,PG];try (have _g:=_h;simp at _g))|intro _)
 all_goals (first|(refine Ai ?_;simp[get]<;>(intros;omega);done)|(refine Ae ?_;simp[push_cast,get];done)|skip)
theorem kR(s:Aa):An Tryz.prog W0 191 [.s s] [] (.b (DP s)) []:=by
 refine Ah (vs:=[.b (DP s)]) Ai2 (by simp) (by simp) λn0 a=>?_;clear a;simp only[push_cast,seval,reduceEqDiff];have _h:=trivial;repeat' (first|(first|((first|apply Ab|apply Ag|apply Af)<;>intro _h)|refine Ac (TR W0 _ _ (by decide) (by decide)) ?_)<;>(simp only[push_cast,seval,reduceEqDiff,_h,Um];try (have _g:=_h;simp at _g))|intro _)
 all_goals (first|(refine Ai ?_;simp[get]<;>(intros;omega);done)|(refine Ae ?_;simp[push_cast,get];done)|skip)
def K8(s:Aa):V:=.agg [.b (JI s),.s (AO s),.s (Bn s)]
theorem Yy(s:Aa):An Tryz.prog W0 138 [K8 s] [] (.b (DP (AO s)&&DP (Bn s))) []:=by
 unfold K8;refine Ah (vs:=[.b (DP (AO s)&&DP (Bn s))]) eU (by simp) (by simp) λn0 a=>?_;clear a;simp only[push_cast,seval,reduceEqDiff];have _h:=trivial;repeat' (first|(first|((first|apply Ab|apply Ag|apply Af)<;>intro _h)|refine Ac (kR W0 _) ?_)<;>(simp only[push_cast,seval,reduceEqDiff,_h];try (have _g:=_h;simp at _g))|intro _)
 all_goals (first|(refine Ai ?_;simp[get, *]<;>(intros;omega);done)|(refine Ae ?_;simp[push_cast,get, *];done)|skip)
theorem Tl(s:Aa)(a:s.length<=2^40):An Tryz.prog W0 136 [.s (HC s),.s [46]] [] (.tup [.s (AO s),.s (Bn s),.b (!(Pq s).isEmpty)]) []:=by have:=Kx s;rw[Jy];exact Aqm W0 _ _ (NI _) (kY s) (by omega)
theorem L0(s:Aa)(f:s.length<=2^40):An Tryz.prog W0 98 [.s s] [] (.tup [K8 s,.b (DF s)]) []:=by
 generalize hS:DF s=S;unfold DF at hS;rcases hW:(AO s)[0]? with _|c
 ·have e:(AO s).length=0:=by simpa using hW
  rw[e] at hS;subst hS;refine Ah (vs:=[K8 s,.b _]) AdC (by simp) (by simp) λn0 a=>?_;clear a;simp only[push_cast,seval,reduceEqDiff];have _h:=trivial;repeat' (first|(first|((first|apply Ab|apply Ag|apply Af)<;>intro _h)|refine Ac ((Eu W0 s [45])) ?_|refine Ac (Tl W0 s f) ?_|refine Ac (JZ W0 (AO s)) ?_|refine Ac (JZ W0 (Bn s)) ?_|refine Ac (Yy W0 s) ?_)<;>(simp only[push_cast,seval,reduceEqDiff,_h,Ej,Fl,e];try (have _g:=_h;simp at _g))|intro _)
  all_goals (first|(refine Ai ?_;simp[get,K8]<;>(intros;omega);done)|(refine Ae ?_;simp[push_cast,get,K8];done)|skip)
 ·have g:vL (AO s)=((c.toNat:Int)==48):=by simp[vL,hW]
  rw[g] at hS;subst hS;refine Ah (vs:=[K8 s,.b _]) AdC (by simp) (by simp) λn0 a=>?_;clear a;simp only[push_cast,seval,reduceEqDiff];have _h:=trivial;repeat' (first|(first|((first|apply Ab|apply Ag|apply Af)<;>intro _h)|refine Ac ((Eu W0 s [45])) ?_|refine Ac (Tl W0 s f) ?_|refine Ac (JZ W0 (AO s)) ?_|refine Ac (JZ W0 (Bn s)) ?_|refine Ac (Yy W0 s) ?_)<;>(simp only[push_cast,seval,reduceEqDiff,_h,Ej,Fl,hW];try (have _g:=_h;simp at _g))|intro _)
  all_goals (first|(refine Ai ?_;simp[get,K8, *]<;>(intros;omega);done)|(refine Ae ?_;simp[push_cast,get,K8, *];done)|skip)
theorem HG(s:Aa)(c:s.length<=2^40):An Tryz.prog W0 67 [.s s] [] (.b (DF s)) []:=by
 have:=L0 W0 s c;unfold K8 at this;refine Ah (vs:=[.b (DF s)]) AoL (by simp) (by simp) λn0 a=>?_;clear a;simp only[push_cast,seval,reduceEqDiff];have _h:=trivial;repeat' (first|(first|((first|apply Ab|apply Ag|apply Af)<;>intro _h)|refine Ac this ?_)<;>(simp only[push_cast,seval,reduceEqDiff,_h];try (have _g:=_h;simp at _g))|intro _)
 all_goals (first|(refine Ai ?_;simp[get]<;>(intros;omega);done)|(refine Ae ?_;simp[push_cast,get];done)|skip)
theorem Pp(s:Aa)(h:Cl s=true)(e:s.length<=15):An Tryz.prog W0 340 [.s s] [] (.i .i64 (Mt 0 s)) []:=by
 have c:=AiP W0 (48::s) _ (by simp;omega) (gM s h);have b:1+s.length<=AA:=by unfold AA;omega
 refine Ah (vs:=[.i .i64 (Mt 0 s)]) Ahj (by simp) (by simp) λn0 a=>?_;clear a;simp only[push_cast,seval,reduceEqDiff,b];have _h:=trivial;repeat' (first|(first|((first|apply Ab|apply Ag|apply Af)<;>intro _h)|refine Ac c ?_)<;>(simp only[push_cast,seval,reduceEqDiff,_h,b];try (have _g:=_h;simp at _g))|intro _)
 all_goals (first|(refine Ai ?_;simp[get]<;>(intros;omega);done)|(refine Ae ?_;simp[push_cast,get];done)|skip)
theorem AnM(s:Aa)(g:Int)(k:s.length<=2^40):An Tryz.prog W0 327 [.s s,.i .i64 g] [] (.tup [.i .i64 (yF s g).1,.i .i64 (yF s g).2]) []:=by
 have c:=L0 W0 s k;have e:=AcG W0 (Bn s) [48] (by decide) (by decide);unfold K8 at c;rw[show Lib.trimRightS (Bn s) [48]=J2 (Bn s) from rfl] at e;by_cases a:DF s=true
 ·obtain⟨h,f,j,m⟩:=GQ a;have o:=gB (Bn s);have p:=Pp W0 (AO s) h j;have v2:=Pp W0 (Bn s) f (by omega);have v3:=Pp W0 (J2 (Bn s)) (PM f) (by omega);generalize hS:yF s g=S;unfold yF at hS;refine Ah (vs:=[.i .i64 S.1,.i .i64 S.2]) kQ (by simp) (by simp) λn0 b=>?_;clear b;simp only[push_cast,seval,reduceEqDiff,a];have _h:=trivial;repeat' (first|(first|((first|apply Ab|apply Ag|apply Af)<;>intro _h)|refine Ac c ?_|refine Ac e ?_|refine Ac p ?_|refine Ac v2 ?_|refine Ac v3 ?_)<;>(simp only[push_cast,seval,reduceEqDiff,_h,a];try (have _g:=_h;simp at _g))|intro _)
  all_goals subst hS
  all_goals (first|(refine Ai ?_;simp[get, *]<;>(intros;omega);done)|(refine Ae ?_;simp[push_cast,get, *];done)|skip)
 ·generalize hS:yF s g=S;unfold yF at hS;rw[if_neg a] at hS;subst hS;rw[Bool.not_eq_true] at a;refine Ah (vs:=[.i .i64 0,.i .i64 1]) kQ (by simp) (by simp) λn0 b=>?_;clear b;simp only[push_cast,seval,reduceEqDiff,a];have _h:=trivial;repeat' (first|(first|((first|apply Ab|apply Ag|apply Af)<;>intro _h)|refine Ac c ?_|refine Ac e ?_)<;>(simp only[push_cast,seval,reduceEqDiff,_h,a];try (have _g:=_h;simp at _g))|intro _)
  all_goals (first|(refine Ai ?_;simp[get, *]<;>(intros;omega);done)|(refine Ae ?_;simp[push_cast,get, *];done)|skip)

end Go.Ir

namespace Go.Ir
open Go.Proofs
variable{P:Program}{W0:World}{nt n:Nat}{Q:Exit→St→Prop}{env:AE}{σ:Al}
def oF:IC:=.ops [o1 33 (.msl true 9 1 []),m1 34 1,o1 35 (.app (.t 33) (.t 34) 9 1),fA 36 6 2,⟨some 37,.load (.t 36) 1 false,none,[.t 33]⟩,o1 38 (.msl false 9 1 [.t 37]),o1 39 (.app (.t 35) (.t 38) 9 1),m1 1 39] [0,1,5,6] [[0,2],[1,2],[3,4],[4,5],[2,6],[4,5,6],[5,6],[1,7],[6,7]]
def kJ:IC:=sQ (.block 3 (oP [fA 51 6 4,l1 52 51,m1 53 7,iA 54 52 53 118 2,fA 55 54 1,l1 56 55,m1 57 1,q2 58 22 56 57,m1 1 58] [0,1,5,6,7])) (oP [m1 49 7,bZ 50 .add 49 1,m1 7 50] [0,1,5,6,7])
def pK:IC:=sQ (.wk (oP [fA 40 6 5,l1 41 40,m1 42 1,q2 43 22 41 42,m1 1 43] [0,1,5,6])) (oS [mZ 7 0] [0,1,5,6,7] (.block 2 (.loop (sQ (oS [m1 44 7,fA 45 6 4,l1 46 45,nL 47 46,bT 48 .lss 44 47] [0,1,5,6,7,48] (cD 48 .skip (.exit 2))) kJ))))
def wH:IC:=sQ (oS [fA 18 6 0,l1 19 18,bZ 20 .geq 19 2,m1 21 20,Ft 22 21 6 0,EQ 23 21 22,Fz 24 21 .leq 23 9,pA 25 21 24,m1 26 25,BL 27 26 1,Ft 28 26 6 2,EQ 29 26 28,gT 30 26 (.call 21 [.t 27,.t 29]),gT 31 26 (.not (.t 30)),pA 32 26 31] [0,1,5,6,32] (cD 32 oF .skip)) pK
def sY:IC:=sQ (.block 1 (oS [m1 14 0,m1 15 5,iA 16 14 15 116 6,lA 17 16 6,o1 6 (.alloc (.agg [.i .i64 0,.s [],.s [],.s [],.nil,.nil])),sT 6 17 6] [0,1,5,6] wH)) (oP [m1 12 5,bZ 13 .add 12 1,m1 5 13] [0,1,5])
def AeC:IC:=sQ (oS [mZ 5 0] [0,1,5] (.block 0 (.loop (sQ (oS [m1 8 5,m1 9 0,nL 10 9,bT 11 .lss 8 10] [0,1,5,11] (cD 11 .skip (.exit 0))) sY)))) (oR [m1 59 1,m1 4 59] [4])
def Ad4:IC:=oS [mC 4 .nil] [0,1] AeC
@[push_cast]def Atz:List R:=[.t 4]
@[push_cast]def AwT:=Ar oF.eq_1<|Ar kJ.eq_1<|Ar pK.eq_1<|Ar wH.eq_1<|Ar sY.eq_1<|Ar AeC.eq_1<|AM Ad4.eq_1
theorem Aqa:Au Tryz.prog 22 60 Ad4 Atz=true:=by kernel_rfl
def UW:IC:=oR [m1 16 1,q1 17 242 16,m1 18 17,BI 19 18 6,BI 20 18 19,BL 21 20 5,gT 22 20 (.call 67 [.t 21]),gF 23 18 (.pick (.t 20) (.t 22) (.c (.b false))),pO 24 18 23,m1 4 24] [4]
def cQ:IC:=sQ (oS [m1 7 0,bZ 8 .eql 7 9] [1,8] (cD 8 (oR [m1 9 1,q1 10 62 9,m1 4 10] [4]) .skip)) (oS [m1 12 1,o1 13 (.call 135 [.t 12,.c (.s [61])]),m1 11 13,xT 14 11 0,xT 15 11 1,m1 5 14,m1 6 15] [1,5,6] UW)
def m7:IC:=oS [mC 4 (.b false)] [0,1] cQ
@[push_cast]def Aqf:List R:=[.t 4]
@[push_cast]def AvC:=Ar UW.eq_1<|Ar cQ.eq_1<|AM m7.eq_1
theorem Tm:Au Tryz.prog 185 25 m7 Aqf=true:=by kernel_rfl
def Vv:IC:=oS [bZ 21 .eql 9 7,m1 18 21] [1,3,4,9,18] (cD 18 .skip (oS [bZ 22 .eql 9 8,m1 18 22] [1,3,4,9,18] (cD 18 .skip (oP [bZ 23 .eql 9 9,m1 18 23] [1,3,4,9,18]))))
def X1:IC:=oP [fA 35 1 3,l1 36 35,bC 37 .eql 36 (.s []),m1 38 37,ER 39 38 1 3,E8 40 38 39,gF 41 38 (.bin .eql (.t 40) (.c (.s [105,110,116,101,103,101,114]))),pO 42 38 41,m1 43 42,ER 44 43 1 3,E8 45 43 44,gF 46 43 (.bin .eql (.t 45) (.c (.s [112,101,114,99,101,110,116]))),pO 47 43 46,m1 4 47] [1,3,4]
def Xo:IC:=sQ (.ops [fA 29 1 2,l1 30 29,fA 31 1 3,l1 32 31,fA 33 3 2,⟨none,.store (.t 33) (.t 30) 1,none,[.t 31]⟩,fA 34 3 3,sT 34 32 1] [1,3] [[0,1],[2,3],[1,5],[4,5],[1,7],[3,7],[5,7],[6,7]]) X1
def Xy:IC:=sQ (.ops [fA 51 1 2,l1 52 51,fA 53 1 3,l1 54 53,fA 55 3 2,⟨none,.store (.t 55) (.t 52) 1,none,[.t 53]⟩,fA 56 3 3,sT 56 54 1] [1,3] [[0,1],[2,3],[1,5],[4,5],[1,7],[3,7],[5,7],[6,7]]) (oP [fA 57 1 3,l1 58 57,q1 59 62 58,m1 4 59] [1,3,4])
def VG:IC:=sQ (.ops [fA 62 1 2,l1 63 62,fA 64 1 3,l1 65 64,fA 66 3 2,⟨none,.store (.t 66) (.t 63) 1,none,[.t 64]⟩,fA 67 3 3,sT 67 65 1] [1,3] [[0,1],[2,3],[1,5],[4,5],[1,7],[3,7],[5,7],[6,7]]) (oP [fA 68 1 3,l1 69 68,q1 70 184 69,m1 4 70] [1,3,4])
def Yk:IC:=oS [bZ 61 .eql 9 5,m1 60 61] [1,3,4,9,60] (cD 60 VG (oS [bZ 72 .eql 9 10,m1 71 72] [1,3,4,71] (cD 71 .skip (oP [mC 4 (.b false)] [1,3,4]))))
def V8:IC:=oS [bZ 28 .eql 9 3,m1 27 28] [1,3,4,9,27] (cD 27 Xo (sQ (oS [bZ 49 .eql 9 4,m1 48 49] [1,3,4,9,48] (cD 48 .skip (oP [bZ 50 .eql 9 6,m1 48 50] [1,3,4,9,48]))) (cD 48 Xy Yk)))
def WU:IC:=sQ (oS [bZ 19 .eql 9 2,m1 18 19] [1,3,4,9,18] (cD 18 .skip (oS [bZ 20 .eql 9 11,m1 18 20] [1,3,4,9,18] (cD 18 .skip Vv)))) (cD 18 (oP [fA 24 1 2,l1 25 24,fA 26 3 2,sT 26 25 1] [1,3,4]) V8)
def lS:IC:=.block 0 (oS [bZ 11 .eql 9 1,m1 10 11] [1,3,4,9,10] (cD 10 (oS [fA 12 1 1,l1 13 12,fA 14 3 1,sT 14 13 1] [1,3] (oP [fA 15 1 1,l1 16 15,bC 17 .neq 16 (.s []),m1 4 17] [1,3,4])) WU))
def VC:IC:=oR [m1 92 4,m1 93 92,Ft 94 93 1 1,EQ 95 93 94,Ft 96 93 3 1,EQ 97 93 96,gT 98 93 (.bin .eql (.t 95) (.t 97)),pA 99 93 98,m1 100 99,Ft 101 100 1 2,EQ 102 100 101,Ft 103 100 3 2,EQ 104 100 103,gT 105 100 (.bin .eql (.t 102) (.t 104)),pA 106 100 105,m1 107 106,Ft 108 107 1 3,EQ 109 107 108,Ft 110 107 3 3,EQ 111 107 110,gT 112 107 (.bin .eql (.t 109) (.t 111)),pA 113 107 112,m1 114 113,Ft 115 114 1 4,EQ 116 114 115,gT 117 114 (.lenL (.t 116)),Fz 118 114 .eql 117 0,BL 119 114 118,ER 120 119 1 0,E8 121 119 120,gF 122 119 (.call 79 [.t 121]),gT 123 114 (.pick (.t 119) (.c (.b true)) (.t 122)),pA 124 114 123,m1 125 124,Ft 126 125 1 5,EQ 127 125 126,gT 128 125 (.lenL (.t 127)),Fz 129 125 .eql 128 0,BL 130 125 129,ER 131 130 1 0,E8 132 130 131,EI 133 130 .eql 132 11,gT 134 125 (.pick (.t 130) (.c (.b true)) (.t 133)),pA 135 125 134,m1 2 135] [2]
def Xh:IC:=sQ (oS [fA 73 3 2,l1 74 73,bC 75 .neq 74 (.s []),m1 76 75,ER 77 76 1 0,E8 78 76 77,EI 79 76 .neq 78 1,BI 80 76 79,Ft 81 80 1 0,EQ 82 80 81,Fz 83 80 .neq 82 10,gF 84 76 (.pick (.t 80) (.t 83) (.c (.b false))),pO 85 76 84] [1,3,4,85] (cD 85 (oP [m1 86 4,m1 87 86,Ft 88 87 1 2,EQ 89 87 88,gT 90 87 (.call 62 [.t 89]),pA 91 87 90,m1 4 91] [1,3,4]) .skip)) VC
def eO:IC:=oS [fA 5 1 0,l1 6 5,o1 7 (.build [.i .i64 0,.s [],.s [],.s [],.nil,.nil] [(0,1,.t 6)]),o1 3 (.alloc (.agg [.i .i64 0,.s [],.s [],.s [],.nil,.nil])),sT 3 7 6] [1,3] (oS [mC 4 (.b true)] [1,3,4] (sQ (oS [fA 8 1 0,l1 9 8] [1,3,4,9] lS) Xh))
def gS:IC:=oS [bX 1 0,mC 2 (.b false)] [1] eO
@[push_cast]def AoG:List R:=[.t 2]
@[push_cast]def Aul:=Ar Vv.eq_1<|Ar X1.eq_1<|Ar Xo.eq_1<|Ar Xy.eq_1<|Ar VG.eq_1<|Ar Yk.eq_1<|Ar V8.eq_1<|Ar WU.eq_1<|Ar lS.eq_1<|Ar VC.eq_1<|Ar Xh.eq_1<|Ar eO.eq_1<|AM gS.eq_1
theorem EE:Au Tryz.prog 131 136 gS AoG=true:=by kernel_rfl
end Go.Ir

namespace Go.Ir
open Go.Proofs
variable(W0:World)
def Aa2:Aa->Bool
 | []=>false
 | c::t=>(c.toNat:Int)==61&&DF t
def Lx(a:Int)(s:Aa):Bool:=if a==9 then BN s else KC s||Aa2 s
theorem Rj:DF []=false:=by decide
theorem AhO(e:Int)(s:Aa)(o:s.length<=2^30):An Tryz.prog W0 185 [.i .i64 e,.s s] [] (.b (Lx e s)) []:=by
 generalize hS:Lx e s=S;unfold Lx at hS;have g:=CR W0 s (by unfold AA;omega);have h:=nH W0 s;have f:=Eu W0 s [61];cases s with
 | nil=>
  have j:=HG W0 [] (by simp);refine Ah (vs:=[.b S]) Tm (by simp) (by simp) λn0 a=>?_;clear a;simp only[push_cast,seval,reduceEqDiff];have _h:=trivial;repeat' (first|(first|((first|apply Ab|apply Ag|apply Af)<;>intro _h)|refine Ac g ?_|refine Ac h ?_|refine Ac f ?_|refine Ac j ?_)<;>(simp only[push_cast,seval,reduceEqDiff,_h];try (have _g:=_h;simp at _g))|intro _)
  all_goals subst hS
  all_goals (first|(refine Ai ?_;simp[get,Aa2,Rj, *]<;>(intros;omega);done)|(refine Ae ?_;simp[push_cast,get,Aa2,Rj, *];done)|skip)
 | cons c t=>
  have hp:Lib.hasPrefix (c::t) [61]=((c.toNat:Int)==61):=by unfold Lib.hasPrefix;simp only[List.isPrefixOf,Auy];rw[Atk];simp[<-AxH];omega
  have m:Lib.trimPrefix (c::t) [61]=if((c.toNat:Int)==61)=true then t else c::t:=by unfold Lib.trimPrefix;rw[hp];rfl
  rw[hp,m] at f;generalize BN (c::t)=N at g hS;generalize KC (c::t)=C at h hS;rw[Aa2] at hS;have j:=HG W0 t (by simp at o;omega);rcases AuE ((c.toNat:Int)==61) with k|k
  all_goals (rw[k] at f hS;simp only[if_true,AtA,AvE,AcY,if_false] at f hS)
  ·skip;refine Ah (vs:=[.b S]) Tm (by simp) (by simp) λn0 a=>?_;clear a;simp only[push_cast,seval,reduceEqDiff];have _h:=trivial;repeat' (first|(first|((first|apply Ab|apply Ag|apply Af)<;>intro _h)|refine Ac g ?_|refine Ac h ?_|refine Ac f ?_|refine Ac j ?_)<;>(simp only[push_cast,seval,reduceEqDiff,_h];try (have _g:=_h;simp at _g))|intro _)
   all_goals subst hS
   all_goals (first|(refine Ai ?_;simp[get, *]<;>(intros;omega);done)|(refine Ae ?_;simp[push_cast,get, *];done)|skip)
  ·skip;refine Ah (vs:=[.b S]) Tm (by simp) (by simp) λn0 a=>?_;clear a;simp only[push_cast,seval,reduceEqDiff];have _h:=trivial;repeat' (first|(first|((first|apply Ab|apply Ag|apply Af)<;>intro _h)|refine Ac g ?_|refine Ac h ?_|refine Ac f ?_)<;>(simp only[push_cast,seval,reduceEqDiff,_h];try (have _g:=_h;simp at _g))|intro _)
   all_goals subst hS
   all_goals (first|(refine Ai ?_;simp[get, *]<;>(intros;omega);done)|(refine Ae ?_;simp[push_cast,get, *];done)|skip)
def wT(p:Aj):Aa:=if p.kind==1 then p.text else[]
def wN(p:Aj):Aa:=if p.kind==1 then[] else if p.kind==10 then[] else if p.kind==2 then p.name else if p.kind==3||p.kind==4||p.kind==5||p.kind==6 then p.name else[]
def wS(p:Aj):Aa:=if p.kind==1 then[] else if p.kind==10 then[] else if p.kind==2 then[] else if p.kind==3||p.kind==4||p.kind==5||p.kind==6 then p.style else[]
def U6(p:Aj)(c:Bool):Bool:=
 if p.kind==1 then !(p.text==[]) else if p.kind==10 then c else if p.kind==2 then BN p.name
 else if p.kind==3||p.kind==4||p.kind==5||p.kind==6 then BN p.name&&(if p.kind==3 then p.style==[]||p.style==[105,110,116,101,103,101,114]||p.style==[112,101,114,99,101,110,116] else if p.kind==5 then ET p.style else BN p.style)
 else false
def KB(p:Aj)(c:Bool):Bool:=U6 p c&&((p.cases.length:Int)==0)&&((p.parts.length:Int)==0)&&(p.text==wT p)&&(p.name==wN p)&&(p.style==wS p)
end Go.Ir
section
namespace Go.Ir
open Go.Proofs
variable(W0:World)
theorem Ak.frz{W0:World}{nt n n':Nat}{env env':AE}{σ:Al}{id:Id}{e sz:Nat}{es:List V}(j:lk σ id=none)(p:∀y∈es,y.ok=true)
  (b:∀s,get env' s=get env s\/(get env s=.arr id/\get env' s=.sl es))(g:n<=n'):Ak W0 nt ⟨env,(id,.arr e sz es)::σ,n⟩ ⟨env',σ,n'⟩:=by
 refine Ak.weak (λi=>if i=id then some es else none) (λi es' h=>?_) (λs=>?_) (λi e' h=>?_) g
 ·split at h
  ·rename_i o;subst o;cases h;exact⟨⟨e,sz,by simp[lk]⟩,j⟩
  ·cases h
 ·rcases b s with h|⟨f,a⟩
  ·rw[h];exact .refl _
  ·rw[f,a];refine .arr id es es (by simp) rfl (λk c m f a=>?_) (λk c m f a=>?_)
   ·rw[f] at a;cases a;exact .refl _
   grind
 ·refine⟨e',C3 j i e' h,.refl _⟩
theorem Ak.frzAt{W0:World}{nt n n' s:Nat}{env:AE}{σ:Al}{id:Id}{e sz:Nat}{es:List V}(f:get env s=.arr id)(c:lk σ id=none)(b:∀y∈es,y.ok=true)(a:n<=n') :
  Ak W0 nt ⟨env,(id,.arr e sz es)::σ,n⟩ ⟨(s,.sl es)::env,σ,n'⟩:=by
 refine Ak.frz c b (λt=>?_) a;by_cases h:s=t
 ·subst h;exact .inr ⟨f,by simp[get]⟩
 ·exact .inl (by simp[get,h])
theorem Ak.nilS{W0:World}{nt n n':Nat}{env env':AE}{σ:Al}(a:∀s,get env' s=get env s\/(get env s=.nil/\get env' s=.sl []))(b:n<=n'):Ak W0 nt ⟨env,σ,n⟩ ⟨env',σ,n'⟩:=by
 refine Ak.weak (λ_=>none) (λ_ _ h=>by cases h) (λs=>?_) (λi e' h=>⟨e',h,.refl _⟩) b;rcases a s with h|⟨c,e⟩
 ·rw[h];exact .refl _
 ·rw[c,e];exact .nil
theorem Ak.envD{W0:World}{nt n n':Nat}{env env':AE}{σ:Al}(a:∀s,get env' s=get env s\/get env' s=.any)(b:n<=n'):Ak W0 nt ⟨env,σ,n⟩ ⟨env',σ,n'⟩:=by
 refine Ak.weak (λ_=>none) (λ_ _ h=>by cases h) (λs=>?_) (λi e' h=>⟨e',h,.refl _⟩) b;rcases a s with h|h
 ·rw[h];exact .refl _
 ·rw[h];exact .any _
def KE(k:Int)(n:Aa)(l:List Aa):List Aa:=if decide (k>=2)&&decide (k<=9)&&!l.contains n then l++[n] else l
mutual
def Aj.names:Aj->List Aa->List Aa
 | ⟨k,_,n,_,cs,ps⟩,l=>Dk cs (Bu ps (KE k n l))
def Bu:List Aj->List Aa->List Aa
 | [],l=>l
 | p::ps,l=>Bu ps (p.names l)
def Dk:List (Aa×List Aj)->List Aa->List Aa
 | [],l=>l
 | (_,ps)::cs,l=>Dk cs (Bu ps l)
end
theorem Aj.names_eq(p:Aj)(l:List Aa):p.names l=Dk p.cases (Bu p.parts (KE p.kind p.name l)):=by cases p;simp only[Aj.names]
theorem G6(p:Aj)(ps:List Aj)(l:List Aa):Bu (p::ps) l=Bu ps (p.names l):=by simp only[Bu]
theorem GB(c:AJ)(cs:List AJ)(l:List Aa):Dk (c::cs) l=Dk cs (Bu c.2 l):=by obtain⟨k,q⟩:=c;simp only[Dk]
theorem R7(k:Int)(n:Aa)(l:List Aa):(KE k n l).length<=l.length+1:=by unfold KE;split<;>simp
theorem KM:∀(N:Nat) (ps:List Aj),AU ps<N->∀l,(Bu ps l).length<=l.length+AU ps:=by
 intro N
 induction N with
 | zero=>intro ps h;omega
 | succ N e=>
  have b:∀cs:List AJ,DG cs<N->∀l,(Dk cs l).length<=l.length+DG cs:=by
   intro cs
   induction cs with
   | nil=>intro _ l;simp[Dk]
   | cons c cs a=>intro h l;rw[B6] at h;rw[GB,B6];grind
  intro ps
  induction ps with
  | nil=>intro _ l;simp[Bu]
  | cons p ps a=>intro h l;rw[Bk] at h;rw[G6,Bk];have i:=a (by omega) (p.names l);rw[p.wt_eq] at *;rw[p.names_eq] at *;have f:=e p.parts (by omega) (KE p.kind p.name l);have g:=b p.cases (by omega) (Bu p.parts (KE p.kind p.name l));have j:=R7 p.kind p.name l;omega
theorem tN:∀(N:Nat) (ps:List Aj) (l:List Aa) (v:V),AU ps<N->AU ps<=2^24->l.length+AU ps<=2^25->(v=.nil/\l=[]\/v=.sl (l.map V.s))->
  An Tryz.prog W0 22 [.sl (ps.map Aj.enc),v] [] (.sl ((Bu ps l).map V.s)) []:=by
 intro N
 induction N with
 | zero=>intro ps l v h;omega
 | succ N J=>
 intro ps l v X Y e H;have G:=Ez ps;generalize hS:Bu ps l=S;refine Ah (vs:=[.sl (S.map V.s)]) Aqa (by simp) (by simp) λn0 F=>?_;clear F;simp only[push_cast,seval,reduceEqDiff];intro k1 k2;refine Am ps.length (Inv:=λm st=>∃done b n k,ps=done++b/\m=b.length/\Bu b k=S/\k.length+AU b<=2^25/\st=⟨[(0,.sl (ps.map Aj.enc)),(1,.sl (k.map V.s)),(5,.i .i64 done.length)],[],n⟩) ⟨_,?_,[],ps,n0+1+k1+1+k2,l,rfl,rfl,hS,e,rfl⟩ ?_
 ·rcases H with⟨rfl,rfl⟩|rfl
  ·refine Ak.nilS (λs=>?_) (Abm _);simp only[get];grind
  ·exact Ak.refl
 clear hS e H l;rintro m _ ⟨done,b,n,l,o,rfl,j,e,rfl⟩;cases b with
 | nil=>
  rw[Bu] at j;subst j;simp only[push_cast,seval,reduceEqDiff,o]
  repeat' (first|(((first|apply Ab|apply Ag|apply Af)<;>intro _h)<;>(simp only[push_cast,seval,reduceEqDiff,_h];try (have _g:=_h;simp at _g)))|intro _)
  all_goals (first|(refine Ai ?_;simp[get]<;>(intros;omega);done)|(refine Ae ?_;simp[push_cast,get];done)|skip)
 | cons p b=>
  have L:=AH o;have T:=Fq (ps:=ps) (p:=p) (by rw[o];simp);rw[Bk] at e;rw[p.wt_eq] at T e;rw[G6,p.names_eq] at j;have z:=Anf W0 l p.name (by omega);have e0:l.length+1<=AK:=by unfold AK;omega
  have u:l.length<=AK:=by unfold AK;omega
  have D:∀y∈List.map V.s l,(cells y).length=1:=by intro y C;obtain⟨x,_,rfl⟩:=Alx.1 C;rfl
  have K:(List.map V.s l).length=l.length:=by simp
  simp only[push_cast,seval,reduceEqDiff,o,Ad p (done:=done) (by omega),eq_true e0,eq_true u,eq_true D];intro k3;have _h:=trivial;repeat' (first|(first|((first|apply Ab|apply Ag|apply Af)<;>intro _h)|refine Ac z ?_)<;>(simp only[push_cast,seval,reduceEqDiff,_h,o,Ad p (done:=done) (by omega),eq_true e0,eq_true u,eq_true D];try (have _g:=_h;simp at _g))|intro _)
  all_goals
   obtain⟨t,q,A⟩:∃t,KE p.kind p.name l=t/\t.length<=l.length+1:=⟨_,rfl,R7 _ _ _⟩;rw[q] at j
   first
   | (have f:KE p.kind p.name l=l++[p.name]:=by unfold KE;rw[if_pos (by simp[*])]
      refine Ha (Ak.frz (env':=[(0,.sl (List.map Aj.enc (done++p::b))),(1,.sl ((l++[p.name]).map V.s)),(5,.i .i64 done.length),(6,.ref (n+1+k3,6) 0)]) (by simp[lk]) (λy C=>by simp at C;rcases C with⟨a,_,rfl⟩|rfl<;>rfl) (λs=>?_) (Abm _)) ?_
      ·simp only[get];grind
      rw[<-f,q])
   | (have f:KE p.kind p.name l=l:=by unfold KE;rw[if_neg (by simp[*])]
      refine Ha (Ak.envD (env':=[(0,.sl (List.map Aj.enc (done++p::b))),(1,.sl (l.map V.s)),(5,.i .i64 done.length),(6,.ref (n+1+k3,6) 0)]) (λs=>?_) (Abm _)) ?_
      ·simp only[get];grind
      rw[show List.map V.s l=List.map V.s t by rw[<-q,f]])
  all_goals clear q
  all_goals
   clear f D K e0 u z;have hp:=J p.parts t (.sl (t.map V.s)) (by omega) (by omega) (by omega) (.inr rfl);have B:=KM _ p.parts (Ab3 _) t;generalize Bu p.parts t=W at hp j B;have R:=Ep p.cases
  all_goals simp only[push_cast,seval,reduceEqDiff]
  have _h:=trivial;repeat' (first|(first|((first|apply Ab|apply Ag|apply Af)<;>intro _h)|refine Ac hp ?_)<;>(simp only[push_cast,seval,reduceEqDiff,_h,o,Ad p (done:=done) (by omega)];try (have _g:=_h;simp at _g))|intro _)
  all_goals
   refine Am p.cases.length (Inv:=λm st=>∃w r n' k,p.cases=w++r/\m=r.length/\Bu b (Dk r k)=S/\k.length+DG r+AU b<=2^25/\st=⟨[(0,.sl (ps.map Aj.enc)),(1,.sl (k.map V.s)),(5,.i .i64 done.length),(6,.ref (n+1+k3,6) 0),(7,.i .i64 w.length)],[((n+1+k3,6),.box p.v)],n'⟩) ⟨_,Ak.refl,[],p.cases,_,W,rfl,rfl,j,by omega,by rw[o];rfl⟩ ?_;clear j hp B A e;rintro m _ ⟨w,r,n',k,g,rfl,j,e,rfl⟩;unfold Aj.v;cases r with
   | nil=>rw[Dk] at j;rw[Rp] at e;simp only[push_cast,seval,reduceEqDiff,o,Ad p (done:=done) (by omega),g];intros;exact⟨_,_,Ab3 _,Ak.drop1 rfl (Abm _),done++[p],b,_,k,by simp,rfl,j,by omega,rfl⟩
   | cons c r=>
    have U:=Cm (cs:=p.cases) (c:=c) (by simp[g]);have M:=AH g;rw[GB] at j;rw[B6] at e;have E:=J c.2 k (.sl (k.map V.s)) (by omega) (by omega) (by omega) (.inr rfl);have O:=KM _ c.2 (Ab3 _) k;simp only[push_cast,seval,reduceEqDiff,o,g,Ad c (done:=w) (by omega)];have _h:=trivial;repeat' (first|(first|((first|apply Ab|apply Ag|apply Af)<;>intro _h)|refine Ac E ?_)<;>(simp only[push_cast,seval,reduceEqDiff,_h,o,g,Ad c (done:=w) (by omega)];try (have _g:=_h;simp at _g))|intro _)
    exact⟨_,_,Ab3 _,Ak.refl,w++[c],r,_,_,by simp[g],rfl,j,by omega,rfl⟩
end Go.Ir
end
section
namespace Go.Ir
open Go.Proofs
variable(W0:World)
def CT:Aa:=[111,116,104,101,114]
def LF(d:Int)(a t st:Aa)(q c:Int):Bool:=!(decide (d>8)||!BN a||!(t==[])||!(st==[])||decide (q>0)||decide (c<1)||decide (c>20))
def Qi(d:Int)(a t st:Aa)(c:Int):Bool:=!(decide (d>8)||!BN a||!(t==[])||!(st==[])||decide (c>0))
mutual
def Aj.formedB:Aj->Int->Bool->Bool
 | ⟨k,t,a,st,cs,ps⟩,d,c=>
  if k==11 then Qi d a t st cs.length&&Bz ps (d+1) c false
  else if Bf k then LF d a t st ps.length cs.length&&Cg cs k d c []
  else KB ⟨k,t,a,st,cs,ps⟩ c
def Bz:List Aj->Int->Bool->Bool->Bool
 | [],_,_,_=>true
 | p::ps,d,c,a=>!(p.kind==1&&a)&&(p.formedB d c&&Bz ps d c (p.kind==1))
def Cg:List (Aa×List Aj)->Int->Int->Bool->List Aa->Bool
 | [],_,_,_,a=>a.contains CT
 | (key,ps)::cs,k,d,c,a=>!(!Lx k key||a.contains key)&&(Bz ps (d+1) (c||AfU k) false&&Cg cs k d c (a++[key]))
end
theorem Aj.formedB_eq(p:Aj)(d:Int)(c:Bool):p.formedB d c=(if p.kind==11 then Qi d p.name p.text p.style p.cases.length&&Bz p.parts (d+1) c false else if Bf p.kind then LF d p.name p.text p.style p.parts.length p.cases.length&&Cg p.cases p.kind d c [] else KB p c):=by cases p;simp only[Aj.formedB]
theorem Dg(p:Aj)(ps:List Aj)(d:Int)(c a:Bool):Bz (p::ps) d c a=(!(p.kind==1&&a)&&(p.formedB d c&&Bz ps d c (p.kind==1))):=by simp only[Bz]
theorem Eo(x:AJ)(cs:List AJ)(k d:Int)(c:Bool)(e:List Aa):Cg (x::cs) k d c e=(!(!Lx k x.1||e.contains x.1)&&(Bz x.2 (d+1) (c||AfU k) false&&Cg cs k d c (e++[x.1]))):=by obtain⟨a,b⟩:=x;simp only[Cg]
def Oh(done:List Aj):Bool:=match done.getLast? with
 | some q=>q.kind==1
 | none=>false
end Go.Ir
end
namespace Go.Ir
open Go.Proofs
variable(W0:World)
def Io(a:List De):Int:=(a.map λr=>1+(r.spans.length:Int)).sum
theorem Xz(a:List De):0<=Io a:=by
 induction a with
 | nil=>simp[Io]
 | cons r a b=>simp[Io] at *;omega
theorem Aa5(a:List De):Io a<CK a:=by
 induction a with
 | nil=>simp[Io,CK]
 | cons r a b=>simp[Io,CK,De.wt] at *;omega
theorem aG(r:De)(a:List De):Io (r::a)=(1+(r.spans.length:Int))+Io a:=by simp[Io]
def tG(d:Int):List (List De)->Bool
 | []=>true
 | l::c=>!(decide (d+Io l>80))&&tG (d+Io l) c
def G7(c:List (List De)):Bool:=tG 0 c&&decide ((c.length:Int)<=30)
theorem Ahq(c:List (List De))(F:Dq c<=2^24):An Tryz.prog W0 53 [.sl (c.map Fj)] [] (.b (G7 c)) []:=by
 generalize hS:G7 c=S;refine Ah (vs:=[.b S]) AlV (by simp) (by simp) λn0 q=>?_;clear q;simp only[push_cast,seval,reduceEqDiff];intros;have u:=IP c;refine Am c.length (Inv:=λm st=>∃done a n d,c=done++a/\m=a.length/\(tG d a&&decide ((c.length:Int)<=30))=S/\0<=d/\d<=80/\st=⟨[(0,.sl (c.map Fj)),(3,.i .i64 d),(4,.i .i64 done.length)],[],n⟩) ⟨_,Ak.refl,[],c,_,0,rfl,rfl,hS,by omega,by omega,rfl⟩ ?_;clear hS;rintro m _ ⟨done,a,n,d,g,rfl,k,o,A,rfl⟩;cases a with
 | nil=>
  subst k;simp only[push_cast,seval,reduceEqDiff,g]
  repeat' (first|(((first|apply Ab|apply Ag|apply Af)<;>intro _h)<;>(simp only[push_cast,seval,reduceEqDiff,_h];try (have _g:=_h;simp at _g)))|intro _)
  all_goals (refine Ai ?_;simp[get,tG,g])
 | cons p a=>
  have x:=AH g;have G:=II (l:=c) (r:=p) (by rw[g];simp);have C:=EZ p;have D:=Xz p;have E:=Aa5 p;rw[tG] at k;simp only[push_cast,seval,reduceEqDiff,g,Ad p (done:=done) (by omega)];intros;refine Am p.length (Inv:=λm st=>∃j h n e,p=j++h/\m=h.length/\e+Io h=d+Io p/\0<=e/\st=⟨[(0,.sl (c.map Fj)),(3,.i .i64 e),(4,.i .i64 done.length),(5,.i .i64 j.length)],[],n⟩) ⟨_,Ak.refl,[],p,_,_,rfl,rfl,rfl,o,by rw[g];rfl⟩ ?_;rintro m _ ⟨j,h,n,e,f,rfl,t,B,rfl⟩;cases h with
  | nil=>
   have:e=d+Io p:=by simp[Io] at t⊢;omega
   subst this;simp only[push_cast,seval,reduceEqDiff,g,Ad p (done:=done) (by omega),f]
   repeat' (first|(((first|apply Ab|apply Ag|apply Af)<;>intro _h)<;>(simp only[push_cast,seval,reduceEqDiff,_h,g,Ad p (done:=done) (by omega)];try (have _g:=_h;simp at _g)))|intro _)
   all_goals (simp only[Ary] at f;subst f)
   ·refine Ai ?_;subst k;simp[get, *]
   ·exact⟨_,_,Ab3 _,Ak.refl,done++[p],a,_,d+Io p,by simp,rfl,by rw[<-k];simp[*],by omega,by omega,rfl⟩
  | cons r h=>have z:=AH f;have s:=IG (l:=p) (r:=r) (by simp[f]);rw[De.wt] at s;rw[aG] at t;have y:=Xz h;have v:IntKind.i64.wrap (1+(r.spans.length:Int))=1+(r.spans.length:Int):=wrap64 (by omega) (by omega);have w:IntKind.i64.wrap (e+(1+(r.spans.length:Int)))=e+(1+(r.spans.length:Int)):=wrap64 (by omega) (by omega);simp only[push_cast,seval,reduceEqDiff,g,f,Ad r (done:=j) (by omega),v,w];intros;exact⟨_,_,Ab3 _,Ak.refl,j++[r],h,_,e+(1+(r.spans.length:Int)),by simp,rfl,by rw[<-f];omega,by omega,rfl⟩
end Go.Ir

namespace Go.Ir
open Go.Proofs
variable{P:Program}{W0:World}{nt n:Nat}{Q:Exit→St→Prop}{env:AE}{σ:Al}
def X0:IC:=sQ (oS [bZ 13 .eql 5 5,m1 12 13] [1,5,12] (cD 12 .skip (oP [bZ 14 .eql 5 6,m1 12 14] [1,12]))) (cD 12 (oR [m1 15 1,bZ 16 .eql 15 10,m1 17 16,BI 18 17 1,EI 19 17 .eql 18 100,pO 20 17 19,m1 4 20] [4]) .skip)
def pJ:IC:=.block 0 (sQ (oS [bZ 7 .eql 5 1,m1 6 7] [1,5,6] (cD 6 .skip (oP [bZ 8 .eql 5 2,m1 6 8] [1,5,6]))) (cD 6 (oR [o1 9 (.msl false 3 1 [ci 2,ci 3,ci 4,ci 5,ci 6,ci 10,ci 20,ci 25,ci 50,ci 100]),m1 10 1,q2 11 325 9 10,m1 4 11] [4]) X0))
def kE:IC:=oS [mC 4 (.b false)] [0,1] (sQ (oS [m1 5 0] [1,5] pJ) (oR [mC 4 (.b false)] [4]))
@[push_cast]def AmZ:List R:=[.t 4]
@[push_cast]def Au1:=Ar X0.eq_1<|Ar pJ.eq_1<|AM kE.eq_1
theorem Aia:Au Tryz.prog 300 21 kE AmZ=true:=by kernel_rfl
def fH:IC:=oS [mZ 2 0] [0] (sQ (oS [m1 3 0,bZ 4 .eql 3 3,m1 5 4,BI 6 5 0,EI 7 5 .eql 6 4,pO 8 5 7] [8] (cD 8 (oR [mZ 2 6] [2]) .skip)) (oR [mZ 2 100] [2]))
@[push_cast]def AlS:List R:=[.t 2]
@[push_cast]def AuU:=AM fH.eq_1
theorem Ake:Au Tryz.prog 301 9 fH AlS=true:=by kernel_rfl
def VV:IC:=sQ (.ops [fA 45 4 0,l1 46 45,bZ 47 .lss 46 0,m1 48 47,ER 49 48 4 0,E8 50 48 49,ER 51 48 4 1,E8 52 48 51,gF 53 48 (.bin .gtr (.t 50) (.t 52)),pO 54 48 53,m1 55 54,ER 56 55 4 1,E8 57 55 56,ER 58 55 1 0,E8 59 55 58,gF 60 55 (.call 301 [.t 59]),gF 61 55 (.bin .gtr (.t 57) (.t 60)),pO 62 55 61] [1,39,40,41,62] [[0,1],[1,2],[2,3],[3,4],[3,5],[4,5],[3,6],[3,7],[6,7],[3,8],[5,8],[7,8],[3,9],[8,9],[9,10],[10,11],[10,12],[11,12],[10,13],[10,14],[13,14],[10,15],[14,15],[10,16],[12,16],[15,16],[10,17],[16,17]]) (cD 62 (oR [mC 2 (.b false)] [2]) .skip)
def Ye:IC:=sQ (.block 1 (oS [iA 43 39 41 337 2,lA 44 43 2,o1 4 (.alloc (.agg [.i .i64 0,.i .i64 0])),sT 4 44 2] [1,4,39,40,41] VV)) (oP [bZ 63 .add 41 1,m1 41 63] [1,39,40,41])
def wK:IC:=sQ (oS [fA 38 1 3,l1 39 38,nL 40 39,mZ 41 0] [1,39,40,41] (.block 0 (.loop (oS [bT 42 .lss 41 40] [1,39,40,41,42] (sQ (cD 42 .skip (.exit 0)) Ye))))) (oR [mC 2 (.b true)] [2])
def iC:IC:=sQ (oS [fA 5 1 0,l1 6 5,bZ 7 .lss 6 1,m1 8 7,ER 9 8 1 0,E8 10 8 9,EI 11 8 .gtr 10 6,pO 12 8 11,m1 13 12,ER 14 13 1 1,E8 15 13 14,EI 16 13 .neq 15 0,BI 17 13 16,Ft 18 17 1 0,EQ 19 17 18,Ft 20 17 1 1,EQ 21 17 20,gT 22 17 (.call 300 [.t 19,.t 21]),gT 23 17 (.not (.t 22)),gF 24 13 (.pick (.t 17) (.t 23) (.c (.b false))),pO 25 13 24,m1 26 25,ER 27 26 1 3,E8 28 26 27,gF 29 26 (.lenL (.t 28)),EI 30 26 .lss 29 1,pO 31 26 30,m1 32 31,ER 33 32 1 3,E8 34 32 33,gF 35 32 (.lenL (.t 34)),EI 36 32 .gtr 35 4,pO 37 32 36] [1,37] (cD 37 (oR [mC 2 (.b false)] [2]) .skip)) wK
def mF:IC:=oS [bX 1 0,mC 2 (.b false)] [1] iC
@[push_cast]def AnT:List R:=[.t 2]
@[push_cast]def AvF:=Ar VV.eq_1<|Ar Ye.eq_1<|Ar wK.eq_1<|Ar iC.eq_1<|AM mF.eq_1
theorem Akt:Au Tryz.prog 265 64 mF AnT=true:=by kernel_rfl
def fS:IC:=oS [bX 1 0,mC 2 (.b false)] [1] (oR [lA 3 1 4,q1 4 265 3,nT 5 4,m1 2 5] [2])
@[push_cast]def Al1:List R:=[.t 2]
@[push_cast]def Ava:=AM fS.eq_1
theorem Aj6:Au Tryz.prog 264 6 fS Al1=true:=by kernel_rfl
def V6:IC:=sQ (oS [m1 12 5,nL 13 12,bZ 14 .eql 13 0,m1 15 14,BI 16 15 5,gF 17 15 (.calls 263 [.t 16,.c (.fn 264 [] [])]),pO 18 15 17] [0,3,5,6,7,8,18] (cD 18 (oR [mC 2 (.b false)] [2]) .skip)) (oP [m1 19 3,m1 20 5,nL 21 20,bT 22 .add 19 21,m1 3 22] [0,3,6,7,8])
def iK:IC:=oS [bT 9 .lss 8 7] [0,3,6,7,8,9] (sQ (cD 9 .skip (.exit 0)) (sQ (.block 1 (oS [iA 10 6 8 172 1,l1 11 10,m1 5 11] [0,3,5,6,7,8] V6)) (oP [bZ 23 .add 8 1,m1 8 23] [0,3,6,7,8])))
def vZ:IC:=sQ (oS [m1 6 0,nL 7 6,mZ 8 0] [0,3,6,7,8] (.block 0 (.loop iK))) (oR [m1 24 0,nL 25 24,bZ 26 .gtr 25 0,m1 27 26,BL 28 27 3,Fz 29 27 .leq 28 6,pA 30 27 29,m1 2 30] [2])
def jG:IC:=oS [mC 2 (.b false)] [0] (oS [mZ 3 0] [0,3] vZ)
@[push_cast]def AqA:List R:=[.t 2]
@[push_cast]def Avf:=Ar V6.eq_1<|Ar iK.eq_1<|Ar vZ.eq_1<|AM jG.eq_1
theorem Aii:Au Tryz.prog 206 31 jG AqA=true:=by kernel_rfl
def n8:IC:=oR [l1 4 1,fA 5 2 0,l1 6 5,bT 7 .geq 4 6,m1 8 7,EQ 9 8 1,Ft 10 8 2 1,EQ 11 8 10,gT 12 8 (.bin .leq (.t 9) (.t 11)),pA 13 8 12,m1 3 13] [3]
def dI:IC:=oS [bX 2 0,mC 3 (.b false)] [1,2] n8
@[push_cast]def Aoe:List R:=[.t 3]
@[push_cast]def Av1:=Ar n8.eq_1<|AM dI.eq_1
theorem AhP:Au Tryz.prog 342 14 dI Aoe=true:=by kernel_rfl
def mG:IC:=oS [bX 3 1,mC 4 (.b false)] [0,3] (oR [m1 5 0,o1 6 (.mkfn 342 [] [.t 3]),o1 7 (.calls 341 [.t 5,.t 6]),m1 4 7] [4])
@[push_cast]def AmI:List R:=[.t 4]
@[push_cast]def Avp:=AM mG.eq_1
theorem Alb:Au Tryz.prog 328 8 mG AmI=true:=by kernel_rfl
def WP:IC:=sQ (.ops [fA 25 2 3,l1 26 25,m1 27 5,q2 28 328 26 27,fA 29 2 2,l1 30 29,o1 31 (.eqb true (.t 28) (.t 30)),m1 4 31] [4] [[0,1],[1,3],[2,3],[4,5],[3,6],[5,6],[6,7]]) .ret
def jO:IC:=oS [m1 8 1,fA 9 2 0,l1 10 9,q2 11 327 8 10,m1 7 11,xT 12 7 0,xT 13 7 1,m1 5 12,m1 6 13] [2,5,6] (sQ (oS [m1 14 6,bZ 15 .neq 14 0] [2,5,15] (cD 15 (oR [fA 16 2 2,l1 17 16,m1 4 17] [4]) .skip)) (sQ (oS [fA 18 2 1,l1 19 18,bZ 20 .neq 19 0] [2,5,20] (cD 20 (oP [m1 21 5,fA 22 2 1,l1 23 22,bT 24 .rem 21 23,m1 5 24] [2,5]) .skip)) WP))
def dY:IC:=oS [bX 2 0,mC 4 (.b false)] [1,2] jO
@[push_cast]def Anh:List R:=[.t 4]
@[push_cast]def AtY:=Ar WP.eq_1<|Ar jO.eq_1<|AM dY.eq_1
theorem Akw:Au Tryz.prog 305 32 dY Anh=true:=by kernel_rfl
def vJ:IC:=oS [bX 2 0,mC 3 (.b false)] [1,2] (oR [lA 4 2 4,l1 5 1,q2 6 305 4 5,nT 7 6,m1 3 7] [3])
@[push_cast]def Al2:List R:=[.t 3]
@[push_cast]def Au9:=AM vJ.eq_1
theorem AhQ:Au Tryz.prog 304 8 vJ Al2=true:=by kernel_rfl
def kO:IC:=oS [mC 3 (.b false)] [0,1] (oR [m1 4 0,o1 5 (.mkfn 304 [] [.t 1]),o1 6 (.calls 263 [.t 4,.t 5]),nT 7 6,m1 3 7] [3])
@[push_cast]def AnU:List R:=[.t 3]
@[push_cast]def AvA:=AM kO.eq_1
theorem Ak2:Au Tryz.prog 303 8 kO AnU=true:=by kernel_rfl
def oK:IC:=sQ (oS [m1 6 0,q1 7 206 6,nT 8 7,m1 9 8,E8 10 9 3,gF 11 9 (.call 67 [.t 10]),gF 12 9 (.not (.t 11)),pO 13 9 12] [0,3,13] (cD 13 (oR [mC 4 (.b false),mZ 5 1] [4,5]) .skip)) (oR [m1 14 0,o1 15 (.mkfn 303 [] [.t 3]),o1 16 (.calls 302 [.t 14,.t 15]),m1 4 16,mZ 5 0] [4,5])
def rV:IC:=oS [bX 3 1,mC 4 (.b false),mZ 5 0] [0,3] oK
@[push_cast]def AqU:List R:=[.t 4,.t 5]
@[push_cast]def Aug:=Ar oK.eq_1<|AM rV.eq_1
theorem Ak7:Au Tryz.prog 267 17 rV AqU=true:=by kernel_rfl
def cT:IC:=oR [o1 1 (.build [.s [],.s [],.s [],.s [],.s [],.s []] [(0,1,.c (.s [122,101,114,111])),(1,1,.c (.s [111,110,101])),(2,1,.c (.s [116,119,111])),(3,1,.c (.s [102,101,119])),(4,1,.c (.s [109,97,110,121])),(5,1,.c (.s [111,116,104,101,114]))]),sT 0 1 6] [0]
def cY:IC:=oS [o1 0 (.alloc (.agg [.s [],.s [],.s [],.s [],.s [],.s []]))] [0] cT
@[push_cast]def Amf:List R:=[.c 0 6 true]
@[push_cast]def Aue:=Ar cT.eq_1<|AM cY.eq_1
theorem Ahm:Au Tryz.prog 262 2 cY Amf=true:=by kernel_rfl
def pZ:IC:=oS [o1 4 (.call 262 []),o1 3 (.alloc (.agg [.s [],.s [],.s [],.s [],.s [],.s []])),sT 3 4 6] [0,3] (oR [o1 5 (.frz (.t 3) 6),m1 6 0,q2 7 241 5 6,m1 2 7] [2])
def vD:IC:=oS [mC 2 (.b false)] [0] pZ
@[push_cast]def Aof:List R:=[.t 2]
@[push_cast]def AtW:=Ar pZ.eq_1<|AM vD.eq_1
theorem Akk:Au Tryz.prog 205 8 vD Aof=true:=by kernel_rfl
def l9:IC:=oS [bX 2 0,mC 3 (.b false)] [1,2] (oR [fA 4 2 0,l1 5 4,fA 6 1 0,l1 7 6,bT 8 .eql 5 7,m1 3 8] [3])
@[push_cast]def AlI:List R:=[.t 3]
@[push_cast]def Aux:=AM l9.eq_1
theorem Aj0:Au Tryz.prog 208 9 l9 AlI=true:=by kernel_rfl
def UU:IC:=oS [fA 12 4 0,l1 13 12,q1 14 205 13,nT 15 14,m1 16 15,ER 17 16 4 0,E8 18 16 17,gF 19 16 (.bin .eql (.t 18) (.c (.s [111,116,104,101,114]))),pO 20 16 19,m1 21 20,ER 22 21 4 1,E8 23 21 22,gF 24 21 (.call 206 [.t 23]),gF 25 21 (.not (.t 24)),pO 26 21 25,m1 27 26,BI 28 27 0,BI 29 27 3,gF 30 27 (.slL (.t 28) none (some (.t 29)) 2),gF 31 27 (.mkfn 208 [] [.t 4]),gF 32 27 (.calls 207 [.t 30,.t 31]),pO 33 27 32] [0,5,6,7,33] (cD 33 (oR [mC 2 (.b false)] [2]) .skip)
def Wk:IC:=sQ (.block 1 (oS [m1 9 7,iA 10 5 7 139 2,lA 11 10 2,o1 4 (.alloc (.agg [.s [],.nil])),m1 3 9,sT 4 11 2] [0,3,4,5,6,7] UU)) (oP [bZ 34 .add 7 1,m1 7 34] [0,5,6,7])
def nK:IC:=sQ (oS [m1 5 0,nL 6 5,mZ 7 0] [0,5,6,7] (.block 0 (.loop (oS [bT 8 .lss 7 6] [0,5,6,7,8] (sQ (cD 8 .skip (.exit 0)) Wk))))) (oR [mC 2 (.b true)] [2])
def jI:IC:=oS [mC 2 (.b false)] [0] nK
@[push_cast]def Amv:List R:=[.t 2]
@[push_cast]def Auj:=Ar UU.eq_1<|Ar Wk.eq_1<|Ar nK.eq_1<|AM jI.eq_1
theorem AgT:Au Tryz.prog 152 35 jI Amv=true:=by kernel_rfl
def Vz:IC:=cD 42 (oR [m1 45 12,mC 4 (.s []),m1 5 45] [4,5]) (oS [m1 47 11,m1 46 47] [1,10,29,30,31,46] (cD 46 (oR [fA 48 10 0,l1 49 48,m1 4 49,mZ 5 0] [4,5]) .skip))
def WC:IC:=oS [fA 36 10 1,l1 37 36,m1 38 1,q2 39 267 37 38,m1 35 39,xT 40 35 0,xT 41 35 1,m1 11 40,m1 12 41] [1,10,11,12,29,30,31] (.block 2 (oS [m1 43 12,bZ 44 .neq 43 0,m1 42 44] [1,10,11,12,29,30,31,42] Vz))
def WY:IC:=sQ (.block 1 (oS [iA 33 29 31 139 2,lA 34 33 2,o1 10 (.alloc (.agg [.s [],.nil])),sT 10 34 2] [1,10,29,30,31] WC)) (oP [bZ 50 .add 31 1,m1 31 50] [1,29,30,31])
def VJ:IC:=sQ (oS [m1 29 0,nL 30 29,mZ 31 0] [1,29,30,31] (.block 0 (.loop (oS [bT 32 .lss 31 30] [1,29,30,31,32] (sQ (cD 32 .skip (.exit 0)) WY))))) (oR [mC 4 (.s [111,116,104,101,114]),mZ 5 0] [4,5])
def Yr:IC:=sQ (oS [m1 22 6,m1 23 1,q2 24 267 22 23,m1 21 24,xT 25 21 0,xT 26 21 1,m1 7 25,m1 8 26] [0,1,8] (oS [m1 27 8,bZ 28 .neq 27 0] [0,1,28] (cD 28 (oR [mC 4 (.s []),mZ 5 1] [4,5]) .skip))) VJ
def uS:IC:=oS [o1 16 (.build [.i .i64 0,.i .i64 0] []),o1 17 (.msl false 337 2 [.t 16]),o1 18 (.build [.i .i64 0,.i .i64 0,.b false,.nil] [(0,1,ci 2),(2,1,.c (.b true)),(3,1,.t 17)]),o1 19 (.msl false 175 4 [.t 18]),o1 20 (.msl false 172 1 [.t 19]),m1 6 20] [0,1,6] Yr
def jJ:IC:=oS [mC 4 (.s []),mZ 5 0] [0,1] (sQ (oS [m1 13 0,q1 14 152 13,nT 15 14] [0,1,15] (cD 15 (oR [mC 4 (.s []),mZ 5 1] [4,5]) .skip)) uS)
@[push_cast]def ApT:List R:=[.t 4,.t 5]
@[push_cast]def Avh:=Ar Vz.eq_1<|Ar WC.eq_1<|Ar WY.eq_1<|Ar VJ.eq_1<|Ar Yr.eq_1<|Ar uS.eq_1<|AM jJ.eq_1
theorem T3:Au Tryz.prog 210 51 jJ ApT=true:=by kernel_rfl
end Go.Ir

namespace Go.Ir
open Go.Proofs
variable(W0:World)
def Wl:List Int:=[2,3,4,5,6,10,20,25,50,100]
theorem dG(l:List Int)(v:Int):decide (Cb (λx=>v==x) l>=0)=l.contains v:=by rw[G3,List.contains_eq_any_beq]
theorem Aqu:Au Tryz.prog 338 19 (QF 3) Add=true:=by kernel_rfl
theorem Aqh:Au Tryz.prog 325 9 (UZ 338) Akl=true:=by kernel_rfl
theorem Sj(l:List Int)(v:Int)(a:l.length<2^62):An Tryz.prog W0 325 [.sl (l.map (V.i .i64)),.i .i64 v] [] (.b (l.contains v)) []:=by rw[<-dG];exact Iz W0 Aqh _ _ _ (Uf W0 Aqu l v a)
def UX(a mod:Int):Bool:=if a==1||a==2 then Wl.contains mod else if a==5||a==6 then mod==10||mod==100 else false
theorem QT(e mod:Int):An Tryz.prog W0 300 [.i .i64 e,.i .i64 mod] [] (.b (UX e mod)) []:=by
 have a:=Sj W0 Wl mod (by decide);unfold Wl at a;simp only[Alh,Alw] at a;generalize hS:UX e mod=S;unfold UX Wl at hS;refine Ah (vs:=[.b S]) Aia (by simp) (by simp) λn0 c=>?_;clear c;simp only[push_cast,seval,reduceEqDiff];have _h:=trivial;repeat' (first|(first|((first|apply Ab|apply Ag|apply Af)<;>intro _h)|refine Ac a ?_)<;>(simp only[push_cast,seval,reduceEqDiff,_h];try (have _g:=_h;simp at _g))|intro _)
 all_goals subst hS
 all_goals (first|(refine Ai ?_;simp[get, *]<;>(intros;omega);done)|(refine Ae ?_;simp[push_cast,get, *];done)|skip)
def Abo(a:Int):Int:=if a==3||a==4 then 6 else 100
theorem Tr(b:Int):An Tryz.prog W0 301 [.i .i64 b] [] (.i .i64 (Abo b)) []:=by
 generalize hS:Abo b=S;unfold Abo at hS;refine Ah (vs:=[.i .i64 S]) Ake (by simp) (by simp) λn0 a=>?_;clear a;simp only[push_cast,seval,reduceEqDiff]
 repeat' (first|(((first|apply Ab|apply Ag|apply Af)<;>intro _h)<;>(simp only[push_cast,seval,reduceEqDiff,_h];try (have _g:=_h;simp at _g)))|intro _)
 all_goals subst hS
 all_goals (first|(refine Ai ?_;simp[get, *]<;>(intros;omega);done)|(refine Ae ?_;simp[push_cast,get, *];done)|skip)
def XF(a:Int)(s:GC):Bool:=!(decide (s.lo<0)||decide (s.lo>s.hi)||decide (s.hi>Abo a))
def Fx(r:De):Bool:=!(decide (r.op<1)||decide (r.op>6)||(r.mod !=0&&!UX r.op r.mod)||decide ((r.spans.length:Int)<1)||decide ((r.spans.length:Int)>4))&&r.spans.all (XF r.op)
theorem rU(r:De)(h:r.spans.length<=2^30):An Tryz.prog W0 265 [r.enc] [] (.b (Fx r)) []:=by
 generalize hS:Fx r=S;unfold Fx at hS;rw[De.enc_eq];refine Ah (vs:=[.b S]) Akt (by simp) (by simp) λn0 f=>?_;clear f;simp only[push_cast,seval,reduceEqDiff];have _h:=trivial;repeat' (first|(first|((first|apply Ab|apply Ag|apply Af)<;>intro _h)|refine Ac (QT W0 _ _) ?_)<;>(simp only[push_cast,seval,reduceEqDiff,_h];try (have _g:=_h;simp at _g))|intro _)
 all_goals (first|(refine Ai ?_;subst hS;simp[get, *];done)|skip)
 all_goals
  have c:r.spans.all (XF r.op)=S:=by subst hS;simp[*]
  clear hS;refine Am r.spans.length (Inv:=λm st=>∃done a n,r.spans=done++a/\m=a.length/\a.all (XF r.op)=S/\st=⟨[(1,.ref (n0,1) 0),(39,.sl (r.spans.map GC.enc)),(40,.i .i64 r.spans.length),(41,.i .i64 done.length)],[((n0,1),.box r.enc)],n⟩) ⟨_,Ak.refl,[],_,_,rfl,rfl,c,rfl⟩ ?_;clear c;rintro m _ ⟨done,a,n,e,rfl,c,rfl⟩;cases a with
  | nil=>
   simp only[push_cast,seval,reduceEqDiff,e]
   repeat' (first|(((first|apply Ab|apply Ag|apply Af)<;>intro _h)<;>(simp only[push_cast,seval,reduceEqDiff,_h];try (have _g:=_h;simp at _g)))|intro _)
   all_goals (first|(refine Ai ?_;simp[get,<-c]<;>(intros;omega);done)|(refine Ae ?_;simp[push_cast,get,<-c];done)|skip)
  | cons s a=>
   have g:=AH e;rw[Axc,XF] at c;simp only[push_cast,seval,reduceEqDiff,e,Ad s (done:=done) (by omega)];have _h:=trivial;repeat' (first|(first|((first|apply Ab|apply Ag|apply Af)<;>intro _h)|refine Ac (Tr W0 r.op) ?_)<;>(simp only[push_cast,seval,reduceEqDiff,_h,e,Ad s (done:=done) (by omega)];try (have _g:=_h;simp at _g))|intro _)
   all_goals (first|(exact⟨_,_,Ab3 _,Ak.drop1 (by simp[lk]) (Abm _),done++[s],a,_,by simp,rfl,by rw[<-c];simp[*],rfl⟩)|skip)
   all_goals subst c
   all_goals (first|(refine Ai ?_;simp[get, *]<;>(intros;omega);done)|(refine Ae ?_;simp[push_cast,get, *];done)|skip)
theorem qL(r:De)(c:r.spans.length<=2^30):An Tryz.prog W0 264 [r.enc] [] (.b (!Fx r)) []:=by
 have h:=rU W0 r c;rw[De.enc_eq] at *;refine Ah (vs:=[.b (!Fx r)]) Aj6 (by simp) (by simp) λn0 a=>?_;clear a;simp only[push_cast,seval,reduceEqDiff];have _h:=trivial;repeat' (first|(first|((first|apply Ab|apply Ag|apply Af)<;>intro _h)|refine Ac h ?_)<;>(simp only[push_cast,seval,reduceEqDiff,_h];try (have _g:=_h;simp at _g))|intro _)
 all_goals (first|(refine Ai ?_;simp[get]<;>(intros;omega);done)|(refine Ae ?_;simp[push_cast,get];done)|skip)
theorem AlO:Au Tryz.prog 299 19 (MW 175 4 true) Z1=true:=by kernel_rfl
theorem Apc:Au Tryz.prog 263 9 (OK 299) mB=true:=by kernel_rfl
theorem rH(l:List De)(p:De->Bool)(g:FuncId)(a:List V)(σ:Al)(c:∀r∈l,An Tryz.prog W0 g ([r.enc]++a) σ (.b (p r)) σ)(e:l.length<2^62) :
  An Tryz.prog W0 263 [.sl (l.map De.enc),.fn g [] a] σ (.b (l.any p)) σ:=by
 rw[<-G3];exact CV W0 Apc _ _ _ _ (Dc W0 AlO De.enc l p g [] a σ (λx _=>Kg rfl) (λr f=>c r f) e)
def Mc(c:List (List De)):Int:=(c.map λl=>(l.length:Int)).sum
theorem NX(l:List De)(c:List (List De)):Mc (l::c)=l.length+Mc c:=by simp[Mc]
def VY(l:List De):Bool:=!((l.length:Int)==0||l.any λr=>!Fx r)
def I3(c:List (List De)):Bool:=c.all VY&&(decide ((c.length:Int)>0)&&decide (Mc c<=6))
theorem Y3(c:List (List De)):0<=Mc c/\Mc c<=Dq c:=by
 induction c with
 | nil=>simp[Mc,Dq]
 | cons l c a=>have:=EZ l;rw[NX,Dq];omega
theorem WN(c:List (List De))(y:Dq c<=2^30):An Tryz.prog W0 206 [.sl (c.map Fj)] [] (.b (I3 c)) []:=by
 generalize hS:I3 c=S;unfold I3 at hS;have q:=IP c;have x:=Y3 c;refine Ah (vs:=[.b S]) Aii (by simp) (by simp) λn0 o=>?_;clear o;simp only[push_cast,seval,reduceEqDiff];intros;refine Am c.length (Inv:=λm st=>∃done a n d,c=done++a/\m=a.length/\(a.all VY&&(decide ((c.length:Int)>0)&&decide (d+Mc a<=6)))=S/\0<=d/\d+Mc a=Mc c/\st=⟨[(0,.sl (c.map Fj)),(3,.i .i64 d),(6,.sl (c.map Fj)),(7,.i .i64 c.length),(8,.i .i64 done.length)],[],n⟩) ⟨_,Ak.refl,[],_,_,0,rfl,rfl,by rw[Int.zero_add];exact hS,by omega,by omega,rfl⟩ ?_;clear hS;rintro m _ ⟨done,a,n,d,e,rfl,f,t,k,rfl⟩;cases a with
 | nil=>
  rw[show Mc []=0 from rfl,Int.add_zero] at f;simp only[push_cast,seval,reduceEqDiff,e];rw[Ary] at e
  repeat' (first|(((first|apply Ab|apply Ag|apply Af)<;>intro _h)<;>(simp only[push_cast,seval,reduceEqDiff,_h];try (have _g:=_h;simp at _g)))|intro _)
  all_goals subst f
  all_goals subst e
  all_goals (first|(refine Ai ?_;simp[get, *]<;>(intros;omega);done)|(refine Ae ?_;simp[push_cast,get, *];done)|skip)
 | cons l a=>
  have s:=AH e;have z:=II (l:=c) (r:=l) (by rw[e];simp);have u:=EZ l;rw[Axc] at f;rw[NX] at f k;have w:=Y3 a;have h:IntKind.i64.wrap (d+(l.length:Int))=d+(l.length:Int):=wrap64 (by omega) (by omega);have p:=rH W0 l (λr=>!Fx r) 264 [] [] (λr v=>qL W0 r (by have:=IG v;rw[De.wt] at this;omega)) (by omega);obtain⟨A,j⟩:∃A,(l.any λr=>!Fx r)=A:=⟨_,rfl⟩
  have g:VY l=!((l.length:Int)==0||A):=by unfold VY;rw[j]
  rw[j] at p;rw[g] at f;clear j g;simp only[push_cast,seval,reduceEqDiff,e,Ad l (done:=done) (by omega),h]
  repeat' (first|(((first|apply Ab|apply Ag|apply Af)<;>intro _h)<;>(simp only[push_cast,seval,reduceEqDiff,_h,e,Ad l (done:=done) (by omega),h];try (have _g:=_h;simp at _g)))|intro _)
  all_goals (try (refine oY p ?_;simp only[push_cast,seval,reduceEqDiff]))
  repeat' (first|(((first|apply Ab|apply Ag|apply Af)<;>intro _h)<;>(simp only[push_cast,seval,reduceEqDiff,_h,e,Ad l (done:=done) (by omega),h];try (have _g:=_h;simp at _g)))|intro _)
  all_goals (first|(exact⟨_,_,Ab3 _,Ak.refl,done++[l],a,_,_,by simp,rfl,by grind,by omega,by rw[<-e];omega,rfl⟩)|skip)
  all_goals subst f
  all_goals (first|(refine Ai ?_;simp[get, *]<;>(intros;omega);done)|(refine Ae ?_;simp[push_cast,get, *];done)|skip)
def inB(l:List GC)(n:Int):Bool:=l.any λs=>decide (n>=s.lo)&&decide (n<=s.hi)
theorem Aja:Au Tryz.prog 350 19 (MW 337 2 true) Z1=true:=by kernel_rfl
theorem AhW:Au Tryz.prog 341 9 (OK 350) mB=true:=by kernel_rfl
theorem Aqn(s:GC)(n:Int)(a:Nat):An Tryz.prog W0 342 [s.enc,.ref (a,3) 0] [((a,3),.box (.i .i64 n))] (.b (decide (n>=s.lo)&&decide (n<=s.hi))) [((a,3),.box (.i .i64 n))]:=by
 rw[GC.enc_eq];refine Ah (vs:=[.b (decide (n>=s.lo)&&decide (n<=s.hi))]) AhP (by simp) (λ_ h=>h) λn0 c=>?_;clear c;simp only[push_cast,seval,reduceEqDiff]
 repeat' (first|(((first|apply Ab|apply Ag|apply Af)<;>intro _h)<;>(simp only[push_cast,seval,reduceEqDiff,_h];try (have _g:=_h;simp at _g)))|intro _)
 all_goals (refine AD ?_ (C3 (by simp[lk]));simp[get, *])
theorem Anr(l:List GC)(n:Int)(e:l.length<2^62):An Tryz.prog W0 328 [.sl (l.map GC.enc),.i .i64 n] [] (.b (inB l n)) []:=by
 unfold inB;refine Ah (vs:=[.b (l.any λs=>decide (n>=s.lo)&&decide (n<=s.hi))]) Alb (by simp) (by simp) λn0 a=>?_;clear a;simp only[push_cast,seval,reduceEqDiff];intro k1;have c:An Tryz.prog W0 341 [.sl (l.map GC.enc),.fn 342 [] [.ref (n0,3) 0]] [((n0,3),.box (.i .i64 n))] (.b (l.any λs=>decide (n>=s.lo)&&decide (n<=s.hi))) [((n0,3),.box (.i .i64 n))]:=by rw[<-G3];exact CV W0 AhW _ _ _ _ (Dc W0 Aja GC.enc l _ _ [] _ _ (λx _=>Kg rfl) (λs _=>Aqn W0 s n n0) e)
 refine Bq c (λ_ _ h=>h) ?_;rw[CS];simp only[push_cast,seval,reduceEqDiff]
 repeat' (first|(((first|apply Ab|apply Ag|apply Af)<;>intro _h)<;>(simp only[push_cast,seval,reduceEqDiff,_h];try (have _g:=_h;simp at _g)))|intro _)
 all_goals (first|(refine Ai ?_;simp[get]<;>(intros;omega);done)|(refine Ae ?_;simp[push_cast,get];done)|skip)
def GL(r:De)(s:Aa):Bool:=
 if(yF s r.op).2 !=0 then r.neg else inB r.spans (if r.mod !=0 then(yF s r.op).1.tmod r.mod else(yF s r.op).1) !=r.neg
theorem Ac2(r:De)(s:Aa)(e:s.length<=2^30)(c:r.spans.length<2^62):An Tryz.prog W0 305 [r.enc,.s s] [] (.b (GL r s)) []:=by
 generalize hS:GL r s=S;unfold GL at hS;rw[De.enc_eq];refine Ah (vs:=[.b S]) Akw (by simp) (by simp) λn0 a=>?_;clear a;simp only[push_cast,seval,reduceEqDiff];have _h:=trivial;repeat' (first|(first|((first|apply Ab|apply Ag|apply Af)<;>intro _h)|refine Ac (AnM W0 s r.op (by omega)) ?_|refine Ac (Anr W0 r.spans _ c) ?_)<;>(simp only[push_cast,seval,reduceEqDiff,_h];try (have _g:=_h;simp at _g))|intro _)
 all_goals (try (simp only[push_cast,seval,reduceEqDiff,ne_eq,_g,not_false_eq_true]))
 have _h:=trivial;repeat' (first|(first|((first|apply Ab|apply Ag|apply Af)<;>intro _h)|refine Ac (Anr W0 r.spans _ c) ?_)<;>(simp only[push_cast,seval,reduceEqDiff,_h];try (have _g:=_h;simp at _g))|intro _)
 all_goals subst hS
 all_goals (refine Ai ?_;simp[get, *]<;>simp[bne])
theorem bP(r:De)(s:Aa)(a:Nat)(f:s.length<=2^30)(e:r.spans.length<2^62):An Tryz.prog W0 304 [r.enc,.ref (a,3) 0] [((a,3),.box (.s s))] (.b (!GL r s)) [((a,3),.box (.s s))]:=by
 have h:=Ac2 W0 r s f e;rw[De.enc_eq] at *;refine Ah (vs:=[.b (!GL r s)]) AhQ (by simp) (λ_ h=>h) λn0 c=>?_;clear c;simp only[push_cast,seval,reduceEqDiff];have _h:=trivial;repeat' (first|(first|((first|apply Ab|apply Ag|apply Af)<;>intro _h)|refine Ac h ?_)<;>(simp only[push_cast,seval,reduceEqDiff,_h];try (have _g:=_h;simp at _g))|intro _)
 all_goals (refine AD ?_ (C3 (by simp[lk]));simp[get])
theorem lK(l:List De)(s:Aa)(a:Nat)(g:s.length<=2^30)(i:CK l<=2^30):An Tryz.prog W0 303 [Fj l,.ref (a,3) 0] [((a,3),.box (.s s))] (.b (!l.any λr=>!GL r s)) [((a,3),.box (.s s))]:=by
 have e:=EZ l;have h:=rH W0 l (λr=>!GL r s) 304 [.ref (a,3) 0] [((a,3),.box (.s s))] (λr f=>bP W0 r s a g (by have:=IG f;rw[De.wt] at this;omega)) (by omega);rw[Su];generalize(l.any λr=>!GL r s)=A at h;refine Ah (vs:=[.b (!A)]) Ak2 (by simp) (λ_ h=>h) λn0 c=>?_;clear c;simp only[push_cast,seval,reduceEqDiff]
 repeat' (first|(((first|apply Ab|apply Ag|apply Af)<;>intro _h)<;>(simp only[push_cast,seval,reduceEqDiff,_h];try (have _g:=_h;simp at _g)))|intro _)
 refine Bq h (λ_ _ h=>h) ?_;rw[CS];simp only[push_cast,seval,reduceEqDiff]
 repeat' (first|(((first|apply Ab|apply Ag|apply Af)<;>intro _h)<;>(simp only[push_cast,seval,reduceEqDiff,_h];try (have _g:=_h;simp at _g)))|intro _)
 all_goals (refine AD ?_ (λ_ _ h=>h);simp[get])
def QR(c:List (List De))(s:Aa):Bool:=c.any λl=>!l.any λr=>!GL r s
theorem AjZ:Au Tryz.prog 326 19 (MW 172 1 false) Z1=true:=by kernel_rfl
theorem AhC:Au Tryz.prog 302 9 (OK 326) mB=true:=by kernel_rfl
theorem Y5(c:List (List De))(s:Aa)(m:s.length<=2^30)(e:Dq c<=2^30):An Tryz.prog W0 267 [.sl (c.map Fj),.s s] [] (.tup [.b (I3 c&&DF s&&QR c s),.i .i64 (bif I3 c&&DF s then 0 else 1)]) []:=by
 have k:=IP c;generalize f:QR c s=A;refine Ah (vs:=[.b (I3 c&&DF s&&A),.i .i64 (bif I3 c&&DF s then 0 else 1)]) Ak7 (by simp) (by simp) λn0 a=>?_;clear a;simp only[push_cast,seval,reduceEqDiff];intro k1;have g:An Tryz.prog W0 302 [.sl (c.map Fj),.fn 303 [] [.ref (n0,3) 0]] [((n0,3),.box (.s s))] (.b A) [((n0,3),.box (.s s))]:=by rw[<-f,QR,<-G3];exact CV W0 AhC _ _ _ _ (Dc W0 AjZ Fj c _ _ [] _ _ (λx _=>pY rfl) (λl j=>lK W0 l s n0 m (All (II j) e)) (by omega))
 have _h:=trivial;repeat' (first|(first|((first|apply Ab|apply Ag|apply Af)<;>intro _h)|refine Ac (WN W0 c e) ?_|refine Ac (HG W0 s (by omega)) ?_)<;>(simp only[push_cast,seval,reduceEqDiff,_h];try (have _g:=_h;simp at _g))|intro _)
 all_goals (try (refine Bq g (λ_ _ h=>h) ?_;rw[CS];simp only[push_cast,seval,reduceEqDiff]))
 repeat' (first|(((first|apply Ab|apply Ag|apply Af)<;>intro _h)<;>(simp only[push_cast,seval,reduceEqDiff,_h];try (have _g:=_h;simp at _g)))|intro _)
 all_goals (first|(refine Ai ?_;simp[get, *]<;>(intros;omega);done)|(refine Ae ?_;simp[push_cast,get, *];done)|skip)
def LU:Aa:=[111,116,104,101,114]
def kV:List Aa:=[[122,101,114,111],[111,110,101],[116,119,111],[102,101,119],[109,97,110,121]]
def QK:List Aa:=[[122,101,114,111],[111,110,101],[116,119,111],[102,101,119],[109,97,110,121],[111,116,104,101,114]]
theorem Acx:An Tryz.prog W0 262 [] [] (.agg (QK.map V.s)) []:=by
 unfold QK;simp only[Alh,Alw];refine Ah (vs:=[.agg [.s [122,101,114,111],.s [111,110,101],.s [116,119,111],.s [102,101,119],.s [109,97,110,121],.s [111,116,104,101,114]]]) Ahm (by simp) (by simp) λn0 a=>?_;clear a;simp only[push_cast,seval,reduceEqDiff]
 repeat' (first|(((first|apply Ab|apply Ag|apply Af)<;>intro _h)<;>(simp only[push_cast,seval,reduceEqDiff,_h];try (have _g:=_h;simp at _g)))|intro _)
 all_goals (first|(refine Ai ?_;simp[get]<;>(intros;omega);done)|(refine Ae ?_;simp[push_cast,get];done)|skip)
theorem AeP:Au Tryz.prog 120 19 (QF 9) Add=true:=by kernel_rfl
theorem Amc:Au Tryz.prog 241 9 (UZ 120) Akl=true:=by kernel_rfl
theorem Lh(l:List Aa)(v:Aa)(a:l.length<2^62):An Tryz.prog W0 241 [.sl (l.map V.s),.s v] [] (.b (l.contains v)) []:=by rw[List.contains_eq_any_beq,<-G3];exact Iz W0 Amc _ _ _ (Mi W0 AeP l v a)
theorem zA(s:Aa):An Tryz.prog W0 205 [.s s] [] (.b (QK.contains s)) []:=by
 have e:=Acx W0;have a:=Lh W0 QK s (by decide);generalize f:QK.contains s=K at a;unfold QK at e a;simp only[Alh,Alw] at e a;refine Ah (vs:=[.b K]) Akk (by simp) (by simp) λn0 c=>?_;clear c;simp only[push_cast,seval,reduceEqDiff];have _h:=trivial;repeat' (first|(first|((first|apply Ab|apply Ag|apply Af)<;>intro _h)|refine Ac e ?_)<;>(simp only[push_cast,seval,reduceEqDiff,_h];try (have _g:=_h;simp at _g))|intro _)
 have _h:=trivial;repeat' (first|(first|((first|apply Ab|apply Ag|apply Af)<;>intro _h)|refine Ac a ?_)<;>(simp only[push_cast,seval,reduceEqDiff,_h];try (have _g:=_h;simp at _g))|intro _)
 all_goals (first|(refine Ai ?_;simp[get]<;>(intros;omega);done)|(refine Ae ?_;simp[push_cast,get];done)|skip)
def Agc(s:Aa):Bool:=kV.contains s
theorem Aal(s:Aa):(!QK.contains s||s==LU)=!Agc s:=by unfold Agc QK kV LU;rw[Atk];simp;grind
def Db(done:List A7):List A7->Bool
 | []=>true
 | r::a=>!(!Agc r.cls||!I3 r.cond||done.any λx=>x.cls==r.cls)&&Db (done++[r]) a
theorem Ajg:Au Tryz.prog 266 19 (MW 139 2 true) Z1=true:=by kernel_rfl
theorem AjL:Au Tryz.prog 207 9 (OK 266) mB=true:=by kernel_rfl
theorem aT(x r:A7)(a:Nat):An Tryz.prog W0 208 [x.enc,.ref (a,4) 0] [((a,4),.box r.enc)] (.b (x.cls==r.cls)) [((a,4),.box r.enc)]:=by
 rw[A7.enc_eq,A7.enc_eq];refine Ah (vs:=[.b (x.cls==r.cls)]) Aj0 (by simp) (λ_ h=>h) λn0 c=>?_;clear c;simp only[push_cast,seval,reduceEqDiff]
 repeat' (first|(((first|apply Ab|apply Ag|apply Af)<;>intro _h)<;>(simp only[push_cast,seval,reduceEqDiff,_h];try (have _g:=_h;simp at _g)))|intro _)
 all_goals (refine AD ?_ (C3 (by simp[lk]));simp[get])
theorem JF(l:List A7)(t:A9 l<=2^30):An Tryz.prog W0 152 [.sl (l.map A7.enc)] [] (.b (Db [] l)) []:=by
 generalize hS:Db [] l=S;have o:=Fy l;refine Ah (vs:=[.b S]) AgT (by simp) (by simp) λn0 j=>?_;clear j;simp only[push_cast,seval,reduceEqDiff];intros;refine Am l.length (Inv:=λm st=>∃done a n,l=done++a/\m=a.length/\Db done a=S/\st=⟨[(0,.sl (l.map A7.enc)),(5,.sl (l.map A7.enc)),(6,.i .i64 l.length),(7,.i .i64 done.length)],[],n⟩) ⟨_,Ak.refl,[],_,_,rfl,rfl,hS,rfl⟩ ?_;clear hS;rintro m _ ⟨done,a,n,e,rfl,c,rfl⟩;cases a with
 | nil=>
  rw[Db] at c;simp only[push_cast,seval,reduceEqDiff,e]
  repeat' (first|(((first|apply Ab|apply Ag|apply Af)<;>intro _h)<;>(simp only[push_cast,seval,reduceEqDiff,_h];try (have _g:=_h;simp at _g)))|intro _)
  subst c
  all_goals (first|(refine Ai ?_;simp[get]<;>(intros;omega);done)|(refine Ae ?_;simp[push_cast,get];done)|skip)
 | cons r a=>
  have p:=AH e;have q:=F4 (l:=l) (r:=r) (by rw[e];simp);rw[A7.wt] at q;rw[Db,<-Aal] at c;unfold LU at c;have f:∀y∈List.map A7.enc (done++r::a),(cells y).length=2:=by intro y s;obtain⟨x,_,rfl⟩:=Alx.1 s;rfl
  obtain⟨A,g⟩:∃A,(done.any λx=>x.cls==r.cls)=A:=⟨_,rfl⟩;rw[g] at c;simp only[push_cast,seval,reduceEqDiff,e,Ad r (done:=done) (by omega),eq_true f];intro k1 k2;have k:An Tryz.prog W0 207 [.sl (done.map A7.enc),.fn 208 [] [.ref (n+1+k1,4) 0]] [((n+1+k1,4),.box r.enc)] (.b A) [((n+1+k1,4),.box r.enc)]:=by rw[<-g,<-G3];exact CV W0 AjL _ _ _ _ (Dc W0 Ajg A7.enc done _ _ [] _ _ (λx _=>Kg rfl) (λx _=>aT W0 x r _) (by omega))
  clear g;rw[A7.enc_eq] at k;have _h:=trivial;repeat' (first|(first|((first|apply Ab|apply Ag|apply Af)<;>intro _h)|refine Ac (zA W0 r.cls) ?_|refine Ac (WN W0 r.cond (by omega)) ?_)<;>(simp only[push_cast,seval,reduceEqDiff,_h,e,Ad r (done:=done) (by omega),eq_true f];try (have _g:=_h;simp at _g))|intro _)
  all_goals (try (refine Bq k (λ_ _ h=>h) ?_;rw[CS];simp only[push_cast,seval,reduceEqDiff]))
  repeat' (first|(((first|apply Ab|apply Ag|apply Af)<;>intro _h)<;>(simp only[push_cast,seval,reduceEqDiff,_h,e,Ad r (done:=done) (by omega),eq_true f];try (have _g:=_h;simp at _g)))|intro _)
  all_goals (first|(exact⟨_,_,Ab3 _,Ak.drop1 (by simp[lk]) (Abm _),done++[r],a,_,by simp,rfl,by rw[<-c];simp[*],rfl⟩)|skip)
  all_goals subst c
  all_goals (first|(refine Ai ?_;simp[get, *]<;>(intros;omega);done)|(refine Ae ?_;simp[push_cast,get, *];done)|skip)
def OE(s:Aa):List A7->Aa
 | []=>LU
 | r::a=>bif QR r.cond s then r.cls else OE s a
def C7(l:List A7)(s:Aa):Aa×Int:=bif Db [] l&&DF s then(OE s l,0) else([],1)
theorem RD{done a:List A7}(h:Db done a=true):∀r∈a,I3 r.cond=true:=by
 induction a generalizing done with
 | nil=>intro r b;cases b
 | cons x a c=>rw[Db] at h;grind
theorem VD(l:List A7)(s:Aa)(u:s.length<=2^30)(k:A9 l<=2^30):An Tryz.prog W0 210 [.sl (l.map A7.enc),.s s] [] (.tup [.s (C7 l s).1,.i .i64 (C7 l s).2]) []:=by
 generalize hS:C7 l s=S;have t:=Fy l;unfold C7 at hS;have c:=Y5 W0 [[⟨2,0,true,[⟨0,0⟩]⟩]] s u (by decide);rw[show I3 [[⟨2,0,true,[⟨0,0⟩]⟩]]=true by decide,AtA] at c;simp only[Alh,Alw,Su,De.enc_eq,GC.enc_eq] at c;generalize QR [[⟨2,0,true,[⟨0,0⟩]⟩]] s=x at c;rcases AuE (DF s) with j|j
 all_goals (rw[j] at c hS;simp only[AtA,AvE,Auy,AuB,cond_true,cond_false] at c hS)
 ·rcases AuE (Db [] l) with g|g
  all_goals (rw[g] at hS;simp only[cond_true,cond_false] at hS;subst hS)
  ·have p:=RD g;generalize hS:OE s l=S;have h:=JF W0 l k;rw[g] at h;refine Ah (vs:=[.s S,.i .i64 0]) T3 (by simp) (by simp) λn0 b=>?_;clear b;simp only[push_cast,seval,reduceEqDiff];have _h:=trivial;repeat' (first|(first|((first|apply Ab|apply Ag|apply Af)<;>intro _h)|refine Ac h ?_|refine Ac c ?_)<;>(simp only[push_cast,seval,reduceEqDiff,_h];try (have _g:=_h;simp at _g))|intro _)
   refine Am l.length (Inv:=λm st=>∃done a n,l=done++a/\m=a.length/\OE s a=S/\st=⟨[(1,.s s),(29,.sl (l.map A7.enc)),(30,.i .i64 l.length),(31,.i .i64 done.length)],[],n⟩) ⟨_,Ak.refl,[],_,_,rfl,rfl,hS,rfl⟩ ?_;clear hS;rintro m _ ⟨done,a,n,f,rfl,e,rfl⟩;cases a with
   | nil=>
    rw[OE] at e;unfold LU at e;subst e;simp only[push_cast,seval,reduceEqDiff,f]
    repeat' (first|(((first|apply Ab|apply Ag|apply Af)<;>intro _h)<;>(simp only[push_cast,seval,reduceEqDiff,_h];try (have _g:=_h;simp at _g)))|intro _)
    all_goals (first|(refine Ai ?_;simp[get]<;>(intros;omega);done)|(refine Ae ?_;simp[push_cast,get];done)|skip)
   | cons r a=>
    have v:=AH f;have w:=F4 (l:=l) (r:=r) (by rw[f];simp);rw[A7.wt] at w;have o:=p r (by rw[f];simp);have q:=Y5 W0 r.cond s u (by omega);rw[o,j] at q;simp only[AtA,Auy,cond_true] at q;rw[OE] at e;simp only[push_cast,seval,reduceEqDiff,f,Ad r (done:=done) (by omega)];have _h:=trivial;repeat' (first|(first|((first|apply Ab|apply Ag|apply Af)<;>intro _h)|refine Ac q ?_)<;>(simp only[push_cast,seval,reduceEqDiff,_h,f,Ad r (done:=done) (by omega)];try (have _g:=_h;simp at _g))|intro _)
    all_goals (first|(exact⟨_,_,Ab3 _,Ak.drop1 (by simp[lk]) (Abm _),done++[r],a,_,by simp,rfl,by rw[<-e];simp[*],rfl⟩)|skip)
    all_goals subst e
    all_goals (first|(refine Ai ?_;simp[get, *]<;>(intros;omega);done)|(refine Ae ?_;simp[push_cast,get, *];done)|skip)
  ·have h:=JF W0 l k;rw[g] at h;refine Ah (vs:=[.s [],.i .i64 1]) T3 (by simp) (by simp) λn0 b=>?_;clear b;simp only[push_cast,seval,reduceEqDiff];have _h:=trivial;repeat' (first|(first|((first|apply Ab|apply Ag|apply Af)<;>intro _h)|refine Ac h ?_)<;>(simp only[push_cast,seval,reduceEqDiff,_h];try (have _g:=_h;simp at _g))|intro _)
   all_goals (first|(refine Ai ?_;simp[get]<;>(intros;omega);done)|(refine Ae ?_;simp[push_cast,get];done)|skip)
 ·subst hS;refine Ah (vs:=[.s [],.i .i64 1]) T3 (by simp) (by simp) λn0 b=>?_;clear b;simp only[push_cast,seval,reduceEqDiff];have _h:=trivial;repeat' (first|(first|((first|apply Ab|apply Ag|apply Af)<;>intro _h)|refine Ac (JF W0 l k) ?_|refine Ac c ?_)<;>(simp only[push_cast,seval,reduceEqDiff,_h];try (have _g:=_h;simp at _g))|intro _)
  all_goals (first|(refine Ai ?_;simp[get]<;>(intros;omega);done)|(refine Ae ?_;simp[push_cast,get];done)|skip)

end Go.Ir

namespace Go.Ir
open Go.Proofs
variable{P:Program}{W0:World}{nt n:Nat}{Q:Exit→St→Prop}{env:AE}{σ:Al}

end Go.Ir

namespace Go.Ir
open Go.Proofs
variable(W0:World)
theorem Mu{W0:World}{nt n s:Nat}{env:AE}{σ:Al}{id:Id}{e sz:Nat}{es:List V}(p:get env s=.arr id)(o:∀y∈es,y.ok=true)(m:lk σ id=some (.arr e sz es)):Sb W0 nt [.t s] [.sl es] [] .ret ⟨env,σ,n⟩:=by
 refine⟨⟨[(s,.sl es)],[],n⟩,Ak.weak (λi=>if i=id then some es else none) (λi es' h=>?_) (λt=>?_) (λi e' h=>by cases h) (Abm _),⟨by simp[Nf,get],trivial⟩,λ_ _ h=>by cases h⟩
 ·split at h
  ·rename_i j;subst j;cases h;exact⟨⟨e,sz,m⟩,rfl⟩
  ·cases h
 ·by_cases f:s=t
  ·subst f;rw[p];simp only[get,if_true];refine .arr id es es (by simp) rfl (λk c g b a=>?_) (λk c g b a=>?_)
   ·rw[b] at a;cases a;exact .refl _
   grind
  ·simp only[get,if_neg f];exact .any _
def dD:Aa->Bool
 | []=>false
 | c::_=>(c.toNat:Int)==61
def AqE(a:Int)(k:Aa):Bool:=!(k==CT)&&(a==9||dD k)
def Asq(b:Int)(a:List Aa):List Aa:=if b==9 then[] else kV.filter λk=>a.contains k
def Asu(b:Int)(a:List Aa):List Aa:=a.filter (AqE b)++(Asq b a++[CT])
theorem Nj{P:Program}{W0:World}{nt:Nat}{c:IC}{Q:Exit->St->Prop}{st a:St}(h:Ak W0 nt st a)(k:GX P W0 nt c Q a):GX P W0 nt c Q st:=by unfold GX at *;exact Uu h k
theorem yU{a:Type}(p:a->Bool)(l:List a):Cb p l<l.length:=by
 induction l with
 | nil=>simp[Cb]
 | cons x l b=>simp only[Cb,Ah5];grind
def EU.enc(s:EU):V:=.agg [.i .i64 s.kind,.s s.name,.sl (s.keys.map V.s)]
@[push_cast] theorem EU.enc_eq(s:EU):s.enc=.agg [.i .i64 s.kind,.s s.name,.sl (s.keys.map V.s)]:=rfl
def EU.ord(s:EU):EU:={ s with keys:=Asu s.kind s.keys }
def RY(ps:List Aj):List EU:=(KL ps []).map EU.ord
theorem S0{W0:World}{nt n s:Nat}{env:AE}{σ:Al}(b:get env s=.nil):Sb W0 nt [.t s] [.sl []] [] .ret ⟨env,σ,n⟩:=by
 refine⟨⟨[(s,.sl [])],[],n⟩,Ak.weak (λi=>none) (λi es' h=>by cases h) (λt=>?_) (λi e' h=>by cases h) (Abm _),⟨by simp[Nf,get],trivial⟩,λ_ _ h=>by cases h⟩;by_cases a:s=t
 ·subst a;rw[b];simp only[get,if_true];exact .nil
 ·simp only[get,if_neg a];exact .any _



def Rm(n:Nat):List EU->Nat
 | []=>n
 | s::l=>if 400<n*s.keys.length then n*s.keys.length else Rm (n*s.keys.length) l
def Ab9(l:Loc)(a:Int):List A7:=if a==8 then l.ord else l.card
def AlL(o:List Aj)(x:Aj):List Aj:=match o.getLast? with
 | none=>[x]
 | some y=>if x.kind==1&&y.kind==1 then o.dropLast++[{ y with text:=y.text++x.text }] else o++[x]
theorem Acd{W0:World}{nt n s:Nat}{env:AE}{σ:Al}{id:Id}{x:Ax}(b:get env s=.arr id)(a:lk σ id=some x):Afj W0 nt s x [] .ret ⟨env,σ,n⟩:=
 ⟨_,Ak.refl,id,b,a,rfl,λ_ _ h=>by cases h⟩
end Go.Ir
section
namespace Go.Ir
def fL{a:Type}(cs:List (Aa×a))(k:Aa):Option a:=(cs.find? λc=>c.1==k).map (·.2)
def Al5{c:Type}(b:Aa->Aa)(a:Int)(cs:List (Aa×c))(key:Aa):Option c:=
 (fL cs key).or ((if dD key&&a !=9 then fL cs (b key.tail) else none).or (fL cs CT))
abbrev gH:=Int->Aa->List (Aa×List Aj)->List Aj
mutual
def Aj.res(c:gH)(a:Aa):Aj->List Aj->List Aj
 | ⟨k,t,b,st,cs,ps⟩,out=>
  if Bf k then(c k b (Afx c (if k==9 then a else b) cs)).foldl AlL out
  else if k==10 then out++[⟨3,[],a,[],[],[]⟩]
  else if k==11 then out++[⟨k,t,b,st,cs,VH c a ps []⟩]
  else AlL out ⟨k,t,b,st,cs,ps⟩
def VH(b:gH)(a:Aa):List Aj->List Aj->List Aj
 | [],out=>out
 | p::ps,out=>VH b a ps (p.res b a out)
def Afx(b:gH)(a:Aa):List (Aa×List Aj)->List (Aa×List Aj)
 | []=>[]
 | (k,ps)::cs=>(k,VH b a ps [])::Afx b a cs
end
end Go.Ir
end
namespace Go.Ir
open Go.Proofs
variable(W0:World)
def ArC(l:Loc)(a:Int)(n:Aa):Aa:=(C7 (Ab9 l a) n).1
end Go.Ir
section
namespace Go.Ir
open Go.Proofs
variable(W0:World)
mutual
def Aj.all(f:Aj->Prop):Aj->Prop
 | ⟨k,t,a,st,cs,ps⟩=>f ⟨k,t,a,st,cs,ps⟩/\DC f cs/\Cf f ps
def Cf(f:Aj->Prop):List Aj->Prop
 | []=>True
 | p::ps=>p.all f/\Cf f ps
def DC(f:Aj->Prop):List (Aa×List Aj)->Prop
 | []=>True
 | (k,ps)::cs=>Cf f ps/\DC f cs
end
theorem Aj.all_eq(f:Aj->Prop)(p:Aj):p.all f↔f p/\DC f p.cases/\Cf f p.parts:=by cases p;simp only[Aj.all]
theorem DZ(f:Aj->Prop)(p:Aj)(ps:List Aj):Cf f (p::ps)↔p.all f/\Cf f ps:=by simp only[Cf]
theorem Ff(f:Aj->Prop)(c:AJ)(cs:List AJ):DC f (c::cs)↔Cf f c.2/\DC f cs:=by obtain⟨a,b⟩:=c;simp only[DC]
def Amy(L:List EU)(a:List Aa)(k:Int)(b:Aa):Aa:=a[(I1 L k b).toNat]?.getD []
def pkP(l:Loc)(L:List EU)(a:List Aa):gH:=λk b cs=>(Al5 (ArC l k) k cs (Amy L a k b)).getD []
end Go.Ir
end
namespace Go.Ir
open Go.Proofs
variable{P:Program}{W0:World}{nt n:Nat}{Q:Exit→St→Prop}{env:AE}{σ:Al}
end Go.Ir

namespace Go.Ir
open Go.Proofs
variable(W0:World)
theorem pE{W0:World}{nt n n' e sz:Nat}{env env':AE}{σ τ:Al}{rid kid:Id}{A B es:List V}(m:rid≠kid)(w:lk σ rid=some (.box (.agg (A++.arr kid::B))))(j:lk σ kid=some (.arr e sz es))(o:∀i e',lk τ i=some e'->lk σ i=some e'/\i≠kid)(t:lk τ rid=none)(v:∀y∈es,y.ok=true)(f:∀s,get env' s=get env s\/get env' s=.any)(u:n<=n') :
  Ak W0 nt ⟨env,σ,n⟩ ⟨env',(rid,.box (.agg (A++.sl es::B)))::τ,n'⟩:=by
 refine Ak.weak (λi=>if i=kid then some es else none) (λi es' h=>?_) (λs=>?_) (λi e' h=>?_) u
 ·split at h
  ·rename_i g;subst g;cases h;refine⟨⟨e,sz,j⟩,?_⟩;simp only[lk,if_neg m];cases z:lk τ i with
   | none=>rfl
   | some x=>grind
  ·cases h
 ·rcases f s with h|h
  ·rw[h];exact .refl _
  ·rw[h];exact .any _
 ·simp only[lk] at h;by_cases g:rid=i
  ·rw[if_pos g] at h;cases h;subst g;refine⟨_,w,.box _ _ (.agg _ _ (by simp) λk c p b a=>?_) (by simp[cells]) rfl rfl⟩;by_cases j:k<A.length
   ·rw[At0 j] at b a;rw[b] at a;cases a;exact .refl _
   ·rw[Arf (by omega)] at b a;cases r:k-A.length with
    | zero=>
     rw[r] at b a;simp at b a;subst b a;refine .arr kid es es (by simp) rfl (λk c p b a=>?_) (λk c p b a=>?_)
     ·rw[b] at a;cases a;exact .refl _
     grind
    | succ q=>rw[r] at b a;simp only[Avm] at b a;rw[b] at a;cases a;exact .refl _
  ·rw[if_neg g] at h;exact⟨_,(o i e' h).1,.refl _⟩
end Go.Ir

namespace Go.Ir
open Go.Proofs
variable{P:Program}{W0:World}{nt n:Nat}{Q:Exit→St→Prop}{env:AE}{σ:Al}
def AdS:IC:=oS [bX 2 0,mC 3 (.b false)] [1,2] (oR [fA 4 2 0,l1 5 4,l1 6 1,bT 7 .eql 5 6,m1 3 7] [3])
@[push_cast]def AsU:List R:=[.t 3]
@[push_cast]def Awo:=AM AdS.eq_1
theorem An5:Au Tryz.prog 65 8 AdS AsU=true:=by kernel_rfl
def vQ:IC:=oS [m1 14 0,m1 15 6,iA 16 14 15 62 5,lA 17 16 5,o1 7 (.alloc (.agg [.s [],.i .i64 0,.s [],.i .i64 0,.nil])),sT 7 17 5] [4,7] (oS [fA 18 7 4,l1 19 18,q1 20 66 19,fA 21 7 4,sT 21 20 1] [4,7] (oR [lA 22 7 5,sT 4 22 5,mC 5 (.b true)] [4,5]))
def Adn:IC:=sQ (oS [m1 11 6,bZ 12 .lss 11 0] [0,4,6,12] (cD 12 (oR [o1 13 (.build [.s [],.i .i64 0,.s [],.i .i64 0,.nil] []),sT 4 13 5,mC 5 (.b false)] [4,5]) .skip)) vQ
def Aec:IC:=oS [bX 3 1,o1 4 (.alloc (.agg [.s [],.i .i64 0,.s [],.i .i64 0,.nil])),mC 5 (.b false)] [0,3,4] (oS [m1 8 0,o1 9 (.mkfn 65 [] [.t 3]),o1 10 (.calls 64 [.t 8,.t 9]),m1 6 10] [0,4,6] Adn)
@[push_cast]def Atu:List R:=[.c 4 5 true,.t 5]
@[push_cast]def AvT:=Ar vQ.eq_1<|Ar Adn.eq_1<|AM Aec.eq_1
theorem AqH:Au Tryz.prog 39 23 Aec Atu=true:=by kernel_rfl
def oE:IC:=oR [fA 18 1 2,l1 19 18,q1 20 67 19,m1 21 20,Ft 22 21 1 3,EQ 23 21 22,Fz 24 21 .eql 23 0,pA 25 21 24,m1 26 25,Ft 27 26 1 4,EQ 28 26 27,gT 29 26 (.lenL (.t 28)),Fz 30 26 .eql 29 0,pA 31 26 30,m1 2 31] [2]
def lL:IC:=oR [fA 34 1 2,l1 35 34,bC 36 .eql 35 (.s []),m1 37 36,Ft 38 37 1 4,EQ 39 37 38,gT 40 37 (.lenL (.t 39)),Fz 41 37 .eql 40 0,pA 42 37 41,m1 2 42] [2]
def oB:IC:=oS [bZ 44 .eql 4 4,m1 43 44] [1,43] (cD 43 (oR [fA 45 1 2,l1 46 45,bC 47 .eql 46 (.s []),m1 48 47,Ft 49 48 1 3,EQ 50 48 49,Fz 51 48 .eql 50 0,pA 52 48 51,m1 2 52] [2]) .skip)
def AeI:IC:=.block 0 (oS [bZ 6 .eql 4 1,m1 5 6] [1,4,5] (cD 5 (oR [fA 7 1 3,l1 8 7,bZ 9 .eql 8 0,m1 10 9,Ft 11 10 1 4,EQ 12 10 11,gT 13 10 (.lenL (.t 12)),Fz 14 10 .eql 13 0,pA 15 10 14,m1 2 15] [2]) (oS [bZ 17 .eql 4 2,m1 16 17] [1,4,16] (cD 16 oE (oS [bZ 33 .eql 4 3,m1 32 33] [1,4,32] (cD 32 lL oB))))))
def AfI:IC:=oS [bX 1 0,mC 2 (.b false)] [1] (sQ (oS [fA 3 1 1,l1 4 3] [1,4] AeI) (oR [mC 2 (.b false)] [2]))
@[push_cast]def Atc:List R:=[.t 2]
@[push_cast]def Awf:=Ar oE.eq_1<|Ar lL.eq_1<|Ar oB.eq_1<|Ar AeI.eq_1<|AM AfI.eq_1
theorem Ao4:Au Tryz.prog 40 53 AfI Atc=true:=by kernel_rfl
def rL:IC:=sQ (.block 1 (oS [m1 13 0,m1 14 6,iA 15 13 14 62 5,fA 16 15 0,l1 17 16,m1 18 1,bT 19 .eql 17 18] [0,1,4,6,19] (cD 19 (oR [m1 20 0,m1 21 6,iA 22 20 21 62 5,lA 23 22 5,sT 4 23 5,mC 5 (.b true)] [4,5]) .skip))) (oP [m1 11 6,bZ 12 .add 11 1,m1 6 12] [0,1,4,6])
def Adg:IC:=oS [o1 4 (.alloc (.agg [.s [],.i .i64 0,.s [],.i .i64 0,.nil])),mC 5 (.b false)] [0,1,4] (sQ (oS [mZ 6 0] [0,1,4,6] (.block 0 (.loop (sQ (oS [m1 7 6,m1 8 0,nL 9 8,bT 10 .lss 7 9] [0,1,4,6,10] (cD 10 .skip (.exit 0))) rL)))) (oR [o1 24 (.build [.s [],.i .i64 0,.s [],.i .i64 0,.nil] []),sT 4 24 5,mC 5 (.b false)] [4,5]))
@[push_cast]def Atb:List R:=[.c 4 5 true,.t 5]
@[push_cast]def AwC:=Ar rL.eq_1<|AM Adg.eq_1
theorem Al0:Au Tryz.prog 23 25 Adg Atb=true:=by kernel_rfl
def vO:IC:=sQ (.block 3 (oP [m1 28 4,m1 29 0,m1 30 3,iA 31 29 30 62 5,fA 32 31 4,l1 33 32,m1 34 5,iA 35 33 34 9 1,l1 36 35,nS 37 36,o1 38 (.mx false (.t 28) [.t 37]),m1 4 38] [0,3,4,5])) (oP [m1 26 5,bZ 27 .add 26 1,m1 5 27] [0,3,4,5])
def jY:IC:=oS [m1 39 4,bZ 40 .gtr 39 200,m1 41 40,BI 42 41 0,BI 43 41 3,gF 44 41 (.iaddr (.t 42) (.t 43) 62 5),ER 45 41 44 4,E8 46 41 45,gF 47 41 (.lenL (.t 46)),EI 48 41 .gtr 47 12,pO 49 41 48,m1 50 49,BI 51 50 0,BI 52 50 3,gF 53 50 (.iaddr (.t 51) (.t 52) 62 5),ER 54 50 53 0,E8 55 50 54,gF 56 50 (.lenS (.t 55)),EI 57 50 .gtr 56 60,pO 58 50 57] [0,3,58] (cD 58 (oR [mC 2 (.b false)] [2]) .skip)
def nF:IC:=sQ (.block 1 (oS [m1 12 0,m1 13 3,iA 14 12 13 62 5,fA 15 14 2,l1 16 15,nS 17 16,m1 4 17] [0,3,4] (sQ (oS [mZ 5 0] [0,3,4,5] (.block 2 (.loop (sQ (oS [m1 18 5,m1 19 0,m1 20 3,iA 21 19 20 62 5,fA 22 21 4,l1 23 22,nL 24 23,bT 25 .lss 18 24] [0,3,4,5,25] (cD 25 .skip (.exit 2))) vO)))) jY))) (oP [m1 10 3,bZ 11 .add 10 1,m1 3 11] [0,3])
def Afa:IC:=oS [mC 2 (.b false)] [0] (sQ (oS [mZ 3 0] [0,3] (.block 0 (.loop (sQ (oS [m1 6 3,m1 7 0,nL 8 7,bT 9 .lss 6 8] [0,3,9] (cD 9 .skip (.exit 0))) nF)))) (oR [m1 59 0,nL 60 59,bZ 61 .leq 60 30,m1 2 61] [2]))
@[push_cast]def As7:List R:=[.t 2]
@[push_cast]def Awr:=Ar vO.eq_1<|Ar jY.eq_1<|Ar nF.eq_1<|AM Afa.eq_1
theorem Am5:Au Tryz.prog 18 62 Afa As7=true:=by kernel_rfl
def Afq:IC:=sQ (oS [m1 3 0,o1 4 (.pu (.isnil false) [.t 3])] [0,4] (cD 4 (oR [mC 2 .nil] [2]) .skip)) (oR [o1 5 (.msl true 9 1 []),m1 6 0,o1 7 (.app (.t 5) (.t 6) 9 1),m1 2 7] [2])
def Afn:IC:=oS [mC 2 .nil] [0] Afq
@[push_cast]def AsQ:List R:=[.t 2]
@[push_cast]def AvL:=Ar Afq.eq_1<|AM Afn.eq_1
theorem Am8:Au Tryz.prog 66 8 Afn AsQ=true:=by kernel_rfl
end Go.Ir

namespace Go.Ir
open Go.Proofs
variable(W0:World)
structure AY where
 name:Aa
 type:Int
 text:Aa
 date:Int
 list:List Aa
def AY.enc(v:AY):V:=.agg [.s v.name,.i .i64 v.type,.s v.text,.i .i64 v.date,.sl (v.list.map V.s)]
def AY.wt(v:AY):Nat:=1+v.name.length+v.text.length+v.list.length
theorem AY.enc_eq(v:AY):v.enc=.agg [.s v.name,.i .i64 v.type,.s v.text,.i .i64 v.date,.sl (v.list.map V.s)]:=rfl
def M1:V:=.agg [.s [],.i .i64 0,.s [],.i .i64 0,.nil]
def Bt:List AY->Aa->Option AY
 | [],_=>none
 | v::vs,n=>if v.name==n then some v else Bt vs n
def gV:Option AY->V
 | none=>M1
 | some v=>v.enc
def Jl(o:Option AY):V:=.tup [gV o,.b o.isSome]
theorem FX{vs:List AY}{n:Aa}{v:AY}(h:Bt vs n=some v):v∈vs:=by
 induction vs with
 | nil=>cases h
 | cons x vs a=>rw[Bt] at h;grind
theorem yP(vs:List AY)(n:Aa)(h:vs.length<=2^40):An Tryz.prog W0 23 [.sl (vs.map AY.enc),.s n] [] (Jl (Bt vs n)) []:=by
 generalize hS:Bt vs n=S;unfold Jl;refine Ah (vs:=[gV S,.b S.isSome]) Al0 (by simp) (by simp) λn0 f=>?_;clear f;simp only[push_cast,seval,reduceEqDiff];intros;refine Am vs.length (Inv:=λm st=>∃done a n',vs=done++a/\m=a.length/\Bt a n=S/\st=⟨[(0,.sl (vs.map AY.enc)),(1,.s n),(4,.ref (n0,4) 0),(6,.i .i64 done.length)],[((n0,4),.box M1)],n'⟩) ⟨_,Ak.refl,[],vs,_,rfl,rfl,hS,rfl⟩ ?_;clear hS;rintro m _ ⟨done,a,n',e,rfl,c,rfl⟩;cases a with
 | nil=>simp only[Bt] at c;subst c;simp only[push_cast,seval,reduceEqDiff,M1,e];intros;refine Ae ?_;simp[push_cast,get,gV,M1]
 | cons v a=>
  have g:=AH e;rw[Bt] at c;simp only[push_cast,seval,reduceEqDiff,e,Ad v (done:=done) (by omega),AY.enc_eq,M1]
  repeat' (first|(((first|apply Ab|apply Ag|apply Af)<;>intro _h)<;>simp only[push_cast,seval,reduceEqDiff,_h,e,Ad v (done:=done) (by omega),AY.enc_eq,M1])|intro _)
  ·have _g:=_h;simp only[_g,if_true] at c;subst c;refine Ae ?_;simp[push_cast,get,gV,AY.enc_eq]
  ·have _g:=_h;simp only[_g,AcY,if_false] at c;exact⟨_,_,Ab3 _,Ak.refl,done++[v],a,_,by simp,rfl,c,rfl⟩
theorem Aaw(v:AY)(n:Aa)(a:Id)(σ:Al)(f:lk σ a=some (.box (.s n))):An Tryz.prog W0 65 [v.enc,.ref a 0] σ (.b (v.name==n)) σ:=by
 refine Ah (vs:=[.b (v.name==n)]) An5 (by simp) (λ_ h=>h) λn0 c=>?_;have g:∀j,((n0,j)=a)=False:=λj=>Agu (c _ _ f);simp only[push_cast,seval,reduceEqDiff,g,f,AY.enc_eq]
 repeat' (first|(((first|apply Ab|apply Ag|apply Af)<;>intro _h)<;>simp only[push_cast,seval,reduceEqDiff,_h,g,f,AY.enc_eq])|intro _)
 all_goals (refine AD (by simp[get, *]) (λi e h=>xP (c i e h) h))
theorem mA(l:List Aa):∀y∈l.map V.s,y.ok=true:=by intro y a;obtain⟨x,_,rfl⟩:=Alx.1 a;rfl
theorem AeJ(l:List Aa):∀y∈l.map V.s,(cells y).length=1:=by intro y a;obtain⟨x,_,rfl⟩:=Alx.1 a;rfl
theorem fJ(l:List Aa)(g:l.length<=2^30):An Tryz.prog W0 66 [.sl (l.map V.s)] [] (.sl (l.map V.s)) []:=by
 refine Ah (vs:=[.sl (l.map V.s)]) Am8 (by simp) (by simp) λn0 f=>?_;clear f;have b:l.length<=AK:=by unfold AK;omega
 cases l with
 | nil=>
  simp only[push_cast,seval,reduceEqDiff,Alw,Alo,eq_true (show 0<=AK by decide),eq_true (AeJ [])];intros;refine⟨?_,?_⟩
  ·intros;exact S0 rfl
  ·intros;exact Mu (e:=9) (sz:=1) rfl (mA []) (by simp[lk])
 | cons c cs=>have a:=AeJ (c::cs);rw[Alh] at a;rw[Alh] at *;rw[Ah5] at b;simp only[push_cast,seval,reduceEqDiff,Alo,eq_true (show 0<=AK by decide),eq_true a,AqW,eq_true b];intros;exact Mu (e:=9) (sz:=1) rfl (mA (c::cs)) (by simp[lk])
theorem AqI(v:AY):Sv true 5 v.enc:=Kg rfl
theorem An3:Au Tryz.prog 64 19 (MW 62 5 true) Z1=true:=by kernel_rfl
theorem Atn(vs:List AY)(n:Aa):(Cb (λv=>v.name==n) vs<0/\Bt vs n=none)\/∃(j:Nat) (v:AY),Cb (λv=>v.name==n) vs=(j:Nat)/\vs[j]?=some v/\Bt vs n=some v:=by
 induction vs with
 | nil=>left;exact⟨by simp[Cb],rfl⟩
 | cons x vs b=>
  rw[Bt];cases a:(x.name==n) with
  | true=>right;exact⟨0,x,by simp[Cb,a],rfl,rfl⟩
  | false=>
   rcases b with⟨h1,h2⟩|⟨j,v,h1,h2,h3⟩
   ·left;refine⟨?_,by simpa using h2⟩;simp[Cb,a,h1]
   ·right;refine⟨j+1,v,?_,by simpa using h2,by simpa using h3⟩;simp only[Cb,a,cond_false,h1];omega
theorem M5(vs:List AY)(n:Aa)(q:vs.length<=2^40)(p:∀v∈vs,v.list.length<=2^30):An Tryz.prog W0 39 [.sl (vs.map AY.enc),.s n] [] (Jl (Bt vs n)) []:=by
 have g:=λe σ o=>Dc W0 An3 AY.enc vs (λv=>v.name==n) 65 [] [.ref e 0] σ (λx _=>AqI x) (λx _=>Aaw W0 x n e σ o) (by omega);unfold Jl;refine Ah (vs:=[gV (Bt vs n),.b (Bt vs n).isSome]) AqH (by simp) (by simp) λn0 i=>?_;clear i;simp only[push_cast,seval,reduceEqDiff];intro k1;refine Bq (g (n0,3) _ (by simp[lk])) (λ_ _ h=>h) ?_;rw[CS];rcases Atn vs n with⟨h1,h2⟩|⟨j,v,h1,h2,h3⟩
 ·have f:decide (Cb (λv=>v.name==n) vs<0)=true:=by simpa using h1
  rw[h2];simp only[push_cast,seval,reduceEqDiff,f];intros;refine Ae ?_;simp[push_cast,get,gV,M1]
 ·have m:=fJ W0 v.list (p v (FX h3));have a:(vs.map AY.enc)[j]?=some v.enc:=by grind
  have k:=(Alp.1 h2).1;have c:decide ((j:Int)<0)=false:=by simp
  rw[h3,h1];simp only[push_cast,seval,reduceEqDiff,c,a,if_pos k,AY.enc_eq,Acr];have _h:=trivial;repeat' (first|(first|((first|apply Ab|apply Ag|apply Af)<;>intro _h)|refine Ac m ?_)<;>simp only[push_cast,seval,reduceEqDiff,_h,c,a,if_pos k,AY.enc_eq,Acr]|intro _)
  refine Ae ?_;simp[push_cast,get,gV,AY.enc_eq]
def Gh(v:AY):Bool:=
 if v.type==1 then v.date==0&&(v.list.length:Int)==0 else if v.type==2 then DF v.text&&v.date==0&&(v.list.length:Int)==0
 else if v.type==3 then v.text==[]&&(v.list.length:Int)==0 else if v.type==4 then v.text==[]&&v.date==0 else false
theorem K1(v:AY)(e:v.text.length<=2^30):An Tryz.prog W0 40 [v.enc] [] (.b (Gh v)) []:=by
 have c:=HG W0 v.text (by omega);generalize hS:Gh v=S;unfold Gh at hS;refine Ah (vs:=[.b S]) Ao4 (by simp) (by simp) λn0 a=>?_;clear a;simp only[push_cast,seval,reduceEqDiff,AY.enc_eq,Acr];have _h:=trivial;repeat' (first|(first|((first|apply Ab|apply Ag|apply Af)<;>intro _h)|refine Ac c ?_)<;>simp only[push_cast,seval,reduceEqDiff,_h,AY.enc_eq,Acr]|intro _)
 all_goals (refine Ai ?_;simp only[BF,bq, *] at hS⊢;grind)
def Gp(s:Aa):Bool:=s==[]||s==[105,110,116,101,103,101,114]||s==[112,101,114,99,101,110,116]
def AB(k:Int)(t a st:Aa)(c q:Int):Bool:=
 if k==1 then !(t==[])&&(a==[]&&(st==[]&&(c==0&&q==0)))
 else if k==10 then t==[]&&(a==[]&&(st==[]&&(c==0&&q==0)))
 else BN a&&(t==[]&&(
  if k==2 then st==[]&&(c==0&&q==0)
  else if k==11 then st==[]&&c==0
  else if k==7||k==8||k==9 then st==[]&&q==0
  else if k==3 then Gp st&&(c==0&&q==0)
  else if k==4||k==6 then BN st&&(c==0&&q==0)
  else if k==5 then ET st&&(c==0&&q==0)
  else false))
def Aj.fieldsB(p:Aj):Bool:=AB p.kind p.text p.name p.style p.cases.length p.parts.length
theorem bD(t a st:Aa)(cs:List AJ)(ps:List Aj)(k:a.length<AA)(j:st.length<AA):An Tryz.prog W0 131 [.agg [.i .i64 1,.s t,.s a,.s st,.sl (cs.map AJ.enc),.sl (ps.map Aj.enc)]] [] (.b (AB 1 t a st cs.length ps.length)) []:=by
 generalize hS:AB 1 t a st cs.length ps.length=S;unfold AB Gp at hS;simp only[Int.reduceBEq,bq,if_true,if_false] at hS;have g:(t==t)=true:=by simp
 have c:(a==a)=true:=by simp
 have e:(st==st)=true:=by simp
 have h:Bf 1=false:=rfl;refine Ah (vs:=[.b S]) EE (by simp) (by simp) λn0 f=>?_;clear f;simp only[push_cast,seval,reduceEqDiff,g,c,e,h,Int.reduceBEq,Int.reduceBNe];have _h:=trivial;repeat' (first|(first|((first|apply Ab|apply Ag|apply Af)<;>intro _h)|refine Ac (D9 W0 1) ?_)<;>simp only[push_cast,seval,reduceEqDiff,_h,g,c,e,h,Int.reduceBEq,Int.reduceBNe]|intro _)
 all_goals subst hS
 all_goals (refine Ai ?_;simp only[BF,if_true,if_false, *,bq,reduceEqDiff];done)
theorem Tq(t a st:Aa)(cs:List AJ)(ps:List Aj)(k:a.length<AA)(j:st.length<AA):An Tryz.prog W0 131 [.agg [.i .i64 10,.s t,.s a,.s st,.sl (cs.map AJ.enc),.sl (ps.map Aj.enc)]] [] (.b (AB 10 t a st cs.length ps.length)) []:=by
 generalize hS:AB 10 t a st cs.length ps.length=S;unfold AB Gp at hS;simp only[Int.reduceBEq,bq,if_true,if_false] at hS;have g:(t==t)=true:=by simp
 have c:(a==a)=true:=by simp
 have e:(st==st)=true:=by simp
 have h:Bf 10=false:=rfl;refine Ah (vs:=[.b S]) EE (by simp) (by simp) λn0 f=>?_;clear f;simp only[push_cast,seval,reduceEqDiff,g,c,e,h,Int.reduceBEq,Int.reduceBNe];have _h:=trivial;repeat' (first|(first|((first|apply Ab|apply Ag|apply Af)<;>intro _h)|refine Ac (D9 W0 10) ?_)<;>simp only[push_cast,seval,reduceEqDiff,_h,g,c,e,h,Int.reduceBEq,Int.reduceBNe]|intro _)
 all_goals subst hS
 all_goals (refine Ai ?_;simp only[BF,if_true,if_false, *,bq,reduceEqDiff];done)
theorem aE(t a st:Aa)(cs:List AJ)(ps:List Aj)(k:a.length<AA)(m:st.length<AA):An Tryz.prog W0 131 [.agg [.i .i64 2,.s t,.s a,.s st,.sl (cs.map AJ.enc),.sl (ps.map Aj.enc)]] [] (.b (AB 2 t a st cs.length ps.length)) []:=by
 generalize hS:AB 2 t a st cs.length ps.length=S;unfold AB Gp at hS;simp only[Int.reduceBEq,bq,if_true,if_false] at hS;have g:(t==t)=true:=by simp
 have c:(a==a)=true:=by simp
 have e:(st==st)=true:=by simp
 have h:Bf 2=false:=rfl;have j:=CR W0 a k;generalize BN a=o at j hS;refine Ah (vs:=[.b S]) EE (by simp) (by simp) λn0 f=>?_;clear f;simp only[push_cast,seval,reduceEqDiff,g,c,e,h,Int.reduceBEq,Int.reduceBNe];have _h:=trivial;repeat' (first|(first|((first|apply Ab|apply Ag|apply Af)<;>intro _h)|refine Ac (D9 W0 2) ?_|refine Ac j ?_)<;>simp only[push_cast,seval,reduceEqDiff,_h,g,c,e,h,Int.reduceBEq,Int.reduceBNe]|intro _)
 all_goals subst hS
 all_goals (refine Ai ?_;simp only[BF,if_true,if_false, *,bq,reduceEqDiff];done)
theorem US(t a st:Aa)(cs:List AJ)(ps:List Aj)(k:a.length<AA)(m:st.length<AA):An Tryz.prog W0 131 [.agg [.i .i64 11,.s t,.s a,.s st,.sl (cs.map AJ.enc),.sl (ps.map Aj.enc)]] [] (.b (AB 11 t a st cs.length ps.length)) []:=by
 generalize hS:AB 11 t a st cs.length ps.length=S;unfold AB Gp at hS;simp only[Int.reduceBEq,bq,if_true,if_false] at hS;have g:(t==t)=true:=by simp
 have c:(a==a)=true:=by simp
 have e:(st==st)=true:=by simp
 have h:Bf 11=false:=rfl;have j:=CR W0 a k;generalize BN a=o at j hS;refine Ah (vs:=[.b S]) EE (by simp) (by simp) λn0 f=>?_;clear f;simp only[push_cast,seval,reduceEqDiff,g,c,e,h,Int.reduceBEq,Int.reduceBNe];have _h:=trivial;repeat' (first|(first|((first|apply Ab|apply Ag|apply Af)<;>intro _h)|refine Ac (D9 W0 11) ?_|refine Ac j ?_)<;>simp only[push_cast,seval,reduceEqDiff,_h,g,c,e,h,Int.reduceBEq,Int.reduceBNe]|intro _)
 all_goals subst hS
 all_goals (refine Ai ?_;simp only[BF,if_true,if_false, *,bq,reduceEqDiff];done)
theorem aH(t a st:Aa)(cs:List AJ)(ps:List Aj)(k:a.length<AA)(m:st.length<AA):An Tryz.prog W0 131 [.agg [.i .i64 7,.s t,.s a,.s st,.sl (cs.map AJ.enc),.sl (ps.map Aj.enc)]] [] (.b (AB 7 t a st cs.length ps.length)) []:=by
 generalize hS:AB 7 t a st cs.length ps.length=S;unfold AB Gp at hS;simp only[Int.reduceBEq,bq,if_true,if_false] at hS;have g:(t==t)=true:=by simp
 have c:(a==a)=true:=by simp
 have e:(st==st)=true:=by simp
 have h:Bf 7=true:=rfl;have j:=CR W0 a k;generalize BN a=o at j hS;refine Ah (vs:=[.b S]) EE (by simp) (by simp) λn0 f=>?_;clear f;simp only[push_cast,seval,reduceEqDiff,g,c,e,h,Int.reduceBEq,Int.reduceBNe];have _h:=trivial;repeat' (first|(first|((first|apply Ab|apply Ag|apply Af)<;>intro _h)|refine Ac (D9 W0 7) ?_|refine Ac j ?_)<;>simp only[push_cast,seval,reduceEqDiff,_h,g,c,e,h,Int.reduceBEq,Int.reduceBNe]|intro _)
 all_goals subst hS
 all_goals (refine Ai ?_;simp only[BF,if_true,if_false, *,bq,reduceEqDiff];done)
theorem bF(t a st:Aa)(cs:List AJ)(ps:List Aj)(k:a.length<AA)(m:st.length<AA):An Tryz.prog W0 131 [.agg [.i .i64 8,.s t,.s a,.s st,.sl (cs.map AJ.enc),.sl (ps.map Aj.enc)]] [] (.b (AB 8 t a st cs.length ps.length)) []:=by
 generalize hS:AB 8 t a st cs.length ps.length=S;unfold AB Gp at hS;simp only[Int.reduceBEq,bq,if_true,if_false] at hS;have g:(t==t)=true:=by simp
 have c:(a==a)=true:=by simp
 have e:(st==st)=true:=by simp
 have h:Bf 8=true:=rfl;have j:=CR W0 a k;generalize BN a=o at j hS;refine Ah (vs:=[.b S]) EE (by simp) (by simp) λn0 f=>?_;clear f;simp only[push_cast,seval,reduceEqDiff,g,c,e,h,Int.reduceBEq,Int.reduceBNe];have _h:=trivial;repeat' (first|(first|((first|apply Ab|apply Ag|apply Af)<;>intro _h)|refine Ac (D9 W0 8) ?_|refine Ac j ?_)<;>simp only[push_cast,seval,reduceEqDiff,_h,g,c,e,h,Int.reduceBEq,Int.reduceBNe]|intro _)
 all_goals subst hS
 all_goals (refine Ai ?_;simp only[BF,if_true,if_false, *,bq,reduceEqDiff];done)
theorem ZV(t a st:Aa)(cs:List AJ)(ps:List Aj)(k:a.length<AA)(m:st.length<AA):An Tryz.prog W0 131 [.agg [.i .i64 9,.s t,.s a,.s st,.sl (cs.map AJ.enc),.sl (ps.map Aj.enc)]] [] (.b (AB 9 t a st cs.length ps.length)) []:=by
 generalize hS:AB 9 t a st cs.length ps.length=S;unfold AB Gp at hS;simp only[Int.reduceBEq,bq,if_true,if_false] at hS;have g:(t==t)=true:=by simp
 have c:(a==a)=true:=by simp
 have e:(st==st)=true:=by simp
 have h:Bf 9=true:=rfl;have j:=CR W0 a k;generalize BN a=o at j hS;refine Ah (vs:=[.b S]) EE (by simp) (by simp) λn0 f=>?_;clear f;simp only[push_cast,seval,reduceEqDiff,g,c,e,h,Int.reduceBEq,Int.reduceBNe];have _h:=trivial;repeat' (first|(first|((first|apply Ab|apply Ag|apply Af)<;>intro _h)|refine Ac (D9 W0 9) ?_|refine Ac j ?_)<;>simp only[push_cast,seval,reduceEqDiff,_h,g,c,e,h,Int.reduceBEq,Int.reduceBNe]|intro _)
 all_goals subst hS
 all_goals (refine Ai ?_;simp only[BF,if_true,if_false, *,bq,reduceEqDiff];done)
set_option maxHeartbeats 4000000 in
theorem Zv(t a st:Aa)(cs:List AJ)(ps:List Aj)(k:a.length<AA)(m:st.length<AA):An Tryz.prog W0 131 [.agg [.i .i64 3,.s t,.s a,.s st,.sl (cs.map AJ.enc),.sl (ps.map Aj.enc)]] [] (.b (AB 3 t a st cs.length ps.length)) []:=by
 generalize hS:AB 3 t a st cs.length ps.length=S;unfold AB Gp at hS;simp only[Int.reduceBEq,bq,if_true,if_false] at hS;have g:(t==t)=true:=by simp
 have c:(a==a)=true:=by simp
 have e:(st==st)=true:=by simp
 have h:Bf 3=false:=rfl;have j:=CR W0 a k;generalize BN a=o at j hS;refine Ah (vs:=[.b S]) EE (by simp) (by simp) λn0 f=>?_;clear f;simp only[push_cast,seval,reduceEqDiff,g,c,e,h,Int.reduceBEq,Int.reduceBNe];have _h:=trivial;repeat' (first|(first|((first|apply Ab|apply Ag|apply Af)<;>intro _h)|refine Ac (D9 W0 3) ?_|refine Ac j ?_)<;>simp only[push_cast,seval,reduceEqDiff,_h,g,c,e,h,Int.reduceBEq,Int.reduceBNe]|intro _)
 all_goals subst hS
 all_goals (refine Ai ?_;simp only[BF,if_true,if_false, *,bq,reduceEqDiff];done)
theorem aK(t a st:Aa)(cs:List AJ)(ps:List Aj)(m:a.length<AA)(g:st.length<AA):An Tryz.prog W0 131 [.agg [.i .i64 4,.s t,.s a,.s st,.sl (cs.map AJ.enc),.sl (ps.map Aj.enc)]] [] (.b (AB 4 t a st cs.length ps.length)) []:=by
 generalize hS:AB 4 t a st cs.length ps.length=S;unfold AB Gp at hS;simp only[Int.reduceBEq,bq,if_true,if_false] at hS;have h:(t==t)=true:=by simp
 have c:(a==a)=true:=by simp
 have e:(st==st)=true:=by simp
 have j:Bf 4=false:=rfl;have k:=CR W0 a m;generalize BN a=o at k hS;have v2:=CR W0 st g;generalize BN st=p at v2 hS;refine Ah (vs:=[.b S]) EE (by simp) (by simp) λn0 f=>?_;clear f;simp only[push_cast,seval,reduceEqDiff,h,c,e,j,Int.reduceBEq,Int.reduceBNe];have _h:=trivial;repeat' (first|(first|((first|apply Ab|apply Ag|apply Af)<;>intro _h)|refine Ac (D9 W0 4) ?_|refine Ac k ?_|refine Ac v2 ?_)<;>simp only[push_cast,seval,reduceEqDiff,_h,h,c,e,j,Int.reduceBEq,Int.reduceBNe]|intro _)
 all_goals subst hS
 all_goals (refine Ai ?_;simp only[BF,if_true,if_false, *,bq,reduceEqDiff];done)
theorem ZT(t a st:Aa)(cs:List AJ)(ps:List Aj)(m:a.length<AA)(g:st.length<AA):An Tryz.prog W0 131 [.agg [.i .i64 6,.s t,.s a,.s st,.sl (cs.map AJ.enc),.sl (ps.map Aj.enc)]] [] (.b (AB 6 t a st cs.length ps.length)) []:=by
 generalize hS:AB 6 t a st cs.length ps.length=S;unfold AB Gp at hS;simp only[Int.reduceBEq,bq,if_true,if_false] at hS;have h:(t==t)=true:=by simp
 have c:(a==a)=true:=by simp
 have e:(st==st)=true:=by simp
 have j:Bf 6=false:=rfl;have k:=CR W0 a m;generalize BN a=o at k hS;have v2:=CR W0 st g;generalize BN st=p at v2 hS;refine Ah (vs:=[.b S]) EE (by simp) (by simp) λn0 f=>?_;clear f;simp only[push_cast,seval,reduceEqDiff,h,c,e,j,Int.reduceBEq,Int.reduceBNe];have _h:=trivial;repeat' (first|(first|((first|apply Ab|apply Ag|apply Af)<;>intro _h)|refine Ac (D9 W0 6) ?_|refine Ac k ?_|refine Ac v2 ?_)<;>simp only[push_cast,seval,reduceEqDiff,_h,h,c,e,j,Int.reduceBEq,Int.reduceBNe]|intro _)
 all_goals subst hS
 all_goals (refine Ai ?_;simp only[BF,if_true,if_false, *,bq,reduceEqDiff];done)
theorem YU(t a st:Aa)(cs:List AJ)(ps:List Aj)(m:a.length<AA)(g:st.length<AA):An Tryz.prog W0 131 [.agg [.i .i64 5,.s t,.s a,.s st,.sl (cs.map AJ.enc),.sl (ps.map Aj.enc)]] [] (.b (AB 5 t a st cs.length ps.length)) []:=by
 generalize hS:AB 5 t a st cs.length ps.length=S;unfold AB Gp at hS;simp only[Int.reduceBEq,bq,if_true,if_false] at hS;have h:(t==t)=true:=by simp
 have c:(a==a)=true:=by simp
 have e:(st==st)=true:=by simp
 have j:Bf 5=false:=rfl;have k:=CR W0 a m;generalize BN a=o at k hS;have v3:=RZ W0 st g;generalize ET st=p at v3 hS;refine Ah (vs:=[.b S]) EE (by simp) (by simp) λn0 f=>?_;clear f;simp only[push_cast,seval,reduceEqDiff,h,c,e,j,Int.reduceBEq,Int.reduceBNe];have _h:=trivial;repeat' (first|(first|((first|apply Ab|apply Ag|apply Af)<;>intro _h)|refine Ac (D9 W0 5) ?_|refine Ac k ?_|refine Ac v3 ?_)<;>simp only[push_cast,seval,reduceEqDiff,_h,h,c,e,j,Int.reduceBEq,Int.reduceBNe]|intro _)
 all_goals subst hS
 all_goals (refine Ai ?_;simp only[BF,if_true,if_false, *,bq,reduceEqDiff];done)
theorem Zq(k:Int)(t u st:Aa)(cs:List AJ)(ps:List Aj)(e:(k==1)=false)(f:(k==2)=false)(g:(k==3)=false)(h:(k==4)=false)(j:(k==5)=false)(m:(k==6)=false)(o:(k==7)=false)(p:(k==8)=false)(q:(k==9)=false)(a:(k==10)=false)(c:(k==11)=false):An Tryz.prog W0 131 [.agg [.i .i64 k,.s t,.s u,.s st,.sl (cs.map AJ.enc),.sl (ps.map Aj.enc)]] [] (.b (AB k t u st cs.length ps.length)) []:=by
 generalize hS:AB k t u st cs.length ps.length=S;unfold AB at hS;simp only[e,f,g,h,j,m,o,p,q,a,c,Aw1,AcY,if_false,AuB] at hS;subst hS;have v:(k !=1)=true:=by simp at e⊢;exact e
 have w:(k !=10)=true:=by simp at a⊢;exact a
 refine Ah (vs:=[.b false]) EE (by simp) (by simp) λn0 r=>?_;clear r;simp only[push_cast,seval,reduceEqDiff,e,f,g,h,j,m,o,p,q,a,c,v,w]
 repeat' (first|(((first|apply Ab|apply Ag|apply Af)<;>intro _h)<;>simp only[push_cast,seval,reduceEqDiff,_h,e,f,g,h,j,m,o,p,q,a,c,v,w])|intro _)
 all_goals (refine Ai ?_;simp only[BF,if_true,if_false, *,bq,reduceEqDiff];done)
theorem sH(p:Aj)(a:p.name.length<AA)(c:p.style.length<AA):An Tryz.prog W0 131 [p.enc] [] (.b p.fieldsB) []:=by
 unfold Aj.fieldsB;obtain⟨k,t,e,st,cs,ps⟩:=p;simp only at a c⊢;rw[Aj.enc_eq];simp only;have v:k=1\/k=2\/k=3\/k=4\/k=5\/k=6\/k=7\/k=8\/k=9\/k=10\/k=11\/((k==1)=false/\(k==2)=false/\(k==3)=false/\(k==4)=false/\(k==5)=false/\(k==6)=false/\(k==7)=false/\(k==8)=false/\(k==9)=false/\(k==10)=false/\(k==11)=false):=by grind
 rcases v with rfl|rfl|rfl|rfl|rfl|rfl|rfl|rfl|rfl|rfl|rfl|⟨h,i,j,m,o,q,r,s,u,f,g⟩
 ·exact bD W0 t e st cs ps a c
 ·exact aE W0 t e st cs ps a c
 ·exact Zv W0 t e st cs ps a c
 ·exact aK W0 t e st cs ps a c
 ·exact YU W0 t e st cs ps a c
 ·exact ZT W0 t e st cs ps a c
 ·exact aH W0 t e st cs ps a c
 ·exact bF W0 t e st cs ps a c
 ·exact ZV W0 t e st cs ps a c
 ·exact Tq W0 t e st cs ps a c
 ·exact US W0 t e st cs ps a c
 ·exact Zq W0 k t e st cs ps h i j m o q r s u f g
end Go.Ir

namespace Go.Ir
open Go.Proofs
variable{P:Program}{W0:World}{nt n:Nat}{Q:Exit→St→Prop}{env:AE}{σ:Al}
def Wz:IC:=sQ (oS [fA 20 5 0,l1 21 20,fA 22 11 0,l1 23 22,q2 24 185 21 23,nT 25 24,m1 26 25,BI 27 26 9,ER 28 26 11 0,E8 29 26 28,gF 30 26 (.rdm (.mget .str (.b false) false) (.t 27) [.t 29]),pO 31 26 30,m1 32 31,gF 33 32 (.load (.t 4) 1 true),ER 34 32 11 1,E8 35 32 34,BI 36 32 2,BI 37 32 3,BI 38 32 37,ER 39 38 5 0,E8 40 38 39,EI 41 38 .neq 40 9,gF 42 32 (.pick (.t 38) (.c (.b true)) (.t 41)),gF 43 32 (.calls 95 [.t 33,.t 35,.t 36,.t 42]),gF 44 32 (.not (.t 43)),pO 45 32 44] [2,3,4,5,9,11,14,15,16,45] (cD 45 (oR [mC 8 (.b false)] [8]) .skip)) (oP [m1 46 9,fA 47 11 0,l1 48 47,o0 (.wrm (.mput .str) (.t 46) [.t 48,.c (.b true)])] [2,3,4,5,9,14,15,16])
def Yb:IC:=sQ (.block 1 (oS [iA 18 14 16 118 2,lA 19 18 2,o1 11 (.alloc (.agg [.s [],.nil])),sT 11 19 2] [2,3,4,5,9,11,14,15,16] Wz)) (oP [bZ 49 .add 16 1,m1 16 49] [2,3,4,5,9,14,15,16])
def Wg:IC:=oR [fA 50 5 4,l1 51 50,nL 52 51,bZ 53 .leq 52 20,m1 54 53,BL 55 54 9,gT 56 54 (.rdm (.mget .str (.b false) false) (.t 55) [.c (.s [111,116,104,101,114])]),pA 57 54 56,m1 8 57] [8]
def fO:IC:=sQ (oS [fA 13 5 4,l1 14 13,nL 15 14,mZ 16 0] [2,3,4,5,9,14,15,16] (.block 0 (.loop (oS [bT 17 .lss 16 15] [2,3,4,5,9,14,15,16,17] (sQ (cD 17 .skip (.exit 0)) Yb))))) Wg
def wM:IC:=oS [bX 4 0,bX 5 1,mC 8 (.b false)] [2,3,4,5] (oS [o1 12 (.mkm .mkmap []),m1 9 12] [2,3,4,5,9] fO)
@[push_cast]def ApC:List R:=[.t 8]
@[push_cast]def Avi:=Ar Wz.eq_1<|Ar Yb.eq_1<|Ar Wg.eq_1<|Ar fO.eq_1<|AM wM.eq_1
theorem Ajd:Au Tryz.prog 132 58 wM ApC=true:=by kernel_rfl
def uG:IC:=oS [fA 81 10 0,l1 82 81,bZ 83 .neq 82 11,m1 84 83,Ft 85 84 10 2,EQ 86 84 85,gT 87 84 (.bin .neq (.t 86) (.c (.s []))),pA 88 84 87] [1,2,3,4,10,11,12,13,88] (cD 88 (oP [fA 89 4 0,l1 90 89,fA 91 10 2,l1 92 91,o0 (.wrm (.mput .str) (.t 90) [.t 92,.c (.b true)])] [1,2,3,4,11,12,13]) .skip)
def cU:IC:=sQ (oS [fA 65 10 0,l1 66 65,q1 67 79 66,m1 68 67,BL 69 68 2,Fz 70 68 .geq 69 8,BL 71 68 70,gF 72 71 (.load (.t 4) 1 true),gF 73 71 (.load (.t 10) 6 true),BI 74 71 2,EI 75 71 .add 74 1,BI 76 71 3,gF 77 71 (.calls 132 [.t 72,.t 73,.t 75,.t 76]),gF 78 71 (.not (.t 77)),gT 79 68 (.pick (.t 71) (.c (.b true)) (.t 78)),pA 80 68 79] [1,2,3,4,10,11,12,13,80] (cD 80 (oR [mC 8 (.b false)] [8]) .skip)) uG
def wE:IC:=sQ (oS [fA 48 10 0,l1 49 48,bZ 50 .eql 49 11,m1 51 50,BL 52 51 2,Fz 53 51 .geq 52 8,BL 54 51 53,gF 55 54 (.load (.t 4) 1 true),ER 56 54 10 5,E8 57 54 56,BI 58 54 2,EI 59 54 .add 58 1,BI 60 54 3,gF 61 54 (.calls 95 [.t 55,.t 57,.t 59,.t 60]),gF 62 54 (.not (.t 61)),gT 63 51 (.pick (.t 54) (.c (.b true)) (.t 62)),pA 64 51 63] [1,2,3,4,10,11,12,13,64] (cD 64 (oR [mC 8 (.b false)] [8]) .skip)) cU
def lO:IC:=sQ (oS [lA 18 10 6,q1 19 131 18,nT 20 19,m1 21 20,ER 22 21 10 0,E8 23 21 22,EI 24 21 .eql 23 10,BI 25 21 24,BL 26 25 3,gT 27 25 (.not (.t 26)),gF 28 21 (.pick (.t 25) (.t 27) (.c (.b false))),pO 29 21 28,m1 30 29,BI 31 30 9,EI 32 30 .gtr 31 0,BI 33 30 32,Ft 34 33 10 0,EQ 35 33 34,Fz 36 33 .eql 35 1,gF 37 30 (.pick (.t 33) (.t 36) (.c (.b false))),BI 38 30 37,BL 39 38 1,BL 40 38 9,Fz 41 38 .sub 40 1,gT 42 38 (.iaddr (.t 39) (.t 41) 116 6),Ft 43 38 42 0,EQ 44 38 43,Fz 45 38 .eql 44 1,gF 46 30 (.pick (.t 38) (.t 45) (.c (.b false))),pO 47 30 46] [1,2,3,4,10,11,12,13,47] (cD 47 (oR [mC 8 (.b false)] [8]) .skip)) wE
def mD:IC:=sQ (.block 1 (oS [m1 15 13,iA 16 11 13 116 6,lA 17 16 6,o1 10 (.alloc (.agg [.i .i64 0,.s [],.s [],.s [],.nil,.nil])),m1 9 15,sT 10 17 6] [1,2,3,4,9,10,11,12,13] lO)) (oP [bZ 93 .add 13 1,m1 13 93] [1,2,3,4,11,12,13])
def Aeb:IC:=sQ (oS [m1 11 1,nL 12 11,mZ 13 0] [1,2,3,4,11,12,13] (.block 0 (.loop (oS [bT 14 .lss 13 12] [1,2,3,4,11,12,13,14] (sQ (cD 14 .skip (.exit 0)) mD))))) (oR [mC 8 (.b true)] [8])
def Afr:IC:=oS [bX 4 0,mC 8 (.b false)] [1,2,3,4] Aeb
@[push_cast]def Aty:List R:=[.t 8]
@[push_cast]def Awt:=Ar uG.eq_1<|Ar cU.eq_1<|Ar wE.eq_1<|Ar lO.eq_1<|Ar mD.eq_1<|Ar Aeb.eq_1<|AM Afr.eq_1
theorem ApP:Au Tryz.prog 95 94 Afr Aty=true:=by kernel_rfl
def uR:IC:=oR [o1 1 (.mkm .mkmap []),o0 (.wrm (.mput .str) (.t 1) [.c (.s [110,117,109,98,101,114]),ci 3]),o0 (.wrm (.mput .str) (.t 1) [.c (.s [117,110,105,116]),ci 4]),o0 (.wrm (.mput .str) (.t 1) [.c (.s [100,97,116,101]),ci 5]),o0 (.wrm (.mput .str) (.t 1) [.c (.s [108,105,115,116]),ci 6]),o0 (.wrm (.mput .str) (.t 1) [.c (.s [112,108,117,114,97,108]),ci 7]),o0 (.wrm (.mput .str) (.t 1) [.c (.s [111,114,100,105,110,97,108]),ci 8]),o0 (.wrm (.mput .str) (.t 1) [.c (.s [115,101,108,101,99,116]),ci 9]),m1 2 1,m1 0 2] [0]
def pW:IC:=oS [mC 0 .nm] [] uR
@[push_cast]def Aox:List R:=[.t 0]
@[push_cast]def Auo:=Ar uR.eq_1<|AM pW.eq_1
theorem AgB:Au Tryz.prog 134 3 pW Aox=true:=by kernel_rfl
def jL:IC:=.ops [m1 96 3,fA 97 5 2,l1 98 97,nS 99 98,o1 100 (.bin .add (ci 2) (.t 99)),fA 101 5 5,l1 102 101,q1 103 96 102,bT 104 .add 100 103,bT 105 .add 96 104,m1 3 105] [3,10,11,12] [[1,2],[2,3],[3,4],[5,6],[6,7],[4,8],[7,8],[0,9],[8,9],[0,10],[9,10]]
def qE:IC:=oS [m1 86 3,fA 87 5 2,l1 88 87,nS 89 88,o1 90 (.bin .add (ci 3) (.t 89)),bT 91 .add 86 90,m1 3 91] [3,5,10,11,12] (oS [fA 92 5 5,l1 93 92,nL 94 93,bZ 95 .gtr 94 0] [3,5,10,11,12,95] (cD 95 jL .skip))
def vF:IC:=oS [m1 31 7,fA 32 5 0,l1 33 32,bT 34 .eql 31 33] [3,5,6,10,11,12,25,34] (cD 34 (oP [m1 35 3,m1 36 6,nS 37 36,o1 38 (.bin .add (ci 2) (.t 37)),bT 39 .add 35 38,m1 3 39] [3,5,10,11,12,25]) .skip)
def dJ:IC:=sQ (.mnext 26 27 (.t 25) [3,5,10,11,12,25,27]) (sQ (cD 27 .skip (.exit 3)) (.block 4 (oS [o1 28 (.mentry (.t 25)),xT 29 28 0,xT 30 28 1,m1 6 29,m1 7 30] [3,5,6,7,10,11,12,25] vF)))
def rT:IC:=.ops [m1 61 3,fA 62 9 0,l1 63 62,nS 64 63,o1 65 (.bin .add (ci 4) (.t 64)),fA 66 9 1,l1 67 66,q1 68 96 67,bT 69 .add 65 68,bT 70 .add 61 69,m1 3 70] [3,10,11,12,55,56,57] [[1,2],[2,3],[3,4],[5,6],[6,7],[4,8],[7,8],[0,9],[8,9],[0,10],[9,10]]
def uM:IC:=sQ (.block 6 (oS [iA 59 55 57 118 2,lA 60 59 2,o1 9 (.alloc (.agg [.s [],.nil])),sT 9 60 2] [3,9,10,11,12,55,56,57] rT)) (oP [bZ 71 .add 57 1,m1 57 71] [3,10,11,12,55,56,57])
def t7:IC:=oS [fA 54 5 4,l1 55 54,nL 56 55,mZ 57 0] [3,10,11,12,55,56,57] (.block 5 (.loop (oS [bT 58 .lss 57 56] [3,10,11,12,55,56,57,58] (sQ (cD 58 .skip (.exit 5)) uM))))
def eG:IC:=sQ (oS [fA 40 5 3,l1 41 40,bC 42 .neq 41 (.s [])] [3,5,10,11,12,42] (cD 42 (oP [m1 43 3,fA 44 5 3,l1 45 44,nS 46 45,o1 47 (.bin .add (ci 2) (.t 46)),bT 48 .add 43 47,m1 3 48] [3,5,10,11,12]) .skip)) (sQ (oS [fA 49 5 0,l1 50 49,q1 51 79 50] [3,5,10,11,12,51] (cD 51 (oP [m1 52 3,bZ 53 .add 52 1,m1 3 53] [3,5,10,11,12]) .skip)) t7)
def oI:IC:=oS [m1 18 3,fA 19 5 2,l1 20 19,nS 21 20,o1 22 (.bin .add (ci 2) (.t 21)),bT 23 .add 18 22,m1 3 23] [3,5,10,11,12] (sQ (oS [o1 24 (.calln 134 []),o1 25 (.mrange (.t 24))] [3,5,10,11,12,25] (.block 3 (.loop dJ))) eG)
def qK:IC:=cD 72 (oP [m1 74 3,fA 75 5 1,l1 76 75,q1 77 133 76,nS 78 77,bT 79 .add 74 78,m1 3 79] [3,10,11,12]) (oS [bZ 81 .eql 17 10,m1 80 81] [3,5,10,11,12,17,80] (cD 80 (oP [m1 82 3,bZ 83 .add 82 1,m1 3 83] [3,10,11,12]) (oS [bZ 85 .eql 17 11,m1 84 85] [3,5,10,11,12,84] (cD 84 qE oI))))
def cW:IC:=sQ (.block 1 (oS [iA 14 10 12 116 6,lA 15 14 6,o1 5 (.alloc (.agg [.i .i64 0,.s [],.s [],.s [],.nil,.nil])),sT 5 15 6] [3,5,10,11,12] (oS [fA 16 5 0,l1 17 16] [3,5,10,11,12,17] (.block 2 (oS [bZ 73 .eql 17 1,m1 72 73] [3,5,10,11,12,17,72] qK))))) (oP [bZ 106 .add 12 1,m1 12 106] [3,10,11,12])
def Ael:IC:=sQ (oS [m1 10 0,nL 11 10,mZ 12 0] [3,10,11,12] (.block 0 (.loop (oS [bT 13 .lss 12 11] [3,10,11,12,13] (sQ (cD 13 .skip (.exit 0)) cW))))) (oR [m1 107 3,m1 2 107] [2])
def Af8:IC:=oS [mZ 2 0] [0] (oS [mZ 3 0] [0,3] Ael)
@[push_cast]def Asc:List R:=[.t 2]
@[push_cast]def AwB:=Ar jL.eq_1<|Ar qE.eq_1<|Ar vF.eq_1<|Ar dJ.eq_1<|Ar rT.eq_1<|Ar uM.eq_1<|Ar t7.eq_1<|Ar eG.eq_1<|Ar oI.eq_1<|Ar qK.eq_1<|Ar cW.eq_1<|Ar Ael.eq_1<|AM Af8.eq_1
theorem ApI:Au Tryz.prog 96 108 Af8 Asc=true:=by kernel_rfl
def Aek:IC:=oR [lA 8 5 1,m1 9 0,m1 10 1,o1 11 (.calls 95 [.t 8,.t 9,ci 0,.t 10]),m1 12 11,Ft 13 12 5 0,EQ 14 12 13,gT 15 12 (.rdm .mlen (.t 14) []),Fz 16 12 .leq 15 20,pA 17 12 16,m1 18 17,BL 19 18 0,gT 20 18 (.call 96 [.t 19]),Fz 21 18 .leq 20 4000,pA 22 18 21,m1 4 22] [4]
def AdG:IC:=oS [mC 4 (.b false)] [0,1] (oS [o1 6 (.mkm .mkmap []),o1 7 (.build [.nm] [(0,1,.t 6)]),o1 5 (.alloc (.agg [.nm])),sT 5 7 1] [0,1,5] Aek)
@[push_cast]def Asl:List R:=[.t 4]
@[push_cast]def Aww:=Ar Aek.eq_1<|AM AdG.eq_1
theorem AoZ:Au Tryz.prog 59 23 AdG Asl=true:=by kernel_rfl
def Aeo:IC:=oS [mC 2 (.b false)] [0] (oR [m1 3 0,o1 4 (.call 59 [.t 3,.c (.b false)]),m1 2 4] [2])
@[push_cast]def ArU:List R:=[.t 2]
@[push_cast]def Awd:=AM Aeo.eq_1
theorem Ao8:Au Tryz.prog 35 5 Aeo ArU=true:=by kernel_rfl
end Go.Ir
section
namespace Go.Ir
open Go.Proofs
variable(W0:World)
mutual
def Aj.chk:Aj->Int->Bool->List Aa->Bool×List Aa
 | ⟨k,t,b,st,cs,ps⟩,d,c,l=>
  match(if k==11 then(if decide (d>=8) then(false,l) else BM ps (d+1) c false l) else(true,l)) with
  | (false,l1)=>(false,l1)
  | (true,l1)=>match(if Bf k then(if decide (d>=8) then(false,l1) else DJ cs k (d+1) c cs.length [] l1) else(true,l1)) with
   | (false,a)=>(false,a)
   | (true,a)=>(true,if !(k==11)&&!(b==[]) then NP b a else a)
def BM:List Aj->Int->Bool->Bool->List Aa->Bool×List Aa
 | [],_,_,_,l=>(true,l)
 | p::ps,d,c,a,l=>
  if !p.fieldsB||(p.kind==10&&!c)||(a&&p.kind==1) then(false,l) else
  match p.chk d c l with
  | (false,l1)=>(false,l1)
  | (true,l1)=>BM ps d c (p.kind==1) l1
def DJ:List (Aa×List Aj)->Int->Int->Bool->Nat->List Aa->List Aa->Bool×List Aa
 | [],_,_,_,n,seen,l=>(decide ((n:Int)<=20)&&seen.contains CT,l)
 | (key,ps)::cs,k,d,c,n,seen,l=>
  if !Lx k key||seen.contains key then(false,l) else
  match BM ps d (c||(k !=9)) false l with
  | (false,l1)=>(false,l1)
  | (true,l1)=>DJ cs k d c n (seen++[key]) l1
end
theorem Aj.chk_eq(p:Aj)(d:Int)(c:Bool)(l:List Aa):p.chk d c l =
  match(if p.kind==11 then(if decide (d>=8) then(false,l) else BM p.parts (d+1) c false l) else(true,l)) with
  | (false,l1)=>(false,l1)
  | (true,l1)=>match(if Bf p.kind then(if decide (d>=8) then(false,l1) else DJ p.cases p.kind (d+1) c p.cases.length [] l1) else(true,l1)) with
   | (false,a)=>(false,a)
   | (true,a)=>(true,if !(p.kind==11)&&!(p.name==[]) then NP p.name a else a):=by cases p;simp only[Aj.chk]
theorem IB(p:Aj)(ps:List Aj)(d:Int)(c a:Bool)(l:List Aa):BM (p::ps) d c a l =
  if !p.fieldsB||(p.kind==10&&!c)||(a&&p.kind==1) then(false,l) else
  match p.chk d c l with
  | (false,l1)=>(false,l1)
  | (true,l1)=>BM ps d c (p.kind==1) l1:=by simp only[BM]
theorem Jc(x:AJ)(cs:List AJ)(k d:Int)(c:Bool)(n:Nat)(seen l:List Aa):DJ (x::cs) k d c n seen l =
  if !Lx k x.1||seen.contains x.1 then(false,l) else
  match BM x.2 d (c||(k !=9)) false l with
  | (false,l1)=>(false,l1)
  | (true,l1)=>DJ cs k d c n (seen++[x.1]) l1:=by obtain⟨a,b⟩:=x;simp only[DJ]
theorem QS{id:Id}{a:Nat}(h:id.1<a)(j:Nat):((a,j)=id)=False:=by grind
theorem M7{id:Id}{a:Nat}(h:id.1<a)(j:Nat):(id=(a,j))=False:=by grind
theorem Aly{id:Id}{e e':Ax}:∀i,lk [(id,e')] i≠none->lk [(id,e)] i≠none:=by intro i h;simp only[lk] at h⊢;grind
theorem yQ(p:Aj)(d:Int)(c:Bool)(l:List Aa)(id:Id)(K:p.wt<=2^24)(hp:∀x∈p.cases,∀l,An Tryz.prog W0 95 [.agg [.arr id],.sl (x.2.map Aj.enc),.i .i64 d,.b (c||(p.kind !=9))] [(id,.map (CN l))] (.b (BM x.2 d (c||(p.kind !=9)) false l).1) [(id,.map (CN (BM x.2 d (c||(p.kind !=9)) false l).2))]) :
  An Tryz.prog W0 132 [.agg [.arr id],p.enc,.i .i64 d,.b c] [(id,.map (CN l))] (.b (DJ p.cases p.kind d c p.cases.length [] l).1) [(id,.map (CN (DJ p.cases p.kind d c p.cases.length [] l).2))]:=by
 rw[p.wt_eq] at K;have N:=Ep p.cases;generalize hS:DJ p.cases p.kind d c p.cases.length [] l=S;refine Ah (vs:=[.b S.1]) Ajd (by simp) Aly λn0 D=>?_;have C:id.1<n0:=D id (.map (CN l)) (by simp[lk]);clear D;rw[Aj.enc_eq];have t:∀j,((n0,j)=id)=False:=λj=>QS C j;have a:∀j,(id=(n0,j))=False:=λj=>M7 C j;simp only[push_cast,seval,reduceEqDiff,t,a];intro k1 k2 k3;refine Am p.cases.length (Inv:=λm st=>∃r w n' seen o z,p.cases=r++w/\m=w.length/\DJ w p.kind d c p.cases.length seen o=S/\id.1<z/\id.1<n'/\st=⟨[(2,.i .i64 d),(3,.b c),(4,.ref (n0,4) 0),(5,.ref (n0,5) 0),(9,.arr (z,12)),(14,.sl (p.cases.map AJ.enc)),(15,.i .i64 p.cases.length),(16,.i .i64 r.length)],[(id,.map (CN o)),((z,12),.map (CN seen)),((n0,5),.box p.v),((n0,4),.box (.agg [.arr id]))],n'⟩) ⟨_,Ak.drop (jW (σ:=[_,_,_]) ?_) (Abm _),[],p.cases,_,[],l,_,rfl,rfl,hS,?_,?_,rfl⟩ ?_
 ·grind
 ·omega
 ·omega
 clear hS;rintro m _ ⟨r,w,n',seen,o,z,e,rfl,y,A,O,rfl⟩;unfold Aj.v;have u:∀j,((z,j)=id)=False:=λj=>QS A j;have f:∀j,(id=(z,j))=False:=λj=>M7 A j;have h:∀k j,((n'+1+k,j)=id)=False:=λk j=>QS (by omega) j;have g:∀k j,(id=(n'+1+k,j))=False:=λk j=>M7 (by omega) j;cases w with
 | nil=>
  rw[DJ] at y;subst y;rcases Ga CT seen with⟨h1,_,i,h2,_⟩|⟨h1,_,h2⟩
  all_goals unfold CT at h2
  ·skip;simp only[push_cast,seval,reduceEqDiff,t,a,u,f,h,g,h2,e]
   repeat' (first|(((first|apply Ab|apply Ag|apply Af)<;>intro _h)<;>simp only[push_cast,seval,reduceEqDiff,_h,t,a,u,f,h,g,h2])|intro _)
   all_goals (refine AD ?_ Cq;simp only[BF,h1,if_true,if_false,Auy,AuB,reduceEqDiff];done)
  ·skip;simp only[push_cast,seval,reduceEqDiff,t,a,u,f,h,g,h2,e]
   repeat' (first|(((first|apply Ab|apply Ag|apply Af)<;>intro _h)<;>simp only[push_cast,seval,reduceEqDiff,_h,t,a,u,f,h,g,h2])|intro _)
   all_goals (refine AD ?_ Cq;simp only[BF,h1,if_true,if_false,Auy,AuB,reduceEqDiff];done)
 | cons x w=>
  have M:=AH e;have B:x∈p.cases:=by rw[e];simp
  have T:=Cm B;have G:=AhO W0 p.kind x.1 (by omega);have F:c=true->An Tryz.prog W0 95 [.agg [.arr id],.sl (x.2.map Aj.enc),.i .i64 d,.b true] [(id,.map (CN o))] (.b (BM x.2 d (c||(p.kind !=9)) false o).1) [(id,.map (CN (BM x.2 d (c||(p.kind !=9)) false o).2))]:=by intro L;have:=hp x B o;grind
  have E:c=false->An Tryz.prog W0 95 [.agg [.arr id],.sl (x.2.map Aj.enc),.i .i64 d,.b (p.kind !=9)] [(id,.map (CN o))] (.b (BM x.2 d (c||(p.kind !=9)) false o).1) [(id,.map (CN (BM x.2 d (c||(p.kind !=9)) false o).2))]:=by intro L;have:=hp x B o;grind
  rw[Jc] at y;clear hp;generalize BM x.2 d (c||(p.kind !=9)) false o=R at *;generalize Lx p.kind x.1=J at *;have H:∀k j,∀q∈[((n'+1+k,j),Ax.box (.agg [V.s x.fst,V.sl (List.map Aj.enc x.snd)]))]++[((z,12),Ax.map (CN seen)),((n0,5),.box (.agg [V.i IntKind.i64 p.kind,V.s p.text,V.s p.name,V.s p.style,V.sl (List.map AJ.enc (r++x::w)),V.sl (List.map Aj.enc p.parts)])),((n0,4),.box (.agg [.arr id]))],q.1≠id:=by simp_all
  rcases Ga x.1 seen with⟨h1,_,i,h2,_⟩|⟨h1,_,h2⟩
  all_goals rw[h1] at y
  ·rw[AwZ,if_pos rfl] at y;subst y;simp only[push_cast,seval,reduceEqDiff,e,t,a,u,f,h,g,h2,Ad x (done:=r) (by omega),BJ];have _h:=trivial;repeat' (first|(first|((first|apply Ab|apply Ag|apply Af)<;>intro _h)|refine Ac G ?_)<;>simp only[push_cast,seval,reduceEqDiff,_h,e,t,a,u,f,h,g,h2,Ad x (done:=r) (by omega),BJ]|intro _)
   all_goals (refine AD ?_ (DK (h _ _));simp only[BF,if_true];done)
  ·rw[Aw1] at y;obtain⟨U,rl⟩:=R;cases J
   all_goals cases U
   all_goals
    simp only[Av6,Av9,if_true,if_false,AcY] at y;skip;simp only[push_cast,seval,reduceEqDiff,e,t,a,u,f,h,g,h2,Ad x (done:=r) (by omega),BJ];have _h:=trivial;repeat' (first|(first|((first|apply Ab|apply Ag|apply Af)<;>intro _h)|refine Ac G ?_)<;>simp only[push_cast,seval,reduceEqDiff,_h,e,t,a,u,f,h,g,h2,Ad x (done:=r) (by omega),BJ]|intro _)
    all_goals (try (first|refine DW (pre:=[_]) (F (by assumption)) (H _ _) ?_|refine DW (pre:=[_]) (E (by assumption)) (H _ _) ?_))
    all_goals (try simp only[push_cast,seval,reduceEqDiff,e,t,a,u,f,h,g,h2,Ad x (done:=r) (by omega),BJ])
    repeat' (first|(((first|apply Ab|apply Ag|apply Af)<;>intro _h)<;>simp only[push_cast,seval,reduceEqDiff,_h,e,t,a,u,f,h,g,h2,Ad x (done:=r) (by omega),BJ])|intro _)
    all_goals (try (exfalso;simp_all;done))
    all_goals subst_vars
    all_goals (first|(refine AD (by simp[get]) ?_;first|exact Cq|exact DK (h _ _))|exact⟨_,_,Ab3 _,Ak.dropM (by simp[lk]) (Abm _),r++[x],w,_,seen++[x.1],rl,z,by simp,rfl,by rw[e],A,by omega,rfl⟩|skip)
end Go.Ir
end
namespace Go.Ir
open Go.Proofs
variable(W0:World)
theorem dZ{k:Int}(h:Bf k=true):(k==1)=false/\(k==10)=false/\(k==11)=false/\(k !=11)=true:=by unfold Bf at h;grind
set_option maxHeartbeats 4000000 in
theorem Aov:∀(N:Nat) (ps:List Aj) (d:Int) (c:Bool) (l:List Aa) (id:Id),AU ps<N->AU ps<=2^24->0<=d->d<=2^30->
  An Tryz.prog W0 95 [.agg [.arr id],.sl (ps.map Aj.enc),.i .i64 d,.b c] [(id,.map (CN l))] (.b (BM ps d c false l).1) [(id,.map (CN (BM ps d c false l).2))]:=by
 intro N
 induction N with
 | zero=>intro ps d c l id h;omega
 | succ N V=>
 intro ps d c l id hN hb ae af;have aa:=Ez ps;generalize hS:BM ps d c false l=S;refine Ah (vs:=[.b S.1]) ApP (by simp) Aly λn0 T=>?_;have O:id.1<n0:=T id (.map (CN l)) (by simp[lk]);clear T;have u:∀j,((n0,j)=id)=False:=λj=>QS O j;have f:∀j,(id=(n0,j))=False:=λj=>M7 O j;simp only[push_cast,seval,reduceEqDiff,u,f];intro k1 k2;refine Am ps.length (Inv:=λm st=>∃done a n' J,ps=done++a/\m=a.length/\BM a d c (Oh done) J=S/\id.1<n'/\st=⟨[(1,.sl (ps.map Aj.enc)),(2,.i .i64 d),(3,.b c),(4,.ref (n0,4) 0),(11,.sl (ps.map Aj.enc)),(12,.i .i64 ps.length),(13,.i .i64 done.length)],[(id,.map (CN J)),((n0,4),.box (.agg [.arr id]))],n'⟩) ⟨_,Ak.drop (jW (σ:=[_]) ?_) (Abm _),[],ps,_,l,rfl,rfl,hS,?_,rfl⟩ ?_
 ·simp[u]
 ·omega
 clear hS;rintro m _ ⟨done,a,n',J,v,rfl,g,ag,rfl⟩;have t:∀k j,((n'+1+k,j)=id)=False:=λk j=>QS (by omega) j;have e:∀k j,(id=(n'+1+k,j))=False:=λk j=>M7 (by omega) j;cases a with
 | nil=>
  rw[BM] at g;subst g;simp only[push_cast,seval,reduceEqDiff,u,f,t,e,v]
  repeat' (first|(((first|apply Ab|apply Ag|apply Af)<;>intro _h)<;>simp only[push_cast,seval,reduceEqDiff,_h,u,f,t,e])|intro _)
  all_goals (refine AD (by simp[get]) Cq)
 | cons p a=>
  have ad:=AH v;have hw:=Fq (ps:=ps) (p:=p) (by rw[v];simp);have ah:=hw;rw[p.wt_eq] at hw;have r:Oh (done++[p])=(p.kind==1):=by simp[Oh]
  rw[IB] at g;have L:(decide ((done.length:Int)>0)=false/\Oh done=false)\/(∃q:Aj,decide ((done.length:Int)>0)=true/\(List.map Aj.enc (done++p::a))[(IntKind.i64.wrap ((done.length:Int)-1)).toNat]?=some q.enc/\(0<=IntKind.i64.wrap ((done.length:Int)-1))=True/\Oh done=(q.kind==1)):=by
   rcases Ax8 done with rfl|⟨Z,q,rfl⟩
   ·exact .inl ⟨rfl,rfl⟩
   ·rw[Ax9] at *;have:IntKind.i64.wrap (((Z++[q]).length:Int)-1)=(Z.length:Int):=by rw[wrap64]<;>simp at *<;>omega
    refine .inr ⟨q,by simp<;>omega,?_,?_,by simp[Oh]⟩
    ·rw[this];simp
    ·rw[this];simp
  have z:=sH W0 p (by unfold AA;omega) (by unfold AA;omega);rw[Aj.enc_eq] at z;have s:=D9 W0 p.kind;have y:IntKind.i64.wrap (d+1)=d+1:=wrap64 (by omega) (by omega);rw[p.chk_eq] at g;have K:∀k j (X:Ax),∀q∈[((n'+1+k,j),X)]++[((n0,4),Ax.box (.agg [.arr id]))],q.1≠id:=by
   intro k j X q hq;simp at hq;rcases hq with rfl|rfl
   all_goals simp[u,t]
  have H:d<8/\decide (d>=8)=false\/decide (d>=8)=true:=by
   by_cases h:d<8
   ·exact .inl ⟨h,by simp;omega⟩
   ·exact .inr (by simp;omega)
  by_cases UF:p.kind=11
  ·have C:=fun(H:d<8)=>V p.parts (d+1) c J id (by omega) (by omega) (by omega) (by omega);have Y:Bf 11=false:=rfl;have q1:(p.kind==1)=false:=by rw[UF];rfl
   rw[UF] at g z s;rw[Y] at s g;clear L;generalize p.fieldsB=M at *;generalize BM p.parts (d+1) c false J=R at *;obtain⟨W,rl⟩:=R;cases M
   ·simp only[bq,if_true,if_false,Int.reduceBEq,reduceCtorEq] at g;simp only[push_cast,seval,reduceEqDiff,v,u,f,t,e,Ad p (done:=done) (by omega),y,UF,Int.reduceBEq,Int.reduceBNe];have _h:=trivial;repeat' (first|(first|((first|apply Ab|apply Ag|apply Af)<;>intro _h)|refine Ac z ?_|refine Ac s ?_)<;>simp only[push_cast,seval,reduceEqDiff,_h,v,u,f,t,e,Ad p (done:=done) (by omega),y,UF,Int.reduceBEq,Int.reduceBNe]|intro _)
    all_goals (first|(subst g;refine AD (by simp[get]) ?_;first|exact Cq|exact DK (t _ _))|exact⟨_,_,Ab3 _,Ak.dropM (by simp[lk]) (Abm _),done++[p],a,_,_,by simp,rfl,by rw[r,q1];exact g,by omega,rfl⟩|exact⟨_,_,Ab3 _,Ak.drop1 (by simp[lk,e]) (Abm _),done++[p],a,_,_,by simp,rfl,by rw[r,q1];exact g,by omega,rfl⟩|skip)
   ·rcases H with⟨H,e8⟩|e8
    ·cases W
     all_goals
      rw[e8] at g;simp only[bq,if_true,if_false,Int.reduceBEq,reduceCtorEq] at g;skip;simp only[push_cast,seval,reduceEqDiff,v,u,f,t,e,Ad p (done:=done) (by omega),y,UF,Int.reduceBEq,Int.reduceBNe,e8];have _h:=trivial;repeat' (first|(first|((first|apply Ab|apply Ag|apply Af)<;>intro _h)|refine Ac z ?_|refine Ac s ?_)<;>simp only[push_cast,seval,reduceEqDiff,_h,v,u,f,t,e,Ad p (done:=done) (by omega),y,UF,Int.reduceBEq,Int.reduceBNe,e8]|intro _)
      all_goals (refine DW (pre:=[_]) (C H) (K _ _ _) ?_;simp only[push_cast,seval,reduceEqDiff,v,u,f,t,e,Ad p (done:=done) (by omega),y,UF,Int.reduceBEq,Int.reduceBNe,e8])
      have _h:=trivial;repeat' (first|(first|((first|apply Ab|apply Ag|apply Af)<;>intro _h)|refine Ac s ?_)<;>simp only[push_cast,seval,reduceEqDiff,_h,v,u,f,t,e,Ad p (done:=done) (by omega),y,UF,Int.reduceBEq,Int.reduceBNe,e8]|intro _)
      all_goals (first|(subst g;refine AD (by simp[get]) ?_;first|exact Cq|exact DK (t _ _))|exact⟨_,_,Ab3 _,Ak.dropM (by simp[lk]) (Abm _),done++[p],a,_,_,by simp,rfl,by rw[r,q1];exact g,by omega,rfl⟩|exact⟨_,_,Ab3 _,Ak.drop1 (by simp[lk,e]) (Abm _),done++[p],a,_,_,by simp,rfl,by rw[r,q1];exact g,by omega,rfl⟩|skip)
    ·rw[e8] at g;simp only[bq,if_true,if_false,Int.reduceBEq,reduceCtorEq] at g;simp only[push_cast,seval,reduceEqDiff,v,u,f,t,e,Ad p (done:=done) (by omega),y,UF,Int.reduceBEq,Int.reduceBNe,e8];have _h:=trivial;repeat' (first|(first|((first|apply Ab|apply Ag|apply Af)<;>intro _h)|refine Ac z ?_|refine Ac s ?_)<;>simp only[push_cast,seval,reduceEqDiff,_h,v,u,f,t,e,Ad p (done:=done) (by omega),y,UF,Int.reduceBEq,Int.reduceBNe,e8]|intro _)
     all_goals (first|(subst g;refine AD (by simp[get]) ?_;first|exact Cq|exact DK (t _ _))|exact⟨_,_,Ab3 _,Ak.dropM (by simp[lk]) (Abm _),done++[p],a,_,_,by simp,rfl,by rw[r,q1];exact g,by omega,rfl⟩|exact⟨_,_,Ab3 _,Ak.drop1 (by simp[lk,e]) (Abm _),done++[p],a,_,_,by simp,rfl,by rw[r,q1];exact g,by omega,rfl⟩|skip)
  ·have o:(p.kind==11)=false:=by simpa using UF
   have A:(p.kind !=11)=true:=by simp[bne,o]
   rcases AuE (Bf p.kind) with U|U
   ·obtain⟨q1,w,_,_⟩:=dZ U;have C:=fun(H:d<8)=>yQ W0 p (d+1) c J id (by omega) (λx K l=>V x.2 (d+1) _ l id (by have:=Cm K;omega) (by have:=Cm K;omega) (by omega) (by omega));clear L V;rw[Aj.enc_eq] at C;rw[U] at s g;simp only[bq,if_true,if_false,Int.reduceBEq,reduceCtorEq,q1,w,o] at g;generalize p.fieldsB=M at *;generalize DJ p.cases p.kind (d+1) c p.cases.length [] J=R at *;obtain⟨W,rl⟩:=R;cases M
    ·simp only[bq,if_true,if_false,Int.reduceBEq,reduceCtorEq,q1,w,o] at g;simp only[push_cast,seval,reduceEqDiff,v,u,f,t,e,Ad p (done:=done) (by omega),y,q1,w,o,A,Int.reduceBEq,Int.reduceBNe];have _h:=trivial;repeat' (first|(first|((first|apply Ab|apply Ag|apply Af)<;>intro _h)|refine Ac z ?_|refine Ac s ?_)<;>simp only[push_cast,seval,reduceEqDiff,_h,v,u,f,t,e,Ad p (done:=done) (by omega),y,q1,w,o,A,Int.reduceBEq,Int.reduceBNe]|intro _)
     all_goals (first|(subst g;refine AD (by simp[get]) ?_;first|exact Cq|exact DK (t _ _))|exact⟨_,_,Ab3 _,Ak.dropM (by simp[lk]) (Abm _),done++[p],a,_,_,by simp,rfl,by rw[r,q1];exact g,by omega,rfl⟩|exact⟨_,_,Ab3 _,Ak.drop1 (by simp[lk,e]) (Abm _),done++[p],a,_,_,by simp,rfl,by rw[r,q1];exact g,by omega,rfl⟩|skip)
    ·rcases H with⟨H,e8⟩|e8
     ·simp only[bq,if_true,if_false,Int.reduceBEq,reduceCtorEq,e8] at g;cases W
      ·simp only[bq,if_true,if_false,Int.reduceBEq,reduceCtorEq] at g;simp only[push_cast,seval,reduceEqDiff,v,u,f,t,e,Ad p (done:=done) (by omega),y,q1,w,o,A,Int.reduceBEq,Int.reduceBNe,e8];have _h:=trivial;repeat' (first|(first|((first|apply Ab|apply Ag|apply Af)<;>intro _h)|refine Ac z ?_|refine Ac s ?_)<;>simp only[push_cast,seval,reduceEqDiff,_h,v,u,f,t,e,Ad p (done:=done) (by omega),y,q1,w,o,A,Int.reduceBEq,Int.reduceBNe,e8]|intro _)
       all_goals (refine DW (pre:=[_]) (C H) (K _ _ _) ?_;simp only[push_cast,seval,reduceEqDiff,v,u,f,t,e,Ad p (done:=done) (by omega),y,q1,w,o,A,Int.reduceBEq,Int.reduceBNe,e8])
       repeat' (first|(((first|apply Ab|apply Ag|apply Af)<;>intro _h)<;>simp only[push_cast,seval,reduceEqDiff,_h,v,u,f,t,e,Ad p (done:=done) (by omega),y,q1,w,o,A,Int.reduceBEq,Int.reduceBNe,e8])|intro _)
       all_goals (first|(subst g;refine AD (by simp[get]) ?_;first|exact Cq|exact DK (t _ _))|exact⟨_,_,Ab3 _,Ak.dropM (by simp[lk]) (Abm _),done++[p],a,_,_,by simp,rfl,by rw[r,q1];exact g,by omega,rfl⟩|exact⟨_,_,Ab3 _,Ak.drop1 (by simp[lk,e]) (Abm _),done++[p],a,_,_,by simp,rfl,by rw[r,q1];exact g,by omega,rfl⟩|skip)
      ·simp only[bq,if_true,if_false,Int.reduceBEq,reduceCtorEq] at g;rcases AuE (p.name==[]) with B|B
       ·simp only[bq,if_true,if_false,Int.reduceBEq,reduceCtorEq,B] at g;simp only[push_cast,seval,reduceEqDiff,v,u,f,t,e,Ad p (done:=done) (by omega),y,q1,w,o,A,Int.reduceBEq,Int.reduceBNe,e8,B];have _h:=trivial;repeat' (first|(first|((first|apply Ab|apply Ag|apply Af)<;>intro _h)|refine Ac z ?_|refine Ac s ?_)<;>simp only[push_cast,seval,reduceEqDiff,_h,v,u,f,t,e,Ad p (done:=done) (by omega),y,q1,w,o,A,Int.reduceBEq,Int.reduceBNe,e8,B]|intro _)
        all_goals (refine DW (pre:=[_]) (C H) (K _ _ _) ?_;simp only[push_cast,seval,reduceEqDiff,v,u,f,t,e,Ad p (done:=done) (by omega),y,q1,w,o,A,Int.reduceBEq,Int.reduceBNe,e8,B])
        repeat' (first|(((first|apply Ab|apply Ag|apply Af)<;>intro _h)<;>simp only[push_cast,seval,reduceEqDiff,_h,v,u,f,t,e,Ad p (done:=done) (by omega),y,q1,w,o,A,Int.reduceBEq,Int.reduceBNe,e8,B])|intro _)
        all_goals (first|(subst g;refine AD (by simp[get]) ?_;first|exact Cq|exact DK (t _ _))|exact⟨_,_,Ab3 _,Ak.dropM (by simp[lk]) (Abm _),done++[p],a,_,_,by simp,rfl,by rw[r,q1];exact g,by omega,rfl⟩|exact⟨_,_,Ab3 _,Ak.drop1 (by simp[lk,e]) (Abm _),done++[p],a,_,_,by simp,rfl,by rw[r,q1];exact g,by omega,rfl⟩|skip)
       ·simp only[bq,if_true,if_false,Int.reduceBEq,reduceCtorEq,B] at g;rcases Ga p.name rl with⟨_,hpu,i,h2,h3⟩|⟨_,hpu,h2⟩
        ·rw[hpu] at g;simp only[push_cast,seval,reduceEqDiff,v,u,f,t,e,Ad p (done:=done) (by omega),y,q1,w,o,A,Int.reduceBEq,Int.reduceBNe,e8,B,h2,h3];have _h:=trivial;repeat' (first|(first|((first|apply Ab|apply Ag|apply Af)<;>intro _h)|refine Ac z ?_|refine Ac s ?_)<;>simp only[push_cast,seval,reduceEqDiff,_h,v,u,f,t,e,Ad p (done:=done) (by omega),y,q1,w,o,A,Int.reduceBEq,Int.reduceBNe,e8,B,h2,h3]|intro _)
         all_goals (refine DW (pre:=[_]) (C H) (K _ _ _) ?_;simp only[push_cast,seval,reduceEqDiff,v,u,f,t,e,Ad p (done:=done) (by omega),y,q1,w,o,A,Int.reduceBEq,Int.reduceBNe,e8,B,h2,h3])
         repeat' (first|(((first|apply Ab|apply Ag|apply Af)<;>intro _h)<;>simp only[push_cast,seval,reduceEqDiff,_h,v,u,f,t,e,Ad p (done:=done) (by omega),y,q1,w,o,A,Int.reduceBEq,Int.reduceBNe,e8,B,h2,h3])|intro _)
         all_goals (first|(subst g;refine AD (by simp[get]) ?_;first|exact Cq|exact DK (t _ _))|exact⟨_,_,Ab3 _,Ak.dropM (by simp[lk]) (Abm _),done++[p],a,_,_,by simp,rfl,by rw[r,q1];exact g,by omega,rfl⟩|exact⟨_,_,Ab3 _,Ak.drop1 (by simp[lk,e]) (Abm _),done++[p],a,_,_,by simp,rfl,by rw[r,q1];exact g,by omega,rfl⟩|skip)
        ·rw[hpu] at g;simp only[push_cast,seval,reduceEqDiff,v,u,f,t,e,Ad p (done:=done) (by omega),y,q1,w,o,A,Int.reduceBEq,Int.reduceBNe,e8,B,h2,BJ];have _h:=trivial;repeat' (first|(first|((first|apply Ab|apply Ag|apply Af)<;>intro _h)|refine Ac z ?_|refine Ac s ?_)<;>simp only[push_cast,seval,reduceEqDiff,_h,v,u,f,t,e,Ad p (done:=done) (by omega),y,q1,w,o,A,Int.reduceBEq,Int.reduceBNe,e8,B,h2,BJ]|intro _)
         all_goals (refine DW (pre:=[_]) (C H) (K _ _ _) ?_;simp only[push_cast,seval,reduceEqDiff,v,u,f,t,e,Ad p (done:=done) (by omega),y,q1,w,o,A,Int.reduceBEq,Int.reduceBNe,e8,B,h2,BJ])
         repeat' (first|(((first|apply Ab|apply Ag|apply Af)<;>intro _h)<;>simp only[push_cast,seval,reduceEqDiff,_h,v,u,f,t,e,Ad p (done:=done) (by omega),y,q1,w,o,A,Int.reduceBEq,Int.reduceBNe,e8,B,h2,BJ])|intro _)
         all_goals (first|(subst g;refine AD (by simp[get]) ?_;first|exact Cq|exact DK (t _ _))|exact⟨_,_,Ab3 _,Ak.dropM (by simp[lk]) (Abm _),done++[p],a,_,_,by simp,rfl,by rw[r,q1];exact g,by omega,rfl⟩|exact⟨_,_,Ab3 _,Ak.drop1 (by simp[lk,e]) (Abm _),done++[p],a,_,_,by simp,rfl,by rw[r,q1];exact g,by omega,rfl⟩|skip)
     ·simp only[bq,if_true,if_false,Int.reduceBEq,reduceCtorEq,e8] at g;simp only[push_cast,seval,reduceEqDiff,v,u,f,t,e,Ad p (done:=done) (by omega),y,q1,w,o,A,Int.reduceBEq,Int.reduceBNe,e8];have _h:=trivial;repeat' (first|(first|((first|apply Ab|apply Ag|apply Af)<;>intro _h)|refine Ac z ?_|refine Ac s ?_)<;>simp only[push_cast,seval,reduceEqDiff,_h,v,u,f,t,e,Ad p (done:=done) (by omega),y,q1,w,o,A,Int.reduceBEq,Int.reduceBNe,e8]|intro _)
      all_goals (first|(subst g;refine AD (by simp[get]) ?_;first|exact Cq|exact DK (t _ _))|exact⟨_,_,Ab3 _,Ak.dropM (by simp[lk]) (Abm _),done++[p],a,_,_,by simp,rfl,by rw[r,q1];exact g,by omega,rfl⟩|exact⟨_,_,Ab3 _,Ak.drop1 (by simp[lk,e]) (Abm _),done++[p],a,_,_,by simp,rfl,by rw[r,q1];exact g,by omega,rfl⟩|skip)
   ·clear V;rw[U] at s g;generalize p.fieldsB=M at *;cases M
    ·simp only[bq,if_true,if_false,Int.reduceBEq,reduceCtorEq,o] at g;simp only[push_cast,seval,reduceEqDiff,v,u,f,t,e,Ad p (done:=done) (by omega),y,o,A,Int.reduceBEq,Int.reduceBNe];have _h:=trivial;repeat' (first|(first|((first|apply Ab|apply Ag|apply Af)<;>intro _h)|refine Ac z ?_|refine Ac s ?_)<;>simp only[push_cast,seval,reduceEqDiff,_h,v,u,f,t,e,Ad p (done:=done) (by omega),y,o,A,Int.reduceBEq,Int.reduceBNe]|intro _)
     all_goals (first|(subst g;refine AD (by simp[get]) ?_;first|exact Cq|exact DK (t _ _))|exact⟨_,_,Ab3 _,Ak.dropM (by simp[lk]) (Abm _),done++[p],a,_,_,by simp,rfl,by rw[r];exact g,by omega,rfl⟩|exact⟨_,_,Ab3 _,Ak.drop1 (by simp[lk,e]) (Abm _),done++[p],a,_,_,by simp,rfl,by rw[r];exact g,by omega,rfl⟩|skip)
    ·simp only[bq,if_true,if_false,Int.reduceBEq,reduceCtorEq,o] at g;generalize F:BM a d c (p.kind==1)=G at g;rcases L with⟨e1,hl⟩|⟨q,e1,D,E,hl⟩
     case' inl=>have D:=e1;have E:=e1
     all_goals rw[hl] at g
     all_goals rcases AuE (p.name==[]) with B|B
     ·simp only[bq,if_true,if_false,Int.reduceBEq,reduceCtorEq,B] at g;skip;simp only[push_cast,seval,reduceEqDiff,v,u,f,t,e,Ad p (done:=done) (by omega),y,o,A,Int.reduceBEq,Int.reduceBNe,e1,D,E,B];have _h:=trivial;repeat' (first|(first|((first|apply Ab|apply Ag|apply Af)<;>intro _h)|refine Ac z ?_|refine Ac s ?_)<;>simp only[push_cast,seval,reduceEqDiff,_h,v,u,f,t,e,Ad p (done:=done) (by omega),y,o,A,Int.reduceBEq,Int.reduceBNe,e1,D,E,B]|intro _)
      all_goals (try simp only[Aot,AuA] at *)
      all_goals (try simp only[*,bq,if_true,if_false,Int.reduceBEq,reduceCtorEq] at g)
      all_goals (first|(subst g;refine AD (by simp[get]) ?_;first|exact Cq|exact DK (t _ _))|exact⟨_,_,Ab3 _,Ak.dropM (by simp[lk]) (Abm _),done++[p],a,_,_,by simp,rfl,by rw[r,F];exact g,by omega,rfl⟩|exact⟨_,_,Ab3 _,Ak.drop1 (by simp[lk,e]) (Abm _),done++[p],a,_,_,by simp,rfl,by rw[r,F];exact g,by omega,rfl⟩|skip)
     ·rcases Ga p.name J with⟨_,hpu,i,h2,h3⟩|⟨_,hpu,h2⟩
      all_goals simp only[bq,if_true,if_false,Int.reduceBEq,reduceCtorEq,B,hpu] at g
      ·skip;simp only[push_cast,seval,reduceEqDiff,v,u,f,t,e,Ad p (done:=done) (by omega),y,o,A,Int.reduceBEq,Int.reduceBNe,e1,D,E,B,h2,h3];have _h:=trivial;repeat' (first|(first|((first|apply Ab|apply Ag|apply Af)<;>intro _h)|refine Ac z ?_|refine Ac s ?_)<;>simp only[push_cast,seval,reduceEqDiff,_h,v,u,f,t,e,Ad p (done:=done) (by omega),y,o,A,Int.reduceBEq,Int.reduceBNe,e1,D,E,B,h2,h3]|intro _)
       all_goals (try simp only[Aot,AuA] at *)
       all_goals (try simp only[*,bq,if_true,if_false,Int.reduceBEq,reduceCtorEq] at g)
       all_goals (first|(subst g;refine AD (by simp[get]) ?_;first|exact Cq|exact DK (t _ _))|exact⟨_,_,Ab3 _,Ak.dropM (by simp[lk]) (Abm _),done++[p],a,_,_,by simp,rfl,by rw[r,F];exact g,by omega,rfl⟩|exact⟨_,_,Ab3 _,Ak.drop1 (by simp[lk,e]) (Abm _),done++[p],a,_,_,by simp,rfl,by rw[r,F];exact g,by omega,rfl⟩|skip)
      ·skip;simp only[push_cast,seval,reduceEqDiff,v,u,f,t,e,Ad p (done:=done) (by omega),y,o,A,Int.reduceBEq,Int.reduceBNe,e1,D,E,B,h2,BJ];have _h:=trivial;repeat' (first|(first|((first|apply Ab|apply Ag|apply Af)<;>intro _h)|refine Ac z ?_|refine Ac s ?_)<;>simp only[push_cast,seval,reduceEqDiff,_h,v,u,f,t,e,Ad p (done:=done) (by omega),y,o,A,Int.reduceBEq,Int.reduceBNe,e1,D,E,B,h2,BJ]|intro _)
       all_goals (try simp only[Aot,AuA] at *)
       all_goals (try simp only[*,bq,if_true,if_false,Int.reduceBEq,reduceCtorEq] at g)
       all_goals (first|(subst g;refine AD (by simp[get]) ?_;first|exact Cq|exact DK (t _ _))|exact⟨_,_,Ab3 _,Ak.dropM (by simp[lk]) (Abm _),done++[p],a,_,_,by simp,rfl,by rw[r,F];exact g,by omega,rfl⟩|exact⟨_,_,Ab3 _,Ak.drop1 (by simp[lk,e]) (Abm _),done++[p],a,_,_,by simp,rfl,by rw[r,F];exact g,by omega,rfl⟩|skip)
     ·simp only[bq,if_true,if_false,Int.reduceBEq,reduceCtorEq,B] at g;skip;simp only[push_cast,seval,reduceEqDiff,v,u,f,t,e,Ad p (done:=done) (by omega),y,o,A,Int.reduceBEq,Int.reduceBNe,e1,D,E,B];have _h:=trivial;repeat' (first|(first|((first|apply Ab|apply Ag|apply Af)<;>intro _h)|refine Ac z ?_|refine Ac s ?_)<;>simp only[push_cast,seval,reduceEqDiff,_h,v,u,f,t,e,Ad p (done:=done) (by omega),y,o,A,Int.reduceBEq,Int.reduceBNe,e1,D,E,B]|intro _)
      all_goals (try simp only[Aot,AuA] at *)
      all_goals (try simp only[*,bq,if_true,if_false,Int.reduceBEq,reduceCtorEq] at g)
      all_goals (first|(subst g;refine AD (by simp[get]) ?_;first|exact Cq|exact DK (t _ _))|exact⟨_,_,Ab3 _,Ak.dropM (by simp[lk]) (Abm _),done++[p],a,_,_,by simp,rfl,by rw[r,F];exact g,by omega,rfl⟩|exact⟨_,_,Ab3 _,Ak.drop1 (by simp[lk,e]) (Abm _),done++[p],a,_,_,by simp,rfl,by rw[r,F];exact g,by omega,rfl⟩|skip)
     ·rcases Ga p.name J with⟨_,hpu,i,h2,h3⟩|⟨_,hpu,h2⟩
      all_goals simp only[bq,if_true,if_false,Int.reduceBEq,reduceCtorEq,B,hpu] at g
      ·skip;simp only[push_cast,seval,reduceEqDiff,v,u,f,t,e,Ad p (done:=done) (by omega),y,o,A,Int.reduceBEq,Int.reduceBNe,e1,D,E,B,h2,h3];have _h:=trivial;repeat' (first|(first|((first|apply Ab|apply Ag|apply Af)<;>intro _h)|refine Ac z ?_|refine Ac s ?_)<;>simp only[push_cast,seval,reduceEqDiff,_h,v,u,f,t,e,Ad p (done:=done) (by omega),y,o,A,Int.reduceBEq,Int.reduceBNe,e1,D,E,B,h2,h3]|intro _)
       all_goals (try simp only[Aot,AuA] at *)
       all_goals (try simp only[*,bq,if_true,if_false,Int.reduceBEq,reduceCtorEq] at g)
       all_goals (first|(subst g;refine AD (by simp[get]) ?_;first|exact Cq|exact DK (t _ _))|exact⟨_,_,Ab3 _,Ak.dropM (by simp[lk]) (Abm _),done++[p],a,_,_,by simp,rfl,by rw[r,F];exact g,by omega,rfl⟩|exact⟨_,_,Ab3 _,Ak.drop1 (by simp[lk,e]) (Abm _),done++[p],a,_,_,by simp,rfl,by rw[r,F];exact g,by omega,rfl⟩|skip)
      ·skip;simp only[push_cast,seval,reduceEqDiff,v,u,f,t,e,Ad p (done:=done) (by omega),y,o,A,Int.reduceBEq,Int.reduceBNe,e1,D,E,B,h2,BJ];have _h:=trivial;repeat' (first|(first|((first|apply Ab|apply Ag|apply Af)<;>intro _h)|refine Ac z ?_|refine Ac s ?_)<;>simp only[push_cast,seval,reduceEqDiff,_h,v,u,f,t,e,Ad p (done:=done) (by omega),y,o,A,Int.reduceBEq,Int.reduceBNe,e1,D,E,B,h2,BJ]|intro _)
       all_goals (try simp only[Aot,AuA] at *)
       all_goals (try simp only[*,bq,if_true,if_false,Int.reduceBEq,reduceCtorEq] at g)
       all_goals (first|(subst g;refine AD (by simp[get]) ?_;first|exact Cq|exact DK (t _ _))|exact⟨_,_,Ab3 _,Ak.dropM (by simp[lk]) (Abm _),done++[p],a,_,_,by simp,rfl,by rw[r,F];exact g,by omega,rfl⟩|exact⟨_,_,Ab3 _,Ak.drop1 (by simp[lk,e]) (Abm _),done++[p],a,_,_,by simp,rfl,by rw[r,F];exact g,by omega,rfl⟩|skip)
end Go.Ir

namespace Go.Ir
open Go.Proofs
variable{P:Program}{W0:World}{nt n:Nat}{Q:Exit→St→Prop}{env:AE}{σ:Al}
end Go.Ir

namespace Go.Ir
open Go.Proofs
variable(W0:World)
def GF:Aa->Aa
 | []=>[]
 | c::s=>(if QM c.toNat then[92,c] else[c])++GF s
end Go.Ir
section
namespace Go.Ir
open Go.Proofs
variable(W0:World)
def U2(k:Int):Aa:=
 if k==3 then[110,117,109,98,101,114] else if k==4 then[117,110,105,116] else if k==5 then[100,97,116,101] else if k==6 then[108,105,115,116]
 else if k==7 then[112,108,117,114,97,108] else if k==8 then[111,114,100,105,110,97,108] else[115,101,108,101,99,116]
theorem M4(k:Int):(U2 k).length<=7:=by
 unfold U2;repeat' split
 all_goals simp
theorem Rd(s:Aa):(GF s).length<=2*s.length:=by
 induction s with
 | nil=>simp[GF]
 | cons c s a=>rw[GF];split<;>simp<;>omega
def zX(p:Aj):Aa:=[123]++p.name++[44]++[32]++U2 p.kind
def Ac0(p:Aj):Aa:=if p.style==[] then[] else[44]++[32]++p.style
def Acs(p:Aj):Aa:=if Bf p.kind then[44] else[]
mutual
def Aj.textB:Aj->Aa
 | ⟨k,t,a,st,cs,ps⟩=>
  if k==1 then GF t
  else if k==10 then[35]
  else if k==11 then(if ps.isEmpty then[60]++a++[47,62] else[60]++a++[62]++E9 ps++[60,47]++a++[62])
  else if k==2 then[123]++a++[125]
  else if decide (k>=3)&&decide (k<=9) then zX ⟨k,t,a,st,cs,ps⟩++Ac0 ⟨k,t,a,st,cs,ps⟩++Acs ⟨k,t,a,st,cs,ps⟩++GJ cs++[125]
  else[]
def E9:List Aj->Aa
 | []=>[]
 | p::ps=>p.textB++E9 ps
def GJ:List (Aa×List Aj)->Aa
 | []=>[]
 | (key,ps)::cs=>[32]++key++[32]++[123]++E9 ps++[125]++GJ cs
end
theorem Aj.textB_eq(p:Aj):p.textB=(if p.kind==1 then GF p.text
  else if p.kind==10 then[35]
  else if p.kind==11 then(if p.parts.isEmpty then[60]++p.name++[47,62] else[60]++p.name++[62]++E9 p.parts++[60,47]++p.name++[62])
  else if p.kind==2 then[123]++p.name++[125]
  else if decide (p.kind>=3)&&decide (p.kind<=9) then zX p++Ac0 p++Acs p++GJ p.cases++[125]
  else[]):=by cases p;simp only[Aj.textB]
theorem S9(p:Aj)(ps:List Aj):E9 (p::ps)=p.textB++E9 ps:=by simp only[E9]
theorem Sg(c:AJ)(cs:List AJ):GJ (c::cs)=[32]++c.1++[32]++[123]++E9 c.2++[125]++GJ cs:=by obtain⟨k,q⟩:=c;simp only[GJ]
end Go.Ir
end
namespace Go.Proofs
open Go.Shelf
def Tryz.lays169_ren:Go.Shelf.Ren:=⟨fun|169=>45|n=>n,fun|70=>95|9=>9|0=>0|72=>98|37=>96|127=>158|3=>3|5=>5|n=>n,fun|n=>n⟩
theorem Tryz.lays169:Go.Proofs.Lays.n169 Tryz.prog Tryz.lays169_ren:=by constructor;all_goals intros;kernel_rfl
end Go.Proofs
namespace Go.Ir
open Go.Proofs Go.RowKit
theorem Gg:Go.Proofs.Builder.Extra Tryz.prog Tryz.lays169_ren where
 sizeBuilder:=by kernel_rfl
 liesBuilder:=by kernel_rfl
 t5:=Tryz.underlying5
 a5:=Tryz.isAgg5
 z5:=Tryz.sizeOf5
 v5:=Tryz.zeroValue5
 infoByte:=by kernel_rfl
 cellsByte:=by kernel_rfl
 sizeByte:=by kernel_rfl
 neB5:=by decide
set_option maxHeartbeats 1000000 in
set_option maxRecDepth 100000 in
theorem iT(b:Nat)(w:World)(c:w.cell? ⟨b,0,none⟩=some (.pointer (some ⟨b,0,none⟩))) :
  Calls Tryz.prog 180 #[.pointer (some ⟨b,0,none⟩)] w λe w'=>e=.returned (.tuple #[])/\w'=w:=by
 obtain⟨j,a,_⟩:=AdW.1 Gg.sizeBuilder
 go_enter Tryz.func180,Tryz.ntmps180
 go_wp2
 rw[Lib.run_neq_ptr_same w _ Tryz.underlying95 a]
 go_wp2
 go_end0
 exact⟨rfl,rfl⟩
set_option maxHeartbeats 1000000 in
set_option maxRecDepth 100000 in
theorem aV(b:Nat)(w:World)(h:w.cell? ⟨b,0,none⟩=some (.pointer none))(a:w.shape? b=some (98,2))(g:w.frozen? ⟨b,0,none⟩=false) :
  Calls Tryz.prog 180 #[.pointer (some ⟨b,0,none⟩)] w λe w'=>e=.returned (.tuple #[])/\w'=w.setCell ⟨b,0,none⟩ (.pointer (some ⟨b,0,none⟩)):=by
 obtain⟨j,f,c⟩:=AdW.1 Gg.sizeBuilder
 go_enter Tryz.func180,Tryz.ntmps180
 go_wp2
 rw[Lib.run_to_unsafe w ⟨b,0,none⟩ Tryz.underlying95 Tryz.underlying315 f (by rw[c];decide) a (Nat.zero_lt_succ 1)];simp only[Result.andThen];rw[Axg]
 go_wp2
 rw[run_callFunc_extern Tryz.func236 (by kernel_rfl) (by kernel_rfl) (by kernel_rfl) (e:=Extern.AbiNoEscape.same) (by kernel_rfl),Lib.run_noEscape];simp only[Result.andThen];rw[Axg]
 go_wp2
 rw[Lib.run_from_unsafe w ⟨b,0,none⟩ Tryz.underlying315 Tryz.underlying95 f a Gg.liesBuilder];simp only[Result.andThen];rw[Axg]
 go_wp2
 go_end0
 exact⟨rfl,rfl⟩
theorem ZL(B b:Nat)(f:List Value)(w:World)(h:Lib.IsBuilder 98 5 B b f w) :
  Calls Tryz.prog 180 #[.pointer (some ⟨b,0,none⟩)] w λe w'=>e=.returned (.tuple #[])/\(Lib.BuilderAt 98 5 B b (.pointer (some ⟨b,0,none⟩)) f w'/\Below B w w'):=by
 rcases h with h|h
 ·refine(aV b w h.cell0 h.shape h.frozen0).mono λe w' ⟨a,c⟩=>?_;subst c;exact⟨a,h.used _,(Auw B w).setCell (p:=⟨b,0,none⟩) h.1 _⟩
 ·refine(iT b w h.cell0).mono λe w' ⟨a,c⟩=>?_;subst c;exact⟨a,h,Auw _ _⟩
set_option maxHeartbeats 2000000 in
set_option maxRecDepth 100000 in
theorem MH(B b:Nat)(s:List Value)(c:Int)(w:World)(h:Lib.IsBuilder 98 5 B b s w)(G:s.length+1<=140737488355328)(J:B<=w.heap.size) :
  Calls Tryz.prog 187 #[.pointer (some ⟨b,0,none⟩),.int .u8 c] w λe w'=>e=.returned .nilIface/\(Lib.BuilderAt 98 5 B b (.pointer (some ⟨b,0,none⟩)) (s++[.int .u8 c]) w'/\Below B w w'):=by
 obtain⟨i0,K,D,E,F⟩:=info_parts Gg.infoByte;have z:∀args w,(callFunc 180 args).run Tryz.prog w=.ok (.enter 180 args) w:=enters_of Tryz.func180 (by kernel_rfl) rfl
 go_enter Tryz.func187,Tryz.ntmps187
 go_wp2_with (go_at_fn 180;refine(ZL B b s _ h).mono ?_)
 rintro e t ⟨rfl,⟨hB,v,q,r,C⟩,m⟩;have N:t.cell? ⟨b,0,none⟩=some (.pointer (some ⟨b,0,none⟩)):=by rw[Lib.cell_of_heap q];rfl
 have c1:t.cell? ⟨b,1,none⟩=some v:=by rw[Lib.cell_of_heap q];rfl
 go_wp2_with (at_builtin;refine wpList_append_own _ rfl _ _ 96 rfl B 5 i0 (.int .u8 0) 1 1 Tryz.underlying96 K D E F rfl (by decide) _ _ _ rfl (r.alloc _) ⟨t.heap.size,0,none⟩ 1 1 [.int .u8 c] rfl rfl ?c1 ?c2 ?c3 ?c4 ?c5 ?_)
 case c1=>
  intro j u x
  match j,x with
  | 0,x=>simp at x;subst x;simp[Addr.add]
 case c2=>intro u H;simp at H;subst H;rfl
 case c3=>unfold maxLen;omega
 case c4=>omega
 case c5=>have:=m.size;simp;omega
 intro M y f a _;have A:b<t.heap.size:=(ApJ.1 q).1;have o:y.heap[b]?=some (.cells #[.pointer (some ⟨b,0,none⟩),v] 98 (0,0)):=by rw[a.block b (by simp;omega) (λe=>C e.symm),Lib.alloc_old t _ b A];exact q
 have O:y.cell? ⟨b,0,none⟩=some (.pointer (some ⟨b,0,none⟩)):=by rw[Lib.cell_of_heap o];rfl
 have R:y.cell? ⟨b,1,none⟩=some v:=by rw[Lib.cell_of_heap o];rfl
 have S:y.frozen? ⟨b,1,none⟩=false:=Lib.frozen_of_heap o 1;obtain⟨g,i,rfl⟩:∃g i,M=.slice (some ⟨g,0,none⟩) (s.length+1) i:=by
  rcases f.2 with⟨_,h0⟩|⟨g,i,cur,hv,_⟩
  ·omega
  ·exact⟨g,i,hv⟩
 go_wp2
 go_ret
 exact⟨rfl,Lib.BuilderAt.put (T:=98) (e:=5) hB o (bs':=s++[.int .u8 c]) (by simpa using f) (by decide),((m.alloc (by have:=m.size;omega) _).grown a (by have:=m.size;simp;omega) (λk L=>(r.lt k L).1)).setCell (p:=⟨b,1,none⟩) hB _⟩
theorem TH(B b:Nat)(l:List UInt8)(w:World)(h:Lib.IsBuilder 98 5 B b (Lib.byteCells l) w)(a:B<=w.heap.size) :
  Calls Tryz.prog 45 #[.pointer (some ⟨b,0,none⟩)] w λe w'=>e=.returned (.string ⟨l.toArray⟩)/\Below B w w':=
 Any.Builder_String_any Tryz.lays169 Gg B b l w h a
theorem NH(c:UInt8)(w:World):Calls Tryz.prog 186 #[.int .u8 c.toNat] w λe w'=>e=.returned (.bool (QM c.toNat))/\w'=w:=by
 go_enter Tryz.func186,Tryz.ntmps186
 go_wp2
 all_goals (go_ret;exact⟨by simp[QM, *],rfl⟩)
set_option maxHeartbeats 4000000 in
set_option maxRecDepth 1000000 in
theorem iF(s:Aa)(H:s.length<=2^26)(w:World):Calls Tryz.prog 133 #[.string ⟨s.toArray⟩] w λe w'=>e=.returned (.string ⟨(GF s).toArray⟩)/\Below w.heap.size w w':=by
 go_enter Tryz.func133,Tryz.ntmps133
 go_wp2
 go_loopw [7] (λi wr=>∃(done a b:Aa),done++a=s/\i=.int .i64 done.length/\Lib.IsBuilder 98 5 w.heap.size w.heap.size (Lib.byteCells b) wr/\Below w.heap.size w wr/\b++GF a=GF s/\b.length<=2*done.length) (λi _=>s.length-(RowKit.intOf i).toNat)
 case atStart=>refine⟨[],s,[],rfl,rfl,Lib.fresh_isBuilder _ _ _,(Auw _ w).alloc (Abm _) _,rfl,by simp⟩
 case round=>
  obtain⟨done,a,b,r,A,hI,f,g,z⟩:=hrel;subst A;have k:s.length=done.length+a.length:=by rw[<-r];simp
  cases a with
  | nil=>
   have j:decide (done.length<s.length)=false:=by simp at k⊢;omega
   have o:¬done.length<s.length:=by simpa using j
   clear k
   go_wp2_with (go_at_call 45;refine(TH w.heap.size w.heap.size b _ hI f.size).mono ?_)
   rintro e C ⟨rfl,v⟩
   go_wp2
   go_ret
   rw[GF,Ary] at g;rw[<-g];exact⟨rfl,f.trans v⟩
  | cons c a=>
   have E:∀args w,(callFunc 186 args).run Tryz.prog w=.ok (.enter 186 args) w:=enters_of Tryz.func186 (by kernel_rfl) rfl;have F:∀args w,(callFunc 187 args).run Tryz.prog w=.ok (.enter 187 args) w:=enters_of Tryz.func187 (by kernel_rfl) rfl;have j:decide (done.length<s.length)=true:=by simp at k⊢;omega
   have o:done.length<s.length:=by simpa using j
   have u:b.length+2<=2^28/\done.length<2^26:=by simp at k;omega
   obtain⟨u,B⟩:=u;clear k;have p:RowKit.wrap64 ((done.length:Int)+1)=(done.length:Int)+1:=by unfold RowKit.wrap64;omega
   have G:∀h,(⟨s.toArray⟩:ByteArray)[done.length]'h=c:=by subst r;intro h;show(done++c::a).toArray[done.length]=c;simp
   go_wp2_with (go_at_call 186;refine(NH _ _).mono ?_)
   rintro e C ⟨rfl,rfl⟩;by_cases m:QM c.toNat=true
   ·rw[m]
    go_wp2_with (go_at_call 187;refine(MH w.heap.size w.heap.size _ 92 _ hI (by rw[Lib.byteCells_length];omega) f.size).mono ?_)
    rintro e D ⟨rfl,t,q⟩
    go_wp2_with (go_at_call 187;refine(MH w.heap.size w.heap.size _ _ _ (.inr t) (by simp[Lib.byteCells_length];omega) (by have:=f.size;have:=q.size;omega)).mono ?_)
    rintro e J ⟨rfl,y,x⟩
    go_wp2
    go_roundw
    case rel=>
     refine⟨done++[c],a,b++[92,c],by rw[<-r];simp,?_,?_,?_,?_,?_⟩
     ·simp
     ·right;simpa[Lib.byteCells] using y
     ·exact(f.trans q).trans x
     ·rw[<-g,GF,m];simp
     ·simp;omega
    case measure=>simp at j;simp[RowKit.intOf,p];omega
   ·have m:QM c.toNat=false:=by simpa using m
    rw[m]
    go_wp2_with (go_at_call 187;refine(MH w.heap.size w.heap.size _ _ _ hI (by rw[Lib.byteCells_length];omega) f.size).mono ?_)
    rintro e D ⟨rfl,t,q⟩
    go_wp2
    go_roundw
    case rel=>
     refine⟨done++[c],a,b++[c],by rw[<-r];simp,?_,?_,?_,?_,?_⟩
     ·simp
     ·right;simpa[Lib.byteCells] using t
     ·exact f.trans q
     ·rw[<-g,GF,m];simp
     ·simp;omega
    case measure=>simp at j;simp[RowKit.intOf,p];omega
theorem bI(s:Aa):(GF s).length<=2*s.length:=by
 induction s with
 | nil=>simp[GF]
 | cons c s a=>rw[GF];split<;>simp<;>omega
theorem YL(W0:World)(s:Aa)(b:s.length<=2^26):An Tryz.prog W0 133 [.s s] [] (.s (GF s)) []:=by refine AN (by kernel_rfl) λw vals g ⟨μ,H,c⟩=>?_;obtain⟨rfl,_⟩:=c.one_s;refine(iF s b w).mono λe w' ⟨a,f⟩=>?_;refine⟨_,a,λ_ _=>.s _ ?_,f⟩;have:=bI s;unfold AA;omega
def Pk(B:Nat)(l:Aa)(wr:World):Prop:=∀j (h:j<l.length),wr.cell? ⟨B,j,none⟩=some (.int .u8 (l[j].toNat:Int))/\wr.frozen? ⟨B,j,none⟩=false
theorem Pk.new(w:World)(s:Aa):Pk w.heap.size s (w.drew.alloc (.cells (bytesRow ⟨s.toArray⟩ (grownCap w s.length 0 5)) 5 ((bytesRow ⟨s.toArray⟩ (grownCap w s.length 0 5)).size,(bytesRow ⟨s.toArray⟩ (grownCap w s.length 0 5)).size+1))):=by
 intro j h;have a:w.drew.heap.size=w.heap.size:=rfl;rw[<-a,World.cell?_alloc_mark,World.frozen?_alloc_mark,bytesRow_at _ _ _ (by simpa using h)];refine⟨by simp,?_⟩;have:j<(bytesRow ⟨s.toArray⟩ (grownCap w s.length 0 5)).size:=by unfold bytesRow;simp;omega
 simp;omega
theorem Pk.set{B:Nat}{p post:Aa}{c:UInt8}{wr:World}(h:Pk B (p++[c]++post) wr)(d:UInt8):Pk B (p++[d]++post) (wr.setCell ⟨B,p.length,none⟩ (.int .u8 (d.toNat:Int))):=by
 intro j g;have a:j<(p++[c]++post).length:=by simp at g⊢;omega
 obtain⟨b,e⟩:=h j a;rw[World.frozen?_setCell];refine⟨?_,e⟩;by_cases f:j=p.length
 ·subst f;rw[World.cell?_setCell_same' _ _ _ (by rw[b];rfl)];simp
 ·rw[World.cell?_setCell_other wr ⟨B,p.length,none⟩ ⟨B,j,none⟩ _ (by grind),b];grind
theorem Pk.back{B n:Nat}{l:Aa}{wr:World}(h:Pk B l wr)(c:l.length=n)(a:Nat):(convert 96 9 (.slice (some ⟨B,0,none⟩) n a)).run Tryz.prog wr=.ok (.string ⟨l.toArray⟩) wr:=by subst c;exact run_convert_bytes_back (P:=Tryz.prog) wr 96 9 5 ⟨B,0,none⟩ a l Tryz.underlying96 Tryz.underlying5 Tryz.underlying9 (λj b=>by have:=(h j b).1;unfold Addr.add;split<;>simp_all)
theorem wP:Ip []=[49]:=rfl
theorem Aj2(p:Aa):Ip (p++[57])=Ip p++[48]:=by unfold Ip;rw[List.reverse_append];show(Ly (57::p.reverse)).reverse=_;rw[Ly];simp
theorem AiL(p:Aa)(c:UInt8)(h:(c==57)=false):Ip (p++[c])=p++[c+1]:=by unfold Ip;rw[List.reverse_append];show(Ly (c::p.reverse)).reverse=_;rw[Ly,h];simp
set_option maxHeartbeats 4000000 in
set_option maxRecDepth 1000000 in
theorem ZQ(s:Aa)(H:s.length<=2^26)(w:World):Calls Tryz.prog 202 #[.string ⟨s.toArray⟩] w λe w'=>e=.returned (.string ⟨(Ip s).toArray⟩)/\Below w.heap.size w w':=by
 have r:=fun(w:World) (s:ByteArray)=>run_bytes_of_string (P:=Tryz.prog) w 9 96 5 s Tryz.underlying9 Tryz.underlying96 Tryz.underlying5;have x:RowKit.wrap64 ((s.length:Int)-1)=(s.length:Int)-1:=by unfold RowKit.wrap64;omega
 go_enter Tryz.func202,Tryz.ntmps202
 go_wp2
 go_loopw [4] (λi wr=>∃(pre post:Aa),pre.length+post.length=s.length/\i=.int .i64 ((pre.length:Int)-1)/\Pk w.heap.size (pre++post) wr/\Below w.heap.size w wr/\Ip pre++post=Ip s) (λi _=>(RowKit.intOf i+1).toNat)
 case atStart=>refine⟨s,[],by simp,by rw[<-x],by rw[Ary];exact Pk.new w s,((Auw _ w).alloc (Abm _) _).drew,Ary _⟩
 case round=>
  obtain⟨pre,post,D,B,a,f,q⟩:=hrel;subst B;rcases Ax8 pre with rfl|⟨p,c,rfl⟩
  ·have k:=a.back (by simpa using D) (grownCap w s.length 0 5)
   go_wp2
   go_ret
   refine⟨?_,f⟩;rw[<-q,wP];rfl
  ·simp only[Ax9,Agz,Ah5,Alo] at *;have u:((p.length+(0+1):Nat):Int)-1=(p.length:Int):=by omega
   rw[u];have o:=a p.length (by simp);have g:((p++[c])++post)[p.length]'(by simp)=c:=by simp
   rw[g] at o;obtain⟨E,F⟩:=o;have C:(p.length:Int)<(s.length:Int):=by omega
   have y:p.length<s.length:=by omega
   have v:(p++[c+1]++post).length=s.length:=by simp;omega
   have t:((c+1).toNat:Int)=((c.toNat:Int)+1) % 256:=by simp[UInt8.toNat_add]
   have k:=(a.set (c+1)).back v (grownCap w s.length 0 5);rw[t] at k;have m:=a.set 48;have A:((c.toNat:Int) !=57)=!(c==57):=by
    rw[Atk];simp only[bne_iff_ne,Aot,beq_eq_false_iff_ne,ne_eq];constructor
    ·rintro h rfl;exact h rfl
    ·intro h G;apply h;have z:c.toNat=(57:UInt8).toNat:=by grind
     exact AxH.1 z
   go_wp2
   ·have b:(c==57)=false:=by
     simp_all
    go_ret
    refine⟨?_,f.setCell (p:=⟨w.heap.size,p.length,none⟩) (Abm _) _⟩;rw[<-q,AiL p c b];simp
   ·have b:(c==57)=true:=by
     grind
    have j:c=57:=by simpa using b
    subst j;rw[Aj2] at q;refine⟨⟨p,48::post,by simp;omega,rfl,?_,f.setCell (p:=⟨w.heap.size,p.length,none⟩) (Abm _) _,by rw[<-q];simp⟩,by simp only[RowKit.intOf];omega⟩;simpa using m
theorem aC(l:List UInt8):(Ly l).length<=l.length+1:=by
 induction l with
 | nil=>simp[Ly]
 | cons c l a=>rw[Ly];split<;>simp;omega
theorem AgG(W0:World)(s:Aa)(g:s.length<=2^20):An Tryz.prog W0 202 [.s s] [] (.s (Ip s)) []:=by refine AN (by kernel_rfl) λw vals f ⟨μ,H,b⟩=>?_;obtain⟨rfl,_⟩:=b.one_s;refine(ZQ s (by omega) w).mono λe w' ⟨a,c⟩=>?_;refine⟨_,a,λ_ _=>.s _ ?_,c⟩;have:=aC s.reverse;unfold Ip AA;simp at this⊢;omega
end Go.Ir
namespace Go.Proofs
open Go.Shelf
def Tryz.lays150_ren:Go.Shelf.Ren:=⟨fun|150=>270|153=>308|152=>321|226=>329|227=>247|228=>292|137=>252|119=>337|224=>290|225=>289|217=>288|266=>319|n=>n,fun|9=>9|4=>4|3=>3|5=>5|21=>21|117=>323|116=>322|0=>0|46=>237|124=>326|n=>n,fun|n=>n⟩
theorem Tryz.lays150:Go.Proofs.Lays.n150 Tryz.prog Tryz.lays150_ren:=by constructor;all_goals intros;kernel_rfl
end Go.Proofs
namespace Go.Ir
open Go.Proofs Go.RowKit
set_option maxHeartbeats 4000000 in
set_option maxRecDepth 1000000 in
theorem Rb(w:World):Calls Tryz.prog 321 #[.string ⟨#[123,125]⟩,.int .i32 65533] w λe w'=>e=.returned (.int .i64 (-1))/\Below w.heap.size w w':=by
 go_enter Tryz.func321,Tryz.ntmps321
 go_wp2
 go_loopg [5,6,176,177,178,179,180,181] 2 (λg _ _ _ _ _ _ _ _ h=>∃i:Nat,i+g=2/\h=w.iter ⟨#[123,125]⟩ i)
 case atStart=>exact⟨0,rfl,rfl⟩
 case round=>
  obtain⟨i,f,rfl⟩:=hrel;cases gk with
  | zero=>
   obtain rfl:i=2:=by omega
   have a:=run_next_end (P:=Tryz.prog) w ⟨#[123,125]⟩ 2
   go_wp2
   go_ret
   exact⟨rfl,(Auw _ w).alloc (Abm _) _⟩
  | succ g=>
   have c:i=0\/i=1:=by omega
   rcases c with rfl|rfl
   ·have a:=λb=>run_next_ascii (P:=Tryz.prog) w ⟨#[123,125]⟩ 0 b (by decide) (by decide)
    go_wp2
    go_roundg g
    case measure=>omega
    grind
   ·have a:=λb=>run_next_ascii (P:=Tryz.prog) w ⟨#[123,125]⟩ 1 b (by decide) (by decide)
    go_wp2
    go_roundg g
    case measure=>omega
    grind
set_option maxHeartbeats 4000000 in
set_option maxRecDepth 1000000 in
theorem S3(r:Int)(h:55296<=r)(i:r<=57343)(w:World):Calls Tryz.prog 321 #[.string ⟨#[123,125]⟩,.int .i32 r] w λe w'=>e=.returned (.int .i64 (-1))/\Below w.heap.size w w':=by
 have a:decide (0<=r)=true:=by simp;omega
 have b:decide (r<128)=false:=by simp;omega
 have c:(r==65533)=false:=by simp;omega
 have f:¬r<55296:=by omega
 have g:¬57343<r:=by omega
 go_enter Tryz.func321,Tryz.ntmps321
 go_wp2
 go_ret
 exact⟨rfl,Auw _ w⟩
set_option maxHeartbeats 4000000 in
set_option maxRecDepth 1000000 in
theorem Nu(r:Int)(h1:128<=r)(hr:r<55296\/57343<r)(h2:r<=1114111)(h3:(r==65533)=false)(w:World):Calls Tryz.prog 321 #[.string ⟨#[123,125]⟩,.int .i32 r] w fun e w'=>e=.returned (.int .i64 (-1))/\Below w.heap.size w w':=by
 have mixed:=Tryz.lays150.mixed
 have g1:decide (0<=r)=true:=by simp;omega
 have g2:decide (r<128)=false:=by simp;omega
 have hv:Utf8.valid r=true:=by
  rw[validRune_eq]
  unfold validRune
  grind
 obtain⟨f1,f2,f3⟩:=encode_facts r hv h1
 have hcv:=fun(w:World)=>run_convert_int_string (P:=Tryz.prog) w 21 9 .i32 r (by rw[Tryz.underlying21];rfl) Tryz.underlying9
 generalize Utf8.encode r=E at *
 have hw1:RowKit.wrap64 ((E.size:Int)-1)=(E.size:Int)-1:=by unfold RowKit.wrap64;omega
 have hw1':(E.size:Int)-1=((E.size-1:Nat):Int):=by omega
 rw[hw1'] at hw1
 rcases hr with hr|hr
 ·go_enter Tryz.func321,Tryz.ntmps321
  go_wp2
  refine wp_scope_straight ?_
  go_wp2
  go_loopw [9] (fun i wr=>i=.int .i64 ((E.size-1:Nat):Int)/\wr=w) (fun _ _=>0)
  case atStart=>exact⟨rfl,rfl⟩
  case round=>
   obtain⟨rfl,rfl⟩:=hrel
   by_cases hs:E.size=2
   ·have hs1:E.size-1=1:=by omega
    obtain⟨x,hx⟩:∃x,x=E[1]'(by omega):=⟨_,rfl⟩
    have hx2:128<=x.toNat:=by
     simp_all
    have g6:(1:Nat)<E.size:=by omega
    have g8:((125:Int) !=(x.toNat:Int))=true:=by simp;omega
    have hib:=fun w=>Any.strings_IndexByte (P:=Tryz.prog) (ρ:=Tryz.lays150_ren) { Tryz.lays150 with } ⟨#[]⟩ (x.toNat:Int) w
    simp only[hs1] at hw1⊢
    go_wp2
    refine wp_scope_straight ?_
    go_wp2
    have hq:(((((⟨#[123,125]⟩:ByteArray)[1]'(by decide)).toNat:Nat):Int) !=(((E[1]'g6).toNat:Nat):Int))=true:=by rw[<-hx];exact g8
    go_region
    go_wp2
    go_region_with (go_at_call 252;refine(Any.strings_IndexByte (P:=Tryz.prog) (ρ:=Tryz.lays150_ren) { Tryz.lays150 with } _ _ _).mono ?_;rintro e w' ⟨rfl,hw⟩;rw[hw])
    go_wp2
    all_goals (simp +zetaDelta only [Exit.noGoto,Exit.inBlock,Exit.then];go_ret;exact⟨rfl,((Auw _ _).drew).drew⟩)
   ·have g6:¬E.size-1<2:=by omega
    have g7:decide (((E.size-1:Nat):Int)<2)=false:=by simp;omega
    go_wp2
    simp only[Exit.noGoto]
    go_ret
    exact⟨rfl,Auw _ _⟩
 ·have g9:¬r<55296:=by omega
  go_enter Tryz.func321,Tryz.ntmps321
  go_wp2
  refine wp_scope_straight ?_
  go_wp2
  go_loopw [9] (fun i wr=>i=.int .i64 ((E.size-1:Nat):Int)/\wr=w) (fun _ _=>0)
  case atStart=>exact⟨rfl,rfl⟩
  case round=>
   obtain⟨rfl,rfl⟩:=hrel
   by_cases hs:E.size=2
   ·have hs1:E.size-1=1:=by omega
    obtain⟨x,hx⟩:∃x,x=E[1]'(by omega):=⟨_,rfl⟩
    have hx2:128<=x.toNat:=by
     simp_all
    have g6:(1:Nat)<E.size:=by omega
    have g8:((125:Int) !=(x.toNat:Int))=true:=by simp;omega
    have hib:=fun w=>Any.strings_IndexByte (P:=Tryz.prog) (ρ:=Tryz.lays150_ren) { Tryz.lays150 with } ⟨#[]⟩ (x.toNat:Int) w
    simp only[hs1] at hw1⊢
    go_wp2
    refine wp_scope_straight ?_
    go_wp2
    have hq:(((((⟨#[123,125]⟩:ByteArray)[1]'(by decide)).toNat:Nat):Int) !=(((E[1]'g6).toNat:Nat):Int))=true:=by rw[<-hx];exact g8
    go_region
    go_wp2
    go_region_with (go_at_call 252;refine(Any.strings_IndexByte (P:=Tryz.prog) (ρ:=Tryz.lays150_ren) { Tryz.lays150 with } _ _ _).mono ?_;rintro e w' ⟨rfl,hw⟩;rw[hw])
    go_wp2
    all_goals (simp +zetaDelta only [Exit.noGoto,Exit.inBlock,Exit.then];go_ret;exact⟨rfl,((Auw _ _).drew).drew⟩)
   ·have g6:¬E.size-1<2:=by omega
    have g7:decide (((E.size-1:Nat):Int)<2)=false:=by simp;omega
    go_wp2
    simp only[Exit.noGoto]
    go_ret
    exact⟨rfl,Auw _ _⟩
theorem T9(r:Int)(b:128<=r)(c:r<=1114111)(w:World):Calls Tryz.prog 321 #[.string ⟨#[123,125]⟩,.int .i32 r] w λe w'=>e=.returned (.int .i64 (-1))/\Below w.heap.size w w':=by
 by_cases f:r=65533
 ·subst f;exact Rb w
 ·have a:(r==65533)=false:=by simp[f]
  by_cases g:r<55296
  ·exact Nu r b (.inl g) c a w
  ·by_cases h:57343<r
   ·exact Nu r b (.inr h) c a w
   ·exact S3 r (by omega) (by omega) w
theorem dW(s:ByteArray)(p:Nat)(h:128<=(s.get! p).toNat):(Utf8.decode s p).1<=1114111/\∀k,k<(Utf8.decode s p).2->128<=(s.get! (p+k)).toNat:=by
 have a:∀k,(s.get! (p+k)).toNat<256:=λk=>(s.get! (p+k)).toNat_lt;have g:=a 0;have i:=a 1;have j:=a 2;have m:=a 3;have f:¬(s.get! (p+0)).toNat<128:=by rw[AwA];omega
 have o:128<=(s.get! (p+0)).toNat:=by rw[AwA];exact h
 have one:∀k,k<1->128<=(s.get! (p+k)).toNat:=λk e=>by grind
 simp only[Utf8.decode,f,if_false,Utf8.runeError];split
 ·grind
 ·split
  ·grind
  ·split
   ·rename_i c;simp only[Aan,beq_iff_eq] at c;split
    ·rename_i d;have b:=d;simp only[Utf8.valid,Aan,AwE,decide_eq_true_eq] at b;refine⟨by simp only;omega,λk e=>?_⟩;grind
    ·exact⟨by simp,one⟩
   ·exact⟨by simp,one⟩
def Apn(s:ByteArray)(i:Nat):Prop:=∀j,j<i->j<s.size->s.get! j≠123/\s.get! j≠125
set_option maxHeartbeats 4000000 in
set_option maxRecDepth 1000000 in
theorem Pf(s:ByteArray)(h8:s.size<=8)(w:World):Calls Tryz.prog 308 #[.string s,.string ⟨#[123,125]⟩] w fun e w'=>(∃v:Int,e=.returned (.int .i64 v)/\((0<=v/\∃j,j<s.size/\(s.get! j=123\/s.get! j=125))\/(v=-1/\Apn s s.size)))/\Below w.heap.size w w':=by
 have mixed:=Tryz.lays150.mixed
 have h8z:decide ((8:Int)<(s.size:Int))=false:=decide_eq_false (by omega)
 have e152:∀args w,(callFunc 321 args).run Tryz.prog w=.ok (.enter 321 args) w:=enters_of Tryz.func321 (by kernel_rfl) rfl
 have L153:Lays.n153 Tryz.prog Tryz.lays150_ren:={ Tryz.lays150 with }
 have e226:∀args w,(callFunc (Tryz.lays150_ren.f 226) args).run Tryz.prog w=.ok (.enter (Tryz.lays150_ren.f 226) args) w:=enters_of L153.f226 (by kernel_rfl) rfl
 go_enter Tryz.func308,Tryz.ntmps308
 go_wp2_with (go_at_call 329;refine(Any.strings_shouldUseASCIISet (P:=Tryz.prog) (ρ:=Tryz.lays150_ren) { Tryz.lays150 with } _ _).mono ?_;rintro e w' ⟨rfl,hw⟩;rw[hw,h8z])
 go_loopw [9,10] (fun _ _ wr=>∃i:Nat,wr.heap[w.heap.size]?=some (.stringIter s i)/\Below w.heap.size w wr/\Apn s i) (fun _ _ wr=>s.size-wr.iterPos w.heap.size)
 case atStart=>exact⟨0,World.iter_heap _ _ _,(Auw _ w).alloc (Abm _) _,fun j hj=>by omega⟩
 case round=>
  obtain⟨i,hit,hbw,hno⟩:=hrel
  by_cases hi:i<s.size
  ·by_cases ha:(s[i]'hi).toNat<128
   ·have hnx:=fun ty=>Go.Lib.run_next_ascii_at (P:=Tryz.prog) wr w.heap.size s i ty hit hi ha
    have hg:s.get! i=s[i]'hi:=by
     simp[ByteArray.get!,getElem!_pos,hi]
     rfl
    have hp1:=Lib.iterAt_heap wr w.heap.size s i (i+1) hit
    have hm:s.size-(wr.iterAt w.heap.size s (i+1)).iterPos w.heap.size<s.size-wr.iterPos w.heap.size:=by
     unfold World.iterPos
     grind
    have hb1:=Lib.below_iterAt hbw (k:=w.heap.size) (Abm _) s (i+1)
    have Hm:Hid (s.size-(wr.iterAt w.heap.size s (i+1)).iterPos w.heap.size<s.size-wr.iterPos w.heap.size):=hm
    have Hp:Hid ((wr.iterAt w.heap.size s (i+1)).heap[w.heap.size]?=some (.stringIter s (i+1))):=hp1
    clear hm hp1
    generalize s[i]'hi=x at *
    have Hg:Hid (s.get! i=x):=hg
    clear hg
    have hcon:=Lib.contains_iff_indexByte [123,125] x
    have hback:((x.toNat:Int)).toNat.toUInt8=x:=by simp
    cases hin:([123,125]:List UInt8).contains x
    ·rw[hin] at hcon
     have hlt:¬((0:Int)<=Lib.indexByte [123,125] x):=of_decide_eq_false hcon.symm
     have Hin:Hid (([123,125]:List UInt8).contains x=false):=hin
     clear hcon hin
     go_wp2_with (go_at_call 321;refine(Any.strings_IndexRune_ascii (P:=Tryz.prog) (ρ:=Tryz.lays150_ren) { Tryz.lays150 with } _ _ _ (by omega) (by omega)).mono ?_;rintro e w' ⟨rfl,hw⟩;rw[hw,hback])
     refine⟨⟨i+1,Hp.out,hb1,fun j hj hjs=>?_⟩,Hm.out⟩
     by_cases he:j=i
     ·subst he
      rw[Hg.out]
      have:=Hin.out
      grind
     ·exact hno j (by omega) hjs
    ·rw[hin] at hcon
     have hge:(0:Int)<=Lib.indexByte [123,125] x:=of_decide_eq_true hcon.symm
     have Hin:Hid (([123,125]:List UInt8).contains x=true):=hin
     clear hcon hin
     go_wp2_with (go_at_call 321;refine(Any.strings_IndexRune_ascii (P:=Tryz.prog) (ρ:=Tryz.lays150_ren) { Tryz.lays150 with } _ _ _ (by omega) (by omega)).mono ?_;rintro e w' ⟨rfl,hw⟩;rw[hw,hback])
     go_ret
     refine⟨⟨i,rfl,.inl ⟨by omega,i,hi,?_⟩⟩,hb1⟩
     rw[Hg.out]
     have:=Hin.out
     simpa using this
   ·have hnx:=fun ty=>Go.Lib.run_next_any_at (P:=Tryz.prog) wr w.heap.size s i ty hit hi
    have hg:s.get! i=s[i]'hi:=by
     simp[ByteArray.get!,getElem!_pos,hi]
     rfl
    obtain⟨d1,d2⟩:=decode_high s i hi (by omega)
    obtain⟨d3,d4⟩:=dW s i (by rw[hg];omega)
    generalize hD:Utf8.decode s i=D at *
    obtain⟨r,n⟩:=D
    simp only at d1 d2 d3 d4 hnx
    have hp1:=Lib.iterAt_heap wr w.heap.size s i (i+n) hit
    have hsz:=Lib.iterAt_size wr w.heap.size s (i+n)
    have hlt:w.heap.size<wr.heap.size:=(ApJ.1 hit).1
    have hb1:=Lib.below_iterAt hbw (k:=w.heap.size) (Abm _) s (i+n)
    have Hp:Hid ((wr.iterAt w.heap.size s (i+n)).heap[w.heap.size]?=some (.stringIter s (i+n))):=hp1
    have Hd:Hid (∀k,k<n->128<=(s.get! (i+k)).toNat):=d4
    have Hsz:Hid ((wr.iterAt w.heap.size s (i+n)).heap.size=wr.heap.size):=hsz
    have Hb:Hid (Below w.heap.size w (wr.iterAt w.heap.size s (i+n))):=hb1
    clear hp1 d4 hg ha hD hsz hb1
    go_wp2_with (go_at_call 321;refine(T9 (r:Int) (by omega) (by omega) _).mono ?_;rintro e w2 ⟨rfl,hw2⟩)
    have hb2:Below w.heap.size (wr.iterAt w.heap.size s (i+n)) w2:=hw2.mono (by rw[Hsz.out];omega)
    have hp2:w2.heap[w.heap.size]?=some (.stringIter s (i+n)):=by
     rw[hw2.block _ (by rw[Hsz.out];exact hlt)]
     exact Hp.out
    refine⟨⟨i+n,hp2,Hb.out.trans hb2,fun j hj hjs=>?_⟩,?_⟩
    ·by_cases he:j<i
     ·exact hno j he hjs
     ·have:=Hd.out (j-i) (by omega)
      rw[show i+(j-i)=j by omega] at this
      constructor
      ·intro h;simp_all
      ·intro h;simp_all
    ·unfold World.iterPos
     grind
  ·have hnx:=fun ty=>Go.Lib.run_next_end_at (P:=Tryz.prog) wr w.heap.size s i ty hit hi
   go_wp2
   go_ret
   exact⟨⟨-1,rfl,.inr ⟨rfl,fun j hj=>hno j (by omega)⟩⟩,hbw⟩
theorem OD(s:Aa):(∃j,j<(⟨s.toArray⟩:ByteArray).size/\((⟨s.toArray⟩:ByteArray).get! j=123\/(⟨s.toArray⟩:ByteArray).get! j=125))↔FQ s=true:=by
 unfold FQ;rw[Awl];have e:∀j (h:j<s.length),(⟨s.toArray⟩:ByteArray).get! j=s[j]:=λj h=>by simp[ByteArray.get!,h]
 constructor
 ·rintro⟨j,a,h⟩;have b:j<s.length:=by simpa[ByteArray.size] using a
  grind
 ·rintro⟨x,c,h⟩;obtain⟨j,a,rfl⟩:=List.getElem_of_mem c;refine⟨j,by simpa[ByteArray.size] using a,?_⟩;grind
theorem nW:∀s:Aa,decide (0<=Lib.indexAny s [123,125])=FQ s
 | []=>rfl
 | b::l=>by
  have f:=nW l;have e:=Lib.indexAny_ge [123,125] l;have c:([123,125]:List UInt8).contains b=(b==123||b==125):=by rw[Atk];simp
  have a:FQ (b::l)=((b==123||b==125)||FQ l):=rfl;rw[Lib.indexAny,c,a,<-f];grind
theorem TL(s:Aa)(o:s.length<4294967281)(w:World):Calls Tryz.prog 308 #[.string ⟨s.toArray⟩,.string ⟨#[123,125]⟩] w λe w'=>(∃v:Int,e=.returned (.int .i64 v)/\decide (0<=v)=FQ s)/\Below w.heap.size w w':=by
 by_cases k:s.length<=8
 ·refine(Pf ⟨s.toArray⟩ (by simpa[ByteArray.size] using k) w).mono λe w' ⟨⟨v,c,f⟩,h3⟩=>⟨⟨v,c,?_⟩,h3⟩
  rcases f with⟨h4,h5⟩|⟨rfl,h5⟩
  ·rw[(OD s).1 h5];simpa using h4
  ·cases m:FQ s with
   | false=>rfl
   | true=>obtain⟨j,g,h⟩:=(OD s).2 m;have:=h5 j g g;grind
 ·have a:(Tryz.prog.info? (Tryz.lays150_ren.t 116)).map (λi=>(i.zero,i.size))=some (some (.agg (Array.replicate 256 (.bool false))),256):=by kernel_rfl
  refine(Any.strings_IndexAny_long (P:=Tryz.prog) (ρ:=Tryz.lays150_ren) { Tryz.lays150 with } (zero_of_info a).1 (zero_of_info a).2 ⟨s.toArray⟩ ⟨#[123,125]⟩ w (by decide) (by simp[ByteArray.size];omega) (by simpa[ByteArray.size] using o) (by decide) (λj b h=>by
   match j with
   | 0=>simp at h;subst h;decide
   | 1=>simp at h;subst h;decide
   | j+2=>simp at h)).mono λe w' ⟨c,f⟩=>⟨⟨_,c,?_⟩,?_⟩
  ·exact nW s
  ·rw[f];exact((Auw _ _).alloc (Abm _) _).alloc (by simp) _
set_option maxHeartbeats 1000000 in
theorem Ab1(s:Aa)(a:s.length<4294967281)(w:World):Calls Tryz.prog 270 #[.string ⟨s.toArray⟩,.string ⟨#[123,125]⟩] w λe w'=>e=.returned (.bool (FQ s))/\Below w.heap.size w w':=by
 have c:=TL s a w
 go_enter Tryz.func270,Tryz.ntmps270
 go_wp2_with (go_at_call 308;refine c.mono ?_;rintro e w' ⟨⟨v,rfl,b⟩,f⟩)
 go_ret
 simp_all
theorem rM(W0:World)(s:Aa)(k:s.length<=2^31):An Tryz.prog W0 270 [.s s,.s [123,125]] [] (.b (FQ s)) []:=by
 refine AN (by kernel_rfl) λw vals i ⟨μ,H,c⟩=>?_;have a:=c.len;obtain⟨x,y,rfl⟩:∃x y,vals=[x,y]:=by
  match vals,a with
  | [x,y],_=>exact⟨x,y,rfl⟩
 obtain⟨rfl,j⟩:=BB (c.at_ 0 _ _ rfl rfl);obtain⟨rfl,g⟩:=BB (c.at_ 1 _ _ rfl rfl);exact(Ab1 s (by omega) w).mono λe w' ⟨f,h⟩=>⟨_,f,λ_ _=>.b _,h⟩
end Go.Ir
section
namespace Go.Ir
open Go.Proofs
variable(W0:World)
def EJ:List (V×V):=[(.s [110,117,109,98,101,114],.i .i64 3),(.s [117,110,105,116],.i .i64 4),(.s [100,97,116,101],.i .i64 5),(.s [108,105,115,116],.i .i64 6),(.s [112,108,117,114,97,108],.i .i64 7),(.s [111,114,100,105,110,97,108],.i .i64 8),(.s [115,101,108,101,99,116],.i .i64 9)]
theorem Ak5:Jh Tryz.prog W0 134 [] [] (.map EJ) []:=by refine XE (s:=0) AgB (by simp) (by simp) λn0 a=>?_;clear a;unfold EJ;have j:Br .str (.s [110,117,109,98,101,114]) [] 0=some none:=rfl;have b:Br .str (.s [117,110,105,116]) (EJ.take 1) 0=some none:=rfl;have c:Br .str (.s [100,97,116,101]) (EJ.take 2) 0=some none:=rfl;have e:Br .str (.s [108,105,115,116]) (EJ.take 3) 0=some none:=rfl;have f:Br .str (.s [112,108,117,114,97,108]) (EJ.take 4) 0=some none:=rfl;have g:Br .str (.s [111,114,100,105,110,97,108]) (EJ.take 5) 0=some none:=rfl;have i:Br .str (.s [115,101,108,101,99,116]) (EJ.take 6) 0=some none:=rfl;simp only[EJ,As2,Auk] at b c e f g i;simp only[push_cast,seval,reduceEqDiff,j,b,c,e,f,g,i];intros;exact⟨_,Ak.refl,_,rfl,by simp[lk],rfl,λ_ _ h=>by simp[lk] at h⟩
def NQ(k:Int):Nat:=if decide (k>=3)&&decide (k<=9) then 2+(U2 k).length else 0
mutual
def Aj.lenB:Aj->Nat
 | ⟨k,t,a,st,cs,ps⟩=>
  if k==1 then(GF t).length
  else if k==10 then 1
  else if k==11 then(3+a.length)+(if ps.isEmpty then 0 else(2+a.length)+CC ps)
  else(2+a.length)+NQ k+(if st==[] then 0 else 2+st.length)+(if Bf k then 1 else 0)+E3 cs
def CC:List Aj->Nat
 | []=>0
 | p::ps=>p.lenB+CC ps
def E3:List (Aa×List Aj)->Nat
 | []=>0
 | (key,ps)::cs=>((4+key.length)+CC ps)+E3 cs
end
theorem Aj.lenB_eq(p:Aj):p.lenB=(if p.kind==1 then(GF p.text).length
  else if p.kind==10 then 1
  else if p.kind==11 then(3+p.name.length)+(if p.parts.isEmpty then 0 else(2+p.name.length)+CC p.parts)
  else(2+p.name.length)+NQ p.kind+(if p.style==[] then 0 else 2+p.style.length)+(if Bf p.kind then 1 else 0)+E3 p.cases):=by cases p;simp only[Aj.lenB]
theorem IJ(p:Aj)(ps:List Aj):CC (p::ps)=p.lenB+CC ps:=by simp only[CC]
theorem GN(c:AJ)(cs:List AJ):E3 (c::cs)=((4+c.1.length)+CC c.2)+E3 cs:=by obtain⟨k,q⟩:=c;simp only[E3]
theorem Yv(k:Int):NQ k<=9:=by unfold NQ;have:=M4 k;split<;>omega
theorem Aj.lenB_le1(p:Aj)(b:CC p.parts<=20*AU p.parts)(c:E3 p.cases<=20*DG p.cases):p.lenB<=20*p.wt:=by rw[p.wt_eq,p.lenB_eq];have a:=Rd p.text;have a2:=Yv p.kind;grind
theorem Y7:∀(N:Nat) (ps:List Aj),AU ps<N->CC ps<=20*AU ps:=by
 intro N
 induction N with
 | zero=>intro ps h;omega
 | succ N e=>
  have b:∀cs:List AJ,DG cs<N->E3 cs<=20*DG cs:=by
   intro cs
   induction cs with
   | nil=>intro _;simp[E3]
   | cons c cs a=>intro h;rw[B6] at h;rw[GN,B6];grind
  intro ps
  induction ps with
  | nil=>intro _;simp[CC]
  | cons p ps a=>intro h;rw[Bk] at h;rw[IJ,Bk];have f:=a (by omega);have g:=p.wt_eq;have:=p.lenB_le1 (e p.parts (by omega)) (b p.cases (by omega));omega
theorem J6(ps:List Aj):CC ps<=20*AU ps:=Y7 _ ps (Ab3 _)
theorem uK(cs:List AJ):E3 cs<=20*DG cs:=by
 induction cs with
 | nil=>simp[E3]
 | cons c cs a=>rw[GN,B6];have:=J6 c.2;omega
theorem Aj.lenB_le(p:Aj):p.lenB<=20*p.wt:=p.lenB_le1 (J6 _) (uK _)
theorem S6:EJ.length=7:=rfl
theorem z7{i:Nat}{a:V×V}(h:EJ[i]?=some a):i<7/\a=(.s (U2 (i+3:Nat)),.i .i64 (i+3:Nat)):=by
 have b:i<7:=by have:=(Alp.1 h).1;rw[S6] at this;exact this
 refine⟨b,?_⟩;have:i=0\/i=1\/i=2\/i=3\/i=4\/i=5\/i=6:=by omega
 rcases this with rfl|rfl|rfl|rfl|rfl|rfl|rfl<;>(simp only[EJ,Awq,Avm,AkA] at h;rw[<-h];rfl)
def Gm(k:Int)(seen:List Nat):Nat:=if decide (k>=3)&&seen.contains (k-3).toNat then 2+(U2 k).length else 0
theorem bY(k:Int):Gm k []=0:=by simp[Gm]
theorem YX{k:Int}{seen:List Nat}{i:Nat}(h:((i+3:Nat):Int)=k)(b:i∉seen):Gm k seen=0/\Gm k (seen++[i])=2+(U2 (i+3:Nat)).length:=by
 subst h;have:(((i+3:Nat):Int)-3).toNat=i:=by omega
 have a:((i+3:Nat):Int)>=3:=by omega
 unfold Gm;grind
theorem UO{k:Int}{seen:List Nat}{i:Nat}(h:((i+3:Nat):Int)≠k):Gm k (seen++[i])=Gm k seen:=by unfold Gm;grind
theorem aJ{k:Int}{seen:List Nat}(a:∀i,i<7->i∈seen)(b:∀i∈seen,i<7):Gm k seen=NQ k:=by unfold Gm NQ;grind
def Q8(seen:List Nat):Nat:=(if 0∈seen then 0 else 1)+(if 1∈seen then 0 else 1)+(if 2∈seen then 0 else 1)+(if 3∈seen then 0 else 1)+(if 4∈seen then 0 else 1)+(if 5∈seen then 0 else 1)+(if 6∈seen then 0 else 1)
theorem fG{seen:List Nat}{i:Nat}(b:i<7)(a:i∉seen):Q8 (seen++[i])<Q8 seen:=by
 have:i=0\/i=1\/i=2\/i=3\/i=4\/i=5\/i=6:=by omega
 unfold Q8;rcases this with rfl|rfl|rfl|rfl|rfl|rfl|rfl<;>simp[a]
end Go.Ir
end
