/-
  Numbers as plain Lean data: sign, whole part, fraction.
  Maps from names to numbers, as lists.
  How numbers, units, dates and lists are written, as plain ..
  The IR of functions of the program, printed by our own tool
  Selectors as plain Lean data: what collects them.
  Maps that are sets of strings, and calls over a store with ..
  Stores of which a part is a list
  Contracts: the selectors' find, of both sides.
  Selectors whose keys are owned: the names in the store, and ..
  DERIVED: THE SHELF's CONTRACTS AT THIS DUMP, IN PLAIN WORDS ..
  The library's contracts, as the shelf gives them, as ..
  Contracts: numbers, of the program.
  Contracts: numbers, of the reference.
  Contracts: keys, names of the reference.
  Contracts: the names of a message, in the reference.
  Contracts: formed, of the reference.
  Contracts: FewRules.
  Contracts: conditions of the program.
  Contracts: rules of the program.
  Contracts: conditions and rules of the reference.
  Contracts: the keys of a selector in their order, of both ..
  Contracts: what collects the selectors, in the program.
  Contracts: what collects the selectors, in the program: the ..
  Contracts: the selectors of a message, in the program.
  Contracts: the selectors of a message, in the reference: ..
  Contracts: the selectors of a message, in the reference.
  Contracts: combinations, rules, add and Join, of both sides.
  Resolved messages as plain Lean data: the case that a key ..
  Contracts: the case that a key determines, of both sides.
  Contracts: resolve, of the program.
  Contracts: Clone of cases, cloned.
  Contracts: values
  Contracts: the fields of parts.
  Contracts: the checker of the program.
  Contracts: the checker of the program: parts.
  Contracts: Escape of the reference.
  Contracts: the text of a message, of the reference.
  A builder of the library at this program: the check of ..
  Increased of the program: []byte(s), at the model.
  strings.ContainsAny(s, "{}") at any s.
  strings.IndexAny(s, "{}") at a short s of any bytes.
  Contracts: the length of a message's text, of the program.
  Contracts: the length of a message's text, of the program: ..
  Contracts: Valid, of the program.
  Contracts: the writer of layer 32 over messages of texts ..
-/
import Derived.Test.YtalbicndcfmbnaaGreatDoorPac
import Derived.Lib.SlTrimSet
import Derived.Lib.Bytealg
import Derived.Lib.Atoi
import Derived.Lib.IndexMore
import Derived.Lib.Replace
import Derived.Lib.IndexAny
import Derived.Lib.Join
import Derived.Lib.SlicesCompact
import Derived.Lib.ItoaNum
import Derived.Shelf.Small.Wraps
import Derived.Shelf.Strconv.Itoa3
import Derived.Shelf.Strconv.Atoi
import Derived.Shelf.Strings.Search2
import Derived.Shelf.Strings.SlTrimAscii
import Derived.Deep.Draws
import Derived.Lib.AtoiErrMem
import Derived.BigCall
import Derived.Laws.IdiomStrings
import Derived.Shelf.Strings.IndexAnyAll
import Derived.Lib.OthersKept
import Derived.Scope
import Derived.RegionCalls
import Derived.BigRegion
import Derived.Deep.RegionWith
import Derived.Laws.Runes
import Derived.Laws.RangeAny
set_option linter.all false
set_option linter.defProp false
set_option linter.unusedSimpArgs false
set_option linter.unusedVariables false
open Nat (reduceEqDiff)
namespace Go.Ir
def Cd(s:Aa):Bool:=s.all fun c=>!(decide (c<48)||decide (c>57))
def Dv(s:Aa):Bool:=s.all fun c=>c==48
def IQ(s:Aa):Bool:=match s with
 | 45::_=>true
 | _=>false
def Ha(s:Aa):Aa:=if IQ s then s.tail else s
def AK(s:Aa):Aa:=(Ha s).takeWhile (· != 46)
def Og(s:Aa):Aa:=(Ha s).dropWhile (· != 46)
def Bj(s:Aa):Aa:=(Og s).tail
def rU(s:Aa):Bool:=match s[0]? with
 | some c=>(c.toNat:Int)==48
 | none=>false
def DD(s:Aa):Bool:=
 !(decide (((AK s).length:Int)<1)||decide (((AK s).length:Int)>15)||!Cd (AK s)||decide (((AK s).length:Int)>1)&&rU (AK s))
  && !((!(Og s).isEmpty&&((Bj s).length:Int)==0)||decide (((Bj s).length:Int)>6)||!Cd (Bj s))&&(!IQ s||!(Dv (AK s)&&Dv (Bj s)))
theorem Jf(s:Aa):Ha s=AK s++Og s:=(List.takeWhile_append_dropWhile).symm
theorem PG(s:Aa):(Ha s).length<=s.length:=by
 unfold Ha
 split<;>simp
theorem JH(s:Aa):(AK s).length<=s.length:=by
 have:=PG s
 rw[Jf,Aik] at this
 omega
theorem RB(s:Aa):(AK s).length+(Bj s).length<=s.length:=by
 have:=PG s
 rw[Jf,Aik] at this
 unfold Bj
 grind
theorem uH{w t:Aa}{c:UInt8}(h:∀x∈w,(x !=c)=true):Lib.indexByte (w++c::t) c=w.length:=by
 induction w with
 | nil=>simp[Lib.indexByte]
 | cons x w ih=>
  have hx:=h x (by simp)
  have:=ih (fun y hy=>h y (by simp[hy]))
  simp only[Akk,Lib.indexByte,this]
  grind
theorem aO{w:Aa}{c:UInt8}(h:∀x∈w,(x !=c)=true):Lib.indexByte w c=-1:=by
 induction w with
 | nil=>simp[Lib.indexByte]
 | cons x w ih=>
  have hx:=h x (by simp)
  have:=ih (fun y hy=>h y (by simp[hy]))
  simp only[Lib.indexByte,this]
  grind
theorem MI{α:Type}{p:α->Bool}(l:List α):∀x∈l.takeWhile p,p x=true:=by
 intro x hx
 exact Aiv.1 List.all_takeWhile x hx
theorem GO{α:Type}{p:α->Bool}{l t:List α}{c:α}(h:l.dropWhile p=c::t):p c=false:=by
 induction l with
 | nil=>simp at h
 | cons x l ih=>
  rw[List.dropWhile_cons] at h
  grind
theorem eW{α:Type}{p:α->Bool}{w r:List α}(h:∀x∈w,p x=true)(hr:∀x∈r.head?,p x=false):(w++r).takeWhile p=w/\(w++r).dropWhile p=r:=by
 induction w with
 | nil=>
  cases r with
  | nil=>simp
  | cons x r=>simp_all
 | cons x w ih=>
  simp_all
def Ajl(d:Nat)(c:UInt8):Nat:=10*d+(c.toNat-48)
def Mc(d:Nat)(s:Aa):Nat:=s.foldl Ajl d
theorem lJ(d:Nat):Mc d []=d:=rfl
theorem Nk(d:Nat)(c:UInt8)(s:Aa):Mc d (c::s)=Mc (10*d+(c.toNat-48)) s:=At6 ..
theorem Q0(s:Aa):∀d,Cd s=true->Lib.decFrom d s=some (Mc d s):=by
 induction s with
 | nil=>intro d _;rw[lJ,Lib.decFrom]
 | cons c s ih=>
  intro d h
  simp only[Cd,At3,Aav] at h
  have h2:=h.1
  simp[UInt8.lt_iff_toNat_lt] at h2
  have h3:Lib.digitVal c=some (c.toNat-48):=by
   unfold Lib.digitVal
   simp
   omega
  rw[Lib.decFrom,h3]
  simp only[Nk]
  rw[Nat.mul_comm 10 d]
  exact ih _ h.2
theorem kG(s:Aa)(h:Cd s=true):Lib.atoi (48::s)=some (Mc 0 s:Int):=by
 have:=Q0 (48::s) 0 (by simpa[Cd] using h)
 simp[Lib.atoi,Lib.decNat,this,Nk]
def IJ(s:Aa):Aa:=Lib.trimRightS s [48]
theorem Fo{α:Type}{p:α->Bool}{l:List α}:l.dropWhile p=[]↔∀x∈l,p x=true:=by
 induction l with
 | nil=>simp
 | cons x l ih=>
  rw[List.dropWhile_cons]
  grind
theorem NA(s cs:Aa):(Lib.trimS s cs==[])=s.all (fun c=>cs.contains c):=by
 rcases Ary (s.all (fun c=>cs.contains c)) with h|h
 ·rw[h]
  have:s.reverse.dropWhile (fun c=>cs.contains c)=[]:=by
   rw[Fo]
   grind
  unfold Lib.trimS Lib.trimLeftS Lib.trimRightS
  rw[this]
  rfl
 ·rw[h]
  rw[List.all_eq_false] at h
  obtain⟨x,hx,hp⟩:=h
  rw[beq_eq_false_iff_ne]
  intro h0
  unfold Lib.trimS Lib.trimLeftS Lib.trimRightS at h0
  rw[Fo] at h0
  cases hD:s.reverse.dropWhile (fun c=>cs.contains c) with
  | nil=>
   rw[Fo] at hD
   grind
  | cons d t=>
   have h1:=GO hD
   grind
theorem OI(s:Aa):(Lib.trimS s [48,49,50,51,52,53,54,55,56,57]==[])=Cd s:=by
 rw[NA]
 unfold Cd
 congr 1
 funext c
 rw[ApH]
 simp[UInt8.lt_iff_toNat_lt,<-Aue]
 omega
theorem Ts(s:Aa):(Lib.trimS s [48]==[])=Dv s:=by
 rw[NA]
 unfold Dv
 grind
theorem DK(s:Aa):Lib.hasPrefix s [45]=IQ s:=by
 unfold Lib.hasPrefix IQ
 split
 ·simp[List.isPrefixOf]
 ·rename_i h
  cases s with
  | nil=>simp[List.isPrefixOf]
  | cons c s=>
   simp only[List.isPrefixOf,AqV,beq_eq_false_iff_ne]
   intro h2
   exact h s (by rw[<-h2])
theorem ED(s:Aa):Lib.trimPrefix s [45]=Ha s:=by
 unfold Lib.trimPrefix Ha
 rw[DK]
 split<;>simp
theorem kV(s:Aa):∀x∈(Og s).head?,(x !=46)=false:=by
 intro x hx
 cases h:Og s with
 | nil=>rw[h] at hx;simp at hx
 | cons c t=>rw[h] at hx;simp at hx;subst hx;exact GO (p:=(· != 46)) h
theorem Pt{s:Aa}(h:Cd s=true):Cd (IJ s)=true:=by
 unfold Cd at *
 rw[Aiv] at *
 intro x hx
 refine h x ?_
 unfold IJ Lib.trimRightS at hx
 have:=(Ati (l:=s.reverse) (fun c=>List.contains [48] c)).mem (by simpa using hx)
 simpa using this
theorem iX(s:Aa):(IJ s).length<=s.length:=by
 unfold IJ Lib.trimRightS
 rw[Aug]
 exact Aiw (Ati _).length_le (by simp)
def yG(s:Aa)(op:Int):Int×Int:=
 if DD s then
  if op=1 then(if IJ (Bj s)==[] then(Mc 0 (AK s),0) else(0,8))
  else if op=2 then(Mc 0 (AK s),0)
  else if op=3 then((Bj s).length,0)
  else if op=4 then((IJ (Bj s)).length,0)
  else if op=5 then(Mc 0 (Bj s),0)
  else if op=6 then(Mc 0 (IJ (Bj s)),0)
  else(0,1)
 else(0,1)
theorem FX{s:Aa}(h:DD s=true):Cd (AK s)=true/\Cd (Bj s)=true/\(AK s).length<=15/\(Bj s).length<=6:=by
 unfold DD at h
 grind
abbrev OL:=List (Aa×Int)
def Db:OL->Aa->Option Int
 | [],_=>none
 | e::m,n=>if e.1==n then some e.2 else Db m n
def K7:OL->Aa->Int->OL
 | [],n,k=>[(n,k)]
 | e::m,n,k=>if e.1==n then(e.1,k)::m else e::K7 m n k
def Hf(ng:Bool)(w f:Aa):Aa:=
 if ng&&!(Dv w&&Dv f) then 45::(if f==[] then w else w++46::f) else(if f==[] then w else w++46::f)
def Fk(ng:Bool)(w f:Aa):Aa×Int:=if decide ((w.length:Int)>15)||decide ((f.length:Int)>6) then([],2) else(Hf ng w f,0)
def DP(w:Aa):Aa:=if Lib.trimLeftS w [48]==[] then[48] else Lib.trimLeftS w [48]
def CS(s:Aa):Aa×Int:=if DD s then Fk (IQ s) (DP (AK s++(Bj s++[48,48]).take 2)) ((Bj s).drop (min 2 (Bj s).length)) else([],1)
def K8:List UInt8->List UInt8
 | []=>[49]
 | c::r=>if c==57 then 48::K8 r else(c+1)::r
def HC(s:Aa):Aa:=(K8 s.reverse).reverse
def Abe:Aa->Bool
 | c::_=>decide ((c.toNat:Int)>=53)
 | []=>false
def CU(s:Aa):Aa×Int:=if DD s then Fk (IQ s) (if Bj s==[] then AK s else if Abe (Bj s) then HC (AK s) else AK s) [] else([],1)
def Bk(sc:Nat):Nat->Aa->List Aa
 | 0,_=>[]
 | n+1,r=>if r==[] then[] else r.drop (r.length-sc)::Bk sc n (r.take (r.length-sc))
def Iy(prim sec:Int)(grp d:Aa):Aa:=
 if decide (prim<1)||decide ((d.length:Int)<=prim) then d
 else Lib.join (d.drop (d.length-prim.toNat)::Bk (if sec<1 then prim else sec).toNat d.length (d.take (d.length-prim.toNat))).reverse grp
def E6(L:BV)(n:Aa):Aa:=
 let a:=Iy L.prim L.sec L.grp (AK n)
 let b:=if(Og n).isEmpty then a else a++(L.dec++Bj n)
 if IQ n then L.minus++b else b
def LX:Aa:=[105,110,116,101,103,101,114]
def Mr:Aa:=[112,101,114,99,101,110,116]
def C4(L:BV)(n st:Aa):Aa×Int:=
 if !DD n||(!(st==[])&&!(st==LX)&&!(st==Mr)) then([],1)
 else if L.dec==[] then([],18)
 else if st==LX then(if(CU n).2==0 then(E6 L (CU n).1,0) else([],(CU n).2))
 else if st==Mr then(if(CS n).2==0 then(E6 L (CS n).1++L.perc,0) else([],(CS n).2))
 else(E6 L n,0)
def EF:List Aa:=[[121],[77],[77,77],[77,77,77],[69],[100],[100,100]]
def Fw(s:Aa):Bool:=EF.contains s
def Cn:List Aa->Aa->List Aa->Option (List Aa)
 | [],rest,out=>if !(rest==[])||out.length==0 then none else some out
 | k::ks,rest,out=>
  if rest.take (rest.length-(Lib.trimLeftS rest k).length)==[] then Cn ks rest out
  else if Fw (rest.take (rest.length-(Lib.trimLeftS rest k).length)) then Cn ks (Lib.trimLeftS rest k) (out++[rest.take (rest.length-(Lib.trimLeftS rest k).length)]) else none
def CF:List Aa:=[[121],[77],[69],[100]]
def Ck(s:Aa):Option (List Aa):=Cn CF s []
def AX:Aa:=[65,66,67,68,69,70,71,72,73,74,75,76,77,78,79,80,81,82,83,84,85,86,87,88,89,90,97,98,99,100,101,102,103,104,105,106,107,108,109,110,111,112,113,114,115,116,117,118,119,120,121,122]
def Cv:Nat->Aa->List Aa->Option (List Aa)
 | 0,_,_=>none
 | n+1,p,out=>if p==[] then some out
  else if p.take (p.length-(Lib.trimLeftS p AX).length)==[] then Cv n (p.drop 1) out
  else if Fw (p.take (p.length-(Lib.trimLeftS p AX).length)) then Cv n (Lib.trimLeftS p AX) (out++[p.take (p.length-(Lib.trimLeftS p AX).length)]) else none
def GY(p:Aa):Option (List Aa):=Cv (p.length+1) p []
def Kj(l:List Aa):List Aa:=l.mergeSort fun x y=>decide (x<=y)
def FU(l:List Aa):Aa×Bool:=(Lib.join (Lib.compact (Kj (l.map fun f=>f.take 1))) [],(Lib.compact (Kj (l.map fun f=>f.take 1))).length==l.length)
def Dq(sk p:Aa):Bool:=match Ck sk,GY p with
 | some w,some g=>!(g.length==0)&&((FU g).2&&(FU w).1==(FU g).1)
 | _,_=>false
def AP(i:Nat):Aa:=123::(Lib.decDigits i++[125])
def Fv(s:Aa):Bool:=s.any fun c=>c==123||c==125
def PC:Nat->Nat->Aa->Bool
 | 0,_,s=>!Fv s
 | k+1,i,s=>if Lib.count s (AP i)==1 then PC k (i+1) (Lib.replace s (AP i) [0] 1) else false
def Ph(s:Aa)(n:Nat):Bool:=PC n 0 s
def Jn(y:Int):Bool:=(y.tmod 4==0&&y.tmod 100 !=0)||y.tmod 400==0
def Dx(y:Int):Int:=if Jn y then 366 else 365
def yF:List Int:=[31,28,31,30,31,30,31,31,30,31,30,31]
def H9(y:Int)(m:Nat):Int:=if m==2&&Jn y then 29 else yF.getD (m-1) 0
def F7:Nat->Int->Int->Int×Int
 | 0,y,d=>(y,d)
 | n+1,y,d=>if d>=Dx y then F7 n (y+1) (d-Dx y) else(y,d)
def M9(y:Int):Nat->Nat->Int->Nat×Int
 | 0,m,d=>(m,d)
 | n+1,m,d=>if d>=H9 y m then M9 y n (m+1) (d-H9 y m) else(m,d)
def D8(d:Int):Bool:=!(decide (d < -25567)||decide (d>84005))
def GH(d:Int):Int×Int:=F7 (d+25567).toNat 1900 (d+25567)
def Fp(d:Int):Nat×Int:=M9 (GH d).1 12 1 (GH d).2
def Ie(n:Nat):Aa:=if n<10 then 48::Lib.decDigits n else Lib.decDigits n
def Di(d:Int):Aa:=if D8 d then Lib.decDigits (GH d).1.toNat++[45]++Ie (Fp d).1++[45]++Ie ((Fp d).2+1).toNat else[]
def E5(l:List Aa):OL:=l.foldl (fun m f=>K7 m (f.take 1) f.length) []
def Kq(a b:OL):Int×Bool:=if a.all (fun e=>(Db b e.1).isSome) then((a.map fun e=>max (e.2-(Db b e.1).getD 0) ((Db b e.1).getD 0-e.2)).sum,(a.length:Int)==(b.length:Int)) else(0,false)
def CR(want:OL):List Dg->Int->Int->Int->Int
 | [],_,best,_=>best
 | p::ps,i,best,least=>match Ck p.skel with
  | none=>CR want ps (i+1) best least
  | some l=>if(Kq want (E5 l)).2&&(decide (best<0)||decide ((Kq want (E5 l)).1<least)) then CR want ps (i+1) i (Kq want (E5 l)).1 else CR want ps (i+1) best least
def Ea(l:List Dg)(sk:Aa):Int×Int:=match Ck sk with
 | none=>(0,3)
 | some w=>if CR (E5 w) l 0 (-1) 0<0 then(0,8) else(CR (E5 w) l 0 (-1) 0,0)
def YT(p:Aa):Bool:=[[],[121]].any fun y=>[[],[77]].any fun m=>[[],[69]].any fun e=>[[],[100]].any fun d=>Dq (y++m++e++d) p
def D0(c:UInt8):Bool:=(decide ((c.toNat:Int)>=65)&&decide ((c.toNat:Int)<=90))||(decide ((c.toNat:Int)>=97)&&decide ((c.toNat:Int)<=122))
structure LB where
 L:BV
 y:Nat
 m:Nat
 d:Nat
 wd:Nat
def Fy(x:LB)(f:Aa):Aa×Int:=
 if f==[121] then(Lib.decDigits x.y,0) else if f==[77] then(Lib.decDigits x.m,0) else if f==[77,77] then(Ie x.m,0)
 else if f==[77,77,77] then(if(x.L.months.length:Int) !=12 then([],18) else(x.L.months.getD (x.m-1) [],0))
 else if f==[69] then(if(x.L.days.length:Int) !=7 then([],18) else(x.L.days.getD x.wd [],0))
 else if f==[100] then(Lib.decDigits x.d,0) else(Ie x.d,0)
def BZ(x:LB):Nat->Aa->Aa->Aa×Int
 | 0,_,out=>(out,0)
 | n+1,p,out=>if p==[] then(out,0)
  else if(p.takeWhile D0).length==0 then BZ x n (p.drop 1) (out++p.take 1)
  else if(Fy x (p.take (p.takeWhile D0).length)).2==0 then BZ x n (p.drop (p.takeWhile D0).length) (out++(Fy x (p.take (p.takeWhile D0).length)).1)
  else([],(Fy x (p.take (p.takeWhile D0).length)).2)
def Io(x:LB)(p:Aa):Aa×Int:=BZ x (p.length+1) p []
def Kr(L:BV)(d:Int):LB:=⟨L,(GH d).1.toNat,(Fp d).1,((Fp d).2+1).toNat,((d+25567).tmod 7).toNat⟩
def Es(L:BV)(sk:Aa)(d:Int):Aa×Int:=
 if D8 d then
  if(Ea L.dates sk).2==8 then([],18) else if(Ea L.dates sk).2==0 then
   match L.dates[(Ea L.dates sk).1.toNat]? with
   | some p=>if YT p.pat then Io (Kr L d) p.pat else([],4)
   | none=>([],4)
  else([],(Ea L.dates sk).2)
 else([],2)
def EL(p a b:Aa):Aa:=
 if(Lib.cut (Lib.cut p (AP 0)).1 (AP 1)).2.2 then(Lib.cut (Lib.cut p (AP 0)).1 (AP 1)).1++b++(Lib.cut (Lib.cut p (AP 0)).1 (AP 1)).2.1++a++(Lib.cut p (AP 0)).2.1
 else(Lib.cut p (AP 0)).1++a++(Lib.cut (Lib.cut p (AP 0)).2.1 (AP 1)).1++b++(Lib.cut (Lib.cut p (AP 0)).2.1 (AP 1)).2.1
def GT(s:Aa):List Dc->Option Dc
 | []=>none
 | x::l=>if x.style==s then some x else GT s l
def IB(p:Dc):List Aa->Aa->Aa
 | [],rest=>rest
 | s::r,rest=>if(rest.length:Int)>20000 then rest else IB p r (EL (if r.isEmpty then p.start else p.mid) s rest)
def N7(p:Dc)(l:List Aa):Aa:=match l with
 | []=>[]
 | [a]=>a
 | [a,b]=>EL p.two a b
 | l=>IB p (l.take (l.length-2)).reverse (EL p.fin (l.getD (l.length-2) []) (l.getD (l.length-1) []))
def gY(p:Dc):Bool:=[p.two,p.start,p.mid,p.fin].all fun s=>Ph s 2
def EV(L:BV)(st:Aa)(l:List Aa):Aa×Int:=match GT st L.lists with
 | none=>([],18)
 | some p=>if gY p then(if(l.length:Int)>1000 then([],6) else if((N7 p l).length:Int)>20000 then([],6) else(N7 p l,0)) else([],4)
def Kl(u c:Aa):List Eb->Option Aa
 | []=>none
 | x::l=>if x.unit==u&&x.cls==c then some x.pat else Kl u c l
def IT(L:BV)(u c:Aa):Option Aa:=match Kl u c L.units with
 | some p=>some p
 | none=>Kl u [111,116,104,101,114] L.units
end Go.Ir

namespace Go.Ir
open Go.Proofs
variable{P:Program}{W0:World}{nt n:Nat}{Q:Exit→St→Prop}{env:AD}{σ:Ak}
def cQ:IC:=sQ (.block 1 (oP [m1 11 3,m1 12 0,m1 13 4,iA 14 12 13 9 1,l1 15 14,nS 16 15,bZ 17 .add 16 30,bT 18 .add 11 17,m1 3 18] [0,3,4])) (oP [m1 9 4,bZ 10 .add 9 1,m1 4 10] [0,3,4])
def Aba:IC:=sQ (oS [mZ 4 0] [0,3,4] (.block 0 (.loop (sQ (oS [m1 5 4,m1 6 0,nL 7 6,bT 8 .lss 5 7] [0,3,4,8] (cD 8 .skip (.exit 0))) cQ)))) (oR [m1 19 3,m1 2 19] [2])
def AbX:IC:=oS [mZ 2 0] [0] (oS [mZ 3 0] [0,3] Aba)
@[push_cast]def Aox:List R:=[.t 2]
@[push_cast]def As4:=As cQ.eq_1<|As Aba.eq_1<|AL AbX.eq_1
theorem AkT:Aw Tryz.prog 85 20 AbX Aox=true:=by kernel_rfl
def qR:IC:=sQ (.block 3 (.ops [m1 69 3,fA 70 5 11,l1 71 70,m1 72 6,iA 73 71 72 178 5,fA 74 73 0,l1 75 74,fA 76 5 11,l1 77 76,m1 78 6,iA 79 77 78 178 5,fA 80 79 1,l1 81 80,fA 82 5 11,l1 83 82,m1 84 6,iA 85 83 84 178 5,fA 86 85 2,l1 87 86,fA 88 5 11,l1 89 88,m1 90 6,iA 91 89 90 178 5,fA 92 91 3,l1 93 92,fA 94 5 11,l1 95 94,m1 96 6,iA 97 95 96 178 5,fA 98 97 4,l1 99 98,o1 100 (.msl false 9 1 [.t 75,.t 81,.t 87,.t 93,.t 99]),q1 101 85 100,bT 102 .add 69 101,m1 3 102] [1,3,4,5,6] [[1,2],[2,4],[3,4],[4,5],[5,6],[7,8],[8,10],[9,10],[10,11],[11,12],[13,14],[14,16],[15,16],[16,17],[17,18],[19,20],[20,22],[21,22],[22,23],[23,24],[25,26],[26,28],[27,28],[28,29],[29,30],[6,31],[12,31],[18,31],[24,31],[30,31],[31,32],[0,33],[32,33],[0,34],[33,34]])) (oP [m1 67 6,bZ 68 .add 67 1,m1 6 68] [1,3,4,5,6])
def eX:IC:=sQ (.block 5 (.ops [m1 110 3,fA 111 5 12,l1 112 111,m1 113 7,iA 114 112 113 180 3,fA 115 114 0,l1 116 115,fA 117 5 12,l1 118 117,m1 119 7,iA 120 118 119 180 3,fA 121 120 1,l1 122 121,fA 123 5 12,l1 124 123,m1 125 7,iA 126 124 125 180 3,fA 127 126 2,l1 128 127,o1 129 (.msl false 9 1 [.t 116,.t 122,.t 128]),q1 130 85 129,bT 131 .add 110 130,m1 3 131] [1,3,4,5,7] [[1,2],[2,4],[3,4],[4,5],[5,6],[7,8],[8,10],[9,10],[10,11],[11,12],[13,14],[14,16],[15,16],[16,17],[17,18],[6,19],[12,19],[18,19],[19,20],[0,21],[20,21],[0,22],[21,22]])) (oP [m1 108 7,bZ 109 .add 108 1,m1 7 109] [1,3,4,5,7])
def o6:IC:=sQ (.block 7 (.ops [m1 139 3,fA 140 5 13,l1 141 140,m1 142 8,iA 143 141 142 182 2,fA 144 143 0,l1 145 144,fA 146 5 13,l1 147 146,m1 148 8,iA 149 147 148 182 2,fA 150 149 1,l1 151 150,o1 152 (.msl false 9 1 [.t 145,.t 151]),q1 153 85 152,bT 154 .add 139 153,m1 3 154] [1,3,4,5,8] [[1,2],[2,4],[3,4],[4,5],[5,6],[7,8],[8,10],[9,10],[10,11],[11,12],[6,13],[12,13],[13,14],[0,15],[14,15],[0,16],[15,16]])) (oP [m1 137 8,bZ 138 .add 137 1,m1 8 138] [1,3,4,5,8])
def eD:IC:=sQ (oS [mZ 7 0] [1,3,4,5,7] (.block 4 (.loop (sQ (oS [m1 103 7,fA 104 5 12,l1 105 104,nL 106 105,bT 107 .lss 103 106] [1,3,4,5,7,107] (cD 107 .skip (.exit 4))) eX)))) (oS [mZ 8 0] [1,3,4,5,8] (.block 6 (.loop (sQ (oS [m1 132 8,fA 133 5 13,l1 134 133,nL 135 134,bT 136 .lss 132 135] [1,3,4,5,8,136] (cD 136 .skip (.exit 6))) o6))))
def nI:IC:=sQ (.ops [m1 23 3,fA 24 5 0,l1 25 24,fA 26 5 1,l1 27 26,fA 28 5 2,l1 29 28,fA 30 5 5,fA 31 30 0,l1 32 31,fA 33 5 5,fA 34 33 1,l1 35 34,fA 36 5 5,fA 37 36 2,l1 38 37,fA 39 5 5,fA 40 39 3,l1 41 40,o1 42 (.msl false 9 1 [.t 25,.t 27,.t 29,.t 32,.t 35,.t 38,.t 41]),q1 43 85 42,fA 44 5 14,l1 45 44,q1 46 85 45,bT 47 .add 43 46,fA 48 5 15,l1 49 48,q1 50 85 49,bT 51 .add 47 50,fA 52 5 3,l1 53 52,nL 54 53,fA 55 5 4,l1 56 55,nL 57 56,bT 58 .add 54 57,o1 59 (.bin .mul (ci 100) (.t 58)),bT 60 .add 51 59,bT 61 .add 23 60,m1 3 61] [1,3,4,5] [[1,2],[3,4],[5,6],[7,8],[8,9],[10,11],[11,12],[13,14],[14,15],[16,17],[17,18],[2,19],[4,19],[6,19],[9,19],[12,19],[15,19],[18,19],[19,20],[21,22],[22,23],[20,24],[23,24],[25,26],[26,27],[24,28],[27,28],[29,30],[30,31],[32,33],[33,34],[31,35],[34,35],[35,36],[28,37],[36,37],[0,38],[37,38],[0,39],[38,39]]) (sQ (oS [mZ 6 0] [1,3,4,5,6] (.block 2 (.loop (sQ (oS [m1 62 6,fA 63 5 11,l1 64 63,nL 65 64,bT 66 .lss 62 65] [1,3,4,5,6,66] (cD 66 .skip (.exit 2))) qR)))) eD)
def fO:IC:=sQ (.block 1 (oS [fA 18 1 0,l1 19 18,m1 20 4,iA 21 19 20 30 16,lA 22 21 16,o1 5 (.alloc (.agg [.s [],.s [],.s [],.nil,.nil,.s [],.s [],.s [],.s [],.i .i64 0,.i .i64 0,.nil,.nil,.nil,.nil,.nil])),sT 5 22 16] [1,3,4,5] nI)) (oP [m1 16 4,bZ 17 .add 16 1,m1 4 17] [1,3,4])
def fM:IC:=sQ (.block 9 (.ops [m1 162 3,fA 163 1 1,l1 164 163,m1 165 9,iA 166 164 165 184 2,fA 167 166 0,l1 168 167,fA 169 1 1,l1 170 169,m1 171 9,iA 172 170 171 184 2,fA 173 172 1,l1 174 173,o1 175 (.msl false 9 1 [.t 168,.t 174]),q1 176 85 175,bT 177 .add 162 176,m1 3 177] [1,3,9] [[1,2],[2,4],[3,4],[4,5],[5,6],[7,8],[8,10],[9,10],[10,11],[11,12],[6,13],[12,13],[13,14],[0,15],[14,15],[0,16],[15,16]])) (oP [m1 160 9,bZ 161 .add 160 1,m1 9 161] [1,3,9])
def bK:IC:=sQ (.block 11 (.ops [m1 185 3,fA 186 1 2,l1 187 186,m1 188 10,iA 189 187 188 186 3,fA 190 189 0,l1 191 190,fA 192 1 2,l1 193 192,m1 194 10,iA 195 193 194 186 3,fA 196 195 1,l1 197 196,o1 198 (.msl false 9 1 [.t 191,.t 197]),q1 199 85 198,bT 200 .add 185 199,m1 3 200] [1,3,10] [[1,2],[2,4],[3,4],[4,5],[5,6],[7,8],[8,10],[9,10],[10,11],[11,12],[6,13],[12,13],[13,14],[0,15],[14,15],[0,16],[15,16]])) (oP [m1 183 10,bZ 184 .add 183 1,m1 10 184] [1,3,10])
def bW:IC:=sQ (oS [mZ 10 0] [1,3,10] (.block 10 (.loop (sQ (oS [m1 178 10,fA 179 1 2,l1 180 179,nL 181 180,bT 182 .lss 178 181] [1,3,10,182] (cD 182 .skip (.exit 10))) bK)))) (oR [m1 201 3,m1 2 201] [2])
def Acs:IC:=sQ (oS [mZ 4 0] [1,3,4] (.block 0 (.loop (sQ (oS [m1 11 4,fA 12 1 0,l1 13 12,nL 14 13,bT 15 .lss 11 14] [1,3,4,15] (cD 15 .skip (.exit 0))) fO)))) (sQ (oS [mZ 9 0] [1,3,9] (.block 8 (.loop (sQ (oS [m1 155 9,fA 156 1 1,l1 157 156,nL 158 157,bT 159 .lss 155 158] [1,3,9,159] (cD 159 .skip (.exit 8))) fM)))) bW)
def Ab9:IC:=oS [bX 1 0,mZ 2 0] [1] (oS [mZ 3 0] [1,3] Acs)
@[push_cast]def Aqm:List R:=[.t 2]
@[push_cast]def AsP:=As qR.eq_1<|As eX.eq_1<|As o6.eq_1<|As eD.eq_1<|As nI.eq_1<|As fO.eq_1<|As fM.eq_1<|As bK.eq_1<|As bW.eq_1<|As Acs.eq_1<|AL Ab9.eq_1
theorem AlG:Aw Tryz.prog 54 202 Ab9 Aqm=true:=by kernel_rfl
def gH:IC:=sQ (.block 3 (sQ (.ops [o1 70 (.msl true 139 2 []),fA 71 4 3,l1 72 71,o1 73 (.app (.t 70) (.t 72) 139 2),fA 74 4 4,⟨some 75,.load (.t 74) 1 false,none,[.t 70]⟩,o1 76 (.app (.t 73) (.t 75) 139 2),m1 77 5,iA 78 76 77 139 2,lA 79 78 2,o1 6 (.alloc (.agg [.s [],.nil])),sT 6 79 2] [1,3,4,5,6] [[1,2],[0,3],[2,3],[4,5],[2,3,6],[3,6],[5,6],[3,6,8],[6,8],[7,8],[3,6,8,9],[6,8,9],[8,9],[2,11],[3,11],[5,11],[6,11],[8,11],[9,11],[10,11]]) (oS [fA 80 6 1,l1 81 80,q1 82 53 81,nT 83 82] [1,3,4,5,83] (cD 83 (oR [mC 2 (.b false)] [2]) .skip)))) (oP [m1 68 5,bZ 69 .add 68 1,m1 5 69] [1,3,4,5])
def ZP:IC:=sQ (oS [m1 59 5,fA 60 4 3,l1 61 60,nL 62 61,fA 63 4 4,l1 64 63,nL 65 64,bT 66 .add 62 65,bT 67 .lss 59 66] [1,3,4,5,67] (cD 67 .skip (.exit 2))) gH
def pR:IC:=sQ (oS [fA 19 4 3,l1 20 19,nL 21 20,bZ 22 .gtr 21 12,m1 23 22,EP 24 23 4 4,Ew 25 23 24,gF 26 23 (.lenL (.t 25)),Er 27 23 .gtr 26 12,pO 28 23 27,m1 29 28,EP 30 29 4 11,Ew 31 29 30,gF 32 29 (.lenL (.t 31)),Er 33 29 .gtr 32 12,pO 34 29 33,m1 35 34,EP 36 35 4 12,Ew 37 35 36,gF 38 35 (.lenL (.t 37)),Er 39 35 .gtr 38 110,pO 40 35 39,m1 41 40,EP 42 41 4 13,Ew 43 41 42,gF 44 41 (.lenL (.t 43)),Er 45 41 .gtr 44 40,pO 46 41 45,m1 47 46,EP 48 47 4 14,Ew 49 47 48,gF 50 47 (.lenL (.t 49)),Er 51 47 .gtr 50 20,pO 52 47 51,m1 53 52,EP 54 53 4 15,Ew 55 53 54,gF 56 53 (.lenL (.t 55)),Er 57 53 .gtr 56 20,pO 58 53 57] [1,3,4,58] (cD 58 (oR [mC 2 (.b false)] [2]) .skip)) (oS [mZ 5 0] [1,3,4,5] (.block 2 (.loop ZP)))
def pW:IC:=sQ (.block 1 (oS [fA 14 1 0,l1 15 14,m1 16 3,iA 17 15 16 30 16,lA 18 17 16,o1 4 (.alloc (.agg [.s [],.s [],.s [],.nil,.nil,.s [],.s [],.s [],.s [],.i .i64 0,.i .i64 0,.nil,.nil,.nil,.nil,.nil])),sT 4 18 16] [1,3,4] pR)) (oP [m1 12 3,bZ 13 .add 12 1,m1 3 13] [1,3])
def cZ:IC:=oR [fA 84 1 0,l1 85 84,nL 86 85,bZ 87 .leq 86 62,m1 88 87,F0 89 88 1 1,EQ 90 88 89,gT 91 88 (.lenL (.t 90)),FSz 92 88 .leq 91 205,pA 93 88 92,m1 94 93,F0 95 94 1 2,EQ 96 94 95,gT 97 94 (.lenL (.t 96)),FSz 98 94 .leq 97 205,pA 99 94 98,m1 100 99,gT 101 100 (.load (.t 1) 3 true),gT 102 100 (.call 54 [.t 101]),FSz 103 100 .leq 102 40000,pA 104 100 103,m1 2 104] [2]
def AaM:IC:=oS [bX 1 0,mC 2 (.b false)] [1] (sQ (oS [mZ 3 0] [1,3] (.block 0 (.loop (sQ (oS [m1 7 3,fA 8 1 0,l1 9 8,nL 10 9,bT 11 .lss 7 10] [1,3,11] (cD 11 .skip (.exit 0))) pW)))) cZ)
@[push_cast]def Aqq:List R:=[.t 2]
@[push_cast]def Asv:=As gH.eq_1<|As ZP.eq_1<|As pR.eq_1<|As pW.eq_1<|As cZ.eq_1<|AL AaM.eq_1
theorem AjM:Aw Tryz.prog 32 105 AaM Aqq=true:=by kernel_rfl
def Acy:IC:=oR [lA 7 3 16,o1 8 (.msl false 30 16 [.t 7]),o1 9 (.build [.nil,.nil,.nil] [(0,1,.t 8)]),q1 10 32 9,m1 11 10,BG 12 11 1,gT 13 11 (.call 43 [.t 12]),pA 14 11 13,m1 15 14,BG 16 15 2,gT 17 15 (.call 18 [.t 16]),pA 18 15 17,m1 6 18] [6]
def AbI:IC:=oS [bX 3 0,mC 6 (.b false)] [1,2,3] Acy
@[push_cast]def ApC:List R:=[.t 6]
@[push_cast]def AsG:=As Acy.eq_1<|AL AbI.eq_1
theorem Anu:Aw Tryz.prog 25 19 AbI ApC=true:=by kernel_rfl
def Akq:IC:=oS [bX 1 0,mC 2 (.b false)] [1] (oR [fA 3 1 0,lA 4 3 16,fA 5 1 16,l1 6 5,fA 7 1 17,l1 8 7,q3 9 25 4 6 8,m1 2 9] [2])
@[push_cast]def f9R:List R:=[.t 2]
@[push_cast]def f9e:=AL Akq.eq_1
theorem Apd:Aw Tryz.prog 9 10 Akq f9R=true:=by kernel_rfl
def AaO:IC:=oR [fA 6 2 0,lA 7 6 16,m1 8 1,fA 9 2 17,l1 10 9,fA 11 2 18,l1 12 11,o1 13 (.call 26 [.t 7,.t 8,.t 10,.t 12]),xT 14 13 0,xT 15 13 1,m1 4 14,m1 5 15] [4,5]
def AbP:IC:=oS [bX 2 0,mC 4 (.s []),mZ 5 0] [1,2] AaO
@[push_cast]def Aqr:List R:=[.t 4,.t 5]
@[push_cast]def As2:=As AaO.eq_1<|AL AbP.eq_1
theorem Amx:Aw Tryz.prog 10 16 AbP Aqr=true:=by kernel_rfl
def cF:IC:=oS [m1 9 0,nC 10 9,fA 11 10 0,o1 12 (.calls 125 [.t 11]),bZ 13 .gtr 12 20000] [0,13] (cD 13 (oP [m1 14 0,nC 15 14,fA 16 15 20,o0 (.store (.t 16) (ci 6) 1)] []) .skip)
def jN:IC:=sQ (.opx [m1 4 0,nC 5 4,fA 6 5 0,m1 7 1] [0,6,7] 8 124 [.t 6,.t 7] [] [0]) cF
@[push_cast]def AmG:List R:=[]
@[push_cast]def AqR:=As cF.eq_1<|AL jN.eq_1
theorem Ad7:Aw Tryz.prog 103 17 jN AmG=true:=by kernel_rfl
def o7:IC:=oS [m1 17 0,nC 18 17,fA 19 18 19,l1 20 19,m1 16 20] [0,1,16] (cD 16 (.opx [m1 21 0,m1 22 1,q1 23 128 22] [21,23] 24 103 [.t 21,.t 23] [] []) (.opx [m1 6 0,m1 7 1] [6,7] 8 103 [.t 6,.t 7] [] []))
def pF:IC:=.block 0 (oS [m1 10 2,bZ 11 .neq 10 0,m1 9 11] [0,1,2,9] (cD 9 (oP [m1 12 0,m1 13 2,nC 14 12,fA 15 14 20,sT 15 13 1] []) o7))
@[push_cast]def AiV:List R:=[]
@[push_cast]def Ari:=As o7.eq_1<|AL pF.eq_1
theorem AeI:Aw Tryz.prog 104 25 pF AiV=true:=by kernel_rfl
def nE:IC:=sQ (oS [m1 14 0,nC 15 14,fA 16 15 20,l1 17 16,bZ 18 .neq 17 0] [0,2,7,8,9,10,18] (cD 18 .ret .skip)) (.opx [m1 19 0,lA 20 7 6,m1 21 2] [0,2,8,9,10,19,20,21] 22 72 [.t 19,.t 20,.t 21] [] [0,2,8,9,10])
def Abo:IC:=sQ (.block 1 (oS [iA 12 8 10 116 6,lA 13 12 6,o1 7 (.alloc (.agg [.i .i64 0,.s [],.s [],.s [],.nil,.nil])),sT 7 13 6] [0,2,7,8,9,10] nE)) (oP [bZ 23 .add 10 1,m1 10 23] [0,2,8,9,10])
def Adb:IC:=oS [m1 8 1,nL 9 8,mZ 10 0] [0,2,8,9,10] (.block 0 (.loop (oS [bT 11 .lss 10 9] [0,2,8,9,10,11] (sQ (cD 11 .skip (.exit 0)) Abo))))
@[push_cast]def AoU:List R:=[]
@[push_cast]def AsM:=As nE.eq_1<|As Abo.eq_1<|AL Adb.eq_1
theorem AiY:Aw Tryz.prog 44 24 Adb AoU=true:=by kernel_rfl
def d7:IC:=.opx [m1 48 0,m1 49 0,nC 50 49,fA 51 50 2,lA 52 51 16,m1 53 2,o1 54 (.call 105 [.t 52,.t 53,.c (.s [])]),xT 55 54 0,xT 56 54 1] [48,55,56] 57 104 [.t 48,.t 55,.t 56] [] []
def l7:IC:=sQ (.ops [m1 91 0,nC 92 91,fA 93 92 18,l1 94 93,fA 95 4 2,l1 96 95,q2 97 39 94 96,m1 90 97,xT 98 90 0,xT 99 90 1,o1 8 (.alloc (.agg [.s [],.i .i64 0,.s [],.i .i64 0,.nil])),sT 8 98 5,m1 9 99] [0,4,6,8] [[0,1],[1,2],[2,3],[4,5],[3,6],[5,6],[6,7],[7,8],[7,9],[3,11],[5,11],[8,11],[10,11],[9,12]]) (oP [fA 100 8 2,l1 101 100,m1 2 101] [0,2,4,6])
def rD:IC:=.opx [m1 102 0,fA 103 4 4,l1 104 103,m1 105 6,iA 106 104 105 118 2,fA 107 106 1,l1 108 107,m1 109 2] [102,108,109] 110 44 [.t 102,.t 108,.t 109] [] []
def oL:IC:=sQ (oS [m1 81 7,bZ 82 .neq 81 0] [0,2,4,6,7,82] (cD 82 (oR [m1 83 0,m1 84 7,nC 85 83,fA 86 85 20,sT 86 84 1] []) .skip)) (sQ (oS [fA 87 4 0,l1 88 87,bZ 89 .neq 88 9] [0,2,4,6,89] (cD 89 l7 .skip)) rD)
def fV:IC:=sQ (.ops [m1 69 0,nC 70 69,fA 71 70 2,lA 72 71 16,lA 73 4 6,m1 74 0,nC 75 74,fA 76 75 18,l1 77 76,q3 78 107 72 73 77,m1 68 78,xT 79 68 0,xT 80 68 1,m1 6 79,m1 7 80] [0,2,4,6,7] [[0,1],[1,2],[2,3],[5,6],[6,7],[7,8],[3,9],[4,9],[8,9],[9,10],[10,11],[10,12],[11,13],[12,14]]) oL
def jT:IC:=.opxd [m1 29 0,m1 30 0,nC 31 30,fA 32 31 2,lA 33 32 16,lA 34 4 6,lA 35 10 5,q3 36 108 33 34 35,xT 37 36 0,xT 38 36 1] [29,37,38] 39 104 [.t 29,.t 37,.t 38] [] [[1,2],[2,3],[3,4],[4,7],[5,7],[6,7],[7,8],[7,9],[0,10],[1,2,3,4,7,10],[2,3,4,7,10],[3,4,7,10],[4,7,10],[5,7,10],[6,7,10],[7,10],[8,10],[9,10]]
def kK:IC:=sQ (.ops [m1 15 0,nC 16 15,fA 17 16 18,l1 18 17,fA 19 4 2,l1 20 19,q2 21 39 18 20,m1 14 21,xT 22 14 0,xT 23 14 1,o1 10 (.alloc (.agg [.s [],.i .i64 0,.s [],.i .i64 0,.nil])),sT 10 22 5,m1 11 23] [0,4,10,11] [[0,1],[1,2],[2,3],[4,5],[3,6],[5,6],[6,7],[7,8],[7,9],[3,11],[5,11],[8,11],[10,11],[9,12]]) (sQ (oS [m1 24 11,nT 25 24] [0,4,10,25] (cD 25 (oR [m1 26 0,nC 27 26,fA 28 27 20,o0 (.store (.t 28) (ci 12) 1)] []) .skip)) jT)
def cC:IC:=sQ (oS [bZ 65 .eql 13 7,m1 64 65] [0,2,4,13,64] (cD 64 .skip (oS [bZ 66 .eql 13 8,m1 64 66] [0,2,4,13,64] (cD 64 .skip (oP [bZ 67 .eql 13 9,m1 64 67] [0,2,4,64]))))) (cD 64 fV kK)
def AcY:IC:=oS [bZ 47 .eql 13 10,m1 46 47] [0,2,4,13,46] (cD 46 d7 (oS [bZ 59 .eql 13 11,m1 58 59] [0,2,4,13,58] (cD 58 (.opx [m1 60 0,lA 61 4 6,m1 62 2] [60,61,62] 63 106 [.t 60,.t 61,.t 62] [] []) cC)))
def AaZ:IC:=oS [bX 4 1] [0,2,4] (oS [fA 12 4 0,l1 13 12] [0,2,4,13] (.block 0 (oS [bZ 41 .eql 13 1,m1 40 41] [0,2,4,13,40] (cD 40 (.opx [m1 42 0,fA 43 4 1,l1 44 43] [42,44] 45 103 [.t 42,.t 44] [] []) AcY))))
@[push_cast]def Aq6:List R:=[]
@[push_cast]def AsN:=As d7.eq_1<|As l7.eq_1<|As rD.eq_1<|As oL.eq_1<|As fV.eq_1<|As jT.eq_1<|As kK.eq_1<|As cC.eq_1<|As AcY.eq_1<|AL AaZ.eq_1
theorem Ajx:Aw Tryz.prog 72 111 AaZ Aq6=true:=by kernel_rfl
def pG:IC:=oS [m1 17 0,nC 18 17,fA 19 18 20,l1 20 19,bZ 21 .eql 20 0] [0,4,21] (cD 21 (.opx [m1 22 0,fA 23 4 2,l1 24 23,o1 25 (.bin .add (.c (.s [60,47])) (.t 24)),bC 26 .add 25 (.s [62])] [22,26] 27 103 [.t 22,.t 26] [] []) .skip)
def lT:IC:=sQ (.opx [m1 6 0,fA 7 4 2,l1 8 7,o1 9 (.bin .add (.c (.s [60])) (.t 8)),bC 10 .add 9 (.s [62])] [0,2,4,6,10] 11 103 [.t 6,.t 10] [] [0,2,4]) (sQ (.opx [m1 12 0,fA 13 4 5,l1 14 13,m1 15 2] [0,4,12,14,15] 16 44 [.t 12,.t 14,.t 15] [] [0,4]) pG)
def aZ:IC:=oS [bX 4 1] [0,2,4] lT
@[push_cast]def AnA:List R:=[]
@[push_cast]def Asi:=As pG.eq_1<|As lT.eq_1<|AL aZ.eq_1
theorem AeR:Aw Tryz.prog 106 28 aZ AnA=true:=by kernel_rfl
def nP:IC:=sQ (oS [m1 22 10,nC 23 22,fA 24 23 20,l1 25 24,bZ 26 .neq 25 0] [10,26] (cD 26 (sQ (.ops [m1 27 10,nC 28 27,fA 29 28 20,l1 30 29,mC 8 (.s []),m1 9 30] [8,9] [[0,1],[1,2],[2,3],[3,5]]) .ret) .skip)) (oR [m1 31 10,nC 32 31,fA 33 32 0,o1 34 (.calls 45 [.t 33]),m1 8 34,mZ 9 0] [8,9])
def AcI:IC:=oS [lA 14 4 16,m1 15 2,m1 16 3,o1 17 (.build [.np,.nil,.s [],.s [],.s [],.nil,.nil,.s [],.s [],.s [],.s [],.i .i64 0,.i .i64 0,.nil,.nil,.nil,.nil,.nil,.nil,.b false,.i .i64 0] [(2,16,.t 14),(18,1,.t 15),(19,1,.t 16)]),o1 18 (.mkm (.tbx 121) [.t 17]),m1 10 18] [1,10] (sQ (.wk (.opx [m1 19 10,m1 20 1] [10,19,20] 21 44 [.t 19,.t 20,.c (.s [])] [] [10])) nP)
def Acu:IC:=oS [bX 4 0,mC 8 (.s []),mZ 9 0] [1,2,3,4] (sQ (oS [m1 11 1,q1 12 35 11,nT 13 12] [1,2,3,4,13] (cD 13 (oR [mC 8 (.s []),mZ 9 1] [8,9]) .skip)) AcI)
@[push_cast]def Ap5:List R:=[.t 8,.t 9]
@[push_cast]def Atn:=As nP.eq_1<|As AcI.eq_1<|AL Acu.eq_1
theorem Ai7:Aw Tryz.prog 26 35 Acu Ap5=true:=by kernel_rfl
def kS:IC:=oS [m1 8 0,m1 9 0,nC 10 9,fA 11 10 1,l1 12 11,m1 13 1,o1 14 (.apps (.t 12) (.t 13) 5),nC 15 8,fA 16 15 1,sT 16 14 1] [1] (oR [m1 17 1,nS 18 17,m1 4 18,mC 5 .ni] [4,5])
def pC:IC:=oS [mZ 4 0,mC 5 .ni] [0,1] (oS [m1 6 0,o1 7 (.calls 180 [.t 6])] [0,1] kS)
@[push_cast]def Ajp:List R:=[.t 4,.t 5]
@[push_cast]def Arw:=As kS.eq_1<|AL pC.eq_1
theorem sP:Aw Tryz.prog 124 19 pC Ajp=true:=by kernel_rfl
def gC:IC:=oS [mZ 2 0] [0] (oR [m1 3 0,nC 4 3,fA 5 4 1,l1 6 5,nL 7 6,m1 2 7] [2])
@[push_cast]def AjW:List R:=[.t 2]
@[push_cast]def ArY:=AL gC.eq_1
theorem Ado:Aw Tryz.prog 125 8 gC AjW=true:=by kernel_rfl
end Go.Ir
section
namespace Go.Ir
structure Et where
 kind:Int
 name:Aa
 keys:List Aa
def Qp(k:Int)(n:Aa)(s:Et):Bool:=s.kind==k&&s.name==n
def HI(l:List Et)(k:Int)(n:Aa):Int:=BQ (Qp k n) l
def FQ(key:Aa)(s:Et):Et:=if s.keys.contains key then s else{ s with keys:=s.keys++[key] }
def Anr(l:List Et)(k:Int)(n:Aa):Nat:=if HI l k n<0 then l.length else(HI l k n).toNat
def RX(l:List Et)(k:Int)(n:Aa):List Et:=if HI l k n<0 then l++[⟨k,n,[]⟩] else l
mutual
def Aj.coll:Aj->List Et->List Et
 | ⟨k,_,nm,_,cs,ps⟩,l=>
  if Bx k then r5 cs (Anr (Jz ps l) k nm) (RX (Jz ps l) k nm) else Jz ps l
def Jz:List Aj->List Et->List Et
 | [],l=>l
 | p::ps,l=>Jz ps (p.coll l)
def r5:List (Aa×List Aj)->Nat->List Et->List Et
 | [],_,l=>l
 | (key,ps)::cs,j,l=>r5 cs j (Jz ps (l.modify j (FQ key)))
end
def DF(l l':List Et):Prop:=l.length<=l'.length/\∀(i:Nat) (s s':Et),l[i]?=some s->l'[i]?=some s'->s.kind=s'.kind/\s.name=s'.name
theorem DF.refl(l:List Et):DF l l:=⟨AbG _,fun i s s' h h'=>by grind⟩
theorem DF.trans{a b c:List Et}(h:DF a b)(k:DF b c):DF a c:=by
 refine⟨Aiw h.1 k.1,fun i s s' hs hs'=>?_⟩
 have hi:i<b.length:=Alg (AlY.1 hs).1 h.1
 have hm:b[i]?=some b[i]:=Ain hi
 have h1:=h.2 i s _ hs hm
 have h2:=k.2 i _ s' hm hs'
 grind
theorem DF.app(l m:List Et):DF l (l++m):=by
 refine⟨by simp,fun i s s' h h'=>?_⟩
 grind
theorem Q1(key:Aa)(s:Et):(FQ key s).kind=s.kind/\(FQ key s).name=s.name:=by
 unfold FQ;split<;>exact⟨rfl,rfl⟩
theorem DF.mod(l:List Et)(j:Nat)(key:Aa):DF l (l.modify j (FQ key)):=by
 refine⟨by simp,fun i s s' h h'=>?_⟩
 rw[Atu,h] at h'
 by_cases hj:j=i
 ·have h2:FQ key s=s':=by simpa[hj] using h'
  rw[<-h2]
  have:=Q1 key s
  grind
 grind
theorem YA{l l':List Et}(h:DF l l')(k:Int)(n:Aa)(hf:¬HI l k n<0):HI l' k n=HI l k n:=by
 induction l generalizing l' with
 | nil=>exact absurd (by simp[HI,BQ]) hf
 | cons s l ih=>
  cases l' with
  | nil=>have:=h.1;simp at this
  | cons s' l'=>
   have h0:=h.2 0 s s' rfl rfl
   have ht:DF l l':=⟨by have:=h.1;simpa using this,fun i a b ha hb=>h.2 (i+1) a b (by simpa using ha) (by simpa using hb)⟩
   have he:Qp k n s'=Qp k n s:=by unfold Qp;rw[h0.1,h0.2]
   unfold HI at *
   simp only[BQ,he] at hf⊢
   grind
end Go.Ir
end
section
namespace Go.Ir
def C5(l:List Aa):List (V×V):=l.map fun k=>(.s k,.b true)
theorem P9(l:List Aa):(C5 l).length=l.length:=by simp[C5]
def Pu(k:Aa)(l:List Aa):List Aa:=if l.contains k then l else l++[k]
theorem nV(k:Aa)(l:List Aa):∀n,(l.contains k=true/\∃i,Bl .str (.s k) (C5 l) n=some (some (n+i,.b true))/\(C5 l).modify i (fun e=>(e.1,.b true))=C5 l)\/(l.contains k=false/\Bl .str (.s k) (C5 l) n=some none):=by
 induction l with
 | nil=>intro n;exact .inr ⟨rfl,rfl⟩
 | cons x l ih=>
  intro n
  have hu:Bl .str (.s k) (C5 (x::l)) n=(match DY .str (.s k) (.s x) with
   | some true=>some (some (n,.b true))
   | some false=>Bl .str (.s k) (C5 l) (n+1)
   | none=>none):=rfl
  have hk:DY .str (.s k) (.s x)=some (k==x):=rfl
  rw[hu,hk,List.contains_cons]
  by_cases h:k=x
  ·subst h
   refine .inl ⟨by simp,0,?_,?_⟩
   ·simp
   ·simp[C5]
  ·have hb:(k==x)=false:=by simpa using h
   rw[hb,AsV]
   rcases ih (n+1) with⟨h1,i,h2,h3⟩|⟨h1,h2⟩
   ·refine .inl ⟨h1,i+1,?_,?_⟩
    ·grind
    ·show(C5 (x::l)).modify (i+1) _=_
     simp only[C5,Ait,List.modify_succ_cons] at h3⊢
     rw[h3]
   grind
theorem FH(k:Aa)(l:List Aa):(l.contains k=true/\Pu k l=l/\∃i,Bl .str (.s k) (C5 l) 0=some (some (i,.b true))/\(C5 l).modify i (fun e=>(e.1,.b true))=C5 l)\/(l.contains k=false/\Pu k l=l++[k]/\Bl .str (.s k) (C5 l) 0=some none):=by
 rcases nV k l 0 with⟨h1,i,h2,h3⟩|⟨h1,h2⟩
 ·exact .inl ⟨h1,by unfold Pu;rw[h1];rfl,i,by simpa using h2,h3⟩
 ·exact .inr ⟨h1,by unfold Pu;rw[h1];rfl,h2⟩
theorem B8(k:Aa)(l:List Aa):C5 l++[(V.s k,V.b true)]=C5 (l++[k]):=by simp[C5]
theorem oM{a:Id×AC}{σ:Ak}(h:∀p∈σ,p.1≠a.1):∀i e,lk (a::σ) i=some e->lk (σ++[a]) i=some e:=by
 obtain⟨ai,ae⟩:=a
 induction σ with
 | nil=>intro i e h;exact h
 | cons b σ ih=>
  obtain⟨bi,be⟩:=b
  intro i e h1
  simp only[lk] at h1
  show(if bi=i then some be else lk (σ++[(ai,ae)]) i)=some e
  split at h1
  ·rename_i h2
   subst h2
   have:bi≠ai:=h (bi,be) (by simp)
   rw[if_neg this]
   exact ih (fun p hp=>h p (Abt _ hp)) ai e (by simp[lk];exact Option.some.inj h1)
  ·rename_i h2
   split at h1
   ·grind
   ·rename_i h3;rw[if_neg h3]
    exact ih (fun p hp=>h p (Abt _ hp)) i e (by simp only[lk];rw[if_neg h2];exact h1)
theorem Ce{id:Id}{x:AC}{σ:Ak}:∀i e,lk [(id,x)] i=some e->lk ((id,x)::σ) i=some e:=by
 intro i e h
 simp only[lk] at h⊢
 grind
theorem Dr{id:Id}{x:AC}{a:Id×AC}{σ:Ak}(ha:(a.1=id)=False):∀i e,lk [(id,x)] i=some e->lk (a::(id,x)::σ) i=some e:=by
 intro i e h
 obtain⟨ai,ae⟩:=a
 simp only[lk] at h⊢
 grind
section
variable{P:Program}{W0:World}{ep d:Nat}{live:List Nat}{Q:Exit→St→Prop}{l:List I}{env:AD}{σ:Ak}
theorem DA{f:FuncId}{vs:List V}{v:V}{id:Id}{e e':AC}{pre:Ak}(h:Am P W0 f vs [(id,e)] v [(id,e')])(hne:∀p∈pre++σ,p.1≠id)
  (hh:J P W0 ep live Q l ((d,v)::env) ((id,e')::(pre++σ))):Gl P W0 ep live Q f vs l d env (pre++(id,e)::σ):=by
 have hlk:∀(τ:Ak),(∀p∈τ,p.1≠id)->lk (τ++(id,e)::σ) id=some e:=by
  intro τ hτ
  induction τ with
  | nil=>simp[lk]
  | cons a τ ih=>
   obtain⟨ai,ae⟩:=a
   have:ai≠id:=hτ (ai,ae) (by simp)
   show(if ai=id then some ae else lk (τ++(id,e)::σ) id)=some e
   grind
 refine BF h (fun i y hi=>?_) ?_
 ·simp only[lk] at hi
  split at hi
  ·rename_i h1;subst h1;cases hi
   exact hlk pre fun p hp=>hne p (ArG _ hp)
  ·cases hi
 ·have hf:List.filter (fun p:Id×AC=>(lk [(id,e)] p.1).isNone) (pre++(id,e)::σ)=pre++σ:=by
   rw[At9,List.filter_cons_of_neg (by simp[lk]),<-At9,AtL]
   intro p hp
   simp[lk,Ail (hne p hp)]
  unfold over
  rw[hf];exact hh
end
end Go.Ir
end
namespace Go.Ir
open Go.Proofs
variable{P:Program}{W0:World}{nt n:Nat}{Q:Exit→St→Prop}{env:AD}{σ:Ak}
end Go.Ir

namespace Go.Ir
open Go.Proofs
theorem Nl{σ:Ak}{i:Id}{e:AC}(h:lk σ i=some e):(i,e)∈σ:=by
 induction σ with
 | nil=>cases h
 | cons p σ ih=>
  obtain⟨k,x⟩:=p
  simp only[lk] at h
  grind
theorem Yu{σ:Ak}{i:Id}{e:AC}(hn:(σ.map (·.1)).Nodup)(h:(i,e)∈σ):lk σ i=some e:=by
 induction σ with
 | nil=>cases h
 | cons p σ ih=>
  obtain⟨k,x⟩:=p
  rw[Ait,AqP] at hn
  simp only[lk]
  grind
theorem Sn{σ:Ak}{i:Id}(h:∀p∈σ,p.1≠i):lk σ i=none:=by
 cases hl:lk σ i with
 | none=>rfl
 | some e=>exact absurd rfl (h _ (Nl hl))
theorem Bh{σ τ:Ak}{i:Id}{e:AC}(h:lk σ i=some e):lk (σ++τ) i=some e:=by
 induction σ with
 | nil=>cases h
 | cons p σ ih=>
  obtain⟨k,x⟩:=p
  rw[Akk]
  simp only[lk] at h⊢
  grind
theorem Jh{σi σo pre post:Ak}(h1:∀p∈pre,∀q∈σi,p.1≠q.1)(h2:∀p∈post,∀q∈σi,p.1≠q.1):over σi σo (pre++σi++post)=σo++(pre++post):=by
 have keep:∀τ:Ak,(∀p∈τ,∀q∈σi,p.1≠q.1)->List.filter (fun p:Id×AC=>(lk σi p.1).isNone) τ=τ:=by
  intro τ h
  rw[AtL]
  intro p hp
  rw[Sn fun q hq=>Ail (h p hp q hq)];rfl
 have gone:List.filter (fun p:Id×AC=>(lk σi p.1).isNone) σi=[]:=by
  rw[List.filter_eq_nil_iff]
  intro p hp hh
  cases hl:lk σi p.1 with
  | none=>
   clear keep
   revert hp hl
   generalize σi=τ
   intro hp hl
   induction τ with
   | nil=>cases hp
   | cons q τ ih=>
    obtain⟨k,x⟩:=q
    simp only[lk] at hl
    grind
  | some e=>rw[hl] at hh;cases hh
 unfold over
 rw[At9,At9,keep pre h1,gone,keep post h2,Aou]
theorem Al.sub{W0:World}{nt n n':Nat}{env:AD}{σ σ':Ak}(hnd:(σ.map (·.1)).Nodup)(h:∀p∈σ',p∈σ)(hn:n<=n'):Al W0 nt ⟨env,σ,n⟩ ⟨env,σ',n'⟩:=
 Al.drop (fun i e hl=>Yu hnd (h _ (Nl hl))) hn
theorem Al.pre{W0:World}{nt n n':Nat}{env:AD}{σ τ:Ak}(hn:n<=n'):Al W0 nt ⟨env,σ++τ,n⟩ ⟨env,σ,n'⟩:=
 Al.drop (fun i e hl=>Bh hl) hn
abbrev OS:=Et×Option Id
def sv(o:Option Id):V:=match o with
 | none=>.nil
 | some id=>.arr id
def osV(x:OS):V:=.agg [.i .i64 x.1.kind,.s x.1.name,sv x.2]
def osE(x:OS):Ak:=match x.2 with
 | none=>[]
 | some id=>[(id,.arr 9 1 (x.1.keys.map V.s))]
def CT(L:List OS):Ak:=L.flatMap osE
def slE(e:Nat)(lo:Option Id)(L:List OS):Ak:=match lo with
 | none=>[]
 | some id=>[(id,.arr e 3 (L.map osV))]
def Zo(e:Nat)(lo:Option Id)(L:List OS):Ak:=slE e lo L++CT L
theorem Lj(A B:List OS):CT (A++B)=CT A++CT B:=by simp[CT]
theorem Nc(x:OS)(B:List OS):CT (x::B)=osE x++CT B:=by simp[CT]
structure Aq9 (e:Nat) (hd:Ak) (lo:Option Id) (L:List OS) (n:Nat):Prop where
 nd:((hd++Zo e lo L).map (·.1)).Nodup
 lt:∀p∈hd++Zo e lo L,p.1.1<n
 ne:lo=none->L=[]
 kn:∀x∈L,x.2=none->x.1.keys=[]
end Go.Ir

namespace Go.Ir
open Go.Proofs
variable(W0:World)
theorem AfN{id:Id}{a j:Nat}(h:id.1<a):((a,j)=id)=False:=by
 grind
end Go.Ir

namespace Go.Ir
open Go.Proofs
structure Lq (T:Nat) (lo:Option Id) (L:List OS) (n:Nat):Prop where
 nd:((Zo T lo L).map (·.1)).Nodup
 lt:∀p∈Zo T lo L,p.1.1<n
 ne:lo=none->L=[]
 kn:∀x∈L,x.2=none->x.1.keys=[]
theorem Lq.more{T:Nat}{lo:Option Id}{L:List OS}{n n':Nat}(h:Lq T lo L n)(hn:n<=n'):Lq T lo L n':=⟨h.nd,fun p hp=>Alg (h.lt p hp) hn,h.ne,h.kn⟩
theorem Ex{T:Nat}{id:Id}{L:List OS}:Zo T (some id) L=(id,.arr T 3 (L.map osV))::CT L:=rfl
theorem Ob{a:Id×AC}{σ:Ak}(h:(σ.map (·.1)).Nodup)(ha:∀p∈σ,p.1≠a.1):((a::σ).map (·.1)).Nodup:=by
 grind
theorem Ael{a:Id×AC}{σ:Ak}(h:((a::σ).map (·.1)).Nodup):(σ.map (·.1)).Nodup/\∀p∈σ,p.1≠a.1:=by
 grind
theorem Agb{σ τ:Ak}(h:(σ.map (·.1)).Nodup)(k:(τ.map (·.1)).Nodup)(hd:∀p∈σ,∀q∈τ,p.1≠q.1):((σ++τ).map (·.1)).Nodup:=by
 grind
theorem T9{σ τ:Ak}(h:((σ++τ).map (·.1)).Nodup):(σ.map (·.1)).Nodup/\(τ.map (·.1)).Nodup/\∀p∈σ,∀q∈τ,p.1≠q.1:=by
 rw[Aub,List.nodup_append] at h
 exact⟨h.1,h.2.1,fun p hp q hq=>h.2.2 _ (Apq.2 ⟨p,hp,rfl⟩) _ (Apq.2 ⟨q,hq,rfl⟩)⟩
theorem gP{σ τ:Ak}(h:(σ.map (·.1)).Nodup)(hs:List.Sublist τ σ):(τ.map (·.1)).Nodup:=h.sublist (hs.map _)
theorem Lq.arr{T:Nat}{lid:Id}{L:List OS}{n:Nat}(h:Lq T (some lid) L n):lid.1<n/\(∀p∈CT L,p.1≠lid)/\(∀p∈CT L,p.1.1<n)/\((CT L).map (·.1)).Nodup:=by
 have h1:((CT L).map (·.1)).Nodup/\∀p∈CT L,p.1≠lid:=Ael (a:=(lid,.arr T 3 (L.map osV))) h.nd
 exact⟨h.lt (lid,.arr T 3 (L.map osV)) (by simp[Ex]),h1.2,fun p hp=>h.lt p (by simp[Ex,hp]),h1.1⟩
theorem Lq.add{T:Nat}{lo:Option Id}{L:List OS}{n n':Nat}{id:Id}(h:Lq T lo L n)(hi:n<=id.1)(hi':id.1<n')(k:Int)(nm:Aa):Lq T (some id) (L++[(⟨k,nm,[]⟩,none)]) n':=by
 have hE:CT (L++[(⟨k,nm,[]⟩,none)])=CT L:=by rw[Lj];simp[CT,osE]
 have hsub:∀p∈CT L,p∈Zo T lo L:=fun p hp=>AtE _ hp
 have hnd:((CT L).map (·.1)).Nodup:=gP h.nd (AtM _ _)
 refine⟨?_,?_,(by simp),?_⟩
 ·rw[Ex,hE]
  refine Ob hnd fun p hp he=>?_
  have:=h.lt p (hsub p hp)
  grind
 ·rw[Ex,hE]
  intro p hp
  rcases Ao9.1 hp with rfl|hp
  ·exact hi'
  ·have:=h.lt p (hsub p hp);omega
 ·intro x hx hn
  rcases Aio.1 hx with hx|hx
  ·exact h.kn x hx hn
  ·simp at hx;rw[hx]
theorem Lq.key{T:Nat}{lid:Id}{A B:List OS}{x:OS}{n n':Nat}{id:Id}(h:Lq T (some lid) (A++x::B) n)(hi:n<=id.1)(hi':id.1<n')(s:Et):Lq T (some lid) (A++(s,some id)::B) n':=by
 obtain⟨h1,h2,h3,h4⟩:=h.arr
 have hE:CT (A++x::B)=CT A++(osE x++CT B):=by rw[Lj,Nc]
 have hE2:CT (A++(s,some id)::B)=CT A++((id,.arr 9 1 (s.keys.map V.s))::CT B):=by rw[Lj,Nc];rfl
 rw[hE] at h2 h3 h4
 have hold:∀p∈CT A++CT B,p.1≠lid/\p.1.1<n:=by
  intro p hp
  have:p∈CT A++(osE x++CT B):=by
   grind
  grind
 have hnd:((CT A++CT B).map (·.1)).Nodup:=gP h4 ((List.Sublist.refl _).append (AtM _ _))
 obtain⟨n1,n2,n3⟩:=T9 hnd
 refine⟨?_,?_,(by simp),?_⟩
 ·rw[Ex,hE2]
  refine Ob (Agb n1 (Ob n2 fun p hp he=>?_) fun p hp q hq=>?_) fun p hp=>?_
  ·grind
  ·grind
  grind
 ·rw[Ex,hE2]
  intro p hp
  rcases Ao9.1 hp with rfl|hp
  ·simp only;omega
  grind
 ·intro y hy hn
  rcases Aio.1 hy with hy|hy
  ·exact h.kn y (ArG _ hy) hn
  ·rcases Ao9.1 hy with rfl|hy
   ·cases hn
   ·exact h.kn y (AtE _ (Abt _ hy)) hn
theorem DZ{σi σo pre:Ak}(h1:∀p∈pre,∀q∈σi,p.1≠q.1):over σi σo (pre++σi)=σo++pre:=by
 have:=Jh (σi:=σi) (σo:=σo) (pre:=pre) (post:=[]) h1 (by simp)
 simpa using this
end Go.Ir
namespace Go.Proofs
open Go.Shelf
def Tryz.lays103_ren:Go.Shelf.Ren:=⟨fun|103=>135|210=>188|206=>243|n=>n,fun|9=>9|4=>4|24=>250|3=>3|n=>n,fun|n=>n⟩
theorem Tryz.lays103:Go.Proofs.Lays.n103 Tryz.prog Tryz.lays103_ren:={
 mixed:=by kernel_rfl
 f103:=Tryz.func135.trans (congrArg some (by kernel_rfl))
 f206:=Tryz.func243.trans (congrArg some (by kernel_rfl))
 f210:=Tryz.func188.trans (congrArg some (by kernel_rfl))
 t3:=Tryz.underlying3
 a3:=Tryz.isAgg3
 z3:=Tryz.sizeOf3
 v3:=Tryz.zeroValue3
 t4:=Tryz.underlying4
 a4:=Tryz.isAgg4
 z4:=Tryz.sizeOf4
 v4:=Tryz.zeroValue4
 t9:=Tryz.underlying9
 a9:=Tryz.isAgg9
 z9:=Tryz.sizeOf9
 v9:=Tryz.zeroValue9
 t24:=Tryz.underlying250
 a24:=Tryz.isAgg250
 z24:=Tryz.sizeOf250
 v24:=Tryz.zeroValue250 }
def Tryz.lays219_ren:Go.Shelf.Ren:=⟨fun|219=>244|217=>288|225=>289|224=>290|267=>291|266=>319|314=>320|n=>n,fun|9=>9|3=>3|4=>4|5=>5|46=>237|146=>358|51=>280|n=>n,fun|1=>0|n=>n⟩
theorem Tryz.lays219:Go.Proofs.Lays.n219 Tryz.prog Tryz.lays219_ren:={
 mixed:=by kernel_rfl
 f217:=Tryz.func288.trans (congrArg some (by kernel_rfl))
 f219:=Tryz.func244.trans (congrArg some (by kernel_rfl))
 f224:=Tryz.func290.trans (congrArg some (by kernel_rfl))
 f225:=Tryz.func289.trans (congrArg some (by kernel_rfl))
 f266:=Tryz.func319.trans (congrArg some (by kernel_rfl))
 f267:=Tryz.func291.trans (congrArg some (by kernel_rfl))
 f314:=Tryz.func320.trans (congrArg some (by kernel_rfl))
 t3:=Tryz.underlying3
 a3:=Tryz.isAgg3
 z3:=Tryz.sizeOf3
 v3:=Tryz.zeroValue3
 t4:=Tryz.underlying4
 a4:=Tryz.isAgg4
 z4:=Tryz.sizeOf4
 v4:=Tryz.zeroValue4
 t5:=Tryz.underlying5
 a5:=Tryz.isAgg5
 z5:=Tryz.sizeOf5
 v5:=Tryz.zeroValue5
 t9:=Tryz.underlying9
 a9:=Tryz.isAgg9
 z9:=Tryz.sizeOf9
 v9:=Tryz.zeroValue9
 t46:=Tryz.underlying237
 a46:=Tryz.isAgg237
 z46:=Tryz.sizeOf237
 v46:=Tryz.zeroValue237
 t51:=Tryz.underlying280
 a51:=Tryz.isAgg280
 z51:=Tryz.sizeOf280
 v51:=Tryz.zeroValue280
 t146:=Tryz.underlying358
 a146:=Tryz.isAgg358
 z146:=Tryz.sizeOf358
 v146:=Tryz.zeroValue358
 g1:=by kernel_rfl }
def Tryz.lays160_ren:Go.Shelf.Ren:=⟨fun|160=>190|232=>246|231=>245|227=>247|234=>249|233=>248|236=>251|235=>250|228=>292|271=>294|151=>293|197=>272|120=>322|152=>321|260=>309|137=>252|119=>337|224=>290|225=>289|217=>288|266=>319|n=>n,fun|9=>9|4=>4|3=>3|5=>5|117=>323|116=>322|0=>0|124=>326|21=>21|105=>344|46=>237|119=>380|139=>383|138=>382|n=>n,fun|3=>1|4=>2|n=>n⟩
theorem Tryz.lays160:Go.Proofs.Lays.n160 Tryz.prog Tryz.lays160_ren:={
 mixed:=by kernel_rfl
 f119:=Tryz.func337.trans (congrArg some (by kernel_rfl))
 f120:=Tryz.func322.trans (congrArg some (by kernel_rfl))
 f137:=Tryz.func252.trans (congrArg some (by kernel_rfl))
 f151:=Tryz.func293.trans (congrArg some (by kernel_rfl))
 f152:=Tryz.func321.trans (congrArg some (by kernel_rfl))
 f160:=Tryz.func190.trans (congrArg some (by kernel_rfl))
 f197:=Tryz.func272.trans (congrArg some (by kernel_rfl))
 f217:=Tryz.func288.trans (congrArg some (by kernel_rfl))
 f224:=Tryz.func290.trans (congrArg some (by kernel_rfl))
 f225:=Tryz.func289.trans (congrArg some (by kernel_rfl))
 f227:=Tryz.func247.trans (congrArg some (by kernel_rfl))
 f228:=Tryz.func292.trans (congrArg some (by kernel_rfl))
 f231:=Tryz.func245.trans (congrArg some (by kernel_rfl))
 f232:=Tryz.func246.trans (congrArg some (by kernel_rfl))
 f233:=Tryz.func248.trans (congrArg some (by kernel_rfl))
 f234:=Tryz.func249.trans (congrArg some (by kernel_rfl))
 f235:=Tryz.func250.trans (congrArg some (by kernel_rfl))
 f236:=Tryz.func251.trans (congrArg some (by kernel_rfl))
 f260:=Tryz.func309.trans (congrArg some (by kernel_rfl))
 f266:=Tryz.func319.trans (congrArg some (by kernel_rfl))
 f271:=Tryz.func294.trans (congrArg some (by kernel_rfl))
 t0:=Tryz.underlying0
 a0:=Tryz.isAgg0
 z0:=Tryz.sizeOf0
 v0:=Tryz.zeroValue0
 t3:=Tryz.underlying3
 a3:=Tryz.isAgg3
 z3:=Tryz.sizeOf3
 v3:=Tryz.zeroValue3
 t4:=Tryz.underlying4
 a4:=Tryz.isAgg4
 z4:=Tryz.sizeOf4
 v4:=Tryz.zeroValue4
 t5:=Tryz.underlying5
 a5:=Tryz.isAgg5
 z5:=Tryz.sizeOf5
 v5:=Tryz.zeroValue5
 t9:=Tryz.underlying9
 a9:=Tryz.isAgg9
 z9:=Tryz.sizeOf9
 v9:=Tryz.zeroValue9
 t21:=Tryz.underlying21
 a21:=Tryz.isAgg21
 z21:=Tryz.sizeOf21
 v21:=Tryz.zeroValue21
 t46:=Tryz.underlying237
 a46:=Tryz.isAgg237
 z46:=Tryz.sizeOf237
 v46:=Tryz.zeroValue237
 t105:=Tryz.underlying344
 a105:=Tryz.isAgg344
 z105:=Tryz.sizeOf344
 v105:=Tryz.zeroValue344
 t116:=Tryz.underlying322
 a116:=Tryz.isAgg322
 z116:=Tryz.sizeOf322
 t117:=Tryz.underlying323
 a117:=Tryz.isAgg323
 z117:=Tryz.sizeOf323
 v117:=Tryz.zeroValue323
 t119:=Tryz.underlying380
 a119:=Tryz.isAgg380
 z119:=Tryz.sizeOf380
 t124:=Tryz.underlying326
 a124:=Tryz.isAgg326
 z124:=Tryz.sizeOf326
 v124:=Tryz.zeroValue326
 t138:=Tryz.underlying382
 a138:=Tryz.isAgg382
 z138:=Tryz.sizeOf382
 v138:=Tryz.zeroValue382
 t139:=Tryz.underlying383
 a139:=Tryz.isAgg383
 z139:=Tryz.sizeOf383
 v139:=Tryz.zeroValue383
 g3:=by kernel_rfl
 g4:=by kernel_rfl }
def Tryz.lays162_ren:Go.Shelf.Ren:=⟨fun|162=>339|232=>246|227=>247|234=>249|236=>251|228=>292|271=>294|151=>293|120=>322|197=>272|152=>321|260=>309|137=>252|119=>337|224=>290|225=>289|217=>288|266=>319|n=>n,fun|9=>9|4=>4|3=>3|5=>5|117=>323|116=>322|0=>0|124=>326|21=>21|105=>344|46=>237|119=>380|139=>383|138=>382|n=>n,fun|3=>1|4=>2|n=>n⟩
theorem Tryz.lays162:Go.Proofs.Lays.n162 Tryz.prog Tryz.lays162_ren:={
 mixed:=by kernel_rfl
 f119:=Tryz.func337.trans (congrArg some (by kernel_rfl))
 f120:=Tryz.func322.trans (congrArg some (by kernel_rfl))
 f137:=Tryz.func252.trans (congrArg some (by kernel_rfl))
 f151:=Tryz.func293.trans (congrArg some (by kernel_rfl))
 f152:=Tryz.func321.trans (congrArg some (by kernel_rfl))
 f162:=Tryz.func339.trans (congrArg some (by kernel_rfl))
 f197:=Tryz.func272.trans (congrArg some (by kernel_rfl))
 f217:=Tryz.func288.trans (congrArg some (by kernel_rfl))
 f224:=Tryz.func290.trans (congrArg some (by kernel_rfl))
 f225:=Tryz.func289.trans (congrArg some (by kernel_rfl))
 f227:=Tryz.func247.trans (congrArg some (by kernel_rfl))
 f228:=Tryz.func292.trans (congrArg some (by kernel_rfl))
 f232:=Tryz.func246.trans (congrArg some (by kernel_rfl))
 f234:=Tryz.func249.trans (congrArg some (by kernel_rfl))
 f236:=Tryz.func251.trans (congrArg some (by kernel_rfl))
 f260:=Tryz.func309.trans (congrArg some (by kernel_rfl))
 f266:=Tryz.func319.trans (congrArg some (by kernel_rfl))
 f271:=Tryz.func294.trans (congrArg some (by kernel_rfl))
 t0:=Tryz.underlying0
 a0:=Tryz.isAgg0
 z0:=Tryz.sizeOf0
 v0:=Tryz.zeroValue0
 t3:=Tryz.underlying3
 a3:=Tryz.isAgg3
 z3:=Tryz.sizeOf3
 v3:=Tryz.zeroValue3
 t4:=Tryz.underlying4
 a4:=Tryz.isAgg4
 z4:=Tryz.sizeOf4
 v4:=Tryz.zeroValue4
 t5:=Tryz.underlying5
 a5:=Tryz.isAgg5
 z5:=Tryz.sizeOf5
 v5:=Tryz.zeroValue5
 t9:=Tryz.underlying9
 a9:=Tryz.isAgg9
 z9:=Tryz.sizeOf9
 v9:=Tryz.zeroValue9
 t21:=Tryz.underlying21
 a21:=Tryz.isAgg21
 z21:=Tryz.sizeOf21
 v21:=Tryz.zeroValue21
 t46:=Tryz.underlying237
 a46:=Tryz.isAgg237
 z46:=Tryz.sizeOf237
 v46:=Tryz.zeroValue237
 t105:=Tryz.underlying344
 a105:=Tryz.isAgg344
 z105:=Tryz.sizeOf344
 v105:=Tryz.zeroValue344
 t116:=Tryz.underlying322
 a116:=Tryz.isAgg322
 z116:=Tryz.sizeOf322
 t117:=Tryz.underlying323
 a117:=Tryz.isAgg323
 z117:=Tryz.sizeOf323
 v117:=Tryz.zeroValue323
 t119:=Tryz.underlying380
 a119:=Tryz.isAgg380
 z119:=Tryz.sizeOf380
 t124:=Tryz.underlying326
 a124:=Tryz.isAgg326
 z124:=Tryz.sizeOf326
 v124:=Tryz.zeroValue326
 t138:=Tryz.underlying382
 a138:=Tryz.isAgg382
 z138:=Tryz.sizeOf382
 v138:=Tryz.zeroValue382
 t139:=Tryz.underlying383
 a139:=Tryz.isAgg383
 z139:=Tryz.sizeOf383
 v139:=Tryz.zeroValue383
 g3:=by kernel_rfl
 g4:=by kernel_rfl }
def Tryz.lays172_ren:Go.Shelf.Ren:=⟨fun|172=>349|244=>353|245=>354|247=>355|279=>356|280=>357|281=>358|282=>359|287=>360|316=>361|171=>221|205=>362|321=>363|322=>364|243=>282|246=>315|283=>332|284=>333|285=>334|286=>335|129=>179|317=>343|318=>344|319=>345|320=>346|337=>351|338=>352|n=>n,fun|9=>9|3=>3|75=>239|76=>240|4=>4|5=>5|167=>403|37=>96|0=>0|85=>404|2=>2|168=>406|53=>282|175=>409|46=>237|210=>412|127=>158|145=>417|143=>415|21=>21|171=>384|173=>386|212=>397|51=>280|20=>20|213=>398|232=>401|233=>402|80=>123|n=>n,fun|15=>6|16=>7|17=>3|18=>4|19=>5|n=>n⟩
theorem Tryz.lays172:Go.Proofs.Lays.n172 Tryz.prog Tryz.lays172_ren:={
 mixed:=by kernel_rfl
 f129:=Tryz.func179.trans (congrArg some (by kernel_rfl))
 f171:=Tryz.func221.trans (congrArg some (by kernel_rfl))
 f172:=Tryz.func349.trans (congrArg some (by kernel_rfl))
 f205:=Tryz.func362.trans (congrArg some (by kernel_rfl))
 f243:=Tryz.func282.trans (congrArg some (by kernel_rfl))
 f244:=Tryz.func353.trans (congrArg some (by kernel_rfl))
 f245:=Tryz.func354.trans (congrArg some (by kernel_rfl))
 f246:=Tryz.func315.trans (congrArg some (by kernel_rfl))
 f247:=Tryz.func355.trans (congrArg some (by kernel_rfl))
 f279:=Tryz.func356.trans (congrArg some (by kernel_rfl))
 f280:=Tryz.func357.trans (congrArg some (by kernel_rfl))
 f281:=Tryz.func358.trans (congrArg some (by kernel_rfl))
 f282:=Tryz.func359.trans (congrArg some (by kernel_rfl))
 f283:=Tryz.func332.trans (congrArg some (by kernel_rfl))
 f284:=Tryz.func333.trans (congrArg some (by kernel_rfl))
 f285:=Tryz.func334.trans (congrArg some (by kernel_rfl))
 f286:=Tryz.func335.trans (congrArg some (by kernel_rfl))
 f287:=Tryz.func360.trans (congrArg some (by kernel_rfl))
 f316:=Tryz.func361.trans (congrArg some (by kernel_rfl))
 f317:=Tryz.func343.trans (congrArg some (by kernel_rfl))
 f318:=Tryz.func344.trans (congrArg some (by kernel_rfl))
 f319:=Tryz.func345.trans (congrArg some (by kernel_rfl))
 f320:=Tryz.func346.trans (congrArg some (by kernel_rfl))
 f321:=Tryz.func363.trans (congrArg some (by kernel_rfl))
 f322:=Tryz.func364.trans (congrArg some (by kernel_rfl))
 f337:=Tryz.func351.trans (congrArg some (by kernel_rfl))
 f338:=Tryz.func352.trans (congrArg some (by kernel_rfl))
 t0:=Tryz.underlying0
 a0:=Tryz.isAgg0
 z0:=Tryz.sizeOf0
 v0:=Tryz.zeroValue0
 t2:=Tryz.underlying2
 a2:=Tryz.isAgg2
 z2:=Tryz.sizeOf2
 v2:=Tryz.zeroValue2
 t3:=Tryz.underlying3
 a3:=Tryz.isAgg3
 z3:=Tryz.sizeOf3
 v3:=Tryz.zeroValue3
 t4:=Tryz.underlying4
 a4:=Tryz.isAgg4
 z4:=Tryz.sizeOf4
 v4:=Tryz.zeroValue4
 t5:=Tryz.underlying5
 a5:=Tryz.isAgg5
 z5:=Tryz.sizeOf5
 v5:=Tryz.zeroValue5
 t9:=Tryz.underlying9
 a9:=Tryz.isAgg9
 z9:=Tryz.sizeOf9
 v9:=Tryz.zeroValue9
 t20:=Tryz.underlying20
 a20:=Tryz.isAgg20
 z20:=Tryz.sizeOf20
 v20:=Tryz.zeroValue20
 t21:=Tryz.underlying21
 a21:=Tryz.isAgg21
 z21:=Tryz.sizeOf21
 v21:=Tryz.zeroValue21
 t37:=Tryz.underlying96
 a37:=Tryz.isAgg96
 z37:=Tryz.sizeOf96
 v37:=Tryz.zeroValue96
 t46:=Tryz.underlying237
 a46:=Tryz.isAgg237
 z46:=Tryz.sizeOf237
 v46:=Tryz.zeroValue237
 t51:=Tryz.underlying280
 a51:=Tryz.isAgg280
 z51:=Tryz.sizeOf280
 v51:=Tryz.zeroValue280
 t53:=Tryz.underlying282
 a53:=Tryz.isAgg282
 z53:=Tryz.sizeOf282
 v53:=Tryz.zeroValue282
 t75:=Tryz.underlying239
 a75:=Tryz.isAgg239
 z75:=Tryz.sizeOf239
 v75:=Tryz.zeroValue239
 t76:=Tryz.underlying240
 a76:=Tryz.isAgg240
 z76:=Tryz.sizeOf240
 v76:=Tryz.zeroValue240
 t85:=Tryz.underlying404
 a85:=Tryz.isAgg404
 z85:=Tryz.sizeOf404
 v85:=Tryz.zeroValue404
 t127:=Tryz.underlying158
 a127:=Tryz.isAgg158
 z127:=Tryz.sizeOf158
 v127:=Tryz.zeroValue158
 t143:=Tryz.underlying415
 a143:=Tryz.isAgg415
 z143:=Tryz.sizeOf415
 v143:=Tryz.zeroValue415
 t145:=Tryz.underlying417
 a145:=Tryz.isAgg417
 z145:=Tryz.sizeOf417
 v145:=Tryz.zeroValue417
 t167:=Tryz.underlying403
 a167:=Tryz.isAgg403
 z167:=Tryz.sizeOf403
 v167:=Tryz.zeroValue403
 t168:=Tryz.underlying406
 a168:=Tryz.isAgg406
 z168:=Tryz.sizeOf406
 v168:=Tryz.zeroValue406
 t171:=Tryz.underlying384
 a171:=Tryz.isAgg384
 z171:=Tryz.sizeOf384
 v171:=Tryz.zeroValue384
 t173:=Tryz.underlying386
 a173:=Tryz.isAgg386
 z173:=Tryz.sizeOf386
 v173:=Tryz.zeroValue386
 t175:=Tryz.underlying409
 a175:=Tryz.isAgg409
 z175:=Tryz.sizeOf409
 v175:=Tryz.zeroValue409
 t210:=Tryz.underlying412
 a210:=Tryz.isAgg412
 z210:=Tryz.sizeOf412
 v210:=Tryz.zeroValue412
 t212:=Tryz.underlying397
 a212:=Tryz.isAgg397
 z212:=Tryz.sizeOf397
 v212:=Tryz.zeroValue397
 t213:=Tryz.underlying398
 a213:=Tryz.isAgg398
 z213:=Tryz.sizeOf398
 t232:=Tryz.underlying401
 a232:=Tryz.isAgg401
 z232:=Tryz.sizeOf401
 v232:=Tryz.zeroValue401
 t233:=Tryz.underlying402
 a233:=Tryz.isAgg402
 z233:=Tryz.sizeOf402
 v233:=Tryz.zeroValue402
 g15:=by kernel_rfl
 g16:=by kernel_rfl
 g17:=by kernel_rfl
 g18:=by kernel_rfl
 g19:=by kernel_rfl }
def Tryz.lays171_ren:Go.Shelf.Ren:=⟨fun|171=>221|243=>282|246=>315|283=>332|284=>333|285=>334|286=>335|129=>179|317=>343|318=>344|319=>345|320=>346|337=>351|338=>352|n=>n,fun|3=>3|9=>9|2=>2|4=>4|171=>384|0=>0|53=>282|37=>96|5=>5|173=>386|212=>397|51=>280|20=>20|213=>398|46=>237|232=>401|233=>402|n=>n,fun|17=>3|18=>4|19=>5|n=>n⟩
theorem Tryz.lays171:Go.Proofs.Lays.n171 Tryz.prog Tryz.lays171_ren:={
 mixed:=by kernel_rfl
 f129:=Tryz.func179.trans (congrArg some (by kernel_rfl))
 f171:=Tryz.func221.trans (congrArg some (by kernel_rfl))
 f243:=Tryz.func282.trans (congrArg some (by kernel_rfl))
 f246:=Tryz.func315.trans (congrArg some (by kernel_rfl))
 f283:=Tryz.func332.trans (congrArg some (by kernel_rfl))
 f284:=Tryz.func333.trans (congrArg some (by kernel_rfl))
 f285:=Tryz.func334.trans (congrArg some (by kernel_rfl))
 f286:=Tryz.func335.trans (congrArg some (by kernel_rfl))
 f317:=Tryz.func343.trans (congrArg some (by kernel_rfl))
 f318:=Tryz.func344.trans (congrArg some (by kernel_rfl))
 f319:=Tryz.func345.trans (congrArg some (by kernel_rfl))
 f320:=Tryz.func346.trans (congrArg some (by kernel_rfl))
 f337:=Tryz.func351.trans (congrArg some (by kernel_rfl))
 f338:=Tryz.func352.trans (congrArg some (by kernel_rfl))
 t0:=Tryz.underlying0
 a0:=Tryz.isAgg0
 z0:=Tryz.sizeOf0
 v0:=Tryz.zeroValue0
 t2:=Tryz.underlying2
 a2:=Tryz.isAgg2
 z2:=Tryz.sizeOf2
 v2:=Tryz.zeroValue2
 t3:=Tryz.underlying3
 a3:=Tryz.isAgg3
 z3:=Tryz.sizeOf3
 v3:=Tryz.zeroValue3
 t4:=Tryz.underlying4
 a4:=Tryz.isAgg4
 z4:=Tryz.sizeOf4
 v4:=Tryz.zeroValue4
 t5:=Tryz.underlying5
 a5:=Tryz.isAgg5
 z5:=Tryz.sizeOf5
 v5:=Tryz.zeroValue5
 t9:=Tryz.underlying9
 a9:=Tryz.isAgg9
 z9:=Tryz.sizeOf9
 v9:=Tryz.zeroValue9
 t20:=Tryz.underlying20
 a20:=Tryz.isAgg20
 z20:=Tryz.sizeOf20
 v20:=Tryz.zeroValue20
 t37:=Tryz.underlying96
 a37:=Tryz.isAgg96
 z37:=Tryz.sizeOf96
 v37:=Tryz.zeroValue96
 t46:=Tryz.underlying237
 a46:=Tryz.isAgg237
 z46:=Tryz.sizeOf237
 v46:=Tryz.zeroValue237
 t51:=Tryz.underlying280
 a51:=Tryz.isAgg280
 z51:=Tryz.sizeOf280
 v51:=Tryz.zeroValue280
 t53:=Tryz.underlying282
 a53:=Tryz.isAgg282
 z53:=Tryz.sizeOf282
 v53:=Tryz.zeroValue282
 t171:=Tryz.underlying384
 a171:=Tryz.isAgg384
 z171:=Tryz.sizeOf384
 v171:=Tryz.zeroValue384
 t173:=Tryz.underlying386
 a173:=Tryz.isAgg386
 z173:=Tryz.sizeOf386
 v173:=Tryz.zeroValue386
 t212:=Tryz.underlying397
 a212:=Tryz.isAgg397
 z212:=Tryz.sizeOf397
 v212:=Tryz.zeroValue397
 t213:=Tryz.underlying398
 a213:=Tryz.isAgg398
 z213:=Tryz.sizeOf398
 t232:=Tryz.underlying401
 a232:=Tryz.isAgg401
 z232:=Tryz.sizeOf401
 v232:=Tryz.zeroValue401
 t233:=Tryz.underlying402
 a233:=Tryz.isAgg402
 z233:=Tryz.sizeOf402
 v233:=Tryz.zeroValue402
 g17:=by kernel_rfl
 g18:=by kernel_rfl
 g19:=by kernel_rfl }
end Go.Proofs
section
namespace Go.Ir
open Go.Proofs Go.RowKit
theorem Hp.below{W0:World}{σ:Ak}{n:Nat}{μ:Id->Option Value}{H:Addr->Option Value}{w w':World}(hp:Hp W0 σ n μ H w)(hb:Below w.heap.size w w'):Hp W0 σ n μ H w'/\Fr μ H σ w μ H σ w':=by
 have ht:AJ (fun _=>False) w w':=⟨hb.os,hb.tape,hb.output,hb.size,fun k hk _=>hb.block k hk⟩
 refine⟨⟨hp.base_turned ht (fun _ h=>h.elim),hp.pins_turned ht (fun _ h=>h.elim),fun id e hl=>?_,hp.unp,hp.sep,hp.bd⟩,⟨fun _ _ h=>h,fun _ _ h=>h,hb.size,fun bk hk _=>hb.block bk hk,fun _ _ _=>rfl,fun _ _ h=>h⟩⟩
 exact(hp.ents id e hl).keep (fun _ _ h=>h) (fun _ _ h=>h) (fun bk hk=>hb.block bk ((hp.ents id e hl).block hk).2)
theorem AI{P:Program}{W0:World}{f:FuncId}{args:List V}{v:V}(hc:callable P f=true)
  (h:∀w vals,Below W0.heap.size W0 w->(∃μ H,VRels μ H args vals)->Calls P f vals.toArray w fun e w'=>∃val,e=.returned val/\(∀μ H,Ap μ H v val)/\Below w.heap.size w w'):Am P W0 f args [] v [] where
 callable:=hc
 dom id h:=h
 run n w μ H vals hp hv:=by
  refine(h w vals hp.base ⟨μ,H,hv⟩).mono fun e w' ⟨val,he,hr,hb⟩=>?_
  obtain⟨h1,h2⟩:=hp.below hb
  exact⟨val,μ,H,n,he,hr μ H,h1,AbG _,h2,fun _ _ h=>h⟩
theorem Below.drewN_{B:Nat}{a w:World}(h:Below B a w)(n:Nat):Below B a (w.drewN n):=⟨h.os,h.tape,h.output,h.size,h.block⟩
theorem VRels.one_s{μ:Id->Option Value}{H:Addr->Option Value}{l:Aa}{vals:List Value}(h:VRels μ H [.s l] vals):vals=[.string ⟨l.toArray⟩]/\l.length<=A9:=by
 obtain⟨v,h1,h2⟩:=h.get (k:=0) rfl
 have:=h.len
 match vals,this,h1 with
 | [x],_,h1=>
  simp at h1
  subst h1
  cases h2 with
  | s l hl=>exact⟨rfl,hl⟩
theorem VRels.two{μ:Id->Option Value}{H:Addr->Option Value}{a b:V}{vals:List Value}(h:VRels μ H [a,b] vals):∃x y,vals=[x,y]/\Ap μ H a x/\Ap μ H b y:=by
 have:=h.len
 match vals,this with
 | [x,y],_=>exact⟨x,y,rfl,h.at_ 0 _ _ rfl rfl,h.at_ 1 _ _ rfl rfl⟩
variable(W0:World)
theorem B4{l:Aa}{μ:Id->Option Value}{H:Addr->Option Value}{x:Value}(h:Ap μ H (.s l) x):x=.string ⟨l.toArray⟩/\l.length<=A9:=by
 cases h with
 | s l hl=>exact⟨rfl,hl⟩
theorem R2{a b:V}{x y:Value}(h1:∀μ H,Ap μ H a x)(h2:∀μ H,Ap μ H b y):∀μ H,Ap μ H (.tup [a,b]) (.tuple #[x,y]):=
 fun μ H=>Ap.tup [a,b] [x,y] rfl fun k c v hc hv=>by
  match k with
  | 0=>grind
  | 1=>grind
  | k+2=>simp at hc
theorem Rz(s cs:Aa):(Lib.trimRightS s cs).length<=s.length:=by
 unfold Lib.trimRightS
 rw[Aug]
 exact Aiw (Ati _).length_le (by simp)
theorem tQ(s cs:Aa):(Lib.trimS s cs).length<=s.length:=by
 unfold Lib.trimS Lib.trimLeftS
 exact Aiw (Ati _).length_le (Rz s cs)
theorem DU(s p:Aa):Am Tryz.prog W0 135 [.s s,.s p] [] (.tup [.s (Lib.trimPrefix s p),.b (Lib.hasPrefix s p)]) []:=by
 refine AI (by kernel_rfl) fun w vals hb ⟨μ,H,hv⟩=>?_
 obtain⟨x,y,rfl,hx,hy⟩:=hv.two
 obtain⟨rfl,hl⟩:=B4 hx
 obtain⟨rfl,_⟩:=B4 hy
 refine(Any.strings_CutPrefix Tryz.lays103 ⟨s.toArray⟩ ⟨p.toArray⟩ w).mono fun e w' ⟨he,hw⟩=>?_
 subst hw
 refine⟨_,he,R2 (fun _ _=>.s _ ?_) (fun _ _=>.b _),AqT _ _⟩
 unfold Lib.trimPrefix
 grind
theorem Lc(s:Aa)(c:UInt8):Am Tryz.prog W0 244 [.s s,.s [c]] [] (.i .i64 (Lib.indexByte s c)) []:=by
 refine AI (by kernel_rfl) fun w vals hb ⟨μ,H,hv⟩=>?_
 obtain⟨x,y,rfl,hx,hy⟩:=hv.two
 obtain⟨rfl,hl⟩:=B4 hx
 obtain⟨rfl,_⟩:=B4 hy
 refine(Any.stringslite_Index_one Tryz.lays219 ⟨s.toArray⟩ c w).mono fun e w' ⟨he,hw⟩=>?_
 subst hw
 exact⟨_,he,fun _ _=>.i _ _,AqT _ _⟩
theorem RQ(s cs:Aa)(hcs:cs.length<4294967281)(ha:∀b∈cs,b.toNat<128):Am Tryz.prog W0 190 [.s s,.s cs] [] (.s (Lib.trimS s cs)) []:=by
 refine AI (by kernel_rfl) fun w vals hb ⟨μ,H,hv⟩=>?_
 obtain⟨x,y,rfl,hx,hy⟩:=hv.two
 obtain⟨rfl,hl⟩:=B4 hx
 obtain⟨rfl,_⟩:=B4 hy
 refine(Any.strings_Trim_laid Tryz.lays160 (by kernel_rfl) ⟨s.toArray⟩ ⟨cs.toArray⟩ w (by show s.toArray.size<=_;unfold A9 at hl;simp;omega) (by simpa[ByteArray.size] using hcs) (fun j b hj=>ha b (Ai1 hj))).mono fun e w' ⟨he,hw⟩=>?_
 exact⟨_,he,fun _ _=>.s _ (Aiw (tQ s cs) hl),hw⟩
theorem vA(s cs:Aa)(hcs:cs.length<4294967281)(ha:∀b∈cs,b.toNat<128):Am Tryz.prog W0 339 [.s s,.s cs] [] (.s (Lib.trimRightS s cs)) []:=by
 refine AI (by kernel_rfl) fun w vals hb ⟨μ,H,hv⟩=>?_
 obtain⟨x,y,rfl,hx,hy⟩:=hv.two
 obtain⟨rfl,hl⟩:=B4 hx
 obtain⟨rfl,_⟩:=B4 hy
 refine(Any.strings_TrimRight_laid Tryz.lays162 (by kernel_rfl) ⟨s.toArray⟩ ⟨cs.toArray⟩ w (by show s.toArray.size<=_;unfold A9 at hl;simp;omega) (by simpa[ByteArray.size] using hcs) (fun j b hj=>ha b (Ai1 hj))).mono fun e w' ⟨he,hw⟩=>?_
 exact⟨_,he,fun _ _=>.s _ (Aiw (Rz s cs) hl),hw⟩
theorem Ahw(s:Aa)(n:Int)(hs:s.length<=18)(hn:Lib.atoi s=some n):Am Tryz.prog W0 349 [.s s] [] (.tup [.i .i64 n,.ni]) []:=by
 refine AI (by kernel_rfl) fun w vals hb ⟨μ,H,hv⟩=>?_
 obtain⟨rfl,hl⟩:=hv.one_s
 refine(Any.strconv_Atoi Tryz.lays172 ⟨s.toArray⟩ n (by simpa[ByteArray.size] using hs) hn w).mono fun e w' ⟨he,t,hw⟩=>?_
 refine⟨_,he,R2 (fun _ _=>.i _ _) (fun _ _=>.ni),?_⟩
 rw[hw]
 exact Lib.bytesWorld_below _ _ _
theorem Aef(i:Nat)(hi:i<100):Am Tryz.prog W0 221 [.i .i64 i] [] (.s (Lib.decDigits i)) []:=by
 refine AI (by kernel_rfl) fun w vals hb ⟨μ,H,hv⟩=>?_
 have hlen:=hv.len
 obtain⟨x,rfl⟩:∃x,vals=[x]:=by
  match vals,hlen with
  | [x],_=>exact⟨x,rfl⟩
 have hx:=hv.at_ 0 _ _ rfl rfl
 cases hx
 refine(Any.strconv_Itoa_small Tryz.lays171 i hi w).mono fun e w' ⟨he,hw⟩=>?_
 subst hw
 refine⟨_,he,fun _ _=>.s _ ?_,AqT _ _⟩
 unfold A9
 unfold Lib.decDigits
 split
 ·simp
 ·unfold Lib.decDigits
  grind
end Go.Ir
end
namespace Go.Ir
open Go.Proofs
variable{P:Program}{W0:World}{nt n:Nat}{Q:Exit→St→Prop}{env:AD}{σ:Ak}
def jS:IC:=oS [mC 4 (.s []),mC 5 (.s []),mC 6 (.b false)] [0,1] (oR [m1 7 0,m1 8 1,q2 9 189 7 8,xT 10 9 0,xT 11 9 1,xT 12 9 2,m1 4 10,m1 5 11,m1 6 12] [4,5,6])
@[push_cast]def AjG:List R:=[.t 4,.t 5,.t 6]
@[push_cast]def Asa:=AL jS.eq_1
theorem AgI:Aw Tryz.prog 136 13 jS AjG=true:=by kernel_rfl
def fI:IC:=sQ (.ops [m1 13 0,m1 14 7,o1 15 (.slS (.t 13) none (some (.t 14))),m1 16 0,m1 17 7,m1 18 1,nS 19 18,bT 20 .add 17 19,o1 21 (.slS (.t 16) (some (.t 20)) none),m1 4 15,m1 5 21,mC 6 (.b true)] [4,5,6] [[0,2],[1,2],[5,6],[4,7],[6,7],[3,8],[7,8],[2,9],[8,10]]) .ret
def Z1:IC:=sQ (oS [m1 8 0,m1 9 1,q2 10 244 8 9,m1 7 10] [0,1,7] (oS [m1 11 7,bZ 12 .geq 11 0] [0,1,7,12] (cD 12 fI .skip))) (oR [m1 22 0,m1 4 22,mC 5 (.s []),mC 6 (.b false)] [4,5,6])
def pK:IC:=oS [mC 4 (.s []),mC 5 (.s []),mC 6 (.b false)] [0,1] Z1
@[push_cast]def AlA:List R:=[.t 4,.t 5,.t 6]
@[push_cast]def Asl:=As fI.eq_1<|As Z1.eq_1<|AL pK.eq_1
theorem o4:Aw Tryz.prog 189 23 pK AlA=true:=by kernel_rfl
def p5:IC:=oS [mC 2 (.b false)] [0] (oR [m1 3 0,o1 4 (.call 190 [.t 3,.c (.s [48,49,50,51,52,53,54,55,56,57])]),bC 5 .eql 4 (.s []),m1 2 5] [2])
@[push_cast]def Ant:List R:=[.t 2]
@[push_cast]def ArH:=AL p5.eq_1
theorem Agv:Aw Tryz.prog 137 6 p5 Ant=true:=by kernel_rfl
def aP:IC:=oS [mC 2 (.b false)] [0] (oR [m1 3 0,o1 4 (.call 190 [.t 3,.c (.s [48])]),bC 5 .eql 4 (.s []),m1 2 5] [2])
@[push_cast]def AiW:List R:=[.t 2]
@[push_cast]def Asg:=AL aP.eq_1
theorem Ahi:Aw Tryz.prog 191 6 aP AiW=true:=by kernel_rfl
def lP:IC:=oS [bX 1 0,mC 2 (.b false)] [1] (oR [fA 3 1 1,l1 4 3,q1 5 191 4,m1 6 5,F0 7 6 1 2,EQ 8 6 7,gT 9 6 (.call 191 [.t 8]),pA 10 6 9,m1 2 10] [2])
@[push_cast]def AiL:List R:=[.t 2]
@[push_cast]def ArI:=AL lP.eq_1
theorem mY:Aw Tryz.prog 138 11 lP AiL=true:=by kernel_rfl
def aC:IC:=oS [m1 51 8,m1 52 51,BG 53 52 7,gT 54 52 (.lenS (.t 53)),FSz 55 52 .eql 54 0,pA 56 52 55,m1 57 56,BB 58 57 7,gF 59 57 (.lenS (.t 58)),Er 60 57 .gtr 59 6,pO 61 57 60,m1 62 61,BB 63 62 7,gF 64 62 (.call 137 [.t 63]),gF 65 62 (.not (.t 64)),pO 66 62 65,m1 50 66] [2,5,9,50] (cD 50 (oR [lA 67 9 3,sT 2 67 3,mC 3 (.b false)] [2,3]) .skip)
def e9:IC:=sQ (.ops [lA 68 9 3,m1 69 5,nT 70 69,m1 71 70,gF 72 71 (.load (.t 9) 3 true),gF 73 71 (.call 138 [.t 72]),gF 74 71 (.not (.t 73)),pO 75 71 74,sT 2 68 3,m1 3 75] [2,3] [[1,2],[2,3],[3,4],[3,5],[4,5],[3,6],[5,6],[3,7],[6,7],[0,8],[4,5,8],[7,9]]) .ret
def Acd:IC:=sQ (.block 0 (oS [m1 26 6,nS 27 26,bZ 28 .lss 27 1,m1 29 28,BB 30 29 6,gF 31 29 (.lenS (.t 30)),Er 32 29 .gtr 31 15,pO 33 29 32,m1 34 33,BB 35 34 6,gF 36 34 (.call 137 [.t 35]),gF 37 34 (.not (.t 36)),pO 38 34 37,m1 39 38,BB 40 39 6,gF 41 39 (.lenS (.t 40)),Er 42 39 .gtr 41 1,BB 43 39 42,BG 44 43 6,gT 45 43 (.idx (.t 44) (ci 0)),gT 46 43 (.bin .eql (.t 45) (.c (.i .u8 48))),gF 47 39 (.pick (.t 43) (.t 46) (.c (.b false))),pO 48 39 47,m1 25 48] [2,5,7,8,9,25] (cD 25 (oR [lA 49 9 3,sT 2 49 3,mC 3 (.b false)] [2,3]) aC))) e9
def Ab3:IC:=oS [m1 21 5,m1 22 6,m1 23 7,o1 24 (.build [.b false,.s [],.s []] [(0,1,.t 21),(1,1,.t 22),(2,1,.t 23)]),o1 9 (.alloc (.agg [.b false,.s [],.s []])),sT 9 24 3] [2,5,6,7,8,9] Acd
def AaP:IC:=oS [m1 11 0,o1 12 (.call 135 [.t 11,.c (.s [45])]),m1 10 12,xT 13 10 0,xT 14 10 1,m1 4 13,m1 5 14] [2,4,5] (oS [m1 16 4,o1 17 (.call 136 [.t 16,.c (.s [46])]),m1 15 17,xT 18 15 0,xT 19 15 1,xT 20 15 2,m1 6 18,m1 7 19,m1 8 20] [2,5,6,7,8] Ab3)
def Acc:IC:=oS [o1 2 (.alloc (.agg [.b false,.s [],.s []])),mC 3 (.b false)] [0,2] AaP
@[push_cast]def Aoz:List R:=[.c 2 3 true,.t 3]
@[push_cast]def Atc:=As aC.eq_1<|As e9.eq_1<|As Acd.eq_1<|As Ab3.eq_1<|As AaP.eq_1<|AL Acc.eq_1
theorem AbA:Aw Tryz.prog 98 76 Acc Aoz=true:=by kernel_rfl
def AcJ:IC:=oS [mC 2 (.b false)] [0] (oS [m1 6 0,q1 7 98 6,m1 5 7,xT 8 5 0,xT 9 5 1,o1 3 (.alloc (.agg [.b false,.s [],.s []])),sT 3 8 3,m1 4 9] [4] (oR [m1 10 4,m1 2 10] [2]))
@[push_cast]def Aps:List R:=[.t 2]
@[push_cast]def AsD:=AL AcJ.eq_1
theorem Ai3:Aw Tryz.prog 67 11 AcJ Aps=true:=by kernel_rfl
def eC:IC:=oS [mZ 2 0] [0] (oS [m1 6 0,o1 7 (.bin .add (.c (.s [48])) (.t 6)),q1 8 349 7,m1 5 8,xT 9 5 0,xT 10 5 1,m1 3 9,m1 4 10] [3] (oR [m1 11 3,m1 2 11] [2]))
@[push_cast]def Ajs:List R:=[.t 2]
@[push_cast]def Asf:=AL eC.eq_1
theorem AfC:Aw Tryz.prog 340 12 eC Ajs=true:=by kernel_rfl
def UQ:IC:=sQ (oS [m1 22 8,bC 23 .neq 22 (.s [])] [6,23] (cD 23 (oR [mZ 4 0,mZ 5 8] [4,5]) .skip)) (oR [fA 24 6 1,l1 25 24,q1 26 340 25,m1 4 26,mZ 5 0] [4,5])
def V2:IC:=cD 41 (oR [fA 43 6 2,l1 44 43,q1 45 340 44,m1 4 45,mZ 5 0] [4,5]) (oS [bZ 47 .eql 19 6,m1 46 47] [8,46] (cD 46 (oR [m1 48 8,q1 49 340 48,m1 4 49,mZ 5 0] [4,5]) .skip))
def UB:IC:=cD 32 (oR [fA 34 6 2,l1 35 34,nS 36 35,m1 4 36,mZ 5 0] [4,5]) (oS [bZ 38 .eql 19 4,m1 37 38] [6,8,19,37] (cD 37 (oR [m1 39 8,nS 40 39,m1 4 40,mZ 5 0] [4,5]) (oS [bZ 42 .eql 19 5,m1 41 42] [6,8,19,41] V2)))
def V4:IC:=cD 20 UQ (oS [bZ 28 .eql 19 2,m1 27 28] [6,8,19,27] (cD 27 (oR [fA 29 6 1,l1 30 29,q1 31 340 30,m1 4 31,mZ 5 0] [4,5]) (oS [bZ 33 .eql 19 3,m1 32 33] [6,8,19,32] UB)))
def Ws:IC:=oS [fA 16 6 2,l1 17 16,o1 18 (.call 339 [.t 17,.c (.s [48])]),m1 8 18] [1,6,8] (sQ (oS [m1 19 1] [6,8,19] (.block 0 (oS [bZ 21 .eql 19 1,m1 20 21] [6,8,19,20] V4))) (oR [mZ 4 0,mZ 5 1] [4,5]))
def ZX:IC:=oS [m1 10 0,q1 11 98 10,m1 9 11,xT 12 9 0,xT 13 9 1,o1 6 (.alloc (.agg [.b false,.s [],.s []])),sT 6 12 3,m1 7 13] [1,6,7] (sQ (oS [m1 14 7,nT 15 14] [1,6,15] (cD 15 (oR [mZ 4 0,mZ 5 1] [4,5]) .skip)) Ws)
def mJ:IC:=oS [mZ 4 0,mZ 5 0] [0,1] ZX
@[push_cast]def Alh:List R:=[.t 4,.t 5]
@[push_cast]def Asq:=As UQ.eq_1<|As V2.eq_1<|As UB.eq_1<|As V4.eq_1<|As Ws.eq_1<|As ZX.eq_1<|AL mJ.eq_1
theorem gQ:Aw Tryz.prog 327 50 mJ Alh=true:=by kernel_rfl
end Go.Ir

namespace Go.Ir
open Go.Proofs
variable(W0:World)
theorem AhP(w r:Aa)(h:∀x∈w,(x !=46)=true)(hr:∀x∈r.head?,(x !=46)=false)(hb:w.length<=2^40):Am Tryz.prog W0 189 [.s (w++r),.s [46]] [] (.tup [.s w,.s r.tail,.b (!r.isEmpty)]) []:=by
 cases r with
 | nil=>
  refine Ai (vs:=[.s w,.s [],.b false]) o4 (by simp) (by simp) fun n0 hn0=>?_
  clear hn0
  simp only[push_cast,seval,reduceEqDiff]
  have _h:=trivial;repeat' (first|(first|((first|apply Ac|apply Ag|apply Af)<;>intro _h)|refine Ab (Lc W0 _ _) ?_)<;>(simp only[push_cast,seval,reduceEqDiff,_h,aO h];try (have _g:=_h;simp at _g))|intro _)
  all_goals (first|(refine Ah ?_;simp[get]<;>(intros;omega);done)|(refine Ae ?_;simp[push_cast,get];done)|skip)
 | cons c t=>
  have:c=46:=by simp_all
  subst this
  refine Ai (vs:=[.s w,.s t,.b true]) o4 (by simp) (by simp) fun n0 hn0=>?_
  clear hn0
  simp only[push_cast,seval,reduceEqDiff]
  have _h:=trivial;repeat' (first|(first|((first|apply Ac|apply Ag|apply Af)<;>intro _h)|refine Ab (Lc W0 _ _) ?_)<;>(simp only[push_cast,seval,reduceEqDiff,_h,uH h,Ad (46:UInt8) (done:=w) (by omega)];try (have _g:=_h;simp at _g))|intro _)
  all_goals (first|(refine Ah ?_;simp[get]<;>(intros;omega);done)|(refine Ae ?_;simp[push_cast,get];done)|skip)
theorem Aj0(w r:Aa)(h:∀x∈w,(x !=46)=true)(hr:∀x∈r.head?,(x !=46)=false)(hb:w.length<=2^40):Am Tryz.prog W0 136 [.s (w++r),.s [46]] [] (.tup [.s w,.s r.tail,.b (!r.isEmpty)]) []:=by
 refine Ai (vs:=[.s w,.s r.tail,.b (!r.isEmpty)]) AgI (by simp) (by simp) fun n0 hn0=>?_
 clear hn0
 simp only[push_cast,seval,reduceEqDiff]
 have _h:=trivial;repeat' (first|(first|((first|apply Ac|apply Ag|apply Af)<;>intro _h)|refine Ab (AhP W0 w r h hr hb) ?_)<;>(simp only[push_cast,seval,reduceEqDiff,_h];try (have _g:=_h;simp at _g))|intro _)
 all_goals (first|(refine Ah ?_;simp[get]<;>(intros;omega);done)|(refine Ae ?_;simp[push_cast,get];done)|skip)
theorem Jb(s:Aa):Am Tryz.prog W0 137 [.s s] [] (.b (Cd s)) []:=by
 refine Ai (vs:=[.b (Cd s)]) Agv (by simp) (by simp) fun n0 hn0=>?_
 clear hn0
 simp only[push_cast,seval,reduceEqDiff]
 have _h:=trivial;repeat' (first|(first|((first|apply Ac|apply Ag|apply Af)<;>intro _h)|refine Ab (RQ W0 _ _ (by decide) (by decide)) ?_)<;>(simp only[push_cast,seval,reduceEqDiff,_h,OI];try (have _g:=_h;simp at _g))|intro _)
 all_goals (first|(refine Ah ?_;simp[get]<;>(intros;omega);done)|(refine Ae ?_;simp[push_cast,get];done)|skip)
theorem m9(s:Aa):Am Tryz.prog W0 191 [.s s] [] (.b (Dv s)) []:=by
 refine Ai (vs:=[.b (Dv s)]) Ahi (by simp) (by simp) fun n0 hn0=>?_
 clear hn0
 simp only[push_cast,seval,reduceEqDiff]
 have _h:=trivial;repeat' (first|(first|((first|apply Ac|apply Ag|apply Af)<;>intro _h)|refine Ab (RQ W0 _ _ (by decide) (by decide)) ?_)<;>(simp only[push_cast,seval,reduceEqDiff,_h,Ts];try (have _g:=_h;simp at _g))|intro _)
 all_goals (first|(refine Ah ?_;simp[get]<;>(intros;omega);done)|(refine Ae ?_;simp[push_cast,get];done)|skip)
def JX(s:Aa):V:=.agg [.b (IQ s),.s (AK s),.s (Bj s)]
theorem WD(s:Aa):Am Tryz.prog W0 138 [JX s] [] (.b (Dv (AK s)&&Dv (Bj s))) []:=by
 unfold JX
 refine Ai (vs:=[.b (Dv (AK s)&&Dv (Bj s))]) mY (by simp) (by simp) fun n0 hn0=>?_
 clear hn0
 simp only[push_cast,seval,reduceEqDiff]
 have _h:=trivial;repeat' (first|(first|((first|apply Ac|apply Ag|apply Af)<;>intro _h)|refine Ab (m9 W0 _) ?_)<;>(simp only[push_cast,seval,reduceEqDiff,_h];try (have _g:=_h;simp at _g))|intro _)
 all_goals (first|(refine Ah ?_;simp[get, *]<;>(intros;omega);done)|(refine Ae ?_;simp[push_cast,get, *];done)|skip)
theorem SY(s:Aa)(hb:s.length<=2^40):Am Tryz.prog W0 136 [.s (Ha s),.s [46]] [] (.tup [.s (AK s),.s (Bj s),.b (!(Og s).isEmpty)]) []:=by
 have:=JH s
 rw[Jf]
 exact Aj0 W0 _ _ (MI _) (kV s) (by omega)
theorem KT(s:Aa)(hb:s.length<=2^40):Am Tryz.prog W0 98 [.s s] [] (.tup [JX s,.b (DD s)]) []:=by
 generalize hS:DD s=S
 unfold DD at hS
 rcases hW:(AK s)[0]? with _|c
 ·have hl0:(AK s).length=0:=by simpa using hW
  rw[hl0] at hS
  subst hS
  refine Ai (vs:=[JX s,.b _]) AbA (by simp) (by simp) fun n0 hn0=>?_
  clear hn0
  simp only[push_cast,seval,reduceEqDiff]
  have _h:=trivial;repeat' (first|(first|((first|apply Ac|apply Ag|apply Af)<;>intro _h)|refine Ab ((DU W0 s [45])) ?_|refine Ab (SY W0 s hb) ?_|refine Ab (Jb W0 (AK s)) ?_|refine Ab (Jb W0 (Bj s)) ?_|refine Ab (WD W0 s) ?_)<;>(simp only[push_cast,seval,reduceEqDiff,_h,DK,ED,hl0];try (have _g:=_h;simp at _g))|intro _)
  all_goals (first|(refine Ah ?_;simp[get,JX]<;>(intros;omega);done)|(refine Ae ?_;simp[push_cast,get,JX];done)|skip)
 ·have hz:rU (AK s)=((c.toNat:Int)==48):=by simp[rU,hW]
  rw[hz] at hS
  subst hS
  refine Ai (vs:=[JX s,.b _]) AbA (by simp) (by simp) fun n0 hn0=>?_
  clear hn0
  simp only[push_cast,seval,reduceEqDiff]
  have _h:=trivial;repeat' (first|(first|((first|apply Ac|apply Ag|apply Af)<;>intro _h)|refine Ab ((DU W0 s [45])) ?_|refine Ab (SY W0 s hb) ?_|refine Ab (Jb W0 (AK s)) ?_|refine Ab (Jb W0 (Bj s)) ?_|refine Ab (WD W0 s) ?_)<;>(simp only[push_cast,seval,reduceEqDiff,_h,DK,ED,hW];try (have _g:=_h;simp at _g))|intro _)
  all_goals (first|(refine Ah ?_;simp[get,JX, *]<;>(intros;omega);done)|(refine Ae ?_;simp[push_cast,get,JX, *];done)|skip)
theorem GM(s:Aa)(hb:s.length<=2^40):Am Tryz.prog W0 67 [.s s] [] (.b (DD s)) []:=by
 have:=KT W0 s hb
 unfold JX at this
 refine Ai (vs:=[.b (DD s)]) Ai3 (by simp) (by simp) fun n0 hn0=>?_
 clear hn0
 simp only[push_cast,seval,reduceEqDiff]
 have _h:=trivial;repeat' (first|(first|((first|apply Ac|apply Ag|apply Af)<;>intro _h)|refine Ab this ?_)<;>(simp only[push_cast,seval,reduceEqDiff,_h];try (have _g:=_h;simp at _g))|intro _)
 all_goals (first|(refine Ah ?_;simp[get]<;>(intros;omega);done)|(refine Ae ?_;simp[push_cast,get];done)|skip)
theorem OD(s:Aa)(h:Cd s=true)(hl:s.length<=15):Am Tryz.prog W0 340 [.s s] [] (.i .i64 (Mc 0 s)) []:=by
 have ha:=Ahw W0 (48::s) _ (by simp;omega) (kG s h)
 have e1:1+s.length<=A9:=by unfold A9;omega
 refine Ai (vs:=[.i .i64 (Mc 0 s)]) AfC (by simp) (by simp) fun n0 hn0=>?_
 clear hn0
 simp only[push_cast,seval,reduceEqDiff,e1]
 have _h:=trivial;repeat' (first|(first|((first|apply Ac|apply Ag|apply Af)<;>intro _h)|refine Ab ha ?_)<;>(simp only[push_cast,seval,reduceEqDiff,_h,e1];try (have _g:=_h;simp at _g))|intro _)
 all_goals (first|(refine Ah ?_;simp[get]<;>(intros;omega);done)|(refine Ae ?_;simp[push_cast,get];done)|skip)
theorem AlZ(s:Aa)(op:Int)(hb:s.length<=2^40):Am Tryz.prog W0 327 [.s s,.i .i64 op] [] (.tup [.i .i64 (yG s op).1,.i .i64 (yG s op).2]) []:=by
 have hsp:=KT W0 s hb
 have htr:=vA W0 (Bj s) [48] (by decide) (by decide)
 unfold JX at hsp
 rw[show Lib.trimRightS (Bj s) [48]=IJ (Bj s) from rfl] at htr
 by_cases hN:DD s=true
 ·obtain⟨hd1,hd2,hl1,hl2⟩:=FX hN
  have hl3:=iX (Bj s)
  have v1:=OD W0 (AK s) hd1 hl1
  have v2:=OD W0 (Bj s) hd2 (by omega)
  have v3:=OD W0 (IJ (Bj s)) (Pt hd2) (by omega)
  generalize hS:yG s op=S
  unfold yG at hS
  refine Ai (vs:=[.i .i64 S.1,.i .i64 S.2]) gQ (by simp) (by simp) fun n0 hn0=>?_
  clear hn0
  simp only[push_cast,seval,reduceEqDiff,hN]
  have _h:=trivial;repeat' (first|(first|((first|apply Ac|apply Ag|apply Af)<;>intro _h)|refine Ab hsp ?_|refine Ab htr ?_|refine Ab v1 ?_|refine Ab v2 ?_|refine Ab v3 ?_)<;>(simp only[push_cast,seval,reduceEqDiff,_h,hN];try (have _g:=_h;simp at _g))|intro _)
  all_goals subst hS
  all_goals (first|(refine Ah ?_;simp[get, *]<;>(intros;omega);done)|(refine Ae ?_;simp[push_cast,get, *];done)|skip)
 ·generalize hS:yG s op=S
  unfold yG at hS
  rw[if_neg hN] at hS
  subst hS
  rw[Bool.not_eq_true] at hN
  refine Ai (vs:=[.i .i64 0,.i .i64 1]) gQ (by simp) (by simp) fun n0 hn0=>?_
  clear hn0
  simp only[push_cast,seval,reduceEqDiff,hN]
  have _h:=trivial;repeat' (first|(first|((first|apply Ac|apply Ag|apply Af)<;>intro _h)|refine Ab hsp ?_|refine Ab htr ?_)<;>(simp only[push_cast,seval,reduceEqDiff,_h,hN];try (have _g:=_h;simp at _g))|intro _)
  all_goals (first|(refine Ah ?_;simp[get, *]<;>(intros;omega);done)|(refine Ae ?_;simp[push_cast,get, *];done)|skip)

end Go.Ir

namespace Go.Ir
open Go.Proofs
variable{P:Program}{W0:World}{nt n:Nat}{Q:Exit→St→Prop}{env:AD}{σ:Ak}
def WM:IC:=oR [m1 16 1,q1 17 242 16,m1 18 17,BB 19 18 6,BB 20 18 19,BG 21 20 5,gT 22 20 (.call 67 [.t 21]),gF 23 18 (.pick (.t 20) (.t 22) (.c (.b false))),pO 24 18 23,m1 4 24] [4]
def eZ:IC:=sQ (oS [m1 7 0,bZ 8 .eql 7 9] [1,8] (cD 8 (oR [m1 9 1,q1 10 62 9,m1 4 10] [4]) .skip)) (oS [m1 12 1,o1 13 (.call 135 [.t 12,.c (.s [61])]),m1 11 13,xT 14 11 0,xT 15 11 1,m1 5 14,m1 6 15] [1,5,6] WM)
def lL:IC:=oS [mC 4 (.b false)] [0,1] eZ
@[push_cast]def Aj1:List R:=[.t 4]
@[push_cast]def AqK:=As WM.eq_1<|As eZ.eq_1<|AL lL.eq_1
theorem RL:Aw Tryz.prog 185 25 lL Aj1=true:=by kernel_rfl
def Uv:IC:=oS [bZ 21 .eql 9 7,m1 18 21] [1,3,4,9,18] (cD 18 .skip (oS [bZ 22 .eql 9 8,m1 18 22] [1,3,4,9,18] (cD 18 .skip (oP [bZ 23 .eql 9 9,m1 18 23] [1,3,4,9,18]))))
def UP:IC:=oP [fA 35 1 3,l1 36 35,bC 37 .eql 36 (.s []),m1 38 37,EP 39 38 1 3,Ew 40 38 39,gF 41 38 (.bin .eql (.t 40) (.c (.s [105,110,116,101,103,101,114]))),pO 42 38 41,m1 43 42,EP 44 43 1 3,Ew 45 43 44,gF 46 43 (.bin .eql (.t 45) (.c (.s [112,101,114,99,101,110,116]))),pO 47 43 46,m1 4 47] [1,3,4]
def W9:IC:=sQ (.ops [fA 29 1 2,l1 30 29,fA 31 1 3,l1 32 31,fA 33 3 2,⟨none,.store (.t 33) (.t 30) 1,none,[.t 31]⟩,fA 34 3 3,sT 34 32 1] [1,3] [[0,1],[2,3],[1,5],[4,5],[1,7],[3,7],[5,7],[6,7]]) UP
def Ur:IC:=sQ (.ops [fA 51 1 2,l1 52 51,fA 53 1 3,l1 54 53,fA 55 3 2,⟨none,.store (.t 55) (.t 52) 1,none,[.t 53]⟩,fA 56 3 3,sT 56 54 1] [1,3] [[0,1],[2,3],[1,5],[4,5],[1,7],[3,7],[5,7],[6,7]]) (oP [fA 57 1 3,l1 58 57,q1 59 62 58,m1 4 59] [1,3,4])
def U2:IC:=sQ (.ops [fA 62 1 2,l1 63 62,fA 64 1 3,l1 65 64,fA 66 3 2,⟨none,.store (.t 66) (.t 63) 1,none,[.t 64]⟩,fA 67 3 3,sT 67 65 1] [1,3] [[0,1],[2,3],[1,5],[4,5],[1,7],[3,7],[5,7],[6,7]]) (oP [fA 68 1 3,l1 69 68,q1 70 184 69,m1 4 70] [1,3,4])
def WF:IC:=oS [bZ 61 .eql 9 5,m1 60 61] [1,3,4,9,60] (cD 60 U2 (oS [bZ 72 .eql 9 10,m1 71 72] [1,3,4,71] (cD 71 .skip (oP [mC 4 (.b false)] [1,3,4]))))
def WN:IC:=oS [bZ 28 .eql 9 3,m1 27 28] [1,3,4,9,27] (cD 27 W9 (sQ (oS [bZ 49 .eql 9 4,m1 48 49] [1,3,4,9,48] (cD 48 .skip (oP [bZ 50 .eql 9 6,m1 48 50] [1,3,4,9,48]))) (cD 48 Ur WF)))
def WY:IC:=sQ (oS [bZ 19 .eql 9 2,m1 18 19] [1,3,4,9,18] (cD 18 .skip (oS [bZ 20 .eql 9 11,m1 18 20] [1,3,4,9,18] (cD 18 .skip Uv)))) (cD 18 (oP [fA 24 1 2,l1 25 24,fA 26 3 2,sT 26 25 1] [1,3,4]) WN)
def qM:IC:=.block 0 (oS [bZ 11 .eql 9 1,m1 10 11] [1,3,4,9,10] (cD 10 (oS [fA 12 1 1,l1 13 12,fA 14 3 1,sT 14 13 1] [1,3] (oP [fA 15 1 1,l1 16 15,bC 17 .neq 16 (.s []),m1 4 17] [1,3,4])) WY))
def WU:IC:=oR [m1 92 4,m1 93 92,F0 94 93 1 1,EQ 95 93 94,F0 96 93 3 1,EQ 97 93 96,gT 98 93 (.bin .eql (.t 95) (.t 97)),pA 99 93 98,m1 100 99,F0 101 100 1 2,EQ 102 100 101,F0 103 100 3 2,EQ 104 100 103,gT 105 100 (.bin .eql (.t 102) (.t 104)),pA 106 100 105,m1 107 106,F0 108 107 1 3,EQ 109 107 108,F0 110 107 3 3,EQ 111 107 110,gT 112 107 (.bin .eql (.t 109) (.t 111)),pA 113 107 112,m1 114 113,F0 115 114 1 4,EQ 116 114 115,gT 117 114 (.lenL (.t 116)),FSz 118 114 .eql 117 0,BG 119 114 118,EP 120 119 1 0,Ew 121 119 120,gF 122 119 (.call 79 [.t 121]),gT 123 114 (.pick (.t 119) (.c (.b true)) (.t 122)),pA 124 114 123,m1 125 124,F0 126 125 1 5,EQ 127 125 126,gT 128 125 (.lenL (.t 127)),FSz 129 125 .eql 128 0,BG 130 125 129,EP 131 130 1 0,Ew 132 130 131,Er 133 130 .eql 132 11,gT 134 125 (.pick (.t 130) (.c (.b true)) (.t 133)),pA 135 125 134,m1 2 135] [2]
def TY:IC:=sQ (oS [fA 73 3 2,l1 74 73,bC 75 .neq 74 (.s []),m1 76 75,EP 77 76 1 0,Ew 78 76 77,Er 79 76 .neq 78 1,BB 80 76 79,F0 81 80 1 0,EQ 82 80 81,FSz 83 80 .neq 82 10,gF 84 76 (.pick (.t 80) (.t 83) (.c (.b false))),pO 85 76 84] [1,3,4,85] (cD 85 (oP [m1 86 4,m1 87 86,F0 88 87 1 2,EQ 89 87 88,gT 90 87 (.call 62 [.t 89]),pA 91 87 90,m1 4 91] [1,3,4]) .skip)) WU
def m4:IC:=oS [fA 5 1 0,l1 6 5,o1 7 (.build [.i .i64 0,.s [],.s [],.s [],.nil,.nil] [(0,1,.t 6)]),o1 3 (.alloc (.agg [.i .i64 0,.s [],.s [],.s [],.nil,.nil])),sT 3 7 6] [1,3] (oS [mC 4 (.b true)] [1,3,4] (sQ (oS [fA 8 1 0,l1 9 8] [1,3,4,9] qM) TY))
def jZ:IC:=oS [bX 1 0,mC 2 (.b false)] [1] m4
@[push_cast]def Amq:List R:=[.t 2]
@[push_cast]def ArC:=As Uv.eq_1<|As UP.eq_1<|As W9.eq_1<|As Ur.eq_1<|As U2.eq_1<|As WF.eq_1<|As WN.eq_1<|As WY.eq_1<|As qM.eq_1<|As WU.eq_1<|As TY.eq_1<|As m4.eq_1<|AL jZ.eq_1
theorem Ed:Aw Tryz.prog 131 136 jZ Amq=true:=by kernel_rfl
end Go.Ir

namespace Go.Ir
open Go.Proofs
variable(W0:World)
def Aaw:Aa->Bool
 | []=>false
 | c::t=>(c.toNat:Int)==61&&DD t
def MF(kind:Int)(s:Aa):Bool:=if kind==9 then Ca s else JN s||Aaw s
theorem P6:DD []=false:=by decide
theorem Aev(kind:Int)(s:Aa)(hs:s.length<=2^30):Am Tryz.prog W0 185 [.i .i64 kind,.s s] [] (.b (MF kind s)) []:=by
 generalize hS:MF kind s=S
 unfold MF at hS
 have h1:=CP W0 s (by unfold A9;omega)
 have h2:=mN W0 s
 have hc:=DU W0 s [61]
 cases s with
 | nil=>
  have hv:=GM W0 [] (by simp)
  refine Ai (vs:=[.b S]) RL (by simp) (by simp) fun n0 hn0=>?_
  clear hn0
  simp only[push_cast,seval,reduceEqDiff]
  have _h:=trivial;repeat' (first|(first|((first|apply Ac|apply Ag|apply Af)<;>intro _h)|refine Ab h1 ?_|refine Ab h2 ?_|refine Ab hc ?_|refine Ab hv ?_)<;>(simp only[push_cast,seval,reduceEqDiff,_h];try (have _g:=_h;simp at _g))|intro _)
  all_goals subst hS
  all_goals (first|(refine Ah ?_;simp[get,Aaw,P6, *]<;>(intros;omega);done)|(refine Ae ?_;simp[push_cast,get,Aaw,P6, *];done)|skip)
 | cons c t=>
  have hp:Lib.hasPrefix (c::t) [61]=((c.toNat:Int)==61):=by
   unfold Lib.hasPrefix
   simp only[List.isPrefixOf,AqV]
   rw[ApH];simp[<-Aue];omega
  have hq:Lib.trimPrefix (c::t) [61]=if((c.toNat:Int)==61)=true then t else c::t:=by
   unfold Lib.trimPrefix
   rw[hp]
   rfl
  rw[hp,hq] at hc
  generalize Ca (c::t)=N at h1 hS
  generalize JN (c::t)=C at h2 hS
  rw[Aaw] at hS
  have hv:=GM W0 t (by simp at hs;omega)
  rcases Ary ((c.toNat:Int)==61) with h6|h6
  all_goals (rw[h6] at hc hS;simp only[if_true,Arn,As1,AcL,if_false] at hc hS)
  ·skip
   refine Ai (vs:=[.b S]) RL (by simp) (by simp) fun n0 hn0=>?_
   clear hn0
   simp only[push_cast,seval,reduceEqDiff]
   have _h:=trivial;repeat' (first|(first|((first|apply Ac|apply Ag|apply Af)<;>intro _h)|refine Ab h1 ?_|refine Ab h2 ?_|refine Ab hc ?_|refine Ab hv ?_)<;>(simp only[push_cast,seval,reduceEqDiff,_h];try (have _g:=_h;simp at _g))|intro _)
   all_goals subst hS
   all_goals (first|(refine Ah ?_;simp[get, *]<;>(intros;omega);done)|(refine Ae ?_;simp[push_cast,get, *];done)|skip)
  ·skip
   refine Ai (vs:=[.b S]) RL (by simp) (by simp) fun n0 hn0=>?_
   clear hn0
   simp only[push_cast,seval,reduceEqDiff]
   have _h:=trivial;repeat' (first|(first|((first|apply Ac|apply Ag|apply Af)<;>intro _h)|refine Ab h1 ?_|refine Ab h2 ?_|refine Ab hc ?_)<;>(simp only[push_cast,seval,reduceEqDiff,_h];try (have _g:=_h;simp at _g))|intro _)
   all_goals subst hS
   all_goals (first|(refine Ah ?_;simp[get, *]<;>(intros;omega);done)|(refine Ae ?_;simp[push_cast,get, *];done)|skip)
def wT(p:Aj):Aa:=if p.kind==1 then p.text else[]
def wN(p:Aj):Aa:=if p.kind==1 then[] else if p.kind==10 then[] else if p.kind==2 then p.name else if p.kind==3||p.kind==4||p.kind==5||p.kind==6 then p.name else[]
def wS(p:Aj):Aa:=if p.kind==1 then[] else if p.kind==10 then[] else if p.kind==2 then[] else if p.kind==3||p.kind==4||p.kind==5||p.kind==6 then p.style else[]
def rL(p:Aj)(c:Bool):Bool:=
 if p.kind==1 then !(p.text==[]) else if p.kind==10 then c else if p.kind==2 then Ca p.name
 else if p.kind==3||p.kind==4||p.kind==5||p.kind==6 then Ca p.name&&(if p.kind==3 then p.style==[]||p.style==[105,110,116,101,103,101,114]||p.style==[112,101,114,99,101,110,116] else if p.kind==5 then Eu p.style else Ca p.style)
 else false
def Oe(p:Aj)(c:Bool):Bool:=rL p c&&((p.cases.length:Int)==0)&&((p.parts.length:Int)==0)&&(p.text==wT p)&&(p.name==wN p)&&(p.style==wS p)
end Go.Ir
section
namespace Go.Ir
open Go.Proofs
variable(W0:World)
theorem Al.frz{W0:World}{nt n n':Nat}{env env':AD}{σ:Ak}{id:Id}{e sz:Nat}{es:List V}(hn:lk σ id=none)(hok:∀y∈es,y.ok=true)
  (henv:∀s,get env' s=get env s\/(get env s=.arr id/\get env' s=.sl es))(hle:n<=n'):Al W0 nt ⟨env,(id,.arr e sz es)::σ,n⟩ ⟨env',σ,n'⟩:=by
 refine Al.weak (fun i=>if i=id then some es else none) (fun i es' h=>?_) (fun s=>?_) (fun i e' h=>?_) hle
 ·split at h
  ·rename_i hi;subst hi;cases h
   exact⟨⟨e,sz,by simp[lk]⟩,hn⟩
  ·cases h
 ·rcases henv s with h|⟨h1,h2⟩
  ·rw[h];exact .refl _
  ·rw[h1,h2]
   refine .arr id es es (by simp) rfl (fun k c c' h1 h2=>?_) (fun k c c' h1 h2=>?_)
   ·rw[h1] at h2;cases h2;exact .refl _
   grind
 ·refine⟨e',Co hn i e' h,.refl _⟩
theorem Al.frzAt{W0:World}{nt n n' s:Nat}{env:AD}{σ:Ak}{id:Id}{e sz:Nat}{es:List V}(hs:get env s=.arr id)(hn:lk σ id=none)(hok:∀y∈es,y.ok=true)(hle:n<=n') :
  Al W0 nt ⟨env,(id,.arr e sz es)::σ,n⟩ ⟨(s,.sl es)::env,σ,n'⟩:=by
 refine Al.frz hn hok (fun t=>?_) hle
 by_cases h:s=t
 ·subst h;exact .inr ⟨hs,by simp[get]⟩
 ·exact .inl (by simp[get,h])
theorem Al.envD{W0:World}{nt n n':Nat}{env env':AD}{σ:Ak}(henv:∀s,get env' s=get env s\/get env' s=.any)(hle:n<=n'):Al W0 nt ⟨env,σ,n⟩ ⟨env',σ,n'⟩:=by
 refine Al.weak (fun _=>none) (fun _ _ h=>by cases h) (fun s=>?_) (fun i e' h=>⟨e',h,.refl _⟩) hle
 rcases henv s with h|h
 ·rw[h];exact .refl _
 ·rw[h];exact .any _
def ApL(k:Int)(n:Aa)(l:List Aa):List Aa:=if decide (k>=2)&&decide (k<=9)&&!l.contains n then l++[n] else l
mutual
def Aj.names:Aj->List Aa->List Aa
 | ⟨k,_,n,_,cs,ps⟩,l=>Wy cs (Oz ps (ApL k n l))
def Oz:List Aj->List Aa->List Aa
 | [],l=>l
 | p::ps,l=>Oz ps (p.names l)
def Wy:List (Aa×List Aj)->List Aa->List Aa
 | [],l=>l
 | (_,ps)::cs,l=>Wy cs (Oz ps l)
end
end Go.Ir
end
section
namespace Go.Ir
open Go.Proofs
variable(W0:World)
def En:Aa:=[111,116,104,101,114]
def NQ(d:Int)(nm t st:Aa)(q c:Int):Bool:=!(decide (d>8)||!Ca nm||!(t==[])||!(st==[])||decide (q>0)||decide (c<1)||decide (c>20))
def SN(d:Int)(nm t st:Aa)(c:Int):Bool:=!(decide (d>8)||!Ca nm||!(t==[])||!(st==[])||decide (c>0))
mutual
def Aj.formedB:Aj->Int->Bool->Bool
 | ⟨k,t,nm,st,cs,ps⟩,d,c=>
  if k==11 then SN d nm t st cs.length&&C6 ps (d+1) c false
  else if Bx k then NQ d nm t st ps.length cs.length&&CJ cs k d c []
  else Oe ⟨k,t,nm,st,cs,ps⟩ c
def C6:List Aj->Int->Bool->Bool->Bool
 | [],_,_,_=>true
 | p::ps,d,c,prev=>!(p.kind==1&&prev)&&(p.formedB d c&&C6 ps d c (p.kind==1))
def CJ:List (Aa×List Aj)->Int->Int->Bool->List Aa->Bool
 | [],_,_,_,keys=>keys.contains En
 | (key,ps)::cs,k,d,c,keys=>!(!MF k key||keys.contains key)&&(C6 ps (d+1) (c||Aeo k) false&&CJ cs k d c (keys++[key]))
end
theorem Aj.formedB_eq(p:Aj)(d:Int)(c:Bool):p.formedB d c=(if p.kind==11 then SN d p.name p.text p.style p.cases.length&&C6 p.parts (d+1) c false else if Bx p.kind then NQ d p.name p.text p.style p.parts.length p.cases.length&&CJ p.cases p.kind d c [] else Oe p c):=by
 cases p;simp only[Aj.formedB]
theorem M6(p:Aj)(ps:List Aj)(d:Int)(c prev:Bool):C6 (p::ps) d c prev=(!(p.kind==1&&prev)&&(p.formedB d c&&C6 ps d c (p.kind==1))):=by simp only[C6]
theorem MJ(x:AQ)(cs:List AQ)(k d:Int)(c:Bool)(keys:List Aa):CJ (x::cs) k d c keys=(!(!MF k x.1||keys.contains x.1)&&(C6 x.2 (d+1) (c||Aeo k) false&&CJ cs k d c (keys++[x.1]))):=by obtain⟨a,b⟩:=x;simp only[CJ]
def MT(done:List Aj):Bool:=match done.getLast? with
 | some q=>q.kind==1
 | none=>false
end Go.Ir
end
namespace Go.Ir
open Go.Proofs
variable(W0:World)
def HB(rs:List CM):Int:=(rs.map fun r=>1+(r.spans.length:Int)).sum
theorem WS(rs:List CM):0<=HB rs:=by
 induction rs with
 | nil=>simp[HB]
 | cons r rs ih=>simp[HB] at *;omega
theorem xH(rs:List CM):HB rs<C8 rs:=by
 induction rs with
 | nil=>simp[HB,C8]
 | cons r rs ih=>simp[HB,C8,CM.wt] at *;omega
theorem Yb(r:CM)(rs:List CM):HB (r::rs)=(1+(r.spans.length:Int))+HB rs:=by simp[HB]
def lZ(d:Int):List (List CM)->Bool
 | []=>true
 | l::c=>!(decide (d+HB l>80))&&lZ (d+HB l) c
def Gm(c:List (List CM)):Bool:=lZ 0 c&&decide ((c.length:Int)<=30)
theorem Aid(c:List (List CM))(hb:CY c<=2^24):Am Tryz.prog W0 53 [.sl (c.map EN)] [] (.b (Gm c)) []:=by
 generalize hS:Gm c=S
 refine Ai (vs:=[.b S]) Alp (by simp) (by simp) fun n0 hn0=>?_
 clear hn0
 simp only[push_cast,seval,reduceEqDiff]
 intros
 have hlen:=HY c
 refine An c.length (Inv:=fun m st=>∃done rest n d,c=done++rest/\m=rest.length/\(lZ d rest&&decide ((c.length:Int)<=30))=S/\0<=d/\d<=80/\st=⟨[(0,.sl (c.map EN)),(3,.i .i64 d),(4,.i .i64 done.length)],[],n⟩) ⟨_,Al.refl,[],c,_,0,rfl,rfl,hS,by omega,by omega,rfl⟩ ?_
 clear hS
 rintro m _ ⟨done,rest,n,d,hz,rfl,hd,hd0,hd1,rfl⟩
 cases rest with
 | nil=>
  subst hd
  simp only[push_cast,seval,reduceEqDiff,hz]
  repeat' (first|(((first|apply Ac|apply Ag|apply Af)<;>intro _h)<;>(simp only[push_cast,seval,reduceEqDiff,_h];try (have _g:=_h;simp at _g)))|intro _)
  all_goals (refine Ah ?_;simp[get,lZ,hz])
 | cons p rest=>
  have hbd:=AN hz
  have hw:=Iu (l:=c) (r:=p) (by rw[hz];simp)
  have hlp:=E9 p
  have hr0:=WS p
  have hr1:=xH p
  rw[lZ] at hd
  simp only[push_cast,seval,reduceEqDiff,hz,Ad p (done:=done) (by omega)]
  intros
  refine An p.length (Inv:=fun m st=>∃cd cr n e,p=cd++cr/\m=cr.length/\e+HB cr=d+HB p/\0<=e/\st=⟨[(0,.sl (c.map EN)),(3,.i .i64 e),(4,.i .i64 done.length),(5,.i .i64 cd.length)],[],n⟩) ⟨_,Al.refl,[],p,_,_,rfl,rfl,rfl,hd0,by rw[hz];rfl⟩ ?_
  rintro m _ ⟨cd,cr,n,e,hcs,rfl,he,he0,rfl⟩
  cases cr with
  | nil=>
   have:e=d+HB p:=by simp[HB] at he⊢;omega
   subst this
   simp only[push_cast,seval,reduceEqDiff,hz,Ad p (done:=done) (by omega),hcs]
   repeat' (first|(((first|apply Ac|apply Ag|apply Af)<;>intro _h)<;>(simp only[push_cast,seval,reduceEqDiff,_h,hz,Ad p (done:=done) (by omega)];try (have _g:=_h;simp at _g)))|intro _)
   all_goals (simp only[Aou] at hcs;subst hcs)
   ·refine Ah ?_
    subst hd
    simp[get, *]
   ·exact⟨_,_,Acq _,Al.refl,done++[p],rest,_,d+HB p,by simp,rfl,by rw[<-hd];simp[*],by omega,by omega,rfl⟩
  | cons r cr=>
   have hcb:=AN hcs
   have hwr:=HV (l:=p) (r:=r) (by simp[hcs])
   rw[CM.wt] at hwr
   rw[Yb] at he
   have hc0:=WS cr
   have e1:IntKind.i64.wrap (1+(r.spans.length:Int))=1+(r.spans.length:Int):=wrap64 (by omega) (by omega)
   have e2:IntKind.i64.wrap (e+(1+(r.spans.length:Int)))=e+(1+(r.spans.length:Int)):=wrap64 (by omega) (by omega)
   simp only[push_cast,seval,reduceEqDiff,hz,hcs,Ad r (done:=cd) (by omega),e1,e2]
   intros
   exact⟨_,_,Acq _,Al.refl,cd++[r],cr,_,e+(1+(r.spans.length:Int)),by simp,rfl,by rw[<-hcs];omega,by omega,rfl⟩
end Go.Ir

namespace Go.Ir
open Go.Proofs
variable{P:Program}{W0:World}{nt n:Nat}{Q:Exit→St→Prop}{env:AD}{σ:Ak}
def Xj:IC:=sQ (oS [bZ 13 .eql 5 5,m1 12 13] [1,5,12] (cD 12 .skip (oP [bZ 14 .eql 5 6,m1 12 14] [1,12]))) (cD 12 (oR [m1 15 1,bZ 16 .eql 15 10,m1 17 16,BB 18 17 1,Er 19 17 .eql 18 100,pO 20 17 19,m1 4 20] [4]) .skip)
def r7:IC:=.block 0 (sQ (oS [bZ 7 .eql 5 1,m1 6 7] [1,5,6] (cD 6 .skip (oP [bZ 8 .eql 5 2,m1 6 8] [1,5,6]))) (cD 6 (oR [o1 9 (.msl false 3 1 [ci 2,ci 3,ci 4,ci 5,ci 6,ci 10,ci 20,ci 25,ci 50,ci 100]),m1 10 1,q2 11 325 9 10,m1 4 11] [4]) Xj))
def mO:IC:=oS [mC 4 (.b false)] [0,1] (sQ (oS [m1 5 0] [1,5] r7) (oR [mC 4 (.b false)] [4]))
@[push_cast]def AiO:List R:=[.t 4]
@[push_cast]def ArQ:=As Xj.eq_1<|As r7.eq_1<|AL mO.eq_1
theorem Ae2:Aw Tryz.prog 300 21 mO AiO=true:=by kernel_rfl
def oH:IC:=oS [mZ 2 0] [0] (sQ (oS [m1 3 0,bZ 4 .eql 3 3,m1 5 4,BB 6 5 0,Er 7 5 .eql 6 4,pO 8 5 7] [8] (cD 8 (oR [mZ 2 6] [2]) .skip)) (oR [mZ 2 100] [2]))
@[push_cast]def AiN:List R:=[.t 2]
@[push_cast]def Aru:=AL oH.eq_1
theorem AdM:Aw Tryz.prog 301 9 oH AiN=true:=by kernel_rfl
def V6:IC:=sQ (.ops [fA 45 4 0,l1 46 45,bZ 47 .lss 46 0,m1 48 47,EP 49 48 4 0,Ew 50 48 49,EP 51 48 4 1,Ew 52 48 51,gF 53 48 (.bin .gtr (.t 50) (.t 52)),pO 54 48 53,m1 55 54,EP 56 55 4 1,Ew 57 55 56,EP 58 55 1 0,Ew 59 55 58,gF 60 55 (.call 301 [.t 59]),gF 61 55 (.bin .gtr (.t 57) (.t 60)),pO 62 55 61] [1,39,40,41,62] [[0,1],[1,2],[2,3],[3,4],[3,5],[4,5],[3,6],[3,7],[6,7],[3,8],[5,8],[7,8],[3,9],[8,9],[9,10],[10,11],[10,12],[11,12],[10,13],[10,14],[13,14],[10,15],[14,15],[10,16],[12,16],[15,16],[10,17],[16,17]]) (cD 62 (oR [mC 2 (.b false)] [2]) .skip)
def Wa:IC:=sQ (.block 1 (oS [iA 43 39 41 337 2,lA 44 43 2,o1 4 (.alloc (.agg [.i .i64 0,.i .i64 0])),sT 4 44 2] [1,4,39,40,41] V6)) (oP [bZ 63 .add 41 1,m1 41 63] [1,39,40,41])
def fS:IC:=sQ (oS [fA 38 1 3,l1 39 38,nL 40 39,mZ 41 0] [1,39,40,41] (.block 0 (.loop (oS [bT 42 .lss 41 40] [1,39,40,41,42] (sQ (cD 42 .skip (.exit 0)) Wa))))) (oR [mC 2 (.b true)] [2])
def bM:IC:=sQ (oS [fA 5 1 0,l1 6 5,bZ 7 .lss 6 1,m1 8 7,EP 9 8 1 0,Ew 10 8 9,Er 11 8 .gtr 10 6,pO 12 8 11,m1 13 12,EP 14 13 1 1,Ew 15 13 14,Er 16 13 .neq 15 0,BB 17 13 16,F0 18 17 1 0,EQ 19 17 18,F0 20 17 1 1,EQ 21 17 20,gT 22 17 (.call 300 [.t 19,.t 21]),gT 23 17 (.not (.t 22)),gF 24 13 (.pick (.t 17) (.t 23) (.c (.b false))),pO 25 13 24,m1 26 25,EP 27 26 1 3,Ew 28 26 27,gF 29 26 (.lenL (.t 28)),Er 30 26 .lss 29 1,pO 31 26 30,m1 32 31,EP 33 32 1 3,Ew 34 32 33,gF 35 32 (.lenL (.t 34)),Er 36 32 .gtr 35 4,pO 37 32 36] [1,37] (cD 37 (oR [mC 2 (.b false)] [2]) .skip)) fS
def ZE:IC:=oS [bX 1 0,mC 2 (.b false)] [1] bM
@[push_cast]def Als:List R:=[.t 2]
@[push_cast]def ArJ:=As V6.eq_1<|As Wa.eq_1<|As fS.eq_1<|As bM.eq_1<|AL ZE.eq_1
theorem Afv:Aw Tryz.prog 265 64 ZE Als=true:=by kernel_rfl
def aV:IC:=oS [bX 1 0,mC 2 (.b false)] [1] (oR [lA 3 1 4,q1 4 265 3,nT 5 4,m1 2 5] [2])
@[push_cast]def AnB:List R:=[.t 2]
@[push_cast]def AqU:=AL aV.eq_1
theorem AgS:Aw Tryz.prog 264 6 aV AnB=true:=by kernel_rfl
def UU:IC:=sQ (oS [m1 12 5,nL 13 12,bZ 14 .eql 13 0,m1 15 14,BB 16 15 5,gF 17 15 (.calls 263 [.t 16,.c (.fn 264 [] [])]),pO 18 15 17] [0,3,5,6,7,8,18] (cD 18 (oR [mC 2 (.b false)] [2]) .skip)) (oP [m1 19 3,m1 20 5,nL 21 20,bT 22 .add 19 21,m1 3 22] [0,3,6,7,8])
def rP:IC:=oS [bT 9 .lss 8 7] [0,3,6,7,8,9] (sQ (cD 9 .skip (.exit 0)) (sQ (.block 1 (oS [iA 10 6 8 172 1,l1 11 10,m1 5 11] [0,3,5,6,7,8] UU)) (oP [bZ 23 .add 8 1,m1 8 23] [0,3,6,7,8])))
def gZ:IC:=sQ (oS [m1 6 0,nL 7 6,mZ 8 0] [0,3,6,7,8] (.block 0 (.loop rP))) (oR [m1 24 0,nL 25 24,bZ 26 .gtr 25 0,m1 27 26,BG 28 27 3,FSz 29 27 .leq 28 6,pA 30 27 29,m1 2 30] [2])
def fU:IC:=oS [mC 2 (.b false)] [0] (oS [mZ 3 0] [0,3] gZ)
@[push_cast]def Aj7:List R:=[.t 2]
@[push_cast]def Asr:=As UU.eq_1<|As rP.eq_1<|As gZ.eq_1<|AL fU.eq_1
theorem Afm:Aw Tryz.prog 206 31 fU Aj7=true:=by kernel_rfl
def qZ:IC:=oR [l1 4 1,fA 5 2 0,l1 6 5,bT 7 .geq 4 6,m1 8 7,EQ 9 8 1,F0 10 8 2 1,EQ 11 8 10,gT 12 8 (.bin .leq (.t 9) (.t 11)),pA 13 8 12,m1 3 13] [3]
def kA:IC:=oS [bX 2 0,mC 3 (.b false)] [1,2] qZ
@[push_cast]def Ai6:List R:=[.t 3]
@[push_cast]def AqQ:=As qZ.eq_1<|AL kA.eq_1
theorem Ahr:Aw Tryz.prog 342 14 kA Ai6=true:=by kernel_rfl
def dT:IC:=oS [bX 3 1,mC 4 (.b false)] [0,3] (oR [m1 5 0,o1 6 (.mkfn 342 [] [.t 3]),o1 7 (.calls 341 [.t 5,.t 6]),m1 4 7] [4])
@[push_cast]def AjI:List R:=[.t 4]
@[push_cast]def Ard:=AL dT.eq_1
theorem Af2:Aw Tryz.prog 328 8 dT AjI=true:=by kernel_rfl
def V5:IC:=sQ (.ops [fA 25 2 3,l1 26 25,m1 27 5,q2 28 328 26 27,fA 29 2 2,l1 30 29,o1 31 (.eqb true (.t 28) (.t 30)),m1 4 31] [4] [[0,1],[1,3],[2,3],[4,5],[3,6],[5,6],[6,7]]) .ret
def kW:IC:=oS [m1 8 1,fA 9 2 0,l1 10 9,q2 11 327 8 10,m1 7 11,xT 12 7 0,xT 13 7 1,m1 5 12,m1 6 13] [2,5,6] (sQ (oS [m1 14 6,bZ 15 .neq 14 0] [2,5,15] (cD 15 (oR [fA 16 2 2,l1 17 16,m1 4 17] [4]) .skip)) (sQ (oS [fA 18 2 1,l1 19 18,bZ 20 .neq 19 0] [2,5,20] (cD 20 (oP [m1 21 5,fA 22 2 1,l1 23 22,bT 24 .rem 21 23,m1 5 24] [2,5]) .skip)) V5))
def kY:IC:=oS [bX 2 0,mC 4 (.b false)] [1,2] kW
@[push_cast]def Alu:List R:=[.t 4]
@[push_cast]def Ash:=As V5.eq_1<|As kW.eq_1<|AL kY.eq_1
theorem AdR:Aw Tryz.prog 305 32 kY Alu=true:=by kernel_rfl
def fQ:IC:=oS [bX 2 0,mC 3 (.b false)] [1,2] (oR [lA 4 2 4,l1 5 1,q2 6 305 4 5,nT 7 6,m1 3 7] [3])
@[push_cast]def Am4:List R:=[.t 3]
@[push_cast]def Asd:=AL fQ.eq_1
theorem AgC:Aw Tryz.prog 304 8 fQ Am4=true:=by kernel_rfl
def ZD:IC:=oS [mC 3 (.b false)] [0,1] (oR [m1 4 0,o1 5 (.mkfn 304 [] [.t 1]),o1 6 (.calls 263 [.t 4,.t 5]),nT 7 6,m1 3 7] [3])
@[push_cast]def AlL:List R:=[.t 3]
@[push_cast]def Arb:=AL ZD.eq_1
theorem AgJ:Aw Tryz.prog 303 8 ZD AlL=true:=by kernel_rfl
def p7:IC:=sQ (oS [m1 6 0,q1 7 206 6,nT 8 7,m1 9 8,Ew 10 9 3,gF 11 9 (.call 67 [.t 10]),gF 12 9 (.not (.t 11)),pO 13 9 12] [0,3,13] (cD 13 (oR [mC 4 (.b false),mZ 5 1] [4,5]) .skip)) (oR [m1 14 0,o1 15 (.mkfn 303 [] [.t 3]),o1 16 (.calls 302 [.t 14,.t 15]),m1 4 16,mZ 5 0] [4,5])
def ZZ:IC:=oS [bX 3 1,mC 4 (.b false),mZ 5 0] [0,3] p7
@[push_cast]def Alv:List R:=[.t 4,.t 5]
@[push_cast]def AqG:=As p7.eq_1<|AL ZZ.eq_1
theorem Ahu:Aw Tryz.prog 267 17 ZZ Alv=true:=by kernel_rfl
def jP:IC:=oR [o1 1 (.build [.s [],.s [],.s [],.s [],.s [],.s []] [(0,1,.c (.s [122,101,114,111])),(1,1,.c (.s [111,110,101])),(2,1,.c (.s [116,119,111])),(3,1,.c (.s [102,101,119])),(4,1,.c (.s [109,97,110,121])),(5,1,.c (.s [111,116,104,101,114]))]),sT 0 1 6] [0]
def fH:IC:=oS [o1 0 (.alloc (.agg [.s [],.s [],.s [],.s [],.s [],.s []]))] [0] jP
@[push_cast]def Ak3:List R:=[.c 0 6 true]
@[push_cast]def Ark:=As jP.eq_1<|AL fH.eq_1
theorem Ae4:Aw Tryz.prog 262 2 fH Ak3=true:=by kernel_rfl
def eM:IC:=oS [o1 4 (.call 262 []),o1 3 (.alloc (.agg [.s [],.s [],.s [],.s [],.s [],.s []])),sT 3 4 6] [0,3] (oR [o1 5 (.frz (.t 3) 6),m1 6 0,q2 7 241 5 6,m1 2 7] [2])
def cH:IC:=oS [mC 2 (.b false)] [0] eM
@[push_cast]def Amy:List R:=[.t 2]
@[push_cast]def Asj:=As eM.eq_1<|AL cH.eq_1
theorem AeK:Aw Tryz.prog 205 8 cH Amy=true:=by kernel_rfl
def fJ:IC:=oS [bX 2 0,mC 3 (.b false)] [1,2] (oR [fA 4 2 0,l1 5 4,fA 6 1 0,l1 7 6,bT 8 .eql 5 7,m1 3 8] [3])
@[push_cast]def Amn:List R:=[.t 3]
@[push_cast]def Arc:=AL fJ.eq_1
theorem Adn:Aw Tryz.prog 208 9 fJ Amn=true:=by kernel_rfl
def WE:IC:=oS [fA 12 4 0,l1 13 12,q1 14 205 13,nT 15 14,m1 16 15,EP 17 16 4 0,Ew 18 16 17,gF 19 16 (.bin .eql (.t 18) (.c (.s [111,116,104,101,114]))),pO 20 16 19,m1 21 20,EP 22 21 4 1,Ew 23 21 22,gF 24 21 (.call 206 [.t 23]),gF 25 21 (.not (.t 24)),pO 26 21 25,m1 27 26,BB 28 27 0,BB 29 27 3,gF 30 27 (.slL (.t 28) none (some (.t 29)) 2),gF 31 27 (.mkfn 208 [] [.t 4]),gF 32 27 (.calls 207 [.t 30,.t 31]),pO 33 27 32] [0,5,6,7,33] (cD 33 (oR [mC 2 (.b false)] [2]) .skip)
def Wv:IC:=sQ (.block 1 (oS [m1 9 7,iA 10 5 7 139 2,lA 11 10 2,o1 4 (.alloc (.agg [.s [],.nil])),m1 3 9,sT 4 11 2] [0,3,4,5,6,7] WE)) (oP [bZ 34 .add 7 1,m1 7 34] [0,5,6,7])
def sR:IC:=sQ (oS [m1 5 0,nL 6 5,mZ 7 0] [0,5,6,7] (.block 0 (.loop (oS [bT 8 .lss 7 6] [0,5,6,7,8] (sQ (cD 8 .skip (.exit 0)) Wv))))) (oR [mC 2 (.b true)] [2])
def kO:IC:=oS [mC 2 (.b false)] [0] sR
@[push_cast]def AlP:List R:=[.t 2]
@[push_cast]def Arm:=As WE.eq_1<|As Wv.eq_1<|As sR.eq_1<|AL kO.eq_1
theorem AdZ:Aw Tryz.prog 152 35 kO AlP=true:=by kernel_rfl
def Ui:IC:=cD 42 (oR [m1 45 12,mC 4 (.s []),m1 5 45] [4,5]) (oS [m1 47 11,m1 46 47] [1,10,29,30,31,46] (cD 46 (oR [fA 48 10 0,l1 49 48,m1 4 49,mZ 5 0] [4,5]) .skip))
def VU:IC:=oS [fA 36 10 1,l1 37 36,m1 38 1,q2 39 267 37 38,m1 35 39,xT 40 35 0,xT 41 35 1,m1 11 40,m1 12 41] [1,10,11,12,29,30,31] (.block 2 (oS [m1 43 12,bZ 44 .neq 43 0,m1 42 44] [1,10,11,12,29,30,31,42] Ui))
def U9:IC:=sQ (.block 1 (oS [iA 33 29 31 139 2,lA 34 33 2,o1 10 (.alloc (.agg [.s [],.nil])),sT 10 34 2] [1,10,29,30,31] VU)) (oP [bZ 50 .add 31 1,m1 31 50] [1,29,30,31])
def Xb:IC:=sQ (oS [m1 29 0,nL 30 29,mZ 31 0] [1,29,30,31] (.block 0 (.loop (oS [bT 32 .lss 31 30] [1,29,30,31,32] (sQ (cD 32 .skip (.exit 0)) U9))))) (oR [mC 4 (.s [111,116,104,101,114]),mZ 5 0] [4,5])
def WV:IC:=sQ (oS [m1 22 6,m1 23 1,q2 24 267 22 23,m1 21 24,xT 25 21 0,xT 26 21 1,m1 7 25,m1 8 26] [0,1,8] (oS [m1 27 8,bZ 28 .neq 27 0] [0,1,28] (cD 28 (oR [mC 4 (.s []),mZ 5 1] [4,5]) .skip))) Xb
def jG:IC:=oS [o1 16 (.build [.i .i64 0,.i .i64 0] []),o1 17 (.msl false 337 2 [.t 16]),o1 18 (.build [.i .i64 0,.i .i64 0,.b false,.nil] [(0,1,ci 2),(2,1,.c (.b true)),(3,1,.t 17)]),o1 19 (.msl false 175 4 [.t 18]),o1 20 (.msl false 172 1 [.t 19]),m1 6 20] [0,1,6] WV
def nZ:IC:=oS [mC 4 (.s []),mZ 5 0] [0,1] (sQ (oS [m1 13 0,q1 14 152 13,nT 15 14] [0,1,15] (cD 15 (oR [mC 4 (.s []),mZ 5 1] [4,5]) .skip)) jG)
@[push_cast]def Anc:List R:=[.t 4,.t 5]
@[push_cast]def Asn:=As Ui.eq_1<|As VU.eq_1<|As U9.eq_1<|As Xb.eq_1<|As WV.eq_1<|As jG.eq_1<|AL nZ.eq_1
theorem S3:Aw Tryz.prog 210 51 nZ Anc=true:=by kernel_rfl
end Go.Ir

namespace Go.Ir
open Go.Proofs
variable(W0:World)
def Wk:List Int:=[2,3,4,5,6,10,20,25,50,100]
theorem jH(l:List Int)(v:Int):decide (BQ (fun x=>v==x) l>=0)=l.contains v:=by
 rw[Gd,List.contains_eq_any_beq]
theorem Ak9:Aw Tryz.prog 338 19 (Qo 3) xQ=true:=by kernel_rfl
theorem An7:Aw Tryz.prog 325 9 (Ww 338) AeF=true:=by kernel_rfl
theorem Rm(l:List Int)(v:Int)(hl:l.length<2^62):Am Tryz.prog W0 325 [.sl (l.map (V.i .i64)),.i .i64 v] [] (.b (l.contains v)) []:=by
 rw[<-jH]
 exact HG W0 An7 _ _ _ (Tz W0 Ak9 l v hl)
def U6(op mod:Int):Bool:=if op==1||op==2 then Wk.contains mod else if op==5||op==6 then mod==10||mod==100 else false
theorem Qe(op mod:Int):Am Tryz.prog W0 300 [.i .i64 op,.i .i64 mod] [] (.b (U6 op mod)) []:=by
 have hc:=Rm W0 Wk mod (by decide)
 unfold Wk at hc
 simp only[Ait,AkV] at hc
 generalize hS:U6 op mod=S
 unfold U6 Wk at hS
 refine Ai (vs:=[.b S]) Ae2 (by simp) (by simp) fun n0 hn0=>?_
 clear hn0
 simp only[push_cast,seval,reduceEqDiff]
 have _h:=trivial;repeat' (first|(first|((first|apply Ac|apply Ag|apply Af)<;>intro _h)|refine Ab hc ?_)<;>(simp only[push_cast,seval,reduceEqDiff,_h];try (have _g:=_h;simp at _g))|intro _)
 all_goals subst hS
 all_goals (first|(refine Ah ?_;simp[get, *]<;>(intros;omega);done)|(refine Ae ?_;simp[push_cast,get, *];done)|skip)
def uV(op:Int):Int:=if op==3||op==4 then 6 else 100
theorem RU(op:Int):Am Tryz.prog W0 301 [.i .i64 op] [] (.i .i64 (uV op)) []:=by
 generalize hS:uV op=S
 unfold uV at hS
 refine Ai (vs:=[.i .i64 S]) AdM (by simp) (by simp) fun n0 hn0=>?_
 clear hn0
 simp only[push_cast,seval,reduceEqDiff]
 repeat' (first|(((first|apply Ac|apply Ag|apply Af)<;>intro _h)<;>(simp only[push_cast,seval,reduceEqDiff,_h];try (have _g:=_h;simp at _g)))|intro _)
 all_goals subst hS
 all_goals (first|(refine Ah ?_;simp[get, *]<;>(intros;omega);done)|(refine Ae ?_;simp[push_cast,get, *];done)|skip)
def Xf(op:Int)(s:FT):Bool:=!(decide (s.lo<0)||decide (s.lo>s.hi)||decide (s.hi>uV op))
def Fm(r:CM):Bool:=!(decide (r.op<1)||decide (r.op>6)||(r.mod !=0&&!U6 r.op r.mod)||decide ((r.spans.length:Int)<1)||decide ((r.spans.length:Int)>4))&&r.spans.all (Xf r.op)
theorem bO(r:CM)(hb:r.spans.length<=2^30):Am Tryz.prog W0 265 [r.enc] [] (.b (Fm r)) []:=by
 generalize hS:Fm r=S
 unfold Fm at hS
 rw[CM.enc_eq]
 refine Ai (vs:=[.b S]) Afv (by simp) (by simp) fun n0 hn0=>?_
 clear hn0
 simp only[push_cast,seval,reduceEqDiff]
 have _h:=trivial;repeat' (first|(first|((first|apply Ac|apply Ag|apply Af)<;>intro _h)|refine Ab (Qe W0 _ _) ?_)<;>(simp only[push_cast,seval,reduceEqDiff,_h];try (have _g:=_h;simp at _g))|intro _)
 all_goals (first|(refine Ah ?_;subst hS;simp[get, *];done)|skip)
 all_goals
  have hd:r.spans.all (Xf r.op)=S:=by subst hS;simp[*]
  clear hS
  refine An r.spans.length (Inv:=fun m st=>∃done rest n,r.spans=done++rest/\m=rest.length/\rest.all (Xf r.op)=S/\st=⟨[(1,.ref (n0,1) 0),(39,.sl (r.spans.map FT.enc)),(40,.i .i64 r.spans.length),(41,.i .i64 done.length)],[((n0,1),.box r.enc)],n⟩) ⟨_,Al.refl,[],_,_,rfl,rfl,hd,rfl⟩ ?_
  clear hd
  rintro m _ ⟨done,rest,n,hz,rfl,hd,rfl⟩
  cases rest with
  | nil=>
   simp only[push_cast,seval,reduceEqDiff,hz]
   repeat' (first|(((first|apply Ac|apply Ag|apply Af)<;>intro _h)<;>(simp only[push_cast,seval,reduceEqDiff,_h];try (have _g:=_h;simp at _g)))|intro _)
   all_goals (first|(refine Ah ?_;simp[get,<-hd]<;>(intros;omega);done)|(refine Ae ?_;simp[push_cast,get,<-hd];done)|skip)
  | cons s rest=>
   have hbd:=AN hz
   rw[At3,Xf] at hd
   simp only[push_cast,seval,reduceEqDiff,hz,Ad s (done:=done) (by omega)]
   have _h:=trivial;repeat' (first|(first|((first|apply Ac|apply Ag|apply Af)<;>intro _h)|refine Ab (RU W0 r.op) ?_)<;>(simp only[push_cast,seval,reduceEqDiff,_h,hz,Ad s (done:=done) (by omega)];try (have _g:=_h;simp at _g))|intro _)
   all_goals (first|(exact⟨_,_,Acq _,Al.drop1 (by simp[lk]) (AbG _),done++[s],rest,_,by simp,rfl,by rw[<-hd];simp[*],rfl⟩)|skip)
   all_goals subst hd
   all_goals (first|(refine Ah ?_;simp[get, *]<;>(intros;omega);done)|(refine Ae ?_;simp[push_cast,get, *];done)|skip)
theorem bA(r:CM)(hb:r.spans.length<=2^30):Am Tryz.prog W0 264 [r.enc] [] (.b (!Fm r)) []:=by
 have h:=bO W0 r hb
 rw[CM.enc_eq] at *
 refine Ai (vs:=[.b (!Fm r)]) AgS (by simp) (by simp) fun n0 hn0=>?_
 clear hn0
 simp only[push_cast,seval,reduceEqDiff]
 have _h:=trivial;repeat' (first|(first|((first|apply Ac|apply Ag|apply Af)<;>intro _h)|refine Ab h ?_)<;>(simp only[push_cast,seval,reduceEqDiff,_h];try (have _g:=_h;simp at _g))|intro _)
 all_goals (first|(refine Ah ?_;simp[get]<;>(intros;omega);done)|(refine Ae ?_;simp[push_cast,get];done)|skip)
theorem Ajf:Aw Tryz.prog 299 19 (L9 175 4 true) Yw=true:=by kernel_rfl
theorem Alj:Aw Tryz.prog 263 9 (Nx 299) jY=true:=by kernel_rfl
theorem lB(l:List CM)(p:CM->Bool)(g:FuncId)(caps:List V)(σ:Ak)(hg:∀r∈l,Am Tryz.prog W0 g ([r.enc]++caps) σ (.b (p r)) σ)(hl:l.length<2^62) :
  Am Tryz.prog W0 263 [.sl (l.map CM.enc),.fn g [] caps] σ (.b (l.any p)) σ:=by
 rw[<-Gd]
 exact CD W0 Alj _ _ _ _ (CK W0 Ajf CM.enc l p g [] caps σ (fun x _=>Qzz rfl) (fun r hr=>hg r hr) hl)
def KV(c:List (List CM)):Int:=(c.map fun l=>(l.length:Int)).sum
theorem MM(l:List CM)(c:List (List CM)):KV (l::c)=l.length+KV c:=by simp[KV]
def Wj(l:List CM):Bool:=!((l.length:Int)==0||l.any fun r=>!Fm r)
def HF(c:List (List CM)):Bool:=c.all Wj&&(decide ((c.length:Int)>0)&&decide (KV c<=6))
theorem WO(c:List (List CM)):0<=KV c/\KV c<=CY c:=by
 induction c with
 | nil=>simp[KV,CY]
 | cons l c ih=>have:=E9 l;rw[MM,CY];omega
theorem UW(c:List (List CM))(hb:CY c<=2^30):Am Tryz.prog W0 206 [.sl (c.map EN)] [] (.b (HF c)) []:=by
 generalize hS:HF c=S
 unfold HF at hS
 have hlen:=HY c
 have hsw:=WO c
 refine Ai (vs:=[.b S]) Afm (by simp) (by simp) fun n0 hn0=>?_
 clear hn0
 simp only[push_cast,seval,reduceEqDiff]
 intros
 refine An c.length (Inv:=fun m st=>∃done rest n d,c=done++rest/\m=rest.length/\(rest.all Wj&&(decide ((c.length:Int)>0)&&decide (d+KV rest<=6)))=S/\0<=d/\d+KV rest=KV c/\st=⟨[(0,.sl (c.map EN)),(3,.i .i64 d),(6,.sl (c.map EN)),(7,.i .i64 c.length),(8,.i .i64 done.length)],[],n⟩) ⟨_,Al.refl,[],_,_,0,rfl,rfl,by rw[Int.zero_add];exact hS,by omega,by omega,rfl⟩ ?_
 clear hS
 rintro m _ ⟨done,rest,n,d,hz,rfl,hd,hd0,hds,rfl⟩
 cases rest with
 | nil=>
  rw[show KV []=0 from rfl,Int.add_zero] at hd
  simp only[push_cast,seval,reduceEqDiff,hz]
  rw[Aou] at hz
  repeat' (first|(((first|apply Ac|apply Ag|apply Af)<;>intro _h)<;>(simp only[push_cast,seval,reduceEqDiff,_h];try (have _g:=_h;simp at _g)))|intro _)
  all_goals subst hd
  all_goals subst hz
  all_goals (first|(refine Ah ?_;simp[get, *]<;>(intros;omega);done)|(refine Ae ?_;simp[push_cast,get, *];done)|skip)
 | cons l rest=>
  have hbd:=AN hz
  have hw:=Iu (l:=c) (r:=l) (by rw[hz];simp)
  have hll:=E9 l
  rw[At3] at hd
  rw[MM] at hd hds
  have hsr:=WO rest
  have e1:IntKind.i64.wrap (d+(l.length:Int))=d+(l.length:Int):=wrap64 (by omega) (by omega)
  have ha:=lB W0 l (fun r=>!Fm r) 264 [] [] (fun r hr=>bA W0 r (by have:=HV hr;rw[CM.wt] at this;omega)) (by omega)
  obtain⟨A,hA⟩:∃A,(l.any fun r=>!Fm r)=A:=⟨_,rfl⟩
  have hlB:Wj l=!((l.length:Int)==0||A):=by unfold Wj;rw[hA]
  rw[hA] at ha
  rw[hlB] at hd
  clear hA hlB
  simp only[push_cast,seval,reduceEqDiff,hz,Ad l (done:=done) (by omega),e1]
  repeat' (first|(((first|apply Ac|apply Ag|apply Af)<;>intro _h)<;>(simp only[push_cast,seval,reduceEqDiff,_h,hz,Ad l (done:=done) (by omega),e1];try (have _g:=_h;simp at _g)))|intro _)
  all_goals (try (refine jQ ha ?_;simp only[push_cast,seval,reduceEqDiff]))
  repeat' (first|(((first|apply Ac|apply Ag|apply Af)<;>intro _h)<;>(simp only[push_cast,seval,reduceEqDiff,_h,hz,Ad l (done:=done) (by omega),e1];try (have _g:=_h;simp at _g)))|intro _)
  all_goals (first|(exact⟨_,_,Acq _,Al.refl,done++[l],rest,_,_,by simp,rfl,by grind,by omega,by rw[<-hz];omega,rfl⟩)|skip)
  all_goals subst hd
  all_goals (first|(refine Ah ?_;simp[get, *]<;>(intros;omega);done)|(refine Ae ?_;simp[push_cast,get, *];done)|skip)
def inB(l:List FT)(n:Int):Bool:=l.any fun s=>decide (n>=s.lo)&&decide (n<=s.hi)
theorem Adw:Aw Tryz.prog 350 19 (L9 337 2 true) Yw=true:=by kernel_rfl
theorem Agi:Aw Tryz.prog 341 9 (Nx 350) jY=true:=by kernel_rfl
theorem AlJ(s:FT)(n:Int)(a:Nat):Am Tryz.prog W0 342 [s.enc,.ref (a,3) 0] [((a,3),.box (.i .i64 n))] (.b (decide (n>=s.lo)&&decide (n<=s.hi))) [((a,3),.box (.i .i64 n))]:=by
 rw[FT.enc_eq]
 refine Ai (vs:=[.b (decide (n>=s.lo)&&decide (n<=s.hi))]) Ahr (by simp) (fun _ h=>h) fun n0 hn0=>?_
 clear hn0
 simp only[push_cast,seval,reduceEqDiff]
 repeat' (first|(((first|apply Ac|apply Ag|apply Af)<;>intro _h)<;>(simp only[push_cast,seval,reduceEqDiff,_h];try (have _g:=_h;simp at _g)))|intro _)
 all_goals (refine AA ?_ (Co (by simp[lk]));simp[get, *])
theorem AjU(l:List FT)(n:Int)(hl:l.length<2^62):Am Tryz.prog W0 328 [.sl (l.map FT.enc),.i .i64 n] [] (.b (inB l n)) []:=by
 unfold inB
 refine Ai (vs:=[.b (l.any fun s=>decide (n>=s.lo)&&decide (n<=s.hi))]) Af2 (by simp) (by simp) fun n0 hn0=>?_
 clear hn0
 simp only[push_cast,seval,reduceEqDiff]
 intro k1
 have hc:Am Tryz.prog W0 341 [.sl (l.map FT.enc),.fn 342 [] [.ref (n0,3) 0]] [((n0,3),.box (.i .i64 n))] (.b (l.any fun s=>decide (n>=s.lo)&&decide (n<=s.hi))) [((n0,3),.box (.i .i64 n))]:=by
  rw[<-Gd]
  exact CD W0 Agi _ _ _ _ (CK W0 Adw FT.enc l _ _ [] _ _ (fun x _=>Qzz rfl) (fun s _=>AlJ W0 s n n0) hl)
 refine BF hc (fun _ _ h=>h) ?_
 rw[CB]
 simp only[push_cast,seval,reduceEqDiff]
 repeat' (first|(((first|apply Ac|apply Ag|apply Af)<;>intro _h)<;>(simp only[push_cast,seval,reduceEqDiff,_h];try (have _g:=_h;simp at _g)))|intro _)
 all_goals (first|(refine Ah ?_;simp[get]<;>(intros;omega);done)|(refine Ae ?_;simp[push_cast,get];done)|skip)
def Gr(r:CM)(s:Aa):Bool:=
 if(yG s r.op).2 !=0 then r.neg else inB r.spans (if r.mod !=0 then(yG s r.op).1.tmod r.mod else(yG s r.op).1) !=r.neg
theorem wB(r:CM)(s:Aa)(hs:s.length<=2^30)(hl:r.spans.length<2^62):Am Tryz.prog W0 305 [r.enc,.s s] [] (.b (Gr r s)) []:=by
 generalize hS:Gr r s=S
 unfold Gr at hS
 rw[CM.enc_eq]
 refine Ai (vs:=[.b S]) AdR (by simp) (by simp) fun n0 hn0=>?_
 clear hn0
 simp only[push_cast,seval,reduceEqDiff]
 have _h:=trivial;repeat' (first|(first|((first|apply Ac|apply Ag|apply Af)<;>intro _h)|refine Ab (AlZ W0 s r.op (by omega)) ?_|refine Ab (AjU W0 r.spans _ hl) ?_)<;>(simp only[push_cast,seval,reduceEqDiff,_h];try (have _g:=_h;simp at _g))|intro _)
 all_goals (try (simp only[push_cast,seval,reduceEqDiff,ne_eq,_g,not_false_eq_true]))
 have _h:=trivial;repeat' (first|(first|((first|apply Ac|apply Ag|apply Af)<;>intro _h)|refine Ab (AjU W0 r.spans _ hl) ?_)<;>(simp only[push_cast,seval,reduceEqDiff,_h];try (have _g:=_h;simp at _g))|intro _)
 all_goals subst hS
 all_goals (refine Ah ?_;simp[get, *]<;>simp[bne])
theorem YO(r:CM)(s:Aa)(a:Nat)(hs:s.length<=2^30)(hl:r.spans.length<2^62):Am Tryz.prog W0 304 [r.enc,.ref (a,3) 0] [((a,3),.box (.s s))] (.b (!Gr r s)) [((a,3),.box (.s s))]:=by
 have h:=wB W0 r s hs hl
 rw[CM.enc_eq] at *
 refine Ai (vs:=[.b (!Gr r s)]) AgC (by simp) (fun _ h=>h) fun n0 hn0=>?_
 clear hn0
 simp only[push_cast,seval,reduceEqDiff]
 have _h:=trivial;repeat' (first|(first|((first|apply Ac|apply Ag|apply Af)<;>intro _h)|refine Ab h ?_)<;>(simp only[push_cast,seval,reduceEqDiff,_h];try (have _g:=_h;simp at _g))|intro _)
 all_goals (refine AA ?_ (Co (by simp[lk]));simp[get])
theorem qY(l:List CM)(s:Aa)(a:Nat)(hs:s.length<=2^30)(hl:C8 l<=2^30):Am Tryz.prog W0 303 [EN l,.ref (a,3) 0] [((a,3),.box (.s s))] (.b (!l.any fun r=>!Gr r s)) [((a,3),.box (.s s))]:=by
 have hlw:=E9 l
 have h:=lB W0 l (fun r=>!Gr r s) 304 [.ref (a,3) 0] [((a,3),.box (.s s))] (fun r hr=>YO W0 r s a hs (by have:=HV hr;rw[CM.wt] at this;omega)) (by omega)
 rw[PF]
 generalize(l.any fun r=>!Gr r s)=A at h
 refine Ai (vs:=[.b (!A)]) AgJ (by simp) (fun _ h=>h) fun n0 hn0=>?_
 clear hn0
 simp only[push_cast,seval,reduceEqDiff]
 repeat' (first|(((first|apply Ac|apply Ag|apply Af)<;>intro _h)<;>(simp only[push_cast,seval,reduceEqDiff,_h];try (have _g:=_h;simp at _g)))|intro _)
 refine BF h (fun _ _ h=>h) ?_
 rw[CB]
 simp only[push_cast,seval,reduceEqDiff]
 repeat' (first|(((first|apply Ac|apply Ag|apply Af)<;>intro _h)<;>(simp only[push_cast,seval,reduceEqDiff,_h];try (have _g:=_h;simp at _g)))|intro _)
 all_goals (refine AA ?_ (fun _ _ h=>h);simp[get])
def QG(c:List (List CM))(s:Aa):Bool:=c.any fun l=>!l.any fun r=>!Gr r s
theorem Ag2:Aw Tryz.prog 326 19 (L9 172 1 false) Yw=true:=by kernel_rfl
theorem Agq:Aw Tryz.prog 302 9 (Nx 326) jY=true:=by kernel_rfl
theorem Wn(c:List (List CM))(s:Aa)(hs:s.length<=2^30)(hb:CY c<=2^30):Am Tryz.prog W0 267 [.sl (c.map EN),.s s] [] (.tup [.b (HF c&&DD s&&QG c s),.i .i64 (bif HF c&&DD s then 0 else 1)]) []:=by
 have hlc:=HY c
 generalize hA:QG c s=A
 refine Ai (vs:=[.b (HF c&&DD s&&A),.i .i64 (bif HF c&&DD s then 0 else 1)]) Ahu (by simp) (by simp) fun n0 hn0=>?_
 clear hn0
 simp only[push_cast,seval,reduceEqDiff]
 intro k1
 have hc:Am Tryz.prog W0 302 [.sl (c.map EN),.fn 303 [] [.ref (n0,3) 0]] [((n0,3),.box (.s s))] (.b A) [((n0,3),.box (.s s))]:=by
  rw[<-hA,QG,<-Gd]
  exact CD W0 Agq _ _ _ _ (CK W0 Ag2 EN c _ _ [] _ _ (fun x _=>nK rfl) (fun l hl=>qY W0 l s n0 hs (Aiw (Iu hl) hb)) (by omega))
 have _h:=trivial;repeat' (first|(first|((first|apply Ac|apply Ag|apply Af)<;>intro _h)|refine Ab (UW W0 c hb) ?_|refine Ab (GM W0 s (by omega)) ?_)<;>(simp only[push_cast,seval,reduceEqDiff,_h];try (have _g:=_h;simp at _g))|intro _)
 all_goals (try (refine BF hc (fun _ _ h=>h) ?_;rw[CB];simp only[push_cast,seval,reduceEqDiff]))
 repeat' (first|(((first|apply Ac|apply Ag|apply Af)<;>intro _h)<;>(simp only[push_cast,seval,reduceEqDiff,_h];try (have _g:=_h;simp at _g)))|intro _)
 all_goals (first|(refine Ah ?_;simp[get, *]<;>(intros;omega);done)|(refine Ae ?_;simp[push_cast,get, *];done)|skip)
def LD:Aa:=[111,116,104,101,114]
def pJ:List Aa:=[[122,101,114,111],[111,110,101],[116,119,111],[102,101,119],[109,97,110,121]]
def Rh:List Aa:=[[122,101,114,111],[111,110,101],[116,119,111],[102,101,119],[109,97,110,121],[111,116,104,101,114]]
theorem yV:Am Tryz.prog W0 262 [] [] (.agg (Rh.map V.s)) []:=by
 unfold Rh
 simp only[Ait,AkV]
 refine Ai (vs:=[.agg [.s [122,101,114,111],.s [111,110,101],.s [116,119,111],.s [102,101,119],.s [109,97,110,121],.s [111,116,104,101,114]]]) Ae4 (by simp) (by simp) fun n0 hn0=>?_
 clear hn0
 simp only[push_cast,seval,reduceEqDiff]
 repeat' (first|(((first|apply Ac|apply Ag|apply Af)<;>intro _h)<;>(simp only[push_cast,seval,reduceEqDiff,_h];try (have _g:=_h;simp at _g)))|intro _)
 all_goals (first|(refine Ah ?_;simp[get]<;>(intros;omega);done)|(refine Ae ?_;simp[push_cast,get];done)|skip)
theorem AcC:Aw Tryz.prog 120 19 (Qo 9) xQ=true:=by kernel_rfl
theorem Ans:Aw Tryz.prog 241 9 (Ww 120) AeF=true:=by kernel_rfl
theorem Kf(l:List Aa)(v:Aa)(hl:l.length<2^62):Am Tryz.prog W0 241 [.sl (l.map V.s),.s v] [] (.b (l.contains v)) []:=by
 rw[List.contains_eq_any_beq,<-Gd]
 exact HG W0 Ans _ _ _ (Le W0 AcC l v hl)
theorem wR(s:Aa):Am Tryz.prog W0 205 [.s s] [] (.b (Rh.contains s)) []:=by
 have ho:=yV W0
 have hc:=Kf W0 Rh s (by decide)
 generalize hK:Rh.contains s=K at hc
 unfold Rh at ho hc
 simp only[Ait,AkV] at ho hc
 refine Ai (vs:=[.b K]) AeK (by simp) (by simp) fun n0 hn0=>?_
 clear hn0
 simp only[push_cast,seval,reduceEqDiff]
 have _h:=trivial;repeat' (first|(first|((first|apply Ac|apply Ag|apply Af)<;>intro _h)|refine Ab ho ?_)<;>(simp only[push_cast,seval,reduceEqDiff,_h];try (have _g:=_h;simp at _g))|intro _)
 have _h:=trivial;repeat' (first|(first|((first|apply Ac|apply Ag|apply Af)<;>intro _h)|refine Ab hc ?_)<;>(simp only[push_cast,seval,reduceEqDiff,_h];try (have _g:=_h;simp at _g))|intro _)
 all_goals (first|(refine Ah ?_;simp[get]<;>(intros;omega);done)|(refine Ae ?_;simp[push_cast,get];done)|skip)
def AeO(s:Aa):Bool:=pJ.contains s
theorem vP(s:Aa):(!Rh.contains s||s==LD)=!AeO s:=by
 unfold AeO Rh pJ LD
 rw[ApH]
 simp
 grind
def CZ(done:List AH):List AH->Bool
 | []=>true
 | r::rest=>!(!AeO r.cls||!HF r.cond||done.any fun x=>x.cls==r.cls)&&CZ (done++[r]) rest
theorem Adr:Aw Tryz.prog 266 19 (L9 139 2 true) Yw=true:=by kernel_rfl
theorem Ag5:Aw Tryz.prog 207 9 (Nx 266) jY=true:=by kernel_rfl
theorem Zk(x r:AH)(a:Nat):Am Tryz.prog W0 208 [x.enc,.ref (a,4) 0] [((a,4),.box r.enc)] (.b (x.cls==r.cls)) [((a,4),.box r.enc)]:=by
 rw[AH.enc_eq,AH.enc_eq]
 refine Ai (vs:=[.b (x.cls==r.cls)]) Adn (by simp) (fun _ h=>h) fun n0 hn0=>?_
 clear hn0
 simp only[push_cast,seval,reduceEqDiff]
 repeat' (first|(((first|apply Ac|apply Ag|apply Af)<;>intro _h)<;>(simp only[push_cast,seval,reduceEqDiff,_h];try (have _g:=_h;simp at _g)))|intro _)
 all_goals (refine AA ?_ (Co (by simp[lk]));simp[get])
theorem IM(l:List AH)(hb:A7 l<=2^30):Am Tryz.prog W0 152 [.sl (l.map AH.enc)] [] (.b (CZ [] l)) []:=by
 generalize hS:CZ [] l=S
 have hlen:=Fg l
 refine Ai (vs:=[.b S]) AdZ (by simp) (by simp) fun n0 hn0=>?_
 clear hn0
 simp only[push_cast,seval,reduceEqDiff]
 intros
 refine An l.length (Inv:=fun m st=>∃done rest n,l=done++rest/\m=rest.length/\CZ done rest=S/\st=⟨[(0,.sl (l.map AH.enc)),(5,.sl (l.map AH.enc)),(6,.i .i64 l.length),(7,.i .i64 done.length)],[],n⟩) ⟨_,Al.refl,[],_,_,rfl,rfl,hS,rfl⟩ ?_
 clear hS
 rintro m _ ⟨done,rest,n,hz,rfl,hd,rfl⟩
 cases rest with
 | nil=>
  rw[CZ] at hd
  simp only[push_cast,seval,reduceEqDiff,hz]
  repeat' (first|(((first|apply Ac|apply Ag|apply Af)<;>intro _h)<;>(simp only[push_cast,seval,reduceEqDiff,_h];try (have _g:=_h;simp at _g)))|intro _)
  subst hd
  all_goals (first|(refine Ah ?_;simp[get]<;>(intros;omega);done)|(refine Ae ?_;simp[push_cast,get];done)|skip)
 | cons r rest=>
  have hbd:=AN hz
  have hw:=Fj (l:=l) (r:=r) (by rw[hz];simp)
  rw[AH.wt] at hw
  rw[CZ,<-vP] at hd
  unfold LD at hd
  have eA:∀y∈List.map AH.enc (done++r::rest),(cells y).length=2:=by
   intro y hy;obtain⟨x,_,rfl⟩:=Apq.1 hy;rfl
  obtain⟨A,hA⟩:∃A,(done.any fun x=>x.cls==r.cls)=A:=⟨_,rfl⟩
  rw[hA] at hd
  simp only[push_cast,seval,reduceEqDiff,hz,Ad r (done:=done) (by omega),eq_true eA]
  intro k1 k2
  have hc:Am Tryz.prog W0 207 [.sl (done.map AH.enc),.fn 208 [] [.ref (n+1+k1,4) 0]] [((n+1+k1,4),.box r.enc)] (.b A) [((n+1+k1,4),.box r.enc)]:=by
   rw[<-hA,<-Gd]
   exact CD W0 Ag5 _ _ _ _ (CK W0 Adr AH.enc done _ _ [] _ _ (fun x _=>Qzz rfl) (fun x _=>Zk W0 x r _) (by omega))
  clear hA
  rw[AH.enc_eq] at hc
  have _h:=trivial;repeat' (first|(first|((first|apply Ac|apply Ag|apply Af)<;>intro _h)|refine Ab (wR W0 r.cls) ?_|refine Ab (UW W0 r.cond (by omega)) ?_)<;>(simp only[push_cast,seval,reduceEqDiff,_h,hz,Ad r (done:=done) (by omega),eq_true eA];try (have _g:=_h;simp at _g))|intro _)
  all_goals (try (refine BF hc (fun _ _ h=>h) ?_;rw[CB];simp only[push_cast,seval,reduceEqDiff]))
  repeat' (first|(((first|apply Ac|apply Ag|apply Af)<;>intro _h)<;>(simp only[push_cast,seval,reduceEqDiff,_h,hz,Ad r (done:=done) (by omega),eq_true eA];try (have _g:=_h;simp at _g)))|intro _)
  all_goals (first|(exact⟨_,_,Acq _,Al.drop1 (by simp[lk]) (AbG _),done++[r],rest,_,by simp,rfl,by rw[<-hd];simp[*],rfl⟩)|skip)
  all_goals subst hd
  all_goals (first|(refine Ah ?_;simp[get, *]<;>(intros;omega);done)|(refine Ae ?_;simp[push_cast,get, *];done)|skip)
def Nf(s:Aa):List AH->Aa
 | []=>LD
 | r::rest=>bif QG r.cond s then r.cls else Nf s rest
def CG(l:List AH)(s:Aa):Aa×Int:=bif CZ [] l&&DD s then(Nf s l,0) else([],1)
theorem Ri{done rest:List AH}(h:CZ done rest=true):∀r∈rest,HF r.cond=true:=by
 induction rest generalizing done with
 | nil=>intro r hr;cases hr
 | cons x rest ih=>
  rw[CZ] at h
  grind
theorem WQ(l:List AH)(s:Aa)(hs:s.length<=2^30)(hb:A7 l<=2^30):Am Tryz.prog W0 210 [.sl (l.map AH.enc),.s s] [] (.tup [.s (CG l s).1,.i .i64 (CG l s).2]) []:=by
 generalize hS:CG l s=S
 have hlen:=Fg l
 unfold CG at hS
 have ha:=Wn W0 [[⟨2,0,true,[⟨0,0⟩]⟩]] s hs (by decide)
 rw[show HF [[⟨2,0,true,[⟨0,0⟩]⟩]]=true by decide,Arn] at ha
 simp only[Ait,AkV,PF,CM.enc_eq,FT.enc_eq] at ha
 generalize QG [[⟨2,0,true,[⟨0,0⟩]⟩]] s=A0 at ha
 rcases Ary (DD s) with hN|hN
 all_goals (rw[hN] at ha hS;simp only[Arn,As1,AqV,Ara,cond_true,cond_false] at ha hS)
 ·rcases Ary (CZ [] l) with hR|hR
  all_goals (rw[hR] at hS;simp only[cond_true,cond_false] at hS;subst hS)
  ·have hcs:=Ri hR
   generalize hS:Nf s l=S
   have hv:=IM W0 l hb
   rw[hR] at hv
   refine Ai (vs:=[.s S,.i .i64 0]) S3 (by simp) (by simp) fun n0 hn0=>?_
   clear hn0
   simp only[push_cast,seval,reduceEqDiff]
   have _h:=trivial;repeat' (first|(first|((first|apply Ac|apply Ag|apply Af)<;>intro _h)|refine Ab hv ?_|refine Ab ha ?_)<;>(simp only[push_cast,seval,reduceEqDiff,_h];try (have _g:=_h;simp at _g))|intro _)
   refine An l.length (Inv:=fun m st=>∃done rest n,l=done++rest/\m=rest.length/\Nf s rest=S/\st=⟨[(1,.s s),(29,.sl (l.map AH.enc)),(30,.i .i64 l.length),(31,.i .i64 done.length)],[],n⟩) ⟨_,Al.refl,[],_,_,rfl,rfl,hS,rfl⟩ ?_
   clear hS
   rintro m _ ⟨done,rest,n,hz,rfl,hd,rfl⟩
   cases rest with
   | nil=>
    rw[Nf] at hd
    unfold LD at hd
    subst hd
    simp only[push_cast,seval,reduceEqDiff,hz]
    repeat' (first|(((first|apply Ac|apply Ag|apply Af)<;>intro _h)<;>(simp only[push_cast,seval,reduceEqDiff,_h];try (have _g:=_h;simp at _g)))|intro _)
    all_goals (first|(refine Ah ?_;simp[get]<;>(intros;omega);done)|(refine Ae ?_;simp[push_cast,get];done)|skip)
   | cons r rest=>
    have hbd:=AN hz
    have hw:=Fj (l:=l) (r:=r) (by rw[hz];simp)
    rw[AH.wt] at hw
    have hcd:=hcs r (by rw[hz];simp)
    have hh:=Wn W0 r.cond s hs (by omega)
    rw[hcd,hN] at hh
    simp only[Arn,AqV,cond_true] at hh
    rw[Nf] at hd
    simp only[push_cast,seval,reduceEqDiff,hz,Ad r (done:=done) (by omega)]
    have _h:=trivial;repeat' (first|(first|((first|apply Ac|apply Ag|apply Af)<;>intro _h)|refine Ab hh ?_)<;>(simp only[push_cast,seval,reduceEqDiff,_h,hz,Ad r (done:=done) (by omega)];try (have _g:=_h;simp at _g))|intro _)
    all_goals (first|(exact⟨_,_,Acq _,Al.drop1 (by simp[lk]) (AbG _),done++[r],rest,_,by simp,rfl,by rw[<-hd];simp[*],rfl⟩)|skip)
    all_goals subst hd
    all_goals (first|(refine Ah ?_;simp[get, *]<;>(intros;omega);done)|(refine Ae ?_;simp[push_cast,get, *];done)|skip)
  ·have hv:=IM W0 l hb
   rw[hR] at hv
   refine Ai (vs:=[.s [],.i .i64 1]) S3 (by simp) (by simp) fun n0 hn0=>?_
   clear hn0
   simp only[push_cast,seval,reduceEqDiff]
   have _h:=trivial;repeat' (first|(first|((first|apply Ac|apply Ag|apply Af)<;>intro _h)|refine Ab hv ?_)<;>(simp only[push_cast,seval,reduceEqDiff,_h];try (have _g:=_h;simp at _g))|intro _)
   all_goals (first|(refine Ah ?_;simp[get]<;>(intros;omega);done)|(refine Ae ?_;simp[push_cast,get];done)|skip)
 ·subst hS
  refine Ai (vs:=[.s [],.i .i64 1]) S3 (by simp) (by simp) fun n0 hn0=>?_
  clear hn0
  simp only[push_cast,seval,reduceEqDiff]
  have _h:=trivial;repeat' (first|(first|((first|apply Ac|apply Ag|apply Af)<;>intro _h)|refine Ab (IM W0 l hb) ?_|refine Ab ha ?_)<;>(simp only[push_cast,seval,reduceEqDiff,_h];try (have _g:=_h;simp at _g))|intro _)
  all_goals (first|(refine Ah ?_;simp[get]<;>(intros;omega);done)|(refine Ae ?_;simp[push_cast,get];done)|skip)

end Go.Ir

namespace Go.Ir
open Go.Proofs
variable{P:Program}{W0:World}{nt n:Nat}{Q:Exit→St→Prop}{env:AD}{σ:Ak}

end Go.Ir

namespace Go.Ir
open Go.Proofs
variable(W0:World)
theorem RE{W0:World}{nt n s:Nat}{env:AD}{σ:Ak}{id:Id}{e sz:Nat}{es:List V}(hs:get env s=.arr id)(hok:∀y∈es,y.ok=true)(hl:lk σ id=some (.arr e sz es)):TE W0 nt [.t s] [.sl es] [] .ret ⟨env,σ,n⟩:=by
 refine⟨⟨[(s,.sl es)],[],n⟩,Al.weak (fun i=>if i=id then some es else none) (fun i es' h=>?_) (fun t=>?_) (fun i e' h=>by cases h) (AbG _),⟨by simp[Qj,get],trivial⟩,fun _ _ h=>by cases h⟩
 ·split at h
  ·rename_i hi;subst hi;cases h;exact⟨⟨e,sz,hl⟩,rfl⟩
  ·cases h
 ·by_cases ht:s=t
  ·subst ht
   rw[hs]
   simp only[get,if_true]
   refine .arr id es es (by simp) rfl (fun k c c' h1 h2=>?_) (fun k c c' h1 h2=>?_)
   ·rw[h1] at h2;cases h2;exact .refl _
   grind
  ·simp only[get,if_neg ht];exact .any _
def p3:Aa->Bool
 | []=>false
 | c::_=>(c.toNat:Int)==61
def Amz(kind:Int)(k:Aa):Bool:=!(k==En)&&(kind==9||p3 k)
def AoB(kind:Int)(keys:List Aa):List Aa:=if kind==9 then[] else pJ.filter fun k=>keys.contains k
def Ap6(kind:Int)(keys:List Aa):List Aa:=keys.filter (Amz kind)++(AoB kind keys++[En])

theorem tG{α:Type}(p:α->Bool)(l:List α):BQ p l<l.length:=by
 induction l with
 | nil=>simp[BQ]
 | cons x l ih=>
  simp only[BQ,AhU]
  grind
def Et.enc(s:Et):V:=.agg [.i .i64 s.kind,.s s.name,.sl (s.keys.map V.s)]
@[push_cast] theorem Et.enc_eq(s:Et):s.enc=.agg [.i .i64 s.kind,.s s.name,.sl (s.keys.map V.s)]:=rfl
def Et.ord(s:Et):Et:={ s with keys:=Ap6 s.kind s.keys }
def R0(ps:List Aj):List Et:=(Jz ps []).map Et.ord
theorem rY{W0:World}{nt n s:Nat}{env:AD}{σ:Ak}(hs:get env s=.nil):TE W0 nt [.t s] [.sl []] [] .ret ⟨env,σ,n⟩:=by
 refine⟨⟨[(s,.sl [])],[],n⟩,Al.weak (fun i=>none) (fun i es' h=>by cases h) (fun t=>?_) (fun i e' h=>by cases h) (AbG _),⟨by simp[Qj,get],trivial⟩,fun _ _ h=>by cases h⟩
 by_cases ht:s=t
 ·subst ht;rw[hs];simp only[get,if_true];exact .nil
 ·simp only[get,if_neg ht];exact .any _



def PM(n:Nat):List Et->Nat
 | []=>n
 | s::l=>if 400<n*s.keys.length then n*s.keys.length else PM (n*s.keys.length) l
def wW(l:vM)(kind:Int):List AH:=if kind==8 then l.ord else l.card
def AiF(o:List Aj)(x:Aj):List Aj:=match o.getLast? with
 | none=>[x]
 | some y=>if x.kind==1&&y.kind==1 then o.dropLast++[{ y with text:=y.text++x.text }] else o++[x]
theorem vN{W0:World}{nt n s:Nat}{env:AD}{σ:Ak}{id:Id}{x:AC}(hs:get env s=.arr id)(hl:lk σ id=some x):Ac4 W0 nt s x [] .ret ⟨env,σ,n⟩:=
 ⟨_,Al.refl,id,hs,hl,rfl,fun _ _ h=>by cases h⟩
end Go.Ir
section
namespace Go.Ir
def rV{α:Type}(cs:List (Aa×α))(k:Aa):Option α:=(cs.find? fun c=>c.1==k).map (·.2)
def AmH{α:Type}(cls:Aa->Aa)(kind:Int)(cs:List (Aa×α))(key:Aa):Option α:=
 (rV cs key).or ((if p3 key&&kind !=9 then rV cs (cls key.tail) else none).or (rV cs En))
abbrev sV:=Int->Aa->List (Aa×List Aj)->List Aj
mutual
def Aj.res(pk:sV)(count:Aa):Aj->List Aj->List Aj
 | ⟨k,t,nm,st,cs,ps⟩,out=>
  if Bx k then(pk k nm (Aca pk (if k==9 then count else nm) cs)).foldl AiF out
  else if k==10 then out++[⟨3,[],count,[],[],[]⟩]
  else if k==11 then out++[⟨k,t,nm,st,cs,Uf pk count ps []⟩]
  else AiF out ⟨k,t,nm,st,cs,ps⟩
def Uf(pk:sV)(count:Aa):List Aj->List Aj->List Aj
 | [],out=>out
 | p::ps,out=>Uf pk count ps (p.res pk count out)
def Aca(pk:sV)(count:Aa):List (Aa×List Aj)->List (Aa×List Aj)
 | []=>[]
 | (k,ps)::cs=>(k,Uf pk count ps [])::Aca pk count cs
end
end Go.Ir
end
namespace Go.Ir
open Go.Proofs
variable(W0:World)
def Aqk(l:vM)(kind:Int)(n:Aa):Aa:=(CG (wW l kind) n).1
end Go.Ir
section
namespace Go.Ir
open Go.Proofs
variable(W0:World)
mutual
def Aj.all(f:Aj->Prop):Aj->Prop
 | ⟨k,t,nm,st,cs,ps⟩=>f ⟨k,t,nm,st,cs,ps⟩/\Abi f cs/\TL f ps
def TL(f:Aj->Prop):List Aj->Prop
 | []=>True
 | p::ps=>p.all f/\TL f ps
def Abi(f:Aj->Prop):List (Aa×List Aj)->Prop
 | []=>True
 | (k,ps)::cs=>TL f ps/\Abi f cs
end
def AiR(L:List Et)(keys:List Aa)(k:Int)(nm:Aa):Aa:=keys[(HI L k nm).toNat]?.getD []
def pkP(l:vM)(L:List Et)(keys:List Aa):sV:=fun k nm cs=>(AmH (Aqk l k) k cs (AiR L keys k nm)).getD []
end Go.Ir
end
namespace Go.Ir
open Go.Proofs
variable{P:Program}{W0:World}{nt n:Nat}{Q:Exit→St→Prop}{env:AD}{σ:Ak}
end Go.Ir

namespace Go.Ir
open Go.Proofs
variable(W0:World)
end Go.Ir

namespace Go.Ir
open Go.Proofs
variable{P:Program}{W0:World}{nt n:Nat}{Q:Exit→St→Prop}{env:AD}{σ:Ak}
def AbF:IC:=oS [bX 2 0,mC 3 (.b false)] [1,2] (oR [fA 4 2 0,l1 5 4,l1 6 1,bT 7 .eql 5 6,m1 3 7] [3])
@[push_cast]def Ao0:List R:=[.t 3]
@[push_cast]def Atv:=AL AbF.eq_1
theorem AjH:Aw Tryz.prog 65 8 AbF Ao0=true:=by kernel_rfl
def cG:IC:=oS [m1 14 0,m1 15 6,iA 16 14 15 62 5,lA 17 16 5,o1 7 (.alloc (.agg [.s [],.i .i64 0,.s [],.i .i64 0,.nil])),sT 7 17 5] [4,7] (oS [fA 18 7 4,l1 19 18,q1 20 66 19,fA 21 7 4,sT 21 20 1] [4,7] (oR [lA 22 7 5,sT 4 22 5,mC 5 (.b true)] [4,5]))
def AbW:IC:=sQ (oS [m1 11 6,bZ 12 .lss 11 0] [0,4,6,12] (cD 12 (oR [o1 13 (.build [.s [],.i .i64 0,.s [],.i .i64 0,.nil] []),sT 4 13 5,mC 5 (.b false)] [4,5]) .skip)) cG
def AbM:IC:=oS [bX 3 1,o1 4 (.alloc (.agg [.s [],.i .i64 0,.s [],.i .i64 0,.nil])),mC 5 (.b false)] [0,3,4] (oS [m1 8 0,o1 9 (.mkfn 65 [] [.t 3]),o1 10 (.calls 64 [.t 8,.t 9]),m1 6 10] [0,4,6] AbW)
@[push_cast]def Apa:List R:=[.c 4 5 true,.t 5]
@[push_cast]def As8:=As cG.eq_1<|As AbW.eq_1<|AL AbM.eq_1
theorem AnH:Aw Tryz.prog 39 23 AbM Apa=true:=by kernel_rfl
def gJ:IC:=oR [fA 18 1 2,l1 19 18,q1 20 67 19,m1 21 20,F0 22 21 1 3,EQ 23 21 22,FSz 24 21 .eql 23 0,pA 25 21 24,m1 26 25,F0 27 26 1 4,EQ 28 26 27,gT 29 26 (.lenL (.t 28)),FSz 30 26 .eql 29 0,pA 31 26 30,m1 2 31] [2]
def gM:IC:=oR [fA 34 1 2,l1 35 34,bC 36 .eql 35 (.s []),m1 37 36,F0 38 37 1 4,EQ 39 37 38,gT 40 37 (.lenL (.t 39)),FSz 41 37 .eql 40 0,pA 42 37 41,m1 2 42] [2]
def jL:IC:=oS [bZ 44 .eql 4 4,m1 43 44] [1,43] (cD 43 (oR [fA 45 1 2,l1 46 45,bC 47 .eql 46 (.s []),m1 48 47,F0 49 48 1 3,EQ 50 48 49,FSz 51 48 .eql 50 0,pA 52 48 51,m1 2 52] [2]) .skip)
def Abj:IC:=.block 0 (oS [bZ 6 .eql 4 1,m1 5 6] [1,4,5] (cD 5 (oR [fA 7 1 3,l1 8 7,bZ 9 .eql 8 0,m1 10 9,F0 11 10 1 4,EQ 12 10 11,gT 13 10 (.lenL (.t 12)),FSz 14 10 .eql 13 0,pA 15 10 14,m1 2 15] [2]) (oS [bZ 17 .eql 4 2,m1 16 17] [1,4,16] (cD 16 gJ (oS [bZ 33 .eql 4 3,m1 32 33] [1,4,32] (cD 32 gM jL))))))
def AaV:IC:=oS [bX 1 0,mC 2 (.b false)] [1] (sQ (oS [fA 3 1 1,l1 4 3] [1,4] Abj) (oR [mC 2 (.b false)] [2]))
@[push_cast]def Apm:List R:=[.t 2]
@[push_cast]def Ass:=As gJ.eq_1<|As gM.eq_1<|As jL.eq_1<|As Abj.eq_1<|AL AaV.eq_1
theorem Aj8:Aw Tryz.prog 40 53 AaV Apm=true:=by kernel_rfl
def cI:IC:=sQ (.block 3 (oP [m1 28 4,m1 29 0,m1 30 3,iA 31 29 30 62 5,fA 32 31 4,l1 33 32,m1 34 5,iA 35 33 34 9 1,l1 36 35,nS 37 36,o1 38 (.mx false (.t 28) [.t 37]),m1 4 38] [0,3,4,5])) (oP [m1 26 5,bZ 27 .add 26 1,m1 5 27] [0,3,4,5])
def nM:IC:=oS [m1 39 4,bZ 40 .gtr 39 200,m1 41 40,BB 42 41 0,BB 43 41 3,gF 44 41 (.iaddr (.t 42) (.t 43) 62 5),EP 45 41 44 4,Ew 46 41 45,gF 47 41 (.lenL (.t 46)),Er 48 41 .gtr 47 12,pO 49 41 48,m1 50 49,BB 51 50 0,BB 52 50 3,gF 53 50 (.iaddr (.t 51) (.t 52) 62 5),EP 54 50 53 0,Ew 55 50 54,gF 56 50 (.lenS (.t 55)),Er 57 50 .gtr 56 60,pO 58 50 57] [0,3,58] (cD 58 (oR [mC 2 (.b false)] [2]) .skip)
def oT:IC:=sQ (.block 1 (oS [m1 12 0,m1 13 3,iA 14 12 13 62 5,fA 15 14 2,l1 16 15,nS 17 16,m1 4 17] [0,3,4] (sQ (oS [mZ 5 0] [0,3,4,5] (.block 2 (.loop (sQ (oS [m1 18 5,m1 19 0,m1 20 3,iA 21 19 20 62 5,fA 22 21 4,l1 23 22,nL 24 23,bT 25 .lss 18 24] [0,3,4,5,25] (cD 25 .skip (.exit 2))) cI)))) nM))) (oP [m1 10 3,bZ 11 .add 10 1,m1 3 11] [0,3])
def AbY:IC:=oS [mC 2 (.b false)] [0] (sQ (oS [mZ 3 0] [0,3] (.block 0 (.loop (sQ (oS [m1 6 3,m1 7 0,nL 8 7,bT 9 .lss 6 8] [0,3,9] (cD 9 .skip (.exit 0))) oT)))) (oR [m1 59 0,nL 60 59,bZ 61 .leq 60 30,m1 2 61] [2]))
@[push_cast]def Aqi:List R:=[.t 2]
@[push_cast]def Asx:=As cI.eq_1<|As nM.eq_1<|As oT.eq_1<|AL AbY.eq_1
theorem Anz:Aw Tryz.prog 18 62 AbY Aqi=true:=by kernel_rfl
def Abd:IC:=sQ (oS [m1 3 0,o1 4 (.pu (.isnil false) [.t 3])] [0,4] (cD 4 (oR [mC 2 .nil] [2]) .skip)) (oR [o1 5 (.msl true 9 1 []),m1 6 0,o1 7 (.app (.t 5) (.t 6) 9 1),m1 2 7] [2])
def AaN:IC:=oS [mC 2 .nil] [0] Abd
@[push_cast]def Apg:List R:=[.t 2]
@[push_cast]def Ats:=As Abd.eq_1<|AL AaN.eq_1
theorem AmL:Aw Tryz.prog 66 8 AaN Apg=true:=by kernel_rfl
end Go.Ir

namespace Go.Ir
open Go.Proofs
variable(W0:World)
structure BE where
 name:Aa
 type:Int
 text:Aa
 date:Int
 list:List Aa
def BE.enc(v:BE):V:=.agg [.s v.name,.i .i64 v.type,.s v.text,.i .i64 v.date,.sl (v.list.map V.s)]
def BE.wt(v:BE):Nat:=1+v.name.length+v.text.length+v.list.length
theorem BE.enc_eq(v:BE):v.enc=.agg [.s v.name,.i .i64 v.type,.s v.text,.i .i64 v.date,.sl (v.list.map V.s)]:=rfl
def xO:V:=.agg [.s [],.i .i64 0,.s [],.i .i64 0,.nil]
def G3:List BE->Aa->Option BE
 | [],_=>none
 | v::vs,n=>if v.name==n then some v else G3 vs n
def gV:Option BE->V
 | none=>xO
 | some v=>v.enc
def Tx(o:Option BE):V:=.tup [gV o,.b o.isSome]
theorem GC{vs:List BE}{n:Aa}{v:BE}(h:G3 vs n=some v):v∈vs:=by
 induction vs with
 | nil=>cases h
 | cons x vs ih=>
  rw[G3] at h
  grind
theorem Aa8(v:BE)(n:Aa)(nid:Id)(σ:Ak)(hn:lk σ nid=some (.box (.s n))):Am Tryz.prog W0 65 [v.enc,.ref nid 0] σ (.b (v.name==n)) σ:=by
 refine Ai (vs:=[.b (v.name==n)]) AjH (by simp) (fun _ h=>h) fun n0 hn0=>?_
 have h1:∀j,((n0,j)=nid)=False:=fun j=>AfN (hn0 _ _ hn)
 simp only[push_cast,seval,reduceEqDiff,h1,hn,BE.enc_eq]
 repeat' (first|(((first|apply Ac|apply Ag|apply Af)<;>intro _h)<;>simp only[push_cast,seval,reduceEqDiff,_h,h1,hn,BE.enc_eq])|intro _)
 all_goals (refine AA (by simp[get, *]) (fun i e h=>sJ (hn0 i e h) h))
theorem mA(l:List Aa):∀y∈l.map V.s,y.ok=true:=by
 intro y hy;obtain⟨x,_,rfl⟩:=Apq.1 hy;rfl
theorem Acv(l:List Aa):∀y∈l.map V.s,(cells y).length=1:=by
 intro y hy;obtain⟨x,_,rfl⟩:=Apq.1 hy;rfl
theorem l9(l:List Aa)(hl:l.length<=2^30):Am Tryz.prog W0 66 [.sl (l.map V.s)] [] (.sl (l.map V.s)) []:=by
 refine Ai (vs:=[.sl (l.map V.s)]) AmL (by simp) (by simp) fun n0 hn0=>?_
 clear hn0
 have hll:l.length<=AM:=by unfold AM;omega
 cases l with
 | nil=>
  simp only[push_cast,seval,reduceEqDiff,AkV,Aiy,eq_true (show 0<=AM by decide),eq_true (Acv [])]
  intros
  refine⟨?_,?_⟩
  ·intros
   exact rY rfl
  ·intros
   exact RE (e:=9) (sz:=1) rfl (mA []) (by simp[lk])
 | cons c cs=>
  have hcel:=Acv (c::cs)
  rw[Ait] at hcel
  rw[Ait] at *
  rw[AhU] at hll
  simp only[push_cast,seval,reduceEqDiff,Aiy,eq_true (show 0<=AM by decide),eq_true hcel,Aoq,eq_true hll]
  intros
  exact RE (e:=9) (sz:=1) rfl (mA (c::cs)) (by simp[lk])
theorem Aj4(v:BE):QJ true 5 v.enc:=Qzz rfl
theorem AiX:Aw Tryz.prog 64 19 (L9 62 5 true) Yw=true:=by kernel_rfl
theorem Aqs(vs:List BE)(n:Aa):(BQ (fun v=>v.name==n) vs<0/\G3 vs n=none)\/∃(j:Nat) (v:BE),BQ (fun v=>v.name==n) vs=(j:Nat)/\vs[j]?=some v/\G3 vs n=some v:=by
 induction vs with
 | nil=>left;exact⟨by simp[BQ],rfl⟩
 | cons x vs ih=>
  rw[G3]
  cases hx:(x.name==n) with
  | true=>right;exact⟨0,x,by simp[BQ,hx],rfl,rfl⟩
  | false=>
   rcases ih with⟨h1,h2⟩|⟨j,v,h1,h2,h3⟩
   ·left;refine⟨?_,by simpa using h2⟩
    simp[BQ,hx,h1]
   ·right;refine⟨j+1,v,?_,by simpa using h2,by simpa using h3⟩
    simp only[BQ,hx,cond_false,h1]
    omega
theorem QK(vs:List BE)(n:Aa)(hl:vs.length<=2^40)(hw:∀v∈vs,v.list.length<=2^30):Am Tryz.prog W0 39 [.sl (vs.map BE.enc),.s n] [] (Tx (G3 vs n)) []:=by
 have hix:=fun nid σ hn=>CK W0 AiX BE.enc vs (fun v=>v.name==n) 65 [] [.ref nid 0] σ (fun x _=>Aj4 x) (fun x _=>Aa8 W0 x n nid σ hn) (by omega)
 unfold Tx
 refine Ai (vs:=[gV (G3 vs n),.b (G3 vs n).isSome]) AnH (by simp) (by simp) fun n0 hn0=>?_
 clear hn0
 simp only[push_cast,seval,reduceEqDiff]
 intro k1
 refine BF (hix (n0,3) _ (by simp[lk])) (fun _ _ h=>h) ?_
 rw[CB]
 rcases Aqs vs n with⟨h1,h2⟩|⟨j,v,h1,h2,h3⟩
 ·have h1':decide (BQ (fun v=>v.name==n) vs<0)=true:=by simpa using h1
  rw[h2]
  simp only[push_cast,seval,reduceEqDiff,h1']
  intros
  refine Ae ?_
  simp[push_cast,get,gV,xO]
 ·have hc:=l9 W0 v.list (hw v (GC h3))
  have hget:(vs.map BE.enc)[j]?=some v.enc:=by grind
  have hj:=(AlY.1 h2).1
  have hj0:decide ((j:Int)<0)=false:=by simp
  rw[h3,h1]
  simp only[push_cast,seval,reduceEqDiff,hj0,hget,if_pos hj,BE.enc_eq,Ae5]
  have _h:=trivial;repeat' (first|(first|((first|apply Ac|apply Ag|apply Af)<;>intro _h)|refine Ab hc ?_)<;>simp only[push_cast,seval,reduceEqDiff,_h,hj0,hget,if_pos hj,BE.enc_eq,Ae5]|intro _)
  refine Ae ?_
  simp[push_cast,get,gV,BE.enc_eq]
def Kd(v:BE):Bool:=
 if v.type==1 then v.date==0&&(v.list.length:Int)==0 else if v.type==2 then DD v.text&&v.date==0&&(v.list.length:Int)==0
 else if v.type==3 then v.text==[]&&(v.list.length:Int)==0 else if v.type==4 then v.text==[]&&v.date==0 else false
theorem Nn(v:BE)(ht:v.text.length<=2^30):Am Tryz.prog W0 40 [v.enc] [] (.b (Kd v)) []:=by
 have hn:=GM W0 v.text (by omega)
 generalize hS:Kd v=S
 unfold Kd at hS
 refine Ai (vs:=[.b S]) Aj8 (by simp) (by simp) fun n0 hn0=>?_
 clear hn0
 simp only[push_cast,seval,reduceEqDiff,BE.enc_eq,Ae5]
 have _h:=trivial;repeat' (first|(first|((first|apply Ac|apply Ag|apply Af)<;>intro _h)|refine Ab hn ?_)<;>simp only[push_cast,seval,reduceEqDiff,_h,BE.enc_eq,Ae5]|intro _)
 all_goals (refine Ah ?_;simp only[B6,bq, *] at hS⊢;grind)
def FE(s:Aa):Bool:=s==[]||s==[105,110,116,101,103,101,114]||s==[112,101,114,99,101,110,116]
def AB(k:Int)(t nm st:Aa)(c q:Int):Bool:=
 if k==1 then !(t==[])&&(nm==[]&&(st==[]&&(c==0&&q==0)))
 else if k==10 then t==[]&&(nm==[]&&(st==[]&&(c==0&&q==0)))
 else Ca nm&&(t==[]&&(
  if k==2 then st==[]&&(c==0&&q==0)
  else if k==11 then st==[]&&c==0
  else if k==7||k==8||k==9 then st==[]&&q==0
  else if k==3 then FE st&&(c==0&&q==0)
  else if k==4||k==6 then Ca st&&(c==0&&q==0)
  else if k==5 then Eu st&&(c==0&&q==0)
  else false))
def Aj.fieldsB(p:Aj):Bool:=AB p.kind p.text p.name p.style p.cases.length p.parts.length
theorem YI(t nm st:Aa)(cs:List AQ)(ps:List Aj)(hn:nm.length<A9)(hst:st.length<A9):Am Tryz.prog W0 131 [.agg [.i .i64 1,.s t,.s nm,.s st,.sl (cs.map AQ.enc),.sl (ps.map Aj.enc)]] [] (.b (AB 1 t nm st cs.length ps.length)) []:=by
 generalize hS:AB 1 t nm st cs.length ps.length=S
 unfold AB FE at hS
 simp only[Int.reduceBEq,bq,if_true,if_false] at hS
 have ht:(t==t)=true:=by simp
 have hnn:(nm==nm)=true:=by simp
 have hss:(st==st)=true:=by simp
 have s1:Bx 1=false:=rfl
 refine Ai (vs:=[.b S]) Ed (by simp) (by simp) fun n0 hn0=>?_
 clear hn0
 simp only[push_cast,seval,reduceEqDiff,ht,hnn,hss,s1,Int.reduceBEq,Int.reduceBNe]
 have _h:=trivial;repeat' (first|(first|((first|apply Ac|apply Ag|apply Af)<;>intro _h)|refine Ab (Dh W0 1) ?_)<;>simp only[push_cast,seval,reduceEqDiff,_h,ht,hnn,hss,s1,Int.reduceBEq,Int.reduceBNe]|intro _)
 all_goals subst hS
 all_goals (refine Ah ?_;simp only[B6,if_true,if_false, *,bq,reduceEqDiff];done)
theorem Si(t nm st:Aa)(cs:List AQ)(ps:List Aj)(hn:nm.length<A9)(hst:st.length<A9):Am Tryz.prog W0 131 [.agg [.i .i64 10,.s t,.s nm,.s st,.sl (cs.map AQ.enc),.sl (ps.map Aj.enc)]] [] (.b (AB 10 t nm st cs.length ps.length)) []:=by
 generalize hS:AB 10 t nm st cs.length ps.length=S
 unfold AB FE at hS
 simp only[Int.reduceBEq,bq,if_true,if_false] at hS
 have ht:(t==t)=true:=by simp
 have hnn:(nm==nm)=true:=by simp
 have hss:(st==st)=true:=by simp
 have s1:Bx 10=false:=rfl
 refine Ai (vs:=[.b S]) Ed (by simp) (by simp) fun n0 hn0=>?_
 clear hn0
 simp only[push_cast,seval,reduceEqDiff,ht,hnn,hss,s1,Int.reduceBEq,Int.reduceBNe]
 have _h:=trivial;repeat' (first|(first|((first|apply Ac|apply Ag|apply Af)<;>intro _h)|refine Ab (Dh W0 10) ?_)<;>simp only[push_cast,seval,reduceEqDiff,_h,ht,hnn,hss,s1,Int.reduceBEq,Int.reduceBNe]|intro _)
 all_goals subst hS
 all_goals (refine Ah ?_;simp only[B6,if_true,if_false, *,bq,reduceEqDiff];done)
theorem Xz(t nm st:Aa)(cs:List AQ)(ps:List Aj)(hn:nm.length<A9)(hst:st.length<A9):Am Tryz.prog W0 131 [.agg [.i .i64 2,.s t,.s nm,.s st,.sl (cs.map AQ.enc),.sl (ps.map Aj.enc)]] [] (.b (AB 2 t nm st cs.length ps.length)) []:=by
 generalize hS:AB 2 t nm st cs.length ps.length=S
 unfold AB FE at hS
 simp only[Int.reduceBEq,bq,if_true,if_false] at hS
 have ht:(t==t)=true:=by simp
 have hnn:(nm==nm)=true:=by simp
 have hss:(st==st)=true:=by simp
 have s1:Bx 2=false:=rfl
 have v1:=CP W0 nm hn
 generalize Ca nm=A1 at v1 hS
 refine Ai (vs:=[.b S]) Ed (by simp) (by simp) fun n0 hn0=>?_
 clear hn0
 simp only[push_cast,seval,reduceEqDiff,ht,hnn,hss,s1,Int.reduceBEq,Int.reduceBNe]
 have _h:=trivial;repeat' (first|(first|((first|apply Ac|apply Ag|apply Af)<;>intro _h)|refine Ab (Dh W0 2) ?_|refine Ab v1 ?_)<;>simp only[push_cast,seval,reduceEqDiff,_h,ht,hnn,hss,s1,Int.reduceBEq,Int.reduceBNe]|intro _)
 all_goals subst hS
 all_goals (refine Ah ?_;simp only[B6,if_true,if_false, *,bq,reduceEqDiff];done)
theorem S5(t nm st:Aa)(cs:List AQ)(ps:List Aj)(hn:nm.length<A9)(hst:st.length<A9):Am Tryz.prog W0 131 [.agg [.i .i64 11,.s t,.s nm,.s st,.sl (cs.map AQ.enc),.sl (ps.map Aj.enc)]] [] (.b (AB 11 t nm st cs.length ps.length)) []:=by
 generalize hS:AB 11 t nm st cs.length ps.length=S
 unfold AB FE at hS
 simp only[Int.reduceBEq,bq,if_true,if_false] at hS
 have ht:(t==t)=true:=by simp
 have hnn:(nm==nm)=true:=by simp
 have hss:(st==st)=true:=by simp
 have s1:Bx 11=false:=rfl
 have v1:=CP W0 nm hn
 generalize Ca nm=A1 at v1 hS
 refine Ai (vs:=[.b S]) Ed (by simp) (by simp) fun n0 hn0=>?_
 clear hn0
 simp only[push_cast,seval,reduceEqDiff,ht,hnn,hss,s1,Int.reduceBEq,Int.reduceBNe]
 have _h:=trivial;repeat' (first|(first|((first|apply Ac|apply Ag|apply Af)<;>intro _h)|refine Ab (Dh W0 11) ?_|refine Ab v1 ?_)<;>simp only[push_cast,seval,reduceEqDiff,_h,ht,hnn,hss,s1,Int.reduceBEq,Int.reduceBNe]|intro _)
 all_goals subst hS
 all_goals (refine Ah ?_;simp only[B6,if_true,if_false, *,bq,reduceEqDiff];done)
theorem YG(t nm st:Aa)(cs:List AQ)(ps:List Aj)(hn:nm.length<A9)(hst:st.length<A9):Am Tryz.prog W0 131 [.agg [.i .i64 7,.s t,.s nm,.s st,.sl (cs.map AQ.enc),.sl (ps.map Aj.enc)]] [] (.b (AB 7 t nm st cs.length ps.length)) []:=by
 generalize hS:AB 7 t nm st cs.length ps.length=S
 unfold AB FE at hS
 simp only[Int.reduceBEq,bq,if_true,if_false] at hS
 have ht:(t==t)=true:=by simp
 have hnn:(nm==nm)=true:=by simp
 have hss:(st==st)=true:=by simp
 have s1:Bx 7=true:=rfl
 have v1:=CP W0 nm hn
 generalize Ca nm=A1 at v1 hS
 refine Ai (vs:=[.b S]) Ed (by simp) (by simp) fun n0 hn0=>?_
 clear hn0
 simp only[push_cast,seval,reduceEqDiff,ht,hnn,hss,s1,Int.reduceBEq,Int.reduceBNe]
 have _h:=trivial;repeat' (first|(first|((first|apply Ac|apply Ag|apply Af)<;>intro _h)|refine Ab (Dh W0 7) ?_|refine Ab v1 ?_)<;>simp only[push_cast,seval,reduceEqDiff,_h,ht,hnn,hss,s1,Int.reduceBEq,Int.reduceBNe]|intro _)
 all_goals subst hS
 all_goals (refine Ah ?_;simp only[B6,if_true,if_false, *,bq,reduceEqDiff];done)
theorem Yq(t nm st:Aa)(cs:List AQ)(ps:List Aj)(hn:nm.length<A9)(hst:st.length<A9):Am Tryz.prog W0 131 [.agg [.i .i64 8,.s t,.s nm,.s st,.sl (cs.map AQ.enc),.sl (ps.map Aj.enc)]] [] (.b (AB 8 t nm st cs.length ps.length)) []:=by
 generalize hS:AB 8 t nm st cs.length ps.length=S
 unfold AB FE at hS
 simp only[Int.reduceBEq,bq,if_true,if_false] at hS
 have ht:(t==t)=true:=by simp
 have hnn:(nm==nm)=true:=by simp
 have hss:(st==st)=true:=by simp
 have s1:Bx 8=true:=rfl
 have v1:=CP W0 nm hn
 generalize Ca nm=A1 at v1 hS
 refine Ai (vs:=[.b S]) Ed (by simp) (by simp) fun n0 hn0=>?_
 clear hn0
 simp only[push_cast,seval,reduceEqDiff,ht,hnn,hss,s1,Int.reduceBEq,Int.reduceBNe]
 have _h:=trivial;repeat' (first|(first|((first|apply Ac|apply Ag|apply Af)<;>intro _h)|refine Ab (Dh W0 8) ?_|refine Ab v1 ?_)<;>simp only[push_cast,seval,reduceEqDiff,_h,ht,hnn,hss,s1,Int.reduceBEq,Int.reduceBNe]|intro _)
 all_goals subst hS
 all_goals (refine Ah ?_;simp only[B6,if_true,if_false, *,bq,reduceEqDiff];done)
theorem XF(t nm st:Aa)(cs:List AQ)(ps:List Aj)(hn:nm.length<A9)(hst:st.length<A9):Am Tryz.prog W0 131 [.agg [.i .i64 9,.s t,.s nm,.s st,.sl (cs.map AQ.enc),.sl (ps.map Aj.enc)]] [] (.b (AB 9 t nm st cs.length ps.length)) []:=by
 generalize hS:AB 9 t nm st cs.length ps.length=S
 unfold AB FE at hS
 simp only[Int.reduceBEq,bq,if_true,if_false] at hS
 have ht:(t==t)=true:=by simp
 have hnn:(nm==nm)=true:=by simp
 have hss:(st==st)=true:=by simp
 have s1:Bx 9=true:=rfl
 have v1:=CP W0 nm hn
 generalize Ca nm=A1 at v1 hS
 refine Ai (vs:=[.b S]) Ed (by simp) (by simp) fun n0 hn0=>?_
 clear hn0
 simp only[push_cast,seval,reduceEqDiff,ht,hnn,hss,s1,Int.reduceBEq,Int.reduceBNe]
 have _h:=trivial;repeat' (first|(first|((first|apply Ac|apply Ag|apply Af)<;>intro _h)|refine Ab (Dh W0 9) ?_|refine Ab v1 ?_)<;>simp only[push_cast,seval,reduceEqDiff,_h,ht,hnn,hss,s1,Int.reduceBEq,Int.reduceBNe]|intro _)
 all_goals subst hS
 all_goals (refine Ah ?_;simp only[B6,if_true,if_false, *,bq,reduceEqDiff];done)
set_option maxHeartbeats 4000000 in
theorem Y5(t nm st:Aa)(cs:List AQ)(ps:List Aj)(hn:nm.length<A9)(hst:st.length<A9):Am Tryz.prog W0 131 [.agg [.i .i64 3,.s t,.s nm,.s st,.sl (cs.map AQ.enc),.sl (ps.map Aj.enc)]] [] (.b (AB 3 t nm st cs.length ps.length)) []:=by
 generalize hS:AB 3 t nm st cs.length ps.length=S
 unfold AB FE at hS
 simp only[Int.reduceBEq,bq,if_true,if_false] at hS
 have ht:(t==t)=true:=by simp
 have hnn:(nm==nm)=true:=by simp
 have hss:(st==st)=true:=by simp
 have s1:Bx 3=false:=rfl
 have v1:=CP W0 nm hn
 generalize Ca nm=A1 at v1 hS
 refine Ai (vs:=[.b S]) Ed (by simp) (by simp) fun n0 hn0=>?_
 clear hn0
 simp only[push_cast,seval,reduceEqDiff,ht,hnn,hss,s1,Int.reduceBEq,Int.reduceBNe]
 have _h:=trivial;repeat' (first|(first|((first|apply Ac|apply Ag|apply Af)<;>intro _h)|refine Ab (Dh W0 3) ?_|refine Ab v1 ?_)<;>simp only[push_cast,seval,reduceEqDiff,_h,ht,hnn,hss,s1,Int.reduceBEq,Int.reduceBNe]|intro _)
 all_goals subst hS
 all_goals (refine Ah ?_;simp only[B6,if_true,if_false, *,bq,reduceEqDiff];done)
theorem Yh(t nm st:Aa)(cs:List AQ)(ps:List Aj)(hn:nm.length<A9)(hst:st.length<A9):Am Tryz.prog W0 131 [.agg [.i .i64 4,.s t,.s nm,.s st,.sl (cs.map AQ.enc),.sl (ps.map Aj.enc)]] [] (.b (AB 4 t nm st cs.length ps.length)) []:=by
 generalize hS:AB 4 t nm st cs.length ps.length=S
 unfold AB FE at hS
 simp only[Int.reduceBEq,bq,if_true,if_false] at hS
 have ht:(t==t)=true:=by simp
 have hnn:(nm==nm)=true:=by simp
 have hss:(st==st)=true:=by simp
 have s1:Bx 4=false:=rfl
 have v1:=CP W0 nm hn
 generalize Ca nm=A1 at v1 hS
 have v2:=CP W0 st hst
 generalize Ca st=A2 at v2 hS
 refine Ai (vs:=[.b S]) Ed (by simp) (by simp) fun n0 hn0=>?_
 clear hn0
 simp only[push_cast,seval,reduceEqDiff,ht,hnn,hss,s1,Int.reduceBEq,Int.reduceBNe]
 have _h:=trivial;repeat' (first|(first|((first|apply Ac|apply Ag|apply Af)<;>intro _h)|refine Ab (Dh W0 4) ?_|refine Ab v1 ?_|refine Ab v2 ?_)<;>simp only[push_cast,seval,reduceEqDiff,_h,ht,hnn,hss,s1,Int.reduceBEq,Int.reduceBNe]|intro _)
 all_goals subst hS
 all_goals (refine Ah ?_;simp only[B6,if_true,if_false, *,bq,reduceEqDiff];done)
theorem Y2(t nm st:Aa)(cs:List AQ)(ps:List Aj)(hn:nm.length<A9)(hst:st.length<A9):Am Tryz.prog W0 131 [.agg [.i .i64 6,.s t,.s nm,.s st,.sl (cs.map AQ.enc),.sl (ps.map Aj.enc)]] [] (.b (AB 6 t nm st cs.length ps.length)) []:=by
 generalize hS:AB 6 t nm st cs.length ps.length=S
 unfold AB FE at hS
 simp only[Int.reduceBEq,bq,if_true,if_false] at hS
 have ht:(t==t)=true:=by simp
 have hnn:(nm==nm)=true:=by simp
 have hss:(st==st)=true:=by simp
 have s1:Bx 6=false:=rfl
 have v1:=CP W0 nm hn
 generalize Ca nm=A1 at v1 hS
 have v2:=CP W0 st hst
 generalize Ca st=A2 at v2 hS
 refine Ai (vs:=[.b S]) Ed (by simp) (by simp) fun n0 hn0=>?_
 clear hn0
 simp only[push_cast,seval,reduceEqDiff,ht,hnn,hss,s1,Int.reduceBEq,Int.reduceBNe]
 have _h:=trivial;repeat' (first|(first|((first|apply Ac|apply Ag|apply Af)<;>intro _h)|refine Ab (Dh W0 6) ?_|refine Ab v1 ?_|refine Ab v2 ?_)<;>simp only[push_cast,seval,reduceEqDiff,_h,ht,hnn,hss,s1,Int.reduceBEq,Int.reduceBNe]|intro _)
 all_goals subst hS
 all_goals (refine Ah ?_;simp only[B6,if_true,if_false, *,bq,reduceEqDiff];done)
theorem Zs(t nm st:Aa)(cs:List AQ)(ps:List Aj)(hn:nm.length<A9)(hst:st.length<A9):Am Tryz.prog W0 131 [.agg [.i .i64 5,.s t,.s nm,.s st,.sl (cs.map AQ.enc),.sl (ps.map Aj.enc)]] [] (.b (AB 5 t nm st cs.length ps.length)) []:=by
 generalize hS:AB 5 t nm st cs.length ps.length=S
 unfold AB FE at hS
 simp only[Int.reduceBEq,bq,if_true,if_false] at hS
 have ht:(t==t)=true:=by simp
 have hnn:(nm==nm)=true:=by simp
 have hss:(st==st)=true:=by simp
 have s1:Bx 5=false:=rfl
 have v1:=CP W0 nm hn
 generalize Ca nm=A1 at v1 hS
 have v3:=R7 W0 st hst
 generalize Eu st=A3 at v3 hS
 refine Ai (vs:=[.b S]) Ed (by simp) (by simp) fun n0 hn0=>?_
 clear hn0
 simp only[push_cast,seval,reduceEqDiff,ht,hnn,hss,s1,Int.reduceBEq,Int.reduceBNe]
 have _h:=trivial;repeat' (first|(first|((first|apply Ac|apply Ag|apply Af)<;>intro _h)|refine Ab (Dh W0 5) ?_|refine Ab v1 ?_|refine Ab v3 ?_)<;>simp only[push_cast,seval,reduceEqDiff,_h,ht,hnn,hss,s1,Int.reduceBEq,Int.reduceBNe]|intro _)
 all_goals subst hS
 all_goals (refine Ah ?_;simp only[B6,if_true,if_false, *,bq,reduceEqDiff];done)
theorem Yn(k:Int)(t nm st:Aa)(cs:List AQ)(ps:List Aj)(h1:(k==1)=false)(h2:(k==2)=false)(h3:(k==3)=false)(h4:(k==4)=false)(h5:(k==5)=false)(h6:(k==6)=false)(h7:(k==7)=false)(h8:(k==8)=false)(h9:(k==9)=false)(h10:(k==10)=false)(h11:(k==11)=false):Am Tryz.prog W0 131 [.agg [.i .i64 k,.s t,.s nm,.s st,.sl (cs.map AQ.enc),.sl (ps.map Aj.enc)]] [] (.b (AB k t nm st cs.length ps.length)) []:=by
 generalize hS:AB k t nm st cs.length ps.length=S
 unfold AB at hS
 simp only[h1,h2,h3,h4,h5,h6,h7,h8,h9,h10,h11,AsZ,AcL,if_false,Ara] at hS
 subst hS
 have g1:(k !=1)=true:=by simp at h1⊢;exact h1
 have g2:(k !=10)=true:=by simp at h10⊢;exact h10
 refine Ai (vs:=[.b false]) Ed (by simp) (by simp) fun n0 hn0=>?_
 clear hn0
 simp only[push_cast,seval,reduceEqDiff,h1,h2,h3,h4,h5,h6,h7,h8,h9,h10,h11,g1,g2]
 repeat' (first|(((first|apply Ac|apply Ag|apply Af)<;>intro _h)<;>simp only[push_cast,seval,reduceEqDiff,_h,h1,h2,h3,h4,h5,h6,h7,h8,h9,h10,h11,g1,g2])|intro _)
 all_goals (refine Ah ?_;simp only[B6,if_true,if_false, *,bq,reduceEqDiff];done)
theorem sX(p:Aj)(hn:p.name.length<A9)(hs:p.style.length<A9):Am Tryz.prog W0 131 [p.enc] [] (.b p.fieldsB) []:=by
 unfold Aj.fieldsB
 obtain⟨k,t,nm,st,cs,ps⟩:=p
 simp only at hn hs⊢
 rw[Aj.enc_eq]
 simp only
 have hk:k=1\/k=2\/k=3\/k=4\/k=5\/k=6\/k=7\/k=8\/k=9\/k=10\/k=11\/((k==1)=false/\(k==2)=false/\(k==3)=false/\(k==4)=false/\(k==5)=false/\(k==6)=false/\(k==7)=false/\(k==8)=false/\(k==9)=false/\(k==10)=false/\(k==11)=false):=by
  grind
 rcases hk with rfl|rfl|rfl|rfl|rfl|rfl|rfl|rfl|rfl|rfl|rfl|⟨h1,h2,h3,h4,h5,h6,h7,h8,h9,h10,h11⟩
 ·exact YI W0 t nm st cs ps hn hs
 ·exact Xz W0 t nm st cs ps hn hs
 ·exact Y5 W0 t nm st cs ps hn hs
 ·exact Yh W0 t nm st cs ps hn hs
 ·exact Zs W0 t nm st cs ps hn hs
 ·exact Y2 W0 t nm st cs ps hn hs
 ·exact YG W0 t nm st cs ps hn hs
 ·exact Yq W0 t nm st cs ps hn hs
 ·exact XF W0 t nm st cs ps hn hs
 ·exact Si W0 t nm st cs ps hn hs
 ·exact S5 W0 t nm st cs ps hn hs
 ·exact Yn W0 k t nm st cs ps h1 h2 h3 h4 h5 h6 h7 h8 h9 h10 h11
end Go.Ir

namespace Go.Ir
open Go.Proofs
variable{P:Program}{W0:World}{nt n:Nat}{Q:Exit→St→Prop}{env:AD}{σ:Ak}
def VO:IC:=sQ (oS [fA 20 5 0,l1 21 20,fA 22 11 0,l1 23 22,q2 24 185 21 23,nT 25 24,m1 26 25,BB 27 26 9,EP 28 26 11 0,Ew 29 26 28,gF 30 26 (.rdm (.mget .str (.b false) false) (.t 27) [.t 29]),pO 31 26 30,m1 32 31,gF 33 32 (.load (.t 4) 1 true),EP 34 32 11 1,Ew 35 32 34,BB 36 32 2,BB 37 32 3,BB 38 32 37,EP 39 38 5 0,Ew 40 38 39,Er 41 38 .neq 40 9,gF 42 32 (.pick (.t 38) (.c (.b true)) (.t 41)),gF 43 32 (.calls 95 [.t 33,.t 35,.t 36,.t 42]),gF 44 32 (.not (.t 43)),pO 45 32 44] [2,3,4,5,9,11,14,15,16,45] (cD 45 (oR [mC 8 (.b false)] [8]) .skip)) (oP [m1 46 9,fA 47 11 0,l1 48 47,o0 (.wrm (.mput .str) (.t 46) [.t 48,.c (.b true)])] [2,3,4,5,9,14,15,16])
def VF:IC:=sQ (.block 1 (oS [iA 18 14 16 118 2,lA 19 18 2,o1 11 (.alloc (.agg [.s [],.nil])),sT 11 19 2] [2,3,4,5,9,11,14,15,16] VO)) (oP [bZ 49 .add 16 1,m1 16 49] [2,3,4,5,9,14,15,16])
def Vl:IC:=oR [fA 50 5 4,l1 51 50,nL 52 51,bZ 53 .leq 52 20,m1 54 53,BG 55 54 9,gT 56 54 (.rdm (.mget .str (.b false) false) (.t 55) [.c (.s [111,116,104,101,114])]),pA 57 54 56,m1 8 57] [8]
def hZ:IC:=sQ (oS [fA 13 5 4,l1 14 13,nL 15 14,mZ 16 0] [2,3,4,5,9,14,15,16] (.block 0 (.loop (oS [bT 17 .lss 16 15] [2,3,4,5,9,14,15,16,17] (sQ (cD 17 .skip (.exit 0)) VF))))) Vl
def iP:IC:=oS [bX 4 0,bX 5 1,mC 8 (.b false)] [2,3,4,5] (oS [o1 12 (.mkm .mkmap []),m1 9 12] [2,3,4,5,9] hZ)
@[push_cast]def Al8:List R:=[.t 8]
@[push_cast]def ArS:=As VO.eq_1<|As VF.eq_1<|As Vl.eq_1<|As hZ.eq_1<|AL iP.eq_1
theorem AdY:Aw Tryz.prog 132 58 iP Al8=true:=by kernel_rfl
def cE:IC:=oS [fA 81 10 0,l1 82 81,bZ 83 .neq 82 11,m1 84 83,F0 85 84 10 2,EQ 86 84 85,gT 87 84 (.bin .neq (.t 86) (.c (.s []))),pA 88 84 87] [1,2,3,4,10,11,12,13,88] (cD 88 (oP [fA 89 4 0,l1 90 89,fA 91 10 2,l1 92 91,o0 (.wrm (.mput .str) (.t 90) [.t 92,.c (.b true)])] [1,2,3,4,11,12,13]) .skip)
def p6:IC:=sQ (oS [fA 65 10 0,l1 66 65,q1 67 79 66,m1 68 67,BG 69 68 2,FSz 70 68 .geq 69 8,BG 71 68 70,gF 72 71 (.load (.t 4) 1 true),gF 73 71 (.load (.t 10) 6 true),BB 74 71 2,Er 75 71 .add 74 1,BB 76 71 3,gF 77 71 (.calls 132 [.t 72,.t 73,.t 75,.t 76]),gF 78 71 (.not (.t 77)),gT 79 68 (.pick (.t 71) (.c (.b true)) (.t 78)),pA 80 68 79] [1,2,3,4,10,11,12,13,80] (cD 80 (oR [mC 8 (.b false)] [8]) .skip)) cE
def dL:IC:=sQ (oS [fA 48 10 0,l1 49 48,bZ 50 .eql 49 11,m1 51 50,BG 52 51 2,FSz 53 51 .geq 52 8,BG 54 51 53,gF 55 54 (.load (.t 4) 1 true),EP 56 54 10 5,Ew 57 54 56,BB 58 54 2,Er 59 54 .add 58 1,BB 60 54 3,gF 61 54 (.calls 95 [.t 55,.t 57,.t 59,.t 60]),gF 62 54 (.not (.t 61)),gT 63 51 (.pick (.t 54) (.c (.b true)) (.t 62)),pA 64 51 63] [1,2,3,4,10,11,12,13,64] (cD 64 (oR [mC 8 (.b false)] [8]) .skip)) p6
def sM:IC:=sQ (oS [lA 18 10 6,q1 19 131 18,nT 20 19,m1 21 20,EP 22 21 10 0,Ew 23 21 22,Er 24 21 .eql 23 10,BB 25 21 24,BG 26 25 3,gT 27 25 (.not (.t 26)),gF 28 21 (.pick (.t 25) (.t 27) (.c (.b false))),pO 29 21 28,m1 30 29,BB 31 30 9,Er 32 30 .gtr 31 0,BB 33 30 32,F0 34 33 10 0,EQ 35 33 34,FSz 36 33 .eql 35 1,gF 37 30 (.pick (.t 33) (.t 36) (.c (.b false))),BB 38 30 37,BG 39 38 1,BG 40 38 9,FSz 41 38 .sub 40 1,gT 42 38 (.iaddr (.t 39) (.t 41) 116 6),F0 43 38 42 0,EQ 44 38 43,FSz 45 38 .eql 44 1,gF 46 30 (.pick (.t 38) (.t 45) (.c (.b false))),pO 47 30 46] [1,2,3,4,10,11,12,13,47] (cD 47 (oR [mC 8 (.b false)] [8]) .skip)) dL
def fK:IC:=sQ (.block 1 (oS [m1 15 13,iA 16 11 13 116 6,lA 17 16 6,o1 10 (.alloc (.agg [.i .i64 0,.s [],.s [],.s [],.nil,.nil])),m1 9 15,sT 10 17 6] [1,2,3,4,9,10,11,12,13] sM)) (oP [bZ 93 .add 13 1,m1 13 93] [1,2,3,4,11,12,13])
def AaT:IC:=sQ (oS [m1 11 1,nL 12 11,mZ 13 0] [1,2,3,4,11,12,13] (.block 0 (.loop (oS [bT 14 .lss 13 12] [1,2,3,4,11,12,13,14] (sQ (cD 14 .skip (.exit 0)) fK))))) (oR [mC 8 (.b true)] [8])
def Abn:IC:=oS [bX 4 0,mC 8 (.b false)] [1,2,3,4] AaT
@[push_cast]def Aqe:List R:=[.t 8]
@[push_cast]def Asu:=As cE.eq_1<|As p6.eq_1<|As dL.eq_1<|As sM.eq_1<|As fK.eq_1<|As AaT.eq_1<|AL Abn.eq_1
theorem AkC:Aw Tryz.prog 95 94 Abn Aqe=true:=by kernel_rfl
def aH:IC:=oR [o1 1 (.mkm .mkmap []),o0 (.wrm (.mput .str) (.t 1) [.c (.s [110,117,109,98,101,114]),ci 3]),o0 (.wrm (.mput .str) (.t 1) [.c (.s [117,110,105,116]),ci 4]),o0 (.wrm (.mput .str) (.t 1) [.c (.s [100,97,116,101]),ci 5]),o0 (.wrm (.mput .str) (.t 1) [.c (.s [108,105,115,116]),ci 6]),o0 (.wrm (.mput .str) (.t 1) [.c (.s [112,108,117,114,97,108]),ci 7]),o0 (.wrm (.mput .str) (.t 1) [.c (.s [111,114,100,105,110,97,108]),ci 8]),o0 (.wrm (.mput .str) (.t 1) [.c (.s [115,101,108,101,99,116]),ci 9]),m1 2 1,m1 0 2] [0]
def rT:IC:=oS [mC 0 .nm] [] aH
@[push_cast]def Aky:List R:=[.t 0]
@[push_cast]def ArO:=As aH.eq_1<|AL rT.eq_1
theorem AdH:Aw Tryz.prog 134 3 rT Aky=true:=by kernel_rfl
def ZR:IC:=.ops [m1 96 3,fA 97 5 2,l1 98 97,nS 99 98,o1 100 (.bin .add (ci 2) (.t 99)),fA 101 5 5,l1 102 101,q1 103 96 102,bT 104 .add 100 103,bT 105 .add 96 104,m1 3 105] [3,10,11,12] [[1,2],[2,3],[3,4],[5,6],[6,7],[4,8],[7,8],[0,9],[8,9],[0,10],[9,10]]
def aQ:IC:=oS [m1 86 3,fA 87 5 2,l1 88 87,nS 89 88,o1 90 (.bin .add (ci 3) (.t 89)),bT 91 .add 86 90,m1 3 91] [3,5,10,11,12] (oS [fA 92 5 5,l1 93 92,nL 94 93,bZ 95 .gtr 94 0] [3,5,10,11,12,95] (cD 95 ZR .skip))
def aF:IC:=oS [m1 31 7,fA 32 5 0,l1 33 32,bT 34 .eql 31 33] [3,5,6,10,11,12,25,34] (cD 34 (oP [m1 35 3,m1 36 6,nS 37 36,o1 38 (.bin .add (ci 2) (.t 37)),bT 39 .add 35 38,m1 3 39] [3,5,10,11,12,25]) .skip)
def dS:IC:=sQ (.mnext 26 27 (.t 25) [3,5,10,11,12,25,27]) (sQ (cD 27 .skip (.exit 3)) (.block 4 (oS [o1 28 (.mentry (.t 25)),xT 29 28 0,xT 30 28 1,m1 6 29,m1 7 30] [3,5,6,7,10,11,12,25] aF)))
def iU:IC:=.ops [m1 61 3,fA 62 9 0,l1 63 62,nS 64 63,o1 65 (.bin .add (ci 4) (.t 64)),fA 66 9 1,l1 67 66,q1 68 96 67,bT 69 .add 65 68,bT 70 .add 61 69,m1 3 70] [3,10,11,12,55,56,57] [[1,2],[2,3],[3,4],[5,6],[6,7],[4,8],[7,8],[0,9],[8,9],[0,10],[9,10]]
def bU:IC:=sQ (.block 6 (oS [iA 59 55 57 118 2,lA 60 59 2,o1 9 (.alloc (.agg [.s [],.nil])),sT 9 60 2] [3,9,10,11,12,55,56,57] iU)) (oP [bZ 71 .add 57 1,m1 57 71] [3,10,11,12,55,56,57])
def eY:IC:=oS [fA 54 5 4,l1 55 54,nL 56 55,mZ 57 0] [3,10,11,12,55,56,57] (.block 5 (.loop (oS [bT 58 .lss 57 56] [3,10,11,12,55,56,57,58] (sQ (cD 58 .skip (.exit 5)) bU))))
def iY:IC:=sQ (oS [fA 40 5 3,l1 41 40,bC 42 .neq 41 (.s [])] [3,5,10,11,12,42] (cD 42 (oP [m1 43 3,fA 44 5 3,l1 45 44,nS 46 45,o1 47 (.bin .add (ci 2) (.t 46)),bT 48 .add 43 47,m1 3 48] [3,5,10,11,12]) .skip)) (sQ (oS [fA 49 5 0,l1 50 49,q1 51 79 50] [3,5,10,11,12,51] (cD 51 (oP [m1 52 3,bZ 53 .add 52 1,m1 3 53] [3,5,10,11,12]) .skip)) eY)
def Z0:IC:=oS [m1 18 3,fA 19 5 2,l1 20 19,nS 21 20,o1 22 (.bin .add (ci 2) (.t 21)),bT 23 .add 18 22,m1 3 23] [3,5,10,11,12] (sQ (oS [o1 24 (.calln 134 []),o1 25 (.mrange (.t 24))] [3,5,10,11,12,25] (.block 3 (.loop dS))) iY)
def sK:IC:=cD 72 (oP [m1 74 3,fA 75 5 1,l1 76 75,q1 77 133 76,nS 78 77,bT 79 .add 74 78,m1 3 79] [3,10,11,12]) (oS [bZ 81 .eql 17 10,m1 80 81] [3,5,10,11,12,17,80] (cD 80 (oP [m1 82 3,bZ 83 .add 82 1,m1 3 83] [3,10,11,12]) (oS [bZ 85 .eql 17 11,m1 84 85] [3,5,10,11,12,84] (cD 84 aQ Z0))))
def dD:IC:=sQ (.block 1 (oS [iA 14 10 12 116 6,lA 15 14 6,o1 5 (.alloc (.agg [.i .i64 0,.s [],.s [],.s [],.nil,.nil])),sT 5 15 6] [3,5,10,11,12] (oS [fA 16 5 0,l1 17 16] [3,5,10,11,12,17] (.block 2 (oS [bZ 73 .eql 17 1,m1 72 73] [3,5,10,11,12,17,72] sK))))) (oP [bZ 106 .add 12 1,m1 12 106] [3,10,11,12])
def Ab6:IC:=sQ (oS [m1 10 0,nL 11 10,mZ 12 0] [3,10,11,12] (.block 0 (.loop (oS [bT 13 .lss 12 11] [3,10,11,12,13] (sQ (cD 13 .skip (.exit 0)) dD))))) (oR [m1 107 3,m1 2 107] [2])
def Ac0:IC:=oS [mZ 2 0] [0] (oS [mZ 3 0] [0,3] Ab6)
@[push_cast]def AoR:List R:=[.t 2]
@[push_cast]def Asz:=As ZR.eq_1<|As aQ.eq_1<|As aF.eq_1<|As dS.eq_1<|As iU.eq_1<|As bU.eq_1<|As eY.eq_1<|As iY.eq_1<|As Z0.eq_1<|As sK.eq_1<|As dD.eq_1<|As Ab6.eq_1<|AL Ac0.eq_1
theorem Amg:Aw Tryz.prog 96 108 Ac0 AoR=true:=by kernel_rfl
def Aci:IC:=oR [lA 8 5 1,m1 9 0,m1 10 1,o1 11 (.calls 95 [.t 8,.t 9,ci 0,.t 10]),m1 12 11,F0 13 12 5 0,EQ 14 12 13,gT 15 12 (.rdm .mlen (.t 14) []),FSz 16 12 .leq 15 20,pA 17 12 16,m1 18 17,BG 19 18 0,gT 20 18 (.call 96 [.t 19]),FSz 21 18 .leq 20 4000,pA 22 18 21,m1 4 22] [4]
def Abu:IC:=oS [mC 4 (.b false)] [0,1] (oS [o1 6 (.mkm .mkmap []),o1 7 (.build [.nm] [(0,1,.t 6)]),o1 5 (.alloc (.agg [.nm])),sT 5 7 1] [0,1,5] Aci)
@[push_cast]def Api:List R:=[.t 4]
@[push_cast]def Atd:=As Aci.eq_1<|AL Abu.eq_1
theorem AiA:Aw Tryz.prog 59 23 Abu Api=true:=by kernel_rfl
def Acm:IC:=oS [mC 2 (.b false)] [0] (oR [m1 3 0,o1 4 (.call 59 [.t 3,.c (.b false)]),m1 2 4] [2])
@[push_cast]def Ap7:List R:=[.t 2]
@[push_cast]def AsS:=AL Acm.eq_1
theorem Ajc:Aw Tryz.prog 35 5 Acm Ap7=true:=by kernel_rfl
end Go.Ir
section
namespace Go.Ir
open Go.Proofs
variable(W0:World)
mutual
def Aj.chk:Aj->Int->Bool->List Aa->Bool×List Aa
 | ⟨k,t,nm,st,cs,ps⟩,d,c,l=>
  match(if k==11 then(if decide (d>=8) then(false,l) else AY ps (d+1) c false l) else(true,l)) with
  | (false,l1)=>(false,l1)
  | (true,l1)=>match(if Bx k then(if decide (d>=8) then(false,l1) else Dt cs k (d+1) c cs.length [] l1) else(true,l1)) with
   | (false,l2)=>(false,l2)
   | (true,l2)=>(true,if !(k==11)&&!(nm==[]) then Pu nm l2 else l2)
def AY:List Aj->Int->Bool->Bool->List Aa->Bool×List Aa
 | [],_,_,_,l=>(true,l)
 | p::ps,d,c,prev,l=>
  if !p.fieldsB||(p.kind==10&&!c)||(prev&&p.kind==1) then(false,l) else
  match p.chk d c l with
  | (false,l1)=>(false,l1)
  | (true,l1)=>AY ps d c (p.kind==1) l1
def Dt:List (Aa×List Aj)->Int->Int->Bool->Nat->List Aa->List Aa->Bool×List Aa
 | [],_,_,_,n,seen,l=>(decide ((n:Int)<=20)&&seen.contains En,l)
 | (key,ps)::cs,k,d,c,n,seen,l=>
  if !MF k key||seen.contains key then(false,l) else
  match AY ps d (c||(k !=9)) false l with
  | (false,l1)=>(false,l1)
  | (true,l1)=>Dt cs k d c n (seen++[key]) l1
end
theorem Aj.chk_eq(p:Aj)(d:Int)(c:Bool)(l:List Aa):p.chk d c l =
  match(if p.kind==11 then(if decide (d>=8) then(false,l) else AY p.parts (d+1) c false l) else(true,l)) with
  | (false,l1)=>(false,l1)
  | (true,l1)=>match(if Bx p.kind then(if decide (d>=8) then(false,l1) else Dt p.cases p.kind (d+1) c p.cases.length [] l1) else(true,l1)) with
   | (false,l2)=>(false,l2)
   | (true,l2)=>(true,if !(p.kind==11)&&!(p.name==[]) then Pu p.name l2 else l2):=by cases p;simp only[Aj.chk]
theorem Dy(p:Aj)(ps:List Aj)(d:Int)(c prev:Bool)(l:List Aa):AY (p::ps) d c prev l =
  if !p.fieldsB||(p.kind==10&&!c)||(prev&&p.kind==1) then(false,l) else
  match p.chk d c l with
  | (false,l1)=>(false,l1)
  | (true,l1)=>AY ps d c (p.kind==1) l1:=by simp only[AY]
theorem Ib(x:AQ)(cs:List AQ)(k d:Int)(c:Bool)(n:Nat)(seen l:List Aa):Dt (x::cs) k d c n seen l =
  if !MF k x.1||seen.contains x.1 then(false,l) else
  match AY x.2 d (c||(k !=9)) false l with
  | (false,l1)=>(false,l1)
  | (true,l1)=>Dt cs k d c n (seen++[x.1]) l1:=by obtain⟨a,b⟩:=x;simp only[Dt]
theorem PQ{id:Id}{a:Nat}(h:id.1<a)(j:Nat):((a,j)=id)=False:=by
 grind
theorem Mp{id:Id}{a:Nat}(h:id.1<a)(j:Nat):(id=(a,j))=False:=by
 grind
theorem AmF{id:Id}{e e':AC}:∀i,lk [(id,e')] i≠none->lk [(id,e)] i≠none:=by
 intro i h
 simp only[lk] at h⊢
 grind
theorem y9(p:Aj)(d:Int)(c:Bool)(l:List Aa)(id:Id)(hb:p.wt<=2^24)(hp:∀x∈p.cases,∀l,Am Tryz.prog W0 95 [.agg [.arr id],.sl (x.2.map Aj.enc),.i .i64 d,.b (c||(p.kind !=9))] [(id,.map (C5 l))] (.b (AY x.2 d (c||(p.kind !=9)) false l).1) [(id,.map (C5 (AY x.2 d (c||(p.kind !=9)) false l).2))]) :
  Am Tryz.prog W0 132 [.agg [.arr id],p.enc,.i .i64 d,.b c] [(id,.map (C5 l))] (.b (Dt p.cases p.kind d c p.cases.length [] l).1) [(id,.map (C5 (Dt p.cases p.kind d c p.cases.length [] l).2))]:=by
 rw[p.wt_eq] at hb
 have hlc:=FL p.cases
 generalize hS:Dt p.cases p.kind d c p.cases.length [] l=S
 refine Ai (vs:=[.b S.1]) AdY (by simp) AmF fun n0 hn0=>?_
 have hid:id.1<n0:=hn0 id (.map (C5 l)) (by simp[lk])
 clear hn0
 rw[Aj.enc_eq]
 have f1:∀j,((n0,j)=id)=False:=fun j=>PQ hid j
 have f1':∀j,(id=(n0,j))=False:=fun j=>Mp hid j
 simp only[push_cast,seval,reduceEqDiff,f1,f1']
 intro k1 k2 k3
 refine An p.cases.length (Inv:=fun m st=>∃cd cr n' seen l' m0,p.cases=cd++cr/\m=cr.length/\Dt cr p.kind d c p.cases.length seen l'=S/\id.1<m0/\id.1<n'/\st=⟨[(2,.i .i64 d),(3,.b c),(4,.ref (n0,4) 0),(5,.ref (n0,5) 0),(9,.arr (m0,12)),(14,.sl (p.cases.map AQ.enc)),(15,.i .i64 p.cases.length),(16,.i .i64 cd.length)],[(id,.map (C5 l')),((m0,12),.map (C5 seen)),((n0,5),.box p.v),((n0,4),.box (.agg [.arr id]))],n'⟩) ⟨_,Al.drop (oM (σ:=[_,_,_]) ?_) (AbG _),[],p.cases,_,[],l,_,rfl,rfl,hS,?_,?_,rfl⟩ ?_
 ·grind
 ·omega
 ·omega
 clear hS
 rintro m _ ⟨cd,cr,n',seen,l',m0,hcz,rfl,hd,hm0,hn',rfl⟩
 unfold Aj.v
 have f2:∀j,((m0,j)=id)=False:=fun j=>PQ hm0 j
 have f2':∀j,(id=(m0,j))=False:=fun j=>Mp hm0 j
 have f3:∀k j,((n'+1+k,j)=id)=False:=fun k j=>PQ (by omega) j
 have f3':∀k j,(id=(n'+1+k,j))=False:=fun k j=>Mp (by omega) j
 cases cr with
 | nil=>
  rw[Dt] at hd
  subst hd
  rcases FH En seen with⟨h1,_,i,h2,_⟩|⟨h1,_,h2⟩
  all_goals unfold En at h2
  ·skip
   simp only[push_cast,seval,reduceEqDiff,f1,f1',f2,f2',f3,f3',h2,hcz]
   repeat' (first|(((first|apply Ac|apply Ag|apply Af)<;>intro _h)<;>simp only[push_cast,seval,reduceEqDiff,_h,f1,f1',f2,f2',f3,f3',h2])|intro _)
   all_goals (refine AA ?_ Ce;simp only[B6,h1,if_true,if_false,AqV,Ara,reduceEqDiff];done)
  ·skip
   simp only[push_cast,seval,reduceEqDiff,f1,f1',f2,f2',f3,f3',h2,hcz]
   repeat' (first|(((first|apply Ac|apply Ag|apply Af)<;>intro _h)<;>simp only[push_cast,seval,reduceEqDiff,_h,f1,f1',f2,f2',f3,f3',h2])|intro _)
   all_goals (refine AA ?_ Ce;simp only[B6,h1,if_true,if_false,AqV,Ara,reduceEqDiff];done)
 | cons x cr=>
  have hcb:=AN hcz
  have hxm:x∈p.cases:=by rw[hcz];simp
  have hwc:=DO hxm
  have hk:=Aev W0 p.kind x.1 (by omega)
  have hpT:c=true->Am Tryz.prog W0 95 [.agg [.arr id],.sl (x.2.map Aj.enc),.i .i64 d,.b true] [(id,.map (C5 l'))] (.b (AY x.2 d (c||(p.kind !=9)) false l').1) [(id,.map (C5 (AY x.2 d (c||(p.kind !=9)) false l').2))]:=by
   intro hc;have:=hp x hxm l';grind
  have hpF:c=false->Am Tryz.prog W0 95 [.agg [.arr id],.sl (x.2.map Aj.enc),.i .i64 d,.b (p.kind !=9)] [(id,.map (C5 l'))] (.b (AY x.2 d (c||(p.kind !=9)) false l').1) [(id,.map (C5 (AY x.2 d (c||(p.kind !=9)) false l').2))]:=by
   intro hc;have:=hp x hxm l';grind
  rw[Ib] at hd
  clear hp
  generalize AY x.2 d (c||(p.kind !=9)) false l'=R at *
  generalize MF p.kind x.1=K2 at *
  have hy:∀k j,∀q∈[((n'+1+k,j),AC.box (.agg [V.s x.fst,V.sl (List.map Aj.enc x.snd)]))]++[((m0,12),AC.map (C5 seen)),((n0,5),.box (.agg [V.i IntKind.i64 p.kind,V.s p.text,V.s p.name,V.s p.style,V.sl (List.map AQ.enc (cd++x::cr)),V.sl (List.map Aj.enc p.parts)])),((n0,4),.box (.agg [.arr id]))],q.1≠id:=by
   simp_all
  rcases FH x.1 seen with⟨h1,_,i,h2,_⟩|⟨h1,_,h2⟩
  all_goals rw[h1] at hd
  ·rw[At0,if_pos rfl] at hd
   subst hd
   simp only[push_cast,seval,reduceEqDiff,hcz,f1,f1',f2,f2',f3,f3',h2,Ad x (done:=cd) (by omega),B8]
   have _h:=trivial;repeat' (first|(first|((first|apply Ac|apply Ag|apply Af)<;>intro _h)|refine Ab hk ?_)<;>simp only[push_cast,seval,reduceEqDiff,_h,hcz,f1,f1',f2,f2',f3,f3',h2,Ad x (done:=cd) (by omega),B8]|intro _)
   all_goals (refine AA ?_ (Dr (f3 _ _));simp only[B6,if_true];done)
  ·rw[AsZ] at hd
   obtain⟨rb,rl⟩:=R
   cases K2
   all_goals cases rb
   all_goals
    simp only[AsH,AsL,if_true,if_false,AcL] at hd
    skip
    simp only[push_cast,seval,reduceEqDiff,hcz,f1,f1',f2,f2',f3,f3',h2,Ad x (done:=cd) (by omega),B8]
    have _h:=trivial;repeat' (first|(first|((first|apply Ac|apply Ag|apply Af)<;>intro _h)|refine Ab hk ?_)<;>simp only[push_cast,seval,reduceEqDiff,_h,hcz,f1,f1',f2,f2',f3,f3',h2,Ad x (done:=cd) (by omega),B8]|intro _)
    all_goals (try (first|refine DA (pre:=[_]) (hpT (by assumption)) (hy _ _) ?_|refine DA (pre:=[_]) (hpF (by assumption)) (hy _ _) ?_))
    all_goals (try simp only[push_cast,seval,reduceEqDiff,hcz,f1,f1',f2,f2',f3,f3',h2,Ad x (done:=cd) (by omega),B8])
    repeat' (first|(((first|apply Ac|apply Ag|apply Af)<;>intro _h)<;>simp only[push_cast,seval,reduceEqDiff,_h,hcz,f1,f1',f2,f2',f3,f3',h2,Ad x (done:=cd) (by omega),B8])|intro _)
    all_goals (try (exfalso;simp_all;done))
    all_goals subst_vars
    all_goals (first|(refine AA (by simp[get]) ?_;first|exact Ce|exact Dr (f3 _ _))|exact⟨_,_,Acq _,Al.dropM (by simp[lk]) (AbG _),cd++[x],cr,_,seen++[x.1],rl,m0,by simp,rfl,by rw[hcz],hm0,by omega,rfl⟩|skip)
end Go.Ir
end
namespace Go.Ir
open Go.Proofs
variable(W0:World)
theorem pL{k:Int}(h:Bx k=true):(k==1)=false/\(k==10)=false/\(k==11)=false/\(k !=11)=true:=by
 unfold Bx at h
 grind
set_option maxHeartbeats 4000000 in
theorem Amc:∀(N:Nat) (ps:List Aj) (d:Int) (c:Bool) (l:List Aa) (id:Id),Bd ps<N->Bd ps<=2^24->0<=d->d<=2^30->
  Am Tryz.prog W0 95 [.agg [.arr id],.sl (ps.map Aj.enc),.i .i64 d,.b c] [(id,.map (C5 l))] (.b (AY ps d c false l).1) [(id,.map (C5 (AY ps d c false l).2))]:=by
 intro N
 induction N with
 | zero=>intro ps d c l id h;omega
 | succ N ih=>
 intro ps d c l id hN hb hd0 hd1
 have hlen:=EE ps
 generalize hS:AY ps d c false l=S
 refine Ai (vs:=[.b S.1]) AkC (by simp) AmF fun n0 hn0=>?_
 have hid:id.1<n0:=hn0 id (.map (C5 l)) (by simp[lk])
 clear hn0
 have f1:∀j,((n0,j)=id)=False:=fun j=>PQ hid j
 have f1':∀j,(id=(n0,j))=False:=fun j=>Mp hid j
 simp only[push_cast,seval,reduceEqDiff,f1,f1']
 intro k1 k2
 refine An ps.length (Inv:=fun m st=>∃done rest n' l',ps=done++rest/\m=rest.length/\AY rest d c (MT done) l'=S/\id.1<n'/\st=⟨[(1,.sl (ps.map Aj.enc)),(2,.i .i64 d),(3,.b c),(4,.ref (n0,4) 0),(11,.sl (ps.map Aj.enc)),(12,.i .i64 ps.length),(13,.i .i64 done.length)],[(id,.map (C5 l')),((n0,4),.box (.agg [.arr id]))],n'⟩) ⟨_,Al.drop (oM (σ:=[_]) ?_) (AbG _),[],ps,_,l,rfl,rfl,hS,?_,rfl⟩ ?_
 ·simp[f1]
 ·omega
 clear hS
 rintro m _ ⟨done,rest,n',l',hz,rfl,hd,hn',rfl⟩
 have f3:∀k j,((n'+1+k,j)=id)=False:=fun k j=>PQ (by omega) j
 have f3':∀k j,(id=(n'+1+k,j))=False:=fun k j=>Mp (by omega) j
 cases rest with
 | nil=>
  rw[AY] at hd
  subst hd
  simp only[push_cast,seval,reduceEqDiff,f1,f1',f3,f3',hz]
  repeat' (first|(((first|apply Ac|apply Ag|apply Af)<;>intro _h)<;>simp only[push_cast,seval,reduceEqDiff,_h,f1,f1',f3,f3'])|intro _)
  all_goals (refine AA (by simp[get]) Ce)
 | cons p rest=>
  have hbd:=AN hz
  have hw:=GV (ps:=ps) (p:=p) (by rw[hz];simp)
  have hw0:=hw
  rw[p.wt_eq] at hw
  have hlt:MT (done++[p])=(p.kind==1):=by simp[MT]
  rw[Dy] at hd
  have hlp:(decide ((done.length:Int)>0)=false/\MT done=false)\/(∃q:Aj,decide ((done.length:Int)>0)=true/\(List.map Aj.enc (done++p::rest))[(IntKind.i64.wrap ((done.length:Int)-1)).toNat]?=some q.enc/\(0<=IntKind.i64.wrap ((done.length:Int)-1))=True/\MT done=(q.kind==1)):=by
   rcases AtV done with rfl|⟨d',q,rfl⟩
   ·exact .inl ⟨rfl,rfl⟩
   ·rw[AtW] at *
    have:IntKind.i64.wrap (((d'++[q]).length:Int)-1)=(d'.length:Int):=by
     rw[wrap64]<;>simp at *<;>omega
    refine .inr ⟨q,by simp<;>omega,?_,?_,by simp[MT]⟩
    ·rw[this];simp
    ·rw[this];simp
  have hfl:=sX W0 p (by unfold A9;omega) (by unfold A9;omega)
  rw[Aj.enc_eq] at hfl
  have hsel:=Dh W0 p.kind
  have ew:IntKind.i64.wrap (d+1)=d+1:=wrap64 (by omega) (by omega)
  rw[p.chk_eq] at hd
  have hx:∀k j (X:AC),∀q∈[((n'+1+k,j),X)]++[((n0,4),AC.box (.agg [.arr id]))],q.1≠id:=by
   intro k j X q hq
   simp at hq
   rcases hq with rfl|rfl
   all_goals simp[f1,f3]
  have h8:d<8/\decide (d>=8)=false\/decide (d>=8)=true:=by
   by_cases h:d<8
   ·exact .inl ⟨h,by simp;omega⟩
   ·exact .inr (by simp;omega)
  by_cases Ti:p.kind=11
  ·have hin:=fun(h8:d<8)=>ih p.parts (d+1) c l' id (by omega) (by omega) (by omega) (by omega)
   have s11:Bx 11=false:=rfl
   have q1:(p.kind==1)=false:=by rw[Ti];rfl
   rw[Ti] at hd hfl hsel
   rw[s11] at hsel hd
   clear hlp
   generalize p.fieldsB=FB at *
   generalize AY p.parts (d+1) c false l'=R at *
   obtain⟨rb,rl⟩:=R
   cases FB
   ·simp only[bq,if_true,if_false,Int.reduceBEq,reduceCtorEq] at hd
    simp only[push_cast,seval,reduceEqDiff,hz,f1,f1',f3,f3',Ad p (done:=done) (by omega),ew,Ti,Int.reduceBEq,Int.reduceBNe]
    have _h:=trivial;repeat' (first|(first|((first|apply Ac|apply Ag|apply Af)<;>intro _h)|refine Ab hfl ?_|refine Ab hsel ?_)<;>simp only[push_cast,seval,reduceEqDiff,_h,hz,f1,f1',f3,f3',Ad p (done:=done) (by omega),ew,Ti,Int.reduceBEq,Int.reduceBNe]|intro _)
    all_goals (first|(subst hd;refine AA (by simp[get]) ?_;first|exact Ce|exact Dr (f3 _ _))|exact⟨_,_,Acq _,Al.dropM (by simp[lk]) (AbG _),done++[p],rest,_,_,by simp,rfl,by rw[hlt,q1];exact hd,by omega,rfl⟩|exact⟨_,_,Acq _,Al.drop1 (by simp[lk,f3']) (AbG _),done++[p],rest,_,_,by simp,rfl,by rw[hlt,q1];exact hd,by omega,rfl⟩|skip)
   ·rcases h8 with⟨h8,e8⟩|e8
    ·cases rb
     all_goals
      rw[e8] at hd
      simp only[bq,if_true,if_false,Int.reduceBEq,reduceCtorEq] at hd
      skip
      simp only[push_cast,seval,reduceEqDiff,hz,f1,f1',f3,f3',Ad p (done:=done) (by omega),ew,Ti,Int.reduceBEq,Int.reduceBNe,e8]
      have _h:=trivial;repeat' (first|(first|((first|apply Ac|apply Ag|apply Af)<;>intro _h)|refine Ab hfl ?_|refine Ab hsel ?_)<;>simp only[push_cast,seval,reduceEqDiff,_h,hz,f1,f1',f3,f3',Ad p (done:=done) (by omega),ew,Ti,Int.reduceBEq,Int.reduceBNe,e8]|intro _)
      all_goals (refine DA (pre:=[_]) (hin h8) (hx _ _ _) ?_;simp only[push_cast,seval,reduceEqDiff,hz,f1,f1',f3,f3',Ad p (done:=done) (by omega),ew,Ti,Int.reduceBEq,Int.reduceBNe,e8])
      have _h:=trivial;repeat' (first|(first|((first|apply Ac|apply Ag|apply Af)<;>intro _h)|refine Ab hsel ?_)<;>simp only[push_cast,seval,reduceEqDiff,_h,hz,f1,f1',f3,f3',Ad p (done:=done) (by omega),ew,Ti,Int.reduceBEq,Int.reduceBNe,e8]|intro _)
      all_goals (first|(subst hd;refine AA (by simp[get]) ?_;first|exact Ce|exact Dr (f3 _ _))|exact⟨_,_,Acq _,Al.dropM (by simp[lk]) (AbG _),done++[p],rest,_,_,by simp,rfl,by rw[hlt,q1];exact hd,by omega,rfl⟩|exact⟨_,_,Acq _,Al.drop1 (by simp[lk,f3']) (AbG _),done++[p],rest,_,_,by simp,rfl,by rw[hlt,q1];exact hd,by omega,rfl⟩|skip)
    ·rw[e8] at hd
     simp only[bq,if_true,if_false,Int.reduceBEq,reduceCtorEq] at hd
     simp only[push_cast,seval,reduceEqDiff,hz,f1,f1',f3,f3',Ad p (done:=done) (by omega),ew,Ti,Int.reduceBEq,Int.reduceBNe,e8]
     have _h:=trivial;repeat' (first|(first|((first|apply Ac|apply Ag|apply Af)<;>intro _h)|refine Ab hfl ?_|refine Ab hsel ?_)<;>simp only[push_cast,seval,reduceEqDiff,_h,hz,f1,f1',f3,f3',Ad p (done:=done) (by omega),ew,Ti,Int.reduceBEq,Int.reduceBNe,e8]|intro _)
     all_goals (first|(subst hd;refine AA (by simp[get]) ?_;first|exact Ce|exact Dr (f3 _ _))|exact⟨_,_,Acq _,Al.dropM (by simp[lk]) (AbG _),done++[p],rest,_,_,by simp,rfl,by rw[hlt,q1];exact hd,by omega,rfl⟩|exact⟨_,_,Acq _,Al.drop1 (by simp[lk,f3']) (AbG _),done++[p],rest,_,_,by simp,rfl,by rw[hlt,q1];exact hd,by omega,rfl⟩|skip)
  ·have q11:(p.kind==11)=false:=by simpa using Ti
   have qn:(p.kind !=11)=true:=by simp[bne,q11]
   rcases Ary (Bx p.kind) with hs|hs
   ·obtain⟨q1,q10,_,_⟩:=pL hs
    have hin:=fun(h8:d<8)=>y9 W0 p (d+1) c l' id (by omega) (fun x hx l=>ih x.2 (d+1) _ l id (by have:=DO hx;omega) (by have:=DO hx;omega) (by omega) (by omega))
    clear hlp ih
    rw[Aj.enc_eq] at hin
    rw[hs] at hsel hd
    simp only[bq,if_true,if_false,Int.reduceBEq,reduceCtorEq,q1,q10,q11] at hd
    generalize p.fieldsB=FB at *
    generalize Dt p.cases p.kind (d+1) c p.cases.length [] l'=R at *
    obtain⟨rb,rl⟩:=R
    cases FB
    ·simp only[bq,if_true,if_false,Int.reduceBEq,reduceCtorEq,q1,q10,q11] at hd
     simp only[push_cast,seval,reduceEqDiff,hz,f1,f1',f3,f3',Ad p (done:=done) (by omega),ew,q1,q10,q11,qn,Int.reduceBEq,Int.reduceBNe]
     have _h:=trivial;repeat' (first|(first|((first|apply Ac|apply Ag|apply Af)<;>intro _h)|refine Ab hfl ?_|refine Ab hsel ?_)<;>simp only[push_cast,seval,reduceEqDiff,_h,hz,f1,f1',f3,f3',Ad p (done:=done) (by omega),ew,q1,q10,q11,qn,Int.reduceBEq,Int.reduceBNe]|intro _)
     all_goals (first|(subst hd;refine AA (by simp[get]) ?_;first|exact Ce|exact Dr (f3 _ _))|exact⟨_,_,Acq _,Al.dropM (by simp[lk]) (AbG _),done++[p],rest,_,_,by simp,rfl,by rw[hlt,q1];exact hd,by omega,rfl⟩|exact⟨_,_,Acq _,Al.drop1 (by simp[lk,f3']) (AbG _),done++[p],rest,_,_,by simp,rfl,by rw[hlt,q1];exact hd,by omega,rfl⟩|skip)
    ·rcases h8 with⟨h8,e8⟩|e8
     ·simp only[bq,if_true,if_false,Int.reduceBEq,reduceCtorEq,e8] at hd
      cases rb
      ·simp only[bq,if_true,if_false,Int.reduceBEq,reduceCtorEq] at hd
       simp only[push_cast,seval,reduceEqDiff,hz,f1,f1',f3,f3',Ad p (done:=done) (by omega),ew,q1,q10,q11,qn,Int.reduceBEq,Int.reduceBNe,e8]
       have _h:=trivial;repeat' (first|(first|((first|apply Ac|apply Ag|apply Af)<;>intro _h)|refine Ab hfl ?_|refine Ab hsel ?_)<;>simp only[push_cast,seval,reduceEqDiff,_h,hz,f1,f1',f3,f3',Ad p (done:=done) (by omega),ew,q1,q10,q11,qn,Int.reduceBEq,Int.reduceBNe,e8]|intro _)
       all_goals (refine DA (pre:=[_]) (hin h8) (hx _ _ _) ?_;simp only[push_cast,seval,reduceEqDiff,hz,f1,f1',f3,f3',Ad p (done:=done) (by omega),ew,q1,q10,q11,qn,Int.reduceBEq,Int.reduceBNe,e8])
       repeat' (first|(((first|apply Ac|apply Ag|apply Af)<;>intro _h)<;>simp only[push_cast,seval,reduceEqDiff,_h,hz,f1,f1',f3,f3',Ad p (done:=done) (by omega),ew,q1,q10,q11,qn,Int.reduceBEq,Int.reduceBNe,e8])|intro _)
       all_goals (first|(subst hd;refine AA (by simp[get]) ?_;first|exact Ce|exact Dr (f3 _ _))|exact⟨_,_,Acq _,Al.dropM (by simp[lk]) (AbG _),done++[p],rest,_,_,by simp,rfl,by rw[hlt,q1];exact hd,by omega,rfl⟩|exact⟨_,_,Acq _,Al.drop1 (by simp[lk,f3']) (AbG _),done++[p],rest,_,_,by simp,rfl,by rw[hlt,q1];exact hd,by omega,rfl⟩|skip)
      ·simp only[bq,if_true,if_false,Int.reduceBEq,reduceCtorEq] at hd
       rcases Ary (p.name==[]) with hn|hn
       ·simp only[bq,if_true,if_false,Int.reduceBEq,reduceCtorEq,hn] at hd
        simp only[push_cast,seval,reduceEqDiff,hz,f1,f1',f3,f3',Ad p (done:=done) (by omega),ew,q1,q10,q11,qn,Int.reduceBEq,Int.reduceBNe,e8,hn]
        have _h:=trivial;repeat' (first|(first|((first|apply Ac|apply Ag|apply Af)<;>intro _h)|refine Ab hfl ?_|refine Ab hsel ?_)<;>simp only[push_cast,seval,reduceEqDiff,_h,hz,f1,f1',f3,f3',Ad p (done:=done) (by omega),ew,q1,q10,q11,qn,Int.reduceBEq,Int.reduceBNe,e8,hn]|intro _)
        all_goals (refine DA (pre:=[_]) (hin h8) (hx _ _ _) ?_;simp only[push_cast,seval,reduceEqDiff,hz,f1,f1',f3,f3',Ad p (done:=done) (by omega),ew,q1,q10,q11,qn,Int.reduceBEq,Int.reduceBNe,e8,hn])
        repeat' (first|(((first|apply Ac|apply Ag|apply Af)<;>intro _h)<;>simp only[push_cast,seval,reduceEqDiff,_h,hz,f1,f1',f3,f3',Ad p (done:=done) (by omega),ew,q1,q10,q11,qn,Int.reduceBEq,Int.reduceBNe,e8,hn])|intro _)
        all_goals (first|(subst hd;refine AA (by simp[get]) ?_;first|exact Ce|exact Dr (f3 _ _))|exact⟨_,_,Acq _,Al.dropM (by simp[lk]) (AbG _),done++[p],rest,_,_,by simp,rfl,by rw[hlt,q1];exact hd,by omega,rfl⟩|exact⟨_,_,Acq _,Al.drop1 (by simp[lk,f3']) (AbG _),done++[p],rest,_,_,by simp,rfl,by rw[hlt,q1];exact hd,by omega,rfl⟩|skip)
       ·simp only[bq,if_true,if_false,Int.reduceBEq,reduceCtorEq,hn] at hd
        rcases FH p.name rl with⟨_,hpu,i,h2,h3⟩|⟨_,hpu,h2⟩
        ·rw[hpu] at hd
         simp only[push_cast,seval,reduceEqDiff,hz,f1,f1',f3,f3',Ad p (done:=done) (by omega),ew,q1,q10,q11,qn,Int.reduceBEq,Int.reduceBNe,e8,hn,h2,h3]
         have _h:=trivial;repeat' (first|(first|((first|apply Ac|apply Ag|apply Af)<;>intro _h)|refine Ab hfl ?_|refine Ab hsel ?_)<;>simp only[push_cast,seval,reduceEqDiff,_h,hz,f1,f1',f3,f3',Ad p (done:=done) (by omega),ew,q1,q10,q11,qn,Int.reduceBEq,Int.reduceBNe,e8,hn,h2,h3]|intro _)
         all_goals (refine DA (pre:=[_]) (hin h8) (hx _ _ _) ?_;simp only[push_cast,seval,reduceEqDiff,hz,f1,f1',f3,f3',Ad p (done:=done) (by omega),ew,q1,q10,q11,qn,Int.reduceBEq,Int.reduceBNe,e8,hn,h2,h3])
         repeat' (first|(((first|apply Ac|apply Ag|apply Af)<;>intro _h)<;>simp only[push_cast,seval,reduceEqDiff,_h,hz,f1,f1',f3,f3',Ad p (done:=done) (by omega),ew,q1,q10,q11,qn,Int.reduceBEq,Int.reduceBNe,e8,hn,h2,h3])|intro _)
         all_goals (first|(subst hd;refine AA (by simp[get]) ?_;first|exact Ce|exact Dr (f3 _ _))|exact⟨_,_,Acq _,Al.dropM (by simp[lk]) (AbG _),done++[p],rest,_,_,by simp,rfl,by rw[hlt,q1];exact hd,by omega,rfl⟩|exact⟨_,_,Acq _,Al.drop1 (by simp[lk,f3']) (AbG _),done++[p],rest,_,_,by simp,rfl,by rw[hlt,q1];exact hd,by omega,rfl⟩|skip)
        ·rw[hpu] at hd
         simp only[push_cast,seval,reduceEqDiff,hz,f1,f1',f3,f3',Ad p (done:=done) (by omega),ew,q1,q10,q11,qn,Int.reduceBEq,Int.reduceBNe,e8,hn,h2,B8]
         have _h:=trivial;repeat' (first|(first|((first|apply Ac|apply Ag|apply Af)<;>intro _h)|refine Ab hfl ?_|refine Ab hsel ?_)<;>simp only[push_cast,seval,reduceEqDiff,_h,hz,f1,f1',f3,f3',Ad p (done:=done) (by omega),ew,q1,q10,q11,qn,Int.reduceBEq,Int.reduceBNe,e8,hn,h2,B8]|intro _)
         all_goals (refine DA (pre:=[_]) (hin h8) (hx _ _ _) ?_;simp only[push_cast,seval,reduceEqDiff,hz,f1,f1',f3,f3',Ad p (done:=done) (by omega),ew,q1,q10,q11,qn,Int.reduceBEq,Int.reduceBNe,e8,hn,h2,B8])
         repeat' (first|(((first|apply Ac|apply Ag|apply Af)<;>intro _h)<;>simp only[push_cast,seval,reduceEqDiff,_h,hz,f1,f1',f3,f3',Ad p (done:=done) (by omega),ew,q1,q10,q11,qn,Int.reduceBEq,Int.reduceBNe,e8,hn,h2,B8])|intro _)
         all_goals (first|(subst hd;refine AA (by simp[get]) ?_;first|exact Ce|exact Dr (f3 _ _))|exact⟨_,_,Acq _,Al.dropM (by simp[lk]) (AbG _),done++[p],rest,_,_,by simp,rfl,by rw[hlt,q1];exact hd,by omega,rfl⟩|exact⟨_,_,Acq _,Al.drop1 (by simp[lk,f3']) (AbG _),done++[p],rest,_,_,by simp,rfl,by rw[hlt,q1];exact hd,by omega,rfl⟩|skip)
     ·simp only[bq,if_true,if_false,Int.reduceBEq,reduceCtorEq,e8] at hd
      simp only[push_cast,seval,reduceEqDiff,hz,f1,f1',f3,f3',Ad p (done:=done) (by omega),ew,q1,q10,q11,qn,Int.reduceBEq,Int.reduceBNe,e8]
      have _h:=trivial;repeat' (first|(first|((first|apply Ac|apply Ag|apply Af)<;>intro _h)|refine Ab hfl ?_|refine Ab hsel ?_)<;>simp only[push_cast,seval,reduceEqDiff,_h,hz,f1,f1',f3,f3',Ad p (done:=done) (by omega),ew,q1,q10,q11,qn,Int.reduceBEq,Int.reduceBNe,e8]|intro _)
      all_goals (first|(subst hd;refine AA (by simp[get]) ?_;first|exact Ce|exact Dr (f3 _ _))|exact⟨_,_,Acq _,Al.dropM (by simp[lk]) (AbG _),done++[p],rest,_,_,by simp,rfl,by rw[hlt,q1];exact hd,by omega,rfl⟩|exact⟨_,_,Acq _,Al.drop1 (by simp[lk,f3']) (AbG _),done++[p],rest,_,_,by simp,rfl,by rw[hlt,q1];exact hd,by omega,rfl⟩|skip)
   ·clear ih
    rw[hs] at hsel hd
    generalize p.fieldsB=FB at *
    cases FB
    ·simp only[bq,if_true,if_false,Int.reduceBEq,reduceCtorEq,q11] at hd
     simp only[push_cast,seval,reduceEqDiff,hz,f1,f1',f3,f3',Ad p (done:=done) (by omega),ew,q11,qn,Int.reduceBEq,Int.reduceBNe]
     have _h:=trivial;repeat' (first|(first|((first|apply Ac|apply Ag|apply Af)<;>intro _h)|refine Ab hfl ?_|refine Ab hsel ?_)<;>simp only[push_cast,seval,reduceEqDiff,_h,hz,f1,f1',f3,f3',Ad p (done:=done) (by omega),ew,q11,qn,Int.reduceBEq,Int.reduceBNe]|intro _)
     all_goals (first|(subst hd;refine AA (by simp[get]) ?_;first|exact Ce|exact Dr (f3 _ _))|exact⟨_,_,Acq _,Al.dropM (by simp[lk]) (AbG _),done++[p],rest,_,_,by simp,rfl,by rw[hlt];exact hd,by omega,rfl⟩|exact⟨_,_,Acq _,Al.drop1 (by simp[lk,f3']) (AbG _),done++[p],rest,_,_,by simp,rfl,by rw[hlt];exact hd,by omega,rfl⟩|skip)
    ·simp only[bq,if_true,if_false,Int.reduceBEq,reduceCtorEq,q11] at hd
     generalize hG:AY rest d c (p.kind==1)=G at hd
     rcases hlp with⟨e1,hl⟩|⟨q,e1,e2,e3,hl⟩
     case' inl=>
      have e2:=e1
      have e3:=e1
     all_goals rw[hl] at hd
     all_goals rcases Ary (p.name==[]) with hn|hn
     ·simp only[bq,if_true,if_false,Int.reduceBEq,reduceCtorEq,hn] at hd
      skip
      simp only[push_cast,seval,reduceEqDiff,hz,f1,f1',f3,f3',Ad p (done:=done) (by omega),ew,q11,qn,Int.reduceBEq,Int.reduceBNe,e1,e2,e3,hn]
      have _h:=trivial;repeat' (first|(first|((first|apply Ac|apply Ag|apply Af)<;>intro _h)|refine Ab hfl ?_|refine Ab hsel ?_)<;>simp only[push_cast,seval,reduceEqDiff,_h,hz,f1,f1',f3,f3',Ad p (done:=done) (by omega),ew,q11,qn,Int.reduceBEq,Int.reduceBNe,e1,e2,e3,hn]|intro _)
      all_goals (try simp only[AmN,AsE] at *)
      all_goals (try simp only[*,bq,if_true,if_false,Int.reduceBEq,reduceCtorEq] at hd)
      all_goals (first|(subst hd;refine AA (by simp[get]) ?_;first|exact Ce|exact Dr (f3 _ _))|exact⟨_,_,Acq _,Al.dropM (by simp[lk]) (AbG _),done++[p],rest,_,_,by simp,rfl,by rw[hlt,hG];exact hd,by omega,rfl⟩|exact⟨_,_,Acq _,Al.drop1 (by simp[lk,f3']) (AbG _),done++[p],rest,_,_,by simp,rfl,by rw[hlt,hG];exact hd,by omega,rfl⟩|skip)
     ·rcases FH p.name l' with⟨_,hpu,i,h2,h3⟩|⟨_,hpu,h2⟩
      all_goals simp only[bq,if_true,if_false,Int.reduceBEq,reduceCtorEq,hn,hpu] at hd
      ·skip
       simp only[push_cast,seval,reduceEqDiff,hz,f1,f1',f3,f3',Ad p (done:=done) (by omega),ew,q11,qn,Int.reduceBEq,Int.reduceBNe,e1,e2,e3,hn,h2,h3]
       have _h:=trivial;repeat' (first|(first|((first|apply Ac|apply Ag|apply Af)<;>intro _h)|refine Ab hfl ?_|refine Ab hsel ?_)<;>simp only[push_cast,seval,reduceEqDiff,_h,hz,f1,f1',f3,f3',Ad p (done:=done) (by omega),ew,q11,qn,Int.reduceBEq,Int.reduceBNe,e1,e2,e3,hn,h2,h3]|intro _)
       all_goals (try simp only[AmN,AsE] at *)
       all_goals (try simp only[*,bq,if_true,if_false,Int.reduceBEq,reduceCtorEq] at hd)
       all_goals (first|(subst hd;refine AA (by simp[get]) ?_;first|exact Ce|exact Dr (f3 _ _))|exact⟨_,_,Acq _,Al.dropM (by simp[lk]) (AbG _),done++[p],rest,_,_,by simp,rfl,by rw[hlt,hG];exact hd,by omega,rfl⟩|exact⟨_,_,Acq _,Al.drop1 (by simp[lk,f3']) (AbG _),done++[p],rest,_,_,by simp,rfl,by rw[hlt,hG];exact hd,by omega,rfl⟩|skip)
      ·skip
       simp only[push_cast,seval,reduceEqDiff,hz,f1,f1',f3,f3',Ad p (done:=done) (by omega),ew,q11,qn,Int.reduceBEq,Int.reduceBNe,e1,e2,e3,hn,h2,B8]
       have _h:=trivial;repeat' (first|(first|((first|apply Ac|apply Ag|apply Af)<;>intro _h)|refine Ab hfl ?_|refine Ab hsel ?_)<;>simp only[push_cast,seval,reduceEqDiff,_h,hz,f1,f1',f3,f3',Ad p (done:=done) (by omega),ew,q11,qn,Int.reduceBEq,Int.reduceBNe,e1,e2,e3,hn,h2,B8]|intro _)
       all_goals (try simp only[AmN,AsE] at *)
       all_goals (try simp only[*,bq,if_true,if_false,Int.reduceBEq,reduceCtorEq] at hd)
       all_goals (first|(subst hd;refine AA (by simp[get]) ?_;first|exact Ce|exact Dr (f3 _ _))|exact⟨_,_,Acq _,Al.dropM (by simp[lk]) (AbG _),done++[p],rest,_,_,by simp,rfl,by rw[hlt,hG];exact hd,by omega,rfl⟩|exact⟨_,_,Acq _,Al.drop1 (by simp[lk,f3']) (AbG _),done++[p],rest,_,_,by simp,rfl,by rw[hlt,hG];exact hd,by omega,rfl⟩|skip)
     ·simp only[bq,if_true,if_false,Int.reduceBEq,reduceCtorEq,hn] at hd
      skip
      simp only[push_cast,seval,reduceEqDiff,hz,f1,f1',f3,f3',Ad p (done:=done) (by omega),ew,q11,qn,Int.reduceBEq,Int.reduceBNe,e1,e2,e3,hn]
      have _h:=trivial;repeat' (first|(first|((first|apply Ac|apply Ag|apply Af)<;>intro _h)|refine Ab hfl ?_|refine Ab hsel ?_)<;>simp only[push_cast,seval,reduceEqDiff,_h,hz,f1,f1',f3,f3',Ad p (done:=done) (by omega),ew,q11,qn,Int.reduceBEq,Int.reduceBNe,e1,e2,e3,hn]|intro _)
      all_goals (try simp only[AmN,AsE] at *)
      all_goals (try simp only[*,bq,if_true,if_false,Int.reduceBEq,reduceCtorEq] at hd)
      all_goals (first|(subst hd;refine AA (by simp[get]) ?_;first|exact Ce|exact Dr (f3 _ _))|exact⟨_,_,Acq _,Al.dropM (by simp[lk]) (AbG _),done++[p],rest,_,_,by simp,rfl,by rw[hlt,hG];exact hd,by omega,rfl⟩|exact⟨_,_,Acq _,Al.drop1 (by simp[lk,f3']) (AbG _),done++[p],rest,_,_,by simp,rfl,by rw[hlt,hG];exact hd,by omega,rfl⟩|skip)
     ·rcases FH p.name l' with⟨_,hpu,i,h2,h3⟩|⟨_,hpu,h2⟩
      all_goals simp only[bq,if_true,if_false,Int.reduceBEq,reduceCtorEq,hn,hpu] at hd
      ·skip
       simp only[push_cast,seval,reduceEqDiff,hz,f1,f1',f3,f3',Ad p (done:=done) (by omega),ew,q11,qn,Int.reduceBEq,Int.reduceBNe,e1,e2,e3,hn,h2,h3]
       have _h:=trivial;repeat' (first|(first|((first|apply Ac|apply Ag|apply Af)<;>intro _h)|refine Ab hfl ?_|refine Ab hsel ?_)<;>simp only[push_cast,seval,reduceEqDiff,_h,hz,f1,f1',f3,f3',Ad p (done:=done) (by omega),ew,q11,qn,Int.reduceBEq,Int.reduceBNe,e1,e2,e3,hn,h2,h3]|intro _)
       all_goals (try simp only[AmN,AsE] at *)
       all_goals (try simp only[*,bq,if_true,if_false,Int.reduceBEq,reduceCtorEq] at hd)
       all_goals (first|(subst hd;refine AA (by simp[get]) ?_;first|exact Ce|exact Dr (f3 _ _))|exact⟨_,_,Acq _,Al.dropM (by simp[lk]) (AbG _),done++[p],rest,_,_,by simp,rfl,by rw[hlt,hG];exact hd,by omega,rfl⟩|exact⟨_,_,Acq _,Al.drop1 (by simp[lk,f3']) (AbG _),done++[p],rest,_,_,by simp,rfl,by rw[hlt,hG];exact hd,by omega,rfl⟩|skip)
      ·skip
       simp only[push_cast,seval,reduceEqDiff,hz,f1,f1',f3,f3',Ad p (done:=done) (by omega),ew,q11,qn,Int.reduceBEq,Int.reduceBNe,e1,e2,e3,hn,h2,B8]
       have _h:=trivial;repeat' (first|(first|((first|apply Ac|apply Ag|apply Af)<;>intro _h)|refine Ab hfl ?_|refine Ab hsel ?_)<;>simp only[push_cast,seval,reduceEqDiff,_h,hz,f1,f1',f3,f3',Ad p (done:=done) (by omega),ew,q11,qn,Int.reduceBEq,Int.reduceBNe,e1,e2,e3,hn,h2,B8]|intro _)
       all_goals (try simp only[AmN,AsE] at *)
       all_goals (try simp only[*,bq,if_true,if_false,Int.reduceBEq,reduceCtorEq] at hd)
       all_goals (first|(subst hd;refine AA (by simp[get]) ?_;first|exact Ce|exact Dr (f3 _ _))|exact⟨_,_,Acq _,Al.dropM (by simp[lk]) (AbG _),done++[p],rest,_,_,by simp,rfl,by rw[hlt,hG];exact hd,by omega,rfl⟩|exact⟨_,_,Acq _,Al.drop1 (by simp[lk,f3']) (AbG _),done++[p],rest,_,_,by simp,rfl,by rw[hlt,hG];exact hd,by omega,rfl⟩|skip)
end Go.Ir

namespace Go.Ir
open Go.Proofs
variable{P:Program}{W0:World}{nt n:Nat}{Q:Exit→St→Prop}{env:AD}{σ:Ak}
end Go.Ir

namespace Go.Ir
open Go.Proofs
variable(W0:World)
def GS:Aa->Aa
 | []=>[]
 | c::s=>(if PD c.toNat then[92,c] else[c])++GS s
def Zb(k:Int):Aa:=
 if k==3 then[110,117,109,98,101,114] else if k==4 then[117,110,105,116] else if k==5 then[100,97,116,101] else if k==6 then[108,105,115,116]
 else if k==7 then[112,108,117,114,97,108] else if k==8 then[111,114,100,105,110,97,108] else[115,101,108,101,99,116]
theorem Mj(k:Int):(Zb k).length<=7:=by
 unfold Zb;repeat' split
 all_goals simp
theorem Qw(s:Aa):(GS s).length<=2*s.length:=by
 induction s with
 | nil=>simp[GS]
 | cons c s ih=>rw[GS];split<;>simp<;>omega
end Go.Ir
namespace Go.Proofs
open Go.Shelf
def Tryz.lays169_ren:Go.Shelf.Ren:=⟨fun|169=>45|n=>n,fun|70=>95|9=>9|0=>0|72=>98|37=>96|127=>158|3=>3|5=>5|n=>n,fun|n=>n⟩
theorem Tryz.lays169:Go.Proofs.Lays.n169 Tryz.prog Tryz.lays169_ren:={
 mixed:=by kernel_rfl
 f169:=Tryz.func45.trans (congrArg some (by kernel_rfl))
 t0:=Tryz.underlying0
 a0:=Tryz.isAgg0
 z0:=Tryz.sizeOf0
 v0:=Tryz.zeroValue0
 t3:=Tryz.underlying3
 a3:=Tryz.isAgg3
 z3:=Tryz.sizeOf3
 v3:=Tryz.zeroValue3
 t9:=Tryz.underlying9
 a9:=Tryz.isAgg9
 z9:=Tryz.sizeOf9
 v9:=Tryz.zeroValue9
 t37:=Tryz.underlying96
 a37:=Tryz.isAgg96
 z37:=Tryz.sizeOf96
 v37:=Tryz.zeroValue96
 t70:=Tryz.underlying95
 a70:=Tryz.isAgg95
 z70:=Tryz.sizeOf95
 v70:=Tryz.zeroValue95
 t72:=Tryz.underlying98
 a72:=Tryz.isAgg98
 z72:=Tryz.sizeOf98
 v72:=Tryz.zeroValue98
 t127:=Tryz.underlying158
 a127:=Tryz.isAgg158
 z127:=Tryz.sizeOf158
 v127:=Tryz.zeroValue158 }
end Go.Proofs
namespace Go.Ir
open Go.Proofs Go.RowKit
theorem FN:Go.Proofs.Builder.Extra Tryz.prog Tryz.lays169_ren where
 sizeBuilder:=by kernel_rfl
 liesBuilder:=by kernel_rfl
 t5:=Tryz.underlying5
 a5:=Tryz.isAgg5
 z5:=Tryz.sizeOf5
 v5:=Tryz.zeroValue5
 infoByte:=by kernel_rfl
 cellsByte:=by kernel_rfl
 sizeByte:=by kernel_rfl
 neB5:=by decide
set_option maxHeartbeats 1000000 in
set_option maxRecDepth 100000 in
theorem oV(b:Nat)(w:World)(h0:w.cell? ⟨b,0,none⟩=some (.pointer (some ⟨b,0,none⟩))) :
  Calls Tryz.prog 180 #[.pointer (some ⟨b,0,none⟩)] w fun e w'=>e=.returned (.tuple #[])/\w'=w:=by
 obtain⟨j,hj,_⟩:=Adc.1 FN.sizeBuilder
 go_enter Tryz.func180,Tryz.ntmps180
 go_wp2
 rw[Lib.run_neq_ptr_same w _ Tryz.underlying95 hj]
 go_wp2
 go_end0
 exact⟨rfl,rfl⟩
set_option maxHeartbeats 1000000 in
set_option maxRecDepth 100000 in
theorem YQ(b:Nat)(w:World)(h0:w.cell? ⟨b,0,none⟩=some (.pointer none))(hsh:w.shape? b=some (98,2))(hfz:w.frozen? ⟨b,0,none⟩=false) :
  Calls Tryz.prog 180 #[.pointer (some ⟨b,0,none⟩)] w fun e w'=>e=.returned (.tuple #[])/\w'=w.setCell ⟨b,0,none⟩ (.pointer (some ⟨b,0,none⟩)):=by
 obtain⟨j,hj,hjs⟩:=Adc.1 FN.sizeBuilder
 go_enter Tryz.func180,Tryz.ntmps180
 go_wp2
 rw[Lib.run_to_unsafe w ⟨b,0,none⟩ Tryz.underlying95 Tryz.underlying315 hj (by rw[hjs];decide) hsh (Nat.zero_lt_succ 1)]
 simp only[Result.andThen]
 rw[At8]
 go_wp2
 rw[run_callFunc_extern Tryz.func236 (by kernel_rfl) (by kernel_rfl) (by kernel_rfl) (e:=Extern.AbiNoEscape.same) (by kernel_rfl),Lib.run_noEscape]
 simp only[Result.andThen]
 rw[At8]
 go_wp2
 rw[Lib.run_from_unsafe w ⟨b,0,none⟩ Tryz.underlying315 Tryz.underlying95 hj hsh FN.liesBuilder]
 simp only[Result.andThen]
 rw[At8]
 go_wp2
 go_end0
 exact⟨rfl,rfl⟩
theorem Zj(B b:Nat)(bs:List Value)(w:World)(h:Lib.IsBuilder 98 5 B b bs w) :
  Calls Tryz.prog 180 #[.pointer (some ⟨b,0,none⟩)] w fun e w'=>e=.returned (.tuple #[])/\(Lib.BuilderAt 98 5 B b (.pointer (some ⟨b,0,none⟩)) bs w'/\Below B w w'):=by
 rcases h with h|h
 ·refine(YQ b w h.cell0 h.shape h.frozen0).mono fun e w' ⟨he,hw⟩=>?_
  subst hw
  exact⟨he,h.used _,(AqT B w).setCell (p:=⟨b,0,none⟩) h.1 _⟩
 ·refine(oV b w h.cell0).mono fun e w' ⟨he,hw⟩=>?_
  subst hw
  exact⟨he,h,AqT _ _⟩
set_option maxHeartbeats 2000000 in
set_option maxRecDepth 100000 in
theorem L5(B b:Nat)(bs:List Value)(c:Int)(w:World)(h:Lib.IsBuilder 98 5 B b bs w)(hlen:bs.length+1<=140737488355328)(hBw:B<=w.heap.size) :
  Calls Tryz.prog 187 #[.pointer (some ⟨b,0,none⟩),.int .u8 c] w fun e w'=>e=.returned .nilIface/\(Lib.BuilderAt 98 5 B b (.pointer (some ⟨b,0,none⟩)) (bs++[.int .u8 c]) w'/\Below B w w'):=by
 obtain⟨i0,hi,hz0,hz1,hz2⟩:=info_parts FN.infoByte
 have hcall:∀args w,(callFunc 180 args).run Tryz.prog w=.ok (.enter 180 args) w:=enters_of Tryz.func180 (by kernel_rfl) rfl
 go_enter Tryz.func187,Tryz.ntmps187
 go_wp2_with (go_at_fn 180;refine(Zj B b bs _ h).mono ?_)
 rintro e w1 ⟨rfl,⟨hB,v,hbk,hown,hne⟩,hb1⟩
 have c0:w1.cell? ⟨b,0,none⟩=some (.pointer (some ⟨b,0,none⟩)):=by rw[Lib.cell_of_heap hbk];rfl
 have c1:w1.cell? ⟨b,1,none⟩=some v:=by rw[Lib.cell_of_heap hbk];rfl
 go_wp2_with (at_builtin;refine wpList_append_own _ rfl _ _ 96 rfl B 5 i0 (.int .u8 0) 1 1 Tryz.underlying96 hi hz0 hz1 hz2 rfl (by decide) _ _ _ rfl (hown.alloc _) ⟨w1.heap.size,0,none⟩ 1 1 [.int .u8 c] rfl rfl ?c1 ?c2 ?c3 ?c4 ?c5 ?_)
 case c1=>
  intro j u hj
  match j,hj with
  | 0,hj=>simp at hj;subst hj;simp[Addr.add]
 case c2=>intro u hu;simp at hu;subst hu;rfl
 case c3=>unfold maxLen;omega
 case c4=>omega
 case c5=>have:=hb1.size;simp;omega
 intro v' w2 hown' hgrow _
 have hlt:b<w1.heap.size:=(AnS.1 hbk).1
 have hb2:w2.heap[b]?=some (.cells #[.pointer (some ⟨b,0,none⟩),v] 98 (0,0)):=by
  rw[hgrow.block b (by simp;omega) (fun e=>hne e.symm),Lib.alloc_old w1 _ b hlt]
  exact hbk
 have d0:w2.cell? ⟨b,0,none⟩=some (.pointer (some ⟨b,0,none⟩)):=by rw[Lib.cell_of_heap hb2];rfl
 have d1:w2.cell? ⟨b,1,none⟩=some v:=by rw[Lib.cell_of_heap hb2];rfl
 have f1:w2.frozen? ⟨b,1,none⟩=false:=Lib.frozen_of_heap hb2 1
 obtain⟨g,cap,rfl⟩:∃g cap,v'=.slice (some ⟨g,0,none⟩) (bs.length+1) cap:=by
  rcases hown'.2 with⟨_,h0⟩|⟨g,cap,cur,hv,_⟩
  ·omega
  ·exact⟨g,cap,hv⟩
 go_wp2
 go_ret
 exact⟨rfl,Lib.BuilderAt.put (T:=98) (e:=5) hB hb2 (bs':=bs++[.int .u8 c]) (by simpa using hown') (by decide),((hb1.alloc (by have:=hb1.size;omega) _).grown hgrow (by have:=hb1.size;simp;omega) (fun k hk=>(hown.lt k hk).1)).setCell (p:=⟨b,1,none⟩) hB _⟩
theorem RM(B b:Nat)(l:List UInt8)(w:World)(h:Lib.IsBuilder 98 5 B b (Lib.byteCells l) w)(hBw:B<=w.heap.size) :
  Calls Tryz.prog 45 #[.pointer (some ⟨b,0,none⟩)] w fun e w'=>e=.returned (.string ⟨l.toArray⟩)/\Below B w w':=
 Any.Builder_String_any Tryz.lays169 FN B b l w h hBw
theorem MG(c:UInt8)(w:World):Calls Tryz.prog 186 #[.int .u8 c.toNat] w fun e w'=>e=.returned (.bool (PD c.toNat))/\w'=w:=by
 go_enter Tryz.func186,Tryz.ntmps186
 go_wp2
 all_goals (go_ret;exact⟨by simp[PD, *],rfl⟩)
set_option maxHeartbeats 4000000 in
set_option maxRecDepth 1000000 in
theorem jO(s:Aa)(hs:s.length<=2^26)(w:World):Calls Tryz.prog 133 #[.string ⟨s.toArray⟩] w fun e w'=>e=.returned (.string ⟨(GS s).toArray⟩)/\Below w.heap.size w w':=by
 go_enter Tryz.func133,Tryz.ntmps133
 go_wp2
 go_loopw [7] (fun i wr=>∃(done rest acc:Aa),done++rest=s/\i=.int .i64 done.length/\Lib.IsBuilder 98 5 w.heap.size w.heap.size (Lib.byteCells acc) wr/\Below w.heap.size w wr/\acc++GS rest=GS s/\acc.length<=2*done.length) (fun i _=>s.length-(RowKit.intOf i).toNat)
 case atStart=>
  refine⟨[],s,[],rfl,rfl,Lib.fresh_isBuilder _ _ _,(AqT _ w).alloc (AbG _) _,rfl,by simp⟩
 case round=>
  obtain⟨done,rest,acc,hz,hi,hI,hbw,hacc,hal⟩:=hrel
  subst hi
  have hsl:s.length=done.length+rest.length:=by rw[<-hz];simp
  cases rest with
  | nil=>
   have hlt:decide (done.length<s.length)=false:=by simp at hsl⊢;omega
   have hlt2:¬done.length<s.length:=by simpa using hlt
   clear hsl
   go_wp2_with (go_at_call 45;refine(RM w.heap.size w.heap.size acc _ hI hbw.size).mono ?_)
   rintro e w1 ⟨rfl,b1⟩
   go_wp2
   go_ret
   rw[GS,Aou] at hacc
   rw[<-hacc]
   exact⟨rfl,hbw.trans b1⟩
  | cons c rest=>
   have e1:∀args w,(callFunc 186 args).run Tryz.prog w=.ok (.enter 186 args) w:=enters_of Tryz.func186 (by kernel_rfl) rfl
   have e2:∀args w,(callFunc 187 args).run Tryz.prog w=.ok (.enter 187 args) w:=enters_of Tryz.func187 (by kernel_rfl) rfl
   have hlt:decide (done.length<s.length)=true:=by simp at hsl⊢;omega
   have hlt2:done.length<s.length:=by simpa using hlt
   have hl:acc.length+2<=2^28/\done.length<2^26:=by simp at hsl;omega
   obtain⟨hl,hld⟩:=hl
   clear hsl
   have hw1:RowKit.wrap64 ((done.length:Int)+1)=(done.length:Int)+1:=by unfold RowKit.wrap64;omega
   have hg:∀h,(⟨s.toArray⟩:ByteArray)[done.length]'h=c:=by
    subst hz
    intro h
    show(done++c::rest).toArray[done.length]=c
    simp
   go_wp2_with (go_at_call 186;refine(MG _ _).mono ?_)
   rintro e w1 ⟨rfl,rfl⟩
   by_cases hc:PD c.toNat=true
   ·rw[hc]
    go_wp2_with (go_at_call 187;refine(L5 w.heap.size w.heap.size _ 92 _ hI (by rw[Lib.byteCells_length];omega) hbw.size).mono ?_)
    rintro e w2 ⟨rfl,h2,b2⟩
    go_wp2_with (go_at_call 187;refine(L5 w.heap.size w.heap.size _ _ _ (.inr h2) (by simp[Lib.byteCells_length];omega) (by have:=hbw.size;have:=b2.size;omega)).mono ?_)
    rintro e w3 ⟨rfl,h3,b3⟩
    go_wp2
    go_roundw
    case rel=>
     refine⟨done++[c],rest,acc++[92,c],by rw[<-hz];simp,?_,?_,?_,?_,?_⟩
     ·simp
     ·right;simpa[Lib.byteCells] using h3
     ·exact(hbw.trans b2).trans b3
     ·rw[<-hacc,GS,hc];simp
     ·simp;omega
    case measure=>
     simp at hlt;simp[RowKit.intOf,hw1];omega
   ·have hc:PD c.toNat=false:=by simpa using hc
    rw[hc]
    go_wp2_with (go_at_call 187;refine(L5 w.heap.size w.heap.size _ _ _ hI (by rw[Lib.byteCells_length];omega) hbw.size).mono ?_)
    rintro e w2 ⟨rfl,h2,b2⟩
    go_wp2
    go_roundw
    case rel=>
     refine⟨done++[c],rest,acc++[c],by rw[<-hz];simp,?_,?_,?_,?_,?_⟩
     ·simp
     ·right;simpa[Lib.byteCells] using h2
     ·exact hbw.trans b2
     ·rw[<-hacc,GS,hc];simp
     ·simp;omega
    case measure=>
     simp at hlt;simp[RowKit.intOf,hw1];omega
theorem Yd(s:Aa):(GS s).length<=2*s.length:=by
 induction s with
 | nil=>simp[GS]
 | cons c s ih=>rw[GS];split<;>simp<;>omega
theorem Zl(W0:World)(s:Aa)(hs:s.length<=2^26):Am Tryz.prog W0 133 [.s s] [] (.s (GS s)) []:=by
 refine AI (by kernel_rfl) fun w vals hb ⟨μ,H,hv⟩=>?_
 obtain⟨rfl,_⟩:=hv.one_s
 refine(jO s hs w).mono fun e w' ⟨he,hw⟩=>?_
 refine⟨_,he,fun _ _=>.s _ ?_,hw⟩
 have:=Yd s
 unfold A9;omega
def Pm(B:Nat)(l:Aa)(wr:World):Prop:=∀j (h:j<l.length),wr.cell? ⟨B,j,none⟩=some (.int .u8 (l[j].toNat:Int))/\wr.frozen? ⟨B,j,none⟩=false
theorem Pm.new(w:World)(s:Aa):Pm w.heap.size s (w.drew.alloc (.cells (bytesRow ⟨s.toArray⟩ (grownCap w s.length 0 5)) 5 ((bytesRow ⟨s.toArray⟩ (grownCap w s.length 0 5)).size,(bytesRow ⟨s.toArray⟩ (grownCap w s.length 0 5)).size+1))):=by
 intro j h
 have hd:w.drew.heap.size=w.heap.size:=rfl
 rw[<-hd,World.cell?_alloc_mark,World.frozen?_alloc_mark,bytesRow_at _ _ _ (by simpa using h)]
 refine⟨by simp,?_⟩
 have:j<(bytesRow ⟨s.toArray⟩ (grownCap w s.length 0 5)).size:=by unfold bytesRow;simp;omega
 simp;omega
theorem Pm.set{B:Nat}{p post:Aa}{c:UInt8}{wr:World}(h:Pm B (p++[c]++post) wr)(d:UInt8):Pm B (p++[d]++post) (wr.setCell ⟨B,p.length,none⟩ (.int .u8 (d.toNat:Int))):=by
 intro j hj
 have hj':j<(p++[c]++post).length:=by simp at hj⊢;omega
 obtain⟨h1,h2⟩:=h j hj'
 rw[World.frozen?_setCell]
 refine⟨?_,h2⟩
 by_cases he:j=p.length
 ·subst he
  rw[World.cell?_setCell_same' _ _ _ (by rw[h1];rfl)]
  simp
 ·rw[World.cell?_setCell_other wr ⟨B,p.length,none⟩ ⟨B,j,none⟩ _ (by grind),h1]
  grind
theorem Pm.back{B n:Nat}{l:Aa}{wr:World}(h:Pm B l wr)(hn:l.length=n)(cap:Nat):(convert 96 9 (.slice (some ⟨B,0,none⟩) n cap)).run Tryz.prog wr=.ok (.string ⟨l.toArray⟩) wr:=by
 subst hn
 exact run_convert_bytes_back (P:=Tryz.prog) wr 96 9 5 ⟨B,0,none⟩ cap l Tryz.underlying96 Tryz.underlying5 Tryz.underlying9 (fun j hj=>by
  have:=(h j hj).1
  unfold Addr.add;split<;>simp_all)
theorem mX:HC []=[49]:=rfl
theorem Agt(p:Aa):HC (p++[57])=HC p++[48]:=by
 unfold HC
 rw[List.reverse_append]
 show(K8 (57::p.reverse)).reverse=_
 rw[K8];simp
theorem Ag7(p:Aa)(c:UInt8)(h:(c==57)=false):HC (p++[c])=p++[c+1]:=by
 unfold HC
 rw[List.reverse_append]
 show(K8 (c::p.reverse)).reverse=_
 rw[K8,h];simp
set_option maxHeartbeats 4000000 in
set_option maxRecDepth 1000000 in
theorem Xq(s:Aa)(hs:s.length<=2^26)(w:World):Calls Tryz.prog 202 #[.string ⟨s.toArray⟩] w fun e w'=>e=.returned (.string ⟨(HC s).toArray⟩)/\Below w.heap.size w w':=by
 have hconv:=fun(w:World) (s:ByteArray)=>run_bytes_of_string (P:=Tryz.prog) w 9 96 5 s Tryz.underlying9 Tryz.underlying96 Tryz.underlying5
 have hw0:RowKit.wrap64 ((s.length:Int)-1)=(s.length:Int)-1:=by unfold RowKit.wrap64;omega
 go_enter Tryz.func202,Tryz.ntmps202
 go_wp2
 go_loopw [4] (fun i wr=>∃(pre post:Aa),pre.length+post.length=s.length/\i=.int .i64 ((pre.length:Int)-1)/\Pm w.heap.size (pre++post) wr/\Below w.heap.size w wr/\HC pre++post=HC s) (fun i _=>(RowKit.intOf i+1).toNat)
 case atStart=>
  refine⟨s,[],by simp,by rw[<-hw0],by rw[Aou];exact Pm.new w s,((AqT _ w).alloc (AbG _) _).drew,Aou _⟩
 case round=>
  obtain⟨pre,post,hz,hi,hrow,hbw,hd⟩:=hrel
  subst hi
  rcases AtV pre with rfl|⟨p,c,rfl⟩
  ·have hbk:=hrow.back (by simpa using hz) (grownCap w s.length 0 5)
   go_wp2
   go_ret
   refine⟨?_,hbw⟩
   rw[<-hd,mX]
   rfl
  ·simp only[AtW,Aik,AhU,Aiy] at *
   have hie:((p.length+(0+1):Nat):Int)-1=(p.length:Int):=by omega
   rw[hie]
   have hrw:=hrow p.length (by simp)
   have hcell:((p++[c])++post)[p.length]'(by simp)=c:=by simp
   rw[hcell] at hrw
   obtain⟨c0,f0⟩:=hrw
   have hlt:(p.length:Int)<(s.length:Int):=by omega
   have hlt2:p.length<s.length:=by omega
   have hn1:(p++[c+1]++post).length=s.length:=by simp;omega
   have hd1:((c+1).toNat:Int)=((c.toNat:Int)+1) % 256:=by simp[UInt8.toNat_add]
   have hbk:=(hrow.set (c+1)).back hn1 (grownCap w s.length 0 5)
   rw[hd1] at hbk
   have hr48:=hrow.set 48
   have hcc:((c.toNat:Int) !=57)=!(c==57):=by
    rw[ApH]
    simp only[bne_iff_ne,AmN,beq_eq_false_iff_ne,ne_eq]
    constructor
    ·rintro h rfl;exact h rfl
    ·intro h h'
     apply h
     have h2:c.toNat=(57:UInt8).toNat:=by
      grind
     exact Aue.1 h2
   go_wp2
   ·have h57:(c==57)=false:=by
     simp_all
    go_ret
    refine⟨?_,hbw.setCell (p:=⟨w.heap.size,p.length,none⟩) (AbG _) _⟩
    rw[<-hd,Ag7 p c h57]
    simp
   ·have h57:(c==57)=true:=by
     grind
    have h57':c=57:=by simpa using h57
    subst h57'
    rw[Agt] at hd
    refine⟨⟨p,48::post,by simp;omega,rfl,?_,hbw.setCell (p:=⟨w.heap.size,p.length,none⟩) (AbG _) _,by rw[<-hd];simp⟩,by simp only[RowKit.intOf];omega⟩
    simpa using hr48
theorem Yi(l:List UInt8):(K8 l).length<=l.length+1:=by
 induction l with
 | nil=>simp[K8]
 | cons c l ih=>rw[K8];split<;>simp;omega
theorem Ahp(W0:World)(s:Aa)(hs:s.length<=2^20):Am Tryz.prog W0 202 [.s s] [] (.s (HC s)) []:=by
 refine AI (by kernel_rfl) fun w vals hb ⟨μ,H,hv⟩=>?_
 obtain⟨rfl,_⟩:=hv.one_s
 refine(Xq s (by omega) w).mono fun e w' ⟨he,hw⟩=>?_
 refine⟨_,he,fun _ _=>.s _ ?_,hw⟩
 have:=Yi s.reverse
 unfold HC A9;simp at this⊢;omega
end Go.Ir
namespace Go.Proofs
open Go.Shelf
def Tryz.lays150_ren:Go.Shelf.Ren:=⟨fun|150=>270|153=>308|152=>321|226=>329|227=>247|228=>292|137=>252|119=>337|224=>290|225=>289|217=>288|266=>319|n=>n,fun|9=>9|4=>4|3=>3|5=>5|21=>21|117=>323|116=>322|0=>0|46=>237|124=>326|n=>n,fun|n=>n⟩
theorem Tryz.lays150:Go.Proofs.Lays.n150 Tryz.prog Tryz.lays150_ren:={
 mixed:=by kernel_rfl
 f119:=Tryz.func337.trans (congrArg some (by kernel_rfl))
 f137:=Tryz.func252.trans (congrArg some (by kernel_rfl))
 f150:=Tryz.func270.trans (congrArg some (by kernel_rfl))
 f152:=Tryz.func321.trans (congrArg some (by kernel_rfl))
 f153:=Tryz.func308.trans (congrArg some (by kernel_rfl))
 f217:=Tryz.func288.trans (congrArg some (by kernel_rfl))
 f224:=Tryz.func290.trans (congrArg some (by kernel_rfl))
 f225:=Tryz.func289.trans (congrArg some (by kernel_rfl))
 f226:=Tryz.func329.trans (congrArg some (by kernel_rfl))
 f227:=Tryz.func247.trans (congrArg some (by kernel_rfl))
 f228:=Tryz.func292.trans (congrArg some (by kernel_rfl))
 f266:=Tryz.func319.trans (congrArg some (by kernel_rfl))
 t0:=Tryz.underlying0
 a0:=Tryz.isAgg0
 z0:=Tryz.sizeOf0
 v0:=Tryz.zeroValue0
 t3:=Tryz.underlying3
 a3:=Tryz.isAgg3
 z3:=Tryz.sizeOf3
 v3:=Tryz.zeroValue3
 t4:=Tryz.underlying4
 a4:=Tryz.isAgg4
 z4:=Tryz.sizeOf4
 v4:=Tryz.zeroValue4
 t5:=Tryz.underlying5
 a5:=Tryz.isAgg5
 z5:=Tryz.sizeOf5
 v5:=Tryz.zeroValue5
 t9:=Tryz.underlying9
 a9:=Tryz.isAgg9
 z9:=Tryz.sizeOf9
 v9:=Tryz.zeroValue9
 t21:=Tryz.underlying21
 a21:=Tryz.isAgg21
 z21:=Tryz.sizeOf21
 v21:=Tryz.zeroValue21
 t46:=Tryz.underlying237
 a46:=Tryz.isAgg237
 z46:=Tryz.sizeOf237
 v46:=Tryz.zeroValue237
 t116:=Tryz.underlying322
 a116:=Tryz.isAgg322
 z116:=Tryz.sizeOf322
 t117:=Tryz.underlying323
 a117:=Tryz.isAgg323
 z117:=Tryz.sizeOf323
 v117:=Tryz.zeroValue323
 t124:=Tryz.underlying326
 a124:=Tryz.isAgg326
 z124:=Tryz.sizeOf326
 v124:=Tryz.zeroValue326 }
end Go.Proofs
namespace Go.Ir
open Go.Proofs Go.RowKit
set_option maxHeartbeats 4000000 in
set_option maxRecDepth 1000000 in
theorem Rk(w:World):Calls Tryz.prog 321 #[.string ⟨#[123,125]⟩,.int .i32 65533] w fun e w'=>e=.returned (.int .i64 (-1))/\Below w.heap.size w w':=by
 go_enter Tryz.func321,Tryz.ntmps321
 go_wp2
 go_loopg [5,6,176,177,178,179,180,181] 2 (fun g _ _ _ _ _ _ _ _ wx=>∃i:Nat,i+g=2/\wx=w.iter ⟨#[123,125]⟩ i)
 case atStart=>exact⟨0,rfl,rfl⟩
 case round=>
  obtain⟨i,hig,rfl⟩:=hrel
  cases gk with
  | zero=>
   obtain rfl:i=2:=by omega
   have hnx:=run_next_end (P:=Tryz.prog) w ⟨#[123,125]⟩ 2
   go_wp2
   go_ret
   exact⟨rfl,(AqT _ w).alloc (AbG _) _⟩
  | succ g=>
   have hi:i=0\/i=1:=by omega
   rcases hi with rfl|rfl
   ·have hnx:=fun ty=>run_next_ascii (P:=Tryz.prog) w ⟨#[123,125]⟩ 0 ty (by decide) (by decide)
    go_wp2
    go_roundg g
    case measure=>omega
    grind
   ·have hnx:=fun ty=>run_next_ascii (P:=Tryz.prog) w ⟨#[123,125]⟩ 1 ty (by decide) (by decide)
    go_wp2
    go_roundg g
    case measure=>omega
    grind
set_option maxHeartbeats 4000000 in
set_option maxRecDepth 1000000 in
theorem PP(r:Int)(h1:55296<=r)(h2:r<=57343)(w:World):Calls Tryz.prog 321 #[.string ⟨#[123,125]⟩,.int .i32 r] w fun e w'=>e=.returned (.int .i64 (-1))/\Below w.heap.size w w':=by
 have g1:decide (0<=r)=true:=by simp;omega
 have g2:decide (r<128)=false:=by simp;omega
 have g3:(r==65533)=false:=by simp;omega
 have g4:¬r<55296:=by omega
 have g5:¬57343<r:=by omega
 go_enter Tryz.func321,Tryz.ntmps321
 go_wp2
 go_ret
 exact⟨rfl,AqT _ w⟩
set_option maxHeartbeats 4000000 in
set_option maxRecDepth 1000000 in
theorem Mv(r:Int)(h1:128<=r)(hr:r<55296\/57343<r)(h2:r<=1114111)(h3:(r==65533)=false)(w:World):Calls Tryz.prog 321 #[.string ⟨#[123,125]⟩,.int .i32 r] w fun e w'=>e=.returned (.int .i64 (-1))/\Below w.heap.size w w':=by
 have mixed:=Tryz.lays150.mixed
 have g1:decide (0<=r)=true:=by simp;omega
 have g2:decide (r<128)=false:=by simp;omega
 have hv:Utf8.valid r=true:=by
  rw[validRune_eq]
  unfold validRune
  grind
 obtain⟨f1,f2,f3⟩:=encode_facts r hv h1
 have hcv:=fun(w:World)=>run_convert_int_string (P:=Tryz.prog) w 21 9 .i32 r (by rw[Tryz.underlying21];rfl) Tryz.underlying9
 generalize Utf8.encode r=E at *
 have hw1:RowKit.wrap64 ((E.size:Int)-1)=(E.size:Int)-1:=by unfold RowKit.wrap64;omega
 have hw1':(E.size:Int)-1=((E.size-1:Nat):Int):=by omega
 rw[hw1'] at hw1
 rcases hr with hr|hr
 ·go_enter Tryz.func321,Tryz.ntmps321
  go_wp2
  refine wp_scope_straight ?_
  go_wp2
  go_loopw [9] (fun i wr=>i=.int .i64 ((E.size-1:Nat):Int)/\wr=w) (fun _ _=>0)
  case atStart=>exact⟨rfl,rfl⟩
  case round=>
   obtain⟨rfl,rfl⟩:=hrel
   by_cases hs:E.size=2
   ·have hs1:E.size-1=1:=by omega
    obtain⟨x,hx⟩:∃x,x=E[1]'(by omega):=⟨_,rfl⟩
    have hx2:128<=x.toNat:=by
     simp_all
    have g6:(1:Nat)<E.size:=by omega
    have g8:((125:Int) !=(x.toNat:Int))=true:=by simp;omega
    have hib:=fun w=>Any.strings_IndexByte (P:=Tryz.prog) (ρ:=Tryz.lays150_ren) { Tryz.lays150 with } ⟨#[]⟩ (x.toNat:Int) w
    simp only[hs1] at hw1⊢
    go_wp2
    refine wp_scope_straight ?_
    go_wp2
    have hq:(((((⟨#[123,125]⟩:ByteArray)[1]'(by decide)).toNat:Nat):Int) !=(((E[1]'g6).toNat:Nat):Int))=true:=by rw[<-hx];exact g8
    go_region
    go_wp2
    go_region_with (go_at_call 252;refine(Any.strings_IndexByte (P:=Tryz.prog) (ρ:=Tryz.lays150_ren) { Tryz.lays150 with } _ _ _).mono ?_;rintro e w' ⟨rfl,hw⟩;rw[hw])
    go_wp2
    all_goals (simp +zetaDelta only [Exit.noGoto,Exit.inBlock,Exit.then];go_ret;exact⟨rfl,((AqT _ _).drew).drew⟩)
   ·have g6:¬E.size-1<2:=by omega
    have g7:decide (((E.size-1:Nat):Int)<2)=false:=by simp;omega
    go_wp2
    simp only[Exit.noGoto]
    go_ret
    exact⟨rfl,AqT _ _⟩
 ·have g9:¬r<55296:=by omega
  go_enter Tryz.func321,Tryz.ntmps321
  go_wp2
  refine wp_scope_straight ?_
  go_wp2
  go_loopw [9] (fun i wr=>i=.int .i64 ((E.size-1:Nat):Int)/\wr=w) (fun _ _=>0)
  case atStart=>exact⟨rfl,rfl⟩
  case round=>
   obtain⟨rfl,rfl⟩:=hrel
   by_cases hs:E.size=2
   ·have hs1:E.size-1=1:=by omega
    obtain⟨x,hx⟩:∃x,x=E[1]'(by omega):=⟨_,rfl⟩
    have hx2:128<=x.toNat:=by
     simp_all
    have g6:(1:Nat)<E.size:=by omega
    have g8:((125:Int) !=(x.toNat:Int))=true:=by simp;omega
    have hib:=fun w=>Any.strings_IndexByte (P:=Tryz.prog) (ρ:=Tryz.lays150_ren) { Tryz.lays150 with } ⟨#[]⟩ (x.toNat:Int) w
    simp only[hs1] at hw1⊢
    go_wp2
    refine wp_scope_straight ?_
    go_wp2
    have hq:(((((⟨#[123,125]⟩:ByteArray)[1]'(by decide)).toNat:Nat):Int) !=(((E[1]'g6).toNat:Nat):Int))=true:=by rw[<-hx];exact g8
    go_region
    go_wp2
    go_region_with (go_at_call 252;refine(Any.strings_IndexByte (P:=Tryz.prog) (ρ:=Tryz.lays150_ren) { Tryz.lays150 with } _ _ _).mono ?_;rintro e w' ⟨rfl,hw⟩;rw[hw])
    go_wp2
    all_goals (simp +zetaDelta only [Exit.noGoto,Exit.inBlock,Exit.then];go_ret;exact⟨rfl,((AqT _ _).drew).drew⟩)
   ·have g6:¬E.size-1<2:=by omega
    have g7:decide (((E.size-1:Nat):Int)<2)=false:=by simp;omega
    go_wp2
    simp only[Exit.noGoto]
    go_ret
    exact⟨rfl,AqT _ _⟩
theorem T7(r:Int)(h1:128<=r)(h2:r<=1114111)(w:World):Calls Tryz.prog 321 #[.string ⟨#[123,125]⟩,.int .i32 r] w fun e w'=>e=.returned (.int .i64 (-1))/\Below w.heap.size w w':=by
 by_cases h3:r=65533
 ·subst h3;exact Rk w
 ·have h3':(r==65533)=false:=by simp[h3]
  by_cases h4:r<55296
  ·exact Mv r h1 (.inl h4) h2 h3' w
  ·by_cases h5:57343<r
   ·exact Mv r h1 (.inr h5) h2 h3' w
   ·exact PP r (by omega) (by omega) w
theorem iO(s:ByteArray)(p:Nat)(h:128<=(s.get! p).toNat):(Utf8.decode s p).1<=1114111/\∀k,k<(Utf8.decode s p).2->128<=(s.get! (p+k)).toNat:=by
 have hb:∀k,(s.get! (p+k)).toNat<256:=fun k=>(s.get! (p+k)).toNat_lt
 have h0:=hb 0;have h1:=hb 1;have h2:=hb 2;have h3:=hb 3
 have hn:¬(s.get! (p+0)).toNat<128:=by rw[Atj];omega
 have hz:128<=(s.get! (p+0)).toNat:=by rw[Atj];exact h
 have one:∀k,k<1->128<=(s.get! (p+k)).toNat:=fun k hk=>by grind
 simp only[Utf8.decode,hn,if_false,Utf8.runeError]
 split
 ·grind
 ·split
  ·grind
  ·split
   ·rename_i c
    simp only[Aav,beq_iff_eq] at c
    split
    ·rename_i d
     have hd:=d
     simp only[Utf8.valid,Aav,Atl,decide_eq_true_eq] at hd
     refine⟨by simp only;omega,fun k hk=>?_⟩
     grind
    ·exact⟨by simp,one⟩
   ·exact⟨by simp,one⟩
def AlU(s:ByteArray)(i:Nat):Prop:=∀j,j<i->j<s.size->s.get! j≠123/\s.get! j≠125
set_option maxHeartbeats 4000000 in
set_option maxRecDepth 1000000 in
theorem Ox(s:ByteArray)(h8:s.size<=8)(w:World):Calls Tryz.prog 308 #[.string s,.string ⟨#[123,125]⟩] w fun e w'=>(∃v:Int,e=.returned (.int .i64 v)/\((0<=v/\∃j,j<s.size/\(s.get! j=123\/s.get! j=125))\/(v=-1/\AlU s s.size)))/\Below w.heap.size w w':=by
 have mixed:=Tryz.lays150.mixed
 have h8z:decide ((8:Int)<(s.size:Int))=false:=decide_eq_false (by omega)
 have e152:∀args w,(callFunc 321 args).run Tryz.prog w=.ok (.enter 321 args) w:=enters_of Tryz.func321 (by kernel_rfl) rfl
 have L153:Lays.n153 Tryz.prog Tryz.lays150_ren:={ Tryz.lays150 with }
 have e226:∀args w,(callFunc (Tryz.lays150_ren.f 226) args).run Tryz.prog w=.ok (.enter (Tryz.lays150_ren.f 226) args) w:=enters_of L153.f226 (by kernel_rfl) rfl
 go_enter Tryz.func308,Tryz.ntmps308
 go_wp2_with (go_at_call 329;refine(Any.strings_shouldUseASCIISet (P:=Tryz.prog) (ρ:=Tryz.lays150_ren) { Tryz.lays150 with } _ _).mono ?_;rintro e w' ⟨rfl,hw⟩;rw[hw,h8z])
 go_loopw [9,10] (fun _ _ wr=>∃i:Nat,wr.heap[w.heap.size]?=some (.stringIter s i)/\Below w.heap.size w wr/\AlU s i) (fun _ _ wr=>s.size-wr.iterPos w.heap.size)
 case atStart=>exact⟨0,World.iter_heap _ _ _,(AqT _ w).alloc (AbG _) _,fun j hj=>by omega⟩
 case round=>
  obtain⟨i,hit,hbw,hno⟩:=hrel
  by_cases hi:i<s.size
  ·by_cases ha:(s[i]'hi).toNat<128
   ·have hnx:=fun ty=>Go.Lib.run_next_ascii_at (P:=Tryz.prog) wr w.heap.size s i ty hit hi ha
    have hg:s.get! i=s[i]'hi:=by
     simp[ByteArray.get!,getElem!_pos,hi]
     rfl
    have hp1:=Lib.iterAt_heap wr w.heap.size s i (i+1) hit
    have hm:s.size-(wr.iterAt w.heap.size s (i+1)).iterPos w.heap.size<s.size-wr.iterPos w.heap.size:=by
     unfold World.iterPos
     grind
    have hb1:=Lib.below_iterAt hbw (k:=w.heap.size) (AbG _) s (i+1)
    have Hm:Hid (s.size-(wr.iterAt w.heap.size s (i+1)).iterPos w.heap.size<s.size-wr.iterPos w.heap.size):=hm
    have Hp:Hid ((wr.iterAt w.heap.size s (i+1)).heap[w.heap.size]?=some (.stringIter s (i+1))):=hp1
    clear hm hp1
    generalize s[i]'hi=x at *
    have Hg:Hid (s.get! i=x):=hg
    clear hg
    have hcon:=Lib.contains_iff_indexByte [123,125] x
    have hback:((x.toNat:Int)).toNat.toUInt8=x:=by simp
    cases hin:([123,125]:List UInt8).contains x
    ·rw[hin] at hcon
     have hlt:¬((0:Int)<=Lib.indexByte [123,125] x):=of_decide_eq_false hcon.symm
     have Hin:Hid (([123,125]:List UInt8).contains x=false):=hin
     clear hcon hin
     go_wp2_with (go_at_call 321;refine(Any.strings_IndexRune_ascii (P:=Tryz.prog) (ρ:=Tryz.lays150_ren) { Tryz.lays150 with } _ _ _ (by omega) (by omega)).mono ?_;rintro e w' ⟨rfl,hw⟩;rw[hw,hback])
     refine⟨⟨i+1,Hp.out,hb1,fun j hj hjs=>?_⟩,Hm.out⟩
     by_cases he:j=i
     ·subst he
      rw[Hg.out]
      have:=Hin.out
      grind
     ·exact hno j (by omega) hjs
    ·rw[hin] at hcon
     have hge:(0:Int)<=Lib.indexByte [123,125] x:=of_decide_eq_true hcon.symm
     have Hin:Hid (([123,125]:List UInt8).contains x=true):=hin
     clear hcon hin
     go_wp2_with (go_at_call 321;refine(Any.strings_IndexRune_ascii (P:=Tryz.prog) (ρ:=Tryz.lays150_ren) { Tryz.lays150 with } _ _ _ (by omega) (by omega)).mono ?_;rintro e w' ⟨rfl,hw⟩;rw[hw,hback])
     go_ret
     refine⟨⟨i,rfl,.inl ⟨by omega,i,hi,?_⟩⟩,hb1⟩
     rw[Hg.out]
     have:=Hin.out
     simpa using this
   ·have hnx:=fun ty=>Go.Lib.run_next_any_at (P:=Tryz.prog) wr w.heap.size s i ty hit hi
    have hg:s.get! i=s[i]'hi:=by
     simp[ByteArray.get!,getElem!_pos,hi]
     rfl
    obtain⟨d1,d2⟩:=decode_high s i hi (by omega)
    obtain⟨d3,d4⟩:=iO s i (by rw[hg];omega)
    generalize hD:Utf8.decode s i=D at *
    obtain⟨r,n⟩:=D
    simp only at d1 d2 d3 d4 hnx
    have hp1:=Lib.iterAt_heap wr w.heap.size s i (i+n) hit
    have hsz:=Lib.iterAt_size wr w.heap.size s (i+n)
    have hlt:w.heap.size<wr.heap.size:=(AnS.1 hit).1
    have hb1:=Lib.below_iterAt hbw (k:=w.heap.size) (AbG _) s (i+n)
    have Hp:Hid ((wr.iterAt w.heap.size s (i+n)).heap[w.heap.size]?=some (.stringIter s (i+n))):=hp1
    have Hd:Hid (∀k,k<n->128<=(s.get! (i+k)).toNat):=d4
    have Hsz:Hid ((wr.iterAt w.heap.size s (i+n)).heap.size=wr.heap.size):=hsz
    have Hb:Hid (Below w.heap.size w (wr.iterAt w.heap.size s (i+n))):=hb1
    clear hp1 d4 hg ha hD hsz hb1
    go_wp2_with (go_at_call 321;refine(T7 (r:Int) (by omega) (by omega) _).mono ?_;rintro e w2 ⟨rfl,hw2⟩)
    have hb2:Below w.heap.size (wr.iterAt w.heap.size s (i+n)) w2:=hw2.mono (by rw[Hsz.out];omega)
    have hp2:w2.heap[w.heap.size]?=some (.stringIter s (i+n)):=by
     rw[hw2.block _ (by rw[Hsz.out];exact hlt)]
     exact Hp.out
    refine⟨⟨i+n,hp2,Hb.out.trans hb2,fun j hj hjs=>?_⟩,?_⟩
    ·by_cases he:j<i
     ·exact hno j he hjs
     ·have:=Hd.out (j-i) (by omega)
      rw[show i+(j-i)=j by omega] at this
      constructor
      ·intro h;simp_all
      ·intro h;simp_all
    ·unfold World.iterPos
     grind
  ·have hnx:=fun ty=>Go.Lib.run_next_end_at (P:=Tryz.prog) wr w.heap.size s i ty hit hi
   go_wp2
   go_ret
   exact⟨⟨-1,rfl,.inr ⟨rfl,fun j hj=>hno j (by omega)⟩⟩,hbw⟩
theorem Nb(s:Aa):(∃j,j<(⟨s.toArray⟩:ByteArray).size/\((⟨s.toArray⟩:ByteArray).get! j=123\/(⟨s.toArray⟩:ByteArray).get! j=125))↔Fv s=true:=by
 unfold Fv
 rw[AsC]
 have hg:∀j (h:j<s.length),(⟨s.toArray⟩:ByteArray).get! j=s[j]:=fun j h=>by
  simp[ByteArray.get!,h]
 constructor
 ·rintro⟨j,hj,h⟩
  have hj':j<s.length:=by simpa[ByteArray.size] using hj
  grind
 ·rintro⟨x,hx,h⟩
  obtain⟨j,hj,rfl⟩:=List.getElem_of_mem hx
  refine⟨j,by simpa[ByteArray.size] using hj,?_⟩
  grind
theorem p4:∀s:Aa,decide (0<=Lib.indexAny s [123,125])=Fv s
 | []=>rfl
 | b::l=>by
  have ih:=p4 l
  have hge:=Lib.indexAny_ge [123,125] l
  have hc:([123,125]:List UInt8).contains b=(b==123||b==125):=by
   rw[ApH];simp
  have hb:Fv (b::l)=((b==123||b==125)||Fv l):=rfl
  rw[Lib.indexAny,hc,hb,<-ih]
  grind
theorem T5(s:Aa)(hs:s.length<4294967281)(w:World):Calls Tryz.prog 308 #[.string ⟨s.toArray⟩,.string ⟨#[123,125]⟩] w fun e w'=>(∃v:Int,e=.returned (.int .i64 v)/\decide (0<=v)=Fv s)/\Below w.heap.size w w':=by
 by_cases h8:s.length<=8
 ·refine(Ox ⟨s.toArray⟩ (by simpa[ByteArray.size] using h8) w).mono fun e w' ⟨⟨v,h1,h2⟩,h3⟩=>⟨⟨v,h1,?_⟩,h3⟩
  rcases h2 with⟨h4,h5⟩|⟨rfl,h5⟩
  ·rw[(Nb s).1 h5];simpa using h4
  ·cases hb:Fv s with
   | false=>rfl
   | true=>
    obtain⟨j,hj,h⟩:=(Nb s).2 hb
    have:=h5 j hj hj
    grind
 ·have h116:(Tryz.prog.info? (Tryz.lays150_ren.t 116)).map (fun i=>(i.zero,i.size))=some (some (.agg (Array.replicate 256 (.bool false))),256):=by kernel_rfl
  refine(Any.strings_IndexAny_long (P:=Tryz.prog) (ρ:=Tryz.lays150_ren) { Tryz.lays150 with } (zero_of_info h116).1 (zero_of_info h116).2 ⟨s.toArray⟩ ⟨#[123,125]⟩ w (by decide) (by simp[ByteArray.size];omega) (by simpa[ByteArray.size] using hs) (by decide) (fun j b h=>by
   match j with
   | 0=>simp at h;subst h;decide
   | 1=>simp at h;subst h;decide
   | j+2=>simp at h)).mono fun e w' ⟨h1,h2⟩=>⟨⟨_,h1,?_⟩,?_⟩
  ·exact p4 s
  ·rw[h2]
   exact((AqT _ _).alloc (AbG _) _).alloc (by simp) _
set_option maxHeartbeats 1000000 in
theorem wJ(s:Aa)(hs:s.length<4294967281)(w:World):Calls Tryz.prog 270 #[.string ⟨s.toArray⟩,.string ⟨#[123,125]⟩] w fun e w'=>e=.returned (.bool (Fv s))/\Below w.heap.size w w':=by
 have c:=T5 s hs w
 go_enter Tryz.func270,Tryz.ntmps270
 go_wp2_with (go_at_call 308;refine c.mono ?_;rintro e w' ⟨⟨v,rfl,hv⟩,hw⟩)
 go_ret
 simp_all
theorem cT(W0:World)(s:Aa)(hs:s.length<=2^31):Am Tryz.prog W0 270 [.s s,.s [123,125]] [] (.b (Fv s)) []:=by
 refine AI (by kernel_rfl) fun w vals hb ⟨μ,H,hv⟩=>?_
 have hlen:=hv.len
 obtain⟨x,y,rfl⟩:∃x y,vals=[x,y]:=by
  match vals,hlen with
  | [x,y],_=>exact⟨x,y,rfl⟩
 obtain⟨rfl,hl⟩:=B4 (hv.at_ 0 _ _ rfl rfl)
 obtain⟨rfl,hl2⟩:=B4 (hv.at_ 1 _ _ rfl rfl)
 exact(wJ s (by omega) w).mono fun e w' ⟨he,hw⟩=>⟨_,he,fun _ _=>.b _,hw⟩
end Go.Ir
section
namespace Go.Ir
open Go.Proofs
variable(W0:World)
def Em:List (V×V):=[(.s [110,117,109,98,101,114],.i .i64 3),(.s [117,110,105,116],.i .i64 4),(.s [100,97,116,101],.i .i64 5),(.s [108,105,115,116],.i .i64 6),(.s [112,108,117,114,97,108],.i .i64 7),(.s [111,114,100,105,110,97,108],.i .i64 8),(.s [115,101,108,101,99,116],.i .i64 9)]
theorem Aii:JR Tryz.prog W0 134 [] [] (.map Em) []:=by
 refine Un (s:=0) AdH (by simp) (by simp) fun n0 hn0=>?_
 clear hn0
 unfold Em
 have u1:Bl .str (.s [110,117,109,98,101,114]) [] 0=some none:=rfl
 have u2:Bl .str (.s [117,110,105,116]) (Em.take 1) 0=some none:=rfl
 have u3:Bl .str (.s [100,97,116,101]) (Em.take 2) 0=some none:=rfl
 have u4:Bl .str (.s [108,105,115,116]) (Em.take 3) 0=some none:=rfl
 have u5:Bl .str (.s [112,108,117,114,97,108]) (Em.take 4) 0=some none:=rfl
 have u6:Bl .str (.s [111,114,100,105,110,97,108]) (Em.take 5) 0=some none:=rfl
 have u7:Bl .str (.s [115,101,108,101,99,116]) (Em.take 6) 0=some none:=rfl
 simp only[Em,ApB,AqF] at u2 u3 u4 u5 u6 u7
 simp only[push_cast,seval,reduceEqDiff,u1,u2,u3,u4,u5,u6,u7]
 intros
 exact⟨_,Al.refl,_,rfl,by simp[lk],rfl,fun _ _ h=>by simp[lk] at h⟩
def Ta(k:Int):Nat:=if decide (k>=3)&&decide (k<=9) then 2+(Zb k).length else 0
mutual
def Aj.lenB:Aj->Nat
 | ⟨k,t,nm,st,cs,ps⟩=>
  if k==1 then(GS t).length
  else if k==10 then 1
  else if k==11 then(3+nm.length)+(if ps.isEmpty then 0 else(2+nm.length)+Cq ps)
  else(2+nm.length)+Ta k+(if st==[] then 0 else 2+st.length)+(if Bx k then 1 else 0)+FK cs
def Cq:List Aj->Nat
 | []=>0
 | p::ps=>p.lenB+Cq ps
def FK:List (Aa×List Aj)->Nat
 | []=>0
 | (key,ps)::cs=>((4+key.length)+Cq ps)+FK cs
end
theorem Aj.lenB_eq(p:Aj):p.lenB=(if p.kind==1 then(GS p.text).length
  else if p.kind==10 then 1
  else if p.kind==11 then(3+p.name.length)+(if p.parts.isEmpty then 0 else(2+p.name.length)+Cq p.parts)
  else(2+p.name.length)+Ta p.kind+(if p.style==[] then 0 else 2+p.style.length)+(if Bx p.kind then 1 else 0)+FK p.cases):=by cases p;simp only[Aj.lenB]
theorem Gq(p:Aj)(ps:List Aj):Cq (p::ps)=p.lenB+Cq ps:=by simp only[Cq]
theorem HQ(c:AQ)(cs:List AQ):FK (c::cs)=((4+c.1.length)+Cq c.2)+FK cs:=by obtain⟨k,q⟩:=c;simp only[FK]
theorem Vx(k:Int):Ta k<=9:=by
 unfold Ta;have:=Mj k;split<;>omega
theorem Aj.lenB_le1(p:Aj)(h1:Cq p.parts<=20*Bd p.parts)(h2:FK p.cases<=20*EB p.cases):p.lenB<=20*p.wt:=by
 rw[p.wt_eq,p.lenB_eq]
 have a1:=Qw p.text
 have a2:=Vx p.kind
 grind
theorem Xw:∀(N:Nat) (ps:List Aj),Bd ps<N->Cq ps<=20*Bd ps:=by
 intro N
 induction N with
 | zero=>intro ps h;omega
 | succ N ih=>
  have hcs:∀cs:List AQ,EB cs<N->FK cs<=20*EB cs:=by
   intro cs
   induction cs with
   | nil=>intro _;simp[FK]
   | cons c cs ih2=>
    intro h;rw[BX] at h;rw[HQ,BX]
    grind
  intro ps
  induction ps with
  | nil=>intro _;simp[Cq]
  | cons p ps ih2=>
   intro h;rw[Bu] at h;rw[Gq,Bu];have h3:=ih2 (by omega)
   have hw:=p.wt_eq
   have:=p.lenB_le1 (ih p.parts (by omega)) (hcs p.cases (by omega))
   omega
theorem Jd(ps:List Aj):Cq ps<=20*Bd ps:=Xw _ ps (Acq _)
theorem rZ(cs:List AQ):FK cs<=20*EB cs:=by
 induction cs with
 | nil=>simp[FK]
 | cons c cs ih=>rw[HQ,BX];have:=Jd c.2;omega
theorem Aj.lenB_le(p:Aj):p.lenB<=20*p.wt:=p.lenB_le1 (Jd _) (rZ _)
theorem Qz:Em.length=7:=rfl
theorem vJ{i:Nat}{kv:V×V}(h:Em[i]?=some kv):i<7/\kv=(.s (Zb (i+3:Nat)),.i .i64 (i+3:Nat)):=by
 have hi:i<7:=by have:=(AlY.1 h).1;rw[Qz] at this;exact this
 refine⟨hi,?_⟩
 have:i=0\/i=1\/i=2\/i=3\/i=4\/i=5\/i=6:=by omega
 rcases this with rfl|rfl|rfl|rfl|rfl|rfl|rfl<;>(simp only[Em,Ata,AsO,Aiq] at h;rw[<-h];rfl)
def FF(k:Int)(seen:List Nat):Nat:=if decide (k>=3)&&seen.contains (k-3).toNat then 2+(Zb k).length else 0
theorem Xp(k:Int):FF k []=0:=by simp[FF]
theorem YS{k:Int}{seen:List Nat}{i:Nat}(h:((i+3:Nat):Int)=k)(hn:i∉seen):FF k seen=0/\FF k (seen++[i])=2+(Zb (i+3:Nat)).length:=by
 subst h
 have:(((i+3:Nat):Int)-3).toNat=i:=by omega
 have h3:((i+3:Nat):Int)>=3:=by omega
 unfold FF
 grind
theorem Sg{k:Int}{seen:List Nat}{i:Nat}(h:((i+3:Nat):Int)≠k):FF k (seen++[i])=FF k seen:=by
 unfold FF
 grind
theorem XJ{k:Int}{seen:List Nat}(hall:∀i,i<7->i∈seen)(hb:∀i∈seen,i<7):FF k seen=Ta k:=by
 unfold FF Ta
 grind
def Rc(seen:List Nat):Nat:=(if 0∈seen then 0 else 1)+(if 1∈seen then 0 else 1)+(if 2∈seen then 0 else 1)+(if 3∈seen then 0 else 1)+(if 4∈seen then 0 else 1)+(if 5∈seen then 0 else 1)+(if 6∈seen then 0 else 1)
theorem jW{seen:List Nat}{i:Nat}(hi:i<7)(hn:i∉seen):Rc (seen++[i])<Rc seen:=by
 have:i=0\/i=1\/i=2\/i=3\/i=4\/i=5\/i=6:=by omega
 unfold Rc
 rcases this with rfl|rfl|rfl|rfl|rfl|rfl|rfl<;>simp[hn]
end Go.Ir
end
namespace Go.Ir
open Go.Proofs
variable(W0:World)
set_option maxHeartbeats 4000000 in
theorem PX:∀(N:Nat) (ps:List Aj),Bd ps<N->Bd ps<=2^24->
  Am Tryz.prog W0 96 [.sl (ps.map Aj.enc)] [] (.i .i64 (Cq ps)) []:=by
 intro N
 induction N with
 | zero=>intro ps h;omega
 | succ N ih=>
 intro ps hN hb
 have hlen:=EE ps
 generalize hS:Cq ps=S
 refine Ai (vs:=[.i .i64 S]) Amg (by simp) (by simp) fun n0 hn0=>?_
 clear hn0
 simp only[push_cast,seval,reduceEqDiff]
 intros
 refine An ps.length (Inv:=fun m st=>∃done rest n acc x,x=((acc:Nat):Int)/\ps=done++rest/\m=rest.length/\acc+Cq rest=S/\acc+20*Bd rest<=20*Bd ps/\st=⟨[(3,.i .i64 x),(10,.sl (ps.map Aj.enc)),(11,.i .i64 ps.length),(12,.i .i64 done.length)],[],n⟩) ⟨_,Al.refl,[],ps,_,0,0,rfl,rfl,rfl,by omega,by omega,rfl⟩ ?_
 clear hS
 rintro m _ ⟨done,rest,n,acc,_,rfl,hz,rfl,hd,hacc,rfl⟩
 cases rest with
 | nil=>
  rw[Cq,Atj] at hd
  subst hd
  simp only[push_cast,seval,reduceEqDiff,hz]
  repeat' (first|(((first|apply Ac|apply Ag|apply Af)<;>intro _h)<;>simp only[push_cast,seval,reduceEqDiff,_h])|intro _)
  all_goals (first|(refine Ah ?_;simp[get]<;>(intros;omega);done)|(refine Ae ?_;simp[push_cast,get];done)|skip)
 | cons p rest=>
  have hbd:=AN hz
  have hw:=GV (ps:=ps) (p:=p) (by rw[hz];simp)
  rw[p.wt_eq] at hw
  rw[Gq,<-Atm] at hd
  rw[Bu,p.wt_eq] at hacc
  have htl:=p.lenB_le
  rw[p.wt_eq] at htl
  have hpl:=Jd p.parts
  have hlc:=FL p.cases
  have hin:=ih p.parts (by omega) (by omega)
  have hsel:=Dh W0 p.kind
  rw[p.lenB_eq] at hd
  by_cases k1:p.kind=1
  ·have hes:=Zl W0 p.text (by omega)
   have:=Qw p.text
   rw[k1] at hd
   simp only[push_cast,seval,reduceEqDiff,hz,Ad p (done:=done) (by omega),k1,Int.reduceBEq,Int.reduceBNe]
   have _h:=trivial;repeat' (first|(first|((first|apply Ac|apply Ag|apply Af)<;>intro _h)|refine Ab hes ?_|refine Aq (by omega) ?_)<;>simp only[push_cast,seval,reduceEqDiff,_h,hz,Ad p (done:=done) (by omega),k1,Int.reduceBEq,Int.reduceBNe]|intro _)
   refine⟨_,_,Acq _,Al.drop1 rfl (AbG _),done++[p],rest,_,acc+(GS p.text).length,_,by(try simp(disch:=omega) only [wrap64]);omega,by simp,rfl,by rw[<-hd];simp,by rw[<-hz];omega,rfl⟩
  by_cases k2:p.kind=10
  ·rw[k2] at hd
   simp only[push_cast,seval,reduceEqDiff,hz,Ad p (done:=done) (by omega),k2,Int.reduceBEq,Int.reduceBNe]
   repeat' (first|(((first|apply Ac|apply Ag|apply Af)<;>intro _h)<;>simp only[push_cast,seval,reduceEqDiff,_h,hz,Ad p (done:=done) (by omega),k2,Int.reduceBEq,Int.reduceBNe])|(refine Aq (by omega) ?_;simp only[push_cast,seval,reduceEqDiff,hz,Ad p (done:=done) (by omega),k2,Int.reduceBEq,Int.reduceBNe])|intro _)
   refine⟨_,_,Acq _,Al.drop1 rfl (AbG _),done++[p],rest,_,acc+1,_,by(try simp(disch:=omega) only [wrap64]);omega,by simp,rfl,by rw[<-hd];simp,by rw[<-hz];omega,rfl⟩
  by_cases k3:p.kind=11
  ·rw[k3] at hd
   rcases hps:p.parts with _|⟨q,qs⟩
   ·rw[hps] at hd
    simp only[push_cast,seval,reduceEqDiff,hz,Ad p (done:=done) (by omega),k3,Int.reduceBEq,Int.reduceBNe,hps]
    repeat' (first|(((first|apply Ac|apply Ag|apply Af)<;>intro _h)<;>simp only[push_cast,seval,reduceEqDiff,_h,hz,Ad p (done:=done) (by omega),k3,Int.reduceBEq,Int.reduceBNe,hps])|(refine Aq (by omega) ?_;simp only[push_cast,seval,reduceEqDiff,hz,Ad p (done:=done) (by omega),k3,Int.reduceBEq,Int.reduceBNe,hps])|intro _)
    refine⟨_,_,Acq _,Al.drop1 rfl (AbG _),done++[p],rest,_,acc+(3+p.name.length),_,by(try simp(disch:=omega) only [wrap64]);omega,by simp,rfl,by rw[<-hd];simp,by rw[<-hz];omega,rfl⟩
   ·have e1:decide ((p.parts.length:Int)>0)=true:=by rw[hps];simp<;>omega
    have e2:p.parts.isEmpty=false:=by rw[hps];rfl
    rw[e2] at hd
    clear hps
    simp only[push_cast,seval,reduceEqDiff,hz,Ad p (done:=done) (by omega),k3,Int.reduceBEq,Int.reduceBNe,e1]
    have _h:=trivial;repeat' (first|(first|((first|apply Ac|apply Ag|apply Af)<;>intro _h)|refine Ab hin ?_|refine Aq (by omega) ?_)<;>simp only[push_cast,seval,reduceEqDiff,_h,hz,Ad p (done:=done) (by omega),k3,Int.reduceBEq,Int.reduceBNe,e1]|intro _)
    refine⟨_,_,Acq _,Al.drop1 rfl (AbG _),done++[p],rest,_,acc+(3+p.name.length)+((2+p.name.length)+Cq p.parts),_,by(try simp(disch:=omega) only [wrap64]);omega,by simp,rfl,by rw[<-hd];simp<;>omega,by rw[<-hz];omega,rfl⟩
  have q1:(p.kind==1)=false:=by simpa using k1
  have q2:(p.kind==10)=false:=by simpa using k2
  have q3:(p.kind==11)=false:=by simpa using k3
  rw[q1,q2,q3] at hd
  simp only[bq,if_true,if_false,Int.reduceBEq,reduceCtorEq] at hd
  simp only[push_cast,seval,reduceEqDiff,hz,Ad p (done:=done) (by omega),q1,q2,q3,Int.reduceBEq,Int.reduceBNe]
  intros
  refine NO (Aii W0) (fun _ _ h=>by simp[lk] at h) ?_
  rw[GQ]
  simp only[push_cast,seval,reduceEqDiff]
  intro kk
  have hul:=Mj p.kind
  refine An (Rc []) (Inv:=fun m st=>∃seen n' x m0 b0,x=((acc+(2+p.name.length)+FF p.kind seen:Nat):Int)/\m=Rc seen/\(∀i∈seen,i<7)/\st=⟨[(3,.i .i64 x),(5,.ref (b0,5) 0),(10,.sl (List.map Aj.enc (done++p::rest))),(11,.i .i64 (done++p::rest).length),(12,.i .i64 done.length),(25,.arr (m0,25))],[((m0,25),.mit (m0,24) Em.length seen Em.length),((m0,24),.map Em),((b0,5),.box p.v)],n'⟩) ⟨_,Al.refl,[],_,_,_,_,by(simp(disch:=omega) only [wrap64,Xp];omega),rfl,by simp,rfl⟩ ?_
  rintro m _ ⟨seen,n',x,m0,b0,hx,rfl,hsb,rfl⟩
  unfold Aj.v
  simp only[push_cast,seval,reduceEqDiff,hz,Ad p (done:=done) (by omega),q1,q2,q3,Int.reduceBEq,Int.reduceBNe]
  refine Wc (id:=(m0,25)) (mid:=(m0,24)) (es:=Em) (seen:=seen) rfl (by simp[lk]) (by simp[lk]) (by simp) (by simp) (fun i kv hi hns=>?_) (fun hall=>?_)
  ·obtain⟨hi7,rfl⟩:=vJ hi
   have hlast:(seen++[i]).getLast?=some i:=by simp
   have hul2:=Mj (i+3:Nat)
   have hlt:=jW hi7 hns
   have hsb2:∀j∈seen++[i],j<7:=by
    grind
   have hhit:=fun h=>YS (k:=p.kind) (seen:=seen) (i:=i) h hns
   have hmiss:=fun h=>Sg (k:=p.kind) (seen:=seen) (i:=i) h
   generalize hki:((i+3:Nat):Int)=ki at *
   have hsu:FF p.kind seen<=9:=by unfold FF;split<;>omega
   simp only[push_cast,seval,reduceEqDiff,hlast,hi]
   repeat' (first|(((first|apply Ac|apply Ag|apply Af)<;>intro _h)<;>simp only[push_cast,seval,reduceEqDiff,_h,hlast,hi])|intro _)
   ·obtain⟨u1,u2⟩:=hhit (by simpa using _h)
    refine⟨_,_,hlt,Al.refl,seen++[i],_,_,_,_,?_,rfl,hsb2,rfl⟩
    rw[u2]
    rw[u1] at hx
    simp(disch:=omega) only [wrap64]
    omega
   ·have u2:=hmiss (by simpa using _h)
    refine⟨_,_,hlt,Al.envD (fun t=>?_) (AbG _),seen++[i],_,x,m0,b0,?_,rfl,hsb2,rfl⟩
    ·by_cases h6:6=t
     ·right;subst h6;rfl
     ·by_cases h34:34=t
      ·right;subst h34;rfl
      ·left;simp[get,h6,h34]
    omega
  ·rw[Qz] at hall
   rw[XJ hall hsb] at hx
   have hun:=Vx p.kind
   clear hall hsb
   obtain⟨sS,hsS⟩:∃n,n=(if(p.style==[])=true then 0 else 2+p.style.length):=⟨_,rfl⟩
   obtain⟨sC,hsC⟩:∃n,n=(if Bx p.kind=true then 1 else 0):=⟨_,rfl⟩
   rw[<-hsS,<-hsC] at hd
   simp only[push_cast,seval,reduceEqDiff,hz,Ad p (done:=done) (by omega),q1,q2,q3,Int.reduceBEq,Int.reduceBNe]
   have _h:=trivial;repeat' (first|(first|((first|apply Ac|apply Ag|apply Af)<;>intro _h)|refine Ab hsel ?_)<;>simp only[push_cast,seval,reduceEqDiff,_h,hz,Ad p (done:=done) (by omega),q1,q2,q3,Int.reduceBEq,Int.reduceBNe]|intro _)
   all_goals (try simp only[AmN,AsE] at *)
   all_goals (first|rw[if_pos (by assumption)] at hsS|rw[if_neg (by grind)] at hsS)
   all_goals (first|rw[if_pos (by assumption)] at hsC|rw[if_neg (by grind)] at hsC)
   all_goals
    refine An p.cases.length (Inv:=fun m st=>∃cd cr n' acc' x,x=((acc':Nat):Int)/\p.cases=cd++cr/\m=cr.length/\acc'+FK cr+Cq rest=S/\acc'+20*EB cr+20*Bd rest<=20*Bd ps/\st=⟨[(3,.i .i64 x),(10,.sl (List.map Aj.enc (done++p::rest))),(11,.i .i64 (done++p::rest).length),(12,.i .i64 done.length),(55,.sl (p.cases.map AQ.enc)),(56,.i .i64 p.cases.length),(57,.i .i64 cd.length)],[],n'⟩) ⟨_,Al.drop (fun _ _ h=>by cases h) (AbG _),[],p.cases,_,acc+(2+p.name.length)+Ta p.kind+sS+sC,_,by((try simp(disch:=omega) only [wrap64]);omega),rfl,rfl,by rw[<-hd];omega,by omega,rfl⟩ ?_
    clear hd hsS hsC hx
    rintro m _ ⟨cd,cr,n',acc',x,rfl,hcz,rfl,hd,hacc2,rfl⟩
    cases cr with
    | nil=>
     rw[FK,Atj] at hd
     rw[gG] at hacc2
     simp only[push_cast,seval,reduceEqDiff,hcz,Ad p (done:=done) (by omega)]
     intros
     exact⟨_,_,Acq _,Al.refl,done++[p],rest,_,acc',_,rfl,by simp,rfl,hd,by rw[<-hz];omega,rfl⟩
    | cons c cr=>
     have hcb:=AN hcz
     have hwc:=DO (cs:=p.cases) (c:=c) (by simp[hcz])
     rw[HQ] at hd
     rw[BX] at hacc2
     have htc:=Jd c.2
     have hcc:=ih c.2 (by omega) (by omega)
     simp only[push_cast,seval,reduceEqDiff,hcz,Ad c (done:=cd) (by omega)]
     repeat' (first|(refine Ab (by exact hcc) ?_;simp only[push_cast,seval,reduceEqDiff,hcz,Ad c (done:=cd) (by omega)])|intro _)
     refine⟨_,_,Acq _,Al.drop1 rfl (AbG _),cd++[c],cr,_,acc'+((4+c.1.length)+Cq c.2),_,by(simp(disch:=omega) only [wrap64];omega),by simp[hcz],rfl,by rw[<-hd];omega,by omega,rfl⟩
def CX(ps:List Aj):Bool:=(AY ps 0 false false []).1&&decide (((AY ps 0 false false []).2.length:Int)<=20)&&decide ((Cq ps:Int)<=4000)
theorem Aaj(ps:List Aj)(hb:Bd ps<=2^24):Am Tryz.prog W0 59 [.sl (ps.map Aj.enc),.b false] [] (.b (CX ps)) []:=by
 have h1:=fun id=>Amc W0 _ ps 0 false [] id (Acq _) hb (by omega) (by omega)
 have h3:=PX W0 _ ps (Acq _) hb
 generalize hS:CX ps=S
 unfold CX at hS
 generalize AY ps 0 false false []=R at *
 obtain⟨rb,rl⟩:=R
 have h1:∀id,Am Tryz.prog W0 95 [.agg [.arr id],.sl (ps.map Aj.enc),.i .i64 0,.b false] [(id,.map [])] (.b rb) [(id,.map (C5 rl))]:=h1
 simp only at hS
 refine Ai (vs:=[.b S]) AiA (by simp) (by simp) fun n0 hn0=>?_
 clear hn0
 simp only[push_cast,seval,reduceEqDiff]
 intros
 refine Yy (h1 _) ?_ ?_
 ·simp
 simp only[push_cast,seval,reduceEqDiff,P9]
 have _h:=trivial;repeat' (first|(first|((first|apply Ac|apply Ag|apply Af)<;>intro _h)|refine Ab h3 ?_)<;>simp only[push_cast,seval,reduceEqDiff,_h]|intro _)
 all_goals (try simp only[P9] at *)
 all_goals subst hS
 all_goals (first|(refine Ah ?_;simp[get, *]<;>(intros;omega);done)|(refine Ae ?_;simp[push_cast,get, *];done)|skip)
theorem Aa6(ps:List Aj)(hb:Bd ps<=2^24):Am Tryz.prog W0 35 [.sl (ps.map Aj.enc)] [] (.b (CX ps)) []:=by
 refine Ai (vs:=[.b (CX ps)]) Ajc (by simp) (by simp) fun n0 hn0=>?_
 clear hn0
 simp only[push_cast,seval,reduceEqDiff]
 have _h:=trivial;repeat' (first|(first|((first|apply Ac|apply Ag|apply Af)<;>intro _h)|refine Ab (Aaj W0 ps hb) ?_)<;>simp only[push_cast,seval,reduceEqDiff,_h]|intro _)
 all_goals (first|(refine Ah ?_;simp[get]<;>(intros;omega);done)|(refine Ae ?_;simp[push_cast,get];done)|skip)
structure WX where
 L:BV
 vs:List BE
 iso:Bool
def TW:Nat:=121
def wA(u:Bool)(wid:Id):V:=if u then .ref wid 0 else .np
def wC(X:WX)(a:V)(b:Id)(e:Int):V:=.agg [a,.arr b,.s X.L.tag,.s X.L.parent,.s X.L.dir,.sl (X.L.card.map AH.enc),.sl (X.L.ord.map AH.enc),.s X.L.dec,.s X.L.grp,.s X.L.minus,.s X.L.perc,.i .i64 X.L.prim,.i .i64 X.L.sec,.sl (X.L.lists.map Dc.enc),.sl (X.L.units.map Eb.enc),.sl (X.L.dates.map Dg.enc),.sl (X.L.months.map V.s),.sl (X.L.days.map V.s),.sl (X.vs.map BE.enc),.b X.iso,.i .i64 e]
@[push_cast] theorem AlH(X:WX)(a:V)(b:Id)(e:Int):wC X a b e=.agg [a,.arr b,.s X.L.tag,.s X.L.parent,.s X.L.dir,.sl (X.L.card.map AH.enc),.sl (X.L.ord.map AH.enc),.s X.L.dec,.s X.L.grp,.s X.L.minus,.s X.L.perc,.i .i64 X.L.prim,.i .i64 X.L.sec,.sl (X.L.lists.map Dc.enc),.sl (X.L.units.map Eb.enc),.sl (X.L.dates.map Dg.enc),.sl (X.L.months.map V.s),.sl (X.L.days.map V.s),.sl (X.vs.map BE.enc),.b X.iso,.i .i64 e]:=rfl
def Jw(wid:Id)(X:WX)(u:Bool)(b:Id)(l:Aa):Ak:=[(wid,.tbox TW (wC X (wA u wid) b 0)),(b,.arr 5 1 (Ax l))]
theorem Dw{n0 n n' m:Nat}{b b1:Id}(h:n<=b1.1/\b1.1<n'\/b1=b)(h1:n0<=n)(h2:n'<=m):n0<=b1.1/\b1.1<m\/b1=b:=by
 grind
theorem UD{n m:Nat}{b b1 b2:Id}(h:n<=b1.1/\b1.1<m\/b1=b)(k:n<=b2.1/\b2.1<m\/b2=b1):n<=b2.1/\b2.1<m\/b2=b:=by
 grind
theorem E8(a b:Aa):Ax a++Ax b=Ax (a++b):=by simp[Ax]
theorem Bm(a:Aa):(Ax a).length=a.length:=by simp[Ax]
theorem IS{a c:Id}{A C:AC}(h:a≠c):∀i e,lk [(a,A),(c,C)] i=some e->lk [(c,C),(a,A)] i=some e:=by
 intro i e hl
 simp only[lk] at hl⊢
 grind
theorem Ga(σ σo:Ak):over σ σo σ=σo:=by
 have:=DZ (σi:=σ) (σo:=σo) (pre:=[]) (fun p hp=>by cases hp)
 simpa using this
theorem bH(wid b:Id)(X:WX)(u:Bool)(l t:Aa)(hne:b≠wid)(h:l.length+t.length<=2^30) :
  Ei Tryz.prog W0 124 [.ref wid 0,.s t] (Jw wid X u b l) (fun n n' v σ'=>v=.tup [.i .i64 t.length,.ni]/\∃b':Id,(n<=b'.1/\b'.1<n')/\σ'=Jw wid X true b' (l++t)):=by
 generalize hR:(fun(n n':Nat) (v:V) (σ':Ak)=>v=V.tup [.i .i64 t.length,.ni]/\∃b':Id,(n<=b'.1/\b'.1<n')/\σ'=Jw wid X true b' (l++t))=R
 refine BP sP (by simp) fun n0 hn0=>?_
 have hw:wid.1<n0:=hn0 wid _ (by simp[Jw,lk];rfl)
 have hb:b.1<n0:=hn0 b _ (by simp[Jw,lk,Ail hne];rfl)
 clear hn0
 have hcp:Am Tryz.prog W0 180 [.ref wid 0] [(wid,.tbox TW (wC X (wA u wid) b 0))] (.tup []) [(wid,.tbox TW (wC X (wA true wid) b 0))]:=by
  cases u with
  | true=>exact Xg W0
  | false=>exact TI W0 (by kernel_rfl)
 simp only[AlH] at hcp
 have h1:(wid=b)=False:=eq_false (Ail hne)
 have h2:(b=wid)=False:=eq_false hne
 simp only[push_cast,seval,reduceEqDiff,h1,h2,Jw]
 intro k1
 refine BF hcp (fun i e h=>Bh (τ:=[(b,AC.arr 5 1 (Ax l))]) h) ?_
 rw[Hh (fun p hp=>by grind)]
 clear hcp
 have h3:∀k j:Nat,((n0+1+k1+1+k,j)=wid)=False:=fun k j=>eq_false fun he=>by grind
 have h4:∀k j:Nat,((n0+1+k,j)=b)=False:=fun k j=>eq_false fun he=>(by grind)
 have h4':∀k j:Nat,(b=(n0+1+k,j))=False:=fun k j=>eq_false fun he=>of_eq_false (h4 k j) he.symm
 simp only[push_cast,seval,reduceEqDiff,h1,h2,h3,Bm]
 intro k2
 refine Aq (by unfold AM;omega) ?_
 simp only[push_cast,seval,reduceEqDiff,h1,h2,h3,Bm]
 intro k3 k4
 subst hR
 rw[E8]
 exact⟨_,Al.refl,[.i .i64 t.length,.ni],Jw wid X true (n0+1+k1+1+k2,14) (l++t),⟨rfl,rfl,trivial⟩,IS (Ail (fun he=>of_eq_false (h3 _ _) he)),rfl,_,⟨by simp only;omega,by simp only;omega⟩,rfl⟩
theorem AeA(wid b:Id)(X:WX)(u:Bool)(l:Aa)(hne:b≠wid):Am Tryz.prog W0 125 [.ref wid 0] (Jw wid X u b l) (.i .i64 l.length) (Jw wid X u b l):=by
 refine Ai (vs:=[.i .i64 l.length]) Ado (by simp) (fun _ h=>h) fun n0 hn0=>?_
 clear hn0
 have h1:(wid=b)=False:=eq_false (Ail hne)
 have h2:(b=wid)=False:=eq_false hne
 simp only[push_cast,seval,reduceEqDiff,h1,h2,Jw,Bm]
 intros
 exact AA (by simp[get]) (fun _ _ h=>h)
theorem Bq{wid b:Id}{X:WX}{u:Bool}{l:Aa}:lk (Jw wid X u b l) wid=some (.tbox TW (wC X (wA u wid) b 0)):=by simp[Jw,lk]
theorem OT{wid b x:Id}{X:WX}{u:Bool}{l:Aa}(h1:wid≠x)(h2:b≠x):lk (Jw wid X u b l) x=none:=by simp[Jw,lk,h1,h2]
theorem KK{wid b x:Id}{X:WX}{u:Bool}{l:Aa}{e:AC}{σo:Ak}(h1:wid≠x)(h2:b≠x):over (Jw wid X u b l) σo ((x,e)::Jw wid X u b l)=σo++[(x,e)]:=
 DZ (pre:=[(x,e)]) (fun p hp q hq=>by simp[Jw] at hp hq;grind)
theorem Al.ownTbox{W0:World}{T:TypeId}{nt n:Nat}{env:AD}{τ:Ak}{rid:Id}{A B:List V}(e sz k:Nat):Al W0 nt ⟨env,(rid,.tbox T (.agg (A++.nil::B)))::τ,n⟩ ⟨env,((n,k),.arr e sz [])::(rid,.tbox T (.agg (A++.arr (n,k)::B)))::τ,n+1⟩:=by
 intro B' a w hat
 obtain⟨μ,H,hr,hp,hf,hold,hbn,hds⟩:=hat
 have hnone:μ (n,k)=none:=hp.bd _ (AbG _)
 have hmono:=Bv (v:=.slice none 0 0) hnone
 have hl0:lk ((rid,AC.tbox T (.agg (A++.nil::B)))::τ) rid=some (.tbox T (.agg (A++.nil::B))):=by simp[lk]
 have hne:((n,k):Id)≠rid:=by
  rintro rfl
  obtain⟨_,hm⟩:=(hp.ents _ _ hl0).named
  rw[hnone] at hm;cases hm
 have hnew:=(hp.more (Ani n)).new_ (n':=n+1) (w':=w) (R:=fun _=>False) ⟨rfl,rfl,rfl,AbG _,fun _ _ _=>rfl⟩ (fun _ h=>h.elim) (σ1:=(rid,.tbox T (.agg (A++.nil::B)))::τ) (fun id e h=>⟨h,fun _ _ h=>h⟩) (id:=(n,k)) (e:=.arr e sz []) (val:=.slice none 0 0) hnone (Acq _) (AbG _) (fun bk hb=>by simp[BI] at hb)
  ⟨.slice none 0 0,[],Ar _ _ _,rfl,AtB w _ e sz,Ajt _,(fun x hx=>by cases hx),AG.nil_⟩
 have hl1:lk (((n,k),AC.arr e sz [])::(rid,.tbox T (.agg (A++.nil::B)))::τ) rid=some (.tbox T (.agg (A++.nil::B))):=by simp[lk,hne]
 have hset:=hnew.1.set_ hl1 (w':=w) (e:=.tbox T (.agg (A++.arr (n,k)::B))) ⟨rfl,rfl,rfl,AbG _,fun _ _ _=>rfl⟩ (by
  obtain⟨bk,vals,h1,h2,h3,h4⟩:=hnew.1.ents _ _ hl1
  refine⟨bk,vals,h1,h2,h3,⟨⟨by have:=h4.len;simpa[cells] using this,fun j c v hc hv=>?_⟩,h4.one⟩⟩
  simp only[cells] at hc
  by_cases hj:j<A.length
  ·rw[ArP hj] at hc
   exact h4.at_ j c v (by simp only[cells];grind) hv
  ·rw[ApR (by omega)] at hc
   cases hq:j-A.length with
   | zero=>
    rw[hq] at hc
    simp only[Ata,Aiq] at hc
    subst hc
    have:=h4.at_ j .nil v (by simp only[cells];grind) hv
    rw[this.nil_inv]
    exact .arr _ _ (Ar _ _ _) rfl
   | succ q=>
    rw[hq] at hc
    simp only[AsO] at hc
    exact h4.at_ j c v (by simp only[cells];grind) hv)
 have hu:upd (((n,k),AC.arr e sz [])::(rid,.tbox T (.agg (A++.nil::B)))::τ) rid (.tbox T (.agg (A++.arr (n,k)::B)))=((n,k),.arr e sz [])::(rid,.tbox T (.agg (A++.arr (n,k)::B)))::τ:=by simp[upd,hne]
 rw[hu] at hset
 refine⟨_,H,⟨hr.size,fun s'=>(hr.at_ s').mono hmono (fun _ _ h=>h)⟩,hset.1,hf.trans (hnew.2.trans hset.2),fun id hid h0=>?_,Aiw hbn (Ani _),hds⟩
 simp only at hbn
 rw[B9 _ _ (by grind)]
 exact hold id hid h0
end Go.Ir
