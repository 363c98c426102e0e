/-
  Contracts: the index of the key that a value chooses, of ..
  Contracts: resolve, of the reference.
  Contracts: Flat, of the program.
  Contracts: Sound, of the program.
  Contracts: Value of the reference, Select of both sides.
  Contracts: FewForm
  Contracts: Few of a table of one locale
  Contracts: what is few in layer 32
  DERIVED: THE SHELF's CONTRACTS AT THIS DUMP, IN PLAIN WORDS ..
  Itoa, for any number: where the library's table of powers ..
  Contracts: Valid, of the reference.
  The library's functions as the evaluator is handed them: ..
  The library's functions on strings that search for strings: ..
  The library's variable MaxLen holds some int: out of the ..
  slices.Sort of strings, in place
  The IR of functions of the program, printed by our own tool
  Contracts: numbers in the symbols of a locale.
  Contracts: fields of skeletons, patterns of dates (package ..
  The two checks of a message agree, and what a message has ..
  What a message has that the checks accept: the cases of its ..
  Flat forms as plain Lean data: the two sides agree.
  What a AF form has: its variants have neither selections ..
  The AF form of a message that the check accepts is sound.
  How heavy resolved parts are.
  Flat forms: what the law VariantsPlain asks, in plain Lean.
  Signatures of messages as plain Lean data
  Contracts: types of arguments (known, Common, accepts), ..
  Contract: signature.use.
  Contracts: leaves, of the program
  Contracts: leaves and Leaves, of the program.
  Contracts: SameForm of a form with itself, formOf.
  Shapes, leaves and what is built of them, as plain Lean ..
  Shapes of messages that the check accepts are such
  The paths of leaves are different
  How many leaves a message of a shape takes, and its weight
  Contracts: within and shape, of the program.
  Contracts: the builder of the program.
  Contracts: the table of arguments (add, walk).
  Contracts: dates.
  Contracts: the best date pattern for a skeleton.
  Contracts: writing to a builder that stands in a variable ..
-/
import Derived.Test.YtalbicndcfmbnaaGreatDoorPad
import Derived.Lib.LaidTab
import Derived.Lib.ItoaLen
import Derived.MakeChecks
import Derived.Shelf.Small.Strs
import Derived.Shelf.Strings.OnBuilder
import Derived.Shelf.Strings.Split
import Derived.Shelf.Strings.Cut
import Derived.Shelf.Strings.Replace
import Derived.Shelf.Slices.ReverseS
import Derived.Shelf.SlIter.Nil
import Derived.Shelf.SortM.Plain
import Derived.Shelf.SortM.SortNone
import Derived.Ground.GgzProg
import Derived.Ground.SlgmProg
import Derived.Shelf.Strings.Repeat
import Derived.Lib.ReplaceLaws
import Derived.Lib.SplitLaws
import Derived.ShapedOpen
import Derived.Shelf.Slices.Clone
import Derived.Shelf.Slices.CompactS
import Derived.Lib.RuneBytes
set_option linter.all false
set_option linter.defProp false
set_option linter.unusedSimpArgs false
set_option linter.unusedVariables false
open Nat (reduceEqDiff)
namespace Go.Ir
open Go.Proofs
variable(W0:World)

def t6:List Et->Nat->List Aa×Nat
 | [],i=>([],i)
 | s::L,i=>(s.keys[(t6 L i).2 % s.keys.length]?.getD []::(t6 L i).1,(t6 L i).2 / s.keys.length)
abbrev jC:=List Et×List (List Aj)
def Ags(pkf:List Aa->sV)(L:List Et)(ps:List Aj)(n:Nat):List (List Aj):=(List.range n).map fun i=>Uf (pkf (t6 L i).1) [] ps []
def AmK(l:vM)(ps:List Aj):jC×Int:=
 if !CX ps then(([],[]),1)
 else if decide ((PM 1 (R0 ps):Int)>400) then(([],[]),6)
 else if !CZ [] l.card||!CZ [] l.ord then(([],[]),18)
 else((R0 ps,Ags (pkP l (R0 ps)) (R0 ps) ps (PM 1 (R0 ps))),0)
def rX:List Aa->List Aa->Bool
 | _,[]=>true
 | d,k::r=>!d.contains k&&rX (d++[k]) r
def Xt(l:List Aa):Bool:=match l.getLast? with
 | none=>false
 | some k=>k==En
def Alx(s:Et):Bool:=Bx s.kind&&(Ca s.name&&Xt s.keys)
def TN:List Et->List Et->Bool
 | _,[]=>true
 | d,s::r=>Alx s&&(rX [] s.keys&&(!d.any (Qp s.kind s.name)&&TN (d++[s]) r))
def Agl(f:jC):Bool:=TN [] f.1&&(decide ((PM 1 f.1:Int)<=400)&&((f.2.length:Int)==(PM 1 f.1:Int)))

def Qf:List Aa->Int->Int
 | [],n=>n
 | x::r,n=>Qf r (max n (x.length:Int))
def Cx(e:Bool):List BE->Bool
 | []=>e
 | v::r=>!(decide (Qf v.list (v.text.length:Int)>200)||decide ((v.list.length:Int)>12)||decide ((v.name.length:Int)>60))&&Cx e r
set_option maxHeartbeats 4000000 in
theorem Y3(vs:List BE)(hl:vs.length<=2^40)(hw:∀v∈vs,v.list.length<=2^40):Am Tryz.prog W0 18 [.sl (vs.map BE.enc)] [] (.b (Cx (decide ((vs.length:Int)<=30)) vs)) []:=by
 generalize hE:decide ((vs.length:Int)<=30)=E
 generalize hS:Cx E vs=S
 refine Ai (vs:=[.b S]) Anz (by simp) (by simp) fun n0 hn0=>?_
 clear hn0
 simp only[push_cast,seval,reduceEqDiff]
 intros
 refine An vs.length (Inv:=fun m st=>∃done rest n,vs=done++rest/\m=rest.length/\Cx E rest=S/\st=⟨[(0,.sl (vs.map BE.enc)),(3,.i .i64 done.length)],[],n⟩) ⟨_,Al.refl,[],vs,_,rfl,rfl,hS,rfl⟩ ?_
 clear hS
 rintro m _ ⟨done,rest,n,hz,rfl,hd,rfl⟩
 cases rest with
 | nil=>
  have hlt0:decide ((done.length:Int)<(vs.length:Int))=false:=by rw[hz];simp
  rw[Cx] at hd
  simp only[push_cast,seval,reduceEqDiff,hlt0,Ae5,hE]
  intros
  exact Ah (by simp[get,hd])
 | cons v rest=>
  have hlt0:decide ((done.length:Int)<(vs.length:Int))=true:=by rw[hz];simp;omega
  have hbd:=AN hz
  have hget:(vs.map BE.enc)[done.length]?=some (.agg [.s v.name,.i .i64 v.type,.s v.text,.i .i64 v.date,.sl (v.list.map V.s)]):=by
   rw[hz,Aqt,ApR (by simp)];simp[BE.enc_eq]
  have hwv:=hw v (by rw[hz];simp)
  rw[Cx] at hd
  simp only[push_cast,seval,reduceEqDiff,hlt0,hget,if_pos hbd,Ae5]
  intros
  refine An v.list.length (Inv:=fun m st=>∃kd kr n a,v.list=kd++kr/\m=kr.length/\Qf v.list (v.text.length:Int)=Qf kr a/\st=⟨[(0,.sl (vs.map BE.enc)),(3,.i .i64 done.length),(4,.i .i64 a),(5,.i .i64 kd.length)],[],n⟩) ⟨_,Al.refl,[],v.list,_,_,rfl,rfl,rfl,rfl⟩ ?_
  rintro m _ ⟨kd,kr,n2,a,hkz,rfl,hm,rfl⟩
  cases kr with
  | nil=>
   have hlt1:decide ((kd.length:Int)<(v.list.length:Int))=false:=by rw[hkz];simp
   rw[Qf] at hm
   rw[hm] at hd
   simp only[push_cast,seval,reduceEqDiff,hlt1,hget,if_pos hbd,Ae5,Ad v (done:=done) (by omega)]
   clear hm hkz
   repeat' (first|(((first|apply Ac|apply Ag|apply Af)<;>intro _h)<;>simp only[push_cast,seval,reduceEqDiff,_h,hlt1,hget,if_pos hbd,Ae5,Ad v (done:=done) (by omega)])|intro _)
   all_goals (first|(simp only[*,bq,if_true,if_false,Int.reduceBEq,reduceCtorEq] at hd;subst hd;exact Ah (by simp[get]))|skip)
   have g1:decide ((v.list.length:Int)>12)=false:=by assumption
   have g2:decide ((v.name.length:Int)>60)=false:=by assumption
   have g3:decide (a>200)=false:=by assumption
   simp only[g1,g2,g3,bq,if_true,if_false,Int.reduceBEq,reduceCtorEq] at hd
   exact⟨_,_,Acq _,Al.refl,done++[v],rest,_,by rw[hz];simp,rfl,hd,rfl⟩
  | cons k kr=>
   have hlt1:decide ((kd.length:Int)<(v.list.length:Int))=true:=by rw[hkz];simp;omega
   have hkb:=AN hkz
   have hgk:(v.list.map V.s)[kd.length]?=some (.s k):=by simp_all
   rw[Qf] at hm
   simp only[push_cast,seval,reduceEqDiff,hlt1,hget,if_pos hbd,hgk,if_pos hkb,Ae5,Ad k (done:=kd) (by omega)]
   intros
   exact⟨_,_,Acq _,Al.refl,kd++[k],kr,_,_,by rw[hkz];simp,rfl,hm,rfl⟩
def Ho(s:Aa):Nat:=s.length+30
def E4(l:List Aa):Nat:=Bz Ho l
theorem FC(l:List Aa)(hb:E4 l<=2^40):Am Tryz.prog W0 85 [.sl (l.map V.s)] [] (.i .i64 (E4 l)) []:=by
 have hlen:l.length<=E4 l:=EH (fun x=>by unfold Ho;omega) l
 generalize hS:E4 l=S at *
 refine Ai (vs:=[.i .i64 S]) AkT (by simp) (by simp) fun n0 hn0=>?_
 clear hn0
 simp only[push_cast,seval,reduceEqDiff]
 intros
 refine An l.length (Inv:=fun m st=>∃done rest n,∃a:Nat,l=done++rest/\m=rest.length/\a+E4 rest=S/\st=⟨[(0,.sl (l.map V.s)),(3,.i .i64 a),(4,.i .i64 done.length)],[],n⟩) ⟨_,Al.refl,[],l,_,0,rfl,rfl,by rw[hS];omega,rfl⟩ ?_
 clear hS
 rintro m _ ⟨done,rest,n,a,hz,rfl,hd,rfl⟩
 cases rest with
 | nil=>
  have:a=S:=by simpa[E4,Bz] using hd
  subst this
  simp only[push_cast,seval,reduceEqDiff,hz]
  intros
  all_goals (first|(refine Ah ?_;simp[get]<;>(intros;omega);done)|(refine Ae ?_;simp[push_cast,get];done)|skip)
 | cons p rest=>
  have hbd:=AN hz
  unfold E4 at hd
  rw[Bz] at hd
  have hp:Ho p=p.length+30:=rfl
  have w1:IntKind.i64.wrap ((p.length:Int)+30)=((Ho p:Nat):Int):=by rw[wrap64 (by omega) (by omega),hp];omega
  have w2:IntKind.i64.wrap ((a:Int)+((Ho p:Nat):Int))=((a+Ho p:Nat):Int):=by rw[wrap64 (by omega) (by omega)];omega
  simp only[push_cast,seval,reduceEqDiff,hz,Ad p (done:=done) (by omega),w1,w2]
  intros
  exact⟨_,_,Acq _,Al.refl,done++[p],rest,_,a+Ho p,by simp,rfl,by unfold E4;omega,rfl⟩
def Dc.sz(x:Dc):Nat:=E4 [x.style,x.two,x.start,x.mid,x.fin]
def Eb.sz(x:Eb):Nat:=E4 [x.unit,x.cls,x.pat]
def Dg.sz(x:Dg):Nat:=E4 [x.skel,x.pat]
def M0(L:BV):Nat:=(E4 [L.tag,L.parent,L.dir,L.dec,L.grp,L.minus,L.perc]+E4 L.months+E4 L.days+100*(L.card.length+L.ord.length))+Bz Dc.sz L.lists+Bz Eb.sz L.units+Bz Dg.sz L.dates
set_option maxHeartbeats 4000000 in
theorem z6(L:BV)(hb:M0 L<=2^40):Am Tryz.prog W0 54 [.agg [.sl [L.enc],.nil,.nil]] [] (.i .i64 (M0 L)) []:=by
 have hl1:L.lists.length<=Bz Dc.sz L.lists:=EH (fun x=>by unfold Dc.sz E4;simp only[Bz,Ho];omega) _
 have hl2:L.units.length<=Bz Eb.sz L.units:=EH (fun x=>by unfold Eb.sz E4;simp only[Bz,Ho];omega) _
 have hl3:L.dates.length<=Bz Dg.sz L.dates:=EH (fun x=>by unfold Dg.sz E4;simp only[Bz,Ho];omega) _
 have c1:=FC W0 [L.tag,L.parent,L.dir,L.dec,L.grp,L.minus,L.perc] (by unfold M0 at hb;omega)
 have c2:=FC W0 L.days (by unfold M0 at hb;omega)
 have c3:=FC W0 L.months (by unfold M0 at hb;omega)
 simp only[Ait,AkV] at c1
 generalize hS:M0 L=S
 unfold M0 at hS hb
 generalize E4 [L.tag,L.parent,L.dir,L.dec,L.grp,L.minus,L.perc]=s1 at *
 generalize E4 L.days=s2 at *
 generalize E4 L.months=s3 at *
 generalize hA:s1+s3+s2+100*(L.card.length+L.ord.length)=A at *
 refine Ai (vs:=[.i .i64 S]) AlG (by simp) (by simp) fun n0 hn0=>?_
 clear hn0
 simp only[push_cast,seval,reduceEqDiff]
 intros
 refine An 1 (Inv:=fun m st=>∃n,∃a:Nat,(a=0/\m=1\/a=S/\m=0)/\st=⟨[(1,.ref (n0,1) 0),(3,.i .i64 a),(4,.i .i64 ((1-m:Nat):Int))],[((n0,1),.box (.agg [.sl [L.enc],.nil,.nil]))],n⟩) ⟨_,Al.refl,_,0,.inl ⟨rfl,rfl⟩,rfl⟩ ?_
 rintro m _ ⟨n,a,hm,rfl⟩
 rcases hm with⟨rfl,rfl⟩|⟨rfl,rfl⟩
 ·have w1:IntKind.i64.wrap ((s1:Int)+(s3:Int))=(s1:Int)+(s3:Int):=by rw[wrap64 (by omega) (by omega)]
  have w2:IntKind.i64.wrap ((s1:Int)+(s3:Int)+(s2:Int))=(s1:Int)+(s3:Int)+(s2:Int):=by rw[wrap64 (by omega) (by omega)]
  have w3:IntKind.i64.wrap ((L.card.length:Int)+(L.ord.length:Int))=(L.card.length:Int)+(L.ord.length:Int):=by rw[wrap64 (by omega) (by omega)]
  have w4:IntKind.i64.wrap (100*((L.card.length:Int)+(L.ord.length:Int)))=100*((L.card.length:Int)+(L.ord.length:Int)):=by rw[wrap64 (by omega) (by omega)]
  have w5:IntKind.i64.wrap ((s1:Int)+(s3:Int)+(s2:Int)+100*((L.card.length:Int)+(L.ord.length:Int)))=(A:Int):=by rw[wrap64 (by omega) (by omega)];omega
  have w6:IntKind.i64.wrap (0+(A:Int))=(A:Int):=by grind
  simp only[push_cast,seval,reduceEqDiff,w1,w2,w3,w4,w5,w6]
  intros
  refine Ab (by exact c1) ?_
  simp only[push_cast,seval,reduceEqDiff,w1,w2,w3,w4,w5,w6]
  refine Ab (by exact c3) ?_
  simp only[push_cast,seval,reduceEqDiff,w1,w2,w3,w4,w5,w6]
  refine Ab (by exact c2) ?_
  simp only[push_cast,seval,reduceEqDiff,w1,w2,w3,w4,w5,w6]
  intros
  rename_i k1 k2 k3 k4
  obtain⟨x,hx⟩:∃x:Id,x=(n+1+k1,5):=⟨_,rfl⟩
  have hxt:x≠(n0,1):=by rw[hx];simp
  rw[<-hx]
  generalize hτ:((x,AC.box (.agg [.s L.tag,.s L.parent,.s L.dir,.sl (L.card.map AH.enc),.sl (L.ord.map AH.enc),.s L.dec,.s L.grp,.s L.minus,.s L.perc,.i .i64 L.prim,.i .i64 L.sec,.sl (L.lists.map Dc.enc),.sl (L.units.map Eb.enc),.sl (L.dates.map Dg.enc),.sl (L.months.map V.s),.sl (L.days.map V.s)]))::_:Ak)=τ
  have hτx:lk τ x=some (.box (.agg [.s L.tag,.s L.parent,.s L.dir,.sl (L.card.map AH.enc),.sl (L.ord.map AH.enc),.s L.dec,.s L.grp,.s L.minus,.s L.perc,.i .i64 L.prim,.i .i64 L.sec,.sl (L.lists.map Dc.enc),.sl (L.units.map Eb.enc),.sl (L.dates.map Dg.enc),.sl (L.months.map V.s),.sl (L.days.map V.s)])):=by rw[<-hτ];simp[lk]
  obtain⟨A1,hA1⟩:∃A1,A1=A+Bz Dc.sz L.lists:=⟨_,rfl⟩
  obtain⟨A2,hA2⟩:∃A2,A2=A1+Bz Eb.sz L.units:=⟨_,rfl⟩
  refine An L.lists.length (Inv:=fun m st=>∃done rest n2,∃a:Nat,L.lists=done++rest/\m=rest.length/\a+Bz Dc.sz rest=A+Bz Dc.sz L.lists/\st=⟨[(1,.ref (n0,1) 0),(3,.i .i64 a),(4,.i .i64 0),(5,.ref x 0),(6,.i .i64 done.length)],τ,n2⟩) ⟨_,Al.refl,[],L.lists,_,A,rfl,rfl,rfl,rfl⟩ ?_
  rintro m _ ⟨done,rest,n2,a,hz,rfl,hd,rfl⟩
  cases rest with
  | cons p rest=>
   have hbd:=AN hz
   rw[Bz] at hd
   have hpb:Dc.sz p<=2^40:=by omega
   have cs:Am Tryz.prog W0 85 [.sl [.s p.style,.s p.two,.s p.start,.s p.mid,.s p.fin]] [] (.i .i64 (Dc.sz p)) []:=FC W0 [p.style,p.two,p.start,p.mid,p.fin] hpb
   have w7:IntKind.i64.wrap ((a:Int)+((Dc.sz p:Nat):Int))=(a:Int)+((Dc.sz p:Nat):Int):=by rw[wrap64 (by omega) (by omega)]
   have hget:(L.lists.map Dc.enc)[done.length]?=some (Dc.enc p):=by rw[hz];simp
   have hlt:decide ((done.length:Int)<(L.lists.length:Int))=true:=by rw[hz];simp;omega
   have hwz:IntKind.i64.wrap ((done.length:Int)+1)=((done++[p]).length:Int):=Ad p (by omega)
   simp only[push_cast,seval,reduceEqDiff,hget,hlt,hwz,hτx,w7,if_pos hbd]
   have _h:=trivial;repeat' (first|(first|((first|apply Ac|apply Ag|apply Af)<;>intro _h)|refine Ab cs ?_)<;>simp only[push_cast,seval,reduceEqDiff,_h,hget,hlt,hwz,hτx,w7,if_pos hbd]|intro _)
   exact⟨_,_,Acq _,Al.refl,done++[p],rest,_,a+Dc.sz p,by rw[hz];simp,rfl,by omega,rfl⟩
  | nil=>
   have ha:a=A1:=by rw[Bz] at hd;omega
   rw[ha]
   have hlt:decide ((done.length:Int)<(L.lists.length:Int))=false:=by rw[hz];simp
   simp only[push_cast,seval,reduceEqDiff,hlt,hτx]
   intros
   clear hd hz hlt
   refine An L.units.length (Inv:=fun m st=>∃done rest n2,∃a:Nat,L.units=done++rest/\m=rest.length/\a+Bz Eb.sz rest=A1+Bz Eb.sz L.units/\st=⟨[(1,.ref (n0,1) 0),(3,.i .i64 a),(4,.i .i64 0),(5,.ref x 0),(7,.i .i64 done.length)],τ,n2⟩) ⟨_,Al.refl,[],L.units,_,A1,rfl,rfl,rfl,rfl⟩ ?_
   rintro m _ ⟨done,rest,n2,a,hz,rfl,hd,rfl⟩
   cases rest with
   | cons p rest=>
    have hbd:=AN hz
    rw[Bz] at hd
    have hpb:Eb.sz p<=2^40:=by omega
    have cs:Am Tryz.prog W0 85 [.sl [.s p.unit,.s p.cls,.s p.pat]] [] (.i .i64 (Eb.sz p)) []:=FC W0 [p.unit,p.cls,p.pat] hpb
    have w7:IntKind.i64.wrap ((a:Int)+((Eb.sz p:Nat):Int))=(a:Int)+((Eb.sz p:Nat):Int):=by rw[wrap64 (by omega) (by omega)]
    have hget:(L.units.map Eb.enc)[done.length]?=some (Eb.enc p):=by rw[hz];simp
    have hlt:decide ((done.length:Int)<(L.units.length:Int))=true:=by rw[hz];simp;omega
    have hwz:IntKind.i64.wrap ((done.length:Int)+1)=((done++[p]).length:Int):=Ad p (by omega)
    simp only[push_cast,seval,reduceEqDiff,hget,hlt,hwz,hτx,w7,if_pos hbd]
    have _h:=trivial;repeat' (first|(first|((first|apply Ac|apply Ag|apply Af)<;>intro _h)|refine Ab cs ?_)<;>simp only[push_cast,seval,reduceEqDiff,_h,hget,hlt,hwz,hτx,w7,if_pos hbd]|intro _)
    exact⟨_,_,Acq _,Al.refl,done++[p],rest,_,a+Eb.sz p,by rw[hz];simp,rfl,by omega,rfl⟩
   | nil=>
    have ha:a=A2:=by rw[Bz] at hd;omega
    rw[ha]
    have hlt:decide ((done.length:Int)<(L.units.length:Int))=false:=by rw[hz];simp
    simp only[push_cast,seval,reduceEqDiff,hlt,hτx]
    intros
    clear hd hz hlt
    refine An L.dates.length (Inv:=fun m st=>∃done rest n2,∃a:Nat,L.dates=done++rest/\m=rest.length/\a+Bz Dg.sz rest=A2+Bz Dg.sz L.dates/\st=⟨[(1,.ref (n0,1) 0),(3,.i .i64 a),(4,.i .i64 0),(5,.ref x 0),(8,.i .i64 done.length)],τ,n2⟩) ⟨_,Al.refl,[],L.dates,_,A2,rfl,rfl,rfl,rfl⟩ ?_
    rintro m _ ⟨done,rest,n2,a,hz,rfl,hd,rfl⟩
    cases rest with
    | cons p rest=>
     have hbd:=AN hz
     rw[Bz] at hd
     have hpb:Dg.sz p<=2^40:=by omega
     have cs:Am Tryz.prog W0 85 [.sl [.s p.skel,.s p.pat]] [] (.i .i64 (Dg.sz p)) []:=FC W0 [p.skel,p.pat] hpb
     have w7:IntKind.i64.wrap ((a:Int)+((Dg.sz p:Nat):Int))=(a:Int)+((Dg.sz p:Nat):Int):=by rw[wrap64 (by omega) (by omega)]
     have hget:(L.dates.map Dg.enc)[done.length]?=some (Dg.enc p):=by rw[hz];simp
     have hlt:decide ((done.length:Int)<(L.dates.length:Int))=true:=by rw[hz];simp;omega
     have hwz:IntKind.i64.wrap ((done.length:Int)+1)=((done++[p]).length:Int):=Ad p (by omega)
     simp only[push_cast,seval,reduceEqDiff,hget,hlt,hwz,hτx,w7,if_pos hbd]
     have _h:=trivial;repeat' (first|(first|((first|apply Ac|apply Ag|apply Af)<;>intro _h)|refine Ab cs ?_)<;>simp only[push_cast,seval,reduceEqDiff,_h,hget,hlt,hwz,hτx,w7,if_pos hbd]|intro _)
     exact⟨_,_,Acq _,Al.refl,done++[p],rest,_,a+Dg.sz p,by rw[hz];simp,rfl,by omega,rfl⟩
    | nil=>
     have ha:a=S:=by rw[Bz] at hd;omega
     rw[ha]
     have hlt:decide ((done.length:Int)<(L.dates.length:Int))=false:=by rw[hz];simp
     simp only[push_cast,seval,reduceEqDiff,hlt,hτx]
     intros
     clear hd hz hlt
     exact⟨_,_,by omega,(by rw[<-hτ];exact Al.drop1 (by simp[lk,Ail hxt]) (AbG _)),_,S,.inr ⟨rfl,rfl⟩,rfl⟩
 ·skip
  simp only[push_cast,seval,reduceEqDiff,lk]
  intros
  refine An 0 (Inv:=fun m st=>∃n2,st=⟨[(1,.ref (n0,1) 0),(3,.i .i64 a),(9,.i .i64 0)],[((n0,1),.box (.agg [.sl [L.enc],.nil,.nil]))],n2⟩) ⟨_,Al.refl,_,rfl⟩ ?_
  rintro m _ ⟨n2,rfl⟩
  simp only[push_cast,seval,reduceEqDiff,lk]
  intros
  refine An 0 (Inv:=fun m st=>∃n2,st=⟨[(1,.ref (n0,1) 0),(3,.i .i64 a),(10,.i .i64 0)],[((n0,1),.box (.agg [.sl [L.enc],.nil,.nil]))],n2⟩) ⟨_,Al.refl,_,rfl⟩ ?_
  rintro m _ ⟨n2,rfl⟩
  simp only[push_cast,seval,reduceEqDiff,lk]
  intros
  exact Ah (by simp[get])
def Oj(L:BV):Bool:=!(decide ((L.card.length:Int)>12)||decide ((L.ord.length:Int)>12)||decide ((L.lists.length:Int)>12)||decide ((L.units.length:Int)>110)||decide ((L.dates.length:Int)>40)||decide ((L.months.length:Int)>20)||decide ((L.days.length:Int)>20))
def HK(L:BV):Bool:=Oj L&&((L.card++L.ord).all (fun r=>Gm r.cond)&&decide ((M0 L:Int)<=40000))
set_option maxHeartbeats 4000000 in
theorem y7(L:BV)(hb:M0 L<=2^40)(hw:A7 L.card+A7 L.ord<=2^24):Am Tryz.prog W0 32 [.agg [.sl [L.enc],.nil,.nil]] [] (.b (HK L)) []:=by
 have hsz:=z6 W0 L hb
 have g1:=Fg L.card
 have g2:=Fg L.ord
 generalize hS:HK L=S
 unfold HK at hS
 refine Ai (vs:=[.b S]) AjM (by simp) (by simp) fun n0 hn0=>?_
 clear hn0
 simp only[push_cast,seval,reduceEqDiff]
 intros
 refine An 1 (Inv:=fun m st=>∃n,(m=1/\(Oj L&&((L.card++L.ord).all (fun r=>Gm r.cond)&&decide ((M0 L:Int)<=40000)))=S\/m=0/\decide ((M0 L:Int)<=40000)=S)/\st=⟨[(1,.ref (n0,1) 0),(3,.i .i64 ((1-m:Nat):Int))],[((n0,1),.box (.agg [.sl [L.enc],.nil,.nil]))],n⟩) ⟨_,Al.refl,_,.inl ⟨rfl,hS⟩,rfl⟩ ?_
 clear hS
 rintro m _ ⟨n,⟨rfl,hd⟩|⟨rfl,hd⟩,rfl⟩
 ·generalize hF:Oj L=F at hd
  unfold Oj at hF
  simp only[push_cast,seval,reduceEqDiff,Ae5]
  repeat' (first|(((first|apply Ac|apply Ag|apply Af)<;>intro _h)<;>simp only[push_cast,seval,reduceEqDiff,_h,Ae5])|intro _)
  all_goals (first|(simp only[*,bq,if_true,if_false,Int.reduceBEq,reduceCtorEq] at hF;subst hF;simp only[bq,if_true,if_false,Int.reduceBEq,reduceCtorEq] at hd;subst hd;exact Ah (by simp[get]))|skip)
  have hFt:F=true:=by grind
  rw[hFt,Arn] at hd
  rename_i k1 k2 _ _ _ _ _ _ k3 k4
  clear hF hFt
  obtain⟨x,hx⟩:∃x:Id,x=(n+1+k1,4):=⟨_,rfl⟩
  have hxt:x≠(n0,1):=by rw[hx];simp
  have hx1:x.1<n+1+k1+1+k2+1+k3+1+k4:=by rw[hx];simp only;omega
  rw[<-hx]
  generalize n+1+k1+1+k2+1+k3+1+k4=n1 at hx1⊢
  have hτt:lk [((n0,1),AC.box (.agg [.sl [L.enc],.nil,.nil]))] x=none:=by simp[lk,Ail hxt]
  rw[L.enc_eq] at hτt
  generalize hτ:((x,AC.box (.agg [.s L.tag,.s L.parent,.s L.dir,.sl (L.card.map AH.enc),.sl (L.ord.map AH.enc),.s L.dec,.s L.grp,.s L.minus,.s L.perc,.i .i64 L.prim,.i .i64 L.sec,.sl (L.lists.map Dc.enc),.sl (L.units.map Eb.enc),.sl (L.dates.map Dg.enc),.sl (L.months.map V.s),.sl (L.days.map V.s)]))::_:Ak)=τ
  have hτx:lk τ x=some (.box (.agg [.s L.tag,.s L.parent,.s L.dir,.sl (L.card.map AH.enc),.sl (L.ord.map AH.enc),.s L.dec,.s L.grp,.s L.minus,.s L.perc,.i .i64 L.prim,.i .i64 L.sec,.sl (L.lists.map Dc.enc),.sl (L.units.map Eb.enc),.sl (L.dates.map Dg.enc),.sl (L.months.map V.s),.sl (L.days.map V.s)])):=by rw[<-hτ];simp[lk]
  have hsum:IntKind.i64.wrap ((L.card.length:Int)+(L.ord.length:Int))=((L.card++L.ord).length:Int):=by rw[wrap64 (by omega) (by omega)];simp
  have hdrop:∀{env:AD} {n:Nat},Al W0 105 ⟨env,τ,n⟩ ⟨env,[((n0,1),AC.box (.agg [.sl [L.enc],.nil,.nil]))],n⟩:=by
   intro env n
   rw[<-hτ]
   exact Al.drop1 hτt (AbG _)
  have hτd:∀id:Id,id≠x->id≠(n0,1)->del τ id=τ:=by
   intro id h1 h2
   rw[<-hτ]
   simp[del,h1,h2,Ail h1,Ail h2]
  have hτl:∀id:Id,id≠x->id≠(n0,1)->lk τ id=none:=by
   intro id h1 h2
   rw[<-hτ]
   simp[lk,Ail h1,Ail h2]
  clear hτ hτt
  obtain⟨C,hC⟩:∃C,C=L.card++L.ord:=⟨_,rfl⟩
  rw[<-hC] at hsum hd
  have hCl:C.length<=2^26:=by grind
  have hCw:∀r∈C,CY r.cond<=2^24:=by
   intro r hr
   rw[hC] at hr
   rcases Aio.1 hr with h|h
   ·have:=Fj h;unfold AH.wt at this;omega
   ·have:=Fj h;unfold AH.wt at this;omega
  refine An C.length (Inv:=fun m st=>∃done rest n2,C=done++rest/\m=rest.length/\(rest.all (fun r=>Gm r.cond)&&decide ((M0 L:Int)<=40000))=S/\n1<=n2/\st=⟨[(1,.ref (n0,1) 0),(3,.i .i64 0),(4,.ref x 0),(5,.i .i64 done.length)],τ,n2⟩) ⟨_,Al.refl,[],C,_,rfl,rfl,hd,AbG _,rfl⟩ ?_
  clear hd
  rintro m _ ⟨done,rest,n2,hz,rfl,hd,hn,rfl⟩
  cases rest with
  | nil=>
   have hlt:decide ((done.length:Int)<(C.length:Int))=false:=by rw[hz];simp
   rw[List.all_nil,Arn] at hd
   simp only[push_cast,seval,reduceEqDiff,hlt,hτx,hsum]
   intros
   exact⟨_,_,by omega,hdrop,_,.inr ⟨rfl,hd⟩,rfl⟩
  | cons p rest=>
   have hbd:=AN hz
   have hlt:decide ((done.length:Int)<(C.length:Int))=true:=by rw[hz];simp;omega
   have hwz:IntKind.i64.wrap ((done.length:Int)+1)=((done++[p]).length:Int):=Ad p (by omega)
   have hf:=Aid W0 p.cond (hCw p (by rw[hz];simp))
   have hget:(L.card.map AH.enc++L.ord.map AH.enc)[done.length]?=some p.enc:=by rw[<-Aub,<-hC,hz];simp
   have hnx:∀k j,((n2+1+k,j)=x)=False:=fun k j=>eq_false fun he=>by grind
   have hxn:∀k j,(x=(n2+1+k,j))=False:=fun k j=>eq_false fun he=>of_eq_false (hnx k j) he.symm
   rw[At3] at hd
   have hc1:∀l:List AH,(∀y∈l.map AH.enc,(cells y).length=2)=True:=fun l=>eq_true fun y hy=>by obtain⟨r,_,rfl⟩:=Apq.1 hy;rfl
   have hd1:∀k,del τ (n2+1+k,70)=τ:=fun k=>hτd _ (fun he=>of_eq_false (hnx k 70) he) (by simp)
   have hd2:∀k,del τ (n2+1+k,73)=τ:=fun k=>hτd _ (fun he=>of_eq_false (hnx k 73) he) (by simp)
   have hb1:(L.card.length<=AM)=True:=eq_true (by unfold AM;omega)
   have hb2:(L.card.length+L.ord.length<=AM)=True:=eq_true (by unfold AM;omega)
   have hbd':(done.length<(L.card.map AH.enc++L.ord.map AH.enc).length)=True:=eq_true (by grind)
   simp only[push_cast,seval,reduceEqDiff,hlt,hwz,hτx,hsum,hget,hbd',hnx,hxn,hc1,hd1,hd2,hb1,hb2,Ae5]
   have _h:=trivial;repeat' (first|(first|((first|apply Ac|apply Ag|apply Af)<;>intro _h)|refine Ab hf ?_)<;>simp only[push_cast,seval,reduceEqDiff,_h,hlt,hwz,hτx,hsum,hget,hbd',hnx,hxn,hc1,hd1,hd2,hb1,hb2,Ae5]|intro _)
   ·have hfc:Gm p.cond=false:=by simpa using _h
    rw[hfc,As1,As1] at hd
    subst hd
    exact Ah (by simp[get])
   ·have hfc:Gm p.cond=true:=by simpa using _h
    rw[hfc,Arn] at hd
    have e6:∀k,lk τ (n2+1+k,6)=none:=fun k=>hτl _ (fun he=>of_eq_false (hnx k 6) he) (by simp)
    have e76:∀k,lk τ (n2+1+k,76)=none:=fun k=>hτl _ (fun he=>of_eq_false (hnx k 76) he) (by simp)
    exact⟨_,_,Acq _,(Al.drop1 (by simp[lk,e6]) (AbG _)).trans (Al.drop1 (e76 _) (AbG _)),done++[p],rest,_,by rw[hz];simp,rfl,hd,by omega,rfl⟩
 ·skip
  simp only[push_cast,seval,reduceEqDiff,lk]
  have _h:=trivial;repeat' (first|(first|((first|apply Ac|apply Ag|apply Af)<;>intro _h)|refine Ab hsz ?_)<;>simp only[push_cast,seval,reduceEqDiff,_h,lk]|intro _)
  exact Ah (by simp[get,hd])
set_option maxHeartbeats 4000000 in
theorem AaE(L:BV)(ps:List Aj)(vs:List BE)(h1:M0 L<=2^40)(h2:A7 L.card+A7 L.ord<=2^24)(h3:Bd ps<=2^24)(h4:vs.length<=2^40)(h5:∀v∈vs,v.list.length<=2^40) :
  Am Tryz.prog W0 25 [L.enc,.sl (ps.map Aj.enc),.sl (vs.map BE.enc)] [] (.b (HK L&&Jv ps&&Cx (decide ((vs.length:Int)<=30)) vs)) []:=by
 have c1:=y7 W0 L h1 h2
 have c2:=AlQ W0 ps h3
 have c3:=Y3 W0 vs h4 h5
 rw[BV.enc_eq] at c1
 generalize HK L=A1 at *
 generalize Jv ps=A2 at *
 generalize Cx (decide ((vs.length:Int)<=30)) vs=A3 at *
 refine Ai (vs:=[.b (A1&&A2&&A3)]) Anu (by simp) (by simp) fun n0 hn0=>?_
 clear hn0
 simp only[push_cast,seval,reduceEqDiff]
 cases A1<;>cases A2<;>cases A3
 all_goals (repeat' (first|(first|refine Ab (by exact c1) ?_|refine Ab (by exact c2) ?_|refine Ab (by exact c3) ?_)|intro _)<;>(try simp only[push_cast,seval,reduceEqDiff]))
 all_goals exact Ah (by simp[get])
def PI(L:BV)(ps:List Aj)(vs:List BE)(iso:Bool):V:=.agg [.s L.tag,.s L.parent,.s L.dir,.sl (L.card.map AH.enc),.sl (L.ord.map AH.enc),.s L.dec,.s L.grp,.s L.minus,.s L.perc,.i .i64 L.prim,.i .i64 L.sec,.sl (L.lists.map Dc.enc),.sl (L.units.map Eb.enc),.sl (L.dates.map Dg.enc),.sl (L.months.map V.s),.sl (L.days.map V.s),.sl (ps.map Aj.enc),.sl (vs.map BE.enc),.b iso]
theorem GD(L:BV)(ps:List Aj)(vs:List BE)(iso:Bool):PI L ps vs iso=.agg [.s L.tag,.s L.parent,.s L.dir,.sl (L.card.map AH.enc),.sl (L.ord.map AH.enc),.s L.dec,.s L.grp,.s L.minus,.s L.perc,.i .i64 L.prim,.i .i64 L.sec,.sl (L.lists.map Dc.enc),.sl (L.units.map Eb.enc),.sl (L.dates.map Dg.enc),.sl (L.months.map V.s),.sl (L.days.map V.s),.sl (ps.map Aj.enc),.sl (vs.map BE.enc),.b iso]:=rfl
theorem Zg(L:BV)(ps:List Aj)(vs:List BE)(iso:Bool)(h1:M0 L<=2^40)(h2:A7 L.card+A7 L.ord<=2^24)(h3:Bd ps<=2^24)(h4:vs.length<=2^40)(h5:∀v∈vs,v.list.length<=2^40) :
  Am Tryz.prog W0 9 [PI L ps vs iso] [] (.b (HK L&&Jv ps&&Cx (decide ((vs.length:Int)<=30)) vs)) []:=by
 have c1:=AaE W0 L ps vs h1 h2 h3 h4 h5
 rw[BV.enc_eq] at c1
 generalize(HK L&&Jv ps&&Cx (decide ((vs.length:Int)<=30)) vs)=S at *
 rw[GD]
 refine Ai (vs:=[.b S]) Apd (by simp) (by simp) fun n0 hn0=>?_
 clear hn0
 simp only[push_cast,seval,reduceEqDiff]
 have _h:=trivial;repeat' (first|(first|((first|apply Ac|apply Ag|apply Af)<;>intro _h)|refine Ab c1 ?_)<;>simp only[push_cast,seval,reduceEqDiff,_h]|intro _)
 exact Ah (by simp[get])
end Go.Ir
namespace Go.Proofs
open Go.Shelf
def Tryz.laysM171_ren:Go.Shelf.Ren:=⟨fun|171=>221|243=>282|246=>315|283=>332|284=>333|285=>334|286=>335|129=>179|317=>343|318=>344|319=>345|320=>346|337=>351|338=>352|n=>n,fun|3=>3|9=>9|2=>2|4=>4|171=>384|0=>0|53=>282|37=>96|5=>5|173=>386|212=>397|51=>280|20=>20|213=>398|46=>237|232=>401|233=>402|n=>n,fun|17=>3|18=>4|19=>5|n=>n⟩
theorem Tryz.laysM171:Go.Proofs.LaysM.n171 Tryz.prog Tryz.laysM171_ren:={
 mixed:=by kernel_rfl
 f129:=Tryz.func179.trans (congrArg some (by kernel_rfl))
 f171:=Tryz.func221.trans (congrArg some (by kernel_rfl))
 f243:=Tryz.func282.trans (congrArg some (by kernel_rfl))
 f246:=Tryz.func315.trans (congrArg some (by kernel_rfl))
 f283:=Tryz.func332.trans (congrArg some (by kernel_rfl))
 f284:=Tryz.func333.trans (congrArg some (by kernel_rfl))
 f285:=Tryz.func334.trans (congrArg some (by kernel_rfl))
 f286:=Tryz.func335.trans (congrArg some (by kernel_rfl))
 f317:=Tryz.func343.trans (congrArg some (by kernel_rfl))
 f318:=Tryz.func344.trans (congrArg some (by kernel_rfl))
 f319:=Tryz.func345.trans (congrArg some (by kernel_rfl))
 f320:=Tryz.func346.trans (congrArg some (by kernel_rfl))
 f337:=Tryz.func351.trans (congrArg some (by kernel_rfl))
 f338:=Tryz.func352.trans (congrArg some (by kernel_rfl))
 t0:=Tryz.underlying0
 a0:=Tryz.isAgg0
 z0:=Tryz.sizeOf0
 v0:=Tryz.zeroValue0
 t2:=Tryz.underlying2
 a2:=Tryz.isAgg2
 z2:=Tryz.sizeOf2
 v2:=Tryz.zeroValue2
 t3:=Tryz.underlying3
 a3:=Tryz.isAgg3
 z3:=Tryz.sizeOf3
 v3:=Tryz.zeroValue3
 t4:=Tryz.underlying4
 a4:=Tryz.isAgg4
 z4:=Tryz.sizeOf4
 v4:=Tryz.zeroValue4
 t5:=Tryz.underlying5
 a5:=Tryz.isAgg5
 z5:=Tryz.sizeOf5
 v5:=Tryz.zeroValue5
 t9:=Tryz.underlying9
 a9:=Tryz.isAgg9
 z9:=Tryz.sizeOf9
 v9:=Tryz.zeroValue9
 t20:=Tryz.underlying20
 a20:=Tryz.isAgg20
 z20:=Tryz.sizeOf20
 v20:=Tryz.zeroValue20
 t37:=Tryz.underlying96
 a37:=Tryz.isAgg96
 z37:=Tryz.sizeOf96
 v37:=Tryz.zeroValue96
 t46:=Tryz.underlying237
 a46:=Tryz.isAgg237
 z46:=Tryz.sizeOf237
 v46:=Tryz.zeroValue237
 t51:=Tryz.underlying280
 a51:=Tryz.isAgg280
 z51:=Tryz.sizeOf280
 v51:=Tryz.zeroValue280
 t53:=Tryz.underlying282
 a53:=Tryz.isAgg282
 z53:=Tryz.sizeOf282
 v53:=Tryz.zeroValue282
 t171:=Tryz.underlying384
 a171:=Tryz.isAgg384
 z171:=Tryz.sizeOf384
 v171:=Tryz.zeroValue384
 t173:=Tryz.underlying386
 a173:=Tryz.isAgg386
 z173:=Tryz.sizeOf386
 v173:=Tryz.zeroValue386
 t212:=Tryz.underlying397
 a212:=Tryz.isAgg397
 z212:=Tryz.sizeOf397
 v212:=Tryz.zeroValue397
 t213:=Tryz.underlying398
 a213:=Tryz.isAgg398
 z213:=Tryz.sizeOf398
 t232:=Tryz.underlying401
 a232:=Tryz.isAgg401
 z232:=Tryz.sizeOf401
 v232:=Tryz.zeroValue401
 t233:=Tryz.underlying402
 a233:=Tryz.isAgg402
 z233:=Tryz.sizeOf402
 v233:=Tryz.zeroValue402
 g17:=by kernel_rfl
 g18:=by kernel_rfl
 g19:=by kernel_rfl
 i0:=by kernel_rfl
 i2:=by kernel_rfl
 i3:=by kernel_rfl
 i4:=by kernel_rfl
 i5:=by kernel_rfl
 i9:=by kernel_rfl
 i20:=by kernel_rfl
 i37:=by kernel_rfl
 i46:=by kernel_rfl
 i51:=by kernel_rfl
 i53:=by kernel_rfl
 i171:=by kernel_rfl
 i173:=by kernel_rfl
 i212:=by kernel_rfl
 i232:=by kernel_rfl
 i233:=by kernel_rfl
 m17:=by kernel_rfl
 m18:=by kernel_rfl
 m19:=by kernel_rfl }
end Go.Proofs
namespace Go.Ir
open Go.Proofs Go.RowKit
variable(W0:World)
def BM(W0:World):Prop := Lib.TabIs Tryz.prog W0 "internal/strconv.uint64pow10" .u64 Lib.pow10Tab
theorem Zc{P:Program}{W0 w:World}{name:String}{k:IntKind}{zs:List Int}(hb:Below W0.heap.size W0 w)(h:Lib.TabIs P W0 name k zs):Lib.TabIs P w name k zs:=by
 unfold Lib.TabIs World.var? at *
 cases hg:P.globalNamed name with
 | none=>rw[hg] at h;cases h
 | some g=>
  rw[hg] at h
  simp only[Ath] at h⊢
  cases hh:W0.heap[g]? with
  | none=>rw[hh] at h;cases h
  | some o=>
   rw[hb.block g (AnS.1 hh).1]
   exact h
theorem Fi(hT:BM W0)(i:Nat)(hi:i<2^62):Am Tryz.prog W0 221 [.i .i64 i] [] (.s (Lib.decDigits i)) []/\(Lib.decDigits i).length<=20:=by
 have h20:(Lib.decDigits i).length<=20:=by
  rw[Lib.decDigits_length]
  exact Lib.nDigits_le20 _ (by omega)
 refine⟨AI (by kernel_rfl) fun w vals hb ⟨μ,H,hv⟩=>?_,h20⟩
 have hlen:=hv.len
 obtain⟨x,rfl⟩:∃x,vals=[x]:=by
  match vals,hlen with
  | [x],_=>exact⟨x,rfl⟩
 have hx:=hv.at_ 0 _ _ rfl rfl
 cases hx
 refine(Any.strconv_Itoa Tryz.laysM171 i (by omega) (by omega) w (Zc hb hT)).mono fun e w' ⟨he,k,os,hw⟩=>?_
 subst hw
 refine⟨_,he,fun _ _=>?_,?_⟩
 ·rw[Lib.itoa_nonneg]
  exact .s _ (by unfold A9;omega)
 ·refine⟨rfl,rfl,rfl,by simp_all,fun j hj=>?_⟩
  simp only[Sort.grow]
  rw[AtJ (by simpa using hj)]
  rfl
theorem Y4(laid:List (String×DataW Unit))(hl:(laid.all fun x => x.2.handleName?.isNone)=true){a b:String×DataW Unit}{r:List (String×DataW Unit)}(he:laid=a :: b :: ("internal/strconv.uint64pow10", Lib.tabData .u64 Lib.pow10Tab) :: r)
  {g:Nat}{t e:TypeId}{n:Nat}(hg:(Tryz.prog).globalNamed "internal/strconv.uint64pow10" = some g)(hty:((Tryz.prog).globals[g]?).map (·.type)=some t)(ht:(Tryz.prog).underlying t=some (.array n e))(hu:(Tryz.prog).underlying e=some (.int .u64))(hce:(Tryz.prog).cellsOf e=1)(hct:(Tryz.prog).cellsOf t=n)
  {W:World}(h:laidMetH Tryz.prog laid W):BM W:=by
 rw[MakeChecks.laidMetH_plain _ _ _ hl] at h
 subst he
 have tl:∀{x:String×DataW Unit} {r:List (String×DataW Unit)},laidMet Tryz.prog (x::r) W->laidMet Tryz.prog r W:=by
  rintro⟨n,d⟩ r ⟨ps,hv,hnd,hrows⟩
  obtain⟨g,t,cs,fuel,p,q,_,_,_,_,hq,rfl⟩:=hv
  exact⟨q,hq,List.Nodup.sublist (AtM _ _) hnd,fun b off hm=>hrows b off (AtE _ hm)⟩
 exact Lib.tabIs_of_head hg hty ht hu hce hct (tl (tl h))
end Go.Ir

namespace Go.Ir
open Go.Proofs
variable(W0:World)
end Go.Ir
namespace Go.Proofs
open Go.Shelf
def Tryz.lays137_ren:Go.Shelf.Ren:=⟨fun|137=>252|217=>288|266=>319|n=>n,fun|9=>9|5=>5|3=>3|n=>n,fun|n=>n⟩
theorem Tryz.lays137:Go.Proofs.Lays.n137 Tryz.prog Tryz.lays137_ren:={
 mixed:=by kernel_rfl
 f137:=Tryz.func252.trans (congrArg some (by kernel_rfl))
 f217:=Tryz.func288.trans (congrArg some (by kernel_rfl))
 f266:=Tryz.func319.trans (congrArg some (by kernel_rfl))
 t3:=Tryz.underlying3
 a3:=Tryz.isAgg3
 z3:=Tryz.sizeOf3
 v3:=Tryz.zeroValue3
 t5:=Tryz.underlying5
 a5:=Tryz.isAgg5
 z5:=Tryz.sizeOf5
 v5:=Tryz.zeroValue5
 t9:=Tryz.underlying9
 a9:=Tryz.isAgg9
 z9:=Tryz.sizeOf9
 v9:=Tryz.zeroValue9 }
def Tryz.lays156_ren:Go.Shelf.Ren:=⟨fun|156=>261|165=>257|166=>124|169=>45|240=>180|241=>298|276=>236|277=>324|n=>n,fun|31=>28|9=>9|3=>3|4=>4|0=>0|20=>20|72=>98|76=>240|70=>95|37=>96|75=>239|127=>158|164=>315|5=>5|80=>123|n=>n,fun|n=>n⟩
theorem Tryz.lays156:Go.Proofs.Lays.n156 Tryz.prog Tryz.lays156_ren:={
 mixed:=by kernel_rfl
 f156:=Tryz.func261.trans (congrArg some (by kernel_rfl))
 f165:=Tryz.func257.trans (congrArg some (by kernel_rfl))
 f166:=Tryz.func124.trans (congrArg some (by kernel_rfl))
 f169:=Tryz.func45.trans (congrArg some (by kernel_rfl))
 f240:=Tryz.func180.trans (congrArg some (by kernel_rfl))
 f241:=Tryz.func298.trans (congrArg some (by kernel_rfl))
 f276:=Tryz.func236.trans (congrArg some (by kernel_rfl))
 f277:=Tryz.func324.trans (congrArg some (by kernel_rfl))
 t0:=Tryz.underlying0
 a0:=Tryz.isAgg0
 z0:=Tryz.sizeOf0
 v0:=Tryz.zeroValue0
 t3:=Tryz.underlying3
 a3:=Tryz.isAgg3
 z3:=Tryz.sizeOf3
 v3:=Tryz.zeroValue3
 t4:=Tryz.underlying4
 a4:=Tryz.isAgg4
 z4:=Tryz.sizeOf4
 v4:=Tryz.zeroValue4
 t9:=Tryz.underlying9
 a9:=Tryz.isAgg9
 z9:=Tryz.sizeOf9
 v9:=Tryz.zeroValue9
 t20:=Tryz.underlying20
 a20:=Tryz.isAgg20
 z20:=Tryz.sizeOf20
 v20:=Tryz.zeroValue20
 t31:=Tryz.underlying28
 a31:=Tryz.isAgg28
 z31:=Tryz.sizeOf28
 v31:=Tryz.zeroValue28
 t37:=Tryz.underlying96
 a37:=Tryz.isAgg96
 z37:=Tryz.sizeOf96
 v37:=Tryz.zeroValue96
 t70:=Tryz.underlying95
 a70:=Tryz.isAgg95
 z70:=Tryz.sizeOf95
 v70:=Tryz.zeroValue95
 t72:=Tryz.underlying98
 a72:=Tryz.isAgg98
 z72:=Tryz.sizeOf98
 v72:=Tryz.zeroValue98
 t75:=Tryz.underlying239
 a75:=Tryz.isAgg239
 z75:=Tryz.sizeOf239
 v75:=Tryz.zeroValue239
 t76:=Tryz.underlying240
 a76:=Tryz.isAgg240
 z76:=Tryz.sizeOf240
 v76:=Tryz.zeroValue240
 t127:=Tryz.underlying158
 a127:=Tryz.isAgg158
 z127:=Tryz.sizeOf158
 v127:=Tryz.zeroValue158
 t164:=Tryz.underlying315
 a164:=Tryz.isAgg315
 z164:=Tryz.sizeOf315
 v164:=Tryz.zeroValue315 }
end Go.Proofs
namespace Go.Ir
open Go.Proofs Go.RowKit
variable(W0:World)
theorem OX{P:Program}{W0:World}{f:FuncId}{args:List V}{v:V}(hc:callable P f=true)
  (h:∀w vals μ H,Below W0.heap.size W0 w->VRels μ H args vals->(∀ad x,H ad=some x->w.cell? ad=some x)->Calls P f vals.toArray w fun e w'=>∃val,e=.returned val/\(∀μ H,Ap μ H v val)/\Below w.heap.size w w'):Am P W0 f args [] v [] where
 callable:=hc
 dom id h:=h
 run n w μ H vals hp hv:=by
  refine(h w vals μ H hp.base hv hp.pins).mono fun e w' ⟨val,he,hr,hb⟩=>?_
  obtain⟨h1,h2⟩:=hp.below hb
  exact⟨val,μ,H,n,he,hr μ H,h1,AbG _,h2,fun _ _ h=>h⟩
theorem F2(ls:List Aa):AF (ls.map V.s)=ls.map V.s:=by
 induction ls with
 | nil=>rfl
 | cons a r ih=>simp only[AF,Ait,Ato] at *;rw[ih];rfl
theorem Q6(s:Aa)(c:Int):Am Tryz.prog W0 252 [.s s,.i .u8 c] [] (.i .i64 (Lib.indexByte s c.toNat.toUInt8)) []:=by
 refine AI (by kernel_rfl) fun w vals hb ⟨μ,H,hv⟩=>?_
 obtain⟨x,y,rfl,hx,hy⟩:=hv.two
 obtain⟨rfl,hl⟩:=B4 hx
 cases hy
 refine(Any.strings_IndexByte Tryz.lays137 ⟨s.toArray⟩ c w).mono fun e w' ⟨he,hw⟩=>?_
 subst hw
 exact⟨_,he,fun _ _=>.i _ _,AqT _ _⟩
theorem Ik:Go.Proofs.Builder.Extra Tryz.prog Tryz.lays156_ren where
 sizeBuilder:=by kernel_rfl
 liesBuilder:=by kernel_rfl
 t5:=Tryz.underlying5
 a5:=Tryz.isAgg5
 z5:=Tryz.sizeOf5
 v5:=Tryz.zeroValue5
 infoByte:=by kernel_rfl
 cellsByte:=by kernel_rfl
 sizeByte:=by kernel_rfl
 neB5:=by decide
theorem lS(ls:List Aa)(sep:Aa)(hj:(Lib.join ls sep).length<=1073741824):Am Tryz.prog W0 261 [.sl (ls.map V.s),.s sep] [] (.s (Lib.join ls sep)) []:=by
 refine OX (by kernel_rfl) fun w vals μ H hb hv hpin=>?_
 obtain⟨x,y,rfl,hx,hy⟩:=hv.two
 obtain⟨rfl,hl⟩:=B4 hy
 obtain⟨A,cap,rfl,hcap,hlim,hc⟩:=hx.sl_inv
 have hsl:∀(μ:Id->Option Value) (H:Addr->Option Value),Ap μ H (.s (Lib.join ls sep)) (.string ⟨(Lib.join ls sep).toArray⟩):=fun _ _=>.s _ (by unfold A9;omega)
 rcases hc with h0|⟨ad,sz,vs,rfl,hsz,hrel,hp⟩
 ·have h0':ls=[]:=by simpa using h0
  subst h0'
  refine(Any.strings_Join_none Tryz.lays156 Ik A cap ⟨sep.toArray⟩ w).mono fun e w' ⟨he,hw⟩=>?_
  subst hw
  exact⟨_,he,hsl,AqT _ _⟩
 ·rw[F2] at hrel
  cases ls with
  | nil=>
   refine(Any.strings_Join_none Tryz.lays156 Ik _ cap ⟨sep.toArray⟩ w).mono fun e w' ⟨he,hw⟩=>?_
   subst hw
   exact⟨_,he,hsl,AqT _ _⟩
  | cons l0 lr=>
   have cell:∀(j:Nat) (l:Aa),(l0::lr)[j]?=some l->w.cell? (ad.add j)=some (.string ⟨l.toArray⟩):=by
    intro j l hj
    obtain⟨v,h1,h2⟩:=hrel.toVRels.get (k:=j) (c:=.s l) (by grind)
    rw[(B4 h2).1] at h1
    exact hpin _ _ (hp j _ h1)
   have c0:=cell 0 l0 rfl
   have had:ad.spot=none:=by
    simp only[Addr.add,if_true] at c0
    unfold World.cell? at c0
    split at c0
    ·simp_all
    ·cases c0
   obtain⟨bk,o,sp⟩:=ad
   simp only at had
   subst had
   have hbk:bk<w.heap.size:=AtQ w _ c0
   have hlen:(l0::lr).length<=cap:=by simpa using hcap
   have hmap:((l0::lr).map fun l=>(⟨l.toArray⟩:ByteArray)).map (fun b=>b.data.toList)=l0::lr:=by
    rw[List.map_map]
    exact(As6 (fun _ _=>rfl)).trans (List.map_id _)
   have hJ:Lib.join (((l0::lr).map fun l=>(⟨l.toArray⟩:ByteArray)).map fun b=>b.data.toList) sep=Lib.join (l0::lr) sep:=by rw[hmap]
   have key:=Any.strings_Join Tryz.lays156 Ik bk o cap ((l0::lr).map fun l=>(⟨l.toArray⟩:ByteArray)) ⟨sep.toArray⟩ w (fun j x hx=>?_) hbk
    (by unfold AM at hlim;grind) (by simpa using hlen) (by
     grind
)
   ·rw[show(⟨sep.toArray⟩:ByteArray).data.toList=sep from rfl,hJ] at key
    simp only[Ae5] at key⊢
    exact key.mono fun e w' ⟨he,hw⟩=>⟨_,he,hsl,hw⟩
   ·rw[Aqt] at hx
    obtain⟨l,hl',rfl⟩:=Adc.1 hx
    have:=cell j l hl'
    by_cases hj0:j=0
    ·subst hj0;exact this
    ·simpa[Addr.add,hj0] using this
def HX:List V->Option V
 | [.s s,.s p]=>some (.tup [.s (Lib.trimPrefix s p),.b (Lib.hasPrefix s p)])
 | _=>none
def NW:List V->Option V
 | [.s s,.s [c]]=>some (.i .i64 (Lib.indexByte s c))
 | _=>none
def It:List V->Option V
 | [.s s,.i .u8 c]=>some (.i .i64 (Lib.indexByte s c.toNat.toUInt8))
 | _=>none
def OB(l:Aa):Bool:=Nat.blt l.length 100&&l.all fun b=>Nat.blt b.toNat 128
def mT:List V->Option V
 | [.s s,.s cs]=>bif OB cs then some (.s (Lib.trimS s cs)) else none
 | _=>none
theorem X9{l:Aa}(h:OB l=true):l.length<4294967281/\∀b∈l,b.toNat<128:=by
 unfold OB at h
 simp only[Aav,Aud,Aiv] at h
 exact⟨by omega,h.2⟩
theorem P4:AU Tryz.prog W0 (s7 135 HX):=NI fun args v h=>by
 unfold HX at h
 split at h
 ·cases h;exact⟨DU W0 _ _,rfl⟩
 ·cases h
theorem kR:AU Tryz.prog W0 (s7 244 NW):=NI fun args v h=>by
 unfold NW at h
 split at h
 ·cases h;exact⟨Lc W0 _ _,rfl⟩
 ·cases h
theorem QF:AU Tryz.prog W0 (s7 252 It):=NI fun args v h=>by
 unfold It at h
 split at h
 ·cases h;exact⟨Q6 W0 _ _,rfl⟩
 ·cases h
theorem AfY:AU Tryz.prog W0 (s7 190 mT):=NI fun args v h=>by
 unfold mT at h
 split at h
 ·rename_i s cs
  cases ha:OB cs with
  | true=>rw[ha] at h;cases h;obtain⟨h1,h2⟩:=X9 ha;exact⟨RQ W0 _ _ h1 h2,rfl⟩
  | false=>rw[ha] at h;cases h
 ·cases h
end Go.Ir
namespace Go.Proofs
open Go.Shelf
def Tryz.lays161_ren:Go.Shelf.Ren:=⟨fun|161=>259|231=>245|227=>247|233=>248|235=>250|228=>292|197=>272|151=>293|260=>309|152=>321|137=>252|119=>337|224=>290|225=>289|217=>288|266=>319|n=>n,fun|9=>9|4=>4|3=>3|5=>5|117=>323|116=>322|0=>0|124=>326|105=>344|21=>21|119=>380|46=>237|139=>383|138=>382|n=>n,fun|3=>1|4=>2|n=>n⟩
theorem Tryz.lays161:Go.Proofs.Lays.n161 Tryz.prog Tryz.lays161_ren:={
 mixed:=by kernel_rfl
 f119:=Tryz.func337.trans (congrArg some (by kernel_rfl))
 f137:=Tryz.func252.trans (congrArg some (by kernel_rfl))
 f151:=Tryz.func293.trans (congrArg some (by kernel_rfl))
 f152:=Tryz.func321.trans (congrArg some (by kernel_rfl))
 f161:=Tryz.func259.trans (congrArg some (by kernel_rfl))
 f197:=Tryz.func272.trans (congrArg some (by kernel_rfl))
 f217:=Tryz.func288.trans (congrArg some (by kernel_rfl))
 f224:=Tryz.func290.trans (congrArg some (by kernel_rfl))
 f225:=Tryz.func289.trans (congrArg some (by kernel_rfl))
 f227:=Tryz.func247.trans (congrArg some (by kernel_rfl))
 f228:=Tryz.func292.trans (congrArg some (by kernel_rfl))
 f231:=Tryz.func245.trans (congrArg some (by kernel_rfl))
 f233:=Tryz.func248.trans (congrArg some (by kernel_rfl))
 f235:=Tryz.func250.trans (congrArg some (by kernel_rfl))
 f260:=Tryz.func309.trans (congrArg some (by kernel_rfl))
 f266:=Tryz.func319.trans (congrArg some (by kernel_rfl))
 t0:=Tryz.underlying0
 a0:=Tryz.isAgg0
 z0:=Tryz.sizeOf0
 v0:=Tryz.zeroValue0
 t3:=Tryz.underlying3
 a3:=Tryz.isAgg3
 z3:=Tryz.sizeOf3
 v3:=Tryz.zeroValue3
 t4:=Tryz.underlying4
 a4:=Tryz.isAgg4
 z4:=Tryz.sizeOf4
 v4:=Tryz.zeroValue4
 t5:=Tryz.underlying5
 a5:=Tryz.isAgg5
 z5:=Tryz.sizeOf5
 v5:=Tryz.zeroValue5
 t9:=Tryz.underlying9
 a9:=Tryz.isAgg9
 z9:=Tryz.sizeOf9
 v9:=Tryz.zeroValue9
 t21:=Tryz.underlying21
 a21:=Tryz.isAgg21
 z21:=Tryz.sizeOf21
 v21:=Tryz.zeroValue21
 t46:=Tryz.underlying237
 a46:=Tryz.isAgg237
 z46:=Tryz.sizeOf237
 v46:=Tryz.zeroValue237
 t105:=Tryz.underlying344
 a105:=Tryz.isAgg344
 z105:=Tryz.sizeOf344
 v105:=Tryz.zeroValue344
 t116:=Tryz.underlying322
 a116:=Tryz.isAgg322
 z116:=Tryz.sizeOf322
 t117:=Tryz.underlying323
 a117:=Tryz.isAgg323
 z117:=Tryz.sizeOf323
 v117:=Tryz.zeroValue323
 t119:=Tryz.underlying380
 a119:=Tryz.isAgg380
 z119:=Tryz.sizeOf380
 t124:=Tryz.underlying326
 a124:=Tryz.isAgg326
 z124:=Tryz.sizeOf326
 v124:=Tryz.zeroValue326
 t138:=Tryz.underlying382
 a138:=Tryz.isAgg382
 z138:=Tryz.sizeOf382
 v138:=Tryz.zeroValue382
 t139:=Tryz.underlying383
 a139:=Tryz.isAgg383
 z139:=Tryz.sizeOf383
 v139:=Tryz.zeroValue383
 g3:=by kernel_rfl
 g4:=by kernel_rfl }
def Tryz.lays138_ren:Go.Shelf.Ren:=⟨fun|138=>269|195=>306|218=>307|143=>271|219=>244|217=>288|225=>289|224=>290|267=>291|266=>319|314=>320|n=>n,fun|9=>9|3=>3|4=>4|5=>5|0=>0|46=>237|146=>358|51=>280|n=>n,fun|1=>0|n=>n⟩
theorem Tryz.lays138:Go.Proofs.Lays.n138 Tryz.prog Tryz.lays138_ren:={
 mixed:=by kernel_rfl
 f138:=Tryz.func269.trans (congrArg some (by kernel_rfl))
 f143:=Tryz.func271.trans (congrArg some (by kernel_rfl))
 f195:=Tryz.func306.trans (congrArg some (by kernel_rfl))
 f217:=Tryz.func288.trans (congrArg some (by kernel_rfl))
 f218:=Tryz.func307.trans (congrArg some (by kernel_rfl))
 f219:=Tryz.func244.trans (congrArg some (by kernel_rfl))
 f224:=Tryz.func290.trans (congrArg some (by kernel_rfl))
 f225:=Tryz.func289.trans (congrArg some (by kernel_rfl))
 f266:=Tryz.func319.trans (congrArg some (by kernel_rfl))
 f267:=Tryz.func291.trans (congrArg some (by kernel_rfl))
 f314:=Tryz.func320.trans (congrArg some (by kernel_rfl))
 t0:=Tryz.underlying0
 a0:=Tryz.isAgg0
 z0:=Tryz.sizeOf0
 v0:=Tryz.zeroValue0
 t3:=Tryz.underlying3
 a3:=Tryz.isAgg3
 z3:=Tryz.sizeOf3
 v3:=Tryz.zeroValue3
 t4:=Tryz.underlying4
 a4:=Tryz.isAgg4
 z4:=Tryz.sizeOf4
 v4:=Tryz.zeroValue4
 t5:=Tryz.underlying5
 a5:=Tryz.isAgg5
 z5:=Tryz.sizeOf5
 v5:=Tryz.zeroValue5
 t9:=Tryz.underlying9
 a9:=Tryz.isAgg9
 z9:=Tryz.sizeOf9
 v9:=Tryz.zeroValue9
 t46:=Tryz.underlying237
 a46:=Tryz.isAgg237
 z46:=Tryz.sizeOf237
 v46:=Tryz.zeroValue237
 t51:=Tryz.underlying280
 a51:=Tryz.isAgg280
 z51:=Tryz.sizeOf280
 v51:=Tryz.zeroValue280
 t146:=Tryz.underlying358
 a146:=Tryz.isAgg358
 z146:=Tryz.sizeOf358
 v146:=Tryz.zeroValue358
 g1:=by kernel_rfl }
def Tryz.lays145_ren:Go.Shelf.Ren:=⟨fun|145=>136|220=>189|219=>244|217=>288|225=>289|224=>290|267=>291|266=>319|314=>320|n=>n,fun|9=>9|4=>4|59=>252|3=>3|5=>5|46=>237|146=>358|51=>280|n=>n,fun|1=>0|n=>n⟩
theorem Tryz.lays145:Go.Proofs.Lays.n145 Tryz.prog Tryz.lays145_ren:={
 mixed:=by kernel_rfl
 f145:=Tryz.func136.trans (congrArg some (by kernel_rfl))
 f217:=Tryz.func288.trans (congrArg some (by kernel_rfl))
 f219:=Tryz.func244.trans (congrArg some (by kernel_rfl))
 f220:=Tryz.func189.trans (congrArg some (by kernel_rfl))
 f224:=Tryz.func290.trans (congrArg some (by kernel_rfl))
 f225:=Tryz.func289.trans (congrArg some (by kernel_rfl))
 f266:=Tryz.func319.trans (congrArg some (by kernel_rfl))
 f267:=Tryz.func291.trans (congrArg some (by kernel_rfl))
 f314:=Tryz.func320.trans (congrArg some (by kernel_rfl))
 t3:=Tryz.underlying3
 a3:=Tryz.isAgg3
 z3:=Tryz.sizeOf3
 v3:=Tryz.zeroValue3
 t4:=Tryz.underlying4
 a4:=Tryz.isAgg4
 z4:=Tryz.sizeOf4
 v4:=Tryz.zeroValue4
 t5:=Tryz.underlying5
 a5:=Tryz.isAgg5
 z5:=Tryz.sizeOf5
 v5:=Tryz.zeroValue5
 t9:=Tryz.underlying9
 a9:=Tryz.isAgg9
 z9:=Tryz.sizeOf9
 v9:=Tryz.zeroValue9
 t46:=Tryz.underlying237
 a46:=Tryz.isAgg237
 z46:=Tryz.sizeOf237
 v46:=Tryz.zeroValue237
 t51:=Tryz.underlying280
 a51:=Tryz.isAgg280
 z51:=Tryz.sizeOf280
 v51:=Tryz.zeroValue280
 t59:=Tryz.underlying252
 a59:=Tryz.isAgg252
 z59:=Tryz.sizeOf252
 v59:=Tryz.zeroValue252
 t146:=Tryz.underlying358
 a146:=Tryz.isAgg358
 z146:=Tryz.sizeOf358
 v146:=Tryz.zeroValue358
 g1:=by kernel_rfl }
def Tryz.lays154_ren:Go.Shelf.Ren:=⟨fun|154=>213|138=>269|165=>257|143=>271|166=>124|197=>272|169=>45|195=>306|218=>307|240=>180|241=>298|219=>244|260=>309|276=>236|277=>324|217=>288|225=>289|224=>290|267=>291|266=>319|314=>320|n=>n,fun|9=>9|3=>3|4=>4|72=>98|0=>0|76=>240|105=>344|21=>21|5=>5|70=>95|20=>20|37=>96|75=>239|127=>158|164=>315|46=>237|119=>380|139=>383|138=>382|146=>358|51=>280|80=>123|n=>n,fun|1=>0|3=>1|4=>2|n=>n⟩
theorem Tryz.lays154:Go.Proofs.Lays.n154 Tryz.prog Tryz.lays154_ren:={
 mixed:=by kernel_rfl
 f138:=Tryz.func269.trans (congrArg some (by kernel_rfl))
 f143:=Tryz.func271.trans (congrArg some (by kernel_rfl))
 f154:=Tryz.func213.trans (congrArg some (by kernel_rfl))
 f165:=Tryz.func257.trans (congrArg some (by kernel_rfl))
 f166:=Tryz.func124.trans (congrArg some (by kernel_rfl))
 f169:=Tryz.func45.trans (congrArg some (by kernel_rfl))
 f195:=Tryz.func306.trans (congrArg some (by kernel_rfl))
 f197:=Tryz.func272.trans (congrArg some (by kernel_rfl))
 f217:=Tryz.func288.trans (congrArg some (by kernel_rfl))
 f218:=Tryz.func307.trans (congrArg some (by kernel_rfl))
 f219:=Tryz.func244.trans (congrArg some (by kernel_rfl))
 f224:=Tryz.func290.trans (congrArg some (by kernel_rfl))
 f225:=Tryz.func289.trans (congrArg some (by kernel_rfl))
 f240:=Tryz.func180.trans (congrArg some (by kernel_rfl))
 f241:=Tryz.func298.trans (congrArg some (by kernel_rfl))
 f260:=Tryz.func309.trans (congrArg some (by kernel_rfl))
 f266:=Tryz.func319.trans (congrArg some (by kernel_rfl))
 f267:=Tryz.func291.trans (congrArg some (by kernel_rfl))
 f276:=Tryz.func236.trans (congrArg some (by kernel_rfl))
 f277:=Tryz.func324.trans (congrArg some (by kernel_rfl))
 f314:=Tryz.func320.trans (congrArg some (by kernel_rfl))
 t0:=Tryz.underlying0
 a0:=Tryz.isAgg0
 z0:=Tryz.sizeOf0
 v0:=Tryz.zeroValue0
 t3:=Tryz.underlying3
 a3:=Tryz.isAgg3
 z3:=Tryz.sizeOf3
 v3:=Tryz.zeroValue3
 t4:=Tryz.underlying4
 a4:=Tryz.isAgg4
 z4:=Tryz.sizeOf4
 v4:=Tryz.zeroValue4
 t5:=Tryz.underlying5
 a5:=Tryz.isAgg5
 z5:=Tryz.sizeOf5
 v5:=Tryz.zeroValue5
 t9:=Tryz.underlying9
 a9:=Tryz.isAgg9
 z9:=Tryz.sizeOf9
 v9:=Tryz.zeroValue9
 t20:=Tryz.underlying20
 a20:=Tryz.isAgg20
 z20:=Tryz.sizeOf20
 v20:=Tryz.zeroValue20
 t21:=Tryz.underlying21
 a21:=Tryz.isAgg21
 z21:=Tryz.sizeOf21
 v21:=Tryz.zeroValue21
 t37:=Tryz.underlying96
 a37:=Tryz.isAgg96
 z37:=Tryz.sizeOf96
 v37:=Tryz.zeroValue96
 t46:=Tryz.underlying237
 a46:=Tryz.isAgg237
 z46:=Tryz.sizeOf237
 v46:=Tryz.zeroValue237
 t51:=Tryz.underlying280
 a51:=Tryz.isAgg280
 z51:=Tryz.sizeOf280
 v51:=Tryz.zeroValue280
 t70:=Tryz.underlying95
 a70:=Tryz.isAgg95
 z70:=Tryz.sizeOf95
 v70:=Tryz.zeroValue95
 t72:=Tryz.underlying98
 a72:=Tryz.isAgg98
 z72:=Tryz.sizeOf98
 v72:=Tryz.zeroValue98
 t75:=Tryz.underlying239
 a75:=Tryz.isAgg239
 z75:=Tryz.sizeOf239
 v75:=Tryz.zeroValue239
 t76:=Tryz.underlying240
 a76:=Tryz.isAgg240
 z76:=Tryz.sizeOf240
 v76:=Tryz.zeroValue240
 t105:=Tryz.underlying344
 a105:=Tryz.isAgg344
 z105:=Tryz.sizeOf344
 v105:=Tryz.zeroValue344
 t119:=Tryz.underlying380
 a119:=Tryz.isAgg380
 z119:=Tryz.sizeOf380
 t127:=Tryz.underlying158
 a127:=Tryz.isAgg158
 z127:=Tryz.sizeOf158
 v127:=Tryz.zeroValue158
 t138:=Tryz.underlying382
 a138:=Tryz.isAgg382
 z138:=Tryz.sizeOf382
 v138:=Tryz.zeroValue382
 t139:=Tryz.underlying383
 a139:=Tryz.isAgg383
 z139:=Tryz.sizeOf383
 v139:=Tryz.zeroValue383
 t146:=Tryz.underlying358
 a146:=Tryz.isAgg358
 z146:=Tryz.sizeOf358
 v146:=Tryz.zeroValue358
 t164:=Tryz.underlying315
 a164:=Tryz.isAgg315
 z164:=Tryz.sizeOf315
 v164:=Tryz.zeroValue315
 g1:=by kernel_rfl
 g3:=by kernel_rfl
 g4:=by kernel_rfl }
def Tryz.laysT17_ren:Go.Shelf.Ren:=⟨fun|17=>260|n=>n,fun|24=>28|9=>9|3=>3|4=>4|0=>0|n=>n,fun|n=>n⟩
theorem Tryz.laysT17:Go.Proofs.Lays2.n17 Tryz.prog Tryz.laysT17_ren:={
 mixed:=by kernel_rfl
 f17:=Tryz.func260.trans (congrArg some (by kernel_rfl))
 t0:=Tryz.underlying0
 a0:=Tryz.isAgg0
 z0:=Tryz.sizeOf0
 v0:=Tryz.zeroValue0
 t3:=Tryz.underlying3
 a3:=Tryz.isAgg3
 z3:=Tryz.sizeOf3
 v3:=Tryz.zeroValue3
 t4:=Tryz.underlying4
 a4:=Tryz.isAgg4
 z4:=Tryz.sizeOf4
 v4:=Tryz.zeroValue4
 t9:=Tryz.underlying9
 a9:=Tryz.isAgg9
 z9:=Tryz.sizeOf9
 v9:=Tryz.zeroValue9
 t24:=Tryz.underlying28
 a24:=Tryz.isAgg28
 z24:=Tryz.sizeOf28
 v24:=Tryz.zeroValue28 }
def Tryz.sortA_ren:Go.Shelf.Ren:=⟨fun|6=>83|8=>123|9=>122|19=>178|20=>179|21=>169|22=>170|23=>171|24=>172|25=>173|26=>174|27=>175|28=>176|29=>177|36=>230|31=>231|32=>232|37=>233|38=>234|39=>235|41=>286|n=>n,fun|27=>28|29=>9|3=>3|32=>237|26=>28|0=>0|44=>280|46=>282|4=>4|36=>273|35=>272|41=>129|5=>5|9=>9|53=>309|57=>313|63=>354|64=>229|n=>n,fun|n=>n⟩
theorem Tryz.sortA:Go.Proofs.SlLaysM.n6 Tryz.prog Tryz.sortA_ren:={
 mixed:=by kernel_rfl
 f6:=⟨Tryz.f83.name,by decide,Tryz.func83.trans (congrArg some (by kernel_rfl))⟩
 f8:=Tryz.func123.trans (congrArg some (by kernel_rfl))
 f9:=⟨Tryz.f122.name,by decide,Tryz.func122.trans (congrArg some (by kernel_rfl))⟩
 f19:=Tryz.func178.trans (congrArg some (by kernel_rfl))
 f20:=Tryz.func179.trans (congrArg some (by kernel_rfl))
 f21:=⟨Tryz.f169.name,by decide,Tryz.func169.trans (congrArg some (by kernel_rfl))⟩
 f22:=⟨Tryz.f170.name,by decide,Tryz.func170.trans (congrArg some (by kernel_rfl))⟩
 f23:=⟨Tryz.f171.name,by decide,Tryz.func171.trans (congrArg some (by kernel_rfl))⟩
 f24:=⟨Tryz.f172.name,by decide,Tryz.func172.trans (congrArg some (by kernel_rfl))⟩
 f25:=⟨Tryz.f173.name,by decide,Tryz.func173.trans (congrArg some (by kernel_rfl))⟩
 f26:=⟨Tryz.f174.name,by decide,Tryz.func174.trans (congrArg some (by kernel_rfl))⟩
 f27:=⟨Tryz.f175.name,by decide,Tryz.func175.trans (congrArg some (by kernel_rfl))⟩
 f28:=⟨Tryz.f176.name,by decide,Tryz.func176.trans (congrArg some (by kernel_rfl))⟩
 f29:=⟨Tryz.f177.name,by decide,Tryz.func177.trans (congrArg some (by kernel_rfl))⟩
 f31:=Tryz.func231.trans (congrArg some (by kernel_rfl))
 f32:=Tryz.func232.trans (congrArg some (by kernel_rfl))
 f36:=⟨Tryz.f230.name,by decide,Tryz.func230.trans (congrArg some (by kernel_rfl))⟩
 f37:=⟨Tryz.f233.name,by decide,Tryz.func233.trans (congrArg some (by kernel_rfl))⟩
 f38:=⟨Tryz.f234.name,by decide,Tryz.func234.trans (congrArg some (by kernel_rfl))⟩
 f39:=⟨Tryz.f235.name,by decide,Tryz.func235.trans (congrArg some (by kernel_rfl))⟩
 f41:=⟨Tryz.f286.name,by decide,Tryz.func286.trans (congrArg some (by kernel_rfl))⟩
 t0:=Tryz.underlying0
 a0:=Tryz.isAgg0
 z0:=Tryz.sizeOf0
 v0:=Tryz.zeroValue0
 t3:=Tryz.underlying3
 a3:=Tryz.isAgg3
 z3:=Tryz.sizeOf3
 v3:=Tryz.zeroValue3
 t4:=Tryz.underlying4
 a4:=Tryz.isAgg4
 z4:=Tryz.sizeOf4
 v4:=Tryz.zeroValue4
 t5:=Tryz.underlying5
 a5:=Tryz.isAgg5
 z5:=Tryz.sizeOf5
 v5:=Tryz.zeroValue5
 t9:=Tryz.underlying9
 a9:=Tryz.isAgg9
 z9:=Tryz.sizeOf9
 v9:=Tryz.zeroValue9
 t26:=Tryz.underlying28
 a26:=Tryz.isAgg28
 z26:=Tryz.sizeOf28
 v26:=Tryz.zeroValue28
 t27:=Tryz.underlying28
 a27:=Tryz.isAgg28
 z27:=Tryz.sizeOf28
 v27:=Tryz.zeroValue28
 t29:=Tryz.underlying9
 a29:=Tryz.isAgg9
 z29:=Tryz.sizeOf9
 v29:=Tryz.zeroValue9
 t32:=Tryz.underlying237
 a32:=Tryz.isAgg237
 z32:=Tryz.sizeOf237
 v32:=Tryz.zeroValue237
 t35:=Tryz.underlying272
 a35:=Tryz.isAgg272
 z35:=Tryz.sizeOf272
 v35:=Tryz.zeroValue272
 t36:=Tryz.underlying273
 a36:=Tryz.isAgg273
 z36:=Tryz.sizeOf273
 v36:=Tryz.zeroValue273
 t41:=Tryz.underlying129
 a41:=Tryz.isAgg129
 z41:=Tryz.sizeOf129
 v41:=Tryz.zeroValue129
 t44:=Tryz.underlying280
 a44:=Tryz.isAgg280
 z44:=Tryz.sizeOf280
 v44:=Tryz.zeroValue280
 t46:=Tryz.underlying282
 a46:=Tryz.isAgg282
 z46:=Tryz.sizeOf282
 v46:=Tryz.zeroValue282
 t53:=Tryz.underlying309
 a53:=Tryz.isAgg309
 z53:=Tryz.sizeOf309
 v53:=Tryz.zeroValue309
 t57:=Tryz.underlying313
 a57:=Tryz.isAgg313
 z57:=Tryz.sizeOf313
 v57:=Tryz.zeroValue313
 t63:=Tryz.underlying354
 a63:=Tryz.isAgg354
 z63:=Tryz.sizeOf354
 v63:=Tryz.zeroValue354
 t64:=Tryz.underlying229
 a64:=Tryz.isAgg229
 z64:=Tryz.sizeOf229
 v64:=Tryz.zeroValue229 }
def Tryz.lays105_ren:Go.Shelf.Ren:=⟨fun|105=>200|212=>255|99=>256|165=>257|166=>124|170=>125|169=>45|263=>296|264=>297|206=>243|240=>180|241=>298|276=>236|277=>324|n=>n,fun|9=>9|3=>3|4=>4|20=>20|0=>0|46=>237|109=>328|5=>5|72=>98|76=>240|51=>280|146=>358|53=>282|148=>360|70=>95|37=>96|75=>239|127=>158|164=>315|80=>123|n=>n,fun|n=>n⟩
theorem Tryz.lays105:Go.Proofs.Lays.n105 Tryz.prog Tryz.lays105_ren:={
 mixed:=by kernel_rfl
 f99:=Tryz.func256.trans (congrArg some (by kernel_rfl))
 f105:=Tryz.func200.trans (congrArg some (by kernel_rfl))
 f165:=Tryz.func257.trans (congrArg some (by kernel_rfl))
 f166:=Tryz.func124.trans (congrArg some (by kernel_rfl))
 f169:=Tryz.func45.trans (congrArg some (by kernel_rfl))
 f170:=Tryz.func125.trans (congrArg some (by kernel_rfl))
 f206:=Tryz.func243.trans (congrArg some (by kernel_rfl))
 f212:=Tryz.func255.trans (congrArg some (by kernel_rfl))
 f240:=Tryz.func180.trans (congrArg some (by kernel_rfl))
 f241:=Tryz.func298.trans (congrArg some (by kernel_rfl))
 f263:=Tryz.func296.trans (congrArg some (by kernel_rfl))
 f264:=Tryz.func297.trans (congrArg some (by kernel_rfl))
 f276:=Tryz.func236.trans (congrArg some (by kernel_rfl))
 f277:=Tryz.func324.trans (congrArg some (by kernel_rfl))
 t0:=Tryz.underlying0
 a0:=Tryz.isAgg0
 z0:=Tryz.sizeOf0
 v0:=Tryz.zeroValue0
 t3:=Tryz.underlying3
 a3:=Tryz.isAgg3
 z3:=Tryz.sizeOf3
 v3:=Tryz.zeroValue3
 t4:=Tryz.underlying4
 a4:=Tryz.isAgg4
 z4:=Tryz.sizeOf4
 v4:=Tryz.zeroValue4
 t5:=Tryz.underlying5
 a5:=Tryz.isAgg5
 z5:=Tryz.sizeOf5
 v5:=Tryz.zeroValue5
 t9:=Tryz.underlying9
 a9:=Tryz.isAgg9
 z9:=Tryz.sizeOf9
 v9:=Tryz.zeroValue9
 t20:=Tryz.underlying20
 a20:=Tryz.isAgg20
 z20:=Tryz.sizeOf20
 v20:=Tryz.zeroValue20
 t37:=Tryz.underlying96
 a37:=Tryz.isAgg96
 z37:=Tryz.sizeOf96
 v37:=Tryz.zeroValue96
 t46:=Tryz.underlying237
 a46:=Tryz.isAgg237
 z46:=Tryz.sizeOf237
 v46:=Tryz.zeroValue237
 t51:=Tryz.underlying280
 a51:=Tryz.isAgg280
 z51:=Tryz.sizeOf280
 v51:=Tryz.zeroValue280
 t53:=Tryz.underlying282
 a53:=Tryz.isAgg282
 z53:=Tryz.sizeOf282
 v53:=Tryz.zeroValue282
 t70:=Tryz.underlying95
 a70:=Tryz.isAgg95
 z70:=Tryz.sizeOf95
 v70:=Tryz.zeroValue95
 t72:=Tryz.underlying98
 a72:=Tryz.isAgg98
 z72:=Tryz.sizeOf98
 v72:=Tryz.zeroValue98
 t75:=Tryz.underlying239
 a75:=Tryz.isAgg239
 z75:=Tryz.sizeOf239
 v75:=Tryz.zeroValue239
 t76:=Tryz.underlying240
 a76:=Tryz.isAgg240
 z76:=Tryz.sizeOf240
 v76:=Tryz.zeroValue240
 t109:=Tryz.underlying328
 a109:=Tryz.isAgg328
 z109:=Tryz.sizeOf328
 v109:=Tryz.zeroValue328
 t127:=Tryz.underlying158
 a127:=Tryz.isAgg158
 z127:=Tryz.sizeOf158
 v127:=Tryz.zeroValue158
 t146:=Tryz.underlying358
 a146:=Tryz.isAgg358
 z146:=Tryz.sizeOf358
 v146:=Tryz.zeroValue358
 t148:=Tryz.underlying360
 a148:=Tryz.isAgg360
 z148:=Tryz.sizeOf360
 v148:=Tryz.zeroValue360
 t164:=Tryz.underlying315
 a164:=Tryz.isAgg315
 z164:=Tryz.sizeOf315
 v164:=Tryz.zeroValue315 }
end Go.Proofs
section
namespace Go.Ir
open Go.Proofs Go.RowKit
variable(W0:World)
def By(W0:World):Prop:=∃m,W0.cell? ⟨Tryz.lays138_ren.g 1,0,none⟩=some (.int .i64 m)
theorem Gi{W0 w:World}(h:By W0)(hb:Below W0.heap.size W0 w):∃m,w.cell? ⟨Tryz.lays138_ren.g 1,0,none⟩=some (.int .i64 m):=by
 obtain⟨m,hm⟩:=h
 refine⟨m,?_⟩
 rw[<-hm]
 unfold World.cell? at hm⊢
 cases hh:W0.heap[Tryz.lays138_ren.g 1]? with
 | none=>grind
 | some o=>simp only[hb.block _ (AnS.1 hh).1,hh]
theorem xA(s sep:Aa):(Lib.cut s sep).1.length<=s.length/\(Lib.cut s sep).2.1.length<=s.length:=by
 unfold Lib.cut
 grind
theorem bY:Go.Proofs.Builder.Extra Tryz.prog Tryz.lays154_ren where
 sizeBuilder:=by kernel_rfl
 liesBuilder:=by kernel_rfl
 t5:=Tryz.underlying5
 a5:=Tryz.isAgg5
 z5:=Tryz.sizeOf5
 v5:=Tryz.zeroValue5
 infoByte:=by kernel_rfl
 cellsByte:=by kernel_rfl
 sizeByte:=by kernel_rfl
 neB5:=by decide
theorem nR:Go.Proofs.Builder.Extra Tryz.prog Tryz.lays105_ren where
 sizeBuilder:=by kernel_rfl
 liesBuilder:=by kernel_rfl
 t5:=Tryz.underlying5
 a5:=Tryz.isAgg5
 z5:=Tryz.sizeOf5
 v5:=Tryz.zeroValue5
 infoByte:=by kernel_rfl
 cellsByte:=by kernel_rfl
 sizeByte:=by kernel_rfl
 neB5:=by decide
theorem Ns(s:Aa)(k:Nat)(hs:s.length*k<=2^30)(hk:k<=2^30)(hr:(Lib.repeatL s k).length<=A9):Am Tryz.prog W0 200 [.s s,.i .i64 (k:Int)] [] (.s (Lib.repeatL s k)) []:=by
 refine AI (by kernel_rfl) fun w vals hb ⟨μ,H,hv⟩=>?_
 obtain⟨x,y,rfl,hx,hy⟩:=hv.two
 obtain⟨rfl,hl⟩:=B4 hx
 cases hy
 refine(Any.strings_Repeat Tryz.lays105 nR ⟨s.toArray⟩ k w (by omega) (by simp[ByteArray.size];omega)).mono fun e w' ⟨he,hw⟩=>?_
 exact⟨_,he,fun _ _=>.s _ hr,hw⟩
variable(hM:By W0)
include hM
theorem z8(s sub:Aa)(hs:s.length<=2^31)(h1:1<=sub.length):Am Tryz.prog W0 269 [.s s,.s sub] [] (.i .i64 (Lib.count s sub)) []:=by
 refine AI (by kernel_rfl) fun w vals hb ⟨μ,H,hv⟩=>?_
 obtain⟨x,y,rfl,hx,hy⟩:=hv.two
 obtain⟨rfl,hl⟩:=B4 hx
 obtain⟨rfl,hl2⟩:=B4 hy
 obtain⟨m,hm⟩:=Gi hM hb
 refine(Any.strings_Count_any Tryz.lays138 ⟨s.toArray⟩ ⟨sub.toArray⟩ m w (by simp[ByteArray.size];omega) hm (by simpa[ByteArray.size] using h1)).mono fun e w' ⟨he,hw⟩=>?_
 subst hw
 exact⟨_,he,fun _ _=>.i _ _,AqT _ _⟩
theorem Tw(s sep:Aa)(hs:s.length<=2^31):Am Tryz.prog W0 136 [.s s,.s sep] [] (.tup [.s (Lib.cut s sep).1,.s (Lib.cut s sep).2.1,.b (Lib.cut s sep).2.2]) []:=by
 refine AI (by kernel_rfl) fun w vals hb ⟨μ,H,hv⟩=>?_
 obtain⟨x,y,rfl,hx,hy⟩:=hv.two
 obtain⟨rfl,hl⟩:=B4 hx
 obtain⟨rfl,hl2⟩:=B4 hy
 obtain⟨m,hm⟩:=Gi hM hb
 refine(Any.strings_Cut Tryz.lays145 ⟨s.toArray⟩ ⟨sep.toArray⟩ m w (by simp[ByteArray.size];omega) hm).mono fun e w' ⟨he,n,hw⟩=>?_
 subst hw
 obtain⟨c1,c2⟩:=xA s sep
 refine⟨_,he,fun μ H=>Ap.tup [.s (Lib.cut s sep).1,.s (Lib.cut s sep).2.1,.b (Lib.cut s sep).2.2] [.string ⟨(Lib.cut s sep).1.toArray⟩,.string ⟨(Lib.cut s sep).2.1.toArray⟩,.bool (Lib.cut s sep).2.2] rfl fun k c v hc hv=>?_,Below.drewN_ (AqT _ _) n⟩
 match k with
 | 0=>simp at hc hv;subst hc hv;exact .s _ (Aiw c1 hl)
 | 1=>simp at hc hv;subst hc hv;exact .s _ (Aiw c2 hl)
 | 2=>simp at hc hv;subst hc hv;exact .b _
 | k+3=>simp at hc
theorem Lo(s old new:Aa)(n:Int)(hs:s.length<=2^31)(h1:1<=old.length)(hn:s.length*new.length<=2^41)(hr:(Lib.replace s old new n).length<=A9):Am Tryz.prog W0 213 [.s s,.s old,.s new,.i .i64 n] [] (.s (Lib.replace s old new n)) []:=by
 refine AI (by kernel_rfl) fun w vals hb ⟨μ,H,hv⟩=>?_
 have hlen:=hv.len
 obtain⟨x,y,z,u,rfl⟩:∃x y z u,vals=[x,y,z,u]:=by
  match vals,hlen with
  | [x,y,z,u],_=>exact⟨x,y,z,u,rfl⟩
 obtain⟨rfl,hl⟩:=B4 (hv.at_ 0 _ _ rfl rfl)
 obtain⟨rfl,hl2⟩:=B4 (hv.at_ 1 _ _ rfl rfl)
 obtain⟨rfl,hl3⟩:=B4 (hv.at_ 2 _ _ rfl rfl)
 have hu:=hv.at_ 3 _ _ rfl rfl
 cases hu
 obtain⟨m,hm⟩:=Gi hM hb
 have hcnt:=Lib.countB_le ⟨old.toArray⟩ (by simpa[ByteArray.size] using h1) s.length ⟨s.toArray⟩ (by simp[ByteArray.size])
 have hss:(⟨s.toArray⟩:ByteArray).size=s.length:=by simp[ByteArray.size]
 have hns:(⟨new.toArray⟩:ByteArray).size=new.length:=by simp[ByteArray.size]
 refine(Any.strings_Replace Tryz.lays154 bY ⟨s.toArray⟩ ⟨old.toArray⟩ ⟨new.toArray⟩ n m w (by rw[hss];omega) hm (by simpa[ByteArray.size] using h1) ?_).mono fun e w' ⟨he,hw⟩=>?_
 ·rw[hss,hns]
  rw[hss] at hcnt
  have:Lib.countB ⟨s.toArray⟩ ⟨old.toArray⟩*new.length<=s.length*new.length:=AsY _ hcnt
  omega
 ·exact⟨_,he,fun _ _=>.s _ hr,hw⟩
omit hM
theorem EO(s cs:Aa):(Lib.trimLeftS s cs).length<=s.length:=(Ati _).length_le
theorem Oo(s cs:Aa)(hcs:cs.length<4294967281)(ha:∀b∈cs,b.toNat<128):Am Tryz.prog W0 259 [.s s,.s cs] [] (.s (Lib.trimLeftS s cs)) []:=by
 refine AI (by kernel_rfl) fun w vals hb ⟨μ,H,hv⟩=>?_
 obtain⟨x,y,rfl,hx,hy⟩:=hv.two
 obtain⟨rfl,hl⟩:=B4 hx
 obtain⟨rfl,_⟩:=B4 hy
 refine(Any.strings_TrimLeft_laid Tryz.lays161 (by kernel_rfl) ⟨s.toArray⟩ ⟨cs.toArray⟩ w (by simpa[ByteArray.size] using hcs) (fun j b hj=>ha b (Ai1 hj))).mono fun e w' ⟨he,hw⟩=>?_
 exact⟨_,he,fun _ _=>.s _ (Aiw (EO s cs) hl),hw⟩
theorem QR{μ:Id->Option Value}{H:Addr->Option Value}{ls:List Aa}{vals:List Value}(h:AG μ H (AF (ls.map V.s)) vals):vals=ls.map encStr:=by
 rw[F2] at h
 apply AsQ
 intro k
 rw[Aqt]
 cases hk:ls[k]? with
 | none=>
  have:vals.length=ls.length:=by have:=h.len;simpa using this.symm
  grind
 | some l=>
  obtain⟨v,h1,h2⟩:=h.toVRels.get (k:=k) (c:=.s l) (by grind)
  rw[h1,(B4 h2).1];rfl
theorem Me{μ:Id->Option Value}{H:Addr->Option Value}{ls:List Aa}(hs:∀l∈ls,l.length<=A9):AG μ H (AF (ls.map V.s)) (ls.map encStr):=by
 rw[F2]
 refine⟨⟨by simp,fun k c v hc hv=>?_⟩,fun v hv=>?_⟩
 ·rw[Aqt] at hc hv
  obtain⟨x,hx,rfl⟩:=Adc.1 hc
  rw[hx] at hv
  cases hv
  exact .s _ (hs x (Ai1 hx))
 ·obtain⟨x,_,rfl⟩:=Apq.1 hv
  rfl
theorem JU{w:World}{g:Nat}{cur:Array Value}{e:TypeId}{ls:List Aa}(hg:w.heap[g]?=some (.cells cur e (0,0)))(ht:cur.toList.take ls.length=ls.map encStr):Sort.Holds encStr w g 0 ls.toArray:=by
 intro j hj
 have hj':j<ls.length:=by simpa using hj
 have h1:cur[j]?=some (encStr ls[j]):=by
  have:(cur.toList.take ls.length)[j]?=some (encStr ls[j]):=by rw[ht];simp[hj']
  grind
 refine⟨?_,?_⟩
 ·simp[World.cell?,hg,h1,hj']
 ·simp[World.frozen?,hg]
theorem IG{P:Program}{W0:World}{f:FuncId}{e:TypeId}{ls ls':List Aa}(id:Id)(hc:callable P f=true)(hne:ls≠[])(hlen:ls'.length=ls.length)(hmem:∀l∈ls',l∈ls)
  (h:∀(w:World) BI cap,Sort.Holds encStr w BI 0 ls.toArray->BI<w.heap.size->Calls P f #[.slice (some ⟨BI,0,none⟩) ls.length cap] w fun e w'=>e=.returned (.tuple #[])/\∃n os,w'=Sort.grow (Sort.putRow encStr (Sort.ahead w n) BI 0 ls'.toArray) os) :
  Am P W0 f [.arr id] [(id,.arr e 1 (ls.map V.s))] (.tup []) [(id,.arr e 1 (ls'.map V.s))] where
 callable:=hc
 dom:=fun i hi=>by
  simp only[lk] at hi⊢
  grind
 run:=by
  intro n w μ H vals hp hv
  obtain⟨x,rfl⟩:∃x,vals=[x]:=by
   match vals,hv.len with
   | [x],_=>exact⟨x,rfl⟩
  have hx:=(hv.at_ 0 _ _ rfl rfl).arr_inv.1
  have hl1:lk [(id,AC.arr e 1 (ls.map V.s))] id=some (.arr e 1 (ls.map V.s)):=by simp[lk]
  obtain⟨v,vs,h1,h2,h3,h4,h5,h6⟩:=hp.ents _ _ hl1
  rw[hx] at h1
  cases h1
  have hvs:=QR h6
  subst hvs
  obtain⟨hl,h3⟩:=h3
  rcases h3 with⟨_,h0⟩|⟨g,cap,cur,rfl,hB,hg,hncap,hcap,hcur,htake⟩
  ·grind
  simp only[Ae5,Nat.mul_one] at htake hl hcur hncap⊢
  have hgl:g<w.heap.size:=(AnS.1 hg).1
  have hsl:∀l∈ls,l.length<=A9:=by
   intro l hm
   obtain⟨k,hk⟩:=ApX.1 hm
   rw[F2] at h6
   obtain⟨v,_,h8⟩:=h6.toVRels.get (k:=k) (c:=.s l) (by grind)
   exact(B4 h8).2
  refine(h w g cap (JU hg htake) hgl).mono ?_
  rintro en w' ⟨rfl,k,os,rfl⟩
  have hhe:∀j,j<w.heap.size->(Sort.grow (Sort.putRow encStr (Sort.ahead w k) g 0 ls'.toArray) os).heap[j]?=if j=g then some (.cells (Sort.putCells encStr 0 ls'.toArray cur) e (0,0)) else w.heap[j]?:=by
   intro j hj
   simp only[Sort.grow,Sort.putRow,Sort.mapBlock,Sort.ahead]
   rw[AtJ (by simpa using hj),Array.getElem?_modify]
   by_cases hjg:g=j
   ·subst hjg;simp[hg,Sort.onCells]
   grind
  have hturn:AJ (fun q=>BI (μ id)=some q) w (Sort.grow (Sort.putRow encStr (Sort.ahead w k) g 0 ls'.toArray) os):=by
   refine⟨rfl,rfl,rfl,by grind,fun j hj hn=>?_⟩
   rw[hhe j hj,if_neg]
   rintro rfl
   exact hn (by rw[hx];rfl)
  have hset:=hp.set_ (e:=.arr e 1 (ls'.map V.s)) hl1 hturn ⟨_,ls'.map encStr,hx,rfl,⟨by simp,.inr ⟨g,cap,Sort.putCells encStr 0 ls'.toArray cur,by simp[hlen],hB,by rw[hhe g hgl,if_pos rfl],by simp[hlen];exact hncap,hcap,by simp[Sort.putCells,hcur],?_⟩⟩,by simpa[hlen] using h4,fun x hx=>by grind,Me fun l hm=>hsl l (hmem l hm)⟩
  ·have hu:upd [(id,AC.arr e 1 (ls.map V.s))] id (.arr e 1 (ls'.map V.s))=[(id,.arr e 1 (ls'.map V.s))]:=by simp[upd]
   rw[hu] at hset
   exact⟨_,μ,H,n,rfl,.tup [] [] rfl (fun k c v hk=>by simp at hk),hset.1,AbG _,hset.2,fun _ _ h=>h⟩
  ·apply AsQ
   intro j
   simp only[Ae5,Nat.mul_one,AsW,Aqt]
   split
   ·rename_i hj
    have hjc:j<cur.size:=by omega
    simp[Sort.putCells,hjc,hj]
   grind
theorem XX(ls:List Aa)(id:Id)(hne:ls≠[])(hl:ls.length<=2^40):Am Tryz.prog W0 260 [.arr id] [(id,.arr 9 1 (ls.map V.s))] (.tup []) [(id,.arr 9 1 (ls.reverse.map V.s))]:=by
 refine IG id (by kernel_rfl) hne (by simp) (fun l hl=>by simpa using hl) fun w BI cap hH hb=>?_
 refine(Any.slices_Reverse_string Tryz.laysT17 BI 0 cap ls w hH (by omega)).mono ?_
 rintro e w' ⟨rfl,n,rfl⟩
 exact⟨rfl,n,#[],by simp⟩
end Go.Ir
end
section
set_option maxRecDepth 100000
namespace Go.Ir
open Go.Proofs Go.RowKit
theorem XE{W:World}(h:W.ShapedOpen Tryz.prog):By W:=by
 obtain⟨cs,hh,hs,hr⟩:=h.1 (Tryz.lays138_ren.g 1) #[.int .i64 0] 3 (of_decide_eq_true (by kernel_rfl)) (by kernel_rfl)
 obtain⟨ts,hts,_,hall⟩:=hr (by kernel_rfl)
 have hc:Tryz.prog.cellTypes Tryz.prog.depth 3=some [3]:=by kernel_rfl
 rw[hc] at hts
 cases hts
 have h1:0<cs.size:=by rw[hs];decide
 obtain⟨u,hu',hok⟩:=hall 0 cs[0] (by simp[h1])
 have:u=3:=by simpa using hu'.symm
 subst this
 have hcell:W.cell? ⟨Tryz.lays138_ren.g 1,0,none⟩=some cs[0]:=by simp[World.cell?,hh,h1]
 unfold By
 rw[hcell]
 unfold Cell.ok at hok
 rw[Tryz.underlying3] at hok
 cases hv:cs[0]<;>rw[hv] at hok<;>first|(simp at hok;done)|skip
 grind
end Go.Ir
end
namespace Go.Proofs
open Go.Shelf
def Tryz.laysT16_ren:Go.Shelf.Ren:=⟨fun|16=>66|n=>n,fun|24=>28|9=>9|4=>4|n=>n,fun|n=>n⟩
theorem Tryz.laysT16:Go.Proofs.Lays2.n16 Tryz.prog Tryz.laysT16_ren:={
 mixed:=by kernel_rfl
 f16:=Tryz.func66.trans (congrArg some (by kernel_rfl))
 t4:=Tryz.underlying4
 a4:=Tryz.isAgg4
 z4:=Tryz.sizeOf4
 v4:=Tryz.zeroValue4
 t9:=Tryz.underlying9
 a9:=Tryz.isAgg9
 z9:=Tryz.sizeOf9
 v9:=Tryz.zeroValue9
 t24:=Tryz.underlying28
 a24:=Tryz.isAgg28
 z24:=Tryz.sizeOf28
 v24:=Tryz.zeroValue28
 i9:=by kernel_rfl }
def Tryz.lays194_ren:Go.Shelf.Ren:=⟨fun|194=>331|n=>n,fun|31=>28|9=>9|3=>3|4=>4|0=>0|n=>n,fun|n=>n⟩
theorem Tryz.lays194:Go.Proofs.Lays.n194 Tryz.prog Tryz.lays194_ren:={
 mixed:=by kernel_rfl
 f194:=Tryz.func331.trans (congrArg some (by kernel_rfl))
 t0:=Tryz.underlying0
 a0:=Tryz.isAgg0
 z0:=Tryz.sizeOf0
 v0:=Tryz.zeroValue0
 t3:=Tryz.underlying3
 a3:=Tryz.isAgg3
 z3:=Tryz.sizeOf3
 v3:=Tryz.zeroValue3
 t4:=Tryz.underlying4
 a4:=Tryz.isAgg4
 z4:=Tryz.sizeOf4
 v4:=Tryz.zeroValue4
 t9:=Tryz.underlying9
 a9:=Tryz.isAgg9
 z9:=Tryz.sizeOf9
 v9:=Tryz.zeroValue9
 t31:=Tryz.underlying28
 a31:=Tryz.isAgg28
 z31:=Tryz.sizeOf28
 v31:=Tryz.zeroValue28 }
end Go.Proofs
namespace Go.Ir
open Go.Proofs Go.RowKit
variable(W0:World)
theorem AaF(ls:List Aa)(id:Id)(hne:ls≠[])(hl:ls.length<=2^40):Am Tryz.prog W0 83 [.arr id] [(id,.arr 9 1 (ls.map V.s))] (.tup []) [(id,.arr 9 1 ((ls.mergeSort fun x y=>decide (x<=y)).map V.s))]:=by
 refine IG id (by kernel_rfl) hne (List.length_mergeSort ..) (fun l hl=>by simpa using hl) fun w BI cap hH hb=>?_
 exact AnyM.slices_Sort_string Tryz.sortA BI 0 cap ls w hH hb (by omega)
theorem dP{W0:World}{n:Nat}{μ:Id->Option Value}{H:Addr->Option Value}{w:World}{id:Id}{e:TypeId}{ls:List Aa}(hp:Hp W0 [(id,.arr e 1 (ls.map V.s))] n μ H w)(hne:ls≠[]){x:Value}(hx:μ id=some x) :
  ∃g cap cur,x=.slice (some ⟨g,0,none⟩) ls.length cap/\W0.heap.size<=g/\w.heap[g]?=some (.cells cur e (0,0))/\ls.length<=cap/\cap<=maxLen/\cur.size=cap/\cur.toList.take ls.length=ls.map encStr/\ls.length<=AM/\∀l∈ls,l.length<=A9:=by
 have hl1:lk [(id,AC.arr e 1 (ls.map V.s))] id=some (.arr e 1 (ls.map V.s)):=by simp[lk]
 obtain⟨v,vs,h1,h2,h3,h4,h5,h6⟩:=hp.ents _ _ hl1
 rw[hx] at h1
 cases h1
 have hvs:=QR h6
 subst hvs
 obtain⟨hl,h3⟩:=h3
 rcases h3 with⟨_,h0⟩|⟨g,cap,cur,rfl,hB,hg,hncap,hcap,hcur,htake⟩
 ·grind
 simp only[Ae5,Nat.mul_one] at htake hl hcur hncap h4⊢
 refine⟨g,cap,cur,rfl,hB,hg,hncap,hcap,hcur,htake,h4,fun l hm=>?_⟩
 obtain⟨k,hk⟩:=ApX.1 hm
 rw[F2] at h6
 obtain⟨v,_,h8⟩:=h6.toVRels.get (k:=k) (c:=.s l) (by grind)
 exact(B4 h8).2
theorem bL{W0:World}{σ:Ak}{n:Nat}{μ:Id->Option Value}{H:Addr->Option Value}{w:World}(hp:Hp W0 σ n μ H w){id:Id}(h:μ id=none):lk σ id=none:=by
 cases hq:lk σ id with
 | none=>rfl
 | some e=>exact absurd (hp.ents _ _ hq).named (by grind)
theorem cS(ls:List Aa)(id:Id)(hne:ls≠[])(hl:ls.length<=2^30):JR Tryz.prog W0 66 [.arr id] [(id,.arr 9 1 (ls.map V.s))] (.arr 9 1 (ls.map V.s)) [(id,.arr 9 1 (ls.map V.s))] where
 callable:=by kernel_rfl
 dom:=fun _ h=>h
 run:=by
  intro n w μ H vals hp hv
  obtain⟨x,rfl⟩:∃x,vals=[x]:=by
   match vals,hv.len with
   | [x],_=>exact⟨x,rfl⟩
  have hx:=(hv.at_ 0 _ _ rfl rfl).arr_inv.1
  obtain⟨g,cap,cur,rfl,hB,hg,hncap,hcap,hcur,htake,_,hsl⟩:=dP hp hne hx
  have key:=Any.slices_Clone_string Tryz.laysT16 g 0 ls.length cap (ls.map fun l=>(⟨l.toArray⟩:ByteArray)) w (by simp) (by omega) (fun j hj=>by
   have hj':j<ls.length:=by simpa using hj
   have:=(JU hg htake j (by simpa using hj')).1
   grind
)
  refine key.mono ?_
  rintro e w' ⟨v,rfl,hrow,_,hb⟩
  have hmap:List.map Value.string ((ls.map fun l=>(⟨l.toArray⟩:ByteArray)).take ls.length)=ls.map encStr:=by
   rw[AtA (by simp),List.map_map]
   simp_all
  rw[hmap] at hrow
  have hnone:μ (n,0)=none:=hp.bd _ (AbG _)
  have hform:=hrow.2
  have hone:v.oneCell'=true:=by
   rcases hform with⟨rfl,_⟩|⟨g,cap,cur,rfl,_⟩<;>rfl
  have hnew:=(hp.more (Ani n)).new_ (n':=n+1) (R:=fun _=>False) (w':=w') ⟨hb.os,hb.tape,hb.output,hb.size,fun k hk _=>hb.block k hk⟩ (fun _ h=>h.elim) (σ1:=[(id,.arr 9 1 (ls.map V.s))]) (fun id e h=>⟨h,fun _ _ h=>h⟩) (id:=(n,0)) (e:=.arr 9 1 (ls.map V.s)) (val:=v) hnone (Acq _) (AbG _) (fun bk hb=>by
    right
    rcases hform with⟨rfl,_⟩|⟨g,cap,cur,rfl,hg,_⟩
    ·simp[BI] at hb
    ·simp[BI] at hb;omega)
   ⟨v,ls.map encStr,Ar _ _ _,hone,by rw[Ae5];exact ownsRow_base_a hrow hp.base.size,by grind,by intro y hy;obtain⟨x,_,rfl⟩:=Apq.1 hy;rfl,Me hsl⟩
  refine⟨v,_,H,n+1,(n,0),rfl,Ar _ _ _,hone,hnone,bL hp hnone,hnew.1,Ani _,hnew.2,fun id hid h0=>?_⟩
  rw[B9 _ _ (by rintro rfl;simp at hid)];exact h0
theorem K4{ls:List Aa}{l:Aa}(h:l∈Lib.compact ls):l∈ls:=by
 unfold Lib.compact Lib.compactUpTo at h
 grind
theorem Km(ls:List Aa):(Lib.compact ls).length<=ls.length:=by
 unfold Lib.compact Lib.compactUpTo
 grind
theorem LQ(ls:List Aa)(id:Id)(hne:ls≠[])(hl:ls.length<=2^30):Ei Tryz.prog W0 331 [.arr id] [(id,.arr 9 1 (ls.map V.s))] (fun n n' v σ'=>∃cid:Id,n<=cid.1/\cid.1<n'/\v=.arr cid/\σ'=[(cid,.arr 9 1 ((Lib.compact ls).map V.s))]) where
 callable:=by kernel_rfl
 run:=by
  intro n w μ H vals hp hv
  obtain⟨x,rfl⟩:∃x,vals=[x]:=by
   match vals,hv.len with
   | [x],_=>exact⟨x,rfl⟩
  have hx:=(hv.at_ 0 _ _ rfl rfl).arr_inv.1
  obtain⟨g,cap,cur,rfl,hB,hg,hncap,hcap,hcur,htake,_,hsl⟩:=dP hp hne hx
  have hcl:=Km ls
  have hgl:g<w.heap.size:=(AnS.1 hg).1
  refine(Any.slices_Compact_string Tryz.lays194 g 0 cap ls w (JU hg htake) (by omega) hncap).mono ?_
  rintro en w' ⟨rfl,q,rfl⟩
  generalize hT:Lib.compact ls++List.replicate (ls.length-(Lib.compact ls).length) []=T
  have hTl:T.length=ls.length:=by rw[<-hT];simp;omega
  have hhe:∀j,(Sort.putRow encStr (Sort.ahead w q) g 0 T.toArray).heap[j]?=if j=g then some (.cells (Sort.putCells encStr 0 T.toArray cur) 9 (0,0)) else w.heap[j]?:=by
   intro j
   simp only[Sort.putRow,Sort.mapBlock,Sort.ahead]
   rw[Array.getElem?_modify]
   by_cases hjg:g=j
   ·subst hjg;simp[hg,Sort.onCells]
   ·rw[if_neg hjg,if_neg (Ail hjg)]
  have hnone:μ (n,0)=none:=hp.bd _ (AbG _)
  have hl1:lk [(id,AC.arr 9 1 (ls.map V.s))] id=some (.arr 9 1 (ls.map V.s)):=by simp[lk]
  have hnew:=(hp.more (Ani n)).new_ (n':=n+1) (σ1:=[]) (w':=Sort.putRow encStr (Sort.ahead w q) g 0 T.toArray) (R:=fun k=>BI (μ id)=some k) ⟨rfl,rfl,rfl,by simp[Sort.putRow,Sort.mapBlock,Sort.ahead],fun k hk hn=>by rw[hhe,if_neg];rintro rfl;exact hn (by rw[hx];rfl)⟩ (fun k hk=>⟨id,_,hl1,hk⟩) (fun id' e' h=>by simp[lk] at h) hnone (id:=(n,0)) (e:=.arr 9 1 ((Lib.compact ls).map V.s)) (val:=.slice (some ⟨g,0,none⟩) (Lib.compact ls).length cap) (Acq _) (AbG _) (fun bk hb=>by
    simp only[BI,Aiq] at hb
    subst hb
    left
    rw[hx];rfl)
   ⟨_,(Lib.compact ls).map encStr,Ar _ _ _,rfl,⟨by simp,.inr ⟨g,cap,Sort.putCells encStr 0 T.toArray cur,by simp,hB,by rw[hhe,if_pos rfl],by simp;omega,hcap,by simp[Sort.putCells,hcur],by
    apply AsQ
    intro j
    simp only[Ae5,Nat.mul_one,AsW,Aqt]
    split
    ·rename_i hj
     have hjc:j<cur.size:=by omega
     have hjT:j<T.length:=by omega
     have:T[j]=(Lib.compact ls)[j]:=by simp only[<-hT];rw[List.getElem_append_left hj]
     simp[Sort.putCells,hjc,hjT,this,hj]
    ·rename_i hj
     rw[List.getElem?_eq_none (by omega)];rfl⟩⟩,by simp;unfold AM;omega,by intro y hy;obtain⟨x,_,rfl⟩:=Apq.1 hy;rfl,Me fun l hm=>hsl l (K4 hm)⟩
  refine⟨_,_,H,n+1,_,_,rfl,⟨(n,0),AbG _,Acq _,rfl,rfl⟩,.arr _ _ (Ar _ _ _) rfl,hnew.1,Ani _,hnew.2,fun id hid h0=>?_⟩
  rw[B9 _ _ (by rintro rfl;simp at hid)];exact h0
end Go.Ir

namespace Go.Ir
open Go.Proofs
variable{P:Program}{W0:World}{nt n:Nat}{Q:Exit→St→Prop}{env:AD}{σ:Ak}
def aD:IC:=sQ (oS [m1 5 1] [2,5] (.block 0 (oS [bZ 7 .eql 5 7,m1 6 7] [2,5,6] (cD 6 (oR [fA 8 2 3,l1 9 8,m1 4 9] [4]) (oS [bZ 11 .eql 5 8,m1 10 11] [2,10] (cD 10 (oR [fA 12 2 4,l1 13 12,m1 4 13] [4]) .skip)))))) (oR [mC 4 .nil] [4])
def kF:IC:=oS [bX 2 0,mC 4 .nil] [1,2] aD
@[push_cast]def Alt:List R:=[.t 4]
@[push_cast]def Aro:=As aD.eq_1<|AL kF.eq_1
theorem Adq:Aw Tryz.prog 153 14 kF Alt=true:=by kernel_rfl
def dE:IC:=sQ (oS [m1 5 0,bZ 6 .eql 5 9] [3,6] (cD 6 (oR [lA 7 3 5,q1 8 40 7,m1 9 8,F0 10 9 3 1,EQ 11 9 10,FSz 12 9 .eql 11 1,pA 13 9 12,m1 4 13] [4]) .skip)) (oR [lA 14 3 5,q1 15 40 14,m1 16 15,F0 17 16 3 1,EQ 18 16 17,FSz 19 16 .eql 18 2,pA 20 16 19,m1 4 20] [4])
def mR:IC:=oS [bX 3 1,mC 4 (.b false)] [0,3] dE
@[push_cast]def AkQ:List R:=[.t 4]
@[push_cast]def AqJ:=As dE.eq_1<|AL mR.eq_1
theorem Ahd:Aw Tryz.prog 154 21 mR AkQ=true:=by kernel_rfl
def Xc:IC:=oR [fA 23 5 2,l1 24 23,o1 25 (.bin .add (.c (.s [61])) (.t 24)),m1 26 7,o1 27 (.msl false 9 1 [.t 25,.t 26,.c (.s [111,116,104,101,114])]),m1 6 27] [6]
def bD:IC:=sQ (.ops [lA 15 3 16,m1 16 1,q2 17 153 15 16,fA 18 5 2,l1 19 18,q2 20 210 17 19,m1 14 20,xT 21 14 0,xT 22 14 1,m1 7 21,m1 8 22] [5,7] [[0,2],[1,2],[3,4],[2,5],[4,5],[5,6],[6,7],[6,8],[7,9],[8,10]]) Xc
def lQ:IC:=sQ (oS [m1 9 1,bZ 10 .eql 9 9] [1,3,5,10] (cD 10 (oR [fA 11 5 2,l1 12 11,o1 13 (.msl false 9 1 [.t 12,.c (.s [111,116,104,101,114])]),m1 6 13] [6]) .skip)) bD
def mI:IC:=oS [bX 3 0,bX 5 2,mC 6 .nil] [1,3,5] lQ
@[push_cast]def Aj9:List R:=[.t 6]
@[push_cast]def AqO:=As Xc.eq_1<|As bD.eq_1<|As lQ.eq_1<|AL mI.eq_1
theorem Adf:Aw Tryz.prog 209 28 mI Aj9=true:=by kernel_rfl
def UE:IC:=oS [m1 21 2,m1 22 10,q2 23 120 21 22,m1 11 23] [2,11,15,16,17] (oS [m1 24 11,bZ 25 .geq 24 0] [2,11,15,16,17,25] (cD 25 (oR [m1 26 11,m1 8 26] [8]) .skip))
def dC:IC:=oS [bT 18 .lss 17 16] [2,15,16,17,18] (sQ (cD 18 .skip (.exit 0)) (sQ (.block 1 (oS [iA 19 15 17 9 1,l1 20 19,m1 10 20] [2,10,15,16,17] UE)) (oP [bZ 27 .add 17 1,m1 17 27] [2,15,16,17])))
def cW:IC:=oS [bX 4 0,bX 7 3,mZ 8 0] [1,2,4,7] (sQ (oS [lA 12 4 16,m1 13 1,lA 14 7 5,q3 15 209 12 13 14,nL 16 15,mZ 17 0] [2,15,16,17] (.block 0 (.loop dC))) (oR [mZ 8 (-1)] [8]))
@[push_cast]def AkZ:List R:=[.t 8]
@[push_cast]def Arv:=As UE.eq_1<|As dC.eq_1<|AL cW.eq_1
theorem AeT:Aw Tryz.prog 155 28 cW AkZ=true:=by kernel_rfl
def WG:IC:=oS [m1 34 9,nT 35 34,m1 33 35] [3,4,8,33] (cD 33 (oR [mZ 6 0,mZ 7 12] [6,7]) (oS [fA 37 4 0,l1 38 37,lA 39 8 5,q2 40 154 38 39,nT 41 40,m1 36 41] [3,4,8,36] (cD 36 (oR [mZ 6 0,mZ 7 11] [6,7]) .skip)))
def TX:IC:=sQ (.block 2 (oS [iA 47 43 45 118 2,lA 48 47 2,o1 12 (.alloc (.agg [.s [],.nil])),sT 12 48 2] [3,4,8,10,12,43,44,45] (oP [m1 49 10,fA 50 12 0,l1 51 50,o1 52 (.msl false 9 1 [.t 51]),o1 53 (.app (.t 49) (.t 52) 9 1),m1 10 53] [3,4,8,10,43,44,45]))) (oP [bZ 54 .add 45 1,m1 45 54] [3,4,8,10,43,44,45])
def US:IC:=sQ (oS [fA 42 4 4,l1 43 42,nL 44 43,mZ 45 0] [3,4,8,10,43,44,45] (.block 1 (.loop (oS [bT 46 .lss 45 44] [3,4,8,10,43,44,45,46] (sQ (cD 46 .skip (.exit 1)) TX))))) (sQ (.wk (oP [lA 55 3 16,fA 56 4 0,l1 57 56,m1 58 10,lA 59 8 5,o1 60 (.call 155 [.t 55,.t 57,.t 58,.t 59]),m1 13 60] [13])) (sQ (oS [m1 61 13,bZ 62 .lss 61 0] [13,62] (cD 62 (oR [mZ 6 0,mZ 7 13] [6,7]) .skip)) (oR [m1 63 13,m1 6 63,mZ 7 0] [6,7])))
def o5:IC:=sQ (.block 0 (oS [fA 22 4 0,l1 23 22,q1 24 79 23,nT 25 24,m1 21 25] [3,4,8,9,21] (cD 21 (oR [mZ 6 0,mZ 7 1] [6,7]) (oS [lA 27 3 16,fA 28 4 0,l1 29 28,q2 30 153 27 29,q1 31 152 30,nT 32 31,m1 26 32] [3,4,8,9,26] (cD 26 (oR [mZ 6 0,mZ 7 18] [6,7]) WG))))) (oS [mC 10 .nil] [3,4,8,10] US)
def cJ:IC:=oS [m1 15 2,fA 16 4 2,l1 17 16,q2 18 39 15 17,m1 14 18,xT 19 14 0,xT 20 14 1,o1 8 (.alloc (.agg [.s [],.i .i64 0,.s [],.i .i64 0,.nil])),sT 8 19 5,m1 9 20] [3,4,8,9] o5
def kI:IC:=oS [bX 3 0,bX 4 1,mZ 6 0,mZ 7 0] [2,3,4] cJ
@[push_cast]def Ajd:List R:=[.t 6,.t 7]
@[push_cast]def ArZ:=As WG.eq_1<|As TX.eq_1<|As US.eq_1<|As o5.eq_1<|As cJ.eq_1<|AL kI.eq_1
theorem qT:Aw Tryz.prog 107 64 kI Ajd=true:=by kernel_rfl
def VH:IC:=oS [m1 45 7,m1 46 8,m1 47 6,o1 48 (.slS (.t 46) (some (.t 47)) none),o1 49 (.msl false 9 1 [.t 48]),o1 50 (.app (.t 45) (.t 49) 9 1),m1 7 50] [2,5,6,7,8] (oP [m1 51 8,m1 52 6,o1 53 (.slS (.t 51) none (some (.t 52))),m1 8 53] [2,5,7,8])
def OU:IC:=sQ (oS [m1 38 8,bC 39 .neq 38 (.s [])] [2,5,7,8,39] (cD 39 .skip (.exit 0))) (.block 1 (oS [m1 40 8,nS 41 40,m1 42 5,bT 43 .sub 41 42,o1 44 (.mx false (ci 0) [.t 43]),m1 6 44] [2,5,6,7,8] VH))
def Vj:IC:=sQ (oS [m1 35 1,m1 36 6,o1 37 (.slS (.t 35) none (some (.t 36))),m1 8 37] [2,5,7,8] (.block 0 (.loop OU))) (oS [m1 54 7,o1 55 (.calls 260 [.t 54])] [2,7] (sQ (.wk (oP [m1 56 7,fA 57 2 1,l1 58 57,q2 59 261 56 58,m1 4 59] [4])) .ret))
def WW:IC:=oS [m1 26 1,nS 27 26,fA 28 2 4,l1 29 28,bT 30 .sub 27 29,m1 6 30] [1,2,5,6] (oS [m1 31 1,m1 32 6,o1 33 (.slS (.t 31) (some (.t 32)) none),o1 34 (.msl true 9 1 [.t 33]),m1 7 34] [1,2,5,6,7] Vj)
def jD:IC:=oS [fA 20 2 5,l1 21 20,m1 5 21] [1,2,5] (sQ (oS [m1 22 5,bZ 23 .lss 22 1] [1,2,5,23] (cD 23 (oP [fA 24 2 4,l1 25 24,m1 5 25] [1,2,5]) .skip)) WW)
def qG:IC:=sQ (oS [fA 9 2 4,l1 10 9,bZ 11 .lss 10 1,m1 12 11,BB 13 12 1,gF 14 12 (.lenS (.t 13)),EP 15 12 2 4,Ew 16 12 15,gF 17 12 (.bin .leq (.t 14) (.t 16)),pO 18 12 17] [1,2,18] (cD 18 (oR [m1 19 1,m1 4 19] [4]) .skip)) jD
def qK:IC:=oS [bX 2 0,mC 4 (.s [])] [1,2] qG
@[push_cast]def AmA:List R:=[.t 4]
@[push_cast]def Arl:=As VH.eq_1<|As OU.eq_1<|As Vj.eq_1<|As WW.eq_1<|As jD.eq_1<|As qG.eq_1<|AL qK.eq_1
theorem RT:Aw Tryz.prog 204 60 qK AmA=true:=by kernel_rfl
def iK:IC:=oS [lA 22 2 6,m1 23 7,q2 24 204 22 23,m1 10 24] [2,6,8,9,10] (sQ (oS [m1 25 9] [2,6,8,10,25] (cD 25 (oP [m1 26 10,fA 27 2 0,l1 28 27,m1 29 8,bT 30 .add 28 29,bT 31 .add 26 30,m1 10 31] [2,6,10]) .skip)) (sQ (oS [m1 32 6] [2,10,32] (cD 32 (oP [fA 33 2 2,l1 34 33,m1 35 10,bT 36 .add 34 35,m1 10 36] [10]) .skip)) (oR [m1 37 10,m1 4 37] [4])))
def aL:IC:=oS [m1 12 1,o1 13 (.call 135 [.t 12,.c (.s [45])]),m1 11 13,xT 14 11 0,xT 15 11 1,m1 5 14,m1 6 15] [2,5,6] (oS [m1 17 5,o1 18 (.call 136 [.t 17,.c (.s [46])]),m1 16 18,xT 19 16 0,xT 20 16 1,xT 21 16 2,m1 7 19,m1 8 20,m1 9 21] [2,6,7,8,9] iK)
def bP:IC:=oS [bX 2 0,mC 4 (.s [])] [1,2] aL
@[push_cast]def Al1:List R:=[.t 4]
@[push_cast]def ArD:=As iK.eq_1<|As aL.eq_1<|AL bP.eq_1
theorem AeD:Aw Tryz.prog 151 38 bP Al1=true:=by kernel_rfl
def jF:IC:=cD 13 (oR [mC 6 (.s []),mZ 7 1] [6,7]) (oS [fA 30 8 0,l1 31 30,bC 32 .eql 31 (.s []),m1 29 32] [1,2,8,29] (cD 29 (oR [mC 6 (.s []),mZ 7 18] [6,7]) .skip))
def Xh:IC:=oS [m1 44 1,o1 45 (.call 150 [.t 44,ci 2]),m1 43 45,xT 46 43 0,xT 47 43 1,m1 1 46,m1 10 47] [1,8,10] (oP [fA 48 8 3,l1 49 48,m1 9 49] [1,8,9,10])
def WI:IC:=.block 1 (oS [bC 35 .eql 33 (.s [105,110,116,101,103,101,114]),m1 34 35] [1,8,9,10,33,34] (cD 34 (oP [m1 37 1,o1 38 (.call 149 [.t 37,ci 0]),m1 36 38,xT 39 36 0,xT 40 36 1,m1 1 39,m1 10 40] [1,8,9,10]) (oS [bC 42 .eql 33 (.s [112,101,114,99,101,110,116]),m1 41 42] [1,8,9,10,41] (cD 41 Xh .skip))))
def W5:IC:=sQ (oS [m1 50 10,bZ 51 .neq 50 0] [1,8,9,10,51] (cD 51 (oR [m1 52 10,mC 6 (.s []),m1 7 52] [6,7]) .skip)) (oR [lA 53 8 6,m1 54 1,q2 55 151 53 54,m1 56 9,bT 57 .add 55 56,m1 6 57,mZ 7 0] [6,7])
def rK:IC:=sQ (.block 0 (oS [m1 14 1,q1 15 67 14,nT 16 15,m1 17 16,BB 18 17 2,gF 19 17 (.bin .neq (.t 18) (.c (.s []))),BB 20 17 19,BG 21 20 2,gT 22 20 (.bin .neq (.t 21) (.c (.s [105,110,116,101,103,101,114]))),gF 23 17 (.pick (.t 20) (.t 22) (.c (.b false))),BB 24 17 23,BG 25 24 2,gT 26 24 (.bin .neq (.t 25) (.c (.s [112,101,114,99,101,110,116]))),gF 27 17 (.pick (.t 24) (.t 26) (.c (.b false))),pO 28 17 27,m1 13 28] [1,2,8,13] jF)) (oS [mC 9 (.s [])] [1,2,8,9] (oS [mZ 10 0] [1,2,8,9,10] (sQ (oS [m1 33 2] [1,8,9,10,33] WI) W5)))
def ZG:IC:=oS [bX 3 0,mC 6 (.s []),mZ 7 0] [1,2,3] (oS [fA 11 3 5,lA 12 11 6,o1 8 (.alloc (.agg [.s [],.s [],.s [],.s [],.i .i64 0,.i .i64 0])),sT 8 12 6] [1,2,8] rK)
@[push_cast]def Ak7:List R:=[.t 6,.t 7]
@[push_cast]def ArV:=As jF.eq_1<|As Xh.eq_1<|As WI.eq_1<|As W5.eq_1<|As rK.eq_1<|AL ZG.eq_1
theorem Ahy:Aw Tryz.prog 105 58 ZG Ak7=true:=by kernel_rfl
def aS:IC:=sQ (oS [fA 14 1 0,l1 15 14,m1 16 15,gT 17 16 (.load (.t 1) 3 true),gT 18 16 (.call 138 [.t 17]),gT 19 16 (.not (.t 18)),pA 20 16 19] [3,20] (cD 20 (oP [m1 21 3,o1 22 (.bin .add (.c (.s [45])) (.t 21)),m1 3 22] [3]) .skip)) (oR [m1 23 3,m1 2 23] [2])
def qU:IC:=sQ (oS [fA 6 1 2,l1 7 6,bC 8 .neq 7 (.s [])] [1,3,8] (cD 8 (oP [m1 9 3,fA 10 1 2,l1 11 10,o1 12 (.bin .add (.c (.s [46])) (.t 11)),bT 13 .add 9 12,m1 3 13] [1,3]) .skip)) aS
def dH:IC:=oS [bX 1 0,mC 2 (.s [])] [1] (oS [fA 4 1 1,l1 5 4,m1 3 5] [1,3] qU)
@[push_cast]def Aj2:List R:=[.t 2]
@[push_cast]def ArL:=As aS.eq_1<|As qU.eq_1<|AL dH.eq_1
theorem AdA:Aw Tryz.prog 258 24 dH Aj2=true:=by kernel_rfl
def d5:IC:=sQ (oS [fA 4 1 1,l1 5 4,nS 6 5,bZ 7 .gtr 6 15,m1 8 7,EP 9 8 1 2,Ew 10 8 9,gF 11 8 (.lenS (.t 10)),Er 12 8 .gtr 11 6,pO 13 8 12] [1,13] (cD 13 (oR [mC 2 (.s []),mZ 3 2] [2,3]) .skip)) (oR [lA 14 1 3,q1 15 258 14,m1 2 15,mZ 3 0] [2,3])
def sF:IC:=oS [bX 1 0,mC 2 (.s []),mZ 3 0] [1] d5
@[push_cast]def AlO:List R:=[.t 2,.t 3]
@[push_cast]def AqI:=As d5.eq_1<|AL sF.eq_1
theorem Ag9:Aw Tryz.prog 201 16 sF AlO=true:=by kernel_rfl
def kB:IC:=sQ (oS [m1 4 0,o1 5 (.call 259 [.t 4,.c (.s [48])]),m1 3 5] [3] (oS [m1 6 3,bC 7 .neq 6 (.s [])] [3,7] (cD 7 (oR [m1 8 3,m1 2 8] [2]) .skip))) (oR [mC 2 (.s [48])] [2])
def oQ:IC:=oS [mC 2 (.s [])] [0] kB
@[push_cast]def Ak5:List R:=[.t 2]
@[push_cast]def Arh:=As kB.eq_1<|AL oQ.eq_1
theorem Adz:Aw Tryz.prog 203 9 oQ Ak5=true:=by kernel_rfl
def Vs:IC:=oS [m1 19 1,bZ 20 .lss 19 0,m1 21 20,BB 22 21 1,Er 23 21 .gtr 22 6,pO 24 21 23,m1 18 24] [1,6,18] (cD 18 (oR [mC 4 (.s []),mZ 5 2] [4,5]) .skip)
def UF:IC:=sQ (.ops [fA 30 6 2,l1 31 30,m1 32 1,fA 33 6 2,l1 34 33,nS 35 34,bT 36 .sub 32 35,o1 37 (.call 200 [.c (.s [48]),.t 36]),bT 38 .add 31 37,fA 39 6 2,sT 39 38 1] [6] [[0,1],[3,4],[4,5],[2,6],[5,6],[6,7],[1,8],[7,8],[1,10],[4,10],[8,10],[9,10]]) (oR [lA 40 6 3,q1 41 201 40,xT 42 41 0,xT 43 41 1,m1 4 42,m1 5 43] [4,5])
def U3:IC:=sQ (.ops [m1 59 8,m1 60 8,nS 61 60,m1 62 1,bT 63 .sub 61 62,o1 64 (.slS (.t 59) none (some (.t 63))),m1 65 8,m1 66 8,nS 67 66,m1 68 1,bT 69 .sub 67 68,o1 70 (.slS (.t 65) (some (.t 69)) none),fA 71 6 1,sT 71 64 1,fA 72 6 2,sT 72 70 1] [6] [[1,2],[2,4],[3,4],[0,5],[4,5],[7,8],[8,10],[9,10],[6,11],[10,11],[5,13],[12,13],[11,15],[13,15],[14,15]]) (oR [lA 73 6 3,q1 74 201 73,xT 75 74 0,xT 76 74 1,m1 4 75,m1 5 76] [4,5])
def W3:IC:=sQ (.ops [fA 44 6 1,l1 45 44,fA 46 6 2,l1 47 46,m1 48 1,o1 49 (.slS (.t 47) none (some (.t 48))),bT 50 .add 45 49,fA 51 6 2,l1 52 51,m1 53 1,o1 54 (.idx (.t 52) (.t 53)),bC 55 .geq 54 (.i .u8 53),m1 8 50,m1 9 55] [1,6,8,9] [[0,1],[2,3],[3,5],[4,5],[1,6],[5,6],[7,8],[8,10],[9,10],[10,11],[6,12],[11,13]]) (sQ (oS [m1 56 9] [1,6,8,56] (cD 56 (oP [m1 57 8,q1 58 202 57,m1 8 58] [1,6,8]) .skip)) U3)
def lH:IC:=sQ (.block 0 (oS [m1 16 7,nT 17 16,m1 15 17] [1,6,15] (cD 15 (oR [mC 4 (.s []),mZ 5 1] [4,5]) Vs))) (sQ (oS [m1 25 1,fA 26 6 2,l1 27 26,nS 28 27,bT 29 .geq 25 28] [1,6,29] (cD 29 UF .skip)) W3)
def oD:IC:=oS [mC 4 (.s []),mZ 5 0] [0,1] (oS [m1 11 0,q1 12 98 11,m1 10 12,xT 13 10 0,xT 14 10 1,o1 6 (.alloc (.agg [.b false,.s [],.s []])),sT 6 13 3,m1 7 14] [1,6,7] lH)
@[push_cast]def AmT:List R:=[.t 4,.t 5]
@[push_cast]def Arq:=As Vs.eq_1<|As UF.eq_1<|As U3.eq_1<|As W3.eq_1<|As lH.eq_1<|AL oD.eq_1
theorem Sp:Aw Tryz.prog 149 77 oD AmT=true:=by kernel_rfl
def VS:IC:=.ops [fA 27 6 1,l1 28 27,m1 29 8,m1 30 1,o1 31 (.slS (.t 29) none (some (.t 30))),bT 32 .add 28 31,q1 33 203 32,fA 34 6 2,l1 35 34,m1 36 1,fA 37 6 2,l1 38 37,nS 39 38,o1 40 (.mx true (.t 36) [.t 39]),o1 41 (.slS (.t 35) (some (.t 40)) none),fA 42 6 1,sT 42 33 1,fA 43 6 2,sT 43 41 1] [6] [[0,1],[2,4],[3,4],[1,5],[4,5],[5,6],[7,8],[10,11],[11,12],[9,13],[12,13],[8,14],[13,14],[1,16],[6,16],[8,16],[11,16],[15,16],[1,18],[8,18],[11,18],[14,18],[16,18],[17,18]]
def VJ:IC:=sQ (.ops [fA 22 6 2,l1 23 22,m1 24 1,o1 25 (.call 200 [.c (.s [48]),.t 24]),bT 26 .add 23 25,m1 8 26] [1,6,8] [[0,1],[2,3],[1,4],[3,4],[4,5]]) VS
def Us:IC:=.ops [m1 50 9,m1 51 9,nS 52 51,m1 53 1,bT 54 .add 52 53,o1 55 (.slS (.t 50) none (some (.t 54))),q1 56 203 55,m1 57 9,m1 58 9,nS 59 58,m1 60 1,bT 61 .add 59 60,o1 62 (.slS (.t 57) (some (.t 61)) none),fA 63 6 2,l1 64 63,bT 65 .add 62 64,fA 66 6 1,sT 66 56 1,fA 67 6 2,sT 67 65 1] [6] [[1,2],[2,4],[3,4],[0,5],[4,5],[5,6],[8,9],[9,11],[10,11],[7,12],[11,12],[13,14],[12,15],[14,15],[6,17],[14,17],[16,17],[14,19],[15,19],[17,19],[18,19]]
def W8:IC:=sQ (.ops [m1 44 1,o1 45 (.neg (.t 44)),o1 46 (.call 200 [.c (.s [48]),.t 45]),fA 47 6 1,l1 48 47,bT 49 .add 46 48,m1 9 49] [1,6,9] [[0,1],[1,2],[3,4],[2,5],[4,5],[5,6]]) Us
def WL:IC:=oS [m1 17 1,o1 18 (.mx true (.t 17) [ci 40]),o1 19 (.mx false (.t 18) [ci (-40)]),m1 1 19] [1,6] (sQ (oS [m1 20 1,bZ 21 .geq 20 0] [1,6,21] (cD 21 VJ W8)) (oR [lA 68 6 3,q1 69 201 68,xT 70 69 0,xT 71 69 1,m1 4 70,m1 5 71] [4,5]))
def ZB:IC:=oS [m1 11 0,q1 12 98 11,m1 10 12,xT 13 10 0,xT 14 10 1,o1 6 (.alloc (.agg [.b false,.s [],.s []])),sT 6 13 3,m1 7 14] [1,6,7] (sQ (oS [m1 15 7,nT 16 15] [1,6,16] (cD 16 (oR [mC 4 (.s []),mZ 5 1] [4,5]) .skip)) WL)
def d8:IC:=oS [mC 4 (.s []),mZ 5 0] [0,1] ZB
@[push_cast]def AmY:List R:=[.t 4,.t 5]
@[push_cast]def AqM:=As VS.eq_1<|As VJ.eq_1<|As Us.eq_1<|As W8.eq_1<|As WL.eq_1<|As ZB.eq_1<|AL d8.eq_1
theorem mK:Aw Tryz.prog 150 72 d8 AmY=true:=by kernel_rfl
end Go.Ir

namespace Go.Ir
open Go.Proofs
variable(W0:World)
theorem kN(ng:Bool)(w f:Aa):Am Tryz.prog W0 138 [.agg [.b ng,.s w,.s f]] [] (.b (Dv w&&Dv f)) []:=by
 refine Ai (vs:=[.b (Dv w&&Dv f)]) mY (by simp) (by simp) fun n0 hn0=>?_
 clear hn0
 simp only[push_cast,seval,reduceEqDiff]
 have _h:=trivial;repeat' (first|(first|((first|apply Ac|apply Ag|apply Af)<;>intro _h)|refine Ab (m9 W0 _) ?_)<;>(simp only[push_cast,seval,reduceEqDiff,_h];try (have _g:=_h;simp at _g))|intro _)
 all_goals (first|(refine Ah ?_;simp[get, *]<;>(intros;omega);done)|(refine Ae ?_;simp[push_cast,get, *];done)|skip)
theorem vY(ng:Bool)(w f:Aa)(hw:w.length<=2^30)(hf:f.length<=2^30):Am Tryz.prog W0 258 [.agg [.b ng,.s w,.s f]] [] (.s (Hf ng w f)) []:=by
 have hz:=kN W0 ng w f
 generalize hS:Hf ng w f=S
 unfold Hf at hS
 generalize(Dv w&&Dv f)=Z at *
 refine Ai (vs:=[.s S]) AdA (by simp) (by simp) fun n0 hn0=>?_
 clear hn0
 simp only[push_cast,seval,reduceEqDiff]
 cases ng<;>cases Z
 all_goals (cases hK1:(f==([]:Aa)))
 all_goals ((try simp only[hK1,bq,if_true,if_false,Int.reduceBEq,reduceCtorEq] at hS);subst hS)
 all_goals (try simp only[push_cast,seval,reduceEqDiff,hK1])
 all_goals (repeat' (first|((first|refine Ab (by exact hz) ?_|refine Aq (by simp only[Aik,AhU,Aiy,A9]<;>omega) ?_);(try simp only[push_cast,seval,reduceEqDiff,hK1]))|intro _))
 all_goals (first|(refine Ah ?_;simp[get];done)|(refine Ae ?_;simp[push_cast,get];done)|skip)
theorem JQ(ng:Bool)(w f:Aa)(hw:w.length<=2^30)(hf:f.length<=2^30):Am Tryz.prog W0 201 [.agg [.b ng,.s w,.s f]] [] (.tup [.s (Fk ng w f).1,.i .i64 (Fk ng w f).2]) []:=by
 have hz:=vY W0 ng w f hw hf
 generalize hS:Fk ng w f=S
 unfold Fk at hS
 generalize Hf ng w f=Z at *
 refine Ai (vs:=[.s S.1,.i .i64 S.2]) Ag9 (by simp) (by simp) fun n0 hn0=>?_
 clear hn0
 simp only[push_cast,seval,reduceEqDiff]
 all_goals (cases hK1:(decide ((w.length:Int)>15))<;>cases hK2:(decide ((f.length:Int)>6)))
 all_goals ((try simp only[hK1,hK2,bq,if_true,if_false,Int.reduceBEq,reduceCtorEq] at hS);subst hS)
 all_goals (try simp only[push_cast,seval,reduceEqDiff,hK1,hK2])
 all_goals (repeat' (first|((first|refine Ab (by exact hz) ?_|refine Aq (by omega) ?_);(try simp only[push_cast,seval,reduceEqDiff,hK1,hK2]))|intro _))
 all_goals (first|(refine Ah ?_;simp[get];done)|(refine Ae ?_;simp[push_cast,get];done)|skip)
theorem XV(w:Aa):Am Tryz.prog W0 203 [.s w] [] (.s (DP w)) []:=by
 have hz:=Oo W0 w [48] (by decide) (by decide)
 generalize hS:DP w=S
 unfold DP at hS
 generalize Lib.trimLeftS w [48]=Z at *
 refine Ai (vs:=[.s S]) Adz (by simp) (by simp) fun n0 hn0=>?_
 clear hn0
 simp only[push_cast,seval,reduceEqDiff]
 all_goals (cases hK1:(Z==([]:Aa)))
 all_goals ((try simp only[hK1,bq,if_true,if_false,Int.reduceBEq,reduceCtorEq] at hS);subst hS)
 all_goals (try simp only[push_cast,seval,reduceEqDiff,hK1])
 all_goals (repeat' (first|((first|refine Ab (by exact hz) ?_|refine Aq (by omega) ?_);(try simp only[push_cast,seval,reduceEqDiff,hK1]))|intro _))
 all_goals (first|(refine Ah ?_;simp[get];done)|(refine Ae ?_;simp[push_cast,get];done)|skip)
theorem XP:Am Tryz.prog W0 200 [.s [48],.i .i64 0] [] (.s []) []:=Ns W0 [48] 0 (by decide) (by decide) (by decide)
theorem YY:Am Tryz.prog W0 200 [.s [48],.i .i64 2] [] (.s [48,48]) []:=Ns W0 [48] 2 (by decide) (by decide) (by decide)
theorem ID{s:Aa}(h:DD s=true):(AK s).length<=15/\(Bj s).length<=6:=⟨(FX h).2.2.1,(FX h).2.2.2⟩
theorem Th(w:Aa):(DP w).length<=w.length+1:=by
 unfold DP
 have:=EO w [48]
 split<;>simp<;>omega
theorem wE(s:Aa)(hs:s.length<=2^30):Am Tryz.prog W0 150 [.s s,.i .i64 2] [] (.tup [.s (CS s).1,.i .i64 (CS s).2]) []:=by
 have hsp:=KT W0 s (by omega)
 have hr:=YY W0
 generalize hS:CS s=S
 unfold CS at hS
 unfold JX at hsp
 cases hn:DD s with
 | false=>
  rw[hn] at hsp hS
  refine Ai (vs:=[.s S.1,.i .i64 S.2]) mK (by simp) (by simp) fun n0 hn0=>?_
  clear hn0
  simp only[push_cast,seval,reduceEqDiff]
  all_goals ((try simp only[bq,if_true,if_false,Int.reduceBEq,reduceCtorEq] at hS);subst hS)
  all_goals (try simp only[push_cast,seval,reduceEqDiff])
  all_goals (repeat' (first|((first|refine Ab (by exact hsp) ?_|refine Aq (by omega) ?_);(try simp only[push_cast,seval,reduceEqDiff]))|intro _))
  all_goals (first|(refine Ah ?_;simp[get];done)|(refine Ae ?_;simp[push_cast,get];done)|skip)
 | true=>
  rw[hn] at hsp hS
  obtain⟨p1,p2⟩:=ID hn
  have hlt:((Bj s++[48,48]).take 2).length=2:=by simp
  have htl:=Th (AK s++(Bj s++[48,48]).take 2)
  rw[Aik,hlt] at htl
  have ht:=XV W0 (AK s++(Bj s++[48,48]).take 2)
  have hp:=JQ W0 (IQ s) (DP (AK s++(Bj s++[48,48]).take 2)) ((Bj s).drop (min 2 (Bj s).length)) (by omega) (by simp;omega)
  generalize IQ s=NG at *
  generalize AK s=W at *
  generalize Bj s=F at *
  generalize DP (W++(F++[48,48]).take 2)=TB at *
  have e40:max (min (2:Int) 40) (-40)=2:=rfl
  have e41:decide ((2:Int)>=0)=true:=rfl
  have e42:(2<=(F++[48,48]).length)=True:=eq_true (by simp)
  have e43:min (2:Int) (F.length:Int)=((min 2 F.length:Nat):Int):=by omega
  have e44:((min 2 F.length:Nat)<=F.length)=True:=eq_true (by omega)
  have e45:(W.length+(List.take 2 (F++[48,48])).length<=A9)=True:=eq_true (by unfold A9;omega)
  refine Ai (vs:=[.s S.1,.i .i64 S.2]) mK (by simp) (by simp) fun n0 hn0=>?_
  clear hn0
  simp only[push_cast,seval,reduceEqDiff,e40,e41,e42,e43,e44,e45,AbG,Aip]
  all_goals ((try simp only[bq,if_true,if_false,Int.reduceBEq,reduceCtorEq] at hS);subst hS)
  all_goals (try simp only[push_cast,seval,reduceEqDiff,e40,e41,e42,e43,e44,e45,AbG,Aip])
  all_goals (repeat' (first|((first|refine Ab (by exact hsp) ?_|refine Ab (by exact hr) ?_|refine Ab (by exact ht) ?_|refine Ab (by exact hp) ?_|refine Aq (by simp only[Aik,AhU,Aiy,A9]<;>omega) ?_);(try simp only[push_cast,seval,reduceEqDiff,e40,e41,e42,e43,e44,e45,AbG,Aip]))|intro _))
  all_goals (first|(refine Ah ?_;simp[get];done)|(refine Ae ?_;simp[push_cast,get];done)|skip)
theorem r8(l:List UInt8):(K8 l).length<=l.length+1:=by
 induction l with
 | nil=>simp[K8]
 | cons c l ih=>
  rw[K8]
  grind
theorem wG(s:Aa):(HC s).length<=s.length+1:=by
 have:=r8 s.reverse
 simpa[HC] using this
theorem yS(s:Aa)(hs:s.length<=2^30):Am Tryz.prog W0 149 [.s s,.i .i64 0] [] (.tup [.s (CU s).1,.i .i64 (CU s).2]) []:=by
 have hsp:=KT W0 s (by omega)
 have hr:=XP W0
 generalize hS:CU s=S
 unfold CU at hS
 unfold JX at hsp
 have g1:decide ((0:Int)<0)=false:=rfl
 have g2:decide ((0:Int)>6)=false:=rfl
 cases hn:DD s with
 | false=>
  rw[hn] at hsp hS
  refine Ai (vs:=[.s S.1,.i .i64 S.2]) Sp (by simp) (by simp) fun n0 hn0=>?_
  clear hn0
  simp only[push_cast,seval,reduceEqDiff,g1,g2]
  all_goals ((try simp only[bq,if_true,if_false,Int.reduceBEq,reduceCtorEq] at hS);subst hS)
  all_goals (try simp only[push_cast,seval,reduceEqDiff,g1,g2])
  all_goals (repeat' (first|((first|refine Ab (by exact hsp) ?_|refine Aq (by omega) ?_);(try simp only[push_cast,seval,reduceEqDiff,g1,g2]))|intro _))
  all_goals (first|(refine Ah ?_;simp[get];done)|(refine Ae ?_;simp[push_cast,get];done)|skip)
 | true=>
  rw[hn] at hsp hS
  obtain⟨p1,p2⟩:=ID hn
  have hil:=wG (AK s)
  have hin:=Ahp W0 (AK s) (by omega)
  have q0:=JQ W0 (IQ s) (AK s) [] (by omega) (by simp)
  have q1:=JQ W0 (IQ s) (HC (AK s)) [] (by omega) (by simp)
  generalize IQ s=NG at *
  generalize HC (AK s)=IW at *
  generalize AK s=W at *
  cases hF:Bj s with
  | nil=>
   rw[hF] at hsp hS
   have g3:decide ((0:Int)>=(([]:List UInt8).length:Int))=true:=rfl
   have g4:([]:List UInt8)++[]=[]:=rfl
   have g5:(([]:List UInt8)==[])=true:=rfl
   simp only[if_true,g5] at hS
   refine Ai (vs:=[.s S.1,.i .i64 S.2]) Sp (by simp) (by simp) fun n0 hn0=>?_
   clear hn0
   simp only[push_cast,seval,reduceEqDiff,g1,g2,g3,g4]
   all_goals ((try simp only[bq,if_true,if_false,Int.reduceBEq,reduceCtorEq] at hS);subst hS)
   all_goals (try simp only[push_cast,seval,reduceEqDiff,g1,g2,g3,g4])
   all_goals (repeat' (first|((first|refine Ab (by exact hsp) ?_|refine Ab (by exact hr) ?_|refine Ab (by exact q0) ?_|refine Aq (by omega) ?_);(try simp only[push_cast,seval,reduceEqDiff,g1,g2,g3,g4]))|intro _))
   all_goals (first|(refine Ah ?_;simp[get];done)|(refine Ae ?_;simp[push_cast,get];done)|skip)
  | cons c F=>
   rw[hF] at hsp hS
   obtain⟨G,hG⟩:∃G,G=c::F:=⟨_,rfl⟩
   rw[<-hG] at hsp hS
   have g3:decide ((0:Int)>=(G.length:Int))=false:=by grind
   have g5:(G==([]:List UInt8))=false:=by rw[hG];rfl
   have g6:(0<=G.length)=True:=eq_true (Ajt _)
   have g7:W++List.take 0 G=W:=by simp
   have g9:G[0]?=some c:=by rw[hG];rfl
   have gb:(W.length+(List.take 0 G).length<=A9)=True:=eq_true (by simp;unfold A9;omega)
   have h5:Abe G=decide ((c.toNat:Int)>=53):=by rw[hG];rfl
   simp only[if_true,if_false,AcL,g5,h5] at hS
   clear hG
   have gW:IntKind.i64.wrap ((W.length:Int)-0)=(W.length:Int):=by rw[wrap64 (by omega) (by omega)];omega
   have gI:IntKind.i64.wrap ((IW.length:Int)-0)=(IW.length:Int):=by rw[wrap64 (by omega) (by omega)];omega
   refine Ai (vs:=[.s S.1,.i .i64 S.2]) Sp (by simp) (by simp) fun n0 hn0=>?_
   clear hn0
   simp only[push_cast,seval,reduceEqDiff,g1,g2,g3,g6,g7,g9,gb,gW,gI,Ajt,AbG,Aip,List.drop_length]
   all_goals (cases hK1:(decide ((c.toNat:Int)>=53)))
   all_goals ((try simp only[hK1,bq,if_true,if_false,Int.reduceBEq,reduceCtorEq] at hS);subst hS)
   all_goals (try simp only[push_cast,seval,reduceEqDiff,hK1,g1,g2,g3,g6,g7,g9,gb,gW,gI,Ajt,AbG,Aip,List.drop_length])
   all_goals (repeat' (first|((first|refine Ab (by exact hsp) ?_|refine Ab (by exact hr) ?_|refine Ab (by exact q0) ?_|refine Ab (by exact q1) ?_|refine Ab (by exact hin) ?_|refine Aq (by simp only[Aik,AhU,Aiy,A9]<;>omega) ?_);(try simp only[push_cast,seval,reduceEqDiff,hK1,g1,g2,g3,g6,g7,g9,gb,gW,gI,Ajt,AbG,Aip,List.drop_length]))|intro _))
   all_goals (first|(refine Ah ?_;simp[get];done)|(refine Ae ?_;simp[push_cast,get];done)|skip)
theorem Jk(sep:Aa)(n m:Nat)(hs:sep.length<=m):∀(ls:List Aa),(∀l∈ls,l.length<=n)->(Lib.join ls sep).length<=ls.length*(n+m)
 | [],_=>by simp[Lib.join,List.intercalate]
 | [a],h=>by
  have:=h a (by simp)
  simp[Lib.join,List.intercalate];omega
 | a::b::r,h=>by
  have h1:=h a (by simp)
  have h2:=Jk sep n m hs (b::r) fun l hl=>h l (Abt _ hl)
  have h3:Lib.join (a::b::r) sep=a++sep++Lib.join (b::r) sep:=by simp[Lib.join,List.intercalate,List.intersperse]
  rw[h3,Aik,Aik,AhU,Aul]
  omega
theorem K1(sc:Nat)(h:1<=sc):∀(n m:Nat) (r:Aa),r.length<=n->r.length<=m->Bk sc n r=Bk sc m r:=by
 intro n
 induction n with
 | zero=>
  intro m r h1 h2
  have:r=[]:=by simpa using h1
  subst this
  cases m<;>simp[Bk]
 | succ n ih=>
  intro m r h1 h2
  cases m with
  | zero=>
   grind
  | succ m=>
   rw[Bk,Bk]
   grind
theorem Ty(u:V)(sc a m0:Nat)(sv:Int)(hsv:sv=(sc:Int))(h1:1<=sc)(h2:sc<9223372036854775808)(g0:List Aa)(gid0:Id)(r0:Aa)(hr0:r0.length<=64)(hg0:g0.length+r0.length<=100)(hi0:a<gid0.1)(hi1:gid0.1<m0)(Q:Exit->St->Prop)
  (hQ:∀gid n,a<gid.1->gid.1<n->Q (.exit 0) ⟨[(2,.ref (a,2) 0),(5,.i .i64 sv),(7,.arr gid),(8,.s []),(39,.b false)],[(gid,.arr 9 1 ((g0++Bk sc r0.length r0).map V.s)),((a,2),.box u)],n⟩) :
  Kg Tryz.prog W0 60 OU Q ⟨[(2,.ref (a,2) 0),(5,.i .i64 sv),(7,.arr gid0),(8,.s r0)],[(gid0,.arr 9 1 (g0.map V.s)),((a,2),.box u)],m0⟩:=by
 subst hsv
 generalize hS:g0++Bk sc r0.length r0=S at hQ
 refine An r0.length (Inv:=fun m st=>∃r n gid g,m=r.length/\g++Bk sc r.length r=S/\r.length<=64/\g.length+r.length<=100/\a<gid.1/\gid.1<n/\st=⟨[(2,.ref (a,2) 0),(5,.i .i64 sc),(7,.arr gid),(8,.s r)],[(gid,.arr 9 1 (g.map V.s)),((a,2),.box u)],n⟩) ⟨_,Al.refl,r0,_,gid0,g0,rfl,hS,hr0,hg0,hi0,hi1,rfl⟩ ?_
 clear hS hr0 hg0 hi0 hi1
 rintro m _ ⟨r,n,gid,g,rfl,hd,hr,hg,hi0,hi1,rfl⟩
 cases r with
 | nil=>
  simp only[Bk,Aiy,Aou] at hd
  subst hd
  simp only[push_cast,seval,reduceEqDiff]
  grind
 | cons c r=>
  obtain⟨R,hR⟩:∃R,R=c::r:=⟨_,rfl⟩
  rw[<-hR] at hd hr hg⊢
  have hl:1<=R.length:=by rw[hR];simp
  have hb:(R==([]:Aa))=false:=by rw[hR];rfl
  clear hR
  obtain⟨q,hq⟩:∃q,R.length=q+1:=⟨R.length-1,by omega⟩
  rw[hq,Bk,if_neg (by rw[hb];simp)] at hd
  rw[K1 sc h1 q (R.take (R.length-sc)).length (R.take (R.length-sc)) (by simp;omega) (by simp)] at hd
  have w1:max (0:Int) (IntKind.i64.wrap ((R.length:Int)-(sc:Int)))=((R.length-sc:Nat):Int):=by rw[wrap64 (by omega) (by omega)];omega
  have w2:(R.length-sc<=R.length)=True:=eq_true (by omega)
  have w3:((g.length:Nat)+1<=AM)=True:=eq_true (by unfold AM;omega)
  have d1:∀j:Nat,((a,j)=gid)=False:=fun j=>eq_false fun he=>(by grind)
  have d1':∀j:Nat,(gid=(a,j))=False:=fun j=>eq_false fun he=>of_eq_false (d1 j) he.symm
  simp only[push_cast,seval,reduceEqDiff,d1,d1',hb,w1,w2,w3,Ajt,AbG,Aip,Ae5]
  repeat' (first|(((first|apply Ac|apply Ag|apply Af)<;>intro _h)<;>simp only[push_cast,seval,reduceEqDiff,_h,d1,d1',hb,w1,w2,w3,Ajt,AbG,Aip,Ae5])|(refine Aq (by omega) ?_;simp only[push_cast,seval,reduceEqDiff,d1,d1',hb,w1,w2,w3,Ajt,AbG,Aip,Ae5])|intro _)
  refine⟨_,_,?_,Al.refl,R.take (R.length-sc),_,_,g++[R.drop (R.length-sc)],rfl,by rw[<-hd];simp,by simp;omega,by simp;omega,?_,?_,by rw[Aub];rfl⟩
  ·simp;omega
  ·simp only;omega
  ·simp only;omega
theorem tY(dec grp minus perc:Aa)(prim sec:Int)(d:Aa)(hd:d.length<=64)(hg:grp.length<=2^22)(hp:-9223372036854775808<=prim)(hs:sec<9223372036854775808) :
  Am Tryz.prog W0 204 [.agg [.s dec,.s grp,.s minus,.s perc,.i .i64 prim,.i .i64 sec],.s d] [] (.s (Iy prim sec grp d)) []:=by
 generalize hS:Iy prim sec grp d=S
 unfold Iy at hS
 cases h1:decide (prim<1) with
 | true=>
  simp only[h1,bq,if_true,if_false,Int.reduceBEq,reduceCtorEq] at hS
  subst hS
  refine Ai (vs:=[.s d]) RT (by simp) (by simp) fun n0 hn0=>?_
  clear hn0
  simp only[push_cast,seval,reduceEqDiff,h1]
  repeat' (first|(((first|apply Ac|apply Ag|apply Af)<;>intro _h)<;>simp only[push_cast,seval,reduceEqDiff,_h,h1])|(refine Aq (by omega) ?_;simp only[push_cast,seval,reduceEqDiff,h1])|intro _)
  all_goals exact Ah (by simp[get])
 | false=>
 cases h2:decide ((d.length:Int)<=prim) with
 | true=>
  simp only[h1,h2,bq,if_true,if_false,Int.reduceBEq,reduceCtorEq] at hS
  subst hS
  refine Ai (vs:=[.s d]) RT (by simp) (by simp) fun n0 hn0=>?_
  clear hn0
  simp only[push_cast,seval,reduceEqDiff,h1,h2]
  repeat' (first|(((first|apply Ac|apply Ag|apply Af)<;>intro _h)<;>simp only[push_cast,seval,reduceEqDiff,_h,h1,h2])|(refine Aq (by omega) ?_;simp only[push_cast,seval,reduceEqDiff,h1,h2])|intro _)
  all_goals exact Ah (by simp[get])
 | false=>
  simp only[h1,h2,bq,if_true,if_false,Int.reduceBEq,reduceCtorEq] at hS
  have k1:¬prim<1:=of_decide_eq_false h1
  have k2:¬(d.length:Int)<=prim:=of_decide_eq_false h2
  obtain⟨p,rfl⟩:∃p:Nat,prim=p:=⟨prim.toNat,by omega⟩
  have w1:IntKind.i64.wrap ((d.length:Int)-(p:Int))=((d.length-p:Nat):Int):=by rw[wrap64 (by omega) (by omega)];omega
  have w2:(d.length-p<=d.length)=True:=eq_true (by omega)
  obtain⟨sc,hsc⟩:∃sc:Nat,sc=(if sec<1 then(p:Int) else sec).toNat:=⟨_,rfl⟩
  rw[<-hsc] at hS
  have hsc1:1<=sc:=by rw[hsc];split<;>omega
  have hsc2:sc<9223372036854775808:=by rw[hsc];split<;>omega
  have hrl:(d.take (d.length-p)).length=d.length-p:=by simp
  have hne:([d.drop (d.length-p)]++Bk sc (d.take (d.length-p)).length (d.take (d.length-p)))≠[]:=by simp
  have hcl:∀(n:Nat) (r:Aa),(Bk sc n r).length<=n/\∀l∈Bk sc n r,l.length<=r.length:=by
   intro n
   induction n with
   | zero=>intro r;simp[Bk]
   | succ n ih=>
    intro r
    rw[Bk]
    grind
  obtain⟨c1,c2⟩:=hcl (d.take (d.length-p)).length (d.take (d.length-p))
  have hS':S=Lib.join ([d.drop (d.length-p)]++Bk sc (d.take (d.length-p)).length (d.take (d.length-p))).reverse grp:=by
   rw[<-hS,K1 sc hsc1 (d.take (d.length-p)).length d.length _ (by simp) (by simp)]
   rfl
  clear hS
  have hGl:([d.drop (d.length-p)]++Bk sc (d.take (d.length-p)).length (d.take (d.length-p))).length<=65:=by grind
  have hGm:∀l∈[d.drop (d.length-p)]++Bk sc (d.take (d.length-p)).length (d.take (d.length-p)),l.length<=64:=by
   grind
  refine Ai (vs:=[.s S]) RT (by simp) (by simp) fun n0 hn0=>?_
  clear hn0
  simp only[push_cast,seval,reduceEqDiff,h1,h2,w1,w2,Ajt,AbG,Aip]
  have hsv:(if decide (sec<1) then(p:Int) else sec)=(sc:Int):=by
   grind
  cases h3:decide (sec<1)
  all_goals simp only[h3,if_true,if_false,AcL] at hsv
  all_goals simp only[push_cast,seval,reduceEqDiff,h3,h1,h2,w1,w2,Ajt,AbG,Aip]
  all_goals repeat' (first|(((first|apply Ac|apply Ag|apply Af)<;>intro _h)<;>simp only[push_cast,seval,reduceEqDiff,_h,h1,h2,w1,w2,Ajt,AbG,Aip,h3])|(refine Aq (by omega) ?_;simp only[push_cast,seval,reduceEqDiff,h1,h2,w1,w2,Ajt,AbG,Aip,h3])|intro _)
  all_goals refine Ty W0 _ sc _ _ _ hsv hsc1 hsc2 [d.drop (d.length-p)] _ _ (by simp;omega) (by simp;omega) (by simp only;omega) (by simp only;omega) _ (fun gid n i1 i2=>?_)
  all_goals generalize[d.drop (d.length-p)]++Bk sc (d.take (d.length-p)).length (d.take (d.length-p))=G at *
  all_goals have hjl:=Jk grp 64 (2^22) hg G.reverse (fun l hl=>hGm l (by simpa using hl))
  all_goals rw[<-hS'] at hjl
  all_goals have hj:=lS W0 G.reverse grp (by grind)
  all_goals rw[<-hS'] at hj
  all_goals have hrv:=XX W0 G gid hne (by omega)
  all_goals have d1:∀j,((n0,j)=gid)=False:=fun j=>eq_false fun he=>by grind
  all_goals have d1':∀j,(gid=(n0,j))=False:=fun j=>eq_false fun he=>of_eq_false (d1 j) he.symm
  all_goals simp only[push_cast,seval,reduceEqDiff,d1,d1']
  all_goals refine Mk hrv (by grind) ?_
  all_goals simp only[push_cast,seval,reduceEqDiff,d1,d1']
  all_goals intro k
  all_goals refine LW (Al.frzAt (s:=7) (id:=gid) rfl (by simp only[lk,d1,if_false]) (fun y hy=>by obtain⟨z,_,rfl⟩:=Apq.1 hy;rfl) (AbG _)) ?_
  all_goals simp only[push_cast,seval,reduceEqDiff,d1,d1']
  all_goals repeat' (first|(((first|apply Ac|apply Ag|apply Af)<;>intro _h)<;>simp only[push_cast,seval,reduceEqDiff,_h,h1,h2,w1,w2,Ajt,AbG,Aip])|((first|refine Ab (by exact hj) ?_|refine Aq (by omega) ?_);simp only[push_cast,seval,reduceEqDiff,h1,h2,w1,w2,Ajt,AbG,Aip])|intro _)
  all_goals exact Ah (by simp[get])
structure Kv (L:BV):Prop where
 dec:L.dec.length<=2^16
 grp:L.grp.length<=2^16
 minus:L.minus.length<=2^16
 perc:L.perc.length<=2^16
 prim:-9223372036854775808<=L.prim
 sec:L.sec<9223372036854775808
theorem Np(L:BV)(hL:Kv L)(d:Aa)(hd:d.length<=64):(Iy L.prim L.sec L.grp d).length<=2^23:=by
 unfold Iy
 split
 ·omega
 ·have hcl:∀(sc n:Nat) (r:Aa),(Bk sc n r).length<=n/\∀l∈Bk sc n r,l.length<=r.length:=by
   intro sc n
   induction n with
   | zero=>intro r;simp[Bk]
   | succ n ih=>
    intro r
    rw[Bk]
    grind
  obtain⟨c1,c2⟩:=hcl (if L.sec<1 then L.prim else L.sec).toNat d.length (d.take (d.length-L.prim.toNat))
  refine Aiw (Jk L.grp 64 (2^16) hL.grp _ fun l hl=>?_) ?_
  ·grind
  grind
theorem DC(L:BV)(hL:Kv L)(n:Aa)(hn:n.length<=64):(E6 L n).length<=2^23+2^18:=by
 have h1:=JH n
 have h2:=RB n
 have h3:=Np L hL (AK n) (by omega)
 have h4:=hL.dec
 have h5:=hL.minus
 unfold E6
 grind
theorem LR(L:BV)(hL:Kv L)(n:Aa)(hn:n.length<=64):Am Tryz.prog W0 151 [.agg [.s L.dec,.s L.grp,.s L.minus,.s L.perc,.i .i64 L.prim,.i .i64 L.sec],.s n] [] (.s (E6 L n)) []:=by
 have h1:=JH n
 have h2:=RB n
 have h3:=Np L hL (AK n) (by omega)
 have h4:=hL.dec
 have h5:=hL.minus
 have hc:=DU W0 n [45]
 rw[DK,ED] at hc
 have hk:=SY W0 n (by omega)
 have hg:=tY W0 L.dec L.grp L.minus L.perc L.prim L.sec (AK n) (by omega) (by have:=hL.grp;omega) hL.prim hL.sec
 generalize hS:E6 L n=S
 unfold E6 at hS
 generalize Iy L.prim L.sec L.grp (AK n)=G at *
 generalize AK n=W at *
 generalize Bj n=F at *
 generalize Ha n=R at *
 generalize L.dec=D at *
 generalize L.minus=M at *
 refine Ai (vs:=[.s S]) AeD (by simp) (by simp) fun n0 hn0=>?_
 clear hn0
 simp only[push_cast,seval,reduceEqDiff]
 cases hN:IQ n<;>cases hR:(Og n).isEmpty
 all_goals simp only[hN,hR,bq,if_true,if_false,Int.reduceBEq,reduceCtorEq,AsH,AsL] at hS hc hk
 all_goals subst hS
 all_goals repeat' (first|(((first|apply Ac|apply Ag|apply Af)<;>intro _h)<;>simp only[push_cast,seval,reduceEqDiff,_h])|((first|refine Ab (by exact hc) ?_|refine Ab (by exact hk) ?_|refine Ab (by exact hg) ?_|refine Aq (by simp only[Aik,AhU,Aiy,A9]<;>omega) ?_);simp only[push_cast,seval,reduceEqDiff])|intro _)
 all_goals exact Ah (by simp[get])
theorem Ml(ng:Bool)(w f:Aa):(Fk ng w f).1.length<=64:=by
 unfold Fk
 split
 ·simp
 ·rename_i h
  simp only[Atl,decide_eq_true_eq,not_or] at h
  unfold Hf
  split<;>split<;>simp only[AhU,Aik]<;>omega
theorem Kb(s:Aa):(CU s).1.length<=64:=by
 unfold CU
 split
 ·exact Ml _ _ _
 ·simp
theorem Ka(s:Aa):(CS s).1.length<=64:=by
 unfold CS
 split
 ·exact Ml _ _ _
 ·simp
theorem Od{n:Aa}(h:DD n=true):n.length<=64:=by
 obtain⟨_,_,h1,h2⟩:=FX h
 have h3:n.length<=(Ha n).length+1:=by
  unfold Ha
  grind
 rw[Jf,Aik] at h3
 have h4:(Og n).length<=(Bj n).length+1:=by unfold Bj;grind
 omega
theorem Lr(L:BV)(hL:Kv L)(n st:Aa)(hn:n.length<=2^30):Am Tryz.prog W0 105 [L.enc,.s n,.s st] [] (.tup [.s (C4 L n st).1,.i .i64 (C4 L n st).2]) []:=by
 have hv:=GM W0 n (by omega)
 have hr:=yS W0 n (by omega)
 have hs:=wE W0 n (by omega)
 have l1:=DC L hL (CU n).1 (Kb n)
 have l2:=DC L hL (CS n).1 (Ka n)
 have t1:=LR W0 L hL (CU n).1 (Kb n)
 have t2:=LR W0 L hL (CS n).1 (Ka n)
 have hpc:=hL.perc
 generalize hS:C4 L n st=S
 unfold C4 LX Mr at hS
 rw[BV.enc_eq]
 generalize E6 L (CU n).1=N1 at *
 generalize E6 L (CS n).1=N2 at *
 generalize(CU n).1=r1 at *
 generalize(CU n).2=r2 at *
 generalize(CS n).1=s1 at *
 generalize(CS n).2=s2 at *
 refine Ai (vs:=[.s S.1,.i .i64 S.2]) Ahy (by simp) (by simp) fun n0 hn0=>?_
 clear hn0
 simp only[push_cast,seval,reduceEqDiff]
 cases hB:DD n with
 | false=>
  rw[hB] at hv hS
  simp only[bq,if_true,if_false,Int.reduceBEq,reduceCtorEq] at hS
  subst hS
  have _h:=trivial;repeat' (first|(first|((first|apply Ac|apply Ag|apply Af)<;>intro _h)|refine Ab hv ?_|refine Aq (by omega) ?_)<;>simp only[push_cast,seval,reduceEqDiff,_h]|intro _)
  refine Ae ?_
  simp[push_cast,get]
 | true=>
  have t0:=LR W0 L hL n (Od hB)
  have l0:=DC L hL n (Od hB)
  generalize E6 L n=N0 at *
  rw[hB] at hv hS
  cases h1:(st==([]:Aa))<;>cases h2:(st==([105,110,116,101,103,101,114]:Aa))<;>cases h3:(st==([112,101,114,99,101,110,116]:Aa))<;>cases h4:(L.dec==([]:Aa))<;>cases h5:(r2==0)<;>cases h6:(s2==0)
  all_goals (try simp only[h1,h2,h3,h4,h5,h6,bq,if_true,if_false,Int.reduceBEq,reduceCtorEq,AsH,AsL,AqV,Ara,AsZ,At0,bne] at hS;subst hS)
  all_goals repeat' (first|(((first|apply Ac|apply Ag|apply Af)<;>intro _h)<;>simp only[push_cast,seval,reduceEqDiff,_h,h1,h2,h3,h4,h5,h6,bne])|((first|refine Ab (by exact hv) ?_|refine Ab (by exact hr) ?_|refine Ab (by exact hs) ?_|refine Ab (by exact t0) ?_|refine Ab (by exact t1) ?_|refine Ab (by exact t2) ?_|refine Aq (by simp only[Aik,AhU,Aiy,A9]<;>omega) ?_);simp only[push_cast,seval,reduceEqDiff,h1,h2,h3,h4,h5,h6,bne])|intro _)
  all_goals (refine Ae ?_;simp[push_cast,get])
end Go.Ir

namespace Go.Ir
open Go.Proofs
variable{P:Program}{W0:World}{nt n:Nat}{Q:Exit→St→Prop}{env:AD}{σ:Ak}
def oK:IC:=oR [o1 3 (.msl false 9 1 [.c (.s [121]),.c (.s [77]),.c (.s [77,77]),.c (.s [77,77,77]),.c (.s [69]),.c (.s [100]),.c (.s [100,100])]),m1 4 0,q2 5 241 3 4,m1 2 5] [2]
def fL:IC:=oS [mC 2 (.b false)] [0] oK
@[push_cast]def Alc:List R:=[.t 2]
@[push_cast]def ArA:=As oK.eq_1<|AL fL.eq_1
theorem Adi:Aw Tryz.prog 330 6 fL Alc=true:=by kernel_rfl
def VK:IC:=sQ (oS [m1 29 9,q1 30 330 29,nT 31 30] [4,8,9,11,12,13,31] (cD 31 (oR [mC 2 .nil,mZ 3 3] [2,3]) .skip)) (oP [m1 32 4,m1 33 9,o1 34 (.msl false 9 1 [.t 33]),o1 35 (.app (.t 32) (.t 34) 9 1),m1 36 8,m1 4 35,m1 5 36] [4,5,11,12,13])
def Xl:IC:=oS [m1 20 5,m1 21 5,nS 22 21,m1 23 8,nS 24 23,bT 25 .sub 22 24,o1 26 (.slS (.t 20) none (some (.t 25))),m1 9 26] [4,5,8,9,11,12,13] (sQ (oS [m1 27 9,bC 28 .eql 27 (.s [])] [4,5,8,9,11,12,13,28] (cD 28 (.exit 1) .skip)) VK)
def W1:IC:=sQ (.block 1 (oS [iA 15 11 13 9 1,l1 16 15,m1 7 16] [4,5,7,11,12,13] (oS [m1 17 5,m1 18 7,q2 19 259 17 18,m1 8 19] [4,5,8,11,12,13] Xl))) (oP [bZ 37 .add 13 1,m1 13 37] [4,5,11,12,13])
def Vh:IC:=sQ (oS [m1 38 5,bC 39 .neq 38 (.s []),m1 40 39,BB 41 40 4,gF 42 40 (.lenL (.t 41)),Er 43 40 .eql 42 0,pO 44 40 43] [4,44] (cD 44 (oR [mC 2 .nil,mZ 3 3] [2,3]) .skip)) (sQ (.wk (oP [m1 45 4,m1 2 45,mZ 3 0] [2,3])) .ret)
def iG:IC:=sQ (oS [o1 11 (.msl false 9 1 [.c (.s [121]),.c (.s [77]),.c (.s [69]),.c (.s [100])]),nL 12 11,mZ 13 0] [4,5,11,12,13] (.block 0 (.loop (oS [bT 14 .lss 13 12] [4,5,11,12,13,14] (sQ (cD 14 .skip (.exit 0)) W1))))) Vh
def eQ:IC:=oS [mC 2 .nil,mZ 3 0] [0] (oS [mC 4 .nil] [0,4] (oS [m1 10 0,m1 5 10] [4,5] iG))
@[push_cast]def Ai2:List R:=[.t 2,.t 3]
@[push_cast]def Aq8:=As VK.eq_1<|As Xl.eq_1<|As W1.eq_1<|As Vh.eq_1<|As iG.eq_1<|AL eQ.eq_1
theorem Agy:Aw Tryz.prog 311 46 eQ Ai2=true:=by kernel_rfl
def Wd:IC:=sQ (oS [m1 20 6,q1 21 330 20,nT 22 21] [4,5,6,22] (cD 22 (oR [mC 2 .nil,mC 3 (.b false)] [2,3]) .skip)) (oS [m1 23 4,m1 24 6,o1 25 (.msl false 9 1 [.t 24]),o1 26 (.app (.t 23) (.t 25) 9 1),m1 27 5,m1 4 26,m1 0 27] [0,4] (.exit 1))
def V0:IC:=sQ (oS [m1 11 0,m1 12 0,nS 13 12,m1 14 5,nS 15 14,bT 16 .sub 13 15,o1 17 (.slS (.t 11) none (some (.t 16))),m1 6 17] [0,4,5,6] (oS [m1 18 6,bC 19 .neq 18 (.s [])] [0,4,5,6,19] (cD 19 Wd .skip))) (oP [m1 28 0,o1 29 (.slS (.t 28) (some (ci 1)) none),m1 0 29] [0,4])
def VQ:IC:=.block 1 (oS [m1 9 0,o1 10 (.call 259 [.t 9,.c (.s [65,66,67,68,69,70,71,72,73,74,75,76,77,78,79,80,81,82,83,84,85,86,87,88,89,90,97,98,99,100,101,102,103,104,105,106,107,108,109,110,111,112,113,114,115,116,117,118,119,120,121,122])]),m1 5 10] [0,4,5] V0)
def pN:IC:=oS [mC 4 .nil] [0,4] (sQ (.block 0 (.loop (sQ (oS [m1 7 0,bC 8 .neq 7 (.s [])] [0,4,8] (cD 8 .skip (.exit 0))) VQ))) (sQ (.wk (oP [m1 30 4,m1 2 30,mC 3 (.b true)] [2,3])) .ret))
def eF:IC:=oS [mC 2 .nil,mC 3 (.b false)] [0] pN
@[push_cast]def Alw:List R:=[.t 2,.t 3]
@[push_cast]def Arp:=As Wd.eq_1<|As V0.eq_1<|As VQ.eq_1<|As pN.eq_1<|AL eF.eq_1
theorem AfO:Aw Tryz.prog 312 31 eF Alw=true:=by kernel_rfl
def Va:IC:=oP [m1 14 4,m1 15 6,o1 16 (.slS (.t 15) none (some (ci 1))),o1 17 (.msl false 9 1 [.t 16]),o1 18 (.app (.t 14) (.t 17) 9 1),m1 4 18] [4,8,9,10]
def lX:IC:=oS [bT 11 .lss 10 9] [4,8,9,10,11] (sQ (cD 11 .skip (.exit 0)) (sQ (.block 1 (oS [iA 12 8 10 9 1,l1 13 12,m1 6 13] [4,6,8,9,10] Va)) (oP [bZ 19 .add 10 1,m1 10 19] [4,8,9,10])))
def Wf:IC:=sQ (.opx [m1 22 4,o1 23 (.calln 66 [.t 22])] [4,23] 24 331 [.t 23] [m1 7 24] [4,7]) (sQ (.wk (oP [m1 25 7,o1 26 (.call 261 [.t 25,.c (.s [])]),m1 27 7,nL 28 27,m1 29 4,nL 30 29,bT 31 .eql 28 30,m1 2 26,m1 3 31] [2,3])) .ret)
def ZJ:IC:=oS [mC 2 (.s []),mC 3 (.b false)] [0] (oS [mC 4 .nil] [0,4] (sQ (oS [m1 8 0,nL 9 8,mZ 10 0] [4,8,9,10] (.block 0 (.loop lX))) (oS [m1 20 4,o1 21 (.calls 83 [.t 20])] [4] Wf)))
@[push_cast]def AlX:List R:=[.t 2,.t 3]
@[push_cast]def AqD:=As Va.eq_1<|As lX.eq_1<|As Wf.eq_1<|AL ZJ.eq_1
theorem Aig:Aw Tryz.prog 313 32 ZJ AlX=true:=by kernel_rfl
def Vr:IC:=oS [m1 40 7,q1 41 313 40,m1 39 41,xT 42 39 0,xT 43 39 1,m1 11 42,m1 12 43] [9,11,12] (oR [m1 44 12,m1 45 44,BG 46 45 9,BG 47 45 11,gT 48 45 (.bin .eql (.t 46) (.t 47)),pA 49 45 48,m1 4 49] [4])
def jJ:IC:=sQ (oS [m1 23 6,bZ 24 .neq 23 0,m1 25 24,BB 26 25 8,gF 27 25 (.not (.t 26)),pO 28 25 27,m1 29 28,BB 30 29 7,gF 31 29 (.lenL (.t 30)),Er 32 29 .eql 31 0,pO 33 29 32] [5,7,33] (cD 33 (oR [mC 4 (.b false)] [4]) .skip)) (oS [m1 35 5,q1 36 313 35,m1 34 36,xT 37 34 0,xT 38 34 1,m1 9 37,m1 10 38] [7,9] Vr)
def rQ:IC:=oS [m1 14 0,q1 15 311 14,m1 13 15,xT 16 13 0,xT 17 13 1,m1 5 16,m1 6 17] [1,5,6] (oS [m1 19 1,q1 20 312 19,m1 18 20,xT 21 18 0,xT 22 18 1,m1 7 21,m1 8 22] [5,6,7,8] jJ)
def lR:IC:=oS [mC 4 (.b false)] [0,1] rQ
@[push_cast]def Ajq:List R:=[.t 4]
@[push_cast]def AqB:=As Vr.eq_1<|As jJ.eq_1<|As rQ.eq_1<|AL lR.eq_1
theorem O8:Aw Tryz.prog 277 50 lR Ajq=true:=by kernel_rfl
def TS:IC:=sQ (oS [m1 21 0,m1 22 6,q2 23 269 21 22,bZ 24 .neq 23 1] [0,6,13,14,24] (cD 24 (oR [mC 4 (.b false)] [4]) .skip)) (oP [m1 25 0,m1 26 6,o1 27 (.call 213 [.t 25,.t 26,.c (.s [0]),ci 1]),m1 0 27] [0,13,14])
def Ve:IC:=sQ (.block 1 (oS [m1 16 14,m1 5 16] [0,5,13,14] (oS [m1 17 5,q1 18 221 17,o1 19 (.bin .add (.c (.s [123])) (.t 18)),bC 20 .add 19 (.s [125]),m1 6 20] [0,6,13,14] TS))) (oP [bZ 28 .add 14 1,m1 14 28] [0,13,14])
def pX:IC:=sQ (oS [m1 13 1,mZ 14 0] [0,13,14] (.block 0 (.loop (oS [bT 15 .lss 14 13] [0,13,14,15] (sQ (cD 15 .skip (.exit 0)) Ve))))) (oR [m1 29 0,o1 30 (.call 270 [.t 29,.c (.s [123,125])]),nT 31 30,m1 4 31] [4])
def fG:IC:=oS [mC 4 (.b false)] [0,1] (sQ (oS [m1 7 1,bZ 8 .lss 7 1,m1 9 8,BB 10 9 1,Er 11 9 .gtr 10 9,pO 12 9 11] [0,1,12] (cD 12 (oR [mC 4 (.b false)] [4]) .skip)) pX)
@[push_cast]def Ank:List R:=[.t 4]
@[push_cast]def Art:=As TS.eq_1<|As Ve.eq_1<|As pX.eq_1<|AL fG.eq_1
theorem AfR:Aw Tryz.prog 212 32 fG Ank=true:=by kernel_rfl
def oI:IC:=oR [m1 3 0,bZ 4 .rem 3 4,bZ 5 .eql 4 0,m1 6 5,BG 7 6 0,FSz 8 6 .rem 7 100,FSz 9 6 .neq 8 0,pA 10 6 9,m1 11 10,BB 12 11 0,Er 13 11 .rem 12 400,Er 14 11 .eql 13 0,pO 15 11 14,m1 2 15] [2]
def dI:IC:=oS [mC 2 (.b false)] [0] oI
@[push_cast]def An1:List R:=[.t 2]
@[push_cast]def ArW:=As oI.eq_1<|AL dI.eq_1
theorem Adu:Aw Tryz.prog 310 16 dI An1=true:=by kernel_rfl
def nN:IC:=oR [o1 11 (.build [.i .i64 0,.i .i64 0,.i .i64 0,.i .i64 0,.i .i64 0,.i .i64 0,.i .i64 0,.i .i64 0,.i .i64 0,.i .i64 0,.i .i64 0,.i .i64 0] [(0,1,ci 31),(1,1,ci 28),(2,1,ci 31),(3,1,ci 30),(4,1,ci 31),(5,1,ci 30),(6,1,ci 31),(7,1,ci 31),(8,1,ci 30),(9,1,ci 31),(10,1,ci 30),(11,1,ci 31)]),m1 12 1,bZ 13 .sub 12 1,o1 14 (.pu (.aget 12 1 false) [.t 11,.t 13]),m1 4 14] [4]
def Z2:IC:=oS [mZ 4 0] [0,1] (sQ (oS [m1 5 1,bZ 6 .eql 5 2,m1 7 6,BG 8 7 0,gT 9 7 (.call 310 [.t 8]),pA 10 7 9] [1,10] (cD 10 (oR [mZ 4 29] [4]) .skip)) nN)
@[push_cast]def Akh:List R:=[.t 4]
@[push_cast]def Arr:=As nN.eq_1<|AL Z2.eq_1
theorem Aem:Aw Tryz.prog 274 15 Z2 Akh=true:=by kernel_rfl
def gL:IC:=oS [mZ 2 0] [0] (sQ (oS [m1 3 0,q1 4 310 3] [4] (cD 4 (oR [mZ 2 366] [2]) .skip)) (oR [mZ 2 365] [2]))
@[push_cast]def Ajw:List R:=[.t 2]
@[push_cast]def ArU:=AL gL.eq_1
theorem AhB:Aw Tryz.prog 273 5 gL Ajw=true:=by kernel_rfl
def Xn:IC:=sQ (oS [m1 14 4,m1 15 2,q1 16 273 15,bT 17 .geq 14 16] [2,3,4,17] (cD 17 .skip (.exit 0))) (.block 1 (oS [m1 18 4,m1 19 2,q1 20 273 19,bT 21 .sub 18 20,m1 4 21] [2,3,4] (oP [m1 22 2,bZ 23 .add 22 1,m1 2 23] [2,3,4])))
def Ut:IC:=sQ (oS [m1 24 4,m1 25 2,m1 26 3,q2 27 274 25 26,bT 28 .geq 24 27] [2,3,4,28] (cD 28 .skip (.exit 2))) (.block 3 (oS [m1 29 4,m1 30 2,m1 31 3,q2 32 274 30 31,bT 33 .sub 29 32,m1 4 33] [2,3,4] (oP [m1 34 3,bZ 35 .add 34 1,m1 3 35] [2,3,4])))
def mS:IC:=oS [m1 12 0,bZ 13 .sub 12 (-25567),mZ 2 1900,mZ 3 1,m1 4 13] [2,3,4] (sQ (.block 0 (.loop Xn)) (sQ (.block 2 (.loop Ut)) (oR [m1 36 2,m1 37 3,m1 38 4,bZ 39 .add 38 1,m1 2 36,m1 3 37,m1 4 39,mZ 5 0] [2,3,4,5])))
def kL:IC:=sQ (oS [m1 6 0,bZ 7 .lss 6 (-25567),m1 8 7,BB 9 8 0,Er 10 8 .gtr 9 84005,pO 11 8 10] [0,11] (cD 11 (oR [mZ 2 0,mZ 3 0,mZ 4 0,mZ 5 2] [2,3,4,5]) .skip)) mS
def nJ:IC:=oS [mZ 2 0,mZ 3 0,mZ 4 0,mZ 5 0] [0] kL
@[push_cast]def Anh:List R:=[.t 2,.t 3,.t 4,.t 5]
@[push_cast]def AqX:=As Xn.eq_1<|As Ut.eq_1<|As mS.eq_1<|As kL.eq_1<|AL nJ.eq_1
theorem oC:Aw Tryz.prog 214 40 nJ Anh=true:=by kernel_rfl
def iD:IC:=sQ (oS [m1 4 0,bZ 5 .lss 4 (-25567),m1 6 5,BB 7 6 0,Er 8 6 .gtr 7 84005,pO 9 6 8] [0,9] (cD 9 (oR [mZ 2 0,mZ 3 2] [2,3]) .skip)) (oR [m1 10 0,bZ 11 .sub 10 (-25567),bZ 12 .rem 11 7,m1 2 12,mZ 3 0] [2,3])
def iC:IC:=oS [mZ 2 0,mZ 3 0] [0] iD
@[push_cast]def Aka:List R:=[.t 2,.t 3]
@[push_cast]def AqH:=As iD.eq_1<|AL iC.eq_1
theorem Ahq:Aw Tryz.prog 217 13 iC Aka=true:=by kernel_rfl
def ZO:IC:=sQ (oS [m1 3 0,bZ 4 .lss 3 10] [0,4] (cD 4 (oR [m1 5 0,q1 6 221 5,o1 7 (.bin .add (.c (.s [48])) (.t 6)),m1 2 7] [2]) .skip)) (oR [m1 8 0,q1 9 221 8,m1 2 9] [2])
def mH:IC:=oS [mC 2 (.s [])] [0] ZO
@[push_cast]def Akf:List R:=[.t 2]
@[push_cast]def ArR:=As ZO.eq_1<|AL mH.eq_1
theorem AdO:Aw Tryz.prog 222 10 mH Akf=true:=by kernel_rfl
def UO:IC:=oR [m1 16 3,q1 17 221 16,bC 18 .add 17 (.s [45]),m1 19 4,q1 20 222 19,bT 21 .add 18 20,bC 22 .add 21 (.s [45]),m1 23 5,q1 24 222 23,bT 25 .add 22 24,m1 2 25] [2]
def iJ:IC:=oS [m1 8 0,q1 9 214 8,m1 7 9,xT 10 7 0,xT 11 7 1,xT 12 7 2,xT 13 7 3,m1 3 10,m1 4 11,m1 5 12,m1 6 13] [3,4,5,6] (sQ (oS [m1 14 6,bZ 15 .neq 14 0] [3,4,5,15] (cD 15 (oR [mC 2 (.s [])] [2]) .skip)) UO)
def n9:IC:=oS [mC 2 (.s [])] [0] iJ
@[push_cast]def Al5:List R:=[.t 2]
@[push_cast]def AqN:=As UO.eq_1<|As iJ.eq_1<|AL n9.eq_1
theorem eB:Aw Tryz.prog 160 26 n9 Al5=true:=by kernel_rfl
def TM:IC:=sQ (.block 1 (oS [iA 21 17 19 9 1,l1 22 21,m1 8 22] [6,8,17,18,19] (oP [m1 23 6,m1 24 8,o1 25 (.slS (.t 24) none (some (ci 1))),m1 26 8,nS 27 26,o0 (.wrm (.mput .str) (.t 23) [.t 25,.t 27])] [6,17,18,19]))) (oP [bZ 28 .add 19 1,m1 19 28] [6,17,18,19])
def UH:IC:=sQ (oS [m1 17 4,nL 18 17,mZ 19 0] [6,17,18,19] (.block 0 (.loop (oS [bT 20 .lss 19 18] [6,17,18,19,20] (sQ (cD 20 .skip (.exit 0)) TM))))) (oR [m1 29 6,m1 2 29,mC 3 (.b true)] [2,3])
def oW:IC:=sQ (oS [m1 14 5,bZ 15 .neq 14 0] [4,15] (cD 15 (oR [mC 2 .nm,mC 3 (.b false)] [2,3]) .skip)) (oS [o1 16 (.mkm .mkmap []),m1 6 16] [4,6] UH)
def oA:IC:=oS [mC 2 .nm,mC 3 (.b false)] [0] (oS [m1 10 0,q1 11 311 10,m1 9 11,xT 12 9 0,xT 13 9 1,m1 4 12,m1 5 13] [4,5] oW)
@[push_cast]def Akz:List R:=[.t 2,.t 3]
@[push_cast]def Ar3:=As TM.eq_1<|As UH.eq_1<|As oW.eq_1<|AL oA.eq_1
theorem dB:Aw Tryz.prog 275 30 oA Akz=true:=by kernel_rfl
def VR:IC:=oP [m1 26 6,m1 27 8,m1 28 9,bT 29 .sub 27 28,m1 30 9,m1 31 8,bT 32 .sub 30 31,o1 33 (.mx false (.t 29) [.t 32]),bT 34 .add 26 33,m1 6 34] [0,1,6,12]
def U0:IC:=oS [m1 19 1,m1 20 7,o1 21 (.rdm (.mget .str (.i .i64 0) true) (.t 19) [.t 20]),m1 18 21,xT 22 18 0,xT 23 18 1,m1 9 22,m1 10 23] [0,1,6,8,9,10,12] (sQ (oS [m1 24 10,nT 25 24] [0,1,6,8,9,12,25] (cD 25 (oR [mZ 4 0,mC 5 (.b false)] [4,5]) .skip)) VR)
def oB:IC:=sQ (.mnext 13 14 (.t 12) [0,1,6,12,14]) (sQ (cD 14 .skip (.exit 0)) (.block 1 (oS [o1 15 (.mentry (.t 12)),xT 16 15 0,xT 17 15 1,m1 7 16,m1 8 17] [0,1,6,7,8,12] U0)))
def qO:IC:=sQ (oS [m1 11 0,o1 12 (.mrange (.t 11))] [0,1,6,12] (.block 0 (.loop oB))) (oR [m1 35 6,m1 36 0,o1 37 (.rdm .mlen (.t 36) []),m1 38 1,o1 39 (.rdm .mlen (.t 38) []),bT 40 .eql 37 39,m1 4 35,m1 5 40] [4,5])
def dM:IC:=oS [mZ 4 0,mC 5 (.b false)] [0,1] (oS [mZ 6 0] [0,1,6] qO)
@[push_cast]def Amo:List R:=[.t 4,.t 5]
@[push_cast]def Ar5:=As VR.eq_1<|As U0.eq_1<|As oB.eq_1<|As qO.eq_1<|AL dM.eq_1
theorem Ahz:Aw Tryz.prog 276 41 dM Amo=true:=by kernel_rfl
def WK:IC:=oS [m1 44 15,m1 45 44,BG 46 45 8,FSz 47 45 .lss 46 0,BG 48 45 47,BB 49 48 14,BB 50 48 9,gF 51 48 (.bin .lss (.t 49) (.t 50)),gT 52 45 (.pick (.t 48) (.c (.b true)) (.t 51)),pA 53 45 52] [6,8,9,10,14,23,24,25,53] (cD 53 (oP [m1 54 10,m1 55 14,m1 8 54,m1 9 55] [6,8,9,23,24,25]) .skip)
def Xe:IC:=sQ (oS [m1 36 13,nT 37 36] [6,8,9,10,12,23,24,25,37] (cD 37 (.exit 1) .skip)) (oS [m1 39 6,m1 40 12,o1 41 (.callr 276 [.t 39,.t 40]),m1 38 41,xT 42 38 0,xT 43 38 1,m1 14 42,m1 15 43] [6,8,9,10,14,15,23,24,25] WK)
def Vq:IC:=sQ (.opx [fA 31 11 0,l1 32 31] [6,8,9,10,23,24,25,32] 33 275 [.t 32] [m1 30 33,xT 34 30 0,xT 35 30 1,m1 12 34,m1 13 35] [6,8,9,10,12,13,23,24,25]) Xe
def W7:IC:=sQ (.block 1 (oS [m1 27 25,iA 28 23 25 182 2,lA 29 28 2,o1 11 (.alloc (.agg [.s [],.s []])),m1 10 27,sT 11 29 2] [6,8,9,10,11,23,24,25] Vq)) (oP [bZ 56 .add 25 1,m1 25 56] [6,8,9,23,24,25])
def Um:IC:=sQ (oS [m1 23 0,nL 24 23,mZ 25 0] [6,8,9,23,24,25] (.block 0 (.loop (oS [bT 26 .lss 25 24] [6,8,9,23,24,25,26] (sQ (cD 26 .skip (.exit 0)) W7))))) (sQ (oS [m1 57 8,bZ 58 .lss 57 0] [8,58] (cD 58 (oR [mZ 4 0,mZ 5 8] [4,5]) .skip)) (oR [m1 59 8,m1 4 59,mZ 5 0] [4,5]))
def ZC:IC:=sQ (.opx [m1 17 1] [0,17] 18 275 [.t 17] [m1 16 18,xT 19 16 0,xT 20 16 1,m1 6 19,m1 7 20] [0,6,7]) (sQ (oS [m1 21 7,nT 22 21] [0,6,22] (cD 22 (oR [mZ 4 0,mZ 5 3] [4,5]) .skip)) (oS [mZ 8 (-1),mZ 9 0] [0,6,8,9] Um))
def ZL:IC:=oS [mZ 4 0,mZ 5 0] [0,1] ZC
@[push_cast]def Akp:List R:=[.t 4,.t 5]
@[push_cast]def AqW:=As WK.eq_1<|As Xe.eq_1<|As Vq.eq_1<|As W7.eq_1<|As Um.eq_1<|As ZC.eq_1<|AL ZL.eq_1
theorem pE:Aw Tryz.prog 215 60 ZL Akp=true:=by kernel_rfl
def ZQ:IC:=oR [m1 3 0,bC 4 .geq 3 (.i .u8 65),m1 5 4,BG 6 5 0,gT 7 5 (.bin .leq (.t 6) (.c (.i .u8 90))),pA 8 5 7,m1 9 8,BB 10 9 0,gF 11 9 (.bin .geq (.t 10) (.c (.i .u8 97))),BB 12 9 11,BG 13 12 0,gT 14 12 (.bin .leq (.t 13) (.c (.i .u8 122))),gF 15 9 (.pick (.t 12) (.t 14) (.c (.b false))),pO 16 9 15,m1 2 16] [2]
def jE:IC:=oS [mC 2 (.b false)] [0] ZQ
@[push_cast]def AiZ:List R:=[.t 2]
@[push_cast]def ArN:=As ZQ.eq_1<|AL jE.eq_1
theorem Afy:Aw Tryz.prog 278 17 jE AiZ=true:=by kernel_rfl
def Wh:IC:=oS [m1 35 4,m1 36 6,bT 37 .add 35 36,m1 38 8,bT 39 .add 37 38,m1 40 10,bT 41 .add 39 40,m1 42 0,q2 43 277 41 42] [0,4,6,8,11,12,13,17,18,19,23,24,25,29,30,31,43] (cD 43 (oR [mC 2 (.b true)] [2]) .skip)
def Vp:IC:=sQ (.block 7 (oS [iA 33 29 31 9 1,l1 34 33,m1 10 34] [0,4,6,8,10,11,12,13,17,18,19,23,24,25,29,30,31] Wh)) (oP [bZ 44 .add 31 1,m1 31 44] [0,4,6,8,11,12,13,17,18,19,23,24,25,29,30,31])
def Wu:IC:=oS [o1 29 (.msl false 9 1 [.c (.s []),.c (.s [100])]),nL 30 29,mZ 31 0] [0,4,6,8,11,12,13,17,18,19,23,24,25,29,30,31] (.block 6 (.loop (oS [bT 32 .lss 31 30] [0,4,6,8,11,12,13,17,18,19,23,24,25,29,30,31,32] (sQ (cD 32 .skip (.exit 6)) Vp))))
def U5:IC:=sQ (.block 5 (oS [iA 27 23 25 9 1,l1 28 27,m1 8 28] [0,4,6,8,11,12,13,17,18,19,23,24,25] Wu)) (oP [bZ 45 .add 25 1,m1 25 45] [0,4,6,11,12,13,17,18,19,23,24,25])
def WH:IC:=oS [o1 23 (.msl false 9 1 [.c (.s []),.c (.s [69])]),nL 24 23,mZ 25 0] [0,4,6,11,12,13,17,18,19,23,24,25] (.block 4 (.loop (oS [bT 26 .lss 25 24] [0,4,6,11,12,13,17,18,19,23,24,25,26] (sQ (cD 26 .skip (.exit 4)) U5))))
def Wb:IC:=sQ (.block 3 (oS [iA 21 17 19 9 1,l1 22 21,m1 6 22] [0,4,6,11,12,13,17,18,19] WH)) (oP [bZ 46 .add 19 1,m1 19 46] [0,4,11,12,13,17,18,19])
def TV:IC:=oS [o1 17 (.msl false 9 1 [.c (.s []),.c (.s [77])]),nL 18 17,mZ 19 0] [0,4,11,12,13,17,18,19] (.block 2 (.loop (oS [bT 20 .lss 19 18] [0,4,11,12,13,17,18,19,20] (sQ (cD 20 .skip (.exit 2)) Wb))))
def lO:IC:=oS [bT 14 .lss 13 12] [0,11,12,13,14] (sQ (cD 14 .skip (.exit 0)) (sQ (.block 1 (oS [iA 15 11 13 9 1,l1 16 15,m1 4 16] [0,4,11,12,13] TV)) (oP [bZ 47 .add 13 1,m1 13 47] [0,11,12,13])))
def iV:IC:=sQ (oS [o1 11 (.msl false 9 1 [.c (.s []),.c (.s [121])]),nL 12 11,mZ 13 0] [0,11,12,13] (.block 0 (.loop lO))) (oR [mC 2 (.b false)] [2])
def lI:IC:=oS [mC 2 (.b false)] [0] iV
@[push_cast]def AiQ:List R:=[.t 2]
@[push_cast]def Arf:=As Wh.eq_1<|As Vp.eq_1<|As Wu.eq_1<|As U5.eq_1<|As WH.eq_1<|As Wb.eq_1<|As TV.eq_1<|As lO.eq_1<|As iV.eq_1<|AL lI.eq_1
theorem AeW:Aw Tryz.prog 216 48 lI AiQ=true:=by kernel_rfl
def TP:IC:=sQ (oS [fA 24 2 0,fA 25 24 14,l1 26 25,nL 27 26,bZ 28 .neq 27 12] [2,28] (cD 28 (oR [mC 4 (.s []),mZ 5 18] [4,5]) .skip)) (oR [fA 29 2 0,fA 30 29 14,l1 31 30,fA 32 2 17,l1 33 32,bZ 34 .sub 33 1,iA 35 31 34 9 1,l1 36 35,m1 4 36,mZ 5 0] [4,5])
def TQ:IC:=sQ (oS [fA 39 2 0,fA 40 39 15,l1 41 40,nL 42 41,bZ 43 .neq 42 7] [2,43] (cD 43 (oR [mC 4 (.s []),mZ 5 18] [4,5]) .skip)) (oR [fA 44 2 0,fA 45 44 15,l1 46 45,fA 47 2 19,l1 48 47,iA 49 46 48 9 1,l1 50 49,m1 4 50,mZ 5 0] [4,5])
def WZ:IC:=oS [bC 38 .eql 6 (.s [69]),m1 37 38] [2,6,37] (cD 37 TQ (oS [bC 52 .eql 6 (.s [100]),m1 51 52] [2,51] (cD 51 (oR [fA 53 2 18,l1 54 53,q1 55 221 54,m1 4 55,mZ 5 0] [4,5]) .skip)))
def VC:IC:=oS [bC 18 .eql 6 (.s [77,77]),m1 17 18] [2,6,17] (cD 17 (oR [fA 19 2 17,l1 20 19,q1 21 222 20,m1 4 21,mZ 5 0] [4,5]) (oS [bC 23 .eql 6 (.s [77,77,77]),m1 22 23] [2,6,22] (cD 22 TP WZ)))
def eG:IC:=.block 0 (oS [bC 8 .eql 6 (.s [121]),m1 7 8] [2,6,7] (cD 7 (oR [fA 9 2 16,l1 10 9,q1 11 221 10,m1 4 11,mZ 5 0] [4,5]) (oS [bC 13 .eql 6 (.s [77]),m1 12 13] [2,6,12] (cD 12 (oR [fA 14 2 17,l1 15 14,q1 16 221 15,m1 4 16,mZ 5 0] [4,5]) VC))))
def ZK:IC:=oS [bX 2 0,mC 4 (.s []),mZ 5 0] [1,2] (sQ (oS [m1 6 1] [2,6] eG) (oR [fA 56 2 18,l1 57 56,q1 58 222 57,m1 4 58,mZ 5 0] [4,5]))
@[push_cast]def AkR:List R:=[.t 4,.t 5]
@[push_cast]def Ar1:=As TP.eq_1<|As TQ.eq_1<|As WZ.eq_1<|As VC.eq_1<|As eG.eq_1<|AL ZK.eq_1
theorem AhN:Aw Tryz.prog 279 59 ZK AkR=true:=by kernel_rfl
def NM:IC:=sQ (oS [m1 12 7,m1 13 1,nS 14 13,bT 15 .lss 12 14,m1 16 15,BG 17 16 1,BG 18 16 7,gT 19 16 (.idx (.t 17) (.t 18)),gT 20 16 (.call 278 [.t 19]),pA 21 16 20] [1,2,6,7,21] (cD 21 .skip (.exit 2))) (.block 3 (oP [m1 22 7,bZ 23 .add 22 1,m1 7 23] [1,2,6,7]))
def Vf:IC:=sQ (.opx [m1 26 1,o1 27 (.idx (.t 26) (ci 0))] [1,2,6,27] 28 187 [.t 6,.t 27] [] [1,2,6]) (oS [m1 29 1,o1 30 (.slS (.t 29) (some (ci 1)) none),m1 1 30] [1,2,6] (.exit 1))
def Xk:IC:=sQ (.opx [m1 42 8] [1,2,6,7,42] 43 124 [.t 6,.t 42] [] [1,2,6,7]) (oP [m1 44 1,m1 45 7,o1 46 (.slS (.t 44) (some (.t 45)) none),m1 1 46] [1,2,6])
def UT:IC:=sQ (.ops [lA 32 2 20,m1 33 1,m1 34 7,o1 35 (.slS (.t 33) none (some (.t 34))),q2 36 279 32 35,m1 31 36,xT 37 31 0,xT 38 31 1,m1 8 37,m1 9 38] [1,2,6,7,8,9] [[1,3],[2,3],[0,4],[3,4],[4,5],[5,6],[5,7],[6,8],[7,9]]) (sQ (oS [m1 39 9,bZ 40 .neq 39 0] [1,2,6,7,8,9,40] (cD 40 (oR [m1 41 9,mC 4 (.s []),m1 5 41] [4,5]) .skip)) Xk)
def Vw:IC:=.block 1 (oS [mZ 7 0] [1,2,6,7] (sQ (.block 2 (.loop NM)) (sQ (oS [m1 24 7,bZ 25 .eql 24 0] [1,2,6,7,25] (cD 25 Vf .skip)) UT)))
def pU:IC:=sQ (.block 0 (.loop (sQ (oS [m1 10 1,bC 11 .neq 10 (.s [])] [1,2,6,11] (cD 11 .skip (.exit 0))) Vw))) (oR [o1 47 (.calls 45 [.t 6]),m1 4 47,mZ 5 0] [4,5])
def iI:IC:=oS [bX 2 0,mC 4 (.s []),mZ 5 0] [1,2] (oS [o1 6 (.mkm (.tnew 98 (.agg [.np,.nil])) [])] [1,2,6] pU)
@[push_cast]def Akc:List R:=[.t 4,.t 5]
@[push_cast]def ArB:=As NM.eq_1<|As Vf.eq_1<|As Xk.eq_1<|As UT.eq_1<|As Vw.eq_1<|As pU.eq_1<|AL iI.eq_1
theorem AgD:Aw Tryz.prog 218 48 iI Akc=true:=by kernel_rfl
def UI:IC:=oS [fA 40 3 13,l1 41 40,m1 42 12,iA 43 41 42 182 2,fA 44 43 1,l1 45 44,q1 46 216 45,nT 47 46,m1 39 47] [2,3,8,9,10,12,39] (cD 39 (oR [mC 6 (.s []),mZ 7 4] [6,7]) .skip)
def TR:IC:=cD 32 (oR [mC 6 (.s []),mZ 7 18] [6,7]) (oS [m1 36 11,bZ 37 .neq 36 0,m1 35 37] [2,3,8,9,10,11,12,35] (cD 35 (oR [m1 38 11,mC 6 (.s []),m1 7 38] [6,7]) UI))
def Wr:IC:=sQ (.ops [lA 53 3 16,m1 54 8,m1 55 9,m1 56 10,m1 57 13,o1 58 (.build [.s [],.s [],.s [],.nil,.nil,.s [],.s [],.s [],.s [],.i .i64 0,.i .i64 0,.nil,.nil,.nil,.nil,.nil,.i .i64 0,.i .i64 0,.i .i64 0,.i .i64 0] [(0,16,.t 53),(16,1,.t 54),(17,1,.t 55),(18,1,.t 56),(19,1,.t 57)]),fA 59 3 13,l1 60 59,m1 61 12,iA 62 60 61 182 2,fA 63 62 1,l1 64 63,q2 65 218 58 64,xT 66 65 0,xT 67 65 1,m1 6 66,m1 7 67] [6,7] [[0,5],[1,5],[2,5],[3,5],[4,5],[6,7],[7,9],[8,9],[9,10],[10,11],[5,12],[11,12],[12,13],[12,14],[13,15],[14,16]]) .ret
def VT:IC:=sQ (.block 0 (oS [m1 33 11,bZ 34 .eql 33 8,m1 32 34] [2,3,8,9,10,11,12,32] TR)) (oS [m1 49 2,q1 50 217 49,m1 48 50,xT 51 48 0,xT 52 48 1,m1 13 51,m1 14 52] [3,8,9,10,12,13] Wr)
def kT:IC:=sQ (oS [m1 22 11,bZ 23 .neq 22 0] [1,2,3,8,9,10,11,23] (cD 23 (oR [m1 24 11,mC 6 (.s []),m1 7 24] [6,7]) .skip)) (oS [fA 26 3 13,l1 27 26,m1 28 1,q2 29 215 27 28,m1 25 29,xT 30 25 0,xT 31 25 1,m1 12 30,m1 11 31] [2,3,8,9,10,11,12] VT)
def jK:IC:=oS [bX 3 0,mC 6 (.s []),mZ 7 0] [1,2,3] (oS [m1 16 2,q1 17 214 16,m1 15 17,xT 18 15 0,xT 19 15 1,xT 20 15 2,xT 21 15 3,m1 8 18,m1 9 19,m1 10 20,m1 11 21] [1,2,3,8,9,10,11] kT)
@[push_cast]def Ane:List R:=[.t 6,.t 7]
@[push_cast]def Aso:=As UI.eq_1<|As TR.eq_1<|As Wr.eq_1<|As VT.eq_1<|As kT.eq_1<|AL jK.eq_1
theorem KX:Aw Tryz.prog 158 68 jK Ane=true:=by kernel_rfl
def Vu:IC:=sQ (.block 1 (oS [iA 13 9 11 178 5,lA 14 13 5,o1 7 (.alloc (.agg [.s [],.s [],.s [],.s [],.s []])),sT 7 14 5] [1,4,7,9,10,11] (oS [fA 15 7 0,l1 16 15,m1 17 1,bT 18 .eql 16 17] [1,4,7,9,10,11,18] (cD 18 (oR [lA 19 7 5,sT 4 19 5,mC 5 (.b true)] [4,5]) .skip)))) (oP [bZ 20 .add 11 1,m1 11 20] [1,4,9,10,11])
def cY:IC:=sQ (oS [fA 8 2 11,l1 9 8,nL 10 9,mZ 11 0] [1,4,9,10,11] (.block 0 (.loop (oS [bT 12 .lss 11 10] [1,4,9,10,11,12] (sQ (cD 12 .skip (.exit 0)) Vu))))) (oR [o1 21 (.build [.s [],.s [],.s [],.s [],.s []] []),sT 4 21 5,mC 5 (.b false)] [4,5])
def nA:IC:=oS [bX 2 0,o1 4 (.alloc (.agg [.s [],.s [],.s [],.s [],.s []])),mC 5 (.b false)] [1,2,4] cY
@[push_cast]def AjO:List R:=[.c 4 5 true,.t 5]
@[push_cast]def Arx:=As Vu.eq_1<|As cY.eq_1<|AL nA.eq_1
theorem AdG:Aw Tryz.prog 219 22 nA AjO=true:=by kernel_rfl
def TG:IC:=oS [m1 39 8,o1 40 (.call 136 [.t 39,.c (.s [123,49,125])]),m1 38 40,xT 41 38 0,xT 42 38 1,xT 43 38 2,m1 13 41,m1 14 42,m1 15 43] [1,2,7,13,14] (oR [m1 44 7,m1 45 1,bT 46 .add 44 45,m1 47 13,bT 48 .add 46 47,m1 49 2,bT 50 .add 48 49,m1 51 14,bT 52 .add 50 51,m1 6 52] [6])
def o3:IC:=sQ (oS [m1 23 7,o1 24 (.call 136 [.t 23,.c (.s [123,49,125])]),m1 22 24,xT 25 22 0,xT 26 22 1,xT 27 22 2,m1 10 25,m1 11 26,m1 12 27] [1,2,7,8,10,11,12] (oS [m1 28 12] [1,2,7,8,10,11,28] (cD 28 (oR [m1 29 10,m1 30 2,bT 31 .add 29 30,m1 32 11,bT 33 .add 31 32,m1 34 1,bT 35 .add 33 34,m1 36 8,bT 37 .add 35 36,m1 6 37] [6]) .skip))) TG
def Z3:IC:=oS [m1 17 0,o1 18 (.call 136 [.t 17,.c (.s [123,48,125])]),m1 16 18,xT 19 16 0,xT 20 16 1,xT 21 16 2,m1 7 19,m1 8 20,m1 9 21] [1,2,7,8] o3
def mD:IC:=oS [mC 6 (.s [])] [0,1,2] Z3
@[push_cast]def Ajk:List R:=[.t 6]
@[push_cast]def Ar8:=As TG.eq_1<|As o3.eq_1<|As Z3.eq_1<|AL mD.eq_1
theorem rB:Aw Tryz.prog 280 53 mD Ajk=true:=by kernel_rfl
def VB:IC:=sQ (.block 1 (oS [iA 33 29 31 9 1,l1 34 33,m1 11 34] [2,8,11,29,30,31] (oS [m1 35 11,o1 36 (.call 212 [.t 35,ci 2]),nT 37 36] [2,8,29,30,31,37] (cD 37 (oR [mC 6 (.s []),mZ 7 4] [6,7]) .skip)))) (oP [bZ 38 .add 31 1,m1 31 38] [2,8,29,30,31])
def Vb:IC:=oS [lA 42 8 5,m1 43 2,q2 44 220 42 43,m1 12 44] [12] (sQ (oS [m1 45 12,nS 46 45,bZ 47 .gtr 46 20000] [12,47] (cD 47 (oR [mC 6 (.s []),mZ 7 6] [6,7]) .skip)) (oR [m1 48 12,m1 6 48,mZ 7 0] [6,7]))
def Vt:IC:=sQ (oS [fA 21 8 1,l1 22 21,fA 23 8 2,l1 24 23,fA 25 8 3,l1 26 25,fA 27 8 4,l1 28 27,o1 29 (.msl false 9 1 [.t 22,.t 24,.t 26,.t 28]),nL 30 29,mZ 31 0] [2,8,29,30,31] (.block 0 (.loop (oS [bT 32 .lss 31 30] [2,8,29,30,31,32] (sQ (cD 32 .skip (.exit 0)) VB))))) (sQ (oS [m1 39 2,nL 40 39,bZ 41 .gtr 40 1000] [2,8,41] (cD 41 (oR [mC 6 (.s []),mZ 7 6] [6,7]) .skip)) Vb)
def aT:IC:=oS [lA 14 3 16,m1 15 1,q2 16 219 14 15,m1 13 16,xT 17 13 0,xT 18 13 1,o1 8 (.alloc (.agg [.s [],.s [],.s [],.s [],.s []])),sT 8 17 5,m1 9 18] [2,8,9] (sQ (oS [m1 19 9,nT 20 19] [2,8,20] (cD 20 (oR [mC 6 (.s []),mZ 7 18] [6,7]) .skip)) Vt)
def m7:IC:=oS [bX 3 0,mC 6 (.s []),mZ 7 0] [1,2,3] aT
@[push_cast]def Anf:List R:=[.t 6,.t 7]
@[push_cast]def AqL:=As VB.eq_1<|As Vb.eq_1<|As Vt.eq_1<|As aT.eq_1<|AL m7.eq_1
theorem sO:Aw Tryz.prog 159 49 m7 Anf=true:=by kernel_rfl
def Uh:IC:=oS [m1 28 8,nT 29 28] [3,5,6,11,12,13,29] (cD 29 (oP [m1 30 3,lA 31 6 2,fA 32 5 2,l1 33 32,o0 (.wrm (.mput (.st [(0,.str),(1,.str)])) (.t 30) [.t 31,.t 33])] [3,11,12,13]) .skip)
def U7:IC:=oS [m1 23 3,lA 24 6 2,o1 25 (.rdm (.mget (.st [(0,.str),(1,.str)]) (.s []) true) (.t 23) [.t 24]),m1 22 25,xT 26 22 0,xT 27 22 1,m1 7 26,m1 8 27] [3,5,6,8,11,12,13] Uh
def TT:IC:=oS [fA 17 5 0,l1 18 17,fA 19 5 1,l1 20 19,o1 21 (.build [.s [],.s []] [(0,1,.t 18),(1,1,.t 20)]),o1 6 (.alloc (.agg [.s [],.s []])),sT 6 21 2] [3,5,6,11,12,13] U7
def Ul:IC:=sQ (.block 1 (oS [iA 15 11 13 180 3,lA 16 15 3,o1 5 (.alloc (.agg [.s [],.s [],.s []])),sT 5 16 3] [3,5,11,12,13] TT)) (oP [bZ 34 .add 13 1,m1 13 34] [3,11,12,13])
def rH:IC:=sQ (oS [fA 10 1 12,l1 11 10,nL 12 11,mZ 13 0] [3,11,12,13] (.block 0 (.loop (oS [bT 14 .lss 13 12] [3,11,12,13,14] (sQ (cD 14 .skip (.exit 0)) Ul))))) (oR [m1 35 3,m1 2 35] [2])
def oG:IC:=oS [bX 1 0,mC 2 .nm] [1] (oS [o1 9 (.mkm .mkmap []),m1 3 9] [1,3] rH)
@[push_cast]def Anw:List R:=[.t 2]
@[push_cast]def Asp:=As Uh.eq_1<|As U7.eq_1<|As TT.eq_1<|As Ul.eq_1<|As rH.eq_1<|AL oG.eq_1
theorem AeU:Aw Tryz.prog 268 36 oG Anw=true:=by kernel_rfl
def Wi:IC:=oS [m1 26 8,m1 27 1,o1 28 (.build [.s [],.s []] [(0,1,.t 27),(1,1,.c (.s [111,116,104,101,114]))]),o1 29 (.rdm (.mget (.st [(0,.str),(1,.str)]) (.s []) true) (.t 26) [.t 28]),m1 25 29,xT 30 25 0,xT 31 25 1,m1 11 30,m1 12 31] [11,12] (oR [m1 32 11,m1 33 12,m1 6 32,m1 7 33] [6,7])
def iT:IC:=sQ (oS [m1 16 8,m1 17 1,m1 18 2,o1 19 (.build [.s [],.s []] [(0,1,.t 17),(1,1,.t 18)]),o1 20 (.rdm (.mget (.st [(0,.str),(1,.str)]) (.s []) true) (.t 16) [.t 19]),m1 15 20,xT 21 15 0,xT 22 15 1,m1 9 21,m1 10 22] [1,8,9,10] (oS [m1 23 10] [1,8,9,23] (cD 23 (oR [m1 24 9,m1 6 24,mC 7 (.b true)] [6,7]) .skip))) Wi
def kP:IC:=oS [bX 3 0,mC 6 (.s []),mC 7 (.b false)] [1,2,3] (oS [lA 13 3 16,o1 14 (.calln 268 [.t 13]),m1 8 14] [1,2,8] iT)
@[push_cast]def AkO:List R:=[.t 6,.t 7]
@[push_cast]def Arz:=As Wi.eq_1<|As iT.eq_1<|AL kP.eq_1
theorem AdS:Aw Tryz.prog 211 34 kP AkO=true:=by kernel_rfl
def Ua:IC:=cD 30 (oR [mC 6 (.s []),mZ 7 18] [6,7]) (oS [m1 34 10,o1 35 (.call 212 [.t 34,ci 1]),nT 36 35,m1 33 36] [2,3,10,33] (cD 33 (oR [mC 6 (.s []),mZ 7 4] [6,7]) .skip))
def UX:IC:=sQ (oS [m1 43 9,bZ 44 .neq 43 0] [9,10,12,44] (cD 44 (oR [m1 45 9,mC 6 (.s []),m1 7 45] [6,7]) .skip)) (oR [m1 46 10,m1 47 12,o1 48 (.call 213 [.t 46,.c (.s [123,48,125]),.t 47,ci 1]),m1 6 48,mZ 7 0] [6,7])
def Ub:IC:=sQ (.block 0 (oS [m1 31 11,nT 32 31,m1 30 32] [2,3,10,30] Ua)) (oS [lA 38 3 16,m1 39 2,o1 40 (.call 105 [.t 38,.t 39,.c (.s [])]),m1 37 40,xT 41 37 0,xT 42 37 1,m1 12 41,m1 9 42] [9,10,12] UX)
def sY:IC:=sQ (oS [m1 20 9,bZ 21 .neq 20 0] [1,2,3,8,9,21] (cD 21 (oR [m1 22 9,mC 6 (.s []),m1 7 22] [6,7]) .skip)) (oS [lA 24 3 16,m1 25 1,m1 26 8,q3 27 211 24 25 26,m1 23 27,xT 28 23 0,xT 29 23 1,m1 10 28,m1 11 29] [2,3,10,11] Ub)
def ZF:IC:=oS [bX 3 0,mC 6 (.s []),mZ 7 0] [1,2,3] (oS [fA 14 3 3,l1 15 14,m1 16 2,q2 17 210 15 16,m1 13 17,xT 18 13 0,xT 19 13 1,m1 8 18,m1 9 19] [1,2,3,8,9] sY)
@[push_cast]def Akd:List R:=[.t 6,.t 7]
@[push_cast]def ArM:=As Ua.eq_1<|As UX.eq_1<|As Ub.eq_1<|As sY.eq_1<|AL ZF.eq_1
theorem LU:Aw Tryz.prog 157 49 ZF Akd=true:=by kernel_rfl
def gE:IC:=oR [m1 3 0,bZ 4 .geq 3 0,m1 5 4,BG 6 5 0,FSz 7 5 .leq 6 1114111,pA 8 5 7,m1 9 8,BG 10 9 0,FSz 11 9 .lss 10 55296,BG 12 9 11,BB 13 12 0,Er 14 12 .gtr 13 57343,gT 15 9 (.pick (.t 12) (.c (.b true)) (.t 14)),pA 16 9 15,m1 2 16] [2]
def lN:IC:=oS [mC 2 (.b false)] [0] gE
@[push_cast]def Ajr:List R:=[.t 2]
@[push_cast]def ArE:=As gE.eq_1<|AL lN.eq_1
theorem AdX:Aw Tryz.prog 237 17 lN Ajr=true:=by kernel_rfl
def WB:IC:=sQ (cD 9 .skip (.exit 0)) (.block 1 (oS [xT 10 8 2,m1 5 10] [3,5,7] (oP [m1 11 3,m1 12 5,o1 13 (.cvi .i64 (.t 12)),o1 14 (.msl false 3 1 [.t 13]),o1 15 (.app (.t 11) (.t 14) 3 1),m1 3 15] [3,7])))
def iR:IC:=sQ (oS [m1 6 0,o1 7 (.mkm .strit [.t 6])] [3,7] (.block 0 (.loop (oS [o1 8 (.wrm .next (.t 7) []),xT 9 8 0] [3,7,8,9] WB)))) (sQ (.wk (oP [m1 16 3,m1 2 16] [2])) .ret)
def a7:IC:=oS [mC 2 .nil] [0] (oS [mC 3 .nil] [0,3] iR)
@[push_cast]def Alz:List R:=[.t 2]
@[push_cast]def AqS:=As WB.eq_1<|As iR.eq_1<|AL a7.eq_1
theorem Ah6:Aw Tryz.prog 239 17 a7 Alz=true:=by kernel_rfl
def VD:IC:=sQ (oS [m1 12 5,q1 13 237 12,nT 14 13] [3,5,6,7,8,14] (cD 14 (oP [mZ 5 65533] [3,5,6,7,8]) .skip)) (.opx [m1 15 5,o1 16 (.cvi .i32 (.t 15))] [3,6,7,8,16] 17 238 [.t 3,.t 16] [] [3,6,7,8])
def aJ:IC:=oS [bT 9 .lss 8 7] [3,6,7,8,9] (sQ (cD 9 .skip (.exit 0)) (sQ (.block 1 (oS [iA 10 6 8 3 1,l1 11 10,m1 5 11] [3,5,6,7,8] VD)) (oP [bZ 18 .add 8 1,m1 8 18] [3,6,7,8])))
def eN:IC:=oS [mC 2 (.s [])] [0] (oS [o1 3 (.mkm (.tnew 98 (.agg [.np,.nil])) [])] [0,3] (sQ (oS [m1 6 0,nL 7 6,mZ 8 0] [3,6,7,8] (.block 0 (.loop aJ))) (oR [o1 19 (.calls 45 [.t 3]),m1 2 19] [2])))
@[push_cast]def Amf:List R:=[.t 2]
@[push_cast]def ArX:=As VD.eq_1<|As aJ.eq_1<|AL eN.eq_1
theorem Adv:Aw Tryz.prog 181 20 eN Amf=true:=by kernel_rfl
def jI:IC:=oS [mC 2 (.b false)] [0] (oR [m1 3 0,bZ 4 .geq 3 8294,m1 5 4,BG 6 5 0,FSz 7 5 .leq 6 8296,pA 8 5 7,m1 2 8] [2])
@[push_cast]def Aj5:List R:=[.t 2]
@[push_cast]def Ar6:=AL jI.eq_1
theorem Afz:Aw Tryz.prog 240 9 jI Aj5=true:=by kernel_rfl
def UG:IC:=oS [m1 22 4,m1 23 8,o1 24 (.msl false 4 1 [.t 23]),o1 25 (.app (.t 22) (.t 24) 4 1),m1 4 25] [3,4,5,7,8,11,12,13] (sQ (oS [m1 26 8,nT 27 26] [3,4,5,7,11,12,13,27] (cD 27 (.exit 1) .skip)) (oP [m1 28 5,bZ 29 .add 28 1,m1 5 29] [3,4,5,7,11,12,13]))
def Xa:IC:=oS [m1 42 4,m1 43 4,nL 44 43,bZ 45 .sub 44 1,o1 46 (.slT (.t 42) (.t 45) 1),m1 4 46] [3,4,5,7,9,11,12,13] (sQ (oS [m1 47 9,nT 48 47] [3,4,5,7,11,12,13,48] (cD 48 (.exit 1) .skip)) (oP [m1 49 5,bZ 50 .sub 49 1,m1 5 50] [3,4,5,7,11,12,13]))
def Ux:IC:=sQ (oS [m1 33 4,nL 34 33,bZ 35 .eql 34 0] [3,4,5,7,11,12,13,35] (cD 35 (.exit 1) .skip)) (oS [m1 36 4,m1 37 4,nL 38 37,bZ 39 .sub 38 1,iA 40 36 39 4 1,l1 41 40,m1 9 41] [3,4,5,7,9,11,12,13] Xa)
def Uc:IC:=sQ (.block 2 (oS [m1 18 7,q1 19 240 18,m1 17 19] [3,4,5,7,11,12,13,17] (cD 17 (oS [m1 20 5,bZ 21 .lss 20 8,m1 8 21] [3,4,5,7,8,11,12,13] UG) (oS [m1 31 7,bZ 32 .eql 31 8297,m1 30 32] [3,4,5,7,11,12,13,30] (cD 30 Ux .skip))))) (.opx [m1 51 7,o1 52 (.msl false 3 1 [.t 51]),q1 53 181 52] [3,4,5,11,12,13,53] 54 124 [.t 3,.t 53] [] [3,4,5,11,12,13])
def V1:IC:=oS [bT 14 .lss 13 12] [3,4,5,11,12,13,14] (sQ (cD 14 .skip (.exit 0)) (sQ (.block 1 (oS [iA 15 11 13 3 1,l1 16 15,m1 7 16] [3,4,5,7,11,12,13] Uc)) (oP [bZ 55 .add 13 1,m1 13 55] [3,4,5,11,12,13])))
def Wt:IC:=sQ (.block 4 (.opx [o1 59 (.msl false 3 1 [ci 8297]),q1 60 181 59] [3,56,57,60] 61 124 [.t 3,.t 60] [] [3,56,57])) (oP [bZ 62 .add 57 1,m1 57 62] [3,56,57])
def Up:IC:=sQ (oS [m1 56 5,mZ 57 0] [3,56,57] (.block 3 (.loop (oS [bT 58 .lss 57 56] [3,56,57,58] (sQ (cD 58 .skip (.exit 3)) Wt))))) (oR [o1 63 (.calls 45 [.t 3]),m1 2 63] [2])
def nH:IC:=oS [mC 4 .nil] [0,3,4] (oS [mZ 5 0] [0,3,4,5] (sQ (oS [m1 10 0,q1 11 239 10,nL 12 11,mZ 13 0] [3,4,5,11,12,13] (.block 0 (.loop V1))) Up))
def aU:IC:=oS [mC 2 (.s [])] [0] (oS [o1 3 (.mkm (.tnew 98 (.agg [.np,.nil])) [])] [0,3] nH)
@[push_cast]def AiJ:List R:=[.t 2]
@[push_cast]def Asb:=As UG.eq_1<|As Xa.eq_1<|As Ux.eq_1<|As Uc.eq_1<|As V1.eq_1<|As Wt.eq_1<|As Up.eq_1<|As nH.eq_1<|AL aU.eq_1
theorem AgU:Aw Tryz.prog 182 64 aU AiJ=true:=by kernel_rfl
def fP:IC:=oR [o1 3 (.msl false 3 1 [ci 8296]),q1 4 181 3,m1 5 0,q1 6 182 5,bT 7 .add 4 6,o1 8 (.msl false 3 1 [ci 8297]),q1 9 181 8,bT 10 .add 7 9,m1 2 10] [2]
def eR:IC:=oS [mC 2 (.s [])] [0] fP
@[push_cast]def Ajh:List R:=[.t 2]
@[push_cast]def Ar4:=As fP.eq_1<|AL eR.eq_1
theorem Add:Aw Tryz.prog 128 11 eR Ajh=true:=by kernel_rfl
def WR:IC:=oS [bZ 12 .eql 5 5,m1 11 12] [3,5,11] (cD 11 (oR [fA 13 3 1,l1 14 13,bZ 15 .eql 14 3,m1 4 15] [4]) (oS [bZ 17 .eql 5 6,m1 16 17] [3,16] (cD 16 (oR [fA 18 3 1,l1 19 18,bZ 20 .eql 19 4,m1 4 20] [4]) .skip)))
def Z8:IC:=oS [bX 3 1,mC 4 (.b false)] [0,3] (sQ (oS [m1 5 0] [3,5] (.block 0 (oS [bZ 7 .eql 5 2,m1 6 7] [3,5,6] (cD 6 (oR [fA 8 3 1,l1 9 8,bZ 10 .neq 9 4,m1 4 10] [4]) WR)))) (oR [fA 21 3 1,l1 22 21,bZ 23 .eql 22 2,m1 4 23] [4]))
@[push_cast]def AiT:List R:=[.t 4]
@[push_cast]def Arj:=As WR.eq_1<|AL Z8.eq_1
theorem Aei:Aw Tryz.prog 156 24 Z8 AiT=true:=by kernel_rfl
def V3:IC:=oS [bZ 60 .eql 28 6,m1 59 60] [3,4,5,59] (cD 59 (oR [lA 61 3 16,fA 62 4 3,l1 63 62,fA 64 5 4,l1 65 64,q3 66 159 61 63 65,xT 67 66 0,xT 68 66 1,m1 6 67,m1 7 68] [6,7]) .skip)
def Wm:IC:=oS [bZ 50 .eql 28 5,m1 49 50] [3,4,5,28,49] (cD 49 (oR [lA 51 3 16,fA 52 4 3,l1 53 52,fA 54 5 3,l1 55 54,q3 56 158 51 53 55,xT 57 56 0,xT 58 56 1,m1 6 57,m1 7 58] [6,7]) V3)
def V9:IC:=oS [bZ 40 .eql 28 4,m1 39 40] [3,4,5,28,39] (cD 39 (oR [lA 41 3 16,fA 42 4 3,l1 43 42,fA 44 5 2,l1 45 44,q3 46 157 41 43 45,xT 47 46 0,xT 48 46 1,m1 6 47,m1 7 48] [6,7]) Wm)
def Uq:IC:=.block 0 (oS [bZ 30 .eql 28 3,m1 29 30] [3,4,5,28,29] (cD 29 (oR [lA 31 3 16,fA 32 5 2,l1 33 32,fA 34 4 3,l1 35 34,q3 36 105 31 33 35,xT 37 36 0,xT 38 36 1,m1 6 37,m1 7 38] [6,7]) V9))
def Xd:IC:=oS [fA 74 5 3,l1 75 74,q1 76 160 75,m1 8 76] [8] (sQ (oS [m1 77 8,bC 78 .eql 77 (.s [])] [8,78] (cD 78 (oR [mC 6 (.s []),mZ 7 2] [6,7]) .skip)) (oR [m1 79 8,m1 6 79,mZ 7 0] [6,7]))
def UR:IC:=sQ (oS [fA 27 4 0,l1 28 27] [3,4,5,28] Uq) (sQ (oS [fA 69 5 1,l1 70 69,bZ 71 .neq 70 3] [5,71] (cD 71 (oR [fA 72 5 2,l1 73 72,m1 6 73,mZ 7 0] [6,7]) .skip)) Xd)
def gN:IC:=sQ (oS [lA 17 5 5,q1 18 40 17,nT 19 18,m1 20 19,EP 21 20 4 0,Ew 22 20 21,gF 23 20 (.load (.t 5) 5 true),gF 24 20 (.call 156 [.t 22,.t 23]),gF 25 20 (.not (.t 24)),pO 26 20 25] [3,4,5,26] (cD 26 (oR [mC 6 (.s []),mZ 7 11] [6,7]) .skip)) UR
def jM:IC:=sQ (oS [fA 9 4 0,l1 10 9,bZ 11 .lss 10 2,m1 12 11,EP 13 12 4 0,Ew 14 12 13,Er 15 12 .gtr 14 6,pO 16 12 15] [3,4,5,16] (cD 16 (oR [mC 6 (.s []),mZ 7 1] [6,7]) .skip)) gN
def l6:IC:=oS [bX 3 0,bX 4 1,bX 5 2,mC 6 (.s []),mZ 7 0] [3,4,5] jM
@[push_cast]def AkW:List R:=[.t 6,.t 7]
@[push_cast]def ArF:=As V3.eq_1<|As Wm.eq_1<|As V9.eq_1<|As Uq.eq_1<|As Xd.eq_1<|As UR.eq_1<|As gN.eq_1<|As jM.eq_1<|AL l6.eq_1
theorem LV:Aw Tryz.prog 108 80 l6 AkW=true:=by kernel_rfl
def nF:IC:=oS [m1 7 0,m1 8 0,nC 9 8,fA 10 9 1,l1 11 10,m1 12 1,o1 13 (.msl false 5 1 [.t 12]),o1 14 (.app (.t 11) (.t 13) 5 1),nC 15 7,fA 16 15 1,sT 16 14 1] [] (oR [mC 4 .ni] [4])
def Z5:IC:=oS [mC 4 .ni] [0,1] (oS [m1 5 0,o1 6 (.calls 180 [.t 5])] [0,1] nF)
@[push_cast]def AnC:List R:=[.t 4]
@[push_cast]def Arg:=As nF.eq_1<|AL Z5.eq_1
theorem AgA:Aw Tryz.prog 187 17 Z5 AnC=true:=by kernel_rfl
def qH:IC:=sQ (.opx [m1 14 0,m1 15 0,nC 16 15,fA 17 16 1,l1 18 17,m1 19 1] [0,6,14,18,19] 20 287 [.t 18,.t 19] [nC 21 14,fA 22 21 1,sT 22 20 1] [0,6]) (oR [m1 23 0,nC 24 23,fA 25 24 1,l1 26 25,nL 27 26,m1 28 6,bT 29 .sub 27 28,m1 4 29,mC 5 .ni] [4,5])
def m5:IC:=oS [mZ 4 0,mC 5 .ni] [0,1] (oS [m1 7 0,o1 8 (.calls 180 [.t 7])] [0,1] (oS [m1 9 0,nC 10 9,fA 11 10 1,l1 12 11,nL 13 12,m1 6 13] [0,1,6] qH))
@[push_cast]def Am2:List R:=[.t 4,.t 5]
@[push_cast]def ArT:=As qH.eq_1<|AL m5.eq_1
theorem AhL:Aw Tryz.prog 238 30 m5 Am2=true:=by kernel_rfl
def pP:IC:=sQ (oS [m1 5 1,o1 6 (.cvi .u32 (.t 5)),bC 7 .leq 6 (.i .u32 127)] [0,1,7] (cD 7 (oR [m1 8 0,m1 9 1,o1 10 (.cvi .u8 (.t 9)),o1 11 (.msl false 5 1 [.t 10]),o1 12 (.app (.t 8) (.t 11) 5 1),m1 4 12] [4]) .skip)) (sQ (.opx [m1 13 0,m1 14 1] [13,14] 15 318 [.t 13,.t 14] [m1 4 15] [4]) .ret)
def bN:IC:=oS [mC 4 .nil] [0,1] pP
@[push_cast]def AmM:List R:=[.t 4]
@[push_cast]def Ase:=As pP.eq_1<|AL bN.eq_1
theorem pM:Aw Tryz.prog 287 16 bN AmM=true:=by kernel_rfl
def oZ:IC:=oR [m1 14 0,m1 15 1,o1 16 (.pu (.shf .shr) [.t 15,.c (.i .u64 6)]),o1 17 (.cvi .u8 (.t 16)),o1 18 (.pu (.bit .or) [.c (.i .u8 192),.t 17]),m1 19 1,o1 20 (.cvi .u8 (.t 19)),o1 21 (.pu (.bit .and) [.t 20,.c (.i .u8 63)]),o1 22 (.pu (.bit .or) [.c (.i .u8 128),.t 21]),o1 23 (.msl false 5 1 [.t 18,.t 22]),o1 24 (.app (.t 14) (.t 23) 5 1),m1 4 24] [4]
def UY:IC:=oP [m1 28 5,o1 29 (.bin .lss (.c (.i .u32 57343)) (.t 28)),m1 30 29,BG 31 30 5,gT 32 30 (.bin .leq (.t 31) (.c (.i .u32 65535))),pA 33 30 32,m1 25 33] [0,1,5,25]
def VL:IC:=oR [m1 34 0,m1 35 1,o1 36 (.pu (.shf .shr) [.t 35,.c (.i .u64 12)]),o1 37 (.cvi .u8 (.t 36)),o1 38 (.pu (.bit .or) [.c (.i .u8 224),.t 37]),m1 39 1,o1 40 (.pu (.shf .shr) [.t 39,.c (.i .u64 6)]),o1 41 (.cvi .u8 (.t 40)),o1 42 (.pu (.bit .and) [.t 41,.c (.i .u8 63)]),o1 43 (.pu (.bit .or) [.c (.i .u8 128),.t 42]),m1 44 1,o1 45 (.cvi .u8 (.t 44)),o1 46 (.pu (.bit .and) [.t 45,.c (.i .u8 63)]),o1 47 (.pu (.bit .or) [.c (.i .u8 128),.t 46]),o1 48 (.msl false 5 1 [.t 38,.t 43,.t 47]),o1 49 (.app (.t 34) (.t 48) 5 1),m1 4 49] [4]
def VW:IC:=oR [m1 57 0,m1 58 1,o1 59 (.pu (.shf .shr) [.t 58,.c (.i .u64 18)]),o1 60 (.cvi .u8 (.t 59)),o1 61 (.pu (.bit .or) [.c (.i .u8 240),.t 60]),m1 62 1,o1 63 (.pu (.shf .shr) [.t 62,.c (.i .u64 12)]),o1 64 (.cvi .u8 (.t 63)),o1 65 (.pu (.bit .and) [.t 64,.c (.i .u8 63)]),o1 66 (.pu (.bit .or) [.c (.i .u8 128),.t 65]),m1 67 1,o1 68 (.pu (.shf .shr) [.t 67,.c (.i .u64 6)]),o1 69 (.cvi .u8 (.t 68)),o1 70 (.pu (.bit .and) [.t 69,.c (.i .u8 63)]),o1 71 (.pu (.bit .or) [.c (.i .u8 128),.t 70]),m1 72 1,o1 73 (.cvi .u8 (.t 72)),o1 74 (.pu (.bit .and) [.t 73,.c (.i .u8 63)]),o1 75 (.pu (.bit .or) [.c (.i .u8 128),.t 74]),o1 76 (.msl false 5 1 [.t 61,.t 66,.t 71,.t 75]),o1 77 (.app (.t 57) (.t 76) 5 1),m1 4 77] [4]
def U1:IC:=oS [m1 51 5,bC 52 .gtr 51 (.i .u32 65535),m1 53 52,BG 54 53 5,gT 55 53 (.bin .leq (.t 54) (.c (.i .u32 1114111))),pA 56 53 55,m1 50 56] [0,1,50] (cD 50 VW (oR [m1 8 0,o1 9 (.msl false 5 1 [.c (.i .u8 239),.c (.i .u8 191),.c (.i .u8 189)]),o1 10 (.app (.t 8) (.t 9) 5 1),m1 4 10] [4]))
def oU:IC:=.block 0 (oS [m1 12 5,bC 13 .leq 12 (.i .u32 2047),m1 11 13] [0,1,5,11] (cD 11 oZ (sQ (oS [m1 26 5,bC 27 .lss 26 (.i .u32 55296),m1 25 27] [0,1,5,25] (cD 25 .skip UY)) (cD 25 VL U1))))
def ZV:IC:=oS [mC 4 .nil] [0,1] (oS [m1 6 1,o1 7 (.cvi .u32 (.t 6)),m1 5 7] [0,1,5] oU)
@[push_cast]def Ai4:List R:=[.t 4]
@[push_cast]def Ar2:=As oZ.eq_1<|As UY.eq_1<|As VL.eq_1<|As VW.eq_1<|As U1.eq_1<|As oU.eq_1<|AL ZV.eq_1
theorem AhT:Aw Tryz.prog 318 78 ZV Ai4=true:=by kernel_rfl
end Go.Ir

namespace Go.Ir
open Go.Proofs
variable(W0:World)
theorem Ry(s:Aa):Am Tryz.prog W0 330 [.s s] [] (.b (Fw s)) []:=by
 have hc:=Kf W0 EF s (by decide)
 unfold Fw
 generalize hK:EF.contains s=K at *
 unfold EF at hc
 simp only[Ait,AkV] at hc
 refine Ai (vs:=[.b K]) Adi (by simp) (by simp) fun n0 hn0=>?_
 clear hn0
 simp only[push_cast,seval,reduceEqDiff]
 have _h:=trivial;repeat' (first|(first|((first|apply Ac|apply Ag|apply Af)<;>intro _h)|refine Ab hc ?_)<;>simp only[push_cast,seval,reduceEqDiff,_h]|intro _)
 exact Ah (by simp[get])
theorem Ez{α β:Type}(f:α->β)(l:List α)(x:α):List.map f l++[f x]=List.map f (l++[x]):=by simp
def GL(o:Option (List Aa)):V:=match o with
 | some l=>.sl (l.map V.s)
 | none=>.nil
def OC(o:Option (List Aa))(e:Int):Int:=if o.isSome then 0 else e
theorem Lv(s:Aa)(hs:s.length<=2^30):Am Tryz.prog W0 311 [.s s] [] (.tup [GL (Ck s),.i .i64 (OC (Ck s) 3)]) []:=by
 generalize hS:Ck s=S
 unfold Ck at hS
 refine Ai (vs:=[GL S,.i .i64 (OC S 3)]) Agy (by simp) (by simp) fun n0 hn0=>?_
 clear hn0
 simp only[push_cast,seval,reduceEqDiff]
 repeat' (first|(((first|apply Ac|apply Ag|apply Af)<;>intro _h)<;>simp only[push_cast,seval,reduceEqDiff,_h])|(refine Aq (by omega) ?_;simp only[push_cast,seval,reduceEqDiff])|intro _)
 rename_i k1 k2 k3 k4
 generalize n0+1+k1+1+k2+1+k3+1+k4=n1
 have h4:CF.length=4:=rfl
 refine An 4 (Inv:=fun m st=>∃done rest n id r out,CF=done++rest/\m=rest.length/\Cn rest r out=S/\r.length<=2^30/\out.length+rest.length<=4/\id.1<n/\st=⟨[(4,.arr id),(5,.s r),(11,.sl (CF.map V.s)),(12,.i .i64 CF.length),(13,.i .i64 done.length)],[(id,.arr 9 1 (out.map V.s))],n⟩) ⟨_,(Al.own (s:=4) (e:=9) (sz:=1) (k:=0) rfl).trans (Al.envD (env':=[(4,.arr (n1,0)),(5,.s s),(11,.sl (CF.map V.s)),(12,.i .i64 4),(13,.i .i64 0)]) (fun t=>?_) (AbG _)),[],CF,_,(n1,0),s,[],rfl,rfl,hS,hs,by decide,Acq _,rfl⟩ ?_
 ·left
  simp only[get]
  by_cases h:4=t
  ·subst h;simp
  ·simp[h,CF]
 clear hS hs
 rintro m _ ⟨done,rest,n,id,r,out,hz,rfl,hd,hr,ho,hi,rfl⟩
 cases rest with
 | nil=>
  have hlt:decide ((done.length:Int)<(CF.length:Int))=false:=by rw[hz];simp
  rw[Cn] at hd
  have hol:((out.length:Int)==0)=(out.length==0):=by cases out<;>simp<;>omega
  cases h1:(r==([]:Aa))<;>cases h2:(out.length==0)
  all_goals simp only[h1,h2,bq,if_true,if_false,Int.reduceBEq,reduceCtorEq,AsH,AsL] at hd
  all_goals subst hd
  all_goals simp only[push_cast,seval,reduceEqDiff,hlt,hol,h1,h2]
  all_goals repeat' (first|(((first|apply Ac|apply Ag|apply Af)<;>intro _h)<;>simp only[push_cast,seval,reduceEqDiff,_h,hlt,hol,h1,h2])|(refine Aq (by omega) ?_;simp only[push_cast,seval,reduceEqDiff,hlt,hol,h1,h2])|intro _)
  all_goals (first|(refine Ae ?_;simp[push_cast,get,GL,OC];done)|skip)
  refine LW (Al.frzAt (s:=4) (id:=id) rfl (by simp[lk]) (mA out) (AbG _)) ?_
  simp only[push_cast,seval,reduceEqDiff,hlt,hol]
  intros
  refine Ae ?_
  simp[push_cast,get,GL,OC]
 | cons k rest=>
  have hbd:=AN hz
  have hk:k∈CF:=by rw[hz];simp
  have hka:k.length=1/\∀b∈k,b.toNat<128:=by
   unfold CF at hk
   simp at hk
   rcases hk with rfl|rfl|rfl|rfl<;>simp
  have htl:=Oo W0 r k (by omega) hka.2
  have hle:=EO r k
  rw[Cn] at hd
  have hfd:=Ry W0 (r.take (r.length-(Lib.trimLeftS r k).length))
  generalize Lib.trimLeftS r k=T at *
  have w1:IntKind.i64.wrap ((r.length:Int)-(T.length:Int))=((r.length-T.length:Nat):Int):=by rw[wrap64 (by omega) (by omega)];omega
  have w2:(r.length-T.length<=r.length)=True:=eq_true (by omega)
  have w3:(out.length+1<=AM)=True:=eq_true (by simp at ho;unfold AM;omega)
  generalize hF:r.take (r.length-T.length)=F at *
  cases h1:(F==([]:Aa))<;>cases h2:Fw F
  all_goals simp only[h1,h2,bq,if_true,if_false,Int.reduceBEq,reduceCtorEq] at hd hfd
  all_goals simp only[push_cast,seval,reduceEqDiff,hz,Ad k (done:=done) (by omega),w1,w2,w3,hF,Ajt,AbG,Aip,Ae5,h1]
  all_goals repeat' (first|(((first|apply Ac|apply Ag|apply Af)<;>intro _h)<;>simp only[push_cast,seval,reduceEqDiff,_h,hz,Ad k (done:=done) (by omega),w1,w2,w3,hF,Ajt,AbG,Aip,Ae5,h1])|((first|refine Ab (by exact htl) ?_|refine Ab (by exact hfd) ?_|refine Aq (by omega) ?_);simp only[push_cast,seval,reduceEqDiff,hz,Ad k (done:=done) (by omega),w1,w2,w3,hF,Ajt,AbG,Aip,Ae5,h1])|intro _)
  ·subst hd
   refine Ae ?_
   simp[push_cast,get,GL,OC]
  ·rw[Ez]
   exact⟨_,_,Acq _,Al.refl,done++[k],rest,_,_,T,out++[F],by simp,rfl,hd,by omega,by simp at ho⊢;omega,by simp only;omega,rfl⟩
  ·exact⟨_,_,Acq _,Al.refl,done++[k],rest,_,id,r,out,by simp,rfl,hd,by omega,by simp at ho⊢;omega,by omega,rfl⟩
  ·exact⟨_,_,Acq _,Al.refl,done++[k],rest,_,id,r,out,by simp,rfl,hd,by omega,by simp at ho⊢;omega,by omega,rfl⟩
theorem Yk:∀(n m:Nat) (p:Aa) (out:List Aa),p.length<n->p.length<m->Cv n p out=Cv m p out:=by
 intro n
 induction n with
 | zero=>intro m p out h;omega
 | succ n ih=>
  intro m p out h1 h2
  cases m with
  | zero=>omega
  | succ m=>
   have hle:=EO p AX
   rw[Cv,Cv]
   split
   ·rfl
   ·rename_i hp
    have hp':1<=p.length:=by grind
    split
    ·grind
    ·rename_i hF
     have:(Lib.trimLeftS p AX).length<p.length:=by
      rcases Ar9 (Lib.trimLeftS p AX).length p.length with h|h
      ·exact h
      simp_all
     grind
theorem AgT(s:Aa)(hs:s.length<=2^30):Am Tryz.prog W0 312 [.s s] [] (.tup [GL (GY s),.b (GY s).isSome]) []:=by
 generalize hS:GY s=S
 unfold GY at hS
 refine Ai (vs:=[GL S,.b S.isSome]) AfO (by simp) (by simp) fun n0 hn0=>?_
 clear hn0
 simp only[push_cast,seval,reduceEqDiff]
 repeat' (first|(((first|apply Ac|apply Ag|apply Af)<;>intro _h)<;>simp only[push_cast,seval,reduceEqDiff,_h])|(refine Aq (by omega) ?_;simp only[push_cast,seval,reduceEqDiff])|intro _)
 rename_i k1 k2
 generalize n0+1+k1+1+k2=n1
 refine An s.length (Inv:=fun m st=>∃n id p out,m=p.length/\Cv (p.length+1) p out=S/\p.length<=2^30/\out.length+p.length<=2^30/\id.1<n/\st=⟨[(0,.s p),(4,.arr id)],[(id,.arr 9 1 (out.map V.s))],n⟩) ⟨_,(Al.own (s:=4) (e:=9) (sz:=1) (k:=0) rfl).trans (Al.envD (env':=[(0,.s s),(4,.arr (n1,0))]) (fun t=>?_) (AbG _)),_,(n1,0),s,[],rfl,hS,hs,by simpa using hs,Acq _,rfl⟩ ?_
 ·left
  simp only[get]
  grind
 clear hS hs
 rintro m _ ⟨n,id,p,out,rfl,hd,hp,ho,hi,rfl⟩
 cases p with
 | nil=>
  rw[Cv] at hd
  simp only[bq,if_true,if_false,Int.reduceBEq,reduceCtorEq,beq_self_eq_true] at hd
  subst hd
  simp only[push_cast,seval,reduceEqDiff]
  intros
  refine LW (Al.frzAt (s:=4) (id:=id) rfl (by simp[lk]) (mA out) (AbG _)) ?_
  simp only[push_cast,seval,reduceEqDiff]
  intros
  refine Ae ?_
  simp[push_cast,get,GL]
 | cons c p=>
  obtain⟨R,hR⟩:∃R,R=c::p:=⟨_,rfl⟩
  have htl:R.drop 1=p:=by rw[hR];rfl
  have hRl:R.length=p.length+1:=by rw[hR];simp
  rw[<-hR] at hd hp ho⊢
  have hb:(R==([]:Aa))=false:=by rw[hR];rfl
  clear hR
  have hc:=Oo W0 R AX (by decide) (by decide)
  have hle:=EO R AX
  rw[Cv,hb] at hd
  have hfd:=Ry W0 (R.take (R.length-(Lib.trimLeftS R AX).length))
  generalize Lib.trimLeftS R AX=T at *
  unfold AX at hc
  have w1:IntKind.i64.wrap ((R.length:Int)-(T.length:Int))=((R.length-T.length:Nat):Int):=by rw[wrap64 (by omega) (by omega)];omega
  have w2:(R.length-T.length<=R.length)=True:=eq_true (by omega)
  have w3:(out.length+1<=AM)=True:=eq_true (by unfold AM;omega)
  have w4:(1<=R.length)=True:=eq_true (by omega)
  have hFl:T.length=R.length->R.take (R.length-T.length)=[]:=fun h=>by rw[h];simp
  generalize hF:R.take (R.length-T.length)=F at *
  cases h1:(F==([]:Aa))<;>cases h2:Fw F
  all_goals simp only[h1,h2,bq,if_true,if_false,Int.reduceBEq,reduceCtorEq] at hd hfd
  all_goals simp only[push_cast,seval,reduceEqDiff,hb,w1,w2,w3,w4,hF,htl,Ajt,AbG,Aip,Ae5,h1]
  all_goals repeat' (first|(((first|apply Ac|apply Ag|apply Af)<;>intro _h)<;>simp only[push_cast,seval,reduceEqDiff,_h,hb,w1,w2,w3,w4,hF,htl,Ajt,AbG,Aip,Ae5,h1])|((first|refine Ab (by exact hc) ?_|refine Ab (by exact hfd) ?_|refine Aq (by omega) ?_);simp only[push_cast,seval,reduceEqDiff,hb,w1,w2,w3,w4,hF,htl,Ajt,AbG,Aip,Ae5,h1])|intro _)
  ·subst hd
   refine Ae ?_
   simp[push_cast,get,GL]
  ·rw[Ez]
   have hlt:T.length<R.length:=by
    grind
   exact⟨_,_,hlt,Al.refl,_,_,T,out++[F],rfl,by rw[Yk _ R.length T _ (by omega) hlt];exact hd,by omega,by simp;omega,by simp only;omega,rfl⟩
  ·exact⟨_,_,show p.length<R.length by omega,Al.refl,_,id,p,out,rfl,by grind,by omega,by omega,by omega,rfl⟩
  ·exact⟨_,_,show p.length<R.length by omega,Al.refl,_,id,p,out,rfl,by grind,by omega,by omega,by omega,rfl⟩
theorem Vi(l:List Aa)(hne:l≠[])(hl:l.length<=2^20)(h1:∀f∈l,1<=f.length):Am Tryz.prog W0 313 [.sl (l.map V.s)] [] (.tup [.s (FU l).1,.b (FU l).2]) []:=by
 generalize hS:FU l=S
 unfold FU Kj at hS
 refine Ai (vs:=[.s S.1,.b S.2]) Aig (by simp) (by simp) fun n0 hn0=>?_
 clear hn0
 simp only[push_cast,seval,reduceEqDiff]
 repeat' (first|(((first|apply Ac|apply Ag|apply Af)<;>intro _h)<;>simp only[push_cast,seval,reduceEqDiff,_h])|(refine Aq (by simp only[Aik,AhU,Aiy,A9]<;>omega) ?_;simp only[push_cast,seval,reduceEqDiff])|intro _)
 rename_i k1 k2 k3
 generalize n0+1+k1+1+k2+1+k3=n1
 refine An l.length (Inv:=fun m st=>∃done rest n id,l=done++rest/\m=rest.length/\n1<=n/\id.1<n/\st=⟨[(4,.arr id),(8,.sl (l.map V.s)),(9,.i .i64 l.length),(10,.i .i64 done.length)],[(id,.arr 9 1 ((done.map fun f=>f.take 1).map V.s))],n⟩) ⟨_,(Al.own (s:=4) (e:=9) (sz:=1) (k:=0) rfl).trans (Al.envD (env':=[(4,.arr (n1,0)),(8,.sl (l.map V.s)),(9,.i .i64 l.length),(10,.i .i64 0)]) (fun t=>?_) (AbG _)),[],l,_,(n1,0),rfl,rfl,Ani _,Acq _,rfl⟩ ?_
 ·left
  simp only[get]
  by_cases h:4=t
  ·subst h;simp
  ·simp[h]
 rintro m _ ⟨done,rest,n,id,hz,rfl,hn,hi,rfl⟩
 cases rest with
 | nil=>
  have hlt:decide ((done.length:Int)<(l.length:Int))=false:=by rw[hz];simp
  have hdl:done=l:=by rw[hz];simp
  rw[hdl]
  clear hz
  have hml:(l.map fun f=>f.take 1).length=l.length:=by simp
  have hmne:(l.map fun f=>f.take 1)≠[]:=by simpa using hne
  have hll:decide ((l.length:Int)<(l.length:Int))=false:=by simp
  rw[<-hml] at hS⊢
  obtain⟨G,hGd⟩:∃G,G=l.map fun f=>f.take 1:=⟨_,rfl⟩
  rw[<-hGd] at hS hml hmne⊢
  have hq:=AaF W0 G id hmne (by omega)
  have hgl:(G.mergeSort fun x y=>decide (x<=y)).length=G.length:=List.length_mergeSort ..
  have hgne:(G.mergeSort fun x y=>decide (x<=y))≠[]:=by intro h;rw[h] at hgl;simp at hgl;exact hmne (by simpa using hgl.symm)
  have hQm:∀l∈(G.mergeSort fun x y=>decide (x<=y)),l∈G:=fun l hl=>by simpa using hl
  generalize(G.mergeSort fun x y=>decide (x<=y))=Q at *
  have hcl:=Km Q
  rw[hgl] at hcl
  have hcm:∀l∈Lib.compact Q,l.length<=1:=by
   intro l hl
   have:=hQm l (K4 hl)
   rw[hGd] at this
   obtain⟨f,_,rfl⟩:=Apq.1 this
   simp;omega
  have hj:=lS W0 (Lib.compact Q) [] (by
   have:=Jk [] 1 0 (by simp) (Lib.compact Q) hcm
   omega)
  clear hQm hGd hcm
  have hc:=cS W0 Q id hgne (by omega)
  have hx:=LQ W0 Q
  simp only[push_cast,seval,reduceEqDiff,hll]
  intro k
  refine Mk hq (fun p hp=>by cases hp) ?_
  simp only[push_cast,seval,reduceEqDiff,hll]
  intro k2
  refine NO hc (fun _ _ h=>h) ?_
  rw[CB]
  simp only[push_cast,seval,reduceEqDiff,hll]
  intro k3
  have hne2:((n+1+k+1+k2,23):Id)≠id:=fun he=>by rw[<-he] at hi;simp only at hi;omega
  refine AV (LQ W0 Q _ hgne (by omega)) (fun i e h=>by
   simp only[lk] at h⊢
   split at h
   ·rename_i h0;rw[if_pos h0];exact h
   ·cases h) (fun n2 v σo hle hR=>?_)
  obtain⟨cid,i1,i2,rfl,rfl⟩:=hR
  have hov:over [((n+1+k+1+k2,23),AC.arr 9 1 (List.map V.s Q))] [(cid,AC.arr 9 1 (List.map V.s (Lib.compact Q)))] [((n+1+k+1+k2,23),AC.arr 9 1 (List.map V.s Q)),(id,AC.arr 9 1 (List.map V.s Q))]=[(cid,AC.arr 9 1 (List.map V.s (Lib.compact Q))),(id,AC.arr 9 1 (List.map V.s Q))]:=by
   have:=Jh (σi:=[((n+1+k+1+k2,23),AC.arr 9 1 (List.map V.s Q))]) (σo:=[(cid,AC.arr 9 1 (List.map V.s (Lib.compact Q)))]) (pre:=[]) (post:=[(id,AC.arr 9 1 (List.map V.s Q))]) (fun p hp=>by cases hp) (fun p hp q hq=>by simp at hp hq;subst hp hq;exact Ail hne2)
   simpa using this
  rw[hov]
  have hne3:(id=cid)=False:=eq_false fun he=>by rw[he] at hi;omega
  have hne4:(cid=id)=False:=eq_false fun he=>by rw[<-he] at hi;omega
  simp only[push_cast,seval,reduceEqDiff,hne3,hne4]
  intro k4
  refine LW (Al.frzAt (s:=7) (id:=cid) rfl (by simp only[lk,hne3,if_false]) (mA (Lib.compact Q)) (AbG _)) ?_
  simp only[push_cast,seval,reduceEqDiff,hne3,hne4]
  have _h:=trivial;repeat' (first|(first|((first|apply Ac|apply Ag|apply Af)<;>intro _h)|refine Ab hj ?_|refine Aq (by omega) ?_)<;>simp only[push_cast,seval,reduceEqDiff,_h,hne3,hne4]|intro _)
  have hcb:(((Lib.compact Q).length:Int)==(Q.length:Int))=((Lib.compact Q).length==G.length):=by rw[hgl,ApH];simp;omega
  subst hS
  refine Ae ?_
  simp[push_cast,get,hcb]
 | cons f rest=>
  have hbd:=AN hz
  have hf1:=h1 f (by rw[hz];simp)
  have w3:(done.length+1<=AM)=True:=eq_true (by unfold AM;omega)
  have w4:(1<=f.length)=True:=eq_true hf1
  simp only[push_cast,seval,reduceEqDiff,hz,Ad f (done:=done) (by omega),w3,w4,Ajt,AbG,Aip,Ae5]
  repeat' (first|(((first|apply Ac|apply Ag|apply Af)<;>intro _h)<;>simp only[push_cast,seval,reduceEqDiff,_h,hz,Ad f (done:=done) (by omega),w3,w4,Ajt,AbG,Aip,Ae5])|(refine Aq (by simp only[Aik,AhU,Aiy,A9]<;>omega) ?_;simp only[push_cast,seval,reduceEqDiff,hz,Ad f (done:=done) (by omega),w3,w4,Ajt,AbG,Aip,Ae5])|intro _)
  rw[Ez,Ez (fun f:Aa=>List.take 1 f)]
  exact⟨_,_,Acq _,Al.refl,done++[f],rest,_,_,by simp,rfl,by omega,by simp only;omega,rfl⟩
theorem PS:∀(ks:List Aa) (r:Aa) (out w:List Aa),Cn ks r out=some w->(∀f∈out,1<=f.length)->w≠[]/\w.length<=out.length+ks.length/\∀f∈w,1<=f.length:=by
 intro ks
 induction ks with
 | nil=>
  intro r out w h ho
  rw[Cn] at h
  grind
 | cons k ks ih=>
  intro r out w h ho
  rw[Cn] at h
  split at h
  ·grind
  ·rename_i hF
   split at h
   ·obtain⟨h1,h2,h3⟩:=ih _ _ _ h (fun f hf=>by
     grind
)
    grind
   ·cases h
theorem FP{s:Aa}{w:List Aa}(h:Ck s=some w):w≠[]/\w.length<=4/\∀f∈w,1<=f.length:=by
 have:=PS CF s [] w h (by simp)
 simpa[CF] using this
theorem Zt:∀(n:Nat) (p:Aa) (out g:List Aa),Cv n p out=some g->(∀f∈out,1<=f.length)->g.length<=out.length+p.length/\∀f∈g,1<=f.length:=by
 intro n
 induction n with
 | zero=>intro p out g h;cases h
 | succ n ih=>
  intro p out g h ho
  have hle:=EO p AX
  rw[Cv] at h
  split at h
  ·grind
  ·split at h
   ·grind
   ·rename_i hF
    split at h
    ·have hlt:(Lib.trimLeftS p AX).length<p.length:=by
      rcases Ar9 (Lib.trimLeftS p AX).length p.length with h|h
      ·exact h
      simp_all
     grind
    ·cases h
theorem rR{s:Aa}{g:List Aa}(h:GY s=some g):g.length<=s.length/\∀f∈g,1<=f.length:=by
 have:=Zt _ s [] g h (by simp)
 simpa using this
theorem Aa3(sk p:Aa)(h1:sk.length<=2^30)(h2:p.length<=2^20):Am Tryz.prog W0 277 [.s sk,.s p] [] (.b (Dq sk p)) []:=by
 have hf:=Lv W0 sk h1
 have hr:=AgT W0 p (by omega)
 generalize hS:Dq sk p=S
 unfold Dq at hS
 cases hF:Ck sk with
 | none=>
  rw[hF] at hf hS
  simp only[GL,OC,Ar7,AcL,if_false] at hf
  refine Ai (vs:=[.b S]) O8 (by simp) (by simp) fun n0 hn0=>?_
  clear hn0
  simp only[push_cast,seval,reduceEqDiff]
  cases hR:GY p with
  | none=>
   rw[hR] at hr hS
   simp only[GL,Ar7] at hr
   all_goals ((try simp only[bq,if_true,if_false,Int.reduceBEq,reduceCtorEq] at hS);subst hS)
   all_goals (try simp only[push_cast,seval,reduceEqDiff])
   all_goals (repeat' (first|((first|refine Ab (by exact hf) ?_|refine Ab (by exact hr) ?_|refine Aq (by omega) ?_);(try simp only[push_cast,seval,reduceEqDiff]))|intro _))
   all_goals (first|(refine Ah ?_;simp[get];done)|(refine Ae ?_;simp[push_cast,get];done)|skip)
  | some g=>
   rw[hR] at hr hS
   simp only[GL,AoA] at hr
   all_goals ((try simp only[bq,if_true,if_false,Int.reduceBEq,reduceCtorEq] at hS);subst hS)
   all_goals (try simp only[push_cast,seval,reduceEqDiff])
   all_goals (repeat' (first|((first|refine Ab (by exact hf) ?_|refine Ab (by exact hr) ?_|refine Aq (by omega) ?_);(try simp only[push_cast,seval,reduceEqDiff]))|intro _))
   all_goals (first|(refine Ah ?_;simp[get];done)|(refine Ae ?_;simp[push_cast,get];done)|skip)
 | some w=>
  rw[hF] at hf hS
  simp only[GL,OC,AoA,if_true] at hf
  obtain⟨a1,a2,a3⟩:=FP hF
  have k1:=Vi W0 w a1 (by omega) a3
  cases hR:GY p with
  | none=>
   rw[hR] at hr hS
   simp only[GL,Ar7] at hr
   refine Ai (vs:=[.b S]) O8 (by simp) (by simp) fun n0 hn0=>?_
   clear hn0
   simp only[push_cast,seval,reduceEqDiff]
   all_goals ((try simp only[bq,if_true,if_false,Int.reduceBEq,reduceCtorEq] at hS);subst hS)
   all_goals (try simp only[push_cast,seval,reduceEqDiff])
   all_goals (repeat' (first|((first|refine Ab (by exact hf) ?_|refine Ab (by exact hr) ?_|refine Aq (by omega) ?_);(try simp only[push_cast,seval,reduceEqDiff]))|intro _))
   all_goals (first|(refine Ah ?_;simp[get];done)|(refine Ae ?_;simp[push_cast,get];done)|skip)
  | some g=>
   rw[hR] at hr hS
   simp only[GL,AoA] at hr
   obtain⟨b1,b2⟩:=rR hR
   by_cases hg:g=[]
   ·subst hg
    simp only[AkV] at hr
    refine Ai (vs:=[.b S]) O8 (by simp) (by simp) fun n0 hn0=>?_
    clear hn0
    simp only[push_cast,seval,reduceEqDiff]
    all_goals ((try simp only[bq,if_true,if_false,Int.reduceBEq,reduceCtorEq] at hS);subst hS)
    all_goals (try simp only[push_cast,seval,reduceEqDiff])
    all_goals (repeat' (first|((first|refine Ab (by exact hf) ?_|refine Ab (by exact hr) ?_|refine Aq (by omega) ?_);(try simp only[push_cast,seval,reduceEqDiff]))|intro _))
    all_goals (first|(refine Ah ?_;simp[get];done)|(refine Ae ?_;simp[push_cast,get];done)|skip)
   ·have k2:=Vi W0 g hg (by omega) b2
    have hgl:((g.length:Int)==0)=false:=by simp_all
    have hgn:(g.length==0)=false:=by grind
    simp only[hgn] at hS
    refine Ai (vs:=[.b S]) O8 (by simp) (by simp) fun n0 hn0=>?_
    clear hn0
    simp only[push_cast,seval,reduceEqDiff,hgl]
    cases h1:(FU g).2
    all_goals simp only[h1] at k2 hS
    all_goals ((try simp only[bq,if_true,if_false,Int.reduceBEq,reduceCtorEq] at hS);subst hS)
    all_goals (try simp only[push_cast,seval,reduceEqDiff,hgl])
    all_goals (repeat' (first|((first|refine Ab (by exact hf) ?_|refine Ab (by exact hr) ?_|refine Ab (by exact k1) ?_|refine Ab (by exact k2) ?_|refine Aq (by omega) ?_);(try simp only[push_cast,seval,reduceEqDiff,hgl]))|intro _))
    all_goals (first|(refine Ah ?_;simp[get];done)|(refine Ae ?_;simp[push_cast,get];done)|skip)
end Go.Ir
section
namespace Go.Ir
section tree
variable{P:Aj→Prop}{Q:List Aj→Prop}{R:List AQ→Prop}
theorem fC(hp:∀p:Aj,R p.cases->Q p.parts->P p)(q0:Q [])(q1:∀p ps,P p->Q ps->Q (p::ps))(r0:R [])(r1:∀(c:AQ) (cs:List AQ),Q c.2->R cs->R (c::cs)) :
  ∀N,(∀p:Aj,p.wt<N->P p)/\(∀ps,Bd ps<N->Q ps)/\(∀cs,EB cs<N->R cs):=by
 intro N
 induction N with
 | zero=>grind
 | succ N ih=>
  have h1:∀p:Aj,p.wt<N+1->P p:=fun p h=>by
   rw[p.wt_eq] at h
   grind
  have h2:∀ps,Bd ps<N+1->Q ps:=by
   intro ps
   induction ps with
   | nil=>intro _;exact q0
   | cons p ps ih2=>intro h;rw[Bu] at h;grind
  refine⟨h1,h2,fun cs=>?_⟩
  induction cs with
  | nil=>intro _;exact r0
  | cons c cs ih2=>intro h;rw[BX] at h;grind
theorem cL(hp:∀p:Aj,R p.cases->Q p.parts->P p)(q0:Q [])(q1:∀p ps,P p->Q ps->Q (p::ps))(r0:R [])(r1:∀(c:AQ) (cs:List AQ),Q c.2->R cs->R (c::cs))(ps:List Aj):Q ps:=
 (fC hp q0 q1 r0 r1 _).2.1 ps (Acq _)
end tree
theorem pH{s:Aa}(h:Ca s=true):s≠[]:=by rintro rfl;cases h
theorem DM(k:Int):Bx k=true↔k=7\/k=8\/k=9:=by unfold Bx;simp;omega
theorem Apb{α:Type}{l:List α}(h:((l.length:Int)==0)=true):l=[]:=by
 simp_all
theorem Ou(p:Aj)(c:Bool)(h11:(p.kind==11)=false)(hs:Bx p.kind=false):Oe p c=(p.fieldsB&&!(p.kind==10&&!c)):=by
 obtain⟨k,t,nm,st,cs,ps⟩:=p
 simp only at h11 hs
 have h7:(k==7)=false/\(k==8)=false/\(k==9)=false:=by
  have:¬(k=7\/k=8\/k=9):=fun h=>by rw[(DM k).2 h] at hs;cases hs
  simp;omega
 obtain⟨h7,h8,h9⟩:=h7
 unfold Oe rL wT wN wS Aj.fieldsB AB
 simp only
 have ht:(t==t)=true:=by simp
 have hn:(nm==nm)=true:=by simp
 have hss:(st==st)=true:=by simp
 by_cases h1:k=1
 ·grind
 by_cases h10:k=10
 ·grind
 by_cases h2:k=2
 ·grind
 by_cases h3:k=3
 ·subst h3
  simp only[bq,if_true,if_false,Int.reduceBEq,reduceCtorEq,Int.reduceBEq,ht,hn,hss,FE]
  grind
 grind
theorem W4(n:Nat):decide ((n:Int)>0)=!((n:Int)==0):=by
 grind
theorem vO{k:Int}(h:Bx k=true):Aeo k=(k !=9):=by
 rcases(DM k).1 h with rfl|rfl|rfl<;>rfl
theorem Fc(ps:List Aj):∀d c prev l,(AY ps d c prev l).1=C6 ps (d+1) c prev:=by
 refine cL (P:=fun p=>∀d c l,((p.fieldsB&&!(p.kind==10&&!c))&&(p.chk d c l).1)=p.formedB (d+1) c)
  (Q:=fun ps=>∀d c prev l,(AY ps d c prev l).1=C6 ps (d+1) c prev)
  (R:=fun cs=>∀k d c n seen l,Bx k=true->(Dt cs k d c n seen l).1=(decide ((n:Int)<=20)&&CJ cs k d c seen)) ?_ ?_ ?_ ?_ ?_ ps
 ·intro p hr hq d c l
  rw[p.chk_eq,p.formedB_eq]
  by_cases h11:p.kind=11
  ·have hs:Bx p.kind=false:=by rw[h11];rfl
   have h11':(p.kind==11)=true:=by simpa using h11
   have h:=hq (d+1) c false l
   simp only[h11',hs,if_true,if_false,AcL]
   have hf:p.fieldsB=(Ca p.name&&(p.text==[]&&(p.style==[]&&((p.cases.length:Int)==0)))):=by
    unfold Aj.fieldsB AB;rw[h11];simp
   have h10:(p.kind==10)=false:=by rw[h11];rfl
   have hd:decide (d+1>8)=decide (d>=8):=by simp;omega
   have hc:=W4 p.cases.length
   rw[hf,h10]
   unfold SN
   grind
  ·have h11':(p.kind==11)=false:=by simpa using h11
   simp only[h11',if_false,AcL]
   cases hs:Bx p.kind with
   | true=>
    have h:=hr p.kind (d+1) c p.cases.length [] l hs
    have hf:p.fieldsB=(Ca p.name&&(p.text==[]&&(p.style==[]&&((p.parts.length:Int)==0)))):=by
     unfold Aj.fieldsB AB;rcases(DM _).1 hs with e|e|e<;>(rw[e];simp)
    have h10:(p.kind==10)=false:=by rcases(DM _).1 hs with e|e|e<;>(rw[e];rfl)
    have hd:decide (d+1>8)=decide (d>=8):=by simp;omega
    have hc:=W4 p.parts.length
    have h20:decide ((p.cases.length:Int)>20)=!decide ((p.cases.length:Int)<=20):=by
     rw[ApH];simp
    have h1:decide ((p.cases.length:Int)<1)=true->CJ p.cases p.kind (d+1) c []=false:=by
     intro hh
     have:p.cases=[]:=List.length_eq_zero_iff.1 (by simp at hh;omega)
     rw[this];simp[CJ]
    rw[hf,h10]
    unfold NQ
    grind
   | false=>
    simp only[if_false,AcL]
    rw[Ou p c h11' hs];simp
 ·intro d c prev l;rfl
 ·intro p ps hp hq d c prev l
  rw[Dy,M6,<-hp d c l]
  grind
 ·intro k d c n seen l _;simp[Dt,CJ]
 ·intro x cs hq hr k d c n seen l hs
  rw[Ib,MJ,vO hs,<-hq d (c||(k !=9)) false l]
  generalize(!MF k x.1||seen.contains x.1)=a1
  grind
mutual
def Aj.nms:Aj->List Aa
 | ⟨k,_,n,_,cs,ps⟩=>(if decide (k>=2)&&decide (k<=9) then[n] else[])++(DW ps++Gx cs)
def DW:List Aj->List Aa
 | []=>[]
 | p::ps=>p.nms++DW ps
def Gx:List (Aa×List Aj)->List Aa
 | []=>[]
 | (_,ps)::cs=>DW ps++Gx cs
end
theorem Aj.nms_eq(p:Aj):p.nms=(if decide (p.kind>=2)&&decide (p.kind<=9) then[p.name] else[])++(DW p.parts++Gx p.cases):=by cases p;simp only[Aj.nms]
theorem Ic(p:Aj)(ps:List Aj):DW (p::ps)=p.nms++DW ps:=by simp only[DW]
theorem SO(c:AQ)(cs:List AQ):Gx (c::cs)=DW c.2++Gx cs:=by obtain⟨k,q⟩:=c;simp only[Gx]
def Gn(l l' m:List Aa):Prop:=(∀x,x∈l'↔x∈l\/x∈m)/\(l.Nodup->l'.Nodup)
theorem Gn.refl(l:List Aa):Gn l l []:=⟨fun x=>by simp,fun h=>h⟩
theorem Gn.trans{a b c m n:List Aa}(h:Gn a b m)(k:Gn b c n):Gn a c (m++n):=
 ⟨fun x=>by rw[k.1,h.1];simp[or_assoc],fun hn=>k.2 (h.2 hn)⟩
theorem Gn.same{a b m n:List Aa}(h:Gn a b m)(hm:∀x,x∈m↔x∈n):Gn a b n:=⟨fun x=>by rw[h.1,hm],h.2⟩
theorem Sh{l:List Aa}{x:Aa}(h:l.Nodup)(hx:x∉l):(l++[x]).Nodup:=by
 grind
theorem ZN(x:Aa)(l:List Aa):Gn l (Pu x l) [x]:=by
 unfold Pu
 cases h:l.contains x with
 | true=>
  have hm:x∈l:=by simpa using h
  exact⟨fun y=>by simp;rintro rfl;exact hm,fun h=>h⟩
 | false=>
  have hm:x∉l:=by simpa using h
  exact⟨fun y=>by simp,fun h=>Sh h hm⟩
theorem PY{p:Aj}(h:p.fieldsB=true):(if decide (p.kind>=2)&&decide (p.kind<=9) then[p.name] else[])=(if !(p.kind==11)&&!(p.name==[]) then[p.name] else[]):=by
 obtain⟨k,t,nm,st,cs,ps⟩:=p
 unfold Aj.fieldsB AB at h
 simp only at h⊢
 have e:∀j:Int,k≠j->(k==j)=false:=fun j h=>by simpa using h
 by_cases k1:k=1
 ·grind
 by_cases k10:k=10
 ·grind
 rw[e 1 k1,e 10 k10] at h
 simp only[AcL,if_false,Aav] at h
 have hn:=pH h.1
 grind
theorem OF{p:Aj}(h:p.fieldsB=true):(Bx p.kind=false->p.cases=[])/\((p.kind==11)=false->p.parts=[])/\(p.kind==11||Bx p.kind->p.text=[]/\p.style=[]):=by
 obtain⟨k,t,nm,st,cs,ps⟩:=p
 unfold Aj.fieldsB AB at h
 simp only at h⊢
 have e:∀j:Int,k≠j->(k==j)=false:=fun j h=>by simpa using h
 have nil:∀{α:Type} (l:List α),((l.length:Int)==0)=true->l=[]:=fun l h=>Apb h
 by_cases k1:k=1
 ·subst k1;simp only[Int.reduceBEq,if_true,Aav] at h
  exact⟨fun _=>nil _ h.2.2.2.1,fun _=>nil _ h.2.2.2.2,fun hh=>by cases hh⟩
 by_cases k10:k=10
 ·grind
 rw[e 1 k1,e 10 k10] at h
 simp only[AcL,if_false,Aav] at h
 obtain⟨hn,ht,h⟩:=h
 by_cases k2:k=2
 ·grind
 by_cases Ti:k=11
 ·grind
 rw[e 2 k2,e 11 Ti] at h
 simp only[AcL,if_false] at h
 by_cases hs:Bx k=true
 ·have h789:(k==7||k==8||k==9)=true:=by rcases(DM k).1 hs with rfl|rfl|rfl<;>rfl
  grind
 ·have hs':Bx k=false:=by simpa using hs
  have n7:k≠7/\k≠8/\k≠9:=⟨fun e=>hs ((DM k).2 (.inl e)),fun e=>hs ((DM k).2 (.inr (.inl e))),fun e=>hs ((DM k).2 (.inr (.inr e)))⟩
  grind
theorem LG(ps:List Aj):∀d c prev l,(AY ps d c prev l).1=true->Gn l (AY ps d c prev l).2 (DW ps):=by
 refine cL (P:=fun p=>p.fieldsB=true->∀d c l,(p.chk d c l).1=true->Gn l (p.chk d c l).2 p.nms)
  (Q:=fun ps=>∀d c prev l,(AY ps d c prev l).1=true->Gn l (AY ps d c prev l).2 (DW ps))
  (R:=fun cs=>∀k d c n seen l,(Dt cs k d c n seen l).1=true->Gn l (Dt cs k d c n seen l).2 (Gx cs)) ?_ ?_ ?_ ?_ ?_ ps
 ·intro p hr hq hf d c l h
  obtain⟨hc,hp,_⟩:=OF hf
  rw[p.chk_eq] at h⊢
  rw[p.nms_eq,PY hf]
  have hfin:∀l2 m,Gn l l2 m->Gn l (if !(p.kind==11)&&!(p.name==[]) then Pu p.name l2 else l2) ((if !(p.kind==11)&&!(p.name==[]) then[p.name] else[])++m):=by
   intro l2 m hm
   cases(!(p.kind==11)&&!(p.name==[])) with
   | true=>
    simp only[if_true]
    exact(hm.trans (ZN p.name l2)).same fun x=>by grind
   | false=>simpa using hm
  by_cases h11:p.kind=11
  ·have hs:Bx p.kind=false:=by rw[h11];rfl
   have h11':(p.kind==11)=true:=by simpa using h11
   rw[hc hs]
   have h0:Gx []=[]:=by simp only[Gx]
   rw[h0,Aou]
   have h2:=hq (d+1) c false l
   simp only[h11',hs,if_true,if_false,AcL] at h hfin⊢
   grind
  ·have h11':(p.kind==11)=false:=by simpa using h11
   rw[hp h11']
   have h0:DW []=[]:=by simp only[DW]
   rw[h0,Aoq]
   simp only[h11',if_false,AcL] at h hfin⊢
   cases hs:Bx p.kind with
   | false=>
    rw[hs] at h
    rw[hc hs]
    have h0:Gx []=[]:=by simp only[Gx]
    rw[h0]
    simp only[if_false,AcL] at h⊢
    exact hfin l [] (Gn.refl l)
   | true=>
    rw[hs] at h
    have h2:=hr p.kind (d+1) c p.cases.length [] l
    simp only[if_true] at h⊢
    by_cases hd:decide (d>=8)=true
    ·rw[hd] at h;simp at h
    ·have hd':decide (d>=8)=false:=by simpa using hd
     rw[hd'] at h⊢
     simp only[AcL,if_false] at h⊢
     generalize Dt p.cases p.kind (d+1) c p.cases.length [] l=r at *
     obtain⟨b,l1⟩:=r
     cases b with
     | false=>simp at h
     | true=>exact hfin l1 _ (h2 rfl)
 ·intro d c prev l _;simp only[AY,DW];exact Gn.refl l
 ·intro p ps hp hq d c prev l h
  rw[Dy] at h⊢
  rw[Ic]
  split at h
  ·cases h
  ·rename_i hn
   rw[if_neg hn]
   have hf:p.fieldsB=true:=by
    grind
   have h1:=hp hf d c l
   generalize p.chk d c l=r at *
   obtain⟨b,l1⟩:=r
   cases b with
   | false=>simp at h
   | true=>exact(h1 rfl).trans (hq _ _ _ _ h)
 ·intro k d c n seen l _;simp only[Dt,Gx];exact Gn.refl l
 ·intro x cs hq hr k d c n seen l h
  rw[Ib] at h⊢
  rw[SO]
  split at h
  ·cases h
  ·rename_i hn
   rw[if_neg hn]
   have h1:=hq d (c||(k !=9)) false l
   generalize AY x.2 d (c||(k !=9)) false l=r at *
   obtain⟨b,l1⟩:=r
   cases b with
   | false=>simp at h
   | true=>exact(h1 rfl).trans (hr _ _ _ _ _ _ h)
theorem Kc{a b:List Aa}(ha:a.Nodup)(h:∀x∈a,x∈b):a.length<=b.length:=by
 induction a generalizing b with
 | nil=>simp
 | cons x a ih=>
  rw[AqP] at ha
  have hx:x∈b:=h x (by simp)
  have:=ih (b:=b.erase x) ha.2 fun y hy=>by
   grind
  grind
end Go.Ir
end
namespace Go.Ir
structure WfP (p:Aj):Prop where
 keys:Bx p.kind=true->∀c∈p.cases,MF p.kind c.1=true
 other:Bx p.kind=true->∃c∈p.cases,c.1=En
 cases0:Bx p.kind=false->p.cases=[]
 parts0:(p.kind==11)=false->p.parts=[]
 elem:(p.kind==11)=true->p.text=[]/\p.style=[]
 name:Bx p.kind=true->p.name.length<=40
def Sf(L:List Et)(p:Aj):Prop:=Bx p.kind=true->¬HI L p.kind p.name<0
theorem Sf.mono{L L':List Et}(h:DF L L'){p:Aj}(hp:Sf L p):Sf L' p:=fun hs=>by
 have:=hp hs
 rw[YA h _ _ this];exact this
def KS(G:Int->Aa->Prop)(l:List Et):Prop:=∀s∈l,∀k∈s.keys,G s.kind k
theorem KS.mod{G:Int->Aa->Prop}{l:List Et}(h:KS G l){j:Nat}{key:Aa}{s:Et}(hs:l[j]?=some s)(hk:G s.kind key):KS G (l.modify j (FQ key)):=by
 intro t ht k hkt
 obtain⟨i,hi⟩:=List.getElem?_of_mem ht
 rw[Atu] at hi
 by_cases hj:j=i
 ·subst hj
  rw[hs] at hi
  have h2:FQ key s=t:=by simpa using hi
  subst h2
  have hm:=Ai1 hs
  unfold FQ at hkt⊢
  split at hkt
  ·rename_i hc;rw[if_pos hc];exact h s hm k hkt
  ·rename_i hc;rw[if_neg hc]
   simp only[Aio,AsB] at hkt
   rcases hkt with hkt|rfl
   ·exact h s hm k hkt
   ·exact hk
 ·have:l[i]?=some t:=by
   grind
  exact h t (Ai1 this) k hkt
theorem KS.add{G:Int->Aa->Prop}{l:List Et}(h:KS G l)(k:Int)(n:Aa):KS G (RX l k n):=by
 unfold RX
 split
 ·intro s hs k hk
  rcases Aio.1 hs with hs|hs
  ·exact h s hs k hk
  grind
 ·exact h
theorem KS.nil(G:Int->Aa->Prop):KS G []:=fun s hs=>by cases hs

structure Ap2 (p:Aj):Prop where
 sel:Bx p.kind=false
 ten:(p.kind==10)=false
 cs:p.cases=[]
structure ArK (l:List Et):Prop where
 nm:∀s∈l,Bx s.kind=true/\Ca s.name=true
 nd:(l.map fun s=>(s.kind,s.name)).Nodup
 ks:∀s∈l,s.keys.Nodup
theorem oO(a b:List Aj):Bd (a++b)=Bd a+Bd b:=by
 induction a with
 | nil=>simp[PR]
 | cons x a ih=>rw[Akk,Bu,Bu,ih];omega
structure Ape (l:vM) (ps:List Aj) (F:jC):Prop where
 sound:Agl F=true
 some:0<F.2.length
 bare:∀v∈F.2,TL Ap2 v/\Bd v<=2^19/\(CX v=true->AmK l v=(([],[v]),0))
 only:KI ps=true->F.2=[ps]
 nm:∀s∈F.1,s.name.length<=40

end Go.Ir

namespace Go.Ir
open Go.Proofs
variable{P:Program}{W0:World}{nt n:Nat}{Q:Exit→St→Prop}{env:AD}{σ:Ak}
end Go.Ir

namespace Go.Ir
open Go.Proofs
variable(W0:World)

abbrev AmJ:=Aa×List Aj
def Alq(l:AmJ):V:=.agg [.s l.1,.sl (l.2.map Aj.enc)]

end Go.Ir

namespace Go.Ir
open Go.Proofs
variable{P:Program}{W0:World}{nt n:Nat}{Q:Exit→St→Prop}{env:AD}{σ:Ak}
end Go.Ir

namespace Go.Ir
open Go.Proofs
variable(W0:World)
end Go.Ir
section
namespace Go.Ir
abbrev X0:=List (List Aj)
mutual
def Aj.bld:Aj->X0->Aj×X0
 | ⟨k,t,n,s,cs,ps⟩,l=>if Bx k then(⟨k,t,n,s,(Wq cs l).1,ps⟩,(Wq cs l).2) else(⟨k,t,n,s,cs,l.headD []++(SJ ps l.tail).1⟩,(SJ ps l.tail).2)
def SJ:List Aj->X0->List Aj×X0
 | [],l=>([],l)
 | p::ps,l=>((p.bld l).1::((p.bld l).2.headD []++(SJ ps (p.bld l).2.tail).1),(SJ ps (p.bld l).2.tail).2)
def Wq:List (Aa×List Aj)->X0->List (Aa×List Aj)×X0
 | [],l=>([],l)
 | (k,ps)::cs,l=>((k,l.headD []++(SJ ps l.tail).1)::(Wq cs (SJ ps l.tail).2).1,(Wq cs (SJ ps l.tail).2).2)
end
end Go.Ir
end
namespace Go.Ir
structure WfK (p:Aj):Prop where
 bare:Bx p.kind=true->p.text=[]/\p.style=[]
 nodup:Bx p.kind=true->(p.cases.map (·.1)).Nodup
theorem ofNat_toNat{n:Nat}(h:n<256):(UInt8.ofNat n).toNat=n:=by
 simp_all
end Go.Ir
section
namespace Go.Ir
mutual
def Aj.cnt:Aj->Nat
 | ⟨k,_,_,_,cs,ps⟩=>if Bx k then AcU cs else 1+Ahb ps
def Ahb:List Aj->Nat
 | []=>0
 | p::ps=>p.cnt+(1+Ahb ps)
def AcU:List (Aa×List Aj)->Nat
 | []=>0
 | (_,ps)::cs=>1+Ahb ps+AcU cs
end
end Go.Ir
end
namespace Go.Ir
open Go.Proofs
variable{P:Program}{W0:World}{nt n:Nat}{Q:Exit→St→Prop}{env:AD}{σ:Ak}
end Go.Ir

namespace Go.Ir
open Go.Proofs
variable(W0:World)
def bx(l:List AmJ):AC:=.box (.agg [.sl (l.map Alq)])
theorem We{b:Id}{E e:AC}{i:Id}(h:lk [(b,E)] i=some e):i=b/\e=E:=by
 simp only[lk] at h
 grind
def HE(m:OL):List (V×V):=m.map fun e=>(.s e.1,.i .i64 e.2)
theorem Qt(k:Aa)(m:OL):∀n,(∃i v,Db m k=some v/\Bl .str (.s k) (HE m) n=some (some (n+i,.i .i64 v))/\∀x:Int,(HE m).modify i (fun e=>(e.1,.i .i64 x))=HE (K7 m k x))\/(Db m k=none/\Bl .str (.s k) (HE m) n=some none/\∀x:Int,HE m++[(.s k,.i .i64 x)]=HE (K7 m k x)):=by
 induction m with
 | nil=>intro n;exact .inr ⟨rfl,rfl,fun x=>rfl⟩
 | cons e m ih=>
  intro n
  have hu:Bl .str (.s k) (HE (e::m)) n=(match DY .str (.s k) (.s e.1) with
   | some true=>some (some (n,.i .i64 e.2))
   | some false=>Bl .str (.s k) (HE m) (n+1)
   | none=>none):=rfl
  have hk:DY .str (.s k) (.s e.1)=some (k==e.1):=rfl
  rw[hu,hk]
  simp only[Db,K7]
  by_cases h:e.1=k
  ·subst h
   refine .inl ⟨0,e.2,by simp,by simp,fun x=>by simp[HE]⟩
  ·have hb:(k==e.1)=false:=by simpa using Ail h
   have hb2:(e.1==k)=false:=by simpa using h
   rw[hb,hb2]
   rcases ih (n+1) with⟨i,v,h1,h2,h3⟩|⟨h1,h2,h3⟩
   ·refine .inl ⟨i+1,v,by simpa using h1,?_,fun x=>?_⟩
    ·grind
    ·have:=h3 x
     show(HE (e::m)).modify (i+1) _=_
     simp only[HE,Ait,List.modify_succ_cons,AcL,if_false] at this⊢
     rw[this]
   ·refine .inr ⟨by simpa using h1,by simpa using h2,fun x=>?_⟩
    have:=h3 x
    simp only[HE,Ait,Akk,AcL,if_false] at this⊢
    rw[this]
theorem dX(y:Int):Am Tryz.prog W0 310 [.i .i64 y] [] (.b (Jn y)) []:=by
 generalize hS:Jn y=S
 unfold Jn at hS
 refine Ai (vs:=[.b S]) Adu (by simp) (by simp) fun n0 hn0=>?_
 clear hn0
 simp only[push_cast,seval,reduceEqDiff]
 cases h1:(y.tmod 4==0)<;>cases h2:(y.tmod 100==0)<;>cases h3:(y.tmod 400==0)
 all_goals simp only[h1,h2,h3,bne,bq,if_true,if_false,Int.reduceBEq,reduceCtorEq,AsH,AsL,AqV,Ara,At0,AsZ] at hS
 all_goals subst hS
 all_goals simp only[push_cast,seval,reduceEqDiff,h1,h2,h3,bne]
 all_goals repeat' (first|(((first|apply Ac|apply Ag|apply Af)<;>intro _h)<;>simp only[push_cast,seval,reduceEqDiff,_h,h1,h2,h3,bne])|(refine Aq (by omega) ?_;simp only[push_cast,seval,reduceEqDiff,h1,h2,h3,bne])|intro _)
 all_goals exact Ah (by simp[get])
theorem uF(y:Int):Am Tryz.prog W0 273 [.i .i64 y] [] (.i .i64 (Dx y)) []:=by
 have h:=dX W0 y
 generalize hS:Dx y=S
 unfold Dx at hS
 generalize Jn y=B at *
 refine Ai (vs:=[.i .i64 S]) AhB (by simp) (by simp) fun n0 hn0=>?_
 clear hn0
 simp only[push_cast,seval,reduceEqDiff]
 cases B
 all_goals ((try simp only[bq,if_true,if_false,Int.reduceBEq,reduceCtorEq] at hS);subst hS)
 all_goals (try simp only[push_cast,seval,reduceEqDiff])
 all_goals (repeat' (first|((first|refine Ab (by exact h) ?_|refine Aq (by omega) ?_);(try simp only[push_cast,seval,reduceEqDiff]))|intro _))
 all_goals (first|(refine Ah ?_;simp[get];done)|(refine Ae ?_;simp[push_cast,get];done)|skip)
theorem Af3(y:Int)(m:Nat)(h1:1<=m)(h2:m<=12):Am Tryz.prog W0 274 [.i .i64 y,.i .i64 m] [] (.i .i64 (H9 y m)) []:=by
 have h:=dX W0 y
 generalize hS:H9 y m=S
 unfold H9 at hS
 generalize Jn y=B at *
 have hm:((m:Int)==2)=(m==2):=by grind
 have w1:IntKind.i64.wrap ((m:Int)-1)=((m-1:Nat):Int):=by rw[wrap64 (by omega) (by omega)];omega
 have hg:F9 (.aget 12 1 false) [.agg [.i .i64 31,.i .i64 28,.i .i64 31,.i .i64 30,.i .i64 31,.i .i64 30,.i .i64 31,.i .i64 31,.i .i64 30,.i .i64 31,.i .i64 30,.i .i64 31],.i .i64 ((m-1:Nat):Int)]=some (.i .i64 (yF.getD (m-1) 0)):=by
  have:m=1\/m=2\/m=3\/m=4\/m=5\/m=6\/m=7\/m=8\/m=9\/m=10\/m=11\/m=12:=by omega
  rcases this with rfl|rfl|rfl|rfl|rfl|rfl|rfl|rfl|rfl|rfl|rfl|rfl<;>rfl
 refine Ai (vs:=[.i .i64 S]) Aem (by simp) (by simp) fun n0 hn0=>?_
 clear hn0
 simp only[push_cast,seval,reduceEqDiff,hm,w1,hg]
 cases h2:(m==2)<;>cases B
 all_goals simp only[h2,bq,if_true,if_false,Int.reduceBEq,reduceCtorEq,AqV,Ara,Arn,As1] at hS
 all_goals subst hS
 all_goals simp only[push_cast,seval,reduceEqDiff,hm,w1,hg,h2]
 all_goals repeat' (first|(((first|apply Ac|apply Ag|apply Af)<;>intro _h)<;>simp only[push_cast,seval,reduceEqDiff,_h,hm,w1,hg,h2])|((first|refine Ab (by exact h) ?_|refine Aq (by omega) ?_);simp only[push_cast,seval,reduceEqDiff,hm,w1,hg,h2])|intro _)
 all_goals exact Ah (by simp[get])
theorem Yl(d:Int)(hd:D8 d=true):Am Tryz.prog W0 217 [.i .i64 d] [] (.tup [.i .i64 (((d+25567).tmod 7).toNat:Nat),.i .i64 0]) []:=by
 unfold D8 at hd
 simp only[AmN,AsK] at hd
 obtain⟨h1,h2⟩:=hd
 have h1':¬d < -25567:=of_decide_eq_false h1
 have h2':¬d>84005:=of_decide_eq_false h2
 have w1:IntKind.i64.wrap (d-(-25567))=d+25567:=by rw[wrap64 (by omega) (by omega)];omega
 have w2:(((d+25567).tmod 7).toNat:Int)=(d+25567).tmod 7:=by
  grind
 rw[w2]
 refine Ai (vs:=[.i .i64 ((d+25567).tmod 7),.i .i64 0]) Ahq (by simp) (by simp) fun n0 hn0=>?_
 clear hn0
 simp only[push_cast,seval,reduceEqDiff,h1,h2,w1]
 repeat' (first|(((first|apply Ac|apply Ag|apply Af)<;>intro _h)<;>simp only[push_cast,seval,reduceEqDiff,_h,h1,h2,w1])|(refine Aq (by omega) ?_;simp only[push_cast,seval,reduceEqDiff,h1,h2,w1])|intro _)
 all_goals (refine Ae ?_;simp[push_cast,get])
theorem aN(c:UInt8):Am Tryz.prog W0 278 [.i .u8 c.toNat] [] (.b (D0 c)) []:=by
 generalize hS:D0 c=S
 unfold D0 at hS
 refine Ai (vs:=[.b S]) Afy (by simp) (by simp) fun n0 hn0=>?_
 clear hn0
 simp only[push_cast,seval,reduceEqDiff]
 cases h1:decide ((c.toNat:Int)>=65)<;>cases h2:decide ((c.toNat:Int)<=90)<;>cases h3:decide ((c.toNat:Int)>=97)<;>cases h4:decide ((c.toNat:Int)<=122)
 all_goals simp only[h1,h2,h3,h4,bq,if_true,if_false,Int.reduceBEq,reduceCtorEq,AqV,Ara,At0,AsZ] at hS
 all_goals subst hS
 all_goals simp only[push_cast,seval,reduceEqDiff,h1,h2,h3,h4]
 all_goals repeat' (first|(((first|apply Ac|apply Ag|apply Af)<;>intro _h)<;>simp only[push_cast,seval,reduceEqDiff,_h,h1,h2,h3,h4])|(refine Aq (by omega) ?_;simp only[push_cast,seval,reduceEqDiff,h1,h2,h3,h4])|intro _)
 all_goals exact Ah (by simp[get])
theorem He(y:Int):365<=Dx y/\Dx y<=366:=by unfold Dx;split<;>omega
theorem VV(y:Int)(m:Nat)(h1:1<=m)(h2:m<=12):28<=H9 y m/\H9 y m<=31:=by
 have:m=1\/m=2\/m=3\/m=4\/m=5\/m=6\/m=7\/m=8\/m=9\/m=10\/m=11\/m=12:=by omega
 unfold H9 yF
 rcases this with rfl|rfl|rfl|rfl|rfl|rfl|rfl|rfl|rfl|rfl|rfl|rfl<;>cases Jn y<;>simp
theorem YK:∀(n m:Nat) (y d:Int),d<=n->d<=m->F7 n y d=F7 m y d:=by
 intro n
 induction n with
 | zero=>
  intro m y d h1 h2
  have hb:=He y
  cases m with
  | zero=>rfl
  | succ m=>rw[F7,F7,if_neg (by omega)]
 | succ n ih=>
  intro m y d h1 h2
  have hb:=He y
  cases m with
  | zero=>grind
  | succ m=>
   rw[F7,F7]
   grind
theorem vF:∀(n:Nat) (y d:Int),0<=d->d<=n->y<=(F7 n y d).1/\(F7 n y d).1<=y+d/\0<=(F7 n y d).2/\(F7 n y d).2<Dx (F7 n y d).1:=by
 intro n
 induction n with
 | zero=>
  intro y d h1 h2
  have hb:=He y
  rw[F7]
  grind
 | succ n ih=>
  intro y d h1 h2
  have hb:=He y
  rw[F7]
  split
  ·obtain⟨a,b,c,e⟩:=ih (y+1) (d-Dx y) (by omega) (by omega)
   omega
  ·simp only
   omega
def ER(y:Int):Nat->Nat->Int
 | 0,_=>0
 | n+1,m=>H9 y m+ER y n (m+1)
theorem QU(y:Int):ER y 12 1=Dx y:=by
 unfold ER ER ER ER ER ER ER ER ER ER ER ER ER
 unfold Dx H9 yF
 cases Jn y<;>simp
theorem tF(y:Int):∀(n m:Nat) (d:Int),n+m=13->1<=m->0<=d->d<ER y n m->m<=(M9 y n m d).1/\(M9 y n m d).1<=12/\0<=(M9 y n m d).2/\(M9 y n m d).2<31:=by
 intro n
 induction n with
 | zero=>intro m d h1 h2 h3 h4;simp[ER] at h4;omega
 | succ n ih=>
  intro m d h1 h2 h3 h4
  have hb:=VV y m h2 (by omega)
  rw[ER] at h4
  rw[M9]
  split
  ·grind
  omega
theorem NK{d:Int}(hd:D8 d=true):1900<=(GH d).1/\(GH d).1<=120000/\1<=(Fp d).1/\(Fp d).1<=12/\0<=(Fp d).2/\(Fp d).2<31:=by
 unfold D8 at hd
 simp only[AmN,AsK] at hd
 have h1':¬d < -25567:=of_decide_eq_false hd.1
 have h2':¬d>84005:=of_decide_eq_false hd.2
 obtain⟨a,b,c,e⟩:=vF (d+25567).toNat 1900 (d+25567) (by omega) (by omega)
 have h3:GH d=F7 (d+25567).toNat 1900 (d+25567):=rfl
 rw[<-h3] at a b c e
 obtain⟨a2,b2,c2,e2⟩:=tF (GH d).1 12 1 (GH d).2 rfl (by omega) c (by rw[QU];exact e)
 exact⟨a,by omega,a2,b2,c2,e2⟩
theorem VI(d:Int)(hd:D8 d=true):Am Tryz.prog W0 214 [.i .i64 d] [] (.tup [.i .i64 (GH d).1,.i .i64 (Fp d).1,.i .i64 ((Fp d).2+1),.i .i64 0]) []:=by
 have hd0:=hd
 obtain⟨q1,q2,q3,q4,q5,q6⟩:=NK hd0
 unfold D8 at hd
 simp only[AmN,AsK] at hd
 obtain⟨h1,h2⟩:=hd
 have h1':¬d < -25567:=of_decide_eq_false h1
 have h2':¬d>84005:=of_decide_eq_false h2
 have w1:IntKind.i64.wrap (d-(-25567))=d+25567:=by rw[wrap64 (by omega) (by omega)];omega
 generalize hY:GH d=Y at *
 generalize hM:Fp d=M at *
 have hY':F7 (d+25567).toNat 1900 (d+25567)=Y:=hY
 have hM':M9 Y.1 12 1 Y.2=M:=by rw[<-hM];unfold Fp;rw[hY]
 refine Ai (vs:=[.i .i64 Y.1,.i .i64 M.1,.i .i64 (M.2+1),.i .i64 0]) oC (by simp) (by simp) fun n0 hn0=>?_
 clear hn0
 simp only[push_cast,seval,reduceEqDiff,h1,h2,w1]
 repeat' (first|(((first|apply Ac|apply Ag|apply Af)<;>intro _h)<;>simp only[push_cast,seval,reduceEqDiff,_h,h1,h2,w1])|(refine Aq (by omega) ?_;simp only[push_cast,seval,reduceEqDiff,h1,h2,w1])|intro _)
 refine An (d+25567).toNat (Inv:=fun m st=>∃n y x,m=x.toNat/\0<=x/\x<=120000/\1900<=y/\y+x<=130000/\F7 x.toNat y x=Y/\st=⟨[(2,.i .i64 y),(3,.i .i64 1),(4,.i .i64 x)],[],n⟩) ⟨_,Al.refl,_,1900,d+25567,rfl,by omega,by omega,by omega,by omega,hY',rfl⟩ ?_
 rintro m _ ⟨n,y,x,rfl,x1,x2,y1,y2,hd,rfl⟩
 have hc:=uF W0 y
 have hb:=He y
 by_cases hx:x>=Dx y
 ·have g1:decide (x>=Dx y)=true:=by simpa using hx
  have w2:IntKind.i64.wrap (x-Dx y)=x-Dx y:=by rw[wrap64 (by omega) (by omega)]
  have w3:IntKind.i64.wrap (y+1)=y+1:=by rw[wrap64 (by omega) (by omega)]
  simp only[push_cast,seval,reduceEqDiff,w2,w3]
  have _h:=trivial;repeat' (first|(first|((first|apply Ac|apply Ag|apply Af)<;>intro _h)|refine Ab hc ?_|refine Aq (by omega) ?_)<;>simp only[push_cast,seval,reduceEqDiff,_h,w2,w3,g1]|intro _)
  refine⟨_,_,?_,Al.refl,_,y+1,x-Dx y,rfl,by omega,by omega,by omega,by omega,?_,rfl⟩
  ·omega
  ·rw[<-hd]
   obtain⟨q,hq⟩:∃q,x.toNat=q+1:=⟨x.toNat-1,by omega⟩
   rw[hq,F7,if_pos hx]
   exact YK _ _ _ _ (by omega) (by omega)
 ·have g1:decide (x>=Dx y)=false:=by simpa using hx
  have hyx:Y=(y,x):=by
   rw[<-hd]
   cases x.toNat with
   | zero=>rfl
   | succ q=>rw[F7,if_neg hx]
  rw[hyx] at hM'
  simp only[push_cast,seval,reduceEqDiff,g1]
  have _h:=trivial;repeat' (first|(first|((first|apply Ac|apply Ag|apply Af)<;>intro _h)|refine Ab hc ?_|refine Aq (by omega) ?_)<;>simp only[push_cast,seval,reduceEqDiff,_h,g1,g1]|intro _)
  have hsx:x<ER y 12 1:=by rw[QU];omega
  rename_i k
  generalize n+1+k=n2
  refine An 12 (Inv:=fun k st=>∃n m x,k+m=13/\1<=m/\0<=x/\x<ER y k m/\x<=120000/\M9 y k m x=M/\st=⟨[(2,.i .i64 y),(3,.i .i64 (m:Nat)),(4,.i .i64 x)],[],n⟩) ⟨_,Al.envD (env':=[(2,.i .i64 y),(3,.i .i64 (1:Nat)),(4,.i .i64 x)]) (fun s=>?_) (AbG _),_,1,x,rfl,AbG _,x1,hsx,x2,hM',rfl⟩ ?_
  ·by_cases h17:17=s
   ·subst h17;right;rfl
   ·left;simp[get,h17]
  rw[hyx]
  clear hM' hsx x1 x2 hd g1 hb hc hx hyx hY hY'
  rintro k _ ⟨n,m,x,hk,m1,x1,hsx,x2,hd,rfl⟩
  cases k with
  | zero=>simp[ER] at hsx;omega
  | succ k=>
   have hm:=Af3 W0 y m m1 (by omega)
   have hb:=VV y m m1 (by omega)
   rw[ER] at hsx
   rw[M9] at hd
   by_cases hx:x>=H9 y m
   ·have g1:decide (x>=H9 y m)=true:=by simpa using hx
    have w2:IntKind.i64.wrap (x-H9 y m)=x-H9 y m:=by rw[wrap64 (by omega) (by omega)]
    have w3:IntKind.i64.wrap ((m:Int)+1)=((m+1:Nat):Int):=by rw[wrap64 (by omega) (by omega)];omega
    rw[if_pos hx] at hd
    simp only[push_cast,seval,reduceEqDiff,w2,w3]
    have _h:=trivial;repeat' (first|(first|((first|apply Ac|apply Ag|apply Af)<;>intro _h)|refine Ab hm ?_|refine Aq (by omega) ?_)<;>simp only[push_cast,seval,reduceEqDiff,_h,w2,w3,g1]|intro _)
    exact⟨_,_,Acq _,Al.refl,_,m+1,x-H9 y m,by omega,by omega,by omega,by omega,by omega,hd,rfl⟩
   ·have g1:decide (x>=H9 y m)=false:=by simpa using hx
    rw[if_neg hx] at hd
    subst hd
    have w2:IntKind.i64.wrap (x+1)=x+1:=by rw[wrap64 (by omega) (by omega)]
    simp only[push_cast,seval,reduceEqDiff,w2]
    have _h:=trivial;repeat' (first|(first|((first|apply Ac|apply Ag|apply Af)<;>intro _h)|refine Ab hm ?_|refine Aq (by omega) ?_)<;>simp only[push_cast,seval,reduceEqDiff,_h,w2,g1]|intro _)
    refine Ae ?_
    simp[push_cast,get]
theorem F6(hT:BM W0)(n:Nat)(hn:n<2^40):Am Tryz.prog W0 222 [.i .i64 n] [] (.s (Ie n)) []/\(Ie n).length<=21:=by
 obtain⟨hi,hl⟩:=Fi W0 hT n (by omega)
 refine⟨?_,by unfold Ie;split<;>(try simp only[AhU])<;>omega⟩
 generalize hS:Ie n=S
 unfold Ie at hS
 generalize Lib.decDigits n=D at *
 have hm:decide ((n:Int)<10)=decide (n<10):=by rw[ApH];simp;omega
 refine Ai (vs:=[.s S]) AdO (by simp) (by simp) fun n0 hn0=>?_
 clear hn0
 simp only[push_cast,seval,reduceEqDiff,hm]
 cases h1:decide (n<10)
 ·have:=of_decide_eq_false h1
  rw[if_neg this] at hS
  subst hS
  simp only[push_cast,seval,reduceEqDiff,hm,h1]
  have _h:=trivial;repeat' (first|(first|((first|apply Ac|apply Ag|apply Af)<;>intro _h)|refine Ab hi ?_|refine Aq (by simp only[Aik,AhU,Aiy,A9]<;>omega) ?_)<;>simp only[push_cast,seval,reduceEqDiff,_h,hm,h1]|intro _)
  exact Ah (by simp[get])
 ·have:=of_decide_eq_true h1
  rw[if_pos this] at hS
  subst hS
  simp only[push_cast,seval,reduceEqDiff,hm,h1]
  have _h:=trivial;repeat' (first|(first|((first|apply Ac|apply Ag|apply Af)<;>intro _h)|refine Ab hi ?_|refine Aq (by simp only[Aik,AhU,Aiy,A9]<;>omega) ?_)<;>simp only[push_cast,seval,reduceEqDiff,_h,hm,h1]|intro _)
  exact Ah (by simp[get])
theorem RD(d:Int)(hd:D8 d=false):Am Tryz.prog W0 214 [.i .i64 d] [] (.tup [.i .i64 0,.i .i64 0,.i .i64 0,.i .i64 2]) []:=by
 unfold D8 at hd
 simp only[AsE] at hd
 refine Ai (vs:=[.i .i64 0,.i .i64 0,.i .i64 0,.i .i64 2]) oC (by simp) (by simp) fun n0 hn0=>?_
 clear hn0
 simp only[push_cast,seval,reduceEqDiff]
 cases h1:decide (d < -25567)<;>cases h2:decide (d>84005)
 ·rw[h1,h2] at hd;cases hd
 all_goals simp only[push_cast,seval,reduceEqDiff,h1,h2]
 all_goals repeat' (first|(((first|apply Ac|apply Ag|apply Af)<;>intro _h)<;>simp only[push_cast,seval,reduceEqDiff,_h,h1,h2])|(refine Aq (by omega) ?_;simp only[push_cast,seval,reduceEqDiff,h1,h2])|intro _)
 all_goals (refine Ae ?_;simp[push_cast,get])
theorem Lp(hT:BM W0)(d:Int):Am Tryz.prog W0 160 [.i .i64 d] [] (.s (Di d)) []/\(Di d).length<=100:=by
 cases hd:D8 d with
 | false=>
  have hc:=RD W0 d hd
  have hS:Di d=[]:=by unfold Di;rw[hd];rfl
  rw[hS]
  refine⟨?_,by simp⟩
  refine Ai (vs:=[.s []]) eB (by simp) (by simp) fun n0 hn0=>?_
  clear hn0
  simp only[push_cast,seval,reduceEqDiff]
  have _h:=trivial;repeat' (first|(first|((first|apply Ac|apply Ag|apply Af)<;>intro _h)|refine Ab hc ?_|refine Aq (by simp only[Aik,AhU,Aiy,A9]<;>omega) ?_)<;>simp only[push_cast,seval,reduceEqDiff,_h]|intro _)
  exact Ah (by simp[get])
 | true=>
  obtain⟨q1,q2,q3,q4,q5,q6⟩:=NK hd
  have hc:=VI W0 d hd
  obtain⟨y,hy⟩:∃y:Nat,(GH d).1=y:=⟨(GH d).1.toNat,by omega⟩
  obtain⟨x,hx⟩:∃x:Nat,(Fp d).2+1=x:=⟨((Fp d).2+1).toNat,by omega⟩
  have hS:Di d=Lib.decDigits y++[45]++Ie (Fp d).1++[45]++Ie x:=by
   unfold Di
   rw[hd,hy,hx]
   simp
  rw[hy,hx] at hc
  obtain⟨c1,l1⟩:=Fi W0 hT y (by omega)
  obtain⟨c2,l2⟩:=F6 W0 hT (Fp d).1 (by omega)
  obtain⟨c3,l3⟩:=F6 W0 hT x (by omega)
  rw[hS]
  generalize Lib.decDigits y=D1 at *
  generalize Ie (Fp d).1=D2 at *
  generalize Ie x=D3 at *
  refine⟨?_,by simp;omega⟩
  refine Ai (vs:=[.s (D1++[45]++D2++[45]++D3)]) eB (by simp) (by simp) fun n0 hn0=>?_
  clear hn0
  simp only[push_cast,seval,reduceEqDiff]
  have _h:=trivial;repeat' (first|(first|((first|apply Ac|apply Ag|apply Af)<;>intro _h)|refine Ab hc ?_|refine Ab c1 ?_|refine Ab c2 ?_|refine Ab c3 ?_|refine Aq (by simp only[Aik,AhU,Aiy,A9]<;>omega) ?_)<;>simp only[push_cast,seval,reduceEqDiff,_h]|intro _)
  exact Ah (by simp[get])
def lY:List Aa:=[[],[121]]
def lM:List Aa:=[[],[77]]
def lE:List Aa:=[[],[69]]
def lD:List Aa:=[[],[100]]
theorem KC{l d:List Aa}(h:l=d++[])(hl:l.length=2):decide ((d.length:Int)<2)=false:=by
 grind
theorem IA{l d r:List Aa}{y:Aa}(h:l=d++y::r)(hl:l.length=2):decide ((d.length:Int)<2)=true/\(l.map V.s)[d.length]?=some (.s y)/\IntKind.i64.wrap ((d.length:Int)+1)=((d++[y]).length:Int)/\y∈l:=by
 have hb:=AN h
 refine⟨by simp;omega,by rw[h];simp,Ad y (by omega),by rw[h];simp⟩
set_option maxHeartbeats 1000000 in
theorem AlV(p:Aa)(hp:p.length<=2^20):Am Tryz.prog W0 216 [.s p] [] (.b (YT p)) []:=by
 generalize hS:YT p=S
 have hS:lY.any (fun y=>lM.any fun m=>lE.any fun e=>lD.any fun d=>Dq (y++m++e++d) p)=S:=hS
 have ly:∀y∈lY,y.length<=1:=by decide
 have lm:∀y∈lM,y.length<=1:=by decide
 have le:∀y∈lE,y.length<=1:=by decide
 have ld:∀y∈lD,y.length<=1:=by decide
 refine Ai (vs:=[.b S]) AeW (by simp) (by simp) fun n0 hn0=>?_
 clear hn0
 simp only[push_cast,seval,reduceEqDiff]
 repeat' (first|(((first|apply Ac|apply Ag|apply Af)<;>intro _h)<;>simp only[push_cast,seval,reduceEqDiff,_h])|(refine Aq (by omega) ?_;simp only[push_cast,seval,reduceEqDiff])|intro _)
 refine An 2 (Inv:=fun k st=>∃d1 r1 n,lY=d1++r1/\k=r1.length/\(r1.any (fun y=>lM.any fun m=>lE.any fun e=>lD.any fun d=>Dq (y++m++e++d) p))=S/\st=⟨[(0,.s p),(11,.sl (lY.map V.s)),(12,.i .i64 2),(13,.i .i64 (d1.length:Nat))],[],n⟩) ⟨_,Al.refl,[],lY,_,rfl,rfl,hS,rfl⟩ ?_
 clear hS
 rintro _ _ ⟨d1,r1,n1,hz1,rfl,hd1,rfl⟩
 rcases r1 with _|⟨y,r1⟩
 ·have q1:=KC hz1 rfl
  simp only[List.any_nil,AsV] at hd1
  subst hd1
  simp only[push_cast,seval,reduceEqDiff,q1]
  intros
  exact Ah (by simp[get])
 obtain⟨a11,a12,a13,a14⟩:=IA hz1 rfl
 rw[AtR] at hd1
 simp only[push_cast,seval,reduceEqDiff,a11,a12]
 intros
 refine An 2 (Inv:=fun k st=>∃d2 r2 n,lM=d2++r2/\k=r2.length/\(r2.any (fun m=>lE.any fun e=>lD.any fun d=>Dq (y++m++e++d) p)||r1.any (fun y=>lM.any fun m=>lE.any fun e=>lD.any fun d=>Dq (y++m++e++d) p))=S/\st=⟨[(0,.s p),(4,.s y),(11,.sl (lY.map V.s)),(12,.i .i64 2),(13,.i .i64 (d1.length:Nat)),(17,.sl (lM.map V.s)),(18,.i .i64 2),(19,.i .i64 (d2.length:Nat))],[],n⟩) ⟨_,Al.refl,[],lM,_,rfl,rfl,hd1,rfl⟩ ?_
 clear hd1
 rintro _ _ ⟨d2,r2,n2,hz2,rfl,hd2,rfl⟩
 rcases r2 with _|⟨m,r2⟩
 ·have q1:=KC hz2 rfl
  simp only[List.any_nil,AsV] at hd2
  simp only[push_cast,seval,reduceEqDiff,q1,a13]
  intros
  exact⟨_,_,Acq _,Al.refl,d1++[y],r1,_,by rw[hz1];simp,rfl,hd2,rfl⟩
 obtain⟨a21,a22,a23,a24⟩:=IA hz2 rfl
 rw[AtR] at hd2
 simp only[push_cast,seval,reduceEqDiff,a21,a22]
 intros
 refine An 2 (Inv:=fun k st=>∃d3 r3 n,lE=d3++r3/\k=r3.length/\(r3.any (fun e=>lD.any fun d=>Dq (y++m++e++d) p)||r2.any (fun m=>lE.any fun e=>lD.any fun d=>Dq (y++m++e++d) p)||r1.any (fun y=>lM.any fun m=>lE.any fun e=>lD.any fun d=>Dq (y++m++e++d) p))=S/\st=⟨[(0,.s p),(4,.s y),(6,.s m),(11,.sl (lY.map V.s)),(12,.i .i64 2),(13,.i .i64 (d1.length:Nat)),(17,.sl (lM.map V.s)),(18,.i .i64 2),(19,.i .i64 (d2.length:Nat)),(23,.sl (lE.map V.s)),(24,.i .i64 2),(25,.i .i64 (d3.length:Nat))],[],n⟩) ⟨_,Al.refl,[],lE,_,rfl,rfl,hd2,rfl⟩ ?_
 clear hd2
 rintro _ _ ⟨d3,r3,n3,hz3,rfl,hd3,rfl⟩
 rcases r3 with _|⟨e,r3⟩
 ·have q1:=KC hz3 rfl
  simp only[List.any_nil,AsV] at hd3
  simp only[push_cast,seval,reduceEqDiff,q1,a23]
  intros
  exact⟨_,_,Acq _,Al.refl,d2++[m],r2,_,by rw[hz2];simp,rfl,hd3,rfl⟩
 obtain⟨a31,a32,a33,a34⟩:=IA hz3 rfl
 rw[AtR] at hd3
 simp only[push_cast,seval,reduceEqDiff,a31,a32]
 intros
 refine An 2 (Inv:=fun k st=>∃d4 r4 n,lD=d4++r4/\k=r4.length/\(r4.any (fun d=>Dq (y++m++e++d) p)||r3.any (fun e=>lD.any fun d=>Dq (y++m++e++d) p)||r2.any (fun m=>lE.any fun e=>lD.any fun d=>Dq (y++m++e++d) p)||r1.any (fun y=>lM.any fun m=>lE.any fun e=>lD.any fun d=>Dq (y++m++e++d) p))=S/\st=⟨[(0,.s p),(4,.s y),(6,.s m),(8,.s e),(11,.sl (lY.map V.s)),(12,.i .i64 2),(13,.i .i64 (d1.length:Nat)),(17,.sl (lM.map V.s)),(18,.i .i64 2),(19,.i .i64 (d2.length:Nat)),(23,.sl (lE.map V.s)),(24,.i .i64 2),(25,.i .i64 (d3.length:Nat)),(29,.sl (lD.map V.s)),(30,.i .i64 2),(31,.i .i64 (d4.length:Nat))],[],n⟩) ⟨_,Al.refl,[],lD,_,rfl,rfl,hd3,rfl⟩ ?_
 clear hd3
 rintro _ _ ⟨d4,r4,n4,hz4,rfl,hd4,rfl⟩
 rcases r4 with _|⟨d,r4⟩
 ·have q1:=KC hz4 rfl
  simp only[List.any_nil,AsV] at hd4
  simp only[push_cast,seval,reduceEqDiff,q1,a33]
  intros
  exact⟨_,_,Acq _,Al.refl,d3++[e],r3,_,by rw[hz3];simp,rfl,hd4,rfl⟩
 obtain⟨a41,a42,a43,a44⟩:=IA hz4 rfl
 rw[AtR] at hd4
 have hc:=Aa3 W0 (y++m++e++d) p (by have:=ly y a14;have:=lm m a24;have:=le e a34;have:=ld d a44;simp;omega) hp
 generalize Dq (y++m++e++d) p=B at *
 have k1:(y.length+m.length<=A9)=True:=eq_true (by have:=ly y a14;have:=lm m a24;unfold A9;omega)
 have k2:((y++m).length+e.length<=A9)=True:=eq_true (by have:=ly y a14;have:=lm m a24;have:=le e a34;unfold A9;simp;omega)
 have k3:((y++m++e).length+d.length<=A9)=True:=eq_true (by have:=ly y a14;have:=lm m a24;have:=le e a34;have:=ld d a44;unfold A9;simp;omega)
 cases B
 ·simp only[AsV] at hd4
  simp only[push_cast,seval,reduceEqDiff,a41,a42,k1,k2,k3]
  have _h:=trivial;repeat' (first|(first|((first|apply Ac|apply Ag|apply Af)<;>intro _h)|refine Ab hc ?_|refine Aq (by omega) ?_)<;>simp only[push_cast,seval,reduceEqDiff,_h,a41,a42,a43,k1,k2,k3]|intro _)
  exact⟨_,_,Acq _,Al.refl,d4++[d],r4,_,by rw[hz4];simp,rfl,hd4,rfl⟩
 ·simp only[Bool.true_or] at hd4
  subst hd4
  simp only[push_cast,seval,reduceEqDiff,a41,a42,k1,k2,k3]
  have _h:=trivial;repeat' (first|(first|((first|apply Ac|apply Ag|apply Af)<;>intro _h)|refine Ab hc ?_|refine Aq (by omega) ?_)<;>simp only[push_cast,seval,reduceEqDiff,_h,a41,a42,a43,k1,k2,k3]|intro _)
  exact Ah (by simp[get])
theorem gU(hT:BM W0)(x:LB)(f:Aa)(h1:x.y<2^40)(h2:1<=x.m/\x.m<=12)(h3:x.d<2^40)(h4:x.wd<7) :
  Am Tryz.prog W0 279 [.agg [.s x.L.tag,.s x.L.parent,.s x.L.dir,.sl (x.L.card.map AH.enc),.sl (x.L.ord.map AH.enc),.s x.L.dec,.s x.L.grp,.s x.L.minus,.s x.L.perc,.i .i64 x.L.prim,.i .i64 x.L.sec,.sl (x.L.lists.map Dc.enc),.sl (x.L.units.map Eb.enc),.sl (x.L.dates.map Dg.enc),.sl (x.L.months.map V.s),.sl (x.L.days.map V.s),.i .i64 x.y,.i .i64 x.m,.i .i64 x.d,.i .i64 x.wd],.s f] [] (.tup [.s (Fy x f).1,.i .i64 (Fy x f).2]) []:=by
 obtain⟨c1,l1⟩:=Fi W0 hT x.y (by omega)
 obtain⟨c2,l2⟩:=Fi W0 hT x.m (by omega)
 obtain⟨c3,l3⟩:=Fi W0 hT x.d (by omega)
 obtain⟨c4,l4⟩:=F6 W0 hT x.m (by omega)
 obtain⟨c5,l5⟩:=F6 W0 hT x.d (by omega)
 generalize hS:Fy x f=S
 unfold Fy at hS
 have w1:IntKind.i64.wrap ((x.m:Int)-1)=((x.m-1:Nat):Int):=by rw[wrap64 (by omega) (by omega)];omega
 have g1:x.L.months.length=12->(x.L.months.map V.s)[x.m-1]?=some (.s (x.L.months.getD (x.m-1) [])):=fun h=>by
  grind
 have g2:x.L.days.length=7->(x.L.days.map V.s)[x.wd]?=some (.s (x.L.days.getD x.wd [])):=fun h=>by
  grind
 generalize Lib.decDigits x.y=D1 at *
 generalize Lib.decDigits x.m=D2 at *
 generalize Lib.decDigits x.d=D3 at *
 generalize Ie x.m=D4 at *
 generalize Ie x.d=D5 at *
 refine Ai (vs:=[.s S.1,.i .i64 S.2]) AhN (by simp) (by simp) fun n0 hn0=>?_
 clear hn0
 simp only[push_cast,seval,reduceEqDiff,w1,bne]
 cases h1:(f==([121]:Aa)) with
 | true=>
  simp only[h1,bq,if_true,if_false,Int.reduceBEq,reduceCtorEq] at hS;subst hS
  simp only[push_cast,seval,reduceEqDiff,w1,bne,h1]
  have _h:=trivial;repeat' (first|(first|((first|apply Ac|apply Ag|apply Af)<;>intro _h)|refine Ab c1 ?_|refine Aq (by omega) ?_)<;>simp only[push_cast,seval,reduceEqDiff,_h,w1,bne,h1]|intro _)
  refine Ae ?_
  simp[push_cast,get]
 | false=>
 cases h2:(f==([77]:Aa)) with
 | true=>
  simp only[h1,h2,bq,if_true,if_false,Int.reduceBEq,reduceCtorEq] at hS;subst hS
  simp only[push_cast,seval,reduceEqDiff,w1,bne,h1,h2]
  have _h:=trivial;repeat' (first|(first|((first|apply Ac|apply Ag|apply Af)<;>intro _h)|refine Ab c2 ?_|refine Aq (by omega) ?_)<;>simp only[push_cast,seval,reduceEqDiff,_h,w1,bne,h1,h2]|intro _)
  refine Ae ?_
  simp[push_cast,get]
 | false=>
 cases h3:(f==([77,77]:Aa)) with
 | true=>
  simp only[h1,h2,h3,bq,if_true,if_false,Int.reduceBEq,reduceCtorEq] at hS;subst hS
  simp only[push_cast,seval,reduceEqDiff,w1,bne,h1,h2,h3]
  have _h:=trivial;repeat' (first|(first|((first|apply Ac|apply Ag|apply Af)<;>intro _h)|refine Ab c4 ?_|refine Aq (by omega) ?_)<;>simp only[push_cast,seval,reduceEqDiff,_h,w1,bne,h1,h2,h3]|intro _)
  refine Ae ?_
  simp[push_cast,get]
 | false=>
 cases h4:(f==([77,77,77]:Aa)) with
 | true=>
  cases hM:((x.L.months.length:Int)==12) with
  | true=>
   have hml:x.L.months.length=12:=by grind
   have g1:=g1 hml
   simp only[h1,h2,h3,h4,hM,bne,bq,if_true,if_false,Int.reduceBEq,reduceCtorEq,AsH] at hS;subst hS
   simp only[push_cast,seval,reduceEqDiff,w1,bne,h1,h2,h3,h4,hM]
   repeat' (first|(((first|apply Ac|apply Ag|apply Af)<;>intro _h)<;>simp only[push_cast,seval,reduceEqDiff,_h,w1,bne,h1,h2,h3,h4,hM,g1])|(refine Aq (by omega) ?_;simp only[push_cast,seval,reduceEqDiff,w1,bne,h1,h2,h3,h4,hM,g1])|intro _)
   simp only[push_cast,seval,reduceEqDiff,w1,bne,g1]
   intros
   refine Ae ?_
   simp[push_cast,get]
  | false=>
   simp only[h1,h2,h3,h4,hM,bne,bq,if_true,if_false,Int.reduceBEq,reduceCtorEq,AsL] at hS;subst hS
   simp only[push_cast,seval,reduceEqDiff,w1,bne,h1,h2,h3,h4,hM]
   repeat' (first|(((first|apply Ac|apply Ag|apply Af)<;>intro _h)<;>simp only[push_cast,seval,reduceEqDiff,_h,w1,bne,h1,h2,h3,h4,hM])|(refine Aq (by omega) ?_;simp only[push_cast,seval,reduceEqDiff,w1,bne,h1,h2,h3,h4,hM])|intro _)
   refine Ae ?_
   simp[push_cast,get]
 | false=>
 cases h5:(f==([69]:Aa)) with
 | true=>
  cases hM:((x.L.days.length:Int)==7) with
  | true=>
   have hml:x.L.days.length=7:=by grind
   have g2:=g2 hml
   simp only[h1,h2,h3,h4,h5,hM,bne,bq,if_true,if_false,Int.reduceBEq,reduceCtorEq,AsH] at hS;subst hS
   simp only[push_cast,seval,reduceEqDiff,w1,bne,h1,h2,h3,h4,h5,hM]
   repeat' (first|(((first|apply Ac|apply Ag|apply Af)<;>intro _h)<;>simp only[push_cast,seval,reduceEqDiff,_h,w1,bne,h1,h2,h3,h4,h5,hM,g2])|(refine Aq (by omega) ?_;simp only[push_cast,seval,reduceEqDiff,w1,bne,h1,h2,h3,h4,h5,hM,g2])|intro _)
   simp only[push_cast,seval,reduceEqDiff,w1,bne,g2]
   intros
   refine Ae ?_
   simp[push_cast,get]
  | false=>
   simp only[h1,h2,h3,h4,h5,hM,bne,bq,if_true,if_false,Int.reduceBEq,reduceCtorEq,AsL] at hS;subst hS
   simp only[push_cast,seval,reduceEqDiff,w1,bne,h1,h2,h3,h4,h5,hM]
   repeat' (first|(((first|apply Ac|apply Ag|apply Af)<;>intro _h)<;>simp only[push_cast,seval,reduceEqDiff,_h,w1,bne,h1,h2,h3,h4,h5,hM])|(refine Aq (by omega) ?_;simp only[push_cast,seval,reduceEqDiff,w1,bne,h1,h2,h3,h4,h5,hM])|intro _)
   refine Ae ?_
   simp[push_cast,get]
 | false=>
 cases h6:(f==([100]:Aa)) with
 | true=>
  simp only[h1,h2,h3,h4,h5,h6,bq,if_true,if_false,Int.reduceBEq,reduceCtorEq] at hS;subst hS
  simp only[push_cast,seval,reduceEqDiff,w1,bne,h1,h2,h3,h4,h5,h6]
  have _h:=trivial;repeat' (first|(first|((first|apply Ac|apply Ag|apply Af)<;>intro _h)|refine Ab c3 ?_|refine Aq (by omega) ?_)<;>simp only[push_cast,seval,reduceEqDiff,_h,w1,bne,h1,h2,h3,h4,h5,h6]|intro _)
  refine Ae ?_
  simp[push_cast,get]
 | false=>
  simp only[h1,h2,h3,h4,h5,h6,bq,if_true,if_false,Int.reduceBEq,reduceCtorEq] at hS;subst hS
  simp only[push_cast,seval,reduceEqDiff,w1,bne,h1,h2,h3,h4,h5,h6]
  have _h:=trivial;repeat' (first|(first|((first|apply Ac|apply Ag|apply Af)<;>intro _h)|refine Ab c5 ?_|refine Aq (by omega) ?_)<;>simp only[push_cast,seval,reduceEqDiff,_h,w1,bne,h1,h2,h3,h4,h5,h6]|intro _)
  refine Ae ?_
  simp[push_cast,get]
theorem EG(σ σo:Ak):over σ σo σ=σo:=by
 have:=DZ (σi:=σ) (σo:=σo) (pre:=[]) (fun p hp=>by cases hp)
 simpa using this
theorem ZM(σo σ:Ak):over [] σo σ=σo++σ:=by
 unfold over
 congr 1
 rw[AtL]
 intro p _
 rfl
theorem I4{P:Program}{W0:World}{f:FuncId}{args:List V}{v:V}(h:Am P W0 f args [] v []):Ei P W0 f args [] (fun n n' u σ'=>u=v/\σ'=[]) where
 callable:=h.callable
 run:=fun n w μ H vals hp hv=>(h.run n w μ H vals hp hv).mono fun e w' ⟨val,μ',H',n',h1,h2,h3,h4,h5,h6⟩=>⟨val,μ',H',n',v,[],h1,⟨rfl,rfl⟩,h2,h3,h4,h5,h6⟩
theorem Vg(sk:Aa)(hs:sk.length<=2^30)(h:Ck sk=none):Am Tryz.prog W0 275 [.s sk] [] (.tup [.nm,.b false]) []:=by
 have hf:=Lv W0 sk hs
 rw[h] at hf
 simp only[GL,OC,Ar7,AcL,if_false] at hf
 refine Ai (vs:=[.nm,.b false]) dB (by simp) (by simp) fun n0 hn0=>?_
 clear hn0
 simp only[push_cast,seval,reduceEqDiff]
 have _h:=trivial;repeat' (first|(first|((first|apply Ac|apply Ag|apply Af)<;>intro _h)|refine Ab hf ?_|refine Aq (by omega) ?_)<;>simp only[push_cast,seval,reduceEqDiff,_h]|intro _)
 refine Ae ?_
 simp[push_cast,get]
def AcX(m:OL)(n n':Nat)(v:V)(σ':Ak):Prop:=∃mid:Id,n<=mid.1/\mid.1<n'/\v=.tup [.arr mid,.b true]/\σ'=[(mid,.map (HE m))]
theorem n8(sk:Aa)(l:List Aa)(hs:sk.length<=2^30)(h:Ck sk=some l):Ei Tryz.prog W0 275 [.s sk] [] (AcX (E5 l)):=by
 have hf:=Lv W0 sk hs
 rw[h] at hf
 simp only[GL,OC,AoA,if_true] at hf
 obtain⟨_,hl4,hl1⟩:=FP h
 generalize hS:E5 l=S
 unfold E5 at hS
 generalize hR:AcX S=R
 refine BP dB (by simp) fun n0 hn0=>?_
 clear hn0
 simp only[push_cast,seval,reduceEqDiff]
 have _h:=trivial;repeat' (first|(first|((first|apply Ac|apply Ag|apply Af)<;>intro _h)|refine Ab hf ?_|refine Aq (by omega) ?_)<;>simp only[push_cast,seval,reduceEqDiff,_h]|intro _)
 rename_i k1 k2 k3 k4 k5
 generalize hmid:((n0+1+k1+1+k2+1+k3,16):Id)=mid
 have hm1:n0<=mid.1:=by grind
 have hm2:mid.1<n0+1+k1+1+k2+1+k3+1+k4+1+k5:=by grind
 generalize n0+1+k1+1+k2+1+k3+1+k4+1+k5=n1 at *
 refine An l.length (Inv:=fun m st=>∃done rest n M,l=done++rest/\m=rest.length/\rest.foldl (fun m f=>K7 m (f.take 1) f.length) M=S/\mid.1<n/\st=⟨[(6,.arr mid),(17,.sl (l.map V.s)),(18,.i .i64 l.length),(19,.i .i64 done.length)],[(mid,.map (HE M))],n⟩) ⟨_,Al.refl,[],l,_,[],rfl,rfl,hS,hm2,rfl⟩ ?_
 clear hS hm2
 rintro m _ ⟨done,rest,n,M,hz,rfl,hd,hi,rfl⟩
 cases rest with
 | nil=>
  simp only[List.foldl_nil] at hd
  subst hd
  simp only[push_cast,seval,reduceEqDiff,hz]
  intros
  subst hR
  exact⟨_,Al.refl,[.arr mid,.b true],_,⟨rfl,rfl,trivial⟩,fun _ _ h=>h,mid,by omega,by simp only;omega,rfl,rfl⟩
 | cons f rest=>
  have hbd:=AN hz
  have w4:(1<=f.length)=True:=eq_true (hl1 f (by rw[hz];simp))
  rw[At6] at hd
  rcases Qt (f.take 1) M 0 with⟨i,v,h1,h2,h3⟩|⟨h1,h2,h3⟩
  ·simp only[Atk] at h2
   simp only[push_cast,seval,reduceEqDiff,hz,Ad f (done:=done) (by omega),w4,h2,h3]
   repeat' (first|(((first|apply Ac|apply Ag|apply Af)<;>intro _h)<;>simp only[push_cast,seval,reduceEqDiff,_h,hz,Ad f (done:=done) (by omega),w4,h2,h3])|(refine Aq (by omega) ?_;simp only[push_cast,seval,reduceEqDiff,hz,Ad f (done:=done) (by omega),w4,h2,h3])|intro _)
   exact⟨_,_,Acq _,Al.refl,done++[f],rest,_,_,by simp,rfl,hd,by omega,rfl⟩
  ·skip
   simp only[push_cast,seval,reduceEqDiff,hz,Ad f (done:=done) (by omega),w4,h2,h3]
   repeat' (first|(((first|apply Ac|apply Ag|apply Af)<;>intro _h)<;>simp only[push_cast,seval,reduceEqDiff,_h,hz,Ad f (done:=done) (by omega),w4,h2,h3])|(refine Aq (by omega) ?_;simp only[push_cast,seval,reduceEqDiff,hz,Ad f (done:=done) (by omega),w4,h2,h3])|intro _)
   exact⟨_,_,Acq _,Al.refl,done++[f],rest,_,_,by simp,rfl,hd,by omega,rfl⟩
def Gf(f:Nat->Int):List Nat->Int
 | []=>0
 | i::l=>f i+Gf f l
theorem Ms(f:Nat->Int):∀(l:List Nat) (i:Nat),i∈l->Gf f l=f i+Gf f (l.erase i)
 | [],i,h=>by cases h
 | x::l,i,h=>by
  by_cases hx:x=i
  ·subst hx;simp[Gf]
  ·have:i∈l:=by grind
   rw[List.erase_cons_tail (by simpa using hx),Gf,Gf,Ms f l i this]
   omega
theorem Mu(f:Nat->Int):∀(l:List Nat) (i:Nat),Gf f (l++[i])=Gf f l+f i
 | [],i=>by simp[Gf]
 | x::l,i=>by rw[Akk,Gf,Gf,Mu f l i];omega
theorem IL:∀(n:Nat) (l:List Nat),l.Nodup->(∀i∈l,i<n)->l.length<=n
 | 0,l,_,h=>by
  cases l with
  | nil=>simp
  | cons x l=>exact absurd (h x (by simp)) (by omega)
 | n+1,l,hd,h=>by
  by_cases hn:n∈l
  ·have:=IL n (l.erase n) (hd.erase n) fun i hi=>by
    grind
   grind
  ·have:=IL n l hd fun i hi=>by
    grind
   omega
theorem Q7(f:Nat->Int):∀(n:Nat) (l:List Nat),l.Nodup->(∀i∈l,i<n)->(∀i,i<n->i∈l)->Gf f l=Gf f (List.range n)
 | 0,l,_,h,_=>by
  cases l with
  | nil=>rfl
  | cons x l=>exact absurd (h x (by simp)) (by omega)
 | n+1,l,hd,h,ha=>by
  rw[List.range_succ,Mu,Ms f l n (ha n (by omega))]
  have:=Q7 f n (l.erase n) (hd.erase n) (fun i hi=>by
    have h1:=h i (List.mem_of_mem_erase hi)
    have h2:i≠n:=fun he=>by rw[he] at hi;exact(List.Nodup.not_mem_erase hd) hi
    omega) (fun i hi=>(List.mem_erase_of_ne (by omega)).2 (ha i (by omega)))
  omega
theorem SC(g:(Aa×Int)->Int):∀(a:OL),Gf (fun i=>match a[i]? with|some e=>g e|none=>0) (List.range a.length)=(a.map g).sum:=by
 have key:∀(a b:OL),Gf (fun i=>match(b++a)[i]? with|some e=>g e|none=>0) ((List.range a.length).map (· + b.length))=(a.map g).sum:=by
  intro a
  induction a with
  | nil=>intro b;rfl
  | cons e a ih=>
   intro b
   rw[AhU,List.range_succ_eq_map,Ait,Gf,Ait,List.sum_cons]
   have h1:(b++e::a)[0+b.length]?=some e:=by simp
   rw[h1]
   simp only[List.map_map]
   have:=ih (b++[e])
   simp only[Ask,AtU,Aik,AhU,Aiy] at this
   rw[<-this]
   congr 2
   apply As6
   grind
 intro a
 simpa using key a []
def wtE(b:OL)(e:Aa×Int):Int:=max (e.2-(Db b e.1).getD 0) ((Db b e.1).getD 0-e.2)
theorem Ah8{b:OL}(hb:∀e∈b,0<=e.2/\e.2<=2^30){e:Aa×Int}(he:0<=e.2/\e.2<=2^30):0<=(Db b e.1).getD 0/\(Db b e.1).getD 0<=2^30:=by
 have:∀(b:OL),(∀e∈b,0<=e.2/\e.2<=2^30)->0<=(Db b e.1).getD 0/\(Db b e.1).getD 0<=2^30:=by
  intro b
  induction b with
  | nil=>intro _;simp[Db]
  | cons x b ih=>
   intro h
   rw[Db]
   grind
 exact this b hb
theorem cR(a b:OL):(a.map fun e=>max (e.2-(Db b e.1).getD 0) ((Db b e.1).getD 0-e.2)).sum=Gf (fun i=>match a[i]? with|some e=>wtE b e|none=>0) (List.range a.length):=(SC (wtE b) a).symm
theorem Ad5(a b:OL)(aid bid:Id)(hne:aid≠bid)(ha:∀e∈a,0<=e.2/\e.2<=2^30)(hb:∀e∈b,0<=e.2/\e.2<=2^30)(hla:a.length<=2^20) :
  Am Tryz.prog W0 276 [.arr aid,.arr bid] [(aid,.map (HE a)),(bid,.map (HE b))] (.tup [.i .i64 (Kq a b).1,.b (Kq a b).2]) [(aid,.map (HE a)),(bid,.map (HE b))]:=by
 have hal:(HE a).length=a.length:=by simp[HE]
 have hbl:(HE b).length=b.length:=by simp[HE]
 have f1:(aid=bid)=False:=eq_false hne
 have f2:(bid=aid)=False:=eq_false (Ail hne)
 generalize hS:Kq a b=S
 unfold Kq at hS
 rw[cR] at hS
 refine Ai (vs:=[.i .i64 S.1,.b S.2]) Ahz (by simp) (fun _ h=>h) fun n0 hn0=>?_
 have h1:aid.1<n0:=hn0 aid _ (by simp[lk];rfl)
 have h2:bid.1<n0:=hn0 bid _ (by simp[lk,hne];rfl)
 clear hn0
 simp only[push_cast,seval,reduceEqDiff,f1,f2]
 intros
 rename_i k1 k2 k3
 generalize hmid:((n0+1+k1+1+k2,12):Id)=mid
 have hma:mid≠aid:=fun he=>by grind
 have hmb:mid≠bid:=fun he=>by grind
 have f3:(mid=aid)=False:=eq_false hma
 have f4:(mid=bid)=False:=eq_false hmb
 have f5:(aid=mid)=False:=eq_false (Ail hma)
 have f6:(bid=mid)=False:=eq_false (Ail hmb)
 refine An a.length (Inv:=fun m st=>∃seen n x,m+seen.length=a.length/\seen.Nodup/\(∀i∈seen,i<a.length)/\(∀i e,i∈seen->a[i]?=some e->(Db b e.1).isSome=true)/\x=Gf (fun i=>match a[i]? with|some e=>wtE b e|none=>0) seen/\0<=x/\x<=seen.length*2^30/\st=⟨[(0,.arr aid),(1,.arr bid),(6,.i .i64 x),(12,.arr mid)],[(mid,.mit aid (HE a).length seen (HE a).length),(aid,.map (HE a)),(bid,.map (HE b))],n⟩) ⟨_,Al.refl,[],_,0,rfl,List.nodup_nil,(by simp),(by simp),rfl,(by omega),(by simp),rfl⟩ ?_
 rintro m _ ⟨seen,n,x,hm,hnd,hsb,hsl,hx,x1,x2,rfl⟩
 have hsa:=IL _ _ hnd hsb
 simp only[push_cast,seval,reduceEqDiff,f1,f2]
 refine Wc (id:=mid) (mid:=aid) (es:=HE a) (seen:=seen) rfl (by simp[lk]) (by simp[lk,f3]) (by simp) (by simp) (fun i kv hi hns=>?_) (fun hall=>?_)
 ·obtain⟨e,he,rfl⟩:∃e,a[i]?=some e/\kv=(.s e.1,.i .i64 e.2):=by
   unfold HE at hi
   grind
  have hil:i<a.length:=(AlY.1 he).1
  have hea:=ha e (Ai1 he)
  have hlast:(seen++[i]).getLast?=some i:=by simp
  have hnd2:(seen++[i]).Nodup:=by
   rw[List.nodup_append]
   exact⟨hnd,by simp,fun x hx y hy=>by grind⟩
  have hsb2:∀j∈seen++[i],j<a.length:=by
   intro j hj
   rcases Aio.1 hj with h|h
   ·exact hsb j h
   ·simp at h;omega
  have hsa2:=IL _ _ hnd2 hsb2
  rw[Aik,AhU,Aiy] at hsa2
  rcases Qt e.1 b 0 with⟨j,v,g1,g2,g3⟩|⟨g1,g2,g3⟩
  ·have hbd:=Ah8 hb hea
   rw[g1] at hbd
   simp only[AoL] at hbd
   simp only[Atk] at g2
   have w1:IntKind.i64.wrap (e.2-v)=e.2-v:=by rw[wrap64 (by omega) (by omega)]
   have w2:IntKind.i64.wrap (v-e.2)=v-e.2:=by rw[wrap64 (by omega) (by omega)]
   have w3:IntKind.i64.wrap (x+max (e.2-v) (v-e.2))=x+max (e.2-v) (v-e.2):=by
    have:(seen.length:Int)*2^30<=2^20*2^30:=Int.mul_le_mul_of_nonneg_right (by omega) (by omega)
    rw[wrap64 (by omega) (by omega)]
   have hw:wtE b e=max (e.2-v) (v-e.2):=by unfold wtE;rw[g1];rfl
   simp only[push_cast,seval,reduceEqDiff,hlast,hi,f1,f2,f3,f4,f5,f6,g2,w1,w2,w3]
   repeat' (first|(((first|apply Ac|apply Ag|apply Af)<;>intro _h)<;>simp only[push_cast,seval,reduceEqDiff,_h,hlast,hi,f1,f2,f3,f4,f5,f6,g2,w1,w2,w3])|(refine Aq (by omega) ?_;simp only[push_cast,seval,reduceEqDiff,hlast,hi,f1,f2,f3,f4,f5,f6,g2,w1,w2,w3])|intro _)
   refine⟨a.length-(seen.length+1),_,by omega,Al.refl,seen++[i],_,x+max (e.2-v) (v-e.2),by simp;omega,hnd2,hsb2,?_,?_,by omega,?_,rfl⟩
   ·intro j e' hj he'
    rcases Aio.1 hj with h|h
    ·exact hsl j e' h he'
    ·simp at h
     grind
   ·rw[Mu,<-hx,he]
    simp only[hw]
   ·simp only[Aik,AhU,Aiy]
    omega
  ·have hall:(a.all fun e=>(Db b e.1).isSome)=false:=by
    rw[List.all_eq_false]
    exact⟨e,Ai1 he,by rw[g1];simp⟩
   rw[hall] at hS
   simp only[AcL,if_false] at hS
   subst hS
   simp only[push_cast,seval,reduceEqDiff,hlast,hi,f1,f2,f3,f4,f5,f6,g2]
   repeat' (first|(((first|apply Ac|apply Ag|apply Af)<;>intro _h)<;>simp only[push_cast,seval,reduceEqDiff,_h,hlast,hi,f1,f2,f3,f4,f5,f6,g2])|(refine Aq (by omega) ?_;simp only[push_cast,seval,reduceEqDiff,hlast,hi,f1,f2,f3,f4,f5,f6,g2])|intro _)
   exact⟨_,Al.refl,⟨rfl,rfl,trivial⟩,fun i e h=>by
    simp only[lk] at h⊢
    split at h
    ·grind
    ·rename_i h0
     split at h
     ·grind
     ·cases h⟩
 ·have hsum:x=Gf (fun i=>match a[i]? with|some e=>wtE b e|none=>0) (List.range a.length):=by
   rw[hx]
   exact Q7 _ _ _ hnd hsb fun i hi=>hall i (by rw[hal];exact hi)
  have hal2:(a.all fun e=>(Db b e.1).isSome)=true:=by
   rw[Aiv]
   intro e he
   obtain⟨i,hi⟩:=ApX.1 he
   grind
  rw[hal2,<-hsum] at hS
  simp only[if_true] at hS
  subst hS
  simp only[push_cast,seval,reduceEqDiff,f1,f2,f3,f4,f5,f6,hal,hbl]
  repeat' (first|(((first|apply Ac|apply Ag|apply Af)<;>intro _h)<;>simp only[push_cast,seval,reduceEqDiff,_h,f1,f2,f3,f4,f5,f6,hal,hbl])|(refine Aq (by omega) ?_;simp only[push_cast,seval,reduceEqDiff,f1,f2,f3,f4,f5,f6,hal,hbl])|intro _)
  exact⟨_,Al.refl,⟨rfl,rfl,trivial⟩,fun i e h=>by
    simp only[lk] at h⊢
    grind
⟩
theorem Vd{l:List Aa}(hl:l.length<=4)(h:∀f∈l,f.length<=2^24):(∀e∈E5 l,0<=e.2/\e.2<=2^30)/\(E5 l).length<=4:=by
 have put:∀(m:OL) (n:Aa) (k:Int),0<=k->k<=2^30->(∀e∈m,0<=e.2/\e.2<=2^30)->(∀e∈K7 m n k,0<=e.2/\e.2<=2^30)/\(K7 m n k).length<=m.length+1:=by
  intro m n k k1 k2
  induction m with
  | nil=>intro _;simp[K7];omega
  | cons x m ih=>
   intro h
   have hx:=h x (by simp)
   obtain⟨i1,i2⟩:=ih fun e he=>h e (Abt _ he)
   rw[K7]
   grind
 have key:∀(l:List Aa) (m:OL),(∀f∈l,f.length<=2^24)->(∀e∈m,0<=e.2/\e.2<=2^30)->(∀e∈l.foldl (fun m f=>K7 m (f.take 1) f.length) m,0<=e.2/\e.2<=2^30)/\(l.foldl (fun m f=>K7 m (f.take 1) f.length) m).length<=m.length+l.length:=by
  intro l
  induction l with
  | nil=>intro m _ hm;exact⟨hm,by simp⟩
  | cons f l ih=>
   intro m hl hm
   have hf:=hl f (by simp)
   obtain⟨p1,p2⟩:=put m (f.take 1) f.length (by omega) (by omega) hm
   obtain⟨i1,i2⟩:=ih _ (fun g hg=>hl g (Abt _ hg)) p1
   exact⟨i1,by simp only[At6,AhU];omega⟩
 obtain⟨k1,k2⟩:=key l [] h (by simp)
 exact⟨k1,by unfold E5;simp at k2;omega⟩
theorem L6{s:Aa}{l:List Aa}(h:Ck s=some l):∀f∈l,f.length<=s.length:=by
 have key:∀(ks:List Aa) (r:Aa) (out w:List Aa),Cn ks r out=some w->r.length<=s.length->(∀f∈out,f.length<=s.length)->∀f∈w,f.length<=s.length:=by
  intro ks
  induction ks with
  | nil=>
   intro r out w h hr ho
   rw[Cn] at h
   grind
  | cons k ks ih=>
   intro r out w h hr ho
   have hle:=EO r k
   rw[Cn] at h
   grind
 exact key CF s [] l h (AbG _) (by simp)
theorem Aga(l:List Dg)(sk:Aa)(hs:sk.length<=2^24)(hl:l.length<=2^30)(hp:∀p∈l,p.skel.length<=2^20):Am Tryz.prog W0 215 [.sl (l.map Dg.enc),.s sk] [] (.tup [.i .i64 (Ea l sk).1,.i .i64 (Ea l sk).2]) []:=by
 generalize hS:Ea l sk=S
 unfold Ea at hS
 cases hF:Ck sk with
 | none=>
  have hc:=I4 (Vg W0 sk (by omega) hF)
  rw[hF] at hS
  simp only at hS
  subst hS
  refine Ai (vs:=[.i .i64 0,.i .i64 3]) pE (by simp) (by simp) fun n0 hn0=>?_
  clear hn0
  simp only[push_cast,seval,reduceEqDiff]
  intros
  refine AV hc (fun _ _ h=>h) (fun n2 v σo hle hR=>?_)
  obtain⟨rfl,rfl⟩:=hR
  rw[EG]
  simp only[push_cast,seval,reduceEqDiff]
  repeat' (first|(((first|apply Ac|apply Ag|apply Af)<;>intro _h)<;>simp only[push_cast,seval,reduceEqDiff,_h])|(refine Aq (by omega) ?_;simp only[push_cast,seval,reduceEqDiff])|intro _)
  refine Ae ?_
  simp[push_cast,get]
 | some w=>
  have hc:=n8 W0 sk w (by omega) hF
  rw[hF] at hS
  simp only at hS
  obtain⟨w1,w2,w3⟩:=FP hF
  obtain⟨m1,m2⟩:=Vd w2 (fun f hf=>Aiw (L6 hF f hf) hs)
  generalize E5 w=A at *
  refine Ai (vs:=[.i .i64 S.1,.i .i64 S.2]) pE (by simp) (by simp) fun n0 hn0=>?_
  clear hn0
  simp only[push_cast,seval,reduceEqDiff]
  intros
  refine AV hc (fun _ _ h=>h) (fun n2 v σo hle hR=>?_)
  obtain⟨mid,i1,i2,rfl,rfl⟩:=hR
  rw[EG]
  simp only[push_cast,seval,reduceEqDiff]
  repeat' (first|(((first|apply Ac|apply Ag|apply Af)<;>intro _h)<;>simp only[push_cast,seval,reduceEqDiff,_h])|(refine Aq (by omega) ?_;simp only[push_cast,seval,reduceEqDiff])|intro _)
  rename_i k1 k2 k3 k4
  have hn1:mid.1<n2+1+k1+1+k2+1+k3+1+k4:=by omega
  generalize n2+1+k1+1+k2+1+k3+1+k4=n1 at *
  obtain⟨B,hB⟩:∃B,B=CR A l 0 (-1) 0:=⟨_,rfl⟩
  rw[<-hB] at hS
  refine An l.length (Inv:=fun m st=>∃done rest n best least,l=done++rest/\m=rest.length/\CR A rest done.length best least=B/\mid.1<n/\st=⟨[(6,.arr mid),(8,.i .i64 best),(9,.i .i64 least),(23,.sl (l.map Dg.enc)),(24,.i .i64 l.length),(25,.i .i64 done.length)],[(mid,.map (HE A))],n⟩) ⟨_,Al.refl,[],l,_,-1,0,rfl,rfl,hB.symm,hn1,rfl⟩ ?_
  clear hB hn1
  rintro m _ ⟨done,rest,n,best,least,hz,rfl,hd,hn,rfl⟩
  cases rest with
  | nil=>
   rw[CR] at hd
   subst hd
   cases hb:decide (best<0)
   ·rw[if_neg (of_decide_eq_false hb)] at hS
    subst hS
    simp only[push_cast,seval,reduceEqDiff,hz,hb]
    repeat' (first|(((first|apply Ac|apply Ag|apply Af)<;>intro _h)<;>simp only[push_cast,seval,reduceEqDiff,_h,hb])|(refine Aq (by omega) ?_;simp only[push_cast,seval,reduceEqDiff,hb])|intro _)
    refine Ae ?_
    simp[push_cast,get]
   ·rw[if_pos (of_decide_eq_true hb)] at hS
    subst hS
    simp only[push_cast,seval,reduceEqDiff,hz,hb]
    repeat' (first|(((first|apply Ac|apply Ag|apply Af)<;>intro _h)<;>simp only[push_cast,seval,reduceEqDiff,_h,hb])|(refine Aq (by omega) ?_;simp only[push_cast,seval,reduceEqDiff,hb])|intro _)
    refine Ae ?_
    simp[push_cast,get]
  | cons p rest=>
   have hbd:=AN hz
   have hps:=hp p (by rw[hz];simp)
   rw[CR] at hd
   have hzn:(done.length:Int)+1=((done++[p]).length:Int):=by simp
   rw[hzn] at hd
   have f1:∀k j:Nat,(((n+1+k,j):Id)=mid)=False:=fun k j=>eq_false fun he=>by grind
   simp only[push_cast,seval,reduceEqDiff,hz,Ad p (done:=done) (by omega),f1]
   intros
   cases hFp:Ck p.skel with
   | none=>
    rw[hFp] at hd
    simp only at hd
    refine AV (I4 (Vg W0 p.skel (by omega) hFp)) (fun _ _ h=>by simp[lk] at h) (fun n3 v σo hle hR=>?_)
    obtain⟨rfl,rfl⟩:=hR
    rw[ZM,Aoq]
    simp only[push_cast,seval,reduceEqDiff,hz,Ad p (done:=done) (by omega),f1]
    repeat' (first|(((first|apply Ac|apply Ag|apply Af)<;>intro _h)<;>simp only[push_cast,seval,reduceEqDiff,_h,hz,Ad p (done:=done) (by omega),f1])|(refine Aq (by omega) ?_;simp only[push_cast,seval,reduceEqDiff,hz,Ad p (done:=done) (by omega),f1])|intro _)
    exact⟨_,_,Acq _,Al.drop1 (by simp only[lk];grind) (AbG _),done++[p],rest,_,best,least,by simp,rfl,hd,by omega,rfl⟩
   | some w2=>
    rw[hFp] at hd
    simp only at hd
    refine AV (n8 W0 p.skel w2 (by omega) hFp) (fun _ _ h=>by simp[lk] at h) (fun n3 v σo hle hR=>?_)
    obtain⟨hid,j1,j2,rfl,rfl⟩:=hR
    rw[ZM,AtU]
    obtain⟨a1,a2,a3⟩:=FP hFp
    obtain⟨b1,b2⟩:=Vd a2 (fun f hf=>Aiw (L6 hFp f hf) (Aiw hps (by omega)))
    generalize E5 w2=M2 at *
    have hmh:mid≠hid:=fun he=>by rw[he] at hn;omega
    have hdc:=Ad5 W0 A M2 mid hid hmh m1 b1 (by omega)
    have g2:(hid=mid)=False:=eq_false (Ail hmh)
    generalize hD:Kq A M2=D at *
    simp only[push_cast,seval,reduceEqDiff,hz,Ad p (done:=done) (by omega),f1]
    intros
    refine wP hdc (fun i e h=>?_) ?_
    ·simp only[lk] at h⊢
     split at h
     ·grind
     grind
    have hdrop:∀(k:Nat) i e,lk [(mid,AC.map (HE A))] i=some e->lk [(hid,AC.map (HE M2)),((n+1+k,11),AC.box (.agg [.s p.skel,.s p.pat])),(mid,AC.map (HE A))] i=some e:=by
     intro k i e h
     simp only[lk] at h⊢
     split at h
     ·grind
     ·cases h
    cases q1:D.2<;>cases q2:decide (best<0)<;>cases q3:decide (D.1<least)
    all_goals simp only[q1,q2,q3,AqV,Ara,Arn,As1,At0,AsZ,if_true,if_false,AcL,Bool.or_self] at hd
    all_goals simp only[push_cast,seval,reduceEqDiff,hz,Ad p (done:=done) (by omega),f1,q1,q2,q3]
    all_goals repeat' (first|(((first|apply Ac|apply Ag|apply Af)<;>intro _h)<;>simp only[push_cast,seval,reduceEqDiff,_h,hz,Ad p (done:=done) (by omega),f1,q1,q2,q3])|(refine Aq (by omega) ?_;simp only[push_cast,seval,reduceEqDiff,hz,Ad p (done:=done) (by omega),f1,q1,q2,q3])|intro _)
    all_goals exact⟨_,_,Acq _,Al.drop (hdrop _) (AbG _),done++[p],rest,_,_,_,by simp,rfl,hd,by omega,rfl⟩
def TB:Nat:=98
def bS(u:Bool)(x b:Id)(l:Aa):Ak:=[(x,.tbox TB (.agg [wA u x,.arr b])),(b,.arr 5 1 (Ax l))]
def BW(x:Id)(l:Aa)(r:V)(n n':Nat)(v:V)(σ':Ak):Prop:=v=r/\∃b':Id,n<=b'.1/\b'.1<n'/\σ'=bS true x b' l
theorem T0{u:Bool}{x b:Id}{l:Aa}:lk (bS u x b l) x=some (.tbox TB (.agg [wA u x,.arr b])):=by simp[bS,lk]
theorem Pi(u:Bool)(x b:Id):Am Tryz.prog W0 180 [.ref x 0] [(x,.tbox TB (.agg [wA u x,.arr b]))] (.tup []) [(x,.tbox TB (.agg [.ref x 0,.arr b]))]:=by
 cases u with
 | true=>exact Xg W0
 | false=>exact TI W0 (by kernel_rfl)
theorem L7(u:Bool)(x b:Id)(l t:Aa)(hne:b≠x)(h:l.length+t.length<=2^30):Ei Tryz.prog W0 124 [.ref x 0,.s t] (bS u x b l) (BW x (l++t) (.tup [.i .i64 t.length,.ni])):=by
 generalize hR:BW x (l++t) (.tup [.i .i64 t.length,.ni])=R
 refine BP sP (by simp) fun n0 hn0=>?_
 have hw:x.1<n0:=hn0 x _ T0
 have hb:b.1<n0:=hn0 b _ (by simp[bS,lk,Ail hne];rfl)
 clear hn0
 have hcp:=Pi W0 u x b
 have h1:(x=b)=False:=eq_false (Ail hne)
 have h2:(b=x)=False:=eq_false hne
 simp only[push_cast,seval,reduceEqDiff,h1,h2,bS]
 intro k1
 refine BF hcp (fun i e h=>Bh (τ:=[(b,AC.arr 5 1 (Ax l))]) h) ?_
 rw[Hh (fun p hp=>by grind)]
 clear hcp
 have h3:∀k j:Nat,((n0+1+k1+1+k,j)=x)=False:=fun k j=>eq_false fun he=>by grind
 have h4:∀k j:Nat,((n0+1+k,j)=b)=False:=fun k j=>eq_false fun he=>(by grind)
 have h4':∀k j:Nat,(b=(n0+1+k,j))=False:=fun k j=>eq_false fun he=>of_eq_false (h4 k j) he.symm
 simp only[push_cast,seval,reduceEqDiff,h1,h2,h3,Bm]
 intro k2
 refine Aq (by unfold AM;omega) ?_
 simp only[push_cast,seval,reduceEqDiff,h1,h2,h3,Bm]
 intro k3 k4
 subst hR
 rw[E8]
 exact⟨_,Al.refl,[.i .i64 t.length,.ni],bS true x (n0+1+k1+1+k2,14) (l++t),⟨rfl,rfl,trivial⟩,IS (Ail (fun he=>of_eq_false (h3 _ _) he)),rfl,_,by simp only;omega,by simp only;omega,rfl⟩
theorem Aep(u:Bool)(x b:Id)(l:Aa)(c:UInt8)(hne:b≠x)(h:l.length+1<=2^30):Ei Tryz.prog W0 187 [.ref x 0,.i .u8 c.toNat] (bS u x b l) (BW x (l++[c]) .ni):=by
 generalize hR:BW x (l++[c]) .ni=R
 refine BP AgA (by simp) fun n0 hn0=>?_
 have hw:x.1<n0:=hn0 x _ T0
 have hb:b.1<n0:=hn0 b _ (by simp[bS,lk,Ail hne];rfl)
 clear hn0
 have hcp:=Pi W0 u x b
 have h1:(x=b)=False:=eq_false (Ail hne)
 have h2:(b=x)=False:=eq_false hne
 simp only[push_cast,seval,reduceEqDiff,h1,h2,bS]
 intro k1
 refine BF hcp (fun i e h=>Bh (τ:=[(b,AC.arr 5 1 (Ax l))]) h) ?_
 rw[Hh (fun p hp=>by grind)]
 clear hcp
 have h3:∀k j:Nat,((n0+1+k1+1+k,j)=x)=False:=fun k j=>eq_false fun he=>by grind
 have h4:∀k j:Nat,((n0+1+k,j)=b)=False:=fun k j=>eq_false fun he=>(by grind)
 have h4':∀k j:Nat,(b=(n0+1+k,j))=False:=fun k j=>eq_false fun he=>of_eq_false (h4 k j) he.symm
 have hL:(l.length+1<=AM)=True:=eq_true (by unfold AM;omega)
 simp only[push_cast,seval,reduceEqDiff,h1,h2,h3,Bm,hL]
 intro k2 k3 k4
 subst hR
 have hv:Ax l++[.i .u8 c.toNat]=Ax (l++[c]):=by rw[<-E8];rfl
 rw[hv]
 exact⟨_,Al.refl,[.ni],bS true x (n0+1+k1+1+k2,14) (l++[c]),⟨rfl,trivial⟩,IS (Ail (fun he=>of_eq_false (h3 _ _) he)),rfl,_,by simp only;omega,by simp only;omega,rfl⟩
def xE(a b:Int):Int:=IntKind.u8.wrap (BitVec.ofInt 8 a ||| BitVec.ofInt 8 b).toNat
def anU(a b:Int):Int:=IntKind.u8.wrap (BitVec.ofInt 8 a &&& BitVec.ofInt 8 b).toNat
def srI(a:Int)(k:Nat):Int:=a.fdiv (2 ^ k)
def u8B(n:Int):UInt8:=UInt8.ofNat n.toNat
theorem Anm(a b:Int):F9 (.bit .or) [.i .u8 a,.i .u8 b]=some (.i .u8 (xE a b)):=rfl
theorem Aih(a b:Int):F9 (.bit .and) [.i .u8 a,.i .u8 b]=some (.i .u8 (anU a b)):=rfl
theorem Tq(a b:Int)(h:0<=b):F9 (.shf .shr) [.i .i32 a,.i .u64 b]=some (.i .i32 (srI a (min b.toNat 32))):=by
 simp only[F9,if_pos h];rfl
theorem UC(n:Int):IntKind.u8.wrap n=n % 256:=by
 simp only[IntKind.wrap,IntKind.bits,IntKind.signed]
 simp
theorem Afo(a b:Int):0<=xE a b/\xE a b<256:=by unfold xE;rw[UC];omega
theorem AlB{n:Int}(h:0<=n/\n<256):V.i .u8 n=.i .u8 ((u8B n).toNat:Int):=by
 unfold u8B
 congr 1
 rw[UInt8.toNat_ofNat']
 omega
def u8(r:Int):Int:=IntKind.u8.wrap r
def iW(r:Int)(k:Nat):Int:=xE 128 (anU (u8 (srI r k)) 63)
def p9(r:Int):Int:=xE 128 (anU (u8 r) 63)
def Ja(r:Int):List Int:=
 if decide (IntKind.u32.wrap r<=127) then[u8 r]
 else if decide (IntKind.u32.wrap r<=2047) then[xE 192 (u8 (srI r 6)),p9 r]
 else if decide (IntKind.u32.wrap r<55296)||decide (57343<IntKind.u32.wrap r)&&decide (IntKind.u32.wrap r<=65535) then[xE 224 (u8 (srI r 12)),iW r 6,p9 r]
 else if decide (IntKind.u32.wrap r>65535)&&decide (IntKind.u32.wrap r<=1114111) then[xE 240 (u8 (srI r 18)),iW r 12,iW r 6,p9 r]
 else[239,191,189]
def Ci(r:Int):Aa:=(Ja r).map u8B
theorem eH(r:Int):∀n∈Ja r,0<=n/\n<256:=by
 have h0:=Afo
 unfold Ja
 split
 ·intro n hn;simp at hn;subst hn;unfold u8;rw[UC];omega
 ·split
  ·intro n hn;simp at hn;rcases hn with rfl|rfl<;>exact h0 _ _
  ·split
   ·intro n hn;simp at hn;rcases hn with rfl|rfl|rfl<;>exact h0 _ _
   ·split
    ·intro n hn;simp at hn;rcases hn with rfl|rfl|rfl|rfl<;>exact h0 _ _
    grind
theorem J8(r:Int):1<=(Ci r).length/\(Ci r).length<=4:=by
 unfold Ci Ja
 grind
theorem AcK(r:Int):(Ja r).map (V.i .u8)=Ax (Ci r):=by
 unfold Ci Ax
 rw[List.map_map]
 exact As6 fun n hn=>AlB (eH r n hn)
def Sw(l:Aa)(n n':Nat)(v:V)(σ':Ak):Prop:=∃b':Id,n<=b'.1/\b'.1<n'/\v=.arr b'/\σ'=[(b',.arr 5 1 (Ax l))]
theorem lF(b:Id)(l:Aa)(r:Int)(hl:l.length<=2^30)(h1:decide (IntKind.u32.wrap r<=127)=false):Ei Tryz.prog W0 318 [.arr b,.i .i32 r] [(b,.arr 5 1 (Ax l))] (Sw (l++Ci r)):=by
 have hv:Ax (l++Ci r)=Ax l++(Ja r).map (V.i .u8):=by rw[AcK,<-E8]
 generalize hR:Sw (l++Ci r)=R
 unfold Sw at hR
 rw[hv] at hR
 generalize hS:Ja r=S at hR
 unfold Ja at hS
 rw[h1] at hS
 have q1:=fun a b=>Anm a b
 have q2:=fun a b=>Aih a b
 have s6:=Tq r 6 (by omega)
 have s12:=Tq r 12 (by omega)
 have s18:=Tq r 18 (by omega)
 have L2:(l.length+2<=AM)=True:=eq_true (by unfold AM;omega)
 have L3:(l.length+3<=AM)=True:=eq_true (by unfold AM;omega)
 have L4:(l.length+4<=AM)=True:=eq_true (by unfold AM;omega)
 refine BP AhT (by simp) fun n0 hn0=>?_
 clear hn0
 cases k1:decide (IntKind.u32.wrap r<=2047)<;>cases k2:decide (IntKind.u32.wrap r<55296)<;>cases k3:decide (57343<IntKind.u32.wrap r)<;>cases k4:decide (IntKind.u32.wrap r<=65535)<;>cases k5:decide (IntKind.u32.wrap r>65535)<;>cases k6:decide (IntKind.u32.wrap r<=1114111)
 all_goals simp only[k1,k2,k3,k4,k5,k6,AqV,Ara,Arn,As1,At0,AsZ,if_true,if_false,AcL,Bool.or_self] at hS
 all_goals subst hS
 all_goals simp only[push_cast,seval,reduceEqDiff,q1,q2,s6,s12,s18,L2,L3,L4,Bm,k1,k2,k3,k4,k5,k6]
 all_goals repeat' (first|(((first|apply Ac|apply Ag|apply Af)<;>intro _h)<;>simp only[push_cast,seval,reduceEqDiff,_h,q1,q2,s6,s12,s18,L2,L3,L4,Bm,k1,k2,k3,k4,k5,k6])|(refine Aq (by omega) ?_;simp only[push_cast,seval,reduceEqDiff,q1,q2,s6,s12,s18,L2,L3,L4,Bm,k1,k2,k3,k4,k5,k6])|intro _)
 all_goals (first|(intros;subst hR;exact⟨_,Al.refl,[.arr _],[_],⟨rfl,trivial⟩,fun _ _ h=>h,_,by simp only;omega,by simp only;omega,rfl,rfl⟩)|skip)
theorem YV(b:Id)(l:Aa)(r:Int)(hl:l.length<=2^30):Ei Tryz.prog W0 287 [.arr b,.i .i32 r] [(b,.arr 5 1 (Ax l))] (Sw (l++Ci r)):=by
 cases h1:decide (IntKind.u32.wrap r<=127) with
 | true=>
  have hv:Ax (l++Ci r)=Ax l++[.i .u8 (IntKind.u8.wrap r)]:=by
   rw[<-E8,<-AcK]
   unfold Ja
   rw[h1]
   rfl
  generalize hR:Sw (l++Ci r)=R
  unfold Sw at hR
  rw[hv] at hR
  have L1:(l.length+1<=AM)=True:=eq_true (by unfold AM;omega)
  refine BP pM (by simp) fun n0 hn0=>?_
  clear hn0
  simp only[push_cast,seval,reduceEqDiff,L1,Bm,h1]
  repeat' (first|(((first|apply Ac|apply Ag|apply Af)<;>intro _h)<;>simp only[push_cast,seval,reduceEqDiff,_h,L1,Bm,h1])|(refine Aq (by omega) ?_;simp only[push_cast,seval,reduceEqDiff,L1,Bm,h1])|intro _)
  subst hR
  exact⟨_,Al.refl,[.arr _],[_],⟨rfl,trivial⟩,fun _ _ h=>h,_,by simp only;omega,by simp only;omega,rfl,rfl⟩
 | false=>
  have hc:=lF W0 b l r hl h1
  generalize hR:Sw (l++Ci r)=R
  rw[hR] at hc
  have hRa:∀n n' v σ',R n n' v σ'->∀m m',m<=n->n'<=m'->R m m' v σ':=by
   rw[<-hR]
   rintro n n' v σ' ⟨b',i1,i2,h⟩ m m' hm hm'
   exact⟨b',by omega,by omega,h⟩
  have hRd:∀n n' v σ',R n n' v σ'->∃b',v=.arr b'/\∃e,σ'=[(b',e)]:=by
   rw[<-hR]
   rintro n n' v σ' ⟨b',i1,i2,h1,h2⟩
   exact⟨b',h1,_,h2⟩
  refine BP pM (by simp) fun n0 hn0=>?_
  clear hn0
  simp only[push_cast,seval,reduceEqDiff,h1]
  repeat' (first|(((first|apply Ac|apply Ag|apply Af)<;>intro _h)<;>simp only[push_cast,seval,reduceEqDiff,_h,h1])|(refine Aq (by omega) ?_;simp only[push_cast,seval,reduceEqDiff,h1])|intro _)
  refine AV hc (fun _ _ h=>h) (fun n2 v σo hle hQ=>?_)
  rw[EG]
  obtain⟨b',rfl,e,rfl⟩:=hRd _ _ _ _ hQ
  simp only[push_cast,seval,reduceEqDiff,h1]
  repeat' (first|(((first|apply Ac|apply Ag|apply Af)<;>intro _h)<;>simp only[push_cast,seval,reduceEqDiff,_h,h1])|(refine Aq (by omega) ?_;simp only[push_cast,seval,reduceEqDiff,h1])|intro _)
  exact⟨_,Al.refl,[.arr b'],[(b',e)],⟨rfl,trivial⟩,fun _ _ h=>h,hRa _ _ _ _ hQ _ _ (by omega) (by simp only;omega)⟩
theorem Afh(u:Bool)(x b:Id)(l:Aa)(r:Int)(hne:b≠x)(h:l.length<=2^29):Ei Tryz.prog W0 238 [.ref x 0,.i .i32 r] (bS u x b l) (BW x (l++Ci r) (.tup [.i .i64 ((Ci r).length:Nat),.ni])):=by
 have hrl:=J8 r
 generalize hR:BW x (l++Ci r) (.tup [.i .i64 ((Ci r).length:Nat),.ni])=R
 refine BP AhL (by simp) fun n0 hn0=>?_
 have hw:x.1<n0:=hn0 x _ T0
 have hb:b.1<n0:=hn0 b _ (by simp[bS,lk,Ail hne];rfl)
 clear hn0
 have hcp:=Pi W0 u x b
 have h1:(x=b)=False:=eq_false (Ail hne)
 have h2:(b=x)=False:=eq_false hne
 simp only[push_cast,seval,reduceEqDiff,h1,h2,bS,Bm]
 intro k1
 refine BF hcp (fun i e h=>Bh (τ:=[(b,AC.arr 5 1 (Ax l))]) h) ?_
 rw[Hh (fun p hp=>by grind)]
 clear hcp
 simp only[push_cast,seval,reduceEqDiff,h1,h2,bS,Bm]
 intros
 refine AV (YV W0 b l r (by omega)) (fun i e h=>by
  simp only[lk] at h⊢
  split at h
  ·rename_i h0;subst h0;simp only[h1,if_false,if_true];exact h
  ·cases h) (fun n2 v σo hle hQ=>?_)
 obtain⟨b',i1,i2,rfl,rfl⟩:=hQ
 have hov:over [(b,AC.arr 5 1 (Ax l))] [(b',AC.arr 5 1 (Ax (l++Ci r)))] [(x,AC.tbox TB (.agg [.ref x 0,.arr b])),(b,AC.arr 5 1 (Ax l))]=[(b',AC.arr 5 1 (Ax (l++Ci r))),(x,AC.tbox TB (.agg [.ref x 0,.arr b]))]:=by
  have:=DZ (σi:=[(b,AC.arr 5 1 (Ax l))]) (σo:=[(b',AC.arr 5 1 (Ax (l++Ci r)))]) (pre:=[(x,AC.tbox TB (.agg [.ref x 0,.arr b]))]) (fun p hp q hq=>by grind)
  simpa using this
 rw[hov]
 have g1:(b'=x)=False:=eq_false fun he=>by rw[he] at i1;omega
 have g2:(x=b')=False:=eq_false fun he=>by rw[<-he] at i1;omega
 have w1:IntKind.i64.wrap (((l++Ci r).length:Nat)-(l.length:Int))=((Ci r).length:Nat):=by
  rw[Aik,wrap64 (by omega) (by omega)];omega
 simp only[push_cast,seval,reduceEqDiff,g1,g2,Bm,w1]
 intros
 subst hR
 exact⟨_,Al.refl,[.i .i64 ((Ci r).length:Nat),.ni],bS true x b' (l++Ci r),⟨rfl,rfl,trivial⟩,IS (fun he=>of_eq_false g2 he),rfl,b',by omega,by simp only;omega,rfl⟩
theorem Al.bld{W0:World}{nt n:Nat}{env:AD}{τ:Ak}{x:Id}(hx:x.1<n):Al W0 nt ⟨env,(x,.tbox TB (.agg [.np,.nil]))::τ,n⟩ ⟨env,bS false x (n,0) []++τ,n+1⟩:=by
 have hne:((n,0):Id)≠x:=fun he=>by grind
 refine(Al.ownTbox (A:=[.np]) (B:=[]) 5 1 0).trans (Al.drop (fun i e h=>?_) (AbG _))
 simp only[bS,Akk,Aoq,lk] at h⊢
 by_cases h1:x=i
 ·subst h1
  rw[if_pos rfl] at h
  rw[if_neg hne,if_pos rfl]
  exact h
 ·rw[if_neg h1] at h
  by_cases h2:((n,0):Id)=i
  ·rw[if_pos h2] at h⊢
   exact h
  grind
theorem T8(u:Bool)(x b:Id)(l:Aa)(hne:b≠x)(hl:l.length<=2^30):Am Tryz.prog W0 45 [.ref x 0] (bS u x b l) (.s l) [(x,.tbox TB (.agg [wA u x,.arr b]))]:=
 NE W0 (T:=TB) (r:=[]) hne (by unfold A9;omega)
theorem Om{u u':Bool}{x b b':Id}{l l':Aa}{τ:Ak}(h1:∀p∈τ,p.1≠x/\p.1≠b):over (bS u x b l) (bS u' x b' l') (bS u x b l++τ)=bS u' x b' l'++τ:=by
 have:=Jh (σi:=bS u x b l) (σo:=bS u' x b' l') (pre:=[]) (post:=τ) (fun p hp=>by cases hp) (fun p hp q hq=>by
  simp[bS] at hq
  grind
)
 simpa using this
theorem NU{u:Bool}{x b:Id}{l:Aa}{τ:Ak}:∀i e,lk (bS u x b l) i=some e->lk (bS u x b l++τ) i=some e:=fun i e h=>Bh h
end Go.Ir
