/-
  THE IR CALCULUS, part W: the kit's rules on code, of a ..
  THE IR CALCULUS, part A: abstract values, their relation to ..
  THE IR CALCULUS, part B: the small register language, what ..
  THE IR CALCULUS, part C: how the heap relation is carried ..
  THE IR CALCULUS, part D: each operation that the check lets ..
  THE IR CALCULUS, part E: the operations, one lemma each.
  THE IR CALCULUS, part F: the operations that read and write ..
  THE IR CALCULUS, part G: the operations that make memory, ..
  THE IR CALCULUS, part H: literals, append, make, calls.
  THE IR CALCULUS, part Hb: maps, iterators over strings, ..
  THE IR CALCULUS, part I: make, calls
-/
import Derived.OrdersIn
import Derived.RangeFuncIn
import Derived.Below
import Derived.Orders
import Derived.Laws.OwnMore
import Derived.Laws.Entries
import Derived.Laws.Rows
import Derived.Maps.AppendAt
import Derived.Laws.Strings2
import Derived.Laws.Concat
import Derived.Laws.Cover1
import Derived.Laws.Slices
import Derived.Laws.MakeOwn
import Derived.Lib.AppendStr
import Derived.Laws.StructEq
import Derived.MapKept
import Derived.Laws.BytesString
import Derived.Laws.Cover3
import Derived.LaidEql
set_option linter.all false
section
namespace Go.Ir

end Go.Ir
namespace Go.Ir
def fR:Option Nat->Fence
 | none=>Fence.wide
 | some l=>Fence.wide.inRound l
theorem H6(ro:Option Nat)(f:FuncId):(fR ro).fn f:=by cases ro<;>trivial
theorem Hu(ro:Option Nat):(fR ro).depth=none:=by cases ro<;>rfl
theorem XW(ro:Option Nat):(fR ro).round=ro:=by cases ro<;>rfl
theorem tF(ro:Option Nat)(n:Nat):(fR ro).room n:=λd b=>by rw[Hu] at b;cases b
theorem RX{P:Program}{ro:Option Nat}{n:Nat}{f:FuncId}{args:Array Value}{w:World}{R:Ending->World->Prop}:CallsIn (fR ro) n P f args w R↔Calls P f args w R:=by
 cases ro with
 | none=>exact callsIn_wide
 | some l=>exact callsIn_wide (n:=n)
theorem g9{P:Program}{ro:Option Nat}{n m l:Nat}{f:FuncId}{tmps:Array Value}{assign body:Code}{w:World}{R:Ending->World->Prop}(h:RoundIn Fence.wide m P l f tmps assign body w R):RoundIn (fR ro) n P l f tmps assign body w R:=by refine⟨H6 ro f,λc cs _=>?_⟩;obtain⟨e,w',b,g⟩:=h.2 c cs (tF none _);refine⟨e,w',b,?_⟩;cases ro<;>exact g
end Go.Ir
namespace Go
open Go.Ir
def Code.wpr(P:Program)(ro:Option Nat)(c:Code)(Q:Exit->Act->World->Prop)(a:Act)(w:World):Prop:=c.wpIn (fR ro) 0 P Q a w
def Oper.wpr(P:Program)(ro:Option Nat)(o:Oper)(a:Act)(w:World)(next:Act->World->Prop)(Q:Exit->Act->World->Prop):Prop:=o.wpIn (fR ro) 0 P a w next Q
end Go
namespace Go.Ir
def FL(P:Program)(ro:Option Nat)(ops:Array Oper)(Q:Exit->Act->World->Prop)(i:Nat)(K:Act->World->Prop)(a:Act)(w:World):Prop:=wpOpIn (fR ro) 0 P ops Q i K a w
def EU(P:Program)(ro:Option Nat)(ops:Array Oper)(Q:Exit->Act->World->Prop)(l:List Nat)(a:Act)(w:World):Prop:=wpOpsIn (fR ro) 0 P ops Q l a w
def OD(P:Program)(ro:Option Nat)(e:Region.Mode)(ops:Array Oper)(Q:Exit->Act->World->Prop)(c:Nat)(b:Array Bool)(a:Act)(w:World):Prop:=wpAnyIn (fR ro) 0 P e ops Q c b a w
section
variable{P:Program}{ro:Option Nat}{Q Q':Exit→Act→World→Prop}{a:Act}{w:World}
theorem Bm{c:Code}(h:c.wpr P ro Q a w)(b:∀e a w,Q e a w->Q' e a w):c.wpr P ro Q' a w:=wpIn_mono h b
theorem Q1(h:Q .normal a w):Code.skip.wpr P ro Q a w:=wpIn_skip h
theorem QO{id:Nat}(h:Q (.exit id) a w):(Code.exit id).wpr P ro Q a w:=wpIn_exit h
theorem TM(h:Q .ret a w):Code.ret.wpr P ro Q a w:=wpIn_ret h
theorem TR{x y:Code}(h:x.wpr P ro (Exit.then (y.wpr P ro Q) Q) a w):(Code.seq x y).wpr P ro Q a w:=wpIn_seq h
theorem Oc{id:Nat}{c:Code}(h:c.wpr P ro (Exit.inBlock id Q) a w):(Code.block id c).wpr P ro Q a w:=wpIn_block h
theorem Fs{c:Operand}{x y:Code}{t:Bool}(b:a.eval c=.bool t)(f:t=true->x.wpr P ro Q a w)(e:t=false->y.wpr P ro Q a w):(Code.cond c x y).wpr P ro Q a w:=wpIn_cond_split b f e
theorem G6{id:Nat}{ops:Array Oper}(h:EU P ro ops Q (List.range ops.size) a w):(Code.region id ops false).wpr P ro Q a w:=wpIn_region h
theorem GU{id:Nat}{ops:Array Oper}(h:∀t,EU P ro ops Q (Region.schedule (P.follows .mixedOrders) ops t) a { w with drawn:=w.drawn+1 }):(Code.region id ops true).wpr P ro Q a w:=wpIn_region_draw h
theorem DP{ops:Array Oper}(i:Nat)(b:List Nat)(a:Act)(w:World):EU P ro ops Q (i::b) a w=FL P ro ops Q i (EU P ro ops Q b) a w:=wpOpsIn_cons i b a w
theorem JR{ops:Array Oper}{e:Region.Mode}(c t:Nat)(b:Array Bool)(a:Act)(w:World)(h:OD P ro e ops Q c b a w):EU P ro ops Q (Region.linearise.go e ops c t b []) a w:=wpAnyIn_sound c t b a w h
theorem Ew{o:Oper}{next:Act->World->Prop}(j:∀c,o.op≠.defer c)(h:o.wp P a w next Q):o.wpr P ro a w next Q:=by
 refine⟨λf _=>H6 ro f,?_⟩;rw[Oper.semAt_eq _ _ _ j];unfold Oper.wp at h;have e:(fR ro).depth.isSome=true->1<=0:=λg=>by rw[Hu] at g;cases g
 generalize(execOp a.eval o).run P w=r at h;cases r with
 | ok x w'=>
  cases x<;>simp only[Oper.upon] at h<;>simp only[Oper.uponIn]<;>first
   | exact h
   | exact⟨e,RX.2 h⟩
   | (refine⟨e,λc cs _=>?_⟩
      obtain⟨v,b,i,k⟩:=h (c:=c) (cs:=cs);exact⟨v,b,i,by cases ro<;>exact stepsIn_wide.2 k⟩)
   | exact h.elim
 | halt x w'=>cases x<;>simp only[Oper.upon] at h<;>simp only[Oper.uponIn]<;>exact h
theorem MH{o:Oper}{b:Operand->Value}{w w':World}{f:FuncId}{vals:Array Value}(h:(execOp b o).run P w=.ok (.enter f vals) w'):∀c,o.op≠.defer c:=by
 intro c e;simp only[execOp,e,Sem.run_bind] at h;cases hr:(resolve b c o.type).run P w with
 | ok d g=>simp_all
 | halt x g=>simp_all
theorem Qe{c:Code}(I:Nat->Act->World->Prop)(r:∀m a w,I m a w->c.wpr P ro (Exit.then (λs w'=>∃A,A<m/\I A s w') Q) a w)(m:Nat)(a:Act)(w:World)(y:I m a w):(Code.loop c).wpr P ro Q a w:=by
 intro b k cs D B hr;have key:∀n a w,I n a w->∃e s w',Q e s w'/\ArrivesIn (Machine.fenced P (fR ro)) P (lone (b.atR a (.code c :: .inLoop c::k)) cs w) b k cs e s w':=by
  intro n
  induction n using Nat.strongRecOn with
  | _ n E=>
   intro a w hI;obtain⟨e,g,h,j,f⟩:=r n a w hI b (.inLoop c::k) cs D B hr;cases e with
   | normal=>obtain⟨A,C,p⟩:=j;obtain⟨u,t,z,q,i⟩:=E A C g h p;exact⟨u,t,z,q,.of_steps (StepsIn.trans f (.one (fenced_calm B hr rfl) stepR_inLoop)) i⟩
   | exit id=>exact⟨_,g,h,j,.pass (x:=.inLoop c) rfl (λ_ _=>.inl (by simp)) f⟩
   | goto l=>exact⟨_,g,h,j,.pass (x:=.inLoop c) rfl (λ_ _=>.inl (by simp)) f⟩
   | ret=>exact⟨_,g,h,j,.pass (x:=.inLoop c) rfl (λ_ _=>.inl (by simp)) f⟩
   | panic F=>exact⟨_,g,h,j,.pass (x:=.inLoop c) rfl (λ_ _=>.inl (by simp)) f⟩
   | outgrown=>exact⟨_,g,h,j,.pass (x:=.inLoop c) rfl (λ_ _=>.inl (by simp)) f⟩
 obtain⟨e,s,w',j,f⟩:=key m a w y;exact⟨e,s,w',j,.of_steps (.one (fenced_calm B hr rfl) stepR_loop) f⟩
end
end Go.Ir
end
section
namespace Go.Ir
open Go.RowKit
abbrev Id:=Nat×Nat
def Bf:Nat:=2147483648
def AO:Nat:=1099511627776
inductive V where
 | b (x:Bool)
 | i (k:IntKind) (n:Int)
 | s (l:List UInt8)
 | nil
 | sl (es:List V)
 | agg (cs:List V)
 | tup (vs:List V)
 | ref (id:Id) (off:Nat)
 | arr (id:Id)
 | aref (id:Id) (ix:Nat) (sz:Nat) (off:Nat)
 | ep (e:V) (off:Nat)
 | fn (f:FuncId) (first caps:List V)
 | np
 | nf
 | ni
 | nm
 | ub
 | iv
 | any
 deriving Inhabited
inductive X where
 | t (s:Nat)
 | c (v:V)
 deriving Inhabited
inductive Dd where
 | str
 | int
 | bool
 | st (l:List (Nat×Dd))
 deriving Inhabited
inductive lI where
 | p
 | f
 | i
 deriving Inhabited
inductive BW where
 | isnil (ne:Bool)
 | itos
 | btos
 | aidx (n sz:Nat)
 | bit (op:BinOp)
 | shf (op:BinOp)
 | com
 | aget (n sz:Nat) (ag:Bool)
 | eqs (ne:Bool) (l:List (Nat×Dd))
 | nilq (k:lI) (ne:Bool)
 | eqp (ne:Bool)
 | stuck
 deriving Inhabited
inductive lB where
 | mget (kk:Dd) (z:V) (ok:Bool)
 | mlen
 deriving Inhabited
inductive Xf where
 | mput (kk:Dd)
 | next
 | ment (kk:Dd) (z:V)
 | mst
 deriving Inhabited
inductive rQ where
 | mkmap
 | strit
 | tnew (t:TypeId) (z:V)
 | tbx (t:TypeId)
 deriving Inhabited
inductive AE where
 | mv (x:X)
 | pick (c a b:X)
 | bin (op:BinOp) (x y:X)
 | eqb (ne:Bool) (x y:X)
 | not (x:X)
 | neg (x:X)
 | cvi (k:IntKind) (x:X)
 | cvs (x:X)
 | fld (x:X) (off n:Nat) (ag:Bool)
 | faddr (x:X) (off:Nat)
 | iaddr (x i:X) (e sz:Nat)
 | idx (x i:X)
 | load (x:X) (n:Nat) (ag:Bool)
 | store (a x:X) (n:Nat)
 | box (x:X)
 | alloc (z:V)
 | build (z:List V) (ps:List (Nat×Nat×X))
 | msl (own:Bool) (e sz:Nat) (xs:List X)
 | slS (x:X) (lo hi:Option X)
 | slL (x:X) (lo hi:Option X) (sz:Nat)
 | lenS (x:X)
 | lenL (x:X)
 | app (s x:X) (e sz:Nat)
 | apps (s x:X) (e:Nat)
 | slT (x hi:X) (sz:Nat)
 | ext (x:X) (k:Nat)
 | call (f:FuncId) (args:List X)
 | calls (f:FuncId) (args:List X)
 | calln (f:FuncId) (args:List X)
 | callr (f:FuncId) (args:List X)
 | callv (g:X) (args:List X)
 | callvs (g:X) (args:List X)
 | mkfn (f:FuncId) (first caps:List X)
 | mksl (len cap:X) (z:V) (e sz:Nat)
 | mx (lo:Bool) (x:X) (xs:List X)
 | nilck (x:X)
 | pu (k:BW) (xs:List X)
 | rdm (k:lB) (m:X) (xs:List X)
 | wrm (k:Xf) (m:X) (xs:List X)
 | mkm (k:rQ) (xs:List X)
 | frz (m:X) (n:Nat)
 | mrange (m:X)
 | mentry (m:X)
 | eqr (ne:Bool) (x y:X)
 | callw (g:X) (args:List X)
 | btos (x:X)
 deriving Inhabited
structure I where
 dst:Option Nat
 op:AE
 gd:Option (Nat×Bool)
 ap:List X
 deriving Inhabited
inductive IC where
 | ops (l:List I) (live:List Nat) (paths:List (List Nat))
 | seq (a b:IC)
 | cond (c:X) (a b:IC)
 | block (id:Nat) (c:IC)
 | loop (c:IC)
 | exit (id:Nat)
 | ret
 | skip
 | mnext (d1 d2:Nat) (x:X) (live:List Nat)
 | wk (c:IC)
 | opx (l1:List I) (live1:List Nat) (d:Nat) (f:FuncId) (args:List X) (l2:List I) (live:List Nat)
 | opxd (l1:List I) (live1:List Nat) (d:Nat) (f:FuncId) (args:List X) (live:List Nat) (paths:List (List Nat))
 | opxv (l1:List I) (live1:List Nat) (d:Nat) (x:X) (args:List X) (l2:List I) (live:List Nat)
 | seqr (l:List I) (live:List Nat)
 | opxe (l:List I) (i:I) (live:List Nat) (paths:List (List Nat))
 | anyr (l:List I) (live:List Nat) (deps:List (List Nat))
 | opxq (l1:List I) (live1:List Nat) (d:Nat) (g:Nat) (want:Bool) (f:FuncId) (args:List X) (l2:List I) (live:List Nat)
 | scope (c:IC)
 | rfn (g:X) (ps:List Nat) (a b:IC) (env live:List Nat)
 deriving Inhabited
abbrev AB:=List (Nat×V)
def get:AB->Nat->V
 | [],_=>.any
 | (k,v)::r,s=>if k=s then v else get r s
class FV where
 ck:Nat->Code->IC->Prop
def cells:V->List V
 | .agg cs=>cs
 | v=>[v]
def V.ok:V->Bool
 | .tup _|.any=>false
 | _=>true
def V.one:V->Bool
 | .agg _|.tup _|.any=>false
 | _=>true
def AN(es:List V):List V:=es.flatMap cells
inductive Ap (μ:Id->Option Value) (H:Addr->Option Value):V->Value->Prop where
 | b (x:Bool):Ap μ H (.b x) (.bool x)
 | i (k:IntKind) (n:Int):Ap μ H (.i k n) (.int k n)
 | s (l:List UInt8) (h:l.length<=AO):Ap μ H (.s l) (.string ⟨l.toArray⟩)
 | nil:Ap μ H .nil (.slice none 0 0)
 | slE (a:Option Addr) (cap:Nat):Ap μ H (.sl []) (.slice a 0 cap)
 | slC (es:List V) (ad:Addr) (cap sz:Nat) (vals:List Value) (hc:es.length<=cap) (hl:es.length<=Bf) (hsz:∀e∈es,(cells e).length=sz)
   (hn:(AN es).length=vals.length) (h1:∀v∈vals,v.oneCell'=true) (hp:∀(k:Nat) (v:Value),vals[k]?=some v->H (ad.add k)=some v)
   (hv:∀(k:Nat) (c:V) (v:Value),(AN es)[k]?=some c->vals[k]?=some v->Ap μ H c v):Ap μ H (.sl es) (.slice (some ad) es.length cap)
 | agg (cs:List V) (vals:List Value) (hn:cs.length=vals.length) (h1:∀v∈vals,v.oneCell'=true)
   (hv:∀(k:Nat) (c:V) (v:Value),cs[k]?=some c->vals[k]?=some v->Ap μ H c v):Ap μ H (.agg cs) (.agg vals.toArray)
 | tup (cs:List V) (vals:List Value) (hn:cs.length=vals.length)
   (hv:∀(k:Nat) (c:V) (v:Value),cs[k]?=some c->vals[k]?=some v->Ap μ H c v):Ap μ H (.tup cs) (.tuple vals.toArray)
 | ref (id:Id) (off bk:Nat) (h:μ id=some (.pointer (some ⟨bk,0,none⟩))):Ap μ H (.ref id off) (.pointer (some ⟨bk,off,none⟩))
 | arr (id:Id) (v:Value) (h:μ id=some v) (h1:v.oneCell'=true):Ap μ H (.arr id) v
 | aref (id:Id) (ix sz off bk len cap:Nat) (h:μ id=some (.slice (some ⟨bk,0,none⟩) len cap)):Ap μ H (.aref id ix sz off) (.pointer (some ⟨bk,ix*sz+off,none⟩))
 | ep (e:V) (off:Nat) (ad:Addr) (vals:List Value) (hn:(cells e).length=vals.length) (h1:∀v∈vals,v.oneCell'=true)
   (hp:∀(k:Nat) (v:Value),vals[k]?=some v->H (ad.add k)=some v)
   (hv:∀(k:Nat) (c:V) (v:Value),(cells e)[k]?=some c->vals[k]?=some v->Ap μ H c v):Ap μ H (.ep e off) (.pointer (some (ad.add off)))
 | fn (f:FuncId) (first caps:List V) (fvals cvals:List Value) (hnf:first.length=fvals.length) (hnc:caps.length=cvals.length)
   (hvf:∀(k:Nat) (c:V) (v:Value),first[k]?=some c->fvals[k]?=some v->Ap μ H c v)
   (hvc:∀(k:Nat) (c:V) (v:Value),caps[k]?=some c->cvals[k]?=some v->Ap μ H c v):Ap μ H (.fn f first caps) (.func (.func f) fvals.toArray cvals.toArray)
 | np:Ap μ H .np (.pointer none)
 | nf:Ap μ H .nf .nilFunc
 | ni:Ap μ H .ni .nilIface
 | nm:Ap μ H .nm (.map none)
 | ub (t:Bool):Ap μ H .ub (.bool t)
 | iv (t:TypeId) (x:Value):Ap μ H .iv (.iface t x)
 | any (v:Value):Ap μ H .any v
structure VRels (μ:Id->Option Value) (H:Addr->Option Value) (cs:List V) (vals:List Value):Prop where
 len:cs.length=vals.length
 at_:∀(k:Nat) (c:V) (v:Value),cs[k]?=some c->vals[k]?=some v->Ap μ H c v
structure AR (μ:Id->Option Value) (H:Addr->Option Value) (cs:List V) (vals:List Value):Prop extends VRels μ H cs vals where
 one:∀v∈vals,v.oneCell'=true
section mono
variable{μ μ':Id→Option Value}{H H':Addr→Option Value}
theorem Ap.mono{v:V}{val:Value}(h:Ap μ H v val)(r:∀id x,μ id=some x->μ' id=some x)(J:∀a x,H a=some x->H' a=some x):Ap μ' H' v val:=by
 induction h with
 | b x=>exact .b x
 | i k n=>exact .i k n
 | s l h=>exact .s l h
 | nil=>exact .nil
 | slE a c=>exact .slE a c
 | slC es z c sz vals K L E q p hp _ u=>exact .slC es z c sz vals K L E q p (λk v B=>J _ _ (hp k v B)) u
 | agg cs vals q p _ u=>exact .agg cs vals q p u
 | tup cs vals q _ u=>exact .tup cs vals q u
 | ref id g A h=>exact .ref id g A (r _ _ h)
 | arr id v h p=>exact .arr id v (r _ _ h) p
 | aref id M sz g A I c h=>exact .aref id M sz g A I c (r _ _ h)
 | ep e g z vals q p hp _ u=>exact .ep e g z vals q p (λk v B=>J _ _ (hp k v B)) u
 | fn f first y m j D C _ _ G F=>exact .fn f first y m j D C G F
 | np=>exact .np
 | nf=>exact .nf
 | ni=>exact .ni
 | nm=>exact .nm
 | ub t=>exact .ub t
 | iv t x=>exact .iv t x
 | any v=>exact .any v
theorem Ap.ub_inv{val:Value}(h:Ap μ H .ub val):∃t,val=.bool t:=by cases h;exact⟨_,rfl⟩
theorem VRels.mono{cs:List V}{vals:List Value}(h:VRels μ H cs vals)(b:∀id x,μ id=some x->μ' id=some x)(e:∀a x,H a=some x->H' a=some x):VRels μ' H' cs vals:=
 ⟨h.len,λk c v f g=>(h.at_ k c v f g).mono b e⟩
theorem AR.mono{cs:List V}{vals:List Value}(h:AR μ H cs vals)(b:∀id x,μ id=some x->μ' id=some x)(c:∀a x,H a=some x->H' a=some x):AR μ' H' cs vals:=
 ⟨h.toVRels.mono b c,h.one⟩
end mono
section lists
variable{μ:Id→Option Value}{H:Addr→Option Value}
theorem VRels.nil_:VRels μ H [] []:=⟨rfl,λk c v h=>by simp at h⟩
theorem VRels.cons{c:V}{v:Value}{cs:List V}{vs:List Value}(h:Ap μ H c v)(b:VRels μ H cs vs):VRels μ H (c::cs) (v::vs):=by
 refine⟨by simp[b.len],λk x y e f=>?_⟩;cases k with
 | zero=>grind
 | succ k=>exact b.at_ k x y (by simpa using e) (by simpa using f)
theorem VRels.append{cs e:List V}{vs us:List Value}(h:VRels μ H cs vs)(f:VRels μ H e us):VRels μ H (cs++e) (vs++us):=by
 refine⟨by simp[h.len,f.len],λk x y b c=>?_⟩;by_cases g:k<cs.length
 .rw[List.getElem?_append_left g] at b;rw[List.getElem?_append_left (by rw[<-h.len];exact g)] at c;exact h.at_ k x y b c
 .rw[List.getElem?_append_right (by omega)] at b;rw[List.getElem?_append_right (by rw[<-h.len];omega),<-h.len] at c;exact f.at_ _ x y b c
theorem AR.append{cs b:List V}{vs us:List Value}(h:AR μ H cs vs)(c:AR μ H b us):AR μ H (cs++b) (vs++us):=
 ⟨h.toVRels.append c.toVRels,λv e=>(List.mem_append.1 e).elim (h.one v) (c.one v)⟩
theorem VRels.take{cs:List V}{vs:List Value}(h:VRels μ H cs vs)(n:Nat):VRels μ H (cs.take n) (vs.take n):=by
 refine⟨by simp[h.len],λk x y b c=>?_⟩;rw[List.getElem?_take] at b c;split at b
 .rename_i e;rw[if_pos e] at c;exact h.at_ k x y b c
 .cases b
theorem VRels.drop{cs:List V}{vs:List Value}(h:VRels μ H cs vs)(n:Nat):VRels μ H (cs.drop n) (vs.drop n):=by refine⟨by simp[h.len],λk x y b c=>?_⟩;rw[List.getElem?_drop] at b c;exact h.at_ _ x y b c
theorem AR.take{cs:List V}{vs:List Value}(h:AR μ H cs vs)(n:Nat):AR μ H (cs.take n) (vs.take n):=
 ⟨h.toVRels.take n,λv b=>h.one v (List.mem_of_mem_take b)⟩
theorem AR.drop{cs:List V}{vs:List Value}(h:AR μ H cs vs)(n:Nat):AR μ H (cs.drop n) (vs.drop n):=
 ⟨h.toVRels.drop n,λv b=>h.one v (List.mem_of_mem_drop b)⟩
theorem VRels.get{cs:List V}{vs:List Value}(h:VRels μ H cs vs){k:Nat}{c:V}(e:cs[k]?=some c):∃v,vs[k]?=some v/\Ap μ H c v:=by
 have f:k<cs.length:=(List.getElem?_eq_some_iff.1 e).1;have b:k<vs.length:=by rw[<-h.len];exact f
 exact⟨vs[k],List.getElem?_eq_getElem b,h.at_ k c _ e (List.getElem?_eq_getElem b)⟩
theorem AR.nil_:AR μ H [] []:=⟨VRels.nil_,λv b=>by cases b⟩
theorem Ap.toCells{v:V}{val:Value}(h:Ap μ H v val)(J:v.ok=true):AR μ H (cells v) val.cells.toList/\(v.one=true->val.oneCell'=true):=by
 have one:∀{c:V} {x:Value},Ap μ H c x->x.oneCell'=true->AR μ H [c] [x]:=λB M=>⟨VRels.nil_.cons B,λv r=>by grind⟩
 cases h with
 | b x=>exact⟨one (.b x) rfl,λ_=>rfl⟩
 | i k n=>exact⟨one (.i k n) rfl,λ_=>rfl⟩
 | s l h=>exact⟨one (.s l h) rfl,λ_=>rfl⟩
 | nil=>exact⟨one .nil rfl,λ_=>rfl⟩
 | slE a g=>exact⟨one (.slE a g) rfl,λ_=>rfl⟩
 | slC es z g sz vals B K E u m hp r=>exact⟨one (.slC es z g sz vals B K E u m hp r) rfl,λ_=>rfl⟩
 | agg cs vals u m r=>exact⟨⟨⟨u,r⟩,m⟩,λh=>by simp[V.one] at h⟩
 | tup cs vals u r=>simp[V.ok] at J
 | ref id j A h=>exact⟨one (.ref id j A h) rfl,λ_=>rfl⟩
 | arr id v h m=>
  have:val.cells=#[val]:=by cases val<;>first|rfl|simp[Value.oneCell'] at m
  rw[this];exact⟨one (.arr id val h m) m,λ_=>m⟩
 | aref id L sz j A I g h=>exact⟨one (.aref id L sz j A I g h) rfl,λ_=>rfl⟩
 | ep e j z vals u m hp r=>exact⟨one (.ep e j z vals u m hp r) rfl,λ_=>rfl⟩
 | fn f first y q p D C G F=>exact⟨one (.fn f first y q p D C G F) rfl,λ_=>rfl⟩
 | np=>exact⟨one .np rfl,λ_=>rfl⟩
 | nf=>exact⟨one .nf rfl,λ_=>rfl⟩
 | ni=>exact⟨one .ni rfl,λ_=>rfl⟩
 | nm=>exact⟨one .nm rfl,λ_=>rfl⟩
 | ub t=>exact⟨one (.ub t) rfl,λ_=>rfl⟩
 | iv t x=>exact⟨one (.iv t x) rfl,λ_=>rfl⟩
 | any v=>simp[V.ok] at J
end lists
theorem FE{es:List V}{sz:Nat}(h:∀e∈es,(cells e).length=sz):(AN es).length=es.length*sz:=by
 induction es with
 | nil=>simp[AN]
 | cons e es f=>have g:=h e (by simp);have b:=f (λx c=>h x (by simp[c]));simp only[AN,List.flatMap_cons,List.length_append,List.length_cons] at b⊢;grind
theorem FG(es xs:List V):AN (es++xs)=AN es++AN xs:=by simp[AN]
theorem Ku{es:List V}{sz:Nat}(h:∀e∈es,(cells e).length=sz)(n:Nat):AN (es.drop n)=(AN es).drop (n*sz):=by
 induction n generalizing es with
 | zero=>simp
 | succ n g=>
  cases es with
  | nil=>simp[AN]
  | cons e es=>have b:=h e (by simp);have c:=g (es:=es) (λx f=>h x (by simp[f]));rw[List.drop_succ_cons,c];simp only[AN,List.flatMap_cons];rw[Nat.add_mul,Nat.one_mul,Nat.add_comm,<-List.drop_drop,<-b,List.drop_left]
theorem K9{es:List V}{sz:Nat}(h:∀e∈es,(cells e).length=sz)(n:Nat):AN (es.take n)=(AN es).take (n*sz):=by
 induction n generalizing es with
 | zero=>simp[AN]
 | succ n g=>
  cases es with
  | nil=>simp[AN]
  | cons e es=>have c:=h e (by simp);have b:=g (es:=es) (λx f=>h x (by simp[f]));rw[List.take_succ_cons];simp only[AN,List.flatMap_cons] at b⊢;rw[b,Nat.add_mul,Nat.one_mul,Nat.add_comm,<-c,List.take_length_add_append]
theorem UG{es:List V}{sz:Nat}(h:∀e∈es,(cells e).length=sz){i:Nat}{e:V}(b:es[i]?=some e):((AN es).drop (i*sz)).take sz=cells e:=by
 have f:i<es.length:=(List.getElem?_eq_some_iff.1 b).1;have g:e∈es:=List.mem_of_getElem? b;have c:=Ku h i;rw[<-c];rw[List.drop_eq_getElem_cons f];have:es[i]=e:=by grind
 simp only[AN,List.flatMap_cons,this];grind
inductive AX where
 | box (v:V)
 | tbox (t:TypeId) (v:V)
 | arr (e:TypeId) (sz:Nat) (es:List V)
 | map (es:List (V×V))
 | it (l:List UInt8) (pos:Nat)
 | mit (mid:Id) (since:Nat) (seen:List Nat) (stepped:Nat)
 | loop (nt:Nat) (env:AB) (ps:List Nat) (a b:IC) (st:LoopState) (pd:Option (Option Nat))
 deriving Inhabited
def EQ:Option (Option Nat)->Option Code
 | none=>none
 | some none=>some .ret
 | some (some k)=>some (.exit k)
abbrev Aj:=List (Id×AX)
def lk:Aj->Id->Option AX
 | [],_=>none
 | (k,e)::r,id=>if k=id then some e else lk r id
def C2(v:Option Value):Option Nat:=
 match v with
 | some (.pointer (some a))=>some a.block
 | some (.slice (some a) _ _)=>some a.block
 | some (.map (some r))=>some r
 | some (.func (.yield l) _ _)=>some l
 | _=>none
structure VK (μ:Id->Option Value) (H:Addr->Option Value) (es:List (V×V)) (ms:List MapEntry) (clock:Nat):Prop where
 len:es.length=ms.length
 at_:∀(k:Nat) (c:V×V) (m:MapEntry),es[k]?=some c->ms[k]?=some m->Ap μ H c.1 m.key/\Ap μ H c.2 m.val
 born:∀(k:Nat) (m:MapEntry),ms[k]?=some m->m.born=k
 now:clock=ms.length
theorem VK.mono{μ μ':Id->Option Value}{H H':Addr->Option Value}{es:List (V×V)}{ms:List MapEntry}{b:Nat}(h:VK μ H es ms b)(e:∀id x,μ id=some x->μ' id=some x)(i:∀a x,H a=some x->H' a=some x):VK μ' H' es ms b:=
 ⟨h.len,λk c m f g=>⟨(h.at_ k c m f g).1.mono e i,(h.at_ k c m f g).2.mono e i⟩,h.born,h.now⟩
variable[FV]
def CX(B:Nat)(μ:Id->Option Value)(H:Addr->Option Value)(w:World)(id:Id):AX->Prop
 | .box v=>∃g vals t,μ id=some (.pointer (some ⟨g,0,none⟩))/\B<=g/\w.heap[g]?=some (.cells vals t (0,0))/\AR μ H (cells v) vals.toList
 | .tbox t v=>∃g vals,μ id=some (.pointer (some ⟨g,0,none⟩))/\B<=g/\w.heap[g]?=some (.cells vals t (0,0))/\AR μ H (cells v) vals.toList
 | .map es=>∃r i c,μ id=some (.map (some r))/\B<=r/\w.heap[r]?=some (.map i c)/\VK μ H es i.toList c
 | .it l j=>∃r,μ id=some (.pointer (some ⟨r,0,none⟩))/\B<=r/\w.heap[r]?=some (.stringIter ⟨l.toArray⟩ j)
 | .mit mid h seen f=>∃r m,μ id=some (.pointer (some ⟨r,0,none⟩))/\B<=r/\μ mid=some (.map (some m))/\w.heap[r]?=some (.mapIter (some m) h seen.toArray f)
 | .arr e sz es=>∃v vals,μ id=some v/\v.oneCell'=true/\w.ownsRow B e sz v es.length vals/\es.length<=Bf/\(∀x∈es,(cells x).length=sz)/\AR μ H (AN es) vals
 | .loop nt env ps a b p k=>∃l r,μ id=some (.func (.yield l) #[] #[])/\B<=l/\w.heap[l]?=some (.loop r)/\(r.state=p/\r.pending=EQ k/\r.params.toList=ps/\FV.ck nt r.assign a/\FV.ck nt r.body b/\r.tmps.size=nt)/\∀s,Ap μ H (get env s) (r.tmps.getD s undef)
def Fv(μ:Id->Option Value)(σ:Aj)(b:Nat):Prop:=∃id e,lk σ id=some e/\C2 (μ id)=some b
structure Hp (W0:World) (σ:Aj) (n:Nat) (μ:Id->Option Value) (H:Addr->Option Value) (w:World):Prop where
 base:Below W0.heap.size W0 w
 pins:∀ad v,H ad=some v->w.cell? ad=some v
 ents:∀id e,lk σ id=some e->CX W0.heap.size μ H w id e
 unp:∀bk,Fv μ σ bk->∀ad:Addr,ad.block=bk->H ad=none
 sep:∀id e id' e' bk,lk σ id=some e->lk σ id'=some e'->C2 (μ id)=some bk->C2 (μ id')=some bk->id=id'
 bd:∀id,n<=id.1->μ id=none
structure Fr (μ:Id->Option Value) (H:Addr->Option Value) (σ:Aj) (w:World) (μ':Id->Option Value) (H':Addr->Option Value) (σ':Aj) (w':World):Prop where
 mu:∀id x,μ id=some x->μ' id=some x
 hp:∀ad v,H ad=some v->H' ad=some v
 size:w.heap.size<=w'.heap.size
 keep:∀bk,bk<w.heap.size->¬Fv μ σ bk->w'.heap[bk]?=w.heap[bk]?
 pin:∀ad:Addr,ad.block<w.heap.size->¬Fv μ σ ad.block->H' ad=H ad
 dom:∀bk,bk<w.heap.size->Fv μ' σ' bk->Fv μ σ bk
theorem Fr.refl(μ:Id->Option Value)(H:Addr->Option Value)(σ:Aj)(w:World):Fr μ H σ w μ H σ w:=
 ⟨λ_ _ h=>h,λ_ _ h=>h,Nat.le_refl _,λ_ _ _=>rfl,λ_ _ _=>rfl,λ_ _ h=>h⟩
theorem Fr.trans{μ b c:Id->Option Value}{H f g:Addr->Option Value}{σ σ1 e:Aj}{w i j:World}(h:Fr μ H σ w b f σ1 i)(k:Fr b f σ1 i c g e j):Fr μ H σ w c g e j where
 mu id x hx:=k.mu _ _ (h.mu _ _ hx)
 hp ad v hv:=k.hp _ _ (h.hp _ _ hv)
 size:=Nat.le_trans h.size k.size
 keep bk hb ho:=(k.keep bk (Nat.lt_of_lt_of_le hb h.size) (λo=>ho (h.dom bk hb o))).trans (h.keep bk hb ho)
 pin ad hb ho:=(k.pin ad (Nat.lt_of_lt_of_le hb h.size) (λo=>ho (h.dom _ hb o))).trans (h.pin ad hb ho)
 dom bk hb ho:=h.dom bk hb (k.dom bk (Nat.lt_of_lt_of_le hb h.size) ho)
section hp
variable{W0 w:World}{σ:Aj}{n:Nat}{μ:Id→Option Value}{H:Addr→Option Value}
theorem CX.block{B:Nat}{id:Id}{e:AX}{q:Nat}(h:CX B μ H w id e)(c:C2 (μ id)=some q):B<=q/\q<w.heap.size:=by
 cases e with
 | box v=>obtain⟨g,vals,t,j,hB,k,_⟩:=h;rw[j] at c;simp[C2] at c;grind
 | tbox t v=>obtain⟨g,vals,j,hB,k,_⟩:=h;rw[j] at c;simp[C2] at c;grind
 | arr e sz es=>
  obtain⟨v,vals,j,_,i,_⟩:=h;rw[j] at c;refine i.lt q ?_;cases v with
  | slice a A z=>cases a with
   | none=>simp[C2] at c
   | some a=>simpa[C2,Value.ownBlock] using c
  | pointer a=>rcases i.2 with⟨h,_⟩|⟨_,_,_,h,_⟩<;>cases h
  | map a=>rcases i.2 with⟨h,_⟩|⟨_,_,_,h,_⟩<;>cases h
  | func f x y=>rcases i.2 with⟨h,_⟩|⟨_,_,_,h,_⟩<;>cases h
  | _=>simp[C2] at c
 | map es=>obtain⟨r,C,s,j,hB,k,_⟩:=h;rw[j] at c;simp[C2] at c;grind
 | it l D=>obtain⟨r,j,hB,k⟩:=h;rw[j] at c;simp[C2] at c;grind
 | mit mid u seen p=>obtain⟨r,m,j,hB,_,k⟩:=h;rw[j] at c;simp[C2] at c;grind
 | loop nt env ps a b F E=>obtain⟨l,r,j,hB,k,_⟩:=h;rw[j] at c;simp[C2] at c;grind
theorem CX.named{B:Nat}{id:Id}{e:AX}(h:CX B μ H w id e):∃x,μ id=some x:=by
 cases e with
 | box v=>obtain⟨_,_,_,c,_⟩:=h;exact⟨_,c⟩
 | tbox t v=>obtain⟨_,_,c,_⟩:=h;exact⟨_,c⟩
 | arr e sz es=>obtain⟨_,_,c,_⟩:=h;exact⟨_,c⟩
 | map es=>obtain⟨_,_,_,c,_⟩:=h;exact⟨_,c⟩
 | it l i=>obtain⟨_,c,_⟩:=h;exact⟨_,c⟩
 | mit mid g seen f=>obtain⟨_,_,c,_⟩:=h;exact⟨_,c⟩
 | loop nt env ps a b k j=>obtain⟨_,_,c,_⟩:=h;exact⟨_,c⟩
theorem Hp.own_lt(h:Hp W0 σ n μ H w){b:Nat}(g:Fv μ σ b):W0.heap.size<=b/\b<w.heap.size:=by obtain⟨id,e,f,c⟩:=g;exact(h.ents id e f).block c
theorem CX.keep{B:Nat}{μ':Id->Option Value}{H':Addr->Option Value}{w':World}{id:Id}{e:AX}(h:CX B μ H w id e)
  (c:∀id x,μ id=some x->μ' id=some x)(u:∀a x,H a=some x->H' a=some x)(p:∀z,C2 (μ id)=some z->w'.heap[z]?=w.heap[z]?):CX B μ' H' w' id e:=by
 cases e with
 | box v=>obtain⟨g,vals,t,f,hB,i,q⟩:=h;exact⟨g,vals,t,c _ _ f,hB,by rw[p g (by simp[f,C2])];exact i,q.mono c u⟩
 | tbox t v=>obtain⟨g,vals,f,hB,i,q⟩:=h;exact⟨g,vals,c _ _ f,hB,by rw[p g (by simp[f,C2])];exact i,q.mono c u⟩
 | arr e sz es=>
  obtain⟨v,vals,f,I,j,K,E,q⟩:=h;refine⟨v,vals,c _ _ f,I,⟨j.1,?_⟩,K,E,q.mono c u⟩;rcases j.2 with J|⟨g,A,C,rfl,hB,i,r⟩
  .exact .inl J
  .exact .inr ⟨g,A,C,rfl,hB,by rw[p g (by simp[f,C2])];exact i,r⟩
 | map es=>obtain⟨r,F,k,f,hB,i,q⟩:=h;exact⟨r,F,k,c _ _ f,hB,by rw[p r (by simp[f,C2])];exact i,q.mono c u⟩
 | it l N=>obtain⟨r,f,hB,i⟩:=h;exact⟨r,c _ _ f,hB,by rw[p r (by simp[f,C2])];exact i⟩
 | mit mid G seen y=>obtain⟨r,m,f,hB,D,i⟩:=h;exact⟨r,m,c _ _ f,hB,c _ _ D,by rw[p r (by simp[f,C2])];exact i⟩
 | loop nt env ps a b R O=>obtain⟨l,r,f,hB,i,M,L⟩:=h;exact⟨l,r,c _ _ f,hB,by rw[p l (by simp[f,C2])];exact i,M,λs=>(L s).mono c u⟩
end hp
end Go.Ir
end
section
namespace Go.Ir
open Go.RowKit
variable[FV]
def ev(g:Nat->V):X->V
 | .t s=>g s
 | .c v=>v
def put(env:AB)(d:Option Nat)(v:V):AB:=
 match d with
 | some d=>(d,v)::env
 | none=>env
def JZ:V->Bool
 | .agg _=>true
 | _=>false
def Vo(v:V):V:=.agg (cells v)
def sub(v:V)(b n:Nat)(c:Bool):Option V:=
 if c then(if b=0/\(cells v).length=n then some (Vo v) else if b+n<=(cells v).length then some (.agg (((cells v).drop b).take n)) else none)
 else(cells v)[b]?
def Du(u:V)(b n:Nat)(x:V):Option V:=
 if(cells x).length=n then
  (if b=0/\(cells u).length=n/\JZ u=JZ x then some x
  else if b+n<=(cells u).length then some (.agg ((cells u).take b++cells x++(cells u).drop (b+n))) else none)
 else none
def upd:Aj->Id->AX->Aj
 | [],_,_=>[]
 | (k,e)::r,id,e'=>if k=id then(k,e')::r else(k,e)::upd r id e'
def del:Aj->Id->Aj
 | [],_=>[]
 | (k,e)::r,id=>if k=id then del r id else(k,e)::del r id
def over(σi σo σ:Aj):Aj:=σo++σ.filter λp=>(lk σi p.1).isNone
def Dz(z:List V):List (Nat×Nat×V)->Option (List V)
 | []=>some z
 | (b,n,v)::r=>if(cells v).length=n/\b+n<=z.length then Dz (z.take b++cells v++z.drop (b+n)) r else none
def AA(σ:Aj):V->Option (List V)
 | .sl xs=>some xs
 | .nil=>some []
 | .arr id=>match lk σ id with
  | some (.arr _ _ es)=>some es
  | _=>none
 | _=>none
def Fe(g:Nat->V)(b:Nat):Option X->Option Nat
 | none=>some b
 | some x=>match ev g x with
  | .i _ n=>if 0<=n then some n.toNat else none
  | _=>none
def QH(c:BinOp)(k:IntKind)(a b:Int)(v:V):Prop:=
 match c with
 | .add=>v=.i k (k.wrap (a+b))
 | .sub=>v=.i k (k.wrap (a-b))
 | .mul=>v=.i k (k.wrap (a*b))
 | .quo=>b≠0/\v=.i k (k.wrap (a.tdiv b))
 | .rem=>b≠0/\v=.i k (a.tmod b)
 | .eql=>v=.b (a==b)
 | .neq=>v=.b (a !=b)
 | .lss=>v=.b (decide (a<b))
 | .leq=>v=.b (decide (a<=b))
 | .gtr=>v=.b (decide (a>b))
 | .geq=>v=.b (decide (a>=b))
 | _=>False
def Qm(c:BinOp)(a b:List UInt8)(v:V):Prop:=
 match c with
 | .add=>a.length+b.length<=AO/\v=.s (a++b)
 | .eql=>v=.b (a==b)
 | .neq=>v=.b (!(a==b))
 | .lss=>v=.b (Op.bytesLess a b)
 | .leq=>v=.b (Op.bytesLess a b||a==b)
 | .gtr=>v=.b (!(Op.bytesLess a b||a==b))
 | .geq=>v=.b (!Op.bytesLess a b)
 | _=>False
def Or(c:BinOp)(x y v:V):Prop:=
 match x,y with
 | .i k a,.i e b=>k=e/\QH c k a b v
 | .s a,.s b=>Qm c a b v
 | _,_=>False
def NB(c:Bool):V->List V->Option V
 | v,[]=>some v
 | .i k a,.i e b::r=>if k=e then NB c (.i k (if c then min a b else max a b)) r else none
 | _,_=>none
def Ev:Dd->V->V->Option Bool
 | .str,.s a,.s b=>some (a==b)
 | .int,.i k a,.i c b=>if k=c then some (a==b) else none
 | .bool,.b a,.b b=>some (a==b)
 | _,_,_=>none
def p3(a b:List V):List (Nat×Dd)->Option Bool
 | []=>some true
 | (o,c)::r=>match a[o]?,b[o]? with
  | some x,some y=>match Ev c x y with
   | some true=>p3 a b r
   | some false=>some false
   | none=>none
  | _,_=>none
def EY(c:Dd)(x y:V):Option Bool:=
 match c,x,y with
 | .st l,.agg a,.agg b=>if a.length=l.length/\b.length=l.length then p3 a b l else none
 | .str,x,y=>Ev .str x y
 | .int,x,y=>Ev .int x y
 | .bool,x,y=>Ev .bool x y
 | _,_,_=>none
def Lc:Dd->V->Bool
 | .str,.s _|.int,.i _ _|.bool,.b _=>true
 | .st l,.agg a=>a.length==l.length
 | _,_=>false
def Bz(b:Dd)(k:V):List (V×V)->Nat->Option (Option (Nat×V))
 | [],_=>if Lc b k then some none else none
 | e::es,i=>match EY b k e.1 with
  | some true=>some (some (i,e.2))
  | some false=>Bz b k es (i+1)
  | none=>none
def BD(l:List UInt8):List V:=l.map λc=>.i .u8 c.toNat
def DJ:List V->Option (List UInt8)
 | []=>some []
 | .i .u8 n::r=>(DJ r).map (UInt8.ofNat n.toNat :: ·)
 | _=>none
def K8:lI->V->Option Bool
 | .p,.np=>some true
 | .p,.ref _ _=>some false
 | .p,.aref _ _ _ _=>some false
 | .p,.ep _ _=>some false
 | .f,.nf=>some true
 | .f,.fn _ _ _=>some false
 | .i,.ni=>some true
 | .i,.iv=>some false
 | _,_=>none
def Ady:V->V->Option Bool
 | .np,y=>K8 .p y
 | x,.np=>K8 .p x
 | .ref id o,.ref b c=>if id=b then some (o==c) else none
 | _,_=>none
def Pl:AX->Bool
 | .box _=>true
 | .tbox _ _=>true
 | _=>false
def Ny(σ:Aj):V->V->Option Bool
 | .np,y=>K8 .p y
 | x,.np=>K8 .p x
 | .ref id o,.ref b c=>if id=b then some (o==c) else(lk σ id).bind λe=>(lk σ b).bind λe'=>if Pl e&&Pl e' then some false else none
 | _,_=>none
def qK(c r:Bool):V:=.b (if c then !r else r)
def jX(c:BinOp)(k:IntKind)(a b:Int):Option V:=
 match c with
 | .and=>some (.i k (k.wrap (BitVec.ofInt k.bits a &&& BitVec.ofInt k.bits b).toNat))
 | .or=>some (.i k (k.wrap (BitVec.ofInt k.bits a ||| BitVec.ofInt k.bits b).toNat))
 | .xor=>some (.i k (k.wrap (BitVec.ofInt k.bits a ^^^ BitVec.ofInt k.bits b).toNat))
 | .andNot=>some (.i k (k.wrap (BitVec.ofInt k.bits a &&& ~~~BitVec.ofInt k.bits b).toNat))
 | _=>none
def AdF(c:BinOp)(k:IntKind)(a b:Int):Option V:=
 match c with
 | .shl=>some (.i k (k.wrap (a*2 ^ min b.toNat k.bits)))
 | .shr=>some (.i k (a.fdiv (2 ^ min b.toNat k.bits)))
 | _=>none
def Hf:BW->List V->Option V
 | .isnil c,[.nil]=>some (.b (!c))
 | .isnil c,[.sl []]=>some .ub
 | .isnil c,[.sl (_::_)]=>some (.b c)
 | .itos,[.i _ n]=>some (.s (Utf8.encode n).data.toList)
 | .btos,[.sl es]=>(DJ es).map .s
 | .btos,[.nil]=>some (.s [])
 | .aidx n sz,[.ref id e,.i _ i]=>if 0<=i/\i<(n:Int) then some (.ref id (e+i.toNat*sz)) else none
 | .bit f,[.i k a,.i h b]=>if k=h then jX f k a b else none
 | .shf f,[.i k a,.i _ b]=>if 0<=b then AdF f k a b else none
 | .aget n sz g,[.agg cs,.i _ i]=>if 0<=i/\i<(n:Int) then sub (.agg cs) (i.toNat*sz) sz g else none
 | .eqs c l,[.agg a,.agg b]=>(p3 a b l).map λr=>.b (if c then !r else r)
 | .nilq k c,[x]=>(K8 k x).map λr=>.b (if c then !r else r)
 | .eqp c,[x,y]=>(Ady x y).map λr=>.b (if c then !r else r)
 | .com,[.i k a]=>jX .xor k (if k.signed then -1 else k.max) a
 | _,_=>none
def fF:lB->AX->List V->Option V
 | .mget c z ok,.map es,[k]=>(Bz c k es 0).map λr=>match r with
  | some (_,v)=>if ok then .tup [v,.b true] else v
  | none=>if ok then .tup [z,.b false] else z
 | .mlen,.map es,[]=>some (.i .i64 es.length)
 | _,_,_=>none
def OR:Xf->AX->List V->Option (AX×V)
 | .mput g,.map es,[k,v]=>(Bz g k es 0).map λr=>match r with
  | some (i,_)=>(.map (es.modify i λe=>(e.1,v)),.tup [])
  | none=>(.map (es++[(k,v)]),.tup [])
 | .ment g z,.map es,[k]=>(Bz g k es 0).map λr=>match r with
  | some (i,v)=>(.map es,.tup [v,.i .i64 (i:Nat)])
  | none=>(.map (es++[(k,z)]),.tup [z,.i .i64 es.length])
 | .mst,.map es,[.i _ j,v]=>if 0<=j/\j.toNat<es.length then some (.map (es.modify j.toNat λe=>(e.1,v)),.tup []) else none
 | .next,.it l f,[]=>if f<l.length then(let c:=Utf8.decode ⟨l.toArray⟩ f;some (.it l (f+c.2),.tup [.b true,.i .i64 f,.i .i32 c.1])) else some (.it l f,.tup [.b false])
 | _,_,_=>none
def Sz:rQ->List V->Option AX
 | .mkmap,[]=>some (.map [])
 | .strit,[.s l]=>some (.it l 0)
 | .tnew t z,[]=>some (.tbox t z)
 | .tbx t,[x]=>if x.ok=true then some (.tbox t x) else none
 | _,_=>none
def Z2:rQ->Id->V
 | .tnew _ _,id|.tbx _,id=>.ref id 0
 | _,id=>.arr id
def C0(e:AX)(b n:Nat)(c:Bool):Option V:=
 match e with
 | .box u=>sub u b n c
 | .tbox _ u=>sub u b n c
 | _=>none
def RH(c:AX)(b n:Nat)(x:V):Option AX:=
 match c with
 | .box u=>(Du u b n x).map .box
 | .tbox t u=>(Du u b n x).map (.tbox t)
 | _=>none
theorem PU{c:AX}{b n:Nat}{e:Bool}{v:V}(h:C0 c b n e=some v):∃u,(c=.box u\/∃t,c=.tbox t u)/\sub u b n e=some v:=by unfold C0 at h;grind
theorem Rt{f c:AX}{b n:Nat}{x:V}(h:RH f b n x=some c):∃u e,Du u b n x=some e/\(f=.box u/\c=.box e\/∃t,f=.tbox t u/\c=.tbox t e):=by
 unfold RH at h;split at h
 .rename_i u;cases g:Du u b n x with
  | none=>rw[g] at h;cases h
  | some e=>grind
 .rename_i t u;cases g:Du u b n x with
  | none=>rw[g] at h;cases h
  | some e=>grind
 .cases h
def callable(P:Program)(f:FuncId):Bool:=
 match P.funcs[f]? with
 | some fn => fn.body.isSome&&!(fn.name == "runtime.NumGoroutine")
 | none=>false
structure An (P:Program) (W0:World) (f:FuncId) (args:List V) (σ:Aj) (v:V) (σ':Aj):Prop where
 callable:callable P f=true
 dom:∀id,lk σ' id≠none->lk σ id≠none
 run:∀n w μ H vals,Hp W0 σ n μ H w->VRels μ H args vals->Calls P f vals.toArray w fun e w'=>
  ∃val μ' H' n',e=.returned val/\Ap μ' H' v val/\Hp W0 σ' n' μ' H' w'/\n<=n'/\Fr μ H σ w μ' H' σ' w'/\∀id,id.1<n->μ id=none->μ' id=none
structure H9 (P:Program) (W0:World) (f:FuncId) (args:List V) (σ:Aj) (x:AX) (σ':Aj):Prop where
 callable:callable P f=true
 dom:∀id,lk σ' id≠none->lk σ id≠none
 run:∀n w μ H vals,Hp W0 σ n μ H w->VRels μ H args vals->Calls P f vals.toArray w fun e' w'=>
  ∃val μ' H' n' id,e'=.returned val/\μ' id=some val/\val.oneCell'=true/\μ id=none/\lk σ' id=none/\Hp W0 ((id,x)::σ') n' μ' H' w'/\n<=n'/\Fr μ H σ w μ' H' ((id,x)::σ') w'/\∀id,id.1<n->μ id=none->μ' id=none
def E(P:Program)(W0:World)(ep:Nat)(d:Option Nat)(R:AE)(g:Nat->V)(σ:Aj)(v:V)(σ':Aj):Prop:=
 match R with
 | .mv x=>v=ev g x/\σ'=σ
 | .pick c a b=>∃t,ev g c=.b t/\v=(bif t then ev g a else ev g b)/\σ'=σ
 | .bin R x y=>Or R (ev g x) (ev g y) v/\σ'=σ
 | .eqb O x y=>∃a b,ev g x=.b a/\ev g y=.b b/\v=.b (if O then !(a==b) else a==b)/\σ'=σ
 | .not x=>∃a,ev g x=.b a/\v=.b (!a)/\σ'=σ
 | .neg x=>∃k n,ev g x=.i k n/\v=.i k (k.wrap (0-n))/\σ'=σ
 | .cvi k x=>∃M n,ev g x=.i M n/\v=.i k (k.wrap n)/\σ'=σ
 | .cvs x=>∃l,ev g x=.s l/\v=.s l/\σ'=σ
 | .fld x r n F=>JZ (ev g x)=true/\sub (ev g x) r n F=some v/\σ'=σ
 | .faddr x r=>(match ev g x with
  | .ref id o=>v=.ref id (o+r)
  | .aref id D sz o=>v=.aref id D sz (o+r)
  | .ep e o=>v=.ep e (o+r)
  | _=>False)/\σ'=σ
 | .iaddr x i e sz=>(match ev g i with
  | .i _ n=>0<=n/\(match ev g x with
   | .sl es=>∃B,es[n.toNat]?=some B/\(cells B).length=sz/\v=.ep B 0
   | .arr id=>∃e' es,lk σ id=some (.arr e' sz es)/\n.toNat<es.length/\v=.aref id n.toNat sz 0
   | _=>False)
  | _=>False)/\σ'=σ
 | .idx x i=>∃l k n c,ev g x=.s l/\ev g i=.i k n/\0<=n/\l[n.toNat]?=some c/\v=.i .u8 c.toNat/\σ'=σ
 | .load x n F=>(match ev g x with
  | .ref id r=>∃I,lk σ id=some I/\C0 I r n F=some v
  | .aref id D sz r=>∃e es B,lk σ id=some (.arr e sz es)/\es[D]?=some B/\sub B r n F=some v
  | .ep u r=>sub u r n F=some v
  | _=>False)/\σ'=σ
 | .store a x n=>(ev g x).ok=true/\v=.tup []/\(match ev g a with
  | .ref id r=>∃I J,lk σ id=some I/\RH I r n (ev g x)=some J/\σ'=upd σ id J
  | .aref id D sz r=>∃e es B G,lk σ id=some (.arr e sz es)/\es[D]?=some B/\Du B r n (ev g x)=some G/\σ'=upd σ id (.arr e sz (es.set D G))
  | _=>False)
 | .box x=>∃j,d=some j/\(ev g x).ok=true/\v=.ref (ep,j) 0/\σ'=((ep,j),.box (ev g x))::σ
 | .alloc z=>∃j,d=some j/\v=.ref (ep,j) 0/\σ'=((ep,j),.box z)::σ
 | .build z ps=>(∀p∈ps,(ev g p.2.2).ok=true)/\(∃cs,Dz z (ps.map λp=>(p.1,p.2.1,ev g p.2.2))=some cs/\v=.agg cs)/\σ'=σ
 | .msl own e sz xs=>(∀x∈xs.map (ev g),x.ok=true/\(cells x).length=sz)/\(if own then ∃j,d=some j/\v=.arr (ep,j)/\σ'=((ep,j),.arr e sz (xs.map (ev g)))::σ else v=.sl (xs.map (ev g))/\σ'=σ)
 | .slS x L K=>∃l a b,ev g x=.s l/\Fe g 0 L=some a/\Fe g l.length K=some b/\a<=b/\b<=l.length/\v=.s ((l.take b).drop a)/\σ'=σ
 | .slL x L K sz=>∃es a b,(ev g x=.sl es\/ev g x=.nil/\es=[])/\Fe g 0 L=some a/\Fe g es.length K=some b/\a<=b/\b<=es.length/\(∀y∈es,(cells y).length=sz)/\v=.sl ((es.take b).drop a)/\σ'=σ
 | .lenS x=>∃l,ev g x=.s l/\v=.i .i64 l.length/\σ'=σ
 | .lenL x=>∃es,AA σ (ev g x)=some es/\v=.i .i64 es.length/\σ'=σ
 | .app s x e sz=>∃j xs,d=some j/\AA σ (ev g x)=some xs/\(∀y∈xs,(cells y).length=sz)/\v=.arr (ep,j)/\(match ev g s with
  | .nil=>xs.length<=Bf/\σ'=((ep,j),.arr e sz xs)::σ
  | .arr id=>∃es,lk σ id=some (.arr e sz es)/\es.length+xs.length<=Bf/\σ'=((ep,j),.arr e sz (es++xs))::del σ id
  | _=>False)
 | .apps s x e=>∃j l,d=some j/\ev g x=.s l/\v=.arr (ep,j)/\(match ev g s with
  | .nil=>l.length<=Bf/\σ'=((ep,j),.arr e 1 (BD l))::σ
  | .arr id=>∃es,lk σ id=some (.arr e 1 es)/\es.length+l.length<=Bf/\σ'=((ep,j),.arr e 1 (es++BD l))::del σ id
  | _=>False)
 | .slT x K sz=>∃j id e es q,d=some j/\ev g x=.arr id/\lk σ id=some (.arr e sz es)/\Fe g es.length (some K)=some q/\q<=es.length/\v=.arr (ep,j)/\σ'=((ep,j),.arr e sz (es.take q))::del σ id
 | .ext x k=>∃vs,ev g x=.tup vs/\vs[k]?=some v/\σ'=σ
 | .call f args=>An P W0 f (args.map (ev g)) [] v []/\σ'=σ
 | .calls f args=>∃σi σo,An P W0 f (args.map (ev g)) σi v σo/\(∀id e,lk σi id=some e->lk σ id=some e)/\σ'=over σi σo σ
 | .calln f args=>∃j σi σo x,d=some j/\H9 P W0 f (args.map (ev g)) σi x σo/\(∀id e,lk σi id=some e->lk σ id=some e)/\v=.arr (ep,j)/\σ'=((ep,j),x)::over σi σo σ
 | .callr f args=>(∃σi,An P W0 f (args.map (ev g)) σi v σi/\(∀id e,lk σi id=some e->lk σ id=some e))/\σ'=σ
 | .callv h args=>∃f first A,ev g h=.fn f first A/\An P W0 f (first++args.map (ev g)++A) [] v []/\σ'=σ
 | .callvs h args=>∃f first A σi σo,ev g h=.fn f first A/\An P W0 f (first++args.map (ev g)++A) σi v σo/\(∀id e,lk σi id=some e->lk σ id=some e)/\σ'=over σi σo σ
 | .mkfn f first A=>v=.fn f (first.map (ev g)) (A.map (ev g))/\σ'=σ
 | .mksl l c z e sz=>∃j k M n m,d=some j/\ev g l=.i k (Int.ofNat n)/\ev g c=.i M (Int.ofNat m)/\n<=m/\m<=Bf/\v=.arr (ep,j)/\σ'=((ep,j),.arr e sz (List.replicate n z))::σ
 | .mx L x xs=>NB L (ev g x) (xs.map (ev g))=some v/\σ'=σ
 | .nilck x=>(match ev g x with
  | .ref _ _|.aref _ _ _ _|.ep _ _|.fn _ _ _=>True
  | _=>False)/\v=ev g x/\σ'=σ
 | .pu k xs=>Hf k (xs.map (ev g))=some v/\σ'=σ
 | .rdm k m xs=>(∃id e,ev g m=.arr id/\lk σ id=some e/\fF k e (xs.map (ev g))=some v)/\σ'=σ
 | .wrm k m xs=>∃id e e',ev g m=.arr id/\lk σ id=some e/\OR k e (xs.map (ev g))=some (e',v)/\σ'=upd σ id e'
 | .mkm k xs=>∃j e,d=some j/\Sz k (xs.map (ev g))=some e/\v=Z2 k (ep,j)/\σ'=((ep,j),e)::σ
 | .frz m n=>∃id cs,ev g m=.ref id 0/\lk σ id=some (.box (.agg cs))/\cs.length=n/\(∀c∈cs,cells c=[c])/\v=.sl cs/\σ'=del σ id
 | .mrange m=>∃j mid es,d=some j/\ev g m=.arr mid/\lk σ mid=some (.map es)/\v=.arr (ep,j)/\σ'=((ep,j),.mit mid es.length [] es.length)::σ
 | .mentry m=>∃id mid C seen i es N,ev g m=.arr id/\lk σ id=some (.mit mid C seen es.length)/\seen.getLast?=some i/\lk σ mid=some (.map es)/\es[i]?=some N/\v=.tup [N.1,N.2]/\σ'=σ
 | .eqr O x y=>(Ny σ (ev g x) (ev g y)).map (qK O)=some v/\σ'=σ
 | .callw _ _=>False
 | .btos x=>∃es,AA σ (ev g x)=some es/\(DJ es).map .s=some v/\σ'=σ
def AE.cs:AE->List X
 | .load x _ _|.lenL x|.iaddr x _ _ _|.store x _ _|.btos x=>[x]
 | .app s x _ _=>[s,x]
 | .apps s _ _=>[s]
 | .slT x _ _=>[x]
 | .rdm _ m _|.wrm _ m _=>[m]
 | .frz m _|.mrange m|.mentry m=>[m]
 | _=>[]
def Cq:V->Option Id
 | .ref id _=>some id
 | .aref id _ _ _=>some id
 | .arr id=>some id
 | _=>none
def S0(i:I)(g:Nat->V):Prop:=∀x∈i.ap,∀y∈i.op.cs,∀id,Cq (ev g x)=some id->Cq (ev g y)≠some id
def AE.cl:AE->Bool
 | .calls ..|.calln ..|.callvs ..|.mentry ..|.callr ..|.eqr ..=>true
 | _=>false
def IT(i:I)(g:Nat->V)(σ σ':Aj):Prop:=i.op.cl=true->∀x∈i.ap,∀id,Cq (ev g x)=some id->lk σ id≠none->lk σ' id=lk σ id
def EA(P:Program)(W0:World)(ep:Nat)(i:I)(g:Nat->V)(σ:Aj)(v:V)(σ':Aj):Prop:=E P W0 ep i.dst i.op g σ v σ'/\S0 i g/\IT i g σ σ'
def CI(P:Program)(W0:World)(ep:Nat)(i:I)(env:AB)(σ:Aj)(K:AB->Aj->Prop):Prop:=
 match i.gd with
 | none=>∃v σ',EA P W0 ep i (get env) σ v σ'/\K (put env i.dst v) σ'
 | some (s,c)=>
  match get env s with
  | .b t=>(t=c->∃v σ',EA P W0 ep i (get env) σ v σ'/\K (put env i.dst v) σ')/\(t≠c->K (put env i.dst (.tup [])) σ)
  | .tup []=>K (put env i.dst (.tup [])) σ
  | _=>False
def Ao(P:Program)(W0:World)(ep:Nat):List I->AB->Aj->(AB->Aj->Prop)->Prop
 | [],env,σ,K=>K env σ
 | i::l,env,σ,K=>CI P W0 ep i env σ λenv' σ'=>Ao P W0 ep l env' σ' K
def L2:AE->Bool
 | .store _ _ _=>true
 | .wrm (.mput _) _ _=>true
 | .wrm .mst _ _=>true
 | _=>false
def uK:Value->V->Bool
 | .bool x,.b y=>x==y
 | .int k n,.i c m=>k==c&&n==m
 | .string s,.s l=>s.data.toList==l&&decide (l.length<=AO)
 | .slice none 0 0,.nil=>true
 | .pointer none,.np=>true
 | .nilFunc,.nf=>true
 | .nilIface,.ni=>true
 | .map none,.nm=>true
 | _,_=>false
def S7:List Value->List V->Bool
 | [],[]=>true
 | x::xs,y::ys=>uK x y&&S7 xs ys
 | _,_=>false
def DX:Value->V->Bool
 | .agg vs,.agg cs=>S7 vs.toList cs
 | .agg _,_=>false
 | _,.agg _=>false
 | v,c=>uK v c
def BP:Operand->X->Bool
 | .tmp t,.t s=>t==s
 | .const v,.c x=>uK v x
 | .func f,.c (.fn g [] [])=>f==g
 | _,_=>false
def A8:List Operand->List X->Bool
 | [],[]=>true
 | x::xs,y::ys=>BP x y&&A8 xs ys
 | _,_=>false
def Ig:Option Operand->Option X->Bool
 | none,none=>true
 | some x,some y=>BP x y
 | _,_=>false
section tables
variable(P:Program)
def Cs(t:TypeId):Option Nat:=(P.info? t).map (·.size)
def Vv:TypeDesc->Bool
 | .struct _|.array _ _=>true
 | _=>false
def D9(t:TypeId):Option Bool:=(P.underlying t).map Vv
def Cd(t:TypeId):Option TypeId:=match P.underlying t with|some (.slice e)=>some e|_=>none
def CJ(t:TypeId):Bool:=match P.underlying t with|some .string=>true|_=>false
def Ls(t:TypeId):Bool:=match P.underlying t with|some .bool=>true|_=>false
def Rr(t:TypeId):Option IntKind:=match P.underlying t with|some (.int k)=>some k|_=>none
def HQ(t:TypeId):Option (Array Field):=match P.underlying t with|some (.struct b)=>some b|_=>none
def uJ(t:TypeId):Option Value:=(P.info? t).bind (·.zero)
def Fy(t:TypeId)(z:V):Bool:=match uJ P t with|some b=>DX b z|none=>false
def Hy(e sz:Nat):Bool:=
 match P.info? e with
 | some i=>i.size==sz&&decide (0<sz)&&decide (i.bytes<=32768)&&(match i.zero with|some z=>z.cells.size==sz&&z.cells.all (·.oneCell')|none=>false)
 | none=>false
def Kl(t:TypeId)(f:Nat):Option Field:=(HQ P t).bind λb=>b[f]?
def bY(t:TypeId)(f c n:Nat)(e:Bool):Bool:=
 match Kl P t f with
 | some b=>b.offset==c&&Cs P b.type==some n&&D9 P b.type==some e
 | none=>false
def Ph(t:TypeId)(f b:Nat):Bool:=
 match Kl P t f with
 | some c=>c.offset==b&&decide (0<(Cs P c.type).getD 0)
 | none=>false
def O6(t:TypeId):Option (List (Nat×Nat)):=(HQ P t).bind λb=>b.toList.mapM λf=>(P.info? f.type).map λi=>(f.offset,i.size)
def JX(t:TypeId):Option (List (Nat×Nat)):=
 match P.underlying t with
 | some (.array k e)=>(P.info? e).map λi=>(List.range k).map λj=>(j*i.size,i.size)
 | _=>O6 P t
def GP(c:List (Nat×Nat)):List (Nat×Operand)->List (Nat×Nat×X)->Bool
 | [],[]=>true
 | (f,x)::r,(b,n,y)::e=>c[f]? == some (b,n)&&BP x y&&GP c r e
 | _,_=>false
def GR:Nat->List (Nat×Operand)->List X->Bool
 | _,[],[]=>true
 | k,(j,x)::r,y::b=>j==k&&BP x y&&GR (k+1) r b
 | _,_,_=>false
def Np(t:TypeId):Option (TypeId×TypeId):=match P.underlying t with|some (.map k e)=>some (k,e)|_=>none
def Mf(b:Dd)(t:TypeId):Bool:=match b,P.underlying t with
 | .str,some .string|.int,some (.int _)|.bool,some .bool=>true
 | _,_=>false
def FQ:List Field->List (Nat×Dd)->Bool
 | [],[]=>true
 | f :: fs, (o, kk) :: l => f.offset==o&&f.name != "_" && Mf P kk f.type&&Cs P f.type==some 1&&FQ fs l
 | _,_=>false
def Nn(kk:Dd)(t:TypeId):Bool:=match kk with
 | .st l=>(match P.underlying t with|some (.struct b)=>FQ P b.toList l|_=>false)&&!P.stoodInHeld t&&(l.map Prod.fst==List.range l.length)
 | kk=>Mf P kk t
def Agt(k:lI)(t:TypeId)(c:Value):Bool:=
 match k,P.underlying t,c with
 | .p,some (.pointer _),.pointer none=>true
 | .f,some (.func _ _ _),.nilFunc=>true
 | .i,some (.interface _),.nilIface=>true
 | _,_,_=>false
def He(k:BW)(o:Op)(xs:List X):Bool:=
 match k with
 | .isnil g=>(match o with|.binOp b t x' (.const (.slice none 0 0)) _=>(b==(if g then BinOp.neq else BinOp.eql))&&(Cd P t).isSome&&A8 [x'] xs|_=>false)
 | .itos=>(match o with|.convert h f x'=>(Rr P h).isSome&&CJ P f&&A8 [x'] xs|_=>false)
 | .btos=>(match o with|.convert h f x'=>((Cd P h).bind (Rr P))==some .u8&&CJ P f&&A8 [x'] xs|_=>false)
 | .aidx n sz=>(match o with|.indexAddr t x' j=>(match P.underlying t with|some (.array n' e)=>n'==n&&Cs P e==some sz|_=>false)&&A8 [x',j] xs|_=>false)
 | .bit m=>(match o with|.binOp b _ x' i _=>b==m&&A8 [x',i] xs|_=>false)
 | .shf m=>(match o with|.binOp b _ x' i _=>b==m&&A8 [x',i] xs|_=>false)
 | .aget n sz p=>(match o with|.index t x' j=>(match P.underlying t with|some (.array n' e)=>n'==n&&Cs P e==some sz&&D9 P e==some p|_=>false)&&A8 [x',j] xs|_=>false)
 | .eqs g l=>(match o with|.binOp b t x' i _=>(b==(if g then BinOp.neq else BinOp.eql))&&(match P.underlying t with|some (.struct q)=>FQ P q.toList l|_=>false)&&!P.stoodInHeld t&&!P.eqGuardType P.depth t&&A8 [x',i] xs|_=>false)
 | .nilq k g=>(match o with|.binOp b t x' (.const c) _=>(b==(if g then BinOp.neq else BinOp.eql))&&Agt P k t c&&A8 [x'] xs|_=>false)
 | .eqp g=>(match o with|.binOp b t x' i _=>(b==(if g then BinOp.neq else BinOp.eql))&&(match P.underlying t with|some (.pointer e)=>(match Cs P e with|some (_+1)=>true|_=>false)|_=>false)&&A8 [x',i] xs|_=>false)
 | .stuck=>true
 | .com=>(match o with|.unOp .xor _ x'=>A8 [x'] xs|_=>false)
def iP(k:lB)(o:Op)(m:X)(xs:List X):Bool:=
 match k with
 | .mget g z ok=>(match o with|.lookup t i f b=>(match Np P t with|some (h,e)=>Nn P g h&&Fy P e z|none=>false)&&b==ok&&BP i m&&A8 [f] xs|_=>false)
 | .mlen=>(match o with|.call c=>(match c.callee with|.builtin .len=>(Np P (c.argTypes.getD 0 0)).isSome&&c.argTypes.size==1&&A8 c.args.toList (m::xs)&&xs.isEmpty|_=>false)|_=>false)
def SK(k:Xf)(o:Op)(m:X)(xs:List X):Bool:=
 match k with
 | .mput f=>(match o with
  | .mapUpdate t m' b e=>(match Np P t with|some (c,g)=>Nn P f c|none=>false)&&BP m' m&&A8 [b,e] xs
  | .insert t m' b e=>(match Np P t with|some (c,g)=>Nn P f c|none=>false)&&BP m' m&&A8 [b,e] xs
  | _=>false)
 | .ment f z=>(match o with|.mapEntry t m' b=>(match Np P t with|some (c,g)=>Nn P f c&&Fy P g z|none=>false)&&BP m' m&&A8 [b] xs|_=>false)
 | .mst=>(match o with|.entryStore t m' h e=>BP m' m&&A8 [h,e] xs|_=>false)
 | .next=>(match o with|.next m' true=>BP m' m&&xs.isEmpty|_=>false)
def Sn(k:rQ)(o:Op)(xs:List X):Bool:=
 match k with
 | .mkmap=>(match o with|.makeMap t none=>xs.isEmpty|_=>false)
 | .strit=>(match o with|.range t x'=>CJ P t&&A8 [x'] xs|_=>false)
 | .tnew t z=>(match o with|.alloc b=>b==t&&Fy P t z&&xs.isEmpty|_=>false)
 | .tbx t=>(match o with|.box b x'=>b==t&&A8 [x'] xs|_=>false)
def O1(e:TypeId):Bool:=
 match P.info? e with
 | some i=>i.size==1&&i.bytes==1&&(match i.zero with|some (.int .u8 0)=>true|_=>false)
 | none=>false
def Nr(o:Op)(i:AE):Bool:=
 match i with
 | .mv y=>(match o with|.move x=>BP x y|.assign x=>BP x y|_=>false)
 | .pick c a b=>(match o with|.pick M K T=>BP M c&&BP K a&&BP T b|_=>false)
 | .bin X x y=>(match o with|.binOp D _ x' S _=>D==X&&BP x' x&&BP S y|_=>false)
 | .eqb O x y=>(match o with|.binOp D t x' S _=>(D==(if O then BinOp.neq else BinOp.eql))&&Ls P t&&BP x' x&&BP S y|_=>false)
 | .not x=>(match o with|.unOp .not _ x'=>BP x' x|_=>false)
 | .neg x=>(match o with|.unOp .neg _ x'=>BP x' x|_=>false)
 | .cvi k x=>(match o with|.convert p g x'=>(P.underlying p).isSome&&Rr P g==some k&&BP x' x|_=>false)
 | .cvs x=>(match o with|.convert p g x'=>CJ P p&&CJ P g&&BP x' x|_=>false)
 | .fld x C n L=>(match o with|.field t x' f=>bY P t f C n L&&BP x' x|_=>false)
 | .faddr x C=>(match o with|.fieldAddr t x' f=>Ph P t f C&&BP x' x|_=>false)
 | .iaddr x i e sz=>(match o with|.indexAddr t x' N=>Cd P t==some e&&Cs P e==some sz&&BP x' x&&BP N i|_=>false)
 | .idx x i=>(match o with|.index t x' N=>CJ P t&&BP x' x&&BP N i|_=>false)
 | .load x n L=>(match o with|.load t x'=>Cs P t==some n&&D9 P t==some L&&BP x' x|_=>false)
 | .store a x n=>(match o with|.store t K x'=>Cs P t==some n&&BP K a&&BP x' x|_=>false)
 | .box x=>(match o with|.box _ x'=>BP x' x|_=>false)
 | .alloc z=>(match o with|.alloc t=>Fy P t z|_=>false)
 | .build z ps=>(match o with|.build t R=>Fy P t (.agg z)&&(JX P t).isSome&&GP ((JX P t).getD []) R.toList ps|_=>false)
 | .msl _ e sz xs=>(match o with|.buildSlice t I ps=>Cd P t==some e&&Hy P e sz&&I==xs.length&&decide (I*sz<=16777216)&&GR 0 ps.toList xs|_=>false)
 | .slS x J G=>(match o with|.slice t x' B j none=>CJ P t&&BP x' x&&Ig B J&&Ig j G|_=>false)
 | .slL x J G sz=>(match o with|.slice t x' B j none=>(Cd P t).isSome&&Cs P ((Cd P t).getD 0)==some sz&&BP x' x&&Ig B J&&Ig j G|_=>false)
 | .lenS x=>(match o with|.call c=>(match c.callee with|.builtin .len=>CJ P (c.argTypes.getD 0 0)&&c.argTypes.size==1&&A8 c.args.toList [x]|_=>false)|_=>false)
 | .lenL x=>(match o with|.call c=>(match c.callee with|.builtin .len=>(Cd P (c.argTypes.getD 0 0)).isSome&&c.argTypes.size==1&&A8 c.args.toList [x]|_=>false)|_=>false)
 | .app s x e sz=>(match o with|.call c=>(match c.callee with|.builtin .append=>c.argTypes==#[c.argTypes.getD 0 0,c.argTypes.getD 0 0]&&Cd P (c.argTypes.getD 0 0)==some e&&Hy P e sz&&A8 c.args.toList [s,x]|_=>false)|_=>false)
 | .apps s x e=>(match o with|.call c=>(match c.callee with|.builtin .append=>c.argTypes==#[c.argTypes.getD 0 0,c.argTypes.getD 1 0]&&Cd P (c.argTypes.getD 0 0)==some e&&CJ P (c.argTypes.getD 1 0)&&O1 P e&&A8 c.args.toList [s,x]|_=>false)|_=>false)
 | .slT x G sz=>(match o with|.slice t x' none (some j) none=>(Cd P t).isSome&&Cs P ((Cd P t).getD 0)==some sz&&BP x' x&&BP j G|_=>false)
 | .ext x k=>(match o with|.extract x' U=>U==k&&BP x' x|_=>false)
 | .call f args=>(match o with|.call c=>(match c.callee with|.value (.func r)=>r==f&&A8 c.args.toList args|_=>false)|_=>false)
 | .calls f args=>(match o with|.call c=>(match c.callee with|.value (.func r)=>r==f&&A8 c.args.toList args|_=>false)|_=>false)
 | .calln f args=>(match o with|.call c=>(match c.callee with|.value (.func r)=>r==f&&A8 c.args.toList args|_=>false)|_=>false)
 | .callr f args=>(match o with|.call c=>(match c.callee with|.value (.func r)=>r==f&&A8 c.args.toList args|_=>false)|_=>false)
 | .callv h args=>(match o with|.call c=>(match c.callee with|.value F=>BP F h&&A8 c.args.toList args|_=>false)|_=>false)
 | .callvs h args=>(match o with|.call c=>(match c.callee with|.value F=>BP F h&&A8 c.args.toList args|_=>false)|_=>false)
 | .callw h args=>(match o with|.call c=>(match c.callee with|.value F=>BP F h&&A8 c.args.toList args|_=>false)|_=>false)
 | .btos x=>(match o with|.convert p g x'=>((Cd P p).bind (Rr P))==some .u8&&CJ P g&&BP x' x|_=>false)
 | .mkfn f first E=>(match o with|.makeFunc (.func r) u A=>r==f&&A8 u.toList first&&A8 A.toList E|_=>false)
 | .mksl l c z e sz=>(match o with|.makeSlice t W M=>Cd P t==some e&&Hy P e sz&&Fy P e z&&BP W l&&BP M c|_=>false)
 | .mx J x xs=>(match o with|.call c=>(match c.callee with|.builtin b=>(b==(if J then Builtin.min else Builtin.max))&&A8 c.args.toList (x::xs)|_=>false)|_=>false)
 | .nilck x=>(match o with|.nilCheck x'=>BP x' x|_=>false)
 | .pu k xs=>He P k o xs
 | .rdm k m xs=>iP P k o m xs
 | .wrm k m xs=>SK P k o m xs
 | .mkm k xs=>Sn P k o xs
 | .frz m n=>(match o with|.slice t x' none none none=>(match P.underlying t with|some (.array q e)=>q==n&&Cs P e==some 1&&decide (n<=1024)|_=>false)&&BP x' m|_=>false)
 | .mrange m=>(match o with|.range t x'=>(Np P t).isSome&&BP x' m|_=>false)
 | .mentry m=>(match o with|.entry x'=>BP x' m|_=>false)
 | .eqr O x y=>He P (.eqp O) o [x,y]
end tables
end Go.Ir
end
section
namespace Go.Ir
open Go.RowKit
variable[FV]
theorem ER{σ:Aj}{id:Id}{e:AX}{x:AX}(h:lk σ id=some x)(k:Id):lk (upd σ id e) k=if id=k then some e else lk σ k:=by
 induction σ with
 | nil=>simp[lk] at h
 | cons p r c=>
  obtain⟨f,e0⟩:=p;by_cases b:f=id
  .subst b;simp only[upd,if_true,lk];split<;>rfl
  .simp only[lk,if_neg b] at h;have:=c h;simp only[upd,if_neg b,lk];grind
theorem CV(σ:Aj)(id k:Id):lk (del σ id) k=if id=k then none else lk σ k:=by
 induction σ with
 | nil=>simp[lk,del]
 | cons p r c=>
  obtain⟨e,e0⟩:=p;by_cases b:e=id
  .subst b;simp only[del,if_true,lk,c];split<;>rfl
  .simp only[del,if_neg b,lk,c];grind
theorem VF(σ τ:Aj)(k:Id):lk (σ++τ) k=match lk σ k with|some e=>some e|none=>lk τ k:=by
 induction σ with
 | nil=>simp[lk]
 | cons p r b=>obtain⟨c,e0⟩:=p;simp only[List.cons_append,lk];grind
theorem NZ(q:Id->Bool)(σ:Aj)(k:Id):lk (σ.filter λp=>q p.1) k=if q k then lk σ k else none:=by
 induction σ with
 | nil=>simp[lk]
 | cons p r e=>
  obtain⟨c,e0⟩:=p;by_cases b:q c=true
  .simp only[List.filter_cons,b,if_true,lk];grind
  .simp only[List.filter_cons,b,lk];grind
theorem E1(σi σo σ:Aj)(k:Id):lk (over σi σo σ) k=match lk σo k with|some e=>some e|none=>if(lk σi k).isNone then lk σ k else none:=by unfold over;rw[VF,NZ (λk=>(lk σi k).isNone)]
structure AY (R:Nat->Prop) (w w':World):Prop where
 os:w'.os=w.os
 tape:w'.tape=w.tape
 output:w'.output=w.output
 size:w.heap.size<=w'.heap.size
 block:∀k,k<w.heap.size->¬R k->w'.heap[k]?=w.heap[k]?
theorem AY.of_grown{w w':World}{b:Option Nat}(h:w.grownBy w' b):AY (λk=>some k=b) w w':=
 ⟨h.os,h.tape,h.output,h.size,λk c hr=>h.block k c hr⟩
theorem AY.alloc(w:World)(o:Obj):AY (λ_=>False) w (w.alloc o):=
 ⟨rfl,rfl,rfl,by simp,λk b _=>heap_alloc_old w o k b⟩
theorem AY.setRow(w:World)(g:Nat)(cs:Array Value):AY (λk=>k=g) w (w.setRow g cs):=
 ⟨rfl,rfl,rfl,by simp,λk _ b=>setRow_other w g k cs b⟩
def ED(μ:Id->Option Value)(id:Id)(v:Value):Id->Option Value:=λk=>if k=id then some v else μ k
theorem Bw{μ:Id->Option Value}{id:Id}{v:Value}(h:μ id=none):∀k x,μ k=some x->ED μ id v k=some x:=by intro k x b;unfold ED;grind
theorem Au(μ:Id->Option Value)(id:Id)(v:Value):ED μ id v id=some v:=by simp[ED]
theorem BS(μ:Id->Option Value){id k:Id}(v:Value)(h:k≠id):ED μ id v k=μ k:=by simp[ED,h]
section
variable{W0 w w':World}{σ σ1:Aj}{n n':Nat}{μ:Id→Option Value}{H:Addr→Option Value}
theorem Hp.pin_lt(hp:Hp W0 σ n μ H w){b:Addr}{v:Value}(h:H b=some v):b.block<w.heap.size:=World.block_lt_of_cell? w b (hp.pins b v h)
theorem Hp.pin_new(hp:Hp W0 σ n μ H w){b:Addr}(h:w.heap.size<=b.block):H b=none:=by
 cases c:H b with
 | none=>rfl
 | some v=>have:=hp.pin_lt c;omega
theorem Hp.base_turned(hp:Hp W0 σ n μ H w){R:Nat->Prop}(b:AY R w w')(c:∀k,R k->Fv μ σ k):Below W0.heap.size W0 w':=by refine hp.base.trans ⟨b.os,b.tape,b.output,b.size,λk e=>?_⟩;exact b.block k (Nat.lt_of_lt_of_le e hp.base.size) (λhr=>by have:=(hp.own_lt (c k hr)).1;omega)
theorem Hp.pins_turned(hp:Hp W0 σ n μ H w){R:Nat->Prop}(e:AY R w w')(c:∀k,R k->Fv μ σ k):∀b v,H b=some v->w'.cell? b=some v:=by intro b v h;rw[World.cell?_of_block (w:=w) (e.block b.block (hp.pin_lt h) (λhr=>by rw[hp.unp _ (c _ hr) b rfl] at h;cases h))];exact hp.pins b v h
theorem Hp.new_(hp:Hp W0 σ n μ H w){R:Nat->Prop}(z:AY R w w')(A:∀k,R k->Fv μ σ k)
  (l:∀id e,lk σ1 id=some e->lk σ id=some e/\∀c,C2 (μ id)=some c->¬R c)
  {id:Id}{e:AX}{val:Value}(u:μ id=none)(M:id.1<n')(G:n<=n')
  (i:∀c,C2 (some val)=some c->R c\/w.heap.size<=c)(K:CX W0.heap.size (ED μ id val) H w' id e) :
  Hp W0 ((id,e)::σ1) n' (ED μ id val) H w'/\Fr μ H σ w (ED μ id val) H ((id,e)::σ1) w':=by
 have j:=Bw (v:=val) u;have m:∀b e',lk σ1 b=some e'->b≠id/\ED μ id val b=μ b:=by
  intro b e' E;have x:b≠id:=by intro e0;subst e0;obtain⟨_,D⟩:=(hp.ents _ _ (l _ _ E).1).named;rw[u] at D;cases D
  exact⟨x,BS _ _ x⟩
 have p:∀c,Fv (ED μ id val) ((id,e)::σ1) c->(C2 (some val)=some c)\/∃b e',lk σ1 b=some e'/\C2 (μ b)=some c:=by
  rintro c ⟨b,e',g,f⟩;simp only[lk] at g;split at g
  .rename_i F;subst F;rw[Au] at f;exact .inl f
  grind
 refine⟨⟨hp.base_turned z A,hp.pins_turned z A,?_,?_,?_,?_⟩,⟨j,λ_ _ h=>h,z.size,?_,λ_ _ _=>rfl,?_⟩⟩
 .intro b e' g;simp only[lk] at g;split at g
  .grind
  .refine(hp.ents _ _ (l _ _ g).1).keep j (λ_ _ h=>h) (λc f=>?_);exact z.block c ((hp.ents _ _ (l _ _ g).1).block f).2 ((l _ _ g).2 c f)
 .intro c y B f;rcases p c y with h|⟨b,e',g,q⟩
  .rcases i c h with hr|hr
   .exact hp.unp c (A c hr) B f
   .exact hp.pin_new (by omega)
  .exact hp.unp c ⟨b,e',(l _ _ g).1,q⟩ B f
 .intro N I i2 J c l1 t r s;simp only[lk] at l1 t;split at l1<;>split at t
  .grind
  .rename_i C f;exfalso;subst C;rw[Au] at r;rw[(m _ _ t).2] at s;rcases i c r with hr|hr
   .grind
   .have:=((hp.ents _ _ (l _ _ t).1).block s).2;omega
  .rename_i C f;exfalso;subst f;rw[Au] at s;rw[(m _ _ l1).2] at r;rcases i c s with hr|hr
   .grind
   .have:=((hp.ents _ _ (l _ _ l1).1).block r).2;omega
  .rw[(m _ _ l1).2] at r;rw[(m _ _ t).2] at s;exact hp.sep _ _ _ _ c (l _ _ l1).1 (l _ _ t).1 r s
 .intro k L;have:k≠id:=by rintro rfl;omega
  rw[BS _ _ this];exact hp.bd k (by omega)
 .intro c f y;exact z.block c f (λhr=>y (A c hr))
 .intro c f y;rcases p c y with h|⟨b,e',g,q⟩
  .grind
  .exact⟨b,e',(l _ _ g).1,q⟩
theorem Hp.set_(hp:Hp W0 σ n μ H w){id:Id}{e0 e:AX}(l:lk σ id=some e0)(p:AY (λk=>C2 (μ id)=some k) w w')(A:CX W0.heap.size μ H w' id e) :
  Hp W0 (upd σ id e) n μ H w'/\Fr μ H σ w μ H (upd σ id e) w':=by
 have r:∀k,C2 (μ id)=some k->Fv μ σ k:=λk h=>⟨id,e0,l,h⟩
 have i:∀b,Fv μ (upd σ id e) b->Fv μ σ b:=by
  rintro b ⟨c,e',f,j⟩;rw[ER l] at f;split at f
  .grind
  .exact⟨c,e',f,j⟩
 have g:∀c e',lk (upd σ id e) c=some e'->∃q,lk σ c=some q:=by intro c e' f;rw[ER l] at f;grind
 refine⟨⟨hp.base_turned p r,hp.pins_turned p r,?_,λb m=>hp.unp b (i b m),?_,hp.bd⟩,⟨λ_ _ h=>h,λ_ _ h=>h,p.size,?_,λ_ _ _=>rfl,λb _ m=>i b m⟩⟩
 .intro c e' f;rw[ER l] at f;split at f
  .grind
  .rename_i x;refine(hp.ents _ _ f).keep (λ_ _ h=>h) (λ_ _ h=>h) (λb j=>?_);exact p.block b ((hp.ents _ _ f).block j).2 (λhr=>x (hp.sep _ _ _ _ b l f hr j))
 .intro B y i2 z b l1 s t u;obtain⟨_,l1⟩:=g _ _ l1;obtain⟨_,s⟩:=g _ _ s;exact hp.sep _ _ _ _ b l1 s t u
 .intro b j m;exact p.block b j (λhr=>m (r b hr))
def pinned(H:Addr->Option Value)(w':World)(b:Nat):Addr->Option Value:=λc=>if c.block=b then w'.cell? c else H c
theorem Hp.pin_(hp:Hp W0 σ n μ H w)(o:Obj) :
  Hp W0 σ n μ (pinned H (w.alloc o) w.heap.size) (w.alloc o)/\Fr μ H σ w μ (pinned H (w.alloc o) w.heap.size) σ (w.alloc o):=by
 have g:=AY.alloc w o;have j:∀k,(λ_:Nat=>False) k->Fv μ σ k:=λk h=>h.elim;have b:∀c v,H c=some v->pinned H (w.alloc o) w.heap.size c=some v:=by intro c v h;unfold pinned;rw[if_neg (by have:=hp.pin_lt h;omega)];exact h
 refine⟨⟨hp.base_turned g j,?_,?_,?_,hp.sep,hp.bd⟩,⟨λ_ _ h=>h,b,g.size,λf e _=>g.block f e id,?_,λ_ _ h=>h⟩⟩
 .intro c v h;unfold pinned at h;split at h
  .exact h
  .exact hp.pins_turned g j c v h
 .intro m e' i;exact(hp.ents _ _ i).keep (λ_ _ h=>h) b (λf e=>g.block f ((hp.ents _ _ i).block e).2 (λh=>h))
 .intro f l c e;unfold pinned;rw[if_neg (by have:=(hp.own_lt l).2;omega)];exact hp.unp f l c e
 .intro c e _;unfold pinned;rw[if_neg (by omega)]
theorem Hp.part{σi:Aj}(hp:Hp W0 σ n μ H w)(b:∀id e,lk σi id=some e->lk σ id=some e):Hp W0 σi n μ H w where
 base:=hp.base
 pins:=hp.pins
 ents id e h:=hp.ents id e (b _ _ h)
 unp bk ho:=hp.unp bk (by obtain⟨id,e,h,c⟩:=ho;exact⟨id,e,b _ _ h,c⟩)
 sep id e id' e' bk h h':=hp.sep id e id' e' bk (b _ _ h) (b _ _ h')
 bd:=hp.bd
theorem Hp.back{σi σo:Aj}{μ':Id->Option Value}{H':Addr->Option Value}(hp:Hp W0 σ n μ H w)(D:∀id e,lk σi id=some e->lk σ id=some e)
  (q:Hp W0 σo n' μ' H' w')(p:Fr μ H σi w μ' H' σo w') :
  Hp W0 (over σi σo σ) n' μ' H' w'/\Fr μ H σ w μ' H' (over σi σo σ) w':=by
 have k:∀id e,lk (over σi σo σ) id=some e->(lk σo id=some e)\/(lk σo id=none/\lk σi id=none/\lk σ id=some e):=by
  intro id e h;rw[E1] at h;cases r:lk σo id with
  | some x=>rw[r] at h;exact .inl h
  | none=>simp_all
 have j:∀id e b,lk σi id=none->lk σ id=some e->C2 (μ id)=some b->b<w.heap.size/\¬Fv μ σi b/\w'.heap[b]?=w.heap[b]?/\μ' id=μ id:=by
  intro id e b A g f;have l:=((hp.ents _ _ g).block f).2;have m:¬Fv μ σi b:=by rintro⟨I,e',E,c⟩;have:=hp.sep _ _ _ _ b g (D _ _ E) f c;grind
  refine⟨l,m,p.keep b l m,?_⟩;cases C:μ id with
  | none=>rw[C] at f;simp[C2] at f
  | some x=>exact p.mu _ _ C
 have i:∀id e,lk σ id=some e->μ' id=μ id:=by intro id e g;obtain⟨_,C⟩:=(hp.ents _ _ g).named;rw[C];exact p.mu _ _ C
 have s:∀b,Fv μ' (over σi σo σ) b->Fv μ' σo b\/∃id e,lk σi id=none/\lk σ id=some e/\C2 (μ id)=some b:=by
  rintro b ⟨id,e,g,f⟩;rcases k id e g with h|⟨_,A,h⟩
  .exact .inl ⟨id,e,h,f⟩
  grind
 refine⟨⟨q.base,q.pins,?_,?_,?_,q.bd⟩,⟨p.mu,p.hp,p.size,?_,?_,?_⟩⟩
 .intro id e g;rcases k id e g with h|⟨_,A,h⟩
  .exact q.ents _ _ h
  .exact(hp.ents _ _ h).keep p.mu p.hp (λb f=>(j id e b A h f).2.2.1)
 .intro b r B f;rcases s b r with h|⟨id,e,A,g,c⟩
  .exact q.unp b h B f
  .obtain⟨l,m,_,_⟩:=j id e b A g c;rw[p.pin B (by rw[f];exact l) (by rw[f];exact m)];exact hp.unp b ⟨id,e,g,c⟩ B f
 .intro M K i2 L b l1 J y z;rcases k _ _ l1 with t|⟨_,F,t⟩<;>rcases k _ _ J with u|⟨_,G,u⟩
  .exact q.sep _ _ _ _ b t u y z
  .exfalso;rw[i _ _ u] at z;obtain⟨l,m,_,_⟩:=j _ _ b G u z;exact m (p.dom b l ⟨_,_,t,y⟩)
  .exfalso;rw[i _ _ t] at y;obtain⟨l,m,_,_⟩:=j _ _ b F t y;exact m (p.dom b l ⟨_,_,u,z⟩)
  .rw[i _ _ t] at y;rw[i _ _ u] at z;exact hp.sep _ _ _ _ b t u y z
 .intro b f r;refine p.keep b f (λh=>r ?_);obtain⟨id,e,g,c⟩:=h;exact⟨id,e,D _ _ g,c⟩
 .intro B f r;refine p.pin B f (λh=>r ?_);obtain⟨id,e,g,c⟩:=h;exact⟨id,e,D _ _ g,c⟩
 .intro b f r;rcases s b r with h|⟨id,e,A,g,c⟩
  .obtain⟨id,e,g,c⟩:=p.dom b f h;exact⟨id,e,D _ _ g,c⟩
  .exact⟨id,e,g,c⟩
end
end Go.Ir
end
section
namespace Go.Ir
open Go.RowKit
variable[FV]
structure Rl (μ:Id->Option Value) (H:Addr->Option Value) (nt:Nat) (env:AB) (a:Act):Prop where
 size:a.tmps.size=nt
 at_:∀s,Ap μ H (get env s) (a.tmps.getD s undef)
structure Gz (W0:World) (ep:Nat) (d:Option Nat) (σ:Aj) (n:Nat) (μ:Id->Option Value) (H:Addr->Option Value) (w:World) (v:V) (σ':Aj)
  (val:Value) (n':Nat) (μ':Id->Option Value) (H':Addr->Option Value) (w':World):Prop where
 rel:Ap μ' H' v val
 hp:Hp W0 σ' n' μ' H' w'
 le:n<=n'
 fr:Fr μ H σ w μ' H' σ' w'
 fresh:∀id,id.1<n->(∀dd,d=some dd->id≠(ep,dd))->μ id=none->μ' id=none
section
variable{μ μ':Id→Option Value}{H H':Addr→Option Value}
theorem Cw(a:Act)(d:Option Nat)(v:Value):(a.put d v).defers=a.defers:=by cases d<;>rfl
theorem Rl.mono{nt:Nat}{env:AB}{a:Act}(h:Rl μ H nt env a)(b:∀id x,μ id=some x->μ' id=some x)(e:∀c x,H c=some x->H' c=some x):Rl μ' H' nt env a:=
 ⟨h.size,λs=>(h.at_ s).mono b e⟩
theorem Rl.put{nt:Nat}{env:AB}{a:Act}(h:Rl μ H nt env a){d:Option Nat}(f:∀e,d=some e->e<nt){v:V}{val:Value}(g:Ap μ H v val):Rl μ H nt (put env d v) (a.put d val):=by
 cases d with
 | none=>exact h
 | some d=>
  have b:=f d rfl;refine⟨by simp[Act.put,h.size],λs=>?_⟩;by_cases c:d=s
  .subst c;have:d<a.tmps.size:=by rw[h.size];exact b
   simpa[Go.Ir.put,get,Act.put,this] using g
  .have:=h.at_ s;simpa[Go.Ir.put,get,Act.put,c,Array.getElem?_setIfInBounds_ne c] using this
theorem OP{v:Value}{c:V}(h:uK v c=true):Ap μ H c v:=by
 unfold uK at h;split at h
 .have e:=beq_iff_eq.1 h;subst e;exact .b _
 .simp only[Bool.and_eq_true,beq_iff_eq] at h;obtain⟨rfl,rfl⟩:=h;exact .i _ _
 .simp only[Bool.and_eq_true,beq_iff_eq,decide_eq_true_eq] at h;obtain⟨f,g⟩:=h;subst f;exact .s _ g
 .exact .nil
 .exact .np
 .exact .nf
 .exact .ni
 .exact .nm
 .cases h
theorem Mr:∀{vs:List Value} {cs:List V},S7 vs cs=true->AR μ H cs vs
 | [],[],_=>AR.nil_
 | x::xs,y::ys,h=>by
  simp only[S7,Bool.and_eq_true] at h;have c:=Mr h.2;have e:x.oneCell'=true:=by have:=h.1;cases x<;>first|rfl|simp[uK] at this
  exact⟨VRels.cons (OP h.1) c.toVRels,λv b=>by
   rcases List.mem_cons.1 b with rfl|b
   .exact e
   .exact c.one v b⟩
 | [],_::_,h=>by simp[S7] at h
 | _::_,[],h=>by simp[S7] at h
theorem HJ{v:Value}{c:V}(h:DX v c=true):Ap μ H c v/\AR μ H (cells c) v.cells.toList:=by
 have one:uK v c=true->(∀vs,v≠.agg vs)->Ap μ H c v/\AR μ H (cells c) v.cells.toList:=by
  intro h e;have hr:=OP (μ:=μ) (H:=H) h;refine⟨hr,?_⟩;have b:c.ok=true:=by cases v<;>cases c<;>simp_all[uK,V.ok]
  exact(hr.toCells b).1
 unfold DX at h;split at h
 .rename_i vs cs;have b:=Mr (μ:=μ) (H:=H) h;refine⟨?_,by simpa[Value.cells,cells] using b⟩;have:=Ap.agg cs vs.toList b.len b.one b.at_;simpa using this
 .cases h
 .cases h
 grind
theorem Am{nt:Nat}{env:AB}{a:Act}(hr:Rl μ H nt env a){x:Operand}{y:X}(h:BP x y=true):Ap μ H (ev (get env) y) (a.eval x):=by
 unfold BP at h;split at h
 .have b:=beq_iff_eq.1 h;subst b;exact hr.at_ _
 .exact OP h
 .have b:=beq_iff_eq.1 h;subst b;exact .fn _ [] [] [] [] rfl rfl (λk c v e=>by simp at e) (λk c v e=>by simp at e)
 .cases h
theorem Dh{nt:Nat}{env:AB}{a:Act}(hr:Rl μ H nt env a):∀{xs:List Operand} {ys:List X},A8 xs ys=true->VRels μ H (ys.map (ev (get env))) (xs.map a.eval)
 | [],[],_=>VRels.nil_
 | x::xs,y::ys,h=>by simp only[A8,Bool.and_eq_true] at h;exact VRels.cons (Am hr h.1) (Dh hr h.2)
 | [],_::_,h=>by simp[A8] at h
 | _::_,[],h=>by simp[A8] at h
end
section
variable{P:Program}{o:Oper}{a:Act}{w w':World}{next:Act→World→Prop}{Q:Exit→Act→World→Prop}{val:Value}
theorem Bk(b:(execOp a.eval o).run P w=.ok (.value val) w')(h:next (a.put o.dst val) w'):o.wp P a w next Q:=by unfold Oper.wp;rw[b];exact h
theorem Pk(b:(execOp a.eval o).run P w=.ok .skip w')(h:next (a.put o.dst undef) w'):o.wp P a w next Q:=by unfold Oper.wp;rw[b];exact h
end
section same
variable{W0 w:World}{ep:Nat}{d:Option Nat}{σ:Aj}{n:Nat}{μ:Id→Option Value}{H:Addr→Option Value}{v:V}{val:Value}
theorem Gz.same(hp:Hp W0 σ n μ H w)(h:Ap μ H v val):Gz W0 ep d σ n μ H w v σ val n μ H w:=
 ⟨h,hp,Nat.le_refl _,Fr.refl _ _ _ _,λ_ _ _ h=>h⟩
end same
section inv
variable{μ:Id→Option Value}{H:Addr→Option Value}{val:Value}
theorem Ap.b_inv{t:Bool}(h:Ap μ H (.b t) val):val=.bool t:=by cases h;rfl
theorem Ap.i_inv{k:IntKind}{n:Int}(h:Ap μ H (.i k n) val):val=.int k n:=by cases h;rfl
theorem Ap.s_inv{l:List UInt8}(h:Ap μ H (.s l) val):val=.string ⟨l.toArray⟩/\l.length<=AO:=by cases h;grind
theorem Ap.nil_inv(h:Ap μ H .nil val):val=.slice none 0 0:=by cases h;rfl
theorem Ap.ref_inv{id:Id}{b:Nat}(h:Ap μ H (.ref id b) val):∃c,μ id=some (.pointer (some ⟨c,0,none⟩))/\val=.pointer (some ⟨c,b,none⟩):=by cases h;grind
theorem Ap.arr_inv{id:Id}(h:Ap μ H (.arr id) val):μ id=some val/\val.oneCell'=true:=by cases h;grind
theorem Ap.aref_inv{id:Id}{g sz b:Nat}(h:Ap μ H (.aref id g sz b) val):∃f e c,μ id=some (.slice (some ⟨f,0,none⟩) e c)/\val=.pointer (some ⟨f,g*sz+b,none⟩):=by cases h;grind
theorem Ap.ep_inv{e:V}{b:Nat}(h:Ap μ H (.ep e b) val):∃(c:Addr) (vals:List Value),val=.pointer (some (c.add b))/\AR μ H (cells e) vals/\∀(k:Nat) (v:Value),vals[k]?=some v->H (c.add k)=some v:=by
 cases h with
 | ep e b c vals g f hp i=>exact⟨c,vals,rfl,⟨⟨g,i⟩,f⟩,hp⟩
theorem Ap.tup_inv{cs:List V}(h:Ap μ H (.tup cs) val):∃vals:List Value,val=.tuple vals.toArray/\VRels μ H cs vals:=by
 cases h with
 | tup cs vals b c=>exact⟨vals,rfl,⟨b,c⟩⟩
theorem Ap.fn_inv{f:FuncId}{first b:List V}(h:Ap μ H (.fn f first b) val):∃e c:List Value,val=.func (.func f) e.toArray c.toArray/\VRels μ H first e/\VRels μ H b c:=by
 cases h with
 | fn f first b e c g i j k=>exact⟨e,c,rfl,⟨g,j⟩,⟨i,k⟩⟩
theorem Ap.sl_inv{es:List V}(h:Ap μ H (.sl es) val):∃(A:Option Addr) (b:Nat),val=.slice A es.length b/\es.length<=b/\es.length<=Bf/\
  (es=[]\/∃(c:Addr) (sz:Nat) (vals:List Value),A=some c/\(∀e∈es,(cells e).length=sz)/\AR μ H (AN es) vals/\∀(k:Nat) (v:Value),vals[k]?=some v->H (c.add k)=some v):=by
 cases h with
 | slE a b=>simp_all
 | slC es c b sz vals i j f l g hp m=>exact⟨some c,b,rfl,i,j,.inr ⟨c,sz,vals,rfl,f,⟨⟨l,m⟩,g⟩,hp⟩⟩
theorem Ap.isA_inv{v:V}(h:Ap μ H v val)(c:JZ v=true):∃vals:List Value,val=.agg vals.toArray/\AR μ H (cells v) vals:=by cases h<;>simp[JZ] at c;rename_i cs vals e b f;exact⟨vals,rfl,⟨⟨e,f⟩,b⟩⟩
end inv
theorem Hv{P:Program}{t:TypeId}{n:Nat}{h:Bool}(y:Cs P t=some n)(q:D9 P t=some h)(w:World)(vals:List Value)(b:Nat){μ:Id->Option Value}{H:Addr->Option Value}{u v:V}
  (g:AR μ H (cells u) vals)(e:sub u b n h=some v):∃val,(part t vals.toArray b).run P w=.ok val w/\Ap μ H v val:=by
 obtain⟨i,r,rfl⟩:∃i,P.info? t=some i/\i.size=n:=by simpa[Cs] using y
 obtain⟨c,z,k⟩:∃c,P.underlying t=some c/\Vv c=h:=by simpa[D9] using q
 have j:(isAgg t).run P w=.ok h w:=by unfold isAgg;rw[Sem.run_bind,run_underlying z w];subst k;cases c<;>rfl
 unfold sub at e;unfold part;rw[Sem.run_bind,j];simp only[Result.andThen_ok];cases h with
 | false=>simp only[Bool.false_eq_true,if_false] at e⊢;obtain⟨x,A,hr⟩:=g.get e;simp_all
 | true=>
  simp only[if_true] at e⊢;simp only[sizeOf,typeInfo,Sem.run_bind,run_program,Result.andThen_ok,r,Sem.run_pure];refine⟨_,rfl,?_⟩;split at e
  .rename_i p;cases e;obtain⟨rfl,s⟩:=p;have m:vals.length=i.size:=by rw[<-g.len];exact s
   have l:vals.toArray.extract 0 (0+i.size)=vals.toArray:=by grind
   rw[l];exact .agg _ _ g.len g.one g.at_
  .split at e
   .cases e;have f:=(g.drop b).take i.size;have l:vals.toArray.extract b (b+i.size)=((vals.drop b).take i.size).toArray:=by grind
    rw[l];exact .agg _ _ f.len f.one f.at_
   .cases e
theorem KT{P:Program}{t:TypeId}{n:Nat}{m:Bool}(F:Cs P t=some n)(D:D9 P t=some m)(w:World)(vals:List Value)(l:Addr)(b:Nat){μ:Id->Option Value}{H:Addr->Option Value}{u v:V}
  (g:AR μ H (cells u) vals)(s:∀k v,vals[k]?=some v->w.cell? (l.add k)=some v)(f:sub u b n m=some v):∃val,(loadVar t (l.add b)).run P w=.ok val w/\Ap μ H v val:=by
 have B:∀i j,(l.add i).add j=l.add (i+j):=λi j=>by unfold Addr.add;by_cases y:i=0<;>by_cases E:j=0<;>simp[y,Nat.add_assoc]
 obtain⟨i,y,rfl⟩:∃i,P.info? t=some i/\i.size=n:=by simpa[Cs] using F
 obtain⟨e,G,r⟩:∃e,P.underlying t=some e/\Vv e=m:=by simpa[D9] using D
 have p:(isAgg t).run P w=.ok m w:=by unfold isAgg;rw[Sem.run_bind,run_underlying G w];subst r;cases e<;>rfl
 unfold sub at f;unfold loadVar;rw[Sem.run_bind,p];simp only[Result.andThen_ok];cases m with
 | false=>simp only[Bool.false_eq_true,if_false] at f⊢;obtain⟨x,I,hr⟩:=g.get f;simp_all
 | true=>
  simp only[if_true] at f⊢;simp only[sizeOf,typeInfo,Sem.run_bind,run_program,Result.andThen_ok,y,Sem.run_pure];have z:b+i.size<=vals.length->(loadCells (l.add b) i.size).run P w=.ok ((vals.drop b).take i.size).toArray w:=by
   intro q;have c:((vals.drop b).take i.size).length=i.size:=by simp;omega
   have:=run_loadCells_list (P:=P) w (l.add b) ((vals.drop b).take i.size) (λj v E=>by grind
)
   rwa [c] at this
  split at f
  .rename_i A;cases f;obtain⟨rfl,q⟩:=A;have c:vals.length=i.size:=by rw[<-g.len];exact q
   rw[z (by omega)];refine⟨_,rfl,?_⟩;have C:(vals.drop 0).take i.size=vals:=by simp[<-c]
   rw[C];exact .agg _ _ g.len g.one g.at_
  .split at f
   .rename_i q;cases f;rw[z (by rw[<-g.len];exact q)];have h:=(g.drop b).take i.size;exact⟨_,rfl,.agg _ _ h.len h.one h.at_⟩
   .cases f
end Go.Ir
end
section
namespace Go.Ir
open Go.RowKit
variable[FV]
theorem HW{P:Program}{t:TypeId}{k:IntKind}(h:Rr P t=some k):P.underlying t=some (.int k):=by unfold Rr at h;grind
theorem BM{P:Program}{t e:TypeId}(h:Cd P t=some e):P.underlying t=some (.slice e):=by unfold Cd at h;grind
theorem Cf{P:Program}{t:TypeId}(h:CJ P t=true):P.underlying t=some .string:=by unfold CJ at h;grind
theorem OG{P:Program}{t:TypeId}(h:Ls P t=true):P.underlying t=some .bool:=by unfold Ls at h;grind
theorem Jl{P:Program}{t:TypeId}{b:Array Field}(h:HQ P t=some b):P.underlying t=some (.struct b):=by unfold HQ at h;grind
theorem Le{P:Program}{t:TypeId}{f:Nat}{e:Field}(h:Kl P t f=some e):∃b,P.underlying t=some (.struct b)/\b[f]?=some e:=by
 unfold Kl at h;cases c:HQ P t with
 | none=>simp[c] at h
 | some b=>exact⟨b,Jl c,by simpa[c] using h⟩
theorem SA{P:Program}{t:TypeId}{n:Nat}(h:Cs P t=some n):∃i,P.info? t=some i/\i.size=n:=by simpa[Cs] using h
theorem Co{P:Program}{t:TypeId}{n:Nat}(h:Cs P t=some n)(w:World):(sizeOf t).run P w=.ok n w:=by obtain⟨i,b,rfl⟩:=SA h;simp[sizeOf,typeInfo,b]
theorem Hw{P:Program}{e sz:Nat}(h:Hy P e sz=true):∃i z,P.info? e=some i/\i.size=sz/\0<sz/\i.bytes<=32768/\i.zero=some z/\z.cells.size=sz/\∀v∈z.cells,v.oneCell'=true:=by
 unfold Hy at h;cases c:P.info? e with
 | none=>simp[c] at h
 | some i=>
  simp only[c,Bool.and_eq_true,beq_iff_eq,decide_eq_true_eq] at h;obtain⟨⟨⟨g,j⟩,k⟩,b⟩:=h;cases f:i.zero with
  | none=>simp[f] at b
  | some z=>simp only[f,Bool.and_eq_true,beq_iff_eq,Array.all_eq_true'] at b;grind
section ops
variable{P:Program}{W0:World}{ep nt:Nat}{o:Oper}{d:Option Nat}{env:AB}{σ σ':Aj}{n:Nat}{μ:Id→Option Value}{H:Addr→Option Value}{a:Act}{w:World}{v:V}{next:Act→World→Prop}{Q:Exit→Act→World→Prop}
def AH(P:Program)(W0:World)(ep:Nat)(o:Oper)(d:Option Nat)(σ:Aj)(n:Nat)(μ:Id->Option Value)(H:Addr->Option Value)(a:Act)(w:World)(v:V)(σ':Aj):Prop:=
 ∀(next:Act->World->Prop) (Q:Exit->Act->World->Prop),(∀val n' μ' H' w',Gz W0 ep d σ n μ H w v σ' val n' μ' H' w'->next (a.put o.dst val) w')->o.wp P a w next Q
theorem AH.same{val:Value}(b:∀w,(execOp a.eval o).run P w=.ok (.value val) w)(hp:Hp W0 σ n μ H w)(h:Ap μ H v val):AH P W0 ep o d σ n μ H a w v σ:=
 λnext Q K=>Bk (b w) (K _ _ _ _ _ (Gz.same hp h))
variable(hr:Rl μ H nt env a)(hp:Hp W0 σ n μ H w)
include hr hp
theorem AhQ{x':Operand}{x:X}(b:o.op=.move x'\/o.op=.assign x')(e:BP x' x=true)(c:v=ev (get env) x):AH P W0 ep o d σ n μ H a w v σ:=by subst c;refine AH.same (val:=a.eval x') (λw=>?_) hp (Am hr e);rcases b with b|b<;>simp[execOp,b]
theorem AbU{g x' f:Operand}{c x y:X}(j:o.op=.pick g x' f)(h:BP g c=true)(l:BP x' x=true)(m:BP f y=true){t:Bool}
  (k:ev (get env) c=.b t)(i:v=(bif t then ev (get env) x else ev (get env) y)):AH P W0 ep o d σ n μ H a w v σ:=by
 have e:=Am hr h;rw[k] at e;have:=e.b_inv;subst i;refine AH.same (val:=if t then a.eval x' else a.eval f) (λw=>?_) hp ?_
 .simp[execOp,j,this,asBool]
 .cases t
  .exact Am hr m
  .exact Am hr l
theorem Apx{h:BinOp}{t E:TypeId}{x' B:Operand}{x y:X}(A:o.op=.binOp h t x' B E)(C:BP x' x=true)(D:BP B y=true)
  (c:Or h (ev (get env) x) (ev (get env) y) v):AH P W0 ep o d σ n μ H a w v σ:=by
 have f:=Am hr C;have g:=Am hr D;generalize ev (get env) x=J at *;generalize ev (get env) y=K at *;unfold Or at c;split at c
 .rename_i k p F q;obtain⟨rfl,c⟩:=c;have j:=f.i_inv;have l:=g.i_inv;have e:∀val,(∀w,(binOp h t (.int k p) (.int k q)).run P w=.ok val w)->Ap μ H v val->AH P W0 ep o d σ n μ H a w v σ:=λval m r=>
   AH.same (λw=>by simp[execOp,A,j,l,eqGuard_at_int,m w]) hp r
  unfold QH at c;split at c<;>first
   | exact c.elim
   | (subst c;exact e (.int _ _) (λw=>by simp[go_sem]) (.i _ _))
   | (subst c;exact e (.bool _) (λw=>by simp[go_sem]) (.b _))
   | (obtain⟨u,c⟩:=c;subst c;exact e (.int _ _) (λw=>by simp[go_sem,u]) (.i _ _))
 .rename_i p q;obtain⟨j,G⟩:=f.s_inv;obtain⟨l,I⟩:=g.s_inv;have e:∀val,(∀w,(binOp h t (.string ⟨p.toArray⟩) (.string ⟨q.toArray⟩)).run P w=.ok val w)->Ap μ H v val->AH P W0 ep o d σ n μ H a w v σ:=λval m r=>
   AH.same (λw=>by simp[execOp,A,j,l,eqGuard_at_string,m w]) hp r
  unfold Qm at c;split at c
  .obtain⟨z,rfl⟩:=c;refine e (.string ⟨(p++q).toArray⟩) (λw=>?_) (.s _ (by simpa using z));rw[binOp_string_add,run_string_add_sum w _ _ (by simp[ByteArray.size,AO] at z⊢;omega),ByteArray.mk_append_mk]
  all_goals first
   | exact c.elim
   | (subst c;exact e (.bool _) (λw=>by simp[go_sem]) (.b _))
 .exact c.elim
theorem Ajk{l:BinOp}{g:Bool}{t D:TypeId}{x' m:Operand}{x y:X}(k:o.op=.binOp l t x' m D)(h:l=if g then BinOp.neq else BinOp.eql)(z:Ls P t=true)(B:BP x' x=true)(C:BP m y=true)
  {p q:Bool}(r:ev (get env) x=.b p)(s:ev (get env) y=.b q)(u:v=.b (if g then !(p==q) else p==q)):AH P W0 ep o d σ n μ H a w v σ:=by
 have e:=Am hr B;have f:=Am hr C;rw[r] at e;rw[s] at f;have i:=e.b_inv;have j:=f.b_inv;have A:=OG z;subst u;have c:∀w,(Op.equal t (.bool p) (.bool q)).run P w=.ok (p==q) w:=by intro w;unfold Op.equal Op.maxDepth Op.equalIn;rw[Sem.run_bind,run_underlying A w];rfl
 subst h;refine AH.same (val:=.bool (if g then !(p==q) else p==q)) (λw=>?_) hp (.b _);cases g
 .simp[execOp,k,i,j,eqGuard_at_bool,binOp,c]
 .simp[execOp,k,i,j,eqGuard_at_bool,binOp,c]
theorem Amd{t:TypeId}{x':Operand}{x:X}(h:o.op=.unOp .not t x')(i:BP x' x=true){p:Bool}(f:ev (get env) x=.b p)(g:v=.b (!p)):AH P W0 ep o d σ n μ H a w v σ:=by have c:=Am hr i;rw[f] at c;have e:=c.b_inv;subst g;exact AH.same (val:=.bool (!p)) (λw=>by simp[execOp,h,e,Op.unary]) hp (.b _)
theorem Alm{t:TypeId}{x':Operand}{x:X}(g:o.op=.unOp .neg t x')(h:BP x' x=true){k:IntKind}{p:Int}(e:ev (get env) x=.i k p)(f:v=.i k (k.wrap (0-p))):AH P W0 ep o d σ n μ H a w v σ:=by have b:=Am hr h;rw[e] at b;have c:=b.i_inv;subst f;exact AH.same (val:=.int k (k.wrap (0-p))) (λw=>by simp[execOp,g,c,Op.unary,Op.intArith]) hp (.i _ _)
theorem Alk{e b:TypeId}{x':Operand}{x:X}{k:IntKind}(m:o.op=.convert e b x')(q:(P.underlying e).isSome=true)(j:Rr P b=some k)(r:BP x' x=true){s:IntKind}{p:Int}
  (h:ev (get env) x=.i s p)(l:v=.i k (k.wrap p)):AH P W0 ep o d σ n μ H a w v σ:=by
 have c:=Am hr r;rw[h] at c;have g:=c.i_inv;subst l;obtain⟨t,f⟩:=Option.isSome_iff_exists.mp q;exact AH.same (val:=.int k (k.wrap p)) (λw=>by simp[execOp,m,g,convert,run_underlying f,run_underlying (HW j),Conv.intToInt]) hp (.i _ _)
theorem Aov{e b:TypeId}{x':Operand}{x:X}(j:o.op=.convert e b x')(k:CJ P e=true)(h:CJ P b=true)(m:BP x' x=true){l:List UInt8}
  (g:ev (get env) x=.s l)(i:v=.s l):AH P W0 ep o d σ n μ H a w v σ:=by
 have c:=Am hr m;rw[g] at c;obtain⟨f,l1⟩:=c.s_inv;subst i;exact AH.same (val:=.string ⟨l.toArray⟩) (λw=>by simp[execOp,j,f,convert,run_underlying (Cf k),run_underlying (Cf h)]) hp (.s _ l1)
theorem Aid{t:TypeId}{x':Operand}{x:X}{f g m:Nat}{l:Bool}(y:o.op=.field t x' f)(h:bY P t f g m l=true)(A:BP x' x=true)
  (r:JZ (ev (get env) x)=true)(u:sub (ev (get env) x) g m l=some v):AH P W0 ep o d σ n μ H a w v σ:=by
 obtain⟨vals,p,s⟩:=(Am hr A).isA_inv r;unfold bY at h;cases b:Kl P t f with
 | none=>simp[b] at h
 | some q=>
  simp only[b,Bool.and_eq_true,beq_iff_eq] at h;obtain⟨⟨rfl,k⟩,i⟩:=h;obtain⟨B,z,j⟩:=Le b;obtain⟨val,e,c⟩:=Hv k i w vals q.offset s u;intro next Q K
  refine Bk (w':=w) (val:=val) ?_ (K _ _ _ _ _ (Gz.same hp c));simp[execOp,y,p,Instr.field,run_underlying z,j,asAgg,e]
theorem rF{t:TypeId}{x':Operand}{x:X}{f b:Nat}(K:o.op=.fieldAddr t x' f)(r:Ph P t f b=true)(M:BP x' x=true)
  (p:match ev (get env) x with
   | .ref id o=>v=.ref id (o+b)
   | .aref id N sz o=>v=.aref id N sz (o+b)
   | .ep e o=>v=.ep e (o+b)
   | _=>False):AH P W0 ep o d σ n μ H a w v σ:=by
 have k:=Am hr M;unfold Ph at r;cases g:Kl P t f with
 | none=>simp[g] at r
 | some s=>
  simp only[g,Bool.and_eq_true,beq_iff_eq,decide_eq_true_eq] at r;obtain⟨rfl,D⟩:=r;obtain⟨R,L,A⟩:=Le g;obtain⟨m,q⟩:∃m,Cs P s.type=some m:=by
   cases h:Cs P s.type with
   | none=>simp[h] at D
   | some m=>exact⟨m,rfl⟩
  have B:m≠0:=by grind
  have u:∀c:Addr,a.eval x'=.pointer (some c)->Ap μ H v (.pointer (some (c.add s.offset)))->AH P W0 ep o d σ n μ H a w v σ:=λc G I=>
   AH.same (λw=>by simp[execOp,K,G,Instr.fieldAt,run_underlying L,A,Instr.sureAddr,fieldPlace,Co q,B]) hp I
  have y:∀(c:Addr) i j,(c.add i).add j=c.add (i+j):=λc i j=>by unfold Addr.add;by_cases J:i=0<;>by_cases S:j=0<;>simp[J,Nat.add_assoc]
  generalize ev (get env) x=T at *;split at p
  .subst p;obtain⟨E,q,l⟩:=k.ref_inv;exact u _ l (by rw[Addr.add_lit];exact .ref _ _ _ q)
  .subst p;obtain⟨E,O,F,q,l⟩:=k.aref_inv;exact u _ l (by rw[Addr.add_lit,Nat.add_assoc];exact .aref _ _ _ _ _ _ _ q)
  .subst p;obtain⟨c,vals,l,z,C⟩:=k.ep_inv;exact u _ l (by rw[y];exact .ep _ _ _ vals z.len z.one C z.at_)
  .exact p.elim
end ops
end Go.Ir
end
section
namespace Go.Ir
open Go.RowKit
variable[FV]
theorem CG(b n:Nat):(⟨b,0,none⟩:Addr).add n=⟨b,n,none⟩:=by rw[Addr.add_lit];simp
theorem R8(b:Addr)(i j:Nat):(b.add i).add j=b.add (i+j):=by unfold Addr.add;by_cases c:i=0<;>by_cases e:j=0<;>simp[c,Nat.add_assoc]
theorem Me{μ:Id->Option Value}{H:Addr->Option Value}{es:List V}{vals:List Value}{sz i:Nat}{c:V}(b:∀e∈es,(cells e).length=sz)(f:AR μ H (AN es) vals)(g:es[i]?=some c) :
  AR μ H (cells c) ((vals.drop (i*sz)).take sz):=by
 have:=(f.drop (i*sz)).take sz
 rwa [UG b g] at this
theorem Pz{vals:List Value}{m sz k:Nat}{v:Value}(h:((vals.drop m).take sz)[k]?=some v):vals[m+k]?=some v:=by grind
section ops
variable{P:Program}{W0:World}{ep nt:Nat}{o:Oper}{d:Option Nat}{env:AB}{σ σ':Aj}{n:Nat}{μ:Id→Option Value}{H:Addr→Option Value}{a:Act}{w:World}{v:V}
variable(hr:Rl μ H nt env a)(hp:Hp W0 σ n μ H w)
theorem Ef{id:Id}{e sz:Nat}{es:List V}(hp:Hp W0 σ n μ H w)(b:lk σ id=some (.arr e sz es)){val:Value}(k:μ id=some val) :
  ∃vals,val.oneCell'=true/\w.ownsRow W0.heap.size e sz val es.length vals/\es.length<=Bf/\(∀x∈es,(cells x).length=sz)/\AR μ H (AN es) vals:=by
 obtain⟨v,vals,c,f,g,h,i,j⟩:=hp.ents _ _ b;grind
theorem Gu{base e sz m:Nat}{val:Value}{xs:List Value}(h:w.ownsRow base e sz val m xs)(f:0<m) :
  ∃g b c,val=.slice (some ⟨g,0,none⟩) m b/\base<=g/\w.heap[g]?=some (.cells c e (0,0))/\c.size=b*sz/\m<=b/\b<=maxLen/\c.toList.take (m*sz)=xs:=by
 rcases h.2 with⟨rfl,rfl⟩|⟨g,b,c,rfl,h1,h2,h3,h4,h5,h6⟩
 .omega
 .exact⟨g,b,c,rfl,h1,h2,h5,h3,h4,h6⟩
theorem Cz{base e sz m:Nat}{val:Value}{xs:List Value}(h:w.ownsRow base e sz val m xs):∃A b,val=.slice A m b:=by
 rcases h.2 with⟨rfl,rfl⟩|⟨g,b,cur,rfl,h1,h2,h3,h4,h5,h6⟩
 .exact⟨_,_,rfl⟩
 grind
include hr hp
theorem nU{t:TypeId}{x' N:Operand}{x i:X}{e sz:Nat}(ho:o.op=.indexAddr t x' N)(ht:Cd P t=some e)(F:Cs P e=some sz)(hx:BP x' x=true)(Z:BP N i=true)
  (j:match ev (get env) i with
   | .i _ n=>0<=n/\(match ev (get env) x with
    | .sl es=>∃q,es[n.toNat]?=some q/\(cells q).length=sz/\v=.ep q 0
    | .arr id=>∃e' es,lk σ id=some (.arr e' sz es)/\n.toNat<es.length/\v=.aref id n.toNat sz 0
    | _=>False)
   | _=>False):AH P W0 ep o d σ n μ H a w v σ:=by
 have B:=Am hr hx;have D:=Am hr Z;have L:=BM ht;have r:P.elem t=e:=by simp[Program.elem,L]
 generalize ev (get env) i=vi at *;generalize ev (get env) x=vx at *;split at j
 .rename_i k m;obtain⟨T,j⟩:=j;have R:=D.i_inv;have G:∀(h:Addr) c b,a.eval x'=.slice (some h) c b->m.toNat<c->Ap μ H v (.pointer (some (h.add (m.toNat*sz))))->AH P W0 ep o d σ n μ H a w v σ:=λh c b U h2 W=>
   AH.same (val:=.pointer (some (h.add (m.toNat*sz)))) (λw=>by
    have s:0<=m/\m<(c:Int):=⟨T,by omega⟩
    simp only[execOp,ho,U,R,Sem.run_bind];rw[run_indexAt_slice w t h c b k m (by rw[r];exact L),if_pos s,r,Co F];rfl) hp W
  split at j
  .rename_i es;obtain⟨q,l,hc,rfl⟩:=j;have f:m.toNat<es.length:=(List.getElem?_eq_some_iff.1 l).1;obtain⟨A,b,S,I,J,Y⟩:=B.sl_inv;rcases Y with rfl|⟨h,C,vals,rfl,z,y,K⟩
   .simp at f
   .have E:C=sz:=by grind
    subst E;refine G h _ _ S f ?_;have p:=Me z y l;have:=Ap.ep (μ:=μ) (H:=H) q 0 (h.add (m.toNat*C)) _ p.len p.one (λk v hk=>by rw[R8];grind) p.at_
    rwa [Addr.add_zero'] at this
  .rename_i id;obtain⟨e',es,hl,f,rfl⟩:=j;obtain⟨s,_⟩:=B.arr_inv;obtain⟨vals,_,u,_⟩:=Ef hp hl s;obtain⟨g,b,O,M,_⟩:=Gu u (by omega);refine G ⟨g,0,none⟩ _ _ M f ?_;rw[CG];rw[M] at s;exact .aref id _ sz 0 g _ b s
  .exact j.elim
 .exact j.elim
theorem Apn{t:TypeId}{x' h:Operand}{x i:X}(B:o.op=.index t x' h)(C:CJ P t=true)(D:BP x' x=true)(A:BP h i=true)
  {l:List UInt8}{k:IntKind}{m:Int}{c:UInt8}(r:ev (get env) x=.s l)(q:ev (get env) i=.i k m)(u:0<=m)(g:l[m.toNat]?=some c)(z:v=.i .u8 c.toNat):AH P W0 ep o d σ n μ H a w v σ:=by
 have e:=Am hr D;have b:=Am hr A;rw[r] at e;rw[q] at b;obtain⟨j,_⟩:=e.s_inv;have p:=b.i_inv;subst z;have f:m.toNat<l.length:=(List.getElem?_eq_some_iff.1 g).1;refine AH.same (val:=.int .u8 c.toNat) (λw=>?_) hp (.i _ _);simp only[execOp,B,j,p,Sem.run_bind];have y:(⟨l.toArray⟩:ByteArray)[m.toNat]?=some c:=by rw[ByteArray.getElem?_lt' _ _ (by simpa[ByteArray.size] using f)];have:=(List.getElem?_eq_some_iff.1 g).2;congr 1
 simp[Instr.index,asIntOf,run_underlying (Cf C),u,y]
omit hr hp in
theorem tC{B:Nat}{id:Id}{c:AX}{u:V}(h:CX B μ H w id c)(e:c=.box u\/∃t,c=.tbox t u) :
  ∃b vals t,μ id=some (.pointer (some ⟨b,0,none⟩))/\w.heap[b]?=some (.cells vals t (0,0))/\AR μ H (cells u) vals.toList:=by
 rcases e with rfl|⟨t,rfl⟩
 .obtain⟨b,vals,t,f,_,g,i⟩:=h;grind
 .obtain⟨b,vals,f,_,g,i⟩:=h;grind
theorem Abo{t:TypeId}{x':Operand}{x:X}{m:Nat}{h:Bool}(ho:o.op=.load t x')(O:Cs P t=some m)(J:D9 P t=some h)(hx:BP x' x=true)
  (p:match ev (get env) x with
   | .ref id b=>∃G,lk σ id=some G/\C0 G b m h=some v
   | .aref id F sz b=>∃e es E,lk σ id=some (.arr e sz es)/\es[F]?=some E/\sub E b m h=some v
   | .ep u b=>sub u b m h=some v
   | _=>False):AH P W0 ep o d σ n μ H a w v σ:=by
 have c:=Am hr hx;have I:∀(f:Addr) b (u:V) vals,a.eval x'=.pointer (some (f.add b))->AR μ H (cells u) vals->(∀k v,vals[k]?=some v->w.cell? (f.add k)=some v)->sub u b m h=some v->AH P W0 ep o d σ n μ H a w v σ:=by
  intro f b u vals T U W Y next Q K
  obtain⟨val,B,A⟩:=KT O J w vals f b U W Y;refine Bk (w':=w) (val:=val) ?_ (K _ _ _ _ _ (Gz.same hp A));simp[execOp,ho,T,Instr.loadAt,Instr.sureAddr,B]
 generalize ev (get env) x=vx at *;split at p
 .rename_i id b;obtain⟨G,M,C⟩:=p;obtain⟨i,N,j⟩:=c.ref_inv;obtain⟨u,L,C⟩:=PU C;obtain⟨R,vals,t',s,Z,l⟩:=tC (hp.ents _ _ M) L;rw[N] at s;cases s;refine I ⟨i,0,none⟩ b u vals.toList (by rw[CG];exact j) l (λk v r=>?_) C;rw[CG,cell_of_row w i k vals t' (0,0) Z];simpa using r
 .rename_i id F sz b;obtain⟨e,es,E,M,q,C⟩:=p;obtain⟨i,ad,S,N,j⟩:=c.aref_inv;obtain⟨vals,_,y,_,D,l⟩:=Ef hp M N;have aa:F<es.length:=(List.getElem?_eq_some_iff.1 q).1;refine I ⟨i,F*sz,none⟩ b E _ (by rw[Addr.add_lit];exact j) (Me D l q) (λk v r=>?_) C;have:=y.cells (g:=i) rfl _ _ (Pz r);rw[CG] at this;rw[Addr.add_lit];exact this
 .rename_i u b;obtain⟨f,vals,j,l,z⟩:=c.ep_inv;exact I f b u vals j l (λk v r=>hp.pins _ _ (z k v r)) p
 .exact p.elim
end ops
theorem LP{xs:List Operand}{y:X}(h:A8 xs [y]=true):∃x,xs=[x]/\BP x y=true:=by
 match xs,h with
 | [x],h=>exact⟨x,rfl,by simpa[A8] using h⟩
 | [],h=>simp[A8] at h
 | _::_::_,h=>simp[A8] at h
theorem QX{xs:List Operand}{y z:X}(h:A8 xs [y,z]=true):∃x x',xs=[x,x']/\BP x y=true/\BP x' z=true:=by
 match xs,h with
 | [x,x'],h=>exact⟨x,x',rfl,by simpa[A8] using h⟩
 | [],h=>simp[A8] at h
 | [_],h=>simp[A8] at h
 | _::_::_::_,h=>simp[A8] at h
theorem Ci{P:Program}{o:Oper}{c:Call}{b:Builtin}(g:o.op=.call c)(f:c.callee=.builtin b)(e:Operand->Value)(w:World) :
  ∃cs,(execOp e o).run P w=(builtin b c.argTypes o.type cs (c.args.map e)).run P w:=by
 refine⟨c.args.map fun|.const _=>true|_=>false,?_⟩;simp only[execOp,g,resolve,f,Sem.run_bind,Sem.run_pure,Result.andThen_ok,invoke];rfl
theorem DD{b:Type}{xs:Array b}{l:List b}(h:xs.toList=l):xs=l.toArray:=by grind
theorem PC{b:Type}(xs:Array b)(h:xs.size=1):∃x,xs=#[x]:=by
 obtain⟨l⟩:=xs
 match l,h with
 | [x],_=>exact⟨x,rfl⟩
theorem W4{e:Type}(vs:List e):∀(k b:Nat) (cs:Array e),b+k+vs.length<=cs.size->
  ((vs.zipIdx k).foldl (λcs (c,j)=>cs.setIfInBounds (b+j) c) cs).toList=cs.toList.take (b+k)++vs++cs.toList.drop (b+k+vs.length):=by
 induction vs with
 | nil=>simp 
 | cons v vs l=>
  intro k b cs h;simp only[List.length_cons] at h;simp only[List.zipIdx_cons,List.foldl_cons];rw[l (k+1) b _ (by simp;omega)];simp only[Array.toList_setIfInBounds,List.length_cons];have i:b+k<cs.toList.length:=by simp;omega
  have f:(cs.toList.set (b+k) v).take (b+(k+1))=cs.toList.take (b+k)++[v]:=by
   rw[<-Nat.add_assoc,List.take_set,List.take_succ_eq_append_getElem i];have m:(cs.toList.take (b+k)).length=b+k:=by simp;omega
   simp[*]
  have g:(cs.toList.set (b+k) v).drop (b+(k+1)+vs.length)=cs.toList.drop (b+k+(vs.length+1)):=by rw[List.drop_set_of_lt (by omega)];congr 1;omega
  rw[f,g];simp
theorem R2(vs cs:Array Value)(b:Nat)(h:b+vs.size<=cs.size) :
  (vs.zipIdx.foldl (λcs (c,j)=>cs.setIfInBounds (b+j) c) cs).toList=cs.toList.take b++vs.toList++cs.toList.drop (b+vs.size):=by
 have:=W4 vs.toList 0 b cs (by simpa using h);rw[<-Array.foldl_toList];simpa using this
section ops
variable{P:Program}{W0:World}{ep nt:Nat}{o:Oper}{d:Option Nat}{env:AB}{σ σ':Aj}{n:Nat}{μ:Id→Option Value}{H:Addr→Option Value}{a:Act}{w:World}{v:V}
variable(hr:Rl μ H nt env a)(hp:Hp W0 σ n μ H w)
include hr hp
theorem AeW{x:X}{c:Call}(y:o.op=.call c)(e:c.callee=.builtin .len)(m:CJ P (c.argTypes.getD 0 0)=true)(r:c.argTypes.size=1)(j:A8 c.args.toList [x]=true)
  {l:List UInt8}(q:ev (get env) x=.s l)(t:v=.i .i64 l.length):AH P W0 ep o d σ n μ H a w v σ:=by
 obtain⟨x',b,j⟩:=LP j;have b:=DD b;have g:=Am hr j;rw[q] at g;obtain⟨p,_⟩:=g.s_inv;subst t;refine AH.same (val:=.int .i64 l.length) (λw=>?_) hp (.i _ _);obtain⟨T,k⟩:=PC c.argTypes r;rw[k] at m;obtain⟨cs,f⟩:=Ci (P:=P) y e a.eval w;have u:(Builtin.len_ #[T] o.type #[.string ⟨l.toArray⟩]).run P w=.ok (goInt (⟨l.toArray⟩:ByteArray).size) w:=run_len_string w T o.type _ (Cf m);have h:goInt (⟨l.toArray⟩:ByteArray).size=.int .i64 l.length:=by show Value.int .i64 _=_;congr 1
 rw[f,b,k];simp only[builtin,List.map_toArray,List.map_cons,List.map_nil,p,Sem.run_bind,u,h,Result.andThen_ok,Sem.run_pure]
theorem Xa{x':Operand}{x:X}(i:BP x' x=true){es:List V}(b:AA σ (ev (get env) x)=some es) :
  ∃A e,a.eval x'=.slice A es.length e:=by
 have c:=Am hr i;generalize ev (get env) x=k at *;unfold AA at b;split at b
 .cases b;obtain⟨A,e,j,_⟩:=c.sl_inv;grind
 .cases b;exact⟨none,0,c.nil_inv⟩
 .rename_i id;split at b
  .rename_i g;cases b;obtain⟨h,_⟩:=c.arr_inv;obtain⟨vals,_,f,_⟩:=Ef hp g h;exact Cz f
  .cases b
 .cases b
theorem AcJ{x:X}{c:Call}(u:o.op=.call c)(f:c.callee=.builtin .len)(h:(Cd P (c.argTypes.getD 0 0)).isSome=true)(r:c.argTypes.size=1)(k:A8 c.args.toList [x]=true)
  {es:List V}(q:AA σ (ev (get env) x)=some es)(s:v=.i .i64 es.length):AH P W0 ep o d σ n μ H a w v σ:=by
 obtain⟨x',b,k⟩:=LP k;have b:=DD b;obtain⟨A,j,p⟩:=Xa hr hp k q;obtain⟨e,h⟩:=Option.isSome_iff_exists.1 h;subst s;refine AH.same (val:=.int .i64 es.length) (λw=>?_) hp (.i _ _);obtain⟨T,l⟩:=PC c.argTypes r;rw[l] at h;obtain⟨cs,g⟩:=Ci (P:=P) u f a.eval w;have m:P.underlying T=some (.slice e):=BM h;have t:(Builtin.len_ #[T] o.type #[.slice A es.length j]).run P w=.ok (goInt es.length) w:=run_len_slice w T o.type _ _ _ (by rw[m];simp[Program.elem,m]);rw[g,b,l];simp only[builtin,List.map_toArray,List.map_cons,List.map_nil,p,Sem.run_bind,t,Result.andThen_ok,Sem.run_pure,goInt]
theorem Ahx{x':Operand}{x:X}{k:Nat}(j:o.op=.extract x' k)(l:BP x' x=true){vs:List V}(h:ev (get env) x=.tup vs)(i:vs[k]?=some v):AH P W0 ep o d σ n μ H a w v σ:=by
 have e:=Am hr l;rw[h] at e;obtain⟨vals,g,f⟩:=e.tup_inv;obtain⟨val,c,b⟩:=f.get i;refine AH.same (val:=val) (λw=>?_) hp b;have:vals.toArray[k]?=some val:=by simpa using c
 simp[execOp,j,g,Instr.extract,this]
theorem AeH{f:FuncId}{b c:Array Operand}{first e:List X}(p:o.op=.makeFunc (.func f) b c)(k:A8 b.toList first=true)(l:A8 c.toList e=true)
  (m:v=.fn f (first.map (ev (get env))) (e.map (ev (get env)))):AH P W0 ep o d σ n μ H a w v σ:=by
 have g:=Dh hr k;have h:=Dh hr l;subst m;refine AH.same (val:=.func (.func f) (b.toList.map a.eval).toArray (c.toList.map a.eval).toArray) (λw=>?_) hp (.fn f _ _ _ _ g.len h.len g.at_ h.at_);have i:b.map a.eval=(b.toList.map a.eval).toArray:=by grind
 have j:c.map a.eval=(c.toList.map a.eval).toArray:=by grind
 simp only[execOp,p,Sem.run_bind,Instr.makeFunc,Sem.run_pure,Result.andThen_ok,i,j]
theorem rL{x':Operand}{x:X}(e:o.op=.nilCheck x')(k:BP x' x=true)
  (f:match ev (get env) x with
   | .ref _ _|.aref _ _ _ _|.ep _ _|.fn _ _ _=>True
   | _=>False)(i:v=ev (get env) x):AH P W0 ep o d σ n μ H a w v σ:=by
 have b:=Am hr k;subst i;refine AH.same (val:=a.eval x') (λw=>?_) hp b;generalize ev (get env) x=r at *;split at f
 .obtain⟨g,j,c⟩:=b.ref_inv;simp[execOp,e,c]
 .obtain⟨g,l,h,j,c⟩:=b.aref_inv;simp[execOp,e,c]
 .obtain⟨m,vals,c,_⟩:=b.ep_inv;simp[execOp,e,c]
 .obtain⟨q,p,c,_⟩:=b.fn_inv;simp[execOp,e,c]
 .exact f.elim
theorem Ur{c:Option Operand}{i:Option X}(e:Ig c i=true){f b:Nat}(g:Fe (get env) f i=some b) :
  (i=none/\c=none/\b=f)\/∃x' k,c=some x'/\a.eval x'=.int k (b:Int):=by
 cases i with
 | none=>
  cases c with
  | none=>simp[Fe] at g;grind
  | some x=>simp[Ig] at e
 | some x=>
  cases c with
  | none=>simp[Ig] at e
  | some x'=>
   simp only[Ig] at e;have h:=Am hr e;unfold Fe at g;simp only at g;split at g
   .rename_i k m j;rw[j] at h;split at g
    .cases g;refine .inr ⟨x',k,rfl,?_⟩;rw[h.i_inv];grind
    .cases g
   .cases g
theorem IK{p j:Option Operand}{u s:Option X}(t:Ig p u=true)(r:Ig j s=true)(c:Bool){f b l h:Nat}(A:f<=b)
  (z:Fe (get env) 0 u=some l)(x:Fe (get env) f s=some h)(m:l<=h)(g:h<=b)(w:World) :
  (Instr.sliceBounds c f b (p.map a.eval) (j.map a.eval) none).run P w=.ok (l,h,b) w:=by
 have q:∀(k:IntKind) (i y:Nat) (e:BoundsCode),i<=y->∀w,(Instr.sliceBound (.int k i) y e).run P w=.ok i w:=by
  intro k i y e s w;have:(0:Int)<=i/\(i:Int)<=y:=by omega
  simp[Instr.sliceBound,asIntOf,this]
 rcases Ur hr hp t z with⟨rfl,rfl,rfl⟩|⟨xl,kl,rfl,el⟩<;>rcases Ur hr hp r x with⟨rfl,rfl,rfl⟩|⟨xh,kh,rfl,eh⟩
 .simp[Instr.sliceBounds]
 .simp[Instr.sliceBounds,eh,q kh h b _ g]
 .simp[Instr.sliceBounds,el,q kl l _ _ m]
 .simp[Instr.sliceBounds,el,eh,q kl l h _ m,q kh h b _ g]
theorem Amj{t:TypeId}{x':Operand}{x:X}{c b:Option Operand}{z u:Option X}(E:o.op=.slice t x' c b none)(G:CJ P t=true)(I:BP x' x=true)(h:Ig c z=true)(g:Ig b u=true)
  {l:List UInt8}{p q:Nat}(B:ev (get env) x=.s l)(i:Fe (get env) 0 z=some p)(k:Fe (get env) l.length u=some q)(j:p<=q)(F:q<=l.length)(D:v=.s ((l.take q).drop p)):AH P W0 ep o d σ n μ H a w v σ:=by
 have e:=Am hr I;rw[B] at e;obtain⟨A,J⟩:=e.s_inv;have y:=Cf G;subst D;refine AH.same (val:=.string ⟨((l.take q).drop p).toArray⟩) (λw=>?_) hp (.s _ (by simp;omega));have C:=λw=>IK (P:=P) hr hp h g false (Nat.le_refl l.length) i k j F w;have r:(⟨l.toArray⟩:ByteArray).size=l.length:=by simp[ByteArray.size]
 have f:(⟨l.toArray⟩:ByteArray).extract p q=⟨((l.take q).drop p).toArray⟩:=by rw[ByteArray.extract_mk,List.drop_take]
 have m:(Instr.slice t (.string ⟨l.toArray⟩) (c.map a.eval) (b.map a.eval) none).run P w=.ok (.string ⟨((l.take q).drop p).toArray⟩) w:=by simp only[Instr.slice,Sem.run_bind,run_underlying y,Result.andThen_ok,Option.isSome_none,Bool.false_eq_true,if_false,Sem.run_pure,r,C,f]
 simp only[execOp,E,Option.map_none,Sem.run_bind,Instr.sliceAt,run_underlying y,A,Result.andThen_ok,m,Sem.run_pure]
theorem An4{t e:TypeId}{x':Operand}{x:X}{l j:Option Operand}{W O:Option X}{sz:Nat}(ho:o.op=.slice t x' l j none)(ht:Cd P t=some e)(K:Cs P e=some sz)(hx:BP x' x=true)(E:Ig l W=true)(D:Ig j O=true)
  {es:List V}{p q:Nat}(m:ev (get env) x=.sl es\/ev (get env) x=.nil/\es=[])(F:Fe (get env) 0 W=some p)(I:Fe (get env) es.length O=some q)(G:p<=q)(T:q<=es.length)
  (M:∀y∈es,(cells y).length=sz)(r:v=.sl ((es.take q).drop p)):AH P W0 ep o d σ n μ H a w v σ:=by
 have h:=Am hr hx;have U:=BM ht;subst r;obtain⟨A,b,Y,i,S,hh⟩:∃(A:Option Addr) (b:Nat),a.eval x'=.slice A es.length b/\es.length<=b/\es.length<=Bf/\
   (es=[]\/∃(B:Addr) (sz:Nat) (vals:List Value),A=some B/\(∀e∈es,(cells e).length=sz)/\AR μ H (AN es) vals/\∀(k:Nat) (v:Value),vals[k]?=some v->H (B.add k)=some v):=by
  rcases m with m|⟨m,rfl⟩
  .rw[m] at h;exact h.sl_inv
  .rw[m] at h;exact⟨none,0,h.nil_inv,Nat.le_refl _,Nat.zero_le _,.inl rfl⟩
 have Z:=λw=>IK (P:=P) hr hp E D true i F I G (Nat.le_trans T i) w;have z:∀w,(execOp a.eval o).run P w=.ok (.value (.slice (if b=p then A else A.map (·.add (p*sz))) (q-p) (b-p))) w:=by
  intro w;have L:(Instr.slice t (.slice A es.length b) (l.map a.eval) (j.map a.eval) none).run P w=.ok (.slice (if b=p then A else A.map (·.add (p*sz))) (q-p) (b-p)) w:=by simp only[Instr.slice,Sem.run_bind,run_underlying U,Result.andThen_ok,Sem.run_pure,Z,Co K]
  simp only[execOp,ho,Option.map_none,Sem.run_bind,Instr.sliceAt,run_underlying U,Y,Result.andThen_ok,L,Sem.run_pure]
 refine AH.same z hp ?_;have R:((es.take q).drop p).length=q-p:=by simp;omega
 rcases Nat.eq_zero_or_pos (q-p) with N|N
 .have:(es.take q).drop p=[]:=List.eq_nil_of_length_eq_zero (by omega);rw[this,N];exact .slE _ _
 .rcases hh with rfl|⟨B,f,vals,rfl,g,u,s⟩
  .simp at T;omega
  .have J:f=sz:=by
    have:0<es.length:=by omega
    rw[<-g es[0] (by simp),M es[0] (by simp)]
   subst J;rw[if_neg (by omega)];have hf:AN ((es.take q).drop p)=((AN es).take (q*f)).drop (p*f):=by rw[Ku (λe r=>g e (List.mem_of_mem_take r)),K9 g]
   have c:=(u.take (q*f)).drop (p*f);rw[<-hf] at c;have:=Ap.slC (μ:=μ) (H:=H) ((es.take q).drop p) (B.add (p*f)) (b-p) f _ (by omega) (by omega) (λe r=>g e (List.mem_of_mem_take (List.mem_of_mem_drop r))) c.len c.one (λk v C=>by
    rw[R8];refine s _ _ ?_;rw[List.getElem?_drop,List.getElem?_take] at C;split at C
    .exact C
    .cases C) c.at_
   grind
theorem AuJ{j:Bool}{x:X}{xs:List X}{c:Call}{b:Builtin}(S:o.op=.call c)(z:c.callee=.builtin b)(O:b=if j then Builtin.min else Builtin.max)(C:A8 c.args.toList (x::xs)=true)
  (g:NB j (ev (get env) x) (xs.map (ev (get env)))=some v):AH P W0 ep o d σ n μ H a w v σ:=by
 have K:=Dh hr C;obtain⟨E,D,t,J,I⟩:∃E D,c.args.toList=E::D/\BP E x=true/\A8 D xs=true:=by
  cases h:c.args.toList with
  | nil=>rw[h] at C;simp[A8] at C
  | cons E D=>rw[h] at C;simp only[A8,Bool.and_eq_true] at C;grind
 have m:(c.args.map a.eval).toList=a.eval E::D.map a.eval:=by simp[t]
 have N:=Am hr J;have e:=Dh hr I;have M:∀(r:List V) (l:List Value) (F:V) (f:Value),Ap μ H F f->VRels μ H r l->NB j F r=some v->∃val,Ap μ H v val/\∀w,(l.foldlM (if j then Builtin.min2 else Builtin.max2) f).run P w=.ok val w:=by
  intro r
  induction r with
  | nil=>intro l F f L e g;have:l=[]:=List.eq_nil_of_length_eq_zero (by rw[<-e.len];rfl);subst this;simp only[NB] at g;simp_all
  | cons y r U=>
   intro l F f L e g;cases l with
   | nil=>have:=e.len;simp at this
   | cons W l=>
    have T:=e.at_ 0 y W rfl rfl;have A:VRels μ H r l:=⟨by have:=e.len;simpa using this,λk c v u s=>e.at_ (k+1) c v (by simpa using u) (by simpa using s)⟩
    unfold NB at g;split at g
    .grind
    .rename_i k p Y q Z G;cases G;split at g
     .rename_i R;subst R;obtain⟨val,u,s⟩:=U l _ (.int k (if j then min p q else max p q)) (.i _ _) A g;refine⟨val,u,λw=>?_⟩;rw[L.i_inv,T.i_inv];simp only[List.foldlM_cons,Sem.run_bind];have:((if j then Builtin.min2 else Builtin.max2) (.int k p) (.int k q)).run P w=.ok (.int k (if j then min p q else max p q)) w:=by
       cases j
       .simp only[Bool.false_eq_true,if_false,Builtin.max2,Sem.run_pure];grind
       .simp only[if_true,Builtin.min2,Sem.run_pure];grind
      simp[*]
     .cases g
    .cases g
 obtain⟨val,u,s⟩:=M _ _ _ _ N e g;refine AH.same (val:=val) (λw=>?_) hp u;obtain⟨cs,B⟩:=Ci (P:=P) S z a.eval w;rw[B,O];cases j
 .simp only[Bool.false_eq_true,if_false] at s⊢;simp only[builtin,Builtin.max_,m,Sem.run_bind,s,Result.andThen_ok,Sem.run_pure]
 .simp only[if_true] at s⊢;simp only[builtin,Builtin.min_,m,Sem.run_bind,s,Result.andThen_ok,Sem.run_pure]
end ops
end Go.Ir
end
section
namespace Go.Ir
open Go.RowKit
variable[FV]
theorem DQ{P:Program}{t:TypeId}{z:V}(h:Fy P t z=true):∃i b,P.info? t=some i/\i.zero=some b/\DX b z=true:=by
 unfold Fy uJ at h;cases c:P.info? t with
 | none=>simp[c] at h
 | some i=>grind
theorem AY.to{R c:Nat->Prop}{w w':World}(h:AY R w w')(hr:∀k,R k->c k):AY c w w':=
 ⟨h.os,h.tape,h.output,h.size,λk e f=>h.block k e (λb=>f (hr k b))⟩
theorem Iw{u c x:V}{b n:Nat}(h:Du u b n x=some c):(cells x).length=n/\b+n<=(cells u).length/\cells c=(cells u).take b++cells x++(cells u).drop (b+n):=by
 unfold Du at h;split at h
 .rename_i f;split at h
  .simp_all
  .split at h
   .rename_i e;cases h;exact⟨f,e,rfl⟩
   .cases h
 .cases h
theorem Zz{es:List V}{sz:Nat}(h:∀e∈es,(cells e).length=sz){i:Nat}(b:i<es.length){x:V}(c:(cells x).length=sz) :
  AN (es.set i x)=(AN es).take (i*sz)++cells x++(AN es).drop (i*sz+sz):=by
 rw[List.set_eq_take_append_cons_drop,if_pos b,FG,K9 h];have:i*sz+sz=(i+1)*sz:=by grind
 rw[this,<-Ku h];simp[AN]
theorem EG{μ:Id->Option Value}{H:Addr->Option Value}{cs ds:List V}{vs us:List Value}(h:AR μ H cs vs)(h':AR μ H ds us)(off k:Nat) :
  AR μ H (cs.take off++ds++cs.drop k) (vs.take off++us++vs.drop k):=((h.take off).append h').append (h.drop k)
section ops
variable{P:Program}{W0:World}{ep nt:Nat}{o:Oper}{d:Option Nat}{env:AB}{σ σ':Aj}{n:Nat}{μ:Id→Option Value}{H:Addr→Option Value}{a:Act}{w:World}{v:V}
variable(hr:Rl μ H nt env a)(hp:Hp W0 σ n μ H w)
theorem AH.made(hp:Hp W0 σ n μ H w){b:Nat}(k:d=some b)(r:ep<n)(p:∀b,d=some b->μ (ep,b)=none){obj:Obj}{val:Value}{e:AX}
  (g:(execOp a.eval o).run P w=.ok (.value val) (w.alloc obj))(t:∀i,C2 (some val)=some i->i=w.heap.size)
  (m:CX W0.heap.size (ED μ (ep,b) val) H (w.alloc obj) (ep,b) e)(s:Ap (ED μ (ep,b) val) H v val):AH P W0 ep o d σ n μ H a w v (((ep,b),e)::σ):=by
 intro next Q K
 have c:=hp.new_ (n':=n) (AY.alloc w obj) (λ_ h=>h.elim) (σ1:=σ) (λid e h=>⟨h,λ_ _ h=>h⟩) (p b k) r (Nat.le_refl _) (λi l=>.inr (by grind)) m;refine Bk g (K _ _ _ _ _ ⟨s,c.1,Nat.le_refl _,c.2,λid q j f=>?_⟩);rw[BS _ _ (j b k)];exact f
theorem Rh{w:World}{μ':Id->Option Value}{u:V}{vals:Array Value}{t:TypeId}{id:Id}(hb:W0.heap.size<=w.heap.size)(hm:μ' id=some (.pointer (some ⟨w.heap.size,0,none⟩)))(hc:AR μ' H (cells u) vals.toList) :
  CX W0.heap.size μ' H (w.alloc (.cells vals t)) id (.box u):=
 ⟨w.heap.size,vals,t,hm,hb,heap_alloc_new w _,hc⟩
theorem NK{w:World}{μ':Id->Option Value}{u:V}{vals:Array Value}{t:TypeId}{id:Id}(hb:W0.heap.size<=w.heap.size)(hm:μ' id=some (.pointer (some ⟨w.heap.size,0,none⟩)))(hc:AR μ' H (cells u) vals.toList) :
  CX W0.heap.size μ' H (w.alloc (.cells vals t)) id (.tbox t u):=
 ⟨w.heap.size,vals,hm,hb,heap_alloc_new w _,hc⟩
include hr hp
theorem Ap1{t:TypeId}{x':Operand}{x:X}(l:o.op=.box t x')(m:BP x' x=true)(k:ep<n)(i:∀b,d=some b->μ (ep,b)=none){b:Nat}(g:d=some b)(e:(ev (get env) x).ok=true)
  (j:v=.ref (ep,b) 0):AH P W0 ep o d σ n μ H a w v (((ep,b),.box (ev (get env) x))::σ):=by
 have f:=Am hr m;have c:=Bw (v:=.pointer (some ⟨w.heap.size,0,none⟩)) (i b g);subst j;refine AH.made hp g k i (obj:=.cells (a.eval x').cells t) (val:=.pointer (some ⟨w.heap.size,0,none⟩)) ?_ (λp h=>by simpa[C2] using h.symm)
  (Rh hp.base.size (Au _ _ _) ((f.toCells e).1.mono c (λ_ _ h=>h))) (.ref _ 0 _ (Au _ _ _))
 simp[execOp,l,Instr.box,newVar,newRow]
theorem oT{t:TypeId}{z:V}(m:o.op=.alloc t)(p:Fy P t z=true)(l:ep<n)(j:∀b,d=some b->μ (ep,b)=none){b:Nat}(f:d=some b)
  (g:v=.ref (ep,b) 0):AH P W0 ep o d σ n μ H a w v (((ep,b),.box z)::σ):=by
 obtain⟨i,q,k,e,c⟩:=DQ p;subst g;refine AH.made hp f l j (obj:=.cells q.cells t) (val:=.pointer (some ⟨w.heap.size,0,none⟩)) ?_ (λr h=>by simpa[C2] using h.symm)
  (Rh hp.base.size (Au _ _ _) (HJ c).2) (.ref _ 0 _ (Au _ _ _))
 simp[execOp,m,Instr.alloc,zeroValue,typeInfo,k,e,newVar,newRow]
theorem K0{t:TypeId}{m:Nat}{x' q:Operand}{x:X}(y:o.op=.store t q x')(l:Cs P t=some m)(z:BP x' x=true)(k:(ev (get env) x).ok=true)(f:(cells (ev (get env) x)).length=m)
  {g c:Nat}{b:Array Value}{ct:TypeId}(s:a.eval q=.pointer (some ⟨g,c,none⟩))(u:w.heap[g]?=some (.cells b ct (0,0)))(r:c+m<=b.size) :
  ∃vals,AR μ H (cells (ev (get env) x)) vals/\vals.length=m/\(execOp a.eval o).run P w=.ok .skip (w.setRow g (b.toList.take c++vals++b.toList.drop (c+m)).toArray):=by
 have p:=Am hr z;obtain⟨i,_⟩:=p.toCells k;have j:(a.eval x').cells.toList.length=m:=by rw[<-i.len];exact f
 have h:=run_storeCells_at P g c ct (a.eval x').cells.toList 0 b w u (by omega) i.one;simp only[Nat.add_zero,j] at h;refine⟨_,i,j,?_⟩;have e:(a.eval x').cells.size=m:=by simpa using j
 simp only[execOp,y,Sem.run_bind,Instr.storeAt,s,Instr.sureAddr,Sem.run_pure,Result.andThen_ok,storeVar,Co l,e,ne_eq,not_true_eq_false,if_false,h]
theorem oU{t:TypeId}{m:Nat}{x' a':Operand}{x ax:X}(ho:o.op=.store t a' x')(T:Cs P t=some m)(hx:BP x' x=true)(ha:BP a' ax=true)(hd:o.dst=d)(aL:d=none)(R:(ev (get env) x).ok=true)(hv:v=.tup [])
  (he:match ev (get env) ax with
   | .ref id b=>∃en I,lk σ id=some en/\RH en b m (ev (get env) x)=some I/\σ'=upd σ id I
   | .aref id f sz b=>∃e es Z q,lk σ id=some (.arr e sz es)/\es[f]?=some Z/\Du Z b m (ev (get env) x)=some q/\σ'=upd σ id (.arr e sz (es.set f q))
   | _=>False):AH P W0 ep o d σ n μ H a w v σ':=by
 have aa:=Am hr ha;subst hv;have ag:Ap μ H (.tup []) undef:=.tup [] [] rfl (λk c v M=>by simp at M);have J:∀{w'},(execOp a.eval o).run P w=.ok .skip w'->Hp W0 σ' n μ H w'/\Fr μ H σ w μ H σ' w'->AH P W0 ep o d σ n μ H a w (.tup []) σ':=λj hh next Q K=>
  Pk j (K _ _ _ _ _ ⟨ag,hh.1,Nat.le_refl _,hh.2,λ_ _ _ h=>h⟩)
 generalize aJ:ev (get env) ax=vx at *;split at he
 .rename_i id b;obtain⟨en,I,W,hs,rfl⟩:=he;obtain⟨B,C,e1⟩:=aa.ref_inv;obtain⟨u,u',hs,ao⟩:=Rt hs;obtain⟨y,ab,i⟩:=Iw hs;have F:=hp.ents _ _ W;rcases ao with⟨rfl,rfl⟩|⟨ct,rfl,rfl⟩
  .obtain⟨al,vals,ct,z,hB,G,E⟩:=F;rw[C] at z;cases z;have S:(cells u).length=vals.size:=by rw[E.len];simp
   obtain⟨Y,r,O,j⟩:=K0 hr hp ho T hx R y e1 G (by omega);refine J j (hp.set_ W ((AY.setRow w B _).to (λk M=>by subst M;simp[C,C2])) ?_);refine⟨B,_,ct,C,hB,setRow_heap w B vals _ ct (0,0) G,?_⟩;rw[i];exact EG E r b (b+m)
  .obtain⟨al,vals,z,hB,G,E⟩:=F;rw[C] at z;cases z;have S:(cells u).length=vals.size:=by rw[E.len];simp
   obtain⟨Y,r,O,j⟩:=K0 hr hp ho T hx R y e1 G (by omega);refine J j (hp.set_ W ((AY.setRow w B _).to (λk M=>by subst M;simp[C,C2])) ?_);refine⟨B,_,C,hB,setRow_heap w B vals _ ct (0,0) G,?_⟩;rw[i];exact EG E r b (b+m)
 .rename_i id f sz b;obtain⟨e,es,Z,q,W,L,hs,rfl⟩:=he;obtain⟨B,aO,am,C,e1⟩:=aa.aref_inv;obtain⟨vals,h1,ae,aA,l,E⟩:=Ef hp W C;have ac:f<es.length:=(List.getElem?_eq_some_iff.1 L).1;obtain⟨g,av,p,ah,hB,G,aK,aw,ad,U⟩:=Gu ae (by omega);cases ah;obtain⟨y,ab,i⟩:=Iw hs;have ay:(cells Z).length=sz:=l Z (List.mem_of_getElem? L);have D:(AN es).length=es.length*sz:=FE l;have aN:vals.length=es.length*sz:=by rw[<-E.len];exact D
  have aB:f*sz+sz<=es.length*sz:=by
   have:=Nat.mul_le_mul_right sz (Nat.succ_le_of_lt ac)
   rwa [Nat.succ_mul] at this
  have ax:es.length*sz<=p.size:=by grind
  obtain⟨Y,r,O,j⟩:=K0 hr hp ho T hx R y e1 G (by omega);have N:(cells q).length=sz:=by rw[i];simp;omega
  refine J j (hp.set_ W ((AY.setRow w B _).to (λk M=>by subst M;simp[C,C2])) ?_);have s:AN (es.set f q)=(AN es).take (f*sz+b)++cells (ev (get env) x)++(AN es).drop (f*sz+b+m):=by
   rw[Zz l ac N,i,<-UG l L];have t1:(List.take b (List.take sz (List.drop (f*sz) (AN es))))=List.drop (f*sz) (List.take (f*sz+b) (AN es)):=by rw[List.take_take,List.drop_take,show min b sz=b by omega,show f*sz+b-f*sz=b by omega]
   have t2:(List.drop (b+m) (List.take sz (List.drop (f*sz) (AN es))))++List.drop (f*sz+sz) (AN es)=List.drop (f*sz+b+m) (AN es):=by
    rw[List.drop_take,List.drop_drop];have e2:List.drop (f*sz+sz) (AN es)=List.drop (sz-(b+m)) (List.drop (f*sz+(b+m)) (AN es)):=by rw[List.drop_drop];congr 1;omega
    rw[e2,List.take_append_drop,Nat.add_assoc]
   have t3:List.take (f*sz) (AN es)++List.drop (f*sz) (List.take (f*sz+b) (AN es))=List.take (f*sz+b) (AN es):=by
    have:List.take (f*sz) (AN es)=List.take (f*sz) (List.take (f*sz+b) (AN es)):=by grind
    simp_all
   grind
  have A:=EG E r (f*sz+b) (f*sz+b+m);rw[<-s] at A;have ap:(p.toList.take (f*sz+b)++Y++p.toList.drop (f*sz+b+m)).take (es.length*sz)=vals.take (f*sz+b)++Y++vals.drop (f*sz+b+m):=by
   have h3:(p.toList.take (f*sz+b)).length=f*sz+b:=by simp;omega
   rw[<-U,List.take_append,List.take_append];rw[List.take_take,List.take_take,h3];have h4:min (f*sz+b) (es.length*sz)=f*sz+b:=by omega
   have h5:min (es.length*sz) (f*sz+b)=f*sz+b:=by omega
   have h6:Y.take (es.length*sz-(f*sz+b))=Y:=List.take_of_length_le (by omega);rw[h4,h5,h6];congr 1;rw[List.drop_take];simp_all
  refine⟨_,_,C,h1,⟨?_,.inr ⟨B,am,_,by rw[List.length_set],hB,setRow_heap w B p _ e (0,0) G,by grind,ad,?_,?_⟩⟩,by grind,?_,A⟩
  .rw[List.length_set,<-A.len,s];simp only[List.length_append,List.length_take,List.length_drop,D,y];omega
  .simp only[List.size_toArray,List.length_append,List.length_take,List.length_drop,Array.length_toList,O];omega
  .grind
  grind
 .exact he.elim
end ops
end Go.Ir
end
section
namespace Go.Ir
open Go.RowKit
variable[FV]
theorem O4{P:Program}{t:TypeId}{e:List (Nat×Nat)}(h:O6 P t=some e):∃b,P.underlying t=some (.struct b)/\b.toList.mapM (λf=>(P.info? f.type).map λi=>(f.offset,i.size))=some e:=by
 unfold O6 at h;cases c:HQ P t with
 | none=>simp[c] at h
 | some b=>exact⟨b,Jl c,by simpa[c] using h⟩
theorem IW{μ:Id->Option Value}{H:Addr->Option Value}{nt:Nat}{env:AB}{a:Act}(hr:Rl μ H nt env a)(F:List (Nat×Nat)){place:Nat->Option (Nat×Nat)}(g:∀f q,F[f]?=some q->place f=some q) :
  ∀(y:List (Nat×Operand)) (ps:List (Nat×Nat×X)) (z cs:List V) (l:Array Value),GP F y ps=true->(∀p∈ps,(ev (get env) p.2.2).ok=true)->AR μ H z l.toList->
   Dz z (ps.map λp=>(p.1,p.2.1,ev (get env) p.2.2))=some cs->∃A,Instr.fill place l (y.map fun(i,x)=>(i,a.eval x))=some A/\AR μ H cs A.toList
 | [],[],z,cs,l,_,_,B,h=>by simp only[List.map_nil,Dz] at h;cases h;exact⟨l,rfl,B⟩
 | (f,x')::O,(b,n,x)::r,z,cs,l,e,k,B,h=>by
  simp only[GP,Bool.and_eq_true,beq_iff_eq] at e;obtain⟨⟨K,M⟩,m⟩:=e;simp only[List.map_cons,Dz] at h;split at h
  .rename_i J;obtain⟨s,I⟩:=J;have L:=Am hr M;obtain⟨G,_⟩:=L.toCells (k (b,n,x) (by simp));have E:(a.eval x').cells.size=n:=by rw[<-Array.length_toList,<-G.len];exact s
   have N:z.length=l.size:=by rw[B.len];simp
   have D:=R2 (a.eval x').cells l b (by omega);have t:AR μ H (z.take b++cells (ev (get env) x)++z.drop (b+n)) (((a.eval x').cells.zipIdx.foldl (λcs (c,j)=>cs.setIfInBounds (b+j) c) l).toList):=by rw[D,E];exact EG B G b (b+n)
   obtain⟨A,C,u⟩:=IW hr F g O r _ cs _ m (λp hp=>k p (by simp[hp])) t h;refine⟨A,?_,u⟩;simp only[List.map_cons,Instr.fill];grind
  .cases h
 | [],_::_,_,_,_,e,_,_,_=>by simp[GP] at e
 | _::_,[],_,_,_,e,_,_,_=>by simp[GP] at e
section ops
variable{P:Program}{W0:World}{ep nt:Nat}{o:Oper}{d:Option Nat}{env:AB}{σ σ':Aj}{n:Nat}{μ:Id→Option Value}{H:Addr→Option Value}{a:Act}{w:World}{v:V}
variable(hr:Rl μ H nt env a)(hp:Hp W0 σ n μ H w)
include hr hp
theorem oK{t:TypeId}{z:List V}{l:Array (Nat×Operand)}{ps:List (Nat×Nat×X)}(M:o.op=.build t l)(T:Fy P t (.agg z)=true)(c:(JX P t).isSome=true)(m:GP ((JX P t).getD []) l.toList ps=true)
  (r:∀p∈ps,(ev (get env) p.2.2).ok=true){cs:List V}(L:Dz z (ps.map λp=>(p.1,p.2.1,ev (get env) p.2.2))=some cs)(R:v=.agg cs):AH P W0 ep o d σ n μ H a w v σ:=by
 obtain⟨i,K,S,F,A⟩:=DQ T;obtain⟨J,c⟩:=Option.isSome_iff_exists.1 c;rw[c] at m;have y:=(HJ (μ:=μ) (H:=H) A).2;subst R;simp only[Option.getD_some] at m;unfold JX at c;split at c
 .rename_i k e N;obtain⟨I,D,s⟩:=Option.map_eq_some_iff.1 c;obtain⟨u,g,b⟩:=IW hr J (place:=λi=>some (i*I.size,I.size)) (λf q B=>by
   rw[<-s] at B;simp only[List.getElem?_map,Option.map_eq_some_iff] at B;obtain⟨j,C,rfl⟩:=B;have:j=f:=by
    rcases Nat.lt_or_ge f k with h|h
    .rw[List.getElem?_range h] at C;cases C;rfl
    .rw[List.getElem?_eq_none (by simpa using h)] at C;cases C
   subst this;rfl) l.toList ps z cs K.cells m r y L
  have:=Ap.agg (μ:=μ) (H:=H) cs u.toList b.len b.one b.at_;refine AH.same (val:=.agg u) (λw=>?_) hp (by simpa using this);have E:(sizeOf e).run P w=.ok I.size w:=by simp[sizeOf,typeInfo,D]
  have G:(zeroValue t).run P w=.ok K w:=by simp[zeroValue,typeInfo,S,F]
  simp only[execOp,M,Sem.run_bind,Instr.build,G,Result.andThen_ok,run_underlying N,E,Array.toList_map,g,Sem.run_pure]
 .obtain⟨U,N,s⟩:=O4 c;obtain⟨u,g,b⟩:=IW hr J (place:=(J.toArray[·]?)) (λf q B=>by simpa using B) l.toList ps z cs K.cells m r y L;have:=Ap.agg (μ:=μ) (H:=H) cs u.toList b.len b.one b.at_;refine AH.same (val:=.agg u) (λw=>?_) hp (by simpa using this);have O:P.built t (l.map fun(i,x)=>(i,a.eval x)).toList=some u:=by unfold Program.built;simp_all
  simp only[execOp,M,Sem.run_bind,run_build w t _ u O,Result.andThen_ok,Sem.run_pure]
theorem MN(sz:Nat):∀(ps:List (Nat×Operand)) (xs:List X) (k:Nat) (cs:Array Value),GR k ps xs=true->(∀x∈xs.map (ev (get env)),x.ok=true/\(cells x).length=sz)->(k+xs.length)*sz=cs.size->
  ∃p vals,Instr.fill (λi=>some (i*sz,sz)) cs (ps.map fun(i,x)=>(i,a.eval x))=some p/\AR μ H (AN (xs.map (ev (get env)))) vals/\p.toList=cs.toList.take (k*sz)++vals
 | [],[],k,cs,_,_,q=>by refine⟨cs,[],rfl,by simpa[AN] using AR.nil_,?_⟩;simp only[List.length_nil,Nat.add_zero] at q;rw[List.append_nil,List.take_of_length_le (by simp;omega)]
 | (j,x')::D,x::r,k,cs,b,e,q=>by
  simp only[GR,Bool.and_eq_true,beq_iff_eq] at b;obtain⟨⟨rfl,C⟩,f⟩:=b;have z:=e (ev (get env) x) (by simp);have B:=Am hr C;obtain⟨A,_⟩:=B.toCells z.1;have u:(a.eval x').cells.size=sz:=by rw[<-Array.length_toList,<-A.len];exact z.2
  have h:j*sz+(a.eval x').cells.size<=cs.size:=by rw[u,<-q];simp only[List.length_cons];grind
  have l:=R2 (a.eval x').cells cs (j*sz) h;have g:((a.eval x').cells.zipIdx.foldl (λcs (c,i)=>cs.setIfInBounds (j*sz+i) c) cs).size=cs.size:=by rw[<-Array.length_toList,l];grind
  obtain⟨p,vals,t,m,s⟩:=MN sz D r (j+1) _ f (λy G=>e y (by grind)) (by rw[g,<-q];grind);refine⟨p,(a.eval x').cells.toList++vals,?_,?_,?_⟩
  .simp only[List.map_cons,Instr.fill];grind
  .have:=A.append m;simpa[AN] using this
  .rw[s,l,<-List.append_assoc];congr 1;have E:(j+1)*sz=j*sz+(a.eval x').cells.size:=by grind
   have F:(cs.toList.take (j*sz)).length=j*sz:=by simp;omega
   grind
 | [],_::_,_,_,b,_,_=>by simp[GR] at b
 | _::_,[],_,_,b,_,_=>by simp[GR] at b
theorem AnX{t e:TypeId}{b sz:Nat}{own:Bool}{ps:Array (Nat×Operand)}{xs:List X}(T:o.op=.buildSlice t b ps)(ht:Cd P t=some e)(G:Hy P e sz=true)(f:b=xs.length)(F:b*sz<=16777216)
  (L:GR 0 ps.toList xs=true)(hn:ep<n)(R:∀r,d=some r->μ (ep,r)=none)(m:∀x∈xs.map (ev (get env)),x.ok=true/\(cells x).length=sz)
  (u:if own then ∃r,d=some r/\v=.arr (ep,r)/\σ'=((ep,r),.arr e sz (xs.map (ev (get env))))::σ else v=.sl (xs.map (ev (get env)))/\σ'=σ):AH P W0 ep o d σ n μ H a w v σ':=by
 have U:=BM ht;obtain⟨i,z,S,M,D,Z,hz,ah,_⟩:=Hw G;subst M;have ag:(Array.range (b*i.size)).size=b*i.size:=by simp
 obtain⟨q,vals,g,j,B⟩:=MN (a:=a) hr hp i.size ps.toList xs 0 ((Array.range (b*i.size)).map ((if b*i.size=0 then #[] else z.cells)[· % (if b*i.size=0 then #[] else z.cells:Array Value).size]!)) L m (by simp[f]);simp only[Nat.zero_mul,List.take_zero,List.nil_append] at B;subst B;have A:∀w,(execOp a.eval o).run P w=.ok (.value (.slice (some ⟨w.heap.size,0,none⟩) b b)) (w.alloc (.cells q e)):=by
  intro w;have y:(ps.map fun(i,x)=>(i,a.eval x)).toList=ps.toList.map fun(i,x)=>(i,a.eval x):=by simp
  have J:¬b*i.size>2 ^ 24:=by omega
  have C:¬(0:Nat)>2 ^ 24:=by omega
  by_cases E:b*i.size=0
  .simp only[E,if_true] at g;simp only[execOp,T,Sem.run_bind,Instr.buildSlice,run_underlying U,Result.andThen_ok,sizeOf,typeInfo,run_program,S,Sem.run_pure,E,C,if_false,if_true,y,g,newRow,run_newObj,World.alloc_eq]
  .simp only[if_neg E] at g;simp only[execOp,T,Sem.run_bind,Instr.buildSlice,run_underlying U,Result.andThen_ok,sizeOf,typeInfo,run_program,S,Sem.run_pure,J,if_false,if_neg E,zeroValue,hz,y,g,newRow,run_newObj,World.alloc_eq]
 have I:(AN (xs.map (ev (get env)))).length=xs.length*i.size:=by have:=FE (es:=xs.map (ev (get env))) (sz:=i.size) (λe u=>(m e u).2);simpa using this
 have s:q.size=b*i.size:=by rw[<-Array.length_toList,<-j.len,I,f]
 have ae:xs.length<=16777216:=by have:xs.length*1<=xs.length*i.size:=Nat.mul_le_mul_left _ D;grind
 cases own with
 | true=>
  simp only[if_true] at u;obtain⟨r,O,rfl,rfl⟩:=u;have l:=Bw (v:=.slice (some ⟨w.heap.size,0,none⟩) b b) (R r O);refine AH.made hp O hn R (A w) (λbk h=>by simpa[C2] using h.symm) ⟨_,q.toList,Au _ _ _,rfl,⟨?_,.inr ⟨w.heap.size,b,q,by simp[f],hp.base.size,heap_alloc_new w _,by simp[f],by simp only[maxLen];omega,s,?_⟩⟩,by simp[Bf];omega,λx hx=>(m x hx).2,j.mono l (λ_ _ h=>h)⟩ (.arr _ _ (Au _ _ _) rfl)
  .grind
  .rw[List.length_map,<-f,<-s,<-Array.length_toList,List.take_length]
 | false=>
  simp only[Bool.false_eq_true,if_false] at u;obtain⟨rfl,rfl⟩:=u;intro next Q K
  have p:=hp.pin_ (.cells q e);have l:∀N v,H N=some v->pinned H (w.alloc (.cells q e)) w.heap.size N=some v:=p.2.hp;refine Bk (A w) (K _ n μ _ _ ⟨?_,p.1,Nat.le_refl _,p.2,λ_ _ _ h=>h⟩);have:=Ap.slC (μ:=μ) (H:=pinned H (w.alloc (.cells q e)) w.heap.size) (xs.map (ev (get env))) ⟨w.heap.size,0,none⟩ b i.size q.toList (by simp[f]) (by simp[Bf];omega) (λe u=>(m e u).2) j.len j.one (λk v hk=>by rw[CG];simp only[pinned,if_true];rw[World.cell?_alloc_new];simpa using hk) (λk c v W Y=>(j.at_ k c v W Y).mono (λ_ _ h=>h) l);rw[List.length_map,<-f] at this;exact this
theorem RA{k b:Nat}(e:k<=Bf)(c:b<=32768):k*b<=140737488355328:=by have:=Nat.mul_le_mul e c;simp only[Bf] at this;omega
theorem JF{w:World}{base:Nat}{t j e:TypeId}{i:TypeInfo}{size:Nat}(h:P.underlying t=some (.slice e))(f:P.info? e=some i)
  {v:Value}{n:Nat}{xs:List Value}(b:w.ownsRow base e size v n xs)(A:Option Addr)(c:Nat):(Builtin.append_ #[t,t] j #[v,.slice A 0 c]).run P w=.ok v w:=by
 rcases b.2 with⟨rfl,rfl⟩|⟨g,cap,cur,rfl,_,_,hnc,_⟩
 .cases A<;>simp[Builtin.append_,run_underlying h,sizeOf,typeInfo,f,Builtin.lenOf,Builtin.firstCells,loadCells,loadCellsFrom]
 .cases A<;>simp[Builtin.append_,run_underlying h,sizeOf,typeInfo,f,Builtin.lenOf,Builtin.firstCells,hnc,storeCells,loadCells,loadCellsFrom]
theorem Vs{x':Operand}{x:X}(G:BP x' x=true){xs:List V}{sz:Nat}(i:AA σ (ev (get env) x)=some xs)(E:∀y∈xs,(cells y).length=sz) :
  ∃A c,a.eval x'=.slice A xs.length c/\xs.length<=Bf/\(xs=[]\/∃p vals,A=some p/\AR μ H (AN xs) vals/\∀j u,vals[j]?=some u->w.cell? (p.add j)=some u):=by
 have k:=Am hr G;generalize ev (get env) x=J at *;unfold AA at i;split at i
 .cases i;obtain⟨A,c,z,_,e,B⟩:=k.sl_inv;refine⟨A,c,z,e,?_⟩;rcases B with h|⟨p,I,vals,rfl,_,f,l⟩
  .exact .inl h
  .exact .inr ⟨p,vals,rfl,f,λj u F=>hp.pins _ _ (l j u F)⟩
 .cases i;exact⟨none,0,k.nil_inv,Nat.zero_le _,.inl rfl⟩
 .rename_i id;split at i
  .rename_i C;cases i;obtain⟨D,_⟩:=k.arr_inv;obtain⟨vals,_,b,e,_,f⟩:=Ef hp C D;obtain⟨A,c,q⟩:=Cz b;refine⟨A,c,q,e,?_⟩;rcases Nat.eq_zero_or_pos xs.length with s|s
   .grind
   .obtain⟨g,r,t,m,_⟩:=Gu b s;rw[m] at q;cases q;refine .inr ⟨⟨g,0,none⟩,vals,rfl,f,?_⟩;rw[m] at b;exact b.cells (g:=g) rfl
  .cases i
 .cases i
theorem Ai6{c:Call}{s x:X}{e sz:Nat}(ho:o.op=.call c)(hcal:c.callee=.builtin .append)(hT:c.argTypes=#[c.argTypes.getD 0 0,c.argTypes.getD 0 0])(ht:Cd P (c.argTypes.getD 0 0)=some e)(hel:Hy P e sz=true)(hxs:A8 c.args.toList [s,x]=true)
  (hn:ep<n)(hf:∀dd,d=some dd->μ (ep,dd)=none){dd:Nat}(hd:d=some dd){xs:List V}(hsrc:AA σ (ev (get env) x)=some xs)(hsz:∀y∈xs,(cells y).length=sz)(hv:v=.arr (ep,dd))
  (he:match ev (get env) s with
   | .nil=>xs.length<=Bf/\σ'=((ep,dd),.arr e sz xs)::σ
   | .arr id=>∃es,lk σ id=some (.arr e sz es)/\es.length+xs.length<=Bf/\σ'=((ep,dd),.arr e sz (es++xs))::del σ id
   | _=>False):AH P W0 ep o d σ n μ H a w v σ':=by
 obtain⟨s',x',hargs,hs,hx⟩:=QX hxs
 have hargs:=DD hargs
 generalize c.argTypes.getD 0 0=t at *
 have hu:=BM ht
 obtain⟨i,z,hi,hisz,hpos,hby,hz,hzs,_⟩:=Hw hel
 have hs':=Am hr hs
 obtain⟨A,cap,ex,hxlim,hsr⟩:=Vs hr hp (w:=w) hx hsrc hsz
 subst hv
 have run:∀(sv:Value) (es:List V) (vals:List Value),a.eval s'=sv->w.ownsRow W0.heap.size e sz sv es.length vals->AR μ H (AN es) vals->es.length+xs.length<=Bf->
   ∃v' w' nv,(execOp a.eval o).run P w=.ok (.value v') w'/\w'.ownsRow W0.heap.size e sz v' (es.length+xs.length) nv/\AR μ H (AN (es++xs)) nv/\w.grownBy w' sv.ownBlock/\(v'.ownBlock=sv.ownBlock\/v'.ownBlock=some w.heap.size):=by
  intro sv es vals hes hown hrel hlim
  have hb:∀(r:Value) (w':World),(Builtin.append_ #[t,t] o.type #[sv,.slice A xs.length cap]).run P w=.ok r w'->(execOp a.eval o).run P w=.ok (.value r) w':=by
   intro r w' h
   obtain⟨cs,hrun⟩:=Ci (P:=P) ho hcal a.eval w
   rw[hrun,hargs,hT]
   simp only[builtin,List.map_toArray,List.map_cons,List.map_nil,hes,ex,Sem.run_bind,h,Result.andThen_ok,Sem.run_pure]
  rcases hsr with rfl|⟨ad,news,rfl,hnrel,hcell⟩
  .exact⟨sv,w,vals,hb _ _ (JF hr hp hu hi hown A cap),by simpa using hown,by simpa using hrel,⟨rfl,rfl,rfl,Nat.le_refl _,fun _ _ _=>rfl⟩,.inl rfl⟩
  .have hnl:news.length=xs.length*sz:=by rw[<-hnrel.len];exact FE hsz
   obtain⟨v',w',h1,h2,h3,_,h5⟩:=run_append_own_at (P:=P) w W0.heap.size t o.type e i z sz i.bytes hu hi hz hisz rfl hzs hpos sv es.length vals hown ad xs.length cap news hnl hcell hnrel.one (by simp only[maxLen,Bf] at *;omega) (RA hr hp hlim hby) hp.base.size
   refine⟨v',w',_,hb _ _ h1,h2,?_,h3,h5⟩
   rw[FG]
   exact hrel.append hnrel
 have fin:∀(sv v':Value) (w':World) (es:List V) (nv:List Value) (σ1:Aj),(execOp a.eval o).run P w=.ok (.value v') w'->w'.ownsRow W0.heap.size e sz v' es.length nv->AR μ H (AN es) nv->w.grownBy w' sv.ownBlock->
   (v'.ownBlock=sv.ownBlock\/v'.ownBlock=some w.heap.size)->es.length<=Bf->(∀y∈es,(cells y).length=sz)->(∀k,some k=sv.ownBlock->Fv μ σ k)->(∀id e,lk σ1 id=some e->lk σ id=some e/\∀bk,C2 (μ id)=some bk->some bk≠sv.ownBlock)->
   AH P W0 ep o d σ n μ H a w (.arr (ep,dd)) (((ep,dd),.arr e sz es)::σ1):=by
  intro sv v' w' es nv σ1 hrun hown hrel hg hob hlim hall hR h1 next Q K
  have hmono:=Bw (v:=v') (hf dd hd)
  have h1c:v'.oneCell'=true:=by obtain⟨A,cap,rfl⟩:=Cz hown;rfl
  have hblk:∀bk,C2 (some v')=some bk->v'.ownBlock=some bk:=by
   obtain⟨A,cap,rfl⟩:=Cz hown
   intro bk hb
   cases A with
   | none=>simp[C2] at hb
   | some A=>simpa[C2,Value.ownBlock] using hb
  have hnew:=hp.new_ (n':=n) (σ1:=σ1) (AY.of_grown hg) hR h1 (hf dd hd) (e:=.arr e sz es) (val:=v') hn (Nat.le_refl _) (fun bk hb=>by
   rcases hob with h|h
   .exact .inl (by rw[<-h];exact(hblk bk hb).symm)
   .rw[hblk bk hb] at h;cases h;exact .inr (Nat.le_refl _)) ⟨v',nv,Au _ _ _,h1c,hown,hlim,hall,hrel.mono hmono (fun _ _ h=>h)⟩
  refine Bk hrun (K _ _ _ _ _ ⟨.arr _ _ (Au _ _ _) h1c,hnew.1,Nat.le_refl _,hnew.2,fun id hid hne hnone=>?_⟩)
  rw[BS _ _ (hne dd hd)]
  exact hnone
 generalize hes:ev (get env) s=vs at *
 split at he
 .obtain⟨hlim,rfl⟩:=he
  have e1:=hs'.nil_inv
  obtain⟨v',w',nv,h1,h2,h3,h4,h5⟩:=run (.slice none 0 0) [] [] e1 (World.ownsRow_nil w _ e sz) AR.nil_ (by simpa using hlim)
  simp only[List.length_nil,Nat.zero_add,List.nil_append] at h2 h3
  exact fin _ v' w' xs nv σ h1 h2 h3 h4 h5 hlim hsz (fun k hk=>by simp[Value.ownBlock] at hk) (fun id e h=>⟨h,fun bk _ hb=>by simp[Value.ownBlock] at hb⟩)
 .rename_i id
  obtain⟨es,hl,hlim,rfl⟩:=he
  obtain⟨hm,_⟩:=hs'.arr_inv
  obtain⟨vals,_,hown,_,hsz',hrel⟩:=Ef hp hl hm
  have hob:∀k,some k=(a.eval s').ownBlock->C2 (μ id)=some k:=by
   intro k hk
   rw[hm]
   obtain⟨A',cap',hv'⟩:=Cz hown
   rw[hv'] at hk⊢
   cases A' with
   | none=>simp[Value.ownBlock] at hk
   | some A'=>simpa[Value.ownBlock,C2] using hk.symm
  obtain⟨v',w',nv,h1,h2,h3,h4,h5⟩:=run _ es vals rfl hown hrel hlim
  rw[<-List.length_append] at h2
  refine fin _ v' w' (es++xs) nv (del σ id) h1 h2 h3 h4 h5 (by simpa using hlim) (fun y hy=>(List.mem_append.1 hy).elim (hsz' y) (hsz y)) (fun k hk=>⟨id,_,hl,hob k hk⟩) (fun id' e' h=>?_)
  rw[CV] at h
  split at h
  .cases h
  .rename_i hne
   exact⟨h,fun bk hb hb'=>hne (hp.sep _ _ _ _ bk hl h (hob bk hb') hb)⟩
 .exact he.elim
omit hr hp in
theorem Ry{e:TypeId}(h:O1 P e=true):∃i,P.info? e=some i/\i.size=1/\i.bytes=1/\i.zero=some (.int .u8 0):=by unfold O1 at h;grind
omit hr hp in
theorem OB(l:List UInt8):AR μ H (AN (BD l)) (Lib.strCells ⟨l.toArray⟩):=by
 induction l with
 | nil=>exact AR.nil_
 | cons c l f=>
  have e:AR μ H [V.i .u8 c.toNat] [Value.int .u8 c.toNat]:=⟨VRels.nil_.cons (.i _ _),λv b=>by simp at b;subst b;rfl⟩
  exact e.append f
omit hr hp in
theorem JI{w:World}(base:Nat)(t u x e:TypeId)(i:TypeInfo)(z:P.underlying t=some (.slice e))(A:P.underlying u=some .string)(y:P.info? e=some i)(C:i.zero=some (.int .u8 0))
  (f:i.size=1)(l:i.bytes=1)(v:Value)(n:Nat)(xs:List Value)(b:w.ownsRow base e 1 v n xs)(s:ByteArray)
  (B:n+s.size<=maxLen)(h:n+s.size<=140737488355328)(k:base<=w.heap.size) :
  ∃q w',(Builtin.append_ #[t,u] x #[v,.string s]).run P w=.ok q w'/\w'.ownsRow base e 1 q (n+s.size) (xs++Lib.strCells s)/\w.grownBy w' v.ownBlock/\(q.ownBlock=v.ownBlock\/q.ownBlock=some w.heap.size):=by
 obtain⟨q,w',hr,D,E,F⟩:=Lib.run_append_own_string (P:=P) w base t u x e i z A y C f l v n xs b s B h k;refine⟨q,w',hr,D,E,?_⟩;rcases b.2 with⟨rfl,rfl⟩|⟨g,cap,cur,rfl,hbg,hg,hnc,hcm,hcs,htake⟩
 .by_cases G:s.size=0
  .grind
  .have c:=run_append_nil_string (P:=P) w t u x e i (.int .u8 0) z A y C s (by omega) (by omega) (by rw[l];omega);rw[c] at hr;injection hr with r _;subst r;exact .inr rfl
 .by_cases p:n+s.size<=cap
  .have c:=Lib.run_append_room_string (P:=P) w t u x e i z A y f g n cap cur hg s p (by omega);rw[c] at hr;injection hr with r _;subst r;exact .inl rfl
  .have m:∀j u,xs[j]?=some u->w.cell? ((⟨g,0,none⟩:Addr).add j)=some u:=b.cells (g:=g) rfl;have c:=Lib.run_append_grow_string (P:=P) w t u x e i (.int .u8 0) z A y C ⟨g,0,none⟩ n cap xs (by grind) m s (by omega) (by omega) (by rw[l];exact growslice_fits (by omega) (by omega));rw[c] at hr;injection hr with r _;subst r;exact .inr rfl
theorem Ac3{c:Call}{s x:X}{e:Nat}(ho:o.op=.call c)(ad:c.callee=.builtin .append)(hT:c.argTypes=#[c.argTypes.getD 0 0,c.argTypes.getD 1 0])(ht:Cd P (c.argTypes.getD 0 0)=some e)(ai:CJ P (c.argTypes.getD 1 0)=true)(au:O1 P e=true)(q:A8 c.args.toList [s,x]=true)
  (hn:ep<n)(hf:∀z,d=some z->μ (ep,z)=none){z:Nat}(hd:d=some z){l:List UInt8}(ah:ev (get env) x=.s l)(hv:v=.arr (ep,z))
  (Y:match ev (get env) s with
   | .nil=>l.length<=Bf/\σ'=((ep,z),.arr e 1 (BD l))::σ
   | .arr id=>∃es,lk σ id=some (.arr e 1 es)/\es.length+l.length<=Bf/\σ'=((ep,z),.arr e 1 (es++BD l))::del σ id
   | _=>False):AH P W0 ep o d σ n μ H a w v σ':=by
 obtain⟨s',x',m,hs,hx⟩:=QX q;have m:=DD m;generalize c.argTypes.getD 0 0=t at *;generalize c.argTypes.getD 1 0=u at *;have hu:=BM ht;have aw:=Cf ai;obtain⟨i,hi,af,aq,hz⟩:=Ry au;have ag:=Am hr hs;have ak:=Am hr hx;rw[ah] at ak;have ex:=ak.s_inv.1;subst hv;obtain⟨xs,q⟩:∃xs,xs=BD l:=⟨_,rfl⟩;have al:l.length=xs.length:=by rw[q];simp[BD]
 have U:∀y∈xs,(cells y).length=1:=by intro y hy;rw[q] at hy;obtain⟨c,_,rfl⟩:=List.mem_map.1 hy;rfl
 have S:AR μ H (AN xs) (Lib.strCells ⟨l.toArray⟩):=by rw[q];exact OB l
 have T:(⟨l.toArray⟩:ByteArray).size=xs.length:=by rw[<-al];simp[ByteArray.size]
 rw[al,<-q] at Y;obtain⟨sz,D⟩:∃sz,sz=1:=⟨_,rfl⟩
 rw[<-D] at Y U;have run:∀(sv:Value) (es:List V) (vals:List Value),a.eval s'=sv->w.ownsRow W0.heap.size e sz sv es.length vals->AR μ H (AN es) vals->es.length+xs.length<=Bf->
   ∃g w' E,(execOp a.eval o).run P w=.ok (.value g) w'/\w'.ownsRow W0.heap.size e sz g (es.length+xs.length) E/\AR μ H (AN (es++xs)) E/\w.grownBy w' sv.ownBlock/\(g.ownBlock=sv.ownBlock\/g.ownBlock=some w.heap.size):=by
  intro sv es vals ae b j f;have B:∀(r:Value) (w':World),(Builtin.append_ #[t,u] o.type #[sv,.string ⟨l.toArray⟩]).run P w=.ok r w'->(execOp a.eval o).run P w=.ok (.value r) w':=by intro r w' h;obtain⟨cs,C⟩:=Ci (P:=P) ho ad a.eval w;rw[C,m,hT];simp only[builtin,List.map_toArray,List.map_cons,List.map_nil,ae,ex,Sem.run_bind,h,Result.andThen_ok,Sem.run_pure]
  rw[D] at b;obtain⟨g,w',L,G,W,h5⟩:=JI (w:=w) W0.heap.size t u o.type e i hu aw hi hz af aq sv es.length vals b ⟨l.toArray⟩ (by rw[T];simp only[maxLen,Bf] at *;omega) (by rw[T];simp only[Bf] at *;omega) hp.base.size;rw[T] at G;refine⟨g,w',_,B _ _ L,by rw[D];exact G,?_,W,h5⟩;rw[FG];exact j.append S
 have Z:∀(sv g:Value) (w':World) (es:List V) (E:List Value) (σ1:Aj),(execOp a.eval o).run P w=.ok (.value g) w'->w'.ownsRow W0.heap.size e sz g es.length E->AR μ H (AN es) E->w.grownBy w' sv.ownBlock->
   (g.ownBlock=sv.ownBlock\/g.ownBlock=some w.heap.size)->es.length<=Bf->(∀y∈es,(cells y).length=sz)->(∀k,some k=sv.ownBlock->Fv μ σ k)->(∀id e,lk σ1 id=some e->lk σ id=some e/\∀p,C2 (μ id)=some p->some p≠sv.ownBlock)->
   AH P W0 ep o d σ n μ H a w (.arr (ep,z)) (((ep,z),.arr e sz es)::σ1):=by
  intro sv g w' es E σ1 C b j hg F f ac hR L next Q K
  have N:=Bw (v:=g) (hf z hd);have aa:g.oneCell'=true:=by obtain⟨A,an,rfl⟩:=Cz b;rfl
  have I:∀p,C2 (some g)=some p->g.ownBlock=some p:=by
   obtain⟨A,an,rfl⟩:=Cz b;intro p B;cases A with
   | none=>simp[C2] at B
   | some A=>simpa[C2,Value.ownBlock] using B
  have J:=hp.new_ (n':=n) (σ1:=σ1) (AY.of_grown hg) hR L (hf z hd) (e:=.arr e sz es) (val:=g) hn (Nat.le_refl _) (λp B=>by
   rcases F with h|h
   .exact .inl (by rw[<-h];exact(I p B).symm)
   .rw[I p B] at h;cases h;exact .inr (Nat.le_refl _)) ⟨g,E,Au _ _ _,aa,b,f,ac,j.mono N (λ_ _ h=>h)⟩
  refine Bk C (K _ _ _ _ _ ⟨.arr _ _ (Au _ _ _) aa,J.1,Nat.le_refl _,J.2,λid aJ O R=>?_⟩);rw[BS _ _ (O z hd)];exact R
 generalize ae:ev (get env) s=vs at *;split at Y
 .obtain⟨f,rfl⟩:=Y;have e1:=ag.nil_inv;obtain⟨g,w',E,L,G,W,h4,h5⟩:=run (.slice none 0 0) [] [] e1 (World.ownsRow_nil w _ e sz) AR.nil_ (by simpa using f);simp only[List.length_nil,Nat.zero_add,List.nil_append] at G W;exact Z _ g w' xs E σ L G W h4 h5 f U (λk M=>by simp[Value.ownBlock] at M) (λid e h=>⟨h,λp _ B=>by simp[Value.ownBlock] at B⟩)
 .rename_i id;obtain⟨es,hl,f,rfl⟩:=Y;obtain⟨hm,_⟩:=ag.arr_inv;obtain⟨vals,_,b,_,aj,j⟩:=Ef hp hl hm;have F:∀k,some k=(a.eval s').ownBlock->C2 (μ id)=some k:=by
   intro k M;rw[hm];obtain⟨A',az,ax⟩:=Cz b;rw[ax] at M⊢;cases A' with
   | none=>simp[Value.ownBlock] at M
   | some A'=>simpa[Value.ownBlock,C2] using M.symm
  obtain⟨g,w',E,L,G,W,h4,h5⟩:=run _ es vals rfl b j f;rw[<-List.length_append] at G;refine Z _ g w' (es++xs) E (del σ id) L G W h4 h5 (by simpa using f) (λy hy=>(List.mem_append.1 hy).elim (aj y) (U y)) (λk M=>⟨id,_,hl,F k M⟩) (λaS e' h=>?_);rw[CV] at h;split at h
  .cases h
  .rename_i O;exact⟨h,λp B ap=>O (hp.sep _ _ _ _ p hl h (F p ap) B)⟩
 .exact Y.elim
theorem AmG{t e0:TypeId}{x' i:Operand}{x O:X}{sz:Nat}(ho:o.op=.slice t x' none (some i) none)(ht:Cd P t=some e0)(Z:Cs P e0=some sz)(hx:BP x' x=true)(N:BP i O=true)
  (hn:ep<n)(hf:∀f,d=some f->μ (ep,f)=none){f:Nat}(L:d=some f){id:Id}{e:TypeId}{es:List V}{q:Nat}(ex:ev (get env) x=.arr id)(S:lk σ id=some (.arr e sz es))(W:Fe (get env) es.length (some O)=some q)(hq:q<=es.length)
  (hv:v=.arr (ep,f)):AH P W0 ep o d σ n μ H a w v (((ep,f),.arr e sz (es.take q))::del σ id):=by
 have E:=Am hr hx;rw[ex] at E;have hu:=BM ht;subst hv;obtain⟨hm,aj⟩:=E.arr_inv;obtain⟨vals,_,c,ae,p,D⟩:=Ef hp S hm;obtain⟨A,b,B⟩:=Cz c;have j:es.length<=b:=by
  rcases c.2 with⟨h1,h2⟩|⟨g,cap',cur,h1,_,_,h2,_⟩
  .omega
  grind
 have T:Ig none none=true:=rfl;have C:=λw=>IK (P:=P) hr hp T (show Ig (some i) (some O)=true from N) true j (show Fe (get env) 0 none=some 0 from rfl) W (Nat.zero_le _) (Nat.le_trans hq j) w;have m:∀w,(execOp a.eval o).run P w=.ok (.value (.slice (if b=0 then A else A.map (·.add (0*sz))) (q-0) (b-0))) w:=by
  intro w;have aa:(Instr.slice t (.slice A es.length b) none (some (a.eval i)) none).run P w=.ok (.slice (if b=0 then A else A.map (·.add (0*sz))) (q-0) (b-0)) w:=by have:=C w;simp only[Option.map_none,Option.map_some] at this;simp only[Instr.slice,Sem.run_bind,run_underlying hu,Result.andThen_ok,Sem.run_pure,this,Co Z]
  simp only[execOp,ho,Option.map_none,Option.map_some,Sem.run_bind,Instr.sliceAt,run_underlying hu,B,Result.andThen_ok,aa,Sem.run_pure]
 have hA:(if b=0 then A else A.map (·.add (0*sz)))=A:=by
  split
  .rfl
  .rcases c.2 with⟨h1,h2⟩|⟨g,cap',cur,h1,_⟩
   .grind
   .rw[h1] at B;injection B with I h4 h5;subst I;simp[CG]
 rw[hA,Nat.sub_zero,Nat.sub_zero] at m;have r:=Bw (v:=.slice A q b) (hf f L);have U:∀k,C2 (some (.slice A q b))=some k->C2 (μ id)=some k:=by
  intro k F;rw[hm,B];cases A with
  | none=>simp[C2] at F
  | some A=>simpa[C2] using F
 have M:AN (es.take q)=(AN es).take (q*sz):=K9 p q;have z:w.ownsRow W0.heap.size e sz (.slice A q b) (es.take q).length (vals.take (q*sz)):=by
  have Y:(es.take q).length=q:=by simp;omega
  have aq:vals.length=es.length*sz:=c.1;rw[Y];refine⟨by simp[*],?_⟩;rcases c.2 with⟨h1,h2⟩|⟨g,cap',cur,h1,hB,hg,h2,I,h4,h5⟩
  .grind
  .rw[h1] at B;cases B;exact .inr ⟨g,b,cur,rfl,hB,hg,by omega,I,h4,by rw[<-h5,List.take_take,Nat.min_eq_left (Nat.mul_le_mul_right _ hq)]⟩
 intro next Q K
 have l:=hp.new_ (n':=n) (σ1:=del σ id) (w':=w) (R:=λk=>C2 (μ id)=some k) ⟨rfl,rfl,rfl,Nat.le_refl _,λ_ _ _=>rfl⟩ (λk F=>⟨id,_,S,F⟩) (λav e' h=>by
   rw[CV] at h;split at h
   .cases h
   .rename_i s;exact⟨h,λG C J=>s (hp.sep _ _ _ _ G S h J C)⟩) (hf f L) (e:=.arr e sz (es.take q)) (val:=.slice A q b) hn (Nat.le_refl _) (λG C=>.inl (U G C))
  ⟨_,_,Au _ _ _,rfl,z,by simp;omega,λy hy=>p y (List.mem_of_mem_take hy),by rw[M];exact(D.take _).mono r (λ_ _ h=>h)⟩
 refine Bk (m w) (K _ _ _ _ _ ⟨.arr _ _ (Au _ _ _) rfl,l.1,Nat.le_refl _,l.2,λid al s u=>?_⟩);rw[BS _ _ (s f L)];exact u
end ops
end Go.Ir
end
section
namespace Go.Ir
open Go.RowKit
variable[FV]
def AhV:Xf->Bool
 | .mput _=>true
 | .mst=>true
 | _=>false
def jV:Dd->TypeDesc->Prop
 | .str,d=>d=.string
 | .int,d=>∃k,d=.int k
 | .bool,d=>d=.bool
 | .st _,_=>False
theorem G0{P:Program}{b:Dd}{t:TypeId}(h:Mf P b t=true):∃d,P.underlying t=some d/\jV b d:=by
 unfold Mf at h;cases c:P.underlying t with
 | none=>grind
 | some d=>rw[c] at h;cases b<;>cases d<;>first|(cases h;done)|exact⟨_,rfl,rfl⟩|exact⟨_,rfl,_,rfl⟩
theorem Ug{c:Dd}{d:TypeDesc}(e:jV c d)(a b:V):EY c a b=Ev c a b:=by
 cases c with
 | st l=>exact e.elim
 | _=>cases a<;>cases b<;>rfl
theorem E0{P:Program}{t k e:TypeId}(h:Np P t=some (k,e)):P.underlying t=some (.map k e):=by unfold Np at h;grind
theorem Gb(e:BinOp)(t:TypeId)(x y:Operand)(a:Option Addr)(l c:Nat)(b:Option Addr)(m d:Nat):eqGuard e t x y (.slice a l c) (.slice b m d)=pure ():=by cases e<;>rfl
theorem PV:∀{cs:List V},(∀c∈cs,cells c=[c])->AN cs=cs
 | [],_=>rfl
 | c::cs,h=>by have:=PV (cs:=cs) λx b=>h x (List.mem_cons_of_mem _ b);simp only[AN,List.flatMap_cons] at this⊢;grind
theorem NR(a b:List UInt8):((⟨a.toArray⟩:ByteArray)==⟨b.toArray⟩)=(a==b):=by show(a.toArray==b.toArray)=_;simp
section
variable{μ:Id→Option Value}{H:Addr→Option Value}
theorem Qn{g:Dd}{d:TypeDesc}(c:jV g d){a b:V}{x y:Value}(e:Ap μ H a x)(f:Ap μ H b y){t:Bool}(h:EY g a b=some t) :
  Instr.sameNow d x y=some t:=by
 rw[Ug c] at h;unfold Ev at h;split at h
 .cases h;have c:d=_:=c;subst c;rw[e.s_inv.1,f.s_inv.1];simp only[Instr.sameNow];rw[NR]
 .split at h
  .rename_i i;cases h;obtain⟨k,rfl⟩:=(c:∃k,d=.int k)
   subst i;rw[e.i_inv,f.i_inv];simp[Instr.sameNow]
  .cases h
 .cases h;have c:d=_:=c;subst c;rw[e.b_inv,f.b_inv];simp[Instr.sameNow]
 .cases h
theorem Rm{t:Dd}{d:TypeDesc}(p:jV t d){a:V}{x:Value}(s:Ap μ H a x) :
  ∀(es:List (V×V)) (ms:List MapEntry) (i:Nat) (r:Option (Nat×V)),es.length=ms.length->(∀(k:Nat) (c:V×V) (m:MapEntry),es[k]?=some c->ms[k]?=some m->Ap μ H c.1 m.key/\Ap μ H c.2 m.val)->Bz t a es i=some r->
   ∃g,Instr.findNow d x ms i=some g/\((r=none/\g=none)\/∃j v val,r=some (j,v)/\g=some (j,val)/\Ap μ H v val/\i<=j/\(es[j-i]?).isSome=true)
 | [],[],i,r,_,_,h=>by
  simp only[Bz] at h;split at h
  .cases h;exact⟨none,rfl,.inl ⟨rfl,rfl⟩⟩
  .cases h
 | e::es,m::ms,i,r,f,b,h=>by
  simp only[Bz] at h;have l:=b 0 e m rfl rfl;split at h
  .rename_i q;cases h;exact⟨some (i,m.val),by simp only[Instr.findNow,Qn p s l.1 q],.inr ⟨i,_,_,rfl,rfl,l.2,Nat.le_refl _,by simp⟩⟩
  .rename_i q;obtain⟨g,u,A⟩:=Rm p s es ms (i+1) r (by simpa using f) (λk c m y z=>b (k+1) c m (by simpa using y) (by simpa using z)) h;refine⟨g,by simp only[Instr.findNow,Qn p s l.1 q,u],?_⟩;grind
  .cases h
 | [],_::_,_,_,f,_,_=>by simp at f
 | _::_,[],_,_,f,_,_=>by simp at f
theorem Iz{c:Dd}{a:V}:∀{es:List (V×V)} {i:Nat} {r:Option (Nat×V)},Bz c a es i=some r->Lc c a=true
 | [],i,r,h=>by simp only[Bz] at h;grind
 | e::es,i,r,h=>by
  simp only[Bz] at h;have:∀t,EY c a e.1=some t->Lc c a=true:=by
   intro t b;unfold EY at b;split at b<;>(try (cases b;done))<;>(try (unfold Ev at b;split at b<;>first|rfl|grind|grind|(cases b;done)))
   split at b
   .rename_i f;simp[Lc,f.1]
   .cases b
  grind
theorem AeC{P:Program}{w:World}{h:Dd}{i:TypeId}{d:TypeDesc}(f:P.underlying i=some d)(b:jV h d){a:V}{x:Value}(g:Ap μ H a x)(c:Lc h a=true)(e:Bool)(n:Nat) :
  (Instr.checkKey e (n+1) i x).run P w=.ok () w:=by
 unfold Lc at c;split at c<;>(try (cases c;done))<;>(try (exact b.elim))
 .have b:d=_:=b;subst b;rw[g.s_inv.1];unfold Instr.checkKey;simp[run_underlying f]
 .obtain⟨k,rfl⟩:=(b:∃k,d=.int k);rw[g.i_inv];unfold Instr.checkKey;simp[run_underlying f]
 .have b:d=_:=b;subst b;rw[g.b_inv];unfold Instr.checkKey;simp[run_underlying f]
end
section ops
variable{P:Program}{W0:World}{ep nt:Nat}{o:Oper}{d:Option Nat}{env:AB}{σ σ':Aj}{n:Nat}{μ:Id→Option Value}{H:Addr→Option Value}{a:Act}{w:World}{v:V}
variable(hr:Rl μ H nt env a)(hp:Hp W0 σ n μ H w)
theorem AY.setObj(w:World)(g:Nat)(o:Obj):AY (λk=>k=g) w { w with heap:=w.heap.setIfInBounds g o }:=
 ⟨rfl,rfl,rfl,by simp,λk _ b=>by grind⟩
theorem Ip{r:Nat}{s:ByteArray}{b:Nat}(c:w.heap[r]?=some (.stringIter s b)):(getObj r).run P w=.ok (.stringIter s b) w:=by simp[getObj,Sem.run,c]
theorem Nv{r:Nat}{s:ByteArray}{b:Nat}(c:Obj)(e:w.heap[r]?=some (.stringIter s b)):(setObj r c).run P w=.ok () { w with heap:=w.heap.setIfInBounds r c }:=by simp[setObj,Sem.run,e]
theorem Hm:∀{es:List V} {l:List UInt8},DJ es=some l->∃b:List Int,es=b.map (.i .u8)/\l=b.map λn=>UInt8.ofNat n.toNat
 | [],l,h=>by simp only[DJ,Option.some.injEq] at h;simp_all
 | e::es,l,h=>by
  unfold DJ at h;split at h
  .grind
  .rename_i g r f;cases f;cases c:DJ es with
   | none=>rw[c] at h;cases h
   | some j=>rw[c] at h;simp only[Option.map_some,Option.some.injEq] at h;obtain⟨b,rfl,rfl⟩:=Hm c;exact⟨g::b,rfl,h.symm⟩
  .cases h
include hr hp
omit hr hp in
theorem NU{j:Dd}{t:TypeId}(m:Mf P j t=true){x y:V}{k l:Value}{r:Bool}(h:Ev j x y=some r)(g:Ap μ H x k)(i:Ap μ H y l)(e:Nat)(w:World):(Op.equalIn (e+1) t k l).run P w=.ok r w:=by
 obtain⟨p,f,b⟩:=G0 m;unfold Ev at h;split at h
 .cases h;subst b;rw[g.s_inv.1,i.s_inv.1,run_equalIn_string w e t _ _ f];simp_all
 .split at h
  .rename_i c;cases h;obtain⟨q,rfl⟩:=b;subst c;rw[g.i_inv,i.i_inv];exact run_equalIn_int w e t _ q _ _ f
  .cases h
 .cases h;subst b;rw[g.b_inv,i.b_inv];exact run_equalIn_bool w e t _ _ f
 .cases h
omit hr hp in
theorem LN{c:Dd}{t:TypeId}(e:Mf P c t=true):D9 P t=some false:=by
 obtain⟨g,f,b⟩:=G0 e;unfold D9;rw[f];cases c
 .subst b;rfl
 .obtain⟨q,rfl⟩:=b;rfl
 .subst b;rfl
 .exact b.elim
omit hr hp in
theorem OO{a b:List V}{xs ys:List Value}(t:AR μ H a xs)(z:AR μ H b ys)(e:Nat)(w:World):∀(k:List Field) (l:List (Nat×Dd)) (r:Bool),FQ P k l=true->p3 a b l=some r->
  (Op.eqFields (e+1) xs.toArray ys.toArray k).run P w=.ok r w
 | [],[],r,_,h=>by cases h;rfl
 | f::k,(o,E)::l,r,c,h=>by
  simp only[FQ,Bool.and_eq_true,beq_iff_eq,bne_iff_ne,ne_eq] at c;obtain⟨⟨⟨⟨A,B⟩,m⟩,j⟩,hr⟩:=c;simp only[p3] at h;split at h
  .rename_i x y C D;obtain⟨F,p,g⟩:=Hv (u:=.agg a) j (LN m) w xs f.offset t (v:=x) (by rw[A];simpa[sub,cells] using C);obtain⟨G,q,i⟩:=Hv (u:=.agg b) j (LN m) w ys f.offset z (v:=y) (by rw[A];simpa[sub,cells] using D);simp only[Op.eqFields,ne_eq,B,not_false_eq_true,if_true,Sem.run_bind,p,q,Result.andThen_ok];split at h
   .rename_i s;rw[NU m s g i];simpa using OO t z e w k l r hr h
   .rename_i s;cases h;rw[NU m s g i];simp
   .cases h
  .cases h
 | [],_::_,_,c,_=>by simp[FQ] at c
 | _::_,[],_,c,_=>by simp[FQ] at c
omit hr hp in
theorem I9{b:Dd}{t:TypeId}(h:Nn P b t=true):Mf P b t=true\/∃l c,b=.st l/\P.underlying t=some (.struct c)/\FQ P c.toList l=true/\P.stoodInHeld t=false/\l.map Prod.fst=List.range l.length:=by unfold Nn at h;grind
omit hr hp in
theorem Rd{l:List (Nat×Dd)}{x y:V}{r:Bool}(h:EY (.st l) x y=some r):∃a b,x=.agg a/\y=.agg b/\a.length=l.length/\b.length=l.length/\p3 a b l=some r:=by unfold EY at h;grind
omit hr hp in
theorem LI{l:List (Nat×Dd)}{t:TypeId}{c:Array Field}(k:P.underlying t=some (.struct c))(g:FQ P c.toList l=true)(i:P.stoodInHeld t=false){x y:V}{m p:Value}{r:Bool}(h:EY (.st l) x y=some r)(s:Ap μ H x m)(u:Ap μ H y p)(w:World):(Op.equal t m p).run P w=.ok r w:=by
 obtain⟨a,b,rfl,rfl,_,_,q⟩:=Rd h;obtain⟨z,rfl,e⟩:=s.isA_inv rfl;obtain⟨A,rfl,f⟩:=u.isA_inv rfl;have j:P.fieldsOf t=c:=by simp[Program.fieldsOf,k]
 show(Op.equalIn 10000 t (.agg z.toArray) (.agg A.toArray)).run P w=.ok r w;rw[run_equalIn_struct w 9999 t _ _ (by rw[j];exact k) i,j];exact OO e f 9998 w _ _ _ g q
omit hr hp in
theorem Va{l:List (Nat×Dd)}{t:TypeId}{A:Array Field}(y:P.underlying t=some (.struct A))(b:FQ P A.toList l=true)(f:P.stoodInHeld t=false){a:V}{x:Value}(z:Ap μ H a x)(w:World) :
  ∀(es:List (V×V)) (ms:List MapEntry) (i:Nat) (r:Option (Nat×V)),es.length=ms.length->(∀(k:Nat) (c:V×V) (m:MapEntry),es[k]?=some c->ms[k]?=some m->Ap μ H c.1 m.key/\Ap μ H c.2 m.val)->Bz (.st l) a es i=some r->
   ∃q,(Instr.findAsking t x ms i).run P w=.ok q w/\((r=none/\q=none)\/∃j v val,r=some (j,v)/\q=some (j,val)/\Ap μ H v val/\i<=j/\(es[j-i]?).isSome=true)
 | [],[],i,r,_,_,h=>by
  simp only[Bz] at h;split at h
  .cases h;exact⟨none,by simp[Instr.findAsking],.inl ⟨rfl,rfl⟩⟩
  .cases h
 | e::es,m::ms,i,r,p,g,h=>by
  simp only[Bz] at h;have s:=g 0 e m rfl rfl;split at h
  .rename_i u;cases h;exact⟨some (i,m.val),by simp[Instr.findAsking,LI y b f u z s.1 w],.inr ⟨i,_,_,rfl,rfl,s.2,Nat.le_refl _,by simp⟩⟩
  .rename_i u;obtain⟨q,B,E⟩:=Va y b f z w es ms (i+1) r (by simpa using p) (λk c m C D=>g (k+1) c m (by simpa using C) (by simpa using D)) h;refine⟨q,by simp[Instr.findAsking,LI y b f u z s.1 w,B],?_⟩;grind
  .cases h
 | [],_::_,_,_,p,_,_=>by simp at p
 | _::_,[],_,_,p,_,_=>by simp at p
omit hr hp in
theorem M3{y:Dd}{z:TypeId}(C:Nn P y z=true){a:V}{x:Value}(u:Ap μ H a x)(w:World)(es:List (V×V))(ms:List MapEntry)(r:Option (Nat×V))(t:es.length=ms.length)(g:∀(k:Nat) (c:V×V) (m:MapEntry),es[k]?=some c->ms[k]?=some m->Ap μ H c.1 m.key/\Ap μ H c.2 m.val)(s:Bz y a es 0=some r) :
  ∃f,(Instr.findKey z x ms).run P w=.ok f w/\((r=none/\f=none)\/∃j v val,r=some (j,v)/\f=some (j,val)/\Ap μ H v val/\0<=j/\(es[j-0]?).isSome=true):=by
 rcases I9 C with B|⟨l,A,rfl,h,p,q,_⟩
 .obtain⟨D,h,i⟩:=G0 B;obtain⟨f,e,b⟩:=Rm i u es ms 0 r t g s;exact⟨f,MapKept.run_findKey h e,b⟩
 .obtain⟨f,e,b⟩:=Va h p q u w es ms 0 r t g s;refine⟨f,?_,b⟩;cases ms with
  | nil=>simpa[Instr.findKey,Sem.run_bind,run_underlying h,Instr.findNow,Instr.findAsking] using e
  | cons m ms=>
   have:Instr.findNow (.struct A) x (m::ms) 0=none:=by simp[Instr.findNow,Instr.sameNow]
   simpa[Instr.findKey,Sem.run_bind,run_underlying h,this] using e
omit hr hp in
theorem LU{cs:List V}{vals:List Value}(hc:AR μ H cs vals)(e:Bool)(n:Nat)(w:World):∀(fs:List Field) (l:List (Nat×Dd)),FQ P fs l=true->(∀p∈l,p.1<cs.length)->
  (do for f in fs do if f.name ≠ "_" then Instr.checkKey e (n + 1) f.type (← part f.type vals.toArray f.offset):Sem Unit).run P w=.ok () w
 | [],[],_,_=>by simp
 | f::fs,(o,kk)::l,hok,hb=>by
  simp only[FQ,Bool.and_eq_true,beq_iff_eq,bne_iff_ne,ne_eq] at hok
  obtain⟨⟨⟨⟨ho,hn⟩,hk⟩,hsz⟩,hr⟩:=hok
  have hlt:o<cs.length:=hb (o,kk) (by simp)
  obtain⟨vx,hpx,hrx⟩:=Hv (u:=.agg cs) hsz (LN hk) w vals f.offset hc (v:=cs[o]) (by rw[ho];simp[sub,cells])
  obtain⟨dd,hu,hdd⟩:=G0 hk
  have hck:(Instr.checkKey e (n+1) f.type vx).run P w=.ok () w:=by
   cases kk with
   | st l=>exact hdd.elim
   | str=>cases(hdd:dd=.string);unfold Instr.checkKey;simp[run_underlying hu]
   | int=>obtain⟨q,rfl⟩:=(hdd:∃k,dd=.int k);unfold Instr.checkKey;simp[run_underlying hu]
   | bool=>cases(hdd:dd=.bool);unfold Instr.checkKey;simp[run_underlying hu]
  have ih:=LU hc e n w fs l hr (fun p hp=>hb p (List.mem_cons_of_mem _ hp))
  simp only[List.forIn_cons,ne_eq,hn,not_false_eq_true,if_true,Sem.run_bind,hpx,hck,Result.andThen_ok,Sem.run_pure]
  simp_all
 | [],_::_,hok,_=>by simp[FQ] at hok
 | _::_,[],hok,_=>by simp[FQ] at hok
omit hr hp in
theorem Kh{k:Dd}{m:TypeId}(u:Nn P k m=true){a:V}{x:Value}(j:Ap μ H a x)(c:Lc k a=true)(e:Bool)(w:World):(Instr.checkKey e 10000 m x).run P w=.ok () w:=by
 rcases I9 u with b|⟨l,q,rfl,i,h,t,s⟩
 .obtain⟨y,i,g⟩:=G0 b;exact AeC i g j c e 9999
 .unfold Lc at c;split at c<;>(try (rename_i b;cases b;done))<;>(try (cases c;done))
  rename_i A cs b;cases b;obtain⟨B,rfl,f⟩:=j.isA_inv rfl;have r:∀p∈l,p.1<cs.length:=by
   intro p hp;have z:p.1∈List.range l.length:=by grind
   grind
  have:=LU f e 9998 w q.toList l h r;unfold Instr.checkKey;simp only[Sem.run_bind,run_underlying i,Result.andThen_ok];simp_all
omit hr hp in
theorem U0{j:Dd}{kt:TypeId}(X:Nn P j kt=true){a b:V}{x y:Value}(i:Ap μ H a x)(N:Ap μ H b y)(h:EY j a b=some true):y=x/\Instr.sameBits 10000 x x=true:=by
 have base:∀{j:Dd} {a b:V} {x y:Value} (n:Nat),Ap μ H a x->Ap μ H b y->Ev j a b=some true->y=x/\Instr.sameBits n x x=true:=by
  intro j a b x y n i g c;unfold Ev at c;split at c
  .rename_i p q;rw[i.s_inv.1,g.s_inv.1];simp only[Option.some.injEq,beq_iff_eq] at c;rw[c];refine⟨rfl,?_⟩;cases n<;>· simp only[Instr.sameBits];rw[NR];simp
  .rename_i k1 p k2 q;split at c
   .rename_i z;subst z;rw[i.i_inv,g.i_inv];simp only[Option.some.injEq,beq_iff_eq] at c;rw[c];exact⟨rfl,by cases n<;>simp[Instr.sameBits]⟩
   .cases c
  .rename_i p q;rw[i.b_inv,g.b_inv];simp only[Option.some.injEq,beq_iff_eq] at c;rw[c];exact⟨rfl,by cases n<;>simp[Instr.sameBits]⟩
  .cases c
 rcases I9 X with O|⟨l,fs,rfl,Y,T,W,G⟩
 .obtain⟨dd,Y,D⟩:=G0 O;rw[Ug D] at h;exact base _ i N h
 .obtain⟨I,J,rfl,rfl,la,lb,R⟩:=Rd h;obtain⟨A,rfl,e⟩:=i.isA_inv rfl;obtain⟨m,rfl,f⟩:=N.isA_inv rfl;have r:∀(l:List (Nat×Dd)),p3 I J l=some true->∀p∈l,∃u v,I[p.1]?=some u/\J[p.1]?=some v/\Ev p.2 u v=some true:=by
   intro l
   induction l with
   | nil=>grind
   | cons q l ih=>obtain⟨o,j⟩:=q;intro h p hp;simp only[p3] at h;grind
  have K:∀k,k<A.length->∃v,A[k]?=some v/\m[k]?=some v/\Instr.sameBits 9999 v v=true:=by
   intro k z;have F:k<l.length:=by have:=e.len;simp only[cells] at this;omega
   have B:(l[k]).1=k:=by have:=congrArg (λq:List Nat=>q[k]?) G;grind
   obtain⟨u,v,s,t,U⟩:=r l R (l[k]) (List.getElem_mem F);rw[B] at s t;have E:k<m.length:=by have:=f.len;simp only[cells] at this;omega
   have r1:=e.at_ k u _ s (List.getElem?_eq_getElem z);have r2:=f.at_ k v _ t (List.getElem?_eq_getElem E);obtain⟨L,c⟩:=base 9999 r1 r2 U;grind
  have M:m.length=A.length:=by have B:=e.len;have L:=f.len;simp only[cells] at B L;omega
  have C:m=A:=by apply List.ext_getElem?;grind
  subst C;refine⟨rfl,?_⟩;show((m.toArray.size==m.toArray.size)&&_)=true;simp only[beq_self_eq_true,Bool.true_and,List.all_eq_true];rintro⟨x,y⟩ S;obtain⟨k,z,Z⟩:=List.getElem_of_mem S;grind
omit hr hp in
theorem S8{k:lI}{t:TypeId}{c:Value}{x:V}{val:Value}{r:Bool}(q:Agt P k t c=true)(h:K8 k x=some r)(g:Ap μ H x val) :
  (∀w,(Op.equal t val c).run P w=.ok r w)/\(∀(f:BinOp) (x':Operand) (w:World),(eqGuard f t x' (.const c) val c).run P w=.ok () w)/\(binOp .eql t val c=do pure (.bool (<-Op.equal t val c)))/\(binOp .neq t val c=do pure (.bool (!(<-Op.equal t val c)))):=by
 have l:∀{x y:Value} {r:Bool} {w:World},(∀d,(Op.equalIn (d+1) t x y).run P w=.ok r w)->(Op.equal t x y).run P w=.ok r w:=λh=>h 9999;unfold Agt at q;split at q
 .rename_i e j;have m:∀(p:Option Addr),val=.pointer p->r=p.isNone->(∀w,(Op.equal t val (.pointer none)).run P w=.ok r w)/\(∀(f:BinOp) (x':Operand) (w:World),(eqGuard f t x' (.const (.pointer none)) val (.pointer none)).run P w=.ok () w)/\(binOp .eql t val (.pointer none)=do pure (.bool (<-Op.equal t val (.pointer none))))/\(binOp .neq t val (.pointer none)=do pure (.bool (!(<-Op.equal t val (.pointer none))))):=λp (i:val=.pointer p) (hr:r=p.isNone)=>by subst i;subst hr;refine⟨λw=>l λd=>by cases p<;>simp[Op.equalIn,run_underlying j],λf x' w=>by cases f<;>cases p<;>simp[eqGuard],rfl,rfl⟩
  cases x<;>simp only[K8] at h<;>(try (cases h;done))<;>cases h
  .obtain⟨s,_,i⟩:=g.ref_inv;exact m _ i rfl
  .obtain⟨s,_,_,_,i⟩:=g.aref_inv;exact m _ i rfl
  .obtain⟨u,_,i,_⟩:=g.ep_inv;exact m _ i rfl
  .cases g;exact m none rfl rfl
 .rename_i a b e j;cases x<;>simp only[K8] at h<;>(try (cases h;done))<;>cases h
  .cases g;exact⟨λw=>l λd=>by simp[Op.equalIn,run_underlying j],λf x' w=>by cases f<;>simp[eqGuard],rfl,rfl⟩
  .cases g;exact⟨λw=>l λd=>by simp[Op.equalIn,run_underlying j],λf x' w=>by cases f<;>simp[eqGuard],rfl,rfl⟩
 .rename_i a j;cases x<;>simp only[K8] at h<;>(try (cases h;done))<;>cases h
  .cases g;exact⟨λw=>l λd=>by simp[Op.equalIn,run_underlying j],λf x' w=>by cases f<;>simp[eqGuard],rfl,rfl⟩
  .cases g;exact⟨λw=>l λd=>by simp[Op.equalIn,run_underlying j],λf x' w=>by cases f<;>simp[eqGuard],rfl,rfl⟩
 .cases q
omit hr hp in
theorem Pb{x:V}{val:Value}{r:Bool}(h:K8 .p x=some r)(b:Ap μ H x val):∃p:Option Addr,val=.pointer p/\r=p.isNone:=by
 cases x<;>simp only[K8] at h<;>(try (cases h;done))<;>cases h
 .obtain⟨e,_,c⟩:=b.ref_inv;grind
 .obtain⟨e,_,_,_,c⟩:=b.aref_inv;grind
 .obtain⟨f,_,c,_⟩:=b.ep_inv;grind
 .cases b;grind
omit hr hp in
theorem qE{t e:TypeId}{m:Nat}(c:P.underlying t=some (.pointer e))(D:Cs P e=some (m+1)){x y:V}{s u:Value}{r:Bool}(h:Ady x y=some r)(f:Ap μ H x s)(g:Ap μ H y u) :
  ∃p q:Option Addr,s=.pointer p/\u=.pointer q/\∀w,(Op.equal t (.pointer p) (.pointer q)).run P w=.ok r w:=by
 have i:∀{x y:Value} {r:Bool} {w:World},(∀d,(Op.equalIn (d+1) t x y).run P w=.ok r w)->(Op.equal t x y).run P w=.ok r w:=λh=>h 9999;unfold Ady at h;split at h
 .obtain⟨q,rfl,rfl⟩:=Pb h g;cases f;exact⟨none,q,rfl,rfl,λw=>i λd=>by cases q<;>simp[Op.equalIn,run_underlying c]⟩
 .obtain⟨q,rfl,rfl⟩:=Pb h f;cases g;exact⟨q,none,rfl,rfl,λw=>i λd=>by cases q<;>simp[Op.equalIn,run_underlying c]⟩
 .rename_i id o E l;split at h
  .rename_i b;subst b;cases h;obtain⟨F,C,A⟩:=f.ref_inv;obtain⟨z,j,B⟩:=g.ref_inv;rw[C] at j;cases j;refine⟨_,_,A,B,λw=>i λd=>?_⟩;simp only[Op.equalIn,Sem.run_bind,run_underlying c,Result.andThen_ok,Co D,sameAddr];by_cases k:o=l
   .subst k;simp
   .have:(o==l)=false:=by simp[k]
    simp[*]
  .cases h
 .cases h
omit hr in
theorem NN{id:Id}{b:AX}(j:lk σ id=some b)(i:Pl b=true){e:Nat}(k:μ id=some (.pointer (some ⟨e,0,none⟩))):∃vals t,w.heap[e]?=some (.cells vals t (0,0)):=by
 have h:=hp.ents id b j;cases b with
 | box v=>obtain⟨c,vals,t,f,_,g,_⟩:=h;grind
 | tbox t v=>obtain⟨c,vals,f,_,g,_⟩:=h;grind
 | _=>cases i
omit hr in
theorem mH{t e:TypeId}{m:Nat}(j:P.underlying t=some (.pointer e))(F:Cs P e=some (m+1)){x y:V}{J K:Value}{r:Bool}(h:Ny σ x y=some r)(z:Ap μ H x J)(A:Ap μ H y K) :
  ∃p q:Option Addr,J=.pointer p/\K=.pointer q/\(Op.equal t (.pointer p) (.pointer q)).run P w=.ok r w:=by
 have k:∀{x y:Value} {r:Bool} {w:World},(∀d,(Op.equalIn (d+1) t x y).run P w=.ok r w)->(Op.equal t x y).run P w=.ok r w:=λh=>h 9999;unfold Ny at h;split at h
 .obtain⟨q,rfl,rfl⟩:=Pb h A;cases z;exact⟨none,q,rfl,rfl,k λd=>by cases q<;>simp[Op.equalIn,run_underlying j]⟩
 .obtain⟨q,rfl,rfl⟩:=Pb h z;cases A;exact⟨q,none,rfl,rfl,k λd=>by cases q<;>simp[Op.equalIn,run_underlying j]⟩
 .rename_i id o B C;obtain⟨l,u,D⟩:=z.ref_inv;obtain⟨g,i,E⟩:=A.ref_inv;split at h
  .rename_i f;subst f;cases h;rw[u] at i;cases i;refine⟨_,_,D,E,k λd=>?_⟩;simp only[Op.equalIn,Sem.run_bind,run_underlying j,Result.andThen_ok,Co F,sameAddr];by_cases G:o=C
   .subst G;simp
   .have:(o==C)=false:=by simp[G]
    simp[*]
  .rename_i f;obtain⟨N,l1,h⟩:=Option.bind_eq_some_iff.1 h;obtain⟨s,I,h⟩:=Option.bind_eq_some_iff.1 h;split at h
   .rename_i c;cases h;simp only[Bool.and_eq_true] at c;have O:l≠g:=by rintro rfl;exact f (hp.sep id N B s l l1 I (by rw[u];rfl) (by rw[i];rfl))
    obtain⟨T,S,L⟩:=NN hp l1 c.1 u;obtain⟨v2,t2,M⟩:=NN hp I c.2 i;refine⟨_,_,D,E,k λd=>?_⟩;simp only[Op.equalIn,Sem.run_bind,run_underlying j,Result.andThen_ok,Co F];have R:=run_sameAddr_other (P:=P) w (a:=⟨l,o,none⟩) (b:=⟨g,C,none⟩) (by simp[O]) L M;simp[R]
   .cases h
 .cases h
theorem Apb{g:Bool}{x y:X}(c:He P (.eqp g) o.op [x,y]=true)(D:(Ny σ (ev (get env) x) (ev (get env) y)).map (qK g)=some v):AH P W0 ep o d σ n μ H a w v σ:=by
 simp only[He] at c;split at c
 .rename_i J t x' A M z;simp only[Bool.and_eq_true,beq_iff_eq] at c;obtain⟨⟨h,f⟩,s⟩:=c;split at f
  .rename_i L F;split at f
   .rename_i m E;simp only[A8,Bool.and_eq_true] at s;have G:=Am hr s.1;have I:=Am hr (x:=A) (y:=y) (by grind);obtain⟨r,i,rfl⟩:=Option.map_eq_some_iff.1 D;obtain⟨p,q,k,l,e⟩:=mH hp F E i G I;refine λnext Q K=>Bk (val:=.bool (if g then !r else r)) ?_ (K _ _ _ _ _ (Gz.same hp (.b _)))
    subst h;have u:∀(j:BinOp),(eqGuard j t x' A (.pointer p) (.pointer q)).run P w=.ok () w:=λj=>by cases j<;>cases p<;>cases q<;>simp[eqGuard]
    have B:binOp .eql t (.pointer p) (.pointer q)=(do pure (.bool (<-Op.equal t (.pointer p) (.pointer q)))):=rfl;have C:binOp .neq t (.pointer p) (.pointer q)=(do pure (.bool (!(<-Op.equal t (.pointer p) (.pointer q))))):=rfl;cases g
    .simp only[execOp,z,k,l,Sem.run_bind,u,Result.andThen_ok];simp[B,e]
    .simp only[execOp,z,k,l,Sem.run_bind,u,Result.andThen_ok];simp[C,e]
   .cases f
  .cases f
 .cases c
theorem ArT{k:BW}{xs:List X}(hok:He P k o.op xs=true)(he:Hf k (xs.map (ev (get env)))=some v):AH P W0 ep o d σ n μ H a w v σ:=by
 cases k with
 | bit op=>
  simp only[He] at hok
  split at hok
  .rename_i op' t x' y' ty ho
   simp only[Bool.and_eq_true,beq_iff_eq] at hok
   obtain⟨rfl,h3⟩:=hok
   match xs,h3,he with
   | [x,y],h3,he=>
    simp only[A8,Bool.and_eq_true] at h3
    have hx:=Am hr h3.1
    have hy:=Am hr (x:=y') (y:=y) (by grind)
    simp only[List.map_cons,List.map_nil] at he
    generalize ev (get env) x=vx at *
    generalize ev (get env) y=vy at *
    unfold Hf at he
    split at he<;>(try (rename_i h1 _;cases h1;done))<;>(try (cases he;done))<;>(try (rename_i h1;cases h1;done))
    rename_i op'' k p k' q h1 h2
    cases h1
    cases h2
    split at he
    .rename_i hk
     subst hk
     have ex:=hx.i_inv
     have ey:=hy.i_inv
     unfold jX at he
     split at he<;>(try (cases he;done))
     all_goals
      cases he
      exact AH.same (fun w=>by simp[execOp,ho,ex,ey,eqGuard_at_int,binOp,Op.intBits]) hp (.i _ _)
    .cases he
   | [],h3,_=>simp[A8] at h3
   | [_],h3,_=>simp[A8] at h3
   | _::_::_::_,h3,_=>simp[A8] at h3
  .cases hok
 | shf op=>
  simp only[He] at hok
  split at hok
  .rename_i op' t x' y' ty ho
   simp only[Bool.and_eq_true,beq_iff_eq] at hok
   obtain⟨rfl,h3⟩:=hok
   match xs,h3,he with
   | [x,y],h3,he=>
    simp only[A8,Bool.and_eq_true] at h3
    have hx:=Am hr h3.1
    have hy:=Am hr (x:=y') (y:=y) (by grind)
    simp only[List.map_cons,List.map_nil] at he
    generalize ev (get env) x=vx at *
    generalize ev (get env) y=vy at *
    unfold Hf at he
    split at he<;>(try (rename_i h1 _;cases h1;done))<;>(try (cases he;done))<;>(try (rename_i h1;cases h1;done))
    rename_i op'' k p k' q h1 h2
    cases h1
    cases h2
    split at he
    .rename_i hq
     have ex:=hx.i_inv
     have ey:=hy.i_inv
     have hq':¬q<0:=by omega
     unfold AdF at he
     split at he<;>(try (cases he;done))
     all_goals
      cases he
      exact AH.same (fun w=>by simp[execOp,ho,ex,ey,eqGuard_at_int,binOp,Op.shift,hq']) hp (.i _ _)
    .cases he
   | [],h3,_=>simp[A8] at h3
   | [_],h3,_=>simp[A8] at h3
   | _::_::_::_,h3,_=>simp[A8] at h3
  .cases hok
 | aget m sz ag=>
  simp only[He] at hok
  split at hok
  .rename_i t x' i' ho
   simp only[Bool.and_eq_true] at hok
   obtain⟨ht,h3⟩:=hok
   split at ht
   .rename_i m' e hu
    simp only[Bool.and_eq_true,beq_iff_eq] at ht
    obtain⟨⟨rfl,hsz⟩,hag⟩:=ht
    match xs,h3,he with
    | [x,y],h3,he=>
     simp only[A8,Bool.and_eq_true] at h3
     have hx:=Am hr h3.1
     have hy:=Am hr (x:=i') (y:=y) (by grind)
     simp only[List.map_cons,List.map_nil] at he
     generalize ev (get env) x=vx at *
     generalize ev (get env) y=vy at *
     unfold Hf at he
     split at he<;>(try (rename_i h1 _;cases h1;done))<;>(try (cases he;done))<;>(try (rename_i h1;cases h1;done))
     rename_i m2 sz2 ag2 cs k i h1 h2
     cases h1
     cases h2
     split at he
     .rename_i hi
      have ei:=hy.i_inv
      obtain⟨vals,e1,hc⟩:=hx.isA_inv rfl
      obtain⟨val,hrun,hrel⟩:=Hv hsz hag w vals _ hc he
      intro next Q K
      refine Bk (w':=w) (val:=val) ?_ (K _ _ _ _ _ (Gz.same hp hrel))
      simp[execOp,ho,e1,ei,Instr.index,asIntOf,run_underlying hu,hi,Co hsz,hrun]
     .cases he
    | [],h3,_=>simp[A8] at h3
    | [_],h3,_=>simp[A8] at h3
    | _::_::_::_,h3,_=>simp[A8] at h3
   .cases ht
  .cases hok
 | eqs ne l=>
  simp only[He] at hok
  split at hok
  .rename_i op' t x' y' ty ho
   simp only[Bool.and_eq_true,beq_iff_eq,Bool.not_eq_true'] at hok
   obtain⟨⟨⟨⟨hop,ht⟩,hst⟩,hgd⟩,h3⟩:=hok
   split at ht
   .rename_i fs hu
    match xs,h3,he with
    | [x,y],h3,he=>
     simp only[A8,Bool.and_eq_true] at h3
     have hx:=Am hr h3.1
     have hy:=Am hr (x:=y') (y:=y) (by grind)
     simp only[List.map_cons,List.map_nil] at he
     generalize ev (get env) x=vx at *
     generalize ev (get env) y=vy at *
     unfold Hf at he
     split at he<;>(try (rename_i h1 _;cases h1;done))<;>(try (cases he;done))<;>(try (rename_i h1;cases h1;done))
     rename_i ne2 l2 ca cb h1 h2
     cases h1
     cases h2
     obtain⟨r,hr0,rfl⟩:=Option.map_eq_some_iff.1 he
     obtain⟨va,e1,hca⟩:=hx.isA_inv rfl
     obtain⟨vb,e2,hcb⟩:=hy.isA_inv rfl
     have hf:P.fieldsOf t=fs:=by simp[Program.fieldsOf,hu]
     have heq:∀w,(Op.equalIn 10000 t (.agg va.toArray) (.agg vb.toArray)).run P w=.ok r w:=fun w=>by
      rw[run_equalIn_struct w 9999 t _ _ (by rw[hf];exact hu) hst,hf]
      exact OO hca hcb 9998 w _ _ _ ht hr0
     subst hop
     refine AH.same (val:=.bool (if ne then !r else r)) (fun w=>?_) hp (.b _)
     cases ne
     .simp[execOp,ho,e1,e2,run_eqGuard_agg w _ t x' y' _ _ hgd,run_eql_struct,heq]
     .simp[execOp,ho,e1,e2,run_eqGuard_agg w _ t x' y' _ _ hgd,run_neq_struct,heq]
    | [],h3,_=>simp[A8] at h3
    | [_],h3,_=>simp[A8] at h3
    | _::_::_::_,h3,_=>simp[A8] at h3
   .cases ht
  .cases hok
 | nilq k ne=>
  simp only[He] at hok
  split at hok
  .rename_i op' t x' c ty ho
   simp only[Bool.and_eq_true,beq_iff_eq] at hok
   obtain⟨⟨hop,ht⟩,h3⟩:=hok
   match xs,h3,he with
   | [x],h3,he=>
    have hx:=Am hr (x:=x') (y:=x) (by simpa[A8] using h3)
    simp only[List.map_cons,List.map_nil,Hf] at he
    obtain⟨r,hr0,rfl⟩:=Option.map_eq_some_iff.1 he
    obtain⟨h1,h2,h4,h5⟩:=S8 ht hr0 hx
    have ec:a.eval (.const c)=c:=rfl
    refine AH.same (val:=.bool (if ne then !r else r)) (fun w=>?_) hp (.b _)
    subst hop
    cases ne
    .simp only[execOp,ho,ec,Sem.run_bind,h2,Result.andThen_ok]
     simp[h4,h1]
    .simp only[execOp,ho,ec,Sem.run_bind,h2,Result.andThen_ok]
     simp[h5,h1]
   | [],h3,_=>simp[A8] at h3
   | _::_::_,h3,_=>simp[A8] at h3
  .cases hok
 | eqp ne=>
  simp only[He] at hok
  split at hok
  .rename_i op' t x' y' ty ho
   simp only[Bool.and_eq_true,beq_iff_eq] at hok
   obtain⟨⟨hop,ht⟩,h3⟩:=hok
   split at ht
   .rename_i el hu
    split at ht
    .rename_i m hm
     match xs,h3,he with
     | [x,y],h3,he=>
      simp only[A8,Bool.and_eq_true] at h3
      have hx:=Am hr h3.1
      have hy:=Am hr (x:=y') (y:=y) (by grind)
      simp only[List.map_cons,List.map_nil,Hf] at he
      obtain⟨r,hr0,rfl⟩:=Option.map_eq_some_iff.1 he
      obtain⟨p,q,e1,e2,heq⟩:=qE hu hm hr0 hx hy
      refine AH.same (val:=.bool (if ne then !r else r)) (fun w=>?_) hp (.b _)
      subst hop
      have hg:∀(op:BinOp),(eqGuard op t x' y' (.pointer p) (.pointer q)).run P w=.ok () w:=fun op=>by cases op<;>cases p<;>cases q<;>simp[eqGuard]
      have b1:binOp .eql t (.pointer p) (.pointer q)=(do pure (.bool (<-Op.equal t (.pointer p) (.pointer q)))):=rfl
      have b2:binOp .neq t (.pointer p) (.pointer q)=(do pure (.bool (!(<-Op.equal t (.pointer p) (.pointer q))))):=rfl
      cases ne
      .simp only[execOp,ho,e1,e2,Sem.run_bind,hg,Result.andThen_ok]
       simp[b1,heq]
      .simp only[execOp,ho,e1,e2,Sem.run_bind,hg,Result.andThen_ok]
       simp[b2,heq]
     | [],h3,_=>simp[A8] at h3
     | [_],h3,_=>simp[A8] at h3
     | _::_::_::_,h3,_=>simp[A8] at h3
    .cases ht
   .cases ht
  .cases hok
 | stuck=>cases he
 | com=>
  simp only[He] at hok
  split at hok
  .rename_i t x' ho
   match xs,hok,he with
   | [x],h3,he=>
    have hx:=Am hr (x:=x') (y:=x) (by simpa[A8] using h3)
    simp only[List.map_cons,List.map_nil] at he
    generalize ev (get env) x=vx at *
    unfold Hf at he
    split at he<;>(try (rename_i h1 _;cases h1;done))<;>(try (cases he;done))<;>(try (rename_i h1;cases h1;done))
    rename_i k p h1
    cases h1
    have ex:=hx.i_inv
    simp only[jX,Option.some.injEq] at he
    subst he
    exact AH.same (fun w=>by simp[execOp,ho,ex,Op.unary,Op.intBits]) hp (.i _ _)
   | [],h3,_=>simp[A8] at h3
   | _::_::_,h3,_=>simp[A8] at h3
  .cases hok
 | isnil ne=>
  simp only[He] at hok
  split at hok
  .rename_i op' t x' ty ho
   simp only[Bool.and_eq_true,beq_iff_eq] at hok
   obtain⟨⟨rfl,h2⟩,h3⟩:=hok
   match xs,h3,he with
   | [x],h3,he=>
    have hx:=Am hr (x:=x') (y:=x) (by simpa[A8] using h3)
    simp only[List.map_cons,List.map_nil] at he
    obtain⟨e,ht⟩:=Option.isSome_iff_exists.1 h2
    have hu:=BM ht
    generalize ev (get env) x=vx at *
    have fin:∀(A:Option Addr) (l c:Nat),a.eval x'=.slice A l c->Ap μ H v (.bool (if ne then A.isSome else A.isNone))->AH P W0 ep o d σ n μ H a w v σ:=by
     intro A l c e1 hv
     refine AH.same (fun w=>?_) hp hv
     have hc:a.eval (.const (.slice none 0 0))=.slice none 0 0:=rfl
     have heq:∀w,(Op.equal t (.slice A l c) (.slice none 0 0)).run P w=.ok A.isNone w:=fun w=>run_equal_slice_nil w t e A l c hu
     cases ne
     .simp[execOp,ho,e1,hc,Gb,binOp,heq]
     .simp[execOp,ho,e1,hc,Gb,binOp,heq]
    cases vx with
    | nil=>
     simp only[Hf,Option.some.injEq] at he
     subst he
     refine fin none 0 0 hx.nil_inv ?_
     cases ne<;>exact .b _
    | sl es=>
     obtain⟨A,cap,e1,hc,hl,hcase⟩:=hx.sl_inv
     cases es with
     | nil=>
      simp only[Hf,Option.some.injEq] at he
      subst he
      exact fin _ _ _ e1 (.ub _)
     | cons y ys=>
      simp only[Hf,Option.some.injEq] at he
      subst he
      rcases hcase with h0|⟨ad,sz,vals,rfl,_⟩
      .cases h0
      .refine fin _ _ _ e1 ?_
       cases ne<;>exact .b _
    | _=>simp[Hf] at he
   | [],h3,_=>simp[A8] at h3
   | _::_::_,h3,_=>simp[A8] at h3
  .cases hok
 | itos=>
  simp only[He] at hok
  split at hok
  .rename_i src dst x' ho
   simp only[Bool.and_eq_true] at hok
   obtain⟨⟨h1,h2⟩,h3⟩:=hok
   match xs,h3,he with
   | [x],h3,he=>
    have hx:=Am hr (x:=x') (y:=x) (by simpa[A8] using h3)
    simp only[List.map_cons,List.map_nil] at he
    generalize ev (get env) x=vx at *
    cases vx with
    | i k m=>
     simp only[Hf,Option.some.injEq] at he
     subst he
     obtain⟨k0,hk0⟩:=Option.isSome_iff_exists.1 h1
     have e1:=hx.i_inv
     refine AH.same (val:=.string (Utf8.encode m)) (fun w=>?_) hp ?_
     .simp[execOp,ho,e1,convert,run_underlying (HW hk0),run_underlying (Cf h2),Conv.intToString]
     .have hlen:(Utf8.encode m).data.toList.length<=AO:=by
       have:(Utf8.encode m).data.toList.length<=4:=by
        unfold Utf8.encode
        grind
       unfold AO
       omega
      have:=Ap.s (μ:=μ) (H:=H) (Utf8.encode m).data.toList hlen
      simpa using this
    | _=>simp[Hf] at he
   | [],h3,_=>simp[A8] at h3
   | _::_::_,h3,_=>simp[A8] at h3
  .cases hok
 | btos=>
  simp only[He] at hok
  split at hok
  .rename_i src dst x' ho
   simp only[Bool.and_eq_true,beq_iff_eq,Option.bind_eq_some_iff] at hok
   obtain⟨⟨⟨e,h1,h1'⟩,h2⟩,h3⟩:=hok
   match xs,h3,he with
   | [x],h3,he=>
    have hx:=Am hr (x:=x') (y:=x) (by simpa[A8] using h3)
    simp only[List.map_cons,List.map_nil] at he
    generalize ev (get env) x=vx at *
    have fin:∀(A:Option Addr) (l c:Nat) (s:List UInt8),a.eval x'=.slice A l c->s.length<=AO->v=.s s->(∀w',w'=w->(Conv.bytesToString (.slice A l c)).run P w'=.ok (.string ⟨s.toArray⟩) w')->AH P W0 ep o d σ n μ H a w v σ:=by
     intro A l c s e1 hl hv hrun next Q K
     subst hv
     refine Bk (w':=w) (val:=.string ⟨s.toArray⟩) ?_ (K _ _ _ _ _ (Gz.same hp (.s _ hl)))
     simp only[execOp,ho,e1,Sem.run_bind,run_convert_bytes_string w src dst e A l c (BM h1) (HW h1') (Cf h2),hrun w rfl,Result.andThen_ok,Sem.run_pure]
    cases vx with
    | nil=>
     simp only[Hf,Option.some.injEq] at he
     refine fin none 0 0 [] hx.nil_inv (by simp) he.symm (fun w' _=>?_)
     simp[Conv.bytesToString]
     rfl
    | sl es=>
     simp only[Hf,Option.map_eq_some_iff] at he
     obtain⟨l,hb,rfl⟩:=he
     obtain⟨ns,rfl,rfl⟩:=Hm hb
     obtain⟨A,cap,e1,hc,hl,hcase⟩:=hx.sl_inv
     rw[List.length_map] at hl e1
     refine fin A _ cap _ e1 (by simp only[List.length_map,Bf,AO] at *;omega) rfl (fun w' hw'=>?_)
     subst hw'
     rcases hcase with h0|⟨ad,sz,vals,rfl,hsz,hrel,hpin⟩
     .have:ns=[]:=by simpa using h0
      subst this
      cases A<;>simp[Conv.bytesToString,loadCells,loadCellsFrom]<;>rfl
     .have hfl:AN (ns.map (V.i .u8))=ns.map (V.i .u8):=by
       clear hrel hpin hsz hb e1 hc hl fin hx he
       induction ns with
       | nil=>rfl
       | cons m ns ih=>simpa[AN,cells] using ih
      rw[hfl] at hrel
      have hv:vals=ns.map (Value.int .u8):=by
       apply List.ext_getElem?
       intro k
       by_cases hk:k<ns.length
       .have h1:(ns.map (V.i .u8))[k]?=some (.i .u8 ns[k]):=by simp 
        obtain⟨x,hx1,hx2⟩:=hrel.get h1
        rw[hx1,hx2.i_inv]
        simp[hk]
       .have hl2:=hrel.len
        grind
      have hload:(loadCells ad ns.length).run P w'=.ok (ns.map (Value.int .u8)).toArray w':=by
       have:=run_loadCells_list (P:=P) (w:=w') ad vals (fun k v hk=>hp.pins _ _ (hpin k v hk))
       grind
      rw[run_bytesToString w' ad ns.length cap ns hload]
      have hfold:∀(ns:List Int) (s:ByteArray),ns.foldl (fun r n=>r.push (UInt8.ofNat n.toNat)) s=⟨s.data++(ns.map fun n=>UInt8.ofNat n.toNat).toArray⟩:=by
       intro ns
       induction ns with
       | nil=>intro s;simp
       | cons m ns ih=>
        simp[*]
      simp[*]
    | _=>simp[Hf] at he
   | [],h3,_=>simp[A8] at h3
   | _::_::_,h3,_=>simp[A8] at h3
  .cases hok
 | aidx n sz=>
  simp only[He] at hok
  split at hok
  .rename_i t x' i' ho
   simp only[Bool.and_eq_true] at hok
   obtain⟨h1,h3⟩:=hok
   split at h1
   .rename_i n' e hu
    simp only[Bool.and_eq_true,beq_iff_eq] at h1
    obtain⟨rfl,hsz⟩:=h1
    match xs,h3,he with
    | [x,i],h3,he=>
     simp only[A8,Bool.and_eq_true,and_true] at h3
     have hx:=Am hr (x:=x') (y:=x) h3.1
     have hi:=Am hr (x:=i') (y:=i) h3.2
     simp only[List.map_cons,List.map_nil] at he
     generalize ev (get env) x=vx at *
     generalize ev (get env) i=vi at *
     cases vx with
     | ref id off=>
      cases vi with
      | i k m=>
       simp only[Hf] at he
       split at he
       .rename_i hm
        simp only[Option.some.injEq] at he
        subst he
        obtain⟨bk,hb,ex⟩:=hx.ref_inv
        have ei:=hi.i_inv
        have hel:P.elem t=e:=by simp[Program.elem,hu]
        have hal:P.arrayLen t=n':=by simp[Program.arrayLen,hu]
        refine AH.same (val:=.pointer (some ⟨bk,off+m.toNat*sz,none⟩)) (fun w=>?_) hp (.ref _ _ _ hb)
        simp only[execOp,ho,ex,ei,Sem.run_bind]
        rw[run_indexAt_array (h:=by grind),hal,if_pos hm,hel,Co hsz]
        simp[Addr.add_lit]
       .cases he
      | _=>simp[Hf] at he
     | _=>simp[Hf] at he
    | [],h3,_=>simp[A8] at h3
    | [_],h3,_=>simp[A8] at h3
    | _::_::_::_,h3,_=>simp[A8] at h3
   .cases h1
  .cases hok
theorem Ah1{k:lB}{m:X}{xs:List X}{id:Id}{e:AX}(f:iP P k o.op m xs=true)(hm:ev (get env) m=.arr id)(hl:lk σ id=some e)(A:fF k e (xs.map (ev (get env)))=some v):AH P W0 ep o d σ n μ H a w v σ:=by
 have B:=hp.ents _ _ hl;cases k with
 | mget kk z ok=>
  simp only[iP] at f;split at f
  .rename_i t m' k' J ho;simp only[Bool.and_eq_true,beq_iff_eq] at f;obtain⟨⟨⟨D,rfl⟩,h3⟩,E⟩:=f;split at D
   .rename_i kt L G;simp only[Bool.and_eq_true] at D;obtain⟨N,hz⟩:=D
    match xs,E,A with
    | [x],E,A=>
     have Z:=Am hr (x:=k') (y:=x) (by simpa[A8] using E);have q:=Am hr h3;rw[hm] at q;simp only[List.map_cons,List.map_nil] at A;cases e with
     | map es=>
      simp only[fF,Option.map_eq_some_iff] at A;obtain⟨r,hf,rfl⟩:=A;obtain⟨Y,s,C,ag,hB,hh,l⟩:=B;have e1:a.eval m'=.map (some Y):=by have:=(q.arr_inv).1;grind
      obtain⟨i,zv,hi,aj,R⟩:=DQ hz;have W:=(HJ (μ:=μ) (H:=H) R).1;obtain⟨r',ad,F⟩:=M3 N Z w es s.toList r l.len l.at_ hf;have ac:=Kh N Z (Iz hf) s.isEmpty w;have run:∀val,((match r' with|some (_,v)=>pure (v,true)|none=>do pure (<-zeroValue L,false):Sem (Value×Bool)) >>= λp=>(pure (if J then .tuple #[p.1,.bool p.2] else p.1):Sem Value)).run P w=.ok val w->
        (execOp a.eval o).run P w=.ok (.value val) w:=by
       intro val hv;simp only[execOp,ho,e1,Instr.lookup,Sem.run_bind,run_underlying (E0 G),Result.andThen_ok,MapKept.run_getObj_map hh,Sem.run_pure,ac,ad];simp only[Sem.run_bind] at hv;cases r' with
       | none=>
        simp only[Sem.run_bind,Sem.run_pure] at hv⊢;cases I:(zeroValue L).run P w with
        | ok x y=>simp_all
        | halt h y=>simp_all
       | some p=>simp_all
      have two:∀{u:V} {val:Value} (t:Bool),Ap μ H u val->Ap μ H (.tup [u,.b t]) (.tuple #[val,.bool t]):=by intro u val t h;have U:VRels μ H [u,.b t] [val,.bool t]:=VRels.cons h (VRels.cons (.b t) VRels.nil_);exact .tup _ _ U.len U.at_
      rcases F with⟨rfl,rfl⟩|⟨j,u,val,rfl,rfl,hval,_,_⟩
      .have I:(zeroValue L).run P w=.ok zv w:=by simp[zeroValue,typeInfo,hi,aj]
       intro next Q K
       cases J with
       | true=>exact Bk (run (.tuple #[zv,.bool false]) (by simp[I])) (K _ _ _ _ _ (Gz.same hp (two false W)))
       | false=>exact Bk (run zv (by simp[I])) (K _ _ _ _ _ (Gz.same hp W))
      .intro next Q K
       cases J with
       | true=>exact Bk (run (.tuple #[val,.bool true]) (by simp)) (K _ _ _ _ _ (Gz.same hp (two true hval)))
       | false=>exact Bk (run val (by simp)) (K _ _ _ _ _ (Gz.same hp hval))
     | _=>simp[fF] at A
    | [],E,_=>simp[A8] at E
    | _::_::_,E,_=>simp[A8] at E
   .simp at D
  .cases f
 | mlen=>
  simp only[iP] at f;split at f
  .rename_i c ho;split at f
   .rename_i M;simp only[Bool.and_eq_true,beq_iff_eq,List.isEmpty_iff] at f;obtain⟨⟨⟨D,h2⟩,h3⟩,rfl⟩:=f;obtain⟨x',g,Z⟩:=LP h3;have g:=DD g;have q:=Am hr Z;rw[hm] at q;cases e with
    | map es=>
     simp only[List.map_nil,fF,Option.some.injEq] at A;subst A;obtain⟨Y,s,C,ag,hB,hh,l⟩:=B;have e1:a.eval x'=.map (some Y):=by have:=(q.arr_inv).1;grind
     obtain⟨T,hT⟩:=PC c.argTypes h2;rw[hT] at D;obtain⟨⟨kt,L⟩,G⟩:=Option.isSome_iff_exists.1 D;have hu:=E0 G;obtain⟨cs,S⟩:=Ci (P:=P) ho M a.eval w;have O:es.length=s.size:=by simpa using l.len
     intro next Q K
     refine Bk (w':=w) (val:=.int .i64 es.length) ?_ (K _ _ _ _ _ (Gz.same hp (.i _ _)));have ai:P.underlying T=some (.map kt L):=hu;have hl:(Builtin.len_ #[T] o.type #[.map (some Y)]).run P w=.ok (goInt s.size) w:=by simp[Builtin.len_,run_underlying ai,MapKept.run_getObj_map hh]
     rw[S,g,hT];simp only[builtin,List.map_toArray,List.map_cons,List.map_nil,e1,Sem.run_bind,hl,Result.andThen_ok,Sem.run_pure,goInt,O]
    | _=>simp[fF] at A
   .cases f
  .cases f
theorem AkV{k:Xf}{m:X}{xs:List X}{id:Id}{e e':AX}(s:SK P k o.op m xs=true)(ba:o.dst=d)(bh:AhV k=true->d=none)(hm:ev (get env) m=.arr id)(hl:lk σ id=some e)
  (N:OR k e (xs.map (ev (get env)))=some (e',v)):AH P W0 ep o d σ n μ H a w v (upd σ id e'):=by
 have ap:=hp.ents _ _ hl;cases k with
 | mput kk=>
  have aH:∀(t:TypeId) (m' L v':Operand),(execOp a.eval o=do Instr.mapUpdate t (a.eval m') (a.eval L) (a.eval v');pure .skip)->(match Np P t with|some (kt,et)=>Nn P kk kt|none=>false)=true->BP m' m=true->A8 [L,v'] xs=true->AH P W0 ep o d σ n μ H a w v (upd σ id e'):=by
   intro t m' L v' aZ M h2 E;split at M
   .rename_i kt et ay;obtain⟨x,y,aB,ax,aN⟩:∃x y,xs=[x,y]/\BP L x=true/\BP v' y=true:=by
     match xs,E with
     | [x,y],E=>simp only[A8,Bool.and_eq_true] at E;exact⟨x,y,rfl,E.1,E.2.1⟩
     | [],E=>simp[A8] at E
     | [_],E=>simp[A8] at E
     | _::_::_::_,E=>simp[A8] at E
    subst aB;have hx:=Am hr ax;have hy:=Am hr aN;have U:=Am hr h2;rw[hm] at U;simp only[List.map_cons,List.map_nil] at N;cases e with
    | map es=>
     simp only[OR,Option.map_eq_some_iff] at N;obtain⟨r,hf,D⟩:=N;obtain⟨R,p,B,I,hB,W,g⟩:=ap;have e1:a.eval m'=.map (some R):=by have:=(U.arr_inv).1;rw[I] at this;exact(Option.some.inj this).symm
     have aj:=M;obtain⟨r',av,ah⟩:=M3 aj hx w es p.toList r g.len g.at_ hf;have au:=Kh aj hx (Iz hf) false w;have aA:Ap μ H (.tup []) undef:=.tup [] [] rfl (λk c v F=>by simp at F);have ar:∀(ob:Obj) (J:Array MapEntry) (A:Nat) (es':List (V×V)),ob=.map J A->VK μ H es' J.toList A->e'=.map es'->v=.tup []->(Instr.mapUpdate t (a.eval m') (a.eval L) (a.eval v')).run P w=.ok () { w with heap:=w.heap.setIfInBounds R ob }->AH P W0 ep o d σ n μ H a w v (upd σ id e'):=by
      intro ob J A es' aM ak aJ hv az next Q K
      subst aJ;subst hv;have C:=hp.set_ (e:=.map es') hl ((AY.setObj w R ob).to (λk F=>by subst F;simp[I,C2])) ⟨R,J,A,I,hB,by have:R<w.heap.size:=(Array.getElem?_eq_some_iff.1 W).1;simp[this,aM],ak⟩;refine Pk ?_ (K _ _ _ _ _ ⟨aA,C.1,Nat.le_refl _,C.2,λ_ _ _ h=>h⟩);rw[aZ];simp only[Sem.run_bind,az,Result.andThen_ok,Sem.run_pure]
     rcases ah with⟨rfl,rfl⟩|⟨j,u,val,rfl,rfl,hval,_,hj⟩
     .simp only[Prod.mk.injEq] at D;refine ar (.map (p.push { key:=a.eval L,val:=a.eval v',born:=B }) (B+1)) _ _ (es++[(ev (get env) x,ev (get env) y)]) rfl ⟨by simp[g.len],λk c mm G f=>?_,?_,?_⟩ D.1.symm D.2.symm ?_
      .simp only[Array.toList_push] at f;have Y:=g.len;by_cases F:k<es.length
       .rw[List.getElem?_append_left F] at G;rw[List.getElem?_append_left (by rw[<-Y];exact F)] at f;exact g.at_ k c mm G f
       .rw[List.getElem?_append_right (by omega)] at G;rw[List.getElem?_append_right (by omega),<-Y] at f;cases S:k-es.length with
        | zero=>rw[S] at G f;simp at G f;subst G;subst f;exact⟨hx,hy⟩
        | succ q=>rw[S] at G;simp at G
      .intro k mm f;simp only[Array.toList_push] at f;by_cases F:k<p.toList.length
       .rw[List.getElem?_append_left F] at f;exact g.born k mm f
       .rw[List.getElem?_append_right (by omega)] at f;cases S:k-p.toList.length with
        | zero=>rw[S] at f;simp only[List.getElem?_cons_zero,Option.some.injEq] at f;subst f;have:=g.now;simp only;omega
        | succ q=>rw[S] at f;simp at f
      .have:=g.now;simp only[Array.toList_push,List.length_append,List.length_cons,List.length_nil];omega
      .simp only[Instr.mapUpdate,Sem.run_bind,run_underlying (E0 ay),Result.andThen_ok,e1,MapKept.run_getObj_map W,au,av,MapKept.run_setObj_map _ W]
     .simp only[Prod.mk.injEq] at D;simp only[Nat.sub_zero] at hj;obtain⟨c0,ag⟩:=Option.isSome_iff_exists.1 hj;have aw:j<p.toList.length:=by rw[<-g.len];exact(List.getElem?_eq_some_iff.1 ag).1
      have O:p.toList[j]?=some p.toList[j]:=List.getElem?_eq_getElem aw;have am:p[j]?=some p.toList[j]:=by rw[<-Array.getElem?_toList];exact O
      have ai:p.toList[j].key=a.eval L/\Instr.sameBits 10000 (a.eval L) (a.eval L)=true:=by
       have Z:∀(es:List (V×V)) (i j:Nat) (u:V),Bz kk (ev (get env) x) es i=some (some (j,u))->∃c,es[j-i]?=some c/\i<=j/\EY kk (ev (get env) x) c.1=some true:=by
        intro es
        induction es with
        | nil=>intro i j u h;simp only[Bz] at h;split at h<;>cases h
        | cons e es ih=>
         intro i j u h;simp only[Bz] at h;split at h
         .rename_i F;cases h;exact⟨e,by simp,Nat.le_refl _,F⟩
         .obtain⟨c,M,h2,E⟩:=ih _ _ _ h;exact⟨c,by rw[show j-i=(j-(i+1))+1 by omega,List.getElem?_cons_succ];exact M,by omega,E⟩
         .cases h
       obtain⟨c,M,_,E⟩:=Z es 0 j u hf;simp only[Nat.sub_zero] at M;exact U0 aj hx (g.at_ j c _ M O).1 E
      obtain⟨ab,al⟩:=ai;have an:(Instr.keyThatStays (a.eval L) (a.eval L)).run P w=.ok (a.eval L) w:=by simp[Instr.keyThatStays,al]
      refine ar (.map (p.modify j λe=>{ e with key:=a.eval L,val:=a.eval v' }) B) _ _ (es.modify j λe=>(e.1,ev (get env) y)) rfl ⟨by simp[g.len],λk c mm G f=>?_,?_,?_⟩ D.1.symm D.2.symm ?_
      .simp only[Array.toList_modify] at f;rw[List.getElem?_modify] at G f;by_cases F:j=k
       .subst F;simp only[if_true] at G f;rw[ag] at G;rw[O] at f;simp only[Option.map_eq_map,Option.map_some,Option.some.injEq] at G f;subst G;subst f;refine⟨?_,hy⟩;have:=(g.at_ j c0 _ ag O).1;rw[ab] at this;exact this
       .simp only[if_neg F] at G f;simp only[Option.map_eq_map,Option.map_id',id_eq] at G f;exact g.at_ k c mm G f
      .intro k mm f;rw[Array.toList_modify,List.getElem?_modify] at f;cases T:p.toList[k]? with
       | none=>rw[T] at f;simp at f
       | some m1=>
        rw[T] at f;have M:=g.born k m1 T;by_cases aa:j=k
        .simp only[aa,if_true,Option.map_eq_map,Option.map_some,Option.some.injEq] at f;subst f;exact M
        .simp only[if_neg aa,Option.map_eq_map,Option.map_some,Option.some.injEq] at f;subst f;exact M
      .rw[Array.toList_modify,List.length_modify];exact g.now
      .simp only[Instr.mapUpdate,Sem.run_bind,run_underlying (E0 ay),Result.andThen_ok,e1,MapKept.run_getObj_map W,au,av,am,Option.map_some,Option.getD_some,ab,an,MapKept.run_setObj_map _ W]
    | _=>simp[OR] at N
   .cases M
  simp only[SK] at s;split at s
  .rename_i t m' L v' ho;simp only[Bool.and_eq_true] at s;exact aH t m' L v' (by simp only[execOp,ho]) s.1.1 s.1.2 s.2
  .rename_i t m' L v' ho;simp only[Bool.and_eq_true] at s;exact aH t m' L v' (by simp only[execOp,ho]) s.1.1 s.1.2 s.2
  .cases s
 | ment kk z=>
  simp only[SK] at s;split at s
  .rename_i t m' L ho;simp only[Bool.and_eq_true] at s;obtain⟨⟨M,h2⟩,E⟩:=s;split at M
   .rename_i kt et ay;simp only[Bool.and_eq_true] at M;obtain⟨aj,hz⟩:=M;obtain⟨x,aB,ax⟩:∃x,xs=[x]/\BP L x=true:=by
     match xs,E with
     | [x],E=>simp only[A8,Bool.and_eq_true] at E;exact⟨x,rfl,E.1⟩
     | [],E=>simp[A8] at E
     | _::_::_,E=>simp[A8] at E
    subst aB;have hx:=Am hr ax;have U:=Am hr h2;rw[hm] at U;simp only[List.map_cons,List.map_nil] at N;cases e with
    | map es=>
     simp only[OR,Option.map_eq_some_iff] at N;obtain⟨r,hf,D⟩:=N;obtain⟨R,p,B,I,hB,W,g⟩:=ap;have e1:a.eval m'=.map (some R):=by have:=(U.arr_inv).1;rw[I] at this;exact(Option.some.inj this).symm
     obtain⟨i0,zv,hi,a3,aQ⟩:=DQ hz;have aT:=(HJ (μ:=μ) (H:=H) aQ).1;obtain⟨r',av,ah⟩:=M3 aj hx w es p.toList r g.len g.at_ hf;have au:=Kh aj hx (Iz hf) false w;have two:∀{u:V} {val:Value} (t:Nat),Ap μ H u val->Ap μ H (.tup [u,.i .i64 t]) (.tuple #[val,goInt t]):=by intro u val t h;have ac:VRels μ H [u,.i .i64 t] [val,.int .i64 t]:=VRels.cons h (VRels.cons (.i _ _) VRels.nil_);exact .tup _ _ ac.len ac.at_
     have ar:∀(ob:Obj) (J:Array MapEntry) (A:Nat) (es':List (V×V)) (u:V) (val:Value) (q:Nat),ob=.map J A->VK μ H es' J.toList A->e'=.map es'->v=.tup [u,.i .i64 q]->Ap μ H u val->(Instr.mapEntry t (a.eval m') (a.eval L)).run P w=.ok (.tuple #[val,goInt q]) { w with heap:=w.heap.setIfInBounds R ob }->AH P W0 ep o d σ n μ H a w v (upd σ id e'):=by
      intro ob J A es' u val q aM ak aJ hv hu az next Q K
      subst aJ;subst hv;have C:=hp.set_ (e:=.map es') hl ((AY.setObj w R ob).to (λk F=>by subst F;simp[I,C2])) ⟨R,J,A,I,hB,by have:R<w.heap.size:=(Array.getElem?_eq_some_iff.1 W).1;simp[this,aM],ak⟩;refine Bk (w':={ w with heap:=w.heap.setIfInBounds R ob }) (val:=.tuple #[val,goInt q]) ?_ (K _ _ _ _ _ ⟨two q hu,C.1,Nat.le_refl _,C.2,λ_ _ _ h=>h⟩);simp only[execOp,ho,Sem.run_bind,az,Result.andThen_ok,Sem.run_pure]
     rcases ah with⟨rfl,rfl⟩|⟨j,u,val,rfl,rfl,hval,_,hj⟩
     .simp only[Prod.mk.injEq] at D;have a4:(zeroValue et).run P w=.ok zv w:=by simp[zeroValue,typeInfo,hi,a3]
      have bb:=g.now;have Y:=g.len;refine ar (.map (p.push { key:=a.eval L,val:=zv,born:=B }) (B+1)) _ _ (es++[(ev (get env) x,z)]) z zv es.length rfl ⟨by simp[g.len],λk c mm G f=>?_,?_,?_⟩ D.1.symm D.2.symm aT ?_
      .simp only[Array.toList_push] at f;by_cases F:k<es.length
       .rw[List.getElem?_append_left F] at G;rw[List.getElem?_append_left (by rw[<-Y];exact F)] at f;exact g.at_ k c mm G f
       .rw[List.getElem?_append_right (by omega)] at G;rw[List.getElem?_append_right (by omega),<-Y] at f;cases S:k-es.length with
        | zero=>rw[S] at G f;simp at G f;subst G;subst f;exact⟨hx,aT⟩
        | succ q=>rw[S] at G;simp at G
      .intro k mm f;simp only[Array.toList_push] at f;by_cases F:k<p.toList.length
       .rw[List.getElem?_append_left F] at f;exact g.born k mm f
       .rw[List.getElem?_append_right (by omega)] at f;cases S:k-p.toList.length with
        | zero=>rw[S] at f;simp only[List.getElem?_cons_zero,Option.some.injEq] at f;subst f;simp only;omega
        | succ q=>rw[S] at f;simp at f
      .simp only[Array.toList_push,List.length_append,List.length_cons,List.length_nil];omega
      .have aY:B=es.length:=by omega
       simp only[Instr.mapEntry,Sem.run_bind,run_underlying (E0 ay),Result.andThen_ok,e1,MapKept.run_getObj_map W,au,av,a4,MapKept.run_setObj_map _ W,Sem.run_pure,aY]
     .simp only[Prod.mk.injEq] at D;simp only[Nat.sub_zero] at hj;obtain⟨c0,ag⟩:=Option.isSome_iff_exists.1 hj;have aw:j<p.toList.length:=by rw[<-g.len];exact(List.getElem?_eq_some_iff.1 ag).1
      have O:p.toList[j]?=some p.toList[j]:=List.getElem?_eq_getElem aw;have am:p[j]?=some p.toList[j]:=by rw[<-Array.getElem?_toList];exact O
      have aI:=g.born j _ O;have ai:p.toList[j].key=a.eval L/\Instr.sameBits 10000 (a.eval L) (a.eval L)=true:=by
       have Z:∀(es:List (V×V)) (i j:Nat) (u:V),Bz kk (ev (get env) x) es i=some (some (j,u))->∃c,es[j-i]?=some c/\i<=j/\EY kk (ev (get env) x) c.1=some true:=by
        intro es
        induction es with
        | nil=>intro i j u h;simp only[Bz] at h;split at h<;>cases h
        | cons e es ih=>
         intro i j u h;simp only[Bz] at h;split at h
         .rename_i F;cases h;exact⟨e,by simp,Nat.le_refl _,F⟩
         .obtain⟨c,M,h2,E⟩:=ih _ _ _ h;exact⟨c,by rw[show j-i=(j-(i+1))+1 by omega,List.getElem?_cons_succ];exact M,by omega,E⟩
         .cases h
       obtain⟨c,M,_,E⟩:=Z es 0 j u hf;simp only[Nat.sub_zero] at M;exact U0 aj hx (g.at_ j c _ M O).1 E
      obtain⟨ab,al⟩:=ai;have an:(Instr.keyThatStays (a.eval L) (a.eval L)).run P w=.ok (a.eval L) w:=by simp[Instr.keyThatStays,al]
      refine ar (.map (p.modify j λe=>{ e with key:=a.eval L }) B) _ _ es u val j rfl ⟨by simp[g.len],λk c mm G f=>?_,?_,?_⟩ D.1.symm D.2.symm hval ?_
      .simp only[Array.toList_modify] at f;rw[List.getElem?_modify] at f;by_cases F:j=k
       .subst F;simp only[if_true] at f;rw[O] at f;simp only[Option.map_eq_map,Option.map_some,Option.some.injEq] at f;subst f;have:=g.at_ j c _ G O;rw[ab] at this;exact this
       .simp only[if_neg F] at f;simp only[Option.map_eq_map,Option.map_id',id_eq] at f;exact g.at_ k c mm G f
      .intro k mm f;rw[Array.toList_modify,List.getElem?_modify] at f;cases T:p.toList[k]? with
       | none=>rw[T] at f;simp at f
       | some m1=>
        rw[T] at f;have M:=g.born k m1 T;by_cases aa:j=k
        .simp only[aa,if_true,Option.map_eq_map,Option.map_some,Option.some.injEq] at f;subst f;exact M
        .simp only[if_neg aa,Option.map_eq_map,Option.map_some,Option.some.injEq] at f;subst f;exact M
      .rw[Array.toList_modify,List.length_modify];exact g.now
      .simp only[Instr.mapEntry,Sem.run_bind,run_underlying (E0 ay),Result.andThen_ok,e1,MapKept.run_getObj_map W,au,av,am,Option.map_some,Option.getD_some,ab,an,MapKept.run_setObj_map _ W,aI,Sem.run_pure]
    | _=>simp[OR] at N
   .cases M
  .cases s
 | mst=>
  simp only[SK] at s;split at s
  .rename_i t m' s' v' ho;simp only[Bool.and_eq_true] at s;obtain⟨h2,E⟩:=s;obtain⟨x,y,aB,ax,aN⟩:∃x y,xs=[x,y]/\BP s' x=true/\BP v' y=true:=by
    match xs,E with
    | [x,y],E=>simp only[A8,Bool.and_eq_true] at E;exact⟨x,y,rfl,E.1,E.2.1⟩
    | [],E=>simp[A8] at E
    | [_],E=>simp[A8] at E
    | _::_::_::_,E=>simp[A8] at E
   subst aB;have hx:=Am hr ax;have hy:=Am hr aN;have U:=Am hr h2;rw[hm] at U;simp only[List.map_cons,List.map_nil] at N;cases e with
   | map es=>
    cases aS:ev (get env) x with
    | i kx jx=>
     rw[aS] at N hx;simp only[OR] at N;split at N
     .rename_i a1;simp only[Option.some.injEq,Prod.mk.injEq] at N;obtain⟨rfl,rfl⟩:=N;obtain⟨R,p,B,I,hB,W,g⟩:=ap;have e1:a.eval m'=.map (some R):=by have:=(U.arr_inv).1;rw[I] at this;exact(Option.some.inj this).symm
      have e2:a.eval s'=.int kx jx:=hx.i_inv;obtain⟨j,rfl⟩:∃j:Nat,jx=j:=⟨jx.toNat,by omega⟩
      have bg:j<es.length:=by simpa using a1.2
      have Y:=g.len;have aw:j<p.size:=by rw[<-Array.length_toList];omega
      have a0:p.findIdx? (λe=>(e.born:Int)==(j:Int))=some j:=by
       rw[Array.findIdx?_eq_some_iff_getElem];have hb:∀(k:Nat) (F:k<p.size),p[k].born=k:=λk F=>g.born k _ (by rw[Array.getElem?_toList,Array.getElem?_eq_getElem F]);refine⟨aw,by simp[hb],λk F=>?_⟩;have be:=hb k (by omega);simp only[Bool.not_eq_true,beq_eq_false_iff_ne,ne_eq];intro G;have:p[k].born=j:=by exact_mod_cast G
       omega
      have aA:Ap μ H (.tup []) undef:=.tup [] [] rfl (λk c v F=>by simp at F);intro next Q K
      have C:=hp.set_ (e:=.map (es.modify j λe=>(e.1,ev (get env) y))) hl ((AY.setObj w R (.map (p.modify j λe=>{ e with val:=a.eval v' }) B)).to (λk F=>by subst F;simp[I,C2])) ⟨R,p.modify j λe=>{ e with val:=a.eval v' },B,I,hB,by
       have:R<w.heap.size:=(Array.getElem?_eq_some_iff.1 W).1;simp[this],⟨by simp[g.len],λk c mm G f=>by
        simp only[Array.toList_modify] at f;rw[List.getElem?_modify] at G f;by_cases F:j=k
        .subst F;simp only[if_true,Option.map_eq_map,Option.map_eq_some_iff] at G f;obtain⟨c0,ag,rfl⟩:=G;obtain⟨m0,O,rfl⟩:=f;exact⟨(g.at_ j c0 m0 ag O).1,hy⟩
        .simp only[if_neg F,Option.map_eq_map,Option.map_id',id_eq] at G f;exact g.at_ k c mm G f,λk mm f=>by
        rw[Array.toList_modify,List.getElem?_modify] at f;cases T:p.toList[k]? with
        | none=>rw[T] at f;simp at f
        | some m1=>
         rw[T] at f;have M:=g.born k m1 T;by_cases aa:j=k
         .simp only[aa,if_true,Option.map_eq_map,Option.map_some,Option.some.injEq] at f;subst f;exact M
         .simp only[if_neg aa,Option.map_eq_map,Option.map_some,Option.some.injEq] at f;subst f;exact M,by
        rw[Array.toList_modify,List.length_modify];exact g.now⟩⟩
      refine Pk ?_ (K _ _ _ _ _ ⟨aA,C.1,Nat.le_refl _,C.2,λ_ _ _ h=>h⟩);simp only[execOp,ho,Instr.entryStore,asInt,asIntOf,e1,e2,Sem.run_bind,Sem.run_pure,Result.andThen_ok,MapKept.run_getObj_map W,a0,MapKept.run_setObj_map _ W]
     .cases N
    | _=>rw[aS] at N;simp[OR] at N
   | _=>simp[OR] at N
  .cases s
 | next=>
  simp only[SK] at s;split at s
  .rename_i m' ho;simp only[Bool.and_eq_true,List.isEmpty_iff] at s;obtain⟨h2,rfl⟩:=s;have U:=Am hr h2;rw[hm] at U;cases e with
   | it l ad=>
    simp only[List.map_nil,OR] at N;obtain⟨R,I,hB,W⟩:=ap;have e1:a.eval m'=.pointer (some ⟨R,0,none⟩):=by have:=(U.arr_inv).1;rw[I] at this;exact(Option.some.inj this).symm
    have aR:(⟨l.toArray⟩:ByteArray).size=l.length:=by simp[ByteArray.size]
    intro next Q K
    split at N
    .rename_i aL;simp only[Option.some.injEq,Prod.mk.injEq] at N;obtain⟨rfl,rfl⟩:=N;obtain⟨c,aG⟩:∃c,Utf8.decode ⟨l.toArray⟩ ad=c:=⟨_,rfl⟩
     rw[aG] at K;have C:=hp.set_ (e:=.it l (ad+c.2)) hl ((AY.setObj w R (.stringIter ⟨l.toArray⟩ (ad+c.2))).to (λk F=>by subst F;simp[I,C2])) ⟨R,I,hB,by have:R<w.heap.size:=(Array.getElem?_eq_some_iff.1 W).1;simp[this]⟩;refine Bk (w':={ w with heap:=w.heap.setIfInBounds R (.stringIter ⟨l.toArray⟩ (ad+c.2)) }) (val:=.tuple #[.bool true,goInt ad,.int .i32 c.1]) ?_ (K _ _ _ _ _ ⟨?_,C.1,Nat.le_refl _,C.2,λ_ _ _ h=>h⟩)
     .obtain⟨c1,c2⟩:=c;simp only[execOp,ho,e1,Instr.next,Sem.run_bind,Ip W,Result.andThen_ok,aR,aL,if_true,aG,Nv _ W,Sem.run_pure]
     .have ac:VRels μ H [.b true,.i .i64 ad,.i .i32 c.1] [.bool true,.int .i64 ad,.int .i32 c.1]:=VRels.cons (.b _) (VRels.cons (.i _ _) (VRels.cons (.i _ _) VRels.nil_));exact .tup _ _ ac.len ac.at_
    .rename_i aL;simp only[Option.some.injEq,Prod.mk.injEq] at N;obtain⟨rfl,rfl⟩:=N;have C:=hp.set_ (e:=.it l ad) (w':=w) hl ⟨rfl,rfl,rfl,Nat.le_refl _,λ_ _ _=>rfl⟩ ⟨R,I,hB,W⟩;refine Bk (w':=w) (val:=.tuple #[.bool false]) ?_ (K _ _ _ _ _ ⟨?_,C.1,Nat.le_refl _,C.2,λ_ _ _ h=>h⟩)
     .simp only[execOp,ho,e1,Instr.next,Sem.run_bind,Ip W,Result.andThen_ok,aR,aL,if_false,Sem.run_pure]
     .have ac:VRels μ H [.b false] [.bool false]:=VRels.cons (.b _) VRels.nil_;exact .tup _ _ ac.len ac.at_
   | _=>simp[OR] at N
  .cases s
theorem Anf{k:rQ}{xs:List X}{e:AX}(b:Sn P k o.op xs=true)(A:ep<n)(u:∀j,d=some j->μ (ep,j)=none){j:Nat}(r:d=some j)(f:Sz k (xs.map (ev (get env)))=some e)(K:v=Z2 k (ep,j)):AH P W0 ep o d σ n μ H a w v (((ep,j),e)::σ):=by
 subst K;cases k with
 | mkmap=>
  simp only[Sn] at b;split at b
  .rename_i t q;simp only[List.isEmpty_iff] at b;subst b;simp only[List.map_nil,Sz,Option.some.injEq] at f;subst f;refine AH.made hp r A u (obj:=.map #[] 0) (val:=.map (some w.heap.size)) ?_ (λB h=>by simpa[C2] using h.symm)
    ⟨w.heap.size,#[],0,Au _ _ _,hp.base.size,heap_alloc_new w _,⟨rfl,λk c m h=>by simp at h,λk m h=>by simp at h,rfl⟩⟩ (.arr _ _ (Au _ _ _) rfl)
   simp[execOp,q,Instr.makeMap]
  .cases b
 | strit=>
  simp only[Sn] at b;split at b
  .rename_i t x' q;simp only[Bool.and_eq_true] at b;obtain⟨I,g⟩:=b
   match xs,g,f with
   | [x],g,f=>
    have C:=Am hr (x:=x') (y:=x) (by simpa[A8] using g);simp only[List.map_cons,List.map_nil] at f;generalize ev (get env) x=M at *;cases M with
    | s l=>
     simp only[Sz,Option.some.injEq] at f;subst f;have G:=C.s_inv.1;refine AH.made hp r A u (obj:=.stringIter ⟨l.toArray⟩ 0) (val:=.pointer (some ⟨w.heap.size,0,none⟩)) ?_ (λB h=>by simpa[C2] using h.symm)
      ⟨w.heap.size,Au _ _ _,hp.base.size,heap_alloc_new w _⟩ (.arr _ _ (Au _ _ _) rfl)
     simp[execOp,q,G,Instr.range,run_underlying (Cf I)]
    | _=>simp[Sz] at f
   | [],g,_=>simp[A8] at g
   | _::_::_,g,_=>simp[A8] at g
  .cases b
 | tnew t z=>
  simp only[Sn] at b;split at b
  .rename_i F q;simp only[Bool.and_eq_true,beq_iff_eq,List.isEmpty_iff] at b;obtain⟨⟨rfl,L⟩,rfl⟩:=b;simp only[List.map_nil,Sz,Option.some.injEq] at f;subst f;obtain⟨i,N,J,E,b⟩:=DQ L;refine AH.made hp r A u (obj:=.cells N.cells F) (val:=.pointer (some ⟨w.heap.size,0,none⟩)) ?_ (λB h=>by simpa[C2] using h.symm)
    (NK hp.base.size (Au _ _ _) (HJ b).2) (.ref _ 0 _ (Au _ _ _))
   simp[execOp,q,Instr.alloc,zeroValue,typeInfo,J,E,newVar,newRow]
  .cases b
 | tbx t=>
  simp only[Sn] at b;split at b
  .rename_i F x' q;simp only[Bool.and_eq_true,beq_iff_eq] at b;obtain⟨rfl,g⟩:=b
   match xs,g,f with
   | [x],g,f=>
    have C:=Am hr (x:=x') (y:=x) (by simpa[A8] using g);simp only[List.map_cons,List.map_nil,Sz] at f;split at f
    .rename_i D;cases f;have p:=Bw (v:=.pointer (some ⟨w.heap.size,0,none⟩)) (u j r);refine AH.made hp r A u (obj:=.cells (a.eval x').cells F) (val:=.pointer (some ⟨w.heap.size,0,none⟩)) ?_ (λB h=>by simpa[C2] using h.symm)
      (NK hp.base.size (Au _ _ _) ((C.toCells D).1.mono p (λ_ _ h=>h))) (.ref _ 0 _ (Au _ _ _))
     simp[execOp,q,Instr.box,newVar,newRow]
    .cases f
   | [],g,_=>simp[A8] at g
   | _::_::_,g,_=>simp[A8] at g
  .cases b
omit hr in
theorem Hp.freeze_{id:Id}{u:V}{k:Nat}(s:lk σ id=some (.box u))(t:μ id=some (.pointer (some ⟨k,0,none⟩))) :
  Hp W0 (del σ id) n μ (pinned H w k) w/\Fr μ H σ w μ (pinned H w k) (del σ id) w:=by
 have m:Fv μ σ k:=⟨id,_,s,by simp[t,C2]⟩
 have f:∀g v,H g=some v->pinned H w k g=some v:=by
  intro g v h;unfold pinned;split
  .rename_i i;rw[hp.unp k m g i] at h;cases h
  .exact h
 have sub:∀c e,lk (del σ id) c=some e->c≠id/\lk σ c=some e:=by intro c e h;rw[CV] at h;grind
 have j:∀b,Fv μ (del σ id) b->Fv μ σ b/\b≠k:=by rintro b ⟨c,e,h,i⟩;obtain⟨l,r⟩:=sub _ _ h;refine⟨⟨c,e,r,i⟩,?_⟩;rintro rfl;exact l (hp.sep _ _ _ _ b r s i (by simp[t,C2]))
 refine⟨⟨hp.base,?_,λc e h=>(hp.ents _ _ (sub _ _ h).2).keep (λ_ _ h=>h) f (λ_ _=>rfl),?_,λA y i2 z b l1 x=>hp.sep _ _ _ _ b (sub _ _ l1).2 (sub _ _ x).2,hp.bd⟩,
  ⟨λ_ _ h=>h,f,Nat.le_refl _,λ_ _ _=>rfl,?_,λb _ p=>(j b p).1⟩⟩
 .intro g v h;unfold pinned at h;split at h
  .exact h
  .exact hp.pins g v h
 .intro b p g i;obtain⟨q,l⟩:=j b p;unfold pinned;rw[if_neg (by rw[i];exact l)];exact hp.unp b q g i
 .intro g i p;unfold pinned;rw[if_neg];grind
theorem AoS{t:TypeId}{x':Operand}{m:X}{k:Nat}(L:o.op=.slice t x' none none none)(y:(match P.underlying t with|some (.array q e)=>q==k&&Cs P e==some 1&&decide (k<=1024)|_=>false)=true)(O:BP x' m=true)
  {id:Id}{cs:List V}(J:ev (get env) m=.ref id 0)(C:lk σ id=some (.box (.agg cs)))(D:cs.length=k)(f:∀c∈cs,cells c=[c])(N:v=.sl cs):AH P W0 ep o d σ n μ H a w v (del σ id):=by
 split at y
 .rename_i q e M;simp only[Bool.and_eq_true,beq_iff_eq,decide_eq_true_eq] at y;obtain⟨⟨rfl,B⟩,S⟩:=y;have u:=Am hr O;rw[J] at u;obtain⟨g,s,F⟩:=u.ref_inv;obtain⟨E,vals,R,r,_,G,i⟩:=hp.ents _ _ C;rw[s] at r;cases r;obtain⟨A,p⟩:=Hp.freeze_ hp C s;subst N;have i:AR μ H cs vals.toList:=i;have b:AN cs=cs:=PV f;intro next Q K
  refine Bk (w':=w) (val:=.slice (some ⟨g,0,none⟩) q q) ?_ (K _ n μ (pinned H w g) w ⟨?_,A,Nat.le_refl _,p,λ_ _ _ h=>h⟩)
  .simp[execOp,L,F,Instr.sliceAt,run_underlying M,Instr.sureAddr,Instr.sliceBounds,Co B,Addr.add]
  .have l:AR μ (pinned H w g) cs vals.toList:=i.mono (λ_ _ h=>h) p.hp;have z:cs.length=vals.toList.length:=i.len;have:=Ap.slC (μ:=μ) (H:=pinned H w g) cs ⟨g,0,none⟩ q 1 vals.toList (by omega) (by unfold Bf;omega) (λc i=>by rw[f c i];rfl) (by rw[b];exact z) l.one (λj x I=>by unfold pinned;rw[CG,if_pos rfl,cell_of_row w g j vals R (0,0) G];simpa using I) (by rw[b];exact l.at_);grind
 .cases y
theorem Yw{t:TypeId}{x':Operand}{m:X}(y:o.op=.range t x')(z:(Np P t).isSome=true)(B:BP x' m=true)(x:ep<n)(p:∀f,d=some f->μ (ep,f)=none){f:Nat}(l:d=some f)
  {mid:Id}{es:List (V×V)}(u:ev (get env) m=.arr mid)(s:lk σ mid=some (.map es))(A:v=.arr (ep,f)):AH P W0 ep o d σ n μ H a w v (((ep,f),.mit mid es.length [] es.length)::σ):=by
 subst A;have g:=Am hr B;rw[u] at g;obtain⟨⟨E,D⟩,j⟩:=Option.isSome_iff_exists.1 z;obtain⟨i,C,e,k,hB,r,c⟩:=hp.ents _ _ s;have q:a.eval x'=.map (some i):=by have:=(g.arr_inv).1;grind
 have b:e=es.length:=by rw[c.now,c.len]
 subst b;refine AH.made hp l x p (obj:=.mapIter (some i) es.length #[] es.length) (val:=.pointer (some ⟨w.heap.size,0,none⟩)) ?_ (λi h=>by simpa[C2] using h.symm)
  ⟨w.heap.size,i,Au _ _ _,hp.base.size,Bw (p f l) _ _ k,heap_alloc_new w _⟩ (.arr _ _ (Au _ _ _) rfl)
 simp[execOp,y,q,Instr.range,run_underlying (E0 j),MapKept.run_getObj_map r]
omit hr hp in
theorem Hj{r:Nat}{m:Option Nat}{c b:Nat}{seen:Array Nat}(e:w.heap[r]?=some (.mapIter m c seen b)):(getObj r).run P w=.ok (.mapIter m c seen b) w:=by simp[getObj,Sem.run,e]
omit hr hp in
theorem ME{r:Nat}{m:Option Nat}{c b:Nat}{seen:Array Nat}(e:Obj)(f:w.heap[r]?=some (.mapIter m c seen b)):(setObj r e).run P w=.ok () { w with heap:=w.heap.setIfInBounds r e }:=by simp[setObj,Sem.run,f]
omit hr hp in
theorem X2{ms:List MapEntry}:∀(j i:Nat) (m:MapEntry),(∀(k:Nat) (m:MapEntry),ms[k]?=some m->m.born=j+k)->ms[i]?=some m->ms.find? (λe=>e.born==j+i)=some m:=by
 induction ms with
 | nil=>grind
 | cons x ms g=>
  intro j i m b h;cases i with
  | zero=>grind
  | succ i=>have c:=b 0 x rfl;rw[List.find?_cons_of_neg (by simp[c])];have:=g (j+1) i m (λk m f=>by have:=b (k+1) m (by simpa using f);omega) (by simpa using h);grind
theorem Z9{x':Operand}{m:X}(L:o.op=.entry x')(N:BP x' m=true){id mid:Id}{q i:Nat}{seen:List Nat}{es:List (V×V)}{s:V×V}(I:ev (get env) m=.arr id)(G:lk σ id=some (.mit mid q seen es.length))
  (p:seen.getLast?=some i)(A:lk σ mid=some (.map es))(z:es[i]?=some s)(M:v=.tup [s.1,s.2]):AH P W0 ep o d σ n μ H a w v σ:=by
 subst M;have x:=Am hr N;rw[I] at x;obtain⟨r,T,J,_,B,D⟩:=hp.ents _ _ G;obtain⟨S,b,h,g,_,y,c⟩:=hp.ents _ _ A;rw[B] at g;cases g;have C:a.eval x'=.pointer (some ⟨r,0,none⟩):=by have:=(x.arr_inv).1;grind
 have f:h=es.length:=by rw[c.now,c.len]
 subst f;have E:i<b.toList.length:=by rw[<-c.len];grind
 have t:b.toList[i]?=some b.toList[i]:=List.getElem?_eq_getElem E;obtain⟨O,R⟩:=c.at_ i s _ z t;have j:seen.toArray.back?=some i:=by rw[<-p];simp
 have l:b.find? (λe=>e.born==i)=some b.toList[i]:=by have:=X2 (ms:=b.toList) 0 i _ (λk m F=>by rw[Nat.zero_add];exact c.born k m F) t;grind
 intro next Q K
 refine Bk (w':=w) (val:=.tuple #[b.toList[i].key,b.toList[i].val]) ?_ (K _ _ _ _ _ (Gz.same hp ?_))
 .simp only[execOp,L,C,Sem.run_bind,Instr.entry,Hj D,Result.andThen_ok,j,MapKept.run_getObj_map y,l,Sem.run_pure];simp
 .have u:VRels μ H [s.1,s.2] [b.toList[i].key,b.toList[i].val]:=VRels.cons O (VRels.cons R VRels.nil_);exact .tup _ _ u.len u.at_
theorem AeY{u j:TypeId}{x':Operand}{x:X}(Y:o.op=.convert u j x')(z:((Cd P u).bind (Rr P))=some .u8)(T:CJ P j=true)(Z:BP x' x=true)
  {es:List V}(L:AA σ (ev (get env) x)=some es)(N:(DJ es).map .s=some v):AH P W0 ep o d σ n μ H a w v σ:=by
 rw[Option.bind_eq_some_iff] at z;obtain⟨e,z,F⟩:=z;rw[Option.map_eq_some_iff] at N;obtain⟨l,M,rfl⟩:=N;obtain⟨b,rfl,rfl⟩:=Hm M;have C:∀y∈b.map (V.i .u8),(cells y).length=1:=λy hy=>by obtain⟨m,_,rfl⟩:=List.mem_map.1 hy;rfl
 obtain⟨A,h,E,O,p⟩:=Vs hr hp Z L C;rw[List.length_map] at O E;intro next Q K
 have f:(b.map λn=>UInt8.ofNat n.toNat).length<=AO:=by simp only[List.length_map,Bf,AO] at *;omega
 refine Bk (w':=w) (val:=.string ⟨(b.map λn=>UInt8.ofNat n.toNat).toArray⟩) ?_ (K _ _ _ _ _ (Gz.same hp (.s _ f)));have B:(Conv.bytesToString (.slice A b.length h)).run P w=.ok (.string ⟨(b.map λn=>UInt8.ofNat n.toNat).toArray⟩) w:=by
  rcases p with S|⟨D,vals,rfl,c,g⟩
  .have:b=[]:=by simpa using S
   subst this;cases A<;>simp[Conv.bytesToString,loadCells,loadCellsFrom]<;>rfl
  .have G:AN (b.map (V.i .u8))=b.map (V.i .u8):=by
    clear c g C M E O f L K
    induction b with
    | nil=>rfl
    | cons m b R=>simpa[AN,cells] using R
   rw[G] at c;have hv:vals=b.map (Value.int .u8):=by
    apply List.ext_getElem?;intro k;by_cases U:k<b.length
    .have z:(b.map (V.i .u8))[k]?=some (.i .u8 b[k]):=by simp 
     obtain⟨x,I,J⟩:=c.get z;rw[I,J.i_inv];simp[U]
    .have W:=c.len;grind
   have t:(loadCells D b.length).run P w=.ok (b.map (Value.int .u8)).toArray w:=by have:=run_loadCells_list (P:=P) (w:=w) D vals g;grind
   rw[run_bytesToString w D b.length h b t];have q:∀(b:List Int) (s:ByteArray),b.foldl (λr n=>r.push (UInt8.ofNat n.toNat)) s=⟨s.data++(b.map λn=>UInt8.ofNat n.toNat).toArray⟩:=by
    intro b
    induction b with
    | nil=>intro s;simp
    | cons m b R=>simp[*]
   rw[q];simp
 simp only[execOp,Y,E,Sem.run_bind,run_convert_bytes_string w u j e A b.length h (BM z) (HW F) (Cf T),B,Result.andThen_ok,Sem.run_pure]
end ops
end Go.Ir
end
section
namespace Go.Ir
open Go.RowKit
variable[FV]
theorem MS(z:V)(n k:Nat)(e:k<n*(cells z).length):(AN (List.replicate n z))[k]?=(cells z)[k % (cells z).length]?:=by
 induction n generalizing k with
 | zero=>omega
 | succ n c=>
  have b:AN (List.replicate (n+1) z)=cells z++AN (List.replicate n z):=by simp[AN,List.replicate_succ]
  rw[b];by_cases h:k<(cells z).length
  .rw[List.getElem?_append_left h,Nat.mod_eq_of_lt h]
  .rw[List.getElem?_append_right (by omega),c (k-(cells z).length) (by grind)];congr 1;exact(Nat.mod_eq_sub_mod (by omega)).symm
theorem jA{μ:Id->Option Value}{H:Addr->Option Value}{z:V}{zv:Value}{sz:Nat}(hc:AR μ H (cells z) zv.cells.toList)(hs:zv.cells.size=sz)(hpos:0<sz){n m:Nat}(hnm:n<=m) :
  AR μ H (AN (List.replicate n z)) ((madeCells zv.cells (m*sz)).toList.take (n*sz)):=by
 have hl:(cells z).length=sz:=by rw[hc.len];simpa using hs
 have hle:n*sz<=m*sz:=Nat.mul_le_mul_right _ hnm
 have hat:∀k v,((madeCells zv.cells (m*sz)).toList.take (n*sz))[k]?=some v->k<n*sz/\zv.cells.toList[k % sz]?=some v:=by
  intro k v h
  rw[List.getElem?_take] at h
  split at h
  .rename_i hk
   refine⟨hk,?_⟩
   have hm:k % sz<sz:=Nat.mod_lt _ hpos
   have hk2:k<m*sz:=by omega
   simp only[madeCells,Array.toList_map,List.getElem?_map] at h
   grind
  .cases h
 refine⟨⟨?_,fun k c v h1 h2=>?_⟩,fun v hv=>?_⟩
 .rw[FE (sz:=sz) (fun e he=>by grind)]
  rw[List.length_replicate,List.length_take,Array.length_toList,size_madeCells,Nat.min_eq_left hle]
 .obtain⟨hk,h3⟩:=hat k v h2
  rw[MS z n k (by rw[hl];exact hk),hl] at h1
  exact hc.at_ _ c v h1 h3
 .obtain⟨k,hk⟩:=List.mem_iff_getElem?.1 hv
  obtain⟨_,h3⟩:=hat k v hk
  exact hc.one v (List.mem_of_getElem? h3)
section
variable{W0 w w':World}{σ:Aj}{n n':Nat}{μ:Id→Option Value}{H:Addr→Option Value}
theorem Hp.rename{g f:Id}{e:AX}{val:Value}(hp:Hp W0 ((g,e)::σ) n μ H w)(J:μ g=some val)(h0:lk σ g=none)(U:μ f=none)(hn:f.1<n) :
  Hp W0 ((f,e)::σ) n (ED μ f val) H w/\∀x,Fv (ED μ f val) ((f,e)::σ) x->Fv μ ((g,e)::σ) x:=by
 have j:=Bw (v:=val) U;have af:∀c e',lk σ c=some e'->c≠g/\c≠f/\lk ((g,e)::σ) c=some e'/\ED μ f val c=μ c:=by
  intro c e' h;have G:c≠g:=by grind
  have F:lk ((g,e)::σ) c=some e':=by simp only[lk];grind
  have A:c≠f:=by rintro rfl;obtain⟨_,J⟩:=(hp.ents _ _ F).named;rw[U] at J;cases J
  exact⟨G,A,F,BS _ _ A⟩
 have l0:lk ((g,e)::σ) g=some e:=by simp[lk]
 have z:∀c e',lk ((f,e)::σ) c=some e'->∃p,lk ((g,e)::σ) p=some e'/\ED μ f val c=μ p/\(c=f/\p=g\/c=p/\c≠f/\p≠g):=by
  intro c e' h;simp only[lk] at h;split at h
  .rename_i W;subst W;cases h;exact⟨g,l0,by rw[Au,J],.inl ⟨rfl,rfl⟩⟩
  grind
 have B:∀x,Fv (ED μ f val) ((f,e)::σ) x->Fv μ ((g,e)::σ) x:=by rintro x ⟨c,e',F,X⟩;obtain⟨p,E,u,_⟩:=z _ _ F;exact⟨p,e',E,by rw[<-u];exact X⟩
 refine⟨⟨hp.base,hp.pins,?_,λx Z=>hp.unp x (B x Z),?_,?_⟩,B⟩
 .intro c e' F;obtain⟨p,E,u,K⟩:=z _ _ F;have q:=hp.ents _ _ E;cases e' with
  | box v=>obtain⟨x,vals,t,i,hB,y,D⟩:=q;exact⟨x,vals,t,by rw[u];exact i,hB,y,D.mono j (λ_ _ h=>h)⟩
  | tbox t v=>obtain⟨x,vals,i,hB,y,D⟩:=q;exact⟨x,vals,by rw[u];exact i,hB,y,D.mono j (λ_ _ h=>h)⟩
  | arr e sz es=>obtain⟨v,vals,i,r1,r2,r3,r4,D⟩:=q;exact⟨v,vals,by rw[u];exact i,r1,r2,r3,r4,D.mono j (λ_ _ h=>h)⟩
  | map es=>obtain⟨r,O,C,i,hB,y,D⟩:=q;exact⟨r,O,C,by rw[u];exact i,hB,y,D.mono j (λ_ _ h=>h)⟩
  | it l ag=>obtain⟨r,i,hB,y⟩:=q;exact⟨r,by rw[u];exact i,hB,y⟩
  | mit mid R seen I=>obtain⟨r,m,i,hB,L,y⟩:=q;exact⟨r,m,by rw[u];exact i,hB,j _ _ L,y⟩
  | loop nt env ps a b st pd=>obtain⟨l,r,i,hB,y,hx,hv⟩:=q;exact⟨l,r,by rw[u];exact i,hB,y,hx,λs=>(hv s).mono j (λ_ _ h=>h)⟩
 .intro i1 e1 i2 e2 x l1 l2 S T;obtain⟨j1,M,m1,c1⟩:=z _ _ l1;obtain⟨j2,N,m2,c2⟩:=z _ _ l2;rw[m1] at S;rw[m2] at T;have:=hp.sep _ _ _ _ x M N S T;grind
 .intro k Y;have:k≠f:=by rintro rfl;omega
  rw[BS _ _ this];exact hp.bd k Y
end
theorem Jc{P:Program}{f:FuncId}(b:callable P f=true)(args:Array Value)(w:World):(callFunc f args).run P w=.ok (.enter f args) w:=by
 unfold callable at b;split at b
 .rename_i c g;simp only[Bool.and_eq_true,Bool.not_eq_true'] at b;have e:c.body.isNone=false:=by cases h:c.body<;>simp_all
  unfold callFunc;simp only[Sem.run_bind,run_program,Result.andThen_ok,g,b.2,Bool.false_eq_true,if_false,e,Sem.run_pure]
 .cases b
section ops
variable{P:Program}{W0:World}{ep nt:Nat}{o:Oper}{d:Option Nat}{env:AB}{σ σ':Aj}{n:Nat}{μ:Id→Option Value}{H:Addr→Option Value}{a:Act}{w:World}{v:V}
variable(hr:Rl μ H nt env a)(hp:Hp W0 σ n μ H w)
theorem CP{c:Call}{g:Operand}{f:FuncId}{first b:Array Value}(h:callable P f=true)(j:o.op=.call c)(e:c.callee=.value g)(i:a.eval g=.func (.func f) first b)(w:World) :
  (execOp a.eval o).run P w=.ok (.enter f (first++c.args.map a.eval++b)) w:=by
 simp only[execOp,j,resolve,e,i,Deferred.ofValue,Sem.run_bind,Sem.run_pure,Result.andThen_ok,invoke];exact Jc h _ w
theorem AH.called{f:FuncId}{args:Array Value}{b:List V}{σi σo:Aj}(hp:Hp W0 σ n μ H w)(j:(execOp a.eval o).run P w=.ok (.enter f args) w)(g:VRels μ H b args.toList)
  (i:An P W0 f b σi v σo)(q:∀id e,lk σi id=some e->lk σ id=some e):AH P W0 ep o d σ n μ H a w v (over σi σo σ):=by
 intro next Q K
 unfold Oper.wp;rw[j];have:=i.run n w μ H args.toList (hp.part q) g;simp only[Oper.upon];rw[Array.toArray_toList] at this;refine Calls.mono this ?_;rintro e w' ⟨val,μ',H',n',rfl,s,m,l,r,c⟩;have p:=hp.back q m r;exact K val n' μ' H' w' ⟨s,p.1,l,p.2,λid k _ h=>c id k h⟩
theorem IY(σ:Aj):over [] [] σ=σ:=by simp[over,lk]
theorem P7{σi σ:Aj}(b:∀id e,lk σi id=some e->lk σ id=some e)(id:Id):lk (over σi σi σ) id=lk σ id:=by rw[E1];grind
theorem UT{σ τ:Aj}{μ:Id->Option Value}{b:Nat}(h:∀id,lk σ id=lk τ id):Fv μ σ b↔Fv μ τ b:=by unfold Fv;simp only[h]
theorem Hp.eqv{σ τ:Aj}{n:Nat}{μ:Id->Option Value}{H:Addr->Option Value}{w:World}(h:∀id,lk σ id=lk τ id)(hp:Hp W0 σ n μ H w):Hp W0 τ n μ H w:=
 ⟨hp.base,hp.pins,λid e j=>hp.ents id e (by rw[h];exact j),λb i=>hp.unp b ((UT h).2 i),λid e c e' b f g=>hp.sep id e c e' b (by rw[h];exact f) (by rw[h];exact g),hp.bd⟩
theorem AH.eqv{σ1 σ':Aj}(h:∀id,lk σ1 id=lk σ' id)(f:AH P W0 ep o d σ n μ H a w v σ1):AH P W0 ep o d σ n μ H a w v σ':=
 λnext Q K=>f next Q λval n' μ' H' w' b=>K val n' μ' H' w' ⟨b.rel,b.hp.eqv h,b.le,⟨b.fr.mu,b.fr.hp,b.fr.size,b.fr.keep,b.fr.pin,λc e g=>b.fr.dom c e ((UT h).2 g)⟩,b.fresh⟩
theorem AH.calledN{f:FuncId}{args:Array Value}{g:List V}{σi σo:Aj}{x:AX}(hp:Hp W0 σ n μ H w)(t:(execOp a.eval o).run P w=.ok (.enter f args) w)(m:VRels μ H g args.toList)
  (M:ep<n)(O:∀i,d=some i->μ (ep,i)=none){i:Nat}(L:d=some i)
  (s:H9 P W0 f g σi x σo)(N:∀id e,lk σi id=some e->lk σ id=some e):AH P W0 ep o d σ n μ H a w (.arr (ep,i)) (((ep,i),x)::over σi σo σ):=by
 intro next Q K
 unfold Oper.wp;rw[t];have:=s.run n w μ H args.toList (hp.part N) m;simp only[Oper.upon];rw[Array.toArray_toList] at this;refine Calls.mono this ?_;rintro e' w' ⟨val,μ',H',n',k,rfl,R,u,D,B,G,p,z,b⟩;have l:=hp.back N G z;have F:over σi ((k,x)::σo) σ=(k,x)::over σi σo σ:=rfl;rw[F] at l;have C:lk (over σi σo σ) k=none:=by
  rw[E1,B];simp only;split
  .cases h:lk σ k with
   | none=>rfl
   | some x=>obtain⟨_,q⟩:=(hp.ents _ _ h).named;rw[D] at q;cases q
  .rfl
 have c:μ' (ep,i)=none:=b (ep,i) M (O i L);obtain⟨I,r⟩:=l.1.rename R C c (Nat.lt_of_lt_of_le M p);refine K val n' _ H' w' ⟨.arr _ _ (Au _ _ _) u,I,p,⟨λid x T=>Bw c id x (l.2.mu id x T),l.2.hp,l.2.size,l.2.keep,l.2.pin,λJ y S=>l.2.dom J y (r J S)⟩,λid A E j=>?_⟩;rw[BS _ _ (E i L)];exact b id A j
include hr hp
theorem Aep{t e:TypeId}{l' c':Operand}{l c:X}{z:V}{sz:Nat}(ho:o.op=.makeSlice t l' c')(ht:Cd P t=some e)(hel:Hy P e sz=true)(hz:Fy P e z=true)(hl:BP l' l=true)(hc:BP c' c=true)
  (hn:ep<n)(hf:∀dd,d=some dd->μ (ep,dd)=none){dd:Nat}(hd:d=some dd){k k':IntKind}{p q:Nat}(el:ev (get env) l=.i k (Int.ofNat p))(ec:ev (get env) c=.i k' (Int.ofNat q))(hpq:p<=q)(hq:q<=Bf)(hv:v=.arr (ep,dd)) :
  AH P W0 ep o d σ n μ H a w v (((ep,dd),.arr e sz (List.replicate p z))::σ):=by
 have hl':=Am hr hl
 have hc':=Am hr hc
 rw[el] at hl'
 rw[ec] at hc'
 have e1:=hl'.i_inv
 have e2:=hc'.i_inv
 have hu:=BM ht
 obtain⟨i,zv,hi,hisz,hpos,hby,hzv,hzs,_⟩:=Hw hel
 obtain⟨i',zv',hi',hzv',hokz⟩:=DQ hz
 rw[hi] at hi'
 cases hi'
 rw[hzv] at hzv'
 cases hzv'
 have hcz:=(HJ (μ:=μ) (H:=H) hokz).2
 have hmono:=Bw (v:=.slice (some ⟨w.heap.size,0,none⟩) p q) (hf dd hd)
 subst hisz
 subst hv
 have hb:=RA (k:=q) hr hp hq hby
 have hrun:=run_make (P:=P) w t e i zv hu hi hzv k k' (Int.ofNat p) (Int.ofNat q) (by simp) (by simpa using hpq) (by
  have:((i.bytes*q:Nat):Int)<=281474976710656:=by rw[Nat.mul_comm];omega
  rw[Int.natCast_mul] at this
  exact this) (by simp only[Bf,Int.ofNat_eq_natCast] at *;omega)
 have hrel:=jA hcz hzs hpos hpq
 refine AH.made hp hd hn hf (obj:=.cells (madeCells zv.cells (q*i.size)) e) (val:=.slice (some ⟨w.heap.size,0,none⟩) p q) ?_ (fun bk h=>by simpa[C2] using h.symm)
  ⟨_,_,Au _ _ _,rfl,⟨?_,.inr ⟨w.heap.size,q,_,by simp,hp.base.size,heap_alloc_new w _,by simpa using hpq,by simp only[maxLen,Bf] at *;omega,size_madeCells _ _,rfl⟩⟩,by simp;omega,fun x hx=>?_,?_⟩ (.arr _ _ (Au _ _ _) rfl)
 .simp only[execOp,ho,e1,e2,Sem.run_bind,hrun,Result.andThen_ok,Sem.run_pure]
  rfl
 .simp only[List.length_replicate,List.length_take,Array.length_toList,size_madeCells]
  simp_all
 .rw[List.eq_of_mem_replicate hx,hcz.len]
  simpa using hzs
 .simpa using hrel.mono hmono (fun _ _ h=>h)
theorem PL{op:AE}(j:Nr P o.op op=true)(U:o.dst=d)(N:ep<n)(M:∀K,d=some K->μ (ep,K)=none)(ai:L2 op=true->d=none)
  (r:E P W0 ep d op (get env) σ v σ'):AH P W0 ep o d σ n μ H a w v σ':=by
 have B:∀{c:Call} {args:List X},A8 c.args.toList args=true->VRels μ H (args.map (ev (get env))) (c.args.map a.eval).toList:=by intro c args h;have:=Dh hr h;simpa using this
 have G:∀f,a.eval (.func f)=.func (.func f) #[] #[]:=λf=>rfl;unfold Nr at j;unfold E at r;cases op with
 | mv y=>
  simp only at j r;obtain⟨r,rfl⟩:=r;split at j
  .rename_i x u;exact AhQ hr hp (.inl u) j r
  .rename_i x u;exact AhQ hr hp (.inr u) j r
  .cases j
 | pick c x y=>
  simp only at j r;obtain⟨t,ht,r,rfl⟩:=r;split at j
  .rename_i c' x' y' u;simp only[Bool.and_eq_true] at j;exact AbU hr hp u j.1.1 j.1.2 j.2 ht r
  .cases j
 | bin op x y=>
  simp only at j r;obtain⟨r,rfl⟩:=r;split at j
  .rename_i aA t x' y' ty u;simp only[Bool.and_eq_true,beq_iff_eq] at j;obtain⟨⟨rfl,D⟩,F⟩:=j;exact Apx hr hp u D F r
  .cases j
 | eqb ne x y=>
  simp only at j r;obtain⟨p,q,C,ey,r,rfl⟩:=r;split at j
  .rename_i aA t x' y' ty u;simp only[Bool.and_eq_true,beq_iff_eq] at j;obtain⟨⟨⟨h0,D⟩,F⟩,J⟩:=j;exact Ajk hr hp u h0 D F J C ey r
  .cases j
 | not x=>
  simp only at j r;obtain⟨p,C,r,rfl⟩:=r;split at j
  .rename_i t x' u;exact Amd hr hp u j C r
  .cases j
 | neg x=>
  simp only at j r;obtain⟨k,p,C,r,rfl⟩:=r;split at j
  .rename_i t x' u;exact Alm hr hp u j C r
  .cases j
 | cvi k x=>
  simp only at j r;obtain⟨k',p,C,r,rfl⟩:=r;split at j
  .rename_i ak aa x' u;simp only[Bool.and_eq_true,beq_iff_eq] at j;exact Alk hr hp u j.1.1 j.1.2 j.2 C r
  .cases j
 | cvs x=>
  simp only at j r;obtain⟨l,C,r,rfl⟩:=r;split at j
  .rename_i ak aa x' u;simp only[Bool.and_eq_true] at j;exact Aov hr hp u j.1.1 j.1.2 j.2 C r
  .cases j
 | fld x az m ag=>
  simp only at j r;obtain⟨ha,r,rfl⟩:=r;split at j
  .rename_i t x' f u;simp only[Bool.and_eq_true] at j;exact Aid hr hp u j.1 j.2 ha r
  .cases j
 | faddr x az=>
  simp only at j r;obtain⟨r,rfl⟩:=r;split at j
  .rename_i t x' f u;simp only[Bool.and_eq_true] at j;exact rF hr hp u j.1 j.2 r
  .cases j
 | iaddr x i e sz=>
  simp only at j r;obtain⟨r,rfl⟩:=r;split at j
  .rename_i t x' i' u;simp only[Bool.and_eq_true,beq_iff_eq] at j;exact nU hr hp u j.1.1.1 j.1.1.2 j.1.2 j.2 r
  .cases j
 | idx x i=>
  simp only at j r;obtain⟨l,k,m,c,C,ei,h0,hc,r,rfl⟩:=r;split at j
  .rename_i t x' i' u;simp only[Bool.and_eq_true] at j;exact Apn hr hp u j.1.1 j.1.2 j.2 C ei h0 hc r
  .cases j
 | load x m ag=>
  simp only at j r;obtain⟨r,rfl⟩:=r;split at j
  .rename_i t x' u;simp only[Bool.and_eq_true,beq_iff_eq] at j;exact Abo hr hp u j.1.1 j.1.2 j.2 r
  .cases j
 | store ax x m=>
  simp only at j r;obtain⟨D,F,r⟩:=r;split at j
  .rename_i t a' x' u;simp only[Bool.and_eq_true,beq_iff_eq] at j;exact oU hr hp u j.1.1 j.2 j.1.2 U (ai rfl) D F r
  .cases j
 | box x=>
  simp only at j r;obtain⟨K,I,D,F,rfl⟩:=r;split at j
  .rename_i t x' u;exact Ap1 hr hp u j N M I D F
  .cases j
 | alloc z=>
  simp only at j r;obtain⟨K,I,F,rfl⟩:=r;split at j
  .rename_i t u;exact oT hr hp u j N M I F
  .cases j
 | build z ps=>
  simp only at j r;obtain⟨L,⟨cs,av,r⟩,rfl⟩:=r;split at j
  .rename_i t aX u;simp only[Bool.and_eq_true] at j;exact oK hr hp u j.1.1 j.1.2 j.2 L av r
  .cases j
 | msl own e sz xs=>
  simp only at j r;obtain⟨L,r⟩:=r;split at j
  .rename_i t aV ps u;simp only[Bool.and_eq_true,beq_iff_eq,decide_eq_true_eq] at j;exact AnX hr hp u j.1.1.1.1 j.1.1.1.2 j.1.1.2 j.1.2 j.2 N M L r
  .cases j
 | slS x lo hi=>
  simp only at j r;obtain⟨l,p,q,C,D,F,J,h4,r,rfl⟩:=r;split at j
  .rename_i t x' ay ae u;simp only[Bool.and_eq_true] at j;exact Amj hr hp u j.1.1.1 j.1.1.2 j.1.2 j.2 C D F J h4 r
  .cases j
 | slL x lo hi sz=>
  simp only at j r;obtain⟨l,p,q,C,D,F,J,h4,h5,r,rfl⟩:=r;split at j
  .rename_i t x' ay ae u;simp only[Bool.and_eq_true,beq_iff_eq] at j;obtain⟨e,ht⟩:=Option.isSome_iff_exists.1 j.1.1.1.1;have ah:=j.1.1.1.2;rw[ht] at ah;exact An4 hr hp u ht ah j.1.1.2 j.1.2 j.2 C D F J h4 h5 r
  .cases j
 | lenS x=>
  simp only at j r;obtain⟨l,C,r,rfl⟩:=r;split at j
  .rename_i c u;split at j
   .rename_i A;simp only[Bool.and_eq_true,beq_iff_eq] at j;exact AeW hr hp u A j.1.1 j.1.2 j.2 C r
   .cases j
  .cases j
 | lenL x=>
  simp only at j r;obtain⟨l,C,r,rfl⟩:=r;split at j
  .rename_i c u;split at j
   .rename_i A;simp only[Bool.and_eq_true,beq_iff_eq] at j;exact AcJ hr hp u A j.1.1 j.1.2 j.2 C r
   .cases j
  .cases j
 | app s x e sz=>
  simp only at j r;obtain⟨K,xs,I,D,F,J,r⟩:=r;split at j
  .rename_i c u;split at j
   .rename_i A;simp only[Bool.and_eq_true,beq_iff_eq] at j;exact Ai6 hr hp u A j.1.1.1 j.1.1.2 j.1.2 j.2 N M I D F J r
   .cases j
  .cases j
 | apps s x e=>
  simp only at j r;obtain⟨K,l,I,D,J,r⟩:=r;split at j
  .rename_i c u;split at j
   .rename_i A;simp only[Bool.and_eq_true,beq_iff_eq] at j;exact Ac3 hr hp u A j.1.1.1.1 j.1.1.1.2 j.1.1.2 j.1.2 j.2 N M I D J r
   .cases j
  .cases j
 | slT x hi sz=>
  simp only at j r;obtain⟨K,id,e,es,q,I,D,F,J,h4,h5,rfl⟩:=r;split at j
  .rename_i t x' ae u;simp only[Bool.and_eq_true,beq_iff_eq] at j;obtain⟨⟨⟨k1,k2⟩,k3⟩,k4⟩:=j;obtain⟨e0,ac⟩:=Option.isSome_iff_exists.1 k1;rw[ac] at k2;exact AmG hr hp u ac k2 k3 k4 N M I D F J h4 h5
  .cases j
 | ext x k=>
  simp only at j r;obtain⟨vs,C,r,rfl⟩:=r;split at j
  .rename_i x' k' u;simp only[Bool.and_eq_true,beq_iff_eq] at j;obtain⟨rfl,S⟩:=j;exact Ahx hr hp u S C r
  .cases j
 | call f args=>
  simp only at j r;obtain⟨r,rfl⟩:=r;split at j
  .rename_i c u;split at j
   .rename_i f' A;simp only[Bool.and_eq_true,beq_iff_eq] at j;obtain⟨rfl,S⟩:=j;have:=AH.called (ep:=ep) (d:=d) hp (CP r.callable u A (G _) w) (by simpa using B S) r (λid e h=>by simp[lk] at h)
    rwa [IY] at this
   .cases j
  .cases j
 | calls f args=>
  simp only at j r;obtain⟨σi,σo,r,W,rfl⟩:=r;split at j
  .rename_i c u;split at j
   .rename_i f' A;simp only[Bool.and_eq_true,beq_iff_eq] at j;obtain⟨rfl,S⟩:=j;exact AH.called hp (CP r.callable u A (G _) w) (by simpa using B S) r W
   .cases j
  .cases j
 | callr f args=>
  simp only at j r;obtain⟨⟨σi,r,W⟩,rfl⟩:=r;split at j
  .rename_i c u;split at j
   .rename_i f' A;simp only[Bool.and_eq_true,beq_iff_eq] at j;obtain⟨rfl,S⟩:=j;exact AH.eqv (λid=>P7 W id) (AH.called hp (CP r.callable u A (G _) w) (by simpa using B S) r W)
   .cases j
  .cases j
 | calln f args=>
  simp only at j r;obtain⟨K,σi,σo,x,I,r,W,rfl,rfl⟩:=r;split at j
  .rename_i c u;split at j
   .rename_i f' A;simp only[Bool.and_eq_true,beq_iff_eq] at j;obtain⟨rfl,S⟩:=j;exact AH.calledN hp (CP r.callable u A (G _) w) (by simpa using B S) N M I r W
   .cases j
  .cases j
 | callv h args=>
  simp only at j r;obtain⟨f,first,T,eh,r,rfl⟩:=r;split at j
  .rename_i c u;split at j
   .rename_i h' A;simp only[Bool.and_eq_true] at j;have hh:=Am hr j.1;rw[eh] at hh;obtain⟨fv,cv,e1,r1,r2⟩:=hh.fn_inv;have:=AH.called (ep:=ep) (d:=d) hp (CP r.callable u A e1 w) (by simpa using(r1.append (B j.2)).append r2) r (λid e h=>by simp[lk] at h)
    rwa [IY] at this
   .cases j
  .cases j
 | callvs h args=>
  simp only at j r;obtain⟨f,first,T,σi,σo,eh,r,W,rfl⟩:=r;split at j
  .rename_i c u;split at j
   .rename_i h' A;simp only[Bool.and_eq_true] at j;have hh:=Am hr j.1;rw[eh] at hh;obtain⟨fv,cv,e1,r1,r2⟩:=hh.fn_inv;exact AH.called hp (CP r.callable u A e1 w) (by simpa using(r1.append (B j.2)).append r2) r W
   .cases j
  .cases j
 | mkfn f first T=>
  simp only at j r;obtain⟨r,rfl⟩:=r;split at j
  .rename_i f' am ao u;simp only[Bool.and_eq_true,beq_iff_eq] at j;obtain⟨⟨rfl,D⟩,F⟩:=j;exact AeH hr hp u D F r
  .cases j
 | mksl l c z e sz=>
  simp only at j r;obtain⟨K,k,k',p,q,I,el,ec,D,F,J,rfl⟩:=r;split at j
  .rename_i t l' c' u;simp only[Bool.and_eq_true,beq_iff_eq] at j;exact Aep hr hp u j.1.1.1.1 j.1.1.1.2 j.1.1.2 j.1.2 j.2 N M I el ec D F J
  .cases j
 | mx lo x xs=>
  simp only at j r;obtain⟨r,rfl⟩:=r;split at j
  .rename_i c u;split at j
   .rename_i b A;simp only[Bool.and_eq_true,beq_iff_eq] at j;exact AuJ hr hp u A j.1 j.2 r
   .cases j
  .cases j
 | nilck x=>
  simp only at j r;obtain⟨D,r,rfl⟩:=r;split at j
  .rename_i x' u;exact rL hr hp u j D r
  .cases j
 | pu k xs=>simp only at j r;obtain⟨r,rfl⟩:=r;exact ArT hr hp j r
 | rdm k m xs=>simp only at j r;obtain⟨⟨id,e,R,O,r⟩,rfl⟩:=r;exact Ah1 hr hp j R O r
 | wrm k m xs=>simp only at j r;obtain⟨id,e,e',R,O,r,rfl⟩:=r;exact AkV hr hp j U (λh=>ai (by cases k<;>first|rfl|cases h)) R O r
 | mkm k xs=>simp only at j r;obtain⟨K,e,I,r,Z,rfl⟩:=r;exact Anf hr hp j N M I r Z
 | frz m k=>
  simp only at j r;obtain⟨id,cs,R,O,af,ag,Z,rfl⟩:=r;split at j
  .rename_i t x' u;simp only[Bool.and_eq_true] at j;exact AoS hr hp u j.1 j.2 R O af ag Z
  .cases j
 | mrange m=>
  simp only at j r;obtain⟨K,mid,es,I,R,O,Z,rfl⟩:=r;split at j
  .rename_i t x' u;simp only[Bool.and_eq_true] at j;exact Yw hr hp u j.1 j.2 N M I R O Z
  .cases j
 | mentry m=>
  simp only at j r;obtain⟨id,mid,aD,seen,i,es,kv,R,O,Y,ax,aw,Z,rfl⟩:=r;split at j
  .rename_i x' u;exact Z9 hr hp u j R O Y ax aw Z
  .cases j
 | eqr ne x y=>simp only at j r;obtain⟨r,rfl⟩:=r;exact Apb hr hp j r
 | callw g xs=>exact r.elim
 | btos x=>
  simp only at j r;obtain⟨es,C,r,rfl⟩:=r;split at j
  .rename_i ak aa x' u;simp only[Bool.and_eq_true,beq_iff_eq] at j;exact AeY hr hp u j.1.1 j.1.2 j.2 C r
  .cases j
end ops
end Go.Ir
end
