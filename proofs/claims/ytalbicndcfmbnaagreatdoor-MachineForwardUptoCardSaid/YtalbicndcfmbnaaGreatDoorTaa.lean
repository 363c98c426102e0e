/- Parts of the proof: the calculus of walks, contracts of functions, plain laws; each theorem states its conditions. -/
import Derived.OrdersIn
import Derived.RangeFuncIn
import Derived.Below
import Derived.Orders
import Derived.Laws.OwnMore
import Derived.Laws.Entries
import Derived.Laws.Rows
import Derived.Maps.AppendAt
import Derived.Laws.Strings2
import Derived.Laws.Concat
import Derived.Laws.Cover1
import Derived.Laws.Slices
import Derived.Laws.MakeOwn
import Derived.Lib.AppendStr
import Derived.Laws.StructEq
import Derived.MapKept
import Derived.Laws.BytesString
import Derived.Laws.Cover3
import Derived.LaidEql
set_option linter.all false
section
namespace Go.Ir
def AzP:=@Bool.and_eq_true
def AzQ:=@List.mem_cons_of_mem
def Abn:=@List.length_map
def AzR:=@Nat.le_refl
def AzS:=@Nat.lt_succ_self
def AcT:=@Bool.false_eq_true
def Aem:=@Option.bind_eq_some_iff
def AeM:=@Option.map_eq_some_iff
def Afb:=@List.getElem?_eq_getElem
def Af8:=@List.getElem?_eq_some_iff
def AfT:=@Ne.symm
def AhT:=@List.length_append
def AiL:=@List.length_cons
def Age:=@List.mem_cons_self
def AzT:=@List.mem_of_getElem?
def Ag5:=@Go.Result.andThen_ok
def Akg:=@List.getElem?_map
def Akh:=@Go.Sem.run_bind
def AlG:=@List.map_cons
def Am3:=@List.all_eq_true
def Amy:=@Option.some.injEq
def Am2:=@List.mem_append
def Am9:=@Nat.le_succ
def Ank:=@List.length_nil
def Am5:=@Nat.le_trans
def Am7:=@List.take_length
def Apd:=@Nat.lt_of_lt_of_le
def Am8:=@List.mem_cons
def AmB:=@List.mem_map
def AnC:=@Go.Sem.run_pure
def Ar9:=@Bool.not_eq_true'
def Apy:=@List.map_nil
def Aqn:=@Nat.zero_le
def Arm:=@List.append_nil
def As4:=@Array.getElem?_eq_some_iff
def AsT:=@List.getElem?_append_right
def Atd:=@List.mem_singleton
def Atq:=@Option.isSome_some
def Ats:=@Bool.eq_iff_iff
def At5:=@List.mem_iff_getElem?
def AtC:=@List.eq_nil_of_length_eq_zero
def AtR:=@Option.isSome_iff_exists
def AuF:=@Bool.or_false
def AtX:=@List.getD_eq_getElem?_getD
def AtZ:=@List.take_succ_cons
def Au9:=@Bool.not_true
def Auh:=@List.cons_append
def Au4:=@Bool.true_and
def AxX:=@Bool.or_true
def Avi:=@Array.getElem?_eq_getElem
def AuI:=@List.drop_succ_cons
def AuR:=@Bool.not_false
def AuZ:=@Nat.eq_of_beq_eq_true
def Ava:=@List.getElem?_append_left
def Axr:=@List.mem_filter
def Avo:=@List.nodup_cons
def AvR:=@List.foldl_cons
def AvS:=@List.take_zero
def AxT:=@List.mem_range
def Awy:=@Nat.lt_or_ge
def AwD:=@List.ext_getElem?
def AvY:=@Int.toNat_natCast
def Awj:=@List.mem_append_left
def Awt:=@Go.RowKit.Below.refl
def Awv:=@List.drop_zero
def AwW:=@Option.map_some
def Aw5:=@Nat.zero_add
def AwH:=@List.mem_of_mem_take
def AwM:=@List.nil_append
def AwZ:=@Go.Calls.mono
def Axs:=@List.pairwise_cons
def Axx:=@Array.length_toList
def Axz:=@List.map_congr_left
def AxP:=@Bool.false_or
def Ax6:=@Bool.and_true
def Ays:=@Array.getElem?_toList
def AxA:=@Bool.false_and
def AxB:=@List.getElem?_drop
def Ayn:=@Array.all_eq_true'
def AxE:=@Option.isSome_none
def Azk:=@Array.getD_eq_getD_getElem?
def AxG:=@List.getElem?_cons_succ
def AxJ:=@List.length_take
def AxN:=@List.not_mem_nil
def AxO:=@List.pairwise_append
def AxQ:=@Go.MapKept.run_getObj_map
def AxU:=@Bool.or_eq_true
def AxV:=@Nat.le_of_ble_eq_true
def Aym:=@List.getElem?_take
def Ayj:=@List.any_eq_true
def AxY:=@Array.toArray_toList
def Aya:=@Bool.or_eq_false_iff
def Ayb:=@Nat.beq_eq
def Ayd:=@List.foldl_nil
def Ayf:=@List.getElem?_cons_zero
def Ayp:=@List.take_append_drop
def AyZ:=@Array.getElem?_setIfInBounds_ne
def Ayw:=@List.mem_of_mem_drop
def Ayz:=@Nat.mul_le_mul_right
def Ay3:=@Nat.min_eq_left
def Ay4:=@Bool.eq_false_or_eq_true
def Ay5:=@List.append_assoc
def Ay6:=@Nat.add_assoc
def Ay7:=@Prod.mk.injEq
def Ay8:=@List.isEmpty_iff
def AyS:=@Bool.and_false
def AyC:=@Option.bind_some
def AyE:=@List.filter_eq_nil_iff
def AyF:=@List.dropWhile_sublist
def AyH:=@Nat.eq_zero_or_pos
def AyJ:=@Nat.add_zero
def AyK:=@List.mem_append_right
def AyL:=@List.flatMap_cons
def AyM:=@List.getElem?_modify
def AyR:=@Option.isNone_iff_eq_none
def AyU:=@List.mem_flatMap
def Azi:=@Bool.true_or
def AyX:=@List.filterMap_cons_some
def AyY:=@List.map_map
def Aza:=@List.getElem?_replicate
def Azb:=@List.all_cons
def Azc:=@List.length_set
def Azd:=@List.map_append
def Aze:=@Go.Oper.upon_value
def Azf:=@List.take_of_length_le
def Azg:=@Go.World.ownsRow_nil
def Azh:=@List.length_replicate
def AzU:=@Nat.le_of_lt
def Azj:=@List.length_mergeSort
def Azl:=@List.map_toArray
def Azm:=@List.getElem_mem
def Azn:=@Int.ofNat_eq_natCast
def Azo:=@Nat.ble_eq
def Azp:=@Array.toList_setIfInBounds
def Azq:=@Array.getElem?_append_left
def Azr:=@Nat.add_sub_cancel'
def Azs:=@List.drop_eq_getElem_cons
def Azt:=@List.sublist_append_right
def Azu:=@Go.WideShapes.sorted_perm
def Azv:=@List.getElem?_eq_none_iff
def Azw:=@Go.Addr.add_lit
def Azx:=@Nat.sub_zero
def Azy:=@List.mem_filterMap
def Azz:=@List.filter_append
def Az0:=@List.drop_drop
def Az1:=@Go.World.block_lt_of_cell?
def Az2:=@List.set_eq_take_append_cons_drop
def AzV:=@List.pairwise_lt_range
def Az3:=@List.any_cons
def Az4:=@List.getElem?_eq_none
def Az5:=@List.eq_nil_or_concat
def Az6:=@List.concat_eq_append
def Az7:=@Go.World.cell?_of_block
def Az8:=@Option.map_none
def Az9:=@List.contains_eq_mem
def AzA:=@Nat.not_lt
def AzB:=@Nat.blt_eq
def AzC:=@UInt8.toNat_inj
def AzD:=@Bool.not_not
def AzE:=@Array.toList_modify
def AzF:=@List.filter_eq_self
def AzG:=@List.length_reverse
def AzH:=@List.drop_left
def AzI:=@List.drop_take
def AzJ:=@List.take_take
def AzK:=@Nat.mul_le_mul
def AzL:=@Nat.add_mul
def AzM:=@Bool.not_eq_false'
def AzW:=@Nat.le_succ_of_le
def AzN:=@List.nodup_append
def AzO:=@List.pairwise_map
end Go.Ir
namespace Go.Ir
def fR:Option Nat->Fence
 | none=>Fence.wide
 | some l=>Fence.wide.inRound l
theorem GZ(ro:Option Nat)(f:FuncId):(fR ro).fn f:=by cases ro<;>trivial
theorem GI(ro:Option Nat):(fR ro).depth=none:=by cases ro<;>rfl
theorem dZ(ro:Option Nat):(fR ro).round=ro:=by cases ro<;>rfl
theorem zU(ro:Option Nat)(n:Nat):(fR ro).room n:=λd b=>by rw[GI] at b;cases b
theorem Ug{P:Program}{ro:Option Nat}{n:Nat}{f:FuncId}{args:Array Value}{w:World}{R:Ending->World->Prop}:CallsIn (fR ro) n P f args w R↔Calls P f args w R:=by
 cases ro with
 | none=>exact callsIn_wide
 | some l=>exact callsIn_wide (n:=n)
theorem eW{P:Program}{ro:Option Nat}{n m l:Nat}{f:FuncId}{tmps:Array Value}{assign body:Code}{w:World}{R:Ending->World->Prop}(h:RoundIn Fence.wide m P l f tmps assign body w R):RoundIn (fR ro) n P l f tmps assign body w R:=by refine⟨GZ ro f,λc cs _=>?_⟩;obtain⟨e,w',b,g⟩:=h.2 c cs (zU none _);refine⟨e,w',b,?_⟩;cases ro<;>exact g
end Go.Ir
namespace Go
open Go.Ir
def Code.wpr(P:Program)(ro:Option Nat)(c:Code)(Q:Exit->Act->World->Prop)(a:Act)(w:World):Prop:=c.wpIn (fR ro) 0 P Q a w
def Oper.wpr(P:Program)(ro:Option Nat)(o:Oper)(a:Act)(w:World)(next:Act->World->Prop)(Q:Exit->Act->World->Prop):Prop:=o.wpIn (fR ro) 0 P a w next Q
end Go
namespace Go.Ir
def Gr(P:Program)(ro:Option Nat)(ops:Array Oper)(Q:Exit->Act->World->Prop)(i:Nat)(K:Act->World->Prop)(a:Act)(w:World):Prop:=wpOpIn (fR ro) 0 P ops Q i K a w
def ER(P:Program)(ro:Option Nat)(ops:Array Oper)(Q:Exit->Act->World->Prop)(l:List Nat)(a:Act)(w:World):Prop:=wpOpsIn (fR ro) 0 P ops Q l a w
def LU(P:Program)(ro:Option Nat)(e:Region.Mode)(ops:Array Oper)(Q:Exit->Act->World->Prop)(c:Nat)(b:Array Bool)(a:Act)(w:World):Prop:=wpAnyIn (fR ro) 0 P e ops Q c b a w
section
variable{P:Program}{ro:Option Nat}{Q Q':Exit→Act→World→Prop}{a:Act}{w:World}
theorem Bf{c:Code}(h:c.wpr P ro Q a w)(b:∀e a w,Q e a w->Q' e a w):c.wpr P ro Q' a w:=wpIn_mono h b
theorem QS(h:Q .normal a w):Code.skip.wpr P ro Q a w:=wpIn_skip h
theorem RW{id:Nat}(h:Q (.exit id) a w):(Code.exit id).wpr P ro Q a w:=wpIn_exit h
theorem Wa(h:Q .ret a w):Code.ret.wpr P ro Q a w:=wpIn_ret h
theorem U9{x y:Code}(h:x.wpr P ro (Exit.then (y.wpr P ro Q) Q) a w):(Code.seq x y).wpr P ro Q a w:=wpIn_seq h
theorem NK{id:Nat}{c:Code}(h:c.wpr P ro (Exit.inBlock id Q) a w):(Code.block id c).wpr P ro Q a w:=wpIn_block h
theorem E9{c:Operand}{x y:Code}{t:Bool}(b:a.eval c=.bool t)(f:t=true->x.wpr P ro Q a w)(e:t=false->y.wpr P ro Q a w):(Code.cond c x y).wpr P ro Q a w:=wpIn_cond_split b f e
theorem Gj{id:Nat}{ops:Array Oper}(h:ER P ro ops Q (List.range ops.size) a w):(Code.region id ops false).wpr P ro Q a w:=wpIn_region h
theorem Ek{id:Nat}{ops:Array Oper}(h:∀t,ER P ro ops Q (Region.schedule (P.follows .mixedOrders) ops t) a { w with drawn:=w.drawn+1 }):(Code.region id ops true).wpr P ro Q a w:=wpIn_region_draw h
theorem CZ{ops:Array Oper}(i:Nat)(rest:List Nat)(a:Act)(w:World):ER P ro ops Q (i::rest) a w=Gr P ro ops Q i (ER P ro ops Q rest) a w:=wpOpsIn_cons i rest a w
theorem Gl{ops:Array Oper}{e:Region.Mode}(c t:Nat)(b:Array Bool)(a:Act)(w:World)(h:LU P ro e ops Q c b a w):ER P ro ops Q (Region.linearise.go e ops c t b []) a w:=wpAnyIn_sound c t b a w h
theorem D9{o:Oper}{next:Act->World->Prop}(j:∀c,o.op≠.defer c)(h:o.wp P a w next Q):o.wpr P ro a w next Q:=by
 refine⟨λf _=>GZ ro f,?_⟩;rw[Oper.semAt_eq _ _ _ j];unfold Oper.wp at h;have e:(fR ro).depth.isSome=true->1<=0:=λg=>by rw[GI] at g;cases g
 generalize(execOp a.eval o).run P w=r at h;cases r with
 | ok x w'=>
  cases x<;>simp only[Oper.upon] at h<;>simp only[Oper.uponIn]<;>first
   | exact h
   | exact⟨e,Ug.2 h⟩
   | (refine⟨e,λc cs _=>?_⟩
      obtain⟨v,b,i,k⟩:=h (c:=c) (cs:=cs);exact⟨v,b,i,by cases ro<;>exact stepsIn_wide.2 k⟩)
   | exact h.elim
 | halt x w'=>cases x<;>simp only[Oper.upon] at h<;>simp only[Oper.uponIn]<;>exact h
theorem M3{o:Oper}{ρ:Operand->Value}{w w':World}{f:FuncId}{vals:Array Value}(h:(execOp ρ o).run P w=.ok (.enter f vals) w'):∀c,o.op≠.defer c:=by
 intro c b;simp only[execOp,b,Akh] at h;cases hr:(resolve ρ c o.type).run P w with
 | ok d e=>simp_all
 | halt x e=>simp_all
theorem R8{c:Code}(I:Nat->Act->World->Prop)(r:∀m a w,I m a w->c.wpr P ro (Exit.then (λs w'=>∃A,A<m/\I A s w') Q) a w)(m:Nat)(a:Act)(w:World)(y:I m a w):(Code.loop c).wpr P ro Q a w:=by
 intro b k cs D B hr;have key:∀n a w,I n a w->∃e s w',Q e s w'/\ArrivesIn (Machine.fenced P (fR ro)) P (lone (b.atR a (.code c :: .inLoop c::k)) cs w) b k cs e s w':=by
  intro n
  induction n using Nat.strongRecOn with
  | _ n E=>
   intro a w hI;obtain⟨e,g,h,j,f⟩:=r n a w hI b (.inLoop c::k) cs D B hr;cases e with
   | normal=>obtain⟨A,C,p⟩:=j;obtain⟨u,t,z,q,i⟩:=E A C g h p;exact⟨u,t,z,q,.of_steps (StepsIn.trans f (.one (fenced_calm B hr rfl) stepR_inLoop)) i⟩
   | exit id=>exact⟨_,g,h,j,.pass (x:=.inLoop c) rfl (λ_ _=>.inl (by simp)) f⟩
   | goto l=>exact⟨_,g,h,j,.pass (x:=.inLoop c) rfl (λ_ _=>.inl (by simp)) f⟩
   | ret=>exact⟨_,g,h,j,.pass (x:=.inLoop c) rfl (λ_ _=>.inl (by simp)) f⟩
   | panic F=>exact⟨_,g,h,j,.pass (x:=.inLoop c) rfl (λ_ _=>.inl (by simp)) f⟩
   | outgrown=>exact⟨_,g,h,j,.pass (x:=.inLoop c) rfl (λ_ _=>.inl (by simp)) f⟩
 obtain⟨e,s,w',j,f⟩:=key m a w y;exact⟨e,s,w',j,.of_steps (.one (fenced_calm B hr rfl) stepR_loop) f⟩
end
end Go.Ir
end
section
namespace Go.Ir
open Go.RowKit
abbrev Id:=Nat×Nat
def AI:Nat:=2147483648
def AJ:Nat:=1099511627776
inductive V where
 | b (x:Bool)
 | i (k:IntKind) (n:Int)
 | s (l:List UInt8)
 | nil
 | sl (es:List V)
 | agg (cs:List V)
 | tup (vs:List V)
 | ref (id:Id) (off:Nat)
 | arr (id:Id)
 | aref (id:Id) (ix:Nat) (sz:Nat) (off:Nat)
 | ep (e:V) (off:Nat)
 | fn (f:FuncId) (first caps:List V)
 | np
 | nf
 | ni
 | nm
 | ub
 | iv
 | any
 deriving Inhabited
inductive X where
 | t (s:Nat)
 | c (v:V)
 deriving Inhabited
inductive Cr where
 | str
 | int
 | bool
 | st (l:List (Nat×Cr))
 deriving Inhabited
inductive Aa0 where
 | p
 | f
 | i
 deriving Inhabited
inductive PuK where
 | isnil (ne:Bool)
 | itos
 | btos
 | aidx (n sz:Nat)
 | bit (op:BinOp)
 | shf (op:BinOp)
 | com
 | aget (n sz:Nat) (ag:Bool)
 | eqs (ne:Bool) (l:List (Nat×Cr))
 | nilq (k:Aa0) (ne:Bool)
 | eqp (ne:Bool)
 | stuck
 deriving Inhabited
inductive RdK where
 | mget (kk:Cr) (z:V) (ok:Bool)
 | mlen
 deriving Inhabited
inductive eD where
 | mput (kk:Cr)
 | next
 deriving Inhabited
inductive MkK where
 | mkmap
 | strit
 | tnew (t:TypeId) (z:V)
 | tbx (t:TypeId)
 deriving Inhabited
inductive AE where
 | mv (x:X)
 | pick (c a b:X)
 | bin (op:BinOp) (x y:X)
 | eqb (ne:Bool) (x y:X)
 | not (x:X)
 | neg (x:X)
 | cvi (k:IntKind) (x:X)
 | cvs (x:X)
 | fld (x:X) (off n:Nat) (ag:Bool)
 | faddr (x:X) (off:Nat)
 | iaddr (x i:X) (e sz:Nat)
 | idx (x i:X)
 | load (x:X) (n:Nat) (ag:Bool)
 | store (a x:X) (n:Nat)
 | box (x:X)
 | alloc (z:V)
 | build (z:List V) (ps:List (Nat×Nat×X))
 | msl (own:Bool) (e sz:Nat) (xs:List X)
 | slS (x:X) (lo hi:Option X)
 | slL (x:X) (lo hi:Option X) (sz:Nat)
 | lenS (x:X)
 | lenL (x:X)
 | app (s x:X) (e sz:Nat)
 | apps (s x:X) (e:Nat)
 | slT (x hi:X) (sz:Nat)
 | ext (x:X) (k:Nat)
 | call (f:FuncId) (args:List X)
 | calls (f:FuncId) (args:List X)
 | calln (f:FuncId) (args:List X)
 | callr (f:FuncId) (args:List X)
 | callv (g:X) (args:List X)
 | callvs (g:X) (args:List X)
 | mkfn (f:FuncId) (first caps:List X)
 | mksl (len cap:X) (z:V) (e sz:Nat)
 | mx (lo:Bool) (x:X) (xs:List X)
 | nilck (x:X)
 | pu (k:PuK) (xs:List X)
 | rdm (k:RdK) (m:X) (xs:List X)
 | wrm (k:eD) (m:X) (xs:List X)
 | mkm (k:MkK) (xs:List X)
 | frz (m:X) (n:Nat)
 | mrange (m:X)
 | mentry (m:X)
 | eqr (ne:Bool) (x y:X)
 | callw (g:X) (args:List X)
 | btos (x:X)
 deriving Inhabited
structure I where
 dst:Option Nat
 op:AE
 gd:Option (Nat×Bool)
 ap:List X
 deriving Inhabited
inductive IC where
 | ops (l:List I) (live:List Nat) (paths:List (List Nat))
 | seq (a b:IC)
 | cond (c:X) (a b:IC)
 | block (id:Nat) (c:IC)
 | loop (c:IC)
 | exit (id:Nat)
 | ret
 | skip
 | mnext (d1 d2:Nat) (x:X) (live:List Nat)
 | wk (c:IC)
 | opx (l1:List I) (live1:List Nat) (d:Nat) (f:FuncId) (args:List X) (l2:List I) (live:List Nat)
 | opxd (l1:List I) (live1:List Nat) (d:Nat) (f:FuncId) (args:List X) (live:List Nat) (paths:List (List Nat))
 | opxv (l1:List I) (live1:List Nat) (d:Nat) (x:X) (args:List X) (l2:List I) (live:List Nat)
 | seqr (l:List I) (live:List Nat)
 | opxe (l:List I) (i:I) (live:List Nat) (paths:List (List Nat))
 | anyr (l:List I) (live:List Nat) (deps:List (List Nat))
 | opxq (l1:List I) (live1:List Nat) (d:Nat) (g:Nat) (want:Bool) (f:FuncId) (args:List X) (l2:List I) (live:List Nat)
 | scope (c:IC)
 | rfn (g:X) (ps:List Nat) (a b:IC) (env live:List Nat)
 deriving Inhabited
abbrev A9:=List (Nat×V)
def get:A9->Nat->V
 | [],_=>.any
 | (k,v)::r,s=>if k=s then v else get r s
class F2 where
 ck:Nat->Code->IC->Prop
def cells:V->List V
 | .agg cs=>cs
 | v=>[v]
def V.ok:V->Bool
 | .tup _|.any=>false
 | _=>true
def V.one:V->Bool
 | .agg _|.tup _|.any=>false
 | _=>true
def AC(es:List V):List V:=es.flatMap cells
inductive Ao (μ:Id->Option Value) (H:Addr->Option Value):V->Value->Prop where
 | b (x:Bool):Ao μ H (.b x) (.bool x)
 | i (k:IntKind) (n:Int):Ao μ H (.i k n) (.int k n)
 | s (l:List UInt8) (h:l.length<=AJ):Ao μ H (.s l) (.string ⟨l.toArray⟩)
 | nil:Ao μ H .nil (.slice none 0 0)
 | slE (a:Option Addr) (cap:Nat):Ao μ H (.sl []) (.slice a 0 cap)
 | slC (es:List V) (ad:Addr) (cap sz:Nat) (vals:List Value) (hc:es.length<=cap) (hl:es.length<=AI) (hsz:∀e∈es,(cells e).length=sz)
   (hn:(AC es).length=vals.length) (h1:∀v∈vals,v.oneCell'=true) (hp:∀(k:Nat) (v:Value),vals[k]?=some v->H (ad.add k)=some v)
   (hv:∀(k:Nat) (c:V) (v:Value),(AC es)[k]?=some c->vals[k]?=some v->Ao μ H c v):Ao μ H (.sl es) (.slice (some ad) es.length cap)
 | agg (cs:List V) (vals:List Value) (hn:cs.length=vals.length) (h1:∀v∈vals,v.oneCell'=true)
   (hv:∀(k:Nat) (c:V) (v:Value),cs[k]?=some c->vals[k]?=some v->Ao μ H c v):Ao μ H (.agg cs) (.agg vals.toArray)
 | tup (cs:List V) (vals:List Value) (hn:cs.length=vals.length)
   (hv:∀(k:Nat) (c:V) (v:Value),cs[k]?=some c->vals[k]?=some v->Ao μ H c v):Ao μ H (.tup cs) (.tuple vals.toArray)
 | ref (id:Id) (off bk:Nat) (h:μ id=some (.pointer (some ⟨bk,0,none⟩))):Ao μ H (.ref id off) (.pointer (some ⟨bk,off,none⟩))
 | arr (id:Id) (v:Value) (h:μ id=some v) (h1:v.oneCell'=true):Ao μ H (.arr id) v
 | aref (id:Id) (ix sz off bk len cap:Nat) (h:μ id=some (.slice (some ⟨bk,0,none⟩) len cap)):Ao μ H (.aref id ix sz off) (.pointer (some ⟨bk,ix*sz+off,none⟩))
 | ep (e:V) (off:Nat) (ad:Addr) (vals:List Value) (hn:(cells e).length=vals.length) (h1:∀v∈vals,v.oneCell'=true)
   (hp:∀(k:Nat) (v:Value),vals[k]?=some v->H (ad.add k)=some v)
   (hv:∀(k:Nat) (c:V) (v:Value),(cells e)[k]?=some c->vals[k]?=some v->Ao μ H c v):Ao μ H (.ep e off) (.pointer (some (ad.add off)))
 | fn (f:FuncId) (first caps:List V) (fvals cvals:List Value) (hnf:first.length=fvals.length) (hnc:caps.length=cvals.length)
   (hvf:∀(k:Nat) (c:V) (v:Value),first[k]?=some c->fvals[k]?=some v->Ao μ H c v)
   (hvc:∀(k:Nat) (c:V) (v:Value),caps[k]?=some c->cvals[k]?=some v->Ao μ H c v):Ao μ H (.fn f first caps) (.func (.func f) fvals.toArray cvals.toArray)
 | np:Ao μ H .np (.pointer none)
 | nf:Ao μ H .nf .nilFunc
 | ni:Ao μ H .ni .nilIface
 | nm:Ao μ H .nm (.map none)
 | ub (t:Bool):Ao μ H .ub (.bool t)
 | iv (t:TypeId) (x:Value):Ao μ H .iv (.iface t x)
 | any (v:Value):Ao μ H .any v
structure VRels (μ:Id->Option Value) (H:Addr->Option Value) (cs:List V) (vals:List Value):Prop where
 len:cs.length=vals.length
 at_:∀(k:Nat) (c:V) (v:Value),cs[k]?=some c->vals[k]?=some v->Ao μ H c v
structure AK (μ:Id->Option Value) (H:Addr->Option Value) (cs:List V) (vals:List Value):Prop extends VRels μ H cs vals where
 one:∀v∈vals,v.oneCell'=true
section mono
variable{μ μ':Id→Option Value}{H H':Addr→Option Value}
theorem Ao.mono{v:V}{val:Value}(h:Ao μ H v val)(q:∀id x,μ id=some x->μ' id=some x)(I:∀a x,H a=some x->H' a=some x):Ao μ' H' v val:=by
 induction h with
 | b x=>exact .b x
 | i k n=>exact .i k n
 | s l h=>exact .s l h
 | nil=>exact .nil
 | slE a c=>exact .slE a c
 | slC es y c sz vals J K D p m hp _ r=>exact .slC es y c sz vals J K D p m (λk v A=>I _ _ (hp k v A)) r
 | agg cs vals p m _ r=>exact .agg cs vals p m r
 | tup cs vals p _ r=>exact .tup cs vals p r
 | ref id off z h=>exact .ref id off z (q _ _ h)
 | arr id v h m=>exact .arr id v (q _ _ h) m
 | aref id L sz off z G c h=>exact .aref id L sz off z G c (q _ _ h)
 | ep e off y vals p m hp _ r=>exact .ep e off y vals p m (λk v A=>I _ _ (hp k v A)) r
 | fn f first u j g C B _ _ F E=>exact .fn f first u j g C B F E
 | np=>exact .np
 | nf=>exact .nf
 | ni=>exact .ni
 | nm=>exact .nm
 | ub t=>exact .ub t
 | iv t x=>exact .iv t x
 | any v=>exact .any v
theorem Ao.ub_inv{val:Value}(h:Ao μ H .ub val):∃t,val=.bool t:=by cases h;exact⟨_,rfl⟩
theorem VRels.mono{cs:List V}{vals:List Value}(h:VRels μ H cs vals)(b:∀id x,μ id=some x->μ' id=some x)(e:∀a x,H a=some x->H' a=some x):VRels μ' H' cs vals:=
 ⟨h.len,λk c v f g=>(h.at_ k c v f g).mono b e⟩
theorem AK.mono{cs:List V}{vals:List Value}(h:AK μ H cs vals)(b:∀id x,μ id=some x->μ' id=some x)(c:∀a x,H a=some x->H' a=some x):AK μ' H' cs vals:=
 ⟨h.toVRels.mono b c,h.one⟩
end mono
section lists
variable{μ:Id→Option Value}{H:Addr→Option Value}
theorem VRels.nil_:VRels μ H [] []:=⟨rfl,λk c v h=>by simp at h⟩
theorem VRels.cons{c:V}{v:Value}{cs:List V}{vs:List Value}(h:Ao μ H c v)(b:VRels μ H cs vs):VRels μ H (c::cs) (v::vs):=by
 refine⟨by simp[b.len],λk x y e f=>?_⟩;cases k with
 | zero=>grind
 | succ k=>exact b.at_ k x y (by simpa using e) (by simpa using f)
theorem VRels.append{cs e:List V}{vs us:List Value}(h:VRels μ H cs vs)(f:VRels μ H e us):VRels μ H (cs++e) (vs++us):=by
 refine⟨by simp[h.len,f.len],λk x y b c=>?_⟩;by_cases g:k<cs.length
 .rw[Ava g] at b;rw[Ava (by rw[<-h.len];exact g)] at c;exact h.at_ k x y b c
 .rw[AsT (by omega)] at b;rw[AsT (by rw[<-h.len];omega),<-h.len] at c;exact f.at_ _ x y b c
theorem AK.append{cs b:List V}{vs us:List Value}(h:AK μ H cs vs)(c:AK μ H b us):AK μ H (cs++b) (vs++us):=
 ⟨h.toVRels.append c.toVRels,λv e=>(Am2.1 e).elim (h.one v) (c.one v)⟩
theorem VRels.take{cs:List V}{vs:List Value}(h:VRels μ H cs vs)(n:Nat):VRels μ H (cs.take n) (vs.take n):=by
 refine⟨by simp[h.len],λk x y b c=>?_⟩;rw[Aym] at b c;split at b
 .rename_i e;rw[if_pos e] at c;exact h.at_ k x y b c
 .cases b
theorem VRels.drop{cs:List V}{vs:List Value}(h:VRels μ H cs vs)(n:Nat):VRels μ H (cs.drop n) (vs.drop n):=by refine⟨by simp[h.len],λk x y b c=>?_⟩;rw[AxB] at b c;exact h.at_ _ x y b c
theorem AK.take{cs:List V}{vs:List Value}(h:AK μ H cs vs)(n:Nat):AK μ H (cs.take n) (vs.take n):=
 ⟨h.toVRels.take n,λv b=>h.one v (AwH b)⟩
theorem AK.drop{cs:List V}{vs:List Value}(h:AK μ H cs vs)(n:Nat):AK μ H (cs.drop n) (vs.drop n):=
 ⟨h.toVRels.drop n,λv b=>h.one v (Ayw b)⟩
theorem VRels.get{cs:List V}{vs:List Value}(h:VRels μ H cs vs){k:Nat}{c:V}(e:cs[k]?=some c):∃v,vs[k]?=some v/\Ao μ H c v:=by
 have f:k<cs.length:=(Af8.1 e).1;have b:k<vs.length:=by rw[<-h.len];exact f
 exact⟨vs[k],Afb b,h.at_ k c _ e (Afb b)⟩
theorem AK.nil_:AK μ H [] []:=⟨VRels.nil_,λv b=>by cases b⟩
theorem Ao.toCells{v:V}{val:Value}(h:Ao μ H v val)(I:v.ok=true):AK μ H (cells v) val.cells.toList/\(v.one=true->val.oneCell'=true):=by
 have one:∀{c:V} {x:Value},Ao μ H c x->x.oneCell'=true->AK μ H [c] [x]:=λA L=>⟨VRels.nil_.cons A,λv q=>by grind⟩
 cases h with
 | b x=>exact⟨one (.b x) rfl,λ_=>rfl⟩
 | i k n=>exact⟨one (.i k n) rfl,λ_=>rfl⟩
 | s l h=>exact⟨one (.s l h) rfl,λ_=>rfl⟩
 | nil=>exact⟨one .nil rfl,λ_=>rfl⟩
 | slE a g=>exact⟨one (.slE a g) rfl,λ_=>rfl⟩
 | slC es y g sz vals A J D r j hp q=>exact⟨one (.slC es y g sz vals A J D r j hp q) rfl,λ_=>rfl⟩
 | agg cs vals r j q=>exact⟨⟨⟨r,q⟩,j⟩,λh=>by simp[V.one] at h⟩
 | tup cs vals r q=>simp[V.ok] at I
 | ref id off z h=>exact⟨one (.ref id off z h) rfl,λ_=>rfl⟩
 | arr id v h j=>
  have:val.cells=#[val]:=by cases val<;>first|rfl|simp[Value.oneCell'] at j
  rw[this];exact⟨one (.arr id val h j) j,λ_=>j⟩
 | aref id K sz off z G g h=>exact⟨one (.aref id K sz off z G g h) rfl,λ_=>rfl⟩
 | ep e off y vals r j hp q=>exact⟨one (.ep e off y vals r j hp q) rfl,λ_=>rfl⟩
 | fn f first u p m C B F E=>exact⟨one (.fn f first u p m C B F E) rfl,λ_=>rfl⟩
 | np=>exact⟨one .np rfl,λ_=>rfl⟩
 | nf=>exact⟨one .nf rfl,λ_=>rfl⟩
 | ni=>exact⟨one .ni rfl,λ_=>rfl⟩
 | nm=>exact⟨one .nm rfl,λ_=>rfl⟩
 | ub t=>exact⟨one (.ub t) rfl,λ_=>rfl⟩
 | iv t x=>exact⟨one (.iv t x) rfl,λ_=>rfl⟩
 | any v=>simp[V.ok] at I
end lists
theorem EW{es:List V}{sz:Nat}(h:∀e∈es,(cells e).length=sz):(AC es).length=es.length*sz:=by
 induction es with
 | nil=>simp[AC]
 | cons e es f=>have g:=h e (by simp);have b:=f (λx c=>h x (by simp[c]));simp only[AC,AyL,AhT,AiL] at b⊢;grind
theorem Fn(es xs:List V):AC (es++xs)=AC es++AC xs:=by simp[AC]
theorem JY{es:List V}{sz:Nat}(h:∀e∈es,(cells e).length=sz)(n:Nat):AC (es.drop n)=(AC es).drop (n*sz):=by
 induction n generalizing es with
 | zero=>simp
 | succ n g=>
  cases es with
  | nil=>simp[AC]
  | cons e es=>have b:=h e (by simp);have c:=g (es:=es) (λx f=>h x (by simp[f]));rw[AuI,c];simp only[AC,AyL];rw[AzL,Nat.one_mul,Nat.add_comm,<-Az0,<-b,AzH]
theorem JX{es:List V}{sz:Nat}(h:∀e∈es,(cells e).length=sz)(n:Nat):AC (es.take n)=(AC es).take (n*sz):=by
 induction n generalizing es with
 | zero=>simp[AC]
 | succ n g=>
  cases es with
  | nil=>simp[AC]
  | cons e es=>have c:=h e (by simp);have b:=g (es:=es) (λx f=>h x (by simp[f]));rw[AtZ];simp only[AC,AyL] at b⊢;rw[b,AzL,Nat.one_mul,Nat.add_comm,<-c,List.take_length_add_append]
theorem Yi{es:List V}{sz:Nat}(h:∀e∈es,(cells e).length=sz){i:Nat}{e:V}(b:es[i]?=some e):((AC es).drop (i*sz)).take sz=cells e:=by
 have f:i<es.length:=(Af8.1 b).1;have g:e∈es:=AzT b;have c:=JY h i;rw[<-c];rw[Azs f];have:es[i]=e:=by grind
 simp only[AC,AyL,this];grind
inductive A5 where
 | box (v:V)
 | tbox (t:TypeId) (v:V)
 | arr (e:TypeId) (sz:Nat) (es:List V)
 | map (es:List (V×V))
 | it (l:List UInt8) (pos:Nat)
 | mit (mid:Id) (since:Nat) (seen:List Nat) (stepped:Nat)
 | loop (nt:Nat) (env:A9) (ps:List Nat) (a b:IC) (st:LoopState) (pd:Option (Option Nat))
 deriving Inhabited
def pdC:Option (Option Nat)->Option Code
 | none=>none
 | some none=>some .ret
 | some (some k)=>some (.exit k)
abbrev Aj:=List (Id×A5)
def lk:Aj->Id->Option A5
 | [],_=>none
 | (k,e)::r,id=>if k=id then some e else lk r id
def BB(v:Option Value):Option Nat:=
 match v with
 | some (.pointer (some a))=>some a.block
 | some (.slice (some a) _ _)=>some a.block
 | some (.map (some r))=>some r
 | some (.func (.yield l) _ _)=>some l
 | _=>none
structure bD (μ:Id->Option Value) (H:Addr->Option Value) (es:List (V×V)) (ms:List MapEntry) (clock:Nat):Prop where
 len:es.length=ms.length
 at_:∀(k:Nat) (c:V×V) (m:MapEntry),es[k]?=some c->ms[k]?=some m->Ao μ H c.1 m.key/\Ao μ H c.2 m.val
 born:∀(k:Nat) (m:MapEntry),ms[k]?=some m->m.born=k
 now:clock=ms.length
theorem bD.mono{μ μ':Id->Option Value}{H H':Addr->Option Value}{es:List (V×V)}{ms:List MapEntry}{b:Nat}(h:bD μ H es ms b)(e:∀id x,μ id=some x->μ' id=some x)(i:∀a x,H a=some x->H' a=some x):bD μ' H' es ms b:=
 ⟨h.len,λk c m f g=>⟨(h.at_ k c m f g).1.mono e i,(h.at_ k c m f g).2.mono e i⟩,h.born,h.now⟩
variable[F2]
def Cp(B:Nat)(μ:Id->Option Value)(H:Addr->Option Value)(w:World)(id:Id):A5->Prop
 | .box v=>∃g vals t,μ id=some (.pointer (some ⟨g,0,none⟩))/\B<=g/\w.heap[g]?=some (.cells vals t (0,0))/\AK μ H (cells v) vals.toList
 | .tbox t v=>∃g vals,μ id=some (.pointer (some ⟨g,0,none⟩))/\B<=g/\w.heap[g]?=some (.cells vals t (0,0))/\AK μ H (cells v) vals.toList
 | .map es=>∃r i c,μ id=some (.map (some r))/\B<=r/\w.heap[r]?=some (.map i c)/\bD μ H es i.toList c
 | .it l j=>∃r,μ id=some (.pointer (some ⟨r,0,none⟩))/\B<=r/\w.heap[r]?=some (.stringIter ⟨l.toArray⟩ j)
 | .mit mid h seen f=>∃r m,μ id=some (.pointer (some ⟨r,0,none⟩))/\B<=r/\μ mid=some (.map (some m))/\w.heap[r]?=some (.mapIter (some m) h seen.toArray f)
 | .arr e sz es=>∃v vals,μ id=some v/\v.oneCell'=true/\w.ownsRow B e sz v es.length vals/\es.length<=AI/\(∀x∈es,(cells x).length=sz)/\AK μ H (AC es) vals
 | .loop nt env ps a b st k=>∃l r,μ id=some (.func (.yield l) #[] #[])/\B<=l/\w.heap[l]?=some (.loop r)/\(r.state=st/\r.pending=pdC k/\r.params.toList=ps/\F2.ck nt r.assign a/\F2.ck nt r.body b/\r.tmps.size=nt)/\∀s,Ao μ H (get env s) (r.tmps.getD s undef)
def E3(μ:Id->Option Value)(σ:Aj)(b:Nat):Prop:=∃id e,lk σ id=some e/\BB (μ id)=some b
structure Hp (W0:World) (σ:Aj) (n:Nat) (μ:Id->Option Value) (H:Addr->Option Value) (w:World):Prop where
 base:Below W0.heap.size W0 w
 pins:∀ad v,H ad=some v->w.cell? ad=some v
 ents:∀id e,lk σ id=some e->Cp W0.heap.size μ H w id e
 unp:∀bk,E3 μ σ bk->∀ad:Addr,ad.block=bk->H ad=none
 sep:∀id e id' e' bk,lk σ id=some e->lk σ id'=some e'->BB (μ id)=some bk->BB (μ id')=some bk->id=id'
 bd:∀id,n<=id.1->μ id=none
structure Fr (μ:Id->Option Value) (H:Addr->Option Value) (σ:Aj) (w:World) (μ':Id->Option Value) (H':Addr->Option Value) (σ':Aj) (w':World):Prop where
 mu:∀id x,μ id=some x->μ' id=some x
 hp:∀ad v,H ad=some v->H' ad=some v
 size:w.heap.size<=w'.heap.size
 keep:∀bk,bk<w.heap.size->¬E3 μ σ bk->w'.heap[bk]?=w.heap[bk]?
 pin:∀ad:Addr,ad.block<w.heap.size->¬E3 μ σ ad.block->H' ad=H ad
 dom:∀bk,bk<w.heap.size->E3 μ' σ' bk->E3 μ σ bk
theorem Fr.refl(μ:Id->Option Value)(H:Addr->Option Value)(σ:Aj)(w:World):Fr μ H σ w μ H σ w:=
 ⟨λ_ _ h=>h,λ_ _ h=>h,AzR _,λ_ _ _=>rfl,λ_ _ _=>rfl,λ_ _ h=>h⟩
theorem Fr.trans{μ b c:Id->Option Value}{H f g:Addr->Option Value}{σ σ1 e:Aj}{w i j:World}(h:Fr μ H σ w b f σ1 i)(k:Fr b f σ1 i c g e j):Fr μ H σ w c g e j where
 mu id x hx:=k.mu _ _ (h.mu _ _ hx)
 hp ad v hv:=k.hp _ _ (h.hp _ _ hv)
 size:=Am5 h.size k.size
 keep bk hb ho:=(k.keep bk (Apd hb h.size) (λo=>ho (h.dom bk hb o))).trans (h.keep bk hb ho)
 pin ad hb ho:=(k.pin ad (Apd hb h.size) (λo=>ho (h.dom _ hb o))).trans (h.pin ad hb ho)
 dom bk hb ho:=h.dom bk hb (k.dom bk (Apd hb h.size) ho)
section hp
variable{W0 w:World}{σ:Aj}{n:Nat}{μ:Id→Option Value}{H:Addr→Option Value}
theorem Cp.block{B:Nat}{id:Id}{e:A5}{q:Nat}(h:Cp B μ H w id e)(c:BB (μ id)=some q):B<=q/\q<w.heap.size:=by
 cases e with
 | box v=>obtain⟨g,vals,t,j,hB,k,_⟩:=h;rw[j] at c;simp[BB] at c;grind
 | tbox t v=>obtain⟨g,vals,j,hB,k,_⟩:=h;rw[j] at c;simp[BB] at c;grind
 | arr e sz es=>
  obtain⟨v,vals,j,_,i,_⟩:=h;rw[j] at c;refine i.lt q ?_;cases v with
  | slice a A z=>cases a with
   | none=>simp[BB] at c
   | some a=>simpa[BB,Value.ownBlock] using c
  | pointer a=>rcases i.2 with⟨h,_⟩|⟨_,_,_,h,_⟩<;>cases h
  | map a=>rcases i.2 with⟨h,_⟩|⟨_,_,_,h,_⟩<;>cases h
  | func f x y=>rcases i.2 with⟨h,_⟩|⟨_,_,_,h,_⟩<;>cases h
  | _=>simp[BB] at c
 | map es=>obtain⟨r,C,s,j,hB,k,_⟩:=h;rw[j] at c;simp[BB] at c;grind
 | it l D=>obtain⟨r,j,hB,k⟩:=h;rw[j] at c;simp[BB] at c;grind
 | mit mid u seen p=>obtain⟨r,m,j,hB,_,k⟩:=h;rw[j] at c;simp[BB] at c;grind
 | loop nt env ps a b st E=>obtain⟨l,r,j,hB,k,_⟩:=h;rw[j] at c;simp[BB] at c;grind
theorem Cp.named{B:Nat}{id:Id}{e:A5}(h:Cp B μ H w id e):∃x,μ id=some x:=by
 cases e with
 | box v=>obtain⟨_,_,_,c,_⟩:=h;exact⟨_,c⟩
 | tbox t v=>obtain⟨_,_,c,_⟩:=h;exact⟨_,c⟩
 | arr e sz es=>obtain⟨_,_,c,_⟩:=h;exact⟨_,c⟩
 | map es=>obtain⟨_,_,_,c,_⟩:=h;exact⟨_,c⟩
 | it l i=>obtain⟨_,c,_⟩:=h;exact⟨_,c⟩
 | mit mid g seen f=>obtain⟨_,_,c,_⟩:=h;exact⟨_,c⟩
 | loop nt env ps a b st j=>obtain⟨_,_,c,_⟩:=h;exact⟨_,c⟩
theorem Hp.own_lt(h:Hp W0 σ n μ H w){b:Nat}(g:E3 μ σ b):W0.heap.size<=b/\b<w.heap.size:=by obtain⟨id,e,f,c⟩:=g;exact(h.ents id e f).block c
theorem Cp.keep{B:Nat}{μ':Id->Option Value}{H':Addr->Option Value}{w':World}{id:Id}{e:A5}(h:Cp B μ H w id e)
  (c:∀id x,μ id=some x->μ' id=some x)(u:∀a x,H a=some x->H' a=some x)(p:∀z,BB (μ id)=some z->w'.heap[z]?=w.heap[z]?):Cp B μ' H' w' id e:=by
 cases e with
 | box v=>obtain⟨g,vals,t,f,hB,i,q⟩:=h;exact⟨g,vals,t,c _ _ f,hB,by rw[p g (by simp[f,BB])];exact i,q.mono c u⟩
 | tbox t v=>obtain⟨g,vals,f,hB,i,q⟩:=h;exact⟨g,vals,c _ _ f,hB,by rw[p g (by simp[f,BB])];exact i,q.mono c u⟩
 | arr e sz es=>
  obtain⟨v,vals,f,I,j,K,E,q⟩:=h;refine⟨v,vals,c _ _ f,I,⟨j.1,?_⟩,K,E,q.mono c u⟩;rcases j.2 with J|⟨g,A,C,rfl,hB,i,r⟩
  .exact .inl J
  .exact .inr ⟨g,A,C,rfl,hB,by rw[p g (by simp[f,BB])];exact i,r⟩
 | map es=>obtain⟨r,F,k,f,hB,i,q⟩:=h;exact⟨r,F,k,c _ _ f,hB,by rw[p r (by simp[f,BB])];exact i,q.mono c u⟩
 | it l N=>obtain⟨r,f,hB,i⟩:=h;exact⟨r,c _ _ f,hB,by rw[p r (by simp[f,BB])];exact i⟩
 | mit mid G seen y=>obtain⟨r,m,f,hB,D,i⟩:=h;exact⟨r,m,c _ _ f,hB,c _ _ D,by rw[p r (by simp[f,BB])];exact i⟩
 | loop nt env ps a b st O=>obtain⟨l,r,f,hB,i,M,L⟩:=h;exact⟨l,r,c _ _ f,hB,by rw[p l (by simp[f,BB])];exact i,M,λs=>(L s).mono c u⟩
end hp
end Go.Ir
end
section
namespace Go.Ir
open Go.RowKit
variable[F2]
def ev(g:Nat->V):X->V
 | .t s=>g s
 | .c v=>v
def put(env:A9)(d:Option Nat)(v:V):A9:=
 match d with
 | some d=>(d,v)::env
 | none=>env
def MP:V->Bool
 | .agg _=>true
 | _=>false
def Xf(v:V):V:=.agg (cells v)
def sub(v:V)(off n:Nat)(b:Bool):Option V:=
 if b then(if off=0/\(cells v).length=n then some (Xf v) else if off+n<=(cells v).length then some (.agg (((cells v).drop off).take n)) else none)
 else(cells v)[off]?
def Da(u:V)(off n:Nat)(x:V):Option V:=
 if(cells x).length=n then
  (if off=0/\(cells u).length=n/\MP u=MP x then some x
  else if off+n<=(cells u).length then some (.agg ((cells u).take off++cells x++(cells u).drop (off+n))) else none)
 else none
def upd:Aj->Id->A5->Aj
 | [],_,_=>[]
 | (k,e)::r,id,b=>if k=id then(k,b)::r else(k,e)::upd r id b
def del:Aj->Id->Aj
 | [],_=>[]
 | (k,e)::r,id=>if k=id then del r id else(k,e)::del r id
def over(σi σo σ:Aj):Aj:=σo++σ.filter λp=>(lk σi p.1).isNone
def Es(z:List V):List (Nat×Nat×V)->Option (List V)
 | []=>some z
 | (off,n,v)::r=>if(cells v).length=n/\off+n<=z.length then Es (z.take off++cells v++z.drop (off+n)) r else none
def A4(σ:Aj):V->Option (List V)
 | .sl xs=>some xs
 | .nil=>some []
 | .arr id=>match lk σ id with
  | some (.arr _ _ es)=>some es
  | _=>none
 | _=>none
def Fq(g:Nat->V)(b:Nat):Option X->Option Nat
 | none=>some b
 | some x=>match ev g x with
  | .i _ n=>if 0<=n then some n.toNat else none
  | _=>none
def Ry(op:BinOp)(k:IntKind)(a b:Int)(v:V):Prop:=
 match op with
 | .add=>v=.i k (k.wrap (a+b))
 | .sub=>v=.i k (k.wrap (a-b))
 | .mul=>v=.i k (k.wrap (a*b))
 | .quo=>b≠0/\v=.i k (k.wrap (a.tdiv b))
 | .rem=>b≠0/\v=.i k (a.tmod b)
 | .eql=>v=.b (a==b)
 | .neq=>v=.b (a !=b)
 | .lss=>v=.b (decide (a<b))
 | .leq=>v=.b (decide (a<=b))
 | .gtr=>v=.b (decide (a>b))
 | .geq=>v=.b (decide (a>=b))
 | _=>False
def QV(op:BinOp)(a b:List UInt8)(v:V):Prop:=
 match op with
 | .add=>a.length+b.length<=AJ/\v=.s (a++b)
 | .eql=>v=.b (a==b)
 | .neq=>v=.b (!(a==b))
 | .lss=>v=.b (Op.bytesLess a b)
 | .leq=>v=.b (Op.bytesLess a b||a==b)
 | .gtr=>v=.b (!(Op.bytesLess a b||a==b))
 | .geq=>v=.b (!Op.bytesLess a b)
 | _=>False
def Pf(op:BinOp)(x y v:V):Prop:=
 match x,y with
 | .i k a,.i c b=>k=c/\Ry op k a b v
 | .s a,.s b=>QV op a b v
 | _,_=>False
def P4(c:Bool):V->List V->Option V
 | v,[]=>some v
 | .i k a,.i e b::r=>if k=e then P4 c (.i k (if c then min a b else max a b)) r else none
 | _,_=>none
def DB:Cr->V->V->Option Bool
 | .str,.s a,.s b=>some (a==b)
 | .int,.i k a,.i c b=>if k=c then some (a==b) else none
 | .bool,.b a,.b b=>some (a==b)
 | _,_,_=>none
def eqO(a b:List V):List (Nat×Cr)->Option Bool
 | []=>some true
 | (o,c)::r=>match a[o]?,b[o]? with
  | some x,some y=>match DB c x y with
   | some true=>eqO a b r
   | some false=>some false
   | none=>none
  | _,_=>none
def Ef(c:Cr)(x y:V):Option Bool:=
 match c,x,y with
 | .st l,.agg a,.agg b=>if a.length=l.length/\b.length=l.length then eqO a b l else none
 | .str,x,y=>DB .str x y
 | .int,x,y=>DB .int x y
 | .bool,x,y=>DB .bool x y
 | _,_,_=>none
def Ko:Cr->V->Bool
 | .str,.s _|.int,.i _ _|.bool,.b _=>true
 | .st l,.agg a=>a.length==l.length
 | _,_=>false
def Bs(b:Cr)(k:V):List (V×V)->Nat->Option (Option (Nat×V))
 | [],_=>if Ko b k then some none else none
 | e::es,i=>match Ef b k e.1 with
  | some true=>some (some (i,e.2))
  | some false=>Bs b k es (i+1)
  | none=>none
def Ay(l:List UInt8):List V:=l.map λc=>.i .u8 c.toNat
def EN:List V->Option (List UInt8)
 | []=>some []
 | .i .u8 n::r=>(EN r).map (UInt8.ofNat n.toNat :: ·)
 | _=>none
def JR:Aa0->V->Option Bool
 | .p,.np=>some true
 | .p,.ref _ _=>some false
 | .p,.aref _ _ _ _=>some false
 | .p,.ep _ _=>some false
 | .f,.nf=>some true
 | .f,.fn _ _ _=>some false
 | .i,.ni=>some true
 | .i,.iv=>some false
 | _,_=>none
def Aii:V->V->Option Bool
 | .np,y=>JR .p y
 | x,.np=>JR .p x
 | .ref id o,.ref b c=>if id=b then some (o==c) else none
 | _,_=>none
def MT:A5->Bool
 | .box _=>true
 | .tbox _ _=>true
 | _=>false
def GN(σ:Aj):V->V->Option Bool
 | .np,y=>JR .p y
 | x,.np=>JR .p x
 | .ref id o,.ref b f=>if id=b then some (o==f) else(lk σ id).bind λe=>(lk σ b).bind λc=>if MT e&&MT c then some false else none
 | _,_=>none
def eqN(c r:Bool):V:=.b (if c then !r else r)
def o3(op:BinOp)(k:IntKind)(a b:Int):Option V:=
 match op with
 | .and=>some (.i k (k.wrap (BitVec.ofInt k.bits a &&& BitVec.ofInt k.bits b).toNat))
 | .or=>some (.i k (k.wrap (BitVec.ofInt k.bits a ||| BitVec.ofInt k.bits b).toNat))
 | .xor=>some (.i k (k.wrap (BitVec.ofInt k.bits a ^^^ BitVec.ofInt k.bits b).toNat))
 | .andNot=>some (.i k (k.wrap (BitVec.ofInt k.bits a &&& ~~~BitVec.ofInt k.bits b).toNat))
 | _=>none
def AlD(op:BinOp)(k:IntKind)(a b:Int):Option V:=
 match op with
 | .shl=>some (.i k (k.wrap (a*2 ^ min b.toNat k.bits)))
 | .shr=>some (.i k (a.fdiv (2 ^ min b.toNat k.bits)))
 | _=>none
def Fv:PuK->List V->Option V
 | .isnil c,[.nil]=>some (.b (!c))
 | .isnil c,[.sl []]=>some .ub
 | .isnil c,[.sl (_::_)]=>some (.b c)
 | .itos,[.i _ n]=>some (.s (Utf8.encode n).data.toList)
 | .btos,[.sl es]=>(EN es).map .s
 | .btos,[.nil]=>some (.s [])
 | .aidx n sz,[.ref id off,.i _ i]=>if 0<=i/\i<(n:Int) then some (.ref id (off+i.toNat*sz)) else none
 | .bit op,[.i k a,.i f b]=>if k=f then o3 op k a b else none
 | .shf op,[.i k a,.i _ b]=>if 0<=b then AlD op k a b else none
 | .aget n sz e,[.agg cs,.i _ i]=>if 0<=i/\i<(n:Int) then sub (.agg cs) (i.toNat*sz) sz e else none
 | .eqs c l,[.agg a,.agg b]=>(eqO a b l).map λr=>.b (if c then !r else r)
 | .nilq k c,[x]=>(JR k x).map λr=>.b (if c then !r else r)
 | .eqp c,[x,y]=>(Aii x y).map λr=>.b (if c then !r else r)
 | .com,[.i k a]=>o3 .xor k (if k.signed then -1 else k.max) a
 | _,_=>none
def rdF:RdK->A5->List V->Option V
 | .mget c z ok,.map es,[k]=>(Bs c k es 0).map λr=>match r with
  | some (_,v)=>if ok then .tup [v,.b true] else v
  | none=>if ok then .tup [z,.b false] else z
 | .mlen,.map es,[]=>some (.i .i64 es.length)
 | _,_,_=>none
def fG:eD->A5->List V->Option (A5×V)
 | .mput g,.map es,[k,v]=>(Bs g k es 0).map λr=>match r with
  | some (i,_)=>(.map (es.modify i λe=>(e.1,v)),.tup [])
  | none=>(.map (es++[(k,v)]),.tup [])
 | .next,.it l f,[]=>if f<l.length then(let c:=Utf8.decode ⟨l.toArray⟩ f;some (.it l (f+c.2),.tup [.b true,.i .i64 f,.i .i32 c.1])) else some (.it l f,.tup [.b false])
 | _,_,_=>none
def Xe:MkK->List V->Option A5
 | .mkmap,[]=>some (.map [])
 | .strit,[.s l]=>some (.it l 0)
 | .tnew t z,[]=>some (.tbox t z)
 | .tbx t,[x]=>if x.ok=true then some (.tbox t x) else none
 | _,_=>none
def yJ:MkK->Id->V
 | .tnew _ _,id|.tbx _,id=>.ref id 0
 | _,id=>.arr id
def ldB(c:A5)(off n:Nat)(b:Bool):Option V:=
 match c with
 | .box u=>sub u off n b
 | .tbox _ u=>sub u off n b
 | _=>none
def V2(b:A5)(off n:Nat)(x:V):Option A5:=
 match b with
 | .box u=>(Da u off n x).map .box
 | .tbox t u=>(Da u off n x).map (.tbox t)
 | _=>none
theorem Sf{b:A5}{off n:Nat}{c:Bool}{v:V}(h:ldB b off n c=some v):∃u,(b=.box u\/∃t,b=.tbox t u)/\sub u off n c=some v:=by unfold ldB at h;grind
theorem Qp{e b:A5}{off n:Nat}{x:V}(h:V2 e off n x=some b):∃u c,Da u off n x=some c/\(e=.box u/\b=.box c\/∃t,e=.tbox t u/\b=.tbox t c):=by
 unfold V2 at h;split at h
 .rename_i u;cases f:Da u off n x with
  | none=>rw[f] at h;cases h
  | some c=>grind
 .rename_i t u;cases f:Da u off n x with
  | none=>rw[f] at h;cases h
  | some c=>grind
 .cases h
def callable(P:Program)(f:FuncId):Bool:=
 match P.funcs[f]? with
 | some fn => fn.body.isSome&&!(fn.name == "runtime.NumGoroutine")
 | none=>false
structure Al (P:Program) (W0:World) (f:FuncId) (args:List V) (σ:Aj) (v:V) (σ':Aj):Prop where
 callable:callable P f=true
 dom:∀id,lk σ' id≠none->lk σ id≠none
 run:∀n w μ H vals,Hp W0 σ n μ H w->VRels μ H args vals->Calls P f vals.toArray w fun e w'=>
  ∃val μ' H' n',e=.returned val/\Ao μ' H' v val/\Hp W0 σ' n' μ' H' w'/\n<=n'/\Fr μ H σ w μ' H' σ' w'/\∀id,id.1<n->μ id=none->μ' id=none
structure Iu (P:Program) (W0:World) (f:FuncId) (args:List V) (σ:Aj) (x:A5) (σ':Aj):Prop where
 callable:callable P f=true
 dom:∀id,lk σ' id≠none->lk σ id≠none
 run:∀n w μ H vals,Hp W0 σ n μ H w->VRels μ H args vals->Calls P f vals.toArray w fun e' w'=>
  ∃val μ' H' n' id,e'=.returned val/\μ' id=some val/\val.oneCell'=true/\μ id=none/\lk σ' id=none/\Hp W0 ((id,x)::σ') n' μ' H' w'/\n<=n'/\Fr μ H σ w μ' H' ((id,x)::σ') w'/\∀id,id.1<n->μ id=none->μ' id=none
def E(P:Program)(W0:World)(ep:Nat)(d:Option Nat)(op:AE)(g:Nat->V)(σ:Aj)(v:V)(σ':Aj):Prop:=
 match op with
 | .mv x=>v=ev g x/\σ'=σ
 | .pick c a b=>∃t,ev g c=.b t/\v=(bif t then ev g a else ev g b)/\σ'=σ
 | .bin op x y=>Pf op (ev g x) (ev g y) v/\σ'=σ
 | .eqb O x y=>∃a b,ev g x=.b a/\ev g y=.b b/\v=.b (if O then !(a==b) else a==b)/\σ'=σ
 | .not x=>∃a,ev g x=.b a/\v=.b (!a)/\σ'=σ
 | .neg x=>∃k n,ev g x=.i k n/\v=.i k (k.wrap (0-n))/\σ'=σ
 | .cvi k x=>∃M n,ev g x=.i M n/\v=.i k (k.wrap n)/\σ'=σ
 | .cvs x=>∃l,ev g x=.s l/\v=.s l/\σ'=σ
 | .fld x off n D=>MP (ev g x)=true/\sub (ev g x) off n D=some v/\σ'=σ
 | .faddr x off=>(match ev g x with
  | .ref id o=>v=.ref id (o+off)
  | .aref id C sz o=>v=.aref id C sz (o+off)
  | .ep e o=>v=.ep e (o+off)
  | _=>False)/\σ'=σ
 | .iaddr x i e sz=>(match ev g i with
  | .i _ n=>0<=n/\(match ev g x with
   | .sl es=>∃A,es[n.toNat]?=some A/\(cells A).length=sz/\v=.ep A 0
   | .arr id=>∃L es,lk σ id=some (.arr L sz es)/\n.toNat<es.length/\v=.aref id n.toNat sz 0
   | _=>False)
  | _=>False)/\σ'=σ
 | .idx x i=>∃l k n c,ev g x=.s l/\ev g i=.i k n/\0<=n/\l[n.toNat]?=some c/\v=.i .u8 c.toNat/\σ'=σ
 | .load x n D=>(match ev g x with
  | .ref id off=>∃G,lk σ id=some G/\ldB G off n D=some v
  | .aref id C sz off=>∃e es A,lk σ id=some (.arr e sz es)/\es[C]?=some A/\sub A off n D=some v
  | .ep u off=>sub u off n D=some v
  | _=>False)/\σ'=σ
 | .store a x n=>(ev g x).ok=true/\v=.tup []/\(match ev g a with
  | .ref id off=>∃G I,lk σ id=some G/\V2 G off n (ev g x)=some I/\σ'=upd σ id I
  | .aref id C sz off=>∃e es A F,lk σ id=some (.arr e sz es)/\es[C]?=some A/\Da A off n (ev g x)=some F/\σ'=upd σ id (.arr e sz (es.set C F))
  | _=>False)
 | .box x=>∃j,d=some j/\(ev g x).ok=true/\v=.ref (ep,j) 0/\σ'=((ep,j),.box (ev g x))::σ
 | .alloc z=>∃j,d=some j/\v=.ref (ep,j) 0/\σ'=((ep,j),.box z)::σ
 | .build z ps=>(∀p∈ps,(ev g p.2.2).ok=true)/\(∃cs,Es z (ps.map λp=>(p.1,p.2.1,ev g p.2.2))=some cs/\v=.agg cs)/\σ'=σ
 | .msl own e sz xs=>(∀x∈xs.map (ev g),x.ok=true/\(cells x).length=sz)/\(if own then ∃j,d=some j/\v=.arr (ep,j)/\σ'=((ep,j),.arr e sz (xs.map (ev g)))::σ else v=.sl (xs.map (ev g))/\σ'=σ)
 | .slS x K J=>∃l a b,ev g x=.s l/\Fq g 0 K=some a/\Fq g l.length J=some b/\a<=b/\b<=l.length/\v=.s ((l.take b).drop a)/\σ'=σ
 | .slL x K J sz=>∃es a b,(ev g x=.sl es\/ev g x=.nil/\es=[])/\Fq g 0 K=some a/\Fq g es.length J=some b/\a<=b/\b<=es.length/\(∀y∈es,(cells y).length=sz)/\v=.sl ((es.take b).drop a)/\σ'=σ
 | .lenS x=>∃l,ev g x=.s l/\v=.i .i64 l.length/\σ'=σ
 | .lenL x=>∃es,A4 σ (ev g x)=some es/\v=.i .i64 es.length/\σ'=σ
 | .app s x e sz=>∃j xs,d=some j/\A4 σ (ev g x)=some xs/\(∀y∈xs,(cells y).length=sz)/\v=.arr (ep,j)/\(match ev g s with
  | .nil=>xs.length<=AI/\σ'=((ep,j),.arr e sz xs)::σ
  | .arr id=>∃es,lk σ id=some (.arr e sz es)/\es.length+xs.length<=AI/\σ'=((ep,j),.arr e sz (es++xs))::del σ id
  | _=>False)
 | .apps s x e=>∃j l,d=some j/\ev g x=.s l/\v=.arr (ep,j)/\(match ev g s with
  | .nil=>l.length<=AI/\σ'=((ep,j),.arr e 1 (Ay l))::σ
  | .arr id=>∃es,lk σ id=some (.arr e 1 es)/\es.length+l.length<=AI/\σ'=((ep,j),.arr e 1 (es++Ay l))::del σ id
  | _=>False)
 | .slT x J sz=>∃j id e es q,d=some j/\ev g x=.arr id/\lk σ id=some (.arr e sz es)/\Fq g es.length (some J)=some q/\q<=es.length/\v=.arr (ep,j)/\σ'=((ep,j),.arr e sz (es.take q))::del σ id
 | .ext x k=>∃vs,ev g x=.tup vs/\vs[k]?=some v/\σ'=σ
 | .call f args=>Al P W0 f (args.map (ev g)) [] v []/\σ'=σ
 | .calls f args=>∃σi σo,Al P W0 f (args.map (ev g)) σi v σo/\(∀id e,lk σi id=some e->lk σ id=some e)/\σ'=over σi σo σ
 | .calln f args=>∃j σi σo x,d=some j/\Iu P W0 f (args.map (ev g)) σi x σo/\(∀id e,lk σi id=some e->lk σ id=some e)/\v=.arr (ep,j)/\σ'=((ep,j),x)::over σi σo σ
 | .callr f args=>(∃σi,Al P W0 f (args.map (ev g)) σi v σi/\(∀id e,lk σi id=some e->lk σ id=some e))/\σ'=σ
 | .callv h args=>∃f first r,ev g h=.fn f first r/\Al P W0 f (first++args.map (ev g)++r) [] v []/\σ'=σ
 | .callvs h args=>∃f first r σi σo,ev g h=.fn f first r/\Al P W0 f (first++args.map (ev g)++r) σi v σo/\(∀id e,lk σi id=some e->lk σ id=some e)/\σ'=over σi σo σ
 | .mkfn f first r=>v=.fn f (first.map (ev g)) (r.map (ev g))/\σ'=σ
 | .mksl l c z e sz=>∃j k M n m,d=some j/\ev g l=.i k (Int.ofNat n)/\ev g c=.i M (Int.ofNat m)/\n<=m/\m<=AI/\v=.arr (ep,j)/\σ'=((ep,j),.arr e sz (List.replicate n z))::σ
 | .mx K x xs=>P4 K (ev g x) (xs.map (ev g))=some v/\σ'=σ
 | .nilck x=>(match ev g x with
  | .ref _ _|.aref _ _ _ _|.ep _ _|.fn _ _ _=>True
  | _=>False)/\v=ev g x/\σ'=σ
 | .pu k xs=>Fv k (xs.map (ev g))=some v/\σ'=σ
 | .rdm k m xs=>(∃id e,ev g m=.arr id/\lk σ id=some e/\rdF k e (xs.map (ev g))=some v)/\σ'=σ
 | .wrm k m xs=>∃id e L,ev g m=.arr id/\lk σ id=some e/\fG k e (xs.map (ev g))=some (L,v)/\σ'=upd σ id L
 | .mkm k xs=>∃j e,d=some j/\Xe k (xs.map (ev g))=some e/\v=yJ k (ep,j)/\σ'=((ep,j),e)::σ
 | .frz m n=>∃id cs,ev g m=.ref id 0/\lk σ id=some (.box (.agg cs))/\cs.length=n/\(∀c∈cs,cells c=[c])/\v=.sl cs/\σ'=del σ id
 | .mrange m=>∃j mid es,d=some j/\ev g m=.arr mid/\lk σ mid=some (.map es)/\v=.arr (ep,j)/\σ'=((ep,j),.mit mid es.length [] es.length)::σ
 | .mentry m=>∃id mid B seen i es N,ev g m=.arr id/\lk σ id=some (.mit mid B seen es.length)/\seen.getLast?=some i/\lk σ mid=some (.map es)/\es[i]?=some N/\v=.tup [N.1,N.2]/\σ'=σ
 | .eqr O x y=>(GN σ (ev g x) (ev g y)).map (eqN O)=some v/\σ'=σ
 | .callw _ _=>False
 | .btos x=>∃es,A4 σ (ev g x)=some es/\(EN es).map .s=some v/\σ'=σ
def AE.cs:AE->List X
 | .load x _ _|.lenL x|.iaddr x _ _ _|.store x _ _|.btos x=>[x]
 | .app s x _ _=>[s,x]
 | .apps s _ _=>[s]
 | .slT x _ _=>[x]
 | .rdm _ m _|.wrm _ m _=>[m]
 | .frz m _|.mrange m|.mentry m=>[m]
 | _=>[]
def BP:V->Option Id
 | .ref id _=>some id
 | .aref id _ _ _=>some id
 | .arr id=>some id
 | _=>none
def aB(i:I)(g:Nat->V):Prop:=∀x∈i.ap,∀y∈i.op.cs,∀id,BP (ev g x)=some id->BP (ev g y)≠some id
def AE.cl:AE->Bool
 | .calls ..|.calln ..|.callvs ..|.mentry ..|.callr ..|.eqr ..=>true
 | _=>false
def Ki(i:I)(g:Nat->V)(σ σ':Aj):Prop:=i.op.cl=true->∀x∈i.ap,∀id,BP (ev g x)=some id->lk σ id≠none->lk σ' id=lk σ id
def EA(P:Program)(W0:World)(ep:Nat)(i:I)(g:Nat->V)(σ:Aj)(v:V)(σ':Aj):Prop:=E P W0 ep i.dst i.op g σ v σ'/\aB i g/\Ki i g σ σ'
def Ck(P:Program)(W0:World)(ep:Nat)(i:I)(env:A9)(σ:Aj)(K:A9->Aj->Prop):Prop:=
 match i.gd with
 | none=>∃v σ',EA P W0 ep i (get env) σ v σ'/\K (put env i.dst v) σ'
 | some (s,c)=>
  match get env s with
  | .b t=>(t=c->∃v σ',EA P W0 ep i (get env) σ v σ'/\K (put env i.dst v) σ')/\(t≠c->K (put env i.dst (.tup [])) σ)
  | .tup []=>K (put env i.dst (.tup [])) σ
  | _=>False
def Au(P:Program)(W0:World)(ep:Nat):List I->A9->Aj->(A9->Aj->Prop)->Prop
 | [],env,σ,K=>K env σ
 | i::l,env,σ,K=>Ck P W0 ep i env σ λenv' σ'=>Au P W0 ep l env' σ' K
def KW:AE->Bool
 | .store _ _ _=>true
 | .wrm (.mput _) _ _=>true
 | _=>false
def okC:Value->V->Bool
 | .bool x,.b y=>x==y
 | .int k n,.i c m=>k==c&&n==m
 | .string s,.s l=>s.data.toList==l&&decide (l.length<=AJ)
 | .slice none 0 0,.nil=>true
 | .pointer none,.np=>true
 | .nilFunc,.nf=>true
 | .nilIface,.ni=>true
 | .map none,.nm=>true
 | _,_=>false
def YV:List Value->List V->Bool
 | [],[]=>true
 | x::xs,y::ys=>okC x y&&YV xs ys
 | _,_=>false
def okZ:Value->V->Bool
 | .agg vs,.agg cs=>YV vs.toList cs
 | .agg _,_=>false
 | _,.agg _=>false
 | v,c=>okC v c
def BE:Operand->X->Bool
 | .tmp t,.t s=>t==s
 | .const v,.c x=>okC v x
 | .func f,.c (.fn g [] [])=>f==g
 | _,_=>false
def A6:List Operand->List X->Bool
 | [],[]=>true
 | x::xs,y::ys=>BE x y&&A6 xs ys
 | _,_=>false
def H7:Option Operand->Option X->Bool
 | none,none=>true
 | some x,some y=>BE x y
 | _,_=>false
section tables
variable(P:Program)
def BL(t:TypeId):Option Nat:=(P.info? t).map (·.size)
def kW:TypeDesc->Bool
 | .struct _|.array _ _=>true
 | _=>false
def CW(t:TypeId):Option Bool:=(P.underlying t).map kW
def BD(t:TypeId):Option TypeId:=match P.underlying t with|some (.slice e)=>some e|_=>none
def Ch(t:TypeId):Bool:=match P.underlying t with|some .string=>true|_=>false
def KM(t:TypeId):Bool:=match P.underlying t with|some .bool=>true|_=>false
def Q8(t:TypeId):Option IntKind:=match P.underlying t with|some (.int k)=>some k|_=>none
def Hw(t:TypeId):Option (Array Field):=match P.underlying t with|some (.struct b)=>some b|_=>none
def AdP(t:TypeId):Option Value:=(P.info? t).bind (·.zero)
def Fp(t:TypeId)(z:V):Bool:=match AdP P t with|some b=>okZ b z|none=>false
def G6(e sz:Nat):Bool:=
 match P.info? e with
 | some i=>i.size==sz&&decide (0<sz)&&decide (i.bytes<=32768)&&(match i.zero with|some z=>z.cells.size==sz&&z.cells.all (·.oneCell')|none=>false)
 | none=>false
def J4(t:TypeId)(f:Nat):Option Field:=(Hw P t).bind λb=>b[f]?
def oX(t:TypeId)(f off n:Nat)(c:Bool):Bool:=
 match J4 P t f with
 | some b=>b.offset==off&&BL P b.type==some n&&CW P b.type==some c
 | none=>false
def PA(t:TypeId)(f off:Nat):Bool:=
 match J4 P t f with
 | some b=>b.offset==off&&decide (0<(BL P b.type).getD 0)
 | none=>false
def PL(t:TypeId):Option (List (Nat×Nat)):=(Hw P t).bind λb=>b.toList.mapM λf=>(P.info? f.type).map λi=>(f.offset,i.size)
def Jb(t:TypeId):Option (List (Nat×Nat)):=
 match P.underlying t with
 | some (.array k e)=>(P.info? e).map λi=>(List.range k).map λj=>(j*i.size,i.size)
 | _=>PL P t
def FP(b:List (Nat×Nat)):List (Nat×Operand)->List (Nat×Nat×X)->Bool
 | [],[]=>true
 | (f,x)::r,(off,n,y)::c=>b[f]? == some (off,n)&&BE x y&&FP b r c
 | _,_=>false
def FY:Nat->List (Nat×Operand)->List X->Bool
 | _,[],[]=>true
 | k,(j,x)::r,y::b=>j==k&&BE x y&&FY (k+1) r b
 | _,_,_=>false
def OA(t:TypeId):Option (TypeId×TypeId):=match P.underlying t with|some (.map k e)=>some (k,e)|_=>none
def L5(b:Cr)(t:TypeId):Bool:=match b,P.underlying t with
 | .str,some .string|.int,some (.int _)|.bool,some .bool=>true
 | _,_=>false
def EZ:List Field->List (Nat×Cr)->Bool
 | [],[]=>true
 | f :: fs, (o, kk) :: l => f.offset==o&&f.name != "_" && L5 P kk f.type&&BL P f.type==some 1&&EZ fs l
 | _,_=>false
def Ph(kk:Cr)(t:TypeId):Bool:=match kk with
 | .st l=>(match P.underlying t with|some (.struct b)=>EZ P b.toList l|_=>false)&&!P.stoodInHeld t&&(l.map Prod.fst==List.range l.length)
 | kk=>L5 P kk t
def Ag4(k:Aa0)(t:TypeId)(c:Value):Bool:=
 match k,P.underlying t,c with
 | .p,some (.pointer _),.pointer none=>true
 | .f,some (.func _ _ _),.nilFunc=>true
 | .i,some (.interface _),.nilIface=>true
 | _,_,_=>false
def Gu(k:PuK)(o:Op)(xs:List X):Bool:=
 match k with
 | .isnil g=>(match o with|.binOp b t x' (.const (.slice none 0 0)) _=>(b==(if g then BinOp.neq else BinOp.eql))&&(BD P t).isSome&&A6 [x'] xs|_=>false)
 | .itos=>(match o with|.convert h f x'=>(Q8 P h).isSome&&Ch P f&&A6 [x'] xs|_=>false)
 | .btos=>(match o with|.convert h f x'=>((BD P h).bind (Q8 P))==some .u8&&Ch P f&&A6 [x'] xs|_=>false)
 | .aidx n sz=>(match o with|.indexAddr t x' j=>(match P.underlying t with|some (.array n' e)=>n'==n&&BL P e==some sz|_=>false)&&A6 [x',j] xs|_=>false)
 | .bit op=>(match o with|.binOp b _ x' i _=>b==op&&A6 [x',i] xs|_=>false)
 | .shf op=>(match o with|.binOp b _ x' i _=>b==op&&A6 [x',i] xs|_=>false)
 | .aget n sz m=>(match o with|.index t x' j=>(match P.underlying t with|some (.array n' e)=>n'==n&&BL P e==some sz&&CW P e==some m|_=>false)&&A6 [x',j] xs|_=>false)
 | .eqs g l=>(match o with|.binOp b t x' i _=>(b==(if g then BinOp.neq else BinOp.eql))&&(match P.underlying t with|some (.struct p)=>EZ P p.toList l|_=>false)&&!P.stoodInHeld t&&!P.eqGuardType P.depth t&&A6 [x',i] xs|_=>false)
 | .nilq k g=>(match o with|.binOp b t x' (.const c) _=>(b==(if g then BinOp.neq else BinOp.eql))&&Ag4 P k t c&&A6 [x'] xs|_=>false)
 | .eqp g=>(match o with|.binOp b t x' i _=>(b==(if g then BinOp.neq else BinOp.eql))&&(match P.underlying t with|some (.pointer e)=>(match BL P e with|some (_+1)=>true|_=>false)|_=>false)&&A6 [x',i] xs|_=>false)
 | .stuck=>true
 | .com=>(match o with|.unOp .xor _ x'=>A6 [x'] xs|_=>false)
def lR(k:RdK)(o:Op)(m:X)(xs:List X):Bool:=
 match k with
 | .mget g z ok=>(match o with|.lookup t i f b=>(match OA P t with|some (h,e)=>Ph P g h&&Fp P e z|none=>false)&&b==ok&&BE i m&&A6 [f] xs|_=>false)
 | .mlen=>(match o with|.call c=>(match c.callee with|.builtin .len=>(OA P (c.argTypes.getD 0 0)).isSome&&c.argTypes.size==1&&A6 c.args.toList (m::xs)&&xs.isEmpty|_=>false)|_=>false)
def qW(k:eD)(o:Op)(m:X)(xs:List X):Bool:=
 match k with
 | .mput f=>(match o with
  | .mapUpdate t m' b e=>(match OA P t with|some (c,g)=>Ph P f c|none=>false)&&BE m' m&&A6 [b,e] xs
  | .insert t m' b e=>(match OA P t with|some (c,g)=>Ph P f c|none=>false)&&BE m' m&&A6 [b,e] xs
  | _=>false)
 | .next=>(match o with|.next m' true=>BE m' m&&xs.isEmpty|_=>false)
def TQ(k:MkK)(o:Op)(xs:List X):Bool:=
 match k with
 | .mkmap=>(match o with|.makeMap t none=>xs.isEmpty|_=>false)
 | .strit=>(match o with|.range t x'=>Ch P t&&A6 [x'] xs|_=>false)
 | .tnew t z=>(match o with|.alloc b=>b==t&&Fp P t z&&xs.isEmpty|_=>false)
 | .tbx t=>(match o with|.box b x'=>b==t&&A6 [x'] xs|_=>false)
def Pn(e:TypeId):Bool:=
 match P.info? e with
 | some i=>i.size==1&&i.bytes==1&&(match i.zero with|some (.int .u8 0)=>true|_=>false)
 | none=>false
def Nd(o:Op)(i:AE):Bool:=
 match i with
 | .mv y=>(match o with|.move x=>BE x y|.assign x=>BE x y|_=>false)
 | .pick c a b=>(match o with|.pick L J S=>BE L c&&BE J a&&BE S b|_=>false)
 | .bin op x y=>(match o with|.binOp C _ x' R _=>C==op&&BE x' x&&BE R y|_=>false)
 | .eqb N x y=>(match o with|.binOp C t x' R _=>(C==(if N then BinOp.neq else BinOp.eql))&&KM P t&&BE x' x&&BE R y|_=>false)
 | .not x=>(match o with|.unOp .not _ x'=>BE x' x|_=>false)
 | .neg x=>(match o with|.unOp .neg _ x'=>BE x' x|_=>false)
 | .cvi k x=>(match o with|.convert p g x'=>(P.underlying p).isSome&&Q8 P g==some k&&BE x' x|_=>false)
 | .cvs x=>(match o with|.convert p g x'=>Ch P p&&Ch P g&&BE x' x|_=>false)
 | .fld x off n K=>(match o with|.field t x' f=>oX P t f off n K&&BE x' x|_=>false)
 | .faddr x off=>(match o with|.fieldAddr t x' f=>PA P t f off&&BE x' x|_=>false)
 | .iaddr x i e sz=>(match o with|.indexAddr t x' M=>BD P t==some e&&BL P e==some sz&&BE x' x&&BE M i|_=>false)
 | .idx x i=>(match o with|.index t x' M=>Ch P t&&BE x' x&&BE M i|_=>false)
 | .load x n K=>(match o with|.load t x'=>BL P t==some n&&CW P t==some K&&BE x' x|_=>false)
 | .store a x n=>(match o with|.store t J x'=>BL P t==some n&&BE J a&&BE x' x|_=>false)
 | .box x=>(match o with|.box _ x'=>BE x' x|_=>false)
 | .alloc z=>(match o with|.alloc t=>Fp P t z|_=>false)
 | .build z ps=>(match o with|.build t O=>Fp P t (.agg z)&&(Jb P t).isSome&&FP ((Jb P t).getD []) O.toList ps|_=>false)
 | .msl _ e sz xs=>(match o with|.buildSlice t G ps=>BD P t==some e&&G6 P e sz&&G==xs.length&&decide (G*sz<=16777216)&&FY 0 ps.toList xs|_=>false)
 | .slS x I F=>(match o with|.slice t x' B j none=>Ch P t&&BE x' x&&H7 B I&&H7 j F|_=>false)
 | .slL x I F sz=>(match o with|.slice t x' B j none=>(BD P t).isSome&&BL P ((BD P t).getD 0)==some sz&&BE x' x&&H7 B I&&H7 j F|_=>false)
 | .lenS x=>(match o with|.call c=>(match c.callee with|.builtin .len=>Ch P (c.argTypes.getD 0 0)&&c.argTypes.size==1&&A6 c.args.toList [x]|_=>false)|_=>false)
 | .lenL x=>(match o with|.call c=>(match c.callee with|.builtin .len=>(BD P (c.argTypes.getD 0 0)).isSome&&c.argTypes.size==1&&A6 c.args.toList [x]|_=>false)|_=>false)
 | .app s x e sz=>(match o with|.call c=>(match c.callee with|.builtin .append=>c.argTypes==#[c.argTypes.getD 0 0,c.argTypes.getD 0 0]&&BD P (c.argTypes.getD 0 0)==some e&&G6 P e sz&&A6 c.args.toList [s,x]|_=>false)|_=>false)
 | .apps s x e=>(match o with|.call c=>(match c.callee with|.builtin .append=>c.argTypes==#[c.argTypes.getD 0 0,c.argTypes.getD 1 0]&&BD P (c.argTypes.getD 0 0)==some e&&Ch P (c.argTypes.getD 1 0)&&Pn P e&&A6 c.args.toList [s,x]|_=>false)|_=>false)
 | .slT x F sz=>(match o with|.slice t x' none (some j) none=>(BD P t).isSome&&BL P ((BD P t).getD 0)==some sz&&BE x' x&&BE j F|_=>false)
 | .ext x k=>(match o with|.extract x' T=>T==k&&BE x' x|_=>false)
 | .call f args=>(match o with|.call c=>(match c.callee with|.value (.func r)=>r==f&&A6 c.args.toList args|_=>false)|_=>false)
 | .calls f args=>(match o with|.call c=>(match c.callee with|.value (.func r)=>r==f&&A6 c.args.toList args|_=>false)|_=>false)
 | .calln f args=>(match o with|.call c=>(match c.callee with|.value (.func r)=>r==f&&A6 c.args.toList args|_=>false)|_=>false)
 | .callr f args=>(match o with|.call c=>(match c.callee with|.value (.func r)=>r==f&&A6 c.args.toList args|_=>false)|_=>false)
 | .callv h args=>(match o with|.call c=>(match c.callee with|.value E=>BE E h&&A6 c.args.toList args|_=>false)|_=>false)
 | .callvs h args=>(match o with|.call c=>(match c.callee with|.value E=>BE E h&&A6 c.args.toList args|_=>false)|_=>false)
 | .callw h args=>(match o with|.call c=>(match c.callee with|.value E=>BE E h&&A6 c.args.toList args|_=>false)|_=>false)
 | .btos x=>(match o with|.convert p g x'=>((BD P p).bind (Q8 P))==some .u8&&Ch P g&&BE x' x|_=>false)
 | .mkfn f first D=>(match o with|.makeFunc (.func r) u A=>r==f&&A6 u.toList first&&A6 A.toList D|_=>false)
 | .mksl l c z e sz=>(match o with|.makeSlice t U L=>BD P t==some e&&G6 P e sz&&Fp P e z&&BE U l&&BE L c|_=>false)
 | .mx I x xs=>(match o with|.call c=>(match c.callee with|.builtin b=>(b==(if I then Builtin.min else Builtin.max))&&A6 c.args.toList (x::xs)|_=>false)|_=>false)
 | .nilck x=>(match o with|.nilCheck x'=>BE x' x|_=>false)
 | .pu k xs=>Gu P k o xs
 | .rdm k m xs=>lR P k o m xs
 | .wrm k m xs=>qW P k o m xs
 | .mkm k xs=>TQ P k o xs
 | .frz m n=>(match o with|.slice t x' none none none=>(match P.underlying t with|some (.array q e)=>q==n&&BL P e==some 1&&decide (n<=1024)|_=>false)&&BE x' m|_=>false)
 | .mrange m=>(match o with|.range t x'=>(OA P t).isSome&&BE x' m|_=>false)
 | .mentry m=>(match o with|.entry x'=>BE x' m|_=>false)
 | .eqr N x y=>Gu P (.eqp N) o [x,y]
end tables
end Go.Ir
end
section
namespace Go.Ir
open Go.RowKit
variable[F2]
theorem Ej{σ:Aj}{id:Id}{e:A5}{x:A5}(h:lk σ id=some x)(k:Id):lk (upd σ id e) k=if id=k then some e else lk σ k:=by
 induction σ with
 | nil=>simp[lk] at h
 | cons p r c=>
  obtain⟨f,e0⟩:=p;by_cases b:f=id
  .subst b;simp only[upd,if_true,lk];split<;>rfl
  .simp only[lk,if_neg b] at h;have:=c h;simp only[upd,if_neg b,lk];grind
theorem CA(σ:Aj)(id k:Id):lk (del σ id) k=if id=k then none else lk σ k:=by
 induction σ with
 | nil=>simp[lk,del]
 | cons p r c=>
  obtain⟨e,e0⟩:=p;by_cases b:e=id
  .subst b;simp only[del,if_true,lk,c];split<;>rfl
  .simp only[del,if_neg b,lk,c];grind
theorem N5(σ τ:Aj)(k:Id):lk (σ++τ) k=match lk σ k with|some e=>some e|none=>lk τ k:=by
 induction σ with
 | nil=>simp[lk]
 | cons p r b=>obtain⟨c,e0⟩:=p;simp only[Auh,lk];grind
theorem Ob(q:Id->Bool)(σ:Aj)(k:Id):lk (σ.filter λp=>q p.1) k=if q k then lk σ k else none:=by
 induction σ with
 | nil=>simp[lk]
 | cons p r e=>
  obtain⟨c,e0⟩:=p;by_cases b:q c=true
  .simp only[List.filter_cons,b,if_true,lk];grind
  .simp only[List.filter_cons,b,lk];grind
theorem FSz(σi σo σ:Aj)(k:Id):lk (over σi σo σ) k=match lk σo k with|some e=>some e|none=>if(lk σi k).isNone then lk σ k else none:=by unfold over;rw[N5,Ob (λk=>(lk σi k).isNone)]
structure AR (R:Nat->Prop) (w w':World):Prop where
 os:w'.os=w.os
 tape:w'.tape=w.tape
 output:w'.output=w.output
 size:w.heap.size<=w'.heap.size
 block:∀k,k<w.heap.size->¬R k->w'.heap[k]?=w.heap[k]?
theorem AR.of_grown{w w':World}{b:Option Nat}(h:w.grownBy w' b):AR (λk=>some k=b) w w':=
 ⟨h.os,h.tape,h.output,h.size,λk c hr=>h.block k c hr⟩
theorem AR.alloc(w:World)(o:Obj):AR (λ_=>False) w (w.alloc o):=
 ⟨rfl,rfl,rfl,by simp,λk b _=>heap_alloc_old w o k b⟩
theorem AR.setRow(w:World)(g:Nat)(cs:Array Value):AR (λk=>k=g) w (w.setRow g cs):=
 ⟨rfl,rfl,rfl,by simp,λk _ b=>setRow_other w g k cs b⟩
def Ei(μ:Id->Option Value)(id:Id)(v:Value):Id->Option Value:=λk=>if k=id then some v else μ k
theorem Bm{μ:Id->Option Value}{id:Id}{v:Value}(h:μ id=none):∀k x,μ k=some x->Ei μ id v k=some x:=by intro k x b;unfold Ei;grind
theorem Ap(μ:Id->Option Value)(id:Id)(v:Value):Ei μ id v id=some v:=by simp[Ei]
theorem B0(μ:Id->Option Value){id k:Id}(v:Value)(h:k≠id):Ei μ id v k=μ k:=by simp[Ei,h]
section
variable{W0 w w':World}{σ σ1:Aj}{n n':Nat}{μ:Id→Option Value}{H:Addr→Option Value}
theorem Hp.pin_lt(hp:Hp W0 σ n μ H w){b:Addr}{v:Value}(h:H b=some v):b.block<w.heap.size:=Az1 w b (hp.pins b v h)
theorem Hp.pin_new(hp:Hp W0 σ n μ H w){b:Addr}(h:w.heap.size<=b.block):H b=none:=by
 cases c:H b with
 | none=>rfl
 | some v=>have:=hp.pin_lt c;omega
theorem Hp.base_turned(hp:Hp W0 σ n μ H w){R:Nat->Prop}(b:AR R w w')(c:∀k,R k->E3 μ σ k):Below W0.heap.size W0 w':=by refine hp.base.trans ⟨b.os,b.tape,b.output,b.size,λk e=>?_⟩;exact b.block k (Apd e hp.base.size) (λhr=>by have:=(hp.own_lt (c k hr)).1;omega)
theorem Hp.pins_turned(hp:Hp W0 σ n μ H w){R:Nat->Prop}(e:AR R w w')(c:∀k,R k->E3 μ σ k):∀b v,H b=some v->w'.cell? b=some v:=by intro b v h;rw[Az7 (w:=w) (e.block b.block (hp.pin_lt h) (λhr=>by rw[hp.unp _ (c _ hr) b rfl] at h;cases h))];exact hp.pins b v h
theorem Hp.new_(hp:Hp W0 σ n μ H w){R:Nat->Prop}(A:AR R w w')(B:∀k,R k->E3 μ σ k)
  (m:∀id e,lk σ1 id=some e->lk σ id=some e/\∀c,BB (μ id)=some c->¬R c)
  {id:Id}{e:A5}{val:Value}(x:μ id=none)(N:id.1<n')(I:n<=n')
  (i:∀c,BB (some val)=some c->R c\/w.heap.size<=c)(L:Cp W0.heap.size (Ei μ id val) H w' id e) :
  Hp W0 ((id,e)::σ1) n' (Ei μ id val) H w'/\Fr μ H σ w (Ei μ id val) H ((id,e)::σ1) w':=by
 have j:=Bm (v:=val) x;have p:∀b l,lk σ1 b=some l->b≠id/\Ei μ id val b=μ b:=by
  intro b l F;have y:b≠id:=by intro e0;subst e0;obtain⟨_,E⟩:=(hp.ents _ _ (m _ _ F).1).named;rw[x] at E;cases E
  exact⟨y,B0 _ _ y⟩
 have q:∀c,E3 (Ei μ id val) ((id,e)::σ1) c->(BB (some val)=some c)\/∃b l,lk σ1 b=some l/\BB (μ b)=some c:=by
  rintro c ⟨b,l,g,f⟩;simp only[lk] at g;split at g
  .rename_i G;subst G;rw[Ap] at f;exact .inl f
  grind
 refine⟨⟨hp.base_turned A B,hp.pins_turned A B,?_,?_,?_,?_⟩,⟨j,λ_ _ h=>h,A.size,?_,λ_ _ _=>rfl,?_⟩⟩
 .intro b l g;simp only[lk] at g;split at g
  .grind
  .refine(hp.ents _ _ (m _ _ g).1).keep j (λ_ _ h=>h) (λc f=>?_);exact A.block c ((hp.ents _ _ (m _ _ g).1).block f).2 ((m _ _ g).2 c f)
 .intro c z C f;rcases q c z with h|⟨b,l,g,r⟩
  .rcases i c h with hr|hr
   .exact hp.unp c (B c hr) C f
   .exact hp.pin_new (by omega)
  .exact hp.unp c ⟨b,l,(m _ _ g).1,r⟩ C f
 .intro O J i2 K c l1 u s t;simp only[lk] at l1 u;split at l1<;>split at u
  .grind
  .rename_i D f;exfalso;subst D;rw[Ap] at s;rw[(p _ _ u).2] at t;rcases i c s with hr|hr
   .grind
   .have:=((hp.ents _ _ (m _ _ u).1).block t).2;omega
  .rename_i D f;exfalso;subst f;rw[Ap] at t;rw[(p _ _ l1).2] at s;rcases i c t with hr|hr
   .grind
   .have:=((hp.ents _ _ (m _ _ l1).1).block s).2;omega
  .rw[(p _ _ l1).2] at s;rw[(p _ _ u).2] at t;exact hp.sep _ _ _ _ c (m _ _ l1).1 (m _ _ u).1 s t
 .intro k M;have:k≠id:=by rintro rfl;omega
  rw[B0 _ _ this];exact hp.bd k (by omega)
 .intro c f z;exact A.block c f (λhr=>z (B c hr))
 .intro c f z;rcases q c z with h|⟨b,l,g,r⟩
  .grind
  .exact⟨b,l,(m _ _ g).1,r⟩
theorem Hp.set_(hp:Hp W0 σ n μ H w){id:Id}{e0 e:A5}(m:lk σ id=some e0)(q:AR (λk=>BB (μ id)=some k) w w')(B:Cp W0.heap.size μ H w' id e) :
  Hp W0 (upd σ id e) n μ H w'/\Fr μ H σ w μ H (upd σ id e) w':=by
 have s:∀k,BB (μ id)=some k->E3 μ σ k:=λk h=>⟨id,e0,m,h⟩
 have i:∀b,E3 μ (upd σ id e) b->E3 μ σ b:=by
  rintro b ⟨c,l,f,j⟩;rw[Ej m] at f;split at f
  .grind
  .exact⟨c,l,f,j⟩
 have g:∀c l,lk (upd σ id e) c=some l->∃r,lk σ c=some r:=by intro c l f;rw[Ej m] at f;grind
 refine⟨⟨hp.base_turned q s,hp.pins_turned q s,?_,λb p=>hp.unp b (i b p),?_,hp.bd⟩,⟨λ_ _ h=>h,λ_ _ h=>h,q.size,?_,λ_ _ _=>rfl,λb _ p=>i b p⟩⟩
 .intro c l f;rw[Ej m] at f;split at f
  .grind
  .rename_i y;refine(hp.ents _ _ f).keep (λ_ _ h=>h) (λ_ _ h=>h) (λb j=>?_);exact q.block b ((hp.ents _ _ f).block j).2 (λhr=>y (hp.sep _ _ _ _ b m f hr j))
 .intro C z i2 A b l1 t u x;obtain⟨_,l1⟩:=g _ _ l1;obtain⟨_,t⟩:=g _ _ t;exact hp.sep _ _ _ _ b l1 t u x
 .intro b j p;exact q.block b j (λhr=>p (s b hr))
def pinned(H:Addr->Option Value)(w':World)(b:Nat):Addr->Option Value:=λc=>if c.block=b then w'.cell? c else H c
theorem Hp.pin_(hp:Hp W0 σ n μ H w)(o:Obj) :
  Hp W0 σ n μ (pinned H (w.alloc o) w.heap.size) (w.alloc o)/\Fr μ H σ w μ (pinned H (w.alloc o) w.heap.size) σ (w.alloc o):=by
 have g:=AR.alloc w o;have j:∀k,(λ_:Nat=>False) k->E3 μ σ k:=λk h=>h.elim;have b:∀c v,H c=some v->pinned H (w.alloc o) w.heap.size c=some v:=by intro c v h;unfold pinned;rw[if_neg (by have:=hp.pin_lt h;omega)];exact h
 refine⟨⟨hp.base_turned g j,?_,?_,?_,hp.sep,hp.bd⟩,⟨λ_ _ h=>h,b,g.size,λf e _=>g.block f e id,?_,λ_ _ h=>h⟩⟩
 .intro c v h;unfold pinned at h;split at h
  .exact h
  .exact hp.pins_turned g j c v h
 .intro m p i;exact(hp.ents _ _ i).keep (λ_ _ h=>h) b (λf e=>g.block f ((hp.ents _ _ i).block e).2 (λh=>h))
 .intro f l c e;unfold pinned;rw[if_neg (by have:=(hp.own_lt l).2;omega)];exact hp.unp f l c e
 .intro c e _;unfold pinned;rw[if_neg (by omega)]
theorem Hp.part{σi:Aj}(hp:Hp W0 σ n μ H w)(b:∀id e,lk σi id=some e->lk σ id=some e):Hp W0 σi n μ H w where
 base:=hp.base
 pins:=hp.pins
 ents id e h:=hp.ents id e (b _ _ h)
 unp bk ho:=hp.unp bk (by obtain⟨id,e,h,c⟩:=ho;exact⟨id,e,b _ _ h,c⟩)
 sep id e id' e' bk h h':=hp.sep id e id' e' bk (b _ _ h) (b _ _ h')
 bd:=hp.bd
theorem Hp.back{σi σo:Aj}{μ':Id->Option Value}{H':Addr->Option Value}(hp:Hp W0 σ n μ H w)(D:∀id e,lk σi id=some e->lk σ id=some e)
  (q:Hp W0 σo n' μ' H' w')(p:Fr μ H σi w μ' H' σo w') :
  Hp W0 (over σi σo σ) n' μ' H' w'/\Fr μ H σ w μ' H' (over σi σo σ) w':=by
 have k:∀id e,lk (over σi σo σ) id=some e->(lk σo id=some e)\/(lk σo id=none/\lk σi id=none/\lk σ id=some e):=by
  intro id e h;rw[FSz] at h;cases r:lk σo id with
  | some x=>rw[r] at h;exact .inl h
  | none=>simp_all
 have j:∀id e b,lk σi id=none->lk σ id=some e->BB (μ id)=some b->b<w.heap.size/\¬E3 μ σi b/\w'.heap[b]?=w.heap[b]?/\μ' id=μ id:=by
  intro id e b A g f;have l:=((hp.ents _ _ g).block f).2;have m:¬E3 μ σi b:=by rintro⟨I,K,E,c⟩;have:=hp.sep _ _ _ _ b g (D _ _ E) f c;grind
  refine⟨l,m,p.keep b l m,?_⟩;cases C:μ id with
  | none=>rw[C] at f;simp[BB] at f
  | some x=>exact p.mu _ _ C
 have i:∀id e,lk σ id=some e->μ' id=μ id:=by intro id e g;obtain⟨_,C⟩:=(hp.ents _ _ g).named;rw[C];exact p.mu _ _ C
 have s:∀b,E3 μ' (over σi σo σ) b->E3 μ' σo b\/∃id e,lk σi id=none/\lk σ id=some e/\BB (μ id)=some b:=by
  rintro b ⟨id,e,g,f⟩;rcases k id e g with h|⟨_,A,h⟩
  .exact .inl ⟨id,e,h,f⟩
  grind
 refine⟨⟨q.base,q.pins,?_,?_,?_,q.bd⟩,⟨p.mu,p.hp,p.size,?_,?_,?_⟩⟩
 .intro id e g;rcases k id e g with h|⟨_,A,h⟩
  .exact q.ents _ _ h
  .exact(hp.ents _ _ h).keep p.mu p.hp (λb f=>(j id e b A h f).2.2.1)
 .intro b r B f;rcases s b r with h|⟨id,e,A,g,c⟩
  .exact q.unp b h B f
  .obtain⟨l,m,_,_⟩:=j id e b A g c;rw[p.pin B (by rw[f];exact l) (by rw[f];exact m)];exact hp.unp b ⟨id,e,g,c⟩ B f
 .intro N L i2 M b l1 J y z;rcases k _ _ l1 with t|⟨_,F,t⟩<;>rcases k _ _ J with u|⟨_,G,u⟩
  .exact q.sep _ _ _ _ b t u y z
  .exfalso;rw[i _ _ u] at z;obtain⟨l,m,_,_⟩:=j _ _ b G u z;exact m (p.dom b l ⟨_,_,t,y⟩)
  .exfalso;rw[i _ _ t] at y;obtain⟨l,m,_,_⟩:=j _ _ b F t y;exact m (p.dom b l ⟨_,_,u,z⟩)
  .rw[i _ _ t] at y;rw[i _ _ u] at z;exact hp.sep _ _ _ _ b t u y z
 .intro b f r;refine p.keep b f (λh=>r ?_);obtain⟨id,e,g,c⟩:=h;exact⟨id,e,D _ _ g,c⟩
 .intro B f r;refine p.pin B f (λh=>r ?_);obtain⟨id,e,g,c⟩:=h;exact⟨id,e,D _ _ g,c⟩
 .intro b f r;rcases s b r with h|⟨id,e,A,g,c⟩
  .obtain⟨id,e,g,c⟩:=p.dom b f h;exact⟨id,e,D _ _ g,c⟩
  .exact⟨id,e,g,c⟩
end
end Go.Ir
end
section
namespace Go.Ir
open Go.RowKit
variable[F2]
structure Rl (μ:Id->Option Value) (H:Addr->Option Value) (nt:Nat) (env:A9) (a:Act):Prop where
 size:a.tmps.size=nt
 at_:∀s,Ao μ H (get env s) (a.tmps.getD s undef)
structure FF (W0:World) (ep:Nat) (d:Option Nat) (σ:Aj) (n:Nat) (μ:Id->Option Value) (H:Addr->Option Value) (w:World) (v:V) (σ':Aj)
  (val:Value) (n':Nat) (μ':Id->Option Value) (H':Addr->Option Value) (w':World):Prop where
 rel:Ao μ' H' v val
 hp:Hp W0 σ' n' μ' H' w'
 le:n<=n'
 fr:Fr μ H σ w μ' H' σ' w'
 fresh:∀id,id.1<n->(∀dd,d=some dd->id≠(ep,dd))->μ id=none->μ' id=none
section
variable{μ μ':Id→Option Value}{H H':Addr→Option Value}
theorem BY(a:Act)(d:Option Nat)(v:Value):(a.put d v).defers=a.defers:=by cases d<;>rfl
theorem Rl.mono{nt:Nat}{env:A9}{a:Act}(h:Rl μ H nt env a)(b:∀id x,μ id=some x->μ' id=some x)(e:∀c x,H c=some x->H' c=some x):Rl μ' H' nt env a:=
 ⟨h.size,λs=>(h.at_ s).mono b e⟩
theorem Rl.put{nt:Nat}{env:A9}{a:Act}(h:Rl μ H nt env a){d:Option Nat}(f:∀e,d=some e->e<nt){v:V}{val:Value}(g:Ao μ H v val):Rl μ H nt (put env d v) (a.put d val):=by
 cases d with
 | none=>exact h
 | some d=>
  have b:=f d rfl;refine⟨by simp[Act.put,h.size],λs=>?_⟩;by_cases c:d=s
  .subst c;have:d<a.tmps.size:=by rw[h.size];exact b
   simpa[Go.Ir.put,get,Act.put,this] using g
  .have:=h.at_ s;simpa[Go.Ir.put,get,Act.put,c,AyZ c] using this
theorem Ou{v:Value}{c:V}(h:okC v c=true):Ao μ H c v:=by
 unfold okC at h;split at h
 .have e:=beq_iff_eq.1 h;subst e;exact .b _
 .simp only[AzP,beq_iff_eq] at h;obtain⟨rfl,rfl⟩:=h;exact .i _ _
 .simp only[AzP,beq_iff_eq,decide_eq_true_eq] at h;obtain⟨f,g⟩:=h;subst f;exact .s _ g
 .exact .nil
 .exact .np
 .exact .nf
 .exact .ni
 .exact .nm
 .cases h
theorem Rv:∀{vs:List Value} {cs:List V},YV vs cs=true->AK μ H cs vs
 | [],[],_=>AK.nil_
 | x::xs,y::ys,h=>by
  simp only[YV,AzP] at h;have c:=Rv h.2;have e:x.oneCell'=true:=by have:=h.1;cases x<;>first|rfl|simp[okC] at this
  exact⟨VRels.cons (Ou h.1) c.toVRels,λv b=>by
   rcases Am8.1 b with rfl|b
   .exact e
   .exact c.one v b⟩
 | [],_::_,h=>by simp[YV] at h
 | _::_,[],h=>by simp[YV] at h
theorem Jl{v:Value}{c:V}(h:okZ v c=true):Ao μ H c v/\AK μ H (cells c) v.cells.toList:=by
 have one:okC v c=true->(∀vs,v≠.agg vs)->Ao μ H c v/\AK μ H (cells c) v.cells.toList:=by
  intro h e;have hr:=Ou (μ:=μ) (H:=H) h;refine⟨hr,?_⟩;have b:c.ok=true:=by cases v<;>cases c<;>simp_all[okC,V.ok]
  exact(hr.toCells b).1
 unfold okZ at h;split at h
 .rename_i vs cs;have b:=Rv (μ:=μ) (H:=H) h;refine⟨?_,by simpa[Value.cells,cells] using b⟩;have:=Ao.agg cs vs.toList b.len b.one b.at_;simpa using this
 .cases h
 .cases h
 grind
theorem An{nt:Nat}{env:A9}{a:Act}(hr:Rl μ H nt env a){x:Operand}{y:X}(h:BE x y=true):Ao μ H (ev (get env) y) (a.eval x):=by
 unfold BE at h;split at h
 .have b:=beq_iff_eq.1 h;subst b;exact hr.at_ _
 .exact Ou h
 .have b:=beq_iff_eq.1 h;subst b;exact .fn _ [] [] [] [] rfl rfl (λk c v e=>by simp at e) (λk c v e=>by simp at e)
 .cases h
theorem Cz{nt:Nat}{env:A9}{a:Act}(hr:Rl μ H nt env a):∀{xs:List Operand} {ys:List X},A6 xs ys=true->VRels μ H (ys.map (ev (get env))) (xs.map a.eval)
 | [],[],_=>VRels.nil_
 | x::xs,y::ys,h=>by simp only[A6,AzP] at h;exact VRels.cons (An hr h.1) (Cz hr h.2)
 | [],_::_,h=>by simp[A6] at h
 | _::_,[],h=>by simp[A6] at h
end
section
variable{P:Program}{o:Oper}{a:Act}{w w':World}{next:Act→World→Prop}{Q:Exit→Act→World→Prop}{val:Value}
theorem Bg(b:(execOp a.eval o).run P w=.ok (.value val) w')(h:next (a.put o.dst val) w'):o.wp P a w next Q:=by unfold Oper.wp;rw[b];exact h
theorem XR(b:(execOp a.eval o).run P w=.ok .skip w')(h:next (a.put o.dst undef) w'):o.wp P a w next Q:=by unfold Oper.wp;rw[b];exact h
end
section same
variable{W0 w:World}{ep:Nat}{d:Option Nat}{σ:Aj}{n:Nat}{μ:Id→Option Value}{H:Addr→Option Value}{v:V}{val:Value}
theorem FF.same(hp:Hp W0 σ n μ H w)(h:Ao μ H v val):FF W0 ep d σ n μ H w v σ val n μ H w:=
 ⟨h,hp,AzR _,Fr.refl _ _ _ _,λ_ _ _ h=>h⟩
end same
section inv
variable{μ:Id→Option Value}{H:Addr→Option Value}{val:Value}
theorem Ao.b_inv{t:Bool}(h:Ao μ H (.b t) val):val=.bool t:=by cases h;rfl
theorem Ao.i_inv{k:IntKind}{n:Int}(h:Ao μ H (.i k n) val):val=.int k n:=by cases h;rfl
theorem Ao.s_inv{l:List UInt8}(h:Ao μ H (.s l) val):val=.string ⟨l.toArray⟩/\l.length<=AJ:=by cases h;grind
theorem Ao.nil_inv(h:Ao μ H .nil val):val=.slice none 0 0:=by cases h;rfl
theorem Ao.ref_inv{id:Id}{off:Nat}(h:Ao μ H (.ref id off) val):∃b,μ id=some (.pointer (some ⟨b,0,none⟩))/\val=.pointer (some ⟨b,off,none⟩):=by cases h;grind
theorem Ao.arr_inv{id:Id}(h:Ao μ H (.arr id) val):μ id=some val/\val.oneCell'=true:=by cases h;grind
theorem Ao.aref_inv{id:Id}{f sz off:Nat}(h:Ao μ H (.aref id f sz off) val):∃e c b,μ id=some (.slice (some ⟨e,0,none⟩) c b)/\val=.pointer (some ⟨e,f*sz+off,none⟩):=by cases h;grind
theorem Ao.ep_inv{e:V}{off:Nat}(h:Ao μ H (.ep e off) val):∃(b:Addr) (vals:List Value),val=.pointer (some (b.add off))/\AK μ H (cells e) vals/\∀(k:Nat) (v:Value),vals[k]?=some v->H (b.add k)=some v:=by
 cases h with
 | ep e off b vals f c hp g=>exact⟨b,vals,rfl,⟨⟨f,g⟩,c⟩,hp⟩
theorem Ao.tup_inv{cs:List V}(h:Ao μ H (.tup cs) val):∃vals:List Value,val=.tuple vals.toArray/\VRels μ H cs vals:=by
 cases h with
 | tup cs vals b c=>exact⟨vals,rfl,⟨b,c⟩⟩
theorem Ao.fn_inv{f:FuncId}{first b:List V}(h:Ao μ H (.fn f first b) val):∃e c:List Value,val=.func (.func f) e.toArray c.toArray/\VRels μ H first e/\VRels μ H b c:=by
 cases h with
 | fn f first b e c g i j k=>exact⟨e,c,rfl,⟨g,j⟩,⟨i,k⟩⟩
theorem Ao.sl_inv{es:List V}(h:Ao μ H (.sl es) val):∃(A:Option Addr) (b:Nat),val=.slice A es.length b/\es.length<=b/\es.length<=AI/\
  (es=[]\/∃(c:Addr) (sz:Nat) (vals:List Value),A=some c/\(∀e∈es,(cells e).length=sz)/\AK μ H (AC es) vals/\∀(k:Nat) (v:Value),vals[k]?=some v->H (c.add k)=some v):=by
 cases h with
 | slE a b=>simp_all
 | slC es c b sz vals i j f l g hp m=>exact⟨some c,b,rfl,i,j,.inr ⟨c,sz,vals,rfl,f,⟨⟨l,m⟩,g⟩,hp⟩⟩
theorem Ao.isA_inv{v:V}(h:Ao μ H v val)(c:MP v=true):∃vals:List Value,val=.agg vals.toArray/\AK μ H (cells v) vals:=by cases h<;>simp[MP] at c;rename_i cs vals e b f;exact⟨vals,rfl,⟨⟨e,f⟩,b⟩⟩
end inv
theorem GQ{P:Program}{t:TypeId}{n:Nat}{g:Bool}(s:BL P t=some n)(p:CW P t=some g)(w:World)(vals:List Value)(off:Nat){μ:Id->Option Value}{H:Addr->Option Value}{u v:V}
  (f:AK μ H (cells u) vals)(c:sub u off n g=some v):∃val,(part t vals.toArray off).run P w=.ok val w/\Ao μ H v val:=by
 obtain⟨i,q,rfl⟩:∃i,P.info? t=some i/\i.size=n:=by simpa[BL] using s
 obtain⟨b,y,j⟩:∃b,P.underlying t=some b/\kW b=g:=by simpa[CW] using p
 have h:(isAgg t).run P w=.ok g w:=by unfold isAgg;rw[Akh,run_underlying y w];subst j;cases b<;>rfl
 unfold sub at c;unfold part;rw[Akh,h];simp only[Ag5];cases g with
 | false=>simp only[AcT,if_false] at c⊢;obtain⟨x,z,hr⟩:=f.get c;simp_all
 | true=>
  simp only[if_true] at c⊢;simp only[sizeOf,typeInfo,Akh,run_program,Ag5,q,AnC];refine⟨_,rfl,?_⟩;split at c
  .rename_i m;cases c;obtain⟨rfl,r⟩:=m;have l:vals.length=i.size:=by rw[<-f.len];exact r
   have k:vals.toArray.extract 0 (0+i.size)=vals.toArray:=by grind
   rw[k];exact .agg _ _ f.len f.one f.at_
  .split at c
   .cases c;have e:=(f.drop off).take i.size;have k:vals.toArray.extract off (off+i.size)=((vals.drop off).take i.size).toArray:=by grind
    rw[k];exact .agg _ _ e.len e.one e.at_
   .cases c
theorem Kq{P:Program}{t:TypeId}{n:Nat}{l:Bool}(E:BL P t=some n)(C:CW P t=some l)(w:World)(vals:List Value)(h:Addr)(off:Nat){μ:Id->Option Value}{H:Addr->Option Value}{u v:V}
  (f:AK μ H (cells u) vals)(r:∀k v,vals[k]?=some v->w.cell? (h.add k)=some v)(e:sub u off n l=some v):∃val,(loadVar t (h.add off)).run P w=.ok val w/\Ao μ H v val:=by
 have A:∀i j,(h.add i).add j=h.add (i+j):=λi j=>by unfold Addr.add;by_cases s:i=0<;>by_cases D:j=0<;>simp[s,Ay6]
 obtain⟨i,s,rfl⟩:∃i,P.info? t=some i/\i.size=n:=by simpa[BL] using E
 obtain⟨c,F,q⟩:∃c,P.underlying t=some c/\kW c=l:=by simpa[CW] using C
 have m:(isAgg t).run P w=.ok l w:=by unfold isAgg;rw[Akh,run_underlying F w];subst q;cases c<;>rfl
 unfold sub at e;unfold loadVar;rw[Akh,m];simp only[Ag5];cases l with
 | false=>simp only[AcT,if_false] at e⊢;obtain⟨x,G,hr⟩:=f.get e;simp_all
 | true=>
  simp only[if_true] at e⊢;simp only[sizeOf,typeInfo,Akh,run_program,Ag5,s,AnC];have y:off+i.size<=vals.length->(loadCells (h.add off) i.size).run P w=.ok ((vals.drop off).take i.size).toArray w:=by
   intro p;have b:((vals.drop off).take i.size).length=i.size:=by simp;omega
   have:=run_loadCells_list (P:=P) w (h.add off) ((vals.drop off).take i.size) (λj v D=>by grind
)
   rwa [b] at this
  split at e
  .rename_i z;cases e;obtain⟨rfl,p⟩:=z;have b:vals.length=i.size:=by rw[<-f.len];exact p
   rw[y (by omega)];refine⟨_,rfl,?_⟩;have B:(vals.drop 0).take i.size=vals:=by simp[<-b]
   rw[B];exact .agg _ _ f.len f.one f.at_
  .split at e
   .rename_i p;cases e;rw[y (by rw[<-f.len];exact p)];have g:=(f.drop off).take i.size;exact⟨_,rfl,.agg _ _ g.len g.one g.at_⟩
   .cases e
end Go.Ir
end
section
namespace Go.Ir
open Go.RowKit
variable[F2]
theorem Hh{P:Program}{t:TypeId}{k:IntKind}(h:Q8 P t=some k):P.underlying t=some (.int k):=by unfold Q8 at h;grind
theorem B8{P:Program}{t e:TypeId}(h:BD P t=some e):P.underlying t=some (.slice e):=by unfold BD at h;grind
theorem BH{P:Program}{t:TypeId}(h:Ch P t=true):P.underlying t=some .string:=by unfold Ch at h;grind
theorem Pe{P:Program}{t:TypeId}(h:KM P t=true):P.underlying t=some .bool:=by unfold KM at h;grind
theorem IX{P:Program}{t:TypeId}{b:Array Field}(h:Hw P t=some b):P.underlying t=some (.struct b):=by unfold Hw at h;grind
theorem Kl{P:Program}{t:TypeId}{f:Nat}{e:Field}(h:J4 P t f=some e):∃b,P.underlying t=some (.struct b)/\b[f]?=some e:=by
 unfold J4 at h;cases c:Hw P t with
 | none=>simp[c] at h
 | some b=>exact⟨b,IX c,by simpa[c] using h⟩
theorem Ud{P:Program}{t:TypeId}{n:Nat}(h:BL P t=some n):∃i,P.info? t=some i/\i.size=n:=by simpa[BL] using h
theorem BO{P:Program}{t:TypeId}{n:Nat}(h:BL P t=some n)(w:World):(sizeOf t).run P w=.ok n w:=by obtain⟨i,b,rfl⟩:=Ud h;simp[sizeOf,typeInfo,b]
theorem GE{P:Program}{e sz:Nat}(h:G6 P e sz=true):∃i z,P.info? e=some i/\i.size=sz/\0<sz/\i.bytes<=32768/\i.zero=some z/\z.cells.size=sz/\∀v∈z.cells,v.oneCell'=true:=by
 unfold G6 at h;cases c:P.info? e with
 | none=>simp[c] at h
 | some i=>
  simp only[c,AzP,beq_iff_eq,decide_eq_true_eq] at h;obtain⟨⟨⟨g,j⟩,k⟩,b⟩:=h;cases f:i.zero with
  | none=>simp[f] at b
  | some z=>simp only[f,AzP,beq_iff_eq,Ayn] at b;grind
section ops
variable{P:Program}{W0:World}{ep nt:Nat}{o:Oper}{d:Option Nat}{env:A9}{σ σ':Aj}{n:Nat}{μ:Id→Option Value}{H:Addr→Option Value}{a:Act}{w:World}{v:V}{next:Act→World→Prop}{Q:Exit→Act→World→Prop}
def AA(P:Program)(W0:World)(ep:Nat)(o:Oper)(d:Option Nat)(σ:Aj)(n:Nat)(μ:Id->Option Value)(H:Addr->Option Value)(a:Act)(w:World)(v:V)(σ':Aj):Prop:=
 ∀(next:Act->World->Prop) (Q:Exit->Act->World->Prop),(∀val n' μ' H' w',FF W0 ep d σ n μ H w v σ' val n' μ' H' w'->next (a.put o.dst val) w')->o.wp P a w next Q
theorem AA.same{val:Value}(b:∀w,(execOp a.eval o).run P w=.ok (.value val) w)(hp:Hp W0 σ n μ H w)(h:Ao μ H v val):AA P W0 ep o d σ n μ H a w v σ:=
 λnext Q K=>Bg (b w) (K _ _ _ _ _ (FF.same hp h))
variable(hr:Rl μ H nt env a)(hp:Hp W0 σ n μ H w)
include hr hp
theorem Aqb{x':Operand}{x:X}(b:o.op=.move x'\/o.op=.assign x')(e:BE x' x=true)(c:v=ev (get env) x):AA P W0 ep o d σ n μ H a w v σ:=by subst c;refine AA.same (val:=a.eval x') (λw=>?_) hp (An hr e);rcases b with b|b<;>simp[execOp,b]
theorem AlL{g x' f:Operand}{c x y:X}(j:o.op=.pick g x' f)(h:BE g c=true)(l:BE x' x=true)(m:BE f y=true){t:Bool}
  (k:ev (get env) c=.b t)(i:v=(bif t then ev (get env) x else ev (get env) y)):AA P W0 ep o d σ n μ H a w v σ:=by
 have e:=An hr h;rw[k] at e;have:=e.b_inv;subst i;refine AA.same (val:=if t then a.eval x' else a.eval f) (λw=>?_) hp ?_
 .simp[execOp,j,this,asBool]
 .cases t
  .exact An hr m
  .exact An hr l
theorem AqH{op:BinOp}{t D:TypeId}{x' A:Operand}{x y:X}(z:o.op=.binOp op t x' A D)(B:BE x' x=true)(C:BE A y=true)
  (c:Pf op (ev (get env) x) (ev (get env) y) v):AA P W0 ep o d σ n μ H a w v σ:=by
 have f:=An hr B;have g:=An hr C;generalize ev (get env) x=I at *;generalize ev (get env) y=J at *;unfold Pf at c;split at c
 .rename_i k p E q;obtain⟨rfl,c⟩:=c;have h:=f.i_inv;have j:=g.i_inv;have e:∀val,(∀w,(binOp op t (.int k p) (.int k q)).run P w=.ok val w)->Ao μ H v val->AA P W0 ep o d σ n μ H a w v σ:=λval l m=>
   AA.same (λw=>by simp[execOp,z,h,j,eqGuard_at_int,l w]) hp m
  unfold Ry at c;split at c<;>first
   | exact c.elim
   | (subst c;exact e (.int _ _) (λw=>by simp[go_sem]) (.i _ _))
   | (subst c;exact e (.bool _) (λw=>by simp[go_sem]) (.b _))
   | (obtain⟨r,c⟩:=c;subst c;exact e (.int _ _) (λw=>by simp[go_sem,r]) (.i _ _))
 .rename_i p q;obtain⟨h,F⟩:=f.s_inv;obtain⟨j,G⟩:=g.s_inv;have e:∀val,(∀w,(binOp op t (.string ⟨p.toArray⟩) (.string ⟨q.toArray⟩)).run P w=.ok val w)->Ao μ H v val->AA P W0 ep o d σ n μ H a w v σ:=λval l m=>
   AA.same (λw=>by simp[execOp,z,h,j,eqGuard_at_string,l w]) hp m
  unfold QV at c;split at c
  .obtain⟨u,rfl⟩:=c;refine e (.string ⟨(p++q).toArray⟩) (λw=>?_) (.s _ (by simpa using u));rw[binOp_string_add,run_string_add_sum w _ _ (by simp[ByteArray.size,AJ] at u⊢;omega),ByteArray.mk_append_mk]
  all_goals first
   | exact c.elim
   | (subst c;exact e (.bool _) (λw=>by simp[go_sem]) (.b _))
 .exact c.elim
theorem AnH{op:BinOp}{g:Bool}{t C:TypeId}{x' l:Operand}{x y:X}(k:o.op=.binOp op t x' l C)(h:op=if g then BinOp.neq else BinOp.eql)(u:KM P t=true)(A:BE x' x=true)(B:BE l y=true)
  {p q:Bool}(m:ev (get env) x=.b p)(r:ev (get env) y=.b q)(s:v=.b (if g then !(p==q) else p==q)):AA P W0 ep o d σ n μ H a w v σ:=by
 have e:=An hr A;have f:=An hr B;rw[m] at e;rw[r] at f;have i:=e.b_inv;have j:=f.b_inv;have z:=Pe u;subst s;have c:∀w,(Op.equal t (.bool p) (.bool q)).run P w=.ok (p==q) w:=by intro w;unfold Op.equal Op.maxDepth Op.equalIn;rw[Akh,run_underlying z w];rfl
 subst h;refine AA.same (val:=.bool (if g then !(p==q) else p==q)) (λw=>?_) hp (.b _);cases g
 .simp[execOp,k,i,j,eqGuard_at_bool,binOp,c]
 .simp[execOp,k,i,j,eqGuard_at_bool,binOp,c]
theorem Arl{t:TypeId}{x':Operand}{x:X}(h:o.op=.unOp .not t x')(i:BE x' x=true){p:Bool}(f:ev (get env) x=.b p)(g:v=.b (!p)):AA P W0 ep o d σ n μ H a w v σ:=by have c:=An hr i;rw[f] at c;have e:=c.b_inv;subst g;exact AA.same (val:=.bool (!p)) (λw=>by simp[execOp,h,e,Op.unary]) hp (.b _)
theorem Apq{t:TypeId}{x':Operand}{x:X}(g:o.op=.unOp .neg t x')(h:BE x' x=true){k:IntKind}{p:Int}(e:ev (get env) x=.i k p)(f:v=.i k (k.wrap (0-p))):AA P W0 ep o d σ n μ H a w v σ:=by have b:=An hr h;rw[e] at b;have c:=b.i_inv;subst f;exact AA.same (val:=.int k (k.wrap (0-p))) (λw=>by simp[execOp,g,c,Op.unary,Op.intArith]) hp (.i _ _)
theorem Aqf{e b:TypeId}{x':Operand}{x:X}{k:IntKind}(m:o.op=.convert e b x')(q:(P.underlying e).isSome=true)(j:Q8 P b=some k)(r:BE x' x=true){s:IntKind}{p:Int}
  (h:ev (get env) x=.i s p)(l:v=.i k (k.wrap p)):AA P W0 ep o d σ n μ H a w v σ:=by
 have c:=An hr r;rw[h] at c;have g:=c.i_inv;subst l;obtain⟨t,f⟩:=AtR.mp q;exact AA.same (val:=.int k (k.wrap p)) (λw=>by simp[execOp,m,g,convert,run_underlying f,run_underlying (Hh j),Conv.intToInt]) hp (.i _ _)
theorem As2{e b:TypeId}{x':Operand}{x:X}(j:o.op=.convert e b x')(k:Ch P e=true)(h:Ch P b=true)(m:BE x' x=true){l:List UInt8}
  (g:ev (get env) x=.s l)(i:v=.s l):AA P W0 ep o d σ n μ H a w v σ:=by
 have c:=An hr m;rw[g] at c;obtain⟨f,l1⟩:=c.s_inv;subst i;exact AA.same (val:=.string ⟨l.toArray⟩) (λw=>by simp[execOp,j,f,convert,run_underlying (BH k),run_underlying (BH h)]) hp (.s _ l1)
theorem Ard{t:TypeId}{x':Operand}{x:X}{f off m:Nat}{k:Bool}(u:o.op=.field t x' f)(g:oX P t f off m k=true)(z:BE x' x=true)
  (q:MP (ev (get env) x)=true)(s:sub (ev (get env) x) off m k=some v):AA P W0 ep o d σ n μ H a w v σ:=by
 obtain⟨vals,l,r⟩:=(An hr z).isA_inv q;unfold oX at g;cases b:J4 P t f with
 | none=>simp[b] at g
 | some p=>
  simp only[b,AzP,beq_iff_eq] at g;obtain⟨⟨rfl,j⟩,h⟩:=g;obtain⟨A,y,i⟩:=Kl b;obtain⟨val,e,c⟩:=GQ j h w vals p.offset r s;intro next Q K
  refine Bg (w':=w) (val:=val) ?_ (K _ _ _ _ _ (FF.same hp c));simp[execOp,u,l,Instr.field,run_underlying y,i,asAgg,e]
theorem AcV{t:TypeId}{x':Operand}{x:X}{f off:Nat}(J:o.op=.fieldAddr t x' f)(q:PA P t f off=true)(L:BE x' x=true)
  (l:match ev (get env) x with
   | .ref id o=>v=.ref id (o+off)
   | .aref id M sz o=>v=.aref id M sz (o+off)
   | .ep e o=>v=.ep e (o+off)
   | _=>False):AA P W0 ep o d σ n μ H a w v σ:=by
 have g:=An hr L;unfold PA at q;cases c:J4 P t f with
 | none=>simp[c] at q
 | some r=>
  simp only[c,AzP,beq_iff_eq,decide_eq_true_eq] at q;obtain⟨rfl,C⟩:=q;obtain⟨O,K,z⟩:=Kl c;obtain⟨m,p⟩:∃m,BL P r.type=some m:=by
   cases h:BL P r.type with
   | none=>simp[h] at C
   | some m=>exact⟨m,rfl⟩
  have A:m≠0:=by grind
  have s:∀b:Addr,a.eval x'=.pointer (some b)->Ao μ H v (.pointer (some (b.add r.offset)))->AA P W0 ep o d σ n μ H a w v σ:=λb F G=>
   AA.same (λw=>by simp[execOp,J,F,Instr.fieldAt,run_underlying K,z,Instr.sureAddr,fieldPlace,BO p,A]) hp G
  have u:∀(b:Addr) i j,(b.add i).add j=b.add (i+j):=λb i j=>by unfold Addr.add;by_cases I:i=0<;>by_cases R:j=0<;>simp[I,Ay6]
  generalize ev (get env) x=S at *;split at l
  .subst l;obtain⟨D,p,k⟩:=g.ref_inv;exact s _ k (by rw[Azw];exact .ref _ _ _ p)
  .subst l;obtain⟨D,N,E,p,k⟩:=g.aref_inv;exact s _ k (by rw[Azw,Ay6];exact .aref _ _ _ _ _ _ _ p)
  .subst l;obtain⟨b,vals,k,y,B⟩:=g.ep_inv;exact s _ k (by rw[u];exact .ep _ _ _ vals y.len y.one B y.at_)
  .exact l.elim
end ops
end Go.Ir
end
section
namespace Go.Ir
open Go.RowKit
variable[F2]
theorem Ca(b n:Nat):(⟨b,0,none⟩:Addr).add n=⟨b,n,none⟩:=by rw[Azw];simp
theorem Q5(b:Addr)(i j:Nat):(b.add i).add j=b.add (i+j):=by unfold Addr.add;by_cases c:i=0<;>by_cases e:j=0<;>simp[c,Ay6]
theorem Mg{μ:Id->Option Value}{H:Addr->Option Value}{es:List V}{vals:List Value}{sz i:Nat}{c:V}(b:∀e∈es,(cells e).length=sz)(f:AK μ H (AC es) vals)(g:es[i]?=some c) :
  AK μ H (cells c) ((vals.drop (i*sz)).take sz):=by
 have:=(f.drop (i*sz)).take sz
 rwa [Yi b g] at this
theorem ON{vals:List Value}{m sz k:Nat}{v:Value}(h:((vals.drop m).take sz)[k]?=some v):vals[m+k]?=some v:=by grind
section ops
variable{P:Program}{W0:World}{ep nt:Nat}{o:Oper}{d:Option Nat}{env:A9}{σ σ':Aj}{n:Nat}{μ:Id→Option Value}{H:Addr→Option Value}{a:Act}{w:World}{v:V}
variable(hr:Rl μ H nt env a)(hp:Hp W0 σ n μ H w)
theorem Di{id:Id}{e sz:Nat}{es:List V}(hp:Hp W0 σ n μ H w)(b:lk σ id=some (.arr e sz es)){val:Value}(k:μ id=some val) :
  ∃vals,val.oneCell'=true/\w.ownsRow W0.heap.size e sz val es.length vals/\es.length<=AI/\(∀x∈es,(cells x).length=sz)/\AK μ H (AC es) vals:=by
 obtain⟨v,vals,c,f,g,h,i,j⟩:=hp.ents _ _ b;grind
theorem FD{base e sz m:Nat}{val:Value}{xs:List Value}(h:w.ownsRow base e sz val m xs)(f:0<m) :
  ∃g b c,val=.slice (some ⟨g,0,none⟩) m b/\base<=g/\w.heap[g]?=some (.cells c e (0,0))/\c.size=b*sz/\m<=b/\b<=maxLen/\c.toList.take (m*sz)=xs:=by
 rcases h.2 with⟨rfl,rfl⟩|⟨g,b,c,rfl,h1,h2,h3,h4,h5,h6⟩
 .omega
 .exact⟨g,b,c,rfl,h1,h2,h5,h3,h4,h6⟩
theorem BX{base e sz m:Nat}{val:Value}{xs:List Value}(h:w.ownsRow base e sz val m xs):∃A b,val=.slice A m b:=by
 rcases h.2 with⟨rfl,rfl⟩|⟨g,b,cur,rfl,h1,h2,h3,h4,h5,h6⟩
 .exact⟨_,_,rfl⟩
 grind
include hr hp
theorem AbO{t:TypeId}{x' O:Operand}{x i:X}{e sz:Nat}(ho:o.op=.indexAddr t x' O)(ht:BD P t=some e)(F:BL P e=some sz)(hx:BE x' x=true)(hi:BE O i=true)
  (j:match ev (get env) i with
   | .i _ n=>0<=n/\(match ev (get env) x with
    | .sl es=>∃q,es[n.toNat]?=some q/\(cells q).length=sz/\v=.ep q 0
    | .arr id=>∃G es,lk σ id=some (.arr G sz es)/\n.toNat<es.length/\v=.aref id n.toNat sz 0
    | _=>False)
   | _=>False):AA P W0 ep o d σ n μ H a w v σ:=by
 have B:=An hr hx;have D:=An hr hi;have M:=B8 ht;have r:P.elem t=e:=by simp[Program.elem,M]
 generalize ev (get env) i=vi at *;generalize ev (get env) x=vx at *;split at j
 .rename_i k m;obtain⟨U,j⟩:=j;have S:=D.i_inv;have I:∀(h:Addr) c b,a.eval x'=.slice (some h) c b->m.toNat<c->Ao μ H v (.pointer (some (h.add (m.toNat*sz))))->AA P W0 ep o d σ n μ H a w v σ:=λh c b W h2 Y=>
   AA.same (val:=.pointer (some (h.add (m.toNat*sz)))) (λw=>by
    have s:0<=m/\m<(c:Int):=⟨U,by omega⟩
    simp only[execOp,ho,W,S,Akh];rw[run_indexAt_slice w t h c b k m (by rw[r];exact M),if_pos s,r,BO F];rfl) hp Y
  split at j
  .rename_i es;obtain⟨q,l,hc,rfl⟩:=j;have f:m.toNat<es.length:=(Af8.1 l).1;obtain⟨A,b,T,J,K,Z⟩:=B.sl_inv;rcases Z with rfl|⟨h,C,vals,rfl,z,y,L⟩
   .simp at f
   .have E:C=sz:=by grind
    subst E;refine I h _ _ T f ?_;have p:=Mg z y l;have:=Ao.ep (μ:=μ) (H:=H) q 0 (h.add (m.toNat*C)) _ p.len p.one (λk v hk=>by rw[Q5];grind) p.at_
    rwa [Addr.add_zero'] at this
  .rename_i id;obtain⟨G,es,hl,f,rfl⟩:=j;obtain⟨s,_⟩:=B.arr_inv;obtain⟨vals,_,u,_⟩:=Di hp hl s;obtain⟨g,b,R,N,_⟩:=FD u (by omega);refine I ⟨g,0,none⟩ _ _ N f ?_;rw[Ca];rw[N] at s;exact .aref id _ sz 0 g _ b s
  .exact j.elim
 .exact j.elim
theorem AnU{t:TypeId}{x' h:Operand}{x i:X}(B:o.op=.index t x' h)(C:Ch P t=true)(D:BE x' x=true)(A:BE h i=true)
  {l:List UInt8}{k:IntKind}{m:Int}{c:UInt8}(r:ev (get env) x=.s l)(q:ev (get env) i=.i k m)(u:0<=m)(g:l[m.toNat]?=some c)(z:v=.i .u8 c.toNat):AA P W0 ep o d σ n μ H a w v σ:=by
 have e:=An hr D;have b:=An hr A;rw[r] at e;rw[q] at b;obtain⟨j,_⟩:=e.s_inv;have p:=b.i_inv;subst z;have f:m.toNat<l.length:=(Af8.1 g).1;refine AA.same (val:=.int .u8 c.toNat) (λw=>?_) hp (.i _ _);simp only[execOp,B,j,p,Akh];have y:(⟨l.toArray⟩:ByteArray)[m.toNat]?=some c:=by rw[ByteArray.getElem?_lt' _ _ (by simpa[ByteArray.size] using f)];have:=(Af8.1 g).2;congr 1
 simp[Instr.index,asIntOf,run_underlying (BH C),u,y]
omit hr hp in
theorem Acz{B:Nat}{id:Id}{c:A5}{u:V}(h:Cp B μ H w id c)(e:c=.box u\/∃t,c=.tbox t u) :
  ∃b vals t,μ id=some (.pointer (some ⟨b,0,none⟩))/\w.heap[b]?=some (.cells vals t (0,0))/\AK μ H (cells u) vals.toList:=by
 rcases e with rfl|⟨t,rfl⟩
 .obtain⟨b,vals,t,f,_,g,i⟩:=h;grind
 .obtain⟨b,vals,f,_,g,i⟩:=h;grind
theorem AkL{t:TypeId}{x':Operand}{x:X}{m:Nat}{f:Bool}(ho:o.op=.load t x')(N:BL P t=some m)(I:CW P t=some f)(hx:BE x' x=true)
  (l:match ev (get env) x with
   | .ref id off=>∃F,lk σ id=some F/\ldB F off m f=some v
   | .aref id E sz off=>∃e es D,lk σ id=some (.arr e sz es)/\es[E]?=some D/\sub D off m f=some v
   | .ep u off=>sub u off m f=some v
   | _=>False):AA P W0 ep o d σ n μ H a w v σ:=by
 have b:=An hr hx;have G:∀(c:Addr) off (u:V) vals,a.eval x'=.pointer (some (c.add off))->AK μ H (cells u) vals->(∀k v,vals[k]?=some v->w.cell? (c.add k)=some v)->sub u off m f=some v->AA P W0 ep o d σ n μ H a w v σ:=by
  intro c off u vals S T U W next Q K
  obtain⟨val,A,z⟩:=Kq N I w vals c off T U W;refine Bg (w':=w) (val:=val) ?_ (K _ _ _ _ _ (FF.same hp z));simp[execOp,ho,S,Instr.loadAt,Instr.sureAddr,A]
 generalize ev (get env) x=vx at *;split at l
 .rename_i id off;obtain⟨F,L,B⟩:=l;obtain⟨h,M,i⟩:=b.ref_inv;obtain⟨u,J,B⟩:=Sf B;obtain⟨O,vals,t',r,Y,j⟩:=Acz (hp.ents _ _ L) J;rw[M] at r;cases r;refine G ⟨h,0,none⟩ off u vals.toList (by rw[Ca];exact i) j (λk v q=>?_) B;rw[Ca,cell_of_row w h k vals t' (0,0) Y];simpa using q
 .rename_i id E sz off;obtain⟨e,es,D,L,p,B⟩:=l;obtain⟨h,ac,R,M,i⟩:=b.aref_inv;obtain⟨vals,_,s,_,C,j⟩:=Di hp L M;have Z:E<es.length:=(Af8.1 p).1;refine G ⟨h,E*sz,none⟩ off D _ (by rw[Azw];exact i) (Mg C j p) (λk v q=>?_) B;have:=s.cells (g:=h) rfl _ _ (ON q);rw[Ca] at this;rw[Azw];exact this
 .rename_i u off;obtain⟨c,vals,i,j,y⟩:=b.ep_inv;exact G c off u vals i j (λk v q=>hp.pins _ _ (y k v q)) l
 .exact l.elim
end ops
theorem Mk{xs:List Operand}{y:X}(h:A6 xs [y]=true):∃x,xs=[x]/\BE x y=true:=by
 match xs,h with
 | [x],h=>exact⟨x,rfl,by simpa[A6] using h⟩
 | [],h=>simp[A6] at h
 | _::_::_,h=>simp[A6] at h
theorem Qx{xs:List Operand}{y z:X}(h:A6 xs [y,z]=true):∃x x',xs=[x,x']/\BE x y=true/\BE x' z=true:=by
 match xs,h with
 | [x,x'],h=>exact⟨x,x',rfl,by simpa[A6] using h⟩
 | [],h=>simp[A6] at h
 | [_],h=>simp[A6] at h
 | _::_::_::_,h=>simp[A6] at h
theorem BJ{P:Program}{o:Oper}{c:Call}{b:Builtin}(f:o.op=.call c)(e:c.callee=.builtin b)(ρ:Operand->Value)(w:World) :
  ∃cs,(execOp ρ o).run P w=(builtin b c.argTypes o.type cs (c.args.map ρ)).run P w:=by
 refine⟨c.args.map fun|.const _=>true|_=>false,?_⟩;simp only[execOp,f,resolve,e,Akh,AnC,Ag5,invoke];rfl
theorem CG{b:Type}{xs:Array b}{l:List b}(h:xs.toList=l):xs=l.toArray:=by grind
theorem OF{b:Type}(xs:Array b)(h:xs.size=1):∃x,xs=#[x]:=by
 obtain⟨l⟩:=xs
 match l,h with
 | [x],_=>exact⟨x,rfl⟩
theorem aQ{b:Type}(vs:List b):∀(k off:Nat) (cs:Array b),off+k+vs.length<=cs.size->
  ((vs.zipIdx k).foldl (λcs (c,j)=>cs.setIfInBounds (off+j) c) cs).toList=cs.toList.take (off+k)++vs++cs.toList.drop (off+k+vs.length):=by
 induction vs with
 | nil=>simp 
 | cons v vs i=>
  intro k off cs h;simp only[AiL] at h;simp only[List.zipIdx_cons,AvR];rw[i (k+1) off _ (by simp;omega)];simp only[Azp,AiL];have g:off+k<cs.toList.length:=by simp;omega
  have e:(cs.toList.set (off+k) v).take (off+(k+1))=cs.toList.take (off+k)++[v]:=by
   rw[<-Ay6,List.take_set,List.take_succ_eq_append_getElem g];have l:(cs.toList.take (off+k)).length=off+k:=by simp;omega
   simp[*]
  have f:(cs.toList.set (off+k) v).drop (off+(k+1)+vs.length)=cs.toList.drop (off+k+(vs.length+1)):=by rw[List.drop_set_of_lt (by omega)];congr 1;omega
  rw[e,f];simp
theorem R1(vs cs:Array Value)(off:Nat)(h:off+vs.size<=cs.size) :
  (vs.zipIdx.foldl (λcs (c,j)=>cs.setIfInBounds (off+j) c) cs).toList=cs.toList.take off++vs.toList++cs.toList.drop (off+vs.size):=by
 have:=aQ vs.toList 0 off cs (by simpa using h);rw[<-Array.foldl_toList];simpa using this
section ops
variable{P:Program}{W0:World}{ep nt:Nat}{o:Oper}{d:Option Nat}{env:A9}{σ σ':Aj}{n:Nat}{μ:Id→Option Value}{H:Addr→Option Value}{a:Act}{w:World}{v:V}
variable(hr:Rl μ H nt env a)(hp:Hp W0 σ n μ H w)
include hr hp
theorem Ali{x:X}{c:Call}(y:o.op=.call c)(e:c.callee=.builtin .len)(m:Ch P (c.argTypes.getD 0 0)=true)(r:c.argTypes.size=1)(j:A6 c.args.toList [x]=true)
  {l:List UInt8}(q:ev (get env) x=.s l)(t:v=.i .i64 l.length):AA P W0 ep o d σ n μ H a w v σ:=by
 obtain⟨x',b,j⟩:=Mk j;have b:=CG b;have g:=An hr j;rw[q] at g;obtain⟨p,_⟩:=g.s_inv;subst t;refine AA.same (val:=.int .i64 l.length) (λw=>?_) hp (.i _ _);obtain⟨T,k⟩:=OF c.argTypes r;rw[k] at m;obtain⟨cs,f⟩:=BJ (P:=P) y e a.eval w;have u:(Builtin.len_ #[T] o.type #[.string ⟨l.toArray⟩]).run P w=.ok (goInt (⟨l.toArray⟩:ByteArray).size) w:=run_len_string w T o.type _ (BH m);have h:goInt (⟨l.toArray⟩:ByteArray).size=.int .i64 l.length:=by show Value.int .i64 _=_;congr 1
 rw[f,b,k];simp only[builtin,Azl,AlG,Apy,p,Akh,u,h,Ag5,AnC]
theorem Zf{x':Operand}{x:X}(i:BE x' x=true){es:List V}(b:A4 σ (ev (get env) x)=some es) :
  ∃A e,a.eval x'=.slice A es.length e:=by
 have c:=An hr i;generalize ev (get env) x=k at *;unfold A4 at b;split at b
 .cases b;obtain⟨A,e,j,_⟩:=c.sl_inv;grind
 .cases b;exact⟨none,0,c.nil_inv⟩
 .rename_i id;split at b
  .rename_i g;cases b;obtain⟨h,_⟩:=c.arr_inv;obtain⟨vals,_,f,_⟩:=Di hp g h;exact BX f
  .cases b
 .cases b
theorem Aiy{x:X}{c:Call}(u:o.op=.call c)(f:c.callee=.builtin .len)(h:(BD P (c.argTypes.getD 0 0)).isSome=true)(r:c.argTypes.size=1)(k:A6 c.args.toList [x]=true)
  {es:List V}(q:A4 σ (ev (get env) x)=some es)(s:v=.i .i64 es.length):AA P W0 ep o d σ n μ H a w v σ:=by
 obtain⟨x',b,k⟩:=Mk k;have b:=CG b;obtain⟨A,j,p⟩:=Zf hr hp k q;obtain⟨e,h⟩:=AtR.1 h;subst s;refine AA.same (val:=.int .i64 es.length) (λw=>?_) hp (.i _ _);obtain⟨T,l⟩:=OF c.argTypes r;rw[l] at h;obtain⟨cs,g⟩:=BJ (P:=P) u f a.eval w;have m:P.underlying T=some (.slice e):=B8 h;have t:(Builtin.len_ #[T] o.type #[.slice A es.length j]).run P w=.ok (goInt es.length) w:=run_len_slice w T o.type _ _ _ (by rw[m];simp[Program.elem,m]);rw[g,b,l];simp only[builtin,Azl,AlG,Apy,p,Akh,t,Ag5,AnC,goInt]
theorem Apg{x':Operand}{x:X}{k:Nat}(j:o.op=.extract x' k)(l:BE x' x=true){vs:List V}(h:ev (get env) x=.tup vs)(i:vs[k]?=some v):AA P W0 ep o d σ n μ H a w v σ:=by
 have e:=An hr l;rw[h] at e;obtain⟨vals,g,f⟩:=e.tup_inv;obtain⟨val,c,b⟩:=f.get i;refine AA.same (val:=val) (λw=>?_) hp b;have:vals.toArray[k]?=some val:=by simpa using c
 simp[execOp,j,g,Instr.extract,this]
theorem Agn{f:FuncId}{b c:Array Operand}{first e:List X}(p:o.op=.makeFunc (.func f) b c)(k:A6 b.toList first=true)(l:A6 c.toList e=true)
  (m:v=.fn f (first.map (ev (get env))) (e.map (ev (get env)))):AA P W0 ep o d σ n μ H a w v σ:=by
 have g:=Cz hr k;have h:=Cz hr l;subst m;refine AA.same (val:=.func (.func f) (b.toList.map a.eval).toArray (c.toList.map a.eval).toArray) (λw=>?_) hp (.fn f _ _ _ _ g.len h.len g.at_ h.at_);have i:b.map a.eval=(b.toList.map a.eval).toArray:=by grind
 have j:c.map a.eval=(c.toList.map a.eval).toArray:=by grind
 simp only[execOp,p,Akh,Instr.makeFunc,AnC,Ag5,i,j]
theorem Abe{x':Operand}{x:X}(e:o.op=.nilCheck x')(k:BE x' x=true)
  (f:match ev (get env) x with
   | .ref _ _|.aref _ _ _ _|.ep _ _|.fn _ _ _=>True
   | _=>False)(i:v=ev (get env) x):AA P W0 ep o d σ n μ H a w v σ:=by
 have b:=An hr k;subst i;refine AA.same (val:=a.eval x') (λw=>?_) hp b;generalize ev (get env) x=r at *;split at f
 .obtain⟨g,j,c⟩:=b.ref_inv;simp[execOp,e,c]
 .obtain⟨g,l,h,j,c⟩:=b.aref_inv;simp[execOp,e,c]
 .obtain⟨m,vals,c,_⟩:=b.ep_inv;simp[execOp,e,c]
 .obtain⟨q,p,c,_⟩:=b.fn_inv;simp[execOp,e,c]
 .exact f.elim
theorem Xx{c:Option Operand}{i:Option X}(e:H7 c i=true){f b:Nat}(g:Fq (get env) f i=some b) :
  (i=none/\c=none/\b=f)\/∃x' k,c=some x'/\a.eval x'=.int k (b:Int):=by
 cases i with
 | none=>
  cases c with
  | none=>simp[Fq] at g;grind
  | some x=>simp[H7] at e
 | some x=>
  cases c with
  | none=>simp[H7] at e
  | some x'=>
   simp only[H7] at e;have h:=An hr e;unfold Fq at g;simp only at g;split at g
   .rename_i k m j;rw[j] at h;split at g
    .cases g;refine .inr ⟨x',k,rfl,?_⟩;rw[h.i_inv];grind
    .cases g
   .cases g
theorem HO{p j:Option Operand}{u s:Option X}(t:H7 p u=true)(r:H7 j s=true)(c:Bool){f b l h:Nat}(A:f<=b)
  (z:Fq (get env) 0 u=some l)(x:Fq (get env) f s=some h)(m:l<=h)(g:h<=b)(w:World) :
  (Instr.sliceBounds c f b (p.map a.eval) (j.map a.eval) none).run P w=.ok (l,h,b) w:=by
 have q:∀(k:IntKind) (i y:Nat) (e:BoundsCode),i<=y->∀w,(Instr.sliceBound (.int k i) y e).run P w=.ok i w:=by
  intro k i y e s w;have:(0:Int)<=i/\(i:Int)<=y:=by omega
  simp[Instr.sliceBound,asIntOf,this]
 rcases Xx hr hp t z with⟨rfl,rfl,rfl⟩|⟨xl,kl,rfl,el⟩<;>rcases Xx hr hp r x with⟨rfl,rfl,rfl⟩|⟨xh,kh,rfl,eh⟩
 .simp[Instr.sliceBounds]
 .simp[Instr.sliceBounds,eh,q kh h b _ g]
 .simp[Instr.sliceBounds,el,q kl l _ _ m]
 .simp[Instr.sliceBounds,el,eh,q kl l h _ m,q kh h b _ g]
theorem ArD{t:TypeId}{x':Operand}{x:X}{c b:Option Operand}{z u:Option X}(E:o.op=.slice t x' c b none)(G:Ch P t=true)(I:BE x' x=true)(h:H7 c z=true)(g:H7 b u=true)
  {l:List UInt8}{p q:Nat}(B:ev (get env) x=.s l)(i:Fq (get env) 0 z=some p)(k:Fq (get env) l.length u=some q)(j:p<=q)(F:q<=l.length)(D:v=.s ((l.take q).drop p)):AA P W0 ep o d σ n μ H a w v σ:=by
 have e:=An hr I;rw[B] at e;obtain⟨A,J⟩:=e.s_inv;have y:=BH G;subst D;refine AA.same (val:=.string ⟨((l.take q).drop p).toArray⟩) (λw=>?_) hp (.s _ (by simp;omega));have C:=λw=>HO (P:=P) hr hp h g false (AzR l.length) i k j F w;have r:(⟨l.toArray⟩:ByteArray).size=l.length:=by simp[ByteArray.size]
 have f:(⟨l.toArray⟩:ByteArray).extract p q=⟨((l.take q).drop p).toArray⟩:=by rw[ByteArray.extract_mk,AzI]
 have m:(Instr.slice t (.string ⟨l.toArray⟩) (c.map a.eval) (b.map a.eval) none).run P w=.ok (.string ⟨((l.take q).drop p).toArray⟩) w:=by simp only[Instr.slice,Akh,run_underlying y,Ag5,AxE,AcT,if_false,AnC,r,C,f]
 simp only[execOp,E,Az8,Akh,Instr.sliceAt,run_underlying y,A,Ag5,m,AnC]
theorem AsL{t e:TypeId}{x':Operand}{x:X}{l j:Option Operand}{W O:Option X}{sz:Nat}(ho:o.op=.slice t x' l j none)(ht:BD P t=some e)(K:BL P e=some sz)(hx:BE x' x=true)(E:H7 l W=true)(D:H7 j O=true)
  {es:List V}{p q:Nat}(m:ev (get env) x=.sl es\/ev (get env) x=.nil/\es=[])(F:Fq (get env) 0 W=some p)(I:Fq (get env) es.length O=some q)(G:p<=q)(T:q<=es.length)
  (M:∀y∈es,(cells y).length=sz)(r:v=.sl ((es.take q).drop p)):AA P W0 ep o d σ n μ H a w v σ:=by
 have h:=An hr hx;have U:=B8 ht;subst r;obtain⟨A,b,Y,i,S,hh⟩:∃(A:Option Addr) (b:Nat),a.eval x'=.slice A es.length b/\es.length<=b/\es.length<=AI/\
   (es=[]\/∃(B:Addr) (sz:Nat) (vals:List Value),A=some B/\(∀e∈es,(cells e).length=sz)/\AK μ H (AC es) vals/\∀(k:Nat) (v:Value),vals[k]?=some v->H (B.add k)=some v):=by
  rcases m with m|⟨m,rfl⟩
  .rw[m] at h;exact h.sl_inv
  .rw[m] at h;exact⟨none,0,h.nil_inv,AzR _,Aqn _,.inl rfl⟩
 have Z:=λw=>HO (P:=P) hr hp E D true i F I G (Am5 T i) w;have z:∀w,(execOp a.eval o).run P w=.ok (.value (.slice (if b=p then A else A.map (·.add (p*sz))) (q-p) (b-p))) w:=by
  intro w;have L:(Instr.slice t (.slice A es.length b) (l.map a.eval) (j.map a.eval) none).run P w=.ok (.slice (if b=p then A else A.map (·.add (p*sz))) (q-p) (b-p)) w:=by simp only[Instr.slice,Akh,run_underlying U,Ag5,AnC,Z,BO K]
  simp only[execOp,ho,Az8,Akh,Instr.sliceAt,run_underlying U,Y,Ag5,L,AnC]
 refine AA.same z hp ?_;have R:((es.take q).drop p).length=q-p:=by simp;omega
 rcases AyH (q-p) with N|N
 .have:(es.take q).drop p=[]:=AtC (by omega);rw[this,N];exact .slE _ _
 .rcases hh with rfl|⟨B,f,vals,rfl,g,u,s⟩
  .simp at T;omega
  .have J:f=sz:=by
    have:0<es.length:=by omega
    rw[<-g es[0] (by simp),M es[0] (by simp)]
   subst J;rw[if_neg (by omega)];have hf:AC ((es.take q).drop p)=((AC es).take (q*f)).drop (p*f):=by rw[JY (λe r=>g e (AwH r)),JX g]
   have c:=(u.take (q*f)).drop (p*f);rw[<-hf] at c;have:=Ao.slC (μ:=μ) (H:=H) ((es.take q).drop p) (B.add (p*f)) (b-p) f _ (by omega) (by omega) (λe r=>g e (AwH (Ayw r))) c.len c.one (λk v C=>by
    rw[Q5];refine s _ _ ?_;rw[AxB,Aym] at C;split at C
    .exact C
    .cases C) c.at_
   grind
theorem AtL{j:Bool}{x:X}{xs:List X}{c:Call}{b:Builtin}(S:o.op=.call c)(z:c.callee=.builtin b)(O:b=if j then Builtin.min else Builtin.max)(C:A6 c.args.toList (x::xs)=true)
  (g:P4 j (ev (get env) x) (xs.map (ev (get env)))=some v):AA P W0 ep o d σ n μ H a w v σ:=by
 have K:=Cz hr C;obtain⟨E,D,t,J,I⟩:∃E D,c.args.toList=E::D/\BE E x=true/\A6 D xs=true:=by
  cases h:c.args.toList with
  | nil=>rw[h] at C;simp[A6] at C
  | cons E D=>rw[h] at C;simp only[A6,AzP] at C;grind
 have m:(c.args.map a.eval).toList=a.eval E::D.map a.eval:=by simp[t]
 have N:=An hr J;have e:=Cz hr I;have M:∀(r:List V) (l:List Value) (F:V) (f:Value),Ao μ H F f->VRels μ H r l->P4 j F r=some v->∃val,Ao μ H v val/\∀w,(l.foldlM (if j then Builtin.min2 else Builtin.max2) f).run P w=.ok val w:=by
  intro r
  induction r with
  | nil=>intro l F f L e g;have:l=[]:=AtC (by rw[<-e.len];rfl);subst this;simp only[P4] at g;simp_all
  | cons y r U=>
   intro l F f L e g;cases l with
   | nil=>have:=e.len;simp at this
   | cons W l=>
    have T:=e.at_ 0 y W rfl rfl;have A:VRels μ H r l:=⟨by have:=e.len;simpa using this,λk c v u s=>e.at_ (k+1) c v (by simpa using u) (by simpa using s)⟩
    unfold P4 at g;split at g
    .grind
    .rename_i k p Y q Z G;cases G;split at g
     .rename_i R;subst R;obtain⟨val,u,s⟩:=U l _ (.int k (if j then min p q else max p q)) (.i _ _) A g;refine⟨val,u,λw=>?_⟩;rw[L.i_inv,T.i_inv];simp only[List.foldlM_cons,Akh];have:((if j then Builtin.min2 else Builtin.max2) (.int k p) (.int k q)).run P w=.ok (.int k (if j then min p q else max p q)) w:=by
       cases j
       .simp only[AcT,if_false,Builtin.max2,AnC];grind
       .simp only[if_true,Builtin.min2,AnC];grind
      simp[*]
     .cases g
    .cases g
 obtain⟨val,u,s⟩:=M _ _ _ _ N e g;refine AA.same (val:=val) (λw=>?_) hp u;obtain⟨cs,B⟩:=BJ (P:=P) S z a.eval w;rw[B,O];cases j
 .simp only[AcT,if_false] at s⊢;simp only[builtin,Builtin.max_,m,Akh,s,Ag5,AnC]
 .simp only[if_true] at s⊢;simp only[builtin,Builtin.min_,m,Akh,s,Ag5,AnC]
end ops
end Go.Ir
end
section
namespace Go.Ir
open Go.RowKit
variable[F2]
theorem DX{P:Program}{t:TypeId}{z:V}(h:Fp P t z=true):∃i b,P.info? t=some i/\i.zero=some b/\okZ b z=true:=by
 unfold Fp AdP at h;cases c:P.info? t with
 | none=>simp[c] at h
 | some i=>grind
theorem AR.to{R c:Nat->Prop}{w w':World}(h:AR R w w')(hr:∀k,R k->c k):AR c w w':=
 ⟨h.os,h.tape,h.output,h.size,λk e f=>h.block k e (λb=>f (hr k b))⟩
theorem Ih{u b x:V}{off n:Nat}(h:Da u off n x=some b):(cells x).length=n/\off+n<=(cells u).length/\cells b=(cells u).take off++cells x++(cells u).drop (off+n):=by
 unfold Da at h;split at h
 .rename_i e;split at h
  .simp_all
  .split at h
   .rename_i c;cases h;exact⟨e,c,rfl⟩
   .cases h
 .cases h
theorem rX{es:List V}{sz:Nat}(h:∀e∈es,(cells e).length=sz){i:Nat}(b:i<es.length){x:V}(c:(cells x).length=sz) :
  AC (es.set i x)=(AC es).take (i*sz)++cells x++(AC es).drop (i*sz+sz):=by
 rw[Az2,if_pos b,Fn,JX h];have:i*sz+sz=(i+1)*sz:=by grind
 rw[this,<-JY h];simp[AC]
theorem Eg{μ:Id->Option Value}{H:Addr->Option Value}{cs b:List V}{vs us:List Value}(h:AK μ H cs vs)(c:AK μ H b us)(off k:Nat) :
  AK μ H (cs.take off++b++cs.drop k) (vs.take off++us++vs.drop k):=((h.take off).append c).append (h.drop k)
section ops
variable{P:Program}{W0:World}{ep nt:Nat}{o:Oper}{d:Option Nat}{env:A9}{σ σ':Aj}{n:Nat}{μ:Id→Option Value}{H:Addr→Option Value}{a:Act}{w:World}{v:V}
variable(hr:Rl μ H nt env a)(hp:Hp W0 σ n μ H w)
theorem AA.made(hp:Hp W0 σ n μ H w){b:Nat}(k:d=some b)(r:ep<n)(p:∀b,d=some b->μ (ep,b)=none){obj:Obj}{val:Value}{e:A5}
  (g:(execOp a.eval o).run P w=.ok (.value val) (w.alloc obj))(t:∀i,BB (some val)=some i->i=w.heap.size)
  (m:Cp W0.heap.size (Ei μ (ep,b) val) H (w.alloc obj) (ep,b) e)(s:Ao (Ei μ (ep,b) val) H v val):AA P W0 ep o d σ n μ H a w v (((ep,b),e)::σ):=by
 intro next Q K
 have c:=hp.new_ (n':=n) (AR.alloc w obj) (λ_ h=>h.elim) (σ1:=σ) (λid e h=>⟨h,λ_ _ h=>h⟩) (p b k) r (AzR _) (λi l=>.inr (by grind)) m;refine Bg g (K _ _ _ _ _ ⟨s,c.1,AzR _,c.2,λid q j f=>?_⟩);rw[B0 _ _ (j b k)];exact f
theorem Ru{w:World}{μ':Id->Option Value}{u:V}{vals:Array Value}{t:TypeId}{id:Id}(b:W0.heap.size<=w.heap.size)(e:μ' id=some (.pointer (some ⟨w.heap.size,0,none⟩)))(c:AK μ' H (cells u) vals.toList) :
  Cp W0.heap.size μ' H (w.alloc (.cells vals t)) id (.box u):=
 ⟨w.heap.size,vals,t,e,b,heap_alloc_new w _,c⟩
theorem NT{w:World}{μ':Id->Option Value}{u:V}{vals:Array Value}{t:TypeId}{id:Id}(b:W0.heap.size<=w.heap.size)(e:μ' id=some (.pointer (some ⟨w.heap.size,0,none⟩)))(c:AK μ' H (cells u) vals.toList) :
  Cp W0.heap.size μ' H (w.alloc (.cells vals t)) id (.tbox t u):=
 ⟨w.heap.size,vals,e,b,heap_alloc_new w _,c⟩
include hr hp
theorem Ape{t:TypeId}{x':Operand}{x:X}(l:o.op=.box t x')(m:BE x' x=true)(k:ep<n)(i:∀b,d=some b->μ (ep,b)=none){b:Nat}(g:d=some b)(e:(ev (get env) x).ok=true)
  (j:v=.ref (ep,b) 0):AA P W0 ep o d σ n μ H a w v (((ep,b),.box (ev (get env) x))::σ):=by
 have f:=An hr m;have c:=Bm (v:=.pointer (some ⟨w.heap.size,0,none⟩)) (i b g);subst j;refine AA.made hp g k i (obj:=.cells (a.eval x').cells t) (val:=.pointer (some ⟨w.heap.size,0,none⟩)) ?_ (λp h=>by simpa[BB] using h.symm)
  (Ru hp.base.size (Ap _ _ _) ((f.toCells e).1.mono c (λ_ _ h=>h))) (.ref _ 0 _ (Ap _ _ _))
 simp[execOp,l,Instr.box,newVar,newRow]
theorem Abm{t:TypeId}{z:V}(m:o.op=.alloc t)(p:Fp P t z=true)(l:ep<n)(j:∀b,d=some b->μ (ep,b)=none){b:Nat}(f:d=some b)
  (g:v=.ref (ep,b) 0):AA P W0 ep o d σ n μ H a w v (((ep,b),.box z)::σ):=by
 obtain⟨i,q,k,e,c⟩:=DX p;subst g;refine AA.made hp f l j (obj:=.cells q.cells t) (val:=.pointer (some ⟨w.heap.size,0,none⟩)) ?_ (λr h=>by simpa[BB] using h.symm)
  (Ru hp.base.size (Ap _ _ _) (Jl c).2) (.ref _ 0 _ (Ap _ _ _))
 simp[execOp,m,Instr.alloc,zeroValue,typeInfo,k,e,newVar,newRow]
theorem JB{t:TypeId}{m:Nat}{x' p:Operand}{x:X}(u:o.op=.store t p x')(k:BL P t=some m)(y:BE x' x=true)(j:(ev (get env) x).ok=true)(e:(cells (ev (get env) x)).length=m)
  {g off:Nat}{b:Array Value}{ct:TypeId}(r:a.eval p=.pointer (some ⟨g,off,none⟩))(s:w.heap[g]?=some (.cells b ct (0,0)))(q:off+m<=b.size) :
  ∃vals,AK μ H (cells (ev (get env) x)) vals/\vals.length=m/\(execOp a.eval o).run P w=.ok .skip (w.setRow g (b.toList.take off++vals++b.toList.drop (off+m)).toArray):=by
 have l:=An hr y;obtain⟨h,_⟩:=l.toCells j;have i:(a.eval x').cells.toList.length=m:=by rw[<-h.len];exact e
 have f:=run_storeCells_at P g off ct (a.eval x').cells.toList 0 b w s (by omega) h.one;simp only[AyJ,i] at f;refine⟨_,h,i,?_⟩;have c:(a.eval x').cells.size=m:=by simpa using i
 simp only[execOp,u,Akh,Instr.storeAt,r,Instr.sureAddr,AnC,Ag5,storeVar,BO k,c,ne_eq,not_true_eq_false,if_false,f]
theorem Abp{t:TypeId}{m:Nat}{x' a':Operand}{x ax:X}(ho:o.op=.store t a' x')(S:BL P t=some m)(hx:BE x' x=true)(ha:BE a' ax=true)(hd:o.dst=d)(aK:d=none)(O:(ev (get env) x).ok=true)(hv:v=.tup [])
  (he:match ev (get env) ax with
   | .ref id off=>∃en G,lk σ id=some en/\V2 en off m (ev (get env) x)=some G/\σ'=upd σ id G
   | .aref id b sz off=>∃e es Y p,lk σ id=some (.arr e sz es)/\es[b]?=some Y/\Da Y off m (ev (get env) x)=some p/\σ'=upd σ id (.arr e sz (es.set b p))
   | _=>False):AA P W0 ep o d σ n μ H a w v σ':=by
 have Z:=An hr ha;subst hv;have af:Ao μ H (.tup []) undef:=.tup [] [] rfl (λk c v L=>by simp at L);have I:∀{w'},(execOp a.eval o).run P w=.ok .skip w'->Hp W0 σ' n μ H w'/\Fr μ H σ w μ H σ' w'->AA P W0 ep o d σ n μ H a w (.tup []) σ':=λi hh next Q K=>
  XR i (K _ _ _ _ _ ⟨af,hh.1,AzR _,hh.2,λ_ _ _ h=>h⟩)
 generalize aI:ev (get env) ax=vx at *;split at he
 .rename_i id off;obtain⟨en,G,U,hs,rfl⟩:=he;obtain⟨A,B,e1⟩:=Z.ref_inv;obtain⟨u,u',hs,an⟩:=Qp hs;obtain⟨s,aa,f⟩:=Ih hs;have E:=hp.ents _ _ U;rcases an with⟨rfl,rfl⟩|⟨ct,rfl,rfl⟩
  .obtain⟨ak,vals,ct,y,hB,F,D⟩:=E;rw[B] at y;cases y;have R:(cells u).length=vals.size:=by rw[D.len];simp
   obtain⟨W,q,N,i⟩:=JB hr hp ho S hx O s e1 F (by omega);refine I i (hp.set_ U ((AR.setRow w A _).to (λk L=>by subst L;simp[B,BB])) ?_);refine⟨A,_,ct,B,hB,setRow_heap w A vals _ ct (0,0) F,?_⟩;rw[f];exact Eg D q off (off+m)
  .obtain⟨ak,vals,y,hB,F,D⟩:=E;rw[B] at y;cases y;have R:(cells u).length=vals.size:=by rw[D.len];simp
   obtain⟨W,q,N,i⟩:=JB hr hp ho S hx O s e1 F (by omega);refine I i (hp.set_ U ((AR.setRow w A _).to (λk L=>by subst L;simp[B,BB])) ?_);refine⟨A,_,B,hB,setRow_heap w A vals _ ct (0,0) F,?_⟩;rw[f];exact Eg D q off (off+m)
 .rename_i id b sz off;obtain⟨e,es,Y,p,U,J,hs,rfl⟩:=he;obtain⟨A,aN,al,B,e1⟩:=Z.aref_inv;obtain⟨vals,h1,ad,az,j,D⟩:=Di hp U B;have ab:b<es.length:=(Af8.1 J).1;obtain⟨g,au,l,ag,hB,F,aJ,av,ac,T⟩:=FD ad (by omega);cases ag;obtain⟨s,aa,f⟩:=Ih hs;have ax:(cells Y).length=sz:=j Y (AzT J);have C:(AC es).length=es.length*sz:=EW j;have aM:vals.length=es.length*sz:=by rw[<-D.len];exact C
  have aA:b*sz+sz<=es.length*sz:=by
   have:=Ayz sz (Nat.succ_le_of_lt ab)
   rwa [Nat.succ_mul] at this
  have aw:es.length*sz<=l.size:=by grind
  obtain⟨W,q,N,i⟩:=JB hr hp ho S hx O s e1 F (by omega);have M:(cells p).length=sz:=by rw[f];simp;omega
  refine I i (hp.set_ U ((AR.setRow w A _).to (λk L=>by subst L;simp[B,BB])) ?_);have r:AC (es.set b p)=(AC es).take (b*sz+off)++cells (ev (get env) x)++(AC es).drop (b*sz+off+m):=by
   rw[rX j ab M,f,<-Yi j J];have t1:(List.take off (List.take sz (List.drop (b*sz) (AC es))))=List.drop (b*sz) (List.take (b*sz+off) (AC es)):=by rw[AzJ,AzI,show min off sz=off by omega,show b*sz+off-b*sz=off by omega]
   have t2:(List.drop (off+m) (List.take sz (List.drop (b*sz) (AC es))))++List.drop (b*sz+sz) (AC es)=List.drop (b*sz+off+m) (AC es):=by
    rw[AzI,Az0];have e2:List.drop (b*sz+sz) (AC es)=List.drop (sz-(off+m)) (List.drop (b*sz+(off+m)) (AC es)):=by rw[Az0];congr 1;omega
    rw[e2,Ayp,Ay6]
   have t3:List.take (b*sz) (AC es)++List.drop (b*sz) (List.take (b*sz+off) (AC es))=List.take (b*sz+off) (AC es):=by
    have:List.take (b*sz) (AC es)=List.take (b*sz) (List.take (b*sz+off) (AC es)):=by grind
    simp_all
   grind
  have z:=Eg D q (b*sz+off) (b*sz+off+m);rw[<-r] at z;have ao:(l.toList.take (b*sz+off)++W++l.toList.drop (b*sz+off+m)).take (es.length*sz)=vals.take (b*sz+off)++W++vals.drop (b*sz+off+m):=by
   have h3:(l.toList.take (b*sz+off)).length=b*sz+off:=by simp;omega
   rw[<-T,List.take_append,List.take_append];rw[AzJ,AzJ,h3];have h4:min (b*sz+off) (es.length*sz)=b*sz+off:=by omega
   have h5:min (es.length*sz) (b*sz+off)=b*sz+off:=by omega
   have h6:W.take (es.length*sz-(b*sz+off))=W:=Azf (by omega);rw[h4,h5,h6];congr 1;rw[AzI];simp_all
  refine⟨_,_,B,h1,⟨?_,.inr ⟨A,al,_,by rw[Azc],hB,setRow_heap w A l _ e (0,0) F,by grind,ac,?_,?_⟩⟩,by grind,?_,z⟩
  .rw[Azc,<-z.len,r];simp only[AhT,AxJ,List.length_drop,C,s];omega
  .simp only[List.size_toArray,AhT,AxJ,List.length_drop,Axx,N];omega
  .grind
  grind
 .exact he.elim
end ops
end Go.Ir
end
section
namespace Go.Ir
open Go.RowKit
variable[F2]
theorem OX{P:Program}{t:TypeId}{e:List (Nat×Nat)}(h:PL P t=some e):∃b,P.underlying t=some (.struct b)/\b.toList.mapM (λf=>(P.info? f.type).map λi=>(f.offset,i.size))=some e:=by
 unfold PL at h;cases c:Hw P t with
 | none=>simp[c] at h
 | some b=>exact⟨b,IX c,by simpa[c] using h⟩
theorem Is{μ:Id->Option Value}{H:Addr->Option Value}{nt:Nat}{env:A9}{a:Act}(hr:Rl μ H nt env a)(E:List (Nat×Nat)){place:Nat->Option (Nat×Nat)}(e:∀f q,E[f]?=some q->place f=some q) :
  ∀(u:List (Nat×Operand)) (ps:List (Nat×Nat×X)) (z cs:List V) (k:Array Value),FP E u ps=true->(∀p∈ps,(ev (get env) p.2.2).ok=true)->AK μ H z k.toList->
   Es z (ps.map λp=>(p.1,p.2.1,ev (get env) p.2.2))=some cs->∃y,Instr.fill place k (u.map fun(i,x)=>(i,a.eval x))=some y/\AK μ H cs y.toList
 | [],[],z,cs,k,_,_,A,h=>by simp only[Apy,Es] at h;cases h;exact⟨k,rfl,A⟩
 | (f,x')::N,(off,n,x)::r,z,cs,k,b,g,A,h=>by
  simp only[FP,AzP,beq_iff_eq] at b;obtain⟨⟨J,L⟩,l⟩:=b;simp only[AlG,Es] at h;split at h
  .rename_i I;obtain⟨m,G⟩:=I;have K:=An hr L;obtain⟨F,_⟩:=K.toCells (g (off,n,x) (by simp));have D:(a.eval x').cells.size=n:=by rw[<-Axx,<-F.len];exact m
   have M:z.length=k.size:=by rw[A.len];simp
   have C:=R1 (a.eval x').cells k off (by omega);have s:AK μ H (z.take off++cells (ev (get env) x)++z.drop (off+n)) (((a.eval x').cells.zipIdx.foldl (λcs (c,j)=>cs.setIfInBounds (off+j) c) k).toList):=by rw[C,D];exact Eg A F off (off+n)
   obtain⟨y,B,t⟩:=Is hr E e N r _ cs _ l (λp hp=>g p (by simp[hp])) s h;refine⟨y,?_,t⟩;simp only[AlG,Instr.fill];grind
  .cases h
 | [],_::_,_,_,_,b,_,_,_=>by simp[FP] at b
 | _::_,[],_,_,_,b,_,_,_=>by simp[FP] at b
section ops
variable{P:Program}{W0:World}{ep nt:Nat}{o:Oper}{d:Option Nat}{env:A9}{σ σ':Aj}{n:Nat}{μ:Id→Option Value}{H:Addr→Option Value}{a:Act}{w:World}{v:V}
variable(hr:Rl μ H nt env a)(hp:Hp W0 σ n μ H w)
include hr hp
theorem Abd{t:TypeId}{z:List V}{l:Array (Nat×Operand)}{ps:List (Nat×Nat×X)}(M:o.op=.build t l)(T:Fp P t (.agg z)=true)(c:(Jb P t).isSome=true)(m:FP ((Jb P t).getD []) l.toList ps=true)
  (r:∀p∈ps,(ev (get env) p.2.2).ok=true){cs:List V}(L:Es z (ps.map λp=>(p.1,p.2.1,ev (get env) p.2.2))=some cs)(R:v=.agg cs):AA P W0 ep o d σ n μ H a w v σ:=by
 obtain⟨i,K,S,F,A⟩:=DX T;obtain⟨J,c⟩:=AtR.1 c;rw[c] at m;have y:=(Jl (μ:=μ) (H:=H) A).2;subst R;simp only[Option.getD_some] at m;unfold Jb at c;split at c
 .rename_i k e N;obtain⟨I,D,s⟩:=AeM.1 c;obtain⟨u,g,b⟩:=Is hr J (place:=λi=>some (i*I.size,I.size)) (λf q B=>by
   rw[<-s] at B;simp only[Akg,AeM] at B;obtain⟨j,C,rfl⟩:=B;have:j=f:=by
    rcases Awy f k with h|h
    .rw[List.getElem?_range h] at C;cases C;rfl
    .rw[Az4 (by simpa using h)] at C;cases C
   subst this;rfl) l.toList ps z cs K.cells m r y L
  have:=Ao.agg (μ:=μ) (H:=H) cs u.toList b.len b.one b.at_;refine AA.same (val:=.agg u) (λw=>?_) hp (by simpa using this);have E:(sizeOf e).run P w=.ok I.size w:=by simp[sizeOf,typeInfo,D]
  have G:(zeroValue t).run P w=.ok K w:=by simp[zeroValue,typeInfo,S,F]
  simp only[execOp,M,Akh,Instr.build,G,Ag5,run_underlying N,E,Array.toList_map,g,AnC]
 .obtain⟨U,N,s⟩:=OX c;obtain⟨u,g,b⟩:=Is hr J (place:=(J.toArray[·]?)) (λf q B=>by simpa using B) l.toList ps z cs K.cells m r y L;have:=Ao.agg (μ:=μ) (H:=H) cs u.toList b.len b.one b.at_;refine AA.same (val:=.agg u) (λw=>?_) hp (by simpa using this);have O:P.built t (l.map fun(i,x)=>(i,a.eval x)).toList=some u:=by unfold Program.built;simp_all
  simp only[execOp,M,Akh,run_build w t _ u O,Ag5,AnC]
theorem LC(sz:Nat):∀(ps:List (Nat×Operand)) (xs:List X) (k:Nat) (cs:Array Value),FY k ps xs=true->(∀x∈xs.map (ev (get env)),x.ok=true/\(cells x).length=sz)->(k+xs.length)*sz=cs.size->
  ∃p vals,Instr.fill (λi=>some (i*sz,sz)) cs (ps.map fun(i,x)=>(i,a.eval x))=some p/\AK μ H (AC (xs.map (ev (get env)))) vals/\p.toList=cs.toList.take (k*sz)++vals
 | [],[],k,cs,_,_,q=>by refine⟨cs,[],rfl,by simpa[AC] using AK.nil_,?_⟩;simp only[Ank,AyJ] at q;rw[Arm,Azf (by simp;omega)]
 | (j,x')::D,x::r,k,cs,b,e,q=>by
  simp only[FY,AzP,beq_iff_eq] at b;obtain⟨⟨rfl,C⟩,f⟩:=b;have z:=e (ev (get env) x) (by simp);have B:=An hr C;obtain⟨A,_⟩:=B.toCells z.1;have u:(a.eval x').cells.size=sz:=by rw[<-Axx,<-A.len];exact z.2
  have h:j*sz+(a.eval x').cells.size<=cs.size:=by rw[u,<-q];simp only[AiL];grind
  have l:=R1 (a.eval x').cells cs (j*sz) h;have g:((a.eval x').cells.zipIdx.foldl (λcs (c,i)=>cs.setIfInBounds (j*sz+i) c) cs).size=cs.size:=by rw[<-Axx,l];grind
  obtain⟨p,vals,t,m,s⟩:=LC sz D r (j+1) _ f (λy G=>e y (by grind)) (by rw[g,<-q];grind);refine⟨p,(a.eval x').cells.toList++vals,?_,?_,?_⟩
  .simp only[AlG,Instr.fill];grind
  .have:=A.append m;simpa[AC] using this
  .rw[s,l,<-Ay5];congr 1;have E:(j+1)*sz=j*sz+(a.eval x').cells.size:=by grind
   have F:(cs.toList.take (j*sz)).length=j*sz:=by simp;omega
   grind
 | [],_::_,_,_,b,_,_=>by simp[FY] at b
 | _::_,[],_,_,b,_,_=>by simp[FY] at b
theorem ArG{t e:TypeId}{b sz:Nat}{own:Bool}{ps:Array (Nat×Operand)}{xs:List X}(T:o.op=.buildSlice t b ps)(ht:BD P t=some e)(G:G6 P e sz=true)(f:b=xs.length)(F:b*sz<=16777216)
  (L:FY 0 ps.toList xs=true)(hn:ep<n)(R:∀r,d=some r->μ (ep,r)=none)(m:∀x∈xs.map (ev (get env)),x.ok=true/\(cells x).length=sz)
  (u:if own then ∃r,d=some r/\v=.arr (ep,r)/\σ'=((ep,r),.arr e sz (xs.map (ev (get env))))::σ else v=.sl (xs.map (ev (get env)))/\σ'=σ):AA P W0 ep o d σ n μ H a w v σ':=by
 have U:=B8 ht;obtain⟨i,z,S,M,D,Z,hz,ah,_⟩:=GE G;subst M;have ag:(Array.range (b*i.size)).size=b*i.size:=by simp
 obtain⟨q,vals,g,j,B⟩:=LC (a:=a) hr hp i.size ps.toList xs 0 ((Array.range (b*i.size)).map ((if b*i.size=0 then #[] else z.cells)[· % (if b*i.size=0 then #[] else z.cells:Array Value).size]!)) L m (by simp[f]);simp only[Nat.zero_mul,AvS,AwM] at B;subst B;have A:∀w,(execOp a.eval o).run P w=.ok (.value (.slice (some ⟨w.heap.size,0,none⟩) b b)) (w.alloc (.cells q e)):=by
  intro w;have y:(ps.map fun(i,x)=>(i,a.eval x)).toList=ps.toList.map fun(i,x)=>(i,a.eval x):=by simp
  have J:¬b*i.size>2 ^ 24:=by omega
  have C:¬(0:Nat)>2 ^ 24:=by omega
  by_cases E:b*i.size=0
  .simp only[E,if_true] at g;simp only[execOp,T,Akh,Instr.buildSlice,run_underlying U,Ag5,sizeOf,typeInfo,run_program,S,AnC,E,C,if_false,if_true,y,g,newRow,run_newObj,World.alloc_eq]
  .simp only[if_neg E] at g;simp only[execOp,T,Akh,Instr.buildSlice,run_underlying U,Ag5,sizeOf,typeInfo,run_program,S,AnC,J,if_false,if_neg E,zeroValue,hz,y,g,newRow,run_newObj,World.alloc_eq]
 have I:(AC (xs.map (ev (get env)))).length=xs.length*i.size:=by have:=EW (es:=xs.map (ev (get env))) (sz:=i.size) (λe u=>(m e u).2);simpa using this
 have s:q.size=b*i.size:=by rw[<-Axx,<-j.len,I,f]
 have ae:xs.length<=16777216:=by have:xs.length*1<=xs.length*i.size:=Nat.mul_le_mul_left _ D;grind
 cases own with
 | true=>
  simp only[if_true] at u;obtain⟨r,O,rfl,rfl⟩:=u;have l:=Bm (v:=.slice (some ⟨w.heap.size,0,none⟩) b b) (R r O);refine AA.made hp O hn R (A w) (λbk h=>by simpa[BB] using h.symm) ⟨_,q.toList,Ap _ _ _,rfl,⟨?_,.inr ⟨w.heap.size,b,q,by simp[f],hp.base.size,heap_alloc_new w _,by simp[f],by simp only[maxLen];omega,s,?_⟩⟩,by simp[AI];omega,λx hx=>(m x hx).2,j.mono l (λ_ _ h=>h)⟩ (.arr _ _ (Ap _ _ _) rfl)
  .grind
  .rw[Abn,<-f,<-s,<-Axx,Am7]
 | false=>
  simp only[AcT,if_false] at u;obtain⟨rfl,rfl⟩:=u;intro next Q K
  have p:=hp.pin_ (.cells q e);have l:∀N v,H N=some v->pinned H (w.alloc (.cells q e)) w.heap.size N=some v:=p.2.hp;refine Bg (A w) (K _ n μ _ _ ⟨?_,p.1,AzR _,p.2,λ_ _ _ h=>h⟩);have:=Ao.slC (μ:=μ) (H:=pinned H (w.alloc (.cells q e)) w.heap.size) (xs.map (ev (get env))) ⟨w.heap.size,0,none⟩ b i.size q.toList (by simp[f]) (by simp[AI];omega) (λe u=>(m e u).2) j.len j.one (λk v hk=>by rw[Ca];simp only[pinned,if_true];rw[World.cell?_alloc_new];simpa using hk) (λk c v W Y=>(j.at_ k c v W Y).mono (λ_ _ h=>h) l);rw[Abn,<-f] at this;exact this
theorem Rr{k b:Nat}(e:k<=AI)(c:b<=32768):k*b<=140737488355328:=by have:=AzK e c;simp only[AI] at this;omega
theorem I2{w:World}{base:Nat}{t j e:TypeId}{i:TypeInfo}{size:Nat}(h:P.underlying t=some (.slice e))(f:P.info? e=some i)
  {v:Value}{n:Nat}{xs:List Value}(b:w.ownsRow base e size v n xs)(A:Option Addr)(c:Nat):(Builtin.append_ #[t,t] j #[v,.slice A 0 c]).run P w=.ok v w:=by
 rcases b.2 with⟨rfl,rfl⟩|⟨g,cap,cur,rfl,_,_,hnc,_⟩
 .cases A<;>simp[Builtin.append_,run_underlying h,sizeOf,typeInfo,f,Builtin.lenOf,Builtin.firstCells,loadCells,loadCellsFrom]
 .cases A<;>simp[Builtin.append_,run_underlying h,sizeOf,typeInfo,f,Builtin.lenOf,Builtin.firstCells,hnc,storeCells,loadCells,loadCellsFrom]
theorem XQ{x':Operand}{x:X}(G:BE x' x=true){xs:List V}{sz:Nat}(i:A4 σ (ev (get env) x)=some xs)(E:∀y∈xs,(cells y).length=sz) :
  ∃A c,a.eval x'=.slice A xs.length c/\xs.length<=AI/\(xs=[]\/∃p vals,A=some p/\AK μ H (AC xs) vals/\∀j u,vals[j]?=some u->w.cell? (p.add j)=some u):=by
 have k:=An hr G;generalize ev (get env) x=J at *;unfold A4 at i;split at i
 .cases i;obtain⟨A,c,z,_,e,B⟩:=k.sl_inv;refine⟨A,c,z,e,?_⟩;rcases B with h|⟨p,I,vals,rfl,_,f,l⟩
  .exact .inl h
  .exact .inr ⟨p,vals,rfl,f,λj u F=>hp.pins _ _ (l j u F)⟩
 .cases i;exact⟨none,0,k.nil_inv,Aqn _,.inl rfl⟩
 .rename_i id;split at i
  .rename_i C;cases i;obtain⟨D,_⟩:=k.arr_inv;obtain⟨vals,_,b,e,_,f⟩:=Di hp C D;obtain⟨A,c,q⟩:=BX b;refine⟨A,c,q,e,?_⟩;rcases AyH xs.length with s|s
   .grind
   .obtain⟨g,r,t,m,_⟩:=FD b s;rw[m] at q;cases q;refine .inr ⟨⟨g,0,none⟩,vals,rfl,f,?_⟩;rw[m] at b;exact b.cells (g:=g) rfl
  .cases i
 .cases i
theorem Asl{c:Call}{s x:X}{e sz:Nat}(ho:o.op=.call c)(hcal:c.callee=.builtin .append)(hT:c.argTypes=#[c.argTypes.getD 0 0,c.argTypes.getD 0 0])(ht:BD P (c.argTypes.getD 0 0)=some e)(hel:G6 P e sz=true)(hxs:A6 c.args.toList [s,x]=true)
  (hn:ep<n)(hf:∀dd,d=some dd->μ (ep,dd)=none){dd:Nat}(hd:d=some dd){xs:List V}(hsrc:A4 σ (ev (get env) x)=some xs)(hsz:∀y∈xs,(cells y).length=sz)(hv:v=.arr (ep,dd))
  (he:match ev (get env) s with
   | .nil=>xs.length<=AI/\σ'=((ep,dd),.arr e sz xs)::σ
   | .arr id=>∃es,lk σ id=some (.arr e sz es)/\es.length+xs.length<=AI/\σ'=((ep,dd),.arr e sz (es++xs))::del σ id
   | _=>False):AA P W0 ep o d σ n μ H a w v σ':=by
 obtain⟨s',x',hargs,hs,hx⟩:=Qx hxs
 have hargs:=CG hargs
 generalize c.argTypes.getD 0 0=t at *
 have hu:=B8 ht
 obtain⟨i,z,hi,hisz,hpos,hby,hz,hzs,_⟩:=GE hel
 have hs':=An hr hs
 obtain⟨A,cap,ex,hxlim,hsr⟩:=XQ hr hp (w:=w) hx hsrc hsz
 subst hv
 have run:∀(sv:Value) (es:List V) (vals:List Value),a.eval s'=sv->w.ownsRow W0.heap.size e sz sv es.length vals->AK μ H (AC es) vals->es.length+xs.length<=AI->
   ∃v' w' nv,(execOp a.eval o).run P w=.ok (.value v') w'/\w'.ownsRow W0.heap.size e sz v' (es.length+xs.length) nv/\AK μ H (AC (es++xs)) nv/\w.grownBy w' sv.ownBlock/\(v'.ownBlock=sv.ownBlock\/v'.ownBlock=some w.heap.size):=by
  intro sv es vals hes hown hrel hlim
  have hb:∀(r:Value) (w':World),(Builtin.append_ #[t,t] o.type #[sv,.slice A xs.length cap]).run P w=.ok r w'->(execOp a.eval o).run P w=.ok (.value r) w':=by
   intro r w' h
   obtain⟨cs,hrun⟩:=BJ (P:=P) ho hcal a.eval w
   rw[hrun,hargs,hT]
   simp only[builtin,Azl,AlG,Apy,hes,ex,Akh,h,Ag5,AnC]
  rcases hsr with rfl|⟨ad,news,rfl,hnrel,hcell⟩
  .exact⟨sv,w,vals,hb _ _ (I2 hr hp hu hi hown A cap),by simpa using hown,by simpa using hrel,⟨rfl,rfl,rfl,AzR _,fun _ _ _=>rfl⟩,.inl rfl⟩
  .have hnl:news.length=xs.length*sz:=by rw[<-hnrel.len];exact EW hsz
   obtain⟨v',w',h1,h2,h3,_,h5⟩:=run_append_own_at (P:=P) w W0.heap.size t o.type e i z sz i.bytes hu hi hz hisz rfl hzs hpos sv es.length vals hown ad xs.length cap news hnl hcell hnrel.one (by simp only[maxLen,AI] at *;omega) (Rr hr hp hlim hby) hp.base.size
   refine⟨v',w',_,hb _ _ h1,h2,?_,h3,h5⟩
   rw[Fn]
   exact hrel.append hnrel
 have fin:∀(sv v':Value) (w':World) (es:List V) (nv:List Value) (σ1:Aj),(execOp a.eval o).run P w=.ok (.value v') w'->w'.ownsRow W0.heap.size e sz v' es.length nv->AK μ H (AC es) nv->w.grownBy w' sv.ownBlock->
   (v'.ownBlock=sv.ownBlock\/v'.ownBlock=some w.heap.size)->es.length<=AI->(∀y∈es,(cells y).length=sz)->(∀k,some k=sv.ownBlock->E3 μ σ k)->(∀id e,lk σ1 id=some e->lk σ id=some e/\∀bk,BB (μ id)=some bk->some bk≠sv.ownBlock)->
   AA P W0 ep o d σ n μ H a w (.arr (ep,dd)) (((ep,dd),.arr e sz es)::σ1):=by
  intro sv v' w' es nv σ1 hrun hown hrel hg hob hlim hall hR h1 next Q K
  have hmono:=Bm (v:=v') (hf dd hd)
  have h1c:v'.oneCell'=true:=by obtain⟨A,cap,rfl⟩:=BX hown;rfl
  have hblk:∀bk,BB (some v')=some bk->v'.ownBlock=some bk:=by
   obtain⟨A,cap,rfl⟩:=BX hown
   intro bk hb
   cases A with
   | none=>simp[BB] at hb
   | some A=>simpa[BB,Value.ownBlock] using hb
  have hnew:=hp.new_ (n':=n) (σ1:=σ1) (AR.of_grown hg) hR h1 (hf dd hd) (e:=.arr e sz es) (val:=v') hn (AzR _) (fun bk hb=>by
   rcases hob with h|h
   .exact .inl (by rw[<-h];exact(hblk bk hb).symm)
   .rw[hblk bk hb] at h;cases h;exact .inr (AzR _)) ⟨v',nv,Ap _ _ _,h1c,hown,hlim,hall,hrel.mono hmono (fun _ _ h=>h)⟩
  refine Bg hrun (K _ _ _ _ _ ⟨.arr _ _ (Ap _ _ _) h1c,hnew.1,AzR _,hnew.2,fun id hid hne hnone=>?_⟩)
  rw[B0 _ _ (hne dd hd)]
  exact hnone
 generalize hes:ev (get env) s=vs at *
 split at he
 .obtain⟨hlim,rfl⟩:=he
  have e1:=hs'.nil_inv
  obtain⟨v',w',nv,h1,h2,h3,h4,h5⟩:=run (.slice none 0 0) [] [] e1 (Azg w _ e sz) AK.nil_ (by simpa using hlim)
  simp only[Ank,Aw5,AwM] at h2 h3
  exact fin _ v' w' xs nv σ h1 h2 h3 h4 h5 hlim hsz (fun k hk=>by simp[Value.ownBlock] at hk) (fun id e h=>⟨h,fun bk _ hb=>by simp[Value.ownBlock] at hb⟩)
 .rename_i id
  obtain⟨es,hl,hlim,rfl⟩:=he
  obtain⟨hm,_⟩:=hs'.arr_inv
  obtain⟨vals,_,hown,_,hsz',hrel⟩:=Di hp hl hm
  have hob:∀k,some k=(a.eval s').ownBlock->BB (μ id)=some k:=by
   intro k hk
   rw[hm]
   obtain⟨A',cap',hv'⟩:=BX hown
   rw[hv'] at hk⊢
   cases A' with
   | none=>simp[Value.ownBlock] at hk
   | some A'=>simpa[Value.ownBlock,BB] using hk.symm
  obtain⟨v',w',nv,h1,h2,h3,h4,h5⟩:=run _ es vals rfl hown hrel hlim
  rw[<-AhT] at h2
  refine fin _ v' w' (es++xs) nv (del σ id) h1 h2 h3 h4 h5 (by simpa using hlim) (fun y hy=>(Am2.1 hy).elim (hsz' y) (hsz y)) (fun k hk=>⟨id,_,hl,hob k hk⟩) (fun id' e' h=>?_)
  rw[CA] at h
  split at h
  .cases h
  .rename_i hne
   exact⟨h,fun bk hb hb'=>hne (hp.sep _ _ _ _ bk hl h (hob bk hb') hb)⟩
 .exact he.elim
omit hr hp in
theorem Q6{e:TypeId}(h:Pn P e=true):∃i,P.info? e=some i/\i.size=1/\i.bytes=1/\i.zero=some (.int .u8 0):=by unfold Pn at h;grind
omit hr hp in
theorem Ov(l:List UInt8):AK μ H (AC (Ay l)) (Lib.strCells ⟨l.toArray⟩):=by
 induction l with
 | nil=>exact AK.nil_
 | cons c l f=>
  have e:AK μ H [V.i .u8 c.toNat] [Value.int .u8 c.toNat]:=⟨VRels.nil_.cons (.i _ _),λv b=>by simp at b;subst b;rfl⟩
  exact e.append f
omit hr hp in
theorem Iy{w:World}(base:Nat)(t u x e:TypeId)(i:TypeInfo)(z:P.underlying t=some (.slice e))(A:P.underlying u=some .string)(y:P.info? e=some i)(C:i.zero=some (.int .u8 0))
  (f:i.size=1)(l:i.bytes=1)(v:Value)(n:Nat)(xs:List Value)(b:w.ownsRow base e 1 v n xs)(s:ByteArray)
  (B:n+s.size<=maxLen)(h:n+s.size<=140737488355328)(k:base<=w.heap.size) :
  ∃q w',(Builtin.append_ #[t,u] x #[v,.string s]).run P w=.ok q w'/\w'.ownsRow base e 1 q (n+s.size) (xs++Lib.strCells s)/\w.grownBy w' v.ownBlock/\(q.ownBlock=v.ownBlock\/q.ownBlock=some w.heap.size):=by
 obtain⟨q,w',hr,D,E,F⟩:=Lib.run_append_own_string (P:=P) w base t u x e i z A y C f l v n xs b s B h k;refine⟨q,w',hr,D,E,?_⟩;rcases b.2 with⟨rfl,rfl⟩|⟨g,cap,cur,rfl,hbg,hg,hnc,hcm,hcs,htake⟩
 .by_cases G:s.size=0
  .grind
  .have c:=run_append_nil_string (P:=P) w t u x e i (.int .u8 0) z A y C s (by omega) (by omega) (by rw[l];omega);rw[c] at hr;injection hr with r _;subst r;exact .inr rfl
 .by_cases p:n+s.size<=cap
  .have c:=Lib.run_append_room_string (P:=P) w t u x e i z A y f g n cap cur hg s p (by omega);rw[c] at hr;injection hr with r _;subst r;exact .inl rfl
  .have m:∀j u,xs[j]?=some u->w.cell? ((⟨g,0,none⟩:Addr).add j)=some u:=b.cells (g:=g) rfl;have c:=Lib.run_append_grow_string (P:=P) w t u x e i (.int .u8 0) z A y C ⟨g,0,none⟩ n cap xs (by grind) m s (by omega) (by omega) (by rw[l];exact growslice_fits (by omega) (by omega));rw[c] at hr;injection hr with r _;subst r;exact .inr rfl
theorem AlF{c:Call}{s x:X}{e:Nat}(ho:o.op=.call c)(ad:c.callee=.builtin .append)(hT:c.argTypes=#[c.argTypes.getD 0 0,c.argTypes.getD 1 0])(ht:BD P (c.argTypes.getD 0 0)=some e)(ai:Ch P (c.argTypes.getD 1 0)=true)(au:Pn P e=true)(q:A6 c.args.toList [s,x]=true)
  (hn:ep<n)(hf:∀z,d=some z->μ (ep,z)=none){z:Nat}(hd:d=some z){l:List UInt8}(ah:ev (get env) x=.s l)(hv:v=.arr (ep,z))
  (Y:match ev (get env) s with
   | .nil=>l.length<=AI/\σ'=((ep,z),.arr e 1 (Ay l))::σ
   | .arr id=>∃es,lk σ id=some (.arr e 1 es)/\es.length+l.length<=AI/\σ'=((ep,z),.arr e 1 (es++Ay l))::del σ id
   | _=>False):AA P W0 ep o d σ n μ H a w v σ':=by
 obtain⟨s',x',m,hs,hx⟩:=Qx q;have m:=CG m;generalize c.argTypes.getD 0 0=t at *;generalize c.argTypes.getD 1 0=u at *;have hu:=B8 ht;have aw:=BH ai;obtain⟨i,hi,af,aq,hz⟩:=Q6 au;have ag:=An hr hs;have ak:=An hr hx;rw[ah] at ak;have ex:=ak.s_inv.1;subst hv;obtain⟨xs,q⟩:∃xs,xs=Ay l:=⟨_,rfl⟩;have al:l.length=xs.length:=by rw[q];simp[Ay]
 have U:∀y∈xs,(cells y).length=1:=by intro y hy;rw[q] at hy;obtain⟨c,_,rfl⟩:=AmB.1 hy;rfl
 have S:AK μ H (AC xs) (Lib.strCells ⟨l.toArray⟩):=by rw[q];exact Ov l
 have T:(⟨l.toArray⟩:ByteArray).size=xs.length:=by rw[<-al];simp[ByteArray.size]
 rw[al,<-q] at Y;obtain⟨sz,D⟩:∃sz,sz=1:=⟨_,rfl⟩
 rw[<-D] at Y U;have run:∀(sv:Value) (es:List V) (vals:List Value),a.eval s'=sv->w.ownsRow W0.heap.size e sz sv es.length vals->AK μ H (AC es) vals->es.length+xs.length<=AI->
   ∃g w' E,(execOp a.eval o).run P w=.ok (.value g) w'/\w'.ownsRow W0.heap.size e sz g (es.length+xs.length) E/\AK μ H (AC (es++xs)) E/\w.grownBy w' sv.ownBlock/\(g.ownBlock=sv.ownBlock\/g.ownBlock=some w.heap.size):=by
  intro sv es vals ae b j f;have B:∀(r:Value) (w':World),(Builtin.append_ #[t,u] o.type #[sv,.string ⟨l.toArray⟩]).run P w=.ok r w'->(execOp a.eval o).run P w=.ok (.value r) w':=by intro r w' h;obtain⟨cs,C⟩:=BJ (P:=P) ho ad a.eval w;rw[C,m,hT];simp only[builtin,Azl,AlG,Apy,ae,ex,Akh,h,Ag5,AnC]
  rw[D] at b;obtain⟨g,w',L,G,W,h5⟩:=Iy (w:=w) W0.heap.size t u o.type e i hu aw hi hz af aq sv es.length vals b ⟨l.toArray⟩ (by rw[T];simp only[maxLen,AI] at *;omega) (by rw[T];simp only[AI] at *;omega) hp.base.size;rw[T] at G;refine⟨g,w',_,B _ _ L,by rw[D];exact G,?_,W,h5⟩;rw[Fn];exact j.append S
 have Z:∀(sv g:Value) (w':World) (es:List V) (E:List Value) (σ1:Aj),(execOp a.eval o).run P w=.ok (.value g) w'->w'.ownsRow W0.heap.size e sz g es.length E->AK μ H (AC es) E->w.grownBy w' sv.ownBlock->
   (g.ownBlock=sv.ownBlock\/g.ownBlock=some w.heap.size)->es.length<=AI->(∀y∈es,(cells y).length=sz)->(∀k,some k=sv.ownBlock->E3 μ σ k)->(∀id e,lk σ1 id=some e->lk σ id=some e/\∀p,BB (μ id)=some p->some p≠sv.ownBlock)->
   AA P W0 ep o d σ n μ H a w (.arr (ep,z)) (((ep,z),.arr e sz es)::σ1):=by
  intro sv g w' es E σ1 C b j hg F f ac hR L next Q K
  have N:=Bm (v:=g) (hf z hd);have aa:g.oneCell'=true:=by obtain⟨A,an,rfl⟩:=BX b;rfl
  have I:∀p,BB (some g)=some p->g.ownBlock=some p:=by
   obtain⟨A,an,rfl⟩:=BX b;intro p B;cases A with
   | none=>simp[BB] at B
   | some A=>simpa[BB,Value.ownBlock] using B
  have J:=hp.new_ (n':=n) (σ1:=σ1) (AR.of_grown hg) hR L (hf z hd) (e:=.arr e sz es) (val:=g) hn (AzR _) (λp B=>by
   rcases F with h|h
   .exact .inl (by rw[<-h];exact(I p B).symm)
   .rw[I p B] at h;cases h;exact .inr (AzR _)) ⟨g,E,Ap _ _ _,aa,b,f,ac,j.mono N (λ_ _ h=>h)⟩
  refine Bg C (K _ _ _ _ _ ⟨.arr _ _ (Ap _ _ _) aa,J.1,AzR _,J.2,λid aJ O R=>?_⟩);rw[B0 _ _ (O z hd)];exact R
 generalize ae:ev (get env) s=vs at *;split at Y
 .obtain⟨f,rfl⟩:=Y;have e1:=ag.nil_inv;obtain⟨g,w',E,L,G,W,h4,h5⟩:=run (.slice none 0 0) [] [] e1 (Azg w _ e sz) AK.nil_ (by simpa using f);simp only[Ank,Aw5,AwM] at G W;exact Z _ g w' xs E σ L G W h4 h5 f U (λk M=>by simp[Value.ownBlock] at M) (λid e h=>⟨h,λp _ B=>by simp[Value.ownBlock] at B⟩)
 .rename_i id;obtain⟨es,hl,f,rfl⟩:=Y;obtain⟨hm,_⟩:=ag.arr_inv;obtain⟨vals,_,b,_,aj,j⟩:=Di hp hl hm;have F:∀k,some k=(a.eval s').ownBlock->BB (μ id)=some k:=by
   intro k M;rw[hm];obtain⟨A',az,ax⟩:=BX b;rw[ax] at M⊢;cases A' with
   | none=>simp[Value.ownBlock] at M
   | some A'=>simpa[Value.ownBlock,BB] using M.symm
  obtain⟨g,w',E,L,G,W,h4,h5⟩:=run _ es vals rfl b j f;rw[<-AhT] at G;refine Z _ g w' (es++xs) E (del σ id) L G W h4 h5 (by simpa using f) (λy hy=>(Am2.1 hy).elim (aj y) (U y)) (λk M=>⟨id,_,hl,F k M⟩) (λaS e' h=>?_);rw[CA] at h;split at h
  .cases h
  .rename_i O;exact⟨h,λp B ap=>O (hp.sep _ _ _ _ p hl h (F p ap) B)⟩
 .exact Y.elim
theorem Aqo{t e0:TypeId}{x' i:Operand}{x O:X}{sz:Nat}(ho:o.op=.slice t x' none (some i) none)(ht:BD P t=some e0)(Z:BL P e0=some sz)(hx:BE x' x=true)(N:BE i O=true)
  (hn:ep<n)(hf:∀f,d=some f->μ (ep,f)=none){f:Nat}(L:d=some f){id:Id}{e:TypeId}{es:List V}{q:Nat}(ex:ev (get env) x=.arr id)(S:lk σ id=some (.arr e sz es))(W:Fq (get env) es.length (some O)=some q)(hq:q<=es.length)
  (hv:v=.arr (ep,f)):AA P W0 ep o d σ n μ H a w v (((ep,f),.arr e sz (es.take q))::del σ id):=by
 have E:=An hr hx;rw[ex] at E;have hu:=B8 ht;subst hv;obtain⟨hm,aj⟩:=E.arr_inv;obtain⟨vals,_,c,ae,p,D⟩:=Di hp S hm;obtain⟨A,b,B⟩:=BX c;have j:es.length<=b:=by
  rcases c.2 with⟨h1,h2⟩|⟨g,cap',cur,h1,_,_,h2,_⟩
  .omega
  grind
 have T:H7 none none=true:=rfl;have C:=λw=>HO (P:=P) hr hp T (show H7 (some i) (some O)=true from N) true j (show Fq (get env) 0 none=some 0 from rfl) W (Aqn _) (Am5 hq j) w;have m:∀w,(execOp a.eval o).run P w=.ok (.value (.slice (if b=0 then A else A.map (·.add (0*sz))) (q-0) (b-0))) w:=by
  intro w;have aa:(Instr.slice t (.slice A es.length b) none (some (a.eval i)) none).run P w=.ok (.slice (if b=0 then A else A.map (·.add (0*sz))) (q-0) (b-0)) w:=by have:=C w;simp only[Az8,AwW] at this;simp only[Instr.slice,Akh,run_underlying hu,Ag5,AnC,this,BO Z]
  simp only[execOp,ho,Az8,AwW,Akh,Instr.sliceAt,run_underlying hu,B,Ag5,aa,AnC]
 have hA:(if b=0 then A else A.map (·.add (0*sz)))=A:=by
  split
  .rfl
  .rcases c.2 with⟨h1,h2⟩|⟨g,cap',cur,h1,_⟩
   .grind
   .rw[h1] at B;injection B with I h4 h5;subst I;simp[Ca]
 rw[hA,Azx,Azx] at m;have r:=Bm (v:=.slice A q b) (hf f L);have U:∀k,BB (some (.slice A q b))=some k->BB (μ id)=some k:=by
  intro k F;rw[hm,B];cases A with
  | none=>simp[BB] at F
  | some A=>simpa[BB] using F
 have M:AC (es.take q)=(AC es).take (q*sz):=JX p q;have z:w.ownsRow W0.heap.size e sz (.slice A q b) (es.take q).length (vals.take (q*sz)):=by
  have Y:(es.take q).length=q:=by simp;omega
  have aq:vals.length=es.length*sz:=c.1;rw[Y];refine⟨by simp[*],?_⟩;rcases c.2 with⟨h1,h2⟩|⟨g,cap',cur,h1,hB,hg,h2,I,h4,h5⟩
  .grind
  .rw[h1] at B;cases B;exact .inr ⟨g,b,cur,rfl,hB,hg,by omega,I,h4,by rw[<-h5,AzJ,Ay3 (Ayz _ hq)]⟩
 intro next Q K
 have l:=hp.new_ (n':=n) (σ1:=del σ id) (w':=w) (R:=λk=>BB (μ id)=some k) ⟨rfl,rfl,rfl,AzR _,λ_ _ _=>rfl⟩ (λk F=>⟨id,_,S,F⟩) (λav e' h=>by
   rw[CA] at h;split at h
   .cases h
   .rename_i s;exact⟨h,λG C J=>s (hp.sep _ _ _ _ G S h J C)⟩) (hf f L) (e:=.arr e sz (es.take q)) (val:=.slice A q b) hn (AzR _) (λG C=>.inl (U G C))
  ⟨_,_,Ap _ _ _,rfl,z,by simp;omega,λy hy=>p y (AwH hy),by rw[M];exact(D.take _).mono r (λ_ _ h=>h)⟩
 refine Bg (m w) (K _ _ _ _ _ ⟨.arr _ _ (Ap _ _ _) rfl,l.1,AzR _,l.2,λid al s u=>?_⟩);rw[B0 _ _ (s f L)];exact u
end ops
end Go.Ir
end
section
namespace Go.Ir
open Go.RowKit
variable[F2]
def Asd:eD->Bool
 | .mput _=>true
 | _=>false
def r9:Cr->TypeDesc->Prop
 | .str,d=>d=.string
 | .int,d=>∃k,d=.int k
 | .bool,d=>d=.bool
 | .st _,_=>False
theorem FC{P:Program}{b:Cr}{t:TypeId}(h:L5 P b t=true):∃d,P.underlying t=some d/\r9 b d:=by
 unfold L5 at h;cases c:P.underlying t with
 | none=>grind
 | some d=>rw[c] at h;cases b<;>cases d<;>first|(cases h;done)|exact⟨_,rfl,rfl⟩|exact⟨_,rfl,_,rfl⟩
theorem V9{c:Cr}{d:TypeDesc}(e:r9 c d)(a b:V):Ef c a b=DB c a b:=by
 cases c with
 | st l=>exact e.elim
 | _=>cases a<;>cases b<;>rfl
theorem F5{P:Program}{t k e:TypeId}(h:OA P t=some (k,e)):P.underlying t=some (.map k e):=by unfold OA at h;grind
theorem FH(op:BinOp)(t:TypeId)(x y:Operand)(a:Option Addr)(l c:Nat)(b:Option Addr)(m d:Nat):eqGuard op t x y (.slice a l c) (.slice b m d)=pure ():=by cases op<;>rfl
theorem R7:∀{cs:List V},(∀c∈cs,cells c=[c])->AC cs=cs
 | [],_=>rfl
 | c::cs,h=>by have:=R7 (cs:=cs) λx b=>h x (AzQ _ b);simp only[AC,AyL] at this⊢;grind
theorem NM(a b:List UInt8):((⟨a.toArray⟩:ByteArray)==⟨b.toArray⟩)=(a==b):=by show(a.toArray==b.toArray)=_;simp
section
variable{μ:Id→Option Value}{H:Addr→Option Value}
theorem RJ{g:Cr}{d:TypeDesc}(c:r9 g d){a b:V}{x y:Value}(e:Ao μ H a x)(f:Ao μ H b y){t:Bool}(h:Ef g a b=some t) :
  Instr.sameNow d x y=some t:=by
 rw[V9 c] at h;unfold DB at h;split at h
 .cases h;have c:d=_:=c;subst c;rw[e.s_inv.1,f.s_inv.1];simp only[Instr.sameNow];rw[NM]
 .split at h
  .rename_i i;cases h;obtain⟨k,rfl⟩:=(c:∃k,d=.int k)
   subst i;rw[e.i_inv,f.i_inv];simp[Instr.sameNow]
  .cases h
 .cases h;have c:d=_:=c;subst c;rw[e.b_inv,f.b_inv];simp[Instr.sameNow]
 .cases h
theorem RZ{t:Cr}{d:TypeDesc}(p:r9 t d){a:V}{x:Value}(s:Ao μ H a x) :
  ∀(es:List (V×V)) (ms:List MapEntry) (i:Nat) (r:Option (Nat×V)),es.length=ms.length->(∀(k:Nat) (c:V×V) (m:MapEntry),es[k]?=some c->ms[k]?=some m->Ao μ H c.1 m.key/\Ao μ H c.2 m.val)->Bs t a es i=some r->
   ∃g,Instr.findNow d x ms i=some g/\((r=none/\g=none)\/∃j v val,r=some (j,v)/\g=some (j,val)/\Ao μ H v val/\i<=j/\(es[j-i]?).isSome=true)
 | [],[],i,r,_,_,h=>by
  simp only[Bs] at h;split at h
  .cases h;exact⟨none,rfl,.inl ⟨rfl,rfl⟩⟩
  .cases h
 | e::es,m::ms,i,r,f,b,h=>by
  simp only[Bs] at h;have l:=b 0 e m rfl rfl;split at h
  .rename_i q;cases h;exact⟨some (i,m.val),by simp only[Instr.findNow,RJ p s l.1 q],.inr ⟨i,_,_,rfl,rfl,l.2,AzR _,by simp⟩⟩
  .rename_i q;obtain⟨g,u,A⟩:=RZ p s es ms (i+1) r (by simpa using f) (λk c m y z=>b (k+1) c m (by simpa using y) (by simpa using z)) h;refine⟨g,by simp only[Instr.findNow,RJ p s l.1 q,u],?_⟩;grind
  .cases h
 | [],_::_,_,_,f,_,_=>by simp at f
 | _::_,[],_,_,f,_,_=>by simp at f
theorem MA{c:Cr}{a:V}:∀{es:List (V×V)} {i:Nat} {r:Option (Nat×V)},Bs c a es i=some r->Ko c a=true
 | [],i,r,h=>by simp only[Bs] at h;grind
 | e::es,i,r,h=>by
  simp only[Bs] at h;have:∀t,Ef c a e.1=some t->Ko c a=true:=by
   intro t b;unfold Ef at b;split at b<;>(try (cases b;done))<;>(try (unfold DB at b;split at b<;>first|rfl|grind|grind|(cases b;done)))
   split at b
   .rename_i f;simp[Ko,f.1]
   .cases b
  grind
theorem Ale{P:Program}{w:World}{h:Cr}{i:TypeId}{d:TypeDesc}(f:P.underlying i=some d)(b:r9 h d){a:V}{x:Value}(g:Ao μ H a x)(c:Ko h a=true)(e:Bool)(n:Nat) :
  (Instr.checkKey e (n+1) i x).run P w=.ok () w:=by
 unfold Ko at c;split at c<;>(try (cases c;done))<;>(try (exact b.elim))
 .have b:d=_:=b;subst b;rw[g.s_inv.1];unfold Instr.checkKey;simp[run_underlying f]
 .obtain⟨k,rfl⟩:=(b:∃k,d=.int k);rw[g.i_inv];unfold Instr.checkKey;simp[run_underlying f]
 .have b:d=_:=b;subst b;rw[g.b_inv];unfold Instr.checkKey;simp[run_underlying f]
end
section ops
variable{P:Program}{W0:World}{ep nt:Nat}{o:Oper}{d:Option Nat}{env:A9}{σ σ':Aj}{n:Nat}{μ:Id→Option Value}{H:Addr→Option Value}{a:Act}{w:World}{v:V}
variable(hr:Rl μ H nt env a)(hp:Hp W0 σ n μ H w)
theorem AR.setObj(w:World)(g:Nat)(o:Obj):AR (λk=>k=g) w { w with heap:=w.heap.setIfInBounds g o }:=
 ⟨rfl,rfl,rfl,by simp,λk _ b=>by grind⟩
theorem HH{r:Nat}{s:ByteArray}{b:Nat}(c:w.heap[r]?=some (.stringIter s b)):(getObj r).run P w=.ok (.stringIter s b) w:=by simp[getObj,Sem.run,c]
theorem Na{r:Nat}{s:ByteArray}{b:Nat}(c:Obj)(e:w.heap[r]?=some (.stringIter s b)):(setObj r c).run P w=.ok () { w with heap:=w.heap.setIfInBounds r c }:=by simp[setObj,Sem.run,e]
theorem G0:∀{es:List V} {l:List UInt8},EN es=some l->∃b:List Int,es=b.map (.i .u8)/\l=b.map λn=>UInt8.ofNat n.toNat
 | [],l,h=>by simp only[EN,Amy] at h;simp_all
 | e::es,l,h=>by
  unfold EN at h;split at h
  .grind
  .rename_i nn r f;cases f;cases c:EN es with
   | none=>rw[c] at h;cases h
   | some g=>rw[c] at h;simp only[AwW,Amy] at h;obtain⟨b,rfl,rfl⟩:=G0 c;exact⟨nn::b,rfl,h.symm⟩
  .cases h
include hr hp
omit hr hp in
theorem On{j:Cr}{t:TypeId}(m:L5 P j t=true){x y:V}{k l:Value}{r:Bool}(h:DB j x y=some r)(g:Ao μ H x k)(i:Ao μ H y l)(e:Nat)(w:World):(Op.equalIn (e+1) t k l).run P w=.ok r w:=by
 obtain⟨p,f,b⟩:=FC m;unfold DB at h;split at h
 .cases h;subst b;rw[g.s_inv.1,i.s_inv.1,run_equalIn_string w e t _ _ f];simp_all
 .split at h
  .rename_i c;cases h;obtain⟨q,rfl⟩:=b;subst c;rw[g.i_inv,i.i_inv];exact run_equalIn_int w e t _ q _ _ f
  .cases h
 .cases h;subst b;rw[g.b_inv,i.b_inv];exact run_equalIn_bool w e t _ _ f
 .cases h
omit hr hp in
theorem Lp{c:Cr}{t:TypeId}(e:L5 P c t=true):CW P t=some false:=by
 obtain⟨g,f,b⟩:=FC e;unfold CW;rw[f];cases c
 .subst b;rfl
 .obtain⟨q,rfl⟩:=b;rfl
 .subst b;rfl
 .exact b.elim
omit hr hp in
theorem OK{a b:List V}{xs ys:List Value}(t:AK μ H a xs)(z:AK μ H b ys)(e:Nat)(w:World):∀(k:List Field) (l:List (Nat×Cr)) (r:Bool),EZ P k l=true->eqO a b l=some r->
  (Op.eqFields (e+1) xs.toArray ys.toArray k).run P w=.ok r w
 | [],[],r,_,h=>by cases h;rfl
 | f::k,(o,E)::l,r,c,h=>by
  simp only[EZ,AzP,beq_iff_eq,bne_iff_ne,ne_eq] at c;obtain⟨⟨⟨⟨A,B⟩,m⟩,j⟩,hr⟩:=c;simp only[eqO] at h;split at h
  .rename_i x y C D;obtain⟨F,p,g⟩:=GQ (u:=.agg a) j (Lp m) w xs f.offset t (v:=x) (by rw[A];simpa[sub,cells] using C);obtain⟨G,q,i⟩:=GQ (u:=.agg b) j (Lp m) w ys f.offset z (v:=y) (by rw[A];simpa[sub,cells] using D);simp only[Op.eqFields,ne_eq,B,not_false_eq_true,if_true,Akh,p,q,Ag5];split at h
   .rename_i s;rw[On m s g i];simpa using OK t z e w k l r hr h
   .rename_i s;cases h;rw[On m s g i];simp
   .cases h
  .cases h
 | [],_::_,_,c,_=>by simp[EZ] at c
 | _::_,[],_,c,_=>by simp[EZ] at c
omit hr hp in
theorem HL{b:Cr}{t:TypeId}(h:Ph P b t=true):L5 P b t=true\/∃l c,b=.st l/\P.underlying t=some (.struct c)/\EZ P c.toList l=true/\P.stoodInHeld t=false/\l.map Prod.fst=List.range l.length:=by unfold Ph at h;grind
omit hr hp in
theorem Sb{l:List (Nat×Cr)}{x y:V}{r:Bool}(h:Ef (.st l) x y=some r):∃a b,x=.agg a/\y=.agg b/\a.length=l.length/\b.length=l.length/\eqO a b l=some r:=by unfold Ef at h;grind
omit hr hp in
theorem LK{l:List (Nat×Cr)}{t:TypeId}{c:Array Field}(k:P.underlying t=some (.struct c))(g:EZ P c.toList l=true)(i:P.stoodInHeld t=false){x y:V}{m p:Value}{r:Bool}(h:Ef (.st l) x y=some r)(s:Ao μ H x m)(u:Ao μ H y p)(w:World):(Op.equal t m p).run P w=.ok r w:=by
 obtain⟨a,b,rfl,rfl,_,_,q⟩:=Sb h;obtain⟨z,rfl,e⟩:=s.isA_inv rfl;obtain⟨A,rfl,f⟩:=u.isA_inv rfl;have j:P.fieldsOf t=c:=by simp[Program.fieldsOf,k]
 show(Op.equalIn 10000 t (.agg z.toArray) (.agg A.toArray)).run P w=.ok r w;rw[run_equalIn_struct w 9999 t _ _ (by rw[j];exact k) i,j];exact OK e f 9998 w _ _ _ g q
omit hr hp in
theorem XU{l:List (Nat×Cr)}{t:TypeId}{A:Array Field}(y:P.underlying t=some (.struct A))(b:EZ P A.toList l=true)(f:P.stoodInHeld t=false){a:V}{x:Value}(z:Ao μ H a x)(w:World) :
  ∀(es:List (V×V)) (ms:List MapEntry) (i:Nat) (r:Option (Nat×V)),es.length=ms.length->(∀(k:Nat) (c:V×V) (m:MapEntry),es[k]?=some c->ms[k]?=some m->Ao μ H c.1 m.key/\Ao μ H c.2 m.val)->Bs (.st l) a es i=some r->
   ∃q,(Instr.findAsking t x ms i).run P w=.ok q w/\((r=none/\q=none)\/∃j v val,r=some (j,v)/\q=some (j,val)/\Ao μ H v val/\i<=j/\(es[j-i]?).isSome=true)
 | [],[],i,r,_,_,h=>by
  simp only[Bs] at h;split at h
  .cases h;exact⟨none,by simp[Instr.findAsking],.inl ⟨rfl,rfl⟩⟩
  .cases h
 | e::es,m::ms,i,r,p,g,h=>by
  simp only[Bs] at h;have s:=g 0 e m rfl rfl;split at h
  .rename_i u;cases h;exact⟨some (i,m.val),by simp[Instr.findAsking,LK y b f u z s.1 w],.inr ⟨i,_,_,rfl,rfl,s.2,AzR _,by simp⟩⟩
  .rename_i u;obtain⟨q,B,E⟩:=XU y b f z w es ms (i+1) r (by simpa using p) (λk c m C D=>g (k+1) c m (by simpa using C) (by simpa using D)) h;refine⟨q,by simp[Instr.findAsking,LK y b f u z s.1 w,B],?_⟩;grind
  .cases h
 | [],_::_,_,_,p,_,_=>by simp at p
 | _::_,[],_,_,p,_,_=>by simp at p
omit hr hp in
theorem Qv{y:Cr}{z:TypeId}(C:Ph P y z=true){a:V}{x:Value}(u:Ao μ H a x)(w:World)(es:List (V×V))(ms:List MapEntry)(r:Option (Nat×V))(t:es.length=ms.length)(g:∀(k:Nat) (c:V×V) (m:MapEntry),es[k]?=some c->ms[k]?=some m->Ao μ H c.1 m.key/\Ao μ H c.2 m.val)(s:Bs y a es 0=some r) :
  ∃f,(Instr.findKey z x ms).run P w=.ok f w/\((r=none/\f=none)\/∃j v val,r=some (j,v)/\f=some (j,val)/\Ao μ H v val/\0<=j/\(es[j-0]?).isSome=true):=by
 rcases HL C with B|⟨l,A,rfl,h,p,q,_⟩
 .obtain⟨D,h,i⟩:=FC B;obtain⟨f,e,b⟩:=RZ i u es ms 0 r t g s;exact⟨f,MapKept.run_findKey h e,b⟩
 .obtain⟨f,e,b⟩:=XU h p q u w es ms 0 r t g s;refine⟨f,?_,b⟩;cases ms with
  | nil=>simpa[Instr.findKey,Akh,run_underlying h,Instr.findNow,Instr.findAsking] using e
  | cons m ms=>
   have:Instr.findNow (.struct A) x (m::ms) 0=none:=by simp[Instr.findNow,Instr.sameNow]
   simpa[Instr.findKey,Akh,run_underlying h,this] using e
omit hr hp in
theorem LT{cs:List V}{vals:List Value}(hc:AK μ H cs vals)(e:Bool)(n:Nat)(w:World):∀(fs:List Field) (l:List (Nat×Cr)),EZ P fs l=true->(∀p∈l,p.1<cs.length)->
  (do for f in fs do if f.name ≠ "_" then Instr.checkKey e (n + 1) f.type (← part f.type vals.toArray f.offset):Sem Unit).run P w=.ok () w
 | [],[],_,_=>by simp
 | f::fs,(o,kk)::l,hok,hb=>by
  simp only[EZ,AzP,beq_iff_eq,bne_iff_ne,ne_eq] at hok
  obtain⟨⟨⟨⟨ho,hn⟩,hk⟩,hsz⟩,hr⟩:=hok
  have hlt:o<cs.length:=hb (o,kk) (by simp)
  obtain⟨vx,hpx,hrx⟩:=GQ (u:=.agg cs) hsz (Lp hk) w vals f.offset hc (v:=cs[o]) (by rw[ho];simp[sub,cells])
  obtain⟨dd,hu,hdd⟩:=FC hk
  have hck:(Instr.checkKey e (n+1) f.type vx).run P w=.ok () w:=by
   cases kk with
   | st l=>exact hdd.elim
   | str=>cases(hdd:dd=.string);unfold Instr.checkKey;simp[run_underlying hu]
   | int=>obtain⟨q,rfl⟩:=(hdd:∃k,dd=.int k);unfold Instr.checkKey;simp[run_underlying hu]
   | bool=>cases(hdd:dd=.bool);unfold Instr.checkKey;simp[run_underlying hu]
  have ih:=LT hc e n w fs l hr (fun p hp=>hb p (AzQ _ hp))
  simp only[List.forIn_cons,ne_eq,hn,not_false_eq_true,if_true,Akh,hpx,hck,Ag5,AnC]
  simp_all
 | [],_::_,hok,_=>by simp[EZ] at hok
 | _::_,[],hok,_=>by simp[EZ] at hok
omit hr hp in
theorem NW{k:Cr}{m:TypeId}(u:Ph P k m=true){a:V}{x:Value}(j:Ao μ H a x)(c:Ko k a=true)(e:Bool)(w:World):(Instr.checkKey e 10000 m x).run P w=.ok () w:=by
 rcases HL u with b|⟨l,q,rfl,i,h,t,s⟩
 .obtain⟨y,i,g⟩:=FC b;exact Ale i g j c e 9999
 .unfold Ko at c;split at c<;>(try (rename_i b;cases b;done))<;>(try (cases c;done))
  rename_i A cs b;cases b;obtain⟨B,rfl,f⟩:=j.isA_inv rfl;have r:∀p∈l,p.1<cs.length:=by
   intro p hp;have z:p.1∈List.range l.length:=by grind
   grind
  have:=LT f e 9998 w q.toList l h r;unfold Instr.checkKey;simp only[Akh,run_underlying i,Ag5];simp_all
omit hr hp in
theorem Ada{j:Cr}{kt:TypeId}(X:Ph P j kt=true){a b:V}{x y:Value}(i:Ao μ H a x)(N:Ao μ H b y)(h:Ef j a b=some true):y=x/\Instr.sameBits 10000 x x=true:=by
 have base:∀{j:Cr} {a b:V} {x y:Value} (n:Nat),Ao μ H a x->Ao μ H b y->DB j a b=some true->y=x/\Instr.sameBits n x x=true:=by
  intro j a b x y n i g c;unfold DB at c;split at c
  .rename_i p q;rw[i.s_inv.1,g.s_inv.1];simp only[Amy,beq_iff_eq] at c;rw[c];refine⟨rfl,?_⟩;cases n<;>· simp only[Instr.sameBits];rw[NM];simp
  .rename_i k1 p k2 q;split at c
   .rename_i z;subst z;rw[i.i_inv,g.i_inv];simp only[Amy,beq_iff_eq] at c;rw[c];exact⟨rfl,by cases n<;>simp[Instr.sameBits]⟩
   .cases c
  .rename_i p q;rw[i.b_inv,g.b_inv];simp only[Amy,beq_iff_eq] at c;rw[c];exact⟨rfl,by cases n<;>simp[Instr.sameBits]⟩
  .cases c
 rcases HL X with O|⟨l,fs,rfl,Y,T,W,G⟩
 .obtain⟨dd,Y,D⟩:=FC O;rw[V9 D] at h;exact base _ i N h
 .obtain⟨I,J,rfl,rfl,la,lb,R⟩:=Sb h;obtain⟨A,rfl,e⟩:=i.isA_inv rfl;obtain⟨m,rfl,f⟩:=N.isA_inv rfl;have r:∀(l:List (Nat×Cr)),eqO I J l=some true->∀p∈l,∃u v,I[p.1]?=some u/\J[p.1]?=some v/\DB p.2 u v=some true:=by
   intro l
   induction l with
   | nil=>grind
   | cons q l ih=>obtain⟨o,j⟩:=q;intro h p hp;simp only[eqO] at h;grind
  have K:∀k,k<A.length->∃v,A[k]?=some v/\m[k]?=some v/\Instr.sameBits 9999 v v=true:=by
   intro k z;have F:k<l.length:=by have:=e.len;simp only[cells] at this;omega
   have B:(l[k]).1=k:=by have:=congrArg (λq:List Nat=>q[k]?) G;grind
   obtain⟨u,v,s,t,U⟩:=r l R (l[k]) (Azm F);rw[B] at s t;have E:k<m.length:=by have:=f.len;simp only[cells] at this;omega
   have r1:=e.at_ k u _ s (Afb z);have r2:=f.at_ k v _ t (Afb E);obtain⟨L,c⟩:=base 9999 r1 r2 U;grind
  have M:m.length=A.length:=by have B:=e.len;have L:=f.len;simp only[cells] at B L;omega
  have C:m=A:=by apply AwD;grind
  subst C;refine⟨rfl,?_⟩;show((m.toArray.size==m.toArray.size)&&_)=true;simp only[beq_self_eq_true,Au4,Am3];rintro⟨x,y⟩ S;obtain⟨k,z,Z⟩:=List.getElem_of_mem S;grind
omit hr hp in
theorem Ts{k:Aa0}{t:TypeId}{c:Value}{x:V}{val:Value}{r:Bool}(m:Ag4 P k t c=true)(h:JR k x=some r)(f:Ao μ H x val) :
  (∀w,(Op.equal t val c).run P w=.ok r w)/\(∀(op:BinOp) (x':Operand) (w:World),(eqGuard op t x' (.const c) val c).run P w=.ok () w)/\(binOp .eql t val c=do pure (.bool (<-Op.equal t val c)))/\(binOp .neq t val c=do pure (.bool (!(<-Op.equal t val c)))):=by
 have j:∀{x y:Value} {r:Bool} {w:World},(∀d,(Op.equalIn (d+1) t x y).run P w=.ok r w)->(Op.equal t x y).run P w=.ok r w:=λh=>h 9999;unfold Ag4 at m;split at m
 .rename_i e i;have l:∀(p:Option Addr),val=.pointer p->r=p.isNone->(∀w,(Op.equal t val (.pointer none)).run P w=.ok r w)/\(∀(op:BinOp) (x':Operand) (w:World),(eqGuard op t x' (.const (.pointer none)) val (.pointer none)).run P w=.ok () w)/\(binOp .eql t val (.pointer none)=do pure (.bool (<-Op.equal t val (.pointer none))))/\(binOp .neq t val (.pointer none)=do pure (.bool (!(<-Op.equal t val (.pointer none))))):=λp (g:val=.pointer p) (hr:r=p.isNone)=>by subst g;subst hr;refine⟨λw=>j λd=>by cases p<;>simp[Op.equalIn,run_underlying i],λop x' w=>by cases op<;>cases p<;>simp[eqGuard],rfl,rfl⟩
  cases x<;>simp only[JR] at h<;>(try (cases h;done))<;>cases h
  .obtain⟨q,_,g⟩:=f.ref_inv;exact l _ g rfl
  .obtain⟨q,_,_,_,g⟩:=f.aref_inv;exact l _ g rfl
  .obtain⟨s,_,g,_⟩:=f.ep_inv;exact l _ g rfl
  .cases f;exact l none rfl rfl
 .rename_i a b e i;cases x<;>simp only[JR] at h<;>(try (cases h;done))<;>cases h
  .cases f;exact⟨λw=>j λd=>by simp[Op.equalIn,run_underlying i],λop x' w=>by cases op<;>simp[eqGuard],rfl,rfl⟩
  .cases f;exact⟨λw=>j λd=>by simp[Op.equalIn,run_underlying i],λop x' w=>by cases op<;>simp[eqGuard],rfl,rfl⟩
 .rename_i a i;cases x<;>simp only[JR] at h<;>(try (cases h;done))<;>cases h
  .cases f;exact⟨λw=>j λd=>by simp[Op.equalIn,run_underlying i],λop x' w=>by cases op<;>simp[eqGuard],rfl,rfl⟩
  .cases f;exact⟨λw=>j λd=>by simp[Op.equalIn,run_underlying i],λop x' w=>by cases op<;>simp[eqGuard],rfl,rfl⟩
 .cases m
omit hr hp in
theorem Ow{x:V}{val:Value}{r:Bool}(h:JR .p x=some r)(b:Ao μ H x val):∃p:Option Addr,val=.pointer p/\r=p.isNone:=by
 cases x<;>simp only[JR] at h<;>(try (cases h;done))<;>cases h
 .obtain⟨e,_,c⟩:=b.ref_inv;grind
 .obtain⟨e,_,_,_,c⟩:=b.aref_inv;grind
 .obtain⟨f,_,c,_⟩:=b.ep_inv;grind
 .cases b;grind
omit hr hp in
theorem AbB{t e:TypeId}{m:Nat}(c:P.underlying t=some (.pointer e))(D:BL P e=some (m+1)){x y:V}{s u:Value}{r:Bool}(h:Aii x y=some r)(f:Ao μ H x s)(g:Ao μ H y u) :
  ∃p q:Option Addr,s=.pointer p/\u=.pointer q/\∀w,(Op.equal t (.pointer p) (.pointer q)).run P w=.ok r w:=by
 have i:∀{x y:Value} {r:Bool} {w:World},(∀d,(Op.equalIn (d+1) t x y).run P w=.ok r w)->(Op.equal t x y).run P w=.ok r w:=λh=>h 9999;unfold Aii at h;split at h
 .obtain⟨q,rfl,rfl⟩:=Ow h g;cases f;exact⟨none,q,rfl,rfl,λw=>i λd=>by cases q<;>simp[Op.equalIn,run_underlying c]⟩
 .obtain⟨q,rfl,rfl⟩:=Ow h f;cases g;exact⟨q,none,rfl,rfl,λw=>i λd=>by cases q<;>simp[Op.equalIn,run_underlying c]⟩
 .rename_i id o E l;split at h
  .rename_i b;subst b;cases h;obtain⟨F,C,A⟩:=f.ref_inv;obtain⟨z,j,B⟩:=g.ref_inv;rw[C] at j;cases j;refine⟨_,_,A,B,λw=>i λd=>?_⟩;simp only[Op.equalIn,Akh,run_underlying c,Ag5,BO D,sameAddr];by_cases k:o=l
   .subst k;simp
   .have:(o==l)=false:=by simp[k]
    simp[*]
  .cases h
 .cases h
omit hr in
theorem Nw{id:Id}{b:A5}(j:lk σ id=some b)(i:MT b=true){e:Nat}(k:μ id=some (.pointer (some ⟨e,0,none⟩))):∃vals t,w.heap[e]?=some (.cells vals t (0,0)):=by
 have h:=hp.ents id b j;cases b with
 | box v=>obtain⟨c,vals,t,f,_,g,_⟩:=h;grind
 | tbox t v=>obtain⟨c,vals,f,_,g,_⟩:=h;grind
 | _=>cases i
omit hr in
theorem AcM{t e:TypeId}{m:Nat}(j:P.underlying t=some (.pointer e))(F:BL P e=some (m+1)){x y:V}{J K:Value}{r:Bool}(h:GN σ x y=some r)(z:Ao μ H x J)(A:Ao μ H y K) :
  ∃p q:Option Addr,J=.pointer p/\K=.pointer q/\(Op.equal t (.pointer p) (.pointer q)).run P w=.ok r w:=by
 have k:∀{x y:Value} {r:Bool} {w:World},(∀d,(Op.equalIn (d+1) t x y).run P w=.ok r w)->(Op.equal t x y).run P w=.ok r w:=λh=>h 9999;unfold GN at h;split at h
 .obtain⟨q,rfl,rfl⟩:=Ow h A;cases z;exact⟨none,q,rfl,rfl,k λd=>by cases q<;>simp[Op.equalIn,run_underlying j]⟩
 .obtain⟨q,rfl,rfl⟩:=Ow h z;cases A;exact⟨q,none,rfl,rfl,k λd=>by cases q<;>simp[Op.equalIn,run_underlying j]⟩
 .rename_i id o B C;obtain⟨l,u,D⟩:=z.ref_inv;obtain⟨g,i,E⟩:=A.ref_inv;split at h
  .rename_i f;subst f;cases h;rw[u] at i;cases i;refine⟨_,_,D,E,k λd=>?_⟩;simp only[Op.equalIn,Akh,run_underlying j,Ag5,BO F,sameAddr];by_cases G:o=C
   .subst G;simp
   .have:(o==C)=false:=by simp[G]
    simp[*]
  .rename_i f;obtain⟨N,l1,h⟩:=Aem.1 h;obtain⟨s,I,h⟩:=Aem.1 h;split at h
   .rename_i c;cases h;simp only[AzP] at c;have O:l≠g:=by rintro rfl;exact f (hp.sep id N B s l l1 I (by rw[u];rfl) (by rw[i];rfl))
    obtain⟨T,S,L⟩:=Nw hp l1 c.1 u;obtain⟨v2,t2,M⟩:=Nw hp I c.2 i;refine⟨_,_,D,E,k λd=>?_⟩;simp only[Op.equalIn,Akh,run_underlying j,Ag5,BO F];have R:=run_sameAddr_other (P:=P) w (a:=⟨l,o,none⟩) (b:=⟨g,C,none⟩) (by simp[O]) L M;simp[R]
   .cases h
 .cases h
theorem Ap6{g:Bool}{x y:X}(c:Gu P (.eqp g) o.op [x,y]=true)(C:(GN σ (ev (get env) x) (ev (get env) y)).map (eqN g)=some v):AA P W0 ep o d σ n μ H a w v σ:=by
 simp only[Gu] at c;split at c
 .rename_i I t x' z L u;simp only[AzP,beq_iff_eq] at c;obtain⟨⟨h,f⟩,l⟩:=c;split at f
  .rename_i J E;split at f
   .rename_i m D;simp only[A6,AzP] at l;have F:=An hr l.1;have G:=An hr (x:=z) (y:=y) (by grind);obtain⟨r,i,rfl⟩:=AeM.1 C;obtain⟨p,q,j,k,e⟩:=AcM hp E D i F G;refine λnext Q K=>Bg (val:=.bool (if g then !r else r)) ?_ (K _ _ _ _ _ (FF.same hp (.b _)))
    subst h;have s:∀(op:BinOp),(eqGuard op t x' z (.pointer p) (.pointer q)).run P w=.ok () w:=λop=>by cases op<;>cases p<;>cases q<;>simp[eqGuard]
    have A:binOp .eql t (.pointer p) (.pointer q)=(do pure (.bool (<-Op.equal t (.pointer p) (.pointer q)))):=rfl;have B:binOp .neq t (.pointer p) (.pointer q)=(do pure (.bool (!(<-Op.equal t (.pointer p) (.pointer q))))):=rfl;cases g
    .simp only[execOp,u,j,k,Akh,s,Ag5];simp[A,e]
    .simp only[execOp,u,j,k,Akh,s,Ag5];simp[B,e]
   .cases f
  .cases f
 .cases c
theorem AvC{k:PuK}{xs:List X}(f:Gu P k o.op xs=true)(j:Fv k (xs.map (ev (get env)))=some v):AA P W0 ep o d σ n μ H a w v σ:=by
 cases k with
 | bit op=>
  simp only[Gu] at f;split at f
  .rename_i W t x' Y ty z;simp only[AzP,beq_iff_eq] at f;obtain⟨rfl,g⟩:=f
   match xs,g,j with
   | [x,y],g,j=>
    simp only[A6,AzP] at g;have B:=An hr g.1;have Z:=An hr (x:=Y) (y:=y) (by grind);simp only[AlG,Apy] at j;generalize ev (get env) x=O at *;generalize ev (get env) y=vy at *;unfold Fv at j;split at j<;>(try (rename_i u _;cases u;done))<;>(try (cases j;done))<;>(try (rename_i u;cases u;done))
    rename_i al k p k' q u I;cases u;cases I;split at j
    .rename_i hk;subst hk;have ex:=B.i_inv;have ey:=Z.i_inv;unfold o3 at j;split at j<;>(try (cases j;done))
     all_goals
      cases j;exact AA.same (λw=>by simp[execOp,z,ex,ey,eqGuard_at_int,binOp,Op.intBits]) hp (.i _ _)
    .cases j
   | [],g,_=>simp[A6] at g
   | [_],g,_=>simp[A6] at g
   | _::_::_::_,g,_=>simp[A6] at g
  .cases f
 | shf op=>
  simp only[Gu] at f;split at f
  .rename_i W t x' Y ty z;simp only[AzP,beq_iff_eq] at f;obtain⟨rfl,g⟩:=f
   match xs,g,j with
   | [x,y],g,j=>
    simp only[A6,AzP] at g;have B:=An hr g.1;have Z:=An hr (x:=Y) (y:=y) (by grind);simp only[AlG,Apy] at j;generalize ev (get env) x=O at *;generalize ev (get env) y=vy at *;unfold Fv at j;split at j<;>(try (rename_i u _;cases u;done))<;>(try (cases j;done))<;>(try (rename_i u;cases u;done))
    rename_i al k p k' q u I;cases u;cases I;split at j
    .rename_i hq;have ex:=B.i_inv;have ey:=Z.i_inv;have aH:¬q<0:=by omega
     unfold AlD at j;split at j<;>(try (cases j;done))
     all_goals
      cases j;exact AA.same (λw=>by simp[execOp,z,ex,ey,eqGuard_at_int,binOp,Op.shift,aH]) hp (.i _ _)
    .cases j
   | [],g,_=>simp[A6] at g
   | [_],g,_=>simp[A6] at g
   | _::_::_::_,g,_=>simp[A6] at g
  .cases f
 | aget m sz ag=>
  simp only[Gu] at f;split at f
  .rename_i t x' i' z;simp only[AzP] at f;obtain⟨G,g⟩:=f;split at G
   .rename_i m' e U;simp only[AzP,beq_iff_eq] at G;obtain⟨⟨rfl,M⟩,ax⟩:=G
    match xs,g,j with
    | [x,y],g,j=>
     simp only[A6,AzP] at g;have B:=An hr g.1;have Z:=An hr (x:=i') (y:=y) (by grind);simp only[AlG,Apy] at j;generalize ev (get env) x=O at *;generalize ev (get env) y=vy at *;unfold Fv at j;split at j<;>(try (rename_i u _;cases u;done))<;>(try (cases j;done))<;>(try (rename_i u;cases u;done))
     rename_i m2 a2 aS cs k i u I;cases u;cases I;split at j
     .rename_i hi;have ei:=Z.i_inv;obtain⟨vals,C,hc⟩:=B.isA_inv rfl;obtain⟨val,T,D⟩:=GQ M ax w vals _ hc j;intro next Q K
      refine Bg (w':=w) (val:=val) ?_ (K _ _ _ _ _ (FF.same hp D));simp[execOp,z,C,ei,Instr.index,asIntOf,run_underlying U,hi,BO M,T]
     .cases j
    | [],g,_=>simp[A6] at g
    | [_],g,_=>simp[A6] at g
    | _::_::_::_,g,_=>simp[A6] at g
   .cases G
  .cases f
 | eqs N l=>
  simp only[Gu] at f;split at f
  .rename_i W t x' Y ty z;simp only[AzP,beq_iff_eq,Ar9] at f;obtain⟨⟨⟨⟨R,G⟩,aI⟩,ah⟩,g⟩:=f;split at G
   .rename_i fs U
    match xs,g,j with
    | [x,y],g,j=>
     simp only[A6,AzP] at g;have B:=An hr g.1;have Z:=An hr (x:=Y) (y:=y) (by grind);simp only[AlG,Apy] at j;generalize ev (get env) x=O at *;generalize ev (get env) y=vy at *;unfold Fv at j;split at j<;>(try (rename_i u _;cases u;done))<;>(try (cases j;done))<;>(try (rename_i u;cases u;done))
     rename_i a1 l2 ca cb u I;cases u;cases I;obtain⟨r,S,rfl⟩:=AeM.1 j;obtain⟨va,C,az⟩:=B.isA_inv rfl;obtain⟨vb,e2,aA⟩:=Z.isA_inv rfl;have hf:P.fieldsOf t=fs:=by simp[Program.fieldsOf,U]
     have F:∀w,(Op.equalIn 10000 t (.agg va.toArray) (.agg vb.toArray)).run P w=.ok r w:=λw=>by rw[run_equalIn_struct w 9999 t _ _ (by rw[hf];exact U) aI,hf];exact OK az aA 9998 w _ _ _ G S
     subst R;refine AA.same (val:=.bool (if N then !r else r)) (λw=>?_) hp (.b _);cases N
     .simp[execOp,z,C,e2,run_eqGuard_agg w _ t x' Y _ _ ah,run_eql_struct,F]
     .simp[execOp,z,C,e2,run_eqGuard_agg w _ t x' Y _ _ ah,run_neq_struct,F]
    | [],g,_=>simp[A6] at g
    | [_],g,_=>simp[A6] at g
    | _::_::_::_,g,_=>simp[A6] at g
   .cases G
  .cases f
 | nilq k N=>
  simp only[Gu] at f;split at f
  .rename_i W t x' c ty z;simp only[AzP,beq_iff_eq] at f;obtain⟨⟨R,G⟩,g⟩:=f
   match xs,g,j with
   | [x],g,j=>
    have B:=An hr (x:=x') (y:=x) (by simpa[A6] using g);simp only[AlG,Apy,Fv] at j;obtain⟨r,S,rfl⟩:=AeM.1 j;obtain⟨u,I,h4,h5⟩:=Ts G S B;have ec:a.eval (.const c)=c:=rfl;refine AA.same (val:=.bool (if N then !r else r)) (λw=>?_) hp (.b _);subst R;cases N
    .simp only[execOp,z,ec,Akh,I,Ag5];simp[h4,u]
    .simp only[execOp,z,ec,Akh,I,Ag5];simp[h5,u]
   | [],g,_=>simp[A6] at g
   | _::_::_,g,_=>simp[A6] at g
  .cases f
 | eqp N=>
  simp only[Gu] at f;split at f
  .rename_i W t x' Y ty z;simp only[AzP,beq_iff_eq] at f;obtain⟨⟨R,G⟩,g⟩:=f;split at G
   .rename_i el U;split at G
    .rename_i m hm
     match xs,g,j with
     | [x,y],g,j=>
      simp only[A6,AzP] at g;have B:=An hr g.1;have Z:=An hr (x:=Y) (y:=y) (by grind);simp only[AlG,Apy,Fv] at j;obtain⟨r,S,rfl⟩:=AeM.1 j;obtain⟨p,q,C,e2,F⟩:=AbB U hm S B Z;refine AA.same (val:=.bool (if N then !r else r)) (λw=>?_) hp (.b _);subst R;have hg:∀(op:BinOp),(eqGuard op t x' Y (.pointer p) (.pointer q)).run P w=.ok () w:=λop=>by cases op<;>cases p<;>cases q<;>simp[eqGuard]
      have b1:binOp .eql t (.pointer p) (.pointer q)=(do pure (.bool (<-Op.equal t (.pointer p) (.pointer q)))):=rfl;have b2:binOp .neq t (.pointer p) (.pointer q)=(do pure (.bool (!(<-Op.equal t (.pointer p) (.pointer q))))):=rfl;cases N
      .simp only[execOp,z,C,e2,Akh,hg,Ag5];simp[b1,F]
      .simp only[execOp,z,C,e2,Akh,hg,Ag5];simp[b2,F]
     | [],g,_=>simp[A6] at g
     | [_],g,_=>simp[A6] at g
     | _::_::_::_,g,_=>simp[A6] at g
    .cases G
   .cases G
  .cases f
 | stuck=>cases j
 | com=>
  simp only[Gu] at f;split at f
  .rename_i t x' z
   match xs,f,j with
   | [x],g,j=>
    have B:=An hr (x:=x') (y:=x) (by simpa[A6] using g);simp only[AlG,Apy] at j;generalize ev (get env) x=O at *;unfold Fv at j;split at j<;>(try (rename_i u _;cases u;done))<;>(try (cases j;done))<;>(try (rename_i u;cases u;done))
    rename_i k p u;cases u;have ex:=B.i_inv;simp only[o3,Amy] at j;subst j;exact AA.same (λw=>by simp[execOp,z,ex,Op.unary,Op.intBits]) hp (.i _ _)
   | [],g,_=>simp[A6] at g
   | _::_::_,g,_=>simp[A6] at g
  .cases f
 | isnil N=>
  simp only[Gu] at f;split at f
  .rename_i W t x' ty z;simp only[AzP,beq_iff_eq] at f;obtain⟨⟨rfl,I⟩,g⟩:=f
   match xs,g,j with
   | [x],g,j=>
    have B:=An hr (x:=x') (y:=x) (by simpa[A6] using g);simp only[AlG,Apy] at j;obtain⟨e,G⟩:=AtR.1 I;have U:=B8 G;generalize ev (get env) x=O at *;have J:∀(A:Option Addr) (l c:Nat),a.eval x'=.slice A l c->Ao μ H v (.bool (if N then A.isSome else A.isNone))->AA P W0 ep o d σ n μ H a w v σ:=by
     intro A l c C hv;refine AA.same (λw=>?_) hp hv;have hc:a.eval (.const (.slice none 0 0))=.slice none 0 0:=rfl;have F:∀w,(Op.equal t (.slice A l c) (.slice none 0 0)).run P w=.ok A.isNone w:=λw=>run_equal_slice_nil w t e A l c U;cases N
     .simp[execOp,z,C,hc,FH,binOp,F]
     .simp[execOp,z,C,hc,FH,binOp,F]
    cases O with
    | nil=>simp only[Fv,Amy] at j;subst j;refine J none 0 0 B.nil_inv ?_;cases N<;>exact .b _
    | sl es=>
     obtain⟨A,ab,C,hc,hl,L⟩:=B.sl_inv;cases es with
     | nil=>simp only[Fv,Amy] at j;subst j;exact J _ _ _ C (.ub _)
     | cons y ys=>
      simp only[Fv,Amy] at j;subst j;rcases L with h0|⟨ad,sz,vals,rfl,_⟩
      .cases h0
      .refine J _ _ _ C ?_;cases N<;>exact .b _
    | _=>simp[Fv] at j
   | [],g,_=>simp[A6] at g
   | _::_::_,g,_=>simp[A6] at g
  .cases f
 | itos=>
  simp only[Gu] at f;split at f
  .rename_i am af x' z;simp only[AzP] at f;obtain⟨⟨u,I⟩,g⟩:=f
   match xs,g,j with
   | [x],g,j=>
    have B:=An hr (x:=x') (y:=x) (by simpa[A6] using g);simp only[AlG,Apy] at j;generalize ev (get env) x=O at *;cases O with
    | i k m=>
     simp only[Fv,Amy] at j;subst j;obtain⟨k0,aF⟩:=AtR.1 u;have C:=B.i_inv;refine AA.same (val:=.string (Utf8.encode m)) (λw=>?_) hp ?_
     .simp[execOp,z,C,convert,run_underlying (Hh aF),run_underlying (BH I),Conv.intToString]
     .have ak:(Utf8.encode m).data.toList.length<=AJ:=by
       have:(Utf8.encode m).data.toList.length<=4:=by unfold Utf8.encode;grind
       unfold AJ;omega
      have:=Ao.s (μ:=μ) (H:=H) (Utf8.encode m).data.toList ak;simpa using this
    | _=>simp[Fv] at j
   | [],g,_=>simp[A6] at g
   | _::_::_,g,_=>simp[A6] at g
  .cases f
 | btos=>
  simp only[Gu] at f;split at f
  .rename_i am af x' z;simp only[AzP,beq_iff_eq,Aem] at f;obtain⟨⟨⟨e,u,aw⟩,I⟩,g⟩:=f
   match xs,g,j with
   | [x],g,j=>
    have B:=An hr (x:=x') (y:=x) (by simpa[A6] using g);simp only[AlG,Apy] at j;generalize ev (get env) x=O at *;have J:∀(A:Option Addr) (l c:Nat) (s:List UInt8),a.eval x'=.slice A l c->s.length<=AJ->v=.s s->(∀w',w'=w->(Conv.bytesToString (.slice A l c)).run P w'=.ok (.string ⟨s.toArray⟩) w')->AA P W0 ep o d σ n μ H a w v σ:=by
     intro A l c s C hl hv T next Q K
     subst hv;refine Bg (w':=w) (val:=.string ⟨s.toArray⟩) ?_ (K _ _ _ _ _ (FF.same hp (.s _ hl)));simp only[execOp,z,C,Akh,run_convert_bytes_string w am af e A l c (B8 u) (Hh aw) (BH I),T w rfl,Ag5,AnC]
    cases O with
    | nil=>simp only[Fv,Amy] at j;refine J none 0 0 [] B.nil_inv (by simp) j.symm (λw' _=>?_);simp[Conv.bytesToString];rfl
    | sl es=>
     simp only[Fv,AeM] at j;obtain⟨l,hb,rfl⟩:=j;obtain⟨E,rfl,rfl⟩:=G0 hb;obtain⟨A,ab,C,hc,hl,L⟩:=B.sl_inv;rw[Abn] at hl C;refine J A _ ab _ C (by simp only[Abn,AI,AJ] at *;omega) rfl (λw' aJ=>?_);subst aJ;rcases L with h0|⟨ad,sz,vals,rfl,M,D,aa⟩
     .have:E=[]:=by simpa using h0
      subst this;cases A<;>simp[Conv.bytesToString,loadCells,loadCellsFrom]<;>rfl
     .have aC:AC (E.map (V.i .u8))=E.map (V.i .u8):=by
       clear D aa M hb C hc hl J B j
       induction E with
       | nil=>rfl
       | cons m E ih=>simpa[AC,cells] using ih
      rw[aC] at D;have hv:vals=E.map (Value.int .u8):=by
       apply AwD;intro k;by_cases hk:k<E.length
       .have u:(E.map (V.i .u8))[k]?=some (.i .u8 E[k]):=by simp 
        obtain⟨x,aK,aL⟩:=D.get u;rw[aK,aL.i_inv];simp[hk]
       .have aZ:=D.len;grind
      have ae:(loadCells ad E.length).run P w'=.ok (E.map (Value.int .u8)).toArray w':=by have:=run_loadCells_list (P:=P) (w:=w') ad vals (λk v hk=>hp.pins _ _ (aa k v hk));grind
      rw[run_bytesToString w' ad E.length ab E ae];have aD:∀(E:List Int) (s:ByteArray),E.foldl (λr n=>r.push (UInt8.ofNat n.toNat)) s=⟨s.data++(E.map λn=>UInt8.ofNat n.toNat).toArray⟩:=by
       intro E
       induction E with
       | nil=>intro s;simp
       | cons m E ih=>simp[*]
      simp[*]
    | _=>simp[Fv] at j
   | [],g,_=>simp[A6] at g
   | _::_::_,g,_=>simp[A6] at g
  .cases f
 | aidx n sz=>
  simp only[Gu] at f;split at f
  .rename_i t x' i' z;simp only[AzP] at f;obtain⟨u,g⟩:=f;split at u
   .rename_i n' e U;simp only[AzP,beq_iff_eq] at u;obtain⟨rfl,M⟩:=u
    match xs,g,j with
    | [x,i],g,j=>
     simp only[A6,AzP,and_true] at g;have B:=An hr (x:=x') (y:=x) g.1;have hi:=An hr (x:=i') (y:=i) g.2;simp only[AlG,Apy] at j;generalize ev (get env) x=O at *;generalize ev (get env) i=vi at *;cases O with
     | ref id off=>
      cases vi with
      | i k m=>
       simp only[Fv] at j;split at j
       .rename_i hm;simp only[Amy] at j;subst j;obtain⟨bk,hb,ex⟩:=B.ref_inv;have ei:=hi.i_inv;have aB:P.elem t=e:=by simp[Program.elem,U]
        have ay:P.arrayLen t=n':=by simp[Program.arrayLen,U]
        refine AA.same (val:=.pointer (some ⟨bk,off+m.toNat*sz,none⟩)) (λw=>?_) hp (.ref _ _ _ hb);simp only[execOp,z,ex,ei,Akh];rw[run_indexAt_array (h:=by grind),ay,if_pos hm,aB,BO M];simp[Azw]
       .cases j
      | _=>simp[Fv] at j
     | _=>simp[Fv] at j
    | [],g,_=>simp[A6] at g
    | [_],g,_=>simp[A6] at g
    | _::_::_::_,g,_=>simp[A6] at g
   .cases u
  .cases f
theorem AnJ{k:RdK}{m:X}{xs:List X}{id:Id}{e:A5}(f:lR P k o.op m xs=true)(hm:ev (get env) m=.arr id)(hl:lk σ id=some e)(A:rdF k e (xs.map (ev (get env)))=some v):AA P W0 ep o d σ n μ H a w v σ:=by
 have B:=hp.ents _ _ hl;cases k with
 | mget kk z ok=>
  simp only[lR] at f;split at f
  .rename_i t m' k' J ho;simp only[AzP,beq_iff_eq] at f;obtain⟨⟨⟨D,rfl⟩,h3⟩,E⟩:=f;split at D
   .rename_i kt L G;simp only[AzP] at D;obtain⟨N,hz⟩:=D
    match xs,E,A with
    | [x],E,A=>
     have Z:=An hr (x:=k') (y:=x) (by simpa[A6] using E);have q:=An hr h3;rw[hm] at q;simp only[AlG,Apy] at A;cases e with
     | map es=>
      simp only[rdF,AeM] at A;obtain⟨r,hf,rfl⟩:=A;obtain⟨Y,s,C,ag,hB,hh,l⟩:=B;have e1:a.eval m'=.map (some Y):=by have:=(q.arr_inv).1;grind
      obtain⟨i,zv,hi,aj,R⟩:=DX hz;have W:=(Jl (μ:=μ) (H:=H) R).1;obtain⟨r',ad,F⟩:=Qv N Z w es s.toList r l.len l.at_ hf;have ac:=NW N Z (MA hf) s.isEmpty w;have run:∀val,((match r' with|some (_,v)=>pure (v,true)|none=>do pure (<-zeroValue L,false):Sem (Value×Bool)) >>= λp=>(pure (if J then .tuple #[p.1,.bool p.2] else p.1):Sem Value)).run P w=.ok val w->
        (execOp a.eval o).run P w=.ok (.value val) w:=by
       intro val hv;simp only[execOp,ho,e1,Instr.lookup,Akh,run_underlying (F5 G),Ag5,AxQ hh,AnC,ac,ad];simp only[Akh] at hv;cases r' with
       | none=>
        simp only[Akh,AnC] at hv⊢;cases I:(zeroValue L).run P w with
        | ok x y=>simp_all
        | halt h y=>simp_all
       | some p=>simp_all
      have two:∀{u:V} {val:Value} (t:Bool),Ao μ H u val->Ao μ H (.tup [u,.b t]) (.tuple #[val,.bool t]):=by intro u val t h;have U:VRels μ H [u,.b t] [val,.bool t]:=VRels.cons h (VRels.cons (.b t) VRels.nil_);exact .tup _ _ U.len U.at_
      rcases F with⟨rfl,rfl⟩|⟨j,u,val,rfl,rfl,hval,_,_⟩
      .have I:(zeroValue L).run P w=.ok zv w:=by simp[zeroValue,typeInfo,hi,aj]
       intro next Q K
       cases J with
       | true=>exact Bg (run (.tuple #[zv,.bool false]) (by simp[I])) (K _ _ _ _ _ (FF.same hp (two false W)))
       | false=>exact Bg (run zv (by simp[I])) (K _ _ _ _ _ (FF.same hp W))
      .intro next Q K
       cases J with
       | true=>exact Bg (run (.tuple #[val,.bool true]) (by simp)) (K _ _ _ _ _ (FF.same hp (two true hval)))
       | false=>exact Bg (run val (by simp)) (K _ _ _ _ _ (FF.same hp hval))
     | _=>simp[rdF] at A
    | [],E,_=>simp[A6] at E
    | _::_::_,E,_=>simp[A6] at E
   .simp at D
  .cases f
 | mlen=>
  simp only[lR] at f;split at f
  .rename_i c ho;split at f
   .rename_i M;simp only[AzP,beq_iff_eq,Ay8] at f;obtain⟨⟨⟨D,h2⟩,h3⟩,rfl⟩:=f;obtain⟨x',g,Z⟩:=Mk h3;have g:=CG g;have q:=An hr Z;rw[hm] at q;cases e with
    | map es=>
     simp only[Apy,rdF,Amy] at A;subst A;obtain⟨Y,s,C,ag,hB,hh,l⟩:=B;have e1:a.eval x'=.map (some Y):=by have:=(q.arr_inv).1;grind
     obtain⟨T,hT⟩:=OF c.argTypes h2;rw[hT] at D;obtain⟨⟨kt,L⟩,G⟩:=AtR.1 D;have hu:=F5 G;obtain⟨cs,S⟩:=BJ (P:=P) ho M a.eval w;have O:es.length=s.size:=by simpa using l.len
     intro next Q K
     refine Bg (w':=w) (val:=.int .i64 es.length) ?_ (K _ _ _ _ _ (FF.same hp (.i _ _)));have ai:P.underlying T=some (.map kt L):=hu;have hl:(Builtin.len_ #[T] o.type #[.map (some Y)]).run P w=.ok (goInt s.size) w:=by simp[Builtin.len_,run_underlying ai,AxQ hh]
     rw[S,g,hT];simp only[builtin,Azl,AlG,Apy,e1,Akh,hl,Ag5,AnC,goInt,O]
    | _=>simp[rdF] at A
   .cases f
  .cases f
theorem Aod{k:eD}{m:X}{xs:List X}{id:Id}{e e':A5}(p:qW P k o.op m xs=true)(aN:o.dst=d)(aV:Asd k=true->d=none)(hm:ev (get env) m=.arr id)(hl:lk σ id=some e)
  (M:fG k e (xs.map (ev (get env)))=some (e',v)):AA P W0 ep o d σ n μ H a w v (upd σ id e'):=by
 have aa:=hp.ents _ _ hl;cases k with
 | mput kk=>
  have ab:∀(t:TypeId) (R C S:Operand),(execOp a.eval o=do Instr.mapUpdate t (a.eval R) (a.eval C) (a.eval S);pure .skip)->(match OA P t with|some (kt,et)=>Ph P kk kt|none=>false)=true->BE R m=true->A6 [C,S] xs=true->AA P W0 ep o d σ n μ H a w v (upd σ id e'):=by
   intro t R C S aT U h2 G;split at U
   .rename_i kt et ay;obtain⟨x,y,aL,aI,aJ⟩:∃x y,xs=[x,y]/\BE C x=true/\BE S y=true:=by
     match xs,G with
     | [x,y],G=>simp only[A6,AzP] at G;grind
     | [],G=>simp[A6] at G
     | [_],G=>simp[A6] at G
     | _::_::_::_,G=>simp[A6] at G
    subst aL;have hx:=An hr aI;have hy:=An hr aJ;have N:=An hr h2;rw[hm] at N;simp only[AlG,Apy] at M;cases e with
    | map es=>
     simp only[fG,AeM] at M;obtain⟨r,hf,B⟩:=M;obtain⟨T,z,E,I,hB,Y,g⟩:=aa;have e1:a.eval R=.map (some T):=by have:=(N.arr_inv).1;grind
     have ae:=U;obtain⟨r',au,ac⟩:=Qv ae hx w es z.toList r g.len g.at_ hf;have ar:=NW ae hx (MA hf) false w;have aA:Ao μ H (.tup []) undef:=.tup [] [] rfl (λk c v L=>by simp at L);have ap:∀(ob:Obj) (F:Array MapEntry) (A:Nat) (es':List (V×V)),ob=.map F A->bD μ H es' F.toList A->e'=.map es'->v=.tup []->(Instr.mapUpdate t (a.eval R) (a.eval C) (a.eval S)).run P w=.ok () { w with heap:=w.heap.setIfInBounds T ob }->AA P W0 ep o d σ n μ H a w v (upd σ id e'):=by
      intro ob F A es' aU ah aE hv aP next Q K
      subst aE;subst hv;have s:=hp.set_ (e:=.map es') hl ((AR.setObj w T ob).to (λk L=>by subst L;simp[I,BB])) ⟨T,F,A,I,hB,by grind
,ah⟩
      refine XR ?_ (K _ _ _ _ _ ⟨aA,s.1,AzR _,s.2,λ_ _ _ h=>h⟩);simp_all
     rcases ac with⟨rfl,rfl⟩|⟨j,u,val,rfl,rfl,hval,_,hj⟩
     .simp only[Ay7] at B;refine ap (.map (z.push { key:=a.eval C,val:=a.eval S,born:=E }) (E+1)) _ _ (es++[(ev (get env) x,ev (get env) y)]) rfl ⟨by simp[g.len],λk c mm J f=>?_,?_,?_⟩ B.1.symm B.2.symm ?_
      .simp only[Array.toList_push] at f;have aw:=g.len;by_cases L:k<es.length
       .rw[Ava L] at J;rw[Ava (by grind)] at f;exact g.at_ k c mm J f
       .rw[AsT (by omega)] at J;rw[AsT (by omega),<-aw] at f;grind
      .intro k mm f;simp only[Array.toList_push] at f;by_cases L:k<z.toList.length
       .rw[Ava L] at f;exact g.born k mm f
       .rw[AsT (by omega)] at f;cases aH:k-z.toList.length with
        | zero=>rw[aH] at f;simp only[Ayf,Amy] at f;subst f;have:=g.now;grind
        | succ q=>grind
      .have:=g.now;grind
      .simp only[Instr.mapUpdate,Akh,run_underlying (F5 ay),Ag5,e1,AxQ Y,ar,au,MapKept.run_setObj_map _ Y]
     .simp only[Ay7] at B;simp only[Azx] at hj;obtain⟨c0,aq⟩:=AtR.1 hj;have aG:j<z.toList.length:=by rw[<-g.len];grind
      have ag:z.toList[j]?=some z.toList[j]:=Afb aG;have aj:z[j]?=some z.toList[j]:=by grind
      have ad:z.toList[j].key=a.eval C/\Instr.sameBits 10000 (a.eval C) (a.eval C)=true:=by
       have W:∀(es:List (V×V)) (i j:Nat) (u:V),Bs kk (ev (get env) x) es i=some (some (j,u))->∃c,es[j-i]?=some c/\i<=j/\Ef kk (ev (get env) x) c.1=some true:=by
        intro es
        induction es with
        | nil=>intro i j u h;simp only[Bs] at h;split at h<;>cases h
        | cons e es ih=>
         intro i j u h;simp only[Bs] at h;split at h
         .grind
         .obtain⟨c,U,h2,G⟩:=ih _ _ _ h;exact⟨c,by rw[show j-i=(j-(i+1))+1 by omega,AxG];exact U,by omega,G⟩
         .cases h
       obtain⟨c,U,_,G⟩:=W es 0 j u hf;simp only[Azx] at U;exact Ada ae hx (g.at_ j c _ U ag).1 G
      obtain⟨av,ai⟩:=ad;have ak:(Instr.keyThatStays (a.eval C) (a.eval C)).run P w=.ok (a.eval C) w:=by simp[Instr.keyThatStays,ai]
      refine ap (.map (z.modify j λe=>{ e with key:=a.eval C,val:=a.eval S }) E) _ _ (es.modify j λe=>(e.1,ev (get env) y)) rfl ⟨by simp[g.len],λk c mm J f=>?_,?_,?_⟩ B.1.symm B.2.symm ?_
      .simp only[AzE] at f;rw[AyM] at J f;by_cases L:j=k
       .subst L;simp only[if_true] at J f;rw[aq] at J;rw[ag] at f;simp only[Option.map_eq_map,AwW,Amy] at J f;subst J;subst f;refine⟨?_,hy⟩;have:=(g.at_ j c0 _ aq ag).1;grind
       .simp only[if_neg L] at J f;simp only[Option.map_eq_map,Option.map_id'] at J f;exact g.at_ k c mm J f
      .intro k mm f;rw[AzE,AyM] at f;cases ax:z.toList[k]? with
       | none=>grind
       | some m1=>rw[ax] at f;have U:=g.born k m1 ax;grind
      .rw[AzE,List.length_modify];exact g.now
      .simp only[Instr.mapUpdate,Akh,run_underlying (F5 ay),Ag5,e1,AxQ Y,ar,au,aj,AwW,Option.getD_some,av,ak,MapKept.run_setObj_map _ Y]
    | _=>simp[fG] at M
   .cases U
  simp only[qW] at p;split at p
  .rename_i t R C S ho;simp only[AzP] at p;exact ab t R C S (by simp only[execOp,ho]) p.1.1 p.1.2 p.2
  .rename_i t R C S ho;simp only[AzP] at p;exact ab t R C S (by simp only[execOp,ho]) p.1.1 p.1.2 p.2
  .cases p
 | next=>
  simp only[qW] at p;split at p
  .rename_i R ho;simp only[AzP,Ay8] at p;obtain⟨h2,rfl⟩:=p;have N:=An hr h2;rw[hm] at N;cases e with
   | it l D=>
    simp only[Apy,fG] at M;obtain⟨T,I,hB,Y⟩:=aa;have e1:a.eval R=.pointer (some ⟨T,0,none⟩):=by have:=(N.arr_inv).1;grind
    have az:(⟨l.toArray⟩:ByteArray).size=l.length:=by simp[ByteArray.size]
    intro next Q K
    split at M
    .rename_i af;simp only[Amy,Ay7] at M;obtain⟨rfl,rfl⟩:=M;obtain⟨c,Z⟩:∃c,Utf8.decode ⟨l.toArray⟩ D=c:=⟨_,rfl⟩
     rw[Z] at K;have s:=hp.set_ (e:=.it l (D+c.2)) hl ((AR.setObj w T (.stringIter ⟨l.toArray⟩ (D+c.2))).to (λk L=>by subst L;simp[I,BB])) ⟨T,I,hB,by grind
⟩
     refine Bg (w':={ w with heap:=w.heap.setIfInBounds T (.stringIter ⟨l.toArray⟩ (D+c.2)) }) (val:=.tuple #[.bool true,goInt D,.int .i32 c.1]) ?_ (K _ _ _ _ _ ⟨?_,s.1,AzR _,s.2,λ_ _ _ h=>h⟩)
     .obtain⟨c1,c2⟩:=c;simp only[execOp,ho,e1,Instr.next,Akh,HH Y,Ag5,az,af,if_true,Z,Na _ Y,AnC]
     .have O:VRels μ H [.b true,.i .i64 D,.i .i32 c.1] [.bool true,.int .i64 D,.int .i32 c.1]:=VRels.cons (.b _) (VRels.cons (.i _ _) (VRels.cons (.i _ _) VRels.nil_));exact .tup _ _ O.len O.at_
    .rename_i af;simp only[Amy,Ay7] at M;obtain⟨rfl,rfl⟩:=M;have s:=hp.set_ (e:=.it l D) (w':=w) hl ⟨rfl,rfl,rfl,AzR _,λ_ _ _=>rfl⟩ ⟨T,I,hB,Y⟩;refine Bg (w':=w) (val:=.tuple #[.bool false]) ?_ (K _ _ _ _ _ ⟨?_,s.1,AzR _,s.2,λ_ _ _ h=>h⟩)
     .simp only[execOp,ho,e1,Instr.next,Akh,HH Y,Ag5,az,af,if_false,AnC]
     .have O:VRels μ H [.b false] [.bool false]:=VRels.cons (.b _) VRels.nil_;exact .tup _ _ O.len O.at_
   | _=>simp[fG] at M
  .cases p
theorem AoH{k:MkK}{xs:List X}{e:A5}(b:TQ P k o.op xs=true)(A:ep<n)(u:∀j,d=some j->μ (ep,j)=none){j:Nat}(r:d=some j)(f:Xe k (xs.map (ev (get env)))=some e)(K:v=yJ k (ep,j)):AA P W0 ep o d σ n μ H a w v (((ep,j),e)::σ):=by
 subst K;cases k with
 | mkmap=>
  simp only[TQ] at b;split at b
  .rename_i t q;simp only[Ay8] at b;subst b;simp only[Apy,Xe,Amy] at f;subst f;refine AA.made hp r A u (obj:=.map #[] 0) (val:=.map (some w.heap.size)) ?_ (λB h=>by simpa[BB] using h.symm)
    ⟨w.heap.size,#[],0,Ap _ _ _,hp.base.size,heap_alloc_new w _,⟨rfl,λk c m h=>by simp at h,λk m h=>by simp at h,rfl⟩⟩ (.arr _ _ (Ap _ _ _) rfl)
   simp[execOp,q,Instr.makeMap]
  .cases b
 | strit=>
  simp only[TQ] at b;split at b
  .rename_i t x' q;simp only[AzP] at b;obtain⟨I,g⟩:=b
   match xs,g,f with
   | [x],g,f=>
    have C:=An hr (x:=x') (y:=x) (by simpa[A6] using g);simp only[AlG,Apy] at f;generalize ev (get env) x=M at *;cases M with
    | s l=>
     simp only[Xe,Amy] at f;subst f;have G:=C.s_inv.1;refine AA.made hp r A u (obj:=.stringIter ⟨l.toArray⟩ 0) (val:=.pointer (some ⟨w.heap.size,0,none⟩)) ?_ (λB h=>by simpa[BB] using h.symm)
      ⟨w.heap.size,Ap _ _ _,hp.base.size,heap_alloc_new w _⟩ (.arr _ _ (Ap _ _ _) rfl)
     simp[execOp,q,G,Instr.range,run_underlying (BH I)]
    | _=>simp[Xe] at f
   | [],g,_=>simp[A6] at g
   | _::_::_,g,_=>simp[A6] at g
  .cases b
 | tnew t z=>
  simp only[TQ] at b;split at b
  .rename_i F q;simp only[AzP,beq_iff_eq,Ay8] at b;obtain⟨⟨rfl,L⟩,rfl⟩:=b;simp only[Apy,Xe,Amy] at f;subst f;obtain⟨i,N,J,E,b⟩:=DX L;refine AA.made hp r A u (obj:=.cells N.cells F) (val:=.pointer (some ⟨w.heap.size,0,none⟩)) ?_ (λB h=>by simpa[BB] using h.symm)
    (NT hp.base.size (Ap _ _ _) (Jl b).2) (.ref _ 0 _ (Ap _ _ _))
   simp[execOp,q,Instr.alloc,zeroValue,typeInfo,J,E,newVar,newRow]
  .cases b
 | tbx t=>
  simp only[TQ] at b;split at b
  .rename_i F x' q;simp only[AzP,beq_iff_eq] at b;obtain⟨rfl,g⟩:=b
   match xs,g,f with
   | [x],g,f=>
    have C:=An hr (x:=x') (y:=x) (by simpa[A6] using g);simp only[AlG,Apy,Xe] at f;split at f
    .rename_i D;cases f;have p:=Bm (v:=.pointer (some ⟨w.heap.size,0,none⟩)) (u j r);refine AA.made hp r A u (obj:=.cells (a.eval x').cells F) (val:=.pointer (some ⟨w.heap.size,0,none⟩)) ?_ (λB h=>by simpa[BB] using h.symm)
      (NT hp.base.size (Ap _ _ _) ((C.toCells D).1.mono p (λ_ _ h=>h))) (.ref _ 0 _ (Ap _ _ _))
     simp[execOp,q,Instr.box,newVar,newRow]
    .cases f
   | [],g,_=>simp[A6] at g
   | _::_::_,g,_=>simp[A6] at g
  .cases b
omit hr in
theorem Hp.freeze_{id:Id}{u:V}{k:Nat}(s:lk σ id=some (.box u))(t:μ id=some (.pointer (some ⟨k,0,none⟩))) :
  Hp W0 (del σ id) n μ (pinned H w k) w/\Fr μ H σ w μ (pinned H w k) (del σ id) w:=by
 have m:E3 μ σ k:=⟨id,_,s,by simp[t,BB]⟩
 have f:∀g v,H g=some v->pinned H w k g=some v:=by
  intro g v h;unfold pinned;split
  .rename_i i;rw[hp.unp k m g i] at h;cases h
  .exact h
 have sub:∀c e,lk (del σ id) c=some e->c≠id/\lk σ c=some e:=by intro c e h;rw[CA] at h;grind
 have j:∀b,E3 μ (del σ id) b->E3 μ σ b/\b≠k:=by rintro b ⟨c,e,h,i⟩;obtain⟨l,r⟩:=sub _ _ h;refine⟨⟨c,e,r,i⟩,?_⟩;rintro rfl;exact l (hp.sep _ _ _ _ b r s i (by simp[t,BB]))
 refine⟨⟨hp.base,?_,λc e h=>(hp.ents _ _ (sub _ _ h).2).keep (λ_ _ h=>h) f (λ_ _=>rfl),?_,λA y i2 z b l1 x=>hp.sep _ _ _ _ b (sub _ _ l1).2 (sub _ _ x).2,hp.bd⟩,
  ⟨λ_ _ h=>h,f,AzR _,λ_ _ _=>rfl,?_,λb _ p=>(j b p).1⟩⟩
 .intro g v h;unfold pinned at h;split at h
  .exact h
  .exact hp.pins g v h
 .intro b p g i;obtain⟨q,l⟩:=j b p;unfold pinned;rw[if_neg (by rw[i];exact l)];exact hp.unp b q g i
 .intro g i p;unfold pinned;rw[if_neg];grind
theorem Ao8{t:TypeId}{x':Operand}{m:X}{k:Nat}(L:o.op=.slice t x' none none none)(y:(match P.underlying t with|some (.array q e)=>q==k&&BL P e==some 1&&decide (k<=1024)|_=>false)=true)(O:BE x' m=true)
  {id:Id}{cs:List V}(J:ev (get env) m=.ref id 0)(C:lk σ id=some (.box (.agg cs)))(D:cs.length=k)(f:∀c∈cs,cells c=[c])(N:v=.sl cs):AA P W0 ep o d σ n μ H a w v (del σ id):=by
 split at y
 .rename_i q e M;simp only[AzP,beq_iff_eq,decide_eq_true_eq] at y;obtain⟨⟨rfl,B⟩,S⟩:=y;have u:=An hr O;rw[J] at u;obtain⟨g,s,F⟩:=u.ref_inv;obtain⟨E,vals,R,r,_,G,i⟩:=hp.ents _ _ C;rw[s] at r;cases r;obtain⟨A,p⟩:=Hp.freeze_ hp C s;subst N;have i:AK μ H cs vals.toList:=i;have b:AC cs=cs:=R7 f;intro next Q K
  refine Bg (w':=w) (val:=.slice (some ⟨g,0,none⟩) q q) ?_ (K _ n μ (pinned H w g) w ⟨?_,A,AzR _,p,λ_ _ _ h=>h⟩)
  .simp[execOp,L,F,Instr.sliceAt,run_underlying M,Instr.sureAddr,Instr.sliceBounds,BO B,Addr.add]
  .have l:AK μ (pinned H w g) cs vals.toList:=i.mono (λ_ _ h=>h) p.hp;have z:cs.length=vals.toList.length:=i.len;have:=Ao.slC (μ:=μ) (H:=pinned H w g) cs ⟨g,0,none⟩ q 1 vals.toList (by omega) (by unfold AI;omega) (λc i=>by rw[f c i];rfl) (by rw[b];exact z) l.one (λj x I=>by unfold pinned;rw[Ca,if_pos rfl,cell_of_row w g j vals R (0,0) G];simpa using I) (by rw[b];exact l.at_);grind
 .cases y
theorem qJ{t:TypeId}{x':Operand}{m:X}(y:o.op=.range t x')(z:(OA P t).isSome=true)(B:BE x' m=true)(x:ep<n)(p:∀f,d=some f->μ (ep,f)=none){f:Nat}(l:d=some f)
  {mid:Id}{es:List (V×V)}(u:ev (get env) m=.arr mid)(s:lk σ mid=some (.map es))(A:v=.arr (ep,f)):AA P W0 ep o d σ n μ H a w v (((ep,f),.mit mid es.length [] es.length)::σ):=by
 subst A;have g:=An hr B;rw[u] at g;obtain⟨⟨E,D⟩,j⟩:=AtR.1 z;obtain⟨i,C,e,k,hB,r,c⟩:=hp.ents _ _ s;have q:a.eval x'=.map (some i):=by have:=(g.arr_inv).1;grind
 have b:e=es.length:=by rw[c.now,c.len]
 subst b;refine AA.made hp l x p (obj:=.mapIter (some i) es.length #[] es.length) (val:=.pointer (some ⟨w.heap.size,0,none⟩)) ?_ (λi h=>by simpa[BB] using h.symm)
  ⟨w.heap.size,i,Ap _ _ _,hp.base.size,Bm (p f l) _ _ k,heap_alloc_new w _⟩ (.arr _ _ (Ap _ _ _) rfl)
 simp[execOp,y,q,Instr.range,run_underlying (F5 j),AxQ r]
omit hr hp in
theorem GK{r:Nat}{m:Option Nat}{c b:Nat}{seen:Array Nat}(e:w.heap[r]?=some (.mapIter m c seen b)):(getObj r).run P w=.ok (.mapIter m c seen b) w:=by simp[getObj,Sem.run,e]
omit hr hp in
theorem Lz{r:Nat}{m:Option Nat}{c b:Nat}{seen:Array Nat}(e:Obj)(f:w.heap[r]?=some (.mapIter m c seen b)):(setObj r e).run P w=.ok () { w with heap:=w.heap.setIfInBounds r e }:=by simp[setObj,Sem.run,f]
omit hr hp in
theorem Z2{ms:List MapEntry}:∀(j i:Nat) (m:MapEntry),(∀(k:Nat) (m:MapEntry),ms[k]?=some m->m.born=j+k)->ms[i]?=some m->ms.find? (λe=>e.born==j+i)=some m:=by
 induction ms with
 | nil=>grind
 | cons x ms g=>
  intro j i m b h;cases i with
  | zero=>grind
  | succ i=>have c:=b 0 x rfl;rw[List.find?_cons_of_neg (by simp[c])];have:=g (j+1) i m (λk m f=>by have:=b (k+1) m (by simpa using f);omega) (by simpa using h);grind
theorem oH{x':Operand}{m:X}(L:o.op=.entry x')(N:BE x' m=true){id mid:Id}{q i:Nat}{seen:List Nat}{es:List (V×V)}{s:V×V}(I:ev (get env) m=.arr id)(G:lk σ id=some (.mit mid q seen es.length))
  (p:seen.getLast?=some i)(A:lk σ mid=some (.map es))(z:es[i]?=some s)(M:v=.tup [s.1,s.2]):AA P W0 ep o d σ n μ H a w v σ:=by
 subst M;have x:=An hr N;rw[I] at x;obtain⟨r,T,J,_,B,D⟩:=hp.ents _ _ G;obtain⟨S,b,h,g,_,y,c⟩:=hp.ents _ _ A;rw[B] at g;cases g;have C:a.eval x'=.pointer (some ⟨r,0,none⟩):=by have:=(x.arr_inv).1;grind
 have f:h=es.length:=by rw[c.now,c.len]
 subst f;have E:i<b.toList.length:=by rw[<-c.len];grind
 have t:b.toList[i]?=some b.toList[i]:=Afb E;obtain⟨O,R⟩:=c.at_ i s _ z t;have j:seen.toArray.back?=some i:=by rw[<-p];simp
 have l:b.find? (λe=>e.born==i)=some b.toList[i]:=by have:=Z2 (ms:=b.toList) 0 i _ (λk m F=>by rw[Aw5];exact c.born k m F) t;grind
 intro next Q K
 refine Bg (w':=w) (val:=.tuple #[b.toList[i].key,b.toList[i].val]) ?_ (K _ _ _ _ _ (FF.same hp ?_))
 .simp only[execOp,L,C,Akh,Instr.entry,GK D,Ag5,j,AxQ y,l,AnC];simp
 .have u:VRels μ H [s.1,s.2] [b.toList[i].key,b.toList[i].val]:=VRels.cons O (VRels.cons R VRels.nil_);exact .tup _ _ u.len u.at_
theorem Aks{u j:TypeId}{x':Operand}{x:X}(Y:o.op=.convert u j x')(z:((BD P u).bind (Q8 P))=some .u8)(T:Ch P j=true)(Z:BE x' x=true)
  {es:List V}(L:A4 σ (ev (get env) x)=some es)(N:(EN es).map .s=some v):AA P W0 ep o d σ n μ H a w v σ:=by
 rw[Aem] at z;obtain⟨e,z,F⟩:=z;rw[AeM] at N;obtain⟨l,M,rfl⟩:=N;obtain⟨b,rfl,rfl⟩:=G0 M;have C:∀y∈b.map (V.i .u8),(cells y).length=1:=λy hy=>by obtain⟨m,_,rfl⟩:=AmB.1 hy;rfl
 obtain⟨A,h,E,O,p⟩:=XQ hr hp Z L C;rw[Abn] at O E;intro next Q K
 have f:(b.map λn=>UInt8.ofNat n.toNat).length<=AJ:=by simp only[Abn,AI,AJ] at *;omega
 refine Bg (w':=w) (val:=.string ⟨(b.map λn=>UInt8.ofNat n.toNat).toArray⟩) ?_ (K _ _ _ _ _ (FF.same hp (.s _ f)));have B:(Conv.bytesToString (.slice A b.length h)).run P w=.ok (.string ⟨(b.map λn=>UInt8.ofNat n.toNat).toArray⟩) w:=by
  rcases p with S|⟨D,vals,rfl,c,g⟩
  .have:b=[]:=by simpa using S
   subst this;cases A<;>simp[Conv.bytesToString,loadCells,loadCellsFrom]<;>rfl
  .have G:AC (b.map (V.i .u8))=b.map (V.i .u8):=by
    clear c g C M E O f L K
    induction b with
    | nil=>rfl
    | cons m b R=>simpa[AC,cells] using R
   rw[G] at c;have hv:vals=b.map (Value.int .u8):=by
    apply AwD;intro k;by_cases U:k<b.length
    .have z:(b.map (V.i .u8))[k]?=some (.i .u8 b[k]):=by simp 
     obtain⟨x,I,J⟩:=c.get z;rw[I,J.i_inv];simp[U]
    .have W:=c.len;grind
   have t:(loadCells D b.length).run P w=.ok (b.map (Value.int .u8)).toArray w:=by have:=run_loadCells_list (P:=P) (w:=w) D vals g;grind
   rw[run_bytesToString w D b.length h b t];have q:∀(b:List Int) (s:ByteArray),b.foldl (λr n=>r.push (UInt8.ofNat n.toNat)) s=⟨s.data++(b.map λn=>UInt8.ofNat n.toNat).toArray⟩:=by
    intro b
    induction b with
    | nil=>intro s;simp
    | cons m b R=>simp[*]
   rw[q];simp
 simp only[execOp,Y,E,Akh,run_convert_bytes_string w u j e A b.length h (B8 z) (Hh F) (BH T),B,Ag5,AnC]
end ops
end Go.Ir
end
section
namespace Go.Ir
open Go.RowKit
variable[F2]
theorem Lh(z:V)(n k:Nat)(e:k<n*(cells z).length):(AC (List.replicate n z))[k]?=(cells z)[k % (cells z).length]?:=by
 induction n generalizing k with
 | zero=>omega
 | succ n c=>
  have b:AC (List.replicate (n+1) z)=cells z++AC (List.replicate n z):=by simp[AC,List.replicate_succ]
  rw[b];by_cases h:k<(cells z).length
  .rw[Ava h,Nat.mod_eq_of_lt h]
  .rw[AsT (by omega),c (k-(cells z).length) (by grind)];congr 1;exact(Nat.mod_eq_sub_mod (by omega)).symm
theorem oU{μ:Id->Option Value}{H:Addr->Option Value}{z:V}{i:Value}{sz:Nat}(l:AK μ H (cells z) i.cells.toList)(x:i.cells.size=sz)(g:0<sz){n m:Nat}(q:n<=m) :
  AK μ H (AC (List.replicate n z)) ((madeCells i.cells (m*sz)).toList.take (n*sz)):=by
 have s:(cells z).length=sz:=by rw[l.len];simpa using x
 have p:n*sz<=m*sz:=Ayz _ q;have b:∀k v,((madeCells i.cells (m*sz)).toList.take (n*sz))[k]?=some v->k<n*sz/\i.cells.toList[k % sz]?=some v:=by
  intro k v h;rw[Aym] at h;split at h
  .rename_i f;refine⟨f,?_⟩;have B:k % sz<sz:=Nat.mod_lt _ g;have u:k<m*sz:=by omega
   simp only[madeCells,Array.toList_map,Akg] at h;grind
  .cases h
 refine⟨⟨?_,λk c v r t=>?_⟩,λv y=>?_⟩
 .rw[EW (sz:=sz) (λe A=>by grind)];rw[Azh,AxJ,Axx,size_madeCells,Ay3 p]
 .obtain⟨f,j⟩:=b k v t;rw[Lh z n k (by rw[s];exact f),s] at r;exact l.at_ _ c v r j
 .obtain⟨k,f⟩:=At5.1 y;obtain⟨_,j⟩:=b k v f;exact l.one v (AzT j)
section
variable{W0 w w':World}{σ:Aj}{n n':Nat}{μ:Id→Option Value}{H:Addr→Option Value}
theorem Hp.rename{g f:Id}{e:A5}{val:Value}(hp:Hp W0 ((g,e)::σ) n μ H w)(K:μ g=some val)(h0:lk σ g=none)(W:μ f=none)(hn:f.1<n) :
  Hp W0 ((f,e)::σ) n (Ei μ f val) H w/\∀x,E3 (Ei μ f val) ((f,e)::σ) x->E3 μ ((g,e)::σ) x:=by
 have j:=Bm (v:=val) W;have ag:∀c y,lk σ c=some y->c≠g/\c≠f/\lk ((g,e)::σ) c=some y/\Ei μ f val c=μ c:=by
  intro c y h;have I:c≠g:=by grind
  have G:lk ((g,e)::σ) c=some y:=by simp only[lk];grind
  have B:c≠f:=by rintro rfl;obtain⟨_,K⟩:=(hp.ents _ _ G).named;rw[W] at K;cases K
  exact⟨I,B,G,B0 _ _ B⟩
 have l0:lk ((g,e)::σ) g=some e:=by simp[lk]
 have A:∀c y,lk ((f,e)::σ) c=some y->∃p,lk ((g,e)::σ) p=some y/\Ei μ f val c=μ p/\(c=f/\p=g\/c=p/\c≠f/\p≠g):=by
  intro c y h;simp only[lk] at h;split at h
  .rename_i X;subst X;cases h;exact⟨g,l0,by rw[Ap,K],.inl ⟨rfl,rfl⟩⟩
  grind
 have C:∀x,E3 (Ei μ f val) ((f,e)::σ) x->E3 μ ((g,e)::σ) x:=by rintro x ⟨c,y,G,Y⟩;obtain⟨p,F,u,_⟩:=A _ _ G;exact⟨p,y,F,by rw[<-u];exact Y⟩
 refine⟨⟨hp.base,hp.pins,?_,λx ho=>hp.unp x (C x ho),?_,?_⟩,C⟩
 .intro c y G;obtain⟨p,F,u,L⟩:=A _ _ G;have q:=hp.ents _ _ F;cases y with
  | box v=>obtain⟨x,vals,t,i,hB,z,E⟩:=q;exact⟨x,vals,t,by rw[u];exact i,hB,z,E.mono j (λ_ _ h=>h)⟩
  | tbox t v=>obtain⟨x,vals,i,hB,z,E⟩:=q;exact⟨x,vals,by rw[u];exact i,hB,z,E.mono j (λ_ _ h=>h)⟩
  | arr e sz es=>obtain⟨v,vals,i,r1,r2,r3,r4,E⟩:=q;exact⟨v,vals,by rw[u];exact i,r1,r2,r3,r4,E.mono j (λ_ _ h=>h)⟩
  | map es=>obtain⟨r,R,D,i,hB,z,E⟩:=q;exact⟨r,R,D,by rw[u];exact i,hB,z,E.mono j (λ_ _ h=>h)⟩
  | it l ah=>obtain⟨r,i,hB,z⟩:=q;exact⟨r,by rw[u];exact i,hB,z⟩
  | mit mid S seen J=>obtain⟨r,m,i,hB,M,z⟩:=q;exact⟨r,m,by rw[u];exact i,hB,j _ _ M,z⟩
  | loop nt env ps a b st pd=>obtain⟨l,r,i,hB,z,hx,hv⟩:=q;exact⟨l,r,by rw[u];exact i,hB,z,hx,λs=>(hv s).mono j (λ_ _ h=>h)⟩
 .intro i1 e1 i2 e2 x l1 l2 T U;obtain⟨j1,N,m1,c1⟩:=A _ _ l1;obtain⟨j2,O,m2,c2⟩:=A _ _ l2;rw[m1] at T;rw[m2] at U;have:=hp.sep _ _ _ _ x N O T U;grind
 .intro k Z;have:k≠f:=by rintro rfl;omega
  rw[B0 _ _ this];exact hp.bd k Z
end
theorem IK{P:Program}{f:FuncId}(b:callable P f=true)(args:Array Value)(w:World):(callFunc f args).run P w=.ok (.enter f args) w:=by
 unfold callable at b;split at b
 .rename_i c g;simp only[AzP,Ar9] at b;have e:c.body.isNone=false:=by cases h:c.body<;>simp_all
  unfold callFunc;simp only[Akh,run_program,Ag5,g,b.2,AcT,if_false,e,AnC]
 .cases b
section ops
variable{P:Program}{W0:World}{ep nt:Nat}{o:Oper}{d:Option Nat}{env:A9}{σ σ':Aj}{n:Nat}{μ:Id→Option Value}{H:Addr→Option Value}{a:Act}{w:World}{v:V}
variable(hr:Rl μ H nt env a)(hp:Hp W0 σ n μ H w)
theorem Ci{c:Call}{g:Operand}{f:FuncId}{first b:Array Value}(h:callable P f=true)(j:o.op=.call c)(e:c.callee=.value g)(i:a.eval g=.func (.func f) first b)(w:World) :
  (execOp a.eval o).run P w=.ok (.enter f (first++c.args.map a.eval++b)) w:=by
 simp only[execOp,j,resolve,e,i,Deferred.ofValue,Akh,AnC,Ag5,invoke];exact IK h _ w
theorem AA.called{f:FuncId}{args:Array Value}{b:List V}{σi σo:Aj}(hp:Hp W0 σ n μ H w)(j:(execOp a.eval o).run P w=.ok (.enter f args) w)(g:VRels μ H b args.toList)
  (i:Al P W0 f b σi v σo)(q:∀id e,lk σi id=some e->lk σ id=some e):AA P W0 ep o d σ n μ H a w v (over σi σo σ):=by
 intro next Q K
 unfold Oper.wp;rw[j];have:=i.run n w μ H args.toList (hp.part q) g;simp only[Oper.upon];rw[AxY] at this;refine AwZ this ?_;rintro e w' ⟨val,μ',H',n',rfl,s,m,l,r,c⟩;have p:=hp.back q m r;exact K val n' μ' H' w' ⟨s,p.1,l,p.2,λid k _ h=>c id k h⟩
theorem GS(σ:Aj):over [] [] σ=σ:=by simp[over,lk]
theorem OP{σi σ:Aj}(b:∀id e,lk σi id=some e->lk σ id=some e)(id:Id):lk (over σi σi σ) id=lk σ id:=by rw[FSz];grind
theorem UF{σ τ:Aj}{μ:Id->Option Value}{b:Nat}(h:∀id,lk σ id=lk τ id):E3 μ σ b↔E3 μ τ b:=by unfold E3;simp only[h]
theorem Hp.eqv{σ τ:Aj}{n:Nat}{μ:Id->Option Value}{H:Addr->Option Value}{w:World}(h:∀id,lk σ id=lk τ id)(hp:Hp W0 σ n μ H w):Hp W0 τ n μ H w:=
 ⟨hp.base,hp.pins,λid e k=>hp.ents id e (by rw[h];exact k),λb j=>hp.unp b ((UF h).2 j),λid e c f b g i=>hp.sep id e c f b (by rw[h];exact g) (by rw[h];exact i),hp.bd⟩
theorem AA.eqv{σ1 σ':Aj}(h:∀id,lk σ1 id=lk σ' id)(f:AA P W0 ep o d σ n μ H a w v σ1):AA P W0 ep o d σ n μ H a w v σ':=
 λnext Q K=>f next Q λval n' μ' H' w' b=>K val n' μ' H' w' ⟨b.rel,b.hp.eqv h,b.le,⟨b.fr.mu,b.fr.hp,b.fr.size,b.fr.keep,b.fr.pin,λc e g=>b.fr.dom c e ((UF h).2 g)⟩,b.fresh⟩
theorem AA.calledN{f:FuncId}{args:Array Value}{g:List V}{σi σo:Aj}{x:A5}(hp:Hp W0 σ n μ H w)(t:(execOp a.eval o).run P w=.ok (.enter f args) w)(m:VRels μ H g args.toList)
  (M:ep<n)(O:∀i,d=some i->μ (ep,i)=none){i:Nat}(L:d=some i)
  (s:Iu P W0 f g σi x σo)(N:∀id e,lk σi id=some e->lk σ id=some e):AA P W0 ep o d σ n μ H a w (.arr (ep,i)) (((ep,i),x)::over σi σo σ):=by
 intro next Q K
 unfold Oper.wp;rw[t];have:=s.run n w μ H args.toList (hp.part N) m;simp only[Oper.upon];rw[AxY] at this;refine AwZ this ?_;rintro U w' ⟨val,μ',H',n',k,rfl,R,u,D,B,G,p,z,b⟩;have l:=hp.back N G z;have F:over σi ((k,x)::σo) σ=(k,x)::over σi σo σ:=rfl;rw[F] at l;have C:lk (over σi σo σ) k=none:=by
  rw[FSz,B];simp only;split
  .cases h:lk σ k with
   | none=>rfl
   | some x=>obtain⟨_,q⟩:=(hp.ents _ _ h).named;rw[D] at q;cases q
  .rfl
 have c:μ' (ep,i)=none:=b (ep,i) M (O i L);obtain⟨I,r⟩:=l.1.rename R C c (Apd M p);refine K val n' _ H' w' ⟨.arr _ _ (Ap _ _ _) u,I,p,⟨λid x T=>Bm c id x (l.2.mu id x T),l.2.hp,l.2.size,l.2.keep,l.2.pin,λJ y S=>l.2.dom J y (r J S)⟩,λid A E j=>?_⟩;rw[B0 _ _ (E i L)];exact b id A j
include hr hp
theorem Ahv{t e:TypeId}{O J:Operand}{l c:X}{z:V}{sz:Nat}(ho:o.op=.makeSlice t O J)(ht:BD P t=some e)(I:G6 P e sz=true)(hz:Fp P e z=true)(Z:BE O l=true)(Y:BE J c=true)
  (hn:ep<n)(L:∀f,d=some f->μ (ep,f)=none){f:Nat}(K:d=some f){k N:IntKind}{p q:Nat}(W:ev (get env) l=.i k (Int.ofNat p))(U:ev (get env) c=.i N (Int.ofNat q))(j:p<=q)(hq:q<=AI)(hv:v=.arr (ep,f)) :
  AA P W0 ep o d σ n μ H a w v (((ep,f),.arr e sz (List.replicate p z))::σ):=by
 have y:=An hr Z;have m:=An hr Y;rw[W] at y;rw[U] at m;have S:=y.i_inv;have T:=m.i_inv;have hu:=B8 ht;obtain⟨i,R,M,u,B,G,F,E,_⟩:=GE I;obtain⟨i',ai,s,b,A⟩:=DX hz;rw[M] at s;cases s;rw[F] at b;cases b;have r:=(Jl (μ:=μ) (H:=H) A).2;have g:=Bm (v:=.slice (some ⟨w.heap.size,0,none⟩) p q) (L f K);subst u;subst hv;have hb:=Rr (k:=q) hr hp hq G;have D:=run_make (P:=P) w t e i R hu M F k N (Int.ofNat p) (Int.ofNat q) (by simp) (by simpa using j) (by
  have:((i.bytes*q:Nat):Int)<=281474976710656:=by rw[Nat.mul_comm];omega
  rw[Int.natCast_mul] at this;exact this) (by simp only[AI,Azn] at *;omega)
 have C:=oU r E B j;refine AA.made hp K hn L (obj:=.cells (madeCells R.cells (q*i.size)) e) (val:=.slice (some ⟨w.heap.size,0,none⟩) p q) ?_ (λbk h=>by simpa[BB] using h.symm)
  ⟨_,_,Ap _ _ _,rfl,⟨?_,.inr ⟨w.heap.size,q,_,by simp,hp.base.size,heap_alloc_new w _,by simpa using j,by simp only[maxLen,AI] at *;omega,size_madeCells _ _,rfl⟩⟩,by simp;omega,λx hx=>?_,?_⟩ (.arr _ _ (Ap _ _ _) rfl)
 .simp only[execOp,ho,S,T,Akh,D,Ag5,AnC];rfl
 .simp only[Azh,AxJ,Axx,size_madeCells];simp_all
 .rw[List.eq_of_mem_replicate hx,r.len];simpa using E
 .simpa using C.mono g (λ_ _ h=>h)
theorem RD{op:AE}(j:Nd P o.op op=true)(U:o.dst=d)(N:ep<n)(M:∀K,d=some K->μ (ep,K)=none)(ai:KW op=true->d=none)
  (r:E P W0 ep d op (get env) σ v σ'):AA P W0 ep o d σ n μ H a w v σ':=by
 have B:∀{c:Call} {args:List X},A6 c.args.toList args=true->VRels μ H (args.map (ev (get env))) (c.args.map a.eval).toList:=by intro c args h;have:=Cz hr h;simpa using this
 have G:∀f,a.eval (.func f)=.func (.func f) #[] #[]:=λf=>rfl;unfold Nd at j;unfold E at r;cases op with
 | mv y=>
  simp only at j r;obtain⟨r,rfl⟩:=r;split at j
  .rename_i x u;exact Aqb hr hp (.inl u) j r
  .rename_i x u;exact Aqb hr hp (.inr u) j r
  .cases j
 | pick c x y=>
  simp only at j r;obtain⟨t,ht,r,rfl⟩:=r;split at j
  .rename_i c' x' y' u;simp only[AzP] at j;exact AlL hr hp u j.1.1 j.1.2 j.2 ht r
  .cases j
 | bin op x y=>
  simp only at j r;obtain⟨r,rfl⟩:=r;split at j
  .rename_i ay t x' y' ty u;simp only[AzP,beq_iff_eq] at j;obtain⟨⟨rfl,D⟩,F⟩:=j;exact AqH hr hp u D F r
  .cases j
 | eqb ne x y=>
  simp only at j r;obtain⟨p,q,C,ey,r,rfl⟩:=r;split at j
  .rename_i ay t x' y' ty u;simp only[AzP,beq_iff_eq] at j;obtain⟨⟨⟨h0,D⟩,F⟩,J⟩:=j;exact AnH hr hp u h0 D F J C ey r
  .cases j
 | not x=>
  simp only at j r;obtain⟨p,C,r,rfl⟩:=r;split at j
  .rename_i t x' u;exact Arl hr hp u j C r
  .cases j
 | neg x=>
  simp only at j r;obtain⟨k,p,C,r,rfl⟩:=r;split at j
  .rename_i t x' u;exact Apq hr hp u j C r
  .cases j
 | cvi k x=>
  simp only at j r;obtain⟨k',p,C,r,rfl⟩:=r;split at j
  .rename_i aj aa x' u;simp only[AzP,beq_iff_eq] at j;exact Aqf hr hp u j.1.1 j.1.2 j.2 C r
  .cases j
 | cvs x=>
  simp only at j r;obtain⟨l,C,r,rfl⟩:=r;split at j
  .rename_i aj aa x' u;simp only[AzP] at j;exact As2 hr hp u j.1.1 j.1.2 j.2 C r
  .cases j
 | fld x off m ag=>
  simp only at j r;obtain⟨ha,r,rfl⟩:=r;split at j
  .rename_i t x' f u;simp only[AzP] at j;exact Ard hr hp u j.1 j.2 ha r
  .cases j
 | faddr x off=>
  simp only at j r;obtain⟨r,rfl⟩:=r;split at j
  .rename_i t x' f u;simp only[AzP] at j;exact AcV hr hp u j.1 j.2 r
  .cases j
 | iaddr x i e sz=>
  simp only at j r;obtain⟨r,rfl⟩:=r;split at j
  .rename_i t x' i' u;simp only[AzP,beq_iff_eq] at j;exact AbO hr hp u j.1.1.1 j.1.1.2 j.1.2 j.2 r
  .cases j
 | idx x i=>
  simp only at j r;obtain⟨l,k,m,c,C,ei,h0,hc,r,rfl⟩:=r;split at j
  .rename_i t x' i' u;simp only[AzP] at j;exact AnU hr hp u j.1.1 j.1.2 j.2 C ei h0 hc r
  .cases j
 | load x m ag=>
  simp only at j r;obtain⟨r,rfl⟩:=r;split at j
  .rename_i t x' u;simp only[AzP,beq_iff_eq] at j;exact AkL hr hp u j.1.1 j.1.2 j.2 r
  .cases j
 | store ax x m=>
  simp only at j r;obtain⟨D,F,r⟩:=r;split at j
  .rename_i t a' x' u;simp only[AzP,beq_iff_eq] at j;exact Abp hr hp u j.1.1 j.2 j.1.2 U (ai rfl) D F r
  .cases j
 | box x=>
  simp only at j r;obtain⟨K,I,D,F,rfl⟩:=r;split at j
  .rename_i t x' u;exact Ape hr hp u j N M I D F
  .cases j
 | alloc z=>
  simp only at j r;obtain⟨K,I,F,rfl⟩:=r;split at j
  .rename_i t u;exact Abm hr hp u j N M I F
  .cases j
 | build z ps=>
  simp only at j r;obtain⟨L,⟨cs,au,r⟩,rfl⟩:=r;split at j
  .rename_i t aV u;simp only[AzP] at j;exact Abd hr hp u j.1.1 j.1.2 j.2 L au r
  .cases j
 | msl own e sz xs=>
  simp only at j r;obtain⟨L,r⟩:=r;split at j
  .rename_i t aT ps u;simp only[AzP,beq_iff_eq,decide_eq_true_eq] at j;exact ArG hr hp u j.1.1.1.1 j.1.1.1.2 j.1.1.2 j.1.2 j.2 N M L r
  .cases j
 | slS x lo hi=>
  simp only at j r;obtain⟨l,p,q,C,D,F,J,h4,r,rfl⟩:=r;split at j
  .rename_i t x' ax ae u;simp only[AzP] at j;exact ArD hr hp u j.1.1.1 j.1.1.2 j.1.2 j.2 C D F J h4 r
  .cases j
 | slL x lo hi sz=>
  simp only at j r;obtain⟨l,p,q,C,D,F,J,h4,h5,r,rfl⟩:=r;split at j
  .rename_i t x' ax ae u;simp only[AzP,beq_iff_eq] at j;obtain⟨e,ht⟩:=AtR.1 j.1.1.1.1;have ah:=j.1.1.1.2;rw[ht] at ah;exact AsL hr hp u ht ah j.1.1.2 j.1.2 j.2 C D F J h4 h5 r
  .cases j
 | lenS x=>
  simp only at j r;obtain⟨l,C,r,rfl⟩:=r;split at j
  .rename_i c u;split at j
   .rename_i A;simp only[AzP,beq_iff_eq] at j;exact Ali hr hp u A j.1.1 j.1.2 j.2 C r
   .cases j
  .cases j
 | lenL x=>
  simp only at j r;obtain⟨l,C,r,rfl⟩:=r;split at j
  .rename_i c u;split at j
   .rename_i A;simp only[AzP,beq_iff_eq] at j;exact Aiy hr hp u A j.1.1 j.1.2 j.2 C r
   .cases j
  .cases j
 | app s x e sz=>
  simp only at j r;obtain⟨K,xs,I,D,F,J,r⟩:=r;split at j
  .rename_i c u;split at j
   .rename_i A;simp only[AzP,beq_iff_eq] at j;exact Asl hr hp u A j.1.1.1 j.1.1.2 j.1.2 j.2 N M I D F J r
   .cases j
  .cases j
 | apps s x e=>
  simp only at j r;obtain⟨K,l,I,D,J,r⟩:=r;split at j
  .rename_i c u;split at j
   .rename_i A;simp only[AzP,beq_iff_eq] at j;exact AlF hr hp u A j.1.1.1.1 j.1.1.1.2 j.1.1.2 j.1.2 j.2 N M I D J r
   .cases j
  .cases j
 | slT x hi sz=>
  simp only at j r;obtain⟨K,id,e,es,q,I,D,F,J,h4,h5,rfl⟩:=r;split at j
  .rename_i t x' ae u;simp only[AzP,beq_iff_eq] at j;obtain⟨⟨⟨k1,k2⟩,k3⟩,k4⟩:=j;obtain⟨e0,ac⟩:=AtR.1 k1;rw[ac] at k2;exact Aqo hr hp u ac k2 k3 k4 N M I D F J h4 h5
  .cases j
 | ext x k=>
  simp only at j r;obtain⟨vs,C,r,rfl⟩:=r;split at j
  .rename_i x' k' u;simp only[AzP,beq_iff_eq] at j;obtain⟨rfl,S⟩:=j;exact Apg hr hp u S C r
  .cases j
 | call f args=>
  simp only at j r;obtain⟨r,rfl⟩:=r;split at j
  .rename_i c u;split at j
   .rename_i f' A;simp only[AzP,beq_iff_eq] at j;obtain⟨rfl,S⟩:=j;have:=AA.called (ep:=ep) (d:=d) hp (Ci r.callable u A (G _) w) (by simpa using B S) r (λid e h=>by simp[lk] at h)
    rwa [GS] at this
   .cases j
  .cases j
 | calls f args=>
  simp only at j r;obtain⟨σi,σo,r,W,rfl⟩:=r;split at j
  .rename_i c u;split at j
   .rename_i f' A;simp only[AzP,beq_iff_eq] at j;obtain⟨rfl,S⟩:=j;exact AA.called hp (Ci r.callable u A (G _) w) (by simpa using B S) r W
   .cases j
  .cases j
 | callr f args=>
  simp only at j r;obtain⟨⟨σi,r,W⟩,rfl⟩:=r;split at j
  .rename_i c u;split at j
   .rename_i f' A;simp only[AzP,beq_iff_eq] at j;obtain⟨rfl,S⟩:=j;exact AA.eqv (λid=>OP W id) (AA.called hp (Ci r.callable u A (G _) w) (by simpa using B S) r W)
   .cases j
  .cases j
 | calln f args=>
  simp only at j r;obtain⟨K,σi,σo,x,I,r,W,rfl,rfl⟩:=r;split at j
  .rename_i c u;split at j
   .rename_i f' A;simp only[AzP,beq_iff_eq] at j;obtain⟨rfl,S⟩:=j;exact AA.calledN hp (Ci r.callable u A (G _) w) (by simpa using B S) N M I r W
   .cases j
  .cases j
 | callv h args=>
  simp only at j r;obtain⟨f,first,T,eh,r,rfl⟩:=r;split at j
  .rename_i c u;split at j
   .rename_i h' A;simp only[AzP] at j;have hh:=An hr j.1;rw[eh] at hh;obtain⟨fv,cv,e1,r1,r2⟩:=hh.fn_inv;have:=AA.called (ep:=ep) (d:=d) hp (Ci r.callable u A e1 w) (by simpa using(r1.append (B j.2)).append r2) r (λid e h=>by simp[lk] at h)
    rwa [GS] at this
   .cases j
  .cases j
 | callvs h args=>
  simp only at j r;obtain⟨f,first,T,σi,σo,eh,r,W,rfl⟩:=r;split at j
  .rename_i c u;split at j
   .rename_i h' A;simp only[AzP] at j;have hh:=An hr j.1;rw[eh] at hh;obtain⟨fv,cv,e1,r1,r2⟩:=hh.fn_inv;exact AA.called hp (Ci r.callable u A e1 w) (by simpa using(r1.append (B j.2)).append r2) r W
   .cases j
  .cases j
 | mkfn f first T=>
  simp only at j r;obtain⟨r,rfl⟩:=r;split at j
  .rename_i f' al an u;simp only[AzP,beq_iff_eq] at j;obtain⟨⟨rfl,D⟩,F⟩:=j;exact Agn hr hp u D F r
  .cases j
 | mksl l c z e sz=>
  simp only at j r;obtain⟨K,k,k',p,q,I,el,ec,D,F,J,rfl⟩:=r;split at j
  .rename_i t l' c' u;simp only[AzP,beq_iff_eq] at j;exact Ahv hr hp u j.1.1.1.1 j.1.1.1.2 j.1.1.2 j.1.2 j.2 N M I el ec D F J
  .cases j
 | mx lo x xs=>
  simp only at j r;obtain⟨r,rfl⟩:=r;split at j
  .rename_i c u;split at j
   .rename_i b A;simp only[AzP,beq_iff_eq] at j;exact AtL hr hp u A j.1 j.2 r
   .cases j
  .cases j
 | nilck x=>
  simp only at j r;obtain⟨D,r,rfl⟩:=r;split at j
  .rename_i x' u;exact Abe hr hp u j D r
  .cases j
 | pu k xs=>simp only at j r;obtain⟨r,rfl⟩:=r;exact AvC hr hp j r
 | rdm k m xs=>simp only at j r;obtain⟨⟨id,e,R,O,r⟩,rfl⟩:=r;exact AnJ hr hp j R O r
 | wrm k m xs=>simp only at j r;obtain⟨id,e,e',R,O,r,rfl⟩:=r;exact Aod hr hp j U (λh=>ai (by cases k<;>first|rfl|cases h)) R O r
 | mkm k xs=>simp only at j r;obtain⟨K,e,I,r,Z,rfl⟩:=r;exact AoH hr hp j N M I r Z
 | frz m k=>
  simp only at j r;obtain⟨id,cs,R,O,af,ag,Z,rfl⟩:=r;split at j
  .rename_i t x' u;simp only[AzP] at j;exact Ao8 hr hp u j.1 j.2 R O af ag Z
  .cases j
 | mrange m=>
  simp only at j r;obtain⟨K,mid,es,I,R,O,Z,rfl⟩:=r;split at j
  .rename_i t x' u;simp only[AzP] at j;exact qJ hr hp u j.1 j.2 N M I R O Z
  .cases j
 | mentry m=>
  simp only at j r;obtain⟨id,mid,aB,seen,i,es,kv,R,O,Y,aw,av,Z,rfl⟩:=r;split at j
  .rename_i x' u;exact oH hr hp u j R O Y aw av Z
  .cases j
 | eqr ne x y=>simp only at j r;obtain⟨r,rfl⟩:=r;exact Ap6 hr hp j r
 | callw g xs=>exact r.elim
 | btos x=>
  simp only at j r;obtain⟨es,C,r,rfl⟩:=r;split at j
  .rename_i aj aa x' u;simp only[AzP,beq_iff_eq] at j;exact Aks hr hp u j.1.1 j.1.2 j.2 C r
  .cases j
end ops
end Go.Ir
end
