/-
  THE IR CALCULUS, part W: the kit's rules on code, of a ..
  THE IR CALCULUS, part A: abstract values, their relation to ..
  THE IR CALCULUS, part B: the small register language, what ..
  THE IR CALCULUS, part C: how the heap relation is carried ..
  THE IR CALCULUS, part D: each operation that the check lets ..
  THE IR CALCULUS, part E: the operations, one lemma each.
  THE IR CALCULUS, part F: the operations that read and write ..
  THE IR CALCULUS, part G: the operations that make memory, ..
  THE IR CALCULUS, part H: literals, append, make, calls.
  THE IR CALCULUS, part Hb: maps, iterators over strings, ..
  THE IR CALCULUS, part I: make, calls
-/
import Derived.OrdersIn
import Derived.RangeFuncIn
import Derived.Below
import Derived.Orders
import Derived.Laws.OwnMore
import Derived.Laws.Entries
import Derived.Laws.Rows
import Derived.Maps.AppendAt
import Derived.Laws.Strings2
import Derived.Laws.Concat
import Derived.Laws.Cover1
import Derived.Laws.Slices
import Derived.Laws.MakeOwn
import Derived.Lib.AppendStr
import Derived.Laws.StructEq
import Derived.MapKept
import Derived.Laws.BytesString
import Derived.Laws.Cover3
import Derived.LaidEql
set_option linter.all false
set_option linter.unusedSectionVars false
set_option linter.unusedSimpArgs false
set_option linter.unusedVariables false
section
set_option linter.defProp false
namespace Go.Ir
def Aav:=@Bool.and_eq_true
def Abt:=@List.mem_cons_of_mem
def AbG:=@Nat.le_refl
def Acq:=@Nat.lt_succ_self
def AcD:=@Option.bind_eq_some_iff
def AcL:=@Bool.false_eq_true
def Adc:=@Option.map_eq_some_iff
def Ae5:=@List.length_map
def Afi:=@List.mem_cons_self
def Afu:=@Go.Sem.run_bind
def AfH:=@Go.Result.andThen_ok
def AhU:=@List.length_cons
def Aik:=@List.length_append
def Ail:=@Ne.symm
def Ain:=@List.getElem?_eq_getElem
def Aio:=@List.mem_append
def Aip:=@List.take_length
def Aiq:=@Option.some.injEq
def Ait:=@List.map_cons
def Aiv:=@List.all_eq_true
def Aiw:=@Nat.le_trans
def Aiy:=@List.length_nil
def Ai0:=@Go.Sem.run_pure
def Ai1:=@List.mem_of_getElem?
def Ajt:=@Nat.zero_le
def Akk:=@List.cons_append
def AkV:=@List.map_nil
def Alg:=@Nat.lt_of_lt_of_le
def AlY:=@List.getElem?_eq_some_iff
def AmN:=@Bool.not_eq_true'
def Ani:=@Nat.le_succ
def AnS:=@Array.getElem?_eq_some_iff
def Aoq:=@List.nil_append
def Aou:=@List.append_nil
def Ao9:=@List.mem_cons
def AoA:=@Option.isSome_some
def AoL:=@Option.getD_some
def Apq:=@List.mem_map
def Apu:=@List.eq_nil_of_length_eq_zero
def Ap9:=@Option.isSome_iff_exists
def ApB:=@List.take_succ_cons
def ApD:=@Nat.eq_of_beq_eq_true
def ApH:=@Bool.eq_iff_iff
def ApP:=@List.drop_succ_cons
def ApR:=@List.getElem?_append_right
def ApX:=@List.mem_iff_getElem?
def ApZ:=@Array.getElem?_eq_getElem
def Aqt:=@List.getElem?_map
def AqE:=@Array.getD_eq_getD_getElem?
def AqF:=@List.take_zero
def AqP:=@List.nodup_cons
def AqT:=@Go.RowKit.Below.refl
def AqV:=@Bool.and_true
def AqY:=@Go.Calls.mono
def Ara:=@Bool.and_false
def Are:=@List.drop_zero
def Arn:=@Bool.true_and
def Ary:=@Bool.eq_false_or_eq_true
def Ar0:=@List.mem_of_mem_take
def Ar7:=@Option.isSome_none
def Ar9:=@Nat.lt_or_ge
def ArG:=@List.mem_append_left
def ArP:=@List.getElem?_append_left
def Ask:=@List.append_assoc
def Asm:=@List.not_mem_nil
def Ast:=@List.pairwise_append
def As0:=@Go.MapKept.run_getObj_map
def As1:=@Bool.false_and
def As3:=@Array.length_toList
def As6:=@List.map_congr_left
def As7:=@List.mem_filter
def As9:=@Nat.beq_eq
def AsA:=@Array.getElem?_toList
def AsB:=@List.mem_singleton
def AsC:=@List.any_eq_true
def AsE:=@Bool.not_eq_false'
def AsH:=@Bool.not_true
def AsI:=@Array.toArray_toList
def AsK:=@Bool.or_eq_false_iff
def AsL:=@Bool.not_false
def AsO:=@List.getElem?_cons_succ
def AsQ:=@List.ext_getElem?
def AsU:=@Option.map_some
def AsV:=@Bool.false_or
def AsW:=@List.getElem?_take
def AsY:=@Nat.mul_le_mul_right
def AsZ:=@Bool.or_false
def Ata:=@List.getElem?_cons_zero
def Atb:=@List.isEmpty_iff
def Atg:=@List.mem_range
def Ath:=@Option.bind_some
def Ati:=@List.dropWhile_sublist
def Atj:=@Nat.add_zero
def Atk:=@Nat.zero_add
def Atl:=@Bool.or_eq_true
def Atm:=@Nat.add_assoc
def Ato:=@List.flatMap_cons
def Att:=@List.mem_of_mem_drop
def Atu:=@List.getElem?_modify
def Atw:=@Option.isNone_iff_eq_none
def Atx:=@List.set_eq_take_append_cons_drop
def Aty:=@List.mem_flatMap
def Atz:=@List.filterMap_cons_some
def At0:=@Bool.or_true
def At1:=@Array.getElem?_setIfInBounds_ne
def At2:=@Prod.mk.injEq
def At3:=@List.all_cons
def At4:=@List.getElem?_drop
def At5:=@Array.all_eq_true'
def At6:=@List.foldl_cons
def At7:=@List.pairwise_cons
def At8:=@Go.Oper.upon_value
def At9:=@List.filter_append
def AtA:=@List.take_of_length_le
def AtB:=@Go.World.ownsRow_nil
def AtC:=@List.drop_drop
def AtD:=@List.take_append_drop
def AtE:=@List.mem_append_right
def AtF:=@Nat.le_of_ble_eq_true
def AtG:=@List.map_toArray
def AtH:=@Nat.ble_eq
def AtI:=@Array.toList_setIfInBounds
def AtJ:=@Array.getElem?_append_left
def AtK:=@Nat.add_sub_cancel'
def AtL:=@List.filter_eq_self
def AtM:=@List.sublist_append_right
def AtN:=@Go.Addr.add_lit
def AtO:=@Nat.eq_zero_or_pos
def AtP:=@Nat.sub_zero
def AtQ:=@Go.World.block_lt_of_cell?
def AtR:=@List.any_cons
def AtS:=@List.length_take
def AtT:=@List.getElem_mem
def AtU:=@List.singleton_append
def AtV:=@List.eq_nil_or_concat
def AtW:=@List.concat_eq_append
def AtX:=@Go.World.cell?_of_block
def AtY:=@Option.map_none
def AtZ:=@Int.ofNat_eq_natCast
def Aua:=@List.contains_eq_mem
def Aub:=@List.map_append
def Auc:=@Nat.not_lt
def Aud:=@Nat.blt_eq
def Aue:=@UInt8.toNat_inj
def Auf:=@Array.toList_modify
def Aug:=@List.length_reverse
def Auh:=@List.drop_left
def Aui:=@List.drop_take
def Auj:=@List.take_take
def Auk:=@Nat.mul_le_mul
def Aul:=@Nat.add_mul
def Aum:=@List.mem_filterMap
def Aun:=@Int.toNat_natCast
end Go.Ir
namespace Go.Ir
def fR:Option Nat->Fence
 | none=>Fence.wide
 | some l=>Fence.wide.inRound l
theorem GA(ro:Option Nat)(f:FuncId):(fR ro).fn f:=by cases ro<;>trivial
theorem G2(ro:Option Nat):(fR ro).depth=none:=by cases ro<;>rfl
theorem eI(ro:Option Nat):(fR ro).round=ro:=by cases ro<;>rfl
theorem tV(ro:Option Nat)(n:Nat):(fR ro).room n:=fun d hd=>by rw[G2] at hd;cases hd
theorem S7{P:Program}{ro:Option Nat}{n:Nat}{f:FuncId}{args:Array Value}{w:World}{R:Ending->World->Prop}:CallsIn (fR ro) n P f args w R↔Calls P f args w R:=by
 cases ro with
 | none=>exact callsIn_wide
 | some l=>exact callsIn_wide (n:=n)
theorem eL{P:Program}{ro:Option Nat}{n m l:Nat}{f:FuncId}{tmps:Array Value}{assign body:Code}{w:World}{R:Ending->World->Prop}(h:RoundIn Fence.wide m P l f tmps assign body w R):RoundIn (fR ro) n P l f tmps assign body w R:=by
 refine⟨GA ro f,fun c cs _=>?_⟩
 obtain⟨e,w',hR,hc⟩:=h.2 c cs (tV none _)
 refine⟨e,w',hR,?_⟩
 cases ro<;>exact hc
end Go.Ir
namespace Go
open Go.Ir
def Code.wpr(P:Program)(ro:Option Nat)(c:Code)(Q:Exit->Act->World->Prop)(a:Act)(w:World):Prop:=c.wpIn (fR ro) 0 P Q a w
def Oper.wpr(P:Program)(ro:Option Nat)(o:Oper)(a:Act)(w:World)(next:Act->World->Prop)(Q:Exit->Act->World->Prop):Prop:=o.wpIn (fR ro) 0 P a w next Q
end Go
namespace Go.Ir
def Gv(P:Program)(ro:Option Nat)(ops:Array Oper)(Q:Exit->Act->World->Prop)(i:Nat)(K:Act->World->Prop)(a:Act)(w:World):Prop:=wpOpIn (fR ro) 0 P ops Q i K a w
def EM(P:Program)(ro:Option Nat)(ops:Array Oper)(Q:Exit->Act->World->Prop)(l:List Nat)(a:Act)(w:World):Prop:=wpOpsIn (fR ro) 0 P ops Q l a w
def OR(P:Program)(ro:Option Nat)(md:Region.Mode)(ops:Array Oper)(Q:Exit->Act->World->Prop)(fuel:Nat)(listed:Array Bool)(a:Act)(w:World):Prop:=wpAnyIn (fR ro) 0 P md ops Q fuel listed a w
section
variable{P:Program}{ro:Option Nat}{Q Q':Exit→Act→World→Prop}{a:Act}{w:World}
theorem AZ{c:Code}(h:c.wpr P ro Q a w)(hq:∀e a w,Q e a w->Q' e a w):c.wpr P ro Q' a w:=wpIn_mono h hq
theorem RA(h:Q .normal a w):Code.skip.wpr P ro Q a w:=wpIn_skip h
theorem Rb{id:Nat}(h:Q (.exit id) a w):(Code.exit id).wpr P ro Q a w:=wpIn_exit h
theorem WC(h:Q .ret a w):Code.ret.wpr P ro Q a w:=wpIn_ret h
theorem UM{x y:Code}(h:x.wpr P ro (Exit.then (y.wpr P ro Q) Q) a w):(Code.seq x y).wpr P ro Q a w:=wpIn_seq h
theorem N3{id:Nat}{c:Code}(h:c.wpr P ro (Exit.inBlock id Q) a w):(Code.block id c).wpr P ro Q a w:=wpIn_block h
theorem EI{c:Operand}{x y:Code}{t:Bool}(hc:a.eval c=.bool t)(ht:t=true->x.wpr P ro Q a w)(hf:t=false->y.wpr P ro Q a w):(Code.cond c x y).wpr P ro Q a w:=wpIn_cond_split hc ht hf
theorem Gg{id:Nat}{ops:Array Oper}(h:EM P ro ops Q (List.range ops.size) a w):(Code.region id ops false).wpr P ro Q a w:=wpIn_region h
theorem Gu{id:Nat}{ops:Array Oper}(h:∀t,EM P ro ops Q (Region.schedule (P.follows .mixedOrders) ops t) a { w with drawn:=w.drawn+1 }):(Code.region id ops true).wpr P ro Q a w:=wpIn_region_draw h
theorem Dd{ops:Array Oper}(i:Nat)(rest:List Nat)(a:Act)(w:World):EM P ro ops Q (i::rest) a w=Gv P ro ops Q i (EM P ro ops Q rest) a w:=wpOpsIn_cons i rest a w
theorem Jm{ops:Array Oper}{md:Region.Mode}(fuel t:Nat)(listed:Array Bool)(a:Act)(w:World)(h:OR P ro md ops Q fuel listed a w):EM P ro ops Q (Region.linearise.go md ops fuel t listed []) a w:=wpAnyIn_sound fuel t listed a w h
theorem Dz{o:Oper}{next:Act->World->Prop}(hd:∀c,o.op≠.defer c)(h:o.wp P a w next Q):o.wpr P ro a w next Q:=by
 refine⟨fun f _=>GA ro f,?_⟩
 rw[Oper.semAt_eq _ _ _ hd]
 unfold Oper.wp at h
 have h0:(fR ro).depth.isSome=true->1<=0:=fun hh=>by rw[G2] at hh;cases hh
 generalize(execOp a.eval o).run P w=r at h
 cases r with
 | ok x w'=>
  cases x<;>simp only[Oper.upon] at h<;>simp only[Oper.uponIn]<;>first
   | exact h
   | exact⟨h0,S7.2 h⟩
   | (refine⟨h0,fun c cs _=>?_⟩
      obtain⟨v,w'',hR,hs⟩:=h (c:=c) (cs:=cs)
      exact⟨v,w'',hR,by cases ro<;>exact stepsIn_wide.2 hs⟩)
   | exact h.elim
 | halt x w'=>cases x<;>simp only[Oper.upon] at h<;>simp only[Oper.uponIn]<;>exact h
theorem LL{o:Oper}{ρ:Operand->Value}{w w':World}{f:FuncId}{vals:Array Value}(h:(execOp ρ o).run P w=.ok (.enter f vals) w'):∀c,o.op≠.defer c:=by
 intro c hc
 simp only[execOp,hc,Afu] at h
 cases hr:(resolve ρ c o.type).run P w with
 | ok d w1=>simp_all
 | halt x w1=>simp_all
theorem Ql{c:Code}(I:Nat->Act->World->Prop)(round:∀m a w,I m a w->c.wpr P ro (Exit.then (fun a' w'=>∃m',m'<m/\I m' a' w') Q) a w)(m:Nat)(a:Act)(w:World)(h₀:I m a w):(Code.loop c).wpr P ro Q a w:=by
 intro b k cs hro hb hr
 have key:∀n a w,I n a w->∃e a' w',Q e a' w'/\ArrivesIn (Machine.fenced P (fR ro)) P (lone (b.atR a (.code c :: .inLoop c::k)) cs w) b k cs e a' w':=by
  intro n
  induction n using Nat.strongRecOn with
  | _ n ih=>
   intro a w hI
   obtain⟨e,a₁,w₁,hq,harr⟩:=round n a w hI b (.inLoop c::k) cs hro hb hr
   cases e with
   | normal=>
    obtain⟨m',hlt,hI₁⟩:=hq
    obtain⟨e₂,a₂,w₂,hq₂,harr₂⟩:=ih m' hlt a₁ w₁ hI₁
    exact⟨e₂,a₂,w₂,hq₂,.of_steps (StepsIn.trans harr (.one (fenced_calm hb hr rfl) stepR_inLoop)) harr₂⟩
   | exit id=>exact⟨_,a₁,w₁,hq,.pass (x:=.inLoop c) rfl (fun _ _=>.inl (by simp)) harr⟩
   | goto l=>exact⟨_,a₁,w₁,hq,.pass (x:=.inLoop c) rfl (fun _ _=>.inl (by simp)) harr⟩
   | ret=>exact⟨_,a₁,w₁,hq,.pass (x:=.inLoop c) rfl (fun _ _=>.inl (by simp)) harr⟩
   | panic ch=>exact⟨_,a₁,w₁,hq,.pass (x:=.inLoop c) rfl (fun _ _=>.inl (by simp)) harr⟩
   | outgrown=>exact⟨_,a₁,w₁,hq,.pass (x:=.inLoop c) rfl (fun _ _=>.inl (by simp)) harr⟩
 obtain⟨e,a',w',hq,harr⟩:=key m a w h₀
 exact⟨e,a',w',hq,.of_steps (.one (fenced_calm hb hr rfl) stepR_loop) harr⟩
end
end Go.Ir
end
section
namespace Go.Ir
open Go.RowKit
abbrev Id:=Nat×Nat
def AM:Nat:=2147483648
def A9:Nat:=1099511627776
inductive V where
 | b (x:Bool)
 | i (k:IntKind) (n:Int)
 | s (l:List UInt8)
 | nil
 | sl (es:List V)
 | agg (cs:List V)
 | tup (vs:List V)
 | ref (id:Id) (off:Nat)
 | arr (id:Id)
 | aref (id:Id) (ix:Nat) (sz:Nat) (off:Nat)
 | ep (e:V) (off:Nat)
 | fn (f:FuncId) (first caps:List V)
 | np
 | nf
 | ni
 | nm
 | ub
 | iv
 | any
 deriving Inhabited
inductive X where
 | t (s:Nat)
 | c (v:V)
 deriving Inhabited
inductive Cy where
 | str
 | int
 | bool
 | st (l:List (Nat×Cy))
 deriving Inhabited
inductive v8 where
 | p
 | f
 | i
 deriving Inhabited
inductive PuK where
 | isnil (ne:Bool)
 | itos
 | btos
 | aidx (n sz:Nat)
 | bit (op:BinOp)
 | shf (op:BinOp)
 | com
 | aget (n sz:Nat) (ag:Bool)
 | eqs (ne:Bool) (l:List (Nat×Cy))
 | nilq (k:v8) (ne:Bool)
 | eqp (ne:Bool)
 | stuck
 deriving Inhabited
inductive RdK where
 | mget (kk:Cy) (z:V) (ok:Bool)
 | mlen
 deriving Inhabited
inductive rN where
 | mput (kk:Cy)
 | next
 deriving Inhabited
inductive MkK where
 | mkmap
 | strit
 | tnew (t:TypeId) (z:V)
 | tbx (t:TypeId)
 deriving Inhabited
inductive AE where
 | mv (x:X)
 | pick (c a b:X)
 | bin (op:BinOp) (x y:X)
 | eqb (ne:Bool) (x y:X)
 | not (x:X)
 | neg (x:X)
 | cvi (k:IntKind) (x:X)
 | cvs (x:X)
 | fld (x:X) (off n:Nat) (ag:Bool)
 | faddr (x:X) (off:Nat)
 | iaddr (x i:X) (e sz:Nat)
 | idx (x i:X)
 | load (x:X) (n:Nat) (ag:Bool)
 | store (a x:X) (n:Nat)
 | box (x:X)
 | alloc (z:V)
 | build (z:List V) (ps:List (Nat×Nat×X))
 | msl (own:Bool) (e sz:Nat) (xs:List X)
 | slS (x:X) (lo hi:Option X)
 | slL (x:X) (lo hi:Option X) (sz:Nat)
 | lenS (x:X)
 | lenL (x:X)
 | app (s x:X) (e sz:Nat)
 | apps (s x:X) (e:Nat)
 | slT (x hi:X) (sz:Nat)
 | ext (x:X) (k:Nat)
 | call (f:FuncId) (args:List X)
 | calls (f:FuncId) (args:List X)
 | calln (f:FuncId) (args:List X)
 | callr (f:FuncId) (args:List X)
 | callv (g:X) (args:List X)
 | callvs (g:X) (args:List X)
 | mkfn (f:FuncId) (first caps:List X)
 | mksl (len cap:X) (z:V) (e sz:Nat)
 | mx (lo:Bool) (x:X) (xs:List X)
 | nilck (x:X)
 | pu (k:PuK) (xs:List X)
 | rdm (k:RdK) (m:X) (xs:List X)
 | wrm (k:rN) (m:X) (xs:List X)
 | mkm (k:MkK) (xs:List X)
 | frz (m:X) (n:Nat)
 | mrange (m:X)
 | mentry (m:X)
 | eqr (ne:Bool) (x y:X)
 | callw (g:X) (args:List X)
 | btos (x:X)
 deriving Inhabited
structure I where
 dst:Option Nat
 op:AE
 gd:Option (Nat×Bool)
 ap:List X
 deriving Inhabited
inductive IC where
 | ops (l:List I) (live:List Nat) (paths:List (List Nat))
 | seq (a b:IC)
 | cond (c:X) (a b:IC)
 | block (id:Nat) (c:IC)
 | loop (c:IC)
 | exit (id:Nat)
 | ret
 | skip
 | mnext (d1 d2:Nat) (x:X) (live:List Nat)
 | wk (c:IC)
 | opx (l1:List I) (live1:List Nat) (d:Nat) (f:FuncId) (args:List X) (l2:List I) (live:List Nat)
 | opxd (l1:List I) (live1:List Nat) (d:Nat) (f:FuncId) (args:List X) (live:List Nat) (paths:List (List Nat))
 | opxv (l1:List I) (live1:List Nat) (d:Nat) (x:X) (args:List X) (l2:List I) (live:List Nat)
 | seqr (l:List I) (live:List Nat)
 | opxe (l:List I) (i:I) (live:List Nat) (paths:List (List Nat))
 | anyr (l:List I) (live:List Nat) (deps:List (List Nat))
 | opxq (l1:List I) (live1:List Nat) (d:Nat) (g:Nat) (want:Bool) (f:FuncId) (args:List X) (l2:List I) (live:List Nat)
 | scope (c:IC)
 | rfn (g:X) (ps:List Nat) (a b:IC) (env live:List Nat)
 deriving Inhabited
abbrev AD:=List (Nat×V)
def get:AD->Nat->V
 | [],_=>.any
 | (k,v)::r,s=>if k=s then v else get r s
class F1 where
 ck:Nat->Code->IC->Prop
def cells:V->List V
 | .agg cs=>cs
 | v=>[v]
def V.ok:V->Bool
 | .tup _|.any=>false
 | _=>true
def V.one:V->Bool
 | .agg _|.tup _|.any=>false
 | _=>true
def AF(es:List V):List V:=es.flatMap cells
inductive Ap (μ:Id->Option Value) (H:Addr->Option Value):V->Value->Prop where
 | b (x:Bool):Ap μ H (.b x) (.bool x)
 | i (k:IntKind) (n:Int):Ap μ H (.i k n) (.int k n)
 | s (l:List UInt8) (h:l.length<=A9):Ap μ H (.s l) (.string ⟨l.toArray⟩)
 | nil:Ap μ H .nil (.slice none 0 0)
 | slE (a:Option Addr) (cap:Nat):Ap μ H (.sl []) (.slice a 0 cap)
 | slC (es:List V) (ad:Addr) (cap sz:Nat) (vals:List Value) (hc:es.length<=cap) (hl:es.length<=AM) (hsz:∀e∈es,(cells e).length=sz)
   (hn:(AF es).length=vals.length) (h1:∀v∈vals,v.oneCell'=true) (hp:∀(k:Nat) (v:Value),vals[k]?=some v->H (ad.add k)=some v)
   (hv:∀(k:Nat) (c:V) (v:Value),(AF es)[k]?=some c->vals[k]?=some v->Ap μ H c v):Ap μ H (.sl es) (.slice (some ad) es.length cap)
 | agg (cs:List V) (vals:List Value) (hn:cs.length=vals.length) (h1:∀v∈vals,v.oneCell'=true)
   (hv:∀(k:Nat) (c:V) (v:Value),cs[k]?=some c->vals[k]?=some v->Ap μ H c v):Ap μ H (.agg cs) (.agg vals.toArray)
 | tup (cs:List V) (vals:List Value) (hn:cs.length=vals.length)
   (hv:∀(k:Nat) (c:V) (v:Value),cs[k]?=some c->vals[k]?=some v->Ap μ H c v):Ap μ H (.tup cs) (.tuple vals.toArray)
 | ref (id:Id) (off bk:Nat) (h:μ id=some (.pointer (some ⟨bk,0,none⟩))):Ap μ H (.ref id off) (.pointer (some ⟨bk,off,none⟩))
 | arr (id:Id) (v:Value) (h:μ id=some v) (h1:v.oneCell'=true):Ap μ H (.arr id) v
 | aref (id:Id) (ix sz off bk len cap:Nat) (h:μ id=some (.slice (some ⟨bk,0,none⟩) len cap)):Ap μ H (.aref id ix sz off) (.pointer (some ⟨bk,ix*sz+off,none⟩))
 | ep (e:V) (off:Nat) (ad:Addr) (vals:List Value) (hn:(cells e).length=vals.length) (h1:∀v∈vals,v.oneCell'=true)
   (hp:∀(k:Nat) (v:Value),vals[k]?=some v->H (ad.add k)=some v)
   (hv:∀(k:Nat) (c:V) (v:Value),(cells e)[k]?=some c->vals[k]?=some v->Ap μ H c v):Ap μ H (.ep e off) (.pointer (some (ad.add off)))
 | fn (f:FuncId) (first caps:List V) (fvals cvals:List Value) (hnf:first.length=fvals.length) (hnc:caps.length=cvals.length)
   (hvf:∀(k:Nat) (c:V) (v:Value),first[k]?=some c->fvals[k]?=some v->Ap μ H c v)
   (hvc:∀(k:Nat) (c:V) (v:Value),caps[k]?=some c->cvals[k]?=some v->Ap μ H c v):Ap μ H (.fn f first caps) (.func (.func f) fvals.toArray cvals.toArray)
 | np:Ap μ H .np (.pointer none)
 | nf:Ap μ H .nf .nilFunc
 | ni:Ap μ H .ni .nilIface
 | nm:Ap μ H .nm (.map none)
 | ub (t:Bool):Ap μ H .ub (.bool t)
 | iv (t:TypeId) (x:Value):Ap μ H .iv (.iface t x)
 | any (v:Value):Ap μ H .any v
structure VRels (μ:Id->Option Value) (H:Addr->Option Value) (cs:List V) (vals:List Value):Prop where
 len:cs.length=vals.length
 at_:∀(k:Nat) (c:V) (v:Value),cs[k]?=some c->vals[k]?=some v->Ap μ H c v
structure AG (μ:Id->Option Value) (H:Addr->Option Value) (cs:List V) (vals:List Value):Prop extends VRels μ H cs vals where
 one:∀v∈vals,v.oneCell'=true
section mono
variable{μ μ':Id→Option Value}{H H':Addr→Option Value}
theorem Ap.mono{v:V}{val:Value}(h:Ap μ H v val)(hμ:∀id x,μ id=some x->μ' id=some x)(hH:∀a x,H a=some x->H' a=some x):Ap μ' H' v val:=by
 induction h with
 | b x=>exact .b x
 | i k n=>exact .i k n
 | s l h=>exact .s l h
 | nil=>exact .nil
 | slE a cap=>exact .slE a cap
 | slC es ad cap sz vals hc hl hsz hn h1 hp _ ih=>exact .slC es ad cap sz vals hc hl hsz hn h1 (fun k v hk=>hH _ _ (hp k v hk)) ih
 | agg cs vals hn h1 _ ih=>exact .agg cs vals hn h1 ih
 | tup cs vals hn _ ih=>exact .tup cs vals hn ih
 | ref id off bk h=>exact .ref id off bk (hμ _ _ h)
 | arr id v h h1=>exact .arr id v (hμ _ _ h) h1
 | aref id ix sz off bk len cap h=>exact .aref id ix sz off bk len cap (hμ _ _ h)
 | ep e off ad vals hn h1 hp _ ih=>exact .ep e off ad vals hn h1 (fun k v hk=>hH _ _ (hp k v hk)) ih
 | fn f first caps fvals cvals hnf hnc _ _ ihf ihc=>exact .fn f first caps fvals cvals hnf hnc ihf ihc
 | np=>exact .np
 | nf=>exact .nf
 | ni=>exact .ni
 | nm=>exact .nm
 | ub t=>exact .ub t
 | iv t x=>exact .iv t x
 | any v=>exact .any v
theorem Ap.ub_inv{val:Value}(h:Ap μ H .ub val):∃t,val=.bool t:=by
 cases h
 exact⟨_,rfl⟩
theorem VRels.mono{cs:List V}{vals:List Value}(h:VRels μ H cs vals)(hμ:∀id x,μ id=some x->μ' id=some x)(hH:∀a x,H a=some x->H' a=some x):VRels μ' H' cs vals:=
 ⟨h.len,fun k c v hc hv=>(h.at_ k c v hc hv).mono hμ hH⟩
theorem AG.mono{cs:List V}{vals:List Value}(h:AG μ H cs vals)(hμ:∀id x,μ id=some x->μ' id=some x)(hH:∀a x,H a=some x->H' a=some x):AG μ' H' cs vals:=
 ⟨h.toVRels.mono hμ hH,h.one⟩
end mono
section lists
variable{μ:Id→Option Value}{H:Addr→Option Value}
theorem VRels.nil_:VRels μ H [] []:=⟨rfl,fun k c v h=>by simp at h⟩
theorem VRels.cons{c:V}{v:Value}{cs:List V}{vs:List Value}(h:Ap μ H c v)(hs:VRels μ H cs vs):VRels μ H (c::cs) (v::vs):=by
 refine⟨by simp[hs.len],fun k x y hx hy=>?_⟩
 cases k with
 | zero=>grind
 | succ k=>exact hs.at_ k x y (by simpa using hx) (by simpa using hy)
theorem VRels.append{cs ds:List V}{vs us:List Value}(h:VRels μ H cs vs)(h':VRels μ H ds us):VRels μ H (cs++ds) (vs++us):=by
 refine⟨by simp[h.len,h'.len],fun k x y hx hy=>?_⟩
 by_cases hk:k<cs.length
 ·rw[ArP hk] at hx
  rw[ArP (by rw[<-h.len];exact hk)] at hy
  exact h.at_ k x y hx hy
 ·rw[ApR (by omega)] at hx
  rw[ApR (by rw[<-h.len];omega),<-h.len] at hy
  exact h'.at_ _ x y hx hy
theorem AG.append{cs ds:List V}{vs us:List Value}(h:AG μ H cs vs)(h':AG μ H ds us):AG μ H (cs++ds) (vs++us):=
 ⟨h.toVRels.append h'.toVRels,fun v hv=>(Aio.1 hv).elim (h.one v) (h'.one v)⟩
theorem VRels.take{cs:List V}{vs:List Value}(h:VRels μ H cs vs)(n:Nat):VRels μ H (cs.take n) (vs.take n):=by
 refine⟨by simp[h.len],fun k x y hx hy=>?_⟩
 rw[AsW] at hx hy
 split at hx
 ·rename_i hk;rw[if_pos hk] at hy;exact h.at_ k x y hx hy
 ·cases hx
theorem VRels.drop{cs:List V}{vs:List Value}(h:VRels μ H cs vs)(n:Nat):VRels μ H (cs.drop n) (vs.drop n):=by
 refine⟨by simp[h.len],fun k x y hx hy=>?_⟩
 rw[At4] at hx hy
 exact h.at_ _ x y hx hy
theorem AG.take{cs:List V}{vs:List Value}(h:AG μ H cs vs)(n:Nat):AG μ H (cs.take n) (vs.take n):=
 ⟨h.toVRels.take n,fun v hv=>h.one v (Ar0 hv)⟩
theorem AG.drop{cs:List V}{vs:List Value}(h:AG μ H cs vs)(n:Nat):AG μ H (cs.drop n) (vs.drop n):=
 ⟨h.toVRels.drop n,fun v hv=>h.one v (Att hv)⟩
theorem VRels.get{cs:List V}{vs:List Value}(h:VRels μ H cs vs){k:Nat}{c:V}(hc:cs[k]?=some c):∃v,vs[k]?=some v/\Ap μ H c v:=by
 have hk:k<cs.length:=(AlY.1 hc).1
 have hk':k<vs.length:=by rw[<-h.len];exact hk
 exact⟨vs[k],Ain hk',h.at_ k c _ hc (Ain hk')⟩
theorem AG.nil_:AG μ H [] []:=⟨VRels.nil_,fun v hv=>by cases hv⟩
theorem Ap.toCells{v:V}{val:Value}(h:Ap μ H v val)(ho:v.ok=true):AG μ H (cells v) val.cells.toList/\(v.one=true->val.oneCell'=true):=by
 have one:∀{c:V} {x:Value},Ap μ H c x->x.oneCell'=true->AG μ H [c] [x]:=fun hc hx=>⟨VRels.nil_.cons hc,fun v hv=>by grind⟩
 cases h with
 | b x=>exact⟨one (.b x) rfl,fun _=>rfl⟩
 | i k n=>exact⟨one (.i k n) rfl,fun _=>rfl⟩
 | s l h=>exact⟨one (.s l h) rfl,fun _=>rfl⟩
 | nil=>exact⟨one .nil rfl,fun _=>rfl⟩
 | slE a cap=>exact⟨one (.slE a cap) rfl,fun _=>rfl⟩
 | slC es ad cap sz vals hc hl hsz hn h1 hp hv=>exact⟨one (.slC es ad cap sz vals hc hl hsz hn h1 hp hv) rfl,fun _=>rfl⟩
 | agg cs vals hn h1 hv=>exact⟨⟨⟨hn,hv⟩,h1⟩,fun h=>by simp[V.one] at h⟩
 | tup cs vals hn hv=>simp[V.ok] at ho
 | ref id off bk h=>exact⟨one (.ref id off bk h) rfl,fun _=>rfl⟩
 | arr id v h h1=>
  have:val.cells=#[val]:=by cases val<;>first|rfl|simp[Value.oneCell'] at h1
  rw[this]
  exact⟨one (.arr id val h h1) h1,fun _=>h1⟩
 | aref id ix sz off bk len cap h=>exact⟨one (.aref id ix sz off bk len cap h) rfl,fun _=>rfl⟩
 | ep e off ad vals hn h1 hp hv=>exact⟨one (.ep e off ad vals hn h1 hp hv) rfl,fun _=>rfl⟩
 | fn f first caps fvals cvals hnf hnc hvf hvc=>exact⟨one (.fn f first caps fvals cvals hnf hnc hvf hvc) rfl,fun _=>rfl⟩
 | np=>exact⟨one .np rfl,fun _=>rfl⟩
 | nf=>exact⟨one .nf rfl,fun _=>rfl⟩
 | ni=>exact⟨one .ni rfl,fun _=>rfl⟩
 | nm=>exact⟨one .nm rfl,fun _=>rfl⟩
 | ub t=>exact⟨one (.ub t) rfl,fun _=>rfl⟩
 | iv t x=>exact⟨one (.iv t x) rfl,fun _=>rfl⟩
 | any v=>simp[V.ok] at ho
end lists
theorem EU{es:List V}{sz:Nat}(h:∀e∈es,(cells e).length=sz):(AF es).length=es.length*sz:=by
 induction es with
 | nil=>simp[AF]
 | cons e es ih=>
  have h1:=h e (by simp)
  have h2:=ih (fun x hx=>h x (by simp[hx]))
  simp only[AF,Ato,Aik,AhU] at h2⊢
  grind
theorem Fh(es xs:List V):AF (es++xs)=AF es++AF xs:=by simp[AF]
theorem JJ{es:List V}{sz:Nat}(h:∀e∈es,(cells e).length=sz)(n:Nat):AF (es.drop n)=(AF es).drop (n*sz):=by
 induction n generalizing es with
 | zero=>simp
 | succ n ih=>
  cases es with
  | nil=>simp[AF]
  | cons e es=>
   have h1:=h e (by simp)
   have h2:=ih (es:=es) (fun x hx=>h x (by simp[hx]))
   rw[ApP,h2]
   simp only[AF,Ato]
   rw[Aul,Nat.one_mul,Nat.add_comm,<-AtC,<-h1,Auh]
theorem JO{es:List V}{sz:Nat}(h:∀e∈es,(cells e).length=sz)(n:Nat):AF (es.take n)=(AF es).take (n*sz):=by
 induction n generalizing es with
 | zero=>simp[AF]
 | succ n ih=>
  cases es with
  | nil=>simp[AF]
  | cons e es=>
   have h1:=h e (by simp)
   have h2:=ih (es:=es) (fun x hx=>h x (by simp[hx]))
   rw[ApB]
   simp only[AF,Ato] at h2⊢
   rw[h2,Aul,Nat.one_mul,Nat.add_comm,<-h1,List.take_length_add_append]
theorem UN{es:List V}{sz:Nat}(h:∀e∈es,(cells e).length=sz){i:Nat}{e:V}(he:es[i]?=some e):((AF es).drop (i*sz)).take sz=cells e:=by
 have hi:i<es.length:=(AlY.1 he).1
 have hm:e∈es:=Ai1 he
 have hd:=JJ h i
 rw[<-hd]
 rw[List.drop_eq_getElem_cons hi]
 have:es[i]=e:=by grind
 simp only[AF,Ato,this]
 grind
inductive AC where
 | box (v:V)
 | tbox (t:TypeId) (v:V)
 | arr (e:TypeId) (sz:Nat) (es:List V)
 | map (es:List (V×V))
 | it (l:List UInt8) (pos:Nat)
 | mit (mid:Id) (since:Nat) (seen:List Nat) (stepped:Nat)
 | loop (nt:Nat) (env:AD) (ps:List Nat) (a b:IC) (st:LoopState) (pd:Option (Option Nat))
 deriving Inhabited
def pdC:Option (Option Nat)->Option Code
 | none=>none
 | some none=>some .ret
 | some (some k)=>some (.exit k)
abbrev Ak:=List (Id×AC)
def lk:Ak->Id->Option AC
 | [],_=>none
 | (k,e)::r,id=>if k=id then some e else lk r id
def BI(v:Option Value):Option Nat:=
 match v with
 | some (.pointer (some a))=>some a.block
 | some (.slice (some a) _ _)=>some a.block
 | some (.map (some r))=>some r
 | some (.func (.yield l) _ _)=>some l
 | _=>none
structure pT (μ:Id->Option Value) (H:Addr->Option Value) (es:List (V×V)) (ms:List MapEntry) (clock:Nat):Prop where
 len:es.length=ms.length
 at_:∀(k:Nat) (c:V×V) (m:MapEntry),es[k]?=some c->ms[k]?=some m->Ap μ H c.1 m.key/\Ap μ H c.2 m.val
 born:∀(k:Nat) (m:MapEntry),ms[k]?=some m->m.born=k
 now:clock=ms.length
theorem pT.mono{μ μ':Id->Option Value}{H H':Addr->Option Value}{es:List (V×V)}{ms:List MapEntry}{clock:Nat}(h:pT μ H es ms clock)(hμ:∀id x,μ id=some x->μ' id=some x)(hH:∀a x,H a=some x->H' a=some x):pT μ' H' es ms clock:=
 ⟨h.len,fun k c m h1 h2=>⟨(h.at_ k c m h1 h2).1.mono hμ hH,(h.at_ k c m h1 h2).2.mono hμ hH⟩,h.born,h.now⟩
variable[F1]
def Cu(B:Nat)(μ:Id->Option Value)(H:Addr->Option Value)(w:World)(id:Id):AC->Prop
 | .box v=>∃bk vals t,μ id=some (.pointer (some ⟨bk,0,none⟩))/\B<=bk/\w.heap[bk]?=some (.cells vals t (0,0))/\AG μ H (cells v) vals.toList
 | .tbox t v=>∃bk vals,μ id=some (.pointer (some ⟨bk,0,none⟩))/\B<=bk/\w.heap[bk]?=some (.cells vals t (0,0))/\AG μ H (cells v) vals.toList
 | .map es=>∃r mes clock,μ id=some (.map (some r))/\B<=r/\w.heap[r]?=some (.map mes clock)/\pT μ H es mes.toList clock
 | .it l pos=>∃r,μ id=some (.pointer (some ⟨r,0,none⟩))/\B<=r/\w.heap[r]?=some (.stringIter ⟨l.toArray⟩ pos)
 | .mit mid since seen stepped=>∃r m,μ id=some (.pointer (some ⟨r,0,none⟩))/\B<=r/\μ mid=some (.map (some m))/\w.heap[r]?=some (.mapIter (some m) since seen.toArray stepped)
 | .arr e sz es=>∃v vals,μ id=some v/\v.oneCell'=true/\w.ownsRow B e sz v es.length vals/\es.length<=AM/\(∀x∈es,(cells x).length=sz)/\AG μ H (AF es) vals
 | .loop nt env ps a b st pd=>∃l r,μ id=some (.func (.yield l) #[] #[])/\B<=l/\w.heap[l]?=some (.loop r)/\(r.state=st/\r.pending=pdC pd/\r.params.toList=ps/\F1.ck nt r.assign a/\F1.ck nt r.body b/\r.tmps.size=nt)/\∀s,Ap μ H (get env s) (r.tmps.getD s undef)
def EK(μ:Id->Option Value)(σ:Ak)(bk:Nat):Prop:=∃id e,lk σ id=some e/\BI (μ id)=some bk
structure Hp (W0:World) (σ:Ak) (n:Nat) (μ:Id->Option Value) (H:Addr->Option Value) (w:World):Prop where
 base:Below W0.heap.size W0 w
 pins:∀ad v,H ad=some v->w.cell? ad=some v
 ents:∀id e,lk σ id=some e->Cu W0.heap.size μ H w id e
 unp:∀bk,EK μ σ bk->∀ad:Addr,ad.block=bk->H ad=none
 sep:∀id e id' e' bk,lk σ id=some e->lk σ id'=some e'->BI (μ id)=some bk->BI (μ id')=some bk->id=id'
 bd:∀id,n<=id.1->μ id=none
structure Fr (μ:Id->Option Value) (H:Addr->Option Value) (σ:Ak) (w:World) (μ':Id->Option Value) (H':Addr->Option Value) (σ':Ak) (w':World):Prop where
 mu:∀id x,μ id=some x->μ' id=some x
 hp:∀ad v,H ad=some v->H' ad=some v
 size:w.heap.size<=w'.heap.size
 keep:∀bk,bk<w.heap.size->¬EK μ σ bk->w'.heap[bk]?=w.heap[bk]?
 pin:∀ad:Addr,ad.block<w.heap.size->¬EK μ σ ad.block->H' ad=H ad
 dom:∀bk,bk<w.heap.size->EK μ' σ' bk->EK μ σ bk
theorem Fr.refl(μ:Id->Option Value)(H:Addr->Option Value)(σ:Ak)(w:World):Fr μ H σ w μ H σ w:=
 ⟨fun _ _ h=>h,fun _ _ h=>h,AbG _,fun _ _ _=>rfl,fun _ _ _=>rfl,fun _ _ h=>h⟩
theorem Fr.trans{μ μ1 μ2:Id->Option Value}{H H1 H2:Addr->Option Value}{σ σ1 σ2:Ak}{w w1 w2:World}(h:Fr μ H σ w μ1 H1 σ1 w1)(k:Fr μ1 H1 σ1 w1 μ2 H2 σ2 w2):Fr μ H σ w μ2 H2 σ2 w2 where
 mu id x hx:=k.mu _ _ (h.mu _ _ hx)
 hp ad v hv:=k.hp _ _ (h.hp _ _ hv)
 size:=Aiw h.size k.size
 keep bk hb ho:=(k.keep bk (Alg hb h.size) (fun o=>ho (h.dom bk hb o))).trans (h.keep bk hb ho)
 pin ad hb ho:=(k.pin ad (Alg hb h.size) (fun o=>ho (h.dom _ hb o))).trans (h.pin ad hb ho)
 dom bk hb ho:=h.dom bk hb (k.dom bk (Alg hb h.size) ho)
section hp
variable{W0 w:World}{σ:Ak}{n:Nat}{μ:Id→Option Value}{H:Addr→Option Value}
theorem Cu.block{B:Nat}{id:Id}{e:AC}{bk:Nat}(h:Cu B μ H w id e)(hb:BI (μ id)=some bk):B<=bk/\bk<w.heap.size:=by
 cases e with
 | box v=>
  obtain⟨g,vals,t,hm,hB,hh,_⟩:=h
  rw[hm] at hb
  simp[BI] at hb
  grind
 | tbox t v=>
  obtain⟨g,vals,hm,hB,hh,_⟩:=h
  rw[hm] at hb
  simp[BI] at hb
  grind
 | arr e sz es=>
  obtain⟨v,vals,hm,_,hown,_⟩:=h
  rw[hm] at hb
  refine hown.lt bk ?_
  cases v with
  | slice a len cap=>cases a with
   | none=>simp[BI] at hb
   | some a=>simpa[BI,Value.ownBlock] using hb
  | pointer a=>
   rcases hown.2 with⟨h,_⟩|⟨_,_,_,h,_⟩<;>cases h
  | map a=>
   rcases hown.2 with⟨h,_⟩|⟨_,_,_,h,_⟩<;>cases h
  | func f x y=>
   rcases hown.2 with⟨h,_⟩|⟨_,_,_,h,_⟩<;>cases h
  | _=>simp[BI] at hb
 | map es=>
  obtain⟨r,mes,clock,hm,hB,hh,_⟩:=h
  rw[hm] at hb
  simp[BI] at hb
  grind
 | it l pos=>
  obtain⟨r,hm,hB,hh⟩:=h
  rw[hm] at hb
  simp[BI] at hb
  grind
 | mit mid since seen stepped=>
  obtain⟨r,m,hm,hB,_,hh⟩:=h
  rw[hm] at hb
  simp[BI] at hb
  grind
 | loop nt env ps a b st pd=>
  obtain⟨l,r,hm,hB,hh,_⟩:=h
  rw[hm] at hb
  simp[BI] at hb
  grind
theorem Cu.named{B:Nat}{id:Id}{e:AC}(h:Cu B μ H w id e):∃x,μ id=some x:=by
 cases e with
 | box v=>obtain⟨_,_,_,hm,_⟩:=h;exact⟨_,hm⟩
 | tbox t v=>obtain⟨_,_,hm,_⟩:=h;exact⟨_,hm⟩
 | arr e sz es=>obtain⟨_,_,hm,_⟩:=h;exact⟨_,hm⟩
 | map es=>obtain⟨_,_,_,hm,_⟩:=h;exact⟨_,hm⟩
 | it l pos=>obtain⟨_,hm,_⟩:=h;exact⟨_,hm⟩
 | mit mid since seen stepped=>obtain⟨_,_,hm,_⟩:=h;exact⟨_,hm⟩
 | loop nt env ps a b st pd=>obtain⟨_,_,hm,_⟩:=h;exact⟨_,hm⟩
theorem Hp.own_lt(h:Hp W0 σ n μ H w){bk:Nat}(ho:EK μ σ bk):W0.heap.size<=bk/\bk<w.heap.size:=by
 obtain⟨id,e,he,hb⟩:=ho
 exact(h.ents id e he).block hb
theorem Cu.keep{B:Nat}{μ':Id->Option Value}{H':Addr->Option Value}{w':World}{id:Id}{e:AC}(h:Cu B μ H w id e)
  (hμ:∀id x,μ id=some x->μ' id=some x)(hH:∀a x,H a=some x->H' a=some x)(hb:∀bk,BI (μ id)=some bk->w'.heap[bk]?=w.heap[bk]?):Cu B μ' H' w' id e:=by
 cases e with
 | box v=>
  obtain⟨g,vals,t,hm,hB,hh,hc⟩:=h
  exact⟨g,vals,t,hμ _ _ hm,hB,by rw[hb g (by simp[hm,BI])];exact hh,hc.mono hμ hH⟩
 | tbox t v=>
  obtain⟨g,vals,hm,hB,hh,hc⟩:=h
  exact⟨g,vals,hμ _ _ hm,hB,by rw[hb g (by simp[hm,BI])];exact hh,hc.mono hμ hH⟩
 | arr e sz es=>
  obtain⟨v,vals,hm,h1,hown,hl,hsz,hc⟩:=h
  refine⟨v,vals,hμ _ _ hm,h1,⟨hown.1,?_⟩,hl,hsz,hc.mono hμ hH⟩
  rcases hown.2 with h2|⟨g,cap,cur,rfl,hB,hh,r⟩
  ·exact .inl h2
  ·exact .inr ⟨g,cap,cur,rfl,hB,by rw[hb g (by simp[hm,BI])];exact hh,r⟩
 | map es=>
  obtain⟨r,mes,clock,hm,hB,hh,hc⟩:=h
  exact⟨r,mes,clock,hμ _ _ hm,hB,by rw[hb r (by simp[hm,BI])];exact hh,hc.mono hμ hH⟩
 | it l pos=>
  obtain⟨r,hm,hB,hh⟩:=h
  exact⟨r,hμ _ _ hm,hB,by rw[hb r (by simp[hm,BI])];exact hh⟩
 | mit mid since seen stepped=>
  obtain⟨r,m,hm,hB,hm2,hh⟩:=h
  exact⟨r,m,hμ _ _ hm,hB,hμ _ _ hm2,by rw[hb r (by simp[hm,BI])];exact hh⟩
 | loop nt env ps a b st pd=>
  obtain⟨l,r,hm,hB,hh,hx,hv⟩:=h
  exact⟨l,r,hμ _ _ hm,hB,by rw[hb l (by simp[hm,BI])];exact hh,hx,fun s=>(hv s).mono hμ hH⟩
end hp
end Go.Ir
end
section
namespace Go.Ir
open Go.RowKit
variable[F1]
def ev(g:Nat->V):X->V
 | .t s=>g s
 | .c v=>v
def put(env:AD)(d:Option Nat)(v:V):AD:=
 match d with
 | some d=>(d,v)::env
 | none=>env
def P0:V->Bool
 | .agg _=>true
 | _=>false
def R9(v:V):V:=.agg (cells v)
def sub(v:V)(off n:Nat)(ag:Bool):Option V:=
 if ag then(if off=0/\(cells v).length=n then some (R9 v) else if off+n<=(cells v).length then some (.agg (((cells v).drop off).take n)) else none)
 else(cells v)[off]?
def De(u:V)(off n:Nat)(x:V):Option V:=
 if(cells x).length=n then
  (if off=0/\(cells u).length=n/\P0 u=P0 x then some x
  else if off+n<=(cells u).length then some (.agg ((cells u).take off++cells x++(cells u).drop (off+n))) else none)
 else none
def upd:Ak->Id->AC->Ak
 | [],_,_=>[]
 | (k,e)::r,id,e'=>if k=id then(k,e')::r else(k,e)::upd r id e'
def del:Ak->Id->Ak
 | [],_=>[]
 | (k,e)::r,id=>if k=id then del r id else(k,e)::del r id
def over(σi σo σ:Ak):Ak:=σo++σ.filter fun p=>(lk σi p.1).isNone
def El(z:List V):List (Nat×Nat×V)->Option (List V)
 | []=>some z
 | (off,n,v)::r=>if(cells v).length=n/\off+n<=z.length then El (z.take off++cells v++z.drop (off+n)) r else none
def Az(σ:Ak):V->Option (List V)
 | .sl xs=>some xs
 | .nil=>some []
 | .arr id=>match lk σ id with
  | some (.arr _ _ es)=>some es
  | _=>none
 | _=>none
def Fs(g:Nat->V)(dflt:Nat):Option X->Option Nat
 | none=>some dflt
 | some x=>match ev g x with
  | .i _ n=>if 0<=n then some n.toNat else none
  | _=>none
def PW(op:BinOp)(k:IntKind)(a b:Int)(v:V):Prop:=
 match op with
 | .add=>v=.i k (k.wrap (a+b))
 | .sub=>v=.i k (k.wrap (a-b))
 | .mul=>v=.i k (k.wrap (a*b))
 | .quo=>b≠0/\v=.i k (k.wrap (a.tdiv b))
 | .rem=>b≠0/\v=.i k (a.tmod b)
 | .eql=>v=.b (a==b)
 | .neq=>v=.b (a !=b)
 | .lss=>v=.b (decide (a<b))
 | .leq=>v=.b (decide (a<=b))
 | .gtr=>v=.b (decide (a>b))
 | .geq=>v=.b (decide (a>=b))
 | _=>False
def Rj(op:BinOp)(a b:List UInt8)(v:V):Prop:=
 match op with
 | .add=>a.length+b.length<=A9/\v=.s (a++b)
 | .eql=>v=.b (a==b)
 | .neq=>v=.b (!(a==b))
 | .lss=>v=.b (Op.bytesLess a b)
 | .leq=>v=.b (Op.bytesLess a b||a==b)
 | .gtr=>v=.b (!(Op.bytesLess a b||a==b))
 | .geq=>v=.b (!Op.bytesLess a b)
 | _=>False
def OE(op:BinOp)(x y v:V):Prop:=
 match x,y with
 | .i k a,.i k' b=>k=k'/\PW op k a b v
 | .s a,.s b=>Rj op a b v
 | _,_=>False
def OO(lo:Bool):V->List V->Option V
 | v,[]=>some v
 | .i k a,.i k' b::r=>if k=k' then OO lo (.i k (if lo then min a b else max a b)) r else none
 | _,_=>none
def DE:Cy->V->V->Option Bool
 | .str,.s a,.s b=>some (a==b)
 | .int,.i k a,.i k' b=>if k=k' then some (a==b) else none
 | .bool,.b a,.b b=>some (a==b)
 | _,_,_=>none
def eqO(a b:List V):List (Nat×Cy)->Option Bool
 | []=>some true
 | (o,kk)::r=>match a[o]?,b[o]? with
  | some x,some y=>match DE kk x y with
   | some true=>eqO a b r
   | some false=>some false
   | none=>none
  | _,_=>none
def DY(kk:Cy)(x y:V):Option Bool:=
 match kk,x,y with
 | .st l,.agg a,.agg b=>if a.length=l.length/\b.length=l.length then eqO a b l else none
 | .str,x,y=>DE .str x y
 | .int,x,y=>DE .int x y
 | .bool,x,y=>DE .bool x y
 | _,_,_=>none
def Ki:Cy->V->Bool
 | .str,.s _|.int,.i _ _|.bool,.b _=>true
 | .st l,.agg a=>a.length==l.length
 | _,_=>false
def Bl(kk:Cy)(k:V):List (V×V)->Nat->Option (Option (Nat×V))
 | [],_=>if Ki kk k then some none else none
 | e::es,i=>match DY kk k e.1 with
  | some true=>some (some (i,e.2))
  | some false=>Bl kk k es (i+1)
  | none=>none
def Ax(l:List UInt8):List V:=l.map fun c=>.i .u8 c.toNat
def Ey:List V->Option (List UInt8)
 | []=>some []
 | .i .u8 n::r=>(Ey r).map (UInt8.ofNat n.toNat :: ·)
 | _=>none
def J9:v8->V->Option Bool
 | .p,.np=>some true
 | .p,.ref _ _=>some false
 | .p,.aref _ _ _ _=>some false
 | .p,.ep _ _=>some false
 | .f,.nf=>some true
 | .f,.fn _ _ _=>some false
 | .i,.ni=>some true
 | .i,.iv=>some false
 | _,_=>none
def Ag3:V->V->Option Bool
 | .np,y=>J9 .p y
 | x,.np=>J9 .p x
 | .ref id o,.ref id' o'=>if id=id' then some (o==o') else none
 | _,_=>none
def Oa:AC->Bool
 | .box _=>true
 | .tbox _ _=>true
 | _=>false
def QA(σ:Ak):V->V->Option Bool
 | .np,y=>J9 .p y
 | x,.np=>J9 .p x
 | .ref id o,.ref id' o'=>if id=id' then some (o==o') else(lk σ id).bind fun e=>(lk σ id').bind fun e'=>if Oa e&&Oa e' then some false else none
 | _,_=>none
def eqN(ne r:Bool):V:=.b (if ne then !r else r)
def o9(op:BinOp)(k:IntKind)(a b:Int):Option V:=
 match op with
 | .and=>some (.i k (k.wrap (BitVec.ofInt k.bits a &&& BitVec.ofInt k.bits b).toNat))
 | .or=>some (.i k (k.wrap (BitVec.ofInt k.bits a ||| BitVec.ofInt k.bits b).toNat))
 | .xor=>some (.i k (k.wrap (BitVec.ofInt k.bits a ^^^ BitVec.ofInt k.bits b).toNat))
 | .andNot=>some (.i k (k.wrap (BitVec.ofInt k.bits a &&& ~~~BitVec.ofInt k.bits b).toNat))
 | _=>none
def Aeb(op:BinOp)(k:IntKind)(a b:Int):Option V:=
 match op with
 | .shl=>some (.i k (k.wrap (a*2 ^ min b.toNat k.bits)))
 | .shr=>some (.i k (a.fdiv (2 ^ min b.toNat k.bits)))
 | _=>none
def F9:PuK->List V->Option V
 | .isnil ne,[.nil]=>some (.b (!ne))
 | .isnil ne,[.sl []]=>some .ub
 | .isnil ne,[.sl (_::_)]=>some (.b ne)
 | .itos,[.i _ n]=>some (.s (Utf8.encode n).data.toList)
 | .btos,[.sl es]=>(Ey es).map .s
 | .btos,[.nil]=>some (.s [])
 | .aidx n sz,[.ref id off,.i _ i]=>if 0<=i/\i<(n:Int) then some (.ref id (off+i.toNat*sz)) else none
 | .bit op,[.i k a,.i k' b]=>if k=k' then o9 op k a b else none
 | .shf op,[.i k a,.i _ b]=>if 0<=b then Aeb op k a b else none
 | .aget n sz ag,[.agg cs,.i _ i]=>if 0<=i/\i<(n:Int) then sub (.agg cs) (i.toNat*sz) sz ag else none
 | .eqs ne l,[.agg a,.agg b]=>(eqO a b l).map fun r=>.b (if ne then !r else r)
 | .nilq k ne,[x]=>(J9 k x).map fun r=>.b (if ne then !r else r)
 | .eqp ne,[x,y]=>(Ag3 x y).map fun r=>.b (if ne then !r else r)
 | .com,[.i k a]=>o9 .xor k (if k.signed then -1 else k.max) a
 | _,_=>none
def wX:RdK->AC->List V->Option V
 | .mget kk z ok,.map es,[k]=>(Bl kk k es 0).map fun r=>match r with
  | some (_,v)=>if ok then .tup [v,.b true] else v
  | none=>if ok then .tup [z,.b false] else z
 | .mlen,.map es,[]=>some (.i .i64 es.length)
 | _,_,_=>none
def ZH:rN->AC->List V->Option (AC×V)
 | .mput kk,.map es,[k,v]=>(Bl kk k es 0).map fun r=>match r with
  | some (i,_)=>(.map (es.modify i fun e=>(e.1,v)),.tup [])
  | none=>(.map (es++[(k,v)]),.tup [])
 | .next,.it l pos,[]=>if pos<l.length then(let c:=Utf8.decode ⟨l.toArray⟩ pos;some (.it l (pos+c.2),.tup [.b true,.i .i64 pos,.i .i32 c.1])) else some (.it l pos,.tup [.b false])
 | _,_,_=>none
def Vn:MkK->List V->Option AC
 | .mkmap,[]=>some (.map [])
 | .strit,[.s l]=>some (.it l 0)
 | .tnew t z,[]=>some (.tbox t z)
 | .tbx t,[x]=>if x.ok=true then some (.tbox t x) else none
 | _,_=>none
def tA:MkK->Id->V
 | .tnew _ _,id|.tbx _,id=>.ref id 0
 | _,id=>.arr id
def ldB(en:AC)(off n:Nat)(ag:Bool):Option V:=
 match en with
 | .box u=>sub u off n ag
 | .tbox _ u=>sub u off n ag
 | _=>none
def Vv(en:AC)(off n:Nat)(x:V):Option AC:=
 match en with
 | .box u=>(De u off n x).map .box
 | .tbox t u=>(De u off n x).map (.tbox t)
 | _=>none
theorem QL{en:AC}{off n:Nat}{ag:Bool}{v:V}(h:ldB en off n ag=some v):∃u,(en=.box u\/∃t,en=.tbox t u)/\sub u off n ag=some v:=by
 unfold ldB at h
 grind
theorem Rf{en en':AC}{off n:Nat}{x:V}(h:Vv en off n x=some en'):∃u u',De u off n x=some u'/\(en=.box u/\en'=.box u'\/∃t,en=.tbox t u/\en'=.tbox t u'):=by
 unfold Vv at h
 split at h
 ·rename_i u
  cases hs:De u off n x with
  | none=>rw[hs] at h;cases h
  | some u'=>grind
 ·rename_i t u
  cases hs:De u off n x with
  | none=>rw[hs] at h;cases h
  | some u'=>grind
 ·cases h
def callable(P:Program)(f:FuncId):Bool:=
 match P.funcs[f]? with
 | some fn => fn.body.isSome&&!(fn.name == "runtime.NumGoroutine")
 | none=>false
structure Am (P:Program) (W0:World) (f:FuncId) (args:List V) (σ:Ak) (v:V) (σ':Ak):Prop where
 callable:callable P f=true
 dom:∀id,lk σ' id≠none->lk σ id≠none
 run:∀n w μ H vals,Hp W0 σ n μ H w->VRels μ H args vals->Calls P f vals.toArray w fun e w'=>
  ∃val μ' H' n',e=.returned val/\Ap μ' H' v val/\Hp W0 σ' n' μ' H' w'/\n<=n'/\Fr μ H σ w μ' H' σ' w'/\∀id,id.1<n->μ id=none->μ' id=none
structure JR (P:Program) (W0:World) (f:FuncId) (args:List V) (σ:Ak) (x:AC) (σ':Ak):Prop where
 callable:callable P f=true
 dom:∀id,lk σ' id≠none->lk σ id≠none
 run:∀n w μ H vals,Hp W0 σ n μ H w->VRels μ H args vals->Calls P f vals.toArray w fun e' w'=>
  ∃val μ' H' n' id,e'=.returned val/\μ' id=some val/\val.oneCell'=true/\μ id=none/\lk σ' id=none/\Hp W0 ((id,x)::σ') n' μ' H' w'/\n<=n'/\Fr μ H σ w μ' H' ((id,x)::σ') w'/\∀id,id.1<n->μ id=none->μ' id=none
def E(P:Program)(W0:World)(ep:Nat)(d:Option Nat)(op:AE)(g:Nat->V)(σ:Ak)(v:V)(σ':Ak):Prop:=
 match op with
 | .mv x=>v=ev g x/\σ'=σ
 | .pick c a b=>∃t,ev g c=.b t/\v=(bif t then ev g a else ev g b)/\σ'=σ
 | .bin op x y=>OE op (ev g x) (ev g y) v/\σ'=σ
 | .eqb ne x y=>∃a b,ev g x=.b a/\ev g y=.b b/\v=.b (if ne then !(a==b) else a==b)/\σ'=σ
 | .not x=>∃a,ev g x=.b a/\v=.b (!a)/\σ'=σ
 | .neg x=>∃k n,ev g x=.i k n/\v=.i k (k.wrap (0-n))/\σ'=σ
 | .cvi k x=>∃k' n,ev g x=.i k' n/\v=.i k (k.wrap n)/\σ'=σ
 | .cvs x=>∃l,ev g x=.s l/\v=.s l/\σ'=σ
 | .fld x off n ag=>P0 (ev g x)=true/\sub (ev g x) off n ag=some v/\σ'=σ
 | .faddr x off=>(match ev g x with
  | .ref id o=>v=.ref id (o+off)
  | .aref id ix sz o=>v=.aref id ix sz (o+off)
  | .ep e o=>v=.ep e (o+off)
  | _=>False)/\σ'=σ
 | .iaddr x i e sz=>(match ev g i with
  | .i _ n=>0<=n/\(match ev g x with
   | .sl es=>∃el,es[n.toNat]?=some el/\(cells el).length=sz/\v=.ep el 0
   | .arr id=>∃e' es,lk σ id=some (.arr e' sz es)/\n.toNat<es.length/\v=.aref id n.toNat sz 0
   | _=>False)
  | _=>False)/\σ'=σ
 | .idx x i=>∃l k n c,ev g x=.s l/\ev g i=.i k n/\0<=n/\l[n.toNat]?=some c/\v=.i .u8 c.toNat/\σ'=σ
 | .load x n ag=>(match ev g x with
  | .ref id off=>∃en,lk σ id=some en/\ldB en off n ag=some v
  | .aref id ix sz off=>∃e es el,lk σ id=some (.arr e sz es)/\es[ix]?=some el/\sub el off n ag=some v
  | .ep u off=>sub u off n ag=some v
  | _=>False)/\σ'=σ
 | .store a x n=>(ev g x).ok=true/\v=.tup []/\(match ev g a with
  | .ref id off=>∃en en',lk σ id=some en/\Vv en off n (ev g x)=some en'/\σ'=upd σ id en'
  | .aref id ix sz off=>∃e es el el',lk σ id=some (.arr e sz es)/\es[ix]?=some el/\De el off n (ev g x)=some el'/\σ'=upd σ id (.arr e sz (es.set ix el'))
  | _=>False)
 | .box x=>∃dd,d=some dd/\(ev g x).ok=true/\v=.ref (ep,dd) 0/\σ'=((ep,dd),.box (ev g x))::σ
 | .alloc z=>∃dd,d=some dd/\v=.ref (ep,dd) 0/\σ'=((ep,dd),.box z)::σ
 | .build z ps=>(∀p∈ps,(ev g p.2.2).ok=true)/\(∃cs,El z (ps.map fun p=>(p.1,p.2.1,ev g p.2.2))=some cs/\v=.agg cs)/\σ'=σ
 | .msl own e sz xs=>(∀x∈xs.map (ev g),x.ok=true/\(cells x).length=sz)/\(if own then ∃dd,d=some dd/\v=.arr (ep,dd)/\σ'=((ep,dd),.arr e sz (xs.map (ev g)))::σ else v=.sl (xs.map (ev g))/\σ'=σ)
 | .slS x lo hi=>∃l a b,ev g x=.s l/\Fs g 0 lo=some a/\Fs g l.length hi=some b/\a<=b/\b<=l.length/\v=.s ((l.take b).drop a)/\σ'=σ
 | .slL x lo hi sz=>∃es a b,(ev g x=.sl es\/ev g x=.nil/\es=[])/\Fs g 0 lo=some a/\Fs g es.length hi=some b/\a<=b/\b<=es.length/\(∀y∈es,(cells y).length=sz)/\v=.sl ((es.take b).drop a)/\σ'=σ
 | .lenS x=>∃l,ev g x=.s l/\v=.i .i64 l.length/\σ'=σ
 | .lenL x=>∃es,Az σ (ev g x)=some es/\v=.i .i64 es.length/\σ'=σ
 | .app s x e sz=>∃dd xs,d=some dd/\Az σ (ev g x)=some xs/\(∀y∈xs,(cells y).length=sz)/\v=.arr (ep,dd)/\(match ev g s with
  | .nil=>xs.length<=AM/\σ'=((ep,dd),.arr e sz xs)::σ
  | .arr id=>∃es,lk σ id=some (.arr e sz es)/\es.length+xs.length<=AM/\σ'=((ep,dd),.arr e sz (es++xs))::del σ id
  | _=>False)
 | .apps s x e=>∃dd l,d=some dd/\ev g x=.s l/\v=.arr (ep,dd)/\(match ev g s with
  | .nil=>l.length<=AM/\σ'=((ep,dd),.arr e 1 (Ax l))::σ
  | .arr id=>∃es,lk σ id=some (.arr e 1 es)/\es.length+l.length<=AM/\σ'=((ep,dd),.arr e 1 (es++Ax l))::del σ id
  | _=>False)
 | .slT x hi sz=>∃dd id e es q,d=some dd/\ev g x=.arr id/\lk σ id=some (.arr e sz es)/\Fs g es.length (some hi)=some q/\q<=es.length/\v=.arr (ep,dd)/\σ'=((ep,dd),.arr e sz (es.take q))::del σ id
 | .ext x k=>∃vs,ev g x=.tup vs/\vs[k]?=some v/\σ'=σ
 | .call f args=>Am P W0 f (args.map (ev g)) [] v []/\σ'=σ
 | .calls f args=>∃σi σo,Am P W0 f (args.map (ev g)) σi v σo/\(∀id e,lk σi id=some e->lk σ id=some e)/\σ'=over σi σo σ
 | .calln f args=>∃dd σi σo x,d=some dd/\JR P W0 f (args.map (ev g)) σi x σo/\(∀id e,lk σi id=some e->lk σ id=some e)/\v=.arr (ep,dd)/\σ'=((ep,dd),x)::over σi σo σ
 | .callr f args=>(∃σi,Am P W0 f (args.map (ev g)) σi v σi/\(∀id e,lk σi id=some e->lk σ id=some e))/\σ'=σ
 | .callv h args=>∃f first caps,ev g h=.fn f first caps/\Am P W0 f (first++args.map (ev g)++caps) [] v []/\σ'=σ
 | .callvs h args=>∃f first caps σi σo,ev g h=.fn f first caps/\Am P W0 f (first++args.map (ev g)++caps) σi v σo/\(∀id e,lk σi id=some e->lk σ id=some e)/\σ'=over σi σo σ
 | .mkfn f first caps=>v=.fn f (first.map (ev g)) (caps.map (ev g))/\σ'=σ
 | .mksl l c z e sz=>∃dd k k' n m,d=some dd/\ev g l=.i k (Int.ofNat n)/\ev g c=.i k' (Int.ofNat m)/\n<=m/\m<=AM/\v=.arr (ep,dd)/\σ'=((ep,dd),.arr e sz (List.replicate n z))::σ
 | .mx lo x xs=>OO lo (ev g x) (xs.map (ev g))=some v/\σ'=σ
 | .nilck x=>(match ev g x with
  | .ref _ _|.aref _ _ _ _|.ep _ _|.fn _ _ _=>True
  | _=>False)/\v=ev g x/\σ'=σ
 | .pu k xs=>F9 k (xs.map (ev g))=some v/\σ'=σ
 | .rdm k m xs=>(∃id e,ev g m=.arr id/\lk σ id=some e/\wX k e (xs.map (ev g))=some v)/\σ'=σ
 | .wrm k m xs=>∃id e e',ev g m=.arr id/\lk σ id=some e/\ZH k e (xs.map (ev g))=some (e',v)/\σ'=upd σ id e'
 | .mkm k xs=>∃dd e,d=some dd/\Vn k (xs.map (ev g))=some e/\v=tA k (ep,dd)/\σ'=((ep,dd),e)::σ
 | .frz m n=>∃id cs,ev g m=.ref id 0/\lk σ id=some (.box (.agg cs))/\cs.length=n/\(∀c∈cs,cells c=[c])/\v=.sl cs/\σ'=del σ id
 | .mrange m=>∃dd mid es,d=some dd/\ev g m=.arr mid/\lk σ mid=some (.map es)/\v=.arr (ep,dd)/\σ'=((ep,dd),.mit mid es.length [] es.length)::σ
 | .mentry m=>∃id mid since seen i es kv,ev g m=.arr id/\lk σ id=some (.mit mid since seen es.length)/\seen.getLast?=some i/\lk σ mid=some (.map es)/\es[i]?=some kv/\v=.tup [kv.1,kv.2]/\σ'=σ
 | .eqr ne x y=>(QA σ (ev g x) (ev g y)).map (eqN ne)=some v/\σ'=σ
 | .callw _ _=>False
 | .btos x=>∃es,Az σ (ev g x)=some es/\(Ey es).map .s=some v/\σ'=σ
def AE.cs:AE->List X
 | .load x _ _|.lenL x|.iaddr x _ _ _|.store x _ _|.btos x=>[x]
 | .app s x _ _=>[s,x]
 | .apps s _ _=>[s]
 | .slT x _ _=>[x]
 | .rdm _ m _|.wrm _ m _=>[m]
 | .frz m _|.mrange m|.mentry m=>[m]
 | _=>[]
def BU:V->Option Id
 | .ref id _=>some id
 | .aref id _ _ _=>some id
 | .arr id=>some id
 | _=>none
def Zd(i:I)(g:Nat->V):Prop:=∀x∈i.ap,∀y∈i.op.cs,∀id,BU (ev g x)=some id->BU (ev g y)≠some id
def AE.cl:AE->Bool
 | .calls ..|.calln ..|.callvs ..|.mentry ..|.callr ..|.eqr ..=>true
 | _=>false
def Jy(i:I)(g:Nat->V)(σ σ':Ak):Prop:=i.op.cl=true->∀x∈i.ap,∀id,BU (ev g x)=some id->lk σ id≠none->lk σ' id=lk σ id
def EA(P:Program)(W0:World)(ep:Nat)(i:I)(g:Nat->V)(σ:Ak)(v:V)(σ':Ak):Prop:=E P W0 ep i.dst i.op g σ v σ'/\Zd i g/\Jy i g σ σ'
def Cp(P:Program)(W0:World)(ep:Nat)(i:I)(env:AD)(σ:Ak)(K:AD->Ak->Prop):Prop:=
 match i.gd with
 | none=>∃v σ',EA P W0 ep i (get env) σ v σ'/\K (put env i.dst v) σ'
 | some (s,want)=>
  match get env s with
  | .b t=>(t=want->∃v σ',EA P W0 ep i (get env) σ v σ'/\K (put env i.dst v) σ')/\(t≠want->K (put env i.dst (.tup [])) σ)
  | .tup []=>K (put env i.dst (.tup [])) σ
  | _=>False
def Av(P:Program)(W0:World)(ep:Nat):List I->AD->Ak->(AD->Ak->Prop)->Prop
 | [],env,σ,K=>K env σ
 | i::l,env,σ,K=>Cp P W0 ep i env σ fun env' σ'=>Av P W0 ep l env' σ' K
def KE:AE->Bool
 | .store _ _ _=>true
 | .wrm (.mput _) _ _=>true
 | _=>false
def okC:Value->V->Bool
 | .bool x,.b y=>x==y
 | .int k n,.i k' m=>k==k'&&n==m
 | .string s,.s l=>s.data.toList==l&&decide (l.length<=A9)
 | .slice none 0 0,.nil=>true
 | .pointer none,.np=>true
 | .nilFunc,.nf=>true
 | .nilIface,.ni=>true
 | .map none,.nm=>true
 | _,_=>false
def Y9:List Value->List V->Bool
 | [],[]=>true
 | x::xs,y::ys=>okC x y&&Y9 xs ys
 | _,_=>false
def okZ:Value->V->Bool
 | .agg vs,.agg cs=>Y9 vs.toList cs
 | .agg _,_=>false
 | _,.agg _=>false
 | v,c=>okC v c
def BD:Operand->X->Bool
 | .tmp t,.t s=>t==s
 | .const v,.c x=>okC v x
 | .func f,.c (.fn g [] [])=>f==g
 | _,_=>false
def A5:List Operand->List X->Bool
 | [],[]=>true
 | x::xs,y::ys=>BD x y&&A5 xs ys
 | _,_=>false
def H8:Option Operand->Option X->Bool
 | none,none=>true
 | some x,some y=>BD x y
 | _,_=>false
section tables
variable(P:Program)
def BR(t:TypeId):Option Nat:=(P.info? t).map (·.size)
def rA:TypeDesc->Bool
 | .struct _|.array _ _=>true
 | _=>false
def CN(t:TypeId):Option Bool:=(P.underlying t).map rA
def BC(t:TypeId):Option TypeId:=match P.underlying t with|some (.slice e)=>some e|_=>none
def Cj(t:TypeId):Bool:=match P.underlying t with|some .string=>true|_=>false
def KQ(t:TypeId):Bool:=match P.underlying t with|some .bool=>true|_=>false
def R1(t:TypeId):Option IntKind:=match P.underlying t with|some (.int k)=>some k|_=>none
def H6(t:TypeId):Option (Array Field):=match P.underlying t with|some (.struct fs)=>some fs|_=>none
def Ac6(t:TypeId):Option Value:=(P.info? t).bind (·.zero)
def Fn(t:TypeId)(z:V):Bool:=match Ac6 P t with|some zv=>okZ zv z|none=>false
def GR(e sz:Nat):Bool:=
 match P.info? e with
 | some i=>i.size==sz&&decide (0<sz)&&decide (i.bytes<=32768)&&(match i.zero with|some z=>z.cells.size==sz&&z.cells.all (·.oneCell')|none=>false)
 | none=>false
def Jx(t:TypeId)(f:Nat):Option Field:=(H6 P t).bind fun fs=>fs[f]?
def fW(t:TypeId)(f off n:Nat)(ag:Bool):Bool:=
 match Jx P t f with
 | some fd=>fd.offset==off&&BR P fd.type==some n&&CN P fd.type==some ag
 | none=>false
def O5(t:TypeId)(f off:Nat):Bool:=
 match Jx P t f with
 | some fd=>fd.offset==off&&decide (0<(BR P fd.type).getD 0)
 | none=>false
def OH(t:TypeId):Option (List (Nat×Nat)):=(H6 P t).bind fun fs=>fs.toList.mapM fun f=>(P.info? f.type).map fun i=>(f.offset,i.size)
def Ju(t:TypeId):Option (List (Nat×Nat)):=
 match P.underlying t with
 | some (.array k e)=>(P.info? e).map fun i=>(List.range k).map fun j=>(j*i.size,i.size)
 | _=>OH P t
def Gs(pl:List (Nat×Nat)):List (Nat×Operand)->List (Nat×Nat×X)->Bool
 | [],[]=>true
 | (f,x)::r,(off,n,y)::r'=>pl[f]? == some (off,n)&&BD x y&&Gs pl r r'
 | _,_=>false
def Gj:Nat->List (Nat×Operand)->List X->Bool
 | _,[],[]=>true
 | k,(j,x)::r,y::r'=>j==k&&BD x y&&Gj (k+1) r r'
 | _,_,_=>false
def Oq(t:TypeId):Option (TypeId×TypeId):=match P.underlying t with|some (.map k e)=>some (k,e)|_=>none
def LY(kk:Cy)(t:TypeId):Bool:=match kk,P.underlying t with
 | .str,some .string|.int,some (.int _)|.bool,some .bool=>true
 | _,_=>false
def Fa:List Field->List (Nat×Cy)->Bool
 | [],[]=>true
 | f :: fs, (o, kk) :: l => f.offset==o&&f.name != "_" && LY P kk f.type&&BR P f.type==some 1&&Fa fs l
 | _,_=>false
def OJ(kk:Cy)(t:TypeId):Bool:=match kk with
 | .st l=>(match P.underlying t with|some (.struct fs)=>Fa P fs.toList l|_=>false)&&!P.stoodInHeld t&&(l.map Prod.fst==List.range l.length)
 | kk=>LY P kk t
def Aha(k:v8)(t:TypeId)(c:Value):Bool:=
 match k,P.underlying t,c with
 | .p,some (.pointer _),.pointer none=>true
 | .f,some (.func _ _ _),.nilFunc=>true
 | .i,some (.interface _),.nilIface=>true
 | _,_,_=>false
def Gy(k:PuK)(o:Op)(xs:List X):Bool:=
 match k with
 | .isnil ne=>(match o with|.binOp op' t x' (.const (.slice none 0 0)) _=>(op'==(if ne then BinOp.neq else BinOp.eql))&&(BC P t).isSome&&A5 [x'] xs|_=>false)
 | .itos=>(match o with|.convert src dst x'=>(R1 P src).isSome&&Cj P dst&&A5 [x'] xs|_=>false)
 | .btos=>(match o with|.convert src dst x'=>((BC P src).bind (R1 P))==some .u8&&Cj P dst&&A5 [x'] xs|_=>false)
 | .aidx n sz=>(match o with|.indexAddr t x' i'=>(match P.underlying t with|some (.array n' e)=>n'==n&&BR P e==some sz|_=>false)&&A5 [x',i'] xs|_=>false)
 | .bit op=>(match o with|.binOp op' _ x' y' _=>op'==op&&A5 [x',y'] xs|_=>false)
 | .shf op=>(match o with|.binOp op' _ x' y' _=>op'==op&&A5 [x',y'] xs|_=>false)
 | .aget n sz ag=>(match o with|.index t x' i'=>(match P.underlying t with|some (.array n' e)=>n'==n&&BR P e==some sz&&CN P e==some ag|_=>false)&&A5 [x',i'] xs|_=>false)
 | .eqs ne l=>(match o with|.binOp op' t x' y' _=>(op'==(if ne then BinOp.neq else BinOp.eql))&&(match P.underlying t with|some (.struct fs)=>Fa P fs.toList l|_=>false)&&!P.stoodInHeld t&&!P.eqGuardType P.depth t&&A5 [x',y'] xs|_=>false)
 | .nilq k ne=>(match o with|.binOp op' t x' (.const c) _=>(op'==(if ne then BinOp.neq else BinOp.eql))&&Aha P k t c&&A5 [x'] xs|_=>false)
 | .eqp ne=>(match o with|.binOp op' t x' y' _=>(op'==(if ne then BinOp.neq else BinOp.eql))&&(match P.underlying t with|some (.pointer e)=>(match BR P e with|some (_+1)=>true|_=>false)|_=>false)&&A5 [x',y'] xs|_=>false)
 | .stuck=>true
 | .com=>(match o with|.unOp .xor _ x'=>A5 [x'] xs|_=>false)
def qS(k:RdK)(o:Op)(m:X)(xs:List X):Bool:=
 match k with
 | .mget kk z ok=>(match o with|.lookup t m' k' ok'=>(match Oq P t with|some (kt,et)=>OJ P kk kt&&Fn P et z|none=>false)&&ok'==ok&&BD m' m&&A5 [k'] xs|_=>false)
 | .mlen=>(match o with|.call c=>(match c.callee with|.builtin .len=>(Oq P (c.argTypes.getD 0 0)).isSome&&c.argTypes.size==1&&A5 c.args.toList (m::xs)&&xs.isEmpty|_=>false)|_=>false)
def fF(k:rN)(o:Op)(m:X)(xs:List X):Bool:=
 match k with
 | .mput kk=>(match o with
  | .mapUpdate t m' k' v'=>(match Oq P t with|some (kt,et)=>OJ P kk kt|none=>false)&&BD m' m&&A5 [k',v'] xs
  | .insert t m' k' v'=>(match Oq P t with|some (kt,et)=>OJ P kk kt|none=>false)&&BD m' m&&A5 [k',v'] xs
  | _=>false)
 | .next=>(match o with|.next m' true=>BD m' m&&xs.isEmpty|_=>false)
def SX(k:MkK)(o:Op)(xs:List X):Bool:=
 match k with
 | .mkmap=>(match o with|.makeMap t none=>xs.isEmpty|_=>false)
 | .strit=>(match o with|.range t x'=>Cj P t&&A5 [x'] xs|_=>false)
 | .tnew t z=>(match o with|.alloc t'=>t'==t&&Fn P t z&&xs.isEmpty|_=>false)
 | .tbx t=>(match o with|.box t' x'=>t'==t&&A5 [x'] xs|_=>false)
def OQ(e:TypeId):Bool:=
 match P.info? e with
 | some i=>i.size==1&&i.bytes==1&&(match i.zero with|some (.int .u8 0)=>true|_=>false)
 | none=>false
def ME(o:Op)(i:AE):Bool:=
 match i with
 | .mv y=>(match o with|.move x=>BD x y|.assign x=>BD x y|_=>false)
 | .pick c a b=>(match o with|.pick c' a' b'=>BD c' c&&BD a' a&&BD b' b|_=>false)
 | .bin op x y=>(match o with|.binOp op' _ x' y' _=>op'==op&&BD x' x&&BD y' y|_=>false)
 | .eqb ne x y=>(match o with|.binOp op' t x' y' _=>(op'==(if ne then BinOp.neq else BinOp.eql))&&KQ P t&&BD x' x&&BD y' y|_=>false)
 | .not x=>(match o with|.unOp .not _ x'=>BD x' x|_=>false)
 | .neg x=>(match o with|.unOp .neg _ x'=>BD x' x|_=>false)
 | .cvi k x=>(match o with|.convert src dst x'=>(P.underlying src).isSome&&R1 P dst==some k&&BD x' x|_=>false)
 | .cvs x=>(match o with|.convert src dst x'=>Cj P src&&Cj P dst&&BD x' x|_=>false)
 | .fld x off n ag=>(match o with|.field t x' f=>fW P t f off n ag&&BD x' x|_=>false)
 | .faddr x off=>(match o with|.fieldAddr t x' f=>O5 P t f off&&BD x' x|_=>false)
 | .iaddr x i e sz=>(match o with|.indexAddr t x' i'=>BC P t==some e&&BR P e==some sz&&BD x' x&&BD i' i|_=>false)
 | .idx x i=>(match o with|.index t x' i'=>Cj P t&&BD x' x&&BD i' i|_=>false)
 | .load x n ag=>(match o with|.load t x'=>BR P t==some n&&CN P t==some ag&&BD x' x|_=>false)
 | .store a x n=>(match o with|.store t a' x'=>BR P t==some n&&BD a' a&&BD x' x|_=>false)
 | .box x=>(match o with|.box _ x'=>BD x' x|_=>false)
 | .alloc z=>(match o with|.alloc t=>Fn P t z|_=>false)
 | .build z ps=>(match o with|.build t ps'=>Fn P t (.agg z)&&(Ju P t).isSome&&Gs ((Ju P t).getD []) ps'.toList ps|_=>false)
 | .msl _ e sz xs=>(match o with|.buildSlice t len ps=>BC P t==some e&&GR P e sz&&len==xs.length&&decide (len*sz<=16777216)&&Gj 0 ps.toList xs|_=>false)
 | .slS x lo hi=>(match o with|.slice t x' lo' hi' none=>Cj P t&&BD x' x&&H8 lo' lo&&H8 hi' hi|_=>false)
 | .slL x lo hi sz=>(match o with|.slice t x' lo' hi' none=>(BC P t).isSome&&BR P ((BC P t).getD 0)==some sz&&BD x' x&&H8 lo' lo&&H8 hi' hi|_=>false)
 | .lenS x=>(match o with|.call c=>(match c.callee with|.builtin .len=>Cj P (c.argTypes.getD 0 0)&&c.argTypes.size==1&&A5 c.args.toList [x]|_=>false)|_=>false)
 | .lenL x=>(match o with|.call c=>(match c.callee with|.builtin .len=>(BC P (c.argTypes.getD 0 0)).isSome&&c.argTypes.size==1&&A5 c.args.toList [x]|_=>false)|_=>false)
 | .app s x e sz=>(match o with|.call c=>(match c.callee with|.builtin .append=>c.argTypes==#[c.argTypes.getD 0 0,c.argTypes.getD 0 0]&&BC P (c.argTypes.getD 0 0)==some e&&GR P e sz&&A5 c.args.toList [s,x]|_=>false)|_=>false)
 | .apps s x e=>(match o with|.call c=>(match c.callee with|.builtin .append=>c.argTypes==#[c.argTypes.getD 0 0,c.argTypes.getD 1 0]&&BC P (c.argTypes.getD 0 0)==some e&&Cj P (c.argTypes.getD 1 0)&&OQ P e&&A5 c.args.toList [s,x]|_=>false)|_=>false)
 | .slT x hi sz=>(match o with|.slice t x' none (some hi') none=>(BC P t).isSome&&BR P ((BC P t).getD 0)==some sz&&BD x' x&&BD hi' hi|_=>false)
 | .ext x k=>(match o with|.extract x' k'=>k'==k&&BD x' x|_=>false)
 | .call f args=>(match o with|.call c=>(match c.callee with|.value (.func f')=>f'==f&&A5 c.args.toList args|_=>false)|_=>false)
 | .calls f args=>(match o with|.call c=>(match c.callee with|.value (.func f')=>f'==f&&A5 c.args.toList args|_=>false)|_=>false)
 | .calln f args=>(match o with|.call c=>(match c.callee with|.value (.func f')=>f'==f&&A5 c.args.toList args|_=>false)|_=>false)
 | .callr f args=>(match o with|.call c=>(match c.callee with|.value (.func f')=>f'==f&&A5 c.args.toList args|_=>false)|_=>false)
 | .callv h args=>(match o with|.call c=>(match c.callee with|.value h'=>BD h' h&&A5 c.args.toList args|_=>false)|_=>false)
 | .callvs h args=>(match o with|.call c=>(match c.callee with|.value h'=>BD h' h&&A5 c.args.toList args|_=>false)|_=>false)
 | .callw h args=>(match o with|.call c=>(match c.callee with|.value h'=>BD h' h&&A5 c.args.toList args|_=>false)|_=>false)
 | .btos x=>(match o with|.convert src dst x'=>((BC P src).bind (R1 P))==some .u8&&Cj P dst&&BD x' x|_=>false)
 | .mkfn f first caps=>(match o with|.makeFunc (.func f') first' caps'=>f'==f&&A5 first'.toList first&&A5 caps'.toList caps|_=>false)
 | .mksl l c z e sz=>(match o with|.makeSlice t l' c'=>BC P t==some e&&GR P e sz&&Fn P e z&&BD l' l&&BD c' c|_=>false)
 | .mx lo x xs=>(match o with|.call c=>(match c.callee with|.builtin b=>(b==(if lo then Builtin.min else Builtin.max))&&A5 c.args.toList (x::xs)|_=>false)|_=>false)
 | .nilck x=>(match o with|.nilCheck x'=>BD x' x|_=>false)
 | .pu k xs=>Gy P k o xs
 | .rdm k m xs=>qS P k o m xs
 | .wrm k m xs=>fF P k o m xs
 | .mkm k xs=>SX P k o xs
 | .frz m n=>(match o with|.slice t x' none none none=>(match P.underlying t with|some (.array q e)=>q==n&&BR P e==some 1&&decide (n<=1024)|_=>false)&&BD x' m|_=>false)
 | .mrange m=>(match o with|.range t x'=>(Oq P t).isSome&&BD x' m|_=>false)
 | .mentry m=>(match o with|.entry x'=>BD x' m|_=>false)
 | .eqr ne x y=>Gy P (.eqp ne) o [x,y]
end tables
end Go.Ir
end
section
namespace Go.Ir
open Go.RowKit
variable[F1]
theorem Eh{σ:Ak}{id:Id}{e:AC}{x:AC}(h:lk σ id=some x)(k:Id):lk (upd σ id e) k=if id=k then some e else lk σ k:=by
 induction σ with
 | nil=>simp[lk] at h
 | cons p r ih=>
  obtain⟨k0,e0⟩:=p
  by_cases h0:k0=id
  ·subst h0
   simp only[upd,if_true,lk]
   split<;>rfl
  ·simp only[lk,if_neg h0] at h
   have:=ih h
   simp only[upd,if_neg h0,lk]
   grind
theorem C7(σ:Ak)(id k:Id):lk (del σ id) k=if id=k then none else lk σ k:=by
 induction σ with
 | nil=>simp[lk,del]
 | cons p r ih=>
  obtain⟨k0,e0⟩:=p
  by_cases h0:k0=id
  ·subst h0
   simp only[del,if_true,lk,ih]
   split<;>rfl
  ·simp only[del,if_neg h0,lk,ih]
   grind
theorem Nj(σ τ:Ak)(k:Id):lk (σ++τ) k=match lk σ k with|some e=>some e|none=>lk τ k:=by
 induction σ with
 | nil=>simp[lk]
 | cons p r ih=>
  obtain⟨k0,e0⟩:=p
  simp only[Akk,lk]
  grind
theorem MV(q:Id->Bool)(σ:Ak)(k:Id):lk (σ.filter fun p=>q p.1) k=if q k then lk σ k else none:=by
 induction σ with
 | nil=>simp[lk]
 | cons p r ih=>
  obtain⟨k0,e0⟩:=p
  by_cases hq:q k0=true
  ·simp only[List.filter_cons,hq,if_true,lk]
   grind
  ·simp only[List.filter_cons,hq,lk]
   grind
theorem FW(σi σo σ:Ak)(k:Id):lk (over σi σo σ) k=match lk σo k with|some e=>some e|none=>if(lk σi k).isNone then lk σ k else none:=by
 unfold over
 rw[Nj,MV (fun k=>(lk σi k).isNone)]
structure AJ (R:Nat->Prop) (w w':World):Prop where
 os:w'.os=w.os
 tape:w'.tape=w.tape
 output:w'.output=w.output
 size:w.heap.size<=w'.heap.size
 block:∀k,k<w.heap.size->¬R k->w'.heap[k]?=w.heap[k]?
theorem AJ.of_grown{w w':World}{row:Option Nat}(h:w.grownBy w' row):AJ (fun k=>some k=row) w w':=
 ⟨h.os,h.tape,h.output,h.size,fun k hk hr=>h.block k hk hr⟩
theorem AJ.alloc(w:World)(o:Obj):AJ (fun _=>False) w (w.alloc o):=
 ⟨rfl,rfl,rfl,by simp,fun k hk _=>heap_alloc_old w o k hk⟩
theorem AJ.setRow(w:World)(g:Nat)(cs:Array Value):AJ (fun k=>k=g) w (w.setRow g cs):=
 ⟨rfl,rfl,rfl,by simp,fun k _ hk=>setRow_other w g k cs hk⟩
def Ee(μ:Id->Option Value)(id:Id)(v:Value):Id->Option Value:=fun k=>if k=id then some v else μ k
theorem Bv{μ:Id->Option Value}{id:Id}{v:Value}(h:μ id=none):∀k x,μ k=some x->Ee μ id v k=some x:=by
 intro k x hx
 unfold Ee
 grind
theorem Ar(μ:Id->Option Value)(id:Id)(v:Value):Ee μ id v id=some v:=by simp[Ee]
theorem B9(μ:Id->Option Value){id k:Id}(v:Value)(h:k≠id):Ee μ id v k=μ k:=by simp[Ee,h]
section
variable{W0 w w':World}{σ σ1:Ak}{n n':Nat}{μ:Id→Option Value}{H:Addr→Option Value}
theorem Hp.pin_lt(hp:Hp W0 σ n μ H w){ad:Addr}{v:Value}(h:H ad=some v):ad.block<w.heap.size:=AtQ w ad (hp.pins ad v h)
theorem Hp.pin_new(hp:Hp W0 σ n μ H w){ad:Addr}(h:w.heap.size<=ad.block):H ad=none:=by
 cases hh:H ad with
 | none=>rfl
 | some v=>have:=hp.pin_lt hh;omega
theorem Hp.base_turned(hp:Hp W0 σ n μ H w){R:Nat->Prop}(ht:AJ R w w')(hR:∀k,R k->EK μ σ k):Below W0.heap.size W0 w':=by
 refine hp.base.trans ⟨ht.os,ht.tape,ht.output,ht.size,fun k hk=>?_⟩
 exact ht.block k (Alg hk hp.base.size) (fun hr=>by have:=(hp.own_lt (hR k hr)).1;omega)
theorem Hp.pins_turned(hp:Hp W0 σ n μ H w){R:Nat->Prop}(ht:AJ R w w')(hR:∀k,R k->EK μ σ k):∀ad v,H ad=some v->w'.cell? ad=some v:=by
 intro ad v h
 rw[AtX (w:=w) (ht.block ad.block (hp.pin_lt h) (fun hr=>by rw[hp.unp _ (hR _ hr) ad rfl] at h;cases h))]
 exact hp.pins ad v h
theorem Hp.new_(hp:Hp W0 σ n μ H w){R:Nat->Prop}(ht:AJ R w w')(hR:∀k,R k->EK μ σ k)
  (h1:∀id e,lk σ1 id=some e->lk σ id=some e/\∀bk,BI (μ id)=some bk->¬R bk)
  {id:Id}{e:AC}{val:Value}(hid:μ id=none)(hn:id.1<n')(hnn:n<=n')
  (hblk:∀bk,BI (some val)=some bk->R bk\/w.heap.size<=bk)(he:Cu W0.heap.size (Ee μ id val) H w' id e) :
  Hp W0 ((id,e)::σ1) n' (Ee μ id val) H w'/\Fr μ H σ w (Ee μ id val) H ((id,e)::σ1) w':=by
 have hmono:=Bv (v:=val) hid
 have old:∀id' e',lk σ1 id'=some e'->id'≠id/\Ee μ id val id'=μ id':=by
  intro id' e' h'
  have hne:id'≠id:=by
   intro e0
   subst e0
   obtain⟨_,hm⟩:=(hp.ents _ _ (h1 _ _ h').1).named
   rw[hid] at hm;cases hm
  exact⟨hne,B9 _ _ hne⟩
 have own':∀bk,EK (Ee μ id val) ((id,e)::σ1) bk->(BI (some val)=some bk)\/∃id' e',lk σ1 id'=some e'/\BI (μ id')=some bk:=by
  rintro bk ⟨id',e',hl,hb⟩
  simp only[lk] at hl
  split at hl
  ·rename_i h0;subst h0;rw[Ar] at hb;exact .inl hb
  grind
 refine⟨⟨hp.base_turned ht hR,hp.pins_turned ht hR,?_,?_,?_,?_⟩,⟨hmono,fun _ _ h=>h,ht.size,?_,fun _ _ _=>rfl,?_⟩⟩
 ·intro id' e' hl
  simp only[lk] at hl
  split at hl
  ·grind
  ·refine(hp.ents _ _ (h1 _ _ hl).1).keep hmono (fun _ _ h=>h) (fun bk hb=>?_)
   exact ht.block bk ((hp.ents _ _ (h1 _ _ hl).1).block hb).2 ((h1 _ _ hl).2 bk hb)
 ·intro bk ho ad hb
  rcases own' bk ho with h|⟨id',e',hl,hb'⟩
  ·rcases hblk bk h with hr|hr
   ·exact hp.unp bk (hR bk hr) ad hb
   ·exact hp.pin_new (by omega)
  ·exact hp.unp bk ⟨id',e',(h1 _ _ hl).1,hb'⟩ ad hb
 ·intro i1 e1 i2 e2 bk l1 l2 b1 b2
  simp only[lk] at l1 l2
  split at l1<;>split at l2
  ·grind
  ·rename_i ha hb
   exfalso
   subst ha
   rw[Ar] at b1
   rw[(old _ _ l2).2] at b2
   rcases hblk bk b1 with hr|hr
   ·grind
   ·have:=((hp.ents _ _ (h1 _ _ l2).1).block b2).2;omega
  ·rename_i ha hb
   exfalso
   subst hb
   rw[Ar] at b2
   rw[(old _ _ l1).2] at b1
   rcases hblk bk b2 with hr|hr
   ·grind
   ·have:=((hp.ents _ _ (h1 _ _ l1).1).block b1).2;omega
  ·rw[(old _ _ l1).2] at b1
   rw[(old _ _ l2).2] at b2
   exact hp.sep _ _ _ _ bk (h1 _ _ l1).1 (h1 _ _ l2).1 b1 b2
 ·intro k hk
  have:k≠id:=by rintro rfl;omega
  rw[B9 _ _ this]
  exact hp.bd k (by omega)
 ·intro bk hb ho
  exact ht.block bk hb (fun hr=>ho (hR bk hr))
 ·intro bk hb ho
  rcases own' bk ho with h|⟨id',e',hl,hb'⟩
  ·grind
  ·exact⟨id',e',(h1 _ _ hl).1,hb'⟩
theorem Hp.set_(hp:Hp W0 σ n μ H w){id:Id}{e0 e:AC}(hl:lk σ id=some e0)(ht:AJ (fun k=>BI (μ id)=some k) w w')(he:Cu W0.heap.size μ H w' id e) :
  Hp W0 (upd σ id e) n μ H w'/\Fr μ H σ w μ H (upd σ id e) w':=by
 have hR:∀k,BI (μ id)=some k->EK μ σ k:=fun k h=>⟨id,e0,hl,h⟩
 have own':∀bk,EK μ (upd σ id e) bk->EK μ σ bk:=by
  rintro bk ⟨id',e',h',hb⟩
  rw[Eh hl] at h'
  split at h'
  ·grind
  ·exact⟨id',e',h',hb⟩
 have some':∀id' e',lk (upd σ id e) id'=some e'->∃e'',lk σ id'=some e'':=by
  intro id' e' h'
  rw[Eh hl] at h'
  grind
 refine⟨⟨hp.base_turned ht hR,hp.pins_turned ht hR,?_,fun bk ho=>hp.unp bk (own' bk ho),?_,hp.bd⟩,⟨fun _ _ h=>h,fun _ _ h=>h,ht.size,?_,fun _ _ _=>rfl,fun bk _ ho=>own' bk ho⟩⟩
 ·intro id' e' h'
  rw[Eh hl] at h'
  split at h'
  ·grind
  ·rename_i h0
   refine(hp.ents _ _ h').keep (fun _ _ h=>h) (fun _ _ h=>h) (fun bk hb=>?_)
   exact ht.block bk ((hp.ents _ _ h').block hb).2 (fun hr=>h0 (hp.sep _ _ _ _ bk hl h' hr hb))
 ·intro i1 e1 i2 e2 bk l1 l2 b1 b2
  obtain⟨_,l1⟩:=some' _ _ l1
  obtain⟨_,l2⟩:=some' _ _ l2
  exact hp.sep _ _ _ _ bk l1 l2 b1 b2
 ·intro bk hb ho
  exact ht.block bk hb (fun hr=>ho (hR bk hr))
def pinned(H:Addr->Option Value)(w':World)(b:Nat):Addr->Option Value:=fun ad=>if ad.block=b then w'.cell? ad else H ad
theorem Hp.pin_(hp:Hp W0 σ n μ H w)(o:Obj) :
  Hp W0 σ n μ (pinned H (w.alloc o) w.heap.size) (w.alloc o)/\Fr μ H σ w μ (pinned H (w.alloc o) w.heap.size) σ (w.alloc o):=by
 have ht:=AJ.alloc w o
 have hR:∀k,(fun _:Nat=>False) k->EK μ σ k:=fun k h=>h.elim
 have hmono:∀ad v,H ad=some v->pinned H (w.alloc o) w.heap.size ad=some v:=by
  intro ad v h
  unfold pinned
  rw[if_neg (by have:=hp.pin_lt h;omega)]
  exact h
 refine⟨⟨hp.base_turned ht hR,?_,?_,?_,hp.sep,hp.bd⟩,⟨fun _ _ h=>h,hmono,ht.size,fun bk hb _=>ht.block bk hb id,?_,fun _ _ h=>h⟩⟩
 ·intro ad v h
  unfold pinned at h
  split at h
  ·exact h
  ·exact hp.pins_turned ht hR ad v h
 ·intro id' e' h'
  exact(hp.ents _ _ h').keep (fun _ _ h=>h) hmono (fun bk hb=>ht.block bk ((hp.ents _ _ h').block hb).2 (fun h=>h))
 ·intro bk ho ad hb
  unfold pinned
  rw[if_neg (by have:=(hp.own_lt ho).2;omega)]
  exact hp.unp bk ho ad hb
 ·intro ad hb _
  unfold pinned
  rw[if_neg (by omega)]
theorem Hp.part{σi:Ak}(hp:Hp W0 σ n μ H w)(hs:∀id e,lk σi id=some e->lk σ id=some e):Hp W0 σi n μ H w where
 base:=hp.base
 pins:=hp.pins
 ents id e h:=hp.ents id e (hs _ _ h)
 unp bk ho:=hp.unp bk (by obtain⟨id,e,h,hb⟩:=ho;exact⟨id,e,hs _ _ h,hb⟩)
 sep id e id' e' bk h h':=hp.sep id e id' e' bk (hs _ _ h) (hs _ _ h')
 bd:=hp.bd
theorem Hp.back{σi σo:Ak}{μ':Id->Option Value}{H':Addr->Option Value}(hp:Hp W0 σ n μ H w)(hs:∀id e,lk σi id=some e->lk σ id=some e)
  (hp':Hp W0 σo n' μ' H' w')(hf:Fr μ H σi w μ' H' σo w') :
  Hp W0 (over σi σo σ) n' μ' H' w'/\Fr μ H σ w μ' H' (over σi σo σ) w':=by
 have sides:∀id e,lk (over σi σo σ) id=some e->(lk σo id=some e)\/(lk σo id=none/\lk σi id=none/\lk σ id=some e):=by
  intro id e h
  rw[FW] at h
  cases ho:lk σo id with
  | some x=>rw[ho] at h;exact .inl h
  | none=>
   simp_all
 have other:∀id e bk,lk σi id=none->lk σ id=some e->BI (μ id)=some bk->bk<w.heap.size/\¬EK μ σi bk/\w'.heap[bk]?=w.heap[bk]?/\μ' id=μ id:=by
  intro id e bk hi hl hb
  have hlt:=((hp.ents _ _ hl).block hb).2
  have hno:¬EK μ σi bk:=by
   rintro⟨id',e',hl',hb'⟩
   have:=hp.sep _ _ _ _ bk hl (hs _ _ hl') hb hb'
   grind
  refine⟨hlt,hno,hf.keep bk hlt hno,?_⟩
  cases hm:μ id with
  | none=>rw[hm] at hb;simp[BI] at hb
  | some x=>exact hf.mu _ _ hm
 have mudef:∀id e,lk σ id=some e->μ' id=μ id:=by
  intro id e hl
  obtain⟨_,hm⟩:=(hp.ents _ _ hl).named
  rw[hm];exact hf.mu _ _ hm
 have own':∀bk,EK μ' (over σi σo σ) bk->EK μ' σo bk\/∃id e,lk σi id=none/\lk σ id=some e/\BI (μ id)=some bk:=by
  rintro bk ⟨id,e,hl,hb⟩
  rcases sides id e hl with h|⟨_,hi,h⟩
  ·exact .inl ⟨id,e,h,hb⟩
  grind
 refine⟨⟨hp'.base,hp'.pins,?_,?_,?_,hp'.bd⟩,⟨hf.mu,hf.hp,hf.size,?_,?_,?_⟩⟩
 ·intro id e hl
  rcases sides id e hl with h|⟨_,hi,h⟩
  ·exact hp'.ents _ _ h
  ·exact(hp.ents _ _ h).keep hf.mu hf.hp (fun bk hb=>(other id e bk hi h hb).2.2.1)
 ·intro bk ho ad hb
  rcases own' bk ho with h|⟨id,e,hi,hl,hb'⟩
  ·exact hp'.unp bk h ad hb
  ·obtain⟨hlt,hno,_,_⟩:=other id e bk hi hl hb'
   rw[hf.pin ad (by rw[hb];exact hlt) (by rw[hb];exact hno)]
   exact hp.unp bk ⟨id,e,hl,hb'⟩ ad hb
 ·intro i1 e1 i2 e2 bk l1 l2 b1 b2
  rcases sides _ _ l1 with h1|⟨_,g1,h1⟩<;>rcases sides _ _ l2 with h2|⟨_,g2,h2⟩
  ·exact hp'.sep _ _ _ _ bk h1 h2 b1 b2
  ·exfalso
   rw[mudef _ _ h2] at b2
   obtain⟨hlt,hno,_,_⟩:=other _ _ bk g2 h2 b2
   exact hno (hf.dom bk hlt ⟨_,_,h1,b1⟩)
  ·exfalso
   rw[mudef _ _ h1] at b1
   obtain⟨hlt,hno,_,_⟩:=other _ _ bk g1 h1 b1
   exact hno (hf.dom bk hlt ⟨_,_,h2,b2⟩)
  ·rw[mudef _ _ h1] at b1
   rw[mudef _ _ h2] at b2
   exact hp.sep _ _ _ _ bk h1 h2 b1 b2
 ·intro bk hb ho
  refine hf.keep bk hb (fun h=>ho ?_)
  obtain⟨id,e,hl,hb'⟩:=h
  exact⟨id,e,hs _ _ hl,hb'⟩
 ·intro ad hb ho
  refine hf.pin ad hb (fun h=>ho ?_)
  obtain⟨id,e,hl,hb'⟩:=h
  exact⟨id,e,hs _ _ hl,hb'⟩
 ·intro bk hb ho
  rcases own' bk ho with h|⟨id,e,hi,hl,hb'⟩
  ·obtain⟨id,e,hl,hb'⟩:=hf.dom bk hb h
   exact⟨id,e,hs _ _ hl,hb'⟩
  ·exact⟨id,e,hl,hb'⟩
end
end Go.Ir
end
section
namespace Go.Ir
open Go.RowKit
variable[F1]
structure Rl (μ:Id->Option Value) (H:Addr->Option Value) (nt:Nat) (env:AD) (a:Act):Prop where
 size:a.tmps.size=nt
 at_:∀s,Ap μ H (get env s) (a.tmps.getD s undef)
structure FJ (W0:World) (ep:Nat) (d:Option Nat) (σ:Ak) (n:Nat) (μ:Id->Option Value) (H:Addr->Option Value) (w:World) (v:V) (σ':Ak)
  (val:Value) (n':Nat) (μ':Id->Option Value) (H':Addr->Option Value) (w':World):Prop where
 rel:Ap μ' H' v val
 hp:Hp W0 σ' n' μ' H' w'
 le:n<=n'
 fr:Fr μ H σ w μ' H' σ' w'
 fresh:∀id,id.1<n->(∀dd,d=some dd->id≠(ep,dd))->μ id=none->μ' id=none
section
variable{μ μ':Id→Option Value}{H H':Addr→Option Value}
theorem Cb(a:Act)(d:Option Nat)(v:Value):(a.put d v).defers=a.defers:=by cases d<;>rfl
theorem Rl.mono{nt:Nat}{env:AD}{a:Act}(h:Rl μ H nt env a)(hμ:∀id x,μ id=some x->μ' id=some x)(hH:∀ad x,H ad=some x->H' ad=some x):Rl μ' H' nt env a:=
 ⟨h.size,fun s=>(h.at_ s).mono hμ hH⟩
theorem Rl.put{nt:Nat}{env:AD}{a:Act}(h:Rl μ H nt env a){d:Option Nat}(hd:∀dd,d=some dd->dd<nt){v:V}{val:Value}(hv:Ap μ H v val):Rl μ H nt (put env d v) (a.put d val):=by
 cases d with
 | none=>exact h
 | some d=>
  have hd':=hd d rfl
  refine⟨by simp[Act.put,h.size],fun s=>?_⟩
  by_cases hs:d=s
  ·subst hs
   have:d<a.tmps.size:=by rw[h.size];exact hd'
   simpa[Go.Ir.put,get,Act.put,this] using hv
  ·have:=h.at_ s
   simpa[Go.Ir.put,get,Act.put,hs,At1 hs] using this
theorem O1{v:Value}{c:V}(h:okC v c=true):Ap μ H c v:=by
 unfold okC at h
 split at h
 ·have h':=beq_iff_eq.1 h;subst h';exact .b _
 ·simp only[Aav,beq_iff_eq] at h;obtain⟨rfl,rfl⟩:=h;exact .i _ _
 ·simp only[Aav,beq_iff_eq,decide_eq_true_eq] at h
  obtain⟨h1,h2⟩:=h
  subst h1
  exact .s _ h2
 ·exact .nil
 ·exact .np
 ·exact .nf
 ·exact .ni
 ·exact .nm
 ·cases h
theorem QT:∀{vs:List Value} {cs:List V},Y9 vs cs=true->AG μ H cs vs
 | [],[],_=>AG.nil_
 | x::xs,y::ys,h=>by
  simp only[Y9,Aav] at h
  have ih:=QT h.2
  have h1:x.oneCell'=true:=by
   have:=h.1
   cases x<;>first|rfl|simp[okC] at this
  exact⟨VRels.cons (O1 h.1) ih.toVRels,fun v hv=>by
   rcases Ao9.1 hv with rfl|hv
   ·exact h1
   ·exact ih.one v hv⟩
 | [],_::_,h=>by simp[Y9] at h
 | _::_,[],h=>by simp[Y9] at h
theorem IF{v:Value}{c:V}(h:okZ v c=true):Ap μ H c v/\AG μ H (cells c) v.cells.toList:=by
 have one:okC v c=true->(∀vs,v≠.agg vs)->Ap μ H c v/\AG μ H (cells c) v.cells.toList:=by
  intro h hn
  have hr:=O1 (μ:=μ) (H:=H) h
  refine⟨hr,?_⟩
  have hc:c.ok=true:=by cases v<;>cases c<;>simp_all[okC,V.ok]
  exact(hr.toCells hc).1
 unfold okZ at h
 split at h
 ·rename_i vs cs
  have hc:=QT (μ:=μ) (H:=H) h
  refine⟨?_,by simpa[Value.cells,cells] using hc⟩
  have:=Ap.agg cs vs.toList hc.len hc.one hc.at_
  simpa using this
 ·cases h
 ·cases h
 grind
theorem Ao{nt:Nat}{env:AD}{a:Act}(hr:Rl μ H nt env a){x:Operand}{y:X}(h:BD x y=true):Ap μ H (ev (get env) y) (a.eval x):=by
 unfold BD at h
 split at h
 ·have h':=beq_iff_eq.1 h;subst h';exact hr.at_ _
 ·exact O1 h
 ·have h':=beq_iff_eq.1 h;subst h'
  exact .fn _ [] [] [] [] rfl rfl (fun k c v hk=>by simp at hk) (fun k c v hk=>by simp at hk)
 ·cases h
theorem Cz{nt:Nat}{env:AD}{a:Act}(hr:Rl μ H nt env a):∀{xs:List Operand} {ys:List X},A5 xs ys=true->VRels μ H (ys.map (ev (get env))) (xs.map a.eval)
 | [],[],_=>VRels.nil_
 | x::xs,y::ys,h=>by
  simp only[A5,Aav] at h
  exact VRels.cons (Ao hr h.1) (Cz hr h.2)
 | [],_::_,h=>by simp[A5] at h
 | _::_,[],h=>by simp[A5] at h
end
section
variable{P:Program}{o:Oper}{a:Act}{w w':World}{next:Act→World→Prop}{Q:Exit→Act→World→Prop}{val:Value}
theorem Bb(hrun:(execOp a.eval o).run P w=.ok (.value val) w')(h:next (a.put o.dst val) w'):o.wp P a w next Q:=by
 unfold Oper.wp;rw[hrun];exact h
theorem Vc(hrun:(execOp a.eval o).run P w=.ok .skip w')(h:next (a.put o.dst undef) w'):o.wp P a w next Q:=by
 unfold Oper.wp;rw[hrun];exact h
end
section same
variable{W0 w:World}{ep:Nat}{d:Option Nat}{σ:Ak}{n:Nat}{μ:Id→Option Value}{H:Addr→Option Value}{v:V}{val:Value}
theorem FJ.same(hp:Hp W0 σ n μ H w)(h:Ap μ H v val):FJ W0 ep d σ n μ H w v σ val n μ H w:=
 ⟨h,hp,AbG _,Fr.refl _ _ _ _,fun _ _ _ h=>h⟩
end same
section inv
variable{μ:Id→Option Value}{H:Addr→Option Value}{val:Value}
theorem Ap.b_inv{t:Bool}(h:Ap μ H (.b t) val):val=.bool t:=by cases h;rfl
theorem Ap.i_inv{k:IntKind}{n:Int}(h:Ap μ H (.i k n) val):val=.int k n:=by cases h;rfl
theorem Ap.s_inv{l:List UInt8}(h:Ap μ H (.s l) val):val=.string ⟨l.toArray⟩/\l.length<=A9:=by cases h;grind
theorem Ap.nil_inv(h:Ap μ H .nil val):val=.slice none 0 0:=by cases h;rfl
theorem Ap.ref_inv{id:Id}{off:Nat}(h:Ap μ H (.ref id off) val):∃bk,μ id=some (.pointer (some ⟨bk,0,none⟩))/\val=.pointer (some ⟨bk,off,none⟩):=by
 cases h;grind
theorem Ap.arr_inv{id:Id}(h:Ap μ H (.arr id) val):μ id=some val/\val.oneCell'=true:=by cases h;grind
theorem Ap.aref_inv{id:Id}{ix sz off:Nat}(h:Ap μ H (.aref id ix sz off) val):∃bk len cap,μ id=some (.slice (some ⟨bk,0,none⟩) len cap)/\val=.pointer (some ⟨bk,ix*sz+off,none⟩):=by
 cases h;grind
theorem Ap.ep_inv{e:V}{off:Nat}(h:Ap μ H (.ep e off) val):∃(ad:Addr) (vals:List Value),val=.pointer (some (ad.add off))/\AG μ H (cells e) vals/\∀(k:Nat) (v:Value),vals[k]?=some v->H (ad.add k)=some v:=by
 cases h with
 | ep e off ad vals hn h1 hp hv=>exact⟨ad,vals,rfl,⟨⟨hn,hv⟩,h1⟩,hp⟩
theorem Ap.tup_inv{cs:List V}(h:Ap μ H (.tup cs) val):∃vals:List Value,val=.tuple vals.toArray/\VRels μ H cs vals:=by
 cases h with
 | tup cs vals hn hv=>exact⟨vals,rfl,⟨hn,hv⟩⟩
theorem Ap.fn_inv{f:FuncId}{first caps:List V}(h:Ap μ H (.fn f first caps) val):∃fv cv:List Value,val=.func (.func f) fv.toArray cv.toArray/\VRels μ H first fv/\VRels μ H caps cv:=by
 cases h with
 | fn f first caps fv cv h1 h2 h3 h4=>exact⟨fv,cv,rfl,⟨h1,h3⟩,⟨h2,h4⟩⟩
theorem Ap.sl_inv{es:List V}(h:Ap μ H (.sl es) val):∃(A:Option Addr) (cap:Nat),val=.slice A es.length cap/\es.length<=cap/\es.length<=AM/\
  (es=[]\/∃(ad:Addr) (sz:Nat) (vals:List Value),A=some ad/\(∀e∈es,(cells e).length=sz)/\AG μ H (AF es) vals/\∀(k:Nat) (v:Value),vals[k]?=some v->H (ad.add k)=some v):=by
 cases h with
 | slE a cap=>simp_all
 | slC es ad cap sz vals hc hl hsz hn h1 hp hv=>exact⟨some ad,cap,rfl,hc,hl,.inr ⟨ad,sz,vals,rfl,hsz,⟨⟨hn,hv⟩,h1⟩,hp⟩⟩
theorem Ap.isA_inv{v:V}(h:Ap μ H v val)(ha:P0 v=true):∃vals:List Value,val=.agg vals.toArray/\AG μ H (cells v) vals:=by
 cases h<;>simp[P0] at ha
 rename_i cs vals hn h1 hv
 exact⟨vals,rfl,⟨⟨hn,hv⟩,h1⟩⟩
end inv
theorem GU{P:Program}{t:TypeId}{n:Nat}{ag:Bool}(hs:BR P t=some n)(hg:CN P t=some ag)(w:World)(vals:List Value)(off:Nat){μ:Id->Option Value}{H:Addr->Option Value}{u v:V}
  (hc:AG μ H (cells u) vals)(hv:sub u off n ag=some v):∃val,(part t vals.toArray off).run P w=.ok val w/\Ap μ H v val:=by
 obtain⟨i,hi,rfl⟩:∃i,P.info? t=some i/\i.size=n:=by simpa[BR] using hs
 obtain⟨dsc,hu,hag⟩:∃dsc,P.underlying t=some dsc/\rA dsc=ag:=by simpa[CN] using hg
 have hagg:(isAgg t).run P w=.ok ag w:=by
  unfold isAgg
  rw[Afu,run_underlying hu w]
  subst hag
  cases dsc<;>rfl
 unfold sub at hv
 unfold part
 rw[Afu,hagg]
 simp only[AfH]
 cases ag with
 | false=>
  simp only[AcL,if_false] at hv⊢
  obtain⟨x,hx,hr⟩:=hc.get hv
  simp_all
 | true=>
  simp only[if_true] at hv⊢
  simp only[Afu,sizeOf,typeInfo,Afu,run_program,AfH,hi,Ai0]
  refine⟨_,rfl,?_⟩
  split at hv
  ·rename_i h0
   cases hv
   obtain⟨rfl,hl⟩:=h0
   have hlen:vals.length=i.size:=by rw[<-hc.len];exact hl
   have he:vals.toArray.extract 0 (0+i.size)=vals.toArray:=by
    grind
   rw[he]
   exact .agg _ _ hc.len hc.one hc.at_
  ·split at hv
   ·cases hv
    have hc':=(hc.drop off).take i.size
    have he:vals.toArray.extract off (off+i.size)=((vals.drop off).take i.size).toArray:=by
     grind
    rw[he]
    exact .agg _ _ hc'.len hc'.one hc'.at_
   ·cases hv
theorem Ky{P:Program}{t:TypeId}{n:Nat}{ag:Bool}(hs:BR P t=some n)(hg:CN P t=some ag)(w:World)(vals:List Value)(ad:Addr)(off:Nat){μ:Id->Option Value}{H:Addr->Option Value}{u v:V}
  (hc:AG μ H (cells u) vals)(hcell:∀k v,vals[k]?=some v->w.cell? (ad.add k)=some v)(hv:sub u off n ag=some v):∃val,(loadVar t (ad.add off)).run P w=.ok val w/\Ap μ H v val:=by
 have haa:∀i j,(ad.add i).add j=ad.add (i+j):=fun i j=>by
  unfold Addr.add
  by_cases hi:i=0<;>by_cases hj:j=0<;>simp[hi,hj,Atm]
 obtain⟨i,hi,rfl⟩:∃i,P.info? t=some i/\i.size=n:=by simpa[BR] using hs
 obtain⟨dsc,hu,hag⟩:∃dsc,P.underlying t=some dsc/\rA dsc=ag:=by simpa[CN] using hg
 have hagg:(isAgg t).run P w=.ok ag w:=by
  unfold isAgg
  rw[Afu,run_underlying hu w]
  subst hag
  cases dsc<;>rfl
 unfold sub at hv
 unfold loadVar
 rw[Afu,hagg]
 simp only[AfH]
 cases ag with
 | false=>
  simp only[AcL,if_false] at hv⊢
  obtain⟨x,hx,hr⟩:=hc.get hv
  simp_all
 | true=>
  simp only[if_true] at hv⊢
  simp only[Afu,sizeOf,typeInfo,Afu,run_program,AfH,hi,Ai0]
  have go:off+i.size<=vals.length->(loadCells (ad.add off) i.size).run P w=.ok ((vals.drop off).take i.size).toArray w:=by
   intro hl
   have hlen:((vals.drop off).take i.size).length=i.size:=by simp;omega
   have:=run_loadCells_list (P:=P) w (ad.add off) ((vals.drop off).take i.size) (fun j v hj=>by
    grind
)
   rwa [hlen] at this
  split at hv
  ·rename_i h0
   cases hv
   obtain⟨rfl,hl⟩:=h0
   have hlen:vals.length=i.size:=by rw[<-hc.len];exact hl
   rw[go (by omega)]
   refine⟨_,rfl,?_⟩
   have he:(vals.drop 0).take i.size=vals:=by simp[<-hlen]
   rw[he]
   exact .agg _ _ hc.len hc.one hc.at_
  ·split at hv
   ·rename_i hl
    cases hv
    rw[go (by rw[<-hc.len];exact hl)]
    have hc':=(hc.drop off).take i.size
    exact⟨_,rfl,.agg _ _ hc'.len hc'.one hc'.at_⟩
   ·cases hv
end Go.Ir
end
section
namespace Go.Ir
open Go.RowKit
variable[F1]
theorem Hy{P:Program}{t:TypeId}{k:IntKind}(h:R1 P t=some k):P.underlying t=some (.int k):=by
 unfold R1 at h;grind
theorem B5{P:Program}{t e:TypeId}(h:BC P t=some e):P.underlying t=some (.slice e):=by
 unfold BC at h;grind
theorem BH{P:Program}{t:TypeId}(h:Cj P t=true):P.underlying t=some .string:=by
 unfold Cj at h;grind
theorem Ov{P:Program}{t:TypeId}(h:KQ P t=true):P.underlying t=some .bool:=by
 unfold KQ at h;grind
theorem IK{P:Program}{t:TypeId}{fs:Array Field}(h:H6 P t=some fs):P.underlying t=some (.struct fs):=by
 unfold H6 at h;grind
theorem Ku{P:Program}{t:TypeId}{f:Nat}{fd:Field}(h:Jx P t f=some fd):∃fs,P.underlying t=some (.struct fs)/\fs[f]?=some fd:=by
 unfold Jx at h
 cases hf:H6 P t with
 | none=>simp[hf] at h
 | some fs=>exact⟨fs,IK hf,by simpa[hf] using h⟩
theorem T6{P:Program}{t:TypeId}{n:Nat}(h:BR P t=some n):∃i,P.info? t=some i/\i.size=n:=by simpa[BR] using h
theorem BT{P:Program}{t:TypeId}{n:Nat}(h:BR P t=some n)(w:World):(sizeOf t).run P w=.ok n w:=by
 obtain⟨i,hi,rfl⟩:=T6 h
 simp[sizeOf,typeInfo,hi]
theorem GG{P:Program}{e sz:Nat}(h:GR P e sz=true):∃i z,P.info? e=some i/\i.size=sz/\0<sz/\i.bytes<=32768/\i.zero=some z/\z.cells.size=sz/\∀v∈z.cells,v.oneCell'=true:=by
 unfold GR at h
 cases hi:P.info? e with
 | none=>simp[hi] at h
 | some i=>
  simp only[hi,Aav,beq_iff_eq,decide_eq_true_eq] at h
  obtain⟨⟨⟨h1,h2⟩,h3⟩,h4⟩:=h
  cases hz:i.zero with
  | none=>simp[hz] at h4
  | some z=>
   simp only[hz,Aav,beq_iff_eq,At5] at h4
   grind
section ops
variable{P:Program}{W0:World}{ep nt:Nat}{o:Oper}{d:Option Nat}{env:AD}{σ σ':Ak}{n:Nat}{μ:Id→Option Value}{H:Addr→Option Value}{a:Act}{w:World}{v:V}{next:Act→World→Prop}{Q:Exit→Act→World→Prop}
def A8(P:Program)(W0:World)(ep:Nat)(o:Oper)(d:Option Nat)(σ:Ak)(n:Nat)(μ:Id->Option Value)(H:Addr->Option Value)(a:Act)(w:World)(v:V)(σ':Ak):Prop:=
 ∀(next:Act->World->Prop) (Q:Exit->Act->World->Prop),(∀val n' μ' H' w',FJ W0 ep d σ n μ H w v σ' val n' μ' H' w'->next (a.put o.dst val) w')->o.wp P a w next Q
theorem A8.same{val:Value}(hrun:∀w,(execOp a.eval o).run P w=.ok (.value val) w)(hp:Hp W0 σ n μ H w)(h:Ap μ H v val):A8 P W0 ep o d σ n μ H a w v σ:=
 fun next Q K=>Bb (hrun w) (K _ _ _ _ _ (FJ.same hp h))
variable(hr:Rl μ H nt env a)(hp:Hp W0 σ n μ H w)
include hr hp
theorem Akt{x':Operand}{x:X}(ho:o.op=.move x'\/o.op=.assign x')(hx:BD x' x=true)(he:v=ev (get env) x):A8 P W0 ep o d σ n μ H a w v σ:=by
 subst he
 refine A8.same (val:=a.eval x') (fun w=>?_) hp (Ao hr hx)
 rcases ho with ho|ho<;>simp[execOp,ho]
theorem Ae9{c' x' y':Operand}{c x y:X}(ho:o.op=.pick c' x' y')(hc:BD c' c=true)(hx:BD x' x=true)(hy:BD y' y=true){t:Bool}
  (ht:ev (get env) c=.b t)(he:v=(bif t then ev (get env) x else ev (get env) y)):A8 P W0 ep o d σ n μ H a w v σ:=by
 have hc':=Ao hr hc
 rw[ht] at hc'
 have:=hc'.b_inv
 subst he
 refine A8.same (val:=if t then a.eval x' else a.eval y') (fun w=>?_) hp ?_
 ·simp[execOp,ho,this,asBool]
 ·cases t
  ·exact Ao hr hy
  ·exact Ao hr hx
theorem AmI{op:BinOp}{t ty:TypeId}{x' y':Operand}{x y:X}(ho:o.op=.binOp op t x' y' ty)(hx:BD x' x=true)(hy:BD y' y=true)
  (he:OE op (ev (get env) x) (ev (get env) y) v):A8 P W0 ep o d σ n μ H a w v σ:=by
 have hx':=Ao hr hx
 have hy':=Ao hr hy
 generalize ev (get env) x=vx at *
 generalize ev (get env) y=vy at *
 unfold OE at he
 split at he
 ·rename_i k p k' q
  obtain⟨rfl,he⟩:=he
  have ex:=hx'.i_inv
  have ey:=hy'.i_inv
  have go:∀val,(∀w,(binOp op t (.int k p) (.int k q)).run P w=.ok val w)->Ap μ H v val->A8 P W0 ep o d σ n μ H a w v σ:=fun val h1 h2=>
   A8.same (fun w=>by simp[execOp,ho,ex,ey,eqGuard_at_int,h1 w]) hp h2
  unfold PW at he
  split at he<;>first
   | exact he.elim
   | (subst he;exact go (.int _ _) (fun w=>by simp[go_sem]) (.i _ _))
   | (subst he;exact go (.bool _) (fun w=>by simp[go_sem]) (.b _))
   | (obtain⟨hne,he⟩:=he;subst he;exact go (.int _ _) (fun w=>by simp[go_sem,hne]) (.i _ _))
 ·rename_i p q
  obtain⟨ex,lx⟩:=hx'.s_inv
  obtain⟨ey,ly⟩:=hy'.s_inv
  have go:∀val,(∀w,(binOp op t (.string ⟨p.toArray⟩) (.string ⟨q.toArray⟩)).run P w=.ok val w)->Ap μ H v val->A8 P W0 ep o d σ n μ H a w v σ:=fun val h1 h2=>
   A8.same (fun w=>by simp[execOp,ho,ex,ey,eqGuard_at_string,h1 w]) hp h2
  unfold Rj at he
  split at he
  ·obtain⟨hl,rfl⟩:=he
   refine go (.string ⟨(p++q).toArray⟩) (fun w=>?_) (.s _ (by simpa using hl))
   rw[binOp_string_add,run_string_add_sum w _ _ (by simp[ByteArray.size,A9] at hl⊢;omega),ByteArray.mk_append_mk]
  all_goals first
   | exact he.elim
   | (subst he;exact go (.bool _) (fun w=>by simp[go_sem]) (.b _))
 ·exact he.elim
theorem AmD{op:BinOp}{ne:Bool}{t ty:TypeId}{x' y':Operand}{x y:X}(ho:o.op=.binOp op t x' y' ty)(hop:op=if ne then BinOp.neq else BinOp.eql)(ht:KQ P t=true)(hx:BD x' x=true)(hy:BD y' y=true)
  {p q:Bool}(ex:ev (get env) x=.b p)(ey:ev (get env) y=.b q)(he:v=.b (if ne then !(p==q) else p==q)):A8 P W0 ep o d σ n μ H a w v σ:=by
 have hx':=Ao hr hx
 have hy':=Ao hr hy
 rw[ex] at hx'
 rw[ey] at hy'
 have e1:=hx'.b_inv
 have e2:=hy'.b_inv
 have hu:=Ov ht
 subst he
 have heq:∀w,(Op.equal t (.bool p) (.bool q)).run P w=.ok (p==q) w:=by
  intro w
  unfold Op.equal Op.maxDepth Op.equalIn
  rw[Afu,run_underlying hu w]
  rfl
 subst hop
 refine A8.same (val:=.bool (if ne then !(p==q) else p==q)) (fun w=>?_) hp (.b _)
 cases ne
 ·simp[execOp,ho,e1,e2,eqGuard_at_bool,binOp,heq]
 ·simp[execOp,ho,e1,e2,eqGuard_at_bool,binOp,heq]
theorem AkN{t:TypeId}{x':Operand}{x:X}(ho:o.op=.unOp .not t x')(hx:BD x' x=true){p:Bool}(ex:ev (get env) x=.b p)(he:v=.b (!p)):A8 P W0 ep o d σ n μ H a w v σ:=by
 have hx':=Ao hr hx
 rw[ex] at hx'
 have e1:=hx'.b_inv
 subst he
 exact A8.same (val:=.bool (!p)) (fun w=>by simp[execOp,ho,e1,Op.unary]) hp (.b _)
theorem AkK{t:TypeId}{x':Operand}{x:X}(ho:o.op=.unOp .neg t x')(hx:BD x' x=true){k:IntKind}{p:Int}(ex:ev (get env) x=.i k p)(he:v=.i k (k.wrap (0-p))):A8 P W0 ep o d σ n μ H a w v σ:=by
 have hx':=Ao hr hx
 rw[ex] at hx'
 have e1:=hx'.i_inv
 subst he
 exact A8.same (val:=.int k (k.wrap (0-p))) (fun w=>by simp[execOp,ho,e1,Op.unary,Op.intArith]) hp (.i _ _)
theorem Akb{src dst:TypeId}{x':Operand}{x:X}{k:IntKind}(ho:o.op=.convert src dst x')(hs:(P.underlying src).isSome=true)(hd:R1 P dst=some k)(hx:BD x' x=true){k':IntKind}{p:Int}
  (ex:ev (get env) x=.i k' p)(he:v=.i k (k.wrap p)):A8 P W0 ep o d σ n μ H a w v σ:=by
 have hx':=Ao hr hx
 rw[ex] at hx'
 have e1:=hx'.i_inv
 subst he
 obtain⟨ds,hs'⟩:=Ap9.mp hs
 exact A8.same (val:=.int k (k.wrap p)) (fun w=>by simp[execOp,ho,e1,convert,run_underlying hs',run_underlying (Hy hd),Conv.intToInt]) hp (.i _ _)
theorem AiD{src dst:TypeId}{x':Operand}{x:X}(ho:o.op=.convert src dst x')(hs:Cj P src=true)(hd:Cj P dst=true)(hx:BD x' x=true){l:List UInt8}
  (ex:ev (get env) x=.s l)(he:v=.s l):A8 P W0 ep o d σ n μ H a w v σ:=by
 have hx':=Ao hr hx
 rw[ex] at hx'
 obtain⟨e1,l1⟩:=hx'.s_inv
 subst he
 exact A8.same (val:=.string ⟨l.toArray⟩) (fun w=>by simp[execOp,ho,e1,convert,run_underlying (BH hs),run_underlying (BH hd)]) hp (.s _ l1)
theorem Alm{t:TypeId}{x':Operand}{x:X}{f off m:Nat}{ag:Bool}(ho:o.op=.field t x' f)(hf:fW P t f off m ag=true)(hx:BD x' x=true)
  (ha:P0 (ev (get env) x)=true)(he:sub (ev (get env) x) off m ag=some v):A8 P W0 ep o d σ n μ H a w v σ:=by
 obtain⟨vals,e1,hc⟩:=(Ao hr hx).isA_inv ha
 unfold fW at hf
 cases hfd:Jx P t f with
 | none=>simp[hfd] at hf
 | some fd=>
  simp only[hfd,Aav,beq_iff_eq] at hf
  obtain⟨⟨rfl,hsz⟩,hag⟩:=hf
  obtain⟨fs,hu,hfs⟩:=Ku hfd
  obtain⟨val,hrun,hrel⟩:=GU hsz hag w vals fd.offset hc he
  intro next Q K
  refine Bb (w':=w) (val:=val) ?_ (K _ _ _ _ _ (FJ.same hp hrel))
  simp[execOp,ho,e1,Instr.field,run_underlying hu,hfs,asAgg,hrun]
theorem xK{t:TypeId}{x':Operand}{x:X}{f off:Nat}(ho:o.op=.fieldAddr t x' f)(hf:O5 P t f off=true)(hx:BD x' x=true)
  (he:match ev (get env) x with
   | .ref id o=>v=.ref id (o+off)
   | .aref id ix sz o=>v=.aref id ix sz (o+off)
   | .ep e o=>v=.ep e (o+off)
   | _=>False):A8 P W0 ep o d σ n μ H a w v σ:=by
 have hx':=Ao hr hx
 unfold O5 at hf
 cases hfd:Jx P t f with
 | none=>simp[hfd] at hf
 | some fd=>
  simp only[hfd,Aav,beq_iff_eq,decide_eq_true_eq] at hf
  obtain⟨rfl,hsz⟩:=hf
  obtain⟨fs,hu,hfs⟩:=Ku hfd
  obtain⟨m,hm⟩:∃m,BR P fd.type=some m:=by
   cases h:BR P fd.type with
   | none=>simp[h] at hsz
   | some m=>exact⟨m,rfl⟩
  have hm0:m≠0:=by grind
  have go:∀ad:Addr,a.eval x'=.pointer (some ad)->Ap μ H v (.pointer (some (ad.add fd.offset)))->A8 P W0 ep o d σ n μ H a w v σ:=fun ad h1 h2=>
   A8.same (fun w=>by simp[execOp,ho,h1,Instr.fieldAt,run_underlying hu,hfs,Instr.sureAddr,fieldPlace,BT hm,hm0]) hp h2
  have haa:∀(ad:Addr) i j,(ad.add i).add j=ad.add (i+j):=fun ad i j=>by
   unfold Addr.add
   by_cases hi:i=0<;>by_cases hj:j=0<;>simp[hi,hj,Atm]
  generalize ev (get env) x=vx at *
  split at he
  ·subst he
   obtain⟨bk,hm,e1⟩:=hx'.ref_inv
   exact go _ e1 (by rw[AtN];exact .ref _ _ _ hm)
  ·subst he
   obtain⟨bk,len,cap,hm,e1⟩:=hx'.aref_inv
   exact go _ e1 (by rw[AtN,Atm];exact .aref _ _ _ _ _ _ _ hm)
  ·subst he
   obtain⟨ad,vals,e1,hc,hp'⟩:=hx'.ep_inv
   exact go _ e1 (by rw[haa];exact .ep _ _ _ vals hc.len hc.one hp' hc.at_)
  ·exact he.elim
end ops
end Go.Ir
end
section
namespace Go.Ir
open Go.RowKit
variable[F1]
theorem Ch(b n:Nat):(⟨b,0,none⟩:Addr).add n=⟨b,n,none⟩:=by rw[AtN];simp
theorem QN(ad:Addr)(i j:Nat):(ad.add i).add j=ad.add (i+j):=by
 unfold Addr.add
 by_cases hi:i=0<;>by_cases hj:j=0<;>simp[hi,hj,Atm]
theorem LE{μ:Id->Option Value}{H:Addr->Option Value}{es:List V}{vals:List Value}{sz i:Nat}{el:V}(hsz:∀e∈es,(cells e).length=sz)(hc:AG μ H (AF es) vals)(he:es[i]?=some el) :
  AG μ H (cells el) ((vals.drop (i*sz)).take sz):=by
 have:=(hc.drop (i*sz)).take sz
 rwa [UN hsz he] at this
theorem O2{vals:List Value}{m sz k:Nat}{v:Value}(h:((vals.drop m).take sz)[k]?=some v):vals[m+k]?=some v:=by
 grind
section ops
variable{P:Program}{W0:World}{ep nt:Nat}{o:Oper}{d:Option Nat}{env:AD}{σ σ':Ak}{n:Nat}{μ:Id→Option Value}{H:Addr→Option Value}{a:Act}{w:World}{v:V}
variable(hr:Rl μ H nt env a)(hp:Hp W0 σ n μ H w)
theorem CO{id:Id}{e sz:Nat}{es:List V}(hp:Hp W0 σ n μ H w)(hl:lk σ id=some (.arr e sz es)){val:Value}(hm:μ id=some val) :
  ∃vals,val.oneCell'=true/\w.ownsRow W0.heap.size e sz val es.length vals/\es.length<=AM/\(∀x∈es,(cells x).length=sz)/\AG μ H (AF es) vals:=by
 obtain⟨v,vals,hm',h1,h2,h3,h4,h5⟩:=hp.ents _ _ hl
 grind
theorem F3{base e sz m:Nat}{val:Value}{xs:List Value}(h:w.ownsRow base e sz val m xs)(hm:0<m) :
  ∃g cap cur,val=.slice (some ⟨g,0,none⟩) m cap/\base<=g/\w.heap[g]?=some (.cells cur e (0,0))/\cur.size=cap*sz/\m<=cap/\cap<=maxLen/\cur.toList.take (m*sz)=xs:=by
 rcases h.2 with⟨rfl,rfl⟩|⟨g,cap,cur,rfl,h1,h2,h3,h4,h5,h6⟩
 ·omega
 ·exact⟨g,cap,cur,rfl,h1,h2,h5,h3,h4,h6⟩
theorem BN{base e sz m:Nat}{val:Value}{xs:List Value}(h:w.ownsRow base e sz val m xs):∃A cap,val=.slice A m cap:=by
 rcases h.2 with⟨rfl,rfl⟩|⟨g,cap,cur,rfl,h1,h2,h3,h4,h5,h6⟩
 ·exact⟨_,_,rfl⟩
 grind
include hr hp
theorem wZ{t:TypeId}{x' i':Operand}{x i:X}{e sz:Nat}(ho:o.op=.indexAddr t x' i')(ht:BC P t=some e)(hsz:BR P e=some sz)(hx:BD x' x=true)(hi:BD i' i=true)
  (he:match ev (get env) i with
   | .i _ n=>0<=n/\(match ev (get env) x with
    | .sl es=>∃el,es[n.toNat]?=some el/\(cells el).length=sz/\v=.ep el 0
    | .arr id=>∃e' es,lk σ id=some (.arr e' sz es)/\n.toNat<es.length/\v=.aref id n.toNat sz 0
    | _=>False)
   | _=>False):A8 P W0 ep o d σ n μ H a w v σ:=by
 have hx':=Ao hr hx
 have hi':=Ao hr hi
 have hu:=B5 ht
 have hel:P.elem t=e:=by simp[Program.elem,hu]
 generalize ev (get env) i=vi at *
 generalize ev (get env) x=vx at *
 split at he
 ·rename_i k m
  obtain⟨h0,he⟩:=he
  have ei:=hi'.i_inv
  have go:∀(ad:Addr) len cap,a.eval x'=.slice (some ad) len cap->m.toNat<len->Ap μ H v (.pointer (some (ad.add (m.toNat*sz))))->A8 P W0 ep o d σ n μ H a w v σ:=fun ad len cap h1 h2 h3=>
   A8.same (val:=.pointer (some (ad.add (m.toNat*sz)))) (fun w=>by
    have hm:0<=m/\m<(len:Int):=⟨h0,by omega⟩
    simp only[execOp,ho,h1,ei,Afu]
    rw[run_indexAt_slice w t ad len cap k m (by rw[hel];exact hu),if_pos hm,hel,BT hsz]
    rfl) hp h3
  split at he
  ·rename_i es
   obtain⟨el,hel',hc,rfl⟩:=he
   have hlt:m.toNat<es.length:=(AlY.1 hel').1
   obtain⟨A,cap,ex,hcap,hlim,hh⟩:=hx'.sl_inv
   rcases hh with rfl|⟨ad,sz0,vals,rfl,hsz0,hrel,hpin⟩
   ·simp at hlt
   ·have hs0:sz0=sz:=by grind
    subst hs0
    refine go ad _ _ ex hlt ?_
    have hce:=LE hsz0 hrel hel'
    have:=Ap.ep (μ:=μ) (H:=H) el 0 (ad.add (m.toNat*sz0)) _ hce.len hce.one (fun k v hk=>by rw[QN];grind) hce.at_
    rwa [Addr.add_zero'] at this
  ·rename_i id
   obtain⟨e',es,hl,hlt,rfl⟩:=he
   obtain⟨hm,_⟩:=hx'.arr_inv
   obtain⟨vals,_,hown,_⟩:=CO hp hl hm
   obtain⟨g,cap,cur,hv,_⟩:=F3 hown (by omega)
   refine go ⟨g,0,none⟩ _ _ hv hlt ?_
   rw[Ch]
   rw[hv] at hm
   exact .aref id _ sz 0 g _ cap hm
  ·exact he.elim
 ·exact he.elim
theorem AjE{t:TypeId}{x' i':Operand}{x i:X}(ho:o.op=.index t x' i')(ht:Cj P t=true)(hx:BD x' x=true)(hi:BD i' i=true)
  {l:List UInt8}{k:IntKind}{m:Int}{c:UInt8}(ex:ev (get env) x=.s l)(ei:ev (get env) i=.i k m)(h0:0<=m)(hc:l[m.toNat]?=some c)(he:v=.i .u8 c.toNat):A8 P W0 ep o d σ n μ H a w v σ:=by
 have hx':=Ao hr hx
 have hi':=Ao hr hi
 rw[ex] at hx'
 rw[ei] at hi'
 obtain⟨e1,_⟩:=hx'.s_inv
 have e2:=hi'.i_inv
 subst he
 have hlt:m.toNat<l.length:=(AlY.1 hc).1
 refine A8.same (val:=.int .u8 c.toNat) (fun w=>?_) hp (.i _ _)
 simp only[execOp,ho,e1,e2,Afu]
 have hb:(⟨l.toArray⟩:ByteArray)[m.toNat]?=some c:=by
  rw[ByteArray.getElem?_lt' _ _ (by simpa[ByteArray.size] using hlt)]
  have:=(AlY.1 hc).2
  congr 1
 simp[Instr.index,asIntOf,run_underlying (BH ht),h0,hb]
omit hr hp in
theorem yB{B:Nat}{id:Id}{en:AC}{u:V}(h:Cu B μ H w id en)(hen:en=.box u\/∃t,en=.tbox t u) :
  ∃bk vals t,μ id=some (.pointer (some ⟨bk,0,none⟩))/\w.heap[bk]?=some (.cells vals t (0,0))/\AG μ H (cells u) vals.toList:=by
 rcases hen with rfl|⟨t,rfl⟩
 ·obtain⟨bk,vals,t,h1,_,h2,h3⟩:=h;grind
 ·obtain⟨bk,vals,h1,_,h2,h3⟩:=h;grind
theorem Ahn{t:TypeId}{x':Operand}{x:X}{m:Nat}{ag:Bool}(ho:o.op=.load t x')(hsz:BR P t=some m)(hag:CN P t=some ag)(hx:BD x' x=true)
  (he:match ev (get env) x with
   | .ref id off=>∃en,lk σ id=some en/\ldB en off m ag=some v
   | .aref id ix sz off=>∃e es el,lk σ id=some (.arr e sz es)/\es[ix]?=some el/\sub el off m ag=some v
   | .ep u off=>sub u off m ag=some v
   | _=>False):A8 P W0 ep o d σ n μ H a w v σ:=by
 have hx':=Ao hr hx
 have go:∀(ad:Addr) off (u:V) vals,a.eval x'=.pointer (some (ad.add off))->AG μ H (cells u) vals->(∀k v,vals[k]?=some v->w.cell? (ad.add k)=some v)->sub u off m ag=some v->A8 P W0 ep o d σ n μ H a w v σ:=by
  intro ad off u vals h1 h2 h3 h4 next Q K
  obtain⟨val,hrun,hrel⟩:=Ky hsz hag w vals ad off h2 h3 h4
  refine Bb (w':=w) (val:=val) ?_ (K _ _ _ _ _ (FJ.same hp hrel))
  simp[execOp,ho,h1,Instr.loadAt,Instr.sureAddr,hrun]
 generalize ev (get env) x=vx at *
 split at he
 ·rename_i id off
  obtain⟨en,hl,hs⟩:=he
  obtain⟨bk,hm,e1⟩:=hx'.ref_inv
  obtain⟨u,hen,hs⟩:=QL hs
  obtain⟨bk',vals,t',hm',hh,hc⟩:=yB (hp.ents _ _ hl) hen
  rw[hm] at hm'
  cases hm'
  refine go ⟨bk,0,none⟩ off u vals.toList (by rw[Ch];exact e1) hc (fun k v hk=>?_) hs
  rw[Ch,cell_of_row w bk k vals t' (0,0) hh]
  simpa using hk
 ·rename_i id ix sz off
  obtain⟨e,es,el,hl,hel,hs⟩:=he
  obtain⟨bk,len,cap,hm,e1⟩:=hx'.aref_inv
  obtain⟨vals,_,hown,_,hsz',hc⟩:=CO hp hl hm
  have hlt:ix<es.length:=(AlY.1 hel).1
  refine go ⟨bk,ix*sz,none⟩ off el _ (by rw[AtN];exact e1) (LE hsz' hc hel) (fun k v hk=>?_) hs
  have:=hown.cells (g:=bk) rfl _ _ (O2 hk)
  rw[Ch] at this
  rw[AtN]
  exact this
 ·rename_i u off
  obtain⟨ad,vals,e1,hc,hpin⟩:=hx'.ep_inv
  exact go ad off u vals e1 hc (fun k v hk=>hp.pins _ _ (hpin k v hk)) he
 ·exact he.elim
end ops
theorem La{xs:List Operand}{y:X}(h:A5 xs [y]=true):∃x,xs=[x]/\BD x y=true:=by
 match xs,h with
 | [x],h=>exact⟨x,rfl,by simpa[A5] using h⟩
 | [],h=>simp[A5] at h
 | _::_::_,h=>simp[A5] at h
theorem Rd{xs:List Operand}{y z:X}(h:A5 xs [y,z]=true):∃x x',xs=[x,x']/\BD x y=true/\BD x' z=true:=by
 match xs,h with
 | [x,x'],h=>exact⟨x,x',rfl,by simpa[A5] using h⟩
 | [],h=>simp[A5] at h
 | [_],h=>simp[A5] at h
 | _::_::_::_,h=>simp[A5] at h
theorem BK{P:Program}{o:Oper}{c:Call}{b:Builtin}(ho:o.op=.call c)(hc:c.callee=.builtin b)(ρ:Operand->Value)(w:World) :
  ∃cs,(execOp ρ o).run P w=(builtin b c.argTypes o.type cs (c.args.map ρ)).run P w:=by
 refine⟨c.args.map fun|.const _=>true|_=>false,?_⟩
 simp only[execOp,ho,resolve,hc,Afu,Ai0,AfH,invoke]
 rfl
theorem CL{α:Type}{xs:Array α}{l:List α}(h:xs.toList=l):xs=l.toArray:=by
 grind
theorem Oy{α:Type}(xs:Array α)(h:xs.size=1):∃x,xs=#[x]:=by
 obtain⟨l⟩:=xs
 match l,h with
 | [x],_=>exact⟨x,rfl⟩
theorem YR{α:Type}(vs:List α):∀(k off:Nat) (cs:Array α),off+k+vs.length<=cs.size->
  ((vs.zipIdx k).foldl (fun cs (c,j)=>cs.setIfInBounds (off+j) c) cs).toList=cs.toList.take (off+k)++vs++cs.toList.drop (off+k+vs.length):=by
 induction vs with
 | nil=>simp[*]
 | cons v vs ih=>
  intro k off cs h
  simp only[AhU] at h
  simp only[List.zipIdx_cons,At6]
  rw[ih (k+1) off _ (by simp;omega)]
  simp only[AtI,AhU]
  have hk:off+k<cs.toList.length:=by simp;omega
  have h1:(cs.toList.set (off+k) v).take (off+(k+1))=cs.toList.take (off+k)++[v]:=by
   rw[<-Atm,List.take_set,List.take_succ_eq_append_getElem hk]
   have hl:(cs.toList.take (off+k)).length=off+k:=by simp;omega
   simp[*]
  have h2:(cs.toList.set (off+k) v).drop (off+(k+1)+vs.length)=cs.toList.drop (off+k+(vs.length+1)):=by
   rw[List.drop_set_of_lt (by omega)]
   congr 1
   omega
  rw[h1,h2]
  simp
theorem Qn(vs cs:Array Value)(off:Nat)(h:off+vs.size<=cs.size) :
  (vs.zipIdx.foldl (fun cs (c,j)=>cs.setIfInBounds (off+j) c) cs).toList=cs.toList.take off++vs.toList++cs.toList.drop (off+vs.size):=by
 have:=YR vs.toList 0 off cs (by simpa using h)
 rw[<-Array.foldl_toList]
 simpa using this
section ops
variable{P:Program}{W0:World}{ep nt:Nat}{o:Oper}{d:Option Nat}{env:AD}{σ σ':Ak}{n:Nat}{μ:Id→Option Value}{H:Addr→Option Value}{a:Act}{w:World}{v:V}
variable(hr:Rl μ H nt env a)(hp:Hp W0 σ n μ H w)
include hr hp
theorem AdN{x:X}{c:Call}(ho:o.op=.call c)(hcal:c.callee=.builtin .len)(ht:Cj P (c.argTypes.getD 0 0)=true)(h1:c.argTypes.size=1)(hx:A5 c.args.toList [x]=true)
  {l:List UInt8}(ex:ev (get env) x=.s l)(he:v=.i .i64 l.length):A8 P W0 ep o d σ n μ H a w v σ:=by
 obtain⟨x',hargs,hx⟩:=La hx
 have hargs:=CL hargs
 have hx':=Ao hr hx
 rw[ex] at hx'
 obtain⟨e1,_⟩:=hx'.s_inv
 subst he
 refine A8.same (val:=.int .i64 l.length) (fun w=>?_) hp (.i _ _)
 obtain⟨T,hT⟩:=Oy c.argTypes h1
 rw[hT] at ht
 obtain⟨cs,hrun⟩:=BK (P:=P) ho hcal a.eval w
 have hl:(Builtin.len_ #[T] o.type #[.string ⟨l.toArray⟩]).run P w=.ok (goInt (⟨l.toArray⟩:ByteArray).size) w:=run_len_string w T o.type _ (BH ht)
 have hsz:goInt (⟨l.toArray⟩:ByteArray).size=.int .i64 l.length:=by show Value.int .i64 _=_;congr 1
 rw[hrun,hargs,hT]
 simp only[builtin,AtG,Ait,AkV,e1,Afu,hl,hsz,AfH,Ai0]
theorem Yg{x':Operand}{x:X}(hx:BD x' x=true){es:List V}(he:Az σ (ev (get env) x)=some es) :
  ∃A cap,a.eval x'=.slice A es.length cap:=by
 have hx':=Ao hr hx
 generalize ev (get env) x=vx at *
 unfold Az at he
 split at he
 ·cases he
  obtain⟨A,cap,e1,_⟩:=hx'.sl_inv
  grind
 ·cases he
  exact⟨none,0,hx'.nil_inv⟩
 ·rename_i id
  split at he
  ·rename_i hl
   cases he
   obtain⟨hm,_⟩:=hx'.arr_inv
   obtain⟨vals,_,hown,_⟩:=CO hp hl hm
   exact BN hown
  ·cases he
 ·cases he
theorem AfP{x:X}{c:Call}(ho:o.op=.call c)(hcal:c.callee=.builtin .len)(ht:(BC P (c.argTypes.getD 0 0)).isSome=true)(h1:c.argTypes.size=1)(hx:A5 c.args.toList [x]=true)
  {es:List V}(ex:Az σ (ev (get env) x)=some es)(he:v=.i .i64 es.length):A8 P W0 ep o d σ n μ H a w v σ:=by
 obtain⟨x',hargs,hx⟩:=La hx
 have hargs:=CL hargs
 obtain⟨A,cap,e1⟩:=Yg hr hp hx ex
 obtain⟨e,ht⟩:=Ap9.1 ht
 subst he
 refine A8.same (val:=.int .i64 es.length) (fun w=>?_) hp (.i _ _)
 obtain⟨T,hT⟩:=Oy c.argTypes h1
 rw[hT] at ht
 obtain⟨cs,hrun⟩:=BK (P:=P) ho hcal a.eval w
 have hu:P.underlying T=some (.slice e):=B5 ht
 have hl:(Builtin.len_ #[T] o.type #[.slice A es.length cap]).run P w=.ok (goInt es.length) w:=run_len_slice w T o.type _ _ _ (by rw[hu];simp[Program.elem,hu])
 rw[hrun,hargs,hT]
 simp only[builtin,AtG,Ait,AkV,e1,Afu,hl,AfH,Ai0,goInt]
theorem AkA{x':Operand}{x:X}{k:Nat}(ho:o.op=.extract x' k)(hx:BD x' x=true){vs:List V}(ex:ev (get env) x=.tup vs)(he:vs[k]?=some v):A8 P W0 ep o d σ n μ H a w v σ:=by
 have hx':=Ao hr hx
 rw[ex] at hx'
 obtain⟨vals,e1,hvs⟩:=hx'.tup_inv
 obtain⟨val,hval,hrel⟩:=hvs.get he
 refine A8.same (val:=val) (fun w=>?_) hp hrel
 have:vals.toArray[k]?=some val:=by simpa using hval
 simp[execOp,ho,e1,Instr.extract,this]
theorem AeY{f:FuncId}{first' caps':Array Operand}{first caps:List X}(ho:o.op=.makeFunc (.func f) first' caps')(h1:A5 first'.toList first=true)(h2:A5 caps'.toList caps=true)
  (he:v=.fn f (first.map (ev (get env))) (caps.map (ev (get env)))):A8 P W0 ep o d σ n μ H a w v σ:=by
 have r1:=Cz hr h1
 have r2:=Cz hr h2
 subst he
 refine A8.same (val:=.func (.func f) (first'.toList.map a.eval).toArray (caps'.toList.map a.eval).toArray) (fun w=>?_) hp (.fn f _ _ _ _ r1.len r2.len r1.at_ r2.at_)
 have e1:first'.map a.eval=(first'.toList.map a.eval).toArray:=by grind
 have e2:caps'.map a.eval=(caps'.toList.map a.eval).toArray:=by grind
 simp only[execOp,ho,Afu,Instr.makeFunc,Ai0,AfH,e1,e2]
theorem tH{x':Operand}{x:X}(ho:o.op=.nilCheck x')(hx:BD x' x=true)
  (hn:match ev (get env) x with
   | .ref _ _|.aref _ _ _ _|.ep _ _|.fn _ _ _=>True
   | _=>False)(he:v=ev (get env) x):A8 P W0 ep o d σ n μ H a w v σ:=by
 have hx':=Ao hr hx
 subst he
 refine A8.same (val:=a.eval x') (fun w=>?_) hp hx'
 generalize ev (get env) x=vx at *
 split at hn
 ·obtain⟨bk,hm,e1⟩:=hx'.ref_inv
  simp[execOp,ho,e1]
 ·obtain⟨bk,len,cap,hm,e1⟩:=hx'.aref_inv
  simp[execOp,ho,e1]
 ·obtain⟨ad,vals,e1,_⟩:=hx'.ep_inv
  simp[execOp,ho,e1]
 ·obtain⟨fv,cv,e1,_⟩:=hx'.fn_inv
  simp[execOp,ho,e1]
 ·exact hn.elim
theorem Ue{lo':Option Operand}{lo:Option X}(hlo:H8 lo' lo=true){dflt b:Nat}(hb:Fs (get env) dflt lo=some b) :
  (lo=none/\lo'=none/\b=dflt)\/∃x' k,lo'=some x'/\a.eval x'=.int k (b:Int):=by
 cases lo with
 | none=>
  cases lo' with
  | none=>simp[Fs] at hb;grind
  | some x=>simp[H8] at hlo
 | some x=>
  cases lo' with
  | none=>simp[H8] at hlo
  | some x'=>
   simp only[H8] at hlo
   have hx':=Ao hr hlo
   unfold Fs at hb
   simp only at hb
   split at hb
   ·rename_i k m hev
    rw[hev] at hx'
    split at hb
    ·cases hb
     refine .inr ⟨x',k,rfl,?_⟩
     rw[hx'.i_inv]
     grind
    ·cases hb
   ·cases hb
theorem HS{lo' hi':Option Operand}{lo hi:Option X}(hlo:H8 lo' lo=true)(hhi:H8 hi' hi=true)(isSlice:Bool){len cap l h:Nat}(hc:len<=cap)
  (hl:Fs (get env) 0 lo=some l)(hh:Fs (get env) len hi=some h)(hlh:l<=h)(hhc:h<=cap)(w:World) :
  (Instr.sliceBounds isSlice len cap (lo'.map a.eval) (hi'.map a.eval) none).run P w=.ok (l,h,cap) w:=by
 have sb:∀(k:IntKind) (i y:Nat) (code:BoundsCode),i<=y->∀w,(Instr.sliceBound (.int k i) y code).run P w=.ok i w:=by
  intro k i y code hi w
  have:(0:Int)<=i/\(i:Int)<=y:=by omega
  simp[Instr.sliceBound,asIntOf,this]
 rcases Ue hr hp hlo hl with⟨rfl,rfl,rfl⟩|⟨xl,kl,rfl,el⟩<;>rcases Ue hr hp hhi hh with⟨rfl,rfl,rfl⟩|⟨xh,kh,rfl,eh⟩
 ·simp[Instr.sliceBounds]
 ·simp[Instr.sliceBounds,eh,sb kh h cap _ hhc]
 ·simp[Instr.sliceBounds,el,sb kl l _ _ hlh]
 ·simp[Instr.sliceBounds,el,eh,sb kl l h _ hlh,sb kh h cap _ hhc]
theorem Anl{t:TypeId}{x':Operand}{x:X}{lo' hi':Option Operand}{lo hi:Option X}(ho:o.op=.slice t x' lo' hi' none)(ht:Cj P t=true)(hx:BD x' x=true)(hlo:H8 lo' lo=true)(hhi:H8 hi' hi=true)
  {l:List UInt8}{p q:Nat}(ex:ev (get env) x=.s l)(hp1:Fs (get env) 0 lo=some p)(hq1:Fs (get env) l.length hi=some q)(hpq:p<=q)(hq:q<=l.length)(he:v=.s ((l.take q).drop p)):A8 P W0 ep o d σ n μ H a w v σ:=by
 have hx':=Ao hr hx
 rw[ex] at hx'
 obtain⟨e1,lim⟩:=hx'.s_inv
 have hu:=BH ht
 subst he
 refine A8.same (val:=.string ⟨((l.take q).drop p).toArray⟩) (fun w=>?_) hp (.s _ (by simp;omega))
 have hb:=fun w=>HS (P:=P) hr hp hlo hhi false (AbG l.length) hp1 hq1 hpq hq w
 have hsz:(⟨l.toArray⟩:ByteArray).size=l.length:=by simp[ByteArray.size]
 have hex:(⟨l.toArray⟩:ByteArray).extract p q=⟨((l.take q).drop p).toArray⟩:=by
  rw[ByteArray.extract_mk,Aui]
 have hsl:(Instr.slice t (.string ⟨l.toArray⟩) (lo'.map a.eval) (hi'.map a.eval) none).run P w=.ok (.string ⟨((l.take q).drop p).toArray⟩) w:=by
  simp only[Instr.slice,Afu,run_underlying hu,AfH,Ar7,AcL,if_false,Ai0,hsz,hb,hex]
 simp only[execOp,ho,AtY,Afu,Instr.sliceAt,run_underlying hu,e1,AfH,hsl,Ai0]
theorem AmP{t e:TypeId}{x':Operand}{x:X}{lo' hi':Option Operand}{lo hi:Option X}{sz:Nat}(ho:o.op=.slice t x' lo' hi' none)(ht:BC P t=some e)(hse:BR P e=some sz)(hx:BD x' x=true)(hlo:H8 lo' lo=true)(hhi:H8 hi' hi=true)
  {es:List V}{p q:Nat}(ex:ev (get env) x=.sl es\/ev (get env) x=.nil/\es=[])(hp1:Fs (get env) 0 lo=some p)(hq1:Fs (get env) es.length hi=some q)(hpq:p<=q)(hq:q<=es.length)
  (hsz:∀y∈es,(cells y).length=sz)(he:v=.sl ((es.take q).drop p)):A8 P W0 ep o d σ n μ H a w v σ:=by
 have hx':=Ao hr hx
 have hu:=B5 ht
 subst he
 obtain⟨A,cap,e1,hcap,hlim,hh⟩:∃(A:Option Addr) (cap:Nat),a.eval x'=.slice A es.length cap/\es.length<=cap/\es.length<=AM/\
   (es=[]\/∃(ad:Addr) (sz:Nat) (vals:List Value),A=some ad/\(∀e∈es,(cells e).length=sz)/\AG μ H (AF es) vals/\∀(k:Nat) (v:Value),vals[k]?=some v->H (ad.add k)=some v):=by
  rcases ex with ex|⟨ex,rfl⟩
  ·rw[ex] at hx';exact hx'.sl_inv
  ·rw[ex] at hx';exact⟨none,0,hx'.nil_inv,AbG _,Ajt _,.inl rfl⟩
 have hb:=fun w=>HS (P:=P) hr hp hlo hhi true hcap hp1 hq1 hpq (Aiw hq hcap) w
 have hrun:∀w,(execOp a.eval o).run P w=.ok (.value (.slice (if cap=p then A else A.map (·.add (p*sz))) (q-p) (cap-p))) w:=by
  intro w
  have hsl:(Instr.slice t (.slice A es.length cap) (lo'.map a.eval) (hi'.map a.eval) none).run P w=.ok (.slice (if cap=p then A else A.map (·.add (p*sz))) (q-p) (cap-p)) w:=by
   simp only[Instr.slice,Afu,run_underlying hu,AfH,Ai0,hb,BT hse]
  simp only[execOp,ho,AtY,Afu,Instr.sliceAt,run_underlying hu,e1,AfH,hsl,Ai0]
 refine A8.same hrun hp ?_
 have hlen:((es.take q).drop p).length=q-p:=by simp;omega
 rcases AtO (q-p) with h0|h0
 ·have:(es.take q).drop p=[]:=Apu (by omega)
  rw[this,h0]
  exact .slE _ _
 ·rcases hh with rfl|⟨ad,sz0,vals,rfl,hsz0,hrel,hpin⟩
  ·simp at hq;omega
  ·have hs0:sz0=sz:=by
    have:0<es.length:=by omega
    rw[<-hsz0 es[0] (by simp),hsz es[0] (by simp)]
   subst hs0
   rw[if_neg (by omega)]
   have hf:AF ((es.take q).drop p)=((AF es).take (q*sz0)).drop (p*sz0):=by
    rw[JJ (fun e he=>hsz0 e (Ar0 he)),JO hsz0]
   have hrel':=(hrel.take (q*sz0)).drop (p*sz0)
   rw[<-hf] at hrel'
   have:=Ap.slC (μ:=μ) (H:=H) ((es.take q).drop p) (ad.add (p*sz0)) (cap-p) sz0 _ (by omega) (by omega) (fun e he=>hsz0 e (Ar0 (Att he))) hrel'.len hrel'.one (fun k v hk=>by
    rw[QN]
    refine hpin _ _ ?_
    rw[At4,AsW] at hk
    split at hk
    ·exact hk
    ·cases hk) hrel'.at_
   grind
theorem Ao8{lo:Bool}{x:X}{xs:List X}{c:Call}{b:Builtin}(ho:o.op=.call c)(hcal:c.callee=.builtin b)(hb:b=if lo then Builtin.min else Builtin.max)(hx:A5 c.args.toList (x::xs)=true)
  (he:OO lo (ev (get env) x) (xs.map (ev (get env)))=some v):A8 P W0 ep o d σ n μ H a w v σ:=by
 have hrel:=Cz hr hx
 obtain⟨x0,r0,hargs,hx0,hr0⟩:∃x0 r0,c.args.toList=x0::r0/\BD x0 x=true/\A5 r0 xs=true:=by
  cases h:c.args.toList with
  | nil=>rw[h] at hx;simp[A5] at hx
  | cons x0 r0=>rw[h] at hx;simp only[A5,Aav] at hx;grind
 have hmap:(c.args.map a.eval).toList=a.eval x0::r0.map a.eval:=by simp[hargs]
 have h0:=Ao hr hx0
 have hrs:=Cz hr hr0
 have go:∀(r:List V) (rv:List Value) (vx:V) (valx:Value),Ap μ H vx valx->VRels μ H r rv->OO lo vx r=some v->∃val,Ap μ H v val/\∀w,(rv.foldlM (if lo then Builtin.min2 else Builtin.max2) valx).run P w=.ok val w:=by
  intro r
  induction r with
  | nil=>
   intro rv vx valx hv hrs he
   have:rv=[]:=Apu (by rw[<-hrs.len];rfl)
   subst this
   simp only[OO] at he
   simp_all
  | cons y r ih=>
   intro rv vx valx hv hrs he
   cases rv with
   | nil=>have:=hrs.len;simp at this
   | cons yv rv=>
    have hy:=hrs.at_ 0 y yv rfl rfl
    have hrs':VRels μ H r rv:=⟨by have:=hrs.len;simpa using this,fun k c v h1 h2=>hrs.at_ (k+1) c v (by simpa using h1) (by simpa using h2)⟩
    unfold OO at he
    split at he
    ·grind
    ·rename_i k p k' q r' heq
     cases heq
     split at he
     ·rename_i hk
      subst hk
      obtain⟨val,h1,h2⟩:=ih rv _ (.int k (if lo then min p q else max p q)) (.i _ _) hrs' he
      refine⟨val,h1,fun w=>?_⟩
      rw[hv.i_inv,hy.i_inv]
      simp only[List.foldlM_cons,Afu]
      have:((if lo then Builtin.min2 else Builtin.max2) (.int k p) (.int k q)).run P w=.ok (.int k (if lo then min p q else max p q)) w:=by
       cases lo
       ·simp only[AcL,if_false,Builtin.max2,Ai0]
        grind
       ·simp only[if_true,Builtin.min2,Ai0]
        grind
      simp[*]
     ·cases he
    ·cases he
 obtain⟨val,h1,h2⟩:=go _ _ _ _ h0 hrs he
 refine A8.same (val:=val) (fun w=>?_) hp h1
 obtain⟨cs,hrun⟩:=BK (P:=P) ho hcal a.eval w
 rw[hrun,hb]
 cases lo
 ·simp only[AcL,if_false] at h2⊢
  simp only[builtin,Builtin.max_,hmap,Afu,h2,AfH,Ai0]
 ·simp only[if_true] at h2⊢
  simp only[builtin,Builtin.min_,hmap,Afu,h2,AfH,Ai0]
end ops
end Go.Ir
end
section
namespace Go.Ir
open Go.RowKit
variable[F1]
theorem DN{P:Program}{t:TypeId}{z:V}(h:Fn P t z=true):∃i zv,P.info? t=some i/\i.zero=some zv/\okZ zv z=true:=by
 unfold Fn Ac6 at h
 cases hi:P.info? t with
 | none=>simp[hi] at h
 | some i=>
  grind
theorem AJ.to{R R':Nat->Prop}{w w':World}(h:AJ R w w')(hr:∀k,R k->R' k):AJ R' w w':=
 ⟨h.os,h.tape,h.output,h.size,fun k hk hn=>h.block k hk (fun hrk=>hn (hr k hrk))⟩
theorem FY{u u' x:V}{off n:Nat}(h:De u off n x=some u'):(cells x).length=n/\off+n<=(cells u).length/\cells u'=(cells u).take off++cells x++(cells u).drop (off+n):=by
 unfold De at h
 split at h
 ·rename_i hn
  split at h
  ·simp_all
  ·split at h
   ·rename_i h1
    cases h
    exact⟨hn,h1,rfl⟩
   ·cases h
 ·cases h
theorem aK{es:List V}{sz:Nat}(h:∀e∈es,(cells e).length=sz){i:Nat}(hi:i<es.length){x:V}(hx:(cells x).length=sz) :
  AF (es.set i x)=(AF es).take (i*sz)++cells x++(AF es).drop (i*sz+sz):=by
 rw[Atx,if_pos hi,Fh,JO h]
 have:i*sz+sz=(i+1)*sz:=by grind
 rw[this,<-JJ h]
 simp[AF]
theorem Da{μ:Id->Option Value}{H:Addr->Option Value}{cs ds:List V}{vs us:List Value}(h:AG μ H cs vs)(h':AG μ H ds us)(off k:Nat) :
  AG μ H (cs.take off++ds++cs.drop k) (vs.take off++us++vs.drop k):=((h.take off).append h').append (h.drop k)
section ops
variable{P:Program}{W0:World}{ep nt:Nat}{o:Oper}{d:Option Nat}{env:AD}{σ σ':Ak}{n:Nat}{μ:Id→Option Value}{H:Addr→Option Value}{a:Act}{w:World}{v:V}
variable(hr:Rl μ H nt env a)(hp:Hp W0 σ n μ H w)
theorem A8.made(hp:Hp W0 σ n μ H w){dd:Nat}(hd:d=some dd)(hn:ep<n)(hf:∀dd,d=some dd->μ (ep,dd)=none){obj:Obj}{val:Value}{e:AC}
  (hrun:(execOp a.eval o).run P w=.ok (.value val) (w.alloc obj))(hb:∀bk,BI (some val)=some bk->bk=w.heap.size)
  (he:Cu W0.heap.size (Ee μ (ep,dd) val) H (w.alloc obj) (ep,dd) e)(hv:Ap (Ee μ (ep,dd) val) H v val):A8 P W0 ep o d σ n μ H a w v (((ep,dd),e)::σ):=by
 intro next Q K
 have hnew:=hp.new_ (n':=n) (AJ.alloc w obj) (fun _ h=>h.elim) (σ1:=σ) (fun id e h=>⟨h,fun _ _ h=>h⟩) (hf dd hd) hn (AbG _) (fun bk hb'=>.inr (by grind)) he
 refine Bb hrun (K _ _ _ _ _ ⟨hv,hnew.1,AbG _,hnew.2,fun id hid hne hnone=>?_⟩)
 rw[B9 _ _ (hne dd hd)]
 exact hnone
theorem QB{w:World}{μ':Id->Option Value}{u:V}{vals:Array Value}{t:TypeId}{id:Id}(hb:W0.heap.size<=w.heap.size)(hm:μ' id=some (.pointer (some ⟨w.heap.size,0,none⟩)))(hc:AG μ' H (cells u) vals.toList) :
  Cu W0.heap.size μ' H (w.alloc (.cells vals t)) id (.box u):=
 ⟨w.heap.size,vals,t,hm,hb,heap_alloc_new w _,hc⟩
theorem N9{w:World}{μ':Id->Option Value}{u:V}{vals:Array Value}{t:TypeId}{id:Id}(hb:W0.heap.size<=w.heap.size)(hm:μ' id=some (.pointer (some ⟨w.heap.size,0,none⟩)))(hc:AG μ' H (cells u) vals.toList) :
  Cu W0.heap.size μ' H (w.alloc (.cells vals t)) id (.tbox t u):=
 ⟨w.heap.size,vals,hm,hb,heap_alloc_new w _,hc⟩
include hr hp
theorem AiM{t:TypeId}{x':Operand}{x:X}(ho:o.op=.box t x')(hx:BD x' x=true)(hn:ep<n)(hf:∀dd,d=some dd->μ (ep,dd)=none){dd:Nat}(hd:d=some dd)(hok:(ev (get env) x).ok=true)
  (he:v=.ref (ep,dd) 0):A8 P W0 ep o d σ n μ H a w v (((ep,dd),.box (ev (get env) x))::σ):=by
 have hx':=Ao hr hx
 have hmono:=Bv (v:=.pointer (some ⟨w.heap.size,0,none⟩)) (hf dd hd)
 subst he
 refine A8.made hp hd hn hf (obj:=.cells (a.eval x').cells t) (val:=.pointer (some ⟨w.heap.size,0,none⟩)) ?_ (fun bk h=>by simpa[BI] using h.symm)
  (QB hp.base.size (Ar _ _ _) ((hx'.toCells hok).1.mono hmono (fun _ _ h=>h))) (.ref _ 0 _ (Ar _ _ _))
 simp[execOp,ho,Instr.box,newVar,newRow]
theorem wK{t:TypeId}{z:V}(ho:o.op=.alloc t)(hz:Fn P t z=true)(hn:ep<n)(hf:∀dd,d=some dd->μ (ep,dd)=none){dd:Nat}(hd:d=some dd)
  (he:v=.ref (ep,dd) 0):A8 P W0 ep o d σ n μ H a w v (((ep,dd),.box z)::σ):=by
 obtain⟨i,zv,hi,hzv,hok⟩:=DN hz
 subst he
 refine A8.made hp hd hn hf (obj:=.cells zv.cells t) (val:=.pointer (some ⟨w.heap.size,0,none⟩)) ?_ (fun bk h=>by simpa[BI] using h.symm)
  (QB hp.base.size (Ar _ _ _) (IF hok).2) (.ref _ 0 _ (Ar _ _ _))
 simp[execOp,ho,Instr.alloc,zeroValue,typeInfo,hi,hzv,newVar,newRow]
theorem J2{t:TypeId}{m:Nat}{x' a':Operand}{x:X}(ho:o.op=.store t a' x')(hsz:BR P t=some m)(hx:BD x' x=true)(hok:(ev (get env) x).ok=true)(hlen:(cells (ev (get env) x)).length=m)
  {g off:Nat}{cur:Array Value}{ct:TypeId}(ha:a.eval a'=.pointer (some ⟨g,off,none⟩))(hg:w.heap[g]?=some (.cells cur ct (0,0)))(hfit:off+m<=cur.size) :
  ∃vals,AG μ H (cells (ev (get env) x)) vals/\vals.length=m/\(execOp a.eval o).run P w=.ok .skip (w.setRow g (cur.toList.take off++vals++cur.toList.drop (off+m)).toArray):=by
 have hx':=Ao hr hx
 obtain⟨hc,_⟩:=hx'.toCells hok
 have hl:(a.eval x').cells.toList.length=m:=by rw[<-hc.len];exact hlen
 have hst:=run_storeCells_at P g off ct (a.eval x').cells.toList 0 cur w hg (by omega) hc.one
 simp only[Atj,hl] at hst
 refine⟨_,hc,hl,?_⟩
 have hsize:(a.eval x').cells.size=m:=by simpa using hl
 simp only[execOp,ho,Afu,Instr.storeAt,ha,Instr.sureAddr,Ai0,AfH,storeVar,BT hsz,hsize,ne_eq,not_true_eq_false,if_false,hst]
theorem uD{t:TypeId}{m:Nat}{x' a':Operand}{x ax:X}(ho:o.op=.store t a' x')(hsz:BR P t=some m)(hx:BD x' x=true)(ha:BD a' ax=true)(hd:o.dst=d)(hdn:d=none)(hok:(ev (get env) x).ok=true)(hv:v=.tup [])
  (he:match ev (get env) ax with
   | .ref id off=>∃en en',lk σ id=some en/\Vv en off m (ev (get env) x)=some en'/\σ'=upd σ id en'
   | .aref id ix sz off=>∃e es el el',lk σ id=some (.arr e sz es)/\es[ix]?=some el/\De el off m (ev (get env) x)=some el'/\σ'=upd σ id (.arr e sz (es.set ix el'))
   | _=>False):A8 P W0 ep o d σ n μ H a w v σ':=by
 have ha':=Ao hr ha
 subst hv
 have hund:Ap μ H (.tup []) undef:=.tup [] [] rfl (fun k c v hk=>by simp at hk)
 have fin:∀{w'},(execOp a.eval o).run P w=.ok .skip w'->Hp W0 σ' n μ H w'/\Fr μ H σ w μ H σ' w'->A8 P W0 ep o d σ n μ H a w (.tup []) σ':=fun hrun hh next Q K=>
  Vc hrun (K _ _ _ _ _ ⟨hund,hh.1,AbG _,hh.2,fun _ _ _ h=>h⟩)
 generalize hax:ev (get env) ax=vx at *
 split at he
 ·rename_i id off
  obtain⟨en,en',hl,hs,rfl⟩:=he
  obtain⟨bk,hm,e1⟩:=ha'.ref_inv
  obtain⟨u,u',hs,hen⟩:=Rf hs
  obtain⟨hlx,hfit,hcells⟩:=FY hs
  have hent:=hp.ents _ _ hl
  rcases hen with⟨rfl,rfl⟩|⟨ct,rfl,rfl⟩
  ·obtain⟨bk',vals,ct,hm',hB,hg,hc⟩:=hent
   rw[hm] at hm'
   cases hm'
   have hsize:(cells u).length=vals.size:=by rw[hc.len];simp
   obtain⟨nv,hcx,hnl,hrun⟩:=J2 hr hp ho hsz hx hok hlx e1 hg (by omega)
   refine fin hrun (hp.set_ hl ((AJ.setRow w bk _).to (fun k hk=>by subst hk;simp[hm,BI])) ?_)
   refine⟨bk,_,ct,hm,hB,setRow_heap w bk vals _ ct (0,0) hg,?_⟩
   rw[hcells]
   exact Da hc hcx off (off+m)
  ·obtain⟨bk',vals,hm',hB,hg,hc⟩:=hent
   rw[hm] at hm'
   cases hm'
   have hsize:(cells u).length=vals.size:=by rw[hc.len];simp
   obtain⟨nv,hcx,hnl,hrun⟩:=J2 hr hp ho hsz hx hok hlx e1 hg (by omega)
   refine fin hrun (hp.set_ hl ((AJ.setRow w bk _).to (fun k hk=>by subst hk;simp[hm,BI])) ?_)
   refine⟨bk,_,hm,hB,setRow_heap w bk vals _ ct (0,0) hg,?_⟩
   rw[hcells]
   exact Da hc hcx off (off+m)
 ·rename_i id ix sz off
  obtain⟨e,es,el,el',hl,hel,hs,rfl⟩:=he
  obtain⟨bk,len,cap,hm,e1⟩:=ha'.aref_inv
  obtain⟨vals,h1,hown,hlim,hsz',hc⟩:=CO hp hl hm
  have hlt:ix<es.length:=(AlY.1 hel).1
  obtain⟨g,cap',cur,hval,hB,hg,hcs,hcap,hmax,htake⟩:=F3 hown (by omega)
  cases hval
  obtain⟨hlx,hfit,hcells⟩:=FY hs
  have hel0:(cells el).length=sz:=hsz' el (Ai1 hel)
  have hall:(AF es).length=es.length*sz:=EU hsz'
  have hvl:vals.length=es.length*sz:=by rw[<-hc.len];exact hall
  have hrow:ix*sz+sz<=es.length*sz:=by
   have:=AsY sz (Nat.succ_le_of_lt hlt)
   rwa [Nat.succ_mul] at this
  have hcur:es.length*sz<=cur.size:=by grind
  obtain⟨nv,hcx,hnl,hrun⟩:=J2 hr hp ho hsz hx hok hlx e1 hg (by omega)
  have hlel':(cells el').length=sz:=by rw[hcells];simp;omega
  refine fin hrun (hp.set_ hl ((AJ.setRow w bk _).to (fun k hk=>by subst hk;simp[hm,BI])) ?_)
  have hflat:AF (es.set ix el')=(AF es).take (ix*sz+off)++cells (ev (get env) x)++(AF es).drop (ix*sz+off+m):=by
   rw[aK hsz' hlt hlel',hcells,<-UN hsz' hel]
   have t1:(List.take off (List.take sz (List.drop (ix*sz) (AF es))))=List.drop (ix*sz) (List.take (ix*sz+off) (AF es)):=by
    rw[Auj,Aui,show min off sz=off by omega,show ix*sz+off-ix*sz=off by omega]
   have t2:(List.drop (off+m) (List.take sz (List.drop (ix*sz) (AF es))))++List.drop (ix*sz+sz) (AF es)=List.drop (ix*sz+off+m) (AF es):=by
    rw[Aui,AtC]
    have e2:List.drop (ix*sz+sz) (AF es)=List.drop (sz-(off+m)) (List.drop (ix*sz+(off+m)) (AF es)):=by
     rw[AtC];congr 1;omega
    rw[e2,AtD,Atm]
   have t3:List.take (ix*sz) (AF es)++List.drop (ix*sz) (List.take (ix*sz+off) (AF es))=List.take (ix*sz+off) (AF es):=by
    have:List.take (ix*sz) (AF es)=List.take (ix*sz) (List.take (ix*sz+off) (AF es)):=by
     grind
    simp_all
   grind
  have hnew:=Da hc hcx (ix*sz+off) (ix*sz+off+m)
  rw[<-hflat] at hnew
  have hkeep:(cur.toList.take (ix*sz+off)++nv++cur.toList.drop (ix*sz+off+m)).take (es.length*sz)=vals.take (ix*sz+off)++nv++vals.drop (ix*sz+off+m):=by
   have h3:(cur.toList.take (ix*sz+off)).length=ix*sz+off:=by simp;omega
   rw[<-htake,List.take_append,List.take_append]
   rw[Auj,Auj,h3]
   have h4:min (ix*sz+off) (es.length*sz)=ix*sz+off:=by omega
   have h5:min (es.length*sz) (ix*sz+off)=ix*sz+off:=by omega
   have h6:nv.take (es.length*sz-(ix*sz+off))=nv:=AtA (by omega)
   rw[h4,h5,h6]
   congr 1
   rw[Aui]
   simp_all
  refine⟨_,_,hm,h1,⟨?_,.inr ⟨bk,cap,_,by rw[List.length_set],hB,setRow_heap w bk cur _ e (0,0) hg,by grind,hmax,?_,?_⟩⟩,by grind,?_,hnew⟩
  ·rw[List.length_set,<-hnew.len,hflat]
   simp only[Aik,AtS,List.length_drop,hall,hlx]
   omega
  ·simp only[List.size_toArray,Aik,AtS,List.length_drop,As3,hnl]
   omega
  ·grind
  grind
 ·exact he.elim
end ops
end Go.Ir
end
section
namespace Go.Ir
open Go.RowKit
variable[F1]
theorem NL{P:Program}{t:TypeId}{pl:List (Nat×Nat)}(h:OH P t=some pl):∃fs,P.underlying t=some (.struct fs)/\fs.toList.mapM (fun f=>(P.info? f.type).map fun i=>(f.offset,i.size))=some pl:=by
 unfold OH at h
 cases hf:H6 P t with
 | none=>simp[hf] at h
 | some fs=>exact⟨fs,IK hf,by simpa[hf] using h⟩
theorem Ix{μ:Id->Option Value}{H:Addr->Option Value}{nt:Nat}{env:AD}{a:Act}(hr:Rl μ H nt env a)(pl:List (Nat×Nat)){place:Nat->Option (Nat×Nat)}(hplace:∀f q,pl[f]?=some q->place f=some q) :
  ∀(ps':List (Nat×Operand)) (ps:List (Nat×Nat×X)) (z cs:List V) (zv:Array Value),Gs pl ps' ps=true->(∀p∈ps,(ev (get env) p.2.2).ok=true)->AG μ H z zv.toList->
   El z (ps.map fun p=>(p.1,p.2.1,ev (get env) p.2.2))=some cs->∃cv,Instr.fill place zv (ps'.map fun(i,x)=>(i,a.eval x))=some cv/\AG μ H cs cv.toList
 | [],[],z,cs,zv,_,_,hz,h=>by
  simp only[AkV,El] at h
  cases h
  exact⟨zv,rfl,hz⟩
 | (f,x')::r',(off,n,x)::r,z,cs,zv,hok,hall,hz,h=>by
  simp only[Gs,Aav,beq_iff_eq] at hok
  obtain⟨⟨hpl,hx⟩,hrest⟩:=hok
  simp only[Ait,El] at h
  split at h
  ·rename_i h1
   obtain⟨hlen,hfit⟩:=h1
   have hv:=Ao hr hx
   obtain⟨hc,_⟩:=hv.toCells (hall (off,n,x) (by simp))
   have hsz:(a.eval x').cells.size=n:=by rw[<-As3,<-hc.len];exact hlen
   have hzl:z.length=zv.size:=by rw[hz.len];simp
   have hfo:=Qn (a.eval x').cells zv off (by omega)
   have hnew:AG μ H (z.take off++cells (ev (get env) x)++z.drop (off+n)) (((a.eval x').cells.zipIdx.foldl (fun cs (c,j)=>cs.setIfInBounds (off+j) c) zv).toList):=by
    rw[hfo,hsz]
    exact Da hz hc off (off+n)
   obtain⟨cv,hfill,hrel⟩:=Ix hr pl hplace r' r _ cs _ hrest (fun p hp=>hall p (by simp[hp])) hnew h
   refine⟨cv,?_,hrel⟩
   simp only[Ait,Instr.fill]
   grind
  ·cases h
 | [],_::_,_,_,_,hok,_,_,_=>by simp[Gs] at hok
 | _::_,[],_,_,_,hok,_,_,_=>by simp[Gs] at hok
section ops
variable{P:Program}{W0:World}{ep nt:Nat}{o:Oper}{d:Option Nat}{env:AD}{σ σ':Ak}{n:Nat}{μ:Id→Option Value}{H:Addr→Option Value}{a:Act}{w:World}{v:V}
variable(hr:Rl μ H nt env a)(hp:Hp W0 σ n μ H w)
include hr hp
theorem yR{t:TypeId}{z:List V}{ps':Array (Nat×Operand)}{ps:List (Nat×Nat×X)}(ho:o.op=.build t ps')(hz:Fn P t (.agg z)=true)(hpl:(Ju P t).isSome=true)(hok:Gs ((Ju P t).getD []) ps'.toList ps=true)
  (hall:∀p∈ps,(ev (get env) p.2.2).ok=true){cs:List V}(hf:El z (ps.map fun p=>(p.1,p.2.1,ev (get env) p.2.2))=some cs)(he:v=.agg cs):A8 P W0 ep o d σ n μ H a w v σ:=by
 obtain⟨i,zv,hi,hzv,hokz⟩:=DN hz
 obtain⟨pl,hpl⟩:=Ap9.1 hpl
 rw[hpl] at hok
 have hcz:=(IF (μ:=μ) (H:=H) hokz).2
 subst he
 simp only[AoL] at hok
 unfold Ju at hpl
 split at hpl
 ·rename_i k e hu
  obtain⟨ie,hie,hpl'⟩:=Adc.1 hpl
  obtain⟨cv,hfill,hrel⟩:=Ix hr pl (place:=fun i=>some (i*ie.size,ie.size)) (fun f q hq=>by
   rw[<-hpl'] at hq
   simp only[Aqt,Adc] at hq
   obtain⟨j,hj,rfl⟩:=hq
   have:j=f:=by
    rcases Ar9 f k with h|h
    ·rw[List.getElem?_range h] at hj;cases hj;rfl
    ·rw[List.getElem?_eq_none (by simpa using h)] at hj;cases hj
   subst this;rfl) ps'.toList ps z cs zv.cells hok hall hcz hf
  have:=Ap.agg (μ:=μ) (H:=H) cs cv.toList hrel.len hrel.one hrel.at_
  refine A8.same (val:=.agg cv) (fun w=>?_) hp (by simpa using this)
  have hsz:(sizeOf e).run P w=.ok ie.size w:=by simp[sizeOf,typeInfo,hie]
  have hzz:(zeroValue t).run P w=.ok zv w:=by simp[zeroValue,typeInfo,hi,hzv]
  simp only[execOp,ho,Afu,Instr.build,hzz,AfH,run_underlying hu,hsz,Array.toList_map,hfill,Ai0]
 ·obtain⟨fs,hu,hpl'⟩:=NL hpl
  obtain⟨cv,hfill,hrel⟩:=Ix hr pl (place:=(pl.toArray[·]?)) (fun f q hq=>by simpa using hq) ps'.toList ps z cs zv.cells hok hall hcz hf
  have:=Ap.agg (μ:=μ) (H:=H) cs cv.toList hrel.len hrel.one hrel.at_
  refine A8.same (val:=.agg cv) (fun w=>?_) hp (by simpa using this)
  have hb:P.built t (ps'.map fun(i,x)=>(i,a.eval x)).toList=some cv:=by
   unfold Program.built
   simp_all
  simp only[execOp,ho,Afu,run_build w t _ cv hb,AfH,Ai0]
theorem Mf(sz:Nat):∀(ps:List (Nat×Operand)) (xs:List X) (k:Nat) (cs:Array Value),Gj k ps xs=true->(∀x∈xs.map (ev (get env)),x.ok=true/\(cells x).length=sz)->(k+xs.length)*sz=cs.size->
  ∃cv vals,Instr.fill (fun i=>some (i*sz,sz)) cs (ps.map fun(i,x)=>(i,a.eval x))=some cv/\AG μ H (AF (xs.map (ev (get env)))) vals/\cv.toList=cs.toList.take (k*sz)++vals
 | [],[],k,cs,_,_,hl=>by
  refine⟨cs,[],rfl,by simpa[AF] using AG.nil_,?_⟩
  simp only[Aiy,Atj] at hl
  rw[Aou,AtA (by simp;omega)]
 | (j,x')::r',x::r,k,cs,hok,hall,hl=>by
  simp only[Gj,Aav,beq_iff_eq] at hok
  obtain⟨⟨rfl,hx⟩,hrest⟩:=hok
  have h0:=hall (ev (get env) x) (by simp)
  have hv:=Ao hr hx
  obtain⟨hc,_⟩:=hv.toCells h0.1
  have hsz:(a.eval x').cells.size=sz:=by rw[<-As3,<-hc.len];exact h0.2
  have hfit:j*sz+(a.eval x').cells.size<=cs.size:=by
   rw[hsz,<-hl]
   simp only[AhU]
   grind
  have hfo:=Qn (a.eval x').cells cs (j*sz) hfit
  have hsize:((a.eval x').cells.zipIdx.foldl (fun cs (c,i)=>cs.setIfInBounds (j*sz+i) c) cs).size=cs.size:=by
   rw[<-As3,hfo]
   grind
  obtain⟨cv,vals,hfill,hrel,hcv⟩:=Mf sz r' r (j+1) _ hrest (fun y hy=>hall y (by grind)) (by rw[hsize,<-hl];grind)
  refine⟨cv,(a.eval x').cells.toList++vals,?_,?_,?_⟩
  ·simp only[Ait,Instr.fill]
   grind
  ·have:=hc.append hrel
   simpa[AF] using this
  ·rw[hcv,hfo,<-Ask]
   congr 1
   have h3:(j+1)*sz=j*sz+(a.eval x').cells.size:=by grind
   have h4:(cs.toList.take (j*sz)).length=j*sz:=by simp;omega
   grind
 | [],_::_,_,_,hok,_,_=>by simp[Gj] at hok
 | _::_,[],_,_,hok,_,_=>by simp[Gj] at hok
theorem AiB{t e:TypeId}{len sz:Nat}{own:Bool}{ps:Array (Nat×Operand)}{xs:List X}(ho:o.op=.buildSlice t len ps)(ht:BC P t=some e)(hel:GR P e sz=true)(hlen:len=xs.length)(hsmall:len*sz<=16777216)
  (hok:Gj 0 ps.toList xs=true)(hn:ep<n)(hf:∀dd,d=some dd->μ (ep,dd)=none)(hall:∀x∈xs.map (ev (get env)),x.ok=true/\(cells x).length=sz)
  (he:if own then ∃dd,d=some dd/\v=.arr (ep,dd)/\σ'=((ep,dd),.arr e sz (xs.map (ev (get env))))::σ else v=.sl (xs.map (ev (get env)))/\σ'=σ):A8 P W0 ep o d σ n μ H a w v σ':=by
 have hu:=B5 ht
 obtain⟨i,z,hi,hsz,hpos,hby,hz,hzs,_⟩:=GG hel
 subst hsz
 have hz0:(Array.range (len*i.size)).size=len*i.size:=by simp
 obtain⟨cv,vals,hfill,hrel,hcv⟩:=Mf (a:=a) hr hp i.size ps.toList xs 0 ((Array.range (len*i.size)).map ((if len*i.size=0 then #[] else z.cells)[· % (if len*i.size=0 then #[] else z.cells:Array Value).size]!)) hok hall (by simp[hlen])
 simp only[Nat.zero_mul,AqF,Aoq] at hcv
 subst hcv
 have hrun:∀w,(execOp a.eval o).run P w=.ok (.value (.slice (some ⟨w.heap.size,0,none⟩) len len)) (w.alloc (.cells cv e)):=by
  intro w
  have hmap:(ps.map fun(i,x)=>(i,a.eval x)).toList=ps.toList.map fun(i,x)=>(i,a.eval x):=by simp
  have hng:¬len*i.size>2 ^ 24:=by omega
  have hng0:¬(0:Nat)>2 ^ 24:=by omega
  by_cases h0:len*i.size=0
  ·simp only[h0,if_true] at hfill
   simp only[execOp,ho,Afu,Instr.buildSlice,run_underlying hu,AfH,sizeOf,typeInfo,run_program,hi,Ai0,h0,hng0,if_false,if_true,hmap,hfill,newRow,run_newObj,World.alloc_eq]
  ·simp only[if_neg h0] at hfill
   simp only[execOp,ho,Afu,Instr.buildSlice,run_underlying hu,AfH,sizeOf,typeInfo,run_program,hi,Ai0,hng,if_false,if_neg h0,zeroValue,hz,hmap,hfill,newRow,run_newObj,World.alloc_eq]
 have hfl:(AF (xs.map (ev (get env)))).length=xs.length*i.size:=by
  have:=EU (es:=xs.map (ev (get env))) (sz:=i.size) (fun e he=>(hall e he).2)
  simpa using this
 have hcvs:cv.size=len*i.size:=by rw[<-As3,<-hrel.len,hfl,hlen]
 have hxl:xs.length<=16777216:=by
  have:xs.length*1<=xs.length*i.size:=Nat.mul_le_mul_left _ hpos
  grind
 cases own with
 | true=>
  simp only[if_true] at he
  obtain⟨dd,hd,rfl,rfl⟩:=he
  have hmono:=Bv (v:=.slice (some ⟨w.heap.size,0,none⟩) len len) (hf dd hd)
  refine A8.made hp hd hn hf (hrun w) (fun bk h=>by simpa[BI] using h.symm) ⟨_,cv.toList,Ar _ _ _,rfl,⟨?_,.inr ⟨w.heap.size,len,cv,by simp[hlen],hp.base.size,heap_alloc_new w _,by simp[hlen],by simp only[maxLen];omega,hcvs,?_⟩⟩,by simp[AM];omega,fun x hx=>(hall x hx).2,hrel.mono hmono (fun _ _ h=>h)⟩ (.arr _ _ (Ar _ _ _) rfl)
  ·grind
  ·rw[Ae5,<-hlen,<-hcvs,<-As3,Aip]
 | false=>
  simp only[AcL,if_false] at he
  obtain⟨rfl,rfl⟩:=he
  intro next Q K
  have hpin:=hp.pin_ (.cells cv e)
  have hmono:∀ad v,H ad=some v->pinned H (w.alloc (.cells cv e)) w.heap.size ad=some v:=hpin.2.hp
  refine Bb (hrun w) (K _ n μ _ _ ⟨?_,hpin.1,AbG _,hpin.2,fun _ _ _ h=>h⟩)
  have:=Ap.slC (μ:=μ) (H:=pinned H (w.alloc (.cells cv e)) w.heap.size) (xs.map (ev (get env))) ⟨w.heap.size,0,none⟩ len i.size cv.toList (by simp[hlen]) (by simp[AM];omega) (fun e he=>(hall e he).2) hrel.len hrel.one (fun k v hk=>by
   rw[Ch]
   simp only[pinned,if_true]
   rw[World.cell?_alloc_new]
   simpa using hk) (fun k c v h1 h2=>(hrel.at_ k c v h1 h2).mono (fun _ _ h=>h) hmono)
  rw[Ae5,<-hlen] at this
  exact this
theorem Rr{k b:Nat}(hk:k<=AM)(hb:b<=32768):k*b<=140737488355328:=by
 have:=Auk hk hb
 simp only[AM] at this
 omega
theorem I9{w:World}{base:Nat}{t ty e:TypeId}{i:TypeInfo}{size:Nat}(ht:P.underlying t=some (.slice e))(hi:P.info? e=some i)
  {v:Value}{n:Nat}{xs:List Value}(hown:w.ownsRow base e size v n xs)(A:Option Addr)(c:Nat):(Builtin.append_ #[t,t] ty #[v,.slice A 0 c]).run P w=.ok v w:=by
 rcases hown.2 with⟨rfl,rfl⟩|⟨g,cap,cur,rfl,_,_,hnc,_⟩
 ·cases A<;>simp[Builtin.append_,run_underlying ht,sizeOf,typeInfo,hi,Builtin.lenOf,Builtin.firstCells,loadCells,loadCellsFrom]
 ·cases A<;>simp[Builtin.append_,run_underlying ht,sizeOf,typeInfo,hi,Builtin.lenOf,Builtin.firstCells,hnc,storeCells,loadCells,loadCellsFrom]
theorem UJ{x':Operand}{x:X}(hx:BD x' x=true){xs:List V}{sz:Nat}(he:Az σ (ev (get env) x)=some xs)(hsz:∀y∈xs,(cells y).length=sz) :
  ∃A cap,a.eval x'=.slice A xs.length cap/\xs.length<=AM/\(xs=[]\/∃ad vals,A=some ad/\AG μ H (AF xs) vals/\∀j u,vals[j]?=some u->w.cell? (ad.add j)=some u):=by
 have hx':=Ao hr hx
 generalize ev (get env) x=vx at *
 unfold Az at he
 split at he
 ·cases he
  obtain⟨A,cap,e1,_,hlim,hh⟩:=hx'.sl_inv
  refine⟨A,cap,e1,hlim,?_⟩
  rcases hh with h|⟨ad,sz0,vals,rfl,_,hrel,hpin⟩
  ·exact .inl h
  ·exact .inr ⟨ad,vals,rfl,hrel,fun j u hu=>hp.pins _ _ (hpin j u hu)⟩
 ·cases he
  exact⟨none,0,hx'.nil_inv,Ajt _,.inl rfl⟩
 ·rename_i id
  split at he
  ·rename_i hl
   cases he
   obtain⟨hm,_⟩:=hx'.arr_inv
   obtain⟨vals,_,hown,hlim,_,hrel⟩:=CO hp hl hm
   obtain⟨A,cap,hv⟩:=BN hown
   refine⟨A,cap,hv,hlim,?_⟩
   rcases AtO xs.length with h0|h0
   ·grind
   ·obtain⟨g,cap',cur,hv',_⟩:=F3 hown h0
    rw[hv'] at hv
    cases hv
    refine .inr ⟨⟨g,0,none⟩,vals,rfl,hrel,?_⟩
    rw[hv'] at hown
    exact hown.cells (g:=g) rfl
  ·cases he
 ·cases he
theorem Aml{c:Call}{s x:X}{e sz:Nat}(ho:o.op=.call c)(hcal:c.callee=.builtin .append)(hT:c.argTypes=#[c.argTypes.getD 0 0,c.argTypes.getD 0 0])(ht:BC P (c.argTypes.getD 0 0)=some e)(hel:GR P e sz=true)(hxs:A5 c.args.toList [s,x]=true)
  (hn:ep<n)(hf:∀dd,d=some dd->μ (ep,dd)=none){dd:Nat}(hd:d=some dd){xs:List V}(hsrc:Az σ (ev (get env) x)=some xs)(hsz:∀y∈xs,(cells y).length=sz)(hv:v=.arr (ep,dd))
  (he:match ev (get env) s with
   | .nil=>xs.length<=AM/\σ'=((ep,dd),.arr e sz xs)::σ
   | .arr id=>∃es,lk σ id=some (.arr e sz es)/\es.length+xs.length<=AM/\σ'=((ep,dd),.arr e sz (es++xs))::del σ id
   | _=>False):A8 P W0 ep o d σ n μ H a w v σ':=by
 obtain⟨s',x',hargs,hs,hx⟩:=Rd hxs
 have hargs:=CL hargs
 generalize c.argTypes.getD 0 0=t at *
 have hu:=B5 ht
 obtain⟨i,z,hi,hisz,hpos,hby,hz,hzs,_⟩:=GG hel
 have hs':=Ao hr hs
 obtain⟨A,cap,ex,hxlim,hsr⟩:=UJ hr hp (w:=w) hx hsrc hsz
 subst hv
 have run:∀(sv:Value) (es:List V) (vals:List Value),a.eval s'=sv->w.ownsRow W0.heap.size e sz sv es.length vals->AG μ H (AF es) vals->es.length+xs.length<=AM->
   ∃v' w' nv,(execOp a.eval o).run P w=.ok (.value v') w'/\w'.ownsRow W0.heap.size e sz v' (es.length+xs.length) nv/\AG μ H (AF (es++xs)) nv/\w.grownBy w' sv.ownBlock/\(v'.ownBlock=sv.ownBlock\/v'.ownBlock=some w.heap.size):=by
  intro sv es vals hes hown hrel hlim
  have hb:∀(r:Value) (w':World),(Builtin.append_ #[t,t] o.type #[sv,.slice A xs.length cap]).run P w=.ok r w'->(execOp a.eval o).run P w=.ok (.value r) w':=by
   intro r w' h
   obtain⟨cs,hrun⟩:=BK (P:=P) ho hcal a.eval w
   rw[hrun,hargs,hT]
   simp only[builtin,AtG,Ait,AkV,hes,ex,Afu,h,AfH,Ai0]
  rcases hsr with rfl|⟨ad,news,rfl,hnrel,hcell⟩
  ·exact⟨sv,w,vals,hb _ _ (I9 hr hp hu hi hown A cap),by simpa using hown,by simpa using hrel,⟨rfl,rfl,rfl,AbG _,fun _ _ _=>rfl⟩,.inl rfl⟩
  ·have hnl:news.length=xs.length*sz:=by rw[<-hnrel.len];exact EU hsz
   obtain⟨v',w',h1,h2,h3,_,h5⟩:=run_append_own_at (P:=P) w W0.heap.size t o.type e i z sz i.bytes hu hi hz hisz rfl hzs hpos sv es.length vals hown ad xs.length cap news hnl hcell hnrel.one (by simp only[maxLen,AM] at *;omega) (Rr hr hp hlim hby) hp.base.size
   refine⟨v',w',_,hb _ _ h1,h2,?_,h3,h5⟩
   rw[Fh]
   exact hrel.append hnrel
 have fin:∀(sv v':Value) (w':World) (es:List V) (nv:List Value) (σ1:Ak),(execOp a.eval o).run P w=.ok (.value v') w'->w'.ownsRow W0.heap.size e sz v' es.length nv->AG μ H (AF es) nv->w.grownBy w' sv.ownBlock->
   (v'.ownBlock=sv.ownBlock\/v'.ownBlock=some w.heap.size)->es.length<=AM->(∀y∈es,(cells y).length=sz)->(∀k,some k=sv.ownBlock->EK μ σ k)->(∀id e,lk σ1 id=some e->lk σ id=some e/\∀bk,BI (μ id)=some bk->some bk≠sv.ownBlock)->
   A8 P W0 ep o d σ n μ H a w (.arr (ep,dd)) (((ep,dd),.arr e sz es)::σ1):=by
  intro sv v' w' es nv σ1 hrun hown hrel hg hob hlim hall hR h1 next Q K
  have hmono:=Bv (v:=v') (hf dd hd)
  have h1c:v'.oneCell'=true:=by obtain⟨A,cap,rfl⟩:=BN hown;rfl
  have hblk:∀bk,BI (some v')=some bk->v'.ownBlock=some bk:=by
   obtain⟨A,cap,rfl⟩:=BN hown
   intro bk hb
   cases A with
   | none=>simp[BI] at hb
   | some A=>simpa[BI,Value.ownBlock] using hb
  have hnew:=hp.new_ (n':=n) (σ1:=σ1) (AJ.of_grown hg) hR h1 (hf dd hd) (e:=.arr e sz es) (val:=v') hn (AbG _) (fun bk hb=>by
   rcases hob with h|h
   ·exact .inl (by rw[<-h];exact(hblk bk hb).symm)
   ·rw[hblk bk hb] at h;cases h;exact .inr (AbG _)) ⟨v',nv,Ar _ _ _,h1c,hown,hlim,hall,hrel.mono hmono (fun _ _ h=>h)⟩
  refine Bb hrun (K _ _ _ _ _ ⟨.arr _ _ (Ar _ _ _) h1c,hnew.1,AbG _,hnew.2,fun id hid hne hnone=>?_⟩)
  rw[B9 _ _ (hne dd hd)]
  exact hnone
 generalize hes:ev (get env) s=vs at *
 split at he
 ·obtain⟨hlim,rfl⟩:=he
  have e1:=hs'.nil_inv
  obtain⟨v',w',nv,h1,h2,h3,h4,h5⟩:=run (.slice none 0 0) [] [] e1 (AtB w _ e sz) AG.nil_ (by simpa using hlim)
  simp only[Aiy,Atk,Aoq] at h2 h3
  exact fin _ v' w' xs nv σ h1 h2 h3 h4 h5 hlim hsz (fun k hk=>by simp[Value.ownBlock] at hk) (fun id e h=>⟨h,fun bk _ hb=>by simp[Value.ownBlock] at hb⟩)
 ·rename_i id
  obtain⟨es,hl,hlim,rfl⟩:=he
  obtain⟨hm,_⟩:=hs'.arr_inv
  obtain⟨vals,_,hown,_,hsz',hrel⟩:=CO hp hl hm
  have hob:∀k,some k=(a.eval s').ownBlock->BI (μ id)=some k:=by
   intro k hk
   rw[hm]
   obtain⟨A',cap',hv'⟩:=BN hown
   rw[hv'] at hk⊢
   cases A' with
   | none=>simp[Value.ownBlock] at hk
   | some A'=>simpa[Value.ownBlock,BI] using hk.symm
  obtain⟨v',w',nv,h1,h2,h3,h4,h5⟩:=run _ es vals rfl hown hrel hlim
  rw[<-Aik] at h2
  refine fin _ v' w' (es++xs) nv (del σ id) h1 h2 h3 h4 h5 (by simpa using hlim) (fun y hy=>(Aio.1 hy).elim (hsz' y) (hsz y)) (fun k hk=>⟨id,_,hl,hob k hk⟩) (fun id' e' h=>?_)
  rw[C7] at h
  split at h
  ·cases h
  ·rename_i hne
   exact⟨h,fun bk hb hb'=>hne (hp.sep _ _ _ _ bk hl h (hob bk hb') hb)⟩
 ·exact he.elim
omit hr hp in
theorem PL{e:TypeId}(h:OQ P e=true):∃i,P.info? e=some i/\i.size=1/\i.bytes=1/\i.zero=some (.int .u8 0):=by
 unfold OQ at h
 grind
omit hr hp in
theorem Pl(l:List UInt8):AG μ H (AF (Ax l)) (Lib.strCells ⟨l.toArray⟩):=by
 induction l with
 | nil=>exact AG.nil_
 | cons c l ih=>
  have h1:AG μ H [V.i .u8 c.toNat] [Value.int .u8 c.toNat]:=⟨VRels.nil_.cons (.i _ _),fun v hv=>by simp at hv;subst hv;rfl⟩
  exact h1.append ih
omit hr hp in
theorem Jj{w:World}(base:Nat)(t u ty e:TypeId)(i:TypeInfo)(ht:P.underlying t=some (.slice e))(hu:P.underlying u=some .string)(hi:P.info? e=some i)(hz:i.zero=some (.int .u8 0))
  (hsize:i.size=1)(hby:i.bytes=1)(v:Value)(n:Nat)(xs:List Value)(hown:w.ownsRow base e 1 v n xs)(s:ByteArray)
  (h63:n+s.size<=maxLen)(hbytes:n+s.size<=140737488355328)(hbase:base<=w.heap.size) :
  ∃v' w',(Builtin.append_ #[t,u] ty #[v,.string s]).run P w=.ok v' w'/\w'.ownsRow base e 1 v' (n+s.size) (xs++Lib.strCells s)/\w.grownBy w' v.ownBlock/\(v'.ownBlock=v.ownBlock\/v'.ownBlock=some w.heap.size):=by
 obtain⟨v',w',hr,h1,h2,h3⟩:=Lib.run_append_own_string (P:=P) w base t u ty e i ht hu hi hz hsize hby v n xs hown s h63 hbytes hbase
 refine⟨v',w',hr,h1,h2,?_⟩
 rcases hown.2 with⟨rfl,rfl⟩|⟨g,cap,cur,rfl,hbg,hg,hnc,hcm,hcs,htake⟩
 ·by_cases hm:s.size=0
  ·grind
  ·have hr':=run_append_nil_string (P:=P) w t u ty e i (.int .u8 0) ht hu hi hz s (by omega) (by omega) (by rw[hby];omega)
   rw[hr'] at hr
   injection hr with hv _
   subst hv
   exact .inr rfl
 ·by_cases hroom:n+s.size<=cap
  ·have hr':=Lib.run_append_room_string (P:=P) w t u ty e i ht hu hi hsize g n cap cur hg s hroom (by omega)
   rw[hr'] at hr
   injection hr with hv _
   subst hv
   exact .inl rfl
  ·have holds:∀j u,xs[j]?=some u->w.cell? ((⟨g,0,none⟩:Addr).add j)=some u:=hown.cells (g:=g) rfl
   have hr':=Lib.run_append_grow_string (P:=P) w t u ty e i (.int .u8 0) ht hu hi hz ⟨g,0,none⟩ n cap xs (by grind) holds s (by omega) (by omega) (by rw[hby];exact growslice_fits (by omega) (by omega))
   rw[hr'] at hr
   injection hr with hv _
   subst hv
   exact .inr rfl
theorem Agg{c:Call}{s x:X}{e:Nat}(ho:o.op=.call c)(hcal:c.callee=.builtin .append)(hT:c.argTypes=#[c.argTypes.getD 0 0,c.argTypes.getD 1 0])(ht:BC P (c.argTypes.getD 0 0)=some e)(hstr:Cj P (c.argTypes.getD 1 0)=true)(hel:OQ P e=true)(hxs:A5 c.args.toList [s,x]=true)
  (hn:ep<n)(hf:∀dd,d=some dd->μ (ep,dd)=none){dd:Nat}(hd:d=some dd){l:List UInt8}(hsrc:ev (get env) x=.s l)(hv:v=.arr (ep,dd))
  (he:match ev (get env) s with
   | .nil=>l.length<=AM/\σ'=((ep,dd),.arr e 1 (Ax l))::σ
   | .arr id=>∃es,lk σ id=some (.arr e 1 es)/\es.length+l.length<=AM/\σ'=((ep,dd),.arr e 1 (es++Ax l))::del σ id
   | _=>False):A8 P W0 ep o d σ n μ H a w v σ':=by
 obtain⟨s',x',hargs,hs,hx⟩:=Rd hxs
 have hargs:=CL hargs
 generalize c.argTypes.getD 0 0=t at *
 generalize c.argTypes.getD 1 0=u at *
 have hu:=B5 ht
 have hus:=BH hstr
 obtain⟨i,hi,hisz,hby,hz⟩:=PL hel
 have hs':=Ao hr hs
 have hx':=Ao hr hx
 rw[hsrc] at hx'
 have ex:=hx'.s_inv.1
 subst hv
 obtain⟨xs,hxs⟩:∃xs,xs=Ax l:=⟨_,rfl⟩
 have hxl:l.length=xs.length:=by rw[hxs];simp[Ax]
 have hsz:∀y∈xs,(cells y).length=1:=by
  intro y hy
  rw[hxs] at hy
  obtain⟨c,_,rfl⟩:=Apq.1 hy
  rfl
 have hnrel:AG μ H (AF xs) (Lib.strCells ⟨l.toArray⟩):=by rw[hxs];exact Pl l
 have hss:(⟨l.toArray⟩:ByteArray).size=xs.length:=by rw[<-hxl];simp[ByteArray.size]
 rw[hxl,<-hxs] at he
 obtain⟨sz,hsz1⟩:∃sz,sz=1:=⟨_,rfl⟩
 rw[<-hsz1] at he hsz
 have run:∀(sv:Value) (es:List V) (vals:List Value),a.eval s'=sv->w.ownsRow W0.heap.size e sz sv es.length vals->AG μ H (AF es) vals->es.length+xs.length<=AM->
   ∃v' w' nv,(execOp a.eval o).run P w=.ok (.value v') w'/\w'.ownsRow W0.heap.size e sz v' (es.length+xs.length) nv/\AG μ H (AF (es++xs)) nv/\w.grownBy w' sv.ownBlock/\(v'.ownBlock=sv.ownBlock\/v'.ownBlock=some w.heap.size):=by
  intro sv es vals hes hown hrel hlim
  have hb:∀(r:Value) (w':World),(Builtin.append_ #[t,u] o.type #[sv,.string ⟨l.toArray⟩]).run P w=.ok r w'->(execOp a.eval o).run P w=.ok (.value r) w':=by
   intro r w' h
   obtain⟨cs,hrun⟩:=BK (P:=P) ho hcal a.eval w
   rw[hrun,hargs,hT]
   simp only[builtin,AtG,Ait,AkV,hes,ex,Afu,h,AfH,Ai0]
  rw[hsz1] at hown
  obtain⟨v',w',h1,h2,h3,h5⟩:=Jj (w:=w) W0.heap.size t u o.type e i hu hus hi hz hisz hby sv es.length vals hown ⟨l.toArray⟩ (by rw[hss];simp only[maxLen,AM] at *;omega) (by rw[hss];simp only[AM] at *;omega) hp.base.size
  rw[hss] at h2
  refine⟨v',w',_,hb _ _ h1,by rw[hsz1];exact h2,?_,h3,h5⟩
  rw[Fh]
  exact hrel.append hnrel
 have fin:∀(sv v':Value) (w':World) (es:List V) (nv:List Value) (σ1:Ak),(execOp a.eval o).run P w=.ok (.value v') w'->w'.ownsRow W0.heap.size e sz v' es.length nv->AG μ H (AF es) nv->w.grownBy w' sv.ownBlock->
   (v'.ownBlock=sv.ownBlock\/v'.ownBlock=some w.heap.size)->es.length<=AM->(∀y∈es,(cells y).length=sz)->(∀k,some k=sv.ownBlock->EK μ σ k)->(∀id e,lk σ1 id=some e->lk σ id=some e/\∀bk,BI (μ id)=some bk->some bk≠sv.ownBlock)->
   A8 P W0 ep o d σ n μ H a w (.arr (ep,dd)) (((ep,dd),.arr e sz es)::σ1):=by
  intro sv v' w' es nv σ1 hrun hown hrel hg hob hlim hall hR h1 next Q K
  have hmono:=Bv (v:=v') (hf dd hd)
  have h1c:v'.oneCell'=true:=by obtain⟨A,cap,rfl⟩:=BN hown;rfl
  have hblk:∀bk,BI (some v')=some bk->v'.ownBlock=some bk:=by
   obtain⟨A,cap,rfl⟩:=BN hown
   intro bk hb
   cases A with
   | none=>simp[BI] at hb
   | some A=>simpa[BI,Value.ownBlock] using hb
  have hnew:=hp.new_ (n':=n) (σ1:=σ1) (AJ.of_grown hg) hR h1 (hf dd hd) (e:=.arr e sz es) (val:=v') hn (AbG _) (fun bk hb=>by
   rcases hob with h|h
   ·exact .inl (by rw[<-h];exact(hblk bk hb).symm)
   ·rw[hblk bk hb] at h;cases h;exact .inr (AbG _)) ⟨v',nv,Ar _ _ _,h1c,hown,hlim,hall,hrel.mono hmono (fun _ _ h=>h)⟩
  refine Bb hrun (K _ _ _ _ _ ⟨.arr _ _ (Ar _ _ _) h1c,hnew.1,AbG _,hnew.2,fun id hid hne hnone=>?_⟩)
  rw[B9 _ _ (hne dd hd)]
  exact hnone
 generalize hes:ev (get env) s=vs at *
 split at he
 ·obtain⟨hlim,rfl⟩:=he
  have e1:=hs'.nil_inv
  obtain⟨v',w',nv,h1,h2,h3,h4,h5⟩:=run (.slice none 0 0) [] [] e1 (AtB w _ e sz) AG.nil_ (by simpa using hlim)
  simp only[Aiy,Atk,Aoq] at h2 h3
  exact fin _ v' w' xs nv σ h1 h2 h3 h4 h5 hlim hsz (fun k hk=>by simp[Value.ownBlock] at hk) (fun id e h=>⟨h,fun bk _ hb=>by simp[Value.ownBlock] at hb⟩)
 ·rename_i id
  obtain⟨es,hl,hlim,rfl⟩:=he
  obtain⟨hm,_⟩:=hs'.arr_inv
  obtain⟨vals,_,hown,_,hsz',hrel⟩:=CO hp hl hm
  have hob:∀k,some k=(a.eval s').ownBlock->BI (μ id)=some k:=by
   intro k hk
   rw[hm]
   obtain⟨A',cap',hv'⟩:=BN hown
   rw[hv'] at hk⊢
   cases A' with
   | none=>simp[Value.ownBlock] at hk
   | some A'=>simpa[Value.ownBlock,BI] using hk.symm
  obtain⟨v',w',nv,h1,h2,h3,h4,h5⟩:=run _ es vals rfl hown hrel hlim
  rw[<-Aik] at h2
  refine fin _ v' w' (es++xs) nv (del σ id) h1 h2 h3 h4 h5 (by simpa using hlim) (fun y hy=>(Aio.1 hy).elim (hsz' y) (hsz y)) (fun k hk=>⟨id,_,hl,hob k hk⟩) (fun id' e' h=>?_)
  rw[C7] at h
  split at h
  ·cases h
  ·rename_i hne
   exact⟨h,fun bk hb hb'=>hne (hp.sep _ _ _ _ bk hl h (hob bk hb') hb)⟩
 ·exact he.elim
theorem AmZ{t e0:TypeId}{x' hi':Operand}{x hi:X}{sz:Nat}(ho:o.op=.slice t x' none (some hi') none)(ht:BC P t=some e0)(hse:BR P e0=some sz)(hx:BD x' x=true)(hhi:BD hi' hi=true)
  (hn:ep<n)(hf:∀dd,d=some dd->μ (ep,dd)=none){dd:Nat}(hd:d=some dd){id:Id}{e:TypeId}{es:List V}{q:Nat}(ex:ev (get env) x=.arr id)(hl:lk σ id=some (.arr e sz es))(hq1:Fs (get env) es.length (some hi)=some q)(hq:q<=es.length)
  (hv:v=.arr (ep,dd)):A8 P W0 ep o d σ n μ H a w v (((ep,dd),.arr e sz (es.take q))::del σ id):=by
 have hx':=Ao hr hx
 rw[ex] at hx'
 have hu:=B5 ht
 subst hv
 obtain⟨hm,h1c⟩:=hx'.arr_inv
 obtain⟨vals,_,hown,hlim,hsz',hrel⟩:=CO hp hl hm
 obtain⟨A,cap,e1⟩:=BN hown
 have hcap:es.length<=cap:=by
  rcases hown.2 with⟨h1,h2⟩|⟨g,cap',cur,h1,_,_,h2,_⟩
  ·omega
  grind
 have hlo:H8 none none=true:=rfl
 have hb:=fun w=>HS (P:=P) hr hp hlo (show H8 (some hi') (some hi)=true from hhi) true hcap (show Fs (get env) 0 none=some 0 from rfl) hq1 (Ajt _) (Aiw hq hcap) w
 have hrun:∀w,(execOp a.eval o).run P w=.ok (.value (.slice (if cap=0 then A else A.map (·.add (0*sz))) (q-0) (cap-0))) w:=by
  intro w
  have hsl:(Instr.slice t (.slice A es.length cap) none (some (a.eval hi')) none).run P w=.ok (.slice (if cap=0 then A else A.map (·.add (0*sz))) (q-0) (cap-0)) w:=by
   have:=hb w
   simp only[AtY,AsU] at this
   simp only[Instr.slice,Afu,run_underlying hu,AfH,Ai0,this,BT hse]
  simp only[execOp,ho,AtY,AsU,Afu,Instr.sliceAt,run_underlying hu,e1,AfH,hsl,Ai0]
 have hA:(if cap=0 then A else A.map (·.add (0*sz)))=A:=by
  split
  ·rfl
  ·rcases hown.2 with⟨h1,h2⟩|⟨g,cap',cur,h1,_⟩
   ·grind
   ·rw[h1] at e1;injection e1 with h3 h4 h5;subst h3;simp[Ch]
 rw[hA,AtP,AtP] at hrun
 have hmono:=Bv (v:=.slice A q cap) (hf dd hd)
 have hob:∀k,BI (some (.slice A q cap))=some k->BI (μ id)=some k:=by
  intro k hk
  rw[hm,e1]
  cases A with
  | none=>simp[BI] at hk
  | some A=>simpa[BI] using hk
 have hfl:AF (es.take q)=(AF es).take (q*sz):=JO hsz' q
 have hown':w.ownsRow W0.heap.size e sz (.slice A q cap) (es.take q).length (vals.take (q*sz)):=by
  have hql:(es.take q).length=q:=by simp;omega
  have hvl:vals.length=es.length*sz:=hown.1
  rw[hql]
  refine⟨by simp[*],?_⟩
  rcases hown.2 with⟨h1,h2⟩|⟨g,cap',cur,h1,hB,hg,h2,h3,h4,h5⟩
  ·grind
  ·rw[h1] at e1
   cases e1
   exact .inr ⟨g,cap,cur,rfl,hB,hg,by omega,h3,h4,by rw[<-h5,Auj,Nat.min_eq_left (AsY _ hq)]⟩
 intro next Q K
 have hnew:=hp.new_ (n':=n) (σ1:=del σ id) (w':=w) (R:=fun k=>BI (μ id)=some k) ⟨rfl,rfl,rfl,AbG _,fun _ _ _=>rfl⟩ (fun k hk=>⟨id,_,hl,hk⟩) (fun id' e' h=>by
   rw[C7] at h
   split at h
   ·cases h
   ·rename_i hne
    exact⟨h,fun bk hb hb'=>hne (hp.sep _ _ _ _ bk hl h hb' hb)⟩) (hf dd hd) (e:=.arr e sz (es.take q)) (val:=.slice A q cap) hn (AbG _) (fun bk hb=>.inl (hob bk hb))
  ⟨_,_,Ar _ _ _,rfl,hown',by simp;omega,fun y hy=>hsz' y (Ar0 hy),by rw[hfl];exact(hrel.take _).mono hmono (fun _ _ h=>h)⟩
 refine Bb (hrun w) (K _ _ _ _ _ ⟨.arr _ _ (Ar _ _ _) rfl,hnew.1,AbG _,hnew.2,fun id hid hne hnone=>?_⟩)
 rw[B9 _ _ (hne dd hd)]
 exact hnone
end ops
end Go.Ir
end
section
namespace Go.Ir
open Go.RowKit
variable[F1]
def AkF:rN->Bool
 | .mput _=>true
 | _=>false
def b9:Cy->TypeDesc->Prop
 | .str,d=>d=.string
 | .int,d=>∃k,d=.int k
 | .bool,d=>d=.bool
 | .st _,_=>False
theorem FA{P:Program}{kk:Cy}{t:TypeId}(h:LY P kk t=true):∃d,P.underlying t=some d/\b9 kk d:=by
 unfold LY at h
 cases hu:P.underlying t with
 | none=>grind
 | some d=>
  rw[hu] at h
  cases kk<;>cases d<;>first|(cases h;done)|exact⟨_,rfl,rfl⟩|exact⟨_,rfl,_,rfl⟩
theorem U8{kk:Cy}{d:TypeDesc}(hd:b9 kk d)(a b:V):DY kk a b=DE kk a b:=by
 cases kk with
 | st l=>exact hd.elim
 | _=>cases a<;>cases b<;>rfl
theorem FD{P:Program}{t k e:TypeId}(h:Oq P t=some (k,e)):P.underlying t=some (.map k e):=by
 unfold Oq at h
 grind
theorem F8(op:BinOp)(t:TypeId)(x y:Operand)(a:Option Addr)(l c:Nat)(b:Option Addr)(m d:Nat):eqGuard op t x y (.slice a l c) (.slice b m d)=pure ():=by
 cases op<;>rfl
theorem Ro:∀{cs:List V},(∀c∈cs,cells c=[c])->AF cs=cs
 | [],_=>rfl
 | c::cs,h=>by
  have:=Ro (cs:=cs) fun x hx=>h x (Abt _ hx)
  simp only[AF,Ato] at this⊢
  grind
theorem ND(a b:List UInt8):((⟨a.toArray⟩:ByteArray)==⟨b.toArray⟩)=(a==b):=by
 show(a.toArray==b.toArray)=_
 simp
section
variable{μ:Id→Option Value}{H:Addr→Option Value}
theorem QM{kk:Cy}{d:TypeDesc}(hd:b9 kk d){a b:V}{x y:Value}(hx:Ap μ H a x)(hy:Ap μ H b y){t:Bool}(h:DY kk a b=some t) :
  Instr.sameNow d x y=some t:=by
 rw[U8 hd] at h
 unfold DE at h
 split at h
 ·cases h
  have hd:d=_:=hd
  subst hd
  rw[hx.s_inv.1,hy.s_inv.1]
  simp only[Instr.sameNow]
  rw[ND]
 ·split at h
  ·rename_i hk
   cases h
   obtain⟨k,rfl⟩:=(hd:∃k,d=.int k)
   subst hk
   rw[hx.i_inv,hy.i_inv]
   simp[Instr.sameNow]
  ·cases h
 ·cases h
  have hd:d=_:=hd
  subst hd
  rw[hx.b_inv,hy.b_inv]
  simp[Instr.sameNow]
 ·cases h
theorem P7{kk:Cy}{d:TypeDesc}(hd:b9 kk d){a:V}{x:Value}(hx:Ap μ H a x) :
  ∀(es:List (V×V)) (ms:List MapEntry) (i:Nat) (r:Option (Nat×V)),es.length=ms.length->(∀(k:Nat) (c:V×V) (m:MapEntry),es[k]?=some c->ms[k]?=some m->Ap μ H c.1 m.key/\Ap μ H c.2 m.val)->Bl kk a es i=some r->
   ∃r',Instr.findNow d x ms i=some r'/\((r=none/\r'=none)\/∃j v val,r=some (j,v)/\r'=some (j,val)/\Ap μ H v val/\i<=j/\(es[j-i]?).isSome=true)
 | [],[],i,r,_,_,h=>by
  simp only[Bl] at h
  split at h
  ·cases h;exact⟨none,rfl,.inl ⟨rfl,rfl⟩⟩
  ·cases h
 | e::es,m::ms,i,r,hl,hat,h=>by
  simp only[Bl] at h
  have h0:=hat 0 e m rfl rfl
  split at h
  ·rename_i hk
   cases h
   exact⟨some (i,m.val),by simp only[Instr.findNow,QM hd hx h0.1 hk],.inr ⟨i,_,_,rfl,rfl,h0.2,AbG _,by simp⟩⟩
  ·rename_i hk
   obtain⟨r',h1,h2⟩:=P7 hd hx es ms (i+1) r (by simpa using hl) (fun k c m hc hm=>hat (k+1) c m (by simpa using hc) (by simpa using hm)) h
   refine⟨r',by simp only[Instr.findNow,QM hd hx h0.1 hk,h1],?_⟩
   grind
  ·cases h
 | [],_::_,_,_,hl,_,_=>by simp at hl
 | _::_,[],_,_,hl,_,_=>by simp at hl
theorem Mt{kk:Cy}{a:V}:∀{es:List (V×V)} {i:Nat} {r:Option (Nat×V)},Bl kk a es i=some r->Ki kk a=true
 | [],i,r,h=>by
  simp only[Bl] at h
  grind
 | e::es,i,r,h=>by
  simp only[Bl] at h
  have:∀t,DY kk a e.1=some t->Ki kk a=true:=by
   intro t ht
   unfold DY at ht
   split at ht<;>(try (cases ht;done))<;>(try (unfold DE at ht;split at ht<;>first|rfl|grind|grind|(cases ht;done)))
   split at ht
   ·rename_i hl;simp[Ki,hl.1]
   ·cases ht
  grind
theorem Ahl{P:Program}{w:World}{kk:Cy}{kt:TypeId}{d:TypeDesc}(hu:P.underlying kt=some d)(hd:b9 kk d){a:V}{x:Value}(hx:Ap μ H a x)(hk:Ki kk a=true)(e:Bool)(n:Nat) :
  (Instr.checkKey e (n+1) kt x).run P w=.ok () w:=by
 unfold Ki at hk
 split at hk<;>(try (cases hk;done))<;>(try (exact hd.elim))
 ·have hd:d=_:=hd
  subst hd
  rw[hx.s_inv.1]
  unfold Instr.checkKey
  simp[Afu,run_underlying hu]
 ·obtain⟨k,rfl⟩:=(hd:∃k,d=.int k)
  rw[hx.i_inv]
  unfold Instr.checkKey
  simp[Afu,run_underlying hu]
 ·have hd:d=_:=hd
  subst hd
  rw[hx.b_inv]
  unfold Instr.checkKey
  simp[Afu,run_underlying hu]
end
section ops
variable{P:Program}{W0:World}{ep nt:Nat}{o:Oper}{d:Option Nat}{env:AD}{σ σ':Ak}{n:Nat}{μ:Id→Option Value}{H:Addr→Option Value}{a:Act}{w:World}{v:V}
variable(hr:Rl μ H nt env a)(hp:Hp W0 σ n μ H w)
theorem AJ.setObj(w:World)(g:Nat)(o:Obj):AJ (fun k=>k=g) w { w with heap:=w.heap.setIfInBounds g o }:=
 ⟨rfl,rfl,rfl,by simp,fun k _ hk=>by grind⟩
theorem HJ{r:Nat}{s:ByteArray}{pos:Nat}(hb:w.heap[r]?=some (.stringIter s pos)):(getObj r).run P w=.ok (.stringIter s pos) w:=by
 simp[getObj,Sem.run,hb]
theorem MD{r:Nat}{s:ByteArray}{pos:Nat}(ob:Obj)(hb:w.heap[r]?=some (.stringIter s pos)):(setObj r ob).run P w=.ok () { w with heap:=w.heap.setIfInBounds r ob }:=by
 simp[setObj,Sem.run,hb]
theorem GI:∀{es:List V} {l:List UInt8},Ey es=some l->∃ns:List Int,es=ns.map (.i .u8)/\l=ns.map fun n=>UInt8.ofNat n.toNat
 | [],l,h=>by simp only[Ey,Aiq] at h;simp_all
 | e::es,l,h=>by
  unfold Ey at h
  split at h
  ·grind
  ·rename_i nn r heq
   cases heq
   cases hb:Ey es with
   | none=>rw[hb] at h;cases h
   | some l'=>
    rw[hb] at h
    simp only[AsU,Aiq] at h
    obtain⟨ns,rfl,rfl⟩:=GI hb
    exact⟨nn::ns,rfl,h.symm⟩
  ·cases h
include hr hp
omit hr hp in
theorem N6{kk:Cy}{t:TypeId}(ht:LY P kk t=true){x y:V}{vx vy:Value}{r:Bool}(h:DE kk x y=some r)(hx:Ap μ H x vx)(hy:Ap μ H y vy)(e:Nat)(w:World):(Op.equalIn (e+1) t vx vy).run P w=.ok r w:=by
 obtain⟨dd,hu,hk⟩:=FA ht
 unfold DE at h
 split at h
 ·cases h
  subst hk
  rw[hx.s_inv.1,hy.s_inv.1,run_equalIn_string w e t _ _ hu]
  simp_all
 ·split at h
  ·rename_i hk'
   cases h
   obtain⟨q,rfl⟩:=hk
   subst hk'
   rw[hx.i_inv,hy.i_inv]
   exact run_equalIn_int w e t _ q _ _ hu
  ·cases h
 ·cases h
  subst hk
  rw[hx.b_inv,hy.b_inv]
  exact run_equalIn_bool w e t _ _ hu
 ·cases h
omit hr hp in
theorem Mw{kk:Cy}{t:TypeId}(ht:LY P kk t=true):CN P t=some false:=by
 obtain⟨dd,hu,hk⟩:=FA ht
 unfold CN
 rw[hu]
 cases kk
 ·subst hk;rfl
 ·obtain⟨q,rfl⟩:=hk;rfl
 ·subst hk;rfl
 ·exact hk.elim
omit hr hp in
theorem O4{a b:List V}{xs ys:List Value}(ha:AG μ H a xs)(hb:AG μ H b ys)(e:Nat)(w:World):∀(fs:List Field) (l:List (Nat×Cy)) (r:Bool),Fa P fs l=true->eqO a b l=some r->
  (Op.eqFields (e+1) xs.toArray ys.toArray fs).run P w=.ok r w
 | [],[],r,_,h=>by cases h;rfl
 | f::fs,(o,kk)::l,r,hok,h=>by
  simp only[Fa,Aav,beq_iff_eq,bne_iff_ne,ne_eq] at hok
  obtain⟨⟨⟨⟨ho,hn⟩,hk⟩,hsz⟩,hr⟩:=hok
  simp only[eqO] at h
  split at h
  ·rename_i x y hx hy
   obtain⟨vx,hpx,hrx⟩:=GU (u:=.agg a) hsz (Mw hk) w xs f.offset ha (v:=x) (by rw[ho];simpa[sub,cells] using hx)
   obtain⟨vy,hpy,hry⟩:=GU (u:=.agg b) hsz (Mw hk) w ys f.offset hb (v:=y) (by rw[ho];simpa[sub,cells] using hy)
   simp only[Op.eqFields,ne_eq,hn,not_false_eq_true,if_true,Afu,hpx,hpy,AfH]
   split at h
   ·rename_i hq
    rw[N6 hk hq hrx hry]
    simpa using O4 ha hb e w fs l r hr h
   ·rename_i hq
    cases h
    rw[N6 hk hq hrx hry]
    simp
   ·cases h
  ·cases h
 | [],_::_,_,hok,_=>by simp[Fa] at hok
 | _::_,[],_,hok,_=>by simp[Fa] at hok
omit hr hp in
theorem Il{kk:Cy}{t:TypeId}(h:OJ P kk t=true):LY P kk t=true\/∃l fs,kk=.st l/\P.underlying t=some (.struct fs)/\Fa P fs.toList l=true/\P.stoodInHeld t=false/\l.map Prod.fst=List.range l.length:=by
 unfold OJ at h
 grind
omit hr hp in
theorem Q8{l:List (Nat×Cy)}{x y:V}{r:Bool}(h:DY (.st l) x y=some r):∃a b,x=.agg a/\y=.agg b/\a.length=l.length/\b.length=l.length/\eqO a b l=some r:=by
 unfold DY at h
 grind
omit hr hp in
theorem LC{l:List (Nat×Cy)}{t:TypeId}{fs:Array Field}(hu:P.underlying t=some (.struct fs))(hok:Fa P fs.toList l=true)(hst:P.stoodInHeld t=false){x y:V}{vx vy:Value}{r:Bool}(h:DY (.st l) x y=some r)(hx:Ap μ H x vx)(hy:Ap μ H y vy)(w:World):(Op.equal t vx vy).run P w=.ok r w:=by
 obtain⟨a,b,rfl,rfl,_,_,he⟩:=Q8 h
 obtain⟨va,rfl,hca⟩:=hx.isA_inv rfl
 obtain⟨vb,rfl,hcb⟩:=hy.isA_inv rfl
 have hf:P.fieldsOf t=fs:=by simp[Program.fieldsOf,hu]
 show(Op.equalIn 10000 t (.agg va.toArray) (.agg vb.toArray)).run P w=.ok r w
 rw[run_equalIn_struct w 9999 t _ _ (by rw[hf];exact hu) hst,hf]
 exact O4 hca hcb 9998 w _ _ _ hok he
omit hr hp in
theorem Ud{l:List (Nat×Cy)}{t:TypeId}{fs:Array Field}(hu:P.underlying t=some (.struct fs))(hok:Fa P fs.toList l=true)(hst:P.stoodInHeld t=false){a:V}{x:Value}(hx:Ap μ H a x)(w:World) :
  ∀(es:List (V×V)) (ms:List MapEntry) (i:Nat) (r:Option (Nat×V)),es.length=ms.length->(∀(k:Nat) (c:V×V) (m:MapEntry),es[k]?=some c->ms[k]?=some m->Ap μ H c.1 m.key/\Ap μ H c.2 m.val)->Bl (.st l) a es i=some r->
   ∃r',(Instr.findAsking t x ms i).run P w=.ok r' w/\((r=none/\r'=none)\/∃j v val,r=some (j,v)/\r'=some (j,val)/\Ap μ H v val/\i<=j/\(es[j-i]?).isSome=true)
 | [],[],i,r,_,_,h=>by
  simp only[Bl] at h
  split at h
  ·cases h;exact⟨none,by simp[Instr.findAsking],.inl ⟨rfl,rfl⟩⟩
  ·cases h
 | e::es,m::ms,i,r,hl,hat,h=>by
  simp only[Bl] at h
  have h0:=hat 0 e m rfl rfl
  split at h
  ·rename_i hk
   cases h
   exact⟨some (i,m.val),by simp[Instr.findAsking,Afu,LC hu hok hst hk hx h0.1 w],.inr ⟨i,_,_,rfl,rfl,h0.2,AbG _,by simp⟩⟩
  ·rename_i hk
   obtain⟨r',h1,h2⟩:=Ud hu hok hst hx w es ms (i+1) r (by simpa using hl) (fun k c m hc hm=>hat (k+1) c m (by simpa using hc) (by simpa using hm)) h
   refine⟨r',by simp[Instr.findAsking,Afu,LC hu hok hst hk hx h0.1 w,h1],?_⟩
   grind
  ·cases h
 | [],_::_,_,_,hl,_,_=>by simp at hl
 | _::_,[],_,_,hl,_,_=>by simp at hl
omit hr hp in
theorem Qi{kk:Cy}{kt:TypeId}(ht:OJ P kk kt=true){a:V}{x:Value}(hx:Ap μ H a x)(w:World)(es:List (V×V))(ms:List MapEntry)(r:Option (Nat×V))(hl:es.length=ms.length)(hat:∀(k:Nat) (c:V×V) (m:MapEntry),es[k]?=some c->ms[k]?=some m->Ap μ H c.1 m.key/\Ap μ H c.2 m.val)(hf:Bl kk a es 0=some r) :
  ∃r',(Instr.findKey kt x ms).run P w=.ok r' w/\((r=none/\r'=none)\/∃j v val,r=some (j,v)/\r'=some (j,val)/\Ap μ H v val/\0<=j/\(es[j-0]?).isSome=true):=by
 rcases Il ht with h0|⟨l,fs,rfl,hu,hok,hst,_⟩
 ·obtain⟨dd,hu,hdd⟩:=FA h0
  obtain⟨r',hr',hcase⟩:=P7 hdd hx es ms 0 r hl hat hf
  exact⟨r',MapKept.run_findKey hu hr',hcase⟩
 ·obtain⟨r',hr',hcase⟩:=Ud hu hok hst hx w es ms 0 r hl hat hf
  refine⟨r',?_,hcase⟩
  cases ms with
  | nil=>simpa[Instr.findKey,Afu,run_underlying hu,Instr.findNow,Instr.findAsking] using hr'
  | cons m ms=>
   have:Instr.findNow (.struct fs) x (m::ms) 0=none:=by simp[Instr.findNow,Instr.sameNow]
   simpa[Instr.findKey,Afu,run_underlying hu,this] using hr'
omit hr hp in
theorem KW{cs:List V}{vals:List Value}(hc:AG μ H cs vals)(e:Bool)(n:Nat)(w:World):∀(fs:List Field) (l:List (Nat×Cy)),Fa P fs l=true->(∀p∈l,p.1<cs.length)->
  (do for f in fs do if f.name ≠ "_" then Instr.checkKey e (n + 1) f.type (← part f.type vals.toArray f.offset):Sem Unit).run P w=.ok () w
 | [],[],_,_=>by simp
 | f::fs,(o,kk)::l,hok,hb=>by
  simp only[Fa,Aav,beq_iff_eq,bne_iff_ne,ne_eq] at hok
  obtain⟨⟨⟨⟨ho,hn⟩,hk⟩,hsz⟩,hr⟩:=hok
  have hlt:o<cs.length:=hb (o,kk) (by simp)
  obtain⟨vx,hpx,hrx⟩:=GU (u:=.agg cs) hsz (Mw hk) w vals f.offset hc (v:=cs[o]) (by rw[ho];simp[sub,cells,Ain hlt])
  obtain⟨dd,hu,hdd⟩:=FA hk
  have hck:(Instr.checkKey e (n+1) f.type vx).run P w=.ok () w:=by
   cases kk with
   | st l=>exact hdd.elim
   | str=>cases(hdd:dd=.string);unfold Instr.checkKey;simp[Afu,run_underlying hu]
   | int=>obtain⟨q,rfl⟩:=(hdd:∃k,dd=.int k);unfold Instr.checkKey;simp[Afu,run_underlying hu]
   | bool=>cases(hdd:dd=.bool);unfold Instr.checkKey;simp[Afu,run_underlying hu]
  have ih:=KW hc e n w fs l hr (fun p hp=>hb p (Abt _ hp))
  simp only[List.forIn_cons,ne_eq,hn,not_false_eq_true,if_true,Afu,hpx,hck,AfH,Ai0]
  simp_all
 | [],_::_,hok,_=>by simp[Fa] at hok
 | _::_,[],hok,_=>by simp[Fa] at hok
omit hr hp in
theorem NH{kk:Cy}{kt:TypeId}(ht:OJ P kk kt=true){a:V}{x:Value}(hx:Ap μ H a x)(hk:Ki kk a=true)(e:Bool)(w:World):(Instr.checkKey e 10000 kt x).run P w=.ok () w:=by
 rcases Il ht with h0|⟨l,fs,rfl,hu,hok,hst,hrg⟩
 ·obtain⟨dd,hu,hdd⟩:=FA h0
  exact Ahl hu hdd hx hk e 9999
 ·unfold Ki at hk
  split at hk<;>(try (rename_i h0;cases h0;done))<;>(try (cases hk;done))
  rename_i l' cs h0
  cases h0
  obtain⟨va,rfl,hca⟩:=hx.isA_inv rfl
  have hb:∀p∈l,p.1<cs.length:=by
   intro p hp
   have h1:p.1∈List.range l.length:=by grind
   grind
  have:=KW hca e 9998 w fs.toList l hok hb
  unfold Instr.checkKey
  simp only[Afu,run_underlying hu,AfH]
  simp_all
omit hr hp in
theorem vR{kk:Cy}{kt:TypeId}(ht:OJ P kk kt=true){a b:V}{x y:Value}(hx:Ap μ H a x)(hy:Ap μ H b y)(h:DY kk a b=some true):y=x/\Instr.sameBits 10000 x x=true:=by
 have base:∀{kk:Cy} {a b:V} {x y:Value} (n:Nat),Ap μ H a x->Ap μ H b y->DE kk a b=some true->y=x/\Instr.sameBits n x x=true:=by
  intro kk a b x y n hx hr0 h3
  unfold DE at h3
  split at h3
  ·rename_i p q
   rw[hx.s_inv.1,hr0.s_inv.1]
   simp only[Aiq,beq_iff_eq] at h3
   rw[h3]
   refine⟨rfl,?_⟩
   cases n<;>· simp only[Instr.sameBits];rw[ND];simp
  ·rename_i k1 p k2 q
   split at h3
   ·rename_i hk;subst hk
    rw[hx.i_inv,hr0.i_inv]
    simp only[Aiq,beq_iff_eq] at h3
    rw[h3]
    exact⟨rfl,by cases n<;>simp[Instr.sameBits]⟩
   ·cases h3
  ·rename_i p q
   rw[hx.b_inv,hr0.b_inv]
   simp only[Aiq,beq_iff_eq] at h3
   rw[h3]
   exact⟨rfl,by cases n<;>simp[Instr.sameBits]⟩
  ·cases h3
 rcases Il ht with h0|⟨l,fs,rfl,hu,hok,hst,hrg⟩
 ·obtain⟨dd,hu,hdd⟩:=FA h0
  rw[U8 hdd] at h
  exact base _ hx hy h
 ·obtain⟨ca,cb,rfl,rfl,la,lb,he⟩:=Q8 h
  obtain⟨va,rfl,hca⟩:=hx.isA_inv rfl
  obtain⟨vb,rfl,hcb⟩:=hy.isA_inv rfl
  have each:∀(l:List (Nat×Cy)),eqO ca cb l=some true->∀p∈l,∃u v,ca[p.1]?=some u/\cb[p.1]?=some v/\DE p.2 u v=some true:=by
   intro l
   induction l with
   | nil=>grind
   | cons q l ih=>
    obtain⟨o,kk⟩:=q
    intro h p hp
    simp only[eqO] at h
    grind
  have cell:∀k,k<va.length->∃v,va[k]?=some v/\vb[k]?=some v/\Instr.sameBits 9999 v v=true:=by
   intro k hk
   have hkl:k<l.length:=by have:=hca.len;simp only[cells] at this;omega
   have h1:(l[k]).1=k:=by
    have:=congrArg (fun q:List Nat=>q[k]?) hrg
    grind
   obtain⟨u,v,hu1,hv1,hq⟩:=each l he (l[k]) (AtT hkl)
   rw[h1] at hu1 hv1
   have hkb:k<vb.length:=by have:=hcb.len;simp only[cells] at this;omega
   have r1:=hca.at_ k u _ hu1 (Ain hk)
   have r2:=hcb.at_ k v _ hv1 (Ain hkb)
   obtain⟨h2,h3⟩:=base 9999 r1 r2 hq
   grind
  have hlen:vb.length=va.length:=by have h1:=hca.len;have h2:=hcb.len;simp only[cells] at h1 h2;omega
  have hbb:vb=va:=by
   apply AsQ
   grind
  subst hbb
  refine⟨rfl,?_⟩
  show((vb.toArray.size==vb.toArray.size)&&_)=true
  simp only[beq_self_eq_true,Arn,Aiv]
  rintro⟨x,y⟩ hm
  obtain⟨k,hk,hxy⟩:=List.getElem_of_mem hm
  grind
omit hr hp in
theorem TD{k:v8}{t:TypeId}{c:Value}{x:V}{val:Value}{r:Bool}(ht:Aha P k t c=true)(h:J9 k x=some r)(hx:Ap μ H x val) :
  (∀w,(Op.equal t val c).run P w=.ok r w)/\(∀(op:BinOp) (x':Operand) (w:World),(eqGuard op t x' (.const c) val c).run P w=.ok () w)/\(binOp .eql t val c=do pure (.bool (<-Op.equal t val c)))/\(binOp .neq t val c=do pure (.bool (!(<-Op.equal t val c)))):=by
 have up:∀{x y:Value} {r:Bool} {w:World},(∀d,(Op.equalIn (d+1) t x y).run P w=.ok r w)->(Op.equal t x y).run P w=.ok r w:=fun h=>h 9999
 unfold Aha at ht
 split at ht
 ·rename_i e hu
  have pt:∀(p:Option Addr),val=.pointer p->r=p.isNone->(∀w,(Op.equal t val (.pointer none)).run P w=.ok r w)/\(∀(op:BinOp) (x':Operand) (w:World),(eqGuard op t x' (.const (.pointer none)) val (.pointer none)).run P w=.ok () w)/\(binOp .eql t val (.pointer none)=do pure (.bool (<-Op.equal t val (.pointer none))))/\(binOp .neq t val (.pointer none)=do pure (.bool (!(<-Op.equal t val (.pointer none))))):=fun p (e1:val=.pointer p) (hr:r=p.isNone)=>by
   subst e1;subst hr
   refine⟨fun w=>up fun d=>by cases p<;>simp[Op.equalIn,run_underlying hu],fun op x' w=>by cases op<;>cases p<;>simp[eqGuard],rfl,rfl⟩
  cases x<;>simp only[J9] at h<;>(try (cases h;done))<;>cases h
  ·obtain⟨bk,_,e1⟩:=hx.ref_inv;exact pt _ e1 rfl
  ·obtain⟨bk,_,_,_,e1⟩:=hx.aref_inv;exact pt _ e1 rfl
  ·obtain⟨ad,_,e1,_⟩:=hx.ep_inv;exact pt _ e1 rfl
  ·cases hx;exact pt none rfl rfl
 ·rename_i a b e hu
  cases x<;>simp only[J9] at h<;>(try (cases h;done))<;>cases h
  ·cases hx
   exact⟨fun w=>up fun d=>by simp[Op.equalIn,run_underlying hu],fun op x' w=>by cases op<;>simp[eqGuard],rfl,rfl⟩
  ·cases hx
   exact⟨fun w=>up fun d=>by simp[Op.equalIn,run_underlying hu],fun op x' w=>by cases op<;>simp[eqGuard],rfl,rfl⟩
 ·rename_i a hu
  cases x<;>simp only[J9] at h<;>(try (cases h;done))<;>cases h
  ·cases hx
   exact⟨fun w=>up fun d=>by simp[Op.equalIn,run_underlying hu],fun op x' w=>by cases op<;>simp[eqGuard],rfl,rfl⟩
  ·cases hx
   exact⟨fun w=>up fun d=>by simp[Op.equalIn,run_underlying hu],fun op x' w=>by cases op<;>simp[eqGuard],rfl,rfl⟩
 ·cases ht
omit hr hp in
theorem Pe{x:V}{val:Value}{r:Bool}(h:J9 .p x=some r)(hx:Ap μ H x val):∃p:Option Addr,val=.pointer p/\r=p.isNone:=by
 cases x<;>simp only[J9] at h<;>(try (cases h;done))<;>cases h
 ·obtain⟨bk,_,e1⟩:=hx.ref_inv;grind
 ·obtain⟨bk,_,_,_,e1⟩:=hx.aref_inv;grind
 ·obtain⟨ad,_,e1,_⟩:=hx.ep_inv;grind
 ·cases hx;grind
omit hr hp in
theorem tK{t e:TypeId}{m:Nat}(hu:P.underlying t=some (.pointer e))(hm:BR P e=some (m+1)){x y:V}{vx vy:Value}{r:Bool}(h:Ag3 x y=some r)(hx:Ap μ H x vx)(hy:Ap μ H y vy) :
  ∃p q:Option Addr,vx=.pointer p/\vy=.pointer q/\∀w,(Op.equal t (.pointer p) (.pointer q)).run P w=.ok r w:=by
 have up:∀{x y:Value} {r:Bool} {w:World},(∀d,(Op.equalIn (d+1) t x y).run P w=.ok r w)->(Op.equal t x y).run P w=.ok r w:=fun h=>h 9999
 unfold Ag3 at h
 split at h
 ·obtain⟨q,rfl,rfl⟩:=Pe h hy
  cases hx
  exact⟨none,q,rfl,rfl,fun w=>up fun d=>by cases q<;>simp[Op.equalIn,run_underlying hu]⟩
 ·obtain⟨q,rfl,rfl⟩:=Pe h hx
  cases hy
  exact⟨q,none,rfl,rfl,fun w=>up fun d=>by cases q<;>simp[Op.equalIn,run_underlying hu]⟩
 ·rename_i id o id' o'
  split at h
  ·rename_i hid
   subst hid
   cases h
   obtain⟨bk,h1,e1⟩:=hx.ref_inv
   obtain⟨bk',h2,e2⟩:=hy.ref_inv
   rw[h1] at h2
   cases h2
   refine⟨_,_,e1,e2,fun w=>up fun d=>?_⟩
   simp only[Op.equalIn,Afu,run_underlying hu,AfH,BT hm,sameAddr]
   by_cases ho:o=o'
   ·subst ho;simp
   ·have:(o==o')=false:=by simp[ho]
    simp[*]
  ·cases h
 ·cases h
omit hr in
theorem MY{id:Id}{en:AC}(hl:lk σ id=some en)(hb:Oa en=true){bk:Nat}(hm:μ id=some (.pointer (some ⟨bk,0,none⟩))):∃vals t,w.heap[bk]?=some (.cells vals t (0,0)):=by
 have h:=hp.ents id en hl
 cases en with
 | box v=>obtain⟨bk',vals,t,h1,_,h2,_⟩:=h;grind
 | tbox t v=>obtain⟨bk',vals,h1,_,h2,_⟩:=h;grind
 | _=>cases hb
omit hr in
theorem tJ{t e:TypeId}{m:Nat}(hu:P.underlying t=some (.pointer e))(hm:BR P e=some (m+1)){x y:V}{vx vy:Value}{r:Bool}(h:QA σ x y=some r)(hx:Ap μ H x vx)(hy:Ap μ H y vy) :
  ∃p q:Option Addr,vx=.pointer p/\vy=.pointer q/\(Op.equal t (.pointer p) (.pointer q)).run P w=.ok r w:=by
 have up:∀{x y:Value} {r:Bool} {w:World},(∀d,(Op.equalIn (d+1) t x y).run P w=.ok r w)->(Op.equal t x y).run P w=.ok r w:=fun h=>h 9999
 unfold QA at h
 split at h
 ·obtain⟨q,rfl,rfl⟩:=Pe h hy
  cases hx
  exact⟨none,q,rfl,rfl,up fun d=>by cases q<;>simp[Op.equalIn,run_underlying hu]⟩
 ·obtain⟨q,rfl,rfl⟩:=Pe h hx
  cases hy
  exact⟨q,none,rfl,rfl,up fun d=>by cases q<;>simp[Op.equalIn,run_underlying hu]⟩
 ·rename_i id o id' o'
  obtain⟨bk,h1,e1⟩:=hx.ref_inv
  obtain⟨bk',h2,e2⟩:=hy.ref_inv
  split at h
  ·rename_i hid
   subst hid
   cases h
   rw[h1] at h2
   cases h2
   refine⟨_,_,e1,e2,up fun d=>?_⟩
   simp only[Op.equalIn,Afu,run_underlying hu,AfH,BT hm,sameAddr]
   by_cases ho:o=o'
   ·subst ho;simp
   ·have:(o==o')=false:=by simp[ho]
    simp[*]
  ·rename_i hid
   obtain⟨en,l1,h⟩:=AcD.1 h
   obtain⟨en',l2,h⟩:=AcD.1 h
   split at h
   ·rename_i hbb
    cases h
    simp only[Aav] at hbb
    have hb:bk≠bk':=by
     rintro rfl
     exact hid (hp.sep id en id' en' bk l1 l2 (by rw[h1];rfl) (by rw[h2];rfl))
    obtain⟨v1,t1,c1⟩:=MY hp l1 hbb.1 h1
    obtain⟨v2,t2,c2⟩:=MY hp l2 hbb.2 h2
    refine⟨_,_,e1,e2,up fun d=>?_⟩
    simp only[Op.equalIn,Afu,run_underlying hu,AfH,BT hm]
    have hs:=run_sameAddr_other (P:=P) w (a:=⟨bk,o,none⟩) (b:=⟨bk',o',none⟩) (by simp[hb]) c1 c2
    simp[hs]
   ·cases h
 ·cases h
theorem AnF{ne:Bool}{x y:X}(hok:Gy P (.eqp ne) o.op [x,y]=true)(he:(QA σ (ev (get env) x) (ev (get env) y)).map (eqN ne)=some v):A8 P W0 ep o d σ n μ H a w v σ:=by
 simp only[Gy] at hok
 split at hok
 ·rename_i op' t x' y' ty ho
  simp only[Aav,beq_iff_eq] at hok
  obtain⟨⟨hop,ht⟩,h3⟩:=hok
  split at ht
  ·rename_i el hu
   split at ht
   ·rename_i m hm
    simp only[A5,Aav] at h3
    have hx:=Ao hr h3.1
    have hy:=Ao hr (x:=y') (y:=y) (by grind)
    obtain⟨r,hr0,rfl⟩:=Adc.1 he
    obtain⟨p,q,e1,e2,heq⟩:=tJ hp hu hm hr0 hx hy
    refine fun next Q K=>Bb (val:=.bool (if ne then !r else r)) ?_ (K _ _ _ _ _ (FJ.same hp (.b _)))
    subst hop
    have hg:∀(op:BinOp),(eqGuard op t x' y' (.pointer p) (.pointer q)).run P w=.ok () w:=fun op=>by cases op<;>cases p<;>cases q<;>simp[eqGuard]
    have b1:binOp .eql t (.pointer p) (.pointer q)=(do pure (.bool (<-Op.equal t (.pointer p) (.pointer q)))):=rfl
    have b2:binOp .neq t (.pointer p) (.pointer q)=(do pure (.bool (!(<-Op.equal t (.pointer p) (.pointer q))))):=rfl
    cases ne
    ·simp only[execOp,ho,e1,e2,Afu,hg,AfH]
     simp[b1,heq]
    ·simp only[execOp,ho,e1,e2,Afu,hg,AfH]
     simp[b2,heq]
   ·cases ht
  ·cases ht
 ·cases hok
theorem Aqn{k:PuK}{xs:List X}(hok:Gy P k o.op xs=true)(he:F9 k (xs.map (ev (get env)))=some v):A8 P W0 ep o d σ n μ H a w v σ:=by
 cases k with
 | bit op=>
  simp only[Gy] at hok
  split at hok
  ·rename_i op' t x' y' ty ho
   simp only[Aav,beq_iff_eq] at hok
   obtain⟨rfl,h3⟩:=hok
   match xs,h3,he with
   | [x,y],h3,he=>
    simp only[A5,Aav] at h3
    have hx:=Ao hr h3.1
    have hy:=Ao hr (x:=y') (y:=y) (by grind)
    simp only[Ait,AkV] at he
    generalize ev (get env) x=vx at *
    generalize ev (get env) y=vy at *
    unfold F9 at he
    split at he<;>(try (rename_i h1 _;cases h1;done))<;>(try (cases he;done))<;>(try (rename_i h1;cases h1;done))
    rename_i op'' k p k' q h1 h2
    cases h1
    cases h2
    split at he
    ·rename_i hk
     subst hk
     have ex:=hx.i_inv
     have ey:=hy.i_inv
     unfold o9 at he
     split at he<;>(try (cases he;done))
     all_goals
      cases he
      exact A8.same (fun w=>by simp[execOp,ho,ex,ey,eqGuard_at_int,binOp,Op.intBits]) hp (.i _ _)
    ·cases he
   | [],h3,_=>simp[A5] at h3
   | [_],h3,_=>simp[A5] at h3
   | _::_::_::_,h3,_=>simp[A5] at h3
  ·cases hok
 | shf op=>
  simp only[Gy] at hok
  split at hok
  ·rename_i op' t x' y' ty ho
   simp only[Aav,beq_iff_eq] at hok
   obtain⟨rfl,h3⟩:=hok
   match xs,h3,he with
   | [x,y],h3,he=>
    simp only[A5,Aav] at h3
    have hx:=Ao hr h3.1
    have hy:=Ao hr (x:=y') (y:=y) (by grind)
    simp only[Ait,AkV] at he
    generalize ev (get env) x=vx at *
    generalize ev (get env) y=vy at *
    unfold F9 at he
    split at he<;>(try (rename_i h1 _;cases h1;done))<;>(try (cases he;done))<;>(try (rename_i h1;cases h1;done))
    rename_i op'' k p k' q h1 h2
    cases h1
    cases h2
    split at he
    ·rename_i hq
     have ex:=hx.i_inv
     have ey:=hy.i_inv
     have hq':¬q<0:=by omega
     unfold Aeb at he
     split at he<;>(try (cases he;done))
     all_goals
      cases he
      exact A8.same (fun w=>by simp[execOp,ho,ex,ey,eqGuard_at_int,binOp,Op.shift,hq']) hp (.i _ _)
    ·cases he
   | [],h3,_=>simp[A5] at h3
   | [_],h3,_=>simp[A5] at h3
   | _::_::_::_,h3,_=>simp[A5] at h3
  ·cases hok
 | aget m sz ag=>
  simp only[Gy] at hok
  split at hok
  ·rename_i t x' i' ho
   simp only[Aav] at hok
   obtain⟨ht,h3⟩:=hok
   split at ht
   ·rename_i m' e hu
    simp only[Aav,beq_iff_eq] at ht
    obtain⟨⟨rfl,hsz⟩,hag⟩:=ht
    match xs,h3,he with
    | [x,y],h3,he=>
     simp only[A5,Aav] at h3
     have hx:=Ao hr h3.1
     have hy:=Ao hr (x:=i') (y:=y) (by grind)
     simp only[Ait,AkV] at he
     generalize ev (get env) x=vx at *
     generalize ev (get env) y=vy at *
     unfold F9 at he
     split at he<;>(try (rename_i h1 _;cases h1;done))<;>(try (cases he;done))<;>(try (rename_i h1;cases h1;done))
     rename_i m2 sz2 ag2 cs k i h1 h2
     cases h1
     cases h2
     split at he
     ·rename_i hi
      have ei:=hy.i_inv
      obtain⟨vals,e1,hc⟩:=hx.isA_inv rfl
      obtain⟨val,hrun,hrel⟩:=GU hsz hag w vals _ hc he
      intro next Q K
      refine Bb (w':=w) (val:=val) ?_ (K _ _ _ _ _ (FJ.same hp hrel))
      simp[execOp,ho,e1,ei,Instr.index,asIntOf,run_underlying hu,hi,BT hsz,hrun]
     ·cases he
    | [],h3,_=>simp[A5] at h3
    | [_],h3,_=>simp[A5] at h3
    | _::_::_::_,h3,_=>simp[A5] at h3
   ·cases ht
  ·cases hok
 | eqs ne l=>
  simp only[Gy] at hok
  split at hok
  ·rename_i op' t x' y' ty ho
   simp only[Aav,beq_iff_eq,AmN] at hok
   obtain⟨⟨⟨⟨hop,ht⟩,hst⟩,hgd⟩,h3⟩:=hok
   split at ht
   ·rename_i fs hu
    match xs,h3,he with
    | [x,y],h3,he=>
     simp only[A5,Aav] at h3
     have hx:=Ao hr h3.1
     have hy:=Ao hr (x:=y') (y:=y) (by grind)
     simp only[Ait,AkV] at he
     generalize ev (get env) x=vx at *
     generalize ev (get env) y=vy at *
     unfold F9 at he
     split at he<;>(try (rename_i h1 _;cases h1;done))<;>(try (cases he;done))<;>(try (rename_i h1;cases h1;done))
     rename_i ne2 l2 ca cb h1 h2
     cases h1
     cases h2
     obtain⟨r,hr0,rfl⟩:=Adc.1 he
     obtain⟨va,e1,hca⟩:=hx.isA_inv rfl
     obtain⟨vb,e2,hcb⟩:=hy.isA_inv rfl
     have hf:P.fieldsOf t=fs:=by simp[Program.fieldsOf,hu]
     have heq:∀w,(Op.equalIn 10000 t (.agg va.toArray) (.agg vb.toArray)).run P w=.ok r w:=fun w=>by
      rw[run_equalIn_struct w 9999 t _ _ (by rw[hf];exact hu) hst,hf]
      exact O4 hca hcb 9998 w _ _ _ ht hr0
     subst hop
     refine A8.same (val:=.bool (if ne then !r else r)) (fun w=>?_) hp (.b _)
     cases ne
     ·simp[execOp,ho,e1,e2,run_eqGuard_agg w _ t x' y' _ _ hgd,run_eql_struct,heq]
     ·simp[execOp,ho,e1,e2,run_eqGuard_agg w _ t x' y' _ _ hgd,run_neq_struct,heq]
    | [],h3,_=>simp[A5] at h3
    | [_],h3,_=>simp[A5] at h3
    | _::_::_::_,h3,_=>simp[A5] at h3
   ·cases ht
  ·cases hok
 | nilq k ne=>
  simp only[Gy] at hok
  split at hok
  ·rename_i op' t x' c ty ho
   simp only[Aav,beq_iff_eq] at hok
   obtain⟨⟨hop,ht⟩,h3⟩:=hok
   match xs,h3,he with
   | [x],h3,he=>
    have hx:=Ao hr (x:=x') (y:=x) (by simpa[A5] using h3)
    simp only[Ait,AkV,F9] at he
    obtain⟨r,hr0,rfl⟩:=Adc.1 he
    obtain⟨h1,h2,h4,h5⟩:=TD ht hr0 hx
    have ec:a.eval (.const c)=c:=rfl
    refine A8.same (val:=.bool (if ne then !r else r)) (fun w=>?_) hp (.b _)
    subst hop
    cases ne
    ·simp only[execOp,ho,ec,Afu,h2,AfH]
     simp[h4,h1]
    ·simp only[execOp,ho,ec,Afu,h2,AfH]
     simp[h5,h1]
   | [],h3,_=>simp[A5] at h3
   | _::_::_,h3,_=>simp[A5] at h3
  ·cases hok
 | eqp ne=>
  simp only[Gy] at hok
  split at hok
  ·rename_i op' t x' y' ty ho
   simp only[Aav,beq_iff_eq] at hok
   obtain⟨⟨hop,ht⟩,h3⟩:=hok
   split at ht
   ·rename_i el hu
    split at ht
    ·rename_i m hm
     match xs,h3,he with
     | [x,y],h3,he=>
      simp only[A5,Aav] at h3
      have hx:=Ao hr h3.1
      have hy:=Ao hr (x:=y') (y:=y) (by grind)
      simp only[Ait,AkV,F9] at he
      obtain⟨r,hr0,rfl⟩:=Adc.1 he
      obtain⟨p,q,e1,e2,heq⟩:=tK hu hm hr0 hx hy
      refine A8.same (val:=.bool (if ne then !r else r)) (fun w=>?_) hp (.b _)
      subst hop
      have hg:∀(op:BinOp),(eqGuard op t x' y' (.pointer p) (.pointer q)).run P w=.ok () w:=fun op=>by cases op<;>cases p<;>cases q<;>simp[eqGuard]
      have b1:binOp .eql t (.pointer p) (.pointer q)=(do pure (.bool (<-Op.equal t (.pointer p) (.pointer q)))):=rfl
      have b2:binOp .neq t (.pointer p) (.pointer q)=(do pure (.bool (!(<-Op.equal t (.pointer p) (.pointer q))))):=rfl
      cases ne
      ·simp only[execOp,ho,e1,e2,Afu,hg,AfH]
       simp[b1,heq]
      ·simp only[execOp,ho,e1,e2,Afu,hg,AfH]
       simp[b2,heq]
     | [],h3,_=>simp[A5] at h3
     | [_],h3,_=>simp[A5] at h3
     | _::_::_::_,h3,_=>simp[A5] at h3
    ·cases ht
   ·cases ht
  ·cases hok
 | stuck=>cases he
 | com=>
  simp only[Gy] at hok
  split at hok
  ·rename_i t x' ho
   match xs,hok,he with
   | [x],h3,he=>
    have hx:=Ao hr (x:=x') (y:=x) (by simpa[A5] using h3)
    simp only[Ait,AkV] at he
    generalize ev (get env) x=vx at *
    unfold F9 at he
    split at he<;>(try (rename_i h1 _;cases h1;done))<;>(try (cases he;done))<;>(try (rename_i h1;cases h1;done))
    rename_i k p h1
    cases h1
    have ex:=hx.i_inv
    simp only[o9,Aiq] at he
    subst he
    exact A8.same (fun w=>by simp[execOp,ho,ex,Op.unary,Op.intBits]) hp (.i _ _)
   | [],h3,_=>simp[A5] at h3
   | _::_::_,h3,_=>simp[A5] at h3
  ·cases hok
 | isnil ne=>
  simp only[Gy] at hok
  split at hok
  ·rename_i op' t x' ty ho
   simp only[Aav,beq_iff_eq] at hok
   obtain⟨⟨rfl,h2⟩,h3⟩:=hok
   match xs,h3,he with
   | [x],h3,he=>
    have hx:=Ao hr (x:=x') (y:=x) (by simpa[A5] using h3)
    simp only[Ait,AkV] at he
    obtain⟨e,ht⟩:=Ap9.1 h2
    have hu:=B5 ht
    generalize ev (get env) x=vx at *
    have fin:∀(A:Option Addr) (l c:Nat),a.eval x'=.slice A l c->Ap μ H v (.bool (if ne then A.isSome else A.isNone))->A8 P W0 ep o d σ n μ H a w v σ:=by
     intro A l c e1 hv
     refine A8.same (fun w=>?_) hp hv
     have hc:a.eval (.const (.slice none 0 0))=.slice none 0 0:=rfl
     have heq:∀w,(Op.equal t (.slice A l c) (.slice none 0 0)).run P w=.ok A.isNone w:=fun w=>run_equal_slice_nil w t e A l c hu
     cases ne
     ·simp[execOp,ho,e1,hc,F8,binOp,heq]
     ·simp[execOp,ho,e1,hc,F8,binOp,heq]
    cases vx with
    | nil=>
     simp only[F9,Aiq] at he
     subst he
     refine fin none 0 0 hx.nil_inv ?_
     cases ne<;>exact .b _
    | sl es=>
     obtain⟨A,cap,e1,hc,hl,hcase⟩:=hx.sl_inv
     cases es with
     | nil=>
      simp only[F9,Aiq] at he
      subst he
      exact fin _ _ _ e1 (.ub _)
     | cons y ys=>
      simp only[F9,Aiq] at he
      subst he
      rcases hcase with h0|⟨ad,sz,vals,rfl,_⟩
      ·cases h0
      ·refine fin _ _ _ e1 ?_
       cases ne<;>exact .b _
    | _=>simp[F9] at he
   | [],h3,_=>simp[A5] at h3
   | _::_::_,h3,_=>simp[A5] at h3
  ·cases hok
 | itos=>
  simp only[Gy] at hok
  split at hok
  ·rename_i src dst x' ho
   simp only[Aav] at hok
   obtain⟨⟨h1,h2⟩,h3⟩:=hok
   match xs,h3,he with
   | [x],h3,he=>
    have hx:=Ao hr (x:=x') (y:=x) (by simpa[A5] using h3)
    simp only[Ait,AkV] at he
    generalize ev (get env) x=vx at *
    cases vx with
    | i k m=>
     simp only[F9,Aiq] at he
     subst he
     obtain⟨k0,hk0⟩:=Ap9.1 h1
     have e1:=hx.i_inv
     refine A8.same (val:=.string (Utf8.encode m)) (fun w=>?_) hp ?_
     ·simp[execOp,ho,e1,convert,run_underlying (Hy hk0),run_underlying (BH h2),Conv.intToString]
     ·have hlen:(Utf8.encode m).data.toList.length<=A9:=by
       have:(Utf8.encode m).data.toList.length<=4:=by
        unfold Utf8.encode
        grind
       unfold A9
       omega
      have:=Ap.s (μ:=μ) (H:=H) (Utf8.encode m).data.toList hlen
      simpa using this
    | _=>simp[F9] at he
   | [],h3,_=>simp[A5] at h3
   | _::_::_,h3,_=>simp[A5] at h3
  ·cases hok
 | btos=>
  simp only[Gy] at hok
  split at hok
  ·rename_i src dst x' ho
   simp only[Aav,beq_iff_eq,AcD] at hok
   obtain⟨⟨⟨e,h1,h1'⟩,h2⟩,h3⟩:=hok
   match xs,h3,he with
   | [x],h3,he=>
    have hx:=Ao hr (x:=x') (y:=x) (by simpa[A5] using h3)
    simp only[Ait,AkV] at he
    generalize ev (get env) x=vx at *
    have fin:∀(A:Option Addr) (l c:Nat) (s:List UInt8),a.eval x'=.slice A l c->s.length<=A9->v=.s s->(∀w',w'=w->(Conv.bytesToString (.slice A l c)).run P w'=.ok (.string ⟨s.toArray⟩) w')->A8 P W0 ep o d σ n μ H a w v σ:=by
     intro A l c s e1 hl hv hrun next Q K
     subst hv
     refine Bb (w':=w) (val:=.string ⟨s.toArray⟩) ?_ (K _ _ _ _ _ (FJ.same hp (.s _ hl)))
     simp only[execOp,ho,e1,Afu,run_convert_bytes_string w src dst e A l c (B5 h1) (Hy h1') (BH h2),hrun w rfl,AfH,Ai0]
    cases vx with
    | nil=>
     simp only[F9,Aiq] at he
     refine fin none 0 0 [] hx.nil_inv (by simp) he.symm (fun w' _=>?_)
     simp[Conv.bytesToString]
     rfl
    | sl es=>
     simp only[F9,Adc] at he
     obtain⟨l,hb,rfl⟩:=he
     obtain⟨ns,rfl,rfl⟩:=GI hb
     obtain⟨A,cap,e1,hc,hl,hcase⟩:=hx.sl_inv
     rw[Ae5] at hl e1
     refine fin A _ cap _ e1 (by simp only[Ae5,AM,A9] at *;omega) rfl (fun w' hw'=>?_)
     subst hw'
     rcases hcase with h0|⟨ad,sz,vals,rfl,hsz,hrel,hpin⟩
     ·have:ns=[]:=by simpa using h0
      subst this
      cases A<;>simp[Conv.bytesToString,loadCells,loadCellsFrom]<;>rfl
     ·have hfl:AF (ns.map (V.i .u8))=ns.map (V.i .u8):=by
       clear hrel hpin hsz hb e1 hc hl fin hx he
       induction ns with
       | nil=>rfl
       | cons m ns ih=>simpa[AF,cells] using ih
      rw[hfl] at hrel
      have hv:vals=ns.map (Value.int .u8):=by
       apply AsQ
       intro k
       by_cases hk:k<ns.length
       ·have h1:(ns.map (V.i .u8))[k]?=some (.i .u8 ns[k]):=by simp[hk]
        obtain⟨x,hx1,hx2⟩:=hrel.get h1
        rw[hx1,hx2.i_inv]
        simp[hk]
       ·have hl2:=hrel.len
        grind
      have hload:(loadCells ad ns.length).run P w'=.ok (ns.map (Value.int .u8)).toArray w':=by
       have:=run_loadCells_list (P:=P) (w:=w') ad vals (fun k v hk=>hp.pins _ _ (hpin k v hk))
       grind
      rw[run_bytesToString w' ad ns.length cap ns hload]
      have hfold:∀(ns:List Int) (s:ByteArray),ns.foldl (fun r n=>r.push (UInt8.ofNat n.toNat)) s=⟨s.data++(ns.map fun n=>UInt8.ofNat n.toNat).toArray⟩:=by
       intro ns
       induction ns with
       | nil=>intro s;simp
       | cons m ns ih=>
        simp[*]
      simp[*]
    | _=>simp[F9] at he
   | [],h3,_=>simp[A5] at h3
   | _::_::_,h3,_=>simp[A5] at h3
  ·cases hok
 | aidx n sz=>
  simp only[Gy] at hok
  split at hok
  ·rename_i t x' i' ho
   simp only[Aav] at hok
   obtain⟨h1,h3⟩:=hok
   split at h1
   ·rename_i n' e hu
    simp only[Aav,beq_iff_eq] at h1
    obtain⟨rfl,hsz⟩:=h1
    match xs,h3,he with
    | [x,i],h3,he=>
     simp only[A5,Aav,and_true] at h3
     have hx:=Ao hr (x:=x') (y:=x) h3.1
     have hi:=Ao hr (x:=i') (y:=i) h3.2
     simp only[Ait,AkV] at he
     generalize ev (get env) x=vx at *
     generalize ev (get env) i=vi at *
     cases vx with
     | ref id off=>
      cases vi with
      | i k m=>
       simp only[F9] at he
       split at he
       ·rename_i hm
        simp only[Aiq] at he
        subst he
        obtain⟨bk,hb,ex⟩:=hx.ref_inv
        have ei:=hi.i_inv
        have hel:P.elem t=e:=by simp[Program.elem,hu]
        have hal:P.arrayLen t=n':=by simp[Program.arrayLen,hu]
        refine A8.same (val:=.pointer (some ⟨bk,off+m.toNat*sz,none⟩)) (fun w=>?_) hp (.ref _ _ _ hb)
        simp only[execOp,ho,ex,ei,Afu]
        rw[run_indexAt_array (h:=by grind),hal,if_pos hm,hel,BT hsz]
        simp[AtN]
       ·cases he
      | _=>simp[F9] at he
     | _=>simp[F9] at he
    | [],h3,_=>simp[A5] at h3
    | [_],h3,_=>simp[A5] at h3
    | _::_::_::_,h3,_=>simp[A5] at h3
   ·cases h1
  ·cases hok
theorem Ai9{k:RdK}{m:X}{xs:List X}{id:Id}{e:AC}(hok:qS P k o.op m xs=true)(hm:ev (get env) m=.arr id)(hl:lk σ id=some e)(he:wX k e (xs.map (ev (get env)))=some v):A8 P W0 ep o d σ n μ H a w v σ:=by
 have hent:=hp.ents _ _ hl
 cases k with
 | mget kk z ok=>
  simp only[qS] at hok
  split at hok
  ·rename_i t m' k' ok' ho
   simp only[Aav,beq_iff_eq] at hok
   obtain⟨⟨⟨h1,rfl⟩,h3⟩,h4⟩:=hok
   split at h1
   ·rename_i kt et hmt
    simp only[Aav] at h1
    obtain⟨hkt,hz⟩:=h1
    match xs,h4,he with
    | [x],h4,he=>
     have hx:=Ao hr (x:=k') (y:=x) (by simpa[A5] using h4)
     have hmr:=Ao hr h3
     rw[hm] at hmr
     simp only[Ait,AkV] at he
     cases e with
     | map es=>
      simp only[wX,Adc] at he
      obtain⟨r,hf,rfl⟩:=he
      obtain⟨bk,mes,clock,hmu,hB,hh,hrel⟩:=hent
      have e1:a.eval m'=.map (some bk):=by
       have:=(hmr.arr_inv).1
       grind
      obtain⟨i,zv,hi,hzv,hokz⟩:=DN hz
      have hzr:=(IF (μ:=μ) (H:=H) hokz).1
      obtain⟨r',hfk,hcase⟩:=Qi hkt hx w es mes.toList r hrel.len hrel.at_ hf
      have hck:=NH hkt hx (Mt hf) mes.isEmpty w
      have run:∀val,((match r' with|some (_,v)=>pure (v,true)|none=>do pure (<-zeroValue et,false):Sem (Value×Bool)) >>= fun p=>(pure (if ok' then .tuple #[p.1,.bool p.2] else p.1):Sem Value)).run P w=.ok val w->
        (execOp a.eval o).run P w=.ok (.value val) w:=by
       intro val hv
       simp only[execOp,ho,e1,Instr.lookup,Afu,run_underlying (FD hmt),AfH,As0 hh,Ai0,hck,hfk]
       simp only[Afu] at hv
       cases r' with
       | none=>
        simp only[Afu,Ai0] at hv⊢
        cases hzz:(zeroValue et).run P w with
        | ok x y=>
         simp_all
        | halt h y=>simp_all
       | some p=>
        simp_all
      have two:∀{u:V} {val:Value} (t:Bool),Ap μ H u val->Ap μ H (.tup [u,.b t]) (.tuple #[val,.bool t]):=by
       intro u val t h
       have hvs:VRels μ H [u,.b t] [val,.bool t]:=VRels.cons h (VRels.cons (.b t) VRels.nil_)
       exact .tup _ _ hvs.len hvs.at_
      rcases hcase with⟨rfl,rfl⟩|⟨j,u,val,rfl,rfl,hval,_,_⟩
      ·have hzz:(zeroValue et).run P w=.ok zv w:=by simp[zeroValue,typeInfo,hi,hzv]
       intro next Q K
       cases ok' with
       | true=>exact Bb (run (.tuple #[zv,.bool false]) (by simp[hzz])) (K _ _ _ _ _ (FJ.same hp (two false hzr)))
       | false=>exact Bb (run zv (by simp[hzz])) (K _ _ _ _ _ (FJ.same hp hzr))
      ·intro next Q K
       cases ok' with
       | true=>exact Bb (run (.tuple #[val,.bool true]) (by simp)) (K _ _ _ _ _ (FJ.same hp (two true hval)))
       | false=>exact Bb (run val (by simp)) (K _ _ _ _ _ (FJ.same hp hval))
     | _=>simp[wX] at he
    | [],h4,_=>simp[A5] at h4
    | _::_::_,h4,_=>simp[A5] at h4
   ·simp at h1
  ·cases hok
 | mlen=>
  simp only[qS] at hok
  split at hok
  ·rename_i c ho
   split at hok
   ·rename_i hcal
    simp only[Aav,beq_iff_eq,Atb] at hok
    obtain⟨⟨⟨h1,h2⟩,h3⟩,rfl⟩:=hok
    obtain⟨x',hargs,hx⟩:=La h3
    have hargs:=CL hargs
    have hmr:=Ao hr hx
    rw[hm] at hmr
    cases e with
    | map es=>
     simp only[AkV,wX,Aiq] at he
     subst he
     obtain⟨bk,mes,clock,hmu,hB,hh,hrel⟩:=hent
     have e1:a.eval x'=.map (some bk):=by
      have:=(hmr.arr_inv).1
      grind
     obtain⟨T,hT⟩:=Oy c.argTypes h2
     rw[hT] at h1
     obtain⟨⟨kt,et⟩,hmt⟩:=Ap9.1 h1
     have hu:=FD hmt
     obtain⟨cs,hrun⟩:=BK (P:=P) ho hcal a.eval w
     have hlen:es.length=mes.size:=by simpa using hrel.len
     intro next Q K
     refine Bb (w':=w) (val:=.int .i64 es.length) ?_ (K _ _ _ _ _ (FJ.same hp (.i _ _)))
     have hu':P.underlying T=some (.map kt et):=hu
     have hl:(Builtin.len_ #[T] o.type #[.map (some bk)]).run P w=.ok (goInt mes.size) w:=by
      simp[Builtin.len_,run_underlying hu',As0 hh]
     rw[hrun,hargs,hT]
     simp only[builtin,AtG,Ait,AkV,e1,Afu,hl,AfH,Ai0,goInt,hlen]
    | _=>simp[wX] at he
   ·cases hok
  ·cases hok
theorem An0{k:rN}{m:X}{xs:List X}{id:Id}{e e':AC}(hok:fF P k o.op m xs=true)(hdst:o.dst=d)(hst:AkF k=true->d=none)(hm:ev (get env) m=.arr id)(hl:lk σ id=some e)
  (he:ZH k e (xs.map (ev (get env)))=some (e',v)):A8 P W0 ep o d σ n μ H a w v (upd σ id e'):=by
 have hent:=hp.ents _ _ hl
 cases k with
 | mput kk=>
  have main:∀(t:TypeId) (m' k' v':Operand),(execOp a.eval o=do Instr.mapUpdate t (a.eval m') (a.eval k') (a.eval v');pure .skip)->(match Oq P t with|some (kt,et)=>OJ P kk kt|none=>false)=true->BD m' m=true->A5 [k',v'] xs=true->A8 P W0 ep o d σ n μ H a w v (upd σ id e'):=by
   intro t m' k' v' hex h1 h2 h3
   split at h1
   ·rename_i kt et hmt
    obtain⟨x,y,hxs,hkx,hvy⟩:∃x y,xs=[x,y]/\BD k' x=true/\BD v' y=true:=by
     match xs,h3 with
     | [x,y],h3=>simp only[A5,Aav] at h3;grind
     | [],h3=>simp[A5] at h3
     | [_],h3=>simp[A5] at h3
     | _::_::_::_,h3=>simp[A5] at h3
    subst hxs
    have hx:=Ao hr hkx
    have hy:=Ao hr hvy
    have hmr:=Ao hr h2
    rw[hm] at hmr
    simp only[Ait,AkV] at he
    cases e with
    | map es=>
     simp only[ZH,Adc] at he
     obtain⟨r,hf,hres⟩:=he
     obtain⟨bk,mes,clock,hmu,hB,hh,hrel⟩:=hent
     have e1:a.eval m'=.map (some bk):=by
      have:=(hmr.arr_inv).1
      grind
     have hkt:=h1
     obtain⟨r',hfk,hcase⟩:=Qi hkt hx w es mes.toList r hrel.len hrel.at_ hf
     have hck:=NH hkt hx (Mt hf) false w
     have hund:Ap μ H (.tup []) undef:=.tup [] [] rfl (fun k c v hk=>by simp at hk)
     have fin:∀(ob:Obj) (mes':Array MapEntry) (clock':Nat) (es':List (V×V)),ob=.map mes' clock'->pT μ H es' mes'.toList clock'->e'=.map es'->v=.tup []->(Instr.mapUpdate t (a.eval m') (a.eval k') (a.eval v')).run P w=.ok () { w with heap:=w.heap.setIfInBounds bk ob }->A8 P W0 ep o d σ n μ H a w v (upd σ id e'):=by
      intro ob mes' clock' es' hob hrel' he' hv hrun next Q K
      subst he'
      subst hv
      have hset:=hp.set_ (e:=.map es') hl ((AJ.setObj w bk ob).to (fun k hk=>by subst hk;simp[hmu,BI])) ⟨bk,mes',clock',hmu,hB,by
       grind
,hrel'⟩
      refine Vc ?_ (K _ _ _ _ _ ⟨hund,hset.1,AbG _,hset.2,fun _ _ _ h=>h⟩)
      simp_all
     rcases hcase with⟨rfl,rfl⟩|⟨j,u,val,rfl,rfl,hval,_,hj⟩
     ·simp only[At2] at hres
      refine fin (.map (mes.push { key:=a.eval k',val:=a.eval v',born:=clock }) (clock+1)) _ _ (es++[(ev (get env) x,ev (get env) y)]) rfl ⟨by simp[hrel.len],fun k c mm hc hmm=>?_,?_,?_⟩ hres.1.symm hres.2.symm ?_
      ·simp only[Array.toList_push] at hmm
       have hlen:=hrel.len
       by_cases hk:k<es.length
       ·rw[ArP hk] at hc
        rw[ArP (by grind)] at hmm
        exact hrel.at_ k c mm hc hmm
       ·rw[ApR (by omega)] at hc
        rw[ApR (by omega),<-hlen] at hmm
        grind
      ·intro k mm hmm
       simp only[Array.toList_push] at hmm
       by_cases hk:k<mes.toList.length
       ·rw[ArP hk] at hmm
        exact hrel.born k mm hmm
       ·rw[ApR (by omega)] at hmm
        cases hk0:k-mes.toList.length with
        | zero=>
         rw[hk0] at hmm
         simp only[Ata,Aiq] at hmm
         subst hmm
         have:=hrel.now
         grind
        | succ q=>grind
      ·have:=hrel.now
       grind
      ·simp only[Instr.mapUpdate,Afu,run_underlying (FD hmt),AfH,e1,As0 hh,hck,hfk,MapKept.run_setObj_map _ hh]
     ·simp only[At2] at hres
      simp only[AtP] at hj
      obtain⟨c0,hc0⟩:=Ap9.1 hj
      have hjm:j<mes.toList.length:=by rw[<-hrel.len];grind
      have hm0:mes.toList[j]?=some mes.toList[j]:=Ain hjm
      have hsize:mes[j]?=some mes.toList[j]:=by grind
      have hkey2:mes.toList[j].key=a.eval k'/\Instr.sameBits 10000 (a.eval k') (a.eval k')=true:=by
       have hfound:∀(es:List (V×V)) (i j:Nat) (u:V),Bl kk (ev (get env) x) es i=some (some (j,u))->∃c,es[j-i]?=some c/\i<=j/\DY kk (ev (get env) x) c.1=some true:=by
        intro es
        induction es with
        | nil=>intro i j u h;simp only[Bl] at h;split at h<;>cases h
        | cons e es ih=>
         intro i j u h
         simp only[Bl] at h
         split at h
         ·grind
         ·obtain⟨c,h1,h2,h3⟩:=ih _ _ _ h
          exact⟨c,by rw[show j-i=(j-(i+1))+1 by omega,AsO];exact h1,by omega,h3⟩
         ·cases h
       obtain⟨c,h1,_,h3⟩:=hfound es 0 j u hf
       simp only[AtP] at h1
       exact vR hkt hx (hrel.at_ j c _ h1 hm0).1 h3
      obtain⟨hkey,hsame⟩:=hkey2
      have hstay:(Instr.keyThatStays (a.eval k') (a.eval k')).run P w=.ok (a.eval k') w:=by
       simp[Instr.keyThatStays,hsame]
      refine fin (.map (mes.modify j fun e=>{ e with key:=a.eval k',val:=a.eval v' }) clock) _ _ (es.modify j fun e=>(e.1,ev (get env) y)) rfl ⟨by simp[hrel.len],fun k c mm hc hmm=>?_,?_,?_⟩ hres.1.symm hres.2.symm ?_
      ·simp only[Auf] at hmm
       rw[Atu] at hc hmm
       by_cases hk:j=k
       ·subst hk
        simp only[if_true] at hc hmm
        rw[hc0] at hc
        rw[hm0] at hmm
        simp only[Option.map_eq_map,AsU,Aiq] at hc hmm
        subst hc;subst hmm
        refine⟨?_,hy⟩
        have:=(hrel.at_ j c0 _ hc0 hm0).1
        grind
       ·simp only[if_neg hk] at hc hmm
        simp only[Option.map_eq_map,Option.map_id',id_eq] at hc hmm
        exact hrel.at_ k c mm hc hmm
      ·intro k mm hmm
       rw[Auf,Atu] at hmm
       cases hmk:mes.toList[k]? with
       | none=>grind
       | some m1=>
        rw[hmk] at hmm
        have h1:=hrel.born k m1 hmk
        grind
      ·rw[Auf,List.length_modify];exact hrel.now
      ·simp only[Instr.mapUpdate,Afu,run_underlying (FD hmt),AfH,e1,As0 hh,hck,hfk,hsize,AsU,AoL,hkey,hstay,MapKept.run_setObj_map _ hh]
    | _=>simp[ZH] at he
   ·cases h1
  simp only[fF] at hok
  split at hok
  ·rename_i t m' k' v' ho
   simp only[Aav] at hok
   exact main t m' k' v' (by simp only[execOp,ho]) hok.1.1 hok.1.2 hok.2
  ·rename_i t m' k' v' ho
   simp only[Aav] at hok
   exact main t m' k' v' (by simp only[execOp,ho]) hok.1.1 hok.1.2 hok.2
  ·cases hok
 | next=>
  simp only[fF] at hok
  split at hok
  ·rename_i m' ho
   simp only[Aav,Atb] at hok
   obtain⟨h2,rfl⟩:=hok
   have hmr:=Ao hr h2
   rw[hm] at hmr
   cases e with
   | it l pos=>
    simp only[AkV,ZH] at he
    obtain⟨bk,hmu,hB,hh⟩:=hent
    have e1:a.eval m'=.pointer (some ⟨bk,0,none⟩):=by
     have:=(hmr.arr_inv).1
     grind
    have hsz:(⟨l.toArray⟩:ByteArray).size=l.length:=by simp[ByteArray.size]
    intro next Q K
    split at he
    ·rename_i hlt
     simp only[Aiq,At2] at he
     obtain⟨rfl,rfl⟩:=he
     obtain⟨c,hdec⟩:∃c,Utf8.decode ⟨l.toArray⟩ pos=c:=⟨_,rfl⟩
     rw[hdec] at K
     have hset:=hp.set_ (e:=.it l (pos+c.2)) hl ((AJ.setObj w bk (.stringIter ⟨l.toArray⟩ (pos+c.2))).to (fun k hk=>by subst hk;simp[hmu,BI])) ⟨bk,hmu,hB,by
      grind
⟩
     refine Bb (w':={ w with heap:=w.heap.setIfInBounds bk (.stringIter ⟨l.toArray⟩ (pos+c.2)) }) (val:=.tuple #[.bool true,goInt pos,.int .i32 c.1]) ?_ (K _ _ _ _ _ ⟨?_,hset.1,AbG _,hset.2,fun _ _ _ h=>h⟩)
     ·obtain⟨c1,c2⟩:=c
      simp only[execOp,ho,e1,Instr.next,Afu,HJ hh,AfH,hsz,hlt,if_true,hdec,MD _ hh,Ai0]
     ·have hvs:VRels μ H [.b true,.i .i64 pos,.i .i32 c.1] [.bool true,.int .i64 pos,.int .i32 c.1]:=VRels.cons (.b _) (VRels.cons (.i _ _) (VRels.cons (.i _ _) VRels.nil_))
      exact .tup _ _ hvs.len hvs.at_
    ·rename_i hlt
     simp only[Aiq,At2] at he
     obtain⟨rfl,rfl⟩:=he
     have hset:=hp.set_ (e:=.it l pos) (w':=w) hl ⟨rfl,rfl,rfl,AbG _,fun _ _ _=>rfl⟩ ⟨bk,hmu,hB,hh⟩
     refine Bb (w':=w) (val:=.tuple #[.bool false]) ?_ (K _ _ _ _ _ ⟨?_,hset.1,AbG _,hset.2,fun _ _ _ h=>h⟩)
     ·simp only[execOp,ho,e1,Instr.next,Afu,HJ hh,AfH,hsz,hlt,if_false,Ai0]
     ·have hvs:VRels μ H [.b false] [.bool false]:=VRels.cons (.b _) VRels.nil_
      exact .tup _ _ hvs.len hvs.at_
   | _=>simp[ZH] at he
  ·cases hok
theorem Aj6{k:MkK}{xs:List X}{e:AC}(hok:SX P k o.op xs=true)(hn:ep<n)(hf:∀dd,d=some dd->μ (ep,dd)=none){dd:Nat}(hd:d=some dd)(he:Vn k (xs.map (ev (get env)))=some e)(hv:v=tA k (ep,dd)):A8 P W0 ep o d σ n μ H a w v (((ep,dd),e)::σ):=by
 subst hv
 cases k with
 | mkmap=>
  simp only[SX] at hok
  split at hok
  ·rename_i t ho
   simp only[Atb] at hok
   subst hok
   simp only[AkV,Vn,Aiq] at he
   subst he
   refine A8.made hp hd hn hf (obj:=.map #[] 0) (val:=.map (some w.heap.size)) ?_ (fun bk h=>by simpa[BI] using h.symm)
    ⟨w.heap.size,#[],0,Ar _ _ _,hp.base.size,heap_alloc_new w _,⟨rfl,fun k c m h=>by simp at h,fun k m h=>by simp at h,rfl⟩⟩ (.arr _ _ (Ar _ _ _) rfl)
   simp[execOp,ho,Instr.makeMap]
  ·cases hok
 | strit=>
  simp only[SX] at hok
  split at hok
  ·rename_i t x' ho
   simp only[Aav] at hok
   obtain⟨h1,h3⟩:=hok
   match xs,h3,he with
   | [x],h3,he=>
    have hx:=Ao hr (x:=x') (y:=x) (by simpa[A5] using h3)
    simp only[Ait,AkV] at he
    generalize ev (get env) x=vx at *
    cases vx with
    | s l=>
     simp only[Vn,Aiq] at he
     subst he
     have e1:=hx.s_inv.1
     refine A8.made hp hd hn hf (obj:=.stringIter ⟨l.toArray⟩ 0) (val:=.pointer (some ⟨w.heap.size,0,none⟩)) ?_ (fun bk h=>by simpa[BI] using h.symm)
      ⟨w.heap.size,Ar _ _ _,hp.base.size,heap_alloc_new w _⟩ (.arr _ _ (Ar _ _ _) rfl)
     simp[execOp,ho,e1,Instr.range,run_underlying (BH h1)]
    | _=>simp[Vn] at he
   | [],h3,_=>simp[A5] at h3
   | _::_::_,h3,_=>simp[A5] at h3
  ·cases hok
 | tnew t z=>
  simp only[SX] at hok
  split at hok
  ·rename_i t' ho
   simp only[Aav,beq_iff_eq,Atb] at hok
   obtain⟨⟨rfl,hz⟩,rfl⟩:=hok
   simp only[AkV,Vn,Aiq] at he
   subst he
   obtain⟨i,zv,hi,hzv,hok⟩:=DN hz
   refine A8.made hp hd hn hf (obj:=.cells zv.cells t') (val:=.pointer (some ⟨w.heap.size,0,none⟩)) ?_ (fun bk h=>by simpa[BI] using h.symm)
    (N9 hp.base.size (Ar _ _ _) (IF hok).2) (.ref _ 0 _ (Ar _ _ _))
   simp[execOp,ho,Instr.alloc,zeroValue,typeInfo,hi,hzv,newVar,newRow]
  ·cases hok
 | tbx t=>
  simp only[SX] at hok
  split at hok
  ·rename_i t' x' ho
   simp only[Aav,beq_iff_eq] at hok
   obtain⟨rfl,h3⟩:=hok
   match xs,h3,he with
   | [x],h3,he=>
    have hx:=Ao hr (x:=x') (y:=x) (by simpa[A5] using h3)
    simp only[Ait,AkV,Vn] at he
    split at he
    ·rename_i hxo
     cases he
     have hmono:=Bv (v:=.pointer (some ⟨w.heap.size,0,none⟩)) (hf dd hd)
     refine A8.made hp hd hn hf (obj:=.cells (a.eval x').cells t') (val:=.pointer (some ⟨w.heap.size,0,none⟩)) ?_ (fun bk h=>by simpa[BI] using h.symm)
      (N9 hp.base.size (Ar _ _ _) ((hx.toCells hxo).1.mono hmono (fun _ _ h=>h))) (.ref _ 0 _ (Ar _ _ _))
     simp[execOp,ho,Instr.box,newVar,newRow]
    ·cases he
   | [],h3,_=>simp[A5] at h3
   | _::_::_,h3,_=>simp[A5] at h3
  ·cases hok
omit hr in
theorem Hp.freeze_{id:Id}{u:V}{bk:Nat}(hl:lk σ id=some (.box u))(hm:μ id=some (.pointer (some ⟨bk,0,none⟩))) :
  Hp W0 (del σ id) n μ (pinned H w bk) w/\Fr μ H σ w μ (pinned H w bk) (del σ id) w:=by
 have hown:EK μ σ bk:=⟨id,_,hl,by simp[hm,BI]⟩
 have hmono:∀ad v,H ad=some v->pinned H w bk ad=some v:=by
  intro ad v h
  unfold pinned
  split
  ·rename_i hb;rw[hp.unp bk hown ad hb] at h;cases h
  ·exact h
 have sub:∀id' e,lk (del σ id) id'=some e->id'≠id/\lk σ id'=some e:=by
  intro id' e h
  rw[C7] at h
  grind
 have own':∀b,EK μ (del σ id) b->EK μ σ b/\b≠bk:=by
  rintro b ⟨id',e,h,hb⟩
  obtain⟨hne,h'⟩:=sub _ _ h
  refine⟨⟨id',e,h',hb⟩,?_⟩
  rintro rfl
  exact hne (hp.sep _ _ _ _ b h' hl hb (by simp[hm,BI]))
 refine⟨⟨hp.base,?_,fun id' e h=>(hp.ents _ _ (sub _ _ h).2).keep (fun _ _ h=>h) hmono (fun _ _=>rfl),?_,fun i1 e1 i2 e2 b l1 l2=>hp.sep _ _ _ _ b (sub _ _ l1).2 (sub _ _ l2).2,hp.bd⟩,
  ⟨fun _ _ h=>h,hmono,AbG _,fun _ _ _=>rfl,?_,fun b _ ho=>(own' b ho).1⟩⟩
 ·intro ad v h
  unfold pinned at h
  split at h
  ·exact h
  ·exact hp.pins ad v h
 ·intro b ho ad hb
  obtain⟨ho',hne⟩:=own' b ho
  unfold pinned
  rw[if_neg (by rw[hb];exact hne)]
  exact hp.unp b ho' ad hb
 ·intro ad hb ho
  unfold pinned
  rw[if_neg]
  grind
theorem Al7{t:TypeId}{x':Operand}{m:X}{k:Nat}(ho:o.op=.slice t x' none none none)(ht:(match P.underlying t with|some (.array q e)=>q==k&&BR P e==some 1&&decide (k<=1024)|_=>false)=true)(hx:BD x' m=true)
  {id:Id}{cs:List V}(hm:ev (get env) m=.ref id 0)(hl:lk σ id=some (.box (.agg cs)))(hlen:cs.length=k)(hone:∀c∈cs,cells c=[c])(hv:v=.sl cs):A8 P W0 ep o d σ n μ H a w v (del σ id):=by
 split at ht
 ·rename_i q e hu
  simp only[Aav,beq_iff_eq,decide_eq_true_eq] at ht
  obtain⟨⟨rfl,hsz⟩,hk⟩:=ht
  have hx':=Ao hr hx
  rw[hm] at hx'
  obtain⟨bk,hmu,e1⟩:=hx'.ref_inv
  obtain⟨bk',vals,t',hm',_,hh,hc⟩:=hp.ents _ _ hl
  rw[hmu] at hm'
  cases hm'
  obtain⟨hp2,hf2⟩:=Hp.freeze_ hp hl hmu
  subst hv
  have hc:AG μ H cs vals.toList:=hc
  have hflat:AF cs=cs:=Ro hone
  intro next Q K
  refine Bb (w':=w) (val:=.slice (some ⟨bk,0,none⟩) q q) ?_ (K _ n μ (pinned H w bk) w ⟨?_,hp2,AbG _,hf2,fun _ _ _ h=>h⟩)
  ·simp[execOp,ho,e1,Instr.sliceAt,run_underlying hu,Instr.sureAddr,Instr.sliceBounds,BT hsz,Addr.add]
  ·have hc2:AG μ (pinned H w bk) cs vals.toList:=hc.mono (fun _ _ h=>h) hf2.hp
   have hl1:cs.length=vals.toList.length:=hc.len
   have:=Ap.slC (μ:=μ) (H:=pinned H w bk) cs ⟨bk,0,none⟩ q 1 vals.toList (by omega) (by unfold AM;omega) (fun c hc=>by rw[hone c hc];rfl) (by rw[hflat];exact hl1) hc2.one (fun j x hj=>by
    unfold pinned
    rw[Ch,if_pos rfl,cell_of_row w bk j vals t' (0,0) hh]
    simpa using hj) (by rw[hflat];exact hc2.at_)
   grind
 ·cases ht
theorem pZ{t:TypeId}{x':Operand}{m:X}(ho:o.op=.range t x')(ht:(Oq P t).isSome=true)(hx:BD x' m=true)(hn:ep<n)(hf:∀dd,d=some dd->μ (ep,dd)=none){dd:Nat}(hd:d=some dd)
  {mid:Id}{es:List (V×V)}(hm:ev (get env) m=.arr mid)(hl:lk σ mid=some (.map es))(hv:v=.arr (ep,dd)):A8 P W0 ep o d σ n μ H a w v (((ep,dd),.mit mid es.length [] es.length)::σ):=by
 subst hv
 have hx':=Ao hr hx
 rw[hm] at hx'
 obtain⟨⟨kt,et⟩,hmt⟩:=Ap9.1 ht
 obtain⟨bk,mes,clock,hmu,hB,hh,hrel⟩:=hp.ents _ _ hl
 have e1:a.eval x'=.map (some bk):=by
  have:=(hx'.arr_inv).1
  grind
 have hclock:clock=es.length:=by rw[hrel.now,hrel.len]
 subst hclock
 refine A8.made hp hd hn hf (obj:=.mapIter (some bk) es.length #[] es.length) (val:=.pointer (some ⟨w.heap.size,0,none⟩)) ?_ (fun bk h=>by simpa[BI] using h.symm)
  ⟨w.heap.size,bk,Ar _ _ _,hp.base.size,Bv (hf dd hd) _ _ hmu,heap_alloc_new w _⟩ (.arr _ _ (Ar _ _ _) rfl)
 simp[execOp,ho,e1,Instr.range,run_underlying (FD hmt),As0 hh]
omit hr hp in
theorem GK{r:Nat}{m:Option Nat}{since stepped:Nat}{seen:Array Nat}(hb:w.heap[r]?=some (.mapIter m since seen stepped)):(getObj r).run P w=.ok (.mapIter m since seen stepped) w:=by
 simp[getObj,Sem.run,hb]
omit hr hp in
theorem Mo{r:Nat}{m:Option Nat}{since stepped:Nat}{seen:Array Nat}(ob:Obj)(hb:w.heap[r]?=some (.mapIter m since seen stepped)):(setObj r ob).run P w=.ok () { w with heap:=w.heap.setIfInBounds r ob }:=by
 simp[setObj,Sem.run,hb]
omit hr hp in
theorem Zp{ms:List MapEntry}:∀(j i:Nat) (m:MapEntry),(∀(k:Nat) (m:MapEntry),ms[k]?=some m->m.born=j+k)->ms[i]?=some m->ms.find? (fun e=>e.born==j+i)=some m:=by
 induction ms with
 | nil=>grind
 | cons x ms ih=>
  intro j i m hb h
  cases i with
  | zero=>
   grind
  | succ i=>
   have h0:=hb 0 x rfl
   rw[List.find?_cons_of_neg (by simp[h0])]
   have:=ih (j+1) i m (fun k m hk=>by have:=hb (k+1) m (by simpa using hk);omega) (by simpa using h)
   grind
theorem qC{x':Operand}{m:X}(ho:o.op=.entry x')(hx:BD x' m=true){id mid:Id}{since i:Nat}{seen:List Nat}{es:List (V×V)}{kv:V×V}(hm:ev (get env) m=.arr id)(hl:lk σ id=some (.mit mid since seen es.length))
  (hlast:seen.getLast?=some i)(hlm:lk σ mid=some (.map es))(hkv:es[i]?=some kv)(hv:v=.tup [kv.1,kv.2]):A8 P W0 ep o d σ n μ H a w v σ:=by
 subst hv
 have hx':=Ao hr hx
 rw[hm] at hx'
 obtain⟨r,mb,hmu,_,hmm,hh⟩:=hp.ents _ _ hl
 obtain⟨bk,mes,clock,hmu2,_,hh2,hrel⟩:=hp.ents _ _ hlm
 rw[hmm] at hmu2
 cases hmu2
 have e1:a.eval x'=.pointer (some ⟨r,0,none⟩):=by
  have:=(hx'.arr_inv).1
  grind
 have hclock:clock=es.length:=by rw[hrel.now,hrel.len]
 subst hclock
 have hi:i<mes.toList.length:=by rw[<-hrel.len];grind
 have hm0:mes.toList[i]?=some mes.toList[i]:=Ain hi
 obtain⟨r1,r2⟩:=hrel.at_ i kv _ hkv hm0
 have hback:seen.toArray.back?=some i:=by rw[<-hlast];simp
 have hfind:mes.find? (fun e=>e.born==i)=some mes.toList[i]:=by
  have:=Zp (ms:=mes.toList) 0 i _ (fun k m hk=>by rw[Atk];exact hrel.born k m hk) hm0
  grind
 intro next Q K
 refine Bb (w':=w) (val:=.tuple #[mes.toList[i].key,mes.toList[i].val]) ?_ (K _ _ _ _ _ (FJ.same hp ?_))
 ·simp only[execOp,ho,e1,Afu,Instr.entry,GK hh,AfH,hback,As0 hh2,hfind,Ai0]
  simp
 ·have hvs:VRels μ H [kv.1,kv.2] [mes.toList[i].key,mes.toList[i].val]:=VRels.cons r1 (VRels.cons r2 VRels.nil_)
  exact .tup _ _ hvs.len hvs.at_
theorem AfX{src dst:TypeId}{x':Operand}{x:X}(ho:o.op=.convert src dst x')(h1:((BC P src).bind (R1 P))=some .u8)(h2:Cj P dst=true)(hx:BD x' x=true)
  {es:List V}(ex:Az σ (ev (get env) x)=some es)(he:(Ey es).map .s=some v):A8 P W0 ep o d σ n μ H a w v σ:=by
 rw[AcD] at h1
 obtain⟨e,h1,h1'⟩:=h1
 rw[Adc] at he
 obtain⟨l,hb,rfl⟩:=he
 obtain⟨ns,rfl,rfl⟩:=GI hb
 have hsz:∀y∈ns.map (V.i .u8),(cells y).length=1:=fun y hy=>by
  obtain⟨m,_,rfl⟩:=Apq.1 hy
  rfl
 obtain⟨A,cap,e1,hl,hcase⟩:=UJ hr hp hx ex hsz
 rw[Ae5] at hl e1
 intro next Q K
 have hlen:(ns.map fun n=>UInt8.ofNat n.toNat).length<=A9:=by simp only[Ae5,AM,A9] at *;omega
 refine Bb (w':=w) (val:=.string ⟨(ns.map fun n=>UInt8.ofNat n.toNat).toArray⟩) ?_ (K _ _ _ _ _ (FJ.same hp (.s _ hlen)))
 have hrun:(Conv.bytesToString (.slice A ns.length cap)).run P w=.ok (.string ⟨(ns.map fun n=>UInt8.ofNat n.toNat).toArray⟩) w:=by
  rcases hcase with h0|⟨ad,vals,rfl,hrel,hpin⟩
  ·have:ns=[]:=by simpa using h0
   subst this
   cases A<;>simp[Conv.bytesToString,loadCells,loadCellsFrom]<;>rfl
  ·have hfl:AF (ns.map (V.i .u8))=ns.map (V.i .u8):=by
    clear hrel hpin hsz hb e1 hl hlen ex K
    induction ns with
    | nil=>rfl
    | cons m ns ih=>simpa[AF,cells] using ih
   rw[hfl] at hrel
   have hv:vals=ns.map (Value.int .u8):=by
    apply AsQ
    intro k
    by_cases hk:k<ns.length
    ·have h1:(ns.map (V.i .u8))[k]?=some (.i .u8 ns[k]):=by simp[hk]
     obtain⟨x,hx1,hx2⟩:=hrel.get h1
     rw[hx1,hx2.i_inv]
     simp[hk]
    ·have hl2:=hrel.len
     grind
   have hload:(loadCells ad ns.length).run P w=.ok (ns.map (Value.int .u8)).toArray w:=by
    have:=run_loadCells_list (P:=P) (w:=w) ad vals hpin
    grind
   rw[run_bytesToString w ad ns.length cap ns hload]
   have hfold:∀(ns:List Int) (s:ByteArray),ns.foldl (fun r n=>r.push (UInt8.ofNat n.toNat)) s=⟨s.data++(ns.map fun n=>UInt8.ofNat n.toNat).toArray⟩:=by
    intro ns
    induction ns with
    | nil=>intro s;simp
    | cons m ns ih=>
     simp[*]
   rw[hfold]
   simp
 simp only[execOp,ho,e1,Afu,run_convert_bytes_string w src dst e A ns.length cap (B5 h1) (Hy h1') (BH h2),hrun,AfH,Ai0]
end ops
end Go.Ir
end
section
namespace Go.Ir
open Go.RowKit
variable[F1]
theorem Mx(z:V)(n k:Nat)(hk:k<n*(cells z).length):(AF (List.replicate n z))[k]?=(cells z)[k % (cells z).length]?:=by
 induction n generalizing k with
 | zero=>omega
 | succ n ih=>
  have hs:AF (List.replicate (n+1) z)=cells z++AF (List.replicate n z):=by simp[AF,List.replicate_succ]
  rw[hs]
  by_cases h:k<(cells z).length
  ·rw[ArP h,Nat.mod_eq_of_lt h]
  ·rw[ApR (by omega),ih (k-(cells z).length) (by grind)]
   congr 1
   exact(Nat.mod_eq_sub_mod (by omega)).symm
theorem lU{μ:Id->Option Value}{H:Addr->Option Value}{z:V}{zv:Value}{sz:Nat}(hc:AG μ H (cells z) zv.cells.toList)(hs:zv.cells.size=sz)(hpos:0<sz){n m:Nat}(hnm:n<=m) :
  AG μ H (AF (List.replicate n z)) ((madeCells zv.cells (m*sz)).toList.take (n*sz)):=by
 have hl:(cells z).length=sz:=by rw[hc.len];simpa using hs
 have hle:n*sz<=m*sz:=AsY _ hnm
 have hat:∀k v,((madeCells zv.cells (m*sz)).toList.take (n*sz))[k]?=some v->k<n*sz/\zv.cells.toList[k % sz]?=some v:=by
  intro k v h
  rw[AsW] at h
  split at h
  ·rename_i hk
   refine⟨hk,?_⟩
   have hm:k % sz<sz:=Nat.mod_lt _ hpos
   have hk2:k<m*sz:=by omega
   simp only[madeCells,Array.toList_map,Aqt] at h
   grind
  ·cases h
 refine⟨⟨?_,fun k c v h1 h2=>?_⟩,fun v hv=>?_⟩
 ·rw[EU (sz:=sz) (fun e he=>by grind)]
  rw[List.length_replicate,AtS,As3,size_madeCells,Nat.min_eq_left hle]
 ·obtain⟨hk,h3⟩:=hat k v h2
  rw[Mx z n k (by rw[hl];exact hk),hl] at h1
  exact hc.at_ _ c v h1 h3
 ·obtain⟨k,hk⟩:=ApX.1 hv
  obtain⟨_,h3⟩:=hat k v hk
  exact hc.one v (Ai1 h3)
section
variable{W0 w w':World}{σ:Ak}{n n':Nat}{μ:Id→Option Value}{H:Addr→Option Value}
theorem Hp.rename{id0 id1:Id}{e:AC}{val:Value}(hp:Hp W0 ((id0,e)::σ) n μ H w)(hm:μ id0=some val)(h0:lk σ id0=none)(h1:μ id1=none)(hn:id1.1<n) :
  Hp W0 ((id1,e)::σ) n (Ee μ id1 val) H w/\∀bk,EK (Ee μ id1 val) ((id1,e)::σ) bk->EK μ ((id0,e)::σ) bk:=by
 have hmono:=Bv (v:=val) h1
 have old:∀id' e',lk σ id'=some e'->id'≠id0/\id'≠id1/\lk ((id0,e)::σ) id'=some e'/\Ee μ id1 val id'=μ id':=by
  intro id' e' h
  have hne0:id'≠id0:=by grind
  have hl:lk ((id0,e)::σ) id'=some e':=by simp only[lk];grind
  have hne1:id'≠id1:=by
   rintro rfl
   obtain⟨_,hm⟩:=(hp.ents _ _ hl).named
   rw[h1] at hm;cases hm
  exact⟨hne0,hne1,hl,B9 _ _ hne1⟩
 have l0:lk ((id0,e)::σ) id0=some e:=by simp[lk]
 have via:∀id' e',lk ((id1,e)::σ) id'=some e'->∃id'',lk ((id0,e)::σ) id''=some e'/\Ee μ id1 val id'=μ id''/\(id'=id1/\id''=id0\/id'=id''/\id'≠id1/\id''≠id0):=by
  intro id' e' h
  simp only[lk] at h
  split at h
  ·rename_i h2;subst h2;cases h;exact⟨id0,l0,by rw[Ar,hm],.inl ⟨rfl,rfl⟩⟩
  grind
 have own':∀bk,EK (Ee μ id1 val) ((id1,e)::σ) bk->EK μ ((id0,e)::σ) bk:=by
  rintro bk ⟨id',e',hl,hb⟩
  obtain⟨id'',hl',hmu,_⟩:=via _ _ hl
  exact⟨id'',e',hl',by rw[<-hmu];exact hb⟩
 refine⟨⟨hp.base,hp.pins,?_,fun bk ho=>hp.unp bk (own' bk ho),?_,?_⟩,own'⟩
 ·intro id' e' hl
  obtain⟨id'',hl',hmu,hcase⟩:=via _ _ hl
  have hent:=hp.ents _ _ hl'
  cases e' with
  | box v=>
   obtain⟨bk,vals,t,hm',hB,hh,hc⟩:=hent
   exact⟨bk,vals,t,by rw[hmu];exact hm',hB,hh,hc.mono hmono (fun _ _ h=>h)⟩
  | tbox t v=>
   obtain⟨bk,vals,hm',hB,hh,hc⟩:=hent
   exact⟨bk,vals,by rw[hmu];exact hm',hB,hh,hc.mono hmono (fun _ _ h=>h)⟩
  | arr e sz es=>
   obtain⟨v,vals,hm',r1,r2,r3,r4,hc⟩:=hent
   exact⟨v,vals,by rw[hmu];exact hm',r1,r2,r3,r4,hc.mono hmono (fun _ _ h=>h)⟩
  | map es=>
   obtain⟨r,mes,clock,hm',hB,hh,hc⟩:=hent
   exact⟨r,mes,clock,by rw[hmu];exact hm',hB,hh,hc.mono hmono (fun _ _ h=>h)⟩
  | it l pos=>
   obtain⟨r,hm',hB,hh⟩:=hent
   exact⟨r,by rw[hmu];exact hm',hB,hh⟩
  | mit mid since seen stepped=>
   obtain⟨r,m,hm',hB,hm2,hh⟩:=hent
   exact⟨r,m,by rw[hmu];exact hm',hB,hmono _ _ hm2,hh⟩
  | loop nt env ps a b st pd=>
   obtain⟨l,r,hm',hB,hh,hx,hv⟩:=hent
   exact⟨l,r,by rw[hmu];exact hm',hB,hh,hx,fun s=>(hv s).mono hmono (fun _ _ h=>h)⟩
 ·intro i1 e1 i2 e2 bk l1 l2 b1 b2
  obtain⟨j1,l1',m1,c1⟩:=via _ _ l1
  obtain⟨j2,l2',m2,c2⟩:=via _ _ l2
  rw[m1] at b1
  rw[m2] at b2
  have:=hp.sep _ _ _ _ bk l1' l2' b1 b2
  grind
 ·intro k hk
  have:k≠id1:=by rintro rfl;omega
  rw[B9 _ _ this]
  exact hp.bd k hk
end
theorem I8{P:Program}{f:FuncId}(hc:callable P f=true)(args:Array Value)(w:World):(callFunc f args).run P w=.ok (.enter f args) w:=by
 unfold callable at hc
 split at hc
 ·rename_i fn hf
  simp only[Aav,AmN] at hc
  have hb:fn.body.isNone=false:=by cases h:fn.body<;>simp_all
  unfold callFunc
  simp only[Afu,run_program,AfH,hf,hc.2,AcL,if_false,hb,Ai0]
 ·cases hc
section ops
variable{P:Program}{W0:World}{ep nt:Nat}{o:Oper}{d:Option Nat}{env:AD}{σ σ':Ak}{n:Nat}{μ:Id→Option Value}{H:Addr→Option Value}{a:Act}{w:World}{v:V}
variable(hr:Rl μ H nt env a)(hp:Hp W0 σ n μ H w)
theorem Cm{c:Call}{g:Operand}{f:FuncId}{first caps:Array Value}(hc:callable P f=true)(ho:o.op=.call c)(hcal:c.callee=.value g)(hg:a.eval g=.func (.func f) first caps)(w:World) :
  (execOp a.eval o).run P w=.ok (.enter f (first++c.args.map a.eval++caps)) w:=by
 simp only[execOp,ho,resolve,hcal,hg,Deferred.ofValue,Afu,Ai0,AfH,invoke]
 exact I8 hc _ w
theorem A8.called{f:FuncId}{args:Array Value}{vargs:List V}{σi σo:Ak}(hp:Hp W0 σ n μ H w)(hrun:(execOp a.eval o).run P w=.ok (.enter f args) w)(hargs:VRels μ H vargs args.toList)
  (hret:Am P W0 f vargs σi v σo)(hs:∀id e,lk σi id=some e->lk σ id=some e):A8 P W0 ep o d σ n μ H a w v (over σi σo σ):=by
 intro next Q K
 unfold Oper.wp
 rw[hrun]
 have:=hret.run n w μ H args.toList (hp.part hs) hargs
 simp only[Oper.upon]
 rw[AsI] at this
 refine AqY this ?_
 rintro e w' ⟨val,μ',H',n',rfl,hv,hp',hle,hf,hfresh⟩
 have hb:=hp.back hs hp' hf
 exact K val n' μ' H' w' ⟨hv,hb.1,hle,hb.2,fun id hid _ hnone=>hfresh id hid hnone⟩
theorem GQ(σ:Ak):over [] [] σ=σ:=by simp[over,lk]
theorem Ot{σi σ:Ak}(hs:∀id e,lk σi id=some e->lk σ id=some e)(id:Id):lk (over σi σi σ) id=lk σ id:=by
 rw[FW]
 grind
theorem U4{σ τ:Ak}{μ:Id->Option Value}{bk:Nat}(h:∀id,lk σ id=lk τ id):EK μ σ bk↔EK μ τ bk:=by
 unfold EK;simp only[h]
theorem Hp.eqv{σ τ:Ak}{n:Nat}{μ:Id->Option Value}{H:Addr->Option Value}{w:World}(h:∀id,lk σ id=lk τ id)(hp:Hp W0 σ n μ H w):Hp W0 τ n μ H w:=
 ⟨hp.base,hp.pins,fun id e hl=>hp.ents id e (by rw[h];exact hl),fun bk hb=>hp.unp bk ((U4 h).2 hb),fun id e id' e' bk h1 h2=>hp.sep id e id' e' bk (by rw[h];exact h1) (by rw[h];exact h2),hp.bd⟩
theorem A8.eqv{σ1 σ':Ak}(h:∀id,lk σ1 id=lk σ' id)(hg:A8 P W0 ep o d σ n μ H a w v σ1):A8 P W0 ep o d σ n μ H a w v σ':=
 fun next Q K=>hg next Q fun val n' μ' H' w' hd=>K val n' μ' H' w' ⟨hd.rel,hd.hp.eqv h,hd.le,⟨hd.fr.mu,hd.fr.hp,hd.fr.size,hd.fr.keep,hd.fr.pin,fun bk hb ho=>hd.fr.dom bk hb ((U4 h).2 ho)⟩,hd.fresh⟩
theorem A8.calledN{f:FuncId}{args:Array Value}{vargs:List V}{σi σo:Ak}{x:AC}(hp:Hp W0 σ n μ H w)(hrun:(execOp a.eval o).run P w=.ok (.enter f args) w)(hargs:VRels μ H vargs args.toList)
  (hn:ep<n)(hf:∀dd,d=some dd->μ (ep,dd)=none){dd:Nat}(hd:d=some dd)
  (hret:JR P W0 f vargs σi x σo)(hs:∀id e,lk σi id=some e->lk σ id=some e):A8 P W0 ep o d σ n μ H a w (.arr (ep,dd)) (((ep,dd),x)::over σi σo σ):=by
 intro next Q K
 unfold Oper.wp
 rw[hrun]
 have:=hret.run n w μ H args.toList (hp.part hs) hargs
 simp only[Oper.upon]
 rw[AsI] at this
 refine AqY this ?_
 rintro e' w' ⟨val,μ',H',n',id0,rfl,hm,h1c,hm0,hl0,hp',hle,hfr,hfresh⟩
 have hb:=hp.back hs hp' hfr
 have hov:over σi ((id0,x)::σo) σ=(id0,x)::over σi σo σ:=rfl
 rw[hov] at hb
 have hlo:lk (over σi σo σ) id0=none:=by
  rw[FW,hl0]
  simp only
  split
  ·cases h:lk σ id0 with
   | none=>rfl
   | some x=>
    obtain⟨_,hm'⟩:=(hp.ents _ _ h).named
    rw[hm0] at hm';cases hm'
  ·rfl
 have hnone:μ' (ep,dd)=none:=hfresh (ep,dd) hn (hf dd hd)
 obtain⟨hp2,hown⟩:=hb.1.rename hm hlo hnone (Alg hn hle)
 refine K val n' _ H' w' ⟨.arr _ _ (Ar _ _ _) h1c,hp2,hle,⟨fun id x hx=>Bv hnone id x (hb.2.mu id x hx),hb.2.hp,hb.2.size,hb.2.keep,hb.2.pin,fun bk hbk ho=>hb.2.dom bk hbk (hown bk ho)⟩,fun id hid hne hnone'=>?_⟩
 rw[B9 _ _ (hne dd hd)]
 exact hfresh id hid hnone'
include hr hp
theorem AgO{t e:TypeId}{l' c':Operand}{l c:X}{z:V}{sz:Nat}(ho:o.op=.makeSlice t l' c')(ht:BC P t=some e)(hel:GR P e sz=true)(hz:Fn P e z=true)(hl:BD l' l=true)(hc:BD c' c=true)
  (hn:ep<n)(hf:∀dd,d=some dd->μ (ep,dd)=none){dd:Nat}(hd:d=some dd){k k':IntKind}{p q:Nat}(el:ev (get env) l=.i k (Int.ofNat p))(ec:ev (get env) c=.i k' (Int.ofNat q))(hpq:p<=q)(hq:q<=AM)(hv:v=.arr (ep,dd)) :
  A8 P W0 ep o d σ n μ H a w v (((ep,dd),.arr e sz (List.replicate p z))::σ):=by
 have hl':=Ao hr hl
 have hc':=Ao hr hc
 rw[el] at hl'
 rw[ec] at hc'
 have e1:=hl'.i_inv
 have e2:=hc'.i_inv
 have hu:=B5 ht
 obtain⟨i,zv,hi,hisz,hpos,hby,hzv,hzs,_⟩:=GG hel
 obtain⟨i',zv',hi',hzv',hokz⟩:=DN hz
 rw[hi] at hi'
 cases hi'
 rw[hzv] at hzv'
 cases hzv'
 have hcz:=(IF (μ:=μ) (H:=H) hokz).2
 have hmono:=Bv (v:=.slice (some ⟨w.heap.size,0,none⟩) p q) (hf dd hd)
 subst hisz
 subst hv
 have hb:=Rr (k:=q) hr hp hq hby
 have hrun:=run_make (P:=P) w t e i zv hu hi hzv k k' (Int.ofNat p) (Int.ofNat q) (by simp) (by simpa using hpq) (by
  have:((i.bytes*q:Nat):Int)<=281474976710656:=by rw[Nat.mul_comm];omega
  rw[Int.natCast_mul] at this
  exact this) (by simp only[AM,AtZ] at *;omega)
 have hrel:=lU hcz hzs hpos hpq
 refine A8.made hp hd hn hf (obj:=.cells (madeCells zv.cells (q*i.size)) e) (val:=.slice (some ⟨w.heap.size,0,none⟩) p q) ?_ (fun bk h=>by simpa[BI] using h.symm)
  ⟨_,_,Ar _ _ _,rfl,⟨?_,.inr ⟨w.heap.size,q,_,by simp,hp.base.size,heap_alloc_new w _,by simpa using hpq,by simp only[maxLen,AM] at *;omega,size_madeCells _ _,rfl⟩⟩,by simp;omega,fun x hx=>?_,?_⟩ (.arr _ _ (Ar _ _ _) rfl)
 ·simp only[execOp,ho,e1,e2,Afu,hrun,AfH,Ai0]
  rfl
 ·simp only[List.length_replicate,AtS,As3,size_madeCells]
  simp_all
 ·rw[List.eq_of_mem_replicate hx,hcz.len]
  simpa using hzs
 ·simpa using hrel.mono hmono (fun _ _ h=>h)
theorem Q5{op:AE}(hok:ME P o.op op=true)(hdst:o.dst=d)(hn:ep<n)(hf:∀dd,d=some dd->μ (ep,dd)=none)(hst:KE op=true->d=none)
  (he:E P W0 ep d op (get env) σ v σ'):A8 P W0 ep o d σ n μ H a w v σ':=by
 have callArgs:∀{c:Call} {args:List X},A5 c.args.toList args=true->VRels μ H (args.map (ev (get env))) (c.args.map a.eval).toList:=by
  intro c args h
  have:=Cz hr h
  simpa using this
 have fnRef:∀f,a.eval (.func f)=.func (.func f) #[] #[]:=fun f=>rfl
 unfold ME at hok
 unfold E at he
 cases op with
 | mv y=>
  simp only at hok he
  obtain⟨he,rfl⟩:=he
  split at hok
  ·rename_i x ho;exact Akt hr hp (.inl ho) hok he
  ·rename_i x ho;exact Akt hr hp (.inr ho) hok he
  ·cases hok
 | pick c x y=>
  simp only at hok he
  obtain⟨t,ht,he,rfl⟩:=he
  split at hok
  ·rename_i c' x' y' ho
   simp only[Aav] at hok
   exact Ae9 hr hp ho hok.1.1 hok.1.2 hok.2 ht he
  ·cases hok
 | bin op x y=>
  simp only at hok he
  obtain⟨he,rfl⟩:=he
  split at hok
  ·rename_i op' t x' y' ty ho
   simp only[Aav,beq_iff_eq] at hok
   obtain⟨⟨rfl,h1⟩,h2⟩:=hok
   exact AmI hr hp ho h1 h2 he
  ·cases hok
 | eqb ne x y=>
  simp only at hok he
  obtain⟨p,q,ex,ey,he,rfl⟩:=he
  split at hok
  ·rename_i op' t x' y' ty ho
   simp only[Aav,beq_iff_eq] at hok
   obtain⟨⟨⟨h0,h1⟩,h2⟩,h3⟩:=hok
   exact AmD hr hp ho h0 h1 h2 h3 ex ey he
  ·cases hok
 | not x=>
  simp only at hok he
  obtain⟨p,ex,he,rfl⟩:=he
  split at hok
  ·rename_i t x' ho;exact AkN hr hp ho hok ex he
  ·cases hok
 | neg x=>
  simp only at hok he
  obtain⟨k,p,ex,he,rfl⟩:=he
  split at hok
  ·rename_i t x' ho;exact AkK hr hp ho hok ex he
  ·cases hok
 | cvi k x=>
  simp only at hok he
  obtain⟨k',p,ex,he,rfl⟩:=he
  split at hok
  ·rename_i src dst x' ho
   simp only[Aav,beq_iff_eq] at hok
   exact Akb hr hp ho hok.1.1 hok.1.2 hok.2 ex he
  ·cases hok
 | cvs x=>
  simp only at hok he
  obtain⟨l,ex,he,rfl⟩:=he
  split at hok
  ·rename_i src dst x' ho
   simp only[Aav] at hok
   exact AiD hr hp ho hok.1.1 hok.1.2 hok.2 ex he
  ·cases hok
 | fld x off m ag=>
  simp only at hok he
  obtain⟨ha,he,rfl⟩:=he
  split at hok
  ·rename_i t x' f ho
   simp only[Aav] at hok
   exact Alm hr hp ho hok.1 hok.2 ha he
  ·cases hok
 | faddr x off=>
  simp only at hok he
  obtain⟨he,rfl⟩:=he
  split at hok
  ·rename_i t x' f ho
   simp only[Aav] at hok
   exact xK hr hp ho hok.1 hok.2 he
  ·cases hok
 | iaddr x i e sz=>
  simp only at hok he
  obtain⟨he,rfl⟩:=he
  split at hok
  ·rename_i t x' i' ho
   simp only[Aav,beq_iff_eq] at hok
   exact wZ hr hp ho hok.1.1.1 hok.1.1.2 hok.1.2 hok.2 he
  ·cases hok
 | idx x i=>
  simp only at hok he
  obtain⟨l,k,m,c,ex,ei,h0,hc,he,rfl⟩:=he
  split at hok
  ·rename_i t x' i' ho
   simp only[Aav] at hok
   exact AjE hr hp ho hok.1.1 hok.1.2 hok.2 ex ei h0 hc he
  ·cases hok
 | load x m ag=>
  simp only at hok he
  obtain⟨he,rfl⟩:=he
  split at hok
  ·rename_i t x' ho
   simp only[Aav,beq_iff_eq] at hok
   exact Ahn hr hp ho hok.1.1 hok.1.2 hok.2 he
  ·cases hok
 | store ax x m=>
  simp only at hok he
  obtain⟨h1,h2,he⟩:=he
  split at hok
  ·rename_i t a' x' ho
   simp only[Aav,beq_iff_eq] at hok
   exact uD hr hp ho hok.1.1 hok.2 hok.1.2 hdst (hst rfl) h1 h2 he
  ·cases hok
 | box x=>
  simp only at hok he
  obtain⟨dd,hd,h1,h2,rfl⟩:=he
  split at hok
  ·rename_i t x' ho
   exact AiM hr hp ho hok hn hf hd h1 h2
  ·cases hok
 | alloc z=>
  simp only at hok he
  obtain⟨dd,hd,h2,rfl⟩:=he
  split at hok
  ·rename_i t ho
   exact wK hr hp ho hok hn hf hd h2
  ·cases hok
 | build z ps=>
  simp only at hok he
  obtain⟨hall,⟨cs,hcs,he⟩,rfl⟩:=he
  split at hok
  ·rename_i t ps' ho
   simp only[Aav] at hok
   exact yR hr hp ho hok.1.1 hok.1.2 hok.2 hall hcs he
  ·cases hok
 | msl own e sz xs=>
  simp only at hok he
  obtain⟨hall,he⟩:=he
  split at hok
  ·rename_i t len ps ho
   simp only[Aav,beq_iff_eq,decide_eq_true_eq] at hok
   exact AiB hr hp ho hok.1.1.1.1 hok.1.1.1.2 hok.1.1.2 hok.1.2 hok.2 hn hf hall he
  ·cases hok
 | slS x lo hi=>
  simp only at hok he
  obtain⟨l,p,q,ex,h1,h2,h3,h4,he,rfl⟩:=he
  split at hok
  ·rename_i t x' lo' hi' ho
   simp only[Aav] at hok
   exact Anl hr hp ho hok.1.1.1 hok.1.1.2 hok.1.2 hok.2 ex h1 h2 h3 h4 he
  ·cases hok
 | slL x lo hi sz=>
  simp only at hok he
  obtain⟨l,p,q,ex,h1,h2,h3,h4,h5,he,rfl⟩:=he
  split at hok
  ·rename_i t x' lo' hi' ho
   simp only[Aav,beq_iff_eq] at hok
   obtain⟨e,ht⟩:=Ap9.1 hok.1.1.1.1
   have hse:=hok.1.1.1.2
   rw[ht] at hse
   exact AmP hr hp ho ht hse hok.1.1.2 hok.1.2 hok.2 ex h1 h2 h3 h4 h5 he
  ·cases hok
 | lenS x=>
  simp only at hok he
  obtain⟨l,ex,he,rfl⟩:=he
  split at hok
  ·rename_i c ho
   split at hok
   ·rename_i hcal
    simp only[Aav,beq_iff_eq] at hok
    exact AdN hr hp ho hcal hok.1.1 hok.1.2 hok.2 ex he
   ·cases hok
  ·cases hok
 | lenL x=>
  simp only at hok he
  obtain⟨l,ex,he,rfl⟩:=he
  split at hok
  ·rename_i c ho
   split at hok
   ·rename_i hcal
    simp only[Aav,beq_iff_eq] at hok
    exact AfP hr hp ho hcal hok.1.1 hok.1.2 hok.2 ex he
   ·cases hok
  ·cases hok
 | app s x e sz=>
  simp only at hok he
  obtain⟨dd,xs,hd,h1,h2,h3,he⟩:=he
  split at hok
  ·rename_i c ho
   split at hok
   ·rename_i hcal
    simp only[Aav,beq_iff_eq] at hok
    exact Aml hr hp ho hcal hok.1.1.1 hok.1.1.2 hok.1.2 hok.2 hn hf hd h1 h2 h3 he
   ·cases hok
  ·cases hok
 | apps s x e=>
  simp only at hok he
  obtain⟨dd,l,hd,h1,h3,he⟩:=he
  split at hok
  ·rename_i c ho
   split at hok
   ·rename_i hcal
    simp only[Aav,beq_iff_eq] at hok
    exact Agg hr hp ho hcal hok.1.1.1.1 hok.1.1.1.2 hok.1.1.2 hok.1.2 hok.2 hn hf hd h1 h3 he
   ·cases hok
  ·cases hok
 | slT x hi sz=>
  simp only at hok he
  obtain⟨dd,id,e,es,q,hd,h1,h2,h3,h4,h5,rfl⟩:=he
  split at hok
  ·rename_i t x' hi' ho
   simp only[Aav,beq_iff_eq] at hok
   obtain⟨⟨⟨k1,k2⟩,k3⟩,k4⟩:=hok
   obtain⟨e0,he0⟩:=Ap9.1 k1
   rw[he0] at k2
   exact AmZ hr hp ho he0 k2 k3 k4 hn hf hd h1 h2 h3 h4 h5
  ·cases hok
 | ext x k=>
  simp only at hok he
  obtain⟨vs,ex,he,rfl⟩:=he
  split at hok
  ·rename_i x' k' ho
   simp only[Aav,beq_iff_eq] at hok
   obtain⟨rfl,hx⟩:=hok
   exact AkA hr hp ho hx ex he
  ·cases hok
 | call f args=>
  simp only at hok he
  obtain⟨he,rfl⟩:=he
  split at hok
  ·rename_i c ho
   split at hok
   ·rename_i f' hcal
    simp only[Aav,beq_iff_eq] at hok
    obtain⟨rfl,hx⟩:=hok
    have:=A8.called (ep:=ep) (d:=d) hp (Cm he.callable ho hcal (fnRef _) w) (by simpa using callArgs hx) he (fun id e h=>by simp[lk] at h)
    rwa [GQ] at this
   ·cases hok
  ·cases hok
 | calls f args=>
  simp only at hok he
  obtain⟨σi,σo,he,hs,rfl⟩:=he
  split at hok
  ·rename_i c ho
   split at hok
   ·rename_i f' hcal
    simp only[Aav,beq_iff_eq] at hok
    obtain⟨rfl,hx⟩:=hok
    exact A8.called hp (Cm he.callable ho hcal (fnRef _) w) (by simpa using callArgs hx) he hs
   ·cases hok
  ·cases hok
 | callr f args=>
  simp only at hok he
  obtain⟨⟨σi,he,hs⟩,rfl⟩:=he
  split at hok
  ·rename_i c ho
   split at hok
   ·rename_i f' hcal
    simp only[Aav,beq_iff_eq] at hok
    obtain⟨rfl,hx⟩:=hok
    exact A8.eqv (fun id=>Ot hs id) (A8.called hp (Cm he.callable ho hcal (fnRef _) w) (by simpa using callArgs hx) he hs)
   ·cases hok
  ·cases hok
 | calln f args=>
  simp only at hok he
  obtain⟨dd,σi,σo,x,hd,he,hs,rfl,rfl⟩:=he
  split at hok
  ·rename_i c ho
   split at hok
   ·rename_i f' hcal
    simp only[Aav,beq_iff_eq] at hok
    obtain⟨rfl,hx⟩:=hok
    exact A8.calledN hp (Cm he.callable ho hcal (fnRef _) w) (by simpa using callArgs hx) hn hf hd he hs
   ·cases hok
  ·cases hok
 | callv h args=>
  simp only at hok he
  obtain⟨f,first,caps,eh,he,rfl⟩:=he
  split at hok
  ·rename_i c ho
   split at hok
   ·rename_i h' hcal
    simp only[Aav] at hok
    have hh:=Ao hr hok.1
    rw[eh] at hh
    obtain⟨fv,cv,e1,r1,r2⟩:=hh.fn_inv
    have:=A8.called (ep:=ep) (d:=d) hp (Cm he.callable ho hcal e1 w) (by simpa using(r1.append (callArgs hok.2)).append r2) he (fun id e h=>by simp[lk] at h)
    rwa [GQ] at this
   ·cases hok
  ·cases hok
 | callvs h args=>
  simp only at hok he
  obtain⟨f,first,caps,σi,σo,eh,he,hs,rfl⟩:=he
  split at hok
  ·rename_i c ho
   split at hok
   ·rename_i h' hcal
    simp only[Aav] at hok
    have hh:=Ao hr hok.1
    rw[eh] at hh
    obtain⟨fv,cv,e1,r1,r2⟩:=hh.fn_inv
    exact A8.called hp (Cm he.callable ho hcal e1 w) (by simpa using(r1.append (callArgs hok.2)).append r2) he hs
   ·cases hok
  ·cases hok
 | mkfn f first caps=>
  simp only at hok he
  obtain⟨he,rfl⟩:=he
  split at hok
  ·rename_i f' first' caps' ho
   simp only[Aav,beq_iff_eq] at hok
   obtain⟨⟨rfl,h1⟩,h2⟩:=hok
   exact AeY hr hp ho h1 h2 he
  ·cases hok
 | mksl l c z e sz=>
  simp only at hok he
  obtain⟨dd,k,k',p,q,hd,el,ec,h1,h2,h3,rfl⟩:=he
  split at hok
  ·rename_i t l' c' ho
   simp only[Aav,beq_iff_eq] at hok
   exact AgO hr hp ho hok.1.1.1.1 hok.1.1.1.2 hok.1.1.2 hok.1.2 hok.2 hn hf hd el ec h1 h2 h3
  ·cases hok
 | mx lo x xs=>
  simp only at hok he
  obtain⟨he,rfl⟩:=he
  split at hok
  ·rename_i c ho
   split at hok
   ·rename_i b hcal
    simp only[Aav,beq_iff_eq] at hok
    exact Ao8 hr hp ho hcal hok.1 hok.2 he
   ·cases hok
  ·cases hok
 | nilck x=>
  simp only at hok he
  obtain⟨h1,he,rfl⟩:=he
  split at hok
  ·rename_i x' ho;exact tH hr hp ho hok h1 he
  ·cases hok
 | pu k xs=>
  simp only at hok he
  obtain⟨he,rfl⟩:=he
  exact Aqn hr hp hok he
 | rdm k m xs=>
  simp only at hok he
  obtain⟨⟨id,e,hm,hl,he⟩,rfl⟩:=he
  exact Ai9 hr hp hok hm hl he
 | wrm k m xs=>
  simp only at hok he
  obtain⟨id,e,e',hm,hl,he,rfl⟩:=he
  exact An0 hr hp hok hdst (fun h=>hst (by cases k<;>first|rfl|cases h)) hm hl he
 | mkm k xs=>
  simp only at hok he
  obtain⟨dd,e,hd,he,hv,rfl⟩:=he
  exact Aj6 hr hp hok hn hf hd he hv
 | frz m k=>
  simp only at hok he
  obtain⟨id,cs,hm,hl,hlen,hone,hv,rfl⟩:=he
  split at hok
  ·rename_i t x' ho
   simp only[Aav] at hok
   exact Al7 hr hp ho hok.1 hok.2 hm hl hlen hone hv
  ·cases hok
 | mrange m=>
  simp only at hok he
  obtain⟨dd,mid,es,hd,hm,hl,hv,rfl⟩:=he
  split at hok
  ·rename_i t x' ho
   simp only[Aav] at hok
   exact pZ hr hp ho hok.1 hok.2 hn hf hd hm hl hv
  ·cases hok
 | mentry m=>
  simp only at hok he
  obtain⟨id,mid,since,seen,i,es,kv,hm,hl,hlast,hlm,hkv,hv,rfl⟩:=he
  split at hok
  ·rename_i x' ho
   exact qC hr hp ho hok hm hl hlast hlm hkv hv
  ·cases hok
 | eqr ne x y=>
  simp only at hok he
  obtain⟨he,rfl⟩:=he
  exact AnF hr hp hok he
 | callw g xs=>exact he.elim
 | btos x=>
  simp only at hok he
  obtain⟨es,ex,he,rfl⟩:=he
  split at hok
  ·rename_i src dst x' ho
   simp only[Aav,beq_iff_eq] at hok
   exact AfX hr hp ho hok.1.1 hok.1.2 hok.2 ex he
  ·cases hok
end ops
end Go.Ir
end
