/- A part of the proof that the law EvalFlat answers true at every input of a bulk of at most 2^20. -/
import Derived.Below
import Derived.Orders
import Derived.Laws.OwnMore
import Derived.Laws.Entries
import Derived.Laws.Rows
import Derived.Maps.AppendAt
import Derived.Laws.Strings2
import Derived.Laws.Concat
import Derived.Laws.Cover1
import Derived.Laws.Slices
import Derived.Laws.MakeOwn
import Derived.Lib.AppendStr
import Derived.Laws.StructEq
import Derived.MapKept
import Derived.Laws.BytesString
import Derived.Laws.Cover3
import Derived.LaidEql
set_option linter.all false
section
namespace Go.Ir
theorem _h:True:=trivial
def AaS:=@Bool.and_eq_true
def Ab4:=@Nat.lt_succ_self
def Ab5:=@List.mem_cons_of_mem
def Ab6:=@Nat.le_refl
def Ab7:=@Bool.false_eq_true
def Ab8:=@eq_false
def Ab9:=@if_false
def AbA:=@if_true
def AbS:=@Option.bind_eq_some_iff
def Aea:=@List.mem_cons_self
def Afb:=@List.length_map
def Afo:=@Option.map_eq_some_iff
def AfJ:=@List.mem_append
def AfL:=@if_neg
def Ahk:=@List.mem_cons
def AiZ:=@of_eq_false
def Ajd:=@List.length_append
def Amm:=@if_pos
def AjK:=@beq_iff_eq
def Am7:=@List.getElem?_eq_getElem
def An9:=@List.length_cons
def Aov:=@List.mem_map
def Aow:=@Go.Result.andThen_ok
def Ao0:=@Ne.symm
def Ao1:=@Go.Sem.run_bind
def Ao3:=@Option.some.injEq
def Ao5:=@List.getElem?_eq_some_iff
def Ao6:=@List.mem_of_getElem?
def Ao7:=@List.map_cons
def Ao8:=@List.all_eq_true
def AoW:=@Nat.le_trans
def Arp:=@eq_true
def ArI:=@List.getElem?_map
def AsZ:=@Bool.not_eq_true'
def At3:=@Go.run_underlying
def At9:=@List.append_nil
def AtX:=@List.length_nil
def Aur:=@Go.Sem.run_pure
def Au5:=@List.getElem?_append_right
def AuB:=@List.take_length
def AuD:=@Nat.lt_of_lt_of_le
def AuO:=@Array.getElem?_eq_some_iff
def Ava:=@List.map_nil
def Avb:=@Nat.le_succ
def Avc:=@List.nil_append
def Avv:=@decide_eq_true_eq
def Avz:=@Nat.zero_le
def AvC:=@List.cons_append
def AvD:=@Array.getD_eq_getD_getElem?
def AvV:=@of_decide_eq_false
def Awz:=@of_decide_eq_true
def AwY:=@Option.isSome_some
def Axe:=@List.mem_append_left
def Axf:=@List.mem_append_right
def Axx:=@List.eq_nil_of_length_eq_zero
def AxA:=@Bool.true_and
def AxB:=@List.take_succ_cons
def AxD:=@List.getElem?_append_left
def AxK:=@Array.getElem?_eq_getElem
def AxL:=@List.mem_iff_getElem?
def AxN:=@Array.getElem?_toList
def AxV:=@Option.isSome_iff_exists
def Ayd:=@List.mem_filter
def Aym:=@Bool.eq_iff_iff
def Ayq:=@Nat.eq_of_beq_eq_true
def Ay5:=@List.eq_nil_or_concat
def Ay6:=@List.drop_succ_cons
def Ay8:=@Bool.eq_false_or_eq_true
def Ay9:=@Bool.not_eq_false'
def AyF:=@Go.RowKit.Below.refl
def AyN:=@Bool.false_and
def AyQ:=@Option.isSome_none
def AyT:=@List.foldl_cons
def Azg:=@List.take_zero
def Azh:=@List.concat_eq_append
def Azq:=@List.getElem?_cons_succ
def Azs:=@List.append_assoc
def Azt:=@Bool.or_eq_false_iff
def Azv:=@List.drop_zero
def Azw:=@Option.map_some
def Azx:=@Bool.not_true
def Az0:=@Nat.lt_or_ge
def Az5:=@Go.Calls.mono
def Az7:=@List.ext_getElem?
def AzB:=@List.mem_of_mem_take
def AzE:=@List.mem_singleton
def AzI:=@List.nodup_cons
def AzL:=@List.not_mem_nil
def AzN:=@Nat.zero_add
def AzQ:=@Bool.not_false
def AzS:=@Bool.or_eq_true
def AzX:=@List.pairwise_append
def AzY:=@Nat.beq_eq
def A0d:=@cond_false
def A0e:=@Bool.and_true
def A0g:=@Go.MapKept.run_getObj_map
def A0j:=@Bool.and_false
def A0n:=@List.nodup_append
def A0u:=@Array.length_toList
def A0v:=@List.map_congr_left
def A0w:=@List.getElem?_take
def A0z:=@List.any_eq_true
def A00:=@cond_true
def A03:=@true_and
def A0A:=@List.mem_range
def A0B:=@List.getElem?_cons_zero
def A0D:=@List.map_append
def A0E:=@List.length_pos_iff
def A0H:=@Nat.le_of_ble_eq_true
def A0M:=@Nat.mul_le_mul_right
def A0P:=@List.getElem?_modify
def A0Q:=@Bool.false_or
def A0T:=@Bool.or_false
def A0U:=@decide_eq_false_iff_not
def A1a:=@Nat.add_sub_cancel'
def A1b:=@List.mem_flatMap
def A1c:=@Option.bind_some
def A1d:=@List.foldl_nil
def A1e:=@List.dropWhile_sublist
def A1f:=@Nat.add_zero
def A1g:=@Nat.add_assoc
def A1h:=@List.flatMap_cons
def A1i:=@Int.toNat_natCast
def A1j:=@List.mem_of_mem_drop
def A1k:=@Array.toArray_toList
def A1l:=@List.sublist_append_right
def A1m:=@List.set_eq_take_append_cons_drop
def A1n:=@Go.heap_alloc_new
def A1o:=@congrArg
def A1p:=@List.isEmpty_iff
def A1q:=@List.filterMap_cons_some
def A1r:=@Bool.or_true
def A1s:=@beq_eq_false_iff_ne
def A1t:=@Array.getElem?_setIfInBounds_ne
def A1u:=@List.getElem?_drop
def A1v:=@Array.all_eq_true'
def A1w:=@List.pairwise_cons
def A1x:=@Nat.ble_eq
def A1y:=@UInt8.toNat_inj
def A1z:=@Go.Oper.upon_value
def A10:=@Int.mul_le_mul_of_nonneg_right
def A11:=@List.take_of_length_le
def A12:=@Go.World.ownsRow_nil
def A13:=@not_false_eq_true
def A14:=@List.drop_drop
def A15:=@List.getElem?_eq_none
def A16:=@List.length_mergeSort
def A17:=@List.map_toArray
def A18:=@List.getElem_mem
def A19:=@Int.ofNat_eq_natCast
def A1A:=@Array.toList_setIfInBounds
def A1B:=@Prod.mk.injEq
def A1C:=@Array.getElem?_append_left
def A1D:=@List.all_cons
def A1E:=@List.filter_eq_self
def A1F:=@Option.isNone_iff_eq_none
def A1G:=@Go.Addr.add_lit
def A1H:=@Nat.eq_zero_or_pos
def A1I:=@Nat.sub_zero
def A1J:=@List.length_modify
def A1K:=@decide_eq_true_iff
def A1L:=@List.filter_append
def A1M:=@List.contains_eq_any_beq
def A1N:=@Nat.mul_le_mul
def A1O:=@List.nodup_nil
def A1P:=@Go.World.block_lt_of_cell?
def A1Q:=@List.filter_cons_of_neg
def A1R:=@List.length_range
def A1S:=@List.foldl_append
def A1T:=@Nat.le_mul_of_pos_left
def A1U:=@List.any_cons
def A1V:=@List.length_take
def A1W:=@List.length_drop
def A1X:=@List.flatMap_nil
def A1Y:=@List.take_append_drop
def A1Z:=@List.singleton_append
def A2a:=@List.modify_succ_cons
def A2b:=@Option.map_none
def A2c:=@List.contains_eq_mem
def A2d:=@Nat.not_lt
def A2e:=@Option.some.inj
def A2f:=@Nat.not_lt_zero
def A2g:=@Int.natCast_add
def A2h:=@List.getElem?_of_mem
def A2i:=@List.map_map
def A2j:=@Array.toList_modify
def A2k:=@List.length_reverse
def A2l:=@Int.toNat_of_nonneg
def A2m:=@List.drop_left
def A2n:=@List.drop_take
def A2o:=@List.take_take
def A2p:=@Nat.add_mul
def A2q:=@List.mem_filterMap
def A2r:=@List.mem_mergeSort
def A2s:=@List.any_eq_false
def A2t:=@Nat.blt_eq
end Go.Ir
namespace Go.Ir
open Go.RowKit
abbrev Id:=Nat×Nat
def AJ:Nat:=2147483648
def AG:Nat:=1099511627776
inductive V where
 | b (x:Bool)
 | i (k:IntKind) (n:Int)
 | s (l:List UInt8)
 | nil
 | sl (es:List V)
 | agg (cs:List V)
 | tup (vs:List V)
 | ref (id:Id) (off:Nat)
 | arr (id:Id)
 | aref (id:Id) (ix:Nat) (sz:Nat) (off:Nat)
 | ep (e:V) (off:Nat)
 | fn (f:FuncId) (first caps:List V)
 | np
 | nf
 | ni
 | nm
 | ub
 | any
 deriving Inhabited
def cells:V->List V
 | .agg cs=>cs
 | v=>[v]
def V.ok:V->Bool
 | .tup _|.any=>false
 | _=>true
def V.one:V->Bool
 | .agg _|.tup _|.any=>false
 | _=>true
def AQ(es:List V):List V:=es.flatMap cells
inductive Ap (μ:Id->Option Value) (H:Addr->Option Value):V->Value->Prop where
 | b (x:Bool):Ap μ H (.b x) (.bool x)
 | i (k:IntKind) (n:Int):Ap μ H (.i k n) (.int k n)
 | s (l:List UInt8) (h:l.length<=AG):Ap μ H (.s l) (.string ⟨l.toArray⟩)
 | nil:Ap μ H .nil (.slice none 0 0)
 | slE (a:Option Addr) (cap:Nat):Ap μ H (.sl []) (.slice a 0 cap)
 | slC (es:List V) (ad:Addr) (cap sz:Nat) (vals:List Value) (hc:es.length<=cap) (hl:es.length<=AJ) (hsz:∀e∈es,(cells e).length=sz)
   (hn:(AQ es).length=vals.length) (h1:∀v∈vals,v.oneCell'=true) (hp:∀(k:Nat) (v:Value),vals[k]?=some v->H (ad.add k)=some v)
   (hv:∀(k:Nat) (c:V) (v:Value),(AQ es)[k]?=some c->vals[k]?=some v->Ap μ H c v):Ap μ H (.sl es) (.slice (some ad) es.length cap)
 | agg (cs:List V) (vals:List Value) (hn:cs.length=vals.length) (h1:∀v∈vals,v.oneCell'=true)
   (hv:∀(k:Nat) (c:V) (v:Value),cs[k]?=some c->vals[k]?=some v->Ap μ H c v):Ap μ H (.agg cs) (.agg vals.toArray)
 | tup (cs:List V) (vals:List Value) (hn:cs.length=vals.length)
   (hv:∀(k:Nat) (c:V) (v:Value),cs[k]?=some c->vals[k]?=some v->Ap μ H c v):Ap μ H (.tup cs) (.tuple vals.toArray)
 | ref (id:Id) (off bk:Nat) (h:μ id=some (.pointer (some ⟨bk,0,none⟩))):Ap μ H (.ref id off) (.pointer (some ⟨bk,off,none⟩))
 | arr (id:Id) (v:Value) (h:μ id=some v) (h1:v.oneCell'=true):Ap μ H (.arr id) v
 | aref (id:Id) (ix sz off bk len cap:Nat) (h:μ id=some (.slice (some ⟨bk,0,none⟩) len cap)):Ap μ H (.aref id ix sz off) (.pointer (some ⟨bk,ix*sz+off,none⟩))
 | ep (e:V) (off:Nat) (ad:Addr) (vals:List Value) (hn:(cells e).length=vals.length) (h1:∀v∈vals,v.oneCell'=true)
   (hp:∀(k:Nat) (v:Value),vals[k]?=some v->H (ad.add k)=some v)
   (hv:∀(k:Nat) (c:V) (v:Value),(cells e)[k]?=some c->vals[k]?=some v->Ap μ H c v):Ap μ H (.ep e off) (.pointer (some (ad.add off)))
 | fn (f:FuncId) (first caps:List V) (fvals cvals:List Value) (hnf:first.length=fvals.length) (hnc:caps.length=cvals.length)
   (hvf:∀(k:Nat) (c:V) (v:Value),first[k]?=some c->fvals[k]?=some v->Ap μ H c v)
   (hvc:∀(k:Nat) (c:V) (v:Value),caps[k]?=some c->cvals[k]?=some v->Ap μ H c v):Ap μ H (.fn f first caps) (.func (.func f) fvals.toArray cvals.toArray)
 | np:Ap μ H .np (.pointer none)
 | nf:Ap μ H .nf .nilFunc
 | ni:Ap μ H .ni .nilIface
 | nm:Ap μ H .nm (.map none)
 | ub (t:Bool):Ap μ H .ub (.bool t)
 | any (v:Value):Ap μ H .any v
structure VRels (μ:Id->Option Value) (H:Addr->Option Value) (cs:List V) (vals:List Value):Prop where
 len:cs.length=vals.length
 at_:∀(k:Nat) (c:V) (v:Value),cs[k]?=some c->vals[k]?=some v->Ap μ H c v
structure AY (μ:Id->Option Value) (H:Addr->Option Value) (cs:List V) (vals:List Value):Prop extends VRels μ H cs vals where
 one:∀v∈vals,v.oneCell'=true
section mono
variable{μ μ':Id→Option Value}{H H':Addr→Option Value}
theorem Ap.mono{v val}(h:Ap μ H v val)(u:∀id x,μ id=some x->μ' id=some x)(J:∀a x,H a=some x->H' a=some x):Ap μ' H' v val:=by
 induction h with
 | b x=>exact .b x
 | i k n=>exact .i k n
 | s l h=>exact .s l h
 | nil=>exact .nil
 | slE a g=>exact .slE a g
 | slC es z g sz c K L E r q hp _ y=>exact .slC es z g sz c K L E r q (λk v B=>J _ _ (hp k v B)) y
 | agg cs c r q _ y=>exact .agg cs c r q y
 | tup cs c r _ y=>exact .tup cs c r y
 | ref id j A h=>exact .ref id j A (u _ _ h)
 | arr id v h q=>exact .arr id v (u _ _ h) q
 | aref id M sz j A I g h=>exact .aref id M sz j A I g (u _ _ h)
 | ep e j z c r q hp _ y=>exact .ep e j z c r q (λk v B=>J _ _ (hp k v B)) y
 | fn f first caps p m D C _ _ G F=>exact .fn f first caps p m D C G F
 | np=>exact .np
 | nf=>exact .nf
 | ni=>exact .ni
 | nm=>exact .nm
 | ub t=>exact .ub t
 | any v=>exact .any v
theorem Ap.ub_inv{val}(h:Ap μ H .ub val):∃t,val=.bool t:=by cases h;exact⟨_,rfl⟩
theorem VRels.mono{cs b}(h:VRels μ H cs b)(e:∀id x,μ id=some x->μ' id=some x)(f:∀a x,H a=some x->H' a=some x):VRels μ' H' cs b:=
 ⟨h.len,λk c v g i=>(h.at_ k c v g i).mono e f⟩
theorem AY.mono{cs b}(h:AY μ H cs b)(c:∀id x,μ id=some x->μ' id=some x)(e:∀a x,H a=some x->H' a=some x):AY μ' H' cs b:=
 ⟨h.toVRels.mono c e,h.one⟩
end mono
section lists
variable{μ:Id→Option Value}{H:Addr→Option Value}
theorem VRels.nil_:VRels μ H [] []:=⟨rfl,λk c v h=>by simp at h⟩
theorem VRels.cons{c v cs vs}(h:Ap μ H c v)(b:VRels μ H cs vs):VRels μ H (c::cs) (v::vs):=by
 refine⟨by simp[b.len],λk x y e f=>?_⟩;cases k with
 | zero=>grind
 | succ k=>exact b.at_ k x y (by simpa using e) (by simpa using f)
theorem VRels.append{cs e vs us}(h:VRels μ H cs vs)(f:VRels μ H e us):VRels μ H (cs++e) (vs++us):=by
 refine⟨by simp[h.len,f.len],λk x y b c=>?_⟩;by_cases g:k<cs.length
 .rw[AxD g] at b;rw[AxD (by rw[<-h.len];exact g)] at c;exact h.at_ k x y b c
 .rw[Au5 (by omega)] at b;rw[Au5 (by rw[<-h.len];omega),<-h.len] at c;exact f.at_ _ x y b c
theorem AY.append{cs b vs us}(h:AY μ H cs vs)(c:AY μ H b us):AY μ H (cs++b) (vs++us):=
 ⟨h.toVRels.append c.toVRels,λv e=>(AfJ.1 e).elim (h.one v) (c.one v)⟩
theorem VRels.take{cs vs}(h:VRels μ H cs vs) n:VRels μ H (cs.take n) (vs.take n):=by
 refine⟨by simp[h.len],λk x y b c=>?_⟩;rw[A0w] at b c;split at b
 .rename_i e;rw[Amm e] at c;exact h.at_ k x y b c
 .cases b
theorem VRels.drop{cs vs}(h:VRels μ H cs vs) n:VRels μ H (cs.drop n) (vs.drop n):=by refine⟨by simp[h.len],λk x y b c=>?_⟩;rw[A1u] at b c;exact h.at_ _ x y b c
theorem AY.take{cs vs}(h:AY μ H cs vs) n:AY μ H (cs.take n) (vs.take n):=
 ⟨h.toVRels.take n,λv b=>h.one v (AzB b)⟩
theorem AY.drop{cs vs}(h:AY μ H cs vs) n:AY μ H (cs.drop n) (vs.drop n):=
 ⟨h.toVRels.drop n,λv b=>h.one v (A1j b)⟩
theorem VRels.get{cs vs}(h:VRels μ H cs vs){k:Nat}{c}(e:cs[k]?=some c):∃v,vs[k]?=some v/\Ap μ H c v:=by
 have f:k<cs.length:=(Ao5.1 e).1;have b:k<vs.length:=by rw[<-h.len];exact f
 exact⟨vs[k],Am7 b,h.at_ k c _ e (Am7 b)⟩
theorem AY.nil_:AY μ H [] []:=⟨VRels.nil_,λv b=>by cases b⟩
theorem Ap.toCells{v:V}{val:Value}(h:Ap μ H v val)(J:v.ok=true):AY μ H (cells v) val.cells.toList/\(v.one=true->val.oneCell'=true):=by
 have one:∀{c:V} {x:Value},Ap μ H c x->x.oneCell'=true->AY μ H [c] [x]:=λB L=>⟨VRels.nil_.cons B,λv q=>by simp at q;subst q;exact L⟩
 cases h with
 | b x=>exact⟨one (.b x) rfl,λ_=>rfl⟩
 | i k n=>exact⟨one (.i k n) rfl,λ_=>rfl⟩
 | s l h=>exact⟨one (.s l h) rfl,λ_=>rfl⟩
 | nil=>exact⟨one .nil rfl,λ_=>rfl⟩
 | slE a j=>exact⟨one (.slE a j) rfl,λ_=>rfl⟩
 | slC es z j sz g B K E y p hp q=>exact⟨one (.slC es z j sz g B K E y p hp q) rfl,λ_=>rfl⟩
 | agg cs g y p q=>exact⟨⟨⟨y,q⟩,p⟩,λh=>by simp[V.one] at h⟩
 | tup cs g y q=>simp[V.ok] at J
 | ref id m A h=>exact⟨one (.ref id m A h) rfl,λ_=>rfl⟩
 | arr id v h p=>
  have:val.cells=#[val]:=by cases val<;>first|rfl|simp[Value.oneCell'] at p
  rw[this];exact⟨one (.arr id val h p) p,λ_=>p⟩
 | aref id M sz m A I j h=>exact⟨one (.aref id M sz m A I j h) rfl,λ_=>rfl⟩
 | ep e m z g y p hp q=>exact⟨one (.ep e m z g y p hp q) rfl,λ_=>rfl⟩
 | fn f first caps u r D C G F=>exact⟨one (.fn f first caps u r D C G F) rfl,λ_=>rfl⟩
 | np=>exact⟨one .np rfl,λ_=>rfl⟩
 | nf=>exact⟨one .nf rfl,λ_=>rfl⟩
 | ni=>exact⟨one .ni rfl,λ_=>rfl⟩
 | nm=>exact⟨one .nm rfl,λ_=>rfl⟩
 | ub t=>exact⟨one (.ub t) rfl,λ_=>rfl⟩
 | any v=>simp[V.ok] at J
end lists
theorem GJ{es sz}(h:∀e∈es,(cells e).length=sz):(AQ es).length=es.length*sz:=by
 induction es with
 | nil=>simp[AQ]
 | cons e es f=>have g:=h e (by simp);have b:=f (λx c=>h x (by simp[c]));simp only[AQ,A1h,Ajd,An9] at b⊢;grind
theorem GA es xs:AQ (es++xs)=AQ es++AQ xs:=by simp[AQ]
theorem LT{es sz}(h:∀e∈es,(cells e).length=sz) n:AQ (es.drop n)=(AQ es).drop (n*sz):=by
 induction n generalizing es with
 | zero=>simp
 | succ n g=>
  cases es with
  | nil=>simp[AQ]
  | cons e es=>have b:=h e (by simp);have c:=g (es:=es) (λx f=>h x (by simp[f]));rw[Ay6,c];simp only[AQ,A1h];rw[A2p,Nat.one_mul,Nat.add_comm,<-A14,<-b,A2m]
theorem Mg{es sz}(h:∀e∈es,(cells e).length=sz) n:AQ (es.take n)=(AQ es).take (n*sz):=by
 induction n generalizing es with
 | zero=>simp[AQ]
 | succ n g=>
  cases es with
  | nil=>simp[AQ]
  | cons e es=>have c:=h e (by simp);have b:=g (es:=es) (λx f=>h x (by simp[f]));rw[AxB];simp only[AQ,A1h] at b⊢;rw[b,A2p,Nat.one_mul,Nat.add_comm,<-c,List.take_length_add_append]
theorem Ym{es sz}(h:∀e∈es,(cells e).length=sz){i e}(b:es[i]?=some e):((AQ es).drop (i*sz)).take sz=cells e:=by
 have f:i<es.length:=(Ao5.1 b).1;have g:e∈es:=Ao6 b;have c:=LT h i;rw[<-c];rw[List.drop_eq_getElem_cons f];have:es[i]=e:=by grind
 simp only[AQ,A1h,this];grind
inductive AP where
 | box (v:V)
 | tbox (t:TypeId) (v:V)
 | arr (e:TypeId) (sz:Nat) (es:List V)
 | map (es:List (V×V))
 | it (l:List UInt8) (pos:Nat)
 | mit (mid:Id) (since:Nat) (seen:List Nat) (stepped:Nat)
 deriving Inhabited
abbrev Aq:=List (Id×AP)
def lk:Aq->Id->Option AP
 | [],_=>none
 | (k,e)::r,id=>if k=id then some e else lk r id
def Cl(v:Option Value):Option Nat:=
 match v with
 | some (.pointer (some a))=>some a.block
 | some (.slice (some a) _ _)=>some a.block
 | some (.map (some r))=>some r
 | _=>none
structure gK (μ:Id->Option Value) (H:Addr->Option Value) (es:List (V×V)) (ms:List MapEntry) (clock:Nat):Prop where
 len:es.length=ms.length
 at_:∀(k:Nat) (c:V×V) (m:MapEntry),es[k]?=some c->ms[k]?=some m->Ap μ H c.1 m.key/\Ap μ H c.2 m.val
 born:∀(k:Nat) (m:MapEntry),ms[k]?=some m->m.born=k
 now:clock=ms.length
theorem gK.mono{μ μ' H H' es ms b}(h:gK μ H es ms b)(e:∀id x,μ id=some x->μ' id=some x)(i:∀a x,H a=some x->H' a=some x):gK μ' H' es ms b:=
 ⟨h.len,λk c m f g=>⟨(h.at_ k c m f g).1.mono e i,(h.at_ k c m f g).2.mono e i⟩,h.born,h.now⟩
def D0(B:Nat)(μ:Id->Option Value)(H:Addr->Option Value)(w:World)(id:Id):AP->Prop
 | .box v=>∃g b t,μ id=some (.pointer (some ⟨g,0,none⟩))/\B<=g/\w.heap[g]?=some (.cells b t (0,0))/\AY μ H (cells v) b.toList
 | .tbox t v=>∃g b,μ id=some (.pointer (some ⟨g,0,none⟩))/\B<=g/\w.heap[g]?=some (.cells b t (0,0))/\AY μ H (cells v) b.toList
 | .map es=>∃r i c,μ id=some (.map (some r))/\B<=r/\w.heap[r]?=some (.map i c)/\gK μ H es i.toList c
 | .it l j=>∃r,μ id=some (.pointer (some ⟨r,0,none⟩))/\B<=r/\w.heap[r]?=some (.stringIter ⟨l.toArray⟩ j)
 | .mit mid h seen f=>∃r m,μ id=some (.pointer (some ⟨r,0,none⟩))/\B<=r/\μ mid=some (.map (some m))/\w.heap[r]?=some (.mapIter (some m) h seen.toArray f)
 | .arr e sz es=>∃v b,μ id=some v/\v.oneCell'=true/\w.ownsRow B e sz v es.length b/\es.length<=AJ/\(∀x∈es,(cells x).length=sz)/\AY μ H (AQ es) b
def GW(μ:Id->Option Value)(σ:Aq)(b:Nat):Prop:=∃id e,lk σ id=some e/\Cl (μ id)=some b
structure Hp (O:World) (σ:Aq) (n:Nat) (μ:Id->Option Value) (H:Addr->Option Value) (w:World):Prop where
 base:Below O.heap.size O w
 pins:∀ad v,H ad=some v->w.cell? ad=some v
 ents:∀id e,lk σ id=some e->D0 O.heap.size μ H w id e
 unp:∀bk,GW μ σ bk->∀ad:Addr,ad.block=bk->H ad=none
 sep:∀id e id' e' bk,lk σ id=some e->lk σ id'=some e'->Cl (μ id)=some bk->Cl (μ id')=some bk->id=id'
 bd:∀id,n<=id.1->μ id=none
structure Fr (μ:Id->Option Value) (H:Addr->Option Value) (σ:Aq) (w:World) (μ':Id->Option Value) (H':Addr->Option Value) (σ':Aq) (w':World):Prop where
 mu:∀id x,μ id=some x->μ' id=some x
 hp:∀ad v,H ad=some v->H' ad=some v
 size:w.heap.size<=w'.heap.size
 keep:∀bk,bk<w.heap.size->¬GW μ σ bk->w'.heap[bk]?=w.heap[bk]?
 pin:∀ad:Addr,ad.block<w.heap.size->¬GW μ σ ad.block->H' ad=H ad
 dom:∀bk,bk<w.heap.size->GW μ' σ' bk->GW μ σ bk
theorem Fr.refl μ H σ w:Fr μ H σ w μ H σ w:=
 ⟨λ_ _ h=>h,λ_ _ h=>h,Ab6 _,λ_ _ _=>rfl,λ_ _ _=>rfl,λ_ _ h=>h⟩
theorem Fr.trans{μ b c H f g σ σ1 e w i j}(h:Fr μ H σ w b f σ1 i)(k:Fr b f σ1 i c g e j):Fr μ H σ w c g e j where
 mu id x hx:=k.mu _ _ (h.mu _ _ hx)
 hp ad v hv:=k.hp _ _ (h.hp _ _ hv)
 size:=AoW h.size k.size
 keep bk hb ho:=(k.keep bk (AuD hb h.size) (λo=>ho (h.dom bk hb o))).trans (h.keep bk hb ho)
 pin ad hb ho:=(k.pin ad (AuD hb h.size) (λo=>ho (h.dom _ hb o))).trans (h.pin ad hb ho)
 dom bk hb ho:=h.dom bk hb (k.dom bk (AuD hb h.size) ho)
section hp
variable{O w:World}{σ:Aq}{n:Nat}{μ:Id→Option Value}{H:Addr→Option Value}
theorem D0.block{B:Nat}{id:Id}{e:AP}{p:Nat}(h:D0 B μ H w id e)(b:Cl (μ id)=some p):B<=p/\p<w.heap.size:=by
 cases e with
 | box v=>obtain⟨g,j,t,c,hB,i,_⟩:=h;rw[c] at b;simp[Cl] at b;subst b;exact⟨hB,(AuO.1 i).1⟩
 | tbox t v=>obtain⟨g,j,c,hB,i,_⟩:=h;rw[c] at b;simp[Cl] at b;subst b;exact⟨hB,(AuO.1 i).1⟩
 | arr e sz es=>
  obtain⟨v,j,c,_,f,_⟩:=h;rw[c] at b;refine f.lt p ?_;cases v with
  | slice a x u=>cases a with
   | none=>simp[Cl] at b
   | some a=>simpa[Cl,Value.ownBlock] using b
  | pointer a=>rcases f.2 with⟨h,_⟩|⟨_,_,_,h,_⟩<;>cases h
  | map a=>rcases f.2 with⟨h,_⟩|⟨_,_,_,h,_⟩<;>cases h
  | _=>simp[Cl] at b
 | map es=>obtain⟨r,y,q,c,hB,i,_⟩:=h;rw[c] at b;simp[Cl] at b;subst b;exact⟨hB,(AuO.1 i).1⟩
 | it l z=>obtain⟨r,c,hB,i⟩:=h;rw[c] at b;simp[Cl] at b;subst b;exact⟨hB,(AuO.1 i).1⟩
 | mit mid s seen k=>obtain⟨r,m,c,hB,_,i⟩:=h;rw[c] at b;simp[Cl] at b;subst b;exact⟨hB,(AuO.1 i).1⟩
theorem D0.named{B:Nat}{id:Id}{e:AP}(h:D0 B μ H w id e):∃x,μ id=some x:=by
 cases e with
 | box v=>obtain⟨_,_,_,b,_⟩:=h;exact⟨_,b⟩
 | tbox t v=>obtain⟨_,_,b,_⟩:=h;exact⟨_,b⟩
 | arr e sz es=>obtain⟨_,_,b,_⟩:=h;exact⟨_,b⟩
 | map es=>obtain⟨_,_,_,b,_⟩:=h;exact⟨_,b⟩
 | it l g=>obtain⟨_,b,_⟩:=h;exact⟨_,b⟩
 | mit mid f seen c=>obtain⟨_,_,b,_⟩:=h;exact⟨_,b⟩
theorem Hp.own_lt(h:Hp O σ n μ H w){b}(c:GW μ σ b):O.heap.size<=b/\b<w.heap.size:=by have ⟨id,e,he,hb⟩:=c;exact(h.ents id e he).block hb
theorem D0.keep{B:Nat}{μ':Id->Option Value}{H':Addr->Option Value}{w':World}{id:Id}{e:AP}(h:D0 B μ H w id e)
  (b:∀id x,μ id=some x->μ' id=some x)(u:∀a x,H a=some x->H' a=some x)(q:∀y,Cl (μ id)=some y->w'.heap[y]?=w.heap[y]?):D0 B μ' H' w' id e:=by
 cases e with
 | box v=>obtain⟨g,f,t,c,hB,i,p⟩:=h;exact⟨g,f,t,b _ _ c,hB,by rw[q g (by simp[c,Cl])];exact i,p.mono b u⟩
 | tbox t v=>obtain⟨g,f,c,hB,i,p⟩:=h;exact⟨g,f,b _ _ c,hB,by rw[q g (by simp[c,Cl])];exact i,p.mono b u⟩
 | arr e sz es=>
  obtain⟨v,f,c,G,j,J,D,p⟩:=h;refine⟨v,f,b _ _ c,G,⟨j.1,?_⟩,J,D,p.mono b u⟩;rcases j.2 with I|⟨g,z,A,rfl,hB,i,r⟩
  .exact .inl I
  .exact .inr ⟨g,z,A,rfl,hB,by rw[q g (by simp[c,Cl])];exact i,r⟩
 | map es=>obtain⟨r,E,k,c,hB,i,p⟩:=h;exact⟨r,E,k,b _ _ c,hB,by rw[q r (by simp[c,Cl])];exact i,p.mono b u⟩
 | it l K=>obtain⟨r,c,hB,i⟩:=h;exact⟨r,b _ _ c,hB,by rw[q r (by simp[c,Cl])];exact i⟩
 | mit mid F seen s=>obtain⟨r,m,c,hB,C,i⟩:=h;exact⟨r,m,b _ _ c,hB,b _ _ C,by rw[q r (by simp[c,Cl])];exact i⟩
end hp
end Go.Ir
end
section
namespace Go.Ir
open Go.RowKit
inductive X where
 | t (s:Nat)
 | c (v:V)
 deriving Inhabited
inductive ET where
 | str
 | int
 | bool
 | st (l:List (Nat×ET))
 deriving Inhabited
inductive A01 where
 | p
 | f
 | i
 deriving Inhabited
inductive PuK where
 | isnil (ne:Bool)
 | aidx (n sz:Nat)
 | bit (op:BinOp)
 | shf (op:BinOp)
 | aget (n sz:Nat) (ag:Bool)
 deriving Inhabited
inductive RdK where
 | mget (kk:ET) (z:V) (ok:Bool)
 | mlen
 deriving Inhabited
inductive WrK where
 | mput (kk:ET)
 | next
 deriving Inhabited
inductive MkK where
 | mkmap
 | strit
 | tnew (t:TypeId) (z:V)
 | tbx (t:TypeId)
 deriving Inhabited
inductive Bh where
 | mv (x:X)
 | pick (c a b:X)
 | bin (op:BinOp) (x y:X)
 | eqb (ne:Bool) (x y:X)
 | not (x:X)
 | neg (x:X)
 | cvi (k:IntKind) (x:X)
 | faddr (x:X) (off:Nat)
 | iaddr (x i:X) (e sz:Nat)
 | idx (x i:X)
 | load (x:X) (n:Nat) (ag:Bool)
 | store (a x:X) (n:Nat)
 | box (x:X)
 | alloc (z:V)
 | build (z:List V) (ps:List (Nat×Nat×X))
 | msl (own:Bool) (e sz:Nat) (xs:List X)
 | slS (x:X) (lo hi:Option X)
 | slL (x:X) (lo hi:Option X) (sz:Nat)
 | lenS (x:X)
 | lenL (x:X)
 | app (s x:X) (e sz:Nat)
 | apps (s x:X) (e:Nat)
 | slT (x hi:X) (sz:Nat)
 | ext (x:X) (k:Nat)
 | call (f:FuncId) (args:List X)
 | calls (f:FuncId) (args:List X)
 | calln (f:FuncId) (args:List X)
 | callr (f:FuncId) (args:List X)
 | callvs (g:X) (args:List X)
 | mkfn (f:FuncId) (first caps:List X)
 | mksl (len cap:X) (z:V) (e sz:Nat)
 | mx (lo:Bool) (x:X) (xs:List X)
 | nilck (x:X)
 | pu (k:PuK) (xs:List X)
 | rdm (k:RdK) (m:X) (xs:List X)
 | wrm (k:WrK) (m:X) (xs:List X)
 | mkm (k:MkK) (xs:List X)
 | frz (m:X) (n:Nat)
 | mrange (m:X)
 | mentry (m:X)
 deriving Inhabited
structure I where
 dst:Option Nat
 op:Bh
 gd:Option (Nat×Bool)
 ap:List X
 deriving Inhabited
inductive IC where
 | ops (l:List I) (live:List Nat) (paths:List (List Nat))
 | seq (a b:IC)
 | cond (c:X) (a b:IC)
 | block (id:Nat) (c:IC)
 | loop (c:IC)
 | exit (id:Nat)
 | ret
 | skip
 | mnext (d1 d2:Nat) (x:X) (live:List Nat)
 | wk (c:IC)
 | opx (l1:List I) (live1:List Nat) (d:Nat) (f:FuncId) (args:List X) (l2:List I) (live:List Nat)
 | opxd (l1:List I) (live1:List Nat) (d:Nat) (f:FuncId) (args:List X) (live:List Nat) (paths:List (List Nat))
 | seqr (l:List I) (live:List Nat)
 | opxe (l:List I) (i:I) (live:List Nat) (paths:List (List Nat))
 deriving Inhabited
def ev(g:Nat->V):X->V
 | .t s=>g s
 | .c v=>v
abbrev BB:=List (Nat×V)
def get:BB->Nat->V
 | [],_=>.any
 | (k,v)::r,s=>if k=s then v else get r s
def put(env:BB)(d:Option Nat)(v:V):BB:=
 match d with
 | some d=>(d,v)::env
 | none=>env
def UX:V->Bool
 | .agg _=>true
 | _=>false
def UD(v:V):V:=.agg (cells v)
def sub(v:V)(b n:Nat)(ag:Bool):Option V:=
 if ag then(if b=0/\(cells v).length=n then some (UD v) else if b+n<=(cells v).length then some (.agg (((cells v).drop b).take n)) else none)
 else(cells v)[b]?
def Ef(u:V)(b n:Nat)(x:V):Option V:=
 if(cells x).length=n then
  (if b=0/\(cells u).length=n/\UX u=UX x then some x
  else if b+n<=(cells u).length then some (.agg ((cells u).take b++cells x++(cells u).drop (b+n))) else none)
 else none
def upd:Aq->Id->AP->Aq
 | [],_,_=>[]
 | (k,e)::r,id,e'=>if k=id then(k,e')::r else(k,e)::upd r id e'
def del:Aq->Id->Aq
 | [],_=>[]
 | (k,e)::r,id=>if k=id then del r id else(k,e)::del r id
def over(σi σo σ:Aq):Aq:=σo++σ.filter λp=>(lk σi p.1).isNone
def FC(z:List V):List (Nat×Nat×V)->Option (List V)
 | []=>some z
 | (b,n,v)::r=>if(cells v).length=n/\b+n<=z.length then FC (z.take b++cells v++z.drop (b+n)) r else none
def AE(σ:Aq):V->Option (List V)
 | .sl xs=>some xs
 | .nil=>some []
 | .arr id=>match lk σ id with
  | some (.arr _ _ es)=>some es
  | _=>none
 | _=>none
def GV(g:Nat->V)(b:Nat):Option X->Option Nat
 | none=>some b
 | some x=>match ev g x with
  | .i _ n=>if 0<=n then some n.toNat else none
  | _=>none
def UT(c:BinOp)(k:IntKind)(a b:Int)(v:V):Prop:=
 match c with
 | .add=>v=.i k (k.wrap (a+b))
 | .sub=>v=.i k (k.wrap (a-b))
 | .mul=>v=.i k (k.wrap (a*b))
 | .quo=>b≠0/\v=.i k (k.wrap (a.tdiv b))
 | .rem=>b≠0/\v=.i k (a.tmod b)
 | .eql=>v=.b (a==b)
 | .neq=>v=.b (a !=b)
 | .lss=>v=.b (decide (a<b))
 | .leq=>v=.b (decide (a<=b))
 | .gtr=>v=.b (decide (a>b))
 | .geq=>v=.b (decide (a>=b))
 | _=>False
def UP(c:BinOp)(a b:List UInt8)(v:V):Prop:=
 match c with
 | .add=>a.length+b.length<=AG/\v=.s (a++b)
 | .eql=>v=.b (a==b)
 | .neq=>v=.b (!(a==b))
 | .lss=>v=.b (Op.bytesLess a b)
 | .leq=>v=.b (Op.bytesLess a b||a==b)
 | .gtr=>v=.b (!(Op.bytesLess a b||a==b))
 | .geq=>v=.b (!Op.bytesLess a b)
 | _=>False
def Rg(c:BinOp)(x y v:V):Prop:=
 match x,y with
 | .i k a,.i e b=>k=e/\UT c k a b v
 | .s a,.s b=>UP c a b v
 | _,_=>False
def RJ(c:Bool):V->List V->Option V
 | v,[]=>some v
 | .i k a,.i e b::r=>if k=e then RJ c (.i k (if c then min a b else max a b)) r else none
 | _,_=>none
def EI:ET->V->V->Option Bool
 | .str,.s a,.s b=>some (a==b)
 | .int,.i k a,.i c b=>if k=c then some (a==b) else none
 | .bool,.b a,.b b=>some (a==b)
 | _,_,_=>none
def eqO(a b:List V):List (Nat×ET)->Option Bool
 | []=>some true
 | (o,c)::r=>match a[o]?,b[o]? with
  | some x,some y=>match EI c x y with
   | some true=>eqO a b r
   | some false=>some false
   | none=>none
  | _,_=>none
def Fl(c:ET)(x y:V):Option Bool:=
 match c,x,y with
 | .st l,.agg a,.agg b=>if a.length=l.length/\b.length=l.length then eqO a b l else none
 | .str,x,y=>EI .str x y
 | .int,x,y=>EI .int x y
 | .bool,x,y=>EI .bool x y
 | _,_,_=>none
def Mm:ET->V->Bool
 | .str,.s _|.int,.i _ _|.bool,.b _=>true
 | .st l,.agg a=>a.length==l.length
 | _,_=>false
def BE(b:ET)(k:V):List (V×V)->Nat->Option (Option (Nat×V))
 | [],_=>if Mm b k then some none else none
 | e::es,i=>match Fl b k e.1 with
  | some true=>some (some (i,e.2))
  | some false=>BE b k es (i+1)
  | none=>none
def A6(l:List UInt8):List V:=l.map λc=>.i .u8 c.toNat
def eqN(c r:Bool):V:=.b (if c then !r else r)
def AlW(c:BinOp)(k:IntKind)(a b:Int):Option V:=
 match c with
 | .and=>some (.i k (k.wrap (BitVec.ofInt k.bits a &&& BitVec.ofInt k.bits b).toNat))
 | .or=>some (.i k (k.wrap (BitVec.ofInt k.bits a ||| BitVec.ofInt k.bits b).toNat))
 | .xor=>some (.i k (k.wrap (BitVec.ofInt k.bits a ^^^ BitVec.ofInt k.bits b).toNat))
 | .andNot=>some (.i k (k.wrap (BitVec.ofInt k.bits a &&& ~~~BitVec.ofInt k.bits b).toNat))
 | _=>none
def AlS(c:BinOp)(k:IntKind)(a b:Int):Option V:=
 match c with
 | .shl=>some (.i k (k.wrap (a*2 ^ min b.toNat k.bits)))
 | .shr=>some (.i k (a.fdiv (2 ^ min b.toNat k.bits)))
 | _=>none
def M0:PuK->List V->Option V
 | .isnil c,[.nil]=>some (.b (!c))
 | .isnil c,[.sl []]=>some .ub
 | .isnil c,[.sl (_::_)]=>some (.b c)
 | .aidx n sz,[.ref id e,.i _ i]=>if 0<=i/\i<(n:Int) then some (.ref id (e+i.toNat*sz)) else none
 | .bit f,[.i k a,.i g b]=>if k=g then AlW f k a b else none
 | .shf f,[.i k a,.i _ b]=>if 0<=b then AlS f k a b else none
 | .aget n sz ag,[.agg cs,.i _ i]=>if 0<=i/\i<(n:Int) then sub (.agg cs) (i.toNat*sz) sz ag else none
 | _,_=>none
def rdF:RdK->AP->List V->Option V
 | .mget c z ok,.map es,[k]=>(BE c k es 0).map λr=>match r with
  | some (_,v)=>if ok then .tup [v,.b true] else v
  | none=>if ok then .tup [z,.b false] else z
 | .mlen,.map es,[]=>some (.i .i64 es.length)
 | _,_,_=>none
def wrF:WrK->AP->List V->Option (AP×V)
 | .mput g,.map es,[k,v]=>(BE g k es 0).map λr=>match r with
  | some (i,_)=>(.map (es.modify i λe=>(e.1,v)),.tup [])
  | none=>(.map (es++[(k,v)]),.tup [])
 | .next,.it l f,[]=>if f<l.length then(let c:=Utf8.decode ⟨l.toArray⟩ f;some (.it l (f+c.2),.tup [.b true,.i .i64 f,.i .i32 c.1])) else some (.it l f,.tup [.b false])
 | _,_,_=>none
def ZK:MkK->List V->Option AP
 | .mkmap,[]=>some (.map [])
 | .strit,[.s l]=>some (.it l 0)
 | .tnew t z,[]=>some (.tbox t z)
 | .tbx t,[x]=>if x.ok=true then some (.tbox t x) else none
 | _,_=>none
def mkV:MkK->Id->V
 | .tnew _ _,id|.tbx _,id=>.ref id 0
 | _,id=>.arr id
def ldB(en:AP)(b n:Nat)(ag:Bool):Option V:=
 match en with
 | .box u=>sub u b n ag
 | .tbox _ u=>sub u b n ag
 | _=>none
def eJ(en:AP)(b n:Nat)(x:V):Option AP:=
 match en with
 | .box u=>(Ef u b n x).map .box
 | .tbox t u=>(Ef u b n x).map (.tbox t)
 | _=>none
theorem Uo{en b n ag v}(h:ldB en b n ag=some v):∃u,(en=.box u\/∃t,en=.tbox t u)/\sub u b n ag=some v:=by unfold ldB at h;grind
theorem U9{en c b n x}(h:eJ en b n x=some c):∃u e,Ef u b n x=some e/\(en=.box u/\c=.box e\/∃t,en=.tbox t u/\c=.tbox t e):=by
 unfold eJ at h;split at h
 .rename_i u;cases f:Ef u b n x with
  | none=>rw[f] at h;cases h
  | some e=>grind
 .rename_i t u;cases f:Ef u b n x with
  | none=>rw[f] at h;cases h
  | some e=>grind
 .cases h
def callable(P:Program)(f:FuncId):Bool:=
 match P.funcs[f]? with
 | some fn => fn.body.isSome&&!(fn.name == "runtime.NumGoroutine")
 | none=>false
structure Ak (P:Program) (O:World) (f:FuncId) (args:List V) (σ:Aq) (v:V) (σ':Aq):Prop where
 callable:callable P f=true
 dom:∀id,lk σ' id≠none->lk σ id≠none
 run:∀n w μ H vals,Hp O σ n μ H w->VRels μ H args vals->Calls P f vals.toArray w fun e w'=>
  ∃val μ' H' n',e=.returned val/\Ap μ' H' v val/\Hp O σ' n' μ' H' w'/\n<=n'/\Fr μ H σ w μ' H' σ' w'/\∀id,id.1<n->μ id=none->μ' id=none
structure Kk (P:Program) (O:World) (f:FuncId) (args:List V) (σ:Aq) (x:AP) (σ':Aq):Prop where
 callable:callable P f=true
 dom:∀id,lk σ' id≠none->lk σ id≠none
 run:∀n w μ H vals,Hp O σ n μ H w->VRels μ H args vals->Calls P f vals.toArray w fun e' w'=>
  ∃val μ' H' n' id,e'=.returned val/\μ' id=some val/\val.oneCell'=true/\μ id=none/\lk σ' id=none/\Hp O ((id,x)::σ') n' μ' H' w'/\n<=n'/\Fr μ H σ w μ' H' ((id,x)::σ') w'/\∀id,id.1<n->μ id=none->μ' id=none
def E(P:Program)(O:World)(ep:Nat)(d:Option Nat)(L:Bh)(g:Nat->V)(σ:Aq)(v:V)(σ':Aq):Prop:=
 match L with
 | .mv x=>v=ev g x/\σ'=σ
 | .pick c a b=>∃t,ev g c=.b t/\v=(bif t then ev g a else ev g b)/\σ'=σ
 | .bin L x y=>Rg L (ev g x) (ev g y) v/\σ'=σ
 | .eqb M x y=>∃a b,ev g x=.b a/\ev g y=.b b/\v=.b (if M then !(a==b) else a==b)/\σ'=σ
 | .not x=>∃a,ev g x=.b a/\v=.b (!a)/\σ'=σ
 | .neg x=>∃k n,ev g x=.i k n/\v=.i k (k.wrap (0-n))/\σ'=σ
 | .cvi k x=>∃J n,ev g x=.i J n/\v=.i k (k.wrap n)/\σ'=σ
 | .faddr x r=>(match ev g x with
  | .ref id o=>v=.ref id (o+r)
  | .aref id C sz o=>v=.aref id C sz (o+r)
  | .ep e o=>v=.ep e (o+r)
  | _=>False)/\σ'=σ
 | .iaddr x i e sz=>(match ev g i with
  | .i _ n=>0<=n/\(match ev g x with
   | .sl es=>∃A,es[n.toNat]?=some A/\(cells A).length=sz/\v=.ep A 0
   | .arr id=>∃e' es,lk σ id=some (.arr e' sz es)/\n.toNat<es.length/\v=.aref id n.toNat sz 0
   | _=>False)
  | _=>False)/\σ'=σ
 | .idx x i=>∃l k n c,ev g x=.s l/\ev g i=.i k n/\0<=n/\l[n.toNat]?=some c/\v=.i .u8 c.toNat/\σ'=σ
 | .load x n ag=>(match ev g x with
  | .ref id r=>∃en,lk σ id=some en/\ldB en r n ag=some v
  | .aref id C sz r=>∃e es A,lk σ id=some (.arr e sz es)/\es[C]?=some A/\sub A r n ag=some v
  | .ep u r=>sub u r n ag=some v
  | _=>False)/\σ'=σ
 | .store a x n=>(ev g x).ok=true/\v=.tup []/\(match ev g a with
  | .ref id r=>∃en F,lk σ id=some en/\eJ en r n (ev g x)=some F/\σ'=upd σ id F
  | .aref id C sz r=>∃e es A D,lk σ id=some (.arr e sz es)/\es[C]?=some A/\Ef A r n (ev g x)=some D/\σ'=upd σ id (.arr e sz (es.set C D))
  | _=>False)
 | .box x=>∃j,d=some j/\(ev g x).ok=true/\v=.ref (ep,j) 0/\σ'=((ep,j),.box (ev g x))::σ
 | .alloc z=>∃j,d=some j/\v=.ref (ep,j) 0/\σ'=((ep,j),.box z)::σ
 | .build z ps=>(∀p∈ps,(ev g p.2.2).ok=true)/\(∃cs,FC z (ps.map λp=>(p.1,p.2.1,ev g p.2.2))=some cs/\v=.agg cs)/\σ'=σ
 | .msl own e sz xs=>(∀x∈xs.map (ev g),x.ok=true/\(cells x).length=sz)/\(if own then ∃j,d=some j/\v=.arr (ep,j)/\σ'=((ep,j),.arr e sz (xs.map (ev g)))::σ else v=.sl (xs.map (ev g))/\σ'=σ)
 | .slS x I G=>∃l a b,ev g x=.s l/\GV g 0 I=some a/\GV g l.length G=some b/\a<=b/\b<=l.length/\v=.s ((l.take b).drop a)/\σ'=σ
 | .slL x I G sz=>∃es a b,(ev g x=.sl es\/ev g x=.nil/\es=[])/\GV g 0 I=some a/\GV g es.length G=some b/\a<=b/\b<=es.length/\(∀y∈es,(cells y).length=sz)/\v=.sl ((es.take b).drop a)/\σ'=σ
 | .lenS x=>∃l,ev g x=.s l/\v=.i .i64 l.length/\σ'=σ
 | .lenL x=>∃es,AE σ (ev g x)=some es/\v=.i .i64 es.length/\σ'=σ
 | .app s x e sz=>∃j xs,d=some j/\AE σ (ev g x)=some xs/\(∀y∈xs,(cells y).length=sz)/\v=.arr (ep,j)/\(match ev g s with
  | .nil=>xs.length<=AJ/\σ'=((ep,j),.arr e sz xs)::σ
  | .arr id=>∃es,lk σ id=some (.arr e sz es)/\es.length+xs.length<=AJ/\σ'=((ep,j),.arr e sz (es++xs))::del σ id
  | _=>False)
 | .apps s x e=>∃j l,d=some j/\ev g x=.s l/\v=.arr (ep,j)/\(match ev g s with
  | .nil=>l.length<=AJ/\σ'=((ep,j),.arr e 1 (A6 l))::σ
  | .arr id=>∃es,lk σ id=some (.arr e 1 es)/\es.length+l.length<=AJ/\σ'=((ep,j),.arr e 1 (es++A6 l))::del σ id
  | _=>False)
 | .slT x G sz=>∃j id e es q,d=some j/\ev g x=.arr id/\lk σ id=some (.arr e sz es)/\GV g es.length (some G)=some q/\q<=es.length/\v=.arr (ep,j)/\σ'=((ep,j),.arr e sz (es.take q))::del σ id
 | .ext x k=>∃vs,ev g x=.tup vs/\vs[k]?=some v/\σ'=σ
 | .call f args=>Ak P O f (args.map (ev g)) [] v []/\σ'=σ
 | .calls f args=>∃σi σo,Ak P O f (args.map (ev g)) σi v σo/\(∀id e,lk σi id=some e->lk σ id=some e)/\σ'=over σi σo σ
 | .calln f args=>∃j σi σo x,d=some j/\Kk P O f (args.map (ev g)) σi x σo/\(∀id e,lk σi id=some e->lk σ id=some e)/\v=.arr (ep,j)/\σ'=((ep,j),x)::over σi σo σ
 | .callr f args=>(∃σi,Ak P O f (args.map (ev g)) σi v σi/\(∀id e,lk σi id=some e->lk σ id=some e))/\σ'=σ
 | .callvs h args=>∃f first caps σi σo,ev g h=.fn f first caps/\Ak P O f (first++args.map (ev g)++caps) σi v σo/\(∀id e,lk σi id=some e->lk σ id=some e)/\σ'=over σi σo σ
 | .mkfn f first caps=>v=.fn f (first.map (ev g)) (caps.map (ev g))/\σ'=σ
 | .mksl l c z e sz=>∃j k J n m,d=some j/\ev g l=.i k (Int.ofNat n)/\ev g c=.i J (Int.ofNat m)/\n<=m/\m<=AJ/\v=.arr (ep,j)/\σ'=((ep,j),.arr e sz (List.replicate n z))::σ
 | .mx I x xs=>RJ I (ev g x) (xs.map (ev g))=some v/\σ'=σ
 | .nilck x=>(match ev g x with
  | .ref _ _|.aref _ _ _ _|.ep _ _|.fn _ _ _=>True
  | _=>False)/\v=ev g x/\σ'=σ
 | .pu k xs=>M0 k (xs.map (ev g))=some v/\σ'=σ
 | .rdm k m xs=>(∃id e,ev g m=.arr id/\lk σ id=some e/\rdF k e (xs.map (ev g))=some v)/\σ'=σ
 | .wrm k m xs=>∃id e e',ev g m=.arr id/\lk σ id=some e/\wrF k e (xs.map (ev g))=some (e',v)/\σ'=upd σ id e'
 | .mkm k xs=>∃j e,d=some j/\ZK k (xs.map (ev g))=some e/\v=mkV k (ep,j)/\σ'=((ep,j),e)::σ
 | .frz m n=>∃id cs,ev g m=.ref id 0/\lk σ id=some (.box (.agg cs))/\cs.length=n/\(∀c∈cs,cells c=[c])/\v=.sl cs/\σ'=del σ id
 | .mrange m=>∃j mid es,d=some j/\ev g m=.arr mid/\lk σ mid=some (.map es)/\v=.arr (ep,j)/\σ'=((ep,j),.mit mid es.length [] es.length)::σ
 | .mentry m=>∃id mid B seen i es K,ev g m=.arr id/\lk σ id=some (.mit mid B seen es.length)/\seen.getLast?=some i/\lk σ mid=some (.map es)/\es[i]?=some K/\v=.tup [K.1,K.2]/\σ'=σ
def Bh.cs:Bh->List X
 | .load x _ _|.lenL x|.iaddr x _ _ _|.store x _ _=>[x]
 | .app s x _ _=>[s,x]
 | .apps s _ _=>[s]
 | .slT x _ _=>[x]
 | .rdm _ m _|.wrm _ m _=>[m]
 | .frz m _|.mrange m|.mentry m=>[m]
 | _=>[]
def C3:V->Option Id
 | .ref id _=>some id
 | .aref id _ _ _=>some id
 | .arr id=>some id
 | _=>none
def cK(i:I)(g:Nat->V):Prop:=∀x∈i.ap,∀y∈i.op.cs,∀id,C3 (ev g x)=some id->C3 (ev g y)≠some id
def Bh.cl:Bh->Bool
 | .calls ..|.calln ..|.callvs ..|.mentry ..|.callr ..=>true
 | _=>false
def LQ(i:I)(g:Nat->V)(σ σ':Aq):Prop:=i.op.cl=true->∀x∈i.ap,∀id,C3 (ev g x)=some id->lk σ id≠none->lk σ' id=lk σ id
def EA(P:Program)(O:World)(ep:Nat)(i:I)(g:Nat->V)(σ:Aq)(v:V)(σ':Aq):Prop:=E P O ep i.dst i.op g σ v σ'/\cK i g/\LQ i g σ σ'
def Dh(P:Program)(O:World)(ep:Nat)(i:I)(env:BB)(σ:Aq)(K:BB->Aq->Prop):Prop:=
 match i.gd with
 | none=>∃v σ',EA P O ep i (get env) σ v σ'/\K (put env i.dst v) σ'
 | some (s,c)=>
  match get env s with
  | .b t=>(t=c->∃v σ',EA P O ep i (get env) σ v σ'/\K (put env i.dst v) σ')/\(t≠c->K (put env i.dst (.tup [])) σ)
  | .tup []=>K (put env i.dst (.tup [])) σ
  | _=>False
def Ay(P:Program)(O:World)(ep:Nat):List I->BB->Aq->(BB->Aq->Prop)->Prop
 | [],env,σ,K=>K env σ
 | i::l,env,σ,K=>Dh P O ep i env σ λenv' σ'=>Ay P O ep l env' σ' K
def MY:Bh->Bool
 | .store _ _ _=>true
 | .wrm (.mput _) _ _=>true
 | _=>false
def okC:Value->V->Bool
 | .bool x,.b y=>x==y
 | .int k n,.i c m=>k==c&&n==m
 | .string s,.s l=>s.data.toList==l&&decide (l.length<=AG)
 | .slice none 0 0,.nil=>true
 | .pointer none,.np=>true
 | .nilFunc,.nf=>true
 | .nilIface,.ni=>true
 | .map none,.nm=>true
 | _,_=>false
def cI:List Value->List V->Bool
 | [],[]=>true
 | x::xs,y::ys=>okC x y&&cI xs ys
 | _,_=>false
def okZ:Value->V->Bool
 | .agg vs,.agg cs=>cI vs.toList cs
 | .agg _,_=>false
 | _,.agg _=>false
 | v,c=>okC v c
def CF:Operand->X->Bool
 | .tmp t,.t s=>t==s
 | .const v,.c x=>okC v x
 | .func f,.c (.fn g [] [])=>f==g
 | _,_=>false
def Bg:List Operand->List X->Bool
 | [],[]=>true
 | x::xs,y::ys=>CF x y&&Bg xs ys
 | _,_=>false
def J5:Option Operand->Option X->Bool
 | none,none=>true
 | some x,some y=>CF x y
 | _,_=>false
section tables
variable(P:Program)
def CI(t:TypeId):Option Nat:=(P.info? t).map (·.size)
def rB:TypeDesc->Bool
 | .struct _|.array _ _=>true
 | _=>false
def DU(t:TypeId):Option Bool:=(P.underlying t).map rB
def CC(t:TypeId):Option TypeId:=match P.underlying t with|some (.slice e)=>some e|_=>none
def Ga(t:TypeId):Bool:=match P.underlying t with|some .string=>true|_=>false
def MT(t:TypeId):Bool:=match P.underlying t with|some .bool=>true|_=>false
def Ack(t:TypeId):Option IntKind:=match P.underlying t with|some (.int k)=>some k|_=>none
def Jb(t:TypeId):Option (Array Field):=match P.underlying t with|some (.struct b)=>some b|_=>none
def Ail(t:TypeId):Option Value:=(P.info? t).bind (·.zero)
def Hi(t:TypeId)(z:V):Bool:=match Ail P t with|some b=>okZ b z|none=>false
def Iz(e sz:Nat):Bool:=
 match P.info? e with
 | some i=>i.size==sz&&decide (0<sz)&&decide (i.bytes<=32768)&&(match i.zero with|some z=>z.cells.size==sz&&z.cells.all (·.oneCell')|none=>false)
 | none=>false
def QM(t:TypeId)(f:Nat):Option Field:=(Jb P t).bind λb=>b[f]?
def Rm(t:TypeId)(f b:Nat):Bool:=
 match QM P t f with
 | some c=>c.offset==b&&decide (0<(CI P c.type).getD 0)
 | none=>false
def R9(t:TypeId):Option (List (Nat×Nat)):=(Jb P t).bind λb=>b.toList.mapM λf=>(P.info? f.type).map λi=>(f.offset,i.size)
def KQ(t:TypeId):Option (List (Nat×Nat)):=
 match P.underlying t with
 | some (.array k e)=>(P.info? e).map λi=>(List.range k).map λj=>(j*i.size,i.size)
 | _=>R9 P t
def Im(c:List (Nat×Nat)):List (Nat×Operand)->List (Nat×Nat×X)->Bool
 | [],[]=>true
 | (f,x)::r,(b,n,y)::e=>c[f]? == some (b,n)&&CF x y&&Im c r e
 | _,_=>false
def HS:Nat->List (Nat×Operand)->List X->Bool
 | _,[],[]=>true
 | k,(j,x)::r,y::b=>j==k&&CF x y&&HS (k+1) r b
 | _,_,_=>false
def S7(t:TypeId):Option (TypeId×TypeId):=match P.underlying t with|some (.map k e)=>some (k,e)|_=>none
def Ou(b:ET)(t:TypeId):Bool:=match b,P.underlying t with
 | .str,some .string|.int,some (.int _)|.bool,some .bool=>true
 | _,_=>false
def Hq:List Field->List (Nat×ET)->Bool
 | [],[]=>true
 | f :: fs, (o, kk) :: l => f.offset==o&&f.name != "_" && Ou P kk f.type&&CI P f.type==some 1&&Hq fs l
 | _,_=>false
def Sp(kk:ET)(t:TypeId):Bool:=match kk with
 | .st l=>(match P.underlying t with|some (.struct b)=>Hq P b.toList l|_=>false)&&!P.stoodInHeld t&&(l.map Prod.fst==List.range l.length)
 | kk=>Ou P kk t
def WP(k:PuK)(o:Op)(xs:List X):Bool:=
 match k with
 | .isnil h=>(match o with|.binOp b t x' (.const (.slice none 0 0)) _=>(b==(if h then BinOp.neq else BinOp.eql))&&(CC P t).isSome&&Bg [x'] xs|_=>false)
 | .aidx n sz=>(match o with|.indexAddr t x' c=>(match P.underlying t with|some (.array n' e)=>n'==n&&CI P e==some sz|_=>false)&&Bg [x',c] xs|_=>false)
 | .bit f=>(match o with|.binOp b _ x' g _=>b==f&&Bg [x',g] xs|_=>false)
 | .shf f=>(match o with|.binOp b _ x' g _=>b==f&&Bg [x',g] xs|_=>false)
 | .aget n sz ag=>(match o with|.index t x' c=>(match P.underlying t with|some (.array n' e)=>n'==n&&CI P e==some sz&&DU P e==some ag|_=>false)&&Bg [x',c] xs|_=>false)
def Ade(k:RdK)(o:Op)(m:X)(xs:List X):Bool:=
 match k with
 | .mget g z ok=>(match o with|.lookup t i f b=>(match S7 P t with|some (h,e)=>Sp P g h&&Hi P e z|none=>false)&&b==ok&&CF i m&&Bg [f] xs|_=>false)
 | .mlen=>(match o with|.call c=>(match c.callee with|.builtin .len=>(S7 P (c.argTypes.getD 0 0)).isSome&&c.argTypes.size==1&&Bg c.args.toList (m::xs)&&xs.isEmpty|_=>false)|_=>false)
def AeN(k:WrK)(o:Op)(m:X)(xs:List X):Bool:=
 match k with
 | .mput f=>(match o with
  | .mapUpdate t m' b e=>(match S7 P t with|some (c,g)=>Sp P f c|none=>false)&&CF m' m&&Bg [b,e] xs
  | .insert t m' b e=>(match S7 P t with|some (c,g)=>Sp P f c|none=>false)&&CF m' m&&Bg [b,e] xs
  | _=>false)
 | .next=>(match o with|.next m' true=>CF m' m&&xs.isEmpty|_=>false)
def dZ(k:MkK)(o:Op)(xs:List X):Bool:=
 match k with
 | .mkmap=>(match o with|.makeMap t none=>xs.isEmpty|_=>false)
 | .strit=>(match o with|.range t x'=>Ga P t&&Bg [x'] xs|_=>false)
 | .tnew t z=>(match o with|.alloc t'=>t'==t&&Hi P t z&&xs.isEmpty|_=>false)
 | .tbx t=>(match o with|.box t' x'=>t'==t&&Bg [x'] xs|_=>false)
def SD(e:TypeId):Bool:=
 match P.info? e with
 | some i=>i.size==1&&i.bytes==1&&(match i.zero with|some (.int .u8 0)=>true|_=>false)
 | none=>false
def AbU(o:Op)(i:Bh):Bool:=
 match i with
 | .mv y=>(match o with|.move x=>CF x y|.assign x=>CF x y|_=>false)
 | .pick c a b=>(match o with|.pick F E N=>CF F c&&CF E a&&CF N b|_=>false)
 | .bin W x y=>(match o with|.binOp A _ x' M _=>A==W&&CF x' x&&CF M y|_=>false)
 | .eqb U x y=>(match o with|.binOp A t x' M _=>(A==(if U then BinOp.neq else BinOp.eql))&&MT P t&&CF x' x&&CF M y|_=>false)
 | .not x=>(match o with|.unOp .not _ x'=>CF x' x|_=>false)
 | .neg x=>(match o with|.unOp .neg _ x'=>CF x' x|_=>false)
 | .cvi k x=>(match o with|.convert L G x'=>(P.underlying L).isSome&&Ack P G==some k&&CF x' x|_=>false)
 | .faddr x J=>(match o with|.fieldAddr t x' f=>Rm P t f J&&CF x' x|_=>false)
 | .iaddr x i e sz=>(match o with|.indexAddr t x' I=>CC P t==some e&&CI P e==some sz&&CF x' x&&CF I i|_=>false)
 | .idx x i=>(match o with|.index t x' I=>Ga P t&&CF x' x&&CF I i|_=>false)
 | .load x n ag=>(match o with|.load t x'=>CI P t==some n&&DU P t==some ag&&CF x' x|_=>false)
 | .store a x n=>(match o with|.store t E x'=>CI P t==some n&&CF E a&&CF x' x|_=>false)
 | .box x=>(match o with|.box _ x'=>CF x' x|_=>false)
 | .alloc z=>(match o with|.alloc t=>Hi P t z|_=>false)
 | .build z ps=>(match o with|.build t K=>Hi P t (.agg z)&&(KQ P t).isSome&&Im ((KQ P t).getD []) K.toList ps|_=>false)
 | .msl _ e sz xs=>(match o with|.buildSlice t C ps=>CC P t==some e&&Iz P e sz&&C==xs.length&&decide (C*sz<=16777216)&&HS 0 ps.toList xs|_=>false)
 | .slS x D B=>(match o with|.slice t x' u g none=>Ga P t&&CF x' x&&J5 u D&&J5 g B|_=>false)
 | .slL x D B sz=>(match o with|.slice t x' u g none=>(CC P t).isSome&&CI P ((CC P t).getD 0)==some sz&&CF x' x&&J5 u D&&J5 g B|_=>false)
 | .lenS x=>(match o with|.call c=>(match c.callee with|.builtin .len=>Ga P (c.argTypes.getD 0 0)&&c.argTypes.size==1&&Bg c.args.toList [x]|_=>false)|_=>false)
 | .lenL x=>(match o with|.call c=>(match c.callee with|.builtin .len=>(CC P (c.argTypes.getD 0 0)).isSome&&c.argTypes.size==1&&Bg c.args.toList [x]|_=>false)|_=>false)
 | .app s x e sz=>(match o with|.call c=>(match c.callee with|.builtin .append=>c.argTypes==#[c.argTypes.getD 0 0,c.argTypes.getD 0 0]&&CC P (c.argTypes.getD 0 0)==some e&&Iz P e sz&&Bg c.args.toList [s,x]|_=>false)|_=>false)
 | .apps s x e=>(match o with|.call c=>(match c.callee with|.builtin .append=>c.argTypes==#[c.argTypes.getD 0 0,c.argTypes.getD 1 0]&&CC P (c.argTypes.getD 0 0)==some e&&Ga P (c.argTypes.getD 1 0)&&SD P e&&Bg c.args.toList [s,x]|_=>false)|_=>false)
 | .slT x B sz=>(match o with|.slice t x' none (some g) none=>(CC P t).isSome&&CI P ((CC P t).getD 0)==some sz&&CF x' x&&CF g B|_=>false)
 | .ext x k=>(match o with|.extract x' S=>S==k&&CF x' x|_=>false)
 | .call f args=>(match o with|.call c=>(match c.callee with|.value (.func j)=>j==f&&Bg c.args.toList args|_=>false)|_=>false)
 | .calls f args=>(match o with|.call c=>(match c.callee with|.value (.func j)=>j==f&&Bg c.args.toList args|_=>false)|_=>false)
 | .calln f args=>(match o with|.call c=>(match c.callee with|.value (.func j)=>j==f&&Bg c.args.toList args|_=>false)|_=>false)
 | .callr f args=>(match o with|.call c=>(match c.callee with|.value (.func j)=>j==f&&Bg c.args.toList args|_=>false)|_=>false)
 | .callvs h args=>(match o with|.call c=>(match c.callee with|.value R=>CF R h&&Bg c.args.toList args|_=>false)|_=>false)
 | .mkfn f first caps=>(match o with|.makeFunc (.func j) p r=>j==f&&Bg p.toList first&&Bg r.toList caps|_=>false)
 | .mksl l c z e sz=>(match o with|.makeSlice t T F=>CC P t==some e&&Iz P e sz&&Hi P e z&&CF T l&&CF F c|_=>false)
 | .mx D x xs=>(match o with|.call c=>(match c.callee with|.builtin b=>(b==(if D then Builtin.min else Builtin.max))&&Bg c.args.toList (x::xs)|_=>false)|_=>false)
 | .nilck x=>(match o with|.nilCheck x'=>CF x' x|_=>false)
 | .pu k xs=>WP P k o xs
 | .rdm k m xs=>Ade P k o m xs
 | .wrm k m xs=>AeN P k o m xs
 | .mkm k xs=>dZ P k o xs
 | .frz m n=>(match o with|.slice t x' none none none=>(match P.underlying t with|some (.array q e)=>q==n&&CI P e==some 1&&decide (n<=1024)|_=>false)&&CF x' m|_=>false)
 | .mrange m=>(match o with|.range t x'=>(S7 P t).isSome&&CF x' m|_=>false)
 | .mentry m=>(match o with|.entry x'=>CF x' m|_=>false)
end tables
end Go.Ir
end
section
namespace Go.Ir
open Go.RowKit
theorem Fy{σ id e x}(h:lk σ id=some x) k:lk (upd σ id e) k=if id=k then some e else lk σ k:=by
 induction σ with
 | nil=>simp[lk] at h
 | cons p r c=>
  have ⟨k0,e0⟩:=p;by_cases b:k0=id
  .subst b;simp only[upd,AbA,lk];split<;>rfl
  .simp only[lk,AfL b] at h;have:=c h;simp only[upd,AfL b,lk];grind
theorem DE σ id k:lk (del σ id) k=if id=k then none else lk σ k:=by
 induction σ with
 | nil=>simp[lk,del]
 | cons p r c=>
  have ⟨k0,e0⟩:=p;by_cases b:k0=id
  .subst b;simp only[del,AbA,lk,c];split<;>rfl
  .simp only[del,AfL b,lk,c];grind
theorem iD σ τ k:lk (σ++τ) k=match lk σ k with|some e=>some e|none=>lk τ k:=by
 induction σ with
 | nil=>simp[lk]
 | cons p r b=>have ⟨k0,e0⟩:=p;simp only[AvC,lk];grind
theorem Qz(q:Id->Bool) σ k:lk (σ.filter λp=>q p.1) k=if q k then lk σ k else none:=by
 induction σ with
 | nil=>simp[lk]
 | cons p r c=>
  have ⟨k0,e0⟩:=p;by_cases b:q k0=true
  .simp only[List.filter_cons,b,AbA,lk];grind
  .simp only[List.filter_cons,b,lk];grind
theorem Ij σi σo σ k:lk (over σi σo σ) k=match lk σo k with|some e=>some e|none=>if(lk σi k).isNone then lk σ k else none:=by unfold over;rw[iD,Qz (λk=>(lk σi k).isNone)]
structure By (R:Nat->Prop) (w w':World):Prop where
 os:w'.os=w.os
 tape:w'.tape=w.tape
 output:w'.output=w.output
 size:w.heap.size<=w'.heap.size
 block:∀k,k<w.heap.size->¬R k->w'.heap[k]?=w.heap[k]?
theorem By.of_grown{w w' b}(h:w.grownBy w' b):By (λk=>some k=b) w w':=
 ⟨h.os,h.tape,h.output,h.size,λk c hr=>h.block k c hr⟩
theorem By.alloc w o:By (λ_=>False) w (w.alloc o):=
 ⟨rfl,rfl,rfl,by simp,λk b _=>heap_alloc_old w o k b⟩
theorem By.setRow w g cs:By (λk=>k=g) w (w.setRow g cs):=
 ⟨rfl,rfl,rfl,by simp,λk _ b=>setRow_other w g k cs b⟩
def G0(μ:Id->Option Value)(id:Id)(v:Value):Id->Option Value:=λk=>if k=id then some v else μ k
theorem BQ{μ id v}(h:μ id=none):∀k x,μ k=some x->G0 μ id v k=some x:=by intro k x b;unfold G0;grind
theorem Au μ id v:G0 μ id v id=some v:=by simp[G0]
theorem Ce μ {id k} v (h:k≠id):G0 μ id v k=μ k:=by simp[G0,h]
section
variable{O w w':World}{σ σ1:Aq}{n n':Nat}{μ:Id→Option Value}{H:Addr→Option Value}
theorem Hp.pin_lt(hp:Hp O σ n μ H w){b v}(h:H b=some v):b.block<w.heap.size:=A1P w b (hp.pins b v h)
theorem Hp.pin_new(hp:Hp O σ n μ H w){b}(h:w.heap.size<=b.block):H b=none:=by
 cases c:H b with
 | none=>rfl
 | some v=>have:=hp.pin_lt c;omega
theorem Hp.base_turned(hp:Hp O σ n μ H w){R}(b:By R w w')(c:∀k,R k->GW μ σ k):Below O.heap.size O w':=by refine hp.base.trans ⟨b.os,b.tape,b.output,b.size,λk e=>?_⟩;exact b.block k (AuD e hp.base.size) (λhr=>by have:=(hp.own_lt (c k hr)).1;omega)
theorem Hp.pins_turned(hp:Hp O σ n μ H w){R}(e:By R w w')(c:∀k,R k->GW μ σ k):∀b v,H b=some v->w'.cell? b=some v:=by intro b v h;rw[World.cell?_of_block (w:=w) (e.block b.block (hp.pin_lt h) (λhr=>by rw[hp.unp _ (c _ hr) b rfl] at h;cases h))];exact hp.pins b v h
theorem Hp.new_(hp:Hp O σ n μ H w){R:Nat->Prop}(z:By R w w')(A:∀k,R k->GW μ σ k)
  (l:∀id e,lk σ1 id=some e->lk σ id=some e/\∀c,Cl (μ id)=some c->¬R c)
  {id:Id}{e:AP}{val:Value}(u:μ id=none)(L:id.1<n')(F:n<=n')
  (i:∀c,Cl (some val)=some c->R c\/w.heap.size<=c)(J:D0 O.heap.size (G0 μ id val) H w' id e) :
  Hp O ((id,e)::σ1) n' (G0 μ id val) H w'/\Fr μ H σ w (G0 μ id val) H ((id,e)::σ1) w':=by
 have j:=BQ (v:=val) u;have m:∀b e',lk σ1 b=some e'->b≠id/\G0 μ id val b=μ b:=by
  intro b e' D;have x:b≠id:=by intro e0;subst e0;have ⟨_,hm⟩:=(hp.ents _ _ (l _ _ D).1).named;rw[u] at hm;cases hm
  exact⟨x,Ce _ _ x⟩
 have p:∀c,GW (G0 μ id val) ((id,e)::σ1) c->(Cl (some val)=some c)\/∃b e',lk σ1 b=some e'/\Cl (μ b)=some c:=by
  rintro c ⟨b,e',g,f⟩;simp only[lk] at g;split at g
  .rename_i E;subst E;rw[Au] at f;exact .inl f
  grind
 refine⟨⟨hp.base_turned z A,hp.pins_turned z A,?_,?_,?_,?_⟩,⟨j,λ_ _ h=>h,z.size,?_,λ_ _ _=>rfl,?_⟩⟩
 .intro b e' g;simp only[lk] at g;split at g
  .grind
  .refine(hp.ents _ _ (l _ _ g).1).keep j (λ_ _ h=>h) (λc f=>?_);exact z.block c ((hp.ents _ _ (l _ _ g).1).block f).2 ((l _ _ g).2 c f)
 .intro c y B f;rcases p c y with h|⟨b,e',g,q⟩
  .rcases i c h with hr|hr
   .exact hp.unp c (A c hr) B f
   .exact hp.pin_new (by omega)
  .exact hp.unp c ⟨b,e',(l _ _ g).1,q⟩ B f
 .intro M G i2 I c l1 t r s;simp only[lk] at l1 t;split at l1<;>split at t
  .grind
  .rename_i C f;exfalso;subst C;rw[Au] at r;rw[(m _ _ t).2] at s;rcases i c r with hr|hr
   .grind
   .have:=((hp.ents _ _ (l _ _ t).1).block s).2;omega
  .rename_i C f;exfalso;subst f;rw[Au] at s;rw[(m _ _ l1).2] at r;rcases i c s with hr|hr
   .grind
   .have:=((hp.ents _ _ (l _ _ l1).1).block r).2;omega
  .rw[(m _ _ l1).2] at r;rw[(m _ _ t).2] at s;exact hp.sep _ _ _ _ c (l _ _ l1).1 (l _ _ t).1 r s
 .intro k K;have:k≠id:=by rintro rfl;omega
  rw[Ce _ _ this];exact hp.bd k (by omega)
 .intro c f y;exact z.block c f (λhr=>y (A c hr))
 .intro c f y;rcases p c y with h|⟨b,e',g,q⟩
  .grind
  .exact⟨b,e',(l _ _ g).1,q⟩
theorem Hp.set_(hp:Hp O σ n μ H w){id:Id}{e0 e:AP}(l:lk σ id=some e0)(p:By (λk=>Cl (μ id)=some k) w w')(A:D0 O.heap.size μ H w' id e) :
  Hp O (upd σ id e) n μ H w'/\Fr μ H σ w μ H (upd σ id e) w':=by
 have r:∀k,Cl (μ id)=some k->GW μ σ k:=λk h=>⟨id,e0,l,h⟩
 have i:∀b,GW μ (upd σ id e) b->GW μ σ b:=by
  rintro b ⟨c,e',f,j⟩;rw[Fy l] at f;split at f
  .grind
  .exact⟨c,e',f,j⟩
 have g:∀c e',lk (upd σ id e) c=some e'->∃q,lk σ c=some q:=by intro c e' f;rw[Fy l] at f;grind
 refine⟨⟨hp.base_turned p r,hp.pins_turned p r,?_,λb m=>hp.unp b (i b m),?_,hp.bd⟩,⟨λ_ _ h=>h,λ_ _ h=>h,p.size,?_,λ_ _ _=>rfl,λb _ m=>i b m⟩⟩
 .intro c e' f;rw[Fy l] at f;split at f
  .grind
  .rename_i x;refine(hp.ents _ _ f).keep (λ_ _ h=>h) (λ_ _ h=>h) (λb j=>?_);exact p.block b ((hp.ents _ _ f).block j).2 (λhr=>x (hp.sep _ _ _ _ b l f hr j))
 .intro B y i2 z b l1 s t u;have ⟨_,l1⟩:=g _ _ l1;have ⟨_,s⟩:=g _ _ s;exact hp.sep _ _ _ _ b l1 s t u
 .intro b j m;exact p.block b j (λhr=>m (r b hr))
def pinned(H:Addr->Option Value)(w':World)(b:Nat):Addr->Option Value:=λc=>if c.block=b then w'.cell? c else H c
theorem Hp.pin_(hp:Hp O σ n μ H w) o :
  Hp O σ n μ (pinned H (w.alloc o) w.heap.size) (w.alloc o)/\Fr μ H σ w μ (pinned H (w.alloc o) w.heap.size) σ (w.alloc o):=by
 have g:=By.alloc w o;have j:∀k,(λ_:Nat=>False) k->GW μ σ k:=λk h=>h.elim;have b:∀c v,H c=some v->pinned H (w.alloc o) w.heap.size c=some v:=by intro c v h;unfold pinned;rw[AfL (by have:=hp.pin_lt h;omega)];exact h
 refine⟨⟨hp.base_turned g j,?_,?_,?_,hp.sep,hp.bd⟩,⟨λ_ _ h=>h,b,g.size,λf e _=>g.block f e id,?_,λ_ _ h=>h⟩⟩
 .intro c v h;unfold pinned at h;split at h
  .exact h
  .exact hp.pins_turned g j c v h
 .intro m e' i;exact(hp.ents _ _ i).keep (λ_ _ h=>h) b (λf e=>g.block f ((hp.ents _ _ i).block e).2 (λh=>h))
 .intro f l c e;unfold pinned;rw[AfL (by have:=(hp.own_lt l).2;omega)];exact hp.unp f l c e
 .intro c e _;unfold pinned;rw[AfL (by omega)]
theorem Hp.part{σi:Aq}(hp:Hp O σ n μ H w)(b:∀id e,lk σi id=some e->lk σ id=some e):Hp O σi n μ H w where
 base:=hp.base
 pins:=hp.pins
 ents id e h:=hp.ents id e (b _ _ h)
 unp bk ho:=hp.unp bk (by have ⟨id,e,h,hb⟩:=ho;exact⟨id,e,b _ _ h,hb⟩)
 sep id e id' e' bk h h':=hp.sep id e id' e' bk (b _ _ h) (b _ _ h')
 bd:=hp.bd
theorem Hp.back{σi σo:Aq}{μ':Id->Option Value}{H':Addr->Option Value}(hp:Hp O σ n μ H w)(D:∀id e,lk σi id=some e->lk σ id=some e)
  (q:Hp O σo n' μ' H' w')(p:Fr μ H σi w μ' H' σo w') :
  Hp O (over σi σo σ) n' μ' H' w'/\Fr μ H σ w μ' H' (over σi σo σ) w':=by
 have k:∀id e,lk (over σi σo σ) id=some e->(lk σo id=some e)\/(lk σo id=none/\lk σi id=none/\lk σ id=some e):=by
  intro id e h;rw[Ij] at h;cases r:lk σo id with
  | some x=>rw[r] at h;exact .inl h
  | none=>simp_all
 have j:∀id e b,lk σi id=none->lk σ id=some e->Cl (μ id)=some b->b<w.heap.size/\¬GW μ σi b/\w'.heap[b]?=w.heap[b]?/\μ' id=μ id:=by
  intro id e b A g f;have l:=((hp.ents _ _ g).block f).2;have m:¬GW μ σi b:=by rintro⟨I,e',E,c⟩;have:=hp.sep _ _ _ _ b g (D _ _ E) f c;grind
  refine⟨l,m,p.keep b l m,?_⟩;cases C:μ id with
  | none=>rw[C] at f;simp[Cl] at f
  | some x=>exact p.mu _ _ C
 have i:∀id e,lk σ id=some e->μ' id=μ id:=by intro id e g;have ⟨_,C⟩:=(hp.ents _ _ g).named;rw[C];exact p.mu _ _ C
 have s:∀b,GW μ' (over σi σo σ) b->GW μ' σo b\/∃id e,lk σi id=none/\lk σ id=some e/\Cl (μ id)=some b:=by
  rintro b ⟨id,e,g,f⟩;rcases k id e g with h|⟨_,A,h⟩
  .exact .inl ⟨id,e,h,f⟩
  grind
 refine⟨⟨q.base,q.pins,?_,?_,?_,q.bd⟩,⟨p.mu,p.hp,p.size,?_,?_,?_⟩⟩
 .intro id e g;rcases k id e g with h|⟨_,A,h⟩
  .exact q.ents _ _ h
  .exact(hp.ents _ _ h).keep p.mu p.hp (λb f=>(j id e b A h f).2.2.1)
 .intro b r B f;rcases s b r with h|⟨id,e,A,g,c⟩
  .exact q.unp b h B f
  .have ⟨l,m,_,_⟩:=j id e b A g c;rw[p.pin B (by rw[f];exact l) (by rw[f];exact m)];exact hp.unp b ⟨id,e,g,c⟩ B f
 .intro M K i2 L b l1 J y z;rcases k _ _ l1 with t|⟨_,F,t⟩<;>rcases k _ _ J with u|⟨_,G,u⟩
  .exact q.sep _ _ _ _ b t u y z
  .exfalso;rw[i _ _ u] at z;have ⟨l,m,_,_⟩:=j _ _ b G u z;exact m (p.dom b l ⟨_,_,t,y⟩)
  .exfalso;rw[i _ _ t] at y;have ⟨l,m,_,_⟩:=j _ _ b F t y;exact m (p.dom b l ⟨_,_,u,z⟩)
  .rw[i _ _ t] at y;rw[i _ _ u] at z;exact hp.sep _ _ _ _ b t u y z
 .intro b f r;refine p.keep b f (λh=>r ?_);have ⟨id,e,g,c⟩:=h;exact⟨id,e,D _ _ g,c⟩
 .intro B f r;refine p.pin B f (λh=>r ?_);have ⟨id,e,g,c⟩:=h;exact⟨id,e,D _ _ g,c⟩
 .intro b f r;rcases s b r with h|⟨id,e,A,g,c⟩
  .have ⟨id,e,g,c⟩:=p.dom b f h;exact⟨id,e,D _ _ g,c⟩
  .exact⟨id,e,g,c⟩
end
end Go.Ir
end
section
namespace Go.Ir
open Go.RowKit
structure Rl (μ:Id->Option Value) (H:Addr->Option Value) (nt:Nat) (env:BB) (a:Act):Prop where
 size:a.tmps.size=nt
 defers:a.defers=[]
 at_:∀s,Ap μ H (get env s) (a.tmps.getD s undef)
structure J1 (O:World) (ep:Nat) (d:Option Nat) (σ:Aq) (n:Nat) (μ:Id->Option Value) (H:Addr->Option Value) (w:World) (v:V) (σ':Aq)
  (val:Value) (n':Nat) (μ':Id->Option Value) (H':Addr->Option Value) (w':World):Prop where
 rel:Ap μ' H' v val
 hp:Hp O σ' n' μ' H' w'
 le:n<=n'
 fr:Fr μ H σ w μ' H' σ' w'
 fresh:∀id,id.1<n->(∀dd,d=some dd->id≠(ep,dd))->μ id=none->μ' id=none
section
variable{μ μ':Id→Option Value}{H H':Addr→Option Value}
theorem Rl.mono{nt env a}(h:Rl μ H nt env a)(b:∀id x,μ id=some x->μ' id=some x)(e:∀c x,H c=some x->H' c=some x):Rl μ' H' nt env a:=
 ⟨h.size,h.defers,λs=>(h.at_ s).mono b e⟩
theorem Rl.put{nt env a}(h:Rl μ H nt env a){d}(f:∀e,d=some e->e<nt){v val}(g:Ap μ H v val):Rl μ H nt (put env d v) (a.put d val):=by
 cases d with
 | none=>exact h
 | some d=>
  have b:=f d rfl;refine⟨by simp[Act.put,h.size],by simp[Act.put,h.defers],λs=>?_⟩;by_cases c:d=s
  .subst c;have:d<a.tmps.size:=by rw[h.size];exact b
   simpa[Go.Ir.put,get,Act.put,this] using g
  .have:=h.at_ s;simpa[Go.Ir.put,get,Act.put,c,A1t c] using this
theorem QX{v c}(h:okC v c=true):Ap μ H c v:=by
 unfold okC at h;split at h
 .have e:=beq_iff_eq.1 h;subst e;exact .b _
 .simp only[AaS,AjK] at h;obtain⟨rfl,rfl⟩:=h;exact .i _ _
 .simp only[AaS,AjK,Avv] at h;have ⟨h1,h2⟩:=h;subst h1;exact .s _ h2
 .exact .nil
 .exact .np
 .exact .nf
 .exact .ni
 .exact .nm
 .cases h
theorem UW:∀{vs cs},cI vs cs=true->AY μ H cs vs
 | [],[],_=>AY.nil_
 | x::xs,y::ys,h=>by
  simp only[cI,AaS] at h;have c:=UW h.2;have e:x.oneCell'=true:=by have:=h.1;cases x<;>first|rfl|simp[okC] at this
  exact⟨VRels.cons (QX h.1) c.toVRels,λv b=>by
   rcases Ahk.1 b with rfl|b
   .exact e
   .exact c.one v b⟩
 | [],_::_,h=>by simp[cI] at h
 | _::_,[],h=>by simp[cI] at h
theorem Lp{v c}(h:okZ v c=true):Ap μ H c v/\AY μ H (cells c) v.cells.toList:=by
 have one:okC v c=true->(∀vs,v≠.agg vs)->Ap μ H c v/\AY μ H (cells c) v.cells.toList:=by
  intro h e;have hr:=QX (μ:=μ) (H:=H) h;refine⟨hr,?_⟩;have b:c.ok=true:=by cases v<;>cases c<;>simp_all[okC,V.ok]
  exact(hr.toCells b).1
 unfold okZ at h;split at h
 .rename_i vs cs;have b:=UW (μ:=μ) (H:=H) h;refine⟨?_,by simpa[Value.cells,cells] using b⟩;have:=Ap.agg cs vs.toList b.len b.one b.at_;simpa using this
 .cases h
 .cases h
 grind
theorem Ar{nt env a}(hr:Rl μ H nt env a){x y}(h:CF x y=true):Ap μ H (ev (get env) y) (a.eval x):=by
 unfold CF at h;split at h
 .have b:=beq_iff_eq.1 h;subst b;exact hr.at_ _
 .exact QX h
 .have b:=beq_iff_eq.1 h;subst b;exact .fn _ [] [] [] [] rfl rfl (λk c v e=>by simp at e) (λk c v e=>by simp at e)
 .cases h
theorem Et{nt env a}(hr:Rl μ H nt env a):∀{xs ys},Bg xs ys=true->VRels μ H (ys.map (ev (get env))) (xs.map a.eval)
 | [],[],_=>VRels.nil_
 | x::xs,y::ys,h=>by simp only[Bg,AaS] at h;exact VRels.cons (Ar hr h.1) (Et hr h.2)
 | [],_::_,h=>by simp[Bg] at h
 | _::_,[],h=>by simp[Bg] at h
end
section
variable{P:Program}{o:Oper}{a:Act}{w w':World}{next:Act→World→Prop}{Q:Exit→Act→World→Prop}{val:Value}
theorem Ca(b:(execOp a.eval o).run P w=.ok (.value val) w')(h:next (a.put o.dst val) w'):o.wp P a w next Q:=by unfold Oper.wp;rw[b];exact h
theorem XH(hrun:(execOp a.eval o).run P w=.ok .skip w')(h:next (a.put o.dst undef) w'):o.wp P a w next Q:=by
 unfold Oper.wp;rw[hrun];exact h
end
section same
variable{O w:World}{ep:Nat}{d:Option Nat}{σ:Aq}{n:Nat}{μ:Id→Option Value}{H:Addr→Option Value}{v:V}{val:Value}
theorem J1.same(hp:Hp O σ n μ H w)(h:Ap μ H v val):J1 O ep d σ n μ H w v σ val n μ H w:=
 ⟨h,hp,Ab6 _,Fr.refl _ _ _ _,λ_ _ _ h=>h⟩
end same
section inv
variable{μ:Id→Option Value}{H:Addr→Option Value}{val:Value}
theorem Ap.b_inv{t}(h:Ap μ H (.b t) val):val=.bool t:=by cases h;rfl
theorem Ap.i_inv{k n}(h:Ap μ H (.i k n) val):val=.int k n:=by cases h;rfl
theorem Ap.s_inv{l}(h:Ap μ H (.s l) val):val=.string ⟨l.toArray⟩/\l.length<=AG:=by cases h;grind
theorem Ap.nil_inv(h:Ap μ H .nil val):val=.slice none 0 0:=by cases h;rfl
theorem Ap.ref_inv{id b}(h:Ap μ H (.ref id b) val):∃c,μ id=some (.pointer (some ⟨c,0,none⟩))/\val=.pointer (some ⟨c,b,none⟩):=by cases h;grind
theorem Ap.arr_inv{id}(h:Ap μ H (.arr id) val):μ id=some val/\val.oneCell'=true:=by cases h;grind
theorem Ap.aref_inv{id g sz b}(h:Ap μ H (.aref id g sz b) val):∃f e c,μ id=some (.slice (some ⟨f,0,none⟩) e c)/\val=.pointer (some ⟨f,g*sz+b,none⟩):=by cases h;grind
theorem Ap.ep_inv{e c}(h:Ap μ H (.ep e c) val):∃(f:Addr) (b:List Value),val=.pointer (some (f.add c))/\AY μ H (cells e) b/\∀(k) (v),b[k]?=some v->H (f.add k)=some v:=by
 cases h with
 | ep e c f b i g hp j=>exact⟨f,b,rfl,⟨⟨i,j⟩,g⟩,hp⟩
theorem Ap.tup_inv{cs}(h:Ap μ H (.tup cs) val):∃b,val=.tuple b.toArray/\VRels μ H cs b:=by
 cases h with
 | tup cs b c e=>exact⟨b,rfl,⟨c,e⟩⟩
theorem Ap.fn_inv{f first caps}(h:Ap μ H (.fn f first caps) val):∃c b,val=.func (.func f) c.toArray b.toArray/\VRels μ H first c/\VRels μ H caps b:=by
 cases h with
 | fn f first caps c b e g i j=>exact⟨c,b,rfl,⟨e,i⟩,⟨g,j⟩⟩
theorem Ap.sl_inv{es:List V}(h:Ap μ H (.sl es) val):∃(A:Option Addr) (c:Nat),val=.slice A es.length c/\es.length<=c/\es.length<=AJ/\
  (es=[]\/∃(f:Addr) (sz:Nat) (b:List Value),A=some f/\(∀e∈es,(cells e).length=sz)/\AY μ H (AQ es) b/\∀(k:Nat) (v:Value),b[k]?=some v->H (f.add k)=some v):=by
 cases h with
 | slE a c=>simp_all
 | slC es f c sz b j l g m i hp p=>exact⟨some f,c,rfl,j,l,.inr ⟨f,sz,b,rfl,g,⟨⟨m,p⟩,i⟩,hp⟩⟩
theorem Ap.isA_inv{v}(h:Ap μ H v val)(e:UX v=true):∃b,val=.agg b.toArray/\AY μ H (cells v) b:=by cases h<;>simp[UX] at e;rename_i cs b f c g;exact⟨b,rfl,⟨⟨f,g⟩,c⟩⟩
end inv
theorem K7{P:Program}{t:TypeId}{n:Nat}{ag:Bool}(s:CI P t=some n)(p:DU P t=some ag)(w:World)(b:List Value)(c:Nat){μ:Id->Option Value}{H:Addr->Option Value}{u v:V}
  (h:AY μ H (cells u) b)(f:sub u c n ag=some v):∃val,(part t b.toArray c).run P w=.ok val w/\Ap μ H v val:=by
 obtain⟨i,q,rfl⟩:∃i,P.info? t=some i/\i.size=n:=by simpa[CI] using s
 have ⟨e,hu,hag⟩:∃e,P.underlying t=some e/\rB e=ag:=by simpa[DU] using p
 have j:(isAgg t).run P w=.ok ag w:=by unfold isAgg;rw[Ao1,At3 hu w];subst hag;cases e<;>rfl
 unfold sub at f;unfold part;rw[Ao1,j];simp only[Aow];cases ag with
 | false=>simp only[Ab7,Ab9] at f⊢;have ⟨x,hx,hr⟩:=h.get f;simp_all
 | true=>
  simp only[AbA] at f⊢;simp only[sizeOf,typeInfo,Ao1,run_program,Aow,q,Aur];refine⟨_,rfl,?_⟩;split at f
  .rename_i m;cases f;obtain⟨rfl,r⟩:=m;have l:b.length=i.size:=by rw[<-h.len];exact r
   have k:b.toArray.extract 0 (0+i.size)=b.toArray:=by grind
   rw[k];exact .agg _ _ h.len h.one h.at_
  .split at f
   .cases f;have g:=(h.drop c).take i.size;have k:b.toArray.extract c (c+i.size)=((b.drop c).take i.size).toArray:=by grind
    rw[k];exact .agg _ _ g.len g.one g.at_
   .cases f
theorem Mv{P:Program}{t:TypeId}{n:Nat}{ag:Bool}(F:CI P t=some n)(D:DU P t=some ag)(w:World)(b:List Value)(m:Addr)(c:Nat){μ:Id->Option Value}{H:Addr->Option Value}{u v:V}
  (h:AY μ H (cells u) b)(s:∀k v,b[k]?=some v->w.cell? (m.add k)=some v)(g:sub u c n ag=some v):∃val,(loadVar t (m.add c)).run P w=.ok val w/\Ap μ H v val:=by
 have B:∀i j,(m.add i).add j=m.add (i+j):=λi j=>by unfold Addr.add;by_cases y:i=0<;>by_cases E:j=0<;>simp[y,A1g]
 obtain⟨i,y,rfl⟩:∃i,P.info? t=some i/\i.size=n:=by simpa[CI] using F
 obtain⟨f,G,r⟩:∃f,P.underlying t=some f/\rB f=ag:=by simpa[DU] using D
 have p:(isAgg t).run P w=.ok ag w:=by unfold isAgg;rw[Ao1,At3 G w];subst r;cases f<;>rfl
 unfold sub at g;unfold loadVar;rw[Ao1,p];simp only[Aow];cases ag with
 | false=>simp only[Ab7,Ab9] at g⊢;obtain⟨x,I,hr⟩:=h.get g;simp_all
 | true=>
  simp only[AbA] at g⊢;simp only[sizeOf,typeInfo,Ao1,run_program,Aow,y,Aur];have z:c+i.size<=b.length->(loadCells (m.add c) i.size).run P w=.ok ((b.drop c).take i.size).toArray w:=by
   intro q;have e:((b.drop c).take i.size).length=i.size:=by simp;omega
   have:=run_loadCells_list (P:=P) w (m.add c) ((b.drop c).take i.size) (λj v E=>by grind
)
   rwa [e] at this
  split at g
  .rename_i A;cases g;obtain⟨rfl,q⟩:=A;have e:b.length=i.size:=by rw[<-h.len];exact q
   rw[z (by omega)];refine⟨_,rfl,?_⟩;have C:(b.drop 0).take i.size=b:=by simp[<-e]
   rw[C];exact .agg _ _ h.len h.one h.at_
  .split at g
   .rename_i q;cases g;rw[z (by rw[<-h.len];exact q)];have l:=(h.drop c).take i.size;exact⟨_,rfl,.agg _ _ l.len l.one l.at_⟩
   .cases g
end Go.Ir
end
section
namespace Go.Ir
open Go.RowKit
theorem gE{P t k}(h:Ack P t=some k):P.underlying t=some (.int k):=by unfold Ack at h;grind
theorem C8{P t e}(h:CC P t=some e):P.underlying t=some (.slice e):=by unfold CC at h;grind
theorem Ft{P t}(h:Ga P t=true):P.underlying t=some .string:=by unfold Ga at h;grind
theorem S8{P t}(h:MT P t=true):P.underlying t=some .bool:=by unfold MT at h;grind
theorem Ll{P t b}(h:Jb P t=some b):P.underlying t=some (.struct b):=by unfold Jb at h;grind
theorem Tn{P t f e}(h:QM P t f=some e):∃b,P.underlying t=some (.struct b)/\b[f]?=some e:=by
 unfold QM at h;cases c:Jb P t with
 | none=>simp[c] at h
 | some b=>exact⟨b,Ll c,by simpa[c] using h⟩
theorem Vc{P t n}(h:CI P t=some n):∃i,P.info? t=some i/\i.size=n:=by simpa[CI] using h
theorem Dx{P t n}(h:CI P t=some n) w:(sizeOf t).run P w=.ok n w:=by obtain⟨i,b,rfl⟩:=Vc h;simp[sizeOf,typeInfo,b]
theorem IE{P e sz}(h:Iz P e sz=true):∃i z,P.info? e=some i/\i.size=sz/\0<sz/\i.bytes<=32768/\i.zero=some z/\z.cells.size=sz/\∀v∈z.cells,v.oneCell'=true:=by
 unfold Iz at h;cases b:P.info? e with
 | none=>simp[b] at h
 | some i=>
  simp only[b,AaS,AjK,Avv] at h;have ⟨⟨⟨h1,h2⟩,h3⟩,h4⟩:=h;cases c:i.zero with
  | none=>simp[c] at h4
  | some z=>simp only[c,AaS,AjK,A1v] at h4;grind
section ops
variable{P:Program}{O:World}{ep nt:Nat}{o:Oper}{d:Option Nat}{env:BB}{σ σ':Aq}{n:Nat}{μ:Id→Option Value}{H:Addr→Option Value}{a:Act}{w:World}{v:V}{next:Act→World→Prop}{Q:Exit→Act→World→Prop}
def AU(P:Program)(O:World)(ep:Nat)(o:Oper)(d:Option Nat)(σ:Aq)(n:Nat)(μ:Id->Option Value)(H:Addr->Option Value)(a:Act)(w:World)(v:V)(σ':Aq):Prop:=
 ∀(next:Act->World->Prop) (Q:Exit->Act->World->Prop),(∀val n' μ' H' w',J1 O ep d σ n μ H w v σ' val n' μ' H' w'->next (a.put o.dst val) w')->o.wp P a w next Q
theorem AU.same{val}(b:∀w,(execOp a.eval o).run P w=.ok (.value val) w)(hp:Hp O σ n μ H w)(h:Ap μ H v val):AU P O ep o d σ n μ H a w v σ:=
 λnext Q K=>Ca (b w) (K _ _ _ _ _ (J1.same hp h))
variable(hr:Rl μ H nt env a)(hp:Hp O σ n μ H w)
include hr hp
theorem ArX{x' x}(b:o.op=.move x'\/o.op=.assign x')(e:CF x' x=true)(c:v=ev (get env) x):AU P O ep o d σ n μ H a w v σ:=by subst c;refine AU.same (val:=a.eval x') (λw=>?_) hp (Ar hr e);rcases b with b|b<;>simp[execOp,b]
theorem Ajp{g x' f c x y}(j:o.op=.pick g x' f)(h:CF g c=true)(l:CF x' x=true)(m:CF f y=true){t}
  (k:ev (get env) c=.b t)(i:v=(bif t then ev (get env) x else ev (get env) y)):AU P O ep o d σ n μ H a w v σ:=by
 have e:=Ar hr h;rw[k] at e;have:=e.b_inv;subst i;refine AU.same (val:=if t then a.eval x' else a.eval f) (λw=>?_) hp ?_
 .simp[execOp,j,this,asBool]
 .cases t
  .exact Ar hr m
  .exact Ar hr l
theorem Auu{h t E x' B x y}(A:o.op=.binOp h t x' B E)(C:CF x' x=true)(D:CF B y=true)
  (c:Rg h (ev (get env) x) (ev (get env) y) v):AU P O ep o d σ n μ H a w v σ:=by
 have f:=Ar hr C;have g:=Ar hr D;generalize ev (get env) x=J at *;generalize ev (get env) y=K at *;unfold Rg at c;split at c
 .rename_i k p F q;obtain⟨rfl,c⟩:=c;have j:=f.i_inv;have l:=g.i_inv;have e:∀val,(∀w,(binOp h t (.int k p) (.int k q)).run P w=.ok val w)->Ap μ H v val->AU P O ep o d σ n μ H a w v σ:=λval m r=>
   AU.same (λw=>by simp[execOp,A,j,l,eqGuard_at_int,m w]) hp r
  unfold UT at c;split at c<;>first
   | exact c.elim
   | (subst c;exact e (.int _ _) (λw=>by simp[go_sem]) (.i _ _))
   | (subst c;exact e (.bool _) (λw=>by simp[go_sem]) (.b _))
   | (obtain⟨u,c⟩:=c;subst c;exact e (.int _ _) (λw=>by simp[go_sem,u]) (.i _ _))
 .rename_i p q;obtain⟨j,G⟩:=f.s_inv;obtain⟨l,I⟩:=g.s_inv;have e:∀val,(∀w,(binOp h t (.string ⟨p.toArray⟩) (.string ⟨q.toArray⟩)).run P w=.ok val w)->Ap μ H v val->AU P O ep o d σ n μ H a w v σ:=λval m r=>
   AU.same (λw=>by simp[execOp,A,j,l,eqGuard_at_string,m w]) hp r
  unfold UP at c;split at c
  .obtain⟨z,rfl⟩:=c;refine e (.string ⟨(p++q).toArray⟩) (λw=>?_) (.s _ (by simpa using z));rw[binOp_string_add,run_string_add_sum w _ _ (by simp[ByteArray.size,AG] at z⊢;omega),ByteArray.mk_append_mk]
  all_goals first
   | exact c.elim
   | (subst c;exact e (.bool _) (λw=>by simp[go_sem]) (.b _))
 .exact c.elim
theorem Ath{l}{g:Bool}{t D x' m x y}(k:o.op=.binOp l t x' m D)(h:l=if g then BinOp.neq else BinOp.eql)(z:MT P t=true)(B:CF x' x=true)(C:CF m y=true)
  {p q}(r:ev (get env) x=.b p)(s:ev (get env) y=.b q)(u:v=.b (if g then !(p==q) else p==q)):AU P O ep o d σ n μ H a w v σ:=by
 have e:=Ar hr B;have f:=Ar hr C;rw[r] at e;rw[s] at f;have i:=e.b_inv;have j:=f.b_inv;have A:=S8 z;subst u;have c:∀w,(Op.equal t (.bool p) (.bool q)).run P w=.ok (p==q) w:=by intro w;unfold Op.equal Op.maxDepth Op.equalIn;rw[Ao1,At3 A w];rfl
 subst h;refine AU.same (val:=.bool (if g then !(p==q) else p==q)) (λw=>?_) hp (.b _);cases g
 .simp[execOp,k,i,j,eqGuard_at_bool,binOp,c]
 .simp[execOp,k,i,j,eqGuard_at_bool,binOp,c]
theorem Asw{t x' x}(h:o.op=.unOp .not t x')(i:CF x' x=true){p}(f:ev (get env) x=.b p)(g:v=.b (!p)):AU P O ep o d σ n μ H a w v σ:=by have c:=Ar hr i;rw[f] at c;have e:=c.b_inv;subst g;exact AU.same (val:=.bool (!p)) (λw=>by simp[execOp,h,e,Op.unary]) hp (.b _)
theorem Asn{t x' x}(g:o.op=.unOp .neg t x')(h:CF x' x=true){k p}(e:ev (get env) x=.i k p)(f:v=.i k (k.wrap (0-p))):AU P O ep o d σ n μ H a w v σ:=by have b:=Ar hr h;rw[e] at b;have c:=b.i_inv;subst f;exact AU.same (val:=.int k (k.wrap (0-p))) (λw=>by simp[execOp,g,c,Op.unary,Op.intArith]) hp (.i _ _)
theorem AoD{e b x' x k}(m:o.op=.convert e b x')(q:(P.underlying e).isSome=true)(j:Ack P b=some k)(r:CF x' x=true){s p}
  (h:ev (get env) x=.i s p)(l:v=.i k (k.wrap p)):AU P O ep o d σ n μ H a w v σ:=by
 have c:=Ar hr r;rw[h] at c;have g:=c.i_inv;subst l;obtain⟨t,f⟩:=AxV.mp q;exact AU.same (val:=.int k (k.wrap p)) (λw=>by simp[execOp,m,g,convert,At3 f,At3 (gE j),Conv.intToInt]) hp (.i _ _)
theorem AbH{t x' x f b}(M:o.op=.fieldAddr t x' f)(s:Rm P t f b=true)(R:CF x' x=true)
  (p:match ev (get env) x with
   | .ref id o=>v=.ref id (o+b)
   | .aref id S sz o=>v=.aref id S sz (o+b)
   | .ep e o=>v=.ep e (o+b)
   | _=>False):AU P O ep o d σ n μ H a w v σ:=by
 have k:=Ar hr R;unfold Rm at s;cases g:QM P t f with
 | none=>simp[g] at s
 | some u=>
  simp only[g,AaS,AjK,Avv] at s;obtain⟨rfl,E⟩:=s;obtain⟨U,N,B⟩:=Tn g;obtain⟨m,q⟩:∃m,CI P u.type=some m:=by
   cases h:CI P u.type with
   | none=>simp[h] at E
   | some m=>exact⟨m,rfl⟩
  have C:m≠0:=by grind
  have y:∀c:Addr,a.eval x'=.pointer (some c)->Ap μ H v (.pointer (some (c.add u.offset)))->AU P O ep o d σ n μ H a w v σ:=λc I J=>
   AU.same (λw=>by simp[execOp,M,I,Instr.fieldAt,At3 N,B,Instr.sureAddr,fieldPlace,Dx q,C]) hp J
  have z:∀(c:Addr) i j,(c.add i).add j=c.add (i+j):=λc i j=>by unfold Addr.add;by_cases K:i=0<;>by_cases L:j=0<;>simp[K,L,A1g]
  generalize ev (get env) x=W at *;split at p
  .subst p;obtain⟨F,q,l⟩:=k.ref_inv;exact y _ l (by rw[A1G];exact .ref _ _ _ q)
  .subst p;obtain⟨F,T,G,q,l⟩:=k.aref_inv;exact y _ l (by rw[A1G,A1g];exact .aref _ _ _ _ _ _ _ q)
  .subst p;obtain⟨c,r,l,A,D⟩:=k.ep_inv;exact y _ l (by rw[z];exact .ep _ _ _ r A.len A.one D A.at_)
  .exact p.elim
end ops
end Go.Ir
end
section
namespace Go.Ir
open Go.RowKit
theorem CJ b n:(⟨b,0,none⟩:Addr).add n=⟨b,n,none⟩:=by rw[A1G];simp
theorem TH(b:Addr) i j:(b.add i).add j=b.add (i+j):=by unfold Addr.add;by_cases c:i=0<;>by_cases e:j=0<;>simp[c,A1g]
theorem Ny{μ:Id->Option Value}{H:Addr->Option Value}{es:List V}{b:List Value}{sz i:Nat}{f:V}(c:∀e∈es,(cells e).length=sz)(g:AY μ H (AQ es) b)(h:es[i]?=some f) :
  AY μ H (cells f) ((b.drop (i*sz)).take sz):=by
 have:=(g.drop (i*sz)).take sz
 rwa [Ym c h] at this
theorem RE{b:List Value}{m sz k v}(h:((b.drop m).take sz)[k]?=some v):b[m+k]?=some v:=by grind
section ops
variable{P:Program}{O:World}{ep nt:Nat}{o:Oper}{d:Option Nat}{env:BB}{σ σ':Aq}{n:Nat}{μ:Id→Option Value}{H:Addr→Option Value}{a:Act}{w:World}{v:V}
variable(hr:Rl μ H nt env a)(hp:Hp O σ n μ H w)
theorem DO{id}{e sz:Nat}{es}(hp:Hp O σ n μ H w)(c:lk σ id=some (.arr e sz es)){val}(f:μ id=some val) :
  ∃b,val.oneCell'=true/\w.ownsRow O.heap.size e sz val es.length b/\es.length<=AJ/\(∀x∈es,(cells x).length=sz)/\AY μ H (AQ es) b:=by
 have ⟨v,b,hm',h1,h2,h3,h4,h5⟩:=hp.ents _ _ c;grind
theorem Hy{base e sz m:Nat}{val xs}(h:w.ownsRow base e sz val m xs)(f:0<m) :
  ∃g b c,val=.slice (some ⟨g,0,none⟩) m b/\base<=g/\w.heap[g]?=some (.cells c e (0,0))/\c.size=b*sz/\m<=b/\b<=maxLen/\c.toList.take (m*sz)=xs:=by
 rcases h.2 with⟨rfl,rfl⟩|⟨g,b,c,rfl,h1,h2,h3,h4,h5,h6⟩
 .omega
 .exact⟨g,b,c,rfl,h1,h2,h5,h3,h4,h6⟩
theorem Cr{base e sz m:Nat}{val xs}(h:w.ownsRow base e sz val m xs):∃A b,val=.slice A m b:=by
 rcases h.2 with⟨rfl,rfl⟩|⟨g,b,cur,rfl,h1,h2,h3,h4,h5,h6⟩
 .exact⟨_,_,rfl⟩
 grind
include hr hp
theorem Acq{t x' R x i}{e sz:Nat}(ho:o.op=.indexAddr t x' R)(ht:CC P t=some e)(G:CI P e=some sz)(hx:CF x' x=true)(hi:CF R i=true)
  (j:match ev (get env) i with
   | .i _ n=>0<=n/\(match ev (get env) x with
    | .sl es=>∃q,es[n.toNat]?=some q/\(cells q).length=sz/\v=.ep q 0
    | .arr id=>∃e' es,lk σ id=some (.arr e' sz es)/\n.toNat<es.length/\v=.aref id n.toNat sz 0
    | _=>False)
   | _=>False):AU P O ep o d σ n μ H a w v σ:=by
 have B:=Ar hr hx;have E:=Ar hr hi;have M:=C8 ht;have r:P.elem t=e:=by simp[Program.elem,M]
 generalize ev (get env) i=vi at *;generalize ev (get env) x=vx at *;split at j
 .rename_i k m;obtain⟨W,j⟩:=j;have T:=E.i_inv;have I:∀(h:Addr) c b,a.eval x'=.slice (some h) c b->m.toNat<c->Ap μ H v (.pointer (some (h.add (m.toNat*sz))))->AU P O ep o d σ n μ H a w v σ:=λh c b X h2 Y=>
   AU.same (val:=.pointer (some (h.add (m.toNat*sz)))) (λw=>by
    have s:0<=m/\m<(c:Int):=⟨W,by omega⟩
    simp only[execOp,ho,X,T,Ao1];rw[run_indexAt_slice w t h c b k m (by rw[r];exact M),Amm s,r,Dx G];rfl) hp Y
  split at j
  .rename_i es;obtain⟨q,l,hc,rfl⟩:=j;have f:m.toNat<es.length:=(Ao5.1 l).1;obtain⟨A,b,U,J,K,Z⟩:=B.sl_inv;rcases Z with rfl|⟨h,C,D,rfl,z,y,L⟩
   .simp at f
   .have F:C=sz:=by grind
    subst F;refine I h _ _ U f ?_;have p:=Ny z y l;have:=Ap.ep (μ:=μ) (H:=H) q 0 (h.add (m.toNat*C)) _ p.len p.one (λk v hk=>by rw[TH];grind) p.at_
    rwa [Addr.add_zero'] at this
  .rename_i id;obtain⟨e',es,hl,f,rfl⟩:=j;obtain⟨s,_⟩:=B.arr_inv;obtain⟨D,_,u,_⟩:=DO hp hl s;obtain⟨g,b,S,N,_⟩:=Hy u (by omega);refine I ⟨g,0,none⟩ _ _ N f ?_;rw[CJ];rw[N] at s;exact .aref id _ sz 0 g _ b s
  .exact j.elim
 .exact j.elim
theorem Apv{t x' h x i}(B:o.op=.index t x' h)(C:Ga P t=true)(D:CF x' x=true)(A:CF h i=true)
  {l k m c}(r:ev (get env) x=.s l)(q:ev (get env) i=.i k m)(u:0<=m)(g:l[m.toNat]?=some c)(z:v=.i .u8 c.toNat):AU P O ep o d σ n μ H a w v σ:=by
 have e:=Ar hr D;have b:=Ar hr A;rw[r] at e;rw[q] at b;obtain⟨j,_⟩:=e.s_inv;have p:=b.i_inv;subst z;have f:m.toNat<l.length:=(Ao5.1 g).1;refine AU.same (val:=.int .u8 c.toNat) (λw=>?_) hp (.i _ _);simp only[execOp,B,j,p,Ao1];have y:(⟨l.toArray⟩:ByteArray)[m.toNat]?=some c:=by rw[ByteArray.getElem?_lt' _ _ (by simpa[ByteArray.size] using f)];have:=(Ao5.1 g).2;congr 1
 simp[Instr.index,asIntOf,At3 (Ft C),u,y]
omit hr hp in
theorem AbY{B:Nat}{id:Id}{en:AP}{u:V}(h:D0 B μ H w id en)(e:en=.box u\/∃t,en=.tbox t u) :
  ∃c b t,μ id=some (.pointer (some ⟨c,0,none⟩))/\w.heap[c]?=some (.cells b t (0,0))/\AY μ H (cells u) b.toList:=by
 rcases e with rfl|⟨t,rfl⟩
 .have ⟨c,b,t,h1,_,h2,h3⟩:=h;grind
 .have ⟨c,b,h1,_,h2,h3⟩:=h;grind
theorem AmA{t x' x m ag}(ho:o.op=.load t x')(N:CI P t=some m)(I:DU P t=some ag)(hx:CF x' x=true)
  (p:match ev (get env) x with
   | .ref id b=>∃en,lk σ id=some en/\ldB en b m ag=some v
   | .aref id F sz b=>∃e es E,lk σ id=some (.arr e sz es)/\es[F]?=some E/\sub E b m ag=some v
   | .ep u b=>sub u b m ag=some v
   | _=>False):AU P O ep o d σ n μ H a w v σ:=by
 have f:=Ar hr hx;have G:∀(h:Addr) b (u:V) c,a.eval x'=.pointer (some (h.add b))->AY μ H (cells u) c->(∀k v,c[k]?=some v->w.cell? (h.add k)=some v)->sub u b m ag=some v->AU P O ep o d σ n μ H a w v σ:=by
  intro h b u c T U W X next Q K
  obtain⟨val,B,A⟩:=Mv N I w c h b U W X;refine Ca (w':=w) (val:=val) ?_ (K _ _ _ _ _ (J1.same hp A));simp[execOp,ho,T,Instr.loadAt,Instr.sureAddr,B]
 generalize ev (get env) x=vx at *;split at p
 .rename_i id b;obtain⟨en,L,C⟩:=p;obtain⟨i,M,j⟩:=f.ref_inv;obtain⟨u,J,C⟩:=Uo C;obtain⟨R,c,t',s,Y,l⟩:=AbY (hp.ents _ _ L) J;rw[M] at s;cases s;refine G ⟨i,0,none⟩ b u c.toList (by rw[CJ];exact j) l (λk v r=>?_) C;rw[CJ,cell_of_row w i k c t' (0,0) Y];simpa using r
 .rename_i id F sz b;obtain⟨e,es,E,L,q,C⟩:=p;obtain⟨i,ac,S,M,j⟩:=f.aref_inv;obtain⟨c,_,y,_,D,l⟩:=DO hp L M;have Z:F<es.length:=(Ao5.1 q).1;refine G ⟨i,F*sz,none⟩ b E _ (by rw[A1G];exact j) (Ny D l q) (λk v r=>?_) C;have:=y.cells (g:=i) rfl _ _ (RE r);rw[CJ] at this;rw[A1G];exact this
 .rename_i u b;obtain⟨h,c,j,l,z⟩:=f.ep_inv;exact G h b u c j l (λk v r=>hp.pins _ _ (z k v r)) p
 .exact p.elim
end ops
theorem NZ{xs y}(h:Bg xs [y]=true):∃x,xs=[x]/\CF x y=true:=by
 match xs,h with
 | [x],h=>exact⟨x,rfl,by simpa[Bg] using h⟩
 | [],h=>simp[Bg] at h
 | _::_::_,h=>simp[Bg] at h
theorem UG{xs y z}(h:Bg xs [y,z]=true):∃x x',xs=[x,x']/\CF x y=true/\CF x' z=true:=by
 match xs,h with
 | [x,x'],h=>exact⟨x,x',rfl,by simpa[Bg] using h⟩
 | [],h=>simp[Bg] at h
 | [_],h=>simp[Bg] at h
 | _::_::_::_,h=>simp[Bg] at h
theorem Cp{P o c b}(f:o.op=.call c)(e:c.callee=.builtin b) ρ w :
  ∃cs,(execOp ρ o).run P w=(builtin b c.argTypes o.type cs (c.args.map ρ)).run P w:=by
 refine⟨c.args.map fun|.const _=>true|_=>false,?_⟩;simp only[execOp,f,resolve,e,Ao1,Aur,Aow,invoke];rfl
theorem DI{b:Type}{xs}{l:List b}(h:xs.toList=l):xs=l.toArray:=by grind
theorem QT{b:Type}(xs:Array b)(h:xs.size=1):∃x,xs=#[x]:=by
 have ⟨l⟩:=xs
 match l,h with
 | [x],_=>exact⟨x,rfl⟩
theorem cZ{e:Type}(vs:List e):∀(k b:Nat) (cs:Array e),b+k+vs.length<=cs.size->
  ((vs.zipIdx k).foldl (λcs (c,j)=>cs.setIfInBounds (b+j) c) cs).toList=cs.toList.take (b+k)++vs++cs.toList.drop (b+k+vs.length):=by
 induction vs with
 | nil=>simp 
 | cons v vs l=>
  intro k b cs h;simp only[An9] at h;simp only[List.zipIdx_cons,AyT];rw[l (k+1) b _ (by simp;omega)];simp only[A1A,An9];have i:b+k<cs.toList.length:=by simp;omega
  have f:(cs.toList.set (b+k) v).take (b+(k+1))=cs.toList.take (b+k)++[v]:=by
   rw[<-A1g,List.take_set,List.take_succ_eq_append_getElem i];have m:(cs.toList.take (b+k)).length=b+k:=by simp;omega
   simp[*]
  have g:(cs.toList.set (b+k) v).drop (b+(k+1)+vs.length)=cs.toList.drop (b+k+(vs.length+1)):=by rw[List.drop_set_of_lt (by omega)];congr 1;omega
  rw[f,g];simp
theorem Te(vs cs:Array Value) b (h:b+vs.size<=cs.size) :
  (vs.zipIdx.foldl (λcs (c,j)=>cs.setIfInBounds (b+j) c) cs).toList=cs.toList.take b++vs.toList++cs.toList.drop (b+vs.size):=by
 have:=cZ vs.toList 0 b cs (by simpa using h);rw[<-Array.foldl_toList];simpa using this
section ops
variable{P:Program}{O:World}{ep nt:Nat}{o:Oper}{d:Option Nat}{env:BB}{σ σ':Aq}{n:Nat}{μ:Id→Option Value}{H:Addr→Option Value}{a:Act}{w:World}{v:V}
variable(hr:Rl μ H nt env a)(hp:Hp O σ n μ H w)
include hr hp
theorem AkX{x c}(y:o.op=.call c)(e:c.callee=.builtin .len)(m:Ga P (c.argTypes.getD 0 0)=true)(r:c.argTypes.size=1)(j:Bg c.args.toList [x]=true)
  {l}(q:ev (get env) x=.s l)(t:v=.i .i64 l.length):AU P O ep o d σ n μ H a w v σ:=by
 obtain⟨x',b,j⟩:=NZ j;have b:=DI b;have g:=Ar hr j;rw[q] at g;obtain⟨p,_⟩:=g.s_inv;subst t;refine AU.same (val:=.int .i64 l.length) (λw=>?_) hp (.i _ _);obtain⟨T,k⟩:=QT c.argTypes r;rw[k] at m;obtain⟨cs,f⟩:=Cp (P:=P) y e a.eval w;have u:(Builtin.len_ #[T] o.type #[.string ⟨l.toArray⟩]).run P w=.ok (goInt (⟨l.toArray⟩:ByteArray).size) w:=run_len_string w T o.type _ (Ft m);have h:goInt (⟨l.toArray⟩:ByteArray).size=.int .i64 l.length:=by show Value.int .i64 _=_;congr 1
 rw[f,b,k];simp only[builtin,A17,Ao7,Ava,p,Ao1,u,h,Aow,Aur]
theorem dD{x' x}(g:CF x' x=true){es}(b:AE σ (ev (get env) x)=some es) :
  ∃A e,a.eval x'=.slice A es.length e:=by
 have c:=Ar hr g;generalize ev (get env) x=h at *;unfold AE at b;split at b
 .cases b;have ⟨A,e,e1,_⟩:=c.sl_inv;grind
 .cases b;exact⟨none,0,c.nil_inv⟩
 .rename_i id;split at b
  .rename_i f;cases b;have ⟨hm,_⟩:=c.arr_inv;have ⟨vals,_,hown,_⟩:=DO hp f hm;exact Cr hown
  .cases b
 .cases b
theorem Amc{x c}(u:o.op=.call c)(f:c.callee=.builtin .len)(h:(CC P (c.argTypes.getD 0 0)).isSome=true)(r:c.argTypes.size=1)(k:Bg c.args.toList [x]=true)
  {es}(q:AE σ (ev (get env) x)=some es)(s:v=.i .i64 es.length):AU P O ep o d σ n μ H a w v σ:=by
 obtain⟨x',b,k⟩:=NZ k;have b:=DI b;obtain⟨A,j,p⟩:=dD hr hp k q;obtain⟨e,h⟩:=AxV.1 h;subst s;refine AU.same (val:=.int .i64 es.length) (λw=>?_) hp (.i _ _);obtain⟨T,l⟩:=QT c.argTypes r;rw[l] at h;obtain⟨cs,g⟩:=Cp (P:=P) u f a.eval w;have m:P.underlying T=some (.slice e):=C8 h;have t:(Builtin.len_ #[T] o.type #[.slice A es.length j]).run P w=.ok (goInt es.length) w:=run_len_slice w T o.type _ _ _ (by rw[m];simp[Program.elem,m]);rw[g,b,l];simp only[builtin,A17,Ao7,Ava,p,Ao1,t,Aow,Aur,goInt]
theorem AoZ{x' x k}(f:o.op=.extract x' k)(g:CF x' x=true){vs}(c:ev (get env) x=.tup vs)(e:vs[k]?=some v):AU P O ep o d σ n μ H a w v σ:=by
 have b:=Ar hr g;rw[c] at b;have ⟨vals,e1,hvs⟩:=b.tup_inv;have ⟨val,hval,hrel⟩:=hvs.get e;refine AU.same (val:=val) (λw=>?_) hp hrel;have:vals.toArray[k]?=some val:=by simpa using hval
 simp[execOp,f,e1,Instr.extract,this]
theorem Akv{f b c first caps}(m:o.op=.makeFunc (.func f) b c)(j:Bg b.toList first=true)(k:Bg c.toList caps=true)
  (l:v=.fn f (first.map (ev (get env))) (caps.map (ev (get env)))):AU P O ep o d σ n μ H a w v σ:=by
 have e:=Et hr j;have g:=Et hr k;subst l;refine AU.same (val:=.func (.func f) (b.toList.map a.eval).toArray (c.toList.map a.eval).toArray) (λw=>?_) hp (.fn f _ _ _ _ e.len g.len e.at_ g.at_);have h:b.map a.eval=(b.toList.map a.eval).toArray:=by grind
 have i:c.map a.eval=(c.toList.map a.eval).toArray:=by grind
 simp only[execOp,m,Ao1,Instr.makeFunc,Aur,Aow,h,i]
theorem Aen{x' x}(e:o.op=.nilCheck x')(l:CF x' x=true)
  (f:match ev (get env) x with
   | .ref _ _|.aref _ _ _ _|.ep _ _|.fn _ _ _=>True
   | _=>False)(j:v=ev (get env) x):AU P O ep o d σ n μ H a w v σ:=by
 have b:=Ar hr l;subst j;refine AU.same (val:=a.eval x') (λw=>?_) hp b;generalize ev (get env) x=s at *;split at f
 .obtain⟨h,k,c⟩:=b.ref_inv;simp[execOp,e,c]
 .obtain⟨h,m,i,k,c⟩:=b.aref_inv;simp[execOp,e,c]
 .obtain⟨p,g,c,_⟩:=b.ep_inv;simp[execOp,e,c]
 .obtain⟨r,q,c,_⟩:=b.fn_inv;simp[execOp,e,c]
 .exact f.elim
theorem aB{c i}(e:J5 c i=true){f b}(g:GV (get env) f i=some b) :
  (i=none/\c=none/\b=f)\/∃x' k,c=some x'/\a.eval x'=.int k (b:Int):=by
 cases i with
 | none=>
  cases c with
  | none=>simp[GV] at g;grind
  | some x=>simp[J5] at e
 | some x=>
  cases c with
  | none=>simp[J5] at e
  | some x'=>
   simp only[J5] at e;have h:=Ar hr e;unfold GV at g;simp only at g;split at g
   .rename_i k m j;rw[j] at h;split at g
    .cases g;refine .inr ⟨x',k,rfl,?_⟩;rw[h.i_inv];grind
    .cases g
   .cases g
theorem Ku{p j u s}(t:J5 p u=true)(r:J5 j s=true) c {f b l h}(A:f<=b)
  (z:GV (get env) 0 u=some l)(x:GV (get env) f s=some h)(m:l<=h)(g:h<=b) w :
  (Instr.sliceBounds c f b (p.map a.eval) (j.map a.eval) none).run P w=.ok (l,h,b) w:=by
 have q:∀(k:IntKind) (i y:Nat) (e:BoundsCode),i<=y->∀w,(Instr.sliceBound (.int k i) y e).run P w=.ok i w:=by
  intro k i y e s w;have:(0:Int)<=i/\(i:Int)<=y:=by omega
  simp[Instr.sliceBound,asIntOf,this]
 rcases aB hr hp t z with⟨rfl,rfl,rfl⟩|⟨xl,kl,rfl,el⟩<;>rcases aB hr hp r x with⟨rfl,rfl,rfl⟩|⟨xh,kh,rfl,eh⟩
 .simp[Instr.sliceBounds]
 .simp[Instr.sliceBounds,eh,q kh h b _ g]
 .simp[Instr.sliceBounds,el,q kl l _ _ m]
 .simp[Instr.sliceBounds,el,eh,q kl l h _ m,q kh h b _ g]
theorem Arn{t x' x c b z u}(E:o.op=.slice t x' c b none)(G:Ga P t=true)(I:CF x' x=true)(h:J5 c z=true)(g:J5 b u=true)
  {l p q}(B:ev (get env) x=.s l)(i:GV (get env) 0 z=some p)(k:GV (get env) l.length u=some q)(j:p<=q)(F:q<=l.length)(D:v=.s ((l.take q).drop p)):AU P O ep o d σ n μ H a w v σ:=by
 have e:=Ar hr I;rw[B] at e;obtain⟨A,J⟩:=e.s_inv;have y:=Ft G;subst D;refine AU.same (val:=.string ⟨((l.take q).drop p).toArray⟩) (λw=>?_) hp (.s _ (by simp;omega));have C:=λw=>Ku (P:=P) hr hp h g false (Ab6 l.length) i k j F w;have r:(⟨l.toArray⟩:ByteArray).size=l.length:=by simp[ByteArray.size]
 have f:(⟨l.toArray⟩:ByteArray).extract p q=⟨((l.take q).drop p).toArray⟩:=by rw[ByteArray.extract_mk,A2n]
 have m:(Instr.slice t (.string ⟨l.toArray⟩) (c.map a.eval) (b.map a.eval) none).run P w=.ok (.string ⟨((l.take q).drop p).toArray⟩) w:=by simp only[Instr.slice,Ao1,At3 y,Aow,AyQ,Ab7,Ab9,Aur,r,C,f]
 simp only[execOp,E,A2b,Ao1,Instr.sliceAt,At3 y,A,Aow,m,Aur]
theorem Atn{t e x' x m l Y S sz}(ho:o.op=.slice t x' m l none)(ht:CC P t=some e)(L:CI P e=some sz)(hx:CF x' x=true)(F:J5 m Y=true)(E:J5 l S=true)
  {es p q}(r:ev (get env) x=.sl es\/ev (get env) x=.nil/\es=[])(G:GV (get env) 0 Y=some p)(J:GV (get env) es.length S=some q)(I:p<=q)(W:q<=es.length)
  (N:∀y∈es,(cells y).length=sz)(s:v=.sl ((es.take q).drop p)):AU P O ep o d σ n μ H a w v σ:=by
 have i:=Ar hr hx;have X:=C8 ht;subst s;obtain⟨A,b,Z,j,U,hh⟩:∃(A:Option Addr) (b:Nat),a.eval x'=.slice A es.length b/\es.length<=b/\es.length<=AJ/\
   (es=[]\/∃(C:Addr) (sz:Nat) (h:List Value),A=some C/\(∀e∈es,(cells e).length=sz)/\AY μ H (AQ es) h/\∀(k:Nat) (v:Value),h[k]?=some v->H (C.add k)=some v):=by
  rcases r with r|⟨r,rfl⟩
  .rw[r] at i;exact i.sl_inv
  .rw[r] at i;exact⟨none,0,i.nil_inv,Ab6 _,Avz _,.inl rfl⟩
 have hb:=λw=>Ku (P:=P) hr hp F E true j G J I (AoW W j) w;have B:∀w,(execOp a.eval o).run P w=.ok (.value (.slice (if b=p then A else A.map (·.add (p*sz))) (q-p) (b-p))) w:=by
  intro w;have M:(Instr.slice t (.slice A es.length b) (m.map a.eval) (l.map a.eval) none).run P w=.ok (.slice (if b=p then A else A.map (·.add (p*sz))) (q-p) (b-p)) w:=by simp only[Instr.slice,Ao1,At3 X,Aow,Aur,hb,Dx L]
  simp only[execOp,ho,A2b,Ao1,Instr.sliceAt,At3 X,Z,Aow,M,Aur]
 refine AU.same B hp ?_;have T:((es.take q).drop p).length=q-p:=by simp;omega
 rcases A1H (q-p) with R|R
 .have:(es.take q).drop p=[]:=Axx (by omega);rw[this,R];exact .slE _ _
 .rcases hh with rfl|⟨C,f,h,rfl,g,z,u⟩
  .simp at W;omega
  .have K:f=sz:=by
    have:0<es.length:=by omega
    rw[<-g es[0] (by simp),N es[0] (by simp)]
   subst K;rw[AfL (by omega)];have hf:AQ ((es.take q).drop p)=((AQ es).take (q*f)).drop (p*f):=by rw[LT (λe s=>g e (AzB s)),Mg g]
   have c:=(z.take (q*f)).drop (p*f);rw[<-hf] at c;have:=Ap.slC (μ:=μ) (H:=H) ((es.take q).drop p) (C.add (p*f)) (b-p) f _ (by omega) (by omega) (λe s=>g e (AzB (A1j s))) c.len c.one (λk v D=>by
    rw[TH];refine u _ _ ?_;rw[A1u,A0w] at D;split at D
    .exact D
    .cases D) c.at_
   grind
theorem Axt{j:Bool}{x xs c b}(T:o.op=.call c)(z:c.callee=.builtin b)(R:b=if j then Builtin.min else Builtin.max)(C:Bg c.args.toList (x::xs)=true)
  (g:RJ j (ev (get env) x) (xs.map (ev (get env)))=some v):AU P O ep o d σ n μ H a w v σ:=by
 have K:=Et hr C;obtain⟨E,D,t,J,I⟩:∃E D,c.args.toList=E::D/\CF E x=true/\Bg D xs=true:=by
  cases h:c.args.toList with
  | nil=>rw[h] at C;simp[Bg] at C
  | cons E D=>rw[h] at C;simp only[Bg,AaS] at C;grind
 have m:(c.args.map a.eval).toList=a.eval E::D.map a.eval:=by simp[t]
 have N:=Ar hr J;have e:=Et hr I;have M:∀(r:List V) (l:List Value) (F:V) (f:Value),Ap μ H F f->VRels μ H r l->RJ j F r=some v->∃val,Ap μ H v val/\∀w,(l.foldlM (if j then Builtin.min2 else Builtin.max2) f).run P w=.ok val w:=by
  intro r
  induction r with
  | nil=>intro l F f L e g;have:l=[]:=Axx (by rw[<-e.len];rfl);subst this;simp only[RJ] at g;simp_all
  | cons y r W=>
   intro l F f L e g;cases l with
   | nil=>have:=e.len;simp at this
   | cons X l=>
    have U:=e.at_ 0 y X rfl rfl;have A:VRels μ H r l:=⟨by have:=e.len;simpa using this,λk c v u s=>e.at_ (k+1) c v (by simpa using u) (by simpa using s)⟩
    unfold RJ at g;split at g
    .grind
    .rename_i k p Y q Z G;cases G;split at g
     .rename_i S;subst S;obtain⟨val,u,s⟩:=W l _ (.int k (if j then min p q else max p q)) (.i _ _) A g;refine⟨val,u,λw=>?_⟩;rw[L.i_inv,U.i_inv];simp only[List.foldlM_cons,Ao1];have:((if j then Builtin.min2 else Builtin.max2) (.int k p) (.int k q)).run P w=.ok (.int k (if j then min p q else max p q)) w:=by
       cases j
       .simp only[Ab7,Ab9,Builtin.max2,Aur];grind
       .simp only[AbA,Builtin.min2,Aur];grind
      simp[*]
     .cases g
    .cases g
 obtain⟨val,u,s⟩:=M _ _ _ _ N e g;refine AU.same (val:=val) (λw=>?_) hp u;obtain⟨cs,B⟩:=Cp (P:=P) T z a.eval w;rw[B,R];cases j
 .simp only[Ab7,Ab9] at s⊢;simp only[builtin,Builtin.max_,m,Ao1,s,Aow,Aur]
 .simp only[AbA] at s⊢;simp only[builtin,Builtin.min_,m,Ao1,s,Aow,Aur]
end ops
end Go.Ir
end
section
namespace Go.Ir
open Go.RowKit
theorem Fp{P t z}(h:Hi P t z=true):∃i b,P.info? t=some i/\i.zero=some b/\okZ b z=true:=by
 unfold Hi Ail at h;cases c:P.info? t with
 | none=>simp[c] at h
 | some i=>grind
theorem By.to{R c w w'}(h:By R w w')(hr:∀k,R k->c k):By c w w':=
 ⟨h.os,h.tape,h.output,h.size,λk e f=>h.block k e (λb=>f (hr k b))⟩
theorem HJ{u c x:V}{b n:Nat}(h:Ef u b n x=some c):(cells x).length=n/\b+n<=(cells u).length/\cells c=(cells u).take b++cells x++(cells u).drop (b+n):=by
 unfold Ef at h;split at h
 .rename_i f;split at h
  .simp_all
  .split at h
   .rename_i e;cases h;exact⟨f,e,rfl⟩
   .cases h
 .cases h
theorem Abz{es:List V}{sz:Nat}(h:∀e∈es,(cells e).length=sz){i:Nat}(b:i<es.length){x:V}(c:(cells x).length=sz) :
  AQ (es.set i x)=(AQ es).take (i*sz)++cells x++(AQ es).drop (i*sz+sz):=by
 rw[A1m,Amm b,GA,Mg h];have:i*sz+sz=(i+1)*sz:=by grind
 rw[this,<-LT h];simp[AQ]
theorem Ee{μ H cs ds vs us}(h:AY μ H cs vs)(h':AY μ H ds us) off k :
  AY μ H (cs.take off++ds++cs.drop k) (vs.take off++us++vs.drop k):=((h.take off).append h').append (h.drop k)
section ops
variable{P:Program}{O:World}{ep nt:Nat}{o:Oper}{d:Option Nat}{env:BB}{σ σ':Aq}{n:Nat}{μ:Id→Option Value}{H:Addr→Option Value}{a:Act}{w:World}{v:V}
variable(hr:Rl μ H nt env a)(hp:Hp O σ n μ H w)
theorem AU.made(hp:Hp O σ n μ H w){b:Nat}(k:d=some b)(r:ep<n)(p:∀b,d=some b->μ (ep,b)=none){obj:Obj}{val:Value}{e:AP}
  (g:(execOp a.eval o).run P w=.ok (.value val) (w.alloc obj))(t:∀i,Cl (some val)=some i->i=w.heap.size)
  (m:D0 O.heap.size (G0 μ (ep,b) val) H (w.alloc obj) (ep,b) e)(s:Ap (G0 μ (ep,b) val) H v val):AU P O ep o d σ n μ H a w v (((ep,b),e)::σ):=by
 intro next Q K
 have c:=hp.new_ (n':=n) (By.alloc w obj) (λ_ h=>h.elim) (σ1:=σ) (λid e h=>⟨h,λ_ _ h=>h⟩) (p b k) r (Ab6 _) (λi l=>.inr (by grind)) m;refine Ca g (K _ _ _ _ _ ⟨s,c.1,Ab6 _,c.2,λid q j f=>?_⟩);rw[Ce _ _ (j b k)];exact f
theorem U4{w:World}{μ' u vals t id}(hb:O.heap.size<=w.heap.size)(hm:μ' id=some (.pointer (some ⟨w.heap.size,0,none⟩)))(hc:AY μ' H (cells u) vals.toList) :
  D0 O.heap.size μ' H (w.alloc (.cells vals t)) id (.box u):=
 ⟨w.heap.size,vals,t,hm,hb,A1n w _,hc⟩
theorem PL{w:World}{μ' u vals t id}(hb:O.heap.size<=w.heap.size)(hm:μ' id=some (.pointer (some ⟨w.heap.size,0,none⟩)))(hc:AY μ' H (cells u) vals.toList) :
  D0 O.heap.size μ' H (w.alloc (.cells vals t)) id (.tbox t u):=
 ⟨w.heap.size,vals,hm,hb,A1n w _,hc⟩
include hr hp
theorem AtR{t x' x}(l:o.op=.box t x')(m:CF x' x=true)(k:ep<n)(i:∀b,d=some b->μ (ep,b)=none){b}(g:d=some b)(e:(ev (get env) x).ok=true)
  (j:v=.ref (ep,b) 0):AU P O ep o d σ n μ H a w v (((ep,b),.box (ev (get env) x))::σ):=by
 have f:=Ar hr m;have c:=BQ (v:=.pointer (some ⟨w.heap.size,0,none⟩)) (i b g);subst j;refine AU.made hp g k i (obj:=.cells (a.eval x').cells t) (val:=.pointer (some ⟨w.heap.size,0,none⟩)) ?_ (λp h=>by simpa[Cl] using h.symm)
  (U4 hp.base.size (Au _ _ _) ((f.toCells e).1.mono c (λ_ _ h=>h))) (.ref _ 0 _ (Au _ _ _))
 simp[execOp,l,Instr.box,newVar,newRow]
theorem AcB{t z}(m:o.op=.alloc t)(p:Hi P t z=true)(l:ep<n)(j:∀b,d=some b->μ (ep,b)=none){b}(f:d=some b)
  (g:v=.ref (ep,b) 0):AU P O ep o d σ n μ H a w v (((ep,b),.box z)::σ):=by
 obtain⟨i,q,k,e,c⟩:=Fp p;subst g;refine AU.made hp f l j (obj:=.cells q.cells t) (val:=.pointer (some ⟨w.heap.size,0,none⟩)) ?_ (λr h=>by simpa[Cl] using h.symm)
  (U4 hp.base.size (Au _ _ _) (Lp c).2) (.ref _ 0 _ (Au _ _ _))
 simp[execOp,m,Instr.alloc,zeroValue,typeInfo,k,e,newVar,newRow]
theorem LK{t:TypeId}{m:Nat}{x' q:Operand}{x:X}(y:o.op=.store t q x')(l:CI P t=some m)(z:CF x' x=true)(k:(ev (get env) x).ok=true)(h:(cells (ev (get env) x)).length=m)
  {g c:Nat}{b:Array Value}{ct:TypeId}(s:a.eval q=.pointer (some ⟨g,c,none⟩))(u:w.heap[g]?=some (.cells b ct (0,0)))(r:c+m<=b.size) :
  ∃e,AY μ H (cells (ev (get env) x)) e/\e.length=m/\(execOp a.eval o).run P w=.ok .skip (w.setRow g (b.toList.take c++e++b.toList.drop (c+m)).toArray):=by
 have p:=Ar hr z;have ⟨hc,_⟩:=p.toCells k;have j:(a.eval x').cells.toList.length=m:=by rw[<-hc.len];exact h
 have i:=run_storeCells_at P g c ct (a.eval x').cells.toList 0 b w u (by omega) hc.one;simp only[A1f,j] at i;refine⟨_,hc,j,?_⟩;have f:(a.eval x').cells.size=m:=by simpa using j
 simp only[execOp,y,Ao1,Instr.storeAt,s,Instr.sureAddr,Aur,Aow,storeVar,Dx l,f,ne_eq,not_true_eq_false,Ab9,i]
theorem AcW{t m x' a' x ax}(ho:o.op=.store t a' x')(hsz:CI P t=some m)(hx:CF x' x=true)(ha:CF a' ax=true)(hd:o.dst=d)(hdn:d=none)(hok:(ev (get env) x).ok=true)(hv:v=.tup [])
  (he:match ev (get env) ax with
   | .ref id off=>∃en en',lk σ id=some en/\eJ en off m (ev (get env) x)=some en'/\σ'=upd σ id en'
   | .aref id ix sz off=>∃e es el el',lk σ id=some (.arr e sz es)/\es[ix]?=some el/\Ef el off m (ev (get env) x)=some el'/\σ'=upd σ id (.arr e sz (es.set ix el'))
   | _=>False):AU P O ep o d σ n μ H a w v σ':=by
 have ha':=Ar hr ha
 subst hv
 have hund:Ap μ H (.tup []) undef:=.tup [] [] rfl (fun k c v hk=>by simp at hk)
 have fin:∀{w'},(execOp a.eval o).run P w=.ok .skip w'->Hp O σ' n μ H w'/\Fr μ H σ w μ H σ' w'->AU P O ep o d σ n μ H a w (.tup []) σ':=fun hrun hh next Q K=>
  XH hrun (K _ _ _ _ _ ⟨hund,hh.1,Ab6 _,hh.2,fun _ _ _ h=>h⟩)
 generalize hax:ev (get env) ax=vx at *
 split at he
 .rename_i id off
  obtain⟨en,en',hl,hs,rfl⟩:=he
  obtain⟨bk,hm,e1⟩:=ha'.ref_inv
  obtain⟨u,u',hs,hen⟩:=U9 hs
  obtain⟨hlx,hfit,hcells⟩:=HJ hs
  have hent:=hp.ents _ _ hl
  rcases hen with⟨rfl,rfl⟩|⟨ct,rfl,rfl⟩
  .obtain⟨bk',vals,ct,hm',hB,hg,hc⟩:=hent
   rw[hm] at hm'
   cases hm'
   have hsize:(cells u).length=vals.size:=by rw[hc.len];simp
   obtain⟨nv,hcx,hnl,hrun⟩:=LK hr hp ho hsz hx hok hlx e1 hg (by omega)
   refine fin hrun (hp.set_ hl ((By.setRow w bk _).to (fun k hk=>by subst hk;simp[hm,Cl])) ?_)
   refine⟨bk,_,ct,hm,hB,setRow_heap w bk vals _ ct (0,0) hg,?_⟩
   rw[hcells]
   exact Ee hc hcx off (off+m)
  .obtain⟨bk',vals,hm',hB,hg,hc⟩:=hent
   rw[hm] at hm'
   cases hm'
   have hsize:(cells u).length=vals.size:=by rw[hc.len];simp
   obtain⟨nv,hcx,hnl,hrun⟩:=LK hr hp ho hsz hx hok hlx e1 hg (by omega)
   refine fin hrun (hp.set_ hl ((By.setRow w bk _).to (fun k hk=>by subst hk;simp[hm,Cl])) ?_)
   refine⟨bk,_,hm,hB,setRow_heap w bk vals _ ct (0,0) hg,?_⟩
   rw[hcells]
   exact Ee hc hcx off (off+m)
 .rename_i id ix sz off
  obtain⟨e,es,el,el',hl,hel,hs,rfl⟩:=he
  obtain⟨bk,len,cap,hm,e1⟩:=ha'.aref_inv
  obtain⟨vals,h1,hown,hlim,hsz',hc⟩:=DO hp hl hm
  have hlt:ix<es.length:=(Ao5.1 hel).1
  obtain⟨g,cap',cur,hval,hB,hg,hcs,hcap,hmax,htake⟩:=Hy hown (by omega)
  cases hval
  obtain⟨hlx,hfit,hcells⟩:=HJ hs
  have hel0:(cells el).length=sz:=hsz' el (Ao6 hel)
  have hall:(AQ es).length=es.length*sz:=GJ hsz'
  have hvl:vals.length=es.length*sz:=by rw[<-hc.len];exact hall
  have hrow:ix*sz+sz<=es.length*sz:=by
   have:=A0M sz (Nat.succ_le_of_lt hlt)
   rwa [Nat.succ_mul] at this
  have hcur:es.length*sz<=cur.size:=by grind
  obtain⟨nv,hcx,hnl,hrun⟩:=LK hr hp ho hsz hx hok hlx e1 hg (by omega)
  have hlel':(cells el').length=sz:=by rw[hcells];simp;omega
  refine fin hrun (hp.set_ hl ((By.setRow w bk _).to (fun k hk=>by subst hk;simp[hm,Cl])) ?_)
  have hflat:AQ (es.set ix el')=(AQ es).take (ix*sz+off)++cells (ev (get env) x)++(AQ es).drop (ix*sz+off+m):=by
   rw[Abz hsz' hlt hlel',hcells,<-Ym hsz' hel]
   have t1:(List.take off (List.take sz (List.drop (ix*sz) (AQ es))))=List.drop (ix*sz) (List.take (ix*sz+off) (AQ es)):=by
    rw[A2o,A2n,show min off sz=off by omega,show ix*sz+off-ix*sz=off by omega]
   have t2:(List.drop (off+m) (List.take sz (List.drop (ix*sz) (AQ es))))++List.drop (ix*sz+sz) (AQ es)=List.drop (ix*sz+off+m) (AQ es):=by
    rw[A2n,A14]
    have e2:List.drop (ix*sz+sz) (AQ es)=List.drop (sz-(off+m)) (List.drop (ix*sz+(off+m)) (AQ es)):=by
     rw[A14];congr 1;omega
    rw[e2,A1Y,A1g]
   have t3:List.take (ix*sz) (AQ es)++List.drop (ix*sz) (List.take (ix*sz+off) (AQ es))=List.take (ix*sz+off) (AQ es):=by
    have:List.take (ix*sz) (AQ es)=List.take (ix*sz) (List.take (ix*sz+off) (AQ es)):=by
     grind
    simp_all
   grind
  have hnew:=Ee hc hcx (ix*sz+off) (ix*sz+off+m)
  rw[<-hflat] at hnew
  have hkeep:(cur.toList.take (ix*sz+off)++nv++cur.toList.drop (ix*sz+off+m)).take (es.length*sz)=vals.take (ix*sz+off)++nv++vals.drop (ix*sz+off+m):=by
   have h3:(cur.toList.take (ix*sz+off)).length=ix*sz+off:=by simp;omega
   rw[<-htake,List.take_append,List.take_append]
   rw[A2o,A2o,h3]
   have h4:min (ix*sz+off) (es.length*sz)=ix*sz+off:=by omega
   have h5:min (es.length*sz) (ix*sz+off)=ix*sz+off:=by omega
   have h6:nv.take (es.length*sz-(ix*sz+off))=nv:=A11 (by omega)
   rw[h4,h5,h6]
   congr 1
   rw[A2n]
   simp_all
  refine⟨_,_,hm,h1,⟨?_,.inr ⟨bk,cap,_,by rw[List.length_set],hB,setRow_heap w bk cur _ e (0,0) hg,by grind,hmax,?_,?_⟩⟩,by grind,?_,hnew⟩
  .rw[List.length_set,<-hnew.len,hflat]
   simp only[Ajd,A1V,A1W,hall,hlx]
   omega
  .simp only[List.size_toArray,Ajd,A1V,A1W,A0u,hnl]
   omega
  .grind
  grind
 .exact he.elim
end ops
end Go.Ir
end
section
namespace Go.Ir
open Go.RowKit
theorem Rj{P t e}(h:R9 P t=some e):∃b,P.underlying t=some (.struct b)/\b.toList.mapM (λf=>(P.info? f.type).map λi=>(f.offset,i.size))=some e:=by
 unfold R9 at h;cases c:Jb P t with
 | none=>simp[c] at h
 | some b=>exact⟨b,Ll c,by simpa[c] using h⟩
theorem JU{μ:Id->Option Value}{H:Addr->Option Value}{nt:Nat}{env:BB}{a:Act}(hr:Rl μ H nt env a)(B:List (Nat×Nat)){place:Nat->Option (Nat×Nat)}(g:∀f q,B[f]?=some q->place f=some q) :
  ∀(s:List (Nat×Operand)) (ps:List (Nat×Nat×X)) (z cs:List V) (l:Array Value),Im B s ps=true->(∀p∈ps,(ev (get env) p.2.2).ok=true)->AY μ H z l.toList->
   FC z (ps.map λp=>(p.1,p.2.1,ev (get env) p.2.2))=some cs->∃t,Instr.fill place l (s.map fun(i,x)=>(i,a.eval x))=some t/\AY μ H cs t.toList
 | [],[],z,cs,l,_,_,u,h=>by simp only[Ava,FC] at h;cases h;exact⟨l,rfl,u⟩
 | (f,x')::F,(b,n,x)::r,z,cs,l,e,k,u,h=>by
  simp only[Im,AaS,AjK] at e;have ⟨⟨hpl,hx⟩,hrest⟩:=e;simp only[Ao7,FC] at h;split at h
  .rename_i C;have ⟨hlen,hfit⟩:=C;have D:=Ar hr hx;have ⟨hc,_⟩:=D.toCells (k (b,n,x) (by simp));have A:(a.eval x').cells.size=n:=by rw[<-A0u,<-hc.len];exact hlen
   have E:z.length=l.size:=by rw[u.len];simp
   have y:=Te (a.eval x').cells l b (by omega);have m:AY μ H (z.take b++cells (ev (get env) x)++z.drop (b+n)) (((a.eval x').cells.zipIdx.foldl (λcs (c,j)=>cs.setIfInBounds (b+j) c) l).toList):=by rw[y,A];exact Ee u hc b (b+n)
   have ⟨t,hfill,hrel⟩:=JU hr B g F r _ cs _ hrest (λp hp=>k p (by simp[hp])) m h;refine⟨t,?_,hrel⟩;simp only[Ao7,Instr.fill];grind
  .cases h
 | [],_::_,_,_,_,e,_,_,_=>by simp[Im] at e
 | _::_,[],_,_,_,e,_,_,_=>by simp[Im] at e
section ops
variable{P:Program}{O:World}{ep nt:Nat}{o:Oper}{d:Option Nat}{env:BB}{σ σ':Aq}{n:Nat}{μ:Id→Option Value}{H:Addr→Option Value}{a:Act}{w:World}{v:V}
variable(hr:Rl μ H nt env a)(hp:Hp O σ n μ H w)
include hr hp
theorem Adn{t z l ps}(M:o.op=.build t l)(U:Hi P t (.agg z)=true)(c:(KQ P t).isSome=true)(m:Im ((KQ P t).getD []) l.toList ps=true)
  (r:∀p∈ps,(ev (get env) p.2.2).ok=true){cs}(L:FC z (ps.map λp=>(p.1,p.2.1,ev (get env) p.2.2))=some cs)(S:v=.agg cs):AU P O ep o d σ n μ H a w v σ:=by
 obtain⟨i,K,T,F,A⟩:=Fp U;obtain⟨J,c⟩:=AxV.1 c;rw[c] at m;have y:=(Lp (μ:=μ) (H:=H) A).2;subst S;simp only[Option.getD_some] at m;unfold KQ at c;split at c
 .rename_i k e N;obtain⟨I,D,s⟩:=Afo.1 c;obtain⟨u,g,b⟩:=JU hr J (place:=λi=>some (i*I.size,I.size)) (λf q B=>by
   rw[<-s] at B;simp only[ArI,Afo] at B;obtain⟨j,C,rfl⟩:=B;have:j=f:=by
    rcases Az0 f k with h|h
    .rw[List.getElem?_range h] at C;cases C;rfl
    .rw[A15 (by simpa using h)] at C;cases C
   subst this;rfl) l.toList ps z cs K.cells m r y L
  have:=Ap.agg (μ:=μ) (H:=H) cs u.toList b.len b.one b.at_;refine AU.same (val:=.agg u) (λw=>?_) hp (by simpa using this);have E:(sizeOf e).run P w=.ok I.size w:=by simp[sizeOf,typeInfo,D]
  have G:(zeroValue t).run P w=.ok K w:=by simp[zeroValue,typeInfo,T,F]
  simp only[execOp,M,Ao1,Instr.build,G,Aow,At3 N,E,Array.toList_map,g,Aur]
 .obtain⟨W,N,s⟩:=Rj c;obtain⟨u,g,b⟩:=JU hr J (place:=(J.toArray[·]?)) (λf q B=>by simpa using B) l.toList ps z cs K.cells m r y L;have:=Ap.agg (μ:=μ) (H:=H) cs u.toList b.len b.one b.at_;refine AU.same (val:=.agg u) (λw=>?_) hp (by simpa using this);have R:P.built t (l.map fun(i,x)=>(i,a.eval x)).toList=some u:=by unfold Program.built;simp_all
  simp only[execOp,M,Ao1,run_build w t _ u R,Aow,Aur]
theorem NX sz:∀(ps) (xs) (k) (cs),HS k ps xs=true->(∀x∈xs.map (ev (get env)),x.ok=true/\(cells x).length=sz)->(k+xs.length)*sz=cs.size->
  ∃q b,Instr.fill (λi=>some (i*sz,sz)) cs (ps.map fun(i,x)=>(i,a.eval x))=some q/\AY μ H (AQ (xs.map (ev (get env)))) b/\q.toList=cs.toList.take (k*sz)++b
 | [],[],k,cs,_,_,s=>by refine⟨cs,[],rfl,by simpa[AQ] using AY.nil_,?_⟩;simp only[AtX,A1f] at s;rw[At9,A11 (by simp;omega)]
 | (j,x')::E,x::r,k,cs,e,f,s=>by
  simp only[HS,AaS,AjK] at e;obtain⟨⟨rfl,D⟩,g⟩:=e;have A:=f (ev (get env) x) (by simp);have C:=Ar hr D;obtain⟨B,_⟩:=C.toCells A.1;have z:(a.eval x').cells.size=sz:=by rw[<-A0u,<-B.len];exact A.2
  have l:j*sz+(a.eval x').cells.size<=cs.size:=by rw[z,<-s];simp only[An9];grind
  have m:=Te (a.eval x').cells cs (j*sz) l;have h:((a.eval x').cells.zipIdx.foldl (λcs (c,i)=>cs.setIfInBounds (j*sz+i) c) cs).size=cs.size:=by rw[<-A0u,m];grind
  obtain⟨q,b,u,p,t⟩:=NX sz E r (j+1) _ g (λy I=>f y (by grind)) (by rw[h,<-s];grind);refine⟨q,(a.eval x').cells.toList++b,?_,?_,?_⟩
  .simp only[Ao7,Instr.fill];grind
  .have:=B.append p;simpa[AQ] using this
  .rw[t,m,<-Azs];congr 1;have F:(j+1)*sz=j*sz+(a.eval x').cells.size:=by grind
   have G:(cs.toList.take (j*sz)).length=j*sz:=by simp;omega
   grind
 | [],_::_,_,_,e,_,_=>by simp[HS] at e
 | _::_,[],_,_,e,_,_=>by simp[HS] at e
theorem AsM{t e b sz}{own:Bool}{ps xs}(U:o.op=.buildSlice t b ps)(ht:CC P t=some e)(G:Iz P e sz=true)(f:b=xs.length)(F:b*sz<=16777216)
  (L:HS 0 ps.toList xs=true)(hn:ep<n)(S:∀r,d=some r->μ (ep,r)=none)(m:∀x∈xs.map (ev (get env)),x.ok=true/\(cells x).length=sz)
  (u:if own then ∃r,d=some r/\v=.arr (ep,r)/\σ'=((ep,r),.arr e sz (xs.map (ev (get env))))::σ else v=.sl (xs.map (ev (get env)))/\σ'=σ):AU P O ep o d σ n μ H a w v σ':=by
 have W:=C8 ht;obtain⟨i,z,T,M,D,aa,hz,ai,_⟩:=IE G;subst M;have ah:(Array.range (b*i.size)).size=b*i.size:=by simp
 obtain⟨q,X,g,j,B⟩:=NX (a:=a) hr hp i.size ps.toList xs 0 ((Array.range (b*i.size)).map ((if b*i.size=0 then #[] else z.cells)[· % (if b*i.size=0 then #[] else z.cells:Array Value).size]!)) L m (by simp[f]);simp only[Nat.zero_mul,Azg,Avc] at B;subst B;have A:∀w,(execOp a.eval o).run P w=.ok (.value (.slice (some ⟨w.heap.size,0,none⟩) b b)) (w.alloc (.cells q e)):=by
  intro w;have y:(ps.map fun(i,x)=>(i,a.eval x)).toList=ps.toList.map fun(i,x)=>(i,a.eval x):=by simp
  have J:¬b*i.size>2 ^ 24:=by omega
  have C:¬(0:Nat)>2 ^ 24:=by omega
  by_cases E:b*i.size=0
  .simp only[E,AbA] at g;simp only[execOp,U,Ao1,Instr.buildSlice,At3 W,Aow,sizeOf,typeInfo,run_program,T,Aur,E,C,Ab9,AbA,y,g,newRow,run_newObj,World.alloc_eq]
  .simp only[AfL E] at g;simp only[execOp,U,Ao1,Instr.buildSlice,At3 W,Aow,sizeOf,typeInfo,run_program,T,Aur,J,Ab9,AfL E,zeroValue,hz,y,g,newRow,run_newObj,World.alloc_eq]
 have I:(AQ (xs.map (ev (get env)))).length=xs.length*i.size:=by have:=GJ (es:=xs.map (ev (get env))) (sz:=i.size) (λe u=>(m e u).2);simpa using this
 have s:q.size=b*i.size:=by rw[<-A0u,<-j.len,I,f]
 have af:xs.length<=16777216:=by have:xs.length*1<=xs.length*i.size:=Nat.mul_le_mul_left _ D;grind
 cases own with
 | true=>
  simp only[AbA] at u;obtain⟨r,R,rfl,rfl⟩:=u;have l:=BQ (v:=.slice (some ⟨w.heap.size,0,none⟩) b b) (S r R);refine AU.made hp R hn S (A w) (λbk h=>by simpa[Cl] using h.symm) ⟨_,q.toList,Au _ _ _,rfl,⟨?_,.inr ⟨w.heap.size,b,q,by simp[f],hp.base.size,A1n w _,by simp[f],by simp only[maxLen];omega,s,?_⟩⟩,by simp[AJ];omega,λx hx=>(m x hx).2,j.mono l (λ_ _ h=>h)⟩ (.arr _ _ (Au _ _ _) rfl)
  .grind
  .rw[Afb,<-f,<-s,<-A0u,AuB]
 | false=>
  simp only[Ab7,Ab9] at u;obtain⟨rfl,rfl⟩:=u;intro next Q K
  have p:=hp.pin_ (.cells q e);have l:∀N v,H N=some v->pinned H (w.alloc (.cells q e)) w.heap.size N=some v:=p.2.hp;refine Ca (A w) (K _ n μ _ _ ⟨?_,p.1,Ab6 _,p.2,λ_ _ _ h=>h⟩);have:=Ap.slC (μ:=μ) (H:=pinned H (w.alloc (.cells q e)) w.heap.size) (xs.map (ev (get env))) ⟨w.heap.size,0,none⟩ b i.size q.toList (by simp[f]) (by simp[AJ];omega) (λe u=>(m e u).2) j.len j.one (λk v hk=>by rw[CJ];simp only[pinned,AbA];rw[World.cell?_alloc_new];simpa using hk) (λk c v Y Z=>(j.at_ k c v Y Z).mono (λ_ _ h=>h) l);rw[Afb,<-f] at this;exact this
theorem TN{k b}(e:k<=AJ)(c:b<=32768):k*b<=140737488355328:=by have:=A1N e c;simp only[AJ] at this;omega
theorem KE{w base t j e i size}(h:P.underlying t=some (.slice e))(f:P.info? e=some i)
  {v n xs}(b:w.ownsRow base e size v n xs) A c:(Builtin.append_ #[t,t] j #[v,.slice A 0 c]).run P w=.ok v w:=by
 rcases b.2 with⟨rfl,rfl⟩|⟨g,cap,cur,rfl,_,_,hnc,_⟩
 .cases A<;>simp[Builtin.append_,At3 h,sizeOf,typeInfo,f,Builtin.lenOf,Builtin.firstCells,loadCells,loadCellsFrom]
 .cases A<;>simp[Builtin.append_,At3 h,sizeOf,typeInfo,f,Builtin.lenOf,Builtin.firstCells,hnc,storeCells,loadCells,loadCellsFrom]
theorem AbX{x':Operand}{x:X}(s:CF x' x=true){xs:List V}{sz:Nat}(f:AE σ (ev (get env) x)=some xs)(q:∀y∈xs,(cells y).length=sz) :
  ∃A c,a.eval x'=.slice A xs.length c/\xs.length<=AJ/\(xs=[]\/∃l b,A=some l/\AY μ H (AQ xs) b/\∀j u,b[j]?=some u->w.cell? (l.add j)=some u):=by
 have i:=Ar hr s;generalize ev (get env) x=z at *;unfold AE at f;split at f
 .cases f;have ⟨A,c,e1,_,hlim,hh⟩:=i.sl_inv;refine⟨A,c,e1,hlim,?_⟩;rcases hh with h|⟨l,t,b,rfl,_,e,k⟩
  .exact .inl h
  .exact .inr ⟨l,b,rfl,e,λj u r=>hp.pins _ _ (k j u r)⟩
 .cases f;exact⟨none,0,i.nil_inv,Avz _,.inl rfl⟩
 .rename_i id;split at f
  .rename_i p;cases f;have ⟨hm,_⟩:=i.arr_inv;have ⟨b,_,hown,hlim,_,e⟩:=DO hp p hm;have ⟨A,c,hv⟩:=Cr hown;refine⟨A,c,hv,hlim,?_⟩;rcases A1H xs.length with m|m
   .grind
   .have ⟨g,cap',cur,hv',_⟩:=Hy hown m;rw[hv'] at hv;cases hv;refine .inr ⟨⟨g,0,none⟩,b,rfl,e,?_⟩;rw[hv'] at hown;exact hown.cells (g:=g) rfl
  .cases f
 .cases f
theorem AtJ{c s x}{e sz:Nat}(ho:o.op=.call c)(hcal:c.callee=.builtin .append)(hT:c.argTypes=#[c.argTypes.getD 0 0,c.argTypes.getD 0 0])(ht:CC P (c.argTypes.getD 0 0)=some e)(hel:Iz P e sz=true)(hxs:Bg c.args.toList [s,x]=true)
  (hn:ep<n)(hf:∀dd,d=some dd->μ (ep,dd)=none){dd}(hd:d=some dd){xs}(hsrc:AE σ (ev (get env) x)=some xs)(hsz:∀y∈xs,(cells y).length=sz)(hv:v=.arr (ep,dd))
  (he:match ev (get env) s with
   | .nil=>xs.length<=AJ/\σ'=((ep,dd),.arr e sz xs)::σ
   | .arr id=>∃es,lk σ id=some (.arr e sz es)/\es.length+xs.length<=AJ/\σ'=((ep,dd),.arr e sz (es++xs))::del σ id
   | _=>False):AU P O ep o d σ n μ H a w v σ':=by
 obtain⟨s',x',hargs,hs,hx⟩:=UG hxs
 have hargs:=DI hargs
 generalize c.argTypes.getD 0 0=t at *
 have hu:=C8 ht
 obtain⟨i,z,hi,hisz,hpos,hby,hz,hzs,_⟩:=IE hel
 have hs':=Ar hr hs
 obtain⟨A,cap,ex,hxlim,hsr⟩:=AbX hr hp (w:=w) hx hsrc hsz
 subst hv
 have run:∀(sv:Value) (es:List V) (vals:List Value),a.eval s'=sv->w.ownsRow O.heap.size e sz sv es.length vals->AY μ H (AQ es) vals->es.length+xs.length<=AJ->
   ∃v' w' nv,(execOp a.eval o).run P w=.ok (.value v') w'/\w'.ownsRow O.heap.size e sz v' (es.length+xs.length) nv/\AY μ H (AQ (es++xs)) nv/\w.grownBy w' sv.ownBlock/\(v'.ownBlock=sv.ownBlock\/v'.ownBlock=some w.heap.size):=by
  intro sv es vals hes hown hrel hlim
  have hb:∀(r:Value) (w':World),(Builtin.append_ #[t,t] o.type #[sv,.slice A xs.length cap]).run P w=.ok r w'->(execOp a.eval o).run P w=.ok (.value r) w':=by
   intro r w' h
   obtain⟨cs,hrun⟩:=Cp (P:=P) ho hcal a.eval w
   rw[hrun,hargs,hT]
   simp only[builtin,A17,Ao7,Ava,hes,ex,Ao1,h,Aow,Aur]
  rcases hsr with rfl|⟨ad,news,rfl,hnrel,hcell⟩
  .exact⟨sv,w,vals,hb _ _ (KE hr hp hu hi hown A cap),by simpa using hown,by simpa using hrel,⟨rfl,rfl,rfl,Ab6 _,fun _ _ _=>rfl⟩,.inl rfl⟩
  .have hnl:news.length=xs.length*sz:=by rw[<-hnrel.len];exact GJ hsz
   obtain⟨v',w',h1,h2,h3,_,h5⟩:=run_append_own_at (P:=P) w O.heap.size t o.type e i z sz i.bytes hu hi hz hisz rfl hzs hpos sv es.length vals hown ad xs.length cap news hnl hcell hnrel.one (by simp only[maxLen,AJ] at *;omega) (TN hr hp hlim hby) hp.base.size
   refine⟨v',w',_,hb _ _ h1,h2,?_,h3,h5⟩
   rw[GA]
   exact hrel.append hnrel
 have fin:∀(sv v':Value) (w':World) (es:List V) (nv:List Value) (σ1:Aq),(execOp a.eval o).run P w=.ok (.value v') w'->w'.ownsRow O.heap.size e sz v' es.length nv->AY μ H (AQ es) nv->w.grownBy w' sv.ownBlock->
   (v'.ownBlock=sv.ownBlock\/v'.ownBlock=some w.heap.size)->es.length<=AJ->(∀y∈es,(cells y).length=sz)->(∀k,some k=sv.ownBlock->GW μ σ k)->(∀id e,lk σ1 id=some e->lk σ id=some e/\∀bk,Cl (μ id)=some bk->some bk≠sv.ownBlock)->
   AU P O ep o d σ n μ H a w (.arr (ep,dd)) (((ep,dd),.arr e sz es)::σ1):=by
  intro sv v' w' es nv σ1 hrun hown hrel hg hob hlim hall hR h1 next Q K
  have hmono:=BQ (v:=v') (hf dd hd)
  have h1c:v'.oneCell'=true:=by obtain⟨A,cap,rfl⟩:=Cr hown;rfl
  have hblk:∀bk,Cl (some v')=some bk->v'.ownBlock=some bk:=by
   obtain⟨A,cap,rfl⟩:=Cr hown
   intro bk hb
   cases A with
   | none=>simp[Cl] at hb
   | some A=>simpa[Cl,Value.ownBlock] using hb
  have hnew:=hp.new_ (n':=n) (σ1:=σ1) (By.of_grown hg) hR h1 (hf dd hd) (e:=.arr e sz es) (val:=v') hn (Ab6 _) (fun bk hb=>by
   rcases hob with h|h
   .exact .inl (by rw[<-h];exact(hblk bk hb).symm)
   .rw[hblk bk hb] at h;cases h;exact .inr (Ab6 _)) ⟨v',nv,Au _ _ _,h1c,hown,hlim,hall,hrel.mono hmono (fun _ _ h=>h)⟩
  refine Ca hrun (K _ _ _ _ _ ⟨.arr _ _ (Au _ _ _) h1c,hnew.1,Ab6 _,hnew.2,fun id hid hne hnone=>?_⟩)
  rw[Ce _ _ (hne dd hd)]
  exact hnone
 generalize hes:ev (get env) s=vs at *
 split at he
 .obtain⟨hlim,rfl⟩:=he
  have e1:=hs'.nil_inv
  obtain⟨v',w',nv,h1,h2,h3,h4,h5⟩:=run (.slice none 0 0) [] [] e1 (A12 w _ e sz) AY.nil_ (by simpa using hlim)
  simp only[AtX,AzN,Avc] at h2 h3
  exact fin _ v' w' xs nv σ h1 h2 h3 h4 h5 hlim hsz (fun k hk=>by simp[Value.ownBlock] at hk) (fun id e h=>⟨h,fun bk _ hb=>by simp[Value.ownBlock] at hb⟩)
 .rename_i id
  obtain⟨es,hl,hlim,rfl⟩:=he
  obtain⟨hm,_⟩:=hs'.arr_inv
  obtain⟨vals,_,hown,_,hsz',hrel⟩:=DO hp hl hm
  have hob:∀k,some k=(a.eval s').ownBlock->Cl (μ id)=some k:=by
   intro k hk
   rw[hm]
   obtain⟨A',cap',hv'⟩:=Cr hown
   rw[hv'] at hk⊢
   cases A' with
   | none=>simp[Value.ownBlock] at hk
   | some A'=>simpa[Value.ownBlock,Cl] using hk.symm
  obtain⟨v',w',nv,h1,h2,h3,h4,h5⟩:=run _ es vals rfl hown hrel hlim
  rw[<-Ajd] at h2
  refine fin _ v' w' (es++xs) nv (del σ id) h1 h2 h3 h4 h5 (by simpa using hlim) (fun y hy=>(AfJ.1 hy).elim (hsz' y) (hsz y)) (fun k hk=>⟨id,_,hl,hob k hk⟩) (fun id' e' h=>?_)
  rw[DE] at h
  split at h
  .cases h
  .rename_i hne
   exact⟨h,fun bk hb hb'=>hne (hp.sep _ _ _ _ bk hl h (hob bk hb') hb)⟩
 .exact he.elim
omit hr hp in
theorem SJ{e:TypeId}(h:SD P e=true):∃i,P.info? e=some i/\i.size=1/\i.bytes=1/\i.zero=some (.int .u8 0):=by unfold SD at h;grind
omit hr hp in
theorem QU(l:List UInt8):AY μ H (AQ (A6 l)) (Lib.strCells ⟨l.toArray⟩):=by
 induction l with
 | nil=>exact AY.nil_
 | cons c l f=>
  have e:AY μ H [V.i .u8 c.toNat] [Value.int .u8 c.toNat]:=⟨VRels.nil_.cons (.i _ _),λv b=>by simp at b;subst b;rfl⟩
  exact e.append f
omit hr hp in
theorem Li{w:World}(base:Nat)(t u x e:TypeId)(i:TypeInfo)(z:P.underlying t=some (.slice e))(A:P.underlying u=some .string)(y:P.info? e=some i)(C:i.zero=some (.int .u8 0))
  (f:i.size=1)(l:i.bytes=1)(v:Value)(n:Nat)(xs:List Value)(b:w.ownsRow base e 1 v n xs)(s:ByteArray)
  (B:n+s.size<=maxLen)(h:n+s.size<=140737488355328)(k:base<=w.heap.size) :
  ∃q w',(Builtin.append_ #[t,u] x #[v,.string s]).run P w=.ok q w'/\w'.ownsRow base e 1 q (n+s.size) (xs++Lib.strCells s)/\w.grownBy w' v.ownBlock/\(q.ownBlock=v.ownBlock\/q.ownBlock=some w.heap.size):=by
 have ⟨q,w',hr,h1,h2,h3⟩:=Lib.run_append_own_string (P:=P) w base t u x e i z A y C f l v n xs b s B h k;refine⟨q,w',hr,h1,h2,?_⟩;rcases b.2 with⟨rfl,rfl⟩|⟨g,cap,cur,rfl,hbg,hg,hnc,hcm,hcs,htake⟩
 .by_cases D:s.size=0
  .grind
  .have c:=run_append_nil_string (P:=P) w t u x e i (.int .u8 0) z A y C s (by omega) (by omega) (by rw[l];omega);rw[c] at hr;injection hr with r _;subst r;exact .inr rfl
 .by_cases p:n+s.size<=cap
  .have c:=Lib.run_append_room_string (P:=P) w t u x e i z A y f g n cap cur hg s p (by omega);rw[c] at hr;injection hr with r _;subst r;exact .inl rfl
  .have m:∀j u,xs[j]?=some u->w.cell? ((⟨g,0,none⟩:Addr).add j)=some u:=b.cells (g:=g) rfl;have c:=Lib.run_append_grow_string (P:=P) w t u x e i (.int .u8 0) z A y C ⟨g,0,none⟩ n cap xs (by grind) m s (by omega) (by omega) (by rw[l];exact growslice_fits (by omega) (by omega));rw[c] at hr;injection hr with r _;subst r;exact .inr rfl
theorem AkB{c s x}{e:Nat}(ho:o.op=.call c)(ae:c.callee=.builtin .append)(hT:c.argTypes=#[c.argTypes.getD 0 0,c.argTypes.getD 1 0])(ht:CC P (c.argTypes.getD 0 0)=some e)(aj:Ga P (c.argTypes.getD 1 0)=true)(av:SD P e=true)(z:Bg c.args.toList [s,x]=true)
  (hn:ep<n)(hf:∀B,d=some B->μ (ep,B)=none){B}(hd:d=some B){l}(ai:ev (get env) x=.s l)(hv:v=.arr (ep,B))
  (Z:match ev (get env) s with
   | .nil=>l.length<=AJ/\σ'=((ep,B),.arr e 1 (A6 l))::σ
   | .arr id=>∃es,lk σ id=some (.arr e 1 es)/\es.length+l.length<=AJ/\σ'=((ep,B),.arr e 1 (es++A6 l))::del σ id
   | _=>False):AU P O ep o d σ n μ H a w v σ':=by
 obtain⟨s',x',p,hs,hx⟩:=UG z;have p:=DI p;generalize c.argTypes.getD 0 0=t at *;generalize c.argTypes.getD 1 0=u at *;have hu:=C8 ht;have ax:=Ft aj;obtain⟨i,hi,ag,ar,hz⟩:=SJ av;have ah:=Ar hr hs;have al:=Ar hr hx;rw[ai] at al;have ex:=al.s_inv.1;subst hv;obtain⟨xs,z⟩:∃xs,xs=A6 l:=⟨_,rfl⟩;have am:l.length=xs.length:=by rw[z];simp[A6]
 have X:∀y∈xs,(cells y).length=1:=by intro y hy;rw[z] at hy;obtain⟨c,_,rfl⟩:=Aov.1 hy;rfl
 have U:AY μ H (AQ xs) (Lib.strCells ⟨l.toArray⟩):=by rw[z];exact QU l
 have W:(⟨l.toArray⟩:ByteArray).size=xs.length:=by rw[<-am];simp[ByteArray.size]
 rw[am,<-z] at Z;obtain⟨sz,E⟩:∃sz,sz=1:=⟨_,rfl⟩
 rw[<-E] at Z X;have run:∀(sv:Value) (es:List V) (j:List Value),a.eval s'=sv->w.ownsRow O.heap.size e sz sv es.length j->AY μ H (AQ es) j->es.length+xs.length<=AJ->
   ∃g w' F,(execOp a.eval o).run P w=.ok (.value g) w'/\w'.ownsRow O.heap.size e sz g (es.length+xs.length) F/\AY μ H (AQ (es++xs)) F/\w.grownBy w' sv.ownBlock/\(g.ownBlock=sv.ownBlock\/g.ownBlock=some w.heap.size):=by
  intro sv es j af b m f;have C:∀(r:Value) (w':World),(Builtin.append_ #[t,u] o.type #[sv,.string ⟨l.toArray⟩]).run P w=.ok r w'->(execOp a.eval o).run P w=.ok (.value r) w':=by intro r w' h;obtain⟨cs,D⟩:=Cp (P:=P) ho ae a.eval w;rw[D,p,hT];simp only[builtin,A17,Ao7,Ava,af,ex,Ao1,h,Aow,Aur]
  rw[E] at b;obtain⟨g,w',M,I,Y,h5⟩:=Li (w:=w) O.heap.size t u o.type e i hu ax hi hz ag ar sv es.length j b ⟨l.toArray⟩ (by rw[W];simp only[maxLen,AJ] at *;omega) (by rw[W];simp only[AJ] at *;omega) hp.base.size;rw[W] at I;refine⟨g,w',_,C _ _ M,by rw[E];exact I,?_,Y,h5⟩;rw[GA];exact m.append U
 have aa:∀(sv g:Value) (w':World) (es:List V) (F:List Value) (σ1:Aq),(execOp a.eval o).run P w=.ok (.value g) w'->w'.ownsRow O.heap.size e sz g es.length F->AY μ H (AQ es) F->w.grownBy w' sv.ownBlock->
   (g.ownBlock=sv.ownBlock\/g.ownBlock=some w.heap.size)->es.length<=AJ->(∀y∈es,(cells y).length=sz)->(∀k,some k=sv.ownBlock->GW μ σ k)->(∀id e,lk σ1 id=some e->lk σ id=some e/\∀q,Cl (μ id)=some q->some q≠sv.ownBlock)->
   AU P O ep o d σ n μ H a w (.arr (ep,B)) (((ep,B),.arr e sz es)::σ1):=by
  intro sv g w' es F σ1 D b m hg G f ad hR M next Q K
  have R:=BQ (v:=g) (hf B hd);have ab:g.oneCell'=true:=by obtain⟨A,ao,rfl⟩:=Cr b;rfl
  have J:∀q,Cl (some g)=some q->g.ownBlock=some q:=by
   obtain⟨A,ao,rfl⟩:=Cr b;intro q C;cases A with
   | none=>simp[Cl] at C
   | some A=>simpa[Cl,Value.ownBlock] using C
  have L:=hp.new_ (n':=n) (σ1:=σ1) (By.of_grown hg) hR M (hf B hd) (e:=.arr e sz es) (val:=g) hn (Ab6 _) (λq C=>by
   rcases G with h|h
   .exact .inl (by rw[<-h];exact(J q C).symm)
   .rw[J q C] at h;cases h;exact .inr (Ab6 _)) ⟨g,F,Au _ _ _,ab,b,f,ad,m.mono R (λ_ _ h=>h)⟩
  refine Ca D (K _ _ _ _ _ ⟨.arr _ _ (Au _ _ _) ab,L.1,Ab6 _,L.2,λid aK S T=>?_⟩);rw[Ce _ _ (S B hd)];exact T
 generalize af:ev (get env) s=vs at *;split at Z
 .obtain⟨f,rfl⟩:=Z;have e1:=ah.nil_inv;obtain⟨g,w',F,M,I,Y,h4,h5⟩:=run (.slice none 0 0) [] [] e1 (A12 w _ e sz) AY.nil_ (by simpa using f);simp only[AtX,AzN,Avc] at I Y;exact aa _ g w' xs F σ M I Y h4 h5 f X (λk N=>by simp[Value.ownBlock] at N) (λid e h=>⟨h,λq _ C=>by simp[Value.ownBlock] at C⟩)
 .rename_i id;obtain⟨es,hl,f,rfl⟩:=Z;obtain⟨hm,_⟩:=ah.arr_inv;obtain⟨j,_,b,_,ak,m⟩:=DO hp hl hm;have G:∀k,some k=(a.eval s').ownBlock->Cl (μ id)=some k:=by
   intro k N;rw[hm];obtain⟨A',aA,ay⟩:=Cr b;rw[ay] at N⊢;cases A' with
   | none=>simp[Value.ownBlock] at N
   | some A'=>simpa[Value.ownBlock,Cl] using N.symm
  obtain⟨g,w',F,M,I,Y,h4,h5⟩:=run _ es j rfl b m f;rw[<-Ajd] at I;refine aa _ g w' (es++xs) F (del σ id) M I Y h4 h5 (by simpa using f) (λy hy=>(AfJ.1 hy).elim (ak y) (X y)) (λk N=>⟨id,_,hl,G k N⟩) (λaT e' h=>?_);rw[DE] at h;split at h
  .cases h
  .rename_i S;exact⟨h,λq C aq=>S (hp.sep _ _ _ _ q hl h (G q aq) C)⟩
 .exact Z.elim
theorem Aqw{t e0 x' i x T sz}(ho:o.op=.slice t x' none (some i) none)(ht:CC P t=some e0)(aa:CI P e0=some sz)(hx:CF x' x=true)(S:CF i T=true)
  (hn:ep<n)(hf:∀f,d=some f->μ (ep,f)=none){f}(M:d=some f){id e es q}(ex:ev (get env) x=.arr id)(U:lk σ id=some (.arr e sz es))(Y:GV (get env) es.length (some T)=some q)(hq:q<=es.length)
  (hv:v=.arr (ep,f)):AU P O ep o d σ n μ H a w v (((ep,f),.arr e sz (es.take q))::del σ id):=by
 have F:=Ar hr hx;rw[ex] at F;have hu:=C8 ht;subst hv;obtain⟨hm,ak⟩:=F.arr_inv;obtain⟨r,_,c,af,p,E⟩:=DO hp U hm;obtain⟨A,b,C⟩:=Cr c;have j:es.length<=b:=by
  rcases c.2 with⟨h1,h2⟩|⟨g,cap',cur,h1,_,_,h2,_⟩
  .omega
  grind
 have W:J5 none none=true:=rfl;have D:=λw=>Ku (P:=P) hr hp W (show J5 (some i) (some T)=true from S) true j (show GV (get env) 0 none=some 0 from rfl) Y (Avz _) (AoW hq j) w;have m:∀w,(execOp a.eval o).run P w=.ok (.value (.slice (if b=0 then A else A.map (·.add (0*sz))) (q-0) (b-0))) w:=by
  intro w;have ab:(Instr.slice t (.slice A es.length b) none (some (a.eval i)) none).run P w=.ok (.slice (if b=0 then A else A.map (·.add (0*sz))) (q-0) (b-0)) w:=by have:=D w;simp only[A2b,Azw] at this;simp only[Instr.slice,Ao1,At3 hu,Aow,Aur,this,Dx aa]
  simp only[execOp,ho,A2b,Azw,Ao1,Instr.sliceAt,At3 hu,C,Aow,ab,Aur]
 have hA:(if b=0 then A else A.map (·.add (0*sz)))=A:=by
  split
  .rfl
  .rcases c.2 with⟨h1,h2⟩|⟨g,cap',cur,h1,_⟩
   .grind
   .rw[h1] at C;injection C with J h4 h5;subst J;simp[CJ]
 rw[hA,A1I,A1I] at m;have s:=BQ (v:=.slice A q b) (hf f M);have X:∀k,Cl (some (.slice A q b))=some k->Cl (μ id)=some k:=by
  intro k G;rw[hm,C];cases A with
  | none=>simp[Cl] at G
  | some A=>simpa[Cl] using G
 have N:AQ (es.take q)=(AQ es).take (q*sz):=Mg p q;have B:w.ownsRow O.heap.size e sz (.slice A q b) (es.take q).length (r.take (q*sz)):=by
  have Z:(es.take q).length=q:=by simp;omega
  have ar:r.length=es.length*sz:=c.1;rw[Z];refine⟨by simp[*],?_⟩;rcases c.2 with⟨h1,h2⟩|⟨g,cap',cur,h1,hB,hg,h2,J,h4,h5⟩
  .grind
  .rw[h1] at C;cases C;exact .inr ⟨g,b,cur,rfl,hB,hg,by omega,J,h4,by rw[<-h5,A2o,Nat.min_eq_left (A0M _ hq)]⟩
 intro next Q K
 have l:=hp.new_ (n':=n) (σ1:=del σ id) (w':=w) (R:=λk=>Cl (μ id)=some k) ⟨rfl,rfl,rfl,Ab6 _,λ_ _ _=>rfl⟩ (λk G=>⟨id,_,U,G⟩) (λaw e' h=>by
   rw[DE] at h;split at h
   .cases h
   .rename_i u;exact⟨h,λI D L=>u (hp.sep _ _ _ _ I U h L D)⟩) (hf f M) (e:=.arr e sz (es.take q)) (val:=.slice A q b) hn (Ab6 _) (λI D=>.inl (X I D))
  ⟨_,_,Au _ _ _,rfl,B,by simp;omega,λy hy=>p y (AzB hy),by rw[N];exact(E.take _).mono s (λ_ _ h=>h)⟩
 refine Ca (m w) (K _ _ _ _ _ ⟨.arr _ _ (Au _ _ _) rfl,l.1,Ab6 _,l.2,λid am u z=>?_⟩);rw[Ce _ _ (u f M)];exact z
end ops
end Go.Ir
end
section
namespace Go.Ir
open Go.RowKit
def At4:WrK->Bool
 | .mput _=>true
 | _=>false
def u9:ET->TypeDesc->Prop
 | .str,d=>d=.string
 | .int,d=>∃k,d=.int k
 | .bool,d=>d=.bool
 | .st _,_=>False
theorem Ho{P b t}(h:Ou P b t=true):∃d,P.underlying t=some d/\u9 b d:=by
 unfold Ou at h;cases c:P.underlying t with
 | none=>grind
 | some d=>rw[c] at h;cases b<;>cases d<;>first|(cases h;done)|exact⟨_,rfl,rfl⟩|exact⟨_,rfl,_,rfl⟩
theorem Yp{c d}(e:u9 c d) a b:Fl c a b=EI c a b:=by
 cases c with
 | st l=>exact e.elim
 | _=>cases a<;>cases b<;>rfl
theorem H8{P t k e}(h:S7 P t=some (k,e)):P.underlying t=some (.map k e):=by unfold S7 at h;grind
theorem H9 e t x y a l c b m d:eqGuard e t x y (.slice a l c) (.slice b m d)=pure ():=by cases e<;>rfl
theorem UB:∀{cs},(∀c∈cs,cells c=[c])->AQ cs=cs
 | [],_=>rfl
 | c::cs,h=>by have:=UB (cs:=cs) λx b=>h x (Ab5 _ b);simp only[AQ,A1h] at this⊢;grind
theorem PO(a b:List UInt8):((⟨a.toArray⟩:ByteArray)==⟨b.toArray⟩)=(a==b):=by show(a.toArray==b.toArray)=_;simp
section
variable{μ:Id→Option Value}{H:Addr→Option Value}
theorem SS{g:ET}{d:TypeDesc}(c:u9 g d){a b:V}{x y:Value}(e:Ap μ H a x)(f:Ap μ H b y){t:Bool}(h:Fl g a b=some t) :
  Instr.sameNow d x y=some t:=by
 rw[Yp c] at h;unfold EI at h;split at h
 .cases h;have c:d=_:=c;subst c;rw[e.s_inv.1,f.s_inv.1];simp only[Instr.sameNow];rw[PO]
 .split at h
  .rename_i i;cases h;obtain⟨k,rfl⟩:=(c:∃k,d=.int k)
   subst i;rw[e.i_inv,f.i_inv];simp[Instr.sameNow]
  .cases h
 .cases h;have c:d=_:=c;subst c;rw[e.b_inv,f.b_inv];simp[Instr.sameNow]
 .cases h
theorem SX{t d}(p:u9 t d){a x}(s:Ap μ H a x) :
  ∀(es) (ms) (i) (r),es.length=ms.length->(∀(k:Nat) (c) (m),es[k]?=some c->ms[k]?=some m->Ap μ H c.1 m.key/\Ap μ H c.2 m.val)->BE t a es i=some r->
   ∃g,Instr.findNow d x ms i=some g/\((r=none/\g=none)\/∃j v val,r=some (j,v)/\g=some (j,val)/\Ap μ H v val/\i<=j/\(es[j-i]?).isSome=true)
 | [],[],i,r,_,_,h=>by
  simp only[BE] at h;split at h
  .cases h;exact⟨none,rfl,.inl ⟨rfl,rfl⟩⟩
  .cases h
 | e::es,m::ms,i,r,f,b,h=>by
  simp only[BE] at h;have l:=b 0 e m rfl rfl;split at h
  .rename_i q;cases h;exact⟨some (i,m.val),by simp only[Instr.findNow,SS p s l.1 q],.inr ⟨i,_,_,rfl,rfl,l.2,Ab6 _,by simp⟩⟩
  .rename_i q;have ⟨g,h1,h2⟩:=SX p s es ms (i+1) r (by simpa using f) (λk c m u y=>b (k+1) c m (by simpa using u) (by simpa using y)) h;refine⟨g,by simp only[Instr.findNow,SS p s l.1 q,h1],?_⟩;grind
  .cases h
 | [],_::_,_,_,f,_,_=>by simp at f
 | _::_,[],_,_,f,_,_=>by simp at f
theorem Ov{c a}:∀{es i r},BE c a es i=some r->Mm c a=true
 | [],i,r,h=>by simp only[BE] at h;grind
 | e::es,i,r,h=>by
  simp only[BE] at h;have:∀t,Fl c a e.1=some t->Mm c a=true:=by
   intro t b;unfold Fl at b;split at b<;>(try (cases b;done))<;>(try (unfold EI at b;split at b<;>first|rfl|grind|grind|(cases b;done)))
   split at b
   .rename_i f;simp[Mm,f.1]
   .cases b
  grind
theorem AjP{P w h i d}(f:P.underlying i=some d)(b:u9 h d){a x}(g:Ap μ H a x)(c:Mm h a=true) e n :
  (Instr.checkKey e (n+1) i x).run P w=.ok () w:=by
 unfold Mm at c;split at c<;>(try (cases c;done))<;>(try (exact b.elim))
 .have b:d=_:=b;subst b;rw[g.s_inv.1];unfold Instr.checkKey;simp[Ao1,At3 f]
 .obtain⟨k,rfl⟩:=(b:∃k,d=.int k);rw[g.i_inv];unfold Instr.checkKey;simp[Ao1,At3 f]
 .have b:d=_:=b;subst b;rw[g.b_inv];unfold Instr.checkKey;simp[Ao1,At3 f]
end
section ops
variable{P:Program}{O:World}{ep nt:Nat}{o:Oper}{d:Option Nat}{env:BB}{σ σ':Aq}{n:Nat}{μ:Id→Option Value}{H:Addr→Option Value}{a:Act}{w:World}{v:V}
variable(hr:Rl μ H nt env a)(hp:Hp O σ n μ H w)
theorem By.setObj w g o:By (λk=>k=g) w { w with heap:=w.heap.setIfInBounds g o }:=
 ⟨rfl,rfl,rfl,by simp,λk _ b=>by grind⟩
theorem JB{r s b}(c:w.heap[r]?=some (.stringIter s b)):(getObj r).run P w=.ok (.stringIter s b) w:=by simp[getObj,Sem.run,c]
theorem Pw{r s b} c (e:w.heap[r]?=some (.stringIter s b)):(setObj r c).run P w=.ok () { w with heap:=w.heap.setIfInBounds r c }:=by simp[setObj,Sem.run,e]
include hr hp
omit hr hp in
theorem P6{g:ET}{t:TypeId}(k:Ou P g t=true){x y:V}{i j:Value}{r:Bool}(h:EI g x y=some r)(c:Ap μ H x i)(f:Ap μ H y j)(e:Nat)(w:World):(Op.equalIn (e+1) t i j).run P w=.ok r w:=by
 have ⟨dd,hu,hk⟩:=Ho k;unfold EI at h;split at h
 .cases h;subst hk;rw[c.s_inv.1,f.s_inv.1,run_equalIn_string w e t _ _ hu];simp_all
 .split at h
  .rename_i b;cases h;obtain⟨q,rfl⟩:=hk;subst b;rw[c.i_inv,f.i_inv];exact run_equalIn_int w e t _ q _ _ hu
  .cases h
 .cases h;subst hk;rw[c.b_inv,f.b_inv];exact run_equalIn_bool w e t _ _ hu
 .cases h
omit hr hp in
theorem Oo{b:ET}{t:TypeId}(c:Ou P b t=true):DU P t=some false:=by
 have ⟨dd,hu,hk⟩:=Ho c;unfold DU;rw[hu];cases b
 .subst hk;rfl
 .obtain⟨q,rfl⟩:=hk;rfl
 .subst hk;rfl
 .exact hk.elim
omit hr hp in
theorem YQ{a b:List V}{xs ys:List Value}(j:AY μ H a xs)(k:AY μ H b ys)(e:Nat)(w:World):∀(g:List Field) (l:List (Nat×ET)) (r:Bool),Hq P g l=true->eqO a b l=some r->
  (Op.eqFields (e+1) xs.toArray ys.toArray g).run P w=.ok r w
 | [],[],r,_,h=>by cases h;rfl
 | f::g,(o,q)::l,r,c,h=>by
  simp only[Hq,AaS,AjK,bne_iff_ne,ne_eq] at c;have ⟨⟨⟨⟨ho,hn⟩,hk⟩,hsz⟩,hr⟩:=c;simp only[eqO] at h;split at h
  .rename_i x y m p;have ⟨vx,hpx,hrx⟩:=K7 (u:=.agg a) hsz (Oo hk) w xs f.offset j (v:=x) (by rw[ho];simpa[sub,cells] using m);have ⟨vy,hpy,hry⟩:=K7 (u:=.agg b) hsz (Oo hk) w ys f.offset k (v:=y) (by rw[ho];simpa[sub,cells] using p);simp only[Op.eqFields,ne_eq,hn,A13,AbA,Ao1,hpx,hpy,Aow];split at h
   .rename_i i;rw[P6 hk i hrx hry];simpa using YQ j k e w g l r hr h
   .rename_i i;cases h;rw[P6 hk i hrx hry];simp
   .cases h
  .cases h
 | [],_::_,_,c,_=>by simp[Hq] at c
 | _::_,[],_,c,_=>by simp[Hq] at c
omit hr hp in
theorem JJ{b:ET}{t:TypeId}(h:Sp P b t=true):Ou P b t=true\/∃l c,b=.st l/\P.underlying t=some (.struct c)/\Hq P c.toList l=true/\P.stoodInHeld t=false/\l.map Prod.fst=List.range l.length:=by unfold Sp at h;grind
omit hr hp in
theorem UH{l:List (Nat×ET)}{x y:V}{r:Bool}(h:Fl (.st l) x y=some r):∃a b,x=.agg a/\y=.agg b/\a.length=l.length/\b.length=l.length/\eqO a b l=some r:=by unfold Fl at h;grind
omit hr hp in
theorem Ok{l:List (Nat×ET)}{t:TypeId}{c:Array Field}(k:P.underlying t=some (.struct c))(g:Hq P c.toList l=true)(i:P.stoodInHeld t=false){x y:V}{m p:Value}{r:Bool}(h:Fl (.st l) x y=some r)(s:Ap μ H x m)(u:Ap μ H y p)(w:World):(Op.equal t m p).run P w=.ok r w:=by
 obtain⟨a,b,rfl,rfl,_,_,q⟩:=UH h;obtain⟨z,rfl,e⟩:=s.isA_inv rfl;obtain⟨A,rfl,f⟩:=u.isA_inv rfl;have j:P.fieldsOf t=c:=by simp[Program.fieldsOf,k]
 show(Op.equalIn 10000 t (.agg z.toArray) (.agg A.toArray)).run P w=.ok r w;rw[run_equalIn_struct w 9999 t _ _ (by rw[j];exact k) i,j];exact YQ e f 9998 w _ _ _ g q
omit hr hp in
theorem Ye{l:List (Nat×ET)}{t:TypeId}{A:Array Field}(y:P.underlying t=some (.struct A))(b:Hq P A.toList l=true)(f:P.stoodInHeld t=false){a:V}{x:Value}(z:Ap μ H a x)(w:World) :
  ∀(es:List (V×V)) (ms:List MapEntry) (i:Nat) (r:Option (Nat×V)),es.length=ms.length->(∀(k:Nat) (c:V×V) (m:MapEntry),es[k]?=some c->ms[k]?=some m->Ap μ H c.1 m.key/\Ap μ H c.2 m.val)->BE (.st l) a es i=some r->
   ∃q,(Instr.findAsking t x ms i).run P w=.ok q w/\((r=none/\q=none)\/∃j v val,r=some (j,v)/\q=some (j,val)/\Ap μ H v val/\i<=j/\(es[j-i]?).isSome=true)
 | [],[],i,r,_,_,h=>by
  simp only[BE] at h;split at h
  .cases h;exact⟨none,by simp[Instr.findAsking],.inl ⟨rfl,rfl⟩⟩
  .cases h
 | e::es,m::ms,i,r,p,g,h=>by
  simp only[BE] at h;have s:=g 0 e m rfl rfl;split at h
  .rename_i u;cases h;exact⟨some (i,m.val),by simp[Instr.findAsking,Ok y b f u z s.1 w],.inr ⟨i,_,_,rfl,rfl,s.2,Ab6 _,by simp⟩⟩
  .rename_i u;have ⟨q,h1,h2⟩:=Ye y b f z w es ms (i+1) r (by simpa using p) (λk c m B C=>g (k+1) c m (by simpa using B) (by simpa using C)) h;refine⟨q,by simp[Instr.findAsking,Ok y b f u z s.1 w,h1],?_⟩;grind
  .cases h
 | [],_::_,_,_,p,_,_=>by simp at p
 | _::_,[],_,_,p,_,_=>by simp at p
omit hr hp in
theorem SW{s:ET}{t:TypeId}(z:Sp P s t=true){a:V}{x:Value}(q:Ap μ H a x)(w:World)(es:List (V×V))(ms:List MapEntry)(r:Option (Nat×V))(p:es.length=ms.length)(e:∀(k:Nat) (c:V×V) (m:MapEntry),es[k]?=some c->ms[k]?=some m->Ap μ H c.1 m.key/\Ap μ H c.2 m.val)(i:BE s a es 0=some r) :
  ∃b,(Instr.findKey t x ms).run P w=.ok b w/\((r=none/\b=none)\/∃j v val,r=some (j,v)/\b=some (j,val)/\Ap μ H v val/\0<=j/\(es[j-0]?).isSome=true):=by
 rcases JJ z with y|⟨l,u,rfl,f,g,h,_⟩
 .have ⟨dd,f,hdd⟩:=Ho y;have ⟨b,hr',hcase⟩:=SX hdd q es ms 0 r p e i;exact⟨b,MapKept.run_findKey f hr',hcase⟩
 .have ⟨b,hr',hcase⟩:=Ye f g h q w es ms 0 r p e i;refine⟨b,?_,hcase⟩;cases ms with
  | nil=>simpa[Instr.findKey,Ao1,At3 f,Instr.findNow,Instr.findAsking] using hr'
  | cons m ms=>
   have:Instr.findNow (.struct u) x (m::ms) 0=none:=by simp[Instr.findNow,Instr.sameNow]
   simpa[Instr.findKey,Ao1,At3 f,this] using hr'
omit hr hp in
theorem NC{cs:List V}{vals:List Value}(hc:AY μ H cs vals)(e:Bool)(n:Nat)(w:World):∀(fs:List Field) (l:List (Nat×ET)),Hq P fs l=true->(∀p∈l,p.1<cs.length)->
  (do for f in fs do if f.name ≠ "_" then Instr.checkKey e (n + 1) f.type (← part f.type vals.toArray f.offset):Sem Unit).run P w=.ok () w
 | [],[],_,_=>by simp
 | f::fs,(o,kk)::l,hok,hb=>by
  simp only[Hq,AaS,AjK,bne_iff_ne,ne_eq] at hok
  have ⟨⟨⟨⟨ho,hn⟩,hk⟩,hsz⟩,hr⟩:=hok
  have hlt:o<cs.length:=hb (o,kk) (by simp)
  have ⟨vx,hpx,hrx⟩:=K7 (u:=.agg cs) hsz (Oo hk) w vals f.offset hc (v:=cs[o]) (by rw[ho];simp[sub,cells])
  have ⟨dd,hu,hdd⟩:=Ho hk
  have hck:(Instr.checkKey e (n+1) f.type vx).run P w=.ok () w:=by
   cases kk with
   | st l=>exact hdd.elim
   | str=>cases(hdd:dd=.string);unfold Instr.checkKey;simp[At3 hu]
   | int=>obtain⟨q,rfl⟩:=(hdd:∃k,dd=.int k);unfold Instr.checkKey;simp[At3 hu]
   | bool=>cases(hdd:dd=.bool);unfold Instr.checkKey;simp[At3 hu]
  have ih:=NC hc e n w fs l hr (fun p hp=>hb p (Ab5 _ hp))
  simp only[List.forIn_cons,ne_eq,hn,A13,AbA,Ao1,hpx,hck,Aow,Aur]
  simp_all
 | [],_::_,hok,_=>by simp[Hq] at hok
 | _::_,[],hok,_=>by simp[Hq] at hok
omit hr hp in
theorem PF{j:ET}{k:TypeId}(t:Sp P j k=true){a:V}{x:Value}(i:Ap μ H a x)(c:Mm j a=true)(e:Bool)(w:World):(Instr.checkKey e 10000 k x).run P w=.ok () w:=by
 rcases JJ t with b|⟨l,m,rfl,h,g,s,r⟩
 .have ⟨dd,h,hdd⟩:=Ho b;exact AjP h hdd i c e 9999
 .unfold Mm at c;split at c<;>(try (rename_i b;cases b;done))<;>(try (cases c;done))
  rename_i y cs b;cases b;obtain⟨z,rfl,f⟩:=i.isA_inv rfl;have q:∀p∈l,p.1<cs.length:=by
   intro p hp;have u:p.1∈List.range l.length:=by grind
   grind
  have:=NC f e 9998 w m.toList l g q;unfold Instr.checkKey;simp only[Ao1,At3 h,Aow];simp_all
omit hr hp in
theorem Ad3{j:ET}{W:TypeId}(T:Sp P j W=true){a b:V}{x y:Value}(i:Ap μ H a x)(K:Ap μ H b y)(h:Fl j a b=some true):y=x/\Instr.sameBits 10000 x x=true:=by
 have base:∀{j:ET} {a b:V} {x y:Value} (n:Nat),Ap μ H a x->Ap μ H b y->EI j a b=some true->y=x/\Instr.sameBits n x x=true:=by
  intro j a b x y n i g c;unfold EI at c;split at c
  .rename_i p q;rw[i.s_inv.1,g.s_inv.1];simp only[Ao3,AjK] at c;rw[c];refine⟨rfl,?_⟩;cases n<;>· simp only[Instr.sameBits];rw[PO];simp
  .rename_i k1 p k2 q;split at c
   .rename_i s;subst s;rw[i.i_inv,g.i_inv];simp only[Ao3,AjK] at c;rw[c];exact⟨rfl,by cases n<;>simp[Instr.sameBits]⟩
   .cases c
  .rename_i p q;rw[i.b_inv,g.b_inv];simp only[Ao3,AjK] at c;rw[c];exact⟨rfl,by cases n<;>simp[Instr.sameBits]⟩
  .cases c
 rcases JJ T with L|⟨l,Z,rfl,U,R,S,D⟩
 .have ⟨dd,U,hdd⟩:=Ho L;rw[Yp hdd] at h;exact base _ i K h
 .obtain⟨E,F,rfl,rfl,la,lb,M⟩:=UH h;obtain⟨t,rfl,e⟩:=i.isA_inv rfl;obtain⟨m,rfl,f⟩:=K.isA_inv rfl;have r:∀(l:List (Nat×ET)),eqO E F l=some true->∀p∈l,∃u v,E[p.1]?=some u/\F[p.1]?=some v/\EI p.2 u v=some true:=by
   intro l
   induction l with
   | nil=>grind
   | cons q l ih=>have ⟨o,j⟩:=q;intro h p hp;simp only[eqO] at h;grind
  have G:∀k,k<t.length->∃v,t[k]?=some v/\m[k]?=some v/\Instr.sameBits 9999 v v=true:=by
   intro k s;have C:k<l.length:=by have:=e.len;simp only[cells] at this;omega
   have z:(l[k]).1=k:=by have:=A1o (λq:List Nat=>q[k]?) D;grind
   have ⟨u,v,hu1,hv1,hq⟩:=r l M (l[k]) (A18 C);rw[z] at hu1 hv1;have B:k<m.length:=by have:=f.len;simp only[cells] at this;omega
   have X:=e.at_ k u _ hu1 (Am7 s);have Y:=f.at_ k v _ hv1 (Am7 B);have ⟨I,c⟩:=base 9999 X Y hq;grind
  have J:m.length=t.length:=by have z:=e.len;have I:=f.len;simp only[cells] at z I;omega
  have A:m=t:=by apply Az7;grind
  subst A;refine⟨rfl,?_⟩;show((m.toArray.size==m.toArray.size)&&_)=true;simp only[beq_self_eq_true,AxA,Ao8];rintro⟨x,y⟩ N;have ⟨k,s,hxy⟩:=List.getElem_of_mem N;grind
theorem AwH{k xs}(hok:WP P k o.op xs=true)(he:M0 k (xs.map (ev (get env)))=some v):AU P O ep o d σ n μ H a w v σ:=by
 cases k with
 | bit op=>
  simp only[WP] at hok
  split at hok
  .rename_i op' t x' y' ty ho
   simp only[AaS,AjK] at hok
   obtain⟨rfl,h3⟩:=hok
   match xs,h3,he with
   | [x,y],h3,he=>
    simp only[Bg,AaS] at h3
    have hx:=Ar hr h3.1
    have hy:=Ar hr (x:=y') (y:=y) (by first|exact h3.2|exact h3.2.1)
    simp only[Ao7,Ava] at he
    generalize ev (get env) x=vx at *
    generalize ev (get env) y=vy at *
    unfold M0 at he
    split at he<;>(try (rename_i h1 _;cases h1;done))<;>(try (cases he;done))<;>(try (rename_i h1;cases h1;done))
    rename_i op'' k p k' q h1 h2
    cases h1
    cases h2
    split at he
    .rename_i hk
     subst hk
     have ex:=hx.i_inv
     have ey:=hy.i_inv
     unfold AlW at he
     split at he<;>(try (cases he;done))
     all_goals
      cases he
      exact AU.same (fun w=>by simp[execOp,ho,ex,ey,eqGuard_at_int,binOp,Op.intBits]) hp (.i _ _)
    .cases he
   | [],h3,_=>simp[Bg] at h3
   | [_],h3,_=>simp[Bg] at h3
   | _::_::_::_,h3,_=>simp[Bg] at h3
  .cases hok
 | shf op=>
  simp only[WP] at hok
  split at hok
  .rename_i op' t x' y' ty ho
   simp only[AaS,AjK] at hok
   obtain⟨rfl,h3⟩:=hok
   match xs,h3,he with
   | [x,y],h3,he=>
    simp only[Bg,AaS] at h3
    have hx:=Ar hr h3.1
    have hy:=Ar hr (x:=y') (y:=y) (by first|exact h3.2|exact h3.2.1)
    simp only[Ao7,Ava] at he
    generalize ev (get env) x=vx at *
    generalize ev (get env) y=vy at *
    unfold M0 at he
    split at he<;>(try (rename_i h1 _;cases h1;done))<;>(try (cases he;done))<;>(try (rename_i h1;cases h1;done))
    rename_i op'' k p k' q h1 h2
    cases h1
    cases h2
    split at he
    .rename_i hq
     have ex:=hx.i_inv
     have ey:=hy.i_inv
     have hq':¬q<0:=by omega
     unfold AlS at he
     split at he<;>(try (cases he;done))
     all_goals
      cases he
      exact AU.same (fun w=>by simp[execOp,ho,ex,ey,eqGuard_at_int,binOp,Op.shift,hq']) hp (.i _ _)
    .cases he
   | [],h3,_=>simp[Bg] at h3
   | [_],h3,_=>simp[Bg] at h3
   | _::_::_::_,h3,_=>simp[Bg] at h3
  .cases hok
 | aget m sz ag=>
  simp only[WP] at hok
  split at hok
  .rename_i t x' i' ho
   simp only[AaS] at hok
   obtain⟨ht,h3⟩:=hok
   split at ht
   .rename_i m' e hu
    simp only[AaS,AjK] at ht
    obtain⟨⟨rfl,hsz⟩,hag⟩:=ht
    match xs,h3,he with
    | [x,y],h3,he=>
     simp only[Bg,AaS] at h3
     have hx:=Ar hr h3.1
     have hy:=Ar hr (x:=i') (y:=y) (by first|exact h3.2|exact h3.2.1)
     simp only[Ao7,Ava] at he
     generalize ev (get env) x=vx at *
     generalize ev (get env) y=vy at *
     unfold M0 at he
     split at he<;>(try (rename_i h1 _;cases h1;done))<;>(try (cases he;done))<;>(try (rename_i h1;cases h1;done))
     rename_i m2 sz2 ag2 cs k i h1 h2
     cases h1
     cases h2
     split at he
     .rename_i hi
      have ei:=hy.i_inv
      obtain⟨vals,e1,hc⟩:=hx.isA_inv rfl
      obtain⟨val,hrun,hrel⟩:=K7 hsz hag w vals _ hc he
      intro next Q K
      refine Ca (w':=w) (val:=val) ?_ (K _ _ _ _ _ (J1.same hp hrel))
      simp[execOp,ho,e1,ei,Instr.index,asIntOf,At3 hu,hi,Dx hsz,hrun]
     .cases he
    | [],h3,_=>simp[Bg] at h3
    | [_],h3,_=>simp[Bg] at h3
    | _::_::_::_,h3,_=>simp[Bg] at h3
   .cases ht
  .cases hok
 | isnil ne=>
  simp only[WP] at hok
  split at hok
  .rename_i op' t x' ty ho
   simp only[AaS,AjK] at hok
   obtain⟨⟨rfl,h2⟩,h3⟩:=hok
   match xs,h3,he with
   | [x],h3,he=>
    have hx:=Ar hr (x:=x') (y:=x) (by simpa[Bg] using h3)
    simp only[Ao7,Ava] at he
    obtain⟨e,ht⟩:=AxV.1 h2
    have hu:=C8 ht
    generalize ev (get env) x=vx at *
    have fin:∀(A:Option Addr) (l c:Nat),a.eval x'=.slice A l c->Ap μ H v (.bool (if ne then A.isSome else A.isNone))->AU P O ep o d σ n μ H a w v σ:=by
     intro A l c e1 hv
     refine AU.same (fun w=>?_) hp hv
     have hc:a.eval (.const (.slice none 0 0))=.slice none 0 0:=rfl
     have heq:∀w,(Op.equal t (.slice A l c) (.slice none 0 0)).run P w=.ok A.isNone w:=fun w=>run_equal_slice_nil w t e A l c hu
     cases ne
     .simp[execOp,ho,e1,hc,H9,binOp,heq]
     .simp[execOp,ho,e1,hc,H9,binOp,heq]
    cases vx with
    | nil=>
     simp only[M0,Ao3] at he
     subst he
     refine fin none 0 0 hx.nil_inv ?_
     cases ne<;>exact .b _
    | sl es=>
     obtain⟨A,cap,e1,hc,hl,hcase⟩:=hx.sl_inv
     cases es with
     | nil=>
      simp only[M0,Ao3] at he
      subst he
      exact fin _ _ _ e1 (.ub _)
     | cons y ys=>
      simp only[M0,Ao3] at he
      subst he
      rcases hcase with h0|⟨ad,sz,vals,rfl,_⟩
      .cases h0
      .refine fin _ _ _ e1 ?_
       cases ne<;>exact .b _
    | _=>simp[M0] at he
   | [],h3,_=>simp[Bg] at h3
   | _::_::_,h3,_=>simp[Bg] at h3
  .cases hok
 | aidx n sz=>
  simp only[WP] at hok
  split at hok
  .rename_i t x' i' ho
   simp only[AaS] at hok
   obtain⟨h1,h3⟩:=hok
   split at h1
   .rename_i n' e hu
    simp only[AaS,AjK] at h1
    obtain⟨rfl,hsz⟩:=h1
    match xs,h3,he with
    | [x,i],h3,he=>
     simp only[Bg,AaS,and_true] at h3
     have hx:=Ar hr (x:=x') (y:=x) h3.1
     have hi:=Ar hr (x:=i') (y:=i) h3.2
     simp only[Ao7,Ava] at he
     generalize ev (get env) x=vx at *
     generalize ev (get env) i=vi at *
     cases vx with
     | ref id off=>
      cases vi with
      | i k m=>
       simp only[M0] at he
       split at he
       .rename_i hm
        simp only[Ao3] at he
        subst he
        obtain⟨bk,hb,ex⟩:=hx.ref_inv
        have ei:=hi.i_inv
        have hel:P.elem t=e:=by simp[Program.elem,hu]
        have hal:P.arrayLen t=n':=by simp[Program.arrayLen,hu]
        refine AU.same (val:=.pointer (some ⟨bk,off+m.toNat*sz,none⟩)) (fun w=>?_) hp (.ref _ _ _ hb)
        simp only[execOp,ho,ex,ei,Ao1]
        rw[run_indexAt_array (h:=by rw[hel,hal];exact hu),hal,Amm hm,hel,Dx hsz]
        simp[A1G]
       .cases he
      | _=>simp[M0] at he
     | _=>simp[M0] at he
    | [],h3,_=>simp[Bg] at h3
    | [_],h3,_=>simp[Bg] at h3
    | _::_::_::_,h3,_=>simp[Bg] at h3
   .cases h1
  .cases hok
theorem AqN{k m xs id e}(f:Ade P k o.op m xs=true)(Z:ev (get env) m=.arr id)(U:lk σ id=some e)(q:rdF k e (xs.map (ev (get env)))=some v):AU P O ep o d σ n μ H a w v σ:=by
 have s:=hp.ents _ _ U;cases k with
 | mget kk z ok=>
  simp only[Ade] at f;split at f
  .rename_i t m' k' E W;simp only[AaS,AjK] at f;obtain⟨⟨⟨A,rfl⟩,R⟩,B⟩:=f;split at A
   .rename_i kt F C;simp only[AaS] at A;have ⟨hkt,hz⟩:=A
    match xs,B,q with
    | [x],B,q=>
     have M:=Ar hr (x:=k') (y:=x) (by simpa[Bg] using B);have l:=Ar hr R;rw[Z] at l;simp only[Ao7,Ava] at q;cases e with
     | map es=>
      simp only[rdF,Afo] at q;obtain⟨r,Y,rfl⟩:=q;have ⟨bk,mes,clock,hmu,hB,hh,hrel⟩:=s;have N:a.eval m'=.map (some bk):=by have:=(l.arr_inv).1;grind
      have ⟨i,zv,hi,hzv,hokz⟩:=Fp hz;have L:=(Lp (μ:=μ) (H:=H) hokz).1;have ⟨r',hfk,hcase⟩:=SW hkt M w es mes.toList r hrel.len hrel.at_ Y;have S:=PF hkt M (Ov Y) mes.isEmpty w;have run:∀val,((match r' with|some (_,v)=>pure (v,true)|none=>do pure (<-zeroValue F,false):Sem (Value×Bool)) >>= λp=>(pure (if E then .tuple #[p.1,.bool p.2] else p.1):Sem Value)).run P w=.ok val w->
        (execOp a.eval o).run P w=.ok (.value val) w:=by
       intro val hv;simp only[execOp,W,N,Instr.lookup,Ao1,At3 (H8 C),Aow,A0g hh,Aur,S,hfk];simp only[Ao1] at hv;cases r' with
       | none=>
        simp only[Ao1,Aur] at hv⊢;cases D:(zeroValue F).run P w with
        | ok x y=>simp_all
        | halt h y=>simp_all
       | some p=>simp_all
      have two:∀{u:V} {val:Value} (t:Bool),Ap μ H u val->Ap μ H (.tup [u,.b t]) (.tuple #[val,.bool t]):=by intro u val t h;have J:VRels μ H [u,.b t] [val,.bool t]:=VRels.cons h (VRels.cons (.b t) VRels.nil_);exact .tup _ _ J.len J.at_
      rcases hcase with⟨rfl,rfl⟩|⟨j,u,val,rfl,rfl,hval,_,_⟩
      .have D:(zeroValue F).run P w=.ok zv w:=by simp[zeroValue,typeInfo,hi,hzv]
       intro next Q K
       cases E with
       | true=>exact Ca (run (.tuple #[zv,.bool false]) (by simp[D])) (K _ _ _ _ _ (J1.same hp (two false L)))
       | false=>exact Ca (run zv (by simp[D])) (K _ _ _ _ _ (J1.same hp L))
      .intro next Q K
       cases E with
       | true=>exact Ca (run (.tuple #[val,.bool true]) (by simp)) (K _ _ _ _ _ (J1.same hp (two true hval)))
       | false=>exact Ca (run val (by simp)) (K _ _ _ _ _ (J1.same hp hval))
     | _=>simp[rdF] at q
    | [],B,_=>simp[Bg] at B
    | _::_::_,B,_=>simp[Bg] at B
   .simp at A
  .cases f
 | mlen=>
  simp only[Ade] at f;split at f
  .rename_i c W;split at f
   .rename_i G;simp only[AaS,AjK,A1p] at f;obtain⟨⟨⟨A,h2⟩,R⟩,rfl⟩:=f;have ⟨x',g,M⟩:=NZ R;have g:=DI g;have l:=Ar hr M;rw[Z] at l;cases e with
    | map es=>
     simp only[Ava,rdF,Ao3] at q;subst q;have ⟨bk,mes,clock,hmu,hB,hh,hrel⟩:=s;have N:a.eval x'=.map (some bk):=by have:=(l.arr_inv).1;grind
     have ⟨T,hT⟩:=QT c.argTypes h2;rw[hT] at A;have ⟨⟨kt,F⟩,C⟩:=AxV.1 A;have hu:=H8 C;have ⟨cs,hrun⟩:=Cp (P:=P) W G a.eval w;have I:es.length=mes.size:=by simpa using hrel.len
     intro next Q K
     refine Ca (w':=w) (val:=.int .i64 es.length) ?_ (K _ _ _ _ _ (J1.same hp (.i _ _)));have X:P.underlying T=some (.map kt F):=hu;have U:(Builtin.len_ #[T] o.type #[.map (some bk)]).run P w=.ok (goInt mes.size) w:=by simp[Builtin.len_,At3 X,A0g hh]
     rw[hrun,g,hT];simp only[builtin,A17,Ao7,Ava,N,Ao1,U,Aow,Aur,goInt,I]
    | _=>simp[rdF] at q
   .cases f
  .cases f
theorem Ar9{k m xs id e e'}(hok:AeN P k o.op m xs=true)(hdst:o.dst=d)(hst:At4 k=true->d=none)(hm:ev (get env) m=.arr id)(hl:lk σ id=some e)
  (he:wrF k e (xs.map (ev (get env)))=some (e',v)):AU P O ep o d σ n μ H a w v (upd σ id e'):=by
 have hent:=hp.ents _ _ hl
 cases k with
 | mput kk=>
  have main:∀(t:TypeId) (m' k' v':Operand),(execOp a.eval o=do Instr.mapUpdate t (a.eval m') (a.eval k') (a.eval v');pure .skip)->(match S7 P t with|some (kt,et)=>Sp P kk kt|none=>false)=true->CF m' m=true->Bg [k',v'] xs=true->AU P O ep o d σ n μ H a w v (upd σ id e'):=by
   intro t m' k' v' hex h1 h2 h3
   split at h1
   .rename_i kt et hmt
    obtain⟨x,y,hxs,hkx,hvy⟩:∃x y,xs=[x,y]/\CF k' x=true/\CF v' y=true:=by
     match xs,h3 with
     | [x,y],h3=>simp only[Bg,AaS] at h3;grind
     | [],h3=>simp[Bg] at h3
     | [_],h3=>simp[Bg] at h3
     | _::_::_::_,h3=>simp[Bg] at h3
    subst hxs
    have hx:=Ar hr hkx
    have hy:=Ar hr hvy
    have hmr:=Ar hr h2
    rw[hm] at hmr
    simp only[Ao7,Ava] at he
    cases e with
    | map es=>
     simp only[wrF,Afo] at he
     obtain⟨r,hf,hres⟩:=he
     obtain⟨bk,mes,clock,hmu,hB,hh,hrel⟩:=hent
     have e1:a.eval m'=.map (some bk):=by
      have:=(hmr.arr_inv).1
      grind
     have hkt:=h1
     obtain⟨r',hfk,hcase⟩:=SW hkt hx w es mes.toList r hrel.len hrel.at_ hf
     have hck:=PF hkt hx (Ov hf) false w
     have hund:Ap μ H (.tup []) undef:=.tup [] [] rfl (fun k c v hk=>by simp at hk)
     have fin:∀(ob:Obj) (mes':Array MapEntry) (clock':Nat) (es':List (V×V)),ob=.map mes' clock'->gK μ H es' mes'.toList clock'->e'=.map es'->v=.tup []->(Instr.mapUpdate t (a.eval m') (a.eval k') (a.eval v')).run P w=.ok () { w with heap:=w.heap.setIfInBounds bk ob }->AU P O ep o d σ n μ H a w v (upd σ id e'):=by
      intro ob mes' clock' es' hob hrel' he' hv hrun next Q K
      subst he'
      subst hv
      have hset:=hp.set_ (e:=.map es') hl ((By.setObj w bk ob).to (fun k hk=>by subst hk;simp[hmu,Cl])) ⟨bk,mes',clock',hmu,hB,by
       grind
,hrel'⟩
      refine XH ?_ (K _ _ _ _ _ ⟨hund,hset.1,Ab6 _,hset.2,fun _ _ _ h=>h⟩)
      simp_all
     rcases hcase with⟨rfl,rfl⟩|⟨j,u,val,rfl,rfl,hval,_,hj⟩
     .simp only[A1B] at hres
      refine fin (.map (mes.push { key:=a.eval k',val:=a.eval v',born:=clock }) (clock+1)) _ _ (es++[(ev (get env) x,ev (get env) y)]) rfl ⟨by simp[hrel.len],fun k c mm hc hmm=>?_,?_,?_⟩ hres.1.symm hres.2.symm ?_
      .simp only[Array.toList_push] at hmm
       have hlen:=hrel.len
       by_cases hk:k<es.length
       .rw[AxD hk] at hc
        rw[AxD (by grind)] at hmm
        exact hrel.at_ k c mm hc hmm
       .rw[Au5 (by omega)] at hc
        rw[Au5 (by omega),<-hlen] at hmm
        grind
      .intro k mm hmm
       simp only[Array.toList_push] at hmm
       by_cases hk:k<mes.toList.length
       .rw[AxD hk] at hmm
        exact hrel.born k mm hmm
       .rw[Au5 (by omega)] at hmm
        cases hk0:k-mes.toList.length with
        | zero=>
         rw[hk0] at hmm
         simp only[A0B,Ao3] at hmm
         subst hmm
         have:=hrel.now
         grind
        | succ q=>grind
      .have:=hrel.now
       grind
      .simp only[Instr.mapUpdate,Ao1,At3 (H8 hmt),Aow,e1,A0g hh,hck,hfk,MapKept.run_setObj_map _ hh]
     .simp only[A1B] at hres
      simp only[A1I] at hj
      obtain⟨c0,hc0⟩:=AxV.1 hj
      have hjm:j<mes.toList.length:=by rw[<-hrel.len];grind
      have hm0:mes.toList[j]?=some mes.toList[j]:=Am7 hjm
      have hsize:mes[j]?=some mes.toList[j]:=by grind
      have hkey2:mes.toList[j].key=a.eval k'/\Instr.sameBits 10000 (a.eval k') (a.eval k')=true:=by
       have hfound:∀(es:List (V×V)) (i j:Nat) (u:V),BE kk (ev (get env) x) es i=some (some (j,u))->∃c,es[j-i]?=some c/\i<=j/\Fl kk (ev (get env) x) c.1=some true:=by
        intro es
        induction es with
        | nil=>intro i j u h;simp only[BE] at h;split at h<;>cases h
        | cons e es ih=>
         intro i j u h
         simp only[BE] at h
         split at h
         .grind
         .obtain⟨c,h1,h2,h3⟩:=ih _ _ _ h
          exact⟨c,by rw[show j-i=(j-(i+1))+1 by omega,Azq];exact h1,by omega,h3⟩
         .cases h
       obtain⟨c,h1,_,h3⟩:=hfound es 0 j u hf
       simp only[A1I] at h1
       exact Ad3 hkt hx (hrel.at_ j c _ h1 hm0).1 h3
      obtain⟨hkey,hsame⟩:=hkey2
      have hstay:(Instr.keyThatStays (a.eval k') (a.eval k')).run P w=.ok (a.eval k') w:=by
       simp[Instr.keyThatStays,hsame]
      refine fin (.map (mes.modify j fun e=>{ e with key:=a.eval k',val:=a.eval v' }) clock) _ _ (es.modify j fun e=>(e.1,ev (get env) y)) rfl ⟨by simp[hrel.len],fun k c mm hc hmm=>?_,?_,?_⟩ hres.1.symm hres.2.symm ?_
      .simp only[A2j] at hmm
       rw[A0P] at hc hmm
       by_cases hk:j=k
       .subst hk
        simp only[AbA] at hc hmm
        rw[hc0] at hc
        rw[hm0] at hmm
        simp only[Option.map_eq_map,Azw,Ao3] at hc hmm
        subst hc;subst hmm
        refine⟨?_,hy⟩
        have:=(hrel.at_ j c0 _ hc0 hm0).1
        grind
       .simp only[AfL hk] at hc hmm
        simp only[Option.map_eq_map,Option.map_id'] at hc hmm
        exact hrel.at_ k c mm hc hmm
      .intro k mm hmm
       rw[A2j,A0P] at hmm
       cases hmk:mes.toList[k]? with
       | none=>grind
       | some m1=>
        rw[hmk] at hmm
        have h1:=hrel.born k m1 hmk
        grind
      .rw[A2j,A1J];exact hrel.now
      .simp only[Instr.mapUpdate,Ao1,At3 (H8 hmt),Aow,e1,A0g hh,hck,hfk,hsize,Azw,Option.getD_some,hkey,hstay,MapKept.run_setObj_map _ hh]
    | _=>simp[wrF] at he
   .cases h1
  simp only[AeN] at hok
  split at hok
  .rename_i t m' k' v' ho
   simp only[AaS] at hok
   exact main t m' k' v' (by simp only[execOp,ho]) hok.1.1 hok.1.2 hok.2
  .rename_i t m' k' v' ho
   simp only[AaS] at hok
   exact main t m' k' v' (by simp only[execOp,ho]) hok.1.1 hok.1.2 hok.2
  .cases hok
 | next=>
  simp only[AeN] at hok
  split at hok
  .rename_i m' ho
   simp only[AaS,A1p] at hok
   obtain⟨h2,rfl⟩:=hok
   have hmr:=Ar hr h2
   rw[hm] at hmr
   cases e with
   | it l pos=>
    simp only[Ava,wrF] at he
    obtain⟨bk,hmu,hB,hh⟩:=hent
    have e1:a.eval m'=.pointer (some ⟨bk,0,none⟩):=by
     have:=(hmr.arr_inv).1
     grind
    have hsz:(⟨l.toArray⟩:ByteArray).size=l.length:=by simp[ByteArray.size]
    intro next Q K
    split at he
    .rename_i hlt
     simp only[Ao3,A1B] at he
     obtain⟨rfl,rfl⟩:=he
     obtain⟨c,hdec⟩:∃c,Utf8.decode ⟨l.toArray⟩ pos=c:=⟨_,rfl⟩
     rw[hdec] at K
     have hset:=hp.set_ (e:=.it l (pos+c.2)) hl ((By.setObj w bk (.stringIter ⟨l.toArray⟩ (pos+c.2))).to (fun k hk=>by subst hk;simp[hmu,Cl])) ⟨bk,hmu,hB,by
      grind
⟩
     refine Ca (w':={ w with heap:=w.heap.setIfInBounds bk (.stringIter ⟨l.toArray⟩ (pos+c.2)) }) (val:=.tuple #[.bool true,goInt pos,.int .i32 c.1]) ?_ (K _ _ _ _ _ ⟨?_,hset.1,Ab6 _,hset.2,fun _ _ _ h=>h⟩)
     .obtain⟨c1,c2⟩:=c
      simp only[execOp,ho,e1,Instr.next,Ao1,JB hh,Aow,hsz,hlt,AbA,hdec,Pw _ hh,Aur]
     .have hvs:VRels μ H [.b true,.i .i64 pos,.i .i32 c.1] [.bool true,.int .i64 pos,.int .i32 c.1]:=VRels.cons (.b _) (VRels.cons (.i _ _) (VRels.cons (.i _ _) VRels.nil_))
      exact .tup _ _ hvs.len hvs.at_
    .rename_i hlt
     simp only[Ao3,A1B] at he
     obtain⟨rfl,rfl⟩:=he
     have hset:=hp.set_ (e:=.it l pos) (w':=w) hl ⟨rfl,rfl,rfl,Ab6 _,fun _ _ _=>rfl⟩ ⟨bk,hmu,hB,hh⟩
     refine Ca (w':=w) (val:=.tuple #[.bool false]) ?_ (K _ _ _ _ _ ⟨?_,hset.1,Ab6 _,hset.2,fun _ _ _ h=>h⟩)
     .simp only[execOp,ho,e1,Instr.next,Ao1,JB hh,Aow,hsz,hlt,Ab9,Aur]
     .have hvs:VRels μ H [.b false] [.bool false]:=VRels.cons (.b _) VRels.nil_
      exact .tup _ _ hvs.len hvs.at_
   | _=>simp[wrF] at he
  .cases hok
theorem AtZ{k xs e}(b:dZ P k o.op xs=true)(A:ep<n)(u:∀j,d=some j->μ (ep,j)=none){j}(r:d=some j)(f:ZK k (xs.map (ev (get env)))=some e)(F:v=mkV k (ep,j)):AU P O ep o d σ n μ H a w v (((ep,j),e)::σ):=by
 subst F;cases k with
 | mkmap=>
  simp only[dZ] at b;split at b
  .rename_i t q;simp only[A1p] at b;subst b;simp only[Ava,ZK,Ao3] at f;subst f;refine AU.made hp r A u (obj:=.map #[] 0) (val:=.map (some w.heap.size)) ?_ (λB h=>by simpa[Cl] using h.symm)
    ⟨w.heap.size,#[],0,Au _ _ _,hp.base.size,A1n w _,⟨rfl,λk c m h=>by simp at h,λk m h=>by simp at h,rfl⟩⟩ (.arr _ _ (Au _ _ _) rfl)
   simp[execOp,q,Instr.makeMap]
  .cases b
 | strit=>
  simp only[dZ] at b;split at b
  .rename_i t x' q;simp only[AaS] at b;have ⟨h1,g⟩:=b
   match xs,g,f with
   | [x],g,f=>
    have C:=Ar hr (x:=x') (y:=x) (by simpa[Bg] using g);simp only[Ao7,Ava] at f;generalize ev (get env) x=I at *;cases I with
    | s l=>
     simp only[ZK,Ao3] at f;subst f;have E:=C.s_inv.1;refine AU.made hp r A u (obj:=.stringIter ⟨l.toArray⟩ 0) (val:=.pointer (some ⟨w.heap.size,0,none⟩)) ?_ (λB h=>by simpa[Cl] using h.symm)
      ⟨w.heap.size,Au _ _ _,hp.base.size,A1n w _⟩ (.arr _ _ (Au _ _ _) rfl)
     simp[execOp,q,E,Instr.range,At3 (Ft h1)]
    | _=>simp[ZK] at f
   | [],g,_=>simp[Bg] at g
   | _::_::_,g,_=>simp[Bg] at g
  .cases b
 | tnew t z=>
  simp only[dZ] at b;split at b
  .rename_i t' q;simp only[AaS,AjK,A1p] at b;obtain⟨⟨rfl,G⟩,rfl⟩:=b;simp only[Ava,ZK,Ao3] at f;subst f;have ⟨i,zv,hi,hzv,b⟩:=Fp G;refine AU.made hp r A u (obj:=.cells zv.cells t') (val:=.pointer (some ⟨w.heap.size,0,none⟩)) ?_ (λB h=>by simpa[Cl] using h.symm)
    (PL hp.base.size (Au _ _ _) (Lp b).2) (.ref _ 0 _ (Au _ _ _))
   simp[execOp,q,Instr.alloc,zeroValue,typeInfo,hi,hzv,newVar,newRow]
  .cases b
 | tbx t=>
  simp only[dZ] at b;split at b
  .rename_i t' x' q;simp only[AaS,AjK] at b;obtain⟨rfl,g⟩:=b
   match xs,g,f with
   | [x],g,f=>
    have C:=Ar hr (x:=x') (y:=x) (by simpa[Bg] using g);simp only[Ao7,Ava,ZK] at f;split at f
    .rename_i D;cases f;have p:=BQ (v:=.pointer (some ⟨w.heap.size,0,none⟩)) (u j r);refine AU.made hp r A u (obj:=.cells (a.eval x').cells t') (val:=.pointer (some ⟨w.heap.size,0,none⟩)) ?_ (λB h=>by simpa[Cl] using h.symm)
      (PL hp.base.size (Au _ _ _) ((C.toCells D).1.mono p (λ_ _ h=>h))) (.ref _ 0 _ (Au _ _ _))
     simp[execOp,q,Instr.box,newVar,newRow]
    .cases f
   | [],g,_=>simp[Bg] at g
   | _::_::_,g,_=>simp[Bg] at g
  .cases b
omit hr in
theorem Hp.freeze_{id:Id}{u:V}{k:Nat}(p:lk σ id=some (.box u))(q:μ id=some (.pointer (some ⟨k,0,none⟩))) :
  Hp O (del σ id) n μ (pinned H w k) w/\Fr μ H σ w μ (pinned H w k) (del σ id) w:=by
 have l:GW μ σ k:=⟨id,_,p,by simp[q,Cl]⟩
 have f:∀g v,H g=some v->pinned H w k g=some v:=by
  intro g v h;unfold pinned;split
  .rename_i i;rw[hp.unp k l g i] at h;cases h
  .exact h
 have sub:∀c e,lk (del σ id) c=some e->c≠id/\lk σ c=some e:=by intro c e h;rw[DE] at h;grind
 have j:∀b,GW μ (del σ id) b->GW μ σ b/\b≠k:=by rintro b ⟨c,e,h,i⟩;have ⟨hne,h'⟩:=sub _ _ h;refine⟨⟨c,e,h',i⟩,?_⟩;rintro rfl;exact hne (hp.sep _ _ _ _ b h' p i (by simp[q,Cl]))
 refine⟨⟨hp.base,?_,λc e h=>(hp.ents _ _ (sub _ _ h).2).keep (λ_ _ h=>h) f (λ_ _=>rfl),?_,λx s i2 t b l1 r=>hp.sep _ _ _ _ b (sub _ _ l1).2 (sub _ _ r).2,hp.bd⟩,
  ⟨λ_ _ h=>h,f,Ab6 _,λ_ _ _=>rfl,?_,λb _ m=>(j b m).1⟩⟩
 .intro g v h;unfold pinned at h;split at h
  .exact h
  .exact hp.pins g v h
 .intro b m g i;have ⟨ho',hne⟩:=j b m;unfold pinned;rw[AfL (by rw[i];exact hne)];exact hp.unp b ho' g i
 .intro g i m;unfold pinned;rw[AfL];grind
theorem ArU{t x' m k}(M:o.op=.slice t x' none none none)(z:(match P.underlying t with|some (.array q e)=>q==k&&CI P e==some 1&&decide (k<=1024)|_=>false)=true)(S:CF x' m=true)
  {id cs}(L:ev (get env) m=.ref id 0)(D:lk σ id=some (.box (.agg cs)))(E:cs.length=k)(g:∀c∈cs,cells c=[c])(R:v=.sl cs):AU P O ep o d σ n μ H a w v (del σ id):=by
 split at z
 .rename_i q e N;simp only[AaS,AjK,Avv] at z;obtain⟨⟨rfl,C⟩,T⟩:=z;have y:=Ar hr S;rw[L] at y;obtain⟨i,u,G⟩:=y.ref_inv;obtain⟨F,b,t',s,_,I,l⟩:=hp.ents _ _ D;rw[u] at s;cases s;obtain⟨B,r⟩:=Hp.freeze_ hp D u;subst R;have l:AY μ H cs b.toList:=l;have f:AQ cs=cs:=UB g;intro next Q K
  refine Ca (w':=w) (val:=.slice (some ⟨i,0,none⟩) q q) ?_ (K _ n μ (pinned H w i) w ⟨?_,B,Ab6 _,r,λ_ _ _ h=>h⟩)
  .simp[execOp,M,G,Instr.sliceAt,At3 N,Instr.sureAddr,Instr.sliceBounds,Dx C,Addr.add]
  .have p:AY μ (pinned H w i) cs b.toList:=l.mono (λ_ _ h=>h) r.hp;have A:cs.length=b.toList.length:=l.len;have:=Ap.slC (μ:=μ) (H:=pinned H w i) cs ⟨i,0,none⟩ q 1 b.toList (by omega) (by unfold AJ;omega) (λc l=>by rw[g c l];rfl) (by rw[f];exact A) p.one (λj x J=>by unfold pinned;rw[CJ,Amm rfl,cell_of_row w i j b t' (0,0) I];simpa using J) (by rw[f];exact p.at_);grind
 .cases z
theorem sB{t x' m}(y:o.op=.range t x')(z:(S7 P t).isSome=true)(B:CF x' m=true)(x:ep<n)(p:∀f,d=some f->μ (ep,f)=none){f}(l:d=some f)
  {mid es}(u:ev (get env) m=.arr mid)(s:lk σ mid=some (.map es))(A:v=.arr (ep,f)):AU P O ep o d σ n μ H a w v (((ep,f),.mit mid es.length [] es.length)::σ):=by
 subst A;have g:=Ar hr B;rw[u] at g;obtain⟨⟨E,D⟩,j⟩:=AxV.1 z;obtain⟨i,C,e,k,hB,r,c⟩:=hp.ents _ _ s;have q:a.eval x'=.map (some i):=by have:=(g.arr_inv).1;grind
 have b:e=es.length:=by rw[c.now,c.len]
 subst b;refine AU.made hp l x p (obj:=.mapIter (some i) es.length #[] es.length) (val:=.pointer (some ⟨w.heap.size,0,none⟩)) ?_ (λi h=>by simpa[Cl] using h.symm)
  ⟨w.heap.size,i,Au _ _ _,hp.base.size,BQ (p f l) _ _ k,A1n w _⟩ (.arr _ _ (Au _ _ _) rfl)
 simp[execOp,y,q,Instr.range,At3 (H8 j),A0g r]
omit hr hp in
theorem IT{r:Nat}{m:Option Nat}{c b:Nat}{seen:Array Nat}(e:w.heap[r]?=some (.mapIter m c seen b)):(getObj r).run P w=.ok (.mapIter m c seen b) w:=by simp[getObj,Sem.run,e]
omit hr hp in
theorem OB{r:Nat}{m:Option Nat}{c b:Nat}{seen:Array Nat}(e:Obj)(f:w.heap[r]?=some (.mapIter m c seen b)):(setObj r e).run P w=.ok () { w with heap:=w.heap.setIfInBounds r e }:=by simp[setObj,Sem.run,f]
omit hr hp in
theorem e9{ms:List MapEntry}:∀(j i:Nat) (m:MapEntry),(∀(k:Nat) (m:MapEntry),ms[k]?=some m->m.born=j+k)->ms[i]?=some m->ms.find? (λe=>e.born==j+i)=some m:=by
 induction ms with
 | nil=>grind
 | cons x ms g=>
  intro j i m b h;cases i with
  | zero=>grind
  | succ i=>have c:=b 0 x rfl;rw[List.find?_cons_of_neg (by simp[c])];have:=g (j+1) i m (λk m f=>by have:=b (k+1) m (by simpa using f);omega) (by simpa using h);grind
theorem xR{x' m}(L:o.op=.entry x')(N:CF x' m=true){id mid q i seen es s}(I:ev (get env) m=.arr id)(G:lk σ id=some (.mit mid q seen es.length))
  (p:seen.getLast?=some i)(A:lk σ mid=some (.map es))(z:es[i]?=some s)(M:v=.tup [s.1,s.2]):AU P O ep o d σ n μ H a w v σ:=by
 subst M;have x:=Ar hr N;rw[I] at x;obtain⟨r,U,J,_,B,D⟩:=hp.ents _ _ G;obtain⟨T,b,h,g,_,y,c⟩:=hp.ents _ _ A;rw[B] at g;cases g;have C:a.eval x'=.pointer (some ⟨r,0,none⟩):=by have:=(x.arr_inv).1;grind
 have f:h=es.length:=by rw[c.now,c.len]
 subst f;have E:i<b.toList.length:=by rw[<-c.len];grind
 have t:b.toList[i]?=some b.toList[i]:=Am7 E;obtain⟨R,S⟩:=c.at_ i s _ z t;have j:seen.toArray.back?=some i:=by rw[<-p];simp
 have l:b.find? (λe=>e.born==i)=some b.toList[i]:=by have:=e9 (ms:=b.toList) 0 i _ (λk m F=>by rw[AzN];exact c.born k m F) t;grind
 intro next Q K
 refine Ca (w':=w) (val:=.tuple #[b.toList[i].key,b.toList[i].val]) ?_ (K _ _ _ _ _ (J1.same hp ?_))
 .simp only[execOp,L,C,Ao1,Instr.entry,IT D,Aow,j,A0g y,l,Aur];simp
 .have u:VRels μ H [s.1,s.2] [b.toList[i].key,b.toList[i].val]:=VRels.cons R (VRels.cons S VRels.nil_);exact .tup _ _ u.len u.at_
end ops
end Go.Ir
end
section
namespace Go.Ir
open Go.RowKit
theorem N8 z n k (e:k<n*(cells z).length):(AQ (List.replicate n z))[k]?=(cells z)[k % (cells z).length]?:=by
 induction n generalizing k with
 | zero=>omega
 | succ n c=>
  have b:AQ (List.replicate (n+1) z)=cells z++AQ (List.replicate n z):=by simp[AQ,List.replicate_succ]
  rw[b];by_cases h:k<(cells z).length
  .rw[AxD h,Nat.mod_eq_of_lt h]
  .rw[Au5 (by omega),c (k-(cells z).length) (by grind)];congr 1;exact(Nat.mod_eq_sub_mod (by omega)).symm
theorem Abu{μ H z}{zv:Value}{sz}(hc:AY μ H (cells z) zv.cells.toList)(hs:zv.cells.size=sz)(hpos:0<sz){n m}(hnm:n<=m) :
  AY μ H (AQ (List.replicate n z)) ((madeCells zv.cells (m*sz)).toList.take (n*sz)):=by
 have hl:(cells z).length=sz:=by rw[hc.len];simpa using hs
 have hle:n*sz<=m*sz:=A0M _ hnm
 have hat:∀k v,((madeCells zv.cells (m*sz)).toList.take (n*sz))[k]?=some v->k<n*sz/\zv.cells.toList[k % sz]?=some v:=by
  intro k v h
  rw[A0w] at h
  split at h
  .rename_i hk
   refine⟨hk,?_⟩
   have hm:k % sz<sz:=Nat.mod_lt _ hpos
   have hk2:k<m*sz:=by omega
   simp only[madeCells,Array.toList_map,ArI] at h
   grind
  .cases h
 refine⟨⟨?_,fun k c v h1 h2=>?_⟩,fun v hv=>?_⟩
 .rw[GJ (sz:=sz) (fun e he=>by grind)]
  rw[List.length_replicate,A1V,A0u,size_madeCells,Nat.min_eq_left hle]
 .obtain⟨hk,h3⟩:=hat k v h2
  rw[N8 z n k (by rw[hl];exact hk),hl] at h1
  exact hc.at_ _ c v h1 h3
 .obtain⟨k,hk⟩:=AxL.1 hv
  obtain⟨_,h3⟩:=hat k v hk
  exact hc.one v (Ao6 h3)
section
variable{O w w':World}{σ:Aq}{n n':Nat}{μ:Id→Option Value}{H:Addr→Option Value}
theorem Hp.rename{i g:Id}{e:AP}{val:Value}(hp:Hp O ((i,e)::σ) n μ H w)(K:μ i=some val)(h0:lk σ i=none)(Y:μ g=none)(hn:g.1<n) :
  Hp O ((g,e)::σ) n (G0 μ g val) H w/\∀y,GW (G0 μ g val) ((g,e)::σ) y->GW μ ((i,e)::σ) y:=by
 have q:=BQ (v:=val) Y;have T:∀f e',lk σ f=some e'->f≠i/\f≠g/\lk ((i,e)::σ) f=some e'/\G0 μ g val f=μ f:=by
  intro f e' h;have B:f≠i:=by rintro rfl;rw[h0] at h;cases h
  have I:lk ((i,e)::σ) f=some e':=by simp only[lk];rw[AfL (λe=>B e.symm)];exact h
  have C:f≠g:=by rintro rfl;obtain⟨_,K⟩:=(hp.ents _ _ I).named;rw[Y] at K;cases K
  exact⟨B,C,I,Ce _ _ C⟩
 have l0:lk ((i,e)::σ) i=some e:=by simp[lk]
 have A:∀f e',lk ((g,e)::σ) f=some e'->∃j,lk ((i,e)::σ) j=some e'/\G0 μ g val f=μ j/\(f=g/\j=i\/f=j/\f≠g/\j≠i):=by
  intro f e' h;simp only[lk] at h;split at h
  .rename_i h2;subst h2;cases h;exact⟨i,l0,by rw[Au,K],.inl ⟨rfl,rfl⟩⟩
  .obtain⟨a,b,c,d⟩:=T _ _ h;exact⟨f,c,d,.inr ⟨rfl,b,a⟩⟩
 have D:∀y,GW (G0 μ g val) ((g,e)::σ) y->GW μ ((i,e)::σ) y:=by rintro y ⟨f,e',I,hb⟩;obtain⟨j,G,u,_⟩:=A _ _ I;exact⟨j,e',G,by rw[<-u];exact hb⟩
 refine⟨⟨hp.base,hp.pins,?_,λy ho=>hp.unp y (D y ho),?_,?_⟩,D⟩
 .intro f e' I;obtain⟨j,G,u,L⟩:=A _ _ I;have s:=hp.ents _ _ G;cases e' with
  | box v=>obtain⟨y,x,t,p,hB,z,F⟩:=s;exact⟨y,x,t,by rw[u];exact p,hB,z,F.mono q (λ_ _ h=>h)⟩
  | tbox t v=>obtain⟨y,x,p,hB,z,F⟩:=s;exact⟨y,x,by rw[u];exact p,hB,z,F.mono q (λ_ _ h=>h)⟩
  | arr e sz es=>obtain⟨v,x,p,r1,r2,r3,r4,F⟩:=s;exact⟨v,x,by rw[u];exact p,r1,r2,r3,r4,F.mono q (λ_ _ h=>h)⟩
  | map es=>obtain⟨r,S,E,p,hB,z,F⟩:=s;exact⟨r,S,E,by rw[u];exact p,hB,z,F.mono q (λ_ _ h=>h)⟩
  | it l aj=>obtain⟨r,p,hB,z⟩:=s;exact⟨r,by rw[u];exact p,hB,z⟩
  | mit mid U seen J=>obtain⟨r,m,p,hB,M,z⟩:=s;exact⟨r,m,by rw[u];exact p,hB,q _ _ M,z⟩
 .intro i1 e1 i2 e2 y l1 l2 W X;obtain⟨j1,N,m1,Z⟩:=A _ _ l1;obtain⟨j2,R,m2,c2⟩:=A _ _ l2;rw[m1] at W;rw[m2] at X;have:=hp.sep _ _ _ _ y N R W X;subst this;rcases Z with⟨rfl,rfl⟩|⟨rfl,a,b⟩<;>rcases c2 with⟨rfl,h⟩|⟨rfl,c,d⟩
  .rfl
  .exact absurd rfl d
  .exact absurd h b
  .rfl
 .intro k hk;have:k≠g:=by rintro rfl;omega
  rw[Ce _ _ this];exact hp.bd k hk
end
theorem S6{P f}(b:callable P f=true) args w:(callFunc f args).run P w=.ok (.enter f args) w:=by
 unfold callable at b;split at b
 .rename_i c g;simp only[AaS,AsZ] at b;have e:c.body.isNone=false:=by cases h:c.body<;>simp_all
  unfold callFunc;simp only[Ao1,run_program,Aow,g,b.2,Ab7,Ab9,e,Aur]
 .cases b
section ops
variable{P:Program}{O:World}{ep nt:Nat}{o:Oper}{d:Option Nat}{env:BB}{σ σ':Aq}{n:Nat}{μ:Id→Option Value}{H:Addr→Option Value}{a:Act}{w:World}{v:V}
variable(hr:Rl μ H nt env a)(hp:Hp O σ n μ H w)
theorem Eq{c g f first caps}(e:callable P f=true)(i:o.op=.call c)(b:c.callee=.value g)(h:a.eval g=.func (.func f) first caps) w :
  (execOp a.eval o).run P w=.ok (.enter f (first++c.args.map a.eval++caps)) w:=by
 simp only[execOp,i,resolve,b,h,Deferred.ofValue,Ao1,Aur,Aow,invoke];exact S6 e _ w
theorem AU.called{f:FuncId}{args:Array Value}{b:List V}{σi σo:Aq}(hp:Hp O σ n μ H w)(j:(execOp a.eval o).run P w=.ok (.enter f args) w)(g:VRels μ H b args.toList)
  (i:Ak P O f b σi v σo)(q:∀id e,lk σi id=some e->lk σ id=some e):AU P O ep o d σ n μ H a w v (over σi σo σ):=by
 intro next Q K
 unfold Oper.wp;rw[j];have:=i.run n w μ H args.toList (hp.part q) g;simp only[Oper.upon];rw[A1k] at this;refine Az5 this ?_;rintro e w' ⟨val,μ',H',n',rfl,s,m,l,r,c⟩;have p:=hp.back q m r;exact K val n' μ' H' w' ⟨s,p.1,l,p.2,λid k _ h=>c id k h⟩
theorem I0 σ:over [] [] σ=σ:=by simp[over,lk]
theorem QK{σi σ}(b:∀id e,lk σi id=some e->lk σ id=some e) id:lk (over σi σi σ) id=lk σ id:=by rw[Ij];grind
theorem ZD{σ τ μ b}(h:∀id,lk σ id=lk τ id):GW μ σ b↔GW μ τ b:=by unfold GW;simp only[h]
theorem Hp.eqv{σ τ n μ H w}(h:∀id,lk σ id=lk τ id)(hp:Hp O σ n μ H w):Hp O τ n μ H w:=
 ⟨hp.base,hp.pins,λid e j=>hp.ents id e (by rw[h];exact j),λb i=>hp.unp b ((ZD h).2 i),λid e c e' b f g=>hp.sep id e c e' b (by rw[h];exact f) (by rw[h];exact g),hp.bd⟩
theorem AU.eqv{σ1 σ'}(h:∀id,lk σ1 id=lk σ' id)(f:AU P O ep o d σ n μ H a w v σ1):AU P O ep o d σ n μ H a w v σ':=
 λnext Q K=>f next Q λval n' μ' H' w' b=>K val n' μ' H' w' ⟨b.rel,b.hp.eqv h,b.le,⟨b.fr.mu,b.fr.hp,b.fr.size,b.fr.keep,b.fr.pin,λc e g=>b.fr.dom c e ((ZD h).2 g)⟩,b.fresh⟩
theorem AU.calledN{f args g σi σo x}(hp:Hp O σ n μ H w)(t:(execOp a.eval o).run P w=.ok (.enter f args) w)(m:VRels μ H g args.toList)
  (M:ep<n)(R:∀i,d=some i->μ (ep,i)=none){i}(L:d=some i)
  (s:Kk P O f g σi x σo)(N:∀id e,lk σi id=some e->lk σ id=some e):AU P O ep o d σ n μ H a w (.arr (ep,i)) (((ep,i),x)::over σi σo σ):=by
 intro next Q K
 unfold Oper.wp;rw[t];have:=s.run n w μ H args.toList (hp.part N) m;simp only[Oper.upon];rw[A1k] at this;refine Az5 this ?_;rintro e' w' ⟨val,μ',H',n',k,rfl,S,u,D,B,G,p,z,b⟩;have l:=hp.back N G z;have F:over σi ((k,x)::σo) σ=(k,x)::over σi σo σ:=rfl;rw[F] at l;have C:lk (over σi σo σ) k=none:=by
  rw[Ij,B];simp only;split
  .cases h:lk σ k with
   | none=>rfl
   | some x=>obtain⟨_,q⟩:=(hp.ents _ _ h).named;rw[D] at q;cases q
  .rfl
 have c:μ' (ep,i)=none:=b (ep,i) M (R i L);obtain⟨I,r⟩:=l.1.rename S C c (AuD M p);refine K val n' _ H' w' ⟨.arr _ _ (Au _ _ _) u,I,p,⟨λid x U=>BQ c id x (l.2.mu id x U),l.2.hp,l.2.size,l.2.keep,l.2.pin,λJ y T=>l.2.dom J y (r J T)⟩,λid A E j=>?_⟩;rw[Ce _ _ (E i L)];exact b id A j
include hr hp
theorem AmJ{t e l' c' l c z sz}(ho:o.op=.makeSlice t l' c')(ht:CC P t=some e)(hel:Iz P e sz=true)(hz:Hi P e z=true)(hl:CF l' l=true)(hc:CF c' c=true)
  (hn:ep<n)(hf:∀dd,d=some dd->μ (ep,dd)=none){dd}(hd:d=some dd){k k' p q}(el:ev (get env) l=.i k (Int.ofNat p))(ec:ev (get env) c=.i k' (Int.ofNat q))(hpq:p<=q)(hq:q<=AJ)(hv:v=.arr (ep,dd)) :
  AU P O ep o d σ n μ H a w v (((ep,dd),.arr e sz (List.replicate p z))::σ):=by
 have hl':=Ar hr hl
 have hc':=Ar hr hc
 rw[el] at hl'
 rw[ec] at hc'
 have e1:=hl'.i_inv
 have e2:=hc'.i_inv
 have hu:=C8 ht
 obtain⟨i,zv,hi,hisz,hpos,hby,hzv,hzs,_⟩:=IE hel
 obtain⟨i',zv',hi',hzv',hokz⟩:=Fp hz
 rw[hi] at hi'
 cases hi'
 rw[hzv] at hzv'
 cases hzv'
 have hcz:=(Lp (μ:=μ) (H:=H) hokz).2
 have hmono:=BQ (v:=.slice (some ⟨w.heap.size,0,none⟩) p q) (hf dd hd)
 subst hisz
 subst hv
 have hb:=TN (k:=q) hr hp hq hby
 have hrun:=run_make (P:=P) w t e i zv hu hi hzv k k' (Int.ofNat p) (Int.ofNat q) (by simp) (by simpa using hpq) (by
  have:((i.bytes*q:Nat):Int)<=281474976710656:=by rw[Nat.mul_comm];omega
  rw[Int.natCast_mul] at this
  exact this) (by simp only[AJ,A19] at *;omega)
 have hrel:=Abu hcz hzs hpos hpq
 refine AU.made hp hd hn hf (obj:=.cells (madeCells zv.cells (q*i.size)) e) (val:=.slice (some ⟨w.heap.size,0,none⟩) p q) ?_ (fun bk h=>by simpa[Cl] using h.symm)
  ⟨_,_,Au _ _ _,rfl,⟨?_,.inr ⟨w.heap.size,q,_,by simp,hp.base.size,A1n w _,by simpa using hpq,by simp only[maxLen,AJ] at *;omega,size_madeCells _ _,rfl⟩⟩,by simp;omega,fun x hx=>?_,?_⟩ (.arr _ _ (Au _ _ _) rfl)
 .simp only[execOp,ho,e1,e2,Ao1,hrun,Aow,Aur]
  rfl
 .simp only[List.length_replicate,A1V,A0u,size_madeCells]
  simp_all
 .rw[List.eq_of_mem_replicate hx,hcz.len]
  simpa using hzs
 .simpa using hrel.mono hmono (fun _ _ h=>h)
theorem TP{op:Bh}(g:AbU P o.op op=true)(T:o.dst=d)(M:ep<n)(L:∀J,d=some J->μ (ep,J)=none)(af:MY op=true->d=none)
  (j:E P O ep d op (get env) σ v σ'):AU P O ep o d σ n μ H a w v σ':=by
 have A:∀{c:Call} {args:List X},Bg c.args.toList args=true->VRels μ H (args.map (ev (get env))) (c.args.map a.eval).toList:=by intro c args h;have:=Et hr h;simpa using this
 have F:∀f,a.eval (.func f)=.func (.func f) #[] #[]:=λf=>rfl;unfold AbU at g;unfold E at j;cases op with
 | mv y=>
  simp only at g j;obtain⟨j,rfl⟩:=j;split at g
  .rename_i x r;exact ArX hr hp (.inl r) g j
  .rename_i x r;exact ArX hr hp (.inr r) g j
  .cases g
 | pick c x y=>
  simp only at g j;obtain⟨t,ht,j,rfl⟩:=j;split at g
  .rename_i c' x' y' r;simp only[AaS] at g;exact Ajp hr hp r g.1.1 g.1.2 g.2 ht j
  .cases g
 | bin op x y=>
  simp only at g j;obtain⟨j,rfl⟩:=j;split at g
  .rename_i au t x' y' ty r;simp only[AaS,AjK] at g;obtain⟨⟨rfl,B⟩,C⟩:=g;exact Auu hr hp r B C j
  .cases g
 | eqb ne x y=>
  simp only at g j;obtain⟨p,q,D,ey,j,rfl⟩:=j;split at g
  .rename_i au t x' y' ty r;simp only[AaS,AjK] at g;obtain⟨⟨⟨h0,B⟩,C⟩,I⟩:=g;exact Ath hr hp r h0 B C I D ey j
  .cases g
 | not x=>
  simp only at g j;obtain⟨p,D,j,rfl⟩:=j;split at g
  .rename_i t x' r;exact Asw hr hp r g D j
  .cases g
 | neg x=>
  simp only at g j;obtain⟨k,p,D,j,rfl⟩:=j;split at g
  .rename_i t x' r;exact Asn hr hp r g D j
  .cases g
 | cvi k x=>
  simp only at g j;obtain⟨k',p,D,j,rfl⟩:=j;split at g
  .rename_i aR aC x' r;simp only[AaS,AjK] at g;exact AoD hr hp r g.1.1 g.1.2 g.2 D j
  .cases g
 | faddr x aN=>
  simp only at g j;obtain⟨j,rfl⟩:=j;split at g
  .rename_i t x' f r;simp only[AaS] at g;exact AbH hr hp r g.1 g.2 j
  .cases g
 | iaddr x i e sz=>
  simp only at g j;obtain⟨j,rfl⟩:=j;split at g
  .rename_i t x' i' r;simp only[AaS,AjK] at g;exact Acq hr hp r g.1.1.1 g.1.1.2 g.1.2 g.2 j
  .cases g
 | idx x i=>
  simp only at g j;obtain⟨l,k,m,c,D,ei,h0,hc,j,rfl⟩:=j;split at g
  .rename_i t x' i' r;simp only[AaS] at g;exact Apv hr hp r g.1.1 g.1.2 g.2 D ei h0 hc j
  .cases g
 | load x m ag=>
  simp only at g j;obtain⟨j,rfl⟩:=j;split at g
  .rename_i t x' r;simp only[AaS,AjK] at g;exact AmA hr hp r g.1.1 g.1.2 g.2 j
  .cases g
 | store ax x m=>
  simp only at g j;obtain⟨B,C,j⟩:=j;split at g
  .rename_i t a' x' r;simp only[AaS,AjK] at g;exact AcW hr hp r g.1.1 g.2 g.1.2 T (af rfl) B C j
  .cases g
 | box x=>
  simp only at g j;obtain⟨J,G,B,C,rfl⟩:=j;split at g
  .rename_i t x' r;exact AtR hr hp r g M L G B C
  .cases g
 | alloc z=>
  simp only at g j;obtain⟨J,G,C,rfl⟩:=j;split at g
  .rename_i t r;exact AcB hr hp r g M L G C
  .cases g
 | build z ps=>
  simp only at g j;obtain⟨K,⟨cs,ao,j⟩,rfl⟩:=j;split at g
  .rename_i t aO r;simp only[AaS] at g;exact Adn hr hp r g.1.1 g.1.2 g.2 K ao j
  .cases g
 | msl own e sz xs=>
  simp only at g j;obtain⟨K,j⟩:=j;split at g
  .rename_i t aM ps r;simp only[AaS,AjK,Avv] at g;exact AsM hr hp r g.1.1.1.1 g.1.1.1.2 g.1.1.2 g.1.2 g.2 M L K j
  .cases g
 | slS x lo hi=>
  simp only at g j;obtain⟨l,p,q,D,B,C,I,Z,j,rfl⟩:=j;split at g
  .rename_i t x' ar ab r;simp only[AaS] at g;exact Arn hr hp r g.1.1.1 g.1.1.2 g.1.2 g.2 D B C I Z j
  .cases g
 | slL x lo hi sz=>
  simp only at g j;obtain⟨l,p,q,D,B,C,I,Z,h5,j,rfl⟩:=j;split at g
  .rename_i t x' ar ab r;simp only[AaS,AjK] at g;obtain⟨e,ht⟩:=AxV.1 g.1.1.1.1;have ae:=g.1.1.1.2;rw[ht] at ae;exact Atn hr hp r ht ae g.1.1.2 g.1.2 g.2 D B C I Z h5 j
  .cases g
 | lenS x=>
  simp only at g j;obtain⟨l,D,j,rfl⟩:=j;split at g
  .rename_i c r;split at g
   .rename_i u;simp only[AaS,AjK] at g;exact AkX hr hp r u g.1.1 g.1.2 g.2 D j
   .cases g
  .cases g
 | lenL x=>
  simp only at g j;obtain⟨l,D,j,rfl⟩:=j;split at g
  .rename_i c r;split at g
   .rename_i u;simp only[AaS,AjK] at g;exact Amc hr hp r u g.1.1 g.1.2 g.2 D j
   .cases g
  .cases g
 | app s x e sz=>
  simp only at g j;obtain⟨J,xs,G,B,C,I,j⟩:=j;split at g
  .rename_i c r;split at g
   .rename_i u;simp only[AaS,AjK] at g;exact AtJ hr hp r u g.1.1.1 g.1.1.2 g.1.2 g.2 M L G B C I j
   .cases g
  .cases g
 | apps s x e=>
  simp only at g j;obtain⟨J,l,G,B,I,j⟩:=j;split at g
  .rename_i c r;split at g
   .rename_i u;simp only[AaS,AjK] at g;exact AkB hr hp r u g.1.1.1.1 g.1.1.1.2 g.1.1.2 g.1.2 g.2 M L G B I j
   .cases g
  .cases g
 | slT x hi sz=>
  simp only at g j;obtain⟨J,id,e,es,q,G,B,C,I,Z,h5,rfl⟩:=j;split at g
  .rename_i t x' ab r;simp only[AaS,AjK] at g;obtain⟨⟨⟨k1,k2⟩,k3⟩,k4⟩:=g;obtain⟨e0,aa⟩:=AxV.1 k1;rw[aa] at k2;exact Aqw hr hp r aa k2 k3 k4 M L G B C I Z h5
  .cases g
 | ext x k=>
  simp only at g j;obtain⟨vs,D,j,rfl⟩:=j;split at g
  .rename_i x' k' r;simp only[AaS,AjK] at g;obtain⟨rfl,S⟩:=g;exact AoZ hr hp r S D j
  .cases g
 | call f args=>
  simp only at g j;obtain⟨j,rfl⟩:=j;split at g
  .rename_i c r;split at g
   .rename_i f' u;simp only[AaS,AjK] at g;obtain⟨rfl,S⟩:=g;have:=AU.called (ep:=ep) (d:=d) hp (Eq j.callable r u (F _) w) (by simpa using A S) j (λid e h=>by simp[lk] at h)
    rwa [I0] at this
   .cases g
  .cases g
 | calls f args=>
  simp only at g j;obtain⟨σi,σo,j,U,rfl⟩:=j;split at g
  .rename_i c r;split at g
   .rename_i f' u;simp only[AaS,AjK] at g;obtain⟨rfl,S⟩:=g;exact AU.called hp (Eq j.callable r u (F _) w) (by simpa using A S) j U
   .cases g
  .cases g
 | callr f args=>
  simp only at g j;obtain⟨⟨σi,j,U⟩,rfl⟩:=j;split at g
  .rename_i c r;split at g
   .rename_i f' u;simp only[AaS,AjK] at g;obtain⟨rfl,S⟩:=g;exact AU.eqv (λid=>QK U id) (AU.called hp (Eq j.callable r u (F _) w) (by simpa using A S) j U)
   .cases g
  .cases g
 | calln f args=>
  simp only at g j;obtain⟨J,σi,σo,x,G,j,U,rfl,rfl⟩:=j;split at g
  .rename_i c r;split at g
   .rename_i f' u;simp only[AaS,AjK] at g;obtain⟨rfl,S⟩:=g;exact AU.calledN hp (Eq j.callable r u (F _) w) (by simpa using A S) M L G j U
   .cases g
  .cases g
 | callvs h args=>
  simp only at g j;obtain⟨f,first,caps,σi,σo,eh,j,U,rfl⟩:=j;split at g
  .rename_i c r;split at g
   .rename_i h' u;simp only[AaS] at g;have hh:=Ar hr g.1;rw[eh] at hh;obtain⟨fv,cv,e1,r1,r2⟩:=hh.fn_inv;exact AU.called hp (Eq j.callable r u e1 w) (by simpa using(r1.append (A g.2)).append r2) j U
   .cases g
  .cases g
 | mkfn f first caps=>
  simp only at g j;obtain⟨j,rfl⟩:=j;split at g
  .rename_i f' aj al r;simp only[AaS,AjK] at g;obtain⟨⟨rfl,B⟩,C⟩:=g;exact Akv hr hp r B C j
  .cases g
 | mksl l c z e sz=>
  simp only at g j;obtain⟨J,k,k',p,q,G,el,ec,B,C,I,rfl⟩:=j;split at g
  .rename_i t l' c' r;simp only[AaS,AjK] at g;exact AmJ hr hp r g.1.1.1.1 g.1.1.1.2 g.1.1.2 g.1.2 g.2 M L G el ec B C I
  .cases g
 | mx lo x xs=>
  simp only at g j;obtain⟨j,rfl⟩:=j;split at g
  .rename_i c r;split at g
   .rename_i b u;simp only[AaS,AjK] at g;exact Axt hr hp r u g.1 g.2 j
   .cases g
  .cases g
 | nilck x=>
  simp only at g j;obtain⟨B,j,rfl⟩:=j;split at g
  .rename_i x' r;exact Aen hr hp r g B j
  .cases g
 | pu k xs=>simp only at g j;obtain⟨j,rfl⟩:=j;exact AwH hr hp g j
 | rdm k m xs=>simp only at g j;obtain⟨⟨id,e,R,N,j⟩,rfl⟩:=j;exact AqN hr hp g R N j
 | wrm k m xs=>simp only at g j;obtain⟨id,e,e',R,N,j,rfl⟩:=j;exact Ar9 hr hp g T (λh=>af (by cases k<;>first|rfl|cases h)) R N j
 | mkm k xs=>simp only at g j;obtain⟨J,e,G,j,Y,rfl⟩:=j;exact AtZ hr hp g M L G j Y
 | frz m k=>
  simp only at g j;obtain⟨id,cs,R,N,ac,ad,Y,rfl⟩:=j;split at g
  .rename_i t x' r;simp only[AaS] at g;exact ArU hr hp r g.1 g.2 R N ac ad Y
  .cases g
 | mrange m=>
  simp only at g j;obtain⟨J,mid,es,G,R,N,Y,rfl⟩:=j;split at g
  .rename_i t x' r;simp only[AaS] at g;exact sB hr hp r g.1 g.2 M L G R N Y
  .cases g
 | mentry m=>
  simp only at g j;obtain⟨id,mid,av,seen,i,es,kv,R,N,W,aq,ap,Y,rfl⟩:=j;split at g
  .rename_i x' r;exact xR hr hp r g R N W aq ap Y
  .cases g
end ops
end Go.Ir
end
section
namespace Go.Ir
open Go.RowKit
def J4:X->List Nat
 | .t s=>[s]
 | .c _=>[]
def rdO:Option X->List Nat
 | some x=>J4 x
 | none=>[]
def Lj(xs:List X):List Nat:=xs.flatMap J4
def Bh.rd:Bh->List Nat
 | .mv x|.not x|.neg x|.cvi _ x|.faddr x _|.load x _ _|.box x|.lenS x|.lenL x|.ext x _|.nilck x=>J4 x
 | .pick c a b=>J4 c++J4 a++J4 b
 | .bin _ x y|.eqb _ x y|.iaddr x y _ _|.idx x y|.store x y _|.app x y _ _|.apps x y _|.slT x y _|.mksl x y _ _ _=>J4 x++J4 y
 | .alloc _=>[]
 | .build _ ps=>ps.flatMap λp=>J4 p.2.2
 | .msl _ _ _ xs=>Lj xs
 | .slS x f e|.slL x f e _=>J4 x++rdO f++rdO e
 | .call _ xs|.calls _ xs|.calln _ xs|.callr _ xs=>Lj xs
 | .callvs g xs=>J4 g++Lj xs
 | .mkfn _ xs ys=>Lj xs++Lj ys
 | .mx _ x xs=>J4 x++Lj xs
 | .pu _ xs|.mkm _ xs=>Lj xs
 | .rdm _ m xs|.wrm _ m xs=>J4 m++Lj xs
 | .frz m _|.mrange m|.mentry m=>J4 m
def Bh.sw:Bh->Bool
 | .store ..|.box ..|.alloc ..|.app ..|.apps ..|.slT ..|.calls ..|.calln ..|.callvs ..|.mksl ..|.wrm ..|.mkm ..|.frz ..|.mrange ..|.mentry ..=>true
 | .msl own _ _ _=>own
 | _=>false
def Bh.sr:Bh->Bool
 | .load ..|.iaddr ..|.lenL ..|.rdm ..|.callr ..=>true
 | _=>false
def Bh.mk:Bh->Bool
 | .box ..|.alloc ..|.mksl ..|.mkm ..=>true
 | .msl own _ _ _=>own
 | _=>false
def Bh.ct:Bh->List X
 | .store x _ _|.app x _ _ _|.apps x _ _|.slT x _ _|.wrm _ x _=>[x]
 | _=>[]
def Bh.wr:Bh->Bool
 | .store ..|.app ..|.apps ..|.slT ..|.wrm ..=>true
 | _=>false
def X.same:X->X->Bool
 | .t s,.t b=>s==b
 | _,_=>false
def X.isT:X->Bool
 | .t _=>true
 | .c _=>false
def I.rd0(i:I):List Nat:=i.op.rd++(match i.gd with|some (s,_)=>[s]|none=>[])
def I.rd(i:I):List Nat:=i.rd0++Lj i.ap
def X.notIn(l:List I):X->Bool
 | .t s=>!(l.any λi=>i.dst==some s)
 | .c _=>false
def I.dropd(i:I)(l:List I):I:={ i with ap:=i.ap.filter (X.notIn l) }
def Bh.isR:Bh->Bool
 | .callr ..=>true
 | _=>false
def M7(i j:I):Bool:=
 (match i.dst with
  | some d=>!j.rd0.contains d&&j.dst !=some d
  | none=>true) &&
 (match j.dst with
  | some d=>!i.rd.contains d
  | none=>true) &&
 ((!(i.op.sw&&(j.op.sw||j.op.sr))&&!(j.op.sw&&i.op.sr))||(i.op.mk&&!j.op.cl&&j.op.cs.all X.isT)||(j.op.mk&&!i.op.cl)||(i.op.sr&&!i.op.cl&&j.op.wr&&i.op.cs.all λx=>j.ap.any x.same)||(i.op.wr&&j.op.sr&&!j.op.cl&&j.op.cs.all X.isT&&i.op.ct.all λx=>j.ap.any x.same)||(i.op.sr&&!i.op.cl&&j.op.cl&&i.op.cs.all λx=>j.ap.any x.same)||(j.op.mk&&i.op.isR))
theorem Az{g b x}(h:∀s∈J4 x,g s=b s):ev g x=ev b x:=by
 cases x with
 | t s=>exact h s (by simp[J4])
 | c v=>rfl
theorem Co{g b xs}(h:∀s∈Lj xs,g s=b s):xs.map (ev g)=xs.map (ev b):=
 A0v λx e=>Az λs c=>h s (A1b.2 ⟨x,e,c⟩)
theorem H6{g c b x}(h:∀s∈rdO x,g s=c s):GV g b x=GV c b x:=by
 cases x with
 | none=>rfl
 | some x=>simp only[GV];rw[Az (x:=x) h]
section
variable{P:Program}{O:World}{ep:Nat}
theorem AbF{d:Option Nat}{A:Bh}{g D:Nat->V}{σ σ':Aq}{v:V}(h:∀s∈A.rd,g s=D s)(B:E P O ep d A g σ v σ'):E P O ep d A D σ v σ':=by
 cases A with
 | mv x=>simp only[E,Bh.rd] at *;rwa [<-Az h]
 | not x=>simp only[E,Bh.rd] at *;rwa [<-Az h]
 | neg x=>simp only[E,Bh.rd] at *;rwa [<-Az h]
 | cvi k x=>simp only[E,Bh.rd] at *;rwa [<-Az h]
 | faddr x K=>simp only[E,Bh.rd] at *;rwa [<-Az h]
 | load x n ag=>simp only[E,Bh.rd] at *;rwa [<-Az h]
 | box x=>simp only[E,Bh.rd] at *;rwa [<-Az h]
 | lenS x=>simp only[E,Bh.rd] at *;rwa [<-Az h]
 | lenL x=>simp only[E,Bh.rd] at *;rwa [<-Az h]
 | ext x k=>simp only[E,Bh.rd] at *;rwa [<-Az h]
 | nilck x=>simp only[E,Bh.rd] at *;rwa [<-Az h]
 | alloc z=>exact B
 | pick c x y=>
  simp only[E,Bh.rd,AfJ] at *
  rwa [<-Az (x:=c) λs i=>h s (.inl (.inl i)),<-Az (x:=x) λs i=>h s (.inl (.inr i)),<-Az (x:=y) λs i=>h s (.inr i)]
 | bin A x y=>
  simp only[E,Bh.rd,AfJ] at *
  rwa [<-Az (x:=x) λs i=>h s (.inl i),<-Az (x:=y) λs i=>h s (.inr i)]
 | eqb A x y=>
  simp only[E,Bh.rd,AfJ] at *
  rwa [<-Az (x:=x) λs i=>h s (.inl i),<-Az (x:=y) λs i=>h s (.inr i)]
 | iaddr x y e sz=>
  simp only[E,Bh.rd,AfJ] at *
  rwa [<-Az (x:=x) λs i=>h s (.inl i),<-Az (x:=y) λs i=>h s (.inr i)]
 | idx x y=>
  simp only[E,Bh.rd,AfJ] at *
  rwa [<-Az (x:=x) λs i=>h s (.inl i),<-Az (x:=y) λs i=>h s (.inr i)]
 | store x y n=>
  simp only[E,Bh.rd,AfJ] at *
  rwa [<-Az (x:=x) λs i=>h s (.inl i),<-Az (x:=y) λs i=>h s (.inr i)]
 | app x y e sz=>
  simp only[E,Bh.rd,AfJ] at *
  rwa [<-Az (x:=x) λs i=>h s (.inl i),<-Az (x:=y) λs i=>h s (.inr i)]
 | apps x y e=>
  simp only[E,Bh.rd,AfJ] at *
  rwa [<-Az (x:=x) λs i=>h s (.inl i),<-Az (x:=y) λs i=>h s (.inr i)]
 | mksl x y z e sz=>
  simp only[E,Bh.rd,AfJ] at *
  rwa [<-Az (x:=x) λs i=>h s (.inl i),<-Az (x:=y) λs i=>h s (.inr i)]
 | build z ps=>simp only[E,Bh.rd] at *;have hp:∀p∈ps,ev g p.2.2=ev D p.2.2:=λp hp=>Az λs i=>h s (A1b.2 ⟨p,hp,i⟩);obtain⟨j,⟨cs,t,u⟩,F⟩:=B;refine⟨λp C=>by rw[<-hp p C];exact j p C,⟨cs,?_,u⟩,F⟩;rw[<-t];congr 1;exact A0v λp C=>by rw[hp p C]
 | msl own e sz xs=>simp only[E,Bh.rd] at *;rwa [<-Co h]
 | slS x I G=>simp only[E,Bh.rd,AfJ] at *;obtain⟨l,a,b,j,t,u,r⟩:=B;exact⟨l,a,b,by rw[<-Az λs i=>h s (.inl (.inl i))];exact j,by rw[<-H6 λs i=>h s (.inl (.inr i))];exact t,by rw[<-H6 λs i=>h s (.inr i)];exact u,r⟩
 | slL x I G sz=>simp only[E,Bh.rd,AfJ] at *;obtain⟨l,a,b,j,t,u,r⟩:=B;exact⟨l,a,b,by rw[<-Az λs i=>h s (.inl (.inl i))];exact j,by rw[<-H6 λs i=>h s (.inl (.inr i))];exact t,by rw[<-H6 λs i=>h s (.inr i)];exact u,r⟩
 | slT x G sz=>simp only[E,Bh.rd,AfJ] at *;obtain⟨J,id,e,es,q,j,t,u,F,r⟩:=B;exact⟨J,id,e,es,q,j,by rw[<-Az λs i=>h s (.inl i)];exact t,u,by rw[<-H6 (x:=some G) λs i=>h s (.inr i)];exact F,r⟩
 | call f xs=>simp only[E,Bh.rd] at *;rwa [<-Co h]
 | calls f xs=>simp only[E,Bh.rd] at *;rwa [<-Co h]
 | callr f xs=>simp only[E,Bh.rd] at *;rwa [<-Co h]
 | calln f xs=>simp only[E,Bh.rd] at *;rwa [<-Co h]
 | callvs k xs=>
  simp only[E,Bh.rd,AfJ] at *
  rwa [<-Az (x:=k) λs i=>h s (.inl i),<-Co (xs:=xs) λs i=>h s (.inr i)]
 | mkfn f xs ys=>
  simp only[E,Bh.rd,AfJ] at *
  rwa [<-Co (xs:=xs) λs i=>h s (.inl i),<-Co (xs:=ys) λs i=>h s (.inr i)]
 | mx I x xs=>
  simp only[E,Bh.rd,AfJ] at *
  rwa [<-Az (x:=x) λs i=>h s (.inl i),<-Co (xs:=xs) λs i=>h s (.inr i)]
 | pu k xs=>simp only[E,Bh.rd] at *;rwa [<-Co h]
 | frz m k=>simp only[E,Bh.rd] at *;rwa [<-Az h]
 | mrange m=>simp only[E,Bh.rd] at *;rwa [<-Az h]
 | mentry m=>simp only[E,Bh.rd] at *;rwa [<-Az h]
 | mkm k xs=>simp only[E,Bh.rd] at *;rwa [<-Co h]
 | rdm k x xs=>
  simp only[E,Bh.rd,AfJ] at *
  rwa [<-Az (x:=x) λs i=>h s (.inl i),<-Co (xs:=xs) λs i=>h s (.inr i)]
 | wrm k x xs=>
  simp only[E,Bh.rd,AfJ] at *
  rwa [<-Az (x:=x) λs i=>h s (.inl i),<-Co (xs:=xs) λs i=>h s (.inr i)]
theorem FJ{d e g σ σ' v}(c:e.sw=false)(b:E P O ep d e g σ v σ'):σ'=σ:=by
 cases e<;>simp only[Bh.sw] at c<;>try (cases c;done)
 case pick=>obtain⟨_,_,_,h⟩:=b;exact h
 case eqb=>obtain⟨_,_,_,_,_,h⟩:=b;exact h
 case not=>obtain⟨_,_,_,h⟩:=b;exact h
 case neg=>obtain⟨_,_,_,_,h⟩:=b;exact h
 case cvi=>obtain⟨_,_,_,_,h⟩:=b;exact h
 case idx=>obtain⟨_,_,_,_,_,_,_,_,_,h⟩:=b;exact h
 case build=>exact b.2.2
 case msl=>subst c;simp only[E,Ab7,Ab9] at b;exact b.2.2
 case slS=>obtain⟨_,_,_,_,_,_,_,_,_,h⟩:=b;exact h
 case slL=>obtain⟨_,_,_,_,_,_,_,_,_,_,h⟩:=b;exact h
 case lenS=>obtain⟨_,_,_,h⟩:=b;exact h
 case lenL=>obtain⟨_,_,_,h⟩:=b;exact h
 case ext=>obtain⟨_,_,_,h⟩:=b;exact h
 case nilck=>exact b.2.2
 all_goals exact b.2
theorem T0{d l g σ τ v}(m:l.sw=false)(hr:l.sr=false)(k:E P O ep d l g σ v σ):E P O ep d l g τ v τ:=by
 cases l<;>simp only[Bh.sw,Bh.sr] at m hr<;>(try (cases m;done))<;>(try (cases hr;done))
 case pick=>obtain⟨a,b,c,_⟩:=k;exact⟨a,b,c,rfl⟩
 case eqb=>obtain⟨a,b,c,d,e,_⟩:=k;exact⟨a,b,c,d,e,rfl⟩
 case not=>obtain⟨a,b,c,_⟩:=k;exact⟨a,b,c,rfl⟩
 case neg=>obtain⟨a,b,c,d,_⟩:=k;exact⟨a,b,c,d,rfl⟩
 case cvi=>obtain⟨a,b,c,d,_⟩:=k;exact⟨a,b,c,d,rfl⟩
 case idx=>obtain⟨a,b,c,d,e,f,g,h,i,_⟩:=k;exact⟨a,b,c,d,e,f,g,h,i,rfl⟩
 case build=>exact⟨k.1,k.2.1,rfl⟩
 case msl=>subst m;simp only[E,Ab7,Ab9] at k⊢;exact⟨k.1,k.2.1,trivial⟩
 case slS=>obtain⟨a,b,c,d,e,f,g,h,i,_⟩:=k;exact⟨a,b,c,d,e,f,g,h,i,rfl⟩
 case slL=>obtain⟨a,b,c,d,e,f,g,h,i,j,_⟩:=k;exact⟨a,b,c,d,e,f,g,h,i,j,rfl⟩
 case lenS=>obtain⟨a,b,c,_⟩:=k;exact⟨a,b,c,rfl⟩
 case ext=>obtain⟨a,b,c,_⟩:=k;exact⟨a,b,c,rfl⟩
 case nilck=>exact⟨k.1,k.2.1,rfl⟩
 all_goals exact⟨k.1,rfl⟩
theorem Agj{b:Bh}{s}(h:X.t s∈b.cs):s∈b.rd:=by
 cases b<;>simp only[Bh.cs,Ahk,AzL,or_false] at h<;>(try (exact h.elim))<;>simp only[Bh.rd,AfJ]
 case load=>subst h;simp[J4]
 case lenL=>subst h;simp[J4]
 case iaddr=>subst h;simp[J4]
 case store=>subst h;simp[J4]
 case app=>rcases h with h|h<;>subst h<;>simp[J4]
 case apps=>subst h;simp[J4]
 case slT=>subst h;simp[J4]
 case rdm=>subst h;simp[J4]
 case wrm=>subst h;simp[J4]
 case frz=>subst h;simp[J4]
 case mrange=>subst h;simp[J4]
 case mentry=>subst h;simp[J4]
def Dz(P:Program)(O:World)(ep:Nat)(i:I)(g:Nat->V)(σ:Aq)(v:V)(σ':Aq):Prop:=
 match i.gd with
 | none=>EA P O ep i g σ v σ'
 | some (s,c)=>
  match g s with
  | .b t=>if t=c then EA P O ep i g σ v σ' else v=.tup []/\σ'=σ
  | .tup []=>v=.tup []/\σ'=σ
  | _=>False
theorem CL{i env σ K}:Dh P O ep i env σ K↔∃v σ',Dz P O ep i (get env) σ v σ'/\K (put env i.dst v) σ':=by
 unfold Dh Dz;cases i.gd with
 | none=>exact Iff.rfl
 | some sw=>grind
theorem UI{i g e σ σ' v}(h:∀s∈i.op.rd,g s=e s)(p:∀s∈Lj i.ap,g s=e s)(m:EA P O ep i g σ v σ'):EA P O ep i e σ v σ':=by
 refine⟨AbF h m.1,λx f y q id l=>?_,λu x f id l=>?_⟩;rotate_left
 .have j:ev g x=ev e x:=Az λs b=>p s (A1b.2 ⟨x,f,b⟩);exact m.2.2 u x f id (by rw[j];exact l)
 have j:ev g x=ev e x:=Az λs b=>p s (A1b.2 ⟨x,f,b⟩);have r:ev g y=ev e y:=Az λs b=>h s (by
  cases y with
  | c v=>simp[J4] at b
  | t k=>simp only[J4,AzE] at b;subst b;exact Agj q)
 rw[<-r];exact m.2.1 x f y q id (by rw[j];exact l)
theorem I4{i g c σ σ' v}(h:∀s∈i.rd,g s=c s)(e:Dz P O ep i g σ v σ'):Dz P O ep i c σ v σ':=by
 unfold Dz at *;unfold I.rd I.rd0 at h;cases f:i.gd with
 | none=>simp only[f,At9,AfJ] at *;exact UI (λs b=>h s (.inl b)) (λs b=>h s (.inr b)) e
 | some sw=>have ⟨s,want⟩:=sw;simp only[f,AfJ,AzE] at *;have j:∀{v σ'},EA P O ep i g σ v σ'->EA P O ep i c σ v σ':=λe=>UI (λs b=>h s (.inl (.inl b))) (λs b=>h s (.inr b)) e;grind
theorem IJ{i g σ σ' v}(c:i.op.sw=false)(b:Dz P O ep i g σ v σ'):σ'=σ:=by
 unfold Dz at b;split at b
 .exact FJ c b.1
 .split at b
  .split at b
   .exact FJ c b.1
   .exact b.2
  .exact b.2
  .exact b.elim
theorem tP{b:Bh}(c:b.sw=false)(hr:b.sr=false):b.cl=false:=by cases b<;>simp only[Bh.sw,Bh.sr] at c hr<;>(try (cases c;done))<;>(try (cases hr;done))<;>rfl
theorem D9{i g σ σ'}(h:i.op.cl=false):LQ i g σ σ':=λb=>by grind
theorem Q7{i g σ τ v}(c:i.op.sw=false)(hr:i.op.sr=false)(b:Dz P O ep i g σ v σ):Dz P O ep i g τ v τ:=by
 unfold Dz at *;split at b
 .exact⟨T0 c hr b.1,b.2.1,D9 (tP c hr)⟩
 .split at b
  .split at b
   .rename_i f e;simp only[Amm e];exact⟨T0 c hr b.1,b.2.1,D9 (tP c hr)⟩
   grind
  .exact⟨b.1,rfl⟩
  .exact b
def DP(σ τ:Aq):Prop:=∀id,lk σ id=lk τ id
theorem DP.refl σ:DP σ σ:=λ_=>rfl
theorem DP.symm{σ τ}(h:DP σ τ):DP τ σ:=λid=>(h id).symm
theorem DP.trans{σ τ ρ}(h:DP σ τ)(k:DP τ ρ):DP σ ρ:=λid=>(h id).trans (k id)
theorem DP.cons{σ τ}(h:DP σ τ) p:DP (p::σ) (p::τ):=by intro id;have ⟨k,e⟩:=p;simp only[lk,h id]
theorem DP.upd{σ τ}(h:DP σ τ){id x}(b:lk σ id=some x) e:DP (upd σ id e) (upd τ id e):=by intro k;rw[Fy b,Fy (by rw[<-h id];exact b),h k]
theorem DP.del{σ τ}(h:DP σ τ) id:DP (del σ id) (del τ id):=by intro k;rw[DE,DE,h k]
theorem DP.over{σi σo σ τ}(h:DP σ τ):DP (over σi σo σ) (over σi σo τ):=by intro k;rw[Ij,Ij,h k]
theorem DP.elems{σ τ}(h:DP σ τ) v:AE σ v=AE τ v:=by cases v<;>simp only[AE,h _]
theorem Bz{σ:Aq}{p q:Id×AP}(h:p.1≠q.1):DP (p::q::σ) (q::p::σ):=by intro id;grind[lk]
theorem Jf{σ p id x e}(b:lk σ id=some x)(h:p.1≠id):DP (upd (p::σ) id e) (p::upd σ id e):=by intro k;have ⟨k0,e0⟩:=p;simp only[upd,AfL h]
theorem GB{σ:Aq}{p id}(h:p.1≠id):DP (del (p::σ) id) (p::del σ id):=by intro k;have ⟨k0,e0⟩:=p;simp only[del,AfL h]
theorem ER{σ:Aq}{p id}(h:p.1≠id):lk (p::σ) id=lk σ id:=by grind[lk]
theorem AtN{d I g σ σ' τ v}(t:DP σ τ)(y:E P O ep d I g σ v σ'):∃N,E P O ep d I g τ v N/\DP σ' N:=by
 by_cases J:I.sw=false
 .have L:=FJ J y;subst L;by_cases hr:I.sr=false
  .exact⟨τ,T0 J hr y,t⟩
  .refine⟨τ,?_,t⟩
   replace hr:I.sr=true:=by simpa using hr
   cases I<;>simp only[Bh.sr] at hr<;>(try (cases hr;done))
   case iaddr x i e sz=>
    simp only[E] at y⊢;refine⟨?_,by trivial⟩;have j:=y.1;split at j
    .rename_i k n Y;refine⟨j.1,?_⟩;have p:=j.2;split at p
     .rename_i C;(try simp only[C]);exact p
     .rename_i C;(try simp only[C]);obtain⟨a,b,c,r⟩:=p;exact⟨a,b,by rw[<-t];exact c,r⟩
     .exact p.elim
    .exact j.elim
   case load x n ag=>
    simp only[E] at y⊢;refine⟨?_,by trivial⟩;have j:=y.1;split at j
    .rename_i C;(try simp only[C]);obtain⟨a,b,r⟩:=j;exact⟨a,by rw[<-t];exact b,r⟩
    .rename_i C;(try simp only[C]);obtain⟨a,b,c,e,r⟩:=j;exact⟨a,b,c,by rw[<-t];exact e,r⟩
    .rename_i C;(try simp only[C]);exact j
    .exact j.elim
   case lenL x=>simp only[E] at y⊢;obtain⟨es,j,p,_⟩:=y;exact⟨es,by rw[<-t.elems];exact j,p,by trivial⟩
   case rdm k m xs=>simp only[E] at y⊢;obtain⟨⟨id,e,j,p,A⟩,_⟩:=y;exact⟨⟨id,e,j,by rw[<-t];exact p,A⟩,by trivial⟩
   case callr f args=>simp only[E] at y⊢;obtain⟨⟨σi,j,p⟩,_⟩:=y;exact⟨⟨σi,j,λid e h=>by rw[<-t];exact p id e h⟩,by trivial⟩
 .replace J:I.sw=true:=by simpa using J
  cases I<;>simp only[Bh.sw] at J<;>(try (cases J;done))
  case store a x n=>
   simp only[E] at y⊢;obtain⟨j,p,A⟩:=y;split at A
   .rename_i id S C;obtain⟨u,X,G,a2,rfl⟩:=A;exact⟨_,⟨j,p,by(try simp only[C]);exact⟨u,X,by rw[<-t];exact G,a2,rfl⟩⟩,t.upd G _⟩
   .rename_i id Z sz S C;obtain⟨e,es,T,R,G,a2,a3,rfl⟩:=A;exact⟨_,⟨j,p,by(try simp only[C]);exact⟨e,es,T,R,by rw[<-t];exact G,a2,a3,rfl⟩⟩,t.upd G _⟩
   .exact A.elim
  case box x=>obtain⟨B,j,p,A,rfl⟩:=y;exact⟨_,⟨B,j,p,A,rfl⟩,t.cons _⟩
  case alloc z=>obtain⟨B,j,p,rfl⟩:=y;exact⟨_,⟨B,j,p,rfl⟩,t.cons _⟩
  case msl own e sz xs=>
   cases own with
   | false=>cases J
   | true=>simp only[E,AbA] at y⊢;obtain⟨j,B,p,A,rfl⟩:=y;exact⟨_,⟨j,B,p,A,rfl⟩,t.cons _⟩
  case app s x e sz=>
   simp only[E] at y⊢;obtain⟨B,xs,j,p,A,F,D⟩:=y;split at D
   .rename_i C;obtain⟨G,rfl⟩:=D;exact⟨_,⟨B,xs,j,by rw[<-t.elems];exact p,A,F,by(try simp only[C]);exact⟨G,by trivial⟩⟩,t.cons _⟩
   .rename_i id C;obtain⟨es,G,a2,rfl⟩:=D;exact⟨_,⟨B,xs,j,by rw[<-t.elems];exact p,A,F,by(try simp only[C]);exact⟨es,by rw[<-t];exact G,a2,rfl⟩⟩,(t.del id).cons _⟩
   .exact D.elim
  case slT x hi sz=>obtain⟨B,id,e,es,q,j,p,A,F,D,M,rfl⟩:=y;exact⟨_,⟨B,id,e,es,q,j,p,by rw[<-t];exact A,F,D,M,rfl⟩,(t.del id).cons _⟩
  case apps s x e=>
   simp only[E] at y⊢;obtain⟨B,l,j,p,F,D⟩:=y;split at D
   .rename_i C;obtain⟨G,rfl⟩:=D;exact⟨_,⟨B,l,j,p,F,by(try simp only[C]);exact⟨G,by trivial⟩⟩,t.cons _⟩
   .rename_i id C;obtain⟨es,G,a2,rfl⟩:=D;exact⟨_,⟨B,l,j,p,F,by(try simp only[C]);exact⟨es,by rw[<-t];exact G,a2,rfl⟩⟩,(t.del id).cons _⟩
   .exact D.elim
  case calls f args=>obtain⟨σi,σo,j,p,rfl⟩:=y;exact⟨_,⟨σi,σo,j,λid e h=>by rw[<-t];exact p id e h,rfl⟩,t.over⟩
  case calln f args=>obtain⟨B,σi,σo,x,L,j,p,A,rfl⟩:=y;exact⟨_,⟨B,σi,σo,x,L,j,λid e h=>by rw[<-t];exact p id e h,A,rfl⟩,t.over.cons _⟩
  case callvs k args=>obtain⟨f,first,caps,σi,σo,L,j,p,rfl⟩:=y;exact⟨_,⟨f,first,caps,σi,σo,L,j,λid e h=>by rw[<-t];exact p id e h,rfl⟩,t.over⟩
  case mksl l c z e sz=>obtain⟨B,k,U,n,m,j,p,A,F,D,M,rfl⟩:=y;exact⟨_,⟨B,k,U,n,m,j,p,A,F,D,M,rfl⟩,t.cons _⟩
  case wrm k m xs=>obtain⟨id,e,e',j,p,A,rfl⟩:=y;exact⟨_,⟨id,e,e',j,by rw[<-t];exact p,A,rfl⟩,t.upd p _⟩
  case mkm k xs=>obtain⟨B,e,j,p,A,rfl⟩:=y;exact⟨_,⟨B,e,j,p,A,rfl⟩,t.cons _⟩
  case frz m k=>obtain⟨id,cs,j,p,A,F,D,rfl⟩:=y;exact⟨_,⟨id,cs,j,by rw[<-t];exact p,A,F,D,rfl⟩,t.del id⟩
  case mrange m=>obtain⟨B,mid,es,j,p,A,F,rfl⟩:=y;exact⟨_,⟨B,mid,es,j,p,by rw[<-t];exact A,F,rfl⟩,t.cons _⟩
  case mentry m=>obtain⟨id,mid,K,seen,i,es,W,j,p,A,F,D,M,rfl⟩:=y;exact⟨_,⟨id,mid,K,seen,i,es,W,j,by rw[<-t];exact p,A,by rw[<-t];exact F,D,M,rfl⟩,t⟩
theorem Ar7{d:Option Nat}{L:Bh}{g:Nat->V}{σ σ':Aq}{v:V}{I:Id}{e0:AP}(N:L.cl=false)(M:lk σ I=none)(D:∀y,d=some y->I≠(ep,y))(B:E P O ep d L g σ v σ') :
  ∃T,E P O ep d L g ((I,e0)::σ) v T/\DP T ((I,e0)::σ'):=by
 have K:∀{id x},lk σ id=some x->lk ((I,e0)::σ) id=some x:=by intro id x h;rw[ER (p:=(I,e0)) (by rintro rfl;rw[M] at h;cases h)];exact h
 have S:∀{w es},AE σ w=some es->AE ((I,e0)::σ) w=some es:=by
  intro w es h;cases w<;>simp only[AE] at h⊢<;>try exact h
  rename_i id;split at h
  .rename_i Z;rw[K Z];exact h
  .cases h
 by_cases R:L.sw=false
 .have Y:=FJ R B;subst Y;by_cases hr:L.sr=false
  .exact⟨_,T0 R hr B,DP.refl _⟩
  .refine⟨_,?_,DP.refl _⟩
   replace hr:L.sr=true:=by simpa using hr
   cases L<;>simp only[Bh.sr] at hr<;>(try (cases hr;done))
   case iaddr x i e sz=>
    simp only[E] at B⊢;refine⟨?_,by trivial⟩;have j:=B.1;split at j
    .rename_i k n hk;refine⟨j.1,?_⟩;have t:=j.2;split at t
     .rename_i F;(try simp only[F]);exact t
     .rename_i F;(try simp only[F]);obtain⟨a,b,c,r⟩:=t;exact⟨a,b,K c,r⟩
     .exact t.elim
    .exact j.elim
   case load x n ag=>
    simp only[E] at B⊢;refine⟨?_,by trivial⟩;have j:=B.1;split at j
    .rename_i F;(try simp only[F]);obtain⟨a,b,r⟩:=j;exact⟨a,K b,r⟩
    .rename_i F;(try simp only[F]);obtain⟨a,b,c,e,r⟩:=j;exact⟨a,b,c,K e,r⟩
    .rename_i F;(try simp only[F]);exact j
    .exact j.elim
   case lenL x=>simp only[E] at B⊢;obtain⟨es,j,t,_⟩:=B;exact⟨es,S j,t,by trivial⟩
   case rdm k m xs=>simp only[E] at B⊢;obtain⟨⟨id,e,j,t,A⟩,_⟩:=B;exact⟨⟨id,e,j,K t,A⟩,by trivial⟩
   case callr f args=>simp[Bh.cl] at N
 .replace R:L.sw=true:=by simpa using R
  cases L<;>simp only[Bh.sw] at R<;>(try (cases R;done))<;>simp only[Bh.cl] at N<;>(try (cases N;done))
  case store a x n=>
   simp only[E] at B⊢;obtain⟨j,t,A⟩:=B;split at A
   .rename_i id X F;obtain⟨u,u',C,a2,rfl⟩:=A;exact⟨_,⟨j,t,by(try simp only[F]);exact⟨u,u',K C,a2,rfl⟩⟩,Jf C (by rintro rfl;simp only at C;rw[M] at C;cases C)⟩
   .rename_i id ix sz X F;obtain⟨e,es,S,U,C,a2,a3,rfl⟩:=A;exact⟨_,⟨j,t,by(try simp only[F]);exact⟨e,es,S,U,K C,a2,a3,rfl⟩⟩,Jf C (by rintro rfl;simp only at C;rw[M] at C;cases C)⟩
   .exact A.elim
  case box x=>obtain⟨y,j,t,A,rfl⟩:=B;exact⟨_,⟨y,j,t,A,rfl⟩,Bz (λh=>D y j h.symm)⟩
  case alloc z=>obtain⟨y,j,t,rfl⟩:=B;exact⟨_,⟨y,j,t,rfl⟩,Bz (λh=>D y j h.symm)⟩
  case msl own e sz xs=>
   cases own with
   | false=>cases R
   | true=>simp only[E,AbA] at B⊢;obtain⟨j,y,t,A,rfl⟩:=B;exact⟨_,⟨j,y,t,A,rfl⟩,Bz (λh=>D y t h.symm)⟩
  case app s x e sz=>
   simp only[E] at B⊢;obtain⟨y,xs,j,t,A,J,G⟩:=B;split at G
   .rename_i F;obtain⟨C,rfl⟩:=G;exact⟨_,⟨y,xs,j,S t,A,J,by(try simp only[F]);exact⟨C,by trivial⟩⟩,Bz (λh=>D y j h.symm)⟩
   .rename_i id F;obtain⟨es,C,a2,rfl⟩:=G;refine⟨_,⟨y,xs,j,S t,A,J,by(try simp only[F]);exact⟨es,K C,a2,rfl⟩⟩,?_⟩;exact((GB (by rintro rfl;simp only at C;rw[M] at C;cases C)).cons _).trans (Bz (λh=>D y j h.symm))
   .exact G.elim
  case slT x hi sz=>obtain⟨y,id,e,es,q,j,t,A,J,G,W,rfl⟩:=B;exact⟨_,⟨y,id,e,es,q,j,t,K A,J,G,W,rfl⟩,((GB (by rintro rfl;simp only at A;rw[M] at A;cases A)).cons _).trans (Bz (λh=>D y j h.symm))⟩
  case apps s x e=>
   simp only[E] at B⊢;obtain⟨y,l,j,t,J,G⟩:=B;split at G
   .rename_i F;obtain⟨C,rfl⟩:=G;exact⟨_,⟨y,l,j,t,J,by(try simp only[F]);exact⟨C,by trivial⟩⟩,Bz (λh=>D y j h.symm)⟩
   .rename_i id F;obtain⟨es,C,a2,rfl⟩:=G;refine⟨_,⟨y,l,j,t,J,by(try simp only[F]);exact⟨es,K C,a2,rfl⟩⟩,?_⟩;exact((GB (by rintro rfl;simp only at C;rw[M] at C;cases C)).cons _).trans (Bz (λh=>D y j h.symm))
   .exact G.elim
  case mksl l c z e sz=>obtain⟨y,k,k',n,m,j,t,A,J,G,W,rfl⟩:=B;exact⟨_,⟨y,k,k',n,m,j,t,A,J,G,W,rfl⟩,Bz (λh=>D y j h.symm)⟩
  case wrm k m xs=>obtain⟨id,e,e',j,t,A,rfl⟩:=B;exact⟨_,⟨id,e,e',j,K t,A,rfl⟩,Jf t (by rintro rfl;simp only at t;rw[M] at t;cases t)⟩
  case frz m k=>obtain⟨id,cs,j,t,A,J,G,rfl⟩:=B;exact⟨_,⟨id,cs,j,K t,A,J,G,rfl⟩,GB (by rintro rfl;simp only at t;rw[M] at t;cases t)⟩
  case mrange m=>obtain⟨y,mid,es,j,t,A,J,rfl⟩:=B;exact⟨_,⟨y,mid,es,j,t,K A,J,rfl⟩,Bz (λh=>D y j h.symm)⟩
  case mkm k xs=>obtain⟨y,e,j,t,A,rfl⟩:=B;exact⟨_,⟨y,e,j,t,A,rfl⟩,Bz (λh=>D y j h.symm)⟩
theorem Ap1{d:Option Nat}{S:Bh}{g:Nat->V}{σ X:Aq}{v:V}{A:Id}{e0:AP}(T:S.cl=false)(hf:lk σ A=none)(G:∀x∈S.cs,C3 (ev g x)≠some A)(J:∀B,d=some B->A≠(ep,B))(D:E P O ep d S g ((A,e0)::σ) v X) :
  ∃σ',E P O ep d S g σ v σ'/\DP X ((A,e0)::σ'):=by
 have K:∀{id x},id≠A->lk ((A,e0)::σ) id=some x->lk σ id=some x:=by
  intro id x C h
  rwa [ER (p:=(A,e0)) (λh=>C h.symm)] at h
 have W:∀{w es},C3 w≠some A->AE ((A,e0)::σ) w=some es->AE σ w=some es:=by
  intro w es C h;cases w<;>simp only[AE] at h⊢<;>try exact h
  rename_i id;split at h
  .rename_i hl;rw[K (by rintro rfl;exact C rfl) hl];exact h
  .cases h
 by_cases U:S.sw=false
 .have h0:=FJ U D;subst h0;by_cases hr:S.sr=false
  .exact⟨_,T0 U hr D,DP.refl _⟩
  .refine⟨_,?_,DP.refl _⟩
   replace hr:S.sr=true:=by simpa using hr
   cases S<;>simp only[Bh.sr] at hr<;>(try (cases hr;done))
   case iaddr x i e sz=>
    simp only[E] at D⊢;have j:=G x (by simp[Bh.cs]);refine⟨?_,by trivial⟩;have t:=D.1;split at t
    .rename_i k n hk;refine⟨t.1,?_⟩;have y:=t.2;split at y
     .rename_i I;(try simp only[I]);exact y
     .rename_i I;simp only[I] at j;obtain⟨a,b,c,r⟩:=y;exact⟨a,b,K (by rintro rfl;exact j rfl) c,r⟩
     .exact y.elim
    .exact t.elim
   case load x n ag=>
    simp only[E] at D⊢;have j:=G x (by simp[Bh.cs]);refine⟨?_,by trivial⟩;have t:=D.1;split at t
    .rename_i I;simp only[I] at j;obtain⟨a,b,r⟩:=t;exact⟨a,K (by rintro rfl;exact j rfl) b,r⟩
    .rename_i I;simp only[I] at j;obtain⟨a,b,c,e,r⟩:=t;exact⟨a,b,c,K (by rintro rfl;exact j rfl) e,r⟩
    .rename_i I;(try simp only[I]);exact t
    .exact t.elim
   case lenL x=>simp only[E] at D⊢;have j:=G x (by simp[Bh.cs]);obtain⟨es,t,y,_⟩:=D;exact⟨es,W j t,y,by trivial⟩
   case rdm k m xs=>simp only[E] at D⊢;have j:=G m (by simp[Bh.cs]);obtain⟨⟨id,e,t,y,F⟩,_⟩:=D;rw[t] at j;exact⟨⟨id,e,t,K (by rintro rfl;exact j rfl) y,F⟩,by trivial⟩
   case callr f args=>simp[Bh.cl] at T
 .replace U:S.sw=true:=by simpa using U
  cases S<;>simp only[Bh.sw] at U<;>(try (cases U;done))<;>simp only[Bh.cl] at T<;>(try (cases T;done))
  case store a x n=>
   simp only[E] at D⊢;have j:=G a (by simp[Bh.cs]);obtain⟨t,y,F⟩:=D;split at F
   .rename_i id aa I;simp only[I] at j;obtain⟨u,u',M,a2,rfl⟩:=F;have C:id≠A:=by rintro rfl;exact j rfl
    exact⟨_,⟨t,y,by(try simp only[I]);exact⟨u,u',K C M,a2,rfl⟩⟩,Jf (K C M) (λh=>C h.symm)⟩
   .rename_i id ix sz aa I;simp only[I] at j;obtain⟨e,es,W,Y,M,a2,a3,rfl⟩:=F;have C:id≠A:=by rintro rfl;exact j rfl
    exact⟨_,⟨t,y,by(try simp only[I]);exact⟨e,es,W,Y,K C M,a2,a3,rfl⟩⟩,Jf (K C M) (λh=>C h.symm)⟩
   .exact F.elim
  case box x=>obtain⟨B,t,y,F,rfl⟩:=D;exact⟨_,⟨B,t,y,F,rfl⟩,Bz (λh=>J B t h.symm)⟩
  case alloc z=>obtain⟨B,t,y,rfl⟩:=D;exact⟨_,⟨B,t,y,rfl⟩,Bz (λh=>J B t h.symm)⟩
  case msl own e sz xs=>
   cases own with
   | false=>cases U
   | true=>simp only[E,AbA] at D⊢;obtain⟨t,B,y,F,rfl⟩:=D;exact⟨_,⟨t,B,y,F,rfl⟩,Bz (λh=>J B y h.symm)⟩
  case app s x e sz=>
   simp only[E] at D⊢;have R:=G s (by simp[Bh.cs]);have j:=G x (by simp[Bh.cs]);obtain⟨B,xs,t,y,F,N,L⟩:=D;split at L
   .rename_i I;obtain⟨M,rfl⟩:=L;exact⟨_,⟨B,xs,t,W j y,F,N,by(try simp only[I]);exact⟨M,by trivial⟩⟩,Bz (λh=>J B t h.symm)⟩
   .rename_i id I;simp only[I] at R;have C:id≠A:=by rintro rfl;exact R rfl
    obtain⟨es,M,a2,rfl⟩:=L;refine⟨_,⟨B,xs,t,W j y,F,N,by(try simp only[I]);exact⟨es,K C M,a2,rfl⟩⟩,?_⟩;exact((GB (λh=>C h.symm)).cons _).trans (Bz (λh=>J B t h.symm))
   .exact L.elim
  case slT x hi sz=>
   have j:=G x (by simp[Bh.cs]);obtain⟨B,id,e,es,q,t,y,F,N,L,Z,rfl⟩:=D;rw[y] at j;have C:id≠A:=by rintro rfl;exact j rfl
   exact⟨_,⟨B,id,e,es,q,t,y,K C F,N,L,Z,rfl⟩,((GB (λh=>C h.symm)).cons _).trans (Bz (λh=>J B t h.symm))⟩
  case apps s x e=>
   simp only[E] at D⊢;have R:=G s (by simp[Bh.cs]);obtain⟨B,l,t,y,N,L⟩:=D;split at L
   .rename_i I;obtain⟨M,rfl⟩:=L;exact⟨_,⟨B,l,t,y,N,by(try simp only[I]);exact⟨M,by trivial⟩⟩,Bz (λh=>J B t h.symm)⟩
   .rename_i id I;simp only[I] at R;have C:id≠A:=by rintro rfl;exact R rfl
    obtain⟨es,M,a2,rfl⟩:=L;refine⟨_,⟨B,l,t,y,N,by(try simp only[I]);exact⟨es,K C M,a2,rfl⟩⟩,?_⟩;exact((GB (λh=>C h.symm)).cons _).trans (Bz (λh=>J B t h.symm))
   .exact L.elim
  case mksl l c z e sz=>obtain⟨B,k,k',n,m,t,y,F,N,L,Z,rfl⟩:=D;exact⟨_,⟨B,k,k',n,m,t,y,F,N,L,Z,rfl⟩,Bz (λh=>J B t h.symm)⟩
  case wrm k m xs=>
   have j:=G m (by simp[Bh.cs]);obtain⟨id,e,e',t,y,F,rfl⟩:=D;rw[t] at j;have C:id≠A:=by rintro rfl;exact j rfl
   exact⟨_,⟨id,e,e',t,K C y,F,rfl⟩,Jf (K C y) (λh=>C h.symm)⟩
  case frz m k=>
   have j:=G m (by simp[Bh.cs]);obtain⟨id,cs,t,y,F,N,L,rfl⟩:=D;rw[t] at j;have C:id≠A:=by rintro rfl;exact j rfl
   exact⟨_,⟨id,cs,t,K C y,F,N,L,rfl⟩,GB (λh=>C h.symm)⟩
  case mrange m=>
   have j:=G m (by simp[Bh.cs]);obtain⟨B,mid,es,t,y,F,N,rfl⟩:=D;rw[y] at j;have C:mid≠A:=by rintro rfl;exact j rfl
   exact⟨_,⟨B,mid,es,t,y,K C F,N,rfl⟩,Bz (λh=>J B t h.symm)⟩
  case mkm k xs=>obtain⟨B,e,t,y,F,rfl⟩:=D;exact⟨_,⟨B,e,t,y,F,rfl⟩,Bz (λh=>J B t h.symm)⟩
theorem P0{b:Bh}(h:b.mk=true):b.cl=false:=by cases b<;>simp only[Bh.mk] at h<;>(try (cases h;done))<;>rfl
theorem Nh{d p g σ σ' v}(q:p.mk=true)(j:E P O ep d p g σ v σ') :
  ∃b e,d=some b/\σ'=((ep,b),e)::σ/\∀τ,E P O ep d p g τ v (((ep,b),e)::τ):=by
 cases p<;>simp only[Bh.mk] at q<;>(try (cases q;done))
 case box x=>obtain⟨b,f,h,i,rfl⟩:=j;exact⟨b,_,f,rfl,λτ=>⟨b,f,h,i,rfl⟩⟩
 case alloc z=>obtain⟨b,f,h,rfl⟩:=j;exact⟨b,_,f,rfl,λτ=>⟨b,f,h,rfl⟩⟩
 case msl own e sz xs=>subst q;simp only[E,AbA] at j⊢;obtain⟨f,b,h,i,rfl⟩:=j;simp_all
 case mksl l c z e sz=>obtain⟨b,k,u,n,m,f,h,i,r,s,t,rfl⟩:=j;exact⟨b,_,f,rfl,λτ=>⟨b,k,u,n,m,f,h,i,r,s,t,rfl⟩⟩
 case mkm k xs=>obtain⟨b,e,f,h,i,rfl⟩:=j;exact⟨b,_,f,rfl,λτ=>⟨b,e,f,h,i,rfl⟩⟩
theorem Ii{σi σo σ id}(g:∀id e,lk σi id=some e->lk σ id=some e)(b:∀id,lk σo id≠none->lk σi id≠none)(h:lk σ id=none):lk (over σi σo σ) id=none:=by
 rw[Ij];cases f:lk σo id with
 | none=>grind
 | some x=>
  exfalso;cases c:lk σi id with
  | none=>grind
  | some y=>grind
theorem Ady{d D g σ σ' v id}(h:lk σ id=none)(I:∀r,d=some r->id≠(ep,r))(j:E P O ep d D g σ v σ'):lk σ' id=none:=by
 have cons:∀{r:Nat} {e:AP} {τ:Aq},d=some r->lk τ id=none->lk (((ep,r),e)::τ) id=none:=by intro r e τ G N;rw[ER (p:=((ep,r),e)) (λh=>I r G h.symm)];exact N
 by_cases B:D.sw=false
 .rw[FJ B j];exact h
 .replace B:D.sw=true:=by simpa using B
  by_cases F:D.mk=true
  .obtain⟨r,e,G,rfl,_⟩:=Nh F j;exact cons G h
  .cases D<;>simp only[Bh.sw] at B<;>(try (cases B;done))<;>simp only[Bh.mk] at F<;>(try (exact absurd trivial F))
   case store a x n=>
    simp only[E] at j;obtain⟨b,c,z⟩:=j;split at z
    .obtain⟨u,T,t,a2,rfl⟩:=z;rw[Fy t];split
     .rename_i A;rw[A] at t;rw[h] at t;cases t
     .exact h
    .obtain⟨e,es,R,L,t,a2,a3,rfl⟩:=z;rw[Fy t];split
     .rename_i A;rw[A] at t;rw[h] at t;cases t
     .exact h
    .exact z.elim
   case msl own e sz xs=>subst B;simp at F
   case app s x e sz=>
    simp only[E] at j;obtain⟨r,xs,b,c,z,C,y⟩:=j;split at y
    .obtain⟨t,rfl⟩:=y;exact cons b h
    .obtain⟨es,t,a2,rfl⟩:=y;refine cons b ?_;rw[DE];split<;>first|rfl|exact h
    .exact y.elim
   case slT x hi sz=>obtain⟨r,id,e,es,q,b,c,z,C,y,M,rfl⟩:=j;refine cons b ?_;rw[DE];split<;>first|rfl|exact h
   case apps s x e=>
    simp only[E] at j;obtain⟨r,l,b,c,C,y⟩:=j;split at y
    .obtain⟨t,rfl⟩:=y;exact cons b h
    .obtain⟨es,t,a2,rfl⟩:=y;refine cons b ?_;rw[DE];split<;>first|rfl|exact h
    .exact y.elim
   case calls f args=>obtain⟨σi,σo,b,c,rfl⟩:=j;exact Ii c b.dom h
   case calln f args=>obtain⟨r,σi,σo,x,A,b,c,z,rfl⟩:=j;exact cons A (Ii c b.dom h)
   case callvs k args=>obtain⟨f,first,caps,σi,σo,A,b,c,rfl⟩:=j;exact Ii c b.dom h
   case wrm k m xs=>
    obtain⟨J,e,e',b,c,z,rfl⟩:=j;rw[Fy c];split
    .rename_i A;rw[A] at c;rw[h] at c;cases c
    .exact h
   case frz m k=>
    obtain⟨J,cs,b,c,z,C,y,rfl⟩:=j;rw[DE];split
    .rfl
    .exact h
   case mrange m=>obtain⟨r,mid,es,b,c,z,C,rfl⟩:=j;exact cons b h
   case mentry m=>obtain⟨id,mid,K,seen,i,es,S,b,c,z,C,y,M,rfl⟩:=j;exact h
theorem B3{i:I}{g:Nat->V}{σ σ':Aq}{v:V}(c:Dz P O ep i g σ v σ') :
  (EA P O ep i g σ v σ'/\∀{τ τ' u},E P O ep i.dst i.op g τ u τ'->LQ i g τ τ'->Dz P O ep i g τ u τ')\/(v=.tup []/\σ'=σ/\∀τ,Dz P O ep i g τ (.tup []) τ):=by
 unfold Dz at *;cases e:i.gd with
 | none=>simp only[e] at *;exact .inl ⟨c,λh k=>⟨h,c.2.1,k⟩⟩
 | some sw=>
  have ⟨s,want⟩:=sw;simp only[e] at *;cases f:g s with
  | b t=>
   simp only[f] at *;by_cases j:t=want
   .simp only[j,AbA] at *;exact .inl ⟨c,λh k=>⟨h,c.2.1,k⟩⟩
   grind
  | tup l=>grind
  | _=>simp[f] at c
theorem dB{i g σ σ' τ v}(c:DP σ τ)(l:Dz P O ep i g σ v σ'):∃b,Dz P O ep i g τ v b/\DP σ' b:=by
 rcases B3 l with⟨h,k⟩|⟨rfl,rfl,k⟩
 .have ⟨b,h1,h2⟩:=AtN c h.1;exact⟨b,k h1 (λj x m id e f=>by rw[<-h2 id,<-c id];exact h.2.2 j x m id e (by rw[c id];exact f)),h2⟩
 grind
theorem Mt{i g σ σ' v id}(h:lk σ id=none)(b:∀c,i.dst=some c->id≠(ep,c))(e:Dz P O ep i g σ v σ'):lk σ' id=none:=by
 rcases B3 e with⟨h',k⟩|⟨rfl,rfl,k⟩
 .exact Ady h b h'.1
 .exact h
def TU(K:BB->Aq->Prop):Prop:=∀env env' σ σ',(∀s,get env s=get env' s)->DP σ σ'->K env σ->K env' σ'
theorem HQ env d v s:get (put env d v) s=if d=some s then v else get env s:=by
 cases d with
 | none=>simp[put]
 | some d=>simp[put,get]
theorem Q3{K}(b:TU K):∀l:List I,TU (λenv σ=>Ay P O ep l env σ K)
 | []=>b
 | i::l=>by intro env env' σ τ h e c;simp only[Ay] at *;rw[CL] at *;have ⟨v,σ',h1,h2⟩:=c;have ⟨τ',h3,h4⟩:=dB e h1;refine⟨v,τ',I4 (λs _=>h s) h3,Q3 b l _ _ σ' τ' (λs=>?_) h4 h2⟩;rw[HQ,HQ,h s]
theorem O8{i env σ K b}(h:∀env σ,K env σ->b env σ)(c:Dh P O ep i env σ K):Dh P O ep i env σ b:=by rw[CL] at *;grind
theorem Ec{K c}(h:∀env σ,K env σ->c env σ):∀{l env σ},Ay P O ep l env σ K->Ay P O ep l env σ c
 | [],_,_,b=>h _ _ b
 | _::_,_,_,b=>O8 (λ_ _=>Ec h) b
theorem X.same_eq{x y:X}(h:x.same y=true):x=y:=by cases x<;>cases y<;>simp[X.same] at h;rw[h]
theorem AtW{b:Bh}{y}(h:y∈b.ct):y∈b.cs:=by cases b<;>simp only[Bh.ct,Ahk,AzL,or_false] at h<;>simp[Bh.cs,h]
theorem y9{b:Bh}(h:b.sr=true):b.sw=false:=by cases b<;>simp only[Bh.sr] at h<;>(try (cases h;done))<;>rfl
theorem Vh{d:Option Nat}{q:Bh}{g:Nat->V}{σ τ:Aq}{v:V}(hr:q.sr=true)(t:q.cl=false)(y:∀x∈q.cs,∀id,C3 (ev g x)=some id->lk σ id≠none->lk τ id=lk σ id)(p:E P O ep d q g σ v σ):E P O ep d q g τ v τ:=by
 have keep:∀{x id e},x∈q.cs->C3 (ev g x)=some id->lk σ id=some e->lk τ id=some e:=by intro x id e h l s;rw[y x h id l (by rw[s];simp)];exact s
 cases q<;>simp only[Bh.sr] at hr<;>(try (cases hr;done))
 case iaddr x i e sz=>
  simp only[E] at p⊢;refine⟨?_,by trivial⟩;have h:=p.1;split at h
  .rename_i k n z;refine⟨h.1,?_⟩;have l:=h.2;split at l
   .rename_i j;(try simp only[j]);exact l
   .rename_i id j;obtain⟨a,b,c,r⟩:=l
    (try simp only[j])
    exact⟨a,b,keep (x:=x) (by simp[Bh.cs]) (by rw[j];rfl) c,r⟩
   .exact l.elim
  .exact h.elim
 case load x n ag=>
  simp only[E] at p⊢;refine⟨?_,by trivial⟩;have h:=p.1;split at h
  .rename_i id u j;obtain⟨a,b,r⟩:=h;(try simp only[j]);exact⟨a,keep (x:=x) (by simp[Bh.cs]) (by rw[j];rfl) b,r⟩
  .rename_i id B sz u j;obtain⟨a,b,c,e,r⟩:=h;(try simp only[j]);exact⟨a,b,c,keep (x:=x) (by simp[Bh.cs]) (by rw[j];rfl) e,r⟩
  .rename_i j;(try simp only[j]);exact h
  .exact h.elim
 case lenL x=>
  simp only[E] at p⊢;obtain⟨es,h,l,_⟩:=p;refine⟨es,?_,l,by trivial⟩;cases j:ev g x<;>rw[j] at h<;>simp only[AE] at h⊢<;>try exact h
  rename_i id;split at h
  .rename_i A;rw[keep (x:=x) (by simp[Bh.cs]) (by rw[j];rfl) A];exact h
  .cases h
 case rdm k m xs=>simp only[E] at p⊢;obtain⟨⟨id,e,h,l,s⟩,_⟩:=p;exact⟨⟨id,e,h,keep (x:=m) (by simp[Bh.cs]) (by rw[h];rfl) l,s⟩,by trivial⟩
 case callr f args=>simp[Bh.cl] at t
theorem XG{d:Option Nat}{D:Bh}{g:Nat->V}{σ σ':Aq}{v:V}{id:Id}(J:D.wr=true)(C:∀y∈D.ct,C3 (ev g y)≠some id)(F:∀c,d=some c->id≠(ep,c))(r:E P O ep d D g σ v σ'):lk σ id=lk σ' id:=by
 cases D<;>simp only[Bh.wr] at J<;>(try (cases J;done))
 case store a x n=>
  simp only[E] at r;have b:=C a (by simp[Bh.ct]);have ⟨i,A,t⟩:=r;split at t
  .rename_i f G z;obtain⟨u,R,B,a2,rfl⟩:=t;rw[Fy B,AfL (λh=>b (by rw[z,h];rfl))]
  .rename_i f N sz G z;obtain⟨e,es,L,K,B,a2,a3,rfl⟩:=t;rw[Fy B,AfL (λh=>b (by rw[z,h];rfl))]
  .exact t.elim
 case app s x e sz=>
  simp only[E] at r;have b:=C s (by simp[Bh.ct]);have ⟨c,xs,i,A,t,I,j⟩:=r;split at j
  .grind[lk]
  .rename_i f z;obtain⟨es,B,a2,rfl⟩:=j;rw[ER (p:=((ep,c),_)) (λh=>F c i h.symm),DE,AfL (λh=>b (by rw[z,h];rfl))]
  .exact j.elim
 case slT x hi sz=>have b:=C x (by simp[Bh.ct]);obtain⟨c,id,e,es,q,i,A,t,I,j,M,rfl⟩:=r;rw[ER (p:=((ep,c),_)) (λh=>F c i h.symm),DE,AfL (λh=>b (by rw[A,h];rfl))]
 case apps s x e=>
  simp only[E] at r;have b:=C s (by simp[Bh.ct]);have ⟨c,l,i,A,I,j⟩:=r;split at j
  .grind[lk]
  .rename_i f z;obtain⟨es,B,a2,rfl⟩:=j;rw[ER (p:=((ep,c),_)) (λh=>F c i h.symm),DE,AfL (λh=>b (by rw[z,h];rfl))]
  .exact j.elim
 case wrm k m xs=>have b:=C m (by simp[Bh.ct]);obtain⟨f,e,e',i,A,t,rfl⟩:=r;rw[Fy A,AfL (λh=>b (by rw[i,h];rfl))]
theorem Akj{d c g σ σ' v b e0}(e:c.isR=true)(h:lk σ b=none)(f:E P O ep d c g σ v σ'):E P O ep d c g ((b,e0)::σ) v ((b,e0)::σ)/\σ'=σ:=by
 cases c<;>simp only[Bh.isR] at e<;>(try (cases e;done))
 simp only[E] at f⊢;grind[lk]
theorem Avu{i j}(hi:M7 i j=true){K}(hK:TU K){env σ}
  (af:∀d,i.dst=some d->lk σ (ep,d)=none)(Z:∀d,j.dst=some d->lk σ (ep,d)=none)
  (W:∀s,X.t s∈j.op.cs->∀d,i.dst=some d->C3 (get env s)≠some (ep,d))(aw:∀s∈Lj j.ap,i.dst≠some s)
  (h:Dh P O ep i env σ λenv' σ'=>Dh P O ep j env' σ' K):Dh P O ep j env σ λenv' σ'=>Dh P O ep i env' σ' K:=by
 unfold M7 at hi;simp only[AaS,AzS,AsZ,Bool.and_eq_false_iff,Azt] at hi;obtain⟨⟨h1,h2⟩,B⟩:=hi;rw[CL] at h;obtain⟨v1,σ1,A,h⟩:=h;rw[CL] at h;obtain⟨v2,L,r2,h⟩:=h;have am:∀s∈j.rd,i.dst≠some s:=by intro s S M;unfold I.rd at S;grind
 have an:∀s∈i.rd,j.dst≠some s:=by grind
 have ax:∀d,i.dst=some d->j.dst≠some d:=by grind
 have f:Dz P O ep j (get env) σ1 v2 L:=I4 (λs S=>by rw[HQ,AfL (am s S)]) r2;have dn:∀{τ ρ},Dz P O ep j (get env) σ v2 τ->Dz P O ep i (get env) τ v1 ρ->DP L ρ->Dh P O ep j env σ λenv' σ'=>Dh P O ep i env' σ' K:=by intro τ ρ a b S;rw[CL];refine⟨v2,τ,a,?_⟩;rw[CL];refine⟨v1,ρ,I4 (λs S=>by rw[HQ,AfL (an s S)]) b,hK _ _ _ _ (λs=>?_) S h⟩;simp only[HQ];grind
 rcases B with(((((B|B)|B)|B)|B)|B)|B
 rotate_right
 .obtain⟨p,hR⟩:=B;rcases B3 f with⟨r,k⟩|⟨rfl,rfl,k⟩
  .obtain⟨U,e,M,rfl,g⟩:=Nh p r.1;rcases B3 A with⟨he1,k1⟩|⟨rfl,rfl,k1⟩
   .obtain⟨E,rfl⟩:=Akj (e0:=e) hR (Z U M) he1.1;exact dn (k (g σ1) (D9 (P0 p))) (k1 E (λ_ x G id D N=>rfl)) (DP.refl _)
   .exact dn (k (g σ1) (D9 (P0 p))) (k1 _) (DP.refl _)
  .exact dn (k σ) A (DP.refl _)
 .obtain⟨B,h4⟩:=B;by_cases aj:i.op.sw=true
  .have hj:j.op.sw=false/\j.op.sr=false:=by
    grind
   have e2:=IJ hj.1 f;subst e2;exact dn (Q7 hj.1 hj.2 f) A (DP.refl _)
  .have R:i.op.sw=false:=by simpa using aj
   have e1:=IJ R A;subst e1;by_cases ak:j.op.sw=true
   .have ai:i.op.sr=false:=by
     grind
    exact dn f (Q7 R ai A) (DP.refl _)
   .have e2:=IJ (by simpa using ak) f;subst e2;exact dn f A (DP.refl _)
 .obtain⟨⟨p,C⟩,m⟩:=B;rcases B3 A with⟨r,k⟩|⟨rfl,rfl,k⟩
  .obtain⟨U,e,M,rfl,g⟩:=Nh p r.1;rcases B3 f with⟨he2,k2⟩|⟨rfl,rfl,k2⟩
   .obtain⟨σ',E,h6⟩:=Ap1 C (af U M) (λx G=>by
     have:=Ao8.1 m x G;cases x with
     | t s=>exact W s G U M
     | c u=>simp[X.isT] at this) (λd2 ae r=>by grind) he2.1
    exact dn (k2 E (D9 C)) (k (g σ') (D9 (P0 p))) h6
   .exact dn (k2 σ) (k (g σ) (D9 (P0 p))) (DP.refl _)
  .exact dn f (k L) (DP.refl _)
 .obtain⟨p,C⟩:=B;rcases B3 f with⟨r,k⟩|⟨rfl,rfl,k⟩
  .obtain⟨U,e,M,rfl,g⟩:=Nh p r.1;rcases B3 A with⟨he1,k1⟩|⟨rfl,rfl,k1⟩
   .obtain⟨az,E,h6⟩:=Ar7 (e0:=e) C (Z U M) (λd2 ae r=>by grind) he1.1;exact dn (k (g σ) (D9 (P0 p))) (k1 E (D9 C)) h6.symm
   .exact dn (k (g σ1) (D9 (P0 p))) (k1 _) (DP.refl _)
  .exact dn (k σ) A (DP.refl _)
 .obtain⟨⟨⟨z,l⟩,T⟩,m⟩:=B;rcases B3 A with⟨r,k⟩|⟨rfl,rfl,k⟩
  .have F:=FJ (y9 z) r.1;subst F;rcases B3 f with⟨he2,k2⟩|⟨rfl,rfl,k2⟩
   .refine dn f (k (Vh z l (λx G id D N=>?_) r.1) (D9 l)) (DP.refl _);refine(XG T (λy hy=>?_) (λd M Y=>?_) he2.1).symm
    .have E:=Ao8.1 m x G;obtain⟨x',J,q⟩:=A0z.1 E;have:=X.same_eq q;subst this;exact he2.2.1 x J y (AtW hy) id D
    grind
   .exact dn f A (DP.refl _)
  .exact dn f (k L) (DP.refl _)
 .obtain⟨⟨⟨⟨T,z⟩,l⟩,ad⟩,m⟩:=B;rcases B3 f with⟨r,k⟩|⟨rfl,rfl,k⟩
  .have F:=FJ (y9 z) r.1;subst F;rcases B3 A with⟨he2,k2⟩|⟨rfl,rfl,k2⟩
   .refine dn (k (Vh z l (λx G id D N=>?_) r.1) (D9 l)) A (DP.refl _);refine XG T (λy hy aa=>?_) (λd M Y=>?_) he2.1
    .have E:=Ao8.1 m y hy;obtain⟨x',J,q⟩:=A0z.1 E;have:=X.same_eq q;subst this;exact r.2.1 y J x G id aa D
    .have:=Ao8.1 ad x G;cases x with
     | t s=>exact W s G d M (by rw[<-Y];exact D)
     | c u=>simp[X.isT] at this
   .exact dn f A (DP.refl _)
  .exact dn (k σ) A (DP.refl _)
 .obtain⟨⟨⟨z,l⟩,C⟩,m⟩:=B;rcases B3 A with⟨r,k⟩|⟨rfl,rfl,k⟩
  .have F:=FJ (y9 z) r.1;subst F;rcases B3 f with⟨he2,k2⟩|⟨rfl,rfl,k2⟩
   .refine dn f (k (Vh z l (λx G id D N=>?_) r.1) (D9 l)) (DP.refl _);have E:=Ao8.1 m x G;obtain⟨x',J,q⟩:=A0z.1 E;have:=X.same_eq q;subst this;exact he2.2.2 C x J id D N
   .exact dn f A (DP.refl _)
  .exact dn f (k L) (DP.refl _)
theorem rL{s xs}:s∈Lj xs↔X.t s∈xs:=by
 unfold Lj;rw[A1b];constructor
 .rintro⟨x,e,b⟩;cases x with
  | t k=>simp only[J4,AzE] at b;subst b;exact e
  | c v=>simp[J4] at b
 .intro h;exact⟨_,h,by simp[J4]⟩
theorem Qk{x:I}{l b}(h:∀y∈b,∀d,y.dst=some d->∃z∈l,z.dst=some d):∀a∈(x.dropd l).ap,a∈(x.dropd b).ap:=by
 intro a e;have ⟨h1,h2⟩:=Ayd.1 e;refine Ayd.2 ⟨h1,?_⟩;cases a with
 | c v=>simp[X.notIn] at h2
 | t s=>simp only[X.notIn,AsZ,A2s,AjK] at h2⊢;grind
theorem Xd{y x:I}{l b}(h:∀a∈(x.dropd l).ap,a∈(x.dropd b).ap)(e:M7 y (x.dropd l)=true):M7 y (x.dropd b)=true:=by
 unfold M7 at *;simp only[AaS,AzS] at *;refine⟨e.1,?_⟩;have c:∀(xs:List X),(xs.all λz=>(x.dropd l).ap.any z.same)=true->(xs.all λz=>(x.dropd b).ap.any z.same)=true:=by intro xs f;refine Ao8.2 λz g=>?_;have ⟨w,hw,hs⟩:=A0z.1 (Ao8.1 f z g);grind
 rcases e.2 with(((((h3|h3)|h3)|h3)|h3)|h3)|h3
 .exact .inl (.inl (.inl (.inl (.inl (.inl h3)))))
 .exact .inl (.inl (.inl (.inl (.inl (.inr h3)))))
 .exact .inl (.inl (.inl (.inl (.inr h3))))
 .exact .inl (.inl (.inl (.inr ⟨h3.1,c _ h3.2⟩)))
 .exact .inl (.inl (.inr ⟨h3.1,c _ h3.2⟩))
 .exact .inl (.inr ⟨h3.1,c _ h3.2⟩)
 .exact .inr h3
theorem Nx{x x'}(f:x'.dst=x.dst)(b:x'.op=x.op)(j:x'.gd=x.gd)(g:∀a∈x'.ap,a∈x.ap){K env σ}(h:Dh P O ep x env σ K):Dh P O ep x' env σ K:=by
 rw[CL] at *;have ⟨v,σ',hs,hk⟩:=h;refine⟨v,σ',?_,by rw[f];exact hk⟩;have i:EA P O ep x (get env) σ v σ'->EA P O ep x' (get env) σ v σ':=λe=>⟨by rw[f,b];exact e.1,λa c y l=>e.2.1 a (g a c) y (by rw[<-b];exact l),λk a c=>e.2.2 (by rw[<-b];exact k) a (g a c)⟩
 unfold Dz at *;rw[j];split at hs
 .exact i hs
 grind
def Vf(x:I):List I->Prop
 | []=>True
 | y::l=>M7 y (x.dropd (y::l))=true/\Vf x l
theorem lW{x K}(A:TU K):∀{l1 f env σ},Vf x l1->(l1.filterMap (·.dst)).Nodup->(∀y∈l1,∀d,y.dst=some d->lk σ (ep,d)=none)->(∀d,x.dst=some d->lk σ (ep,d)=none)->
  (∀s,X.t s∈x.op.cs->∀y∈l1,∀d,y.dst=some d->C3 (get env s)≠some (ep,d))->Ay P O ep (l1++x::f) env σ K->Ay P O ep (x.dropd l1::(l1++f)) env σ K
 | [],f,env,σ,_,_,_,_,_,h=>by have k:Dh P O ep x env σ λenv' σ'=>Ay P O ep f env' σ' K:=h;exact Nx (x:=x) (x':=x.dropd []) rfl rfl rfl (λa F=>(Ayd.1 F).1) k
 | y::l1,f,env,σ,C,I,B,i,m,h=>by
  have c:=C.1;have e:∀d,y.dst=some d->d∉x.rd0/\x.dst≠some d:=by intro d b;unfold M7 at c;simp only[b,AaS,AsZ,A2c,A0U,bne_iff_ne,ne_eq] at c;exact⟨c.1.1.1,c.1.1.2⟩
  have j:(l1.filterMap (·.dst)).Nodup/\∀d,y.dst=some d->∀z∈l1,z.dst≠some d:=by grind
  have J:Dh P O ep y env σ λenv' σ'=>Dh P O ep (x.dropd l1) env' σ' λenv' σ'=>Ay P O ep (l1++f) env' σ' K:=by
   have k:Dh P O ep y env σ λenv' σ'=>Ay P O ep (l1++x::f) env' σ' K:=h;rw[CL] at k⊢;obtain⟨v,σ',g,G⟩:=k;refine⟨v,σ',g,lW A C.2 j.1 (λz l d b=>?_) (λd b=>?_) (λs r z l d b=>?_) G⟩
   .exact Mt (B z (by simp[l]) d b) (λD p q=>by grind) g
   .exact Mt (i d b) (λD p q=>by grind) g
   .rw[HQ,AfL (λq=>(e s q).1 (Axe _ (Agj r)))];grind
  have u:Dh P O ep y env σ λenv' σ'=>Dh P O ep (x.dropd (y::l1)) env' σ' λenv' σ'=>Ay P O ep (l1++f) env' σ' K:=
   O8 (λenv σ h=>Nx (x:=x.dropd l1) (x':=x.dropd (y::l1)) rfl rfl rfl (Qk λz l d b=>⟨z,by simp[l],b⟩) h) J
  exact Avu c (Q3 A _) (B y (by simp)) i (λs g d b=>m s g y (by simp) d b) (λs g b=>by have E:=(Ayd.1 (rL.1 g)).2;simp[X.notIn,b] at E) u
end
end Go.Ir
end
