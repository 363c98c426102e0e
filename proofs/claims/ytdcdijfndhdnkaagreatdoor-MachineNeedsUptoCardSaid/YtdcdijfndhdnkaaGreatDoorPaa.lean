/-
  THE IR CALCULUS, part A: abstract values, their relation to ..
  THE IR CALCULUS, part B: the small register language, what ..
  THE IR CALCULUS, part C: how the heap relation is carried ..
  THE IR CALCULUS, part D: each operation that the check lets ..
  THE IR CALCULUS, part E: the operations, one lemma each.
  THE IR CALCULUS, part F: the operations that read and write ..
  THE IR CALCULUS, part G: the operations that make memory, ..
  THE IR CALCULUS, part H: literals, append, make, calls.
  THE IR CALCULUS, part Hb: maps, iterators over strings, ..
  THE IR CALCULUS, part I: make, calls
-/
import Derived.Below
import Derived.Orders
import Derived.Laws.OwnMore
import Derived.Laws.Entries
import Derived.Laws.Rows
import Derived.Maps.AppendAt
import Derived.Laws.Strings2
import Derived.Laws.Concat
import Derived.Laws.Cover1
import Derived.Laws.Slices
import Derived.Laws.MakeOwn
import Derived.Lib.AppendStr
import Derived.Laws.StructEq
import Derived.MapKept
import Derived.Laws.BytesString
import Derived.Laws.Cover3
import Derived.LaidEql
set_option linter.all false
set_option linter.unusedSectionVars false
set_option linter.unusedSimpArgs false
set_option linter.unusedVariables false
section
namespace Go.Ir
open Go.RowKit
abbrev Id:=Nat × Nat
def LLim:Nat:=2147483648
def SLim:Nat:=1099511627776
inductive V where
 | b (x:Bool)
 | i (k:IntKind) (n:Int)
 | s (l:List UInt8)
 | nil
 | sl (es:List V)
 | agg (cs:List V)
 | tup (vs:List V)
 | ref (id:Id) (off:Nat)
 | arr (id:Id)
 | aref (id:Id) (ix:Nat) (sz:Nat) (off:Nat)
 | ep (e:V) (off:Nat)
 | fn (f:FuncId) (first caps:List V)
 | np
 | nf
 | ni
 | nm
 | ub
 | any
 deriving Inhabited
def cells:V->List V
 | .agg cs=>cs
 | v=>[v]
def V.ok:V->Bool
 | .tup _|.any=>false
 | _=>true
def V.one:V->Bool
 | .agg _|.tup _|.any=>false
 | _=>true
def flat (es:List V):List V:=es.flatMap cells
inductive VRel (μ:Id->Option Value) (H:Addr->Option Value):V->Value->Prop where
 | b (x:Bool):VRel μ H (.b x) (.bool x)
 | i (k:IntKind) (n:Int):VRel μ H (.i k n) (.int k n)
 | s (l:List UInt8) (h:l.length<=SLim):VRel μ H (.s l) (.string ⟨l.toArray⟩)
 | nil:VRel μ H .nil (.slice none 0 0)
 | slE (a:Option Addr) (cap:Nat):VRel μ H (.sl []) (.slice a 0 cap)
 | slC (es:List V) (ad:Addr) (cap sz:Nat) (vals:List Value) (hc:es.length<=cap) (hl:es.length<=LLim) (hsz:∀e∈es,(cells e).length=sz)
   (hn:(flat es).length=vals.length) (h1:∀v∈vals,v.oneCell'=true) (hp:∀(k:Nat) (v:Value),vals[k]? = some v->H (ad.add k)=some v)
   (hv:∀(k:Nat) (c:V) (v:Value),(flat es)[k]? = some c->vals[k]? = some v->VRel μ H c v):VRel μ H (.sl es) (.slice (some ad) es.length cap)
 | agg (cs:List V) (vals:List Value) (hn:cs.length=vals.length) (h1:∀v∈vals,v.oneCell'=true)
   (hv:∀(k:Nat) (c:V) (v:Value),cs[k]? = some c->vals[k]? = some v->VRel μ H c v):VRel μ H (.agg cs) (.agg vals.toArray)
 | tup (cs:List V) (vals:List Value) (hn:cs.length=vals.length)
   (hv:∀(k:Nat) (c:V) (v:Value),cs[k]? = some c->vals[k]? = some v->VRel μ H c v):VRel μ H (.tup cs) (.tuple vals.toArray)
 | ref (id:Id) (off bk:Nat) (h:μ id=some (.pointer (some ⟨bk,0,none⟩))):VRel μ H (.ref id off) (.pointer (some ⟨bk,off,none⟩))
 | arr (id:Id) (v:Value) (h:μ id=some v) (h1:v.oneCell'=true):VRel μ H (.arr id) v
 | aref (id:Id) (ix sz off bk len cap:Nat) (h:μ id=some (.slice (some ⟨bk,0,none⟩) len cap)):VRel μ H (.aref id ix sz off) (.pointer (some ⟨bk,ix*sz+off,none⟩))
 | ep (e:V) (off:Nat) (ad:Addr) (vals:List Value) (hn:(cells e).length=vals.length) (h1:∀v∈vals,v.oneCell'=true)
   (hp:∀(k:Nat) (v:Value),vals[k]? = some v->H (ad.add k)=some v)
   (hv:∀(k:Nat) (c:V) (v:Value),(cells e)[k]? = some c->vals[k]? = some v->VRel μ H c v):VRel μ H (.ep e off) (.pointer (some (ad.add off)))
 | fn (f:FuncId) (first caps:List V) (fvals cvals:List Value) (hnf:first.length=fvals.length) (hnc:caps.length=cvals.length)
   (hvf:∀(k:Nat) (c:V) (v:Value),first[k]? = some c->fvals[k]? = some v->VRel μ H c v)
   (hvc:∀(k:Nat) (c:V) (v:Value),caps[k]? = some c->cvals[k]? = some v->VRel μ H c v):VRel μ H (.fn f first caps) (.func (.func f) fvals.toArray cvals.toArray)
 | np:VRel μ H .np (.pointer none)
 | nf:VRel μ H .nf .nilFunc
 | ni:VRel μ H .ni .nilIface
 | nm:VRel μ H .nm (.map none)
 | ub (t:Bool):VRel μ H .ub (.bool t)
 | any (v:Value):VRel μ H .any v
structure VRels (μ:Id->Option Value) (H:Addr->Option Value) (cs:List V) (vals:List Value):Prop where
 len:cs.length=vals.length
 at_:∀(k:Nat) (c:V) (v:Value),cs[k]? = some c->vals[k]? = some v->VRel μ H c v
structure CRel (μ:Id->Option Value) (H:Addr->Option Value) (cs:List V) (vals:List Value):Prop extends VRels μ H cs vals where
 one:∀v∈vals,v.oneCell'=true
section mono
variable {μ μ' : Id → Option Value} {H H' : Addr → Option Value}
theorem VRel.mono {v:V} {val:Value} (h:VRel μ H v val) (hμ:∀id x,μ id=some x->μ' id=some x) (hH:∀a x,H a=some x->H' a=some x):VRel μ' H' v val:=by
 induction h with
 | b x=>exact .b x
 | i k n=>exact .i k n
 | s l h=>exact .s l h
 | nil=>exact .nil
 | slE a cap=>exact .slE a cap
 | slC es ad cap sz vals hc hl hsz hn h1 hp _ ih=>exact .slC es ad cap sz vals hc hl hsz hn h1 (fun k v hk=>hH _ _ (hp k v hk)) ih
 | agg cs vals hn h1 _ ih=>exact .agg cs vals hn h1 ih
 | tup cs vals hn _ ih=>exact .tup cs vals hn ih
 | ref id off bk h=>exact .ref id off bk (hμ _ _ h)
 | arr id v h h1=>exact .arr id v (hμ _ _ h) h1
 | aref id ix sz off bk len cap h=>exact .aref id ix sz off bk len cap (hμ _ _ h)
 | ep e off ad vals hn h1 hp _ ih=>exact .ep e off ad vals hn h1 (fun k v hk=>hH _ _ (hp k v hk)) ih
 | fn f first caps fvals cvals hnf hnc _ _ ihf ihc=>exact .fn f first caps fvals cvals hnf hnc ihf ihc
 | np=>exact .np
 | nf=>exact .nf
 | ni=>exact .ni
 | nm=>exact .nm
 | ub t=>exact .ub t
 | any v=>exact .any v
theorem VRel.ub_inv {val:Value} (h:VRel μ H .ub val):∃t,val = .bool t:=by
 cases h
 exact ⟨_,rfl⟩
theorem VRels.mono {cs:List V} {vals:List Value} (h:VRels μ H cs vals) (hμ:∀id x,μ id=some x->μ' id=some x) (hH:∀a x,H a=some x->H' a=some x):VRels μ' H' cs vals:=
 ⟨h.len,fun k c v hc hv=>(h.at_ k c v hc hv).mono hμ hH⟩
theorem CRel.mono {cs:List V} {vals:List Value} (h:CRel μ H cs vals) (hμ:∀id x,μ id=some x->μ' id=some x) (hH:∀a x,H a=some x->H' a=some x):CRel μ' H' cs vals:=
 ⟨h.toVRels.mono hμ hH,h.one⟩
end mono
section lists
variable {μ : Id → Option Value} {H : Addr → Option Value}
theorem VRels.nil_:VRels μ H [] []:=⟨rfl,fun k c v h=>by simp at h⟩
theorem VRels.cons {c:V} {v:Value} {cs:List V} {vs:List Value} (h:VRel μ H c v) (hs:VRels μ H cs vs):VRels μ H (c::cs) (v::vs):=by
 refine ⟨by simp [hs.len],fun k x y hx hy=>?_⟩
 cases k with
 | zero=>simp at hx hy;subst hx;subst hy;exact h
 | succ k=>exact hs.at_ k x y (by simpa using hx) (by simpa using hy)
theorem VRels.append {cs ds:List V} {vs us:List Value} (h:VRels μ H cs vs) (h':VRels μ H ds us):VRels μ H (cs++ds) (vs++us):=by
 refine ⟨by simp [h.len,h'.len],fun k x y hx hy=>?_⟩
 by_cases hk:k<cs.length
 ·rw [List.getElem?_append_left hk] at hx
  rw [List.getElem?_append_left (by rw [<-h.len];exact hk)] at hy
  exact h.at_ k x y hx hy
 ·rw [List.getElem?_append_right (by omega)] at hx
  rw [List.getElem?_append_right (by rw [<-h.len];omega),<-h.len] at hy
  exact h'.at_ _ x y hx hy
theorem CRel.append {cs ds:List V} {vs us:List Value} (h:CRel μ H cs vs) (h':CRel μ H ds us):CRel μ H (cs++ds) (vs++us):=
 ⟨h.toVRels.append h'.toVRels,fun v hv=>(List.mem_append.1 hv).elim (h.one v) (h'.one v)⟩
theorem VRels.take {cs:List V} {vs:List Value} (h:VRels μ H cs vs) (n:Nat):VRels μ H (cs.take n) (vs.take n):=by
 refine ⟨by simp [h.len],fun k x y hx hy=>?_⟩
 rw [List.getElem?_take] at hx hy
 split at hx
 ·rename_i hk;rw [if_pos hk] at hy;exact h.at_ k x y hx hy
 ·cases hx
theorem VRels.drop {cs:List V} {vs:List Value} (h:VRels μ H cs vs) (n:Nat):VRels μ H (cs.drop n) (vs.drop n):=by
 refine ⟨by simp [h.len],fun k x y hx hy=>?_⟩
 rw [List.getElem?_drop] at hx hy
 exact h.at_ _ x y hx hy
theorem CRel.take {cs:List V} {vs:List Value} (h:CRel μ H cs vs) (n:Nat):CRel μ H (cs.take n) (vs.take n):=
 ⟨h.toVRels.take n,fun v hv=>h.one v (List.mem_of_mem_take hv)⟩
theorem CRel.drop {cs:List V} {vs:List Value} (h:CRel μ H cs vs) (n:Nat):CRel μ H (cs.drop n) (vs.drop n):=
 ⟨h.toVRels.drop n,fun v hv=>h.one v (List.mem_of_mem_drop hv)⟩
theorem VRels.get {cs:List V} {vs:List Value} (h:VRels μ H cs vs) {k:Nat} {c:V} (hc:cs[k]? = some c):∃v,vs[k]? = some v/\VRel μ H c v:=by
 have hk:k<cs.length:=(List.getElem?_eq_some_iff.1 hc).1
 have hk':k<vs.length:=by rw [<-h.len];exact hk
 exact ⟨vs[k],List.getElem?_eq_getElem hk',h.at_ k c _ hc (List.getElem?_eq_getElem hk')⟩
theorem CRel.nil_:CRel μ H [] []:=⟨VRels.nil_,fun v hv=>by cases hv⟩
theorem VRel.toCells {v:V} {val:Value} (h:VRel μ H v val) (ho:v.ok=true):CRel μ H (cells v) val.cells.toList/\(v.one=true->val.oneCell'=true):=by
 have one:∀{c:V} {x:Value},VRel μ H c x->x.oneCell'=true->CRel μ H [c] [x]:=fun hc hx=>⟨VRels.nil_.cons hc,fun v hv=>by simp at hv;subst hv;exact hx⟩
 cases h with
 | b x=>exact ⟨one (.b x) rfl,fun _=>rfl⟩
 | i k n=>exact ⟨one (.i k n) rfl,fun _=>rfl⟩
 | s l h=>exact ⟨one (.s l h) rfl,fun _=>rfl⟩
 | nil=>exact ⟨one .nil rfl,fun _=>rfl⟩
 | slE a cap=>exact ⟨one (.slE a cap) rfl,fun _=>rfl⟩
 | slC es ad cap sz vals hc hl hsz hn h1 hp hv=>exact ⟨one (.slC es ad cap sz vals hc hl hsz hn h1 hp hv) rfl,fun _=>rfl⟩
 | agg cs vals hn h1 hv=>exact ⟨⟨⟨hn,hv⟩,h1⟩,fun h=>by simp [V.one] at h⟩
 | tup cs vals hn hv=>simp [V.ok] at ho
 | ref id off bk h=>exact ⟨one (.ref id off bk h) rfl,fun _=>rfl⟩
 | arr id v h h1=>
  have:val.cells = #[val]:=by cases val<;>first|rfl|simp [Value.oneCell'] at h1
  rw [this]
  exact ⟨one (.arr id val h h1) h1,fun _=>h1⟩
 | aref id ix sz off bk len cap h=>exact ⟨one (.aref id ix sz off bk len cap h) rfl,fun _=>rfl⟩
 | ep e off ad vals hn h1 hp hv=>exact ⟨one (.ep e off ad vals hn h1 hp hv) rfl,fun _=>rfl⟩
 | fn f first caps fvals cvals hnf hnc hvf hvc=>exact ⟨one (.fn f first caps fvals cvals hnf hnc hvf hvc) rfl,fun _=>rfl⟩
 | np=>exact ⟨one .np rfl,fun _=>rfl⟩
 | nf=>exact ⟨one .nf rfl,fun _=>rfl⟩
 | ni=>exact ⟨one .ni rfl,fun _=>rfl⟩
 | nm=>exact ⟨one .nm rfl,fun _=>rfl⟩
 | ub t=>exact ⟨one (.ub t) rfl,fun _=>rfl⟩
 | any v=>simp [V.ok] at ho
end lists
theorem flat_length {es:List V} {sz:Nat} (h:∀e∈es,(cells e).length=sz):(flat es).length=es.length*sz:=by
 induction es with
 | nil=>simp [flat]
 | cons e es ih=>
  have h1:=h e (by simp)
  have h2:=ih (fun x hx=>h x (by simp [hx]))
  simp only [flat,List.flatMap_cons,List.length_append,List.length_cons] at h2⊢
  rw [h1,h2,Nat.add_mul];omega
theorem flat_append (es xs:List V):flat (es++xs)=flat es++flat xs:=by simp [flat]
theorem flat_drop {es:List V} {sz:Nat} (h:∀e∈es,(cells e).length=sz) (n:Nat):flat (es.drop n)=(flat es).drop (n*sz):=by
 induction n generalizing es with
 | zero=>simp
 | succ n ih=>
  cases es with
  | nil=>simp [flat]
  | cons e es=>
   have h1:=h e (by simp)
   have h2:=ih (es:=es) (fun x hx=>h x (by simp [hx]))
   rw [List.drop_succ_cons,h2]
   simp only [flat,List.flatMap_cons]
   rw [Nat.add_mul,Nat.one_mul,Nat.add_comm,<-List.drop_drop,<-h1,List.drop_left]
theorem flat_take {es:List V} {sz:Nat} (h:∀e∈es,(cells e).length=sz) (n:Nat):flat (es.take n)=(flat es).take (n*sz):=by
 induction n generalizing es with
 | zero=>simp [flat]
 | succ n ih=>
  cases es with
  | nil=>simp [flat]
  | cons e es=>
   have h1:=h e (by simp)
   have h2:=ih (es:=es) (fun x hx=>h x (by simp [hx]))
   rw [List.take_succ_cons]
   simp only [flat,List.flatMap_cons] at h2⊢
   rw [h2,Nat.add_mul,Nat.one_mul,Nat.add_comm,<-h1,List.take_length_add_append]
theorem flat_at {es:List V} {sz:Nat} (h:∀e∈es,(cells e).length=sz) {i:Nat} {e:V} (he:es[i]? = some e):((flat es).drop (i*sz)).take sz=cells e:=by
 have hi:i<es.length:=(List.getElem?_eq_some_iff.1 he).1
 have hm:e∈es:=List.mem_of_getElem? he
 have hd:=flat_drop h i
 rw [<-hd]
 rw [List.drop_eq_getElem_cons hi]
 have:es[i]=e:=by rw [List.getElem?_eq_getElem hi] at he;exact Option.some.inj he
 simp only [flat,List.flatMap_cons,this]
 rw [<-h e hm,List.take_left]
inductive Ent where
 | box (v:V)
 | tbox (t:TypeId) (v:V)
 | arr (e:TypeId) (sz:Nat) (es:List V)
 | map (es:List (V × V))
 | it (l:List UInt8) (pos:Nat)
 | mit (mid:Id) (since:Nat) (seen:List Nat) (stepped:Nat)
 deriving Inhabited
abbrev Sto:=List (Id × Ent)
def lk:Sto->Id->Option Ent
 | [],_=>none
 | (k,e)::r,id=>if k=id then some e else lk r id
def blk (v:Option Value):Option Nat:=
 match v with
 | some (.pointer (some a))=>some a.block
 | some (.slice (some a) _ _)=>some a.block
 | some (.map (some r))=>some r
 | _=>none
structure MRel (μ:Id->Option Value) (H:Addr->Option Value) (es:List (V × V)) (ms:List MapEntry) (clock:Nat):Prop where
 len:es.length=ms.length
 at_:∀(k:Nat) (c:V × V) (m:MapEntry),es[k]? = some c->ms[k]? = some m->VRel μ H c.1 m.key/\VRel μ H c.2 m.val
 born:∀(k:Nat) (m:MapEntry),ms[k]? = some m->m.born=k
 now:clock=ms.length
theorem MRel.mono {μ μ':Id->Option Value} {H H':Addr->Option Value} {es:List (V × V)} {ms:List MapEntry} {clock:Nat} (h:MRel μ H es ms clock) (hμ:∀id x,μ id=some x->μ' id=some x) (hH:∀a x,H a=some x->H' a=some x):MRel μ' H' es ms clock:=
 ⟨h.len,fun k c m h1 h2=>⟨(h.at_ k c m h1 h2).1.mono hμ hH,(h.at_ k c m h1 h2).2.mono hμ hH⟩,h.born,h.now⟩
def EntRel (B:Nat) (μ:Id->Option Value) (H:Addr->Option Value) (w:World) (id:Id):Ent->Prop
 | .box v=>∃bk vals t,μ id=some (.pointer (some ⟨bk,0,none⟩))/\B<=bk/\w.heap[bk]? = some (.cells vals t (0,0))/\CRel μ H (cells v) vals.toList
 | .tbox t v=>∃bk vals,μ id=some (.pointer (some ⟨bk,0,none⟩))/\B<=bk/\w.heap[bk]? = some (.cells vals t (0,0))/\CRel μ H (cells v) vals.toList
 | .map es=>∃r mes clock,μ id=some (.map (some r))/\B<=r/\w.heap[r]? = some (.map mes clock)/\MRel μ H es mes.toList clock
 | .it l pos=>∃r,μ id=some (.pointer (some ⟨r,0,none⟩))/\B<=r/\w.heap[r]? = some (.stringIter ⟨l.toArray⟩ pos)
 | .mit mid since seen stepped=>∃r m,μ id=some (.pointer (some ⟨r,0,none⟩))/\B<=r/\μ mid=some (.map (some m))/\w.heap[r]? = some (.mapIter (some m) since seen.toArray stepped)
 | .arr e sz es=>∃v vals,μ id=some v/\v.oneCell'=true/\w.ownsRow B e sz v es.length vals/\es.length<=LLim/\(∀x∈es,(cells x).length=sz)/\CRel μ H (flat es) vals
def Own (μ:Id->Option Value) (σ:Sto) (bk:Nat):Prop:=∃id e,lk σ id=some e/\blk (μ id)=some bk
structure Hp (W0:World) (σ:Sto) (n:Nat) (μ:Id->Option Value) (H:Addr->Option Value) (w:World):Prop where
 base:Below W0.heap.size W0 w
 pins:∀ad v,H ad=some v->w.cell? ad=some v
 ents:∀id e,lk σ id=some e->EntRel W0.heap.size μ H w id e
 unp:∀bk,Own μ σ bk->∀ad:Addr,ad.block=bk->H ad=none
 sep:∀id e id' e' bk,lk σ id=some e->lk σ id'=some e'->blk (μ id)=some bk->blk (μ id')=some bk->id=id'
 bd:∀id,n<=id.1->μ id=none
structure Fr (μ:Id->Option Value) (H:Addr->Option Value) (σ:Sto) (w:World) (μ':Id->Option Value) (H':Addr->Option Value) (σ':Sto) (w':World):Prop where
 mu:∀id x,μ id=some x->μ' id=some x
 hp:∀ad v,H ad=some v->H' ad=some v
 size:w.heap.size<=w'.heap.size
 keep:∀bk,bk<w.heap.size->¬Own μ σ bk->w'.heap[bk]? = w.heap[bk]?
 pin:∀ad:Addr,ad.block<w.heap.size->¬Own μ σ ad.block->H' ad=H ad
 dom:∀bk,bk<w.heap.size->Own μ' σ' bk->Own μ σ bk
theorem Fr.refl (μ:Id->Option Value) (H:Addr->Option Value) (σ:Sto) (w:World):Fr μ H σ w μ H σ w:=
 ⟨fun _ _ h=>h,fun _ _ h=>h,Nat.le_refl _,fun _ _ _=>rfl,fun _ _ _=>rfl,fun _ _ h=>h⟩
theorem Fr.trans {μ μ1 μ2:Id->Option Value} {H H1 H2:Addr->Option Value} {σ σ1 σ2:Sto} {w w1 w2:World} (h:Fr μ H σ w μ1 H1 σ1 w1) (k:Fr μ1 H1 σ1 w1 μ2 H2 σ2 w2):Fr μ H σ w μ2 H2 σ2 w2 where
 mu id x hx:=k.mu _ _ (h.mu _ _ hx)
 hp ad v hv:=k.hp _ _ (h.hp _ _ hv)
 size:=Nat.le_trans h.size k.size
 keep bk hb ho:=(k.keep bk (Nat.lt_of_lt_of_le hb h.size) (fun o=>ho (h.dom bk hb o))).trans (h.keep bk hb ho)
 pin ad hb ho:=(k.pin ad (Nat.lt_of_lt_of_le hb h.size) (fun o=>ho (h.dom _ hb o))).trans (h.pin ad hb ho)
 dom bk hb ho:=h.dom bk hb (k.dom bk (Nat.lt_of_lt_of_le hb h.size) ho)
section hp
variable {W0 w : World} {σ : Sto} {n : Nat} {μ : Id → Option Value} {H : Addr → Option Value}
theorem EntRel.block {B:Nat} {id:Id} {e:Ent} {bk:Nat} (h:EntRel B μ H w id e) (hb:blk (μ id)=some bk):B<=bk/\bk<w.heap.size:=by
 cases e with
 | box v=>
  obtain ⟨g,vals,t,hm,hB,hh,_⟩:=h
  rw [hm] at hb
  simp [blk] at hb
  subst hb
  exact ⟨hB,(Array.getElem?_eq_some_iff.1 hh).1⟩
 | tbox t v=>
  obtain ⟨g,vals,hm,hB,hh,_⟩:=h
  rw [hm] at hb
  simp [blk] at hb
  subst hb
  exact ⟨hB,(Array.getElem?_eq_some_iff.1 hh).1⟩
 | arr e sz es=>
  obtain ⟨v,vals,hm,_,hown,_⟩:=h
  rw [hm] at hb
  refine hown.lt bk ?_
  cases v with
  | slice a len cap=>cases a with
   | none=>simp [blk] at hb
   | some a=>simpa [blk,Value.ownBlock] using hb
  | pointer a=>
   rcases hown.2 with ⟨h,_⟩|⟨_,_,_,h,_⟩<;>cases h
  | map a=>
   rcases hown.2 with ⟨h,_⟩|⟨_,_,_,h,_⟩<;>cases h
  | _=>simp [blk] at hb
 | map es=>
  obtain ⟨r,mes,clock,hm,hB,hh,_⟩:=h
  rw [hm] at hb
  simp [blk] at hb
  subst hb
  exact ⟨hB,(Array.getElem?_eq_some_iff.1 hh).1⟩
 | it l pos=>
  obtain ⟨r,hm,hB,hh⟩:=h
  rw [hm] at hb
  simp [blk] at hb
  subst hb
  exact ⟨hB,(Array.getElem?_eq_some_iff.1 hh).1⟩
 | mit mid since seen stepped=>
  obtain ⟨r,m,hm,hB,_,hh⟩:=h
  rw [hm] at hb
  simp [blk] at hb
  subst hb
  exact ⟨hB,(Array.getElem?_eq_some_iff.1 hh).1⟩
theorem EntRel.named {B:Nat} {id:Id} {e:Ent} (h:EntRel B μ H w id e):∃x,μ id=some x:=by
 cases e with
 | box v=>obtain ⟨_,_,_,hm,_⟩:=h;exact ⟨_,hm⟩
 | tbox t v=>obtain ⟨_,_,hm,_⟩:=h;exact ⟨_,hm⟩
 | arr e sz es=>obtain ⟨_,_,hm,_⟩:=h;exact ⟨_,hm⟩
 | map es=>obtain ⟨_,_,_,hm,_⟩:=h;exact ⟨_,hm⟩
 | it l pos=>obtain ⟨_,hm,_⟩:=h;exact ⟨_,hm⟩
 | mit mid since seen stepped=>obtain ⟨_,_,hm,_⟩:=h;exact ⟨_,hm⟩
theorem Hp.own_lt (h:Hp W0 σ n μ H w) {bk:Nat} (ho:Own μ σ bk):W0.heap.size<=bk/\bk<w.heap.size:=by
 obtain ⟨id,e,he,hb⟩:=ho
 exact (h.ents id e he).block hb
theorem EntRel.keep {B:Nat} {μ':Id->Option Value} {H':Addr->Option Value} {w':World} {id:Id} {e:Ent} (h:EntRel B μ H w id e)
  (hμ:∀id x,μ id=some x->μ' id=some x) (hH:∀a x,H a=some x->H' a=some x) (hb:∀bk,blk (μ id)=some bk->w'.heap[bk]? = w.heap[bk]?):EntRel B μ' H' w' id e:=by
 cases e with
 | box v=>
  obtain ⟨g,vals,t,hm,hB,hh,hc⟩:=h
  exact ⟨g,vals,t,hμ _ _ hm,hB,by rw [hb g (by simp [hm,blk])];exact hh,hc.mono hμ hH⟩
 | tbox t v=>
  obtain ⟨g,vals,hm,hB,hh,hc⟩:=h
  exact ⟨g,vals,hμ _ _ hm,hB,by rw [hb g (by simp [hm,blk])];exact hh,hc.mono hμ hH⟩
 | arr e sz es=>
  obtain ⟨v,vals,hm,h1,hown,hl,hsz,hc⟩:=h
  refine ⟨v,vals,hμ _ _ hm,h1,⟨hown.1,?_⟩,hl,hsz,hc.mono hμ hH⟩
  rcases hown.2 with h2|⟨g,cap,cur,rfl,hB,hh,r⟩
  ·exact .inl h2
  ·exact .inr ⟨g,cap,cur,rfl,hB,by rw [hb g (by simp [hm,blk])];exact hh,r⟩
 | map es=>
  obtain ⟨r,mes,clock,hm,hB,hh,hc⟩:=h
  exact ⟨r,mes,clock,hμ _ _ hm,hB,by rw [hb r (by simp [hm,blk])];exact hh,hc.mono hμ hH⟩
 | it l pos=>
  obtain ⟨r,hm,hB,hh⟩:=h
  exact ⟨r,hμ _ _ hm,hB,by rw [hb r (by simp [hm,blk])];exact hh⟩
 | mit mid since seen stepped=>
  obtain ⟨r,m,hm,hB,hm2,hh⟩:=h
  exact ⟨r,m,hμ _ _ hm,hB,hμ _ _ hm2,by rw [hb r (by simp [hm,blk])];exact hh⟩
end hp
end Go.Ir
end
section
namespace Go.Ir
open Go.RowKit
inductive X where
 | t (s:Nat)
 | c (v:V)
 deriving Inhabited
inductive KeyK where
 | str
 | int
 | bool
 deriving Inhabited
inductive NilK where
 | p
 | f
 | i
 deriving Inhabited
inductive PuK where
 | isnil (ne:Bool)
 | itos
 | btos
 | aidx (n sz:Nat)
 | bit (op:BinOp)
 | shf (op:BinOp)
 | com
 | aget (n sz:Nat) (ag:Bool)
 | eqs (ne:Bool) (l:List (Nat × KeyK))
 | nilq (k:NilK) (ne:Bool)
 | eqp (ne:Bool)
 | stuck
 deriving Inhabited
inductive RdK where
 | mget (kk:KeyK) (z:V) (ok:Bool)
 | mlen
 deriving Inhabited
inductive WrK where
 | mput (kk:KeyK)
 | next
 deriving Inhabited
inductive MkK where
 | mkmap
 | strit
 | tnew (t:TypeId) (z:V)
 | tbx (t:TypeId)
 deriving Inhabited
inductive IOp where
 | mv (x:X)
 | pick (c a b:X)
 | bin (op:BinOp) (x y:X)
 | eqb (ne:Bool) (x y:X)
 | not (x:X)
 | neg (x:X)
 | cvi (k:IntKind) (x:X)
 | cvs (x:X)
 | fld (x:X) (off n:Nat) (ag:Bool)
 | faddr (x:X) (off:Nat)
 | iaddr (x i:X) (e sz:Nat)
 | idx (x i:X)
 | load (x:X) (n:Nat) (ag:Bool)
 | store (a x:X) (n:Nat)
 | box (x:X)
 | alloc (z:V)
 | build (z:List V) (ps:List (Nat × Nat × X))
 | msl (own:Bool) (e sz:Nat) (xs:List X)
 | slS (x:X) (lo hi:Option X)
 | slL (x:X) (lo hi:Option X) (sz:Nat)
 | lenS (x:X)
 | lenL (x:X)
 | app (s x:X) (e sz:Nat)
 | apps (s x:X) (e:Nat)
 | slT (x hi:X) (sz:Nat)
 | ext (x:X) (k:Nat)
 | call (f:FuncId) (args:List X)
 | calls (f:FuncId) (args:List X)
 | calln (f:FuncId) (args:List X)
 | callr (f:FuncId) (args:List X)
 | callv (g:X) (args:List X)
 | callvs (g:X) (args:List X)
 | mkfn (f:FuncId) (first caps:List X)
 | mksl (len cap:X) (z:V) (e sz:Nat)
 | mx (lo:Bool) (x:X) (xs:List X)
 | nilck (x:X)
 | pu (k:PuK) (xs:List X)
 | rdm (k:RdK) (m:X) (xs:List X)
 | wrm (k:WrK) (m:X) (xs:List X)
 | mkm (k:MkK) (xs:List X)
 | frz (m:X) (n:Nat)
 | mrange (m:X)
 | mentry (m:X)
 | eqr (ne:Bool) (x y:X)
 deriving Inhabited
structure I where
 dst:Option Nat
 op:IOp
 gd:Option (Nat × Bool)
 ap:List X
 deriving Inhabited
inductive IC where
 | ops (l:List I) (live:List Nat) (paths:List (List Nat))
 | seq (a b:IC)
 | cond (c:X) (a b:IC)
 | block (id:Nat) (c:IC)
 | loop (c:IC)
 | exit (id:Nat)
 | ret
 | skip
 | mnext (d1 d2:Nat) (x:X) (live:List Nat)
 | wk (c:IC)
 | opx (l1:List I) (live1:List Nat) (d:Nat) (f:FuncId) (args:List X) (l2:List I) (live:List Nat)
 | opxd (l1:List I) (live1:List Nat) (d:Nat) (f:FuncId) (args:List X) (live:List Nat) (paths:List (List Nat))
 | opxv (l1:List I) (live1:List Nat) (d:Nat) (x:X) (args:List X) (l2:List I) (live:List Nat)
 | seqr (l:List I) (live:List Nat)
 | opxe (l:List I) (i:I) (live:List Nat) (paths:List (List Nat))
 | anyr (l:List I) (live:List Nat) (deps:List (List Nat))
 | opxq (l1:List I) (live1:List Nat) (d:Nat) (g:Nat) (want:Bool) (f:FuncId) (args:List X) (l2:List I) (live:List Nat)
 deriving Inhabited
def ev (g:Nat->V):X->V
 | .t s=>g s
 | .c v=>v
abbrev Env:=List (Nat × V)
def get:Env->Nat->V
 | [],_=>.any
 | (k,v)::r,s=>if k=s then v else get r s
def put (env:Env) (d:Option Nat) (v:V):Env:=
 match d with
 | some d=>(d,v)::env
 | none=>env
def isA:V->Bool
 | .agg _=>true
 | _=>false
def reagg (v:V):V:=.agg (cells v)
def sub (v:V) (off n:Nat) (ag:Bool):Option V:=
 if ag then (if off=0/\(cells v).length=n then some (reagg v) else if off+n<=(cells v).length then some (.agg (((cells v).drop off).take n)) else none)
 else (cells v)[off]?
def setc (u:V) (off n:Nat) (x:V):Option V:=
 if (cells x).length=n then
  (if off=0/\(cells u).length=n/\isA u=isA x then some x
  else if off+n<=(cells u).length then some (.agg ((cells u).take off++cells x++(cells u).drop (off+n))) else none)
 else none
def upd:Sto->Id->Ent->Sto
 | [],_,_=>[]
 | (k,e)::r,id,e'=>if k=id then (k,e')::r else (k,e)::upd r id e'
def del:Sto->Id->Sto
 | [],_=>[]
 | (k,e)::r,id=>if k=id then del r id else (k,e)::del r id
def over (σi σo σ:Sto):Sto:=σo++σ.filter fun p=>(lk σi p.1).isNone
def fillV (z:List V):List (Nat × Nat × V)->Option (List V)
 | []=>some z
 | (off,n,v)::r=>if (cells v).length=n/\off+n<=z.length then fillV (z.take off++cells v++z.drop (off+n)) r else none
def elemsOf (σ:Sto):V->Option (List V)
 | .sl xs=>some xs
 | .nil=>some []
 | .arr id=>match lk σ id with
  | some (.arr _ _ es)=>some es
  | _=>none
 | _=>none
def bnd (g:Nat->V) (dflt:Nat):Option X->Option Nat
 | none=>some dflt
 | some x=>match ev g x with
  | .i _ n=>if 0<=n then some n.toNat else none
  | _=>none
def intE (op:BinOp) (k:IntKind) (a b:Int) (v:V):Prop:=
 match op with
 | .add=>v = .i k (k.wrap (a+b))
 | .sub=>v = .i k (k.wrap (a-b))
 | .mul=>v = .i k (k.wrap (a*b))
 | .quo=>b≠0/\v = .i k (k.wrap (a.tdiv b))
 | .rem=>b≠0/\v = .i k (a.tmod b)
 | .eql=>v = .b (a == b)
 | .neq=>v = .b (a != b)
 | .lss=>v = .b (decide (a<b))
 | .leq=>v = .b (decide (a<=b))
 | .gtr=>v = .b (decide (a>b))
 | .geq=>v = .b (decide (a>=b))
 | _=>False
def strE (op:BinOp) (a b:List UInt8) (v:V):Prop:=
 match op with
 | .add=>a.length+b.length<=SLim/\v = .s (a++b)
 | .eql=>v = .b (a == b)
 | .neq=>v = .b (!(a == b))
 | .lss=>v = .b (Op.bytesLess a b)
 | .leq=>v = .b (Op.bytesLess a b||a == b)
 | .gtr=>v = .b (!(Op.bytesLess a b||a == b))
 | .geq=>v = .b (!Op.bytesLess a b)
 | _=>False
def binE (op:BinOp) (x y v:V):Prop:=
 match x,y with
 | .i k a,.i k' b=>k=k'/\intE op k a b v
 | .s a,.s b=>strE op a b v
 | _,_=>False
def mxV (lo:Bool):V->List V->Option V
 | v,[]=>some v
 | .i k a,.i k' b::r=>if k=k' then mxV lo (.i k (if lo then min a b else max a b)) r else none
 | _,_=>none
def keyEq:KeyK->V->V->Option Bool
 | .str,.s a,.s b=>some (a == b)
 | .int,.i k a,.i k' b=>if k=k' then some (a == b) else none
 | .bool,.b a,.b b=>some (a == b)
 | _,_,_=>none
def isKey:KeyK->V->Bool
 | .str,.s _|.int,.i _ _|.bool,.b _=>true
 | _,_=>false
def findV (kk:KeyK) (k:V):List (V × V)->Nat->Option (Option (Nat × V))
 | [],_=>if isKey kk k then some none else none
 | e::es,i=>match keyEq kk k e.1 with
  | some true=>some (some (i,e.2))
  | some false=>findV kk k es (i+1)
  | none=>none
def byteVs (l:List UInt8):List V:=l.map fun c=>.i .u8 c.toNat
def bytesV:List V->Option (List UInt8)
 | []=>some []
 | .i .u8 n::r=>(bytesV r).map (UInt8.ofNat n.toNat :: ·)
 | _=>none
def eqO (a b:List V):List (Nat × KeyK)->Option Bool
 | []=>some true
 | (o,kk)::r=>match a[o]?,b[o]? with
  | some x,some y=>match keyEq kk x y with
   | some true=>eqO a b r
   | some false=>some false
   | none=>none
  | _,_=>none
def nilV:NilK->V->Option Bool
 | .p,.np=>some true
 | .p,.ref _ _=>some false
 | .p,.aref _ _ _ _=>some false
 | .p,.ep _ _=>some false
 | .f,.nf=>some true
 | .f,.fn _ _ _=>some false
 | .i,.ni=>some true
 | _,_=>none
def eqpV:V->V->Option Bool
 | .np,y=>nilV .p y
 | x,.np=>nilV .p x
 | .ref id o,.ref id' o'=>if id=id' then some (o == o') else none
 | _,_=>none
def isBx:Ent->Bool
 | .box _=>true
 | .tbox _ _=>true
 | _=>false
def eqrV (σ:Sto):V->V->Option Bool
 | .np,y=>nilV .p y
 | x,.np=>nilV .p x
 | .ref id o,.ref id' o'=>if id=id' then some (o == o') else (lk σ id).bind fun e=>(lk σ id').bind fun e'=>if isBx e&&isBx e' then some false else none
 | _,_=>none
def eqN (ne r:Bool):V:=.b (if ne then !r else r)
def bitV (op:BinOp) (k:IntKind) (a b:Int):Option V:=
 match op with
 | .and=>some (.i k (k.wrap (BitVec.ofInt k.bits a &&& BitVec.ofInt k.bits b).toNat))
 | .or=>some (.i k (k.wrap (BitVec.ofInt k.bits a ||| BitVec.ofInt k.bits b).toNat))
 | .xor=>some (.i k (k.wrap (BitVec.ofInt k.bits a ^^^ BitVec.ofInt k.bits b).toNat))
 | .andNot=>some (.i k (k.wrap (BitVec.ofInt k.bits a &&& ~~~BitVec.ofInt k.bits b).toNat))
 | _=>none
def shfV (op:BinOp) (k:IntKind) (a b:Int):Option V:=
 match op with
 | .shl=>some (.i k (k.wrap (a*2 ^ min b.toNat k.bits)))
 | .shr=>some (.i k (a.fdiv (2 ^ min b.toNat k.bits)))
 | _=>none
def puF:PuK->List V->Option V
 | .isnil ne,[.nil]=>some (.b (!ne))
 | .isnil ne,[.sl []]=>some .ub
 | .isnil ne,[.sl (_::_)]=>some (.b ne)
 | .itos,[.i _ n]=>some (.s (Utf8.encode n).data.toList)
 | .btos,[.sl es]=>(bytesV es).map .s
 | .btos,[.nil]=>some (.s [])
 | .aidx n sz,[.ref id off,.i _ i]=>if 0<=i/\i<(n:Int) then some (.ref id (off+i.toNat*sz)) else none
 | .bit op,[.i k a,.i k' b]=>if k=k' then bitV op k a b else none
 | .shf op,[.i k a,.i _ b]=>if 0<=b then shfV op k a b else none
 | .aget n sz ag,[.agg cs,.i _ i]=>if 0<=i/\i<(n:Int) then sub (.agg cs) (i.toNat*sz) sz ag else none
 | .eqs ne l,[.agg a,.agg b]=>(eqO a b l).map fun r=>.b (if ne then !r else r)
 | .nilq k ne,[x]=>(nilV k x).map fun r=>.b (if ne then !r else r)
 | .eqp ne,[x,y]=>(eqpV x y).map fun r=>.b (if ne then !r else r)
 | .com,[.i k a]=>bitV .xor k (if k.signed then -1 else k.max) a
 | _,_=>none
def rdF:RdK->Ent->List V->Option V
 | .mget kk z ok,.map es,[k]=>(findV kk k es 0).map fun r=>match r with
  | some (_,v)=>if ok then .tup [v,.b true] else v
  | none=>if ok then .tup [z,.b false] else z
 | .mlen,.map es,[]=>some (.i .i64 es.length)
 | _,_,_=>none
def wrF:WrK->Ent->List V->Option (Ent × V)
 | .mput kk,.map es,[k,v]=>(findV kk k es 0).map fun r=>match r with
  | some (i,_)=>(.map (es.modify i fun e=>(e.1,v)),.tup [])
  | none=>(.map (es++[(k,v)]),.tup [])
 | .next,.it l pos,[]=>if pos<l.length then (let c:=Utf8.decode ⟨l.toArray⟩ pos;some (.it l (pos+c.2),.tup [.b true,.i .i64 pos,.i .i32 c.1])) else some (.it l pos,.tup [.b false])
 | _,_,_=>none
def mkF:MkK->List V->Option Ent
 | .mkmap,[]=>some (.map [])
 | .strit,[.s l]=>some (.it l 0)
 | .tnew t z,[]=>some (.tbox t z)
 | .tbx t,[x]=>if x.ok=true then some (.tbox t x) else none
 | _,_=>none
def mkV:MkK->Id->V
 | .tnew _ _,id|.tbx _,id=>.ref id 0
 | _,id=>.arr id
def ldB (en:Ent) (off n:Nat) (ag:Bool):Option V:=
 match en with
 | .box u=>sub u off n ag
 | .tbox _ u=>sub u off n ag
 | _=>none
def stB (en:Ent) (off n:Nat) (x:V):Option Ent:=
 match en with
 | .box u=>(setc u off n x).map .box
 | .tbox t u=>(setc u off n x).map (.tbox t)
 | _=>none
theorem ldB_some {en:Ent} {off n:Nat} {ag:Bool} {v:V} (h:ldB en off n ag=some v):∃u,(en = .box u\/∃t,en = .tbox t u)/\sub u off n ag=some v:=by
 unfold ldB at h
 split at h
 ·exact ⟨_,.inl rfl,h⟩
 ·exact ⟨_,.inr ⟨_,rfl⟩,h⟩
 ·cases h
theorem stB_some {en en':Ent} {off n:Nat} {x:V} (h:stB en off n x=some en'):∃u u',setc u off n x=some u'/\(en = .box u/\en' = .box u'\/∃t,en = .tbox t u/\en' = .tbox t u'):=by
 unfold stB at h
 split at h
 ·rename_i u
  cases hs:setc u off n x with
  | none=>rw [hs] at h;cases h
  | some u'=>rw [hs] at h;cases h;exact ⟨u,u',hs,.inl ⟨rfl,rfl⟩⟩
 ·rename_i t u
  cases hs:setc u off n x with
  | none=>rw [hs] at h;cases h
  | some u'=>rw [hs] at h;cases h;exact ⟨u,u',hs,.inr ⟨t,rfl,rfl⟩⟩
 ·cases h
def callable (P:Program) (f:FuncId):Bool:=
 match P.funcs[f]? with
 | some fn => fn.body.isSome && !(fn.name == "runtime.NumGoroutine")
 | none=>false
structure RetS (P:Program) (W0:World) (f:FuncId) (args:List V) (σ:Sto) (v:V) (σ':Sto):Prop where
 callable:callable P f=true
 dom:∀id,lk σ' id≠none->lk σ id≠none
 run:∀n w μ H vals,Hp W0 σ n μ H w->VRels μ H args vals->Calls P f vals.toArray w fun e w'=>
  ∃val μ' H' n',e = .returned val/\VRel μ' H' v val/\Hp W0 σ' n' μ' H' w'/\n<=n'/\Fr μ H σ w μ' H' σ' w'/\∀id,id.1<n->μ id=none->μ' id=none
structure RetN (P:Program) (W0:World) (f:FuncId) (args:List V) (σ:Sto) (x:Ent) (σ':Sto):Prop where
 callable:callable P f=true
 dom:∀id,lk σ' id≠none->lk σ id≠none
 run:∀n w μ H vals,Hp W0 σ n μ H w->VRels μ H args vals->Calls P f vals.toArray w fun e' w'=>
  ∃val μ' H' n' id,e' = .returned val/\μ' id=some val/\val.oneCell'=true/\μ id=none/\lk σ' id=none/\Hp W0 ((id,x)::σ') n' μ' H' w'/\n<=n'/\Fr μ H σ w μ' H' ((id,x)::σ') w'/\∀id,id.1<n->μ id=none->μ' id=none
def E (P:Program) (W0:World) (ep:Nat) (d:Option Nat) (op:IOp) (g:Nat->V) (σ:Sto) (v:V) (σ':Sto):Prop:=
 match op with
 | .mv x=>v=ev g x/\σ'=σ
 | .pick c a b=>∃t,ev g c = .b t/\v=(bif t then ev g a else ev g b)/\σ'=σ
 | .bin op x y=>binE op (ev g x) (ev g y) v/\σ'=σ
 | .eqb ne x y=>∃a b,ev g x = .b a/\ev g y = .b b/\v = .b (if ne then !(a == b) else a == b)/\σ'=σ
 | .not x=>∃a,ev g x = .b a/\v = .b (!a)/\σ'=σ
 | .neg x=>∃k n,ev g x = .i k n/\v = .i k (k.wrap (0-n))/\σ'=σ
 | .cvi k x=>∃k' n,ev g x = .i k' n/\v = .i k (k.wrap n)/\σ'=σ
 | .cvs x=>∃l,ev g x = .s l/\v = .s l/\σ'=σ
 | .fld x off n ag=>isA (ev g x)=true/\sub (ev g x) off n ag=some v/\σ'=σ
 | .faddr x off=>(match ev g x with
  | .ref id o=>v = .ref id (o+off)
  | .aref id ix sz o=>v = .aref id ix sz (o+off)
  | .ep e o=>v = .ep e (o+off)
  | _=>False)/\σ'=σ
 | .iaddr x i e sz=>(match ev g i with
  | .i _ n=>0<=n/\(match ev g x with
   | .sl es=>∃el,es[n.toNat]? = some el/\(cells el).length=sz/\v = .ep el 0
   | .arr id=>∃e' es,lk σ id=some (.arr e' sz es)/\n.toNat<es.length/\v = .aref id n.toNat sz 0
   | _=>False)
  | _=>False)/\σ'=σ
 | .idx x i=>∃l k n c,ev g x = .s l/\ev g i = .i k n/\0<=n/\l[n.toNat]? = some c/\v = .i .u8 c.toNat/\σ'=σ
 | .load x n ag=>(match ev g x with
  | .ref id off=>∃en,lk σ id=some en/\ldB en off n ag=some v
  | .aref id ix sz off=>∃e es el,lk σ id=some (.arr e sz es)/\es[ix]? = some el/\sub el off n ag=some v
  | .ep u off=>sub u off n ag=some v
  | _=>False)/\σ'=σ
 | .store a x n=>(ev g x).ok=true/\v = .tup []/\(match ev g a with
  | .ref id off=>∃en en',lk σ id=some en/\stB en off n (ev g x)=some en'/\σ'=upd σ id en'
  | .aref id ix sz off=>∃e es el el',lk σ id=some (.arr e sz es)/\es[ix]? = some el/\setc el off n (ev g x)=some el'/\σ'=upd σ id (.arr e sz (es.set ix el'))
  | _=>False)
 | .box x=>∃dd,d=some dd/\(ev g x).ok=true/\v = .ref (ep,dd) 0/\σ'=((ep,dd),.box (ev g x))::σ
 | .alloc z=>∃dd,d=some dd/\v = .ref (ep,dd) 0/\σ'=((ep,dd),.box z)::σ
 | .build z ps=>(∀p∈ps,(ev g p.2.2).ok=true)/\(∃cs,fillV z (ps.map fun p=>(p.1,p.2.1,ev g p.2.2))=some cs/\v = .agg cs)/\σ'=σ
 | .msl own e sz xs=>(∀x∈xs.map (ev g),x.ok=true/\(cells x).length=sz)/\(if own then ∃dd,d=some dd/\v = .arr (ep,dd)/\σ'=((ep,dd),.arr e sz (xs.map (ev g)))::σ else v = .sl (xs.map (ev g))/\σ'=σ)
 | .slS x lo hi=>∃l a b,ev g x = .s l/\bnd g 0 lo=some a/\bnd g l.length hi=some b/\a<=b/\b<=l.length/\v = .s ((l.take b).drop a)/\σ'=σ
 | .slL x lo hi sz=>∃es a b,(ev g x = .sl es\/ev g x = .nil/\es=[])/\bnd g 0 lo=some a/\bnd g es.length hi=some b/\a<=b/\b<=es.length/\(∀y∈es,(cells y).length=sz)/\v = .sl ((es.take b).drop a)/\σ'=σ
 | .lenS x=>∃l,ev g x = .s l/\v = .i .i64 l.length/\σ'=σ
 | .lenL x=>∃es,elemsOf σ (ev g x)=some es/\v = .i .i64 es.length/\σ'=σ
 | .app s x e sz=>∃dd xs,d=some dd/\elemsOf σ (ev g x)=some xs/\(∀y∈xs,(cells y).length=sz)/\v = .arr (ep,dd)/\(match ev g s with
  | .nil=>xs.length<=LLim/\σ'=((ep,dd),.arr e sz xs)::σ
  | .arr id=>∃es,lk σ id=some (.arr e sz es)/\es.length+xs.length<=LLim/\σ'=((ep,dd),.arr e sz (es++xs))::del σ id
  | _=>False)
 | .apps s x e=>∃dd l,d=some dd/\ev g x = .s l/\v = .arr (ep,dd)/\(match ev g s with
  | .nil=>l.length<=LLim/\σ'=((ep,dd),.arr e 1 (byteVs l))::σ
  | .arr id=>∃es,lk σ id=some (.arr e 1 es)/\es.length+l.length<=LLim/\σ'=((ep,dd),.arr e 1 (es++byteVs l))::del σ id
  | _=>False)
 | .slT x hi sz=>∃dd id e es q,d=some dd/\ev g x = .arr id/\lk σ id=some (.arr e sz es)/\bnd g es.length (some hi)=some q/\q<=es.length/\v = .arr (ep,dd)/\σ'=((ep,dd),.arr e sz (es.take q))::del σ id
 | .ext x k=>∃vs,ev g x = .tup vs/\vs[k]? = some v/\σ'=σ
 | .call f args=>RetS P W0 f (args.map (ev g)) [] v []/\σ'=σ
 | .calls f args=>∃σi σo,RetS P W0 f (args.map (ev g)) σi v σo/\(∀id e,lk σi id=some e->lk σ id=some e)/\σ'=over σi σo σ
 | .calln f args=>∃dd σi σo x,d=some dd/\RetN P W0 f (args.map (ev g)) σi x σo/\(∀id e,lk σi id=some e->lk σ id=some e)/\v = .arr (ep,dd)/\σ'=((ep,dd),x)::over σi σo σ
 | .callr f args=>(∃σi,RetS P W0 f (args.map (ev g)) σi v σi/\(∀id e,lk σi id=some e->lk σ id=some e))/\σ'=σ
 | .callv h args=>∃f first caps,ev g h = .fn f first caps/\RetS P W0 f (first++args.map (ev g)++caps) [] v []/\σ'=σ
 | .callvs h args=>∃f first caps σi σo,ev g h = .fn f first caps/\RetS P W0 f (first++args.map (ev g)++caps) σi v σo/\(∀id e,lk σi id=some e->lk σ id=some e)/\σ'=over σi σo σ
 | .mkfn f first caps=>v = .fn f (first.map (ev g)) (caps.map (ev g))/\σ'=σ
 | .mksl l c z e sz=>∃dd k k' n m,d=some dd/\ev g l = .i k (Int.ofNat n)/\ev g c = .i k' (Int.ofNat m)/\n<=m/\m<=LLim/\v = .arr (ep,dd)/\σ'=((ep,dd),.arr e sz (List.replicate n z))::σ
 | .mx lo x xs=>mxV lo (ev g x) (xs.map (ev g))=some v/\σ'=σ
 | .nilck x=>(match ev g x with
  | .ref _ _|.aref _ _ _ _|.ep _ _|.fn _ _ _=>True
  | _=>False)/\v=ev g x/\σ'=σ
 | .pu k xs=>puF k (xs.map (ev g))=some v/\σ'=σ
 | .rdm k m xs=>(∃id e,ev g m = .arr id/\lk σ id=some e/\rdF k e (xs.map (ev g))=some v)/\σ'=σ
 | .wrm k m xs=>∃id e e',ev g m = .arr id/\lk σ id=some e/\wrF k e (xs.map (ev g))=some (e',v)/\σ'=upd σ id e'
 | .mkm k xs=>∃dd e,d=some dd/\mkF k (xs.map (ev g))=some e/\v=mkV k (ep,dd)/\σ'=((ep,dd),e)::σ
 | .frz m n=>∃id cs,ev g m = .ref id 0/\lk σ id=some (.box (.agg cs))/\cs.length=n/\(∀c∈cs,cells c=[c])/\v = .sl cs/\σ'=del σ id
 | .mrange m=>∃dd mid es,d=some dd/\ev g m = .arr mid/\lk σ mid=some (.map es)/\v = .arr (ep,dd)/\σ'=((ep,dd),.mit mid es.length [] es.length)::σ
 | .mentry m=>∃id mid since seen i es kv,ev g m = .arr id/\lk σ id=some (.mit mid since seen es.length)/\seen.getLast? = some i/\lk σ mid=some (.map es)/\es[i]? = some kv/\v = .tup [kv.1,kv.2]/\σ'=σ
 | .eqr ne x y=>(eqrV σ (ev g x) (ev g y)).map (eqN ne)=some v/\σ'=σ
def IOp.cs:IOp->List X
 | .load x _ _|.lenL x|.iaddr x _ _ _|.store x _ _=>[x]
 | .app s x _ _=>[s,x]
 | .apps s _ _=>[s]
 | .slT x _ _=>[x]
 | .rdm _ m _|.wrm _ m _=>[m]
 | .frz m _|.mrange m|.mentry m=>[m]
 | _=>[]
def refId:V->Option Id
 | .ref id _=>some id
 | .aref id _ _ _=>some id
 | .arr id=>some id
 | _=>none
def apOk (i:I) (g:Nat->V):Prop:=∀x∈i.ap,∀y∈i.op.cs,∀id,refId (ev g x)=some id->refId (ev g y)≠some id
def IOp.cl:IOp->Bool
 | .calls ..|.calln ..|.callvs ..|.mentry ..|.callr ..|.eqr ..=>true
 | _=>false
def apKeep (i:I) (g:Nat->V) (σ σ':Sto):Prop:=i.op.cl=true->∀x∈i.ap,∀id,refId (ev g x)=some id->lk σ id≠none->lk σ' id=lk σ id
def EA (P:Program) (W0:World) (ep:Nat) (i:I) (g:Nat->V) (σ:Sto) (v:V) (σ':Sto):Prop:=E P W0 ep i.dst i.op g σ v σ'/\apOk i g/\apKeep i g σ σ'
def stepI (P:Program) (W0:World) (ep:Nat) (i:I) (env:Env) (σ:Sto) (K:Env->Sto->Prop):Prop:=
 match i.gd with
 | none=>∃v σ',EA P W0 ep i (get env) σ v σ'/\K (put env i.dst v) σ'
 | some (s,want)=>
  match get env s with
  | .b t=>(t=want->∃v σ',EA P W0 ep i (get env) σ v σ'/\K (put env i.dst v) σ')/\(t≠want->K (put env i.dst (.tup [])) σ)
  | .tup []=>K (put env i.dst (.tup [])) σ
  | _=>False
def iops (P:Program) (W0:World) (ep:Nat):List I->Env->Sto->(Env->Sto->Prop)->Prop
 | [],env,σ,K=>K env σ
 | i::l,env,σ,K=>stepI P W0 ep i env σ fun env' σ'=>iops P W0 ep l env' σ' K
def isStore:IOp->Bool
 | .store _ _ _=>true
 | .wrm (.mput _) _ _=>true
 | _=>false
def okC:Value->V->Bool
 | .bool x,.b y=>x == y
 | .int k n,.i k' m=>k == k'&&n == m
 | .string s,.s l=>s.data.toList == l&&decide (l.length<=SLim)
 | .slice none 0 0,.nil=>true
 | .pointer none,.np=>true
 | .nilFunc,.nf=>true
 | .nilIface,.ni=>true
 | .map none,.nm=>true
 | _,_=>false
def okCs:List Value->List V->Bool
 | [],[]=>true
 | x::xs,y::ys=>okC x y&&okCs xs ys
 | _,_=>false
def okZ:Value->V->Bool
 | .agg vs,.agg cs=>okCs vs.toList cs
 | .agg _,_=>false
 | _,.agg _=>false
 | v,c=>okC v c
def okX:Operand->X->Bool
 | .tmp t,.t s=>t == s
 | .const v,.c x=>okC v x
 | .func f,.c (.fn g [] [])=>f == g
 | _,_=>false
def okXs:List Operand->List X->Bool
 | [],[]=>true
 | x::xs,y::ys=>okX x y&&okXs xs ys
 | _,_=>false
def okXo:Option Operand->Option X->Bool
 | none,none=>true
 | some x,some y=>okX x y
 | _,_=>false
section tables
variable (P : Program)
def sizeT (t:TypeId):Option Nat:=(P.info? t).map (·.size)
def aggD:TypeDesc->Bool
 | .struct _|.array _ _=>true
 | _=>false
def aggT (t:TypeId):Option Bool:=(P.underlying t).map aggD
def sliceT (t:TypeId):Option TypeId:=match P.underlying t with|some (.slice e)=>some e|_=>none
def isStrT (t:TypeId):Bool:=match P.underlying t with|some .string=>true|_=>false
def isBoolT (t:TypeId):Bool:=match P.underlying t with|some .bool=>true|_=>false
def intT (t:TypeId):Option IntKind:=match P.underlying t with|some (.int k)=>some k|_=>none
def fieldsT (t:TypeId):Option (Array Field):=match P.underlying t with|some (.struct fs)=>some fs|_=>none
def zeroT (t:TypeId):Option Value:=(P.info? t).bind (·.zero)
def zeroOk (t:TypeId) (z:V):Bool:=match zeroT P t with|some zv=>okZ zv z|none=>false
def elemOk (e sz:Nat):Bool:=
 match P.info? e with
 | some i=>i.size == sz&&decide (0<sz)&&decide (i.bytes<=32768)&&(match i.zero with|some z=>z.cells.size == sz&&z.cells.all (·.oneCell')|none=>false)
 | none=>false
def fieldT (t:TypeId) (f:Nat):Option Field:=(fieldsT P t).bind fun fs=>fs[f]?
def fldOk (t:TypeId) (f off n:Nat) (ag:Bool):Bool:=
 match fieldT P t f with
 | some fd=>fd.offset == off&&sizeT P fd.type == some n&&aggT P fd.type == some ag
 | none=>false
def faddrOk (t:TypeId) (f off:Nat):Bool:=
 match fieldT P t f with
 | some fd=>fd.offset == off&&decide (0<(sizeT P fd.type).getD 0)
 | none=>false
def placesT (t:TypeId):Option (List (Nat × Nat)):=(fieldsT P t).bind fun fs=>fs.toList.mapM fun f=>(P.info? f.type).map fun i=>(f.offset,i.size)
def placesA (t:TypeId):Option (List (Nat × Nat)):=
 match P.underlying t with
 | some (.array k e)=>(P.info? e).map fun i=>(List.range k).map fun j=>(j*i.size,i.size)
 | _=>placesT P t
def okParts (pl:List (Nat × Nat)):List (Nat × Operand)->List (Nat × Nat × X)->Bool
 | [],[]=>true
 | (f,x)::r,(off,n,y)::r'=>pl[f]? == some (off,n)&&okX x y&&okParts pl r r'
 | _,_=>false
def okElems:Nat->List (Nat × Operand)->List X->Bool
 | _,[],[]=>true
 | k,(j,x)::r,y::r'=>j == k&&okX x y&&okElems (k+1) r r'
 | _,_,_=>false
def mapT (t:TypeId):Option (TypeId × TypeId):=match P.underlying t with|some (.map k e)=>some (k,e)|_=>none
def keyT (kk:KeyK) (t:TypeId):Bool:=match kk,P.underlying t with
 | .str,some .string|.int,some (.int _)|.bool,some .bool=>true
 | _,_=>false
def nilT (k:NilK) (t:TypeId) (c:Value):Bool:=
 match k,P.underlying t,c with
 | .p,some (.pointer _),.pointer none=>true
 | .f,some (.func _ _ _),.nilFunc=>true
 | .i,some (.interface _),.nilIface=>true
 | _,_,_=>false
def okEqs:List Field->List (Nat × KeyK)->Bool
 | [],[]=>true
 | f :: fs, (o, kk) :: l => f.offset == o && f.name != "_" && keyT P kk f.type && sizeT P f.type == some 1 && okEqs fs l
 | _,_=>false
def okPu (k:PuK) (o:Op) (xs:List X):Bool:=
 match k with
 | .isnil ne=>(match o with|.binOp op' t x' (.const (.slice none 0 0)) _=>(op' == (if ne then BinOp.neq else BinOp.eql))&&(sliceT P t).isSome&&okXs [x'] xs|_=>false)
 | .itos=>(match o with|.convert src dst x'=>(intT P src).isSome&&isStrT P dst&&okXs [x'] xs|_=>false)
 | .btos=>(match o with|.convert src dst x'=>((sliceT P src).bind (intT P)) == some .u8&&isStrT P dst&&okXs [x'] xs|_=>false)
 | .aidx n sz=>(match o with|.indexAddr t x' i'=>(match P.underlying t with|some (.array n' e)=>n' == n&&sizeT P e == some sz|_=>false)&&okXs [x',i'] xs|_=>false)
 | .bit op=>(match o with|.binOp op' _ x' y' _=>op' == op&&okXs [x',y'] xs|_=>false)
 | .shf op=>(match o with|.binOp op' _ x' y' _=>op' == op&&okXs [x',y'] xs|_=>false)
 | .aget n sz ag=>(match o with|.index t x' i'=>(match P.underlying t with|some (.array n' e)=>n' == n&&sizeT P e == some sz&&aggT P e == some ag|_=>false)&&okXs [x',i'] xs|_=>false)
 | .eqs ne l=>(match o with|.binOp op' t x' y' _=>(op' == (if ne then BinOp.neq else BinOp.eql))&&(match P.underlying t with|some (.struct fs)=>okEqs P fs.toList l|_=>false)&&!P.stoodInHeld t&&!P.eqGuardType P.depth t&&okXs [x',y'] xs|_=>false)
 | .nilq k ne=>(match o with|.binOp op' t x' (.const c) _=>(op' == (if ne then BinOp.neq else BinOp.eql))&&nilT P k t c&&okXs [x'] xs|_=>false)
 | .eqp ne=>(match o with|.binOp op' t x' y' _=>(op' == (if ne then BinOp.neq else BinOp.eql))&&(match P.underlying t with|some (.pointer e)=>(match sizeT P e with|some (_+1)=>true|_=>false)|_=>false)&&okXs [x',y'] xs|_=>false)
 | .stuck=>true
 | .com=>(match o with|.unOp .xor _ x'=>okXs [x'] xs|_=>false)
def okRd (k:RdK) (o:Op) (m:X) (xs:List X):Bool:=
 match k with
 | .mget kk z ok=>(match o with|.lookup t m' k' ok'=>(match mapT P t with|some (kt,et)=>keyT P kk kt&&zeroOk P et z|none=>false)&&ok' == ok&&okX m' m&&okXs [k'] xs|_=>false)
 | .mlen=>(match o with|.call c=>(match c.callee with|.builtin .len=>(mapT P (c.argTypes.getD 0 0)).isSome&&c.argTypes.size == 1&&okXs c.args.toList (m::xs)&&xs.isEmpty|_=>false)|_=>false)
def okWr (k:WrK) (o:Op) (m:X) (xs:List X):Bool:=
 match k with
 | .mput kk=>(match o with
  | .mapUpdate t m' k' v'=>(match mapT P t with|some (kt,et)=>keyT P kk kt|none=>false)&&okX m' m&&okXs [k',v'] xs
  | .insert t m' k' v'=>(match mapT P t with|some (kt,et)=>keyT P kk kt|none=>false)&&okX m' m&&okXs [k',v'] xs
  | _=>false)
 | .next=>(match o with|.next m' true=>okX m' m&&xs.isEmpty|_=>false)
def okMk (k:MkK) (o:Op) (xs:List X):Bool:=
 match k with
 | .mkmap=>(match o with|.makeMap t none=>xs.isEmpty|_=>false)
 | .strit=>(match o with|.range t x'=>isStrT P t&&okXs [x'] xs|_=>false)
 | .tnew t z=>(match o with|.alloc t'=>t' == t&&zeroOk P t z&&xs.isEmpty|_=>false)
 | .tbx t=>(match o with|.box t' x'=>t' == t&&okXs [x'] xs|_=>false)
def byteOk (e:TypeId):Bool:=
 match P.info? e with
 | some i=>i.size == 1&&i.bytes == 1&&(match i.zero with|some (.int .u8 0)=>true|_=>false)
 | none=>false
def okOp (o:Op) (i:IOp):Bool:=
 match i with
 | .mv y=>(match o with|.move x=>okX x y|.assign x=>okX x y|_=>false)
 | .pick c a b=>(match o with|.pick c' a' b'=>okX c' c&&okX a' a&&okX b' b|_=>false)
 | .bin op x y=>(match o with|.binOp op' _ x' y' _=>op' == op&&okX x' x&&okX y' y|_=>false)
 | .eqb ne x y=>(match o with|.binOp op' t x' y' _=>(op' == (if ne then BinOp.neq else BinOp.eql))&&isBoolT P t&&okX x' x&&okX y' y|_=>false)
 | .not x=>(match o with|.unOp .not _ x'=>okX x' x|_=>false)
 | .neg x=>(match o with|.unOp .neg _ x'=>okX x' x|_=>false)
 | .cvi k x=>(match o with|.convert src dst x'=>(P.underlying src).isSome&&intT P dst == some k&&okX x' x|_=>false)
 | .cvs x=>(match o with|.convert src dst x'=>isStrT P src&&isStrT P dst&&okX x' x|_=>false)
 | .fld x off n ag=>(match o with|.field t x' f=>fldOk P t f off n ag&&okX x' x|_=>false)
 | .faddr x off=>(match o with|.fieldAddr t x' f=>faddrOk P t f off&&okX x' x|_=>false)
 | .iaddr x i e sz=>(match o with|.indexAddr t x' i'=>sliceT P t == some e&&sizeT P e == some sz&&okX x' x&&okX i' i|_=>false)
 | .idx x i=>(match o with|.index t x' i'=>isStrT P t&&okX x' x&&okX i' i|_=>false)
 | .load x n ag=>(match o with|.load t x'=>sizeT P t == some n&&aggT P t == some ag&&okX x' x|_=>false)
 | .store a x n=>(match o with|.store t a' x'=>sizeT P t == some n&&okX a' a&&okX x' x|_=>false)
 | .box x=>(match o with|.box _ x'=>okX x' x|_=>false)
 | .alloc z=>(match o with|.alloc t=>zeroOk P t z|_=>false)
 | .build z ps=>(match o with|.build t ps'=>zeroOk P t (.agg z)&&(placesA P t).isSome&&okParts ((placesA P t).getD []) ps'.toList ps|_=>false)
 | .msl _ e sz xs=>(match o with|.buildSlice t len ps=>sliceT P t == some e&&elemOk P e sz&&len == xs.length&&decide (len*sz<=16777216)&&okElems 0 ps.toList xs|_=>false)
 | .slS x lo hi=>(match o with|.slice t x' lo' hi' none=>isStrT P t&&okX x' x&&okXo lo' lo&&okXo hi' hi|_=>false)
 | .slL x lo hi sz=>(match o with|.slice t x' lo' hi' none=>(sliceT P t).isSome&&sizeT P ((sliceT P t).getD 0) == some sz&&okX x' x&&okXo lo' lo&&okXo hi' hi|_=>false)
 | .lenS x=>(match o with|.call c=>(match c.callee with|.builtin .len=>isStrT P (c.argTypes.getD 0 0)&&c.argTypes.size == 1&&okXs c.args.toList [x]|_=>false)|_=>false)
 | .lenL x=>(match o with|.call c=>(match c.callee with|.builtin .len=>(sliceT P (c.argTypes.getD 0 0)).isSome&&c.argTypes.size == 1&&okXs c.args.toList [x]|_=>false)|_=>false)
 | .app s x e sz=>(match o with|.call c=>(match c.callee with|.builtin .append=>c.argTypes == #[c.argTypes.getD 0 0,c.argTypes.getD 0 0]&&sliceT P (c.argTypes.getD 0 0) == some e&&elemOk P e sz&&okXs c.args.toList [s,x]|_=>false)|_=>false)
 | .apps s x e=>(match o with|.call c=>(match c.callee with|.builtin .append=>c.argTypes == #[c.argTypes.getD 0 0,c.argTypes.getD 1 0]&&sliceT P (c.argTypes.getD 0 0) == some e&&isStrT P (c.argTypes.getD 1 0)&&byteOk P e&&okXs c.args.toList [s,x]|_=>false)|_=>false)
 | .slT x hi sz=>(match o with|.slice t x' none (some hi') none=>(sliceT P t).isSome&&sizeT P ((sliceT P t).getD 0) == some sz&&okX x' x&&okX hi' hi|_=>false)
 | .ext x k=>(match o with|.extract x' k'=>k' == k&&okX x' x|_=>false)
 | .call f args=>(match o with|.call c=>(match c.callee with|.value (.func f')=>f' == f&&okXs c.args.toList args|_=>false)|_=>false)
 | .calls f args=>(match o with|.call c=>(match c.callee with|.value (.func f')=>f' == f&&okXs c.args.toList args|_=>false)|_=>false)
 | .calln f args=>(match o with|.call c=>(match c.callee with|.value (.func f')=>f' == f&&okXs c.args.toList args|_=>false)|_=>false)
 | .callr f args=>(match o with|.call c=>(match c.callee with|.value (.func f')=>f' == f&&okXs c.args.toList args|_=>false)|_=>false)
 | .callv h args=>(match o with|.call c=>(match c.callee with|.value h'=>okX h' h&&okXs c.args.toList args|_=>false)|_=>false)
 | .callvs h args=>(match o with|.call c=>(match c.callee with|.value h'=>okX h' h&&okXs c.args.toList args|_=>false)|_=>false)
 | .mkfn f first caps=>(match o with|.makeFunc (.func f') first' caps'=>f' == f&&okXs first'.toList first&&okXs caps'.toList caps|_=>false)
 | .mksl l c z e sz=>(match o with|.makeSlice t l' c'=>sliceT P t == some e&&elemOk P e sz&&zeroOk P e z&&okX l' l&&okX c' c|_=>false)
 | .mx lo x xs=>(match o with|.call c=>(match c.callee with|.builtin b=>(b == (if lo then Builtin.min else Builtin.max))&&okXs c.args.toList (x::xs)|_=>false)|_=>false)
 | .nilck x=>(match o with|.nilCheck x'=>okX x' x|_=>false)
 | .pu k xs=>okPu P k o xs
 | .rdm k m xs=>okRd P k o m xs
 | .wrm k m xs=>okWr P k o m xs
 | .mkm k xs=>okMk P k o xs
 | .frz m n=>(match o with|.slice t x' none none none=>(match P.underlying t with|some (.array q e)=>q == n&&sizeT P e == some 1&&decide (n<=1024)|_=>false)&&okX x' m|_=>false)
 | .mrange m=>(match o with|.range t x'=>(mapT P t).isSome&&okX x' m|_=>false)
 | .mentry m=>(match o with|.entry x'=>okX x' m|_=>false)
 | .eqr ne x y=>okPu P (.eqp ne) o [x,y]
end tables
end Go.Ir
end
section
namespace Go.Ir
open Go.RowKit
theorem lk_upd {σ:Sto} {id:Id} {e:Ent} {x:Ent} (h:lk σ id=some x) (k:Id):lk (upd σ id e) k=if id=k then some e else lk σ k:=by
 induction σ with
 | nil=>simp [lk] at h
 | cons p r ih=>
  obtain ⟨k0,e0⟩:=p
  by_cases h0:k0=id
  ·subst h0
   simp only [upd,if_true,lk]
   split<;>rfl
  ·simp only [lk,if_neg h0] at h
   have:=ih h
   simp only [upd,if_neg h0,lk]
   by_cases hk:k0=k
   ·subst hk;simp only [if_true];rw [if_neg (fun e=>h0 e.symm)]
   ·simp only [if_neg hk];exact this
theorem lk_del (σ:Sto) (id k:Id):lk (del σ id) k=if id=k then none else lk σ k:=by
 induction σ with
 | nil=>simp [lk,del]
 | cons p r ih=>
  obtain ⟨k0,e0⟩:=p
  by_cases h0:k0=id
  ·subst h0
   simp only [del,if_true,lk,ih]
   split<;>rfl
  ·simp only [del,if_neg h0,lk,ih]
   by_cases hk:k0=k
   ·subst hk;simp only [if_true];rw [if_neg (fun e=>h0 e.symm)]
   ·simp only [if_neg hk]
theorem lk_append (σ τ:Sto) (k:Id):lk (σ++τ) k=match lk σ k with|some e=>some e|none=>lk τ k:=by
 induction σ with
 | nil=>simp [lk]
 | cons p r ih=>
  obtain ⟨k0,e0⟩:=p
  simp only [List.cons_append,lk]
  by_cases h:k0=k
  ·simp [h]
  ·simp only [if_neg h];exact ih
theorem lk_filter (q:Id->Bool) (σ:Sto) (k:Id):lk (σ.filter fun p=>q p.1) k=if q k then lk σ k else none:=by
 induction σ with
 | nil=>simp [lk]
 | cons p r ih=>
  obtain ⟨k0,e0⟩:=p
  by_cases hq:q k0=true
  ·simp only [List.filter_cons,hq,if_true,lk]
   by_cases h:k0=k
   ·subst h;simp [hq]
   ·simp only [if_neg h];exact ih
  ·simp only [List.filter_cons,hq,lk]
   by_cases h:k0=k
   ·subst h;rw [if_neg (by simp),ih,if_neg hq];simp [hq]
   ·simp only [if_neg h];rw [if_neg (by simp)];exact ih
theorem lk_over (σi σo σ:Sto) (k:Id):lk (over σi σo σ) k=match lk σo k with|some e=>some e|none=>if (lk σi k).isNone then lk σ k else none:=by
 unfold over
 rw [lk_append,lk_filter (fun k=>(lk σi k).isNone)]
structure Turned (R:Nat->Prop) (w w':World):Prop where
 os:w'.os=w.os
 tape:w'.tape=w.tape
 output:w'.output=w.output
 size:w.heap.size<=w'.heap.size
 block:∀k,k<w.heap.size->¬R k->w'.heap[k]? = w.heap[k]?
theorem Turned.of_grown {w w':World} {row:Option Nat} (h:w.grownBy w' row):Turned (fun k=>some k=row) w w':=
 ⟨h.os,h.tape,h.output,h.size,fun k hk hr=>h.block k hk hr⟩
theorem Turned.alloc (w:World) (o:Obj):Turned (fun _=>False) w (w.alloc o):=
 ⟨rfl,rfl,rfl,by simp,fun k hk _=>heap_alloc_old w o k hk⟩
theorem Turned.setRow (w:World) (g:Nat) (cs:Array Value):Turned (fun k=>k=g) w (w.setRow g cs):=
 ⟨rfl,rfl,rfl,by simp,fun k _ hk=>setRow_other w g k cs hk⟩
def setμ (μ:Id->Option Value) (id:Id) (v:Value):Id->Option Value:=fun k=>if k=id then some v else μ k
theorem setμ_mono {μ:Id->Option Value} {id:Id} {v:Value} (h:μ id=none):∀k x,μ k=some x->setμ μ id v k=some x:=by
 intro k x hx
 unfold setμ
 split
 ·rename_i e;subst e;rw [h] at hx;cases hx
 ·exact hx
theorem setμ_self (μ:Id->Option Value) (id:Id) (v:Value):setμ μ id v id=some v:=by simp [setμ]
theorem setμ_ne (μ:Id->Option Value) {id k:Id} (v:Value) (h:k≠id):setμ μ id v k=μ k:=by simp [setμ,h]
section
variable {W0 w w' : World} {σ σ1 : Sto} {n n' : Nat} {μ : Id → Option Value} {H : Addr → Option Value}
theorem Hp.pin_lt (hp:Hp W0 σ n μ H w) {ad:Addr} {v:Value} (h:H ad=some v):ad.block<w.heap.size:=World.block_lt_of_cell? w ad (hp.pins ad v h)
theorem Hp.pin_new (hp:Hp W0 σ n μ H w) {ad:Addr} (h:w.heap.size<=ad.block):H ad=none:=by
 cases hh:H ad with
 | none=>rfl
 | some v=>have:=hp.pin_lt hh;omega
theorem Hp.base_turned (hp:Hp W0 σ n μ H w) {R:Nat->Prop} (ht:Turned R w w') (hR:∀k,R k->Own μ σ k):Below W0.heap.size W0 w':=by
 refine hp.base.trans ⟨ht.os,ht.tape,ht.output,ht.size,fun k hk=>?_⟩
 exact ht.block k (Nat.lt_of_lt_of_le hk hp.base.size) (fun hr=>by have:=(hp.own_lt (hR k hr)).1;omega)
theorem Hp.pins_turned (hp:Hp W0 σ n μ H w) {R:Nat->Prop} (ht:Turned R w w') (hR:∀k,R k->Own μ σ k):∀ad v,H ad=some v->w'.cell? ad=some v:=by
 intro ad v h
 rw [World.cell?_of_block (w:=w) (ht.block ad.block (hp.pin_lt h) (fun hr=>by rw [hp.unp _ (hR _ hr) ad rfl] at h;cases h))]
 exact hp.pins ad v h
theorem Hp.new_ (hp:Hp W0 σ n μ H w) {R:Nat->Prop} (ht:Turned R w w') (hR:∀k,R k->Own μ σ k)
  (h1:∀id e,lk σ1 id=some e->lk σ id=some e/\∀bk,blk (μ id)=some bk->¬R bk)
  {id:Id} {e:Ent} {val:Value} (hid:μ id=none) (hn:id.1<n') (hnn:n<=n')
  (hblk:∀bk,blk (some val)=some bk->R bk\/w.heap.size<=bk) (he:EntRel W0.heap.size (setμ μ id val) H w' id e) :
  Hp W0 ((id,e)::σ1) n' (setμ μ id val) H w'/\Fr μ H σ w (setμ μ id val) H ((id,e)::σ1) w':=by
 have hmono:=setμ_mono (v:=val) hid
 have old:∀id' e',lk σ1 id'=some e'->id'≠id/\setμ μ id val id'=μ id':=by
  intro id' e' h'
  have hne:id'≠id:=by
   intro e0
   subst e0
   obtain ⟨_,hm⟩:=(hp.ents _ _ (h1 _ _ h').1).named
   rw [hid] at hm;cases hm
  exact ⟨hne,setμ_ne _ _ hne⟩
 have own':∀bk,Own (setμ μ id val) ((id,e)::σ1) bk->(blk (some val)=some bk)\/∃id' e',lk σ1 id'=some e'/\blk (μ id')=some bk:=by
  rintro bk ⟨id',e',hl,hb⟩
  simp only [lk] at hl
  split at hl
  ·rename_i h0;subst h0;rw [setμ_self] at hb;exact .inl hb
  ·rw [(old _ _ hl).2] at hb;exact .inr ⟨id',e',hl,hb⟩
 refine ⟨⟨hp.base_turned ht hR,hp.pins_turned ht hR,?_,?_,?_,?_⟩,⟨hmono,fun _ _ h=>h,ht.size,?_,fun _ _ _=>rfl,?_⟩⟩
 ·intro id' e' hl
  simp only [lk] at hl
  split at hl
  ·rename_i h0;subst h0;cases hl;exact he
  ·refine (hp.ents _ _ (h1 _ _ hl).1).keep hmono (fun _ _ h=>h) (fun bk hb=>?_)
   exact ht.block bk ((hp.ents _ _ (h1 _ _ hl).1).block hb).2 ((h1 _ _ hl).2 bk hb)
 ·intro bk ho ad hb
  rcases own' bk ho with h|⟨id',e',hl,hb'⟩
  ·rcases hblk bk h with hr|hr
   ·exact hp.unp bk (hR bk hr) ad hb
   ·exact hp.pin_new (by omega)
  ·exact hp.unp bk ⟨id',e',(h1 _ _ hl).1,hb'⟩ ad hb
 ·intro i1 e1 i2 e2 bk l1 l2 b1 b2
  simp only [lk] at l1 l2
  split at l1<;>split at l2
  ·rename_i ha hb;rw [<-ha,<-hb]
  ·rename_i ha hb
   exfalso
   subst ha
   rw [setμ_self] at b1
   rw [(old _ _ l2).2] at b2
   rcases hblk bk b1 with hr|hr
   ·exact (h1 _ _ l2).2 bk b2 hr
   ·have:=((hp.ents _ _ (h1 _ _ l2).1).block b2).2;omega
  ·rename_i ha hb
   exfalso
   subst hb
   rw [setμ_self] at b2
   rw [(old _ _ l1).2] at b1
   rcases hblk bk b2 with hr|hr
   ·exact (h1 _ _ l1).2 bk b1 hr
   ·have:=((hp.ents _ _ (h1 _ _ l1).1).block b1).2;omega
  ·rw [(old _ _ l1).2] at b1
   rw [(old _ _ l2).2] at b2
   exact hp.sep _ _ _ _ bk (h1 _ _ l1).1 (h1 _ _ l2).1 b1 b2
 ·intro k hk
  have:k≠id:=by rintro rfl;omega
  rw [setμ_ne _ _ this]
  exact hp.bd k (by omega)
 ·intro bk hb ho
  exact ht.block bk hb (fun hr=>ho (hR bk hr))
 ·intro bk hb ho
  rcases own' bk ho with h|⟨id',e',hl,hb'⟩
  ·rcases hblk bk h with hr|hr
   ·exact hR bk hr
   ·omega
  ·exact ⟨id',e',(h1 _ _ hl).1,hb'⟩
theorem Hp.set_ (hp:Hp W0 σ n μ H w) {id:Id} {e0 e:Ent} (hl:lk σ id=some e0) (ht:Turned (fun k=>blk (μ id)=some k) w w') (he:EntRel W0.heap.size μ H w' id e) :
  Hp W0 (upd σ id e) n μ H w'/\Fr μ H σ w μ H (upd σ id e) w':=by
 have hR:∀k,blk (μ id)=some k->Own μ σ k:=fun k h=>⟨id,e0,hl,h⟩
 have own':∀bk,Own μ (upd σ id e) bk->Own μ σ bk:=by
  rintro bk ⟨id',e',h',hb⟩
  rw [lk_upd hl] at h'
  split at h'
  ·rename_i h0;subst h0;exact hR bk hb
  ·exact ⟨id',e',h',hb⟩
 have some':∀id' e',lk (upd σ id e) id'=some e'->∃e'',lk σ id'=some e'':=by
  intro id' e' h'
  rw [lk_upd hl] at h'
  split at h'
  ·rename_i h0;subst h0;exact ⟨_,hl⟩
  ·exact ⟨_,h'⟩
 refine ⟨⟨hp.base_turned ht hR,hp.pins_turned ht hR,?_,fun bk ho=>hp.unp bk (own' bk ho),?_,hp.bd⟩,⟨fun _ _ h=>h,fun _ _ h=>h,ht.size,?_,fun _ _ _=>rfl,fun bk _ ho=>own' bk ho⟩⟩
 ·intro id' e' h'
  rw [lk_upd hl] at h'
  split at h'
  ·rename_i h0;subst h0;cases h';exact he
  ·rename_i h0
   refine (hp.ents _ _ h').keep (fun _ _ h=>h) (fun _ _ h=>h) (fun bk hb=>?_)
   exact ht.block bk ((hp.ents _ _ h').block hb).2 (fun hr=>h0 (hp.sep _ _ _ _ bk hl h' hr hb))
 ·intro i1 e1 i2 e2 bk l1 l2 b1 b2
  obtain ⟨_,l1⟩:=some' _ _ l1
  obtain ⟨_,l2⟩:=some' _ _ l2
  exact hp.sep _ _ _ _ bk l1 l2 b1 b2
 ·intro bk hb ho
  exact ht.block bk hb (fun hr=>ho (hR bk hr))
def pinned (H:Addr->Option Value) (w':World) (b:Nat):Addr->Option Value:=fun ad=>if ad.block=b then w'.cell? ad else H ad
theorem Hp.pin_ (hp:Hp W0 σ n μ H w) (o:Obj) :
  Hp W0 σ n μ (pinned H (w.alloc o) w.heap.size) (w.alloc o)/\Fr μ H σ w μ (pinned H (w.alloc o) w.heap.size) σ (w.alloc o):=by
 have ht:=Turned.alloc w o
 have hR:∀k,(fun _:Nat=>False) k->Own μ σ k:=fun k h=>h.elim
 have hmono:∀ad v,H ad=some v->pinned H (w.alloc o) w.heap.size ad=some v:=by
  intro ad v h
  unfold pinned
  rw [if_neg (by have:=hp.pin_lt h;omega)]
  exact h
 refine ⟨⟨hp.base_turned ht hR,?_,?_,?_,hp.sep,hp.bd⟩,⟨fun _ _ h=>h,hmono,ht.size,fun bk hb _=>ht.block bk hb id,?_,fun _ _ h=>h⟩⟩
 ·intro ad v h
  unfold pinned at h
  split at h
  ·exact h
  ·exact hp.pins_turned ht hR ad v h
 ·intro id' e' h'
  exact (hp.ents _ _ h').keep (fun _ _ h=>h) hmono (fun bk hb=>ht.block bk ((hp.ents _ _ h').block hb).2 (fun h=>h))
 ·intro bk ho ad hb
  unfold pinned
  rw [if_neg (by have:=(hp.own_lt ho).2;omega)]
  exact hp.unp bk ho ad hb
 ·intro ad hb _
  unfold pinned
  rw [if_neg (by omega)]
theorem Hp.part {σi:Sto} (hp:Hp W0 σ n μ H w) (hs:∀id e,lk σi id=some e->lk σ id=some e):Hp W0 σi n μ H w where
 base:=hp.base
 pins:=hp.pins
 ents id e h:=hp.ents id e (hs _ _ h)
 unp bk ho:=hp.unp bk (by obtain ⟨id,e,h,hb⟩:=ho;exact ⟨id,e,hs _ _ h,hb⟩)
 sep id e id' e' bk h h':=hp.sep id e id' e' bk (hs _ _ h) (hs _ _ h')
 bd:=hp.bd
theorem Hp.back {σi σo:Sto} {μ':Id->Option Value} {H':Addr->Option Value} (hp:Hp W0 σ n μ H w) (hs:∀id e,lk σi id=some e->lk σ id=some e)
  (hp':Hp W0 σo n' μ' H' w') (hf:Fr μ H σi w μ' H' σo w') :
  Hp W0 (over σi σo σ) n' μ' H' w'/\Fr μ H σ w μ' H' (over σi σo σ) w':=by
 have sides:∀id e,lk (over σi σo σ) id=some e->(lk σo id=some e)\/(lk σo id=none/\lk σi id=none/\lk σ id=some e):=by
  intro id e h
  rw [lk_over] at h
  cases ho:lk σo id with
  | some x=>rw [ho] at h;exact .inl h
  | none=>
   rw [ho] at h
   simp only at h
   split at h
   ·rename_i hi;exact .inr ⟨rfl,by simpa using hi,h⟩
   ·cases h
 have other:∀id e bk,lk σi id=none->lk σ id=some e->blk (μ id)=some bk->bk<w.heap.size/\¬Own μ σi bk/\w'.heap[bk]? = w.heap[bk]?/\μ' id=μ id:=by
  intro id e bk hi hl hb
  have hlt:=((hp.ents _ _ hl).block hb).2
  have hno:¬Own μ σi bk:=by
   rintro ⟨id',e',hl',hb'⟩
   have:=hp.sep _ _ _ _ bk hl (hs _ _ hl') hb hb'
   subst this
   rw [hi] at hl';cases hl'
  refine ⟨hlt,hno,hf.keep bk hlt hno,?_⟩
  cases hm:μ id with
  | none=>rw [hm] at hb;simp [blk] at hb
  | some x=>exact hf.mu _ _ hm
 have mudef:∀id e,lk σ id=some e->μ' id=μ id:=by
  intro id e hl
  obtain ⟨_,hm⟩:=(hp.ents _ _ hl).named
  rw [hm];exact hf.mu _ _ hm
 have own':∀bk,Own μ' (over σi σo σ) bk->Own μ' σo bk\/∃id e,lk σi id=none/\lk σ id=some e/\blk (μ id)=some bk:=by
  rintro bk ⟨id,e,hl,hb⟩
  rcases sides id e hl with h|⟨_,hi,h⟩
  ·exact .inl ⟨id,e,h,hb⟩
  ·rw [mudef _ _ h] at hb;exact .inr ⟨id,e,hi,h,hb⟩
 refine ⟨⟨hp'.base,hp'.pins,?_,?_,?_,hp'.bd⟩,⟨hf.mu,hf.hp,hf.size,?_,?_,?_⟩⟩
 ·intro id e hl
  rcases sides id e hl with h|⟨_,hi,h⟩
  ·exact hp'.ents _ _ h
  ·exact (hp.ents _ _ h).keep hf.mu hf.hp (fun bk hb=>(other id e bk hi h hb).2.2.1)
 ·intro bk ho ad hb
  rcases own' bk ho with h|⟨id,e,hi,hl,hb'⟩
  ·exact hp'.unp bk h ad hb
  ·obtain ⟨hlt,hno,_,_⟩:=other id e bk hi hl hb'
   rw [hf.pin ad (by rw [hb];exact hlt) (by rw [hb];exact hno)]
   exact hp.unp bk ⟨id,e,hl,hb'⟩ ad hb
 ·intro i1 e1 i2 e2 bk l1 l2 b1 b2
  rcases sides _ _ l1 with h1|⟨_,g1,h1⟩<;>rcases sides _ _ l2 with h2|⟨_,g2,h2⟩
  ·exact hp'.sep _ _ _ _ bk h1 h2 b1 b2
  ·exfalso
   rw [mudef _ _ h2] at b2
   obtain ⟨hlt,hno,_,_⟩:=other _ _ bk g2 h2 b2
   exact hno (hf.dom bk hlt ⟨_,_,h1,b1⟩)
  ·exfalso
   rw [mudef _ _ h1] at b1
   obtain ⟨hlt,hno,_,_⟩:=other _ _ bk g1 h1 b1
   exact hno (hf.dom bk hlt ⟨_,_,h2,b2⟩)
  ·rw [mudef _ _ h1] at b1
   rw [mudef _ _ h2] at b2
   exact hp.sep _ _ _ _ bk h1 h2 b1 b2
 ·intro bk hb ho
  refine hf.keep bk hb (fun h=>ho ?_)
  obtain ⟨id,e,hl,hb'⟩:=h
  exact ⟨id,e,hs _ _ hl,hb'⟩
 ·intro ad hb ho
  refine hf.pin ad hb (fun h=>ho ?_)
  obtain ⟨id,e,hl,hb'⟩:=h
  exact ⟨id,e,hs _ _ hl,hb'⟩
 ·intro bk hb ho
  rcases own' bk ho with h|⟨id,e,hi,hl,hb'⟩
  ·obtain ⟨id,e,hl,hb'⟩:=hf.dom bk hb h
   exact ⟨id,e,hs _ _ hl,hb'⟩
  ·exact ⟨id,e,hl,hb'⟩
end
end Go.Ir
end
section
namespace Go.Ir
open Go.RowKit
structure Rl (μ:Id->Option Value) (H:Addr->Option Value) (nt:Nat) (env:Env) (a:Act):Prop where
 size:a.tmps.size=nt
 defers:a.defers=[]
 at_:∀s,VRel μ H (get env s) (a.tmps.getD s undef)
structure Done (W0:World) (ep:Nat) (d:Option Nat) (σ:Sto) (n:Nat) (μ:Id->Option Value) (H:Addr->Option Value) (w:World) (v:V) (σ':Sto)
  (val:Value) (n':Nat) (μ':Id->Option Value) (H':Addr->Option Value) (w':World):Prop where
 rel:VRel μ' H' v val
 hp:Hp W0 σ' n' μ' H' w'
 le:n<=n'
 fr:Fr μ H σ w μ' H' σ' w'
 fresh:∀id,id.1<n->(∀dd,d=some dd->id≠(ep,dd))->μ id=none->μ' id=none
section
variable {μ μ' : Id → Option Value} {H H' : Addr → Option Value}
theorem Rl.mono {nt:Nat} {env:Env} {a:Act} (h:Rl μ H nt env a) (hμ:∀id x,μ id=some x->μ' id=some x) (hH:∀ad x,H ad=some x->H' ad=some x):Rl μ' H' nt env a:=
 ⟨h.size,h.defers,fun s=>(h.at_ s).mono hμ hH⟩
theorem Rl.put {nt:Nat} {env:Env} {a:Act} (h:Rl μ H nt env a) {d:Option Nat} (hd:∀dd,d=some dd->dd<nt) {v:V} {val:Value} (hv:VRel μ H v val):Rl μ H nt (put env d v) (a.put d val):=by
 cases d with
 | none=>exact h
 | some d=>
  have hd':=hd d rfl
  refine ⟨by simp [Act.put,h.size],by simp [Act.put,h.defers],fun s=>?_⟩
  by_cases hs:d=s
  ·subst hs
   have:d<a.tmps.size:=by rw [h.size];exact hd'
   simpa [Go.Ir.put,get,Act.put,this] using hv
  ·have:=h.at_ s
   simpa [Go.Ir.put,get,Act.put,hs,Array.getElem?_setIfInBounds_ne hs] using this
theorem okC_rel {v:Value} {c:V} (h:okC v c=true):VRel μ H c v:=by
 unfold okC at h
 split at h
 ·have h':=beq_iff_eq.1 h;subst h';exact .b _
 ·simp only [Bool.and_eq_true,beq_iff_eq] at h;obtain ⟨rfl,rfl⟩:=h;exact .i _ _
 ·simp only [Bool.and_eq_true,beq_iff_eq,decide_eq_true_eq] at h
  obtain ⟨h1,h2⟩:=h
  subst h1
  exact .s _ h2
 ·exact .nil
 ·exact .np
 ·exact .nf
 ·exact .ni
 ·exact .nm
 ·cases h
theorem okCs_rel:∀{vs:List Value} {cs:List V},okCs vs cs=true->CRel μ H cs vs
 | [],[],_=>CRel.nil_
 | x::xs,y::ys,h=>by
  simp only [okCs,Bool.and_eq_true] at h
  have ih:=okCs_rel h.2
  have h1:x.oneCell'=true:=by
   have:=h.1
   cases x<;>first|rfl|simp [okC] at this
  exact ⟨VRels.cons (okC_rel h.1) ih.toVRels,fun v hv=>by
   rcases List.mem_cons.1 hv with rfl|hv
   ·exact h1
   ·exact ih.one v hv⟩
 | [],_::_,h=>by simp [okCs] at h
 | _::_,[],h=>by simp [okCs] at h
theorem okZ_rel {v:Value} {c:V} (h:okZ v c=true):VRel μ H c v/\CRel μ H (cells c) v.cells.toList:=by
 have one:okC v c=true->(∀vs,v ≠ .agg vs)->VRel μ H c v/\CRel μ H (cells c) v.cells.toList:=by
  intro h hn
  have hr:=okC_rel (μ:=μ) (H:=H) h
  refine ⟨hr,?_⟩
  have hc:c.ok=true:=by cases v<;>cases c<;>simp_all [okC,V.ok]
  exact (hr.toCells hc).1
 unfold okZ at h
 split at h
 ·rename_i vs cs
  have hc:=okCs_rel (μ:=μ) (H:=H) h
  refine ⟨?_,by simpa [Value.cells,cells] using hc⟩
  have:=VRel.agg cs vs.toList hc.len hc.one hc.at_
  simpa using this
 ·cases h
 ·cases h
 ·exact one h (by intro vs hv;subst hv;simp_all)
theorem okX_rel {nt:Nat} {env:Env} {a:Act} (hr:Rl μ H nt env a) {x:Operand} {y:X} (h:okX x y=true):VRel μ H (ev (get env) y) (a.eval x):=by
 unfold okX at h
 split at h
 ·have h':=beq_iff_eq.1 h;subst h';exact hr.at_ _
 ·exact okC_rel h
 ·have h':=beq_iff_eq.1 h;subst h'
  exact .fn _ [] [] [] [] rfl rfl (fun k c v hk=>by simp at hk) (fun k c v hk=>by simp at hk)
 ·cases h
theorem okXs_rel {nt:Nat} {env:Env} {a:Act} (hr:Rl μ H nt env a):∀{xs:List Operand} {ys:List X},okXs xs ys=true->VRels μ H (ys.map (ev (get env))) (xs.map a.eval)
 | [],[],_=>VRels.nil_
 | x::xs,y::ys,h=>by
  simp only [okXs,Bool.and_eq_true] at h
  exact VRels.cons (okX_rel hr h.1) (okXs_rel hr h.2)
 | [],_::_,h=>by simp [okXs] at h
 | _::_,[],h=>by simp [okXs] at h
end
section
variable {P : Program} {o : Oper} {a : Act} {w w' : World} {next : Act → World → Prop} {Q : Exit → Act → World → Prop} {val : Value}
theorem wp_value (hrun:(execOp a.eval o).run P w = .ok (.value val) w') (h:next (a.put o.dst val) w'):o.wp P a w next Q:=by
 unfold Oper.wp;rw [hrun];exact h
theorem wp_none (hrun:(execOp a.eval o).run P w = .ok .skip w') (h:next (a.put o.dst undef) w'):o.wp P a w next Q:=by
 unfold Oper.wp;rw [hrun];exact h
end
section same
variable {W0 w : World} {ep : Nat} {d : Option Nat} {σ : Sto} {n : Nat} {μ : Id → Option Value} {H : Addr → Option Value} {v : V} {val : Value}
theorem Done.same (hp:Hp W0 σ n μ H w) (h:VRel μ H v val):Done W0 ep d σ n μ H w v σ val n μ H w:=
 ⟨h,hp,Nat.le_refl _,Fr.refl _ _ _ _,fun _ _ _ h=>h⟩
end same
section inv
variable {μ : Id → Option Value} {H : Addr → Option Value} {val : Value}
theorem VRel.b_inv {t:Bool} (h:VRel μ H (.b t) val):val = .bool t:=by cases h;rfl
theorem VRel.i_inv {k:IntKind} {n:Int} (h:VRel μ H (.i k n) val):val = .int k n:=by cases h;rfl
theorem VRel.s_inv {l:List UInt8} (h:VRel μ H (.s l) val):val = .string ⟨l.toArray⟩/\l.length<=SLim:=by cases h;exact ⟨rfl,by assumption⟩
theorem VRel.nil_inv (h:VRel μ H .nil val):val = .slice none 0 0:=by cases h;rfl
theorem VRel.ref_inv {id:Id} {off:Nat} (h:VRel μ H (.ref id off) val):∃bk,μ id=some (.pointer (some ⟨bk,0,none⟩))/\val = .pointer (some ⟨bk,off,none⟩):=by
 cases h;exact ⟨_,by assumption,rfl⟩
theorem VRel.arr_inv {id:Id} (h:VRel μ H (.arr id) val):μ id=some val/\val.oneCell'=true:=by cases h;exact ⟨by assumption,by assumption⟩
theorem VRel.aref_inv {id:Id} {ix sz off:Nat} (h:VRel μ H (.aref id ix sz off) val):∃bk len cap,μ id=some (.slice (some ⟨bk,0,none⟩) len cap)/\val = .pointer (some ⟨bk,ix*sz+off,none⟩):=by
 cases h;exact ⟨_,_,_,by assumption,rfl⟩
theorem VRel.ep_inv {e:V} {off:Nat} (h:VRel μ H (.ep e off) val):∃(ad:Addr) (vals:List Value),val = .pointer (some (ad.add off))/\CRel μ H (cells e) vals/\∀(k:Nat) (v:Value),vals[k]? = some v->H (ad.add k)=some v:=by
 cases h with
 | ep e off ad vals hn h1 hp hv=>exact ⟨ad,vals,rfl,⟨⟨hn,hv⟩,h1⟩,hp⟩
theorem VRel.tup_inv {cs:List V} (h:VRel μ H (.tup cs) val):∃vals:List Value,val = .tuple vals.toArray/\VRels μ H cs vals:=by
 cases h with
 | tup cs vals hn hv=>exact ⟨vals,rfl,⟨hn,hv⟩⟩
theorem VRel.fn_inv {f:FuncId} {first caps:List V} (h:VRel μ H (.fn f first caps) val):∃fv cv:List Value,val = .func (.func f) fv.toArray cv.toArray/\VRels μ H first fv/\VRels μ H caps cv:=by
 cases h with
 | fn f first caps fv cv h1 h2 h3 h4=>exact ⟨fv,cv,rfl,⟨h1,h3⟩,⟨h2,h4⟩⟩
theorem VRel.sl_inv {es:List V} (h:VRel μ H (.sl es) val):∃(A:Option Addr) (cap:Nat),val = .slice A es.length cap/\es.length<=cap/\es.length<=LLim/\
  (es=[]\/∃(ad:Addr) (sz:Nat) (vals:List Value),A=some ad/\(∀e∈es,(cells e).length=sz)/\CRel μ H (flat es) vals/\∀(k:Nat) (v:Value),vals[k]? = some v->H (ad.add k)=some v):=by
 cases h with
 | slE a cap=>exact ⟨a,cap,rfl,Nat.zero_le _,Nat.zero_le _,.inl rfl⟩
 | slC es ad cap sz vals hc hl hsz hn h1 hp hv=>exact ⟨some ad,cap,rfl,hc,hl,.inr ⟨ad,sz,vals,rfl,hsz,⟨⟨hn,hv⟩,h1⟩,hp⟩⟩
theorem VRel.isA_inv {v:V} (h:VRel μ H v val) (ha:isA v=true):∃vals:List Value,val = .agg vals.toArray/\CRel μ H (cells v) vals:=by
 cases h<;>simp [isA] at ha
 rename_i cs vals hn h1 hv
 exact ⟨vals,rfl,⟨⟨hn,hv⟩,h1⟩⟩
end inv
theorem run_part {P:Program} {t:TypeId} {n:Nat} {ag:Bool} (hs:sizeT P t=some n) (hg:aggT P t=some ag) (w:World) (vals:List Value) (off:Nat) {μ:Id->Option Value} {H:Addr->Option Value} {u v:V}
  (hc:CRel μ H (cells u) vals) (hv:sub u off n ag=some v):∃val,(part t vals.toArray off).run P w = .ok val w/\VRel μ H v val:=by
 obtain ⟨i,hi,rfl⟩:∃i,P.info? t=some i/\i.size=n:=by simpa [sizeT] using hs
 obtain ⟨dsc,hu,hag⟩:∃dsc,P.underlying t=some dsc/\aggD dsc=ag:=by simpa [aggT] using hg
 have hagg:(isAgg t).run P w = .ok ag w:=by
  unfold isAgg
  rw [Sem.run_bind,run_underlying hu w]
  subst hag
  cases dsc<;>rfl
 unfold sub at hv
 unfold part
 rw [Sem.run_bind,hagg]
 simp only [Result.andThen_ok]
 cases ag with
 | false=>
  simp only [Bool.false_eq_true,if_false] at hv⊢
  obtain ⟨x,hx,hr⟩:=hc.get hv
  refine ⟨x,?_,hr⟩
  have:vals.toArray[off]? = some x:=by simpa using hx
  simp [this]
 | true=>
  simp only [if_true] at hv⊢
  simp only [Sem.run_bind,sizeOf,typeInfo,Sem.run_bind,run_program,Result.andThen_ok,hi,Sem.run_pure]
  refine ⟨_,rfl,?_⟩
  split at hv
  ·rename_i h0
   cases hv
   obtain ⟨rfl,hl⟩:=h0
   have hlen:vals.length=i.size:=by rw [<-hc.len];exact hl
   have he:vals.toArray.extract 0 (0+i.size)=vals.toArray:=by
    apply Array.ext'
    simp [<-hlen]
   rw [he]
   exact .agg _ _ hc.len hc.one hc.at_
  ·split at hv
   ·cases hv
    have hc':=(hc.drop off).take i.size
    have he:vals.toArray.extract off (off+i.size)=((vals.drop off).take i.size).toArray:=by
     apply Array.ext'
     simp [List.extract]
    rw [he]
    exact .agg _ _ hc'.len hc'.one hc'.at_
   ·cases hv
theorem run_load_at {P:Program} {t:TypeId} {n:Nat} {ag:Bool} (hs:sizeT P t=some n) (hg:aggT P t=some ag) (w:World) (vals:List Value) (ad:Addr) (off:Nat) {μ:Id->Option Value} {H:Addr->Option Value} {u v:V}
  (hc:CRel μ H (cells u) vals) (hcell:∀k v,vals[k]? = some v->w.cell? (ad.add k)=some v) (hv:sub u off n ag=some v):∃val,(loadVar t (ad.add off)).run P w = .ok val w/\VRel μ H v val:=by
 have haa:∀i j,(ad.add i).add j=ad.add (i+j):=fun i j=>by
  unfold Addr.add
  by_cases hi:i=0<;>by_cases hj:j=0<;>simp [hi,hj,Nat.add_assoc]
 obtain ⟨i,hi,rfl⟩:∃i,P.info? t=some i/\i.size=n:=by simpa [sizeT] using hs
 obtain ⟨dsc,hu,hag⟩:∃dsc,P.underlying t=some dsc/\aggD dsc=ag:=by simpa [aggT] using hg
 have hagg:(isAgg t).run P w = .ok ag w:=by
  unfold isAgg
  rw [Sem.run_bind,run_underlying hu w]
  subst hag
  cases dsc<;>rfl
 unfold sub at hv
 unfold loadVar
 rw [Sem.run_bind,hagg]
 simp only [Result.andThen_ok]
 cases ag with
 | false=>
  simp only [Bool.false_eq_true,if_false] at hv⊢
  obtain ⟨x,hx,hr⟩:=hc.get hv
  refine ⟨x,?_,hr⟩
  rw [run_load,hcell _ _ hx]
 | true=>
  simp only [if_true] at hv⊢
  simp only [Sem.run_bind,sizeOf,typeInfo,Sem.run_bind,run_program,Result.andThen_ok,hi,Sem.run_pure]
  have go:off+i.size<=vals.length->(loadCells (ad.add off) i.size).run P w = .ok ((vals.drop off).take i.size).toArray w:=by
   intro hl
   have hlen:((vals.drop off).take i.size).length=i.size:=by simp;omega
   have:=run_loadCells_list (P:=P) w (ad.add off) ((vals.drop off).take i.size) (fun j v hj=>by
    rw [haa]
    rw [List.getElem?_take] at hj
    split at hj
    ·rw [List.getElem?_drop] at hj;exact hcell _ _ hj
    ·cases hj)
   rwa [hlen] at this
  split at hv
  ·rename_i h0
   cases hv
   obtain ⟨rfl,hl⟩:=h0
   have hlen:vals.length=i.size:=by rw [<-hc.len];exact hl
   rw [go (by omega)]
   refine ⟨_,rfl,?_⟩
   have he:(vals.drop 0).take i.size=vals:=by simp [<-hlen]
   rw [he]
   exact .agg _ _ hc.len hc.one hc.at_
  ·split at hv
   ·rename_i hl
    cases hv
    rw [go (by rw [<-hc.len];exact hl)]
    have hc':=(hc.drop off).take i.size
    exact ⟨_,rfl,.agg _ _ hc'.len hc'.one hc'.at_⟩
   ·cases hv
end Go.Ir
end
section
namespace Go.Ir
open Go.RowKit
theorem intT_some {P:Program} {t:TypeId} {k:IntKind} (h:intT P t=some k):P.underlying t=some (.int k):=by
 unfold intT at h;split at h
 ·cases h;assumption
 ·cases h
theorem sliceT_some {P:Program} {t e:TypeId} (h:sliceT P t=some e):P.underlying t=some (.slice e):=by
 unfold sliceT at h;split at h
 ·cases h;assumption
 ·cases h
theorem isStrT_true {P:Program} {t:TypeId} (h:isStrT P t=true):P.underlying t=some .string:=by
 unfold isStrT at h;split at h
 ·assumption
 ·cases h
theorem isBoolT_true {P:Program} {t:TypeId} (h:isBoolT P t=true):P.underlying t=some .bool:=by
 unfold isBoolT at h;split at h
 ·assumption
 ·cases h
theorem fieldsT_some {P:Program} {t:TypeId} {fs:Array Field} (h:fieldsT P t=some fs):P.underlying t=some (.struct fs):=by
 unfold fieldsT at h;split at h
 ·cases h;assumption
 ·cases h
theorem fieldT_some {P:Program} {t:TypeId} {f:Nat} {fd:Field} (h:fieldT P t f=some fd):∃fs,P.underlying t=some (.struct fs)/\fs[f]? = some fd:=by
 unfold fieldT at h
 cases hf:fieldsT P t with
 | none=>simp [hf] at h
 | some fs=>exact ⟨fs,fieldsT_some hf,by simpa [hf] using h⟩
theorem sizeT_some {P:Program} {t:TypeId} {n:Nat} (h:sizeT P t=some n):∃i,P.info? t=some i/\i.size=n:=by simpa [sizeT] using h
theorem run_sizeOf {P:Program} {t:TypeId} {n:Nat} (h:sizeT P t=some n) (w:World):(sizeOf t).run P w = .ok n w:=by
 obtain ⟨i,hi,rfl⟩:=sizeT_some h
 simp [sizeOf,typeInfo,hi]
theorem elemOk_some {P:Program} {e sz:Nat} (h:elemOk P e sz=true):∃i z,P.info? e=some i/\i.size=sz/\0<sz/\i.bytes<=32768/\i.zero=some z/\z.cells.size=sz/\∀v∈z.cells,v.oneCell'=true:=by
 unfold elemOk at h
 cases hi:P.info? e with
 | none=>simp [hi] at h
 | some i=>
  simp only [hi,Bool.and_eq_true,beq_iff_eq,decide_eq_true_eq] at h
  obtain ⟨⟨⟨h1,h2⟩,h3⟩,h4⟩:=h
  cases hz:i.zero with
  | none=>simp [hz] at h4
  | some z=>
   simp only [hz,Bool.and_eq_true,beq_iff_eq,Array.all_eq_true'] at h4
   exact ⟨i,z,rfl,h1,h2,h3,hz,h4.1,h4.2⟩
section ops
variable {P : Program} {W0 : World} {ep nt : Nat} {o : Oper} {d : Option Nat} {env : Env} {σ σ' : Sto} {n : Nat} {μ : Id → Option Value} {H : Addr → Option Value} {a : Act} {w : World} {v : V} {next : Act → World → Prop} {Q : Exit → Act → World → Prop}
def Goes (P:Program) (W0:World) (ep:Nat) (o:Oper) (d:Option Nat) (σ:Sto) (n:Nat) (μ:Id->Option Value) (H:Addr->Option Value) (a:Act) (w:World) (v:V) (σ':Sto):Prop:=
 ∀(next:Act->World->Prop) (Q:Exit->Act->World->Prop),(∀val n' μ' H' w',Done W0 ep d σ n μ H w v σ' val n' μ' H' w'->next (a.put o.dst val) w')->o.wp P a w next Q
theorem Goes.same {val:Value} (hrun:∀w,(execOp a.eval o).run P w = .ok (.value val) w) (hp:Hp W0 σ n μ H w) (h:VRel μ H v val):Goes P W0 ep o d σ n μ H a w v σ:=
 fun next Q K=>wp_value (hrun w) (K _ _ _ _ _ (Done.same hp h))
variable (hr : Rl μ H nt env a) (hp : Hp W0 σ n μ H w)
include hr hp
theorem s_mv {x':Operand} {x:X} (ho:o.op = .move x'\/o.op = .assign x') (hx:okX x' x=true) (he:v=ev (get env) x):Goes P W0 ep o d σ n μ H a w v σ:=by
 subst he
 refine Goes.same (val:=a.eval x') (fun w=>?_) hp (okX_rel hr hx)
 rcases ho with ho|ho<;>simp [execOp,ho]
theorem s_pick {c' x' y':Operand} {c x y:X} (ho:o.op = .pick c' x' y') (hc:okX c' c=true) (hx:okX x' x=true) (hy:okX y' y=true) {t:Bool}
  (ht:ev (get env) c = .b t) (he:v=(bif t then ev (get env) x else ev (get env) y)):Goes P W0 ep o d σ n μ H a w v σ:=by
 have hc':=okX_rel hr hc
 rw [ht] at hc'
 have:=hc'.b_inv
 subst he
 refine Goes.same (val:=if t then a.eval x' else a.eval y') (fun w=>?_) hp ?_
 ·simp [execOp,ho,this,asBool]
 ·cases t
  ·exact okX_rel hr hy
  ·exact okX_rel hr hx
theorem s_bin {op:BinOp} {t ty:TypeId} {x' y':Operand} {x y:X} (ho:o.op = .binOp op t x' y' ty) (hx:okX x' x=true) (hy:okX y' y=true)
  (he:binE op (ev (get env) x) (ev (get env) y) v):Goes P W0 ep o d σ n μ H a w v σ:=by
 have hx':=okX_rel hr hx
 have hy':=okX_rel hr hy
 generalize ev (get env) x=vx at *
 generalize ev (get env) y=vy at *
 unfold binE at he
 split at he
 ·rename_i k p k' q
  obtain ⟨rfl,he⟩:=he
  have ex:=hx'.i_inv
  have ey:=hy'.i_inv
  have go:∀val,(∀w,(binOp op t (.int k p) (.int k q)).run P w = .ok val w)->VRel μ H v val->Goes P W0 ep o d σ n μ H a w v σ:=fun val h1 h2=>
   Goes.same (fun w=>by simp [execOp,ho,ex,ey,eqGuard_at_int,h1 w]) hp h2
  unfold intE at he
  split at he<;>first
   | exact he.elim
   | (subst he;exact go (.int _ _) (fun w=>by simp [go_sem]) (.i _ _))
   | (subst he;exact go (.bool _) (fun w=>by simp [go_sem]) (.b _))
   | (obtain ⟨hne,he⟩:=he;subst he;exact go (.int _ _) (fun w=>by simp [go_sem,hne]) (.i _ _))
 ·rename_i p q
  obtain ⟨ex,lx⟩:=hx'.s_inv
  obtain ⟨ey,ly⟩:=hy'.s_inv
  have go:∀val,(∀w,(binOp op t (.string ⟨p.toArray⟩) (.string ⟨q.toArray⟩)).run P w = .ok val w)->VRel μ H v val->Goes P W0 ep o d σ n μ H a w v σ:=fun val h1 h2=>
   Goes.same (fun w=>by simp [execOp,ho,ex,ey,eqGuard_at_string,h1 w]) hp h2
  unfold strE at he
  split at he
  ·obtain ⟨hl,rfl⟩:=he
   refine go (.string ⟨(p++q).toArray⟩) (fun w=>?_) (.s _ (by simpa using hl))
   rw [binOp_string_add,run_string_add_sum w _ _ (by simp [ByteArray.size,SLim] at hl⊢;omega),ByteArray.mk_append_mk]
  all_goals first
   | exact he.elim
   | (subst he;exact go (.bool _) (fun w=>by simp [go_sem]) (.b _))
 ·exact he.elim
theorem s_eqb {op:BinOp} {ne:Bool} {t ty:TypeId} {x' y':Operand} {x y:X} (ho:o.op = .binOp op t x' y' ty) (hop:op=if ne then BinOp.neq else BinOp.eql) (ht:isBoolT P t=true) (hx:okX x' x=true) (hy:okX y' y=true)
  {p q:Bool} (ex:ev (get env) x = .b p) (ey:ev (get env) y = .b q) (he:v = .b (if ne then !(p == q) else p == q)):Goes P W0 ep o d σ n μ H a w v σ:=by
 have hx':=okX_rel hr hx
 have hy':=okX_rel hr hy
 rw [ex] at hx'
 rw [ey] at hy'
 have e1:=hx'.b_inv
 have e2:=hy'.b_inv
 have hu:=isBoolT_true ht
 subst he
 have heq:∀w,(Op.equal t (.bool p) (.bool q)).run P w = .ok (p == q) w:=by
  intro w
  unfold Op.equal Op.maxDepth Op.equalIn
  rw [Sem.run_bind,run_underlying hu w]
  rfl
 subst hop
 refine Goes.same (val:=.bool (if ne then !(p == q) else p == q)) (fun w=>?_) hp (.b _)
 cases ne
 ·simp [execOp,ho,e1,e2,eqGuard_at_bool,binOp,heq]
 ·simp [execOp,ho,e1,e2,eqGuard_at_bool,binOp,heq]
theorem s_not {t:TypeId} {x':Operand} {x:X} (ho:o.op = .unOp .not t x') (hx:okX x' x=true) {p:Bool} (ex:ev (get env) x = .b p) (he:v = .b (!p)):Goes P W0 ep o d σ n μ H a w v σ:=by
 have hx':=okX_rel hr hx
 rw [ex] at hx'
 have e1:=hx'.b_inv
 subst he
 exact Goes.same (val:=.bool (!p)) (fun w=>by simp [execOp,ho,e1,Op.unary]) hp (.b _)
theorem s_neg {t:TypeId} {x':Operand} {x:X} (ho:o.op = .unOp .neg t x') (hx:okX x' x=true) {k:IntKind} {p:Int} (ex:ev (get env) x = .i k p) (he:v = .i k (k.wrap (0-p))):Goes P W0 ep o d σ n μ H a w v σ:=by
 have hx':=okX_rel hr hx
 rw [ex] at hx'
 have e1:=hx'.i_inv
 subst he
 exact Goes.same (val:=.int k (k.wrap (0-p))) (fun w=>by simp [execOp,ho,e1,Op.unary,Op.intArith]) hp (.i _ _)
theorem s_cvi {src dst:TypeId} {x':Operand} {x:X} {k:IntKind} (ho:o.op = .convert src dst x') (hs:(P.underlying src).isSome=true) (hd:intT P dst=some k) (hx:okX x' x=true) {k':IntKind} {p:Int}
  (ex:ev (get env) x = .i k' p) (he:v = .i k (k.wrap p)):Goes P W0 ep o d σ n μ H a w v σ:=by
 have hx':=okX_rel hr hx
 rw [ex] at hx'
 have e1:=hx'.i_inv
 subst he
 obtain ⟨ds,hs'⟩:=Option.isSome_iff_exists.mp hs
 exact Goes.same (val:=.int k (k.wrap p)) (fun w=>by simp [execOp,ho,e1,convert,run_underlying hs',run_underlying (intT_some hd),Conv.intToInt]) hp (.i _ _)
theorem s_cvs {src dst:TypeId} {x':Operand} {x:X} (ho:o.op = .convert src dst x') (hs:isStrT P src=true) (hd:isStrT P dst=true) (hx:okX x' x=true) {l:List UInt8}
  (ex:ev (get env) x = .s l) (he:v = .s l):Goes P W0 ep o d σ n μ H a w v σ:=by
 have hx':=okX_rel hr hx
 rw [ex] at hx'
 obtain ⟨e1,l1⟩:=hx'.s_inv
 subst he
 exact Goes.same (val:=.string ⟨l.toArray⟩) (fun w=>by simp [execOp,ho,e1,convert,run_underlying (isStrT_true hs),run_underlying (isStrT_true hd)]) hp (.s _ l1)
theorem s_fld {t:TypeId} {x':Operand} {x:X} {f off m:Nat} {ag:Bool} (ho:o.op = .field t x' f) (hf:fldOk P t f off m ag=true) (hx:okX x' x=true)
  (ha:isA (ev (get env) x)=true) (he:sub (ev (get env) x) off m ag=some v):Goes P W0 ep o d σ n μ H a w v σ:=by
 obtain ⟨vals,e1,hc⟩:=(okX_rel hr hx).isA_inv ha
 unfold fldOk at hf
 cases hfd:fieldT P t f with
 | none=>simp [hfd] at hf
 | some fd=>
  simp only [hfd,Bool.and_eq_true,beq_iff_eq] at hf
  obtain ⟨⟨rfl,hsz⟩,hag⟩:=hf
  obtain ⟨fs,hu,hfs⟩:=fieldT_some hfd
  obtain ⟨val,hrun,hrel⟩:=run_part hsz hag w vals fd.offset hc he
  intro next Q K
  refine wp_value (w':=w) (val:=val) ?_ (K _ _ _ _ _ (Done.same hp hrel))
  simp [execOp,ho,e1,Instr.field,run_underlying hu,hfs,asAgg,hrun]
theorem s_faddr {t:TypeId} {x':Operand} {x:X} {f off:Nat} (ho:o.op = .fieldAddr t x' f) (hf:faddrOk P t f off=true) (hx:okX x' x=true)
  (he:match ev (get env) x with
   | .ref id o=>v = .ref id (o+off)
   | .aref id ix sz o=>v = .aref id ix sz (o+off)
   | .ep e o=>v = .ep e (o+off)
   | _=>False):Goes P W0 ep o d σ n μ H a w v σ:=by
 have hx':=okX_rel hr hx
 unfold faddrOk at hf
 cases hfd:fieldT P t f with
 | none=>simp [hfd] at hf
 | some fd=>
  simp only [hfd,Bool.and_eq_true,beq_iff_eq,decide_eq_true_eq] at hf
  obtain ⟨rfl,hsz⟩:=hf
  obtain ⟨fs,hu,hfs⟩:=fieldT_some hfd
  obtain ⟨m,hm⟩:∃m,sizeT P fd.type=some m:=by
   cases h:sizeT P fd.type with
   | none=>simp [h] at hsz
   | some m=>exact ⟨m,rfl⟩
  have hm0:m≠0:=by rw [hm] at hsz;simp at hsz;omega
  have go:∀ad:Addr,a.eval x' = .pointer (some ad)->VRel μ H v (.pointer (some (ad.add fd.offset)))->Goes P W0 ep o d σ n μ H a w v σ:=fun ad h1 h2=>
   Goes.same (fun w=>by simp [execOp,ho,h1,Instr.fieldAt,run_underlying hu,hfs,Instr.sureAddr,fieldPlace,run_sizeOf hm,hm0]) hp h2
  have haa:∀(ad:Addr) i j,(ad.add i).add j=ad.add (i+j):=fun ad i j=>by
   unfold Addr.add
   by_cases hi:i=0<;>by_cases hj:j=0<;>simp [hi,hj,Nat.add_assoc]
  generalize ev (get env) x=vx at *
  split at he
  ·subst he
   obtain ⟨bk,hm,e1⟩:=hx'.ref_inv
   exact go _ e1 (by rw [Addr.add_lit];exact .ref _ _ _ hm)
  ·subst he
   obtain ⟨bk,len,cap,hm,e1⟩:=hx'.aref_inv
   exact go _ e1 (by rw [Addr.add_lit,Nat.add_assoc];exact .aref _ _ _ _ _ _ _ hm)
  ·subst he
   obtain ⟨ad,vals,e1,hc,hp'⟩:=hx'.ep_inv
   exact go _ e1 (by rw [haa];exact .ep _ _ _ vals hc.len hc.one hp' hc.at_)
  ·exact he.elim
end ops
end Go.Ir
end
section
namespace Go.Ir
open Go.RowKit
theorem add_lit0 (b n:Nat):(⟨b,0,none⟩:Addr).add n=⟨b,n,none⟩:=by rw [Addr.add_lit];simp
theorem add_add' (ad:Addr) (i j:Nat):(ad.add i).add j=ad.add (i+j):=by
 unfold Addr.add
 by_cases hi:i=0<;>by_cases hj:j=0<;>simp [hi,hj,Nat.add_assoc]
theorem elem_cells {μ:Id->Option Value} {H:Addr->Option Value} {es:List V} {vals:List Value} {sz i:Nat} {el:V} (hsz:∀e∈es,(cells e).length=sz) (hc:CRel μ H (flat es) vals) (he:es[i]? = some el) :
  CRel μ H (cells el) ((vals.drop (i*sz)).take sz):=by
 have:=(hc.drop (i*sz)).take sz
 rwa [flat_at hsz he] at this
theorem take_drop_at {vals:List Value} {m sz k:Nat} {v:Value} (h:((vals.drop m).take sz)[k]? = some v):vals[m+k]? = some v:=by
 rw [List.getElem?_take] at h
 split at h
 ·rwa [List.getElem?_drop] at h
 ·cases h
section ops
variable {P : Program} {W0 : World} {ep nt : Nat} {o : Oper} {d : Option Nat} {env : Env} {σ σ' : Sto} {n : Nat} {μ : Id → Option Value} {H : Addr → Option Value} {a : Act} {w : World} {v : V}
variable (hr : Rl μ H nt env a) (hp : Hp W0 σ n μ H w)
theorem ent_arr {id:Id} {e sz:Nat} {es:List V} (hp:Hp W0 σ n μ H w) (hl:lk σ id=some (.arr e sz es)) {val:Value} (hm:μ id=some val) :
  ∃vals,val.oneCell'=true/\w.ownsRow W0.heap.size e sz val es.length vals/\es.length<=LLim/\(∀x∈es,(cells x).length=sz)/\CRel μ H (flat es) vals:=by
 obtain ⟨v,vals,hm',h1,h2,h3,h4,h5⟩:=hp.ents _ _ hl
 rw [hm] at hm'
 cases hm'
 exact ⟨vals,h1,h2,h3,h4,h5⟩
theorem owns_form {base e sz m:Nat} {val:Value} {xs:List Value} (h:w.ownsRow base e sz val m xs) (hm:0<m) :
  ∃g cap cur,val = .slice (some ⟨g,0,none⟩) m cap/\base<=g/\w.heap[g]? = some (.cells cur e (0,0))/\cur.size=cap*sz/\m<=cap/\cap<=maxLen/\cur.toList.take (m*sz)=xs:=by
 rcases h.2 with ⟨rfl,rfl⟩|⟨g,cap,cur,rfl,h1,h2,h3,h4,h5,h6⟩
 ·omega
 ·exact ⟨g,cap,cur,rfl,h1,h2,h5,h3,h4,h6⟩
theorem owns_slice {base e sz m:Nat} {val:Value} {xs:List Value} (h:w.ownsRow base e sz val m xs):∃A cap,val = .slice A m cap:=by
 rcases h.2 with ⟨rfl,rfl⟩|⟨g,cap,cur,rfl,h1,h2,h3,h4,h5,h6⟩
 ·exact ⟨_,_,rfl⟩
 ·exact ⟨_,_,rfl⟩
include hr hp
theorem s_iaddr {t:TypeId} {x' i':Operand} {x i:X} {e sz:Nat} (ho:o.op = .indexAddr t x' i') (ht:sliceT P t=some e) (hsz:sizeT P e=some sz) (hx:okX x' x=true) (hi:okX i' i=true)
  (he:match ev (get env) i with
   | .i _ n=>0<=n/\(match ev (get env) x with
    | .sl es=>∃el,es[n.toNat]? = some el/\(cells el).length=sz/\v = .ep el 0
    | .arr id=>∃e' es,lk σ id=some (.arr e' sz es)/\n.toNat<es.length/\v = .aref id n.toNat sz 0
    | _=>False)
   | _=>False):Goes P W0 ep o d σ n μ H a w v σ:=by
 have hx':=okX_rel hr hx
 have hi':=okX_rel hr hi
 have hu:=sliceT_some ht
 have hel:P.elem t=e:=by simp [Program.elem,hu]
 generalize ev (get env) i=vi at *
 generalize ev (get env) x=vx at *
 split at he
 ·rename_i k m
  obtain ⟨h0,he⟩:=he
  have ei:=hi'.i_inv
  have go:∀(ad:Addr) len cap,a.eval x' = .slice (some ad) len cap->m.toNat<len->VRel μ H v (.pointer (some (ad.add (m.toNat*sz))))->Goes P W0 ep o d σ n μ H a w v σ:=fun ad len cap h1 h2 h3=>
   Goes.same (val:=.pointer (some (ad.add (m.toNat*sz)))) (fun w=>by
    have hm:0<=m/\m<(len:Int):=⟨h0,by omega⟩
    simp only [execOp,ho,h1,ei,Sem.run_bind]
    rw [run_indexAt_slice w t ad len cap k m (by rw [hel];exact hu),if_pos hm,hel,run_sizeOf hsz]
    rfl) hp h3
  split at he
  ·rename_i es
   obtain ⟨el,hel',hc,rfl⟩:=he
   have hlt:m.toNat<es.length:=(List.getElem?_eq_some_iff.1 hel').1
   obtain ⟨A,cap,ex,hcap,hlim,hh⟩:=hx'.sl_inv
   rcases hh with rfl|⟨ad,sz0,vals,rfl,hsz0,hrel,hpin⟩
   ·simp at hlt
   ·have hs0:sz0=sz:=by rw [<-hsz0 el (List.mem_of_getElem? hel')];exact hc
    subst hs0
    refine go ad _ _ ex hlt ?_
    have hce:=elem_cells hsz0 hrel hel'
    have:=VRel.ep (μ:=μ) (H:=H) el 0 (ad.add (m.toNat*sz0)) _ hce.len hce.one (fun k v hk=>by rw [add_add'];exact hpin _ _ (take_drop_at hk)) hce.at_
    rwa [Addr.add_zero'] at this
  ·rename_i id
   obtain ⟨e',es,hl,hlt,rfl⟩:=he
   obtain ⟨hm,_⟩:=hx'.arr_inv
   obtain ⟨vals,_,hown,_⟩:=ent_arr hp hl hm
   obtain ⟨g,cap,cur,hv,_⟩:=owns_form hown (by omega)
   refine go ⟨g,0,none⟩ _ _ hv hlt ?_
   rw [add_lit0]
   rw [hv] at hm
   exact .aref id _ sz 0 g _ cap hm
  ·exact he.elim
 ·exact he.elim
theorem s_idx {t:TypeId} {x' i':Operand} {x i:X} (ho:o.op = .index t x' i') (ht:isStrT P t=true) (hx:okX x' x=true) (hi:okX i' i=true)
  {l:List UInt8} {k:IntKind} {m:Int} {c:UInt8} (ex:ev (get env) x = .s l) (ei:ev (get env) i = .i k m) (h0:0<=m) (hc:l[m.toNat]? = some c) (he:v = .i .u8 c.toNat):Goes P W0 ep o d σ n μ H a w v σ:=by
 have hx':=okX_rel hr hx
 have hi':=okX_rel hr hi
 rw [ex] at hx'
 rw [ei] at hi'
 obtain ⟨e1,_⟩:=hx'.s_inv
 have e2:=hi'.i_inv
 subst he
 have hlt:m.toNat<l.length:=(List.getElem?_eq_some_iff.1 hc).1
 refine Goes.same (val:=.int .u8 c.toNat) (fun w=>?_) hp (.i _ _)
 simp only [execOp,ho,e1,e2,Sem.run_bind]
 have hb:(⟨l.toArray⟩:ByteArray)[m.toNat]? = some c:=by
  rw [ByteArray.getElem?_lt' _ _ (by simpa [ByteArray.size] using hlt)]
  have:=(List.getElem?_eq_some_iff.1 hc).2
  congr 1
 simp [Instr.index,asIntOf,run_underlying (isStrT_true ht),h0,hb]
omit hr hp in
theorem ent_box {B:Nat} {id:Id} {en:Ent} {u:V} (h:EntRel B μ H w id en) (hen:en = .box u\/∃t,en = .tbox t u) :
  ∃bk vals t,μ id=some (.pointer (some ⟨bk,0,none⟩))/\w.heap[bk]? = some (.cells vals t (0,0))/\CRel μ H (cells u) vals.toList:=by
 rcases hen with rfl|⟨t,rfl⟩
 ·obtain ⟨bk,vals,t,h1,_,h2,h3⟩:=h;exact ⟨bk,vals,t,h1,h2,h3⟩
 ·obtain ⟨bk,vals,h1,_,h2,h3⟩:=h;exact ⟨bk,vals,t,h1,h2,h3⟩
theorem s_load {t:TypeId} {x':Operand} {x:X} {m:Nat} {ag:Bool} (ho:o.op = .load t x') (hsz:sizeT P t=some m) (hag:aggT P t=some ag) (hx:okX x' x=true)
  (he:match ev (get env) x with
   | .ref id off=>∃en,lk σ id=some en/\ldB en off m ag=some v
   | .aref id ix sz off=>∃e es el,lk σ id=some (.arr e sz es)/\es[ix]? = some el/\sub el off m ag=some v
   | .ep u off=>sub u off m ag=some v
   | _=>False):Goes P W0 ep o d σ n μ H a w v σ:=by
 have hx':=okX_rel hr hx
 have go:∀(ad:Addr) off (u:V) vals,a.eval x' = .pointer (some (ad.add off))->CRel μ H (cells u) vals->(∀k v,vals[k]? = some v->w.cell? (ad.add k)=some v)->sub u off m ag=some v->Goes P W0 ep o d σ n μ H a w v σ:=by
  intro ad off u vals h1 h2 h3 h4 next Q K
  obtain ⟨val,hrun,hrel⟩:=run_load_at hsz hag w vals ad off h2 h3 h4
  refine wp_value (w':=w) (val:=val) ?_ (K _ _ _ _ _ (Done.same hp hrel))
  simp [execOp,ho,h1,Instr.loadAt,Instr.sureAddr,hrun]
 generalize ev (get env) x=vx at *
 split at he
 ·rename_i id off
  obtain ⟨en,hl,hs⟩:=he
  obtain ⟨bk,hm,e1⟩:=hx'.ref_inv
  obtain ⟨u,hen,hs⟩:=ldB_some hs
  obtain ⟨bk',vals,t',hm',hh,hc⟩:=ent_box (hp.ents _ _ hl) hen
  rw [hm] at hm'
  cases hm'
  refine go ⟨bk,0,none⟩ off u vals.toList (by rw [add_lit0];exact e1) hc (fun k v hk=>?_) hs
  rw [add_lit0,cell_of_row w bk k vals t' (0,0) hh]
  simpa using hk
 ·rename_i id ix sz off
  obtain ⟨e,es,el,hl,hel,hs⟩:=he
  obtain ⟨bk,len,cap,hm,e1⟩:=hx'.aref_inv
  obtain ⟨vals,_,hown,_,hsz',hc⟩:=ent_arr hp hl hm
  have hlt:ix<es.length:=(List.getElem?_eq_some_iff.1 hel).1
  refine go ⟨bk,ix*sz,none⟩ off el _ (by rw [Addr.add_lit];exact e1) (elem_cells hsz' hc hel) (fun k v hk=>?_) hs
  have:=hown.cells (g:=bk) rfl _ _ (take_drop_at hk)
  rw [add_lit0] at this
  rw [Addr.add_lit]
  exact this
 ·rename_i u off
  obtain ⟨ad,vals,e1,hc,hpin⟩:=hx'.ep_inv
  exact go ad off u vals e1 hc (fun k v hk=>hp.pins _ _ (hpin k v hk)) he
 ·exact he.elim
end ops
theorem okXs_one {xs:List Operand} {y:X} (h:okXs xs [y]=true):∃x,xs=[x]/\okX x y=true:=by
 match xs,h with
 | [x],h=>exact ⟨x,rfl,by simpa [okXs] using h⟩
 | [],h=>simp [okXs] at h
 | _::_::_,h=>simp [okXs] at h
theorem okXs_two {xs:List Operand} {y z:X} (h:okXs xs [y,z]=true):∃x x',xs=[x,x']/\okX x y=true/\okX x' z=true:=by
 match xs,h with
 | [x,x'],h=>exact ⟨x,x',rfl,by simpa [okXs] using h⟩
 | [],h=>simp [okXs] at h
 | [_],h=>simp [okXs] at h
 | _::_::_::_,h=>simp [okXs] at h
theorem run_builtin_call {P:Program} {o:Oper} {c:Call} {b:Builtin} (ho:o.op = .call c) (hc:c.callee = .builtin b) (ρ:Operand->Value) (w:World) :
  ∃cs,(execOp ρ o).run P w=(builtin b c.argTypes o.type cs (c.args.map ρ)).run P w:=by
 refine ⟨c.args.map fun|.const _=>true|_=>false,?_⟩
 simp only [execOp,ho,resolve,hc,Sem.run_bind,Sem.run_pure,Result.andThen_ok,invoke]
 rfl
theorem arr_of_toList {α:Type} {xs:Array α} {l:List α} (h:xs.toList=l):xs=l.toArray:=by
 apply Array.ext';simpa using h
theorem arr_one {α:Type} (xs:Array α) (h:xs.size=1):∃x,xs = #[x]:=by
 obtain ⟨l⟩:=xs
 match l,h with
 | [x],_=>exact ⟨x,rfl⟩
theorem fill_step {α:Type} (vs:List α):∀(k off:Nat) (cs:Array α),off+k+vs.length<=cs.size->
  ((vs.zipIdx k).foldl (fun cs (c,j)=>cs.setIfInBounds (off+j) c) cs).toList=cs.toList.take (off+k)++vs++cs.toList.drop (off+k+vs.length):=by
 induction vs with
 | nil=>intro k off cs h;simp
 | cons v vs ih=>
  intro k off cs h
  simp only [List.length_cons] at h
  simp only [List.zipIdx_cons,List.foldl_cons]
  rw [ih (k+1) off _ (by simp;omega)]
  simp only [Array.toList_setIfInBounds,List.length_cons]
  have hk:off+k<cs.toList.length:=by simp;omega
  have h1:(cs.toList.set (off+k) v).take (off+(k+1))=cs.toList.take (off+k)++[v]:=by
   rw [<-Nat.add_assoc,List.take_set,List.take_succ_eq_append_getElem hk]
   have hl:(cs.toList.take (off+k)).length=off+k:=by simp;omega
   rw [List.set_append_right _ _ (by omega)]
   simp [hl]
  have h2:(cs.toList.set (off+k) v).drop (off+(k+1)+vs.length)=cs.toList.drop (off+k+(vs.length+1)):=by
   rw [List.drop_set_of_lt (by omega)]
   congr 1
   omega
  rw [h1,h2]
  simp
theorem fill_one (vs cs:Array Value) (off:Nat) (h:off+vs.size<=cs.size) :
  (vs.zipIdx.foldl (fun cs (c,j)=>cs.setIfInBounds (off+j) c) cs).toList=cs.toList.take off++vs.toList++cs.toList.drop (off+vs.size):=by
 have:=fill_step vs.toList 0 off cs (by simpa using h)
 rw [<-Array.foldl_toList]
 simpa using this
section ops
variable {P : Program} {W0 : World} {ep nt : Nat} {o : Oper} {d : Option Nat} {env : Env} {σ σ' : Sto} {n : Nat} {μ : Id → Option Value} {H : Addr → Option Value} {a : Act} {w : World} {v : V}
variable (hr : Rl μ H nt env a) (hp : Hp W0 σ n μ H w)
include hr hp
theorem s_lenS {x:X} {c:Call} (ho:o.op = .call c) (hcal:c.callee = .builtin .len) (ht:isStrT P (c.argTypes.getD 0 0)=true) (h1:c.argTypes.size=1) (hx:okXs c.args.toList [x]=true)
  {l:List UInt8} (ex:ev (get env) x = .s l) (he:v = .i .i64 l.length):Goes P W0 ep o d σ n μ H a w v σ:=by
 obtain ⟨x',hargs,hx⟩:=okXs_one hx
 have hargs:=arr_of_toList hargs
 have hx':=okX_rel hr hx
 rw [ex] at hx'
 obtain ⟨e1,_⟩:=hx'.s_inv
 subst he
 refine Goes.same (val:=.int .i64 l.length) (fun w=>?_) hp (.i _ _)
 obtain ⟨T,hT⟩:=arr_one c.argTypes h1
 rw [hT] at ht
 obtain ⟨cs,hrun⟩:=run_builtin_call (P:=P) ho hcal a.eval w
 have hl:(Builtin.len_ #[T] o.type #[.string ⟨l.toArray⟩]).run P w = .ok (goInt (⟨l.toArray⟩:ByteArray).size) w:=run_len_string w T o.type _ (isStrT_true ht)
 have hsz:goInt (⟨l.toArray⟩:ByteArray).size = .int .i64 l.length:=by show Value.int .i64 _=_;congr 1
 rw [hrun,hargs,hT]
 simp only [builtin,List.map_toArray,List.map_cons,List.map_nil,e1,Sem.run_bind,hl,hsz,Result.andThen_ok,Sem.run_pure]
theorem elems_rel {x':Operand} {x:X} (hx:okX x' x=true) {es:List V} (he:elemsOf σ (ev (get env) x)=some es) :
  ∃A cap,a.eval x' = .slice A es.length cap:=by
 have hx':=okX_rel hr hx
 generalize ev (get env) x=vx at *
 unfold elemsOf at he
 split at he
 ·cases he
  obtain ⟨A,cap,e1,_⟩:=hx'.sl_inv
  exact ⟨A,cap,e1⟩
 ·cases he
  exact ⟨none,0,hx'.nil_inv⟩
 ·rename_i id
  split at he
  ·rename_i hl
   cases he
   obtain ⟨hm,_⟩:=hx'.arr_inv
   obtain ⟨vals,_,hown,_⟩:=ent_arr hp hl hm
   exact owns_slice hown
  ·cases he
 ·cases he
theorem s_lenL {x:X} {c:Call} (ho:o.op = .call c) (hcal:c.callee = .builtin .len) (ht:(sliceT P (c.argTypes.getD 0 0)).isSome=true) (h1:c.argTypes.size=1) (hx:okXs c.args.toList [x]=true)
  {es:List V} (ex:elemsOf σ (ev (get env) x)=some es) (he:v = .i .i64 es.length):Goes P W0 ep o d σ n μ H a w v σ:=by
 obtain ⟨x',hargs,hx⟩:=okXs_one hx
 have hargs:=arr_of_toList hargs
 obtain ⟨A,cap,e1⟩:=elems_rel hr hp hx ex
 obtain ⟨e,ht⟩:=Option.isSome_iff_exists.1 ht
 subst he
 refine Goes.same (val:=.int .i64 es.length) (fun w=>?_) hp (.i _ _)
 obtain ⟨T,hT⟩:=arr_one c.argTypes h1
 rw [hT] at ht
 obtain ⟨cs,hrun⟩:=run_builtin_call (P:=P) ho hcal a.eval w
 have hu:P.underlying T=some (.slice e):=sliceT_some ht
 have hl:(Builtin.len_ #[T] o.type #[.slice A es.length cap]).run P w = .ok (goInt es.length) w:=run_len_slice w T o.type _ _ _ (by rw [hu];simp [Program.elem,hu])
 rw [hrun,hargs,hT]
 simp only [builtin,List.map_toArray,List.map_cons,List.map_nil,e1,Sem.run_bind,hl,Result.andThen_ok,Sem.run_pure,goInt]
theorem s_ext {x':Operand} {x:X} {k:Nat} (ho:o.op = .extract x' k) (hx:okX x' x=true) {vs:List V} (ex:ev (get env) x = .tup vs) (he:vs[k]? = some v):Goes P W0 ep o d σ n μ H a w v σ:=by
 have hx':=okX_rel hr hx
 rw [ex] at hx'
 obtain ⟨vals,e1,hvs⟩:=hx'.tup_inv
 obtain ⟨val,hval,hrel⟩:=hvs.get he
 refine Goes.same (val:=val) (fun w=>?_) hp hrel
 have:vals.toArray[k]? = some val:=by simpa using hval
 simp [execOp,ho,e1,Instr.extract,this]
theorem s_mkfn {f:FuncId} {first' caps':Array Operand} {first caps:List X} (ho:o.op = .makeFunc (.func f) first' caps') (h1:okXs first'.toList first=true) (h2:okXs caps'.toList caps=true)
  (he:v = .fn f (first.map (ev (get env))) (caps.map (ev (get env)))):Goes P W0 ep o d σ n μ H a w v σ:=by
 have r1:=okXs_rel hr h1
 have r2:=okXs_rel hr h2
 subst he
 refine Goes.same (val:=.func (.func f) (first'.toList.map a.eval).toArray (caps'.toList.map a.eval).toArray) (fun w=>?_) hp (.fn f _ _ _ _ r1.len r2.len r1.at_ r2.at_)
 have e1:first'.map a.eval=(first'.toList.map a.eval).toArray:=by apply Array.ext';simp
 have e2:caps'.map a.eval=(caps'.toList.map a.eval).toArray:=by apply Array.ext';simp
 simp only [execOp,ho,Sem.run_bind,Instr.makeFunc,Sem.run_pure,Result.andThen_ok,e1,e2]
theorem s_nilck {x':Operand} {x:X} (ho:o.op = .nilCheck x') (hx:okX x' x=true)
  (hn:match ev (get env) x with
   | .ref _ _|.aref _ _ _ _|.ep _ _|.fn _ _ _=>True
   | _=>False) (he:v=ev (get env) x):Goes P W0 ep o d σ n μ H a w v σ:=by
 have hx':=okX_rel hr hx
 subst he
 refine Goes.same (val:=a.eval x') (fun w=>?_) hp hx'
 generalize ev (get env) x=vx at *
 split at hn
 ·obtain ⟨bk,hm,e1⟩:=hx'.ref_inv
  simp [execOp,ho,e1]
 ·obtain ⟨bk,len,cap,hm,e1⟩:=hx'.aref_inv
  simp [execOp,ho,e1]
 ·obtain ⟨ad,vals,e1,_⟩:=hx'.ep_inv
  simp [execOp,ho,e1]
 ·obtain ⟨fv,cv,e1,_⟩:=hx'.fn_inv
  simp [execOp,ho,e1]
 ·exact hn.elim
theorem bnd_rel {lo':Option Operand} {lo:Option X} (hlo:okXo lo' lo=true) {dflt b:Nat} (hb:bnd (get env) dflt lo=some b) :
  (lo=none/\lo'=none/\b=dflt)\/∃x' k,lo'=some x'/\a.eval x' = .int k (b:Int):=by
 cases lo with
 | none=>
  cases lo' with
  | none=>simp [bnd] at hb;exact .inl ⟨rfl,rfl,hb.symm⟩
  | some x=>simp [okXo] at hlo
 | some x=>
  cases lo' with
  | none=>simp [okXo] at hlo
  | some x'=>
   simp only [okXo] at hlo
   have hx':=okX_rel hr hlo
   unfold bnd at hb
   simp only at hb
   split at hb
   ·rename_i k m hev
    rw [hev] at hx'
    split at hb
    ·cases hb
     refine .inr ⟨x',k,rfl,?_⟩
     rw [hx'.i_inv]
     congr 1
     omega
    ·cases hb
   ·cases hb
theorem run_bounds {lo' hi':Option Operand} {lo hi:Option X} (hlo:okXo lo' lo=true) (hhi:okXo hi' hi=true) (isSlice:Bool) {len cap l h:Nat} (hc:len<=cap)
  (hl:bnd (get env) 0 lo=some l) (hh:bnd (get env) len hi=some h) (hlh:l<=h) (hhc:h<=cap) (w:World) :
  (Instr.sliceBounds isSlice len cap (lo'.map a.eval) (hi'.map a.eval) none).run P w = .ok (l,h,cap) w:=by
 have sb:∀(k:IntKind) (i y:Nat) (code:BoundsCode),i<=y->∀w,(Instr.sliceBound (.int k i) y code).run P w = .ok i w:=by
  intro k i y code hi w
  have:(0:Int)<=i/\(i:Int)<=y:=by omega
  simp [Instr.sliceBound,asIntOf,this]
 rcases bnd_rel hr hp hlo hl with ⟨rfl,rfl,rfl⟩|⟨xl,kl,rfl,el⟩<;>rcases bnd_rel hr hp hhi hh with ⟨rfl,rfl,rfl⟩|⟨xh,kh,rfl,eh⟩
 ·simp [Instr.sliceBounds]
 ·simp [Instr.sliceBounds,eh,sb kh h cap _ hhc]
 ·simp [Instr.sliceBounds,el,sb kl l _ _ hlh]
 ·simp [Instr.sliceBounds,el,eh,sb kl l h _ hlh,sb kh h cap _ hhc]
theorem s_slS {t:TypeId} {x':Operand} {x:X} {lo' hi':Option Operand} {lo hi:Option X} (ho:o.op = .slice t x' lo' hi' none) (ht:isStrT P t=true) (hx:okX x' x=true) (hlo:okXo lo' lo=true) (hhi:okXo hi' hi=true)
  {l:List UInt8} {p q:Nat} (ex:ev (get env) x = .s l) (hp1:bnd (get env) 0 lo=some p) (hq1:bnd (get env) l.length hi=some q) (hpq:p<=q) (hq:q<=l.length) (he:v = .s ((l.take q).drop p)):Goes P W0 ep o d σ n μ H a w v σ:=by
 have hx':=okX_rel hr hx
 rw [ex] at hx'
 obtain ⟨e1,lim⟩:=hx'.s_inv
 have hu:=isStrT_true ht
 subst he
 refine Goes.same (val:=.string ⟨((l.take q).drop p).toArray⟩) (fun w=>?_) hp (.s _ (by simp;omega))
 have hb:=fun w=>run_bounds (P:=P) hr hp hlo hhi false (Nat.le_refl l.length) hp1 hq1 hpq hq w
 have hsz:(⟨l.toArray⟩:ByteArray).size=l.length:=by simp [ByteArray.size]
 have hex:(⟨l.toArray⟩:ByteArray).extract p q=⟨((l.take q).drop p).toArray⟩:=by
  rw [ByteArray.extract_mk,List.drop_take]
 have hsl:(Instr.slice t (.string ⟨l.toArray⟩) (lo'.map a.eval) (hi'.map a.eval) none).run P w = .ok (.string ⟨((l.take q).drop p).toArray⟩) w:=by
  simp only [Instr.slice,Sem.run_bind,run_underlying hu,Result.andThen_ok,Option.isSome_none,Bool.false_eq_true,if_false,Sem.run_pure,hsz,hb,hex]
 simp only [execOp,ho,Option.map_none,Sem.run_bind,Instr.sliceAt,run_underlying hu,e1,Result.andThen_ok,hsl,Sem.run_pure]
theorem s_slL {t e:TypeId} {x':Operand} {x:X} {lo' hi':Option Operand} {lo hi:Option X} {sz:Nat} (ho:o.op = .slice t x' lo' hi' none) (ht:sliceT P t=some e) (hse:sizeT P e=some sz) (hx:okX x' x=true) (hlo:okXo lo' lo=true) (hhi:okXo hi' hi=true)
  {es:List V} {p q:Nat} (ex:ev (get env) x = .sl es\/ev (get env) x = .nil/\es=[]) (hp1:bnd (get env) 0 lo=some p) (hq1:bnd (get env) es.length hi=some q) (hpq:p<=q) (hq:q<=es.length)
  (hsz:∀y∈es,(cells y).length=sz) (he:v = .sl ((es.take q).drop p)):Goes P W0 ep o d σ n μ H a w v σ:=by
 have hx':=okX_rel hr hx
 have hu:=sliceT_some ht
 subst he
 obtain ⟨A,cap,e1,hcap,hlim,hh⟩:∃(A:Option Addr) (cap:Nat),a.eval x' = .slice A es.length cap/\es.length<=cap/\es.length<=LLim/\
   (es=[]\/∃(ad:Addr) (sz:Nat) (vals:List Value),A=some ad/\(∀e∈es,(cells e).length=sz)/\CRel μ H (flat es) vals/\∀(k:Nat) (v:Value),vals[k]? = some v->H (ad.add k)=some v):=by
  rcases ex with ex|⟨ex,rfl⟩
  ·rw [ex] at hx';exact hx'.sl_inv
  ·rw [ex] at hx';exact ⟨none,0,hx'.nil_inv,Nat.le_refl _,Nat.zero_le _,.inl rfl⟩
 have hb:=fun w=>run_bounds (P:=P) hr hp hlo hhi true hcap hp1 hq1 hpq (Nat.le_trans hq hcap) w
 have hrun:∀w,(execOp a.eval o).run P w = .ok (.value (.slice (if cap=p then A else A.map (·.add (p*sz))) (q-p) (cap-p))) w:=by
  intro w
  have hsl:(Instr.slice t (.slice A es.length cap) (lo'.map a.eval) (hi'.map a.eval) none).run P w = .ok (.slice (if cap=p then A else A.map (·.add (p*sz))) (q-p) (cap-p)) w:=by
   simp only [Instr.slice,Sem.run_bind,run_underlying hu,Result.andThen_ok,Sem.run_pure,hb,run_sizeOf hse]
  simp only [execOp,ho,Option.map_none,Sem.run_bind,Instr.sliceAt,run_underlying hu,e1,Result.andThen_ok,hsl,Sem.run_pure]
 refine Goes.same hrun hp ?_
 have hlen:((es.take q).drop p).length=q-p:=by simp;omega
 rcases Nat.eq_zero_or_pos (q-p) with h0|h0
 ·have:(es.take q).drop p=[]:=List.eq_nil_of_length_eq_zero (by omega)
  rw [this,h0]
  exact .slE _ _
 ·rcases hh with rfl|⟨ad,sz0,vals,rfl,hsz0,hrel,hpin⟩
  ·simp at hq;omega
  ·have hs0:sz0=sz:=by
    have:0<es.length:=by omega
    rw [<-hsz0 es[0] (by simp),hsz es[0] (by simp)]
   subst hs0
   rw [if_neg (by omega)]
   have hf:flat ((es.take q).drop p)=((flat es).take (q*sz0)).drop (p*sz0):=by
    rw [flat_drop (fun e he=>hsz0 e (List.mem_of_mem_take he)),flat_take hsz0]
   have hrel':=(hrel.take (q*sz0)).drop (p*sz0)
   rw [<-hf] at hrel'
   have:=VRel.slC (μ:=μ) (H:=H) ((es.take q).drop p) (ad.add (p*sz0)) (cap-p) sz0 _ (by omega) (by omega) (fun e he=>hsz0 e (List.mem_of_mem_take (List.mem_of_mem_drop he))) hrel'.len hrel'.one (fun k v hk=>by
    rw [add_add']
    refine hpin _ _ ?_
    rw [List.getElem?_drop,List.getElem?_take] at hk
    split at hk
    ·exact hk
    ·cases hk) hrel'.at_
   rw [hlen] at this
   simpa using this
theorem s_mx {lo:Bool} {x:X} {xs:List X} {c:Call} {b:Builtin} (ho:o.op = .call c) (hcal:c.callee = .builtin b) (hb:b=if lo then Builtin.min else Builtin.max) (hx:okXs c.args.toList (x::xs)=true)
  (he:mxV lo (ev (get env) x) (xs.map (ev (get env)))=some v):Goes P W0 ep o d σ n μ H a w v σ:=by
 have hrel:=okXs_rel hr hx
 obtain ⟨x0,r0,hargs,hx0,hr0⟩:∃x0 r0,c.args.toList=x0::r0/\okX x0 x=true/\okXs r0 xs=true:=by
  cases h:c.args.toList with
  | nil=>rw [h] at hx;simp [okXs] at hx
  | cons x0 r0=>rw [h] at hx;simp only [okXs,Bool.and_eq_true] at hx;exact ⟨x0,r0,rfl,hx.1,hx.2⟩
 have hmap:(c.args.map a.eval).toList=a.eval x0::r0.map a.eval:=by simp [hargs]
 have h0:=okX_rel hr hx0
 have hrs:=okXs_rel hr hr0
 have go:∀(r:List V) (rv:List Value) (vx:V) (valx:Value),VRel μ H vx valx->VRels μ H r rv->mxV lo vx r=some v->∃val,VRel μ H v val/\∀w,(rv.foldlM (if lo then Builtin.min2 else Builtin.max2) valx).run P w = .ok val w:=by
  intro r
  induction r with
  | nil=>
   intro rv vx valx hv hrs he
   have:rv=[]:=List.eq_nil_of_length_eq_zero (by rw [<-hrs.len];rfl)
   subst this
   simp only [mxV] at he
   cases he
   exact ⟨valx,hv,fun w=>by simp⟩
  | cons y r ih=>
   intro rv vx valx hv hrs he
   cases rv with
   | nil=>have:=hrs.len;simp at this
   | cons yv rv=>
    have hy:=hrs.at_ 0 y yv rfl rfl
    have hrs':VRels μ H r rv:=⟨by have:=hrs.len;simpa using this,fun k c v h1 h2=>hrs.at_ (k+1) c v (by simpa using h1) (by simpa using h2)⟩
    unfold mxV at he
    split at he
    ·rename_i heq;cases heq
    ·rename_i k p k' q r' heq
     cases heq
     split at he
     ·rename_i hk
      subst hk
      obtain ⟨val,h1,h2⟩:=ih rv _ (.int k (if lo then min p q else max p q)) (.i _ _) hrs' he
      refine ⟨val,h1,fun w=>?_⟩
      rw [hv.i_inv,hy.i_inv]
      simp only [List.foldlM_cons,Sem.run_bind]
      have:((if lo then Builtin.min2 else Builtin.max2) (.int k p) (.int k q)).run P w = .ok (.int k (if lo then min p q else max p q)) w:=by
       cases lo
       ·simp only [Bool.false_eq_true,if_false,Builtin.max2,Sem.run_pure]
        congr 2
        split<;>omega
       ·simp only [if_true,Builtin.min2,Sem.run_pure]
        congr 2
        split<;>omega
      rw [this]
      exact h2 w
     ·cases he
    ·cases he
 obtain ⟨val,h1,h2⟩:=go _ _ _ _ h0 hrs he
 refine Goes.same (val:=val) (fun w=>?_) hp h1
 obtain ⟨cs,hrun⟩:=run_builtin_call (P:=P) ho hcal a.eval w
 rw [hrun,hb]
 cases lo
 ·simp only [Bool.false_eq_true,if_false] at h2⊢
  simp only [builtin,Builtin.max_,hmap,Sem.run_bind,h2,Result.andThen_ok,Sem.run_pure]
 ·simp only [if_true] at h2⊢
  simp only [builtin,Builtin.min_,hmap,Sem.run_bind,h2,Result.andThen_ok,Sem.run_pure]
end ops
end Go.Ir
end
section
namespace Go.Ir
open Go.RowKit
theorem zeroOk_some {P:Program} {t:TypeId} {z:V} (h:zeroOk P t z=true):∃i zv,P.info? t=some i/\i.zero=some zv/\okZ zv z=true:=by
 unfold zeroOk zeroT at h
 cases hi:P.info? t with
 | none=>simp [hi] at h
 | some i=>
  cases hz:i.zero with
  | none=>simp [hi,hz] at h
  | some zv=>exact ⟨i,zv,rfl,hz,by simpa [hi,hz] using h⟩
theorem Turned.to {R R':Nat->Prop} {w w':World} (h:Turned R w w') (hr:∀k,R k->R' k):Turned R' w w':=
 ⟨h.os,h.tape,h.output,h.size,fun k hk hn=>h.block k hk (fun hrk=>hn (hr k hrk))⟩
theorem setc_cells {u u' x:V} {off n:Nat} (h:setc u off n x=some u'):(cells x).length=n/\off+n<=(cells u).length/\cells u'=(cells u).take off++cells x++(cells u).drop (off+n):=by
 unfold setc at h
 split at h
 ·rename_i hn
  split at h
  ·rename_i h0
   cases h
   obtain ⟨rfl,hl,_⟩:=h0
   refine ⟨hn,by omega,?_⟩
   rw [List.take_zero,List.nil_append,Nat.zero_add,List.drop_of_length_le (by omega),List.append_nil]
  ·split at h
   ·rename_i h1
    cases h
    exact ⟨hn,h1,rfl⟩
   ·cases h
 ·cases h
theorem flat_set {es:List V} {sz:Nat} (h:∀e∈es,(cells e).length=sz) {i:Nat} (hi:i<es.length) {x:V} (hx:(cells x).length=sz) :
  flat (es.set i x)=(flat es).take (i*sz)++cells x++(flat es).drop (i*sz+sz):=by
 rw [List.set_eq_take_append_cons_drop,if_pos hi,flat_append,flat_take h]
 have:i*sz+sz=(i+1)*sz:=by rw [Nat.add_mul,Nat.one_mul]
 rw [this,<-flat_drop h]
 simp [flat]
theorem crel_splice {μ:Id->Option Value} {H:Addr->Option Value} {cs ds:List V} {vs us:List Value} (h:CRel μ H cs vs) (h':CRel μ H ds us) (off k:Nat) :
  CRel μ H (cs.take off++ds++cs.drop k) (vs.take off++us++vs.drop k):=((h.take off).append h').append (h.drop k)
section ops
variable {P : Program} {W0 : World} {ep nt : Nat} {o : Oper} {d : Option Nat} {env : Env} {σ σ' : Sto} {n : Nat} {μ : Id → Option Value} {H : Addr → Option Value} {a : Act} {w : World} {v : V}
variable (hr : Rl μ H nt env a) (hp : Hp W0 σ n μ H w)
theorem Goes.made (hp:Hp W0 σ n μ H w) {dd:Nat} (hd:d=some dd) (hn:ep<n) (hf:∀dd,d=some dd->μ (ep,dd)=none) {obj:Obj} {val:Value} {e:Ent}
  (hrun:(execOp a.eval o).run P w = .ok (.value val) (w.alloc obj)) (hb:∀bk,blk (some val)=some bk->bk=w.heap.size)
  (he:EntRel W0.heap.size (setμ μ (ep,dd) val) H (w.alloc obj) (ep,dd) e) (hv:VRel (setμ μ (ep,dd) val) H v val):Goes P W0 ep o d σ n μ H a w v (((ep,dd),e)::σ):=by
 intro next Q K
 have hnew:=hp.new_ (n':=n) (Turned.alloc w obj) (fun _ h=>h.elim) (σ1:=σ) (fun id e h=>⟨h,fun _ _ h=>h⟩) (hf dd hd) hn (Nat.le_refl _) (fun bk hb'=>.inr (by rw [hb bk hb'];exact Nat.le_refl _)) he
 refine wp_value hrun (K _ _ _ _ _ ⟨hv,hnew.1,Nat.le_refl _,hnew.2,fun id hid hne hnone=>?_⟩)
 rw [setμ_ne _ _ (hne dd hd)]
 exact hnone
theorem made_box {w:World} {μ':Id->Option Value} {u:V} {vals:Array Value} {t:TypeId} {id:Id} (hb:W0.heap.size<=w.heap.size) (hm:μ' id=some (.pointer (some ⟨w.heap.size,0,none⟩))) (hc:CRel μ' H (cells u) vals.toList) :
  EntRel W0.heap.size μ' H (w.alloc (.cells vals t)) id (.box u):=
 ⟨w.heap.size,vals,t,hm,hb,heap_alloc_new w _,hc⟩
theorem made_tbox {w:World} {μ':Id->Option Value} {u:V} {vals:Array Value} {t:TypeId} {id:Id} (hb:W0.heap.size<=w.heap.size) (hm:μ' id=some (.pointer (some ⟨w.heap.size,0,none⟩))) (hc:CRel μ' H (cells u) vals.toList) :
  EntRel W0.heap.size μ' H (w.alloc (.cells vals t)) id (.tbox t u):=
 ⟨w.heap.size,vals,hm,hb,heap_alloc_new w _,hc⟩
include hr hp
theorem s_box {t:TypeId} {x':Operand} {x:X} (ho:o.op = .box t x') (hx:okX x' x=true) (hn:ep<n) (hf:∀dd,d=some dd->μ (ep,dd)=none) {dd:Nat} (hd:d=some dd) (hok:(ev (get env) x).ok=true)
  (he:v = .ref (ep,dd) 0):Goes P W0 ep o d σ n μ H a w v (((ep,dd),.box (ev (get env) x))::σ):=by
 have hx':=okX_rel hr hx
 have hmono:=setμ_mono (v:=.pointer (some ⟨w.heap.size,0,none⟩)) (hf dd hd)
 subst he
 refine Goes.made hp hd hn hf (obj:=.cells (a.eval x').cells t) (val:=.pointer (some ⟨w.heap.size,0,none⟩)) ?_ (fun bk h=>by simpa [blk] using h.symm)
  (made_box hp.base.size (setμ_self _ _ _) ((hx'.toCells hok).1.mono hmono (fun _ _ h=>h))) (.ref _ 0 _ (setμ_self _ _ _))
 simp [execOp,ho,Instr.box,newVar,newRow]
theorem s_alloc {t:TypeId} {z:V} (ho:o.op = .alloc t) (hz:zeroOk P t z=true) (hn:ep<n) (hf:∀dd,d=some dd->μ (ep,dd)=none) {dd:Nat} (hd:d=some dd)
  (he:v = .ref (ep,dd) 0):Goes P W0 ep o d σ n μ H a w v (((ep,dd),.box z)::σ):=by
 obtain ⟨i,zv,hi,hzv,hok⟩:=zeroOk_some hz
 subst he
 refine Goes.made hp hd hn hf (obj:=.cells zv.cells t) (val:=.pointer (some ⟨w.heap.size,0,none⟩)) ?_ (fun bk h=>by simpa [blk] using h.symm)
  (made_box hp.base.size (setμ_self _ _ _) (okZ_rel hok).2) (.ref _ 0 _ (setμ_self _ _ _))
 simp [execOp,ho,Instr.alloc,zeroValue,typeInfo,hi,hzv,newVar,newRow]
theorem store_run {t:TypeId} {m:Nat} {x' a':Operand} {x:X} (ho:o.op = .store t a' x') (hsz:sizeT P t=some m) (hx:okX x' x=true) (hok:(ev (get env) x).ok=true) (hlen:(cells (ev (get env) x)).length=m)
  {g off:Nat} {cur:Array Value} {ct:TypeId} (ha:a.eval a' = .pointer (some ⟨g,off,none⟩)) (hg:w.heap[g]? = some (.cells cur ct (0,0))) (hfit:off+m<=cur.size) :
  ∃vals,CRel μ H (cells (ev (get env) x)) vals/\vals.length=m/\(execOp a.eval o).run P w = .ok .skip (w.setRow g (cur.toList.take off++vals++cur.toList.drop (off+m)).toArray):=by
 have hx':=okX_rel hr hx
 obtain ⟨hc,_⟩:=hx'.toCells hok
 have hl:(a.eval x').cells.toList.length=m:=by rw [<-hc.len];exact hlen
 have hst:=run_storeCells_at P g off ct (a.eval x').cells.toList 0 cur w hg (by rw [Nat.add_zero,hl];exact hfit) hc.one
 simp only [Nat.add_zero,hl] at hst
 refine ⟨_,hc,hl,?_⟩
 have hsize:(a.eval x').cells.size=m:=by simpa using hl
 simp only [execOp,ho,Sem.run_bind,Instr.storeAt,ha,Instr.sureAddr,Sem.run_pure,Result.andThen_ok,storeVar,run_sizeOf hsz,hsize,ne_eq,not_true_eq_false,if_false,hst]
theorem s_store {t:TypeId} {m:Nat} {x' a':Operand} {x ax:X} (ho:o.op = .store t a' x') (hsz:sizeT P t=some m) (hx:okX x' x=true) (ha:okX a' ax=true) (hd:o.dst=d) (hdn:d=none) (hok:(ev (get env) x).ok=true) (hv:v = .tup [])
  (he:match ev (get env) ax with
   | .ref id off=>∃en en',lk σ id=some en/\stB en off m (ev (get env) x)=some en'/\σ'=upd σ id en'
   | .aref id ix sz off=>∃e es el el',lk σ id=some (.arr e sz es)/\es[ix]? = some el/\setc el off m (ev (get env) x)=some el'/\σ'=upd σ id (.arr e sz (es.set ix el'))
   | _=>False):Goes P W0 ep o d σ n μ H a w v σ':=by
 have ha':=okX_rel hr ha
 subst hv
 have hund:VRel μ H (.tup []) undef:=.tup [] [] rfl (fun k c v hk=>by simp at hk)
 have fin:∀{w'},(execOp a.eval o).run P w = .ok .skip w'->Hp W0 σ' n μ H w'/\Fr μ H σ w μ H σ' w'->Goes P W0 ep o d σ n μ H a w (.tup []) σ':=fun hrun hh next Q K=>
  wp_none hrun (K _ _ _ _ _ ⟨hund,hh.1,Nat.le_refl _,hh.2,fun _ _ _ h=>h⟩)
 generalize hax:ev (get env) ax=vx at *
 split at he
 ·rename_i id off
  obtain ⟨en,en',hl,hs,rfl⟩:=he
  obtain ⟨bk,hm,e1⟩:=ha'.ref_inv
  obtain ⟨u,u',hs,hen⟩:=stB_some hs
  obtain ⟨hlx,hfit,hcells⟩:=setc_cells hs
  have hent:=hp.ents _ _ hl
  rcases hen with ⟨rfl,rfl⟩|⟨ct,rfl,rfl⟩
  ·obtain ⟨bk',vals,ct,hm',hB,hg,hc⟩:=hent
   rw [hm] at hm'
   cases hm'
   have hsize:(cells u).length=vals.size:=by rw [hc.len];simp
   obtain ⟨nv,hcx,hnl,hrun⟩:=store_run hr hp ho hsz hx hok hlx e1 hg (by omega)
   refine fin hrun (hp.set_ hl ((Turned.setRow w bk _).to (fun k hk=>by subst hk;simp [hm,blk])) ?_)
   refine ⟨bk,_,ct,hm,hB,setRow_heap w bk vals _ ct (0,0) hg,?_⟩
   rw [hcells]
   exact crel_splice hc hcx off (off+m)
  ·obtain ⟨bk',vals,hm',hB,hg,hc⟩:=hent
   rw [hm] at hm'
   cases hm'
   have hsize:(cells u).length=vals.size:=by rw [hc.len];simp
   obtain ⟨nv,hcx,hnl,hrun⟩:=store_run hr hp ho hsz hx hok hlx e1 hg (by omega)
   refine fin hrun (hp.set_ hl ((Turned.setRow w bk _).to (fun k hk=>by subst hk;simp [hm,blk])) ?_)
   refine ⟨bk,_,hm,hB,setRow_heap w bk vals _ ct (0,0) hg,?_⟩
   rw [hcells]
   exact crel_splice hc hcx off (off+m)
 ·rename_i id ix sz off
  obtain ⟨e,es,el,el',hl,hel,hs,rfl⟩:=he
  obtain ⟨bk,len,cap,hm,e1⟩:=ha'.aref_inv
  obtain ⟨vals,h1,hown,hlim,hsz',hc⟩:=ent_arr hp hl hm
  have hlt:ix<es.length:=(List.getElem?_eq_some_iff.1 hel).1
  obtain ⟨g,cap',cur,hval,hB,hg,hcs,hcap,hmax,htake⟩:=owns_form hown (by omega)
  cases hval
  obtain ⟨hlx,hfit,hcells⟩:=setc_cells hs
  have hel0:(cells el).length=sz:=hsz' el (List.mem_of_getElem? hel)
  have hall:(flat es).length=es.length*sz:=flat_length hsz'
  have hvl:vals.length=es.length*sz:=by rw [<-hc.len];exact hall
  have hrow:ix*sz+sz<=es.length*sz:=by
   have:=Nat.mul_le_mul_right sz (Nat.succ_le_of_lt hlt)
   rwa [Nat.succ_mul] at this
  have hcur:es.length*sz<=cur.size:=by rw [hcs];exact Nat.mul_le_mul_right _ hcap
  obtain ⟨nv,hcx,hnl,hrun⟩:=store_run hr hp ho hsz hx hok hlx e1 hg (by omega)
  have hlel':(cells el').length=sz:=by rw [hcells];simp;omega
  refine fin hrun (hp.set_ hl ((Turned.setRow w bk _).to (fun k hk=>by subst hk;simp [hm,blk])) ?_)
  have hflat:flat (es.set ix el')=(flat es).take (ix*sz+off)++cells (ev (get env) x)++(flat es).drop (ix*sz+off+m):=by
   rw [flat_set hsz' hlt hlel',hcells,<-flat_at hsz' hel]
   have t1:(List.take off (List.take sz (List.drop (ix*sz) (flat es))))=List.drop (ix*sz) (List.take (ix*sz+off) (flat es)):=by
    rw [List.take_take,List.drop_take,show min off sz=off by omega,show ix*sz+off-ix*sz=off by omega]
   have t2:(List.drop (off+m) (List.take sz (List.drop (ix*sz) (flat es))))++List.drop (ix*sz+sz) (flat es)=List.drop (ix*sz+off+m) (flat es):=by
    rw [List.drop_take,List.drop_drop]
    have e2:List.drop (ix*sz+sz) (flat es)=List.drop (sz-(off+m)) (List.drop (ix*sz+(off+m)) (flat es)):=by
     rw [List.drop_drop];congr 1;omega
    rw [e2,List.take_append_drop,Nat.add_assoc]
   have t3:List.take (ix*sz) (flat es)++List.drop (ix*sz) (List.take (ix*sz+off) (flat es))=List.take (ix*sz+off) (flat es):=by
    have:List.take (ix*sz) (flat es)=List.take (ix*sz) (List.take (ix*sz+off) (flat es)):=by
     rw [List.take_take];congr 1;omega
    rw [this,List.take_append_drop]
   rw [t1]
   simp only [List.append_assoc]
   rw [t2,<-List.append_assoc,t3]
  have hnew:=crel_splice hc hcx (ix*sz+off) (ix*sz+off+m)
  rw [<-hflat] at hnew
  have hkeep:(cur.toList.take (ix*sz+off)++nv++cur.toList.drop (ix*sz+off+m)).take (es.length*sz)=vals.take (ix*sz+off)++nv++vals.drop (ix*sz+off+m):=by
   have h3:(cur.toList.take (ix*sz+off)).length=ix*sz+off:=by simp;omega
   rw [<-htake,List.take_append,List.take_append]
   rw [List.take_take,List.take_take,h3]
   have h4:min (ix*sz+off) (es.length*sz)=ix*sz+off:=by omega
   have h5:min (es.length*sz) (ix*sz+off)=ix*sz+off:=by omega
   have h6:nv.take (es.length*sz-(ix*sz+off))=nv:=List.take_of_length_le (by omega)
   rw [h4,h5,h6]
   congr 1
   rw [List.drop_take]
   congr 1
   simp only [List.length_append,h3,hnl]
  refine ⟨_,_,hm,h1,⟨?_,.inr ⟨bk,cap,_,by rw [List.length_set],hB,setRow_heap w bk cur _ e (0,0) hg,by rw [List.length_set];exact hcap,hmax,?_,?_⟩⟩,by rw [List.length_set];exact hlim,?_,hnew⟩
  ·rw [List.length_set,<-hnew.len,hflat]
   simp only [List.length_append,List.length_take,List.length_drop,hall,hlx]
   omega
  ·simp only [List.size_toArray,List.length_append,List.length_take,List.length_drop,Array.length_toList,hnl]
   omega
  ·rw [List.length_set]
   exact hkeep
  ·intro y hy
   rcases List.mem_or_eq_of_mem_set hy with hy|rfl
   ·exact hsz' y hy
   ·exact hlel'
 ·exact he.elim
end ops
end Go.Ir
end
section
namespace Go.Ir
open Go.RowKit
theorem placesT_some {P:Program} {t:TypeId} {pl:List (Nat × Nat)} (h:placesT P t=some pl):∃fs,P.underlying t=some (.struct fs)/\fs.toList.mapM (fun f=>(P.info? f.type).map fun i=>(f.offset,i.size))=some pl:=by
 unfold placesT at h
 cases hf:fieldsT P t with
 | none=>simp [hf] at h
 | some fs=>exact ⟨fs,fieldsT_some hf,by simpa [hf] using h⟩
theorem fill_parts {μ:Id->Option Value} {H:Addr->Option Value} {nt:Nat} {env:Env} {a:Act} (hr:Rl μ H nt env a) (pl:List (Nat × Nat)) {place:Nat->Option (Nat × Nat)} (hplace:∀f q,pl[f]? = some q->place f=some q) :
  ∀(ps':List (Nat × Operand)) (ps:List (Nat × Nat × X)) (z cs:List V) (zv:Array Value),okParts pl ps' ps=true->(∀p∈ps,(ev (get env) p.2.2).ok=true)->CRel μ H z zv.toList->
   fillV z (ps.map fun p=>(p.1,p.2.1,ev (get env) p.2.2))=some cs->∃cv,Instr.fill place zv (ps'.map fun (i,x)=>(i,a.eval x))=some cv/\CRel μ H cs cv.toList
 | [],[],z,cs,zv,_,_,hz,h=>by
  simp only [List.map_nil,fillV] at h
  cases h
  exact ⟨zv,rfl,hz⟩
 | (f,x')::r',(off,n,x)::r,z,cs,zv,hok,hall,hz,h=>by
  simp only [okParts,Bool.and_eq_true,beq_iff_eq] at hok
  obtain ⟨⟨hpl,hx⟩,hrest⟩:=hok
  simp only [List.map_cons,fillV] at h
  split at h
  ·rename_i h1
   obtain ⟨hlen,hfit⟩:=h1
   have hv:=okX_rel hr hx
   obtain ⟨hc,_⟩:=hv.toCells (hall (off,n,x) (by simp))
   have hsz:(a.eval x').cells.size=n:=by rw [<-Array.length_toList,<-hc.len];exact hlen
   have hzl:z.length=zv.size:=by rw [hz.len];simp
   have hfo:=fill_one (a.eval x').cells zv off (by omega)
   have hnew:CRel μ H (z.take off++cells (ev (get env) x)++z.drop (off+n)) (((a.eval x').cells.zipIdx.foldl (fun cs (c,j)=>cs.setIfInBounds (off+j) c) zv).toList):=by
    rw [hfo,hsz]
    exact crel_splice hz hc off (off+n)
   obtain ⟨cv,hfill,hrel⟩:=fill_parts hr pl hplace r' r _ cs _ hrest (fun p hp=>hall p (by simp [hp])) hnew h
   refine ⟨cv,?_,hrel⟩
   simp only [List.map_cons,Instr.fill]
   simp only [hplace f _ hpl]
   rw [if_neg (by simp;omega)]
   exact hfill
  ·cases h
 | [],_::_,_,_,_,hok,_,_,_=>by simp [okParts] at hok
 | _::_,[],_,_,_,hok,_,_,_=>by simp [okParts] at hok
section ops
variable {P : Program} {W0 : World} {ep nt : Nat} {o : Oper} {d : Option Nat} {env : Env} {σ σ' : Sto} {n : Nat} {μ : Id → Option Value} {H : Addr → Option Value} {a : Act} {w : World} {v : V}
variable (hr : Rl μ H nt env a) (hp : Hp W0 σ n μ H w)
include hr hp
theorem s_build {t:TypeId} {z:List V} {ps':Array (Nat × Operand)} {ps:List (Nat × Nat × X)} (ho:o.op = .build t ps') (hz:zeroOk P t (.agg z)=true) (hpl:(placesA P t).isSome=true) (hok:okParts ((placesA P t).getD []) ps'.toList ps=true)
  (hall:∀p∈ps,(ev (get env) p.2.2).ok=true) {cs:List V} (hf:fillV z (ps.map fun p=>(p.1,p.2.1,ev (get env) p.2.2))=some cs) (he:v = .agg cs):Goes P W0 ep o d σ n μ H a w v σ:=by
 obtain ⟨i,zv,hi,hzv,hokz⟩:=zeroOk_some hz
 obtain ⟨pl,hpl⟩:=Option.isSome_iff_exists.1 hpl
 rw [hpl] at hok
 have hcz:=(okZ_rel (μ:=μ) (H:=H) hokz).2
 subst he
 simp only [Option.getD_some] at hok
 unfold placesA at hpl
 split at hpl
 ·rename_i k e hu
  obtain ⟨ie,hie,hpl'⟩:=Option.map_eq_some_iff.1 hpl
  obtain ⟨cv,hfill,hrel⟩:=fill_parts hr pl (place:=fun i=>some (i*ie.size,ie.size)) (fun f q hq=>by
   rw [<-hpl'] at hq
   simp only [List.getElem?_map,Option.map_eq_some_iff] at hq
   obtain ⟨j,hj,rfl⟩:=hq
   have:j=f:=by
    rcases Nat.lt_or_ge f k with h|h
    ·rw [List.getElem?_range h] at hj;cases hj;rfl
    ·rw [List.getElem?_eq_none (by simpa using h)] at hj;cases hj
   subst this;rfl) ps'.toList ps z cs zv.cells hok hall hcz hf
  have:=VRel.agg (μ:=μ) (H:=H) cs cv.toList hrel.len hrel.one hrel.at_
  refine Goes.same (val:=.agg cv) (fun w=>?_) hp (by simpa using this)
  have hsz:(sizeOf e).run P w = .ok ie.size w:=by simp [sizeOf,typeInfo,hie]
  have hzz:(zeroValue t).run P w = .ok zv w:=by simp [zeroValue,typeInfo,hi,hzv]
  simp only [execOp,ho,Sem.run_bind,Instr.build,hzz,Result.andThen_ok,run_underlying hu,hsz,Array.toList_map,hfill,Sem.run_pure]
 ·obtain ⟨fs,hu,hpl'⟩:=placesT_some hpl
  obtain ⟨cv,hfill,hrel⟩:=fill_parts hr pl (place:=(pl.toArray[·]?)) (fun f q hq=>by simpa using hq) ps'.toList ps z cs zv.cells hok hall hcz hf
  have:=VRel.agg (μ:=μ) (H:=H) cs cv.toList hrel.len hrel.one hrel.at_
  refine Goes.same (val:=.agg cv) (fun w=>?_) hp (by simpa using this)
  have hb:P.built t (ps'.map fun (i,x)=>(i,a.eval x)).toList=some cv:=by
   unfold Program.built
   simp only [hi,hu,hzv,hpl']
   rw [Array.toList_map]
   exact hfill
  simp only [execOp,ho,Sem.run_bind,run_build w t _ cv hb,Result.andThen_ok,Sem.run_pure]
theorem fill_elems (sz:Nat):∀(ps:List (Nat × Operand)) (xs:List X) (k:Nat) (cs:Array Value),okElems k ps xs=true->(∀x∈xs.map (ev (get env)),x.ok=true/\(cells x).length=sz)->(k+xs.length)*sz=cs.size->
  ∃cv vals,Instr.fill (fun i=>some (i*sz,sz)) cs (ps.map fun (i,x)=>(i,a.eval x))=some cv/\CRel μ H (flat (xs.map (ev (get env)))) vals/\cv.toList=cs.toList.take (k*sz)++vals
 | [],[],k,cs,_,_,hl=>by
  refine ⟨cs,[],rfl,by simpa [flat] using CRel.nil_,?_⟩
  simp only [List.length_nil,Nat.add_zero] at hl
  rw [List.append_nil,List.take_of_length_le (by simp;omega)]
 | (j,x')::r',x::r,k,cs,hok,hall,hl=>by
  simp only [okElems,Bool.and_eq_true,beq_iff_eq] at hok
  obtain ⟨⟨rfl,hx⟩,hrest⟩:=hok
  have h0:=hall (ev (get env) x) (by simp)
  have hv:=okX_rel hr hx
  obtain ⟨hc,_⟩:=hv.toCells h0.1
  have hsz:(a.eval x').cells.size=sz:=by rw [<-Array.length_toList,<-hc.len];exact h0.2
  have hfit:j*sz+(a.eval x').cells.size<=cs.size:=by
   rw [hsz,<-hl]
   simp only [List.length_cons]
   have:j*sz+sz=(j+1)*sz:=by rw [Nat.add_mul,Nat.one_mul]
   rw [this]
   exact Nat.mul_le_mul_right _ (by omega)
  have hfo:=fill_one (a.eval x').cells cs (j*sz) hfit
  have hsize:((a.eval x').cells.zipIdx.foldl (fun cs (c,i)=>cs.setIfInBounds (j*sz+i) c) cs).size=cs.size:=by
   rw [<-Array.length_toList,hfo]
   simp only [List.length_append,List.length_take,List.length_drop,Array.length_toList]
   omega
  obtain ⟨cv,vals,hfill,hrel,hcv⟩:=fill_elems sz r' r (j+1) _ hrest (fun y hy=>hall y (by simp at hy⊢;exact .inr hy)) (by rw [hsize,<-hl];simp only [List.length_cons];congr 1;omega)
  refine ⟨cv,(a.eval x').cells.toList++vals,?_,?_,?_⟩
  ·simp only [List.map_cons,Instr.fill]
   rw [if_neg (by simp;omega)]
   exact hfill
  ·have:=hc.append hrel
   simpa [flat] using this
  ·rw [hcv,hfo,<-List.append_assoc]
   congr 1
   have h3:(j+1)*sz=j*sz+(a.eval x').cells.size:=by rw [hsz,Nat.add_mul,Nat.one_mul]
   have h4:(cs.toList.take (j*sz)).length=j*sz:=by simp;omega
   rw [h3,List.take_append_of_le_length (by simp;omega),List.take_of_length_le (by simp;omega)]
 | [],_::_,_,_,hok,_,_=>by simp [okElems] at hok
 | _::_,[],_,_,hok,_,_=>by simp [okElems] at hok
theorem s_msl {t e:TypeId} {len sz:Nat} {own:Bool} {ps:Array (Nat × Operand)} {xs:List X} (ho:o.op = .buildSlice t len ps) (ht:sliceT P t=some e) (hel:elemOk P e sz=true) (hlen:len=xs.length) (hsmall:len*sz<=16777216)
  (hok:okElems 0 ps.toList xs=true) (hn:ep<n) (hf:∀dd,d=some dd->μ (ep,dd)=none) (hall:∀x∈xs.map (ev (get env)),x.ok=true/\(cells x).length=sz)
  (he:if own then ∃dd,d=some dd/\v = .arr (ep,dd)/\σ'=((ep,dd),.arr e sz (xs.map (ev (get env))))::σ else v = .sl (xs.map (ev (get env)))/\σ'=σ):Goes P W0 ep o d σ n μ H a w v σ':=by
 have hu:=sliceT_some ht
 obtain ⟨i,z,hi,hsz,hpos,hby,hz,hzs,_⟩:=elemOk_some hel
 subst hsz
 have hz0:(Array.range (len*i.size)).size=len*i.size:=by simp
 obtain ⟨cv,vals,hfill,hrel,hcv⟩:=fill_elems (a:=a) hr hp i.size ps.toList xs 0 ((Array.range (len*i.size)).map ((if len*i.size=0 then #[] else z.cells)[· % (if len*i.size=0 then #[] else z.cells:Array Value).size]!)) hok hall (by simp [hlen])
 simp only [Nat.zero_mul,List.take_zero,List.nil_append] at hcv
 subst hcv
 have hrun:∀w,(execOp a.eval o).run P w = .ok (.value (.slice (some ⟨w.heap.size,0,none⟩) len len)) (w.alloc (.cells cv e)):=by
  intro w
  have hmap:(ps.map fun (i,x)=>(i,a.eval x)).toList=ps.toList.map fun (i,x)=>(i,a.eval x):=by simp
  have hng:¬len*i.size>2 ^ 24:=by omega
  have hng0:¬(0:Nat)>2 ^ 24:=by omega
  by_cases h0:len*i.size=0
  ·simp only [h0,if_true] at hfill
   simp only [execOp,ho,Sem.run_bind,Instr.buildSlice,run_underlying hu,Result.andThen_ok,sizeOf,typeInfo,run_program,hi,Sem.run_pure,h0,hng0,if_false,if_true,hmap,hfill,newRow,run_newObj,World.alloc_eq]
  ·simp only [if_neg h0] at hfill
   simp only [execOp,ho,Sem.run_bind,Instr.buildSlice,run_underlying hu,Result.andThen_ok,sizeOf,typeInfo,run_program,hi,Sem.run_pure,hng,if_false,if_neg h0,zeroValue,hz,hmap,hfill,newRow,run_newObj,World.alloc_eq]
 have hfl:(flat (xs.map (ev (get env)))).length=xs.length*i.size:=by
  have:=flat_length (es:=xs.map (ev (get env))) (sz:=i.size) (fun e he=>(hall e he).2)
  simpa using this
 have hcvs:cv.size=len*i.size:=by rw [<-Array.length_toList,<-hrel.len,hfl,hlen]
 have hxl:xs.length<=16777216:=by
  have:xs.length*1<=xs.length*i.size:=Nat.mul_le_mul_left _ hpos
  rw [hlen] at hsmall
  omega
 cases own with
 | true=>
  simp only [if_true] at he
  obtain ⟨dd,hd,rfl,rfl⟩:=he
  have hmono:=setμ_mono (v:=.slice (some ⟨w.heap.size,0,none⟩) len len) (hf dd hd)
  refine Goes.made hp hd hn hf (hrun w) (fun bk h=>by simpa [blk] using h.symm) ⟨_,cv.toList,setμ_self _ _ _,rfl,⟨?_,.inr ⟨w.heap.size,len,cv,by simp [hlen],hp.base.size,heap_alloc_new w _,by simp [hlen],by simp only [maxLen];omega,hcvs,?_⟩⟩,by simp [LLim];omega,fun x hx=>(hall x hx).2,hrel.mono hmono (fun _ _ h=>h)⟩ (.arr _ _ (setμ_self _ _ _) rfl)
  ·rw [<-hrel.len,hfl,List.length_map]
  ·rw [List.length_map,<-hlen,<-hcvs,<-Array.length_toList,List.take_length]
 | false=>
  simp only [Bool.false_eq_true,if_false] at he
  obtain ⟨rfl,rfl⟩:=he
  intro next Q K
  have hpin:=hp.pin_ (.cells cv e)
  have hmono:∀ad v,H ad=some v->pinned H (w.alloc (.cells cv e)) w.heap.size ad=some v:=hpin.2.hp
  refine wp_value (hrun w) (K _ n μ _ _ ⟨?_,hpin.1,Nat.le_refl _,hpin.2,fun _ _ _ h=>h⟩)
  have:=VRel.slC (μ:=μ) (H:=pinned H (w.alloc (.cells cv e)) w.heap.size) (xs.map (ev (get env))) ⟨w.heap.size,0,none⟩ len i.size cv.toList (by simp [hlen]) (by simp [LLim];omega) (fun e he=>(hall e he).2) hrel.len hrel.one (fun k v hk=>by
   rw [add_lit0]
   simp only [pinned,if_true]
   rw [World.cell?_alloc_new]
   simpa using hk) (fun k c v h1 h2=>(hrel.at_ k c v h1 h2).mono (fun _ _ h=>h) hmono)
  rw [List.length_map,<-hlen] at this
  exact this
theorem bytes_ok {k b:Nat} (hk:k<=LLim) (hb:b<=32768):k*b<=140737488355328:=by
 have:=Nat.mul_le_mul hk hb
 simp only [LLim] at this
 omega
theorem run_append_of_nil {w:World} {base:Nat} {t ty e:TypeId} {i:TypeInfo} {size:Nat} (ht:P.underlying t=some (.slice e)) (hi:P.info? e=some i)
  {v:Value} {n:Nat} {xs:List Value} (hown:w.ownsRow base e size v n xs) (A:Option Addr) (c:Nat):(Builtin.append_ #[t,t] ty #[v,.slice A 0 c]).run P w = .ok v w:=by
 rcases hown.2 with ⟨rfl,rfl⟩|⟨g,cap,cur,rfl,_,_,hnc,_⟩
 ·cases A<;>simp [Builtin.append_,run_underlying ht,sizeOf,typeInfo,hi,Builtin.lenOf,Builtin.firstCells,loadCells,loadCellsFrom]
 ·cases A<;>simp [Builtin.append_,run_underlying ht,sizeOf,typeInfo,hi,Builtin.lenOf,Builtin.firstCells,hnc,storeCells,loadCells,loadCellsFrom]
theorem src_rel {x':Operand} {x:X} (hx:okX x' x=true) {xs:List V} {sz:Nat} (he:elemsOf σ (ev (get env) x)=some xs) (hsz:∀y∈xs,(cells y).length=sz) :
  ∃A cap,a.eval x' = .slice A xs.length cap/\xs.length<=LLim/\(xs=[]\/∃ad vals,A=some ad/\CRel μ H (flat xs) vals/\∀j u,vals[j]? = some u->w.cell? (ad.add j)=some u):=by
 have hx':=okX_rel hr hx
 generalize ev (get env) x=vx at *
 unfold elemsOf at he
 split at he
 ·cases he
  obtain ⟨A,cap,e1,_,hlim,hh⟩:=hx'.sl_inv
  refine ⟨A,cap,e1,hlim,?_⟩
  rcases hh with h|⟨ad,sz0,vals,rfl,_,hrel,hpin⟩
  ·exact .inl h
  ·exact .inr ⟨ad,vals,rfl,hrel,fun j u hu=>hp.pins _ _ (hpin j u hu)⟩
 ·cases he
  exact ⟨none,0,hx'.nil_inv,Nat.zero_le _,.inl rfl⟩
 ·rename_i id
  split at he
  ·rename_i hl
   cases he
   obtain ⟨hm,_⟩:=hx'.arr_inv
   obtain ⟨vals,_,hown,hlim,_,hrel⟩:=ent_arr hp hl hm
   obtain ⟨A,cap,hv⟩:=owns_slice hown
   refine ⟨A,cap,hv,hlim,?_⟩
   rcases Nat.eq_zero_or_pos xs.length with h0|h0
   ·exact .inl (List.eq_nil_of_length_eq_zero h0)
   ·obtain ⟨g,cap',cur,hv',_⟩:=owns_form hown h0
    rw [hv'] at hv
    cases hv
    refine .inr ⟨⟨g,0,none⟩,vals,rfl,hrel,?_⟩
    rw [hv'] at hown
    exact hown.cells (g:=g) rfl
  ·cases he
 ·cases he
theorem s_app {c:Call} {s x:X} {e sz:Nat} (ho:o.op = .call c) (hcal:c.callee = .builtin .append) (hT:c.argTypes = #[c.argTypes.getD 0 0,c.argTypes.getD 0 0]) (ht:sliceT P (c.argTypes.getD 0 0)=some e) (hel:elemOk P e sz=true) (hxs:okXs c.args.toList [s,x]=true)
  (hn:ep<n) (hf:∀dd,d=some dd->μ (ep,dd)=none) {dd:Nat} (hd:d=some dd) {xs:List V} (hsrc:elemsOf σ (ev (get env) x)=some xs) (hsz:∀y∈xs,(cells y).length=sz) (hv:v = .arr (ep,dd))
  (he:match ev (get env) s with
   | .nil=>xs.length<=LLim/\σ'=((ep,dd),.arr e sz xs)::σ
   | .arr id=>∃es,lk σ id=some (.arr e sz es)/\es.length+xs.length<=LLim/\σ'=((ep,dd),.arr e sz (es++xs))::del σ id
   | _=>False):Goes P W0 ep o d σ n μ H a w v σ':=by
 obtain ⟨s',x',hargs,hs,hx⟩:=okXs_two hxs
 have hargs:=arr_of_toList hargs
 generalize c.argTypes.getD 0 0=t at *
 have hu:=sliceT_some ht
 obtain ⟨i,z,hi,hisz,hpos,hby,hz,hzs,_⟩:=elemOk_some hel
 have hs':=okX_rel hr hs
 obtain ⟨A,cap,ex,hxlim,hsr⟩:=src_rel hr hp (w:=w) hx hsrc hsz
 subst hv
 have run:∀(sv:Value) (es:List V) (vals:List Value),a.eval s'=sv->w.ownsRow W0.heap.size e sz sv es.length vals->CRel μ H (flat es) vals->es.length+xs.length<=LLim->
   ∃v' w' nv,(execOp a.eval o).run P w = .ok (.value v') w'/\w'.ownsRow W0.heap.size e sz v' (es.length+xs.length) nv/\CRel μ H (flat (es++xs)) nv/\w.grownBy w' sv.ownBlock/\(v'.ownBlock=sv.ownBlock\/v'.ownBlock=some w.heap.size):=by
  intro sv es vals hes hown hrel hlim
  have hb:∀(r:Value) (w':World),(Builtin.append_ #[t,t] o.type #[sv,.slice A xs.length cap]).run P w = .ok r w'->(execOp a.eval o).run P w = .ok (.value r) w':=by
   intro r w' h
   obtain ⟨cs,hrun⟩:=run_builtin_call (P:=P) ho hcal a.eval w
   rw [hrun,hargs,hT]
   simp only [builtin,List.map_toArray,List.map_cons,List.map_nil,hes,ex,Sem.run_bind,h,Result.andThen_ok,Sem.run_pure]
  rcases hsr with rfl|⟨ad,news,rfl,hnrel,hcell⟩
  ·exact ⟨sv,w,vals,hb _ _ (run_append_of_nil hr hp hu hi hown A cap),by simpa using hown,by simpa using hrel,⟨rfl,rfl,rfl,Nat.le_refl _,fun _ _ _=>rfl⟩,.inl rfl⟩
  ·have hnl:news.length=xs.length*sz:=by rw [<-hnrel.len];exact flat_length hsz
   obtain ⟨v',w',h1,h2,h3,_,h5⟩:=run_append_own_at (P:=P) w W0.heap.size t o.type e i z sz i.bytes hu hi hz hisz rfl hzs hpos sv es.length vals hown ad xs.length cap news hnl hcell hnrel.one (by simp only [maxLen,LLim] at *;omega) (bytes_ok hr hp hlim hby) hp.base.size
   refine ⟨v',w',_,hb _ _ h1,h2,?_,h3,h5⟩
   rw [flat_append]
   exact hrel.append hnrel
 have fin:∀(sv v':Value) (w':World) (es:List V) (nv:List Value) (σ1:Sto),(execOp a.eval o).run P w = .ok (.value v') w'->w'.ownsRow W0.heap.size e sz v' es.length nv->CRel μ H (flat es) nv->w.grownBy w' sv.ownBlock->
   (v'.ownBlock=sv.ownBlock\/v'.ownBlock=some w.heap.size)->es.length<=LLim->(∀y∈es,(cells y).length=sz)->(∀k,some k=sv.ownBlock->Own μ σ k)->(∀id e,lk σ1 id=some e->lk σ id=some e/\∀bk,blk (μ id)=some bk->some bk≠sv.ownBlock)->
   Goes P W0 ep o d σ n μ H a w (.arr (ep,dd)) (((ep,dd),.arr e sz es)::σ1):=by
  intro sv v' w' es nv σ1 hrun hown hrel hg hob hlim hall hR h1 next Q K
  have hmono:=setμ_mono (v:=v') (hf dd hd)
  have h1c:v'.oneCell'=true:=by obtain ⟨A,cap,rfl⟩:=owns_slice hown;rfl
  have hblk:∀bk,blk (some v')=some bk->v'.ownBlock=some bk:=by
   obtain ⟨A,cap,rfl⟩:=owns_slice hown
   intro bk hb
   cases A with
   | none=>simp [blk] at hb
   | some A=>simpa [blk,Value.ownBlock] using hb
  have hnew:=hp.new_ (n':=n) (σ1:=σ1) (Turned.of_grown hg) hR h1 (hf dd hd) (e:=.arr e sz es) (val:=v') hn (Nat.le_refl _) (fun bk hb=>by
   rcases hob with h|h
   ·exact .inl (by rw [<-h];exact (hblk bk hb).symm)
   ·rw [hblk bk hb] at h;cases h;exact .inr (Nat.le_refl _)) ⟨v',nv,setμ_self _ _ _,h1c,hown,hlim,hall,hrel.mono hmono (fun _ _ h=>h)⟩
  refine wp_value hrun (K _ _ _ _ _ ⟨.arr _ _ (setμ_self _ _ _) h1c,hnew.1,Nat.le_refl _,hnew.2,fun id hid hne hnone=>?_⟩)
  rw [setμ_ne _ _ (hne dd hd)]
  exact hnone
 generalize hes:ev (get env) s=vs at *
 split at he
 ·obtain ⟨hlim,rfl⟩:=he
  have e1:=hs'.nil_inv
  obtain ⟨v',w',nv,h1,h2,h3,h4,h5⟩:=run (.slice none 0 0) [] [] e1 (World.ownsRow_nil w _ e sz) CRel.nil_ (by simpa using hlim)
  simp only [List.length_nil,Nat.zero_add,List.nil_append] at h2 h3
  exact fin _ v' w' xs nv σ h1 h2 h3 h4 h5 hlim hsz (fun k hk=>by simp [Value.ownBlock] at hk) (fun id e h=>⟨h,fun bk _ hb=>by simp [Value.ownBlock] at hb⟩)
 ·rename_i id
  obtain ⟨es,hl,hlim,rfl⟩:=he
  obtain ⟨hm,_⟩:=hs'.arr_inv
  obtain ⟨vals,_,hown,_,hsz',hrel⟩:=ent_arr hp hl hm
  have hob:∀k,some k=(a.eval s').ownBlock->blk (μ id)=some k:=by
   intro k hk
   rw [hm]
   obtain ⟨A',cap',hv'⟩:=owns_slice hown
   rw [hv'] at hk⊢
   cases A' with
   | none=>simp [Value.ownBlock] at hk
   | some A'=>simpa [Value.ownBlock,blk] using hk.symm
  obtain ⟨v',w',nv,h1,h2,h3,h4,h5⟩:=run _ es vals rfl hown hrel hlim
  rw [<-List.length_append] at h2
  refine fin _ v' w' (es++xs) nv (del σ id) h1 h2 h3 h4 h5 (by simpa using hlim) (fun y hy=>(List.mem_append.1 hy).elim (hsz' y) (hsz y)) (fun k hk=>⟨id,_,hl,hob k hk⟩) (fun id' e' h=>?_)
  rw [lk_del] at h
  split at h
  ·cases h
  ·rename_i hne
   exact ⟨h,fun bk hb hb'=>hne (hp.sep _ _ _ _ bk hl h (hob bk hb') hb)⟩
 ·exact he.elim
omit hr hp in
theorem byteOk_some {e:TypeId} (h:byteOk P e=true):∃i,P.info? e=some i/\i.size=1/\i.bytes=1/\i.zero=some (.int .u8 0):=by
 unfold byteOk at h
 split at h
 ·rename_i i hi
  simp only [Bool.and_eq_true,beq_iff_eq] at h
  obtain ⟨⟨h1,h2⟩,h3⟩:=h
  split at h3
  ·rename_i hz;exact ⟨i,hi,h1,h2,hz⟩
  ·cases h3
 ·cases h
omit hr hp in
theorem strCells_rel (l:List UInt8):CRel μ H (flat (byteVs l)) (Lib.strCells ⟨l.toArray⟩):=by
 induction l with
 | nil=>exact CRel.nil_
 | cons c l ih=>
  have h1:CRel μ H [V.i .u8 c.toNat] [Value.int .u8 c.toNat]:=⟨VRels.nil_.cons (.i _ _),fun v hv=>by simp at hv;subst hv;rfl⟩
  exact h1.append ih
omit hr hp in
theorem run_append_str_at {w:World} (base:Nat) (t u ty e:TypeId) (i:TypeInfo) (ht:P.underlying t=some (.slice e)) (hu:P.underlying u=some .string) (hi:P.info? e=some i) (hz:i.zero=some (.int .u8 0))
  (hsize:i.size=1) (hby:i.bytes=1) (v:Value) (n:Nat) (xs:List Value) (hown:w.ownsRow base e 1 v n xs) (s:ByteArray)
  (h63:n+s.size<=maxLen) (hbytes:n+s.size<=140737488355328) (hbase:base<=w.heap.size) :
  ∃v' w',(Builtin.append_ #[t,u] ty #[v,.string s]).run P w = .ok v' w'/\w'.ownsRow base e 1 v' (n+s.size) (xs++Lib.strCells s)/\w.grownBy w' v.ownBlock/\(v'.ownBlock=v.ownBlock\/v'.ownBlock=some w.heap.size):=by
 obtain ⟨v',w',hr,h1,h2,h3⟩:=Lib.run_append_own_string (P:=P) w base t u ty e i ht hu hi hz hsize hby v n xs hown s h63 hbytes hbase
 refine ⟨v',w',hr,h1,h2,?_⟩
 rcases hown.2 with ⟨rfl,rfl⟩|⟨g,cap,cur,rfl,hbg,hg,hnc,hcm,hcs,htake⟩
 ·by_cases hm:s.size=0
  ·rw [h3.2 ⟨rfl,hm⟩];exact .inl rfl
  ·have hr':=run_append_nil_string (P:=P) w t u ty e i (.int .u8 0) ht hu hi hz s (by omega) (by simp only [maxLen] at h63;omega) (by rw [hby];omega)
   rw [hr'] at hr
   injection hr with hv _
   subst hv
   exact .inr rfl
 ·by_cases hroom:n+s.size<=cap
  ·have hr':=Lib.run_append_room_string (P:=P) w t u ty e i ht hu hi hsize g n cap cur hg s hroom (by omega)
   rw [hr'] at hr
   injection hr with hv _
   subst hv
   exact .inl rfl
  ·have holds:∀j u,xs[j]? = some u->w.cell? ((⟨g,0,none⟩:Addr).add j)=some u:=hown.cells (g:=g) rfl
   have hr':=Lib.run_append_grow_string (P:=P) w t u ty e i (.int .u8 0) ht hu hi hz ⟨g,0,none⟩ n cap xs (by rw [hsize];simpa using hown.1) holds s (by omega) (by simp only [maxLen] at h63;omega) (by rw [hby];exact growslice_fits (by omega) (by omega))
   rw [hr'] at hr
   injection hr with hv _
   subst hv
   exact .inr rfl
theorem s_apps {c:Call} {s x:X} {e:Nat} (ho:o.op = .call c) (hcal:c.callee = .builtin .append) (hT:c.argTypes = #[c.argTypes.getD 0 0,c.argTypes.getD 1 0]) (ht:sliceT P (c.argTypes.getD 0 0)=some e) (hstr:isStrT P (c.argTypes.getD 1 0)=true) (hel:byteOk P e=true) (hxs:okXs c.args.toList [s,x]=true)
  (hn:ep<n) (hf:∀dd,d=some dd->μ (ep,dd)=none) {dd:Nat} (hd:d=some dd) {l:List UInt8} (hsrc:ev (get env) x = .s l) (hv:v = .arr (ep,dd))
  (he:match ev (get env) s with
   | .nil=>l.length<=LLim/\σ'=((ep,dd),.arr e 1 (byteVs l))::σ
   | .arr id=>∃es,lk σ id=some (.arr e 1 es)/\es.length+l.length<=LLim/\σ'=((ep,dd),.arr e 1 (es++byteVs l))::del σ id
   | _=>False):Goes P W0 ep o d σ n μ H a w v σ':=by
 obtain ⟨s',x',hargs,hs,hx⟩:=okXs_two hxs
 have hargs:=arr_of_toList hargs
 generalize c.argTypes.getD 0 0=t at *
 generalize c.argTypes.getD 1 0=u at *
 have hu:=sliceT_some ht
 have hus:=isStrT_true hstr
 obtain ⟨i,hi,hisz,hby,hz⟩:=byteOk_some hel
 have hs':=okX_rel hr hs
 have hx':=okX_rel hr hx
 rw [hsrc] at hx'
 have ex:=hx'.s_inv.1
 subst hv
 obtain ⟨xs,hxs⟩:∃xs,xs=byteVs l:=⟨_,rfl⟩
 have hxl:l.length=xs.length:=by rw [hxs];simp [byteVs]
 have hsz:∀y∈xs,(cells y).length=1:=by
  intro y hy
  rw [hxs] at hy
  obtain ⟨c,_,rfl⟩:=List.mem_map.1 hy
  rfl
 have hnrel:CRel μ H (flat xs) (Lib.strCells ⟨l.toArray⟩):=by rw [hxs];exact strCells_rel l
 have hss:(⟨l.toArray⟩:ByteArray).size=xs.length:=by rw [<-hxl];simp [ByteArray.size]
 rw [hxl,<-hxs] at he
 obtain ⟨sz,hsz1⟩:∃sz,sz=1:=⟨_,rfl⟩
 rw [<-hsz1] at he hsz
 have run:∀(sv:Value) (es:List V) (vals:List Value),a.eval s'=sv->w.ownsRow W0.heap.size e sz sv es.length vals->CRel μ H (flat es) vals->es.length+xs.length<=LLim->
   ∃v' w' nv,(execOp a.eval o).run P w = .ok (.value v') w'/\w'.ownsRow W0.heap.size e sz v' (es.length+xs.length) nv/\CRel μ H (flat (es++xs)) nv/\w.grownBy w' sv.ownBlock/\(v'.ownBlock=sv.ownBlock\/v'.ownBlock=some w.heap.size):=by
  intro sv es vals hes hown hrel hlim
  have hb:∀(r:Value) (w':World),(Builtin.append_ #[t,u] o.type #[sv,.string ⟨l.toArray⟩]).run P w = .ok r w'->(execOp a.eval o).run P w = .ok (.value r) w':=by
   intro r w' h
   obtain ⟨cs,hrun⟩:=run_builtin_call (P:=P) ho hcal a.eval w
   rw [hrun,hargs,hT]
   simp only [builtin,List.map_toArray,List.map_cons,List.map_nil,hes,ex,Sem.run_bind,h,Result.andThen_ok,Sem.run_pure]
  rw [hsz1] at hown
  obtain ⟨v',w',h1,h2,h3,h5⟩:=run_append_str_at (w:=w) W0.heap.size t u o.type e i hu hus hi hz hisz hby sv es.length vals hown ⟨l.toArray⟩ (by rw [hss];simp only [maxLen,LLim] at *;omega) (by rw [hss];simp only [LLim] at *;omega) hp.base.size
  rw [hss] at h2
  refine ⟨v',w',_,hb _ _ h1,by rw [hsz1];exact h2,?_,h3,h5⟩
  rw [flat_append]
  exact hrel.append hnrel
 have fin:∀(sv v':Value) (w':World) (es:List V) (nv:List Value) (σ1:Sto),(execOp a.eval o).run P w = .ok (.value v') w'->w'.ownsRow W0.heap.size e sz v' es.length nv->CRel μ H (flat es) nv->w.grownBy w' sv.ownBlock->
   (v'.ownBlock=sv.ownBlock\/v'.ownBlock=some w.heap.size)->es.length<=LLim->(∀y∈es,(cells y).length=sz)->(∀k,some k=sv.ownBlock->Own μ σ k)->(∀id e,lk σ1 id=some e->lk σ id=some e/\∀bk,blk (μ id)=some bk->some bk≠sv.ownBlock)->
   Goes P W0 ep o d σ n μ H a w (.arr (ep,dd)) (((ep,dd),.arr e sz es)::σ1):=by
  intro sv v' w' es nv σ1 hrun hown hrel hg hob hlim hall hR h1 next Q K
  have hmono:=setμ_mono (v:=v') (hf dd hd)
  have h1c:v'.oneCell'=true:=by obtain ⟨A,cap,rfl⟩:=owns_slice hown;rfl
  have hblk:∀bk,blk (some v')=some bk->v'.ownBlock=some bk:=by
   obtain ⟨A,cap,rfl⟩:=owns_slice hown
   intro bk hb
   cases A with
   | none=>simp [blk] at hb
   | some A=>simpa [blk,Value.ownBlock] using hb
  have hnew:=hp.new_ (n':=n) (σ1:=σ1) (Turned.of_grown hg) hR h1 (hf dd hd) (e:=.arr e sz es) (val:=v') hn (Nat.le_refl _) (fun bk hb=>by
   rcases hob with h|h
   ·exact .inl (by rw [<-h];exact (hblk bk hb).symm)
   ·rw [hblk bk hb] at h;cases h;exact .inr (Nat.le_refl _)) ⟨v',nv,setμ_self _ _ _,h1c,hown,hlim,hall,hrel.mono hmono (fun _ _ h=>h)⟩
  refine wp_value hrun (K _ _ _ _ _ ⟨.arr _ _ (setμ_self _ _ _) h1c,hnew.1,Nat.le_refl _,hnew.2,fun id hid hne hnone=>?_⟩)
  rw [setμ_ne _ _ (hne dd hd)]
  exact hnone
 generalize hes:ev (get env) s=vs at *
 split at he
 ·obtain ⟨hlim,rfl⟩:=he
  have e1:=hs'.nil_inv
  obtain ⟨v',w',nv,h1,h2,h3,h4,h5⟩:=run (.slice none 0 0) [] [] e1 (World.ownsRow_nil w _ e sz) CRel.nil_ (by simpa using hlim)
  simp only [List.length_nil,Nat.zero_add,List.nil_append] at h2 h3
  exact fin _ v' w' xs nv σ h1 h2 h3 h4 h5 hlim hsz (fun k hk=>by simp [Value.ownBlock] at hk) (fun id e h=>⟨h,fun bk _ hb=>by simp [Value.ownBlock] at hb⟩)
 ·rename_i id
  obtain ⟨es,hl,hlim,rfl⟩:=he
  obtain ⟨hm,_⟩:=hs'.arr_inv
  obtain ⟨vals,_,hown,_,hsz',hrel⟩:=ent_arr hp hl hm
  have hob:∀k,some k=(a.eval s').ownBlock->blk (μ id)=some k:=by
   intro k hk
   rw [hm]
   obtain ⟨A',cap',hv'⟩:=owns_slice hown
   rw [hv'] at hk⊢
   cases A' with
   | none=>simp [Value.ownBlock] at hk
   | some A'=>simpa [Value.ownBlock,blk] using hk.symm
  obtain ⟨v',w',nv,h1,h2,h3,h4,h5⟩:=run _ es vals rfl hown hrel hlim
  rw [<-List.length_append] at h2
  refine fin _ v' w' (es++xs) nv (del σ id) h1 h2 h3 h4 h5 (by simpa using hlim) (fun y hy=>(List.mem_append.1 hy).elim (hsz' y) (hsz y)) (fun k hk=>⟨id,_,hl,hob k hk⟩) (fun id' e' h=>?_)
  rw [lk_del] at h
  split at h
  ·cases h
  ·rename_i hne
   exact ⟨h,fun bk hb hb'=>hne (hp.sep _ _ _ _ bk hl h (hob bk hb') hb)⟩
 ·exact he.elim
theorem s_slT {t e0:TypeId} {x' hi':Operand} {x hi:X} {sz:Nat} (ho:o.op = .slice t x' none (some hi') none) (ht:sliceT P t=some e0) (hse:sizeT P e0=some sz) (hx:okX x' x=true) (hhi:okX hi' hi=true)
  (hn:ep<n) (hf:∀dd,d=some dd->μ (ep,dd)=none) {dd:Nat} (hd:d=some dd) {id:Id} {e:TypeId} {es:List V} {q:Nat} (ex:ev (get env) x = .arr id) (hl:lk σ id=some (.arr e sz es)) (hq1:bnd (get env) es.length (some hi)=some q) (hq:q<=es.length)
  (hv:v = .arr (ep,dd)):Goes P W0 ep o d σ n μ H a w v (((ep,dd),.arr e sz (es.take q))::del σ id):=by
 have hx':=okX_rel hr hx
 rw [ex] at hx'
 have hu:=sliceT_some ht
 subst hv
 obtain ⟨hm,h1c⟩:=hx'.arr_inv
 obtain ⟨vals,_,hown,hlim,hsz',hrel⟩:=ent_arr hp hl hm
 obtain ⟨A,cap,e1⟩:=owns_slice hown
 have hcap:es.length<=cap:=by
  rcases hown.2 with ⟨h1,h2⟩|⟨g,cap',cur,h1,_,_,h2,_⟩
  ·omega
  ·rw [h1] at e1;cases e1;exact h2
 have hlo:okXo none none=true:=rfl
 have hb:=fun w=>run_bounds (P:=P) hr hp hlo (show okXo (some hi') (some hi)=true from hhi) true hcap (show bnd (get env) 0 none=some 0 from rfl) hq1 (Nat.zero_le _) (Nat.le_trans hq hcap) w
 have hrun:∀w,(execOp a.eval o).run P w = .ok (.value (.slice (if cap=0 then A else A.map (·.add (0*sz))) (q-0) (cap-0))) w:=by
  intro w
  have hsl:(Instr.slice t (.slice A es.length cap) none (some (a.eval hi')) none).run P w = .ok (.slice (if cap=0 then A else A.map (·.add (0*sz))) (q-0) (cap-0)) w:=by
   have:=hb w
   simp only [Option.map_none,Option.map_some] at this
   simp only [Instr.slice,Sem.run_bind,run_underlying hu,Result.andThen_ok,Sem.run_pure,this,run_sizeOf hse]
  simp only [execOp,ho,Option.map_none,Option.map_some,Sem.run_bind,Instr.sliceAt,run_underlying hu,e1,Result.andThen_ok,hsl,Sem.run_pure]
 have hA:(if cap=0 then A else A.map (·.add (0*sz)))=A:=by
  split
  ·rfl
  ·rcases hown.2 with ⟨h1,h2⟩|⟨g,cap',cur,h1,_⟩
   ·rw [h1] at e1;injection e1 with h3 h4 h5;subst h3;rfl
   ·rw [h1] at e1;injection e1 with h3 h4 h5;subst h3;simp [add_lit0]
 rw [hA,Nat.sub_zero,Nat.sub_zero] at hrun
 have hmono:=setμ_mono (v:=.slice A q cap) (hf dd hd)
 have hob:∀k,blk (some (.slice A q cap))=some k->blk (μ id)=some k:=by
  intro k hk
  rw [hm,e1]
  cases A with
  | none=>simp [blk] at hk
  | some A=>simpa [blk] using hk
 have hfl:flat (es.take q)=(flat es).take (q*sz):=flat_take hsz' q
 have hown':w.ownsRow W0.heap.size e sz (.slice A q cap) (es.take q).length (vals.take (q*sz)):=by
  have hql:(es.take q).length=q:=by simp;omega
  have hvl:vals.length=es.length*sz:=hown.1
  rw [hql]
  refine ⟨by rw [List.length_take,hvl];exact Nat.min_eq_left (Nat.mul_le_mul_right _ hq),?_⟩
  rcases hown.2 with ⟨h1,h2⟩|⟨g,cap',cur,h1,hB,hg,h2,h3,h4,h5⟩
  ·rw [h1] at e1
   injection e1 with h3 h4 h5
   subst h3
   subst h5
   exact .inl ⟨by rw [show q=0 by omega],by omega⟩
  ·rw [h1] at e1
   cases e1
   exact .inr ⟨g,cap,cur,rfl,hB,hg,by omega,h3,h4,by rw [<-h5,List.take_take,Nat.min_eq_left (Nat.mul_le_mul_right _ hq)]⟩
 intro next Q K
 have hnew:=hp.new_ (n':=n) (σ1:=del σ id) (w':=w) (R:=fun k=>blk (μ id)=some k) ⟨rfl,rfl,rfl,Nat.le_refl _,fun _ _ _=>rfl⟩ (fun k hk=>⟨id,_,hl,hk⟩) (fun id' e' h=>by
   rw [lk_del] at h
   split at h
   ·cases h
   ·rename_i hne
    exact ⟨h,fun bk hb hb'=>hne (hp.sep _ _ _ _ bk hl h hb' hb)⟩) (hf dd hd) (e:=.arr e sz (es.take q)) (val:=.slice A q cap) hn (Nat.le_refl _) (fun bk hb=>.inl (hob bk hb))
  ⟨_,_,setμ_self _ _ _,rfl,hown',by simp;omega,fun y hy=>hsz' y (List.mem_of_mem_take hy),by rw [hfl];exact (hrel.take _).mono hmono (fun _ _ h=>h)⟩
 refine wp_value (hrun w) (K _ _ _ _ _ ⟨.arr _ _ (setμ_self _ _ _) rfl,hnew.1,Nat.le_refl _,hnew.2,fun id hid hne hnone=>?_⟩)
 rw [setμ_ne _ _ (hne dd hd)]
 exact hnone
end ops
end Go.Ir
end
section
namespace Go.Ir
open Go.RowKit
def isPut:WrK->Bool
 | .mput _=>true
 | _=>false
def kdOk:KeyK->TypeDesc->Prop
 | .str,d=>d = .string
 | .int,d=>∃k,d = .int k
 | .bool,d=>d = .bool
theorem keyT_inv {P:Program} {kk:KeyK} {t:TypeId} (h:keyT P kk t=true):∃d,P.underlying t=some d/\kdOk kk d:=by
 unfold keyT at h
 cases hu:P.underlying t with
 | none=>rw [hu] at h;cases kk<;>cases h
 | some d=>
  rw [hu] at h
  cases kk<;>cases d<;>first|(cases h;done)|exact ⟨_,rfl,rfl⟩|exact ⟨_,rfl,_,rfl⟩
theorem mapT_some {P:Program} {t k e:TypeId} (h:mapT P t=some (k,e)):P.underlying t=some (.map k e):=by
 unfold mapT at h
 split at h
 ·rename_i h1;cases h;exact h1
 ·cases h
theorem eqGuard_at_slice (op:BinOp) (t:TypeId) (x y:Operand) (a:Option Addr) (l c:Nat) (b:Option Addr) (m d:Nat):eqGuard op t x y (.slice a l c) (.slice b m d)=pure ():=by
 cases op<;>rfl
theorem flat_one:∀{cs:List V},(∀c∈cs,cells c=[c])->flat cs=cs
 | [],_=>rfl
 | c::cs,h=>by
  have:=flat_one (cs:=cs) fun x hx=>h x (List.mem_cons_of_mem _ hx)
  simp only [flat,List.flatMap_cons] at this⊢
  rw [h c (by simp),this]
  rfl
theorem beq_bytes (a b:List UInt8):((⟨a.toArray⟩:ByteArray) == ⟨b.toArray⟩)=(a == b):=by
 show (a.toArray == b.toArray)=_
 simp
section
variable {μ : Id → Option Value} {H : Addr → Option Value}
theorem same_key {kk:KeyK} {d:TypeDesc} (hd:kdOk kk d) {a b:V} {x y:Value} (hx:VRel μ H a x) (hy:VRel μ H b y) {t:Bool} (h:keyEq kk a b=some t) :
  Instr.sameNow d x y=some t:=by
 unfold keyEq at h
 split at h
 ·cases h
  have hd:d=_:=hd
  subst hd
  rw [hx.s_inv.1,hy.s_inv.1]
  simp only [Instr.sameNow]
  rw [beq_bytes]
 ·split at h
  ·rename_i hk
   cases h
   obtain ⟨k,rfl⟩:=(hd:∃k,d = .int k)
   subst hk
   rw [hx.i_inv,hy.i_inv]
   simp [Instr.sameNow]
  ·cases h
 ·cases h
  have hd:d=_:=hd
  subst hd
  rw [hx.b_inv,hy.b_inv]
  simp [Instr.sameNow]
 ·cases h
theorem find_rel {kk:KeyK} {d:TypeDesc} (hd:kdOk kk d) {a:V} {x:Value} (hx:VRel μ H a x) :
  ∀(es:List (V × V)) (ms:List MapEntry) (i:Nat) (r:Option (Nat × V)),es.length=ms.length->(∀(k:Nat) (c:V × V) (m:MapEntry),es[k]? = some c->ms[k]? = some m->VRel μ H c.1 m.key/\VRel μ H c.2 m.val)->findV kk a es i=some r->
   ∃r',Instr.findNow d x ms i=some r'/\((r=none/\r'=none)\/∃j v val,r=some (j,v)/\r'=some (j,val)/\VRel μ H v val/\i<=j/\(es[j-i]?).isSome=true)
 | [],[],i,r,_,_,h=>by
  simp only [findV] at h
  split at h
  ·cases h;exact ⟨none,rfl,.inl ⟨rfl,rfl⟩⟩
  ·cases h
 | e::es,m::ms,i,r,hl,hat,h=>by
  simp only [findV] at h
  have h0:=hat 0 e m rfl rfl
  split at h
  ·rename_i hk
   cases h
   exact ⟨some (i,m.val),by simp only [Instr.findNow,same_key hd hx h0.1 hk],.inr ⟨i,_,_,rfl,rfl,h0.2,Nat.le_refl _,by simp⟩⟩
  ·rename_i hk
   obtain ⟨r',h1,h2⟩:=find_rel hd hx es ms (i+1) r (by simpa using hl) (fun k c m hc hm=>hat (k+1) c m (by simpa using hc) (by simpa using hm)) h
   refine ⟨r',by simp only [Instr.findNow,same_key hd hx h0.1 hk,h1],?_⟩
   rcases h2 with h2|⟨j,v,val,e1,e2,e3,e4,e5⟩
   ·exact .inl h2
   ·refine .inr ⟨j,v,val,e1,e2,e3,by omega,?_⟩
    rw [show j-i=(j-(i+1))+1 by omega,List.getElem?_cons_succ]
    exact e5
  ·cases h
 | [],_::_,_,_,hl,_,_=>by simp at hl
 | _::_,[],_,_,hl,_,_=>by simp at hl
theorem isKey_find {kk:KeyK} {a:V}:∀{es:List (V × V)} {i:Nat} {r:Option (Nat × V)},findV kk a es i=some r->isKey kk a=true
 | [],i,r,h=>by
  simp only [findV] at h
  split at h
  ·assumption
  ·cases h
 | e::es,i,r,h=>by
  simp only [findV] at h
  have:∀t,keyEq kk a e.1=some t->isKey kk a=true:=by
   intro t ht
   unfold keyEq at ht
   split at ht<;>first|rfl|(cases ht)
  split at h
  ·rename_i hk;exact this _ hk
  ·rename_i hk;exact this _ hk
  ·cases h
theorem key_is {P:Program} {w:World} {kk:KeyK} {kt:TypeId} {d:TypeDesc} (hu:P.underlying kt=some d) (hd:kdOk kk d) {a:V} {x:Value} (hx:VRel μ H a x) (hk:isKey kk a=true) (e:Bool) (n:Nat) :
  (Instr.checkKey e (n+1) kt x).run P w = .ok () w:=by
 unfold isKey at hk
 split at hk<;>(try (cases hk;done))
 ·have hd:d=_:=hd
  subst hd
  rw [hx.s_inv.1]
  unfold Instr.checkKey
  simp [Sem.run_bind,run_underlying hu]
 ·obtain ⟨k,rfl⟩:=(hd:∃k,d = .int k)
  rw [hx.i_inv]
  unfold Instr.checkKey
  simp [Sem.run_bind,run_underlying hu]
 ·have hd:d=_:=hd
  subst hd
  rw [hx.b_inv]
  unfold Instr.checkKey
  simp [Sem.run_bind,run_underlying hu]
end
section ops
variable {P : Program} {W0 : World} {ep nt : Nat} {o : Oper} {d : Option Nat} {env : Env} {σ σ' : Sto} {n : Nat} {μ : Id → Option Value} {H : Addr → Option Value} {a : Act} {w : World} {v : V}
variable (hr : Rl μ H nt env a) (hp : Hp W0 σ n μ H w)
theorem Turned.setObj (w:World) (g:Nat) (o:Obj):Turned (fun k=>k=g) w { w with heap:=w.heap.setIfInBounds g o }:=
 ⟨rfl,rfl,rfl,by simp,fun k _ hk=>by simp only [Array.getElem?_setIfInBounds];rw [if_neg (fun h=>hk h.symm)]⟩
theorem run_getObj_it {r:Nat} {s:ByteArray} {pos:Nat} (hb:w.heap[r]? = some (.stringIter s pos)):(getObj r).run P w = .ok (.stringIter s pos) w:=by
 simp [getObj,Sem.run,hb]
theorem run_setObj_it {r:Nat} {s:ByteArray} {pos:Nat} (ob:Obj) (hb:w.heap[r]? = some (.stringIter s pos)):(setObj r ob).run P w = .ok () { w with heap:=w.heap.setIfInBounds r ob }:=by
 simp [setObj,Sem.run,hb]
theorem bytesV_ints:∀{es:List V} {l:List UInt8},bytesV es=some l->∃ns:List Int,es=ns.map (.i .u8)/\l=ns.map fun n=>UInt8.ofNat n.toNat
 | [],l,h=>by simp only [bytesV,Option.some.injEq] at h;subst h;exact ⟨[],rfl,rfl⟩
 | e::es,l,h=>by
  unfold bytesV at h
  split at h
  ·rename_i heq;cases heq
  ·rename_i nn r heq
   cases heq
   cases hb:bytesV es with
   | none=>rw [hb] at h;cases h
   | some l'=>
    rw [hb] at h
    simp only [Option.map_some,Option.some.injEq] at h
    obtain ⟨ns,rfl,rfl⟩:=bytesV_ints hb
    exact ⟨nn::ns,rfl,h.symm⟩
  ·cases h
include hr hp
omit hr hp in
theorem run_keyEq {kk:KeyK} {t:TypeId} (ht:keyT P kk t=true) {x y:V} {vx vy:Value} {r:Bool} (h:keyEq kk x y=some r) (hx:VRel μ H x vx) (hy:VRel μ H y vy) (e:Nat) (w:World):(Op.equalIn (e+1) t vx vy).run P w = .ok r w:=by
 obtain ⟨dd,hu,hk⟩:=keyT_inv ht
 unfold keyEq at h
 split at h
 ·cases h
  subst hk
  rw [hx.s_inv.1,hy.s_inv.1,run_equalIn_string w e t _ _ hu]
  congr 1
  simp [ByteArray.toList_eq]
 ·split at h
  ·rename_i hk'
   cases h
   obtain ⟨q,rfl⟩:=hk
   subst hk'
   rw [hx.i_inv,hy.i_inv]
   exact run_equalIn_int w e t _ q _ _ hu
  ·cases h
 ·cases h
  subst hk
  rw [hx.b_inv,hy.b_inv]
  exact run_equalIn_bool w e t _ _ hu
 ·cases h
omit hr hp in
theorem keyT_agg {kk:KeyK} {t:TypeId} (ht:keyT P kk t=true):aggT P t=some false:=by
 obtain ⟨dd,hu,hk⟩:=keyT_inv ht
 unfold aggT
 rw [hu]
 cases kk
 ·subst hk;rfl
 ·obtain ⟨q,rfl⟩:=hk;rfl
 ·subst hk;rfl
omit hr hp in
theorem run_eqs {a b:List V} {xs ys:List Value} (ha:CRel μ H a xs) (hb:CRel μ H b ys) (e:Nat) (w:World):∀(fs:List Field) (l:List (Nat × KeyK)) (r:Bool),okEqs P fs l=true->eqO a b l=some r->
  (Op.eqFields (e+1) xs.toArray ys.toArray fs).run P w = .ok r w
 | [],[],r,_,h=>by cases h;rfl
 | f::fs,(o,kk)::l,r,hok,h=>by
  simp only [okEqs,Bool.and_eq_true,beq_iff_eq,bne_iff_ne,ne_eq] at hok
  obtain ⟨⟨⟨⟨ho,hn⟩,hk⟩,hsz⟩,hr⟩:=hok
  simp only [eqO] at h
  split at h
  ·rename_i x y hx hy
   obtain ⟨vx,hpx,hrx⟩:=run_part (u:=.agg a) hsz (keyT_agg hk) w xs f.offset ha (v:=x) (by rw [ho];simpa [sub,cells] using hx)
   obtain ⟨vy,hpy,hry⟩:=run_part (u:=.agg b) hsz (keyT_agg hk) w ys f.offset hb (v:=y) (by rw [ho];simpa [sub,cells] using hy)
   simp only [Op.eqFields,ne_eq,hn,not_false_eq_true,if_true,Sem.run_bind,hpx,hpy,Result.andThen_ok]
   split at h
   ·rename_i hq
    rw [run_keyEq hk hq hrx hry]
    simpa using run_eqs ha hb e w fs l r hr h
   ·rename_i hq
    cases h
    rw [run_keyEq hk hq hrx hry]
    simp
   ·cases h
  ·cases h
 | [],_::_,_,hok,_=>by simp [okEqs] at hok
 | _::_,[],_,hok,_=>by simp [okEqs] at hok
omit hr hp in
theorem run_eq_nil {k:NilK} {t:TypeId} {c:Value} {x:V} {val:Value} {r:Bool} (ht:nilT P k t c=true) (h:nilV k x=some r) (hx:VRel μ H x val) :
  (∀w,(Op.equal t val c).run P w = .ok r w)/\(∀(op:BinOp) (x':Operand) (w:World),(eqGuard op t x' (.const c) val c).run P w = .ok () w)/\(binOp .eql t val c=do pure (.bool (<-Op.equal t val c)))/\(binOp .neq t val c=do pure (.bool (!(<-Op.equal t val c)))):=by
 have up:∀{x y:Value} {r:Bool} {w:World},(∀d,(Op.equalIn (d+1) t x y).run P w = .ok r w)->(Op.equal t x y).run P w = .ok r w:=fun h=>h 9999
 unfold nilT at ht
 split at ht
 ·rename_i e hu
  have pt:∀(p:Option Addr),val = .pointer p->r=p.isNone->(∀w,(Op.equal t val (.pointer none)).run P w = .ok r w)/\(∀(op:BinOp) (x':Operand) (w:World),(eqGuard op t x' (.const (.pointer none)) val (.pointer none)).run P w = .ok () w)/\(binOp .eql t val (.pointer none)=do pure (.bool (<-Op.equal t val (.pointer none))))/\(binOp .neq t val (.pointer none)=do pure (.bool (!(<-Op.equal t val (.pointer none))))):=fun p (e1:val = .pointer p) (hr:r=p.isNone)=>by
   subst e1;subst hr
   refine ⟨fun w=>up fun d=>by cases p<;>simp [Op.equalIn,run_underlying hu],fun op x' w=>by cases op<;>cases p<;>simp [eqGuard],rfl,rfl⟩
  cases x<;>simp only [nilV] at h<;>(try (cases h;done))<;>cases h
  ·obtain ⟨bk,_,e1⟩:=hx.ref_inv;exact pt _ e1 rfl
  ·obtain ⟨bk,_,_,_,e1⟩:=hx.aref_inv;exact pt _ e1 rfl
  ·obtain ⟨ad,_,e1,_⟩:=hx.ep_inv;exact pt _ e1 rfl
  ·cases hx;exact pt none rfl rfl
 ·rename_i a b e hu
  cases x<;>simp only [nilV] at h<;>(try (cases h;done))<;>cases h
  ·cases hx
   exact ⟨fun w=>up fun d=>by simp [Op.equalIn,run_underlying hu],fun op x' w=>by cases op<;>simp [eqGuard],rfl,rfl⟩
  ·cases hx
   exact ⟨fun w=>up fun d=>by simp [Op.equalIn,run_underlying hu],fun op x' w=>by cases op<;>simp [eqGuard],rfl,rfl⟩
 ·rename_i a hu
  cases x<;>simp only [nilV] at h<;>(try (cases h;done))<;>cases h
  cases hx
  exact ⟨fun w=>up fun d=>by simp [Op.equalIn,run_underlying hu],fun op x' w=>by cases op<;>simp [eqGuard],rfl,rfl⟩
 ·cases ht
omit hr hp in
theorem nilV_p {x:V} {val:Value} {r:Bool} (h:nilV .p x=some r) (hx:VRel μ H x val):∃p:Option Addr,val = .pointer p/\r=p.isNone:=by
 cases x<;>simp only [nilV] at h<;>(try (cases h;done))<;>cases h
 ·obtain ⟨bk,_,e1⟩:=hx.ref_inv;exact ⟨_,e1,rfl⟩
 ·obtain ⟨bk,_,_,_,e1⟩:=hx.aref_inv;exact ⟨_,e1,rfl⟩
 ·obtain ⟨ad,_,e1,_⟩:=hx.ep_inv;exact ⟨_,e1,rfl⟩
 ·cases hx;exact ⟨none,rfl,rfl⟩
omit hr hp in
theorem run_eqp {t e:TypeId} {m:Nat} (hu:P.underlying t=some (.pointer e)) (hm:sizeT P e=some (m+1)) {x y:V} {vx vy:Value} {r:Bool} (h:eqpV x y=some r) (hx:VRel μ H x vx) (hy:VRel μ H y vy) :
  ∃p q:Option Addr,vx = .pointer p/\vy = .pointer q/\∀w,(Op.equal t (.pointer p) (.pointer q)).run P w = .ok r w:=by
 have up:∀{x y:Value} {r:Bool} {w:World},(∀d,(Op.equalIn (d+1) t x y).run P w = .ok r w)->(Op.equal t x y).run P w = .ok r w:=fun h=>h 9999
 unfold eqpV at h
 split at h
 ·obtain ⟨q,rfl,rfl⟩:=nilV_p h hy
  cases hx
  exact ⟨none,q,rfl,rfl,fun w=>up fun d=>by cases q<;>simp [Op.equalIn,run_underlying hu]⟩
 ·obtain ⟨q,rfl,rfl⟩:=nilV_p h hx
  cases hy
  exact ⟨q,none,rfl,rfl,fun w=>up fun d=>by cases q<;>simp [Op.equalIn,run_underlying hu]⟩
 ·rename_i id o id' o'
  split at h
  ·rename_i hid
   subst hid
   cases h
   obtain ⟨bk,h1,e1⟩:=hx.ref_inv
   obtain ⟨bk',h2,e2⟩:=hy.ref_inv
   rw [h1] at h2
   cases h2
   refine ⟨_,_,e1,e2,fun w=>up fun d=>?_⟩
   simp only [Op.equalIn,Sem.run_bind,run_underlying hu,Result.andThen_ok,run_sizeOf hm,sameAddr]
   by_cases ho:o=o'
   ·subst ho;simp
   ·have:(o == o')=false:=by simp [ho]
    rw [this]
    simp [ho]
  ·cases h
 ·cases h
omit hr in
theorem box_cells {id:Id} {en:Ent} (hl:lk σ id=some en) (hb:isBx en=true) {bk:Nat} (hm:μ id=some (.pointer (some ⟨bk,0,none⟩))):∃vals t,w.heap[bk]? = some (.cells vals t (0,0)):=by
 have h:=hp.ents id en hl
 cases en with
 | box v=>obtain ⟨bk',vals,t,h1,_,h2,_⟩:=h;rw [hm] at h1;cases h1;exact ⟨_,_,h2⟩
 | tbox t v=>obtain ⟨bk',vals,h1,_,h2,_⟩:=h;rw [hm] at h1;cases h1;exact ⟨_,_,h2⟩
 | _=>cases hb
omit hr in
theorem run_eqr {t e:TypeId} {m:Nat} (hu:P.underlying t=some (.pointer e)) (hm:sizeT P e=some (m+1)) {x y:V} {vx vy:Value} {r:Bool} (h:eqrV σ x y=some r) (hx:VRel μ H x vx) (hy:VRel μ H y vy) :
  ∃p q:Option Addr,vx = .pointer p/\vy = .pointer q/\(Op.equal t (.pointer p) (.pointer q)).run P w = .ok r w:=by
 have up:∀{x y:Value} {r:Bool} {w:World},(∀d,(Op.equalIn (d+1) t x y).run P w = .ok r w)->(Op.equal t x y).run P w = .ok r w:=fun h=>h 9999
 unfold eqrV at h
 split at h
 ·obtain ⟨q,rfl,rfl⟩:=nilV_p h hy
  cases hx
  exact ⟨none,q,rfl,rfl,up fun d=>by cases q<;>simp [Op.equalIn,run_underlying hu]⟩
 ·obtain ⟨q,rfl,rfl⟩:=nilV_p h hx
  cases hy
  exact ⟨q,none,rfl,rfl,up fun d=>by cases q<;>simp [Op.equalIn,run_underlying hu]⟩
 ·rename_i id o id' o'
  obtain ⟨bk,h1,e1⟩:=hx.ref_inv
  obtain ⟨bk',h2,e2⟩:=hy.ref_inv
  split at h
  ·rename_i hid
   subst hid
   cases h
   rw [h1] at h2
   cases h2
   refine ⟨_,_,e1,e2,up fun d=>?_⟩
   simp only [Op.equalIn,Sem.run_bind,run_underlying hu,Result.andThen_ok,run_sizeOf hm,sameAddr]
   by_cases ho:o=o'
   ·subst ho;simp
   ·have:(o == o')=false:=by simp [ho]
    rw [this]
    simp [ho]
  ·rename_i hid
   obtain ⟨en,l1,h⟩:=Option.bind_eq_some_iff.1 h
   obtain ⟨en',l2,h⟩:=Option.bind_eq_some_iff.1 h
   split at h
   ·rename_i hbb
    cases h
    simp only [Bool.and_eq_true] at hbb
    have hb:bk≠bk':=by
     rintro rfl
     exact hid (hp.sep id en id' en' bk l1 l2 (by rw [h1];rfl) (by rw [h2];rfl))
    obtain ⟨v1,t1,c1⟩:=box_cells hp l1 hbb.1 h1
    obtain ⟨v2,t2,c2⟩:=box_cells hp l2 hbb.2 h2
    refine ⟨_,_,e1,e2,up fun d=>?_⟩
    simp only [Op.equalIn,Sem.run_bind,run_underlying hu,Result.andThen_ok,run_sizeOf hm]
    have hs:=run_sameAddr_other (P:=P) w (a:=⟨bk,o,none⟩) (b:=⟨bk',o',none⟩) (by simp [hb]) c1 c2
    simp [hs]
   ·cases h
 ·cases h
theorem s_eqr {ne:Bool} {x y:X} (hok:okPu P (.eqp ne) o.op [x,y]=true) (he:(eqrV σ (ev (get env) x) (ev (get env) y)).map (eqN ne)=some v):Goes P W0 ep o d σ n μ H a w v σ:=by
 simp only [okPu] at hok
 split at hok
 ·rename_i op' t x' y' ty ho
  simp only [Bool.and_eq_true,beq_iff_eq] at hok
  obtain ⟨⟨hop,ht⟩,h3⟩:=hok
  split at ht
  ·rename_i el hu
   split at ht
   ·rename_i m hm
    simp only [okXs,Bool.and_eq_true] at h3
    have hx:=okX_rel hr h3.1
    have hy:=okX_rel hr (x:=y') (y:=y) (by first|exact h3.2|exact h3.2.1)
    obtain ⟨r,hr0,rfl⟩:=Option.map_eq_some_iff.1 he
    obtain ⟨p,q,e1,e2,heq⟩:=run_eqr hp hu hm hr0 hx hy
    refine fun next Q K=>wp_value (val:=.bool (if ne then !r else r)) ?_ (K _ _ _ _ _ (Done.same hp (.b _)))
    subst hop
    have hg:∀(op:BinOp),(eqGuard op t x' y' (.pointer p) (.pointer q)).run P w = .ok () w:=fun op=>by cases op<;>cases p<;>cases q<;>simp [eqGuard]
    have b1:binOp .eql t (.pointer p) (.pointer q)=(do pure (.bool (<-Op.equal t (.pointer p) (.pointer q)))):=rfl
    have b2:binOp .neq t (.pointer p) (.pointer q)=(do pure (.bool (!(<-Op.equal t (.pointer p) (.pointer q))))):=rfl
    cases ne
    ·simp only [execOp,ho,e1,e2,Sem.run_bind,hg,Result.andThen_ok]
     simp [b1,heq]
    ·simp only [execOp,ho,e1,e2,Sem.run_bind,hg,Result.andThen_ok]
     simp [b2,heq]
   ·cases ht
  ·cases ht
 ·cases hok
theorem s_pu {k:PuK} {xs:List X} (hok:okPu P k o.op xs=true) (he:puF k (xs.map (ev (get env)))=some v):Goes P W0 ep o d σ n μ H a w v σ:=by
 cases k with
 | bit op=>
  simp only [okPu] at hok
  split at hok
  ·rename_i op' t x' y' ty ho
   simp only [Bool.and_eq_true,beq_iff_eq] at hok
   obtain ⟨rfl,h3⟩:=hok
   match xs,h3,he with
   | [x,y],h3,he=>
    simp only [okXs,Bool.and_eq_true] at h3
    have hx:=okX_rel hr h3.1
    have hy:=okX_rel hr (x:=y') (y:=y) (by first|exact h3.2|exact h3.2.1)
    simp only [List.map_cons,List.map_nil] at he
    generalize ev (get env) x=vx at *
    generalize ev (get env) y=vy at *
    unfold puF at he
    split at he<;>(try (rename_i h1 _;cases h1;done))<;>(try (cases he;done))<;>(try (rename_i h1;cases h1;done))
    rename_i op'' k p k' q h1 h2
    cases h1
    cases h2
    split at he
    ·rename_i hk
     subst hk
     have ex:=hx.i_inv
     have ey:=hy.i_inv
     unfold bitV at he
     split at he<;>(try (cases he;done))
     all_goals
      cases he
      exact Goes.same (fun w=>by simp [execOp,ho,ex,ey,eqGuard_at_int,binOp,Op.intBits]) hp (.i _ _)
    ·cases he
   | [],h3,_=>simp [okXs] at h3
   | [_],h3,_=>simp [okXs] at h3
   | _::_::_::_,h3,_=>simp [okXs] at h3
  ·cases hok
 | shf op=>
  simp only [okPu] at hok
  split at hok
  ·rename_i op' t x' y' ty ho
   simp only [Bool.and_eq_true,beq_iff_eq] at hok
   obtain ⟨rfl,h3⟩:=hok
   match xs,h3,he with
   | [x,y],h3,he=>
    simp only [okXs,Bool.and_eq_true] at h3
    have hx:=okX_rel hr h3.1
    have hy:=okX_rel hr (x:=y') (y:=y) (by first|exact h3.2|exact h3.2.1)
    simp only [List.map_cons,List.map_nil] at he
    generalize ev (get env) x=vx at *
    generalize ev (get env) y=vy at *
    unfold puF at he
    split at he<;>(try (rename_i h1 _;cases h1;done))<;>(try (cases he;done))<;>(try (rename_i h1;cases h1;done))
    rename_i op'' k p k' q h1 h2
    cases h1
    cases h2
    split at he
    ·rename_i hq
     have ex:=hx.i_inv
     have ey:=hy.i_inv
     have hq':¬q<0:=by omega
     unfold shfV at he
     split at he<;>(try (cases he;done))
     all_goals
      cases he
      exact Goes.same (fun w=>by simp [execOp,ho,ex,ey,eqGuard_at_int,binOp,Op.shift,hq']) hp (.i _ _)
    ·cases he
   | [],h3,_=>simp [okXs] at h3
   | [_],h3,_=>simp [okXs] at h3
   | _::_::_::_,h3,_=>simp [okXs] at h3
  ·cases hok
 | aget m sz ag=>
  simp only [okPu] at hok
  split at hok
  ·rename_i t x' i' ho
   simp only [Bool.and_eq_true] at hok
   obtain ⟨ht,h3⟩:=hok
   split at ht
   ·rename_i m' e hu
    simp only [Bool.and_eq_true,beq_iff_eq] at ht
    obtain ⟨⟨rfl,hsz⟩,hag⟩:=ht
    match xs,h3,he with
    | [x,y],h3,he=>
     simp only [okXs,Bool.and_eq_true] at h3
     have hx:=okX_rel hr h3.1
     have hy:=okX_rel hr (x:=i') (y:=y) (by first|exact h3.2|exact h3.2.1)
     simp only [List.map_cons,List.map_nil] at he
     generalize ev (get env) x=vx at *
     generalize ev (get env) y=vy at *
     unfold puF at he
     split at he<;>(try (rename_i h1 _;cases h1;done))<;>(try (cases he;done))<;>(try (rename_i h1;cases h1;done))
     rename_i m2 sz2 ag2 cs k i h1 h2
     cases h1
     cases h2
     split at he
     ·rename_i hi
      have ei:=hy.i_inv
      obtain ⟨vals,e1,hc⟩:=hx.isA_inv rfl
      obtain ⟨val,hrun,hrel⟩:=run_part hsz hag w vals _ hc he
      intro next Q K
      refine wp_value (w':=w) (val:=val) ?_ (K _ _ _ _ _ (Done.same hp hrel))
      simp [execOp,ho,e1,ei,Instr.index,asIntOf,run_underlying hu,hi,run_sizeOf hsz,hrun]
     ·cases he
    | [],h3,_=>simp [okXs] at h3
    | [_],h3,_=>simp [okXs] at h3
    | _::_::_::_,h3,_=>simp [okXs] at h3
   ·cases ht
  ·cases hok
 | eqs ne l=>
  simp only [okPu] at hok
  split at hok
  ·rename_i op' t x' y' ty ho
   simp only [Bool.and_eq_true,beq_iff_eq,Bool.not_eq_true'] at hok
   obtain ⟨⟨⟨⟨hop,ht⟩,hst⟩,hgd⟩,h3⟩:=hok
   split at ht
   ·rename_i fs hu
    match xs,h3,he with
    | [x,y],h3,he=>
     simp only [okXs,Bool.and_eq_true] at h3
     have hx:=okX_rel hr h3.1
     have hy:=okX_rel hr (x:=y') (y:=y) (by first|exact h3.2|exact h3.2.1)
     simp only [List.map_cons,List.map_nil] at he
     generalize ev (get env) x=vx at *
     generalize ev (get env) y=vy at *
     unfold puF at he
     split at he<;>(try (rename_i h1 _;cases h1;done))<;>(try (cases he;done))<;>(try (rename_i h1;cases h1;done))
     rename_i ne2 l2 ca cb h1 h2
     cases h1
     cases h2
     obtain ⟨r,hr0,rfl⟩:=Option.map_eq_some_iff.1 he
     obtain ⟨va,e1,hca⟩:=hx.isA_inv rfl
     obtain ⟨vb,e2,hcb⟩:=hy.isA_inv rfl
     have hf:P.fieldsOf t=fs:=by simp [Program.fieldsOf,hu]
     have heq:∀w,(Op.equalIn 10000 t (.agg va.toArray) (.agg vb.toArray)).run P w = .ok r w:=fun w=>by
      rw [run_equalIn_struct w 9999 t _ _ (by rw [hf];exact hu) hst,hf]
      exact run_eqs hca hcb 9998 w _ _ _ ht hr0
     subst hop
     refine Goes.same (val:=.bool (if ne then !r else r)) (fun w=>?_) hp (.b _)
     cases ne
     ·simp [execOp,ho,e1,e2,run_eqGuard_agg w _ t x' y' _ _ hgd,run_eql_struct,heq]
     ·simp [execOp,ho,e1,e2,run_eqGuard_agg w _ t x' y' _ _ hgd,run_neq_struct,heq]
    | [],h3,_=>simp [okXs] at h3
    | [_],h3,_=>simp [okXs] at h3
    | _::_::_::_,h3,_=>simp [okXs] at h3
   ·cases ht
  ·cases hok
 | nilq k ne=>
  simp only [okPu] at hok
  split at hok
  ·rename_i op' t x' c ty ho
   simp only [Bool.and_eq_true,beq_iff_eq] at hok
   obtain ⟨⟨hop,ht⟩,h3⟩:=hok
   match xs,h3,he with
   | [x],h3,he=>
    have hx:=okX_rel hr (x:=x') (y:=x) (by simpa [okXs] using h3)
    simp only [List.map_cons,List.map_nil,puF] at he
    obtain ⟨r,hr0,rfl⟩:=Option.map_eq_some_iff.1 he
    obtain ⟨h1,h2,h4,h5⟩:=run_eq_nil ht hr0 hx
    have ec:a.eval (.const c)=c:=rfl
    refine Goes.same (val:=.bool (if ne then !r else r)) (fun w=>?_) hp (.b _)
    subst hop
    cases ne
    ·simp only [execOp,ho,ec,Sem.run_bind,h2,Result.andThen_ok]
     simp [h4,h1]
    ·simp only [execOp,ho,ec,Sem.run_bind,h2,Result.andThen_ok]
     simp [h5,h1]
   | [],h3,_=>simp [okXs] at h3
   | _::_::_,h3,_=>simp [okXs] at h3
  ·cases hok
 | eqp ne=>
  simp only [okPu] at hok
  split at hok
  ·rename_i op' t x' y' ty ho
   simp only [Bool.and_eq_true,beq_iff_eq] at hok
   obtain ⟨⟨hop,ht⟩,h3⟩:=hok
   split at ht
   ·rename_i el hu
    split at ht
    ·rename_i m hm
     match xs,h3,he with
     | [x,y],h3,he=>
      simp only [okXs,Bool.and_eq_true] at h3
      have hx:=okX_rel hr h3.1
      have hy:=okX_rel hr (x:=y') (y:=y) (by first|exact h3.2|exact h3.2.1)
      simp only [List.map_cons,List.map_nil,puF] at he
      obtain ⟨r,hr0,rfl⟩:=Option.map_eq_some_iff.1 he
      obtain ⟨p,q,e1,e2,heq⟩:=run_eqp hu hm hr0 hx hy
      refine Goes.same (val:=.bool (if ne then !r else r)) (fun w=>?_) hp (.b _)
      subst hop
      have hg:∀(op:BinOp),(eqGuard op t x' y' (.pointer p) (.pointer q)).run P w = .ok () w:=fun op=>by cases op<;>cases p<;>cases q<;>simp [eqGuard]
      have b1:binOp .eql t (.pointer p) (.pointer q)=(do pure (.bool (<-Op.equal t (.pointer p) (.pointer q)))):=rfl
      have b2:binOp .neq t (.pointer p) (.pointer q)=(do pure (.bool (!(<-Op.equal t (.pointer p) (.pointer q))))):=rfl
      cases ne
      ·simp only [execOp,ho,e1,e2,Sem.run_bind,hg,Result.andThen_ok]
       simp [b1,heq]
      ·simp only [execOp,ho,e1,e2,Sem.run_bind,hg,Result.andThen_ok]
       simp [b2,heq]
     | [],h3,_=>simp [okXs] at h3
     | [_],h3,_=>simp [okXs] at h3
     | _::_::_::_,h3,_=>simp [okXs] at h3
    ·cases ht
   ·cases ht
  ·cases hok
 | stuck=>cases he
 | com=>
  simp only [okPu] at hok
  split at hok
  ·rename_i t x' ho
   match xs,hok,he with
   | [x],h3,he=>
    have hx:=okX_rel hr (x:=x') (y:=x) (by simpa [okXs] using h3)
    simp only [List.map_cons,List.map_nil] at he
    generalize ev (get env) x=vx at *
    unfold puF at he
    split at he<;>(try (rename_i h1 _;cases h1;done))<;>(try (cases he;done))<;>(try (rename_i h1;cases h1;done))
    rename_i k p h1
    cases h1
    have ex:=hx.i_inv
    simp only [bitV,Option.some.injEq] at he
    subst he
    exact Goes.same (fun w=>by simp [execOp,ho,ex,Op.unary,Op.intBits]) hp (.i _ _)
   | [],h3,_=>simp [okXs] at h3
   | _::_::_,h3,_=>simp [okXs] at h3
  ·cases hok
 | isnil ne=>
  simp only [okPu] at hok
  split at hok
  ·rename_i op' t x' ty ho
   simp only [Bool.and_eq_true,beq_iff_eq] at hok
   obtain ⟨⟨rfl,h2⟩,h3⟩:=hok
   match xs,h3,he with
   | [x],h3,he=>
    have hx:=okX_rel hr (x:=x') (y:=x) (by simpa [okXs] using h3)
    simp only [List.map_cons,List.map_nil] at he
    obtain ⟨e,ht⟩:=Option.isSome_iff_exists.1 h2
    have hu:=sliceT_some ht
    generalize ev (get env) x=vx at *
    have fin:∀(A:Option Addr) (l c:Nat),a.eval x' = .slice A l c->VRel μ H v (.bool (if ne then A.isSome else A.isNone))->Goes P W0 ep o d σ n μ H a w v σ:=by
     intro A l c e1 hv
     refine Goes.same (fun w=>?_) hp hv
     have hc:a.eval (.const (.slice none 0 0)) = .slice none 0 0:=rfl
     have heq:∀w,(Op.equal t (.slice A l c) (.slice none 0 0)).run P w = .ok A.isNone w:=fun w=>run_equal_slice_nil w t e A l c hu
     cases ne
     ·simp [execOp,ho,e1,hc,eqGuard_at_slice,binOp,heq]
     ·simp [execOp,ho,e1,hc,eqGuard_at_slice,binOp,heq]
    cases vx with
    | nil=>
     simp only [puF,Option.some.injEq] at he
     subst he
     refine fin none 0 0 hx.nil_inv ?_
     cases ne<;>exact .b _
    | sl es=>
     obtain ⟨A,cap,e1,hc,hl,hcase⟩:=hx.sl_inv
     cases es with
     | nil=>
      simp only [puF,Option.some.injEq] at he
      subst he
      exact fin _ _ _ e1 (.ub _)
     | cons y ys=>
      simp only [puF,Option.some.injEq] at he
      subst he
      rcases hcase with h0|⟨ad,sz,vals,rfl,_⟩
      ·cases h0
      ·refine fin _ _ _ e1 ?_
       cases ne<;>exact .b _
    | _=>simp [puF] at he
   | [],h3,_=>simp [okXs] at h3
   | _::_::_,h3,_=>simp [okXs] at h3
  ·cases hok
 | itos=>
  simp only [okPu] at hok
  split at hok
  ·rename_i src dst x' ho
   simp only [Bool.and_eq_true] at hok
   obtain ⟨⟨h1,h2⟩,h3⟩:=hok
   match xs,h3,he with
   | [x],h3,he=>
    have hx:=okX_rel hr (x:=x') (y:=x) (by simpa [okXs] using h3)
    simp only [List.map_cons,List.map_nil] at he
    generalize ev (get env) x=vx at *
    cases vx with
    | i k m=>
     simp only [puF,Option.some.injEq] at he
     subst he
     obtain ⟨k0,hk0⟩:=Option.isSome_iff_exists.1 h1
     have e1:=hx.i_inv
     refine Goes.same (val:=.string (Utf8.encode m)) (fun w=>?_) hp ?_
     ·simp [execOp,ho,e1,convert,run_underlying (intT_some hk0),run_underlying (isStrT_true h2),Conv.intToString]
     ·have hlen:(Utf8.encode m).data.toList.length<=SLim:=by
       have:(Utf8.encode m).data.toList.length<=4:=by
        unfold Utf8.encode
        dsimp only
        generalize (if Utf8.valid m=true then m.toNat else Utf8.runeError)=c
        split
        ·exact Nat.le_of_ble_eq_true rfl
        ·split
         ·exact Nat.le_of_ble_eq_true rfl
         ·split
          ·exact Nat.le_of_ble_eq_true rfl
          ·exact Nat.le_of_ble_eq_true rfl
       unfold SLim
       omega
      have:=VRel.s (μ:=μ) (H:=H) (Utf8.encode m).data.toList hlen
      simpa using this
    | _=>simp [puF] at he
   | [],h3,_=>simp [okXs] at h3
   | _::_::_,h3,_=>simp [okXs] at h3
  ·cases hok
 | btos=>
  simp only [okPu] at hok
  split at hok
  ·rename_i src dst x' ho
   simp only [Bool.and_eq_true,beq_iff_eq,Option.bind_eq_some_iff] at hok
   obtain ⟨⟨⟨e,h1,h1'⟩,h2⟩,h3⟩:=hok
   match xs,h3,he with
   | [x],h3,he=>
    have hx:=okX_rel hr (x:=x') (y:=x) (by simpa [okXs] using h3)
    simp only [List.map_cons,List.map_nil] at he
    generalize ev (get env) x=vx at *
    have fin:∀(A:Option Addr) (l c:Nat) (s:List UInt8),a.eval x' = .slice A l c->s.length<=SLim->v = .s s->(∀w',w'=w->(Conv.bytesToString (.slice A l c)).run P w' = .ok (.string ⟨s.toArray⟩) w')->Goes P W0 ep o d σ n μ H a w v σ:=by
     intro A l c s e1 hl hv hrun next Q K
     subst hv
     refine wp_value (w':=w) (val:=.string ⟨s.toArray⟩) ?_ (K _ _ _ _ _ (Done.same hp (.s _ hl)))
     simp only [execOp,ho,e1,Sem.run_bind,run_convert_bytes_string w src dst e A l c (sliceT_some h1) (intT_some h1') (isStrT_true h2),hrun w rfl,Result.andThen_ok,Sem.run_pure]
    cases vx with
    | nil=>
     simp only [puF,Option.some.injEq] at he
     refine fin none 0 0 [] hx.nil_inv (by simp) he.symm (fun w' _=>?_)
     simp [Conv.bytesToString]
     rfl
    | sl es=>
     simp only [puF,Option.map_eq_some_iff] at he
     obtain ⟨l,hb,rfl⟩:=he
     obtain ⟨ns,rfl,rfl⟩:=bytesV_ints hb
     obtain ⟨A,cap,e1,hc,hl,hcase⟩:=hx.sl_inv
     rw [List.length_map] at hl e1
     refine fin A _ cap _ e1 (by simp only [List.length_map,LLim,SLim] at *;omega) rfl (fun w' hw'=>?_)
     subst hw'
     rcases hcase with h0|⟨ad,sz,vals,rfl,hsz,hrel,hpin⟩
     ·have:ns=[]:=by simpa using h0
      subst this
      cases A<;>simp [Conv.bytesToString,loadCells,loadCellsFrom]<;>rfl
     ·have hfl:flat (ns.map (V.i .u8))=ns.map (V.i .u8):=by
       clear hrel hpin hsz hb e1 hc hl fin hx he
       induction ns with
       | nil=>rfl
       | cons m ns ih=>simpa [flat,cells] using ih
      rw [hfl] at hrel
      have hv:vals=ns.map (Value.int .u8):=by
       apply List.ext_getElem?
       intro k
       by_cases hk:k<ns.length
       ·have h1:(ns.map (V.i .u8))[k]? = some (.i .u8 ns[k]):=by simp [hk]
        obtain ⟨x,hx1,hx2⟩:=hrel.get h1
        rw [hx1,hx2.i_inv]
        simp [hk]
       ·have hl2:=hrel.len
        simp only [List.length_map] at hl2
        rw [List.getElem?_eq_none (by omega),List.getElem?_eq_none (by simp;omega)]
      have hload:(loadCells ad ns.length).run P w' = .ok (ns.map (Value.int .u8)).toArray w':=by
       have:=run_loadCells_list (P:=P) (w:=w') ad vals (fun k v hk=>hp.pins _ _ (hpin k v hk))
       rw [hv] at this
       simpa using this
      rw [run_bytesToString w' ad ns.length cap ns hload]
      have hfold:∀(ns:List Int) (s:ByteArray),ns.foldl (fun r n=>r.push (UInt8.ofNat n.toNat)) s=⟨s.data++(ns.map fun n=>UInt8.ofNat n.toNat).toArray⟩:=by
       intro ns
       induction ns with
       | nil=>intro s;simp
       | cons m ns ih=>
        intro s
        rw [List.foldl_cons,ih]
        simp [ByteArray.push]
      rw [hfold]
      simp
    | _=>simp [puF] at he
   | [],h3,_=>simp [okXs] at h3
   | _::_::_,h3,_=>simp [okXs] at h3
  ·cases hok
 | aidx n sz=>
  simp only [okPu] at hok
  split at hok
  ·rename_i t x' i' ho
   simp only [Bool.and_eq_true] at hok
   obtain ⟨h1,h3⟩:=hok
   split at h1
   ·rename_i n' e hu
    simp only [Bool.and_eq_true,beq_iff_eq] at h1
    obtain ⟨rfl,hsz⟩:=h1
    match xs,h3,he with
    | [x,i],h3,he=>
     simp only [okXs,Bool.and_eq_true,and_true] at h3
     have hx:=okX_rel hr (x:=x') (y:=x) h3.1
     have hi:=okX_rel hr (x:=i') (y:=i) h3.2
     simp only [List.map_cons,List.map_nil] at he
     generalize ev (get env) x=vx at *
     generalize ev (get env) i=vi at *
     cases vx with
     | ref id off=>
      cases vi with
      | i k m=>
       simp only [puF] at he
       split at he
       ·rename_i hm
        simp only [Option.some.injEq] at he
        subst he
        obtain ⟨bk,hb,ex⟩:=hx.ref_inv
        have ei:=hi.i_inv
        have hel:P.elem t=e:=by simp [Program.elem,hu]
        have hal:P.arrayLen t=n':=by simp [Program.arrayLen,hu]
        refine Goes.same (val:=.pointer (some ⟨bk,off+m.toNat*sz,none⟩)) (fun w=>?_) hp (.ref _ _ _ hb)
        simp only [execOp,ho,ex,ei,Sem.run_bind]
        rw [run_indexAt_array (h:=by rw [hel,hal];exact hu),hal,if_pos hm,hel,run_sizeOf hsz]
        simp [Addr.add_lit]
       ·cases he
      | _=>simp [puF] at he
     | _=>simp [puF] at he
    | [],h3,_=>simp [okXs] at h3
    | [_],h3,_=>simp [okXs] at h3
    | _::_::_::_,h3,_=>simp [okXs] at h3
   ·cases h1
  ·cases hok
theorem s_rdm {k:RdK} {m:X} {xs:List X} {id:Id} {e:Ent} (hok:okRd P k o.op m xs=true) (hm:ev (get env) m = .arr id) (hl:lk σ id=some e) (he:rdF k e (xs.map (ev (get env)))=some v):Goes P W0 ep o d σ n μ H a w v σ:=by
 have hent:=hp.ents _ _ hl
 cases k with
 | mget kk z ok=>
  simp only [okRd] at hok
  split at hok
  ·rename_i t m' k' ok' ho
   simp only [Bool.and_eq_true,beq_iff_eq] at hok
   obtain ⟨⟨⟨h1,rfl⟩,h3⟩,h4⟩:=hok
   split at h1
   ·rename_i kt et hmt
    simp only [Bool.and_eq_true] at h1
    obtain ⟨hkt,hz⟩:=h1
    match xs,h4,he with
    | [x],h4,he=>
     have hx:=okX_rel hr (x:=k') (y:=x) (by simpa [okXs] using h4)
     have hmr:=okX_rel hr h3
     rw [hm] at hmr
     simp only [List.map_cons,List.map_nil] at he
     cases e with
     | map es=>
      simp only [rdF,Option.map_eq_some_iff] at he
      obtain ⟨r,hf,rfl⟩:=he
      obtain ⟨bk,mes,clock,hmu,hB,hh,hrel⟩:=hent
      have e1:a.eval m' = .map (some bk):=by
       have:=(hmr.arr_inv).1
       rw [hmu] at this
       exact (Option.some.inj this).symm
      obtain ⟨dd,hu,hdd⟩:=keyT_inv hkt
      obtain ⟨i,zv,hi,hzv,hokz⟩:=zeroOk_some hz
      have hzr:=(okZ_rel (μ:=μ) (H:=H) hokz).1
      obtain ⟨r',hr',hcase⟩:=find_rel hdd hx es mes.toList 0 r hrel.len hrel.at_ hf
      have hck:=key_is (P:=P) (w:=w) hu hdd hx (isKey_find hf) mes.isEmpty 9999
      have hfk:=MapKept.run_findKey (P:=P) (w:=w) hu hr'
      have run:∀val,((match r' with|some (_,v)=>pure (v,true)|none=>do pure (<-zeroValue et,false):Sem (Value × Bool)) >>= fun p=>(pure (if ok' then .tuple #[p.1,.bool p.2] else p.1):Sem Value)).run P w = .ok val w->
        (execOp a.eval o).run P w = .ok (.value val) w:=by
       intro val hv
       simp only [execOp,ho,e1,Instr.lookup,Sem.run_bind,run_underlying (mapT_some hmt),Result.andThen_ok,MapKept.run_getObj_map hh,Sem.run_pure,hck,hfk]
       simp only [Sem.run_bind] at hv
       cases r' with
       | none=>
        simp only [Sem.run_bind,Sem.run_pure] at hv⊢
        cases hzz:(zeroValue et).run P w with
        | ok x y=>
         simp only [hzz,Result.andThen_ok] at hv⊢
         cases ok'<;>simp_all
        | halt h y=>simp only [hzz] at hv;cases hv
       | some p=>
        obtain ⟨j,v⟩:=p
        simp only [Sem.run_pure,Result.andThen_ok] at hv⊢
        cases ok'<;>simp_all
      have two:∀{u:V} {val:Value} (t:Bool),VRel μ H u val->VRel μ H (.tup [u,.b t]) (.tuple #[val,.bool t]):=by
       intro u val t h
       have hvs:VRels μ H [u,.b t] [val,.bool t]:=VRels.cons h (VRels.cons (.b t) VRels.nil_)
       exact .tup _ _ hvs.len hvs.at_
      rcases hcase with ⟨rfl,rfl⟩|⟨j,u,val,rfl,rfl,hval,_,_⟩
      ·have hzz:(zeroValue et).run P w = .ok zv w:=by simp [zeroValue,typeInfo,hi,hzv]
       intro next Q K
       cases ok' with
       | true=>exact wp_value (run (.tuple #[zv,.bool false]) (by simp [hzz])) (K _ _ _ _ _ (Done.same hp (two false hzr)))
       | false=>exact wp_value (run zv (by simp [hzz])) (K _ _ _ _ _ (Done.same hp hzr))
      ·intro next Q K
       cases ok' with
       | true=>exact wp_value (run (.tuple #[val,.bool true]) (by simp)) (K _ _ _ _ _ (Done.same hp (two true hval)))
       | false=>exact wp_value (run val (by simp)) (K _ _ _ _ _ (Done.same hp hval))
     | _=>simp [rdF] at he
    | [],h4,_=>simp [okXs] at h4
    | _::_::_,h4,_=>simp [okXs] at h4
   ·simp at h1
  ·cases hok
 | mlen=>
  simp only [okRd] at hok
  split at hok
  ·rename_i c ho
   split at hok
   ·rename_i hcal
    simp only [Bool.and_eq_true,beq_iff_eq,List.isEmpty_iff] at hok
    obtain ⟨⟨⟨h1,h2⟩,h3⟩,rfl⟩:=hok
    obtain ⟨x',hargs,hx⟩:=okXs_one h3
    have hargs:=arr_of_toList hargs
    have hmr:=okX_rel hr hx
    rw [hm] at hmr
    cases e with
    | map es=>
     simp only [List.map_nil,rdF,Option.some.injEq] at he
     subst he
     obtain ⟨bk,mes,clock,hmu,hB,hh,hrel⟩:=hent
     have e1:a.eval x' = .map (some bk):=by
      have:=(hmr.arr_inv).1
      rw [hmu] at this
      exact (Option.some.inj this).symm
     obtain ⟨T,hT⟩:=arr_one c.argTypes h2
     rw [hT] at h1
     obtain ⟨⟨kt,et⟩,hmt⟩:=Option.isSome_iff_exists.1 h1
     have hu:=mapT_some hmt
     obtain ⟨cs,hrun⟩:=run_builtin_call (P:=P) ho hcal a.eval w
     have hlen:es.length=mes.size:=by simpa using hrel.len
     intro next Q K
     refine wp_value (w':=w) (val:=.int .i64 es.length) ?_ (K _ _ _ _ _ (Done.same hp (.i _ _)))
     have hu':P.underlying T=some (.map kt et):=hu
     have hl:(Builtin.len_ #[T] o.type #[.map (some bk)]).run P w = .ok (goInt mes.size) w:=by
      simp [Builtin.len_,run_underlying hu',MapKept.run_getObj_map hh]
     rw [hrun,hargs,hT]
     simp only [builtin,List.map_toArray,List.map_cons,List.map_nil,e1,Sem.run_bind,hl,Result.andThen_ok,Sem.run_pure,goInt,hlen]
    | _=>simp [rdF] at he
   ·cases hok
  ·cases hok
theorem s_wrm {k:WrK} {m:X} {xs:List X} {id:Id} {e e':Ent} (hok:okWr P k o.op m xs=true) (hdst:o.dst=d) (hst:isPut k=true->d=none) (hm:ev (get env) m = .arr id) (hl:lk σ id=some e)
  (he:wrF k e (xs.map (ev (get env)))=some (e',v)):Goes P W0 ep o d σ n μ H a w v (upd σ id e'):=by
 have hent:=hp.ents _ _ hl
 cases k with
 | mput kk=>
  have main:∀(t:TypeId) (m' k' v':Operand),(execOp a.eval o=do Instr.mapUpdate t (a.eval m') (a.eval k') (a.eval v');pure .skip)->(match mapT P t with|some (kt,et)=>keyT P kk kt|none=>false)=true->okX m' m=true->okXs [k',v'] xs=true->Goes P W0 ep o d σ n μ H a w v (upd σ id e'):=by
   intro t m' k' v' hex h1 h2 h3
   split at h1
   ·rename_i kt et hmt
    obtain ⟨x,y,hxs,hkx,hvy⟩:∃x y,xs=[x,y]/\okX k' x=true/\okX v' y=true:=by
     match xs,h3 with
     | [x,y],h3=>simp only [okXs,Bool.and_eq_true] at h3;exact ⟨x,y,rfl,h3.1,h3.2.1⟩
     | [],h3=>simp [okXs] at h3
     | [_],h3=>simp [okXs] at h3
     | _::_::_::_,h3=>simp [okXs] at h3
    subst hxs
    have hx:=okX_rel hr hkx
    have hy:=okX_rel hr hvy
    have hmr:=okX_rel hr h2
    rw [hm] at hmr
    simp only [List.map_cons,List.map_nil] at he
    cases e with
    | map es=>
     simp only [wrF,Option.map_eq_some_iff] at he
     obtain ⟨r,hf,hres⟩:=he
     obtain ⟨bk,mes,clock,hmu,hB,hh,hrel⟩:=hent
     have e1:a.eval m' = .map (some bk):=by
      have:=(hmr.arr_inv).1
      rw [hmu] at this
      exact (Option.some.inj this).symm
     obtain ⟨dd,hu,hdd⟩:=keyT_inv h1
     obtain ⟨r',hr',hcase⟩:=find_rel hdd hx es mes.toList 0 r hrel.len hrel.at_ hf
     have hck:=key_is (P:=P) (w:=w) hu hdd hx (isKey_find hf) false 9999
     have hfk:=MapKept.run_findKey (P:=P) (w:=w) hu hr'
     have hund:VRel μ H (.tup []) undef:=.tup [] [] rfl (fun k c v hk=>by simp at hk)
     have fin:∀(ob:Obj) (mes':Array MapEntry) (clock':Nat) (es':List (V × V)),ob = .map mes' clock'->MRel μ H es' mes'.toList clock'->e' = .map es'->v = .tup []->(Instr.mapUpdate t (a.eval m') (a.eval k') (a.eval v')).run P w = .ok () { w with heap:=w.heap.setIfInBounds bk ob }->Goes P W0 ep o d σ n μ H a w v (upd σ id e'):=by
      intro ob mes' clock' es' hob hrel' he' hv hrun next Q K
      subst he'
      subst hv
      have hset:=hp.set_ (e:=.map es') hl ((Turned.setObj w bk ob).to (fun k hk=>by subst hk;simp [hmu,blk])) ⟨bk,mes',clock',hmu,hB,by
       have:bk<w.heap.size:=(Array.getElem?_eq_some_iff.1 hh).1
       simp [this,hob],hrel'⟩
      refine wp_none ?_ (K _ _ _ _ _ ⟨hund,hset.1,Nat.le_refl _,hset.2,fun _ _ _ h=>h⟩)
      rw [hex]
      simp only [Sem.run_bind,hrun,Result.andThen_ok,Sem.run_pure]
     rcases hcase with ⟨rfl,rfl⟩|⟨j,u,val,rfl,rfl,hval,_,hj⟩
     ·simp only [Prod.mk.injEq] at hres
      refine fin (.map (mes.push { key:=a.eval k',val:=a.eval v',born:=clock }) (clock+1)) _ _ (es++[(ev (get env) x,ev (get env) y)]) rfl ⟨by simp [hrel.len],fun k c mm hc hmm=>?_,?_,?_⟩ hres.1.symm hres.2.symm ?_
      ·simp only [Array.toList_push] at hmm
       have hlen:=hrel.len
       by_cases hk:k<es.length
       ·rw [List.getElem?_append_left hk] at hc
        rw [List.getElem?_append_left (by rw [<-hlen];exact hk)] at hmm
        exact hrel.at_ k c mm hc hmm
       ·rw [List.getElem?_append_right (by omega)] at hc
        rw [List.getElem?_append_right (by omega),<-hlen] at hmm
        cases hk0:k-es.length with
        | zero=>
         rw [hk0] at hc hmm
         simp at hc hmm
         subst hc;subst hmm
         exact ⟨hx,hy⟩
        | succ q=>rw [hk0] at hc;simp at hc
      ·intro k mm hmm
       simp only [Array.toList_push] at hmm
       by_cases hk:k<mes.toList.length
       ·rw [List.getElem?_append_left hk] at hmm
        exact hrel.born k mm hmm
       ·rw [List.getElem?_append_right (by omega)] at hmm
        cases hk0:k-mes.toList.length with
        | zero=>
         rw [hk0] at hmm
         simp only [List.getElem?_cons_zero,Option.some.injEq] at hmm
         subst hmm
         have:=hrel.now
         simp only
         omega
        | succ q=>rw [hk0] at hmm;simp at hmm
      ·have:=hrel.now
       simp only [Array.toList_push,List.length_append,List.length_cons,List.length_nil]
       omega
      ·simp only [Instr.mapUpdate,Sem.run_bind,run_underlying (mapT_some hmt),Result.andThen_ok,e1,MapKept.run_getObj_map hh,hck,hfk,MapKept.run_setObj_map _ hh]
     ·simp only [Prod.mk.injEq] at hres
      simp only [Nat.sub_zero] at hj
      obtain ⟨c0,hc0⟩:=Option.isSome_iff_exists.1 hj
      have hjm:j<mes.toList.length:=by rw [<-hrel.len];exact (List.getElem?_eq_some_iff.1 hc0).1
      have hm0:mes.toList[j]? = some mes.toList[j]:=List.getElem?_eq_getElem hjm
      have hsize:mes[j]? = some mes.toList[j]:=by rw [<-Array.getElem?_toList];exact hm0
      have hkey:mes.toList[j].key=a.eval k':=by
       have hfound:∀(es:List (V × V)) (i j:Nat) (u:V),findV kk (ev (get env) x) es i=some (some (j,u))->∃c,es[j-i]? = some c/\i<=j/\keyEq kk (ev (get env) x) c.1=some true:=by
        intro es
        induction es with
        | nil=>intro i j u h;simp only [findV] at h;split at h<;>cases h
        | cons e es ih=>
         intro i j u h
         simp only [findV] at h
         split at h
         ·rename_i hk;cases h;exact ⟨e,by simp,Nat.le_refl _,hk⟩
         ·obtain ⟨c,h1,h2,h3⟩:=ih _ _ _ h
          exact ⟨c,by rw [show j-i=(j-(i+1))+1 by omega,List.getElem?_cons_succ];exact h1,by omega,h3⟩
         ·cases h
       obtain ⟨c,h1,_,h3⟩:=hfound es 0 j u hf
       simp only [Nat.sub_zero] at h1
       have hr0:=(hrel.at_ j c _ h1 hm0).1
       unfold keyEq at h3
       split at h3
       ·rename_i p q e0 e1'
        rw [e0] at hx
        rw [e1'] at hr0
        rw [hx.s_inv.1,hr0.s_inv.1]
        simp only [Option.some.injEq,beq_iff_eq] at h3
        rw [h3]
       ·rename_i k1 p k2 q e0 e1'
        rw [e0] at hx
        rw [e1'] at hr0
        split at h3
        ·rename_i hk;subst hk
         rw [hx.i_inv,hr0.i_inv]
         simp only [Option.some.injEq,beq_iff_eq] at h3
         rw [h3]
        ·cases h3
       ·rename_i p q e0 e1'
        rw [e0] at hx
        rw [e1'] at hr0
        rw [hx.b_inv,hr0.b_inv]
        simp only [Option.some.injEq,beq_iff_eq] at h3
        rw [h3]
       ·cases h3
      have hsame:∀kv:Value,(kv=a.eval k')->(∃s,kv = .string s)\/(∃k i,kv = .int k i)\/(∃t,kv = .bool t)->Instr.sameBits 10000 kv kv=true:=by
       rintro kv _ (⟨s,rfl⟩|⟨k,i,rfl⟩|⟨t,rfl⟩)
       ·show (s.data == s.data)=true
        simp
       ·simp [Instr.sameBits]
       ·simp [Instr.sameBits]
      have hkind:(∃s,a.eval k' = .string s)\/(∃k i,a.eval k' = .int k i)\/(∃t,a.eval k' = .bool t):=by
       have:=isKey_find hf
       unfold isKey at this
       split at this
       ·rename_i e0;rw [e0] at hx;exact .inl ⟨_,hx.s_inv.1⟩
       ·rename_i e0;rw [e0] at hx;exact .inr (.inl ⟨_,_,hx.i_inv⟩)
       ·rename_i e0;rw [e0] at hx;exact .inr (.inr ⟨_,hx.b_inv⟩)
       ·cases this
      have hstay:(Instr.keyThatStays (a.eval k') (a.eval k')).run P w = .ok (a.eval k') w:=by
       simp [Instr.keyThatStays,hsame _ rfl hkind]
      refine fin (.map (mes.modify j fun e=>{ e with key:=a.eval k',val:=a.eval v' }) clock) _ _ (es.modify j fun e=>(e.1,ev (get env) y)) rfl ⟨by simp [hrel.len],fun k c mm hc hmm=>?_,?_,?_⟩ hres.1.symm hres.2.symm ?_
      ·simp only [Array.toList_modify] at hmm
       rw [List.getElem?_modify] at hc hmm
       by_cases hk:j=k
       ·subst hk
        simp only [if_true] at hc hmm
        rw [hc0] at hc
        rw [hm0] at hmm
        simp only [Option.map_eq_map,Option.map_some,Option.some.injEq] at hc hmm
        subst hc;subst hmm
        refine ⟨?_,hy⟩
        have:=(hrel.at_ j c0 _ hc0 hm0).1
        rw [hkey] at this
        exact this
       ·simp only [if_neg hk] at hc hmm
        simp only [Option.map_eq_map,Option.map_id',id_eq] at hc hmm
        exact hrel.at_ k c mm hc hmm
      ·intro k mm hmm
       rw [Array.toList_modify,List.getElem?_modify] at hmm
       cases hmk:mes.toList[k]? with
       | none=>rw [hmk] at hmm;simp at hmm
       | some m1=>
        rw [hmk] at hmm
        have h1:=hrel.born k m1 hmk
        by_cases hjk:j=k
        ·simp only [hjk,if_true,Option.map_eq_map,Option.map_some,Option.some.injEq] at hmm;subst hmm;exact h1
        ·simp only [if_neg hjk,Option.map_eq_map,Option.map_some,Option.some.injEq] at hmm;subst hmm;exact h1
      ·rw [Array.toList_modify,List.length_modify];exact hrel.now
      ·simp only [Instr.mapUpdate,Sem.run_bind,run_underlying (mapT_some hmt),Result.andThen_ok,e1,MapKept.run_getObj_map hh,hck,hfk,hsize,Option.map_some,Option.getD_some,hkey,hstay,MapKept.run_setObj_map _ hh]
    | _=>simp [wrF] at he
   ·cases h1
  simp only [okWr] at hok
  split at hok
  ·rename_i t m' k' v' ho
   simp only [Bool.and_eq_true] at hok
   exact main t m' k' v' (by simp only [execOp,ho]) hok.1.1 hok.1.2 hok.2
  ·rename_i t m' k' v' ho
   simp only [Bool.and_eq_true] at hok
   exact main t m' k' v' (by simp only [execOp,ho]) hok.1.1 hok.1.2 hok.2
  ·cases hok
 | next=>
  simp only [okWr] at hok
  split at hok
  ·rename_i m' ho
   simp only [Bool.and_eq_true,List.isEmpty_iff] at hok
   obtain ⟨h2,rfl⟩:=hok
   have hmr:=okX_rel hr h2
   rw [hm] at hmr
   cases e with
   | it l pos=>
    simp only [List.map_nil,wrF] at he
    obtain ⟨bk,hmu,hB,hh⟩:=hent
    have e1:a.eval m' = .pointer (some ⟨bk,0,none⟩):=by
     have:=(hmr.arr_inv).1
     rw [hmu] at this
     exact (Option.some.inj this).symm
    have hsz:(⟨l.toArray⟩:ByteArray).size=l.length:=by simp [ByteArray.size]
    intro next Q K
    split at he
    ·rename_i hlt
     simp only [Option.some.injEq,Prod.mk.injEq] at he
     obtain ⟨rfl,rfl⟩:=he
     obtain ⟨c,hdec⟩:∃c,Utf8.decode ⟨l.toArray⟩ pos=c:=⟨_,rfl⟩
     rw [hdec] at K
     have hset:=hp.set_ (e:=.it l (pos+c.2)) hl ((Turned.setObj w bk (.stringIter ⟨l.toArray⟩ (pos+c.2))).to (fun k hk=>by subst hk;simp [hmu,blk])) ⟨bk,hmu,hB,by
      have:bk<w.heap.size:=(Array.getElem?_eq_some_iff.1 hh).1
      simp [this]⟩
     refine wp_value (w':={ w with heap:=w.heap.setIfInBounds bk (.stringIter ⟨l.toArray⟩ (pos+c.2)) }) (val:=.tuple #[.bool true,goInt pos,.int .i32 c.1]) ?_ (K _ _ _ _ _ ⟨?_,hset.1,Nat.le_refl _,hset.2,fun _ _ _ h=>h⟩)
     ·obtain ⟨c1,c2⟩:=c
      simp only [execOp,ho,e1,Instr.next,Sem.run_bind,run_getObj_it hh,Result.andThen_ok,hsz,hlt,if_true,hdec,run_setObj_it _ hh,Sem.run_pure]
     ·have hvs:VRels μ H [.b true,.i .i64 pos,.i .i32 c.1] [.bool true,.int .i64 pos,.int .i32 c.1]:=VRels.cons (.b _) (VRels.cons (.i _ _) (VRels.cons (.i _ _) VRels.nil_))
      exact .tup _ _ hvs.len hvs.at_
    ·rename_i hlt
     simp only [Option.some.injEq,Prod.mk.injEq] at he
     obtain ⟨rfl,rfl⟩:=he
     have hset:=hp.set_ (e:=.it l pos) (w':=w) hl ⟨rfl,rfl,rfl,Nat.le_refl _,fun _ _ _=>rfl⟩ ⟨bk,hmu,hB,hh⟩
     refine wp_value (w':=w) (val:=.tuple #[.bool false]) ?_ (K _ _ _ _ _ ⟨?_,hset.1,Nat.le_refl _,hset.2,fun _ _ _ h=>h⟩)
     ·simp only [execOp,ho,e1,Instr.next,Sem.run_bind,run_getObj_it hh,Result.andThen_ok,hsz,hlt,if_false,Sem.run_pure]
     ·have hvs:VRels μ H [.b false] [.bool false]:=VRels.cons (.b _) VRels.nil_
      exact .tup _ _ hvs.len hvs.at_
   | _=>simp [wrF] at he
  ·cases hok
theorem s_mkm {k:MkK} {xs:List X} {e:Ent} (hok:okMk P k o.op xs=true) (hn:ep<n) (hf:∀dd,d=some dd->μ (ep,dd)=none) {dd:Nat} (hd:d=some dd) (he:mkF k (xs.map (ev (get env)))=some e) (hv:v=mkV k (ep,dd)):Goes P W0 ep o d σ n μ H a w v (((ep,dd),e)::σ):=by
 subst hv
 cases k with
 | mkmap=>
  simp only [okMk] at hok
  split at hok
  ·rename_i t ho
   simp only [List.isEmpty_iff] at hok
   subst hok
   simp only [List.map_nil,mkF,Option.some.injEq] at he
   subst he
   refine Goes.made hp hd hn hf (obj:=.map #[] 0) (val:=.map (some w.heap.size)) ?_ (fun bk h=>by simpa [blk] using h.symm)
    ⟨w.heap.size,#[],0,setμ_self _ _ _,hp.base.size,heap_alloc_new w _,⟨rfl,fun k c m h=>by simp at h,fun k m h=>by simp at h,rfl⟩⟩ (.arr _ _ (setμ_self _ _ _) rfl)
   simp [execOp,ho,Instr.makeMap]
  ·cases hok
 | strit=>
  simp only [okMk] at hok
  split at hok
  ·rename_i t x' ho
   simp only [Bool.and_eq_true] at hok
   obtain ⟨h1,h3⟩:=hok
   match xs,h3,he with
   | [x],h3,he=>
    have hx:=okX_rel hr (x:=x') (y:=x) (by simpa [okXs] using h3)
    simp only [List.map_cons,List.map_nil] at he
    generalize ev (get env) x=vx at *
    cases vx with
    | s l=>
     simp only [mkF,Option.some.injEq] at he
     subst he
     have e1:=hx.s_inv.1
     refine Goes.made hp hd hn hf (obj:=.stringIter ⟨l.toArray⟩ 0) (val:=.pointer (some ⟨w.heap.size,0,none⟩)) ?_ (fun bk h=>by simpa [blk] using h.symm)
      ⟨w.heap.size,setμ_self _ _ _,hp.base.size,heap_alloc_new w _⟩ (.arr _ _ (setμ_self _ _ _) rfl)
     simp [execOp,ho,e1,Instr.range,run_underlying (isStrT_true h1)]
    | _=>simp [mkF] at he
   | [],h3,_=>simp [okXs] at h3
   | _::_::_,h3,_=>simp [okXs] at h3
  ·cases hok
 | tnew t z=>
  simp only [okMk] at hok
  split at hok
  ·rename_i t' ho
   simp only [Bool.and_eq_true,beq_iff_eq,List.isEmpty_iff] at hok
   obtain ⟨⟨rfl,hz⟩,rfl⟩:=hok
   simp only [List.map_nil,mkF,Option.some.injEq] at he
   subst he
   obtain ⟨i,zv,hi,hzv,hok⟩:=zeroOk_some hz
   refine Goes.made hp hd hn hf (obj:=.cells zv.cells t') (val:=.pointer (some ⟨w.heap.size,0,none⟩)) ?_ (fun bk h=>by simpa [blk] using h.symm)
    (made_tbox hp.base.size (setμ_self _ _ _) (okZ_rel hok).2) (.ref _ 0 _ (setμ_self _ _ _))
   simp [execOp,ho,Instr.alloc,zeroValue,typeInfo,hi,hzv,newVar,newRow]
  ·cases hok
 | tbx t=>
  simp only [okMk] at hok
  split at hok
  ·rename_i t' x' ho
   simp only [Bool.and_eq_true,beq_iff_eq] at hok
   obtain ⟨rfl,h3⟩:=hok
   match xs,h3,he with
   | [x],h3,he=>
    have hx:=okX_rel hr (x:=x') (y:=x) (by simpa [okXs] using h3)
    simp only [List.map_cons,List.map_nil,mkF] at he
    split at he
    ·rename_i hxo
     cases he
     have hmono:=setμ_mono (v:=.pointer (some ⟨w.heap.size,0,none⟩)) (hf dd hd)
     refine Goes.made hp hd hn hf (obj:=.cells (a.eval x').cells t') (val:=.pointer (some ⟨w.heap.size,0,none⟩)) ?_ (fun bk h=>by simpa [blk] using h.symm)
      (made_tbox hp.base.size (setμ_self _ _ _) ((hx.toCells hxo).1.mono hmono (fun _ _ h=>h))) (.ref _ 0 _ (setμ_self _ _ _))
     simp [execOp,ho,Instr.box,newVar,newRow]
    ·cases he
   | [],h3,_=>simp [okXs] at h3
   | _::_::_,h3,_=>simp [okXs] at h3
  ·cases hok
omit hr in
theorem Hp.freeze_ {id:Id} {u:V} {bk:Nat} (hl:lk σ id=some (.box u)) (hm:μ id=some (.pointer (some ⟨bk,0,none⟩))) :
  Hp W0 (del σ id) n μ (pinned H w bk) w/\Fr μ H σ w μ (pinned H w bk) (del σ id) w:=by
 have hown:Own μ σ bk:=⟨id,_,hl,by simp [hm,blk]⟩
 have hmono:∀ad v,H ad=some v->pinned H w bk ad=some v:=by
  intro ad v h
  unfold pinned
  split
  ·rename_i hb;rw [hp.unp bk hown ad hb] at h;cases h
  ·exact h
 have sub:∀id' e,lk (del σ id) id'=some e->id'≠id/\lk σ id'=some e:=by
  intro id' e h
  rw [lk_del] at h
  split at h
  ·cases h
  ·rename_i hne;exact ⟨fun h=>hne h.symm,h⟩
 have own':∀b,Own μ (del σ id) b->Own μ σ b/\b≠bk:=by
  rintro b ⟨id',e,h,hb⟩
  obtain ⟨hne,h'⟩:=sub _ _ h
  refine ⟨⟨id',e,h',hb⟩,?_⟩
  rintro rfl
  exact hne (hp.sep _ _ _ _ b h' hl hb (by simp [hm,blk]))
 refine ⟨⟨hp.base,?_,fun id' e h=>(hp.ents _ _ (sub _ _ h).2).keep (fun _ _ h=>h) hmono (fun _ _=>rfl),?_,fun i1 e1 i2 e2 b l1 l2=>hp.sep _ _ _ _ b (sub _ _ l1).2 (sub _ _ l2).2,hp.bd⟩,
  ⟨fun _ _ h=>h,hmono,Nat.le_refl _,fun _ _ _=>rfl,?_,fun b _ ho=>(own' b ho).1⟩⟩
 ·intro ad v h
  unfold pinned at h
  split at h
  ·exact h
  ·exact hp.pins ad v h
 ·intro b ho ad hb
  obtain ⟨ho',hne⟩:=own' b ho
  unfold pinned
  rw [if_neg (by rw [hb];exact hne)]
  exact hp.unp b ho' ad hb
 ·intro ad hb ho
  unfold pinned
  rw [if_neg]
  intro h
  exact ho (by rw [h];exact hown)
theorem s_frz {t:TypeId} {x':Operand} {m:X} {k:Nat} (ho:o.op = .slice t x' none none none) (ht:(match P.underlying t with|some (.array q e)=>q == k&&sizeT P e == some 1&&decide (k<=1024)|_=>false)=true) (hx:okX x' m=true)
  {id:Id} {cs:List V} (hm:ev (get env) m = .ref id 0) (hl:lk σ id=some (.box (.agg cs))) (hlen:cs.length=k) (hone:∀c∈cs,cells c=[c]) (hv:v = .sl cs):Goes P W0 ep o d σ n μ H a w v (del σ id):=by
 split at ht
 ·rename_i q e hu
  simp only [Bool.and_eq_true,beq_iff_eq,decide_eq_true_eq] at ht
  obtain ⟨⟨rfl,hsz⟩,hk⟩:=ht
  have hx':=okX_rel hr hx
  rw [hm] at hx'
  obtain ⟨bk,hmu,e1⟩:=hx'.ref_inv
  obtain ⟨bk',vals,t',hm',_,hh,hc⟩:=hp.ents _ _ hl
  rw [hmu] at hm'
  cases hm'
  obtain ⟨hp2,hf2⟩:=Hp.freeze_ hp hl hmu
  subst hv
  have hc:CRel μ H cs vals.toList:=hc
  have hflat:flat cs=cs:=flat_one hone
  intro next Q K
  refine wp_value (w':=w) (val:=.slice (some ⟨bk,0,none⟩) q q) ?_ (K _ n μ (pinned H w bk) w ⟨?_,hp2,Nat.le_refl _,hf2,fun _ _ _ h=>h⟩)
  ·simp [execOp,ho,e1,Instr.sliceAt,run_underlying hu,Instr.sureAddr,Instr.sliceBounds,run_sizeOf hsz,Addr.add]
  ·have hc2:CRel μ (pinned H w bk) cs vals.toList:=hc.mono (fun _ _ h=>h) hf2.hp
   have hl1:cs.length=vals.toList.length:=hc.len
   have:=VRel.slC (μ:=μ) (H:=pinned H w bk) cs ⟨bk,0,none⟩ q 1 vals.toList (by omega) (by unfold LLim;omega) (fun c hc=>by rw [hone c hc];rfl) (by rw [hflat];exact hl1) hc2.one (fun j x hj=>by
    unfold pinned
    rw [add_lit0,if_pos rfl,cell_of_row w bk j vals t' (0,0) hh]
    simpa using hj) (by rw [hflat];exact hc2.at_)
   rw [hlen] at this
   exact this
 ·cases ht
theorem s_mrange {t:TypeId} {x':Operand} {m:X} (ho:o.op = .range t x') (ht:(mapT P t).isSome=true) (hx:okX x' m=true) (hn:ep<n) (hf:∀dd,d=some dd->μ (ep,dd)=none) {dd:Nat} (hd:d=some dd)
  {mid:Id} {es:List (V × V)} (hm:ev (get env) m = .arr mid) (hl:lk σ mid=some (.map es)) (hv:v = .arr (ep,dd)):Goes P W0 ep o d σ n μ H a w v (((ep,dd),.mit mid es.length [] es.length)::σ):=by
 subst hv
 have hx':=okX_rel hr hx
 rw [hm] at hx'
 obtain ⟨⟨kt,et⟩,hmt⟩:=Option.isSome_iff_exists.1 ht
 obtain ⟨bk,mes,clock,hmu,hB,hh,hrel⟩:=hp.ents _ _ hl
 have e1:a.eval x' = .map (some bk):=by
  have:=(hx'.arr_inv).1
  rw [hmu] at this
  exact (Option.some.inj this).symm
 have hclock:clock=es.length:=by rw [hrel.now,hrel.len]
 subst hclock
 refine Goes.made hp hd hn hf (obj:=.mapIter (some bk) es.length #[] es.length) (val:=.pointer (some ⟨w.heap.size,0,none⟩)) ?_ (fun bk h=>by simpa [blk] using h.symm)
  ⟨w.heap.size,bk,setμ_self _ _ _,hp.base.size,setμ_mono (hf dd hd) _ _ hmu,heap_alloc_new w _⟩ (.arr _ _ (setμ_self _ _ _) rfl)
 simp [execOp,ho,e1,Instr.range,run_underlying (mapT_some hmt),MapKept.run_getObj_map hh]
omit hr hp in
theorem run_getObj_mit {r:Nat} {m:Option Nat} {since stepped:Nat} {seen:Array Nat} (hb:w.heap[r]? = some (.mapIter m since seen stepped)):(getObj r).run P w = .ok (.mapIter m since seen stepped) w:=by
 simp [getObj,Sem.run,hb]
omit hr hp in
theorem run_setObj_mit {r:Nat} {m:Option Nat} {since stepped:Nat} {seen:Array Nat} (ob:Obj) (hb:w.heap[r]? = some (.mapIter m since seen stepped)):(setObj r ob).run P w = .ok () { w with heap:=w.heap.setIfInBounds r ob }:=by
 simp [setObj,Sem.run,hb]
omit hr hp in
theorem find_born {ms:List MapEntry}:∀(j i:Nat) (m:MapEntry),(∀(k:Nat) (m:MapEntry),ms[k]? = some m->m.born=j+k)->ms[i]? = some m->ms.find? (fun e=>e.born == j+i)=some m:=by
 induction ms with
 | nil=>intro j i m _ h;simp at h
 | cons x ms ih=>
  intro j i m hb h
  cases i with
  | zero=>
   simp only [List.getElem?_cons_zero,Option.some.injEq] at h
   subst h
   have:=hb 0 x rfl
   rw [List.find?_cons_of_pos (by simp [this])]
  | succ i=>
   have h0:=hb 0 x rfl
   rw [List.find?_cons_of_neg (by simp [h0])]
   have:=ih (j+1) i m (fun k m hk=>by have:=hb (k+1) m (by simpa using hk);omega) (by simpa using h)
   rw [show j+(i+1)=j+1+i by omega]
   exact this
theorem s_mentry {x':Operand} {m:X} (ho:o.op = .entry x') (hx:okX x' m=true) {id mid:Id} {since i:Nat} {seen:List Nat} {es:List (V × V)} {kv:V × V} (hm:ev (get env) m = .arr id) (hl:lk σ id=some (.mit mid since seen es.length))
  (hlast:seen.getLast? = some i) (hlm:lk σ mid=some (.map es)) (hkv:es[i]? = some kv) (hv:v = .tup [kv.1,kv.2]):Goes P W0 ep o d σ n μ H a w v σ:=by
 subst hv
 have hx':=okX_rel hr hx
 rw [hm] at hx'
 obtain ⟨r,mb,hmu,_,hmm,hh⟩:=hp.ents _ _ hl
 obtain ⟨bk,mes,clock,hmu2,_,hh2,hrel⟩:=hp.ents _ _ hlm
 rw [hmm] at hmu2
 cases hmu2
 have e1:a.eval x' = .pointer (some ⟨r,0,none⟩):=by
  have:=(hx'.arr_inv).1
  rw [hmu] at this
  exact (Option.some.inj this).symm
 have hclock:clock=es.length:=by rw [hrel.now,hrel.len]
 subst hclock
 have hi:i<mes.toList.length:=by rw [<-hrel.len];exact (List.getElem?_eq_some_iff.1 hkv).1
 have hm0:mes.toList[i]? = some mes.toList[i]:=List.getElem?_eq_getElem hi
 obtain ⟨r1,r2⟩:=hrel.at_ i kv _ hkv hm0
 have hback:seen.toArray.back? = some i:=by rw [<-hlast];simp
 have hfind:mes.find? (fun e=>e.born == i)=some mes.toList[i]:=by
  have:=find_born (ms:=mes.toList) 0 i _ (fun k m hk=>by rw [Nat.zero_add];exact hrel.born k m hk) hm0
  rw [Nat.zero_add] at this
  rw [<-Array.find?_toList]
  exact this
 intro next Q K
 refine wp_value (w':=w) (val:=.tuple #[mes.toList[i].key,mes.toList[i].val]) ?_ (K _ _ _ _ _ (Done.same hp ?_))
 ·simp only [execOp,ho,e1,Sem.run_bind,Instr.entry,run_getObj_mit hh,Result.andThen_ok,hback,MapKept.run_getObj_map hh2,hfind,Sem.run_pure]
  simp
 ·have hvs:VRels μ H [kv.1,kv.2] [mes.toList[i].key,mes.toList[i].val]:=VRels.cons r1 (VRels.cons r2 VRels.nil_)
  exact .tup _ _ hvs.len hvs.at_
end ops
end Go.Ir
end
section
namespace Go.Ir
open Go.RowKit
theorem flat_replicate (z:V) (n k:Nat) (hk:k<n*(cells z).length):(flat (List.replicate n z))[k]? = (cells z)[k % (cells z).length]?:=by
 induction n generalizing k with
 | zero=>omega
 | succ n ih=>
  have hs:flat (List.replicate (n+1) z)=cells z++flat (List.replicate n z):=by simp [flat,List.replicate_succ]
  rw [hs]
  by_cases h:k<(cells z).length
  ·rw [List.getElem?_append_left h,Nat.mod_eq_of_lt h]
  ·rw [List.getElem?_append_right (by omega),ih (k-(cells z).length) (by rw [Nat.succ_mul] at hk;omega)]
   congr 1
   exact (Nat.mod_eq_sub_mod (by omega)).symm
theorem made_rel {μ:Id->Option Value} {H:Addr->Option Value} {z:V} {zv:Value} {sz:Nat} (hc:CRel μ H (cells z) zv.cells.toList) (hs:zv.cells.size=sz) (hpos:0<sz) {n m:Nat} (hnm:n<=m) :
  CRel μ H (flat (List.replicate n z)) ((madeCells zv.cells (m*sz)).toList.take (n*sz)):=by
 have hl:(cells z).length=sz:=by rw [hc.len];simpa using hs
 have hle:n*sz<=m*sz:=Nat.mul_le_mul_right _ hnm
 have hat:∀k v,((madeCells zv.cells (m*sz)).toList.take (n*sz))[k]? = some v->k<n*sz/\zv.cells.toList[k % sz]? = some v:=by
  intro k v h
  rw [List.getElem?_take] at h
  split at h
  ·rename_i hk
   refine ⟨hk,?_⟩
   have hm:k % sz<sz:=Nat.mod_lt _ hpos
   have hk2:k<m*sz:=by omega
   simp only [madeCells,Array.toList_map,List.getElem?_map] at h
   have hr:(Array.range (m*sz)).toList[k]? = some k:=by simp [hk2]
   rw [hr] at h
   simp only [Option.map_some,Option.some.injEq] at h
   rw [hs] at h
   have h3:k % sz<zv.cells.size:=by rw [hs];exact hm
   have h2:zv.cells[k % sz]! = zv.cells[k % sz]:=by rw [getElem!_pos]
   rw [h2] at h
   simp only [Array.getElem?_toList]
   rw [Array.getElem?_eq_getElem h3,h]
  ·cases h
 refine ⟨⟨?_,fun k c v h1 h2=>?_⟩,fun v hv=>?_⟩
 ·rw [flat_length (sz:=sz) (fun e he=>by rw [List.eq_of_mem_replicate he];exact hl)]
  rw [List.length_replicate,List.length_take,Array.length_toList,size_madeCells,Nat.min_eq_left hle]
 ·obtain ⟨hk,h3⟩:=hat k v h2
  rw [flat_replicate z n k (by rw [hl];exact hk),hl] at h1
  exact hc.at_ _ c v h1 h3
 ·obtain ⟨k,hk⟩:=List.mem_iff_getElem?.1 hv
  obtain ⟨_,h3⟩:=hat k v hk
  exact hc.one v (List.mem_of_getElem? h3)
section
variable {W0 w w' : World} {σ : Sto} {n n' : Nat} {μ : Id → Option Value} {H : Addr → Option Value}
theorem Hp.rename {id0 id1:Id} {e:Ent} {val:Value} (hp:Hp W0 ((id0,e)::σ) n μ H w) (hm:μ id0=some val) (h0:lk σ id0=none) (h1:μ id1=none) (hn:id1.1<n) :
  Hp W0 ((id1,e)::σ) n (setμ μ id1 val) H w/\∀bk,Own (setμ μ id1 val) ((id1,e)::σ) bk->Own μ ((id0,e)::σ) bk:=by
 have hmono:=setμ_mono (v:=val) h1
 have old:∀id' e',lk σ id'=some e'->id'≠id0/\id'≠id1/\lk ((id0,e)::σ) id'=some e'/\setμ μ id1 val id'=μ id':=by
  intro id' e' h
  have hne0:id'≠id0:=by rintro rfl;rw [h0] at h;cases h
  have hl:lk ((id0,e)::σ) id'=some e':=by simp only [lk];rw [if_neg (fun e=>hne0 e.symm)];exact h
  have hne1:id'≠id1:=by
   rintro rfl
   obtain ⟨_,hm⟩:=(hp.ents _ _ hl).named
   rw [h1] at hm;cases hm
  exact ⟨hne0,hne1,hl,setμ_ne _ _ hne1⟩
 have l0:lk ((id0,e)::σ) id0=some e:=by simp [lk]
 have via:∀id' e',lk ((id1,e)::σ) id'=some e'->∃id'',lk ((id0,e)::σ) id''=some e'/\setμ μ id1 val id'=μ id''/\(id'=id1/\id''=id0\/id'=id''/\id'≠id1/\id''≠id0):=by
  intro id' e' h
  simp only [lk] at h
  split at h
  ·rename_i h2;subst h2;cases h;exact ⟨id0,l0,by rw [setμ_self,hm],.inl ⟨rfl,rfl⟩⟩
  ·obtain ⟨a,b,c,d⟩:=old _ _ h;exact ⟨id',c,d,.inr ⟨rfl,b,a⟩⟩
 have own':∀bk,Own (setμ μ id1 val) ((id1,e)::σ) bk->Own μ ((id0,e)::σ) bk:=by
  rintro bk ⟨id',e',hl,hb⟩
  obtain ⟨id'',hl',hmu,_⟩:=via _ _ hl
  exact ⟨id'',e',hl',by rw [<-hmu];exact hb⟩
 refine ⟨⟨hp.base,hp.pins,?_,fun bk ho=>hp.unp bk (own' bk ho),?_,?_⟩,own'⟩
 ·intro id' e' hl
  obtain ⟨id'',hl',hmu,hcase⟩:=via _ _ hl
  have hent:=hp.ents _ _ hl'
  cases e' with
  | box v=>
   obtain ⟨bk,vals,t,hm',hB,hh,hc⟩:=hent
   exact ⟨bk,vals,t,by rw [hmu];exact hm',hB,hh,hc.mono hmono (fun _ _ h=>h)⟩
  | tbox t v=>
   obtain ⟨bk,vals,hm',hB,hh,hc⟩:=hent
   exact ⟨bk,vals,by rw [hmu];exact hm',hB,hh,hc.mono hmono (fun _ _ h=>h)⟩
  | arr e sz es=>
   obtain ⟨v,vals,hm',r1,r2,r3,r4,hc⟩:=hent
   exact ⟨v,vals,by rw [hmu];exact hm',r1,r2,r3,r4,hc.mono hmono (fun _ _ h=>h)⟩
  | map es=>
   obtain ⟨r,mes,clock,hm',hB,hh,hc⟩:=hent
   exact ⟨r,mes,clock,by rw [hmu];exact hm',hB,hh,hc.mono hmono (fun _ _ h=>h)⟩
  | it l pos=>
   obtain ⟨r,hm',hB,hh⟩:=hent
   exact ⟨r,by rw [hmu];exact hm',hB,hh⟩
  | mit mid since seen stepped=>
   obtain ⟨r,m,hm',hB,hm2,hh⟩:=hent
   exact ⟨r,m,by rw [hmu];exact hm',hB,hmono _ _ hm2,hh⟩
 ·intro i1 e1 i2 e2 bk l1 l2 b1 b2
  obtain ⟨j1,l1',m1,c1⟩:=via _ _ l1
  obtain ⟨j2,l2',m2,c2⟩:=via _ _ l2
  rw [m1] at b1
  rw [m2] at b2
  have:=hp.sep _ _ _ _ bk l1' l2' b1 b2
  subst this
  rcases c1 with ⟨rfl,rfl⟩|⟨rfl,a,b⟩<;>rcases c2 with ⟨rfl,h⟩|⟨rfl,c,d⟩
  ·rfl
  ·exact absurd rfl d
  ·exact absurd h b
  ·rfl
 ·intro k hk
  have:k≠id1:=by rintro rfl;omega
  rw [setμ_ne _ _ this]
  exact hp.bd k hk
end
theorem run_callFunc {P:Program} {f:FuncId} (hc:callable P f=true) (args:Array Value) (w:World):(callFunc f args).run P w = .ok (.enter f args) w:=by
 unfold callable at hc
 split at hc
 ·rename_i fn hf
  simp only [Bool.and_eq_true,Bool.not_eq_true'] at hc
  have hb:fn.body.isNone=false:=by cases h:fn.body<;>simp_all
  unfold callFunc
  simp only [Sem.run_bind,run_program,Result.andThen_ok,hf,hc.2,Bool.false_eq_true,if_false,hb,Sem.run_pure]
 ·cases hc
section ops
variable {P : Program} {W0 : World} {ep nt : Nat} {o : Oper} {d : Option Nat} {env : Env} {σ σ' : Sto} {n : Nat} {μ : Id → Option Value} {H : Addr → Option Value} {a : Act} {w : World} {v : V}
variable (hr : Rl μ H nt env a) (hp : Hp W0 σ n μ H w)
theorem run_call {c:Call} {g:Operand} {f:FuncId} {first caps:Array Value} (hc:callable P f=true) (ho:o.op = .call c) (hcal:c.callee = .value g) (hg:a.eval g = .func (.func f) first caps) (w:World) :
  (execOp a.eval o).run P w = .ok (.enter f (first++c.args.map a.eval++caps)) w:=by
 simp only [execOp,ho,resolve,hcal,hg,Deferred.ofValue,Sem.run_bind,Sem.run_pure,Result.andThen_ok,invoke]
 exact run_callFunc hc _ w
theorem Goes.called {f:FuncId} {args:Array Value} {vargs:List V} {σi σo:Sto} (hp:Hp W0 σ n μ H w) (hrun:(execOp a.eval o).run P w = .ok (.enter f args) w) (hargs:VRels μ H vargs args.toList)
  (hret:RetS P W0 f vargs σi v σo) (hs:∀id e,lk σi id=some e->lk σ id=some e):Goes P W0 ep o d σ n μ H a w v (over σi σo σ):=by
 intro next Q K
 unfold Oper.wp
 rw [hrun]
 have:=hret.run n w μ H args.toList (hp.part hs) hargs
 simp only [Oper.upon]
 rw [Array.toArray_toList] at this
 refine Calls.mono this ?_
 rintro e w' ⟨val,μ',H',n',rfl,hv,hp',hle,hf,hfresh⟩
 have hb:=hp.back hs hp' hf
 exact K val n' μ' H' w' ⟨hv,hb.1,hle,hb.2,fun id hid _ hnone=>hfresh id hid hnone⟩
theorem over_nil (σ:Sto):over [] [] σ=σ:=by simp [over,lk]
theorem lk_over_self {σi σ:Sto} (hs:∀id e,lk σi id=some e->lk σ id=some e) (id:Id):lk (over σi σi σ) id=lk σ id:=by
 rw [lk_over]
 cases h:lk σi id with
 | none=>simp
 | some e=>simp [hs id e h]
theorem own_eqv {σ τ:Sto} {μ:Id->Option Value} {bk:Nat} (h:∀id,lk σ id=lk τ id):Own μ σ bk↔Own μ τ bk:=by
 unfold Own;simp only [h]
theorem Hp.eqv {σ τ:Sto} {n:Nat} {μ:Id->Option Value} {H:Addr->Option Value} {w:World} (h:∀id,lk σ id=lk τ id) (hp:Hp W0 σ n μ H w):Hp W0 τ n μ H w:=
 ⟨hp.base,hp.pins,fun id e hl=>hp.ents id e (by rw [h];exact hl),fun bk hb=>hp.unp bk ((own_eqv h).2 hb),fun id e id' e' bk h1 h2=>hp.sep id e id' e' bk (by rw [h];exact h1) (by rw [h];exact h2),hp.bd⟩
theorem Goes.eqv {σ1 σ':Sto} (h:∀id,lk σ1 id=lk σ' id) (hg:Goes P W0 ep o d σ n μ H a w v σ1):Goes P W0 ep o d σ n μ H a w v σ':=
 fun next Q K=>hg next Q fun val n' μ' H' w' hd=>K val n' μ' H' w' ⟨hd.rel,hd.hp.eqv h,hd.le,⟨hd.fr.mu,hd.fr.hp,hd.fr.size,hd.fr.keep,hd.fr.pin,fun bk hb ho=>hd.fr.dom bk hb ((own_eqv h).2 ho)⟩,hd.fresh⟩
theorem Goes.calledN {f:FuncId} {args:Array Value} {vargs:List V} {σi σo:Sto} {x:Ent} (hp:Hp W0 σ n μ H w) (hrun:(execOp a.eval o).run P w = .ok (.enter f args) w) (hargs:VRels μ H vargs args.toList)
  (hn:ep<n) (hf:∀dd,d=some dd->μ (ep,dd)=none) {dd:Nat} (hd:d=some dd)
  (hret:RetN P W0 f vargs σi x σo) (hs:∀id e,lk σi id=some e->lk σ id=some e):Goes P W0 ep o d σ n μ H a w (.arr (ep,dd)) (((ep,dd),x)::over σi σo σ):=by
 intro next Q K
 unfold Oper.wp
 rw [hrun]
 have:=hret.run n w μ H args.toList (hp.part hs) hargs
 simp only [Oper.upon]
 rw [Array.toArray_toList] at this
 refine Calls.mono this ?_
 rintro e' w' ⟨val,μ',H',n',id0,rfl,hm,h1c,hm0,hl0,hp',hle,hfr,hfresh⟩
 have hb:=hp.back hs hp' hfr
 have hov:over σi ((id0,x)::σo) σ=(id0,x)::over σi σo σ:=rfl
 rw [hov] at hb
 have hlo:lk (over σi σo σ) id0=none:=by
  rw [lk_over,hl0]
  simp only
  split
  ·cases h:lk σ id0 with
   | none=>rfl
   | some x=>
    obtain ⟨_,hm'⟩:=(hp.ents _ _ h).named
    rw [hm0] at hm';cases hm'
  ·rfl
 have hnone:μ' (ep,dd)=none:=hfresh (ep,dd) hn (hf dd hd)
 obtain ⟨hp2,hown⟩:=hb.1.rename hm hlo hnone (Nat.lt_of_lt_of_le hn hle)
 refine K val n' _ H' w' ⟨.arr _ _ (setμ_self _ _ _) h1c,hp2,hle,⟨fun id x hx=>setμ_mono hnone id x (hb.2.mu id x hx),hb.2.hp,hb.2.size,hb.2.keep,hb.2.pin,fun bk hbk ho=>hb.2.dom bk hbk (hown bk ho)⟩,fun id hid hne hnone'=>?_⟩
 rw [setμ_ne _ _ (hne dd hd)]
 exact hfresh id hid hnone'
include hr hp
theorem s_mksl {t e:TypeId} {l' c':Operand} {l c:X} {z:V} {sz:Nat} (ho:o.op = .makeSlice t l' c') (ht:sliceT P t=some e) (hel:elemOk P e sz=true) (hz:zeroOk P e z=true) (hl:okX l' l=true) (hc:okX c' c=true)
  (hn:ep<n) (hf:∀dd,d=some dd->μ (ep,dd)=none) {dd:Nat} (hd:d=some dd) {k k':IntKind} {p q:Nat} (el:ev (get env) l = .i k (Int.ofNat p)) (ec:ev (get env) c = .i k' (Int.ofNat q)) (hpq:p<=q) (hq:q<=LLim) (hv:v = .arr (ep,dd)) :
  Goes P W0 ep o d σ n μ H a w v (((ep,dd),.arr e sz (List.replicate p z))::σ):=by
 have hl':=okX_rel hr hl
 have hc':=okX_rel hr hc
 rw [el] at hl'
 rw [ec] at hc'
 have e1:=hl'.i_inv
 have e2:=hc'.i_inv
 have hu:=sliceT_some ht
 obtain ⟨i,zv,hi,hisz,hpos,hby,hzv,hzs,_⟩:=elemOk_some hel
 obtain ⟨i',zv',hi',hzv',hokz⟩:=zeroOk_some hz
 rw [hi] at hi'
 cases hi'
 rw [hzv] at hzv'
 cases hzv'
 have hcz:=(okZ_rel (μ:=μ) (H:=H) hokz).2
 have hmono:=setμ_mono (v:=.slice (some ⟨w.heap.size,0,none⟩) p q) (hf dd hd)
 subst hisz
 subst hv
 have hb:=bytes_ok (k:=q) hr hp hq hby
 have hrun:=run_make (P:=P) w t e i zv hu hi hzv k k' (Int.ofNat p) (Int.ofNat q) (by simp) (by simpa using hpq) (by
  have:((i.bytes*q:Nat):Int)<=281474976710656:=by rw [Nat.mul_comm];omega
  rw [Int.natCast_mul] at this
  exact this) (by simp only [LLim,Int.ofNat_eq_natCast] at *;omega)
 have hrel:=made_rel hcz hzs hpos hpq
 refine Goes.made hp hd hn hf (obj:=.cells (madeCells zv.cells (q*i.size)) e) (val:=.slice (some ⟨w.heap.size,0,none⟩) p q) ?_ (fun bk h=>by simpa [blk] using h.symm)
  ⟨_,_,setμ_self _ _ _,rfl,⟨?_,.inr ⟨w.heap.size,q,_,by simp,hp.base.size,heap_alloc_new w _,by simpa using hpq,by simp only [maxLen,LLim] at *;omega,size_madeCells _ _,rfl⟩⟩,by simp;omega,fun x hx=>?_,?_⟩ (.arr _ _ (setμ_self _ _ _) rfl)
 ·simp only [execOp,ho,e1,e2,Sem.run_bind,hrun,Result.andThen_ok,Sem.run_pure]
  rfl
 ·simp only [List.length_replicate,List.length_take,Array.length_toList,size_madeCells]
  exact Nat.min_eq_left (Nat.mul_le_mul_right _ hpq)
 ·rw [List.eq_of_mem_replicate hx,hcz.len]
  simpa using hzs
 ·simpa using hrel.mono hmono (fun _ _ h=>h)
theorem op_sound {op:IOp} (hok:okOp P o.op op=true) (hdst:o.dst=d) (hn:ep<n) (hf:∀dd,d=some dd->μ (ep,dd)=none) (hst:isStore op=true->d=none)
  (he:E P W0 ep d op (get env) σ v σ'):Goes P W0 ep o d σ n μ H a w v σ':=by
 have callArgs:∀{c:Call} {args:List X},okXs c.args.toList args=true->VRels μ H (args.map (ev (get env))) (c.args.map a.eval).toList:=by
  intro c args h
  have:=okXs_rel hr h
  simpa using this
 have fnRef:∀f,a.eval (.func f) = .func (.func f) #[] #[]:=fun f=>rfl
 unfold okOp at hok
 unfold E at he
 cases op with
 | mv y=>
  simp only at hok he
  obtain ⟨he,rfl⟩:=he
  split at hok
  ·rename_i x ho;exact s_mv hr hp (.inl ho) hok he
  ·rename_i x ho;exact s_mv hr hp (.inr ho) hok he
  ·cases hok
 | pick c x y=>
  simp only at hok he
  obtain ⟨t,ht,he,rfl⟩:=he
  split at hok
  ·rename_i c' x' y' ho
   simp only [Bool.and_eq_true] at hok
   exact s_pick hr hp ho hok.1.1 hok.1.2 hok.2 ht he
  ·cases hok
 | bin op x y=>
  simp only at hok he
  obtain ⟨he,rfl⟩:=he
  split at hok
  ·rename_i op' t x' y' ty ho
   simp only [Bool.and_eq_true,beq_iff_eq] at hok
   obtain ⟨⟨rfl,h1⟩,h2⟩:=hok
   exact s_bin hr hp ho h1 h2 he
  ·cases hok
 | eqb ne x y=>
  simp only at hok he
  obtain ⟨p,q,ex,ey,he,rfl⟩:=he
  split at hok
  ·rename_i op' t x' y' ty ho
   simp only [Bool.and_eq_true,beq_iff_eq] at hok
   obtain ⟨⟨⟨h0,h1⟩,h2⟩,h3⟩:=hok
   exact s_eqb hr hp ho h0 h1 h2 h3 ex ey he
  ·cases hok
 | not x=>
  simp only at hok he
  obtain ⟨p,ex,he,rfl⟩:=he
  split at hok
  ·rename_i t x' ho;exact s_not hr hp ho hok ex he
  ·cases hok
 | neg x=>
  simp only at hok he
  obtain ⟨k,p,ex,he,rfl⟩:=he
  split at hok
  ·rename_i t x' ho;exact s_neg hr hp ho hok ex he
  ·cases hok
 | cvi k x=>
  simp only at hok he
  obtain ⟨k',p,ex,he,rfl⟩:=he
  split at hok
  ·rename_i src dst x' ho
   simp only [Bool.and_eq_true,beq_iff_eq] at hok
   exact s_cvi hr hp ho hok.1.1 hok.1.2 hok.2 ex he
  ·cases hok
 | cvs x=>
  simp only at hok he
  obtain ⟨l,ex,he,rfl⟩:=he
  split at hok
  ·rename_i src dst x' ho
   simp only [Bool.and_eq_true] at hok
   exact s_cvs hr hp ho hok.1.1 hok.1.2 hok.2 ex he
  ·cases hok
 | fld x off m ag=>
  simp only at hok he
  obtain ⟨ha,he,rfl⟩:=he
  split at hok
  ·rename_i t x' f ho
   simp only [Bool.and_eq_true] at hok
   exact s_fld hr hp ho hok.1 hok.2 ha he
  ·cases hok
 | faddr x off=>
  simp only at hok he
  obtain ⟨he,rfl⟩:=he
  split at hok
  ·rename_i t x' f ho
   simp only [Bool.and_eq_true] at hok
   exact s_faddr hr hp ho hok.1 hok.2 he
  ·cases hok
 | iaddr x i e sz=>
  simp only at hok he
  obtain ⟨he,rfl⟩:=he
  split at hok
  ·rename_i t x' i' ho
   simp only [Bool.and_eq_true,beq_iff_eq] at hok
   exact s_iaddr hr hp ho hok.1.1.1 hok.1.1.2 hok.1.2 hok.2 he
  ·cases hok
 | idx x i=>
  simp only at hok he
  obtain ⟨l,k,m,c,ex,ei,h0,hc,he,rfl⟩:=he
  split at hok
  ·rename_i t x' i' ho
   simp only [Bool.and_eq_true] at hok
   exact s_idx hr hp ho hok.1.1 hok.1.2 hok.2 ex ei h0 hc he
  ·cases hok
 | load x m ag=>
  simp only at hok he
  obtain ⟨he,rfl⟩:=he
  split at hok
  ·rename_i t x' ho
   simp only [Bool.and_eq_true,beq_iff_eq] at hok
   exact s_load hr hp ho hok.1.1 hok.1.2 hok.2 he
  ·cases hok
 | store ax x m=>
  simp only at hok he
  obtain ⟨h1,h2,he⟩:=he
  split at hok
  ·rename_i t a' x' ho
   simp only [Bool.and_eq_true,beq_iff_eq] at hok
   exact s_store hr hp ho hok.1.1 hok.2 hok.1.2 hdst (hst rfl) h1 h2 he
  ·cases hok
 | box x=>
  simp only at hok he
  obtain ⟨dd,hd,h1,h2,rfl⟩:=he
  split at hok
  ·rename_i t x' ho
   exact s_box hr hp ho hok hn hf hd h1 h2
  ·cases hok
 | alloc z=>
  simp only at hok he
  obtain ⟨dd,hd,h2,rfl⟩:=he
  split at hok
  ·rename_i t ho
   exact s_alloc hr hp ho hok hn hf hd h2
  ·cases hok
 | build z ps=>
  simp only at hok he
  obtain ⟨hall,⟨cs,hcs,he⟩,rfl⟩:=he
  split at hok
  ·rename_i t ps' ho
   simp only [Bool.and_eq_true] at hok
   exact s_build hr hp ho hok.1.1 hok.1.2 hok.2 hall hcs he
  ·cases hok
 | msl own e sz xs=>
  simp only at hok he
  obtain ⟨hall,he⟩:=he
  split at hok
  ·rename_i t len ps ho
   simp only [Bool.and_eq_true,beq_iff_eq,decide_eq_true_eq] at hok
   exact s_msl hr hp ho hok.1.1.1.1 hok.1.1.1.2 hok.1.1.2 hok.1.2 hok.2 hn hf hall he
  ·cases hok
 | slS x lo hi=>
  simp only at hok he
  obtain ⟨l,p,q,ex,h1,h2,h3,h4,he,rfl⟩:=he
  split at hok
  ·rename_i t x' lo' hi' ho
   simp only [Bool.and_eq_true] at hok
   exact s_slS hr hp ho hok.1.1.1 hok.1.1.2 hok.1.2 hok.2 ex h1 h2 h3 h4 he
  ·cases hok
 | slL x lo hi sz=>
  simp only at hok he
  obtain ⟨l,p,q,ex,h1,h2,h3,h4,h5,he,rfl⟩:=he
  split at hok
  ·rename_i t x' lo' hi' ho
   simp only [Bool.and_eq_true,beq_iff_eq] at hok
   obtain ⟨e,ht⟩:=Option.isSome_iff_exists.1 hok.1.1.1.1
   have hse:=hok.1.1.1.2
   rw [ht] at hse
   exact s_slL hr hp ho ht hse hok.1.1.2 hok.1.2 hok.2 ex h1 h2 h3 h4 h5 he
  ·cases hok
 | lenS x=>
  simp only at hok he
  obtain ⟨l,ex,he,rfl⟩:=he
  split at hok
  ·rename_i c ho
   split at hok
   ·rename_i hcal
    simp only [Bool.and_eq_true,beq_iff_eq] at hok
    exact s_lenS hr hp ho hcal hok.1.1 hok.1.2 hok.2 ex he
   ·cases hok
  ·cases hok
 | lenL x=>
  simp only at hok he
  obtain ⟨l,ex,he,rfl⟩:=he
  split at hok
  ·rename_i c ho
   split at hok
   ·rename_i hcal
    simp only [Bool.and_eq_true,beq_iff_eq] at hok
    exact s_lenL hr hp ho hcal hok.1.1 hok.1.2 hok.2 ex he
   ·cases hok
  ·cases hok
 | app s x e sz=>
  simp only at hok he
  obtain ⟨dd,xs,hd,h1,h2,h3,he⟩:=he
  split at hok
  ·rename_i c ho
   split at hok
   ·rename_i hcal
    simp only [Bool.and_eq_true,beq_iff_eq] at hok
    exact s_app hr hp ho hcal hok.1.1.1 hok.1.1.2 hok.1.2 hok.2 hn hf hd h1 h2 h3 he
   ·cases hok
  ·cases hok
 | apps s x e=>
  simp only at hok he
  obtain ⟨dd,l,hd,h1,h3,he⟩:=he
  split at hok
  ·rename_i c ho
   split at hok
   ·rename_i hcal
    simp only [Bool.and_eq_true,beq_iff_eq] at hok
    exact s_apps hr hp ho hcal hok.1.1.1.1 hok.1.1.1.2 hok.1.1.2 hok.1.2 hok.2 hn hf hd h1 h3 he
   ·cases hok
  ·cases hok
 | slT x hi sz=>
  simp only at hok he
  obtain ⟨dd,id,e,es,q,hd,h1,h2,h3,h4,h5,rfl⟩:=he
  split at hok
  ·rename_i t x' hi' ho
   simp only [Bool.and_eq_true,beq_iff_eq] at hok
   obtain ⟨⟨⟨k1,k2⟩,k3⟩,k4⟩:=hok
   obtain ⟨e0,he0⟩:=Option.isSome_iff_exists.1 k1
   rw [he0] at k2
   exact s_slT hr hp ho he0 k2 k3 k4 hn hf hd h1 h2 h3 h4 h5
  ·cases hok
 | ext x k=>
  simp only at hok he
  obtain ⟨vs,ex,he,rfl⟩:=he
  split at hok
  ·rename_i x' k' ho
   simp only [Bool.and_eq_true,beq_iff_eq] at hok
   obtain ⟨rfl,hx⟩:=hok
   exact s_ext hr hp ho hx ex he
  ·cases hok
 | call f args=>
  simp only at hok he
  obtain ⟨he,rfl⟩:=he
  split at hok
  ·rename_i c ho
   split at hok
   ·rename_i f' hcal
    simp only [Bool.and_eq_true,beq_iff_eq] at hok
    obtain ⟨rfl,hx⟩:=hok
    have:=Goes.called (ep:=ep) (d:=d) hp (run_call he.callable ho hcal (fnRef _) w) (by simpa using callArgs hx) he (fun id e h=>by simp [lk] at h)
    rwa [over_nil] at this
   ·cases hok
  ·cases hok
 | calls f args=>
  simp only at hok he
  obtain ⟨σi,σo,he,hs,rfl⟩:=he
  split at hok
  ·rename_i c ho
   split at hok
   ·rename_i f' hcal
    simp only [Bool.and_eq_true,beq_iff_eq] at hok
    obtain ⟨rfl,hx⟩:=hok
    exact Goes.called hp (run_call he.callable ho hcal (fnRef _) w) (by simpa using callArgs hx) he hs
   ·cases hok
  ·cases hok
 | callr f args=>
  simp only at hok he
  obtain ⟨⟨σi,he,hs⟩,rfl⟩:=he
  split at hok
  ·rename_i c ho
   split at hok
   ·rename_i f' hcal
    simp only [Bool.and_eq_true,beq_iff_eq] at hok
    obtain ⟨rfl,hx⟩:=hok
    exact Goes.eqv (fun id=>lk_over_self hs id) (Goes.called hp (run_call he.callable ho hcal (fnRef _) w) (by simpa using callArgs hx) he hs)
   ·cases hok
  ·cases hok
 | calln f args=>
  simp only at hok he
  obtain ⟨dd,σi,σo,x,hd,he,hs,rfl,rfl⟩:=he
  split at hok
  ·rename_i c ho
   split at hok
   ·rename_i f' hcal
    simp only [Bool.and_eq_true,beq_iff_eq] at hok
    obtain ⟨rfl,hx⟩:=hok
    exact Goes.calledN hp (run_call he.callable ho hcal (fnRef _) w) (by simpa using callArgs hx) hn hf hd he hs
   ·cases hok
  ·cases hok
 | callv h args=>
  simp only at hok he
  obtain ⟨f,first,caps,eh,he,rfl⟩:=he
  split at hok
  ·rename_i c ho
   split at hok
   ·rename_i h' hcal
    simp only [Bool.and_eq_true] at hok
    have hh:=okX_rel hr hok.1
    rw [eh] at hh
    obtain ⟨fv,cv,e1,r1,r2⟩:=hh.fn_inv
    have:=Goes.called (ep:=ep) (d:=d) hp (run_call he.callable ho hcal e1 w) (by simpa using (r1.append (callArgs hok.2)).append r2) he (fun id e h=>by simp [lk] at h)
    rwa [over_nil] at this
   ·cases hok
  ·cases hok
 | callvs h args=>
  simp only at hok he
  obtain ⟨f,first,caps,σi,σo,eh,he,hs,rfl⟩:=he
  split at hok
  ·rename_i c ho
   split at hok
   ·rename_i h' hcal
    simp only [Bool.and_eq_true] at hok
    have hh:=okX_rel hr hok.1
    rw [eh] at hh
    obtain ⟨fv,cv,e1,r1,r2⟩:=hh.fn_inv
    exact Goes.called hp (run_call he.callable ho hcal e1 w) (by simpa using (r1.append (callArgs hok.2)).append r2) he hs
   ·cases hok
  ·cases hok
 | mkfn f first caps=>
  simp only at hok he
  obtain ⟨he,rfl⟩:=he
  split at hok
  ·rename_i f' first' caps' ho
   simp only [Bool.and_eq_true,beq_iff_eq] at hok
   obtain ⟨⟨rfl,h1⟩,h2⟩:=hok
   exact s_mkfn hr hp ho h1 h2 he
  ·cases hok
 | mksl l c z e sz=>
  simp only at hok he
  obtain ⟨dd,k,k',p,q,hd,el,ec,h1,h2,h3,rfl⟩:=he
  split at hok
  ·rename_i t l' c' ho
   simp only [Bool.and_eq_true,beq_iff_eq] at hok
   exact s_mksl hr hp ho hok.1.1.1.1 hok.1.1.1.2 hok.1.1.2 hok.1.2 hok.2 hn hf hd el ec h1 h2 h3
  ·cases hok
 | mx lo x xs=>
  simp only at hok he
  obtain ⟨he,rfl⟩:=he
  split at hok
  ·rename_i c ho
   split at hok
   ·rename_i b hcal
    simp only [Bool.and_eq_true,beq_iff_eq] at hok
    exact s_mx hr hp ho hcal hok.1 hok.2 he
   ·cases hok
  ·cases hok
 | nilck x=>
  simp only at hok he
  obtain ⟨h1,he,rfl⟩:=he
  split at hok
  ·rename_i x' ho;exact s_nilck hr hp ho hok h1 he
  ·cases hok
 | pu k xs=>
  simp only at hok he
  obtain ⟨he,rfl⟩:=he
  exact s_pu hr hp hok he
 | rdm k m xs=>
  simp only at hok he
  obtain ⟨⟨id,e,hm,hl,he⟩,rfl⟩:=he
  exact s_rdm hr hp hok hm hl he
 | wrm k m xs=>
  simp only at hok he
  obtain ⟨id,e,e',hm,hl,he,rfl⟩:=he
  exact s_wrm hr hp hok hdst (fun h=>hst (by cases k<;>first|rfl|cases h)) hm hl he
 | mkm k xs=>
  simp only at hok he
  obtain ⟨dd,e,hd,he,hv,rfl⟩:=he
  exact s_mkm hr hp hok hn hf hd he hv
 | frz m k=>
  simp only at hok he
  obtain ⟨id,cs,hm,hl,hlen,hone,hv,rfl⟩:=he
  split at hok
  ·rename_i t x' ho
   simp only [Bool.and_eq_true] at hok
   exact s_frz hr hp ho hok.1 hok.2 hm hl hlen hone hv
  ·cases hok
 | mrange m=>
  simp only at hok he
  obtain ⟨dd,mid,es,hd,hm,hl,hv,rfl⟩:=he
  split at hok
  ·rename_i t x' ho
   simp only [Bool.and_eq_true] at hok
   exact s_mrange hr hp ho hok.1 hok.2 hn hf hd hm hl hv
  ·cases hok
 | mentry m=>
  simp only at hok he
  obtain ⟨id,mid,since,seen,i,es,kv,hm,hl,hlast,hlm,hkv,hv,rfl⟩:=he
  split at hok
  ·rename_i x' ho
   exact s_mentry hr hp ho hok hm hl hlast hlm hkv hv
  ·cases hok
 | eqr ne x y=>
  simp only at hok he
  obtain ⟨he,rfl⟩:=he
  exact s_eqr hr hp hok he
end ops
end Go.Ir
end
