/-
  What an input reads as, as an abstract value: plain data ..
  The end of a law's proof: from the contract of the law to ..
  Inputs that are messages: every well-formed slice of parts ..
  Inputs that are locales: their rules, and the rest.
  Contracts: SameForm of a form with itself, formOf.
  Contracts: leaves, of the program
  Contracts: leaves and Leaves, of the program.
  Contracts: Sound, of the program.
  Contracts: awake, and the law VariantsFlat.
-/
import Derived.Test.YtkeebddaokieiaaGreatDoorRows
import Derived.ChangeArms
import Derived.Carry
import Derived.ChangeSame
import Derived.OpenShut
import Derived.Test.YtkeebddaokieiaaGreatDoorChecked
import Derived.Test.YtkeebddaokieiaaGreatDoorPae
set_option linter.all false
set_option linter.unusedSimpArgs false
set_option linter.unusedVariables false
open Nat (reduceEqDiff)
section
namespace Go.Ir
open Go.RowKit Go.Proofs.YtkeebddaokieiaaGreatDoor
def mkEl (ag:Bool) (c:List V):V:=if ag then .agg c else c.headD .any
inductive WtV (P:Program):TypeId->List V->Prop where
 | bool (t:TypeId) (b:Bool) (h:P.underlying t=some .bool):WtV P t [.b b]
 | int (t:TypeId) (k:IntKind) (n:Int) (h:P.underlying t=some (.int k)) (hw:(Lit.int k n).wf=true):WtV P t [.i k n]
 | str (t:TypeId) (l:List UInt8) (h:P.underlying t=some .string):WtV P t [.s l]
 | sl (t e:TypeId) (es:List V) (h:P.underlying t=some (.slice e)) (he:∀el∈es,∃c,el=mkEl ((aggT P e).getD false) c/\cells el=c) (hc:∀el∈es,(cells el).length=P.cellsOf e) (hw:∀el∈es,WtV P e (cells el)):WtV P t [.sl es]
 | st (t:TypeId) (fs:Array Field) (vs:List V) (h:P.underlying t=some (.struct fs)) (hl:vs.length=P.cellsOf t) (hf:∀f∈fs.toList,WtV P f.type ((vs.drop f.offset).take (P.cellsOf f.type))):WtV P t vs
mutual
def bulkV:V->Nat
 | .s l=>l.length+1
 | .sl es=>bulkVs es+1
 | .agg cs=>bulkVs cs
 | _=>1
def bulkVs:List V->Nat
 | []=>0
 | v::vs=>bulkV v+bulkVs vs
end
theorem bulkVs_append (a b:List V):bulkVs (a++b)=bulkVs a+bulkVs b:=by
 induction a with
 | nil=>simp [bulkVs]
 | cons x a ih=>simp [bulkVs,ih];omega
def layB (P:Program):List Field->Nat->Option Nat
 | [],off=>some off
 | f::fs,off=>if f.offset=off then layB P fs (off+P.cellsOf f.type) else none
def plnB (P:Program) (T:List TypeId):Bool:=T.all fun t=>match P.underlying t with
 | some .bool|some (.int _)|some .string=>P.cellsOf t == 1
 | some (.slice e)=>P.cellsOf t == 1&&T.contains e&&decide (0<P.cellsOf e)
 | some (.struct fs)=>fs.toList.all (fun f=>T.contains f.type)&&layB P fs.toList 0 == some (P.cellsOf t)
 | _=>false
section
variable {H : Type} {enc : TypeId × Value → H} {P : Program} {w : World} {base : Nat} {spare : Nat → Bool} {held : Bool} {T : List TypeId}
theorem bulkAll_mem {d:DataW H} {ds:List (DataW H)} (h:d∈ds):Rows.uptoBulk d<=Rows.uptoBulkAll ds:=by
 induction ds with
 | nil=>cases h
 | cons x ds ih=>
  simp only [Rows.uptoBulkAll]
  rcases List.mem_cons.1 h with rfl|h
  ·omega
  ·have:=ih h;omega
theorem read_fields {μ:Id->Option Value} {Hc:Addr->Option Value} {cs:List Value} :
  ∀(fs:List Field) (off tot:Nat) (ds:List (DataW H)),layB P fs off=some tot->cs.length=tot->ds.length=fs.length->
   (∀(i:Nat) (f:Field) (d:DataW H),fs[i]? = some f->ds[i]? = some d->∃vs,CRel μ Hc vs ((cs.drop f.offset).take (P.cellsOf f.type))/\WtV P f.type vs/\bulkVs vs<=Rows.uptoBulk d)->
   off<=tot/\∃vs,CRel μ Hc vs (cs.drop off)/\(∀pre:List V,pre.length=off->∀f∈fs,WtV P f.type (((pre++vs).drop f.offset).take (P.cellsOf f.type)))/\bulkVs vs<=Rows.uptoBulkAll ds
 | [],off,tot,ds,hlay,hcs,hds,h=>by
  simp only [layB,Option.some.injEq] at hlay
  subst hlay
  refine ⟨Nat.le_refl _,[],?_,fun _ _ f hf=>(by cases hf),by simp [bulkVs]⟩
  rw [List.drop_of_length_le (by omega)]
  exact CRel.nil_
 | f::fs,off,tot,ds,hlay,hcs,hds,h=>by
  simp only [layB] at hlay
  split at hlay
  ·rename_i ho
   cases ds with
   | nil=>simp at hds
   | cons d ds=>
    obtain ⟨hle,vs,h1,h2,h3⟩:=read_fields fs _ tot ds hlay hcs (by simpa using hds) (fun i f' d' hf hd=>h (i+1) f' d' (by simpa using hf) (by simpa using hd))
    obtain ⟨us,g1,g2,g3⟩:=h 0 f d rfl rfl
    rw [ho] at g1
    have hul:us.length=P.cellsOf f.type:=by
     have:=g1.len
     rw [List.length_take,List.length_drop] at this
     omega
    refine ⟨by omega,us++vs,?_,?_,?_⟩
    ·have:=g1.append h1
     rw [<-List.drop_drop,List.take_append_drop] at this
     exact this
    ·intro pre hpre f' hf'
     rcases List.mem_cons.1 hf' with rfl|hf'
     ·rw [ho,<-hpre,List.drop_left,<-hul,List.take_left]
      exact g2
     ·have:=h2 (pre++us) (by simp [hpre,hul]) f' hf'
      rwa [List.append_assoc] at this
    ·rw [bulkVs_append]
     simp only [Rows.uptoBulkAll]
     omega
  ·cases hlay
theorem mkEl_cells {t:TypeId} {vs:List V} {ag:Bool} (hag:aggT P t=some ag) (h:WtV P t vs):cells (mkEl ag vs)=vs:=by
 cases ag with
 | true=>rfl
 | false=>
  cases h with
  | st t fs vs h hl hf=>simp [aggT,h,aggD] at hag
  | _=>rfl
theorem mkEl_bulk {t:TypeId} {vs:List V} {ag:Bool} (hag:aggT P t=some ag) (h:WtV P t vs):bulkV (mkEl ag vs)=bulkVs vs:=by
 cases ag with
 | true=>simp [mkEl,bulkV]
 | false=>
  cases h with
  | st t fs vs h hl hf=>simp [aggT,h,aggD] at hag
  | _=>simp [mkEl,bulkVs]
theorem read_plain {μ:Id->Option Value} (hT:plnB P T=true):∀(n:Nat) (t:TypeId) (cs:List Value) (x:DataW H × List MemPlace),t∈T->DataW.trod enc P w base spare held n t cs=some x->Rows.uptoBulk x.1<=1048576->
  ∃vs,CRel μ (fun ad=>w.cell? ad) vs cs/\WtV P t vs/\bulkVs vs<=Rows.uptoBulk x.1:=by
 intro n
 induction n with
 | zero=>intro t cs x _ h;simp [DataW.trod] at h
 | succ n ih=>
  intro t cs x ht h hb
  have hpl:=List.all_eq_true.1 hT t ht
  have one:∀{c:V} {v:Value},VRel μ (fun ad=>w.cell? ad) c v->v.oneCell'=true->CRel μ (fun ad=>w.cell? ad) [c] [v]:=fun hv h1=>
   ⟨VRels.cons hv VRels.nil_,fun v' hv'=>by rw [List.mem_singleton.1 hv'];exact h1⟩
  cases hu:P.underlying t with
  | none=>simp [hu] at hpl
  | some d=>
   cases d<;>simp only [hu] at hpl<;>(try (cases hpl;done))
   case bool=>
    unfold DataW.trod at h
    rw [hu] at h
    match cs,h with
    | [.bool b],h=>cases h;exact ⟨[.b b],one (.b b) rfl,.bool t b hu,by simp [bulkVs,bulkV,Rows.uptoBulk]⟩
   case int k=>
    unfold DataW.trod at h
    rw [hu] at h
    match cs,h with
    | [.int k' m],h=>
     simp only at h
     split at h
     ·rename_i hk
      obtain ⟨rfl,hw⟩:=hk
      cases h
      exact ⟨[.i k' m],one (.i k' m) rfl,.int t k' m hu hw,by simp [bulkVs,bulkV,Rows.uptoBulk]⟩
     ·cases h
   case string=>
    unfold DataW.trod at h
    rw [hu] at h
    match cs,h with
    | [.string s],h=>
     simp only at h
     split at h
     ·rename_i hs
      cases h
      simp only [Rows.uptoBulk] at hb
      refine ⟨[.s s.data.toList],one ?_ rfl,.str t _ hu,by simp [bulkVs,bulkV,Rows.uptoBulk]⟩
      have:=VRel.s (μ:=μ) (H:=fun ad=>w.cell? ad) s.data.toList (by unfold SLim;omega)
      simpa using this
     ·cases h
   case slice e=>
    simp only [Bool.and_eq_true,beq_iff_eq,List.contains_eq_mem,decide_eq_true_eq] at hpl
    obtain ⟨⟨hc1,heT⟩,hpos⟩:=hpl
    rcases DataW.trod_slice hu h with ⟨rfl,rfl⟩|⟨a,len,cap,elems,rest,m,hm,rfl,rfl,hbase,hlc,hcm,hel,helem,_,_⟩
    ·exact ⟨[.sl []],one (.slE none 0) rfl,.sl t e [] hu (fun _ h=>by cases h) (fun _ h=>by cases h) (fun _ h=>by cases h),by simp [bulkVs,bulkV,Rows.uptoBulk]⟩
    ·cases hm
     simp only [Rows.uptoBulk] at hb
     have hepl:=List.all_eq_true.1 hT e heT
     obtain ⟨ag,hag⟩:∃ag,aggT P e=some ag:=by
      unfold aggT
      cases hue:P.underlying e with
      | none=>simp [hue] at hepl
      | some d=>exact ⟨_,rfl⟩
     have each:∀i,i<len->∃(vs:List V) (seg:List Value) (y:DataW H × List MemPlace),elems[i]? = some y/\seg.length=P.cellsOf e/\(∀k,k<P.cellsOf e->w.cell? (a.add (i*P.cellsOf e+k))=seg[k]?)/\CRel μ (fun ad=>w.cell? ad) vs seg/\WtV P e vs/\bulkVs vs<=Rows.uptoBulk y.1:=by
      intro i hi
      have h1:=helem i hi
      have hlt:i<elems.length:=by omega
      rw [List.getElem?_eq_getElem hlt] at h1
      cases hcs:w.cells? base (a.add (i*P.cellsOf e)) (P.cellsOf e) with
      | none=>rw [hcs] at h1;cases h1
      | some seg=>
       rw [hcs] at h1
       obtain ⟨_,hl,hcell⟩:=World.cells?_some hcs
       have hmem:elems[i].1∈elems.map (·.1):=List.mem_map.2 ⟨_,List.getElem_mem hlt,rfl⟩
       have:=bulkAll_mem hmem
       obtain ⟨vs,r1,r2,r3⟩:=ih e seg elems[i] heT h1 (by omega)
       refine ⟨vs,seg,elems[i],List.getElem?_eq_getElem hlt,hl,fun k hk=>?_,r1,r2,r3⟩
       have:=hcell k hk
       rwa [show (a.add (i*P.cellsOf e)).add k=a.add (i*P.cellsOf e+k) from by
        unfold Addr.add
        by_cases hi:i*P.cellsOf e=0<;>by_cases hj:k=0<;>simp [hi,hj,Nat.add_assoc]] at this
     have all:∀j,j<=len->∃(es:List V) (vals:List Value),es.length=j/\vals.length=j*P.cellsOf e/\(∀el∈es,(∃c,el=mkEl ag c/\cells el=c)/\(cells el).length=P.cellsOf e/\WtV P e (cells el))/\CRel μ (fun ad=>w.cell? ad) (flat es) vals/\
       (∀(k:Nat) (v:Value),vals[k]? = some v->w.cell? (a.add k)=some v)/\bulkVs es<=Rows.uptoBulkAll ((elems.map (·.1)).take j):=by
      intro j
      induction j with
      | zero=>intro _;exact ⟨[],[],rfl,by simp,fun _ h=>(by cases h),CRel.nil_,fun k v h=>(by simp at h),by simp [bulkVs]⟩
      | succ j ihj=>
       intro hj
       obtain ⟨es,vals,g1,g2,g3,g4,g5,g6⟩:=ihj (by omega)
       obtain ⟨vs,seg,y,e1,e2,e3,e4,e5,e6⟩:=each j (by omega)
       have hcl:cells (mkEl ag vs)=vs:=mkEl_cells hag e5
       refine ⟨es++[mkEl ag vs],vals++seg,by simp [g1],by rw [List.length_append,g2,e2,Nat.succ_mul],?_,?_,?_,?_⟩
       ·intro el hel'
        rcases List.mem_append.1 hel' with h'|h'
        ·exact g3 el h'
        ·rw [List.mem_singleton.1 h',hcl]
         exact ⟨⟨vs,rfl,rfl⟩,by rw [e4.len,e2],e5⟩
       ·rw [flat_append]
        refine g4.append ?_
        have:flat [mkEl ag vs]=vs:=by simp [flat,hcl]
        rw [this];exact e4
       ·intro k v hk
        rcases Nat.lt_or_ge k vals.length with hlt|hge
        ·rw [List.getElem?_append_left hlt] at hk;exact g5 k v hk
        ·rw [List.getElem?_append_right hge] at hk
         have hklt:k-vals.length<seg.length:=(List.getElem?_eq_some_iff.1 hk).1
         have:=e3 (k-vals.length) (by omega)
         rw [hk,g2,show j*P.cellsOf e+(k-j*P.cellsOf e)=k by omega] at this
         exact this
       ·rw [bulkVs_append]
        have ht:(elems.map (·.1)).take (j+1)=(elems.map (·.1)).take j++[y.1]:=by
         rw [List.take_add_one,List.getElem?_map,e1];rfl
        have hba:∀(a b:List (DataW H)),Rows.uptoBulkAll (a++b)=Rows.uptoBulkAll a+Rows.uptoBulkAll b:=by
         intro a b
         induction a with
         | nil=>simp [Rows.uptoBulkAll]
         | cons x a ih=>simp [Rows.uptoBulkAll,ih];omega
        rw [ht,hba]
        have:=mkEl_bulk hag e5
        simp only [bulkVs,Rows.uptoBulkAll]
        omega
     obtain ⟨es,vals,g1,g2,g3,g4,g5,g6⟩:=all len (Nat.le_refl _)
     have hlen:∀(ds:List (DataW H)),ds.length<=Rows.uptoBulkAll ds:=by
      intro ds
      induction ds with
      | nil=>simp [Rows.uptoBulkAll]
      | cons d ds ih=>
       have:1<=Rows.uptoBulk d:=by
        cases d<;>(try simp only [Rows.uptoBulk])<;>(try omega)
        rename_i l;cases l<;>simp [Rows.uptoBulk]
       simp only [Rows.uptoBulkAll,List.length_cons]
       omega
     have hl1:=hlen (elems.map (·.1))
     rw [List.length_map,hel] at hl1
     refine ⟨[.sl es],one ?_ rfl,.sl t e es hu (by rw [hag];exact fun el h=>(g3 el h).1) (fun el h=>(g3 el h).2.1) (fun el h=>(g3 el h).2.2),?_⟩
     ·have:=VRel.slC (μ:=μ) (H:=fun ad=>w.cell? ad) es a cap (P.cellsOf e) vals (by omega) (by unfold LLim;omega) (fun el hel'=>(g3 el hel').2.1) g4.len g4.one g5 g4.at_
      rw [g1] at this
      exact this
     ·rw [List.take_of_length_le (by simp;omega)] at g6
      simp only [bulkVs,bulkV,Rows.uptoBulk]
      omega
   case struct fs=>
    simp only [Bool.and_eq_true,beq_iff_eq] at hpl
    obtain ⟨hfT,hlay⟩:=hpl
    obtain ⟨xs,m,hm,rfl,hcs,hxl,hf⟩:=DataW.trod_struct hu h
    cases hm
    simp only [Rows.uptoBulk] at hb
    obtain ⟨_,vs,r1,r2,r3⟩:=read_fields (P:=P) (μ:=μ) (Hc:=fun ad=>w.cell? ad) (cs:=cs) fs.toList 0 (P.cellsOf t) (xs.map (·.1)) hlay hcs (by simp [hxl]) (fun i f d hfi hdi=>by
     have hfi':fs[i]? = some f:=by rw [<-Array.getElem?_toList];exact hfi
     have h1:=hf i f hfi'
     rw [List.getElem?_map] at hdi
     cases hx:xs[i]? with
     | none=>rw [hx] at hdi;cases hdi
     | some y=>
      rw [hx] at hdi h1
      cases hdi
      have hmem:y.1∈xs.map (·.1):=List.mem_map.2 ⟨y,List.mem_of_getElem? hx,rfl⟩
      have:=bulkAll_mem hmem
      have hft:f.type∈T:=by
       have:=List.all_eq_true.1 hfT f (List.mem_of_getElem? hfi)
       simpa using this
      exact ih f.type _ y hft h1 (by omega))
    rw [List.drop_zero] at r1
    refine ⟨vs,r1,.st t fs vs hu (by rw [r1.len,hcs]) (fun f hf'=>by simpa using r2 [] rfl f hf'),?_⟩
    simp only [Rows.uptoBulk]
    omega
end
end Go.Ir
end
section
namespace Go.Ir
open Go.RowKit Go.ChangeShapes Go.WideShapes
section
variable {H : Type} {enc : TypeId × Value → H} {P : Program} {W W' : World}
theorem trodAll_stays (hl:laidOutB P=true) (hb:Below W.heap.size W W') {sp:Nat->Bool}:∀(ts:List TypeId) (vs:List Value) (ds:List (DataW H)) (ps:List MemPlace),(∀t∈ts,P.readableRec t=true/\t<P.types.size)->
  DataW.TrodAll enc P W 0 (fun _=>true) true ts vs ds ps->(∀x∈ps,x.block<W.heap.size)->(∀x∈ps,sp x.block=true)->DataW.TrodAll enc P W' 0 sp true ts vs ds ps
 | [],vs,ds,ps,_,h,_,_=>by
  obtain ⟨rfl,rfl,rfl⟩:=trodAll_nil h
  exact trodAll_mk0
 | t::ts,vs,ds,ps,hts,h,hlt,hsp=>by
  obtain ⟨v,vs',d,ds',p,q,rfl,rfl,rfl,h1,h2⟩:=trodAll_cons h
  obtain ⟨hr,hrow⟩:=hts t (by simp)
  refine trodAll_cons_mk (WideElems.Trod_stays hl hr hrow h1 (fun x hx=>hb.same (hlt x (by simp [hx]))) (fun x hx=>hsp x (by simp [hx]))) (trodAll_stays hl hb ts vs' ds' q (fun t' ht'=>hts t' (by simp [ht'])) h2 (fun x hx=>hlt x (by simp [hx])) (fun x hx=>hsp x (by simp [hx])))
theorem post_true {f:Func} {s:ChangeSpec} {apart fresh handsOn again:Bool} {args:Array Value} {ds gs:List (DataW H)} {before:List MemPlace} {tb:TypeId}
  (hl:laidOutB P=true) (hts:∀t∈f.params.toList,P.readableRec t=true/\t<P.types.size) (hrt:f.resultTypes = #[tb]) (htb:P.underlying tb=some .bool) (hv:s.vars=[])
  (hfn:s.fn H (ds++gs)={ results:=[.lit (.bool true)],args:=ds })
  (hW:DataW.Whole enc P f.params.toList s.vars apart W args.toList ds gs before) (hb:Below W.heap.size W W'):s.post enc P f apart fresh handsOn again W args (.bool true) W':=by
 have hlt:∀p∈before,p.block<W.heap.size:=fun p hp=>hW.lt p hp
 have hW':=hW
 obtain ⟨p,q,hA,hV,rfl,hz,hn⟩:=hW
 rw [hv] at hV
 obtain ⟨rfl,rfl⟩:=trodVars_none hV
 simp only [List.append_nil] at *
 have hold:∀x∈p,(fun b=>decide (b<W.heap.size)) x.block=true:=fun x hx=>by simpa using hlt x hx
 have hargs:∀sp:Nat->Bool,(∀x∈p,sp x.block=true)->DataW.TrodAll enc P W' 0 sp true f.params.toList args.toList ds p:=fun sp hsp=>trodAll_stays hl hb _ _ _ _ hts hA hlt hsp
 have hres:∀(b:Nat) (sp:Nat->Bool) (hd:Bool),DataW.TrodAll enc P W' b sp hd f.resultTypes.toList ((Value.bool true).resultList f.resultTypes.size) [.lit (.bool true)] []:=by
  intro b sp hd
  rw [hrt]
  exact trodAll_cons_mk (p:=[]) (p':=[]) (shut_bool htb _) trodAll_mk0
 refine ⟨ds,[],p,[],p,[],hW',?_,?_,?_,World.keptBut_mono (fun x hx=>⟨hx,.inr (.inl hx)⟩) (hb.frame _),fun _=>?_⟩
 ·rw [List.append_nil,hfn];exact hres _ _ _
 ·rw [List.append_nil,hfn];exact hargs _ hold
 ·rw [hv,List.append_nil,hfn];rfl
 ·refine ⟨ok_one hrt rfl (okWide_bool_mk htb _),.lit (.bool true)::ds,[],p,⟨p,[],?_,by rw [hv];rfl,by simp,?_,?_⟩,fun x hx _=>hx⟩
  ·rw [hrt]
   exact trodAll_cons_mk (p:=[]) (shut_bool htb _) (hargs _ (fun _ _=>rfl))
  ·intro b off hp
   have:=hlt _ hp
   have hfz:=hb.frozen (p:=⟨b,off,none⟩) this
   rw [hfz]
   exact hz b off (by simpa using hp)
  ·intro ha;exact hn ha
theorem Hp.start (W:World) (n:Nat):Hp W [] n (fun _=>none) (fun ad=>W.cell? ad) W where
 base:=Below.refl _ _
 pins _ _ h:=h
 ents _ _ h:=by simp [lk] at h
 unp bk ho:=by obtain ⟨id,e,h,_⟩:=ho;simp [lk] at h
 sep _ _ _ _ _ h:=by simp [lk] at h
 bd _ _:=rfl
theorem calls_true {f:FuncId} {args:List V} {vals:List Value} (h:RetS P W f args [] (.b true) []) (hv:VRels (fun _=>none) (fun ad=>W.cell? ad) args vals) :
  Calls P f vals.toArray W fun e W'=>e = .returned (.bool true)/\Below W.heap.size W W':=
 (h.run 0 W _ _ vals (Hp.start W 0) hv).mono fun e W' ⟨val,μ',H',n',he,hr,hp,_⟩=>⟨by rw [he,hr.b_inv],hp.base⟩
end
end Go.Ir
end
section
namespace Go.Ir
open Go.Proofs
section
variable {P : Program}
theorem WtV.int_inv {t:TypeId} {k:IntKind} {v:V} (h:WtV P t [v]) (ht:P.underlying t=some (.int k)):∃n,v = .i k n/\(Lit.int k n).wf=true:=by
 cases h with
 | int _ k' n h hw=>rw [ht] at h;cases h;exact ⟨n,rfl,hw⟩
 | bool _ b h=>rw [ht] at h;cases h
 | str _ l h=>rw [ht] at h;cases h
 | sl _ e es h _ _ _=>rw [ht] at h;cases h
 | st _ fs vs h _ _=>rw [ht] at h;cases h
theorem WtV.str_inv {t:TypeId} {v:V} (h:WtV P t [v]) (ht:P.underlying t=some .string):∃l,v = .s l:=by
 cases h with
 | int _ k' n h hw=>rw [ht] at h;cases h
 | bool _ b h=>rw [ht] at h;cases h
 | str _ l h=>exact ⟨l,rfl⟩
 | sl _ e es h _ _ _=>rw [ht] at h;cases h
 | st _ fs vs h _ _=>rw [ht] at h;cases h
theorem WtV.sl_inv {t e:TypeId} {v:V} (h:WtV P t [v]) (ht:P.underlying t=some (.slice e)):∃es,v = .sl es/\(∀el∈es,∃c,el=mkEl ((aggT P e).getD false) c/\cells el=c)/\(∀el∈es,(cells el).length=P.cellsOf e)/\(∀el∈es,WtV P e (cells el)):=by
 cases h with
 | int _ k' n h hw=>rw [ht] at h;cases h
 | bool _ b h=>rw [ht] at h;cases h
 | str _ l h=>rw [ht] at h;cases h
 | sl _ e' es h h1 h2 h3=>rw [ht] at h;cases h;exact ⟨es,rfl,h1,h2,h3⟩
 | st _ fs vs h _ _=>rw [ht] at h;cases h
theorem WtV.st_inv {t:TypeId} {fs:Array Field} {vs:List V} (h:WtV P t vs) (ht:P.underlying t=some (.struct fs)):vs.length=P.cellsOf t/\∀f∈fs.toList,WtV P f.type ((vs.drop f.offset).take (P.cellsOf f.type)):=by
 cases h with
 | int _ k' n h hw=>rw [ht] at h;cases h
 | bool _ b h=>rw [ht] at h;cases h
 | str _ l h=>rw [ht] at h;cases h
 | sl _ e' es h h1 h2 h3=>rw [ht] at h;cases h
 | st _ fs' vs h h1 h2=>rw [ht] at h;cases h;exact ⟨h1,h2⟩
end
theorem len2 {l:List V} (h:l.length=2):∃a b,l=[a,b]:=by
 match l,h with
 | [a,b],_=>exact ⟨a,b,rfl⟩
theorem len6 {l:List V} (h:l.length=6):∃a b c d e f,l=[a,b,c,d,e,f]:=by
 match l,h with
 | [a,b,c,d,e,f],_=>exact ⟨a,b,c,d,e,f,rfl⟩
theorem c9:Tryz.prog.cellsOf 9=1:=by kernel_rfl
theorem c3:Tryz.prog.cellsOf 3=1:=by kernel_rfl
theorem c31:Tryz.prog.cellsOf 31=1:=by kernel_rfl
theorem c50:Tryz.prog.cellsOf 83=1:=by kernel_rfl
theorem c52:Tryz.prog.cellsOf 85=6:=by kernel_rfl
theorem c54:Tryz.prog.cellsOf 97=2:=by kernel_rfl
theorem a52:aggT Tryz.prog 85=some true:=by kernel_rfl
theorem a54:aggT Tryz.prog 97=some true:=by kernel_rfl
theorem parts_of:∀(N:Nat) (v:V),bulkV v<=N->WtV Tryz.prog 31 [v]->∃ps,v = .sl (encPs ps)/\wtPs ps<=bulkV v:=by
 intro N
 induction N with
 | zero=>intro v h;cases v<;>simp [bulkV] at h<;>intro hw<;>obtain ⟨es,he,_⟩:=hw.sl_inv Tryz.underlying31<;>cases he
 | succ N ih=>
  intro v hN hw
  obtain ⟨es,rfl,h1,h2,h3⟩:=hw.sl_inv Tryz.underlying31
  rw [a52] at h1
  simp only [Option.getD_some] at h1
  simp only [bulkV] at hN⊢
  have hcs:∀v:V,bulkV v<=N->WtV Tryz.prog 83 [v]->∃cs,v = .sl (encCs cs)/\wtCs cs<=bulkV v:=by
   intro v hv hw
   obtain ⟨es,rfl,h1,h2,h3⟩:=hw.sl_inv Tryz.underlying83
   rw [a54] at h1
   simp only [Option.getD_some] at h1
   simp only [bulkV] at hv⊢
   have:∃cs,es=encCs cs/\wtCs cs<=bulkVs es:=by
    clear hw
    induction es with
    | nil=>exact ⟨[],by simp [encCs],by simp [wtCs]⟩
    | cons el es ihe=>
     simp only [bulkVs] at hv⊢
     obtain ⟨cs,hcs,hcw⟩:=ihe (by omega) (fun x hx=>h1 x (List.mem_cons_of_mem _ hx)) (fun x hx=>h2 x (List.mem_cons_of_mem _ hx)) (fun x hx=>h3 x (List.mem_cons_of_mem _ hx))
     obtain ⟨c,rfl,_⟩:=h1 el (by simp)
     have hst:=h3 (mkEl true c) (by simp)
     have hc:cells (mkEl true c)=c:=rfl
     rw [hc] at hst
     obtain ⟨hl,hf⟩:=hst.st_inv Tryz.underlying97
     rw [c54] at hl
     obtain ⟨x0,x1,rfl⟩:=len2 hl
     have f0:=hf _ (by exact List.mem_cons_self)
     have f1:=hf _ (by exact List.mem_cons_of_mem _ List.mem_cons_self)
     simp only [c9,c31,List.drop_zero,List.drop_succ_cons,List.take_succ_cons,List.take_zero] at f0 f1
     obtain ⟨k,rfl⟩:=f0.str_inv Tryz.underlying9
     have hb:bulkV (mkEl true [.s k,x1])=k.length+1+bulkV x1:=by simp [mkEl,bulkV,bulkVs]
     rw [hb] at hv⊢
     obtain ⟨ps,rfl,hpw⟩:=ih x1 (by omega) f1
     refine ⟨(k,ps)::cs,by rw [hcs];simp [encCs,mkEl],?_⟩
     rw [wtCs_cons]
     simp only
     omega
   obtain ⟨cs,rfl,hw⟩:=this
   exact ⟨cs,rfl,by omega⟩
  have:∃ps,es=encPs ps/\wtPs ps<=bulkVs es:=by
   clear hw
   induction es with
   | nil=>exact ⟨[],by simp [encPs],by simp [wtPs]⟩
   | cons el es ihe=>
    simp only [bulkVs] at hN⊢
    obtain ⟨ps,hps,hpw⟩:=ihe (by omega) (fun x hx=>h1 x (List.mem_cons_of_mem _ hx)) (fun x hx=>h2 x (List.mem_cons_of_mem _ hx)) (fun x hx=>h3 x (List.mem_cons_of_mem _ hx))
    obtain ⟨c,rfl,_⟩:=h1 el (by simp)
    have hst:=h3 (mkEl true c) (by simp)
    have hc:cells (mkEl true c)=c:=rfl
    rw [hc] at hst
    obtain ⟨hl,hf⟩:=hst.st_inv Tryz.underlying85
    rw [c52] at hl
    obtain ⟨x0,x1,x2,x3,x4,x5,rfl⟩:=len6 hl
    have f0:=hf _ (by exact List.mem_cons_self)
    have f1:=hf _ (by exact List.mem_cons_of_mem _ List.mem_cons_self)
    have f2:=hf _ (by exact List.mem_cons_of_mem _ (List.mem_cons_of_mem _ List.mem_cons_self))
    have f3:=hf _ (by exact List.mem_cons_of_mem _ (List.mem_cons_of_mem _ (List.mem_cons_of_mem _ List.mem_cons_self)))
    have f4:=hf _ (by exact List.mem_cons_of_mem _ (List.mem_cons_of_mem _ (List.mem_cons_of_mem _ (List.mem_cons_of_mem _ List.mem_cons_self))))
    have f5:=hf _ (by exact List.mem_cons_of_mem _ (List.mem_cons_of_mem _ (List.mem_cons_of_mem _ (List.mem_cons_of_mem _ (List.mem_cons_of_mem _ List.mem_cons_self)))))
    simp only [c9,c31,c3,c50,List.drop_zero,List.drop_succ_cons,List.take_succ_cons,List.take_zero] at f0 f1 f2 f3 f4 f5
    obtain ⟨k,rfl,hk⟩:=f0.int_inv Tryz.underlying3
    obtain ⟨t,rfl⟩:=f1.str_inv Tryz.underlying9
    obtain ⟨n,rfl⟩:=f2.str_inv Tryz.underlying9
    obtain ⟨s,rfl⟩:=f3.str_inv Tryz.underlying9
    have hb:bulkV (mkEl true [.i .i64 k,.s t,.s n,.s s,x4,x5])=1+(t.length+1)+(n.length+1)+(s.length+1)+bulkV x4+bulkV x5:=by simp [mkEl,bulkV,bulkVs];omega
    rw [hb] at hN⊢
    obtain ⟨cs,rfl,hcw⟩:=hcs x4 (by omega) f4
    obtain ⟨qs,rfl,hqw⟩:=ih x5 (by omega) f5
    refine ⟨⟨k,t,n,s,cs,qs⟩::ps,by rw [hps];simp [encPs,Part.enc,mkEl],?_⟩
    rw [wtPs_cons,Part.wt_eq]
    simp only
    omega
  obtain ⟨ps,rfl,hw'⟩:=this
  exact ⟨ps,rfl,by omega⟩
end Go.Ir
end
section
namespace Go.Ir
open Go.Proofs
def sumW {α:Type} (w:α->Nat):List α->Nat
 | []=>0
 | x::xs=>w x+sumW w xs
theorem list_of {α:Type} {G:V->Prop} (enc:α->V) (w:α->Nat) (hel:∀el,G el->∃x,el=enc x/\w x<=bulkV el):∀es,(∀el∈es,G el)->∃xs,es=xs.map enc/\sumW w xs<=bulkVs es:=by
 intro es
 induction es with
 | nil=>intro _;exact ⟨[],rfl,by simp [sumW]⟩
 | cons e es ih=>
  intro h
  obtain ⟨xs,h1,h2⟩:=ih fun x hx=>h x (by simp [hx])
  obtain ⟨x,h3,h4⟩:=hel e (h e (by simp))
  exact ⟨x::xs,by rw [h1,h3];rfl,by simp only [sumW,bulkVs];omega⟩
section
variable {P : Program}
theorem slice_of {α:Type} {t e:TypeId} {v:V} (h:WtV P t [v]) (ht:P.underlying t=some (.slice e)) (ha:aggT P e=some true) (enc:α->V) (w:α->Nat) (hel:∀c,WtV P e c->∃x,V.agg c=enc x/\w x<=bulkVs c) :
  ∃xs:List α,v = .sl (xs.map enc)/\sumW w xs+1<=bulkV v:=by
 obtain ⟨es,rfl,h1,h2,h3⟩:=h.sl_inv ht
 rw [ha] at h1
 obtain ⟨xs,hx,hw⟩:=list_of (G:=fun el=>∃c,el=V.agg c/\WtV P e c) enc w (fun el ⟨c,hc,hwt⟩=>by
  subst hc
  obtain ⟨x,hx,hwx⟩:=hel c hwt
  exact ⟨x,hx,by simpa [bulkV] using hwx⟩) es fun el hm=>by
  obtain ⟨c,hc,hcc⟩:=h1 el hm
  have:=h3 el hm
  rw [hcc] at this
  exact ⟨c,hc,this⟩
 exact ⟨xs,by rw [hx],by simp only [bulkV];omega⟩
theorem slice_of1 {α:Type} {t e e2:TypeId} {v:V} (h:WtV P t [v]) (ht:P.underlying t=some (.slice e)) (he:P.underlying e=some (.slice e2)) (ha:aggT P e=some false) (hc1:P.cellsOf e=1) (enc:α->V) (w:α->Nat) (hel:∀v,WtV P e [v]->∃x,v=enc x/\w x<=bulkV v) :
  ∃xs:List α,v = .sl (xs.map enc)/\sumW w xs+1<=bulkV v:=by
 obtain ⟨es,rfl,h1,h2,h3⟩:=h.sl_inv ht
 rw [ha] at h1
 obtain ⟨xs,hx,hw⟩:=list_of (G:=fun el=>WtV P e [el]) enc w hel es fun el hm=>by
  obtain ⟨c,hc,hcc⟩:=h1 el hm
  have h4:=h3 el hm
  have h5:=h2 el hm
  rw [hcc] at h4 h5
  rw [hc1] at h5
  match c,h5 with
  | [x],_=>
   have:el=x:=hc
   rw [this];exact h4
 exact ⟨xs,by rw [hx],by simp only [bulkV];omega⟩
theorem WtV.bool_inv {t:TypeId} {v:V} (h:WtV P t [v]) (ht:P.underlying t=some .bool):∃b,v = .b b:=by
 cases h with
 | int _ k' n h hw=>rw [ht] at h;cases h
 | bool _ b h=>exact ⟨b,rfl⟩
 | str _ l h=>rw [ht] at h;cases h
 | sl _ e es h _ _ _=>rw [ht] at h;cases h
 | st _ fs vs h _ _=>rw [ht] at h;cases h
end
theorem len4 {l:List V} (h:l.length=4):∃a b c d,l=[a,b,c,d]:=by
 match l,h with
 | [a,b,c,d],_=>exact ⟨a,b,c,d,rfl⟩
theorem len16 {l:List V} (h:l.length=16):∃a b c d e r,l=a::b::c::d::e::r/\r.length=11:=by
 match l,h with
 | a::b::c::d::e::r,h=>exact ⟨a,b,c,d,e,r,rfl,by simpa using h⟩
theorem sum1 {α:Type} (xs:List α):sumW (fun _=>1) xs=xs.length:=by
 induction xs with
 | nil=>rfl
 | cons x xs ih=>simp only [sumW,ih,List.length_cons];omega
theorem cSpan:Tryz.prog.cellsOf 148=2:=by kernel_rfl
theorem cRel:Tryz.prog.cellsOf 151=4:=by kernel_rfl
theorem cRule:Tryz.prog.cellsOf 156=2:=by kernel_rfl
theorem cRels:Tryz.prog.cellsOf 152=1:=by kernel_rfl
theorem cSpans:Tryz.prog.cellsOf 149=1:=by kernel_rfl
theorem cCond:Tryz.prog.cellsOf 154=1:=by kernel_rfl
theorem cRules:Tryz.prog.cellsOf 22=1:=by kernel_rfl
theorem cBool:Tryz.prog.cellsOf 4=1:=by kernel_rfl
theorem cLoc:Tryz.prog.cellsOf 30=16:=by kernel_rfl
theorem aSpan:aggT Tryz.prog 148=some true:=by kernel_rfl
theorem aRel:aggT Tryz.prog 151=some true:=by kernel_rfl
theorem aRels:aggT Tryz.prog 152=some false:=by kernel_rfl
theorem aRule:aggT Tryz.prog 156=some true:=by kernel_rfl
theorem span_of (c:List V) (h:WtV Tryz.prog 148 c):∃x:Span,V.agg c=x.enc/\1<=bulkVs c:=by
 obtain ⟨hl,hf⟩:=h.st_inv Tryz.underlying148
 rw [cSpan] at hl
 obtain ⟨x0,x1,rfl⟩:=len2 hl
 have f0:=hf _ (by exact List.mem_cons_self)
 have f1:=hf _ (by exact List.mem_cons_of_mem _ List.mem_cons_self)
 simp only [c3,List.drop_zero,List.drop_succ_cons,List.take_succ_cons,List.take_zero] at f0 f1
 obtain ⟨a,rfl,_⟩:=f0.int_inv Tryz.underlying3
 obtain ⟨b,rfl,_⟩:=f1.int_inv Tryz.underlying3
 exact ⟨⟨a,b⟩,rfl,by simp [bulkVs,bulkV]⟩
theorem rel_of (c:List V) (h:WtV Tryz.prog 151 c):∃x:Rel,V.agg c=x.enc/\x.wt<=bulkVs c:=by
 obtain ⟨hl,hf⟩:=h.st_inv Tryz.underlying151
 rw [cRel] at hl
 obtain ⟨x0,x1,x2,x3,rfl⟩:=len4 hl
 have f0:=hf _ (by exact List.mem_cons_self)
 have f1:=hf _ (by exact List.mem_cons_of_mem _ List.mem_cons_self)
 have f2:=hf _ (by exact List.mem_cons_of_mem _ (List.mem_cons_of_mem _ List.mem_cons_self))
 have f3:=hf _ (by exact List.mem_cons_of_mem _ (List.mem_cons_of_mem _ (List.mem_cons_of_mem _ List.mem_cons_self)))
 simp only [c3,cBool,cSpans,List.drop_zero,List.drop_succ_cons,List.take_succ_cons,List.take_zero] at f0 f1 f2 f3
 obtain ⟨a,rfl,_⟩:=f0.int_inv Tryz.underlying3
 obtain ⟨b,rfl,_⟩:=f1.int_inv Tryz.underlying3
 obtain ⟨n,rfl⟩:=f2.bool_inv Tryz.underlying4
 obtain ⟨xs,rfl,hw⟩:=slice_of f3 Tryz.underlying149 aSpan Span.enc (fun _=>1) span_of
 rw [sum1] at hw
 refine ⟨⟨a,b,n,xs⟩,rfl,?_⟩
 simp only [bulkVs,bulkV] at hw⊢
 unfold Rel.wt
 simp only;omega
theorem sum_rels (xs:List Rel):wtRels xs=sumW Rel.wt xs+1:=by
 induction xs with
 | nil=>rfl
 | cons x xs ih=>simp only [sumW,wtRels,ih];omega
theorem sum_cond (xs:List (List Rel)):wtCond xs=sumW wtRels xs:=by
 induction xs with
 | nil=>rfl
 | cons x xs ih=>simp only [sumW,wtCond,ih]
theorem sum_rules (xs:List Rule):wtRules xs=sumW Rule.wt xs:=by
 induction xs with
 | nil=>rfl
 | cons x xs ih=>simp only [sumW,wtRules,ih]
theorem rels_of (v:V) (h:WtV Tryz.prog 152 [v]):∃x:List Rel,v=relsV x/\wtRels x<=bulkV v:=by
 obtain ⟨xs,rfl,hw⟩:=slice_of h Tryz.underlying152 aRel Rel.enc Rel.wt rel_of
 exact ⟨xs,rfl,by rw [sum_rels];exact hw⟩
theorem rule_of (c:List V) (h:WtV Tryz.prog 156 c):∃x:Rule,V.agg c=x.enc/\x.wt<=bulkVs c:=by
 obtain ⟨hl,hf⟩:=h.st_inv Tryz.underlying156
 rw [cRule] at hl
 obtain ⟨x0,x1,rfl⟩:=len2 hl
 have f0:=hf _ (by exact List.mem_cons_self)
 have f1:=hf _ (by exact List.mem_cons_of_mem _ List.mem_cons_self)
 simp only [c9,cCond,List.drop_zero,List.drop_succ_cons,List.take_succ_cons,List.take_zero] at f0 f1
 obtain ⟨a,rfl⟩:=f0.str_inv Tryz.underlying9
 obtain ⟨xs,rfl,hw⟩:=slice_of1 f1 Tryz.underlying154 Tryz.underlying152 aRels cRels relsV wtRels rels_of
 refine ⟨⟨a,xs⟩,rfl,?_⟩
 unfold Rule.wt
 rw [sum_cond]
 simp only [bulkVs,bulkV] at hw⊢
 omega
theorem loc_of (c:List V) (h:WtV Tryz.prog 30 c):∃l:Loc,V.agg c=l.enc/\l.rest.length=11/\wtRules l.card+wtRules l.ord<=bulkVs c:=by
 obtain ⟨hl,hf⟩:=h.st_inv Tryz.underlying30
 rw [cLoc] at hl
 obtain ⟨x0,x1,x2,x3,x4,r,rfl,hr⟩:=len16 hl
 have f0:=hf _ (by exact List.mem_cons_self)
 have f1:=hf _ (by exact List.mem_cons_of_mem _ List.mem_cons_self)
 have f2:=hf _ (by exact List.mem_cons_of_mem _ (List.mem_cons_of_mem _ List.mem_cons_self))
 have f3:=hf _ (by exact List.mem_cons_of_mem _ (List.mem_cons_of_mem _ (List.mem_cons_of_mem _ List.mem_cons_self)))
 have f4:=hf _ (by exact List.mem_cons_of_mem _ (List.mem_cons_of_mem _ (List.mem_cons_of_mem _ (List.mem_cons_of_mem _ List.mem_cons_self))))
 simp only [c9,cRules,List.drop_zero,List.drop_succ_cons,List.take_succ_cons,List.take_zero] at f0 f1 f2 f3 f4
 obtain ⟨a,rfl⟩:=f0.str_inv Tryz.underlying9
 obtain ⟨b,rfl⟩:=f1.str_inv Tryz.underlying9
 obtain ⟨d,rfl⟩:=f2.str_inv Tryz.underlying9
 obtain ⟨xs,rfl,hw⟩:=slice_of f3 Tryz.underlying22 aRule Rule.enc Rule.wt rule_of
 obtain ⟨ys,rfl,hw2⟩:=slice_of f4 Tryz.underlying22 aRule Rule.enc Rule.wt rule_of
 refine ⟨⟨a,b,d,xs,ys,r⟩,rfl,hr,?_⟩
 simp only [sum_rules]
 simp only [bulkVs,bulkV] at hw hw2⊢
 omega
end Go.Ir
end
namespace Go.Ir
open Go.Proofs
variable (W0 : World)
theorem eqPs_self:∀(N:Nat),(∀ps,wtPs ps<N->eqPs ps ps=true)/\(∀cs,wtCs cs<N->eqCs cs cs=true):=by
 intro N
 induction N with
 | zero=>exact ⟨fun _ h=>by omega,fun _ h=>by omega⟩
 | succ N ih=>
  have h1:∀ps,wtPs ps<N+1->eqPs ps ps=true:=by
   intro ps
   induction ps with
   | nil=>intro _;simp [eqPs]
   | cons p ps ih2=>
    intro h;rw [wtPs_cons] at h
    have hp:=p.wt_eq
    rw [eqPs_cons,p.eqB_eq,ih2 (by omega),ih.1 p.parts (by omega),ih.2 p.cases (by omega)];simp
  refine ⟨h1,fun cs=>?_⟩
  induction cs with
  | nil=>intro _;simp [eqCs]
  | cons c cs ih2=>
   intro h;rw [wtCs_cons] at h
   rw [eqCs_cons,h1 c.2 (by omega),ih2 (by omega)];simp
def TRs:Nat:=110
def sS (lo:Option Id) (L:List Sel):Sto:=match lo with
 | none=>[]
 | some id=>[(id,.arr TRs 3 (L.map Sel.enc))]
theorem eqPs_refl (ps:List Part):eqPs ps ps=true:=(eqPs_self _).1 ps (Nat.lt_succ_self _)
set_option maxHeartbeats 4000000 in
theorem c_SameForm (f:FormP) (h1:f.1.length<=2^30) (h2:f.2.length<=2^30) (hk:∀s∈f.1,s.keys.length<=2^30) (hw:∀v∈f.2,wtPs v<=2^24):RetS Tryz.prog W0 18 [formV f,formV f] [] (.b true) []:=by
 obtain ⟨L,VS⟩:=f
 simp only at h1 h2 hk hw
 unfold formV
 simp only
 refine fn_retW (vs:=[.b true]) f18ok (by simp) (by simp) fun n0 hn0=>?_
 clear hn0
 generalize hU:V.agg [.sl (L.map Sel.enc),.sl (VS.map vEnc)]=U
 simp only [push_cast,seval,reduceEqDiff,bne_self_eq_false,List.length_map,<-hU]
 intros
 refine aWP_loopW L.length (Inv:=fun m st=>∃done rest n,L=done++rest/\m=rest.length/\n0<n/\st=⟨[(2,.ref (n0,2) 0),(3,.ref (n0,3) 0),(5,.i .i64 done.length)],[((n0,3),.box (.agg [.sl (L.map Sel.enc),.sl (VS.map vEnc)])),((n0,2),.box (.agg [.sl (L.map Sel.enc),.sl (VS.map vEnc)]))],n⟩) ⟨_,StLe.refl,[],L,_,rfl,rfl,by (try simp only);omega,rfl⟩ ?_
 rintro m _ ⟨done,rest,n,hz,rfl,hn,rfl⟩
 cases rest with
 | nil=>
  have hlt0:decide ((done.length:Int)<(L.length:Int))=false:=by rw [hz];simp
  simp only [push_cast,seval,reduceEqDiff,hlt0,List.length_map]
  intros
  refine aWP_loopW VS.length (Inv:=fun m st=>∃vd vr n,VS=vd++vr/\m=vr.length/\st=⟨[(2,.ref (n0,2) 0),(3,.ref (n0,3) 0),(9,.i .i64 vd.length)],[((n0,3),.box (.agg [.sl (L.map Sel.enc),.sl (VS.map vEnc)])),((n0,2),.box (.agg [.sl (L.map Sel.enc),.sl (VS.map vEnc)]))],n⟩) ⟨_,StLe.refl,[],VS,_,rfl,rfl,rfl⟩ ?_
  rintro m _ ⟨vd,vr,n2,hvz,rfl,rfl⟩
  cases vr with
  | nil=>
   have hlt1:decide ((vd.length:Int)<(VS.length:Int))=false:=by rw [hvz];simp
   simp only [push_cast,seval,reduceEqDiff,hlt1,List.length_map]
   intros
   exact finW_ret (by simp [get])
  | cons v vr=>
   have hlt1:decide ((vd.length:Int)<(VS.length:Int))=true:=by rw [hvz];simp;omega
   have hvb:=zip_bd hvz
   have hget:(VS.map vEnc)[vd.length]? = some (.sl (v.map Part.enc)):=by
    rw [hvz,List.getElem?_map,List.getElem?_append_right (by simp)];simp [vEnc]
   have heq:=c_rEqual W0 _ v v (Nat.lt_succ_self _) (hw v (by rw [hvz];simp))
   rw [eqPs_refl] at heq
   simp only [push_cast,seval,reduceEqDiff,hlt1,hget,if_pos hvb,wrap_zip v (done:=vd) (by omega),List.length_map]
   repeat' (first|(((first|apply condU_s|apply gdU_t|apply gdU_f)<;>intro _h)<;>simp only [push_cast,seval,reduceEqDiff,_h,hlt1,hget,if_pos hvb,wrap_zip v (done:=vd) (by omega),List.length_map])|(refine c_call (by exact heq) ?_;simp only [push_cast,seval,reduceEqDiff,hlt1,hget,if_pos hvb,wrap_zip v (done:=vd) (by omega),List.length_map])|intro _)
   exact ⟨_,_,Nat.lt_succ_self _,StLe.refl,vd++[v],vr,_,by rw [hvz];simp,rfl,rfl⟩
 | cons s rest=>
  have hlt0:decide ((done.length:Int)<(L.length:Int))=true:=by rw [hz];simp;omega
  have hbd:=zip_bd hz
  have hks:=hk s (by rw [hz];simp)
  have hget:(L.map Sel.enc)[done.length]? = some s.enc:=by rw [hz,List.getElem?_map,List.getElem?_append_right (by simp)];simp
  have f1:∀k j q:Nat,((n+1+k,j)=(n0,q))=False:=fun k j q=>eq_false fun he=>by injection he with h1 h2;omega
  have f1':∀k j q:Nat,((n0,q)=(n+1+k,j))=False:=fun k j q=>eq_false fun he=>of_eq_false (f1 k j q) he.symm
  have hbs:∀b:Bytes,(b == b)=true:=fun b=>by simp
  simp only [push_cast,seval,reduceEqDiff,hlt0,hget,if_pos hbd,List.length_map,f1,f1',bne_self_eq_false,hbs,wrap_zip s (done:=done) (by omega)]
  intros
  rename_i b1 b2 b3 b4
  have hm:n<n+1+b1/\n+1+b1<n+1+b1+1+b2+1+b3+1+b4:=by omega
  generalize n+1+b1+1+b2+1+b3+1+b4=n4 at *
  generalize n+1+b1=x0 at *
  have g1:∀j q:Nat,((x0,j)=(n0,q))=False:=fun j q=>eq_false fun he=>by injection he with h1 h2;omega
  have g1':∀j q:Nat,((n0,q)=(x0,j))=False:=fun j q=>eq_false fun he=>of_eq_false (g1 j q) he.symm
  refine aWP_loopW s.keys.length (Inv:=fun m st=>∃kd kr n,s.keys=kd++kr/\m=kr.length/\x0<n/\st=⟨[(2,.ref (n0,2) 0),(3,.ref (n0,3) 0),(5,.i .i64 done.length),(6,.ref (x0,6) 0),(7,.ref (x0,7) 0),(8,.i .i64 kd.length)],[((x0,7),.box (.agg [.i .i64 s.kind,.s s.name,.sl (s.keys.map V.s)])),((x0,6),.box (.agg [.i .i64 s.kind,.s s.name,.sl (s.keys.map V.s)])),((n0,3),.box (.agg [.sl (L.map Sel.enc),.sl (VS.map vEnc)])),((n0,2),.box (.agg [.sl (L.map Sel.enc),.sl (VS.map vEnc)]))],n⟩) ⟨_,StLe.refl,[],s.keys,_,rfl,rfl,hm.2,rfl⟩ ?_
  rintro m _ ⟨kd,kr,n5,hkz,rfl,hn5,rfl⟩
  cases kr with
  | nil=>
   have hlt1:decide ((kd.length:Int)<(s.keys.length:Int))=false:=by rw [hkz];simp
   simp only [push_cast,seval,reduceEqDiff,hlt1,List.length_map,g1,g1',wrap_zip s (done:=done) (by omega)]
   intros
   refine ⟨_,_,Nat.lt_succ_self _,StLe.drop (σ':=[((n0,3),.box (.agg [.sl (L.map Sel.enc),.sl (VS.map vEnc)])),((n0,2),.box (.agg [.sl (L.map Sel.enc),.sl (VS.map vEnc)]))]) (fun i e h=>?_) (Nat.le_refl _),done++[s],rest,_,by rw [hz];simp,rfl,by omega,rfl⟩
   exact lk_drop1 (by simp [lk,g1']) i e (lk_drop1 (by simp [lk,g1']) i e h)
  | cons key kr=>
   have hlt1:decide ((kd.length:Int)<(s.keys.length:Int))=true:=by rw [hkz];simp;omega
   have hkb:=zip_bd hkz
   have hgk:(s.keys.map V.s)[kd.length]? = some (.s key):=by rw [hkz,List.getElem?_map,List.getElem?_append_right (by simp)];simp
   simp only [push_cast,seval,reduceEqDiff,hlt1,hgk,if_pos hkb,List.length_map,g1,g1',bne_self_eq_false,hbs,wrap_zip key (done:=kd) (by omega)]
   intros
   exact ⟨_,_,Nat.lt_succ_self _,StLe.refl,kd++[key],kr,_,by rw [hkz];simp,rfl,by omega,rfl⟩
theorem finBox {W0:World} {nt n s k:Nat} {ag:Bool} {env:Env} {σ:Sto} {id:Id} {u v:V} (h4:get env s = .ref id 0) (hu:lk σ id=some (.box u)) (φ:Id->Option (List V)) (hφ:∀i es,φ i=some es->(∃e sz,lk σ i=some (.arr e sz es))/\i≠id)
  (hv:VLe φ u v) (hl:(cells v).length=(cells u).length) (ho:u.ok=true) (ho':v.ok=true) (hs:sub v 0 k ag=some v):FinW W0 nt [.c s k ag] [v] [] .ret ⟨env,σ,n⟩:=by
 refine ⟨⟨[(s,.ref id 0)],[(id,.box v)],n⟩,StLe.weak φ (fun i es h=>?_) (fun t=>?_) (fun i e' h=>?_) (Nat.le_refl _),⟨⟨id,0,v,by simp [get],by simp [lk],hs⟩,trivial⟩,fun _ _ h=>by cases h⟩
 ·obtain ⟨a,b⟩:=hφ i es h
  exact ⟨a,by simp only [lk];rw [if_neg (fun he=>b he.symm)]⟩
 ·by_cases ht:s=t
  ·subst ht;rw [h4];simp only [get,if_true];exact .refl _
  ·simp only [get,if_neg ht];exact .any _
 ·simp only [lk] at h
  split at h
  ·rename_i he;subst he;cases h
   exact ⟨_,hu,.box _ _ hv hl ho ho'⟩
  ·cases h
theorem vle_form1 {φ:Id->Option (List V)} (L:List Sel) (b:V) (lo:Option Id) (hn:lo=none->L=[]) (hφ:∀id,lo=some id->φ id=some (L.map Sel.enc)):VLe φ (.agg [sv lo,b]) (.agg [.sl (L.map Sel.enc),b]):=by
 refine .agg _ _ rfl fun k c c' h1 h2=>?_
 match k with
 | 0=>
  simp at h1 h2;subst h1 h2
  cases lo with
  | none=>rw [hn rfl];exact .nil
  | some id=>
   refine .arr id _ _ (hφ id rfl) rfl (fun k c c' h1 h2=>?_) (fun k c c' h1 h2=>?_)
   ·rw [h1] at h2;cases h2;exact .refl _
   ·rw [h1] at h2;cases h2
    obtain ⟨s,_,rfl⟩:=List.mem_map.1 (List.mem_of_getElem? h1)
    exact ⟨rfl,rfl,rfl⟩
 | 1=>simp at h1 h2;subst h1 h2;exact .refl _
 | k+2=>simp at h1
set_option maxHeartbeats 4000000 in
theorem c_formOf (f:FormP) (h1:f.1.length<=2^30):RetS Tryz.prog W0 19 [formV f] [] (formV f) []:=by
 obtain ⟨L,VS⟩:=f
 simp only at h1
 unfold formV
 simp only
 refine fn_retW (vs:=[.agg [.sl (L.map Sel.enc),.sl (VS.map vEnc)]]) f19ok (by simp) (by simp) fun n0 hn0=>?_
 clear hn0
 simp only [push_cast,seval,reduceEqDiff]
 intro k1 k2 k3
 have hm:n0<n0+1+k1/\n0+1+k1<n0+1+k1+1+k2+1+k3:=by omega
 generalize n0+1+k1+1+k2+1+k3=n1 at *
 generalize n0+1+k1=m1 at *
 have f3:∀q j:Nat,((m1,j)=(n0,q))=False:=fun q j=>eq_false fun he=>by injection he with h1 h2;omega
 have f3':∀q j:Nat,((n0,q)=(m1,j))=False:=fun q j=>eq_false fun he=>of_eq_false (f3 q j) he.symm
 refine aWP_loopW L.length (Inv:=fun m st=>∃done rest n lo,L=done++rest/\m=rest.length/\(lo=none->done=[])/\(∀id,lo=some id->m1<id.1/\id.1<n)/\m1<n/\st=⟨[(1,.ref (n0,1) 0),(2,.ref (n0,2) 0),(3,.ref (m1,3) 0),(4,.i .i64 done.length)],((m1,3),.box (.agg [sv lo,.sl (VS.map vEnc)]))::(sS lo done++[((n0,2),.box (.agg [.nil,.nil])),((n0,1),.box (.agg [.sl (L.map Sel.enc),.sl (VS.map vEnc)]))]),n⟩) ⟨_,StLe.refl,[],L,_,none,rfl,rfl,fun _=>rfl,(fun _ h=>by cases h),hm.2,rfl⟩ ?_
 rintro m _ ⟨done,rest,n,lo,hz,rfl,hlo,hld,hmn,rfl⟩
 cases lo with
 | none=>
  have hd0:=hlo rfl
  subst hd0
  have hsv:sv none = .nil:=rfl
  have hss:sS none []=[]:=rfl
  rw [hss,List.nil_append]
  cases rest with
  | nil=>
   rw [List.nil_append] at hz
   subst hz
   simp only [push_cast,seval,reduceEqDiff,f3,f3',hsv,List.map_nil,List.length_nil]
   intros
   exact finBox (id:=(n0,2)) rfl (by simp [lk,f3,sv]) (fun _=>none) (fun _ _ h=>by cases h) (vle_form1 [] _ none (fun _=>rfl) (fun _ h=>by cases h)) rfl rfl rfl rfl
  | cons s rest=>
   have hlt0:decide ((0:Int)<(L.length:Int))=true:=by rw [hz];simp<;>omega
   have hbd:0<L.length:=by rw [hz];simp
   have hget:(L.map Sel.enc)[0]? = some s.enc:=by rw [hz];rfl
   have e1:∀k j q:Nat,((n+1+k,j)=(n0,q))=False:=fun k j q=>eq_false fun he=>by injection he with h1 h2;omega
   have e1':∀k j q:Nat,((n0,q)=(n+1+k,j))=False:=fun k j q=>eq_false fun he=>of_eq_false (e1 k j q) he.symm
   have e2:∀k j q:Nat,((n+1+k,j)=(m1,q))=False:=fun k j q=>eq_false fun he=>by injection he with h1 h2;omega
   have e2':∀k j q:Nat,((m1,q)=(n+1+k,j))=False:=fun k j q=>eq_false fun he=>of_eq_false (e2 k j q) he.symm
   have hw1:IntKind.i64.wrap 1=1:=rfl
   simp only [push_cast,seval,reduceEqDiff,hlt0,hget,if_pos hbd,List.length_map,f3,f3',hsv,List.length_nil,e1,e1',e2,e2',eq_true (show 1<=LLim by decide),hw1]
   intro k1 k2 k3
   refine ⟨_,⟨_,[((m1,3),.box (.agg [.arr (n+1+k1,23),.sl (VS.map vEnc)])),((n+1+k1,23),.arr TRs 3 ([s].map Sel.enc)),((n0,2),.box (.agg [.nil,.nil])),((n0,1),.box (.agg [.sl (L.map Sel.enc),.sl (VS.map vEnc)]))],_⟩,Nat.lt_succ_self _,StLe.sub ?_ ?_ (Nat.le_refl _),[s],rest,_,some (n+1+k1,23),by rw [hz];simp,rfl,(fun h=>by cases h),?_,?_,rfl⟩
   ·simp [e1,e2,f3]
   ·intro p hp
    simp at hp⊢
    rcases hp with h|h|h|h<;>simp [h,TRs,Sel.enc_eq]
   ·intro id h;cases h;exact ⟨by simp only;omega,by simp only;omega⟩
   ·omega
 | some id=>
  obtain ⟨hi1,hi2⟩:=hld id rfl
  have hsv:sv (some id) = .arr id:=rfl
  have hss:sS (some id) done=[(id,.arr TRs 3 (done.map Sel.enc))]:=rfl
  rw [hss]
  have d1:∀k j:Nat,((n+1+k,j)=id)=False:=fun k j=>eq_false fun he=>by rw [<-he] at hi2;simp at hi2;omega
  have d1':∀k j:Nat,(id=(n+1+k,j))=False:=fun k j=>eq_false fun he=>of_eq_false (d1 k j) he.symm
  have d2:∀j:Nat,((m1,j)=id)=False:=fun j=>eq_false fun he=>by rw [<-he] at hi1;simp at hi1
  have d2':∀j:Nat,(id=(m1,j))=False:=fun j=>eq_false fun he=>of_eq_false (d2 j) he.symm
  have d3:∀q:Nat,(id=(n0,q))=False:=fun q=>eq_false fun he=>by rw [he] at hi1;simp at hi1;omega
  have d3':∀q:Nat,((n0,q)=id)=False:=fun q=>eq_false fun he=>of_eq_false (d3 q) he.symm
  cases rest with
  | nil=>
   have hlt0:decide ((done.length:Int)<(L.length:Int))=false:=by rw [hz];simp
   simp only [push_cast,seval,reduceEqDiff,hlt0,f3,f3',hsv,List.length_map,d2,d2',d3,d3',List.cons_append,List.nil_append]
   intros
   rw [List.append_nil] at hz
   subst hz
   refine finBox (id:=(n0,2)) rfl (by simp [lk,f3,d3];rfl) (fun j=>if j=id then some (L.map Sel.enc) else none) (fun j es h=>?_) (vle_form1 L _ (some id) (fun h=>by cases h) (fun i h=>by cases h;simp)) rfl rfl rfl rfl
   split at h
   ·rename_i he;subst he;cases h
    exact ⟨⟨TRs,3,by simp [lk,d2]⟩,fun he=>of_eq_false (d3 _) he⟩
   ·cases h
  | cons s rest=>
   have hlt0:decide ((done.length:Int)<(L.length:Int))=true:=by rw [hz];simp;omega
   have hbd:=zip_bd hz
   have hget:(L.map Sel.enc)[done.length]? = some s.enc:=by rw [hz,List.getElem?_map,List.getElem?_append_right (by simp)];simp
   have e1:∀k j q:Nat,((n+1+k,j)=(n0,q))=False:=fun k j q=>eq_false fun he=>by injection he with h1 h2;omega
   have e1':∀k j q:Nat,((n0,q)=(n+1+k,j))=False:=fun k j q=>eq_false fun he=>of_eq_false (e1 k j q) he.symm
   have e2:∀k j q:Nat,((n+1+k,j)=(m1,q))=False:=fun k j q=>eq_false fun he=>by injection he with h1 h2;omega
   have e2':∀k j q:Nat,((m1,q)=(n+1+k,j))=False:=fun k j q=>eq_false fun he=>of_eq_false (e2 k j q) he.symm
   have hll:done.length+1<=LLim:=by unfold LLim;omega
   have hap:List.map Sel.enc done++[.agg [.i .i64 s.kind,.s s.name,.sl (s.keys.map V.s)]]=(done++[s]).map Sel.enc:=by simp [Sel.enc_eq]
   simp only [push_cast,seval,reduceEqDiff,hlt0,hget,if_pos hbd,List.length_map,f3,f3',hsv,e1,e1',e2,e2',d1,d1',d2,d2',d3,d3',eq_true hll,wrap_zip s (done:=done) (by omega),List.cons_append,List.nil_append,TRs,hap]
   intro k1 k2 k3
   refine ⟨_,⟨_,[((m1,3),.box (.agg [.arr (n+1+k1,23),.sl (VS.map vEnc)])),((n+1+k1,23),.arr TRs 3 ((done++[s]).map Sel.enc)),((n0,2),.box (.agg [.nil,.nil])),((n0,1),.box (.agg [.sl (L.map Sel.enc),.sl (VS.map vEnc)]))],_⟩,Nat.lt_succ_self _,StLe.sub ?_ ?_ (Nat.le_refl _),(done++[s]),rest,_,some (n+1+k1,23),by rw [hz];simp,rfl,(fun h=>by cases h),?_,?_,rfl⟩
   ·simp [e1,e2,f3]
   ·intro p hp
    simp at hp⊢
    rcases hp with h|h|h|h<;>simp [h,TRs,Sel.enc_eq]
   ·intro id h;cases h;exact ⟨by simp only;omega,by simp only;omega⟩
   ·omega
end Go.Ir
section
namespace Go.Ir
open Go.Proofs
variable (W0 : World)
theorem retN_nil {P:Program} {W0:World} {f:FuncId} {args:List V} {x:Ent} {e sz:Nat} (h:∀id,RetN P W0 f (.arr id::args) [(id,.arr e sz [])] x []):RetN P W0 f (.nil::args) [] x [] where
 callable:=(h (0,0)).callable
 dom:=fun id h=>by simp [lk] at h
 run:=by
  intro n w μ H vals hp hv
  have hnone:μ (n,0)=none:=hp.bd _ (Nat.le_refl _)
  have hmono:=setμ_mono (v:=.slice none 0 0) hnone
  have hnew:=(hp.more (Nat.le_succ n)).new_ (n':=n+1) (w':=w) (R:=fun _=>False) ⟨rfl,rfl,rfl,Nat.le_refl _,fun _ _ _=>rfl⟩ (fun _ h=>h.elim) (σ1:=[]) (fun id e h=>⟨h,fun _ _ h=>h⟩) (id:=(n,0)) (e:=.arr e sz []) (val:=.slice none 0 0) hnone (Nat.lt_succ_self _) (Nat.le_refl _) (fun bk hb=>by simp [blk] at hb)
   ⟨.slice none 0 0,[],setμ_self _ _ _,rfl,World.ownsRow_nil w _ e sz,Nat.zero_le _,(fun x hx=>by cases hx),CRel.nil_⟩
  obtain ⟨v0,vs,rfl⟩:∃v0 vs,vals=v0::vs:=by
   cases vals with
   | nil=>have:=hv.len;simp at this
   | cons a b=>exact ⟨a,b,rfl⟩
  have h0:=hv.at_ 0 _ _ rfl rfl
  have hv':VRels (setμ μ (n,0) (.slice none 0 0)) H (.arr (n,0)::args) (v0::vs):=by
   refine VRels.cons ?_ ⟨by have:=hv.len;simpa using this,fun k c v h1 h2=>(hv.at_ (k+1) c v (by simpa using h1) (by simpa using h2)).mono hmono (fun _ _ h=>h)⟩
   rw [h0.nil_inv]
   exact .arr _ _ (setμ_self _ _ _) rfl
  refine Calls.mono ((h (n,0)).run (n+1) w _ H _ hnew.1 hv') ?_
  rintro e' w' ⟨val,μ',H',n',id,h1,h2,h3,h4,h5,h6,h7,h8,h9⟩
  refine ⟨val,μ',H',n',id,h1,h2,h3,?_,h5,h6,by omega,hnew.2.trans h8,fun i hi h0=>h9 i (by omega) ?_⟩
  ·cases hm:μ id with
   | none=>rfl
   | some y=>have:=hmono id y hm;rw [h4] at this;cases this
  ·rw [setμ_ne _ _ (by rintro rfl;simp at hi)];exact h0
theorem c_solid (p:Part) (hw:p.wt<=2^24):RetS Tryz.prog W0 69 [p.v] [] (.b p.solid) []:=by
 have hp:=p.wt_eq
 have hlc:=len_wtCs p.cases
 have case1:∀(c:Case),wtPs c.2<=2^24->RetS Tryz.prog W0 135 [Case.v c] [] (.b (!plainPs c.2)) []:=by
  intro c h2
  have:=c_plain W0 _ c.2 (Nat.lt_succ_self _) h2
  unfold Case.v
  refine fn_retW (vs:=[.b (!plainPs c.2)]) f135ok (by simp) (by simp) fun n0 hn0=>?_
  clear hn0
  simp only [push_cast,seval,reduceEqDiff]
  repeat' (first|(((first|apply condU_s|apply gdU_t|apply gdU_f)<;>intro _h)<;>simp only [push_cast,seval,reduceEqDiff,_h])|(refine c_call (by exact this) ?_;simp only [push_cast,seval,reduceEqDiff])|intro _)
  all_goals (first|(refine finW_ret ?_;simp [get]<;>(intros;omega);done)|(refine finW_rets ?_;simp [push_cast,get];done)|skip)
 have hany:RetS Tryz.prog W0 134 [.sl (p.cases.map Case.enc),.fn 135 [] []] [] (.b (p.cases.any fun c=>!plainPs c.2)) []:=
  anyCase W0 (by omega) (fun c hc=>by have:=wtCs_mem hc;exact case1 c (by omega))
 have hpl:=c_plain W0 _ p.parts (Nat.lt_succ_self _) (by omega)
 rw [Part.solid_eq,<-plainCs_any]
 generalize hS:(!selB p.kind&&plainPs p.parts&&!p.cases.any fun c=>!plainPs c.2)=S
 unfold Part.v
 refine fn_retW (vs:=[.b S]) f69ok (by simp) (by simp) fun n0 hn0=>?_
 clear hn0
 simp only [push_cast,seval,reduceEqDiff]
 repeat' (first|(((first|apply condU_s|apply gdU_t|apply gdU_f)<;>intro _h)<;>(simp only [push_cast,seval,reduceEqDiff,_h];try (have _g:=_h;simp at _g)))|((first|refine c_call (by exact c_sSel W0 _) ?_|refine c_call (by exact hpl) ?_);simp only [push_cast,seval,reduceEqDiff])|intro _)
 all_goals (try (refine c_callsq hany ?_;simp only [push_cast,seval,reduceEqDiff]))
 repeat' (first|(((first|apply condU_s|apply gdU_t|apply gdU_f)<;>intro _h)<;>(simp only [push_cast,seval,reduceEqDiff,_h];try (have _g:=_h;simp at _g)))|intro _)
 all_goals (first|(refine finW_ret ?_;simp [get,<-hS, *]<;>(intros;omega);done)|(refine finW_rets ?_;simp [push_cast,get,<-hS, *];done)|skip)
abbrev Leaf:=Bytes × List Part
def leafV (l:Leaf):V:=.agg [.s l.1,.sl (l.2.map Part.enc)]
theorem leafV_eq (l:Leaf):leafV l = .agg [.s l.1,.sl (l.2.map Part.enc)]:=rfl
def decN (n:Nat):Bytes:=Lib.decDigits n
mutual
def Part.lvs:Part->Bytes->List Leaf
 | ⟨k,_,_,_,cs,ps⟩,pa=>if selB k then lvsCs cs pa else lvsPs ps pa 0 []
def lvsPs:List Part->Bytes->Nat->List Part->List Leaf
 | [],pa,n,run=>[(pa++decN n,run)]
 | p::ps,pa,n,run=>if p.solid then lvsPs ps pa n (run++[p]) else (pa++decN n,run)::(p.lvs (pa++decN (n+1)++[47])++lvsPs ps pa (n+1) [])
def lvsCs:List (Bytes × List Part)->Bytes->List Leaf
 | [],_=>[]
 | (key,ps)::cs,pa=>lvsPs ps (pa++key++[47]) 0 []++lvsCs cs pa
end
theorem Part.lvs_eq (p:Part) (pa:Bytes):p.lvs pa=if selB p.kind then lvsCs p.cases pa else lvsPs p.parts pa 0 []:=by cases p;simp only [Part.lvs]
theorem lvsPs_nil (pa:Bytes) (n:Nat) (run:List Part):lvsPs [] pa n run=[(pa++decN n,run)]:=by simp only [lvsPs]
theorem lvsPs_cons (p:Part) (ps:List Part) (pa:Bytes) (n:Nat) (run:List Part):lvsPs (p::ps) pa n run=if p.solid then lvsPs ps pa n (run++[p]) else (pa++decN n,run)::(p.lvs (pa++decN (n+1)++[47])++lvsPs ps pa (n+1) []):=by simp only [lvsPs]
theorem lvsCs_cons (c:Case) (cs:List Case) (pa:Bytes):lvsCs (c::cs) pa=lvsPs c.2 (pa++c.1++[47]) 0 []++lvsCs cs pa:=by obtain ⟨k,q⟩:=c;simp only [lvsCs]
theorem lvs_len:∀(N:Nat) (ps:List Part),wtPs ps<N->∀pa n run,(lvsPs ps pa n run).length<=1+2*wtPs ps:=by
 intro N
 induction N with
 | zero=>intro ps h;omega
 | succ N ih=>
  have hcs:∀cs:List Case,wtCs cs<N->∀pa,(lvsCs cs pa).length<=2*wtCs cs:=by
   intro cs
   induction cs with
   | nil=>intro _ pa;simp [lvsCs]
   | cons c cs ih2=>
    intro h pa;rw [wtCs_cons] at h;rw [lvsCs_cons,wtCs_cons,List.length_append]
    have h1:=ih c.2 (by omega) (pa++c.1++[47]) 0 [];have h2:=ih2 (by omega) pa;omega
  intro ps
  induction ps with
  | nil=>intro _ pa n run;simp [lvsPs]
  | cons p ps ih2=>
   intro h pa n run;rw [wtPs_cons] at h;rw [lvsPs_cons,wtPs_cons]
   have hw:=p.wt_eq
   split
   ·have:=ih2 (by omega) pa n (run++[p]);omega
   ·have h3:=ih2 (by omega) pa (n+1) []
    have h4:(p.lvs (pa++decN (n+1)++[47])).length+1<=2*p.wt:=by
     rw [p.lvs_eq]
     split
     ·have:=hcs p.cases (by omega) (pa++decN (n+1)++[47]);omega
     ·have:=ih p.parts (by omega) (pa++decN (n+1)++[47]) 0 [];omega
    rw [List.length_cons,List.length_append];omega
theorem lvsPs_len (ps:List Part) (pa:Bytes) (n:Nat) (run:List Part):(lvsPs ps pa n run).length<=1+2*wtPs ps:=lvs_len _ ps (Nat.lt_succ_self _) pa n run
def TL:Nat:=73
def LvR (bid lid:Id) (o:List Leaf) (n n':Nat) (v:V) (σ':Sto):Prop:=v = .tup []/\∃id:Id,(id=lid\/n<=id.1)/\id.1<n'/\σ'=[(id,.arr TL 2 (o.map leafV)),(bid,.box (.arr id))]
theorem c_leavesFn (q:List Part) (pa:Bytes) (o:List Leaf) (bid lid:Id) (hne:lid≠bid)
  (h:RetN Tryz.prog W0 86 [.arr lid,.sl (q.map Part.enc),.s pa] [(lid,.arr TL 2 (o.map leafV))] (.arr TL 2 ((o++lvsPs q pa 0 []).map leafV)) []) :
  RetE Tryz.prog W0 153 [.sl (q.map Part.enc),.s pa,.ref bid 0] [(lid,.arr TL 2 (o.map leafV)),(bid,.box (.arr lid))] (LvR bid lid (o++lvsPs q pa 0 [])):=by
 refine fn_retEW f153ok (by simp) fun n0 hn0=>?_
 have hb:bid.1<n0:=hn0 bid (.box (.arr lid)) (by simp [lk,hne])
 clear hn0
 have h1:(lid=bid)=False:=eq_false hne
 have h3:∀j:Nat,((n0,j)=bid)=False:=fun j=>ne_idx hb
 have h4:∀a b:Id,(isA (V.arr a)=isA (V.arr b))=True:=fun _ _=>eq_true rfl
 have hov:over [(lid,Ent.arr TL 2 (o.map leafV))] [] [(lid,.arr TL 2 (o.map leafV)),(bid,.box (.arr lid))]=[(bid,.box (.arr lid))]:=by
  simp [over,lk,h1,List.filter]
 simp only [push_cast,seval,reduceEqDiff,h1,h3,h4]
 refine c_calln h (fun i e h=>lk_app_left (τ:=[_]) h) ?_
 rw [hov]
 simp only [push_cast,seval,reduceEqDiff,h1,h3,h4]
 intros
 exact ⟨_,StLe.refl,[],_,trivial,fun _ _ h=>h,rfl,_,.inr (Nat.le_refl _),by simp only;omega,rfl⟩
theorem over_x2 {x a b:Id} {X A B:Ent} {σo:Sto} (h1:x≠a) (h2:x≠b):over [(a,A),(b,B)] σo [(x,X),(a,A),(b,B)]=σo++[(x,X)]:=by
 by_cases hab:a=b
 ·subst hab;simp [over,lk,List.filter,h1,Ne.symm h1]
 ·simp [over,lk,List.filter,h1,h2,Ne.symm h1,Ne.symm h2,hab]
theorem lk_x2 {x a b:Id} {A B:Ent} (h1:x≠a) (h2:x≠b):lk [(a,A),(b,B)] x=none:=by
 simp [lk,Ne.symm h1,Ne.symm h2]
set_option maxHeartbeats 4000000 in
theorem c_lists (p:Part) (pa:Bytes) (bid:Id) (hw:p.wt<=2^24) (hpa:pa.length+32*p.wt<=2^32+32) (M:Nat)
  (hcl:∀(q:List Part) (pa':Bytes) (o:List Leaf) (lid:Id),wtPs q<p.wt->pa'.length+32*wtPs q<=2^32->lid≠bid->o.length+2*wtPs q+1<=M->
   RetE Tryz.prog W0 153 [.sl (q.map Part.enc),.s pa',.ref bid 0] [(lid,.arr TL 2 (o.map leafV)),(bid,.box (.arr lid))] (LvR bid lid (o++lvsPs q pa' 0 [])))
  (o:List Leaf) (lid:Id) (hne:lid≠bid) (ho:o.length+2*p.wt<=M) :
  RetE Tryz.prog W0 152 [p.v,.s pa,.fn 153 [] [.ref bid 0]] [(lid,.arr TL 2 (o.map leafV)),(bid,.box (.arr lid))] (LvR bid lid (o++p.lvs pa)):=by
 have hpw:=p.wt_eq
 have hlc:=len_wtCs p.cases
 have hsel:=c_sSel W0 p.kind
 generalize hS:o++p.lvs pa=S
 rw [p.lvs_eq] at hS
 unfold Part.v
 refine fn_retEW f152ok (by simp) fun n0 hn0=>?_
 have hb:bid.1<n0:=hn0 bid (.box (.arr lid)) (by simp [lk,hne])
 have hl:lid.1<n0:=hn0 lid (.arr TL 2 (o.map leafV)) (by simp [lk])
 clear hn0
 have h1:(lid=bid)=False:=eq_false hne
 have h2:∀j:Nat,((n0,j)=bid)=False:=fun j=>ne_idx hb
 have h3:∀j:Nat,((n0,j)=lid)=False:=fun j=>ne_idx hl
 cases hs:selB p.kind with
 | false=>
  rw [hs] at hsel hS
  simp only [bq,if_true,if_false,Int.reduceBEq,reduceCtorEq] at hS
  subst hS
  simp only [push_cast,seval,reduceEqDiff,h1,h2,h3]
  repeat' (first|(((first|apply condU_s|apply gdU_t|apply gdU_f)<;>intro _h)<;>simp only [push_cast,seval,reduceEqDiff,_h,h1,h2,h3])|(refine c_call (by exact hsel) ?_;simp only [push_cast,seval,reduceEqDiff,h1,h2,h3])|intro _)
  refine c_callx (hcl p.parts pa o lid (by omega) (by omega) hne (by omega)) (lk_drop1 (lk_x2 (fun he=>of_eq_false (h3 _) he) (fun he=>of_eq_false (h2 _) he))) (fun n2 v σo hle hR=>?_)
  obtain ⟨rfl,id,hi1,hi2,rfl⟩:=hR
  rw [over_x2 (fun he=>of_eq_false (h3 _) he) (fun he=>of_eq_false (h2 _) he)]
  simp only [push_cast,seval,reduceEqDiff,h1,h2,h3]
  intros
  exact ⟨_,StLe.refl,[],_,trivial,fun i e h=>lk_app_left (τ:=[_]) h,rfl,id,by rcases hi1 with h|h;exact .inl h;exact .inr (by omega),by simp only;omega,rfl⟩
 | true=>
  rw [hs] at hsel hS
  simp only [bq,if_true,if_false,Int.reduceBEq,reduceCtorEq] at hS
  simp only [push_cast,seval,reduceEqDiff,h1,h2,h3,List.length_map]
  repeat' (first|(((first|apply condU_s|apply gdU_t|apply gdU_f)<;>intro _h)<;>simp only [push_cast,seval,reduceEqDiff,_h,h1,h2,h3,List.length_map])|(refine c_call (by exact hsel) ?_;simp only [push_cast,seval,reduceEqDiff,h1,h2,h3,List.length_map])|intro _)
  refine aWP_loopW p.cases.length (Inv:=fun m st=>∃cd cr n lid' o',p.cases=cd++cr/\m=cr.length/\o'++lvsCs cr pa=S/\o'.length+2*wtCs cr<=M/\(lid'=lid\/n0<=lid'.1)/\lid'.1<n/\n0<=n/\st=⟨[(1,.s pa),(2,.fn 153 [] [.ref bid 0]),(18,.sl (p.cases.map Case.enc)),(19,.i .i64 p.cases.length),(20,.i .i64 cd.length)],[(lid',.arr TL 2 (o'.map leafV)),(bid,.box (.arr lid'))],n⟩) ⟨_,StLe.drop (lk_drop1 (lk_x2 (fun he=>of_eq_false (h3 _) he) (fun he=>of_eq_false (h2 _) he))) (Nat.le_refl _),[],p.cases,_,lid,o,rfl,rfl,hS,by omega,.inl rfl,by (try simp only);omega,by (try simp only);omega,rfl⟩ ?_
  clear hS
  rintro m _ ⟨cd,cr,n,lid',o',hcz,rfl,hd,hM,hl1,hl2,hn,rfl⟩
  have hne':lid'≠bid:=by
   rcases hl1 with rfl|h
   ·exact hne
   ·rintro rfl;omega
  cases cr with
  | nil=>
   have hlt0:decide ((cd.length:Int)<(p.cases.length:Int))=false:=by rw [hcz];simp
   simp only [lvsCs,List.append_nil] at hd
   subst hd
   simp only [push_cast,seval,reduceEqDiff,hlt0]
   intros
   exact ⟨_,StLe.refl,[],_,trivial,fun _ _ h=>h,rfl,lid',hl1,by simp only;omega,rfl⟩
  | cons c cr=>
   have hlt0:decide ((cd.length:Int)<(p.cases.length:Int))=true:=by rw [hcz];simp;omega
   have hcb:=zip_bd hcz
   have hcw:=wtCs_mem (cs:=p.cases) (c:=c) (by rw [hcz];simp)
   have hget:(p.cases.map Case.enc)[cd.length]? = some (.agg [.s c.1,.sl (c.2.map Part.enc)]):=by
    rw [hcz,List.getElem?_map,List.getElem?_append_right (by simp)];simp [Case.enc_eq]
   rw [lvsCs_cons] at hd
   rw [wtCs_cons] at hM
   have hlv:=lvsPs_len c.2 (pa++c.1++[47]) 0 []
   have g1:(lid'=bid)=False:=eq_false hne'
   have g2:∀k j:Nat,((n+1+k,j)=bid)=False:=fun k j=>ne_idx (by omega)
   have g3:∀k j:Nat,((n+1+k,j)=lid')=False:=fun k j=>ne_idx (by omega)
   simp only [push_cast,seval,reduceEqDiff,hlt0,hget,if_pos hcb,wrap_zip c (done:=cd) (by omega),List.length_map,g1,g2,g3]
   repeat' (first|(((first|apply condU_s|apply gdU_t|apply gdU_f)<;>intro _h)<;>simp only [push_cast,seval,reduceEqDiff,_h,hlt0,hget,if_pos hcb,wrap_zip c (done:=cd) (by omega),List.length_map,g1,g2,g3])|(refine jp_i (by simp only [List.length_append,List.length_cons,List.length_nil,SLim]<;>omega) ?_;simp only [push_cast,seval,reduceEqDiff,hlt0,hget,if_pos hcb,wrap_zip c (done:=cd) (by omega),List.length_map,g1,g2,g3])|intro _)
   refine c_callx (hcl c.2 (pa++c.1++[47]) o' lid' (by omega) (by simp only [List.length_append,List.length_cons,List.length_nil];omega) hne' (by omega)) (lk_drop1 (lk_x2 (fun he=>of_eq_false (g3 _ _) he) (fun he=>of_eq_false (g2 _ _) he))) (fun n2 v σo hle hR=>?_)
   obtain ⟨rfl,id,hi1,hi2,rfl⟩:=hR
   rw [over_x2 (fun he=>of_eq_false (g3 _ _) he) (fun he=>of_eq_false (g2 _ _) he)]
   rw [<-List.append_assoc] at hd
   simp only [push_cast,seval,reduceEqDiff,hlt0,hget,if_pos hcb,wrap_zip c (done:=cd) (by omega),List.length_map,g1,g2,g3]
   intros
   refine ⟨_,_,Nat.lt_succ_self _,StLe.drop (fun i e h=>lk_app_left (τ:=[_]) h) (Nat.le_refl _),cd++[c],cr,_,id,_,by rw [hcz];simp,rfl,hd,?_,?_,?_,?_,rfl⟩
   ·rw [List.length_append];omega
   ·rcases hi1 with rfl|h
    ·exact hl1
    ·exact .inr (by omega)
   ·rcases hi1 with rfl|h<;>omega
   ·omega
end Go.Ir
end
namespace Go.Ir
open Go.Proofs
variable (W0 : World)
theorem lvsCs_len (cs:List Case) (pa:Bytes):(lvsCs cs pa).length<=2*wtCs cs:=by
 induction cs with
 | nil=>simp [lvsCs]
 | cons c cs ih=>rw [lvsCs_cons,wtCs_cons,List.length_append];have:=lvsPs_len c.2 (pa++c.1++[47]) 0 [];omega
theorem lvs_part (p:Part) (pa:Bytes):(p.lvs pa).length+1<=2*p.wt:=by
 rw [p.lvs_eq,p.wt_eq]
 split
 ·have:=lvsCs_len p.cases pa;omega
 ·have:=lvsPs_len p.parts pa 0 [];omega
theorem frz_slot {W0:World} {nt n n' s e sz:Nat} {env:Env} {σ τ:Sto} {rid:Id} {es:List V} (hs:get env s = .arr rid) (hr:lk σ rid=some (.arr e sz es)) (hτ:∀i e',lk τ i=some e'->lk σ i=some e'/\i≠rid) (hok:∀y∈es,y.ok=true) (hn:n<=n') :
  StLe W0 nt ⟨env,σ,n⟩ ⟨(s,.sl es)::env,τ,n'⟩:=by
 refine StLe.weak (fun i=>if i=rid then some es else none) (fun i es' h=>?_) (fun t=>?_) (fun i e' h=>⟨e',(hτ i e' h).1,.refl _⟩) hn
 ·split at h
  ·rename_i hi;subst hi;cases h
   refine ⟨⟨e,sz,hr⟩,?_⟩
   cases hl:lk τ i with
   | none=>rfl
   | some x=>exact absurd rfl (hτ i x hl).2
  ·cases h
 ·by_cases ht:s=t
  ·subst ht
   rw [hs]
   simp only [get,if_true]
   refine .arr rid es es (by simp) rfl (fun k c c' h1 h2=>?_) (fun k c c' h1 h2=>?_)
   ·rw [h1] at h2;cases h2;exact .refl _
   ·rw [h1] at h2;cases h2
    have:=hok c (List.mem_of_getElem? h1)
    exact ⟨rfl,this,this⟩
  ·simp only [get,if_neg ht];exact .refl _
theorem over_m2 {x a b:Id} {X A B:Ent} {σo:Sto} (h1:x≠a) (h2:x≠b):over [(a,A),(b,B)] σo [(a,A),(x,X),(b,B)]=σo++[(x,X)]:=by
 by_cases hab:a=b
 ·subst hab;simp [over,lk,List.filter,h1,Ne.symm h1]
 ·simp [over,lk,List.filter,h1,h2,Ne.symm h1,Ne.symm h2,hab]
theorem lk_m2 {x a b:Id} {X A B:Ent} (h1:x≠a) (h2:x≠b):∀i e,lk [(a,A),(b,B)] i=some e->lk [(a,A),(x,X),(b,B)] i=some e:=by
 intro i e h
 simp only [lk] at h⊢
 split at h
 ·rename_i ha;rw [if_pos ha];exact h
 ·rename_i ha
  rw [if_neg ha]
  split at h
  ·rename_i hb;subst hb;rw [if_neg h2,if_pos rfl];exact h
  ·cases h
set_option maxHeartbeats 4000000 in
theorem c_leavesA (K:Nat) (hI:∀i:Nat,i<=K->RetS Tryz.prog W0 150 [.i .i64 i] [] (.s (decN i)) []/\(decN i).length<=20) :
  ∀(N:Nat) (ps:List Part) (pa:Bytes) (o:List Leaf) (lid:Id),wtPs ps<N->wtPs ps<=2^24->wtPs ps<=K->pa.length+32*wtPs ps<=2^32->o.length+2*wtPs ps+1<=2^30->
  RetN Tryz.prog W0 86 [.arr lid,.sl (ps.map Part.enc),.s pa] [(lid,.arr TL 2 (o.map leafV))] (.arr TL 2 ((o++lvsPs ps pa 0 []).map leafV)) []:=by
 intro N
 induction N with
 | zero=>intro ps pa o lid h;omega
 | succ N ih=>
 intro ps pa o0 lid0 hN hw0 hK0 hpa hM
 have hlen:=len_wtPs ps
 generalize hS:o0++lvsPs ps pa 0 []=S
 refine fn_newW (s:=6) f86ok (by simp) (by simp [lk]) fun n0 hn0=>?_
 have hl0:lid0.1<n0:=hn0 lid0 (.arr TL 2 (o0.map leafV)) (by simp [lk])
 clear hn0
 simp only [push_cast,seval,reduceEqDiff]
 intros
 rename_i a1 a2 a3 a4
 have hn1:n0<n0+1+a1+1+a2+1+a3+1+a4:=by omega
 generalize n0+1+a1+1+a2+1+a3+1+a4=n1 at *
 refine aWP_loopW ps.length (Inv:=fun m st=>∃done rest n lid rid o run k,ps=done++rest/\m=rest.length/\o++lvsPs rest pa k run=S/\o.length+2*wtPs rest+1<=2^30/\k<=done.length/\run.length<=done.length/\wtPs run+wtPs rest<=wtPs ps/\n0<n/\lid.1<n/\rid.1<n/\lid≠(n0,3)/\rid≠(n0,3)/\rid≠lid/\st=⟨[(2,.s pa),(3,.ref (n0,3) 0),(7,.arr rid),(8,.i .i64 k),(11,.sl (ps.map Part.enc)),(12,.i .i64 ps.length),(13,.i .i64 done.length)],[(rid,.arr TPt 6 (run.map Part.enc)),(lid,.arr TL 2 (o.map leafV)),((n0,3),.box (.arr lid))],n⟩) ⟨_,(StLe.own (s:=7) (e:=TPt) (sz:=6) (k:=99) rfl).trans ((StLe.envD (fun t=>?_) (Nat.le_refl _)).trans (StLe.sub (σ':=[((n1,99),.arr TPt 6 []),(lid0,.arr TL 2 (o0.map leafV)),((n0,3),.box (.arr lid0))]) ?_ ?_ (Nat.le_refl _))),[],ps,_,lid0,(n1,99),o0,[],0,rfl,rfl,hS,hM,by simp,by simp,by simp [wtPs_nil],?_,?_,?_,?_,?_,?_,rfl⟩ ?_
 ·left
  by_cases h3:7=t
  ·subst h3;rfl
  ·simp [get,h3]
 ·have e1:((n1,99):Id)≠lid0:=fun he=>by rw [<-he] at hl0;simp at hl0;omega
  have e2:lid0≠((n0,3):Id):=fun he=>by rw [he] at hl0;simp at hl0
  have e3:((n1,99):Id)≠(n0,3):=fun he=>by injection he with h1 h2;omega
  simp [e1,e2,Ne.symm e1,Ne.symm e2]
 ·intro p hp
  simp at hp⊢
  rcases hp with h|h|h<;>simp [h]
 ·(try simp only);omega
 ·(try simp only);omega
 ·(try simp only);omega
 ·intro he;rw [he] at hl0;simp at hl0
 ·intro he;injection he with h1 h2;omega
 ·intro he;rw [<-he] at hl0;simp at hl0;omega
 clear hS
 rintro m _ ⟨done,rest,n,lid,rid,o,run,k,hz,rfl,hd,hM,hk,hrl,hrw,hn,hl,hr,hlb,hrb,hrl2,rfl⟩
 have d1:∀i j:Nat,((n+1+i,j)=lid)=False:=fun i j=>ne_idx (by omega)
 have d1':∀i j:Nat,(lid=(n+1+i,j))=False:=fun i j=>eq_false fun he=>of_eq_false (d1 i j) he.symm
 have d2:∀i j:Nat,((n+1+i,j)=rid)=False:=fun i j=>ne_idx (by omega)
 have d2':∀i j:Nat,(rid=(n+1+i,j))=False:=fun i j=>eq_false fun he=>of_eq_false (d2 i j) he.symm
 have d3:∀i j q:Nat,((n+1+i,j)=(n0,q))=False:=fun i j q=>eq_false fun he=>by injection he with h1 h2;omega
 have d3':∀i j q:Nat,((n0,q)=(n+1+i,j))=False:=fun i j q=>eq_false fun he=>of_eq_false (d3 i j q) he.symm
 have c1:(lid=(n0,3))=False:=eq_false hlb
 have c1':((n0,3)=lid)=False:=eq_false (Ne.symm hlb)
 have c2:(rid=(n0,3))=False:=eq_false hrb
 have c2':((n0,3)=rid)=False:=eq_false (Ne.symm hrb)
 have c3:(rid=lid)=False:=eq_false hrl2
 have c3':(lid=rid)=False:=eq_false (Ne.symm hrl2)
 have hia:∀a b:Id,(isA (V.arr a)=isA (V.arr b))=True:=fun _ _=>eq_true rfl
 cases rest with
 | nil=>
  have hlt0:decide ((done.length:Int)<(ps.length:Int))=false:=by rw [hz];simp
  have hpl:ps.length=done.length:=by rw [hz];simp
  rw [lvsPs_nil] at hd
  subst hd
  obtain ⟨hIk,hIl⟩:=hI k (by omega)
  have hcl:=c_cloned W0 _ run (Nat.lt_succ_self _) (by omega)
  generalize hdk:decN k=DK at *
  have hap:List.map leafV o++[.agg [.s (pa++DK),.sl (run.map Part.enc)]]=(o++[(pa++DK,run)]).map leafV:=by simp [leafV]
  have hll:o.length+1<=LLim:=by unfold LLim;omega
  simp only [push_cast,seval,reduceEqDiff,hlt0]
  intro k1
  refine wkW_i (frz_slot (s:=7) (rid:=rid) (e:=TPt) (sz:=6) (es:=run.map Part.enc) (τ:=[(lid,.arr TL 2 (o.map leafV)),((n0,3),.box (.arr lid))]) rfl (by simp [lk]) (fun i e' h=>?_) (okPt _) (Nat.le_refl _)) ?_
  ·refine ⟨lk_drop1 (by simp [lk,c3',c2']) i e' h,?_⟩
   rintro rfl
   simp [lk,c3',c2'] at h
  simp only [push_cast,seval,reduceEqDiff,c1,c1',c2,c2',c3,c3',d1,d1',hia,TL,hap,eq_true hll,List.length_map]
  repeat' (first|(((first|apply condU_s|apply gdU_t|apply gdU_f)<;>intro _h)<;>simp only [push_cast,seval,reduceEqDiff,_h,c1,c1',c2,c2',c3,c3',d1,d1',hia,TL,hap,eq_true hll,List.length_map])|((first|refine c_call (by exact hIk) ?_|refine c_call (by exact hcl) ?_|refine jp_i (by simp only [List.length_append,List.length_cons,List.length_nil,SLim]<;>omega) ?_);simp only [push_cast,seval,reduceEqDiff,c1,c1',c2,c2',c3,c3',d1,d1',hia,TL,hap,eq_true hll,List.length_map])|intro _)
  exact finNW_i rfl (by simp [lk])
 | cons p rest=>
  have hbd:=zip_bd hz
  have hwp:=wtPs_mem (ps:=ps) (p:=p) (by rw [hz];simp)
  have hpl:ps.length=done.length+(rest.length+1):=by rw [hz];simp
  have hlt0:decide ((done.length:Int)<(ps.length:Int))=true:=by simp;omega
  have hget:(ps.map Part.enc)[done.length]? = some p.enc:=by rw [hz,List.getElem?_map,List.getElem?_append_right (by simp)];simp
  rw [lvsPs_cons] at hd
  rw [wtPs_cons] at hM hrw
  have hso:=c_solid W0 p (by omega)
  unfold Part.v at hso
  cases hsl:p.solid with
  | true=>
   rw [hsl] at hso hd
   simp only [bq,if_true,if_false,Int.reduceBEq,reduceCtorEq] at hd
   have hll:run.length+1<=LLim:=by unfold LLim;omega
   have hap:List.map Part.enc run++[.agg [.i .i64 p.kind,.s p.text,.s p.name,.s p.style,.sl (p.cases.map Case.enc),.sl (p.parts.map Part.enc)]]=(run++[p]).map Part.enc:=by simp [Part.enc_eq]
   simp only [push_cast,seval,reduceEqDiff,hlt0,hget,if_pos hbd,wrap_zip p (done:=done) (by omega),List.length_map,c1,c1',c2,c2',c3,c3',d1,d1',d2,d2',d3,d3',TPt,hap,eq_true hll]
   repeat' (first|(((first|apply condU_s|apply gdU_t|apply gdU_f)<;>intro _h)<;>simp only [push_cast,seval,reduceEqDiff,_h,hlt0,hget,if_pos hbd,wrap_zip p (done:=done) (by omega),List.length_map,c1,c1',c2,c2',c3,c3',d1,d1',d2,d2',d3,d3',TPt,hap,eq_true hll])|(refine c_call (by exact hso) ?_;simp only [push_cast,seval,reduceEqDiff,hlt0,hget,if_pos hbd,wrap_zip p (done:=done) (by omega),List.length_map,c1,c1',c2,c2',c3,c3',d1,d1',d2,d2',d3,d3',TPt,hap,eq_true hll])|intro _)
   rename_i b1 b2 b3 b4 b5
   refine ⟨_,_,Nat.lt_succ_self _,StLe.dropM (by simp [lk,d1',d3']) (Nat.le_refl _),done++[p],rest,_,lid,_,o,run++[p],k,by rw [hz];simp,rfl,hd,by omega,by simp;omega,by simp;omega,?_,?_,?_,?_,hlb,?_,?_,rfl⟩
   ·rw [wtPs_app,wtPs_cons,wtPs_nil];omega
   ·omega
   ·omega
   ·simp only;omega
   ·intro he;injection he with h1 h2;omega
   ·intro he;rw [<-he] at hl;simp at hl;omega
  | false=>
   rw [hsl] at hso hd
   simp only [bq,if_true,if_false,Int.reduceBEq,reduceCtorEq] at hd
   simp only [push_cast,seval,reduceEqDiff,hlt0,hget,if_pos hbd,wrap_zip p (done:=done) (by omega),List.length_map,c1,c1',c2,c2',c3,c3',d1,d1',d2,d2',d3,d3']
   repeat' (first|(((first|apply condU_s|apply gdU_t|apply gdU_f)<;>intro _h)<;>simp only [push_cast,seval,reduceEqDiff,_h,hlt0,hget,if_pos hbd,wrap_zip p (done:=done) (by omega),List.length_map,c1,c1',c2,c2',c3,c3',d1,d1',d2,d2',d3,d3'])|(refine c_call (by exact hso) ?_;simp only [push_cast,seval,reduceEqDiff,hlt0,hget,if_pos hbd,wrap_zip p (done:=done) (by omega),List.length_map,c1,c1',c2,c2',c3,c3',d1,d1',d2,d2',d3,d3'])|intro _)
   rename_i b1 b2 b3
   have hx:n<n+1+b1/\n+1+b1<n+1+b1+1+b2+1+b3:=by omega
   generalize n+1+b1+1+b2+1+b3=n2 at *
   have g1:∀j:Nat,((n+1+b1,j)=lid)=False:=fun j=>d1 b1 j
   have g1':∀j:Nat,(lid=(n+1+b1,j))=False:=fun j=>d1' b1 j
   have g2:∀j:Nat,((n+1+b1,j)=rid)=False:=fun j=>d2 b1 j
   have g3:∀j q:Nat,((n+1+b1,j)=(n0,q))=False:=fun j q=>d3 b1 j q
   have g3':∀j q:Nat,((n0,q)=(n+1+b1,j))=False:=fun j q=>d3' b1 j q
   generalize n+1+b1=x0 at *
   obtain ⟨hx1,hx2⟩:=hx
   have e1:∀i j:Nat,((n2+1+i,j)=lid)=False:=fun i j=>ne_idx (by omega)
   have e1':∀i j:Nat,(lid=(n2+1+i,j))=False:=fun i j=>eq_false fun he=>of_eq_false (e1 i j) he.symm
   have e3:∀i j q:Nat,((n2+1+i,j)=(n0,q))=False:=fun i j q=>eq_false fun he=>by injection he with h1 h2;omega
   have e3':∀i j q:Nat,((n0,q)=(n2+1+i,j))=False:=fun i j q=>eq_false fun he=>of_eq_false (e3 i j q) he.symm
   have e4:∀i j q:Nat,((n2+1+i,j)=(x0,q))=False:=fun i j q=>eq_false fun he=>by injection he with h1 h2;omega
   have e4':∀i j q:Nat,((x0,q)=(n2+1+i,j))=False:=fun i j q=>eq_false fun he=>of_eq_false (e4 i j q) he.symm
   have f1:∀j:Nat,((n2,j)=lid)=False:=fun j=>ne_idx (by omega)
   have f3:∀j q:Nat,((n2,j)=(n0,q))=False:=fun j q=>eq_false fun he=>by injection he with h1 h2;omega
   have f3':∀j q:Nat,((n0,q)=(n2,j))=False:=fun j q=>eq_false fun he=>of_eq_false (f3 j q) he.symm
   have f4:∀j q:Nat,((n2,j)=(x0,q))=False:=fun j q=>eq_false fun he=>by injection he with h1 h2;omega
   have f4':∀j q:Nat,((x0,q)=(n2,j))=False:=fun j q=>eq_false fun he=>of_eq_false (f4 j q) he.symm
   obtain ⟨hIk,hIl⟩:=hI k (by omega)
   obtain ⟨hIk2',hIl2⟩:=hI (k+1) (by omega)
   have hIk2:RetS Tryz.prog W0 150 [.i .i64 ((k:Int)+1)] [] (.s (decN (k+1))) []:=hIk2'
   have hcl:=c_cloned W0 _ run (Nat.lt_succ_self _) (by omega)
   generalize decN k=DK at *
   generalize decN (k+1)=DL at *
   have hap:List.map leafV o++[.agg [.s (pa++DK),.sl (run.map Part.enc)]]=(o++[(pa++DK,run)]).map leafV:=by simp [leafV]
   have hll:o.length+1<=LLim:=by unfold LLim;omega
   have hwk:IntKind.i64.wrap ((k:Int)+1)=((k+1:Nat):Int):=by rw [wrap64 (by omega) (by omega)];simp
   refine wkW_i (frz_slot (s:=7) (rid:=rid) (e:=TPt) (sz:=6) (es:=run.map Part.enc) (τ:=[((x0,10),.box (.agg [.i .i64 p.kind,.s p.text,.s p.name,.s p.style,.sl (p.cases.map Case.enc),.sl (p.parts.map Part.enc)])),(lid,.arr TL 2 (o.map leafV)),((n0,3),.box (.arr lid))]) rfl (by simp [lk,g2]) (fun i e' h=>?_) (okPt _) (Nat.le_refl _)) ?_
   ·have hne:i≠rid:=by
     rintro rfl
     simp [lk,g2,c3',c2'] at h
    refine ⟨?_,hne⟩
    simp only [lk] at h⊢
    by_cases hx:(x0,10)=i
    ·rw [if_pos hx] at h⊢;exact h
    ·rw [if_neg hx] at h⊢;rw [if_neg (Ne.symm hne)];exact h
   simp only [push_cast,seval,reduceEqDiff,c1,c1',c2,c2',c3,c3',g1,g1',g3,g3',e1,e1',e3,e3',e4,e4',f1,f3,f3',f4,f4',hia,TL,hap,eq_true hll,List.length_map,hwk,wrap_zip p (done:=done) (by omega)]
   repeat' (first|(((first|apply condU_s|apply gdU_t|apply gdU_f)<;>intro _h)<;>simp only [push_cast,seval,reduceEqDiff,_h,c1,c1',c2,c2',c3,c3',g1,g1',g3,g3',e1,e1',e3,e3',e4,e4',f1,f3,f3',f4,f4',hia,TL,hap,eq_true hll,List.length_map,hwk,wrap_zip p (done:=done) (by omega)])|((first|refine c_call (by exact hIk) ?_|refine c_call (by exact hcl) ?_|refine c_call (by exact hIk2) ?_|refine jp_i (by simp only [List.length_append,List.length_cons,List.length_nil,SLim]<;>omega) ?_);simp only [push_cast,seval,reduceEqDiff,c1,c1',c2,c2',c3,c3',g1,g1',g3,g3',e1,e1',e3,e3',e4,e4',f1,f3,f3',f4,f4',hia,TL,hap,eq_true hll,List.length_map,hwk,wrap_zip p (done:=done) (by omega)])|intro _)
   have hli:=c_lists W0 p (pa++DL++[47]) (n0,3) (by omega) (by simp only [List.length_append,List.length_cons,List.length_nil];omega) (2^30)
    (fun q pa' o' lid' h1 h2 h3 h4=>c_leavesFn W0 q pa' o' (n0,3) lid' h3 (ih q pa' o' lid' (by omega) (by omega) (by omega) h2 (by omega))) (o++[(pa++DK,run)]) (n2,32) (fun he=>of_eq_false (f3 _ _) he) (by simp only [List.length_append,List.length_cons,List.length_nil];omega)
   unfold Part.v at hli
   refine c_callx hli (lk_m2 (fun he=>of_eq_false (f4' _ _) he) (fun he=>of_eq_false (g3 _ _) he)) (fun n5 v σo hle hR=>?_)
   obtain ⟨rfl,id,hi1,hi2,rfl⟩:=hR
   have hlp:=lvs_part p (pa++DL++[47])
   simp only [TL]
   rw [over_m2 (fun he=>of_eq_false (f4' _ _) he) (fun he=>of_eq_false (g3 _ _) he)]
   generalize p.lvs (pa++DL++[47])=LV at *
   rw [show o++(pa++DK,run)::(LV++lvsPs rest pa (k+1) [])=(o++[(pa++DK,run)]++LV)++lvsPs rest pa (k+1) [] by simp] at hd
   simp only [push_cast,seval,reduceEqDiff,c1,c1',c2,c2',c3,c3',g1,g1',g3,g3',e1,e1',e3,e3',e4,e4',f1,f3,f3',f4,f4',hia,TL,hap,eq_true hll,List.length_map,hwk,wrap_zip p (done:=done) (by omega)]
   intros
   rename_i b4 b5
   have hx3:n5<n5+1+b4+1+b5:=by omega
   generalize n5+1+b4+1+b5=n6 at *
   have hid:id.1<n6:=by omega
   have hid2:id=(n2,32)\/n0<id.1:=by
    rcases hi1 with h|h
    ·exact .inl h
    ·exact .inr (by omega)
   refine ⟨_,⟨[(2,.s pa),(3,.ref (n0,3) 0),(7,.arr (n6,99)),(8,.i .i64 ((k+1:Nat):Int)),(11,.sl (ps.map Part.enc)),(12,.i .i64 ps.length),(13,.i .i64 (done++[p]).length)],[((n6,99),.arr TPt 6 []),(id,.arr TL 2 ((o++[(pa++DK,run)]++LV).map leafV)),((n0,3),.box (.arr id))],n6+1⟩,Nat.lt_succ_self _,(StLe.own (s:=7) (e:=TPt) (sz:=6) (k:=99) rfl).trans ((StLe.envD (fun t=>?_) (Nat.le_refl _)).trans (StLe.drop (fun i e h=>lk_app_left (τ:=[_]) h) (Nat.le_refl _))),done++[p],rest,_,id,(n6,99),_,[],k+1,by rw [hz];simp,rfl,hd,?_,?_,?_,?_,?_,?_,?_,?_,?_,?_,rfl⟩
   ·left
    by_cases h3:7=t
    ·subst h3;rfl
    ·simp [get,h3]
   ·simp only [List.length_append,List.length_cons,List.length_nil];omega
   ·simp;omega
   ·simp
   ·rw [wtPs_nil];omega
   ·omega
   ·omega
   ·simp only;omega
   ·rcases hid2 with rfl|h
    ·exact fun he=>of_eq_false (f3 _ _) he
    ·rintro rfl;simp at h
   ·intro he;injection he with h1 h2;omega
   ·rintro rfl;simp at hid
theorem c_Leaves (K:Nat) (hI:∀i:Nat,i<=K->RetS Tryz.prog W0 150 [.i .i64 i] [] (.s (decN i)) []/\(decN i).length<=20) (ps:List Part) (hw:wtPs ps<=2^24) (hK:wtPs ps<=K) (hv:validP ps=true) :
  RetS Tryz.prog W0 38 [.sl (ps.map Part.enc)] [] (.tup [.sl ((lvsPs ps [] 0 []).map leafV),.i .i64 0]) []:=by
 have hva:=c_Valid W0 ps hw
 rw [hv] at hva
 have hle:=retN_nil (e:=TL) (sz:=2) (fun id=>c_leavesA W0 K hI _ ps [] [] id (Nat.lt_succ_self _) hw hK (by simp;omega) (by simp;omega))
 rw [List.nil_append] at hle
 refine fn_retW (vs:=[.sl ((lvsPs ps [] 0 []).map leafV),.i .i64 0]) f38ok (by simp) (by simp) fun n0 hn0=>?_
 clear hn0
 simp only [push_cast,seval,reduceEqDiff]
 repeat' (first|(((first|apply condU_s|apply gdU_t|apply gdU_f)<;>intro _h)<;>simp only [push_cast,seval,reduceEqDiff,_h])|(refine c_call (by exact hva) ?_;simp only [push_cast,seval,reduceEqDiff])|intro _)
 refine c_calln hle (fun i e h=>by simp [lk] at h) ?_
 rw [over_nil]
 simp only [push_cast,seval,reduceEqDiff]
 intros
 exact ⟨⟨_,[],_⟩,frz_slot (s:=2) (e:=TL) (sz:=2) (es:=(lvsPs ps [] 0 []).map leafV) rfl (by simp [lk]) (fun _ _ h=>by cases h) (fun y hy=>by obtain ⟨x,_,rfl⟩:=List.mem_map.1 hy;rfl) (Nat.le_refl _),⟨by simp [ResOk,get],by simp [ResOk,get],trivial⟩,fun _ _ h=>by cases h⟩
def nodupK:List Bytes->List Bytes->Bool
 | _,[]=>true
 | d,k::r=>!d.contains k&&nodupK (d++[k]) r
def lastOther (l:List Bytes):Bool:=match l.getLast? with
 | none=>false
 | some k=>k == kOtherS
def headS (s:Sel):Bool:=selB s.kind&&(nameB s.name&&lastOther s.keys)
def soundGo:List Sel->List Sel->Bool
 | _,[]=>true
 | d,s::r=>headS s&&(nodupK [] s.keys&&(!d.any (selIs s.kind s.name)&&soundGo (d++[s]) r))
def soundP (f:FormP):Bool:=soundGo [] f.1&&(decide ((combP 1 f.1:Int)<=400)&&((f.2.length:Int) == (combP 1 f.1:Int)))
theorem elSel (s:Sel):ElOk true 3 s.enc:=elOk_agg rfl
theorem ifSel:okFn Tryz.prog 120 19 (gIF_0 106 3 true) gIFR=true:=by kernel_rfl
theorem cfSel:okFn Tryz.prog 65 9 (gCF_0 120) gCFR=true:=by kernel_rfl
theorem anySel {l:List Sel} {g:FuncId} {first caps:List V} {σ:Sto} {p:Sel->Bool} (hl:l.length<2^62) (hg:∀x∈l,RetS Tryz.prog W0 g (first++[x.enc]++caps) σ (.b (p x)) σ) :
  RetS Tryz.prog W0 65 [.sl (l.map Sel.enc),.fn g first caps] σ (.b (l.any p)) σ:=by
 rw [<-idxI_ge]
 exact containsFunc_ret W0 cfSel _ _ _ _ (indexFunc_ret W0 ifSel Sel.enc l p g first caps σ (fun x _=>elSel x) hg hl)
theorem c_sound1 (t s:Sel) (sid:Id) (σ:Sto) (hs:lk σ sid=some (.box (.agg [.i .i64 s.kind,.s s.name,.sl (s.keys.map V.s)]))):RetS Tryz.prog W0 66 [t.enc,.ref sid 0] σ (.b (selIs s.kind s.name t)) σ:=by
 generalize hS:selIs s.kind s.name t=S
 unfold selIs at hS
 refine fn_retW (vs:=[.b S]) f66ok (by simp) (fun _ h=>h) fun n0 hn0=>?_
 have h1:∀j,((n0,j)=sid)=False:=fun j=>ne_idx (hn0 _ _ hs)
 simp only [push_cast,seval,reduceEqDiff,h1,hs]
 repeat' (first|(((first|apply condU_s|apply gdU_t|apply gdU_f)<;>intro _h)<;>simp only [push_cast,seval,reduceEqDiff,_h,h1,hs])|intro _)
 all_goals subst hS
 all_goals (refine finW_retS (by simp [get, *]) (fun i e h=>lk_fresh (hn0 i e h) h))
theorem last_cases (l:List Bytes):(l=[]/\lastOther l=false)\/∃d k,l=d++[k]/\lastOther l=(k == kOtherS):=by
 rcases List.eq_nil_or_concat l with h|⟨d,k,h⟩
 ·left;subst h;exact ⟨rfl,rfl⟩
 ·right;refine ⟨d,k,by rw [h,List.concat_eq_append],?_⟩
  subst h;rw [List.concat_eq_append];simp [lastOther]
set_option maxHeartbeats 4000000 in
theorem c_Sound (f:FormP) (h1:f.1.length<=2^26) (hk:∀s∈f.1,s.keys.length<=2^26/\s.name.length<=2^30):RetS Tryz.prog W0 20 [formV f] [] (.b (soundP f)) []:=by
 obtain ⟨L,VS⟩:=f
 simp only at h1 hk
 have hco:=c_comb W0 L (by omega) (fun s hs=>by have:=(hk s hs).1;omega)
 unfold soundP formV
 simp only
 generalize combP 1 L=CB at *
 generalize hT:(decide ((CB:Int)<=400)&&((VS.length:Int) == (CB:Int)))=T
 generalize hS:(soundGo [] L&&T)=S
 refine fn_retW (vs:=[.b S]) f20ok (by simp) (by simp) fun n0 hn0=>?_
 clear hn0
 simp only [push_cast,seval,reduceEqDiff,List.length_map]
 intros
 refine aWP_loopW L.length (Inv:=fun m st=>∃done rest n,L=done++rest/\m=rest.length/\(soundGo done rest&&T)=S/\n0<n/\st=⟨[(1,.ref (n0,1) 0),(9,.sl (L.map Sel.enc)),(10,.i .i64 L.length),(11,.i .i64 done.length)],[((n0,1),.box (.agg [.sl (L.map Sel.enc),.sl (VS.map vEnc)]))],n⟩) ⟨_,StLe.refl,[],L,_,rfl,rfl,hS,by (try simp only);omega,rfl⟩ ?_
 clear hS
 rintro m _ ⟨done,rest,n,hz,rfl,hd,hn,rfl⟩
 cases rest with
 | nil=>
  have hlt0:decide ((done.length:Int)<(L.length:Int))=false:=by rw [hz];simp
  rw [soundGo,Bool.true_and] at hd
  subst hd
  simp only [push_cast,seval,reduceEqDiff,hlt0,List.length_map]
  repeat' (first|(((first|apply condU_s|apply gdU_t|apply gdU_f)<;>intro _h)<;>simp only [push_cast,seval,reduceEqDiff,_h,hlt0,List.length_map])|(refine c_call (by exact hco) ?_;simp only [push_cast,seval,reduceEqDiff,hlt0,List.length_map])|intro _)
  all_goals (refine finW_ret ?_;simp only [<-hT];simp [get, *])
 | cons s rest=>
  have hlt0:decide ((done.length:Int)<(L.length:Int))=true:=by rw [hz];simp;omega
  have hbd:=zip_bd hz
  obtain ⟨hks,hns⟩:=hk s (by rw [hz];simp)
  have hget:(L.map Sel.enc)[done.length]? = some s.enc:=by rw [hz,List.getElem?_map,List.getElem?_append_right (by simp)];simp
  have hsel:=c_sSel W0 s.kind
  have hnm:=c_tName W0 s.name (by unfold SLim;omega)
  rw [soundGo] at hd
  unfold headS at hd
  have f1:∀k j q:Nat,((n+1+k,j)=(n0,q))=False:=fun k j q=>eq_false fun he=>by injection he with h1 h2;omega
  have f1':∀k j q:Nat,((n0,q)=(n+1+k,j))=False:=fun k j q=>eq_false fun he=>of_eq_false (f1 k j q) he.symm
  cases hs:selB s.kind with
  | false=>
   rw [hs] at hd hsel
   simp only [Bool.false_and] at hd
   subst hd
   simp only [push_cast,seval,reduceEqDiff,hlt0,hget,if_pos hbd,f1,f1',List.length_map]
   repeat' (first|(((first|apply condU_s|apply gdU_t|apply gdU_f)<;>intro _h)<;>simp only [push_cast,seval,reduceEqDiff,_h,hlt0,hget,if_pos hbd,f1,f1',List.length_map])|(refine c_call (by exact hsel) ?_;simp only [push_cast,seval,reduceEqDiff,hlt0,hget,if_pos hbd,f1,f1',List.length_map])|intro _)
   exact finW_ret (by simp [get])
  | true=>
  cases hm:nameB s.name with
  | false=>
   rw [hs] at hd hsel
   rw [hm] at hd hnm
   simp only [Bool.false_and,Bool.true_and] at hd
   subst hd
   simp only [push_cast,seval,reduceEqDiff,hlt0,hget,if_pos hbd,f1,f1',List.length_map]
   repeat' (first|(((first|apply condU_s|apply gdU_t|apply gdU_f)<;>intro _h)<;>simp only [push_cast,seval,reduceEqDiff,_h,hlt0,hget,if_pos hbd,f1,f1',List.length_map])|((first|refine c_call (by exact hsel) ?_|refine c_call (by exact hnm) ?_);simp only [push_cast,seval,reduceEqDiff,hlt0,hget,if_pos hbd,f1,f1',List.length_map])|intro _)
   exact finW_ret (by simp [get])
  | true=>
  rw [hs] at hd hsel
  rw [hm] at hd hnm
  rcases last_cases s.keys with ⟨hk0,hlo⟩|⟨kd0,kl,hk0,hlo⟩
  ·rw [hlo] at hd
   simp only [Bool.false_and,Bool.true_and] at hd
   subst hd
   simp only [push_cast,seval,reduceEqDiff,hlt0,hget,if_pos hbd,f1,f1',List.length_map,hk0,List.map_nil,List.length_nil]
   repeat' (first|(((first|apply condU_s|apply gdU_t|apply gdU_f)<;>intro _h)<;>simp only [push_cast,seval,reduceEqDiff,_h,hlt0,hget,if_pos hbd,f1,f1',List.length_map,hk0,List.map_nil,List.length_nil])|((first|refine c_call (by exact hsel) ?_|refine c_call (by exact hnm) ?_);simp only [push_cast,seval,reduceEqDiff,hlt0,hget,if_pos hbd,f1,f1',List.length_map,hk0,List.map_nil,List.length_nil])|intro _)
   exact finW_ret (by simp [get])
  ·have hkl:s.keys.length=kd0.length+1:=by rw [hk0];simp
   have hne:((s.keys.length:Int) == 0)=false:=by rw [hkl];simp;omega
   have hw1:IntKind.i64.wrap ((s.keys.length:Int)-1)=(kd0.length:Int):=by rw [wrap64 (by omega) (by omega)];omega
   have hgl:(s.keys.map V.s)[kd0.length]? = some (.s kl):=by rw [hk0,List.getElem?_map];simp
   have hltk:kd0.length<s.keys.length:=by omega
   cases hlk:(kl == kOtherS) with
   | false=>
    have hbk:(kl == [111,116,104,101,114])=false:=hlk
    rw [hlo,hlk] at hd
    simp only [Bool.false_and,Bool.true_and] at hd
    subst hd
    simp only [push_cast,seval,reduceEqDiff,hlt0,hget,if_pos hbd,f1,f1',List.length_map,hne,hw1,hgl,if_pos hltk,hbk]
    repeat' (first|(((first|apply condU_s|apply gdU_t|apply gdU_f)<;>intro _h)<;>simp only [push_cast,seval,reduceEqDiff,_h,hlt0,hget,if_pos hbd,f1,f1',List.length_map,hne,hw1,hgl,if_pos hltk,hbk])|((first|refine c_call (by exact hsel) ?_|refine c_call (by exact hnm) ?_);simp only [push_cast,seval,reduceEqDiff,hlt0,hget,if_pos hbd,f1,f1',List.length_map,hne,hw1,hgl,if_pos hltk,hbk])|intro _)
    exact finW_ret (by simp [get])
   | true=>
    have hbk:(kl == [111,116,104,101,114])=true:=hlk
    rw [hlo,hlk] at hd
    simp only [Bool.true_and] at hd
    simp only [push_cast,seval,reduceEqDiff,hlt0,hget,if_pos hbd,f1,f1',List.length_map,hne,hw1,hgl,if_pos hltk,hbk]
    repeat' (first|(((first|apply condU_s|apply gdU_t|apply gdU_f)<;>intro _h)<;>simp only [push_cast,seval,reduceEqDiff,_h,hlt0,hget,if_pos hbd,f1,f1',List.length_map,hne,hw1,hgl,if_pos hltk,hbk])|((first|refine c_call (by exact hsel) ?_|refine c_call (by exact hnm) ?_);simp only [push_cast,seval,reduceEqDiff,hlt0,hget,if_pos hbd,f1,f1',List.length_map,hne,hw1,hgl,if_pos hltk,hbk])|intro _)
    rename_i b1 b2 b3 b4
    have hx:n<n+1+b1/\n+1+b1<n+1+b1+1+b2+1+b3+1+b4:=by omega
    generalize n+1+b1+1+b2+1+b3+1+b4=n2 at *
    generalize n+1+b1=x0 at *
    obtain ⟨hx1,hx2⟩:=hx
    have g1:∀j q:Nat,((x0,j)=(n0,q))=False:=fun j q=>eq_false fun he=>by injection he with h1 h2;omega
    have g1':∀j q:Nat,((n0,q)=(x0,j))=False:=fun j q=>eq_false fun he=>of_eq_false (g1 j q) he.symm
    clear hk0 hlo hkl hne hw1 hgl hltk hbk hlk hsel hnm f1 f1'
    refine aWP_loopW s.keys.length (Inv:=fun m st=>∃kd kr n,s.keys=kd++kr/\m=kr.length/\(nodupK kd kr&&(!done.any (selIs s.kind s.name)&&soundGo (done++[s]) rest)&&T)=S/\x0<n/\st=⟨[(1,.ref (n0,1) 0),(3,.i .i64 done.length),(4,.ref (x0,4) 0),(9,.sl (L.map Sel.enc)),(10,.i .i64 L.length),(11,.i .i64 done.length),(44,.sl (s.keys.map V.s)),(45,.i .i64 s.keys.length),(46,.i .i64 kd.length)],[((x0,4),.box (.agg [.i .i64 s.kind,.s s.name,.sl (s.keys.map V.s)])),((n0,1),.box (.agg [.sl (L.map Sel.enc),.sl (VS.map vEnc)]))],n⟩) ⟨_,StLe.refl,[],s.keys,_,rfl,rfl,hd,hx2,rfl⟩ ?_
    clear hd
    rintro m _ ⟨kd,kr,n3,hkz,rfl,hd,hn3,rfl⟩
    cases kr with
    | nil=>
     have hlt1:decide ((kd.length:Int)<(s.keys.length:Int))=false:=by rw [hkz];simp
     rw [nodupK,Bool.true_and] at hd
     have han:=anySel W0 (l:=done) (p:=selIs s.kind s.name) (σ:=[((x0,4),.box (.agg [.i .i64 s.kind,.s s.name,.sl (s.keys.map V.s)]))]) (first:=[]) (caps:=[.ref (x0,4) 0]) (by omega) (fun t _=>c_sound1 W0 t s (x0,4) _ (by simp [lk]))
     have htk:(if 0<=done.length/\done.length<=L.length then some (V.sl (List.take done.length (L.map Sel.enc))) else none)=some (V.sl (done.map Sel.enc)):=by
      rw [if_pos ⟨Nat.zero_le _,by omega⟩,hz];simp
     have hcel:∀y∈L.map Sel.enc,(cells y).length=3:=fun y hy=>by obtain ⟨x,_,rfl⟩:=List.mem_map.1 hy;rfl
     generalize hAN:done.any (selIs s.kind s.name)=AN at *
     cases AN with
     | true=>
      simp only [bq,if_true,if_false,Int.reduceBEq,reduceCtorEq] at hd
      subst hd
      simp only [push_cast,seval,reduceEqDiff,hlt1,List.length_map,g1,g1',htk,eq_true hcel]
      intros
      refine c_callr han (fun i e h=>lk_app_left (τ:=[_]) h) ?_
      simp only [push_cast,seval,reduceEqDiff,hlt1,List.length_map,g1,g1',htk,eq_true hcel]
      intros
      exact finW_ret (by simp [get])
     | false=>
      simp only [bq,if_true,if_false,Int.reduceBEq,reduceCtorEq] at hd
      simp only [push_cast,seval,reduceEqDiff,hlt1,List.length_map,g1,g1',htk,eq_true hcel,wrap_zip s (done:=done) (by omega)]
      intros
      refine c_callr han (fun i e h=>lk_app_left (τ:=[_]) h) ?_
      simp only [push_cast,seval,reduceEqDiff,hlt1,List.length_map,g1,g1',htk,eq_true hcel,wrap_zip s (done:=done) (by omega)]
      intros
      exact ⟨_,_,Nat.lt_succ_self _,StLe.drop1 (by simp [lk,g1']) (Nat.le_refl _),done++[s],rest,_,by rw [hz];simp,rfl,hd,by omega,rfl⟩
    | cons key kr=>
     have hlt1:decide ((kd.length:Int)<(s.keys.length:Int))=true:=by rw [hkz];simp;omega
     have hkb:=zip_bd hkz
     rw [nodupK] at hd
     have hgk:(s.keys.map V.s)[kd.length]? = some (.s key):=by rw [hkz,List.getElem?_map,List.getElem?_append_right (by simp)];simp
     have htk:(if 0<=kd.length/\kd.length<=s.keys.length then some (V.sl (List.take kd.length (s.keys.map V.s))) else none)=some (V.sl (kd.map V.s)):=by
      rw [if_pos ⟨Nat.zero_le _,by omega⟩,hkz];simp
     have hcel:∀y∈s.keys.map V.s,(cells y).length=1:=fun y hy=>by obtain ⟨x,_,rfl⟩:=List.mem_map.1 hy;rfl
     have hin:=c_containsS W0 kd key (by omega)
     cases hc:kd.contains key with
     | true=>
      rw [hc] at hd hin
      simp only [bq,if_true,if_false,Int.reduceBEq,reduceCtorEq] at hd
      subst hd
      simp only [push_cast,seval,reduceEqDiff,hlt1,List.length_map,g1,g1',htk,hgk,if_pos hkb,eq_true hcel]
      repeat' (first|(((first|apply condU_s|apply gdU_t|apply gdU_f)<;>intro _h)<;>simp only [push_cast,seval,reduceEqDiff,_h,hlt1,List.length_map,g1,g1',htk,hgk,if_pos hkb,eq_true hcel])|(refine c_call (by exact hin) ?_;simp only [push_cast,seval,reduceEqDiff,hlt1,List.length_map,g1,g1',htk,hgk,if_pos hkb,eq_true hcel])|intro _)
      exact finW_ret (by simp [get])
     | false=>
      rw [hc] at hd hin
      simp only [bq,if_true,if_false,Int.reduceBEq,reduceCtorEq] at hd
      simp only [push_cast,seval,reduceEqDiff,hlt1,List.length_map,g1,g1',htk,hgk,if_pos hkb,eq_true hcel,wrap_zip key (done:=kd) (by omega)]
      repeat' (first|(((first|apply condU_s|apply gdU_t|apply gdU_f)<;>intro _h)<;>simp only [push_cast,seval,reduceEqDiff,_h,hlt1,List.length_map,g1,g1',htk,hgk,if_pos hkb,eq_true hcel,wrap_zip key (done:=kd) (by omega)])|(refine c_call (by exact hin) ?_;simp only [push_cast,seval,reduceEqDiff,hlt1,List.length_map,g1,g1',htk,hgk,if_pos hkb,eq_true hcel,wrap_zip key (done:=kd) (by omega)])|intro _)
      exact ⟨_,_,Nat.lt_succ_self _,StLe.refl,kd++[key],kr,_,by rw [hkz];simp,rfl,hd,by omega,rfl⟩
theorem retS_weak {P:Program} {W0:World} {f:FuncId} {args args':List V} {σ σ':Sto} {v:V} (h:RetS P W0 f args' σ v σ') (hl:args.length=args'.length)
  (ha:∀(k:Nat) (a a':V),args[k]? = some a->args'[k]? = some a'->VLe (fun _=>none) a a'):RetS P W0 f args σ v σ' where
 callable:=h.callable
 dom:=h.dom
 run:=fun n w μ H vals hp hv=>h.run n w μ H vals hp ⟨by rw [<-hl];exact hv.len,fun k c x hc hx=>by
  have hk:k<args.length:=by rw [hl];exact (List.getElem?_eq_some_iff.1 hc).1
  have hg:args[k]? = some args[k]:=List.getElem?_eq_getElem hk
  exact VRel.le (fun _ _ h=>h) (fun _ _ h=>by cases h) (ha k _ _ hg hc) (hv.at_ k _ x hg hx)⟩
def VLs (φ:Id->Option (List V)):List V->List V->Prop
 | [],[]=>True
 | a::xs,b::ys=>(VLe φ a b/\(cells b).length=(cells a).length/\a.ok=true/\b.ok=true)/\VLs φ xs ys
 | _,_=>False
theorem VLs.at_ {φ:Id->Option (List V)}:∀{xs ys:List V},VLs φ xs ys->xs.length=ys.length/\∀(k:Nat) (c c':V),xs[k]? = some c->ys[k]? = some c'->VLe φ c c'/\(cells c').length=(cells c).length/\c.ok=true/\c'.ok=true
 | [],[],_=>⟨rfl,fun k c c' h=>by simp at h⟩
 | a::xs,b::ys,h=>by
  obtain ⟨h1,h2⟩:=h
  obtain ⟨h3,h4⟩:=VLs.at_ h2
  refine ⟨by simp [h3],fun k c c' hc hc'=>?_⟩
  cases k with
  | zero=>simp at hc hc';subst hc hc';exact h1
  | succ k=>exact h4 k c c' (by simpa using hc) (by simpa using hc')
theorem vle_slL {φ:Id->Option (List V)} {xs ys:List V} (h:VLs φ xs ys):VLe φ (.sl xs) (.sl ys):=.sl _ _ h.at_.1 (fun k c c' h1 h2=>(h.at_.2 k c c' h1 h2).1) (fun k c c' h1 h2=>(h.at_.2 k c c' h1 h2).2)
theorem vle_agL {φ:Id->Option (List V)} {xs ys:List V} (h:VLs φ xs ys):VLe φ (.agg xs) (.agg ys):=.agg _ _ h.at_.1 (fun k c c' h1 h2=>(h.at_.2 k c c' h1 h2).1)
def tA:Part:=⟨1,[97],[],[],[],[]⟩
def tX:Part:=⟨1,[120],[],[],[],[]⟩
def tC:Part:=⟨10,[],[],[],[],[]⟩
def awakeP:List Part:=[tA,⟨7,[],[110],[],[([111,110,101],[tX]),([111,116,104,101,114],[tC])],[]⟩]
def litT (k:Int) (t:Bytes):V:=.agg [.i .i64 k,.s t,.s [],.s [],.nil,.nil]
def awakeV:V:=.sl [litT 1 [97],.agg [.i .i64 7,.s [],.s [110],.s [],.sl [.agg [.s [111,110,101],.sl [litT 1 [120]]],.agg [.s [111,116,104,101,114],.sl [litT 10 []]]],.nil]]
theorem vle_lit (φ:Id->Option (List V)) (k:Int) (t:Bytes):VLe φ (litT k t) (Part.enc ⟨k,t,[],[],[],[]⟩):=by
 rw [Part.enc_eq]
 exact vle_agL ⟨⟨.refl _,rfl,rfl,rfl⟩,⟨.refl _,rfl,rfl,rfl⟩,⟨.refl _,rfl,rfl,rfl⟩,⟨.refl _,rfl,rfl,rfl⟩,⟨.nil,rfl,rfl,rfl⟩,⟨.nil,rfl,rfl,rfl⟩,trivial⟩
theorem vle_awake (φ:Id->Option (List V)):VLe φ awakeV (.sl (awakeP.map Part.enc)):=by
 have l1:∀k t,VLe φ (.sl [litT k t]) (.sl [Part.enc ⟨k,t,[],[],[],[]⟩]):=fun k t=>vle_slL ⟨⟨vle_lit φ k t,rfl,rfl,rfl⟩,trivial⟩
 refine vle_slL ⟨⟨vle_lit φ 1 [97],rfl,rfl,rfl⟩,⟨?_,rfl,rfl,rfl⟩,trivial⟩
 rw [Part.enc_eq]
 refine vle_agL ⟨⟨.refl _,rfl,rfl,rfl⟩,⟨.refl _,rfl,rfl,rfl⟩,⟨.refl _,rfl,rfl,rfl⟩,⟨.refl _,rfl,rfl,rfl⟩,⟨?_,rfl,rfl,rfl⟩,⟨.nil,rfl,rfl,rfl⟩,trivial⟩
 exact vle_slL ⟨⟨vle_agL ⟨⟨.refl _,rfl,rfl,rfl⟩,⟨l1 1 [120],rfl,rfl,rfl⟩,trivial⟩,rfl,rfl,rfl⟩,⟨vle_agL ⟨⟨.refl _,rfl,rfl,rfl⟩,⟨l1 10 [],rfl,rfl,rfl⟩,trivial⟩,rfl,rfl,rfl⟩,trivial⟩
theorem dec01:decN 0=[48]/\decN 1=[49]:=by constructor<;>(unfold decN Lib.decDigits;rfl)
def tP:Part:=⟨7,[],[110],[],[([111,110,101],[tX]),([111,116,104,101,114],[tC])],[]⟩
theorem awake_lvs:lvsPs awakeP [] 0 []=[([48],[tA]),([49,47,111,110,101,47,48],[tX]),([49,47,111,116,104,101,114,47,48],[tC]),([49],[])]:=by
 have s1:tA.solid=true:=rfl
 have s2:tP.solid=false:=rfl
 have s3:tX.solid=true:=rfl
 have s4:tC.solid=true:=rfl
 have l2:∀pa,tP.lvs pa=lvsCs [([111,110,101],[tX]),([111,116,104,101,114],[tC])] pa:=fun pa=>by rw [Part.lvs_eq];rfl
 show lvsPs [tA,tP] [] 0 []=_
 simp only [lvsPs_cons,s1,s2,s3,s4,if_true,if_false,Bool.false_eq_true,lvsPs_nil,l2,lvsCs_cons,lvsCs,Nat.zero_add,dec01.1,dec01.2]
 rfl
def loc0:Loc:=⟨[],[],[],[],[],[.s [],.s [],.s [],.s [],.i .i64 0,.i .i64 0,.nil,.nil,.nil,.nil,.nil]⟩
theorem awake_valid:validP awakeP=true:=by decide
theorem awake_flat:flatP loc0 awakeP=(([⟨7,[110],[[111,110,101],[111,116,104,101,114]]⟩],[[⟨1,[97,120],[],[],[],[]⟩],[tA,⟨3,[],[110],[],[],[]⟩]]),0):=by rfl
theorem c_FlatG (l:Loc) (ps:List Part) (hrl:l.rest.length=11) (hb:wtRules l.card+wtRules l.ord<=2^24) (hw:wtPs ps<=2^20) :
  RetS Tryz.prog W0 16 [l.enc,.sl (ps.map Part.enc)] [] (.tup [formV (flatP l ps).1,.i .i64 (flatP l ps).2]) []:=
 c_Flat W0 l ps rfl hrl hb (by omega) (by have:=sels_len ps;omega) (fun s hs=>by have:=sels_keys ps s hs;exact ⟨this.1,by omega⟩) (fun s hs k hk=>by have:=sels_klen ps s hs k hk;omega)
  (fun hv=>valid_ok (valid_wf (by rw [<-valid_same];exact hv)))
theorem c_rFlatG (l:Loc) (ps:List Part) (hrl:l.rest.length=11) (hb:wtRules l.card+wtRules l.ord<=2^24) (hw:wtPs ps<=2^20) :
  RetS Tryz.prog W0 17 [l.enc,.sl (ps.map Part.enc)] [] (.tup [formV (flatP l ps).1,.i .i64 (flatP l ps).2]) []:=by
 rw [<-flat_same]
 exact c_rFlat W0 l ps rfl hrl hb (by omega) (by have:=sels_len ps;omega) (fun s hs=>by have:=sels_keys ps s hs;exact ⟨this.1,by omega⟩) (fun s hs k hk=>by have:=sels_klen ps s hs k hk;omega)
  (fun hv=>valid_ok (valid_wf hv)) (fun hv i=>decK_ok (fun s hs=>(sels_keys ps s hs).1) (sels_ok (valid_wf hv)) i) (fun hv s hs _ k hk=>(coll_ok (valid_wf hv) s hs k hk).1)
theorem c_awake:RetS Tryz.prog W0 13 [] [] (.b true) []:=by
 have hI:∀i:Nat,i<=99->RetS Tryz.prog W0 150 [.i .i64 i] [] (.s (decN i)) []/\(decN i).length<=20:=fun i hi=>by
  refine ⟨c_itoa W0 i (by omega),?_⟩
  unfold decN Lib.decDigits
  split
  ·simp
  ·unfold Lib.decDigits
   rw [dif_pos (by omega)]
   simp
 have hwt:wtPs awakeP<=99:=by decide
 have hlv:=c_Leaves W0 99 hI awakeP (by omega) (by omega) awake_valid
 rw [awake_lvs] at hlv
 have hlv2:RetS Tryz.prog W0 38 [awakeV] [] _ []:=retS_weak hlv rfl (fun k a a' h1 h2=>by
  match k with
  | 0=>simp at h1 h2;subst h1 h2;exact vle_awake _
  | k+1=>simp at h1)
 have hfl:=c_FlatG W0 loc0 awakeP rfl (by decide) (by omega)
 rw [awake_flat] at hfl
 have hfl2:RetS Tryz.prog W0 16 [.agg [.s [],.s [],.s [],.nil,.nil,.s [],.s [],.s [],.s [],.i .i64 0,.i .i64 0,.nil,.nil,.nil,.nil,.nil],awakeV] [] _ []:=retS_weak hfl rfl (fun k a a' h1 h2=>by
  match k with
  | 0=>
   simp only [List.getElem?_cons_zero,Option.some.injEq] at h1 h2;subst h1 h2
   exact vle_agL ⟨⟨.refl _,rfl,rfl,rfl⟩,⟨.refl _,rfl,rfl,rfl⟩,⟨.refl _,rfl,rfl,rfl⟩,⟨.nil,rfl,rfl,rfl⟩,⟨.nil,rfl,rfl,rfl⟩,⟨.refl _,rfl,rfl,rfl⟩,⟨.refl _,rfl,rfl,rfl⟩,⟨.refl _,rfl,rfl,rfl⟩,⟨.refl _,rfl,rfl,rfl⟩,⟨.refl _,rfl,rfl,rfl⟩,⟨.refl _,rfl,rfl,rfl⟩,⟨.refl _,rfl,rfl,rfl⟩,⟨.refl _,rfl,rfl,rfl⟩,⟨.refl _,rfl,rfl,rfl⟩,⟨.refl _,rfl,rfl,rfl⟩,⟨.refl _,rfl,rfl,rfl⟩,trivial⟩
  | 1=>simp only [List.getElem?_cons_zero,List.getElem?_cons_succ,Option.some.injEq] at h1 h2;subst h1 h2;exact vle_awake _
  | k+2=>simp at h1)
 have hso:=c_Sound W0 ([⟨7,[110],[[111,110,101],[111,116,104,101,114]]⟩],[[⟨1,[97,120],[],[],[],[]⟩],[tA,⟨3,[],[110],[],[],[]⟩]]) (by decide) (fun s hs=>by simp at hs;subst hs;decide)
 rw [show soundP ([⟨7,[110],[[111,110,101],[111,116,104,101,114]]⟩],[[⟨1,[97,120],[],[],[],[]⟩],[tA,⟨3,[],[110],[],[],[]⟩]])=true from rfl] at hso
 have hpl:=c_plain W0 _ [tA,⟨3,[],[110],[],[],[]⟩] (Nat.lt_succ_self _) (by decide)
 rw [show plainPs [tA,⟨3,[],[110],[],[],[]⟩]=true from rfl] at hpl
 have heq:=c_rEqual W0 _ [⟨1,[97,120],[],[],[],[]⟩] [⟨1,[97,120],[],[],[],[]⟩] (Nat.lt_succ_self _) (by decide)
 rw [eqPs_refl] at heq
 have heq2:RetS Tryz.prog W0 36 [.sl ([(⟨1,[97,120],[],[],[],[]⟩:Part)].map Part.enc),.sl [litT 1 [97,120]]] [] _ []:=retS_weak heq rfl (fun k a a' h1 h2=>by
  match k with
  | 0=>simp only [List.getElem?_cons_zero,Option.some.injEq] at h1 h2;subst h1 h2;exact .refl _
  | 1=>simp only [List.getElem?_cons_zero,List.getElem?_cons_succ,Option.some.injEq] at h1 h2;subst h1 h2;exact vle_slL ⟨⟨vle_lit _ _ _,rfl,rfl,rfl⟩,trivial⟩
  | k+2=>simp at h1)
 unfold formV at hfl2 hso
 simp only [List.map_cons,List.map_nil] at hlv2 hfl2 hso hpl heq2
 simp only [vEnc,List.map_cons,List.map_nil] at hfl2 hso
 generalize [Part.enc ⟨1,[97,120],[],[],[],[]⟩]=V0 at *
 generalize [tA.enc,Part.enc ⟨3,[],[110],[],[],[]⟩]=V1 at *
 generalize V.sl [Sel.enc ⟨7,[110],[[111,110,101],[111,116,104,101,114]]⟩]=SL at *
 rw [leafV_eq ([49,47,111,110,101,47,48],[tX])] at hlv2
 generalize leafV ([48],[tA])=L0 at *
 generalize leafV ([49,47,111,116,104,101,114,47,48],[tC])=L2 at *
 generalize leafV ([49],[])=L3 at *
 generalize V.sl (List.map Part.enc [tX])=LX at *
 unfold awakeV litT at hlv2 hfl2
 unfold litT at heq2
 clear hlv hfl heq hI hwt
 refine fn_retW (vs:=[.b true]) f13ok (by simp) (by simp) fun n0 hn0=>?_
 clear hn0
 simp only [push_cast,seval,reduceEqDiff,show (([49,47,111,110,101,47,48]:Bytes) == [49,47,111,110,101,47,48])=true from rfl]
 repeat' (first|(((first|apply condU_s|apply gdU_t|apply gdU_f)<;>intro _h)<;>simp only [push_cast,seval,reduceEqDiff,_h,show (([49,47,111,110,101,47,48]:Bytes) == [49,47,111,110,101,47,48])=true from rfl])|((first|refine c_call (by exact hlv2) ?_|refine c_call (by exact hfl2) ?_|refine c_call (by exact heq2) ?_|refine c_call (by exact hso) ?_|refine c_call (by exact hpl) ?_);simp only [push_cast,seval,reduceEqDiff,show (([49,47,111,110,101,47,48]:Bytes) == [49,47,111,110,101,47,48])=true from rfl])|intro _)
 all_goals (first|(refine finW_ret ?_;simp [get]<;>(intros;omega);done)|(refine finW_rets ?_;simp [push_cast,get];done)|skip)
theorem flatP_form (l:Loc) (ps:List Part):(flatP l ps).1=([],[])\/(validB ps=true/\combP 1 (selsP ps)<=400/\(flatP l ps).1=(selsP ps,varsOf (pkP l (selsP ps)) (selsP ps) ps (combP 1 (selsP ps)))):=by
 unfold flatP
 rw [valid_same]
 cases hv:validB ps with
 | false=>left;rfl
 | true=>
  simp only [Bool.not_true,Bool.false_eq_true,if_false]
  by_cases h:decide ((combP 1 (selsP ps):Int)>400)=true
  ·rw [if_pos h];left;rfl
  ·rw [if_neg h]
   split
   ·left;rfl
   ·right;refine ⟨trivial,?_,rfl⟩
    simp at h;omega
theorem flatP_bounds (l:Loc) (ps:List Part) (hw:wtPs ps<=2^20):(flatP l ps).1.1.length<=2^26/\(flatP l ps).1.2.length<=400/\(∀s∈(flatP l ps).1.1,s.keys.length<=2^26)/\∀v∈(flatP l ps).1.2,wtPs v<=2^19:=by
 rcases flatP_form l ps with h|⟨hv,hc,h⟩
 ·rw [h];exact ⟨by decide,by decide,(fun s (hs:s∈[])=>by cases hs),(fun v (hv:v∈[])=>by cases hv)⟩
 ·rw [h]
  refine ⟨by have:=sels_len ps;simp only;omega,by simp [varsOf];omega,fun s hs=>by have:=(sels_keys ps s hs).2;omega,fun v hm=>?_⟩
  obtain ⟨i,_,rfl⟩:=List.mem_map.1 hm
  exact vars_wt l hv _ _
theorem c_VariantsFlat (l:Loc) (ps:List Part) (hrl:l.rest.length=11) (hb:wtRules l.card+wtRules l.ord<=2^20) (hw:wtPs ps<=2^20) :
  RetS Tryz.prog W0 3 [l.enc,.sl (ps.map Part.enc)] [] (.b true) []:=by
 have ha:=c_awake W0
 have hfr:=c_fewRules W0 l rfl (by omega)
 have hfe:=c_few W0 ps (by omega)
 have hfl:=c_FlatG W0 l ps hrl (by omega) hw
 have hrf:=c_rFlatG W0 l ps hrl (by omega) hw
 obtain ⟨b1,b2,b3,b4⟩:=flatP_bounds l ps hw
 generalize (flatP l ps).1=F at *
 generalize (flatP l ps).2=E at *
 have hfo:=c_formOf W0 F (by omega)
 have hsf:=c_SameForm W0 F (by omega) (by omega) (fun s hs=>by have:=b3 s hs;omega) (fun v hv=>by have:=b4 v hv;omega)
 obtain ⟨r1,r2,r3,r4,r5,r6,r7,r8,r9,r10,r11,hrest⟩:=rest11 hrl
 have hLV:l.enc = .agg [.s l.tag,.s l.parent,.s l.dir,.sl (l.card.map Rule.enc),.sl (l.ord.map Rule.enc),r1,r2,r3,r4,r5,r6,r7,r8,r9,r10,r11]:=by
  rw [Loc.enc_eq,hrest]
 rw [hLV] at hfl hrf hfr⊢
 generalize (fewRs l.card&&fewRs l.ord)=FR at *
 generalize fewPs ps=FP at *
 have hee:(E == E)=true:=by simp
 unfold formV at hfl hrf hfo hsf
 cases FR<;>cases FP
 all_goals
  refine fn_retW (vs:=[.b true]) f3ok (by simp) (by simp) fun n0 hn0=>?_
  clear hn0
  simp only [push_cast,seval,reduceEqDiff,hee]
  repeat' (first|(((first|apply condU_s|apply gdU_t|apply gdU_f)<;>intro _h)<;>simp only [push_cast,seval,reduceEqDiff,_h,hee])|((first|refine c_call (by exact ha) ?_|refine c_call (by exact hfr) ?_|refine c_call (by exact hfe) ?_|refine c_call (by exact hfl) ?_|refine c_call (by exact hrf) ?_|refine c_call (by exact hfo) ?_|refine c_call (by exact hsf) ?_);simp only [push_cast,seval,reduceEqDiff,hee])|intro _)
  all_goals (first|(refine finW_ret ?_;simp [get]<;>(intros;omega);done)|(refine finW_rets ?_;simp [push_cast,get];done)|skip)
end Go.Ir
