/-
  THE IR CALCULUS, part L: code, and what may be forgotten.
  THE IR CALCULUS, part M: what may be forgotten
  THE IR CALCULUS, part N: the contract of a function from ..
  THE IR CALCULUS, part P: a step of an iteration over a map, ..
  THE IR CALCULUS, part Q: a call that hands back what it ..
  Symbolic steps of the IR: one law for each operation, for ..
  Symbolic steps of the IR, second part.
  Symbolic steps of the IR: what their functions yield at ..
  Symbolic steps of the IR: the same laws, with the slots' ..
  THE JUDGEMENT AS EQUATIONS: what a region and code ask, ..
  The laws of a walk, as one set for simp
  Messages as plain Lean data: parts and cases, their form as ..
  The IR of functions of the program, printed by our own tool
  Contracts: short.
  What the contracts share.
  What the contracts share: calls that look at one entry of ..
  Contracts: the functions on bytes and names.
  Contracts: names, skeletons, digits.
  The IR of generic functions of package slices, with ..
  Contracts of generic functions of package slices, for any ..
  Contracts of generic functions of package slices over a ..
  Contracts: Plain, Equal, of the program and of the ..
  Contracts: Plain of the reference
  Contracts: Depth, Size, Few, In of the reference.
-/
import Derived.Test.YtkeebddaokieiaaGreatDoorPaa
import Derived.Laws.NewFold
import Derived.Test.YtkeebddaokieiaaGreatDoorProg
import Derived.KernelRfl
set_option linter.defProp false
set_option linter.unusedSectionVars false
set_option linter.unusedSimpArgs false
set_option linter.unusedVariables false
open Nat (reduceEqDiff)
section
namespace Go.Ir
open Go.RowKit
structure St where
 env:Env
 σ:Sto
 n:Nat
structure Base where
 μ:Id->Option Value
 H:Addr->Option Value
 σ:Sto
 w:World
 n:Nat
def At (W0:World) (nt:Nat) (B:Base) (st:St) (a:Act) (w:World):Prop:=
 ∃μ H,Rl μ H nt st.env a/\Hp W0 st.σ st.n μ H w/\Fr B.μ B.H B.σ B.w μ H st.σ w/\(∀id,id.1<B.n->B.μ id=none->μ id=none)/\B.n<=st.n
def restrict (live:List Nat) (env:Env):Env:=live.map fun s=>(s,get env s)
theorem get_restrict (live:List Nat) (env:Env) (s:Nat):get (restrict live env) s=get env s\/get (restrict live env) s = .any:=by
 induction live with
 | nil=>exact .inr rfl
 | cons t r ih=>
  simp only [restrict,List.map_cons,get]
  by_cases h:t=s
  ·subst h;exact .inl (by simp)
  ·simp only [if_neg h];exact ih
def okNext (nt:Nat) (ops:Array Oper) (d1 d2:Nat) (x:X):Bool:=
 match ops.toList with
 | [o1,o2]=>o1.dst == some d1&&o1.guard.isNone&&(match o1.op with|.next x' false=>okX x' x|_=>false)&&o2.dst == some d2&&o2.guard.isNone&&(match o2.op with|.extract (.tmp t) 0=>t == d1|_=>false)&&decide (d1<nt)&&decide (d2<nt)
 | _=>false
def okCallX (P:Program) (nt:Nat) (o:Oper) (d:Nat) (f:FuncId) (args:List X):Bool:=
 o.dst == some d&&decide (d<nt)&&o.guard.isNone&&(match o.op with|.call c=>(match c.callee with|.value (.func f')=>f' == f&&okXs c.args.toList args|_=>false)|_=>false)
def okOpx (P:Program) (nt:Nat) (ops:Array Oper) (l1:List I) (d:Nat) (f:FuncId) (args:List X) (l2:List I):Bool:=
 okIs P nt ops (ops.toList.take l1.length) l1&&(match ops[l1.length]? with|some o=>okCallX P nt o d f args|none=>false)&&okIs P nt ops (ops.toList.drop (l1.length+1)) l2&&dstsOk l1&&dstsOk l2
def okCallXV (nt:Nat) (o:Oper) (d:Nat) (x:X) (args:List X):Bool:=
 o.dst == some d&&decide (d<nt)&&o.guard.isNone&&(match o.op with|.call c=>(match c.callee with|.value h'=>okX h' x&&okXs c.args.toList args|_=>false)|_=>false)
def okOpxv (P:Program) (nt:Nat) (ops:Array Oper) (l1:List I) (d:Nat) (x:X) (args:List X) (l2:List I):Bool:=
 okIs P nt ops (ops.toList.take l1.length) l1&&(match ops[l1.length]? with|some o=>okCallXV nt o d x args|none=>false)&&okIs P nt ops (ops.toList.drop (l1.length+1)) l2&&dstsOk l1&&dstsOk l2
def okOpxd (P:Program) (nt:Nat) (ops:Array Oper) (l1:List I) (d:Nat) (f:FuncId) (args:List X) (paths:List (List Nat)):Bool:=
 okIs P nt ops (ops.toList.take l1.length) l1&&(match ops[l1.length]? with|some o=>okCallX P nt o d f args|none=>false)&&decide (ops.size=l1.length+1)&&dstsOk l1&&(P.follows .mixedOrders&&edgesOk ops&&orderOk ops l1 paths) &&
  (List.range l1.length).all fun j=>paths.any fun p=>p.head? == some j&&p.getLast? == some l1.length&&pathOk ops p
def okCode (P:Program) (nt:Nat):Code->IC->Bool
 | .region _ ops draw,.ops l _ paths=>okIs P nt ops ops.toList l&&dstsOk l&&(!draw||(P.follows .mixedOrders&&edgesOk ops&&orderOk ops l paths))
 | .region _ ops false,.mnext d1 d2 x live=>okNext nt ops d1 d2 x
 | .region _ ops false,.opx l1 _ d f args l2 _=>okOpx P nt ops l1 d f args l2
 | .region _ ops true,.opxd l1 _ d f args _ paths=>okOpxd P nt ops l1 d f args paths
 | .region _ ops false,.opxv l1 _ d x args l2 _=>okOpxv P nt ops l1 d x args l2
 | .seq x y,.seq a b=>okCode P nt x a&&okCode P nt y b
 | .cond c x y,.cond c' a b=>okX c c'&&okCode P nt x a&&okCode P nt y b
 | .block id x,.block id' a=>id == id'&&okCode P nt x a
 | .loop x,.loop a=>okCode P nt x a
 | .exit id,.exit id'=>id == id'
 | .ret,.ret=>true
 | .skip,.skip=>true
 | x,.wk a=>okCode P nt x a
 | _,_=>false
def aWP (P:Program) (W0:World) (nt:Nat) (ic:IC) (Q:Exit->St->Prop) (st:St):Prop:=
 ∀code,okCode P nt code ic=true->∀B a w,At W0 nt B st a w->code.wp P (fun e a' w'=>∃st',Q e st'/\At W0 nt B st' a' w') a w
theorem aWP_wk {P:Program} {W0:World} {nt:Nat} {ic:IC} {Q:Exit->St->Prop} {st:St} (h:aWP P W0 nt ic Q st):aWP P W0 nt (.wk ic) Q st:=fun code hc=>h code (by cases code<;>simpa only [okCode] using hc)
def Then (P:Program) (W0:World) (nt:Nat) (b:IC) (Q:Exit->St->Prop):Exit->St->Prop
 | .normal,st=>aWP P W0 nt b Q st
 | e,st=>Q e st
def InBlock (id:Nat) (Q:Exit->St->Prop):Exit->St->Prop
 | .exit id',st=>if id'=id then Q .normal st else Q (.exit id') st
 | e,st=>Q e st
section rules
variable {P : Program} {W0 : World} {nt : Nat} {Q Q' : Exit → St → Prop} {st : St}
theorem aWP_mono {ic:IC} (h:aWP P W0 nt ic Q st) (hq:∀e st,Q e st->Q' e st):aWP P W0 nt ic Q' st:=
 fun code hc B a w hat=>wp_mono (h code hc B a w hat) fun e a w ⟨st',hq',ha⟩=>⟨st',hq _ _ hq',ha⟩
theorem aWP_seq {x y:IC} (h:aWP P W0 nt x (Then P W0 nt y Q) st):aWP P W0 nt (.seq x y) Q st:=by
 intro code hc B a w hat
 unfold okCode at hc
 split at hc<;>try (cases hc;done)
 all_goals rename_i heq
 all_goals try (cases heq;done)
 rename_i c1 c2 x' y'
 cases heq
 simp only [Bool.and_eq_true] at hc
 refine wp_seq (wp_mono (h c1 hc.1 B a w hat) fun e a w hh=>?_)
 obtain ⟨st',hq,ha⟩:=hh
 cases e with
 | normal=>exact hq c2 hc.2 B a w ha
 | exit id=>exact ⟨st',hq,ha⟩
 | goto l=>exact ⟨st',hq,ha⟩
 | ret=>exact ⟨st',hq,ha⟩
 | panic ch=>exact ⟨st',hq,ha⟩
 | outgrown=>exact ⟨st',hq,ha⟩
theorem aWP_skip (h:Q .normal st):aWP P W0 nt .skip Q st:=by
 intro code hc B a w hat
 cases code<;>simp [okCode] at hc
 exact wp_skip ⟨st,h,hat⟩
theorem aWP_ret (h:Q .ret st):aWP P W0 nt .ret Q st:=by
 intro code hc B a w hat
 cases code<;>simp [okCode] at hc
 exact wp_ret ⟨st,h,hat⟩
theorem aWP_exit {id:Nat} (h:Q (.exit id) st):aWP P W0 nt (.exit id) Q st:=by
 intro code hc B a w hat
 cases code<;>simp [okCode] at hc
 subst hc
 exact wp_exit ⟨st,h,hat⟩
theorem aWP_block {id:Nat} {x:IC} (h:aWP P W0 nt x (InBlock id Q) st):aWP P W0 nt (.block id x) Q st:=by
 intro code hc B a w hat
 cases code<;>simp [okCode] at hc
 obtain ⟨rfl,hc⟩:=hc
 refine wp_block (wp_mono (h _ hc B a w hat) fun e a w hh=>?_)
 obtain ⟨st',hq,ha⟩:=hh
 cases e with
 | exit id'=>
  simp only [InBlock] at hq
  simp only [Exit.inBlock]
  split
  ·rename_i hid;rw [if_pos hid] at hq;exact ⟨st',hq,ha⟩
  ·rename_i hid;rw [if_neg hid] at hq;exact ⟨st',hq,ha⟩
 | normal=>exact ⟨st',hq,ha⟩
 | goto l=>exact ⟨st',hq,ha⟩
 | ret=>exact ⟨st',hq,ha⟩
 | panic ch=>exact ⟨st',hq,ha⟩
 | outgrown=>exact ⟨st',hq,ha⟩
theorem aWP_cond {c:X} {x y:IC} {t:Bool} (ht:ev (get st.env) c = .b t) (hx:t=true->aWP P W0 nt x Q st) (hy:t=false->aWP P W0 nt y Q st):aWP P W0 nt (.cond c x y) Q st:=by
 intro code hc B a w hat
 cases code<;>simp [okCode] at hc
 obtain ⟨⟨h1,h2⟩,h3⟩:=hc
 have hat':=hat
 obtain ⟨μ,H,hr,_⟩:=hat
 have:=okX_rel hr h1
 rw [ht] at this
 exact wp_cond_split this.b_inv (fun h=>hx h _ h2 B a w hat') (fun h=>hy h _ h3 B a w hat')
theorem aWP_condU {c:X} {x y:IC} (ht:ev (get st.env) c = .ub) (hx:aWP P W0 nt x Q st) (hy:aWP P W0 nt y Q st):aWP P W0 nt (.cond c x y) Q st:=by
 intro code hc B a w hat
 cases code<;>simp [okCode] at hc
 obtain ⟨⟨h1,h2⟩,h3⟩:=hc
 have hat':=hat
 obtain ⟨μ,H,hr,_⟩:=hat
 have hv:=okX_rel hr h1
 rw [ht] at hv
 obtain ⟨t,e⟩:=hv.ub_inv
 exact wp_cond_split e (fun h=>hx _ h2 B a w hat') (fun h=>hy _ h3 B a w hat')
theorem loop_ind {c:Code} {Qc:Exit->Act->World->Prop} (I:Nat->Act->World->Prop) (round:∀m a w,I m a w->c.wp P (Exit.then (fun a' w'=>∃m',m'<m/\I m' a' w') Qc) a w) (m:Nat) (a:Act) (w:World) (h₀:I m a w):(Code.loop c).wp P Qc a w:=by
 intro b k cs
 have key:∀n a w,I n a w->∃e a' w',Qc e a' w'/\Arrives P (lone (b.at a (.code c :: .inLoop c::k)) cs w) b k cs e a' w':=by
  intro n
  induction n using Nat.strongRecOn with
  | _ n ih=>
   intro a w hI
   obtain ⟨e,a₁,w₁,hq,harr⟩:=round n a w hI b (.inLoop c::k) cs
   cases e with
   | normal=>
    obtain ⟨m',hlt,hI₁⟩:=hq
    obtain ⟨e₂,a₂,w₂,hq₂,harr₂⟩:=ih m' hlt a₁ w₁ hI₁
    exact ⟨e₂,a₂,w₂,hq₂,.of_steps (Steps.trans harr (.one step_inLoop)) harr₂⟩
   | exit id=>exact ⟨_,a₁,w₁,hq,.pass (x:=.inLoop c) rfl (fun _ _=>.inl (by simp)) harr⟩
   | goto l=>exact ⟨_,a₁,w₁,hq,.pass (x:=.inLoop c) rfl (fun _ _=>.inl (by simp)) harr⟩
   | ret=>exact ⟨_,a₁,w₁,hq,.pass (x:=.inLoop c) rfl (fun _ _=>.inl (by simp)) harr⟩
   | panic ch=>exact ⟨_,a₁,w₁,hq,.pass (x:=.inLoop c) rfl (fun _ _=>.inl (by simp)) harr⟩
   | outgrown=>exact ⟨_,a₁,w₁,hq,.pass (x:=.inLoop c) rfl (fun _ _=>.inl (by simp)) harr⟩
 obtain ⟨e,a',w',hq,harr⟩:=key m a w h₀
 exact ⟨e,a',w',hq,.of_steps (.one step_loop) harr⟩
def Round (Inv:Nat->St->Prop) (m:Nat) (Q:Exit->St->Prop):Exit->St->Prop
 | .normal,st=>∃m',m'<m/\Inv m' st
 | e,st=>Q e st
theorem aWP_loop {c:IC} {Inv:Nat->St->Prop} (round:∀m st,Inv m st->aWP P W0 nt c (Round Inv m Q) st) (m:Nat) (h:Inv m st):aWP P W0 nt (.loop c) Q st:=by
 intro code hc B a w hat
 cases code<;>simp [okCode] at hc
 rename_i body
 refine loop_ind (fun m a w=>∃st,Inv m st/\At W0 nt B st a w) (fun m a w hI=>?_) m a w ⟨st,h,hat⟩
 obtain ⟨st1,hinv,hat1⟩:=hI
 refine wp_mono (round m st1 hinv body hc B a w hat1) fun e a w hh=>?_
 obtain ⟨st',hq,ha⟩:=hh
 cases e with
 | normal=>obtain ⟨m',hlt,hi⟩:=hq;exact ⟨m',hlt,st',hi,ha⟩
 | exit id=>exact ⟨st',hq,ha⟩
 | goto l=>exact ⟨st',hq,ha⟩
 | ret=>exact ⟨st',hq,ha⟩
 | panic ch=>exact ⟨st',hq,ha⟩
 | outgrown=>exact ⟨st',hq,ha⟩
theorem Hp.more {σ:Sto} {n n':Nat} {μ:Id->Option Value} {H:Addr->Option Value} {w:World} (h:Hp W0 σ n μ H w) (hn:n<=n'):Hp W0 σ n' μ H w:=
 ⟨h.base,h.pins,h.ents,h.unp,h.sep,fun id hid=>h.bd id (Nat.le_trans hn hid)⟩
theorem Hp.drew {σ:Sto} {n:Nat} {μ:Id->Option Value} {H:Addr->Option Value} {w:World} (h:Hp W0 σ n μ H w):Hp W0 σ n μ H w.drew:=by
 refine ⟨h.base.drew,h.pins,fun id e hl=>?_,h.unp,h.sep,h.bd⟩
 exact (h.ents id e hl).keep (fun _ _ h=>h) (fun _ _ h=>h) (fun _ _=>rfl)
theorem aWP_ops {l:List I} {live:List Nat} {paths:List (List Nat)}
  (h:iops P W0 st.n l st.env st.σ fun env σ=>∀n',st.n<n'->Q .normal ⟨restrict live env,σ,n'⟩):aWP P W0 nt (.ops l live paths) Q st:=by
 intro code hc B a w hat
 cases code<;>simp only [okCode] at hc<;>try (cases hc;done)
 rename_i id ops draw
 simp only [Bool.and_eq_true,Bool.or_eq_true,Bool.not_eq_true'] at hc
 obtain ⟨⟨hok,hd⟩,hdraw⟩:=hc
 obtain ⟨μ,H,hr,hp,hf,hold,hn⟩:=hat
 obtain ⟨hlen,_⟩:=okIs_at hok
 have hls:l.length=ops.size:=by rw [<-hlen];simp
 have hmap:(List.range l.length).map (fun k=>l.getD k default)=l:=by
  apply List.ext_getElem?
  intro k
  by_cases hk:k<l.length
  ·simp [hk,List.getD]
  ·simp [hk]
 replace h:iops P W0 st.n l st.env st.σ fun env σ=>∃τ,Seq σ τ/\∀n',st.n<n'->Q .normal ⟨restrict live env,τ,n'⟩:=iops_mono (fun env σ hh=>⟨σ,Seq.refl _,hh⟩) h
 have hK:Resp fun env σ=>∃τ,Seq σ τ/\∀n',st.n<n'->Q .normal ⟨restrict live env,τ,n'⟩:=by
  intro env env' σ σ' hg hs hh
  obtain ⟨τ,h1,h2⟩:=hh
  refine ⟨τ,hs.symm.trans h1,fun n' hn'=>?_⟩
  have:restrict live env'=restrict live env:=List.map_congr_left fun s _=>by rw [hg s]
  rw [this]
  exact h2 n' hn'
 have fin:∀w0,(∀(env:Env) (σ:Sto) (a:Act) (w:World) (n:Nat) (μ':Id->Option Value) (H':Addr->Option Value),(∃τ,Seq σ τ/\∀n',st.n<n'->Q .normal ⟨restrict live env,τ,n'⟩)->Fr B.μ B.H B.σ B.w μ H st.σ w0->RI W0 nt st.n st.n l μ H st.σ w0 [] env σ a w n μ' H'->
   ∃st',Q .normal st'/\At W0 nt B st' a w):=by
  intro w0 env σ a w n μ' H' hq hf0 hri
  obtain ⟨τ,hs,hq⟩:=hq
  have hsub:∀id e,lk τ id=some e->lk σ id=some e:=fun id e h=>by rw [hs id];exact h
  have hfr:=hf0.trans hri.fr
  refine ⟨⟨restrict live env,τ,n⟩,hq n hri.ep_lt,μ',H',⟨hri.rl.size,hri.rl.defers,fun s=>?_⟩,hri.hp.part hsub,⟨hfr.mu,hfr.hp,hfr.size,hfr.keep,hfr.pin,fun bk hb ho=>hfr.dom bk hb ?_⟩,fun id hid h0=>?_,Nat.le_trans hn (Nat.le_of_lt hri.ep_lt)⟩
  rotate_left 1
  ·obtain ⟨id,e,hl,hbk⟩:=ho
   exact ⟨id,e,hsub _ _ hl,hbk⟩
  rotate_left 1
  ·rcases get_restrict live env s with h|h
   ·rw [h];exact hri.rl.at_ s
   ·rw [h];exact .any _
  ·exact hri.old id (Nat.lt_of_lt_of_le hid hn) (hold id hid h0)
 have free:∀(rem:List Nat),∀k∈rem,∀d,(l.getD k default).dst=some d->μ (st.n,d)=none:=fun rem k _ d _=>hp.bd (st.n,d) (Nat.le_refl _)
 cases draw with
 | false=>
  refine wp_region ?_
  refine seq_sound (W0:=W0) (ep:=st.n) (n0:=st.n) (μ0:=μ) (H0:=H) (σ0:=st.σ) (w0:=w) hok hd (fun env σ a w n μ' H' hq hri=>fin _ env σ a w n μ' H' hq hf hri) (List.range ops.size) st.env st.σ a w (st.n+1) μ H List.nodup_range (fun k hk=>by rw [hls];simpa using hk) ?_
   ⟨hr,hp.more (Nat.le_succ _),Nat.lt_succ_self _,Nat.le_refl _,free _,Fr.refl _ _ _ _,fun _ _ h=>h⟩
  rw [<-hls,hmap]
  exact h
 | true=>
  simp only [Bool.true_eq_false,false_or] at hdraw
  obtain ⟨⟨hmix,he⟩,hord⟩:=hdraw
  refine wp_region_draw fun t=>?_
  simp only [Region.schedule,hmix,Bool.true_or,if_true]
  refine wpAny_sound ops.size t _ a _ ?_
  have hfd:Fr B.μ B.H B.σ B.w μ H st.σ w.drew:=⟨hf.mu,hf.hp,hf.size,hf.keep,hf.pin,hf.dom⟩
  refine any_sound (W0:=W0) (ep:=st.n) (n0:=st.n) (μ0:=μ) (H0:=H) (σ0:=st.σ) (w0:=w.drew) hok hd he hord hK (fun env σ a w n μ' H' hq hri=>fin _ env σ a w n μ' H' hq hfd hri) ops.size (List.range ops.size) (Array.replicate ops.size false) st.env st.σ a w.drew (st.n+1) μ H (by simp) List.pairwise_lt_range (fun k=>?_) (by simp) (fun i j hi hlt hh=>?_) ?_
   ⟨hr,hp.drew.more (Nat.le_succ _),Nat.lt_succ_self _,Nat.le_refl _,free _,Fr.refl _ _ _ _,fun _ _ h=>h⟩
  ·simp only [List.mem_range]
   constructor
   ·intro hk;exact ⟨hk,by simp [Array.getD,hk]⟩
   ·intro hk;exact hk.1
  ·simp [Array.getD,hlt] at hi
  ·rw [<-hls,hmap]
   exact h
end rules
end Go.Ir
end
section
namespace Go.Ir
open Go.RowKit
inductive VLe (φ:Id->Option (List V)):V->V->Prop where
 | refl (v:V):VLe φ v v
 | any (v:V):VLe φ v .any
 | nil:VLe φ .nil (.sl [])
 | arr (id:Id) (es es':List V) (h:φ id=some es) (hl:es.length=es'.length) (hc:∀(k:Nat) (c c':V),es[k]? = some c->es'[k]? = some c'->VLe φ c c') (hk:∀(k:Nat) (c c':V),es[k]? = some c->es'[k]? = some c'->(cells c').length=(cells c).length/\c.ok=true/\c'.ok=true):VLe φ (.arr id) (.sl es')
 | sl (es es':List V) (hl:es.length=es'.length) (hc:∀(k:Nat) (c c':V),es[k]? = some c->es'[k]? = some c'->VLe φ c c') (hk:∀(k:Nat) (c c':V),es[k]? = some c->es'[k]? = some c'->(cells c').length=(cells c).length/\c.ok=true/\c'.ok=true):VLe φ (.sl es) (.sl es')
 | agg (cs cs':List V) (hl:cs.length=cs'.length) (hc:∀(k:Nat) (c c':V),cs[k]? = some c->cs'[k]? = some c'->VLe φ c c'):VLe φ (.agg cs) (.agg cs')
 | tup (cs cs':List V) (hl:cs.length=cs'.length) (hc:∀(k:Nat) (c c':V),cs[k]? = some c->cs'[k]? = some c'->VLe φ c c'):VLe φ (.tup cs) (.tup cs')
theorem recell {μ:Id->Option Value} {H:Addr->Option Value} {e:V} (ho:e.ok=true) {seg:List Value} (h:CRel μ H (cells e) seg):∃val,VRel μ H e val/\val.cells.toList=seg:=by
 have one:cells e=[e]->∃val,VRel μ H e val/\val.cells.toList=seg:=by
  intro hc
  rw [hc] at h
  match seg,h with
  | [x],h=>
   refine ⟨x,h.at_ 0 e x rfl rfl,?_⟩
   have:=h.one x (by simp)
   cases x<;>first|rfl|simp [Value.oneCell'] at this
  | [],h=>have:=h.len;simp at this
  | _::_::_,h=>have:=h.len;simp at this
 cases e with
 | agg cs=>exact ⟨.agg seg.toArray,.agg cs seg h.len h.one h.at_,rfl⟩
 | tup=>simp [V.ok] at ho
 | any=>simp [V.ok] at ho
 | _=>exact one rfl
theorem flat_conv {μ:Id->Option Value} {H H':Addr->Option Value}:∀{es es':List V},es.length=es'.length->
  (∀(k:Nat) (c c':V),es[k]? = some c->es'[k]? = some c'->(∀val,VRel μ H c val->VRel μ H' c' val)/\(cells c').length=(cells c).length/\c.ok=true/\c'.ok=true)->
  ∀{vals:List Value},CRel μ H (flat es) vals->CRel μ H' (flat es') vals
 | [],[],_,_,vals,h=>by
  have:vals=[]:=List.eq_nil_of_length_eq_zero (by rw [<-h.len];rfl)
  subst this
  exact CRel.nil_
 | e::es,e'::es',hl,hc,vals,h=>by
  have h0:=hc 0 e e' rfl rfl
  have hf:flat (e::es)=cells e++flat es:=by simp [flat]
  have hf':flat (e'::es')=cells e'++flat es':=by simp [flat]
  rw [hf] at h
  rw [hf']
  have h1:=h.take (cells e).length
  have h2:=h.drop (cells e).length
  rw [List.take_left] at h1
  rw [List.drop_left] at h2
  obtain ⟨val,hv,hseg⟩:=recell h0.2.2.1 h1
  have hv':=((h0.1 val hv).toCells h0.2.2.2).1
  rw [hseg] at hv'
  have ih:=flat_conv (es:=es) (es':=es') (by simpa using hl) (fun k c c' a b=>hc (k+1) c c' (by simpa using a) (by simpa using b)) h2
  have:=hv'.append ih
  rwa [List.take_append_drop] at this
 | [],_::_,hl,_,_,_=>by simp at hl
 | _::_,[],hl,_,_,_=>by simp at hl
theorem VRel.le {φ:Id->Option (List V)} {μ:Id->Option Value} {H H':Addr->Option Value} (hH:∀a x,H a=some x->H' a=some x)
  (hφ:∀id es,φ id=some es->∀val,μ id=some val->(∃A cap,val = .slice A es.length cap/\es.length<=cap/\es.length<=LLim/\
   (es=[]\/∃(ad:Addr) (sz:Nat) (vals:List Value),A=some ad/\(∀e∈es,(cells e).length=sz)/\CRel μ H (flat es) vals/\∀(k:Nat) (v:Value),vals[k]? = some v->H' (ad.add k)=some v)))
  {v v':V} (hle:VLe φ v v'):∀{val:Value},VRel μ H v val->VRel μ H' v' val:=by
 have slice:∀(es es':List V) (ad:Addr) (cap sz:Nat) (vals:List Value),es.length=es'.length->
   (∀(k:Nat) (c c':V),es[k]? = some c->es'[k]? = some c'->(∀val,VRel μ H c val->VRel μ H' c' val)/\(cells c').length=(cells c).length/\c.ok=true/\c'.ok=true)->
   CRel μ H (flat es) vals->es.length<=cap->es.length<=LLim->(∀e∈es,(cells e).length=sz)->
   (∀(k:Nat) (v:Value),vals[k]? = some v->H' (ad.add k)=some v)->VRel μ H' (.sl es') (.slice (some ad) es.length cap):=by
  intro es es' ad cap sz vals hl hc hv h1 h2 h3 h6
  have hcv:=flat_conv hl hc hv
  have:=VRel.slC (μ:=μ) (H:=H') es' ad cap sz vals (by rw [<-hl];exact h1) (by rw [<-hl];exact h2) (fun e he=>?_) hcv.len hcv.one h6 hcv.at_
  ·rw [hl];exact this
  ·obtain ⟨k,hk⟩:=List.mem_iff_getElem?.1 he
   have hlt:k<es.length:=by rw [hl];exact (List.getElem?_eq_some_iff.1 hk).1
   have he':es[k]? = some es[k]:=List.getElem?_eq_getElem hlt
   rw [(hc k _ _ he' hk).2.1]
   exact h3 _ (List.getElem_mem hlt)
 induction hle with
 | refl v=>intro val h;exact h.mono (fun _ _ h=>h) hH
 | any v=>intro val h;exact .any val
 | nil=>intro val h;rw [h.nil_inv];exact .slE none 0
 | arr id es es' hid hl hc hk ih=>
  intro val h
  obtain ⟨hm,_⟩:=h.arr_inv
  obtain ⟨A,cap,rfl,h1,h2,h3⟩:=hφ id es hid val hm
  rcases h3 with rfl|⟨ad,sz,vals,rfl,hsz,hrel,hpin⟩
  ·have:es'=[]:=List.eq_nil_of_length_eq_zero (by rw [<-hl];rfl)
   subst this
   exact .slE _ _
  ·exact slice es es' ad cap sz vals hl (fun k c c' a b=>⟨fun val hv=>ih k c c' a b hv,hk k c c' a b⟩) hrel h1 h2 hsz hpin
 | sl es es' hl hc hk ih=>
  intro val h
  obtain ⟨A,cap,rfl,h1,h2,h3⟩:=h.sl_inv
  rcases h3 with rfl|⟨ad,sz,vals,rfl,hsz,hrel,hpin⟩
  ·have:es'=[]:=List.eq_nil_of_length_eq_zero (by rw [<-hl];rfl)
   subst this
   exact .slE _ _
  ·exact slice es es' ad cap sz vals hl (fun k c c' a b=>⟨fun val hv=>ih k c c' a b hv,hk k c c' a b⟩) hrel h1 h2 hsz (fun k v hk=>hH _ _ (hpin k v hk))
 | agg cs cs' hl hc ih=>
  intro val h
  obtain ⟨vals,rfl,hrel⟩:=h.isA_inv rfl
  refine .agg cs' vals (by rw [<-hl];exact hrel.len) hrel.one (fun k c' v hk hv=>?_)
  have hlt:k<cs.length:=by rw [hl];exact (List.getElem?_eq_some_iff.1 hk).1
  have he:cs[k]? = some cs[k]:=List.getElem?_eq_getElem hlt
  exact ih k _ _ he hk (hrel.at_ k _ v he hv)
 | tup cs cs' hl hc ih=>
  intro val h
  obtain ⟨vals,rfl,hrel⟩:=h.tup_inv
  refine .tup cs' vals (by rw [<-hl];exact hrel.len) (fun k c' v hk hv=>?_)
  have hlt:k<cs.length:=by rw [hl];exact (List.getElem?_eq_some_iff.1 hk).1
  have he:cs[k]? = some cs[k]:=List.getElem?_eq_getElem hlt
  exact ih k _ _ he hk (hrel.at_ k _ v he hv)
inductive EntLe (φ:Id->Option (List V)):Ent->Ent->Prop where
 | box (v v':V) (h:VLe φ v v') (hl:(cells v').length=(cells v).length) (ho:v.ok=true) (ho':v'.ok=true):EntLe φ (.box v) (.box v')
 | arr (e sz:Nat) (es es':List V) (hl:es.length=es'.length) (hc:∀(k:Nat) (c c':V),es[k]? = some c->es'[k]? = some c'->VLe φ c c'/\(cells c').length=(cells c).length/\c.ok=true/\c'.ok=true):EntLe φ (.arr e sz es) (.arr e sz es')
 | refl (e:Ent):EntLe φ e e
/- cells pinned when the slices of φ are frozen -/
open Classical in
noncomputable def frozenPins (φ:Id->Option (List V)) (μ:Id->Option Value) (H:Addr->Option Value) (w:World):Addr->Option Value:=fun ad=>
 match H ad with
 | some v=>some v
 | none=>if ∃id es,φ id=some es/\blk (μ id)=some ad.block then w.cell? ad else none
theorem At.weak {W0:World} {nt:Nat} {B:Base} {st:St} {a:Act} {w:World} (h:At W0 nt B st a w) (φ:Id->Option (List V)) {env':Env} {σ':Sto}
  (hφ:∀id es,φ id=some es->(∃e sz,lk st.σ id=some (.arr e sz es))/\lk σ' id=none)
  (henv:∀s,VLe φ (get st.env s) (get env' s)) (hσ:∀id e',lk σ' id=some e'->∃e,lk st.σ id=some e/\EntLe φ e e') {n':Nat} (hn:st.n<=n'):At W0 nt B ⟨env',σ',n'⟩ a w:=by
 obtain ⟨μ,H,hr,hp,hf,hold,hbn⟩:=h
 have hmono:∀ad v,H ad=some v->frozenPins φ μ H w ad=some v:=by
  intro ad v hv
  simp only [frozenPins,hv]
 have hown:∀{id es bk},φ id=some es->blk (μ id)=some bk->Own μ st.σ bk:=by
  intro id es bk hid hb
  obtain ⟨⟨e,sz,hl⟩,_⟩:=hφ id es hid
  exact ⟨id,_,hl,hb⟩
 have hval:∀id es,φ id=some es->∀val,μ id=some val->(∃A cap,val = .slice A es.length cap/\es.length<=cap/\es.length<=LLim/\
   (es=[]\/∃(ad:Addr) (sz:Nat) (vals:List Value),A=some ad/\(∀e∈es,(cells e).length=sz)/\CRel μ H (flat es) vals/\∀(k:Nat) (v:Value),vals[k]? = some v->frozenPins φ μ H w (ad.add k)=some v)):=by
  intro id es hid val hm
  obtain ⟨⟨e,sz,hl⟩,_⟩:=hφ id es hid
  obtain ⟨vals,_,hrow,hlim,hsz,hrel⟩:=ent_arr hp hl hm
  rcases Nat.eq_zero_or_pos es.length with h0|h0
  ·have:es=[]:=List.eq_nil_of_length_eq_zero h0
   subst this
   rcases hrow.2 with ⟨rfl,_⟩|⟨g,cap,cur,rfl,_⟩
   ·exact ⟨none,0,rfl,Nat.le_refl _,hlim,.inl rfl⟩
   ·exact ⟨_,cap,rfl,Nat.zero_le _,hlim,.inl rfl⟩
  ·obtain ⟨g,cap,cur,rfl,hB,hg,hcs,hcap,hmax,htake⟩:=owns_form hrow h0
   refine ⟨_,cap,rfl,hcap,hlim,.inr ⟨⟨g,0,none⟩,sz,vals,rfl,hsz,hrel,fun k v hk=>?_⟩⟩
   have hcell:=hrow.cells (g:=g) rfl k v hk
   have hnone:H ((⟨g,0,none⟩:Addr).add k)=none:=hp.unp g (hown hid (by simp [hm,blk])) _ (by rw [add_lit0])
   have hex:∃id es,φ id=some es/\blk (μ id)=some ((⟨g,0,none⟩:Addr).add k).block:=⟨id,es,hid,by rw [add_lit0,hm];rfl⟩
   simp only [frozenPins,hnone]
   rw [if_pos hex]
   exact hcell
 have hrel:∀{v v':V} {val:Value},VLe φ v v'->VRel μ H v val->VRel μ (frozenPins φ μ H w) v' val:=fun hle hv=>VRel.le hmono hval hle hv
 have own':∀bk,Own μ σ' bk->Own μ st.σ bk/\∀id es,φ id=some es->blk (μ id)≠some bk:=by
  rintro bk ⟨id,e',hl,hb⟩
  obtain ⟨e,hl',_⟩:=hσ id e' hl
  refine ⟨⟨id,e,hl',hb⟩,fun id2 es hid hb2=>?_⟩
  obtain ⟨⟨e2,sz,hl2⟩,hnone⟩:=hφ id2 es hid
  have:=hp.sep _ _ _ _ bk hl' hl2 hb hb2
  subst this
  rw [hl] at hnone
  cases hnone
 refine ⟨μ,frozenPins φ μ H w,⟨hr.size,hr.defers,fun s=>hrel (henv s) (hr.at_ s)⟩,⟨hp.base,?_,?_,?_,?_,fun id hid=>hp.bd id (Nat.le_trans hn hid)⟩,⟨hf.mu,fun ad v hv=>hmono ad v (hf.hp ad v hv),hf.size,hf.keep,?_,?_⟩,hold,Nat.le_trans hbn hn⟩
 ·intro ad v hv
  simp only [frozenPins] at hv
  split at hv
  ·rename_i x hx;rw [<-hv];exact hp.pins ad x hx
  ·split at hv
   ·exact hv
   ·cases hv
 ·intro id e' hl
  obtain ⟨e,hl',hle⟩:=hσ id e' hl
  have hent:=hp.ents id e hl'
  cases hle with
  | refl=>exact hent.keep (fun _ _ h=>h) hmono (fun _ _=>rfl)
  | box v v' hle hcl ho ho'=>
   obtain ⟨bk,vals,t,hm,hB,hh,hc⟩:=hent
   refine ⟨bk,vals,t,hm,hB,hh,?_⟩
   obtain ⟨val,hv,hseg⟩:=recell ho hc
   have:=((hrel hle hv).toCells ho').1
   rwa [hseg] at this
  | arr e sz es es' hl2 hc2=>
   obtain ⟨v,vals,hm,h1,h2,h3,h4,h5⟩:=hent
   refine ⟨v,vals,hm,h1,by rw [<-hl2];exact h2,by rw [<-hl2];exact h3,fun x hx=>?_,flat_conv hl2 (fun k c c' p q=>⟨fun val hv=>hrel (hc2 k c c' p q).1 hv,(hc2 k c c' p q).2⟩) h5⟩
   obtain ⟨k,hk⟩:=List.mem_iff_getElem?.1 hx
   have hlt:k<es.length:=by rw [hl2];exact (List.getElem?_eq_some_iff.1 hk).1
   have he':es[k]? = some es[k]:=List.getElem?_eq_getElem hlt
   rw [(hc2 k _ _ he' hk).2.1]
   exact h4 _ (List.getElem_mem hlt)
 ·intro bk ho ad hb
  obtain ⟨ho',hne⟩:=own' bk ho
  simp only [frozenPins,hp.unp bk ho' ad hb]
  rw [if_neg]
  rintro ⟨id,es,hid,hb2⟩
  exact hne id es hid (by rw [<-hb];exact hb2)
 ·intro id e id' e' bk l1 l2 b1 b2
  obtain ⟨x,l1',_⟩:=hσ id e l1
  obtain ⟨y,l2',_⟩:=hσ id' e' l2
  exact hp.sep _ _ _ _ bk l1' l2' b1 b2
 ·intro ad hb ho
  have h1:=hf.pin ad hb ho
  cases hh:H ad with
  | some v=>simp only [frozenPins,hh];rw [<-h1,hh]
  | none=>
   simp only [frozenPins,hh]
   rw [if_neg]
   ·rw [<-h1,hh]
   ·rintro ⟨id,es,hid,hb2⟩
    exact ho (hf.dom ad.block hb (hown hid hb2))
 ·intro bk hb ho
  exact hf.dom bk hb (own' bk ho).1
end Go.Ir
end
section
namespace Go.Ir
open Go.RowKit
inductive R where
 | t (s:Nat)
 | c (s n:Nat) (ag:Bool)
 deriving Inhabited
def okR (P:Program):ResultVar->R->Bool
 | .tmp t,.t s=>t == s
 | .cell t ty,.c s n ag=>t == s&&sizeT P ty == some n&&aggT P ty == some ag
 | _,_=>false
def okRs (P:Program):List ResultVar->List R->Bool
 | [],[]=>true
 | x::xs,y::ys=>okR P x y&&okRs P xs ys
 | _,_=>false
def ResOk (st:St):R->V->Prop
 | .t s,v=>get st.env s=v
 | .c s n ag,v=>∃id off u,get st.env s = .ref id off/\lk st.σ id=some (.box u)/\sub u off n ag=some v
def ResOks (st:St):List R->List V->Prop
 | [],[]=>True
 | r::rs,v::vs=>ResOk st r v/\ResOks st rs vs
 | _,_=>False
def resV:List V->V
 | [v]=>v
 | vs=>.tup vs
def okFn (P:Program) (f:FuncId) (nt:Nat) (ic:IC) (rs:List R):Bool:=
 match P.funcs[f]? with
 | some fn => (match fn.body with | some c => okCode P nt c ic | none => false) && fn.ntmps == nt && okRs P fn.results.toList rs && !(fn.name == "runtime.NumGoroutine")
 | none=>false
def params:Nat->List V->Env
 | _,[]=>[]
 | k,v::vs=>(k,v)::params (k+1) vs
theorem get_params:∀(k:Nat) (vs:List V) (s:Nat),get (params k vs) s=if k<=s then (vs[s-k]?).getD .any else .any
 | k,[],s=>by simp [params,get]
 | k,v::vs,s=>by
  simp only [params,get]
  by_cases h:k=s
  ·subst h;simp
  ·rw [if_neg h,get_params (k+1) vs s]
   by_cases hk:k<=s
   ·rw [if_pos (by omega),if_pos hk]
    have:s-k=(s-(k+1))+1:=by omega
    rw [this]
    simp
   ·rw [if_neg (by omega),if_neg hk]
def oneRes (tmps:Array Value):ResultVar->Sem Value
 | .tmp t=>pure (tmps.getD t undef)
 | .cell a t=>do loadVar t (<-asAddr (tmps.getD a undef))
theorem results_eq (fn:Func) (tmps:Array Value):results fn tmps=(do
  let vs <-fn.results.mapM (oneRes tmps)
  pure (if h:vs.size=1 then vs[0] else .tuple vs)):=by
 unfold results
 have:(fun x:ResultVar=>match x with
  | .tmp t=>(pure (tmps.getD t undef):Sem Value)
  | .cell a t=>do loadVar t (<-asAddr (tmps.getD a undef)))=oneRes tmps:=by
  funext x
  cases x<;>rfl
 rw [<-this]
 rfl
section
variable {P : Program} {W0 : World} {nt : Nat}
theorem res_run {st:St} {a:Act} {w:World} {μ:Id->Option Value} {H:Addr->Option Value} (hr:Rl μ H nt st.env a) (hp:Hp W0 st.σ st.n μ H w) :
  ∀(rv:List ResultVar) (rs:List R) (vs:List V),okRs P rv rs=true->ResOks st rs vs->∃vals:List Value,
   (rv.mapM (oneRes a.tmps)).run P w = .ok vals w/\VRels μ H vs vals
 | [],[],[],_,_=>⟨[],by simp,VRels.nil_⟩
 | x::xs,y::ys,v::vs,hok,hres=>by
  simp only [okRs,Bool.and_eq_true] at hok
  obtain ⟨hres1,hres2⟩:=hres
  obtain ⟨vals,hrun,hrel⟩:=res_run hr hp xs ys vs hok.2 hres2
  have one:∃val,(oneRes a.tmps x).run P w = .ok val w/\VRel μ H v val:=by
   have h1:=hok.1
   unfold okR at h1
   split at h1
   ·have:=beq_iff_eq.1 h1
    subst this
    simp only [ResOk] at hres1
    refine ⟨_,rfl,?_⟩
    rw [<-hres1]
    exact hr.at_ _
   ·rename_i tt ty ss nn ag
    simp only [Bool.and_eq_true,beq_iff_eq] at h1
    obtain ⟨⟨rfl,hsz⟩,hag⟩:=h1
    obtain ⟨id,off,u,hg,hl,hs⟩:=hres1
    have hv:=hr.at_ tt
    rw [hg] at hv
    obtain ⟨bk,hm,e1⟩:=hv.ref_inv
    obtain ⟨bk',vals',t',hm',_,hh,hc⟩:=hp.ents _ _ hl
    rw [hm] at hm'
    cases hm'
    obtain ⟨val,hrun',hrel'⟩:=run_load_at hsz hag w vals'.toList ⟨bk,0,none⟩ off hc (fun k v hk=>by
     rw [add_lit0,cell_of_row w bk k vals' t' (0,0) hh]
     simpa using hk) hs
    refine ⟨val,?_,hrel'⟩
    rw [add_lit0] at hrun'
    simp only [oneRes,Sem.run_bind,e1,asAddr,Sem.run_pure,Result.andThen_ok,hrun']
   ·cases h1
  obtain ⟨val,h2,h3⟩:=one
  refine ⟨val::vals,?_,VRels.cons h3 hrel⟩
  rw [List.mapM_cons]
  simp only [Sem.run_bind,h2,Result.andThen_ok,hrun,Sem.run_pure]
 | [],_::_,_,h,_=>by simp [okRs] at h
 | _::_,[],_,h,_=>by simp [okRs] at h
 | [],[],_::_,_,h=>h.elim
 | _::_,_::_,[],_,h=>h.elim
theorem results_run {fn:Func} {st:St} {a:Act} {w:World} {μ:Id->Option Value} {H:Addr->Option Value} (hr:Rl μ H nt st.env a) (hp:Hp W0 st.σ st.n μ H w) {rs:List R} {vs:List V}
  (hok:okRs P fn.results.toList rs=true) (hres:ResOks st rs vs):∃val,(results fn a.tmps).run P w = .ok val w/\VRel μ H (resV vs) val:=by
 obtain ⟨vals,hrun,hrel⟩:=res_run hr hp _ rs vs hok hres
 rw [results_eq,Array.mapM_eq_mapM_toList]
 simp only [Sem.run_bind,Sem.run_map,hrun,Result.andThen_ok]
 match vs,vals,hrel with
 | [v],[val],hrel=>exact ⟨val,by simp,hrel.at_ 0 v val rfl rfl⟩
 | [],[],hrel=>exact ⟨.tuple #[],by simp,.tup [] [] rfl hrel.at_⟩
 | v::v'::vs,x::x'::xs,hrel=>exact ⟨.tuple (x::x'::xs).toArray,by simp,.tup _ _ hrel.len hrel.at_⟩
 | [],_::_,hrel=>have:=hrel.len;simp at this
 | [v],[],hrel=>have:=hrel.len;simp at this
 | [v],_::_::_,hrel=>have:=hrel.len;simp at this
 | _::_::_,[],hrel=>have:=hrel.len;simp at this
 | _::_::_,[_],hrel=>have:=hrel.len;simp at this
def Fin (rs:List R) (vs:List V) (σ':Sto):Exit->St->Prop
 | .normal,st|.ret,st=>ResOks st rs vs/\∀id e,lk σ' id=some e->lk st.σ id=some e
 | _,_=>False
def FinN (s:Nat) (x:Ent) (σ':Sto):Exit->St->Prop
 | .normal,st|.ret,st=>∃id,get st.env s = .arr id/\lk st.σ id=some x/\lk σ' id=none/\∀id e,lk σ' id=some e->lk st.σ id=some e
 | _,_=>False
theorem okFn_some {f:FuncId} {ic:IC} {rs:List R} (h:okFn P f nt ic rs=true):∃fn c,P.funcs[f]? = some fn/\fn.body=some c/\okCode P nt c ic=true/\fn.ntmps=nt/\okRs P fn.results.toList rs=true/\callable P f=true:=by
 unfold okFn at h
 cases hf:P.funcs[f]? with
 | none=>simp [hf] at h
 | some fn=>
  cases hb:fn.body with
  | none=>simp [hf,hb] at h
  | some c=>
   simp only [hf,hb,Bool.and_eq_true,beq_iff_eq] at h
   exact ⟨fn,c,rfl,hb,h.1.1.1,h.1.1.2,h.1.2,by unfold callable;simp only [hf,hb,Option.isSome_some,Bool.true_and];exact h.2⟩
theorem init_at {args:List V} {σ:Sto} {n:Nat} {w:World} {μ:Id->Option Value} {H:Addr->Option Value} {vals:List Value} (hargs:args.length<=nt) (hp:Hp W0 σ n μ H w) (hv:VRels μ H args vals) :
  At W0 nt ⟨μ,H,σ,w,n⟩ ⟨params 0 args,σ,n⟩ { tmps:=vals.toArray++Array.replicate (nt-vals.toArray.size) undef,defers:=[] } w:=by
 refine ⟨μ,H,⟨?_,rfl,fun s=>?_⟩,hp,Fr.refl _ _ _ _,fun _ _ h=>h,Nat.le_refl _⟩
 ·have:=hv.len
  simp
  omega
 ·rw [get_params]
  simp only [Nat.zero_le,if_true,Nat.sub_zero]
  cases hs:args[s]? with
  | none=>exact .any _
  | some v=>
   obtain ⟨val,hval,hrel⟩:=hv.get hs
   have hlt:s<vals.length:=(List.getElem?_eq_some_iff.1 hval).1
   have:(vals.toArray++Array.replicate (nt-vals.toArray.size) undef).getD s undef=val:=by
    rw [Array.getD_eq_getD_getElem?,Array.getElem?_append_left (by simpa using hlt)]
    simp [hval]
   simp only [this]
   exact hrel
theorem fn_ret {f:FuncId} {ic:IC} {rs:List R} (hck:okFn P f nt ic rs=true) {args:List V} (hargs:args.length<=nt) {σ σ':Sto} {vs:List V} (hdom:∀id,lk σ' id≠none->lk σ id≠none)
  (h:∀n,(∀id e,lk σ id=some e->id.1<n)->aWP P W0 nt ic (Fin rs vs σ') ⟨params 0 args,σ,n⟩):RetS P W0 f args σ (resV vs) σ':=by
 obtain ⟨fn,c,hf,hb,hcode,hnt,hrs,hcal⟩:=okFn_some hck
 refine ⟨hcal,hdom,fun n w μ H vals hp hv=>?_⟩
 subst hnt
 refine calls_of_wp hf hb ?_
 have hids:∀id e,lk σ id=some e->id.1<n:=by
  intro id e hl
  rcases Nat.lt_or_ge id.1 n with h|h
  ·exact h
  ·have hm:=hp.bd id h
   obtain ⟨_,hm'⟩:=(hp.ents id e hl).named
   rw [hm] at hm';cases hm'
 refine wp_mono (h n hids c hcode _ _ _ (init_at hargs hp hv)) fun e a w' hh=>?_
 obtain ⟨st',hq,μ',H',hr',hp',hf',hold,hn⟩:=hh
 have fin:(ResOks st' rs vs/\∀id e,lk σ' id=some e->lk st'.σ id=some e)->a.defers=[]/\∃v,(results fn a.tmps).run P w' = .ok v w'/\
   ∃val μ'' H'' n'',Ending.returned v=Ending.returned val/\VRel μ'' H'' (resV vs) val/\Hp W0 σ' n'' μ'' H'' w'/\n<=n''/\Fr μ H σ w μ'' H'' σ' w'/\∀id:Id,id.1<n->μ id=none->μ'' id=none:=by
  rintro ⟨hres,hsub⟩
  obtain ⟨val,hrun,hrel⟩:=results_run hr' hp' hrs hres
  refine ⟨hr'.defers,val,hrun,val,μ',H',st'.n,rfl,hrel,hp'.part hsub,hn,⟨hf'.mu,hf'.hp,hf'.size,hf'.keep,hf'.pin,fun bk hb ho=>hf'.dom bk hb ?_⟩,hold⟩
  obtain ⟨id,e,hl,hbk⟩:=ho
  exact ⟨id,e,hsub _ _ hl,hbk⟩
 cases e with
 | normal=>exact fin hq
 | ret=>exact fin hq
 | _=>exact hq.elim
theorem fn_new {f:FuncId} {ic:IC} {s:Nat} (hck:okFn P f nt ic [.t s]=true) {args:List V} (hargs:args.length<=nt) {σ σ':Sto} {x:Ent} (hdom:∀id,lk σ' id≠none->lk σ id≠none)
  (h:∀n,(∀id e,lk σ id=some e->id.1<n)->aWP P W0 nt ic (FinN s x σ') ⟨params 0 args,σ,n⟩):RetN P W0 f args σ x σ':=by
 obtain ⟨fn,c,hf,hb,hcode,hnt,hrs,hcal⟩:=okFn_some hck
 refine ⟨hcal,hdom,fun n w μ H vals hp hv=>?_⟩
 subst hnt
 refine calls_of_wp hf hb ?_
 have hids:∀id e,lk σ id=some e->id.1<n:=by
  intro id e hl
  rcases Nat.lt_or_ge id.1 n with h|h
  ·exact h
  ·have hm:=hp.bd id h
   obtain ⟨_,hm'⟩:=(hp.ents id e hl).named
   rw [hm] at hm';cases hm'
 refine wp_mono (h n hids c hcode _ _ _ (init_at hargs hp hv)) fun e' a w' hh=>?_
 obtain ⟨st',hq,μ',H',hr',hp',hf',hold,hn⟩:=hh
 simp only at hn
 have fin:(∃id,get st'.env s = .arr id/\lk st'.σ id=some x/\lk σ' id=none/\∀id e,lk σ' id=some e->lk st'.σ id=some e)->a.defers=[]/\∃v,(results fn a.tmps).run P w' = .ok v w'/\
   ∃val μ'' H'' n'' id,Ending.returned v=Ending.returned val/\μ'' id=some val/\val.oneCell'=true/\μ id=none/\lk σ' id=none/\Hp W0 ((id,x)::σ') n'' μ'' H'' w'/\n<=n''/\Fr μ H σ w μ'' H'' ((id,x)::σ') w'/\∀id:Id,id.1<n->μ id=none->μ'' id=none:=by
  rintro ⟨id,hg,hl,hl',hsub⟩
  obtain ⟨val,hrun,hrel⟩:=results_run hr' hp' hrs (vs:=[.arr id]) ⟨hg,trivial⟩
  obtain ⟨hm,h1c⟩:=hrel.arr_inv
  have hsub2:∀id2 e2,lk ((id,x)::σ') id2=some e2->lk st'.σ id2=some e2:=by
   intro id2 e2 h2
   simp only [lk] at h2
   split at h2
   ·rename_i h3;subst h3;cases h2;exact hl
   ·exact hsub _ _ h2
  have hpart:=(hp'.part hsub2).more (Nat.le_succ st'.n)
  have hnone:μ' (st'.n,0)=none:=hp'.bd _ (Nat.le_refl _)
  obtain ⟨hp2,hown⟩:=hpart.rename hm hl' hnone (Nat.lt_succ_self _)
  refine ⟨hr'.defers,val,hrun,val,_,H',st'.n+1,(st'.n,0),rfl,setμ_self _ _ _,h1c,hp.bd _ hn,?_,hp2,Nat.le_trans hn (Nat.le_succ _),⟨fun id y hx=>setμ_mono hnone id y (hf'.mu id y hx),hf'.hp,hf'.size,hf'.keep,hf'.pin,fun bk hb ho=>?_⟩,fun id2 hid h0=>?_⟩
  ·cases hx:lk σ' (st'.n,0) with
   | none=>rfl
   | some y=>
    obtain ⟨_,hm'⟩:=(hp'.ents _ _ (hsub _ _ hx)).named
    rw [hnone] at hm';cases hm'
  ·obtain ⟨id2,e2,hl2,hb2⟩:=hown bk ho
   exact hf'.dom bk hb ⟨id2,e2,hsub2 _ _ hl2,hb2⟩
  ·rw [setμ_ne _ _ (by rintro rfl;simp at hid;omega)]
   exact hold id2 hid h0
 cases e' with
 | normal=>exact fin hq
 | ret=>exact fin hq
 | _=>exact hq.elim
end
end Go.Ir
end
section
namespace Go.Ir
open Go.RowKit
theorem all_born_lt {mes:Array MapEntry} (hb:∀(k:Nat) (m:MapEntry),mes.toList[k]? = some m->m.born=k) {last:Nat} (hl:last=mes.size):(!mes.isEmpty&&mes.all fun e=>decide (e.born>=last))=false:=by
 cases hm:mes.toList with
 | nil=>
  have:mes = #[]:=by cases mes;simp_all
  subst this
  rfl
 | cons x xs=>
  have h0:=hb 0 x (by rw [hm];rfl)
  have hsz:0<mes.size:=by have:mes.toList.length=mes.size:=by simp
                          rw [hm] at this;simp at this;omega
  have:(mes.all fun e=>decide (e.born>=last))=false:=by
   rw [<-Array.all_toList,hm]
   simp only [List.all_cons,h0]
   have:decide (0>=last)=false:=by simp;omega
   rw [this];rfl
  rw [this,Bool.and_false]
theorem run_next {P:Program} {w:World} {r m:Nat} {seen:List Nat} {mes:Array MapEntry} {t:TypeId} (hr:w.heap[r]? = some (.mapIter (some m) mes.size seen.toArray mes.size)) (hm:w.heap[m]? = some (.map mes mes.size))
  (hb:∀(k:Nat) (e:MapEntry),mes.toList[k]? = some e->e.born=k) :
  (∃(i:Nat) (e:MapEntry) (w1:World),(w1=w\/w1=w.drew)/\mes.toList[i]? = some e/\i ∉ seen/\(Instr.next (.pointer (some ⟨r,0,none⟩)) false t).run P w = .ok (.tuple #[.bool true,e.key,e.val]) { w1 with heap:=w1.heap.setIfInBounds r (.mapIter (some m) mes.size (seen++[i]).toArray mes.size) })\/
  ((∀i,i<mes.size->i∈seen)/\(Instr.next (.pointer (some ⟨r,0,none⟩)) false t).run P w = .ok (.tuple #[.bool false]) w):=by
 have hall:=all_born_lt hb (last:=mes.size) rfl
 have hguard:(!seen.toArray.isEmpty&&!mes.isEmpty&&mes.all fun e=>decide (e.born>=mes.size))=false:=by rw [Bool.and_assoc,hall,Bool.and_false]
 obtain ⟨left,hleft⟩:∃left,left=mes.filter fun e=>!seen.toArray.contains e.born:=⟨_,rfl⟩
 have hin:∀e∈mes,e.born<mes.size:=by
  intro e he
  obtain ⟨k,hk⟩:=List.mem_iff_getElem?.1 (Array.mem_toList_iff.2 he)
  rw [hb k e hk]
  have:=(List.getElem?_eq_some_iff.1 hk).1
  simpa using this
 have hold:left.filter (fun e=>decide (e.born<mes.size))=left:=by
  rw [Array.filter_eq_self]
  intro e he
  rw [hleft] at he
  have:=hin e (Array.mem_filter.1 he).1
  simp [this]
 have hnew:left.filter (fun e=>decide (e.born>=mes.size)) = #[]:=by
  rw [Array.filter_eq_empty_iff]
  intro e he
  rw [hleft] at he
  have:=hin e (Array.mem_filter.1 he).1
  simp;omega
 have hrun:(Instr.next (.pointer (some ⟨r,0,none⟩)) false t).run P w=((choose (.mapNext ((if left.isEmpty then #[none] else #[])++left.map some).size)).run P w).andThen fun j w1=>
   (match ((if left.isEmpty then #[none] else #[])++left.map some)[j]? with
    | some (some e)=>do setObj r (.mapIter (some m) mes.size (seen.toArray.push e.born) mes.size);pure (.tuple #[.bool true,e.key,e.val])
    | some none=>pure (.tuple #[.bool false])
    | none => stuck "Next: no such candidate" : Sem Value).run P w1 := by
  have g1:(getObj r).run P w = .ok (.mapIter (some m) mes.size seen.toArray mes.size) w:=run_getObj_mit hr
  have g2:(getObj m).run P w = .ok (.map mes mes.size) w:=MapKept.run_getObj_map hm
  simp only [Instr.next,Sem.run_bind,g1,Result.andThen_ok,g2,hguard,Bool.false_eq_true,if_false]
  rw [<-hleft,hold,hnew]
  simp only [Array.append_empty]
  rfl
 by_cases he:left.isEmpty
 ·refine .inr ⟨fun i hi=>?_,?_⟩
  ·have hi':i<mes.toList.length:=by simpa using hi
   have h0:mes.toList[i]? = some mes.toList[i]:=List.getElem?_eq_getElem hi'
   have hbi:=hb i _ h0
   cases hc:decide (i∈seen) with
   | true=>exact of_decide_eq_true hc
   | false=>
    exfalso
    have:mes.toList[i]∈left:=by
     rw [hleft,Array.mem_filter]
     refine ⟨Array.mem_toList_iff.1 (List.getElem_mem hi'),?_⟩
     have:=of_decide_eq_false hc
     have hbi2:mes[i].born=i:=by simpa using hbi
     simpa [hbi2] using this
    have hz:left = #[]:=by simpa using he
    rw [hz] at this
    simp at this
  ·have hz:left = #[]:=by simpa using he
   rw [hrun,hz]
   simp [Question.forced]
 ·have hne:0<left.size:=by
   cases h:left.size with
   | zero=>exact absurd (by simpa [Array.isEmpty] using h) he
   | succ n=>omega
  rw [if_neg he] at hrun
  simp only [Array.empty_append,Array.size_map] at hrun
  obtain ⟨j,w1,hj,hw1,hch⟩:∃j w1,j<left.size/\(w1=w\/w1=w.drew)/\(choose (.mapNext left.size)).run P w = .ok j w1:=by
   rw [run_choose_drew]
   split
   ·exact ⟨0,w,hne,.inl rfl,rfl⟩
   ·exact ⟨_,_,Nat.mod_lt _ hne,.inr rfl,rfl⟩
  have hjl:left[j]? = some left[j]:=Array.getElem?_eq_getElem hj
  have hmem:left[j]∈left:=Array.getElem_mem hj
  generalize left[j]=ej at hjl hmem
  rw [hleft,Array.mem_filter] at hmem
  obtain ⟨i,hi⟩:=List.mem_iff_getElem?.1 (Array.mem_toList_iff.2 hmem.1)
  have hbi:=hb i _ hi
  refine .inl ⟨i,ej,w1,hw1,hi,?_,?_⟩
  ·have:=hmem.2
   simp only [hbi] at this
   simpa using this
  ·have hheap:w1.heap[r]? = some (.mapIter (some m) mes.size seen.toArray mes.size):=by rcases hw1 with rfl|rfl<;>exact hr
   have hmap:(left.map some)[j]? = some (some ej):=by simp [hjl]
   have hpush:seen.toArray.push i=(seen++[i]).toArray:=by simp
   rw [hrun,hch]
   simp only [Result.andThen_ok,hmap,Sem.run_bind,run_setObj_mit _ hheap,Sem.run_pure,hbi,hpush]
section
variable {P : Program} {W0 : World} {nt : Nat} {Q : Exit → St → Prop} {st : St}
theorem aWP_mnext {d1 d2:Nat} {x:X} {live:List Nat} {id mid:Id} {es:List (V × V)} {seen:List Nat} (hx:ev (get st.env) x = .arr id) (hl:lk st.σ id=some (.mit mid es.length seen es.length)) (hlm:lk st.σ mid=some (.map es))
  (hmore:∀i kv,es[i]? = some kv->i ∉ seen->Q .normal ⟨restrict live ((d2,.b true)::st.env),upd st.σ id (.mit mid es.length (seen++[i]) es.length),st.n+1⟩)
  (hend:(∀i,i<es.length->i∈seen)->Q .normal ⟨restrict live ((d2,.b false)::st.env),st.σ,st.n+1⟩) (hd1:d1 ∉ live) (hlive:d1≠d2):aWP P W0 nt (.mnext d1 d2 x live) Q st:=by
 intro code hc B a w hat
 obtain ⟨rid,ops,rfl,hk⟩:∃rid ops,code = .region rid ops false/\okNext nt ops d1 d2 x=true:=by
  cases code with
  | region rid ops draw=>
   cases draw with
   | true=>simp [okCode] at hc
   | false=>exact ⟨rid,ops,rfl,by simpa [okCode] using hc⟩
  | _=>simp [okCode] at hc
 have hc0:False\/True:=.inr trivial
 rcases hc0 with h|_
 ·exact h.elim
 ·clear hc
  have hc:=hk
  unfold okNext at hc
  split at hc
  ·rename_i o1 o2 hops
   simp only [Bool.and_eq_true,beq_iff_eq,decide_eq_true_eq,Option.isNone_iff_eq_none] at hc
   obtain ⟨⟨⟨⟨⟨⟨⟨c1,c2⟩,c3⟩,c4⟩,c5⟩,c6⟩,c7⟩,c8⟩:=hc
   split at c3
   ·rename_i x' hop1
    split at c6
    ·rename_i t hop2
     have ht:d1=t:=(beq_iff_eq.1 c6).symm
     subst ht
     obtain ⟨μ,H,hr,hp,hf,hold,hn⟩:=hat
     have hxr:=okX_rel hr c3
     rw [hx] at hxr
     obtain ⟨r,mb,hmu,_,hmm,hh⟩:=hp.ents _ _ hl
     obtain ⟨bk,mes,clock,hmu2,_,hh2,hrel⟩:=hp.ents _ _ hlm
     rw [hmm] at hmu2
     cases hmu2
     have e1:a.eval x' = .pointer (some ⟨r,0,none⟩):=by
      have:=(hxr.arr_inv).1
      rw [hmu] at this
      exact (Option.some.inj this).symm
     have hlen:es.length=mes.size:=by simpa using hrel.len
     have hclock:clock=mes.size:=by have:=hrel.now;simpa using this
     subst hclock
     rw [hlen] at hh
     have hsz:ops.size=2:=by have:ops.toList.length=2:=by rw [hops];rfl
                             simpa using this
     have ho1:ops[0]? = some o1:=by rw [<-Array.getElem?_toList,hops];rfl
     have ho2:ops[1]? = some o2:=by rw [<-Array.getElem?_toList,hops];rfl
     have two:∀(t:Bool) (val:List Value) (w':World) (σ':Sto),(Instr.next (.pointer (some ⟨r,0,none⟩)) false o1.type).run P w = .ok (.tuple (.bool t::val).toArray) w'->Hp W0 σ' st.n μ H w'->Fr μ H st.σ w μ H σ' w'->Q .normal ⟨restrict live ((d2,.b t)::st.env),σ',st.n+1⟩->
       (Code.region rid ops false).wp P (fun e a' w'=>∃st',Q e st'/\At W0 nt B st' a' w') a w:=by
      intro t val w' σ' hrun hp' hfr hq
      refine wp_region ?_
      rw [hsz]
      show wpOps P ops _ [0,1] a w
      unfold wpOps
      simp only [ho1]
      have w1:Region.wanted o1 (yielded ops a.tmps)=true:=by simp [Region.wanted,c2]
      rw [if_pos w1]
      refine .inl ?_
      unfold Oper.wp
      have hx1:(execOp a.eval o1).run P w = .ok (.value (.tuple (.bool t::val).toArray)) w':=by
       simp only [execOp,hop1,e1,Sem.run_bind,hrun,Result.andThen_ok,Sem.run_pure]
      rw [hx1]
      show wpOps P ops _ [1] (a.put o1.dst (.tuple (.bool t::val).toArray)) w'
      unfold wpOps
      simp only [ho2]
      have w2:Region.wanted o2 (yielded ops (a.put o1.dst (.tuple (.bool t::val).toArray)).tmps)=true:=by simp [Region.wanted,c5]
      rw [if_pos w2]
      refine .inl ?_
      unfold Oper.wp
      have hev:(a.put o1.dst (.tuple (.bool t::val).toArray)).eval (.tmp d1) = .tuple (.bool t::val).toArray:=by
       have hd:d1<a.tmps.size:=by rw [hr.size];exact c7
       rw [c1]
       simp [Act.eval,Act.put,hd]
      have hx2:(execOp (a.put o1.dst (.tuple (.bool t::val).toArray)).eval o2).run P w' = .ok (.value (.bool t)) w':=by
       simp only [execOp,hop2,hev,Instr.extract,Sem.run_bind]
       simp
      rw [hx2]
      show ∃st',Q .normal st'/\At W0 nt B st' ((a.put o1.dst (.tuple (.bool t::val).toArray)).put o2.dst (.bool t)) w'
      rw [c1,c4]
      have hr1:Rl μ H nt (put st.env (some d1) .any) (a.put (some d1) (.tuple (.bool t::val).toArray)):=hr.put (fun dd hdd=>by cases hdd;exact c7) (.any _)
      have hr2:Rl μ H nt (put (put st.env (some d1) .any) (some d2) (.b t)) ((a.put (some d1) (.tuple (.bool t::val).toArray)).put (some d2) (.bool t)):=hr1.put (fun dd hdd=>by cases hdd;exact c8) (.b _)
      refine ⟨_,hq,μ,H,⟨hr2.size,hr2.defers,fun s=>?_⟩,hp'.more (Nat.le_succ _),hf.trans hfr,hold,Nat.le_trans hn (Nat.le_succ _)⟩
      have hsame:restrict live ((d2,.b t)::st.env)=restrict live (put (put st.env (some d1) .any) (some d2) (.b t)):=by
       refine List.map_congr_left fun s hs=>?_
       have hne:d1≠s:=by rintro rfl;exact hd1 hs
       simp [put,get,hne]
      simp only
      rw [hsame]
      rcases get_restrict live (put (put st.env (some d1) .any) (some d2) (.b t)) s with h|h
      ·rw [h];exact hr2.at_ s
      ·rw [h];exact .any _
     rcases run_next (P:=P) (t:=o1.type) hh hh2 hrel.born with ⟨i,e,w1,hw1,hi,hns,hrun⟩|⟨hall,hrun⟩
     ·have hi':i<es.length:=by rw [hlen];have:=(List.getElem?_eq_some_iff.1 hi).1;simpa using this
      have hp1:Hp W0 st.σ st.n μ H w1:=by rcases hw1 with rfl|rfl;exact hp;exact hp.drew
      have hh1:w1.heap[r]? = some (.mapIter (some mb) mes.size seen.toArray mes.size):=by rcases hw1 with rfl|rfl<;>exact hh
      have hset:=hp1.set_ (e:=.mit mid es.length (seen++[i]) es.length) hl ((Turned.setObj w1 r (.mapIter (some mb) mes.size (seen++[i]).toArray mes.size)).to (fun k hk=>by subst hk;simp [hmu,blk])) ⟨r,mb,hmu,by
       obtain ⟨r',mb',hmu',hB',_⟩:=hp.ents _ _ hl
       rw [hmu] at hmu';cases hmu';exact hB',hmm,by
       have:r<w1.heap.size:=(Array.getElem?_eq_some_iff.1 hh1).1
       simp [this,hlen]⟩
      have hfr0:Fr μ H st.σ w μ H st.σ w1:=by rcases hw1 with rfl|rfl;exact Fr.refl _ _ _ _;exact ⟨fun _ _ h=>h,fun _ _ h=>h,Nat.le_refl _,fun _ _ _=>rfl,fun _ _ _=>rfl,fun _ _ h=>h⟩
      have h0:es[i]? = some es[i]:=List.getElem?_eq_getElem hi'
      exact two true [e.key,e.val] _ _ hrun hset.1 (hfr0.trans hset.2) (hmore i _ h0 hns)
     ·exact two false [] w st.σ hrun hp (Fr.refl _ _ _ _) (hend (fun i hi=>hall i (by rw [<-hlen];exact hi)))
    ·cases c6
   ·cases c3
  ·cases hc
end
end Go.Ir
end
section
namespace Go.Ir
open Go.RowKit
structure RetE (P:Program) (W0:World) (f:FuncId) (args:List V) (σ:Sto) (R:Nat->Nat->V->Sto->Prop):Prop where
 callable:callable P f=true
 run:∀n w μ H vals,Hp W0 σ n μ H w->VRels μ H args vals->Calls P f vals.toArray w fun e w'=>
  ∃val μ' H' n' v σ',e = .returned val/\R n n' v σ'/\VRel μ' H' v val/\Hp W0 σ' n' μ' H' w'/\n<=n'/\Fr μ H σ w μ' H' σ' w'/\∀id,id.1<n->μ id=none->μ' id=none
section
variable {P : Program} {W0 : World} {nt : Nat} {ops : Array Oper}
theorem stretch {B:Base} {ep:Nat} {QQ:Exit->Act->World->Prop} {tail:List Nat} {K:Env->Sto->Prop} (hBn:B.n<=ep)
  (hK:∀env σ a w n μ H,K env σ->Rl μ H nt env a->Hp W0 σ n μ H w->ep<n->Fr B.μ B.H B.σ B.w μ H σ w->(∀id,id.1<B.n->B.μ id=none->μ id=none)->wpOps P ops QQ tail a w) :
  ∀(l:List I) (k:Nat),(∀(j:Nat) (i:I),l[j]? = some i->∃o,ops[k+j]? = some o/\okI P nt ops o i=true)->(l.filterMap (·.dst)).Nodup->
  ∀env σ a w n μ H,Rl μ H nt env a->Hp W0 σ n μ H w->ep<n->(∀i∈l,∀dd,i.dst=some dd->μ (ep,dd)=none)->Fr B.μ B.H B.σ B.w μ H σ w->(∀id,id.1<B.n->B.μ id=none->μ id=none)->
   iops P W0 ep l env σ K->wpOps P ops QQ (List.range' k l.length++tail) a w:=by
 intro l
 induction l with
 | nil=>intro k _ _ env σ a w n μ H hr hp hn _ hf hold hi;exact hK _ _ _ _ _ _ _ hi hr hp hn hf hold
 | cons i l ih=>
  intro k hat hnd env σ a w n μ H hr hp hn hfree hf hold hi
  obtain ⟨o,ho,hok⟩:=hat 0 i rfl
  rw [Nat.add_zero] at ho
  rw [List.length_cons,List.range'_succ,List.cons_append,wpOps_cons]
  simp only [iops] at hi
  rw [stepI_iff] at hi
  obtain ⟨v,σ',hstep,hi⟩:=hi
  refine step_sound ho hok hr hp hn (fun d hd'=>hfree i (by simp) d hd') hstep _ QQ (fun val n' μ' H' w' hdone=>?_)
  have hnd2:(l.filterMap (·.dst)).Nodup:=by
   cases hd:i.dst with
   | none=>rwa [List.filterMap_cons_none hd] at hnd
   | some d=>rw [List.filterMap_cons_some hd] at hnd;exact (List.nodup_cons.1 hnd).2
  have hnt:∀d,i.dst=some d->d<nt:=by
   intro d hd'
   unfold okI at hok
   simp only [Bool.and_eq_true] at hok
   have:=hok.1.1.2
   rw [hd'] at this
   simpa using this
  refine ih (k+1) (fun j i' hj=>?_) hnd2 _ _ _ _ n' μ' H' ((hr.mono hdone.fr.mu hdone.fr.hp).put hnt hdone.rel) hdone.hp (Nat.lt_of_lt_of_le hn hdone.le) (fun i' hi' d hd'=>?_) (hf.trans hdone.fr) (fun id hid h0=>?_) hi
  ·obtain ⟨o',ho',hok'⟩:=hat (j+1) i' (by simpa using hj)
   exact ⟨o',by rw [show k+1+j=k+(j+1) by omega];exact ho',hok'⟩
  ·refine hdone.fresh (ep,d) hn (fun dd hdd he=>?_) (hfree i' (by simp [hi']) d hd')
   cases he
   rw [List.filterMap_cons_some hdd] at hnd
   exact (List.nodup_cons.1 hnd).1 (List.mem_filterMap.2 ⟨i',hi',hd'⟩)
  ·refine hdone.fresh id (by omega) (fun dd _ he=>?_) (hold id hid h0)
   rw [he] at hid;simp at hid;omega
def CallE (P:Program) (W0:World) (n:Nat) (d:Nat) (f:FuncId) (vs:List V) (env:Env) (σ:Sto) (K:Nat->Env->Sto->Prop):Prop:=
 ∃σi R,RetE P W0 f vs σi R/\(∀id e,lk σi id=some e->lk σ id=some e)/\∀n2 v σo,n<=n2->R n n2 v σo->K n2 ((d,v)::env) (over σi σo σ)
theorem okIs_sub {os:List Oper} {l:List I} (h:okIs P nt ops os l=true):os.length=l.length/\∀(j:Nat) (i:I),l[j]? = some i->∃o,os[j]? = some o/\okI P nt ops o i=true:=by
 obtain ⟨h1,h2⟩:=okIs_at h
 refine ⟨h1,fun j i hj=>?_⟩
 have hlt:j<os.length:=by rw [h1];exact (List.getElem?_eq_some_iff.1 hj).1
 refine ⟨os[j],List.getElem?_eq_getElem hlt,?_⟩
 have:=h2 j os[j] (List.getElem?_eq_getElem hlt)
 simpa [List.getD,hj] using this
theorem aWP_opxg {code:Code} {okc:Oper->Bool} {T:Nat->Env->Sto->(Nat->Env->Sto->Prop)->Prop} {l1 l2:List I} {live1 live:List Nat} {d:Nat} {Q:Exit->St->Prop} {st:St}
  (hT:∀o,okc o=true->o.dst=some d/\d<nt/\o.guard=none/\∀n env σ K a w μ H,T n env σ K->Rl μ H nt env a->Hp W0 σ n μ H w->∃f vals vargs σi R,(execOp a.eval o).run P w = .ok (.enter f vals) w/\VRels μ H vargs vals.toList/\RetE P W0 f vargs σi R/\(∀id e,lk σi id=some e->lk σ id=some e)/\∀n2 v σo,n<=n2->R n n2 v σo->K n2 ((d,v)::env) (over σi σo σ))
  (hcode:∃rid ops,code = .region rid ops false/\okIs P nt ops (ops.toList.take l1.length) l1=true/\(∃o,ops[l1.length]? = some o/\okc o=true)/\okIs P nt ops (ops.toList.drop (l1.length+1)) l2=true/\dstsOk l1=true/\dstsOk l2=true)
  (h:iops P W0 st.n l1 st.env st.σ fun env σ=>∀n1,st.n<n1->T n1 (restrict live1 env) σ fun n2 env σ=>iops P W0 n2 l2 env σ fun env σ=>∀n3,n2<n3->Q .normal ⟨restrict live env,σ,n3⟩) {B:Base} {a:Act} {w:World} (hat:At W0 nt B st a w) :
  code.wp P (fun e a' w'=>∃st',Q e st'/\At W0 nt B st' a' w') a w:=by
 obtain ⟨rid,ops,rfl,hc1,⟨o,ho,hoc⟩,hc2,hd1,hd2⟩:=hcode
 obtain ⟨hdst,hdnt,hgd,hT⟩:=hT o hoc
 obtain ⟨hl1,hat1⟩:=okIs_sub hc1
 obtain ⟨hl2,hat2⟩:=okIs_sub hc2
 have hlen:l1.length<ops.size:=(Array.getElem?_eq_some_iff.1 ho).1
 have hsz:ops.size=l1.length+(1+l2.length):=by
  rw [List.length_drop] at hl2
  have:ops.toList.length=ops.size:=by simp
  omega
 obtain ⟨μ,H,hr,hp,hf,hold,hn⟩:=hat
 refine wp_region ?_
 have hrange:List.range ops.size=List.range' 0 l1.length++(l1.length::(List.range' (l1.length+1) l2.length++[])):=by
  rw [List.append_nil,hsz,List.range_eq_range',<-List.range'_append,Nat.zero_add,Nat.one_mul,Nat.add_comm 1 l2.length,List.range'_succ]
 rw [hrange]
 have free:∀{n:Nat} {σ:Sto} {μ:Id->Option Value} {H:Addr->Option Value} {w:World} (l:List I),Hp W0 σ n μ H w->∀i∈l,∀dd,i.dst=some dd->μ (n,dd)=none:=fun l hp i _ dd _=>hp.bd (_,dd) (Nat.le_refl _)
 refine stretch (B:=B) (ep:=st.n) hn ?_ l1 0 (fun j i hj=>?_) (of_decide_eq_true hd1) st.env st.σ a w (st.n+1) μ H hr (hp.more (Nat.le_succ _)) (Nat.lt_succ_self _) (free l1 hp) hf hold h
 · -- at the call
  intro env σ a w n1 μ H hcall hr hp hn1 hf hold
  have hr1:Rl μ H nt (restrict live1 env) a:=⟨hr.size,hr.defers,fun s=>by
   rcases get_restrict live1 env s with h|h
   ·rw [h];exact hr.at_ s
   ·rw [h];exact .any _⟩
  obtain ⟨f,vals,vargs,σi,R,hrun,hargs,hret,hsub,hK⟩:=hT n1 _ _ _ a w μ H (hcall n1 hn1) hr1 hp
  rw [wpOps_cons]
  unfold wpOp
  simp only [ho]
  have hw:Region.wanted o (yielded ops a.tmps)=true:=by simp [Region.wanted,hgd]
  rw [if_pos hw]
  refine .inl ?_
  unfold Oper.wp
  rw [hrun]
  have:=hret.run n1 w μ H vals.toList (hp.part hsub) hargs
  simp only [Oper.upon]
  rw [Array.toArray_toList] at this
  refine Calls.mono this ?_
  rintro e w' ⟨val,μ',H',n2,v,σo,rfl,hR,hv,hp',hle,hfr,hfresh⟩
  have hb:=hp.back hsub hp' hfr
  have hk:=hK n2 v σo hle hR
  show wpOps P ops _ (List.range' (l1.length+1) l2.length++[]) (a.put o.dst val) w'
  have hr2:Rl μ' H' nt ((d,v)::restrict live1 env) (a.put o.dst val):=by
   rw [hdst]
   exact (hr1.mono hb.2.mu hb.2.hp).put (d:=some d) (fun dd hdd=>by cases hdd;exact hdnt) hv
  refine stretch (B:=B) (ep:=n2) (by omega) ?_ l2 (l1.length+1) (fun j i hj=>?_) (of_decide_eq_true hd2) _ _ _ _ (n2+1) μ' H' hr2 (hb.1.more (Nat.le_succ _)) (Nat.lt_succ_self _) (free l2 hb.1) (hf.trans hb.2) (fun id hid h0=>hfresh id (by omega) (hold id hid h0)) hk
  ·intro env σ a w n3 μ H hq hr hp hn3 hf hold
   show ∃st',Q .normal st'/\At W0 nt B st' a w
   refine ⟨_,hq n3 hn3,μ,H,⟨hr.size,hr.defers,fun s=>?_⟩,hp,hf,hold,by simp only;omega⟩
   rcases get_restrict live env s with h|h
   ·simp only;rw [h];exact hr.at_ s
   ·simp only;rw [h];exact .any _
  ·obtain ⟨o',ho',hok'⟩:=hat2 j i hj
   refine ⟨o',?_,hok'⟩
   rw [List.getElem?_drop] at ho'
   rw [<-Array.getElem?_toList];exact ho'
 ·obtain ⟨o',ho',hok'⟩:=hat1 j i hj
  refine ⟨o',?_,hok'⟩
  rw [List.getElem?_take] at ho'
  split at ho'
  ·rw [Nat.zero_add,<-Array.getElem?_toList];exact ho'
  ·cases ho'
theorem okOpx_parts {ops:Array Oper} {l1 l2:List I} {d:Nat} {f:FuncId} {args:List X} (h:okOpx P nt ops l1 d f args l2=true):okIs P nt ops (ops.toList.take l1.length) l1=true/\(∃o,ops[l1.length]? = some o/\okCallX P nt o d f args=true)/\okIs P nt ops (ops.toList.drop (l1.length+1)) l2=true/\dstsOk l1=true/\dstsOk l2=true:=by
 unfold okOpx at h
 simp only [Bool.and_eq_true] at h
 obtain ⟨⟨⟨⟨h1,h2⟩,h3⟩,h4⟩,h5⟩:=h
 split at h2
 ·rename_i o ho;exact ⟨h1,⟨o,ho,h2⟩,h3,h4,h5⟩
 ·cases h2
theorem okOpxv_parts {ops:Array Oper} {l1 l2:List I} {d:Nat} {x:X} {args:List X} (h:okOpxv P nt ops l1 d x args l2=true):okIs P nt ops (ops.toList.take l1.length) l1=true/\(∃o,ops[l1.length]? = some o/\okCallXV nt o d x args=true)/\okIs P nt ops (ops.toList.drop (l1.length+1)) l2=true/\dstsOk l1=true/\dstsOk l2=true:=by
 unfold okOpxv at h
 simp only [Bool.and_eq_true] at h
 obtain ⟨⟨⟨⟨h1,h2⟩,h3⟩,h4⟩,h5⟩:=h
 split at h2
 ·rename_i o ho;exact ⟨h1,⟨o,ho,h2⟩,h3,h4,h5⟩
 ·cases h2
theorem aWP_opx {l1 l2:List I} {live1 live:List Nat} {d:Nat} {f:FuncId} {args:List X} {Q:Exit->St->Prop} {st:St}
  (h:iops P W0 st.n l1 st.env st.σ fun env σ=>∀n1,st.n<n1->CallE P W0 n1 d f (args.map (ev (get (restrict live1 env)))) (restrict live1 env) σ fun n2 env σ=>iops P W0 n2 l2 env σ fun env σ=>∀n3,n2<n3->Q .normal ⟨restrict live env,σ,n3⟩) :
  aWP P W0 nt (.opx l1 live1 d f args l2 live) Q st:=by
 intro code hc B a w hat
 obtain ⟨rid,ops,rfl,hk⟩:∃rid ops,code = .region rid ops false/\okOpx P nt ops l1 d f args l2=true:=by
  cases code with
  | region rid ops draw=>
   cases draw with
   | true=>simp [okCode] at hc
   | false=>exact ⟨rid,ops,rfl,by simpa [okCode] using hc⟩
  | _=>simp [okCode] at hc
 refine aWP_opxg (d:=d) (okc:=fun o=>okCallX P nt o d f args) (T:=fun n env σ K=>CallE P W0 n d f (args.map (ev (get env))) env σ K) (fun o hcc=>?_) ⟨rid,ops,rfl,okOpx_parts hk⟩ h hat
 unfold okCallX at hcc
 simp only [Bool.and_eq_true,beq_iff_eq,decide_eq_true_eq,Option.isNone_iff_eq_none] at hcc
 obtain ⟨⟨⟨hdst,hdnt⟩,hgd⟩,hop⟩:=hcc
 refine ⟨hdst,hdnt,hgd,fun n env σ K a w μ H hcall hr hp=>?_⟩
 obtain ⟨σi,R,hret,hsub,hK⟩:=hcall
 split at hop
 ·rename_i c hoc
  split at hop
  ·rename_i f' hcal
   simp only [Bool.and_eq_true,beq_iff_eq] at hop
   obtain ⟨rfl,hx⟩:=hop
   have hargs:VRels μ H (args.map (ev (get env))) (c.args.map a.eval).toList:=by
    have:=okXs_rel hr hx
    simpa using this
   exact ⟨_,_,_,σi,R,run_call (a:=a) hret.callable hoc hcal (show a.eval (.func f') = .func (.func f') #[] #[] from rfl) w,by simpa using hargs,hret,hsub,hK⟩
  ·cases hop
 ·cases hop
def CallEV (P:Program) (W0:World) (n:Nat) (d:Nat) (h:V) (vs:List V) (env:Env) (σ:Sto) (K:Nat->Env->Sto->Prop):Prop:=
 ∃f first caps,h = .fn f first caps/\CallE P W0 n d f (first++vs++caps) env σ K
theorem aWP_opxv {l1 l2:List I} {live1 live:List Nat} {d:Nat} {x:X} {args:List X} {Q:Exit->St->Prop} {st:St}
  (h:iops P W0 st.n l1 st.env st.σ fun env σ=>∀n1,st.n<n1->CallEV P W0 n1 d (ev (get (restrict live1 env)) x) (args.map (ev (get (restrict live1 env)))) (restrict live1 env) σ fun n2 env σ=>iops P W0 n2 l2 env σ fun env σ=>∀n3,n2<n3->Q .normal ⟨restrict live env,σ,n3⟩) :
  aWP P W0 nt (.opxv l1 live1 d x args l2 live) Q st:=by
 intro code hc B a w hat
 obtain ⟨rid,ops,rfl,hk⟩:∃rid ops,code = .region rid ops false/\okOpxv P nt ops l1 d x args l2=true:=by
  cases code with
  | region rid ops draw=>
   cases draw with
   | true=>simp [okCode] at hc
   | false=>exact ⟨rid,ops,rfl,by simpa [okCode] using hc⟩
  | _=>simp [okCode] at hc
 refine aWP_opxg (d:=d) (okc:=fun o=>okCallXV nt o d x args) (T:=fun n env σ K=>CallEV P W0 n d (ev (get env) x) (args.map (ev (get env))) env σ K) (fun o hcc=>?_) ⟨rid,ops,rfl,okOpxv_parts hk⟩ h hat
 unfold okCallXV at hcc
 simp only [Bool.and_eq_true,beq_iff_eq,decide_eq_true_eq,Option.isNone_iff_eq_none] at hcc
 obtain ⟨⟨⟨hdst,hdnt⟩,hgd⟩,hop⟩:=hcc
 refine ⟨hdst,hdnt,hgd,fun n env σ K a w μ H hcall hr hp=>?_⟩
 obtain ⟨f,first,caps,eh,σi,R,hret,hsub,hK⟩:=hcall
 split at hop
 ·rename_i c hoc
  split at hop
  ·rename_i h' hcal
   simp only [Bool.and_eq_true] at hop
   have hh:=okX_rel hr hop.1
   rw [eh] at hh
   obtain ⟨fv,cv,e1,r1,r2⟩:=hh.fn_inv
   have hargs:VRels μ H (args.map (ev (get env))) (c.args.map a.eval).toList:=by
    have:=okXs_rel hr hop.2
    simpa using this
   exact ⟨_,_,_,σi,R,run_call hret.callable hoc hcal e1 w,by simpa using (r1.append hargs).append r2,hret,hsub,hK⟩
  ·cases hop
 ·cases hop
theorem wpOp_call {ops:Array Oper} {k:Nat} {o:Oper} {QQ:Exit->Act->World->Prop} {K:Act->World->Prop} {a:Act} {w:World} {f:FuncId} {vals:Array Value} {post:Ending->World->Prop} (ho:ops[k]? = some o) (hgd:o.guard=none)
  (hrun:(execOp a.eval o).run P w = .ok (.enter f vals) w) (hc:Calls P f vals w post) (hK:∀e w',post e w'->∃val,e = .returned val/\K (a.put o.dst val) w'):wpOp P ops QQ k K a w:=by
 unfold wpOp
 simp only [ho]
 have hw:Region.wanted o (yielded ops a.tmps)=true:=by simp [Region.wanted,hgd]
 rw [if_pos hw]
 refine .inl ?_
 unfold Oper.wp
 rw [hrun]
 simp only [Oper.upon]
 refine Calls.mono hc fun e w' hp=>?_
 obtain ⟨val,rfl,hk⟩:=hK e w' hp
 exact hk
theorem aWP_opxd {l1:List I} {live1 live:List Nat} {d:Nat} {f:FuncId} {args:List X} {paths:List (List Nat)} {Q:Exit->St->Prop} {st:St}
  (h:iops P W0 st.n l1 st.env st.σ fun env σ=>∀n1,st.n<n1->CallE P W0 n1 d f (args.map (ev (get (restrict live1 env)))) (restrict live1 env) σ fun n2 env σ=>∀n3,n2<n3->Q .normal ⟨restrict live env,σ,n3⟩) :
  aWP P W0 nt (.opxd l1 live1 d f args live paths) Q st:=by
 intro code hc B a w hat
 obtain ⟨rid,ops,rfl,hk⟩:∃rid ops,code = .region rid ops true/\okOpxd P nt ops l1 d f args paths=true:=by
  cases code with
  | region rid ops draw=>
   cases draw with
   | false=>simp [okCode] at hc
   | true=>exact ⟨rid,ops,rfl,by simpa [okCode] using hc⟩
  | _=>simp [okCode] at hc
 unfold okOpxd at hk
 simp only [Bool.and_eq_true,decide_eq_true_eq] at hk
 obtain ⟨⟨⟨⟨⟨hc1,hcc⟩,hsz⟩,hd⟩,⟨hmix,he⟩,hord⟩,hlast⟩:=hk
 obtain ⟨μ,H,hr,hp,hf,hold,hn⟩:=hat
 obtain ⟨hl1,hat1⟩:=okIs_at hc1
 have hlt:l1.length<ops.size:=by omega
 have ho:ops[l1.length]? = some ops[l1.length]:=Array.getElem?_eq_getElem hlt
 rw [ho] at hcc
 simp only at hcc
 generalize ops[l1.length]=o at ho hcc
 unfold okCallX at hcc
 simp only [Bool.and_eq_true,beq_iff_eq,decide_eq_true_eq,Option.isNone_iff_eq_none] at hcc
 obtain ⟨⟨⟨hdst,hdnt⟩,hgd⟩,hop⟩:=hcc
 have hmap:(List.range l1.length).map (fun k=>l1.getD k default)=l1:=by
  apply List.ext_getElem?
  intro k
  by_cases hk:k<l1.length
  ·simp [hk,List.getD]
  ·simp [hk]
 replace h:iops P W0 st.n l1 st.env st.σ fun env σ=>∃τ,Seq σ τ/\∀n1,st.n<n1->CallE P W0 n1 d f (args.map (ev (get (restrict live1 env)))) (restrict live1 env) τ fun n2 env σ=>∀n3,n2<n3->Q .normal ⟨restrict live env,σ,n3⟩:=
  iops_mono (fun env σ hh=>⟨σ,Seq.refl _,hh⟩) h
 have hK:Resp fun env σ=>∃τ,Seq σ τ/\∀n1,st.n<n1->CallE P W0 n1 d f (args.map (ev (get (restrict live1 env)))) (restrict live1 env) τ fun n2 env σ=>∀n3,n2<n3->Q .normal ⟨restrict live env,σ,n3⟩:=by
  intro env env' σ σ' hg hs hh
  obtain ⟨τ,h1,h2⟩:=hh
  have:restrict live1 env'=restrict live1 env:=List.map_congr_left fun s _=>by rw [hg s]
  exact ⟨τ,hs.symm.trans h1,by rw [this];exact h2⟩
 have free:∀(rem:List Nat),∀k∈rem,∀d,(l1.getD k default).dst=some d->μ (st.n,d)=none:=fun rem k _ d _=>hp.bd (st.n,d) (Nat.le_refl _)
 refine wp_region_draw fun t=>?_
 simp only [Region.schedule,hmix,Bool.true_or,if_true]
 refine wpAny_sound ops.size t _ a _ ?_
 rw [hsz]
 have hfd:Fr B.μ B.H B.σ B.w μ H st.σ w.drew:=⟨hf.mu,hf.hp,hf.size,hf.keep,hf.pin,hf.dom⟩
 have hmem:∀k,l1.length<=k->k<ops.size->k=l1.length:=fun k h1 h2=>by omega
 rw [<-hsz]
 have hss:ops.size=(List.range l1.length).length+1:=by rw [List.length_range];exact hsz
 have key:=any_tail (W0:=W0) (ep:=st.n) (n0:=st.n) (μ0:=μ) (H0:=H) (σ0:=st.σ) (w0:=w.drew) (ops:=ops) (is:=l1) (nt:=nt) (P:=P) (m:=l1.length) (x:=1) (Q:=fun e a' w'=>∃st',Q e st'/\At W0 nt B st' a' w') (Nat.le_of_lt hlt) rfl
  (fun k o hk ho=>hat1 k o (by rw [List.getElem?_take,if_pos hk,Array.getElem?_toList];exact ho)) hd he hord (fun k h1 h2 j hj=>by
   have:=hmem k h1 h2
   subst this
   have h3:=List.all_eq_true.1 hlast j (by simpa using hj)
   obtain ⟨p,_,hp⟩:=List.any_eq_true.1 h3
   simp only [Bool.and_eq_true,beq_iff_eq] at hp
   exact ⟨p,hp.1.1,hp.1.2,hp.2⟩) hK ?_ l1.length (List.range l1.length) (Array.replicate ops.size false) st.env st.σ a w.drew (st.n+1) μ H (by simp) List.pairwise_lt_range (fun k=>?_) (fun k h1 h2=>by simp [Array.getD,h2]) (by simp) (fun i j hi hlt hh=>?_) ?_
   ⟨hr,hp.drew.more (Nat.le_succ _),Nat.lt_succ_self _,Nat.le_refl _,free _,Fr.refl _ _ _ _,fun _ _ h=>h⟩
 ·rw [show ops.size=l1.length+1 from hsz]
  rw [show ops.size=l1.length+1 from hsz] at key
  exact key
 · -- at the call
  intro listed env σ a w n μ' H' hls hli hq hri
  obtain ⟨τ,hs,hq⟩:=hq
  have hsub0:∀id e,lk τ id=some e->lk σ id=some e:=fun id e h=>by rw [hs id];exact h
  obtain ⟨σi,R,hret,hsub,hKK⟩:=hq n hri.ep_lt
  have hfr:=hfd.trans hri.fr
  refine ⟨fun hnil=>?_,fun k hk=>?_⟩
  ·exfalso
   have:l1.length∈Region.ready .any ops listed:=by
    unfold Region.ready
    simp only [List.mem_filter,List.mem_range,Bool.and_eq_true,ho,Option.map_some,Option.getD_some]
    refine ⟨hlt,by rw [(hli _ hlt).2 (Nat.le_refl _)];rfl,Array.all_eq_true'.2 fun e hem=>?_⟩
    unfold edgesOk at he
    have hbi:=List.all_eq_true.1 he l1.length (by simpa using hlt)
    rw [ho] at hbi
    have hbe:=Array.all_eq_true'.1 hbi e hem
    cases hbnd:Region.binds .any e with
    | false=>rfl
    | true=>
     simp only [hbnd,Bool.not_true,Bool.false_or,decide_eq_true_eq] at hbe⊢
     have h2:¬(listed.getD e.on true=false):=fun h=>by have:=(hli _ (by omega)).1 h;omega
     have h3:listed.getD e.on true=listed.getD e.on false:=by
      have:e.on<listed.size:=by omega
      simp [Array.getD,this]
     rw [<-h3]
     simpa using h2
   rw [hnil] at this
   cases this
  ·unfold Region.ready at hk
   simp only [List.mem_filter,List.mem_range,Bool.and_eq_true,Bool.not_eq_true'] at hk
   have hkl:=hmem k ((hli k hk.1).1 hk.2.1) hk.1
   subst hkl
   have hr1:Rl μ' H' nt (restrict live1 env) a:=⟨hri.rl.size,hri.rl.defers,fun s=>by
    rcases get_restrict live1 env s with h|h
    ·rw [h];exact hri.rl.at_ s
    ·rw [h];exact .any _⟩
   have hpτ:Hp W0 τ n μ' H' w:=hri.hp.part hsub0
   split at hop
   ·rename_i c hoc
    split at hop
    ·rename_i f' hcal
     simp only [Bool.and_eq_true,beq_iff_eq] at hop
     obtain ⟨rfl,hx⟩:=hop
     have hargs:VRels μ' H' (args.map (ev (get (restrict live1 env)))) (c.args.map a.eval).toList:=by
      have:=okXs_rel hr1 hx
      simpa using this
     have hrun:=run_call (a:=a) hret.callable hoc hcal (show a.eval (.func f') = .func (.func f') #[] #[] from rfl) w
     have hcalls:=hret.run n w μ' H' (c.args.map a.eval).toList (hpτ.part hsub) hargs
     rw [Array.toArray_toList] at hcalls
     simp only [Array.empty_append,Array.append_empty] at hrun
     refine wpOp_call ho hgd hrun hcalls ?_
     rintro e w' ⟨val,μ2,H2,n2,v,σo,rfl,hR,hv,hp',hle,hfr2,hfresh⟩
     have hb:=hpτ.back hsub hp' hfr2
     have hk2:=hKK n2 v σo hle hR
     refine ⟨val,rfl,?_,?_⟩
     ·cases h:Region.ready .any ops (listed.setIfInBounds l1.length true) with
      | nil=>rfl
      | cons k r=>
       exfalso
       have hkr:k∈Region.ready .any ops (listed.setIfInBounds l1.length true):=by rw [h];simp
       unfold Region.ready at hkr
       simp only [List.mem_filter,List.mem_range,Bool.and_eq_true,Bool.not_eq_true'] at hkr
       by_cases hkl:k=l1.length
       ·rw [hkl] at hkr
        simp [Array.getD_eq_getD_getElem?,Array.getElem?_setIfInBounds] at hkr
        rw [if_pos (by omega)] at hkr
        simp at hkr
       ·have:=hkr.2.1
        rw [Array.getD_eq_getD_getElem?,Array.getElem?_setIfInBounds_ne (Ne.symm hkl),<-Array.getD_eq_getD_getElem?] at this
        exact hkl (hmem k ((hli k hkr.1).1 this) hkr.1)
     ·have hr2:Rl μ2 H2 nt ((d,v)::restrict live1 env) (a.put o.dst val):=by
       rw [hdst]
       exact (hr1.mono hb.2.mu hb.2.hp).put (d:=some d) (fun dd hdd=>by cases hdd;exact hdnt) hv
      have hfrτ:Fr B.μ B.H B.σ B.w μ' H' τ w:=⟨hfr.mu,hfr.hp,hfr.size,hfr.keep,hfr.pin,fun bk hbk ho=>hfr.dom bk hbk (by obtain ⟨id,e,h1,h2⟩:=ho;exact ⟨id,e,hsub0 _ _ h1,h2⟩)⟩
      refine ⟨⟨restrict live ((d,v)::restrict live1 env),over σi σo τ,n2+1⟩,hk2 (n2+1) (Nat.lt_succ_self _),μ2,H2,⟨hr2.size,hr2.defers,fun s=>?_⟩,hb.1.more (Nat.le_succ _),hfrτ.trans hb.2,fun id hid h0=>hfresh id (by have:=hri.ep_lt;omega) (hri.old id (Nat.lt_of_lt_of_le hid hn) (hold id hid h0)),by have:=hri.ep_lt;simp only;omega⟩
      rcases get_restrict live ((d,v)::restrict live1 env) s with h|h
      ·simp only;rw [h];exact hr2.at_ s
      ·simp only;rw [h];exact .any _
    ·cases hop
   ·cases hop
 ·simp only [List.mem_range]
  constructor
  ·intro hk;exact ⟨hk,by have:k<ops.size:=(by omega);simp [Array.getD,this]⟩
  ·intro hk;exact hk.1
 ·simp [Array.getD,hlt] at hi
 ·rw [hmap];exact h
def FinE (rs:List R) (R:Nat->Nat->V->Sto->Prop) (n0:Nat):Exit->St->Prop
 | .normal,st|.ret,st=>∃vs σ',ResOks st rs vs/\(∀id e,lk σ' id=some e->lk st.σ id=some e)/\R n0 st.n (resV vs) σ'
 | _,_=>False
theorem fn_retE {f:FuncId} {ic:IC} {rs:List R} (hck:okFn P f nt ic rs=true) {args:List V} (hargs:args.length<=nt) {σ:Sto} {R:Nat->Nat->V->Sto->Prop}
  (h:∀n,(∀id e,lk σ id=some e->id.1<n)->aWP P W0 nt ic (FinE rs R n) ⟨params 0 args,σ,n⟩):RetE P W0 f args σ R:=by
 obtain ⟨fn,c,hf,hb,hcode,hnt,hrs,hcal⟩:=okFn_some hck
 refine ⟨hcal,fun n w μ H vals hp hv=>?_⟩
 subst hnt
 refine calls_of_wp hf hb ?_
 have hids:∀id e,lk σ id=some e->id.1<n:=by
  intro id e hl
  rcases Nat.lt_or_ge id.1 n with h|h
  ·exact h
  ·have hm:=hp.bd id h
   obtain ⟨_,hm'⟩:=(hp.ents id e hl).named
   rw [hm] at hm';cases hm'
 refine wp_mono (h n hids c hcode _ _ _ (init_at hargs hp hv)) fun e a w' hh=>?_
 obtain ⟨st',hq,μ',H',hr',hp',hf',hold,hn⟩:=hh
 have fin:(∃vs σ',ResOks st' rs vs/\(∀id e,lk σ' id=some e->lk st'.σ id=some e)/\R n st'.n (resV vs) σ')->a.defers=[]/\∃v,(results fn a.tmps).run P w' = .ok v w'/\
   ∃val μ'' H'' n'' vv σ',Ending.returned v=Ending.returned val/\R n n'' vv σ'/\VRel μ'' H'' vv val/\Hp W0 σ' n'' μ'' H'' w'/\n<=n''/\Fr μ H σ w μ'' H'' σ' w'/\∀id:Id,id.1<n->μ id=none->μ'' id=none:=by
  rintro ⟨vs,σ',hres,hsub,hR⟩
  obtain ⟨val,hrun,hrel⟩:=results_run hr' hp' hrs hres
  refine ⟨hr'.defers,val,hrun,val,μ',H',st'.n,_,σ',rfl,hR,hrel,hp'.part hsub,hn,⟨hf'.mu,hf'.hp,hf'.size,hf'.keep,hf'.pin,fun bk hb ho=>hf'.dom bk hb ?_⟩,hold⟩
  obtain ⟨id,e,hl,hbk⟩:=ho
  exact ⟨id,e,hsub _ _ hl,hbk⟩
 cases e with
 | normal=>exact fin hq
 | ret=>exact fin hq
 | _=>exact hq.elim
end
end Go.Ir
end
section
namespace Go.Ir
open Go.RowKit
def intC (op:BinOp) (b:Int):Prop:=
 match op with
 | .add|.sub|.mul|.eql|.neq|.lss|.leq|.gtr|.geq=>True
 | .quo|.rem=>b≠0
 | _=>False
def intV (op:BinOp) (k:IntKind) (a b:Int):V:=
 match op with
 | .add=>.i k (k.wrap (a+b))
 | .sub=>.i k (k.wrap (a-b))
 | .mul=>.i k (k.wrap (a*b))
 | .quo=>.i k (k.wrap (a.tdiv b))
 | .rem=>.i k (a.tmod b)
 | .eql=>.b (a == b)
 | .neq=>.b (a != b)
 | .lss=>.b (decide (a<b))
 | .leq=>.b (decide (a<=b))
 | .gtr=>.b (decide (a>b))
 | .geq=>.b (decide (a>=b))
 | _=>.any
def strC (op:BinOp) (a b:List UInt8):Prop:=
 match op with
 | .add=>a.length+b.length<=SLim
 | .eql|.neq|.lss|.leq|.gtr|.geq=>True
 | _=>False
def strV (op:BinOp) (a b:List UInt8):V:=
 match op with
 | .add=>.s (a++b)
 | .eql=>.b (a == b)
 | .neq=>.b (!(a == b))
 | .lss=>.b (Op.bytesLess a b)
 | .leq=>.b (Op.bytesLess a b||a == b)
 | .gtr=>.b (!(Op.bytesLess a b||a == b))
 | .geq=>.b (!Op.bytesLess a b)
 | _=>.any
def binC (op:BinOp):V->V->Prop
 | .i k _,.i k' b=>k=k'/\intC op b
 | .s a,.s b=>strC op a b
 | _,_=>False
def binV (op:BinOp):V->V->V
 | .i k a,.i _ b=>intV op k a b
 | .s a,.s b=>strV op a b
 | _,_=>.any
theorem intE_iff {op:BinOp} {k:IntKind} {a b:Int} {v:V}:intE op k a b v↔intC op b/\v=intV op k a b:=by
 cases op<;>simp [intE,intC,intV]
theorem strE_iff {op:BinOp} {a b:List UInt8} {v:V}:strE op a b v↔strC op a b/\v=strV op a b:=by
 cases op<;>simp [strE,strC,strV]
theorem binE_iff {op:BinOp} {x y v:V}:binE op x y v↔binC op x y/\v=binV op x y:=by
 unfold binE
 split
 ·simp only [binC,binV,intE_iff,and_assoc]
 ·simp only [binC,binV,strE_iff]
 ·rename_i h1 h2
  have:¬binC op x y:=by
   unfold binC
   split
   ·exact fun _=>h1 _ _ _ _ rfl rfl
   ·exact fun _=>h2 _ _ rfl rfl
   ·exact fun h=>h
  simp [this]
def isB:V->Prop|.b _=>True|_=>False
def toB:V->Bool|.b t=>t|_=>false
theorem isB_iff {v:V} {Q:Bool->Prop}:(∃t,v = .b t/\Q t)↔isB v/\Q (toB v):=by
 cases v<;>simp [isB,toB]
def isI:V->Prop|.i _ _=>True|_=>False
def toI:V->Int|.i _ n=>n|_=>0
def kiI:V->IntKind|.i k _=>k|_=>.i64
def isS:V->Prop|.s _=>True|_=>False
def toS:V->List UInt8|.s l=>l|_=>[]
def isPt:V->Prop|.ref _ _|.aref _ _ _ _|.ep _ _=>True|_=>False
def addOff:V->Nat->V
 | .ref id o,n=>.ref id (o+n)
 | .aref id ix sz o,n=>.aref id ix sz (o+n)
 | .ep e o,n=>.ep e (o+n)
 | v,_=>v
def iaddrF (σ:Sto) (sz:Nat):V->V->Option V
 | .sl es,.i _ n=>if 0<=n then (es[n.toNat]?).bind fun el=>if (cells el).length=sz then some (.ep el 0) else none else none
 | .arr id,.i _ n=>if 0<=n then (match lk σ id with|some (.arr _ sz' es)=>if sz'=sz/\n.toNat<es.length then some (.aref id n.toNat sz 0) else none|_=>none) else none
 | _,_=>none
def loadF (σ:Sto) (n:Nat) (ag:Bool):V->Option V
 | .ref id off=>match lk σ id with|some (.box u)=>sub u off n ag|_=>none
 | .aref id ix sz off=>match lk σ id with|some (.arr _ sz' es)=>if sz'=sz then (es[ix]?).bind fun el=>sub el off n ag else none|_=>none
 | .ep u off=>sub u off n ag
 | _=>none
def storeF (σ:Sto) (n:Nat) (x:V):V->Option Sto
 | .ref id off=>match lk σ id with|some (.box u)=>(setc u off n x).map fun u'=>upd σ id (.box u')|_=>none
 | .aref id ix sz off=>match lk σ id with|some (.arr e sz' es)=>if sz'=sz then (es[ix]?).bind fun el=>(setc el off n x).map fun el'=>upd σ id (.arr e sz (es.set ix el')) else none|_=>none
 | _=>none
def idxF:V->V->Option V
 | .s l,.i _ n=>if 0<=n then (l[n.toNat]?).map fun c=>.i .u8 c.toNat else none
 | _,_=>none
section
variable {P : Program} {W0 : World} {ep : Nat} {l : List I} {env : Env} {σ : Sto} {K : Env → Sto → Prop}
theorem y_cons {d:Option Nat} {op:IOp}:iops P W0 ep (⟨d,op,none,[]⟩::l) env σ K↔∃v σ',E P W0 ep d op (get env) σ v σ'/\iops P W0 ep l (put env d v) σ' K:=by
 simp [iops,stepI,EA,apOk]
theorem y_ap {d:Option Nat} {op:IOp} {x:X} {ap:List X}:iops P W0 ep (⟨d,op,none,x::ap⟩::l) env σ K↔apOk ⟨d,op,none,x::ap⟩ (get env)/\iops P W0 ep (⟨d,op,none,[]⟩::l) env σ K:=by
 simp only [iops,stepI,EA]
 constructor
 ·rintro ⟨v,σ',⟨h1,h2⟩,h3⟩;exact ⟨h2,v,σ',⟨h1,fun x hx=>by cases hx⟩,h3⟩
 ·rintro ⟨h2,v,σ',⟨h1,_⟩,h3⟩;exact ⟨v,σ',⟨h1,h2⟩,h3⟩
def guardT (want:Bool) (v:V) (x y:Prop):Prop:=
 match v with
 | .b t=>(t=want->x)/\(t≠want->y)
 | .tup []=>y
 | _=>False
theorem y_of {d:Option Nat} {op:IOp} {C:Prop} {val:V} {τ:Sto} (h:∀v σ',E P W0 ep d op (get env) σ v σ'↔C/\v=val/\σ'=τ) :
  iops P W0 ep (⟨d,op,none,[]⟩::l) env σ K↔C/\iops P W0 ep l (put env d val) τ K:=by
 rw [y_cons]
 constructor
 ·rintro ⟨v,σ',h1,h2⟩;obtain ⟨hc,rfl,rfl⟩:=(h v σ').1 h1;exact ⟨hc,h2⟩
 ·rintro ⟨hc,h2⟩;exact ⟨val,τ,(h _ _).2 ⟨hc,rfl,rfl⟩,h2⟩
theorem y_opt {d:Option Nat} {op:IOp} {C:Prop} {o:Option V} (h:∀v σ',E P W0 ep d op (get env) σ v σ'↔C/\o=some v/\σ'=σ) :
  iops P W0 ep (⟨d,op,none,[]⟩::l) env σ K↔C/\o.isSome=true/\iops P W0 ep l (put env d (o.getD .any)) σ K:=by
 rw [y_cons]
 constructor
 ·rintro ⟨v,σ',h1,h2⟩;obtain ⟨hc,rfl,rfl⟩:=(h v σ').1 h1;exact ⟨hc,rfl,h2⟩
 ·rintro ⟨hc,ho,h2⟩
  cases o with
  | none=>cases ho
  | some v=>exact ⟨v,σ,(h _ _).2 ⟨hc,rfl,rfl⟩,h2⟩
variable {d : Nat}
theorem y_mv {x:X}:iops P W0 ep (⟨some d,.mv x,none,[]⟩::l) env σ K↔iops P W0 ep l ((d,ev (get env) x)::env) σ K:=
 (y_of (C:=True) (val:=ev (get env) x) (τ:=σ) fun v σ'=>by simp [E]).trans (by simp [put])
theorem y_pick {c a b:X}:iops P W0 ep (⟨some d,.pick c a b,none,[]⟩::l) env σ K↔isB (ev (get env) c)/\iops P W0 ep l ((d,bif toB (ev (get env) c) then ev (get env) a else ev (get env) b)::env) σ K:=
 y_of fun v σ'=>by simp only [E];exact isB_iff
theorem y_bin {op:BinOp} {x y:X}:iops P W0 ep (⟨some d,.bin op x y,none,[]⟩::l) env σ K↔binC op (ev (get env) x) (ev (get env) y)/\iops P W0 ep l ((d,binV op (ev (get env) x) (ev (get env) y))::env) σ K:=
 y_of fun v σ'=>by simp only [E,binE_iff,and_assoc]
theorem y_eqb {ne:Bool} {x y:X}:iops P W0 ep (⟨some d,.eqb ne x y,none,[]⟩::l) env σ K↔(isB (ev (get env) x)/\isB (ev (get env) y))/\iops P W0 ep l ((d,.b (if ne then !(toB (ev (get env) x) == toB (ev (get env) y)) else toB (ev (get env) x) == toB (ev (get env) y)))::env) σ K:=
 y_of fun v σ'=>by
  simp only [E]
  cases ev (get env) x<;>cases ev (get env) y<;>simp [isB,toB]
theorem y_not {x:X}:iops P W0 ep (⟨some d,.not x,none,[]⟩::l) env σ K↔isB (ev (get env) x)/\iops P W0 ep l ((d,.b (!(toB (ev (get env) x))))::env) σ K:=
 y_of fun v σ'=>by simp only [E];exact isB_iff
theorem y_cvi {k:IntKind} {x:X}:iops P W0 ep (⟨some d,.cvi k x,none,[]⟩::l) env σ K↔isI (ev (get env) x)/\iops P W0 ep l ((d,.i k (k.wrap (toI (ev (get env) x))))::env) σ K:=
 y_of fun v σ'=>by
  simp only [E]
  cases ev (get env) x<;>(try (simp [isI,toI];done))
  rename_i k' n
  simp only [isI,toI,true_and]
  exact ⟨fun ⟨k',n',h1,h2,h3⟩=>by cases h1;exact ⟨h2,h3⟩,fun ⟨h2,h3⟩=>⟨_,n,rfl,h2,h3⟩⟩
theorem y_faddr {x:X} {off:Nat}:iops P W0 ep (⟨some d,.faddr x off,none,[]⟩::l) env σ K↔isPt (ev (get env) x)/\iops P W0 ep l ((d,addOff (ev (get env) x) off)::env) σ K:=
 y_of fun v σ'=>by
  simp only [E]
  cases ev (get env) x<;>simp [isPt,addOff]
theorem y_iaddr {x i:X} {e sz:Nat}:iops P W0 ep (⟨some d,.iaddr x i e sz,none,[]⟩::l) env σ K↔True/\(iaddrF σ sz (ev (get env) x) (ev (get env) i)).isSome=true/\iops P W0 ep l ((d,(iaddrF σ sz (ev (get env) x) (ev (get env) i)).getD .any)::env) σ K:=
 y_opt fun v σ'=>by
  simp only [E,true_and]
  cases hi:ev (get env) i<;>(try (cases ev (get env) x<;>simp [iaddrF];done))
  rename_i k n
  cases hx:ev (get env) x<;>(try (simp [iaddrF];done))
  ·rename_i es
   simp only [iaddrF]
   by_cases hn:0<=n
   ·cases hg:es[n.toNat]? with
    | none=>simp [hn,hg]
    | some el=>
     by_cases hc:(cells el).length=sz
     ·simp [hn,hg,hc,eq_comm]
     ·simp [hn,hg,hc]
   ·simp [hn]
  ·rename_i id
   simp only [iaddrF]
   by_cases hn:0<=n
   ·cases hl:lk σ id with
    | none=>simp [hn,hl]
    | some en=>
     cases en with
     | box u=>simp [hn,hl]
     | map _=>simp [hn,hl]
     | it _ _=>simp [hn,hl]
     | mit _ _ _ _=>simp [hn,hl]
     | arr e' sz' es=>
      by_cases hc:sz'=sz
      ·subst hc
       by_cases hlt:n.toNat<es.length
       ·simp only [hn,hl,hlt,true_and,and_self,if_true,Option.some.injEq]
        constructor
        ·rintro ⟨⟨a,b,h1,h2,rfl⟩,rfl⟩;exact ⟨rfl,rfl⟩
        ·rintro ⟨rfl,rfl⟩;exact ⟨⟨e',es,rfl,hlt,rfl⟩,rfl⟩
       ·simp only [hn,hl,hlt,true_and,and_false,if_true,if_false,Option.some.injEq,reduceCtorEq,false_and,iff_false]
        rintro ⟨⟨a,b,h1,h2,rfl⟩,rfl⟩
        cases h1
        exact hlt h2
      ·simp [hn,hl,hc]
   ·simp [hn]
theorem y_idx {x i:X}:iops P W0 ep (⟨some d,.idx x i,none,[]⟩::l) env σ K↔True/\(idxF (ev (get env) x) (ev (get env) i)).isSome=true/\iops P W0 ep l ((d,(idxF (ev (get env) x) (ev (get env) i)).getD .any)::env) σ K:=
 y_opt fun v σ'=>by
  simp only [E,true_and]
  cases hi:ev (get env) i<;>(try (cases ev (get env) x<;>simp [idxF];done))
  rename_i k n
  cases hx:ev (get env) x<;>(try (simp [idxF];done))
  rename_i l
  simp only [idxF]
  by_cases hn:0<=n
  ·cases hg:l[n.toNat]? with
   | none=>simp [hn,hg]
   | some c=>
    simp only [hn,hg,if_true,Option.map_some,Option.some.injEq]
    constructor
    ·rintro ⟨l',k',n',c',h1,h2,h3,h4,rfl,rfl⟩;cases h1;cases h2;rw [hg] at h4;cases h4;exact ⟨rfl,rfl⟩
    ·rintro ⟨rfl,rfl⟩;exact ⟨l,k,n,c,rfl,rfl,hn,hg,rfl,rfl⟩
  ·simp [hn]
theorem y_load {x:X} {n:Nat} {ag:Bool}:iops P W0 ep (⟨some d,.load x n ag,none,[]⟩::l) env σ K↔True/\(loadF σ n ag (ev (get env) x)).isSome=true/\iops P W0 ep l ((d,(loadF σ n ag (ev (get env) x)).getD .any)::env) σ K:=
 y_opt fun v σ'=>by
  simp only [E,true_and]
  cases hx:ev (get env) x<;>(try (simp [loadF];done))
  ·rename_i id off
   simp only [loadF]
   cases hl:lk σ id with
   | none=>simp
   | some en=>cases en<;>simp
  ·rename_i id ix sz off
   simp only [loadF]
   cases hl:lk σ id with
   | none=>simp
   | some en=>
    cases en with
    | box u=>simp
    | map _=>simp
    | it _ _=>simp
    | mit _ _ _ _=>simp
    | arr e sz' es=>
     by_cases hc:sz'=sz
     ·subst hc
      simp only [if_true]
      constructor
      ·rintro ⟨⟨e',es',el,h1,h2,h3⟩,rfl⟩;cases h1;rw [h2];exact ⟨h3,rfl⟩
      ·rintro ⟨h1,rfl⟩
       cases hg:es[ix]? with
       | none=>rw [hg] at h1;cases h1
       | some el=>rw [hg] at h1;exact ⟨⟨e,es,el,rfl,hg,h1⟩,rfl⟩
     ·simp [hc]
end
end Go.Ir
end
section
namespace Go.Ir
open Go.RowKit
def okAll (sz:Nat):List V->Prop
 | []=>True
 | x::xs=>(x.ok=true/\(cells x).length=sz)/\okAll sz xs
theorem okAll_iff {sz:Nat}:∀{xs:List V},(∀x∈xs,x.ok=true/\(cells x).length=sz)↔okAll sz xs
 | []=>by simp [okAll]
 | x::xs=>by simp [okAll,okAll_iff (xs:=xs)]
def okPs (g:Nat->V):List (Nat × Nat × X)->Prop
 | []=>True
 | p::ps=>(ev g p.2.2).ok=true/\okPs g ps
theorem okPs_iff {g:Nat->V}:∀{ps:List (Nat × Nat × X)},(∀p∈ps,(ev g p.2.2).ok=true)↔okPs g ps
 | []=>by simp [okPs]
 | p::ps=>by
  have:=okPs_iff (g:=g) (ps:=ps)
  simp only [okPs,List.mem_cons,forall_eq_or_imp,this]
def sliceS (g:Nat->V) (lo hi:Option X):V->Option V
 | .s l=>(bnd g 0 lo).bind fun a=>(bnd g l.length hi).bind fun b=>if a<=b/\b<=l.length then some (.s ((l.take b).drop a)) else none
 | _=>none
def sliceL (g:Nat->V) (lo hi:Option X) (es:List V):Option V:=
 (bnd g 0 lo).bind fun a=>(bnd g es.length hi).bind fun b=>if a<=b/\b<=es.length then some (.sl ((es.take b).drop a)) else none
def isL (sz:Nat):V->Prop
 | .sl es=>∀y∈es,(cells y).length=sz
 | .nil=>True
 | _=>False
def toL:V->List V
 | .sl es=>es
 | _=>[]
def appF (σ:Sto) (id:Id) (e sz:Nat) (xs:List V):V->Option Sto
 | .nil=>if xs.length<=LLim then some ((id,.arr e sz xs)::σ) else none
 | .arr id'=>match lk σ id' with
  | some (.arr e' sz' es)=>if e'=e/\sz'=sz/\es.length+xs.length<=LLim then some ((id,.arr e sz (es++xs))::del σ id') else none
  | _=>none
 | _=>none
def extF (k:Nat):V->Option V
 | .tup vs=>vs[k]?
 | _=>none
def isN:V->Prop
 | .ref _ _|.aref _ _ _ _|.ep _ _|.fn _ _ _=>True
 | _=>False
section
variable {P : Program} {W0 : World} {ep : Nat} {l : List I} {env : Env} {σ : Sto} {K : Env → Sto → Prop}
theorem y_sto {d:Option Nat} {op:IOp} {C:Prop} {val:V} {o:Option Sto} (h:∀v σ',E P W0 ep d op (get env) σ v σ'↔C/\v=val/\o=some σ') :
  iops P W0 ep (⟨d,op,none,[]⟩::l) env σ K↔C/\o.isSome=true/\iops P W0 ep l (put env d val) (o.getD []) K:=by
 rw [y_cons]
 constructor
 ·rintro ⟨v,σ',h1,h2⟩;obtain ⟨hc,rfl,rfl⟩:=(h v σ').1 h1;exact ⟨hc,rfl,h2⟩
 ·rintro ⟨hc,ho,h2⟩
  cases o with
  | none=>cases ho
  | some τ=>exact ⟨val,τ,(h _ _).2 ⟨hc,rfl,rfl⟩,h2⟩
theorem y_store {a x:X} {n:Nat}:iops P W0 ep (⟨none,.store a x n,none,[]⟩::l) env σ K↔(ev (get env) x).ok=true/\(storeF σ n (ev (get env) x) (ev (get env) a)).isSome=true/\iops P W0 ep l env ((storeF σ n (ev (get env) x) (ev (get env) a)).getD []) K:=
 y_sto fun v σ'=>by
  simp only [E]
  refine and_congr_right fun _=>and_congr_right fun _=>?_
  cases ev (get env) a<;>(try (simp [storeF];done))
  ·rename_i id off
   simp only [storeF]
   cases hl:lk σ id with
   | none=>simp
   | some en=>
    cases en with
    | arr e sz es=>simp
    | map _=>simp
    | it _ _=>simp
    | mit _ _ _ _=>simp
    | box u=>
     simp only [Option.some.injEq,Ent.box.injEq]
     constructor
     ·rintro ⟨u',w,rfl,h,rfl⟩;rw [h];rfl
     ·intro h
      cases hs:setc u off n (ev (get env) x) with
      | none=>rw [hs] at h;cases h
      | some w=>rw [hs] at h;cases h;exact ⟨u,w,rfl,hs,rfl⟩
  ·rename_i id ix sz off
   simp only [storeF]
   cases hl:lk σ id with
   | none=>simp
   | some en=>
    cases en with
    | box u=>simp
    | map _=>simp
    | it _ _=>simp
    | mit _ _ _ _=>simp
    | arr e sz' es=>
     simp only [Option.some.injEq,Ent.arr.injEq]
     constructor
     ·rintro ⟨e',es',el,el',⟨rfl,rfl,rfl⟩,h1,h2,rfl⟩;simp [h1,h2]
     ·intro h
      split at h
      ·rename_i hsz
       subst hsz
       cases hg:es[ix]? with
       | none=>rw [hg] at h;cases h
       | some el=>
        rw [hg] at h
        simp only [Option.bind_some] at h
        cases hs:setc el off n (ev (get env) x) with
        | none=>rw [hs] at h;cases h
        | some w=>rw [hs] at h;cases h;exact ⟨e,es,el,w,⟨rfl,rfl,rfl⟩,hg,hs,rfl⟩
      ·cases h
variable {d : Nat}
theorem y_box {x:X}:iops P W0 ep (⟨some d,.box x,none,[]⟩::l) env σ K↔(ev (get env) x).ok=true/\iops P W0 ep l ((d,.ref (ep,d) 0)::env) (((ep,d),.box (ev (get env) x))::σ) K:=
 y_of fun v σ'=>by
  simp only [E,Option.some.injEq]
  exact ⟨fun ⟨dd,h1,h2,h3,h4⟩=>by subst h1;exact ⟨h2,h3,h4⟩,fun ⟨h2,h3,h4⟩=>⟨d,rfl,h2,h3,h4⟩⟩
theorem y_alloc {z:V}:iops P W0 ep (⟨some d,.alloc z,none,[]⟩::l) env σ K↔True/\iops P W0 ep l ((d,.ref (ep,d) 0)::env) (((ep,d),.box z)::σ) K:=
 y_of fun v σ'=>by
  simp only [E,Option.some.injEq,true_and]
  exact ⟨fun ⟨dd,h1,h3,h4⟩=>by subst h1;exact ⟨h3,h4⟩,fun ⟨h3,h4⟩=>⟨d,rfl,h3,h4⟩⟩
theorem y_build {z:List V} {ps:List (Nat × Nat × X)}:iops P W0 ep (⟨some d,.build z ps,none,[]⟩::l) env σ K↔okPs (get env) ps/\(((fillV z (ps.map fun p=>(p.1,p.2.1,ev (get env) p.2.2))).map V.agg).isSome=true)/\iops P W0 ep l ((d,((fillV z (ps.map fun p=>(p.1,p.2.1,ev (get env) p.2.2))).map V.agg).getD .any)::env) σ K:=
 y_opt fun v σ'=>by
  simp only [E,okPs_iff]
  refine and_congr_right fun _=>and_congr_left fun _=>?_
  cases fillV z (ps.map fun p=>(p.1,p.2.1,ev (get env) p.2.2)) with
  | none=>simp
  | some cs=>simp [eq_comm]
theorem y_mslO {e sz:Nat} {xs:List X}:iops P W0 ep (⟨some d,.msl true e sz xs,none,[]⟩::l) env σ K↔okAll sz (xs.map (ev (get env)))/\iops P W0 ep l ((d,.arr (ep,d))::env) (((ep,d),.arr e sz (xs.map (ev (get env))))::σ) K:=
 y_of fun v σ'=>by
  simp only [E,okAll_iff,if_true,Option.some.injEq]
  exact ⟨fun ⟨h0,dd,h1,h3,h4⟩=>by subst h1;exact ⟨h0,h3,h4⟩,fun ⟨h0,h3,h4⟩=>⟨h0,d,rfl,h3,h4⟩⟩
theorem y_mslF {e sz:Nat} {xs:List X}:iops P W0 ep (⟨some d,.msl false e sz xs,none,[]⟩::l) env σ K↔okAll sz (xs.map (ev (get env)))/\iops P W0 ep l ((d,.sl (xs.map (ev (get env))))::env) σ K:=
 y_of fun v σ'=>by simp only [E,okAll_iff,Bool.false_eq_true,if_false]
theorem y_slS {x:X} {lo hi:Option X}:iops P W0 ep (⟨some d,.slS x lo hi,none,[]⟩::l) env σ K↔True/\(sliceS (get env) lo hi (ev (get env) x)).isSome=true/\iops P W0 ep l ((d,(sliceS (get env) lo hi (ev (get env) x)).getD .any)::env) σ K:=
 y_opt fun v σ'=>by
  simp only [E,true_and]
  constructor
  ·rintro ⟨l,a,b,h1,h2,h3,h4,h5,rfl,rfl⟩
   simp [sliceS,h1,h2,h3,h4,h5]
  ·rintro ⟨h,rfl⟩
   cases hx:ev (get env) x<;>rw [hx] at h<;>simp only [sliceS] at h<;>(try (cases h;done))
   rename_i l
   cases h1:bnd (get env) 0 lo with
   | none=>rw [h1] at h;cases h
   | some a=>
    cases h2:bnd (get env) l.length hi with
    | none=>rw [h1,h2] at h;cases h
    | some b=>
     simp only [h1,h2,Option.bind_some] at h
     split at h
     ·rename_i hb;cases h;exact ⟨l,a,b,rfl,rfl,h2,hb.1,hb.2,rfl,rfl⟩
     ·cases h
theorem y_slL {x:X} {lo hi:Option X} {sz:Nat}:iops P W0 ep (⟨some d,.slL x lo hi sz,none,[]⟩::l) env σ K↔isL sz (ev (get env) x)/\(sliceL (get env) lo hi (toL (ev (get env) x))).isSome=true/\iops P W0 ep l ((d,(sliceL (get env) lo hi (toL (ev (get env) x))).getD .any)::env) σ K:=
 y_opt fun v σ'=>by
  simp only [E]
  constructor
  ·rintro ⟨es,a,b,h1,h2,h3,h4,h5,h6,rfl,rfl⟩
   rcases h1 with h1|⟨h1,rfl⟩
   ·rw [h1];exact ⟨h6,by simp [sliceL,toL,h2,h3,h4,h5],rfl⟩
   ·rw [h1];exact ⟨trivial,(by simp only [sliceL,h2,h3,Option.bind_some];exact if_pos ⟨h4,h5⟩:sliceL (get env) lo hi []=_),rfl⟩
  ·rintro ⟨hL,h,rfl⟩
   have go:∀es:List V,(ev (get env) x = .sl es\/ev (get env) x = .nil/\es=[])->sliceL (get env) lo hi es=some v->(∀y∈es,(cells y).length=sz)->∃es a b,(ev (get env) x = .sl es\/ev (get env) x = .nil/\es=[])/\bnd (get env) 0 lo=some a/\bnd (get env) es.length hi=some b/\a<=b/\b<=es.length/\(∀y∈es,(cells y).length=sz)/\v = .sl ((es.take b).drop a)/\σ'=σ':=by
    intro es hes h hsz
    unfold sliceL at h
    cases h1:bnd (get env) 0 lo with
    | none=>rw [h1] at h;cases h
    | some a=>
     cases h2:bnd (get env) es.length hi with
     | none=>rw [h1,h2] at h;cases h
     | some b=>
      simp only [h1,h2,Option.bind_some] at h
      split at h
      ·rename_i hb;cases h;exact ⟨es,a,b,hes,rfl,h2,hb.1,hb.2,hsz,rfl,rfl⟩
      ·cases h
   cases hx:ev (get env) x<;>rw [hx] at hL h<;>simp only [isL] at hL
   ·have:=go [] (.inr ⟨hx,rfl⟩) h (by simp)
    rw [hx] at this;exact this
   ·rename_i es
    have:=go es (.inl hx) h hL
    rw [hx] at this;exact this
theorem y_lenS {x:X}:iops P W0 ep (⟨some d,.lenS x,none,[]⟩::l) env σ K↔isS (ev (get env) x)/\iops P W0 ep l ((d,.i .i64 ((toS (ev (get env) x)).length:Nat))::env) σ K:=
 y_of fun v σ'=>by
  simp only [E]
  cases ev (get env) x<;>simp [isS,toS]
theorem y_lenL {x:X}:iops P W0 ep (⟨some d,.lenL x,none,[]⟩::l) env σ K↔(elemsOf σ (ev (get env) x)).isSome=true/\iops P W0 ep l ((d,.i .i64 (((elemsOf σ (ev (get env) x)).getD []).length:Nat))::env) σ K:=
 y_of fun v σ'=>by
  simp only [E]
  cases elemsOf σ (ev (get env) x)<;>simp
theorem y_app {s x:X} {e sz:Nat}:iops P W0 ep (⟨some d,.app s x e sz,none,[]⟩::l) env σ K↔((elemsOf σ (ev (get env) x)).isSome=true/\∀y∈(elemsOf σ (ev (get env) x)).getD [],(cells y).length=sz)/\(appF σ (ep,d) e sz ((elemsOf σ (ev (get env) x)).getD []) (ev (get env) s)).isSome=true/\iops P W0 ep l ((d,.arr (ep,d))::env) ((appF σ (ep,d) e sz ((elemsOf σ (ev (get env) x)).getD []) (ev (get env) s)).getD []) K:=
 y_sto fun v σ'=>by
  simp only [E,Option.some.injEq]
  cases elemsOf σ (ev (get env) x) with
  | none=>simp
  | some xs=>
   simp only [Option.some.injEq,Option.isSome_some,Option.getD_some,true_and]
   constructor
   ·rintro ⟨dd,xs',rfl,rfl,h3,rfl,h5⟩
    refine ⟨h3,rfl,?_⟩
    cases hs:ev (get env) s<;>rw [hs] at h5<;>simp only at h5<;>(try (exact h5.elim))
    ·simp [appF,h5]
    ·obtain ⟨es,h6,h7,rfl⟩:=h5;simp [appF,h6,h7]
   ·rintro ⟨h3,rfl,h5⟩
    refine ⟨d,xs,rfl,rfl,h3,rfl,?_⟩
    cases hs:ev (get env) s<;>rw [hs] at h5<;>simp only [appF] at h5<;>(try (cases h5;done))
    ·split at h5
     ·rename_i hb;cases h5;exact ⟨hb,rfl⟩
     ·cases h5
    ·split at h5
     ·rename_i e' sz' es hl
      split at h5
      ·rename_i hb;obtain ⟨rfl,rfl,hb⟩:=hb;cases h5;exact ⟨es,hl,hb,rfl⟩
      ·cases h5
     ·cases h5
theorem y_ext {x:X} {k:Nat}:iops P W0 ep (⟨some d,.ext x k,none,[]⟩::l) env σ K↔True/\(extF k (ev (get env) x)).isSome=true/\iops P W0 ep l ((d,(extF k (ev (get env) x)).getD .any)::env) σ K:=
 y_opt fun v σ'=>by
  simp only [E]
  cases ev (get env) x<;>simp [extF]
theorem y_mkfn {f:FuncId} {first caps:List X}:iops P W0 ep (⟨some d,.mkfn f first caps,none,[]⟩::l) env σ K↔True/\iops P W0 ep l ((d,.fn f (first.map (ev (get env))) (caps.map (ev (get env))))::env) σ K:=
 y_of fun v σ'=>by simp [E]
theorem y_mx {lo:Bool} {x:X} {xs:List X}:iops P W0 ep (⟨some d,.mx lo x xs,none,[]⟩::l) env σ K↔True/\(mxV lo (ev (get env) x) (xs.map (ev (get env)))).isSome=true/\iops P W0 ep l ((d,(mxV lo (ev (get env) x) (xs.map (ev (get env)))).getD .any)::env) σ K:=
 y_opt fun v σ'=>by simp [E]
theorem y_nilck {x:X}:iops P W0 ep (⟨some d,.nilck x,none,[]⟩::l) env σ K↔isN (ev (get env) x)/\iops P W0 ep l ((d,ev (get env) x)::env) σ K:=
 y_of fun v σ'=>Iff.rfl
theorem y_mksl {a c:X} {z:V} {e sz:Nat}:iops P W0 ep (⟨some d,.mksl a c z e sz,none,[]⟩::l) env σ K↔(isI (ev (get env) a)/\isI (ev (get env) c)/\0<=toI (ev (get env) a)/\toI (ev (get env) a)<=toI (ev (get env) c)/\toI (ev (get env) c)<=LLim)/\iops P W0 ep l ((d,.arr (ep,d))::env) (((ep,d),.arr e sz (List.replicate (toI (ev (get env) a)).toNat z))::σ) K:=
 y_of fun v σ'=>by
  simp only [E,Option.some.injEq]
  constructor
  ·rintro ⟨dd,k,k',n,m,rfl,h1,h2,h3,h4,rfl,rfl⟩
   rw [h1,h2]
   simp only [isI,toI,true_and,Int.ofNat_eq_natCast,Int.toNat_natCast]
   exact ⟨⟨by omega,by omega,by omega⟩,trivial⟩
  ·rintro ⟨⟨h1,h2,h3,h4,h5⟩,rfl,rfl⟩
   cases ha:ev (get env) a<;>rw [ha] at h1 h3 h4<;>simp only [isI] at h1
   cases hc:ev (get env) c<;>rw [hc] at h2 h4 h5<;>simp only [isI] at h2
   simp only [toI] at *
   rename_i k n k' m
   exact ⟨d,k,k',n.toNat,m.toNat,rfl,by simp [Int.toNat_of_nonneg h3],by simp [Int.toNat_of_nonneg (Int.le_trans h3 h4)],by omega,by omega,rfl,rfl⟩
end
theorem wrap64 {n:Int} (h1:-9223372036854775808<=n) (h2:n<9223372036854775808):IntKind.i64.wrap n=n:=by
 simp only [IntKind.wrap,IntKind.bits,IntKind.signed] at *
 simp
 omega
theorem mxV_nil {lo:Bool} {v:V}:mxV lo v []=some v:=by cases v<;>rfl
theorem mxV_i {lo:Bool} {k:IntKind} {a b:Int} {r:List V}:mxV lo (.i k a) (.i k b::r)=mxV lo (.i k (if lo=true then min a b else max a b)) r:=by
 simp [mxV]
end Go.Ir
end
namespace Go.Ir
open Go.RowKit
def iaddrA (o:Option Ent) (id:Id) (sz:Nat) (n:Int):Option V:=
 match o with|some (.arr _ sz' es)=>if sz'=sz/\n.toNat<es.length then some (.aref id n.toNat sz 0) else none|_=>none
def loadB (en:Option Ent) (off n:Nat) (ag:Bool):Option V:=match en with|some (.box u)=>sub u off n ag|_=>none
def loadA (en:Option Ent) (ix sz off n:Nat) (ag:Bool):Option V:=match en with|some (.arr _ sz' es)=>if sz'=sz then (es[ix]?).bind fun el=>sub el off n ag else none|_=>none
def storeB (en:Option Ent) (σ:Sto) (n:Nat) (x:V) (id:Id) (off:Nat):Option Sto:=match en with|some (.box u)=>(setc u off n x).map fun u'=>upd σ id (.box u')|_=>none
def storeA (en:Option Ent) (σ:Sto) (n:Nat) (x:V) (id:Id) (ix sz off:Nat):Option Sto:=match en with|some (.arr e sz' es)=>if sz'=sz then (es[ix]?).bind fun el=>(setc el off n x).map fun el'=>upd σ id (.arr e sz (es.set ix el')) else none|_=>none
def appA (en:Option Ent) (σ:Sto) (id id':Id) (e sz:Nat) (xs:List V):Option Sto:=match en with|some (.arr e' sz' es)=>if e'=e/\sz'=sz/\es.length+xs.length<=LLim then some ((id,.arr e sz (es++xs))::del σ id') else none|_=>none
def elemsA:Option Ent->Option (List V)|some (.arr _ _ es)=>some es|_=>none
def bndV:V->Option Nat|.i _ n=>if 0<=n then some n.toNat else none|_=>none
theorem cells_b {x:Bool}:cells (.b x)=[(.b x)]:=rfl
theorem ok_b {x:Bool}:V.ok (.b x)=true:=rfl
theorem cells_i {k:IntKind} {n:Int}:cells (.i k n)=[(.i k n)]:=rfl
theorem ok_i {k:IntKind} {n:Int}:V.ok (.i k n)=true:=rfl
theorem cells_s {l:List UInt8}:cells (.s l)=[(.s l)]:=rfl
theorem ok_s {l:List UInt8}:V.ok (.s l)=true:=rfl
theorem cells_nil:cells .nil=[.nil]:=rfl
theorem ok_nil:V.ok .nil=true:=rfl
theorem cells_sl {es:List V}:cells (.sl es)=[(.sl es)]:=rfl
theorem ok_sl {es:List V}:V.ok (.sl es)=true:=rfl
theorem cells_agg {cs:List V}:cells (.agg cs)=cs:=rfl
theorem ok_agg {cs:List V}:V.ok (.agg cs)=true:=rfl
theorem cells_ref {id:Id} {o:Nat}:cells (.ref id o)=[(.ref id o)]:=rfl
theorem ok_ref {id:Id} {o:Nat}:V.ok (.ref id o)=true:=rfl
theorem cells_arr {id:Id}:cells (.arr id)=[(.arr id)]:=rfl
theorem ok_arr {id:Id}:V.ok (.arr id)=true:=rfl
theorem cells_aref {id:Id} {ix:Nat} {sz:Nat} {o:Nat}:cells (.aref id ix sz o)=[(.aref id ix sz o)]:=rfl
theorem ok_aref {id:Id} {ix:Nat} {sz:Nat} {o:Nat}:V.ok (.aref id ix sz o)=true:=rfl
theorem cells_ep {e:V} {o:Nat}:cells (.ep e o)=[(.ep e o)]:=rfl
theorem ok_ep {e:V} {o:Nat}:V.ok (.ep e o)=true:=rfl
theorem cells_fn {f:FuncId} {a:List V} {c:List V}:cells (.fn f a c)=[(.fn f a c)]:=rfl
theorem ok_fn {f:FuncId} {a:List V} {c:List V}:V.ok (.fn f a c)=true:=rfl
theorem cells_np:cells .np=[.np]:=rfl
theorem ok_np:V.ok .np=true:=rfl
theorem cells_nf:cells .nf=[.nf]:=rfl
theorem ok_nf:V.ok .nf=true:=rfl
theorem cells_ni:cells .ni=[.ni]:=rfl
theorem ok_ni:V.ok .ni=true:=rfl
theorem isA_agg {cs:List V}:isA (.agg cs)=true:=rfl
theorem isB_b {x:Bool}:isB (.b x)=True:=rfl
theorem toB_b {x:Bool}:toB (.b x)=x:=rfl
theorem isI_i {k:IntKind} {n:Int}:isI (.i k n)=True:=rfl
theorem toI_i {k:IntKind} {n:Int}:toI (.i k n)=n:=rfl
theorem kiI_i {k:IntKind} {n:Int}:kiI (.i k n)=k:=rfl
theorem isS_s {l:List UInt8}:isS (.s l)=True:=rfl
theorem toS_s {l:List UInt8}:toS (.s l)=l:=rfl
theorem isPt_ref {id:Id} {o:Nat}:isPt (.ref id o)=True:=rfl
theorem addOff_ref {id:Id} {o:Nat} {m:Nat}:addOff (.ref id o) m = .ref id (o+m):=rfl
theorem isN_ref {id:Id} {o:Nat}:isN (.ref id o)=True:=rfl
theorem isPt_aref {id:Id} {ix:Nat} {sz:Nat} {o:Nat}:isPt (.aref id ix sz o)=True:=rfl
theorem addOff_aref {id:Id} {ix:Nat} {sz:Nat} {o:Nat} {m:Nat}:addOff (.aref id ix sz o) m = .aref id ix sz (o+m):=rfl
theorem isN_aref {id:Id} {ix:Nat} {sz:Nat} {o:Nat}:isN (.aref id ix sz o)=True:=rfl
theorem isPt_ep {e:V} {o:Nat}:isPt (.ep e o)=True:=rfl
theorem addOff_ep {e:V} {o:Nat} {m:Nat}:addOff (.ep e o) m = .ep e (o+m):=rfl
theorem isN_ep {e:V} {o:Nat}:isN (.ep e o)=True:=rfl
theorem isN_fn {f:FuncId} {a:List V} {c:List V}:isN (.fn f a c)=True:=rfl
theorem iaddrF_sl {σ:Sto} {sz:Nat} {es:List V} {k:IntKind} {n:Int}:iaddrF σ sz (.sl es) (.i k n)=if 0<=n then (es[n.toNat]?).bind fun el=>if (cells el).length=sz then some (.ep el 0) else none else none:=rfl
theorem iaddrF_arr {σ:Sto} {sz:Nat} {id:Id} {k:IntKind} {n:Int}:iaddrF σ sz (.arr id) (.i k n)=if 0<=n then iaddrA (lk σ id) id sz n else none:=by unfold iaddrF iaddrA;rfl
theorem iaddrA_arr {e sz':Nat} {es:List V} {id:Id} {sz:Nat} {n:Int}:iaddrA (some (.arr e sz' es)) id sz n=if sz'=sz/\n.toNat<es.length then some (.aref id n.toNat sz 0) else none:=rfl
theorem loadF_ref {σ:Sto} {n:Nat} {ag:Bool} {id:Id} {o:Nat}:loadF σ n ag (.ref id o)=loadB (lk σ id) o n ag:=by unfold loadF loadB;rfl
theorem loadB_box {u:V} {o n:Nat} {ag:Bool}:loadB (some (.box u)) o n ag=sub u o n ag:=rfl
theorem loadF_aref {σ:Sto} {n:Nat} {ag:Bool} {id:Id} {ix sz o:Nat}:loadF σ n ag (.aref id ix sz o)=loadA (lk σ id) ix sz o n ag:=by unfold loadF loadA;rfl
theorem loadA_arr {e sz':Nat} {es:List V} {ix sz o n:Nat} {ag:Bool}:loadA (some (.arr e sz' es)) ix sz o n ag=if sz'=sz then (es[ix]?).bind fun el=>sub el o n ag else none:=rfl
theorem loadF_ep {σ:Sto} {n:Nat} {ag:Bool} {e:V} {o:Nat}:loadF σ n ag (.ep e o)=sub e o n ag:=rfl
theorem storeF_ref {σ:Sto} {n:Nat} {x:V} {id:Id} {o:Nat}:storeF σ n x (.ref id o)=storeB (lk σ id) σ n x id o:=by unfold storeF storeB;rfl
theorem storeB_box {u:V} {σ:Sto} {n:Nat} {x:V} {id:Id} {o:Nat}:storeB (some (.box u)) σ n x id o=(setc u o n x).map fun u'=>upd σ id (.box u'):=rfl
theorem storeF_aref {σ:Sto} {n:Nat} {x:V} {id:Id} {ix sz o:Nat}:storeF σ n x (.aref id ix sz o)=storeA (lk σ id) σ n x id ix sz o:=by unfold storeF storeA;rfl
theorem storeA_arr {e sz':Nat} {es:List V} {σ:Sto} {n:Nat} {x:V} {id:Id} {ix sz o:Nat}:storeA (some (.arr e sz' es)) σ n x id ix sz o=if sz'=sz then (es[ix]?).bind fun el=>(setc el o n x).map fun el'=>upd σ id (.arr e sz (es.set ix el')) else none:=rfl
theorem idxF_s {l:List UInt8} {k:IntKind} {n:Int}:idxF (.s l) (.i k n)=if 0<=n then (l[n.toNat]?).map fun c=>.i .u8 c.toNat else none:=rfl
theorem sliceS_s {g:Nat->V} {lo hi:Option X} {l:List UInt8}:sliceS g lo hi (.s l)=(bnd g 0 lo).bind fun a=>(bnd g l.length hi).bind fun b=>if a<=b/\b<=l.length then some (.s ((l.take b).drop a)) else none:=rfl
theorem isL_sl {sz:Nat} {es:List V}:isL sz (.sl es) = ∀y∈es,(cells y).length=sz:=rfl
theorem isL_nil {sz:Nat}:isL sz .nil=True:=rfl
theorem toL_sl {es:List V}:toL (.sl es)=es:=rfl
theorem toL_nil:toL .nil=[]:=rfl
theorem appF_nil {σ:Sto} {id:Id} {e sz:Nat} {xs:List V}:appF σ id e sz xs .nil=if xs.length<=LLim then some ((id,.arr e sz xs)::σ) else none:=rfl
theorem appF_arr {σ:Sto} {id id':Id} {e sz:Nat} {xs:List V}:appF σ id e sz xs (.arr id')=appA (lk σ id') σ id id' e sz xs:=by unfold appF appA;rfl
theorem appA_arr {e' sz':Nat} {es:List V} {σ:Sto} {id id':Id} {e sz:Nat} {xs:List V}:appA (some (.arr e' sz' es)) σ id id' e sz xs=if e'=e/\sz'=sz/\es.length+xs.length<=LLim then some ((id,.arr e sz (es++xs))::del σ id') else none:=rfl
theorem extF_tup {k:Nat} {vs:List V}:extF k (.tup vs)=vs[k]?:=rfl
theorem elemsOf_sl {σ:Sto} {es:List V}:elemsOf σ (.sl es)=some es:=rfl
theorem elemsOf_nil {σ:Sto}:elemsOf σ .nil=some []:=rfl
theorem elemsOf_arr {σ:Sto} {id:Id}:elemsOf σ (.arr id)=elemsA (lk σ id):=by unfold elemsOf elemsA;rfl
theorem elemsA_arr {e sz:Nat} {es:List V}:elemsA (some (.arr e sz es))=some es:=rfl
theorem binC_i {op:BinOp} {k k':IntKind} {a b:Int}:binC op (.i k a) (.i k' b)=(k=k'/\intC op b):=rfl
theorem binC_s {op:BinOp} {a b:List UInt8}:binC op (.s a) (.s b)=strC op a b:=rfl
theorem binV_i {op:BinOp} {k k':IntKind} {a b:Int}:binV op (.i k a) (.i k' b)=intV op k a b:=rfl
theorem binV_s {op:BinOp} {a b:List UInt8}:binV op (.s a) (.s b)=strV op a b:=rfl
theorem bnd_none {g:Nat->V} {m:Nat}:bnd g m none=some m:=rfl
theorem bnd_some {g:Nat->V} {m:Nat} {x:X}:bnd g m (some x)=bndV (ev g x):=by unfold bnd bndV;rfl
theorem bndV_i {k:IntKind} {n:Int}:bndV (.i k n)=if 0<=n then some n.toNat else none:=rfl
end Go.Ir
section
namespace Go.Ir
open Go.RowKit
def evE (env:Env) (x:X):V:=ev (get env) x
def evs (env:Env) (xs:List X):List V:=xs.map (ev (get env))
def psE (env:Env) (ps:List (Nat × Nat × X)):List (Nat × Nat × V):=ps.map fun p=>(p.1,p.2.1,ev (get env) p.2.2)
def okPsE (env:Env) (ps:List (Nat × Nat × X)):Prop:=okPs (get env) ps
def bndE (env:Env) (m:Nat) (x:Option X):Option Nat:=bnd (get env) m x
def sliceSE (env:Env) (lo hi:Option X) (v:V):Option V:=sliceS (get env) lo hi v
def sliceLE (env:Env) (lo hi:Option X) (es:List V):Option V:=sliceL (get env) lo hi es
theorem evE_t {env:Env} {s:Nat}:evE env (.t s)=get env s:=rfl
theorem evE_c {env:Env} {v:V}:evE env (.c v)=v:=rfl
theorem evs_nil {env:Env}:evs env []=[]:=rfl
theorem evs_cons {env:Env} {x:X} {xs:List X}:evs env (x::xs)=evE env x::evs env xs:=rfl
theorem psE_nil {env:Env}:psE env []=[]:=rfl
theorem psE_cons {env:Env} {a b:Nat} {x:X} {ps:List (Nat × Nat × X)}:psE env ((a,b,x)::ps)=(a,b,evE env x)::psE env ps:=rfl
theorem okPsE_nil {env:Env}:okPsE env []=True:=rfl
theorem okPsE_cons {env:Env} {a b:Nat} {x:X} {ps:List (Nat × Nat × X)}:okPsE env ((a,b,x)::ps)=((evE env x).ok=true/\okPsE env ps):=rfl
theorem bndE_none {env:Env} {m:Nat}:bndE env m none=some m:=rfl
theorem bndE_some {env:Env} {m:Nat} {x:X}:bndE env m (some x)=bndV (evE env x):=by unfold bndE evE;exact bnd_some
theorem sliceSE_s {env:Env} {lo hi:Option X} {l:List UInt8}:sliceSE env lo hi (.s l)=(bndE env 0 lo).bind fun a=>(bndE env l.length hi).bind fun b=>if a<=b/\b<=l.length then some (.s ((l.take b).drop a)) else none:=rfl
theorem sliceLE_eq {env:Env} {lo hi:Option X} {es:List V}:sliceLE env lo hi es=(bndE env 0 lo).bind fun a=>(bndE env es.length hi).bind fun b=>if a<=b/\b<=es.length then some (.sl ((es.take b).drop a)) else none:=rfl
theorem get_cons {k s:Nat} {v:V} {r:Env}:get ((k,v)::r) s=if k=s then v else get r s:=rfl
theorem get_nil {s:Nat}:get [] s = .any:=rfl
theorem restrict_nil {env:Env}:restrict [] env=[]:=rfl
theorem restrict_cons {s:Nat} {l:List Nat} {env:Env}:restrict (s::l) env=(s,get env s)::restrict l env:=rfl
section
variable {P : Program} {W0 : World} {ep d : Nat} {l : List I} {env : Env} {σ : Sto} {K : Env → Sto → Prop}
theorem z_mv {x:X}:iops P W0 ep (⟨some d,.mv x,none,[]⟩::l) env σ K↔iops P W0 ep l ((d,evE env x)::env) σ K:=y_mv
theorem z_pick {c a b:X}:iops P W0 ep (⟨some d,.pick c a b,none,[]⟩::l) env σ K↔isB (evE env c)/\iops P W0 ep l ((d,bif toB (evE env c) then evE env a else evE env b)::env) σ K:=y_pick
theorem z_bin {op:BinOp} {x y:X}:iops P W0 ep (⟨some d,.bin op x y,none,[]⟩::l) env σ K↔binC op (evE env x) (evE env y)/\iops P W0 ep l ((d,binV op (evE env x) (evE env y))::env) σ K:=y_bin
theorem z_eqb {ne:Bool} {x y:X}:iops P W0 ep (⟨some d,.eqb ne x y,none,[]⟩::l) env σ K↔(isB (evE env x)/\isB (evE env y))/\iops P W0 ep l ((d,.b (if ne then !(toB (evE env x) == toB (evE env y)) else toB (evE env x) == toB (evE env y)))::env) σ K:=y_eqb
theorem z_not {x:X}:iops P W0 ep (⟨some d,.not x,none,[]⟩::l) env σ K↔isB (evE env x)/\iops P W0 ep l ((d,.b (!(toB (evE env x))))::env) σ K:=y_not
theorem z_cvi {k:IntKind} {x:X}:iops P W0 ep (⟨some d,.cvi k x,none,[]⟩::l) env σ K↔isI (evE env x)/\iops P W0 ep l ((d,.i k (k.wrap (toI (evE env x))))::env) σ K:=y_cvi
theorem z_faddr {x:X} {off:Nat}:iops P W0 ep (⟨some d,.faddr x off,none,[]⟩::l) env σ K↔isPt (evE env x)/\iops P W0 ep l ((d,addOff (evE env x) off)::env) σ K:=y_faddr
theorem z_iaddr {x i:X} {e sz:Nat}:iops P W0 ep (⟨some d,.iaddr x i e sz,none,[]⟩::l) env σ K↔True/\(iaddrF σ sz (evE env x) (evE env i)).isSome=true/\iops P W0 ep l ((d,(iaddrF σ sz (evE env x) (evE env i)).getD .any)::env) σ K:=y_iaddr
theorem z_idx {x i:X}:iops P W0 ep (⟨some d,.idx x i,none,[]⟩::l) env σ K↔True/\(idxF (evE env x) (evE env i)).isSome=true/\iops P W0 ep l ((d,(idxF (evE env x) (evE env i)).getD .any)::env) σ K:=y_idx
theorem z_load {x:X} {n:Nat} {ag:Bool}:iops P W0 ep (⟨some d,.load x n ag,none,[]⟩::l) env σ K↔True/\(loadF σ n ag (evE env x)).isSome=true/\iops P W0 ep l ((d,(loadF σ n ag (evE env x)).getD .any)::env) σ K:=y_load
theorem z_store {a x:X} {n:Nat}:iops P W0 ep (⟨none,.store a x n,none,[]⟩::l) env σ K↔(evE env x).ok=true/\(storeF σ n (evE env x) (evE env a)).isSome=true/\iops P W0 ep l env ((storeF σ n (evE env x) (evE env a)).getD []) K:=y_store
theorem z_box {x:X}:iops P W0 ep (⟨some d,.box x,none,[]⟩::l) env σ K↔(evE env x).ok=true/\iops P W0 ep l ((d,.ref (ep,d) 0)::env) (((ep,d),.box (evE env x))::σ) K:=y_box
theorem z_alloc {z:V}:iops P W0 ep (⟨some d,.alloc z,none,[]⟩::l) env σ K↔True/\iops P W0 ep l ((d,.ref (ep,d) 0)::env) (((ep,d),.box z)::σ) K:=y_alloc
theorem z_build {z:List V} {ps:List (Nat × Nat × X)}:iops P W0 ep (⟨some d,.build z ps,none,[]⟩::l) env σ K↔okPsE env ps/\(((fillV z (psE env ps)).map V.agg).isSome=true)/\iops P W0 ep l ((d,((fillV z (psE env ps)).map V.agg).getD .any)::env) σ K:=y_build
theorem z_mslO {e sz:Nat} {xs:List X}:iops P W0 ep (⟨some d,.msl true e sz xs,none,[]⟩::l) env σ K↔okAll sz (evs env xs)/\iops P W0 ep l ((d,.arr (ep,d))::env) (((ep,d),.arr e sz (evs env xs))::σ) K:=y_mslO
theorem z_mslF {e sz:Nat} {xs:List X}:iops P W0 ep (⟨some d,.msl false e sz xs,none,[]⟩::l) env σ K↔okAll sz (evs env xs)/\iops P W0 ep l ((d,.sl (evs env xs))::env) σ K:=y_mslF
theorem z_slS {x:X} {lo hi:Option X}:iops P W0 ep (⟨some d,.slS x lo hi,none,[]⟩::l) env σ K↔True/\(sliceSE env lo hi (evE env x)).isSome=true/\iops P W0 ep l ((d,(sliceSE env lo hi (evE env x)).getD .any)::env) σ K:=y_slS
theorem z_slL {x:X} {lo hi:Option X} {sz:Nat}:iops P W0 ep (⟨some d,.slL x lo hi sz,none,[]⟩::l) env σ K↔isL sz (evE env x)/\(sliceLE env lo hi (toL (evE env x))).isSome=true/\iops P W0 ep l ((d,(sliceLE env lo hi (toL (evE env x))).getD .any)::env) σ K:=y_slL
theorem z_lenS {x:X}:iops P W0 ep (⟨some d,.lenS x,none,[]⟩::l) env σ K↔isS (evE env x)/\iops P W0 ep l ((d,.i .i64 ((toS (evE env x)).length:Nat))::env) σ K:=y_lenS
theorem z_lenL {x:X}:iops P W0 ep (⟨some d,.lenL x,none,[]⟩::l) env σ K↔(elemsOf σ (evE env x)).isSome=true/\iops P W0 ep l ((d,.i .i64 (((elemsOf σ (evE env x)).getD []).length:Nat))::env) σ K:=y_lenL
theorem z_app {s x:X} {e sz:Nat}:iops P W0 ep (⟨some d,.app s x e sz,none,[]⟩::l) env σ K↔((elemsOf σ (evE env x)).isSome=true/\∀y∈(elemsOf σ (evE env x)).getD [],(cells y).length=sz)/\(appF σ (ep,d) e sz ((elemsOf σ (evE env x)).getD []) (evE env s)).isSome=true/\iops P W0 ep l ((d,.arr (ep,d))::env) ((appF σ (ep,d) e sz ((elemsOf σ (evE env x)).getD []) (evE env s)).getD []) K:=y_app
theorem z_ext {x:X} {k:Nat}:iops P W0 ep (⟨some d,.ext x k,none,[]⟩::l) env σ K↔True/\(extF k (evE env x)).isSome=true/\iops P W0 ep l ((d,(extF k (evE env x)).getD .any)::env) σ K:=y_ext
theorem z_mkfn {f:FuncId} {first caps:List X}:iops P W0 ep (⟨some d,.mkfn f first caps,none,[]⟩::l) env σ K↔True/\iops P W0 ep l ((d,.fn f (evs env first) (evs env caps))::env) σ K:=y_mkfn
theorem z_mx {lo:Bool} {x:X} {xs:List X}:iops P W0 ep (⟨some d,.mx lo x xs,none,[]⟩::l) env σ K↔True/\(mxV lo (evE env x) (evs env xs)).isSome=true/\iops P W0 ep l ((d,(mxV lo (evE env x) (evs env xs)).getD .any)::env) σ K:=y_mx
theorem z_nilck {x:X}:iops P W0 ep (⟨some d,.nilck x,none,[]⟩::l) env σ K↔isN (evE env x)/\iops P W0 ep l ((d,evE env x)::env) σ K:=y_nilck
theorem z_mksl {a c:X} {z:V} {e sz:Nat}:iops P W0 ep (⟨some d,.mksl a c z e sz,none,[]⟩::l) env σ K↔(isI (evE env a)/\isI (evE env c)/\0<=toI (evE env a)/\toI (evE env a)<=toI (evE env c)/\toI (evE env c)<=LLim)/\iops P W0 ep l ((d,.arr (ep,d))::env) (((ep,d),.arr e sz (List.replicate (toI (evE env a)).toNat z))::σ) K:=y_mksl
variable {nt : Nat} {b : IC} {Q : Exit → St → Prop} {st : St} {Inv : Nat → St → Prop} {m k k' : Nat}
theorem InBlock_normal:InBlock k Q .normal st=Q .normal st:=rfl
theorem InBlock_exit:InBlock k Q (.exit k') st=if k'=k then Q .normal st else Q (.exit k') st:=rfl
theorem InBlock_ret:InBlock k Q .ret st=Q .ret st:=rfl
theorem Round_normal:Round Inv m Q .normal st = ∃m',m'<m/\Inv m' st:=rfl
theorem Round_exit:Round Inv m Q (.exit k) st=Q (.exit k) st:=rfl
theorem Round_ret:Round Inv m Q .ret st=Q .ret st:=rfl
end
end Go.Ir
end
section
namespace Go.Ir
open Go.RowKit
def J (P:Program) (W0:World) (ep:Nat) (live:List Nat) (Q:Exit->St->Prop) (l:List I) (env:Env) (σ:Sto):Prop:=
 iops P W0 ep l env σ fun env σ=>∀k,Q .normal ⟨restrict live env,σ,ep+1+k⟩
def JP (P:Program) (W0:World) (ep:Nat) (live:List Nat) (Q:Exit->St->Prop) (p:Prop) (l:List I) (env:Env) (σ:Sto):Prop:=p/\J P W0 ep live Q l env σ
def JL (P:Program) (W0:World) (ep:Nat) (live:List Nat) (Q:Exit->St->Prop) (p:Prop) (o:Option V) (l:List I) (d:Nat) (env:Env) (σ:Sto):Prop:=p/\o.isSome=true/\J P W0 ep live Q l ((d,o.getD .any)::env) σ
def JT (P:Program) (W0:World) (ep:Nat) (live:List Nat) (Q:Exit->St->Prop) (p:Prop) (o:Option Sto) (l:List I) (env:Env):Prop:=p/\o.isSome=true/\J P W0 ep live Q l env (o.getD [])
def gdU (P:Program) (W0:World) (ep:Nat) (live:List Nat) (Q:Exit->St->Prop) (v:V) (want:Bool) (d:Option Nat) (op:IOp) (ap:List X) (l:List I) (env:Env) (σ:Sto):Prop:=
 guardT want v (J P W0 ep live Q (⟨d,op,none,ap⟩::l) env σ) (J P W0 ep live Q l (put env d (.tup [])) σ)
def JCall (P:Program) (W0:World) (ep:Nat) (live:List Nat) (Q:Exit->St->Prop) (f:FuncId) (vs:List V) (l:List I) (d:Nat) (env:Env) (σ:Sto):Prop:=
 ∃v,RetS P W0 f vs [] v []/\J P W0 ep live Q l ((d,v)::env) σ
def JCallR (P:Program) (W0:World) (ep:Nat) (live:List Nat) (Q:Exit->St->Prop) (f:FuncId) (vs:List V) (l:List I) (d:Nat) (env:Env) (σ:Sto):Prop:=
 ∃v σi,RetS P W0 f vs σi v σi/\(∀id e,lk σi id=some e->lk σ id=some e)/\J P W0 ep live Q l ((d,v)::env) σ
def JCallS (P:Program) (W0:World) (ep:Nat) (live:List Nat) (Q:Exit->St->Prop) (f:FuncId) (vs:List V) (l:List I) (d:Nat) (env:Env) (σ:Sto):Prop:=
 ∃v σi σo,RetS P W0 f vs σi v σo/\(∀id e,lk σi id=some e->lk σ id=some e)/\J P W0 ep live Q l ((d,v)::env) (over σi σo σ)
def JCallN (P:Program) (W0:World) (ep:Nat) (live:List Nat) (Q:Exit->St->Prop) (f:FuncId) (vs:List V) (l:List I) (d:Nat) (env:Env) (σ:Sto):Prop:=
 ∃x σi σo,RetN P W0 f vs σi x σo/\(∀id e,lk σi id=some e->lk σ id=some e)/\J P W0 ep live Q l ((d,.arr (ep,d))::env) (((ep,d),x)::over σi σo σ)
def JCallV (P:Program) (W0:World) (ep:Nat) (live:List Nat) (Q:Exit->St->Prop) (h:V) (vs:List V) (l:List I) (d:Nat) (env:Env) (σ:Sto):Prop:=
 match h with
 | .fn f first caps=>JCall P W0 ep live Q f (first++vs++caps) l d env σ
 | _=>False
def JCallVS (P:Program) (W0:World) (ep:Nat) (live:List Nat) (Q:Exit->St->Prop) (h:V) (vs:List V) (l:List I) (d:Nat) (env:Env) (σ:Sto):Prop:=
 match h with
 | .fn f first caps=>JCallS P W0 ep live Q f (first++vs++caps) l d env σ
 | _=>False
def JW (P:Program) (W0:World) (ep:Nat) (live:List Nat) (Q:Exit->St->Prop) (o:Option (Sto × V)) (l:List I) (d:Nat) (env:Env):Prop:=∃p,o=some p/\J P W0 ep live Q l ((d,p.2)::env) p.1
def JM (P:Program) (W0:World) (ep:Nat) (live:List Nat) (Q:Exit->St->Prop) (o:Option Ent) (l:List I) (d:Nat) (env:Env) (σ:Sto):Prop:=∃e,o=some e/\J P W0 ep live Q l ((d,.arr (ep,d))::env) (((ep,d),e)::σ)
def rdO' (k:RdK) (xs:List V) (e:Option Ent):Option V:=e.bind fun e=>rdF k e xs
def rdV (σ:Sto) (k:RdK) (xs:List V):V->Option V
 | .arr id=>rdO' k xs (lk σ id)
 | _=>none
def wrO (σ:Sto) (id:Id) (k:WrK) (xs:List V) (e:Option Ent):Option (Sto × V):=e.bind fun e=>(wrF k e xs).map fun r=>(upd σ id r.1,r.2)
def wrV (σ:Sto) (k:WrK) (xs:List V):V->Option (Sto × V)
 | .arr id=>wrO σ id k xs (lk σ id)
 | _=>none
def frzO (σ:Sto) (id:Id) (n:Nat):Option Ent->Option (Sto × V)
 | some (.box (.agg cs))=>if cs.length=n/\cs.all (fun c=>!isA c)=true then some (del σ id,.sl cs) else none
 | _=>none
def frzV (σ:Sto) (n:Nat):V->Option (Sto × V)
 | .ref id 0=>frzO σ id n (lk σ id)
 | _=>none
def mrangeO (σ:Sto) (nid mid:Id):Option Ent->Option (Sto × V)
 | some (.map es)=>some ((nid,.mit mid es.length [] es.length)::σ,.arr nid)
 | _=>none
def mrangeV (σ:Sto) (nid:Id):V->Option (Sto × V)
 | .arr mid=>mrangeO σ nid mid (lk σ mid)
 | _=>none
def mentryM (i:Option Nat) (stepped:Nat):Option Ent->Option V
 | some (.map es)=>if stepped=es.length then i.bind fun i=>(es[i]?).map fun kv=>.tup [kv.1,kv.2] else none
 | _=>none
def mentryO (σ:Sto):Option Ent->Option V
 | some (.mit mid _ seen stepped)=>mentryM seen.getLast? stepped (lk σ mid)
 | _=>none
def mentryV (σ:Sto):V->Option V
 | .arr id=>mentryO σ (lk σ id)
 | _=>none
def lenV (es:List V):V:=.i .i64 (es.length:Nat)
def apC:List V->List V->Prop
 | [],_=>True
 | x::xs,ys=>(∀y∈ys,∀id,refId x=some id->refId y≠some id)/\apC xs ys
section
variable {P : Program} {W0 : World} {ep d : Nat} {live : List Nat} {Q : Exit → St → Prop} {l : List I} {env : Env} {σ : Sto}
theorem j_nil:J P W0 ep live Q [] env σ = ∀k,Q .normal ⟨restrict live env,σ,ep+1+k⟩:=rfl
theorem jp_true:JP P W0 ep live Q True l env σ=J P W0 ep live Q l env σ:=by simp [JP]
theorem jl_some {v:V}:JL P W0 ep live Q True (some v) l d env σ=J P W0 ep live Q l ((d,v)::env) σ:=by simp [JL]
theorem jt_some {τ:Sto}:JT P W0 ep live Q True (some τ) l env=J P W0 ep live Q l env τ:=by simp [JT]
theorem j_mv {x:X}:J P W0 ep live Q (⟨some d,.mv x,none,[]⟩::l) env σ=J P W0 ep live Q l ((d,evE env x)::env) σ:=by unfold J;exact propext (z_mv.trans (by simp))
theorem j_pick {c a b:X}:J P W0 ep live Q (⟨some d,.pick c a b,none,[]⟩::l) env σ=JP P W0 ep live Q (isB (evE env c)) l ((d,bif toB (evE env c) then evE env a else evE env b)::env) σ:=by unfold J JP;exact propext (z_pick.trans (by simp [J]))
theorem j_bin {op:BinOp} {x y:X}:J P W0 ep live Q (⟨some d,.bin op x y,none,[]⟩::l) env σ=JP P W0 ep live Q (binC op (evE env x) (evE env y)) l ((d,binV op (evE env x) (evE env y))::env) σ:=by unfold J JP;exact propext (z_bin.trans (by simp [J]))
theorem j_eqb {ne:Bool} {x y:X}:J P W0 ep live Q (⟨some d,.eqb ne x y,none,[]⟩::l) env σ=JP P W0 ep live Q ((isB (evE env x)/\isB (evE env y))) l ((d,.b (if ne then !(toB (evE env x) == toB (evE env y)) else toB (evE env x) == toB (evE env y)))::env) σ:=by unfold J JP;exact propext (z_eqb.trans (by simp [J]))
theorem j_not {x:X}:J P W0 ep live Q (⟨some d,.not x,none,[]⟩::l) env σ=JP P W0 ep live Q (isB (evE env x)) l ((d,.b (!(toB (evE env x))))::env) σ:=by unfold J JP;exact propext (z_not.trans (by simp [J]))
theorem j_cvi {k:IntKind} {x:X}:J P W0 ep live Q (⟨some d,.cvi k x,none,[]⟩::l) env σ=JP P W0 ep live Q (isI (evE env x)) l ((d,.i k (k.wrap (toI (evE env x))))::env) σ:=by unfold J JP;exact propext (z_cvi.trans (by simp [J]))
theorem j_faddr {x:X} {off:Nat}:J P W0 ep live Q (⟨some d,.faddr x off,none,[]⟩::l) env σ=JP P W0 ep live Q (isPt (evE env x)) l ((d,addOff (evE env x) off)::env) σ:=by unfold J JP;exact propext (z_faddr.trans (by simp [J]))
theorem j_iaddr {x i:X} {e sz:Nat}:J P W0 ep live Q (⟨some d,.iaddr x i e sz,none,[]⟩::l) env σ=JL P W0 ep live Q (True) (iaddrF σ sz (evE env x) (evE env i)) l d env σ:=by unfold J JL;exact propext (z_iaddr.trans (by simp [J]))
theorem j_idx {x i:X}:J P W0 ep live Q (⟨some d,.idx x i,none,[]⟩::l) env σ=JL P W0 ep live Q (True) (idxF (evE env x) (evE env i)) l d env σ:=by unfold J JL;exact propext (z_idx.trans (by simp [J]))
theorem j_load {x:X} {n:Nat} {ag:Bool}:J P W0 ep live Q (⟨some d,.load x n ag,none,[]⟩::l) env σ=JL P W0 ep live Q (True) (loadF σ n ag (evE env x)) l d env σ:=by unfold J JL;exact propext (z_load.trans (by simp [J]))
theorem j_store {a x:X} {n:Nat}:J P W0 ep live Q (⟨none,.store a x n,none,[]⟩::l) env σ=JT P W0 ep live Q ((evE env x).ok=true) (storeF σ n (evE env x) (evE env a)) l env:=by unfold J JT;exact propext (z_store.trans (by simp [J]))
theorem j_box {x:X}:J P W0 ep live Q (⟨some d,.box x,none,[]⟩::l) env σ=JP P W0 ep live Q ((evE env x).ok=true) l ((d,.ref (ep,d) 0)::env) (((ep,d),.box (evE env x))::σ):=by unfold J JP;exact propext (z_box.trans (by simp [J]))
theorem j_alloc {z:V}:J P W0 ep live Q (⟨some d,.alloc z,none,[]⟩::l) env σ=JP P W0 ep live Q (True) l ((d,.ref (ep,d) 0)::env) (((ep,d),.box z)::σ):=by unfold J JP;exact propext (z_alloc.trans (by simp [J]))
theorem j_build {z:List V} {ps:List (Nat × Nat × X)}:J P W0 ep live Q (⟨some d,.build z ps,none,[]⟩::l) env σ=JL P W0 ep live Q (okPsE env ps) ((fillV z (psE env ps)).map V.agg) l d env σ:=by unfold J JL;exact propext (z_build.trans (by simp [J]))
theorem j_mslO {e sz:Nat} {xs:List X}:J P W0 ep live Q (⟨some d,.msl true e sz xs,none,[]⟩::l) env σ=JP P W0 ep live Q (okAll sz (evs env xs)) l ((d,.arr (ep,d))::env) (((ep,d),.arr e sz (evs env xs))::σ):=by unfold J JP;exact propext (z_mslO.trans (by simp [J]))
theorem j_mslF {e sz:Nat} {xs:List X}:J P W0 ep live Q (⟨some d,.msl false e sz xs,none,[]⟩::l) env σ=JP P W0 ep live Q (okAll sz (evs env xs)) l ((d,.sl (evs env xs))::env) σ:=by unfold J JP;exact propext (z_mslF.trans (by simp [J]))
theorem j_slS {x:X} {lo hi:Option X}:J P W0 ep live Q (⟨some d,.slS x lo hi,none,[]⟩::l) env σ=JL P W0 ep live Q (True) (sliceSE env lo hi (evE env x)) l d env σ:=by unfold J JL;exact propext (z_slS.trans (by simp [J]))
theorem j_slL {x:X} {lo hi:Option X} {sz:Nat}:J P W0 ep live Q (⟨some d,.slL x lo hi sz,none,[]⟩::l) env σ=JL P W0 ep live Q (isL sz (evE env x)) (sliceLE env lo hi (toL (evE env x))) l d env σ:=by unfold J JL;exact propext (z_slL.trans (by simp [J]))
theorem j_lenS {x:X}:J P W0 ep live Q (⟨some d,.lenS x,none,[]⟩::l) env σ=JP P W0 ep live Q (isS (evE env x)) l ((d,.i .i64 ((toS (evE env x)).length:Nat))::env) σ:=by unfold J JP;exact propext (z_lenS.trans (by simp [J]))
theorem j_lenL {x:X}:J P W0 ep live Q (⟨some d,.lenL x,none,[]⟩::l) env σ=JL P W0 ep live Q (True) ((elemsOf σ (evE env x)).map lenV) l d env σ:=by unfold J JL;refine propext (z_lenL.trans ?_);cases elemsOf σ (evE env x)<;>simp [lenV,J]
theorem j_app {s x:X} {e sz:Nat}:J P W0 ep live Q (⟨some d,.app s x e sz,none,[]⟩::l) env σ=JT P W0 ep live Q (((elemsOf σ (evE env x)).isSome=true/\∀y∈(elemsOf σ (evE env x)).getD [],(cells y).length=sz)) (appF σ (ep,d) e sz ((elemsOf σ (evE env x)).getD []) (evE env s)) l ((d,.arr (ep,d))::env):=by unfold J JT;exact propext (z_app.trans (by simp [J]))
theorem j_ext {x:X} {k:Nat}:J P W0 ep live Q (⟨some d,.ext x k,none,[]⟩::l) env σ=JL P W0 ep live Q (True) (extF k (evE env x)) l d env σ:=by unfold J JL;exact propext (z_ext.trans (by simp [J]))
theorem j_mkfn {f:FuncId} {first caps:List X}:J P W0 ep live Q (⟨some d,.mkfn f first caps,none,[]⟩::l) env σ=J P W0 ep live Q l ((d,.fn f (evs env first) (evs env caps))::env) σ:=by unfold J;exact propext (z_mkfn.trans (by simp))
theorem j_mx {lo:Bool} {x:X} {xs:List X}:J P W0 ep live Q (⟨some d,.mx lo x xs,none,[]⟩::l) env σ=JL P W0 ep live Q (True) (mxV lo (evE env x) (evs env xs)) l d env σ:=by unfold J JL;exact propext (z_mx.trans (by simp [J]))
theorem j_nilck {x:X}:J P W0 ep live Q (⟨some d,.nilck x,none,[]⟩::l) env σ=JP P W0 ep live Q (isN (evE env x)) l ((d,evE env x)::env) σ:=by unfold J JP;exact propext (z_nilck.trans (by simp [J]))
theorem j_mksl {a c:X} {z:V} {e sz:Nat}:J P W0 ep live Q (⟨some d,.mksl a c z e sz,none,[]⟩::l) env σ=JP P W0 ep live Q ((isI (evE env a)/\isI (evE env c)/\0<=toI (evE env a)/\toI (evE env a)<=toI (evE env c)/\toI (evE env c)<=LLim)) l ((d,.arr (ep,d))::env) (((ep,d),.arr e sz (List.replicate (toI (evE env a)).toNat z))::σ):=by unfold J JP;exact propext (z_mksl.trans (by simp [J]))
theorem j_pu {k:PuK} {xs:List X}:J P W0 ep live Q (⟨some d,.pu k xs,none,[]⟩::l) env σ=JL P W0 ep live Q True (puF k (evs env xs)) l d env σ:=by
 unfold J JL
 refine propext (y_cons.trans ?_)
 simp only [E,put,evs,true_and]
 cases h:puF k (xs.map (ev (get env))) with
 | none=>simp
 | some v=>simp only [Option.some.injEq,Option.isSome_some,Option.getD_some,true_and];exact ⟨fun ⟨u,τ,⟨h1,h2⟩,h3⟩=>by subst h1;subst h2;exact h3,fun h=>⟨_,_,⟨rfl,rfl⟩,h⟩⟩
theorem j_rdm {k:RdK} {m:X} {xs:List X}:J P W0 ep live Q (⟨some d,.rdm k m xs,none,[]⟩::l) env σ=JL P W0 ep live Q True (rdV σ k (evs env xs) (evE env m)) l d env σ:=by
 unfold J JL
 refine propext (y_cons.trans ?_)
 simp only [E,put,evs,true_and,evE]
 constructor
 ·rintro ⟨v,σ',⟨⟨id,e,h1,h2,h3⟩,rfl⟩,h⟩
  have:rdV σ' k (xs.map (ev (get env))) (ev (get env) m)=some v:=by rw [h1];simp [rdV,rdO',h2,h3]
  rw [this]
  exact ⟨rfl,h⟩
 ·rintro ⟨h1,h⟩
  obtain ⟨v,hv⟩:=Option.isSome_iff_exists.1 h1
  rw [hv] at h
  unfold rdV at hv
  split at hv
  ·rename_i id hm
   unfold rdO' at hv
   obtain ⟨e,h2,h3⟩:=Option.bind_eq_some_iff.1 hv
   exact ⟨v,σ,⟨⟨id,e,hm,h2,h3⟩,rfl⟩,h⟩
  ·cases hv
theorem wrV_iff {d0:Option Nat} {k:WrK} {m:X} {xs:List X} {v:V} {σ':Sto}:E P W0 ep d0 (.wrm k m xs) (get env) σ v σ'↔wrV σ k (evs env xs) (evE env m)=some (σ',v):=by
 simp only [E,evs,evE]
 constructor
 ·rintro ⟨id,e,e',h1,h2,h3,rfl⟩
  rw [h1];simp [wrV,wrO,h2,h3]
 ·intro hv
  unfold wrV at hv
  split at hv
  ·rename_i id hm
   unfold wrO at hv
   obtain ⟨e,h2,h3⟩:=Option.bind_eq_some_iff.1 hv
   obtain ⟨r,h4,h5⟩:=Option.map_eq_some_iff.1 h3
   cases h5
   exact ⟨id,e,r.1,hm,h2,h4,rfl⟩
  ·cases hv
theorem j_wrmN {k:WrK} {m:X} {xs:List X}:J P W0 ep live Q (⟨none,.wrm k m xs,none,[]⟩::l) env σ=JT P W0 ep live Q True ((wrV σ k (evs env xs) (evE env m)).map (·.1)) l env:=by
 unfold J JT
 refine propext (y_cons.trans ?_)
 simp only [wrV_iff,put,true_and]
 cases h:wrV σ k (evs env xs) (evE env m) with
 | none=>simp
 | some p=>obtain ⟨τ,v⟩:=p;simp only [Option.some.injEq,Prod.mk.injEq,Option.map_some,Option.isSome_some,Option.getD_some,true_and];exact ⟨fun ⟨u,ρ,⟨h1,h2⟩,h3⟩=>by subst h1;subst h2;exact h3,fun h=>⟨_,_,⟨rfl,rfl⟩,h⟩⟩
theorem j_mkm {k:MkK} {xs:List X}:J P W0 ep live Q (⟨some d,.mkm k xs,none,[]⟩::l) env σ=JM P W0 ep live Q (mkF k (evs env xs)) l d env σ:=by
 unfold J JM
 refine propext (y_cons.trans ?_)
 simp only [E,put,evs]
 constructor
 ·rintro ⟨v,σ',⟨dd,e,h1,h2,rfl,rfl⟩,h⟩;cases h1;exact ⟨e,h2,h⟩
 ·rintro ⟨e,h1,h⟩;exact ⟨_,_,⟨d,e,rfl,h1,rfl,rfl⟩,h⟩
theorem cells_one {c:V}:cells c=[c]↔isA c=false:=by
 cases c<;>simp [cells,isA]
 rename_i cs
 match cs with
 | []=>simp
 | [x]=>
  intro h
  have h2:x = .agg [x]:=by simpa using h
  have h3:SizeOf.sizeOf x=SizeOf.sizeOf (V.agg [x]):=by rw [<-h2]
  simp at h3
  omega
 | _::_::_=>simp
theorem j_frz {m:X} {k:Nat}:J P W0 ep live Q (⟨some d,.frz m k,none,[]⟩::l) env σ=JW P W0 ep live Q (frzV σ k (evE env m)) l d env:=by
 unfold J JW
 refine propext (y_cons.trans ?_)
 simp only [E,put,evE]
 constructor
 ·rintro ⟨v,σ',⟨id,cs,h1,h2,h3,h4,rfl,rfl⟩,h⟩
  refine ⟨(del σ id,.sl cs),?_,h⟩
  rw [h1]
  simp only [frzV,h2,frzO]
  rw [if_pos ⟨h3,List.all_eq_true.2 fun c hc=>by rw [cells_one.1 (h4 c hc)];rfl⟩]
 ·rintro ⟨p,hp,h⟩
  unfold frzV at hp
  split at hp
  ·rename_i id hm
   unfold frzO at hp
   split at hp
   ·rename_i cs hl
    split at hp
    ·rename_i hc
     cases hp
     exact ⟨_,_,⟨id,cs,hm,hl,hc.1,fun c hcc=>cells_one.2 (by have:=List.all_eq_true.1 hc.2 c hcc;simpa using this),rfl,rfl⟩,h⟩
    ·cases hp
   ·cases hp
  ·cases hp
theorem j_mrange {m:X}:J P W0 ep live Q (⟨some d,.mrange m,none,[]⟩::l) env σ=JW P W0 ep live Q (mrangeV σ (ep,d) (evE env m)) l d env:=by
 unfold J JW
 refine propext (y_cons.trans ?_)
 simp only [E,put,evE]
 constructor
 ·rintro ⟨v,σ',⟨dd,mid,es,h1,h2,h3,rfl,rfl⟩,h⟩
  cases h1
  refine ⟨(((ep,d),.mit mid es.length [] es.length)::σ,.arr (ep,d)),?_,h⟩
  rw [h2]
  simp only [mrangeV,h3,mrangeO]
 ·rintro ⟨p,hp,h⟩
  unfold mrangeV at hp
  split at hp
  ·rename_i mid hm
   unfold mrangeO at hp
   split at hp
   ·rename_i es hl
    cases hp
    exact ⟨_,_,⟨d,mid,es,rfl,hm,hl,rfl,rfl⟩,h⟩
   ·cases hp
  ·cases hp
theorem j_mentry {m:X}:J P W0 ep live Q (⟨some d,.mentry m,none,[]⟩::l) env σ=JL P W0 ep live Q True (mentryV σ (evE env m)) l d env σ:=by
 unfold J JL
 refine propext (y_cons.trans ?_)
 simp only [E,put,evE,true_and]
 constructor
 ·rintro ⟨v,σ',⟨id,mid,since,seen,i,es,kv,h1,h2,h3,h4,h5,rfl,rfl⟩,h⟩
  have:mentryV σ' (ev (get env) m)=some (.tup [kv.1,kv.2]):=by
   rw [h1]
   simp [mentryV,mentryO,mentryM,h2,h3,h4,h5]
  rw [this]
  exact ⟨rfl,h⟩
 ·rintro ⟨h1,h⟩
  obtain ⟨v,hv⟩:=Option.isSome_iff_exists.1 h1
  rw [hv] at h
  unfold mentryV at hv
  split at hv
  ·rename_i id hm
   unfold mentryO at hv
   split at hv
   ·rename_i mid since seen stepped hl
    unfold mentryM at hv
    split at hv
    ·rename_i es hlm
     split at hv
     ·rename_i hst
      subst hst
      obtain ⟨i,h3,h4⟩:=Option.bind_eq_some_iff.1 hv
      obtain ⟨kv,h5,h6⟩:=Option.map_eq_some_iff.1 h4
      subst h6
      exact ⟨_,_,⟨id,mid,since,seen,i,es,kv,hm,hl,h3,hlm,h5,rfl,rfl⟩,h⟩
     ·cases hv
    ·cases hv
   ·cases hv
  ·cases hv
theorem frzV_ref {id:Id} {n:Nat}:frzV σ n (.ref id 0)=frzO σ id n (lk σ id):=rfl
theorem frzO_box {id:Id} {n:Nat} {cs:List V}:frzO σ id n (some (.box (.agg cs)))=if cs.length=n/\cs.all (fun c=>!isA c)=true then some (del σ id,.sl cs) else none:=rfl
theorem mrangeV_arr {nid mid:Id}:mrangeV σ nid (.arr mid)=mrangeO σ nid mid (lk σ mid):=rfl
theorem mrangeO_map {nid mid:Id} {es:List (V × V)}:mrangeO σ nid mid (some (.map es))=some ((nid,.mit mid es.length [] es.length)::σ,.arr nid):=rfl
theorem mentryV_arr {id:Id}:mentryV σ (.arr id)=mentryO σ (lk σ id):=rfl
theorem mentryO_mit {mid:Id} {since stepped:Nat} {seen:List Nat}:mentryO σ (some (.mit mid since seen stepped))=mentryM seen.getLast? stepped (lk σ mid):=rfl
theorem mentryM_map {i:Option Nat} {stepped:Nat} {es:List (V × V)}:mentryM i stepped (some (.map es))=if stepped=es.length then i.bind fun i=>(es[i]?).map fun kv=>.tup [kv.1,kv.2] else none:=rfl
theorem puF_nilN {ne:Bool}:puF (.isnil ne) [.nil]=some (.b (!ne)):=rfl
theorem puF_nilE {ne:Bool}:puF (.isnil ne) [.sl []]=some .ub:=rfl
theorem puF_nilC {ne:Bool} {x:V} {xs:List V}:puF (.isnil ne) [.sl (x::xs)]=some (.b ne):=rfl
theorem isA_b {t:Bool}:isA (.b t)=false:=rfl
theorem isA_i {k:IntKind} {n:Int}:isA (.i k n)=false:=rfl
theorem isA_s {s:List UInt8}:isA (.s s)=false:=rfl
theorem jw_some {τ:Sto} {v:V}:JW P W0 ep live Q (some (τ,v)) l d env=J P W0 ep live Q l ((d,v)::env) τ:=by
 unfold JW;simp
theorem jm_some {e:Ent}:JM P W0 ep live Q (some e) l d env σ=J P W0 ep live Q l ((d,.arr (ep,d))::env) (((ep,d),e)::σ):=by
 unfold JM;simp
theorem rdV_arr {k:RdK} {xs:List V} {id:Id}:rdV σ k xs (.arr id)=rdO' k xs (lk σ id):=rfl
theorem wrV_arr {k:WrK} {xs:List V} {id:Id}:wrV σ k xs (.arr id)=wrO σ id k xs (lk σ id):=rfl
theorem rdO_mget {kk:KeyK} {z:V} {ok:Bool} {es:List (V × V)} {k:V}:rdO' (.mget kk z ok) [k] (some (.map es))=(findV kk k es 0).map fun r=>match r with
  | some (_,v)=>if ok then .tup [v,.b true] else v
  | none=>if ok then .tup [z,.b false] else z:=rfl
theorem rdO_mlen {es:List (V × V)}:rdO' .mlen [] (some (.map es))=some (.i .i64 es.length):=rfl
theorem wrO_mput {kk:KeyK} {id:Id} {es:List (V × V)} {k v:V}:wrO σ id (.mput kk) [k,v] (some (.map es))=(findV kk k es 0).map fun r=>match r with
  | some (i,_)=>(upd σ id (.map (es.modify i fun e=>(e.1,v))),.tup [])
  | none=>(upd σ id (.map (es++[(k,v)])),.tup []):=by
 simp only [wrO,wrF,Option.bind_some,Option.map_map]
 congr 1
 funext r
 cases r<;>rfl
theorem mkF_map:mkF .mkmap []=some (.map []):=rfl
theorem mkF_it {s:List UInt8}:mkF .strit [.s s]=some (.it s 0):=rfl
theorem puF_itos {k:IntKind} {n:Int}:puF .itos [.i k n]=some (.s (Utf8.encode n).data.toList):=rfl
theorem puF_btos {es:List V}:puF .btos [.sl es]=(bytesV es).map .s:=rfl
theorem puF_btosN:puF .btos [.nil]=some (.s []):=rfl
theorem j_gd {d:Option Nat} {op:IOp} {s:Nat} {want:Bool} {ap:List X}:J P W0 ep live Q (⟨d,op,some (s,want),ap⟩::l) env σ=gdU P W0 ep live Q (get env s) want d op ap l env σ:=by
 unfold J gdU
 simp only [J,iops,stepI,guardT]
 cases get env s with
 | tup l=>cases l<;>rfl
 | _=>rfl
theorem gdU_tt {d:Option Nat} {op:IOp} {ap:List X}:gdU P W0 ep live Q (.b true) true d op ap l env σ=J P W0 ep live Q (⟨d,op,none,ap⟩::l) env σ:=by simp [gdU,guardT]
theorem gdU_ff {d:Option Nat} {op:IOp} {ap:List X}:gdU P W0 ep live Q (.b false) false d op ap l env σ=J P W0 ep live Q (⟨d,op,none,ap⟩::l) env σ:=by simp [gdU,guardT]
theorem gdU_tf {d:Option Nat} {op:IOp} {ap:List X}:gdU P W0 ep live Q (.b true) false d op ap l env σ=J P W0 ep live Q l (put env d (.tup [])) σ:=by simp [gdU,guardT]
theorem gdU_ft {d:Option Nat} {op:IOp} {ap:List X}:gdU P W0 ep live Q (.b false) true d op ap l env σ=J P W0 ep live Q l (put env d (.tup [])) σ:=by simp [gdU,guardT]
theorem gdU_n {d:Option Nat} {op:IOp} {ap:List X} {w:Bool}:gdU P W0 ep live Q (.tup []) w d op ap l env σ=J P W0 ep live Q l (put env d (.tup [])) σ:=by simp [gdU,guardT]
theorem gdU_t {d:Option Nat} {op:IOp} {ap:List X} {t:Bool} (h1:t=true->J P W0 ep live Q (⟨d,op,none,ap⟩::l) env σ) (h2:t=false->J P W0 ep live Q l (put env d (.tup [])) σ):gdU P W0 ep live Q (.b t) true d op ap l env σ:=by
 cases t
 ·rw [gdU_ft];exact h2 rfl
 ·rw [gdU_tt];exact h1 rfl
theorem gdU_f {d:Option Nat} {op:IOp} {ap:List X} {t:Bool} (h1:t=false->J P W0 ep live Q (⟨d,op,none,ap⟩::l) env σ) (h2:t=true->J P W0 ep live Q l (put env d (.tup [])) σ):gdU P W0 ep live Q (.b t) false d op ap l env σ:=by
 cases t
 ·rw [gdU_ff];exact h1 rfl
 ·rw [gdU_tf];exact h2 rfl
theorem apC_iff {g:Nat->V} {ys:List X}:∀{ap:List X},(∀x∈ap,∀y∈ys,∀id,refId (ev g x)=some id->refId (ev g y)≠some id)↔apC (ap.map (ev g)) (ys.map (ev g))
 | []=>by simp [apC]
 | x::ap=>by
  have:=apC_iff (g:=g) (ys:=ys) (ap:=ap)
  simp only [List.map_cons,apC,<-this,List.mem_cons,forall_eq_or_imp,List.mem_map,forall_exists_index,and_imp,forall_apply_eq_imp_iff₂]
theorem j_ap {d:Option Nat} {op:IOp} {x:X} {ap:List X}:J P W0 ep live Q (⟨d,op,none,x::ap⟩::l) env σ=JP P W0 ep live Q (apC (evs env (x::ap)) (evs env op.cs)) (⟨d,op,none,[]⟩::l) env σ:=by
 unfold J JP
 refine propext (y_ap.trans ?_)
 rw [show apOk ⟨d,op,none,x::ap⟩ (get env)↔apC (evs env (x::ap)) (evs env op.cs) from apC_iff]
 rfl
theorem j_call {f:FuncId} {args:List X}:J P W0 ep live Q (⟨some d,.call f args,none,[]⟩::l) env σ=JCall P W0 ep live Q f (evs env args) l d env σ:=by
 unfold J JCall
 refine propext (y_cons.trans ?_)
 simp only [E,put,evs]
 exact ⟨fun ⟨v,_,⟨h1,rfl⟩,h2⟩=>⟨v,h1,h2⟩,fun ⟨v,h1,h2⟩=>⟨v,_,⟨h1,rfl⟩,h2⟩⟩
theorem j_calls {f:FuncId} {args:List X}:J P W0 ep live Q (⟨some d,.calls f args,none,[]⟩::l) env σ=JCallS P W0 ep live Q f (evs env args) l d env σ:=by
 unfold J JCallS
 refine propext (y_cons.trans ?_)
 simp only [E,put,evs]
 exact ⟨fun ⟨v,_,⟨σi,σo,h1,h3,rfl⟩,h2⟩=>⟨v,σi,σo,h1,h3,h2⟩,fun ⟨v,σi,σo,h1,h3,h2⟩=>⟨v,_,⟨σi,σo,h1,h3,rfl⟩,h2⟩⟩
theorem j_callr {f:FuncId} {args:List X}:J P W0 ep live Q (⟨some d,.callr f args,none,[]⟩::l) env σ=JCallR P W0 ep live Q f (evs env args) l d env σ:=by
 unfold J JCallR
 refine propext (y_cons.trans ?_)
 simp only [E,put,evs]
 exact ⟨fun ⟨v,_,⟨⟨σi,h1,h3⟩,rfl⟩,h2⟩=>⟨v,σi,h1,h3,h2⟩,fun ⟨v,σi,h1,h3,h2⟩=>⟨v,_,⟨⟨σi,h1,h3⟩,rfl⟩,h2⟩⟩
theorem j_calln {f:FuncId} {args:List X}:J P W0 ep live Q (⟨some d,.calln f args,none,[]⟩::l) env σ=JCallN P W0 ep live Q f (evs env args) l d env σ:=by
 unfold J JCallN
 refine propext (y_cons.trans ?_)
 simp only [E,put,evs]
 exact ⟨fun ⟨v,_,⟨dd,σi,σo,x,hd,h1,h3,hv,rfl⟩,h2⟩=>by cases hd;subst hv;exact ⟨x,σi,σo,h1,h3,h2⟩,fun ⟨x,σi,σo,h1,h3,h2⟩=>⟨_,_,⟨d,σi,σo,x,rfl,h1,h3,rfl,rfl⟩,h2⟩⟩
theorem j_callvs {x:X} {args:List X}:J P W0 ep live Q (⟨some d,.callvs x args,none,[]⟩::l) env σ=JCallVS P W0 ep live Q (evE env x) (evs env args) l d env σ:=by
 unfold J
 refine propext (y_cons.trans ?_)
 simp only [E,put]
 constructor
 ·rintro ⟨v,_,⟨⟨f,first,caps,σi,σo,hx,h1,h3,rfl⟩,h2⟩⟩
  unfold JCallVS evE
  rw [hx]
  exact ⟨v,σi,σo,h1,h3,h2⟩
 ·intro h
  unfold JCallVS evE at h
  split at h
  ·rename_i f first caps hx
   obtain ⟨v,σi,σo,h1,h3,h2⟩:=h
   exact ⟨v,_,⟨f,first,caps,σi,σo,hx,h1,h3,rfl⟩,h2⟩
  ·cases h
theorem jcallv_fn {f:FuncId} {first caps vs:List V}:JCallV P W0 ep live Q (.fn f first caps) vs l d env σ=JCall P W0 ep live Q f (first++vs++caps) l d env σ:=rfl
theorem jcallvs_fn {f:FuncId} {first caps vs:List V}:JCallVS P W0 ep live Q (.fn f first caps) vs l d env σ=JCallS P W0 ep live Q f (first++vs++caps) l d env σ:=rfl
theorem c_call {f:FuncId} {vs:List V} {v:V} (h:RetS P W0 f vs [] v []) (hh:J P W0 ep live Q l ((d,v)::env) σ):JCall P W0 ep live Q f vs l d env σ:=⟨v,h,hh⟩
theorem c_callr {f:FuncId} {vs:List V} {v:V} {σi:Sto} (h:RetS P W0 f vs σi v σi) (hs:∀id e,lk σi id=some e->lk σ id=some e) (hh:J P W0 ep live Q l ((d,v)::env) σ):JCallR P W0 ep live Q f vs l d env σ:=⟨v,σi,h,hs,hh⟩
theorem c_calls {f:FuncId} {vs:List V} {v:V} {σi σo:Sto} (h:RetS P W0 f vs σi v σo) (hs:∀id e,lk σi id=some e->lk σ id=some e) (hh:J P W0 ep live Q l ((d,v)::env) (over σi σo σ)):JCallS P W0 ep live Q f vs l d env σ:=⟨v,σi,σo,h,hs,hh⟩
theorem c_calln {f:FuncId} {vs:List V} {x:Ent} {σi σo:Sto} (h:RetN P W0 f vs σi x σo) (hs:∀id e,lk σi id=some e->lk σ id=some e) (hh:J P W0 ep live Q l ((d,.arr (ep,d))::env) (((ep,d),x)::over σi σo σ)):JCallN P W0 ep live Q f vs l d env σ:=⟨x,σi,σo,h,hs,hh⟩
theorem c_callsq {f:FuncId} {vs:List V} {v:V} (h:RetS P W0 f vs [] v []) (hh:J P W0 ep live Q l ((d,v)::env) σ):JCallS P W0 ep live Q f vs l d env σ:=by
 refine ⟨v,[],[],h,fun id e h=>by simp [lk] at h,?_⟩
 have:over [] [] σ=σ:=by simp [over,lk]
 rw [this];exact hh
end
@[irreducible] def LoopW (P:Program) (W0:World) (nt:Nat) (c:IC) (Q:Exit->St->Prop) (st:St):Prop:=aWP P W0 nt (.loop c) Q st
@[irreducible] def NextW (P:Program) (W0:World) (nt:Nat) (d1 d2:Nat) (x:X) (live:List Nat) (Q:Exit->St->Prop) (st:St):Prop:=aWP P W0 nt (.mnext d1 d2 x live) Q st
@[irreducible] def WkW (P:Program) (W0:World) (nt:Nat) (c:IC) (Q:Exit->St->Prop) (st:St):Prop:=aWP P W0 nt c Q st
def JCallX (P:Program) (W0:World) (n:Nat) (d:Nat) (f:FuncId) (vs:List V) (l2:List I) (live:List Nat) (Q:Exit->St->Prop) (env:Env) (σ:Sto):Prop:=
 CallE P W0 n d f vs env σ fun n2 env σ=>J P W0 n2 live Q l2 env σ
def CallX (P:Program) (W0:World) (d:Nat) (f:FuncId) (args:List X) (l2:List I) (live:List Nat) (Q:Exit->St->Prop):Exit->St->Prop
 | .normal,st=>JCallX P W0 st.n d f (evs st.env args) l2 live Q st.env st.σ
 | _,_=>False
def JCallXV (P:Program) (W0:World) (n:Nat) (d:Nat) (h:V) (vs:List V) (l2:List I) (live:List Nat) (Q:Exit->St->Prop) (env:Env) (σ:Sto):Prop:=
 match h with
 | .fn f first caps=>JCallX P W0 n d f (first++vs++caps) l2 live Q env σ
 | _=>False
def CallXV (P:Program) (W0:World) (d:Nat) (x:X) (args:List X) (l2:List I) (live:List Nat) (Q:Exit->St->Prop):Exit->St->Prop
 | .normal,st=>JCallXV P W0 st.n d (evE st.env x) (evs st.env args) l2 live Q st.env st.σ
 | _,_=>False
def aW (P:Program) (W0:World) (nt:Nat):IC->(Exit->St->Prop)->St->Prop
 | .ops l live _,Q,st=>J P W0 st.n live Q l st.env st.σ
 | .seq a b,Q,st=>aW P W0 nt a (fun e s=>match e with|.normal=>aW P W0 nt b Q s|e=>Q e s) st
 | .cond c a b,Q,st=>match evE st.env c with|.b true=>aW P W0 nt a Q st|.b false=>aW P W0 nt b Q st|.ub=>aW P W0 nt a Q st/\aW P W0 nt b Q st|_=>False
 | .mnext d1 d2 x live,Q,st=>NextW P W0 nt d1 d2 x live Q st
 | .block id a,Q,st=>aW P W0 nt a (InBlock id Q) st
 | .loop c,Q,st=>LoopW P W0 nt c Q st
 | .wk c,Q,st=>WkW P W0 nt c Q st
 | .opx l1 live1 d f args l2 live,Q,st=>J P W0 st.n live1 (CallX P W0 d f args l2 live Q) l1 st.env st.σ
 | .opxd l1 live1 d f args live _,Q,st=>J P W0 st.n live1 (CallX P W0 d f args [] live Q) l1 st.env st.σ
 | .opxv l1 live1 d x args l2 live,Q,st=>J P W0 st.n live1 (CallXV P W0 d x args l2 live Q) l1 st.env st.σ
 | .exit id,Q,st=>Q (.exit id) st
 | .ret,Q,st=>Q .ret st
 | .skip,Q,st=>Q .normal st
def ThenW (P:Program) (W0:World) (nt:Nat) (b:IC) (Q:Exit->St->Prop) (e:Exit) (s:St):Prop:=match e with|.normal=>aW P W0 nt b Q s|e=>Q e s
def condU (P:Program) (W0:World) (nt:Nat) (v:V) (a b:IC) (Q:Exit->St->Prop) (env:Env) (σ:Sto) (n:Nat):Prop:=match v with|.b true=>aW P W0 nt a Q ⟨env,σ,n⟩|.b false=>aW P W0 nt b Q ⟨env,σ,n⟩|.ub=>aW P W0 nt a Q ⟨env,σ,n⟩/\aW P W0 nt b Q ⟨env,σ,n⟩|_=>False
section
variable {P : Program} {W0 : World} {nt n : Nat} {Q Q' : Exit → St → Prop} {env : Env} {σ : Sto} {a b c : IC} {st : St}
theorem aW_ops {l:List I} {live:List Nat} {paths:List (List Nat)}:aW P W0 nt (.ops l live paths) Q ⟨env,σ,n⟩=J P W0 n live Q l env σ:=rfl
theorem aW_seq:aW P W0 nt (.seq a b) Q ⟨env,σ,n⟩=aW P W0 nt a (ThenW P W0 nt b Q) ⟨env,σ,n⟩:=rfl
theorem aW_cond {x:X}:aW P W0 nt (.cond x a b) Q ⟨env,σ,n⟩=condU P W0 nt (evE env x) a b Q env σ n:=rfl
theorem aW_block {id:Nat}:aW P W0 nt (.block id a) Q ⟨env,σ,n⟩=aW P W0 nt a (InBlock id Q) ⟨env,σ,n⟩:=rfl
theorem aW_loop:aW P W0 nt (.loop c) Q ⟨env,σ,n⟩=LoopW P W0 nt c Q ⟨env,σ,n⟩:=rfl
theorem aW_wk:aW P W0 nt (.wk c) Q ⟨env,σ,n⟩=WkW P W0 nt c Q ⟨env,σ,n⟩:=rfl
theorem aW_exit {id:Nat}:aW P W0 nt (.exit id) Q ⟨env,σ,n⟩=Q (.exit id) ⟨env,σ,n⟩:=rfl
theorem aW_ret:aW P W0 nt .ret Q ⟨env,σ,n⟩=Q .ret ⟨env,σ,n⟩:=rfl
theorem aW_skip:aW P W0 nt .skip Q ⟨env,σ,n⟩=Q .normal ⟨env,σ,n⟩:=rfl
theorem condU_t:condU P W0 nt (.b true) a b Q env σ n=aW P W0 nt a Q ⟨env,σ,n⟩:=rfl
theorem condU_f:condU P W0 nt (.b false) a b Q env σ n=aW P W0 nt b Q ⟨env,σ,n⟩:=rfl
theorem condU_ub:condU P W0 nt .ub a b Q env σ n=(aW P W0 nt a Q ⟨env,σ,n⟩/\aW P W0 nt b Q ⟨env,σ,n⟩):=rfl
theorem aW_mnext {d1 d2:Nat} {x:X} {live:List Nat}:aW P W0 nt (.mnext d1 d2 x live) Q ⟨env,σ,n⟩=NextW P W0 nt d1 d2 x live Q ⟨env,σ,n⟩:=rfl
theorem condU_s {t:Bool} (h1:t=true->aW P W0 nt a Q ⟨env,σ,n⟩) (h2:t=false->aW P W0 nt b Q ⟨env,σ,n⟩):condU P W0 nt (.b t) a b Q env σ n:=by
 cases t
 ·exact h2 rfl
 ·exact h1 rfl
theorem callX_normal {d:Nat} {f:FuncId} {args:List X} {l2:List I} {live:List Nat}:CallX P W0 d f args l2 live Q .normal ⟨env,σ,n⟩=JCallX P W0 n d f (evs env args) l2 live Q env σ:=rfl
theorem callXV_normal {d:Nat} {x:X} {args:List X} {l2:List I} {live:List Nat}:CallXV P W0 d x args l2 live Q .normal ⟨env,σ,n⟩=JCallXV P W0 n d (evE env x) (evs env args) l2 live Q env σ:=rfl
theorem jcallxv_fn {d:Nat} {f:FuncId} {first caps vs:List V} {l2:List I} {live:List Nat}:JCallXV P W0 n d (.fn f first caps) vs l2 live Q env σ=JCallX P W0 n d f (first++vs++caps) l2 live Q env σ:=rfl
theorem c_callx {d:Nat} {f:FuncId} {vs:List V} {l2:List I} {live:List Nat} {σi:Sto} {R:Nat->Nat->V->Sto->Prop} (h:RetE P W0 f vs σi R) (hs:∀id e,lk σi id=some e->lk σ id=some e)
  (hh:∀n2 v σo,n<=n2->R n n2 v σo->J P W0 n2 live Q l2 ((d,v)::env) (over σi σo σ)):JCallX P W0 n d f vs l2 live Q env σ:=⟨σi,R,h,hs,hh⟩
theorem thenW_normal:ThenW P W0 nt b Q .normal st=aW P W0 nt b Q st:=rfl
theorem thenW_exit {k:Nat}:ThenW P W0 nt b Q (.exit k) st=Q (.exit k) st:=rfl
theorem thenW_ret:ThenW P W0 nt b Q .ret st=Q .ret st:=rfl
theorem aW_sound:∀{ic:IC} {Q:Exit->St->Prop} {st:St},aW P W0 nt ic Q st->aWP P W0 nt ic Q st
 | .ops l live paths,Q,st,h=>by
  refine aWP_ops ?_
  refine iops_mono (fun env σ hh n' hn=>?_) h
  have:=hh (n'-(st.n+1))
  rwa [Nat.add_sub_cancel' hn] at this
 | .seq a b,Q,st,h=>by
  refine aWP_seq (aWP_mono (aW_sound h) fun e s hs=>?_)
  cases e with
  | normal=>exact aW_sound (ic:=b) hs
  | _=>exact hs
 | .cond c a b,Q,st,h=>by
  simp only [aW] at h
  split at h
  ·rename_i hc;exact aWP_cond hc (fun _=>aW_sound h) (fun h=>by cases h)
  ·rename_i hc;exact aWP_cond hc (fun h=>by cases h) (fun _=>aW_sound h)
  ·rename_i hc;exact aWP_condU hc (aW_sound h.1) (aW_sound h.2)
  ·cases h
 | .mnext d1 d2 x live,Q,st,h=>by
  have h:NextW P W0 nt d1 d2 x live Q st:=h
  unfold NextW at h
  exact h
 | .block id a,Q,st,h=>aWP_block (aW_sound (ic:=a) h)
 | .loop c,Q,st,h=>by
  have h:LoopW P W0 nt c Q st:=h
  unfold LoopW at h
  exact h
 | .wk c,Q,st,h=>by
  have h:WkW P W0 nt c Q st:=h
  unfold WkW at h
  exact aWP_wk h
 | .opx l1 live1 d f args l2 live,Q,st,h=>by
  refine aWP_opx ?_
  refine iops_mono (fun env σ hh n1 hn1=>?_) (show J P W0 st.n live1 (CallX P W0 d f args l2 live Q) l1 st.env st.σ from h)
  have h1:=hh (n1-(st.n+1))
  rw [Nat.add_sub_cancel' hn1] at h1
  obtain ⟨σi,R,h2,h3,h4⟩:=h1
  refine ⟨σi,R,h2,h3,fun n2 v σo hle hR=>?_⟩
  refine iops_mono (fun env σ hk n3 hn3=>?_) (h4 n2 v σo hle hR)
  have:=hk (n3-(n2+1))
  rwa [Nat.add_sub_cancel' hn3] at this
 | .opxd l1 live1 d f args live paths,Q,st,h=>by
  refine aWP_opxd ?_
  refine iops_mono (fun env σ hh n1 hn1=>?_) (show J P W0 st.n live1 (CallX P W0 d f args [] live Q) l1 st.env st.σ from h)
  have h1:JCallX P W0 (st.n+1+(n1-(st.n+1))) d f (evs (restrict live1 env) args) [] live Q (restrict live1 env) σ:=hh (n1-(st.n+1))
  rw [Nat.add_sub_cancel' hn1] at h1
  obtain ⟨σi,R,h2,h3,h4⟩:=h1
  refine ⟨σi,R,h2,h3,fun n2 v σo hle hR n3 hn3=>?_⟩
  have h5:∀k,Q .normal ⟨restrict live ((d,v)::restrict live1 env),over σi σo σ,n2+1+k⟩:=h4 n2 v σo hle hR
  have:=h5 (n3-(n2+1))
  rwa [Nat.add_sub_cancel' hn3] at this
 | .opxv l1 live1 d x args l2 live,Q,st,h=>by
  refine aWP_opxv ?_
  refine iops_mono (fun env σ hh n1 hn1=>?_) (show J P W0 st.n live1 (CallXV P W0 d x args l2 live Q) l1 st.env st.σ from h)
  have h1:JCallXV P W0 (st.n+1+(n1-(st.n+1))) d (evE (restrict live1 env) x) (evs (restrict live1 env) args) l2 live Q (restrict live1 env) σ:=hh (n1-(st.n+1))
  rw [Nat.add_sub_cancel' hn1] at h1
  unfold JCallXV at h1
  split at h1
  ·rename_i f first caps hx
   obtain ⟨σi,R,h2,h3,h4⟩:=h1
   refine ⟨f,first,caps,hx,σi,R,h2,h3,fun n2 v σo hle hR=>?_⟩
   refine iops_mono (fun env σ hk n3 hn3=>?_) (h4 n2 v σo hle hR)
   have:=hk (n3-(n2+1))
   rwa [Nat.add_sub_cancel' hn3] at this
  ·exact h1.elim
 | .exit id,Q,st,h=>aWP_exit h
 | .ret,Q,st,h=>aWP_ret h
 | .skip,Q,st,h=>aWP_skip h
theorem nextW_i {d1 d2 s:Nat} {live:List Nat} {id mid:Id} {es:List (V × V)} {seen:List Nat} (hx:get env s = .arr id) (hl:lk σ id=some (.mit mid es.length seen es.length)) (hlm:lk σ mid=some (.map es)) (hd1:d1 ∉ live) (hne:d1≠d2)
  (hmore:∀i kv,es[i]? = some kv->i ∉ seen->Q .normal ⟨restrict live ((d2,.b true)::env),upd σ id (.mit mid es.length (seen++[i]) es.length),n+1⟩)
  (hend:(∀i,i<es.length->i∈seen)->Q .normal ⟨restrict live ((d2,.b false)::env),σ,n+1⟩):NextW P W0 nt d1 d2 (.t s) live Q ⟨env,σ,n⟩:=by
 unfold NextW
 exact aWP_mnext hx hl hlm hmore hend hd1 hne
def StLe (W0:World) (nt:Nat) (st st':St):Prop:=∀B a w,At W0 nt B st a w->At W0 nt B st' a w
theorem StLe.refl:StLe W0 nt st st:=fun _ _ _ h=>h
theorem StLe.trans {s1 s2 s3:St} (h:StLe W0 nt s1 s2) (k:StLe W0 nt s2 s3):StLe W0 nt s1 s3:=fun B a w x=>k B a w (h B a w x)
theorem aWP_le {ic:IC} {st':St} (h:StLe W0 nt st st') (k:aWP P W0 nt ic Q st'):aWP P W0 nt ic Q st:=fun code hc B a w hat=>k code hc B a w (h B a w hat)
def QW (W0:World) (nt:Nat) (Q:Exit->St->Prop) (e:Exit) (st:St):Prop:=∃st',StLe W0 nt st st'/\Q e st'
theorem aWP_qw {ic:IC} (h:aWP P W0 nt ic (QW W0 nt Q) st):aWP P W0 nt ic Q st:=by
 intro code hc B a w hat
 refine wp_mono (h code hc B a w hat) fun e a w hh=>?_
 obtain ⟨s,⟨s',hle,hq⟩,ha⟩:=hh
 exact ⟨s',hq,hle B a w ha⟩
def RoundW (W0:World) (nt:Nat) (Inv:Nat->St->Prop) (m:Nat) (Q:Exit->St->Prop):Exit->St->Prop
 | .normal,st=>∃m' st',m'<m/\StLe W0 nt st st'/\Inv m' st'
 | e,st=>Q e st
theorem roundW_normal {Inv:Nat->St->Prop} {m:Nat}:RoundW W0 nt Inv m Q .normal st = ∃m' st',m'<m/\StLe W0 nt st st'/\Inv m' st':=rfl
theorem roundW_exit {Inv:Nat->St->Prop} {m k:Nat}:RoundW W0 nt Inv m Q (.exit k) st=Q (.exit k) st:=rfl
theorem roundW_ret {Inv:Nat->St->Prop} {m:Nat}:RoundW W0 nt Inv m Q .ret st=Q .ret st:=rfl
theorem aWP_loopW {Inv:Nat->St->Prop} (m:Nat) (h:∃st',StLe W0 nt st st'/\Inv m st') (round:∀m st,Inv m st->aW P W0 nt c (RoundW W0 nt Inv m Q) st):LoopW P W0 nt c Q st:=by
 unfold LoopW
 obtain ⟨st',hle,hinv⟩:=h
 refine aWP_le hle (aWP_loop (Inv:=Inv) (fun m st hi=>?_) m hinv)
 refine aWP_qw (aWP_mono (aW_sound (round m st hi)) fun e s hs=>?_)
 cases e with
 | normal=>obtain ⟨m',s',h1,h2,h3⟩:=hs;exact ⟨s',h2,m',h1,h3⟩
 | _=>exact ⟨s,StLe.refl,hs⟩
theorem wkW_i {st':St} (h:StLe W0 nt st st') (k:aW P W0 nt c Q st'):WkW P W0 nt c Q st:=by
 unfold WkW
 exact aWP_le h (aW_sound k)
def FinW (W0:World) (nt:Nat) (rs:List R) (vs:List V) (σ':Sto):Exit->St->Prop:=QW W0 nt (Fin rs vs σ')
def FinNW (W0:World) (nt s:Nat) (x:Ent) (σ':Sto):Exit->St->Prop:=QW W0 nt (FinN s x σ')
theorem fn_retW {f:FuncId} {ic:IC} {rs:List R} (hck:okFn P f nt ic rs=true) {args:List V} (hargs:args.length<=nt) {σ σ':Sto} {vs:List V} (hdom:∀id,lk σ' id≠none->lk σ id≠none)
  (h:∀n,(∀id e,lk σ id=some e->id.1<n)->aW P W0 nt ic (FinW W0 nt rs vs σ') ⟨params 0 args,σ,n⟩):RetS P W0 f args σ (resV vs) σ':=
 fn_ret hck hargs hdom fun n hn=>aWP_qw (aW_sound (h n hn))
def FinEW (W0:World) (nt:Nat) (rs:List R) (R:Nat->Nat->V->Sto->Prop) (n0:Nat):Exit->St->Prop:=QW W0 nt (FinE rs R n0)
theorem fn_retEW {f:FuncId} {ic:IC} {rs:List R} (hck:okFn P f nt ic rs=true) {args:List V} (hargs:args.length<=nt) {σ:Sto} {R:Nat->Nat->V->Sto->Prop}
  (h:∀n,(∀id e,lk σ id=some e->id.1<n)->aW P W0 nt ic (FinEW W0 nt rs R n) ⟨params 0 args,σ,n⟩):RetE P W0 f args σ R:=
 fn_retE hck hargs fun n hn=>aWP_qw (aW_sound (h n hn))
theorem fn_newW {f:FuncId} {ic:IC} {s:Nat} (hck:okFn P f nt ic [.t s]=true) {args:List V} (hargs:args.length<=nt) {σ σ':Sto} {x:Ent} (hdom:∀id,lk σ' id≠none->lk σ id≠none)
  (h:∀n,(∀id e,lk σ id=some e->id.1<n)->aW P W0 nt ic (FinNW W0 nt s x σ') ⟨params 0 args,σ,n⟩):RetN P W0 f args σ x σ':=
 fn_new hck hargs hdom fun n hn=>aWP_qw (aW_sound (h n hn))
theorem finW_ret {s:Nat} {v:V} (h:get env s=v):FinW W0 nt [.t s] [v] [] .ret ⟨env,σ,n⟩:=⟨_,StLe.refl,⟨h,trivial⟩,fun id e h=>by simp [lk] at h⟩
theorem finW_retS {s:Nat} {v:V} {σ':Sto} (h:get env s=v) (hs:∀id e,lk σ' id=some e->lk σ id=some e):FinW W0 nt [.t s] [v] σ' .ret ⟨env,σ,n⟩:=⟨_,StLe.refl,⟨h,trivial⟩,hs⟩
theorem over_self (σ:Sto):over σ σ σ=σ:=by
 have:∀(p:Id × Ent),p∈σ->(lk σ p.1).isNone=false:=by
  intro p hp
  induction σ with
  | nil=>cases hp
  | cons q σ ih=>
   obtain ⟨k,e⟩:=q
   simp only [lk]
   split
   ·rfl
   ·rename_i hne
    rcases List.mem_cons.1 hp with rfl|hp
    ·exact absurd rfl hne
    ·exact ih hp
 unfold over
 rw [List.filter_eq_nil_iff.2 (fun p hp=>by simp [this p hp]),List.append_nil]
theorem StLe.weak (φ:Id->Option (List V)) {env':Env} {σ':Sto} {n':Nat}
  (hφ:∀id es,φ id=some es->(∃e sz,lk σ id=some (.arr e sz es))/\lk σ' id=none)
  (henv:∀s,VLe φ (get env s) (get env' s)) (hσ:∀id e',lk σ' id=some e'->∃e,lk σ id=some e/\EntLe φ e e') (hn:n<=n'):StLe W0 nt ⟨env,σ,n⟩ ⟨env',σ',n'⟩:=
 fun B a w hat=>hat.weak φ hφ henv hσ hn
theorem StLe.own {s e sz k:Nat} (hs:get env s = .nil):StLe W0 nt ⟨env,σ,n⟩ ⟨(s,.arr (n,k))::env,((n,k),.arr e sz [])::σ,n+1⟩:=by
 intro B a w hat
 obtain ⟨μ,H,hr,hp,hf,hold,hbn⟩:=hat
 have hnone:μ (n,k)=none:=hp.bd _ (Nat.le_refl _)
 have hmono:=setμ_mono (v:=.slice none 0 0) hnone
 have hnew:=(hp.more (Nat.le_succ n)).new_ (n':=n+1) (w':=w) (R:=fun _=>False) ⟨rfl,rfl,rfl,Nat.le_refl _,fun _ _ _=>rfl⟩ (fun _ h=>h.elim) (σ1:=σ) (fun id e h=>⟨h,fun _ _ h=>h⟩) (id:=(n,k)) (e:=.arr e sz []) (val:=.slice none 0 0) hnone (Nat.lt_succ_self _) (Nat.le_refl _) (fun bk hb=>by simp [blk] at hb)
  ⟨.slice none 0 0,[],setμ_self _ _ _,rfl,World.ownsRow_nil w _ e sz,Nat.zero_le _,(fun x hx=>by cases hx),CRel.nil_⟩
 refine ⟨_,H,⟨hr.size,hr.defers,fun s'=>?_⟩,hnew.1,hf.trans hnew.2,fun id hid h0=>?_,Nat.le_trans hbn (Nat.le_succ _)⟩
 ·simp only [get]
  split
  ·rename_i h0
   subst h0
   have:=hr.at_ s
   simp only [hs] at this
   rw [this.nil_inv]
   exact .arr _ _ (setμ_self _ _ _) rfl
  ·exact (hr.at_ s').mono hmono (fun _ _ h=>h)
 ·simp only at hbn
  rw [setμ_ne _ _ (by rintro rfl;simp at hid;omega)]
  exact hold id hid h0
theorem StLe.drop {σ':Sto} {n':Nat} (h:∀id e,lk σ' id=some e->lk σ id=some e) (hn:n<=n'):StLe W0 nt ⟨env,σ,n⟩ ⟨env,σ',n'⟩:=
 StLe.weak (fun _=>none) (fun _ _ h=>by cases h) (fun _=>.refl _) (fun id e' hl=>⟨e',h id e' hl,.refl _⟩) hn
end
end Go.Ir
end
section
namespace Go.Ir
theorem apC_nil {ys:List V}:apC [] ys=True:=rfl
theorem apC_cons {x:V} {xs ys:List V}:apC (x::xs) ys=((∀y∈ys,∀id,refId x=some id->refId y≠some id)/\apC xs ys):=rfl
def o1 (d:Nat) (op:IOp):I:=⟨some d,op,none,[]⟩
def o0 (op:IOp):I:=⟨none,op,none,[]⟩
def m1 (d x:Nat):I:=⟨some d,.mv (.t x),none,[]⟩
def ci (z:Int):X:=.c (.i .i64 z)
theorem bq:(!true)=false/\(!false)=true/\(∀b,(true||b)=true)/\(∀b,(false||b)=b)/\(∀b,(b||true)=true)/\(∀b,(b||false)=b)/\(∀b,(true&&b)=b)/\(∀b,(false&&b)=false)/\(∀b,(b&&true)=b)/\(∀b,(b&&false)=false)/\((false=true)=False):=by simp
theorem aWu {c d:IC} (h:c=d) (P:Program) (W0:World) (nt:Nat) (Q:Exit->St->Prop) (env:Env) (σ:Sto) (n:Nat):aW P W0 nt c Q ⟨env,σ,n⟩=aW P W0 nt d Q ⟨env,σ,n⟩:=by rw [h]
theorem aWv {c d:IC} {p:Prop} (h:c=d) (q:p):(∀P W0 nt Q env σ n,aW P W0 nt c Q ⟨env,σ,n⟩=aW P W0 nt d Q ⟨env,σ,n⟩)/\p:=⟨aWu h,q⟩
section
variable {P : Program} {W0 : World} {nt n d f : Nat} {Q : Exit → St → Prop} {env : Env} {σ : Sto} {l1 l2 : List I} {v1 v : List Nat} {x : X} {args : List X} {ps : List (List Nat)}
theorem aW_opx:aW P W0 nt (.opx l1 v1 d f args l2 v) Q ⟨env,σ,n⟩=J P W0 n v1 (CallX P W0 d f args l2 v Q) l1 env σ:=rfl
theorem aW_opxv:aW P W0 nt (.opxv l1 v1 d x args l2 v) Q ⟨env,σ,n⟩=J P W0 n v1 (CallXV P W0 d x args l2 v Q) l1 env σ:=rfl
theorem aW_opxd:aW P W0 nt (.opxd l1 v1 d f args v ps) Q ⟨env,σ,n⟩=J P W0 n v1 (CallX P W0 d f args [] v Q) l1 env σ:=rfl
end
attribute [push_cast] put params List.map_cons List.map_nil if_true if_false Nat.zero_add Nat.add_zero intC intV strC strV okAll lk upd del fillV setc sub reagg Option.isSome_some Option.getD_some Option.bind_some Option.map_some and_true true_and Int.toNat_natCast Int.natCast_nonneg Int.zero_le_ofNat List.getElem?_cons_zero List.getElem?_cons_succ List.length_cons List.length_nil cond_true cond_false Bool.false_eq_true Bool.not_true Bool.not_false mxV_nil mxV_i Prod.mk.injEq and_self and_false false_and List.drop_zero List.drop_succ_cons List.take_succ_cons List.take_zero List.nil_append List.cons_append List.append_nil cells_b ok_b cells_i ok_i cells_s ok_s cells_nil ok_nil cells_sl ok_sl cells_agg ok_agg cells_ref ok_ref cells_arr ok_arr cells_aref ok_aref cells_ep ok_ep cells_fn ok_fn cells_np ok_np cells_nf ok_nf cells_ni ok_ni isA_agg isB_b toB_b isI_i toI_i kiI_i isS_s toS_s isPt_ref addOff_ref isN_ref isPt_aref addOff_aref isN_aref isPt_ep addOff_ep isN_ep isN_fn iaddrF_sl iaddrF_arr iaddrA_arr loadF_ref loadB_box loadF_aref loadA_arr loadF_ep storeF_ref storeB_box storeF_aref storeA_arr idxF_s sliceS_s isL_sl isL_nil toL_sl toL_nil appF_nil appF_arr appA_arr extF_tup elemsOf_sl elemsOf_nil elemsOf_arr elemsA_arr binC_i binC_s binV_i binV_s bnd_none bnd_some bndV_i evE_t evE_c evs_nil evs_cons psE_nil psE_cons okPsE_nil okPsE_cons bndE_none bndE_some sliceSE_s sliceLE_eq get_cons get_nil restrict_nil restrict_cons InBlock_normal InBlock_exit InBlock_ret Round_normal Round_exit Round_ret j_mv j_pick j_bin j_eqb j_not j_cvi j_faddr j_iaddr j_idx j_load j_store j_box j_alloc j_build j_mslO j_mslF j_slS j_slL j_lenS j_lenL j_app j_ext j_mkfn j_mx j_nilck j_mksl j_nil jp_true jl_some jt_some jw_some jm_some j_gd gdU_tt gdU_ff gdU_tf gdU_ft gdU_n j_ap j_call j_calls j_callr j_calln j_callvs jcallv_fn jcallvs_fn j_pu j_rdm j_wrmN j_mkm rdV_arr wrV_arr rdO_mget rdO_mlen wrO_mput mkF_map mkF_it puF_itos puF_btos puF_btosN puF_nilN puF_nilE puF_nilC isA_b isA_i isA_s j_frz j_mrange j_mentry frzV_ref frzO_box mrangeV_arr mrangeO_map mentryV_arr mentryO_mit mentryM_map condU_ub aW_mnext List.all_cons List.all_nil Bool.and_self Bool.and_true aW_ops aW_seq aW_cond aW_block aW_loop aW_wk aW_exit aW_ret aW_skip condU_t condU_f callX_normal callXV_normal jcallxv_fn thenW_normal thenW_exit thenW_ret roundW_normal roundW_exit roundW_ret lenV IOp.cs apC_nil apC_cons o1 o0 m1 ci aW_opx aW_opxv aW_opxd decide_true decide_false
end Go.Ir
end
section
namespace Go.Ir
abbrev Bytes:=List UInt8
structure Part where
 kind:Int
 text:Bytes
 name:Bytes
 style:Bytes
 cases:List (Bytes × List Part)
 parts:List Part
abbrev Case:=Bytes × List Part
mutual
def Part.enc:Part->V
 | ⟨k,t,n,s,cs,ps⟩=>.agg [.i .i64 k,.s t,.s n,.s s,.sl (encCs cs),.sl (encPs ps)]
def encPs:List Part->List V
 | []=>[]
 | p::ps=>p.enc::encPs ps
def encCs:List (Bytes × List Part)->List V
 | []=>[]
 | (k,ps)::cs=>.agg [.s k,.sl (encPs ps)]::encCs cs
end
mutual
def Part.wt:Part->Nat
 | ⟨_,t,n,s,cs,ps⟩=>1+t.length+n.length+s.length+wtCs cs+wtPs ps
def wtPs:List Part->Nat
 | []=>0
 | p::ps=>p.wt+wtPs ps
def wtCs:List (Bytes × List Part)->Nat
 | []=>0
 | (k,ps)::cs=>1+k.length+wtPs ps+wtCs cs
end
def Case.enc (c:Case):V:=.agg [.s c.1,.sl (encPs c.2)]
theorem encPs_map:∀ps,encPs ps=ps.map Part.enc
 | []=>by simp [encPs]
 | p::ps=>by simp [encPs,encPs_map ps]
theorem encCs_map:∀cs,encCs cs=cs.map Case.enc
 | []=>by simp [encCs]
 | (k,ps)::cs=>by simp [encCs,encCs_map cs,Case.enc]
@[push_cast] theorem Part.enc_eq (p:Part):p.enc = .agg [.i .i64 p.kind,.s p.text,.s p.name,.s p.style,.sl (p.cases.map Case.enc),.sl (p.parts.map Part.enc)]:=by
 cases p;simp [Part.enc,encPs_map,encCs_map]
@[push_cast] theorem Case.enc_eq (c:Case):Case.enc c = .agg [.s c.1,.sl (c.2.map Part.enc)]:=by simp [Case.enc,encPs_map]
theorem Part.wt_eq (p:Part):p.wt=1+p.text.length+p.name.length+p.style.length+wtCs p.cases+wtPs p.parts:=by cases p;simp [Part.wt]
theorem wtPs_cons (p:Part) (ps:List Part):wtPs (p::ps)=p.wt+wtPs ps:=by simp [wtPs]
theorem wtCs_cons (c:Case) (cs:List Case):wtCs (c::cs)=1+c.1.length+wtPs c.2+wtCs cs:=by obtain ⟨k,ps⟩:=c;simp [wtCs]
theorem wtPs_nil:wtPs []=0:=by simp [wtPs]
theorem wtCs_nil:wtCs []=0:=by simp [wtCs]
theorem wtPs_mem {ps:List Part} {p:Part} (h:p∈ps):p.wt<=wtPs ps:=by
 induction ps with
 | nil=>cases h
 | cons d ps ih=>
  rw [wtPs_cons]
  rcases List.mem_cons.1 h with rfl|h
  ·omega
  ·have:=ih h;omega
theorem wtCs_mem {cs:List Case} {c:Case} (h:c∈cs):1+c.1.length+wtPs c.2<=wtCs cs:=by
 induction cs with
 | nil=>cases h
 | cons d cs ih=>
  rw [wtCs_cons]
  rcases List.mem_cons.1 h with rfl|h
  ·omega
  ·have:=ih h;omega
theorem len_wtPs (ps:List Part):ps.length<=wtPs ps:=by
 induction ps with
 | nil=>simp
 | cons p ps ih=>rw [wtPs_cons,List.length_cons,p.wt_eq];omega
theorem len_wtCs (cs:List Case):cs.length<=wtCs cs:=by
 induction cs with
 | nil=>simp
 | cons p ps ih=>rw [wtCs_cons,List.length_cons];omega
section zip
variable {α β : Type} {f : α → β} {done rest : List α} {x : α}
@[push_cast] theorem zip_lt:decide ((done.length:Int)<((done++x::rest).length:Int))=true:=by simp;omega
@[push_cast] theorem zip_get:(List.map f (done++x::rest))[done.length]? = some (f x):=by simp
@[push_cast] theorem zip_get':(done++x::rest)[done.length]? = some x:=by simp
@[push_cast] theorem lt_self (n:Int):decide (n<n)=false:=by simp
theorem wrap_zip (x:α) {done:List α} (h:done.length<2^62):IntKind.i64.wrap ((done.length:Int)+1)=((done++[x]).length:Int):=by
 rw [wrap64 (by omega) (by omega)];simp
theorem zip_bd {xs:List α} (h:xs=done++x::rest):done.length<xs.length:=by rw [h];simp
end zip
attribute [push_cast] List.length_map
@[push_cast] theorem beq_nil_c {c:UInt8} {r:List UInt8}:(c::r == [])=false:=rfl
@[push_cast] theorem beq_nil_n:(([]:List UInt8) == [])=true:=rfl
@[push_cast] theorem ep1 (a k:Nat):(a+1+k=a)=False:=by simp;omega
@[push_cast] theorem ep1' (a k:Nat):(a=a+1+k)=False:=by simp;omega
@[push_cast] theorem ep2 (a k j:Nat):(a+1+k+1+j=a)=False:=by simp;omega
@[push_cast] theorem ep2' (a k j:Nat):(a=a+1+k+1+j)=False:=by simp;omega
@[push_cast] theorem ep3 (a k j i:Nat):(a+1+k+1+j+1+i=a)=False:=by simp;omega
@[push_cast] theorem ep3' (a k j i:Nat):(a=a+1+k+1+j+1+i)=False:=by simp;omega
@[push_cast] theorem ep4 (a k j i h:Nat):(a+1+k+1+j+1+i+1+h=a)=False:=by simp;omega
@[push_cast] theorem ep4' (a k j i h:Nat):(a=a+1+k+1+j+1+i+1+h)=False:=by simp;omega
@[push_cast] theorem ep5 (a k j i h g:Nat):(a+1+k+1+j+1+i+1+h+1+g=a)=False:=by simp;omega
@[push_cast] theorem ep5' (a k j i h g:Nat):(a=a+1+k+1+j+1+i+1+h+1+g)=False:=by simp;omega
@[push_cast] theorem refId_sl (l:List V):refId (.sl l)=none:=rfl
@[push_cast] theorem refId_nil:refId .nil=none:=rfl
@[push_cast] theorem refId_ep (v:V) (k:Nat):refId (v.ep k)=none:=rfl
@[push_cast] theorem refId_s (l:Bytes):refId (.s l)=none:=rfl
@[push_cast] theorem refId_b (l:Bool):refId (.b l)=none:=rfl
@[push_cast] theorem refId_i (k:IntKind) (l:Int):refId (.i k l)=none:=rfl
@[push_cast] theorem refId_agg (l:List V):refId (.agg l)=none:=rfl
@[push_cast] theorem refId_ref (id:Id) (o:Nat):refId (.ref id o)=some id:=rfl
@[push_cast] theorem refId_arr (id:Id):refId (.arr id)=some id:=rfl
attribute [push_cast] List.forall_mem_cons List.not_mem_nil false_imp_iff implies_true Option.some.injEq forall_eq' ne_eq not_false_eq_true
def Part.v (p:Part):V:=.agg [.i .i64 p.kind,.s p.text,.s p.name,.s p.style,.sl (p.cases.map Case.enc),.sl (p.parts.map Part.enc)]
def Case.v (c:Case):V:=.agg [.s c.1,.sl (c.2.map Part.enc)]
theorem wrap_zipS (x:UInt8) {done:List UInt8} (h:done.length<SLim):IntKind.i64.wrap ((done.length:Int)+1)=((done++[x]).length:Int):=wrap_zip x (by unfold SLim at h;omega)
@[push_cast] theorem slS_hi (w r:Bytes):(if 0<=w.length/\w.length<=(w++r).length then some (V.s (List.take w.length (w++r))) else none)=some (V.s w):=by
 rw [if_pos ⟨Nat.zero_le _,by simp⟩];simp
@[push_cast] theorem slS_lo (w r:Bytes):(if w.length<=(w++r).length/\(w++r).length<=(w++r).length then some (V.s (List.drop w.length (List.take (w++r).length (w++r)))) else none)=some (V.s r):=by
 rw [if_pos ⟨by simp,Nat.le_refl _⟩,List.take_length];simp
@[push_cast] theorem slS_lo1 (w r:Bytes) (c:UInt8):(if (w++[c]).length<=(w++c::r).length/\(w++c::r).length<=(w++c::r).length then some (V.s (List.drop (w++[c]).length (List.take (w++c::r).length (w++c::r)))) else none)=some (V.s r):=by
 rw [if_pos ⟨by simp,Nat.le_refl _⟩,List.take_length,show w++c::r=(w++[c])++r by simp];simp only [List.drop_left]
@[push_cast] theorem slS_all (w:Bytes):(if 0<=w.length/\w.length<=w.length then some (V.s (List.take w.length w)) else none)=some (V.s w):=by
 rw [if_pos ⟨Nat.zero_le _,Nat.le_refl _⟩,List.take_length]
@[push_cast] theorem slL_hi {α:Type} (f:α->V) (w r:List α):(if 0<=w.length/\w.length<=(w++r).length then some (V.sl (List.take w.length (List.map f (w++r)))) else none)=some (V.sl (List.map f w)):=by
 rw [if_pos ⟨Nat.zero_le _,by simp⟩];simp
end Go.Ir
end
namespace Go.Ir
open Go.Proofs
variable {P : Program} {W0 : World} {nt n : Nat} {Q : Exit → St → Prop} {env : Env} {σ : Sto}
def f51_25:IC:=.seq (.block 3 (.ops [m1 31 3,m1 32 0,m1 33 4,o1 34 (.iaddr (.t 32) (.t 33) 85 6),o1 35 (.faddr (.t 34) 4),o1 36 (.load (.t 35) 1 false),m1 37 5,o1 38 (.iaddr (.t 36) (.t 37) 97 2),o1 39 (.faddr (.t 38) 1),o1 40 (.load (.t 39) 1 false),o1 41 (.call 51 [.t 40]),o1 42 (.bin .add (ci 1) (.t 41)),o1 43 (.mx false (.t 31) [.t 42]),m1 3 43] [0,3,4,5] [])) (.ops [m1 29 5,o1 30 (.bin .add (.t 29) (ci 1)),m1 5 30] [0,3,4,5] [])
def f51_21:IC:=.seq (.seq (.ops [m1 21 5,m1 22 0,m1 23 4,o1 24 (.iaddr (.t 22) (.t 23) 85 6),o1 25 (.faddr (.t 24) 4),o1 26 (.load (.t 25) 1 false),o1 27 (.lenL (.t 26)),o1 28 (.bin .lss (.t 21) (.t 27))] [0,3,4,5,28] []) (.cond (.t 28) .skip (.exit 2))) f51_25
def f51_13:IC:=.seq (.block 1 (.seq (.ops [m1 12 3,m1 13 0,m1 14 4,o1 15 (.iaddr (.t 13) (.t 14) 85 6),o1 16 (.faddr (.t 15) 5),o1 17 (.load (.t 16) 1 false),o1 18 (.call 51 [.t 17]),o1 19 (.bin .add (ci 1) (.t 18)),o1 20 (.mx false (.t 12) [(ci 1),.t 19]),m1 3 20] [0,3,4] []) (.seq (.ops [o1 5 (.mv (ci 0))] [0,3,4,5] []) (.block 2 (.loop f51_21))))) (.ops [m1 10 4,o1 11 (.bin .add (.t 10) (ci 1)),m1 4 11] [0,3,4] [])
def f51_9:IC:=.seq (.seq (.ops [m1 6 4,m1 7 0,o1 8 (.lenL (.t 7)),o1 9 (.bin .lss (.t 6) (.t 8))] [0,3,4,9] []) (.cond (.t 9) .skip (.exit 0))) f51_13
def f51_4:IC:=.seq (.seq (.ops [o1 4 (.mv (ci 0))] [0,3,4] []) (.block 0 (.loop f51_9))) (.seq (.ops [m1 44 3,m1 2 44] [2] []) .ret)
def f51_0:IC:=.seq (.ops [o1 2 (.mv (ci 0))] [0] []) (.seq (.ops [o1 3 (.mv (ci 0))] [0,3] []) f51_4)
@[push_cast]def f51R:List R:=[.t 2]
@[push_cast]def f51e:=aWv f51_25.eq_1<|aWv f51_21.eq_1<|aWv f51_13.eq_1<|aWv f51_9.eq_1<|aWv f51_4.eq_1<|aWu f51_0.eq_1
theorem f51ok:okFn Tryz.prog 51 45 f51_0 f51R=true:=by kernel_rfl
def f52_25:IC:=.seq (.block 3 (.ops [m1 39 3,m1 40 0,m1 41 4,o1 42 (.iaddr (.t 40) (.t 41) 85 6),o1 43 (.faddr (.t 42) 4),o1 44 (.load (.t 43) 1 false),m1 45 5,o1 46 (.iaddr (.t 44) (.t 45) 97 2),o1 47 (.faddr (.t 46) 1),o1 48 (.load (.t 47) 1 false),o1 49 (.call 52 [.t 48]),o1 50 (.bin .add (ci 1) (.t 49)),o1 51 (.bin .add (.t 39) (.t 50)),m1 3 51] [0,3,4,5] [])) (.ops [m1 37 5,o1 38 (.bin .add (.t 37) (ci 1)),m1 5 38] [0,3,4,5] [])
def f52_21:IC:=.seq (.seq (.ops [m1 29 5,m1 30 0,m1 31 4,o1 32 (.iaddr (.t 30) (.t 31) 85 6),o1 33 (.faddr (.t 32) 4),o1 34 (.load (.t 33) 1 false),o1 35 (.lenL (.t 34)),o1 36 (.bin .lss (.t 29) (.t 35))] [0,3,4,5,36] []) (.cond (.t 36) .skip (.exit 2))) f52_25
def f52_13:IC:=.seq (.block 1 (.seq (.ops [m1 12 3,m1 13 0,m1 14 4,o1 15 (.iaddr (.t 13) (.t 14) 85 6),o1 16 (.faddr (.t 15) 5),o1 17 (.load (.t 16) 1 false),o1 18 (.call 52 [.t 17]),o1 19 (.bin .add (ci 1) (.t 18)),m1 20 0,m1 21 4,o1 22 (.iaddr (.t 20) (.t 21) 85 6),o1 23 (.faddr (.t 22) 1),o1 24 (.load (.t 23) 1 false),o1 25 (.lenS (.t 24)),o1 26 (.bin .quo (.t 25) (ci 20)),o1 27 (.bin .add (.t 19) (.t 26)),o1 28 (.bin .add (.t 12) (.t 27)),m1 3 28] [0,3,4] [[1,3],[2,3],[3,4],[4,5],[5,6],[6,7],[8,10],[9,10],[10,11],[11,12],[12,13],[13,14],[7,15],[14,15],[0,16],[15,16],[0,17],[16,17]]) (.seq (.ops [o1 5 (.mv (ci 0))] [0,3,4,5] []) (.block 2 (.loop f52_21))))) (.ops [m1 10 4,o1 11 (.bin .add (.t 10) (ci 1)),m1 4 11] [0,3,4] [])
def f52_9:IC:=.seq (.seq (.ops [m1 6 4,m1 7 0,o1 8 (.lenL (.t 7)),o1 9 (.bin .lss (.t 6) (.t 8))] [0,3,4,9] []) (.cond (.t 9) .skip (.exit 0))) f52_13
def f52_4:IC:=.seq (.seq (.ops [o1 4 (.mv (ci 0))] [0,3,4] []) (.block 0 (.loop f52_9))) (.seq (.ops [m1 52 3,m1 2 52] [2] []) .ret)
def f52_0:IC:=.seq (.ops [o1 2 (.mv (ci 0))] [0] []) (.seq (.ops [o1 3 (.mv (ci 0))] [0,3] []) f52_4)
@[push_cast]def f52R:List R:=[.t 2]
@[push_cast]def f52e:=aWv f52_25.eq_1<|aWv f52_21.eq_1<|aWv f52_13.eq_1<|aWv f52_9.eq_1<|aWv f52_4.eq_1<|aWu f52_0.eq_1
theorem f52ok:okFn Tryz.prog 52 53 f52_0 f52R=true:=by kernel_rfl
def f53_27:IC:=.seq (.block 3 (.seq (.ops [m1 46 0,m1 47 3,o1 48 (.iaddr (.t 46) (.t 47) 85 6),o1 49 (.faddr (.t 48) 4),o1 50 (.load (.t 49) 1 false),m1 51 4,o1 52 (.iaddr (.t 50) (.t 51) 97 2),o1 53 (.faddr (.t 52) 0),o1 54 (.load (.t 53) 1 false),o1 55 (.lenS (.t 54)),o1 56 (.bin .gtr (.t 55) (ci 60)),m1 57 56,⟨some 58,.mv (.t 0),some (57,false),[]⟩,⟨some 59,.mv (.t 3),some (57,false),[]⟩,⟨some 60,.iaddr (.t 58) (.t 59) 85 6,some (57,false),[]⟩,⟨some 61,.faddr (.t 60) 4,some (57,false),[]⟩,⟨some 62,.load (.t 61) 1 false,some (57,false),[]⟩,⟨some 63,.mv (.t 4),some (57,false),[]⟩,⟨some 64,.iaddr (.t 62) (.t 63) 97 2,some (57,false),[]⟩,⟨some 65,.faddr (.t 64) 1,some (57,false),[]⟩,⟨some 66,.load (.t 65) 1 false,some (57,false),[]⟩,⟨some 67,.call 53 [.t 66],some (57,false),[]⟩,⟨some 68,.not (.t 67),some (57,false),[]⟩,o1 69 (.pick (.t 57) (.c (.b true)) (.t 68))] [0,3,4,69] []) (.cond (.t 69) (.seq (.ops [o1 2 (.mv (.c (.b false)))] [2] []) .ret) .skip))) (.ops [m1 44 4,o1 45 (.bin .add (.t 44) (ci 1)),m1 4 45] [0,3,4] [])
def f53_23:IC:=.seq (.seq (.ops [m1 36 4,m1 37 0,m1 38 3,o1 39 (.iaddr (.t 37) (.t 38) 85 6),o1 40 (.faddr (.t 39) 4),o1 41 (.load (.t 40) 1 false),o1 42 (.lenL (.t 41)),o1 43 (.bin .lss (.t 36) (.t 42))] [0,3,4,43] []) (.cond (.t 43) .skip (.exit 2))) f53_27
def f53_11:IC:=.seq (.block 1 (.seq (.seq (.ops [m1 11 0,m1 12 3,o1 13 (.iaddr (.t 11) (.t 12) 85 6),o1 14 (.faddr (.t 13) 2),o1 15 (.load (.t 14) 1 false),o1 16 (.lenS (.t 15)),o1 17 (.bin .gtr (.t 16) (ci 60)),m1 18 17,⟨some 19,.mv (.t 0),some (18,false),[]⟩,⟨some 20,.mv (.t 3),some (18,false),[]⟩,⟨some 21,.iaddr (.t 19) (.t 20) 85 6,some (18,false),[]⟩,⟨some 22,.faddr (.t 21) 3,some (18,false),[]⟩,⟨some 23,.load (.t 22) 1 false,some (18,false),[]⟩,⟨some 24,.lenS (.t 23),some (18,false),[]⟩,⟨some 25,.bin .gtr (.t 24) (ci 60),some (18,false),[]⟩,o1 26 (.pick (.t 18) (.c (.b true)) (.t 25)),m1 27 26,⟨some 28,.mv (.t 0),some (27,false),[]⟩,⟨some 29,.mv (.t 3),some (27,false),[]⟩,⟨some 30,.iaddr (.t 28) (.t 29) 85 6,some (27,false),[]⟩,⟨some 31,.faddr (.t 30) 5,some (27,false),[]⟩,⟨some 32,.load (.t 31) 1 false,some (27,false),[]⟩,⟨some 33,.call 53 [.t 32],some (27,false),[]⟩,⟨some 34,.not (.t 33),some (27,false),[]⟩,o1 35 (.pick (.t 27) (.c (.b true)) (.t 34))] [0,3,35] []) (.cond (.t 35) (.seq (.ops [o1 2 (.mv (.c (.b false)))] [2] []) .ret) .skip)) (.seq (.ops [o1 4 (.mv (ci 0))] [0,3,4] []) (.block 2 (.loop f53_23))))) (.ops [m1 9 3,o1 10 (.bin .add (.t 9) (ci 1)),m1 3 10] [0,3] [])
def f53_7:IC:=.seq (.seq (.ops [m1 5 3,m1 6 0,o1 7 (.lenL (.t 6)),o1 8 (.bin .lss (.t 5) (.t 7))] [0,3,8] []) (.cond (.t 8) .skip (.exit 0))) f53_11
def f53_2:IC:=.seq (.seq (.ops [o1 3 (.mv (ci 0))] [0,3] []) (.block 0 (.loop f53_7))) (.seq (.ops [o1 2 (.mv (.c (.b true)))] [2] []) .ret)
def f53_0:IC:=.seq (.ops [o1 2 (.mv (.c (.b false)))] [0] []) f53_2
@[push_cast]def f53R:List R:=[.t 2]
@[push_cast]def f53e:=aWv f53_27.eq_1<|aWv f53_23.eq_1<|aWv f53_11.eq_1<|aWv f53_7.eq_1<|aWv f53_2.eq_1<|aWu f53_0.eq_1
theorem f53ok:okFn Tryz.prog 53 70 f53_0 f53R=true:=by kernel_rfl
def f15_2:IC:=.seq (.ops [m1 3 0,o1 4 (.call 51 [.t 3]),o1 5 (.bin .leq (.t 4) (ci 12)),m1 6 5,⟨some 7,.mv (.t 0),some (6,true),[]⟩,⟨some 8,.call 52 [.t 7],some (6,true),[]⟩,⟨some 9,.bin .leq (.t 8) (ci 300),some (6,true),[]⟩,o1 10 (.pick (.t 6) (.t 9) (.c (.b false))),m1 11 10,⟨some 12,.mv (.t 0),some (11,true),[]⟩,⟨some 13,.call 53 [.t 12],some (11,true),[]⟩,o1 14 (.pick (.t 11) (.t 13) (.c (.b false))),m1 2 14] [2] []) .ret
def f15_0:IC:=.seq (.ops [o1 2 (.mv (.c (.b false)))] [0] []) f15_2
@[push_cast]def f15R:List R:=[.t 2]
@[push_cast]def f15e:=aWv f15_2.eq_1<|aWu f15_0.eq_1
theorem f15ok:okFn Tryz.prog 15 15 f15_0 f15R=true:=by kernel_rfl
def f76_2:IC:=.seq (.ops [m1 3 0,o1 4 (.bin .eql (.t 3) (ci 7)),m1 5 4,⟨some 6,.mv (.t 0),some (5,false),[]⟩,⟨some 7,.bin .eql (.t 6) (ci 8),some (5,false),[]⟩,o1 8 (.pick (.t 5) (.c (.b true)) (.t 7)),m1 9 8,⟨some 10,.mv (.t 0),some (9,false),[]⟩,⟨some 11,.bin .eql (.t 10) (ci 9),some (9,false),[]⟩,o1 12 (.pick (.t 9) (.c (.b true)) (.t 11)),m1 2 12] [2] []) .ret
def f76_0:IC:=.seq (.ops [o1 2 (.mv (.c (.b false)))] [0] []) f76_2
@[push_cast]def f76R:List R:=[.t 2]
@[push_cast]def f76e:=aWv f76_2.eq_1<|aWu f76_0.eq_1
theorem f76ok:okFn Tryz.prog 76 13 f76_0 f76R=true:=by kernel_rfl
def f84_11:IC:=.seq (.block 1 (.seq (.ops [m1 12 0,m1 13 5,o1 14 (.iaddr (.t 12) (.t 13) 9 1),o1 15 (.load (.t 14) 1 false),m1 16 1,o1 17 (.bin .eql (.t 15) (.t 16))] [0,1,5,17] []) (.cond (.t 17) (.seq (.ops [o1 4 (.mv (.c (.b true)))] [4] []) .ret) .skip))) (.ops [m1 10 5,o1 11 (.bin .add (.t 10) (ci 1)),m1 5 11] [0,1,5] [])
def f84_7:IC:=.seq (.seq (.ops [m1 6 5,m1 7 0,o1 8 (.lenL (.t 7)),o1 9 (.bin .lss (.t 6) (.t 8))] [0,1,5,9] []) (.cond (.t 9) .skip (.exit 0))) f84_11
def f84_2:IC:=.seq (.seq (.ops [o1 5 (.mv (ci 0))] [0,1,5] []) (.block 0 (.loop f84_7))) (.seq (.ops [o1 4 (.mv (.c (.b false)))] [4] []) .ret)
def f84_0:IC:=.seq (.ops [o1 4 (.mv (.c (.b false)))] [0,1] []) f84_2
@[push_cast]def f84R:List R:=[.t 4]
@[push_cast]def f84e:=aWv f84_11.eq_1<|aWv f84_7.eq_1<|aWv f84_2.eq_1<|aWu f84_0.eq_1
theorem f84ok:okFn Tryz.prog 84 18 f84_0 f84R=true:=by kernel_rfl
end Go.Ir
section
namespace Go.Ir
open Go.Proofs
mutual
def Part.shortB:Part->Bool
 | ⟨_,_,n,s,cs,ps⟩=>!(decide ((n.length:Int)>60)||decide ((s.length:Int)>60)||!shortPs ps)&&shortCs cs
def shortPs:List Part->Bool
 | []=>true
 | p::ps=>p.shortB&&shortPs ps
def shortCs:List (Bytes × List Part)->Bool
 | []=>true
 | (k,ps)::cs=>!(decide ((k.length:Int)>60)||!shortPs ps)&&shortCs cs
end
theorem Part.shortB_eq (p:Part):p.shortB=(!(decide ((p.name.length:Int)>60)||decide ((p.style.length:Int)>60)||!shortPs p.parts)&&shortCs p.cases):=by cases p;simp only [Part.shortB]
theorem shortPs_cons (p:Part) (ps:List Part):shortPs (p::ps)=(p.shortB&&shortPs ps):=by simp only [shortPs]
theorem shortCs_cons (c:Case) (ps:List Case):shortCs (c::ps)=(!(decide ((c.1.length:Int)>60)||!shortPs c.2)&&shortCs ps):=by obtain ⟨k,q⟩:=c;simp only [shortCs]
theorem short_ret (W0:World):∀(N:Nat) (ps:List Part),wtPs ps<N->wtPs ps<=2^24->RetS Tryz.prog W0 53 [.sl (ps.map Part.enc)] [] (.b (shortPs ps)) []:=by
 intro N
 induction N with
 | zero=>intro ps h;omega
 | succ N ih=>
 intro ps hN hb
 generalize hS:shortPs ps=S
 refine fn_retW (vs:=[.b S]) f53ok (by simp) (by simp) fun n hn=>?_
 clear hn
 simp only [push_cast,seval,reduceEqDiff]
 intro _ _
 refine aWP_loopW ps.length (Inv:=fun m st=>∃done rest n,ps=done++rest/\m=rest.length/\shortPs rest=S/\st=⟨[(0,.sl (ps.map Part.enc)),(3,.i .i64 done.length)],[],n⟩) ⟨_,StLe.refl,[],ps,_,rfl,rfl,hS,rfl⟩ ?_
 clear hS
 rintro m _ ⟨done,rest,n,rfl,rfl,hd,rfl⟩
 have hlen:=len_wtPs (done++rest)
 cases rest with
 | nil=>
  simp only [push_cast,seval,reduceEqDiff]
  intro _ _
  exact finW_ret (by rw [<-hd];rfl)
 | cons p rest=>
  have hw:=wtPs_mem (ps:=done++p::rest) (p:=p) (by simp)
  rw [p.wt_eq] at hw
  rw [shortPs_cons,p.shortB_eq] at hd
  simp only [push_cast,seval,reduceEqDiff]
  repeat' (first|(((first|apply condU_s|apply gdU_t|apply gdU_f)<;>intro _h)<;>(simp only [push_cast,seval,reduceEqDiff,_h];try (have _g:=_h;simp at _g)))|(refine c_call (by exact ih p.parts (by omega) (by omega)) ?_;simp only [push_cast,seval,reduceEqDiff])|intro _)
  all_goals (try exact finW_ret (by simp [get,<-hd, *];done))
  have hd2:(shortCs p.cases&&shortPs rest)=S:=by rw [<-hd];simp [*]
  refine aWP_loopW p.cases.length (Inv:=fun m st=>∃cd cr n,p.cases=cd++cr/\m=cr.length/\(shortCs cr&&shortPs rest)=S/\st=⟨[(0,.sl ((done++p::rest).map Part.enc)),(3,.i .i64 done.length),(4,.i .i64 cd.length)],[],n⟩) ⟨_,StLe.refl,[],p.cases,_,rfl,rfl,hd2,rfl⟩ ?_
  clear hd hd2
  rintro m _ ⟨cd,cr,n,hcs,rfl,hd,rfl⟩
  have hcl:=len_wtCs p.cases
  cases cr with
  | nil=>
   simp only [push_cast,seval,reduceEqDiff,hcs,wrap_zip p (done:=done) (by simp at hlen;omega)]
   intro _ _
   exact ⟨_,_,Nat.lt_succ_self _,StLe.refl,done++[p],rest,_,by simp,rfl,by rw [<-hd];rfl,rfl⟩
  | cons c cr=>
   have hwc:=wtCs_mem (cs:=p.cases) (c:=c) (by simp [hcs])
   have hcb:=zip_bd hcs
   rw [shortCs_cons] at hd
   simp only [push_cast,seval,reduceEqDiff,hcs,wrap_zip c (done:=cd) (by omega)]
   repeat' (first|(((first|apply condU_s|apply gdU_t|apply gdU_f)<;>intro _h)<;>(simp only [push_cast,seval,reduceEqDiff,_h,hcs,wrap_zip c (done:=cd) (by omega)];try (have _g:=_h;simp at _g)))|(refine c_call (by exact ih c.2 (by omega) (by omega)) ?_;simp only [push_cast,seval,reduceEqDiff,hcs,wrap_zip c (done:=cd) (by omega)])|intro _)
   all_goals (try exact finW_ret (by simp [get,<-hd, *];done))
   exact ⟨_,_,Nat.lt_succ_self _,StLe.refl,cd++[c],cr,_,by simp [hcs],rfl,by rw [<-hd];simp [*],rfl⟩
end Go.Ir
end
namespace Go.Ir
open Go.Proofs
variable {P : Program} {W0 : World} {nt n : Nat} {Q : Exit → St → Prop} {env : Env} {σ : Sto}
def f131_2:IC:=.seq (.ops [m1 3 0,o1 4 (.bin .geq (.t 3) (.c (.i .u8 97))),m1 5 4,⟨some 6,.mv (.t 0),some (5,true),[]⟩,⟨some 7,.bin .leq (.t 6) (.c (.i .u8 122)),some (5,true),[]⟩,o1 8 (.pick (.t 5) (.t 7) (.c (.b false))),m1 9 8,⟨some 10,.mv (.t 0),some (9,false),[]⟩,⟨some 11,.bin .geq (.t 10) (.c (.i .u8 65)),some (9,false),[]⟩,⟨some 12,.mv (.t 11),some (9,false),[]⟩,⟨some 13,.mv (.t 0),some (12,true),[]⟩,⟨some 14,.bin .leq (.t 13) (.c (.i .u8 90)),some (12,true),[]⟩,⟨some 15,.pick (.t 12) (.t 14) (.c (.b false)),some (9,false),[]⟩,o1 16 (.pick (.t 9) (.c (.b true)) (.t 15)),m1 17 16,⟨some 18,.mv (.t 0),some (17,false),[]⟩,⟨some 19,.bin .geq (.t 18) (.c (.i .u8 48)),some (17,false),[]⟩,⟨some 20,.mv (.t 19),some (17,false),[]⟩,⟨some 21,.mv (.t 0),some (20,true),[]⟩,⟨some 22,.bin .leq (.t 21) (.c (.i .u8 57)),some (20,true),[]⟩,⟨some 23,.pick (.t 20) (.t 22) (.c (.b false)),some (17,false),[]⟩,o1 24 (.pick (.t 17) (.c (.b true)) (.t 23)),m1 2 24] [2] []) .ret
def f131_0:IC:=.seq (.ops [o1 2 (.mv (.c (.b false)))] [0] []) f131_2
@[push_cast]def f131R:List R:=[.t 2]
@[push_cast]def f131e:=aWv f131_2.eq_1<|aWu f131_0.eq_1
theorem f131ok:okFn Tryz.prog 131 25 f131_0 f131R=true:=by kernel_rfl
def f63_21:IC:=.seq (.ops [m1 26 0,m1 27 3,o1 28 (.idx (.t 26) (.t 27)),o1 29 (.call 131 [.t 28]),o1 30 (.not (.t 29)),m1 31 30,⟨some 32,.mv (.t 0),some (31,true),[]⟩,⟨some 33,.mv (.t 3),some (31,true),[]⟩,⟨some 34,.idx (.t 32) (.t 33),some (31,true),[]⟩,⟨some 35,.bin .neq (.t 34) (.c (.i .u8 95)),some (31,true),[]⟩,o1 36 (.pick (.t 31) (.t 35) (.c (.b false))),m1 37 36,⟨some 38,.mv (.t 0),some (37,true),[]⟩,⟨some 39,.mv (.t 3),some (37,true),[]⟩,⟨some 40,.idx (.t 38) (.t 39),some (37,true),[]⟩,⟨some 41,.bin .neq (.t 40) (.c (.i .u8 45)),some (37,true),[]⟩,o1 42 (.pick (.t 37) (.t 41) (.c (.b false)))] [0,22,23,42] []) (.cond (.t 42) (.seq (.ops [o1 2 (.mv (.c (.b false)))] [2] []) .ret) .skip)
def f63_17:IC:=.seq (.block 1 (.seq (.ops [m1 25 23,m1 3 25] [0,3,22,23] []) f63_21)) (.ops [o1 43 (.bin .add (.t 23) (ci 1)),m1 23 43] [0,22,23] [])
def f63_13:IC:=.seq (.ops [o1 24 (.bin .lss (.t 23) (.t 22))] [0,22,23,24] []) (.seq (.cond (.t 24) .skip (.exit 0)) f63_17)
def f63_8:IC:=.seq (.seq (.ops [m1 21 0,o1 22 (.lenS (.t 21)),o1 23 (.mv (ci 0))] [0,22,23] []) (.block 0 (.loop f63_13))) (.seq (.ops [o1 2 (.mv (.c (.b true)))] [2] []) .ret)
def f63_2:IC:=.seq (.seq (.ops [m1 4 0,o1 5 (.bin .eql (.t 4) (.c (.s []))),m1 6 5,⟨some 7,.mv (.t 0),some (6,false),[]⟩,⟨some 8,.lenS (.t 7),some (6,false),[]⟩,⟨some 9,.bin .gtr (.t 8) (ci 40),some (6,false),[]⟩,o1 10 (.pick (.t 6) (.c (.b true)) (.t 9)),m1 11 10,⟨some 12,.mv (.t 0),some (11,false),[]⟩,⟨some 13,.idx (.t 12) (ci 0),some (11,false),[]⟩,⟨some 14,.bin .lss (.t 13) (.c (.i .u8 97)),some (11,false),[]⟩,o1 15 (.pick (.t 11) (.c (.b true)) (.t 14)),m1 16 15,⟨some 17,.mv (.t 0),some (16,false),[]⟩,⟨some 18,.idx (.t 17) (ci 0),some (16,false),[]⟩,⟨some 19,.bin .gtr (.t 18) (.c (.i .u8 122)),some (16,false),[]⟩,o1 20 (.pick (.t 16) (.c (.b true)) (.t 19))] [0,20] []) (.cond (.t 20) (.seq (.ops [o1 2 (.mv (.c (.b false)))] [2] []) .ret) .skip)) f63_8
def f63_0:IC:=.seq (.ops [o1 2 (.mv (.c (.b false)))] [0] []) f63_2
@[push_cast]def f63R:List R:=[.t 2]
@[push_cast]def f63e:=aWv f63_21.eq_1<|aWv f63_17.eq_1<|aWv f63_13.eq_1<|aWv f63_8.eq_1<|aWv f63_2.eq_1<|aWu f63_0.eq_1
theorem f63ok:okFn Tryz.prog 63 44 f63_0 f63R=true:=by kernel_rfl
def f243_21:IC:=.cond (.t 4) .skip (.ops [o1 10 (.bin .eql (.t 3) (.c (.s [111,116,104,101,114]))),m1 4 10] [4] [])
def f243_18:IC:=.cond (.t 4) .skip (.seq (.ops [o1 9 (.bin .eql (.t 3) (.c (.s [109,97,110,121]))),m1 4 9] [3,4] []) f243_21)
def f243_15:IC:=.cond (.t 4) .skip (.seq (.ops [o1 8 (.bin .eql (.t 3) (.c (.s [102,101,119]))),m1 4 8] [3,4] []) f243_18)
def f243_12:IC:=.cond (.t 4) .skip (.seq (.ops [o1 7 (.bin .eql (.t 3) (.c (.s [116,119,111]))),m1 4 7] [3,4] []) f243_15)
def f243_9:IC:=.cond (.t 4) .skip (.seq (.ops [o1 6 (.bin .eql (.t 3) (.c (.s [111,110,101]))),m1 4 6] [3,4] []) f243_12)
def f243_5:IC:=.block 0 (.seq (.seq (.ops [o1 5 (.bin .eql (.t 3) (.c (.s [122,101,114,111]))),m1 4 5] [3,4] []) f243_9) (.cond (.t 4) (.seq (.ops [o1 2 (.mv (.c (.b true)))] [2] []) .ret) .skip))
def f243_2:IC:=.seq (.seq (.ops [m1 3 0] [3] []) f243_5) (.seq (.ops [o1 2 (.mv (.c (.b false)))] [2] []) .ret)
def f243_0:IC:=.seq (.ops [o1 2 (.mv (.c (.b false)))] [0] []) f243_2
@[push_cast]def f243R:List R:=[.t 2]
@[push_cast]def f243e:=aWv f243_21.eq_1<|aWv f243_18.eq_1<|aWv f243_15.eq_1<|aWv f243_12.eq_1<|aWv f243_9.eq_1<|aWv f243_5.eq_1<|aWv f243_2.eq_1<|aWu f243_0.eq_1
theorem f243ok:okFn Tryz.prog 243 11 f243_0 f243R=true:=by kernel_rfl
def f222_17:IC:=.seq (.ops [m1 13 4,o1 14 (.bin .lss (.t 13) (.c (.i .u8 97))),m1 15 14,⟨some 16,.mv (.t 4),some (15,false),[]⟩,⟨some 17,.bin .gtr (.t 16) (.c (.i .u8 122)),some (15,false),[]⟩,o1 18 (.pick (.t 15) (.c (.b true)) (.t 17)),m1 19 18,⟨some 20,.mv (.t 4),some (19,true),[]⟩,⟨some 21,.bin .lss (.t 20) (.c (.i .u8 65)),some (19,true),[]⟩,⟨some 22,.mv (.t 21),some (19,true),[]⟩,⟨some 23,.mv (.t 4),some (22,false),[]⟩,⟨some 24,.bin .gtr (.t 23) (.c (.i .u8 90)),some (22,false),[]⟩,⟨some 25,.pick (.t 22) (.c (.b true)) (.t 24),some (19,true),[]⟩,o1 26 (.pick (.t 19) (.t 25) (.c (.b false)))] [0,6,7,26] []) (.cond (.t 26) (.seq (.ops [o1 2 (.mv (.c (.b false)))] [2] []) .ret) .skip)
def f222_11:IC:=.seq (.block 1 (.seq (.ops [m1 9 7,m1 3 9] [0,3,6,7] []) (.seq (.ops [m1 10 0,m1 11 3,o1 12 (.idx (.t 10) (.t 11)),m1 4 12] [0,4,6,7] []) f222_17))) (.ops [o1 27 (.bin .add (.t 7) (ci 1)),m1 7 27] [0,6,7] [])
def f222_7:IC:=.seq (.ops [o1 8 (.bin .lss (.t 7) (.t 6))] [0,6,7,8] []) (.seq (.cond (.t 8) .skip (.exit 0)) f222_11)
def f222_23:IC:=.seq (.ops [m1 28 0,o1 29 (.bin .neq (.t 28) (.c (.s []))),m1 30 29,⟨some 31,.mv (.t 0),some (30,true),[]⟩,⟨some 32,.lenS (.t 31),some (30,true),[]⟩,⟨some 33,.bin .leq (.t 32) (ci 40),some (30,true),[]⟩,o1 34 (.pick (.t 30) (.t 33) (.c (.b false))),m1 2 34] [2] []) .ret
def f222_2:IC:=.seq (.seq (.ops [m1 5 0,o1 6 (.lenS (.t 5)),o1 7 (.mv (ci 0))] [0,6,7] []) (.block 0 (.loop f222_7))) f222_23
def f222_0:IC:=.seq (.ops [o1 2 (.mv (.c (.b false)))] [0] []) f222_2
@[push_cast]def f222R:List R:=[.t 2]
@[push_cast]def f222e:=aWv f222_17.eq_1<|aWv f222_11.eq_1<|aWv f222_7.eq_1<|aWv f222_23.eq_1<|aWv f222_2.eq_1<|aWu f222_0.eq_1
theorem f222ok:okFn Tryz.prog 222 35 f222_0 f222R=true:=by kernel_rfl
def f62_2:IC:=.seq (.ops [m1 3 0,o1 4 (.bin .geq (.t 3) (ci 7)),m1 5 4,⟨some 6,.mv (.t 0),some (5,true),[]⟩,⟨some 7,.bin .leq (.t 6) (ci 9),some (5,true),[]⟩,o1 8 (.pick (.t 5) (.t 7) (.c (.b false))),m1 2 8] [2] []) .ret
def f62_0:IC:=.seq (.ops [o1 2 (.mv (.c (.b false)))] [0] []) f62_2
@[push_cast]def f62R:List R:=[.t 2]
@[push_cast]def f62e:=aWv f62_2.eq_1<|aWu f62_0.eq_1
theorem f62ok:okFn Tryz.prog 62 9 f62_0 f62R=true:=by kernel_rfl
def f148_2:IC:=.seq (.ops [m1 3 0,o1 4 (.bin .geq (.t 3) (.c (.i .u8 97))),m1 5 4,⟨some 6,.mv (.t 0),some (5,true),[]⟩,⟨some 7,.bin .leq (.t 6) (.c (.i .u8 122)),some (5,true),[]⟩,o1 8 (.pick (.t 5) (.t 7) (.c (.b false))),m1 2 8] [2] []) .ret
def f148_0:IC:=.seq (.ops [o1 2 (.mv (.c (.b false)))] [0] []) f148_2
@[push_cast]def f148R:List R:=[.t 2]
@[push_cast]def f148e:=aWv f148_2.eq_1<|aWu f148_0.eq_1
theorem f148ok:okFn Tryz.prog 148 9 f148_0 f148R=true:=by kernel_rfl
def f200_2:IC:=.seq (.ops [m1 3 0,o1 4 (.call 148 [.t 3]),m1 5 4,⟨some 6,.mv (.t 0),some (5,false),[]⟩,⟨some 7,.bin .geq (.t 6) (.c (.i .u8 65)),some (5,false),[]⟩,⟨some 8,.mv (.t 7),some (5,false),[]⟩,⟨some 9,.mv (.t 0),some (8,true),[]⟩,⟨some 10,.bin .leq (.t 9) (.c (.i .u8 90)),some (8,true),[]⟩,⟨some 11,.pick (.t 8) (.t 10) (.c (.b false)),some (5,false),[]⟩,o1 12 (.pick (.t 5) (.c (.b true)) (.t 11)),m1 2 12] [2] []) .ret
def f200_0:IC:=.seq (.ops [o1 2 (.mv (.c (.b false)))] [0] []) f200_2
@[push_cast]def f200R:List R:=[.t 2]
@[push_cast]def f200e:=aWv f200_2.eq_1<|aWu f200_0.eq_1
theorem f200ok:okFn Tryz.prog 200 13 f200_0 f200R=true:=by kernel_rfl
def f147_2:IC:=.seq (.ops [m1 3 0,o1 4 (.call 200 [.t 3]),m1 5 4,⟨some 6,.mv (.t 0),some (5,false),[]⟩,⟨some 7,.bin .geq (.t 6) (.c (.i .u8 48)),some (5,false),[]⟩,⟨some 8,.mv (.t 7),some (5,false),[]⟩,⟨some 9,.mv (.t 0),some (8,true),[]⟩,⟨some 10,.bin .leq (.t 9) (.c (.i .u8 57)),some (8,true),[]⟩,⟨some 11,.pick (.t 8) (.t 10) (.c (.b false)),some (5,false),[]⟩,o1 12 (.pick (.t 5) (.c (.b true)) (.t 11)),m1 13 12,⟨some 14,.mv (.t 0),some (13,false),[]⟩,⟨some 15,.bin .eql (.t 14) (.c (.i .u8 95)),some (13,false),[]⟩,o1 16 (.pick (.t 13) (.c (.b true)) (.t 15)),m1 17 16,⟨some 18,.mv (.t 0),some (17,false),[]⟩,⟨some 19,.bin .eql (.t 18) (.c (.i .u8 45)),some (17,false),[]⟩,o1 20 (.pick (.t 17) (.c (.b true)) (.t 19)),m1 2 20] [2] []) .ret
def f147_0:IC:=.seq (.ops [o1 2 (.mv (.c (.b false)))] [0] []) f147_2
@[push_cast]def f147R:List R:=[.t 2]
@[push_cast]def f147e:=aWv f147_2.eq_1<|aWu f147_0.eq_1
theorem f147ok:okFn Tryz.prog 147 21 f147_0 f147R=true:=by kernel_rfl
def f82_11:IC:=.seq (.block 1 (.seq (.ops [m1 10 0,m1 11 3,o1 12 (.idx (.t 10) (.t 11)),o1 13 (.call 147 [.t 12]),o1 14 (.not (.t 13))] [0,3,14] []) (.cond (.t 14) (.seq (.ops [o1 2 (.mv (.c (.b false)))] [2] []) .ret) .skip))) (.ops [m1 8 3,o1 9 (.bin .add (.t 8) (ci 1)),m1 3 9] [0,3] [])
def f82_7:IC:=.seq (.seq (.ops [m1 4 3,m1 5 0,o1 6 (.lenS (.t 5)),o1 7 (.bin .lss (.t 4) (.t 6))] [0,3,7] []) (.cond (.t 7) .skip (.exit 0))) f82_11
def f82_19:IC:=.seq (.ops [m1 15 0,o1 16 (.lenS (.t 15)),o1 17 (.bin .geq (.t 16) (ci 1)),m1 18 17,⟨some 19,.mv (.t 0),some (18,true),[]⟩,⟨some 20,.lenS (.t 19),some (18,true),[]⟩,⟨some 21,.bin .leq (.t 20) (ci 40),some (18,true),[]⟩,o1 22 (.pick (.t 18) (.t 21) (.c (.b false))),m1 23 22,⟨some 24,.mv (.t 0),some (23,true),[]⟩,⟨some 25,.idx (.t 24) (ci 0),some (23,true),[]⟩,⟨some 26,.call 148 [.t 25],some (23,true),[]⟩,o1 27 (.pick (.t 23) (.t 26) (.c (.b false))),m1 2 27] [2] []) .ret
def f82_0:IC:=.seq (.ops [o1 2 (.mv (.c (.b false)))] [0] []) (.seq (.seq (.ops [o1 3 (.mv (ci 0))] [0,3] []) (.block 0 (.loop f82_7))) f82_19)
@[push_cast]def f82R:List R:=[.t 2]
@[push_cast]def f82e:=aWv f82_11.eq_1<|aWv f82_7.eq_1<|aWv f82_19.eq_1<|aWu f82_0.eq_1
theorem f82ok:okFn Tryz.prog 82 28 f82_0 f82R=true:=by kernel_rfl
def f205_2:IC:=.seq (.ops [m1 3 0,o1 4 (.bin .eql (.t 3) (.c (.i .u8 123))),m1 5 4,⟨some 6,.mv (.t 0),some (5,false),[]⟩,⟨some 7,.bin .eql (.t 6) (.c (.i .u8 125)),some (5,false),[]⟩,o1 8 (.pick (.t 5) (.c (.b true)) (.t 7)),m1 9 8,⟨some 10,.mv (.t 0),some (9,false),[]⟩,⟨some 11,.bin .eql (.t 10) (.c (.i .u8 60)),some (9,false),[]⟩,o1 12 (.pick (.t 9) (.c (.b true)) (.t 11)),m1 13 12,⟨some 14,.mv (.t 0),some (13,false),[]⟩,⟨some 15,.bin .eql (.t 14) (.c (.i .u8 62)),some (13,false),[]⟩,o1 16 (.pick (.t 13) (.c (.b true)) (.t 15)),m1 17 16,⟨some 18,.mv (.t 0),some (17,false),[]⟩,⟨some 19,.bin .eql (.t 18) (.c (.i .u8 35)),some (17,false),[]⟩,o1 20 (.pick (.t 17) (.c (.b true)) (.t 19)),m1 21 20,⟨some 22,.mv (.t 0),some (21,false),[]⟩,⟨some 23,.bin .eql (.t 22) (.c (.i .u8 92)),some (21,false),[]⟩,o1 24 (.pick (.t 21) (.c (.b true)) (.t 23)),m1 2 24] [2] []) .ret
def f205_0:IC:=.seq (.ops [o1 2 (.mv (.c (.b false)))] [0] []) f205_2
@[push_cast]def f205R:List R:=[.t 2]
@[push_cast]def f205e:=aWv f205_2.eq_1<|aWu f205_0.eq_1
theorem f205ok:okFn Tryz.prog 205 25 f205_0 f205R=true:=by kernel_rfl
def f203_2:IC:=.seq (.ops [m1 3 0,o1 4 (.bin .eql (.t 3) (.c (.s [122,101,114,111]))),m1 5 4,⟨some 6,.mv (.t 0),some (5,false),[]⟩,⟨some 7,.bin .eql (.t 6) (.c (.s [111,110,101])),some (5,false),[]⟩,o1 8 (.pick (.t 5) (.c (.b true)) (.t 7)),m1 9 8,⟨some 10,.mv (.t 0),some (9,false),[]⟩,⟨some 11,.bin .eql (.t 10) (.c (.s [116,119,111])),some (9,false),[]⟩,o1 12 (.pick (.t 9) (.c (.b true)) (.t 11)),m1 13 12,⟨some 14,.mv (.t 0),some (13,false),[]⟩,⟨some 15,.bin .eql (.t 14) (.c (.s [102,101,119])),some (13,false),[]⟩,o1 16 (.pick (.t 13) (.c (.b true)) (.t 15)),m1 17 16,⟨some 18,.mv (.t 0),some (17,false),[]⟩,⟨some 19,.bin .eql (.t 18) (.c (.s [109,97,110,121])),some (17,false),[]⟩,o1 20 (.pick (.t 17) (.c (.b true)) (.t 19)),m1 21 20,⟨some 22,.mv (.t 0),some (21,false),[]⟩,⟨some 23,.bin .eql (.t 22) (.c (.s [111,116,104,101,114])),some (21,false),[]⟩,o1 24 (.pick (.t 21) (.c (.b true)) (.t 23)),m1 2 24] [2] []) .ret
def f203_0:IC:=.seq (.ops [o1 2 (.mv (.c (.b false)))] [0] []) f203_2
@[push_cast]def f203R:List R:=[.t 2]
@[push_cast]def f203e:=aWv f203_2.eq_1<|aWu f203_0.eq_1
theorem f203ok:okFn Tryz.prog 203 25 f203_0 f203R=true:=by kernel_rfl
def f204_15:IC:=.seq (.ops [m1 14 4,o1 15 (.bin .geq (.t 14) (.c (.i .u8 97))),m1 16 15,⟨some 17,.mv (.t 4),some (16,true),[]⟩,⟨some 18,.bin .leq (.t 17) (.c (.i .u8 122)),some (16,true),[]⟩,o1 19 (.pick (.t 16) (.t 18) (.c (.b false))),m1 20 19,⟨some 21,.mv (.t 4),some (20,false),[]⟩,⟨some 22,.bin .geq (.t 21) (.c (.i .u8 65)),some (20,false),[]⟩,⟨some 23,.mv (.t 22),some (20,false),[]⟩,⟨some 24,.mv (.t 4),some (23,true),[]⟩,⟨some 25,.bin .leq (.t 24) (.c (.i .u8 90)),some (23,true),[]⟩,⟨some 26,.pick (.t 23) (.t 25) (.c (.b false)),some (20,false),[]⟩,o1 27 (.pick (.t 20) (.c (.b true)) (.t 26)),o1 28 (.not (.t 27))] [0,3,28] []) (.cond (.t 28) (.seq (.ops [o1 2 (.mv (.c (.b false)))] [2] []) .ret) .skip)
def f204_11:IC:=.seq (.block 1 (.seq (.ops [m1 11 0,m1 12 3,o1 13 (.idx (.t 11) (.t 12)),m1 4 13] [0,3,4] []) f204_15)) (.ops [m1 9 3,o1 10 (.bin .add (.t 9) (ci 1)),m1 3 10] [0,3] [])
def f204_7:IC:=.seq (.seq (.ops [m1 5 3,m1 6 0,o1 7 (.lenS (.t 6)),o1 8 (.bin .lss (.t 5) (.t 7))] [0,3,8] []) (.cond (.t 8) .skip (.exit 0))) f204_11
def f204_21:IC:=.seq (.ops [m1 29 0,o1 30 (.lenS (.t 29)),o1 31 (.bin .geq (.t 30) (ci 1)),m1 32 31,⟨some 33,.mv (.t 0),some (32,true),[]⟩,⟨some 34,.lenS (.t 33),some (32,true),[]⟩,⟨some 35,.bin .leq (.t 34) (ci 40),some (32,true),[]⟩,o1 36 (.pick (.t 32) (.t 35) (.c (.b false))),m1 2 36] [2] []) .ret
def f204_0:IC:=.seq (.ops [o1 2 (.mv (.c (.b false)))] [0] []) (.seq (.seq (.ops [o1 3 (.mv (ci 0))] [0,3] []) (.block 0 (.loop f204_7))) f204_21)
@[push_cast]def f204R:List R:=[.t 2]
@[push_cast]def f204e:=aWv f204_15.eq_1<|aWv f204_11.eq_1<|aWv f204_7.eq_1<|aWv f204_21.eq_1<|aWu f204_0.eq_1
theorem f204ok:okFn Tryz.prog 204 37 f204_0 f204R=true:=by kernel_rfl
def f70_2:IC:=.seq (.ops [m1 3 0,o1 4 (.bin .eql (.t 3) (ci 7)),m1 5 4,⟨some 6,.mv (.t 0),some (5,false),[]⟩,⟨some 7,.bin .eql (.t 6) (ci 8),some (5,false),[]⟩,o1 8 (.pick (.t 5) (.c (.b true)) (.t 7)),m1 2 8] [2] []) .ret
def f70_0:IC:=.seq (.ops [o1 2 (.mv (.c (.b false)))] [0] []) f70_2
@[push_cast]def f70R:List R:=[.t 2]
@[push_cast]def f70e:=aWv f70_2.eq_1<|aWu f70_0.eq_1
theorem f70ok:okFn Tryz.prog 70 9 f70_0 f70R=true:=by kernel_rfl
def f251_11:IC:=.seq (.block 1 (.seq (.ops [m1 10 0,m1 11 3,o1 12 (.idx (.t 10) (.t 11)),o1 13 (.bin .lss (.t 12) (.c (.i .u8 48))),m1 14 13,⟨some 15,.mv (.t 0),some (14,false),[]⟩,⟨some 16,.mv (.t 3),some (14,false),[]⟩,⟨some 17,.idx (.t 15) (.t 16),some (14,false),[]⟩,⟨some 18,.bin .gtr (.t 17) (.c (.i .u8 57)),some (14,false),[]⟩,o1 19 (.pick (.t 14) (.c (.b true)) (.t 18))] [0,3,19] []) (.cond (.t 19) (.seq (.ops [o1 2 (.mv (.c (.b false)))] [2] []) .ret) .skip))) (.ops [m1 8 3,o1 9 (.bin .add (.t 8) (ci 1)),m1 3 9] [0,3] [])
def f251_7:IC:=.seq (.seq (.ops [m1 4 3,m1 5 0,o1 6 (.lenS (.t 5)),o1 7 (.bin .lss (.t 4) (.t 6))] [0,3,7] []) (.cond (.t 7) .skip (.exit 0))) f251_11
def f251_2:IC:=.seq (.seq (.ops [o1 3 (.mv (ci 0))] [0,3] []) (.block 0 (.loop f251_7))) (.seq (.ops [o1 2 (.mv (.c (.b true)))] [2] []) .ret)
def f251_0:IC:=.seq (.ops [o1 2 (.mv (.c (.b false)))] [0] []) f251_2
@[push_cast]def f251R:List R:=[.t 2]
@[push_cast]def f251e:=aWv f251_11.eq_1<|aWv f251_7.eq_1<|aWv f251_2.eq_1<|aWu f251_0.eq_1
theorem f251ok:okFn Tryz.prog 251 20 f251_0 f251R=true:=by kernel_rfl
def f252_11:IC:=.seq (.block 1 (.seq (.ops [m1 10 0,m1 11 3,o1 12 (.idx (.t 10) (.t 11)),o1 13 (.bin .neq (.t 12) (.c (.i .u8 48)))] [0,3,13] []) (.cond (.t 13) (.seq (.ops [o1 2 (.mv (.c (.b false)))] [2] []) .ret) .skip))) (.ops [m1 8 3,o1 9 (.bin .add (.t 8) (ci 1)),m1 3 9] [0,3] [])
def f252_7:IC:=.seq (.seq (.ops [m1 4 3,m1 5 0,o1 6 (.lenS (.t 5)),o1 7 (.bin .lss (.t 4) (.t 6))] [0,3,7] []) (.cond (.t 7) .skip (.exit 0))) f252_11
def f252_2:IC:=.seq (.seq (.ops [o1 3 (.mv (ci 0))] [0,3] []) (.block 0 (.loop f252_7))) (.seq (.ops [o1 2 (.mv (.c (.b true)))] [2] []) .ret)
def f252_0:IC:=.seq (.ops [o1 2 (.mv (.c (.b false)))] [0] []) f252_2
@[push_cast]def f252R:List R:=[.t 2]
@[push_cast]def f252e:=aWv f252_11.eq_1<|aWv f252_7.eq_1<|aWv f252_2.eq_1<|aWu f252_0.eq_1
theorem f252ok:okFn Tryz.prog 252 14 f252_0 f252R=true:=by kernel_rfl
def f287_13:IC:=.seq (.block 1 (.ops [m1 11 3,o1 12 (.bin .mul (ci 10) (.t 11)),m1 13 0,m1 14 4,o1 15 (.idx (.t 13) (.t 14)),o1 16 (.bin .sub (.t 15) (.c (.i .u8 48))),o1 17 (.cvi .i64 (.t 16)),o1 18 (.bin .add (.t 12) (.t 17)),m1 3 18] [0,3,4] [])) (.ops [m1 9 4,o1 10 (.bin .add (.t 9) (ci 1)),m1 4 10] [0,3,4] [])
def f287_9:IC:=.seq (.seq (.ops [m1 5 4,m1 6 0,o1 7 (.lenS (.t 6)),o1 8 (.bin .lss (.t 5) (.t 7))] [0,3,4,8] []) (.cond (.t 8) .skip (.exit 0))) f287_13
def f287_4:IC:=.seq (.seq (.ops [o1 4 (.mv (ci 0))] [0,3,4] []) (.block 0 (.loop f287_9))) (.seq (.ops [m1 19 3,m1 2 19] [2] []) .ret)
def f287_0:IC:=.seq (.ops [o1 2 (.mv (ci 0))] [0] []) (.seq (.ops [o1 3 (.mv (ci 0))] [0,3] []) f287_4)
@[push_cast]def f287R:List R:=[.t 2]
@[push_cast]def f287e:=aWv f287_13.eq_1<|aWv f287_9.eq_1<|aWv f287_4.eq_1<|aWu f287_0.eq_1
theorem f287ok:okFn Tryz.prog 287 20 f287_0 f287R=true:=by kernel_rfl
def f288_9:IC:=.block 1 (.ops [m1 14 0,m1 15 0,o1 16 (.lenS (.t 15)),o1 17 (.bin .sub (.t 16) (ci 1)),o1 18 (.slS (.t 14) none (some (.t 17))),m1 0 18] [0] [])
def f288_5:IC:=.seq (.seq (.ops [m1 3 0,o1 4 (.lenS (.t 3)),o1 5 (.bin .gtr (.t 4) (ci 0)),m1 6 5,⟨some 7,.mv (.t 0),some (6,true),[]⟩,⟨some 8,.mv (.t 0),some (6,true),[]⟩,⟨some 9,.lenS (.t 8),some (6,true),[]⟩,⟨some 10,.bin .sub (.t 9) (ci 1),some (6,true),[]⟩,⟨some 11,.idx (.t 7) (.t 10),some (6,true),[]⟩,⟨some 12,.bin .eql (.t 11) (.c (.i .u8 48)),some (6,true),[]⟩,o1 13 (.pick (.t 6) (.t 12) (.c (.b false)))] [0,13] []) (.cond (.t 13) .skip (.exit 0))) f288_9
def f288_0:IC:=.seq (.ops [o1 2 (.mv (.c (.s [])))] [0] []) (.seq (.block 0 (.loop f288_5)) (.seq (.ops [m1 19 0,m1 2 19] [2] []) .ret))
@[push_cast]def f288R:List R:=[.t 2]
@[push_cast]def f288e:=aWv f288_9.eq_1<|aWv f288_5.eq_1<|aWu f288_0.eq_1
theorem f288ok:okFn Tryz.prog 288 20 f288_0 f288R=true:=by kernel_rfl
end Go.Ir
namespace Go.Ir
theorem finW_rets {W0:World} {nt n:Nat} {rs:List R} {vs:List V} {env:Env} {σ:Sto} (h:ResOks ⟨env,σ,n⟩ rs vs):FinW W0 nt rs vs [] .ret ⟨env,σ,n⟩:=
 ⟨_,StLe.refl,h,fun id e h=>by simp [lk] at h⟩
def ResB (o:Option Ent) (off k:Nat) (ag:Bool) (v:V):Prop:=∃u,o=some (.box u)/\sub u off k ag=some v
def ResC (x:V) (σ:Sto) (k:Nat) (ag:Bool) (v:V):Prop:=∃id off u,x = .ref id off/\lk σ id=some (.box u)/\sub u off k ag=some v
@[push_cast] theorem resB_box {u v:V} {off k:Nat} {ag:Bool}:ResB (some (.box u)) off k ag v=(sub u off k ag=some v):=by simp [ResB]
@[push_cast] theorem resC_ref {id:Id} {off k:Nat} {σ:Sto} {ag:Bool} {v:V}:ResC (.ref id off) σ k ag v=ResB (lk σ id) off k ag v:=by
 unfold ResC ResB
 apply propext
 constructor
 ·rintro ⟨_,_,u,h,h1⟩;cases h;exact ⟨u,h1⟩
 ·rintro ⟨u,h1⟩;exact ⟨_,_,u,rfl,h1⟩
@[push_cast] theorem resOks_c {env:Env} {σ:Sto} {n s k:Nat} {ag:Bool} {rs:List R} {v:V} {vs:List V}:ResOks ⟨env,σ,n⟩ (.c s k ag::rs) (v::vs)=(ResC (get env s) σ k ag v/\ResOks ⟨env,σ,n⟩ rs vs):=rfl
@[push_cast] theorem resOks_t {env:Env} {σ:Sto} {n s:Nat} {rs:List R} {v:V} {vs:List V}:ResOks ⟨env,σ,n⟩ (.t s::rs) (v::vs)=(get env s=v/\ResOks ⟨env,σ,n⟩ rs vs):=rfl
@[push_cast] theorem resOks_nil {st:St}:ResOks st [] []=True:=rfl
theorem StLe.drop1 {W0:World} {nt n n':Nat} {env:Env} {σ:Sto} {id:Id} {x:Ent} (h:lk σ id=none) (hn:n<=n'):StLe W0 nt ⟨env,(id,x)::σ,n⟩ ⟨env,σ,n'⟩:=by
 refine StLe.drop (fun id' e h'=>?_) hn
 simp only [lk]
 rw [if_neg]
 ·exact h'
 ·rintro rfl;rw [h] at h';cases h'
theorem lk_drop1 {σ:Sto} {id0:Id} {x:Ent} (h:lk σ id0=none):∀id e,lk σ id=some e->lk ((id0,x)::σ) id=some e:=by
 intro id e h'
 simp only [lk]
 rw [if_neg]
 ·exact h'
 ·rintro rfl;rw [h] at h';cases h'
end Go.Ir
section
namespace Go.Ir
theorem StLe.dropM {W0:World} {nt n n':Nat} {env:Env} {a m:Id × Ent} {σ:Sto} (h:lk σ m.1=none) (hn:n<=n'):StLe W0 nt ⟨env,a::m::σ,n⟩ ⟨env,a::σ,n'⟩:=by
 obtain ⟨ai,ae⟩:=a
 refine StLe.drop (fun i e h'=>?_) hn
 simp only [lk] at h'⊢
 split at h'
 ·rename_i h1;rw [if_pos h1];exact h'
 ·rename_i h1;rw [if_neg h1];exact lk_drop1 h i e h'
theorem jp_i {P:Program} {W0:World} {ep:Nat} {live:List Nat} {Q:Exit->St->Prop} {p:Prop} {l:List I} {env:Env} {σ:Sto} (h:p) (k:J P W0 ep live Q l env σ):JP P W0 ep live Q p l env σ:=⟨h,k⟩
section
variable {P : Program} {W0 : World} {ep d : Nat} {live : List Nat} {Q : Exit → St → Prop} {l : List I} {env : Env} {σ : Sto}
theorem over_hd {id:Id} {e e':Ent} (h:∀p∈σ,p.1≠id):over [(id,e)] [(id,e')] ((id,e)::σ)=(id,e')::σ:=by
 have:List.filter (fun p:Id × Ent=>(lk [(id,e)] p.1).isNone) σ=σ:=by
  rw [List.filter_eq_self]
  intro p hp
  have:=h p hp
  simp [lk,Ne.symm this]
 unfold over
 rw [List.filter_cons_of_neg (by simp [lk]),this];rfl
theorem c_calls_hd {f:FuncId} {vs:List V} {v:V} {id:Id} {e e':Ent} (h:RetS P W0 f vs [(id,e)] v [(id,e')]) (hne:∀p∈σ,p.1≠id)
  (hh:J P W0 ep live Q l ((d,v)::env) ((id,e')::σ)):JCallS P W0 ep live Q f vs l d env ((id,e)::σ):=by
 refine c_calls h (fun i y hi=>?_) (by rw [over_hd hne];exact hh)
 simp only [lk] at hi⊢
 split at hi
 ·rename_i h1;rw [if_pos h1];exact hi
 ·cases hi
theorem c_calls_2 {f:FuncId} {vs:List V} {v:V} {id:Id} {e e':Ent} {a:Id × Ent} (h:RetS P W0 f vs [(id,e)] v [(id,e')]) (hne:∀p∈a::σ,p.1≠id)
  (hh:J P W0 ep live Q l ((d,v)::env) ((id,e')::a::σ)):JCallS P W0 ep live Q f vs l d env (a::(id,e)::σ):=by
 have ha:a.1≠id:=hne a (by simp)
 refine c_calls h (fun i y hi=>?_) ?_
 ·obtain ⟨j,x⟩:=a
  simp only [lk] at hi⊢
  split at hi
  ·rename_i h1;subst h1;rw [if_neg ha];simpa using hi
  ·cases hi
 ·have:over [(id,e)] [(id,e')] (a::(id,e)::σ)=(id,e')::a::σ:=by
   have h2:=over_hd (e:=e) (e':=e') (fun p hp=>hne p (List.mem_cons_of_mem a hp))
   have h3:(lk [(id,e)] a.1).isNone=true:=by simp [lk,Ne.symm ha]
   simp only [over,List.filter_cons,h3,if_true,List.singleton_append,List.cons.injEq,true_and] at h2⊢
   simpa [lk] using h2
  rw [this];exact hh
end
end Go.Ir
end
namespace Go.Ir
open Go.Proofs
variable (W0 : World)
def tLetter (n:Int):Bool:=decide (n>=97)&&decide (n<=122)||decide (n>=65)&&decide (n<=90)||decide (n>=48)&&decide (n<=57)
theorem c_tLetter (n:Int):RetS Tryz.prog W0 131 [.i .u8 n] [] (.b (tLetter n)) []:=by
 refine fn_retW (vs:=[.b (tLetter n)]) f131ok (by simp) (by simp) fun n0 hn0=>?_
 clear hn0
 simp only [push_cast,seval,reduceEqDiff]
 repeat' (first|(((first|apply condU_s|apply gdU_t|apply gdU_f)<;>intro _h)<;>(simp only [push_cast,seval,reduceEqDiff,_h];try (have _g:=_h;simp at _g)))|intro _)
 all_goals (first|(refine finW_ret ?_;simp [get,tLetter, *]<;>(intros;omega);done)|(refine finW_rets ?_;simp [push_cast,get,tLetter, *];done)|skip)
def selB (n:Int):Bool:=decide (n>=7)&&decide (n<=9)
theorem c_sSel (n:Int):RetS Tryz.prog W0 62 [.i .i64 n] [] (.b (selB n)) []:=by
 refine fn_retW (vs:=[.b (selB n)]) f62ok (by simp) (by simp) fun n0 hn0=>?_
 clear hn0
 simp only [push_cast,seval,reduceEqDiff]
 repeat' (first|(((first|apply condU_s|apply gdU_t|apply gdU_f)<;>intro _h)<;>(simp only [push_cast,seval,reduceEqDiff,_h];try (have _g:=_h;simp at _g)))|intro _)
 all_goals (first|(refine finW_ret ?_;simp [get,selB, *]<;>(intros;omega);done)|(refine finW_rets ?_;simp [push_cast,get,selB, *];done)|skip)
def specB (n:Int):Bool:=n == 123||n == 125||n == 60||n == 62||n == 35||n == 92
def classB (s:Bytes):Bool:=s == [122,101,114,111]||s == [111,110,101]||s == [116,119,111]||s == [102,101,119]||s == [109,97,110,121]||s == [111,116,104,101,114]
theorem c_sClass (s:Bytes):RetS Tryz.prog W0 243 [.s s] [] (.b (classB s)) []:=by
 refine fn_retW (vs:=[.b (classB s)]) f243ok (by simp) (by simp) fun n0 hn0=>?_
 clear hn0
 simp only [push_cast,seval,reduceEqDiff]
 repeat' (first|(((first|apply condU_s|apply gdU_t|apply gdU_f)<;>intro _h)<;>(simp only [push_cast,seval,reduceEqDiff,_h];try (have _g:=_h;simp at _g)))|intro _)
 all_goals (first|(refine finW_ret ?_;simp [get,classB, *]<;>(intros;omega);done)|(refine finW_rets ?_;simp [push_cast,get,classB, *];done)|skip)
def rLower (n:Int):Bool:=decide (n>=97)&&decide (n<=122)
theorem c_rLower (n:Int):RetS Tryz.prog W0 148 [.i .u8 n] [] (.b (rLower n)) []:=by
 refine fn_retW (vs:=[.b (rLower n)]) f148ok (by simp) (by simp) fun n0 hn0=>?_
 clear hn0
 simp only [push_cast,seval,reduceEqDiff]
 repeat' (first|(((first|apply condU_s|apply gdU_t|apply gdU_f)<;>intro _h)<;>(simp only [push_cast,seval,reduceEqDiff,_h];try (have _g:=_h;simp at _g)))|intro _)
 all_goals (first|(refine finW_ret ?_;simp [get,rLower, *]<;>(intros;omega);done)|(refine finW_rets ?_;simp [push_cast,get,rLower, *];done)|skip)
def rLetter (n:Int):Bool:=rLower n||decide (n>=65)&&decide (n<=90)
theorem c_rLetter (n:Int):RetS Tryz.prog W0 200 [.i .u8 n] [] (.b (rLetter n)) []:=by
 refine fn_retW (vs:=[.b (rLetter n)]) f200ok (by simp) (by simp) fun n0 hn0=>?_
 clear hn0
 simp only [push_cast,seval,reduceEqDiff]
 repeat' (first|(((first|apply condU_s|apply gdU_t|apply gdU_f)<;>intro _h)<;>(simp only [push_cast,seval,reduceEqDiff,_h];try (have _g:=_h;simp at _g)))|(refine c_call (by exact c_rLower W0 n) ?_;simp only [push_cast,seval,reduceEqDiff])|intro _)
 all_goals (first|(refine finW_ret ?_;simp [get,rLetter, *]<;>(intros;omega);done)|(refine finW_rets ?_;simp [push_cast,get,rLetter, *];done)|skip)
def rInner (n:Int):Bool:=rLetter n||decide (n>=48)&&decide (n<=57)||n == 95||n == 45
theorem c_rInner (n:Int):RetS Tryz.prog W0 147 [.i .u8 n] [] (.b (rInner n)) []:=by
 refine fn_retW (vs:=[.b (rInner n)]) f147ok (by simp) (by simp) fun n0 hn0=>?_
 clear hn0
 simp only [push_cast,seval,reduceEqDiff]
 repeat' (first|(((first|apply condU_s|apply gdU_t|apply gdU_f)<;>intro _h)<;>(simp only [push_cast,seval,reduceEqDiff,_h];try (have _g:=_h;simp at _g)))|(refine c_call (by exact c_rLetter W0 n) ?_;simp only [push_cast,seval,reduceEqDiff])|intro _)
 all_goals (first|(refine finW_ret ?_;simp [get,rInner, *]<;>(intros;omega);done)|(refine finW_rets ?_;simp [push_cast,get,rInner, *];done)|skip)
theorem c_rSpecial (n:Int):RetS Tryz.prog W0 205 [.i .u8 n] [] (.b (specB n)) []:=by
 refine fn_retW (vs:=[.b (specB n)]) f205ok (by simp) (by simp) fun n0 hn0=>?_
 clear hn0
 simp only [push_cast,seval,reduceEqDiff]
 repeat' (first|(((first|apply condU_s|apply gdU_t|apply gdU_f)<;>intro _h)<;>(simp only [push_cast,seval,reduceEqDiff,_h];try (have _g:=_h;simp at _g)))|intro _)
 all_goals (first|(refine finW_ret ?_;simp [get,specB, *]<;>(intros;omega);done)|(refine finW_rets ?_;simp [push_cast,get,specB, *];done)|skip)
theorem c_rClass (s:Bytes):RetS Tryz.prog W0 203 [.s s] [] (.b (classB s)) []:=by
 refine fn_retW (vs:=[.b (classB s)]) f203ok (by simp) (by simp) fun n0 hn0=>?_
 clear hn0
 simp only [push_cast,seval,reduceEqDiff]
 repeat' (first|(((first|apply condU_s|apply gdU_t|apply gdU_f)<;>intro _h)<;>(simp only [push_cast,seval,reduceEqDiff,_h];try (have _g:=_h;simp at _g)))|intro _)
 all_goals (first|(refine finW_ret ?_;simp [get,classB, *]<;>(intros;omega);done)|(refine finW_rets ?_;simp [push_cast,get,classB, *];done)|skip)
def cntB (n:Int):Bool:=n == 7||n == 8
theorem c_rCounted (n:Int):RetS Tryz.prog W0 70 [.i .i64 n] [] (.b (cntB n)) []:=by
 refine fn_retW (vs:=[.b (cntB n)]) f70ok (by simp) (by simp) fun n0 hn0=>?_
 clear hn0
 simp only [push_cast,seval,reduceEqDiff]
 repeat' (first|(((first|apply condU_s|apply gdU_t|apply gdU_f)<;>intro _h)<;>(simp only [push_cast,seval,reduceEqDiff,_h];try (have _g:=_h;simp at _g)))|intro _)
 all_goals (first|(refine finW_ret ?_;simp [get,cntB, *]<;>(intros;omega);done)|(refine finW_rets ?_;simp [push_cast,get,cntB, *];done)|skip)
def innerB (n:Int):Bool:=tLetter n||n == 95||n == 45
theorem rInner_eq (n:Int):rInner n=innerB n:=by
 simp [rInner,innerB,rLetter,rLower,tLetter,Bool.or_assoc]
def allB (f:Int->Bool):Bytes->Bool
 | []=>true
 | c::r=>f c.toNat&&allB f r
def nameB:Bytes->Bool
 | []=>false
 | c::r=>decide (((c::r).length:Int)<=40)&&rLower c.toNat&&allB innerB (c::r)
theorem c_tName (s:Bytes) (hs:s.length<SLim):RetS Tryz.prog W0 63 [.s s] [] (.b (nameB s)) []:=by
 generalize hS:nameB s=S
 refine fn_retW (vs:=[.b S]) f63ok (by simp) (by simp) fun n0 hn0=>?_
 clear hn0
 simp only [push_cast,seval,reduceEqDiff]
 cases s with
 | nil=>
  simp only [push_cast,seval,reduceEqDiff]
  repeat' (first|(((first|apply condU_s|apply gdU_t|apply gdU_f)<;>intro _h)<;>(simp only [push_cast,seval,reduceEqDiff,_h];try (have _g:=_h;simp at _g)))|intro _)
  all_goals exact finW_ret (by simp [get,<-hS,nameB])
 | cons c0 r0=>
  unfold nameB at hS
  simp only at hS
  simp only [push_cast,seval,reduceEqDiff]
  repeat' (first|(((first|apply condU_s|apply gdU_t|apply gdU_f)<;>intro _h)<;>(simp only [push_cast,seval,reduceEqDiff,_h];try (have _g:=_h;simp at _g)))|intro _)
  all_goals (first|(refine finW_ret ?_;simp [get,<-hS,rLower, *]<;>(intros;omega);done)|(refine finW_rets ?_;simp [push_cast,get,<-hS,rLower, *];done)|skip)
  have hA:(decide (((c0::r0).length:Int)<=40)&&rLower c0.toNat)=true:=by simp [rLower];omega
  rw [hA,Bool.true_and] at hS
  refine aWP_loopW (c0::r0).length (Inv:=fun m st=>∃done rest n,c0::r0=done++rest/\m=rest.length/\allB innerB rest=S/\st=⟨[(0,.s (c0::r0)),(22,.i .i64 (c0::r0).length),(23,.i .i64 done.length)],[],n⟩) ⟨_,StLe.refl,[],_,_,rfl,rfl,hS,by simp;rfl⟩ ?_
  clear hS
  rintro m _ ⟨done,rest,n,hz,rfl,hd,rfl⟩
  cases rest with
  | nil=>
   simp only [push_cast,seval,reduceEqDiff,hz]
   repeat' (first|(((first|apply condU_s|apply gdU_t|apply gdU_f)<;>intro _h)<;>(simp only [push_cast,seval,reduceEqDiff,_h];try (have _g:=_h;simp at _g)))|intro _)
   all_goals (first|(refine finW_ret ?_;simp [get,<-hd,allB, *]<;>(intros;omega);done)|(refine finW_rets ?_;simp [push_cast,get,<-hd,allB, *];done)|skip)
  | cons c rest=>
   have hb:=zip_bd hz
   simp only [push_cast,seval,reduceEqDiff,hz,wrap_zipS c (done:=done) (by omega)]
   repeat' (first|(((first|apply condU_s|apply gdU_t|apply gdU_f)<;>intro _h)<;>(simp only [push_cast,seval,reduceEqDiff,_h,hz,wrap_zipS c (done:=done) (by omega)];try (have _g:=_h;simp at _g)))|(refine c_call (by exact c_tLetter W0 _) ?_;simp only [push_cast,seval,reduceEqDiff,hz,wrap_zipS c (done:=done) (by omega)])|intro _)
   all_goals (first|(refine finW_ret ?_;simp [get,<-hd,allB,innerB, *]<;>(intros;omega);done)|(refine finW_rets ?_;simp [push_cast,get,<-hd,allB,innerB, *];done)|skip)
   all_goals (first|(refine ⟨_,_,Nat.lt_succ_self _,StLe.refl,done++[c],rest,_,?_,rfl,?_,rfl⟩<;>first|rfl|assumption|(simp [*];done)|(simp [<-hd,allB,innerB, *]<;>(intros;omega);done))|skip)
theorem c_rName (s:Bytes) (hs:s.length<SLim):RetS Tryz.prog W0 82 [.s s] [] (.b (nameB s)) []:=by
 generalize hS:nameB s=S
 have hall:(allB innerB s&&(decide ((s.length:Int)>=1)&&decide ((s.length:Int)<=40)&&rLower ((s.headD 0).toNat:Int)))=S:=by
  rw [<-hS]
  cases s with
  | nil=>rfl
  | cons c r=>
   simp only [nameB,List.headD_cons]
   have h1:(1:Int)<=(r.length:Int)+1:=by omega
   cases allB innerB (c::r)<;>simp [h1]
 clear hS
 generalize hT:(decide ((s.length:Int)>=1)&&decide ((s.length:Int)<=40)&&rLower ((s.headD 0).toNat:Int))=T at hall
 refine fn_retW (vs:=[.b S]) f82ok (by simp) (by simp) fun n0 hn0=>?_
 clear hn0
 simp only [push_cast,seval,reduceEqDiff]
 intro _ _
 refine aWP_loopW s.length (Inv:=fun m st=>∃done rest n,s=done++rest/\m=rest.length/\(allB innerB rest&&T)=S/\st=⟨[(0,.s s),(3,.i .i64 done.length)],[],n⟩) ⟨_,StLe.refl,[],_,_,rfl,rfl,hall,rfl⟩ ?_
 clear hall
 rintro m _ ⟨done,rest,n,hz,rfl,hd,rfl⟩
 cases rest with
 | nil=>
  have hd:T=S:=by rw [<-hd];rfl
  rw [List.append_nil] at hz
  subst hz
  cases s with
  | nil=>
   simp only [push_cast,seval,reduceEqDiff]
   repeat' (first|(((first|apply condU_s|apply gdU_t|apply gdU_f)<;>intro _h)<;>(simp only [push_cast,seval,reduceEqDiff,_h];try (have _g:=_h;simp at _g)))|intro _)
   all_goals (first|(refine finW_ret ?_;simp [get,<-hd,<-hT, *]<;>(intros;omega);done)|(refine finW_rets ?_;simp [push_cast,get,<-hd,<-hT, *];done)|skip)
  | cons c0 r0=>
   simp only [push_cast,seval,reduceEqDiff]
   repeat' (first|(((first|apply condU_s|apply gdU_t|apply gdU_f)<;>intro _h)<;>(simp only [push_cast,seval,reduceEqDiff,_h];try (have _g:=_h;simp at _g)))|(refine c_call (by exact c_rLower W0 _) ?_;simp only [push_cast,seval,reduceEqDiff])|intro _)
   all_goals (first|(refine finW_ret ?_;simp [get,<-hd,<-hT, *]<;>(intros;omega);done)|(refine finW_rets ?_;simp [push_cast,get,<-hd,<-hT, *];done)|skip)
 | cons c rest=>
  have hb:=zip_bd hz
  simp only [push_cast,seval,reduceEqDiff,hz,wrap_zipS c (done:=done) (by omega)]
  repeat' (first|(((first|apply condU_s|apply gdU_t|apply gdU_f)<;>intro _h)<;>(simp only [push_cast,seval,reduceEqDiff,_h,hz,wrap_zipS c (done:=done) (by omega)];try (have _g:=_h;simp at _g)))|(refine c_call (by exact c_rInner W0 _) ?_;simp only [push_cast,seval,reduceEqDiff,hz,wrap_zipS c (done:=done) (by omega)])|intro _)
  all_goals (try rw [rInner_eq] at *)
  all_goals subst hd
  all_goals (first|(refine finW_ret ?_;simp [get,allB, *]<;>(intros;omega);done)|(refine finW_rets ?_;simp [push_cast,get,allB, *];done)|skip)
  all_goals (first|(refine ⟨_,_,Nat.lt_succ_self _,StLe.refl,done++[c],rest,_,?_,rfl,?_,rfl⟩<;>first|rfl|assumption|(simp [*];done)|(simp [allB, *]<;>(intros;omega);done))|skip)
def skelB (n:Int):Bool:=decide (n>=97)&&decide (n<=122)||decide (n>=65)&&decide (n<=90)
def skeletonB (s:Bytes):Bool:=allB skelB s&&(decide ((s.length:Int)>=1)&&decide ((s.length:Int)<=40))
theorem c_rSkeleton (s:Bytes) (hs:s.length<SLim):RetS Tryz.prog W0 204 [.s s] [] (.b (skeletonB s)) []:=by
 generalize hS:skeletonB s=S
 unfold skeletonB at hS
 generalize hT:(decide ((s.length:Int)>=1)&&decide ((s.length:Int)<=40))=T at hS
 refine fn_retW (vs:=[.b S]) f204ok (by simp) (by simp) fun n0 hn0=>?_
 clear hn0
 simp only [push_cast,seval,reduceEqDiff]
 intro _ _
 refine aWP_loopW s.length (Inv:=fun m st=>∃done rest n,s=done++rest/\m=rest.length/\(allB skelB rest&&T)=S/\st=⟨[(0,.s s),(3,.i .i64 done.length)],[],n⟩) ⟨_,StLe.refl,[],_,_,rfl,rfl,hS,rfl⟩ ?_
 clear hS
 rintro m _ ⟨done,rest,n,hz,rfl,hd,rfl⟩
 cases rest with
 | nil=>
  have hd:T=S:=by rw [<-hd];rfl
  rw [List.append_nil] at hz
  subst hz
  simp only [push_cast,seval,reduceEqDiff]
  repeat' (first|(((first|apply condU_s|apply gdU_t|apply gdU_f)<;>intro _h)<;>(simp only [push_cast,seval,reduceEqDiff,_h];try (have _g:=_h;simp at _g)))|intro _)
  all_goals (first|(refine finW_ret ?_;simp [get,<-hd,<-hT, *]<;>(intros;omega);done)|(refine finW_rets ?_;simp [push_cast,get,<-hd,<-hT, *];done)|skip)
 | cons c rest=>
  have hb:=zip_bd hz
  simp only [push_cast,seval,reduceEqDiff,hz,wrap_zipS c (done:=done) (by omega)]
  repeat' (first|(((first|apply condU_s|apply gdU_t|apply gdU_f)<;>intro _h)<;>(simp only [push_cast,seval,reduceEqDiff,_h,hz,wrap_zipS c (done:=done) (by omega)];try (have _g:=_h;simp at _g)))|intro _)
  all_goals (first|(refine finW_ret ?_;simp [get,<-hd,allB,skelB, *]<;>(intros;omega);done)|(refine finW_rets ?_;simp [push_cast,get,<-hd,allB,skelB, *];done)|skip)
  all_goals (first|(refine ⟨_,_,Nat.lt_succ_self _,StLe.refl,done++[c],rest,_,?_,rfl,?_,rfl⟩<;>first|rfl|assumption|(simp [*];done)|(simp [<-hd,allB,skelB, *]<;>(intros;omega);done))|skip)
theorem c_sSkeleton (s:Bytes) (hs:s.length<SLim):RetS Tryz.prog W0 222 [.s s] [] (.b (skeletonB s)) []:=by
 generalize hS:skeletonB s=S
 unfold skeletonB at hS
 generalize hT:(decide ((s.length:Int)>=1)&&decide ((s.length:Int)<=40))=T at hS
 refine fn_retW (vs:=[.b S]) f222ok (by simp) (by simp) fun n0 hn0=>?_
 clear hn0
 simp only [push_cast,seval,reduceEqDiff]
 intro _ _
 refine aWP_loopW s.length (Inv:=fun m st=>∃done rest n,s=done++rest/\m=rest.length/\(allB skelB rest&&T)=S/\st=⟨[(0,.s s),(6,.i .i64 s.length),(7,.i .i64 done.length)],[],n⟩) ⟨_,StLe.refl,[],_,_,rfl,rfl,hS,rfl⟩ ?_
 clear hS
 rintro m _ ⟨done,rest,n,hz,rfl,hd,rfl⟩
 cases rest with
 | nil=>
  have hd:T=S:=by rw [<-hd];rfl
  rw [List.append_nil] at hz
  subst hz
  cases s with
  | nil=>
   simp only [push_cast,seval,reduceEqDiff]
   repeat' (first|(((first|apply condU_s|apply gdU_t|apply gdU_f)<;>intro _h)<;>(simp only [push_cast,seval,reduceEqDiff,_h];try (have _g:=_h;simp at _g)))|intro _)
   all_goals (first|(refine finW_ret ?_;simp [get,<-hd,<-hT, *]<;>(intros;omega);done)|(refine finW_rets ?_;simp [push_cast,get,<-hd,<-hT, *];done)|skip)
  | cons c0 r0=>
   simp only [push_cast,seval,reduceEqDiff]
   repeat' (first|(((first|apply condU_s|apply gdU_t|apply gdU_f)<;>intro _h)<;>(simp only [push_cast,seval,reduceEqDiff,_h];try (have _g:=_h;simp at _g)))|intro _)
   all_goals (first|(refine finW_ret ?_;simp [get,<-hd,<-hT, *]<;>(intros;omega);done)|(refine finW_rets ?_;simp [push_cast,get,<-hd,<-hT, *];done)|skip)
 | cons c rest=>
  have hb:=zip_bd hz
  simp only [push_cast,seval,reduceEqDiff,hz,wrap_zipS c (done:=done) (by omega)]
  repeat' (first|(((first|apply condU_s|apply gdU_t|apply gdU_f)<;>intro _h)<;>(simp only [push_cast,seval,reduceEqDiff,_h,hz,wrap_zipS c (done:=done) (by omega)];try (have _g:=_h;simp at _g)))|intro _)
  all_goals (first|(refine finW_ret ?_;simp [get,<-hd,allB,skelB, *]<;>(intros;omega);done)|(refine finW_rets ?_;simp [push_cast,get,<-hd,allB,skelB, *];done)|skip)
  all_goals (first|(refine ⟨_,_,Nat.lt_succ_self _,StLe.refl,done++[c],rest,_,?_,rfl,?_,rfl⟩<;>first|rfl|assumption|(simp [*];done)|(simp [<-hd,allB,skelB, *]<;>(intros;omega);done))|skip)
end Go.Ir
namespace Go.Ir
variable {P : Program} {W0 : World} {nt n : Nat} {Q : Exit → St → Prop} {env : Env} {σ : Sto}
def gIF_1 (e sz:Nat) (ag:Bool):IC:=.ops [o1 4 (.mv (ci 0))] [0,1] []
def gIF_4 (e sz:Nat) (ag:Bool):IC:=.ops [m1 6 0,o1 7 (.lenL (.t 6)),o1 8 (.mv (ci 0))] [0,1,7,8] []
def gIF_8 (e sz:Nat) (ag:Bool):IC:=.ops [o1 9 (.bin .lss (.t 8) (.t 7))] [0,1,7,8,9] []
def gIF_10 (e sz:Nat) (ag:Bool):IC:=.cond (.t 9) .skip (.exit 0)
def gIF_14 (e sz:Nat) (ag:Bool):IC:=.ops [m1 10 8,m1 5 10] [0,1,5,7,8] []
def gIF_16 (e sz:Nat) (ag:Bool):IC:=.ops [m1 11 1,m1 12 0,m1 13 5,o1 14 (.iaddr (.t 12) (.t 13) e sz),o1 15 (.load (.t 14) sz ag),o1 16 (.callvs (.t 11) [(.t 15)])] [0,1,5,7,8,16] []
def gIF_19 (e sz:Nat) (ag:Bool):IC:=.ops [m1 17 5,m1 4 17] [4] []
def gIF_18 (e sz:Nat) (ag:Bool):IC:=.seq (gIF_19 e sz ag) .ret
def gIF_17 (e sz:Nat) (ag:Bool):IC:=.cond (.t 16) (gIF_18 e sz ag) .skip
def gIF_15 (e sz:Nat) (ag:Bool):IC:=.seq (gIF_16 e sz ag) (gIF_17 e sz ag)
def gIF_13 (e sz:Nat) (ag:Bool):IC:=.seq (gIF_14 e sz ag) (gIF_15 e sz ag)
def gIF_12 (e sz:Nat) (ag:Bool):IC:=.block 1 (gIF_13 e sz ag)
def gIF_20 (e sz:Nat) (ag:Bool):IC:=.ops [o1 18 (.bin .add (.t 8) (ci 1)),m1 8 18] [0,1,7,8] []
def gIF_11 (e sz:Nat) (ag:Bool):IC:=.seq (gIF_12 e sz ag) (gIF_20 e sz ag)
def gIF_9 (e sz:Nat) (ag:Bool):IC:=.seq (gIF_10 e sz ag) (gIF_11 e sz ag)
def gIF_7 (e sz:Nat) (ag:Bool):IC:=.seq (gIF_8 e sz ag) (gIF_9 e sz ag)
def gIF_6 (e sz:Nat) (ag:Bool):IC:=.loop (gIF_7 e sz ag)
def gIF_5 (e sz:Nat) (ag:Bool):IC:=.block 0 (gIF_6 e sz ag)
def gIF_3 (e sz:Nat) (ag:Bool):IC:=.seq (gIF_4 e sz ag) (gIF_5 e sz ag)
def gIF_22 (e sz:Nat) (ag:Bool):IC:=.ops [o1 4 (.mv (ci (-1)))] [4] []
def gIF_21 (e sz:Nat) (ag:Bool):IC:=.seq (gIF_22 e sz ag) .ret
def gIF_2 (e sz:Nat) (ag:Bool):IC:=.seq (gIF_3 e sz ag) (gIF_21 e sz ag)
def gIF_0 (e sz:Nat) (ag:Bool):IC:=.seq (gIF_1 e sz ag) (gIF_2 e sz ag)
def gIFR:List R:=[.t 4]
@[push_cast]def gIF_1e (e sz:Nat) (ag:Bool):=aWu (gIF_1.eq_1 e sz ag)
@[push_cast]def gIF_4e (e sz:Nat) (ag:Bool):=aWu (gIF_4.eq_1 e sz ag)
@[push_cast]def gIF_8e (e sz:Nat) (ag:Bool):=aWu (gIF_8.eq_1 e sz ag)
@[push_cast]def gIF_10e (e sz:Nat) (ag:Bool):=aWu (gIF_10.eq_1 e sz ag)
@[push_cast]def gIF_14e (e sz:Nat) (ag:Bool):=aWu (gIF_14.eq_1 e sz ag)
@[push_cast]def gIF_16e (e sz:Nat) (ag:Bool):=aWu (gIF_16.eq_1 e sz ag)
@[push_cast]def gIF_19e (e sz:Nat) (ag:Bool):=aWu (gIF_19.eq_1 e sz ag)
@[push_cast]def gIF_18e (e sz:Nat) (ag:Bool):=aWu (gIF_18.eq_1 e sz ag)
@[push_cast]def gIF_17e (e sz:Nat) (ag:Bool):=aWu (gIF_17.eq_1 e sz ag)
@[push_cast]def gIF_15e (e sz:Nat) (ag:Bool):=aWu (gIF_15.eq_1 e sz ag)
@[push_cast]def gIF_13e (e sz:Nat) (ag:Bool):=aWu (gIF_13.eq_1 e sz ag)
@[push_cast]def gIF_12e (e sz:Nat) (ag:Bool):=aWu (gIF_12.eq_1 e sz ag)
@[push_cast]def gIF_20e (e sz:Nat) (ag:Bool):=aWu (gIF_20.eq_1 e sz ag)
@[push_cast]def gIF_11e (e sz:Nat) (ag:Bool):=aWu (gIF_11.eq_1 e sz ag)
@[push_cast]def gIF_9e (e sz:Nat) (ag:Bool):=aWu (gIF_9.eq_1 e sz ag)
@[push_cast]def gIF_7e (e sz:Nat) (ag:Bool):=aWu (gIF_7.eq_1 e sz ag)
@[push_cast]def gIF_6e (e sz:Nat) (ag:Bool):=aWu (gIF_6.eq_1 e sz ag)
@[push_cast]def gIF_5e (e sz:Nat) (ag:Bool):=aWu (gIF_5.eq_1 e sz ag)
@[push_cast]def gIF_3e (e sz:Nat) (ag:Bool):=aWu (gIF_3.eq_1 e sz ag)
@[push_cast]def gIF_22e (e sz:Nat) (ag:Bool):=aWu (gIF_22.eq_1 e sz ag)
@[push_cast]def gIF_21e (e sz:Nat) (ag:Bool):=aWu (gIF_21.eq_1 e sz ag)
@[push_cast]def gIF_2e (e sz:Nat) (ag:Bool):=aWu (gIF_2.eq_1 e sz ag)
@[push_cast]def gIF_0e (e sz:Nat) (ag:Bool):=aWu (gIF_0.eq_1 e sz ag)
def gCF_1 (g:Nat):IC:=.ops [o1 4 (.mv (.c (.b false)))] [0,1] []
def gCF_3 (g:Nat):IC:=.ops [m1 5 0,m1 6 1,o1 7 (.calls g [(.t 5),(.t 6)]),o1 8 (.bin .geq (.t 7) (ci 0)),m1 4 8] [4] []
def gCF_2 (g:Nat):IC:=.seq (gCF_3 g) .ret
def gCF_0 (g:Nat):IC:=.seq (gCF_1 g) (gCF_2 g)
def gCFR:List R:=[.t 4]
@[push_cast]def gCF_1e (g:Nat):=aWu (gCF_1.eq_1 g)
@[push_cast]def gCF_3e (g:Nat):=aWu (gCF_3.eq_1 g)
@[push_cast]def gCF_2e (g:Nat):=aWu (gCF_2.eq_1 g)
@[push_cast]def gCF_0e (g:Nat):=aWu (gCF_0.eq_1 g)
def gIX_1 (e:Nat):IC:=.ops [o1 4 (.mv (ci 0))] [0,1] []
def gIX_4 (e:Nat):IC:=.ops [m1 6 0,o1 7 (.lenL (.t 6)),o1 8 (.mv (ci 0))] [0,1,7,8] []
def gIX_8 (e:Nat):IC:=.ops [o1 9 (.bin .lss (.t 8) (.t 7))] [0,1,7,8,9] []
def gIX_10 (e:Nat):IC:=.cond (.t 9) .skip (.exit 0)
def gIX_14 (e:Nat):IC:=.ops [m1 10 8,m1 5 10] [0,1,5,7,8] []
def gIX_16 (e:Nat):IC:=.ops [m1 11 1,m1 12 0,m1 13 5,o1 14 (.iaddr (.t 12) (.t 13) e 1),o1 15 (.load (.t 14) 1 false),o1 16 (.bin .eql (.t 11) (.t 15))] [0,1,5,7,8,16] []
def gIX_19 (e:Nat):IC:=.ops [m1 17 5,m1 4 17] [4] []
def gIX_18 (e:Nat):IC:=.seq (gIX_19 e) .ret
def gIX_17 (e:Nat):IC:=.cond (.t 16) (gIX_18 e) .skip
def gIX_15 (e:Nat):IC:=.seq (gIX_16 e) (gIX_17 e)
def gIX_13 (e:Nat):IC:=.seq (gIX_14 e) (gIX_15 e)
def gIX_12 (e:Nat):IC:=.block 1 (gIX_13 e)
def gIX_20 (e:Nat):IC:=.ops [o1 18 (.bin .add (.t 8) (ci 1)),m1 8 18] [0,1,7,8] []
def gIX_11 (e:Nat):IC:=.seq (gIX_12 e) (gIX_20 e)
def gIX_9 (e:Nat):IC:=.seq (gIX_10 e) (gIX_11 e)
def gIX_7 (e:Nat):IC:=.seq (gIX_8 e) (gIX_9 e)
def gIX_6 (e:Nat):IC:=.loop (gIX_7 e)
def gIX_5 (e:Nat):IC:=.block 0 (gIX_6 e)
def gIX_3 (e:Nat):IC:=.seq (gIX_4 e) (gIX_5 e)
def gIX_22 (e:Nat):IC:=.ops [o1 4 (.mv (ci (-1)))] [4] []
def gIX_21 (e:Nat):IC:=.seq (gIX_22 e) .ret
def gIX_2 (e:Nat):IC:=.seq (gIX_3 e) (gIX_21 e)
def gIX_0 (e:Nat):IC:=.seq (gIX_1 e) (gIX_2 e)
def gIXR:List R:=[.t 4]
@[push_cast]def gIX_1e (e:Nat):=aWu (gIX_1.eq_1 e)
@[push_cast]def gIX_4e (e:Nat):=aWu (gIX_4.eq_1 e)
@[push_cast]def gIX_8e (e:Nat):=aWu (gIX_8.eq_1 e)
@[push_cast]def gIX_10e (e:Nat):=aWu (gIX_10.eq_1 e)
@[push_cast]def gIX_14e (e:Nat):=aWu (gIX_14.eq_1 e)
@[push_cast]def gIX_16e (e:Nat):=aWu (gIX_16.eq_1 e)
@[push_cast]def gIX_19e (e:Nat):=aWu (gIX_19.eq_1 e)
@[push_cast]def gIX_18e (e:Nat):=aWu (gIX_18.eq_1 e)
@[push_cast]def gIX_17e (e:Nat):=aWu (gIX_17.eq_1 e)
@[push_cast]def gIX_15e (e:Nat):=aWu (gIX_15.eq_1 e)
@[push_cast]def gIX_13e (e:Nat):=aWu (gIX_13.eq_1 e)
@[push_cast]def gIX_12e (e:Nat):=aWu (gIX_12.eq_1 e)
@[push_cast]def gIX_20e (e:Nat):=aWu (gIX_20.eq_1 e)
@[push_cast]def gIX_11e (e:Nat):=aWu (gIX_11.eq_1 e)
@[push_cast]def gIX_9e (e:Nat):=aWu (gIX_9.eq_1 e)
@[push_cast]def gIX_7e (e:Nat):=aWu (gIX_7.eq_1 e)
@[push_cast]def gIX_6e (e:Nat):=aWu (gIX_6.eq_1 e)
@[push_cast]def gIX_5e (e:Nat):=aWu (gIX_5.eq_1 e)
@[push_cast]def gIX_3e (e:Nat):=aWu (gIX_3.eq_1 e)
@[push_cast]def gIX_22e (e:Nat):=aWu (gIX_22.eq_1 e)
@[push_cast]def gIX_21e (e:Nat):=aWu (gIX_21.eq_1 e)
@[push_cast]def gIX_2e (e:Nat):=aWu (gIX_2.eq_1 e)
@[push_cast]def gIX_0e (e:Nat):=aWu (gIX_0.eq_1 e)
def gCO_1 (g:Nat):IC:=.ops [o1 4 (.mv (.c (.b false)))] [0,1] []
def gCO_3 (g:Nat):IC:=.ops [m1 5 0,m1 6 1,o1 7 (.call g [(.t 5),(.t 6)]),o1 8 (.bin .geq (.t 7) (ci 0)),m1 4 8] [4] []
def gCO_2 (g:Nat):IC:=.seq (gCO_3 g) .ret
def gCO_0 (g:Nat):IC:=.seq (gCO_1 g) (gCO_2 g)
def gCOR:List R:=[.t 4]
@[push_cast]def gCO_1e (g:Nat):=aWu (gCO_1.eq_1 g)
@[push_cast]def gCO_3e (g:Nat):=aWu (gCO_3.eq_1 g)
@[push_cast]def gCO_2e (g:Nat):=aWu (gCO_2.eq_1 g)
@[push_cast]def gCO_0e (g:Nat):=aWu (gCO_0.eq_1 g)
end Go.Ir
namespace Go.Ir
open Go.Proofs
variable {P : Program} (W0 : World) {α : Type}
def idxI (p:α->Bool):List α->Int
 | []=>-1
 | x::xs=>bif p x then 0 else if idxI p xs<0 then -1 else idxI p xs+1
theorem idxI_ge (p:α->Bool):∀xs,decide (idxI p xs>=0)=xs.any p
 | []=>by simp [idxI]
 | x::xs=>by
  have ih:=idxI_ge p xs
  rw [List.any_cons,<-ih]
  rcases Bool.eq_false_or_eq_true (p x) with hp|hp
  ·simp [idxI,hp]
  ·simp only [idxI,hp,cond_false,Bool.false_or]
   by_cases h:idxI p xs<0
   ·rw [if_pos h];simp;omega
   ·rw [if_neg h];simp;omega
theorem idxI_lo (p:α->Bool):∀xs,-1<=idxI p xs
 | []=>by simp [idxI]
 | x::xs=>by
  have ih:=idxI_lo p xs
  simp only [idxI]
  cases p x<;>simp
  split<;>omega
def ElOk (ag:Bool) (sz:Nat) (v:V):Prop:=(cells v).length=sz/\sub v 0 sz ag=some v
theorem elOk_agg {sz:Nat} {cs:List V} (h:cs.length=sz):ElOk true sz (.agg cs):=by
 subst h;simp [ElOk,cells,sub,reagg]
theorem ElOk.get {ag:Bool} {sz:Nat} {v:V} (h:ElOk ag sz v):(if ag=true then some (V.agg (cells v)) else (cells v)[0]?)=some v:=by
 have:=h.2
 unfold sub at this
 simpa [h.1,reagg] using this
theorem elOk_one {v:V} (h:cells v=[v]):ElOk false 1 v:=by simp [ElOk,h,sub]
theorem indexFunc_ret {f e sz:Nat} {ag:Bool} (hck:okFn P f 19 (gIF_0 e sz ag) gIFR=true) (enc:α->V) (xs:List α) (p:α->Bool) (g:FuncId) (first caps:List V) (σ:Sto)
  (hc:∀x∈xs,ElOk ag sz (enc x)) (hg:∀x∈xs,RetS P W0 g (first++[enc x]++caps) σ (.b (p x)) σ) (hlen:xs.length<2^62) :
  RetS P W0 f [.sl (xs.map enc),.fn g first caps] σ (.i .i64 (idxI p xs)) σ:=by
 generalize hS:idxI p xs=S
 refine fn_retW (vs:=[.i .i64 S]) hck (by simp) (fun _ h=>h) fun n0 hn0=>?_
 simp only [push_cast,seval,reduceEqDiff]
 intro _ _
 refine aWP_loopW xs.length (Inv:=fun m st=>∃done rest n,xs=done++rest/\m=rest.length/\(if idxI p rest<0 then -1 else idxI p rest+done.length)=S/\st=⟨[(0,.sl (xs.map enc)),(1,.fn g first caps),(7,.i .i64 xs.length),(8,.i .i64 done.length)],σ,n⟩) ⟨_,StLe.refl,[],_,_,rfl,rfl,?_,rfl⟩ ?_
 ·have:=idxI_lo p xs
  rw [<-hS];simp;omega
 clear hS
 rintro m _ ⟨done,rest,n,hz,rfl,hd,rfl⟩
 cases rest with
 | nil=>
  simp only [push_cast,seval,reduceEqDiff,hz]
  intro _ _
  refine finW_retS ?_ (fun _ _ h=>h)
  rw [<-hd];simp [idxI,get]
 | cons x rest=>
  have hb:=zip_bd hz
  have hx:x∈xs:=by rw [hz];simp
  have h1:=(hc x hx).1
  have h2:=(hc x hx).get
  simp only [push_cast,seval,reduceEqDiff,hz,h1,h2,wrap_zip x (done:=done) (by omega)]
  intro _ _
  refine c_calls (σi:=σ) (σo:=σ) (hg x hx) (fun _ _ h=>h) ?_
  rw [over_self]
  simp only [push_cast,seval,reduceEqDiff,hz,h1,h2,wrap_zip x (done:=done) (by omega)]
  intro _
  ((first|apply condU_s|apply gdU_t|apply gdU_f)<;>intro hp)<;>simp only [push_cast,seval,reduceEqDiff,hp,hz,h1,h2,wrap_zip x (done:=done) (by omega)]
  ·intro _
   refine finW_retS ?_ (fun _ _ h=>h)
   rw [<-hd]
   simp [idxI,hp,get]
  ·intro _
   refine ⟨_,_,Nat.lt_succ_self _,StLe.refl,done++[x],rest,_,by simp [hz],rfl,?_,rfl⟩
   rw [<-hd]
   have hlo:=idxI_lo p rest
   simp only [idxI,hp,cond_false]
   by_cases h:idxI p rest<0
   ·simp [h]
   ·simp [h];rw [if_neg (by omega)];omega
theorem containsFunc_ret {f f':Nat} (hck:okFn P f 9 (gCF_0 f') gCFR=true) (v w:V) (i:Int) (σ:Sto) (h:RetS P W0 f' [v,w] σ (.i .i64 i) σ):RetS P W0 f [v,w] σ (.b (decide (i>=0))) σ:=by
 refine fn_retW (vs:=[.b (decide (i>=0))]) hck (by simp) (fun _ h=>h) fun n0 hn0=>?_
 simp only [push_cast,seval,reduceEqDiff]
 intro _
 refine c_calls (σi:=σ) (σo:=σ) h (fun _ _ h=>h) ?_
 rw [over_self]
 simp only [push_cast,seval,reduceEqDiff]
 intro _
 exact finW_retS (by simp [get]) (fun _ _ h=>h)
theorem lk_fresh {n d:Nat} {e x:Ent} {id:Id} {σ:Sto} (hn:id.1<n) (h:lk σ id=some e):lk (((n,d),x)::σ) id=some e:=by
 simp only [lk]
 rw [if_neg (by rintro rfl;simp at hn)]
 exact h
theorem indexS_ret {f e:Nat} (hck:okFn P f 19 (gIX_0 e) gIXR=true) (xs:List Bytes) (v:Bytes) (hlen:xs.length<2^62):RetS P W0 f [.sl (xs.map V.s),.s v] [] (.i .i64 (idxI (fun x=>v == x) xs)) []:=by
 generalize hS:idxI (fun x=>v == x) xs=S
 refine fn_retW (vs:=[.i .i64 S]) hck (by simp) (by simp) fun n0 hn0=>?_
 simp only [push_cast,seval,reduceEqDiff]
 intro _ _
 refine aWP_loopW xs.length (Inv:=fun m st=>∃done rest n,xs=done++rest/\m=rest.length/\(if idxI (fun x=>v == x) rest<0 then -1 else idxI (fun x=>v == x) rest+done.length)=S/\st=⟨[(0,.sl (xs.map V.s)),(1,.s v),(7,.i .i64 xs.length),(8,.i .i64 done.length)],[],n⟩) ⟨_,StLe.refl,[],_,_,rfl,rfl,?_,rfl⟩ ?_
 ·have:=idxI_lo (fun x=>v == x) xs
  rw [<-hS];simp;omega
 clear hS
 rintro m _ ⟨done,rest,n,hz,rfl,hd,rfl⟩
 cases rest with
 | nil=>
  simp only [push_cast,seval,reduceEqDiff,hz]
  intro _ _
  refine finW_ret ?_
  rw [<-hd];simp [idxI,get]
 | cons x rest=>
  have hb:=zip_bd hz
  simp only [push_cast,seval,reduceEqDiff,hz,wrap_zip x (done:=done) (by omega)]
  intro _ _ _
  ((first|apply condU_s|apply gdU_t|apply gdU_f)<;>intro hp)<;>simp only [push_cast,seval,reduceEqDiff,hp,hz,wrap_zip x (done:=done) (by omega)]
  ·intro _
   refine finW_ret ?_
   rw [<-hd]
   simp [idxI,hp,get]
  ·intro _
   refine ⟨_,_,Nat.lt_succ_self _,StLe.refl,done++[x],rest,_,by simp [hz],rfl,?_,rfl⟩
   rw [<-hd]
   have hlo:=idxI_lo (fun x=>v == x) rest
   simp only [idxI,hp,cond_false]
   by_cases h:idxI (fun x=>v == x) rest<0
   ·simp [h]
   ·simp [h];rw [if_neg (by omega)];omega
theorem indexI_ret {f e:Nat} (hck:okFn P f 19 (gIX_0 e) gIXR=true) (xs:List Int) (v:Int) (hlen:xs.length<2^62):RetS P W0 f [.sl (xs.map (V.i .i64)),.i .i64 v] [] (.i .i64 (idxI (fun x=>v == x) xs)) []:=by
 generalize hS:idxI (fun x=>v == x) xs=S
 refine fn_retW (vs:=[.i .i64 S]) hck (by simp) (by simp) fun n0 hn0=>?_
 simp only [push_cast,seval,reduceEqDiff]
 intro _ _
 refine aWP_loopW xs.length (Inv:=fun m st=>∃done rest n,xs=done++rest/\m=rest.length/\(if idxI (fun x=>v == x) rest<0 then -1 else idxI (fun x=>v == x) rest+done.length)=S/\st=⟨[(0,.sl (xs.map (V.i .i64))),(1,.i .i64 v),(7,.i .i64 xs.length),(8,.i .i64 done.length)],[],n⟩) ⟨_,StLe.refl,[],_,_,rfl,rfl,?_,rfl⟩ ?_
 ·have:=idxI_lo (fun x=>v == x) xs
  rw [<-hS];simp;omega
 clear hS
 rintro m _ ⟨done,rest,n,hz,rfl,hd,rfl⟩
 cases rest with
 | nil=>
  simp only [push_cast,seval,reduceEqDiff,hz]
  intro _ _
  refine finW_ret ?_
  rw [<-hd];simp [idxI,get]
 | cons x rest=>
  have hb:=zip_bd hz
  simp only [push_cast,seval,reduceEqDiff,hz,wrap_zip x (done:=done) (by omega)]
  intro _ _ _
  ((first|apply condU_s|apply gdU_t|apply gdU_f)<;>intro hp)<;>simp only [push_cast,seval,reduceEqDiff,hp,hz,wrap_zip x (done:=done) (by omega)]
  ·intro _
   refine finW_ret ?_
   rw [<-hd]
   simp [idxI,hp,get]
  ·intro _
   refine ⟨_,_,Nat.lt_succ_self _,StLe.refl,done++[x],rest,_,by simp [hz],rfl,?_,rfl⟩
   rw [<-hd]
   have hlo:=idxI_lo (fun x=>v == x) rest
   simp only [idxI,hp,cond_false]
   by_cases h:idxI (fun x=>v == x) rest<0
   ·simp [h]
   ·simp [h];rw [if_neg (by omega)];omega
theorem containsS_ret {f f':Nat} (hck:okFn P f 9 (gCO_0 f') gCOR=true) (v w:V) (i:Int) (h:RetS P W0 f' [v,w] [] (.i .i64 i) []):RetS P W0 f [v,w] [] (.b (decide (i>=0))) []:=by
 refine fn_retW (vs:=[.b (decide (i>=0))]) hck (by simp) (by simp) fun n0 hn0=>?_
 simp only [push_cast,seval,reduceEqDiff]
 repeat' (first|(((first|apply condU_s|apply gdU_t|apply gdU_f)<;>intro _h)<;>(simp only [push_cast,seval,reduceEqDiff,_h];try (have _g:=_h;simp at _g)))|(refine c_call (by exact h) ?_;simp only [push_cast,seval,reduceEqDiff])|intro _)
 all_goals (first|(refine finW_ret ?_;simp [get]<;>(intros;omega);done)|(refine finW_rets ?_;simp [push_cast,get];done)|skip)
end Go.Ir
section
namespace Go.Ir
open Go.Proofs
variable {P : Program} (W0 : World) {α : Type}
theorem indexFuncA_ret {f e sz:Nat} {ag:Bool} (hck:okFn P f 19 (gIF_0 e sz ag) gIFR=true) (enc:α->V) (xs:List α) (p:α->Bool) (g:FuncId) (first caps:List V) (σ:Sto) (id:Id) (e':Nat) (hid:lk σ id=some (.arr e' sz (xs.map enc)))
  (hc:∀x∈xs,ElOk ag sz (enc x)) (hg:∀x∈xs,RetS P W0 g (first++[enc x]++caps) σ (.b (p x)) σ) (hlen:xs.length<2^62) :
  RetS P W0 f [.arr id,.fn g first caps] σ (.i .i64 (idxI p xs)) σ:=by
 generalize hS:idxI p xs=S
 refine fn_retW (vs:=[.i .i64 S]) hck (by simp) (fun _ h=>h) fun n0 hn0=>?_
 simp only [push_cast,seval,reduceEqDiff,hid]
 intro _ _
 refine aWP_loopW xs.length (Inv:=fun m st=>∃done rest n,xs=done++rest/\m=rest.length/\(if idxI p rest<0 then -1 else idxI p rest+done.length)=S/\st=⟨[(0,.arr id),(1,.fn g first caps),(7,.i .i64 xs.length),(8,.i .i64 done.length)],σ,n⟩) ⟨_,StLe.refl,[],_,_,rfl,rfl,?_,rfl⟩ ?_
 ·have:=idxI_lo p xs
  rw [<-hS];simp;omega
 clear hS
 rintro m _ ⟨done,rest,n,hz,rfl,hd,rfl⟩
 cases rest with
 | nil=>
  simp only [push_cast,seval,reduceEqDiff,hz]
  intro _ _
  refine finW_retS ?_ (fun _ _ h=>h)
  rw [<-hd];simp [idxI,get]
 | cons x rest=>
  have hb:=zip_bd hz
  have hx:x∈xs:=by rw [hz];simp
  have h1:=(hc x hx).1
  have h2:=(hc x hx).get
  have hlt:done.length<(done++x::rest).length:=by simp
  rw [hz] at hid
  simp only [push_cast,seval,reduceEqDiff,hz,h1,h2,hid,wrap_zip x (done:=done) (by omega),if_pos hlt]
  intro _ _
  refine c_calls (σi:=σ) (σo:=σ) (hg x hx) (fun _ _ h=>h) ?_
  rw [over_self]
  simp only [push_cast,seval,reduceEqDiff,hz,h1,h2,hid,wrap_zip x (done:=done) (by omega),if_pos hlt]
  intro _
  ((first|apply condU_s|apply gdU_t|apply gdU_f)<;>intro hp)<;>simp only [push_cast,seval,reduceEqDiff,hp,hz,h1,h2,hid,wrap_zip x (done:=done) (by omega),if_pos hlt]
  ·intro _
   refine finW_retS ?_ (fun _ _ h=>h)
   rw [<-hd]
   simp [idxI,hp,get]
  ·intro _
   refine ⟨_,_,Nat.lt_succ_self _,StLe.refl,done++[x],rest,_,by simp [hz],rfl,?_,rfl⟩
   rw [<-hd]
   have hlo:=idxI_lo p rest
   simp only [idxI,hp,cond_false]
   by_cases h:idxI p rest<0
   ·simp [h]
   ·simp [h];rw [if_neg (by omega)];omega
theorem indexSA_ret {f e:Nat} (hck:okFn P f 19 (gIX_0 e) gIXR=true) (xs:List Bytes) (v:Bytes) (id:Id) (e':Nat) (hlen:xs.length<2^62):RetS P W0 f [.arr id,.s v] [(id,.arr e' 1 (xs.map V.s))] (.i .i64 (idxI (fun x=>v == x) xs)) [(id,.arr e' 1 (xs.map V.s))]:=by
 generalize hS:idxI (fun x=>v == x) xs=S
 refine fn_retW (vs:=[.i .i64 S]) hck (by simp) (fun _ h=>h) fun n0 hn0=>?_
 simp only [push_cast,seval,reduceEqDiff]
 intro _ _
 refine aWP_loopW xs.length (Inv:=fun m st=>∃done rest n,xs=done++rest/\m=rest.length/\(if idxI (fun x=>v == x) rest<0 then -1 else idxI (fun x=>v == x) rest+done.length)=S/\st=⟨[(0,.arr id),(1,.s v),(7,.i .i64 xs.length),(8,.i .i64 done.length)],[(id,.arr e' 1 (xs.map V.s))],n⟩) ⟨_,StLe.refl,[],_,_,rfl,rfl,?_,rfl⟩ ?_
 ·have:=idxI_lo (fun x=>v == x) xs
  rw [<-hS];simp;omega
 clear hS
 rintro m _ ⟨done,rest,n,hz,rfl,hd,rfl⟩
 cases rest with
 | nil=>
  simp only [push_cast,seval,reduceEqDiff,hz]
  intro _ _
  refine finW_retS ?_ (fun _ _ h=>h)
  rw [<-hd];simp [idxI,get]
 | cons x rest=>
  have hb:=zip_bd hz
  have hlt:done.length<(done++x::rest).length:=by simp
  simp only [push_cast,seval,reduceEqDiff,hz,wrap_zip x (done:=done) (by omega),if_pos hlt]
  intro _ _ _
  ((first|apply condU_s|apply gdU_t|apply gdU_f)<;>intro hp)<;>simp only [push_cast,seval,reduceEqDiff,hp,hz,wrap_zip x (done:=done) (by omega),if_pos hlt]
  ·intro _
   refine finW_retS ?_ (fun _ _ h=>h)
   rw [<-hd]
   simp [idxI,hp,get]
  ·intro _
   refine ⟨_,_,Nat.lt_succ_self _,StLe.refl,done++[x],rest,_,by simp [hz],rfl,?_,rfl⟩
   rw [<-hd]
   have hlo:=idxI_lo (fun x=>v == x) rest
   simp only [idxI,hp,cond_false]
   by_cases h:idxI (fun x=>v == x) rest<0
   ·simp [h]
   ·simp [h];rw [if_neg (by omega)];omega
theorem indexFuncN_ret {f e sz:Nat} {ag:Bool} (hck:okFn P f 19 (gIF_0 e sz ag) gIFR=true) (g:FuncId) (first caps:List V) (σ:Sto):RetS P W0 f [.nil,.fn g first caps] σ (.i .i64 (-1)) σ:=by
 refine fn_retW (vs:=[.i .i64 (-1)]) hck (by simp) (fun _ h=>h) fun n0 hn0=>?_
 simp only [push_cast,seval,reduceEqDiff]
 intro _ _
 refine aWP_loopW 0 (Inv:=fun m st=>∃n,st=⟨[(0,.nil),(1,.fn g first caps),(7,.i .i64 0),(8,.i .i64 0)],σ,n⟩) ⟨_,StLe.refl,_,rfl⟩ ?_
 rintro m _ ⟨n,rfl⟩
 simp only [push_cast,seval,reduceEqDiff,show (decide False)=false from rfl]
 intro _ _
 exact finW_retS (by simp [get]) (fun _ _ h=>h)
theorem indexN_ret {f e:Nat} (hck:okFn P f 19 (gIX_0 e) gIXR=true) (v:Bytes):RetS P W0 f [.nil,.s v] [] (.i .i64 (-1)) []:=by
 refine fn_retW (vs:=[.i .i64 (-1)]) hck (by simp) (by simp) fun n0 hn0=>?_
 simp only [push_cast,seval,reduceEqDiff]
 intro _ _
 refine aWP_loopW 0 (Inv:=fun m st=>∃n,st=⟨[(0,.nil),(1,.s v),(7,.i .i64 0),(8,.i .i64 0)],[],n⟩) ⟨_,StLe.refl,_,rfl⟩ ?_
 rintro m _ ⟨n,rfl⟩
 simp only [push_cast,seval,reduceEqDiff,show (decide False)=false from rfl]
 intro _ _
 exact finW_ret (by simp [get])
section
variable {P : Program} {W0 : World} {nt n : Nat} {Q : Exit → St → Prop} {env : Env} {σ : Sto}
@[push_cast] def gCAr0 (g:Nat):List I:=[⟨some 4,.mv (.c (.b false)),none,[]⟩]
def gCA_1 (g:Nat):IC:=.ops (gCAr0 g) [0,1] []
@[push_cast] theorem gCA_1e {g:Nat}:aW P W0 nt (gCA_1 g) Q ⟨env,σ,n⟩=J P W0 n [0,1] Q (gCAr0 g) env σ:=rfl
@[push_cast] def gCAr1 (g:Nat):List I:=[⟨some 5,.mv (.t 0),none,[]⟩,
 ⟨some 6,.mv (.t 1),none,[]⟩,
 ⟨some 7,.calls g [(.t 5),(.t 6)],none,[]⟩,
 ⟨some 8,.bin .geq (.t 7) (.c (.i .i64 0)),none,[]⟩,
 ⟨some 4,.mv (.t 8),none,[]⟩]
def gCA_3 (g:Nat):IC:=.ops (gCAr1 g) [4] []
@[push_cast] theorem gCA_3e {g:Nat}:aW P W0 nt (gCA_3 g) Q ⟨env,σ,n⟩=J P W0 n [4] Q (gCAr1 g) env σ:=rfl
def gCA_2 (g:Nat):IC:=.seq (gCA_3 g) .ret
@[push_cast] theorem gCA_2e {g:Nat}:aW P W0 nt (gCA_2 g) Q ⟨env,σ,n⟩=aW P W0 nt (gCA_3 g) (ThenW P W0 nt .ret Q) ⟨env,σ,n⟩:=rfl
def gCA_0 (g:Nat):IC:=.seq (gCA_1 g) (gCA_2 g)
@[push_cast] theorem gCA_0e {g:Nat}:aW P W0 nt (gCA_0 g) Q ⟨env,σ,n⟩=aW P W0 nt (gCA_1 g) (ThenW P W0 nt (gCA_2 g) Q) ⟨env,σ,n⟩:=rfl
def gCAR:List R:=[.t 4]
end
theorem containsA_ret {f f':Nat} (hck:okFn P f 9 (gCA_0 f') gCAR=true) (v w:V) (i:Int) (σ:Sto) (h:RetS P W0 f' [v,w] σ (.i .i64 i) σ):RetS P W0 f [v,w] σ (.b (decide (i>=0))) σ:=by
 refine fn_retW (vs:=[.b (decide (i>=0))]) hck (by simp) (fun _ h=>h) fun n0 hn0=>?_
 simp only [push_cast,seval,reduceEqDiff]
 intro _
 refine c_calls (σi:=σ) (σo:=σ) h (fun _ _ h=>h) ?_
 rw [over_self]
 simp only [push_cast,seval,reduceEqDiff]
 intro _
 exact finW_retS (by simp [get]) (fun _ _ h=>h)
end Go.Ir
end
namespace Go.Ir
open Go.Proofs
variable {P : Program} {W0 : World} {nt n : Nat} {Q : Exit → St → Prop} {env : Env} {σ : Sto}
def f21_2:IC:=.seq (.ops [m1 3 0,o1 4 (.calls 67 [.t 3,(.c (.fn 68 [] []))]),o1 5 (.not (.t 4)),m1 2 5] [2] []) .ret
def f21_0:IC:=.seq (.ops [o1 2 (.mv (.c (.b false)))] [0] []) f21_2
@[push_cast]def f21R:List R:=[.t 2]
@[push_cast]def f21e:=aWv f21_2.eq_1<|aWu f21_0.eq_1
theorem f21ok:okFn Tryz.prog 21 6 f21_0 f21R=true:=by kernel_rfl
def f68_2:IC:=.seq (.ops [o1 3 (.load (.t 1) 6 true),o1 4 (.call 69 [.t 3]),o1 5 (.not (.t 4)),m1 2 5] [2] []) .ret
def f68_0:IC:=.seq (.ops [o1 1 (.box (.t 0)),o1 2 (.mv (.c (.b false)))] [1] []) f68_2
@[push_cast]def f68R:List R:=[.t 2]
@[push_cast]def f68e:=aWv f68_2.eq_1<|aWu f68_0.eq_1
theorem f68ok:okFn Tryz.prog 68 6 f68_0 f68R=true:=by kernel_rfl
def f69_2:IC:=.seq (.ops [o1 3 (.faddr (.t 1) 0),o1 4 (.load (.t 3) 1 false),o1 5 (.call 62 [.t 4]),o1 6 (.not (.t 5)),m1 7 6,⟨some 8,.faddr (.t 1) 5,some (7,true),[]⟩,⟨some 9,.load (.t 8) 1 false,some (7,true),[]⟩,⟨some 10,.call 21 [.t 9],some (7,true),[]⟩,o1 11 (.pick (.t 7) (.t 10) (.c (.b false))),m1 12 11,⟨some 13,.faddr (.t 1) 4,some (12,true),[]⟩,⟨some 14,.load (.t 13) 1 false,some (12,true),[]⟩,⟨some 15,.calls 134 [.t 14,(.c (.fn 135 [] []))],some (12,true),[]⟩,⟨some 16,.not (.t 15),some (12,true),[]⟩,o1 17 (.pick (.t 12) (.t 16) (.c (.b false))),m1 2 17] [2] []) .ret
def f69_0:IC:=.seq (.ops [o1 1 (.box (.t 0)),o1 2 (.mv (.c (.b false)))] [1] []) f69_2
@[push_cast]def f69R:List R:=[.t 2]
@[push_cast]def f69e:=aWv f69_2.eq_1<|aWu f69_0.eq_1
theorem f69ok:okFn Tryz.prog 69 18 f69_0 f69R=true:=by kernel_rfl
def f135_2:IC:=.seq (.ops [o1 3 (.faddr (.t 1) 1),o1 4 (.load (.t 3) 1 false),o1 5 (.call 21 [.t 4]),o1 6 (.not (.t 5)),m1 2 6] [2] []) .ret
def f135_0:IC:=.seq (.ops [o1 1 (.box (.t 0)),o1 2 (.mv (.c (.b false)))] [1] []) f135_2
@[push_cast]def f135R:List R:=[.t 2]
@[push_cast]def f135e:=aWv f135_2.eq_1<|aWu f135_0.eq_1
theorem f135ok:okFn Tryz.prog 135 7 f135_0 f135R=true:=by kernel_rfl
def f36_35:IC:=.seq (.block 3 (.seq (.ops [o1 78 (.faddr (.t 6) 4),o1 79 (.load (.t 78) 1 false),m1 80 8,o1 81 (.iaddr (.t 79) (.t 80) 97 2),o1 82 (.faddr (.t 81) 0),o1 83 (.load (.t 82) 1 false),o1 84 (.faddr (.t 7) 4),o1 85 (.load (.t 84) 1 false),m1 86 8,o1 87 (.iaddr (.t 85) (.t 86) 97 2),o1 88 (.faddr (.t 87) 0),o1 89 (.load (.t 88) 1 false),o1 90 (.bin .neq (.t 83) (.t 89)),m1 91 90,⟨some 92,.faddr (.t 6) 4,some (91,false),[]⟩,⟨some 93,.load (.t 92) 1 false,some (91,false),[]⟩,⟨some 94,.mv (.t 8),some (91,false),[]⟩,⟨some 95,.iaddr (.t 93) (.t 94) 97 2,some (91,false),[]⟩,⟨some 96,.faddr (.t 95) 1,some (91,false),[]⟩,⟨some 97,.load (.t 96) 1 false,some (91,false),[]⟩,⟨some 98,.faddr (.t 7) 4,some (91,false),[]⟩,⟨some 99,.load (.t 98) 1 false,some (91,false),[]⟩,⟨some 100,.mv (.t 8),some (91,false),[]⟩,⟨some 101,.iaddr (.t 99) (.t 100) 97 2,some (91,false),[]⟩,⟨some 102,.faddr (.t 101) 1,some (91,false),[]⟩,⟨some 103,.load (.t 102) 1 false,some (91,false),[]⟩,⟨some 104,.call 36 [.t 97,.t 103],some (91,false),[]⟩,⟨some 105,.not (.t 104),some (91,false),[]⟩,o1 106 (.pick (.t 91) (.c (.b true)) (.t 105))] [0,1,5,6,7,8,106] [[0,1],[1,3],[2,3],[3,4],[4,5],[6,7],[7,9],[8,9],[9,10],[10,11],[5,12],[11,12],[12,13],[13,14],[13,15],[14,15],[13,16],[13,17],[15,17],[16,17],[13,18],[17,18],[13,19],[18,19],[13,20],[13,21],[20,21],[13,22],[13,23],[21,23],[22,23],[13,24],[23,24],[13,25],[24,25],[13,26],[19,26],[25,26],[13,27],[26,27],[13,28],[27,28]]) (.cond (.t 106) (.seq (.ops [o1 4 (.mv (.c (.b false)))] [4] []) .ret) .skip))) (.ops [m1 76 8,o1 77 (.bin .add (.t 76) (ci 1)),m1 8 77] [0,1,5,6,7,8] [])
def f36_31:IC:=.seq (.seq (.ops [m1 71 8,o1 72 (.faddr (.t 6) 4),o1 73 (.load (.t 72) 1 false),o1 74 (.lenL (.t 73)),o1 75 (.bin .lss (.t 71) (.t 74))] [0,1,5,6,7,8,75] []) (.cond (.t 75) .skip (.exit 2))) f36_35
def f36_21:IC:=.seq (.seq (.ops [o1 28 (.faddr (.t 6) 0),o1 29 (.load (.t 28) 1 false),o1 30 (.faddr (.t 7) 0),o1 31 (.load (.t 30) 1 false),o1 32 (.bin .neq (.t 29) (.t 31)),m1 33 32,⟨some 34,.faddr (.t 6) 1,some (33,false),[]⟩,⟨some 35,.load (.t 34) 1 false,some (33,false),[]⟩,⟨some 36,.faddr (.t 7) 1,some (33,false),[]⟩,⟨some 37,.load (.t 36) 1 false,some (33,false),[]⟩,⟨some 38,.bin .neq (.t 35) (.t 37),some (33,false),[]⟩,o1 39 (.pick (.t 33) (.c (.b true)) (.t 38)),m1 40 39,⟨some 41,.faddr (.t 6) 2,some (40,false),[]⟩,⟨some 42,.load (.t 41) 1 false,some (40,false),[]⟩,⟨some 43,.faddr (.t 7) 2,some (40,false),[]⟩,⟨some 44,.load (.t 43) 1 false,some (40,false),[]⟩,⟨some 45,.bin .neq (.t 42) (.t 44),some (40,false),[]⟩,o1 46 (.pick (.t 40) (.c (.b true)) (.t 45)),m1 47 46,⟨some 48,.faddr (.t 6) 3,some (47,false),[]⟩,⟨some 49,.load (.t 48) 1 false,some (47,false),[]⟩,⟨some 50,.faddr (.t 7) 3,some (47,false),[]⟩,⟨some 51,.load (.t 50) 1 false,some (47,false),[]⟩,⟨some 52,.bin .neq (.t 49) (.t 51),some (47,false),[]⟩,o1 53 (.pick (.t 47) (.c (.b true)) (.t 52)),m1 54 53,⟨some 55,.faddr (.t 6) 4,some (54,false),[]⟩,⟨some 56,.load (.t 55) 1 false,some (54,false),[]⟩,⟨some 57,.lenL (.t 56),some (54,false),[]⟩,⟨some 58,.faddr (.t 7) 4,some (54,false),[]⟩,⟨some 59,.load (.t 58) 1 false,some (54,false),[]⟩,⟨some 60,.lenL (.t 59),some (54,false),[]⟩,⟨some 61,.bin .neq (.t 57) (.t 60),some (54,false),[]⟩,o1 62 (.pick (.t 54) (.c (.b true)) (.t 61)),m1 63 62,⟨some 64,.faddr (.t 6) 5,some (63,false),[]⟩,⟨some 65,.load (.t 64) 1 false,some (63,false),[]⟩,⟨some 66,.faddr (.t 7) 5,some (63,false),[]⟩,⟨some 67,.load (.t 66) 1 false,some (63,false),[]⟩,⟨some 68,.call 36 [.t 65,.t 67],some (63,false),[]⟩,⟨some 69,.not (.t 68),some (63,false),[]⟩,o1 70 (.pick (.t 63) (.c (.b true)) (.t 69))] [0,1,5,6,7,70] []) (.cond (.t 70) (.seq (.ops [o1 4 (.mv (.c (.b false)))] [4] []) .ret) .skip)) (.seq (.ops [o1 8 (.mv (ci 0))] [0,1,5,6,7,8] []) (.block 2 (.loop f36_31)))
def f36_17:IC:=.seq (.block 1 (.seq (.ops [m1 20 0,m1 21 5,o1 22 (.iaddr (.t 20) (.t 21) 85 6),o1 23 (.load (.t 22) 6 true),m1 24 1,m1 25 5,o1 26 (.iaddr (.t 24) (.t 25) 85 6),o1 27 (.load (.t 26) 6 true),o1 6 (.alloc (.agg [(.i .i64 0),(.s []),(.s []),(.s []),.nil,.nil])),o1 7 (.alloc (.agg [(.i .i64 0),(.s []),(.s []),(.s []),.nil,.nil])),⟨none,.store (.t 6) (.t 23) 6,none,[.t 24,.t 26]⟩,o0 (.store (.t 7) (.t 27) 6)] [0,1,5,6,7] [[0,2],[1,2],[2,3],[4,6],[5,6],[6,7],[2,10],[3,10],[8,10],[2,11],[3,11],[6,11],[7,11],[9,11],[10,11]]) f36_21)) (.ops [m1 18 5,o1 19 (.bin .add (.t 18) (ci 1)),m1 5 19] [0,1,5] [])
def f36_13:IC:=.seq (.seq (.ops [m1 14 5,m1 15 0,o1 16 (.lenL (.t 15)),o1 17 (.bin .lss (.t 14) (.t 16))] [0,1,5,17] []) (.cond (.t 17) .skip (.exit 0))) f36_17
def f36_8:IC:=.seq (.seq (.ops [o1 5 (.mv (ci 0))] [0,1,5] []) (.block 0 (.loop f36_13))) (.seq (.ops [o1 4 (.mv (.c (.b true)))] [4] []) .ret)
def f36_2:IC:=.seq (.seq (.ops [m1 9 0,o1 10 (.lenL (.t 9)),m1 11 1,o1 12 (.lenL (.t 11)),o1 13 (.bin .neq (.t 10) (.t 12))] [0,1,13] []) (.cond (.t 13) (.seq (.ops [o1 4 (.mv (.c (.b false)))] [4] []) .ret) .skip)) f36_8
def f36_0:IC:=.seq (.ops [o1 4 (.mv (.c (.b false)))] [0,1] []) f36_2
@[push_cast]def f36R:List R:=[.t 4]
@[push_cast]def f36e:=aWv f36_35.eq_1<|aWv f36_31.eq_1<|aWv f36_21.eq_1<|aWv f36_17.eq_1<|aWv f36_13.eq_1<|aWv f36_8.eq_1<|aWv f36_2.eq_1<|aWu f36_0.eq_1
theorem f36ok:okFn Tryz.prog 36 107 f36_0 f36R=true:=by kernel_rfl
def f113_24:IC:=.seq (.block 3 (.ops [m1 21 3,m1 22 0,m1 23 4,o1 24 (.iaddr (.t 22) (.t 23) 152 1),o1 25 (.load (.t 24) 1 false),m1 26 5,o1 27 (.iaddr (.t 25) (.t 26) 151 4),o1 28 (.faddr (.t 27) 3),o1 29 (.load (.t 28) 1 false),o1 30 (.lenL (.t 29)),o1 31 (.bin .add (ci 1) (.t 30)),o1 32 (.bin .add (.t 21) (.t 31)),m1 3 32] [0,3,4,5] [])) (.ops [m1 19 5,o1 20 (.bin .add (.t 19) (ci 1)),m1 5 20] [0,3,4,5] [])
def f113_20:IC:=.seq (.seq (.ops [m1 12 5,m1 13 0,m1 14 4,o1 15 (.iaddr (.t 13) (.t 14) 152 1),o1 16 (.load (.t 15) 1 false),o1 17 (.lenL (.t 16)),o1 18 (.bin .lss (.t 12) (.t 17))] [0,3,4,5,18] []) (.cond (.t 18) .skip (.exit 2))) f113_24
def f113_28:IC:=.seq (.ops [m1 33 3,o1 34 (.bin .gtr (.t 33) (ci 80))] [0,3,4,34] []) (.cond (.t 34) (.seq (.ops [o1 2 (.mv (.c (.b false)))] [2] []) .ret) .skip)
def f113_13:IC:=.seq (.block 1 (.seq (.seq (.ops [o1 5 (.mv (ci 0))] [0,3,4,5] []) (.block 2 (.loop f113_20))) f113_28)) (.ops [m1 10 4,o1 11 (.bin .add (.t 10) (ci 1)),m1 4 11] [0,3,4] [])
def f113_9:IC:=.seq (.seq (.ops [m1 6 4,m1 7 0,o1 8 (.lenL (.t 7)),o1 9 (.bin .lss (.t 6) (.t 8))] [0,3,4,9] []) (.cond (.t 9) .skip (.exit 0))) f113_13
def f113_34:IC:=.seq (.ops [m1 35 0,o1 36 (.lenL (.t 35)),o1 37 (.bin .leq (.t 36) (ci 30)),m1 2 37] [2] []) .ret
def f113_2:IC:=.seq (.ops [o1 3 (.mv (ci 0))] [0,3] []) (.seq (.seq (.ops [o1 4 (.mv (ci 0))] [0,3,4] []) (.block 0 (.loop f113_9))) f113_34)
def f113_0:IC:=.seq (.ops [o1 2 (.mv (.c (.b false)))] [0] []) f113_2
@[push_cast]def f113R:List R:=[.t 2]
@[push_cast]def f113e:=aWv f113_24.eq_1<|aWv f113_20.eq_1<|aWv f113_28.eq_1<|aWv f113_13.eq_1<|aWv f113_9.eq_1<|aWv f113_34.eq_1<|aWv f113_2.eq_1<|aWu f113_0.eq_1
theorem f113ok:okFn Tryz.prog 113 38 f113_0 f113R=true:=by kernel_rfl
def f50_11:IC:=.seq (.block 1 (.seq (.ops [m1 10 0,m1 11 3,o1 12 (.iaddr (.t 10) (.t 11) 156 2),o1 13 (.faddr (.t 12) 1),o1 14 (.load (.t 13) 1 false),o1 15 (.call 113 [.t 14]),o1 16 (.not (.t 15))] [0,3,16] []) (.cond (.t 16) (.seq (.ops [o1 2 (.mv (.c (.b false)))] [2] []) .ret) .skip))) (.ops [m1 8 3,o1 9 (.bin .add (.t 8) (ci 1)),m1 3 9] [0,3] [])
def f50_7:IC:=.seq (.seq (.ops [m1 4 3,m1 5 0,o1 6 (.lenL (.t 5)),o1 7 (.bin .lss (.t 4) (.t 6))] [0,3,7] []) (.cond (.t 7) .skip (.exit 0))) f50_11
def f50_19:IC:=.seq (.ops [m1 17 0,o1 18 (.lenL (.t 17)),o1 19 (.bin .leq (.t 18) (ci 10)),m1 2 19] [2] []) .ret
def f50_0:IC:=.seq (.ops [o1 2 (.mv (.c (.b false)))] [0] []) (.seq (.seq (.ops [o1 3 (.mv (ci 0))] [0,3] []) (.block 0 (.loop f50_7))) f50_19)
@[push_cast]def f50R:List R:=[.t 2]
@[push_cast]def f50e:=aWv f50_11.eq_1<|aWv f50_7.eq_1<|aWv f50_19.eq_1<|aWu f50_0.eq_1
theorem f50ok:okFn Tryz.prog 50 20 f50_0 f50R=true:=by kernel_rfl
def f14_2:IC:=.seq (.ops [o1 3 (.faddr (.t 1) 3),o1 4 (.load (.t 3) 1 false),o1 5 (.call 50 [.t 4]),m1 6 5,⟨some 7,.faddr (.t 1) 4,some (6,true),[]⟩,⟨some 8,.load (.t 7) 1 false,some (6,true),[]⟩,⟨some 9,.call 50 [.t 8],some (6,true),[]⟩,o1 10 (.pick (.t 6) (.t 9) (.c (.b false))),m1 2 10] [2] []) .ret
def f14_0:IC:=.seq (.ops [o1 1 (.box (.t 0)),o1 2 (.mv (.c (.b false)))] [1] []) f14_2
@[push_cast]def f14R:List R:=[.t 2]
@[push_cast]def f14e:=aWv f14_2.eq_1<|aWu f14_0.eq_1
theorem f14ok:okFn Tryz.prog 14 11 f14_0 f14R=true:=by kernel_rfl
end Go.Ir
section
namespace Go.Ir
open Go.Proofs
variable (W0 : World)
theorem elPart (p:Part):ElOk true 6 p.enc:=by rw [Part.enc_eq];exact elOk_agg rfl
theorem elCase (c:Case):ElOk true 2 c.enc:=by rw [Case.enc_eq];exact elOk_agg rfl
theorem ifPart:okFn Tryz.prog 133 19 (gIF_0 85 6 true) gIFR=true:=by kernel_rfl
theorem ifCase:okFn Tryz.prog 188 19 (gIF_0 97 2 true) gIFR=true:=by kernel_rfl
theorem cfPart:okFn Tryz.prog 67 9 (gCF_0 133) gCFR=true:=by kernel_rfl
theorem cfCase:okFn Tryz.prog 134 9 (gCF_0 188) gCFR=true:=by kernel_rfl
theorem anyPart {ps:List Part} {g:FuncId} {first caps:List V} {σ:Sto} {p:Part->Bool} (hl:ps.length<2^62) (hg:∀x∈ps,RetS Tryz.prog W0 g (first++[x.v]++caps) σ (.b (p x)) σ) :
  RetS Tryz.prog W0 67 [.sl (ps.map Part.enc),.fn g first caps] σ (.b (ps.any p)) σ:=by
 rw [<-idxI_ge]
 exact containsFunc_ret W0 cfPart _ _ _ _ (indexFunc_ret W0 ifPart Part.enc ps p g first caps σ (fun x _=>elPart x) (fun x hx=>by rw [Part.enc_eq];exact hg x hx) hl)
theorem anyCase {cs:List Case} {g:FuncId} {first caps:List V} {σ:Sto} {p:Case->Bool} (hl:cs.length<2^62) (hg:∀x∈cs,RetS Tryz.prog W0 g (first++[Case.v x]++caps) σ (.b (p x)) σ) :
  RetS Tryz.prog W0 134 [.sl (cs.map Case.enc),.fn g first caps] σ (.b (cs.any p)) σ:=by
 rw [<-idxI_ge]
 exact containsFunc_ret W0 cfCase _ _ _ _ (indexFunc_ret W0 ifCase Case.enc cs p g first caps σ (fun x _=>elCase x) (fun x hx=>by rw [Case.enc_eq];exact hg x hx) hl)
mutual
def Part.solid:Part->Bool
 | ⟨k,_,_,_,cs,ps⟩=>!selB k&&plainPs ps&&plainCs cs
def plainPs:List Part->Bool
 | []=>true
 | p::ps=>p.solid&&plainPs ps
def plainCs:List (Bytes × List Part)->Bool
 | []=>true
 | (_,ps)::cs=>plainPs ps&&plainCs cs
end
theorem Part.solid_eq (p:Part):p.solid=(!selB p.kind&&plainPs p.parts&&plainCs p.cases):=by cases p;simp only [Part.solid]
theorem plainPs_cons (p:Part) (ps:List Part):plainPs (p::ps)=(p.solid&&plainPs ps):=by simp only [plainPs]
theorem plainCs_cons (c:Case) (cs:List Case):plainCs (c::cs)=(plainPs c.2&&plainCs cs):=by obtain ⟨k,q⟩:=c;simp only [plainCs]
theorem plainPs_any (ps:List Part):(!ps.any fun p=>!p.solid)=plainPs ps:=by
 induction ps with
 | nil=>rfl
 | cons p ps ih=>rw [plainPs_cons,<-ih];simp
theorem plainCs_any (cs:List Case):(!cs.any fun c=>!plainPs c.2)=plainCs cs:=by
 induction cs with
 | nil=>rfl
 | cons p ps ih=>rw [plainCs_cons,<-ih];simp
theorem c_plain:∀(N:Nat) (ps:List Part),wtPs ps<N->wtPs ps<=2^24->RetS Tryz.prog W0 21 [.sl (ps.map Part.enc)] [] (.b (plainPs ps)) []:=by
 intro N
 induction N with
 | zero=>intro ps h;omega
 | succ N ih=>
 intro ps hN hb
 have hl:=len_wtPs ps
 have case1:∀(c:Case),wtPs c.2<N->wtPs c.2<=2^24->RetS Tryz.prog W0 135 [Case.v c] [] (.b (!plainPs c.2)) []:=by
  intro c h1 h2
  unfold Case.v
  refine fn_retW (vs:=[.b (!plainPs c.2)]) f135ok (by simp) (by simp) fun n0 hn0=>?_
  clear hn0
  simp only [push_cast,seval,reduceEqDiff]
  repeat' (first|(((first|apply condU_s|apply gdU_t|apply gdU_f)<;>intro _h)<;>(simp only [push_cast,seval,reduceEqDiff,_h];try (have _g:=_h;simp at _g)))|(refine c_call (by exact ih c.2 h1 h2) ?_;simp only [push_cast,seval,reduceEqDiff])|intro _)
  all_goals (first|(refine finW_ret ?_;simp [get]<;>(intros;omega);done)|(refine finW_rets ?_;simp [push_cast,get];done)|skip)
 have solid:∀(p:Part),p.wt<=N->p.wt<=2^24->RetS Tryz.prog W0 69 [p.v] [] (.b p.solid) []:=by
  intro p h1 h2
  rw [p.wt_eq] at h1 h2
  have hlc:=len_wtCs p.cases
  have hany:RetS Tryz.prog W0 134 [.sl (p.cases.map Case.enc),.fn 135 [] []] [] (.b (p.cases.any fun c=>!plainPs c.2)) []:=
   anyCase W0 (by omega) (fun c hc=>by have:=wtCs_mem hc;exact case1 c (by omega) (by omega))
  rw [Part.solid_eq,<-plainCs_any]
  generalize hS:(!selB p.kind&&plainPs p.parts&&!p.cases.any fun c=>!plainPs c.2)=S
  unfold Part.v
  refine fn_retW (vs:=[.b S]) f69ok (by simp) (by simp) fun n0 hn0=>?_
  clear hn0
  simp only [push_cast,seval,reduceEqDiff]
  repeat' (first|(((first|apply condU_s|apply gdU_t|apply gdU_f)<;>intro _h)<;>(simp only [push_cast,seval,reduceEqDiff,_h];try (have _g:=_h;simp at _g)))|((first|refine c_call (by exact c_sSel W0 _) ?_|refine c_call (by exact ih p.parts (by omega) (by omega)) ?_);simp only [push_cast,seval,reduceEqDiff])|intro _)
  all_goals (try (refine c_callsq hany ?_;simp only [push_cast,seval,reduceEqDiff]))
  repeat' (first|(((first|apply condU_s|apply gdU_t|apply gdU_f)<;>intro _h)<;>(simp only [push_cast,seval,reduceEqDiff,_h];try (have _g:=_h;simp at _g)))|intro _)
  all_goals (first|(refine finW_ret ?_;simp [get,<-hS, *]<;>(intros;omega);done)|(refine finW_rets ?_;simp [push_cast,get,<-hS, *];done)|skip)
 have cl:∀p∈ps,RetS Tryz.prog W0 68 [p.v] [] (.b (!p.solid)) []:=by
  intro p hp
  have hw:=wtPs_mem hp
  unfold Part.v
  refine fn_retW (vs:=[.b (!p.solid)]) f68ok (by simp) (by simp) fun n0 hn0=>?_
  clear hn0
  simp only [push_cast,seval,reduceEqDiff]
  repeat' (first|(((first|apply condU_s|apply gdU_t|apply gdU_f)<;>intro _h)<;>(simp only [push_cast,seval,reduceEqDiff,_h];try (have _g:=_h;simp at _g)))|(refine c_call (by exact solid p (by omega) (by omega)) ?_;simp only [push_cast,seval,reduceEqDiff])|intro _)
  all_goals (first|(refine finW_ret ?_;simp [get]<;>(intros;omega);done)|(refine finW_rets ?_;simp [push_cast,get];done)|skip)
 rw [<-plainPs_any]
 refine fn_retW (vs:=[.b (!ps.any fun p=>!p.solid)]) f21ok (by simp) (by simp) fun n0 hn0=>?_
 clear hn0
 simp only [push_cast,seval,reduceEqDiff]
 intro _
 refine c_callsq (anyPart W0 (by omega) cl) ?_
 simp only [push_cast,seval,reduceEqDiff]
 repeat' (first|(((first|apply condU_s|apply gdU_t|apply gdU_f)<;>intro _h)<;>(simp only [push_cast,seval,reduceEqDiff,_h];try (have _g:=_h;simp at _g)))|intro _)
 all_goals (first|(refine finW_ret ?_;simp [get]<;>(intros;omega);done)|(refine finW_rets ?_;simp [push_cast,get];done)|skip)
end Go.Ir
end
section
namespace Go.Ir
open Go.Proofs
variable (W0 : World)
def rselB (n:Int):Bool:=n == 7||n == 8||n == 9
theorem rselB_eq (n:Int):rselB n=selB n:=by
 unfold rselB selB
 rw [Bool.eq_iff_iff]
 simp
 omega
theorem c_rSel (n:Int):RetS Tryz.prog W0 76 [.i .i64 n] [] (.b (selB n)) []:=by
 rw [<-rselB_eq]
 refine fn_retW (vs:=[.b (rselB n)]) f76ok (by simp) (by simp) fun n0 hn0=>?_
 clear hn0
 simp only [push_cast,seval,reduceEqDiff]
 repeat' (first|(((first|apply condU_s|apply gdU_t|apply gdU_f)<;>intro _h)<;>(simp only [push_cast,seval,reduceEqDiff,_h];try (have _g:=_h;simp at _g)))|intro _)
 all_goals (first|(refine finW_ret ?_;simp [get,rselB, *]<;>(intros;omega);done)|(refine finW_rets ?_;simp [push_cast,get,rselB, *];done)|skip)
mutual
def Part.eqB:Part->Part->Bool
 | ⟨k,t,n,s,cs,ps⟩,q=>k == q.kind&&t == q.text&&n == q.name&&s == q.style&&eqPs ps q.parts&&eqCs cs q.cases
def eqPs:List Part->List Part->Bool
 | [],[]=>true
 | p::ps,q::qs=>p.eqB q&&eqPs ps qs
 | _,_=>false
def eqCs:List (Bytes × List Part)->List Case->Bool
 | [],[]=>true
 | (k,ps)::cs,d::ds=>k == d.1&&eqPs ps d.2&&eqCs cs ds
 | _,_=>false
end
theorem Part.eqB_eq (p q:Part):p.eqB q=(p.kind == q.kind&&p.text == q.text&&p.name == q.name&&p.style == q.style&&eqPs p.parts q.parts&&eqCs p.cases q.cases):=by cases p;simp only [Part.eqB]
theorem eqPs_cons (p q:Part) (ps qs:List Part):eqPs (p::ps) (q::qs)=(p.eqB q&&eqPs ps qs):=by simp only [eqPs]
theorem eqCs_cons (c d:Case) (cs ds:List Case):eqCs (c::cs) (d::ds)=(c.1 == d.1&&eqPs c.2 d.2&&eqCs cs ds):=by obtain ⟨k,q⟩:=c;simp only [eqCs]
end Go.Ir
end
section
namespace Go.Ir
open Go.Proofs
variable (W0 : World)
mutual
def Part.depth:Part->Nat
 | ⟨_,_,_,_,cs,ps⟩=>max (max 1 (1+depthPs ps)) (depthCs cs)
def depthPs:List Part->Nat
 | []=>0
 | p::ps=>max p.depth (depthPs ps)
def depthCs:List (Bytes × List Part)->Nat
 | []=>0
 | (_,ps)::cs=>max (1+depthPs ps) (depthCs cs)
end
theorem Part.depth_eq (p:Part):p.depth=max (max 1 (1+depthPs p.parts)) (depthCs p.cases):=by cases p;simp [Part.depth]
theorem depthPs_cons (p:Part) (ps:List Part):depthPs (p::ps)=max p.depth (depthPs ps):=by simp [depthPs]
theorem depthCs_cons (c:Case) (ps:List Case):depthCs (c::ps)=max (1+depthPs c.2) (depthCs ps):=by obtain ⟨k,q⟩:=c;simp [depthCs]
theorem depth_wt:(∀p:Part,p.depth<=p.wt):=by
 have key:∀N:Nat,(∀ps:List Part,wtPs ps<N->depthPs ps<=wtPs ps):=by
  intro N
  induction N with
  | zero=>intro ps h;omega
  | succ N ih=>
   have hcs:∀cs:List Case,wtCs cs<N->depthCs cs<=wtCs cs:=by
    intro cs
    induction cs with
    | nil=>intro _;simp [depthCs]
    | cons c cs ih2=>intro h;rw [wtCs_cons] at h;rw [depthCs_cons,wtCs_cons];have:=ih c.2 (by omega);have:=ih2 (by omega);omega
   intro ps
   induction ps with
   | nil=>intro _;simp [depthPs]
   | cons p ps ih2=>
    intro h;rw [wtPs_cons] at h;rw [depthPs_cons,wtPs_cons];have:=ih2 (by omega)
    rw [p.wt_eq] at *;rw [p.depth_eq];have:=hcs p.cases (by omega);have:=ih p.parts (by omega);omega
 intro p
 have:=key _ [p] (Nat.lt_succ_self _)
 rw [depthPs_cons,wtPs_cons,wtPs_nil] at this
 omega
theorem depthPs_wt (ps:List Part):depthPs ps<=wtPs ps:=by
 induction ps with
 | nil=>simp [depthPs]
 | cons p ps ih=>rw [depthPs_cons,wtPs_cons];have:=depth_wt p;omega
theorem c_depth:∀(N:Nat) (ps:List Part),wtPs ps<N->wtPs ps<=2^24->RetS Tryz.prog W0 51 [.sl (ps.map Part.enc)] [] (.i .i64 (depthPs ps)) []:=by
 intro N
 induction N with
 | zero=>intro ps h;omega
 | succ N ih=>
 intro ps hN hb
 generalize hS:(depthPs ps:Int)=S
 refine fn_retW (vs:=[.i .i64 S]) f51ok (by simp) (by simp) fun n0 hn0=>?_
 clear hn0
 simp only [push_cast,seval,reduceEqDiff]
 intros
 have hlen:=len_wtPs ps
 refine aWP_loopW ps.length (Inv:=fun m st=>∃done rest n d,ps=done++rest/\m=rest.length/\max d (depthPs rest:Int)=S/\0<=d/\st=⟨[(0,.sl (ps.map Part.enc)),(3,.i .i64 d),(4,.i .i64 done.length)],[],n⟩) ⟨_,StLe.refl,[],ps,_,0,rfl,rfl,by rw [<-hS];omega,by omega,rfl⟩ ?_
 clear hS
 rintro m _ ⟨done,rest,n,d,hz,rfl,hd,hd0,rfl⟩
 cases rest with
 | nil=>
  rw [depthPs] at hd
  simp only [push_cast,seval,reduceEqDiff,hz]
  repeat' (first|(((first|apply condU_s|apply gdU_t|apply gdU_f)<;>intro _h)<;>(simp only [push_cast,seval,reduceEqDiff,_h];try (have _g:=_h;simp at _g)))|intro _)
  have:d=S:=by omega
  subst this
  all_goals (first|(refine finW_ret ?_;simp [get]<;>(intros;omega);done)|(refine finW_rets ?_;simp [push_cast,get];done)|skip)
 | cons p rest=>
  have hbd:=zip_bd hz
  have hw:=wtPs_mem (ps:=ps) (p:=p) (by rw [hz];simp)
  rw [p.wt_eq] at hw
  have hlc:=len_wtCs p.cases
  have hpd:=depthPs_wt p.parts
  rw [depthPs_cons,p.depth_eq] at hd
  simp only [push_cast,seval,reduceEqDiff,hz,wrap_zip p (done:=done) (by omega)]
  repeat' (first|(((first|apply condU_s|apply gdU_t|apply gdU_f)<;>intro _h)<;>(simp only [push_cast,seval,reduceEqDiff,_h,hz,wrap_zip p (done:=done) (by omega)];try (have _g:=_h;simp at _g)))|(refine c_call (by exact ih p.parts (by omega) (by omega)) ?_;simp only [push_cast,seval,reduceEqDiff,hz,wrap_zip p (done:=done) (by omega)])|intro _)
  have e1:IntKind.i64.wrap (1+(depthPs p.parts:Int))=1+(depthPs p.parts:Int):=wrap64 (by omega) (by omega)
  simp only [push_cast,seval,reduceEqDiff,hz,wrap_zip p (done:=done) (by omega),e1]
  have hd2:max (max (max (max d 1) (1+(depthPs p.parts:Int))) (depthCs p.cases)) (depthPs rest)=S:=by omega
  refine aWP_loopW p.cases.length (Inv:=fun m st=>∃cd cr n d,p.cases=cd++cr/\m=cr.length/\max (max d (depthCs cr:Int)) (depthPs rest:Int)=S/\0<=d/\st=⟨[(0,.sl (ps.map Part.enc)),(3,.i .i64 d),(4,.i .i64 done.length),(5,.i .i64 cd.length)],[],n⟩) ⟨_,StLe.refl,[],p.cases,_,_,rfl,rfl,hd2,by omega,by rw [hz];rfl⟩ ?_
  clear hd hd2 hd0 d
  rintro m _ ⟨cd,cr,n,d,hcs,rfl,hd,hd0,rfl⟩
  cases cr with
  | nil=>
   rw [depthCs] at hd
   simp only [push_cast,seval,reduceEqDiff,hz,wrap_zip p (done:=done) (by omega),hcs]
   intros
   exact ⟨_,_,Nat.lt_succ_self _,StLe.refl,done++[p],rest,_,d,by simp,rfl,by omega,hd0,rfl⟩
  | cons c cr=>
   have hwc:=wtCs_mem (cs:=p.cases) (c:=c) (by simp [hcs])
   have hcb:=zip_bd hcs
   have hcd:=depthPs_wt c.2
   rw [depthCs_cons] at hd
   have e2:IntKind.i64.wrap (1+(depthPs c.2:Int))=1+(depthPs c.2:Int):=wrap64 (by omega) (by omega)
   simp only [push_cast,seval,reduceEqDiff,hz,hcs,wrap_zip c (done:=cd) (by omega),e2]
   repeat' (first|(((first|apply condU_s|apply gdU_t|apply gdU_f)<;>intro _h)<;>(simp only [push_cast,seval,reduceEqDiff,_h,hz,hcs,wrap_zip c (done:=cd) (by omega),e2];try (have _g:=_h;simp at _g)))|(refine c_call (by exact ih c.2 (by omega) (by omega)) ?_;simp only [push_cast,seval,reduceEqDiff,hz,hcs,wrap_zip c (done:=cd) (by omega),e2])|intro _)
   exact ⟨_,_,Nat.lt_succ_self _,StLe.refl,cd++[c],cr,_,_,by simp [hcs],rfl,by omega,by omega,rfl⟩
mutual
def Part.size:Part->Nat
 | ⟨_,t,_,_,cs,ps⟩=>1+sizePs ps+t.length / 20+sizeCs cs
def sizePs:List Part->Nat
 | []=>0
 | p::ps=>p.size+sizePs ps
def sizeCs:List (Bytes × List Part)->Nat
 | []=>0
 | (_,ps)::cs=>1+sizePs ps+sizeCs cs
end
theorem Part.size_eq (p:Part):p.size=1+sizePs p.parts+p.text.length / 20+sizeCs p.cases:=by cases p;simp [Part.size]
theorem sizePs_cons (p:Part) (ps:List Part):sizePs (p::ps)=p.size+sizePs ps:=by simp [sizePs]
theorem sizeCs_cons (c:Case) (ps:List Case):sizeCs (c::ps)=1+sizePs c.2+sizeCs ps:=by obtain ⟨k,q⟩:=c;simp [sizeCs]
theorem size_wt:∀N:Nat,(∀ps:List Part,wtPs ps<N->sizePs ps<=wtPs ps):=by
 intro N
 induction N with
 | zero=>intro ps h;omega
 | succ N ih=>
  have hcs:∀cs:List Case,wtCs cs<N->sizeCs cs<=wtCs cs:=by
   intro cs
   induction cs with
   | nil=>intro _;simp [sizeCs]
   | cons c cs ih2=>intro h;rw [wtCs_cons] at h;rw [sizeCs_cons,wtCs_cons];have:=ih c.2 (by omega);have:=ih2 (by omega);omega
  intro ps
  induction ps with
  | nil=>intro _;simp [sizePs]
  | cons p ps ih2=>
   intro h;rw [wtPs_cons] at h;rw [sizePs_cons,wtPs_cons];have:=ih2 (by omega)
   rw [p.wt_eq] at *;rw [p.size_eq];have:=hcs p.cases (by omega);have:=ih p.parts (by omega);omega
theorem sizePs_wt (ps:List Part):sizePs ps<=wtPs ps:=size_wt _ ps (Nat.lt_succ_self _)
theorem c_size:∀(N:Nat) (ps:List Part),wtPs ps<N->wtPs ps<=2^24->RetS Tryz.prog W0 52 [.sl (ps.map Part.enc)] [] (.i .i64 (sizePs ps)) []:=by
 intro N
 induction N with
 | zero=>intro ps h;omega
 | succ N ih=>
 intro ps hN hb
 generalize hS:(sizePs ps:Int)=S
 refine fn_retW (vs:=[.i .i64 S]) f52ok (by simp) (by simp) fun n0 hn0=>?_
 clear hn0
 simp only [push_cast,seval,reduceEqDiff]
 intros
 have hlen:=len_wtPs ps
 have hwd:=sizePs_wt ps
 have hSb:S<=2^24:=by omega
 refine aWP_loopW ps.length (Inv:=fun m st=>∃done rest n d,ps=done++rest/\m=rest.length/\d+(sizePs rest:Int)=S/\0<=d/\st=⟨[(0,.sl (ps.map Part.enc)),(3,.i .i64 d),(4,.i .i64 done.length)],[],n⟩) ⟨_,StLe.refl,[],ps,_,0,rfl,rfl,by rw [<-hS];omega,by omega,rfl⟩ ?_
 clear hS
 rintro m _ ⟨done,rest,n,d,hz,rfl,hd,hd0,rfl⟩
 cases rest with
 | nil=>
  rw [sizePs] at hd
  simp only [push_cast,seval,reduceEqDiff,hz]
  repeat' (first|(((first|apply condU_s|apply gdU_t|apply gdU_f)<;>intro _h)<;>(simp only [push_cast,seval,reduceEqDiff,_h];try (have _g:=_h;simp at _g)))|intro _)
  have:d=S:=by omega
  subst this
  all_goals (first|(refine finW_ret ?_;simp [get]<;>(intros;omega);done)|(refine finW_rets ?_;simp [push_cast,get];done)|skip)
 | cons p rest=>
  have hbd:=zip_bd hz
  have hw:=wtPs_mem (ps:=ps) (p:=p) (by rw [hz];simp)
  rw [p.wt_eq] at hw
  have hlc:=len_wtCs p.cases
  have hpd:=sizePs_wt p.parts
  rw [sizePs_cons,p.size_eq] at hd
  simp only [push_cast,seval,reduceEqDiff,hz,wrap_zip p (done:=done) (by omega)]
  repeat' (first|(((first|apply condU_s|apply gdU_t|apply gdU_f)<;>intro _h)<;>(simp only [push_cast,seval,reduceEqDiff,_h,hz,wrap_zip p (done:=done) (by omega)];try (have _g:=_h;simp at _g)))|(refine c_call (by exact ih p.parts (by omega) (by omega)) ?_;simp only [push_cast,seval,reduceEqDiff,hz,wrap_zip p (done:=done) (by omega)])|intro _)
  have e0:IntKind.i64.wrap ((p.text.length:Int).tdiv 20)=(p.text.length:Int) / 20:=by
   rw [Int.tdiv_eq_ediv_of_nonneg (by omega),wrap64 (by omega) (by omega)]
  have e1:IntKind.i64.wrap (1+(sizePs p.parts:Int))=1+(sizePs p.parts:Int):=wrap64 (by omega) (by omega)
  have e3:IntKind.i64.wrap (1+(sizePs p.parts:Int)+(p.text.length:Int) / 20)=1+(sizePs p.parts:Int)+(p.text.length:Int) / 20:=wrap64 (by omega) (by omega)
  have e4:IntKind.i64.wrap (d+(1+(sizePs p.parts:Int)+(p.text.length:Int) / 20))=d+(1+(sizePs p.parts:Int)+(p.text.length:Int) / 20):=wrap64 (by omega) (by omega)
  simp only [push_cast,seval,reduceEqDiff,hz,wrap_zip p (done:=done) (by omega),e0,e1,e3,e4]
  have hd2:d+(1+(sizePs p.parts:Int)+(p.text.length:Int) / 20)+sizeCs p.cases+sizePs rest=S:=by omega
  refine aWP_loopW p.cases.length (Inv:=fun m st=>∃cd cr n d,p.cases=cd++cr/\m=cr.length/\d+(sizeCs cr:Int)+(sizePs rest:Int)=S/\0<=d/\st=⟨[(0,.sl (ps.map Part.enc)),(3,.i .i64 d),(4,.i .i64 done.length),(5,.i .i64 cd.length)],[],n⟩) ⟨_,StLe.refl,[],p.cases,_,_,rfl,rfl,hd2,by omega,by rw [hz];rfl⟩ ?_
  clear hd hd2 hd0 e4 d
  rintro m _ ⟨cd,cr,n,d,hcs,rfl,hd,hd0,rfl⟩
  cases cr with
  | nil=>
   rw [sizeCs] at hd
   simp only [push_cast,seval,reduceEqDiff,hz,wrap_zip p (done:=done) (by omega),hcs]
   intros
   exact ⟨_,_,Nat.lt_succ_self _,StLe.refl,done++[p],rest,_,d,by simp,rfl,by omega,hd0,rfl⟩
  | cons c cr=>
   have hwc:=wtCs_mem (cs:=p.cases) (c:=c) (by simp [hcs])
   have hcb:=zip_bd hcs
   have hcd:=sizePs_wt c.2
   rw [sizeCs_cons] at hd
   have e2:IntKind.i64.wrap (1+(sizePs c.2:Int))=1+(sizePs c.2:Int):=wrap64 (by omega) (by omega)
   have e5:IntKind.i64.wrap (d+(1+(sizePs c.2:Int)))=d+(1+(sizePs c.2:Int)):=wrap64 (by omega) (by omega)
   simp only [push_cast,seval,reduceEqDiff,hz,hcs,wrap_zip c (done:=cd) (by omega),e2,e5]
   repeat' (first|(((first|apply condU_s|apply gdU_t|apply gdU_f)<;>intro _h)<;>(simp only [push_cast,seval,reduceEqDiff,_h,hz,hcs,wrap_zip c (done:=cd) (by omega),e2,e5];try (have _g:=_h;simp at _g)))|(refine c_call (by exact ih c.2 (by omega) (by omega)) ?_;simp only [push_cast,seval,reduceEqDiff,hz,hcs,wrap_zip c (done:=cd) (by omega),e2,e5])|intro _)
   exact ⟨_,_,Nat.lt_succ_self _,StLe.refl,cd++[c],cr,_,_,by simp [hcs],rfl,by omega,by omega,rfl⟩
def fewPs (ps:List Part):Bool:=decide ((depthPs ps:Int)<=12)&&decide ((sizePs ps:Int)<=300)&&shortPs ps
theorem c_few (ps:List Part) (hb:wtPs ps<=2^24):RetS Tryz.prog W0 15 [.sl (ps.map Part.enc)] [] (.b (fewPs ps)) []:=by
 refine fn_retW (vs:=[.b (fewPs ps)]) f15ok (by simp) (by simp) fun n0 hn0=>?_
 clear hn0
 simp only [push_cast,seval,reduceEqDiff]
 repeat' (first|(((first|apply condU_s|apply gdU_t|apply gdU_f)<;>intro _h)<;>(simp only [push_cast,seval,reduceEqDiff,_h];try (have _g:=_h;simp at _g)))|((first|refine c_call (by exact c_depth W0 _ ps (Nat.lt_succ_self _) hb) ?_|refine c_call (by exact c_size W0 _ ps (Nat.lt_succ_self _) hb) ?_|refine c_call (by exact short_ret W0 _ ps (Nat.lt_succ_self _) hb) ?_);simp only [push_cast,seval,reduceEqDiff])|intro _)
 all_goals (first|(refine finW_ret ?_;simp [get,fewPs, *]<;>(intros;omega);done)|(refine finW_rets ?_;simp [push_cast,get,fewPs, *];done)|skip)
theorem c_In (l:List Bytes) (s:Bytes) (hb:l.length<=2^40):RetS Tryz.prog W0 84 [.sl (l.map V.s),.s s] [] (.b (l.contains s)) []:=by
 generalize hS:l.contains s=S
 refine fn_retW (vs:=[.b S]) f84ok (by simp) (by simp) fun n0 hn0=>?_
 clear hn0
 simp only [push_cast,seval,reduceEqDiff]
 intros
 refine aWP_loopW l.length (Inv:=fun m st=>∃done rest n,l=done++rest/\m=rest.length/\rest.contains s=S/\st=⟨[(0,.sl (l.map V.s)),(1,.s s),(5,.i .i64 done.length)],[],n⟩) ⟨_,StLe.refl,[],l,_,rfl,rfl,hS,rfl⟩ ?_
 clear hS
 rintro m _ ⟨done,rest,n,hz,rfl,hd,rfl⟩
 cases rest with
 | nil=>
  simp only [push_cast,seval,reduceEqDiff,hz]
  repeat' (first|(((first|apply condU_s|apply gdU_t|apply gdU_f)<;>intro _h)<;>(simp only [push_cast,seval,reduceEqDiff,_h];try (have _g:=_h;simp at _g)))|intro _)
  all_goals (first|(refine finW_ret ?_;simp [get,<-hd]<;>(intros;omega);done)|(refine finW_rets ?_;simp [push_cast,get,<-hd];done)|skip)
 | cons x rest=>
  have hbd:=zip_bd hz
  rw [List.contains_cons,Bool.beq_comm] at hd
  simp only [push_cast,seval,reduceEqDiff,hz,wrap_zip x (done:=done) (by omega)]
  repeat' (first|(((first|apply condU_s|apply gdU_t|apply gdU_f)<;>intro _h)<;>(simp only [push_cast,seval,reduceEqDiff,_h,hz,wrap_zip x (done:=done) (by omega)];try (have _g:=_h;simp at _g)))|intro _)
  all_goals (first|(refine finW_ret ?_;simp [get,<-hd, *];done)|skip)
  exact ⟨_,_,Nat.lt_succ_self _,StLe.refl,done++[x],rest,_,by simp,rfl,by rw [<-hd];simp [*],rfl⟩
end Go.Ir
end
