/-
  A builder of the library at this program: the check of ..
  Contracts: Valid, of the reference.
  Maps that are sets of strings, and calls over a store with ..
  Contracts: the checker of the program.
  Contracts: the checker of the program: parts.
  Contracts: the length of a message's text, of the program.
  Contracts: the length of a message's text, of the program: ..
  Contracts: Valid, of the program.
  The IR of functions of the program, printed by our own tool
  Selectors as plain Lean data: what collects them.
  Stores of which a part is a list
  Contracts: the selectors' find, of both sides.
  Selectors whose keys are owned: the names in the store, and ..
  Contracts: what collects the selectors, in the program.
  Contracts: what collects the selectors, in the program: the ..
  Contracts: the keys of a selector in their order, of both ..
  Contracts: the selectors of a message, in the program.
  Contracts: the selectors of a message, in the reference: ..
  Contracts: the selectors of a message, in the reference.
  Contracts: combinations, rules, add and Join, of both sides.
  Resolved messages as plain Lean data: the case that a key ..
  Contracts: the case that a key determines, of both sides.
  Contracts: resolve, of the program.
  Contracts: resolve, of the reference.
  Contracts: Flat, of the program.
-/
import Derived.Test.YtjhgnkpcldnmdaaGreatDoorSac
import Derived.BigCall
set_option linter.all false
set_option linter.defProp false
set_option linter.unusedSimpArgs false
set_option linter.unusedVariables false
open Nat (reduceEqDiff)
namespace Go.Ir
open Go.Proofs Go.RowKit
theorem bld_extra:Go.Proofs.Builder.Extra Tryz.prog Tryz.lays169_ren where
 sizeBuilder:=by kernel_rfl
 liesBuilder:=by kernel_rfl
 t5:=Tryz.underlying5
 a5:=Tryz.isAgg5
 z5:=Tryz.sizeOf5
 v5:=Tryz.zeroValue5
 infoByte:=by kernel_rfl
 cellsByte:=by kernel_rfl
 sizeByte:=by kernel_rfl
 neB5:=by decide
set_option maxHeartbeats 1000000 in
set_option maxRecDepth 100000 in
theorem bld_used (b:Nat) (w:World) (h0:w.cell? ⟨b,0,none⟩=some (.pointer (some ⟨b,0,none⟩))) :
  Calls Tryz.prog 176 #[.pointer (some ⟨b,0,none⟩)] w fun e w'=>e = .returned (.tuple #[])/\w'=w:=by
 obtain ⟨j,hj,_⟩:=Option.map_eq_some_iff.1 bld_extra.sizeBuilder
 go_enter Tryz.func176,Tryz.ntmps176
 go_wp2
 rw [Lib.run_neq_ptr_same w _ Tryz.underlying193 hj]
 go_wp2
 go_end0
 exact ⟨rfl,rfl⟩
set_option maxHeartbeats 1000000 in
set_option maxRecDepth 100000 in
theorem bld_fresh (b:Nat) (w:World) (h0:w.cell? ⟨b,0,none⟩=some (.pointer none)) (hsh:w.shape? b=some (195,2)) (hfz:w.frozen? ⟨b,0,none⟩=false) :
  Calls Tryz.prog 176 #[.pointer (some ⟨b,0,none⟩)] w fun e w'=>e = .returned (.tuple #[])/\w'=w.setCell ⟨b,0,none⟩ (.pointer (some ⟨b,0,none⟩)):=by
 obtain ⟨j,hj,hjs⟩:=Option.map_eq_some_iff.1 bld_extra.sizeBuilder
 go_enter Tryz.func176,Tryz.ntmps176
 go_wp2
 rw [Lib.run_to_unsafe w ⟨b,0,none⟩ Tryz.underlying193 Tryz.underlying225 hj (by rw [hjs];decide) hsh (Nat.zero_lt_succ 1)]
 simp only [Result.andThen]
 rw [Oper.upon_value]
 go_wp2
 rw [run_callFunc_extern Tryz.func192 (by kernel_rfl) (by kernel_rfl) (by kernel_rfl) (e:=Extern.AbiNoEscape.same) (by kernel_rfl),Lib.run_noEscape]
 simp only [Result.andThen]
 rw [Oper.upon_value]
 go_wp2
 rw [Lib.run_from_unsafe w ⟨b,0,none⟩ Tryz.underlying225 Tryz.underlying193 hj hsh bld_extra.liesBuilder]
 simp only [Result.andThen]
 rw [Oper.upon_value]
 go_wp2
 go_end0
 exact ⟨rfl,rfl⟩
theorem bld_check (B b:Nat) (bs:List Value) (w:World) (h:Lib.IsBuilder 195 5 B b bs w) :
  Calls Tryz.prog 176 #[.pointer (some ⟨b,0,none⟩)] w fun e w'=>e = .returned (.tuple #[])/\(Lib.BuilderAt 195 5 B b (.pointer (some ⟨b,0,none⟩)) bs w'/\Below B w w'):=by
 rcases h with h|h
 ·refine (bld_fresh b w h.cell0 h.shape h.frozen0).mono fun e w' ⟨he,hw⟩=>?_
  subst hw
  exact ⟨he,h.used _,(Below.refl B w).setCell (p:=⟨b,0,none⟩) h.1 _⟩
 ·refine (bld_used b w h.cell0).mono fun e w' ⟨he,hw⟩=>?_
  subst hw
  exact ⟨he,h,Below.refl _ _⟩
set_option maxHeartbeats 2000000 in
set_option maxRecDepth 100000 in
theorem bld_byte (B b:Nat) (bs:List Value) (c:Int) (w:World) (h:Lib.IsBuilder 195 5 B b bs w) (hlen:bs.length+1<=140737488355328) (hBw:B<=w.heap.size) :
  Calls Tryz.prog 159 #[.pointer (some ⟨b,0,none⟩),.int .u8 c] w fun e w'=>e = .returned .nilIface/\(Lib.BuilderAt 195 5 B b (.pointer (some ⟨b,0,none⟩)) (bs++[.int .u8 c]) w'/\Below B w w'):=by
 obtain ⟨i0,hi,hz0,hz1,hz2⟩:=info_parts bld_extra.infoByte
 have hcall:∀args w,(callFunc 176 args).run Tryz.prog w = .ok (.enter 176 args) w:=enters_of Tryz.func176 (by kernel_rfl) rfl
 go_enter Tryz.func159,Tryz.ntmps159
 go_wp2_with (go_at_fn 176;refine (bld_check B b bs _ h).mono ?_)
 rintro e w1 ⟨rfl,⟨hB,v,hbk,hown,hne⟩,hb1⟩
 have c0:w1.cell? ⟨b,0,none⟩=some (.pointer (some ⟨b,0,none⟩)):=by rw [Lib.cell_of_heap hbk];rfl
 have c1:w1.cell? ⟨b,1,none⟩=some v:=by rw [Lib.cell_of_heap hbk];rfl
 go_wp2_with (at_builtin;refine wpList_append_own _ rfl _ _ 189 rfl B 5 i0 (.int .u8 0) 1 1 Tryz.underlying189 hi hz0 hz1 hz2 rfl (by decide) _ _ _ rfl (hown.alloc _) ⟨w1.heap.size,0,none⟩ 1 1 [.int .u8 c] rfl rfl ?c1 ?c2 ?c3 ?c4 ?c5 ?_)
 case c1=>
  intro j u hj
  match j,hj with
  | 0,hj=>simp at hj;subst hj;simp [Addr.add]
 case c2=>intro u hu;simp at hu;subst hu;rfl
 case c3=>unfold maxLen;omega
 case c4=>omega
 case c5=>have:=hb1.size;simp;omega
 intro v' w2 hown' hgrow _
 have hlt:b<w1.heap.size:=(Array.getElem?_eq_some_iff.1 hbk).1
 have hb2:w2.heap[b]? = some (.cells #[.pointer (some ⟨b,0,none⟩),v] 195 (0,0)):=by
  rw [hgrow.block b (by simp;omega) (fun e=>hne e.symm),Lib.alloc_old w1 _ b hlt]
  exact hbk
 have d0:w2.cell? ⟨b,0,none⟩=some (.pointer (some ⟨b,0,none⟩)):=by rw [Lib.cell_of_heap hb2];rfl
 have d1:w2.cell? ⟨b,1,none⟩=some v:=by rw [Lib.cell_of_heap hb2];rfl
 have f1:w2.frozen? ⟨b,1,none⟩=false:=Lib.frozen_of_heap hb2 1
 obtain ⟨g,cap,rfl⟩:∃g cap,v' = .slice (some ⟨g,0,none⟩) (bs.length+1) cap:=by
  rcases hown'.2 with ⟨_,h0⟩|⟨g,cap,cur,hv,_⟩
  ·omega
  ·exact ⟨g,cap,hv⟩
 go_wp2
 go_ret
 exact ⟨rfl,Lib.BuilderAt.put (T:=195) (e:=5) hB hb2 (bs':=bs++[.int .u8 c]) (by simpa using hown') (by decide),((hb1.alloc (by have:=hb1.size;omega) _).grown hgrow (by have:=hb1.size;simp;omega) (fun k hk=>(hown.lt k hk).1)).setCell (p:=⟨b,1,none⟩) hB _⟩
theorem bld_string (B b:Nat) (l:List UInt8) (w:World) (h:Lib.IsBuilder 195 5 B b (Lib.byteCells l) w) (hBw:B<=w.heap.size) :
  Calls Tryz.prog 160 #[.pointer (some ⟨b,0,none⟩)] w fun e w'=>e = .returned (.string ⟨l.toArray⟩)/\Below B w w':=
 Any.Builder_String_any Tryz.lays169 bld_extra B b l w h hBw
theorem special_calls (c:UInt8) (w:World):Calls Tryz.prog 158 #[.int .u8 c.toNat] w fun e w'=>e = .returned (.bool (specB c.toNat))/\w'=w:=by
 go_enter Tryz.func158,Tryz.ntmps158
 go_wp2
 all_goals (go_ret;exact ⟨by simp [specB, *],rfl⟩)
set_option maxHeartbeats 4000000 in
set_option maxRecDepth 1000000 in
theorem esc_walk (s:Bytes) (hs:s.length<=2^26) (w:World):Calls Tryz.prog 137 #[.string ⟨s.toArray⟩] w fun e w'=>e = .returned (.string ⟨(escB s).toArray⟩)/\Below w.heap.size w w':=by
 go_enter Tryz.func137,Tryz.ntmps137
 go_wp2
 go_loopw [7] (fun i wr=>∃(done rest acc:Bytes),done++rest=s/\i = .int .i64 done.length/\Lib.IsBuilder 195 5 w.heap.size w.heap.size (Lib.byteCells acc) wr/\Below w.heap.size w wr/\acc++escB rest=escB s/\acc.length<=2*done.length) (fun i _=>s.length-(intOf i).toNat)
 case atStart=>
  refine ⟨[],s,[],rfl,rfl,Lib.fresh_isBuilder _ _ _,(Below.refl _ w).alloc (Nat.le_refl _) _,rfl,by simp⟩
 case round=>
  obtain ⟨done,rest,acc,hz,hi,hI,hbw,hacc,hal⟩:=hrel
  subst hi
  have hsl:s.length=done.length+rest.length:=by rw [<-hz];simp
  cases rest with
  | nil=>
   have hlt:decide (done.length<s.length)=false:=by simp at hsl⊢;omega
   have hlt2:¬done.length<s.length:=by simpa using hlt
   clear hsl
   go_wp2_with (go_at_call 160;refine (bld_string w.heap.size w.heap.size acc _ hI hbw.size).mono ?_)
   rintro e w1 ⟨rfl,b1⟩
   go_wp2
   go_ret
   rw [escB,List.append_nil] at hacc
   rw [<-hacc]
   exact ⟨rfl,hbw.trans b1⟩
  | cons c rest=>
   have e1:∀args w,(callFunc 158 args).run Tryz.prog w = .ok (.enter 158 args) w:=enters_of Tryz.func158 (by kernel_rfl) rfl
   have e2:∀args w,(callFunc 159 args).run Tryz.prog w = .ok (.enter 159 args) w:=enters_of Tryz.func159 (by kernel_rfl) rfl
   have hlt:decide (done.length<s.length)=true:=by simp at hsl⊢;omega
   have hlt2:done.length<s.length:=by simpa using hlt
   have hl:acc.length+2<=2^28/\done.length<2^26:=by simp at hsl;omega
   obtain ⟨hl,hld⟩:=hl
   clear hsl
   have hw1:RowKit.wrap64 ((done.length:Int)+1)=(done.length:Int)+1:=by unfold RowKit.wrap64;omega
   have hg:∀h,(⟨s.toArray⟩:ByteArray)[done.length]'h=c:=by
    subst hz
    intro h
    show (done++c::rest).toArray[done.length]=c
    simp
   go_wp2_with (go_at_call 158;refine (special_calls _ _).mono ?_)
   rintro e w1 ⟨rfl,rfl⟩
   by_cases hc:specB c.toNat=true
   ·rw [hc]
    go_wp2_with (go_at_call 159;refine (bld_byte w.heap.size w.heap.size _ 92 _ hI (by rw [Lib.byteCells_length];omega) hbw.size).mono ?_)
    rintro e w2 ⟨rfl,h2,b2⟩
    go_wp2_with (go_at_call 159;refine (bld_byte w.heap.size w.heap.size _ _ _ (.inr h2) (by simp [Lib.byteCells_length];omega) (by have:=hbw.size;have:=b2.size;omega)).mono ?_)
    rintro e w3 ⟨rfl,h3,b3⟩
    go_wp2
    go_roundw
    case rel=>
     refine ⟨done++[c],rest,acc++[92,c],by rw [<-hz];simp,?_,?_,?_,?_,?_⟩
     ·simp
     ·right;simpa [Lib.byteCells] using h3
     ·exact (hbw.trans b2).trans b3
     ·rw [<-hacc,escB,hc];simp
     ·simp;omega
    case measure=>
     simp at hlt;simp [intOf,hw1];omega
   ·have hc:specB c.toNat=false:=by simpa using hc
    rw [hc]
    go_wp2_with (go_at_call 159;refine (bld_byte w.heap.size w.heap.size _ _ _ hI (by rw [Lib.byteCells_length];omega) hbw.size).mono ?_)
    rintro e w2 ⟨rfl,h2,b2⟩
    go_wp2
    go_roundw
    case rel=>
     refine ⟨done++[c],rest,acc++[c],by rw [<-hz];simp,?_,?_,?_,?_,?_⟩
     ·simp
     ·right;simpa [Lib.byteCells] using h2
     ·exact hbw.trans b2
     ·rw [<-hacc,escB,hc];simp
     ·simp;omega
    case measure=>
     simp at hlt;simp [intOf,hw1];omega
theorem escB_len2 (s:Bytes):(escB s).length<=2*s.length:=by
 induction s with
 | nil=>simp [escB]
 | cons c s ih=>rw [escB];split<;>simp<;>omega
theorem c_tEscape (W0:World) (s:Bytes) (hs:s.length<=2^26):RetS Tryz.prog W0 137 [.s s] [] (.s (escB s)) []:=by
 refine retS_of_calls (by kernel_rfl) fun w vals hb ⟨μ,H,hv⟩=>?_
 obtain ⟨rfl,_⟩:=hv.one_s
 refine (esc_walk s hs w).mono fun e w' ⟨he,hw⟩=>?_
 refine ⟨_,he,fun _ _=>.s _ ?_,hw⟩
 have:=escB_len2 s
 unfold SLim;omega
end Go.Ir
namespace Go.Ir
open Go.Proofs
variable (W0 : World)
def validB (ps:List Part):Bool:=formedPs ps 1 false false&&decide (((namesPs ps []).length:Int)<=20)&&decide (((textPs ps).length:Int)<=4000)
theorem c_rValid (ps:List Part) (hb:wtPs ps<=2^24):RetS Tryz.prog W0 29 [.sl (ps.map Part.enc)] [] (.b (validB ps)) []:=by
 have h1:=c_rFormed W0 _ ps 1 false (Nat.lt_succ_self _) hb (by omega) (by omega)
 have h2:=c_rNames W0 _ ps [] .nil (Nat.lt_succ_self _) hb (by simp;omega) (.inl ⟨rfl,rfl⟩)
 have h3:=c_rText W0 _ ps (Nat.lt_succ_self _) hb
 generalize hS:validB ps=S
 unfold validB at hS
 generalize formedPs ps 1 false false=F at *
 refine fn_retW (vs:=[.b S]) f29ok (by simp) (by simp) fun n0 hn0=>?_
 clear hn0
 simp only [push_cast,seval,reduceEqDiff]
 repeat' (first|(((first|apply condU_s|apply gdU_t|apply gdU_f)<;>intro _h)<;>simp only [push_cast,seval,reduceEqDiff,_h])|((first|refine c_call (by exact h1) ?_|refine c_call (by exact h2) ?_|refine c_call (by exact h3) ?_);simp only [push_cast,seval,reduceEqDiff])|intro _)
 all_goals subst hS
 all_goals (first|(refine finW_ret ?_;simp [get, *]<;>(intros;omega);done)|(refine finW_rets ?_;simp [push_cast,get, *];done)|skip)
end Go.Ir
section
namespace Go.Ir
def setE (l:List Bytes):List (V × V):=l.map fun k=>(.s k,.b true)
theorem setE_len (l:List Bytes):(setE l).length=l.length:=by simp [setE]
def putN (k:Bytes) (l:List Bytes):List Bytes:=if l.contains k then l else l++[k]
theorem find_set (k:Bytes) (l:List Bytes):∀n,(l.contains k=true/\∃i,findV .str (.s k) (setE l) n=some (some (n+i,.b true))/\(setE l).modify i (fun e=>(e.1,.b true))=setE l)\/(l.contains k=false/\findV .str (.s k) (setE l) n=some none):=by
 induction l with
 | nil=>intro n;exact .inr ⟨rfl,rfl⟩
 | cons x l ih=>
  intro n
  have hu:findV .str (.s k) (setE (x::l)) n=(match keyEq .str (.s k) (.s x) with
   | some true=>some (some (n,.b true))
   | some false=>findV .str (.s k) (setE l) (n+1)
   | none=>none):=rfl
  have hk:keyEq .str (.s k) (.s x)=some (k == x):=rfl
  rw [hu,hk,List.contains_cons]
  by_cases h:k=x
  ·subst h
   refine .inl ⟨by simp,0,?_,?_⟩
   ·simp
   ·simp [setE]
  ·have hb:(k == x)=false:=by simpa using h
   rw [hb,Bool.false_or]
   rcases ih (n+1) with ⟨h1,i,h2,h3⟩|⟨h1,h2⟩
   ·refine .inl ⟨h1,i+1,?_,?_⟩
    ·simp only;rw [h2];simp;omega
    ·show (setE (x::l)).modify (i+1) _=_
     simp only [setE,List.map_cons,List.modify_succ_cons] at h3⊢
     rw [h3]
   ·exact .inr ⟨h1,by simp only;rw [h2]⟩
theorem set_cases (k:Bytes) (l:List Bytes):(l.contains k=true/\putN k l=l/\∃i,findV .str (.s k) (setE l) 0=some (some (i,.b true))/\(setE l).modify i (fun e=>(e.1,.b true))=setE l)\/(l.contains k=false/\putN k l=l++[k]/\findV .str (.s k) (setE l) 0=some none):=by
 rcases find_set k l 0 with ⟨h1,i,h2,h3⟩|⟨h1,h2⟩
 ·exact .inl ⟨h1,by unfold putN;rw [h1];rfl,i,by simpa using h2,h3⟩
 ·exact .inr ⟨h1,by unfold putN;rw [h1];rfl,h2⟩
theorem setE_snoc (k:Bytes) (l:List Bytes):setE l++[(V.s k,V.b true)]=setE (l++[k]):=by simp [setE]
theorem lk_rot {a:Id × Ent} {σ:Sto} (h:∀p∈σ,p.1≠a.1):∀i e,lk (a::σ) i=some e->lk (σ++[a]) i=some e:=by
 obtain ⟨ai,ae⟩:=a
 induction σ with
 | nil=>intro i e h;exact h
 | cons b σ ih=>
  obtain ⟨bi,be⟩:=b
  intro i e h1
  simp only [lk] at h1
  show (if bi=i then some be else lk (σ++[(ai,ae)]) i)=some e
  split at h1
  ·rename_i h2
   subst h2
   have:bi≠ai:=h (bi,be) (by simp)
   rw [if_neg this]
   exact ih (fun p hp=>h p (List.mem_cons_of_mem _ hp)) ai e (by simp [lk];exact Option.some.inj h1)
  ·rename_i h2
   split at h1
   ·rename_i h3;rw [if_pos h3];exact h1
   ·rename_i h3;rw [if_neg h3]
    exact ih (fun p hp=>h p (List.mem_cons_of_mem _ hp)) i e (by simp only [lk];rw [if_neg h2];exact h1)
theorem sub_hd {id:Id} {x:Ent} {σ:Sto}:∀i e,lk [(id,x)] i=some e->lk ((id,x)::σ) i=some e:=by
 intro i e h
 simp only [lk] at h⊢
 split at h
 ·rename_i h1;rw [if_pos h1];exact h
 ·cases h
theorem sub_2 {id:Id} {x:Ent} {a:Id × Ent} {σ:Sto} (ha:(a.1=id)=False):∀i e,lk [(id,x)] i=some e->lk (a::(id,x)::σ) i=some e:=by
 intro i e h
 obtain ⟨ai,ae⟩:=a
 simp only [lk] at h⊢
 split at h
 ·rename_i h1;subst h1;rw [if_neg (of_eq_false ha),if_pos rfl];exact h
 ·cases h
section
variable {P : Program} {W0 : World} {ep d : Nat} {live : List Nat} {Q : Exit → St → Prop} {l : List I} {env : Env} {σ : Sto}
theorem c_calls_n {f:FuncId} {vs:List V} {v:V} {id:Id} {e e':Ent} {pre:Sto} (h:RetS P W0 f vs [(id,e)] v [(id,e')]) (hne:∀p∈pre++σ,p.1≠id)
  (hh:J P W0 ep live Q l ((d,v)::env) ((id,e')::(pre++σ))):JCallS P W0 ep live Q f vs l d env (pre++(id,e)::σ):=by
 have hlk:∀(τ:Sto),(∀p∈τ,p.1≠id)->lk (τ++(id,e)::σ) id=some e:=by
  intro τ hτ
  induction τ with
  | nil=>simp [lk]
  | cons a τ ih=>
   obtain ⟨ai,ae⟩:=a
   have:ai≠id:=hτ (ai,ae) (by simp)
   show (if ai=id then some ae else lk (τ++(id,e)::σ) id)=some e
   rw [if_neg this]
   exact ih fun p hp=>hτ p (List.mem_cons_of_mem _ hp)
 refine c_calls h (fun i y hi=>?_) ?_
 ·simp only [lk] at hi
  split at hi
  ·rename_i h1;subst h1;cases hi
   exact hlk pre fun p hp=>hne p (List.mem_append_left _ hp)
  ·cases hi
 ·have hf:List.filter (fun p:Id × Ent=>(lk [(id,e)] p.1).isNone) (pre++(id,e)::σ)=pre++σ:=by
   rw [List.filter_append,List.filter_cons_of_neg (by simp [lk]),<-List.filter_append,List.filter_eq_self]
   intro p hp
   simp [lk,Ne.symm (hne p hp)]
  unfold over
  rw [hf];exact hh
end
end Go.Ir
end
section
namespace Go.Ir
open Go.Proofs
variable (W0 : World)
mutual
def Part.chk:Part->Int->Bool->List Bytes->Bool × List Bytes
 | ⟨k,t,nm,st,cs,ps⟩,d,c,l=>
  match (if k == 11 then (if decide (d>=8) then (false,l) else chkPs ps (d+1) c false l) else (true,l)) with
  | (false,l1)=>(false,l1)
  | (true,l1)=>match (if selB k then (if decide (d>=8) then (false,l1) else chkCs cs k (d+1) c cs.length [] l1) else (true,l1)) with
   | (false,l2)=>(false,l2)
   | (true,l2)=>(true,if !(k == 11)&&!(nm == []) then putN nm l2 else l2)
def chkPs:List Part->Int->Bool->Bool->List Bytes->Bool × List Bytes
 | [],_,_,_,l=>(true,l)
 | p::ps,d,c,prev,l=>
  if !p.fieldsB||(p.kind == 10&&!c)||(prev&&p.kind == 1) then (false,l) else
  match p.chk d c l with
  | (false,l1)=>(false,l1)
  | (true,l1)=>chkPs ps d c (p.kind == 1) l1
def chkCs:List (Bytes × List Part)->Int->Int->Bool->Nat->List Bytes->List Bytes->Bool × List Bytes
 | [],_,_,_,n,seen,l=>(decide ((n:Int)<=20)&&seen.contains kOtherS,l)
 | (key,ps)::cs,k,d,c,n,seen,l=>
  if !keyB k key||seen.contains key then (false,l) else
  match chkPs ps d (c||(k != 9)) false l with
  | (false,l1)=>(false,l1)
  | (true,l1)=>chkCs cs k d c n (seen++[key]) l1
end
theorem Part.chk_eq (p:Part) (d:Int) (c:Bool) (l:List Bytes):p.chk d c l =
  match (if p.kind == 11 then (if decide (d>=8) then (false,l) else chkPs p.parts (d+1) c false l) else (true,l)) with
  | (false,l1)=>(false,l1)
  | (true,l1)=>match (if selB p.kind then (if decide (d>=8) then (false,l1) else chkCs p.cases p.kind (d+1) c p.cases.length [] l1) else (true,l1)) with
   | (false,l2)=>(false,l2)
   | (true,l2)=>(true,if !(p.kind == 11)&&!(p.name == []) then putN p.name l2 else l2):=by cases p;simp only [Part.chk]
theorem chkPs_cons (p:Part) (ps:List Part) (d:Int) (c prev:Bool) (l:List Bytes):chkPs (p::ps) d c prev l =
  if !p.fieldsB||(p.kind == 10&&!c)||(prev&&p.kind == 1) then (false,l) else
  match p.chk d c l with
  | (false,l1)=>(false,l1)
  | (true,l1)=>chkPs ps d c (p.kind == 1) l1:=by simp only [chkPs]
theorem chkCs_cons (x:Case) (cs:List Case) (k d:Int) (c:Bool) (n:Nat) (seen l:List Bytes):chkCs (x::cs) k d c n seen l =
  if !keyB k x.1||seen.contains x.1 then (false,l) else
  match chkPs x.2 d (c||(k != 9)) false l with
  | (false,l1)=>(false,l1)
  | (true,l1)=>chkCs cs k d c n (seen++[x.1]) l1:=by obtain ⟨a,b⟩:=x;simp only [chkCs]
theorem ne_id {id:Id} {a:Nat} (h:id.1<a) (j:Nat):((a,j)=id)=False:=by
 apply eq_false;rintro rfl;exact Nat.lt_irrefl _ h
theorem ne_id' {id:Id} {a:Nat} (h:id.1<a) (j:Nat):(id=(a,j))=False:=by
 apply eq_false;rintro rfl;exact Nat.lt_irrefl _ h
theorem dom1 {id:Id} {e e':Ent}:∀i,lk [(id,e')] i≠none->lk [(id,e)] i≠none:=by
 intro i h
 simp only [lk] at h⊢
 split
 ·simp
 ·rename_i h1;rw [if_neg h1] at h;exact absurd rfl h
theorem c_cases (p:Part) (d:Int) (c:Bool) (l:List Bytes) (id:Id) (hb:p.wt<=2^24) (hp:∀x∈p.cases,∀l,RetS Tryz.prog W0 96 [.agg [.arr id],.sl (x.2.map Part.enc),.i .i64 d,.b (c||(p.kind != 9))] [(id,.map (setE l))] (.b (chkPs x.2 d (c||(p.kind != 9)) false l).1) [(id,.map (setE (chkPs x.2 d (c||(p.kind != 9)) false l).2))]) :
  RetS Tryz.prog W0 136 [.agg [.arr id],p.enc,.i .i64 d,.b c] [(id,.map (setE l))] (.b (chkCs p.cases p.kind d c p.cases.length [] l).1) [(id,.map (setE (chkCs p.cases p.kind d c p.cases.length [] l).2))]:=by
 rw [p.wt_eq] at hb
 have hlc:=len_wtCs p.cases
 generalize hS:chkCs p.cases p.kind d c p.cases.length [] l=S
 refine fn_retW (vs:=[.b S.1]) f136ok (by simp) dom1 fun n0 hn0=>?_
 have hid:id.1<n0:=hn0 id (.map (setE l)) (by simp [lk])
 clear hn0
 rw [Part.enc_eq]
 have f1:∀j,((n0,j)=id)=False:=fun j=>ne_id hid j
 have f1':∀j,(id=(n0,j))=False:=fun j=>ne_id' hid j
 simp only [push_cast,seval,reduceEqDiff,f1,f1']
 intro k1 k2 k3
 refine aWP_loopW p.cases.length (Inv:=fun m st=>∃cd cr n' seen l' m0,p.cases=cd++cr/\m=cr.length/\chkCs cr p.kind d c p.cases.length seen l'=S/\id.1<m0/\id.1<n'/\st=⟨[(2,.i .i64 d),(3,.b c),(4,.ref (n0,4) 0),(5,.ref (n0,5) 0),(9,.arr (m0,12)),(14,.sl (p.cases.map Case.enc)),(15,.i .i64 p.cases.length),(16,.i .i64 cd.length)],[(id,.map (setE l')),((m0,12),.map (setE seen)),((n0,5),.box p.v),((n0,4),.box (.agg [.arr id]))],n'⟩) ⟨_,StLe.drop (lk_rot (σ:=[_,_,_]) ?_) (Nat.le_refl _),[],p.cases,_,[],l,_,rfl,rfl,hS,?_,?_,rfl⟩ ?_
 ·have:=ne_id (id:=id) (a:=n0+1+k1) (by omega)
  simp [f1,this]
 ·omega
 ·omega
 clear hS
 rintro m _ ⟨cd,cr,n',seen,l',m0,hcz,rfl,hd,hm0,hn',rfl⟩
 unfold Part.v
 have f2:∀j,((m0,j)=id)=False:=fun j=>ne_id hm0 j
 have f2':∀j,(id=(m0,j))=False:=fun j=>ne_id' hm0 j
 have f3:∀k j,((n'+1+k,j)=id)=False:=fun k j=>ne_id (by omega) j
 have f3':∀k j,(id=(n'+1+k,j))=False:=fun k j=>ne_id' (by omega) j
 cases cr with
 | nil=>
  rw [chkCs] at hd
  subst hd
  rcases set_cases kOtherS seen with ⟨h1,_,i,h2,_⟩|⟨h1,_,h2⟩
  all_goals unfold kOtherS at h2
  ·skip
   simp only [push_cast,seval,reduceEqDiff,f1,f1',f2,f2',f3,f3',h2,hcz]
   repeat' (first|(((first|apply condU_s|apply gdU_t|apply gdU_f)<;>intro _h)<;>simp only [push_cast,seval,reduceEqDiff,_h,f1,f1',f2,f2',f3,f3',h2])|intro _)
   all_goals (refine finW_retS ?_ sub_hd;simp only [get_cons,h1,if_true,if_false,Bool.and_true,Bool.and_false,reduceEqDiff];done)
  ·skip
   simp only [push_cast,seval,reduceEqDiff,f1,f1',f2,f2',f3,f3',h2,hcz]
   repeat' (first|(((first|apply condU_s|apply gdU_t|apply gdU_f)<;>intro _h)<;>simp only [push_cast,seval,reduceEqDiff,_h,f1,f1',f2,f2',f3,f3',h2])|intro _)
   all_goals (refine finW_retS ?_ sub_hd;simp only [get_cons,h1,if_true,if_false,Bool.and_true,Bool.and_false,reduceEqDiff];done)
 | cons x cr=>
  have hcb:=zip_bd hcz
  have hxm:x∈p.cases:=by rw [hcz];simp
  have hwc:=wtCs_mem hxm
  have hk:=c_sKey W0 p.kind x.1 (by omega)
  have hpT:c=true->RetS Tryz.prog W0 96 [.agg [.arr id],.sl (x.2.map Part.enc),.i .i64 d,.b true] [(id,.map (setE l'))] (.b (chkPs x.2 d (c||(p.kind != 9)) false l').1) [(id,.map (setE (chkPs x.2 d (c||(p.kind != 9)) false l').2))]:=by
   intro hc;have:=hp x hxm l';rw [hc] at this⊢;exact this
  have hpF:c=false->RetS Tryz.prog W0 96 [.agg [.arr id],.sl (x.2.map Part.enc),.i .i64 d,.b (p.kind != 9)] [(id,.map (setE l'))] (.b (chkPs x.2 d (c||(p.kind != 9)) false l').1) [(id,.map (setE (chkPs x.2 d (c||(p.kind != 9)) false l').2))]:=by
   intro hc;have:=hp x hxm l';rw [hc] at this⊢;exact this
  rw [chkCs_cons] at hd
  clear hp
  generalize chkPs x.2 d (c||(p.kind != 9)) false l'=R at *
  generalize keyB p.kind x.1=K2 at *
  have hy:∀k j,∀q∈[((n'+1+k,j),Ent.box (.agg [V.s x.fst,V.sl (List.map Part.enc x.snd)]))]++[((m0,12),Ent.map (setE seen)),((n0,5),.box (.agg [V.i IntKind.i64 p.kind,V.s p.text,V.s p.name,V.s p.style,V.sl (List.map Case.enc (cd++x::cr)),V.sl (List.map Part.enc p.parts)])),((n0,4),.box (.agg [.arr id]))],q.1≠id:=by
   intro k j q hq
   simp at hq
   rcases hq with rfl|rfl|rfl|rfl
   all_goals simp [f1,f2,f3]
  rcases set_cases x.1 seen with ⟨h1,_,i,h2,_⟩|⟨h1,_,h2⟩
  all_goals rw [h1] at hd
  ·rw [Bool.or_true,if_pos rfl] at hd
   subst hd
   simp only [push_cast,seval,reduceEqDiff,hcz,f1,f1',f2,f2',f3,f3',h2,wrap_zip x (done:=cd) (by omega),setE_snoc]
   repeat' (first|(((first|apply condU_s|apply gdU_t|apply gdU_f)<;>intro _h)<;>simp only [push_cast,seval,reduceEqDiff,_h,hcz,f1,f1',f2,f2',f3,f3',h2,wrap_zip x (done:=cd) (by omega),setE_snoc])|(refine c_call (by exact hk) ?_;simp only [push_cast,seval,reduceEqDiff,hcz,f1,f1',f2,f2',f3,f3',h2,wrap_zip x (done:=cd) (by omega),setE_snoc])|intro _)
   all_goals (refine finW_retS ?_ (sub_2 (f3 _ _));simp only [get_cons,if_true];done)
  ·rw [Bool.or_false] at hd
   obtain ⟨rb,rl⟩:=R
   cases K2
   all_goals cases rb
   all_goals
    simp only [Bool.not_true,Bool.not_false,if_true,if_false,Bool.false_eq_true] at hd
    skip
    simp only [push_cast,seval,reduceEqDiff,hcz,f1,f1',f2,f2',f3,f3',h2,wrap_zip x (done:=cd) (by omega),setE_snoc]
    repeat' (first|(((first|apply condU_s|apply gdU_t|apply gdU_f)<;>intro _h)<;>simp only [push_cast,seval,reduceEqDiff,_h,hcz,f1,f1',f2,f2',f3,f3',h2,wrap_zip x (done:=cd) (by omega),setE_snoc])|(refine c_call (by exact hk) ?_;simp only [push_cast,seval,reduceEqDiff,hcz,f1,f1',f2,f2',f3,f3',h2,wrap_zip x (done:=cd) (by omega),setE_snoc])|intro _)
    all_goals (try (first|refine c_calls_n (pre:=[_]) (hpT (by assumption)) (hy _ _) ?_|refine c_calls_n (pre:=[_]) (hpF (by assumption)) (hy _ _) ?_))
    all_goals (try simp only [push_cast,seval,reduceEqDiff,hcz,f1,f1',f2,f2',f3,f3',h2,wrap_zip x (done:=cd) (by omega),setE_snoc])
    repeat' (first|(((first|apply condU_s|apply gdU_t|apply gdU_f)<;>intro _h)<;>simp only [push_cast,seval,reduceEqDiff,_h,hcz,f1,f1',f2,f2',f3,f3',h2,wrap_zip x (done:=cd) (by omega),setE_snoc])|intro _)
    all_goals (try (exfalso;simp_all;done))
    all_goals subst_vars
    all_goals (first|(refine finW_retS (by simp [get]) ?_;first|exact sub_hd|exact sub_2 (f3 _ _))|exact ⟨_,_,Nat.lt_succ_self _,StLe.dropM (by simp [lk]) (Nat.le_refl _),cd++[x],cr,_,seen++[x.1],rl,m0,by simp,rfl,by rw [hcz],hm0,by omega,rfl⟩|skip)
end Go.Ir
end
namespace Go.Ir
open Go.Proofs
variable (W0 : World)
theorem selB_not {k:Int} (h:selB k=true):(k == 1)=false/\(k == 10)=false/\(k == 11)=false/\(k != 11)=true:=by
 unfold selB at h
 simp at h
 refine ⟨?_,?_,?_,?_⟩<;>simp<;>omega
set_option maxHeartbeats 4000000 in
theorem c_chk:∀(N:Nat) (ps:List Part) (d:Int) (c:Bool) (l:List Bytes) (id:Id),wtPs ps<N->wtPs ps<=2^24->0<=d->d<=2^30->
  RetS Tryz.prog W0 96 [.agg [.arr id],.sl (ps.map Part.enc),.i .i64 d,.b c] [(id,.map (setE l))] (.b (chkPs ps d c false l).1) [(id,.map (setE (chkPs ps d c false l).2))]:=by
 intro N
 induction N with
 | zero=>intro ps d c l id h;omega
 | succ N ih=>
 intro ps d c l id hN hb hd0 hd1
 have hlen:=len_wtPs ps
 generalize hS:chkPs ps d c false l=S
 refine fn_retW (vs:=[.b S.1]) f96ok (by simp) dom1 fun n0 hn0=>?_
 have hid:id.1<n0:=hn0 id (.map (setE l)) (by simp [lk])
 clear hn0
 have f1:∀j,((n0,j)=id)=False:=fun j=>ne_id hid j
 have f1':∀j,(id=(n0,j))=False:=fun j=>ne_id' hid j
 simp only [push_cast,seval,reduceEqDiff,f1,f1']
 intro k1 k2
 refine aWP_loopW ps.length (Inv:=fun m st=>∃done rest n' l',ps=done++rest/\m=rest.length/\chkPs rest d c (lastT done) l'=S/\id.1<n'/\st=⟨[(1,.sl (ps.map Part.enc)),(2,.i .i64 d),(3,.b c),(4,.ref (n0,4) 0),(11,.sl (ps.map Part.enc)),(12,.i .i64 ps.length),(13,.i .i64 done.length)],[(id,.map (setE l')),((n0,4),.box (.agg [.arr id]))],n'⟩) ⟨_,StLe.drop (lk_rot (σ:=[_]) ?_) (Nat.le_refl _),[],ps,_,l,rfl,rfl,hS,?_,rfl⟩ ?_
 ·simp [f1]
 ·omega
 clear hS
 rintro m _ ⟨done,rest,n',l',hz,rfl,hd,hn',rfl⟩
 have f3:∀k j,((n'+1+k,j)=id)=False:=fun k j=>ne_id (by omega) j
 have f3':∀k j,(id=(n'+1+k,j))=False:=fun k j=>ne_id' (by omega) j
 cases rest with
 | nil=>
  rw [chkPs] at hd
  subst hd
  simp only [push_cast,seval,reduceEqDiff,f1,f1',f3,f3',hz]
  repeat' (first|(((first|apply condU_s|apply gdU_t|apply gdU_f)<;>intro _h)<;>simp only [push_cast,seval,reduceEqDiff,_h,f1,f1',f3,f3'])|intro _)
  all_goals (refine finW_retS (by simp [get]) sub_hd)
 | cons p rest=>
  have hbd:=zip_bd hz
  have hw:=wtPs_mem (ps:=ps) (p:=p) (by rw [hz];simp)
  have hw0:=hw
  rw [p.wt_eq] at hw
  have hlt:lastT (done++[p])=(p.kind == 1):=by simp [lastT]
  rw [chkPs_cons] at hd
  have hlp:(decide ((done.length:Int)>0)=false/\lastT done=false)\/(∃q:Part,decide ((done.length:Int)>0)=true/\(List.map Part.enc (done++p::rest))[(IntKind.i64.wrap ((done.length:Int)-1)).toNat]? = some q.enc/\(0<=IntKind.i64.wrap ((done.length:Int)-1))=True/\lastT done=(q.kind == 1)):=by
   rcases List.eq_nil_or_concat done with rfl|⟨d',q,rfl⟩
   ·exact .inl ⟨rfl,rfl⟩
   ·rw [List.concat_eq_append] at *
    have:IntKind.i64.wrap (((d'++[q]).length:Int)-1)=(d'.length:Int):=by
     rw [wrap64]<;>simp at *<;>omega
    refine .inr ⟨q,by simp<;>omega,?_,?_,by simp [lastT]⟩
    ·rw [this];simp
    ·rw [this];simp
  have hfl:=c_fields W0 p (by unfold SLim;omega) (by unfold SLim;omega)
  rw [Part.enc_eq] at hfl
  have hsel:=c_sSel W0 p.kind
  have ew:IntKind.i64.wrap (d+1)=d+1:=wrap64 (by omega) (by omega)
  rw [p.chk_eq] at hd
  have hx:∀k j (X:Ent),∀q∈[((n'+1+k,j),X)]++[((n0,4),Ent.box (.agg [.arr id]))],q.1≠id:=by
   intro k j X q hq
   simp at hq
   rcases hq with rfl|rfl
   all_goals simp [f1,f3]
  have h8:d<8/\decide (d>=8)=false\/decide (d>=8)=true:=by
   by_cases h:d<8
   ·exact .inl ⟨h,by simp;omega⟩
   ·exact .inr (by simp;omega)
  by_cases k11:p.kind=11
  ·have hin:=fun (h8:d<8)=>ih p.parts (d+1) c l' id (by omega) (by omega) (by omega) (by omega)
   have s11:selB 11=false:=rfl
   have q1:(p.kind == 1)=false:=by rw [k11];rfl
   rw [k11] at hd hfl hsel
   rw [s11] at hsel hd
   clear hlp
   generalize p.fieldsB=FB at *
   generalize chkPs p.parts (d+1) c false l'=R at *
   obtain ⟨rb,rl⟩:=R
   cases FB
   ·simp only [bq,if_true,if_false,Int.reduceBEq,reduceCtorEq] at hd
    simp only [push_cast,seval,reduceEqDiff,hz,f1,f1',f3,f3',wrap_zip p (done:=done) (by omega),ew,k11,Int.reduceBEq,Int.reduceBNe]
    repeat' (first|(((first|apply condU_s|apply gdU_t|apply gdU_f)<;>intro _h)<;>simp only [push_cast,seval,reduceEqDiff,_h,hz,f1,f1',f3,f3',wrap_zip p (done:=done) (by omega),ew,k11,Int.reduceBEq,Int.reduceBNe])|((first|refine c_call (by exact hfl) ?_|refine c_call (by exact hsel) ?_);simp only [push_cast,seval,reduceEqDiff,hz,f1,f1',f3,f3',wrap_zip p (done:=done) (by omega),ew,k11,Int.reduceBEq,Int.reduceBNe])|intro _)
    all_goals (first|(subst hd;refine finW_retS (by simp [get]) ?_;first|exact sub_hd|exact sub_2 (f3 _ _))|exact ⟨_,_,Nat.lt_succ_self _,StLe.dropM (by simp [lk]) (Nat.le_refl _),done++[p],rest,_,_,by simp,rfl,by rw [hlt,q1];exact hd,by omega,rfl⟩|exact ⟨_,_,Nat.lt_succ_self _,StLe.drop1 (by simp [lk,f3']) (Nat.le_refl _),done++[p],rest,_,_,by simp,rfl,by rw [hlt,q1];exact hd,by omega,rfl⟩|skip)
   ·rcases h8 with ⟨h8,e8⟩|e8
    ·cases rb
     all_goals
      rw [e8] at hd
      simp only [bq,if_true,if_false,Int.reduceBEq,reduceCtorEq] at hd
      skip
      simp only [push_cast,seval,reduceEqDiff,hz,f1,f1',f3,f3',wrap_zip p (done:=done) (by omega),ew,k11,Int.reduceBEq,Int.reduceBNe,e8]
      repeat' (first|(((first|apply condU_s|apply gdU_t|apply gdU_f)<;>intro _h)<;>simp only [push_cast,seval,reduceEqDiff,_h,hz,f1,f1',f3,f3',wrap_zip p (done:=done) (by omega),ew,k11,Int.reduceBEq,Int.reduceBNe,e8])|((first|refine c_call (by exact hfl) ?_|refine c_call (by exact hsel) ?_);simp only [push_cast,seval,reduceEqDiff,hz,f1,f1',f3,f3',wrap_zip p (done:=done) (by omega),ew,k11,Int.reduceBEq,Int.reduceBNe,e8])|intro _)
      all_goals (refine c_calls_n (pre:=[_]) (hin h8) (hx _ _ _) ?_;simp only [push_cast,seval,reduceEqDiff,hz,f1,f1',f3,f3',wrap_zip p (done:=done) (by omega),ew,k11,Int.reduceBEq,Int.reduceBNe,e8])
      repeat' (first|(((first|apply condU_s|apply gdU_t|apply gdU_f)<;>intro _h)<;>simp only [push_cast,seval,reduceEqDiff,_h,hz,f1,f1',f3,f3',wrap_zip p (done:=done) (by omega),ew,k11,Int.reduceBEq,Int.reduceBNe,e8])|(refine c_call (by exact hsel) ?_;simp only [push_cast,seval,reduceEqDiff,hz,f1,f1',f3,f3',wrap_zip p (done:=done) (by omega),ew,k11,Int.reduceBEq,Int.reduceBNe,e8])|intro _)
      all_goals (first|(subst hd;refine finW_retS (by simp [get]) ?_;first|exact sub_hd|exact sub_2 (f3 _ _))|exact ⟨_,_,Nat.lt_succ_self _,StLe.dropM (by simp [lk]) (Nat.le_refl _),done++[p],rest,_,_,by simp,rfl,by rw [hlt,q1];exact hd,by omega,rfl⟩|exact ⟨_,_,Nat.lt_succ_self _,StLe.drop1 (by simp [lk,f3']) (Nat.le_refl _),done++[p],rest,_,_,by simp,rfl,by rw [hlt,q1];exact hd,by omega,rfl⟩|skip)
    ·rw [e8] at hd
     simp only [bq,if_true,if_false,Int.reduceBEq,reduceCtorEq] at hd
     simp only [push_cast,seval,reduceEqDiff,hz,f1,f1',f3,f3',wrap_zip p (done:=done) (by omega),ew,k11,Int.reduceBEq,Int.reduceBNe,e8]
     repeat' (first|(((first|apply condU_s|apply gdU_t|apply gdU_f)<;>intro _h)<;>simp only [push_cast,seval,reduceEqDiff,_h,hz,f1,f1',f3,f3',wrap_zip p (done:=done) (by omega),ew,k11,Int.reduceBEq,Int.reduceBNe,e8])|((first|refine c_call (by exact hfl) ?_|refine c_call (by exact hsel) ?_);simp only [push_cast,seval,reduceEqDiff,hz,f1,f1',f3,f3',wrap_zip p (done:=done) (by omega),ew,k11,Int.reduceBEq,Int.reduceBNe,e8])|intro _)
     all_goals (first|(subst hd;refine finW_retS (by simp [get]) ?_;first|exact sub_hd|exact sub_2 (f3 _ _))|exact ⟨_,_,Nat.lt_succ_self _,StLe.dropM (by simp [lk]) (Nat.le_refl _),done++[p],rest,_,_,by simp,rfl,by rw [hlt,q1];exact hd,by omega,rfl⟩|exact ⟨_,_,Nat.lt_succ_self _,StLe.drop1 (by simp [lk,f3']) (Nat.le_refl _),done++[p],rest,_,_,by simp,rfl,by rw [hlt,q1];exact hd,by omega,rfl⟩|skip)
  ·have q11:(p.kind == 11)=false:=by simpa using k11
   have qn:(p.kind != 11)=true:=by simp [bne,q11]
   rcases Bool.eq_false_or_eq_true (selB p.kind) with hs|hs
   ·obtain ⟨q1,q10,_,_⟩:=selB_not hs
    have hin:=fun (h8:d<8)=>c_cases W0 p (d+1) c l' id (by omega) (fun x hx l=>ih x.2 (d+1) _ l id (by have:=wtCs_mem hx;omega) (by have:=wtCs_mem hx;omega) (by omega) (by omega))
    clear hlp ih
    rw [Part.enc_eq] at hin
    rw [hs] at hsel hd
    simp only [bq,if_true,if_false,Int.reduceBEq,reduceCtorEq,q1,q10,q11] at hd
    generalize p.fieldsB=FB at *
    generalize chkCs p.cases p.kind (d+1) c p.cases.length [] l'=R at *
    obtain ⟨rb,rl⟩:=R
    cases FB
    ·simp only [bq,if_true,if_false,Int.reduceBEq,reduceCtorEq,q1,q10,q11] at hd
     simp only [push_cast,seval,reduceEqDiff,hz,f1,f1',f3,f3',wrap_zip p (done:=done) (by omega),ew,q1,q10,q11,qn,Int.reduceBEq,Int.reduceBNe]
     repeat' (first|(((first|apply condU_s|apply gdU_t|apply gdU_f)<;>intro _h)<;>simp only [push_cast,seval,reduceEqDiff,_h,hz,f1,f1',f3,f3',wrap_zip p (done:=done) (by omega),ew,q1,q10,q11,qn,Int.reduceBEq,Int.reduceBNe])|((first|refine c_call (by exact hfl) ?_|refine c_call (by exact hsel) ?_);simp only [push_cast,seval,reduceEqDiff,hz,f1,f1',f3,f3',wrap_zip p (done:=done) (by omega),ew,q1,q10,q11,qn,Int.reduceBEq,Int.reduceBNe])|intro _)
     all_goals (first|(subst hd;refine finW_retS (by simp [get]) ?_;first|exact sub_hd|exact sub_2 (f3 _ _))|exact ⟨_,_,Nat.lt_succ_self _,StLe.dropM (by simp [lk]) (Nat.le_refl _),done++[p],rest,_,_,by simp,rfl,by rw [hlt,q1];exact hd,by omega,rfl⟩|exact ⟨_,_,Nat.lt_succ_self _,StLe.drop1 (by simp [lk,f3']) (Nat.le_refl _),done++[p],rest,_,_,by simp,rfl,by rw [hlt,q1];exact hd,by omega,rfl⟩|skip)
    ·rcases h8 with ⟨h8,e8⟩|e8
     ·simp only [bq,if_true,if_false,Int.reduceBEq,reduceCtorEq,e8] at hd
      cases rb
      ·simp only [bq,if_true,if_false,Int.reduceBEq,reduceCtorEq] at hd
       simp only [push_cast,seval,reduceEqDiff,hz,f1,f1',f3,f3',wrap_zip p (done:=done) (by omega),ew,q1,q10,q11,qn,Int.reduceBEq,Int.reduceBNe,e8]
       repeat' (first|(((first|apply condU_s|apply gdU_t|apply gdU_f)<;>intro _h)<;>simp only [push_cast,seval,reduceEqDiff,_h,hz,f1,f1',f3,f3',wrap_zip p (done:=done) (by omega),ew,q1,q10,q11,qn,Int.reduceBEq,Int.reduceBNe,e8])|((first|refine c_call (by exact hfl) ?_|refine c_call (by exact hsel) ?_);simp only [push_cast,seval,reduceEqDiff,hz,f1,f1',f3,f3',wrap_zip p (done:=done) (by omega),ew,q1,q10,q11,qn,Int.reduceBEq,Int.reduceBNe,e8])|intro _)
       all_goals (refine c_calls_n (pre:=[_]) (hin h8) (hx _ _ _) ?_;simp only [push_cast,seval,reduceEqDiff,hz,f1,f1',f3,f3',wrap_zip p (done:=done) (by omega),ew,q1,q10,q11,qn,Int.reduceBEq,Int.reduceBNe,e8])
       repeat' (first|(((first|apply condU_s|apply gdU_t|apply gdU_f)<;>intro _h)<;>simp only [push_cast,seval,reduceEqDiff,_h,hz,f1,f1',f3,f3',wrap_zip p (done:=done) (by omega),ew,q1,q10,q11,qn,Int.reduceBEq,Int.reduceBNe,e8])|intro _)
       all_goals (first|(subst hd;refine finW_retS (by simp [get]) ?_;first|exact sub_hd|exact sub_2 (f3 _ _))|exact ⟨_,_,Nat.lt_succ_self _,StLe.dropM (by simp [lk]) (Nat.le_refl _),done++[p],rest,_,_,by simp,rfl,by rw [hlt,q1];exact hd,by omega,rfl⟩|exact ⟨_,_,Nat.lt_succ_self _,StLe.drop1 (by simp [lk,f3']) (Nat.le_refl _),done++[p],rest,_,_,by simp,rfl,by rw [hlt,q1];exact hd,by omega,rfl⟩|skip)
      ·simp only [bq,if_true,if_false,Int.reduceBEq,reduceCtorEq] at hd
       rcases Bool.eq_false_or_eq_true (p.name == []) with hn|hn
       ·simp only [bq,if_true,if_false,Int.reduceBEq,reduceCtorEq,hn] at hd
        simp only [push_cast,seval,reduceEqDiff,hz,f1,f1',f3,f3',wrap_zip p (done:=done) (by omega),ew,q1,q10,q11,qn,Int.reduceBEq,Int.reduceBNe,e8,hn]
        repeat' (first|(((first|apply condU_s|apply gdU_t|apply gdU_f)<;>intro _h)<;>simp only [push_cast,seval,reduceEqDiff,_h,hz,f1,f1',f3,f3',wrap_zip p (done:=done) (by omega),ew,q1,q10,q11,qn,Int.reduceBEq,Int.reduceBNe,e8,hn])|((first|refine c_call (by exact hfl) ?_|refine c_call (by exact hsel) ?_);simp only [push_cast,seval,reduceEqDiff,hz,f1,f1',f3,f3',wrap_zip p (done:=done) (by omega),ew,q1,q10,q11,qn,Int.reduceBEq,Int.reduceBNe,e8,hn])|intro _)
        all_goals (refine c_calls_n (pre:=[_]) (hin h8) (hx _ _ _) ?_;simp only [push_cast,seval,reduceEqDiff,hz,f1,f1',f3,f3',wrap_zip p (done:=done) (by omega),ew,q1,q10,q11,qn,Int.reduceBEq,Int.reduceBNe,e8,hn])
        repeat' (first|(((first|apply condU_s|apply gdU_t|apply gdU_f)<;>intro _h)<;>simp only [push_cast,seval,reduceEqDiff,_h,hz,f1,f1',f3,f3',wrap_zip p (done:=done) (by omega),ew,q1,q10,q11,qn,Int.reduceBEq,Int.reduceBNe,e8,hn])|intro _)
        all_goals (first|(subst hd;refine finW_retS (by simp [get]) ?_;first|exact sub_hd|exact sub_2 (f3 _ _))|exact ⟨_,_,Nat.lt_succ_self _,StLe.dropM (by simp [lk]) (Nat.le_refl _),done++[p],rest,_,_,by simp,rfl,by rw [hlt,q1];exact hd,by omega,rfl⟩|exact ⟨_,_,Nat.lt_succ_self _,StLe.drop1 (by simp [lk,f3']) (Nat.le_refl _),done++[p],rest,_,_,by simp,rfl,by rw [hlt,q1];exact hd,by omega,rfl⟩|skip)
       ·simp only [bq,if_true,if_false,Int.reduceBEq,reduceCtorEq,hn] at hd
        rcases set_cases p.name rl with ⟨_,hpu,i,h2,h3⟩|⟨_,hpu,h2⟩
        ·rw [hpu] at hd
         simp only [push_cast,seval,reduceEqDiff,hz,f1,f1',f3,f3',wrap_zip p (done:=done) (by omega),ew,q1,q10,q11,qn,Int.reduceBEq,Int.reduceBNe,e8,hn,h2,h3]
         repeat' (first|(((first|apply condU_s|apply gdU_t|apply gdU_f)<;>intro _h)<;>simp only [push_cast,seval,reduceEqDiff,_h,hz,f1,f1',f3,f3',wrap_zip p (done:=done) (by omega),ew,q1,q10,q11,qn,Int.reduceBEq,Int.reduceBNe,e8,hn,h2,h3])|((first|refine c_call (by exact hfl) ?_|refine c_call (by exact hsel) ?_);simp only [push_cast,seval,reduceEqDiff,hz,f1,f1',f3,f3',wrap_zip p (done:=done) (by omega),ew,q1,q10,q11,qn,Int.reduceBEq,Int.reduceBNe,e8,hn,h2,h3])|intro _)
         all_goals (refine c_calls_n (pre:=[_]) (hin h8) (hx _ _ _) ?_;simp only [push_cast,seval,reduceEqDiff,hz,f1,f1',f3,f3',wrap_zip p (done:=done) (by omega),ew,q1,q10,q11,qn,Int.reduceBEq,Int.reduceBNe,e8,hn,h2,h3])
         repeat' (first|(((first|apply condU_s|apply gdU_t|apply gdU_f)<;>intro _h)<;>simp only [push_cast,seval,reduceEqDiff,_h,hz,f1,f1',f3,f3',wrap_zip p (done:=done) (by omega),ew,q1,q10,q11,qn,Int.reduceBEq,Int.reduceBNe,e8,hn,h2,h3])|intro _)
         all_goals (first|(subst hd;refine finW_retS (by simp [get]) ?_;first|exact sub_hd|exact sub_2 (f3 _ _))|exact ⟨_,_,Nat.lt_succ_self _,StLe.dropM (by simp [lk]) (Nat.le_refl _),done++[p],rest,_,_,by simp,rfl,by rw [hlt,q1];exact hd,by omega,rfl⟩|exact ⟨_,_,Nat.lt_succ_self _,StLe.drop1 (by simp [lk,f3']) (Nat.le_refl _),done++[p],rest,_,_,by simp,rfl,by rw [hlt,q1];exact hd,by omega,rfl⟩|skip)
        ·rw [hpu] at hd
         simp only [push_cast,seval,reduceEqDiff,hz,f1,f1',f3,f3',wrap_zip p (done:=done) (by omega),ew,q1,q10,q11,qn,Int.reduceBEq,Int.reduceBNe,e8,hn,h2,setE_snoc]
         repeat' (first|(((first|apply condU_s|apply gdU_t|apply gdU_f)<;>intro _h)<;>simp only [push_cast,seval,reduceEqDiff,_h,hz,f1,f1',f3,f3',wrap_zip p (done:=done) (by omega),ew,q1,q10,q11,qn,Int.reduceBEq,Int.reduceBNe,e8,hn,h2,setE_snoc])|((first|refine c_call (by exact hfl) ?_|refine c_call (by exact hsel) ?_);simp only [push_cast,seval,reduceEqDiff,hz,f1,f1',f3,f3',wrap_zip p (done:=done) (by omega),ew,q1,q10,q11,qn,Int.reduceBEq,Int.reduceBNe,e8,hn,h2,setE_snoc])|intro _)
         all_goals (refine c_calls_n (pre:=[_]) (hin h8) (hx _ _ _) ?_;simp only [push_cast,seval,reduceEqDiff,hz,f1,f1',f3,f3',wrap_zip p (done:=done) (by omega),ew,q1,q10,q11,qn,Int.reduceBEq,Int.reduceBNe,e8,hn,h2,setE_snoc])
         repeat' (first|(((first|apply condU_s|apply gdU_t|apply gdU_f)<;>intro _h)<;>simp only [push_cast,seval,reduceEqDiff,_h,hz,f1,f1',f3,f3',wrap_zip p (done:=done) (by omega),ew,q1,q10,q11,qn,Int.reduceBEq,Int.reduceBNe,e8,hn,h2,setE_snoc])|intro _)
         all_goals (first|(subst hd;refine finW_retS (by simp [get]) ?_;first|exact sub_hd|exact sub_2 (f3 _ _))|exact ⟨_,_,Nat.lt_succ_self _,StLe.dropM (by simp [lk]) (Nat.le_refl _),done++[p],rest,_,_,by simp,rfl,by rw [hlt,q1];exact hd,by omega,rfl⟩|exact ⟨_,_,Nat.lt_succ_self _,StLe.drop1 (by simp [lk,f3']) (Nat.le_refl _),done++[p],rest,_,_,by simp,rfl,by rw [hlt,q1];exact hd,by omega,rfl⟩|skip)
     ·simp only [bq,if_true,if_false,Int.reduceBEq,reduceCtorEq,e8] at hd
      simp only [push_cast,seval,reduceEqDiff,hz,f1,f1',f3,f3',wrap_zip p (done:=done) (by omega),ew,q1,q10,q11,qn,Int.reduceBEq,Int.reduceBNe,e8]
      repeat' (first|(((first|apply condU_s|apply gdU_t|apply gdU_f)<;>intro _h)<;>simp only [push_cast,seval,reduceEqDiff,_h,hz,f1,f1',f3,f3',wrap_zip p (done:=done) (by omega),ew,q1,q10,q11,qn,Int.reduceBEq,Int.reduceBNe,e8])|((first|refine c_call (by exact hfl) ?_|refine c_call (by exact hsel) ?_);simp only [push_cast,seval,reduceEqDiff,hz,f1,f1',f3,f3',wrap_zip p (done:=done) (by omega),ew,q1,q10,q11,qn,Int.reduceBEq,Int.reduceBNe,e8])|intro _)
      all_goals (first|(subst hd;refine finW_retS (by simp [get]) ?_;first|exact sub_hd|exact sub_2 (f3 _ _))|exact ⟨_,_,Nat.lt_succ_self _,StLe.dropM (by simp [lk]) (Nat.le_refl _),done++[p],rest,_,_,by simp,rfl,by rw [hlt,q1];exact hd,by omega,rfl⟩|exact ⟨_,_,Nat.lt_succ_self _,StLe.drop1 (by simp [lk,f3']) (Nat.le_refl _),done++[p],rest,_,_,by simp,rfl,by rw [hlt,q1];exact hd,by omega,rfl⟩|skip)
   ·clear ih
    rw [hs] at hsel hd
    generalize p.fieldsB=FB at *
    cases FB
    ·simp only [bq,if_true,if_false,Int.reduceBEq,reduceCtorEq,q11] at hd
     simp only [push_cast,seval,reduceEqDiff,hz,f1,f1',f3,f3',wrap_zip p (done:=done) (by omega),ew,q11,qn,Int.reduceBEq,Int.reduceBNe]
     repeat' (first|(((first|apply condU_s|apply gdU_t|apply gdU_f)<;>intro _h)<;>simp only [push_cast,seval,reduceEqDiff,_h,hz,f1,f1',f3,f3',wrap_zip p (done:=done) (by omega),ew,q11,qn,Int.reduceBEq,Int.reduceBNe])|((first|refine c_call (by exact hfl) ?_|refine c_call (by exact hsel) ?_);simp only [push_cast,seval,reduceEqDiff,hz,f1,f1',f3,f3',wrap_zip p (done:=done) (by omega),ew,q11,qn,Int.reduceBEq,Int.reduceBNe])|intro _)
     all_goals (first|(subst hd;refine finW_retS (by simp [get]) ?_;first|exact sub_hd|exact sub_2 (f3 _ _))|exact ⟨_,_,Nat.lt_succ_self _,StLe.dropM (by simp [lk]) (Nat.le_refl _),done++[p],rest,_,_,by simp,rfl,by rw [hlt];exact hd,by omega,rfl⟩|exact ⟨_,_,Nat.lt_succ_self _,StLe.drop1 (by simp [lk,f3']) (Nat.le_refl _),done++[p],rest,_,_,by simp,rfl,by rw [hlt];exact hd,by omega,rfl⟩|skip)
    ·simp only [bq,if_true,if_false,Int.reduceBEq,reduceCtorEq,q11] at hd
     generalize hG:chkPs rest d c (p.kind == 1)=G at hd
     rcases hlp with ⟨e1,hl⟩|⟨q,e1,e2,e3,hl⟩
     case' inl=>
      have e2:=e1
      have e3:=e1
     all_goals rw [hl] at hd
     all_goals rcases Bool.eq_false_or_eq_true (p.name == []) with hn|hn
     ·simp only [bq,if_true,if_false,Int.reduceBEq,reduceCtorEq,hn] at hd
      skip
      simp only [push_cast,seval,reduceEqDiff,hz,f1,f1',f3,f3',wrap_zip p (done:=done) (by omega),ew,q11,qn,Int.reduceBEq,Int.reduceBNe,e1,e2,e3,hn]
      repeat' (first|(((first|apply condU_s|apply gdU_t|apply gdU_f)<;>intro _h)<;>simp only [push_cast,seval,reduceEqDiff,_h,hz,f1,f1',f3,f3',wrap_zip p (done:=done) (by omega),ew,q11,qn,Int.reduceBEq,Int.reduceBNe,e1,e2,e3,hn])|((first|refine c_call (by exact hfl) ?_|refine c_call (by exact hsel) ?_);simp only [push_cast,seval,reduceEqDiff,hz,f1,f1',f3,f3',wrap_zip p (done:=done) (by omega),ew,q11,qn,Int.reduceBEq,Int.reduceBNe,e1,e2,e3,hn])|intro _)
      all_goals (try simp only [Bool.not_eq_true',Bool.not_eq_false'] at *)
      all_goals (try simp only [*,bq,if_true,if_false,Int.reduceBEq,reduceCtorEq] at hd)
      all_goals (first|(subst hd;refine finW_retS (by simp [get]) ?_;first|exact sub_hd|exact sub_2 (f3 _ _))|exact ⟨_,_,Nat.lt_succ_self _,StLe.dropM (by simp [lk]) (Nat.le_refl _),done++[p],rest,_,_,by simp,rfl,by rw [hlt,hG];exact hd,by omega,rfl⟩|exact ⟨_,_,Nat.lt_succ_self _,StLe.drop1 (by simp [lk,f3']) (Nat.le_refl _),done++[p],rest,_,_,by simp,rfl,by rw [hlt,hG];exact hd,by omega,rfl⟩|skip)
     ·rcases set_cases p.name l' with ⟨_,hpu,i,h2,h3⟩|⟨_,hpu,h2⟩
      all_goals simp only [bq,if_true,if_false,Int.reduceBEq,reduceCtorEq,hn,hpu] at hd
      ·skip
       simp only [push_cast,seval,reduceEqDiff,hz,f1,f1',f3,f3',wrap_zip p (done:=done) (by omega),ew,q11,qn,Int.reduceBEq,Int.reduceBNe,e1,e2,e3,hn,h2,h3]
       repeat' (first|(((first|apply condU_s|apply gdU_t|apply gdU_f)<;>intro _h)<;>simp only [push_cast,seval,reduceEqDiff,_h,hz,f1,f1',f3,f3',wrap_zip p (done:=done) (by omega),ew,q11,qn,Int.reduceBEq,Int.reduceBNe,e1,e2,e3,hn,h2,h3])|((first|refine c_call (by exact hfl) ?_|refine c_call (by exact hsel) ?_);simp only [push_cast,seval,reduceEqDiff,hz,f1,f1',f3,f3',wrap_zip p (done:=done) (by omega),ew,q11,qn,Int.reduceBEq,Int.reduceBNe,e1,e2,e3,hn,h2,h3])|intro _)
       all_goals (try simp only [Bool.not_eq_true',Bool.not_eq_false'] at *)
       all_goals (try simp only [*,bq,if_true,if_false,Int.reduceBEq,reduceCtorEq] at hd)
       all_goals (first|(subst hd;refine finW_retS (by simp [get]) ?_;first|exact sub_hd|exact sub_2 (f3 _ _))|exact ⟨_,_,Nat.lt_succ_self _,StLe.dropM (by simp [lk]) (Nat.le_refl _),done++[p],rest,_,_,by simp,rfl,by rw [hlt,hG];exact hd,by omega,rfl⟩|exact ⟨_,_,Nat.lt_succ_self _,StLe.drop1 (by simp [lk,f3']) (Nat.le_refl _),done++[p],rest,_,_,by simp,rfl,by rw [hlt,hG];exact hd,by omega,rfl⟩|skip)
      ·skip
       simp only [push_cast,seval,reduceEqDiff,hz,f1,f1',f3,f3',wrap_zip p (done:=done) (by omega),ew,q11,qn,Int.reduceBEq,Int.reduceBNe,e1,e2,e3,hn,h2,setE_snoc]
       repeat' (first|(((first|apply condU_s|apply gdU_t|apply gdU_f)<;>intro _h)<;>simp only [push_cast,seval,reduceEqDiff,_h,hz,f1,f1',f3,f3',wrap_zip p (done:=done) (by omega),ew,q11,qn,Int.reduceBEq,Int.reduceBNe,e1,e2,e3,hn,h2,setE_snoc])|((first|refine c_call (by exact hfl) ?_|refine c_call (by exact hsel) ?_);simp only [push_cast,seval,reduceEqDiff,hz,f1,f1',f3,f3',wrap_zip p (done:=done) (by omega),ew,q11,qn,Int.reduceBEq,Int.reduceBNe,e1,e2,e3,hn,h2,setE_snoc])|intro _)
       all_goals (try simp only [Bool.not_eq_true',Bool.not_eq_false'] at *)
       all_goals (try simp only [*,bq,if_true,if_false,Int.reduceBEq,reduceCtorEq] at hd)
       all_goals (first|(subst hd;refine finW_retS (by simp [get]) ?_;first|exact sub_hd|exact sub_2 (f3 _ _))|exact ⟨_,_,Nat.lt_succ_self _,StLe.dropM (by simp [lk]) (Nat.le_refl _),done++[p],rest,_,_,by simp,rfl,by rw [hlt,hG];exact hd,by omega,rfl⟩|exact ⟨_,_,Nat.lt_succ_self _,StLe.drop1 (by simp [lk,f3']) (Nat.le_refl _),done++[p],rest,_,_,by simp,rfl,by rw [hlt,hG];exact hd,by omega,rfl⟩|skip)
     ·simp only [bq,if_true,if_false,Int.reduceBEq,reduceCtorEq,hn] at hd
      skip
      simp only [push_cast,seval,reduceEqDiff,hz,f1,f1',f3,f3',wrap_zip p (done:=done) (by omega),ew,q11,qn,Int.reduceBEq,Int.reduceBNe,e1,e2,e3,hn]
      repeat' (first|(((first|apply condU_s|apply gdU_t|apply gdU_f)<;>intro _h)<;>simp only [push_cast,seval,reduceEqDiff,_h,hz,f1,f1',f3,f3',wrap_zip p (done:=done) (by omega),ew,q11,qn,Int.reduceBEq,Int.reduceBNe,e1,e2,e3,hn])|((first|refine c_call (by exact hfl) ?_|refine c_call (by exact hsel) ?_);simp only [push_cast,seval,reduceEqDiff,hz,f1,f1',f3,f3',wrap_zip p (done:=done) (by omega),ew,q11,qn,Int.reduceBEq,Int.reduceBNe,e1,e2,e3,hn])|intro _)
      all_goals (try simp only [Bool.not_eq_true',Bool.not_eq_false'] at *)
      all_goals (try simp only [*,bq,if_true,if_false,Int.reduceBEq,reduceCtorEq] at hd)
      all_goals (first|(subst hd;refine finW_retS (by simp [get]) ?_;first|exact sub_hd|exact sub_2 (f3 _ _))|exact ⟨_,_,Nat.lt_succ_self _,StLe.dropM (by simp [lk]) (Nat.le_refl _),done++[p],rest,_,_,by simp,rfl,by rw [hlt,hG];exact hd,by omega,rfl⟩|exact ⟨_,_,Nat.lt_succ_self _,StLe.drop1 (by simp [lk,f3']) (Nat.le_refl _),done++[p],rest,_,_,by simp,rfl,by rw [hlt,hG];exact hd,by omega,rfl⟩|skip)
     ·rcases set_cases p.name l' with ⟨_,hpu,i,h2,h3⟩|⟨_,hpu,h2⟩
      all_goals simp only [bq,if_true,if_false,Int.reduceBEq,reduceCtorEq,hn,hpu] at hd
      ·skip
       simp only [push_cast,seval,reduceEqDiff,hz,f1,f1',f3,f3',wrap_zip p (done:=done) (by omega),ew,q11,qn,Int.reduceBEq,Int.reduceBNe,e1,e2,e3,hn,h2,h3]
       repeat' (first|(((first|apply condU_s|apply gdU_t|apply gdU_f)<;>intro _h)<;>simp only [push_cast,seval,reduceEqDiff,_h,hz,f1,f1',f3,f3',wrap_zip p (done:=done) (by omega),ew,q11,qn,Int.reduceBEq,Int.reduceBNe,e1,e2,e3,hn,h2,h3])|((first|refine c_call (by exact hfl) ?_|refine c_call (by exact hsel) ?_);simp only [push_cast,seval,reduceEqDiff,hz,f1,f1',f3,f3',wrap_zip p (done:=done) (by omega),ew,q11,qn,Int.reduceBEq,Int.reduceBNe,e1,e2,e3,hn,h2,h3])|intro _)
       all_goals (try simp only [Bool.not_eq_true',Bool.not_eq_false'] at *)
       all_goals (try simp only [*,bq,if_true,if_false,Int.reduceBEq,reduceCtorEq] at hd)
       all_goals (first|(subst hd;refine finW_retS (by simp [get]) ?_;first|exact sub_hd|exact sub_2 (f3 _ _))|exact ⟨_,_,Nat.lt_succ_self _,StLe.dropM (by simp [lk]) (Nat.le_refl _),done++[p],rest,_,_,by simp,rfl,by rw [hlt,hG];exact hd,by omega,rfl⟩|exact ⟨_,_,Nat.lt_succ_self _,StLe.drop1 (by simp [lk,f3']) (Nat.le_refl _),done++[p],rest,_,_,by simp,rfl,by rw [hlt,hG];exact hd,by omega,rfl⟩|skip)
      ·skip
       simp only [push_cast,seval,reduceEqDiff,hz,f1,f1',f3,f3',wrap_zip p (done:=done) (by omega),ew,q11,qn,Int.reduceBEq,Int.reduceBNe,e1,e2,e3,hn,h2,setE_snoc]
       repeat' (first|(((first|apply condU_s|apply gdU_t|apply gdU_f)<;>intro _h)<;>simp only [push_cast,seval,reduceEqDiff,_h,hz,f1,f1',f3,f3',wrap_zip p (done:=done) (by omega),ew,q11,qn,Int.reduceBEq,Int.reduceBNe,e1,e2,e3,hn,h2,setE_snoc])|((first|refine c_call (by exact hfl) ?_|refine c_call (by exact hsel) ?_);simp only [push_cast,seval,reduceEqDiff,hz,f1,f1',f3,f3',wrap_zip p (done:=done) (by omega),ew,q11,qn,Int.reduceBEq,Int.reduceBNe,e1,e2,e3,hn,h2,setE_snoc])|intro _)
       all_goals (try simp only [Bool.not_eq_true',Bool.not_eq_false'] at *)
       all_goals (try simp only [*,bq,if_true,if_false,Int.reduceBEq,reduceCtorEq] at hd)
       all_goals (first|(subst hd;refine finW_retS (by simp [get]) ?_;first|exact sub_hd|exact sub_2 (f3 _ _))|exact ⟨_,_,Nat.lt_succ_self _,StLe.dropM (by simp [lk]) (Nat.le_refl _),done++[p],rest,_,_,by simp,rfl,by rw [hlt,hG];exact hd,by omega,rfl⟩|exact ⟨_,_,Nat.lt_succ_self _,StLe.drop1 (by simp [lk,f3']) (Nat.le_refl _),done++[p],rest,_,_,by simp,rfl,by rw [hlt,hG];exact hd,by omega,rfl⟩|skip)
end Go.Ir
section
namespace Go.Ir
open Go.Proofs
variable (W0 : World)
def usesM:List (V × V):=[(.s [110,117,109,98,101,114],.i .i64 3),(.s [117,110,105,116],.i .i64 4),(.s [100,97,116,101],.i .i64 5),(.s [108,105,115,116],.i .i64 6),(.s [112,108,117,114,97,108],.i .i64 7),(.s [111,114,100,105,110,97,108],.i .i64 8),(.s [115,101,108,101,99,116],.i .i64 9)]
theorem c_uses:RetN Tryz.prog W0 138 [] [] (.map usesM) []:=by
 refine fn_newW (s:=0) f138ok (by simp) (by simp) fun n0 hn0=>?_
 clear hn0
 unfold usesM
 have u1:findV .str (.s [110,117,109,98,101,114]) [] 0=some none:=rfl
 have u2:findV .str (.s [117,110,105,116]) (usesM.take 1) 0=some none:=rfl
 have u3:findV .str (.s [100,97,116,101]) (usesM.take 2) 0=some none:=rfl
 have u4:findV .str (.s [108,105,115,116]) (usesM.take 3) 0=some none:=rfl
 have u5:findV .str (.s [112,108,117,114,97,108]) (usesM.take 4) 0=some none:=rfl
 have u6:findV .str (.s [111,114,100,105,110,97,108]) (usesM.take 5) 0=some none:=rfl
 have u7:findV .str (.s [115,101,108,101,99,116]) (usesM.take 6) 0=some none:=rfl
 simp only [usesM,List.take_succ_cons,List.take_zero] at u2 u3 u4 u5 u6 u7
 simp only [push_cast,seval,reduceEqDiff,u1,u2,u3,u4,u5,u6,u7]
 intros
 exact ⟨_,StLe.refl,_,rfl,by simp [lk],rfl,fun _ _ h=>by simp [lk] at h⟩
def useN (k:Int):Nat:=if decide (k>=3)&&decide (k<=9) then 2+(useW k).length else 0
mutual
def Part.lenB:Part->Nat
 | ⟨k,t,nm,st,cs,ps⟩=>
  if k == 1 then (escB t).length
  else if k == 10 then 1
  else if k == 11 then (3+nm.length)+(if ps.isEmpty then 0 else (2+nm.length)+lenPs ps)
  else (2+nm.length)+useN k+(if st == [] then 0 else 2+st.length)+(if selB k then 1 else 0)+lenCs cs
def lenPs:List Part->Nat
 | []=>0
 | p::ps=>p.lenB+lenPs ps
def lenCs:List (Bytes × List Part)->Nat
 | []=>0
 | (key,ps)::cs=>((4+key.length)+lenPs ps)+lenCs cs
end
theorem Part.lenB_eq (p:Part):p.lenB=(if p.kind == 1 then (escB p.text).length
  else if p.kind == 10 then 1
  else if p.kind == 11 then (3+p.name.length)+(if p.parts.isEmpty then 0 else (2+p.name.length)+lenPs p.parts)
  else (2+p.name.length)+useN p.kind+(if p.style == [] then 0 else 2+p.style.length)+(if selB p.kind then 1 else 0)+lenCs p.cases):=by cases p;simp only [Part.lenB]
theorem lenPs_cons (p:Part) (ps:List Part):lenPs (p::ps)=p.lenB+lenPs ps:=by simp only [lenPs]
theorem lenCs_cons (c:Case) (cs:List Case):lenCs (c::cs)=((4+c.1.length)+lenPs c.2)+lenCs cs:=by obtain ⟨k,q⟩:=c;simp only [lenCs]
theorem useN_le (k:Int):useN k<=9:=by
 unfold useN;have:=useW_len k;split<;>omega
theorem Part.lenB_le1 (p:Part) (h1:lenPs p.parts<=20*wtPs p.parts) (h2:lenCs p.cases<=20*wtCs p.cases):p.lenB<=20*p.wt:=by
 rw [p.wt_eq,p.lenB_eq]
 have a1:=escB_len p.text
 have a2:=useN_le p.kind
 repeat' split
 all_goals omega
theorem lenPs_le0:∀(N:Nat) (ps:List Part),wtPs ps<N->lenPs ps<=20*wtPs ps:=by
 intro N
 induction N with
 | zero=>intro ps h;omega
 | succ N ih=>
  have hcs:∀cs:List Case,wtCs cs<N->lenCs cs<=20*wtCs cs:=by
   intro cs
   induction cs with
   | nil=>intro _;simp [lenCs]
   | cons c cs ih2=>
    intro h;rw [wtCs_cons] at h;rw [lenCs_cons,wtCs_cons]
    have:=ih c.2 (by omega);have:=ih2 (by omega)
    omega
  intro ps
  induction ps with
  | nil=>intro _;simp [lenPs]
  | cons p ps ih2=>
   intro h;rw [wtPs_cons] at h;rw [lenPs_cons,wtPs_cons];have h3:=ih2 (by omega)
   have hw:=p.wt_eq
   have:=p.lenB_le1 (ih p.parts (by omega)) (hcs p.cases (by omega))
   omega
theorem lenPs_le (ps:List Part):lenPs ps<=20*wtPs ps:=lenPs_le0 _ ps (Nat.lt_succ_self _)
theorem lenCs_le (cs:List Case):lenCs cs<=20*wtCs cs:=by
 induction cs with
 | nil=>simp [lenCs]
 | cons c cs ih=>rw [lenCs_cons,wtCs_cons];have:=lenPs_le c.2;omega
theorem Part.lenB_le (p:Part):p.lenB<=20*p.wt:=p.lenB_le1 (lenPs_le _) (lenCs_le _)
theorem uses_len:usesM.length=7:=rfl
theorem uses_at {i:Nat} {kv:V × V} (h:usesM[i]? = some kv):i<7/\kv=(.s (useW (i+3:Nat)),.i .i64 (i+3:Nat)):=by
 have hi:i<7:=by have:=(List.getElem?_eq_some_iff.1 h).1;rw [uses_len] at this;exact this
 refine ⟨hi,?_⟩
 have:i=0\/i=1\/i=2\/i=3\/i=4\/i=5\/i=6:=by omega
 rcases this with rfl|rfl|rfl|rfl|rfl|rfl|rfl<;>(simp only [usesM,List.getElem?_cons_zero,List.getElem?_cons_succ,Option.some.injEq] at h;rw [<-h];rfl)
def seenU (k:Int) (seen:List Nat):Nat:=if decide (k>=3)&&seen.contains (k-3).toNat then 2+(useW k).length else 0
theorem seenU_nil (k:Int):seenU k []=0:=by simp [seenU]
theorem seenU_hit {k:Int} {seen:List Nat} {i:Nat} (h:((i+3:Nat):Int)=k) (hn:i ∉ seen):seenU k seen=0/\seenU k (seen++[i])=2+(useW (i+3:Nat)).length:=by
 subst h
 have:(((i+3:Nat):Int)-3).toNat=i:=by omega
 have h3:((i+3:Nat):Int)>=3:=by omega
 unfold seenU
 rw [this]
 constructor
 ·rw [if_neg];simp [hn]
 ·rw [if_pos];simp;omega
theorem seenU_miss {k:Int} {seen:List Nat} {i:Nat} (h:((i+3:Nat):Int)≠k):seenU k (seen++[i])=seenU k seen:=by
 unfold seenU
 by_cases h3:k>=3
 ·have:(k-3).toNat≠i:=by omega
  simp [List.contains_append,this]
 ·simp [h3]
theorem seenU_end {k:Int} {seen:List Nat} (hall:∀i,i<7->i∈seen) (hb:∀i∈seen,i<7):seenU k seen=useN k:=by
 unfold seenU useN
 by_cases h3:k>=3
 ·by_cases h9:k<=9
  ·have:=hall (k-3).toNat (by omega)
   simp [h3,h9,this]
  ·have:(k-3).toNat ∉ seen:=fun h=>by have:=hb _ h;omega
   simp [h9,this]
 ·simp [h3]
def leftU (seen:List Nat):Nat:=(if 0∈seen then 0 else 1)+(if 1∈seen then 0 else 1)+(if 2∈seen then 0 else 1)+(if 3∈seen then 0 else 1)+(if 4∈seen then 0 else 1)+(if 5∈seen then 0 else 1)+(if 6∈seen then 0 else 1)
theorem leftU_lt {seen:List Nat} {i:Nat} (hi:i<7) (hn:i ∉ seen):leftU (seen++[i])<leftU seen:=by
 have:i=0\/i=1\/i=2\/i=3\/i=4\/i=5\/i=6:=by omega
 unfold leftU
 rcases this with rfl|rfl|rfl|rfl|rfl|rfl|rfl<;>simp [hn]
end Go.Ir
end
namespace Go.Ir
open Go.Proofs
variable (W0 : World)
set_option maxHeartbeats 4000000 in
theorem c_length:∀(N:Nat) (ps:List Part),wtPs ps<N->wtPs ps<=2^24->
  RetS Tryz.prog W0 97 [.sl (ps.map Part.enc)] [] (.i .i64 (lenPs ps)) []:=by
 intro N
 induction N with
 | zero=>intro ps h;omega
 | succ N ih=>
 intro ps hN hb
 have hlen:=len_wtPs ps
 generalize hS:lenPs ps=S
 refine fn_retW (vs:=[.i .i64 S]) f97ok (by simp) (by simp) fun n0 hn0=>?_
 clear hn0
 simp only [push_cast,seval,reduceEqDiff]
 intros
 refine aWP_loopW ps.length (Inv:=fun m st=>∃done rest n acc x,x=((acc:Nat):Int)/\ps=done++rest/\m=rest.length/\acc+lenPs rest=S/\acc+20*wtPs rest<=20*wtPs ps/\st=⟨[(3,.i .i64 x),(10,.sl (ps.map Part.enc)),(11,.i .i64 ps.length),(12,.i .i64 done.length)],[],n⟩) ⟨_,StLe.refl,[],ps,_,0,0,rfl,rfl,rfl,by omega,by omega,rfl⟩ ?_
 clear hS
 rintro m _ ⟨done,rest,n,acc,_,rfl,hz,rfl,hd,hacc,rfl⟩
 cases rest with
 | nil=>
  rw [lenPs,Nat.add_zero] at hd
  subst hd
  simp only [push_cast,seval,reduceEqDiff,hz]
  repeat' (first|(((first|apply condU_s|apply gdU_t|apply gdU_f)<;>intro _h)<;>simp only [push_cast,seval,reduceEqDiff,_h])|intro _)
  all_goals (first|(refine finW_ret ?_;simp [get]<;>(intros;omega);done)|(refine finW_rets ?_;simp [push_cast,get];done)|skip)
 | cons p rest=>
  have hbd:=zip_bd hz
  have hw:=wtPs_mem (ps:=ps) (p:=p) (by rw [hz];simp)
  rw [p.wt_eq] at hw
  rw [lenPs_cons,<-Nat.add_assoc] at hd
  rw [wtPs_cons,p.wt_eq] at hacc
  have htl:=p.lenB_le
  rw [p.wt_eq] at htl
  have hpl:=lenPs_le p.parts
  have hlc:=len_wtCs p.cases
  have hin:=ih p.parts (by omega) (by omega)
  have hsel:=c_sSel W0 p.kind
  rw [p.lenB_eq] at hd
  by_cases k1:p.kind=1
  ·have hes:=c_tEscape W0 p.text (by omega)
   have:=escB_len p.text
   rw [k1] at hd
   simp only [push_cast,seval,reduceEqDiff,hz,wrap_zip p (done:=done) (by omega),k1,Int.reduceBEq,Int.reduceBNe]
   repeat' (first|(((first|apply condU_s|apply gdU_t|apply gdU_f)<;>intro _h)<;>simp only [push_cast,seval,reduceEqDiff,_h,hz,wrap_zip p (done:=done) (by omega),k1,Int.reduceBEq,Int.reduceBNe])|((first|refine c_call (by exact hes) ?_|refine jp_i (by simp only [List.length_append,List.length_cons,List.length_nil,SLim]<;>omega) ?_);simp only [push_cast,seval,reduceEqDiff,hz,wrap_zip p (done:=done) (by omega),k1,Int.reduceBEq,Int.reduceBNe])|intro _)
   refine ⟨_,_,Nat.lt_succ_self _,StLe.drop1 rfl (Nat.le_refl _),done++[p],rest,_,acc+(escB p.text).length,_,by (try simp (disch:=omega) only [wrap64]);omega,by simp,rfl,by rw [<-hd];simp,by rw [<-hz];omega,rfl⟩
  by_cases k2:p.kind=10
  ·rw [k2] at hd
   simp only [push_cast,seval,reduceEqDiff,hz,wrap_zip p (done:=done) (by omega),k2,Int.reduceBEq,Int.reduceBNe]
   repeat' (first|(((first|apply condU_s|apply gdU_t|apply gdU_f)<;>intro _h)<;>simp only [push_cast,seval,reduceEqDiff,_h,hz,wrap_zip p (done:=done) (by omega),k2,Int.reduceBEq,Int.reduceBNe])|(refine jp_i (by simp only [List.length_append,List.length_cons,List.length_nil,SLim]<;>omega) ?_;simp only [push_cast,seval,reduceEqDiff,hz,wrap_zip p (done:=done) (by omega),k2,Int.reduceBEq,Int.reduceBNe])|intro _)
   refine ⟨_,_,Nat.lt_succ_self _,StLe.drop1 rfl (Nat.le_refl _),done++[p],rest,_,acc+1,_,by (try simp (disch:=omega) only [wrap64]);omega,by simp,rfl,by rw [<-hd];simp,by rw [<-hz];omega,rfl⟩
  by_cases k3:p.kind=11
  ·rw [k3] at hd
   rcases hps:p.parts with _|⟨q,qs⟩
   ·rw [hps] at hd
    simp only [push_cast,seval,reduceEqDiff,hz,wrap_zip p (done:=done) (by omega),k3,Int.reduceBEq,Int.reduceBNe,hps]
    repeat' (first|(((first|apply condU_s|apply gdU_t|apply gdU_f)<;>intro _h)<;>simp only [push_cast,seval,reduceEqDiff,_h,hz,wrap_zip p (done:=done) (by omega),k3,Int.reduceBEq,Int.reduceBNe,hps])|(refine jp_i (by simp only [List.length_append,List.length_cons,List.length_nil,SLim]<;>omega) ?_;simp only [push_cast,seval,reduceEqDiff,hz,wrap_zip p (done:=done) (by omega),k3,Int.reduceBEq,Int.reduceBNe,hps])|intro _)
    refine ⟨_,_,Nat.lt_succ_self _,StLe.drop1 rfl (Nat.le_refl _),done++[p],rest,_,acc+(3+p.name.length),_,by (try simp (disch:=omega) only [wrap64]);omega,by simp,rfl,by rw [<-hd];simp,by rw [<-hz];omega,rfl⟩
   ·have e1:decide ((p.parts.length:Int)>0)=true:=by rw [hps];simp<;>omega
    have e2:p.parts.isEmpty=false:=by rw [hps];rfl
    rw [e2] at hd
    clear hps
    simp only [push_cast,seval,reduceEqDiff,hz,wrap_zip p (done:=done) (by omega),k3,Int.reduceBEq,Int.reduceBNe,e1]
    repeat' (first|(((first|apply condU_s|apply gdU_t|apply gdU_f)<;>intro _h)<;>simp only [push_cast,seval,reduceEqDiff,_h,hz,wrap_zip p (done:=done) (by omega),k3,Int.reduceBEq,Int.reduceBNe,e1])|((first|refine c_call (by exact hin) ?_|refine jp_i (by simp only [List.length_append,List.length_cons,List.length_nil,SLim]<;>omega) ?_);simp only [push_cast,seval,reduceEqDiff,hz,wrap_zip p (done:=done) (by omega),k3,Int.reduceBEq,Int.reduceBNe,e1])|intro _)
    refine ⟨_,_,Nat.lt_succ_self _,StLe.drop1 rfl (Nat.le_refl _),done++[p],rest,_,acc+(3+p.name.length)+((2+p.name.length)+lenPs p.parts),_,by (try simp (disch:=omega) only [wrap64]);omega,by simp,rfl,by rw [<-hd];simp<;>omega,by rw [<-hz];omega,rfl⟩
  have q1:(p.kind == 1)=false:=by simpa using k1
  have q2:(p.kind == 10)=false:=by simpa using k2
  have q3:(p.kind == 11)=false:=by simpa using k3
  rw [q1,q2,q3] at hd
  simp only [bq,if_true,if_false,Int.reduceBEq,reduceCtorEq] at hd
  simp only [push_cast,seval,reduceEqDiff,hz,wrap_zip p (done:=done) (by omega),q1,q2,q3,Int.reduceBEq,Int.reduceBNe]
  intros
  refine c_calln (c_uses W0) (fun _ _ h=>by simp [lk] at h) ?_
  rw [over_nil]
  simp only [push_cast,seval,reduceEqDiff]
  intro kk
  have hul:=useW_len p.kind
  refine aWP_loopW (leftU []) (Inv:=fun m st=>∃seen n' x m0 b0,x=((acc+(2+p.name.length)+seenU p.kind seen:Nat):Int)/\m=leftU seen/\(∀i∈seen,i<7)/\st=⟨[(3,.i .i64 x),(5,.ref (b0,5) 0),(10,.sl (List.map Part.enc (done++p::rest))),(11,.i .i64 (done++p::rest).length),(12,.i .i64 done.length),(25,.arr (m0,25))],[((m0,25),.mit (m0,24) usesM.length seen usesM.length),((m0,24),.map usesM),((b0,5),.box p.v)],n'⟩) ⟨_,StLe.refl,[],_,_,_,_,by (simp (disch:=omega) only [wrap64,seenU_nil];omega),rfl,by simp,rfl⟩ ?_
  rintro m _ ⟨seen,n',x,m0,b0,hx,rfl,hsb,rfl⟩
  unfold Part.v
  simp only [push_cast,seval,reduceEqDiff,hz,wrap_zip p (done:=done) (by omega),q1,q2,q3,Int.reduceBEq,Int.reduceBNe]
  refine nextW_i (id:=(m0,25)) (mid:=(m0,24)) (es:=usesM) (seen:=seen) rfl (by simp [lk]) (by simp [lk]) (by simp) (by simp) (fun i kv hi hns=>?_) (fun hall=>?_)
  ·obtain ⟨hi7,rfl⟩:=uses_at hi
   have hlast:(seen++[i]).getLast? = some i:=by simp
   have hul2:=useW_len (i+3:Nat)
   have hlt:=leftU_lt hi7 hns
   have hsb2:∀j∈seen++[i],j<7:=by
    intro j hj
    rcases List.mem_append.1 hj with h|h
    ·exact hsb j h
    ·simp at h;omega
   have hhit:=fun h=>seenU_hit (k:=p.kind) (seen:=seen) (i:=i) h hns
   have hmiss:=fun h=>seenU_miss (k:=p.kind) (seen:=seen) (i:=i) h
   generalize hki:((i+3:Nat):Int)=ki at *
   have hsu:seenU p.kind seen<=9:=by unfold seenU;split<;>omega
   simp only [push_cast,seval,reduceEqDiff,hlast,hi]
   repeat' (first|(((first|apply condU_s|apply gdU_t|apply gdU_f)<;>intro _h)<;>simp only [push_cast,seval,reduceEqDiff,_h,hlast,hi])|intro _)
   ·obtain ⟨u1,u2⟩:=hhit (by simpa using _h)
    refine ⟨_,_,hlt,StLe.refl,seen++[i],_,_,_,_,?_,rfl,hsb2,rfl⟩
    rw [u2]
    rw [u1] at hx
    simp (disch:=omega) only [wrap64]
    rw [hx];simp only [Int.natCast_add];omega
   ·have u2:=hmiss (by simpa using _h)
    refine ⟨_,_,hlt,StLe.envD (fun t=>?_) (Nat.le_refl _),seen++[i],_,x,m0,b0,?_,rfl,hsb2,rfl⟩
    ·by_cases h6:6=t
     ·right;subst h6;rfl
     ·by_cases h34:34=t
      ·right;subst h34;rfl
      ·left;simp [get,h6,h34]
    ·rw [u2,hx];simp only [Int.natCast_add];omega
  ·rw [uses_len] at hall
   rw [seenU_end hall hsb] at hx
   have hun:=useN_le p.kind
   clear hall hsb
   obtain ⟨sS,hsS⟩:∃n,n=(if (p.style == [])=true then 0 else 2+p.style.length):=⟨_,rfl⟩
   obtain ⟨sC,hsC⟩:∃n,n=(if selB p.kind=true then 1 else 0):=⟨_,rfl⟩
   rw [<-hsS,<-hsC] at hd
   simp only [push_cast,seval,reduceEqDiff,hz,wrap_zip p (done:=done) (by omega),q1,q2,q3,Int.reduceBEq,Int.reduceBNe]
   repeat' (first|(((first|apply condU_s|apply gdU_t|apply gdU_f)<;>intro _h)<;>simp only [push_cast,seval,reduceEqDiff,_h,hz,wrap_zip p (done:=done) (by omega),q1,q2,q3,Int.reduceBEq,Int.reduceBNe])|(refine c_call (by exact hsel) ?_;simp only [push_cast,seval,reduceEqDiff,hz,wrap_zip p (done:=done) (by omega),q1,q2,q3,Int.reduceBEq,Int.reduceBNe])|intro _)
   all_goals (try simp only [Bool.not_eq_true',Bool.not_eq_false'] at *)
   all_goals (first|rw [if_pos (by assumption)] at hsS|rw [if_neg (by simp only [*,Bool.false_eq_true,not_false_eq_true])] at hsS)
   all_goals (first|rw [if_pos (by assumption)] at hsC|rw [if_neg (by simp only [*,Bool.false_eq_true,not_false_eq_true])] at hsC)
   all_goals
    refine aWP_loopW p.cases.length (Inv:=fun m st=>∃cd cr n' acc' x,x=((acc':Nat):Int)/\p.cases=cd++cr/\m=cr.length/\acc'+lenCs cr+lenPs rest=S/\acc'+20*wtCs cr+20*wtPs rest<=20*wtPs ps/\st=⟨[(3,.i .i64 x),(10,.sl (List.map Part.enc (done++p::rest))),(11,.i .i64 (done++p::rest).length),(12,.i .i64 done.length),(55,.sl (p.cases.map Case.enc)),(56,.i .i64 p.cases.length),(57,.i .i64 cd.length)],[],n'⟩) ⟨_,StLe.drop (fun _ _ h=>by cases h) (Nat.le_refl _),[],p.cases,_,acc+(2+p.name.length)+useN p.kind+sS+sC,_,by ((try simp (disch:=omega) only [wrap64]);omega),rfl,rfl,by rw [<-hd];omega,by omega,rfl⟩ ?_
    clear hd hsS hsC hx
    rintro m _ ⟨cd,cr,n',acc',x,rfl,hcz,rfl,hd,hacc2,rfl⟩
    cases cr with
    | nil=>
     rw [lenCs,Nat.add_zero] at hd
     rw [wtCs_nil] at hacc2
     simp only [push_cast,seval,reduceEqDiff,hcz,wrap_zip p (done:=done) (by omega)]
     intros
     exact ⟨_,_,Nat.lt_succ_self _,StLe.refl,done++[p],rest,_,acc',_,rfl,by simp,rfl,hd,by rw [<-hz];omega,rfl⟩
    | cons c cr=>
     have hcb:=zip_bd hcz
     have hwc:=wtCs_mem (cs:=p.cases) (c:=c) (by simp [hcz])
     rw [lenCs_cons] at hd
     rw [wtCs_cons] at hacc2
     have htc:=lenPs_le c.2
     have hcc:=ih c.2 (by omega) (by omega)
     simp only [push_cast,seval,reduceEqDiff,hcz,wrap_zip c (done:=cd) (by omega)]
     repeat' (first|(refine c_call (by exact hcc) ?_;simp only [push_cast,seval,reduceEqDiff,hcz,wrap_zip c (done:=cd) (by omega)])|intro _)
     refine ⟨_,_,Nat.lt_succ_self _,StLe.drop1 rfl (Nat.le_refl _),cd++[c],cr,_,acc'+((4+c.1.length)+lenPs c.2),_,by (simp (disch:=omega) only [wrap64];omega),by simp [hcz],rfl,by rw [<-hd];omega,by omega,rfl⟩
def validP (ps:List Part):Bool:=(chkPs ps 0 false false []).1&&decide (((chkPs ps 0 false false []).2.length:Int)<=20)&&decide ((lenPs ps:Int)<=4000)
theorem c_valid (ps:List Part) (hb:wtPs ps<=2^24):RetS Tryz.prog W0 52 [.sl (ps.map Part.enc),.b false] [] (.b (validP ps)) []:=by
 have h1:=fun id=>c_chk W0 _ ps 0 false [] id (Nat.lt_succ_self _) hb (by omega) (by omega)
 have h3:=c_length W0 _ ps (Nat.lt_succ_self _) hb
 generalize hS:validP ps=S
 unfold validP at hS
 generalize chkPs ps 0 false false []=R at *
 obtain ⟨rb,rl⟩:=R
 have h1:∀id,RetS Tryz.prog W0 96 [.agg [.arr id],.sl (ps.map Part.enc),.i .i64 0,.b false] [(id,.map [])] (.b rb) [(id,.map (setE rl))]:=h1
 simp only at hS
 refine fn_retW (vs:=[.b S]) f52ok (by simp) (by simp) fun n0 hn0=>?_
 clear hn0
 simp only [push_cast,seval,reduceEqDiff]
 intros
 refine c_calls_2 (h1 _) ?_ ?_
 ·simp
 simp only [push_cast,seval,reduceEqDiff,setE_len]
 repeat' (first|(((first|apply condU_s|apply gdU_t|apply gdU_f)<;>intro _h)<;>simp only [push_cast,seval,reduceEqDiff,_h])|(refine c_call (by exact h3) ?_;simp only [push_cast,seval,reduceEqDiff])|intro _)
 all_goals (try simp only [setE_len] at *)
 all_goals subst hS
 all_goals (first|(refine finW_ret ?_;simp [get, *]<;>(intros;omega);done)|(refine finW_rets ?_;simp [push_cast,get, *];done)|skip)
theorem c_Valid (ps:List Part) (hb:wtPs ps<=2^24):RetS Tryz.prog W0 15 [.sl (ps.map Part.enc)] [] (.b (validP ps)) []:=by
 refine fn_retW (vs:=[.b (validP ps)]) f15ok (by simp) (by simp) fun n0 hn0=>?_
 clear hn0
 simp only [push_cast,seval,reduceEqDiff]
 repeat' (first|(((first|apply condU_s|apply gdU_t|apply gdU_f)<;>intro _h)<;>simp only [push_cast,seval,reduceEqDiff,_h])|(refine c_call (by exact c_valid W0 ps hb) ?_;simp only [push_cast,seval,reduceEqDiff])|intro _)
 all_goals (first|(refine finW_ret ?_;simp [get]<;>(intros;omega);done)|(refine finW_rets ?_;simp [push_cast,get];done)|skip)
end Go.Ir
namespace Go.Ir
open Go.Proofs
variable {P : Program} {W0 : World} {nt n : Nat} {Q : Exit → St → Prop} {env : Env} {σ : Sto}
def f123_2:IC:=.seq (.ops [m1 7 0,o1 8 (.nilck (.t 7)),o1 9 (.faddr (.t 8) 0),o1 10 (.load (.t 9) 1 false),o1 11 (.mkfn 150 [] [.t 4,.t 5]),o1 12 (.calls 87 [.t 10,.t 11]),m1 6 12] [6] []) .ret
def f123_0:IC:=.seq (.ops [o1 4 (.box (.t 1)),o1 5 (.box (.t 2)),o1 6 (.mv (ci 0))] [0,4,5] []) f123_2
@[push_cast]def f123R:List R:=[.t 6]
@[push_cast]def f123e:=aWv f123_2.eq_1<|aWu f123_0.eq_1
theorem f123ok:okFn Tryz.prog 123 13 f123_0 f123R=true:=by kernel_rfl
def f150_2:IC:=.seq (.ops [o1 5 (.faddr (.t 3) 0),o1 6 (.load (.t 5) 1 false),o1 7 (.load (.t 1) 1 false),o1 8 (.bin .eql (.t 6) (.t 7)),m1 9 8,⟨some 10,.faddr (.t 3) 1,some (9,true),[]⟩,⟨some 11,.load (.t 10) 1 false,some (9,true),[]⟩,⟨some 12,.load (.t 2) 1 false,some (9,true),[]⟩,⟨some 13,.bin .eql (.t 11) (.t 12),some (9,true),[]⟩,o1 14 (.pick (.t 9) (.t 13) (.c (.b false))),m1 4 14] [4] []) .ret
def f150_0:IC:=.seq (.ops [o1 3 (.box (.t 0)),o1 4 (.mv (.c (.b false)))] [1,2,3] []) f150_2
@[push_cast]def f150R:List R:=[.t 4]
@[push_cast]def f150e:=aWv f150_2.eq_1<|aWu f150_0.eq_1
theorem f150ok:okFn Tryz.prog 150 15 f150_0 f150R=true:=by kernel_rfl
def f81_17:IC:=.ops [o1 19 (.faddr (.t 5) 0),o1 20 (.load (.t 19) 1 false),o1 21 (.call 43 [.t 20]),o1 22 (.not (.t 21))] [0,5,9,10,11,22] []
def f81_27:IC:=.ops [m1 36 0,m1 37 0,o1 38 (.nilck (.t 37)),o1 39 (.faddr (.t 38) 0),o1 40 (.load (.t 39) 1 false),o1 41 (.faddr (.t 5) 0),o1 42 (.load (.t 41) 1 false),o1 43 (.faddr (.t 5) 2),o1 44 (.load (.t 43) 1 false),o1 45 (.build [(.i .i64 0),(.s []),.nil] [(0,1,(.t 42)),(1,1,(.t 44))]),o1 46 (.msl false 86 3 [.t 45]),o1 47 (.app (.t 40) (.t 46) 86 3),o1 48 (.nilck (.t 36)),o1 49 (.faddr (.t 48) 0),o0 (.store (.t 49) (.t 47) 1)] [0,5,6,9,10,11] [[1,2],[2,3],[3,4],[5,6],[7,8],[6,9],[8,9],[9,10],[4,11],[6,9,10,11],[8,9,10,11],[10,11],[0,12],[12,13],[4,14],[6,14],[8,14],[11,14],[13,14]]
def f81_25:IC:=.seq (.ops [m1 31 0,o1 32 (.nilck (.t 31)),o1 33 (.faddr (.t 32) 0),o1 34 (.load (.t 33) 1 false),o1 35 (.lenL (.t 34)),m1 6 35] [0,5,6,9,10,11] []) f81_27
def f81_43:IC:=.ops [m1 57 0,o1 58 (.nilck (.t 57)),o1 59 (.faddr (.t 58) 0),o1 60 (.load (.t 59) 1 false),m1 61 6,o1 62 (.iaddr (.t 60) (.t 61) 86 3),o1 63 (.faddr (.t 62) 2),o1 64 (.load (.t 63) 1 false),o1 65 (.faddr (.t 8) 0),o1 66 (.load (.t 65) 1 false),o1 67 (.calls 45 [.t 64,.t 66]),o1 68 (.not (.t 67))] [0,6,8,9,10,11,51,52,53,68] [[0,1],[1,2],[2,3],[3,5],[4,5],[5,6],[6,7],[8,9],[3,5,6,7,10],[5,6,7,10],[7,10],[9,10],[10,11]]
def f81_45:IC:=.ops [m1 69 0,o1 70 (.nilck (.t 69)),o1 71 (.faddr (.t 70) 0),o1 72 (.load (.t 71) 1 false),m1 73 6,m1 74 0,o1 75 (.nilck (.t 74)),o1 76 (.faddr (.t 75) 0),o1 77 (.load (.t 76) 1 false),m1 78 6,o1 79 (.iaddr (.t 77) (.t 78) 86 3),o1 80 (.faddr (.t 79) 2),o1 81 (.load (.t 80) 1 false),o1 82 (.faddr (.t 8) 0),o1 83 (.load (.t 82) 1 false),o1 84 (.msl false 9 1 [.t 83]),⟨some 85,.app (.t 81) (.t 84) 9 1,none,[.t 71]⟩,o1 86 (.iaddr (.t 72) (.t 73) 86 3),o1 87 (.faddr (.t 86) 2),o0 (.store (.t 87) (.t 85) 1)] [0,6,8,9,10,11,51,52,53] [[0,1],[1,2],[2,3],[5,6],[6,7],[7,8],[8,10],[9,10],[10,11],[11,12],[13,14],[14,15],[8,10,11,12,16],[10,11,12,16],[12,16],[14,15,16],[15,16],[3,17],[4,17],[16,17],[17,18],[3,19],[8,19],[10,19],[12,19],[14,19],[16,19],[17,18,19],[18,19]]
def f81_46:IC:=.opx [m1 88 0,o1 89 (.faddr (.t 8) 1),o1 90 (.load (.t 89) 1 false)] [0,6,9,10,11,51,52,53,88,90] 91 81 [(.t 88),(.t 90)] [] [0,6,9,10,11,51,52,53]
def f81_36:IC:=.seq (.block 3 (.seq (.ops [o1 55 (.iaddr (.t 51) (.t 53) 77 2),o1 56 (.load (.t 55) 2 true),o1 8 (.alloc (.agg [(.s []),.nil])),o0 (.store (.t 8) (.t 56) 2)] [0,6,8,9,10,11,51,52,53] []) (.seq (.seq (.wk f81_43) (.cond (.t 68) f81_45 .skip)) f81_46))) (.ops [o1 92 (.bin .add (.t 53) (ci 1)),m1 53 92] [0,6,9,10,11,51,52,53] [])
def f81_32:IC:=.seq (.ops [o1 54 (.bin .lss (.t 53) (.t 52))] [0,6,9,10,11,51,52,53,54] []) (.seq (.cond (.t 54) .skip (.exit 2)) f81_36)
def f81_28:IC:=.seq (.ops [o1 50 (.faddr (.t 5) 4),o1 51 (.load (.t 50) 1 false),o1 52 (.lenL (.t 51)),o1 53 (.mv (ci 0))] [0,6,9,10,11,51,52,53] []) (.block 2 (.loop f81_32))
def f81_21:IC:=.seq (.seq (.ops [m1 29 6,o1 30 (.bin .lss (.t 29) (ci 0))] [0,5,6,9,10,11,30] []) (.cond (.t 30) f81_25 .skip)) f81_28
def f81_19:IC:=.seq (.ops [m1 23 0,o1 24 (.faddr (.t 5) 0),o1 25 (.load (.t 24) 1 false),o1 26 (.faddr (.t 5) 2),o1 27 (.load (.t 26) 1 false),o1 28 (.calls 123 [.t 23,.t 25,.t 27]),m1 6 28] [0,5,6,9,10,11] []) f81_21
def f81_12:IC:=.seq (.opx [m1 15 0,o1 16 (.faddr (.t 5) 5),o1 17 (.load (.t 16) 1 false)] [0,5,9,10,11,15,17] 18 81 [(.t 15),(.t 17)] [] [0,5,9,10,11]) (.seq (.seq (.wk f81_17) (.cond (.t 22) (.exit 1) .skip)) f81_19)
def f81_8:IC:=.seq (.block 1 (.seq (.ops [o1 13 (.iaddr (.t 9) (.t 11) 75 6),o1 14 (.load (.t 13) 6 true),o1 5 (.alloc (.agg [(.i .i64 0),(.s []),(.s []),(.s []),.nil,.nil])),o0 (.store (.t 5) (.t 14) 6)] [0,5,9,10,11] []) f81_12)) (.ops [o1 93 (.bin .add (.t 11) (ci 1)),m1 11 93] [0,9,10,11] [])
def f81_4:IC:=.seq (.ops [o1 12 (.bin .lss (.t 11) (.t 10))] [0,9,10,11,12] []) (.seq (.cond (.t 12) .skip (.exit 0)) f81_8)
def f81_0:IC:=.seq (.ops [m1 9 1,o1 10 (.lenL (.t 9)),o1 11 (.mv (ci 0))] [0,9,10,11] []) (.block 0 (.loop f81_4))
@[push_cast]def f81R:List R:=[]
@[push_cast]def f81e:=aWv f81_17.eq_1<|aWv f81_27.eq_1<|aWv f81_25.eq_1<|aWv f81_43.eq_1<|aWv f81_45.eq_1<|aWv f81_46.eq_1<|aWv f81_36.eq_1<|aWv f81_32.eq_1<|aWv f81_28.eq_1<|aWv f81_21.eq_1<|aWv f81_19.eq_1<|aWv f81_12.eq_1<|aWv f81_8.eq_1<|aWv f81_4.eq_1<|aWu f81_0.eq_1
theorem f81ok:okFn Tryz.prog 81 94 f81_0 f81R=true:=by kernel_rfl
def f39_9:IC:=.ops [m1 10 3,o1 11 (.nilck (.t 10)),o1 12 (.faddr (.t 11) 0),o1 13 (.load (.t 12) 1 false),o1 14 (.lenL (.t 13)),o1 15 (.mv (ci 0))] [3,14,15] []
def f39_20:IC:=.ops [m1 18 3,o1 19 (.nilck (.t 18)),o1 20 (.faddr (.t 19) 0),o1 21 (.load (.t 20) 1 false),m1 22 4,m1 23 3,o1 24 (.nilck (.t 23)),o1 25 (.faddr (.t 24) 0),o1 26 (.load (.t 25) 1 false),m1 27 4,o1 28 (.iaddr (.t 26) (.t 27) 86 3),o1 29 (.load (.t 28) 3 true),o1 30 (.call 82 [.t 29]),o1 31 (.iaddr (.t 21) (.t 22) 86 3),o1 32 (.faddr (.t 31) 2),o0 (.store (.t 32) (.t 30) 1)] [3,14,15] [[0,1],[1,2],[2,3],[5,6],[6,7],[7,8],[8,10],[9,10],[10,11],[11,12],[3,13],[4,13],[13,14],[3,15],[8,15],[10,15],[11,15],[12,15],[13,14,15],[14,15]]
def f39_16:IC:=.seq (.block 1 (.seq (.ops [m1 17 15,m1 4 17] [3,4,14,15] []) f39_20)) (.ops [o1 33 (.bin .add (.t 15) (ci 1)),m1 15 33] [3,14,15] [])
def f39_12:IC:=.seq (.ops [o1 16 (.bin .lss (.t 15) (.t 14))] [3,14,15,16] []) (.seq (.cond (.t 16) .skip (.exit 0)) f39_16)
def f39_22:IC:=.seq (.ops [m1 34 3,o1 35 (.nilck (.t 34)),o1 36 (.faddr (.t 35) 0),o1 37 (.load (.t 36) 1 false),m1 2 37] [2] []) .ret
def f39_4:IC:=.seq (.opx [m1 7 3,m1 8 0] [3,7,8] 9 81 [(.t 7),(.t 8)] [] [3]) (.seq (.seq (.wk f39_9) (.block 0 (.loop f39_12))) f39_22)
def f39_0:IC:=.seq (.ops [o1 2 (.mv (.c .nil))] [0] []) (.seq (.ops [o1 5 (.build [.nil] []),o1 6 (.box (.t 5)),m1 3 6] [0,3] []) f39_4)
@[push_cast]def f39R:List R:=[.t 2]
@[push_cast]def f39e:=aWv f39_9.eq_1<|aWv f39_20.eq_1<|aWv f39_16.eq_1<|aWv f39_12.eq_1<|aWv f39_22.eq_1<|aWv f39_4.eq_1<|aWu f39_0.eq_1
theorem f39ok:okFn Tryz.prog 39 38 f39_0 f39R=true:=by kernel_rfl
def f82_20:IC:=.ops [m1 26 3,m1 27 5,o1 28 (.msl false 9 1 [.t 27]),o1 29 (.app (.t 26) (.t 28) 9 1),m1 3 29] [1,3,9,10,11] []
def f82_17:IC:=.seq (.ops [m1 15 5,o1 16 (.bin .neq (.t 15) (.c (.s [111,116,104,101,114]))),m1 17 16,⟨some 18,.faddr (.t 1) 0,some (17,true),[]⟩,⟨some 19,.load (.t 18) 1 false,some (17,true),[]⟩,⟨some 20,.bin .eql (.t 19) (ci 9),some (17,true),[]⟩,⟨some 21,.mv (.t 20),some (17,true),[]⟩,⟨some 22,.mv (.t 5),some (21,false),[]⟩,⟨some 23,.call 124 [.t 22,(.c (.s [61]))],some (21,false),[]⟩,⟨some 24,.pick (.t 21) (.c (.b true)) (.t 23),some (17,true),[]⟩,o1 25 (.pick (.t 17) (.t 24) (.c (.b false)))] [1,3,5,9,10,11,25] []) (.cond (.t 25) f82_20 .skip)
def f82_13:IC:=.seq (.block 1 (.seq (.ops [o1 13 (.iaddr (.t 9) (.t 11) 9 1),o1 14 (.load (.t 13) 1 false),m1 5 14] [1,3,5,9,10,11] []) f82_17)) (.ops [o1 30 (.bin .add (.t 11) (ci 1)),m1 11 30] [1,3,9,10,11] [])
def f82_9:IC:=.seq (.ops [o1 12 (.bin .lss (.t 11) (.t 10))] [1,3,9,10,11,12] []) (.seq (.cond (.t 12) .skip (.exit 0)) f82_13)
def f82_41:IC:=.ops [m1 44 3,m1 45 7,o1 46 (.msl false 9 1 [.t 45]),o1 47 (.app (.t 44) (.t 46) 9 1),m1 3 47] [1,3,34,35,36] []
def f82_38:IC:=.seq (.ops [o1 40 (.faddr (.t 1) 2),o1 41 (.load (.t 40) 1 false),m1 42 7,o1 43 (.call 45 [.t 41,.t 42])] [1,3,7,34,35,36,43] []) (.cond (.t 43) f82_41 .skip)
def f82_34:IC:=.seq (.block 3 (.seq (.ops [o1 38 (.iaddr (.t 34) (.t 36) 9 1),o1 39 (.load (.t 38) 1 false),m1 7 39] [1,3,7,34,35,36] []) f82_38)) (.ops [o1 48 (.bin .add (.t 36) (ci 1)),m1 36 48] [1,3,34,35,36] [])
def f82_30:IC:=.seq (.ops [o1 37 (.bin .lss (.t 36) (.t 35))] [1,3,34,35,36,37] []) (.seq (.cond (.t 37) .skip (.exit 2)) f82_34)
def f82_26:IC:=.seq (.ops [o1 34 (.call 125 []),o1 35 (.lenL (.t 34)),o1 36 (.mv (ci 0))] [1,3,34,35,36] []) (.block 2 (.loop f82_30))
def f82_43:IC:=.seq (.ops [m1 49 3,o1 50 (.msl false 9 1 [(.c (.s [111,116,104,101,114]))]),o1 51 (.app (.t 49) (.t 50) 9 1),m1 2 51] [2] []) .ret
def f82_22:IC:=.seq (.seq (.ops [o1 31 (.faddr (.t 1) 0),o1 32 (.load (.t 31) 1 false),o1 33 (.bin .neq (.t 32) (ci 9))] [1,3,33] []) (.cond (.t 33) f82_26 .skip)) f82_43
def f82_4:IC:=.seq (.seq (.ops [o1 8 (.faddr (.t 1) 2),o1 9 (.load (.t 8) 1 false),o1 10 (.lenL (.t 9)),o1 11 (.mv (ci 0))] [1,3,9,10,11] []) (.block 0 (.loop f82_9))) f82_22
def f82_0:IC:=.seq (.ops [o1 1 (.box (.t 0)),o1 2 (.mv (.c .nil))] [1] []) (.seq (.ops [o1 3 (.mv (.c .nil))] [1,3] []) f82_4)
@[push_cast]def f82R:List R:=[.t 2]
@[push_cast]def f82e:=aWv f82_20.eq_1<|aWv f82_17.eq_1<|aWv f82_13.eq_1<|aWv f82_9.eq_1<|aWv f82_41.eq_1<|aWv f82_38.eq_1<|aWv f82_34.eq_1<|aWv f82_30.eq_1<|aWv f82_26.eq_1<|aWv f82_43.eq_1<|aWv f82_22.eq_1<|aWv f82_4.eq_1<|aWu f82_0.eq_1
theorem f82ok:okFn Tryz.prog 82 52 f82_0 f82R=true:=by kernel_rfl
def f125_2:IC:=.seq (.ops [o1 1 (.msl false 9 1 [(.c (.s [122,101,114,111])),(.c (.s [111,110,101])),(.c (.s [116,119,111])),(.c (.s [102,101,119])),(.c (.s [109,97,110,121]))]),m1 0 1] [0] []) .ret
def f125_0:IC:=.seq (.ops [o1 0 (.mv (.c .nil))] [] []) f125_2
@[push_cast]def f125R:List R:=[.t 0]
@[push_cast]def f125e:=aWv f125_2.eq_1<|aWu f125_0.eq_1
theorem f125ok:okFn Tryz.prog 125 2 f125_0 f125R=true:=by kernel_rfl
def f40_19:IC:=.seq (.ops [m1 17 3,o1 18 (.bin .gtr (.t 17) (ci 400))] [3,6,7,8,18] []) (.cond (.t 18) (.seq (.ops [m1 19 3,m1 2 19] [2] []) .ret) .skip)
def f40_17:IC:=.seq (.ops [m1 12 3,o1 13 (.faddr (.t 5) 2),o1 14 (.load (.t 13) 1 false),o1 15 (.lenL (.t 14)),o1 16 (.bin .mul (.t 12) (.t 15)),m1 3 16] [3,6,7,8] []) f40_19
def f40_13:IC:=.seq (.block 1 (.seq (.ops [o1 10 (.iaddr (.t 6) (.t 8) 86 3),o1 11 (.load (.t 10) 3 true),o1 5 (.alloc (.agg [(.i .i64 0),(.s []),.nil])),o0 (.store (.t 5) (.t 11) 3)] [3,5,6,7,8] []) f40_17)) (.ops [o1 20 (.bin .add (.t 8) (ci 1)),m1 8 20] [3,6,7,8] [])
def f40_9:IC:=.seq (.ops [o1 9 (.bin .lss (.t 8) (.t 7))] [3,6,7,8,9] []) (.seq (.cond (.t 9) .skip (.exit 0)) f40_13)
def f40_4:IC:=.seq (.seq (.ops [m1 6 0,o1 7 (.lenL (.t 6)),o1 8 (.mv (ci 0))] [3,6,7,8] []) (.block 0 (.loop f40_9))) (.seq (.ops [m1 21 3,m1 2 21] [2] []) .ret)
def f40_0:IC:=.seq (.ops [o1 2 (.mv (ci 0))] [0] []) (.seq (.ops [o1 3 (.mv (ci 1))] [0,3] []) f40_4)
@[push_cast]def f40R:List R:=[.t 2]
@[push_cast]def f40e:=aWv f40_19.eq_1<|aWv f40_17.eq_1<|aWv f40_13.eq_1<|aWv f40_9.eq_1<|aWv f40_4.eq_1<|aWu f40_0.eq_1
theorem f40ok:okFn Tryz.prog 40 22 f40_0 f40R=true:=by kernel_rfl
end Go.Ir
section
namespace Go.Ir
structure Sel where
 kind:Int
 name:Bytes
 keys:List Bytes
def selIs (k:Int) (n:Bytes) (s:Sel):Bool:=s.kind == k&&s.name == n
def findI (l:List Sel) (k:Int) (n:Bytes):Int:=idxI (selIs k n) l
def addKey (key:Bytes) (s:Sel):Sel:=if s.keys.contains key then s else { s with keys:=s.keys++[key] }
def selAt (l:List Sel) (k:Int) (n:Bytes):Nat:=if findI l k n<0 then l.length else (findI l k n).toNat
def selAdd (l:List Sel) (k:Int) (n:Bytes):List Sel:=if findI l k n<0 then l++[⟨k,n,[]⟩] else l
mutual
def Part.coll:Part->List Sel->List Sel
 | ⟨k,_,nm,_,cs,ps⟩,l=>
  if selB k then collCs cs (selAt (collPs ps l) k nm) (selAdd (collPs ps l) k nm) else collPs ps l
def collPs:List Part->List Sel->List Sel
 | [],l=>l
 | p::ps,l=>collPs ps (p.coll l)
def collCs:List (Bytes × List Part)->Nat->List Sel->List Sel
 | [],_,l=>l
 | (key,ps)::cs,j,l=>collCs cs j (collPs ps (l.modify j (addKey key)))
end
theorem Part.coll_eq (p:Part) (l:List Sel):p.coll l=if selB p.kind then collCs p.cases (selAt (collPs p.parts l) p.kind p.name) (selAdd (collPs p.parts l) p.kind p.name) else collPs p.parts l:=by cases p;simp only [Part.coll]
theorem collPs_cons (p:Part) (ps:List Part) (l:List Sel):collPs (p::ps) l=collPs ps (p.coll l):=by simp only [collPs]
theorem collCs_cons (c:Case) (cs:List Case) (j:Nat) (l:List Sel):collCs (c::cs) j l=collCs cs j (collPs c.2 (l.modify j (addKey c.1))):=by obtain ⟨a,b⟩:=c;simp only [collCs]
mutual
def Part.rcoll:Part->List Sel->List Sel
 | ⟨k,_,nm,_,cs,ps⟩,l=>
  if selB k then rcollCs cs k nm (selAdd (rcollPs ps l) k nm) else rcollPs ps l
def rcollPs:List Part->List Sel->List Sel
 | [],l=>l
 | p::ps,l=>rcollPs ps (p.rcoll l)
def rcollCs:List (Bytes × List Part)->Int->Bytes->List Sel->List Sel
 | [],_,_,l=>l
 | (key,ps)::cs,k,nm,l=>rcollCs cs k nm (rcollPs ps (l.modify (findI l k nm).toNat (addKey key)))
end
theorem Part.rcoll_eq (p:Part) (l:List Sel):p.rcoll l=if selB p.kind then rcollCs p.cases p.kind p.name (selAdd (rcollPs p.parts l) p.kind p.name) else rcollPs p.parts l:=by cases p;simp only [Part.rcoll]
theorem rcollPs_cons (p:Part) (ps:List Part) (l:List Sel):rcollPs (p::ps) l=rcollPs ps (p.rcoll l):=by simp only [rcollPs]
theorem rcollCs_cons (c:Case) (cs:List Case) (k:Int) (nm:Bytes) (l:List Sel):rcollCs (c::cs) k nm l=rcollCs cs k nm (rcollPs c.2 (l.modify (findI l k nm).toNat (addKey c.1))):=by obtain ⟨a,b⟩:=c;simp only [rcollCs]
def selW:List Sel->Nat
 | []=>0
 | s::l=>1+s.keys.length+selW l
theorem selW_app (a b:List Sel):selW (a++b)=selW a+selW b:=by
 induction a with
 | nil=>simp [selW]
 | cons s a ih=>simp [selW,ih];omega
theorem selW_mod (l:List Sel) (j:Nat) (key:Bytes):selW (l.modify j (addKey key))<=selW l+1:=by
 induction l generalizing j with
 | nil=>simp [selW]
 | cons s l ih=>
  cases j with
  | zero=>
   simp only [List.modify_zero_cons,selW]
   unfold addKey
   split
   ·omega
   ·simp;omega
  | succ j=>simp only [List.modify_succ_cons,selW];have:=ih j;omega
theorem selW_add (l:List Sel) (k:Int) (n:Bytes):selW (selAdd l k n)<=selW l+1:=by
 unfold selAdd
 split
 ·rw [selW_app];simp [selW]
 ·omega
theorem len_selW (l:List Sel):l.length<=selW l:=by
 induction l with
 | nil=>simp
 | cons s l ih=>simp [selW];omega
theorem keys_selW {l:List Sel} {s:Sel} (h:s∈l):s.keys.length<=selW l:=by
 induction l with
 | nil=>cases h
 | cons d l ih=>
  simp only [selW]
  rcases List.mem_cons.1 h with rfl|h
  ·omega
  ·have:=ih h;omega
theorem coll_w:∀(N:Nat) (ps:List Part),wtPs ps<N->∀l,selW (collPs ps l)<=selW l+wtPs ps:=by
 intro N
 induction N with
 | zero=>intro ps h;omega
 | succ N ih=>
  have hcs:∀cs:List Case,wtCs cs<N->∀j l,selW (collCs cs j l)<=selW l+wtCs cs:=by
   intro cs
   induction cs with
   | nil=>intro _ j l;simp [collCs]
   | cons c cs ih2=>
    intro h j l;rw [wtCs_cons] at h;rw [collCs_cons,wtCs_cons]
    have h1:=ih c.2 (by omega) (l.modify j (addKey c.1));have h2:=ih2 (by omega) j (collPs c.2 (l.modify j (addKey c.1)));have h3:=selW_mod l j c.1;omega
  intro ps
  induction ps with
  | nil=>intro _ l;simp [collPs]
  | cons p ps ih2=>
   intro h l;rw [wtPs_cons] at h;rw [collPs_cons,wtPs_cons];have h3:=ih2 (by omega) (p.coll l)
   rw [p.wt_eq] at *;rw [p.coll_eq] at *
   have h1:=ih p.parts (by omega) l
   split at h3
   ·have h2:=hcs p.cases (by omega) (selAt (collPs p.parts l) p.kind p.name) (selAdd (collPs p.parts l) p.kind p.name)
    have h4:=selW_add (collPs p.parts l) p.kind p.name
    rename_i hs
    rw [if_pos hs]
    omega
   ·rename_i hs
    rw [if_neg hs]
    omega
theorem collPs_w (ps:List Part) (l:List Sel):selW (collPs ps l)<=selW l+wtPs ps:=coll_w _ ps (Nat.lt_succ_self _) l
def SelExt (l l':List Sel):Prop:=l.length<=l'.length/\∀(i:Nat) (s s':Sel),l[i]? = some s->l'[i]? = some s'->s.kind=s'.kind/\s.name=s'.name
theorem SelExt.refl (l:List Sel):SelExt l l:=⟨Nat.le_refl _,fun i s s' h h'=>by rw [h] at h';cases h';exact ⟨rfl,rfl⟩⟩
theorem SelExt.trans {a b c:List Sel} (h:SelExt a b) (k:SelExt b c):SelExt a c:=by
 refine ⟨Nat.le_trans h.1 k.1,fun i s s' hs hs'=>?_⟩
 have hi:i<b.length:=Nat.lt_of_lt_of_le (List.getElem?_eq_some_iff.1 hs).1 h.1
 have hm:b[i]? = some b[i]:=List.getElem?_eq_getElem hi
 have h1:=h.2 i s _ hs hm
 have h2:=k.2 i _ s' hm hs'
 exact ⟨h1.1.trans h2.1,h1.2.trans h2.2⟩
theorem SelExt.app (l m:List Sel):SelExt l (l++m):=by
 refine ⟨by simp,fun i s s' h h'=>?_⟩
 have hi:i<l.length:=(List.getElem?_eq_some_iff.1 h).1
 rw [List.getElem?_append_left hi,h] at h'
 cases h';exact ⟨rfl,rfl⟩
theorem addKey_same (key:Bytes) (s:Sel):(addKey key s).kind=s.kind/\(addKey key s).name=s.name:=by
 unfold addKey;split<;>exact ⟨rfl,rfl⟩
theorem SelExt.mod (l:List Sel) (j:Nat) (key:Bytes):SelExt l (l.modify j (addKey key)):=by
 refine ⟨by simp,fun i s s' h h'=>?_⟩
 rw [List.getElem?_modify,h] at h'
 by_cases hj:j=i
 ·have h2:addKey key s=s':=by simpa [hj] using h'
  rw [<-h2]
  have:=addKey_same key s
  exact ⟨this.1.symm,this.2.symm⟩
 ·have h2:s=s':=by simpa [hj] using h'
  rw [<-h2];exact ⟨rfl,rfl⟩
theorem findI_ext {l l':List Sel} (h:SelExt l l') (k:Int) (n:Bytes) (hf:¬findI l k n<0):findI l' k n=findI l k n:=by
 induction l generalizing l' with
 | nil=>exact absurd (by simp [findI,idxI]) hf
 | cons s l ih=>
  cases l' with
  | nil=>have:=h.1;simp at this
  | cons s' l'=>
   have h0:=h.2 0 s s' rfl rfl
   have ht:SelExt l l':=⟨by have:=h.1;simpa using this,fun i a b ha hb=>h.2 (i+1) a b (by simpa using ha) (by simpa using hb)⟩
   have he:selIs k n s'=selIs k n s:=by unfold selIs;rw [h0.1,h0.2]
   unfold findI at *
   simp only [idxI,he] at hf⊢
   cases hs:selIs k n s with
   | true=>simp
   | false=>
    simp only [hs,cond_false] at hf⊢
    have hf2:¬idxI (selIs k n) l<0:=by
     intro hlt;rw [if_pos hlt] at hf;exact hf (by decide)
    rw [ih ht hf2]
theorem findI_end (l:List Sel) (k:Int) (n:Bytes) (h:findI l k n<0):findI (l++[⟨k,n,[]⟩]) k n=l.length:=by
 unfold findI at *
 induction l with
 | nil=>simp [idxI,selIs]
 | cons s l ih=>
  simp only [idxI,List.cons_append] at h⊢
  cases hs:selIs k n s with
  | true=>simp [hs] at h
  | false=>
   simp only [hs,cond_false] at h⊢
   have h2:idxI (selIs k n) l<0:=by
    have:=idxI_lo (selIs k n) l
    split at h
    ·assumption
    ·omega
   rw [ih h2,if_neg (by omega)];simp
theorem selAt_ge (l:List Sel) (k:Int) (n:Bytes):¬findI (selAdd l k n) k n<0/\(findI (selAdd l k n) k n).toNat=selAt l k n:=by
 unfold selAdd selAt
 by_cases h:findI l k n<0
 ·rw [if_pos h,if_pos h]
  rw [findI_end l k n h]
  exact ⟨by omega,by omega⟩
 ·rw [if_neg h,if_neg h]
  exact ⟨h,rfl⟩
theorem coll_same:∀(N:Nat) (ps:List Part),wtPs ps<N->∀l,rcollPs ps l=collPs ps l/\SelExt l (collPs ps l):=by
 intro N
 induction N with
 | zero=>intro ps h;omega
 | succ N ih=>
  have hcs:∀cs:List Case,wtCs cs<N->∀(k:Int) (nm:Bytes) (j:Nat) l,¬findI l k nm<0->(findI l k nm).toNat=j->rcollCs cs k nm l=collCs cs j l/\SelExt l (collCs cs j l):=by
   intro cs
   induction cs with
   | nil=>intro _ k nm j l _ _;simp [rcollCs,collCs,SelExt.refl]
   | cons c cs ih2=>
    intro h k nm j l hf hj
    rw [wtCs_cons] at h;rw [collCs_cons,rcollCs_cons,hj]
    obtain ⟨h1,h2⟩:=ih c.2 (by omega) (l.modify j (addKey c.1))
    have he:=(SelExt.mod l j c.1).trans h2
    have hf2:=findI_ext he k nm hf
    obtain ⟨h3,h4⟩:=ih2 (by omega) k nm j (collPs c.2 (l.modify j (addKey c.1))) (by rw [hf2];exact hf) (by rw [hf2];exact hj)
    rw [h1]
    exact ⟨h3,he.trans h4⟩
  intro ps
  induction ps with
  | nil=>intro _ l;simp [rcollPs,collPs,SelExt.refl]
  | cons p ps ih2=>
   intro h l;rw [wtPs_cons] at h;rw [collPs_cons,rcollPs_cons]
   have hw:=p.wt_eq
   obtain ⟨a1,a2⟩:=ih p.parts (by omega) l
   have hp:p.rcoll l=p.coll l/\SelExt l (p.coll l):=by
    rw [p.coll_eq,p.rcoll_eq,a1]
    split
    ·obtain ⟨b1,b2⟩:=selAt_ge (collPs p.parts l) p.kind p.name
     obtain ⟨c1,c2⟩:=hcs p.cases (by omega) p.kind p.name _ _ b1 b2
     refine ⟨c1,(a2.trans ?_).trans c2⟩
     unfold selAdd
     split
     ·exact SelExt.app _ _
     ·exact SelExt.refl _
    ·exact ⟨rfl,a2⟩
   obtain ⟨d1,d2⟩:=ih2 (by omega) (p.coll l)
   rw [hp.1]
   exact ⟨d1,hp.2.trans d2⟩
end Go.Ir
end
namespace Go.Ir
open Go.Proofs
theorem lk_mem_of {σ:Sto} {i:Id} {e:Ent} (h:lk σ i=some e):(i,e)∈σ:=by
 induction σ with
 | nil=>cases h
 | cons p σ ih=>
  obtain ⟨k,x⟩:=p
  simp only [lk] at h
  split at h
  ·rename_i h1;subst h1;cases h;simp
  ·exact List.mem_cons_of_mem _ (ih h)
theorem mem_lk_of {σ:Sto} {i:Id} {e:Ent} (hn:(σ.map (·.1)).Nodup) (h:(i,e)∈σ):lk σ i=some e:=by
 induction σ with
 | nil=>cases h
 | cons p σ ih=>
  obtain ⟨k,x⟩:=p
  rw [List.map_cons,List.nodup_cons] at hn
  simp only [lk]
  rcases List.mem_cons.1 h with h1|h1
  ·cases h1;rw [if_pos rfl]
  ·rw [if_neg,ih hn.2 h1]
   rintro rfl
   exact hn.1 (List.mem_map.2 ⟨_,h1,rfl⟩)
theorem lk_none_of {σ:Sto} {i:Id} (h:∀p∈σ,p.1≠i):lk σ i=none:=by
 cases hl:lk σ i with
 | none=>rfl
 | some e=>exact absurd rfl (h _ (lk_mem_of hl))
theorem del_none {σ:Sto} {i:Id} (h:∀p∈σ,p.1≠i):del σ i=σ:=by
 induction σ with
 | nil=>rfl
 | cons p σ ih=>
  obtain ⟨k,x⟩:=p
  simp only [del]
  rw [if_neg (h (k,x) (by simp)),ih fun q hq=>h q (List.mem_cons_of_mem _ hq)]
theorem lk_app_left {σ τ:Sto} {i:Id} {e:Ent} (h:lk σ i=some e):lk (σ++τ) i=some e:=by
 induction σ with
 | nil=>cases h
 | cons p σ ih=>
  obtain ⟨k,x⟩:=p
  rw [List.cons_append]
  simp only [lk] at h⊢
  split at h
  ·rename_i h1;rw [if_pos h1];exact h
  ·rename_i h1;rw [if_neg h1];exact ih h
theorem over_mid {σi σo pre post:Sto} (h1:∀p∈pre,∀q∈σi,p.1≠q.1) (h2:∀p∈post,∀q∈σi,p.1≠q.1):over σi σo (pre++σi++post)=σo++(pre++post):=by
 have keep:∀τ:Sto,(∀p∈τ,∀q∈σi,p.1≠q.1)->List.filter (fun p:Id × Ent=>(lk σi p.1).isNone) τ=τ:=by
  intro τ h
  rw [List.filter_eq_self]
  intro p hp
  rw [lk_none_of fun q hq=>Ne.symm (h p hp q hq)];rfl
 have gone:List.filter (fun p:Id × Ent=>(lk σi p.1).isNone) σi=[]:=by
  rw [List.filter_eq_nil_iff]
  intro p hp hh
  cases hl:lk σi p.1 with
  | none=>
   clear keep
   revert hp hl
   generalize σi=τ
   intro hp hl
   induction τ with
   | nil=>cases hp
   | cons q τ ih=>
    obtain ⟨k,x⟩:=q
    simp only [lk] at hl
    split at hl
    ·cases hl
    ·rename_i hne
     rcases List.mem_cons.1 hp with rfl|hp
     ·exact hne rfl
     ·exact ih hp hl
  | some e=>rw [hl] at hh;cases hh
 unfold over
 rw [List.filter_append,List.filter_append,keep pre h1,gone,keep post h2,List.append_nil]
theorem StLe.sub {W0:World} {nt n n':Nat} {env:Env} {σ σ':Sto} (hnd:(σ.map (·.1)).Nodup) (h:∀p∈σ',p∈σ) (hn:n<=n'):StLe W0 nt ⟨env,σ,n⟩ ⟨env,σ',n'⟩:=
 StLe.drop (fun i e hl=>mem_lk_of hnd (h _ (lk_mem_of hl))) hn
theorem StLe.pre {W0:World} {nt n n':Nat} {env:Env} {σ τ:Sto} (hn:n<=n'):StLe W0 nt ⟨env,σ++τ,n⟩ ⟨env,σ,n'⟩:=
 StLe.drop (fun i e hl=>lk_app_left hl) hn
abbrev OS:=Sel × Option Id
def sv (o:Option Id):V:=match o with
 | none=>.nil
 | some id=>.arr id
def osV (x:OS):V:=.agg [.i .i64 x.1.kind,.s x.1.name,sv x.2]
def osE (x:OS):Sto:=match x.2 with
 | none=>[]
 | some id=>[(id,.arr 9 1 (x.1.keys.map V.s))]
def ossE (L:List OS):Sto:=L.flatMap osE
def slE (e:Nat) (lo:Option Id) (L:List OS):Sto:=match lo with
 | none=>[]
 | some id=>[(id,.arr e 3 (L.map osV))]
def selS (e:Nat) (lo:Option Id) (L:List OS):Sto:=slE e lo L++ossE L
theorem ossE_app (A B:List OS):ossE (A++B)=ossE A++ossE B:=by simp [ossE]
theorem ossE_cons (x:OS) (B:List OS):ossE (x::B)=osE x++ossE B:=by simp [ossE]
structure SelOk (e:Nat) (hd:Sto) (lo:Option Id) (L:List OS) (n:Nat):Prop where
 nd:((hd++selS e lo L).map (·.1)).Nodup
 lt:∀p∈hd++selS e lo L,p.1.1<n
 ne:lo=none->L=[]
 kn:∀x∈L,x.2=none->x.1.keys=[]
end Go.Ir
namespace Go.Ir
open Go.Proofs
variable (W0 : World)
theorem ne_idx {id:Id} {a j:Nat} (h:id.1<a):((a,j)=id)=False:=by
 apply eq_false;rintro rfl;exact Nat.lt_irrefl _ h
theorem c_find1 (x:OS) (k:Int) (n:Bytes) (kid nid:Id) (σ:Sto) (hk:lk σ kid=some (.box (.i .i64 k))) (hn:lk σ nid=some (.box (.s n))) :
  RetS Tryz.prog W0 150 [osV x,.ref kid 0,.ref nid 0] σ (.b (selIs k n x.1)) σ:=by
 generalize hS:selIs k n x.1=S
 unfold selIs at hS
 refine fn_retW (vs:=[.b S]) f150ok (by simp) (fun _ h=>h) fun n0 hn0=>?_
 have h1:∀j,((n0,j)=kid)=False:=fun j=>ne_idx (hn0 _ _ hk)
 have h2:∀j,((n0,j)=nid)=False:=fun j=>ne_idx (hn0 _ _ hn)
 unfold osV
 simp only [push_cast,seval,reduceEqDiff,h1,h2,hk,hn]
 repeat' (first|(((first|apply condU_s|apply gdU_t|apply gdU_f)<;>intro _h)<;>simp only [push_cast,seval,reduceEqDiff,_h,h1,h2,hk,hn])|intro _)
 all_goals subst hS
 all_goals (refine finW_retS (by simp [get, *]) (fun i e h=>lk_fresh (hn0 i e h) h))
theorem c_find (k:Int) (n:Bytes) (cid:Id) (lo:Option Id) (L:List OS) (hl:L.length<=2^40) (hne:lo=none->L=[]) (hid:∀id,lo=some id->id≠cid) :
  RetS Tryz.prog W0 123 [.ref cid 0,.i .i64 k,.s n] ((cid,.box (.agg [sv lo]))::slE 86 lo L) (.i .i64 (findI (L.map (·.1)) k n)) ((cid,.box (.agg [sv lo]))::slE 86 lo L):=by
 generalize hS:findI (L.map (·.1)) k n=S
 refine fn_retW (vs:=[.i .i64 S]) f123ok (by simp) (fun _ h=>h) fun n0 hn0=>?_
 have hc:cid.1<n0:=hn0 cid (.box (.agg [sv lo])) (by simp [lk])
 have h1:∀j,((n0,j)=cid)=False:=fun j=>ne_idx hc
 cases lo with
 | none=>
  have hL:=hne rfl
  subst hL
  have hS0:S = -1:=by rw [<-hS];rfl
  subst hS0
  unfold slE sv
  simp only [push_cast,seval,reduceEqDiff,h1]
  intro _
  refine c_calls (σi:=[]) (σo:=[]) (indexFuncN_ret W0 (f:=87) (e:=86) (sz:=3) (ag:=true) (by kernel_rfl) _ _ _ []) (fun _ _ h=>by cases h) ?_
  rw [show ∀σ,over [] [] σ=σ from over_nil]
  simp only [push_cast,seval,reduceEqDiff,h1]
  intro _
  exact finW_retS (by simp [get]) (fun i e h=>lk_fresh (hn0 i e h) (lk_fresh (hn0 i e h) h))
 | some lid=>
  have hlc:=hid lid rfl
  have hl0:lid.1<n0:=hn0 lid (.arr 86 3 (L.map osV)) (by simp [slE,lk,Ne.symm hlc])
  have h2:∀j,((n0,j)=lid)=False:=fun j=>ne_idx hl0
  unfold slE sv
  simp only [push_cast,seval,reduceEqDiff,h1,h2]
  intro k1
  have hidx:=indexFuncA_ret W0 (P:=Tryz.prog) (f:=87) (e:=86) (sz:=3) (ag:=true) (by kernel_rfl) osV L (fun x=>selIs k n x.1) 150 [] [.ref (n0,4) 0,.ref (n0,5) 0]
   [((n0,5),.box (.s n)),((n0,4),.box (.i .i64 k)),(cid,.box (.agg [.arr lid])),(lid,.arr 86 3 (L.map osV))] lid 86 (by simp [lk,h1,h2,Ne.symm hlc]) (fun x _=>elOk_agg rfl) (fun x _=>c_find1 W0 x k n _ _ _ (by simp [lk]) (by simp [lk])) (by omega)
  have hS2:idxI (fun x:OS=>selIs k n x.1) L=S:=by
   rw [<-hS];unfold findI
   clear hS hidx hl hn0 hne hid
   induction L with
   | nil=>rfl
   | cons x L ih=>simp only [List.map_cons,idxI,ih]
  rw [hS2] at hidx
  refine c_calls hidx (fun _ _ h=>h) ?_
  rw [over_self]
  simp only [push_cast,seval,reduceEqDiff,h1,h2]
  intro _
  exact finW_retS (by simp [get]) (fun i e h=>lk_fresh (hn0 i e h) (lk_fresh (hn0 i e h) h))
end Go.Ir
namespace Go.Ir
open Go.Proofs
structure SelO (T:Nat) (lo:Option Id) (L:List OS) (n:Nat):Prop where
 nd:((selS T lo L).map (·.1)).Nodup
 lt:∀p∈selS T lo L,p.1.1<n
 ne:lo=none->L=[]
 kn:∀x∈L,x.2=none->x.1.keys=[]
theorem SelO.more {T:Nat} {lo:Option Id} {L:List OS} {n n':Nat} (h:SelO T lo L n) (hn:n<=n'):SelO T lo L n':=⟨h.nd,fun p hp=>Nat.lt_of_lt_of_le (h.lt p hp) hn,h.ne,h.kn⟩
theorem selS_none {T:Nat} {L:List OS}:selS T none L=ossE L:=rfl
theorem selS_some {T:Nat} {id:Id} {L:List OS}:selS T (some id) L=(id,.arr T 3 (L.map osV))::ossE L:=rfl
theorem nd_cons {a:Id × Ent} {σ:Sto} (h:(σ.map (·.1)).Nodup) (ha:∀p∈σ,p.1≠a.1):((a::σ).map (·.1)).Nodup:=by
 rw [List.map_cons,List.nodup_cons]
 refine ⟨fun hm=>?_,h⟩
 obtain ⟨p,hp,he⟩:=List.mem_map.1 hm
 exact ha p hp he
theorem nd_inv {a:Id × Ent} {σ:Sto} (h:((a::σ).map (·.1)).Nodup):(σ.map (·.1)).Nodup/\∀p∈σ,p.1≠a.1:=by
 rw [List.map_cons,List.nodup_cons] at h
 exact ⟨h.2,fun p hp he=>h.1 (List.mem_map.2 ⟨p,hp,he⟩)⟩
theorem nd_app {σ τ:Sto} (h:(σ.map (·.1)).Nodup) (k:(τ.map (·.1)).Nodup) (hd:∀p∈σ,∀q∈τ,p.1≠q.1):((σ++τ).map (·.1)).Nodup:=by
 rw [List.map_append,List.nodup_append]
 refine ⟨h,k,fun a ha b hb he=>?_⟩
 obtain ⟨p,hp,rfl⟩:=List.mem_map.1 ha
 obtain ⟨q,hq,rfl⟩:=List.mem_map.1 hb
 exact hd p hp q hq he
theorem nd_app_inv {σ τ:Sto} (h:((σ++τ).map (·.1)).Nodup):(σ.map (·.1)).Nodup/\(τ.map (·.1)).Nodup/\∀p∈σ,∀q∈τ,p.1≠q.1:=by
 rw [List.map_append,List.nodup_append] at h
 exact ⟨h.1,h.2.1,fun p hp q hq=>h.2.2 _ (List.mem_map.2 ⟨p,hp,rfl⟩) _ (List.mem_map.2 ⟨q,hq,rfl⟩)⟩
theorem nd_sub {σ τ:Sto} (h:(σ.map (·.1)).Nodup) (hs:List.Sublist τ σ):(τ.map (·.1)).Nodup:=h.sublist (hs.map _)
theorem SelO.arr {T:Nat} {lid:Id} {L:List OS} {n:Nat} (h:SelO T (some lid) L n):lid.1<n/\(∀p∈ossE L,p.1≠lid)/\(∀p∈ossE L,p.1.1<n)/\((ossE L).map (·.1)).Nodup:=by
 have h1:((ossE L).map (·.1)).Nodup/\∀p∈ossE L,p.1≠lid:=nd_inv (a:=(lid,.arr T 3 (L.map osV))) h.nd
 exact ⟨h.lt (lid,.arr T 3 (L.map osV)) (by simp [selS_some]),h1.2,fun p hp=>h.lt p (by simp [selS_some,hp]),h1.1⟩
theorem SelO.add {T:Nat} {lo:Option Id} {L:List OS} {n n':Nat} {id:Id} (h:SelO T lo L n) (hi:n<=id.1) (hi':id.1<n') (k:Int) (nm:Bytes):SelO T (some id) (L++[(⟨k,nm,[]⟩,none)]) n':=by
 have hE:ossE (L++[(⟨k,nm,[]⟩,none)])=ossE L:=by rw [ossE_app];simp [ossE,osE]
 have hsub:∀p∈ossE L,p∈selS T lo L:=fun p hp=>List.mem_append_right _ hp
 have hnd:((ossE L).map (·.1)).Nodup:=nd_sub h.nd (List.sublist_append_right _ _)
 refine ⟨?_,?_,(by simp),?_⟩
 ·rw [selS_some,hE]
  refine nd_cons hnd fun p hp he=>?_
  have:=h.lt p (hsub p hp)
  simp only at he
  rw [he] at this;omega
 ·rw [selS_some,hE]
  intro p hp
  rcases List.mem_cons.1 hp with rfl|hp
  ·exact hi'
  ·have:=h.lt p (hsub p hp);omega
 ·intro x hx hn
  rcases List.mem_append.1 hx with hx|hx
  ·exact h.kn x hx hn
  ·simp at hx;rw [hx]
theorem SelO.key {T:Nat} {lid:Id} {A B:List OS} {x:OS} {n n':Nat} {id:Id} (h:SelO T (some lid) (A++x::B) n) (hi:n<=id.1) (hi':id.1<n') (s:Sel):SelO T (some lid) (A++(s,some id)::B) n':=by
 obtain ⟨h1,h2,h3,h4⟩:=h.arr
 have hE:ossE (A++x::B)=ossE A++(osE x++ossE B):=by rw [ossE_app,ossE_cons]
 have hE2:ossE (A++(s,some id)::B)=ossE A++((id,.arr 9 1 (s.keys.map V.s))::ossE B):=by rw [ossE_app,ossE_cons];rfl
 rw [hE] at h2 h3 h4
 have hold:∀p∈ossE A++ossE B,p.1≠lid/\p.1.1<n:=by
  intro p hp
  have:p∈ossE A++(osE x++ossE B):=by
   rcases List.mem_append.1 hp with hp|hp
   ·exact List.mem_append_left _ hp
   ·exact List.mem_append_right _ (List.mem_append_right _ hp)
  exact ⟨h2 p this,h3 p this⟩
 have hnd:((ossE A++ossE B).map (·.1)).Nodup:=nd_sub h4 ((List.Sublist.refl _).append (List.sublist_append_right _ _))
 obtain ⟨n1,n2,n3⟩:=nd_app_inv hnd
 refine ⟨?_,?_,(by simp),?_⟩
 ·rw [selS_some,hE2]
  refine nd_cons (nd_app n1 (nd_cons n2 fun p hp he=>?_) fun p hp q hq=>?_) fun p hp=>?_
  ·have:=(hold p (List.mem_append_right _ hp)).2
   simp only at he
   rw [he] at this;omega
  ·rcases List.mem_cons.1 hq with rfl|hq
   ·intro he
    have:=(hold p (List.mem_append_left _ hp)).2
    simp only at he
    rw [he] at this;omega
   ·exact n3 p hp q hq
  ·rcases List.mem_append.1 hp with hp|hp
   ·exact (hold p (List.mem_append_left _ hp)).1
   ·rcases List.mem_cons.1 hp with rfl|hp
    ·intro he
     simp only at he
     rw [he] at hi;omega
    ·exact (hold p (List.mem_append_right _ hp)).1
 ·rw [selS_some,hE2]
  intro p hp
  rcases List.mem_cons.1 hp with rfl|hp
  ·simp only;omega
  ·rcases List.mem_append.1 hp with hp|hp
   ·have:=(hold p (List.mem_append_left _ hp)).2;omega
   ·rcases List.mem_cons.1 hp with rfl|hp
    ·exact hi'
    ·have:=(hold p (List.mem_append_right _ hp)).2;omega
 ·intro y hy hn
  rcases List.mem_append.1 hy with hy|hy
  ·exact h.kn y (List.mem_append_left _ hy) hn
  ·rcases List.mem_cons.1 hy with rfl|hy
   ·cases hn
   ·exact h.kn y (List.mem_append_right _ (List.mem_cons_of_mem _ hy)) hn
theorem over_pre {σi σo pre:Sto} (h1:∀p∈pre,∀q∈σi,p.1≠q.1):over σi σo (pre++σi)=σo++pre:=by
 have:=over_mid (σi:=σi) (σo:=σo) (pre:=pre) (post:=[]) h1 (by simp)
 simpa using this
theorem set_map (A B:List OS) (x y:OS):((A++x::B).map osV).set A.length (osV y)=(A++y::B).map osV:=by
 simp [List.set_append]
end Go.Ir
namespace Go.Ir
open Go.Proofs
variable (W0 : World)
def TS:Nat:=86
theorem contains_any (l:List Bytes) (k:Bytes):l.contains k=decide (idxI (fun x=>k == x) l>=0):=by
 rw [idxI_ge,List.contains_eq_any_beq]
theorem c_hasA (l:List Bytes) (k:Bytes) (id:Id) (hl:l.length<=2^40):RetS Tryz.prog W0 45 [.arr id,.s k] [(id,.arr 9 1 (l.map V.s))] (.b (l.contains k)) [(id,.arr 9 1 (l.map V.s))]:=by
 rw [contains_any]
 exact containsA_ret W0 (by kernel_rfl) _ _ _ _ (indexSA_ret W0 (f:=92) (e:=9) (by kernel_rfl) l k id _ (by omega))
theorem c_hasN (k:Bytes):RetS Tryz.prog W0 45 [.nil,.s k] [] (.b false) []:=
 containsA_ret W0 (by kernel_rfl) _ _ _ _ (indexN_ret W0 (f:=92) (e:=9) (by kernel_rfl) k)
def colS (cid:Id) (lo:Option Id) (L:List OS):Sto:=(cid,.box (.agg [sv lo]))::selS TS lo L
structure ColO (cid:Id) (lo:Option Id) (L:List OS) (n:Nat):Prop extends SelO TS lo L n where
 c_lt:cid.1<n
 c_ne:∀p∈selS TS lo L,p.1≠cid
theorem ColO.nd' {cid:Id} {lo:Option Id} {L:List OS} {n:Nat} (h:ColO cid lo L n):((colS cid lo L).map (·.1)).Nodup:=nd_cons h.nd h.c_ne
theorem ColO.lt' {cid:Id} {lo:Option Id} {L:List OS} {n:Nat} (h:ColO cid lo L n):∀p∈colS cid lo L,p.1.1<n:=by
 intro p hp
 rcases List.mem_cons.1 hp with rfl|hp
 ·exact h.c_lt
 ·exact h.lt p hp
def FreshS (n:Nat) (lo0:Option Id) (L0:List OS) (lo:Option Id) (L:List OS):Prop:=∀p∈selS TS lo L,n<=p.1.1\/p.1∈(selS TS lo0 L0).map (·.1)
theorem FreshS.refl (n:Nat) (lo:Option Id) (L:List OS):FreshS n lo L lo L:=fun p hp=>.inr (List.mem_map.2 ⟨p,hp,rfl⟩)
theorem FreshS.trans {n n':Nat} {lo0 lo lo':Option Id} {L0 L L':List OS} (h:FreshS n lo0 L0 lo L) (k:FreshS n' lo L lo' L') (hn:n<=n'):FreshS n lo0 L0 lo' L':=by
 intro p hp
 rcases k p hp with h1|h1
 ·exact .inl (Nat.le_trans hn h1)
 ·obtain ⟨q,hq,he⟩:=List.mem_map.1 h1
  rcases h q hq with h2|h2
  ·left;rw [<-he];exact h2
  ·right;rw [<-he];exact h2
theorem ColO.more {cid:Id} {lo:Option Id} {L:List OS} {n n':Nat} (h:ColO cid lo L n) (hn:n<=n'):ColO cid lo L n':=⟨h.toSelO.more hn,Nat.lt_of_lt_of_le h.c_lt hn,h.c_ne⟩
theorem nd_snoc {σ:Sto} {id:Id} {X:Ent} (h:(σ.map (·.1)).Nodup) (hx:∀p∈σ,p.1≠id):((σ++[(id,X)]).map (·.1)).Nodup:=
 nd_app h (by simp) (fun p hp q hq=>by simp at hq;subst hq;exact hx p hp)
theorem fresh_ne {cid:Id} {lo lo':Option Id} {L L':List OS} {n m:Nat} {id:Id} (h:ColO cid lo L m) (hm:m<=id.1) (hn:id.1<n) (hf:FreshS n lo L lo' L'):∀p∈colS cid lo' L',p.1≠id:=by
 intro p hp he
 rcases List.mem_cons.1 hp with rfl|hp
 ·have:=h.c_lt;rw [<-he] at hm;simp only at hm;omega
 ·rcases hf p hp with h1|h1
  ·rw [he] at h1;omega
  ·obtain ⟨q,hq,hqe⟩:=List.mem_map.1 h1
   have:=h.lt q hq
   rw [hqe,he] at this;omega
def WalkR (cid:Id) (lo0:Option Id) (L0:List OS) (spec:List Sel) (n n':Nat) (v:V) (σ':Sto):Prop:=
 v = .tup []/\∃lo L,σ'=colS cid lo L/\ColO cid lo L n'/\L.map (·.1)=spec/\FreshS n lo0 L0 lo L
theorem sub_of {σ τ:Sto} (hnd:(σ.map (·.1)).Nodup) (h:∀p∈τ,p∈σ):∀i e,lk τ i=some e->lk σ i=some e:=fun i e hl=>mem_lk_of hnd (h _ (lk_mem_of hl))
theorem ColO.key {cid lid:Id} {A B:List OS} {x:OS} {n n':Nat} {id:Id} (h:ColO cid (some lid) (A++x::B) n) (hi:n<=id.1) (hi':id.1<n') (s:Sel):ColO cid (some lid) (A++(s,some id)::B) n':=by
 refine ⟨h.toSelO.key hi hi' s,by have:=h.c_lt;omega,fun p hp he=>?_⟩
 rw [selS_some,ossE_app,ossE_cons] at hp
 rcases List.mem_cons.1 hp with rfl|hp
 ·exact h.c_ne (lid,.arr TS 3 ((A++x::B).map osV)) (by simp [selS_some]) he
 ·rcases List.mem_append.1 hp with hp|hp
  ·exact h.c_ne p (by rw [selS_some,ossE_app];exact List.mem_cons_of_mem _ (List.mem_append_left _ hp)) he
  ·rcases List.mem_append.1 hp with hp|hp
   ·simp [osE] at hp
    subst hp
    have:=h.c_lt;simp only at he;rw [he] at hi;omega
   ·exact h.c_ne p (by rw [selS_some,ossE_app,ossE_cons];exact List.mem_cons_of_mem _ (List.mem_append_right _ (List.mem_append_right _ hp))) he
theorem FreshS.key {lid:Id} {A B:List OS} {x:OS} {n:Nat} {id:Id} (hi:n<=id.1) (s:Sel):FreshS n (some lid) (A++x::B) (some lid) (A++(s,some id)::B):=by
 intro p hp
 rw [selS_some,ossE_app,ossE_cons] at hp
 rw [selS_some,ossE_app,ossE_cons]
 rcases List.mem_cons.1 hp with rfl|hp
 ·right;simp
 ·rcases List.mem_append.1 hp with hp|hp
  ·right;exact List.mem_map.2 ⟨p,List.mem_cons_of_mem _ (List.mem_append_left _ hp),rfl⟩
  ·rcases List.mem_append.1 hp with hp|hp
   ·simp [osE] at hp;subst hp;exact .inl hi
   ·right;exact List.mem_map.2 ⟨p,List.mem_cons_of_mem _ (List.mem_append_right _ (List.mem_append_right _ hp)),rfl⟩
theorem mod_map (A B:List OS) (x:OS) (o:Option Id) (f:Sel->Sel):((A++x::B).map (·.1)).modify A.length f=(A++(f x.1,o)::B).map (·.1):=by
 induction A with
 | nil=>rfl
 | cons a A ih=>simpa using ih
theorem loopW_le {P:Program} {W0:World} {nt:Nat} {c:IC} {Q:Exit->St->Prop} {st st':St} (h:StLe W0 nt st st') (k:LoopW P W0 nt c Q st'):LoopW P W0 nt c Q st:=by
 unfold LoopW at *
 exact aWP_le h k
set_option maxHeartbeats 4000000 in
theorem walk_cs (cs:List Case) (cid:Id) (j:Nat) (lid0:Id) (L0:List OS) (n0:Nat) (a9 a10 a11:V) (Q:Exit->St->Prop)
  (hih:∀x∈cs,∀lo L n1,selW (L.map (·.1))+wtPs x.2<=2^26->ColO cid lo L n1->RetE Tryz.prog W0 81 [.ref cid 0,.sl (x.2.map Part.enc)] (colS cid lo L) (WalkR cid lo L (collPs x.2 (L.map (·.1)))))
  (hw:selW (L0.map (·.1))+wtCs cs<=2^26) (hok:ColO cid (some lid0) L0 n0) (hj:j<L0.length)
  (hQ:∀lid L n',L.map (·.1)=collCs cs j (L0.map (·.1))->ColO cid (some lid) L n'->n0<=n'->FreshS n0 (some lid0) L0 (some lid) L->Q (.exit 2) ⟨[(0,.ref cid 0),(6,.i .i64 j),(9,a9),(10,a10),(11,a11),(51,.sl (cs.map Case.enc)),(52,.i .i64 cs.length),(53,.i .i64 cs.length),(54,.b false)],colS cid (some lid) L,n'⟩) :
  LoopW Tryz.prog W0 94 f81_32 Q ⟨[(0,.ref cid 0),(6,.i .i64 j),(9,a9),(10,a10),(11,a11),(51,.sl (cs.map Case.enc)),(52,.i .i64 cs.length),(53,.i .i64 0)],colS cid (some lid0) L0,n0⟩:=by
 have hlc:=len_wtCs cs
 generalize hS:collCs cs j (L0.map (·.1))=S at hQ
 refine aWP_loopW cs.length (Inv:=fun m st=>∃cd cr n lid L,cs=cd++cr/\m=cr.length/\collCs cr j (L.map (·.1))=S/\selW (L.map (·.1))+wtCs cr<=2^26/\ColO cid (some lid) L n/\n0<=n/\FreshS n0 (some lid0) L0 (some lid) L/\j<L.length/\st=⟨[(0,.ref cid 0),(6,.i .i64 j),(9,a9),(10,a10),(11,a11),(51,.sl (cs.map Case.enc)),(52,.i .i64 cs.length),(53,.i .i64 cd.length)],colS cid (some lid) L,n⟩) ⟨_,StLe.refl,[],cs,_,lid0,L0,rfl,rfl,hS,hw,hok,Nat.le_refl _,FreshS.refl _ _ _,hj,rfl⟩ ?_
 clear hS hok hj
 rintro m _ ⟨cd,cr,n,lid,L,hz,rfl,hd,hw,hok,hn0,hfr,hj,rfl⟩
 cases cr with
 | nil=>
  rw [collCs] at hd
  rw [hz] at hQ⊢
  simp only [List.append_nil] at hQ⊢
  simp only [push_cast,seval,reduceEqDiff]
  intro k2
  exact hQ lid L _ hd (hok.more (by omega)) (by omega) hfr
 | cons c cr=>
  have hcb:=zip_bd hz
  have hcm:c∈cs:=by rw [hz];simp
  have hwc:=wtCs_mem hcm
  rw [collCs_cons] at hd
  rw [wtCs_cons] at hw
  obtain ⟨l1,l2,l3,l4⟩:=hok.toSelO.arr
  obtain ⟨A,x,B,hL,hA⟩:∃A x B,L=A++x::B/\A.length=j:=⟨L.take j,L[j],L.drop (j+1),by rw [List.getElem_cons_drop,List.take_append_drop],by simp;omega⟩
  subst hL
  subst hA
  have hlt':=hok.lt'
  have hnd:=hok.nd'
  have hE:ossE (A++x::B)=ossE A++(osE x++ossE B):=by rw [ossE_app,ossE_cons]
  have hlim:(A++x::B).length<=2^26:=by have:=len_selW ((A++x::B).map (·.1));rw [List.length_map] at this;omega
  simp only [push_cast,seval,reduceEqDiff,hz,wrap_zip c (done:=cd) (by omega)]
  intro k2 k3
  have hy:∀q∈colS cid (some lid) (A++x::B),q.1≠(n+1+k2,8):=by
   intro q hq he
   have:=hlt' q hq;rw [he] at this;simp at this;omega
  refine wkW_i (StLe.sub (nd_cons hnd hy) (σ':=((n+1+k2,8),.box (.agg [.s c.1,.sl (c.2.map Part.enc)]))::(cid,.box (.agg [.arr lid]))::(lid,.arr TS 3 ((A++x::B).map osV))::(osE x++(ossE A++ossE B))) (fun q hq=>?_) (Nat.le_refl _)) ?_
  ·simp only [colS,selS_some,hE,List.mem_cons,List.mem_append] at hq⊢
   rcases hq with h|h|h|h|h|h
   ·exact .inl h
   ·exact .inr (.inl h)
   ·exact .inr (.inr (.inl h))
   ·exact .inr (.inr (.inr (.inr (.inl h))))
   ·exact .inr (.inr (.inr (.inl h)))
   ·exact .inr (.inr (.inr (.inr (.inr h))))
  have hyn:n<n+1+k2/\n+1+k2<n+1+k2+1+k3:=by omega
  generalize n+1+k2=y0 at *
  generalize hm1:y0+1+k3=m1 at *
  have hcn:=hok.c_lt
  have fycid:((y0,8)=cid)=False:=eq_false fun he=>by rw [<-he] at hcn;simp at hcn;omega
  have fcidy:(cid=(y0,8))=False:=eq_false fun he=>of_eq_false fycid he.symm
  have fylid:((y0,8)=lid)=False:=eq_false fun he=>by rw [<-he] at l1;simp at l1;omega
  have flidy:(lid=(y0,8))=False:=eq_false fun he=>of_eq_false fylid he.symm
  have fcl:(cid=lid)=False:=eq_false fun he=>hok.c_ne (lid,.arr TS 3 ((A++x::B).map osV)) (by simp [selS_some]) he.symm
  have flc:(lid=cid)=False:=eq_false fun he=>of_eq_false fcl he.symm
  have fncid:∀k,((m1+1+k,85)=cid)=False:=fun k=>eq_false fun he=>by rw [<-he] at hcn;simp at hcn;omega
  have fnlid:∀k,((m1+1+k,85)=lid)=False:=fun k=>eq_false fun he=>by rw [<-he] at l1;simp at l1;omega
  have hget:((A++x::B).map osV)[A.length]? = some (osV x):=by simp
  have hjl:A.length<((A++x::B).map osV).length:=by simp
  rcases x with ⟨s,ko⟩
  cases ko with
  | none=>
   have hsk:s.keys=[]:=hok.kn (s,none) (by simp) rfl
   have hTE:∀q∈ossE A++ossE B,q.1≠lid/\q.1≠cid/\q.1.1<n:=by
    intro q hq
    have hq2:q∈ossE (A++(s,none)::B):=by rw [hE];simpa [osE] using hq
    exact ⟨l2 q hq2,hok.c_ne q (by rw [selS_some];exact List.mem_cons_of_mem _ hq2),l3 q hq2⟩
   have hov:osV (s,none) = .agg [.i .i64 s.kind,.s s.name,.nil]:=rfl
   simp only [osE,List.nil_append]
   generalize hT:ossE A++ossE B=T at *
   simp only [push_cast,seval,reduceEqDiff,hz,wrap_zip c (done:=cd) (by omega),if_pos hj,hov,TS,fycid,fcidy,fylid,flidy,fcl,flc,fncid,fnlid]
   refine c_callsq (c_hasN W0 c.1) ?_
   simp only [push_cast,seval,reduceEqDiff,hz,wrap_zip c (done:=cd) (by omega),if_pos hj,hov,TS,fycid,fcidy,fylid,flidy,fcl,flc,fncid,fnlid]
   intro k4
   have hset:∀id,(List.map osV (A++(s,none)::B)).set A.length (.agg [.i .i64 s.kind,.s s.name,.arr id])=List.map osV (A++((⟨s.kind,s.name,[c.1]⟩:Sel),some id)::B):=fun id=>set_map A B (s,none) (⟨s.kind,s.name,[c.1]⟩,some id)
   simp only [push_cast,seval,reduceEqDiff,hz,wrap_zip c (done:=cd) (by omega),if_pos hj,hov,TS,fycid,fcidy,fylid,flidy,fcl,flc,fncid,fnlid,eq_true (show 1<=LLim by decide),hset]
   intro k5 k6
   obtain ⟨L2,hL2⟩:∃L2,L2=A++((⟨s.kind,s.name,[c.1]⟩:Sel),some (m1+1+k4,85))::B:=⟨_,rfl⟩
   obtain ⟨N2,hN2⟩:∃N2,N2=m1+1+k4+1:=⟨_,rfl⟩
   have hok2:ColO cid (some lid) L2 N2:=by rw [hL2,hN2];exact hok.key (by simp;omega) (by simp) _
   have hfr2:FreshS n (some lid) (A++(s,none)::B) (some lid) L2:=by rw [hL2];exact FreshS.key (by simp;omega) _
   have hspec:((A++(s,none)::B).map (·.1)).modify A.length (addKey c.1)=L2.map (·.1):=by
    rw [hL2,mod_map A B (s,none) (some (m1+1+k4,85))]
    simp [addKey,hsk]
   have hTn:(T.map (·.1)).Nodup:=by rw [<-hT];simpa [hE,osE] using l4
   have hnd2:∀X Y Z:Ent,((((m1+1+k4,85),X)::((y0,8),Y)::(cid,.box (.agg [.arr lid]))::(lid,Z)::T).map (fun q:Id × Ent=>q.1)).Nodup:=fun X Y Z=>
    nd_cons (nd_cons (nd_cons (nd_cons hTn fun q hq=>(hTE q hq).1) fun q hq=>by
     rcases List.mem_cons.1 hq with rfl|hq
     ·exact of_eq_false flc
     ·exact (hTE q hq).2.1) fun q hq=>by
     rcases List.mem_cons.1 hq with rfl|hq
     ·exact of_eq_false fcidy
     ·rcases List.mem_cons.1 hq with rfl|hq
      ·exact of_eq_false flidy
      ·intro he;have:=(hTE q hq).2.2;rw [he] at this;simp at this;omega) fun q hq=>by
     rcases List.mem_cons.1 hq with rfl|hq
     ·simp
     ·rcases List.mem_cons.1 hq with rfl|hq
      ·exact fun he=>of_eq_false (fncid k4) he.symm
      ·rcases List.mem_cons.1 hq with rfl|hq
       ·exact fun he=>of_eq_false (fnlid k4) he.symm
       ·intro he;have:=(hTE q hq).2.2;rw [he] at this;simp at this;omega
   have hnd2:=hnd2 (.arr 9 1 [.s c.1]) (.box (.agg [.s c.1,.sl (c.2.map Part.enc)])) (.arr TS 3 (L2.map osV))
   have hsub2:∀q∈colS cid (some lid) L2,q∈((m1+1+k4,85),Ent.arr 9 1 [.s c.1])::((y0,8),Ent.box (.agg [.s c.1,.sl (c.2.map Part.enc)]))::(cid,.box (.agg [.arr lid]))::(lid,.arr TS 3 (L2.map osV))::T:=by
    intro q hq
    have hE2:ossE L2=ossE A++(((m1+1+k4,85),.arr 9 1 [.s c.1])::ossE B):=by rw [hL2,ossE_app,ossE_cons];rfl
    simp only [colS,selS_some,hE2,<-hT,sv,List.mem_cons,List.mem_append] at hq⊢
    rcases hq with h|h|h|h|h
    ·exact .inr (.inr (.inl h))
    ·exact .inr (.inr (.inr (.inl h)))
    ·exact .inr (.inr (.inr (.inr (.inl h))))
    ·exact .inl h
    ·exact .inr (.inr (.inr (.inr (.inr h))))
   rw [<-hL2]
   refine c_callx (hih c hcm (some lid) L2 N2 (by rw [<-hspec];have:=selW_mod ((A++(s,none)::B).map (·.1)) A.length c.1;omega) hok2) (sub_of hnd2 hsub2) (fun n2 v σo hle hR=>?_)
   obtain ⟨rfl,lo1,L1,rfl,hok3,hm3,hf3⟩:=hR
   rw [<-hspec] at hm3
   have hex:=(coll_same _ c.2 (Nat.lt_succ_self _) (((A++(s,none)::B).map (·.1)).modify A.length (addKey c.1))).2.1
   rw [<-hm3] at hex
   rw [List.length_modify,List.length_map,List.length_map] at hex
   have h1:=collPs_w c.2 (((A++(s,none)::B).map (·.1)).modify A.length (addKey c.1))
   have h2:=selW_mod ((A++(s,none)::B).map (·.1)) A.length c.1
   rw [<-hm3] at h1 hd
   cases lo1 with
   | none=>have:=hok3.ne rfl;subst this;simp at hex
   | some lid1=>
    simp only [push_cast,seval,reduceEqDiff,hz,wrap_zip c (done:=cd) (by omega)]
    intros
    exact ⟨_,_,Nat.lt_succ_self _,StLe.drop (fun i e hl=>lk_app_left hl) (Nat.le_refl _),cd++[c],cr,_,lid1,L1,by simp,rfl,hd,by omega,hok3.more (by omega),by omega,(hfr.trans hfr2 (by omega)).trans hf3 (by omega),by omega,rfl⟩
  | some kid=>
   have hke:lid≠kid:=fun he=>l2 (kid,.arr 9 1 (s.keys.map V.s)) (by rw [hE];simp [osE]) he.symm
   have hkc:kid≠cid:=hok.c_ne (kid,.arr 9 1 (s.keys.map V.s)) (by rw [selS_some,hE];simp [osE])
   have hkn:kid.1<n:=l3 (kid,.arr 9 1 (s.keys.map V.s)) (by rw [hE];simp [osE])
   have fkl:(kid=lid)=False:=eq_false (Ne.symm hke)
   have flk:(lid=kid)=False:=eq_false hke
   have fkc:(kid=cid)=False:=eq_false hkc
   have fck:(cid=kid)=False:=eq_false (Ne.symm hkc)
   have fky:(kid=(y0,8))=False:=eq_false fun he=>by rw [he] at hkn;simp at hkn;omega
   have fyk:((y0,8)=kid)=False:=eq_false fun he=>of_eq_false fky he.symm
   have fnk:∀k,((m1+1+k,85)=kid)=False:=fun k=>eq_false fun he=>by rw [<-he] at hkn;simp at hkn;omega
   have hTE:∀q∈ossE A++ossE B,q.1≠lid/\q.1≠cid/\q.1.1<n/\q.1≠kid:=by
    intro q hq
    have hq2:q∈ossE (A++(s,some kid)::B):=by
     rw [hE]
     rcases List.mem_append.1 hq with h|h
     ·exact List.mem_append_left _ h
     ·exact List.mem_append_right _ (List.mem_append_right _ h)
    refine ⟨l2 q hq2,hok.c_ne q (by rw [selS_some];exact List.mem_cons_of_mem _ hq2),l3 q hq2,?_⟩
    rw [hE] at l4
    obtain ⟨n1,n2,n3⟩:=nd_app_inv l4
    obtain ⟨n4,n5,n6⟩:=nd_app_inv n2
    rcases List.mem_append.1 hq with h|h
    ·exact n3 q h (kid,.arr 9 1 (s.keys.map V.s)) (List.mem_append_left _ (by simp [osE]))
    ·exact (n6 (kid,.arr 9 1 (s.keys.map V.s)) (by simp [osE]) q h).symm
   have hTn:((ossE A++ossE B).map (·.1)).Nodup:=by
    rw [hE] at l4
    exact nd_sub l4 ((List.Sublist.refl _).append (List.sublist_append_right _ _))
   have hov:osV (s,some kid) = .agg [.i .i64 s.kind,.s s.name,.arr kid]:=rfl
   have hkl:s.keys.length<=2^26:=by have:=keys_selW (l:=(A++(s,some kid)::B).map (·.1)) (s:=s) (by simp);omega
   simp only [osE,List.cons_append,List.nil_append]
   generalize hT:ossE A++ossE B=T at *
   have hnd0:∀X Y:Ent,(([((y0,8),X),(cid,.box (.agg [.arr lid])),(lid,Y)]++T).map (fun q:Id × Ent=>q.1)).Nodup:=fun X Y=>
    nd_cons (nd_cons (nd_cons hTn fun q hq=>(hTE q hq).1) fun q hq=>by
     rcases List.mem_cons.1 hq with rfl|hq
     ·exact of_eq_false flc
     ·exact (hTE q hq).2.1) fun q hq=>by
     rcases List.mem_cons.1 hq with rfl|hq
     ·exact of_eq_false fcidy
     ·rcases List.mem_cons.1 hq with rfl|hq
      ·exact of_eq_false flidy
      ·intro he;have:=(hTE q hq).2.2.1;rw [he] at this;simp at this;omega
   have hin:=c_hasA W0 s.keys c.1 kid (by omega)
   have hovk:∀X Y Z:Ent,over [(kid,Z)] [(kid,Z)] (((y0,8),X)::(cid,.box (.agg [.arr lid]))::(lid,Y)::(kid,Z)::T)=(kid,Z)::((y0,8),X)::(cid,.box (.agg [.arr lid]))::(lid,Y)::T:=fun X Y Z=>
    over_mid (σi:=[(kid,Z)]) (pre:=[((y0,8),X),(cid,.box (.agg [.arr lid])),(lid,Y)]) (post:=T) (fun q hq r hr=>by
     simp at hr;subst hr
     simp at hq
     rcases hq with rfl|rfl|rfl
     ·exact of_eq_false fyk
     ·exact of_eq_false fck
     ·exact of_eq_false flk) (fun q hq r hr=>by simp at hr;subst hr;exact (hTE q hq).2.2.2)
   have hsubk:∀X Y Z:Ent,∀i e,lk [(kid,Z)] i=some e->lk (((y0,8),X)::(cid,.box (.agg [.arr lid]))::(lid,Y)::(kid,Z)::T) i=some e:=by
    intro X Y Z i e h
    simp only [lk] at h
    split at h
    ·rename_i h1;subst h1
     simp only [lk,fyk,fck,flk,if_false,if_true];exact h
    ·cases h
   generalize hIN:s.keys.contains c.1=IN at *
   have hset:∀id,(List.map osV (A++(s,some kid)::B)).set A.length (.agg [.i .i64 s.kind,.s s.name,.arr id])=List.map osV (A++((⟨s.kind,s.name,s.keys++[c.1]⟩:Sel),some id)::B):=fun id=>set_map A B (s,some kid) (⟨s.kind,s.name,s.keys++[c.1]⟩,some id)
   have hkm:List.map V.s s.keys++[V.s c.1]=List.map V.s (s.keys++[c.1]):=by simp
   have hlk:s.keys.length+1<=LLim:=by unfold LLim;omega
   have hdT:=del_none (fun q hq=>(hTE q hq).2.2.2)
   cases IN with
   | true=>
    simp only [push_cast,seval,reduceEqDiff,hz,wrap_zip c (done:=cd) (by omega),if_pos hj,hov,TS,fycid,fcidy,fylid,flidy,fcl,flc,fncid,fnlid,fkl,flk,fkc,fck,fky,fyk,fnk]
    refine c_calls hin (hsubk _ _ _) ?_
    rw [hovk]
    simp only [push_cast,seval,reduceEqDiff,hz,wrap_zip c (done:=cd) (by omega),if_pos hj,hov,TS,fycid,fcidy,fylid,flidy,fcl,flc,fncid,fnlid,fkl,flk,fkc,fck,fky,fyk,fnk]
    intro k5 k6
    obtain ⟨L2,hL2⟩:∃L2,L2=A++(s,some kid)::B:=⟨_,rfl⟩
    obtain ⟨N2,hN2⟩:∃N2,N2=m1:=⟨_,rfl⟩
    have hok2:ColO cid (some lid) L2 N2:=by rw [hL2,hN2];exact hok.more (by omega)
    have hfr2:FreshS n (some lid) (A++(s,some kid)::B) (some lid) L2:=by rw [hL2];exact FreshS.refl _ _ _
    have hspec:((A++(s,some kid)::B).map (·.1)).modify A.length (addKey c.1)=L2.map (·.1):=by
     rw [hL2,mod_map A B (s,some kid) (some kid)]
     simp only [addKey,hIN,if_true]
    have hnd2:=nd_cons (a:=(kid,.arr 9 1 (s.keys.map V.s))) (hnd0 (.box (.agg [.s c.1,.sl (c.2.map Part.enc)])) (.arr TS 3 (L2.map osV))) (fun q hq=>by
     rcases List.mem_cons.1 hq with rfl|hq
     ·exact of_eq_false fyk
     ·rcases List.mem_cons.1 hq with rfl|hq
      ·exact of_eq_false fck
      ·rcases List.mem_cons.1 hq with rfl|hq
       ·exact of_eq_false flk
       ·exact (hTE q hq).2.2.2)
    have hsub2:∀q∈colS cid (some lid) L2,q∈(kid,Ent.arr 9 1 (s.keys.map V.s))::([((y0,8),Ent.box (.agg [.s c.1,.sl (c.2.map Part.enc)])),(cid,.box (.agg [.arr lid])),(lid,.arr TS 3 (L2.map osV))]++T):=by
     intro q hq
     have hE2:ossE L2=ossE A++((kid,.arr 9 1 (s.keys.map V.s))::ossE B):=by rw [hL2,ossE_app,ossE_cons];rfl
     simp only [colS,selS_some,hE2,<-hT,sv,List.mem_cons,List.mem_append] at hq⊢
     rcases hq with h|h|h|h|h
     ·exact .inr (.inl (.inr (.inl h)))
     ·exact .inr (.inl (.inr (.inr (.inl h))))
     ·exact .inr (.inr (.inl h))
     ·exact .inl h
     ·exact .inr (.inr (.inr h))
    rw [<-hL2]
    refine c_callx (hih c hcm (some lid) L2 N2 (by rw [<-hspec];have:=selW_mod ((A++(s,some kid)::B).map (·.1)) A.length c.1;omega) hok2) (sub_of hnd2 hsub2) (fun n2 v σo hle hR=>?_)
    obtain ⟨rfl,lo1,L1,rfl,hok3,hm3,hf3⟩:=hR
    rw [<-hspec] at hm3
    have hex:=(coll_same _ c.2 (Nat.lt_succ_self _) (((A++(s,some kid)::B).map (·.1)).modify A.length (addKey c.1))).2.1
    rw [<-hm3] at hex
    rw [List.length_modify,List.length_map,List.length_map] at hex
    have h1:=collPs_w c.2 (((A++(s,some kid)::B).map (·.1)).modify A.length (addKey c.1))
    have h2:=selW_mod ((A++(s,some kid)::B).map (·.1)) A.length c.1
    rw [<-hm3] at h1 hd
    cases lo1 with
    | none=>have:=hok3.ne rfl;subst this;simp at hex
    | some lid1=>
     simp only [push_cast,seval,reduceEqDiff,hz,wrap_zip c (done:=cd) (by omega)]
     intros
     exact ⟨_,_,Nat.lt_succ_self _,StLe.drop (fun i e hl=>lk_app_left hl) (Nat.le_refl _),cd++[c],cr,_,lid1,L1,by simp,rfl,hd,by omega,hok3.more (by omega),by omega,(hfr.trans hfr2 (by omega)).trans hf3 (by omega),by omega,rfl⟩
   | false=>
    simp only [push_cast,seval,reduceEqDiff,hz,wrap_zip c (done:=cd) (by omega),if_pos hj,hov,TS,fycid,fcidy,fylid,flidy,fcl,flc,fncid,fnlid,fkl,flk,fkc,fck,fky,fyk,fnk,eq_true hlk,hset,hdT,hkm,List.length_map]
    refine c_calls hin (hsubk _ _ _) ?_
    rw [hovk]
    simp only [push_cast,seval,reduceEqDiff,hz,wrap_zip c (done:=cd) (by omega),if_pos hj,hov,TS,fycid,fcidy,fylid,flidy,fcl,flc,fncid,fnlid,fkl,flk,fkc,fck,fky,fyk,fnk,eq_true hlk,hset,hdT,hkm,List.length_map]
    intro k4 k5 k6
    obtain ⟨L2,hL2⟩:∃L2,L2=A++((⟨s.kind,s.name,s.keys++[c.1]⟩:Sel),some (m1+1+k4,85))::B:=⟨_,rfl⟩
    obtain ⟨N2,hN2⟩:∃N2,N2=m1+1+k4+1:=⟨_,rfl⟩
    have hok2:ColO cid (some lid) L2 N2:=by rw [hL2,hN2];exact hok.key (by simp;omega) (by simp) _
    have hfr2:FreshS n (some lid) (A++(s,some kid)::B) (some lid) L2:=by rw [hL2];exact FreshS.key (by simp;omega) _
    have hspec:((A++(s,some kid)::B).map (·.1)).modify A.length (addKey c.1)=L2.map (·.1):=by
     rw [hL2,mod_map A B (s,some kid) (some (m1+1+k4,85))]
     simp only [addKey,hIN,if_false,Bool.false_eq_true]
    have hnd2:=nd_cons (a:=((m1+1+k4,85),.arr 9 1 ((s.keys++[c.1]).map V.s))) (hnd0 (.box (.agg [.s c.1,.sl (c.2.map Part.enc)])) (.arr TS 3 (L2.map osV))) (fun q hq=>by
     rcases List.mem_cons.1 hq with rfl|hq
     ·simp
     ·rcases List.mem_cons.1 hq with rfl|hq
      ·exact fun he=>of_eq_false (fncid k4) he.symm
      ·rcases List.mem_cons.1 hq with rfl|hq
       ·exact fun he=>of_eq_false (fnlid k4) he.symm
       ·intro he;have:=(hTE q hq).2.2.1;rw [he] at this;simp at this;omega)
    have hsub2:∀q∈colS cid (some lid) L2,q∈((m1+1+k4,85),Ent.arr 9 1 ((s.keys++[c.1]).map V.s))::([((y0,8),Ent.box (.agg [.s c.1,.sl (c.2.map Part.enc)])),(cid,.box (.agg [.arr lid])),(lid,.arr TS 3 (L2.map osV))]++T):=by
     intro q hq
     have hE2:ossE L2=ossE A++(((m1+1+k4,85),.arr 9 1 ((s.keys++[c.1]).map V.s))::ossE B):=by rw [hL2,ossE_app,ossE_cons];rfl
     simp only [colS,selS_some,hE2,<-hT,sv,List.mem_cons,List.mem_append] at hq⊢
     rcases hq with h|h|h|h|h
     ·exact .inr (.inl (.inr (.inl h)))
     ·exact .inr (.inl (.inr (.inr (.inl h))))
     ·exact .inr (.inr (.inl h))
     ·exact .inl h
     ·exact .inr (.inr (.inr h))
    rw [<-hL2]
    refine c_callx (hih c hcm (some lid) L2 N2 (by rw [<-hspec];have:=selW_mod ((A++(s,some kid)::B).map (·.1)) A.length c.1;omega) hok2) (sub_of hnd2 hsub2) (fun n2 v σo hle hR=>?_)
    obtain ⟨rfl,lo1,L1,rfl,hok3,hm3,hf3⟩:=hR
    rw [<-hspec] at hm3
    have hex:=(coll_same _ c.2 (Nat.lt_succ_self _) (((A++(s,some kid)::B).map (·.1)).modify A.length (addKey c.1))).2.1
    rw [<-hm3] at hex
    rw [List.length_modify,List.length_map,List.length_map] at hex
    have h1:=collPs_w c.2 (((A++(s,some kid)::B).map (·.1)).modify A.length (addKey c.1))
    have h2:=selW_mod ((A++(s,some kid)::B).map (·.1)) A.length c.1
    rw [<-hm3] at h1 hd
    cases lo1 with
    | none=>have:=hok3.ne rfl;subst this;simp at hex
    | some lid1=>
     simp only [push_cast,seval,reduceEqDiff,hz,wrap_zip c (done:=cd) (by omega)]
     intros
     exact ⟨_,_,Nat.lt_succ_self _,StLe.drop (fun i e hl=>lk_app_left hl) (Nat.le_refl _),cd++[c],cr,_,lid1,L1,by simp,rfl,hd,by omega,hok3.more (by omega),by omega,(hfr.trans hfr2 (by omega)).trans hf3 (by omega),by omega,rfl⟩
theorem idxI_lt {α:Type} (p:α->Bool) (l:List α):idxI p l<l.length:=by
 induction l with
 | nil=>simp [idxI]
 | cons x l ih=>
  simp only [idxI,List.length_cons]
  cases p x
  ·simp only [cond_false]
   split<;>omega
  ·simp only [cond_true];omega
theorem isA_arr' (id:Id):isA (V.arr id)=false:=rfl
theorem collCs_w (cs:List Case) (j:Nat) (l:List Sel):selW (collCs cs j l)<=selW l+wtCs cs:=by
 induction cs generalizing l with
 | nil=>simp [collCs]
 | cons c cs ih=>
  rw [collCs_cons,wtCs_cons]
  have h1:=collPs_w c.2 (l.modify j (addKey c.1));have h2:=ih (collPs c.2 (l.modify j (addKey c.1)));have h3:=selW_mod l j c.1;omega
theorem ColO.add {cid:Id} {lo:Option Id} {L:List OS} {n n':Nat} {id:Id} (h:ColO cid lo L n) (hi:n<=id.1) (hi':id.1<n') (k:Int) (nm:Bytes):ColO cid (some id) (L++[(⟨k,nm,[]⟩,none)]) n':=by
 refine ⟨h.toSelO.add hi hi' k nm,by have:=h.c_lt;omega,fun p hp he=>?_⟩
 rw [selS_some,ossE_app] at hp
 rcases List.mem_cons.1 hp with rfl|hp
 ·have:=h.c_lt;simp only at he;rw [he] at hi;omega
 ·have hp2:p∈ossE L:=by simpa [ossE,osE] using hp
  exact h.c_ne p (List.mem_append_right _ hp2) he
theorem FreshS.add {lo:Option Id} {L:List OS} {n:Nat} {id:Id} (hi:n<=id.1) (k:Int) (nm:Bytes):FreshS n lo L (some id) (L++[(⟨k,nm,[]⟩,none)]):=by
 intro p hp
 rw [selS_some,ossE_app] at hp
 rcases List.mem_cons.1 hp with rfl|hp
 ·exact .inl hi
 ·have hp2:p∈ossE L:=by simpa [ossE,osE] using hp
  exact .inr (List.mem_map.2 ⟨p,List.mem_append_right _ hp2,rfl⟩)
set_option maxHeartbeats 4000000 in
theorem c_walk:∀(N:Nat) (ps:List Part) (cid:Id) (lo0:Option Id) (L0:List OS) (n1:Nat),wtPs ps<N->selW (L0.map (·.1))+wtPs ps<=2^26->ColO cid lo0 L0 n1->
  RetE Tryz.prog W0 81 [.ref cid 0,.sl (ps.map Part.enc)] (colS cid lo0 L0) (WalkR cid lo0 L0 (collPs ps (L0.map (·.1)))):=by
 intro N
 induction N with
 | zero=>intro ps cid lo0 L0 n1 h;omega
 | succ N ih=>
 intro ps cid lo0 L0 n1 hN hb hok0
 have hlen:=len_wtPs ps
 generalize hS:collPs ps (L0.map (·.1))=S
 refine fn_retEW f81ok (by simp) fun n0 hn0=>?_
 have hok:ColO cid lo0 L0 n0:=by
  have hl:∀p∈colS cid lo0 L0,p.1.1<n0:=fun p hp=>hn0 p.1 p.2 (mem_lk_of hok0.nd' hp)
  exact ⟨⟨hok0.nd,fun p hp=>hl p (List.mem_cons_of_mem _ hp),hok0.ne,hok0.kn⟩,hl _ (List.mem_cons_self),hok0.c_ne⟩
 clear hn0 hok0
 simp only [push_cast,seval,reduceEqDiff]
 intro k1
 refine aWP_loopW ps.length (Inv:=fun m st=>∃done rest n lo L,ps=done++rest/\m=rest.length/\collPs rest (L.map (·.1))=S/\selW (L.map (·.1))+wtPs rest<=2^26/\ColO cid lo L n/\n0<=n/\FreshS n0 lo0 L0 lo L/\st=⟨[(0,.ref cid 0),(9,.sl (ps.map Part.enc)),(10,.i .i64 ps.length),(11,.i .i64 done.length)],colS cid lo L,n⟩) ⟨_,StLe.refl,[],ps,_,lo0,L0,rfl,rfl,hS,hb,?_,?_,?_,rfl⟩ ?_
 ·exact hok.more (by omega)
 ·omega
 ·exact FreshS.refl _ _ _
 clear hS hok
 rintro m _ ⟨done,rest,n,lo,L,hz,rfl,hd,hw,hok,hn0,hfr,rfl⟩
 cases rest with
 | nil=>
  rw [collPs] at hd
  simp only [push_cast,seval,reduceEqDiff,hz]
  intro k2
  exact ⟨_,StLe.refl,[],_,trivial,fun _ _ h=>h,rfl,lo,L,rfl,hok.more (by simp only;omega),hd,hfr⟩
 | cons p rest=>
  have hbd:=zip_bd hz
  have hwp:=wtPs_mem (ps:=ps) (p:=p) (by rw [hz];simp)
  rw [wtPs_cons] at hw
  have hpw:=p.wt_eq
  rw [collPs_cons,p.coll_eq] at hd
  simp only [push_cast,seval,reduceEqDiff,hz,wrap_zip p (done:=done) (by omega)]
  intro k2 k3 k4
  refine c_callx (ih p.parts cid lo L n (by omega) (by omega) hok) (fun i e h=>lk_drop1 (lk_none_of fun q hq he=>?_) i e h) (fun n2 v σo hle hR=>?_)
  ·have:=hok.lt' q hq;rw [he] at this;simp at this;omega
  obtain ⟨rfl,lo1,L1,rfl,hok1,hm1,hf1⟩:=hR
  have hx1:∀q∈colS cid lo1 L1,q.1≠(n+1+k2,5):=fresh_ne hok (by simp;omega) (by simp;omega) hf1
  have hcall:=collPs_w p.parts (L.map (·.1))
  rw [<-hm1] at hcall hd
  have hfr1:=hfr.trans hf1 (by omega)
  have hn1:n0<=n2:=by omega
  clear hfr hf1 hm1
  have hxo:∀X:Ent,∀q∈[((n+1+k2,5),X)],∀r∈colS cid lo L,q.1≠r.1:=by
   intro X q hq r hr he
   simp at hq;subst hq
   have:=hok.lt' r hr;rw [<-he] at this;simp at this;omega
  rw [show ∀a:Id × Ent,a::colS cid lo L=[a]++colS cid lo L from fun _=>rfl,over_pre (hxo _)]
  clear hxo hok
  simp only [push_cast,seval,reduceEqDiff,hz,wrap_zip p (done:=done) (by omega)]
  intro k5
  have hndx:∀X:Ent,((colS cid lo1 L1++[((n+1+k2,5),X)]).map (fun q:Id × Ent=>q.1)).Nodup:=fun X=>nd_snoc hok1.nd' hx1
  refine wkW_i (StLe.sub (hndx _) (σ':=[_]++colS cid lo1 L1) (fun q hq=>by rcases List.mem_append.1 hq with h|h;exact List.mem_append_right _ h;exact List.mem_append_left _ h) (Nat.le_refl _)) ?_
  have hx0:n+1+k2<n2:=by omega
  clear hndx hle
  generalize n+1+k2=x0 at *
  have hok1:=hok1.more (show n2<=n2+1+k5 by omega)
  generalize hn3:n2+1+k5=n3 at *
  have hsel:=c_sSel W0 p.kind
  have hLl:=len_selW (L1.map (·.1))
  rw [List.length_map] at hLl
  rcases Bool.eq_false_or_eq_true (selB p.kind) with hs|hs
  rotate_left
  ·rw [hs] at hd hsel
   simp only [bq,if_true,if_false,Int.reduceBEq,reduceCtorEq] at hd
   simp only [push_cast,seval,reduceEqDiff,hz,wrap_zip p (done:=done) (by omega)]
   repeat' (first|(((first|apply condU_s|apply gdU_t|apply gdU_f)<;>intro _h)<;>simp only [push_cast,seval,reduceEqDiff,_h,hz,wrap_zip p (done:=done) (by omega)])|(refine c_call (by exact hsel) ?_;simp only [push_cast,seval,reduceEqDiff,hz,wrap_zip p (done:=done) (by omega)])|intro _)
   exact ⟨_,_,Nat.lt_succ_self _,StLe.drop1 (lk_none_of hx1) (Nat.le_refl _),done++[p],rest,_,lo1,L1,by simp,rfl,hd,by omega,hok1.more (by omega),by omega,hfr1,rfl⟩
  ·rw [hs] at hd hsel
   simp only [bq,if_true,if_false,Int.reduceBEq,reduceCtorEq] at hd
   have hfi:RetS Tryz.prog W0 123 [.ref cid 0,.i .i64 p.kind,.s p.name] ((cid,.box (.agg [sv lo1]))::slE TS lo1 L1) (.i .i64 (findI (L1.map (·.1)) p.kind p.name)) ((cid,.box (.agg [sv lo1]))::slE TS lo1 L1):=c_find W0 p.kind p.name cid lo1 L1 (by omega) hok1.ne (fun id h he=>by subst h;exact hok1.c_ne (id,.arr TS 3 (L1.map osV)) (by simp [selS_some]) he)
   have hsub:∀X:Ent,∀i e,lk ((cid,.box (.agg [sv lo1]))::slE TS lo1 L1) i=some e->lk (((x0,5),X)::colS cid lo1 L1) i=some e:=by
    intro X i e h
    exact lk_drop1 (lk_none_of hx1) i e (lk_app_left (τ:=ossE L1) h)
   have hov:∀X:Ent,over ((cid,.box (.agg [sv lo1]))::slE TS lo1 L1) ((cid,.box (.agg [sv lo1]))::slE TS lo1 L1) (((x0,5),X)::colS cid lo1 L1)=((cid,.box (.agg [sv lo1]))::slE TS lo1 L1)++(((x0,5),X)::ossE L1):=by
    intro X
    have hnn:=nd_app_inv (σ:=(cid,.box (.agg [sv lo1]))::slE TS lo1 L1) (τ:=ossE L1) hok1.nd'
    exact over_mid (pre:=[((x0,5),X)]) (post:=ossE L1) (fun q hq r hr he=>by simp at hq;subst hq;exact hx1 r (List.mem_append_left (ossE L1) hr) he.symm) (fun q hq r hr he=>hnn.2.2 r hr q hq he.symm)
   generalize hfI:findI (L1.map (·.1)) p.kind p.name=FI at *
   simp only [push_cast,seval,reduceEqDiff,hz,wrap_zip p (done:=done) (by omega)]
   repeat' (first|(((first|apply condU_s|apply gdU_t|apply gdU_f)<;>intro _h)<;>simp only [push_cast,seval,reduceEqDiff,_h,hz,wrap_zip p (done:=done) (by omega)])|(refine c_call (by exact hsel) ?_;simp only [push_cast,seval,reduceEqDiff,hz,wrap_zip p (done:=done) (by omega)])|intro _)
   rename_i k5'
   refine c_calls hfi (hsub _) ?_
   rw [hov]
   clear hov hsub
   have fcx:(cid=(x0,5))=False:=eq_false (hx1 (cid,.box (.agg [sv lo1])) (by simp [colS]))
   have fxc:((x0,5)=cid)=False:=eq_false fun he=>of_eq_false fcx he.symm
   have hxo:∀q∈ossE L1,q.1≠(x0,5):=fun q hq=>hx1 q (List.mem_cons_of_mem _ (List.mem_append_right _ hq))
   have hck:∀q∈ossE L1,q.1≠cid:=fun q hq=>hok1.c_ne q (List.mem_append_right _ hq)
   have hcn3:=hok1.c_lt
   have f47:∀a b c d,((n3+1+a+1+b+1+c+1+d,47)=cid)=False:=fun a b c d=>eq_false fun he=>by rw [<-he] at hcn3;simp at hcn3;omega
   have hFI:=idxI_lo (selIs p.kind p.name) (L1.map (·.1))
   cases lo1 with
   | none=>
    have hL1:=hok1.ne rfl
    subst hL1
    simp only [slE,sv,ossE,List.flatMap_nil,List.append_nil,List.cons_append,List.nil_append]
    have hFI0:FI = -1:=by rw [<-hfI];rfl
    subst hFI0
    simp only [push_cast,seval,reduceEqDiff,hz,fcx,fxc,f47,isA_arr',show (decide True)=true from rfl,eq_true (show 1<=LLim by decide)]
    intro k6 k7 k8 k9 k10
    have hsat:selAt (([]:List OS).map (·.1)) p.kind p.name=0:=rfl
    rw [hsat] at hd
    obtain ⟨L1,hL1⟩:∃L1:List OS,L1=[]:=⟨[],rfl⟩
    obtain ⟨L2,hL2⟩:∃L2,L2=L1++[((⟨p.kind,p.name,[]⟩:Sel),none)]:=⟨_,rfl⟩
    have hmap:L2.map (·.1)=selAdd (L1.map (·.1)) p.kind p.name:=by rw [hL2,hL1];rfl
    rw [<-hL1] at hd hfr1 hok1 hcall
    obtain ⟨ni,hni⟩:∃ni,ni=n3+1+k5'+1+k6+1+k7+1+k8:=⟨_,rfl⟩
    have hok2:ColO cid (some (ni,47)) L2 (ni+1):=by rw [hL2];exact hok1.add (by simp;omega) (by simp) _ _
    have hfr2:FreshS n3 none L1 (some (ni,47)) L2:=by rw [hL2];exact FreshS.add (by simp;omega) _ _
    have hj2:0<L2.length:=by rw [hL2];simp
    rw [<-hni]
    refine loopW_le (StLe.sub (nd_cons (nd_cons (nd_cons (by simp) (by simp)) (fun q hq=>by simp at hq;subst hq;exact of_eq_false fxc)) (fun q hq=>by simp at hq;rcases hq with rfl|rfl;exact fun he=>of_eq_false (f47 k5' k6 k7 k8) (by rw [<-hni];exact he.symm);simp)) (σ':=colS cid (some (ni,47)) L2) (fun q hq=>?_) (Nat.le_refl _)) (walk_cs W0 p.cases cid 0 (ni,47) L2 _ _ _ _ _ (fun x hx lo L n1 h1 h2=>ih x.2 cid lo L n1 (by have:=wtCs_mem hx;omega) h1 h2) (by rw [hmap];have:=selW_add (L1.map (·.1)) p.kind p.name;omega) (hok2.more (by omega)) hj2 ?_)
    ·have hE2:ossE L2=[]:=by rw [hL2,hL1];rfl
     have hV2:L2.map osV=[V.agg [.i .i64 p.kind,.s p.name,.nil]]:=by rw [hL2,hL1];rfl
     simp only [colS,selS_some,hE2,hV2,sv,List.mem_cons,List.not_mem_nil,or_false] at hq⊢
     rcases hq with h|h
     ·exact .inr (.inl h)
     ·exact .inl h
    ·intro lid3 L3 n5 hm3 hok3 hn5 hf3
     rw [hmap] at hm3
     have hcw:=collCs_w p.cases 0 (selAdd (L1.map (·.1)) p.kind p.name)
     rw [<-hm3] at hcw hd
     have hw2:=selW_add (L1.map (·.1)) p.kind p.name
     simp only [push_cast,seval,reduceEqDiff,hz,wrap_zip p (done:=done) (by omega)]
     intros
     exact ⟨_,_,Nat.lt_succ_self _,StLe.refl,done++[p],rest,_,some lid3,L3,by simp,rfl,hd,by omega,hok3.more (by omega),by omega,(hfr1.trans hfr2 (by omega)).trans hf3 (by omega),rfl⟩
   | some lid=>
    obtain ⟨l1,l2,l3,l4⟩:=hok1.toSelO.arr
    have fcl:(cid=lid)=False:=eq_false fun he=>hok1.c_ne (lid,.arr TS 3 (L1.map osV)) (by simp [selS_some]) he.symm
    have flc:(lid=cid)=False:=eq_false fun he=>of_eq_false fcl he.symm
    have flx:(lid=(x0,5))=False:=eq_false (hx1 (lid,.arr TS 3 (L1.map osV)) (by simp [colS,selS_some]))
    have fxl:((x0,5)=lid)=False:=eq_false fun he=>of_eq_false flx he.symm
    have hdl:=del_none l2
    simp only [slE,sv,List.cons_append,List.nil_append]
    by_cases hneg:FI<0
    ·have hneg':decide (FI<0)=true:=by simpa using hneg
     have hll:L1.length+1<=LLim:=by unfold LLim;omega
     have hsat:selAt (L1.map (·.1)) p.kind p.name=L1.length:=by unfold selAt;rw [hfI,if_pos hneg,List.length_map]
     rw [hsat] at hd
     have hnv:List.map osV L1++[V.agg [V.i .i64 p.kind,.s p.name,.nil]]=List.map osV (L1++[((⟨p.kind,p.name,[]⟩:Sel),none)]):=by simp [osV,sv]
     simp only [push_cast,seval,reduceEqDiff,hz,fcx,fxc,fcl,flc,flx,fxl,f47,isA_arr',hdl,hneg',eq_true hll,TS,List.length_map,hnv]
     intro k6 k7 k8 k9 k10
     obtain ⟨L2,hL2⟩:∃L2,L2=L1++[((⟨p.kind,p.name,[]⟩:Sel),none)]:=⟨_,rfl⟩
     have hmap:L2.map (·.1)=selAdd (L1.map (·.1)) p.kind p.name:=by rw [hL2];unfold selAdd;rw [hfI,if_pos hneg];simp
     obtain ⟨ni,hni⟩:∃ni,ni=n3+1+k5'+1+k6+1+k7+1+k8:=⟨_,rfl⟩
     have hok2:ColO cid (some (ni,47)) L2 (ni+1):=by rw [hL2];exact hok1.add (by simp;omega) (by simp) _ _
     have hfr2:FreshS n3 (some lid) L1 (some (ni,47)) L2:=by rw [hL2];exact FreshS.add (by simp;omega) _ _
     have hj2:L1.length<L2.length:=by rw [hL2];simp
     rw [<-hni,<-hL2]
     have hE2:ossE L2=ossE L1:=by rw [hL2,ossE_app];simp [ossE,osE]
     refine loopW_le (StLe.sub (nd_cons (nd_cons (nd_cons l4 hxo) (fun q hq=>by
           rcases List.mem_cons.1 hq with rfl|hq
           ·exact of_eq_false fxc
           ·exact hck q hq)) (fun q hq=>by
           rcases List.mem_cons.1 hq with rfl|hq
           ·exact fun he=>of_eq_false (f47 k5' k6 k7 k8) (by rw [<-hni];exact he.symm)
           ·rcases List.mem_cons.1 hq with rfl|hq
            ·simp
            ·intro he;have:=l3 q hq;rw [he] at this;simp at this;omega)) (σ':=colS cid (some (ni,47)) L2) (fun q hq=>?_) (Nat.le_refl _)) (walk_cs W0 p.cases cid L1.length (ni,47) L2 _ _ _ _ _ (fun x hx lo L n1 h1 h2=>ih x.2 cid lo L n1 (by have:=wtCs_mem hx;omega) h1 h2) (by rw [hmap];have:=selW_add (L1.map (·.1)) p.kind p.name;omega) (hok2.more (by omega)) hj2 ?_)
     ·simp only [colS,selS_some,hE2,sv,List.mem_cons] at hq⊢
      rcases hq with h|h|h
      ·exact .inr (.inl h)
      ·exact .inl h
      ·exact .inr (.inr (.inr h))
     ·intro lid3 L3 n5 hm3 hok3 hn5 hf3
      rw [hmap] at hm3
      have hcw:=collCs_w p.cases L1.length (selAdd (L1.map (·.1)) p.kind p.name)
      rw [<-hm3] at hcw hd
      have hw2:=selW_add (L1.map (·.1)) p.kind p.name
      simp only [push_cast,seval,reduceEqDiff,hz,wrap_zip p (done:=done) (by omega)]
      intros
      exact ⟨_,_,Nat.lt_succ_self _,StLe.refl,done++[p],rest,_,some lid3,L3,by simp,rfl,hd,by omega,hok3.more (by omega),by omega,(hfr1.trans hfr2 (by omega)).trans hf3 (by omega),rfl⟩
    ·obtain ⟨j,hj⟩:∃j:Nat,FI=j:=⟨FI.toNat,by omega⟩
     subst hj
     have hneg':decide ((j:Int)<0)=false:=by simpa using hneg
     have hsat:selAt (L1.map (·.1)) p.kind p.name=j:=by unfold selAt;rw [hfI,if_neg hneg];simp
     rw [hsat] at hd
     simp only [push_cast,seval,reduceEqDiff,hz,fcx,fxc,fcl,flc,flx,fxl,hdl,hneg',TS,List.length_map]
     intro k6 k7 k8
     obtain ⟨L2,hL2⟩:∃L2,L2=L1:=⟨_,rfl⟩
     have hmap:L2.map (·.1)=selAdd (L1.map (·.1)) p.kind p.name:=by rw [hL2];unfold selAdd;rw [hfI,if_neg hneg]
     have hok2:ColO cid (some lid) L2 n3:=by rw [hL2];exact hok1
     have hfr2:FreshS n3 (some lid) L1 (some lid) L2:=by rw [hL2];exact FreshS.refl _ _ _
     have hj2:j<L2.length:=by
      have:=idxI_lt (selIs p.kind p.name) (L1.map (·.1))
      unfold findI at hfI
      rw [hfI,List.length_map] at this
      rw [hL2];omega
     have l4':((ossE L2).map (·.1)).Nodup:=by rw [hL2];exact l4
     have hxo':∀q∈ossE L2,q.1≠(x0,5):=by rw [hL2];exact hxo
     have l2':∀q∈ossE L2,q.1≠lid:=by rw [hL2];exact l2
     have hck':∀q∈ossE L2,q.1≠cid:=by rw [hL2];exact hck
     have hnd4:∀X Y Z:Ent,(([(cid,X),(lid,Y),((x0,5),Z)]++ossE L2).map (fun q:Id × Ent=>q.1)).Nodup:=fun X Y Z=>
      nd_cons (a:=(cid,X)) (nd_cons (a:=(lid,Y)) (nd_cons (a:=((x0,5),Z)) l4' hxo') (fun q hq=>by
       rcases List.mem_cons.1 hq with rfl|hq
       ·exact of_eq_false fxl
       ·exact l2' q hq)) (fun q hq=>by
       rcases List.mem_cons.1 hq with rfl|hq
       ·exact of_eq_false flc
       ·rcases List.mem_cons.1 hq with rfl|hq
        ·exact of_eq_false fxc
        ·exact hck' q hq)
     rw [<-hL2]
     refine loopW_le (StLe.sub (hnd4 _ _ _) (σ':=colS cid (some lid) L2) (fun q hq=>?_) (Nat.le_refl _)) (walk_cs W0 p.cases cid j lid L2 _ _ _ _ _ (fun x hx lo L n1 h1 h2=>ih x.2 cid lo L n1 (by have:=wtCs_mem hx;omega) h1 h2) (by rw [hmap];have:=selW_add (L1.map (·.1)) p.kind p.name;omega) (hok2.more (by omega)) hj2 ?_)
     ·simp only [colS,selS_some,sv,List.mem_cons] at hq⊢
      rcases hq with h|h|h
      ·exact .inl h
      ·exact .inr (.inl h)
      ·exact .inr (.inr (.inr h))
     ·intro lid3 L3 n5 hm3 hok3 hn5 hf3
      rw [hmap] at hm3
      have hcw:=collCs_w p.cases j (selAdd (L1.map (·.1)) p.kind p.name)
      rw [<-hm3] at hcw hd
      have hw2:=selW_add (L1.map (·.1)) p.kind p.name
      simp only [push_cast,seval,reduceEqDiff,hz,wrap_zip p (done:=done) (by omega)]
      intros
      exact ⟨_,_,Nat.lt_succ_self _,StLe.refl,done++[p],rest,_,some lid3,L3,by simp,rfl,hd,by omega,hok3.more (by omega),by omega,(hfr1.trans hfr2 (by omega)).trans hf3 (by omega),rfl⟩
end Go.Ir
namespace Go.Ir
open Go.Proofs
variable {P : Program} {W0 : World} {nt n : Nat} {Q : Exit → St → Prop} {env : Env} {σ : Sto}
def f124_0:IC:=.seq (.ops [o1 4 (.mv (.c (.b false)))] [0,1] []) (.seq (.ops [m1 5 0,m1 6 1,o1 7 (.call 151 [.t 5,.t 6]),m1 4 7] [4] []) .ret)
@[push_cast]def f124R:List R:=[.t 4]
@[push_cast]def f124e:=aWu f124_0.eq_1
theorem f124ok:okFn Tryz.prog 124 8 f124_0 f124R=true:=by kernel_rfl
def f151_2:IC:=.seq (.ops [m1 5 0,o1 6 (.lenS (.t 5)),m1 7 1,o1 8 (.lenS (.t 7)),o1 9 (.bin .geq (.t 6) (.t 8)),m1 10 9,⟨some 11,.mv (.t 0),some (10,true),[]⟩,⟨some 12,.mv (.t 1),some (10,true),[]⟩,⟨some 13,.lenS (.t 12),some (10,true),[]⟩,⟨some 14,.slS (.t 11) none (some (.t 13)),some (10,true),[]⟩,⟨some 15,.mv (.t 1),some (10,true),[]⟩,⟨some 16,.bin .eql (.t 14) (.t 15),some (10,true),[]⟩,o1 17 (.pick (.t 10) (.t 16) (.c (.b false))),m1 4 17] [4] []) .ret
def f151_0:IC:=.seq (.ops [o1 4 (.mv (.c (.b false)))] [0,1] []) f151_2
@[push_cast]def f151R:List R:=[.t 4]
@[push_cast]def f151e:=aWv f151_2.eq_1<|aWu f151_0.eq_1
theorem f151ok:okFn Tryz.prog 151 18 f151_0 f151R=true:=by kernel_rfl
def f103_5:IC:=.cond (.t 6) (.seq (.ops [o1 7 (.faddr (.t 2) 4),o1 8 (.load (.t 7) 1 false),m1 4 8] [4] []) .ret) .skip
def f103_2:IC:=.seq (.seq (.ops [m1 5 1,o1 6 (.bin .eql (.t 5) (ci 8))] [2,6] []) f103_5) (.seq (.ops [o1 9 (.faddr (.t 2) 3),o1 10 (.load (.t 9) 1 false),m1 4 10] [4] []) .ret)
def f103_0:IC:=.seq (.ops [o1 2 (.box (.t 0)),o1 4 (.mv (.c .nil))] [1,2] []) f103_2
@[push_cast]def f103R:List R:=[.t 4]
@[push_cast]def f103e:=aWv f103_5.eq_1<|aWv f103_2.eq_1<|aWu f103_0.eq_1
theorem f103ok:okFn Tryz.prog 103 11 f103_0 f103R=true:=by kernel_rfl
def f89_12:IC:=.seq (.ops [o1 33 (.load (.t 3) 16 true),o1 34 (.faddr (.t 4) 0),o1 35 (.load (.t 34) 1 false),o1 36 (.call 103 [.t 33,.t 35]),m1 37 9,o1 38 (.call 102 [.t 36,.t 37]),m1 32 38,o1 39 (.ext (.t 32) 0),o1 40 (.ext (.t 32) 1),m1 11 39,m1 12 40] [4,7,11] []) (.ops [m1 41 7,m1 42 11,o1 43 (.callvs (.t 41) [.t 42]),m1 8 43] [4,7,8] [])
def f89_9:IC:=.seq (.ops [m1 22 8,o1 23 (.bin .lss (.t 22) (ci 0)),m1 24 23,⟨some 25,.mv (.t 10),some (24,true),[]⟩,o1 26 (.pick (.t 24) (.t 25) (.c (.b false))),m1 27 26,⟨some 28,.faddr (.t 4) 0,some (27,true),[]⟩,⟨some 29,.load (.t 28) 1 false,some (27,true),[]⟩,⟨some 30,.bin .neq (.t 29) (ci 9),some (27,true),[]⟩,o1 31 (.pick (.t 27) (.t 30) (.c (.b false)))] [3,4,7,8,9,31] []) (.cond (.t 31) f89_12 .skip)
def f89_18:IC:=.cond (.t 45) (.ops [m1 46 7,o1 47 (.callvs (.t 46) [(.c (.s [111,116,104,101,114]))]),m1 8 47] [4,8] []) .skip
def f89_20:IC:=.seq (.ops [o1 48 (.faddr (.t 4) 4),o1 49 (.load (.t 48) 1 false),m1 50 8,o1 51 (.iaddr (.t 49) (.t 50) 77 2),o1 52 (.faddr (.t 51) 1),o1 53 (.load (.t 52) 1 false),m1 6 53] [6] []) .ret
def f89_6:IC:=.seq (.seq (.ops [m1 18 2,o1 19 (.call 134 [.t 18,(.c (.s [61]))]),m1 17 19,o1 20 (.ext (.t 17) 0),o1 21 (.ext (.t 17) 1),m1 9 20,m1 10 21] [3,4,7,8,9,10] []) f89_9) (.seq (.seq (.ops [m1 44 8,o1 45 (.bin .lss (.t 44) (ci 0))] [4,7,8,45] []) f89_18) f89_20)
def f89_2:IC:=.seq (.ops [o1 13 (.mkfn 131 [] [.t 4]),m1 7 13] [2,3,4,7] []) (.seq (.ops [m1 14 7,m1 15 2,o1 16 (.callvs (.t 14) [.t 15]),m1 8 16] [2,3,4,7,8] []) f89_6)
def f89_0:IC:=.seq (.ops [o1 3 (.box (.t 0)),o1 4 (.box (.t 1)),o1 6 (.mv (.c .nil))] [2,3,4] []) f89_2
@[push_cast]def f89R:List R:=[.t 6]
@[push_cast]def f89e:=aWv f89_12.eq_1<|aWv f89_9.eq_1<|aWv f89_18.eq_1<|aWv f89_20.eq_1<|aWv f89_6.eq_1<|aWv f89_2.eq_1<|aWu f89_0.eq_1
theorem f89ok:okFn Tryz.prog 89 54 f89_0 f89R=true:=by kernel_rfl
def f131_2:IC:=.seq (.ops [o1 4 (.faddr (.t 1) 4),o1 5 (.load (.t 4) 1 false),o1 6 (.mkfn 133 [] [.t 2]),o1 7 (.callr 132 [.t 5,.t 6]),m1 3 7] [3] []) .ret
def f131_0:IC:=.seq (.ops [o1 2 (.box (.t 0)),o1 3 (.mv (ci 0))] [1,2] []) f131_2
@[push_cast]def f131R:List R:=[.t 3]
@[push_cast]def f131e:=aWv f131_2.eq_1<|aWu f131_0.eq_1
theorem f131ok:okFn Tryz.prog 131 8 f131_0 f131R=true:=by kernel_rfl
def f133_2:IC:=.seq (.ops [o1 4 (.faddr (.t 2) 0),o1 5 (.load (.t 4) 1 false),o1 6 (.load (.t 1) 1 false),o1 7 (.bin .eql (.t 5) (.t 6)),m1 3 7] [3] []) .ret
def f133_0:IC:=.seq (.ops [o1 2 (.box (.t 0)),o1 3 (.mv (.c (.b false)))] [1,2] []) f133_2
@[push_cast]def f133R:List R:=[.t 3]
@[push_cast]def f133e:=aWv f133_2.eq_1<|aWu f133_0.eq_1
theorem f133ok:okFn Tryz.prog 133 8 f133_0 f133R=true:=by kernel_rfl
def f90_8:IC:=.seq (.ops [m1 24 0,m1 25 5,o1 26 (.bin .sub (.t 25) (ci 1)),o1 27 (.iaddr (.t 24) (.t 26) 75 6),o1 28 (.faddr (.t 27) 1),o1 29 (.load (.t 28) 1 false),o1 30 (.faddr (.t 3) 1),o1 31 (.load (.t 30) 1 false),o1 32 (.bin .add (.t 29) (.t 31)),o1 33 (.iaddr (.t 24) (.t 26) 75 6),o1 34 (.faddr (.t 33) 1),o0 (.store (.t 34) (.t 32) 1)] [0] [[1,2],[0,3],[2,3],[3,4],[4,5],[6,7],[5,8],[7,8],[0,9],[2,9],[9,10],[3,11],[5,11],[7,11],[8,11],[9,10,11],[10,11]]) (.seq (.ops [m1 35 0,m1 4 35] [4] []) .ret)
def f90_5:IC:=.seq (.ops [m1 8 5,o1 9 (.bin .gtr (.t 8) (ci 0)),m1 10 9,⟨some 11,.faddr (.t 3) 0,some (10,true),[]⟩,⟨some 12,.load (.t 11) 1 false,some (10,true),[]⟩,⟨some 13,.bin .eql (.t 12) (ci 1),some (10,true),[]⟩,o1 14 (.pick (.t 10) (.t 13) (.c (.b false))),m1 15 14,⟨some 16,.mv (.t 0),some (15,true),[]⟩,⟨some 17,.mv (.t 5),some (15,true),[]⟩,⟨some 18,.bin .sub (.t 17) (ci 1),some (15,true),[]⟩,⟨some 19,.iaddr (.t 16) (.t 18) 75 6,some (15,true),[]⟩,⟨some 20,.faddr (.t 19) 0,some (15,true),[]⟩,⟨some 21,.load (.t 20) 1 false,some (15,true),[]⟩,⟨some 22,.bin .eql (.t 21) (ci 1),some (15,true),[]⟩,o1 23 (.pick (.t 15) (.t 22) (.c (.b false)))] [0,3,5,23] []) (.cond (.t 23) f90_8 .skip)
def f90_12:IC:=.seq (.ops [m1 36 0,o1 37 (.load (.t 3) 6 true),o1 38 (.msl false 75 6 [.t 37]),o1 39 (.app (.t 36) (.t 38) 75 6),m1 4 39] [4] []) .ret
def f90_0:IC:=.seq (.ops [o1 3 (.box (.t 1)),o1 4 (.mv (.c .nil))] [0,3] []) (.seq (.seq (.ops [m1 6 0,o1 7 (.lenL (.t 6)),m1 5 7] [0,3,5] []) f90_5) f90_12)
@[push_cast]def f90R:List R:=[.t 4]
@[push_cast]def f90e:=aWv f90_8.eq_1<|aWv f90_5.eq_1<|aWv f90_12.eq_1<|aWu f90_0.eq_1
theorem f90ok:okFn Tryz.prog 90 40 f90_0 f90R=true:=by kernel_rfl
def f11_6:IC:=.seq (.ops [o1 16 (.build [.nil,.nil] []),o0 (.store (.t 4) (.t 16) 2),o1 5 (.mv (ci 1))] [4,5] []) .ret
def f11_16:IC:=.seq (.ops [o1 25 (.build [.nil,.nil] []),o0 (.store (.t 4) (.t 25) 2),o1 5 (.mv (ci 6))] [4,5] []) .ret
def f11_22:IC:=.seq (.ops [o1 36 (.build [.nil,.nil] []),o0 (.store (.t 4) (.t 36) 2),o1 5 (.mv (ci 18))] [4,5] []) .ret
def f11_56:IC:=.ops [m1 78 10,m1 79 12,o1 80 (.lenL (.t 79)),o1 81 (.bin .quo (.t 78) (.t 80)),m1 10 81] [1,2,4,6,9,10,11,37,38] []
def f11_54:IC:=.seq (.ops [m1 65 9,o1 66 (.nilck (.t 65)),o1 67 (.faddr (.t 66) 17),o1 68 (.load (.t 67) 1 false),m1 69 11,m1 70 12,m1 71 10,m1 72 12,o1 73 (.lenL (.t 72)),o1 74 (.bin .rem (.t 71) (.t 73)),o1 75 (.iaddr (.t 70) (.t 74) 9 1),o1 76 (.load (.t 75) 1 false),o1 77 (.iaddr (.t 68) (.t 69) 9 1),o0 (.store (.t 77) (.t 76) 1)] [1,2,4,6,9,10,11,12,37,38] [[0,1],[1,2],[2,3],[7,8],[6,9],[8,9],[5,10],[9,10],[10,11],[3,12],[4,12],[3,13],[8,13],[10,13],[11,13],[12,13]]) f11_56
def f11_50:IC:=.seq (.block 3 (.seq (.ops [o1 59 (.faddr (.t 6) 0),o1 60 (.load (.t 59) 1 false),m1 61 11,o1 62 (.iaddr (.t 60) (.t 61) 86 3),o1 63 (.faddr (.t 62) 2),o1 64 (.load (.t 63) 1 false),m1 12 64] [1,2,4,6,9,10,11,12,37,38] []) f11_54)) (.ops [m1 57 11,o1 58 (.bin .sub (.t 57) (ci 1)),m1 11 58] [1,2,4,6,9,10,11,37,38] [])
def f11_46:IC:=.seq (.seq (.ops [m1 55 11,o1 56 (.bin .geq (.t 55) (ci 0))] [1,2,4,6,9,10,11,37,38,56] []) (.cond (.t 56) .skip (.exit 2))) f11_50
def f11_59:IC:=.ops [o1 82 (.faddr (.t 6) 1),o1 83 (.load (.t 82) 1 false),m1 84 9,m1 85 1,o1 86 (.callr 42 [.t 84,.t 85,(.c (.s []))]),o1 87 (.msl false 31 1 [.t 86]),o1 88 (.app (.t 83) (.t 87) 31 1),o1 89 (.faddr (.t 6) 1),o0 (.store (.t 89) (.t 88) 1)] [1,2,4,6,37,38] [[0,1],[2,4],[3,4],[4,5],[1,6],[4,6],[5,6],[1,8],[4,8],[6,8],[7,8]]
def f11_41:IC:=.seq (.seq (.ops [o1 51 (.faddr (.t 6) 0),o1 52 (.load (.t 51) 1 false),o1 53 (.lenL (.t 52)),o1 54 (.bin .sub (.t 53) (ci 1)),m1 11 54] [1,2,4,6,9,10,11,37,38] []) (.block 2 (.loop f11_46))) (.wk f11_59)
def f11_37:IC:=.seq (.ops [o1 41 (.load (.t 2) 16 true),o1 42 (.faddr (.t 6) 0),o1 43 (.load (.t 42) 1 false),o1 44 (.faddr (.t 6) 0),o1 45 (.load (.t 44) 1 false),o1 46 (.lenL (.t 45)),o1 47 (.mksl (.t 46) (.t 46) (.s []) 9 1),o1 48 (.build [(.s []),(.s []),(.s []),.nil,.nil,(.s []),(.s []),(.s []),(.s []),(.i .i64 0),(.i .i64 0),.nil,.nil,.nil,.nil,.nil,.nil,.nil] [(0,16,(.t 41)),(16,1,(.t 43)),(17,1,(.t 47))]),o1 49 (.box (.t 48)),m1 9 49] [1,2,4,6,8,9,37,38] [[1,2],[3,4],[4,5],[5,6],[0,7],[2,7],[6,7],[7,8],[8,9]]) (.seq (.ops [m1 50 8,m1 10 50] [1,2,4,6,9,10,37,38] []) f11_41)
def f11_33:IC:=.seq (.block 1 (.seq (.ops [m1 40 38,m1 8 40] [1,2,4,6,8,37,38] []) f11_37)) (.ops [o1 90 (.bin .add (.t 38) (ci 1)),m1 38 90] [1,2,4,6,37,38] [])
def f11_29:IC:=.seq (.ops [o1 39 (.bin .lss (.t 38) (.t 37))] [1,2,4,6,37,38,39] []) (.seq (.cond (.t 39) .skip (.exit 0)) f11_33)
def f11_61:IC:=.seq (.ops [o1 91 (.load (.t 6) 2 true),o0 (.store (.t 4) (.t 91) 2),o1 5 (.mv (ci 0))] [4,5] []) .ret
def f11_24:IC:=.seq (.seq (.ops [m1 37 7,o1 38 (.mv (ci 0))] [1,2,4,6,37,38] []) (.block 0 (.loop f11_29))) f11_61
def f11_18:IC:=.seq (.seq (.ops [o1 26 (.faddr (.t 2) 3),o1 27 (.load (.t 26) 1 false),o1 28 (.call 41 [.t 27]),o1 29 (.not (.t 28)),m1 30 29,⟨some 31,.faddr (.t 2) 4,some (30,false),[]⟩,⟨some 32,.load (.t 31) 1 false,some (30,false),[]⟩,⟨some 33,.call 41 [.t 32],some (30,false),[]⟩,⟨some 34,.not (.t 33),some (30,false),[]⟩,o1 35 (.pick (.t 30) (.c (.b true)) (.t 34))] [1,2,4,6,7,35] []) (.cond (.t 35) f11_22 .skip)) f11_24
def f11_12:IC:=.seq (.seq (.ops [m1 23 7,o1 24 (.bin .gtr (.t 23) (ci 400))] [1,2,4,6,7,24] []) (.cond (.t 24) f11_16 .skip)) f11_18
def f11_10:IC:=.seq (.ops [o1 20 (.faddr (.t 6) 0),o1 21 (.load (.t 20) 1 false),o1 22 (.call 40 [.t 21]),m1 7 22] [1,2,4,6,7] []) f11_12
def f11_8:IC:=.seq (.ops [m1 17 1,o1 18 (.call 39 [.t 17]),o1 19 (.build [.nil,.nil] [(0,1,(.t 18))]),o1 6 (.alloc (.agg [.nil,.nil])),o0 (.store (.t 6) (.t 19) 2)] [1,2,4,6] []) f11_10
def f11_2:IC:=.seq (.seq (.ops [m1 13 1,o1 14 (.call 15 [.t 13]),o1 15 (.not (.t 14))] [1,2,4,15] []) (.cond (.t 15) f11_6 .skip)) f11_8
def f11_0:IC:=.seq (.ops [o1 2 (.box (.t 0)),o1 4 (.alloc (.agg [.nil,.nil])),o1 5 (.mv (ci 0))] [1,2,4] []) f11_2
@[push_cast]def f11R:List R:=[.c 4 2 true,.t 5]
@[push_cast]def f11e:=aWv f11_6.eq_1<|aWv f11_16.eq_1<|aWv f11_22.eq_1<|aWv f11_56.eq_1<|aWv f11_54.eq_1<|aWv f11_50.eq_1<|aWv f11_46.eq_1<|aWv f11_59.eq_1<|aWv f11_41.eq_1<|aWv f11_37.eq_1<|aWv f11_33.eq_1<|aWv f11_29.eq_1<|aWv f11_61.eq_1<|aWv f11_24.eq_1<|aWv f11_18.eq_1<|aWv f11_12.eq_1<|aWv f11_10.eq_1<|aWv f11_8.eq_1<|aWv f11_2.eq_1<|aWu f11_0.eq_1
theorem f11ok:okFn Tryz.prog 11 92 f11_0 f11R=true:=by kernel_rfl
def f42_29:IC:=.ops [o1 37 (.faddr (.t 9) 2),o1 38 (.load (.t 37) 1 false),m1 11 38] [0,2,7,9,10,11,14,15,16] []
def f42_42:IC:=.ops [m1 60 7,o1 61 (.load (.t 13) 6 true),o1 62 (.calln 90 [.t 60,.t 61]),m1 7 62] [0,2,7,14,15,16,54,55,56] []
def f42_38:IC:=.seq (.block 4 (.seq (.ops [o1 58 (.iaddr (.t 54) (.t 56) 75 6),o1 59 (.load (.t 58) 6 true),o1 13 (.alloc (.agg [(.i .i64 0),(.s []),(.s []),(.s []),.nil,.nil])),o0 (.store (.t 13) (.t 59) 6)] [0,2,7,13,14,15,16,54,55,56] []) f42_42)) (.ops [o1 63 (.bin .add (.t 56) (ci 1)),m1 56 63] [0,2,7,14,15,16,54,55,56] [])
def f42_34:IC:=.seq (.ops [o1 57 (.bin .lss (.t 56) (.t 55))] [0,2,7,14,15,16,54,55,56,57] []) (.seq (.cond (.t 57) .skip (.exit 3)) f42_38)
def f42_30:IC:=.seq (.ops [m1 39 0,m1 40 0,o1 41 (.nilck (.t 40)),o1 42 (.faddr (.t 41) 0),o1 43 (.load (.t 42) 16 true),o1 44 (.load (.t 9) 6 true),m1 45 0,o1 46 (.nilck (.t 45)),o1 47 (.faddr (.t 46) 17),o1 48 (.load (.t 47) 1 false),m1 49 10,o1 50 (.iaddr (.t 48) (.t 49) 9 1),o1 51 (.load (.t 50) 1 false),o1 52 (.call 89 [.t 43,.t 44,.t 51]),m1 53 11,o1 54 (.callr 42 [.t 39,.t 52,.t 53]),o1 55 (.lenL (.t 54)),o1 56 (.mv (ci 0))] [0,2,7,14,15,16,54,55,56] [[1,2],[2,3],[3,4],[6,7],[7,8],[8,9],[9,11],[10,11],[11,12],[4,13],[5,13],[12,13],[0,15],[13,15],[14,15],[15,16]]) (.block 3 (.loop f42_34))
def f42_25:IC:=.seq (.seq (.ops [o1 34 (.faddr (.t 9) 0),o1 35 (.load (.t 34) 1 false),o1 36 (.bin .neq (.t 35) (ci 9))] [0,2,7,9,10,11,14,15,16,36] []) (.cond (.t 36) f42_29 .skip)) f42_30
def f42_21:IC:=.seq (.ops [m1 27 0,o1 28 (.nilck (.t 27)),o1 29 (.faddr (.t 28) 16),o1 30 (.load (.t 29) 1 false),o1 31 (.mkfn 88 [] [.t 9]),o1 32 (.callr 87 [.t 30,.t 31]),m1 10 32] [0,2,7,9,10,14,15,16] []) (.seq (.ops [m1 33 2,m1 11 33] [0,2,7,9,10,11,14,15,16] []) f42_25)
def f42_47:IC:=.ops [m1 68 7,m1 69 2,o1 70 (.build [(.i .i64 0),(.s []),(.s []),(.s []),.nil,.nil] [(0,1,(ci 3)),(2,1,(.t 69))]),o1 71 (.msl false 75 6 [.t 70]),o1 72 (.app (.t 68) (.t 71) 75 6),m1 7 72] [0,2,7,14,15,16] []
def f42_53:IC:=.ops [m1 83 7,o1 84 (.load (.t 9) 6 true),o1 85 (.msl false 75 6 [.t 84]),o1 86 (.app (.t 83) (.t 85) 75 6),m1 7 86] [0,2,7,14,15,16] []
def f42_51:IC:=.seq (.ops [m1 77 0,o1 78 (.faddr (.t 9) 5),o1 79 (.load (.t 78) 1 false),m1 80 2,o1 81 (.callr 42 [.t 77,.t 79,.t 80]),o1 82 (.faddr (.t 9) 5),o0 (.store (.t 82) (.t 81) 1)] [0,2,7,9,14,15,16] []) f42_53
def f42_54:IC:=.ops [m1 20 7,o1 21 (.load (.t 9) 6 true),o1 22 (.calln 90 [.t 20,.t 21]),m1 7 22] [0,2,7,14,15,16] []
def f42_48:IC:=.seq (.ops [o1 74 (.faddr (.t 9) 0),o1 75 (.load (.t 74) 1 false),o1 76 (.bin .eql (.t 75) (ci 11)),m1 73 76] [0,2,7,9,14,15,16,73] []) (.cond (.t 73) f42_51 f42_54)
def f42_44:IC:=.seq (.ops [o1 65 (.faddr (.t 9) 0),o1 66 (.load (.t 65) 1 false),o1 67 (.bin .eql (.t 66) (ci 10)),m1 64 67] [0,2,7,9,14,15,16,64] []) (.cond (.t 64) f42_47 f42_48)
def f42_17:IC:=.block 2 (.seq (.ops [o1 24 (.faddr (.t 9) 0),o1 25 (.load (.t 24) 1 false),o1 26 (.call 43 [.t 25]),m1 23 26] [0,2,7,9,14,15,16,23] []) (.cond (.t 23) f42_21 f42_44))
def f42_13:IC:=.seq (.block 1 (.seq (.ops [o1 18 (.iaddr (.t 14) (.t 16) 75 6),o1 19 (.load (.t 18) 6 true),o1 9 (.alloc (.agg [(.i .i64 0),(.s []),(.s []),(.s []),.nil,.nil])),o0 (.store (.t 9) (.t 19) 6)] [0,2,7,9,14,15,16] []) f42_17)) (.ops [o1 87 (.bin .add (.t 16) (ci 1)),m1 16 87] [0,2,7,14,15,16] [])
def f42_9:IC:=.seq (.ops [o1 17 (.bin .lss (.t 16) (.t 15))] [0,2,7,14,15,16,17] []) (.seq (.cond (.t 17) .skip (.exit 0)) f42_13)
def f42_4:IC:=.seq (.seq (.ops [m1 14 1,o1 15 (.lenL (.t 14)),o1 16 (.mv (ci 0))] [0,2,7,14,15,16] []) (.block 0 (.loop f42_9))) (.seq (.ops [m1 88 7,m1 6 88] [6] []) .ret)
def f42_0:IC:=.seq (.ops [o1 6 (.mv (.c .nil))] [0,1,2] []) (.seq (.ops [o1 7 (.mv (.c .nil))] [0,1,2,7] []) f42_4)
@[push_cast]def f42R:List R:=[.t 6]
@[push_cast]def f42e:=aWv f42_29.eq_1<|aWv f42_42.eq_1<|aWv f42_38.eq_1<|aWv f42_34.eq_1<|aWv f42_30.eq_1<|aWv f42_25.eq_1<|aWv f42_21.eq_1<|aWv f42_47.eq_1<|aWv f42_53.eq_1<|aWv f42_51.eq_1<|aWv f42_54.eq_1<|aWv f42_48.eq_1<|aWv f42_44.eq_1<|aWv f42_17.eq_1<|aWv f42_13.eq_1<|aWv f42_9.eq_1<|aWv f42_4.eq_1<|aWu f42_0.eq_1
theorem f42ok:okFn Tryz.prog 42 89 f42_0 f42R=true:=by kernel_rfl
def f88_2:IC:=.seq (.ops [o1 4 (.faddr (.t 2) 0),o1 5 (.load (.t 4) 1 false),o1 6 (.faddr (.t 1) 0),o1 7 (.load (.t 6) 1 false),o1 8 (.bin .eql (.t 5) (.t 7)),m1 9 8,⟨some 10,.faddr (.t 2) 1,some (9,true),[]⟩,⟨some 11,.load (.t 10) 1 false,some (9,true),[]⟩,⟨some 12,.faddr (.t 1) 2,some (9,true),[]⟩,⟨some 13,.load (.t 12) 1 false,some (9,true),[]⟩,⟨some 14,.bin .eql (.t 11) (.t 13),some (9,true),[]⟩,o1 15 (.pick (.t 9) (.t 14) (.c (.b false))),m1 3 15] [3] []) .ret
def f88_0:IC:=.seq (.ops [o1 2 (.box (.t 0)),o1 3 (.mv (.c (.b false)))] [1,2] []) f88_2
@[push_cast]def f88R:List R:=[.t 3]
@[push_cast]def f88e:=aWv f88_2.eq_1<|aWu f88_0.eq_1
theorem f88ok:okFn Tryz.prog 88 16 f88_0 f88R=true:=by kernel_rfl

end Go.Ir
namespace Go.Ir
open Go.Proofs
variable (W0 : World)
theorem finW_frz {W0:World} {nt n s:Nat} {env:Env} {σ:Sto} {id:Id} {e sz:Nat} {es:List V} (hs:get env s = .arr id) (hok:∀y∈es,y.ok=true) (hl:lk σ id=some (.arr e sz es)):FinW W0 nt [.t s] [.sl es] [] .ret ⟨env,σ,n⟩:=by
 refine ⟨⟨[(s,.sl es)],[],n⟩,StLe.weak (fun i=>if i=id then some es else none) (fun i es' h=>?_) (fun t=>?_) (fun i e' h=>by cases h) (Nat.le_refl _),⟨by simp [ResOk,get],trivial⟩,fun _ _ h=>by cases h⟩
 ·split at h
  ·rename_i hi;subst hi;cases h;exact ⟨⟨e,sz,hl⟩,rfl⟩
  ·cases h
 ·by_cases ht:s=t
  ·subst ht
   rw [hs]
   simp only [get,if_true]
   refine .arr id es es (by simp) rfl (fun k c c' h1 h2=>?_) (fun k c c' h1 h2=>?_)
   ·rw [h1] at h2;cases h2;exact .refl _
   ·rw [h1] at h2;cases h2
    have:=hok c (List.mem_of_getElem? h1)
    exact ⟨rfl,this,this⟩
  ·simp only [get,if_neg ht];exact .any _
def headEq:Bytes->Bool
 | []=>false
 | c::_=>(c.toNat:Int) == 61
def keepK (kind:Int) (k:Bytes):Bool:=!(k == kOtherS)&&(kind == 9||headEq k)
def clsK (kind:Int) (keys:List Bytes):List Bytes:=if kind == 9 then [] else kFive.filter fun k=>keys.contains k
def ordK (kind:Int) (keys:List Bytes):List Bytes:=keys.filter (keepK kind)++(clsK kind keys++[kOtherS])
theorem c_hasPre1 (s:Bytes):RetS Tryz.prog W0 151 [.s s,.s [61]] [] (.b (headEq s)) []:=by
 cases s with
 | nil=>
  refine fn_retW (vs:=[.b false]) f151ok (by simp) (by simp) fun n0 hn0=>?_
  clear hn0
  simp only [push_cast,seval,reduceEqDiff,decide_false]
  repeat' (first|(((first|apply condU_s|apply gdU_t|apply gdU_f)<;>intro _h)<;>simp only [push_cast,seval,reduceEqDiff,_h,decide_false])|intro _)
  all_goals (first|(refine finW_ret ?_;simp [get]<;>(intros;omega);done)|(refine finW_rets ?_;simp [push_cast,get];done)|skip)
 | cons c t=>
  have h1:decide (((c::t).length:Int)>=1)=true:=by simp<;>omega
  have h2:(if 0<=1/\1<=(c::t).length then some (V.s (List.take 1 (c::t))) else none)=some (V.s [c]):=by simp
  have h3:([c] == [61])=((c.toNat:Int) == 61):=by
   rw [Bool.eq_iff_iff];simp [<-UInt8.toNat_inj];omega
  simp only [push_cast,seval,reduceEqDiff] at h1 h2
  refine fn_retW (vs:=[.b (headEq (c::t))]) f151ok (by simp) (by simp) fun n0 hn0=>?_
  clear hn0
  simp only [push_cast,seval,reduceEqDiff,h1,h2,h3]
  repeat' (first|(((first|apply condU_s|apply gdU_t|apply gdU_f)<;>intro _h)<;>simp only [push_cast,seval,reduceEqDiff,_h,h1,h2,h3])|intro _)
  all_goals (first|(refine finW_ret ?_;simp [get,headEq]<;>(intros;omega);done)|(refine finW_rets ?_;simp [push_cast,get,headEq];done)|skip)
theorem c_hasPre (s:Bytes):RetS Tryz.prog W0 124 [.s s,.s [61]] [] (.b (headEq s)) []:=by
 refine fn_retW (vs:=[.b (headEq s)]) f124ok (by simp) (by simp) fun n0 hn0=>?_
 clear hn0
 simp only [push_cast,seval,reduceEqDiff]
 repeat' (first|(((first|apply condU_s|apply gdU_t|apply gdU_f)<;>intro _h)<;>simp only [push_cast,seval,reduceEqDiff,_h])|(refine c_call (by exact c_hasPre1 W0 s) ?_;simp only [push_cast,seval,reduceEqDiff])|intro _)
 all_goals (first|(refine finW_ret ?_;simp [get]<;>(intros;omega);done)|(refine finW_rets ?_;simp [push_cast,get];done)|skip)
theorem c_vClasses:RetS Tryz.prog W0 125 [] [] (.sl (kFive.map V.s)) []:=by
 unfold kFive
 simp only [List.map_cons,List.map_nil]
 refine fn_retW (vs:=[.sl [.s [122,101,114,111],.s [111,110,101],.s [116,119,111],.s [102,101,119],.s [109,97,110,121]]]) f125ok (by simp) (by simp) fun n0 hn0=>?_
 clear hn0
 simp only [push_cast,seval,reduceEqDiff]
 repeat' (first|(((first|apply condU_s|apply gdU_t|apply gdU_f)<;>intro _h)<;>(simp only [push_cast,seval,reduceEqDiff,_h];try (have _g:=_h;simp at _g)))|intro _)
 all_goals (first|(refine finW_ret ?_;simp [get]<;>(intros;omega);done)|(refine finW_rets ?_;simp [push_cast,get];done)|skip)
theorem mapS_snoc (o:List Bytes) (k:Bytes):List.map V.s o++[V.s k]=List.map V.s (o++[k]):=by simp
theorem okS (o:List Bytes):∀y∈List.map V.s o,y.ok=true:=by
 intro y hy;obtain ⟨x,_,rfl⟩:=List.mem_map.1 hy;rfl
set_option maxHeartbeats 4000000 in
theorem c_ordered (kind:Int) (name:Bytes) (keys:List Bytes) (hk:keys.length<=2^26) :
  RetS Tryz.prog W0 82 [.agg [.i .i64 kind,.s name,.sl (keys.map V.s)]] [] (.sl ((ordK kind keys).map V.s)) []:=by
 have hcl:=c_vClasses W0
 generalize hS:ordK kind keys=S
 unfold ordK at hS
 refine fn_retW (vs:=[.sl (S.map V.s)]) f82ok (by simp) (by simp) fun n0 hn0=>?_
 clear hn0
 simp only [push_cast,seval,reduceEqDiff]
 intros
 refine aWP_loopW keys.length (Inv:=fun m st=>∃done rest n id o,keys=done++rest/\m=rest.length/\o++(rest.filter (keepK kind)++(clsK kind keys++[kOtherS]))=S/\o.length<=done.length/\(id=(n0,1))=False/\st=⟨[(1,.ref (n0,1) 0),(3,.arr id),(9,.sl (keys.map V.s)),(10,.i .i64 keys.length),(11,.i .i64 done.length)],[(id,.arr 9 1 (o.map V.s)),((n0,1),.box (.agg [.i .i64 kind,.s name,.sl (keys.map V.s)]))],n⟩) ⟨_,(StLe.own (s:=3) (e:=9) (sz:=1) (k:=29) rfl).trans (StLe.envD (fun t=>?_) (Nat.le_refl _)),[],keys,_,_,[],rfl,rfl,hS,by simp,by simp,rfl⟩ ?_
 ·left
  by_cases h3:3=t
  ·subst h3;rfl
  ·simp [get,h3]
 rintro m _ ⟨done,rest,n,id,o,hz,rfl,hd,ho,hid,rfl⟩
 have hid':((n0,1)=id)=False:=eq_false fun he=>of_eq_false hid he.symm
 cases rest with
 | nil=>
  rw [List.filter_nil,List.nil_append] at hd
  have hlk:o.length<=2^26:=by rw [hz] at hk;simp at hk;omega
  have e1:∀a:Nat,a<=2^26+5->(a+1<=LLim)=True:=fun a h=>eq_true (by unfold LLim;omega)
  rcases Bool.eq_false_or_eq_true (kind == 9) with hk9|hk9
  ·have hn9:(kind != 9)=false:=by simp [bne,hk9]
   unfold clsK at hd
   rw [hk9,if_pos rfl,List.nil_append] at hd
   unfold kOtherS at hd
   simp only [push_cast,seval,reduceEqDiff,hid,hid',hn9,e1 o.length (by omega),List.length_map,mapS_snoc,hd,hz]
   repeat' (first|(((first|apply condU_s|apply gdU_t|apply gdU_f)<;>intro _h)<;>simp only [push_cast,seval,reduceEqDiff,_h,hid,hid',hn9,e1 o.length (by omega),List.length_map,mapS_snoc,hd])|intro _)
   exact finW_frz (e:=9) (sz:=1) rfl (okS _) (by simp [lk])
  ·have hn9:(kind != 9)=true:=by simp [bne,hk9]
   unfold clsK at hd
   rw [hk9,if_neg (by simp)] at hd
   have hdl:o.length<=keys.length:=by rw [hz];simpa using ho
   have hlt0:decide ((done.length:Int)<(keys.length:Int))=false:=by rw [hz];simp
   clear ho hz
   simp only [push_cast,seval,reduceEqDiff,hid,hid',hn9,hlt0]
   repeat' (first|(((first|apply condU_s|apply gdU_t|apply gdU_f)<;>intro _h)<;>simp only [push_cast,seval,reduceEqDiff,_h,hid,hid',hn9,hlt0])|(refine c_call (by exact hcl) ?_;simp only [push_cast,seval,reduceEqDiff,hid,hid',hn9,hlt0])|intro _)
   refine aWP_loopW 5 (Inv:=fun m st=>∃done rest n id o,kFive=done++rest/\m=rest.length/\o++(rest.filter (fun k=>keys.contains k)++[kOtherS])=S/\o.length<=keys.length+done.length/\(id=(n0,1))=False/\st=⟨[(1,.ref (n0,1) 0),(3,.arr id),(34,.sl (kFive.map V.s)),(35,.i .i64 5),(36,.i .i64 done.length)],[(id,.arr 9 1 (o.map V.s)),((n0,1),.box (.agg [.i .i64 kind,.s name,.sl (keys.map V.s)]))],n⟩) ⟨_,StLe.refl,[],kFive,_,id,o,rfl,rfl,hd,by simpa using hdl,hid,rfl⟩ ?_
   clear hid hid' hd hdl o id hlk
   rintro m _ ⟨done2,rest,n,id,o,hz,rfl,hd,ho,hid,rfl⟩
   have hid':((n0,1)=id)=False:=eq_false fun he=>of_eq_false hid he.symm
   have hl5:done2.length+rest.length=5:=by have:=congrArg List.length hz;simp at this;exact this.symm
   cases rest with
   | nil=>
    rw [List.filter_nil,List.nil_append] at hd
    simp at hl5
    unfold kOtherS at hd
    have hlt5:decide ((done2.length:Int)<5)=false:=by simp;omega
    simp only [push_cast,seval,reduceEqDiff,hid,hid',e1 o.length (by omega),List.length_map,mapS_snoc,hd,hlt5]
    repeat' (first|(((first|apply condU_s|apply gdU_t|apply gdU_f)<;>intro _h)<;>simp only [push_cast,seval,reduceEqDiff,_h,hid,hid',e1 o.length (by omega),List.length_map,mapS_snoc,hd,hlt5])|intro _)
    exact finW_frz (e:=9) (sz:=1) rfl (okS _) (by simp [lk])
   | cons k rest=>
    have hin:=c_containsS W0 keys k (by omega)
    have hlt5:decide ((done2.length:Int)<5)=true:=by simp at hl5⊢;omega
    rw [hz]
    generalize hC:keys.contains k=C at hin
    cases C with
    | true=>
     simp only [push_cast,seval,reduceEqDiff,hid,hid',e1 o.length (by omega),List.length_map,mapS_snoc,hlt5,wrap_zip k (done:=done2) (by simp at hl5;omega)]
     repeat' (first|(((first|apply condU_s|apply gdU_t|apply gdU_f)<;>intro _h)<;>simp only [push_cast,seval,reduceEqDiff,_h,hid,hid',e1 o.length (by omega),List.length_map,mapS_snoc,hlt5,wrap_zip k (done:=done2) (by simp at hl5;omega)])|(refine c_call (by exact hin) ?_;simp only [push_cast,seval,reduceEqDiff,hid,hid',e1 o.length (by omega),List.length_map,mapS_snoc,hlt5,wrap_zip k (done:=done2) (by simp at hl5;omega)])|intro _)
     exact ⟨_,_,Nat.lt_succ_self _,StLe.refl,done2++[k],rest,_,_,o++[k],by simp,rfl,by rw [<-hd,List.filter_cons_of_pos (by simpa using hC)];simp,by simp;omega,by simp,rfl⟩
    | false=>
     simp only [push_cast,seval,reduceEqDiff,hid,hid',e1 o.length (by omega),List.length_map,mapS_snoc,hlt5,wrap_zip k (done:=done2) (by simp at hl5;omega)]
     repeat' (first|(((first|apply condU_s|apply gdU_t|apply gdU_f)<;>intro _h)<;>simp only [push_cast,seval,reduceEqDiff,_h,hid,hid',e1 o.length (by omega),List.length_map,mapS_snoc,hlt5,wrap_zip k (done:=done2) (by simp at hl5;omega)])|(refine c_call (by exact hin) ?_;simp only [push_cast,seval,reduceEqDiff,hid,hid',e1 o.length (by omega),List.length_map,mapS_snoc,hlt5,wrap_zip k (done:=done2) (by simp at hl5;omega)])|intro _)
     exact ⟨_,_,Nat.lt_succ_self _,StLe.refl,done2++[k],rest,_,_,o,by simp,rfl,by rw [<-hd,List.filter_cons_of_neg (by simp;simpa using hC)],by simp;omega,hid,rfl⟩
 | cons k rest=>
  have hb:=zip_bd hz
  have e1:o.length+1<=LLim:=by unfold LLim;omega
  have hpre:=c_hasPre W0 k
  simp only [push_cast,seval,reduceEqDiff,hz,wrap_zip k (done:=done) (by omega),hid,hid',eq_true e1,List.length_map,mapS_snoc]
  repeat' (first|(((first|apply condU_s|apply gdU_t|apply gdU_f)<;>intro _h)<;>simp only [push_cast,seval,reduceEqDiff,_h,hz,wrap_zip k (done:=done) (by omega),hid,hid',eq_true e1,List.length_map,mapS_snoc])|(refine c_call (by exact hpre) ?_;simp only [push_cast,seval,reduceEqDiff,hz,wrap_zip k (done:=done) (by omega),hid,hid',eq_true e1,List.length_map,mapS_snoc])|intro _)
  all_goals (try simp only [Bool.not_eq_true',Bool.not_eq_false'] at *)
  all_goals (first|exact ⟨_,_,Nat.lt_succ_self _,StLe.refl,done++[k],rest,_,_,o++[k],by simp,rfl,by rw [<-hd,List.filter_cons_of_pos (by simp only [keepK,kOtherS, *];rfl)];simp [hz],by simp;omega,by simp,rfl⟩|exact ⟨_,_,Nat.lt_succ_self _,StLe.refl,done++[k],rest,_,_,o,by simp,rfl,by rw [<-hd,List.filter_cons_of_neg (by simp only [keepK,kOtherS, *];simp)];simp [hz],by simp;omega,hid,rfl⟩|skip)
def Sel.enc (s:Sel):V:=.agg [.i .i64 s.kind,.s s.name,.sl (s.keys.map V.s)]
@[push_cast] theorem Sel.enc_eq (s:Sel):s.enc = .agg [.i .i64 s.kind,.s s.name,.sl (s.keys.map V.s)]:=rfl
def Sel.ord (s:Sel):Sel:={ s with keys:=ordK s.kind s.keys }
def selsP (ps:List Part):List Sel:=(collPs ps []).map Sel.ord
def phiS (L:List OS) (i:Id):Option (List V):=match lk (ossE L) i with
 | some (.arr _ _ es)=>some es
 | _=>none
theorem phiS_mem {L:List OS} {x:OS} {id:Id} (hnd:((ossE L).map (·.1)).Nodup) (hx:x∈L) (hid:x.2=some id):phiS L id=some (x.1.keys.map V.s):=by
 have:(id,Ent.arr 9 1 (x.1.keys.map V.s))∈ossE L:=by
  refine List.mem_flatMap.2 ⟨x,hx,?_⟩
  unfold osE;rw [hid];simp
 unfold phiS
 rw [mem_lk_of hnd this]
theorem phiS_some {L:List OS} {i:Id} {es:List V} (h:phiS L i=some es):∃e sz,lk (ossE L) i=some (.arr e sz es):=by
 unfold phiS at h
 split at h
 ·rename_i e sz es' hl;cases h;exact ⟨e,sz,hl⟩
 ·cases h
theorem vle_sel {T:Nat} {lo:Option Id} {L:List OS} {n:Nat} (h:SelO T lo L n) (hnd:((ossE L).map (·.1)).Nodup) {x:OS} (hx:x∈L):VLe (phiS L) (osV x) x.1.enc:=by
 unfold osV
 refine .agg _ _ rfl fun k c c' h1 h2=>?_
 match k with
 | 0=>simp at h1 h2;subst h1 h2;exact .refl _
 | 1=>simp at h1 h2;subst h1 h2;exact .refl _
 | 2=>
  simp at h1 h2;subst h1 h2
  cases hx2:x.2 with
  | none=>
   rw [h.kn x hx hx2];exact .nil
  | some id=>
   refine .arr id _ _ (phiS_mem hnd hx hx2) rfl (fun k c c' h1 h2=>?_) (fun k c c' h1 h2=>?_)
   ·rw [h1] at h2;cases h2;exact .refl _
   ·rw [h1] at h2;cases h2
    have:=okS _ c (List.mem_of_getElem? h1)
    exact ⟨rfl,this,this⟩
 | k+3=>simp at h1
theorem selFrz {W0:World} {nt n n':Nat} {env:Env} {cid lid:Id} {L:List OS} (h:ColO cid (some lid) L n) (hn:n<=n') :
  StLe W0 nt ⟨env,colS cid (some lid) L,n⟩ ⟨env,[(cid,.box (.agg [.arr lid])),(lid,.arr TS 3 (L.map fun x=>x.1.enc))],n'⟩:=by
 obtain ⟨l1,l2,l3,l4⟩:=h.toSelO.arr
 have hcl:cid≠lid:=fun he=>h.c_ne (lid,.arr TS 3 (L.map osV)) (by simp [selS_some]) he.symm
 have hce:∀p∈ossE L,p.1≠cid:=fun p hp=>h.c_ne p (by rw [selS_some];exact List.mem_cons_of_mem _ hp)
 refine StLe.weak (phiS L) (fun i es hi=>?_) (fun t=>.refl _) (fun i e' hl=>?_) hn
 ·obtain ⟨e,sz,hl⟩:=phiS_some hi
  have hm:=lk_mem_of hl
  refine ⟨⟨e,sz,mem_lk_of h.nd' ?_⟩,?_⟩
  ·exact List.mem_cons_of_mem _ (by rw [selS_some];exact List.mem_cons_of_mem _ hm)
  ·refine lk_none_of fun p hp=>?_
   simp at hp
   rcases hp with rfl|rfl
   ·exact fun he=>hce _ hm he.symm
   ·exact fun he=>l2 _ hm he.symm
 ·have hm:=lk_mem_of hl
  simp at hm
  rcases hm with ⟨rfl,rfl⟩|⟨rfl,rfl⟩
  ·exact ⟨_,by simp [colS,lk,sv],.refl _⟩
  ·refine ⟨.arr TS 3 (L.map osV),mem_lk_of h.nd' (by simp [colS,selS_some]),.arr _ _ _ _ (by simp) fun k c c' h1 h2=>?_⟩
   simp only [List.getElem?_map,Option.map_eq_some_iff] at h1 h2
   obtain ⟨x,hx,rfl⟩:=h1
   obtain ⟨y,hy,rfl⟩:=h2
   rw [hx] at hy;cases hy
   have hxm:=List.mem_of_getElem? hx
   exact ⟨vle_sel h.toSelO l4 hxm,rfl,by unfold osV sv;cases x.2<;>rfl,rfl⟩
theorem finW_nil {W0:World} {nt n s:Nat} {env:Env} {σ:Sto} (hs:get env s = .nil):FinW W0 nt [.t s] [.sl []] [] .ret ⟨env,σ,n⟩:=by
 refine ⟨⟨[(s,.sl [])],[],n⟩,StLe.weak (fun i=>none) (fun i es' h=>by cases h) (fun t=>?_) (fun i e' h=>by cases h) (Nat.le_refl _),⟨by simp [ResOk,get],trivial⟩,fun _ _ h=>by cases h⟩
 by_cases ht:s=t
 ·subst ht;rw [hs];simp only [get,if_true];exact .nil
 ·simp only [get,if_neg ht];exact .any _
theorem okSel (l:List Sel):∀y∈l.map Sel.enc,y.ok=true:=by
 intro y hy;obtain ⟨x,_,rfl⟩:=List.mem_map.1 hy;rfl
set_option maxHeartbeats 4000000 in
theorem c_selectors (ps:List Part) (hb:wtPs ps<=2^24):RetS Tryz.prog W0 39 [.sl (ps.map Part.enc)] [] (.sl ((selsP ps).map Sel.enc)) []:=by
 generalize hS:selsP ps=S
 refine fn_retW (vs:=[.sl (S.map Sel.enc)]) f39ok (by simp) (by simp) fun n0 hn0=>?_
 clear hn0
 simp only [push_cast,seval,reduceEqDiff]
 intro k1 k2 k3
 have hc0:ColO (n0+1+k1,6) none [] (n0+1+k1+1):=⟨⟨by simp [selS_none,ossE],by simp [selS_none,ossE],fun _=>rfl,by simp⟩,by simp,by simp [selS_none,ossE]⟩
 refine c_callx (c_walk W0 _ ps (n0+1+k1,6) none [] _ (Nat.lt_succ_self _) (by simp [selW];omega) hc0) (fun _ _ h=>h) (fun n2 v σo hle hR=>?_)
 obtain ⟨rfl,lo,L,rfl,hok,hm,_⟩:=hR
 have hcw:=collPs_w ps []
 rw [show ([]:List OS).map (·.1)=([]:List Sel) from rfl] at hm
 rw [<-hm] at hcw
 simp only [selW] at hcw
 have hlen:=len_selW (L.map (·.1))
 rw [List.length_map] at hlen
 generalize (n0+1+k1,6)=cid at *
 simp only [push_cast,seval,reduceEqDiff]
 intro k4
 cases lo with
 | none=>
  have hL:=hok.ne rfl
  subst hL
  refine wkW_i (StLe.pre (σ:=colS cid none []) (Nat.le_refl _)) ?_
  have hS0:S=[]:=by rw [<-hS];unfold selsP;rw [<-hm];rfl
  subst hS0
  unfold colS
  simp only [selS_none,ossE,List.flatMap_nil,sv]
  simp only [push_cast,seval,reduceEqDiff]
  intros
  refine aWP_loopW 0 (Inv:=fun m st=>∃n,st=⟨[(3,.ref cid 0),(14,.i .i64 0),(15,.i .i64 0)],[(cid,.box (.agg [.nil]))],n⟩) ⟨_,StLe.refl,_,rfl⟩ ?_
  rintro m _ ⟨n,rfl⟩
  simp only [push_cast,seval,reduceEqDiff,show (decide False)=false from rfl]
  intros
  exact finW_nil rfl
 | some lid=>
  refine wkW_i ((StLe.pre (σ:=colS cid (some lid) L) (Nat.le_refl _)).trans (selFrz (hok.more (by omega)) (Nat.le_refl _))) ?_
  obtain ⟨l1,l2,l3,l4⟩:=hok.toSelO.arr
  have fcl:(cid=lid)=False:=eq_false fun he=>hok.c_ne (lid,.arr TS 3 (L.map osV)) (by simp [selS_some]) he.symm
  have flc:(lid=cid)=False:=eq_false fun he=>of_eq_false fcl he.symm
  have hS1:(L.map (·.1)).map Sel.ord=S:=by rw [hm,<-hS];rfl
  have hkl:∀s∈L.map (·.1),s.keys.length<=2^26:=fun s hs=>by have:=keys_selW hs;omega
  rw [show (L.map fun x=>x.1.enc)=(L.map (·.1)).map Sel.enc by simp]
  have hlen2:(L.map (·.1)).length<=2^26:=by rw [List.length_map];omega
  generalize L.map (·.1)=M at *
  clear hok hm hcw hlen l2 l3 l4
  simp only [push_cast,seval,reduceEqDiff,fcl,flc,TS,List.length_map]
  intros
  refine aWP_loopW M.length (Inv:=fun m st=>∃done rest n,M=done++rest/\m=rest.length/\st=⟨[(3,.ref cid 0),(14,.i .i64 M.length),(15,.i .i64 done.length)],[(cid,.box (.agg [.arr lid])),(lid,.arr TS 3 ((done.map Sel.ord++rest).map Sel.enc))],n⟩) ⟨_,StLe.refl,[],M,_,rfl,rfl,rfl⟩ ?_
  rintro m _ ⟨done,rest,n,hz,rfl,rfl⟩
  cases rest with
  | nil=>
   have hlt0:decide ((done.length:Int)<(M.length:Int))=false:=by rw [hz];simp
   have hS2:done.map Sel.ord=S:=by rw [<-hS1,hz];simp
   rw [List.append_nil,hS2]
   simp only [push_cast,seval,reduceEqDiff,hlt0,fcl,flc]
   repeat' (first|(((first|apply condU_s|apply gdU_t|apply gdU_f)<;>intro _h)<;>simp only [push_cast,seval,reduceEqDiff,_h,hlt0,fcl,flc])|intro _)
   exact finW_frz (e:=TS) (sz:=3) rfl (okSel _) (by simp [lk,Ne.symm (of_eq_false flc)])
  | cons s rest=>
   have hb2:=zip_bd hz
   have hlt0:decide ((done.length:Int)<(M.length:Int))=true:=by simp;omega
   have hor:=c_ordered W0 s.kind s.name s.keys (hkl s (by rw [hz];simp))
   have hget:((done.map Sel.ord++s::rest).map Sel.enc)[done.length]? = some s.enc:=by
    rw [List.getElem?_map,List.getElem?_append_right (by simp)];simp
   have hset:((done.map Sel.ord++s::rest).map Sel.enc).set done.length (.agg [.i .i64 s.kind,.s s.name,.sl ((ordK s.kind s.keys).map V.s)])=(((done++[s]).map Sel.ord)++rest).map Sel.enc:=by
    simp [List.set_append,Sel.ord,Sel.enc]
   have hltl:done.length<((done.map Sel.ord++s::rest)).length:=by simp
   generalize hXX:(done.map Sel.ord++s::rest)=XX at *
   simp only [push_cast,seval,reduceEqDiff,hlt0,fcl,flc,hget,hset,if_pos hltl,TS,List.length_map,wrap_zip s (done:=done) (by omega)]
   repeat' (first|(((first|apply condU_s|apply gdU_t|apply gdU_f)<;>intro _h)<;>simp only [push_cast,seval,reduceEqDiff,_h,hlt0,fcl,flc,hget,hset,if_pos hltl,TS,List.length_map,wrap_zip s (done:=done) (by omega)])|(refine c_call (by exact hor) ?_;simp only [push_cast,seval,reduceEqDiff,hlt0,fcl,flc,hget,hset,if_pos hltl,TS,List.length_map,wrap_zip s (done:=done) (by omega)])|intro _)
   exact ⟨_,_,Nat.lt_succ_self _,StLe.refl,done++[s],rest,_,by rw [hz];simp,rfl,rfl⟩
def TR:Nat:=100
def FreshT (n:Nat) (lo0:Option Id) (L0:List OS) (lo:Option Id) (L:List OS):Prop:=∀p∈selS TR lo L,n<=p.1.1\/p.1∈(selS TR lo0 L0).map (·.1)
theorem FreshT.refl (n:Nat) (lo:Option Id) (L:List OS):FreshT n lo L lo L:=fun p hp=>.inr (List.mem_map.2 ⟨p,hp,rfl⟩)
theorem FreshT.trans {n n':Nat} {lo0 lo lo':Option Id} {L0 L L':List OS} (h:FreshT n lo0 L0 lo L) (k:FreshT n' lo L lo' L') (hn:n<=n'):FreshT n lo0 L0 lo' L':=by
 intro p hp
 rcases k p hp with h1|h1
 ·exact .inl (Nat.le_trans hn h1)
 ·obtain ⟨q,hq,he⟩:=List.mem_map.1 h1
  rcases h q hq with h2|h2
  ·left;rw [<-he];exact h2
  ·right;rw [<-he];exact h2
theorem FreshT.key {lid:Id} {A B:List OS} {x:OS} {n:Nat} {id:Id} (hi:n<=id.1) (s:Sel):FreshT n (some lid) (A++x::B) (some lid) (A++(s,some id)::B):=by
 intro p hp
 rw [selS_some,ossE_app,ossE_cons] at hp
 rw [selS_some,ossE_app,ossE_cons]
 rcases List.mem_cons.1 hp with rfl|hp
 ·right;simp
 ·rcases List.mem_append.1 hp with hp|hp
  ·right;exact List.mem_map.2 ⟨p,List.mem_cons_of_mem _ (List.mem_append_left _ hp),rfl⟩
  ·rcases List.mem_append.1 hp with hp|hp
   ·simp [osE] at hp;subst hp;exact .inl hi
   ·right;exact List.mem_map.2 ⟨p,List.mem_cons_of_mem _ (List.mem_append_right _ (List.mem_append_right _ hp)),rfl⟩
theorem FreshT.add {lo:Option Id} {L:List OS} {n:Nat} {id:Id} (hi:n<=id.1) (k:Int) (nm:Bytes):FreshT n lo L (some id) (L++[(⟨k,nm,[]⟩,none)]):=by
 intro p hp
 rw [selS_some,ossE_app] at hp
 rcases List.mem_cons.1 hp with rfl|hp
 ·exact .inl hi
 ·have hp2:p∈ossE L:=by simpa [ossE,osE] using hp
  exact .inr (List.mem_map.2 ⟨p,List.mem_append_right _ hp2,rfl⟩)


def combP (n:Nat):List Sel->Nat
 | []=>n
 | s::l=>if 400<n*s.keys.length then n*s.keys.length else combP (n*s.keys.length) l
theorem c_comb (L:List Sel) (hl:L.length<=2^40) (hk:∀s∈L,s.keys.length<=2^40):RetS Tryz.prog W0 40 [.sl (L.map Sel.enc)] [] (.i .i64 (combP 1 L)) []:=by
 generalize hS:combP 1 L=S
 refine fn_retW (vs:=[.i .i64 S]) f40ok (by simp) (by simp) fun n0 hn0=>?_
 clear hn0
 simp only [push_cast,seval,reduceEqDiff]
 intros
 refine aWP_loopW L.length (Inv:=fun m st=>∃done rest n x k,L=done++rest/\m=rest.length/\combP k rest=S/\k<=400/\x=(k:Int)/\st=⟨[(3,.i .i64 x),(6,.sl (L.map Sel.enc)),(7,.i .i64 L.length),(8,.i .i64 done.length)],[],n⟩) ⟨_,StLe.refl,[],L,_,_,1,rfl,rfl,hS,by omega,rfl,rfl⟩ ?_
 clear hS
 rintro m _ ⟨done,rest,n,x,k,hz,rfl,hd,hk4,hx,rfl⟩
 cases rest with
 | nil=>
  rw [combP] at hd
  subst hd hx
  simp only [push_cast,seval,reduceEqDiff,hz]
  repeat' (first|(((first|apply condU_s|apply gdU_t|apply gdU_f)<;>intro _h)<;>(simp only [push_cast,seval,reduceEqDiff,_h];try (have _g:=_h;simp at _g)))|intro _)
  all_goals (first|(refine finW_ret ?_;simp [get]<;>(intros;omega);done)|(refine finW_rets ?_;simp [push_cast,get];done)|skip)
 | cons s rest=>
  have hb:=zip_bd hz
  have hks:=hk s (by rw [hz];simp)
  have hm:k*s.keys.length<=400*2^40:=Nat.mul_le_mul hk4 hks
  have hm2:(x*(s.keys.length:Int))=((k*s.keys.length:Nat):Int):=by rw [hx];simp
  rw [combP] at hd
  generalize hM:k*s.keys.length=M at *
  have hw:IntKind.i64.wrap (M:Int)=M:=by simp (disch:=omega) only [wrap64]
  by_cases h4:400<M
  ·have h4':decide ((M:Int)>400)=true:=by simp;omega
   rw [if_pos h4] at hd
   simp only [push_cast,seval,reduceEqDiff,hz,wrap_zip s (done:=done) (by omega),List.length_map,hm2,hw,h4']
   intros
   subst hd
   exact finW_ret (by simp [get])
  ·have h4':decide ((M:Int)>400)=false:=by simp;omega
   rw [if_neg h4] at hd
   simp only [push_cast,seval,reduceEqDiff,hz,wrap_zip s (done:=done) (by omega),List.length_map,hm2,hw,h4']
   intros
   exact ⟨_,_,Nat.lt_succ_self _,StLe.drop (fun _ _ h=>by cases h) (Nat.le_refl _),done++[s],rest,_,_,M,by simp,rfl,hd,by omega,rfl,rfl⟩
def rulesOf (l:Loc) (kind:Int):List Rule:=if kind == 8 then l.ord else l.card
theorem c_rules (l:Loc) (kind:Int) (hr:(Loc.enc l).ok=true):RetS Tryz.prog W0 103 [l.enc,.i .i64 kind] [] (.sl ((rulesOf l kind).map Rule.enc)) []:=by
 generalize hS:rulesOf l kind=S
 unfold rulesOf at hS
 rw [Loc.enc_eq]
 refine fn_retW (vs:=[.sl (S.map Rule.enc)]) f103ok (by simp) (by simp) fun n0 hn0=>?_
 clear hn0
 simp only [push_cast,seval,reduceEqDiff]
 repeat' (first|(((first|apply condU_s|apply gdU_t|apply gdU_f)<;>intro _h)<;>simp only [push_cast,seval,reduceEqDiff,_h])|intro _)
 all_goals subst hS
 all_goals (refine finW_ret ?_;simp [get, *])
def TPt:Nat:=75
def oE (lo:Option Id) (xs:List Part):Sto:=match lo with
 | none=>[]
 | some id=>[(id,.arr TPt 6 (xs.map Part.enc))]
def addP (o:List Part) (x:Part):List Part:=match o.getLast? with
 | none=>[x]
 | some y=>if x.kind == 1&&y.kind == 1 then o.dropLast++[{ y with text:=y.text++x.text }] else o++[x]
theorem addP_snoc (d:List Part) (y x:Part):addP (d++[y]) x=if x.kind == 1&&y.kind == 1 then d++[{ y with text:=y.text++x.text }] else d++[y]++[x]:=by simp [addP]
theorem finNW_i {W0:World} {nt n s:Nat} {env:Env} {σ:Sto} {id:Id} {x:Ent} (hs:get env s = .arr id) (hl:lk σ id=some x):FinNW W0 nt s x [] .ret ⟨env,σ,n⟩:=
 ⟨_,StLe.refl,id,hs,hl,rfl,fun _ _ h=>by cases h⟩
theorem c_add (lo:Option Id) (o:List Part) (x:Part) (hn:lo=none->o=[]) (ho:o.length<=2^30) (ht:∀y∈o,y.text.length<=2^30) (hx:x.text.length<=2^30) :
  RetN Tryz.prog W0 90 [sv lo,x.enc] (oE lo o) (.arr TPt 6 ((addP o x).map Part.enc)) []:=by
 refine fn_newW (s:=4) f90ok (by simp) (by simp [lk]) fun n0 hn0=>?_
 cases lo with
 | none=>
  have ho:=hn rfl
  subst ho
  clear hn0
  have hsv:sv none = .nil:=rfl
  have hoe:oE none []=[]:=rfl
  simp only [push_cast,seval,reduceEqDiff,hsv,hoe,show decide ((0:Int)>0)=false from rfl,eq_true (show 1<=LLim by decide),TPt]
  repeat' (first|(((first|apply condU_s|apply gdU_t|apply gdU_f)<;>intro _h)<;>simp only [push_cast,seval,reduceEqDiff,_h,hsv,hoe,show decide ((0:Int)>0)=false from rfl,eq_true (show 1<=LLim by decide),TPt])|intro _)
  exact finNW_i rfl (by simp [lk,addP,Part.enc_eq])
 | some id=>
  have hid:id.1<n0:=hn0 id (.arr TPt 6 (o.map Part.enc)) (by simp [oE,lk])
  have f3:∀j,((n0,j)=id)=False:=fun j=>ne_idx hid
  have f3':∀j,(id=(n0,j))=False:=fun j=>eq_false fun he=>of_eq_false (f3 j) he.symm
  clear hn0
  have hsv:sv (some id) = .arr id:=rfl
  have hoe:oE (some id) o=[(id,.arr TPt 6 (o.map Part.enc))]:=rfl
  obtain rfl|⟨d,y,rfl⟩:o=[]\/∃d y,o=d++[y]:=by rcases List.eq_nil_or_concat o with h|⟨d,y,h⟩;exact .inl h;exact .inr ⟨d,y,by rw [h,List.concat_eq_append]⟩
  ·skip
   simp only [push_cast,seval,reduceEqDiff,hsv,hoe,show decide ((0:Int)>0)=false from rfl,eq_true (show 1<=LLim by decide),TPt,f3,f3',show (([]:List Part).length:Int)=0 from rfl,List.map_nil,List.length_nil,show ((0:Nat):Int)=0 from rfl]
   repeat' (first|(((first|apply condU_s|apply gdU_t|apply gdU_f)<;>intro _h)<;>simp only [push_cast,seval,reduceEqDiff,_h,hsv,hoe,show decide ((0:Int)>0)=false from rfl,eq_true (show 1<=LLim by decide),TPt,f3,f3',show (([]:List Part).length:Int)=0 from rfl,List.map_nil,List.length_nil,show ((0:Nat):Int)=0 from rfl])|intro _)
   exact finNW_i rfl (by simp [lk,addP,Part.enc_eq])
  ·have hlen:(((d++[y]).length:Int)>0):=by simp<;>omega
   have hw1:IntKind.i64.wrap ((((d++[y]).length:Nat):Int)-1)=(d.length:Int):=by
    simp only [List.length_append,List.length_cons,List.length_nil]
    rw [wrap64 (by simp at ho;omega) (by simp at ho;omega)];omega
   have hdl:d.length<(d++[y]).length:=by simp
   have hty:=ht y (by simp)
   generalize hA:addP (d++[y]) x=AO
   rw [addP_snoc] at hA
   have hset:∀t,((d++[y]).map Part.enc).set d.length (.agg [.i .i64 y.kind,.s t,.s y.name,.s y.style,.sl (y.cases.map Case.enc),.sl (y.parts.map Part.enc)])=(d++[({ y with text:=t }:Part)]).map Part.enc:=by
    intro t;simp [List.set_append,Part.enc_eq]
   have hll:(d++[y]).length+1<=LLim:=by unfold LLim;omega
   have hnv:List.map Part.enc (d++[y])++[x.enc]=(d++[y]++[x]).map Part.enc:=by simp
   rw [Part.enc_eq] at hnv
   simp only [push_cast,seval,reduceEqDiff,hsv,hoe,TPt,f3,f3',eq_true hlen,show (decide True)=true from rfl,hw1,if_pos hdl,hset,eq_true hll,hnv]
   repeat' (first|(((first|apply condU_s|apply gdU_t|apply gdU_f)<;>intro _h)<;>simp only [push_cast,seval,reduceEqDiff,_h,hsv,hoe,TPt,f3,f3',eq_true hlen,show (decide True)=true from rfl,hw1,if_pos hdl,hset,eq_true hll,hnv])|(refine jp_i (by simp only [List.length_append,List.length_cons,List.length_nil,SLim]<;>omega) ?_;simp only [push_cast,seval,reduceEqDiff,hsv,hoe,TPt,f3,f3',eq_true hlen,show (decide True)=true from rfl,hw1,if_pos hdl,hset,eq_true hll,hnv])|intro _)
   all_goals subst hA
   all_goals exact finNW_i rfl (by simp [lk, *])
def joinP (a b:List Part):List Part:=match a.getLast?,b with
 | some y,z::t=>if y.kind == 1&&z.kind == 1 then a.dropLast++[{ y with text:=y.text++z.text }]++t else a++b
 | _,_=>a++b
theorem okPt (l:List Part):∀y∈l.map Part.enc,y.ok=true:=by
 intro y hy;obtain ⟨x,_,rfl⟩:=List.mem_map.1 hy;rw [Part.enc_eq];rfl
end Go.Ir
section
namespace Go.Ir
def findC {α:Type} (cs:List (Bytes × α)) (k:Bytes):Option α:=(cs.find? fun c=>c.1 == k).map (·.2)
def pickC {α:Type} (cls:Bytes->Bytes) (kind:Int) (cs:List (Bytes × α)) (key:Bytes):Option α:=
 (findC cs key).or ((if headEq key&&kind != 9 then findC cs (cls key.tail) else none).or (findC cs kOtherS))
theorem findC_map {α β:Type} (f:α->β) (cs:List (Bytes × α)) (k:Bytes):findC (cs.map fun c=>(c.1,f c.2)) k=(findC cs k).map f:=by
 unfold findC
 induction cs with
 | nil=>rfl
 | cons c cs ih=>
  simp only [List.map_cons,List.find?_cons]
  cases c.1 == k
  ·exact ih
  ·rfl
theorem or_map {α β:Type} (f:α->β) (a b:Option α):(a.or b).map f=(a.map f).or (b.map f):=by cases a<;>rfl
theorem pickC_map {α β:Type} (f:α->β) (cls:Bytes->Bytes) (kind:Int) (cs:List (Bytes × α)) (k:Bytes):pickC cls kind (cs.map fun c=>(c.1,f c.2)) k=(pickC cls kind cs k).map f:=by
 unfold pickC
 rw [findC_map,findC_map,findC_map,or_map,or_map]
 split<;>rfl
theorem findC_mem {α:Type} {cs:List (Bytes × α)} {k:Bytes} {a:α} (h:findC cs k=some a):(k,a)∈cs:=by
 unfold findC at h
 simp only [Option.map_eq_some_iff] at h
 obtain ⟨c,hc,rfl⟩:=h
 have h1:=List.find?_some hc
 have h2:=List.mem_of_find?_eq_some hc
 have h3:c.1=k:=by simpa using h1
 rw [<-h3];exact h2
theorem or_some {α:Type} {a b:Option α} {x:α} (h:a.or b=some x):a=some x\/b=some x:=by
 cases a with
 | none=>right;exact h
 | some y=>left;exact h
theorem pickC_mem {α:Type} {cls:Bytes->Bytes} {kind:Int} {cs:List (Bytes × α)} {key:Bytes} {a:α} (h:pickC cls kind cs key=some a):∃k,(k,a)∈cs:=by
 unfold pickC at h
 rcases or_some h with h|h
 ·exact ⟨_,findC_mem h⟩
 ·rcases or_some h with h|h
  ·split at h
   ·exact ⟨_,findC_mem h⟩
   ·cases h
  ·exact ⟨_,findC_mem h⟩
abbrev Pick:=Int->Bytes->List (Bytes × List Part)->List Part
mutual
def Part.res (pk:Pick) (count:Bytes):Part->List Part->List Part
 | ⟨k,t,nm,st,cs,ps⟩,out=>
  if selB k then (pk k nm (resCs pk (if k == 9 then count else nm) cs)).foldl addP out
  else if k == 10 then out++[⟨3,[],count,[],[],[]⟩]
  else if k == 11 then out++[⟨k,t,nm,st,cs,resPs pk count ps []⟩]
  else addP out ⟨k,t,nm,st,cs,ps⟩
def resPs (pk:Pick) (count:Bytes):List Part->List Part->List Part
 | [],out=>out
 | p::ps,out=>resPs pk count ps (p.res pk count out)
def resCs (pk:Pick) (count:Bytes):List (Bytes × List Part)->List (Bytes × List Part)
 | []=>[]
 | (k,ps)::cs=>(k,resPs pk count ps [])::resCs pk count cs
end
theorem Part.res_eq (pk:Pick) (count:Bytes) (p:Part) (out:List Part):p.res pk count out =
  if selB p.kind then (pk p.kind p.name (resCs pk (if p.kind == 9 then count else p.name) p.cases)).foldl addP out
  else if p.kind == 10 then out++[⟨3,[],count,[],[],[]⟩]
  else if p.kind == 11 then out++[⟨p.kind,p.text,p.name,p.style,p.cases,resPs pk count p.parts []⟩]
  else addP out p:=by cases p;simp only [Part.res]
theorem resPs_cons (pk:Pick) (count:Bytes) (p:Part) (ps out:List Part):resPs pk count (p::ps) out=resPs pk count ps (p.res pk count out):=by simp only [resPs]
theorem resCs_map (pk:Pick) (count:Bytes) (cs:List (Bytes × List Part)):resCs pk count cs=cs.map fun c=>(c.1,resPs pk count c.2 []):=by
 induction cs with
 | nil=>simp only [resCs,List.map_nil]
 | cons c cs ih=>obtain ⟨k,ps⟩:=c;simp only [resCs,List.map_cons,ih]
mutual
def Part.rres (pk:Pick) (count:Bytes):Part->List Part->List Part
 | ⟨k,t,nm,st,cs,ps⟩,out=>
  if k == 10 then out++[⟨3,[],count,[],[],[]⟩]
  else if k == 11 then out++[⟨k,[],nm,[],[],rresPs pk count ps []⟩]
  else if selB k then joinP out (pk k nm (rresCs pk (if k == 9 then count else nm) cs))
  else joinP out [⟨k,t,nm,st,cs,ps⟩]
def rresPs (pk:Pick) (count:Bytes):List Part->List Part->List Part
 | [],out=>out
 | p::ps,out=>rresPs pk count ps (p.rres pk count out)
def rresCs (pk:Pick) (count:Bytes):List (Bytes × List Part)->List (Bytes × List Part)
 | []=>[]
 | (k,ps)::cs=>(k,rresPs pk count ps [])::rresCs pk count cs
end
theorem Part.rres_eq (pk:Pick) (count:Bytes) (p:Part) (out:List Part):p.rres pk count out =
  if p.kind == 10 then out++[⟨3,[],count,[],[],[]⟩]
  else if p.kind == 11 then out++[⟨p.kind,[],p.name,[],[],rresPs pk count p.parts []⟩]
  else if selB p.kind then joinP out (pk p.kind p.name (rresCs pk (if p.kind == 9 then count else p.name) p.cases))
  else joinP out [p]:=by cases p;simp only [Part.rres]
theorem rresPs_cons (pk:Pick) (count:Bytes) (p:Part) (ps out:List Part):rresPs pk count (p::ps) out=rresPs pk count ps (p.rres pk count out):=by simp only [rresPs]
theorem rresCs_map (pk:Pick) (count:Bytes) (cs:List (Bytes × List Part)):rresCs pk count cs=cs.map fun c=>(c.1,rresPs pk count c.2 []):=by
 induction cs with
 | nil=>simp only [rresCs,List.map_nil]
 | cons c cs ih=>obtain ⟨k,ps⟩:=c;simp only [rresCs,List.map_cons,ih]
def tw (ps:List Part):Nat:=(ps.map fun p=>1+p.text.length).sum
theorem tw_nil:tw []=0:=rfl
theorem tw_cons (p:Part) (ps:List Part):tw (p::ps)=1+p.text.length+tw ps:=by simp [tw]
theorem tw_app (a b:List Part):tw (a++b)=tw a+tw b:=by simp [tw]
theorem len_tw (a:List Part):a.length<=tw a:=by
 induction a with
 | nil=>simp
 | cons p a ih=>rw [tw_cons];simp;omega
theorem text_tw {a:List Part} {p:Part} (h:p∈a):p.text.length<=tw a:=by
 induction a with
 | nil=>cases h
 | cons q a ih=>
  rw [tw_cons]
  rcases List.mem_cons.1 h with rfl|h
  ·omega
  ·have:=ih h;omega
theorem tw_add (o:List Part) (x:Part):tw (addP o x)<=tw o+(1+x.text.length):=by
 rcases List.eq_nil_or_concat o with rfl|⟨d,y,rfl⟩
 ·simp [addP,tw]
 ·rw [List.concat_eq_append,addP_snoc]
  split
  ·simp only [tw_app,tw_cons,tw_nil,List.length_append];omega
  ·simp only [tw_app,tw_cons,tw_nil];omega
theorem tw_adds (l:List Part):∀o,tw (l.foldl addP o)<=tw o+tw l:=by
 induction l with
 | nil=>intro o;simp [tw]
 | cons x l ih=>intro o;rw [List.foldl_cons,tw_cons];have h1:=ih (addP o x);have h2:=tw_add o x;omega
theorem tw_join (a b:List Part):tw (joinP a b)<=tw a+tw b:=by
 unfold joinP
 rcases List.eq_nil_or_concat a with rfl|⟨d,y,rfl⟩
 ·simp [tw]
 ·rw [List.concat_eq_append]
  cases b with
  | nil=>simp [tw]
  | cons z t=>
   simp only [List.getLast?_append,List.getLast?_singleton,Option.some_or,List.dropLast_concat]
   split
   ·simp only [tw_app,tw_cons,tw_nil,List.length_append];omega
   ·simp only [tw_app,tw_cons,tw_nil];omega
def Picks (pk:Pick):Prop:=∀k nm cs,pk k nm cs=[]\/∃key,(key,pk k nm cs)∈cs
theorem res_w (pk:Pick) (hpk:Picks pk):∀(N:Nat) (ps:List Part),wtPs ps<N->∀count out,tw (resPs pk count ps out)<=tw out+wtPs ps/\tw (rresPs pk count ps out)<=tw out+wtPs ps:=by
 intro N
 induction N with
 | zero=>intro ps h;omega
 | succ N ih=>
  intro ps
  induction ps with
  | nil=>intro _ count out;simp [resPs,rresPs]
  | cons p ps ih2=>
   intro h count out
   rw [wtPs_cons] at h
   rw [resPs_cons,rresPs_cons,wtPs_cons]
   have h1:=(ih2 (by omega) count (p.res pk count out)).1
   have h2:=(ih2 (by omega) count (p.rres pk count out)).2
   have hw:=p.wt_eq
   have hl:∀count key q,(key,q)∈resCs pk count p.cases->tw q<=wtCs p.cases:=by
    intro count key q hq
    rw [resCs_map] at hq
    obtain ⟨c,hc,he⟩:=List.mem_map.1 hq
    cases he
    have:=wtCs_mem hc
    have:=(ih c.2 (by omega) count []).1
    rw [tw_nil] at this;omega
   have hlr:∀count key q,(key,q)∈rresCs pk count p.cases->tw q<=wtCs p.cases:=by
    intro count key q hq
    rw [rresCs_map] at hq
    obtain ⟨c,hc,he⟩:=List.mem_map.1 hq
    cases he
    have:=wtCs_mem hc
    have:=(ih c.2 (by omega) count []).2
    rw [tw_nil] at this;omega
   have ha:tw (p.res pk count out)<=tw out+p.wt:=by
    rw [p.res_eq]
    split
    ·have h5:=tw_adds (pk p.kind p.name (resCs pk (if p.kind == 9 then count else p.name) p.cases)) out
     rcases hpk p.kind p.name (resCs pk (if p.kind == 9 then count else p.name) p.cases) with h3|⟨key,h3⟩
     ·rw [h3,tw_nil] at h5;rw [h3];omega
     ·have:=hl _ _ _ h3;omega
    ·split
     ·rw [tw_app,tw_cons,tw_nil];simp only [List.length_nil];omega
     ·split
      ·rw [tw_app,tw_cons,tw_nil];show tw out+(1+p.text.length+0)<=_;omega
      ·have:=tw_add out p;omega
   have hb:tw (p.rres pk count out)<=tw out+p.wt:=by
    rw [p.rres_eq]
    split
    ·rw [tw_app,tw_cons,tw_nil];simp only [List.length_nil];omega
    ·split
     ·rw [tw_app,tw_cons,tw_nil];simp only [List.length_nil];omega
     ·split
      ·have h5:=tw_join out (pk p.kind p.name (rresCs pk (if p.kind == 9 then count else p.name) p.cases))
       rcases hpk p.kind p.name (rresCs pk (if p.kind == 9 then count else p.name) p.cases) with h3|⟨key,h3⟩
       ·rw [h3,tw_nil] at h5;rw [h3];omega
       ·have:=hlr _ _ _ h3;omega
      ·have h5:=tw_join out [p]
       rw [tw_cons,tw_nil] at h5;omega
   exact ⟨by omega,by omega⟩
end Go.Ir
end
namespace Go.Ir
open Go.Proofs
variable (W0 : World)
def ixC {α:Type} (cs:List (Bytes × α)) (k:Bytes):Int:=idxI (fun c=>c.1 == k) cs
theorem ixC_find {α:Type} (cs:List (Bytes × α)) (k:Bytes):(ixC cs k<0/\findC cs k=none)\/∃j c,ixC cs k=(j:Nat)/\cs[j]? = some c/\findC cs k=some c.2:=by
 unfold ixC findC
 induction cs with
 | nil=>left;simp [idxI]
 | cons c cs ih=>
  simp only [idxI,List.find?_cons]
  cases hc:c.1 == k with
  | true=>right;exact ⟨0,c,by simp,rfl,rfl⟩
  | false=>
   simp only [cond_false]
   rcases ih with ⟨h1,h2⟩|⟨j,d,h1,h2,h3⟩
   ·left;rw [if_pos h1];exact ⟨by decide,h2⟩
   ·right;rw [h1];exact ⟨j+1,d,by rw [if_neg (by omega)];omega,by simpa using h2,h3⟩
theorem c_ch11 (c:Case) (k:Bytes) (kid:Id) (σ:Sto) (hk:lk σ kid=some (.box (.s k))):RetS Tryz.prog W0 133 [Case.enc c,.ref kid 0] σ (.b (c.1 == k)) σ:=by
 obtain ⟨a,ps⟩:=c
 refine fn_retW (vs:=[.b (a == k)]) f133ok (by simp) (fun _ h=>h) fun n0 hn0=>?_
 have h1:∀j,((n0,j)=kid)=False:=fun j=>ne_idx (hn0 _ _ hk)
 simp only [push_cast,seval,reduceEqDiff,h1,hk]
 intros
 exact finW_retS (by simp [get]) (fun i e h=>lk_fresh (hn0 i e h) h)
theorem c_ch1 (x:Part) (k:Bytes) (xid:Id) (σ:Sto) (hx:lk σ xid=some (.box x.v)) (hl:x.cases.length<=2^40):RetS Tryz.prog W0 131 [.s k,.ref xid 0] σ (.i .i64 (ixC x.cases k)) σ:=by
 generalize hS:ixC x.cases k=S
 unfold ixC at hS
 refine fn_retW (vs:=[.i .i64 S]) f131ok (by simp) (fun _ h=>h) fun n0 hn0=>?_
 have h1:∀j,((n0,j)=xid)=False:=fun j=>ne_idx (hn0 _ _ hx)
 have hif:=indexFunc_ret (P:=Tryz.prog) (W0:=W0) (f:=132) (e:=77) (sz:=2) (ag:=true) (by kernel_rfl) Case.enc x.cases (fun c=>c.1 == k) 133 [] [.ref (n0,2) 0] [((n0,2),.box (.s k))] (fun c _=>elOk_agg rfl) (fun c _=>c_ch11 W0 c k _ _ (by simp [lk])) (by omega)
 rw [hS] at hif
 unfold Part.v at hx
 simp only [push_cast,seval,reduceEqDiff,h1,hx]
 intro _
 refine c_callr hif (fun i e h=>?_) ?_
 ·simp only [lk] at h⊢
  split at h
  ·rename_i he;rw [if_pos he];exact h
  ·cases h
 simp only [push_cast,seval,reduceEqDiff,h1,hx]
 intro _
 exact finW_retS (by simp [get]) (fun i e h=>lk_fresh (hn0 i e h) h)
theorem cutEq (s:Bytes):Lib.hasPrefix s [61]=headEq s/\(headEq s=true->Lib.trimPrefix s [61]=s.tail):=by
 cases s with
 | nil=>exact ⟨by decide,by decide⟩
 | cons c t=>
  have h:headEq (c::t)=(c == 61):=by
   unfold headEq;rw [Bool.eq_iff_iff];simp only [beq_iff_eq,<-UInt8.toNat_inj];show _↔c.toNat=61;omega
  have e1:Lib.hasPrefix (c::t) [61]=(61 == c):=by simp [Lib.hasPrefix,List.isPrefixOf]
  have e2:(61 == c)=(c == 61):=by rw [Bool.eq_iff_iff];simp only [beq_iff_eq];exact eq_comm
  rw [h,<-e2]
  refine ⟨e1,fun he=>?_⟩
  unfold Lib.trimPrefix
  rw [e1,he];rfl
def clsN (l:Loc) (kind:Int) (n:Bytes):Bytes:=(classV (rulesOf l kind) n).1
set_option maxHeartbeats 4000000 in
theorem c_chosen (l:Loc) (x:Part) (key:Bytes) (hr:(Loc.enc l).ok=true) (hrl:l.rest.length=11) (hb:wtRules l.card+wtRules l.ord<=2^24) (hkl:key.length<=2^30) (hcl:x.cases.length<=2^40) (ho:findC x.cases kOtherS≠none) :
  RetS Tryz.prog W0 89 [l.enc,x.enc,.s key] [] (.sl (((pickC (clsN l x.kind) x.kind x.cases key).getD []).map Part.enc)) []:=by
 have hcut:=c_cutPrefix W0 key [61]
 obtain ⟨hc1,hc2⟩:=cutEq key
 rw [hc1] at hcut
 generalize hS:(pickC (clsN l x.kind) x.kind x.cases key).getD []=S
 unfold pickC at hS
 have hch:=fun k xid σ hx=>c_ch1 W0 x k xid σ hx hcl
 unfold Part.v at hch
 rw [Loc.enc_eq]
 refine fn_retW (vs:=[.sl (S.map Part.enc)]) f89ok (by simp) (by simp) fun n0 hn0=>?_
 clear hn0
 simp only [push_cast,seval,reduceEqDiff]
 intro k1 k2
 refine c_calls (hch key (n0,4) _ (by simp [lk])) (fun _ _ h=>h) ?_
 rw [over_self]
 have hget:∀(j:Nat) (c:Case),x.cases[j]? = some c->(x.cases.map Case.enc)[j]? = some (.agg [.s c.1,.sl (c.2.map Part.enc)]):=by
  intro j c h;rw [List.getElem?_map,h];obtain ⟨a,b⟩:=c;rw [Option.map_some,Case.enc_eq]
 have hjl:∀(j:Nat) (c:Case),x.cases[j]? = some c->j<x.cases.length:=fun j c h=>(List.getElem?_eq_some_iff.1 h).1
 have hoth:∃(j:Nat) (c:Case),ixC x.cases kOtherS=(j:Nat)/\x.cases[j]? = some c/\findC x.cases kOtherS=some c.2:=by
  rcases ixC_find x.cases kOtherS with ⟨_,h⟩|h
  ·exact absurd h ho
  ·exact h
 obtain ⟨jo,co,hjo,hjo2,hfo⟩:=hoth
 rw [hfo] at hS
 rcases ixC_find x.cases key with ⟨hi,hf⟩|⟨j,c,hi,hj,hf⟩
 ·have hi':decide (ixC x.cases key<0)=true:=by simpa using hi
  rw [hf] at hS
  generalize hI:ixC x.cases key=I at *
  have hcho:=fun xid σ hx=>hch kOtherS xid σ hx
  rw [hjo] at hcho
  unfold kOtherS at hcho
  generalize hB:(headEq key&&x.kind != 9)=B at hS
  cases B with
  | false=>
   have hS2:S=co.2:=by rw [<-hS];rfl
   have hBB:headEq key=false\/headEq key=true/\(x.kind != 9)=false:=by
    cases h1:headEq key with
    | false=>exact .inl rfl
    | true=>rw [h1] at hB;exact .inr ⟨rfl,by simpa using hB⟩
   clear hS
   rcases hBB with h1|⟨h1,h2⟩
   ·rw [h1] at hcut
    simp only [push_cast,seval,reduceEqDiff,hi',hget jo co hjo2,if_pos (hjl jo co hjo2),hS2,List.length_map]
    repeat' (first|(((first|apply condU_s|apply gdU_t|apply gdU_f)<;>intro _h)<;>simp only [push_cast,seval,reduceEqDiff,_h,hi',hget jo co hjo2,if_pos (hjl jo co hjo2),hS2,List.length_map])|(refine c_call (by exact hcut) ?_;simp only [push_cast,seval,reduceEqDiff,hi',hget jo co hjo2,if_pos (hjl jo co hjo2),hS2,List.length_map])|intro _)
    refine c_calls (hcho (n0,4) _ (by simp [lk])) (fun _ _ h=>h) ?_
    rw [over_self]
    simp only [push_cast,seval,reduceEqDiff,hi',hget jo co hjo2,if_pos (hjl jo co hjo2),hS2,List.length_map]
    intros
    exact finW_ret (by simp [get])
   ·rw [h1] at hcut
    simp only [push_cast,seval,reduceEqDiff,hi',hget jo co hjo2,if_pos (hjl jo co hjo2),hS2,List.length_map,h2]
    repeat' (first|(((first|apply condU_s|apply gdU_t|apply gdU_f)<;>intro _h)<;>simp only [push_cast,seval,reduceEqDiff,_h,hi',hget jo co hjo2,if_pos (hjl jo co hjo2),hS2,List.length_map,h2])|(refine c_call (by exact hcut) ?_;simp only [push_cast,seval,reduceEqDiff,hi',hget jo co hjo2,if_pos (hjl jo co hjo2),hS2,List.length_map,h2])|intro _)
    refine c_calls (hcho (n0,4) _ (by simp [lk])) (fun _ _ h=>h) ?_
    rw [over_self]
    simp only [push_cast,seval,reduceEqDiff,hi',hget jo co hjo2,if_pos (hjl jo co hjo2),hS2,List.length_map,h2]
    intros
    exact finW_ret (by simp [get])
  | true=>
   simp only [Bool.and_eq_true] at hB
   obtain ⟨h1,h2⟩:=hB
   rw [h1,hc2 h1] at hcut
   have hru:=c_rules W0 l x.kind hr
   have hwr:wtRules (rulesOf l x.kind)<=2^30:=by unfold rulesOf;split<;>omega
   have hcl2:=c_class W0 (rulesOf l x.kind) key.tail (by simp;omega) hwr
   have hcn:clsN l x.kind key.tail=(classV (rulesOf l x.kind) key.tail).1:=rfl
   rw [hcn] at hS
   generalize (classV (rulesOf l x.kind) key.tail).1=CN at *
   generalize (classV (rulesOf l x.kind) key.tail).2=CE at *
   rw [Loc.enc_eq] at hru
   have htk:List.take 11 l.rest=l.rest:=by rw [<-hrl,List.take_length]
   rcases ixC_find x.cases CN with ⟨hi2,hf2⟩|⟨j,c,hi2,hj,hf2⟩
   ·have hi2':decide (ixC x.cases CN<0)=true:=by simpa using hi2
    rw [hf2] at hS
    have hS2:S=co.2:=by rw [<-hS];rfl
    simp only [push_cast,seval,reduceEqDiff,hi',hget jo co hjo2,if_pos (hjl jo co hjo2),hS2,List.length_map,h2,htk,if_pos hrl,hi2']
    repeat' (first|(((first|apply condU_s|apply gdU_t|apply gdU_f)<;>intro _h)<;>simp only [push_cast,seval,reduceEqDiff,_h,hi',hget jo co hjo2,if_pos (hjl jo co hjo2),hS2,List.length_map,h2,htk,if_pos hrl,hi2'])|((first|refine c_call (by exact hcut) ?_|refine c_call (by exact hru) ?_|refine c_call (by exact hcl2) ?_);simp only [push_cast,seval,reduceEqDiff,hi',hget jo co hjo2,if_pos (hjl jo co hjo2),hS2,List.length_map,h2,htk,if_pos hrl,hi2'])|intro _)
    refine c_calls (hch CN (n0,4) _ (by simp [lk])) (fun _ _ h=>h) ?_
    rw [over_self]
    simp only [push_cast,seval,reduceEqDiff,hi',hget jo co hjo2,if_pos (hjl jo co hjo2),hS2,List.length_map,h2,htk,if_pos hrl,hi2']
    intros
    refine c_calls (hcho (n0,4) _ (by simp [lk])) (fun _ _ h=>h) ?_
    rw [over_self]
    simp only [push_cast,seval,reduceEqDiff,hi',hget jo co hjo2,if_pos (hjl jo co hjo2),hS2,List.length_map,h2,htk,if_pos hrl,hi2']
    intros
    exact finW_ret (by simp [get])
   ·rw [hf2] at hS
    have hS2:S=c.2:=by rw [<-hS];rfl
    have hi2':decide ((j:Int)<0)=false:=by simp
    have hch2:=fun xid σ hx=>hch CN xid σ hx
    rw [hi2] at hch2
    clear hjo2 hfo hjo
    simp only [push_cast,seval,reduceEqDiff,hi',hget j c hj,if_pos (hjl j c hj),hS2,List.length_map,h2,htk,if_pos hrl,hi2']
    repeat' (first|(((first|apply condU_s|apply gdU_t|apply gdU_f)<;>intro _h)<;>simp only [push_cast,seval,reduceEqDiff,_h,hi',hget j c hj,if_pos (hjl j c hj),hS2,List.length_map,h2,htk,if_pos hrl,hi2'])|((first|refine c_call (by exact hcut) ?_|refine c_call (by exact hru) ?_|refine c_call (by exact hcl2) ?_);simp only [push_cast,seval,reduceEqDiff,hi',hget j c hj,if_pos (hjl j c hj),hS2,List.length_map,h2,htk,if_pos hrl,hi2'])|intro _)
    refine c_calls (hch2 (n0,4) _ (by simp [lk])) (fun _ _ h=>h) ?_
    rw [over_self]
    simp only [push_cast,seval,reduceEqDiff,hi',hget j c hj,if_pos (hjl j c hj),hS2,List.length_map,h2,htk,if_pos hrl,hi2']
    intros
    exact finW_ret (by simp [get])
 ·rw [hi]
  rw [hf] at hS
  clear hjo2 hfo hjo
  have hi':decide ((j:Int)<0)=false:=by simp
  have hS2:S=c.2:=by rw [<-hS];rfl
  simp only [push_cast,seval,reduceEqDiff,hi',hget j c hj,if_pos (hjl j c hj),hS2,List.length_map]
  repeat' (first|(((first|apply condU_s|apply gdU_t|apply gdU_f)<;>intro _h)<;>simp only [push_cast,seval,reduceEqDiff,_h,hi',hget j c hj,if_pos (hjl j c hj),hS2,List.length_map])|(refine c_call (by exact hcut) ?_;simp only [push_cast,seval,reduceEqDiff,hi',hget j c hj,if_pos (hjl j c hj),hS2,List.length_map])|intro _)
  exact finW_ret (by simp [get])
end Go.Ir
section
namespace Go.Ir
open Go.Proofs
variable (W0 : World)
mutual
def Part.all (f:Part->Prop):Part->Prop
 | ⟨k,t,nm,st,cs,ps⟩=>f ⟨k,t,nm,st,cs,ps⟩/\allCs f cs/\allPs f ps
def allPs (f:Part->Prop):List Part->Prop
 | []=>True
 | p::ps=>p.all f/\allPs f ps
def allCs (f:Part->Prop):List (Bytes × List Part)->Prop
 | []=>True
 | (k,ps)::cs=>allPs f ps/\allCs f cs
end
theorem Part.all_eq (f:Part->Prop) (p:Part):p.all f↔f p/\allCs f p.cases/\allPs f p.parts:=by cases p;simp only [Part.all]
theorem allPs_cons (f:Part->Prop) (p:Part) (ps:List Part):allPs f (p::ps)↔p.all f/\allPs f ps:=by simp only [allPs]
theorem allCs_cons (f:Part->Prop) (c:Case) (cs:List Case):allCs f (c::cs)↔allPs f c.2/\allCs f cs:=by obtain ⟨a,b⟩:=c;simp only [allCs]
theorem allCs_mem {f:Part->Prop} {cs:List Case} (h:allCs f cs) {c:Case} (hc:c∈cs):allPs f c.2:=by
 induction cs with
 | nil=>cases hc
 | cons d cs ih=>
  rw [allCs_cons] at h
  rcases List.mem_cons.1 hc with rfl|hc
  ·exact h.1
  ·exact ih h.2 hc
def keyAt (L:List Sel) (keys:List Bytes) (k:Int) (nm:Bytes):Bytes:=keys[(findI L k nm).toNat]?.getD []
def pkP (l:Loc) (L:List Sel) (keys:List Bytes):Pick:=fun k nm cs=>(pickC (clsN l k) k cs (keyAt L keys k nm)).getD []
theorem pkP_picks (l:Loc) (L:List Sel) (keys:List Bytes):Picks (pkP l L keys):=by
 intro k nm cs
 unfold pkP
 cases h:pickC (clsN l k) k cs (keyAt L keys k nm) with
 | none=>left;rfl
 | some a=>right;obtain ⟨key,hk⟩:=pickC_mem h;exact ⟨key,hk⟩
def resOk (L:List Sel) (p:Part):Prop:=selB p.kind=true->¬findI L p.kind p.name<0/\findC p.cases kOtherS≠none
theorem rest11 {r:List V} (h:r.length=11):∃a b c d e f g i j k l,r=[a,b,c,d,e,f,g,i,j,k,l]:=by
 match r,h with
 | [a,b,c,d,e,f,g,i,j,k,l],_=>exact ⟨a,b,c,d,e,f,g,i,j,k,l,rfl⟩
theorem c_res1 (s:Sel) (x:Part) (xid:Id) (σ:Sto) (hx:lk σ xid=some (.box x.v)):RetS Tryz.prog W0 88 [s.enc,.ref xid 0] σ (.b (selIs x.kind x.name s)) σ:=by
 generalize hS:selIs x.kind x.name s=S
 unfold selIs at hS
 refine fn_retW (vs:=[.b S]) f88ok (by simp) (fun _ h=>h) fun n0 hn0=>?_
 have h1:∀j,((n0,j)=xid)=False:=fun j=>ne_idx (hn0 _ _ hx)
 unfold Part.v at hx
 simp only [push_cast,seval,reduceEqDiff,h1,hx]
 repeat' (first|(((first|apply condU_s|apply gdU_t|apply gdU_f)<;>intro _h)<;>simp only [push_cast,seval,reduceEqDiff,_h,h1,hx])|intro _)
 all_goals subst hS
 all_goals (refine finW_retS (by simp [get, *]) (fun i e h=>lk_fresh (hn0 i e h) h))
theorem finW_frzS {W0:World} {nt n s:Nat} {env:Env} {σ σ':Sto} {id:Id} {e sz:Nat} {es:List V} (hs:get env s = .arr id) (hok:∀y∈es,y.ok=true) (hl:lk σ id=some (.arr e sz es)) (hσ:∀i e',lk σ' i=some e'->lk σ i=some e'/\i≠id):FinW W0 nt [.t s] [.sl es] σ' .ret ⟨env,σ,n⟩:=by
 refine ⟨⟨[(s,.sl es)],σ',n⟩,StLe.weak (fun i=>if i=id then some es else none) (fun i es' h=>?_) (fun t=>?_) (fun i e' h=>⟨e',(hσ i e' h).1,.refl _⟩) (Nat.le_refl _),⟨by simp [ResOk,get],trivial⟩,fun _ _ h=>h⟩
 ·split at h
  ·rename_i hi;subst hi;cases h
   refine ⟨⟨e,sz,hl⟩,?_⟩
   cases hl2:lk σ' i with
   | none=>rfl
   | some e'=>exact absurd rfl (hσ i e' hl2).2
  ·cases h
 ·by_cases ht:s=t
  ·subst ht
   rw [hs]
   simp only [get,if_true]
   refine .arr id es es (by simp) rfl (fun k c c' h1 h2=>?_) (fun k c c' h1 h2=>?_)
   ·rw [h1] at h2;cases h2;exact .refl _
   ·rw [h1] at h2;cases h2
    have:=hok c (List.mem_of_getElem? h1)
    exact ⟨rfl,this,this⟩
  ·simp only [get,if_neg ht];exact .any _
def rV (l:Loc) (L:List Sel) (keys:List Bytes):V:=.agg (.s l.tag :: .s l.parent :: .s l.dir :: .sl (l.card.map Rule.enc) :: .sl (l.ord.map Rule.enc)::(l.rest++[.sl (L.map Sel.enc),.sl (keys.map V.s)]))
theorem over_3 {id a c:Id} {A X Y C:Ent} (h1:(id=a)=False) (h2:(id=c)=False):over [(id,X)] [] [(a,A),(id,Y),(c,C)]=[(a,A),(c,C)]:=by
 simp [over,lk,h1,h2,List.filter]
theorem snocLe {W0:World} {nt n n':Nat} {env:Env} {σ τ:Sto} {id:Id} {o:List Part} {v:V} {y:Part} (hv:∀φ,VLe φ v y.enc) (hl:(cells y.enc).length=(cells v).length) (hk:v.ok=true)
  (h0:lk σ id=some (.arr TPt 6 (o.map Part.enc++[v]))) (hτ:∀i e,lk τ i=some e->(i=id/\e = .arr TPt 6 ((o++[y]).map Part.enc))\/lk σ i=some e) (hn:n<=n'):StLe W0 nt ⟨env,σ,n⟩ ⟨env,τ,n'⟩:=by
 refine StLe.weak (fun _=>none) (fun _ _ h=>by cases h) (fun _=>.refl _) (fun i e hi=>?_) hn
 rcases hτ i e hi with ⟨rfl,rfl⟩|h
 ·refine ⟨_,h0,.arr _ _ _ _ (by simp) fun k c c' h1 h2=>?_⟩
  rw [List.map_append] at h2
  by_cases hk2:k<(o.map Part.enc).length
  ·rw [List.getElem?_append_left hk2] at h1 h2
   rw [h1] at h2;cases h2
   have hm:=List.mem_of_getElem? h1
   have:=okPt _ _ hm
   exact ⟨.refl _,rfl,this,this⟩
  ·rw [List.getElem?_append_right (by omega)] at h1 h2
   cases hq:k-(o.map Part.enc).length with
   | zero=>
    rw [hq] at h1 h2
    simp at h1 h2
    subst h1 h2
    exact ⟨hv _,hl,hk,okPt [y] _ (by simp)⟩
   | succ q=>rw [hq] at h1;simp at h1
 ·exact ⟨e,h,.refl _⟩
theorem vle_count (count:Bytes) (φ:Id->Option (List V)):VLe φ (.agg [.i .i64 3,.s [],.s count,.s [],.nil,.nil]) (Part.enc ⟨3,[],count,[],[],[]⟩):=by
 rw [Part.enc_eq]
 refine .agg _ _ rfl fun k c c' h1 h2=>?_
 match k with
 | 0=>simp at h1 h2;subst h1 h2;exact .refl _
 | 1=>simp at h1 h2;subst h1 h2;exact .refl _
 | 2=>simp at h1 h2;subst h1 h2;exact .refl _
 | 3=>simp at h1 h2;subst h1 h2;exact .refl _
 | 4=>simp at h1 h2;subst h1 h2;exact .nil
 | 5=>simp at h1 h2;subst h1 h2;exact .nil
 | k+6=>simp at h1
set_option maxHeartbeats 4000000 in
theorem adds_loop (rid:Id) (R:V) (a0 a2 a14 a15 a16:V) (RP:List Part) (n0:Nat) (hrid:rid.1<n0) (id0:Id) (o0:List Part) (m0:Nat) (hid0:n0<=id0.1) (hid1:id0.1<m0) (hw:tw o0+tw RP<=2^26) (Q:Exit->St->Prop)
  (hQ:∀id n,n0<=id.1->id.1<n->Q (.exit 3) ⟨[(0,a0),(2,a2),(7,.arr id),(14,a14),(15,a15),(16,a16),(54,.sl (RP.map Part.enc)),(55,.i .i64 RP.length),(56,.i .i64 RP.length),(57,.b false)],[(id,.arr TPt 6 ((RP.foldl addP o0).map Part.enc)),(rid,.box R)],n⟩) :
  LoopW Tryz.prog W0 89 f42_34 Q ⟨[(0,a0),(2,a2),(7,.arr id0),(14,a14),(15,a15),(16,a16),(54,.sl (RP.map Part.enc)),(55,.i .i64 RP.length),(56,.i .i64 0)],[(id0,.arr TPt 6 (o0.map Part.enc)),(rid,.box R)],m0⟩:=by
 generalize hS:RP.foldl addP o0=S at hQ
 have hrl:=len_tw RP
 have hRl:RP.length<=2^26:=by omega
 refine aWP_loopW RP.length (Inv:=fun m st=>∃done rest n id o,RP=done++rest/\m=rest.length/\rest.foldl addP o=S/\tw o+tw rest<=2^26/\n0<=id.1/\id.1<n/\st=⟨[(0,a0),(2,a2),(7,.arr id),(14,a14),(15,a15),(16,a16),(54,.sl (RP.map Part.enc)),(55,.i .i64 RP.length),(56,.i .i64 done.length)],[(id,.arr TPt 6 (o.map Part.enc)),(rid,.box R)],n⟩) ⟨_,StLe.refl,[],RP,_,_,o0,rfl,rfl,hS,hw,hid0,hid1,rfl⟩ ?_
 clear hS hw hid0 hid1
 rintro m _ ⟨done,rest,n,id,o,hz,rfl,hd,hw,hi0,hin,rfl⟩
 have fir:(id=rid)=False:=eq_false fun he=>by rw [he] at hi0;omega
 have fri:(rid=id)=False:=eq_false fun he=>of_eq_false fir he.symm
 cases rest with
 | nil=>
  rw [List.foldl_nil] at hd
  subst hd
  rw [hz] at hQ⊢
  simp only [List.append_nil] at hQ⊢
  simp only [push_cast,seval,reduceEqDiff]
  intros
  exact hQ _ _ hi0 (by omega)
 | cons p rest=>
  have hbd:=zip_bd hz
  rw [List.foldl_cons] at hd
  rw [tw_cons] at hw
  have hot:o.length<=2^30:=by have:=len_tw o;omega
  have hoT:∀y∈o,y.text.length<=2^30:=fun y hy=>by have:=text_tw hy;omega
  have hadd:=c_add W0 (some id) o p (fun h=>by cases h) hot hoT (by omega)
  rw [Part.enc_eq] at hadd
  have fix:∀k j,(id=(n+1+k,j))=False:=fun k j=>eq_false fun he=>by rw [he] at hin;simp at hin;omega
  have fxi:∀k j,((n+1+k,j)=id)=False:=fun k j=>eq_false fun he=>of_eq_false (fix k j) he.symm
  have frx:∀k j,(rid=(n+1+k,j))=False:=fun k j=>eq_false fun he=>by rw [he] at hrid;simp at hrid;omega
  simp only [push_cast,seval,reduceEqDiff,hz,wrap_zip p (done:=done) (by omega),fix,fxi,frx]
  intros
  refine c_calln hadd (fun i e h=>?_) ?_
  ·simp only [oE,lk] at h
   split at h
   ·rename_i he;subst he;simp only [lk,fxi,if_false,if_true];exact h
   ·cases h
  rw [show oE (some id) o=[(id,.arr TPt 6 (o.map Part.enc))] from rfl,over_3 (fix _ _) fir]
  simp only [push_cast,seval,reduceEqDiff,hz,wrap_zip p (done:=done) (by omega),fix,fxi,frx]
  intros
  exact ⟨_,_,Nat.lt_succ_self _,StLe.dropM (by simp [lk,frx]) (Nat.le_refl _),done++[p],rest,_,_,addP o p,by simp,rfl,hd,by have:=tw_add o p;omega,by (try simp);omega,by (try simp);omega,rfl⟩
set_option maxHeartbeats 4000000 in
theorem c_resolve (l:Loc) (L:List Sel) (keys:List Bytes) (rid:Id) (hr:(Loc.enc l).ok=true) (hrl:l.rest.length=11) (hb:wtRules l.card+wtRules l.ord<=2^24) (hLl:L.length<=2^26) (hkl:keys.length=L.length) (hkb:∀k∈keys,k.length<=2^30) :
  ∀(N:Nat) (ps:List Part) (count:Bytes),wtPs ps<N->wtPs ps<=2^24->allPs (resOk L) ps->
  RetS Tryz.prog W0 42 [.ref rid 0,.sl (ps.map Part.enc),.s count] [(rid,.box (rV l L keys))] (.sl ((resPs (pkP l L keys) count ps []).map Part.enc)) [(rid,.box (rV l L keys))]:=by
 intro N
 induction N with
 | zero=>intro ps count h;omega
 | succ N ih=>
 intro ps count hN hw0 ha
 have hlen:=len_wtPs ps
 have hpk:=pkP_picks l L keys
 generalize hP:pkP l L keys=pk at *
 generalize hS:resPs pk count ps []=S
 refine fn_retW (vs:=[.sl (S.map Part.enc)]) f42ok (by simp) (fun _ h=>h) fun n0 hn0=>?_
 have hrid:rid.1<n0:=hn0 rid (.box (rV l L keys)) (by simp [lk])
 clear hn0
 have fr:∀a j,n0<=a->((a,j)=rid)=False:=fun a j h=>ne_idx (by omega)
 have fr':∀a j,n0<=a->(rid=(a,j))=False:=fun a j h=>eq_false fun he=>of_eq_false (fr a j h) he.symm
 simp only [push_cast,seval,reduceEqDiff]
 intros
 refine aWP_loopW ps.length (Inv:=fun m st=>∃done rest n id o,ps=done++rest/\m=rest.length/\resPs pk count rest o=S/\tw o+wtPs rest<=2^25/\allPs (resOk L) rest/\n0<=id.1/\id.1<n/\st=⟨[(0,.ref rid 0),(2,.s count),(7,.arr id),(14,.sl (ps.map Part.enc)),(15,.i .i64 ps.length),(16,.i .i64 done.length)],[(id,.arr TPt 6 (o.map Part.enc)),(rid,.box (rV l L keys))],n⟩) ⟨_,(StLe.own (s:=7) (e:=TPt) (sz:=6) (k:=99) rfl).trans (StLe.envD (fun t=>?_) (Nat.le_refl _)),[],ps,_,_,[],rfl,rfl,hS,by rw [tw_nil];omega,ha,?_,?_,rfl⟩ ?_
 ·left
  by_cases h3:7=t
  ·subst h3;rfl
  ·simp [get,h3]
 ·simp;omega
 ·simp
 clear hS ha
 rintro m _ ⟨done,rest,n,id,o,hz,rfl,hd,hw,ha,hi0,hin,rfl⟩
 have fir:(id=rid)=False:=eq_false fun he=>by rw [he] at hi0;omega
 have fri:(rid=id)=False:=eq_false fun he=>of_eq_false fir he.symm
 cases rest with
 | nil=>
  rw [resPs] at hd
  subst hd
  simp only [push_cast,seval,reduceEqDiff,hz]
  intros
  exact finW_frzS (e:=TPt) (sz:=6) rfl (okPt _) (by simp [lk,fri]) (fun i e h=>by
   simp only [lk] at h⊢
   split at h
   ·rename_i he;subst he;rw [if_neg (of_eq_false fir),if_pos rfl];exact ⟨h,of_eq_false fri⟩
   ·cases h)
 | cons p rest=>
  have hbd:=zip_bd hz
  have hwp:=wtPs_mem (ps:=ps) (p:=p) (by rw [hz];simp)
  rw [wtPs_cons] at hw
  have hpw:=p.wt_eq
  rw [allPs_cons,p.all_eq] at ha
  obtain ⟨⟨ha1,ha2,ha3⟩,ha4⟩:=ha
  rw [resPs_cons,p.res_eq] at hd
  have hsel:=c_sSel W0 p.kind
  have fix:∀k j,(id=(n+1+k,j))=False:=fun k j=>eq_false fun he=>by rw [he] at hin;simp at hin;omega
  have fxi:∀k j,((n+1+k,j)=id)=False:=fun k j=>eq_false fun he=>of_eq_false (fix k j) he.symm
  have frx:∀k j,(rid=(n+1+k,j))=False:=fun k j=>fr' _ _ (by omega)
  have fxr:∀k j,((n+1+k,j)=rid)=False:=fun k j=>fr _ _ (by omega)
  have hot:o.length<=2^30:=by have:=len_tw o;omega
  have hoT:∀y∈o,y.text.length<=2^30:=fun y hy=>by have:=text_tw hy;omega
  have hadd:=c_add W0 (some id) o p (fun h=>by cases h) hot hoT (by omega)
  rw [Part.enc_eq] at hadd
  have hsub:∀X:Id × Ent,X.1≠id->∀i e,lk (oE (some id) o) i=some e->lk [X,(id,.arr TPt 6 (o.map Part.enc)),(rid,.box (rV l L keys))] i=some e:=by
   intro X hX i e h
   simp only [oE,lk] at h
   split at h
   ·rename_i he;subst he;obtain ⟨a,b⟩:=X;simp only [lk,if_neg hX,if_true];exact h
   ·cases h
  cases hs:selB p.kind with
  | false=>
   rw [hs] at hd hsel
   have hll:o.length+1<=LLim:=by unfold LLim;omega
   cases h10:p.kind == 10 with
   | true=>
    rw [h10] at hd
    simp only [bq,if_true,if_false,Int.reduceBEq,reduceCtorEq] at hd
    simp only [push_cast,seval,reduceEqDiff,hz,wrap_zip p (done:=done) (by omega),fix,fxi,frx,fxr,fir,fri,h10,eq_true hll,List.length_map,TPt]
    repeat' (first|(((first|apply condU_s|apply gdU_t|apply gdU_f)<;>intro _h)<;>simp only [push_cast,seval,reduceEqDiff,_h,hz,wrap_zip p (done:=done) (by omega),fix,fxi,frx,fxr,fir,fri,h10,eq_true hll,List.length_map,TPt])|(refine c_call (by exact hsel) ?_;simp only [push_cast,seval,reduceEqDiff,hz,wrap_zip p (done:=done) (by omega),fix,fxi,frx,fxr,fir,fri,h10,eq_true hll,List.length_map,TPt])|intro _)
    rename_i k1 k2 k3 k4 k5 k6
    exact ⟨_,_,Nat.lt_succ_self _,snocLe (id:=(n+1+k1+1+k2+1+k3+1+k4,72)) (o:=o) (vle_count count) (by rw [Part.enc_eq];rfl) rfl (by simp [lk,TPt]) (fun i e h=>by
     simp only [lk] at h⊢
     split at h
     ·rename_i he;subst he;left;cases h;exact ⟨rfl,rfl⟩
     ·rename_i he;rw [if_neg he];right
      rw [if_neg (fun h2=>by rw [<-h2] at h;simp [frx,frx] at h)]
      exact h) (Nat.le_refl _),done++[p],rest,_,_,o++[⟨3,[],count,[],[],[]⟩],by simp,rfl,hd,by rw [tw_app,tw_cons,tw_nil];simp only [List.length_nil];omega,ha4,by simp;omega,by simp;omega,rfl⟩
   | false=>
    rw [h10] at hd
    cases h11:p.kind == 11 with
    | true=>
     rw [h11] at hd
     simp only [bq,if_true,if_false,Int.reduceBEq,reduceCtorEq] at hd
     have hre:=ih p.parts count (by omega) (by omega) ha3
     generalize hRP:resPs pk count p.parts []=RP at *
     have hnv:List.map Part.enc o++[V.agg [.i .i64 p.kind,.s p.text,.s p.name,.s p.style,.sl (p.cases.map Case.enc),.sl (RP.map Part.enc)]]=List.map Part.enc (o++[⟨p.kind,p.text,p.name,p.style,p.cases,RP⟩]):=by
      rw [List.map_append,List.map_cons,Part.enc_eq ⟨p.kind,p.text,p.name,p.style,p.cases,RP⟩];rfl
     simp only [push_cast,seval,reduceEqDiff,hz,wrap_zip p (done:=done) (by omega),fix,fxi,frx,fxr,fir,fri,h10,h11,eq_true hll,List.length_map,TPt,hnv]
     repeat' (first|(((first|apply condU_s|apply gdU_t|apply gdU_f)<;>intro _h)<;>simp only [push_cast,seval,reduceEqDiff,_h,hz,wrap_zip p (done:=done) (by omega),fix,fxi,frx,fxr,fir,fri,h10,h11,eq_true hll,List.length_map,TPt,hnv])|(refine c_call (by exact hsel) ?_;simp only [push_cast,seval,reduceEqDiff,hz,wrap_zip p (done:=done) (by omega),fix,fxi,frx,fxr,fir,fri,h10,h11,eq_true hll,List.length_map,TPt,hnv])|intro _)
     refine c_callr hre (fun i e h=>?_) ?_
     ·simp only [lk] at h
      split at h
      ·rename_i he;subst he;simp only [lk,fxr,fir,if_false,if_true];exact h
      ·cases h
     simp only [push_cast,seval,reduceEqDiff,hz,wrap_zip p (done:=done) (by omega),fix,fxi,frx,fxr,fir,fri,h10,h11,eq_true hll,List.length_map,TPt,hnv]
     intros
     exact ⟨_,_,Nat.lt_succ_self _,StLe.dropM (by simp [lk,frx]) (Nat.le_refl _),done++[p],rest,_,_,o++[⟨p.kind,p.text,p.name,p.style,p.cases,RP⟩],by simp,rfl,hd,by rw [tw_app,tw_cons,tw_nil];simp only;omega,ha4,by simp;omega,by simp;omega,rfl⟩
    | false=>
     rw [h11] at hd
     simp only [bq,if_true,if_false,Int.reduceBEq,reduceCtorEq] at hd
     simp only [push_cast,seval,reduceEqDiff,hz,wrap_zip p (done:=done) (by omega),fix,fxi,frx,fxr,fir,fri,h10,h11]
     repeat' (first|(((first|apply condU_s|apply gdU_t|apply gdU_f)<;>intro _h)<;>simp only [push_cast,seval,reduceEqDiff,_h,hz,wrap_zip p (done:=done) (by omega),fix,fxi,frx,fxr,fir,fri,h10,h11])|(refine c_call (by exact hsel) ?_;simp only [push_cast,seval,reduceEqDiff,hz,wrap_zip p (done:=done) (by omega),fix,fxi,frx,fxr,fir,fri,h10,h11])|intro _)
     rename_i k1 k2 k3 k4 k5
     refine c_calln hadd (hsub _ (of_eq_false (fxi _ _))) ?_
     rw [show oE (some id) o=[(id,.arr TPt 6 (o.map Part.enc))] from rfl,over_3 (fix _ _) fir]
     simp only [push_cast,seval,reduceEqDiff,hz,wrap_zip p (done:=done) (by omega),fix,fxi,frx,fxr,fir,fri,h10,h11]
     intros
     exact ⟨_,_,Nat.lt_succ_self _,StLe.dropM (by simp [lk,frx]) (Nat.le_refl _),done++[p],rest,_,_,addP o p,by simp,rfl,hd,by have:=tw_add o p;omega,ha4,by simp;omega,by simp;omega,rfl⟩
  | true=>
   rw [hs] at hd hsel
   simp only [bq,if_true,if_false,Int.reduceBEq,reduceCtorEq] at hd
   obtain ⟨hf0,hoc⟩:=ha1 hs
   have hjlt:=idxI_lt (selIs p.kind p.name) L
   obtain ⟨j,hj⟩:∃j:Nat,findI L p.kind p.name=j:=⟨(findI L p.kind p.name).toNat,by omega⟩
   have hj2:j<keys.length:=by
    rw [show idxI (selIs p.kind p.name) L=findI L p.kind p.name from rfl,hj] at hjlt;omega
   have hkj:keys[j]? = some keys[j]:=List.getElem?_eq_getElem hj2
   have hka:keyAt L keys p.kind p.name=keys[j]:=by unfold keyAt;rw [hj,Int.toNat_natCast,hkj];rfl
   have hkl2:keys[j].length<=2^30:=hkb _ (List.getElem_mem hj2)
   have hlc:=len_wtCs p.cases
   have hch:=c_chosen W0 l p keys[j] hr hrl hb hkl2 (by omega) hoc
   have hpe:∀cs,pk p.kind p.name cs=(pickC (clsN l p.kind) p.kind cs keys[j]).getD []:=fun cs=>by rw [<-hP];unfold pkP;rw [hka]
   rw [hpe,resCs_map,pickC_map (fun q=>resPs pk (if p.kind == 9 then count else p.name) q [])] at hd
   obtain ⟨CP,hCP,hCa⟩:∃CP,pickC (clsN l p.kind) p.kind p.cases keys[j]=some CP/\∃k,(k,CP)∈p.cases:=by
    cases h:pickC (clsN l p.kind) p.kind p.cases keys[j] with
    | none=>
     exfalso
     unfold pickC at h
     cases h1:findC p.cases kOtherS with
     | none=>exact hoc h1
     | some y=>
      rw [h1] at h
      cases h2:findC p.cases keys[j] with
      | some z=>rw [h2] at h;cases h
      | none=>
       rw [h2] at h
       split at h
       ·cases h3:findC p.cases (clsN l p.kind keys[j].tail) with
        | none=>rw [h3] at h;cases h
        | some z=>rw [h3] at h;cases h
       ·cases h
    | some CP=>exact ⟨CP,rfl,pickC_mem h⟩
   obtain ⟨ck,hCm⟩:=hCa
   rw [hCP] at hch hd
   simp only [Option.getD_some,Option.map_some] at hch hd
   have hcw:=wtCs_mem hCm
   have hcall:=allCs_mem ha2 hCm
   have hre:=fun cnt=>ih CP cnt (by simp only at hcw;omega) (by simp only at hcw;omega) hcall
   have hif:=fun (xid:Id)=>indexFunc_ret (P:=Tryz.prog) (W0:=W0) (f:=87) (e:=TS) (sz:=3) (ag:=true) (by kernel_rfl) Sel.enc L (selIs p.kind p.name) 88 [] [.ref xid 0] [(xid,.box p.v)] (fun s _=>elOk_agg rfl) (fun s _=>c_res1 W0 s p _ _ (by simp [lk])) (by omega)
   rw [show idxI (selIs p.kind p.name) L=findI L p.kind p.name from rfl,hj] at hif
   unfold Part.v at hif
   rw [Loc.enc_eq,Part.enc_eq] at hch
   obtain ⟨r1,r2,r3,r4,r5,r6,r7,r8,r9,r10,r11,hrest⟩:=rest11 hrl
   have hRV:rV l L keys = .agg [.s l.tag,.s l.parent,.s l.dir,.sl (l.card.map Rule.enc),.sl (l.ord.map Rule.enc),r1,r2,r3,r4,r5,r6,r7,r8,r9,r10,r11,.sl (L.map Sel.enc),.sl (keys.map V.s)]:=by
    unfold rV;rw [hrest];rfl
   rw [hrest] at hch
   simp only [hRV] at hre⊢
   have hks:(keys.map V.s)[j]? = some (.s keys[j]):=by rw [List.getElem?_map,hkj];rfl
   cases h9:p.kind == 9 with
   | true=>
    have hn9:(p.kind != 9)=false:=by simp [bne,h9]
    rw [h9] at hd
    simp only [bq,if_true,if_false,Int.reduceBEq,reduceCtorEq] at hd
    simp only [push_cast,seval,reduceEqDiff,hz,wrap_zip p (done:=done) (by omega),fix,fxi,frx,fxr,fir,fri,hn9,hks,if_pos hj2,List.length_map]
    repeat' (first|(((first|apply condU_s|apply gdU_t|apply gdU_f)<;>intro _h)<;>simp only [push_cast,seval,reduceEqDiff,_h,hz,wrap_zip p (done:=done) (by omega),fix,fxi,frx,fxr,fir,fri,hn9,hks,if_pos hj2,List.length_map])|(refine c_call (by exact hsel) ?_;simp only [push_cast,seval,reduceEqDiff,hz,wrap_zip p (done:=done) (by omega),fix,fxi,frx,fxr,fir,fri,hn9,hks,if_pos hj2,List.length_map])|intro _)
    refine c_callr (hif _) (fun i e h=>?_) ?_
    ·simp only [lk] at h⊢
     split at h
     ·rename_i he;rw [if_pos he];exact h
     ·cases h
    simp only [push_cast,seval,reduceEqDiff,hz,wrap_zip p (done:=done) (by omega),fix,fxi,frx,fxr,fir,fri,hn9,hks,if_pos hj2,List.length_map]
    intros
    refine c_call hch ?_
    simp only [push_cast,seval,reduceEqDiff,hz,wrap_zip p (done:=done) (by omega),fix,fxi,frx,fxr,fir,fri,hn9,hks,if_pos hj2,List.length_map]
    refine c_callr (hre count) (fun i e h=>?_) ?_
    ·simp only [lk] at h
     split at h
     ·rename_i he;subst he;simp only [lk,fxr,fir,if_false,if_true];exact h
     ·cases h
    have htr:=(res_w pk hpk _ CP (Nat.lt_succ_self _) count []).1
    rw [tw_nil] at htr
    have htw:=tw_adds (resPs pk count CP []) o
    simp only [push_cast,seval,reduceEqDiff,hz,wrap_zip p (done:=done) (by omega),fix,fxi,frx,fxr,fir,fri,hn9,hks,if_pos hj2,List.length_map]
    intros
    generalize resPs pk count CP []=RP at *
    refine loopW_le (StLe.drop (fun i e h=>lk_drop1 (by simp [lk,frx,fix]) i e h) (Nat.le_refl _)) (adds_loop W0 rid _ _ _ _ _ _ RP n0 hrid id o _ hi0 (by omega) (by simp only at hcw;omega) _ fun id2 n2 h1 h2=>?_)
    simp only [push_cast,seval,reduceEqDiff,hz,wrap_zip p (done:=done) (by omega),fix,fxi,frx,fxr,fir,fri,hn9,hks,if_pos hj2,List.length_map]
    intros
    exact ⟨_,_,Nat.lt_succ_self _,StLe.refl,done++[p],rest,_,_,RP.foldl addP o,by simp,rfl,hd,by simp only at hcw;omega,ha4,by (try simp);omega,by (try simp);omega,rfl⟩
   | false=>
    have hn9:(p.kind != 9)=true:=by simp [bne,h9]
    rw [h9] at hd
    simp only [bq,if_true,if_false,Int.reduceBEq,reduceCtorEq] at hd
    simp only [push_cast,seval,reduceEqDiff,hz,wrap_zip p (done:=done) (by omega),fix,fxi,frx,fxr,fir,fri,hn9,hks,if_pos hj2,List.length_map]
    repeat' (first|(((first|apply condU_s|apply gdU_t|apply gdU_f)<;>intro _h)<;>simp only [push_cast,seval,reduceEqDiff,_h,hz,wrap_zip p (done:=done) (by omega),fix,fxi,frx,fxr,fir,fri,hn9,hks,if_pos hj2,List.length_map])|(refine c_call (by exact hsel) ?_;simp only [push_cast,seval,reduceEqDiff,hz,wrap_zip p (done:=done) (by omega),fix,fxi,frx,fxr,fir,fri,hn9,hks,if_pos hj2,List.length_map])|intro _)
    refine c_callr (hif _) (fun i e h=>?_) ?_
    ·simp only [lk] at h⊢
     split at h
     ·rename_i he;rw [if_pos he];exact h
     ·cases h
    simp only [push_cast,seval,reduceEqDiff,hz,wrap_zip p (done:=done) (by omega),fix,fxi,frx,fxr,fir,fri,hn9,hks,if_pos hj2,List.length_map]
    intros
    refine c_call hch ?_
    simp only [push_cast,seval,reduceEqDiff,hz,wrap_zip p (done:=done) (by omega),fix,fxi,frx,fxr,fir,fri,hn9,hks,if_pos hj2,List.length_map]
    refine c_callr (hre p.name) (fun i e h=>?_) ?_
    ·simp only [lk] at h
     split at h
     ·rename_i he;subst he;simp only [lk,fxr,fir,if_false,if_true];exact h
     ·cases h
    have htr:=(res_w pk hpk _ CP (Nat.lt_succ_self _) p.name []).1
    rw [tw_nil] at htr
    have htw:=tw_adds (resPs pk p.name CP []) o
    simp only [push_cast,seval,reduceEqDiff,hz,wrap_zip p (done:=done) (by omega),fix,fxi,frx,fxr,fir,fri,hn9,hks,if_pos hj2,List.length_map]
    intros
    generalize resPs pk p.name CP []=RP at *
    refine loopW_le (StLe.drop (fun i e h=>lk_drop1 (by simp [lk,frx,fix]) i e h) (Nat.le_refl _)) (adds_loop W0 rid _ _ _ _ _ _ RP n0 hrid id o _ hi0 (by omega) (by simp only at hcw;omega) _ fun id2 n2 h1 h2=>?_)
    simp only [push_cast,seval,reduceEqDiff,hz,wrap_zip p (done:=done) (by omega),fix,fxi,frx,fxr,fir,fri,hn9,hks,if_pos hj2,List.length_map]
    intros
    exact ⟨_,_,Nat.lt_succ_self _,StLe.refl,done++[p],rest,_,_,RP.foldl addP o,by simp,rfl,hd,by simp only at hcw;omega,ha4,by (try simp);omega,by (try simp);omega,rfl⟩
end Go.Ir
end
namespace Go.Ir
open Go.Proofs
variable (W0 : World)
def decK:List Sel->Nat->List Bytes × Nat
 | [],i=>([],i)
 | s::L,i=>(s.keys[(decK L i).2 % s.keys.length]?.getD []::(decK L i).1,(decK L i).2 / s.keys.length)
theorem decK_len (L:List Sel) (i:Nat):(decK L i).1.length=L.length:=by
 induction L with
 | nil=>rfl
 | cons s L ih=>simp [decK,ih]
theorem decK_le (L:List Sel) (i:Nat):(decK L i).2<=i:=by
 induction L with
 | nil=>exact Nat.le_refl _
 | cons s L ih=>exact Nat.le_trans (Nat.div_le_self _ _) ih
theorem rest16 {r:List V} (h:r.length=16):∃a b c d e f g i j k l m n o p q,r=[a,b,c,d,e,f,g,i,j,k,l,m,n,o,p,q]:=by
 match r,h with
 | [a,b,c,d,e,f,g,i,j,k,l,m,n,o,p,q],_=>exact ⟨a,b,c,d,e,f,g,i,j,k,l,m,n,o,p,q,rfl⟩
set_option maxHeartbeats 4000000 in
theorem keys_loop (L:List Sel) (hL:L.length<=2^26) (hk:∀s∈L,s.keys≠[]/\s.keys.length<=2^26) (i:Nat) (hi:i<=2^30) (rid kid fid:Id) (h1:(rid=kid)=False) (h2:(rid=fid)=False) (h3:(kid=fid)=False) (A:List V) (hA:A.length=16) (X:V) (τ:Sto) (a1 a2 a4 a37 a38:V) (n0:Nat) (Q:Exit->St->Prop)
  (hQ:∀n,n0<=n->Q (.exit 2) ⟨[(1,a1),(2,a2),(4,a4),(6,.ref fid 0),(9,.ref rid 0),(10,.i .i64 (decK L i).2),(11,.i .i64 (-1)),(37,a37),(38,a38),(56,.b false)],(rid,.box (.agg (A++[.sl (L.map Sel.enc),.arr kid])))::(kid,.arr 9 1 ((decK L i).1.map V.s))::(fid,.box (.agg [.sl (L.map Sel.enc),X]))::τ,n⟩) :
  LoopW Tryz.prog W0 92 f11_46 Q ⟨[(1,a1),(2,a2),(4,a4),(6,.ref fid 0),(9,.ref rid 0),(10,.i .i64 i),(11,.i .i64 ((L.length:Int)-1)),(37,a37),(38,a38)],(rid,.box (.agg (A++[.sl (L.map Sel.enc),.arr kid])))::(kid,.arr 9 1 ((List.replicate L.length []).map V.s))::(fid,.box (.agg [.sl (L.map Sel.enc),X]))::τ,n0⟩:=by
 refine aWP_loopW L.length (Inv:=fun m st=>∃B C n k r,L=B++C/\m=B.length/\k=(B.length:Int)-1/\r=(((decK C i).2:Nat):Int)/\n0<=n/\st=⟨[(1,a1),(2,a2),(4,a4),(6,.ref fid 0),(9,.ref rid 0),(10,.i .i64 r),(11,.i .i64 k),(37,a37),(38,a38)],(rid,.box (.agg (A++[.sl (L.map Sel.enc),.arr kid])))::(kid,.arr 9 1 ((List.replicate B.length []++(decK C i).1).map V.s))::(fid,.box (.agg [.sl (L.map Sel.enc),X]))::τ,n⟩) ⟨_,StLe.refl,L,[],n0,(L.length:Int)-1,(i:Int),(List.append_nil L).symm,rfl,rfl,rfl,Nat.le_refl _,by rw [show (decK [] i).1=[] from rfl,List.append_nil]⟩ ?_
 rintro m _ ⟨B,C,n,k,r,hz,rfl,hk1,hr1,hn,rfl⟩
 obtain rfl|⟨D,s,rfl⟩:B=[]\/∃D s,B=D++[s]:=by rcases List.eq_nil_or_concat B with h|⟨d,y,h⟩;exact .inl h;exact .inr ⟨d,y,by rw [h,List.concat_eq_append]⟩
 ·simp at hz hk1
  subst hz hk1 hr1
  simp only [push_cast,seval,reduceEqDiff,show decide ((-1:Int)>=0)=false from rfl]
  intros
  exact hQ _ (by omega)
 ·have hL2:L=D++s::C:=by rw [hz];simp
  have hks:=hk s (by rw [hL2];simp)
  have hkp:0<s.keys.length:=List.length_pos_iff.2 hks.1
  have hbd:=zip_bd hL2
  have hk2:k=(D.length:Int):=by rw [hk1];simp
  have hrl:=decK_le C i
  have hmod:(r.tmod (s.keys.length:Int))=(((decK C i).2 % s.keys.length:Nat):Int):=by rw [hr1];rfl
  have hdiv:(r.tdiv (s.keys.length:Int))=(((decK C i).2 / s.keys.length:Nat):Int):=by rw [hr1];rfl
  have hdl:(decK C i).2 / s.keys.length<=(decK C i).2:=Nat.div_le_self _ _
  have hml:=Nat.mod_lt (decK C i).2 hkp
  have hwr0:∀d:Nat,d<=2^30->IntKind.i64.wrap (d:Int)=d:=fun d h=>by simp (disch:=omega) only [wrap64]
  have hwk:IntKind.i64.wrap ((D.length:Int)-1)=(D.length:Int)-1:=by simp (disch:=omega) only [wrap64]
  have hne:(s.keys.length:Int)≠0:=by omega
  obtain ⟨key,hkey⟩:∃key,s.keys[(decK C i).2 % s.keys.length]? = some key:=⟨_,List.getElem?_eq_getElem hml⟩
  have hget:(s.keys.map V.s)[(decK C i).2 % s.keys.length]? = some (.s key):=by rw [List.getElem?_map,hkey];rfl
  have hset:(List.map V.s (List.replicate (D++[s]).length []++(decK C i).1)).set D.length (.s key)=List.map V.s (List.replicate D.length []++(decK (s::C) i).1):=by
   simp only [List.length_append,List.length_cons,List.length_nil,decK,hkey,Option.getD_some]
   rw [List.replicate_succ']
   simp [List.set_append]
  have hkl:D.length<(List.replicate (D++[s]).length ([]:Bytes)++(decK C i).1).length:=by simp;omega
  have hge:decide ((D.length:Int)>=0)=true:=by simp
  have hsg:(L.map Sel.enc)[D.length]? = some s.enc:=by rw [hL2,List.getElem?_map,List.getElem?_append_right (by simp)];simp
  have hgk:(List.map V.s (List.replicate (D++[s]).length []++(decK C i).1))[D.length]? = some (.s []):=by
   rw [List.getElem?_map,List.getElem?_append_left (by simp),List.getElem?_replicate];simp
  have hdec:(decK (s::C) i).2=(decK C i).2 / s.keys.length:=rfl
  subst hk2
  generalize (decK C i).2 % s.keys.length=q at *
  generalize (decK C i).2 / s.keys.length=dd at *
  have hwr:=hwr0 dd (by omega)
  obtain ⟨b0,b1,b2,b3,b4,b5,b6,b7,b8,b9,b10,b11,b12,b13,b14,b15,rfl⟩:=rest16 hA
  simp only [push_cast,seval,reduceEqDiff,hge,show (decide True)=true from rfl,hsg,hmod,hdiv,hwr,hwk,hget,hset,hgk,if_pos hkl,if_pos hml,if_pos hbd,eq_true hne,h1,h2,h3,List.length_map,hne]
  intros
  exact ⟨_,_,by simp,StLe.refl,D,s::C,_,_,_,hL2,rfl,rfl,by rw [hdec],by omega,rfl⟩
theorem decK_at (L:List Sel) (hk:∀s∈L,s.keys≠[]) (i:Nat):∀(j:Nat) (k:Bytes),(decK L i).1[j]? = some k->∃s,L[j]? = some s/\k∈s.keys:=by
 induction L with
 | nil=>intro j k h;simp [decK] at h
 | cons s L ih=>
  intro j k h
  cases j with
  | zero=>
   have hp:0<s.keys.length:=List.length_pos_iff.2 (hk s (by simp))
   have hm:=Nat.mod_lt (decK L i).2 hp
   simp only [decK,List.getElem?_cons_zero,Option.some.injEq] at h
   rw [List.getElem?_eq_getElem hm,Option.getD_some] at h
   exact ⟨s,rfl,by rw [<-h];exact List.getElem_mem hm⟩
  | succ j=>
   simp only [decK,List.getElem?_cons_succ] at h⊢
   exact ih (fun t ht=>hk t (by simp [ht])) j k h
theorem decK_short {L:List Sel} (hk:∀s∈L,s.keys≠[]) {M:Nat} (hl:∀s∈L,∀k∈s.keys,k.length<=M) (i:Nat):∀k∈(decK L i).1,k.length<=M:=by
 intro k hm
 obtain ⟨j,hj⟩:=List.getElem?_of_mem hm
 obtain ⟨s,hs,hmem⟩:=decK_at L hk i j k hj
 exact hl s (List.mem_of_getElem? hs) k hmem
theorem frz_box {W0:World} {nt n n' e sz:Nat} {env env':Env} {τ:Sto} {rid kid:Id} {A es:List V} (hrk:rid≠kid) (hτ:lk τ kid=none) (hok:∀y∈es,y.ok=true) (henv:∀s,get env' s=get env s\/get env' s = .any) (hn:n<=n') :
  StLe W0 nt ⟨env,(rid,.box (.agg (A++[.arr kid])))::(kid,.arr e sz es)::τ,n⟩ ⟨env',(rid,.box (.agg (A++[.sl es])))::τ,n'⟩:=by
 refine StLe.weak (fun i=>if i=kid then some es else none) (fun i es' h=>?_) (fun s=>?_) (fun i e' h=>?_) hn
 ·split at h
  ·rename_i hi;subst hi;cases h
   simp only [lk,if_neg hrk]
   exact ⟨⟨e,sz,by simp⟩,hτ⟩
  ·cases h
 ·rcases henv s with h|h
  ·rw [h];exact .refl _
  ·rw [h];exact .any _
 ·simp only [lk] at h⊢
  by_cases hi:rid=i
  ·rw [if_pos hi] at h⊢
   cases h
   refine ⟨_,rfl,.box _ _ (.agg _ _ (by simp) fun k c c' h1 h2=>?_) (by simp [cells]) rfl rfl⟩
   by_cases hk:k<A.length
   ·rw [List.getElem?_append_left hk] at h1 h2
    rw [h1] at h2;cases h2;exact .refl _
   ·rw [List.getElem?_append_right (by omega)] at h1 h2
    cases hq:k-A.length with
    | zero=>
     rw [hq] at h1 h2
     simp at h1 h2
     subst h1 h2
     refine .arr kid es es (by simp) rfl (fun k c c' h1 h2=>?_) (fun k c c' h1 h2=>?_)
     ·rw [h1] at h2;cases h2;exact .refl _
     ·rw [h1] at h2;cases h2
      have:=hok c (List.mem_of_getElem? h1)
      exact ⟨rfl,this,this⟩
    | succ q=>rw [hq] at h1;simp at h1
  ·rw [if_neg hi] at h⊢
   have hne:kid≠i:=by rintro rfl;rw [hτ] at h;cases h
   rw [if_neg hne]
   exact ⟨_,h,.refl _⟩
abbrev FormP:=List Sel × List (List Part)
def vEnc (v:List Part):V:=.sl (v.map Part.enc)
def formV (f:FormP):V:=.agg [.sl (f.1.map Sel.enc),.sl (f.2.map vEnc)]
theorem okV (l:List (List Part)):∀y∈l.map vEnc,y.ok=true:=by
 intro y hy;obtain ⟨x,_,rfl⟩:=List.mem_map.1 hy;rfl
def varsOf (pkf:List Bytes->Pick) (L:List Sel) (ps:List Part) (n:Nat):List (List Part):=(List.range n).map fun i=>resPs (pkf (decK L i).1) [] ps []
def flatP (l:Loc) (ps:List Part):FormP × Int:=
 if !validP ps then (([],[]),1)
 else if decide ((combP 1 (selsP ps):Int)>400) then (([],[]),6)
 else if !rulesF [] l.card||!rulesF [] l.ord then (([],[]),18)
 else ((selsP ps,varsOf (pkP l (selsP ps)) (selsP ps) ps (combP 1 (selsP ps))),0)
theorem finForm {W0:World} {nt n:Nat} {env:Env} {σ:Sto} {id:Id} {u:V} {f:FormP} {e:Int} (h4:get env 4 = .ref id 0) (h5:get env 5 = .i .i64 e) (hu:lk σ id=some (.box u)) (φ:Id->Option (List V)) (hφ:∀i es,φ i=some es->(∃e sz,lk σ i=some (.arr e sz es))/\i≠id)
  (hv:VLe φ u (formV f)) (hl:(cells u).length=2) (ho:u.ok=true):FinW W0 nt [.c 4 2 true,.t 5] [formV f,.i .i64 e] [] .ret ⟨env,σ,n⟩:=by
 refine ⟨⟨[(4,.ref id 0),(5,.i .i64 e)],[(id,.box (formV f))],n⟩,StLe.weak φ (fun i es h=>?_) (fun t=>?_) (fun i e' h=>?_) (Nat.le_refl _),⟨⟨id,0,formV f,rfl,by simp [lk],rfl⟩,rfl,trivial⟩,fun _ _ h=>by cases h⟩
 ·obtain ⟨a,b⟩:=hφ i es h
  exact ⟨a,by simp only [lk];rw [if_neg (fun he=>b he.symm)]⟩
 ·by_cases ht:4=t
  ·subst ht;rw [h4];exact .refl _
  ·by_cases ht5:5=t
   ·subst ht5;rw [h5];exact .refl _
   ·simp only [get,if_neg ht,if_neg ht5];exact .any _
 ·simp only [lk] at h
  split at h
  ·rename_i he;subst he;cases h
   exact ⟨_,hu,.box _ _ hv (by rw [hl];rfl) ho rfl⟩
  ·cases h
theorem vle_err (φ:Id->Option (List V)):VLe φ (.agg [.nil,.nil]) (formV ([],[])):=by
 refine .agg _ _ rfl fun k c c' h1 h2=>?_
 match k with
 | 0=>simp at h1 h2;subst h1 h2;exact .nil
 | 1=>simp at h1 h2;subst h1 h2;exact .nil
 | k+2=>simp at h1
theorem vle_form {φ:Id->Option (List V)} (L:List Sel) (V0:List (List Part)) (vo:Option Id) (hn:vo=none->V0=[]) (hφ:∀id,vo=some id->φ id=some (V0.map vEnc)):VLe φ (.agg [.sl (L.map Sel.enc),sv vo]) (formV (L,V0)):=by
 refine .agg _ _ rfl fun k c c' h1 h2=>?_
 match k with
 | 0=>simp at h1 h2;subst h1 h2;exact .refl _
 | 1=>
  simp at h1 h2;subst h1 h2
  cases vo with
  | none=>rw [hn rfl];exact .nil
  | some id=>
   refine .arr id _ _ (hφ id rfl) rfl (fun k c c' h1 h2=>?_) (fun k c c' h1 h2=>?_)
   ·rw [h1] at h2;cases h2;exact .refl _
   ·rw [h1] at h2;cases h2
    have:=okV _ c (List.mem_of_getElem? h1)
    exact ⟨rfl,this,this⟩
 | k+2=>simp at h1
def TVs:Nat:=31
def vS (vo:Option Id) (V0:List (List Part)):Sto:=match vo with
 | none=>[]
 | some id=>[(id,.arr TVs 1 (V0.map vEnc))]
set_option maxHeartbeats 4000000 in
theorem c_Flat (l:Loc) (ps:List Part) (hr:(Loc.enc l).ok=true) (hrl:l.rest.length=11) (hb:wtRules l.card+wtRules l.ord<=2^24) (hw:wtPs ps<=2^24)
  (hL:(selsP ps).length<=2^26) (hk:∀s∈selsP ps,s.keys≠[]/\s.keys.length<=2^26) (hkl:∀s∈selsP ps,∀k∈s.keys,k.length<=2^30) (hok:validP ps=true->allPs (resOk (selsP ps)) ps) :
  RetS Tryz.prog W0 11 [l.enc,.sl (ps.map Part.enc)] [] (.tup [formV (flatP l ps).1,.i .i64 (flatP l ps).2]) []:=by
 have hva:=c_Valid W0 ps hw
 have hse:=c_selectors W0 ps hw
 generalize hS:flatP l ps=S
 obtain ⟨S1,S2⟩:=S
 unfold flatP at hS
 generalize hLL:selsP ps=L at *
 have hco:=c_comb W0 L (by omega) (fun s hs=>by have:=(hk s hs).2;omega)
 have hv1:=c_pValid W0 l.card (by omega)
 have hv2:=c_pValid W0 l.ord (by omega)
 obtain ⟨r1,r2,r3,r4,r5,r6,r7,r8,r9,r10,r11,hrest⟩:=rest11 hrl
 have hLV:l.enc = .agg [.s l.tag,.s l.parent,.s l.dir,.sl (l.card.map Rule.enc),.sl (l.ord.map Rule.enc),r1,r2,r3,r4,r5,r6,r7,r8,r9,r10,r11]:=by
  rw [Loc.enc_eq,hrest]
 have hRV:∀KS:List Bytes,rV l L KS = .agg [.s l.tag,.s l.parent,.s l.dir,.sl (l.card.map Rule.enc),.sl (l.ord.map Rule.enc),r1,r2,r3,r4,r5,r6,r7,r8,r9,r10,r11,.sl (L.map Sel.enc),.sl (KS.map V.s)]:=fun KS=>by unfold rV;rw [hrest];rfl
 rw [hLV]
 refine fn_retW (vs:=[formV S1,.i .i64 S2]) f11ok (by simp) (by simp) fun n0 hn0=>?_
 clear hn0
 generalize hVB:validP ps=VB at *
 cases VB with
 | false=>
  simp only [Bool.not_false,if_true] at hS
  cases hS
  simp only [push_cast,seval,reduceEqDiff]
  repeat' (first|(((first|apply condU_s|apply gdU_t|apply gdU_f)<;>intro _h)<;>simp only [push_cast,seval,reduceEqDiff,_h])|(refine c_call (by exact hva) ?_;simp only [push_cast,seval,reduceEqDiff])|intro _)
  exact finForm (u:=.agg [.nil,.nil]) (f:=([],[])) rfl rfl (by simp [lk]) (fun _=>none) (fun _ _ h=>by cases h) (vle_err _) rfl rfl
 | true=>
  simp only [Bool.not_true,if_false,Bool.false_eq_true] at hS
  have hok:=hok rfl
  generalize hNN:combP 1 L=NN at *
  by_cases h4:(NN:Int)>400
  ·have h4':decide ((NN:Int)>400)=true:=by simpa using h4
   rw [h4',if_pos rfl] at hS
   cases hS
   simp only [push_cast,seval,reduceEqDiff,h4']
   repeat' (first|(((first|apply condU_s|apply gdU_t|apply gdU_f)<;>intro _h)<;>simp only [push_cast,seval,reduceEqDiff,_h,h4'])|((first|refine c_call (by exact hva) ?_|refine c_call (by exact hse) ?_|refine c_call (by exact hco) ?_);simp only [push_cast,seval,reduceEqDiff,h4'])|intro _)
   exact finForm (u:=.agg [.nil,.nil]) (f:=([],[])) rfl rfl (by simp [lk]) (fun _=>none) (fun _ _ h=>by cases h) (vle_err _) rfl rfl
  ·have h4':decide ((NN:Int)>400)=false:=by simpa using h4
   rw [h4',if_neg (by simp)] at hS
   cases hq1:rulesF [] l.card with
   | false=>
    rw [hq1] at hv1 hS
    simp only [bq,if_true,if_false,Int.reduceBEq,reduceCtorEq] at hS
    cases hS
    simp only [push_cast,seval,reduceEqDiff,h4']
    repeat' (first|(((first|apply condU_s|apply gdU_t|apply gdU_f)<;>intro _h)<;>simp only [push_cast,seval,reduceEqDiff,_h,h4'])|((first|refine c_call (by exact hva) ?_|refine c_call (by exact hse) ?_|refine c_call (by exact hco) ?_|refine c_call (by exact hv1) ?_);simp only [push_cast,seval,reduceEqDiff,h4'])|intro _)
    exact finForm (u:=.agg [.nil,.nil]) (f:=([],[])) rfl rfl (by simp [lk]) (fun _=>none) (fun _ _ h=>by cases h) (vle_err _) rfl rfl
   | true=>
   cases hq2:rulesF [] l.ord with
   | false=>
    rw [hq1] at hv1
    rw [hq2] at hv2
    rw [hq1,hq2] at hS
    simp only [bq,if_true,if_false,Int.reduceBEq,reduceCtorEq] at hS
    cases hS
    simp only [push_cast,seval,reduceEqDiff,h4']
    repeat' (first|(((first|apply condU_s|apply gdU_t|apply gdU_f)<;>intro _h)<;>simp only [push_cast,seval,reduceEqDiff,_h,h4'])|((first|refine c_call (by exact hva) ?_|refine c_call (by exact hse) ?_|refine c_call (by exact hco) ?_|refine c_call (by exact hv1) ?_|refine c_call (by exact hv2) ?_);simp only [push_cast,seval,reduceEqDiff,h4'])|intro _)
    exact finForm (u:=.agg [.nil,.nil]) (f:=([],[])) rfl rfl (by simp [lk]) (fun _=>none) (fun _ _ h=>by cases h) (vle_err _) rfl rfl
   | true=>
    rw [hq1] at hv1
    rw [hq2] at hv2
    rw [hq1,hq2] at hS
    simp only [bq,if_true,if_false,Int.reduceBEq,reduceCtorEq] at hS
    cases hS
    simp only [push_cast,seval,reduceEqDiff,h4']
    repeat' (first|(((first|apply condU_s|apply gdU_t|apply gdU_f)<;>intro _h)<;>simp only [push_cast,seval,reduceEqDiff,_h,h4'])|((first|refine c_call (by exact hva) ?_|refine c_call (by exact hse) ?_|refine c_call (by exact hco) ?_|refine c_call (by exact hv1) ?_|refine c_call (by exact hv2) ?_);simp only [push_cast,seval,reduceEqDiff,h4'])|intro _)
    rename_i k1 k2 k3 k4 k5 k6 k7
    have hm1:n0<n0+1+k1+1+k2/\n0+1+k1+1+k2<n0+1+k1+1+k2+1+k3+1+k4+1+k5+1+k6+1+k7:=by omega
    generalize n0+1+k1+1+k2+1+k3+1+k4+1+k5+1+k6+1+k7=n1 at *
    generalize n0+1+k1+1+k2=m1 at *
    have hN4:NN<=400:=by omega
    generalize hLC:V.agg [.s l.tag,.s l.parent,.s l.dir,.sl (l.card.map Rule.enc),.sl (l.ord.map Rule.enc),r1,r2,r3,r4,r5,r6,r7,r8,r9,r10,r11]=LC
    have hi1:NN-0=NN:=by omega
    refine aWP_loopW NN (Inv:=fun m st=>∃i n vo,i<=NN/\m=NN-i/\(vo=none->i=0)/\(∀id,vo=some id->m1<id.1/\id.1<n)/\m1<n/\st=⟨[(1,.sl (ps.map Part.enc)),(2,.ref (n0,2) 0),(4,.ref (n0,4) 0),(6,.ref (m1,6) 0),(37,.i .i64 NN),(38,.i .i64 i)],((m1,6),.box (.agg [.sl (L.map Sel.enc),sv vo]))::(vS vo (varsOf (pkP l L) L ps i)++[((n0,4),.box (.agg [.nil,.nil])),((n0,2),.box LC)]),n⟩) ⟨_,StLe.refl,0,n1,none,Nat.zero_le _,hi1.symm,fun _=>rfl,(fun _ h=>by cases h),hm1.2,rfl⟩ ?_
    clear hi1
    rintro m _ ⟨i,n,vo,hi,rfl,hvo,hvi2,hmn,rfl⟩
    have f1:∀k j:Nat,((n+1+k,j)=(m1,6))=False:=fun k j=>eq_false fun he=>by injection he with h1 h2;omega
    have f2:∀k j q:Nat,((n+1+k,j)=(n0,q))=False:=fun k j q=>eq_false fun he=>by injection he with h1 h2;omega
    have f3:∀q:Nat,((m1,6)=(n0,q))=False:=fun q=>eq_false fun he=>by injection he with h1 h2;omega
    have f3':∀q:Nat,((n0,q)=(m1,6))=False:=fun q=>eq_false fun he=>of_eq_false (f3 q) he.symm
    have f1':∀k j:Nat,((m1,6)=(n+1+k,j))=False:=fun k j=>eq_false fun he=>of_eq_false (f1 k j) he.symm
    have f2':∀k j q:Nat,((n0,q)=(n+1+k,j))=False:=fun k j q=>eq_false fun he=>of_eq_false (f2 k j q) he.symm
    by_cases hlt:i<NN
    ·have hlt':decide ((i:Int)<(NN:Int))=true:=by simpa using hlt
     have hkeys:=decK_short (L:=L) (fun s hs=>(hk s hs).1) hkl i
     have hres:=fun rid=>c_resolve W0 l L (decK L i).1 rid hr hrl hb (by omega) (decK_len L i) hkeys _ ps [] (Nat.lt_succ_self _) hw hok
     have hvi:varsOf (pkP l L) L ps (i+1)=varsOf (pkP l L) L ps i++[resPs (pkP l L (decK L i).1) [] ps []]:=by
      unfold varsOf;rw [List.range_succ,List.map_append];rfl
     have hvl:(varsOf (pkP l L) L ps i).length=i:=by simp [varsOf]
     have hwi:IntKind.i64.wrap ((i:Int)+1)=((i+1:Nat):Int):=by rw [wrap64 (by omega) (by omega)];simp
     have hwL:IntKind.i64.wrap ((L.length:Int)-1)=(L.length:Int)-1:=by simp (disch:=omega) only [wrap64]
     have hLL1:((L.length:Int)<=(L.length:Int)/\(L.length:Int)<=(LLim:Int))=True:=eq_true ⟨Int.le_refl _,by unfold LLim;omega⟩
     have hrep:List.replicate L.length (V.s [])=(List.replicate L.length ([]:Bytes)).map V.s:=by simp
     have hVn:(varsOf (pkP l L) L ps i++[resPs (pkP l L (decK L i).1) [] ps []]).length<=LLim:=by rw [List.length_append,hvl];unfold LLim;simp;omega
     generalize resPs (pkP l L (decK L i).1) [] ps []=RV at *
     generalize hVSg:varsOf (pkP l L) L ps i=VS at *
     cases vo with
     | none=>
      have hi0:=hvo rfl
      have hvs:vS none VS=[]:=rfl
      have hsv:sv none = .nil:=rfl
      have hVS:VS=[]:=List.length_eq_zero_iff.1 (by omega)
      rw [hvs,List.nil_append,<-hLC]
      simp only [push_cast,seval,reduceEqDiff,hlt',f1,f2,f3,hsv,List.length_map,hwL,hLL1,hrep]
      intros
      rename_i b1 b2 b3 b4 b5
      have hx:n<n+1+b1+1+b2/\n+1+b1+1+b2<n+1+b1+1+b2+1+b3+1+b4+1+b5:=by omega
      generalize n+1+b1+1+b2+1+b3+1+b4+1+b5=n3 at *
      generalize n+1+b1+1+b2=x0 at *
      have g1:∀j:Nat,((x0,j)=(m1,6))=False:=fun j=>eq_false fun he=>by injection he with h1 h2;omega
      have g1':∀j:Nat,((m1,6)=(x0,j))=False:=fun j=>eq_false fun he=>of_eq_false (g1 j) he.symm
      have g2:∀j q:Nat,((x0,j)=(n0,q))=False:=fun j q=>eq_false fun he=>by injection he with h1 h2;omega
      have g2':∀j q:Nat,((n0,q)=(x0,j))=False:=fun j q=>eq_false fun he=>of_eq_false (g2 j q) he.symm
      refine keys_loop W0 L hL hk i (by omega) _ _ _ (by simp) (g1 _) (g1 _) [.s l.tag,.s l.parent,.s l.dir,.sl (l.card.map Rule.enc),.sl (l.ord.map Rule.enc),r1,r2,r3,r4,r5,r6,r7,r8,r9,r10,r11] rfl _ _ _ _ _ _ _ _ _ ?_
      intro n2 hn2
      have hrx:=hres (x0,49)
      rw [hRV] at hrx
      generalize (decK L i).1=KS at *
      generalize (decK L i).2=KR at *
      simp only [push_cast,seval,reduceEqDiff,hlt',f1,f2,f3,hsv,List.length_map,hwL,hLL1,hrep]
      refine wkW_i (frz_box (rid:=(x0,49)) (kid:=(x0,47)) (A:=[.s l.tag,.s l.parent,.s l.dir,.sl (l.card.map Rule.enc),.sl (l.ord.map Rule.enc),r1,r2,r3,r4,r5,r6,r7,r8,r9,r10,r11,.sl (L.map Sel.enc)]) (by simp) (by simp [lk,g1',g2']) (fun y hy=>by obtain ⟨z,_,rfl⟩:=List.mem_map.1 hy;rfl) (fun s=>.inl rfl) (Nat.le_refl _)) ?_
      have e1:∀k j:Nat,((n2+1+k,j)=(m1,6))=False:=fun k j=>eq_false fun he=>by injection he with h1 h2;omega
      have e1':∀k j:Nat,((m1,6)=(n2+1+k,j))=False:=fun k j=>eq_false fun he=>of_eq_false (e1 k j) he.symm
      have e2:∀k j q:Nat,((n2+1+k,j)=(n0,q))=False:=fun k j q=>eq_false fun he=>by injection he with h1 h2;omega
      have e0:∀j:Nat,((n2,j)=(m1,6))=False:=fun j=>eq_false fun he=>by injection he with h1 h2;omega
      have e0':∀j:Nat,((m1,6)=(n2,j))=False:=fun j=>eq_false fun he=>of_eq_false (e0 j) he.symm
      have e3:∀j q:Nat,((n2,j)=(n0,q))=False:=fun j q=>eq_false fun he=>by injection he with h1 h2;omega
      have e4:∀j q:Nat,((n2,j)=(x0,q))=False:=fun j q=>eq_false fun he=>by injection he with h1 h2;omega
      simp only [push_cast,seval,reduceEqDiff,g1,g1',g2,g2',f3,f3',e0,e0',e1,e1',e2,e3,e4,List.length_map,hwi,eq_true (show 1<=LLim by decide)]
      refine c_callr hrx (fun i e h=>lk_app_left (τ:=[_,_,_]) h) ?_
      simp only [push_cast,seval,reduceEqDiff,g1,g1',g2,g2',f3,f3',e0,e0',e1,e1',e2,e3,e4,List.length_map,hwi,eq_true (show 1<=LLim by decide)]
      intros
      have hvs':vS (some (n2,88)) (varsOf (pkP l L) L ps (i+1))=[((n2,88),.arr TVs 1 [V.sl (RV.map Part.enc)])]:=by rw [hvi,hVS];rfl
      refine ⟨NN-(i+1),⟨_,[((m1,6),.box (.agg [.sl (L.map Sel.enc),.arr (n2,88)])),((n2,88),.arr TVs 1 [V.sl (RV.map Part.enc)]),((n0,4),.box (.agg [.nil,.nil])),((n0,2),.box (.agg [.s l.tag,.s l.parent,.s l.dir,.sl (l.card.map Rule.enc),.sl (l.ord.map Rule.enc),r1,r2,r3,r4,r5,r6,r7,r8,r9,r10,r11]))],_⟩,by omega,StLe.sub ?_ ?_ (Nat.le_refl _),i+1,_,some (n2,88),by omega,rfl,(fun h=>by cases h),?_,?_,by rw [hvs'];rfl⟩
      ·simp [g1,g2,e0,e3,e4,f3]
      ·intro p hp
       simp at hp⊢
       rcases hp with h|h|h|h<;>simp [h,TVs]
      ·intro id h;cases h;exact ⟨by simp only;omega,by simp only;omega⟩
      ·omega
     | some vid=>
      obtain ⟨hv1,hv2⟩:=hvi2 vid rfl
      have hsv:sv (some vid) = .arr vid:=rfl
      have hvs:vS (some vid) VS=[(vid,.arr TVs 1 (VS.map vEnc))]:=rfl
      have d1:∀k j:Nat,((n+1+k,j)=vid)=False:=fun k j=>eq_false fun he=>by rw [<-he] at hv2;simp at hv2;omega
      have d1':∀k j:Nat,(vid=(n+1+k,j))=False:=fun k j=>eq_false fun he=>of_eq_false (d1 k j) he.symm
      have d2:((m1,6)=vid)=False:=eq_false fun he=>by rw [<-he] at hv1;simp at hv1
      have d2':(vid=(m1,6))=False:=eq_false fun he=>of_eq_false d2 he.symm
      have d3:∀q:Nat,(vid=(n0,q))=False:=fun q=>eq_false fun he=>by rw [he] at hv1;simp at hv1;omega
      have d3':∀q:Nat,((n0,q)=vid)=False:=fun q=>eq_false fun he=>of_eq_false (d3 q) he.symm
      rw [hvs,<-hLC]
      simp only [push_cast,seval,reduceEqDiff,hlt',f1,f2,f3,hsv,List.length_map,hwL,hLL1,hrep,List.cons_append,List.nil_append,d1,d1',d2,d2',d3,d3']
      intros
      rename_i b1 b2 b3 b4 b5
      have hx:n<n+1+b1+1+b2/\n+1+b1+1+b2<n+1+b1+1+b2+1+b3+1+b4+1+b5:=by omega
      generalize n+1+b1+1+b2+1+b3+1+b4+1+b5=n3 at *
      generalize n+1+b1+1+b2=x0 at *
      have g1:∀j:Nat,((x0,j)=(m1,6))=False:=fun j=>eq_false fun he=>by injection he with h1 h2;omega
      have g1':∀j:Nat,((m1,6)=(x0,j))=False:=fun j=>eq_false fun he=>of_eq_false (g1 j) he.symm
      have g2:∀j q:Nat,((x0,j)=(n0,q))=False:=fun j q=>eq_false fun he=>by injection he with h1 h2;omega
      have g2':∀j q:Nat,((n0,q)=(x0,j))=False:=fun j q=>eq_false fun he=>of_eq_false (g2 j q) he.symm
      have g3:∀j:Nat,((x0,j)=vid)=False:=fun j=>eq_false fun he=>by rw [<-he] at hv2;simp at hv2;omega
      have g3':∀j:Nat,(vid=(x0,j))=False:=fun j=>eq_false fun he=>of_eq_false (g3 j) he.symm
      refine keys_loop W0 L hL hk i (by omega) _ _ _ (by simp) (g1 _) (g1 _) [.s l.tag,.s l.parent,.s l.dir,.sl (l.card.map Rule.enc),.sl (l.ord.map Rule.enc),r1,r2,r3,r4,r5,r6,r7,r8,r9,r10,r11] rfl _ _ _ _ _ _ _ _ _ ?_
      intro n2 hn2
      have hrx:=hres (x0,49)
      rw [hRV] at hrx
      generalize (decK L i).1=KS at *
      generalize (decK L i).2=KR at *
      simp only [push_cast,seval,reduceEqDiff,hlt',f1,f2,f3,hsv,List.length_map,hwL,hLL1,hrep,List.cons_append,List.nil_append,d1,d1',d2,d2',d3,d3']
      refine wkW_i (frz_box (rid:=(x0,49)) (kid:=(x0,47)) (A:=[.s l.tag,.s l.parent,.s l.dir,.sl (l.card.map Rule.enc),.sl (l.ord.map Rule.enc),r1,r2,r3,r4,r5,r6,r7,r8,r9,r10,r11,.sl (L.map Sel.enc)]) (by simp) (by simp [lk,g1',g2',g3']) (fun y hy=>by obtain ⟨z,_,rfl⟩:=List.mem_map.1 hy;rfl) (fun s=>.inl rfl) (Nat.le_refl _)) ?_
      have e0:∀j:Nat,((n2,j)=(m1,6))=False:=fun j=>eq_false fun he=>by injection he with h1 h2;omega
      have e0':∀j:Nat,((m1,6)=(n2,j))=False:=fun j=>eq_false fun he=>of_eq_false (e0 j) he.symm
      have e3:∀j q:Nat,((n2,j)=(n0,q))=False:=fun j q=>eq_false fun he=>by injection he with h1 h2;omega
      have e4:∀j q:Nat,((n2,j)=(x0,q))=False:=fun j q=>eq_false fun he=>by injection he with h1 h2;omega
      have e5:∀j:Nat,((n2,j)=vid)=False:=fun j=>eq_false fun he=>by rw [<-he] at hv2;simp at hv2;omega
      have hap:List.map vEnc VS++[V.sl (RV.map Part.enc)]=(VS++[RV]).map vEnc:=by simp [vEnc]
      rw [List.length_append,List.length_cons,List.length_nil] at hVn
      simp only [push_cast,seval,reduceEqDiff,g1,g1',g2,g2',g3,g3',f3,f3',d2,d2',d3,d3',e0,e0',e3,e4,e5,List.length_map,hwi,eq_true hVn,TVs,hap]
      refine c_callr hrx (fun i e h=>lk_app_left (τ:=[_,_,_,_]) h) ?_
      simp only [push_cast,seval,reduceEqDiff,g1,g1',g2,g2',g3,g3',f3,f3',d2,d2',d3,d3',e0,e0',e3,e4,e5,List.length_map,hwi,eq_true hVn,TVs,hap]
      intros
      have hvs':vS (some (n2,88)) (varsOf (pkP l L) L ps (i+1))=[((n2,88),.arr TVs 1 ((VS++[RV]).map vEnc))]:=by rw [hvi];rfl
      refine ⟨NN-(i+1),⟨_,[((m1,6),.box (.agg [.sl (L.map Sel.enc),.arr (n2,88)])),((n2,88),.arr TVs 1 ((VS++[RV]).map vEnc)),((n0,4),.box (.agg [.nil,.nil])),((n0,2),.box (.agg [.s l.tag,.s l.parent,.s l.dir,.sl (l.card.map Rule.enc),.sl (l.ord.map Rule.enc),r1,r2,r3,r4,r5,r6,r7,r8,r9,r10,r11]))],_⟩,by omega,StLe.sub ?_ ?_ (Nat.le_refl _),i+1,_,some (n2,88),by omega,rfl,(fun h=>by cases h),?_,?_,by rw [hvs'];rfl⟩
      ·simp [g1,g2,e0,e3,e4,f3]
      ·intro p hp
       simp at hp⊢
       rcases hp with h|h|h|h<;>simp [h,TVs]
      ·intro id h;cases h;exact ⟨by simp only;omega,by simp only;omega⟩
      ·omega
    ·have hie:i=NN:=by omega
     have hlt':decide ((i:Int)<(NN:Int))=false:=by simpa using hlt
     cases vo with
     | none=>
      have hi0:=hvo rfl
      have hV0:varsOf (pkP l L) L ps i=[]:=by rw [hi0];rfl
      have hvs:vS none (varsOf (pkP l L) L ps i)=[]:=rfl
      have hsv:sv none = .nil:=rfl
      rw [hvs,List.nil_append]
      simp only [push_cast,seval,reduceEqDiff,hlt',f3,f3',hsv]
      intros
      rw [<-hie,hV0]
      exact finForm (u:=.agg [.sl (L.map Sel.enc),.nil]) (f:=(L,[])) rfl rfl (by simp [lk,f3]) (fun _=>none) (fun _ _ h=>by cases h) (vle_form L [] none (fun _=>rfl) (fun _ h=>by cases h)) rfl rfl
     | some vid=>
      obtain ⟨hv1,hv2⟩:=hvi2 vid rfl
      have hsv:sv (some vid) = .arr vid:=rfl
      have hvs:vS (some vid) (varsOf (pkP l L) L ps i)=[(vid,.arr TVs 1 ((varsOf (pkP l L) L ps i).map vEnc))]:=rfl
      have d2:((m1,6)=vid)=False:=eq_false fun he=>by rw [<-he] at hv1;simp at hv1
      have d2':(vid=(m1,6))=False:=eq_false fun he=>of_eq_false d2 he.symm
      have d3:∀q:Nat,(vid=(n0,q))=False:=fun q=>eq_false fun he=>by rw [he] at hv1;simp at hv1;omega
      have d3':∀q:Nat,((n0,q)=vid)=False:=fun q=>eq_false fun he=>of_eq_false (d3 q) he.symm
      rw [hvs]
      simp only [push_cast,seval,reduceEqDiff,hlt',f3,f3',hsv,d2,d2',d3,d3',List.cons_append,List.nil_append]
      intros
      rw [<-hie]
      generalize varsOf (pkP l L) L ps i=VS at *
      refine finForm (u:=.agg [.sl (L.map Sel.enc),.arr vid]) (f:=(L,VS)) rfl rfl (by simp [lk,f3,d3]) (fun j=>if j=vid then some (VS.map vEnc) else none) (fun j es h=>?_) (vle_form L VS (some vid) (fun h=>by cases h) (fun id h=>by cases h;simp)) rfl rfl
      split at h
      ·rename_i he;subst he;cases h
       exact ⟨⟨TVs,1,by simp [lk,d2]⟩,fun he=>of_eq_false (d3 _) he⟩
      ·cases h
end Go.Ir
