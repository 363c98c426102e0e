/-
  Contracts: Sound, of the program.
  Contracts: awake, and the law VariantsFlat.
  What a flat form has: its variants have neither selections ..
  The flat form of a message that the check accepts is sound.
  Flat forms: what the law VariantsPlain asks, in plain Lean.
  Shapes, leaves and what is built of them, as plain Lean ..
  Shapes of messages that the check accepts are such
  The paths of leaves are different
  How many leaves a message of a shape takes, and its weight
  The IR of functions of the program, printed by our own tool
  Contracts: within and shape, of the program.
  Contracts: the builder of the program.
  Contracts: values
  Contracts: the index of the key that a value chooses, of ..
  Contracts: Value of the reference, Select of both sides.
  Contracts: Sound and Select, of the reference.
  Contracts: FewForm
  Contract: form of the law's package.
  Contract: the law VariantsSelect.
  Inputs that are forms or values.
  Signatures of messages as plain Lean data
  Contracts: types of arguments (known, Common, accepts), ..
  Contract: signature.use.
  Contracts: the table of arguments (add, walk).
  DERIVED: THE SHELF's CONTRACTS AT THIS DUMP, IN PLAIN WORDS ..
  slices.Sorted of maps.Keys, at a map of strings to ints.
  Contracts: table.args, Infer.
  Contract: the law VariantsOne.
-/
import Derived.Test.YtgkmbjojkihbmaaGreatDoorEad
import Derived.Shelf.SlIter.Nil
import Derived.Shelf.SortM.Plain
import Derived.Shelf.SortM.SortNone
import Derived.Ground.GgzProg
import Derived.Ground.SlgmProg
set_option linter.all false
set_option linter.defProp false
set_option linter.unusedSimpArgs false
set_option linter.unusedVariables false
open Nat (reduceEqDiff)
namespace Go.Ir
open Go.Proofs
variable (W0 : World)
def nodupK:List Bytes->List Bytes->Bool
 | _,[]=>true
 | d,k::r=>!d.contains k&&nodupK (d++[k]) r
def lastOther (l:List Bytes):Bool:=match l.getLast? with
 | none=>false
 | some k=>k == kOtherS
def headS (s:Sel):Bool:=selB s.kind&&(nameB s.name&&lastOther s.keys)
def soundGo:List Sel->List Sel->Bool
 | _,[]=>true
 | d,s::r=>headS s&&(nodupK [] s.keys&&(!d.any (selIs s.kind s.name)&&soundGo (d++[s]) r))
def soundP (f:FormP):Bool:=soundGo [] f.1&&(decide ((combP 1 f.1:Int)<=400)&&((f.2.length:Int) == (combP 1 f.1:Int)))
theorem elSel (s:Sel):ElOk true 3 s.enc:=elOk_agg rfl
theorem ifSel:okFn Tryz.prog 97 19 (gIF_0 96 3 true) gIFR=true:=by kernel_rfl
theorem cfSel:okFn Tryz.prog 85 9 (gCF_0 97) gCFR=true:=by kernel_rfl
theorem anySel {l:List Sel} {g:FuncId} {first caps:List V} {σ:Sto} {p:Sel->Bool} (hl:l.length<2^62) (hg:∀x∈l,RetS Tryz.prog W0 g (first++[x.enc]++caps) σ (.b (p x)) σ) :
  RetS Tryz.prog W0 85 [.sl (l.map Sel.enc),.fn g first caps] σ (.b (l.any p)) σ:=by
 rw [<-idxI_ge]
 exact containsFunc_ret W0 cfSel _ _ _ _ (indexFunc_ret W0 ifSel Sel.enc l p g first caps σ (fun x _=>elSel x) hg hl)
theorem c_sound1 (t s:Sel) (sid:Id) (σ:Sto) (hs:lk σ sid=some (.box (.agg [.i .i64 s.kind,.s s.name,.sl (s.keys.map V.s)]))):RetS Tryz.prog W0 86 [t.enc,.ref sid 0] σ (.b (selIs s.kind s.name t)) σ:=by
 generalize hS:selIs s.kind s.name t=S
 unfold selIs at hS
 refine fn_retW (vs:=[.b S]) f86ok (by simp) (fun _ h=>h) fun n0 hn0=>?_
 have h1:∀j,((n0,j)=sid)=False:=fun j=>ne_idx (hn0 _ _ hs)
 simp only [push_cast,seval,reduceEqDiff,h1,hs]
 repeat' (first|(((first|apply condU_s|apply gdU_t|apply gdU_f)<;>intro _h)<;>simp only [push_cast,seval,reduceEqDiff,_h,h1,hs])|intro _)
 all_goals subst hS
 all_goals (refine finW_retS (by simp [get, *]) (fun i e h=>lk_fresh (hn0 i e h) h))
theorem last_cases (l:List Bytes):(l=[]/\lastOther l=false)\/∃d k,l=d++[k]/\lastOther l=(k == kOtherS):=by
 rcases List.eq_nil_or_concat l with h|⟨d,k,h⟩
 ·left;subst h;exact ⟨rfl,rfl⟩
 ·right;refine ⟨d,k,by rw [h,List.concat_eq_append],?_⟩
  subst h;rw [List.concat_eq_append];simp [lastOther]
set_option maxHeartbeats 4000000 in
theorem c_Sound (f:FormP) (h1:f.1.length<=2^26) (hk:∀s∈f.1,s.keys.length<=2^26/\s.name.length<=2^30):RetS Tryz.prog W0 42 [formV f] [] (.b (soundP f)) []:=by
 obtain ⟨L,VS⟩:=f
 simp only at h1 hk
 have hco:=c_comb W0 L (by omega) (fun s hs=>by have:=(hk s hs).1;omega)
 unfold soundP formV
 simp only
 generalize combP 1 L=CB at *
 generalize hT:(decide ((CB:Int)<=400)&&((VS.length:Int) == (CB:Int)))=T
 generalize hS:(soundGo [] L&&T)=S
 refine fn_retW (vs:=[.b S]) f42ok (by simp) (by simp) fun n0 hn0=>?_
 clear hn0
 simp only [push_cast,seval,reduceEqDiff,List.length_map]
 intros
 refine aWP_loopW L.length (Inv:=fun m st=>∃done rest n,L=done++rest/\m=rest.length/\(soundGo done rest&&T)=S/\n0<n/\st=⟨[(1,.ref (n0,1) 0),(9,.sl (L.map Sel.enc)),(10,.i .i64 L.length),(11,.i .i64 done.length)],[((n0,1),.box (.agg [.sl (L.map Sel.enc),.sl (VS.map vEnc)]))],n⟩) ⟨_,StLe.refl,[],L,_,rfl,rfl,hS,by (try simp only);omega,rfl⟩ ?_
 clear hS
 rintro m _ ⟨done,rest,n,hz,rfl,hd,hn,rfl⟩
 cases rest with
 | nil=>
  have hlt0:decide ((done.length:Int)<(L.length:Int))=false:=by rw [hz];simp
  rw [soundGo,Bool.true_and] at hd
  subst hd
  simp only [push_cast,seval,reduceEqDiff,hlt0,List.length_map]
  repeat' (first|(((first|apply condU_s|apply gdU_t|apply gdU_f)<;>intro _h)<;>simp only [push_cast,seval,reduceEqDiff,_h,hlt0,List.length_map])|(refine c_call (by exact hco) ?_;simp only [push_cast,seval,reduceEqDiff,hlt0,List.length_map])|intro _)
  all_goals (refine finW_ret ?_;simp only [<-hT];simp [get, *])
 | cons s rest=>
  have hlt0:decide ((done.length:Int)<(L.length:Int))=true:=by rw [hz];simp;omega
  have hbd:=zip_bd hz
  obtain ⟨hks,hns⟩:=hk s (by rw [hz];simp)
  have hget:(L.map Sel.enc)[done.length]? = some s.enc:=by rw [hz,List.getElem?_map,List.getElem?_append_right (by simp)];simp
  have hsel:=c_sSel W0 s.kind
  have hnm:=c_tName W0 s.name (by unfold SLim;omega)
  rw [soundGo] at hd
  unfold headS at hd
  have f1:∀k j q:Nat,((n+1+k,j)=(n0,q))=False:=fun k j q=>eq_false fun he=>by injection he with h1 h2;omega
  have f1':∀k j q:Nat,((n0,q)=(n+1+k,j))=False:=fun k j q=>eq_false fun he=>of_eq_false (f1 k j q) he.symm
  cases hs:selB s.kind with
  | false=>
   rw [hs] at hd hsel
   simp only [Bool.false_and] at hd
   subst hd
   simp only [push_cast,seval,reduceEqDiff,hlt0,hget,if_pos hbd,f1,f1',List.length_map]
   repeat' (first|(((first|apply condU_s|apply gdU_t|apply gdU_f)<;>intro _h)<;>simp only [push_cast,seval,reduceEqDiff,_h,hlt0,hget,if_pos hbd,f1,f1',List.length_map])|(refine c_call (by exact hsel) ?_;simp only [push_cast,seval,reduceEqDiff,hlt0,hget,if_pos hbd,f1,f1',List.length_map])|intro _)
   exact finW_ret (by simp [get])
  | true=>
  cases hm:nameB s.name with
  | false=>
   rw [hs] at hd hsel
   rw [hm] at hd hnm
   simp only [Bool.false_and,Bool.true_and] at hd
   subst hd
   simp only [push_cast,seval,reduceEqDiff,hlt0,hget,if_pos hbd,f1,f1',List.length_map]
   repeat' (first|(((first|apply condU_s|apply gdU_t|apply gdU_f)<;>intro _h)<;>simp only [push_cast,seval,reduceEqDiff,_h,hlt0,hget,if_pos hbd,f1,f1',List.length_map])|((first|refine c_call (by exact hsel) ?_|refine c_call (by exact hnm) ?_);simp only [push_cast,seval,reduceEqDiff,hlt0,hget,if_pos hbd,f1,f1',List.length_map])|intro _)
   exact finW_ret (by simp [get])
  | true=>
  rw [hs] at hd hsel
  rw [hm] at hd hnm
  rcases last_cases s.keys with ⟨hk0,hlo⟩|⟨kd0,kl,hk0,hlo⟩
  ·rw [hlo] at hd
   simp only [Bool.false_and,Bool.true_and] at hd
   subst hd
   simp only [push_cast,seval,reduceEqDiff,hlt0,hget,if_pos hbd,f1,f1',List.length_map,hk0,List.map_nil,List.length_nil]
   repeat' (first|(((first|apply condU_s|apply gdU_t|apply gdU_f)<;>intro _h)<;>simp only [push_cast,seval,reduceEqDiff,_h,hlt0,hget,if_pos hbd,f1,f1',List.length_map,hk0,List.map_nil,List.length_nil])|((first|refine c_call (by exact hsel) ?_|refine c_call (by exact hnm) ?_);simp only [push_cast,seval,reduceEqDiff,hlt0,hget,if_pos hbd,f1,f1',List.length_map,hk0,List.map_nil,List.length_nil])|intro _)
   exact finW_ret (by simp [get])
  ·have hkl:s.keys.length=kd0.length+1:=by rw [hk0];simp
   have hne:((s.keys.length:Int) == 0)=false:=by rw [hkl];simp;omega
   have hw1:IntKind.i64.wrap ((s.keys.length:Int)-1)=(kd0.length:Int):=by rw [wrap64 (by omega) (by omega)];omega
   have hgl:(s.keys.map V.s)[kd0.length]? = some (.s kl):=by rw [hk0,List.getElem?_map];simp
   have hltk:kd0.length<s.keys.length:=by omega
   cases hlk:(kl == kOtherS) with
   | false=>
    have hbk:(kl == [111,116,104,101,114])=false:=hlk
    rw [hlo,hlk] at hd
    simp only [Bool.false_and,Bool.true_and] at hd
    subst hd
    simp only [push_cast,seval,reduceEqDiff,hlt0,hget,if_pos hbd,f1,f1',List.length_map,hne,hw1,hgl,if_pos hltk,hbk]
    repeat' (first|(((first|apply condU_s|apply gdU_t|apply gdU_f)<;>intro _h)<;>simp only [push_cast,seval,reduceEqDiff,_h,hlt0,hget,if_pos hbd,f1,f1',List.length_map,hne,hw1,hgl,if_pos hltk,hbk])|((first|refine c_call (by exact hsel) ?_|refine c_call (by exact hnm) ?_);simp only [push_cast,seval,reduceEqDiff,hlt0,hget,if_pos hbd,f1,f1',List.length_map,hne,hw1,hgl,if_pos hltk,hbk])|intro _)
    exact finW_ret (by simp [get])
   | true=>
    have hbk:(kl == [111,116,104,101,114])=true:=hlk
    rw [hlo,hlk] at hd
    simp only [Bool.true_and] at hd
    simp only [push_cast,seval,reduceEqDiff,hlt0,hget,if_pos hbd,f1,f1',List.length_map,hne,hw1,hgl,if_pos hltk,hbk]
    repeat' (first|(((first|apply condU_s|apply gdU_t|apply gdU_f)<;>intro _h)<;>simp only [push_cast,seval,reduceEqDiff,_h,hlt0,hget,if_pos hbd,f1,f1',List.length_map,hne,hw1,hgl,if_pos hltk,hbk])|((first|refine c_call (by exact hsel) ?_|refine c_call (by exact hnm) ?_);simp only [push_cast,seval,reduceEqDiff,hlt0,hget,if_pos hbd,f1,f1',List.length_map,hne,hw1,hgl,if_pos hltk,hbk])|intro _)
    rename_i b1 b2 b3 b4
    have hx:n<n+1+b1/\n+1+b1<n+1+b1+1+b2+1+b3+1+b4:=by omega
    generalize n+1+b1+1+b2+1+b3+1+b4=n2 at *
    generalize n+1+b1=x0 at *
    obtain ⟨hx1,hx2⟩:=hx
    have g1:∀j q:Nat,((x0,j)=(n0,q))=False:=fun j q=>eq_false fun he=>by injection he with h1 h2;omega
    have g1':∀j q:Nat,((n0,q)=(x0,j))=False:=fun j q=>eq_false fun he=>of_eq_false (g1 j q) he.symm
    clear hk0 hlo hkl hne hw1 hgl hltk hbk hlk hsel hnm f1 f1'
    refine aWP_loopW s.keys.length (Inv:=fun m st=>∃kd kr n,s.keys=kd++kr/\m=kr.length/\(nodupK kd kr&&(!done.any (selIs s.kind s.name)&&soundGo (done++[s]) rest)&&T)=S/\x0<n/\st=⟨[(1,.ref (n0,1) 0),(3,.i .i64 done.length),(4,.ref (x0,4) 0),(9,.sl (L.map Sel.enc)),(10,.i .i64 L.length),(11,.i .i64 done.length),(44,.sl (s.keys.map V.s)),(45,.i .i64 s.keys.length),(46,.i .i64 kd.length)],[((x0,4),.box (.agg [.i .i64 s.kind,.s s.name,.sl (s.keys.map V.s)])),((n0,1),.box (.agg [.sl (L.map Sel.enc),.sl (VS.map vEnc)]))],n⟩) ⟨_,StLe.refl,[],s.keys,_,rfl,rfl,hd,hx2,rfl⟩ ?_
    clear hd
    rintro m _ ⟨kd,kr,n3,hkz,rfl,hd,hn3,rfl⟩
    cases kr with
    | nil=>
     have hlt1:decide ((kd.length:Int)<(s.keys.length:Int))=false:=by rw [hkz];simp
     rw [nodupK,Bool.true_and] at hd
     have han:=anySel W0 (l:=done) (p:=selIs s.kind s.name) (σ:=[((x0,4),.box (.agg [.i .i64 s.kind,.s s.name,.sl (s.keys.map V.s)]))]) (first:=[]) (caps:=[.ref (x0,4) 0]) (by omega) (fun t _=>c_sound1 W0 t s (x0,4) _ (by simp [lk]))
     have htk:(if 0<=done.length/\done.length<=L.length then some (V.sl (List.take done.length (L.map Sel.enc))) else none)=some (V.sl (done.map Sel.enc)):=by
      rw [if_pos ⟨Nat.zero_le _,by omega⟩,hz];simp
     have hcel:∀y∈L.map Sel.enc,(cells y).length=3:=fun y hy=>by obtain ⟨x,_,rfl⟩:=List.mem_map.1 hy;rfl
     generalize hAN:done.any (selIs s.kind s.name)=AN at *
     cases AN with
     | true=>
      simp only [bq,if_true,if_false,Int.reduceBEq,reduceCtorEq] at hd
      subst hd
      simp only [push_cast,seval,reduceEqDiff,hlt1,List.length_map,g1,g1',htk,eq_true hcel]
      intros
      refine c_callr han (fun i e h=>lk_app_left (τ:=[_]) h) ?_
      simp only [push_cast,seval,reduceEqDiff,hlt1,List.length_map,g1,g1',htk,eq_true hcel]
      intros
      exact finW_ret (by simp [get])
     | false=>
      simp only [bq,if_true,if_false,Int.reduceBEq,reduceCtorEq] at hd
      simp only [push_cast,seval,reduceEqDiff,hlt1,List.length_map,g1,g1',htk,eq_true hcel,wrap_zip s (done:=done) (by omega)]
      intros
      refine c_callr han (fun i e h=>lk_app_left (τ:=[_]) h) ?_
      simp only [push_cast,seval,reduceEqDiff,hlt1,List.length_map,g1,g1',htk,eq_true hcel,wrap_zip s (done:=done) (by omega)]
      intros
      exact ⟨_,_,Nat.lt_succ_self _,StLe.drop1 (by simp [lk,g1']) (Nat.le_refl _),done++[s],rest,_,by rw [hz];simp,rfl,hd,by omega,rfl⟩
    | cons key kr=>
     have hlt1:decide ((kd.length:Int)<(s.keys.length:Int))=true:=by rw [hkz];simp;omega
     have hkb:=zip_bd hkz
     rw [nodupK] at hd
     have hgk:(s.keys.map V.s)[kd.length]? = some (.s key):=by rw [hkz,List.getElem?_map,List.getElem?_append_right (by simp)];simp
     have htk:(if 0<=kd.length/\kd.length<=s.keys.length then some (V.sl (List.take kd.length (s.keys.map V.s))) else none)=some (V.sl (kd.map V.s)):=by
      rw [if_pos ⟨Nat.zero_le _,by omega⟩,hkz];simp
     have hcel:∀y∈s.keys.map V.s,(cells y).length=1:=fun y hy=>by obtain ⟨x,_,rfl⟩:=List.mem_map.1 hy;rfl
     have hin:=c_containsS W0 kd key (by omega)
     cases hc:kd.contains key with
     | true=>
      rw [hc] at hd hin
      simp only [bq,if_true,if_false,Int.reduceBEq,reduceCtorEq] at hd
      subst hd
      simp only [push_cast,seval,reduceEqDiff,hlt1,List.length_map,g1,g1',htk,hgk,if_pos hkb,eq_true hcel]
      repeat' (first|(((first|apply condU_s|apply gdU_t|apply gdU_f)<;>intro _h)<;>simp only [push_cast,seval,reduceEqDiff,_h,hlt1,List.length_map,g1,g1',htk,hgk,if_pos hkb,eq_true hcel])|(refine c_call (by exact hin) ?_;simp only [push_cast,seval,reduceEqDiff,hlt1,List.length_map,g1,g1',htk,hgk,if_pos hkb,eq_true hcel])|intro _)
      exact finW_ret (by simp [get])
     | false=>
      rw [hc] at hd hin
      simp only [bq,if_true,if_false,Int.reduceBEq,reduceCtorEq] at hd
      simp only [push_cast,seval,reduceEqDiff,hlt1,List.length_map,g1,g1',htk,hgk,if_pos hkb,eq_true hcel,wrap_zip key (done:=kd) (by omega)]
      repeat' (first|(((first|apply condU_s|apply gdU_t|apply gdU_f)<;>intro _h)<;>simp only [push_cast,seval,reduceEqDiff,_h,hlt1,List.length_map,g1,g1',htk,hgk,if_pos hkb,eq_true hcel,wrap_zip key (done:=kd) (by omega)])|(refine c_call (by exact hin) ?_;simp only [push_cast,seval,reduceEqDiff,hlt1,List.length_map,g1,g1',htk,hgk,if_pos hkb,eq_true hcel,wrap_zip key (done:=kd) (by omega)])|intro _)
      exact ⟨_,_,Nat.lt_succ_self _,StLe.refl,kd++[key],kr,_,by rw [hkz];simp,rfl,hd,by omega,rfl⟩
theorem retS_weak {P:Program} {W0:World} {f:FuncId} {args args':List V} {σ σ':Sto} {v:V} (h:RetS P W0 f args' σ v σ') (hl:args.length=args'.length)
  (ha:∀(k:Nat) (a a':V),args[k]? = some a->args'[k]? = some a'->VLe (fun _=>none) a a'):RetS P W0 f args σ v σ' where
 callable:=h.callable
 dom:=h.dom
 run:=fun n w μ H vals hp hv=>h.run n w μ H vals hp ⟨by rw [<-hl];exact hv.len,fun k c x hc hx=>by
  have hk:k<args.length:=by rw [hl];exact (List.getElem?_eq_some_iff.1 hc).1
  have hg:args[k]? = some args[k]:=List.getElem?_eq_getElem hk
  exact VRel.le (fun _ _ h=>h) (fun _ _ h=>by cases h) (ha k _ _ hg hc) (hv.at_ k _ x hg hx)⟩
def VLs (φ:Id->Option (List V)):List V->List V->Prop
 | [],[]=>True
 | a::xs,b::ys=>(VLe φ a b/\(cells b).length=(cells a).length/\a.ok=true/\b.ok=true)/\VLs φ xs ys
 | _,_=>False
theorem VLs.at_ {φ:Id->Option (List V)}:∀{xs ys:List V},VLs φ xs ys->xs.length=ys.length/\∀(k:Nat) (c c':V),xs[k]? = some c->ys[k]? = some c'->VLe φ c c'/\(cells c').length=(cells c).length/\c.ok=true/\c'.ok=true
 | [],[],_=>⟨rfl,fun k c c' h=>by simp at h⟩
 | a::xs,b::ys,h=>by
  obtain ⟨h1,h2⟩:=h
  obtain ⟨h3,h4⟩:=VLs.at_ h2
  refine ⟨by simp [h3],fun k c c' hc hc'=>?_⟩
  cases k with
  | zero=>simp at hc hc';subst hc hc';exact h1
  | succ k=>exact h4 k c c' (by simpa using hc) (by simpa using hc')
theorem vle_slL {φ:Id->Option (List V)} {xs ys:List V} (h:VLs φ xs ys):VLe φ (.sl xs) (.sl ys):=.sl _ _ h.at_.1 (fun k c c' h1 h2=>(h.at_.2 k c c' h1 h2).1) (fun k c c' h1 h2=>(h.at_.2 k c c' h1 h2).2)
theorem vle_agL {φ:Id->Option (List V)} {xs ys:List V} (h:VLs φ xs ys):VLe φ (.agg xs) (.agg ys):=.agg _ _ h.at_.1 (fun k c c' h1 h2=>(h.at_.2 k c c' h1 h2).1)
def tA:Part:=⟨1,[97],[],[],[],[]⟩
def tX:Part:=⟨1,[120],[],[],[],[]⟩
def tC:Part:=⟨10,[],[],[],[],[]⟩
def awakeP:List Part:=[tA,⟨7,[],[110],[],[([111,110,101],[tX]),([111,116,104,101,114],[tC])],[]⟩]
def litT (k:Int) (t:Bytes):V:=.agg [.i .i64 k,.s t,.s [],.s [],.nil,.nil]
def awakeV:V:=.sl [litT 1 [97],.agg [.i .i64 7,.s [],.s [110],.s [],.sl [.agg [.s [111,110,101],.sl [litT 1 [120]]],.agg [.s [111,116,104,101,114],.sl [litT 10 []]]],.nil]]
theorem vle_lit (φ:Id->Option (List V)) (k:Int) (t:Bytes):VLe φ (litT k t) (Part.enc ⟨k,t,[],[],[],[]⟩):=by
 rw [Part.enc_eq]
 exact vle_agL ⟨⟨.refl _,rfl,rfl,rfl⟩,⟨.refl _,rfl,rfl,rfl⟩,⟨.refl _,rfl,rfl,rfl⟩,⟨.refl _,rfl,rfl,rfl⟩,⟨.nil,rfl,rfl,rfl⟩,⟨.nil,rfl,rfl,rfl⟩,trivial⟩
theorem vle_awake (φ:Id->Option (List V)):VLe φ awakeV (.sl (awakeP.map Part.enc)):=by
 have l1:∀k t,VLe φ (.sl [litT k t]) (.sl [Part.enc ⟨k,t,[],[],[],[]⟩]):=fun k t=>vle_slL ⟨⟨vle_lit φ k t,rfl,rfl,rfl⟩,trivial⟩
 refine vle_slL ⟨⟨vle_lit φ 1 [97],rfl,rfl,rfl⟩,⟨?_,rfl,rfl,rfl⟩,trivial⟩
 rw [Part.enc_eq]
 refine vle_agL ⟨⟨.refl _,rfl,rfl,rfl⟩,⟨.refl _,rfl,rfl,rfl⟩,⟨.refl _,rfl,rfl,rfl⟩,⟨.refl _,rfl,rfl,rfl⟩,⟨?_,rfl,rfl,rfl⟩,⟨.nil,rfl,rfl,rfl⟩,trivial⟩
 exact vle_slL ⟨⟨vle_agL ⟨⟨.refl _,rfl,rfl,rfl⟩,⟨l1 1 [120],rfl,rfl,rfl⟩,trivial⟩,rfl,rfl,rfl⟩,⟨vle_agL ⟨⟨.refl _,rfl,rfl,rfl⟩,⟨l1 10 [],rfl,rfl,rfl⟩,trivial⟩,rfl,rfl,rfl⟩,trivial⟩
theorem dec01:decN 0=[48]/\decN 1=[49]:=by constructor<;>(unfold decN Lib.decDigits;rfl)
def tP:Part:=⟨7,[],[110],[],[([111,110,101],[tX]),([111,116,104,101,114],[tC])],[]⟩
theorem awake_lvs:lvsPs awakeP [] 0 []=[([48],[tA]),([49,47,111,110,101,47,48],[tX]),([49,47,111,116,104,101,114,47,48],[tC]),([49],[])]:=by
 have s1:tA.solid=true:=rfl
 have s2:tP.solid=false:=rfl
 have s3:tX.solid=true:=rfl
 have s4:tC.solid=true:=rfl
 have l2:∀pa,tP.lvs pa=lvsCs [([111,110,101],[tX]),([111,116,104,101,114],[tC])] pa:=fun pa=>by rw [Part.lvs_eq];rfl
 show lvsPs [tA,tP] [] 0 []=_
 simp only [lvsPs_cons,s1,s2,s3,s4,if_true,if_false,Bool.false_eq_true,lvsPs_nil,l2,lvsCs_cons,lvsCs,Nat.zero_add,dec01.1,dec01.2]
 rfl
def loc0:Loc:=⟨[],[],[],[],[],[.s [],.s [],.s [],.s [],.i .i64 0,.i .i64 0,.nil,.nil,.nil,.nil,.nil]⟩
theorem awake_valid:validP awakeP=true:=by decide
theorem awake_flat:flatP loc0 awakeP=(([⟨7,[110],[[111,110,101],[111,116,104,101,114]]⟩],[[⟨1,[97,120],[],[],[],[]⟩],[tA,⟨3,[],[110],[],[],[]⟩]]),0):=by rfl
theorem c_FlatG (l:Loc) (ps:List Part) (hrl:l.rest.length=11) (hb:wtRules l.card+wtRules l.ord<=2^24) (hw:wtPs ps<=2^20) :
  RetS Tryz.prog W0 18 [l.enc,.sl (ps.map Part.enc)] [] (.tup [formV (flatP l ps).1,.i .i64 (flatP l ps).2]) []:=
 c_Flat W0 l ps rfl hrl hb (by omega) (by have:=sels_len ps;omega) (fun s hs=>by have:=sels_keys ps s hs;exact ⟨this.1,by omega⟩) (fun s hs k hk=>by have:=sels_klen ps s hs k hk;omega)
  (fun hv=>valid_ok (valid_wf (by rw [<-valid_same];exact hv)))
theorem c_awake:RetS Tryz.prog W0 15 [] [] (.b true) []:=by
 have hI:∀i:Nat,i<=99->RetS Tryz.prog W0 75 [.i .i64 i] [] (.s (decN i)) []/\(decN i).length<=20:=fun i hi=>by
  refine ⟨c_itoa W0 i (by omega),?_⟩
  unfold decN Lib.decDigits
  split
  ·simp
  ·unfold Lib.decDigits
   rw [dif_pos (by omega)]
   simp
 have hwt:wtPs awakeP<=99:=by decide
 have hlv:=c_Leaves W0 99 hI awakeP (by omega) (by omega) awake_valid
 rw [awake_lvs] at hlv
 have hlv2:RetS Tryz.prog W0 41 [awakeV] [] _ []:=retS_weak hlv rfl (fun k a a' h1 h2=>by
  match k with
  | 0=>simp at h1 h2;subst h1 h2;exact vle_awake _
  | k+1=>simp at h1)
 have hfl:=c_FlatG W0 loc0 awakeP rfl (by decide) (by omega)
 rw [awake_flat] at hfl
 have hfl2:RetS Tryz.prog W0 18 [.agg [.s [],.s [],.s [],.nil,.nil,.s [],.s [],.s [],.s [],.i .i64 0,.i .i64 0,.nil,.nil,.nil,.nil,.nil],awakeV] [] _ []:=retS_weak hfl rfl (fun k a a' h1 h2=>by
  match k with
  | 0=>
   simp only [List.getElem?_cons_zero,Option.some.injEq] at h1 h2;subst h1 h2
   exact vle_agL ⟨⟨.refl _,rfl,rfl,rfl⟩,⟨.refl _,rfl,rfl,rfl⟩,⟨.refl _,rfl,rfl,rfl⟩,⟨.nil,rfl,rfl,rfl⟩,⟨.nil,rfl,rfl,rfl⟩,⟨.refl _,rfl,rfl,rfl⟩,⟨.refl _,rfl,rfl,rfl⟩,⟨.refl _,rfl,rfl,rfl⟩,⟨.refl _,rfl,rfl,rfl⟩,⟨.refl _,rfl,rfl,rfl⟩,⟨.refl _,rfl,rfl,rfl⟩,⟨.refl _,rfl,rfl,rfl⟩,⟨.refl _,rfl,rfl,rfl⟩,⟨.refl _,rfl,rfl,rfl⟩,⟨.refl _,rfl,rfl,rfl⟩,⟨.refl _,rfl,rfl,rfl⟩,trivial⟩
  | 1=>simp only [List.getElem?_cons_zero,List.getElem?_cons_succ,Option.some.injEq] at h1 h2;subst h1 h2;exact vle_awake _
  | k+2=>simp at h1)
 have hso:=c_Sound W0 ([⟨7,[110],[[111,110,101],[111,116,104,101,114]]⟩],[[⟨1,[97,120],[],[],[],[]⟩],[tA,⟨3,[],[110],[],[],[]⟩]]) (by decide) (fun s hs=>by simp at hs;subst hs;decide)
 rw [show soundP ([⟨7,[110],[[111,110,101],[111,116,104,101,114]]⟩],[[⟨1,[97,120],[],[],[],[]⟩],[tA,⟨3,[],[110],[],[],[]⟩]])=true from rfl] at hso
 have hpl:=c_plain W0 _ [tA,⟨3,[],[110],[],[],[]⟩] (Nat.lt_succ_self _) (by decide)
 rw [show plainPs [tA,⟨3,[],[110],[],[],[]⟩]=true from rfl] at hpl
 have heq:=c_rEqual W0 _ [⟨1,[97,120],[],[],[],[]⟩] [⟨1,[97,120],[],[],[],[]⟩] (Nat.lt_succ_self _) (by decide)
 rw [eqPs_refl] at heq
 have heq2:RetS Tryz.prog W0 14 [.sl ([(⟨1,[97,120],[],[],[],[]⟩:Part)].map Part.enc),.sl [litT 1 [97,120]]] [] _ []:=retS_weak heq rfl (fun k a a' h1 h2=>by
  match k with
  | 0=>simp only [List.getElem?_cons_zero,Option.some.injEq] at h1 h2;subst h1 h2;exact .refl _
  | 1=>simp only [List.getElem?_cons_zero,List.getElem?_cons_succ,Option.some.injEq] at h1 h2;subst h1 h2;exact vle_slL ⟨⟨vle_lit _ _ _,rfl,rfl,rfl⟩,trivial⟩
  | k+2=>simp at h1)
 unfold formV at hfl2 hso
 simp only [List.map_cons,List.map_nil] at hlv2 hfl2 hso hpl heq2
 simp only [vEnc,List.map_cons,List.map_nil] at hfl2 hso
 generalize [Part.enc ⟨1,[97,120],[],[],[],[]⟩]=V0 at *
 generalize [tA.enc,Part.enc ⟨3,[],[110],[],[],[]⟩]=V1 at *
 generalize V.sl [Sel.enc ⟨7,[110],[[111,110,101],[111,116,104,101,114]]⟩]=SL at *
 rw [leafV_eq ([49,47,111,110,101,47,48],[tX])] at hlv2
 generalize leafV ([48],[tA])=L0 at *
 generalize leafV ([49,47,111,116,104,101,114,47,48],[tC])=L2 at *
 generalize leafV ([49],[])=L3 at *
 generalize V.sl (List.map Part.enc [tX])=LX at *
 unfold awakeV litT at hlv2 hfl2
 unfold litT at heq2
 clear hlv hfl heq hI hwt
 refine fn_retW (vs:=[.b true]) f15ok (by simp) (by simp) fun n0 hn0=>?_
 clear hn0
 simp only [push_cast,seval,reduceEqDiff,show (([49,47,111,110,101,47,48]:Bytes) == [49,47,111,110,101,47,48])=true from rfl]
 repeat' (first|(((first|apply condU_s|apply gdU_t|apply gdU_f)<;>intro _h)<;>simp only [push_cast,seval,reduceEqDiff,_h,show (([49,47,111,110,101,47,48]:Bytes) == [49,47,111,110,101,47,48])=true from rfl])|((first|refine c_call (by exact hlv2) ?_|refine c_call (by exact hfl2) ?_|refine c_call (by exact heq2) ?_|refine c_call (by exact hso) ?_|refine c_call (by exact hpl) ?_);simp only [push_cast,seval,reduceEqDiff,show (([49,47,111,110,101,47,48]:Bytes) == [49,47,111,110,101,47,48])=true from rfl])|intro _)
 all_goals (first|(refine finW_ret ?_;simp [get]<;>(intros;omega);done)|(refine finW_rets ?_;simp [push_cast,get];done)|skip)
theorem flatP_form (l:Loc) (ps:List Part):(flatP l ps).1=([],[])\/(validB ps=true/\combP 1 (selsP ps)<=400/\(flatP l ps).1=(selsP ps,varsOf (pkP l (selsP ps)) (selsP ps) ps (combP 1 (selsP ps)))):=by
 unfold flatP
 rw [valid_same]
 cases hv:validB ps with
 | false=>left;rfl
 | true=>
  simp only [Bool.not_true,Bool.false_eq_true,if_false]
  by_cases h:decide ((combP 1 (selsP ps):Int)>400)=true
  ·rw [if_pos h];left;rfl
  ·rw [if_neg h]
   split
   ·left;rfl
   ·right;refine ⟨trivial,?_,rfl⟩
    simp at h;omega
theorem flatP_bounds (l:Loc) (ps:List Part) (hw:wtPs ps<=2^20):(flatP l ps).1.1.length<=2^26/\(flatP l ps).1.2.length<=400/\(∀s∈(flatP l ps).1.1,s.keys.length<=2^26)/\∀v∈(flatP l ps).1.2,wtPs v<=2^19:=by
 rcases flatP_form l ps with h|⟨hv,hc,h⟩
 ·rw [h];exact ⟨by decide,by decide,(fun s (hs:s∈[])=>by cases hs),(fun v (hv:v∈[])=>by cases hv)⟩
 ·rw [h]
  refine ⟨by have:=sels_len ps;simp only;omega,by simp [varsOf];omega,fun s hs=>by have:=(sels_keys ps s hs).2;omega,fun v hm=>?_⟩
  obtain ⟨i,_,rfl⟩:=List.mem_map.1 hm
  exact vars_wt l hv _ _
end Go.Ir
namespace Go.Ir
structure Bare (p:Part):Prop where
 sel:selB p.kind=false
 ten:(p.kind == 10)=false
 cs:p.cases=[]
theorem allPs_app (f:Part->Prop) (a b:List Part):allPs f (a++b)↔allPs f a/\allPs f b:=by
 induction a with
 | nil=>simp [allPs]
 | cons x a ih=>rw [List.cons_append,allPs_cons,allPs_cons,ih,and_assoc]
theorem allPs_one (f:Part->Prop) (x:Part):allPs f [x]↔x.all f:=by rw [allPs_cons];simp [allPs]
theorem bare_addP {o:List Part} {x:Part} (h:allPs Bare o) (hx:x.all Bare):allPs Bare (addP o x):=by
 rcases List.eq_nil_or_concat o with rfl|⟨d,y,rfl⟩
 ·rw [addP_nil,allPs_one];exact hx
 ·rw [List.concat_eq_append] at *
  rw [addP_snoc]
  split
  ·rw [allPs_app,allPs_one] at h⊢
   refine ⟨h.1,?_⟩
   have:=(Part.all_eq _ _).1 h.2
   exact (Part.all_eq _ _).2 ⟨⟨this.1.sel,this.1.ten,this.1.cs⟩,this.2⟩
  ·rw [allPs_app,allPs_one];exact ⟨h,hx⟩
theorem bare_adds (l:List Part):∀{o:List Part},allPs Bare o->allPs Bare l->allPs Bare (l.foldl addP o):=by
 induction l with
 | nil=>intro o h _;exact h
 | cons x l ih=>
  intro o h hl
  rw [allPs_cons] at hl
  exact ih (bare_addP h hl.1) hl.2
theorem res_bare (pk:Pick) (hpk:Picks pk):∀(N:Nat) (ps:List Part),wtPs ps<N->allPs WfP ps->∀count out,allPs Bare out->allPs Bare (resPs pk count ps out):=by
 intro N
 induction N with
 | zero=>intro ps h;omega
 | succ N ih=>
  intro ps
  induction ps with
  | nil=>intro _ _ count out h;simpa [resPs] using h
  | cons p ps ih2=>
   intro h hwf count out ho
   rw [wtPs_cons] at h
   rw [allPs_cons] at hwf
   rw [resPs_cons]
   refine ih2 (by omega) hwf.2 count _ ?_
   have hw:=p.wt_eq
   obtain ⟨hp,hcs,hps⟩:=(Part.all_eq _ _).1 hwf.1
   rw [p.res_eq]
   split
   ·rename_i hs
    rcases hpk p.kind p.name (resCs pk (if p.kind == 9 then count else p.name) p.cases) with h3|⟨key,h3⟩
    ·rw [h3];exact ho
    ·refine bare_adds _ ho ?_
     rw [resCs_map] at h3
     obtain ⟨c,hc,he⟩:=List.mem_map.1 h3
     have h5:=wtCs_mem hc
     have h6:=ih c.2 (by omega) (allCs_mem hcs hc) (if p.kind == 9 then count else p.name) [] trivial
     have h7:=congrArg Prod.snd he
     simp only at h7
     rw [resCs_map,<-h7]
     exact h6
   ·rename_i hs
    have hs':selB p.kind=false:=by simpa using hs
    split
    ·rw [allPs_app,allPs_one]
     exact ⟨ho,(Part.all_eq _ _).2 ⟨⟨(rfl:selB 3=false),rfl,rfl⟩,trivial,trivial⟩⟩
    ·rename_i h10
     have h10':(p.kind == 10)=false:=by simpa using h10
     split
     ·rw [allPs_app,allPs_one]
      refine ⟨ho,(Part.all_eq _ _).2 ⟨⟨hs',h10',hp.cases0 hs'⟩,?_,?_⟩⟩
      ·show allCs Bare p.cases
       rw [hp.cases0 hs'];trivial
      ·exact ih p.parts (by omega) hps count [] trivial
     ·rename_i h11
      have h11':(p.kind == 11)=false:=by simpa using h11
      refine bare_addP ho ((Part.all_eq _ _).2 ⟨⟨hs',h10',hp.cases0 hs'⟩,?_,?_⟩)
      ·rw [hp.cases0 hs'];trivial
      ·rw [hp.parts0 h11'];trivial
theorem bare_plain:∀(N:Nat) (ps:List Part),wtPs ps<N->allPs Bare ps->plainPs ps=true:=by
 intro N
 induction N with
 | zero=>intro ps h;omega
 | succ N ih=>
  intro ps
  induction ps with
  | nil=>intro _ _;simp [plainPs]
  | cons p ps ih2=>
   intro h hb
   rw [wtPs_cons] at h
   rw [allPs_cons] at hb
   have hw:=p.wt_eq
   obtain ⟨hp,hcs,hps⟩:=(Part.all_eq _ _).1 hb.1
   have h1:=ih p.parts (by omega) hps
   have h2:=ih2 (by omega) hb.2
   simp only [plainPs,Part.solid_eq,hp.sel,hp.cs,h1,h2]
   simp [plainCs]
theorem coll_plain:∀(N:Nat) (ps:List Part),wtPs ps<N->plainPs ps=true->∀l,collPs ps l=l:=by
 intro N
 induction N with
 | zero=>intro ps h;omega
 | succ N ih=>
  intro ps
  induction ps with
  | nil=>intro _ _ l;simp [collPs]
  | cons p ps ih2=>
   intro h hb l
   rw [wtPs_cons] at h
   have hw:=p.wt_eq
   simp only [plainPs,Part.solid_eq,Bool.and_eq_true,Bool.not_eq_true'] at hb
   obtain ⟨⟨⟨h1,h2⟩,h3⟩,h4⟩:=hb
   simp only [collPs,Part.coll_eq,h1]
   rw [if_neg (by simp),ih p.parts (by omega) h2,ih2 (by omega) h4]
theorem formed_nj (ps:List Part):∀d c prev,formedPs ps d c prev=true->nj ps=true:=by
 induction ps with
 | nil=>intro d c prev _;rfl
 | cons x t ih=>
  intro d c prev h
  rw [formedPs_cons,Bool.and_eq_true,Bool.and_eq_true] at h
  have h1:=ih _ _ _ h.2.2
  cases t with
  | nil=>rfl
  | cons y t=>
   have h2:=h.2.2
   rw [formedPs_cons,Bool.and_eq_true] at h2
   rw [nj_cons2,h1,Bool.and_comm (x.kind == 1),h2.1];rfl
theorem fold_id {ps:List Part} (h:nj ps=true):ps.foldl addP []=ps:=by
 cases ps with
 | nil=>rfl
 | cons y t=>
  have:=fold_app t [] y h
  simpa [addP_nil] using this
theorem addP_ne {o:List Part} {x:Part} (h:(x.kind == 1)=false):addP o x=o++[x]:=by
 rcases List.eq_nil_or_concat o with rfl|⟨d,y,rfl⟩
 ·rfl
 ·rw [List.concat_eq_append,addP_snoc,h];simp
theorem res_id (pk:Pick):∀(N:Nat) (ps:List Part),wtPs ps<N->allPs Bare ps->∀d c prev,formedPs ps d c prev=true->∀count out,resPs pk count ps out=ps.foldl addP out:=by
 intro N
 induction N with
 | zero=>intro ps h;omega
 | succ N ih=>
  intro ps
  induction ps with
  | nil=>intro _ _ d c prev _ count out;simp [resPs]
  | cons p ps ih2=>
   intro h hb d c prev hf count out
   rw [wtPs_cons] at h
   rw [allPs_cons] at hb
   rw [formedPs_cons,Bool.and_eq_true,Bool.and_eq_true] at hf
   have hw:=p.wt_eq
   obtain ⟨hp,hcs,hps⟩:=(Part.all_eq _ _).1 hb.1
   rw [resPs_cons,List.foldl_cons,ih2 (by omega) hb.2 _ _ _ hf.2.2]
   congr 1
   rw [p.res_eq,if_neg (by rw [hp.sel];simp),if_neg (by rw [hp.ten];simp)]
   split
   ·rename_i h11
    have hq:=hf.2.1
    rw [p.formedB_eq,if_pos h11,Bool.and_eq_true] at hq
    rw [ih p.parts (by omega) hps _ _ _ hq.2,fold_id (formed_nj _ _ _ _ hq.2)]
    have h1:(p.kind == 1)=false:=by
     have:p.kind=11:=by simpa using h11
     rw [this];rfl
    rw [addP_ne h1]
    cases p;rfl
   ·rfl
theorem flat_bare (l:Loc) {ps:List Part} (hb:allPs Bare ps) (hv:validP ps=true) (hl:(!rulesF [] l.card||!rulesF [] l.ord)=false):flatP l ps=(([],[ps]),0):=by
 have hs:selsP ps=[]:=by unfold selsP;rw [coll_plain _ ps (Nat.lt_succ_self _) (bare_plain _ ps (Nat.lt_succ_self _) hb)];rfl
 have hf:=hv
 rw [valid_same] at hf
 unfold validB at hf
 rw [Bool.and_eq_true,Bool.and_eq_true] at hf
 unfold flatP
 rw [hv,hs,hl]
 have e:resPs (pkP l [] (decK [] 0).1) [] ps []=ps:=by
  rw [res_id _ _ ps (Nat.lt_succ_self _) hb _ _ _ hf.1.1,fold_id (formed_nj _ _ _ _ hf.1.1)]
 simp [combP,varsOf,e]
theorem coll_inv (G:Int->Bytes->Prop) (I:List Sel->Prop) (ha:∀l k n,G k n->I l->I (selAdd l k n)) (hm:∀l j key,I l->I (l.modify j (addKey key))) (ps:List Part) :
  allPs (fun p=>selB p.kind=true->G p.kind p.name) ps->∀l,I l->I (collPs ps l):=by
 refine tree_Q (P:=fun p=>p.all (fun p=>selB p.kind=true->G p.kind p.name)->∀l,I l->I (p.coll l)) (Q:=fun ps=>allPs (fun p=>selB p.kind=true->G p.kind p.name) ps->∀l,I l->I (collPs ps l))
  (R:=fun cs=>allCs (fun p=>selB p.kind=true->G p.kind p.name) cs->∀j l,I l->I (collCs cs j l)) ?_ ?_ ?_ ?_ ?_ ps
 ·intro p hr hq h l hl
  rw [p.all_eq] at h
  rw [p.coll_eq]
  have h1:=hq h.2.2 l hl
  cases hs:selB p.kind with
  | true=>
   simp only [if_true]
   exact hr h.2.1 _ _ (ha _ _ _ (h.1 hs) h1)
  | false=>simpa using h1
 ·intro _ l hl;simpa only [collPs] using hl
 ·intro p ps hp hq h l hl
  rw [allPs_cons] at h
  rw [collPs_cons]
  exact hq h.2 _ (hp h.1 l hl)
 ·intro _ j l hl;simpa only [collCs] using hl
 ·intro c cs hq hr h j l hl
  rw [allCs_cons] at h
  rw [collCs_cons]
  exact hr h.2 j _ (hq h.1 _ (hm _ _ _ hl))
theorem formed_names (ps:List Part):∀d c prev,formedPs ps d c prev=true->allPs (fun p=>selB p.kind=true->nameB p.name=true) ps:=by
 refine tree_Q (P:=fun p=>∀d c,p.formedB d c=true->p.all (fun p=>selB p.kind=true->nameB p.name=true))
  (Q:=fun ps=>∀d c prev,formedPs ps d c prev=true->allPs (fun p=>selB p.kind=true->nameB p.name=true) ps)
  (R:=fun cs=>∀k d c keys,formedCs cs k d c keys=true->allCs (fun p=>selB p.kind=true->nameB p.name=true) cs) ?_ ?_ ?_ ?_ ?_ ps
 ·intro p hr hq d c h
  have hf:=formed_wf [p] d c false (by rw [formedPs_cons,h];simp [formedPs])
  rw [allPs_one] at hf
  have hw:=((Part.all_eq _ _).1 hf).1
  rw [p.formedB_eq] at h
  rw [p.all_eq]
  cases h11:p.kind == 11 with
  | true=>
   have hs:selB p.kind=false:=by
    have:p.kind=11:=by simpa using h11
    rw [this];rfl
   rw [h11,if_pos rfl,Bool.and_eq_true] at h
   refine ⟨fun hh=>(by rw [hs] at hh;cases hh),?_,hq _ _ _ h.2⟩
   rw [hw.cases0 hs];simp only [allCs]
  | false=>
   rw [h11,if_neg (by simp)] at h
   have hpp:=hw.parts0 h11
   cases hs:selB p.kind with
   | true=>
    rw [hs,if_pos rfl,Bool.and_eq_true] at h
    have h1:=h.1
    unfold selHead at h1
    simp at h1
    refine ⟨fun _=>h1.1.1.1.1.1.2,hr _ _ _ _ h.2,?_⟩
    rw [hpp];simp only [allPs]
   | false=>
    refine ⟨fun hh=>(by cases hh),?_,?_⟩
    ·rw [hw.cases0 hs];simp only [allCs]
    ·rw [hpp];simp only [allPs]
 ·intro d c prev _;simp only [allPs]
 ·intro p ps hp hq d c prev h
  rw [formedPs_cons,Bool.and_eq_true,Bool.and_eq_true] at h
  rw [allPs_cons]
  exact ⟨hp _ _ h.2.1,hq _ _ _ h.2.2⟩
 ·intro k d c keys _;simp only [allCs]
 ·intro c cs hq hr k d cc keys h
  rw [formedCs_cons,Bool.and_eq_true,Bool.and_eq_true] at h
  rw [allCs_cons]
  exact ⟨hq _ _ _ h.2.1,hr _ _ _ _ h.2.2⟩
structure Colls (l:List Sel):Prop where
 nm:∀s∈l,selB s.kind=true/\nameB s.name=true
 nd:(l.map fun s=>(s.kind,s.name)).Nodup
 ks:∀s∈l,s.keys.Nodup
theorem colls_add (l:List Sel) (k:Int) (n:Bytes) (hk:selB k=true/\nameB n=true) (h:Colls l):Colls (selAdd l k n):=by
 unfold selAdd
 split
 ·rename_i hf
  have ha:l.any (selIs k n)=false:=by
   rw [<-idxI_ge]
   unfold findI at hf
   simp;omega
  refine ⟨fun s hs=>?_,?_,fun s hs=>?_⟩
  ·rcases List.mem_append.1 hs with hs|hs
   ·exact h.nm s hs
   ·simp at hs;subst hs;exact hk
  ·rw [List.map_append,List.nodup_append]
   refine ⟨h.nd,by simp,?_⟩
   intro a ha2 b hb
   simp at hb
   obtain ⟨s,hs,rfl⟩:=List.mem_map.1 ha2
   subst hb
   have:=List.any_eq_false.1 ha s hs
   unfold selIs at this
   intro he
   simp only [Prod.mk.injEq] at he
   simp [he.1,he.2] at this
  ·rcases List.mem_append.1 hs with hs|hs
   ·exact h.ks s hs
   ·simp at hs;subst hs;exact List.nodup_nil
 ·exact h
theorem mem_modify {l:List Sel} {j:Nat} {f:Sel->Sel} {t:Sel} (h:t∈l.modify j f):t∈l\/∃s∈l,t=f s:=by
 obtain ⟨i,hi⟩:=List.getElem?_of_mem h
 rw [List.getElem?_modify] at hi
 cases hl:l[i]? with
 | none=>rw [hl] at hi;simp at hi
 | some u=>
  rw [hl] at hi
  have hu:=List.mem_of_getElem? hl
  by_cases hj:j=i
  ·simp [hj] at hi;exact .inr ⟨u,hu,hi.symm⟩
  ·simp [hj] at hi;subst hi;exact .inl hu
theorem map_modify {β:Type} {g:Sel->β} {f:Sel->Sel} (hg:∀s,g (f s)=g s):∀(l:List Sel) (j:Nat),(l.modify j f).map g=l.map g:=by
 intro l j
 apply List.ext_getElem?
 intro i
 rw [List.getElem?_map,List.getElem?_map,List.getElem?_modify]
 cases l[i]? with
 | none=>simp
 | some u=>by_cases hj:j=i<;>simp [hj,hg]
theorem colls_mod (l:List Sel) (j:Nat) (key:Bytes) (h:Colls l):Colls (l.modify j (addKey key)):=by
 refine ⟨fun s hs=>?_,?_,fun s hs=>?_⟩
 ·rcases mem_modify hs with hs|⟨t,ht,rfl⟩
  ·exact h.nm s hs
  ·have:=addKey_same key t;rw [this.1,this.2];exact h.nm t ht
 ·rw [map_modify (fun s=>by have:=addKey_same key s;rw [this.1,this.2])];exact h.nd
 ·rcases mem_modify hs with hs|⟨t,ht,rfl⟩
  ·exact h.ks s hs
  ·unfold addKey
   split
   ·exact h.ks t ht
   ·rename_i hc
    rw [List.nodup_append]
    refine ⟨h.ks t ht,by simp,fun a ha b hb=>?_⟩
    simp at hb;subst hb
    rintro rfl
    exact hc (by simpa using ha)
theorem nodupK_of:∀(l d:List Bytes),(d++l).Nodup->nodupK d l=true:=by
 intro l
 induction l with
 | nil=>intro d _;simp [nodupK]
 | cons k r ih=>
  intro d h
  rw [nodupK,ih (d++[k]) (by simpa using h)]
  rw [List.nodup_append] at h
  have:=h.2.2
  simp only [Bool.and_true,Bool.not_eq_true']
  cases hc:d.contains k with
  | false=>rfl
  | true=>exact absurd rfl (this k (by simpa using hc) k (by simp))
theorem kFive_nd:kFive.Nodup/\kOtherS ∉ kFive/\(∀k∈kFive,headEq k=false):=by
 refine ⟨by decide,by decide,?_⟩
 intro k hk
 have:∀k∈kFive,headEq k=false:=by decide
 exact this k hk
theorem ord_nodup (kind:Int) {keys:List Bytes} (h:keys.Nodup):(ordK kind keys).Nodup:=by
 unfold ordK
 rw [List.nodup_append,List.nodup_append]
 refine ⟨h.filter _,⟨?_,by simp,?_⟩,?_⟩
 ·unfold clsK;split
  ·exact List.nodup_nil
  ·exact kFive_nd.1.filter _
 ·intro a ha b hb
  simp at hb;subst hb
  rintro rfl
  unfold clsK at ha
  split at ha
  ·cases ha
  ·exact kFive_nd.2.1 (List.mem_filter.1 ha).1
 ·intro a ha b hb
  have hk:=(List.mem_filter.1 ha).2
  unfold keepK at hk
  simp only [Bool.and_eq_true,Bool.or_eq_true,Bool.not_eq_true'] at hk
  rintro rfl
  rcases List.mem_append.1 hb with hb|hb
  ·unfold clsK at hb
   split at hb
   ·cases hb
   ·rename_i h9
    have h1:=(List.mem_filter.1 hb).1
    have h2:=kFive_nd.2.2 _ h1
    rcases hk.2 with h3|h3
    ·exact h9 (by simpa using h3)
    ·rw [h2] at h3;cases h3
  ·simp at hb;subst hb
   have:=hk.1
   simp at this
theorem soundGo_of:∀(l d:List Sel),(∀s∈l,headS s=true/\s.keys.Nodup)->((d++l).map fun s=>(s.kind,s.name)).Nodup->soundGo d l=true:=by
 intro l
 induction l with
 | nil=>intro d _ _;simp [soundGo]
 | cons s r ih=>
  intro d h hn
  have hs:=h s (by simp)
  rw [soundGo,ih (d++[s]) (fun t ht=>h t (by simp [ht])) (by simpa using hn),hs.1,nodupK_of _ [] (by simpa using hs.2)]
  have:d.any (selIs s.kind s.name)=false:=by
   rw [List.any_eq_false]
   intro t ht
   rw [List.map_append,List.nodup_append] at hn
   have h2:=hn.2.2 (t.kind,t.name) (List.mem_map.2 ⟨t,ht,rfl⟩) (s.kind,s.name) (by simp)
   unfold selIs
   intro he
   simp at he
   exact h2 (by rw [he.1,he.2])
  rw [this];rfl
theorem sels_colls {ps:List Part} (h:validB ps=true):Colls (collPs ps []):=by
 unfold validB at h
 rw [Bool.and_eq_true,Bool.and_eq_true] at h
 have h1:=formed_names ps _ _ _ h.1.1
 refine coll_inv (fun k n=>selB k=true/\nameB n=true) Colls (fun l k n hk hl=>colls_add l k n hk hl) colls_mod ps ?_ [] ⟨by simp,List.nodup_nil,by simp⟩
 exact all_imp (fun p hp hs=>⟨hs,hp hs⟩) ps h1
theorem sels_sound {ps:List Part} (h:validB ps=true):soundGo [] (selsP ps)=true:=by
 have hc:=sels_colls h
 refine soundGo_of _ [] ?_ ?_
 ·intro s hs
  obtain ⟨t,ht,rfl⟩:=List.mem_map.1 hs
  have:=hc.nm t ht
  refine ⟨?_,ord_nodup _ (hc.ks t ht)⟩
  unfold headS lastOther
  simp only [Sel.ord]
  rw [this.1,this.2]
  unfold ordK
  rw [<-List.append_assoc,List.getLast?_append]
  simp
 ·unfold selsP
  rw [List.nil_append,List.map_map]
  exact hc.nd
theorem flat_sound (l:Loc) {ps:List Part} (h:(flatP l ps).2=0):soundP (flatP l ps).1=true:=by
 unfold flatP at h⊢
 split
 ·rename_i h1;rw [if_pos h1] at h;cases h
 ·rename_i h1
  rw [if_neg h1] at h
  split
  ·rename_i h2;rw [if_pos h2] at h;cases h
  ·rename_i h2
   rw [if_neg h2] at h
   split
   ·rename_i h3;rw [if_pos h3] at h;cases h
   ·have hv:validB ps=true:=by rw [<-valid_same];simpa using h1
    unfold soundP
    simp only
    rw [sels_sound hv]
    have:((combP 1 (selsP ps):Int)<=400):=by simpa using h2
    simp [this,varsOf]
theorem plain_bare (ps:List Part):∀d prev,plainPs ps=true->formedPs ps d false prev=true->allPs Bare ps:=by
 refine tree_Q (P:=fun p=>∀d,p.solid=true->p.formedB d false=true->p.all Bare)
  (Q:=fun ps=>∀d prev,plainPs ps=true->formedPs ps d false prev=true->allPs Bare ps)
  (R:=fun cs=>True) ?_ ?_ ?_ ?_ ?_ ps
 ·intro p _ hq d hs h
  have hf:=formed_wf [p] d false false (by rw [formedPs_cons,h];simp [formedPs])
  rw [allPs_one] at hf
  have hw:=((Part.all_eq _ _).1 hf).1
  rw [Part.solid_eq] at hs
  simp only [Bool.and_eq_true,Bool.not_eq_true'] at hs
  obtain ⟨⟨hs,hp⟩,_⟩:=hs
  have hc:=hw.cases0 hs
  rw [p.formedB_eq] at h
  refine (Part.all_eq _ _).2 ?_
  rw [hc]
  cases h11:p.kind == 11 with
  | true=>
   have h10:(p.kind == 10)=false:=by
    have:p.kind=11:=by simpa using h11
    rw [this];rfl
   rw [h11,if_pos rfl,Bool.and_eq_true] at h
   exact ⟨⟨hs,h10,hc⟩,by simp only [allCs],hq _ _ hp h.2⟩
  | false=>
   rw [h11,if_neg (by simp),hs,if_neg (by simp)] at h
   refine ⟨⟨hs,?_,hc⟩,by simp only [allCs],?_⟩
   ·cases h10:p.kind == 10 with
    | false=>rfl
    | true=>
     have:p.kind=10:=by simpa using h10
     unfold plainB plainK at h
     rw [this] at h
     simp at h
   ·rw [hw.parts0 h11];simp only [allPs]
 ·intro d prev _ _;simp only [allPs]
 ·intro p ps hp hq d prev hs h
  rw [plainPs_cons,Bool.and_eq_true] at hs
  rw [formedPs_cons,Bool.and_eq_true,Bool.and_eq_true] at h
  rw [allPs_cons]
  exact ⟨hp _ hs.1 h.2.1,hq _ _ hs.2 h.2.2⟩
 ·trivial
 ·intro c cs _ _;trivial
theorem combP_pos:∀(l:List Sel),(∀s∈l,s.keys≠[])->∀n,1<=n->1<=combP n l:=by
 intro l
 induction l with
 | nil=>intro _ n h;exact h
 | cons s l ih=>
  intro hk n h
  have h1:1<=s.keys.length:=List.length_pos_iff.2 (hk s (by simp))
  have h2:1<=n*s.keys.length:=Nat.mul_pos h h1
  rw [combP]
  split
  ·exact h2
  ·exact ih (fun t ht=>hk t (by simp [ht])) _ h2
theorem picks_of (l:Loc) (L:List Sel) (keys:List Bytes):Picks (pkP l L keys):=pkP_picks _ _ _
structure FlatOk (l:Loc) (ps:List Part) (F:FormP):Prop where
 sound:soundP F=true
 some:0<F.2.length
 bare:∀v∈F.2,allPs Bare v/\wtPs v<=2^19/\(validP v=true->flatP l v=(([],[v]),0))
 only:plainPs ps=true->F.2=[ps]
 nm:∀s∈F.1,s.name.length<=40
theorem flat_ok (l:Loc) (ps:List Part):((flatP l ps).2≠0/\(flatP l ps).1=([],[]))\/((flatP l ps).2=0/\FlatOk l ps (flatP l ps).1):=by
 by_cases h:(flatP l ps).2=0
 ·right
  refine ⟨h,?_⟩
  have hs:=flat_sound l h
  unfold flatP at h hs⊢
  by_cases h1:(!validP ps)=true
  ·rw [if_pos h1] at h;cases h
  rw [if_neg h1] at h hs⊢
  by_cases h2:decide ((combP 1 (selsP ps):Int)>400)=true
  ·rw [if_pos h2] at h;cases h
  rw [if_neg h2] at h hs⊢
  by_cases h3:(!rulesF [] l.card||!rulesF [] l.ord)=true
  ·rw [if_pos h3] at h;cases h
  rw [if_neg h3] at hs⊢
  have hv:validP ps=true:=by simpa using h1
  have hvb:validB ps=true:=by rw [<-valid_same];exact hv
  have hl:(!rulesF [] l.card||!rulesF [] l.ord)=false:=by simpa using h3
  refine ⟨hs,?_,?_,?_,?_⟩
  ·simp only [varsOf,List.length_map,List.length_range]
   exact combP_pos _ (fun s hs=>(sels_keys ps s hs).1) 1 (Nat.le_refl _)
  ·intro v hm
   obtain ⟨i,_,rfl⟩:=List.mem_map.1 hm
   have hb:=res_bare (pkP l (selsP ps) (decK (selsP ps) i).1) (picks_of _ _ _) _ ps (Nat.lt_succ_self _) (valid_wf hvb) [] [] (by simp only [allPs])
   exact ⟨hb,vars_wt l hvb _ _,fun hvv=>flat_bare l hb hvv hl⟩
  ·intro hp
   have hf:=hvb
   unfold validB at hf
   rw [Bool.and_eq_true,Bool.and_eq_true] at hf
   have hb:=plain_bare ps _ _ hp hf.1.1
   have:=flat_bare l hb hv hl
   unfold flatP at this
   rw [if_neg h1,if_neg h2,if_neg h3] at this
   exact congrArg (fun x=>x.1.2) this
  ·intro s hs
   obtain ⟨t,ht,rfl⟩:=List.mem_map.1 hs
   exact nameB_len ((sels_colls hvb).nm t ht).2
 ·left
  refine ⟨h,?_⟩
  unfold flatP at h⊢
  by_cases h1:(!validP ps)=true
  ·rw [if_pos h1]
  rw [if_neg h1] at h⊢
  by_cases h2:decide ((combP 1 (selsP ps):Int)>400)=true
  ·rw [if_pos h2]
  rw [if_neg h2] at h⊢
  by_cases h3:(!rulesF [] l.card||!rulesF [] l.ord)=true
  ·rw [if_pos h3]
  rw [if_neg h3] at h
  exact absurd rfl h


structure WfK (p:Part):Prop where
 bare:selB p.kind=true->p.text=[]/\p.style=[]
 nodup:selB p.kind=true->(p.cases.map (·.1)).Nodup
end Go.Ir
section
namespace Go.Ir
mutual
def Part.cnt:Part->Nat
 | ⟨k,_,_,_,cs,ps⟩=>if selB k then cntCs cs else 1+cntR ps
def cntR:List Part->Nat
 | []=>0
 | p::ps=>p.cnt+(1+cntR ps)
def cntCs:List (Bytes × List Part)->Nat
 | []=>0
 | (_,ps)::cs=>1+cntR ps+cntCs cs
end
end Go.Ir
end
namespace Go.Ir
open Go.Proofs
variable {P : Program} {W0 : World} {nt n : Nat} {Q : Exit → St → Prop} {env : Env} {σ : Sto}
def f107_2:IC:=.seq (.ops [o1 4 (.faddr (.t 2) 0),o1 5 (.load (.t 4) 1 false),o1 6 (.load (.t 1) 1 false),o1 7 (.bin .eql (.t 5) (.t 6)),m1 3 7] [3] []) .ret
def f107_0:IC:=.seq (.ops [o1 2 (.box (.t 0)),o1 3 (.mv (.c (.b false)))] [1,2] []) f107_2
@[push_cast]def f107R:List R:=[.t 3]
@[push_cast]def f107e:=aWv f107_2.eq_1<|aWu f107_0.eq_1
theorem f107ok:okFn Tryz.prog 107 8 f107_0 f107R=true:=by kernel_rfl
def f52_8:IC:=.seq (.ops [o1 13 (.build [(.s []),(.i .i64 0),(.s []),(.i .i64 0),.nil] []),o0 (.store (.t 4) (.t 13) 5),o1 5 (.mv (.c (.b false)))] [4,5] []) .ret
def f52_14:IC:=.seq (.ops [o1 22 (.load (.t 7) 5 true),o0 (.store (.t 4) (.t 22) 5),o1 5 (.mv (.c (.b true)))] [4,5] []) .ret
def f52_12:IC:=.seq (.ops [o1 18 (.faddr (.t 7) 4),o1 19 (.load (.t 18) 1 false),o1 20 (.call 28 [.t 19]),o1 21 (.faddr (.t 7) 4),o0 (.store (.t 21) (.t 20) 1)] [4,7] []) f52_14
def f52_10:IC:=.seq (.ops [m1 14 0,m1 15 6,o1 16 (.iaddr (.t 14) (.t 15) 114 5),o1 17 (.load (.t 16) 5 true),o1 7 (.alloc (.agg [(.s []),(.i .i64 0),(.s []),(.i .i64 0),.nil])),o0 (.store (.t 7) (.t 17) 5)] [4,7] []) f52_12
def f52_4:IC:=.seq (.seq (.ops [m1 11 6,o1 12 (.bin .lss (.t 11) (ci 0))] [0,4,6,12] []) (.cond (.t 12) f52_8 .skip)) f52_10
def f52_2:IC:=.seq (.ops [m1 8 0,o1 9 (.mkfn 107 [] [.t 3]),o1 10 (.calls 106 [.t 8,.t 9]),m1 6 10] [0,4,6] []) f52_4
def f52_0:IC:=.seq (.ops [o1 3 (.box (.t 1)),o1 4 (.alloc (.agg [(.s []),(.i .i64 0),(.s []),(.i .i64 0),.nil])),o1 5 (.mv (.c (.b false)))] [0,3,4] []) f52_2
@[push_cast]def f52R:List R:=[.c 4 5 true,.t 5]
@[push_cast]def f52e:=aWv f52_8.eq_1<|aWv f52_14.eq_1<|aWv f52_12.eq_1<|aWv f52_10.eq_1<|aWv f52_4.eq_1<|aWv f52_2.eq_1<|aWu f52_0.eq_1
theorem f52ok:okFn Tryz.prog 52 23 f52_0 f52R=true:=by kernel_rfl
def f53_9:IC:=.seq (.ops [o1 7 (.faddr (.t 1) 3),o1 8 (.load (.t 7) 1 false),o1 9 (.bin .eql (.t 8) (ci 0)),m1 10 9,⟨some 11,.faddr (.t 1) 4,some (10,true),[]⟩,⟨some 12,.load (.t 11) 1 false,some (10,true),[]⟩,⟨some 13,.lenL (.t 12),some (10,true),[]⟩,⟨some 14,.bin .eql (.t 13) (ci 0),some (10,true),[]⟩,o1 15 (.pick (.t 10) (.t 14) (.c (.b false))),m1 2 15] [2] []) .ret
def f53_14:IC:=.seq (.ops [o1 18 (.faddr (.t 1) 2),o1 19 (.load (.t 18) 1 false),o1 20 (.call 108 [.t 19]),m1 21 20,⟨some 22,.faddr (.t 1) 3,some (21,true),[]⟩,⟨some 23,.load (.t 22) 1 false,some (21,true),[]⟩,⟨some 24,.bin .eql (.t 23) (ci 0),some (21,true),[]⟩,o1 25 (.pick (.t 21) (.t 24) (.c (.b false))),m1 26 25,⟨some 27,.faddr (.t 1) 4,some (26,true),[]⟩,⟨some 28,.load (.t 27) 1 false,some (26,true),[]⟩,⟨some 29,.lenL (.t 28),some (26,true),[]⟩,⟨some 30,.bin .eql (.t 29) (ci 0),some (26,true),[]⟩,o1 31 (.pick (.t 26) (.t 30) (.c (.b false))),m1 2 31] [2] []) .ret
def f53_19:IC:=.seq (.ops [o1 34 (.faddr (.t 1) 2),o1 35 (.load (.t 34) 1 false),o1 36 (.bin .eql (.t 35) (.c (.s []))),m1 37 36,⟨some 38,.faddr (.t 1) 4,some (37,true),[]⟩,⟨some 39,.load (.t 38) 1 false,some (37,true),[]⟩,⟨some 40,.lenL (.t 39),some (37,true),[]⟩,⟨some 41,.bin .eql (.t 40) (ci 0),some (37,true),[]⟩,o1 42 (.pick (.t 37) (.t 41) (.c (.b false))),m1 2 42] [2] []) .ret
def f53_24:IC:=.seq (.ops [o1 45 (.faddr (.t 1) 2),o1 46 (.load (.t 45) 1 false),o1 47 (.bin .eql (.t 46) (.c (.s []))),m1 48 47,⟨some 49,.faddr (.t 1) 3,some (48,true),[]⟩,⟨some 50,.load (.t 49) 1 false,some (48,true),[]⟩,⟨some 51,.bin .eql (.t 50) (ci 0),some (48,true),[]⟩,o1 52 (.pick (.t 48) (.t 51) (.c (.b false))),m1 2 52] [2] []) .ret
def f53_21:IC:=.seq (.ops [o1 44 (.bin .eql (.t 4) (ci 4)),m1 43 44] [1,43] []) (.cond (.t 43) f53_24 .skip)
def f53_16:IC:=.seq (.ops [o1 33 (.bin .eql (.t 4) (ci 3)),m1 32 33] [1,4,32] []) (.cond (.t 32) f53_19 f53_21)
def f53_11:IC:=.seq (.ops [o1 17 (.bin .eql (.t 4) (ci 2)),m1 16 17] [1,4,16] []) (.cond (.t 16) f53_14 f53_16)
def f53_5:IC:=.block 0 (.seq (.ops [o1 6 (.bin .eql (.t 4) (ci 1)),m1 5 6] [1,4,5] []) (.cond (.t 5) f53_9 f53_11))
def f53_2:IC:=.seq (.seq (.ops [o1 3 (.faddr (.t 1) 1),o1 4 (.load (.t 3) 1 false)] [1,4] []) f53_5) (.seq (.ops [o1 2 (.mv (.c (.b false)))] [2] []) .ret)
def f53_0:IC:=.seq (.ops [o1 1 (.box (.t 0)),o1 2 (.mv (.c (.b false)))] [1] []) f53_2
@[push_cast]def f53R:List R:=[.t 2]
@[push_cast]def f53e:=aWv f53_9.eq_1<|aWv f53_14.eq_1<|aWv f53_19.eq_1<|aWv f53_24.eq_1<|aWv f53_21.eq_1<|aWv f53_16.eq_1<|aWv f53_11.eq_1<|aWv f53_5.eq_1<|aWv f53_2.eq_1<|aWu f53_0.eq_1
theorem f53ok:okFn Tryz.prog 53 53 f53_0 f53R=true:=by kernel_rfl
def f55_10:IC:=.ops [o1 29 (.faddr (.t 5) 2),o1 30 (.load (.t 29) 1 false),o1 31 (.bin .add (.c (.s [61])) (.t 30)),m1 32 8,o1 33 (.msl false 9 1 [.t 31,.t 32]),m1 7 33] [4,7] []
def f55_8:IC:=.seq (.ops [o1 20 (.load (.t 3) 16 true),o1 21 (.faddr (.t 4) 0),o1 22 (.load (.t 21) 1 false),o1 23 (.call 110 [.t 20,.t 22]),o1 24 (.faddr (.t 5) 2),o1 25 (.load (.t 24) 1 false),o1 26 (.call 109 [.t 23,.t 25]),m1 19 26,o1 27 (.ext (.t 19) 0),o1 28 (.ext (.t 19) 1),m1 8 27,m1 9 28] [4,5,8] [[1,2],[0,3],[2,3],[4,5],[3,6],[5,6],[6,7],[7,8],[7,9],[8,10],[9,11]]) f55_10
def f55_26:IC:=.seq (.ops [m1 44 12,o1 45 (.bin .geq (.t 44) (ci 0))] [4,12,34,35,36,45] []) (.cond (.t 45) (.seq (.ops [m1 46 12,m1 6 46] [6] []) .ret) .skip)
def f55_24:IC:=.seq (.ops [o1 40 (.faddr (.t 4) 2),o1 41 (.load (.t 40) 1 false),m1 42 11,o1 43 (.call 111 [.t 41,.t 42]),m1 12 43] [4,12,34,35,36] []) f55_26
def f55_20:IC:=.seq (.block 1 (.seq (.ops [o1 38 (.iaddr (.t 34) (.t 36) 9 1),o1 39 (.load (.t 38) 1 false),m1 11 39] [4,11,34,35,36] []) f55_24)) (.ops [o1 47 (.bin .add (.t 36) (ci 1)),m1 36 47] [4,34,35,36] [])
def f55_16:IC:=.seq (.ops [o1 37 (.bin .lss (.t 36) (.t 35))] [4,34,35,36,37] []) (.seq (.cond (.t 37) .skip (.exit 0)) f55_20)
def f55_32:IC:=.seq (.ops [o1 48 (.faddr (.t 4) 2),o1 49 (.load (.t 48) 1 false),o1 50 (.lenL (.t 49)),o1 51 (.bin .sub (.t 50) (ci 1)),m1 6 51] [6] []) .ret
def f55_11:IC:=.seq (.seq (.ops [m1 34 7,o1 35 (.lenL (.t 34)),o1 36 (.mv (ci 0))] [4,34,35,36] []) (.block 0 (.loop f55_16))) f55_32
def f55_4:IC:=.seq (.seq (.ops [o1 16 (.faddr (.t 4) 0),o1 17 (.load (.t 16) 1 false),o1 18 (.bin .neq (.t 17) (ci 9))] [3,4,5,7,18] []) (.cond (.t 18) f55_8 .skip)) f55_11
def f55_2:IC:=.seq (.ops [o1 13 (.faddr (.t 5) 2),o1 14 (.load (.t 13) 1 false),o1 15 (.msl false 9 1 [.t 14]),m1 7 15] [3,4,5,7] []) f55_4
def f55_0:IC:=.seq (.ops [o1 3 (.box (.t 0)),o1 4 (.box (.t 1)),o1 5 (.box (.t 2)),o1 6 (.mv (ci 0))] [3,4,5] []) f55_2
@[push_cast]def f55R:List R:=[.t 6]
@[push_cast]def f55e:=aWv f55_10.eq_1<|aWv f55_8.eq_1<|aWv f55_26.eq_1<|aWv f55_24.eq_1<|aWv f55_20.eq_1<|aWv f55_16.eq_1<|aWv f55_32.eq_1<|aWv f55_11.eq_1<|aWv f55_4.eq_1<|aWv f55_2.eq_1<|aWu f55_0.eq_1
theorem f55ok:okFn Tryz.prog 55 52 f55_0 f55R=true:=by kernel_rfl
def f21_45:IC:=.seq (.ops [o1 48 (.load (.t 11) 5 true),o1 49 (.call 53 [.t 48]),o1 50 (.not (.t 49)),m1 51 50,⟨some 52,.faddr (.t 11) 1,some (51,false),[]⟩,⟨some 53,.load (.t 52) 1 false,some (51,false),[]⟩,⟨some 54,.mv (.t 13),some (51,false),[]⟩,⟨some 55,.bin .neq (.t 53) (.t 54),some (51,false),[]⟩,o1 56 (.pick (.t 51) (.c (.b true)) (.t 55)),m1 47 56] [2,3,8,10,11,28,29,30,47] []) (.cond (.t 47) (.seq (.ops [o1 6 (.mv (ci 0)),o1 7 (.mv (ci 11))] [6,7] []) .ret) .skip)
def f21_50:IC:=.ops [m1 57 8,o1 58 (.faddr (.t 10) 2),o1 59 (.load (.t 58) 1 false),o1 60 (.lenL (.t 59)),o1 61 (.bin .mul (.t 57) (.t 60)),o1 62 (.load (.t 3) 16 true),o1 63 (.load (.t 10) 3 true),o1 64 (.load (.t 11) 5 true),o1 65 (.call 55 [.t 62,.t 63,.t 64]),o1 66 (.bin .add (.t 61) (.t 65)),m1 8 66] [2,3,8,28,29,30] [[1,2],[2,3],[0,4],[3,4],[5,8],[6,8],[7,8],[4,9],[8,9],[0,10],[9,10]]
def f21_38:IC:=.seq (.block 2 (.seq (.ops [m1 45 12,o1 46 (.not (.t 45)),m1 44 46] [2,3,8,10,11,13,28,29,30,44] []) (.cond (.t 44) (.seq (.ops [o1 6 (.mv (ci 0)),o1 7 (.mv (ci 12))] [6,7] []) .ret) f21_45))) f21_50
def f21_33:IC:=.seq (.seq (.ops [o1 41 (.faddr (.t 10) 0),o1 42 (.load (.t 41) 1 false),o1 43 (.bin .eql (.t 42) (ci 9))] [2,3,8,10,11,12,13,28,29,30,43] []) (.cond (.t 43) (.ops [o1 13 (.mv (ci 1))] [2,3,8,10,11,12,13,28,29,30] []) .skip)) f21_38
def f21_29:IC:=.seq (.ops [m1 35 2,o1 36 (.faddr (.t 10) 1),o1 37 (.load (.t 36) 1 false),o1 38 (.call 52 [.t 35,.t 37]),m1 34 38,o1 39 (.ext (.t 34) 0),o1 40 (.ext (.t 34) 1),o1 11 (.alloc (.agg [(.s []),(.i .i64 0),(.s []),(.i .i64 0),.nil])),o0 (.store (.t 11) (.t 39) 5),m1 12 40] [2,3,8,10,11,12,28,29,30] []) (.seq (.ops [o1 13 (.mv (ci 2))] [2,3,8,10,11,12,13,28,29,30] []) f21_33)
def f21_25:IC:=.seq (.block 1 (.seq (.ops [o1 32 (.iaddr (.t 28) (.t 30) 96 3),o1 33 (.load (.t 32) 3 true),o1 10 (.alloc (.agg [(.i .i64 0),(.s []),.nil])),o0 (.store (.t 10) (.t 33) 3)] [2,3,8,10,28,29,30] []) f21_29)) (.ops [o1 67 (.bin .add (.t 30) (ci 1)),m1 30 67] [2,3,8,28,29,30] [])
def f21_21:IC:=.seq (.ops [o1 31 (.bin .lss (.t 30) (.t 29))] [2,3,8,28,29,30,31] []) (.seq (.cond (.t 31) .skip (.exit 0)) f21_25)
def f21_16:IC:=.seq (.seq (.ops [o1 27 (.faddr (.t 4) 0),o1 28 (.load (.t 27) 1 false),o1 29 (.lenL (.t 28)),o1 30 (.mv (ci 0))] [2,3,8,28,29,30] []) (.block 0 (.loop f21_21))) (.seq (.ops [m1 68 8,m1 6 68,o1 7 (.mv (ci 0))] [6,7] []) .ret)
def f21_8:IC:=.seq (.seq (.ops [o1 17 (.faddr (.t 3) 3),o1 18 (.load (.t 17) 1 false),o1 19 (.call 47 [.t 18]),o1 20 (.not (.t 19)),m1 21 20,⟨some 22,.faddr (.t 3) 4,some (21,false),[]⟩,⟨some 23,.load (.t 22) 1 false,some (21,false),[]⟩,⟨some 24,.call 47 [.t 23],some (21,false),[]⟩,⟨some 25,.not (.t 24),some (21,false),[]⟩,o1 26 (.pick (.t 21) (.c (.b true)) (.t 25))] [2,3,4,26] []) (.cond (.t 26) (.seq (.ops [o1 6 (.mv (ci 0)),o1 7 (.mv (ci 18))] [6,7] []) .ret) .skip)) (.seq (.ops [o1 8 (.mv (ci 0))] [2,3,4,8] []) f21_16)
def f21_2:IC:=.seq (.seq (.ops [o1 14 (.load (.t 4) 2 true),o1 15 (.call 42 [.t 14]),o1 16 (.not (.t 15))] [2,3,4,16] []) (.cond (.t 16) (.seq (.ops [o1 6 (.mv (ci 0)),o1 7 (.mv (ci 1))] [6,7] []) .ret) .skip)) f21_8
def f21_0:IC:=.seq (.ops [o1 3 (.box (.t 0)),o1 4 (.box (.t 1)),o1 6 (.mv (ci 0)),o1 7 (.mv (ci 0))] [2,3,4] []) f21_2
@[push_cast]def f21R:List R:=[.t 6,.t 7]
@[push_cast]def f21e:=aWv f21_45.eq_1<|aWv f21_50.eq_1<|aWv f21_38.eq_1<|aWv f21_33.eq_1<|aWv f21_29.eq_1<|aWv f21_25.eq_1<|aWv f21_21.eq_1<|aWv f21_16.eq_1<|aWv f21_8.eq_1<|aWv f21_2.eq_1<|aWu f21_0.eq_1
theorem f21ok:okFn Tryz.prog 21 69 f21_0 f21R=true:=by kernel_rfl
def f17_24:IC:=.seq (.block 3 (.ops [m1 28 4,m1 29 0,m1 30 3,o1 31 (.iaddr (.t 29) (.t 30) 114 5),o1 32 (.faddr (.t 31) 4),o1 33 (.load (.t 32) 1 false),m1 34 5,o1 35 (.iaddr (.t 33) (.t 34) 9 1),o1 36 (.load (.t 35) 1 false),o1 37 (.lenS (.t 36)),o1 38 (.mx false (.t 28) [.t 37]),m1 4 38] [0,3,4,5] [])) (.ops [m1 26 5,o1 27 (.bin .add (.t 26) (ci 1)),m1 5 27] [0,3,4,5] [])
def f17_20:IC:=.seq (.seq (.ops [m1 18 5,m1 19 0,m1 20 3,o1 21 (.iaddr (.t 19) (.t 20) 114 5),o1 22 (.faddr (.t 21) 4),o1 23 (.load (.t 22) 1 false),o1 24 (.lenL (.t 23)),o1 25 (.bin .lss (.t 18) (.t 24))] [0,3,4,5,25] []) (.cond (.t 25) .skip (.exit 2))) f17_24
def f17_28:IC:=.seq (.ops [m1 39 4,o1 40 (.bin .gtr (.t 39) (ci 200)),m1 41 40,⟨some 42,.mv (.t 0),some (41,false),[]⟩,⟨some 43,.mv (.t 3),some (41,false),[]⟩,⟨some 44,.iaddr (.t 42) (.t 43) 114 5,some (41,false),[]⟩,⟨some 45,.faddr (.t 44) 4,some (41,false),[]⟩,⟨some 46,.load (.t 45) 1 false,some (41,false),[]⟩,⟨some 47,.lenL (.t 46),some (41,false),[]⟩,⟨some 48,.bin .gtr (.t 47) (ci 12),some (41,false),[]⟩,o1 49 (.pick (.t 41) (.c (.b true)) (.t 48)),m1 50 49,⟨some 51,.mv (.t 0),some (50,false),[]⟩,⟨some 52,.mv (.t 3),some (50,false),[]⟩,⟨some 53,.iaddr (.t 51) (.t 52) 114 5,some (50,false),[]⟩,⟨some 54,.faddr (.t 53) 0,some (50,false),[]⟩,⟨some 55,.load (.t 54) 1 false,some (50,false),[]⟩,⟨some 56,.lenS (.t 55),some (50,false),[]⟩,⟨some 57,.bin .gtr (.t 56) (ci 60),some (50,false),[]⟩,o1 58 (.pick (.t 50) (.c (.b true)) (.t 57))] [0,3,58] []) (.cond (.t 58) (.seq (.ops [o1 2 (.mv (.c (.b false)))] [2] []) .ret) .skip)
def f17_11:IC:=.seq (.block 1 (.seq (.ops [m1 12 0,m1 13 3,o1 14 (.iaddr (.t 12) (.t 13) 114 5),o1 15 (.faddr (.t 14) 2),o1 16 (.load (.t 15) 1 false),o1 17 (.lenS (.t 16)),m1 4 17] [0,3,4] []) (.seq (.seq (.ops [o1 5 (.mv (ci 0))] [0,3,4,5] []) (.block 2 (.loop f17_20))) f17_28))) (.ops [m1 10 3,o1 11 (.bin .add (.t 10) (ci 1)),m1 3 11] [0,3] [])
def f17_7:IC:=.seq (.seq (.ops [m1 6 3,m1 7 0,o1 8 (.lenL (.t 7)),o1 9 (.bin .lss (.t 6) (.t 8))] [0,3,9] []) (.cond (.t 9) .skip (.exit 0))) f17_11
def f17_34:IC:=.seq (.ops [m1 59 0,o1 60 (.lenL (.t 59)),o1 61 (.bin .leq (.t 60) (ci 30)),m1 2 61] [2] []) .ret
def f17_0:IC:=.seq (.ops [o1 2 (.mv (.c (.b false)))] [0] []) (.seq (.seq (.ops [o1 3 (.mv (ci 0))] [0,3] []) (.block 0 (.loop f17_7))) f17_34)
@[push_cast]def f17R:List R:=[.t 2]
@[push_cast]def f17e:=aWv f17_24.eq_1<|aWv f17_20.eq_1<|aWv f17_28.eq_1<|aWv f17_11.eq_1<|aWv f17_7.eq_1<|aWv f17_34.eq_1<|aWu f17_0.eq_1
theorem f17ok:okFn Tryz.prog 17 62 f17_0 f17R=true:=by kernel_rfl
def f28_8:IC:=.seq (.ops [o1 5 (.msl true 9 1 []),m1 6 0,o1 7 (.app (.t 5) (.t 6) 9 1),m1 2 7] [2] []) .ret
def f28_2:IC:=.seq (.seq (.ops [m1 3 0,o1 4 (.pu (.isnil false) [.t 3])] [0,4] []) (.cond (.t 4) (.seq (.ops [o1 2 (.mv (.c .nil))] [2] []) .ret) .skip)) f28_8
def f28_0:IC:=.seq (.ops [o1 2 (.mv (.c .nil))] [0] []) f28_2
@[push_cast]def f28R:List R:=[.t 2]
@[push_cast]def f28e:=aWv f28_8.eq_1<|aWv f28_2.eq_1<|aWu f28_0.eq_1
theorem f28ok:okFn Tryz.prog 28 8 f28_0 f28R=true:=by kernel_rfl

def f19_12:IC:=.seq (.seq (.ops [m1 14 4,o1 15 (.nilck (.t 14)),o1 16 (.faddr (.t 15) 1),o1 17 (.load (.t 16) 1 false)] [4,17] []) (.cond (.t 17) (.seq (.ops [o1 2 (.mv (.c .nil)),o1 3 (.mv (ci 11))] [2,3] []) .ret) .skip)) (.seq (.ops [m1 18 4,o1 19 (.calls 50 [.t 18]),m1 2 19,o1 3 (.mv (ci 0))] [2,3] []) .ret)
def f19_8:IC:=.seq (.ops [o1 8 (.mkm .mkmap []),o1 9 (.build [.nm,(.b false)] [(0,1,(.t 8))]),o1 10 (.box (.t 9)),m1 4 10] [0,4] []) (.seq (.ops [m1 11 4,m1 12 0,o1 13 (.calls 49 [.t 11,.t 12])] [4] []) f19_12)
def f19_2:IC:=.seq (.seq (.ops [m1 5 0,o1 6 (.call 37 [.t 5]),o1 7 (.not (.t 6))] [0,7] []) (.cond (.t 7) (.seq (.ops [o1 2 (.mv (.c .nil)),o1 3 (.mv (ci 1))] [2,3] []) .ret) .skip)) f19_8
def f19_0:IC:=.seq (.ops [o1 2 (.mv (.c .nil)),o1 3 (.mv (ci 0))] [0] []) f19_2
@[push_cast]def f19R:List R:=[.t 2,.t 3]
@[push_cast]def f19e:=aWv f19_12.eq_1<|aWv f19_8.eq_1<|aWv f19_2.eq_1<|aWu f19_0.eq_1
theorem f19ok:okFn Tryz.prog 19 20 f19_0 f19R=true:=by kernel_rfl
def f20_29:IC:=.seq (.ops [o1 30 (.load (.t 8) 5 true),o1 31 (.call 53 [.t 30]),o1 32 (.not (.t 31)),m1 33 32,⟨some 34,.faddr (.t 8) 1,some (33,false),[]⟩,⟨some 35,.load (.t 34) 1 false,some (33,false),[]⟩,⟨some 36,.faddr (.t 7) 1,some (33,false),[]⟩,⟨some 37,.load (.t 36) 1 false,some (33,false),[]⟩,⟨some 38,.call 54 [.t 35,.t 37],some (33,false),[]⟩,⟨some 39,.not (.t 38),some (33,false),[]⟩,o1 40 (.pick (.t 33) (.c (.b true)) (.t 39))] [1,6,13,14,15,40] []) (.cond (.t 40) (.seq (.ops [m1 41 6,m1 4 41,o1 5 (.mv (ci 11))] [4,5] []) .ret) .skip)
def f20_23:IC:=.seq (.seq (.ops [m1 27 9,o1 28 (.not (.t 27))] [1,6,7,8,13,14,15,28] []) (.cond (.t 28) (.seq (.ops [m1 29 6,m1 4 29,o1 5 (.mv (ci 12))] [4,5] []) .ret) .skip)) f20_29
def f20_21:IC:=.seq (.ops [m1 21 1,o1 22 (.faddr (.t 7) 0),o1 23 (.load (.t 22) 1 false),o1 24 (.call 52 [.t 21,.t 23]),m1 20 24,o1 25 (.ext (.t 20) 0),o1 26 (.ext (.t 20) 1),o1 8 (.alloc (.agg [(.s []),(.i .i64 0),(.s []),(.i .i64 0),.nil])),o0 (.store (.t 8) (.t 25) 5),m1 9 26] [1,6,7,8,9,13,14,15] []) f20_23
def f20_17:IC:=.seq (.block 1 (.seq (.ops [m1 17 15,o1 18 (.iaddr (.t 13) (.t 15) 129 2),o1 19 (.load (.t 18) 2 true),o1 7 (.alloc (.agg [(.s []),(.i .i64 0)])),m1 6 17,o0 (.store (.t 7) (.t 19) 2)] [1,6,7,13,14,15] []) f20_21)) (.ops [o1 42 (.bin .add (.t 15) (ci 1)),m1 15 42] [1,13,14,15] [])
def f20_13:IC:=.seq (.ops [o1 16 (.bin .lss (.t 15) (.t 14))] [1,13,14,15,16] []) (.seq (.cond (.t 16) .skip (.exit 0)) f20_17)
def f20_8:IC:=.seq (.seq (.ops [m1 13 0,o1 14 (.lenL (.t 13)),o1 15 (.mv (ci 0))] [1,13,14,15] []) (.block 0 (.loop f20_13))) (.seq (.ops [o1 4 (.mv (ci 0)),o1 5 (.mv (ci 0))] [4,5] []) .ret)
def f20_2:IC:=.seq (.seq (.ops [m1 10 0,o1 11 (.call 51 [.t 10]),o1 12 (.not (.t 11))] [0,1,12] []) (.cond (.t 12) (.seq (.ops [o1 4 (.mv (ci 0)),o1 5 (.mv (ci 1))] [4,5] []) .ret) .skip)) f20_8
def f20_0:IC:=.seq (.ops [o1 4 (.mv (ci 0)),o1 5 (.mv (ci 0))] [0,1] []) f20_2
@[push_cast]def f20R:List R:=[.t 4,.t 5]
@[push_cast]def f20e:=aWv f20_29.eq_1<|aWv f20_23.eq_1<|aWv f20_21.eq_1<|aWv f20_17.eq_1<|aWv f20_13.eq_1<|aWv f20_8.eq_1<|aWv f20_2.eq_1<|aWu f20_0.eq_1
theorem f20ok:okFn Tryz.prog 20 43 f20_0 f20R=true:=by kernel_rfl
def f51_15:IC:=.seq (.ops [o1 12 (.faddr (.t 4) 0),o1 13 (.load (.t 12) 1 false),o1 14 (.call 84 [.t 13]),o1 15 (.not (.t 14)),m1 16 15,⟨some 17,.faddr (.t 4) 1,some (16,false),[]⟩,⟨some 18,.load (.t 17) 1 false,some (16,false),[]⟩,⟨some 19,.call 105 [.t 18],some (16,false),[]⟩,⟨some 20,.not (.t 19),some (16,false),[]⟩,o1 21 (.pick (.t 16) (.c (.b true)) (.t 20)),m1 22 21,⟨some 23,.mv (.t 3),some (22,false),[]⟩,⟨some 24,.bin .gtr (.t 23) (ci 0),some (22,false),[]⟩,⟨some 25,.mv (.t 24),some (22,false),[]⟩,⟨some 26,.faddr (.t 4) 0,some (25,true),[]⟩,⟨some 27,.load (.t 26) 1 false,some (25,true),[]⟩,⟨some 28,.mv (.t 0),some (25,true),[]⟩,⟨some 29,.mv (.t 3),some (25,true),[]⟩,⟨some 30,.bin .sub (.t 29) (ci 1),some (25,true),[]⟩,⟨some 31,.iaddr (.t 28) (.t 30) 129 2,some (25,true),[]⟩,⟨some 32,.faddr (.t 31) 0,some (25,true),[]⟩,⟨some 33,.load (.t 32) 1 false,some (25,true),[]⟩,⟨some 34,.bin .leq (.t 27) (.t 33),some (25,true),[]⟩,⟨some 35,.pick (.t 25) (.t 34) (.c (.b false)),some (22,false),[]⟩,o1 36 (.pick (.t 22) (.c (.b true)) (.t 35))] [0,5,6,7,36] [[0,1],[1,2],[2,3],[3,4],[4,5],[4,6],[5,6],[4,7],[6,7],[4,8],[7,8],[4,9],[8,9],[9,10],[10,11],[10,12],[11,12],[10,13],[12,13],[13,14],[13,15],[14,15],[13,16],[13,17],[13,18],[17,18],[13,19],[16,19],[18,19],[13,20],[19,20],[13,21],[20,21],[13,22],[15,22],[21,22],[10,23],[13,23],[22,23],[10,24],[23,24]]) (.cond (.t 36) (.seq (.ops [o1 2 (.mv (.c (.b false)))] [2] []) .ret) .skip)
def f51_11:IC:=.seq (.block 1 (.seq (.ops [m1 9 7,o1 10 (.iaddr (.t 5) (.t 7) 129 2),o1 11 (.load (.t 10) 2 true),o1 4 (.alloc (.agg [(.s []),(.i .i64 0)])),m1 3 9,o0 (.store (.t 4) (.t 11) 2)] [0,3,4,5,6,7] []) f51_15)) (.ops [o1 37 (.bin .add (.t 7) (ci 1)),m1 7 37] [0,5,6,7] [])
def f51_7:IC:=.seq (.ops [o1 8 (.bin .lss (.t 7) (.t 6))] [0,5,6,7,8] []) (.seq (.cond (.t 8) .skip (.exit 0)) f51_11)
def f51_21:IC:=.seq (.ops [m1 38 0,o1 39 (.lenL (.t 38)),o1 40 (.bin .leq (.t 39) (ci 20)),m1 2 40] [2] []) .ret
def f51_2:IC:=.seq (.seq (.ops [m1 5 0,o1 6 (.lenL (.t 5)),o1 7 (.mv (ci 0))] [0,5,6,7] []) (.block 0 (.loop f51_7))) f51_21
def f51_0:IC:=.seq (.ops [o1 2 (.mv (.c (.b false)))] [0] []) f51_2
@[push_cast]def f51R:List R:=[.t 2]
@[push_cast]def f51e:=aWv f51_15.eq_1<|aWv f51_11.eq_1<|aWv f51_7.eq_1<|aWv f51_21.eq_1<|aWv f51_2.eq_1<|aWu f51_0.eq_1
theorem f51ok:okFn Tryz.prog 51 41 f51_0 f51R=true:=by kernel_rfl
def f54_2:IC:=.seq (.ops [m1 5 0,m1 6 1,o1 7 (.bin .eql (.t 5) (.t 6)),m1 8 7,⟨some 9,.mv (.t 1),some (8,false),[]⟩,⟨some 10,.bin .eql (.t 9) (ci 0),some (8,false),[]⟩,⟨some 11,.mv (.t 10),some (8,false),[]⟩,⟨some 12,.mv (.t 0),some (11,true),[]⟩,⟨some 13,.bin .neq (.t 12) (ci 4),some (11,true),[]⟩,⟨some 14,.pick (.t 11) (.t 13) (.c (.b false)),some (8,false),[]⟩,o1 15 (.pick (.t 8) (.c (.b true)) (.t 14)),m1 4 15] [4] []) .ret
def f54_0:IC:=.seq (.ops [o1 4 (.mv (.c (.b false)))] [0,1] []) f54_2
@[push_cast]def f54R:List R:=[.t 4]
@[push_cast]def f54e:=aWv f54_2.eq_1<|aWu f54_0.eq_1
theorem f54ok:okFn Tryz.prog 54 16 f54_0 f54R=true:=by kernel_rfl
def f101_7:IC:=.cond (.t 11) (.seq (.ops [o1 2 (.mv (ci 0)),o1 3 (.mv (.c (.b false)))] [2,3] []) .ret) .skip
def f101_10:IC:=.seq (.ops [m1 12 0,o1 13 (.pu (.aidx 10 1) [.t 4,.t 12]),o1 14 (.load (.t 13) 1 false),m1 2 14,o1 3 (.mv (.c (.b true)))] [2,3] []) .ret
def f101_4:IC:=.seq (.seq (.ops [m1 6 0,o1 7 (.bin .lss (.t 6) (ci 2)),m1 8 7,⟨some 9,.mv (.t 0),some (8,false),[]⟩,⟨some 10,.bin .geq (.t 9) (ci 10),some (8,false),[]⟩,o1 11 (.pick (.t 8) (.c (.b true)) (.t 10))] [0,4,11] []) f101_7) f101_10
def f101_2:IC:=.seq (.ops [o1 5 (.build [(.i .i64 0),(.i .i64 0),(.i .i64 0),(.i .i64 0),(.i .i64 0),(.i .i64 0),(.i .i64 0),(.i .i64 0),(.i .i64 0),(.i .i64 0)] [(2,1,(ci 0)),(3,1,(ci 2)),(4,1,(ci 2)),(5,1,(ci 3)),(6,1,(ci 4)),(7,1,(ci 2)),(8,1,(ci 2)),(9,1,(ci 1))]),o1 4 (.alloc (.agg [(.i .i64 0),(.i .i64 0),(.i .i64 0),(.i .i64 0),(.i .i64 0),(.i .i64 0),(.i .i64 0),(.i .i64 0),(.i .i64 0),(.i .i64 0)])),o0 (.store (.t 4) (.t 5) 10)] [0,4] []) f101_4
def f101_0:IC:=.seq (.ops [o1 2 (.mv (ci 0)),o1 3 (.mv (.c (.b false)))] [0] []) f101_2
@[push_cast]def f101R:List R:=[.t 2,.t 3]
@[push_cast]def f101e:=aWv f101_7.eq_1<|aWv f101_10.eq_1<|aWv f101_4.eq_1<|aWv f101_2.eq_1<|aWu f101_0.eq_1
theorem f101ok:okFn Tryz.prog 101 15 f101_0 f101R=true:=by kernel_rfl
def f105_2:IC:=.seq (.ops [m1 3 0,o1 4 (.bin .geq (.t 3) (ci 0)),m1 5 4,⟨some 6,.mv (.t 0),some (5,true),[]⟩,⟨some 7,.bin .leq (.t 6) (ci 4),some (5,true),[]⟩,o1 8 (.pick (.t 5) (.t 7) (.c (.b false))),m1 2 8] [2] []) .ret
def f105_0:IC:=.seq (.ops [o1 2 (.mv (.c (.b false)))] [0] []) f105_2
@[push_cast]def f105R:List R:=[.t 2]
@[push_cast]def f105e:=aWv f105_2.eq_1<|aWu f105_0.eq_1
theorem f105ok:okFn Tryz.prog 105 9 f105_0 f105R=true:=by kernel_rfl
def f143_21:IC:=.cond (.t 28) (.seq (.ops [m1 35 0,m1 4 35,o1 5 (.mv (.c (.b true)))] [4,5] []) .ret) .skip
def f143_19:IC:=.seq (.ops [m1 29 1,o1 30 (.bin .eql (.t 29) (ci 0)),m1 31 30,⟨some 32,.mv (.t 0),some (31,true),[]⟩,⟨some 33,.bin .neq (.t 32) (ci 4),some (31,true),[]⟩,o1 34 (.pick (.t 31) (.t 33) (.c (.b false))),m1 28 34] [0,28] []) f143_21
def f143_16:IC:=.cond (.t 20) (.seq (.ops [m1 27 1,m1 4 27,o1 5 (.mv (.c (.b true)))] [4,5] []) .ret) f143_19
def f143_14:IC:=.seq (.ops [m1 21 0,o1 22 (.bin .eql (.t 21) (ci 0)),m1 23 22,⟨some 24,.mv (.t 1),some (23,true),[]⟩,⟨some 25,.bin .neq (.t 24) (ci 4),some (23,true),[]⟩,o1 26 (.pick (.t 23) (.t 25) (.c (.b false))),m1 20 26] [0,1,20] []) f143_16
def f143_11:IC:=.cond (.t 15) (.seq (.ops [m1 19 0,m1 4 19,o1 5 (.mv (.c (.b true)))] [4,5] []) .ret) f143_14
def f143_9:IC:=.seq (.ops [m1 16 0,m1 17 1,o1 18 (.bin .eql (.t 16) (.t 17)),m1 15 18] [0,1,15] []) f143_11
def f143_6:IC:=.cond (.t 6) (.seq (.ops [o1 4 (.mv (ci 0)),o1 5 (.mv (.c (.b false)))] [4,5] []) .ret) f143_9
def f143_2:IC:=.seq (.block 0 (.seq (.ops [m1 7 0,o1 8 (.call 105 [.t 7]),o1 9 (.not (.t 8)),m1 10 9,⟨some 11,.mv (.t 1),some (10,false),[]⟩,⟨some 12,.call 105 [.t 11],some (10,false),[]⟩,⟨some 13,.not (.t 12),some (10,false),[]⟩,o1 14 (.pick (.t 10) (.c (.b true)) (.t 13)),m1 6 14] [0,1,6] []) f143_6)) (.seq (.ops [o1 4 (.mv (ci 0)),o1 5 (.mv (.c (.b false)))] [4,5] []) .ret)
def f143_0:IC:=.seq (.ops [o1 4 (.mv (ci 0)),o1 5 (.mv (.c (.b false)))] [0,1] []) f143_2
@[push_cast]def f143R:List R:=[.t 4,.t 5]
@[push_cast]def f143e:=aWv f143_21.eq_1<|aWv f143_19.eq_1<|aWv f143_16.eq_1<|aWv f143_14.eq_1<|aWv f143_11.eq_1<|aWv f143_9.eq_1<|aWv f143_6.eq_1<|aWv f143_2.eq_1<|aWu f143_0.eq_1
theorem f143ok:okFn Tryz.prog 143 36 f143_0 f143R=true:=by kernel_rfl
def f49_18:IC:=.ops [m1 23 0,o1 24 (.faddr (.t 5) 2),o1 25 (.load (.t 24) 1 false),m1 26 6,o1 27 (.calls 102 [.t 23,.t 25,.t 26])] [0,5,10,11,12] []
def f49_32:IC:=.ops [m1 35 0,o1 36 (.faddr (.t 9) 1),o1 37 (.load (.t 36) 1 false),o1 38 (.calls 49 [.t 35,.t 37])] [0,5,10,11,12,29,30,31] []
def f49_28:IC:=.seq (.block 3 (.seq (.ops [o1 33 (.iaddr (.t 29) (.t 31) 78 2),o1 34 (.load (.t 33) 2 true),o1 9 (.alloc (.agg [(.s []),.nil])),o0 (.store (.t 9) (.t 34) 2)] [0,5,9,10,11,12,29,30,31] []) f49_32)) (.ops [o1 39 (.bin .add (.t 31) (ci 1)),m1 31 39] [0,5,10,11,12,29,30,31] [])
def f49_24:IC:=.seq (.ops [o1 32 (.bin .lss (.t 31) (.t 30))] [0,5,10,11,12,29,30,31,32] []) (.seq (.cond (.t 32) .skip (.exit 2)) f49_28)
def f49_34:IC:=.ops [m1 40 0,o1 41 (.faddr (.t 5) 5),o1 42 (.load (.t 41) 1 false),o1 43 (.calls 49 [.t 40,.t 42])] [0,10,11,12] []
def f49_19:IC:=.seq (.seq (.ops [o1 28 (.faddr (.t 5) 4),o1 29 (.load (.t 28) 1 false),o1 30 (.lenL (.t 29)),o1 31 (.mv (ci 0))] [0,5,10,11,12,29,30,31] []) (.block 2 (.loop f49_24))) f49_34
def f49_12:IC:=.seq (.seq (.ops [o1 17 (.faddr (.t 5) 0),o1 18 (.load (.t 17) 1 false),o1 19 (.call 101 [.t 18]),m1 16 19,o1 20 (.ext (.t 16) 0),o1 21 (.ext (.t 16) 1),m1 6 20,m1 7 21] [0,5,6,7,10,11,12] []) (.seq (.ops [m1 22 7] [0,5,6,10,11,12,22] []) (.cond (.t 22) f49_18 .skip))) f49_19
def f49_8:IC:=.seq (.block 1 (.seq (.ops [o1 14 (.iaddr (.t 10) (.t 12) 43 6),o1 15 (.load (.t 14) 6 true),o1 5 (.alloc (.agg [(.i .i64 0),(.s []),(.s []),(.s []),.nil,.nil])),o0 (.store (.t 5) (.t 15) 6)] [0,5,10,11,12] []) f49_12)) (.ops [o1 44 (.bin .add (.t 12) (ci 1)),m1 12 44] [0,10,11,12] [])
def f49_4:IC:=.seq (.ops [o1 13 (.bin .lss (.t 12) (.t 11))] [0,10,11,12,13] []) (.seq (.cond (.t 13) .skip (.exit 0)) f49_8)
def f49_0:IC:=.seq (.ops [m1 10 1,o1 11 (.lenL (.t 10)),o1 12 (.mv (ci 0))] [0,10,11,12] []) (.block 0 (.loop f49_4))
@[push_cast]def f49R:List R:=[]
@[push_cast]def f49e:=aWv f49_18.eq_1<|aWv f49_32.eq_1<|aWv f49_28.eq_1<|aWv f49_24.eq_1<|aWv f49_34.eq_1<|aWv f49_19.eq_1<|aWv f49_12.eq_1<|aWv f49_8.eq_1<|aWv f49_4.eq_1<|aWu f49_0.eq_1
theorem f49ok:okFn Tryz.prog 49 45 f49_0 f49R=true:=by kernel_rfl
def f50_17:IC:=.ops [m1 17 3,m1 18 5,m1 19 0,o1 20 (.nilck (.t 19)),o1 21 (.faddr (.t 20) 0),o1 22 (.load (.t 21) 1 false),m1 23 5,o1 24 (.rdm (.mget .str (.i .i64 0) false) (.t 22) [.t 23]),o1 25 (.build [(.s []),(.i .i64 0)] [(0,1,(.t 18)),(1,1,(.t 24))]),o1 26 (.msl false 129 2 [.t 25]),o1 27 (.app (.t 17) (.t 26) 129 2),m1 3 27] [0,3,11,12,13] []
def f50_13:IC:=.seq (.block 1 (.seq (.ops [o1 15 (.iaddr (.t 11) (.t 13) 9 1),o1 16 (.load (.t 15) 1 false),m1 5 16] [0,3,5,11,12,13] []) f50_17)) (.ops [o1 28 (.bin .add (.t 13) (ci 1)),m1 13 28] [0,3,11,12,13] [])
def f50_9:IC:=.seq (.ops [o1 14 (.bin .lss (.t 13) (.t 12))] [0,3,11,12,13,14] []) (.seq (.cond (.t 14) .skip (.exit 0)) f50_13)
def f50_4:IC:=.seq (.seq (.opx [m1 6 0,o1 7 (.nilck (.t 6)),o1 8 (.faddr (.t 7) 0),o1 9 (.load (.t 8) 1 false)] [0,3,9] 10 104 [(.t 9)] [o1 11 (.calln 103 [.t 10]),o1 12 (.lenL (.t 11)),o1 13 (.mv (ci 0))] [0,3,11,12,13]) (.block 0 (.loop f50_9))) (.seq (.ops [m1 29 3,m1 2 29] [2] []) .ret)
def f50_0:IC:=.seq (.ops [o1 2 (.mv (.c .nil))] [0] []) (.seq (.ops [o1 3 (.mv (.c .nil))] [0,3] []) f50_4)
@[push_cast]def f50R:List R:=[.t 2]
@[push_cast]def f50e:=aWv f50_17.eq_1<|aWv f50_13.eq_1<|aWv f50_9.eq_1<|aWv f50_4.eq_1<|aWu f50_0.eq_1
theorem f50ok:okFn Tryz.prog 50 30 f50_0 f50R=true:=by kernel_rfl
def f102_6:IC:=.seq (.ops [m1 21 0,o1 22 (.nilck (.t 21)),o1 23 (.faddr (.t 22) 0),o1 24 (.load (.t 23) 1 false),m1 25 1,m1 26 2,o0 (.wrm (.mput .str) (.t 24) [.t 25,.t 26])] [] []) .ret
def f102_12:IC:=.ops [m1 39 0,m1 40 0,o1 41 (.nilck (.t 40)),o1 42 (.faddr (.t 41) 1),o1 43 (.load (.t 42) 1 false),m1 44 43,⟨some 45,.mv (.t 9),some (44,false),[]⟩,⟨some 46,.not (.t 45),some (44,false),[]⟩,o1 47 (.pick (.t 44) (.c (.b true)) (.t 46)),o1 48 (.nilck (.t 39)),o1 49 (.faddr (.t 48) 1),o0 (.store (.t 49) (.t 47) 1)] [] []
def f102_10:IC:=.seq (.ops [m1 33 0,o1 34 (.nilck (.t 33)),o1 35 (.faddr (.t 34) 0),o1 36 (.load (.t 35) 1 false),m1 37 1,m1 38 8,o0 (.wrm (.mput .str) (.t 36) [.t 37,.t 38])] [0,9] []) f102_12
def f102_8:IC:=.seq (.ops [m1 28 6,m1 29 2,o1 30 (.call 143 [.t 28,.t 29]),m1 27 30,o1 31 (.ext (.t 27) 0),o1 32 (.ext (.t 27) 1),m1 8 31,m1 9 32] [0,1,8,9] []) f102_10
def f102_2:IC:=.seq (.seq (.ops [m1 19 7,o1 20 (.not (.t 19))] [0,1,2,6,20] []) (.cond (.t 20) f102_6 .skip)) f102_8
def f102_0:IC:=.seq (.ops [m1 11 0,o1 12 (.nilck (.t 11)),o1 13 (.faddr (.t 12) 0),o1 14 (.load (.t 13) 1 false),m1 15 1,o1 16 (.rdm (.mget .str (.i .i64 0) true) (.t 14) [.t 15]),m1 10 16,o1 17 (.ext (.t 10) 0),o1 18 (.ext (.t 10) 1),m1 6 17,m1 7 18] [0,1,2,6,7] []) f102_2
@[push_cast]def f102R:List R:=[]
@[push_cast]def f102e:=aWv f102_6.eq_1<|aWv f102_12.eq_1<|aWv f102_10.eq_1<|aWv f102_8.eq_1<|aWv f102_2.eq_1<|aWu f102_0.eq_1
theorem f102ok:okFn Tryz.prog 102 50 f102_0 f102R=true:=by kernel_rfl
end Go.Ir
namespace Go.Ir
open Go.Proofs
variable (W0 : World)

structure Val where
 name:Bytes
 type:Int
 text:Bytes
 date:Int
 list:List Bytes
def Val.enc (v:Val):V:=.agg [.s v.name,.i .i64 v.type,.s v.text,.i .i64 v.date,.sl (v.list.map V.s)]
def Val.wt (v:Val):Nat:=1+v.name.length+v.text.length+v.list.length
theorem Val.enc_eq (v:Val):v.enc = .agg [.s v.name,.i .i64 v.type,.s v.text,.i .i64 v.date,.sl (v.list.map V.s)]:=rfl
def val0:V:=.agg [.s [],.i .i64 0,.s [],.i .i64 0,.nil]
def getV:List Val->Bytes->Option Val
 | [],_=>none
 | v::vs,n=>if v.name == n then some v else getV vs n
def gV:Option Val->V
 | none=>val0
 | some v=>v.enc
def getR (o:Option Val):V:=.tup [gV o,.b o.isSome]
theorem getV_mem {vs:List Val} {n:Bytes} {v:Val} (h:getV vs n=some v):v∈vs:=by
 induction vs with
 | nil=>cases h
 | cons x vs ih=>
  rw [getV] at h
  split at h
  ·cases h;simp
  ·exact List.mem_cons_of_mem _ (ih h)
theorem c_getV1 (v:Val) (n:Bytes) (nid:Id) (σ:Sto) (hn:lk σ nid=some (.box (.s n))):RetS Tryz.prog W0 107 [v.enc,.ref nid 0] σ (.b (v.name == n)) σ:=by
 refine fn_retW (vs:=[.b (v.name == n)]) f107ok (by simp) (fun _ h=>h) fun n0 hn0=>?_
 have h1:∀j,((n0,j)=nid)=False:=fun j=>ne_idx (hn0 _ _ hn)
 simp only [push_cast,seval,reduceEqDiff,h1,hn,Val.enc_eq]
 repeat' (first|(((first|apply condU_s|apply gdU_t|apply gdU_f)<;>intro _h)<;>simp only [push_cast,seval,reduceEqDiff,_h,h1,hn,Val.enc_eq])|intro _)
 all_goals (refine finW_retS (by simp [get, *]) (fun i e h=>lk_fresh (hn0 i e h) h))
theorem okSt (l:List Bytes):∀y∈l.map V.s,y.ok=true:=by
 intro y hy;obtain ⟨x,_,rfl⟩:=List.mem_map.1 hy;rfl
theorem celSt (l:List Bytes):∀y∈l.map V.s,(cells y).length=1:=by
 intro y hy;obtain ⟨x,_,rfl⟩:=List.mem_map.1 hy;rfl
theorem c_cloneS (l:List Bytes) (hl:l.length<=2^30):RetS Tryz.prog W0 28 [.sl (l.map V.s)] [] (.sl (l.map V.s)) []:=by
 refine fn_retW (vs:=[.sl (l.map V.s)]) f28ok (by simp) (by simp) fun n0 hn0=>?_
 clear hn0
 have hll:l.length<=LLim:=by unfold LLim;omega
 cases l with
 | nil=>
  simp only [push_cast,seval,reduceEqDiff,List.map_nil,List.length_nil,eq_true (show 0<=LLim by decide),eq_true (celSt [])]
  intros
  refine ⟨?_,?_⟩
  ·intros
   exact finW_nil rfl
  ·intros
   exact finW_frz (e:=9) (sz:=1) rfl (okSt []) (by simp [lk])
 | cons c cs=>
  have hcel:=celSt (c::cs)
  rw [List.map_cons] at hcel
  rw [List.map_cons] at *
  rw [List.length_cons] at hll
  simp only [push_cast,seval,reduceEqDiff,List.length_nil,eq_true (show 0<=LLim by decide),eq_true hcel,List.nil_append,eq_true hll]
  intros
  exact finW_frz (e:=9) (sz:=1) rfl (okSt (c::cs)) (by simp [lk])
theorem elVal (v:Val):ElOk true 5 v.enc:=elOk_agg rfl
theorem ifVal:okFn Tryz.prog 106 19 (gIF_0 114 5 true) gIFR=true:=by kernel_rfl
theorem idxV (vs:List Val) (n:Bytes):(idxI (fun v=>v.name == n) vs<0/\getV vs n=none)\/∃(j:Nat) (v:Val),idxI (fun v=>v.name == n) vs=(j:Nat)/\vs[j]? = some v/\getV vs n=some v:=by
 induction vs with
 | nil=>left;exact ⟨by simp [idxI],rfl⟩
 | cons x vs ih=>
  rw [getV]
  cases hx:(x.name == n) with
  | true=>right;exact ⟨0,x,by simp [idxI,hx],rfl,rfl⟩
  | false=>
   rcases ih with ⟨h1,h2⟩|⟨j,v,h1,h2,h3⟩
   ·left;refine ⟨?_,by simpa using h2⟩
    simp [idxI,hx,h1]
   ·right;refine ⟨j+1,v,?_,by simpa using h2,by simpa using h3⟩
    simp only [idxI,hx,cond_false,h1]
    rw [if_neg (by omega)];simp
theorem c_getVal (vs:List Val) (n:Bytes) (hl:vs.length<=2^40) (hw:∀v∈vs,v.list.length<=2^30):RetS Tryz.prog W0 52 [.sl (vs.map Val.enc),.s n] [] (getR (getV vs n)) []:=by
 have hix:=fun nid σ hn=>indexFunc_ret W0 ifVal Val.enc vs (fun v=>v.name == n) 107 [] [.ref nid 0] σ (fun x _=>elVal x) (fun x _=>c_getV1 W0 x n nid σ hn) (by omega)
 unfold getR
 refine fn_retW (vs:=[gV (getV vs n),.b (getV vs n).isSome]) f52ok (by simp) (by simp) fun n0 hn0=>?_
 clear hn0
 simp only [push_cast,seval,reduceEqDiff]
 intro k1
 refine c_calls (hix (n0,3) _ (by simp [lk])) (fun _ _ h=>h) ?_
 rw [over_self]
 rcases idxV vs n with ⟨h1,h2⟩|⟨j,v,h1,h2,h3⟩
 ·have h1':decide (idxI (fun v=>v.name == n) vs<0)=true:=by simpa using h1
  rw [h2]
  simp only [push_cast,seval,reduceEqDiff,h1']
  intros
  refine finW_rets ?_
  simp [push_cast,get,gV,val0]
 ·have hc:=c_cloneS W0 v.list (hw v (getV_mem h3))
  have hget:(vs.map Val.enc)[j]? = some v.enc:=by rw [List.getElem?_map,h2];rfl
  have hj:=(List.getElem?_eq_some_iff.1 h2).1
  have hj0:decide ((j:Int)<0)=false:=by simp
  rw [h3,h1]
  simp only [push_cast,seval,reduceEqDiff,hj0,hget,if_pos hj,Val.enc_eq,List.length_map]
  repeat' (first|(((first|apply condU_s|apply gdU_t|apply gdU_f)<;>intro _h)<;>simp only [push_cast,seval,reduceEqDiff,_h,hj0,hget,if_pos hj,Val.enc_eq,List.length_map])|(refine c_call (by exact hc) ?_;simp only [push_cast,seval,reduceEqDiff,hj0,hget,if_pos hj,Val.enc_eq,List.length_map])|intro _)
  refine finW_rets ?_
  simp [push_cast,get,gV,Val.enc_eq]
def propV (v:Val):Bool:=
 if v.type == 1 then v.date == 0&&(v.list.length:Int) == 0 else if v.type == 2 then numB v.text&&v.date == 0&&(v.list.length:Int) == 0
 else if v.type == 3 then v.text == []&&(v.list.length:Int) == 0 else if v.type == 4 then v.text == []&&v.date == 0 else false
theorem c_sProper (v:Val) (ht:v.text.length<=2^30):RetS Tryz.prog W0 53 [v.enc] [] (.b (propV v)) []:=by
 have hn:=c_dValid W0 v.text (by omega)
 generalize hS:propV v=S
 unfold propV at hS
 refine fn_retW (vs:=[.b S]) f53ok (by simp) (by simp) fun n0 hn0=>?_
 clear hn0
 simp only [push_cast,seval,reduceEqDiff,Val.enc_eq,List.length_map]
 repeat' (first|(((first|apply condU_s|apply gdU_t|apply gdU_f)<;>intro _h)<;>simp only [push_cast,seval,reduceEqDiff,_h,Val.enc_eq,List.length_map])|(refine c_call (by exact hn) ?_;simp only [push_cast,seval,reduceEqDiff,Val.enc_eq,List.length_map])|intro _)
 all_goals (refine finW_ret ?_;simp only [get_cons,bq, *] at hS⊢;first|done|simp [<-hS, *])
def keyW (keys:List Bytes):List Bytes->Int
 | []=>IntKind.i64.wrap ((keys.length:Int)-1)
 | w::ws=>if idxI (fun x=>w == x) keys<0 then keyW keys ws else idxI (fun x=>w == x) keys
def wantK (l:Loc) (s:Sel) (v:Val):List Bytes:=if s.kind == 9 then [v.text] else [61::v.text,clsN l s.kind v.text]
def keyP (l:Loc) (s:Sel) (v:Val):Int:=keyW s.keys (wantK l s v)
set_option maxHeartbeats 4000000 in
theorem c_key (l:Loc) (s:Sel) (v:Val) (hr:(Loc.enc l).ok=true) (hrl:l.rest.length=11) (hb:wtRules l.card+wtRules l.ord<=2^24) (ht:v.text.length<=2^29) (hk:s.keys.length<=2^30) :
  RetS Tryz.prog W0 55 [l.enc,s.enc,v.enc] [] (.i .i64 (keyP l s v)) []:=by
 unfold keyP
 generalize hS:keyW s.keys (wantK l s v)=S
 refine fn_retW (vs:=[.i .i64 S]) f55ok (by simp) (by simp) fun n0 hn0=>?_
 clear hn0
 have hru:=c_rules W0 l s.kind hr
 have hwr:wtRules (rulesOf l s.kind)<=2^30:=by unfold rulesOf;split<;>omega
 have hcl:=c_class W0 (rulesOf l s.kind) v.text (by omega) hwr
 have hLE:=Loc.enc_eq l
 rw [hLE] at hru⊢
 unfold wantK clsN at hS
 generalize (classV (rulesOf l s.kind) v.text).1=CN at *
 generalize (classV (rulesOf l s.kind) v.text).2=CE at *
 unfold Sel.enc Val.enc
 have hsl:[(61:UInt8)].length+v.text.length<SLim:=by unfold SLim;simp;omega
 have hix:=fun w:Bytes=>indexS_ret W0 ixStr s.keys w (by omega)
 obtain ⟨r1,r2,r3,r4,r5,r6,r7,r8,r9,r10,r11,hrest⟩:=rest11 hrl
 rw [hrest] at hru⊢
 have hloop:∀(n:Nat) (W:List Bytes) (Q:Exit->St->Prop),W.length<=2->keyW s.keys W=S->
   (∀n,Q .ret ⟨[(6,.i .i64 S)],[((n0,5),.box (.agg [.s v.name,.i .i64 v.type,.s v.text,.i .i64 v.date,.sl (v.list.map V.s)])),((n0,4),.box (.agg [.i .i64 s.kind,.s s.name,.sl (s.keys.map V.s)])),((n0,3),.box (.agg [.s l.tag,.s l.parent,.s l.dir,.sl (l.card.map Rule.enc),.sl (l.ord.map Rule.enc),r1,r2,r3,r4,r5,r6,r7,r8,r9,r10,r11]))],n⟩)->
   (∀n,IntKind.i64.wrap ((s.keys.length:Int)-1)=S->Q (.exit 0) ⟨[(4,.ref (n0,4) 0),(34,.sl (W.map V.s)),(35,.i .i64 W.length),(36,.i .i64 W.length),(37,.b false)],[((n0,5),.box (.agg [.s v.name,.i .i64 v.type,.s v.text,.i .i64 v.date,.sl (v.list.map V.s)])),((n0,4),.box (.agg [.i .i64 s.kind,.s s.name,.sl (s.keys.map V.s)])),((n0,3),.box (.agg [.s l.tag,.s l.parent,.s l.dir,.sl (l.card.map Rule.enc),.sl (l.ord.map Rule.enc),r1,r2,r3,r4,r5,r6,r7,r8,r9,r10,r11]))],n⟩)->
   LoopW Tryz.prog W0 52 f55_16 Q ⟨[(4,.ref (n0,4) 0),(34,.sl (W.map V.s)),(35,.i .i64 W.length),(36,.i .i64 0)],[((n0,5),.box (.agg [.s v.name,.i .i64 v.type,.s v.text,.i .i64 v.date,.sl (v.list.map V.s)])),((n0,4),.box (.agg [.i .i64 s.kind,.s s.name,.sl (s.keys.map V.s)])),((n0,3),.box (.agg [.s l.tag,.s l.parent,.s l.dir,.sl (l.card.map Rule.enc),.sl (l.ord.map Rule.enc),r1,r2,r3,r4,r5,r6,r7,r8,r9,r10,r11]))],n⟩:=by
  intro n1 W Q hW hs hQr hQe
  refine aWP_loopW W.length (Inv:=fun m st=>∃done rest n,W=done++rest/\m=rest.length/\keyW s.keys rest=S/\st=⟨[(4,.ref (n0,4) 0),(34,.sl (W.map V.s)),(35,.i .i64 W.length),(36,.i .i64 done.length)],[((n0,5),.box (.agg [.s v.name,.i .i64 v.type,.s v.text,.i .i64 v.date,.sl (v.list.map V.s)])),((n0,4),.box (.agg [.i .i64 s.kind,.s s.name,.sl (s.keys.map V.s)])),((n0,3),.box (.agg [.s l.tag,.s l.parent,.s l.dir,.sl (l.card.map Rule.enc),.sl (l.ord.map Rule.enc),r1,r2,r3,r4,r5,r6,r7,r8,r9,r10,r11]))],n⟩) ⟨_,StLe.refl,[],W,_,rfl,rfl,hs,rfl⟩ ?_
  clear hs n1
  rintro m _ ⟨done,rest,n,hz,rfl,hs,rfl⟩
  cases rest with
  | nil=>
   simp only [push_cast,seval,reduceEqDiff,hz]
   intros
   rw [List.append_nil] at hz
   subst hz
   exact hQe _ hs
  | cons w rest=>
   have hbd:=zip_bd hz
   rw [keyW] at hs
   have hi:=hix w
   generalize idxI (fun x=>w == x) s.keys=I at *
   simp only [push_cast,seval,reduceEqDiff,hz,wrap_zip w (done:=done) (by omega)]
   repeat' (first|(((first|apply condU_s|apply gdU_t|apply gdU_f)<;>intro _h)<;>simp only [push_cast,seval,reduceEqDiff,_h,hz,wrap_zip w (done:=done) (by omega)])|(refine c_call (by exact hi) ?_;simp only [push_cast,seval,reduceEqDiff,hz,wrap_zip w (done:=done) (by omega)])|intro _)
   ·have hI:I>=0:=of_decide_eq_true _h
    rw [if_neg (by omega)] at hs
    subst hs
    exact hQr _
   ·have hI:¬I>=0:=of_decide_eq_false _h
    rw [if_pos (by omega)] at hs
    exact ⟨_,_,Nat.lt_succ_self _,StLe.refl,done++[w],rest,_,by simp,rfl,hs,rfl⟩
 cases hk9:(s.kind == 9) with
 | true=>
  have hkb:(s.kind != 9)=false:=by unfold bne;rw [hk9];rfl
  rw [hk9] at hS
  simp only [push_cast,seval,reduceEqDiff,hkb,List.length_map]
  intros
  refine hloop _ [v.text] _ (by simp) hS (fun n=>?_) (fun n hSS=>?_)
  ·exact finW_ret (by simp [get])
  ·simp only [push_cast,seval,reduceEqDiff,hkb,List.length_map]
   intros
   exact finW_ret (by simp [get,hSS])
 | false=>
  have hkb:(s.kind != 9)=true:=by unfold bne;rw [hk9];rfl
  rw [hk9] at hS
  simp only [push_cast,seval,reduceEqDiff,hkb,eq_true hsl,List.length_map]
  repeat' (first|(((first|apply condU_s|apply gdU_t|apply gdU_f)<;>intro _h)<;>simp only [push_cast,seval,reduceEqDiff,_h,hkb,eq_true hsl,List.length_map])|((first|refine c_call (by exact hru) ?_|refine c_call (by exact hcl) ?_|refine jp_i (by simp only [List.length_append,List.length_cons,List.length_nil,SLim]<;>omega) ?_);simp only [push_cast,seval,reduceEqDiff,hkb,eq_true hsl,List.length_map])|intro _)
  refine hloop _ [61::v.text,CN] _ (by simp) hS (fun n=>?_) (fun n hSS=>?_)
  ·exact finW_ret (by simp [get])
  ·simp only [push_cast,seval,reduceEqDiff,hkb,eq_true hsl,List.length_map]
   intros
   exact finW_ret (by simp [get,hSS])
def selV (kind:Int) (name:Bytes) (vs:List Val):Option Val × Int:=
 match getV vs name with
 | none=>(none,12)
 | some v=>if !propV v||v.type != (if kind == 9 then 1 else 2) then (none,11) else (some v,0)
def selGo (l:Loc) (vs:List Val):List Sel->Int->Int × Int
 | [],n=>(n,0)
 | s::L,n=>match (selV s.kind s.name vs).1 with
  | none=>(0,(selV s.kind s.name vs).2)
  | some v=>selGo l vs L (IntKind.i64.wrap (IntKind.i64.wrap (n*(s.keys.length:Int))+keyP l s v))
theorem zipE {s:Sel} {done rest L:List Sel} (h:L=done++s::rest):(L.map Sel.enc)[done.length]? = some (.agg [.i .i64 s.kind,.s s.name,.sl (s.keys.map V.s)]):=by
 rw [h,List.getElem?_map,List.getElem?_append_right (by simp)];simp [Sel.enc]
set_option maxHeartbeats 4000000 in
theorem c_Select (l:Loc) (f:FormP) (vs:List Val) (hrl:l.rest.length=11) (hb:wtRules l.card+wtRules l.ord<=2^24) (h1:f.1.length<=2^26) (hk:∀s∈f.1,s.keys.length<=2^26/\s.name.length<=2^30)
  (hl:vs.length<=2^40) (ht:∀v∈vs,v.text.length<=2^29/\v.list.length<=2^30) :
  RetS Tryz.prog W0 21 [l.enc,formV f,.sl (vs.map Val.enc)] [] (.tup [.i .i64 (if !soundP f then (0,1) else if !rulesF [] l.card||!rulesF [] l.ord then (0,18) else selGo l vs f.1 0).1,.i .i64 (if !soundP f then (0,1) else if !rulesF [] l.card||!rulesF [] l.ord then (0,18) else selGo l vs f.1 0).2]) []:=by
 have hso:=c_Sound W0 f h1 hk
 have hva:=c_pValid W0 l.card (by omega)
 have hvb:=c_pValid W0 l.ord (by omega)
 have hke:=fun s v (h2:v.text.length<=2^29) (h3:s.keys.length<=2^30)=>c_key W0 l s v rfl hrl hb h2 h3
 obtain ⟨L,VS⟩:=f
 simp only at h1 hk
 obtain ⟨r1,r2,r3,r4,r5,r6,r7,r8,r9,r10,r11,hrest⟩:=rest11 hrl
 have hLV:l.enc = .agg [.s l.tag,.s l.parent,.s l.dir,.sl (l.card.map Rule.enc),.sl (l.ord.map Rule.enc),r1,r2,r3,r4,r5,r6,r7,r8,r9,r10,r11]:=by
  rw [Loc.enc_eq,hrest]
 rw [hLV] at hke⊢
 generalize hS:(if !soundP (L,VS) then ((0,1):Int × Int) else if !rulesF [] l.card||!rulesF [] l.ord then (0,18) else selGo l vs L 0)=S
 generalize soundP (L,VS)=SP at *
 unfold formV at hso⊢
 simp only at hso⊢
 generalize rulesF [] l.card=RC at *
 generalize rulesF [] l.ord=RO at *
 refine fn_retW (vs:=[.i .i64 S.1,.i .i64 S.2]) f21ok (by simp) (by simp) fun n0 hn0=>?_
 clear hn0
 cases SP
 ·simp only [bq,if_true,if_false,Int.reduceBEq,reduceCtorEq] at hS
  subst hS
  simp only [push_cast,seval,reduceEqDiff]
  repeat' (first|(((first|apply condU_s|apply gdU_t|apply gdU_f)<;>intro _h)<;>simp only [push_cast,seval,reduceEqDiff,_h])|(refine c_call (by exact hso) ?_;simp only [push_cast,seval,reduceEqDiff])|intro _)
  all_goals (refine finW_rets ?_;simp [push_cast,get])
 cases RC
 ·simp only [bq,if_true,if_false,Int.reduceBEq,reduceCtorEq] at hS
  subst hS
  simp only [push_cast,seval,reduceEqDiff]
  repeat' (first|(((first|apply condU_s|apply gdU_t|apply gdU_f)<;>intro _h)<;>simp only [push_cast,seval,reduceEqDiff,_h])|((first|refine c_call (by exact hso) ?_|refine c_call (by exact hva) ?_);simp only [push_cast,seval,reduceEqDiff])|intro _)
  all_goals (refine finW_rets ?_;simp [push_cast,get])
 cases RO
 ·simp only [bq,if_true,if_false,Int.reduceBEq,reduceCtorEq] at hS
  subst hS
  simp only [push_cast,seval,reduceEqDiff]
  repeat' (first|(((first|apply condU_s|apply gdU_t|apply gdU_f)<;>intro _h)<;>simp only [push_cast,seval,reduceEqDiff,_h])|((first|refine c_call (by exact hso) ?_|refine c_call (by exact hva) ?_|refine c_call (by exact hvb) ?_);simp only [push_cast,seval,reduceEqDiff])|intro _)
  all_goals (refine finW_rets ?_;simp [push_cast,get])
 simp only [bq,if_true,if_false,Int.reduceBEq,reduceCtorEq] at hS
 simp only [push_cast,seval,reduceEqDiff,List.length_map]
 repeat' (first|(((first|apply condU_s|apply gdU_t|apply gdU_f)<;>intro _h)<;>simp only [push_cast,seval,reduceEqDiff,_h,List.length_map])|((first|refine c_call (by exact hso) ?_|refine c_call (by exact hva) ?_|refine c_call (by exact hvb) ?_);simp only [push_cast,seval,reduceEqDiff,List.length_map])|intro _)
 clear hso hva hvb
 refine aWP_loopW L.length (Inv:=fun m st=>∃done rest n a,L=done++rest/\m=rest.length/\selGo l vs rest a=S/\n0<n/\st=⟨[(2,.sl (vs.map Val.enc)),(3,.ref (n0,3) 0),(8,.i .i64 a),(28,.sl (L.map Sel.enc)),(29,.i .i64 L.length),(30,.i .i64 done.length)],[((n0,4),.box (.agg [.sl (L.map Sel.enc),.sl (VS.map vEnc)])),((n0,3),.box (.agg [.s l.tag,.s l.parent,.s l.dir,.sl (l.card.map Rule.enc),.sl (l.ord.map Rule.enc),r1,r2,r3,r4,r5,r6,r7,r8,r9,r10,r11]))],n⟩) ⟨_,StLe.refl,[],L,_,0,rfl,rfl,hS,by (try simp only);omega,rfl⟩ ?_
 clear hS
 rintro m _ ⟨done,rest,n,a,hz,rfl,hd,hn,rfl⟩
 cases rest with
 | nil=>
  have hlt0:decide ((done.length:Int)<(L.length:Int))=false:=by rw [hz];simp
  simp only [selGo] at hd
  subst hd
  simp only [push_cast,seval,reduceEqDiff,hlt0]
  intros
  refine finW_rets ?_
  simp [push_cast,get]
 | cons s rest=>
  have hlt0:decide ((done.length:Int)<(L.length:Int))=true:=by rw [hz];simp;omega
  have hbd:=zip_bd hz
  have hget:=zipE hz
  obtain ⟨hks,hns⟩:=hk s (by rw [hz];simp)
  have hg:=c_getVal W0 vs s.name hl (fun v hv=>(ht v hv).2)
  rw [selGo] at hd
  unfold selV at hd
  have f1:∀k j q:Nat,((n+1+k,j)=(n0,q))=False:=fun k j q=>eq_false fun he=>by injection he with h1 h2;omega
  have f1':∀k j q:Nat,((n0,q)=(n+1+k,j))=False:=fun k j q=>eq_false fun he=>of_eq_false (f1 k j q) he.symm
  cases hv:getV vs s.name with
  | none=>
   rw [hv] at hg hd
   unfold getR gV val0 at hg
   simp only [Option.isSome_none] at hg
   simp only at hd
   subst hd
   simp only [push_cast,seval,reduceEqDiff,hlt0,hget,if_pos hbd,List.length_map,f1,f1']
   repeat' (first|(((first|apply condU_s|apply gdU_t|apply gdU_f)<;>intro _h)<;>simp only [push_cast,seval,reduceEqDiff,_h,hlt0,hget,if_pos hbd,List.length_map,f1,f1'])|(refine c_call (by exact hg) ?_;simp only [push_cast,seval,reduceEqDiff,hlt0,hget,if_pos hbd,List.length_map,f1,f1'])|intro _)
   all_goals (refine finW_rets ?_;simp [push_cast,get])
  | some v=>
   have htv:=ht v (getV_mem hv)
   have hp:=c_sProper W0 v (by omega)
   have hkk:=hke s v htv.1 (by omega)
   rw [hv] at hg hd
   simp only at hd
   unfold getR gV at hg
   simp only [Option.isSome_some] at hg
   rw [Val.enc_eq] at hg hp hkk
   unfold Sel.enc at hkk
   generalize propV v=PV at *
   generalize hKP:keyP l s v=KP at *
   cases PV with
   | false=>
    simp only [bq,if_true,if_false,Int.reduceBEq,reduceCtorEq] at hd
    subst hd
    cases hk9:s.kind == 9
    all_goals
     simp only [push_cast,seval,reduceEqDiff,hlt0,hget,if_pos hbd,List.length_map,f1,f1',hk9]
     repeat' (first|(((first|apply condU_s|apply gdU_t|apply gdU_f)<;>intro _h)<;>simp only [push_cast,seval,reduceEqDiff,_h,hlt0,hget,if_pos hbd,List.length_map,f1,f1',hk9])|((first|refine c_call (by exact hg) ?_|refine c_call (by exact hp) ?_);simp only [push_cast,seval,reduceEqDiff,hlt0,hget,if_pos hbd,List.length_map,f1,f1',hk9])|intro _)
     all_goals (refine finW_rets ?_;simp [push_cast,get])
   | true=>
    cases hk9:s.kind == 9
    all_goals
     rw [hk9] at hd
     simp only [bq,if_true,if_false,Int.reduceBEq,reduceCtorEq] at hd
     simp only [push_cast,seval,reduceEqDiff,hlt0,hget,if_pos hbd,List.length_map,f1,f1',hk9,wrap_zip s (done:=done) (by omega)]
     repeat' (first|(((first|apply condU_s|apply gdU_t|apply gdU_f)<;>intro _h)<;>simp only [push_cast,seval,reduceEqDiff,_h,hlt0,hget,if_pos hbd,List.length_map,f1,f1',hk9,wrap_zip s (done:=done) (by omega)])|((first|refine c_call (by exact hg) ?_|refine c_call (by exact hp) ?_|refine c_call (by exact hkk) ?_);simp only [push_cast,seval,reduceEqDiff,hlt0,hget,if_pos hbd,List.length_map,f1,f1',hk9,wrap_zip s (done:=done) (by omega)])|intro _)
     ·have _g:=_h
      simp only [_g,if_true] at hd
      subst hd
      refine finW_rets ?_
      simp [push_cast,get]
     ·have _g:=_h
      simp only [_g,Bool.false_eq_true,if_false,hKP] at hd
      exact ⟨_,_,Nat.lt_succ_self _,(StLe.drop1 (by simp [lk]) (Nat.le_refl _)).trans (StLe.drop1 (by simp [lk]) (Nat.le_refl _)),done++[s],rest,_,_,by rw [hz];simp,rfl,hd,by omega,rfl⟩

def maxL:List Bytes->Int->Int
 | [],n=>n
 | x::r,n=>maxL r (max n (x.length:Int))
def fewVals (e:Bool):List Val->Bool
 | []=>e
 | v::r=>!(decide (maxL v.list (v.text.length:Int)>200)||decide ((v.list.length:Int)>12)||decide ((v.name.length:Int)>60))&&fewVals e r
set_option maxHeartbeats 4000000 in
theorem c_fewVals (vs:List Val) (hl:vs.length<=2^40) (hw:∀v∈vs,v.list.length<=2^40):RetS Tryz.prog W0 17 [.sl (vs.map Val.enc)] [] (.b (fewVals (decide ((vs.length:Int)<=30)) vs)) []:=by
 generalize hE:decide ((vs.length:Int)<=30)=E
 generalize hS:fewVals E vs=S
 refine fn_retW (vs:=[.b S]) f17ok (by simp) (by simp) fun n0 hn0=>?_
 clear hn0
 simp only [push_cast,seval,reduceEqDiff]
 intros
 refine aWP_loopW vs.length (Inv:=fun m st=>∃done rest n,vs=done++rest/\m=rest.length/\fewVals E rest=S/\st=⟨[(0,.sl (vs.map Val.enc)),(3,.i .i64 done.length)],[],n⟩) ⟨_,StLe.refl,[],vs,_,rfl,rfl,hS,rfl⟩ ?_
 clear hS
 rintro m _ ⟨done,rest,n,hz,rfl,hd,rfl⟩
 cases rest with
 | nil=>
  have hlt0:decide ((done.length:Int)<(vs.length:Int))=false:=by rw [hz];simp
  rw [fewVals] at hd
  simp only [push_cast,seval,reduceEqDiff,hlt0,List.length_map,hE]
  intros
  exact finW_ret (by simp [get,hd])
 | cons v rest=>
  have hlt0:decide ((done.length:Int)<(vs.length:Int))=true:=by rw [hz];simp;omega
  have hbd:=zip_bd hz
  have hget:(vs.map Val.enc)[done.length]? = some (.agg [.s v.name,.i .i64 v.type,.s v.text,.i .i64 v.date,.sl (v.list.map V.s)]):=by
   rw [hz,List.getElem?_map,List.getElem?_append_right (by simp)];simp [Val.enc_eq]
  have hwv:=hw v (by rw [hz];simp)
  rw [fewVals] at hd
  simp only [push_cast,seval,reduceEqDiff,hlt0,hget,if_pos hbd,List.length_map]
  intros
  refine aWP_loopW v.list.length (Inv:=fun m st=>∃kd kr n a,v.list=kd++kr/\m=kr.length/\maxL v.list (v.text.length:Int)=maxL kr a/\st=⟨[(0,.sl (vs.map Val.enc)),(3,.i .i64 done.length),(4,.i .i64 a),(5,.i .i64 kd.length)],[],n⟩) ⟨_,StLe.refl,[],v.list,_,_,rfl,rfl,rfl,rfl⟩ ?_
  rintro m _ ⟨kd,kr,n2,a,hkz,rfl,hm,rfl⟩
  cases kr with
  | nil=>
   have hlt1:decide ((kd.length:Int)<(v.list.length:Int))=false:=by rw [hkz];simp
   rw [maxL] at hm
   rw [hm] at hd
   simp only [push_cast,seval,reduceEqDiff,hlt1,hget,if_pos hbd,List.length_map,wrap_zip v (done:=done) (by omega)]
   clear hm hkz
   repeat' (first|(((first|apply condU_s|apply gdU_t|apply gdU_f)<;>intro _h)<;>simp only [push_cast,seval,reduceEqDiff,_h,hlt1,hget,if_pos hbd,List.length_map,wrap_zip v (done:=done) (by omega)])|intro _)
   all_goals (first|(simp only [*,bq,if_true,if_false,Int.reduceBEq,reduceCtorEq] at hd;subst hd;exact finW_ret (by simp [get]))|skip)
   have g1:decide ((v.list.length:Int)>12)=false:=by assumption
   have g2:decide ((v.name.length:Int)>60)=false:=by assumption
   have g3:decide (a>200)=false:=by assumption
   simp only [g1,g2,g3,bq,if_true,if_false,Int.reduceBEq,reduceCtorEq] at hd
   exact ⟨_,_,Nat.lt_succ_self _,StLe.refl,done++[v],rest,_,by rw [hz];simp,rfl,hd,rfl⟩
  | cons k kr=>
   have hlt1:decide ((kd.length:Int)<(v.list.length:Int))=true:=by rw [hkz];simp;omega
   have hkb:=zip_bd hkz
   have hgk:(v.list.map V.s)[kd.length]? = some (.s k):=by rw [hkz,List.getElem?_map,List.getElem?_append_right (by simp)];simp
   rw [maxL] at hm
   simp only [push_cast,seval,reduceEqDiff,hlt1,hget,if_pos hbd,hgk,if_pos hkb,List.length_map,wrap_zip k (done:=kd) (by omega)]
   intros
   exact ⟨_,_,Nat.lt_succ_self _,StLe.refl,kd++[k],kr,_,_,by rw [hkz];simp,rfl,hm,rfl⟩


end Go.Ir
namespace Go.Ir
open Go.Proofs
def bw (s:Bytes):Nat:=s.length+1
theorem aStr:aggT Tryz.prog 9=some false:=by kernel_rfl
theorem strs_of (v:V) (h:WtV Tryz.prog 28 [v]):∃l:List Bytes,v = .sl (l.map V.s)/\sumW bw l+1<=bulkV v:=by
 obtain ⟨es,rfl,h1,h2,h3⟩:=h.sl_inv Tryz.underlying28
 rw [aStr] at h1
 obtain ⟨xs,hx,hw⟩:=list_of (G:=fun el=>WtV Tryz.prog 9 [el]) V.s bw (fun el h=>by
  obtain ⟨s,rfl⟩:=h.str_inv Tryz.underlying9
  exact ⟨s,rfl,by unfold bw;simp [bulkV]⟩) es fun el hm=>by
  obtain ⟨c,hc,hcc⟩:=h1 el hm
  have h4:=h3 el hm
  have h5:=h2 el hm
  rw [hcc] at h4 h5
  rw [c9] at h5
  match c,h5 with
  | [x],_=>
   have:el=x:=hc
   rw [this];exact h4
 exact ⟨xs,by rw [hx],by simp only [bulkV];omega⟩
theorem sumW_mem {α:Type} {w:α->Nat} {l:List α} {x:α} (h:x∈l):w x<=sumW w l:=by
 induction l with
 | nil=>cases h
 | cons y l ih=>
  simp only [sumW]
  rcases List.mem_cons.1 h with rfl|h
  ·omega
  ·have:=ih h;omega
theorem sumW_len {α:Type} {w:α->Nat} {l:List α} (h:∀x,1<=w x):l.length<=sumW w l:=by
 induction l with
 | nil=>simp [sumW]
 | cons y l ih=>
  simp only [sumW,List.length_cons]
  have:=h y;omega
theorem len5 {l:List V} (h:l.length=5):∃a b c d e,l=[a,b,c,d,e]:=by
 match l,h with
 | [a,b,c,d,e],_=>exact ⟨a,b,c,d,e,rfl⟩
theorem cStrs:Tryz.prog.cellsOf 28=1:=by kernel_rfl
theorem cVal:Tryz.prog.cellsOf 114=5:=by kernel_rfl
theorem aVal:aggT Tryz.prog 114=some true:=by kernel_rfl
theorem val_of (c:List V) (h:WtV Tryz.prog 114 c):∃x:Val,V.agg c=x.enc/\x.wt<=bulkVs c:=by
 obtain ⟨hl,hf⟩:=h.st_inv Tryz.underlying114
 rw [cVal] at hl
 obtain ⟨x0,x1,x2,x3,x4,rfl⟩:=len5 hl
 have f0:=hf _ (by exact List.mem_cons_self)
 have f1:=hf _ (by exact List.mem_cons_of_mem _ List.mem_cons_self)
 have f2:=hf _ (by exact List.mem_cons_of_mem _ (List.mem_cons_of_mem _ List.mem_cons_self))
 have f3:=hf _ (by exact List.mem_cons_of_mem _ (List.mem_cons_of_mem _ (List.mem_cons_of_mem _ List.mem_cons_self)))
 have f4:=hf _ (by exact List.mem_cons_of_mem _ (List.mem_cons_of_mem _ (List.mem_cons_of_mem _ (List.mem_cons_of_mem _ List.mem_cons_self))))
 simp only [c9,c3,cStrs,List.drop_zero,List.drop_succ_cons,List.take_succ_cons,List.take_zero] at f0 f1 f2 f3 f4
 obtain ⟨n,rfl⟩:=f0.str_inv Tryz.underlying9
 obtain ⟨t,rfl,_⟩:=f1.int_inv Tryz.underlying3
 obtain ⟨x,rfl⟩:=f2.str_inv Tryz.underlying9
 obtain ⟨d,rfl,_⟩:=f3.int_inv Tryz.underlying3
 obtain ⟨xs,rfl,hw⟩:=strs_of x4 f4
 refine ⟨⟨n,t,x,d,xs⟩,rfl,?_⟩
 have:=sumW_len (w:=bw) (l:=xs) (fun _=>by unfold bw;omega)
 simp only [bulkVs,bulkV] at hw⊢
 unfold Val.wt
 simp only;omega
theorem vals_of (v:V) (h:WtV Tryz.prog 51 [v]):∃l:List Val,v = .sl (l.map Val.enc)/\sumW Val.wt l<=bulkV v:=by
 obtain ⟨xs,rfl,hw⟩:=slice_of h Tryz.underlying51 aVal Val.enc Val.wt val_of
 exact ⟨xs,rfl,by omega⟩
theorem vals_bd {l:List Val} {n:Nat} (h:sumW Val.wt l<=n):l.length<=n/\∀v∈l,v.text.length<=n/\v.list.length<=n:=by
 have:=sumW_len (w:=Val.wt) (l:=l) (fun x=>by unfold Val.wt;omega)
 refine ⟨by omega,fun v hv=>?_⟩
 have h2:=sumW_mem (w:=Val.wt) hv
 have h3:v.wt=1+v.name.length+v.text.length+v.list.length:=rfl
 exact ⟨by omega,by omega⟩
end Go.Ir
section
namespace Go.Ir
def useK (k:Int):Int:=if k == 3||k == 4||k == 7||k == 8 then 2 else if k == 5 then 3 else if k == 6 then 4 else if k == 9 then 1 else 0
def inUse (k:Int):Bool:=!(decide (k<2)||decide (k>=10))
def knownT (t:Int):Bool:=decide (t>=0)&&decide (t<=4)
def comT (a b:Int):Int × Bool:=if !knownT a||!knownT b then (0,false) else if a == b then (a,true) else if a == 0&&b != 4 then (b,true) else if b == 0&&a != 4 then (a,true) else (0,false)
abbrev TyM:=List (Bytes × Int)
def lookT:TyM->Bytes->Option Int
 | [],_=>none
 | e::m,n=>if e.1 == n then some e.2 else lookT m n
def putT:TyM->Bytes->Int->TyM
 | [],n,k=>[(n,k)]
 | e::m,n,k=>if e.1 == n then (e.1,k)::m else e::putT m n k
def addT (t:TyM × Bool) (u:Bytes × Int):TyM × Bool:=match lookT t.1 u.1 with
 | none=>(putT t.1 u.1 u.2,t.2)
 | some old=>(putT t.1 u.1 (comT old u.2).1,t.2||!(comT old u.2).2)
mutual
def Part.uses:Part->List (Bytes × Int)
 | ⟨k,_,n,_,cs,ps⟩=>(if inUse k then [(n,useK k)] else [])++(usesCs cs++usesPs ps)
def usesPs:List Part->List (Bytes × Int)
 | []=>[]
 | p::ps=>p.uses++usesPs ps
def usesCs:List (Bytes × List Part)->List (Bytes × Int)
 | []=>[]
 | (_,ps)::cs=>usesPs ps++usesCs cs
end
theorem Part.uses_eq (p:Part):p.uses=(if inUse p.kind then [(p.name,useK p.kind)] else [])++(usesCs p.cases++usesPs p.parts):=by cases p;simp only [Part.uses]
theorem usesPs_nil:usesPs []=[]:=by simp only [usesPs]
theorem usesPs_cons (p:Part) (ps:List Part):usesPs (p::ps)=p.uses++usesPs ps:=by simp only [usesPs]
theorem usesCs_nil:usesCs []=[]:=by simp only [usesCs]
theorem usesCs_cons (c:Case) (cs:List Case):usesCs (c::cs)=usesPs c.2++usesCs cs:=by obtain ⟨k,q⟩:=c;simp only [usesCs]
def tabOf (ps:List Part):TyM × Bool:=(usesPs ps).foldl addT ([],false)
theorem look_put (m:TyM) (n:Bytes) (k:Int) (a:Bytes):lookT (putT m n k) a=if a=n then some k else lookT m a:=by
 induction m with
 | nil=>
  simp only [putT,lookT,beq_iff_eq]
  by_cases h:n=a
  ·rw [if_pos h,if_pos h.symm]
  ·rw [if_neg h,if_neg (Ne.symm h)]
 | cons e m ih=>
  rw [putT]
  by_cases h:e.1=n
  ·have hb:(e.1 == n)=true:=by simpa using h
   rw [hb,if_pos rfl]
   simp only [lookT,beq_iff_eq]
   by_cases h2:e.1=a
   ·rw [if_pos h2,if_pos (h2.symm.trans h)]
   ·rw [if_neg h2,if_neg (fun h3=>h2 (h.trans h3.symm)),if_neg h2]
  ·have hb:(e.1 == n)=false:=by simpa using h
   rw [hb,if_neg (by simp)]
   simp only [lookT,beq_iff_eq,ih]
   by_cases h2:e.1=a
   ·rw [if_pos h2,if_pos h2,if_neg (fun h3=>h (h2.trans h3))]
   ·rw [if_neg h2,if_neg h2]
theorem com_keep {a b:Int} (h:(comT a b).2=true):(a≠0->(comT a b).1=a)/\(b≠0->(comT a b).1=b):=by
 unfold comT at *
 cases hk:(!knownT a||!knownT b) with
 | true=>rw [hk] at h;simp at h
 | false=>
  rw [hk] at h
  simp only [Bool.false_eq_true,if_false] at h⊢
  cases h1:(a == b) with
  | true=>have:a=b:=by simpa using h1
          subst this;simp
  | false=>
   rw [h1] at h
   simp only [Bool.false_eq_true,if_false] at h⊢
   cases h2:(a == 0&&b != 4) with
   | true=>
    have:a=0:=by simp only [Bool.and_eq_true,beq_iff_eq] at h2;exact h2.1
    simp only [if_true]
    exact ⟨fun h=>absurd this h,fun _=>trivial⟩
   | false=>
    rw [h2] at h
    simp only [Bool.false_eq_true,if_false] at h⊢
    cases h3:(b == 0&&a != 4) with
    | true=>
     have:b=0:=by simp only [Bool.and_eq_true,beq_iff_eq] at h3;exact h3.1
     simp only [if_true]
     exact ⟨fun _=>trivial,fun h=>absurd this h⟩
    | false=>rw [h3] at h;simp at h
theorem add_wrong (t:TyM × Bool) (u:Bytes × Int) (h:(addT t u).2=false):t.2=false:=by
 unfold addT at h
 split at h
 ·exact h
 ·simp only [Bool.or_eq_false_iff] at h;exact h.1
theorem fold_wrong (us:List (Bytes × Int)):∀t:TyM × Bool,(us.foldl addT t).2=false->t.2=false:=by
 induction us with
 | nil=>intro t h;exact h
 | cons u us ih=>intro t h;exact add_wrong _ _ (ih _ h)
theorem add_keep (t:TyM × Bool) (u:Bytes × Int) (h:(addT t u).2=false):(∀n x,lookT t.1 n=some x->x≠0->lookT (addT t u).1 n=some x)/\(u.2≠0->lookT (addT t u).1 u.1=some u.2):=by
 unfold addT at *
 split at h
 ·rename_i hl
  simp only [hl]
  refine ⟨fun n x hx h0=>?_,fun _=>by rw [look_put,if_pos rfl]⟩
  rw [look_put,if_neg]
  ·exact hx
  ·rintro rfl;rw [hl] at hx;cases hx
 ·rename_i old hl
  simp only [hl]
  simp only [Bool.or_eq_false_iff,Bool.not_eq_false'] at h
  have hk:=com_keep h.2
  refine ⟨fun n x hx h0=>?_,fun h0=>by rw [look_put,if_pos rfl,hk.2 h0]⟩
  rw [look_put]
  split
  ·rename_i he
   rw [he,hl] at hx
   cases hx
   rw [hk.1 h0]
  ·exact hx
theorem fold_keep (us:List (Bytes × Int)):∀t:TyM × Bool,(us.foldl addT t).2=false->(∀n x,lookT t.1 n=some x->x≠0->lookT (us.foldl addT t).1 n=some x)/\∀u∈us,u.2≠0->lookT (us.foldl addT t).1 u.1=some u.2:=by
 induction us with
 | nil=>intro t _;exact ⟨fun n x h _=>h,fun u hu=>by cases hu⟩
 | cons v us ih=>
  intro t h
  have h1:=ih _ h
  have h2:=add_keep t v (fold_wrong us _ h)
  refine ⟨fun n x hx h0=>h1.1 n x (h2.1 n x hx h0) h0,fun u hu h0=>?_⟩
  rcases List.mem_cons.1 hu with rfl|hu
  ·exact h1.1 _ _ (h2.2 h0) h0
  ·exact h1.2 u hu h0
theorem uses_sel (ps:List Part):∀U:Bytes × Int->Prop,(∀u∈usesPs ps,U u)->allPs (fun p=>selB p.kind=true->U (p.name,useK p.kind)) ps:=by
 refine tree_Q (P:=fun p=>∀U:Bytes × Int->Prop,(∀u∈p.uses,U u)->p.all (fun p=>selB p.kind=true->U (p.name,useK p.kind))) (Q:=fun ps=>∀U:Bytes × Int->Prop,(∀u∈usesPs ps,U u)->allPs (fun p=>selB p.kind=true->U (p.name,useK p.kind)) ps)
  (R:=fun cs=>∀U:Bytes × Int->Prop,(∀u∈usesCs cs,U u)->allCs (fun p=>selB p.kind=true->U (p.name,useK p.kind)) cs) ?_ ?_ ?_ ?_ ?_ ps
 ·intro p hr hq U h
  rw [p.uses_eq] at h
  rw [p.all_eq]
  refine ⟨fun hs=>h _ ?_,hr U fun u hu=>h u (by simp [hu]),hq U fun u hu=>h u (by simp [hu])⟩
  have:inUse p.kind=true:=by
   rcases (selB_iff _).1 hs with h|h|h<;>rw [h]<;>rfl
  rw [this];simp
 ·intro U _;simp only [allPs]
 ·intro p ps hp hq U h
  rw [usesPs_cons] at h
  rw [allPs_cons]
  exact ⟨hp U fun u hu=>h u (by simp [hu]),hq U fun u hu=>h u (by simp [hu])⟩
 ·intro U _;simp only [allCs]
 ·intro c cs hq hr U h
  rw [usesCs_cons] at h
  rw [allCs_cons]
  exact ⟨hq U fun u hu=>h u (by simp [hu]),hr U fun u hu=>h u (by simp [hu])⟩
theorem sels_use (ps:List Part):∀s∈selsP ps,(s.name,useK s.kind)∈usesPs ps:=by
 have h0:=uses_sel ps (fun u=>u∈usesPs ps) (fun u hu=>hu)
 have h1:∀s∈collPs ps [],(s.name,useK s.kind)∈usesPs ps:=by
  refine coll_inv (fun k n=>(n,useK k)∈usesPs ps) (fun l=>∀s∈l,(s.name,useK s.kind)∈usesPs ps) (fun l k n hk hl=>?_) (fun l j key hl s hs=>?_) ps h0 [] (fun s hs=>by cases hs)
  ·unfold selAdd
   split
   ·intro s hs
    rcases List.mem_append.1 hs with hs|hs
    ·exact hl s hs
    ·rw [List.mem_singleton] at hs;subst hs;exact hk
   ·exact hl
  ·rcases mem_modify hs with hs|⟨t,ht,rfl⟩
   ·exact hl s hs
   ·rw [(addKey_same key t).1,(addKey_same key t).2];exact hl t ht
 intro s hs
 obtain ⟨t,ht,rfl⟩:=List.mem_map.1 hs
 exact h1 t ht
def accT (a b:Int):Bool:=a == b||(b == 0&&a != 4)
def checkGo (vs:List Val):TyM->Int->Int × Int
 | [],_=>(0,0)
 | a::r,i=>match getV vs a.1 with
  | none=>(i,12)
  | some v=>if !propV v||!accT v.type a.2 then (i,11) else checkGo vs r (i+1)
theorem check_all {vs:List Val} (args:TyM):∀i,(checkGo vs args i).2=0->∀a∈args,∃v,getV vs a.1=some v/\propV v=true/\accT v.type a.2=true:=by
 induction args with
 | nil=>intro i _ a ha;cases ha
 | cons b r ih=>
  intro i h a ha
  rw [checkGo] at h
  split at h
  ·cases h
  ·rename_i v hv
   split at h
   ·cases h
   ·rename_i hc
    rcases List.mem_cons.1 ha with rfl|ha
    ·exact ⟨v,hv,by cases hp:propV v with
      | true=>rfl
      | false=>rw [hp] at hc;simp at hc,by cases hp:accT v.type a.2 with
      | true=>rfl
      | false=>rw [hp] at hc;simp at hc⟩
    ·exact ih _ h a ha
theorem idxI_rng {α:Type} (p:α->Bool):∀xs,idxI p xs<0\/(0<=idxI p xs/\idxI p xs<xs.length):=by
 intro xs
 induction xs with
 | nil=>left;simp [idxI]
 | cons x xs ih=>
  simp only [idxI,List.length_cons]
  cases p x with
  | true=>right;simp only [cond_true];omega
  | false=>
   simp only [cond_false]
   rcases ih with h|h
   ·left;rw [if_pos h];omega
   ·right;rw [if_neg (by omega)];omega
theorem keyW_range {keys:List Bytes} (h:keys≠[]) (hl:keys.length<=2^20):∀ws,0<=keyW keys ws/\keyW keys ws<keys.length:=by
 have hpos:0<keys.length:=List.length_pos_iff.2 h
 intro ws
 induction ws with
 | nil=>rw [keyW,wrap64 (by omega) (by omega)];omega
 | cons w ws ih=>
  rw [keyW]
  rcases idxI_rng (fun x=>w == x) keys with h1|h1
  ·rw [if_pos h1];exact ih
  ·rw [if_neg (by omega)];exact h1
theorem selGo_range (l:Loc) (vs:List Val):∀(L:List Sel) (a:Int) (n:Nat),0<=a->a<n->n<=400->combP n L<=400->(∀s∈L,s.keys≠[]/\∃v,selV s.kind s.name vs=(some v,0))->
  (selGo l vs L a).2=0/\0<=(selGo l vs L a).1/\(selGo l vs L a).1<(combP n L:Int):=by
 intro L
 induction L with
 | nil=>intro a n h0 h1 _ _ _;exact ⟨rfl,h0,h1⟩
 | cons s L ih=>
  intro a n h0 h1 hn hc hs
  obtain ⟨hk,v,hv⟩:=hs s (by simp)
  rw [selGo,hv]
  simp only
  rw [combP] at hc⊢
  by_cases hb:400<n*s.keys.length
  ·rw [if_pos hb] at hc;omega
  rw [if_neg hb] at hc⊢
  have hpos:0<s.keys.length:=List.length_pos_iff.2 hk
  have hn1:1<=n:=by omega
  have hkl:s.keys.length<=400:=Nat.le_trans (Nat.le_mul_of_pos_left _ hn1) (by omega)
  obtain ⟨k0,k1⟩:=keyW_range hk (by omega) (wantK l s v)
  unfold keyP
  generalize hK:keyW s.keys (wantK l s v)=K at *
  generalize hm:s.keys.length=m at *
  have hlt:a*(m:Int)+K<((n*m:Nat):Int):=by
   have h3:a+1<=(n:Int):=h1
   have h4:(a+1)*(m:Int)<=(n:Int)*(m:Int):=Int.mul_le_mul_of_nonneg_right h3 (by omega)
   rw [Int.add_mul] at h4
   rw [Int.natCast_mul]
   omega
  have h5:0<=a*(m:Int):=Int.mul_nonneg h0 (by omega)
  have hnm:n*m<=400:=by omega
  rw [wrap64 (n:=a*(m:Int)) (by omega) (by omega),wrap64 (by omega) (by omega)]
  exact ih _ _ (by omega) hlt hnm hc (fun t ht=>hs t (by simp [ht]))
theorem sound_kind:∀(l d:List Sel),soundGo d l=true->∀s∈l,selB s.kind=true:=by
 intro l
 induction l with
 | nil=>intro d _ s hs;cases hs
 | cons x l ih=>
  intro d h s hs
  rw [soundGo] at h
  simp only [Bool.and_eq_true] at h
  rcases List.mem_cons.1 hs with rfl|hs
  ·have h1:=h.1
   unfold headS at h1
   rw [Bool.and_eq_true] at h1
   exact h1.1
  ·exact ih _ h.2.2.2 s hs
theorem one_ok (l:Loc) (ps:List Part) (vs:List Val) (h:(flatP l ps).2=0) (args:TyM) (hw:(tabOf ps).2=false) (ha:∀n x,lookT (tabOf ps).1 n=some x->(n,x)∈args) (hc:(checkGo vs args 0).2=0) :
  rulesF [] l.card=true/\rulesF [] l.ord=true/\(selGo l vs (flatP l ps).1.1 0).2=0/\0<=(selGo l vs (flatP l ps).1.1 0).1/\(selGo l vs (flatP l ps).1.1 0).1<((flatP l ps).1.2.length:Int):=by
 have hall:=check_all args 0 hc
 have huse:=(fold_keep (usesPs ps) ([],false) hw).2
 unfold flatP at h⊢
 by_cases h1:(!validP ps)=true
 ·rw [if_pos h1] at h;cases h
 rw [if_neg h1] at h⊢
 by_cases h2:decide ((combP 1 (selsP ps):Int)>400)=true
 ·rw [if_pos h2] at h;cases h
 rw [if_neg h2] at h⊢
 by_cases h3:(!rulesF [] l.card||!rulesF [] l.ord)=true
 ·rw [if_pos h3] at h;cases h
 rw [if_neg h3]
 have h3':rulesF [] l.card=true/\rulesF [] l.ord=true:=by
  cases h4:rulesF [] l.card with
  | false=>rw [h4] at h3;simp at h3
  | true=>
   cases h5:rulesF [] l.ord with
   | false=>rw [h4,h5] at h3;simp at h3
   | true=>exact ⟨rfl,rfl⟩
 refine ⟨h3'.1,h3'.2,?_⟩
 simp only [varsOf,List.length_map,List.length_range]
 refine selGo_range l vs (selsP ps) 0 1 (by omega) (by omega) (by omega) (by simp at h2;omega) (fun s hs=>⟨(sels_keys ps s hs).1,?_⟩)
 have hu:=sels_use ps s hs
 have hsk:selB s.kind=true:=by
  have h6:=sels_sound (ps:=ps) (by rw [<-valid_same];simpa using h1)
  exact sound_kind _ _ h6 s hs
 have hk0:useK s.kind≠0:=by rcases (selB_iff _).1 hsk with h|h|h<;>rw [h]<;>decide
 obtain ⟨v,hv,hp,hacc⟩:=hall _ (ha _ _ (huse _ hu hk0))
 refine ⟨v,?_⟩
 unfold selV
 simp only at hv hacc
 rw [hv]
 simp only
 have ht:v.type=if (s.kind == 9)=true then 1 else 2:=by
  unfold accT at hacc
  rcases (selB_iff _).1 hsk with h|h|h<;>rw [h] at hacc⊢<;>simp [useK] at hacc⊢<;>exact hacc
 rw [if_neg]
 rw [hp,ht];simp
end Go.Ir
end
namespace Go.Ir
open Go.Proofs
variable (W0 : World)
def argV (a:Bytes × Int):V:=.agg [.s a.1,.i .i64 a.2]
def validGo (i:Int) (prev:Bytes):TyM->Bool
 | []=>true
 | x::r=>if !nameB x.1||!knownT x.2||(decide (i>0)&&(Op.bytesLess x.1 prev||x.1 == prev)) then false else validGo (i+1) x.1 r
def validA (args:TyM):Bool:=validGo 0 [] args&&decide ((args.length:Int)<=20)
theorem c_knownT (t:Int):RetS Tryz.prog W0 105 [.i .i64 t] [] (.b (knownT t)) []:=by
 generalize hS:knownT t=S
 unfold knownT at hS
 refine fn_retW (vs:=[.b S]) f105ok (by simp) (by simp) fun n0 hn0=>?_
 clear hn0
 simp only [push_cast,seval,reduceEqDiff]
 repeat' (first|(((first|apply condU_s|apply gdU_t|apply gdU_f)<;>intro _h)<;>simp only [push_cast,seval,reduceEqDiff,_h])|intro _)
 all_goals (subst hS;refine finW_ret ?_;simp [get, *];done)
theorem c_comT (a b:Int):RetS Tryz.prog W0 143 [.i .i64 a,.i .i64 b] [] (.tup [.i .i64 (comT a b).1,.b (comT a b).2]) []:=by
 have h1:=c_knownT W0 a
 have h2:=c_knownT W0 b
 generalize hS:comT a b=S
 unfold comT at hS
 generalize knownT a=A1 at *
 generalize knownT b=A2 at *
 refine fn_retW (vs:=[.i .i64 S.1,.b S.2]) f143ok (by simp) (by simp) fun n0 hn0=>?_
 clear hn0
 simp only [push_cast,seval,reduceEqDiff]
 repeat' (first|(((first|apply condU_s|apply gdU_t|apply gdU_f)<;>intro _h)<;>simp only [push_cast,seval,reduceEqDiff,_h])|((first|refine c_call (by exact h1) ?_|refine c_call (by exact h2) ?_);simp only [push_cast,seval,reduceEqDiff])|intro _)
 all_goals (simp only [*,bq,if_true,if_false,Int.reduceBEq,reduceCtorEq] at hS)
 all_goals (subst hS;refine finW_rets ?_;simp [push_cast,get])
theorem c_accT (a b:Int):RetS Tryz.prog W0 54 [.i .i64 a,.i .i64 b] [] (.b (accT a b)) []:=by
 generalize hS:accT a b=S
 unfold accT at hS
 refine fn_retW (vs:=[.b S]) f54ok (by simp) (by simp) fun n0 hn0=>?_
 clear hn0
 simp only [push_cast,seval,reduceEqDiff]
 repeat' (first|(((first|apply condU_s|apply gdU_t|apply gdU_f)<;>intro _h)<;>simp only [push_cast,seval,reduceEqDiff,_h])|intro _)
 all_goals (subst hS;refine finW_ret ?_;simp [get, *];done)
theorem zipA {a:Bytes × Int} {done rest L:TyM} (h:L=done++a::rest):(L.map argV)[done.length]? = some (.agg [.s a.1,.i .i64 a.2]):=by
 rw [h,List.getElem?_map,List.getElem?_append_right (by simp)];simp [argV]
theorem c_validA (args:TyM) (hn:∀a∈args,a.1.length<SLim) (hl:args.length<=2^30):RetS Tryz.prog W0 51 [.sl (args.map argV)] [] (.b (validA args)) []:=by
 generalize hS:validA args=S
 unfold validA at hS
 refine fn_retW (vs:=[.b S]) f51ok (by simp) (by simp) fun n0 hn0=>?_
 clear hn0
 simp only [push_cast,seval,reduceEqDiff]
 intros
 refine aWP_loopW args.length (Inv:=fun m st=>∃done rest p n',args=done++rest/\m=rest.length/\(∀k,done.length=k+1->∃t,(args.map argV)[k]? = some (.agg [.s p,.i .i64 t]))/\(validGo done.length p rest&&decide ((args.length:Int)<=20))=S/\st=⟨[(0,.sl (args.map argV)),(5,.sl (args.map argV)),(6,.i .i64 args.length),(7,.i .i64 done.length)],[],n'⟩) ⟨_,StLe.refl,[],args,[],_,rfl,rfl,(fun k h=>by simp at h),hS,rfl⟩ ?_
 clear hS
 rintro m _ ⟨done,rest,p,n',hz,rfl,hpv,hd,rfl⟩
 cases rest with
 | nil=>
  simp only [validGo,Bool.true_and] at hd
  subst hd
  have hle:args.length=done.length:=by rw [hz];simp
  rw [hle]
  simp only [push_cast,seval,reduceEqDiff,hz]
  intros
  exact finW_ret (by simp [get])
 | cons x rest=>
  have hbd:=zip_bd hz
  have hc1:=c_tName W0 x.1 (hn x (by rw [hz];simp))
  have hc2:=c_knownT W0 x.2
  rw [validGo] at hd
  generalize nameB x.1=A1 at *
  generalize knownT x.2=A2 at *
  have hga:=zipA hz
  have hlt:decide ((done.length:Int)<(args.length:Int))=true:=by simp;omega
  have hlt2:done.length<args.length:=by omega
  have hwz:=wrap_zip x (done:=done) (by omega)
  have hnx:∀k,(done++[x]).length=k+1->∃t,(args.map argV)[k]? = some (.agg [.s x.1,.i .i64 t]):=by
   intro k hk
   simp at hk
   subst hk
   exact ⟨_,hga⟩
  have hcast:(((done++[x]).length:Nat):Int)=(done.length:Int)+1:=by simp
  generalize hG:validGo ((done.length:Int)+1) x.1 rest=G at hd
  generalize hB:decide ((args.length:Int)<=20)=B at hd
  obtain h0|⟨k,hk⟩:done.length=0\/∃k,done.length=k+1:=by cases done.length<;>simp
  ·have hg:decide ((done.length:Int)>0)=false:=by simp [h0]
   rw [hg] at hd
   simp only [push_cast,seval,reduceEqDiff,hga,hg,hlt,hlt2,hwz]
   repeat' (first|(((first|apply condU_s|apply gdU_t|apply gdU_f)<;>intro _h)<;>simp only [push_cast,seval,reduceEqDiff,_h,hga,hg,hlt,hlt2,hwz])|((first|refine c_call (by exact hc1) ?_|refine c_call (by exact hc2) ?_);simp only [push_cast,seval,reduceEqDiff,hga,hg,hlt,hlt2,hwz])|intro _)
   all_goals (simp only [*,bq,if_true,if_false,Int.reduceBEq,reduceCtorEq] at hd;first|(subst hd;exact finW_ret (by simp [get]))|exact ⟨_,_,Nat.lt_succ_self _,StLe.drop1 (by simp [lk]) (Nat.le_refl _),done++[x],rest,x.1,_,by rw [hz];simp,rfl,hnx,by rw [hcast,hG];exact hd,rfl⟩)
  ·have hg:decide ((done.length:Int)>0)=true:=by simp [hk]
   obtain ⟨t,hpt⟩:=hpv k hk
   have hw1:IntKind.i64.wrap ((done.length:Int)-1)=(k:Nat):=by rw [wrap64 (by omega) (by omega)];omega
   have hk2:k<args.length:=by omega
   rw [hg] at hd
   simp only [push_cast,seval,reduceEqDiff,hga,hg,hlt,hlt2,hwz,hw1,hpt,hk2]
   repeat' (first|(((first|apply condU_s|apply gdU_t|apply gdU_f)<;>intro _h)<;>simp only [push_cast,seval,reduceEqDiff,_h,hga,hg,hlt,hlt2,hwz,hw1,hpt,hk2])|((first|refine c_call (by exact hc1) ?_|refine c_call (by exact hc2) ?_);simp only [push_cast,seval,reduceEqDiff,hga,hg,hlt,hlt2,hwz,hw1,hpt,hk2])|intro _)
   all_goals (simp only [*,bq,if_true,if_false,Int.reduceBEq,reduceCtorEq] at hd;first|(subst hd;exact finW_ret (by simp [get]))|exact ⟨_,_,Nat.lt_succ_self _,StLe.drop1 (by simp [lk]) (Nat.le_refl _),done++[x],rest,x.1,_,by rw [hz];simp,rfl,hnx,by rw [hcast,hG];exact hd,rfl⟩)
def checkA (args:TyM) (vs:List Val):Int × Int:=if !validA args then (0,1) else checkGo vs args 0
theorem c_checkA (args:TyM) (vs:List Val) (hn:∀a∈args,a.1.length<SLim) (hl:args.length<=2^30) (hl2:vs.length<=2^40) (ht:∀v∈vs,v.text.length<=2^29/\v.list.length<=2^30) :
  RetS Tryz.prog W0 20 [.sl (args.map argV),.sl (vs.map Val.enc)] [] (.tup [.i .i64 (checkA args vs).1,.i .i64 (checkA args vs).2]) []:=by
 have hva:=c_validA W0 args hn hl
 generalize hS:checkA args vs=S
 unfold checkA at hS
 refine fn_retW (vs:=[.i .i64 S.1,.i .i64 S.2]) f20ok (by simp) (by simp) fun n0 hn0=>?_
 clear hn0
 cases hv:validA args with
 | false=>
  rw [hv] at hva hS
  simp only [bq,if_true,if_false,Int.reduceBEq,reduceCtorEq,Bool.not_false] at hS
  subst hS
  simp only [push_cast,seval,reduceEqDiff]
  repeat' (first|(((first|apply condU_s|apply gdU_t|apply gdU_f)<;>intro _h)<;>simp only [push_cast,seval,reduceEqDiff,_h])|(refine c_call (by exact hva) ?_;simp only [push_cast,seval,reduceEqDiff])|intro _)
  all_goals (refine finW_rets ?_;simp [push_cast,get])
 | true=>
 rw [hv] at hva hS
 simp only [bq,if_true,if_false,Int.reduceBEq,reduceCtorEq,Bool.not_true] at hS
 simp only [push_cast,seval,reduceEqDiff]
 repeat' (first|(((first|apply condU_s|apply gdU_t|apply gdU_f)<;>intro _h)<;>simp only [push_cast,seval,reduceEqDiff,_h])|(refine c_call (by exact hva) ?_;simp only [push_cast,seval,reduceEqDiff])|intro _)
 refine aWP_loopW args.length (Inv:=fun m st=>∃done rest n',args=done++rest/\m=rest.length/\checkGo vs rest done.length=S/\st=⟨[(1,.sl (vs.map Val.enc)),(13,.sl (args.map argV)),(14,.i .i64 args.length),(15,.i .i64 done.length)],[],n'⟩) ⟨_,StLe.refl,[],args,_,rfl,rfl,hS,rfl⟩ ?_
 clear hS
 rintro m _ ⟨done,rest,n',hz,rfl,hd,rfl⟩
 cases rest with
 | nil=>
  simp only [checkGo] at hd
  subst hd
  have hle:args.length=done.length:=by rw [hz];simp
  rw [hle]
  simp only [push_cast,seval,reduceEqDiff,hz]
  intros
  refine finW_rets ?_
  simp [push_cast,get]
 | cons x rest=>
  have hbd:=zip_bd hz
  have hga:=zipA hz
  have hlt:decide ((done.length:Int)<(args.length:Int))=true:=by simp;omega
  have hlt2:done.length<args.length:=by omega
  have hwz:=wrap_zip x (done:=done) (by omega)
  have hcast:(((done++[x]).length:Nat):Int)=(done.length:Int)+1:=by simp
  have hg:=c_getVal W0 vs x.1 hl2 (fun v hv=>(ht v hv).2)
  rw [checkGo] at hd
  cases hv2:getV vs x.1 with
  | none=>
   rw [hv2] at hg hd
   simp only at hd
   subst hd
   unfold getR gV val0 at hg
   simp only [Option.isSome_none] at hg
   simp only [push_cast,seval,reduceEqDiff,hga,hlt,hlt2,hwz]
   repeat' (first|(((first|apply condU_s|apply gdU_t|apply gdU_f)<;>intro _h)<;>simp only [push_cast,seval,reduceEqDiff,_h,hga,hlt,hlt2,hwz])|(refine c_call (by exact hg) ?_;simp only [push_cast,seval,reduceEqDiff,hga,hlt,hlt2,hwz])|intro _)
   all_goals (refine finW_rets ?_;simp [push_cast,get])
  | some v=>
   have hp:=c_sProper W0 v (by have:=(ht v (getV_mem hv2)).1;omega)
   have hac:=c_accT W0 v.type x.2
   rw [hv2] at hg hd
   simp only at hd
   unfold getR gV at hg
   simp only [Option.isSome_some] at hg
   rw [Val.enc_eq] at hg hp
   generalize propV v=A1 at *
   generalize accT v.type x.2=A2 at *
   simp only [push_cast,seval,reduceEqDiff,hga,hlt,hlt2,hwz]
   repeat' (first|(((first|apply condU_s|apply gdU_t|apply gdU_f)<;>intro _h)<;>simp only [push_cast,seval,reduceEqDiff,_h,hga,hlt,hlt2,hwz])|((first|refine c_call (by exact hg) ?_|refine c_call (by exact hp) ?_|refine c_call (by exact hac) ?_);simp only [push_cast,seval,reduceEqDiff,hga,hlt,hlt2,hwz])|intro _)
   all_goals (simp only [*,bq,if_true,if_false,Int.reduceBEq,reduceCtorEq] at hd;first|(subst hd;refine finW_rets ?_;simp [push_cast,get];done)|exact ⟨_,_,Nat.lt_succ_self _,(StLe.drop1 (by simp [lk]) (Nat.le_refl _)).trans (StLe.drop1 (by simp [lk]) (Nat.le_refl _)),done++[x],rest,_,by rw [hz];simp,rfl,by rw [hcast];exact hd,rfl⟩)
theorem c_use (k:Int):RetS Tryz.prog W0 101 [.i .i64 k] [] (.tup [.i .i64 (if inUse k then useK k else 0),.b (inUse k)]) []:=by
 cases hk:inUse k with
 | false=>
  refine fn_retW (vs:=[.i .i64 0,.b false]) f101ok (by simp) (by simp) fun n0 hn0=>?_
  clear hn0
  unfold inUse at hk
  simp only [Bool.not_eq_false'] at hk
  simp only [push_cast,seval,reduceEqDiff]
  repeat' (first|(((first|apply condU_s|apply gdU_t|apply gdU_f)<;>intro _h)<;>simp only [push_cast,seval,reduceEqDiff,_h])|intro _)
  all_goals (first|(refine finW_rets ?_;simp [push_cast,get];done)|(exfalso;simp_all;done))
 | true=>
  have h8:k=2\/k=3\/k=4\/k=5\/k=6\/k=7\/k=8\/k=9:=by
   unfold inUse at hk;simp at hk;omega
  clear hk
  refine fn_retW (vs:=[.i .i64 (if true then useK k else 0),.b true]) f101ok (by simp) (by simp) fun n0 hn0=>?_
  clear hn0
  rcases h8 with rfl|rfl|rfl|rfl|rfl|rfl|rfl|rfl
  all_goals
   skip
   simp only [push_cast,seval,reduceEqDiff]
   repeat' (first|(((first|apply condU_s|apply gdU_t|apply gdU_f)<;>intro _h)<;>simp only [push_cast,seval,reduceEqDiff,_h])|intro _)
   all_goals (refine finW_rets ?_;simp [push_cast,get,useK])
def tyE (m:TyM):List (V × V):=m.map fun e=>(.s e.1,.i .i64 e.2)
theorem find_tab (k:Bytes) (m:TyM):∀n,(∃i v,lookT m k=some v/\findV .str (.s k) (tyE m) n=some (some (n+i,.i .i64 v))/\∀x:Int,(tyE m).modify i (fun e=>(e.1,.i .i64 x))=tyE (putT m k x))\/(lookT m k=none/\findV .str (.s k) (tyE m) n=some none/\∀x:Int,tyE m++[(.s k,.i .i64 x)]=tyE (putT m k x)):=by
 induction m with
 | nil=>intro n;exact .inr ⟨rfl,rfl,fun x=>rfl⟩
 | cons e m ih=>
  intro n
  have hu:findV .str (.s k) (tyE (e::m)) n=(match keyEq .str (.s k) (.s e.1) with
   | some true=>some (some (n,.i .i64 e.2))
   | some false=>findV .str (.s k) (tyE m) (n+1)
   | none=>none):=rfl
  have hk:keyEq .str (.s k) (.s e.1)=some (k == e.1):=rfl
  rw [hu,hk]
  simp only [lookT,putT]
  by_cases h:e.1=k
  ·subst h
   refine .inl ⟨0,e.2,by simp,by simp,fun x=>by simp [tyE]⟩
  ·have hb:(k == e.1)=false:=by simpa using Ne.symm h
   have hb2:(e.1 == k)=false:=by simpa using h
   rw [hb,hb2]
   rcases ih (n+1) with ⟨i,v,h1,h2,h3⟩|⟨h1,h2,h3⟩
   ·refine .inl ⟨i+1,v,by simpa using h1,?_,fun x=>?_⟩
    ·simp only;rw [h2];simp;omega
    ·have:=h3 x
     show (tyE (e::m)).modify (i+1) _=_
     simp only [tyE,List.map_cons,List.modify_succ_cons,Bool.false_eq_true,if_false] at this⊢
     rw [this]
   ·refine .inr ⟨by simpa using h1,by simpa using h2,fun x=>?_⟩
    have:=h3 x
    simp only [tyE,List.map_cons,List.cons_append,Bool.false_eq_true,if_false] at this⊢
    rw [this]
def tabS (tid mid:Id) (t:TyM × Bool):Sto:=[(tid,.box (.agg [.arr mid,.b t.2])),(mid,.map (tyE t.1))]
theorem c_tadd (t:TyM × Bool) (name:Bytes) (kind:Int) (tid mid:Id) (hne:tid≠mid) :
  RetS Tryz.prog W0 102 [.ref tid 0,.s name,.i .i64 kind] (tabS tid mid t) (.tup []) (tabS tid mid (addT t (name,kind))):=by
 obtain ⟨m,w⟩:=t
 have f1:(tid=mid)=False:=eq_false hne
 have f2:(mid=tid)=False:=eq_false (Ne.symm hne)
 unfold addT tabS
 refine fn_retW (vs:=[]) f102ok (by simp) (by intro i h;simp only [lk] at h⊢;split<;>simp_all) fun n0 hn0=>?_
 clear hn0
 rcases find_tab name m 0 with ⟨i,v,h1,h2,h3⟩|⟨h1,h2,h3⟩
 ·have hc:=c_comT W0 v kind
  simp only [Nat.zero_add] at h2
  simp only [h1]
  generalize comT v kind=C at *
  obtain ⟨c,b⟩:=C
  cases w
  all_goals
   skip
   simp only [push_cast,seval,reduceEqDiff,f1,f2,h2,h3]
   repeat' (first|(((first|apply condU_s|apply gdU_t|apply gdU_f)<;>intro _h)<;>simp only [push_cast,seval,reduceEqDiff,_h,f1,f2,h2,h3])|(refine c_call (by exact hc) ?_;simp only [push_cast,seval,reduceEqDiff,f1,f2,h2,h3])|intro _)
   all_goals (refine ⟨_,StLe.refl,trivial,?_⟩;simp)
 ·simp only [h1]
  simp only [push_cast,seval,reduceEqDiff,f1,f2,h2,h3]
  repeat' (first|(((first|apply condU_s|apply gdU_t|apply gdU_f)<;>intro _h)<;>simp only [push_cast,seval,reduceEqDiff,_h,f1,f2,h2,h3])|intro _)
  all_goals exact ⟨_,StLe.refl,trivial,fun i e h=>h⟩
theorem tabS_ne {tid mid:Id} {t:TyM × Bool} {a:Id} (h1:a≠tid) (h2:a≠mid):∀q∈tabS tid mid t,a≠q.1:=by
 intro q hq
 simp [tabS] at hq
 rcases hq with rfl|rfl
 ·exact h1
 ·exact h2
theorem over_tab {tid mid:Id} {t t':TyM × Bool} {pre post:Sto} (h1:∀p∈pre++post,p.1≠tid/\p.1≠mid):over (tabS tid mid t) (tabS tid mid t') (pre++(tabS tid mid t++post))=tabS tid mid t'++(pre++post):=by
 rw [<-List.append_assoc]
 exact over_mid (fun p hp q hq=>tabS_ne (h1 p (List.mem_append_left _ hp)).1 (h1 p (List.mem_append_left _ hp)).2 q hq) (fun p hp q hq=>tabS_ne (h1 p (List.mem_append_right _ hp)).1 (h1 p (List.mem_append_right _ hp)).2 q hq)
theorem over_tab1 {tid mid:Id} {t t':TyM × Bool} {a:Id × Ent} {post:Sto} (h1:∀p∈[a]++post,p.1≠tid/\p.1≠mid):over (tabS tid mid t) (tabS tid mid t') (a::(tabS tid mid t++post))=tabS tid mid t'++(a::post):=over_tab (pre:=[a]) h1
theorem sub_tab {tid mid:Id} {t:TyM × Bool} {pre post:Sto} (h1:∀p∈pre,p.1≠tid/\p.1≠mid):∀i e,lk (tabS tid mid t) i=some e->lk (pre++(tabS tid mid t++post)) i=some e:=by
 intro i e h
 have hi:i=tid\/i=mid:=by
  simp only [tabS,lk] at h
  split at h
  ·rename_i h2;exact .inl h2.symm
  ·split at h
   ·rename_i h2;exact .inr h2.symm
   ·cases h
 induction pre with
 | nil=>
  show lk (tabS tid mid t++post) i=some e
  exact lk_app_left h
 | cons a pre ih=>
  obtain ⟨ai,ae⟩:=a
  have ha:=h1 (ai,ae) (by simp)
  show (if ai=i then some ae else lk (pre++(tabS tid mid t++post)) i)=some e
  rw [if_neg (by rintro rfl;rcases hi with rfl|rfl;exact ha.1 rfl;exact ha.2 rfl)]
  exact ih fun p hp=>h1 p (List.mem_cons_of_mem _ hp)
set_option maxHeartbeats 4000000 in
theorem twalk_cs (cs:List Case) (tid mid xid:Id) (X:Ent) (t0:TyM × Bool) (n0:Nat) (a10 a11 a12:V) (Q:Exit->St->Prop) (hne:tid≠mid) (h1:xid≠tid) (h2:xid≠mid) (hl1:tid.1<n0) (hl2:mid.1<n0) (hl3:xid.1<n0)
  (hih:∀x∈cs,∀t,RetS Tryz.prog W0 49 [.ref tid 0,.sl (x.2.map Part.enc)] (tabS tid mid t) (.tup []) (tabS tid mid ((usesPs x.2).foldl addT t))) (hlc:cs.length<=2^30)
  (hQ:∀n',n0<=n'->Q (.exit 2) ⟨[(0,.ref tid 0),(5,.ref xid 0),(10,a10),(11,a11),(12,a12),(29,.sl (cs.map Case.enc)),(30,.i .i64 cs.length),(31,.i .i64 cs.length),(32,.b false)],tabS tid mid ((usesCs cs).foldl addT t0)++[(xid,X)],n'⟩) :
  LoopW Tryz.prog W0 45 f49_24 Q ⟨[(0,.ref tid 0),(5,.ref xid 0),(10,a10),(11,a11),(12,a12),(29,.sl (cs.map Case.enc)),(30,.i .i64 cs.length),(31,.i .i64 0)],tabS tid mid t0++[(xid,X)],n0⟩:=by
 generalize hS:(usesCs cs).foldl addT t0=S at hQ
 refine aWP_loopW cs.length (Inv:=fun m st=>∃cd cr n t,cs=cd++cr/\m=cr.length/\(usesCs cr).foldl addT t=S/\n0<=n/\st=⟨[(0,.ref tid 0),(5,.ref xid 0),(10,a10),(11,a11),(12,a12),(29,.sl (cs.map Case.enc)),(30,.i .i64 cs.length),(31,.i .i64 cd.length)],tabS tid mid t++[(xid,X)],n⟩) ⟨_,StLe.refl,[],cs,_,t0,rfl,rfl,hS,Nat.le_refl _,rfl⟩ ?_
 clear hS
 rintro m _ ⟨cd,cr,n,t,hz,rfl,hd,hn0,rfl⟩
 cases cr with
 | nil=>
  simp only [usesCs,List.foldl_nil] at hd
  subst hd
  rw [hz] at hQ⊢
  simp only [List.append_nil] at hQ⊢
  simp only [push_cast,seval,reduceEqDiff]
  intro k2
  exact hQ _ (by omega)
 | cons c cr=>
  have hcb:=zip_bd hz
  have hcm:c∈cs:=by rw [hz];simp
  rw [usesCs_cons,List.foldl_append] at hd
  have hc:=hih c hcm t
  simp only [push_cast,seval,reduceEqDiff,hz,wrap_zip c (done:=cd) (by omega)]
  intro k2 k3
  have hg1:∀j,((n+1+k2,j):Id)≠tid:=fun j he=>by have:=congrArg Prod.fst he;simp only at this;omega
  have hg2:∀j,((n+1+k2,j):Id)≠mid:=fun j he=>by have:=congrArg Prod.fst he;simp only at this;omega
  have hp1:∀Y:Ent,∀p∈([((n+1+k2,9),Y)]:Sto),p.1≠tid/\p.1≠mid:=by intro Y p hp;simp at hp;subst hp;exact ⟨hg1 _,hg2 _⟩
  have hp2:∀Y:Ent,∀p∈([((n+1+k2,9),Y)]:Sto)++[(xid,X)],p.1≠tid/\p.1≠mid:=by intro Y p hp;simp at hp;rcases hp with rfl|rfl;exact ⟨hg1 _,hg2 _⟩;exact ⟨h1,h2⟩
  refine c_calls hc (sub_tab (hp1 _)) ?_
  rw [over_tab1 (hp2 _)]
  simp only [push_cast,seval,reduceEqDiff,hz,wrap_zip c (done:=cd) (by omega)]
  intros
  refine ⟨_,_,Nat.lt_succ_self _,StLe.sub ?_ (σ':=tabS tid mid ((usesPs c.2).foldl addT t)++[(xid,X)]) (fun q hq=>?_) (Nat.le_refl _),cd++[c],cr,_,_,by simp,rfl,hd,?_,rfl⟩
  ·have hg3:((n+1+k2,9):Id)≠xid:=fun he=>by have:=congrArg Prod.fst he;simp only at this;omega
   simp [tabS,hne,Ne.symm h1,Ne.symm h2,Ne.symm (hg1 9),Ne.symm (hg2 9),hg3]
  ·simp at hq⊢
   rcases hq with h|h
   ·exact .inl h
   ·exact .inr (.inr h)
  ·omega
theorem over_tab0 {tid mid:Id} {t t':TyM × Bool} {a:Id × Ent} (h1:a.1≠tid) (h2:a.1≠mid):over (tabS tid mid t) (tabS tid mid t') (a::tabS tid mid t)=tabS tid mid t'++[a]:=by
 have:=over_tab1 (t:=t) (t':=t') (a:=a) (post:=[]) (by intro p hp;simp at hp;subst hp;exact ⟨h1,h2⟩)
 simpa using this
theorem sub_tab0 {tid mid:Id} {t:TyM × Bool} {a:Id × Ent} (h1:a.1≠tid) (h2:a.1≠mid):∀i e,lk (tabS tid mid t) i=some e->lk (a::tabS tid mid t) i=some e:=by
 have:=sub_tab (t:=t) (pre:=[a]) (post:=[]) (by intro p hp;simp at hp;subst hp;exact ⟨h1,h2⟩)
 simpa using this
theorem over_tabP {tid mid:Id} {t t':TyM × Bool} {a:Id × Ent} (h1:a.1≠tid) (h2:a.1≠mid):over (tabS tid mid t) (tabS tid mid t') (tabS tid mid t++[a])=tabS tid mid t'++[a]:=by
 have:=over_tab (t:=t) (t':=t') (pre:=[]) (post:=[a]) (by intro p hp;simp at hp;subst hp;exact ⟨h1,h2⟩)
 simpa using this
theorem lk_last {tid mid xid:Id} {X:Ent} (h1:xid≠tid) (h2:xid≠mid) (t:TyM × Bool):lk (tabS tid mid t++[(xid,X)]) xid=some X:=by
 simp [tabS,lk,Ne.symm h1,Ne.symm h2]
set_option maxHeartbeats 4000000 in
theorem c_twalk:∀(N:Nat) (ps:List Part) (tid mid:Id) (t0:TyM × Bool),wtPs ps<N->wtPs ps<=2^26->tid≠mid->
  RetS Tryz.prog W0 49 [.ref tid 0,.sl (ps.map Part.enc)] (tabS tid mid t0) (.tup []) (tabS tid mid ((usesPs ps).foldl addT t0)):=by
 intro N
 induction N with
 | zero=>intro ps tid mid t0 h;omega
 | succ N ih=>
 intro ps tid mid t0 hN hb hne
 have hlen:=len_wtPs ps
 generalize hS:(usesPs ps).foldl addT t0=S
 refine fn_retW (vs:=[]) f49ok (by simp) (by intro i h;simp only [tabS,lk] at h⊢;split<;>simp_all) fun n0 hn0=>?_
 have hl1:tid.1<n0:=hn0 tid (.box (.agg [.arr mid,.b t0.2])) (by simp [tabS,lk])
 have hl2:mid.1<n0:=hn0 mid (.map (tyE t0.1)) (by simp [tabS,lk,hne])
 clear hn0
 simp only [push_cast,seval,reduceEqDiff]
 intro k1
 refine aWP_loopW ps.length (Inv:=fun m st=>∃done rest n t,ps=done++rest/\m=rest.length/\(usesPs rest).foldl addT t=S/\n0<=n/\st=⟨[(0,.ref tid 0),(10,.sl (ps.map Part.enc)),(11,.i .i64 ps.length),(12,.i .i64 done.length)],tabS tid mid t,n⟩) ⟨_,StLe.refl,[],ps,_,t0,rfl,rfl,hS,?_,rfl⟩ ?_
 ·omega
 clear hS
 rintro m _ ⟨done,rest,n,t,hz,rfl,hd,hn0,rfl⟩
 cases rest with
 | nil=>
  simp only [usesPs,List.foldl_nil] at hd
  subst hd
  simp only [push_cast,seval,reduceEqDiff,hz]
  intros
  exact ⟨_,StLe.refl,trivial,fun i e h=>h⟩
 | cons p rest=>
  have hbd:=zip_bd hz
  have hwp:=wtPs_mem (ps:=ps) (p:=p) (by rw [hz];simp)
  have hpw:=p.wt_eq
  have hlc:=len_wtCs p.cases
  have hup:=c_use W0 p.kind
  rw [usesPs_cons,p.uses_eq,List.foldl_append,List.foldl_append,List.foldl_append] at hd
  cases hk:inUse p.kind with
  | false=>
   rw [hk] at hup hd
   simp only [bq,if_true,if_false,Int.reduceBEq,reduceCtorEq,List.foldl_nil] at hup hd
   simp only [push_cast,seval,reduceEqDiff,hz,wrap_zip p (done:=done) (by omega)]
   repeat' (first|(((first|apply condU_s|apply gdU_t|apply gdU_f)<;>intro _h)<;>simp only [push_cast,seval,reduceEqDiff,_h,hz,wrap_zip p (done:=done) (by omega)])|(refine c_call (by exact hup) ?_;simp only [push_cast,seval,reduceEqDiff,hz,wrap_zip p (done:=done) (by omega)])|intro _)
   rename_i k4 k3 k2 k1' k0
   obtain ⟨xid,hxd⟩:∃xid:Id,xid=(n+1+k4,5):=⟨_,rfl⟩
   have hxn:xid.1<n+1+k4+1:=by rw [hxd];simp
   have hxm:n<=xid.1:=by rw [hxd];simp only;omega
   have hx1:xid≠tid:=by rintro rfl;omega
   have hx2:xid≠mid:=by rintro rfl;omega
   rw [<-hxd]
   obtain ⟨X,hX⟩:∃X:Ent,X = .box (.agg [V.i IntKind.i64 p.kind,V.s p.text,V.s p.name,V.s p.style,V.sl (List.map Case.enc p.cases),V.sl (List.map Part.enc p.parts)]):=⟨_,rfl⟩
   have hlx:∀t,lk (tabS tid mid t++[(xid,X)]) xid=some (.box (.agg [V.i IntKind.i64 p.kind,V.s p.text,V.s p.name,V.s p.style,V.sl (List.map Case.enc p.cases),V.sl (List.map Part.enc p.parts)])):=fun t=>by rw [lk_last hx1 hx2,hX]
   rw [<-hX]
   refine loopW_le (StLe.sub (σ':=tabS tid mid t++[(xid,X)]) (by simp [tabS,hne,hx1,hx2]) (fun q hq=>by simp at hq⊢;exact hq.symm) (Nat.le_refl _)) ?_
   refine loopW_le (StLe.refl) (twalk_cs W0 p.cases tid mid xid X t _ _ _ _ _ hne hx1 hx2 (by omega) (by omega) (by have:=hxn;omega) (fun c hc t=>ih c.2 tid mid t (by have:=wtCs_mem hc;omega) (by have:=wtCs_mem hc;omega) hne) (by omega) (fun n' hn'=>?_))
   have hpp:=ih p.parts tid mid ((usesCs p.cases).foldl addT t) (by omega) (by omega) hne
   simp only [push_cast,seval,reduceEqDiff,hz,wrap_zip p (done:=done) (by omega),hlx]
   intros
   refine c_calls hpp (fun i e h=>lk_app_left h) ?_
   rw [over_tabP hx1 hx2]
   simp only [push_cast,seval,reduceEqDiff,hz,wrap_zip p (done:=done) (by omega)]
   intros
   exact ⟨_,_,Nat.lt_succ_self _,StLe.pre (Nat.le_refl _),done++[p],rest,_,_,by simp,rfl,hd,by omega,rfl⟩
  | true=>
   rw [hk] at hup hd
   simp only [bq,if_true,if_false,Int.reduceBEq,reduceCtorEq,List.foldl_cons,List.foldl_nil] at hup hd
   have hta:=c_tadd W0 t p.name (useK p.kind) tid mid hne
   simp only [push_cast,seval,reduceEqDiff,hz,wrap_zip p (done:=done) (by omega)]
   repeat' (first|(((first|apply condU_s|apply gdU_t|apply gdU_f)<;>intro _h)<;>simp only [push_cast,seval,reduceEqDiff,_h,hz,wrap_zip p (done:=done) (by omega)])|(refine c_call (by exact hup) ?_;simp only [push_cast,seval,reduceEqDiff,hz,wrap_zip p (done:=done) (by omega)])|intro _)
   rename_i k3 k2 k1' k0
   obtain ⟨xid,hxd⟩:∃xid:Id,xid=(n+1+k3,5):=⟨_,rfl⟩
   have hxn:xid.1<n+1+k3+1:=by rw [hxd];simp
   have hxm:n<=xid.1:=by rw [hxd];simp only;omega
   have hx1:xid≠tid:=by rintro rfl;omega
   have hx2:xid≠mid:=by rintro rfl;omega
   rw [<-hxd]
   obtain ⟨X,hX⟩:∃X:Ent,X = .box (.agg [V.i IntKind.i64 p.kind,V.s p.text,V.s p.name,V.s p.style,V.sl (List.map Case.enc p.cases),V.sl (List.map Part.enc p.parts)]):=⟨_,rfl⟩
   have hlx:∀t,lk (tabS tid mid t++[(xid,X)]) xid=some (.box (.agg [V.i IntKind.i64 p.kind,V.s p.text,V.s p.name,V.s p.style,V.sl (List.map Case.enc p.cases),V.sl (List.map Part.enc p.parts)])):=fun t=>by rw [lk_last hx1 hx2,hX]
   rw [<-hX]
   refine c_calls hta (sub_tab0 hx1 hx2) ?_
   rw [over_tab0 hx1 hx2]
   simp only [push_cast,seval,reduceEqDiff,hz,wrap_zip p (done:=done) (by omega),hlx]
   intros
   refine loopW_le (StLe.refl) (twalk_cs W0 p.cases tid mid xid X (addT t (p.name,useK p.kind)) _ _ _ _ _ hne hx1 hx2 (by omega) (by omega) (by have:=hxn;omega) (fun c hc t=>ih c.2 tid mid t (by have:=wtCs_mem hc;omega) (by have:=wtCs_mem hc;omega) hne) (by omega) (fun n' hn'=>?_))
   have hpp:=ih p.parts tid mid ((usesCs p.cases).foldl addT (addT t (p.name,useK p.kind))) (by omega) (by omega) hne
   simp only [push_cast,seval,reduceEqDiff,hz,wrap_zip p (done:=done) (by omega),hlx]
   intros
   refine c_calls hpp (fun i e h=>lk_app_left h) ?_
   rw [over_tabP hx1 hx2]
   simp only [push_cast,seval,reduceEqDiff,hz,wrap_zip p (done:=done) (by omega)]
   intros
   exact ⟨_,_,Nat.lt_succ_self _,StLe.pre (Nat.le_refl _),done++[p],rest,_,_,by simp,rfl,hd,by omega,rfl⟩
end Go.Ir
namespace Go.Proofs
open Go.Shelf
def Tryz.keysA_ren:Go.Shelf.Ren:=⟨fun|7=>104|10=>146|n=>n,fun|23=>122|26=>9|3=>3|28=>174|0=>0|27=>173|33=>145|4=>4|n=>n,fun|n=>n⟩
theorem Tryz.keysA:Go.Proofs.SlLaysZ.n7 Tryz.prog Tryz.keysA_ren:={
 mixed:=by kernel_rfl
 f7:=⟨Tryz.f104.name,by decide,Tryz.func104.trans (congrArg some (by kernel_rfl))⟩
 f10:=⟨Tryz.f146.name,by decide,Tryz.func146.trans (congrArg some (by kernel_rfl))⟩
 t0:=Tryz.underlying0
 a0:=Tryz.isAgg0
 z0:=Tryz.sizeOf0
 v0:=Tryz.zeroValue0
 t4:=Tryz.underlying4
 a4:=Tryz.isAgg4
 z4:=Tryz.sizeOf4
 v4:=Tryz.zeroValue4
 t23:=Tryz.underlying122
 a23:=Tryz.isAgg122
 z23:=Tryz.sizeOf122
 v23:=Tryz.zeroValue122
 t26:=Tryz.underlying9
 a26:=Tryz.isAgg9
 z26:=Tryz.sizeOf9
 v26:=Tryz.zeroValue9
 t27:=Tryz.underlying173
 a27:=Tryz.isAgg173
 z27:=Tryz.sizeOf173
 v27:=Tryz.zeroValue173
 t28:=Tryz.underlying174
 a28:=Tryz.isAgg174
 z28:=Tryz.sizeOf174
 v28:=Tryz.zeroValue174
 t33:=Tryz.underlying145
 a33:=Tryz.isAgg145
 z33:=Tryz.sizeOf145
 v33:=Tryz.zeroValue145 }
def Tryz.sortedA_ren:Go.Shelf.Ren:=⟨fun|6=>103|8=>144|9=>145|11=>167|13=>169|12=>168|23=>201|24=>202|14=>192|15=>193|16=>194|17=>195|18=>196|19=>197|20=>198|21=>199|22=>200|25=>223|26=>224|27=>225|28=>226|29=>227|30=>228|31=>252|n=>n,fun|26=>9|28=>174|24=>28|0=>0|3=>3|37=>226|48=>262|50=>236|4=>4|40=>256|39=>255|45=>169|5=>5|9=>9|51=>280|55=>284|57=>304|58=>305|33=>145|n=>n,fun|n=>n⟩
theorem Tryz.sortedA:Go.Proofs.SlLaysZ.n6 Tryz.prog Tryz.sortedA_ren:={
 mixed:=by kernel_rfl
 f6:=⟨Tryz.f103.name,by decide,Tryz.func103.trans (congrArg some (by kernel_rfl))⟩
 f8:=⟨Tryz.f144.name,by decide,Tryz.func144.trans (congrArg some (by kernel_rfl))⟩
 f11:=⟨Tryz.f167.name,by decide,Tryz.func167.trans (congrArg some (by kernel_rfl))⟩
 t0:=Tryz.underlying0
 a0:=Tryz.isAgg0
 z0:=Tryz.sizeOf0
 v0:=Tryz.zeroValue0
 t24:=Tryz.underlying28
 a24:=Tryz.isAgg28
 z24:=Tryz.sizeOf28
 v24:=Tryz.zeroValue28
 t26:=Tryz.underlying9
 a26:=Tryz.isAgg9
 z26:=Tryz.sizeOf9
 v26:=Tryz.zeroValue9
 t28:=Tryz.underlying174
 a28:=Tryz.isAgg174
 z28:=Tryz.sizeOf174
 v28:=Tryz.zeroValue174
 i26:=by kernel_rfl }
def Tryz.sortA_ren:Go.Shelf.Ren:=⟨fun|6=>145|8=>169|9=>168|19=>201|20=>202|21=>192|22=>193|23=>194|24=>195|25=>196|26=>197|27=>198|28=>199|29=>200|36=>223|31=>224|32=>225|37=>226|38=>227|39=>228|41=>252|n=>n,fun|27=>28|29=>9|3=>3|32=>226|26=>28|0=>0|44=>262|46=>236|4=>4|36=>256|35=>255|41=>169|5=>5|9=>9|53=>280|57=>284|63=>304|64=>305|n=>n,fun|n=>n⟩
theorem Tryz.sortA:Go.Proofs.SlLaysM.n6 Tryz.prog Tryz.sortA_ren:={
 mixed:=by kernel_rfl
 f6:=⟨Tryz.f145.name,by decide,Tryz.func145.trans (congrArg some (by kernel_rfl))⟩
 f8:=Tryz.func169.trans (congrArg some (by kernel_rfl))
 f9:=⟨Tryz.f168.name,by decide,Tryz.func168.trans (congrArg some (by kernel_rfl))⟩
 f19:=Tryz.func201.trans (congrArg some (by kernel_rfl))
 f20:=Tryz.func202.trans (congrArg some (by kernel_rfl))
 f21:=⟨Tryz.f192.name,by decide,Tryz.func192.trans (congrArg some (by kernel_rfl))⟩
 f22:=⟨Tryz.f193.name,by decide,Tryz.func193.trans (congrArg some (by kernel_rfl))⟩
 f23:=⟨Tryz.f194.name,by decide,Tryz.func194.trans (congrArg some (by kernel_rfl))⟩
 f24:=⟨Tryz.f195.name,by decide,Tryz.func195.trans (congrArg some (by kernel_rfl))⟩
 f25:=⟨Tryz.f196.name,by decide,Tryz.func196.trans (congrArg some (by kernel_rfl))⟩
 f26:=⟨Tryz.f197.name,by decide,Tryz.func197.trans (congrArg some (by kernel_rfl))⟩
 f27:=⟨Tryz.f198.name,by decide,Tryz.func198.trans (congrArg some (by kernel_rfl))⟩
 f28:=⟨Tryz.f199.name,by decide,Tryz.func199.trans (congrArg some (by kernel_rfl))⟩
 f29:=⟨Tryz.f200.name,by decide,Tryz.func200.trans (congrArg some (by kernel_rfl))⟩
 f31:=Tryz.func224.trans (congrArg some (by kernel_rfl))
 f32:=Tryz.func225.trans (congrArg some (by kernel_rfl))
 f36:=⟨Tryz.f223.name,by decide,Tryz.func223.trans (congrArg some (by kernel_rfl))⟩
 f37:=⟨Tryz.f226.name,by decide,Tryz.func226.trans (congrArg some (by kernel_rfl))⟩
 f38:=⟨Tryz.f227.name,by decide,Tryz.func227.trans (congrArg some (by kernel_rfl))⟩
 f39:=⟨Tryz.f228.name,by decide,Tryz.func228.trans (congrArg some (by kernel_rfl))⟩
 f41:=⟨Tryz.f252.name,by decide,Tryz.func252.trans (congrArg some (by kernel_rfl))⟩
 t0:=Tryz.underlying0
 a0:=Tryz.isAgg0
 z0:=Tryz.sizeOf0
 v0:=Tryz.zeroValue0
 t3:=Tryz.underlying3
 a3:=Tryz.isAgg3
 z3:=Tryz.sizeOf3
 v3:=Tryz.zeroValue3
 t4:=Tryz.underlying4
 a4:=Tryz.isAgg4
 z4:=Tryz.sizeOf4
 v4:=Tryz.zeroValue4
 t5:=Tryz.underlying5
 a5:=Tryz.isAgg5
 z5:=Tryz.sizeOf5
 v5:=Tryz.zeroValue5
 t9:=Tryz.underlying9
 a9:=Tryz.isAgg9
 z9:=Tryz.sizeOf9
 v9:=Tryz.zeroValue9
 t26:=Tryz.underlying28
 a26:=Tryz.isAgg28
 z26:=Tryz.sizeOf28
 v26:=Tryz.zeroValue28
 t27:=Tryz.underlying28
 a27:=Tryz.isAgg28
 z27:=Tryz.sizeOf28
 v27:=Tryz.zeroValue28
 t29:=Tryz.underlying9
 a29:=Tryz.isAgg9
 z29:=Tryz.sizeOf9
 v29:=Tryz.zeroValue9
 t32:=Tryz.underlying226
 a32:=Tryz.isAgg226
 z32:=Tryz.sizeOf226
 v32:=Tryz.zeroValue226
 t35:=Tryz.underlying255
 a35:=Tryz.isAgg255
 z35:=Tryz.sizeOf255
 v35:=Tryz.zeroValue255
 t36:=Tryz.underlying256
 a36:=Tryz.isAgg256
 z36:=Tryz.sizeOf256
 v36:=Tryz.zeroValue256
 t41:=Tryz.underlying169
 a41:=Tryz.isAgg169
 z41:=Tryz.sizeOf169
 v41:=Tryz.zeroValue169
 t44:=Tryz.underlying262
 a44:=Tryz.isAgg262
 z44:=Tryz.sizeOf262
 v44:=Tryz.zeroValue262
 t46:=Tryz.underlying236
 a46:=Tryz.isAgg236
 z46:=Tryz.sizeOf236
 v46:=Tryz.zeroValue236
 t53:=Tryz.underlying280
 a53:=Tryz.isAgg280
 z53:=Tryz.sizeOf280
 v53:=Tryz.zeroValue280
 t57:=Tryz.underlying284
 a57:=Tryz.isAgg284
 z57:=Tryz.sizeOf284
 v57:=Tryz.zeroValue284
 t63:=Tryz.underlying304
 a63:=Tryz.isAgg304
 z63:=Tryz.sizeOf304
 v63:=Tryz.zeroValue304
 t64:=Tryz.underlying305
 a64:=Tryz.isAgg305
 z64:=Tryz.sizeOf305
 v64:=Tryz.zeroValue305 }
end Go.Proofs
namespace Go.Ir
open Go Go.Proofs Go.RowKit Go.Maps Go.Sort Go.Shelf Go.WideElems
variable (W0 : World)
def keyD (m:TyM):DataW Unit:=.map ((m.map fun e=>(Lit.string e.1,DataW.nil)).foldr DataW.insert [])
def srtT (m:TyM):List Bytes:=(strKeys (keyD m)).mergeSort (fun x y=>decide (x<=y))
theorem srt_mem {m:TyM} {e:Bytes × Int} (h:e∈m):e.1∈srtT m:=by
 unfold srtT keyD strKeys
 rw [List.mem_mergeSort]
 exact List.mem_map.2 ⟨(Lit.string e.1,DataW.nil),mem_sorted.2 (List.mem_map.2 ⟨e,h,rfl⟩),rfl⟩
theorem srt_len (m:TyM):(srtT m).length=m.length:=by
 unfold srtT keyD strKeys
 rw [List.length_mergeSort,List.length_map,(Go.WideShapes.sorted_perm _).length_eq,List.length_map]
def keysFn:Nat:=146
theorem c_keys (m:TyM) (mid:Id):RetE Tryz.prog W0 104 [.arr mid] [(mid,.map (tyE m))] (fun n n' v σ'=>∃kid:Id,n<=kid.1/\kid.1<n'/\v = .fn keysFn [] [.ref kid 0]/\σ'=[(kid,.box (.arr mid)),(mid,.map (tyE m))]) where
 callable:=by kernel_rfl
 run:=by
  intro n w μ H vals hp hv
  obtain ⟨x,rfl⟩:∃x,vals=[x]:=by
   match vals,hv.len with
   | [x],_=>exact ⟨x,rfl⟩
  have hx:=hv.at_ 0 _ _ rfl rfl
  obtain ⟨hm,_⟩:=hx.arr_inv
  have hl:lk [(mid,Ent.map (tyE m))] mid=some (.map (tyE m)):=by simp [lk]
  obtain ⟨r,mes,clock,h1,h2,h3,h4⟩:=hp.ents _ _ hl
  rw [hm] at h1
  cases h1
  refine Calls.mono ((callsIn_wide (n:=5)).1 (AnyZ.keys_in Tryz.keysA Fence.wide 5 trivial rfl (some r) w)) ?_
  rintro e w' ⟨rfl,rfl⟩
  have hnone:μ (n,0)=none:=hp.bd _ (Nat.le_refl _)
  have hmono:=setμ_mono (v:=.pointer (some ⟨w.heap.size,0,none⟩)) hnone
  have hnew:=(hp.more (Nat.le_succ n)).new_ (n':=n+1) (R:=fun _=>False) (Turned.alloc w (.cells #[.map (some r)] (Tryz.keysA_ren.t 23))) (fun _ h=>h.elim) (σ1:=[(mid,.map (tyE m))]) (fun id e h=>⟨h,fun _ _ h=>h⟩) (id:=(n,0)) (e:=.box (.arr mid)) (val:=.pointer (some ⟨w.heap.size,0,none⟩)) hnone (Nat.lt_succ_self _) (Nat.le_refl _) (fun bk hb=>by right;simp [blk] at hb;omega)
   ⟨w.heap.size,#[.map (some r)],Tryz.keysA_ren.t 23,setμ_self _ _ _,hp.base.size,by simp [-World.alloc_eq,World.alloc],⟨⟨rfl,fun k c v hc hv=>by
    cases k with
    | zero=>
     simp [cells] at hc hv
     subst hc hv
     exact .arr _ _ (hmono _ _ hm) rfl
    | succ k=>simp [cells] at hc⟩,fun v hv=>by simp at hv;subst hv;rfl⟩⟩
  refine ⟨_,_,H,n+1,_,_,rfl,⟨(n,0),Nat.le_refl _,Nat.lt_succ_self _,rfl,rfl⟩,?_,hnew.1,Nat.le_succ _,hnew.2,fun id hid h0=>?_⟩
  ·exact .fn _ [] [.ref (n,0) 0] [] [.pointer (some ⟨w.heap.size,0,none⟩)] rfl rfl (fun k c v h=>by cases h) (fun k c v hc hv=>by
    cases k with
    | zero=>
     simp at hc hv
     subst hc hv
     exact .ref _ _ _ (setμ_self _ _ _)
    | succ k=>simp at hc)
  ·rw [setμ_ne _ _ (by rintro rfl;simp at hid)];exact h0
theorem sortsK (m:Nat):AnyZ.SortsIn Tryz.prog Tryz.sortedA_ren Fence.wide m:=
 ⟨fun blk off cap ss W hH hblk hsz=>callsIn_wide.2 (AnyM.slices_Sort_string Tryz.sortA blk off cap ss W hH hblk hsz),fun p cap W=>callsIn_wide.2 (AnyM.slices_Sort_string_none Tryz.sortA p cap W)⟩
def anyR:Value->Option (DataW Unit × List MemPlace):=fun _=>some (.nil,[])
theorem key_str {l:Bytes} (hl:l.length<=2^40):keyOf Tryz.prog 9 (.string ⟨l.toArray⟩)=some (.string l):=by
 have h:(Tryz.prog).underlying 9=some .string:=by kernel_rfl
 unfold keyOf
 rw [h]
 simp only
 unfold mapKey
 rw [h]
 simp only
 have h1:l.length<=maxLen:=Nat.le_trans hl (by decide)
 rw [if_pos (by simpa [ByteArray.size] using h1)]
theorem owns_tab {μ:Id->Option Value} {H:Addr->Option Value} {w:World} {m:TyM} {r clock:Nat} {mes:Array MapEntry} (hnd:(m.map Prod.fst).Nodup) (hlen:m.length<=2^30) (hk:∀e∈m,e.1.length<=2^40) (hh:w.heap[r]? = some (.map mes clock)) (hm:MRel μ H (tyE m) mes.toList clock) :
  w.ownsMap Tryz.prog 9 anyR r m.length (keyD m):=by
 have hl:mes.toList.length=m.length:=by rw [<-hm.len];simp [tyE]
 have hat:∀(k:Nat) (x:MapEntry),mes.toList[k]? = some x->∃e,m[k]? = some e/\x.key = .string ⟨e.1.toArray⟩/\x.born=k:=by
  intro k x hx
  have hkl:k<m.length:=by rw [<-hl];exact (List.getElem?_eq_some_iff.1 hx).1
  refine ⟨m[k],List.getElem?_eq_getElem hkl,?_,hm.born k x hx⟩
  have h1:(tyE m)[k]? = some (.s (m[k]).1,.i .i64 (m[k]).2):=by simp [tyE,List.getElem?_eq_getElem hkl]
  exact (str_of (hm.at_ k _ _ h1 hx).1).1
 have hmap:mes.toList.map (rg Tryz.prog 9 anyR)=m.map fun e=>(Lit.string e.1,DataW.nil):=by
  apply List.ext_getElem?
  intro k
  rw [List.getElem?_map,List.getElem?_map]
  cases hx:mes.toList[k]? with
  | none=>
   have:m[k]? = none:=by rw [List.getElem?_eq_none_iff] at hx⊢;omega
   rw [this];rfl
  | some x=>
   obtain ⟨e,he,hkey,_⟩:=hat k x hx
   rw [he]
   simp only [Option.map_some,Option.some.injEq]
   refine rg_of ?_
   unfold WideElems.rd anyR
   rw [hkey,key_str (hk e (List.mem_of_getElem? he))]
   rfl
 refine ⟨mes,clock,hh,⟨?_,⟨?_,?_,?_⟩,?_⟩,?_,?_⟩
 ·have:mes.size=m.length:=by simpa using hl
  rw [this];exact Nat.le_trans hlen (by decide)
 ·intro x hx
  obtain ⟨k,hk2⟩:=List.mem_iff_getElem?.1 hx
  have:=hm.born k x hk2
  have h2:=(List.getElem?_eq_some_iff.1 hk2).1
  rw [hm.now];omega
 ·have:mes.toList.map (·.born)=List.range mes.toList.length:=by
   apply List.ext_getElem?
   intro k
   rw [List.getElem?_map]
   cases hx:mes.toList[k]? with
   | none=>
    rw [List.getElem?_eq_none_iff] at hx
    rw [List.getElem?_eq_none (by simpa using hx)];rfl
   | some x=>
    have h2:=(List.getElem?_eq_some_iff.1 hx).1
    rw [List.getElem?_range h2]
    simp only [Option.map_some,hm.born k x hx]
  rw [this];exact List.nodup_range
 ·have:mes.toList.map (·.key)=m.map fun e=>Value.string ⟨e.1.toArray⟩:=by
   apply List.ext_getElem?
   intro k
   rw [List.getElem?_map,List.getElem?_map]
   cases hx:mes.toList[k]? with
   | none=>
    have:m[k]? = none:=by rw [List.getElem?_eq_none_iff] at hx⊢;omega
    rw [this];rfl
   | some x=>
    obtain ⟨e,he,hkey,_⟩:=hat k x hx
    rw [he];simp [hkey]
  rw [this,show (fun e:Bytes × Int=>Value.string ⟨e.1.toArray⟩)=(fun s:Bytes=>Value.string ⟨s.toArray⟩) ∘ Prod.fst from rfl,<-List.map_map]
  refine List.Pairwise.map _ (fun a b hab hc=>hab ?_) hnd
  injection hc with h1
  have h2:=congrArg (fun b:ByteArray=>b.data.toList) h1
  simpa using h2
 ·intro x hx
  obtain ⟨k,hk2⟩:=List.mem_iff_getElem?.1 hx
  obtain ⟨e,he,hkey,_⟩:=hat k x hk2
  refine ⟨(Lit.string e.1,DataW.nil),?_⟩
  unfold WideElems.rd anyR
  rw [hkey,key_str (hk e (List.mem_of_getElem? he))]
  rfl
 ·have:mes.size=m.length:=by simpa using hl
  omega
 ·rw [hmap];rfl
theorem srt_inv {m:TyM} {x:Bytes} (h:x∈srtT m):∃e∈m,e.1=x:=by
 unfold srtT keyD strKeys at h
 rw [List.mem_mergeSort] at h
 obtain ⟨p,hp,rfl⟩:=List.mem_map.1 h
 obtain ⟨e,he,rfl⟩:=List.mem_map.1 (mem_sorted.1 hp)
 exact ⟨e,he,rfl⟩
theorem flat_s (l:List Bytes):flat (l.map V.s)=l.map V.s:=by
 induction l with
 | nil=>rfl
 | cons x l ih=>simpa [flat,cells] using ih
theorem srt_rel {μ:Id->Option Value} {H:Addr->Option Value} {m:TyM} (hk:∀e∈m,e.1.length<=2^40):CRel μ H (flat ((srtT m).map V.s)) ((srtT m).map encStr):=by
 rw [flat_s]
 refine ⟨⟨by simp,fun k c v hc hv=>?_⟩,fun v hv=>?_⟩
 ·rw [List.getElem?_map] at hc hv
  obtain ⟨x,hx,rfl⟩:=Option.map_eq_some_iff.1 hc
  rw [hx] at hv
  cases hv
  obtain ⟨e,he,rfl⟩:=srt_inv (List.mem_of_getElem? hx)
  exact .s _ (by have:=hk e he;simp only [SLim];omega)
 ·obtain ⟨x,_,rfl⟩:=List.mem_map.1 hv
  rfl
theorem c_sorted (m:TyM) (hnd:(m.map Prod.fst).Nodup) (hlen:m.length<=2^30) (hk:∀e∈m,e.1.length<=2^40) (kid mid:Id) (hne:kid≠mid) :
  RetN Tryz.prog W0 103 [.fn keysFn [] [.ref kid 0]] [(kid,.box (.arr mid)),(mid,.map (tyE m))] (.arr 9 1 ((srtT m).map V.s)) [(kid,.box (.arr mid)),(mid,.map (tyE m))] where
 callable:=by kernel_rfl
 dom:=fun _ h=>h
 run:=by
  intro n w μ H vals hp hv
  obtain ⟨x,rfl⟩:∃x,vals=[x]:=by
   match vals,hv.len with
   | [x],_=>exact ⟨x,rfl⟩
  have hx:=hv.at_ 0 _ _ rfl rfl
  have hl1:lk [(kid,Ent.box (.arr mid)),(mid,Ent.map (tyE m))] kid=some (.box (.arr mid)):=by simp [lk]
  have hl2:lk [(kid,Ent.box (.arr mid)),(mid,Ent.map (tyE m))] mid=some (.map (tyE m)):=by simp [lk,hne]
  obtain ⟨bk,cvals,ct,k1,k2,k3,k4⟩:=hp.ents _ _ hl1
  obtain ⟨r,mes,clock,h1,h2,h3,h4⟩:=hp.ents _ _ hl2
  obtain ⟨y,rfl,hy⟩:∃y,x = .func (.func keysFn) #[] #[y]/\VRel μ H (.ref kid 0) y:=by
   cases hx with
   | fn _ _ _ bs fs h1 h2 h3 h4=>
    match bs,fs,h1,h2 with
    | [],[y],_,_=>exact ⟨y,rfl,h4 0 _ _ rfl rfl⟩
  obtain ⟨bk2,hb2,rfl⟩:=hy.ref_inv
  rw [hb2] at k1
  cases k1
  obtain ⟨hmid,hone⟩:μ mid=some (.map (some r))/\True:=⟨h1,trivial⟩
  have hcell:w.cell? ⟨bk,0,none⟩=some (.map (some r)):=by
   have h0:=k4.get (k:=0) (c:=.arr mid) rfl
   obtain ⟨z,hz,hzr⟩:=h0
   have:=hzr.arr_inv.1
   rw [h1] at this
   cases this
   simp [World.cell?,k3]
   simpa using hz
  have hbl:bk<w.heap.size:=(Array.getElem?_eq_some_iff.1 k3).1
  have hown:=owns_tab hnd hlen hk h3 h4
  have hseq:=AnyZ.keys_gives (ρ:=Tryz.keysA_ren) { Tryz.keysA with } Fence.wide 2 trivial rfl (by omega) bk r m.length (keyD m) w hbl hcell hown
  have hN:Maps.size (keyD m)<=2^30:=by
   unfold keyD
   rw [Maps.size_eq,(Go.WideShapes.sorted_perm _).length_eq,List.length_map]
   exact hlen
  have cS:=AnyZ.sorted_in Tryz.sortedA Fence.wide 5 trivial trivial trivial trivial rfl (by omega) (sortsK _) (enters_of Tryz.func145 (by kernel_rfl) rfl) keysFn #[.pointer (some ⟨bk,0,none⟩)] trivial (enters_of Tryz.func146 (by kernel_rfl) rfl) _ _ (Nat.le_trans hN (by decide)) (by omega) _ hseq
  refine Calls.mono ((callsIn_wide (n:=5)).1 cS) ?_
  rintro e w' ⟨v,ss,rfl,hS,hrow,hnil,hb⟩
  have hnone:μ (n,0)=none:=hp.bd _ (Nat.le_refl _)
  have hss:ss.mergeSort (fun x y=>decide (x<=y))=srtT m:=mergeSort_of_perm hS
  have hlen2:ss.length=(srtT m).length:=by rw [<-hss,List.length_mergeSort]
  rw [hss,hlen2] at hrow
  have hform:=hrow.2
  have hone:v.oneCell'=true:=by
   rcases hform with ⟨rfl,_⟩|⟨g,cap,cur,rfl,_⟩<;>rfl
  have hnew:=(hp.more (Nat.le_succ n)).new_ (n':=n+1) (R:=fun _=>False) (w':=w') ⟨hb.os,hb.tape,hb.output,hb.size,fun k hk _=>hb.block k hk⟩ (fun _ h=>h.elim) (σ1:=[(kid,.box (.arr mid)),(mid,.map (tyE m))]) (fun id e h=>⟨h,fun _ _ h=>h⟩) (id:=(n,0)) (e:=.arr 9 1 ((srtT m).map V.s)) (val:=v) hnone (Nat.lt_succ_self _) (Nat.le_refl _) (fun bk hb=>by
    right
    rcases hform with ⟨rfl,_⟩|⟨g,cap,cur,rfl,hg,_⟩
    ·simp [blk] at hb
    ·simp [blk] at hb;omega)
   ⟨v,(srtT m).map encStr,setμ_self _ _ _,hone,by rw [List.length_map];exact ownsRow_base_a hrow hp.base.size,by rw [List.length_map,srt_len];unfold LLim;omega,by intro y hy;obtain ⟨x,_,rfl⟩:=List.mem_map.1 hy;rfl,srt_rel hk⟩
  refine ⟨v,_,H,n+1,(n,0),rfl,setμ_self _ _ _,hone,hnone,by cases hq:lk [(kid,Ent.box (V.arr mid)),(mid,Ent.map (tyE m))] (n,0) with|none=>rfl|some e=>exact absurd (hp.ents _ _ hq).named (by rw [hnone];rintro ⟨_,h⟩;cases h),hnew.1,Nat.le_succ _,hnew.2,fun id hid h0=>?_⟩
  rw [setμ_ne _ _ (by rintro rfl;simp at hid)];exact h0
end Go.Ir
namespace Go.Ir
open Go.Proofs
variable (W0 : World)
def argsOf (m:TyM):TyM:=(srtT m).map fun n=>(n,(lookT m n).getD 0)
set_option maxHeartbeats 4000000 in
theorem c_args (t:TyM × Bool) (tid mid:Id) (hne:tid≠mid) (hnd:(t.1.map Prod.fst).Nodup) (hlen:t.1.length<=2^28) (hk:∀e∈t.1,e.1.length<=2^40) :
  RetS Tryz.prog W0 50 [.ref tid 0] (tabS tid mid t) (.sl ((argsOf t.1).map argV)) []:=by
 have f1:(tid=mid)=False:=eq_false hne
 have f2:(mid=tid)=False:=eq_false (Ne.symm hne)
 refine fn_retW (vs:=[.sl ((argsOf t.1).map argV)]) f50ok (by simp) (by simp [lk]) fun n0 hn0=>?_
 have hl1:tid.1<n0:=hn0 tid (.box (.agg [.arr mid,.b t.2])) (by simp [tabS,lk])
 have hl2:mid.1<n0:=hn0 mid (.map (tyE t.1)) (by simp [tabS,lk,hne])
 clear hn0
 unfold tabS
 simp only [push_cast,seval,reduceEqDiff,f1,f2]
 intro k1 k2 k3
 refine c_callx (c_keys W0 t.1 mid) (fun i e h=>by
  simp only [lk] at h⊢
  split at h
  ·rename_i h1;subst h1;cases h;simp [f1]
  ·cases h) (fun n2 v σo hle hR=>?_)
 obtain ⟨kid,hk1,hk2,rfl,rfl⟩:=hR
 have hkt:kid≠tid:=by rintro rfl;omega
 have hkm:kid≠mid:=by rintro rfl;omega
 have hov:over [(mid,Ent.map (tyE t.1))] [(kid,Ent.box (.arr mid)),(mid,Ent.map (tyE t.1))] [(tid,Ent.box (.agg [.arr mid,.b t.2])),(mid,Ent.map (tyE t.1))]=[(kid,Ent.box (.arr mid)),(mid,Ent.map (tyE t.1)),(tid,Ent.box (.agg [.arr mid,.b t.2]))]:=by
  simp [over,lk,f1,f2]
 rw [hov]
 clear hov
 simp only [push_cast,seval,reduceEqDiff,f1,f2]
 refine c_calln (c_sorted W0 t.1 hnd (by omega) hk kid mid hkm) (fun i e h=>?_) ?_
 ·exact lk_app_left (σ:=[_,_]) (τ:=[_]) h
 have hov:over [(kid,Ent.box (.arr mid)),(mid,Ent.map (tyE t.1))] [(kid,Ent.box (.arr mid)),(mid,Ent.map (tyE t.1))] [(kid,Ent.box (.arr mid)),(mid,Ent.map (tyE t.1)),(tid,Ent.box (.agg [.arr mid,.b t.2]))]=[(kid,Ent.box (.arr mid)),(mid,Ent.map (tyE t.1)),(tid,Ent.box (.agg [.arr mid,.b t.2]))]:=by
  simp [over,lk,hkm,hkt,f1,f2,Ne.symm hkm]
 rw [hov]
 clear hov
 simp only [push_cast,seval,reduceEqDiff,f1,f2]
 intro k4
 generalize hL:srtT t.1=L
 have hLl:L.length<=2^28:=by rw [<-hL,srt_len];exact hlen
 have hA:argsOf t.1=L.map fun n=>(n,(lookT t.1 n).getD 0):=by unfold argsOf;rw [hL]
 rw [hA]
 clear hA
 obtain ⟨g,hg⟩:∃g:Bytes->V,g=fun n=>argV (n,(lookT t.1 n).getD 0):=⟨_,rfl⟩
 have hmg:(L.map fun n=>(n,(lookT t.1 n).getD 0)).map argV=L.map g:=by rw [hg,List.map_map];rfl
 rw [hmg]
 clear hmg
 generalize hsid:((n2,11):Id)=sid
 refine aWP_loopW L.length (Inv:=fun m st=>∃done rest n lo,L=done++rest/\m=rest.length/\(lo=none->done=[])/\n2+1<=n/\(∀o,lo=some o->n2+1<=o.1/\o.1<n)/\st=⟨[(0,.ref tid 0),(3,sv lo),(11,.arr sid),(12,.i .i64 L.length),(13,.i .i64 done.length)],(match lo with|none=>[]|some o=>[(o,.arr 129 2 (done.map g))])++[(sid,Ent.arr 9 1 (L.map V.s)),(kid,Ent.box (.arr mid)),(mid,Ent.map (tyE t.1)),(tid,Ent.box (.agg [.arr mid,.b t.2]))],n⟩) ⟨_,StLe.refl,[],L,n2+1+k4,none,rfl,rfl,(fun _=>rfl),(by omega),(fun o (h:none=some o)=>by cases h),rfl⟩ ?_
 rintro m _ ⟨done,rest,n,lo,hz,rfl,hlo,hn,hol,rfl⟩
 have hs1:sid.1=n2:=by rw [<-hsid]
 have e1:(sid=tid)=False:=eq_false (by rintro rfl;omega)
 have e2:(sid=mid)=False:=eq_false (by rintro rfl;omega)
 have e3:(kid=tid)=False:=eq_false hkt
 have e4:(kid=mid)=False:=eq_false hkm
 cases rest with
 | nil=>
  have hLd:L=done:=by rw [hz];simp
  subst hLd
  cases lo with
  | none=>
   have:=hlo rfl
   subst this
   simp only [push_cast,seval,reduceEqDiff,f1,f2]
   intros
   exact finW_nil rfl
  | some o=>
   simp only [push_cast,seval,reduceEqDiff,f1,f2]
   intros
   refine finW_frz (id:=o) (e:=129) (sz:=2) rfl (fun y hy=>?_) (by simp [lk])
   obtain ⟨z,_,rfl⟩:=List.mem_map.1 hy
   rw [hg];rfl
 | cons x rest=>
  have hbd:=zip_bd hz
  have hget:(L.map V.s)[done.length]? = some (.s x):=by rw [hz];simp
  have hlt:decide ((done.length:Int)<(L.length:Int))=true:=by simp;omega
  have hlt2:done.length<L.length:=by omega
  have hwz:=wrap_zip x (done:=done) (by omega)
  have hgx:g x = .agg [.s x,.i .i64 ((lookT t.1 x).getD 0)]:=by rw [hg];rfl
  cases lo with
  | none=>
   have:=hlo rfl
   subst this
   have g1:decide ((0:Int)<(L.length:Int))=true:=by simpa using hlt
   have g2:(L.map V.s)[0]? = some (.s x):=by simpa using hget
   have g3:0<L.length:=by simpa using hlt2
   have g4:IntKind.i64.wrap (0+1)=1:=rfl
   have g5:(1<=LLim)=True:=eq_true (by decide)
   have s1:sv none = .nil:=rfl
   have hfin:∀(v:Int) (n':Nat) (o:Id),n<=o.1->o.1<n'->g x = .agg [.s x,.i .i64 v]->∃m' st',m'<rest.length+1/\StLe W0 30 ⟨[(0,.ref tid 0),(3,.arr o),(11,.arr sid),(12,.i .i64 L.length),(13,.i .i64 1)],[(o,.arr 129 2 [.agg [.s x,.i .i64 v]]),(sid,Ent.arr 9 1 (L.map V.s)),(kid,Ent.box (.arr mid)),(mid,Ent.map (tyE t.1)),(tid,Ent.box (.agg [.arr mid,.b t.2]))],n'⟩ st'/\(∃done rest n lo,L=done++rest/\m'=rest.length/\(lo=none->done=[])/\n2+1<=n/\(∀o,lo=some o->n2+1<=o.1/\o.1<n)/\st'=⟨[(0,.ref tid 0),(3,sv lo),(11,.arr sid),(12,.i .i64 L.length),(13,.i .i64 done.length)],(match lo with|none=>[]|some o=>[(o,.arr 129 2 (done.map g))])++[(sid,Ent.arr 9 1 (L.map V.s)),(kid,Ent.box (.arr mid)),(mid,Ent.map (tyE t.1)),(tid,Ent.box (.agg [.arr mid,.b t.2]))],n⟩):=by
    intro v n' o h1 h2 hgv
    refine ⟨_,_,Nat.lt_succ_self _,StLe.refl,[x],rest,n',some o,by simpa using hz,rfl,by simp,by omega,fun o' h=>?_,?_⟩
    ·cases h;omega
    ·simp [sv,hgv]
   rcases find_tab x t.1 0 with ⟨i,v,h1,h2,h3⟩|⟨h1,h2,h3⟩
   ·simp only [Nat.zero_add] at h2
    rw [h1] at hgx
    simp only [push_cast,seval,reduceEqDiff,f1,f2,e1,e2,e3,e4,h2,g2,g1,g3,g4,g5,List.length_map,s1]
    intros
    exact hfin _ _ _ (by simp only;omega) (by simp only;omega) hgx
   ·rw [h1] at hgx
    simp only [push_cast,seval,reduceEqDiff,f1,f2,e1,e2,e3,e4,h2,g2,g1,g3,g4,g5,List.length_map,s1]
    intros
    exact hfin _ _ _ (by simp only;omega) (by simp only;omega) hgx
  | some o=>
   obtain ⟨ho1,ho2⟩:=hol o rfl
   have s2:sv (some o) = .arr o:=rfl
   have q1:(o=tid)=False:=eq_false (by rintro rfl;omega)
   have q2:(o=mid)=False:=eq_false (by rintro rfl;omega)
   have q3:(o=sid)=False:=eq_false (by rintro rfl;omega)
   have q4:(o=kid)=False:=eq_false (by rintro rfl;omega)
   have p1:(tid=o)=False:=eq_false (by rintro rfl;omega)
   have p2:(mid=o)=False:=eq_false (by rintro rfl;omega)
   have p3:(sid=o)=False:=eq_false (by rintro rfl;omega)
   have p4:(kid=o)=False:=eq_false (by rintro rfl;omega)
   have g5:(done.length+1<=LLim)=True:=eq_true (by simp only [LLim];omega)
   have hfin:∀(v:Int) (n':Nat) (o:Id),n<=o.1->o.1<n'->g x = .agg [.s x,.i .i64 v]->∃m' st',m'<rest.length+1/\StLe W0 30 ⟨[(0,.ref tid 0),(3,.arr o),(11,.arr sid),(12,.i .i64 L.length),(13,.i .i64 (done++[x]).length)],[(o,.arr 129 2 (done.map g++[.agg [.s x,.i .i64 v]])),(sid,Ent.arr 9 1 (L.map V.s)),(kid,Ent.box (.arr mid)),(mid,Ent.map (tyE t.1)),(tid,Ent.box (.agg [.arr mid,.b t.2]))],n'⟩ st'/\(∃done rest n lo,L=done++rest/\m'=rest.length/\(lo=none->done=[])/\n2+1<=n/\(∀o,lo=some o->n2+1<=o.1/\o.1<n)/\st'=⟨[(0,.ref tid 0),(3,sv lo),(11,.arr sid),(12,.i .i64 L.length),(13,.i .i64 done.length)],(match lo with|none=>[]|some o=>[(o,.arr 129 2 (done.map g))])++[(sid,Ent.arr 9 1 (L.map V.s)),(kid,Ent.box (.arr mid)),(mid,Ent.map (tyE t.1)),(tid,Ent.box (.agg [.arr mid,.b t.2]))],n⟩):=by
    intro v n' o h1 h2 hgv
    refine ⟨_,_,Nat.lt_succ_self _,StLe.refl,done++[x],rest,n',some o,by simpa using hz,rfl,by simp,by omega,fun o' h=>?_,?_⟩
    ·cases h;omega
    ·simp [sv,hgv]
   rcases find_tab x t.1 0 with ⟨i,v,h1,h2,h3⟩|⟨h1,h2,h3⟩
   ·simp only [Nat.zero_add] at h2
    rw [h1] at hgx
    simp only [push_cast,seval,reduceEqDiff,f1,f2,e1,e2,e3,e4,q1,q2,q3,q4,p1,p2,p3,p4,h2,hget,hlt,hlt2,hwz,g5,List.length_map,s2]
    intros
    exact hfin _ _ _ (by simp only;omega) (by simp only;omega) hgx
   ·rw [h1] at hgx
    simp only [push_cast,seval,reduceEqDiff,f1,f2,e1,e2,e3,e4,q1,q2,q3,q4,p1,p2,p3,p4,h2,hget,hlt,hlt2,hwz,g5,List.length_map,s2]
    intros
    exact hfin _ _ _ (by simp only;omega) (by simp only;omega) hgx
theorem put_keys (m:TyM) (n:Bytes) (k:Int):(putT m n k).map Prod.fst=if n∈m.map Prod.fst then m.map Prod.fst else m.map Prod.fst++[n]:=by
 induction m with
 | nil=>rfl
 | cons e m ih=>
  rw [putT]
  by_cases h:e.1=n
  ·have hb:(e.1 == n)=true:=by simpa using h
   rw [hb,if_pos rfl,if_pos (by simp [h])]
   simp [List.map_cons]
  ·have hb:(e.1 == n)=false:=by simpa using h
   rw [hb,if_neg (by simp),List.map_cons,ih,List.map_cons]
   by_cases h2:n∈m.map Prod.fst
   ·rw [if_pos h2,if_pos (List.mem_cons_of_mem _ h2)]
   ·rw [if_neg h2,if_neg (by simp only [List.mem_cons,not_or];exact ⟨fun he=>h he.symm,h2⟩)]
    rfl
theorem add_keys (t:TyM × Bool) (u:Bytes × Int):∃k,(addT t u).1=putT t.1 u.1 k:=by
 unfold addT
 split
 ·exact ⟨_,rfl⟩
 ·exact ⟨_,rfl⟩
theorem fold_keys (us:List (Bytes × Int)):∀t:TyM × Bool,(t.1.map Prod.fst).Nodup->((us.foldl addT t).1.map Prod.fst).Nodup/\(us.foldl addT t).1.length<=t.1.length+us.length/\∀n∈(us.foldl addT t).1.map Prod.fst,n∈t.1.map Prod.fst\/∃u∈us,u.1=n:=by
 induction us with
 | nil=>intro t h;exact ⟨h,Nat.le_refl _,fun n hn=>.inl hn⟩
 | cons u us ih=>
  intro t h
  obtain ⟨k,hk⟩:=add_keys t u
  have hp:=put_keys t.1 u.1 k
  rw [<-hk] at hp
  have hlen:(addT t u).1.length<=t.1.length+1:=by
   have:=congrArg List.length hp
   rw [List.length_map] at this
   rw [this]
   split
   ·simp
   ·simp
  obtain ⟨h1,h2,h3⟩:=ih (addT t u) (by
   rw [hp]
   split
   ·exact h
   ·rename_i hn
    rw [List.nodup_append]
    refine ⟨h,by simp,fun a ha b hb he=>hn ?_⟩
    simp only [List.mem_singleton] at hb
    rw [<-hb,<-he];exact ha)
  refine ⟨h1,by rw [List.length_cons];simp only [List.foldl_cons];omega,fun n hn=>?_⟩
  rcases h3 n hn with h4|⟨v,hv,rfl⟩
  ·rw [hp] at h4
   split at h4
   ·exact .inl h4
   ·rcases List.mem_append.1 h4 with h4|h4
    ·exact .inl h4
    ·simp only [List.mem_singleton] at h4
     exact .inr ⟨u,by simp,h4.symm⟩
  ·exact .inr ⟨v,by simp [hv],rfl⟩
theorem uses_wt (ps:List Part):(usesPs ps).length<=wtPs ps/\∀u∈usesPs ps,u.1.length<=wtPs ps:=by
 refine tree_Q (P:=fun p=>p.uses.length<=p.wt/\∀u∈p.uses,u.1.length<=p.wt) (Q:=fun ps=>(usesPs ps).length<=wtPs ps/\∀u∈usesPs ps,u.1.length<=wtPs ps)
  (R:=fun cs=>(usesCs cs).length<=wtCs cs/\∀u∈usesCs cs,u.1.length<=wtCs cs) ?_ ?_ ?_ ?_ ?_ ps
 ·intro p hr hq
  rw [p.uses_eq,p.wt_eq]
  refine ⟨?_,fun u hu=>?_⟩
  ·have:(if inUse p.kind=true then [(p.name,useK p.kind)] else []).length<=1:=by split<;>simp
   simp only [List.length_append]
   have h1:=hr.1;have h2:=hq.1
   omega
  ·simp only [List.mem_append] at hu
   rcases hu with hu|hu|hu
   ·split at hu
    ·simp only [List.mem_singleton] at hu;subst hu;simp only;omega
    ·cases hu
   ·have:=hr.2 u hu;omega
   ·have:=hq.2 u hu;omega
 ·simp [usesPs_nil]
 ·intro p ps hp hq
  rw [usesPs_cons,wtPs_cons]
  refine ⟨by rw [List.length_append];have h1:=hp.1;have h2:=hq.1;omega,fun u hu=>?_⟩
  rcases List.mem_append.1 hu with hu|hu
  ·have:=hp.2 u hu;omega
  ·have:=hq.2 u hu;omega
 ·simp [usesCs_nil]
 ·intro c cs hq hr
  rw [usesCs_cons,wtCs_cons]
  refine ⟨by rw [List.length_append];have h1:=hq.1;have h2:=hr.1;omega,fun u hu=>?_⟩
  rcases List.mem_append.1 hu with hu|hu
  ·have:=hq.2 u hu;omega
  ·have:=hr.2 u hu;omega
theorem tab_bd (ps:List Part):((tabOf ps).1.map Prod.fst).Nodup/\(tabOf ps).1.length<=wtPs ps/\∀e∈(tabOf ps).1,e.1.length<=wtPs ps:=by
 obtain ⟨h1,h2,h3⟩:=fold_keys (usesPs ps) ([],false) (by simp)
 obtain ⟨h4,h5⟩:=uses_wt ps
 refine ⟨h1,by simp only [List.length_nil] at h2;unfold tabOf;omega,fun e he=>?_⟩
 rcases h3 e.1 (List.mem_map.2 ⟨e,he,rfl⟩) with h|⟨u,hu,hue⟩
 ·simp at h
 ·rw [<-hue];exact h5 u hu
theorem look_in {m:TyM} {n:Bytes} {x:Int} (h:lookT m n=some x):∃e∈m,e.1=n:=by
 induction m with
 | nil=>cases h
 | cons e m ih=>
  rw [lookT] at h
  split at h
  ·rename_i hb;exact ⟨e,by simp,by simpa using hb⟩
  ·obtain ⟨e',h1,h2⟩:=ih h;exact ⟨e',by simp [h1],h2⟩
theorem args_in {m:TyM} {n:Bytes} {x:Int} (h:lookT m n=some x):(n,x)∈argsOf m:=by
 obtain ⟨e,he,rfl⟩:=look_in h
 exact List.mem_map.2 ⟨e.1,srt_mem he,by rw [h];rfl⟩
theorem args_bd {m:TyM} {B:Nat} (h:∀e∈m,e.1.length<=B):(argsOf m).length=m.length/\∀a∈argsOf m,a.1.length<=B:=by
 refine ⟨by unfold argsOf;rw [List.length_map,srt_len],fun a ha=>?_⟩
 obtain ⟨x,hx,rfl⟩:=List.mem_map.1 ha
 obtain ⟨e,he,rfl⟩:=srt_inv hx
 exact h e he
def inferP (ps:List Part):TyM × Int:=if !validP ps then ([],1) else if (tabOf ps).2 then ([],11) else (argsOf (tabOf ps).1,0)
theorem finW_nil23 {W0:World} {nt n:Nat} {env:Env} {σ:Sto} {e:V} (h4:get env 2 = .nil) (h5:get env 3=e):FinW W0 nt [.t 2,.t 3] [.sl [],e] [] .ret ⟨env,σ,n⟩:=by
 refine ⟨⟨[(2,.sl []),(3,e)],[],n⟩,StLe.weak (fun _=>none) (fun _ _ h=>by cases h) (fun t=>?_) (fun i e' h=>by cases h) (Nat.le_refl _),⟨by simp [ResOk,get],by simp [ResOk,get],trivial⟩,fun _ _ h=>by cases h⟩
 by_cases h:2=t
 ·subst h;rw [h4];simp only [get,if_true];exact .nil
 ·by_cases h':3=t
  ·subst h';rw [h5];simp only [get];simp;exact .refl _
  ·simp only [get,if_neg h,if_neg h'];exact .any _
set_option maxHeartbeats 4000000 in
theorem c_Infer (ps:List Part) (hb:wtPs ps<=2^24):RetS Tryz.prog W0 19 [.sl (ps.map Part.enc)] [] (.tup [.sl ((inferP ps).1.map argV),.i .i64 (inferP ps).2]) []:=by
 have hv:=c_Valid W0 ps hb
 obtain ⟨b1,b2,b3⟩:=tab_bd ps
 unfold inferP
 refine fn_retW (vs:=[.sl _,.i .i64 _]) f19ok (by simp) (by simp) fun n0 hn0=>?_
 clear hn0
 cases hvv:validP ps with
 | false=>
  rw [hvv] at hv
  simp only [bq,if_true,if_false,Int.reduceBEq,reduceCtorEq,Bool.not_false]
  simp only [push_cast,seval,reduceEqDiff]
  repeat' (first|(((first|apply condU_s|apply gdU_t|apply gdU_f)<;>intro _h)<;>simp only [push_cast,seval,reduceEqDiff,_h])|(refine c_call (by exact hv) ?_;simp only [push_cast,seval,reduceEqDiff])|intro _)
  all_goals (intros;exact finW_nil23 rfl rfl)
 | true=>
  rw [hvv] at hv
  simp only [bq,if_true,if_false,Int.reduceBEq,reduceCtorEq,Bool.not_true]
  simp only [push_cast,seval,reduceEqDiff]
  repeat' (first|(((first|apply condU_s|apply gdU_t|apply gdU_f)<;>intro _h)<;>simp only [push_cast,seval,reduceEqDiff,_h])|(refine c_call (by exact hv) ?_;simp only [push_cast,seval,reduceEqDiff])|intro _)
  rename_i k2 k1 k0
  obtain ⟨tid,htid⟩:∃tid:Id,tid=(n0+1+k2+1+k1,10):=⟨_,rfl⟩
  obtain ⟨mid,hmid⟩:∃mid:Id,mid=(n0+1+k2+1+k1,8):=⟨_,rfl⟩
  have hne:tid≠mid:=by rw [htid,hmid];simp
  rw [<-htid,<-hmid]
  have htw:=c_twalk W0 _ ps tid mid ([],false) (Nat.lt_succ_self _) (by omega) hne
  refine c_calls htw (fun i e h=>h) ?_
  have hov:over (tabS tid mid ([],false)) (tabS tid mid ((usesPs ps).foldl addT ([],false))) [(tid,Ent.box (V.agg [V.arr mid,V.b false])),(mid,Ent.map [])]=tabS tid mid ((usesPs ps).foldl addT ([],false)):=by
   have:=over_tab (tid:=tid) (mid:=mid) (t:=([],false)) (t':=(usesPs ps).foldl addT ([],false)) (pre:=[]) (post:=[]) (by simp)
   simp only [List.nil_append,List.append_nil] at this
   exact this
  rw [hov]
  clear hov
  rw [show (usesPs ps).foldl addT ([],false)=tabOf ps from rfl]
  have hca:=c_args W0 (tabOf ps) tid mid hne b1 (by omega) (fun e he=>by have:=b3 e he;omega)
  have f1:(tid=mid)=False:=eq_false hne
  have f2:(mid=tid)=False:=eq_false (Ne.symm hne)
  generalize tabOf ps=T at *
  obtain ⟨m,w⟩:=T
  simp only at hca b1 b2 b3
  unfold tabS at *
  cases w with
  | true=>
   simp only [push_cast,seval,reduceEqDiff,f1,f2]
   intros
   exact finW_nil23 rfl rfl
  | false=>
   simp only [push_cast,seval,reduceEqDiff,f1,f2]
   intros
   refine c_calls hca (fun i e h=>h) ?_
   simp only [push_cast,seval,reduceEqDiff,f1,f2]
   intros
   refine finW_rets ?_
   simp [push_cast,get]
end Go.Ir
namespace Go.Ir
open Go.Proofs
variable {P : Program} {W0 : World} {nt n : Nat} {Q : Exit → St → Prop} {env : Env} {σ : Sto}
def f5_31:IC:=.cond (.t 61) (.seq (.ops [m1 62 12,o1 63 (.bin .neq (.t 62) (ci 0)),m1 6 63] [6] []) .ret) .skip
def f5_34:IC:=.seq (.ops [m1 64 13,o1 65 (.bin .geq (.t 64) (ci 0)),m1 66 65,⟨some 67,.mv (.t 13),some (66,true),[]⟩,⟨some 68,.faddr (.t 7) 1,some (66,true),[]⟩,⟨some 69,.load (.t 68) 1 false,some (66,true),[]⟩,⟨some 70,.lenL (.t 69),some (66,true),[]⟩,⟨some 71,.bin .lss (.t 67) (.t 70),some (66,true),[]⟩,o1 72 (.pick (.t 66) (.t 71) (.c (.b false))),m1 6 72] [6] []) .ret
def f5_26:IC:=.seq (.ops [o1 54 (.load (.t 3) 16 true),o1 55 (.load (.t 7) 2 true),m1 56 2,o1 57 (.call 21 [.t 54,.t 55,.t 56]),m1 53 57,o1 58 (.ext (.t 53) 0),o1 59 (.ext (.t 53) 1),m1 13 58,m1 14 59] [7,12,13,14] []) (.seq (.seq (.ops [m1 60 14,o1 61 (.bin .neq (.t 60) (ci 0))] [7,12,13,61] []) f5_31) f5_34)
def f5_24:IC:=.seq (.ops [m1 48 9,m1 49 2,o1 50 (.call 20 [.t 48,.t 49]),m1 47 50,o1 51 (.ext (.t 47) 0),o1 52 (.ext (.t 47) 1),m1 11 51,m1 12 52] [2,3,7,12] []) f5_26
def f5_18:IC:=.seq (.seq (.ops [m1 41 8,o1 42 (.bin .neq (.t 41) (ci 0)),m1 43 42,⟨some 44,.mv (.t 10),some (43,false),[]⟩,⟨some 45,.bin .neq (.t 44) (ci 0),some (43,false),[]⟩,o1 46 (.pick (.t 43) (.c (.b true)) (.t 45))] [2,3,7,9,46] []) (.cond (.t 46) (.seq (.ops [o1 6 (.mv (.c (.b true)))] [6] []) .ret) .skip)) f5_24
def f5_16:IC:=.seq (.ops [m1 37 1,o1 38 (.call 19 [.t 37]),m1 36 38,o1 39 (.ext (.t 36) 0),o1 40 (.ext (.t 36) 1),m1 9 39,m1 10 40] [2,3,7,8,9,10] []) f5_18
def f5_14:IC:=.seq (.ops [o1 31 (.load (.t 3) 16 true),m1 32 1,o1 33 (.call 18 [.t 31,.t 32]),m1 30 33,o1 34 (.ext (.t 30) 0),o1 35 (.ext (.t 30) 1),o1 7 (.alloc (.agg [.nil,.nil])),o0 (.store (.t 7) (.t 34) 2),m1 8 35] [1,2,3,7,8] []) f5_16
def f5_8:IC:=.seq (.seq (.ops [o1 17 (.load (.t 3) 16 true),o1 18 (.call 16 [.t 17]),o1 19 (.not (.t 18)),m1 20 19,⟨some 21,.mv (.t 1),some (20,false),[]⟩,⟨some 22,.call 11 [.t 21],some (20,false),[]⟩,⟨some 23,.not (.t 22),some (20,false),[]⟩,o1 24 (.pick (.t 20) (.c (.b true)) (.t 23)),m1 25 24,⟨some 26,.mv (.t 2),some (25,false),[]⟩,⟨some 27,.call 17 [.t 26],some (25,false),[]⟩,⟨some 28,.not (.t 27),some (25,false),[]⟩,o1 29 (.pick (.t 25) (.c (.b true)) (.t 28))] [1,2,3,29] []) (.cond (.t 29) (.seq (.ops [o1 6 (.mv (.c (.b true)))] [6] []) .ret) .skip)) f5_14
def f5_2:IC:=.seq (.seq (.ops [o1 15 (.call 15 []),o1 16 (.not (.t 15))] [1,2,3,16] []) (.cond (.t 16) (.seq (.ops [o1 6 (.mv (.c (.b false)))] [6] []) .ret) .skip)) f5_8
def f5_0:IC:=.seq (.ops [o1 3 (.box (.t 0)),o1 6 (.mv (.c (.b false)))] [1,2,3] []) f5_2
@[push_cast]def f5R:List R:=[.t 6]
@[push_cast]def f5e:=aWv f5_31.eq_1<|aWv f5_34.eq_1<|aWv f5_26.eq_1<|aWv f5_24.eq_1<|aWv f5_18.eq_1<|aWv f5_16.eq_1<|aWv f5_14.eq_1<|aWv f5_8.eq_1<|aWv f5_2.eq_1<|aWu f5_0.eq_1
theorem f5ok:okFn Tryz.prog 5 73 f5_0 f5R=true:=by kernel_rfl
end Go.Ir
namespace Go.Ir
open Go.Proofs
variable (W0 : World)
theorem selV_two (k:Int) (n:Bytes) (vs:List Val):(∃v,selV k n vs=(some v,0))\/∃e,e≠0/\selV k n vs=(none,e):=by
 unfold selV
 split
 ·exact .inr ⟨12,by decide,rfl⟩
 ·rename_i v _
  by_cases h:(!propV v||v.type != (if (k == 9)=true then 1 else 2))=true
  ·rw [if_pos h];exact .inr ⟨11,by decide,rfl⟩
  ·rw [if_neg h];exact .inl ⟨v,rfl⟩
theorem selGo_ok (l:Loc) (vs:List Val):∀(L:List Sel) (n:Int),(selGo l vs L n).2=0->∀s∈L,∃v,selV s.kind s.name vs=(some v,0):=by
 intro L
 induction L with
 | nil=>intro n _ s hs;cases hs
 | cons x L ih=>
  intro n h s hs
  rw [selGo] at h
  have hx:∃v,selV x.kind x.name vs=(some v,0):=by
   rcases selV_two x.kind x.name vs with hv|⟨e,he,hv⟩
   ·exact hv
   ·rw [hv] at h;exact absurd h he
  obtain ⟨v,hv⟩:=hx
  rw [hv] at h
  rcases List.mem_cons.1 hs with rfl|hs
  ·exact ⟨v,hv⟩
  ·exact ih _ h s hs
theorem one_rng (l:Loc) (ps:List Part) (vs:List Val) (h:(flatP l ps).2=0) (hs:(selGo l vs (flatP l ps).1.1 0).2=0):0<=(selGo l vs (flatP l ps).1.1 0).1/\(selGo l vs (flatP l ps).1.1 0).1<((flatP l ps).1.2.length:Int):=by
 rcases flatP_form l ps with hF|⟨hv,hc,hF⟩
 ·rcases flat_ok l ps with ⟨hE,_⟩|⟨_,hok⟩
  ·exact absurd h hE
  ·have:=hok.2
   rw [hF] at this
   cases this
 ·rw [hF] at hs⊢
  simp only [varsOf,List.length_map,List.length_range] at hs⊢
  have hok:=selGo_ok l vs _ _ hs
  exact (selGo_range l vs (selsP ps) 0 1 (by omega) (by omega) (by omega) (by omega) (fun s hm=>⟨(sels_keys ps s hm).1,hok s hm⟩)).2
set_option maxHeartbeats 4000000 in
theorem c_VariantsOne (l:Loc) (ps:List Part) (vs:List Val) (hrl:l.rest.length=11) (hb:wtRules l.card+wtRules l.ord<=2^20) (hw:wtPs ps<=2^20)
  (hl:vs.length<=2^20) (ht:∀v∈vs,v.text.length<=2^20/\v.list.length<=2^20) :
  RetS Tryz.prog W0 5 [l.enc,.sl (ps.map Part.enc),.sl (vs.map Val.enc)] [] (.b true) []:=by
 have haw:=c_awake W0
 have hfr:=c_fewRules W0 l rfl (by omega)
 have hfe:=c_few W0 ps (by omega)
 have hfv:=c_fewVals W0 vs (by omega) (fun v hv=>by have:=(ht v hv).2;omega)
 have hfl:=c_FlatG W0 l ps hrl (by omega) hw
 have hinf:=c_Infer W0 ps (by omega)
 obtain ⟨b1,b2,b3,b4⟩:=flatP_bounds l ps hw
 obtain ⟨t1,t2,t3⟩:=tab_bd ps
 have hab:(inferP ps).1.length<=2^20/\∀a∈(inferP ps).1,a.1.length<=2^20:=by
  unfold inferP
  split
  ·exact ⟨by simp,by simp⟩
  ·split
   ·exact ⟨by simp,by simp⟩
   ·obtain ⟨a1,a2⟩:=args_bd (m:=(tabOf ps).1) (B:=2^20) (fun e he=>by have:=t3 e he;omega)
    exact ⟨by simp only;omega,a2⟩
 have hck:=c_checkA W0 (inferP ps).1 vs (fun a ha=>by have:=hab.2 a ha;simp only [SLim];omega) (by omega) (by omega) (fun v hv=>by have:=ht v hv;omega)
 obtain ⟨r1,r2,r3,r4,r5,r6,r7,r8,r9,r10,r11,hrest⟩:=rest11 hrl
 have hLV:l.enc = .agg [.s l.tag,.s l.parent,.s l.dir,.sl (l.card.map Rule.enc),.sl (l.ord.map Rule.enc),r1,r2,r3,r4,r5,r6,r7,r8,r9,r10,r11]:=by
  rw [Loc.enc_eq,hrest]
 have hok:=flat_ok l ps
 have hone:(flatP l ps).2=0->(inferP ps).2=0->(checkA (inferP ps).1 vs).2=0->(if !soundP (flatP l ps).1 then ((0,1):Int × Int) else if !rulesF [] l.card||!rulesF [] l.ord then (0,18) else selGo l vs (flatP l ps).1.1 0).2=0:=by
  intro h1 h2 h3
  rcases hok with ⟨hE,_⟩|⟨_,hF⟩
  ·exact absurd h1 hE
  have hwr:(tabOf ps).2=false/\(inferP ps).1=argsOf (tabOf ps).1:=by
   unfold inferP at h2⊢
   split at h2
   ·cases h2
   ·rename_i hv
    rw [if_neg hv]
    split at h2
    ·cases h2
    ·rename_i hw2
     rw [if_neg hw2]
     exact ⟨by simpa using hw2,rfl⟩
  have hcg:(checkGo vs (inferP ps).1 0).2=0:=by
   unfold checkA at h3
   split at h3
   ·cases h3
   ·exact h3
  obtain ⟨q1,q2,q3,_⟩:=one_ok l ps vs h1 (inferP ps).1 hwr.1 (fun n x h=>by rw [hwr.2];exact args_in h) hcg
  rw [hF.1,q1,q2]
  exact q3
 have hrng:(flatP l ps).2=0->(if !soundP (flatP l ps).1 then ((0,1):Int × Int) else if !rulesF [] l.card||!rulesF [] l.ord then (0,18) else selGo l vs (flatP l ps).1.1 0).2=0->
   0<=(if !soundP (flatP l ps).1 then ((0,1):Int × Int) else if !rulesF [] l.card||!rulesF [] l.ord then (0,18) else selGo l vs (flatP l ps).1.1 0).1/\(if !soundP (flatP l ps).1 then ((0,1):Int × Int) else if !rulesF [] l.card||!rulesF [] l.ord then (0,18) else selGo l vs (flatP l ps).1.1 0).1<((flatP l ps).1.2.length:Int):=by
  intro h1 h2
  split at h2
  ·cases h2
  ·rename_i c1
   rw [if_neg c1]
   split at h2
   ·cases h2
   ·rename_i c2
    rw [if_neg c2]
    exact one_rng l ps vs h1 h2
 have hse:=c_Select W0 l (flatP l ps).1 vs hrl (by omega) b1 (fun s hs=>⟨b3 s hs,by
  rcases hok with ⟨_,hE⟩|⟨_,hF⟩
  ·rw [hE] at hs;cases hs
  ·have:=hF.5 s hs;omega⟩) (by omega) (fun v hv=>by have:=ht v hv;omega)
 rw [hLV] at hfl hse hfr⊢
 generalize (if !soundP (flatP l ps).1 then ((0,1):Int × Int) else if !rulesF [] l.card||!rulesF [] l.ord then (0,18) else selGo l vs (flatP l ps).1.1 0)=K at *
 generalize (fewRs l.card&&fewRs l.ord)=FR at *
 generalize fewPs ps=FP at *
 generalize fewVals (decide ((vs.length:Int)<=30)) vs=FV at *
 generalize checkA (inferP ps).1 vs=CH at *
 clear hok b1 b3 b4 t1 t2 t3 hab
 generalize (flatP l ps).2=E at *
 generalize (flatP l ps).1=F at *
 generalize (inferP ps).2=G at *
 generalize (inferP ps).1=A at *
 obtain ⟨F1,F2⟩:=F
 obtain ⟨K1,K2⟩:=K
 obtain ⟨C1,C2⟩:=CH
 unfold formV at hfl hse
 simp only at hfl hse hck hone hrng b2
 cases FR
 ·refine fn_retW (vs:=[.b true]) f5ok (by simp) (by simp) fun n0 hn0=>?_
  clear hn0
  simp only [push_cast,seval,reduceEqDiff]
  repeat' (first|(((first|apply condU_s|apply gdU_t|apply gdU_f)<;>intro _h)<;>simp only [push_cast,seval,reduceEqDiff,_h])|((first|refine c_call (by exact haw) ?_|refine c_call (by exact hfr) ?_);simp only [push_cast,seval,reduceEqDiff])|intro _)
  all_goals (first|(refine finW_ret ?_;simp [get]<;>(intros;omega);done)|(refine finW_rets ?_;simp [push_cast,get];done)|skip)
 cases FP
 ·refine fn_retW (vs:=[.b true]) f5ok (by simp) (by simp) fun n0 hn0=>?_
  clear hn0
  simp only [push_cast,seval,reduceEqDiff]
  repeat' (first|(((first|apply condU_s|apply gdU_t|apply gdU_f)<;>intro _h)<;>simp only [push_cast,seval,reduceEqDiff,_h])|((first|refine c_call (by exact haw) ?_|refine c_call (by exact hfr) ?_|refine c_call (by exact hfe) ?_);simp only [push_cast,seval,reduceEqDiff])|intro _)
  all_goals (first|(refine finW_ret ?_;simp [get]<;>(intros;omega);done)|(refine finW_rets ?_;simp [push_cast,get];done)|skip)
 cases FV
 ·refine fn_retW (vs:=[.b true]) f5ok (by simp) (by simp) fun n0 hn0=>?_
  clear hn0
  simp only [push_cast,seval,reduceEqDiff]
  repeat' (first|(((first|apply condU_s|apply gdU_t|apply gdU_f)<;>intro _h)<;>simp only [push_cast,seval,reduceEqDiff,_h])|((first|refine c_call (by exact haw) ?_|refine c_call (by exact hfr) ?_|refine c_call (by exact hfe) ?_|refine c_call (by exact hfv) ?_);simp only [push_cast,seval,reduceEqDiff])|intro _)
  all_goals (first|(refine finW_ret ?_;simp [get]<;>(intros;omega);done)|(refine finW_rets ?_;simp [push_cast,get];done)|skip)
 by_cases hE:E=0
 ·subst hE
  by_cases hG:G=0
  ·subst hG
   have r1:=hone rfl rfl
   have r2:=hrng rfl
   clear hone hrng
   by_cases hK:K2=0
   ·subst hK
    obtain ⟨k1,k2⟩:=r2 rfl
    have d1:decide (K1>=0)=true:=decide_eq_true k1
    have d2:decide (K1<(F2.length:Int))=true:=decide_eq_true k2
    refine fn_retW (vs:=[.b true]) f5ok (by simp) (by simp) fun n0 hn0=>?_
    clear hn0
    simp only [push_cast,seval,reduceEqDiff,d1,d2,List.length_map]
    repeat' (first|(((first|apply condU_s|apply gdU_t|apply gdU_f)<;>intro _h)<;>simp only [push_cast,seval,reduceEqDiff,_h,d1,d2,List.length_map])|((first|refine c_call (by exact haw) ?_|refine c_call (by exact hfr) ?_|refine c_call (by exact hfe) ?_|refine c_call (by exact hfv) ?_|refine c_call (by exact hfl) ?_|refine c_call (by exact hinf) ?_|refine c_call (by exact hck) ?_|refine c_call (by exact hse) ?_);simp only [push_cast,seval,reduceEqDiff,d1,d2,List.length_map])|intro _)
    all_goals (first|(refine finW_ret ?_;simp [get]<;>(intros;omega);done)|(refine finW_rets ?_;simp [push_cast,get];done)|skip)
   ·have e1:(K2 != 0)=true:=by simpa using hK
    have e2:(C2 != 0)=true:=by simpa using fun h=>hK (r1 h)
    refine fn_retW (vs:=[.b true]) f5ok (by simp) (by simp) fun n0 hn0=>?_
    clear hn0
    simp only [push_cast,seval,reduceEqDiff,e1,e2]
    repeat' (first|(((first|apply condU_s|apply gdU_t|apply gdU_f)<;>intro _h)<;>simp only [push_cast,seval,reduceEqDiff,_h,e1,e2])|((first|refine c_call (by exact haw) ?_|refine c_call (by exact hfr) ?_|refine c_call (by exact hfe) ?_|refine c_call (by exact hfv) ?_|refine c_call (by exact hfl) ?_|refine c_call (by exact hinf) ?_|refine c_call (by exact hck) ?_|refine c_call (by exact hse) ?_);simp only [push_cast,seval,reduceEqDiff,e1,e2])|intro _)
    all_goals (first|(refine finW_ret ?_;simp [get]<;>(intros;omega);done)|(refine finW_rets ?_;simp [push_cast,get];done)|skip)
  ·have e1:(G != 0)=true:=by simpa using hG
   refine fn_retW (vs:=[.b true]) f5ok (by simp) (by simp) fun n0 hn0=>?_
   clear hn0
   simp only [push_cast,seval,reduceEqDiff,e1]
   repeat' (first|(((first|apply condU_s|apply gdU_t|apply gdU_f)<;>intro _h)<;>simp only [push_cast,seval,reduceEqDiff,_h,e1])|((first|refine c_call (by exact haw) ?_|refine c_call (by exact hfr) ?_|refine c_call (by exact hfe) ?_|refine c_call (by exact hfv) ?_|refine c_call (by exact hfl) ?_|refine c_call (by exact hinf) ?_);simp only [push_cast,seval,reduceEqDiff,e1])|intro _)
   all_goals (first|(refine finW_ret ?_;simp [get]<;>(intros;omega);done)|(refine finW_rets ?_;simp [push_cast,get];done)|skip)
 ·have e1:(E != 0)=true:=by simpa using hE
  refine fn_retW (vs:=[.b true]) f5ok (by simp) (by simp) fun n0 hn0=>?_
  clear hn0
  simp only [push_cast,seval,reduceEqDiff,e1]
  repeat' (first|(((first|apply condU_s|apply gdU_t|apply gdU_f)<;>intro _h)<;>simp only [push_cast,seval,reduceEqDiff,_h,e1])|((first|refine c_call (by exact haw) ?_|refine c_call (by exact hfr) ?_|refine c_call (by exact hfe) ?_|refine c_call (by exact hfv) ?_|refine c_call (by exact hfl) ?_|refine c_call (by exact hinf) ?_);simp only [push_cast,seval,reduceEqDiff,e1])|intro _)
  all_goals (first|(refine finW_ret ?_;simp [get]<;>(intros;omega);done)|(refine finW_rets ?_;simp [push_cast,get];done)|skip)
end Go.Ir
