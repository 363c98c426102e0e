/-
  Contracts: Remove of both sides, the DE CoverRemove.
  calquelaw30.awake answers true: by the kernel's evaluation ..
  Inputs that are lists of findings.
-/
import Derived.Test.YtdeldicoigeabaaGreatDoorPae
set_option linter.all false
open Nat (reduceEqDiff)
namespace Go.Ir
open Go.Proofs
variable(W0:World)
theorem AgK(l:List (Aa×Aa))(ps:List Ab)(e:l.length<=2^30)(f:Aw ps<=2^21):An π W0 7 [.sl (ps.map Ab.enc),.sl (l.map Fg)] [] (.tup [.sl ((if Cv ps then Cl (ES l) ps [] 0 else[]).map Ab.enc),.i .i64 (if Cv ps then 0 else 1)]) []:=by
 have a:=YC W0 ps (by omega);have c:=RW W0 l e _ ps [] (Nat.lt_succ_self _) f (by simp;omega);cases d:Cv ps with
 | false=>
  rw[d] at a;simp only[bq,if_true,if_false,Int.reduceBEq,reduceCtorEq,List.map_nil];refine Ak (vs:=[.sl [],.i .i64 1]) Am3 (by simp) (by simp) λn0 b=>?_;clear b;simp only[push_cast,seval,reduceEqDiff]
  repeat' (first|(((first|apply Ad|apply Ai|apply Ah)<;>intro _h)<;>simp only[push_cast,seval,reduceEqDiff,_h])|(refine Ae (by exact a) ?_;simp only[push_cast,seval,reduceEqDiff])|intro _)
  exact Na rfl rfl
 | true=>
  rw[d] at a;simp only[bq,if_true,if_false,Int.reduceBEq,reduceCtorEq];generalize Cl (ES l) ps [] 0=R at *;refine Ak (vs:=[.sl (R.map Ab.enc),.i .i64 0]) Am3 (by simp) (by simp) λn0 b=>?_;clear b;simp only[push_cast,seval,reduceEqDiff]
  repeat' (first|(((first|apply Ad|apply Ai|apply Ah)<;>intro _h)<;>simp only[push_cast,seval,reduceEqDiff,_h])|((first|refine Ae (by exact a) ?_|refine Ae (by exact c) ?_);simp only[push_cast,seval,reduceEqDiff])|intro _)
  refine Ag ?_;simp[push_cast,get]
set_option maxHeartbeats 4000000 in
theorem Alu(K:Nat)(hI:∀i:Nat,i<=K->An π W0 34 [.i .i64 i] [] (.s (BG i)) []/\(BG i).length<=20)(l:List (Aa×Aa))(ps:List Ab)(F:l.length<=2^30)(C:Aw ps<=2^21)(A:Aw ps<=K) :
  An π W0 6 [.sl (ps.map Ab.enc),.sl (l.map Fg)] [] (.tup [.sl ((if Eg ps then CM (ES l) ps [] 0 else[]).map Ab.enc),.i .i64 (if Eg ps then 0 else 1)]) []:=by
 have d:=tJ W0 ps (by omega);cases z:Eg ps with
 | false=>
  rw[z] at d;simp only[bq,if_true,if_false,Int.reduceBEq,reduceCtorEq,List.map_nil];refine Ak (vs:=[.sl [],.i .i64 1]) AkM (by simp) (by simp) λn0 p=>?_;clear p;simp only[push_cast,seval,reduceEqDiff]
  repeat' (first|(((first|apply Ad|apply Ai|apply Ah)<;>intro _h)<;>simp only[push_cast,seval,reduceEqDiff,_h])|(refine Ae (by exact d) ?_;simp only[push_cast,seval,reduceEqDiff])|intro _)
  exact Na rfl rfl
 | true=>
  rw[z] at d;simp only[bq,if_true,if_false,Int.reduceBEq,reduceCtorEq];have x:ES (l.foldl J6 [])=ES l:=by funext pa k;rw[aH,L7,Bool.false_or]
  have u:=λmid=>Vx W0 K hI (l.foldl J6 []) mid _ ps [] (Nat.lt_succ_self _) C A (by simp;omega);simp only[x] at u;generalize CM (ES l) ps [] 0=R at *;refine Ak (vs:=[.sl (R.map Ab.enc),.i .i64 0]) AkM (by simp) (by simp) λn0 p=>?_;clear p;simp only[push_cast,seval,reduceEqDiff,List.length_map]
  repeat' (first|(((first|apply Ad|apply Ai|apply Ah)<;>intro _h)<;>simp only[push_cast,seval,reduceEqDiff,_h,List.length_map])|(refine Ae (by exact d) ?_;simp only[push_cast,seval,reduceEqDiff,List.length_map])|intro _)
  intros;refine As l.length (Inv:=λm E=>∃dn a n mid D,l=dn++a/\m=a.length/\dn.foldl J6 []=D/\mid.1<n/\E=⟨[(0,.sl (ps.map Ab.enc)),(6,.arr mid),(13,.sl (l.map Fg)),(14,.i .i64 l.length),(15,.i .i64 dn.length)],[(mid,.map (Kf D))],n⟩) ⟨_,Al.refl,[],l,_,_,[],rfl,rfl,rfl,?_,rfl⟩ ?_
  .simp only;omega
  rintro m _ ⟨dn,a,n,mid,D,q,rfl,y,B,rfl⟩;cases a with
  | nil=>
   have w:l=dn:=by rw[q];simp
   subst w;subst y;simp only[push_cast,seval,reduceEqDiff,List.length_map];intros;refine Dn (u mid) (λi e h=>h) ?_;rw[Dw];simp only[push_cast,seval,reduceEqDiff,List.length_map];intros;refine Ag ?_;simp[push_cast,get]
  | cons f a=>
   have o:decide ((dn.length:Int)<(l.length:Int))=true:=by rw[q];simp;omega
   have t:=AW q;have g:(l.map Fg)[dn.length]?=some (.agg [.s f.1,.s f.2]):=by rw[q,List.getElem?_map,List.getElem?_append_right (by simp)];simp[Fg]
   have c:(dn++[f]).foldl J6 []=J6 D f:=by rw[List.foldl_append,y];rfl
   have r:∀k j:Nat,((n+1+k,j)=mid)=False:=λk j=>eq_false λv=>(by have:=congrArg Prod.fst v;(try simp only at this);omega)
   have b:∀k j:Nat,(mid=(n+1+k,j))=False:=λk j=>eq_false λv=>of_eq_false (r k j) v.symm;rcases XD f.1 f.2 D 0 with⟨h1,i,h2,h3⟩|⟨h1,h2⟩
   .have hp:J6 D f=D:=by unfold J6;rw[h1];rfl
    rw[hp] at c;simp only[Nat.zero_add] at h2;simp only[push_cast,seval,reduceEqDiff,o,g,if_pos t,h2,h3,r,b,List.length_map,Ac f (dn:=dn) (by omega)];intros;exact⟨_,_,Nat.lt_succ_self _,Al.drop1 (by simp[lk,r,b]) (Nat.le_refl _),dn++[f],a,_,mid,_,by rw[q];simp,rfl,c,by(try simp only);omega,rfl⟩
   .have hp:J6 D f=D++[f]:=by unfold J6;rw[h1];rfl
    rw[hp] at c;simp only[push_cast,seval,reduceEqDiff,o,g,if_pos t,h2,oA,r,b,List.length_map,Ac f (dn:=dn) (by omega)];intros;exact⟨_,_,Nat.lt_succ_self _,Al.drop1 (by simp[lk,r,b]) (Nat.le_refl _),dn++[f],a,_,mid,_,by rw[q];simp,rfl,c,by(try simp only);omega,rfl⟩
theorem ArD(e:Aa->Aa->Bool)(ps:List Ab):∀b n,Aw (CM e ps b n)<=Aw ps:=by
 refine Bs (P:=λp=>∀a,(p.rem e a).wt<=p.wt) (Q:=λps=>∀b n,Aw (CM e ps b n)<=Aw ps) (R:=λcs=>∀a,B9 (El e cs a)<=B9 cs) ?_ ?_ ?_ ?_ ?_ ps
 .intro p f d a;have g:=f a;have h:=d (a++[47]) 0;rw[p.rem_eq];split
  .rw[Ab.wt_eq,Ab.wt_eq p];simp only;omega
  .rw[Ab.wt_eq,Ab.wt_eq p];simp only;omega
 .intro b n;rw[Ky];exact Nat.le_refl _
 .intro p ps hp d b n;rw[I8];split
  .rw[Aq,Aq];have:=d b n;omega
  .rw[Aq,Aq];have:=d b (n+1);have:=hp (b++BG (n+1));omega
 .intro a;rw[Kn];exact Nat.le_refl _
 .intro c cs d f a;rw[I7];have g:=f a;have h:=d (a++[47]++c.1++[47]) 0;split
  .rw[Ay,Ay];simp only;omega
  .rw[Ay];omega
set_option maxHeartbeats 4000000 in
theorem AV(q:An π W0 4 [] [] (.b true) [])(hI:∀i:Nat,i<=2^21->An π W0 34 [.i .i64 i] [] (.s (BG i)) []/\(BG i).length<=20)(ps:List Ab)(l:List (Aa×Aa))(J:l.length<=2^30)(F:Aw ps<=2^21) :
  An π W0 3 [.sl (ps.map Ab.enc),.sl (l.map Fg)] [] (.b true) []:=by
 have d:=AvT W0 ps (by omega);cases w:Vh ps
 .rw[w] at d;refine Ak (vs:=[.b true]) Ax1 (by simp) (by simp) λn0 o=>?_;clear o;simp only[push_cast,seval,reduceEqDiff]
  repeat' (first|(((first|apply Ad|apply Ai|apply Ah)<;>intro _h)<;>simp only[push_cast,seval,reduceEqDiff,_h])|((first|refine Ae (by exact q) ?_|refine Ae (by exact d) ?_);simp only[push_cast,seval,reduceEqDiff])|intro _)
  all_goals (first|(refine Af ?_;simp[get]<;>(intros;omega);done)|(refine Ag ?_;simp[push_cast,get];done)|skip)
 rw[w] at d;by_cases N:l.length<=60
 .have L:=AgK W0 l ps J F;have I:=Alu W0 (2^21) hI l ps J F (by omega);have p:Cv ps=true->Cl (ES l) ps [] 0=CM (ES l) ps [] 0:=λM=>AjH (ES l) ps (Hk M) (NH M) [] 0;rw[Mx] at I;have K:(if Cv ps then Cl (ES l) ps [] 0 else[])=(if Cv ps then CM (ES l) ps [] 0 else[]):=by
   split
   .rename_i h;exact p h
   .rfl
  rw[K] at L;clear K p;have Q:Aw (if Cv ps then CM (ES l) ps [] 0 else[])<=2^21:=by
   split
   .exact Nat.le_trans (ArD _ _ _ _) F
   .rw[BF];omega
  generalize(if Cv ps then CM (ES l) ps [] 0 else[])=R at *;generalize(if Cv ps then(0:Int) else 1)=E at *;have v:=AnB W0 _ R R (Nat.lt_succ_self _) (by omega);rw[AgI] at v;have c:decide ((l.length:Int)>60)=false:=by simp;omega
  have A:(E==E)=true:=by simp
  refine Ak (vs:=[.b true]) Ax1 (by simp) (by simp) λn0 o=>?_;clear o;simp only[push_cast,seval,reduceEqDiff,c,List.length_map]
  repeat' (first|(((first|apply Ad|apply Ai|apply Ah)<;>intro _h)<;>simp only[push_cast,seval,reduceEqDiff,_h,c,List.length_map])|((first|refine Ae (by exact q) ?_|refine Ae (by exact d) ?_);simp only[push_cast,seval,reduceEqDiff,c,List.length_map])|intro _)
  intros;refine As l.length (Inv:=λm T=>∃dn a n id,l=dn++a/\m=a.length/\id.1<n/\T=⟨[(0,.sl (ps.map Ab.enc)),(1,.sl (l.map Fg)),(5,.arr id),(6,.i .i64 dn.length)],[(id,.arr 29 2 (dn.map Fg))],n⟩) ⟨_,(Al.own (s:=5) (e:=29) (sz:=2) (k:=99) rfl).trans (Al.envD (λt=>?_) (Nat.le_refl _)),[],l,_,_,rfl,rfl,?_,rfl⟩ ?_
  .left;by_cases H:5=t
   .subst H;rfl
   .simp[get,H]
  .simp
  rintro m _ ⟨dn,a,n,id,u,rfl,P,rfl⟩;cases a with
  | nil=>
   have C:l=dn:=by rw[u];simp
   subst C;simp only[push_cast,seval,reduceEqDiff,c,List.length_map];intros;refine RF (hM (s:=5) (e:=29) (sz:=2) (es:=l.map Fg) (τ:=[]) rfl (by simp[lk]) (λ_ _ h=>by cases h) (λy S=>by obtain⟨x,_,rfl⟩:=List.mem_map.1 S;rfl) (Nat.le_refl _)) ?_;simp only[push_cast,seval,reduceEqDiff,A]
   repeat' (first|(((first|apply Ad|apply Ai|apply Ah)<;>intro _h)<;>simp only[push_cast,seval,reduceEqDiff,_h,A])|((first|refine Ae (by exact I) ?_|refine Ae (by exact L) ?_|refine Ae (by exact v) ?_);simp only[push_cast,seval,reduceEqDiff,A])|intro _)
   exact Af (by simp[get])
  | cons f a=>
   have j:decide ((dn.length:Int)<(l.length:Int))=true:=by rw[u];simp;omega
   have r:=AW u;have g:(l.map Fg)[dn.length]?=some (.agg [.s f.1,.s f.2]):=by rw[u,List.getElem?_map,List.getElem?_append_right (by simp)];simp[Fg]
   have D:dn.map Fg++[.agg [.s f.1,.s f.2]]=(dn++[f]).map Fg:=by simp[Fg]
   have O:dn.length<l.length:=by rw[u];simp
   have z:dn.length+1<=Bf:=by unfold Bf;omega
   cases B:decide ((f.1.length:Int)>200) with
   | true=>simp only[push_cast,seval,reduceEqDiff,j,g,if_pos r,B,List.length_map,Ac f (dn:=dn) (by omega)];intros;exact Af (by simp[get])
   | false=>
    cases G:decide ((f.2.length:Int)>60) with
    | true=>simp only[push_cast,seval,reduceEqDiff,j,g,if_pos r,B,G,List.length_map,Ac f (dn:=dn) (by omega)];intros;exact Af (by simp[get])
    | false=>simp only[push_cast,seval,reduceEqDiff,j,g,if_pos r,B,G,List.length_map,eq_true z,D,Ac f (dn:=dn) (by omega)];intros;exact⟨_,_,Nat.lt_succ_self _,Al.refl,dn++[f],a,_,_,by rw[u];simp,rfl,by(try simp only);omega,rfl⟩
 .have c:decide ((l.length:Int)>60)=true:=by simp;omega
  refine Ak (vs:=[.b true]) Ax1 (by simp) (by simp) λn0 o=>?_;clear o;simp only[push_cast,seval,reduceEqDiff,c,List.length_map]
  repeat' (first|(((first|apply Ad|apply Ai|apply Ah)<;>intro _h)<;>simp only[push_cast,seval,reduceEqDiff,_h,c,List.length_map])|((first|refine Ae (by exact q) ?_|refine Ae (by exact d) ?_);simp only[push_cast,seval,reduceEqDiff,c,List.length_map])|intro _)
  exact Af (by simp[get])
end Go.Ir
section
set_option maxRecDepth 1000000
namespace Go.Ir
open Go.Proofs
variable(W0:World)
theorem Vp(b:MQ W0):AF π W0 Jt:=GE λargs v h=>by
 unfold YS at h;split at h
 .rename_i k;cases a:Nat.blt k 100000 with
  | true=>rw[a] at h;cases h;exact⟨(mE W0 b k (by have:=Nat.blt_eq ▸ a;omega)).1,rfl⟩
  | false=>rw[a] at h;cases h
 .cases h
def Pc(args:List V):Option V:=bif Eb args Ab2 then some (WF 49) else bif Eb args AbG then some (WF 48) else bif Eb args Aes then some (WF 48) else none
theorem aX(hB:AF π W0 Jt):AF π W0 (CT 133 Pc):=j7 λargs v h=>by
 unfold Pc at h;cases a:Eb args Ab2 with
 | true=>rw[a] at h;cases h;rw[(E5 _).2 _ _ (Nat.lt_succ_self _) a];exact⟨ZM W0 hB,rfl⟩
 | false=>
  cases b:Eb args AbG with
  | true=>rw[a,b] at h;cases h;rw[(E5 _).2 _ _ (Nat.lt_succ_self _) b];exact⟨XK W0 hB,rfl⟩
  | false=>
   cases c:Eb args Aes with
   | true=>rw[a,b,c] at h;cases h;rw[(E5 _).2 _ _ (Nat.lt_succ_self _) c];exact⟨XU W0 hB,rfl⟩
   | false=>rw[a,b,c] at h;cases h
noncomputable def Asw:Az:=Cr Jt (Cr (X5 52 ID) (Cr (CT 55 Ot) (CT 133 Pc)))
theorem lM(a:MQ W0):AF π W0 Asw:=Mu (Vp W0 a) (Mu (R5 W0) (Mu (ZH W0) (aX W0 (Vp W0 a))))
def Aiv:IC:=.ops [o1 19 (.load (.t 4) 1 false),o1 20 (.load (.t 7) 2 true),o1 21 (.load (.t 3) 18 true),o1 22 (.faddr (.t 5) 0),o1 23 (.load (.t 22) 1 false),o1 24 (.faddr (.t 5) 2),o1 25 (.load (.t 24) 1 false),o1 26 (.load (.t 4) 1 false),o1 27 (.load (.t 7) 2 true),o1 28 (.rdm (.mget (.st [(0,.int),(1,.str)]) .nil false) (.t 26) [.t 27]),⟨some 29,.calln 28 [.t 28],none,[.t 4,.t 7,.t 3,.t 22,.t 24]⟩,o1 30 (.msl false 9 1 [(.c (.s [111,116,104,101,114]))]),⟨some 31,.app (.t 29) (.t 30) 9 1,none,[.t 4,.t 7,.t 3,.t 22,.t 24]⟩,o1 32 (.build [(.i .i64 0),(.s []),.nil] [(0,1,(.t 23)),(1,1,(.t 25)),(2,1,(.t 31))]),o1 33 (.callr 27 [.t 21,.t 32]),o0 (.wrm (.mput (.st [(0,.int),(1,.str)])) (.t 19) [.t 20,.t 33])] [] [[3,4],[5,6],[7,9],[8,9],[7,9,10],[8,9,10],[9,10],[7,9,10,12],[8,9,10,12],[9,10,12],[10,12],[11,12],[4,13],[6,13],[12,13],[2,14],[10,12,14],[12,14],[13,14],[0,15],[1,15],[2,15],[4,15],[6,15],[7,15],[8,15],[9,15],[10,15],[12,15],[14,15]]
def Apm:IC:=.seq (.seqr [o1 17 (.load (.t 2) 1 false),o1 18 (.load (.t 7) 2 true),o0 (.wrm (.mput (.st [(0,.int),(1,.str)])) (.t 17) [.t 18,(.c (.b true))])] [3,4,5,7]) Aiv
def Ai1:IC:=.seq (.seqr [o1 13 (.load (.t 2) 1 false),o1 14 (.load (.t 7) 2 true),o1 15 (.rdm (.mget (.st [(0,.int),(1,.str)]) (.b false) false) (.t 13) [.t 14]),o1 16 (.not (.t 15))] [2,3,4,5,7,16]) (.cond (.t 16) Apm .skip)
def Apq:IC:=.seq (.seqr [o1 8 (.faddr (.t 5) 0),o1 9 (.load (.t 8) 1 false),o1 10 (.faddr (.t 5) 2),o1 11 (.load (.t 10) 1 false),o1 12 (.build [(.i .i64 0),(.s [])] [(0,1,(.t 9)),(1,1,(.t 11))]),o1 7 (.alloc (.agg [(.i .i64 0),(.s [])])),o0 (.store (.t 7) (.t 12) 2)] [2,3,4,5,7]) Ai1
def Aju:IC:=.seq (.seqr [o1 5 (.box (.t 0))] [2,3,4,5]) Apq
def Ah6:B7:=⟨34,Aju,[]⟩
theorem AkX:AQ π 26 Ah6=true:=by kernel_rfl
noncomputable def Fo:FuncId->Option B7:=λf=>bif Nat.beq f 26 then some Ah6 else C5 f
theorem Agp:Fw π Fo:=by
 intro f F h;unfold Fo at h;cases a:Nat.beq f 26 with
 | true=>rw[a] at h;cases h;obtain rfl:=Nat.eq_of_beq_eq_true a;have:=AkX;unfold AQ at this;simpa using this
 | false=>rw[a] at h;exact Kw f F h
theorem AiA(a:MQ W0):An π W0 4 [] [] (.b true) []:=FN (Jd (f0:=133) Agp) (lM W0 a) N4 (K:=100000) (k:=100) (by kernel_rfl) rfl rfl
end Go.Ir
end
namespace Go.Ir
open Go.Proofs
theorem ArP:π.cellsOf 28=2:=by kernel_rfl
theorem Aug:D9 π 28=some true:=by kernel_rfl
def R6(x:Aa×Aa):Nat:=1
theorem Agn(c:List V)(h:F9 π 28 c):∃x:Aa×Aa,V.agg c=Fg x/\R6 x<=Bb c:=by obtain⟨d,b⟩:=h.st_inv Tryz.underlying28;rw[ArP] at d;obtain⟨e,f,rfl⟩:=nH d;have f0:=b _ (by exact List.mem_cons_self);have a:=b _ (by exact List.mem_cons_of_mem _ List.mem_cons_self);simp only[c9,List.drop_zero,List.drop_succ_cons,List.take_succ_cons,List.take_zero] at f0 a;obtain⟨n,rfl⟩:=f0.str_inv Tryz.underlying9;obtain⟨k,rfl⟩:=a.str_inv Tryz.underlying9;refine⟨(n,k),rfl,?_⟩;simp only[Bb,B6];unfold R6;omega
theorem ApS(v:V)(h:F9 π 23 [v]):∃l:List (Aa×Aa),v=.sl (l.map Fg)/\l.length<=B6 v:=by obtain⟨xs,rfl,b⟩:=Hz h Tryz.underlying23 Aug Fg R6 Agn;have a:=LR (w:=R6) (l:=xs) (λ_=>by unfold R6;omega);exact⟨xs,rfl,by omega⟩
end Go.Ir
