/- A part of the proof that the law EvalIsolates answers true at every input of a bulk of at most 2^20. -/
import Derived.Shelf.Small.Wraps
import Derived.Shelf.Strconv.Itoa3
import Derived.Shelf.Strconv.Atoi
import Derived.Shelf.Strings.Search2
import Derived.Shelf.Strings.SlTrimAscii
import Derived.Test.YtmlnblijickboaaGreatDoorPac
import Derived.Deep.Draws
import Derived.Lib.AtoiErrMem
import Derived.BigCall
import Derived.Laws.IdiomStrings
import Derived.Shelf.Strings.IndexAnyAll
import Derived.Lib.OthersKept
import Derived.Scope
import Derived.RegionCalls
import Derived.BigRegion
import Derived.Deep.RegionWith
import Derived.Laws.Runes
import Derived.Laws.RangeAny
set_option linter.all false
set_option maxHeartbeats 4000000
set_option maxRecDepth 1000000
open Nat renaming reduceEqDiff→rq
open Int renaming reduceBEq→rb
open Int renaming reduceBNe→rn
namespace Go.Proofs
open Go.Shelf
def Tryz.lays103_ren:Go.Shelf.Ren:=⟨fun|103=>136|210=>170|206=>202|n=>n,fun|9=>9|4=>4|24=>193|3=>3|n=>n,fun|n=>n⟩
theorem Tryz.lays103:Go.Proofs.Lays.n103 Tryz.prog Tryz.lays103_ren:=by constructor;all_goals intros;kernel_rfl
def Tryz.lays219_ren:Go.Shelf.Ren:=⟨fun|219=>208|217=>196|225=>234|224=>235|267=>236|266=>226|314=>251|n=>n,fun|9=>9|3=>3|4=>4|5=>5|46=>177|146=>244|51=>147|n=>n,fun|1=>0|n=>n⟩
theorem Tryz.lays219:Go.Proofs.Lays.n219 Tryz.prog Tryz.lays219_ren:=by constructor;all_goals intros;kernel_rfl
def Tryz.lays160_ren:Go.Shelf.Ren:=⟨fun|160=>198|232=>228|231=>204|227=>205|234=>229|233=>206|236=>230|235=>207|228=>232|271=>250|151=>233|197=>185|120=>265|152=>241|260=>219|137=>159|119=>257|224=>235|225=>234|217=>196|266=>226|n=>n,fun|9=>9|4=>4|3=>3|5=>5|117=>252|116=>251|0=>0|124=>255|21=>21|105=>233|46=>177|119=>274|139=>277|138=>276|n=>n,fun|3=>1|4=>2|n=>n⟩
theorem Tryz.lays160:Go.Proofs.Lays.n160 Tryz.prog Tryz.lays160_ren:=by constructor;all_goals intros;kernel_rfl
def Tryz.lays162_ren:Go.Shelf.Ren:=⟨fun|162=>253|232=>228|227=>205|234=>229|236=>230|228=>232|271=>250|151=>233|120=>265|197=>185|152=>241|260=>219|137=>159|119=>257|224=>235|225=>234|217=>196|266=>226|n=>n,fun|9=>9|4=>4|3=>3|5=>5|117=>252|116=>251|0=>0|124=>255|21=>21|105=>233|46=>177|119=>274|139=>277|138=>276|n=>n,fun|3=>1|4=>2|n=>n⟩
theorem Tryz.lays162:Go.Proofs.Lays.n162 Tryz.prog Tryz.lays162_ren:=by constructor;all_goals intros;kernel_rfl
def Tryz.lays172_ren:Go.Shelf.Ren:=⟨fun|172=>266|244=>280|245=>281|247=>288|279=>289|280=>290|281=>291|282=>292|287=>294|316=>295|171=>156|205=>296|321=>297|322=>298|243=>195|246=>225|283=>246|284=>247|285=>248|286=>249|129=>261|317=>260|318=>262|319=>263|320=>264|337=>278|338=>279|n=>n,fun|9=>9|3=>3|75=>87|76=>88|4=>4|5=>5|167=>311|37=>79|0=>0|85=>312|2=>2|168=>314|53=>246|175=>319|46=>177|210=>322|127=>106|145=>327|143=>325|21=>21|171=>278|173=>281|212=>291|51=>147|20=>20|213=>292|232=>309|233=>310|80=>85|n=>n,fun|15=>6|16=>7|17=>3|18=>4|19=>5|n=>n⟩
theorem Tryz.lays172:Go.Proofs.Lays.n172 Tryz.prog Tryz.lays172_ren:=by constructor;all_goals intros;kernel_rfl
def Tryz.lays171_ren:Go.Shelf.Ren:=⟨fun|171=>156|243=>195|246=>225|283=>246|284=>247|285=>248|286=>249|129=>261|317=>260|318=>262|319=>263|320=>264|337=>278|338=>279|n=>n,fun|3=>3|9=>9|2=>2|4=>4|171=>278|0=>0|53=>246|37=>79|5=>5|173=>281|212=>291|51=>147|20=>20|213=>292|46=>177|232=>309|233=>310|n=>n,fun|17=>3|18=>4|19=>5|n=>n⟩
theorem Tryz.lays171:Go.Proofs.Lays.n171 Tryz.prog Tryz.lays171_ren:=by constructor;all_goals intros;kernel_rfl
end Go.Proofs
section
namespace Go.Ir
open Go.Proofs Go.RowKit
theorem Hp.below{O σ n μ H w w'}(hp:Hp O σ n μ H w)(a:Below w.heap.size w w'):Hp O σ n μ H w'/\Fr μ H σ w μ H σ w':=by
 have f:Bj (λ_=>False) w w':=⟨a.os,a.tape,a.output,a.size,λk b _=>a.block k b⟩
 refine⟨⟨hp.base_turned f (λ_ h=>h.elim),hp.pins_turned f (λ_ h=>h.elim),λid e d=>?_,hp.unp,hp.sep,hp.bd⟩,⟨λ_ _ h=>h,λ_ _ h=>h,a.size,λc b _=>a.block c b,λ_ _ _=>rfl,λ_ _ h=>h⟩⟩;exact(hp.ents id e d).keep (λ_ _ h=>h) (λ_ _ h=>h) (λc b=>a.block c ((hp.ents id e d).block b).2)
theorem AP{P:Program}{O:World}{f:FuncId}{args:List V}{v:V}(c:callable P f=true)
  (h:∀w a,Below O.heap.size O w->(∃μ H,VRels μ H args a)->Calls P f a.toArray w λe w'=>∃val,e=.returned val/\(∀μ H,Aq μ H v val)/\Below w.heap.size w w'):An P O f args [] v [] where
 callable:=c
 dom id h:=h
 run n w μ H a hp hv:=by refine(h w a hp.base ⟨μ,H,hv⟩).mono λe w' ⟨val,d,g,b⟩=>?_;have ⟨h1,h2⟩:=hp.below b;exact⟨val,μ,H,n,d,g μ H,h1,AfJ _,h2,λ_ _ h=>h⟩
theorem Below.drewN_{B a w}(h:Below B a w) n:Below B a (w.drewN n):=⟨h.os,h.tape,h.output,h.size,h.block⟩
theorem VRels.one_s{μ H}{l:Ad}{a}(h:VRels μ H [.s l] a):a=[.string ⟨l.toArray⟩]/\l.length<=Am:=by
 have ⟨v,b,h2⟩:=h.get (k:=0) rfl;have:=h.len
 match a,this,b with
 | [x],_,b=>
  simp at b;subst b;cases h2 with
  | s l c=>exact⟨rfl,c⟩
theorem VRels.two{μ H a b c}(h:VRels μ H [a,b] c):∃x y,c=[x,y]/\Aq μ H a x/\Aq μ H b y:=by
 have:=h.len
 match c,this with
 | [x,y],_=>exact⟨x,y,rfl,h.at_ 0 _ _ rfl rfl,h.at_ 1 _ _ rfl rfl⟩
variable(O:World)
theorem Bi{l:Ad}{μ H x}(h:Aq μ H (.s l) x):x=.string ⟨l.toArray⟩/\l.length<=Am:=by
 cases h with
 | s l a=>exact⟨rfl,a⟩
theorem Rs{a b x y}(e:∀μ H,Aq μ H a x)(f:∀μ H,Aq μ H b y):∀μ H,Aq μ H (.tup [a,b]) (.tuple #[x,y]):=
 λμ H=>Aq.tup [a,b] [x,y] rfl λk c v d g=>by
  match k with
  | 0=>grind
  | 1=>grind
  | k+2=>simp at d
theorem SO(s cs:Ad):(Lib.trimRightS s cs).length<=s.length:=by unfold Lib.trimRightS;rw[A0p];exact AvD (AzE _).length_le (by simp)
theorem Abo(s cs:Ad):(Lib.trimS s cs).length<=s.length:=by unfold Lib.trimS Lib.trimLeftS;exact AvD (AzE _).length_le (SO s cs)
theorem EI(s p:Ad):An π O 136 [.s s,.s p] [] (.tup [.s (Lib.trimPrefix s p),.b (Lib.hasPrefix s p)]) []:=by
 refine AP (by kernel_rfl) λw a j ⟨μ,H,f⟩=>?_;obtain⟨x,y,rfl,h,i⟩:=f.two;obtain⟨rfl,d⟩:=Bi h;obtain⟨rfl,_⟩:=Bi i;refine(Any.strings_CutPrefix Tryz.lays103 ⟨s.toArray⟩ ⟨p.toArray⟩ w).mono λe w' ⟨c,g⟩=>?_;subst g;refine⟨_,c,Rs (λ_ _=>.s _ ?_) (λ_ _=>.b _),AxE _ _⟩;unfold Lib.trimPrefix;split
 .rw[AyA];omega
 .exact d
theorem Mp(s:Ad) c:An π O 208 [.s s,.s [c]] [] (.i .i64 (Lib.indexByte s c)) []:=by refine AP (by kernel_rfl) λw a j ⟨μ,H,d⟩=>?_;obtain⟨x,y,rfl,g,h⟩:=d.two;obtain⟨rfl,k⟩:=Bi g;obtain⟨rfl,_⟩:=Bi h;refine(Any.stringslite_Index_one Tryz.lays219 ⟨s.toArray⟩ c w).mono λe w' ⟨b,f⟩=>?_;subst f;exact⟨_,b,λ_ _=>.i _ _,AxE _ _⟩
theorem UA(s cs:Ad)(a:cs.length<4294967281)(f:∀b∈cs,b.toNat<128):An π O 198 [.s s,.s cs] [] (.s (Lib.trimS s cs)) []:=by refine AP (by kernel_rfl) λw d o ⟨μ,H,i⟩=>?_;obtain⟨x,y,rfl,l,m⟩:=i.two;obtain⟨rfl,c⟩:=Bi l;obtain⟨rfl,_⟩:=Bi m;refine(Any.strings_Trim_laid Tryz.lays160 (by kernel_rfl) ⟨s.toArray⟩ ⟨cs.toArray⟩ w (by show s.toArray.size<=_;unfold Am at c;simp;omega) (by simpa[ByteArray.size] using a) (λj b h=>f b (Au8 h))).mono λe w' ⟨g,k⟩=>?_;exact⟨_,g,λ_ _=>.s _ (AvD (Abo s cs) c),k⟩
theorem AbS(s cs:Ad)(a:cs.length<4294967281)(f:∀b∈cs,b.toNat<128):An π O 253 [.s s,.s cs] [] (.s (Lib.trimRightS s cs)) []:=by refine AP (by kernel_rfl) λw d o ⟨μ,H,i⟩=>?_;obtain⟨x,y,rfl,l,m⟩:=i.two;obtain⟨rfl,c⟩:=Bi l;obtain⟨rfl,_⟩:=Bi m;refine(Any.strings_TrimRight_laid Tryz.lays162 (by kernel_rfl) ⟨s.toArray⟩ ⟨cs.toArray⟩ w (by show s.toArray.size<=_;unfold Am at c;simp;omega) (by simpa[ByteArray.size] using a) (λj b h=>f b (Au8 h))).mono λe w' ⟨g,k⟩=>?_;exact⟨_,g,λ_ _=>.s _ (AvD (SO s cs) c),k⟩
theorem AiB(s:Ad) n (d:s.length<=18)(c:Lib.atoi s=some n):An Tryz.prog O 266 [.s s] [] (.tup [.i .i64 n,.ni]) []:=by refine AP (by kernel_rfl) λw a h ⟨μ,H,f⟩=>?_;obtain⟨rfl,j⟩:=f.one_s;refine(Any.strconv_Atoi Tryz.lays172 ⟨s.toArray⟩ n (by simpa[ByteArray.size] using d) c w).mono λe w' ⟨b,t,g⟩=>?_;refine⟨_,b,Rs (λ_ _=>.i _ _) (λ_ _=>.ni),?_⟩;rw[g];exact Lib.bytesWorld_below _ _ _
theorem Ai4(i:Nat)(f:i<100):An π O 156 [.i .i64 i] [] (.s (Lib.decDigits i)) []:=by
 refine AP (by kernel_rfl) λw a j ⟨μ,H,c⟩=>?_;have b:=c.len;obtain⟨x,rfl⟩:∃x,a=[x]:=by
  match a,b with
  | [x],_=>exact⟨x,rfl⟩
 have h:=c.at_ 0 _ _ rfl rfl;cases h;refine(Any.strconv_Itoa_small Tryz.lays171 i f w).mono λe w' ⟨d,g⟩=>?_;subst g;refine⟨_,d,λ_ _=>.s _ ?_,AxE _ _⟩;unfold Am;unfold Lib.decDigits;split
 .simp
 .unfold Lib.decDigits;rw[dif_pos (by omega)];simp
end Go.Ir
end
namespace Go.Ir
open Go.Proofs
variable{P:Program}{O:World}{nt n:Nat}{Q:Exit→St→Prop}{env:Bm}{σ:Au}
def pH:IC:=oS [mC 4 (.s []),mC 5 (.s []),mC 6 (.b false)] [0,1] (oR [m1 7 0,m1 8 1,q2 9 171 7 8,xT 10 9 0,xT 11 9 1,xT 12 9 2,m1 4 10,m1 5 11,m1 6 12] [4,5,6])
def Ar5:List R:=[.t 4,.t 5,.t 6]
def Aws:=AJ pH.eq_1
theorem Ak3:Ar π 137 13 pH Ar5=true:=by kernel_rfl
def tA:IC:=sQ (.ops [m1 13 0,m1 14 7,o1 15 (.slS (.t 13) none (some (.t 14))),m1 16 0,m1 17 7,m1 18 1,nS 19 18,bT 20 .add 17 19,o1 21 (.slS (.t 16) (some (.t 20)) none),m1 4 15,m1 5 21,mC 6 (.b true)] [4,5,6] [[0,2],[1,2],[5,6],[4,7],[6,7],[3,8],[7,8],[2,9],[8,10]]) .ret
def nN:IC:=sQ (oS [m1 8 0,m1 9 1,q2 10 208 8 9,m1 7 10] [0,1,7] (oS [m1 11 7,bZ 12 .geq 11 0] [0,1,7,12] (cD 12 tA .skip))) (oR [m1 22 0,m1 4 22,mC 5 (.s []),mC 6 (.b false)] [4,5,6])
def mW:IC:=oS [mC 4 (.s []),mC 5 (.s []),mC 6 (.b false)] [0,1] nN
def Aoh:List R:=[.t 4,.t 5,.t 6]
def Axy:=Ao tA.eq_1<|Ao nN.eq_1<|AJ mW.eq_1
theorem nY:Ar π 171 23 mW Aoh=true:=by kernel_rfl
def fN:IC:=oS [mC 2 (.b false)] [0] (oR [m1 3 0,o1 4 (.call 198 [.t 3,.c (.s [48,49,50,51,52,53,54,55,56,57])]),bC 5 .eql 4 (.s []),m1 2 5] [2])
def Aqu:List R:=[.t 2]
def Ax6:=AJ fN.eq_1
theorem AlX:Ar π 163 6 fN Aqu=true:=by kernel_rfl
def vR:IC:=oS [mC 2 (.b false)] [0] (oR [m1 3 0,o1 4 (.call 198 [.t 3,.c (.s [48])]),bC 5 .eql 4 (.s []),m1 2 5] [2])
def Ane:List R:=[.t 2]
def Awu:=AJ vR.eq_1
theorem Ah1:Ar π 199 6 vR Ane=true:=by kernel_rfl
def nJ:IC:=oS [bX 1 0,mC 2 (.b false)] [1] (oR [fA 3 1 1,l1 4 3,q1 5 199 4,m1 6 5,D0 7 6 1 2,Dm 8 6 7,gT 9 6 (.call 199 [.t 8]),pA 10 6 9,m1 2 10] [2])
def ApC:List R:=[.t 2]
def Axf:=AJ nJ.eq_1
theorem sF:Ar π 164 11 nJ ApC=true:=by kernel_rfl
def Wf:IC:=oS [m1 51 8,m1 52 51,B0 53 52 7,gT 54 52 (.lenS (.t 53)),Dn 55 52 .eql 54 0,pA 56 52 55,m1 57 56,Bn 58 57 7,gF 59 57 (.lenS (.t 58)),Dv 60 57 .gtr 59 6,pO 61 57 60,m1 62 61,Bn 63 62 7,gF 64 62 (.call 163 [.t 63]),gF 65 62 (.not (.t 64)),pO 66 62 65,m1 50 66] [2,5,9,50] (cD 50 (oR [lA 67 9 3,sT 2 67 3,mC 3 (.b false)] [2,3]) .skip)
def Xy:IC:=sQ (.ops [lA 68 9 3,m1 69 5,nT 70 69,m1 71 70,gF 72 71 (.load (.t 9) 3 true),gF 73 71 (.call 164 [.t 72]),gF 74 71 (.not (.t 73)),pO 75 71 74,sT 2 68 3,m1 3 75] [2,3] [[1,2],[2,3],[3,4],[3,5],[4,5],[3,6],[5,6],[3,7],[6,7],[0,8],[4,5,8],[7,9]]) .ret
def kO:IC:=sQ (.block 0 (oS [m1 26 6,nS 27 26,bZ 28 .lss 27 1,m1 29 28,Bn 30 29 6,gF 31 29 (.lenS (.t 30)),Dv 32 29 .gtr 31 15,pO 33 29 32,m1 34 33,Bn 35 34 6,gF 36 34 (.call 163 [.t 35]),gF 37 34 (.not (.t 36)),pO 38 34 37,m1 39 38,Bn 40 39 6,gF 41 39 (.lenS (.t 40)),Dv 42 39 .gtr 41 1,Bn 43 39 42,B0 44 43 6,gT 45 43 (.idx (.t 44) (ci 0)),gT 46 43 (.bin .eql (.t 45) (.c (.i .u8 48))),gF 47 39 (.pick (.t 43) (.t 46) (.c (.b false))),pO 48 39 47,m1 25 48] [2,5,7,8,9,25] (cD 25 (oR [lA 49 9 3,sT 2 49 3,mC 3 (.b false)] [2,3]) Wf))) Xy
def nP:IC:=oS [m1 21 5,m1 22 6,m1 23 7,o1 24 (.build [.b false,.s [],.s []] [(0,1,.t 21),(1,1,.t 22),(2,1,.t 23)]),o1 9 (.alloc (.agg [.b false,.s [],.s []])),sT 9 24 3] [2,5,6,7,8,9] kO
def eH:IC:=oS [m1 11 0,o1 12 (.call 136 [.t 11,.c (.s [45])]),m1 10 12,xT 13 10 0,xT 14 10 1,m1 4 13,m1 5 14] [2,4,5] (oS [m1 16 4,o1 17 (.call 137 [.t 16,.c (.s [46])]),m1 15 17,xT 18 15 0,xT 19 15 1,xT 20 15 2,m1 6 18,m1 7 19,m1 8 20] [2,5,6,7,8] nP)
def tE:IC:=oS [o1 2 (.alloc (.agg [.b false,.s [],.s []])),mC 3 (.b false)] [0,2] eH
def Aog:List R:=[.c 2 3 true,.t 3]
def Axc:=Ao Wf.eq_1<|Ao Xy.eq_1<|Ao kO.eq_1<|Ao nP.eq_1<|Ao eH.eq_1<|AJ tE.eq_1
theorem xU:Ar π 131 76 tE Aog=true:=by kernel_rfl
def Afu:IC:=oS [mC 2 (.b false)] [0] (oS [m1 6 0,q1 7 131 6,m1 5 7,xT 8 5 0,xT 9 5 1,o1 3 (.alloc (.agg [.b false,.s [],.s []])),sT 3 8 3,m1 4 9] [4] (oR [m1 10 4,m1 2 10] [2]))
def Auw:List R:=[.t 2]
def AxI:=AJ Afu.eq_1
theorem AqP:Ar π 97 11 Afu Auw=true:=by kernel_rfl
def lI:IC:=oS [mZ 2 0] [0] (oS [m1 6 0,o1 7 (.bin .add (.c (.s [48])) (.t 6)),q1 8 266 7,m1 5 8,xT 9 5 0,xT 10 5 1,m1 3 9,m1 4 10] [3] (oR [m1 11 3,m1 2 11] [2]))
def Apy:List R:=[.t 2]
def Aw4:=AJ lI.eq_1
theorem Ak1:Ar π 254 12 lI Apy=true:=by kernel_rfl
def Wc:IC:=sQ (oS [m1 22 8,bC 23 .neq 22 (.s [])] [6,23] (cD 23 (oR [mZ 4 0,mZ 5 8] [4,5]) .skip)) (oR [fA 24 6 1,l1 25 24,q1 26 254 25,m1 4 26,mZ 5 0] [4,5])
def Wj:IC:=cD 41 (oR [fA 43 6 2,l1 44 43,q1 45 254 44,m1 4 45,mZ 5 0] [4,5]) (oS [bZ 47 .eql 19 6,m1 46 47] [8,46] (cD 46 (oR [m1 48 8,q1 49 254 48,m1 4 49,mZ 5 0] [4,5]) .skip))
def XN:IC:=cD 32 (oR [fA 34 6 2,l1 35 34,nS 36 35,m1 4 36,mZ 5 0] [4,5]) (oS [bZ 38 .eql 19 4,m1 37 38] [6,8,19,37] (cD 37 (oR [m1 39 8,nS 40 39,m1 4 40,mZ 5 0] [4,5]) (oS [bZ 42 .eql 19 5,m1 41 42] [6,8,19,41] Wj)))
def VW:IC:=cD 20 Wc (oS [bZ 28 .eql 19 2,m1 27 28] [6,8,19,27] (cD 27 (oR [fA 29 6 1,l1 30 29,q1 31 254 30,m1 4 31,mZ 5 0] [4,5]) (oS [bZ 33 .eql 19 3,m1 32 33] [6,8,19,32] XN)))
def VS:IC:=oS [fA 16 6 2,l1 17 16,o1 18 (.call 253 [.t 17,.c (.s [48])]),m1 8 18] [1,6,8] (sQ (oS [m1 19 1] [6,8,19] (.block 0 (oS [bZ 21 .eql 19 1,m1 20 21] [6,8,19,20] VW))) (oR [mZ 4 0,mZ 5 1] [4,5]))
def wJ:IC:=oS [m1 10 0,q1 11 131 10,m1 9 11,xT 12 9 0,xT 13 9 1,o1 6 (.alloc (.agg [.b false,.s [],.s []])),sT 6 12 3,m1 7 13] [1,6,7] (sQ (oS [m1 14 7,nT 15 14] [1,6,15] (cD 15 (oR [mZ 4 0,mZ 5 1] [4,5]) .skip)) VS)
def uL:IC:=oS [mZ 4 0,mZ 5 0] [0,1] wJ
def Ann:List R:=[.t 4,.t 5]
def Axg:=Ao Wc.eq_1<|Ao Wj.eq_1<|Ao XN.eq_1<|Ao VW.eq_1<|Ao VS.eq_1<|Ao wJ.eq_1<|AJ uL.eq_1
theorem dP:Ar π 239 50 uL Ann=true:=by kernel_rfl
attribute[push_cast]Ar5 Aws Aoh Axy Aqu Ax6 Ane Awu ApC Axf Aog Axc Auw AxI Apy Aw4 Ann Axg
end Go.Ir

namespace Go.Ir
open Go.Proofs
variable(O:World)
theorem Aif(w r:Ad)(h:∀x∈w,(x !=46)=true)(d:∀x∈r.head?,(x !=46)=false)(e:w.length<=2^40):An π O 171 [.s (w++r),.s [46]] [] (.tup [.s w,.s r.tail,.b (!r.isEmpty)]) []:=by
 cases r with
 | nil=>
  refine Ah (vs:=[.s w,.s [],.b false]) nY (by simp) (by simp) λn0 a=>?_;clear a;simp only[push_cast,seval,rq]
  repeat' (first|(((first|apply Ac|apply Af|apply Ag)<;>intro _h)<;>(simp only[push_cast,seval,rq,_h,SZ h];try (have _g:=_h;simp at _g)))|(refine Ab (by exact Mp O _ _) ?_;simp only[push_cast,seval,rq,SZ h])|intro _)
  all_goals (first|(refine Ae ?_;simp[get]<;>(intros;omega);done)|(refine Ai ?_;simp[push_cast,get];done)|skip)
 | cons c t=>
  have:c=46:=by have:=d c (by simp);simpa using this
  subst this;refine Ah (vs:=[.s w,.s t,.b true]) nY (by simp) (by simp) λn0 a=>?_;clear a;simp only[push_cast,seval,rq]
  repeat' (first|(((first|apply Ac|apply Af|apply Ag)<;>intro _h)<;>(simp only[push_cast,seval,rq,_h,VK h,Aa (46:UInt8) (dn:=w) (by omega)];try (have _g:=_h;simp at _g)))|(refine Ab (by exact Mp O _ _) ?_;simp only[push_cast,seval,rq,VK h,Aa (46:UInt8) (dn:=w) (by omega)])|intro _)
  all_goals (first|(refine Ae ?_;simp[get]<;>(intros;omega);done)|(refine Ai ?_;simp[push_cast,get];done)|skip)
theorem AnT(w r:Ad)(h:∀x∈w,(x !=46)=true)(d:∀x∈r.head?,(x !=46)=false)(c:w.length<=2^40):An π O 137 [.s (w++r),.s [46]] [] (.tup [.s w,.s r.tail,.b (!r.isEmpty)]) []:=by
 refine Ah (vs:=[.s w,.s r.tail,.b (!r.isEmpty)]) Ak3 (by simp) (by simp) λn0 a=>?_;clear a;simp only[push_cast,seval,rq]
 repeat' (first|(((first|apply Ac|apply Af|apply Ag)<;>intro _h)<;>(simp only[push_cast,seval,rq,_h];try (have _g:=_h;simp at _g)))|(refine Ab (by exact Aif O w r h d c) ?_;simp only[push_cast,seval,rq])|intro _)
 all_goals (first|(refine Ae ?_;simp[get]<;>(intros;omega);done)|(refine Ai ?_;simp[push_cast,get];done)|skip)
theorem JB(s:Ad):An π O 163 [.s s] [] (.b (B4 s)) []:=by
 refine Ah (vs:=[.b (B4 s)]) AlX (by simp) (by simp) λn0 a=>?_;clear a;simp only[push_cast,seval,rq]
 repeat' (first|(((first|apply Ac|apply Af|apply Ag)<;>intro _h)<;>(simp only[push_cast,seval,rq,_h,Ju];try (have _g:=_h;simp at _g)))|(refine Ab (by exact UA O _ _ (by decide) (by decide)) ?_;simp only[push_cast,seval,rq,Ju])|intro _)
 all_goals (first|(refine Ae ?_;simp[get]<;>(intros;omega);done)|(refine Ai ?_;simp[push_cast,get];done)|skip)
theorem pZ(s:Ad):An π O 199 [.s s] [] (.b (Ef s)) []:=by
 refine Ah (vs:=[.b (Ef s)]) Ah1 (by simp) (by simp) λn0 a=>?_;clear a;simp only[push_cast,seval,rq]
 repeat' (first|(((first|apply Ac|apply Af|apply Ag)<;>intro _h)<;>(simp only[push_cast,seval,rq,_h,MH];try (have _g:=_h;simp at _g)))|(refine Ab (by exact UA O _ _ (by decide) (by decide)) ?_;simp only[push_cast,seval,rq,MH])|intro _)
 all_goals (first|(refine Ae ?_;simp[get]<;>(intros;omega);done)|(refine Ai ?_;simp[push_cast,get];done)|skip)
def KJ(s:Ad):V:=.agg [.b (Jw s),.s (AI s),.s (Ba s)]
theorem XR s:An π O 164 [KJ s] [] (.b (Ef (AI s)&&Ef (Ba s))) []:=by
 unfold KJ;refine Ah (vs:=[.b (Ef (AI s)&&Ef (Ba s))]) sF (by simp) (by simp) λn0 a=>?_;clear a;simp only[push_cast,seval,rq]
 repeat' (first|(((first|apply Ac|apply Af|apply Ag)<;>intro _h)<;>(simp only[push_cast,seval,rq,_h];try (have _g:=_h;simp at _g)))|(refine Ab (by exact pZ O _) ?_;simp only[push_cast,seval,rq])|intro _)
 all_goals (first|(refine Ae ?_;simp[get, *]<;>(intros;omega);done)|(refine Ai ?_;simp[push_cast,get, *];done)|skip)
theorem Vp s (a:s.length<=2^40):An π O 137 [.s (Fi s),.s [46]] [] (.tup [.s (AI s),.s (Ba s),.b (!(NW s).isEmpty)]) []:=by have:=K1 s;rw[Gh];exact AnT O _ _ (NX _) (vU s) (by omega)
theorem LE(s:Ad)(e:s.length<=2^40):An π O 131 [.s s] [] (.tup [KJ s,.b (DA s)]) []:=by
 generalize hS:DA s=S;unfold DA at hS;rcases hW:(AI s)[0]? with _|c
 .have a:(AI s).length=0:=by simpa using hW
  rw[a] at hS;subst hS;refine Ah (vs:=[KJ s,.b _]) xU (by simp) (by simp) λn0 d=>?_;clear d;simp only[push_cast,seval,rq]
  repeat' (first|(((first|apply Ac|apply Af|apply Ag)<;>intro _h)<;>(simp only[push_cast,seval,rq,_h,CA,CT,a];try (have _g:=_h;simp at _g)))|((first|refine Ab (by exact(EI O s [45])) ?_|refine Ab (by exact Vp O s e) ?_|refine Ab (by exact JB O (AI s)) ?_|refine Ab (by exact JB O (Ba s)) ?_|refine Ab (by exact XR O s) ?_);simp only[push_cast,seval,rq,CA,CT,a])|intro _)
  all_goals (first|(refine Ae ?_;simp[get,KJ]<;>(intros;omega);done)|(refine Ai ?_;simp[push_cast,get,KJ];done)|skip)
 .have f:lB (AI s)=((c.toNat:Int)==48):=by simp[lB,hW]
  rw[f] at hS;subst hS;refine Ah (vs:=[KJ s,.b _]) xU (by simp) (by simp) λn0 d=>?_;clear d;simp only[push_cast,seval,rq]
  repeat' (first|(((first|apply Ac|apply Af|apply Ag)<;>intro _h)<;>(simp only[push_cast,seval,rq,_h,CA,CT,hW];try (have _g:=_h;simp at _g)))|((first|refine Ab (by exact(EI O s [45])) ?_|refine Ab (by exact Vp O s e) ?_|refine Ab (by exact JB O (AI s)) ?_|refine Ab (by exact JB O (Ba s)) ?_|refine Ab (by exact XR O s) ?_);simp only[push_cast,seval,rq,CA,CT,hW])|intro _)
  all_goals (first|(refine Ae ?_;simp[get,KJ, *]<;>(intros;omega);done)|(refine Ai ?_;simp[push_cast,get,KJ, *];done)|skip)
theorem HD(s:Ad)(c:s.length<=2^40):An π O 97 [.s s] [] (.b (DA s)) []:=by
 have:=LE O s c;unfold KJ at this;refine Ah (vs:=[.b (DA s)]) AqP (by simp) (by simp) λn0 a=>?_;clear a;simp only[push_cast,seval,rq]
 repeat' (first|(((first|apply Ac|apply Af|apply Ag)<;>intro _h)<;>(simp only[push_cast,seval,rq,_h];try (have _g:=_h;simp at _g)))|(refine Ab (by exact this) ?_;simp only[push_cast,seval,rq])|intro _)
 all_goals (first|(refine Ae ?_;simp[get]<;>(intros;omega);done)|(refine Ai ?_;simp[push_cast,get];done)|skip)
theorem Qm s (h:B4 s=true)(d:s.length<=15):An π O 254 [.s s] [] (.i .i64 (MV 0 s)) []:=by
 have c:=AiB O (48::s) _ (by simp;omega) (dU s h);have a:1+s.length<=Am:=by unfold Am;omega
 refine Ah (vs:=[.i .i64 (MV 0 s)]) Ak1 (by simp) (by simp) λn0 b=>?_;clear b;simp only[push_cast,seval,rq,a]
 repeat' (first|(((first|apply Ac|apply Af|apply Ag)<;>intro _h)<;>(simp only[push_cast,seval,rq,_h,a];try (have _g:=_h;simp at _g)))|(refine Ab (by exact c) ?_;simp only[push_cast,seval,rq,a])|intro _)
 all_goals (first|(refine Ae ?_;simp[get]<;>(intros;omega);done)|(refine Ai ?_;simp[push_cast,get];done)|skip)
theorem AoG(s:Ad) f (j:s.length<=2^40):An π O 239 [.s s,.i .i64 f] [] (.tup [.i .i64 (opV s f).1,.i .i64 (opV s f).2]) []:=by
 have c:=LE O s j;have d:=AbS O (Ba s) [48] (by decide) (by decide);unfold KJ at c;rw[show Lib.trimRightS (Ba s) [48]=Jy (Ba s) from rfl] at d;by_cases a:DA s=true
 .obtain⟨g,e,h,k⟩:=GN a;have l:=yH (Ba s);have m:=Qm O (AI s) g h;have v2:=Qm O (Ba s) e (by omega);have v3:=Qm O (Jy (Ba s)) (Pt e) (by omega);generalize hS:opV s f=S;unfold opV at hS;refine Ah (vs:=[.i .i64 S.1,.i .i64 S.2]) dP (by simp) (by simp) λn0 b=>?_;clear b;simp only[push_cast,seval,rq,a]
  repeat' (first|(((first|apply Ac|apply Af|apply Ag)<;>intro _h)<;>(simp only[push_cast,seval,rq,_h,a];try (have _g:=_h;simp at _g)))|((first|refine Ab (by exact c) ?_|refine Ab (by exact d) ?_|refine Ab (by exact m) ?_|refine Ab (by exact v2) ?_|refine Ab (by exact v3) ?_);simp only[push_cast,seval,rq,a])|intro _)
  all_goals subst hS
  all_goals (first|(refine Ae ?_;simp[get, *]<;>(intros;omega);done)|(refine Ai ?_;simp[push_cast,get, *];done)|skip)
 .generalize hS:opV s f=S;unfold opV at hS;rw[Amt a] at hS;subst hS;rw[Bool.not_eq_true] at a;refine Ah (vs:=[.i .i64 0,.i .i64 1]) dP (by simp) (by simp) λn0 b=>?_;clear b;simp only[push_cast,seval,rq,a]
  repeat' (first|(((first|apply Ac|apply Af|apply Ag)<;>intro _h)<;>(simp only[push_cast,seval,rq,_h,a];try (have _g:=_h;simp at _g)))|((first|refine Ab (by exact c) ?_|refine Ab (by exact d) ?_);simp only[push_cast,seval,rq,a])|intro _)
  all_goals (first|(refine Ae ?_;simp[get, *]<;>(intros;omega);done)|(refine Ai ?_;simp[push_cast,get, *];done)|skip)

end Go.Ir

namespace Go.Ir
open Go.Proofs
variable{P:Program}{O:World}{nt n:Nat}{Q:Exit→St→Prop}{env:Bm}{σ:Au}
def XU:IC:=oR [m1 16 1,q1 17 162 16,m1 18 17,Bn 19 18 6,Bn 20 18 19,B0 21 20 5,gT 22 20 (.call 97 [.t 21]),gF 23 18 (.pick (.t 20) (.t 22) (.c (.b false))),pO 24 18 23,m1 4 24] [4]
def mK:IC:=sQ (oS [m1 7 0,bZ 8 .eql 7 9] [1,8] (cD 8 (oR [m1 9 1,q1 10 124 9,m1 4 10] [4]) .skip)) (oS [m1 12 1,o1 13 (.call 136 [.t 12,.c (.s [61])]),m1 11 13,xT 14 11 0,xT 15 11 1,m1 5 14,m1 6 15] [1,5,6] XU)
def dJ:IC:=oS [mC 4 (.b false)] [0,1] mK
def AoA:List R:=[.t 4]
def Aw5:=Ao XU.eq_1<|Ao mK.eq_1<|AJ dJ.eq_1
theorem Vw:Ar π 129 25 dJ AoA=true:=by kernel_rfl
def gY:IC:=oS [bZ 21 .eql 9 7,m1 18 21] [1,3,4,9,18] (cD 18 .skip (oS [bZ 22 .eql 9 8,m1 18 22] [1,3,4,9,18] (cD 18 .skip (oP [bZ 23 .eql 9 9,m1 18 23] [1,3,4,9,18]))))
def rY:IC:=oP [fA 35 1 3,l1 36 35,bC 37 .eql 36 (.s []),m1 38 37,CG 39 38 1 3,CM 40 38 39,gF 41 38 (.bin .eql (.t 40) (.c (.s [105,110,116,101,103,101,114]))),pO 42 38 41,m1 43 42,CG 44 43 1 3,CM 45 43 44,gF 46 43 (.bin .eql (.t 45) (.c (.s [112,101,114,99,101,110,116]))),pO 47 43 46,m1 4 47] [1,3,4]
def sB:IC:=sQ (.ops [fA 29 1 2,l1 30 29,fA 31 1 3,l1 32 31,fA 33 3 2,⟨none,.store (.t 33) (.t 30) 1,none,[.t 31]⟩,fA 34 3 3,sT 34 32 1] [1,3] [[0,1],[2,3],[1,5],[4,5],[1,7],[3,7],[5,7],[6,7]]) rY
def dG:IC:=sQ (.ops [fA 51 1 2,l1 52 51,fA 53 1 3,l1 54 53,fA 55 3 2,⟨none,.store (.t 55) (.t 52) 1,none,[.t 53]⟩,fA 56 3 3,sT 56 54 1] [1,3] [[0,1],[2,3],[1,5],[4,5],[1,7],[3,7],[5,7],[6,7]]) (oP [fA 57 1 3,l1 58 57,q1 59 124 58,m1 4 59] [1,3,4])
def nF:IC:=sQ (.ops [fA 62 1 2,l1 63 62,fA 64 1 3,l1 65 64,fA 66 3 2,⟨none,.store (.t 66) (.t 63) 1,none,[.t 64]⟩,fA 67 3 3,sT 67 65 1] [1,3] [[0,1],[2,3],[1,5],[4,5],[1,7],[3,7],[5,7],[6,7]]) (oP [fA 68 1 3,l1 69 68,q1 70 123 69,m1 4 70] [1,3,4])
def sX:IC:=oS [bZ 61 .eql 9 5,m1 60 61] [1,3,4,9,60] (cD 60 nF (oS [bZ 72 .eql 9 10,m1 71 72] [1,3,4,71] (cD 71 .skip (oP [mC 4 (.b false)] [1,3,4]))))
def kG:IC:=oS [bZ 28 .eql 9 3,m1 27 28] [1,3,4,9,27] (cD 27 sB (sQ (oS [bZ 49 .eql 9 4,m1 48 49] [1,3,4,9,48] (cD 48 .skip (oP [bZ 50 .eql 9 6,m1 48 50] [1,3,4,9,48]))) (cD 48 dG sX)))
def oT:IC:=sQ (oS [bZ 19 .eql 9 2,m1 18 19] [1,3,4,9,18] (cD 18 .skip (oS [bZ 20 .eql 9 11,m1 18 20] [1,3,4,9,18] (cD 18 .skip gY)))) (cD 18 (oP [fA 24 1 2,l1 25 24,fA 26 3 2,sT 26 25 1] [1,3,4]) kG)
def Ag6:IC:=.block 0 (oS [bZ 11 .eql 9 1,m1 10 11] [1,3,4,9,10] (cD 10 (oS [fA 12 1 1,l1 13 12,fA 14 3 1,sT 14 13 1] [1,3] (oP [fA 15 1 1,l1 16 15,bC 17 .neq 16 (.s []),m1 4 17] [1,3,4])) oT))
def tY:IC:=oR [m1 92 4,m1 93 92,D0 94 93 1 1,Dm 95 93 94,D0 96 93 3 1,Dm 97 93 96,gT 98 93 (.bin .eql (.t 95) (.t 97)),pA 99 93 98,m1 100 99,D0 101 100 1 2,Dm 102 100 101,D0 103 100 3 2,Dm 104 100 103,gT 105 100 (.bin .eql (.t 102) (.t 104)),pA 106 100 105,m1 107 106,D0 108 107 1 3,Dm 109 107 108,D0 110 107 3 3,Dm 111 107 110,gT 112 107 (.bin .eql (.t 109) (.t 111)),pA 113 107 112,m1 114 113,D0 115 114 1 4,Dm 116 114 115,gT 117 114 (.lenL (.t 116)),Dn 118 114 .eql 117 0,B0 119 114 118,CG 120 119 1 0,CM 121 119 120,gF 122 119 (.call 89 [.t 121]),gT 123 114 (.pick (.t 119) (.c (.b true)) (.t 122)),pA 124 114 123,m1 125 124,D0 126 125 1 5,Dm 127 125 126,gT 128 125 (.lenL (.t 127)),Dn 129 125 .eql 128 0,B0 130 125 129,CG 131 130 1 0,CM 132 130 131,Dv 133 130 .eql 132 11,gT 134 125 (.pick (.t 130) (.c (.b true)) (.t 133)),pA 135 125 134,m1 2 135] [2]
def tQ:IC:=sQ (oS [fA 73 3 2,l1 74 73,bC 75 .neq 74 (.s []),m1 76 75,CG 77 76 1 0,CM 78 76 77,Dv 79 76 .neq 78 1,Bn 80 76 79,D0 81 80 1 0,Dm 82 80 81,Dn 83 80 .neq 82 10,gF 84 76 (.pick (.t 80) (.t 83) (.c (.b false))),pO 85 76 84] [1,3,4,85] (cD 85 (oP [m1 86 4,m1 87 86,D0 88 87 1 2,Dm 89 87 88,gT 90 87 (.call 124 [.t 89]),pA 91 87 90,m1 4 91] [1,3,4]) .skip)) tY
def Ae9:IC:=oS [fA 5 1 0,l1 6 5,o1 7 (.build [.i .i64 0,.s [],.s [],.s [],.nil,.nil] [(0,1,.t 6)]),o1 3 (.alloc (.agg [.i .i64 0,.s [],.s [],.s [],.nil,.nil])),sT 3 7 6] [1,3] (oS [mC 4 (.b true)] [1,3,4] (sQ (oS [fA 8 1 0,l1 9 8] [1,3,4,9] Ag6) tQ))
def AdF:IC:=oS [bX 1 0,mC 2 (.b false)] [1] Ae9
def AtE:List R:=[.t 2]
def Ay2:=Ao gY.eq_1<|Ao rY.eq_1<|Ao sB.eq_1<|Ao dG.eq_1<|Ao nF.eq_1<|Ao sX.eq_1<|Ao kG.eq_1<|Ao oT.eq_1<|Ao Ag6.eq_1<|Ao tY.eq_1<|Ao tQ.eq_1<|Ao Ae9.eq_1<|AJ AdF.eq_1
theorem GY:Ar π 92 136 AdF AtE=true:=by kernel_rfl
def dQ:IC:=.ops [m1 56 5,fA 57 8 2,l1 58 57,o1 59 (.bin .add (.c (.s [60])) (.t 58)),bC 60 .add 59 (.s [62]),fA 61 8 5,l1 62 61,m1 63 1,q2 64 14 62 63,bT 65 .add 60 64,bC 66 .add 65 (.s [60,47]),fA 67 8 2,l1 68 67,bT 69 .add 66 68,bC 70 .add 69 (.s [62]),bT 71 .add 56 70,m1 5 71] [0,1,5,6,7] [[1,2],[2,3],[3,4],[5,6],[6,8],[7,8],[4,9],[8,9],[9,10],[11,12],[10,13],[12,13],[13,14],[0,15],[14,15],[0,16],[15,16]]
def oJ:IC:=oP [m1 109 5,m1 110 1,o1 111 (.bin .add (.c (.s [44])) (.t 110)),fA 112 8 3,l1 113 112,bT 114 .add 111 113,bT 115 .add 109 114,m1 5 115] [0,1,5,6,7,8]
def v7:IC:=sQ (.block 4 (.ops [m1 128 5,m1 129 1,fA 130 8 4,l1 131 130,m1 132 9,iA 133 131 132 76 2,fA 134 133 0,l1 135 134,bT 136 .add 129 135,m1 137 1,bT 138 .add 136 137,bC 139 .add 138 (.s [123]),fA 140 8 4,l1 141 140,m1 142 9,iA 143 141 142 76 2,fA 144 143 1,l1 145 144,m1 146 1,q2 147 14 145 146,bT 148 .add 139 147,bC 149 .add 148 (.s [125]),bT 150 .add 128 149,m1 5 150] [0,1,5,6,7,8,9] [[2,3],[3,5],[4,5],[5,6],[6,7],[1,8],[7,8],[8,10],[9,10],[10,11],[12,13],[13,15],[14,15],[15,16],[16,17],[17,19],[18,19],[11,20],[19,20],[20,21],[0,22],[21,22],[0,23],[22,23]])) (oP [m1 126 9,bZ 127 .add 126 1,m1 9 127] [0,1,5,6,7,8,9])
def jG:IC:=sQ (oS [mZ 9 0] [0,1,5,6,7,8,9] (.block 3 (.loop (sQ (oS [m1 121 9,fA 122 8 4,l1 123 122,nL 124 123,bT 125 .lss 121 124] [0,1,5,6,7,8,9,125] (cD 125 .skip (.exit 3))) v7)))) (oP [m1 151 5,bC 152 .add 151 (.s [125]),m1 5 152] [0,1,5,6,7])
def pW:IC:=sQ (oS [fA 116 8 0,l1 117 116,q1 118 30 117] [0,1,5,6,7,8,118] (cD 118 (oP [m1 119 5,bC 120 .add 119 (.s [44]),m1 5 120] [0,1,5,6,7,8]) .skip)) jG
def dE:IC:=sQ (.ops [m1 91 5,fA 92 8 2,l1 93 92,o1 94 (.bin .add (.c (.s [123])) (.t 93)),bC 95 .add 94 (.s [44]),m1 96 1,bT 97 .add 95 96,m1 98 6,fA 99 8 0,l1 100 99,bZ 101 .sub 100 3,iA 102 98 101 9 1,l1 103 102,bT 104 .add 97 103,bT 105 .add 91 104,m1 5 105] [0,1,5,6,7,8] [[1,2],[2,3],[3,4],[4,6],[5,6],[8,9],[9,10],[7,11],[10,11],[11,12],[6,13],[12,13],[0,14],[13,14],[0,15],[14,15]]) (sQ (oS [fA 106 8 3,l1 107 106,bC 108 .neq 107 (.s [])] [0,1,5,6,7,8,108] (cD 108 oJ .skip)) pW)
def qH:IC:=oS [fA 83 8 0,l1 84 83,bZ 85 .geq 84 3,m1 86 85,D0 87 86 8 0,Dm 88 86 87,Dn 89 86 .leq 88 9,pA 90 86 89,m1 82 90] [0,1,5,6,7,8,82] (cD 82 dE .skip)
def nH:IC:=oS [fA 73 8 0,l1 74 73,bZ 75 .eql 74 2,m1 72 75] [0,1,5,6,7,8,72] (cD 72 (oP [m1 76 5,fA 77 8 2,l1 78 77,o1 79 (.bin .add (.c (.s [123])) (.t 78)),bC 80 .add 79 (.s [125]),bT 81 .add 76 80,m1 5 81] [0,1,5,6,7]) qH)
def yG:IC:=oS [fA 37 8 0,l1 38 37,bZ 39 .eql 38 11,m1 40 39,D0 41 40 8 5,Dm 42 40 41,gT 43 40 (.lenL (.t 42)),Dn 44 40 .eql 43 0,pA 45 40 44,m1 36 45] [0,1,5,6,7,8,36] (cD 36 (oP [m1 46 5,fA 47 8 2,l1 48 47,o1 49 (.bin .add (.c (.s [60])) (.t 48)),bC 50 .add 49 (.s [47,62]),bT 51 .add 46 50,m1 5 51] [0,1,5,6,7]) (oS [fA 53 8 0,l1 54 53,bZ 55 .eql 54 11,m1 52 55] [0,1,5,6,7,8,52] (cD 52 dQ nH)))
def yV:IC:=.block 2 (oS [fA 22 8 0,l1 23 22,bZ 24 .eql 23 1,m1 21 24] [0,1,5,6,7,8,21] (cD 21 (oP [m1 25 5,fA 26 8 1,l1 27 26,q1 28 29 27,bT 29 .add 25 28,m1 5 29] [0,1,5,6,7]) (oS [fA 31 8 0,l1 32 31,bZ 33 .eql 32 10,m1 30 33] [0,1,5,6,7,8,30] (cD 30 (oP [m1 34 5,bC 35 .add 34 (.s [35]),m1 5 35] [0,1,5,6,7]) yG))))
def wI:IC:=sQ (.block 1 (oS [m1 17 0,m1 18 7,iA 19 17 18 74 6,lA 20 19 6,o1 8 (.alloc (.agg [.i .i64 0,.s [],.s [],.s [],.nil,.nil])),sT 8 20 6] [0,1,5,6,7,8] yV)) (oP [m1 15 7,bZ 16 .add 15 1,m1 7 16] [0,1,5,6,7])
def AeA:IC:=sQ (oS [mZ 7 0] [0,1,5,6,7] (.block 0 (.loop (sQ (oS [m1 11 7,m1 12 0,nL 13 12,bT 14 .lss 11 13] [0,1,5,6,7,14] (cD 14 .skip (.exit 0))) wI)))) (oR [m1 153 5,m1 4 153] [4])
def Ahg:IC:=oS [o1 10 (.msl false 9 1 [.c (.s [110,117,109,98,101,114]),.c (.s [117,110,105,116]),.c (.s [100,97,116,101]),.c (.s [108,105,115,116]),.c (.s [112,108,117,114,97,108]),.c (.s [111,114,100,105,110,97,108]),.c (.s [115,101,108,101,99,116])]),m1 6 10] [0,1,5,6] AeA
def AeZ:IC:=oS [mC 4 (.s [])] [0,1] (oS [mC 5 (.s [])] [0,1,5] Ahg)
def Atr:List R:=[.t 4]
def AyI:=Ao dQ.eq_1<|Ao oJ.eq_1<|Ao v7.eq_1<|Ao jG.eq_1<|Ao pW.eq_1<|Ao dE.eq_1<|Ao qH.eq_1<|Ao nH.eq_1<|Ao yG.eq_1<|Ao yV.eq_1<|Ao wI.eq_1<|Ao AeA.eq_1<|Ao Ahg.eq_1<|AJ AeZ.eq_1
theorem AnB:Ar π 14 154 AeZ Atr=true:=by kernel_rfl
attribute[push_cast]AoA Aw5 AtE Ay2 Atr AyI
end Go.Ir

namespace Go.Ir
open Go.Proofs
variable(O:World)
def Abb:Ad->Bool
 | []=>false
 | c::t=>(c.toNat:Int)==61&&DA t
def Lx(a:Int)(s:Ad):Bool:=if a==9 then BN s else KB s||Abb s
theorem RJ:DA []=false:=by decide
theorem Aj6 d (s:Ad)(l:s.length<=2^30):An π O 129 [.i .i64 d,.s s] [] (.b (Lx d s)) []:=by
 generalize hS:Lx d s=S;unfold Lx at hS;have f:=Dz O s (by unfold Am;omega);have g:=mP O s;have e:=EI O s [61];cases s with
 | nil=>
  have h:=HD O [] (by simp);refine Ah (vs:=[.b S]) Vw (by simp) (by simp) λn0 a=>?_;clear a;simp only[push_cast,seval,rq]
  repeat' (first|(((first|apply Ac|apply Af|apply Ag)<;>intro _h)<;>(simp only[push_cast,seval,rq,_h];try (have _g:=_h;simp at _g)))|((first|refine Ab (by exact f) ?_|refine Ab (by exact g) ?_|refine Ab (by exact e) ?_|refine Ab (by exact h) ?_);simp only[push_cast,seval,rq])|intro _)
  all_goals subst hS
  all_goals (first|(refine Ae ?_;simp[get,Abb,RJ, *]<;>(intros;omega);done)|(refine Ai ?_;simp[push_cast,get,Abb,RJ, *];done)|skip)
 | cons c t=>
  have hp:Lib.hasPrefix (c::t) [61]=((c.toNat:Int)==61):=by unfold Lib.hasPrefix;simp only[List.isPrefixOf,AmS];rw[Axn];simp[<-A0E];omega
  have k:Lib.trimPrefix (c::t) [61]=if((c.toNat:Int)==61)=true then t else c::t:=by unfold Lib.trimPrefix;rw[hp];rfl
  rw[hp,k] at e;generalize BN (c::t)=N at f hS;generalize KB (c::t)=C at g hS;rw[Abb] at hS;have h:=HD O t (by simp at l;omega);rcases Ayd ((c.toNat:Int)==61) with j|j
  all_goals (rw[j] at e hS;simp only[Agp,Amq,Amr,Agw,AfT] at e hS)
  .skip;refine Ah (vs:=[.b S]) Vw (by simp) (by simp) λn0 a=>?_;clear a;simp only[push_cast,seval,rq]
   repeat' (first|(((first|apply Ac|apply Af|apply Ag)<;>intro _h)<;>(simp only[push_cast,seval,rq,_h];try (have _g:=_h;simp at _g)))|((first|refine Ab (by exact f) ?_|refine Ab (by exact g) ?_|refine Ab (by exact e) ?_|refine Ab (by exact h) ?_);simp only[push_cast,seval,rq])|intro _)
   all_goals subst hS
   all_goals (first|(refine Ae ?_;simp[get, *]<;>(intros;omega);done)|(refine Ai ?_;simp[push_cast,get, *];done)|skip)
  .skip;refine Ah (vs:=[.b S]) Vw (by simp) (by simp) λn0 a=>?_;clear a;simp only[push_cast,seval,rq]
   repeat' (first|(((first|apply Ac|apply Af|apply Ag)<;>intro _h)<;>(simp only[push_cast,seval,rq,_h];try (have _g:=_h;simp at _g)))|((first|refine Ab (by exact f) ?_|refine Ab (by exact g) ?_|refine Ab (by exact e) ?_);simp only[push_cast,seval,rq])|intro _)
   all_goals subst hS
   all_goals (first|(refine Ae ?_;simp[get, *]<;>(intros;omega);done)|(refine Ai ?_;simp[push_cast,get, *];done)|skip)
def wT(p:Al):Ad:=if p.kind==1 then p.text else[]
def wN(p:Al):Ad:=if p.kind==1 then[] else if p.kind==10 then[] else if p.kind==2 then p.name else if p.kind==3||p.kind==4||p.kind==5||p.kind==6 then p.name else[]
def wS(p:Al):Ad:=if p.kind==1 then[] else if p.kind==10 then[] else if p.kind==2 then[] else if p.kind==3||p.kind==4||p.kind==5||p.kind==6 then p.style else[]
def jL(p:Al)(c:Bool):Bool:=
 if p.kind==1 then !(p.text==[]) else if p.kind==10 then c else if p.kind==2 then BN p.name
 else if p.kind==3||p.kind==4||p.kind==5||p.kind==6 then BN p.name&&(if p.kind==3 then p.style==[]||p.style==[105,110,116,101,103,101,114]||p.style==[112,101,114,99,101,110,116] else if p.kind==5 then Fg p.style else BN p.style)
 else false
def Nw(p:Al)(c:Bool):Bool:=jL p c&&((p.cases.length:Int)==0)&&((p.parts.length:Int)==0)&&(p.text==wT p)&&(p.name==wN p)&&(p.style==wS p)
end Go.Ir
section
namespace Go.Ir
open Go.Proofs
variable(O:World)
theorem Aj.frz{O:World}{nt n n':Nat}{env env':Bm}{σ:Au}{id:Id}{e sz:Nat}{es:List V}(g:lk σ id=none)(m:∀y∈es,y.ok=true)
  (b:∀s,get env' s=get env s\/(get env s=.arr id/\get env' s=.sl es))(f:n<=n'):Aj O nt ⟨env,(id,.arr e sz es)::σ,n⟩ ⟨env',σ,n'⟩:=by
 refine Aj.weak (λi=>if i=id then some es else none) (λi es' h=>?_) (λs=>?_) (λi e' h=>?_) f
 .split at h
  .rename_i l;subst l;cases h;exact⟨⟨e,sz,by simp[lk]⟩,g⟩
  .cases h
 .rcases b s with h|⟨d,a⟩
  .rw[h];exact .refl _
  .rw[d,a];refine .arr id es es (by simp) rfl (λk c j d a=>?_) (λk c j d a=>?_)
   .rw[d] at a;cases a;exact .refl _
   grind
 .refine⟨e',C6 g i e' h,.refl _⟩
theorem Aj.frzAt{O nt n n' s env σ id}{e sz:Nat}{es}(d:get env s=.arr id)(c:lk σ id=none)(b:∀y∈es,y.ok=true)(a:n<=n') :
  Aj O nt ⟨env,(id,.arr e sz es)::σ,n⟩ ⟨(s,.sl es)::env,σ,n'⟩:=by
 refine Aj.frz c b (λt=>?_) a;by_cases h:s=t
 .subst h;exact .inr ⟨d,by simp[get]⟩
 .exact .inl (by simp[get,h])
theorem Aj.envD{O nt n n' env env' σ}(a:∀s,get env' s=get env s\/get env' s=.any)(b:n<=n'):Aj O nt ⟨env,σ,n⟩ ⟨env',σ,n'⟩:=by
 refine Aj.weak (λ_=>none) (λ_ _ h=>by cases h) (λs=>?_) (λi e' h=>⟨e',h,.refl _⟩) b;rcases a s with h|h
 .rw[h];exact .refl _
 .rw[h];exact .any _
def AvP(k:Int)(n:Ad)(l:List Ad):List Ad:=if decide (k>=2)&&decide (k<=9)&&!l.contains n then l++[n] else l
mutual
def Al.names:Al->List Ad->List Ad
 | ⟨k,_,n,_,cs,ps⟩,l=>Y3 cs (QD ps (AvP k n l))
def QD:List Al->List Ad->List Ad
 | [],l=>l
 | p::ps,l=>QD ps (p.names l)
def Y3:List (Ad×List Al)->List Ad->List Ad
 | [],l=>l
 | (_,ps)::cs,l=>Y3 cs (QD ps l)
end
end Go.Ir
end
section
namespace Go.Ir
open Go.Proofs
variable(O:World)
def Cb:Ad:=[111,116,104,101,114]
def LU(d:Int)(a t st:Ad)(q c:Int):Bool:=!(decide (d>8)||!BN a||!(t==[])||!(st==[])||decide (q>0)||decide (c<1)||decide (c>20))
def QR(d:Int)(a t st:Ad)(c:Int):Bool:=!(decide (d>8)||!BN a||!(t==[])||!(st==[])||decide (c>0))
mutual
def Al.formedB:Al->Int->Bool->Bool
 | ⟨k,t,a,st,cs,ps⟩,d,c=>
  if k==11 then QR d a t st cs.length&&B3 ps (d+1) c false
  else if Bk k then LU d a t st ps.length cs.length&&BX cs k d c []
  else Nw ⟨k,t,a,st,cs,ps⟩ c
def B3:List Al->Int->Bool->Bool->Bool
 | [],_,_,_=>true
 | p::ps,d,c,a=>!(p.kind==1&&a)&&(p.formedB d c&&B3 ps d c (p.kind==1))
def BX:List (Ad×List Al)->Int->Int->Bool->List Ad->Bool
 | [],_,_,_,a=>a.contains Cb
 | (key,ps)::cs,k,d,c,a=>!(!Lx k key||a.contains key)&&(B3 ps (d+1) (c||AhK k) false&&BX cs k d c (a++[key]))
end
theorem Al.formedB_eq p d c:p.formedB d c=(if p.kind==11 then QR d p.name p.text p.style p.cases.length&&B3 p.parts (d+1) c false else if Bk p.kind then LU d p.name p.text p.style p.parts.length p.cases.length&&BX p.cases p.kind d c [] else Nw p c):=by cases p;simp only[Al.formedB]
theorem BO p ps d c a:B3 (p::ps) d c a=(!(p.kind==1&&a)&&(p.formedB d c&&B3 ps d c (p.kind==1))):=by simp only[B3]
theorem E5(x:AR)(cs:List AR) k d c e:BX (x::cs) k d c e=(!(!Lx k x.1||e.contains x.1)&&(B3 x.2 (d+1) (c||AhK k) false&&BX cs k d c (e++[x.1]))):=by have ⟨a,b⟩:=x;simp only[BX]
def O8(dn:List Al):Bool:=match dn.getLast? with
 | some q=>q.kind==1
 | none=>false
end Go.Ir
end
namespace Go.Ir
open Go.Proofs
variable(O:World)
def Io(a:List Fq):Int:=(a.map λr=>1+(r.spans.length:Int)).sum
theorem XP a:0<=Io a:=by
 induction a with
 | nil=>simp[Io]
 | cons r a b=>simp[Io] at *;omega
theorem Acq a:Io a<CN a:=by
 induction a with
 | nil=>simp[Io,CN]
 | cons r a b=>simp[Io,CN,Fq.wt] at *;omega
theorem ZM r a:Io (r::a)=(1+(r.spans.length:Int))+Io a:=by simp[Io]
def vP(d:Int):List (List Fq)->Bool
 | []=>true
 | l::c=>!(decide (d+Io l>80))&&vP (d+Io l) c
def GL(c:List (List Fq)):Bool:=vP 0 c&&decide ((c.length:Int)<=30)
theorem AhD c (F:D8 c<=2^24):An π O 38 [.sl (c.map Ei)] [] (.b (GL c)) []:=by
 generalize hS:GL c=S;refine Ah (vs:=[.b S]) Aom (by simp) (by simp) λn0 q=>?_;clear q;simp only[push_cast,seval,rq];intros;have u:=GS c;refine Ak c.length (Inv:=λm st=>∃dn a n d,c=dn++a/\m=a.length/\(vP d a&&decide ((c.length:Int)<=30))=S/\0<=d/\d<=80/\st=⟨[(0,.sl (c.map Ei)),(3,.i .i64 d),(4,.i .i64 dn.length)],[],n⟩) ⟨_,Aj.refl,[],c,_,0,rfl,rfl,hS,by omega,by omega,rfl⟩ ?_;clear hS;rintro m _ ⟨dn,a,n,d,g,rfl,k,o,A,rfl⟩;cases a with
 | nil=>
  subst k;simp only[push_cast,seval,rq,g]
  repeat' (first|(((first|apply Ac|apply Af|apply Ag)<;>intro _h)<;>(simp only[push_cast,seval,rq,_h];try (have _g:=_h;simp at _g)))|intro _)
  all_goals (refine Ae ?_;simp[get,vP,g])
 | cons p a=>
  have x:=Ay g;have G:=GP (l:=c) (r:=p) (by rw[g];simp);have C:=Eq p;have D:=XP p;have E:=Acq p;rw[vP] at k;simp only[push_cast,seval,rq,g,Aa p (dn:=dn) (by omega)];intros;refine Ak p.length (Inv:=λm st=>∃j h n e,p=j++h/\m=h.length/\e+Io h=d+Io p/\0<=e/\st=⟨[(0,.sl (c.map Ei)),(3,.i .i64 e),(4,.i .i64 dn.length),(5,.i .i64 j.length)],[],n⟩) ⟨_,Aj.refl,[],p,_,_,rfl,rfl,rfl,o,by rw[g];rfl⟩ ?_;rintro m _ ⟨j,h,n,e,f,rfl,t,B,rfl⟩;cases h with
  | nil=>
   have:e=d+Io p:=by simp[Io] at t⊢;omega
   subst this;simp only[push_cast,seval,rq,g,Aa p (dn:=dn) (by omega),f]
   repeat' (first|(((first|apply Ac|apply Af|apply Ag)<;>intro _h)<;>(simp only[push_cast,seval,rq,_h,g,Aa p (dn:=dn) (by omega)];try (have _g:=_h;simp at _g)))|intro _)
   all_goals (simp only[AmY] at f;subst f)
   .refine Ae ?_;subst k;simp[get, *]
   .exact⟨_,_,Adx _,Aj.refl,dn++[p],a,_,d+Io p,by simp,rfl,by rw[<-k];simp[*],by omega,by omega,rfl⟩
  | cons r h=>have z:=Ay f;have s:=GM (l:=p) (r:=r) (by simp[f]);rw[Fq.wt] at s;rw[ZM] at t;have y:=XP h;have v:IntKind.i64.wrap (1+(r.spans.length:Int))=1+(r.spans.length:Int):=wrap64 (by omega) (by omega);have w:IntKind.i64.wrap (e+(1+(r.spans.length:Int)))=e+(1+(r.spans.length:Int)):=wrap64 (by omega) (by omega);simp only[push_cast,seval,rq,g,f,Aa r (dn:=j) (by omega),v,w];intros;exact⟨_,_,Adx _,Aj.refl,j++[r],h,_,e+(1+(r.spans.length:Int)),by simp,rfl,by rw[<-f];omega,by omega,rfl⟩
end Go.Ir

namespace Go.Ir
open Go.Proofs
variable{P:Program}{O:World}{nt n:Nat}{Q:Exit→St→Prop}{env:Bm}{σ:Au}
def VX:IC:=sQ (oS [bZ 13 .eql 5 5,m1 12 13] [1,5,12] (cD 12 .skip (oP [bZ 14 .eql 5 6,m1 12 14] [1,12]))) (cD 12 (oR [m1 15 1,bZ 16 .eql 15 10,m1 17 16,Bn 18 17 1,Dv 19 17 .eql 18 100,pO 20 17 19,m1 4 20] [4]) .skip)
def gQ:IC:=.block 0 (sQ (oS [bZ 7 .eql 5 1,m1 6 7] [1,5,6] (cD 6 .skip (oP [bZ 8 .eql 5 2,m1 6 8] [1,5,6]))) (cD 6 (oR [o1 9 (.msl false 3 1 [ci 2,ci 3,ci 4,ci 5,ci 6,ci 10,ci 20,ci 25,ci 50,ci 100]),m1 10 1,q2 11 237 9 10,m1 4 11] [4]) VX))
def d7:IC:=oS [mC 4 (.b false)] [0,1] (sQ (oS [m1 5 0] [1,5] gQ) (oR [mC 4 (.b false)] [4]))
def Apb:List R:=[.t 4]
def Aww:=Ao VX.eq_1<|Ao gQ.eq_1<|AJ d7.eq_1
theorem Ajf:Ar π 210 21 d7 Apb=true:=by kernel_rfl
def oK:IC:=oS [mZ 2 0] [0] (sQ (oS [m1 3 0,bZ 4 .eql 3 3,m1 5 4,Bn 6 5 0,Dv 7 5 .eql 6 4,pO 8 5 7] [8] (cD 8 (oR [mZ 2 6] [2]) .skip)) (oR [mZ 2 100] [2]))
def AnE:List R:=[.t 2]
def Aw7:=AJ oK.eq_1
theorem Aj2:Ar π 211 9 oK AnE=true:=by kernel_rfl
def Y2:IC:=sQ (.ops [fA 45 4 0,l1 46 45,bZ 47 .lss 46 0,m1 48 47,CG 49 48 4 0,CM 50 48 49,CG 51 48 4 1,CM 52 48 51,gF 53 48 (.bin .gtr (.t 50) (.t 52)),pO 54 48 53,m1 55 54,CG 56 55 4 1,CM 57 55 56,CG 58 55 1 0,CM 59 55 58,gF 60 55 (.call 211 [.t 59]),gF 61 55 (.bin .gtr (.t 57) (.t 60)),pO 62 55 61] [1,39,40,41,62] [[0,1],[1,2],[2,3],[3,4],[3,5],[4,5],[3,6],[3,7],[6,7],[3,8],[5,8],[7,8],[3,9],[8,9],[9,10],[10,11],[10,12],[11,12],[10,13],[10,14],[13,14],[10,15],[14,15],[10,16],[12,16],[15,16],[10,17],[16,17]]) (cD 62 (oR [mC 2 (.b false)] [2]) .skip)
def WS:IC:=sQ (.block 1 (oS [iA 43 39 41 185 2,lA 44 43 2,o1 4 (.alloc (.agg [.i .i64 0,.i .i64 0])),sT 4 44 2] [1,4,39,40,41] Y2)) (oP [bZ 63 .add 41 1,m1 41 63] [1,39,40,41])
def mJ:IC:=sQ (oS [fA 38 1 3,l1 39 38,nL 40 39,mZ 41 0] [1,39,40,41] (.block 0 (.loop (oS [bT 42 .lss 41 40] [1,39,40,41,42] (sQ (cD 42 .skip (.exit 0)) WS))))) (oR [mC 2 (.b true)] [2])
def qD:IC:=sQ (oS [fA 5 1 0,l1 6 5,bZ 7 .lss 6 1,m1 8 7,CG 9 8 1 0,CM 10 8 9,Dv 11 8 .gtr 10 6,pO 12 8 11,m1 13 12,CG 14 13 1 1,CM 15 13 14,Dv 16 13 .neq 15 0,Bn 17 13 16,D0 18 17 1 0,Dm 19 17 18,D0 20 17 1 1,Dm 21 17 20,gT 22 17 (.call 210 [.t 19,.t 21]),gT 23 17 (.not (.t 22)),gF 24 13 (.pick (.t 17) (.t 23) (.c (.b false))),pO 25 13 24,m1 26 25,CG 27 26 1 3,CM 28 26 27,gF 29 26 (.lenL (.t 28)),Dv 30 26 .lss 29 1,pO 31 26 30,m1 32 31,CG 33 32 1 3,CM 34 32 33,gF 35 32 (.lenL (.t 34)),Dv 36 32 .gtr 35 4,pO 37 32 36] [1,37] (cD 37 (oR [mC 2 (.b false)] [2]) .skip)) mJ
def kX:IC:=oS [bX 1 0,mC 2 (.b false)] [1] qD
def Apn:List R:=[.t 2]
def Axp:=Ao Y2.eq_1<|Ao WS.eq_1<|Ao mJ.eq_1<|Ao qD.eq_1<|AJ kX.eq_1
theorem Akt:Ar π 178 64 kX Apn=true:=by kernel_rfl
def tM:IC:=oS [bX 1 0,mC 2 (.b false)] [1] (oR [lA 3 1 4,q1 4 178 3,nT 5 4,m1 2 5] [2])
def Anb:List R:=[.t 2]
def AwS:=AJ tM.eq_1
theorem AiC:Ar π 177 6 tM Anb=true:=by kernel_rfl
def Wv:IC:=sQ (oS [m1 12 5,nL 13 12,bZ 14 .eql 13 0,m1 15 14,Bn 16 15 5,gF 17 15 (.calls 176 [.t 16,.c (.fn 177 [] [])]),pO 18 15 17] [0,3,5,6,7,8,18] (cD 18 (oR [mC 2 (.b false)] [2]) .skip)) (oP [m1 19 3,m1 20 5,nL 21 20,bT 22 .add 19 21,m1 3 22] [0,3,6,7,8])
def mS:IC:=oS [bT 9 .lss 8 7] [0,3,6,7,8,9] (sQ (cD 9 .skip (.exit 0)) (sQ (.block 1 (oS [iA 10 6 8 119 1,l1 11 10,m1 5 11] [0,3,5,6,7,8] Wv)) (oP [bZ 23 .add 8 1,m1 8 23] [0,3,6,7,8])))
def gR:IC:=sQ (oS [m1 6 0,nL 7 6,mZ 8 0] [0,3,6,7,8] (.block 0 (.loop mS))) (oR [m1 24 0,nL 25 24,bZ 26 .gtr 25 0,m1 27 26,B0 28 27 3,Dn 29 27 .leq 28 6,pA 30 27 29,m1 2 30] [2])
def d5:IC:=oS [mC 2 (.b false)] [0] (oS [mZ 3 0] [0,3] gR)
def AnX:List R:=[.t 2]
def AwC:=Ao Wv.eq_1<|Ao mS.eq_1<|Ao gR.eq_1<|AJ d5.eq_1
theorem AiD:Ar π 140 31 d5 AnX=true:=by kernel_rfl
def qT:IC:=oR [l1 4 1,fA 5 2 0,l1 6 5,bT 7 .geq 4 6,m1 8 7,Dm 9 8 1,D0 10 8 2 1,Dm 11 8 10,gT 12 8 (.bin .leq (.t 9) (.t 11)),pA 13 8 12,m1 3 13] [3]
def mO:IC:=oS [bX 2 0,mC 3 (.b false)] [1,2] qT
def AqB:List R:=[.t 3]
def Axw:=Ao qT.eq_1<|AJ mO.eq_1
theorem Air:Ar π 256 14 mO AqB=true:=by kernel_rfl
def sI:IC:=oS [bX 3 1,mC 4 (.b false)] [0,3] (oR [m1 5 0,o1 6 (.mkfn 256 [] [.t 3]),o1 7 (.calls 255 [.t 5,.t 6]),m1 4 7] [4])
def AoB:List R:=[.t 4]
def Axl:=AJ sI.eq_1
theorem Akh:Ar π 240 8 sI AoB=true:=by kernel_rfl
def Wt:IC:=sQ (.ops [fA 25 2 3,l1 26 25,m1 27 5,q2 28 240 26 27,fA 29 2 2,l1 30 29,o1 31 (.eqb true (.t 28) (.t 30)),m1 4 31] [4] [[0,1],[1,3],[2,3],[4,5],[3,6],[5,6],[6,7]]) .ret
def vN:IC:=oS [m1 8 1,fA 9 2 0,l1 10 9,q2 11 239 8 10,m1 7 11,xT 12 7 0,xT 13 7 1,m1 5 12,m1 6 13] [2,5,6] (sQ (oS [m1 14 6,bZ 15 .neq 14 0] [2,5,15] (cD 15 (oR [fA 16 2 2,l1 17 16,m1 4 17] [4]) .skip)) (sQ (oS [fA 18 2 1,l1 19 18,bZ 20 .neq 19 0] [2,5,20] (cD 20 (oP [m1 21 5,fA 22 2 1,l1 23 22,bT 24 .rem 21 23,m1 5 24] [2,5]) .skip)) Wt))
def r8:IC:=oS [bX 2 0,mC 4 (.b false)] [1,2] vN
def Aob:List R:=[.t 4]
def Axh:=Ao Wt.eq_1<|Ao vN.eq_1<|AJ r8.eq_1
theorem Akg:Ar π 215 32 r8 Aob=true:=by kernel_rfl
def fL:IC:=oS [bX 2 0,mC 3 (.b false)] [1,2] (oR [lA 4 2 4,l1 5 1,q2 6 215 4 5,nT 7 6,m1 3 7] [3])
def AqM:List R:=[.t 3]
def AxA:=AJ fL.eq_1
theorem AjP:Ar π 214 8 fL AqM=true:=by kernel_rfl
def uS:IC:=oS [mC 3 (.b false)] [0,1] (oR [m1 4 0,o1 5 (.mkfn 214 [] [.t 1]),o1 6 (.calls 176 [.t 4,.t 5]),nT 7 6,m1 3 7] [3])
def AnF:List R:=[.t 3]
def Awn:=AJ uS.eq_1
theorem AjJ:Ar π 213 8 uS AnF=true:=by kernel_rfl
def t6:IC:=sQ (oS [m1 6 0,q1 7 140 6,nT 8 7,m1 9 8,CM 10 9 3,gF 11 9 (.call 97 [.t 10]),gF 12 9 (.not (.t 11)),pO 13 9 12] [0,3,13] (cD 13 (oR [mC 4 (.b false),mZ 5 1] [4,5]) .skip)) (oR [m1 14 0,o1 15 (.mkfn 213 [] [.t 3]),o1 16 (.calls 212 [.t 14,.t 15]),m1 4 16,mZ 5 0] [4,5])
def nR:IC:=oS [bX 3 1,mC 4 (.b false),mZ 5 0] [0,3] t6
def AoQ:List R:=[.t 4,.t 5]
def Awp:=Ao t6.eq_1<|AJ nR.eq_1
theorem AiP:Ar π 180 17 nR AoQ=true:=by kernel_rfl
def fK:IC:=oR [o1 1 (.build [.s [],.s [],.s [],.s [],.s [],.s []] [(0,1,.c (.s [122,101,114,111])),(1,1,.c (.s [111,110,101])),(2,1,.c (.s [116,119,111])),(3,1,.c (.s [102,101,119])),(4,1,.c (.s [109,97,110,121])),(5,1,.c (.s [111,116,104,101,114]))]),sT 0 1 6] [0]
def pR:IC:=oS [o1 0 (.alloc (.agg [.s [],.s [],.s [],.s [],.s [],.s []]))] [0] fK
def Anm:List R:=[.c 0 6 true]
def Aw2:=Ao fK.eq_1<|AJ pR.eq_1
theorem AkY:Ar π 174 2 pR Anm=true:=by kernel_rfl
def lO:IC:=oS [o1 4 (.call 174 []),o1 3 (.alloc (.agg [.s [],.s [],.s [],.s [],.s [],.s []])),sT 3 4 6] [0,3] (oR [o1 5 (.frz (.t 3) 6),m1 6 0,q2 7 175 5 6,m1 2 7] [2])
def xD:IC:=oS [mC 2 (.b false)] [0] lO
def AnC:List R:=[.t 2]
def AwX:=Ao lO.eq_1<|AJ xD.eq_1
theorem Ahj:Ar π 139 8 xD AnC=true:=by kernel_rfl
def lC:IC:=oS [bX 2 0,mC 3 (.b false)] [1,2] (oR [fA 4 2 0,l1 5 4,fA 6 1 0,l1 7 6,bT 8 .eql 5 7,m1 3 8] [3])
def Asb:List R:=[.t 3]
def AwG:=AJ lC.eq_1
theorem AkM:Ar π 142 9 lC Asb=true:=by kernel_rfl
def VH:IC:=oS [fA 12 4 0,l1 13 12,q1 14 139 13,nT 15 14,m1 16 15,CG 17 16 4 0,CM 18 16 17,gF 19 16 (.bin .eql (.t 18) (.c (.s [111,116,104,101,114]))),pO 20 16 19,m1 21 20,CG 22 21 4 1,CM 23 21 22,gF 24 21 (.call 140 [.t 23]),gF 25 21 (.not (.t 24)),pO 26 21 25,m1 27 26,Bn 28 27 0,Bn 29 27 3,gF 30 27 (.slL (.t 28) none (some (.t 29)) 2),gF 31 27 (.mkfn 142 [] [.t 4]),gF 32 27 (.calls 141 [.t 30,.t 31]),pO 33 27 32] [0,5,6,7,33] (cD 33 (oR [mC 2 (.b false)] [2]) .skip)
def Yq:IC:=sQ (.block 1 (oS [m1 9 7,iA 10 5 7 96 2,lA 11 10 2,o1 4 (.alloc (.agg [.s [],.nil])),m1 3 9,sT 4 11 2] [0,3,4,5,6,7] VH)) (oP [bZ 34 .add 7 1,m1 7 34] [0,5,6,7])
def dK:IC:=sQ (oS [m1 5 0,nL 6 5,mZ 7 0] [0,5,6,7] (.block 0 (.loop (oS [bT 8 .lss 7 6] [0,5,6,7,8] (sQ (cD 8 .skip (.exit 0)) Yq))))) (oR [mC 2 (.b true)] [2])
def wF:IC:=oS [mC 2 (.b false)] [0] dK
def Asa:List R:=[.t 2]
def AwK:=Ao VH.eq_1<|Ao Yq.eq_1<|Ao dK.eq_1<|AJ wF.eq_1
theorem AkP:Ar π 101 35 wF Asa=true:=by kernel_rfl
def X3:IC:=cD 42 (oR [m1 45 12,mC 4 (.s []),m1 5 45] [4,5]) (oS [m1 47 11,m1 46 47] [1,10,29,30,31,46] (cD 46 (oR [fA 48 10 0,l1 49 48,m1 4 49,mZ 5 0] [4,5]) .skip))
def W5:IC:=oS [fA 36 10 1,l1 37 36,m1 38 1,q2 39 180 37 38,m1 35 39,xT 40 35 0,xT 41 35 1,m1 11 40,m1 12 41] [1,10,11,12,29,30,31] (.block 2 (oS [m1 43 12,bZ 44 .neq 43 0,m1 42 44] [1,10,11,12,29,30,31,42] X3))
def Yy:IC:=sQ (.block 1 (oS [iA 33 29 31 96 2,lA 34 33 2,o1 10 (.alloc (.agg [.s [],.nil])),sT 10 34 2] [1,10,29,30,31] W5)) (oP [bZ 50 .add 31 1,m1 31 50] [1,29,30,31])
def Xx:IC:=sQ (oS [m1 29 0,nL 30 29,mZ 31 0] [1,29,30,31] (.block 0 (.loop (oS [bT 32 .lss 31 30] [1,29,30,31,32] (sQ (cD 32 .skip (.exit 0)) Yy))))) (oR [mC 4 (.s [111,116,104,101,114]),mZ 5 0] [4,5])
def Xi:IC:=sQ (oS [m1 22 6,m1 23 1,q2 24 180 22 23,m1 21 24,xT 25 21 0,xT 26 21 1,m1 7 25,m1 8 26] [0,1,8] (oS [m1 27 8,bZ 28 .neq 27 0] [0,1,28] (cD 28 (oR [mC 4 (.s []),mZ 5 1] [4,5]) .skip))) Xx
def lT:IC:=oS [o1 16 (.build [.i .i64 0,.i .i64 0] []),o1 17 (.msl false 185 2 [.t 16]),o1 18 (.build [.i .i64 0,.i .i64 0,.b false,.nil] [(0,1,ci 2),(2,1,.c (.b true)),(3,1,.t 17)]),o1 19 (.msl false 122 4 [.t 18]),o1 20 (.msl false 119 1 [.t 19]),m1 6 20] [0,1,6] Xi
def uP:IC:=oS [mC 4 (.s []),mZ 5 0] [0,1] (sQ (oS [m1 13 0,q1 14 101 13,nT 15 14] [0,1,15] (cD 15 (oR [mC 4 (.s []),mZ 5 1] [4,5]) .skip)) lT)
def Aoa:List R:=[.t 4,.t 5]
def AwN:=Ao X3.eq_1<|Ao W5.eq_1<|Ao Yy.eq_1<|Ao Xx.eq_1<|Ao Xi.eq_1<|Ao lT.eq_1<|AJ uP.eq_1
theorem UO:Ar π 145 51 uP Aoa=true:=by kernel_rfl
def VN:IC:=sQ (.block 1 (oS [m1 12 0,m1 13 5,iA 14 12 13 3 1,l1 15 14,m1 16 1,bT 17 .eql 15 16] [0,1,5,17] (cD 17 (oR [mC 4 (.b true)] [4]) .skip))) (oP [m1 10 5,bZ 11 .add 10 1,m1 5 11] [0,1,5])
def yU:IC:=sQ (oS [mZ 5 0] [0,1,5] (.block 0 (.loop (sQ (oS [m1 6 5,m1 7 0,nL 8 7,bT 9 .lss 6 8] [0,1,5,9] (cD 9 .skip (.exit 0))) VN)))) (oR [mC 4 (.b false)] [4])
def yM:IC:=oS [mC 4 (.b false)] [0,1] yU
def Aoz:List R:=[.t 4]
def Awo:=Ao VN.eq_1<|Ao yU.eq_1<|AJ yM.eq_1
theorem kP:Ar π 126 18 yM Aoz=true:=by kernel_rfl
def Wm:IC:=sQ (oS [bZ 9 .eql 3 5,m1 8 9] [3,8] (cD 8 .skip (oP [bZ 10 .eql 3 6,m1 8 10] [8]))) (cD 8 (oR [o1 11 (.msl false 3 1 [ci 10,ci 100]),m1 2 11] [2]) .skip)
def tV:IC:=.block 0 (sQ (oS [bZ 5 .eql 3 1,m1 4 5] [3,4] (cD 4 .skip (oP [bZ 6 .eql 3 2,m1 4 6] [3,4]))) (cD 4 (oR [o1 7 (.msl false 3 1 [ci 2,ci 3,ci 4,ci 5,ci 6,ci 10,ci 20,ci 25,ci 50,ci 100]),m1 2 7] [2]) Wm))
def yD:IC:=oS [mC 2 .nil] [0] (sQ (oS [m1 3 0] [3] tV) (oR [mC 2 .nil] [2]))
def Am9:List R:=[.t 2]
def Axz:=Ao Wm.eq_1<|Ao tV.eq_1<|AJ yD.eq_1
theorem N9:Ar π 127 12 yD Am9=true:=by kernel_rfl
def fH:IC:=oS [mZ 2 0] [0] (sQ (oS [m1 3 0,bZ 4 .eql 3 3,m1 5 4,Bn 6 5 0,Dv 7 5 .eql 6 4,pO 8 5 7] [8] (cD 8 (oR [mZ 2 6] [2]) .skip)) (oR [mZ 2 100] [2]))
def AqK:List R:=[.t 2]
def Aw1:=AJ fH.eq_1
theorem Akc:Ar π 128 9 fH AqK=true:=by kernel_rfl
def p4:IC:=sQ (.ops [fA 51 4 0,l1 52 51,bZ 53 .lss 52 0,m1 54 53,CG 55 54 4 0,CM 56 54 55,CG 57 54 4 1,CM 58 54 57,gF 59 54 (.bin .gtr (.t 56) (.t 58)),pO 60 54 59,m1 61 60,CG 62 61 4 1,CM 63 61 62,CG 64 61 1 0,CM 65 61 64,gF 66 61 (.call 128 [.t 65]),gF 67 61 (.bin .gtr (.t 63) (.t 66)),pO 68 61 67] [1,3,68] [[0,1],[1,2],[2,3],[3,4],[3,5],[4,5],[3,6],[3,7],[6,7],[3,8],[5,8],[7,8],[3,9],[8,9],[9,10],[10,11],[10,12],[11,12],[10,13],[10,14],[13,14],[10,15],[14,15],[10,16],[12,16],[15,16],[10,17],[16,17]]) (cD 68 (oR [mC 2 (.b false)] [2]) .skip)
def qB:IC:=sQ (.block 1 (oS [fA 46 1 3,l1 47 46,m1 48 3,iA 49 47 48 185 2,lA 50 49 2,o1 4 (.alloc (.agg [.i .i64 0,.i .i64 0])),sT 4 50 2] [1,3,4] p4)) (oP [m1 44 3,bZ 45 .add 44 1,m1 3 45] [1,3])
def Agh:IC:=sQ (oS [mZ 3 0] [1,3] (.block 0 (.loop (sQ (oS [m1 39 3,fA 40 1 3,l1 41 40,nL 42 41,bT 43 .lss 39 42] [1,3,43] (cD 43 .skip (.exit 0))) qB)))) (oR [mC 2 (.b true)] [2])
def Ag4:IC:=sQ (sQ (.ops [fA 5 1 0,l1 6 5,bZ 7 .lss 6 1,m1 8 7,CG 9 8 1 0,CM 10 8 9,Dv 11 8 .gtr 10 6,pO 12 8 11,m1 13 12,CG 14 13 1 1,CM 15 13 14,Dv 16 13 .neq 15 0,Bn 17 13 16,D0 18 17 1 0,Dm 19 17 18,gT 20 17 (.call 127 [.t 19]),D0 21 17 1 1,Dm 22 17 21,gT 23 17 (.call 126 [.t 20,.t 22]),gT 24 17 (.not (.t 23)),gF 25 13 (.pick (.t 17) (.t 24) (.c (.b false))),pO 26 13 25,m1 27 26,CG 28 27 1 3,CM 29 27 28,gF 30 27 (.lenL (.t 29)),Dv 31 27 .lss 30 1,pO 32 27 31,m1 33 32,CG 34 33 1 3,CM 35 33 34,gF 36 33 (.lenL (.t 35)),Dv 37 33 .gtr 36 4,pO 38 33 37] [1,38] [[0,1],[1,2],[2,3],[3,4],[3,5],[4,5],[3,6],[5,6],[3,7],[6,7],[7,8],[8,9],[8,10],[9,10],[8,11],[10,11],[8,12],[11,12],[12,13],[12,14],[13,14],[12,15],[14,15],[12,16],[12,17],[16,17],[12,18],[15,18],[17,18],[12,19],[18,19],[8,20],[12,20],[19,20],[8,21],[20,21],[21,22],[22,23],[22,24],[23,24],[22,25],[24,25],[22,26],[25,26],[22,27],[26,27],[27,28],[28,29],[28,30],[29,30],[28,31],[30,31],[28,32],[31,32],[28,33],[32,33]]) (cD 38 (oR [mC 2 (.b false)] [2]) .skip)) Agh
def AdR:IC:=oS [bX 1 0,mC 2 (.b false)] [1] Ag4
def Atp:List R:=[.t 2]
def Azg:=Ao p4.eq_1<|Ao qB.eq_1<|Ao Agh.eq_1<|Ao Ag4.eq_1<|AJ AdR.eq_1
theorem Aqd:Ar π 90 69 AdR Atp=true:=by kernel_rfl
def eW:IC:=oS [m1 29 0,m1 30 4,iA 31 29 30 119 1,l1 32 31,m1 33 5,iA 34 32 33 122 4,lA 35 34 4,q1 36 90 35,nT 37 36] [0,3,4,5,37] (cD 37 (oR [mC 2 (.b false)] [2]) .skip)
def vW:IC:=sQ (oS [m1 18 5,m1 19 0,m1 20 4,iA 21 19 20 119 1,l1 22 21,nL 23 22,bT 24 .lss 18 23] [0,3,4,5,24] (cD 24 .skip (.exit 2))) (sQ (.block 3 (oS [m1 27 3,bZ 28 .add 27 1,m1 3 28] [0,3,4,5] eW)) (oP [m1 25 5,bZ 26 .add 25 1,m1 5 26] [0,3,4,5]))
def wU:IC:=sQ (.block 1 (sQ (oS [m1 12 0,m1 13 4,iA 14 12 13 119 1,l1 15 14,nL 16 15,bZ 17 .eql 16 0] [0,3,4,17] (cD 17 (oR [mC 2 (.b false)] [2]) .skip)) (oS [mZ 5 0] [0,3,4,5] (.block 2 (.loop vW))))) (oP [m1 10 4,bZ 11 .add 10 1,m1 4 11] [0,3,4])
def Ae4:IC:=oS [mZ 3 0] [0,3] (sQ (oS [mZ 4 0] [0,3,4] (.block 0 (.loop (sQ (oS [m1 6 4,m1 7 0,nL 8 7,bT 9 .lss 6 8] [0,3,4,9] (cD 9 .skip (.exit 0))) wU)))) (oR [m1 38 0,nL 39 38,bZ 40 .gtr 39 0,m1 41 40,B0 42 41 3,Dn 43 41 .leq 42 6,pA 44 41 43,m1 2 44] [2]))
def AfY:IC:=oS [mC 2 (.b false)] [0] Ae4
def AvQ:List R:=[.t 2]
def AyB:=Ao eW.eq_1<|Ao vW.eq_1<|Ao wU.eq_1<|Ao Ae4.eq_1<|AJ AfY.eq_1
theorem Am8:Ar π 62 45 AfY AvQ=true:=by kernel_rfl
def AgX:IC:=oR [o1 1 (.msl false 9 1 [.c (.s [122,101,114,111]),.c (.s [111,110,101]),.c (.s [116,119,111]),.c (.s [102,101,119]),.c (.s [109,97,110,121])]),m1 0 1] [0]
def Ae1:IC:=oS [mC 0 .nil] [] AgX
def AvF:List R:=[.t 0]
def AyJ:=Ao AgX.eq_1<|AJ Ae1.eq_1
theorem AoZ:Ar π 61 2 Ae1 AvF=true:=by kernel_rfl
attribute[push_cast]Apb Aww AnE Aw7 Apn Axp Anb AwS AnX AwC AqB Axw AoB Axl Aob Axh AqM AxA AnF Awn AoQ Awp Anm Aw2 AnC AwX Asb AwG Asa AwK Aoa AwN Aoz Awo Am9 Axz AqK Aw1 Atp Azg AvQ AyB AvF AyJ
end Go.Ir

namespace Go.Ir
open Go.Proofs
variable(O:World)
def modsL:List Int:=[2,3,4,5,6,10,20,25,50,100]
theorem uD l (v:Int):decide (BT (λx=>v==x) l>=0)=l.contains v:=by rw[G2,List.contains_eq_any_beq]
theorem AqY:Ar π 252 19 (RX 3) AaL=true:=by kernel_rfl
theorem Apx:Ar π 237 9 (W7 252) Ajr=true:=by kernel_rfl
theorem Sv(l:List Int) v(a:l.length<2^62):An π O 237 [.sl (l.map (V.i .i64)),.i .i64 v] [] (.b (l.contains v)) []:=by rw[<-uD];exact I2 O Apx _ _ _ (UV O AqY l v a)
def Hl(a mod:Int):Bool:=if a==1||a==2 then modsL.contains mod else if a==5||a==6 then mod==10||mod==100 else false
theorem SV d mod:An π O 210 [.i .i64 d,.i .i64 mod] [] (.b (Hl d mod)) []:=by
 have a:=Sv O modsL mod (by decide);unfold modsL at a;simp only[Am1,Asz] at a;generalize hS:Hl d mod=S;unfold Hl modsL at hS;refine Ah (vs:=[.b S]) Ajf (by simp) (by simp) λn0 c=>?_;clear c;simp only[push_cast,seval,rq]
 repeat' (first|(((first|apply Ac|apply Af|apply Ag)<;>intro _h)<;>(simp only[push_cast,seval,rq,_h];try (have _g:=_h;simp at _g)))|(refine Ab (by exact a) ?_;simp only[push_cast,seval,rq])|intro _)
 all_goals subst hS
 all_goals (first|(refine Ae ?_;simp[get, *]<;>(intros;omega);done)|(refine Ai ?_;simp[push_cast,get, *];done)|skip)
def Ug(a:Int):Int:=if a==3||a==4 then 6 else 100
theorem Ui b:An π O 211 [.i .i64 b] [] (.i .i64 (Ug b)) []:=by
 generalize hS:Ug b=S;unfold Ug at hS;refine Ah (vs:=[.i .i64 S]) Aj2 (by simp) (by simp) λn0 a=>?_;clear a;simp only[push_cast,seval,rq]
 repeat' (first|(((first|apply Ac|apply Af|apply Ag)<;>intro _h)<;>(simp only[push_cast,seval,rq,_h];try (have _g:=_h;simp at _g)))|intro _)
 all_goals subst hS
 all_goals (first|(refine Ae ?_;simp[get, *]<;>(intros;omega);done)|(refine Ai ?_;simp[push_cast,get, *];done)|skip)
def Mt(a:Int)(s:Hi):Bool:=!(decide (s.lo<0)||decide (s.lo>s.hi)||decide (s.hi>Ug a))
def CK(r:Fq):Bool:=!(decide (r.op<1)||decide (r.op>6)||(r.mod !=0&&!Hl r.op r.mod)||decide ((r.spans.length:Int)<1)||decide ((r.spans.length:Int)>4))&&r.spans.all (Mt r.op)
theorem lJ r (g:r.spans.length<=2^30):An π O 178 [r.enc] [] (.b (CK r)) []:=by
 generalize hS:CK r=S;unfold CK at hS;rw[Fq.enc_eq];refine Ah (vs:=[.b S]) Akt (by simp) (by simp) λn0 e=>?_;clear e;simp only[push_cast,seval,rq]
 repeat' (first|(((first|apply Ac|apply Af|apply Ag)<;>intro _h)<;>(simp only[push_cast,seval,rq,_h];try (have _g:=_h;simp at _g)))|(refine Ab (by exact SV O _ _) ?_;simp only[push_cast,seval,rq])|intro _)
 all_goals (first|(refine Ae ?_;subst hS;simp[get, *];done)|skip)
 all_goals
  have c:r.spans.all (Mt r.op)=S:=by subst hS;simp[*]
  clear hS;refine Ak r.spans.length (Inv:=λm st=>∃dn a n,r.spans=dn++a/\m=a.length/\a.all (Mt r.op)=S/\st=⟨[(1,.ref (n0,1) 0),(39,.sl (r.spans.map Hi.enc)),(40,.i .i64 r.spans.length),(41,.i .i64 dn.length)],[((n0,1),.box r.enc)],n⟩) ⟨_,Aj.refl,[],_,_,rfl,rfl,c,rfl⟩ ?_;clear c;rintro m _ ⟨dn,a,n,d,rfl,c,rfl⟩;cases a with
  | nil=>
   simp only[push_cast,seval,rq,d]
   repeat' (first|(((first|apply Ac|apply Af|apply Ag)<;>intro _h)<;>(simp only[push_cast,seval,rq,_h];try (have _g:=_h;simp at _g)))|intro _)
   all_goals (first|(refine Ae ?_;simp[get,<-c]<;>(intros;omega);done)|(refine Ai ?_;simp[push_cast,get,<-c];done)|skip)
  | cons s a=>
   have f:=Ay d;rw[Ax5,Mt] at c;simp only[push_cast,seval,rq,d,Aa s (dn:=dn) (by omega)]
   repeat' (first|(((first|apply Ac|apply Af|apply Ag)<;>intro _h)<;>(simp only[push_cast,seval,rq,_h,d,Aa s (dn:=dn) (by omega)];try (have _g:=_h;simp at _g)))|(refine Ab (by exact Ui O r.op) ?_;simp only[push_cast,seval,rq,d,Aa s (dn:=dn) (by omega)])|intro _)
   all_goals (first|(exact⟨_,_,Adx _,Aj.drop1 (by simp[lk]) (AfJ _),dn++[s],a,_,by simp,rfl,by rw[<-c];simp[*],rfl⟩)|skip)
   all_goals subst c
   all_goals (first|(refine Ae ?_;simp[get, *]<;>(intros;omega);done)|(refine Ai ?_;simp[push_cast,get, *];done)|skip)
theorem uZ r (c:r.spans.length<=2^30):An π O 177 [r.enc] [] (.b (!CK r)) []:=by
 have h:=lJ O r c;rw[Fq.enc_eq] at *;refine Ah (vs:=[.b (!CK r)]) AiC (by simp) (by simp) λn0 a=>?_;clear a;simp only[push_cast,seval,rq]
 repeat' (first|(((first|apply Ac|apply Af|apply Ag)<;>intro _h)<;>(simp only[push_cast,seval,rq,_h];try (have _g:=_h;simp at _g)))|(refine Ab (by exact h) ?_;simp only[push_cast,seval,rq])|intro _)
 all_goals (first|(refine Ae ?_;simp[get]<;>(intros;omega);done)|(refine Ai ?_;simp[push_cast,get];done)|skip)
theorem Ar2:Ar π 209 19 (Me 122 4 true) Z2=true:=by kernel_rfl
theorem Aps:Ar π 176 9 (Pa 209) gJ=true:=by kernel_rfl
theorem qJ(l:List Fq) p g a σ (c:∀r∈l,An π O g ([r.enc]++a) σ (.b (p r)) σ)(d:l.length<2^62) :
  An π O 176 [.sl (l.map Fq.enc),.fn g [] a] σ (.b (l.any p)) σ:=by
 rw[<-G2];exact Dd O Aps _ _ _ _ (Dr O Ar2 Fq.enc l p g [] a σ (λx _=>Jl rfl) (λr e=>c r e) d)
def HP(c:List (List Fq)):Int:=(c.map λl=>(l.length:Int)).sum
theorem Kl l c:HP (l::c)=l.length+HP c:=by simp[HP]
def Jq(l:List Fq):Bool:=!((l.length:Int)==0||l.any λr=>!CK r)
def EU(c:List (List Fq)):Bool:=c.all Jq&&(decide ((c.length:Int)>0)&&decide (HP c<=6))
theorem LR c:0<=HP c/\HP c<=D8 c:=by
 induction c with
 | nil=>simp[HP]
 | cons l c a=>have:=Eq l;rw[Kl,D8];omega
theorem WW c (y:D8 c<=2^30):An π O 140 [.sl (c.map Ei)] [] (.b (EU c)) []:=by
 generalize hS:EU c=S;unfold EU at hS;have q:=GS c;have x:=LR c;refine Ah (vs:=[.b S]) AiD (by simp) (by simp) λn0 o=>?_;clear o;simp only[push_cast,seval,rq];intros;refine Ak c.length (Inv:=λm st=>∃dn a n d,c=dn++a/\m=a.length/\(a.all Jq&&(decide ((c.length:Int)>0)&&decide (d+HP a<=6)))=S/\0<=d/\d+HP a=HP c/\st=⟨[(0,.sl (c.map Ei)),(3,.i .i64 d),(6,.sl (c.map Ei)),(7,.i .i64 c.length),(8,.i .i64 dn.length)],[],n⟩) ⟨_,Aj.refl,[],_,_,0,rfl,rfl,by rw[Int.zero_add];exact hS,by omega,by omega,rfl⟩ ?_;clear hS;rintro m _ ⟨dn,a,n,d,e,rfl,f,t,k,rfl⟩;cases a with
 | nil=>
  rw[show HP []=0 from rfl,Int.add_zero] at f;simp only[push_cast,seval,rq,e];rw[AmY] at e
  repeat' (first|(((first|apply Ac|apply Af|apply Ag)<;>intro _h)<;>(simp only[push_cast,seval,rq,_h];try (have _g:=_h;simp at _g)))|intro _)
  all_goals subst f
  all_goals subst e
  all_goals (first|(refine Ae ?_;simp[get, *]<;>(intros;omega);done)|(refine Ai ?_;simp[push_cast,get, *];done)|skip)
 | cons l a=>
  have s:=Ay e;have z:=GP (l:=c) (r:=l) (by rw[e];simp);have u:=Eq l;rw[Ax5] at f;rw[Kl] at f k;have w:=LR a;have h:IntKind.i64.wrap (d+(l.length:Int))=d+(l.length:Int):=wrap64 (by omega) (by omega);have p:=qJ O l (λr=>!CK r) 177 [] [] (λr v=>uZ O r (by have:=GM v;rw[Fq.wt] at this;omega)) (by omega);obtain⟨A,j⟩:∃A,(l.any λr=>!CK r)=A:=⟨_,rfl⟩
  have g:Jq l=!((l.length:Int)==0||A):=by unfold Jq;rw[j]
  rw[j] at p;rw[g] at f;clear j g;simp only[push_cast,seval,rq,e,Aa l (dn:=dn) (by omega),h]
  repeat' (first|(((first|apply Ac|apply Af|apply Ag)<;>intro _h)<;>(simp only[push_cast,seval,rq,_h,e,Aa l (dn:=dn) (by omega),h];try (have _g:=_h;simp at _g)))|intro _)
  all_goals (try (refine p7 p ?_;simp only[push_cast,seval,rq]))
  repeat' (first|(((first|apply Ac|apply Af|apply Ag)<;>intro _h)<;>(simp only[push_cast,seval,rq,_h,e,Aa l (dn:=dn) (by omega),h];try (have _g:=_h;simp at _g)))|intro _)
  all_goals (first|(exact⟨_,_,Adx _,Aj.refl,dn++[l],a,_,_,by simp,rfl,by rw[<-f,e,Int.add_assoc];simp[*],by omega,by rw[<-e];omega,rfl⟩)|skip)
  all_goals subst f
  all_goals (first|(refine Ae ?_;simp[get, *]<;>(intros;omega);done)|(refine Ai ?_;simp[push_cast,get, *];done)|skip)
def inB(l:List Hi)(n:Int):Bool:=l.any λs=>decide (n>=s.lo)&&decide (n<=s.hi)
theorem AiF:Ar π 267 19 (Me 185 2 true) Z2=true:=by kernel_rfl
theorem Aml:Ar π 255 9 (Pa 267) gJ=true:=by kernel_rfl
theorem Apw(s:Hi) n a:An π O 256 [s.enc,.ref (a,3) 0] [((a,3),.box (.i .i64 n))] (.b (decide (n>=s.lo)&&decide (n<=s.hi))) [((a,3),.box (.i .i64 n))]:=by
 rw[Hi.enc_eq];refine Ah (vs:=[.b (decide (n>=s.lo)&&decide (n<=s.hi))]) Air (by simp) (λ_ h=>h) λn0 c=>?_;clear c;simp only[push_cast,seval,rq]
 repeat' (first|(((first|apply Ac|apply Af|apply Ag)<;>intro _h)<;>(simp only[push_cast,seval,rq,_h];try (have _g:=_h;simp at _g)))|intro _)
 all_goals (refine AC ?_ (C6 (by simp[lk]));simp[get, *])
theorem An5 l n (d:l.length<2^62):An π O 240 [.sl (l.map Hi.enc),.i .i64 n] [] (.b (inB l n)) []:=by
 unfold inB;refine Ah (vs:=[.b (l.any λs=>decide (n>=s.lo)&&decide (n<=s.hi))]) Akh (by simp) (by simp) λn0 a=>?_;clear a;simp only[push_cast,seval,rq];intro k1;have c:An π O 255 [.sl (l.map Hi.enc),.fn 256 [] [.ref (n0,3) 0]] [((n0,3),.box (.i .i64 n))] (.b (l.any λs=>decide (n>=s.lo)&&decide (n<=s.hi))) [((n0,3),.box (.i .i64 n))]:=by rw[<-G2];exact Dd O Aml _ _ _ _ (Dr O AiF Hi.enc l _ _ [] _ _ (λx _=>Jl rfl) (λs _=>Apw O s n n0) d)
 refine BJ c (λ_ _ h=>h) ?_;rw[Db];simp only[push_cast,seval,rq]
 repeat' (first|(((first|apply Ac|apply Af|apply Ag)<;>intro _h)<;>(simp only[push_cast,seval,rq,_h];try (have _g:=_h;simp at _g)))|intro _)
 all_goals (first|(refine Ae ?_;simp[get]<;>(intros;omega);done)|(refine Ai ?_;simp[push_cast,get];done)|skip)
def GG(r:Fq)(s:Ad):Bool:=
 if(opV s r.op).2 !=0 then r.neg else inB r.spans (if r.mod !=0 then(opV s r.op).1.tmod r.mod else(opV s r.op).1) !=r.neg
theorem AcL r (s:Ad)(d:s.length<=2^30)(c:r.spans.length<2^62):An π O 215 [r.enc,.s s] [] (.b (GG r s)) []:=by
 generalize hS:GG r s=S;unfold GG at hS;rw[Fq.enc_eq];refine Ah (vs:=[.b S]) Akg (by simp) (by simp) λn0 a=>?_;clear a;simp only[push_cast,seval,rq]
 repeat' (first|(((first|apply Ac|apply Af|apply Ag)<;>intro _h)<;>(simp only[push_cast,seval,rq,_h];try (have _g:=_h;simp at _g)))|((first|refine Ab (by exact AoG O s r.op (by omega)) ?_|refine Ab (by exact An5 O r.spans _ c) ?_);simp only[push_cast,seval,rq])|intro _)
 all_goals (try (simp only[push_cast,seval,rq,ne_eq,_g,AzK]))
 repeat' (first|(((first|apply Ac|apply Af|apply Ag)<;>intro _h)<;>(simp only[push_cast,seval,rq,_h];try (have _g:=_h;simp at _g)))|(refine Ab (by exact An5 O r.spans _ c) ?_;simp only[push_cast,seval,rq])|intro _)
 all_goals subst hS
 all_goals (refine Ae ?_;simp[get, *]<;>simp[bne])
theorem YC r (s:Ad) a (e:s.length<=2^30)(d:r.spans.length<2^62):An π O 214 [r.enc,.ref (a,3) 0] [((a,3),.box (.s s))] (.b (!GG r s)) [((a,3),.box (.s s))]:=by
 have h:=AcL O r s e d;rw[Fq.enc_eq] at *;refine Ah (vs:=[.b (!GG r s)]) AjP (by simp) (λ_ h=>h) λn0 c=>?_;clear c;simp only[push_cast,seval,rq]
 repeat' (first|(((first|apply Ac|apply Af|apply Ag)<;>intro _h)<;>(simp only[push_cast,seval,rq,_h];try (have _g:=_h;simp at _g)))|(refine Ab (by exact h) ?_;simp only[push_cast,seval,rq])|intro _)
 all_goals (refine AC ?_ (C6 (by simp[lk]));simp[get])
theorem tO l (s:Ad) a (f:s.length<=2^30)(g:CN l<=2^30):An π O 213 [Ei l,.ref (a,3) 0] [((a,3),.box (.s s))] (.b (!l.any λr=>!GG r s)) [((a,3),.box (.s s))]:=by
 have d:=Eq l;have h:=qJ O l (λr=>!GG r s) 214 [.ref (a,3) 0] [((a,3),.box (.s s))] (λr e=>YC O r s a f (by have:=GM e;rw[Fq.wt] at this;omega)) (by omega);rw[T2];generalize(l.any λr=>!GG r s)=A at h;refine Ah (vs:=[.b (!A)]) AjJ (by simp) (λ_ h=>h) λn0 c=>?_;clear c;simp only[push_cast,seval,rq]
 repeat' (first|(((first|apply Ac|apply Af|apply Ag)<;>intro _h)<;>(simp only[push_cast,seval,rq,_h];try (have _g:=_h;simp at _g)))|intro _)
 refine BJ h (λ_ _ h=>h) ?_;rw[Db];simp only[push_cast,seval,rq]
 repeat' (first|(((first|apply Ac|apply Af|apply Ag)<;>intro _h)<;>(simp only[push_cast,seval,rq,_h];try (have _g:=_h;simp at _g)))|intro _)
 all_goals (refine AC ?_ (λ_ _ h=>h);simp[get])
def SC(c:List (List Fq))(s:Ad):Bool:=c.any λl=>!l.any λr=>!GG r s
theorem AkA:Ar π 238 19 (Me 119 1 false) Z2=true:=by kernel_rfl
theorem AjT:Ar π 212 9 (Pa 238) gJ=true:=by kernel_rfl
theorem Xo c (s:Ad)(k:s.length<=2^30)(d:D8 c<=2^30):An π O 180 [.sl (c.map Ei),.s s] [] (.tup [.b (EU c&&DA s&&SC c s),.i .i64 (bif EU c&&DA s then 0 else 1)]) []:=by
 have j:=GS c;generalize e:SC c s=A;refine Ah (vs:=[.b (EU c&&DA s&&A),.i .i64 (bif EU c&&DA s then 0 else 1)]) AiP (by simp) (by simp) λn0 a=>?_;clear a;simp only[push_cast,seval,rq];intro k1;have f:An π O 212 [.sl (c.map Ei),.fn 213 [] [.ref (n0,3) 0]] [((n0,3),.box (.s s))] (.b A) [((n0,3),.box (.s s))]:=by rw[<-e,SC,<-G2];exact Dd O AjT _ _ _ _ (Dr O AkA Ei c _ _ [] _ _ (λx _=>uU rfl) (λl g=>tO O l s n0 k (AvD (GP g) d)) (by omega))
 repeat' (first|(((first|apply Ac|apply Af|apply Ag)<;>intro _h)<;>(simp only[push_cast,seval,rq,_h];try (have _g:=_h;simp at _g)))|((first|refine Ab (by exact WW O c d) ?_|refine Ab (by exact HD O s (by omega)) ?_);simp only[push_cast,seval,rq])|intro _)
 all_goals (try (refine BJ f (λ_ _ h=>h) ?_;rw[Db];simp only[push_cast,seval,rq]))
 repeat' (first|(((first|apply Ac|apply Af|apply Ag)<;>intro _h)<;>(simp only[push_cast,seval,rq,_h];try (have _g:=_h;simp at _g)))|intro _)
 all_goals (first|(refine Ae ?_;simp[get, *]<;>(intros;omega);done)|(refine Ai ?_;simp[push_cast,get, *];done)|skip)
def MC:Ad:=[111,116,104,101,114]
def kFive:List Ad:=[[122,101,114,111],[111,110,101],[116,119,111],[102,101,119],[109,97,110,121]]
def kSix:List Ad:=[[122,101,114,111],[111,110,101],[116,119,111],[102,101,119],[109,97,110,121],[111,116,104,101,114]]
theorem Ab5:An π O 174 [] [] (.agg (kSix.map V.s)) []:=by
 unfold kSix;simp only[Am1,Asz];refine Ah (vs:=[.agg [.s [122,101,114,111],.s [111,110,101],.s [116,119,111],.s [102,101,119],.s [109,97,110,121],.s [111,116,104,101,114]]]) AkY (by simp) (by simp) λn0 a=>?_;clear a;simp only[push_cast,seval,rq]
 repeat' (first|(((first|apply Ac|apply Af|apply Ag)<;>intro _h)<;>(simp only[push_cast,seval,rq,_h];try (have _g:=_h;simp at _g)))|intro _)
 all_goals (first|(refine Ae ?_;simp[get]<;>(intros;omega);done)|(refine Ai ?_;simp[push_cast,get];done)|skip)
theorem AeS:Ar π 144 19 (RX 9) AaL=true:=by kernel_rfl
theorem Anl:Ar π 175 9 (W7 144) Ajr=true:=by kernel_rfl
theorem Lq(l:List Ad)(v:Ad)(a:l.length<2^62):An π O 175 [.sl (l.map V.s),.s v] [] (.b (l.contains v)) []:=by rw[List.contains_eq_any_beq,<-G2];exact I2 O Anl _ _ _ (Mr O AeS l v a)
theorem Abs(s:Ad):An π O 139 [.s s] [] (.b (kSix.contains s)) []:=by
 have d:=Ab5 O;have a:=Lq O kSix s (by decide);generalize e:kSix.contains s=K at a;unfold kSix at d a;simp only[Am1,Asz] at d a;refine Ah (vs:=[.b K]) Ahj (by simp) (by simp) λn0 c=>?_;clear c;simp only[push_cast,seval,rq]
 repeat' (first|(((first|apply Ac|apply Af|apply Ag)<;>intro _h)<;>(simp only[push_cast,seval,rq,_h];try (have _g:=_h;simp at _g)))|(refine Ab (by exact d) ?_;simp only[push_cast,seval,rq])|intro _)
 repeat' (first|(((first|apply Ac|apply Af|apply Ag)<;>intro _h)<;>(simp only[push_cast,seval,rq,_h];try (have _g:=_h;simp at _g)))|(refine Ab (by exact a) ?_;simp only[push_cast,seval,rq])|intro _)
 all_goals (first|(refine Ae ?_;simp[get]<;>(intros;omega);done)|(refine Ai ?_;simp[push_cast,get];done)|skip)
def AhI(s:Ad):Bool:=kFive.contains s
theorem Abr s:(!kSix.contains s||s==MC)=!AhI s:=by unfold AhI kSix kFive MC;rw[Axn];simp;grind
def DD(dn:List AH):List AH->Bool
 | []=>true
 | r::a=>!(!AhI r.cls||!EU r.cond||dn.any λx=>x.cls==r.cls)&&DD (dn++[r]) a
theorem Al5:Ar π 179 19 (Me 96 2 true) Z2=true:=by kernel_rfl
theorem AjH:Ar π 141 9 (Pa 179) gJ=true:=by kernel_rfl
theorem Z1(x r:AH) a:An π O 142 [x.enc,.ref (a,4) 0] [((a,4),.box r.enc)] (.b (x.cls==r.cls)) [((a,4),.box r.enc)]:=by
 rw[AH.enc_eq,AH.enc_eq];refine Ah (vs:=[.b (x.cls==r.cls)]) AkM (by simp) (λ_ h=>h) λn0 c=>?_;clear c;simp only[push_cast,seval,rq]
 repeat' (first|(((first|apply Ac|apply Af|apply Ag)<;>intro _h)<;>(simp only[push_cast,seval,rq,_h];try (have _g:=_h;simp at _g)))|intro _)
 all_goals (refine AC ?_ (C6 (by simp[lk]));simp[get])
theorem Jt l (s:A9 l<=2^30):An π O 101 [.sl (l.map AH.enc)] [] (.b (DD [] l)) []:=by
 generalize hS:DD [] l=S;have k:=ED l;refine Ah (vs:=[.b S]) AkP (by simp) (by simp) λn0 g=>?_;clear g;simp only[push_cast,seval,rq];intros;refine Ak l.length (Inv:=λm st=>∃dn a n,l=dn++a/\m=a.length/\DD dn a=S/\st=⟨[(0,.sl (l.map AH.enc)),(5,.sl (l.map AH.enc)),(6,.i .i64 l.length),(7,.i .i64 dn.length)],[],n⟩) ⟨_,Aj.refl,[],_,_,rfl,rfl,hS,rfl⟩ ?_;clear hS;rintro m _ ⟨dn,a,n,d,rfl,c,rfl⟩;cases a with
 | nil=>
  rw[DD] at c;simp only[push_cast,seval,rq,d]
  repeat' (first|(((first|apply Ac|apply Af|apply Ag)<;>intro _h)<;>(simp only[push_cast,seval,rq,_h];try (have _g:=_h;simp at _g)))|intro _)
  subst c
  all_goals (first|(refine Ae ?_;simp[get]<;>(intros;omega);done)|(refine Ai ?_;simp[push_cast,get];done)|skip)
 | cons r a=>
  have o:=Ay d;have p:=E9 (l:=l) (r:=r) (by rw[d];simp);rw[AH.wt] at p;rw[DD,<-Abr] at c;unfold MC at c;have e:∀y∈List.map AH.enc (dn++r::a),(cells y).length=2:=by intro y q;obtain⟨x,_,rfl⟩:=Awt.1 q;rfl
  obtain⟨A,f⟩:∃A,(dn.any λx=>x.cls==r.cls)=A:=⟨_,rfl⟩;rw[f] at c;simp only[push_cast,seval,rq,d,Aa r (dn:=dn) (by omega),Amy e];intro k1 k2;have j:An π O 141 [.sl (dn.map AH.enc),.fn 142 [] [.ref (n+1+k1,4) 0]] [((n+1+k1,4),.box r.enc)] (.b A) [((n+1+k1,4),.box r.enc)]:=by rw[<-f,<-G2];exact Dd O AjH _ _ _ _ (Dr O Al5 AH.enc dn _ _ [] _ _ (λx _=>Jl rfl) (λx _=>Z1 O x r _) (by omega))
  clear f;rw[AH.enc_eq] at j
  repeat' (first|(((first|apply Ac|apply Af|apply Ag)<;>intro _h)<;>(simp only[push_cast,seval,rq,_h,d,Aa r (dn:=dn) (by omega),Amy e];try (have _g:=_h;simp at _g)))|((first|refine Ab (by exact Abs O r.cls) ?_|refine Ab (by exact WW O r.cond (by omega)) ?_);simp only[push_cast,seval,rq,d,Aa r (dn:=dn) (by omega),Amy e])|intro _)
  all_goals (try (refine BJ j (λ_ _ h=>h) ?_;rw[Db];simp only[push_cast,seval,rq]))
  repeat' (first|(((first|apply Ac|apply Af|apply Ag)<;>intro _h)<;>(simp only[push_cast,seval,rq,_h,d,Aa r (dn:=dn) (by omega),Amy e];try (have _g:=_h;simp at _g)))|intro _)
  all_goals (first|(exact⟨_,_,Adx _,Aj.drop1 (by simp[lk]) (AfJ _),dn++[r],a,_,by simp,rfl,by rw[<-c];simp[*],rfl⟩)|skip)
  all_goals subst c
  all_goals (first|(refine Ae ?_;simp[get, *]<;>(intros;omega);done)|(refine Ai ?_;simp[push_cast,get, *];done)|skip)
def O2(s:Ad):List AH->Ad
 | []=>MC
 | r::a=>bif SC r.cond s then r.cls else O2 s a
def Dh(l:List AH)(s:Ad):Ad×Int:=bif DD [] l&&DA s then(O2 s l,0) else([],1)
theorem Su{dn a}(h:DD dn a=true):∀r∈a,EU r.cond=true:=by
 induction a generalizing dn with
 | nil=>intro r b;cases b
 | cons x a c=>rw[DD] at h;grind
theorem Xc l (s:Ad)(t:s.length<=2^30)(j:A9 l<=2^30):An π O 145 [.sl (l.map AH.enc),.s s] [] (.tup [.s (Dh l s).1,.i .i64 (Dh l s).2]) []:=by
 generalize hS:Dh l s=S;have q:=ED l;unfold Dh at hS;have c:=Xo O [[⟨2,0,true,[⟨0,0⟩]⟩]] s t (by decide);rw[show EU [[⟨2,0,true,[⟨0,0⟩]⟩]]=true by decide,Amq] at c;simp only[Am1,Asz,T2,Fq.enc_eq,Hi.enc_eq] at c;generalize SC [[⟨2,0,true,[⟨0,0⟩]⟩]] s=w at c;rcases Ayd (DA s) with h|h
 all_goals (rw[h] at c hS;simp only[Amq,Amr,AmS,Am0,AzB,A0c] at c hS)
 .rcases Ayd (DD [] l) with f|f
  all_goals (rw[f] at hS;simp only[AzB,A0c] at hS;subst hS)
  .have o:=Su f;generalize hS:O2 s l=S;have g:=Jt O l j;rw[f] at g;refine Ah (vs:=[.s S,.i .i64 0]) UO (by simp) (by simp) λn0 b=>?_;clear b;simp only[push_cast,seval,rq]
   repeat' (first|(((first|apply Ac|apply Af|apply Ag)<;>intro _h)<;>(simp only[push_cast,seval,rq,_h];try (have _g:=_h;simp at _g)))|((first|refine Ab (by exact g) ?_|refine Ab (by exact c) ?_);simp only[push_cast,seval,rq])|intro _)
   refine Ak l.length (Inv:=λm st=>∃dn a n,l=dn++a/\m=a.length/\O2 s a=S/\st=⟨[(1,.s s),(29,.sl (l.map AH.enc)),(30,.i .i64 l.length),(31,.i .i64 dn.length)],[],n⟩) ⟨_,Aj.refl,[],_,_,rfl,rfl,hS,rfl⟩ ?_;clear hS;rintro m _ ⟨dn,a,n,d,rfl,e,rfl⟩;cases a with
   | nil=>
    rw[O2] at e;unfold MC at e;subst e;simp only[push_cast,seval,rq,d]
    repeat' (first|(((first|apply Ac|apply Af|apply Ag)<;>intro _h)<;>(simp only[push_cast,seval,rq,_h];try (have _g:=_h;simp at _g)))|intro _)
    all_goals (first|(refine Ae ?_;simp[get]<;>(intros;omega);done)|(refine Ai ?_;simp[push_cast,get];done)|skip)
   | cons r a=>
    have u:=Ay d;have v:=E9 (l:=l) (r:=r) (by rw[d];simp);rw[AH.wt] at v;have k:=o r (by rw[d];simp);have p:=Xo O r.cond s t (by omega);rw[k,h] at p;simp only[Amq,AmS,AzB] at p;rw[O2] at e;simp only[push_cast,seval,rq,d,Aa r (dn:=dn) (by omega)]
    repeat' (first|(((first|apply Ac|apply Af|apply Ag)<;>intro _h)<;>(simp only[push_cast,seval,rq,_h,d,Aa r (dn:=dn) (by omega)];try (have _g:=_h;simp at _g)))|(refine Ab (by exact p) ?_;simp only[push_cast,seval,rq,d,Aa r (dn:=dn) (by omega)])|intro _)
    all_goals (first|(exact⟨_,_,Adx _,Aj.drop1 (by simp[lk]) (AfJ _),dn++[r],a,_,by simp,rfl,by rw[<-e];simp[*],rfl⟩)|skip)
    all_goals subst e
    all_goals (first|(refine Ae ?_;simp[get, *]<;>(intros;omega);done)|(refine Ai ?_;simp[push_cast,get, *];done)|skip)
  .have g:=Jt O l j;rw[f] at g;refine Ah (vs:=[.s [],.i .i64 1]) UO (by simp) (by simp) λn0 b=>?_;clear b;simp only[push_cast,seval,rq]
   repeat' (first|(((first|apply Ac|apply Af|apply Ag)<;>intro _h)<;>(simp only[push_cast,seval,rq,_h];try (have _g:=_h;simp at _g)))|(refine Ab (by exact g) ?_;simp only[push_cast,seval,rq])|intro _)
   all_goals (first|(refine Ae ?_;simp[get]<;>(intros;omega);done)|(refine Ai ?_;simp[push_cast,get];done)|skip)
 .subst hS;refine Ah (vs:=[.s [],.i .i64 1]) UO (by simp) (by simp) λn0 b=>?_;clear b;simp only[push_cast,seval,rq]
  repeat' (first|(((first|apply Ac|apply Af|apply Ag)<;>intro _h)<;>(simp only[push_cast,seval,rq,_h];try (have _g:=_h;simp at _g)))|((first|refine Ab (by exact Jt O l j) ?_|refine Ab (by exact c) ?_);simp only[push_cast,seval,rq])|intro _)
  all_goals (first|(refine Ae ?_;simp[get]<;>(intros;omega);done)|(refine Ai ?_;simp[push_cast,get];done)|skip)
theorem WU(l:List Int)(v:Int)(g:l.length<=2^40):An π O 126 [.sl (l.map (V.i .i64)),.i .i64 v] [] (.b (l.contains v)) []:=by
 generalize hS:l.contains v=S;refine Ah (vs:=[.b S]) kP (by simp) (by simp) λn0 e=>?_;clear e;simp only[push_cast,seval,rq];intros;refine Ak l.length (Inv:=λm st=>∃dn a n,l=dn++a/\m=a.length/\a.contains v=S/\st=⟨[(0,.sl (l.map (V.i .i64))),(1,.i .i64 v),(5,.i .i64 dn.length)],[],n⟩) ⟨_,Aj.refl,[],l,_,rfl,rfl,hS,rfl⟩ ?_;clear hS;rintro m _ ⟨dn,a,n,d,rfl,c,rfl⟩;cases a with
 | nil=>
  subst c;simp only[push_cast,seval,rq,d]
  repeat' (first|(((first|apply Ac|apply Af|apply Ag)<;>intro _h)<;>(simp only[push_cast,seval,rq,_h];try (have _g:=_h;simp at _g)))|intro _)
  all_goals (first|(refine Ae ?_;simp[get]<;>(intros;omega);done)|(refine Ai ?_;simp[push_cast,get];done)|skip)
 | cons x a=>
  have f:=Ay d;rw[A0w,Bool.beq_comm] at c;simp only[push_cast,seval,rq,d,Aa x (dn:=dn) (by omega)]
  repeat' (first|(((first|apply Ac|apply Af|apply Ag)<;>intro _h)<;>(simp only[push_cast,seval,rq,_h,d,Aa x (dn:=dn) (by omega)];try (have _g:=_h;simp at _g)))|intro _)
  all_goals (first|(exact⟨_,_,Adx _,Aj.refl,dn++[x],a,_,by simp,rfl,by rw[<-c];simp[*],rfl⟩)|skip)
  all_goals subst c
  all_goals (first|(refine Ae ?_;simp[get, *]<;>(intros;omega);done)|(refine Ai ?_;simp[push_cast,get, *];done)|skip)
theorem Adp(c:Int):∃v,An π O 127 [.i .i64 c] [] v []/\∀m,An π O 126 [v,.i .i64 m] [] (.b (Hl c m)) []:=by
 by_cases h:c=1\/c=2
 .refine⟨.sl (modsL.map (V.i .i64)),?_,λm=>?_⟩
  .unfold modsL;simp only[Am1,Asz];rcases h with rfl|rfl
   .skip;refine Ah (vs:=[.sl [.i .i64 2,.i .i64 3,.i .i64 4,.i .i64 5,.i .i64 6,.i .i64 10,.i .i64 20,.i .i64 25,.i .i64 50,.i .i64 100]]) N9 (by simp) (by simp) λn0 a=>?_;clear a;simp only[push_cast,seval,rq]
    repeat' (first|(((first|apply Ac|apply Af|apply Ag)<;>intro _h)<;>(simp only[push_cast,seval,rq,_h];try (have _g:=_h;simp at _g)))|intro _)
    all_goals (first|(refine Ae ?_;simp[get]<;>(intros;omega);done)|(refine Ai ?_;simp[push_cast,get];done)|skip)
   .skip;refine Ah (vs:=[.sl [.i .i64 2,.i .i64 3,.i .i64 4,.i .i64 5,.i .i64 6,.i .i64 10,.i .i64 20,.i .i64 25,.i .i64 50,.i .i64 100]]) N9 (by simp) (by simp) λn0 a=>?_;clear a;simp only[push_cast,seval,rq]
    repeat' (first|(((first|apply Ac|apply Af|apply Ag)<;>intro _h)<;>(simp only[push_cast,seval,rq,_h];try (have _g:=_h;simp at _g)))|intro _)
    all_goals (first|(refine Ae ?_;simp[get]<;>(intros;omega);done)|(refine Ai ?_;simp[push_cast,get];done)|skip)
  .have:=WU O modsL m (by decide);rw[show Hl c m=modsL.contains m by unfold Hl;rcases h with rfl|rfl<;>rfl];exact this
 .by_cases j:c=5\/c=6
  .refine⟨.sl ([10,100].map (V.i .i64)),?_,λm=>?_⟩
   .simp only[Am1,Asz];rcases j with rfl|rfl
    .skip;refine Ah (vs:=[.sl [.i .i64 10,.i .i64 100]]) N9 (by simp) (by simp) λn0 a=>?_;clear a;simp only[push_cast,seval,rq]
     repeat' (first|(((first|apply Ac|apply Af|apply Ag)<;>intro _h)<;>(simp only[push_cast,seval,rq,_h];try (have _g:=_h;simp at _g)))|intro _)
     all_goals (first|(refine Ae ?_;simp[get]<;>(intros;omega);done)|(refine Ai ?_;simp[push_cast,get];done)|skip)
    .skip;refine Ah (vs:=[.sl [.i .i64 10,.i .i64 100]]) N9 (by simp) (by simp) λn0 a=>?_;clear a;simp only[push_cast,seval,rq]
     repeat' (first|(((first|apply Ac|apply Af|apply Ag)<;>intro _h)<;>(simp only[push_cast,seval,rq,_h];try (have _g:=_h;simp at _g)))|intro _)
     all_goals (first|(refine Ae ?_;simp[get]<;>(intros;omega);done)|(refine Ai ?_;simp[push_cast,get];done)|skip)
   .have:=WU O [10,100] m (by decide);rw[show Hl c m=[10,100].contains m by unfold Hl;rcases j with rfl|rfl<;>simp<;>rfl];exact this
  .refine⟨.nil,?_,λm=>?_⟩
   .have d:(c==1)=false:=by simp;omega
    have e:(c==2)=false:=by simp;omega
    have f:(c==5)=false:=by simp;omega
    have g:(c==6)=false:=by simp;omega
    refine Ah (vs:=[.nil]) N9 (by simp) (by simp) λn0 a=>?_;clear a;simp only[push_cast,seval,rq,d,e,f,g]
    repeat' (first|(((first|apply Ac|apply Af|apply Ag)<;>intro _h)<;>(simp only[push_cast,seval,rq,_h,d,e,f,g];try (have _g:=_h;simp at _g)))|intro _)
    all_goals (first|(refine Ae ?_;simp[get]<;>(intros;omega);done)|(refine Ai ?_;simp[push_cast,get];done)|skip)
   .have hp:Hl c m=false:=by
     unfold Hl;rw[Amt (by simp;omega),Amt (by simp;omega)]
    rw[hp];refine Ah (vs:=[.b false]) kP (by simp) (by simp) λn0 a=>?_;clear a;simp only[push_cast,seval,rq];intros;refine Ak 0 (Inv:=λ_ st=>∃n,st=⟨[(0,.nil),(1,.i .i64 m),(5,.i .i64 0)],[],n⟩) ⟨_,Aj.refl,_,rfl⟩ ?_;rintro _ _ ⟨n,rfl⟩;simp only[push_cast,seval,rq]
    repeat' (first|(((first|apply Ac|apply Af|apply Ag)<;>intro _h)<;>(simp only[push_cast,seval,rq,_h];try (have _g:=_h;simp at _g)))|intro _)
    all_goals (first|(refine Ae ?_;simp[get]<;>(intros;omega);done)|(refine Ai ?_;simp[push_cast,get];done)|skip)
theorem uG(b:Int):An π O 128 [.i .i64 b] [] (.i .i64 (Ug b)) []:=by
 generalize hS:Ug b=S;unfold Ug at hS;refine Ah (vs:=[.i .i64 S]) Akc (by simp) (by simp) λn0 a=>?_;clear a;simp only[push_cast,seval,rq]
 repeat' (first|(((first|apply Ac|apply Af|apply Ag)<;>intro _h)<;>(simp only[push_cast,seval,rq,_h];try (have _g:=_h;simp at _g)))|intro _)
 all_goals subst hS
 all_goals (first|(refine Ae ?_;simp[get, *]<;>(intros;omega);done)|(refine Ai ?_;simp[push_cast,get, *];done)|skip)
theorem Z4(r:Fq)(j:r.spans.length<=2^30):An π O 90 [r.enc] [] (.b (CK r)) []:=by
 generalize hS:CK r=S;unfold CK at hS;obtain⟨v,h,e⟩:=Adp O r.op;have e:=e r.mod;rw[Fq.enc_eq];refine Ah (vs:=[.b S]) Aqd (by simp) (by simp) λn0 f=>?_;clear f;simp only[push_cast,seval,rq]
 repeat' (first|(((first|apply Ac|apply Af|apply Ag)<;>intro _h)<;>(simp only[push_cast,seval,rq,_h];try (have _g:=_h;simp at _g)))|((first|refine Ab (by exact h) ?_|refine Ab (by exact e) ?_);simp only[push_cast,seval,rq])|intro _)
 all_goals (first|(refine Ae ?_;subst hS;simp[get, *];done)|skip)
 all_goals
  have c:r.spans.all (Mt r.op)=S:=by subst hS;simp[*]
  clear hS;refine Ak r.spans.length (Inv:=λm st=>∃dn a n,r.spans=dn++a/\m=a.length/\a.all (Mt r.op)=S/\st=⟨[(1,.ref (n0,1) 0),(3,.i .i64 dn.length)],[((n0,1),.box r.enc)],n⟩) ⟨_,Aj.refl,[],_,_,rfl,rfl,c,rfl⟩ ?_;clear c;rintro m _ ⟨dn,a,n,d,rfl,c,rfl⟩;cases a with
  | nil=>
   simp only[push_cast,seval,rq,d]
   repeat' (first|(((first|apply Ac|apply Af|apply Ag)<;>intro _h)<;>(simp only[push_cast,seval,rq,_h];try (have _g:=_h;simp at _g)))|intro _)
   all_goals (first|(refine Ae ?_;simp[get,<-c]<;>(intros;omega);done)|(refine Ai ?_;simp[push_cast,get,<-c];done)|skip)
  | cons s a=>
   have g:=Ay d;rw[Ax5,Mt] at c;simp only[push_cast,seval,rq,d,Aa s (dn:=dn) (by omega)]
   repeat' (first|(((first|apply Ac|apply Af|apply Ag)<;>intro _h)<;>(simp only[push_cast,seval,rq,_h,d,Aa s (dn:=dn) (by omega)];try (have _g:=_h;simp at _g)))|(refine Ab (by exact uG O r.op) ?_;simp only[push_cast,seval,rq,d,Aa s (dn:=dn) (by omega)])|intro _)
   all_goals (first|(exact⟨_,_,Adx _,Aj.drop1 (by simp[lk]) (AfJ _),dn++[s],a,_,by simp,rfl,by rw[<-c];simp[*],rfl⟩)|skip)
   all_goals subst c
   all_goals (first|(refine Ae ?_;simp[get, *]<;>(intros;omega);done)|(refine Ai ?_;simp[push_cast,get, *];done)|skip)
theorem sK l:Jq l=(!((l.length:Int)==0)&&l.all CK):=by unfold Jq;grind
theorem dD(c:List (List Fq))(F:D8 c<=2^30):An π O 62 [.sl (c.map Ei)] [] (.b (EU c)) []:=by
 generalize hS:EU c=S;unfold EU at hS;have y:=GS c;have E:=LR c;refine Ah (vs:=[.b S]) Am8 (by simp) (by simp) λn0 w=>?_;clear w;simp only[push_cast,seval,rq];intros;refine Ak c.length (Inv:=λm st=>∃dn a n d,c=dn++a/\m=a.length/\(a.all Jq&&(decide ((c.length:Int)>0)&&decide (d+HP a<=6)))=S/\0<=d/\d+HP a=HP c/\st=⟨[(0,.sl (c.map Ei)),(3,.i .i64 d),(4,.i .i64 dn.length)],[],n⟩) ⟨_,Aj.refl,[],_,_,0,rfl,rfl,by rw[Int.zero_add];exact hS,by omega,by omega,rfl⟩ ?_;clear hS;rintro m _ ⟨dn,a,n,d,f,rfl,h,t,u,rfl⟩;cases a with
 | nil=>
  rw[show HP []=0 from rfl,Int.add_zero] at h;simp only[push_cast,seval,rq,f];rw[AmY] at f
  repeat' (first|(((first|apply Ac|apply Af|apply Ag)<;>intro _h)<;>(simp only[push_cast,seval,rq,_h];try (have _g:=_h;simp at _g)))|intro _)
  all_goals subst h
  all_goals subst f
  all_goals (first|(refine Ae ?_;simp[get, *]<;>(intros;omega);done)|(refine Ai ?_;simp[push_cast,get, *];done)|skip)
 | cons l a=>
  have z:=Ay f;have G:=GP (l:=c) (r:=l) (by rw[f];simp);have C:=Eq l;rw[Ax5,sK] at h;rw[Kl] at h u;have D:=LR a;simp only[push_cast,seval,rq,f,Aa l (dn:=dn) (by omega)]
  repeat' (first|(((first|apply Ac|apply Af|apply Ag)<;>intro _h)<;>(simp only[push_cast,seval,rq,_h,f,Aa l (dn:=dn) (by omega)];try (have _g:=_h;simp at _g)))|intro _)
  all_goals (first|(refine Ae ?_;subst h;simp[get, *];done)|skip)
  have q:(l.all CK&&(a.all Jq&&(decide ((c.length:Int)>0)&&decide (d+l.length+HP a<=6))))=S:=by rw[<-h,Int.add_assoc];simp only[*];simp[Bool.and_assoc]
  refine Ak l.length (Inv:=λm st=>∃k o n e,l=k++o/\m=o.length/\(o.all CK&&(a.all Jq&&(decide ((c.length:Int)>0)&&decide (d+l.length+HP a<=6))))=S/\0<=e/\e+o.length=d+l.length/\st=⟨[(0,.sl (c.map Ei)),(3,.i .i64 e),(4,.i .i64 dn.length),(5,.i .i64 k.length)],[],n⟩) ⟨_,Aj.refl,[],l,_,d,rfl,rfl,q,t,rfl,by rw[f];rfl⟩ ?_;clear h q;rintro m _ ⟨k,o,n,e,g,rfl,h,B,v,rfl⟩;cases o with
  | nil=>rw[AmY] at g;subst g;simp only[push_cast,seval,rq,f,Aa l (dn:=dn) (by omega)];intros;exact⟨_,_,Adx _,Aj.refl,dn++[l],a,_,d+l.length,by simp,rfl,by rw[<-h,f];simp,by omega,by rw[<-f];omega,by simp at v;subst v;rfl⟩
  | cons r o=>
   have A:=Ay g;have x:=GM (l:=l) (r:=r) (by simp[g]);rw[Fq.wt] at x;rw[Ax5] at h;rw[Aa8] at v;have s:IntKind.i64.wrap (e+1)=e+1:=wrap64 (by omega) (by omega);have p:(l.map Fq.enc)[k.length]?=some r.enc:=by rw[g];simp
   have j:decide ((k.length:Int)<(l.length:Int))=true:=by simp;omega
   simp only[push_cast,seval,rq,f,p,j,s,Aa r (dn:=k) (by omega)]
   repeat' (first|(((first|apply Ac|apply Af|apply Ag)<;>intro _h)<;>(simp only[push_cast,seval,rq,_h,f,p,j,s,Aa r (dn:=k) (by omega)];try (have _g:=_h;simp at _g)))|(refine Ab (by exact Z4 O r (by omega)) ?_;simp only[push_cast,seval,rq,f,p,j,s,Aa r (dn:=k) (by omega)])|intro _)
   all_goals (first|(exact⟨_,_,Adx _,Aj.refl,k++[r],o,_,e+1,by simp[g],rfl,by rw[<-h,f];simp[*],by omega,by omega,rfl⟩)|skip)
   all_goals subst h
   all_goals (first|(refine Ae ?_;simp[get, *]<;>(intros;omega);done)|(refine Ai ?_;simp[push_cast,get, *];done)|skip)
theorem Uf:An π O 61 [] [] (.sl (kFive.map V.s)) []:=by
 unfold kFive;simp only[Am1,Asz];refine Ah (vs:=[.sl [.s [122,101,114,111],.s [111,110,101],.s [116,119,111],.s [102,101,119],.s [109,97,110,121]]]) AoZ (by simp) (by simp) λn0 a=>?_;clear a;simp only[push_cast,seval,rq]
 repeat' (first|(((first|apply Ac|apply Af|apply Ag)<;>intro _h)<;>(simp only[push_cast,seval,rq,_h];try (have _g:=_h;simp at _g)))|intro _)
 all_goals (first|(refine Ae ?_;simp[get]<;>(intros;omega);done)|(refine Ai ?_;simp[push_cast,get];done)|skip)
end Go.Ir

namespace Go.Ir
open Go.Proofs
variable{P:Program}{O:World}{nt n:Nat}{Q:Exit→St→Prop}{env:Bm}{σ:Au}
def Adv:IC:=oR [o1 1 (.msl true 9 1 [.c (.s [122,101,114,111]),.c (.s [111,110,101]),.c (.s [116,119,111]),.c (.s [102,101,119]),.c (.s [109,97,110,121])]),m1 0 1] [0]
def AeL:IC:=oS [mC 0 .nil] [] Adv
def AuI:List R:=[.t 0]
def Az4:=Ao Adv.eq_1<|AJ AeL.eq_1
theorem App:Ar π 61 2 AeL AuI=true:=by kernel_rfl
attribute[push_cast]AuI Az4
end Go.Ir

namespace Go.Ir
open Go.Proofs
variable(O:World)
theorem S1{O:World}{nt n s:Nat}{env:Bm}{σ:Au}{id:Id}{e sz:Nat}{es:List V}(m:get env s=.arr id)(l:∀y∈es,y.ok=true)(j:lk σ id=some (.arr e sz es)):NU O nt [.t s] [.sl es] [] .ret ⟨env,σ,n⟩:=by
 refine⟨⟨[(s,.sl es)],[],n⟩,Aj.weak (λi=>if i=id then some es else none) (λi es' h=>?_) (λt=>?_) (λi e' h=>by cases h) (AfJ _),⟨by simp[SK,get],trivial⟩,λ_ _ h=>by cases h⟩
 .split at h
  .rename_i g;subst g;cases h;exact⟨⟨e,sz,j⟩,rfl⟩
  .cases h
 .by_cases d:s=t
  .subst d;rw[m];simp only[get];refine .arr id es es (by simp) rfl (λk c f b a=>?_) (λk c f b a=>?_)
   .rw[b] at a;cases a;exact .refl _
   grind
  .simp only[get,Amt d];exact .any _
def xA:Ad->Bool
 | []=>false
 | c::_=>(c.toNat:Int)==61
def Aqx(a:Int)(k:Ad):Bool:=!(k==Cb)&&(a==9||xA k)
def Atu(b:Int)(a:List Ad):List Ad:=if b==9 then[] else kFive.filter λk=>a.contains k
def Avf(b:Int)(a:List Ad):List Ad:=a.filter (Aqx b)++(Atu b a++[Cb])
theorem Tg:HB π O 61 [] [] (.arr 9 1 (kFive.map V.s)) []:=by refine P2 (s:=0) App (by simp) (by simp) λn0 a=>?_;clear a;unfold kFive;simp only[push_cast,seval,rq];intros;exact⟨_,Aj.refl,_,rfl,by simp[lk],rfl,λ_ _ h=>by cases h⟩

theorem Acg{a} p (l:List a):BT p l<l.length:=by
 induction l with
 | nil=>simp[BT]
 | cons x l b=>simp only[BT,Aa8];grind
def GW.enc(s:GW):V:=.agg [.i .i64 s.kind,.s s.name,.sl (s.keys.map V.s)]
@[push_cast]theorem GW.enc_eq(s:GW):s.enc=.agg [.i .i64 s.kind,.s s.name,.sl (s.keys.map V.s)]:=rfl
def GW.ord(s:GW):GW:={ s with keys:=Avf s.kind s.keys }
def SS(ps:List Al):List GW:=(K6 ps []).map GW.ord
theorem cV{O nt n s env σ}(b:get env s=.nil):NU O nt [.t s] [.sl []] [] .ret ⟨env,σ,n⟩:=by
 refine⟨⟨[(s,.sl [])],[],n⟩,Aj.weak (λi=>none) (λi es' h=>by cases h) (λt=>?_) (λi e' h=>by cases h) (AfJ _),⟨by simp[SK,get],trivial⟩,λ_ _ h=>by cases h⟩;by_cases a:s=t
 .subst a;rw[b];simp only[get,Agp];exact .nil
 .simp only[get,Amt a];exact .any _



def RF(n:Nat):List GW->Nat
 | []=>n
 | s::l=>if 400<n*s.keys.length then n*s.keys.length else RF (n*s.keys.length) l
def Ab9(l:Loc)(a:Int):List AH:=if a==8 then l.ord else l.card
def Asl(o:List Al)(x:Al):List Al:=match o.getLast? with
 | none=>[x]
 | some y=>if x.kind==1&&y.kind==1 then o.dropLast++[{ y with text:=y.text++x.text }] else o++[x]
theorem Aat{O nt n s env σ id x}(b:get env s=.arr id)(a:lk σ id=some x):AfX O nt s x [] .ret ⟨env,σ,n⟩:=
 ⟨_,Aj.refl,id,b,a,rfl,λ_ _ h=>by cases h⟩
end Go.Ir
section
namespace Go.Ir
def xF{a:Type}(cs:List (Ad×a))(k:Ad):Option a:=(cs.find? λc=>c.1==k).map (·.2)
def ArW{c:Type}(b:Ad->Ad)(a:Int)(cs:List (Ad×c))(key:Ad):Option c:=
 (xF cs key).or ((if xA key&&a !=9 then xF cs (b key.tail) else none).or (xF cs Cb))
abbrev eN:=Int->Ad->List (Ad×List Al)->List Al
mutual
def Al.res(c:eN)(a:Ad):Al->List Al->List Al
 | ⟨k,t,b,st,cs,ps⟩,out=>
  if Bk k then(c k b (AfP c (if k==9 then a else b) cs)).foldl Asl out
  else if k==10 then out++[⟨3,[],a,[],[],[]⟩]
  else if k==11 then out++[⟨k,t,b,st,cs,Xd c a ps []⟩]
  else Asl out ⟨k,t,b,st,cs,ps⟩
def Xd(b:eN)(a:Ad):List Al->List Al->List Al
 | [],out=>out
 | p::ps,out=>Xd b a ps (p.res b a out)
def AfP(b:eN)(a:Ad):List (Ad×List Al)->List (Ad×List Al)
 | []=>[]
 | (k,ps)::cs=>(k,Xd b a ps [])::AfP b a cs
end
end Go.Ir
end
namespace Go.Ir
open Go.Proofs
variable(O:World)
def Awk(l:Loc)(a:Int)(n:Ad):Ad:=(Dh (Ab9 l a) n).1
end Go.Ir
section
namespace Go.Ir
open Go.Proofs
variable(O:World)
mutual
def Al.all(f:Al->Prop):Al->Prop
 | ⟨k,t,a,st,cs,ps⟩=>f ⟨k,t,a,st,cs,ps⟩/\DH f cs/\Cs f ps
def Cs(f:Al->Prop):List Al->Prop
 | []=>True
 | p::ps=>p.all f/\Cs f ps
def DH(f:Al->Prop):List (Ad×List Al)->Prop
 | []=>True
 | (k,ps)::cs=>Cs f ps/\DH f cs
end
theorem Al.all_eq f p:p.all f↔f p/\DH f p.cases/\Cs f p.parts:=by cases p;simp only[Al.all]
theorem CV f p ps:Cs f (p::ps)↔p.all f/\Cs f ps:=by simp only[Cs]
theorem GI f (c:AR)(cs:List AR):DH f (c::cs)↔Cs f c.2/\DH f cs:=by have ⟨a,b⟩:=c;simp only[DH]
def As2(L:List GW)(a:List Ad)(k:Int)(b:Ad):Ad:=a[(Iz L k b).toNat]?.getD []
def pkP(l:Loc)(L:List GW)(a:List Ad):eN:=λk b cs=>(ArW (Awk l k) k cs (As2 L a k b)).getD []
end Go.Ir
end
namespace Go.Ir
open Go.Proofs
variable{P:Program}{O:World}{nt n:Nat}{Q:Exit→St→Prop}{env:Bm}{σ:Au}
end Go.Ir

namespace Go.Ir
open Go.Proofs
variable(O:World)
end Go.Ir

namespace Go.Ir
open Go.Proofs
variable{P:Program}{O:World}{nt n:Nat}{Q:Exit→St→Prop}{env:Bm}{σ:Au}
def xP:IC:=oS [bX 2 0,mC 3 (.b false)] [1,2] (oR [fA 4 2 0,l1 5 4,l1 6 1,bT 7 .eql 5 6,m1 3 7] [3])
def AqA:List R:=[.t 3]
def Axd:=AJ xP.eq_1
theorem AhE:Ar π 106 8 xP AqA=true:=by kernel_rfl
def sY:IC:=oS [m1 14 0,m1 15 6,iA 16 14 15 43 5,lA 17 16 5,o1 7 (.alloc (.agg [.s [],.i .i64 0,.s [],.i .i64 0,.nil])),sT 7 17 5] [4,7] (oS [fA 18 7 4,l1 19 18,q1 20 107 19,fA 21 7 4,sT 21 20 1] [4,7] (oR [lA 22 7 5,sT 4 22 5,mC 5 (.b true)] [4,5]))
def Ad4:IC:=sQ (oS [m1 11 6,bZ 12 .lss 11 0] [0,4,6,12] (cD 12 (oR [o1 13 (.build [.s [],.i .i64 0,.s [],.i .i64 0,.nil] []),sT 4 13 5,mC 5 (.b false)] [4,5]) .skip)) sY
def Ahd:IC:=oS [bX 3 1,o1 4 (.alloc (.agg [.s [],.i .i64 0,.s [],.i .i64 0,.nil])),mC 5 (.b false)] [0,3,4] (oS [m1 8 0,o1 9 (.mkfn 106 [] [.t 3]),o1 10 (.calls 105 [.t 8,.t 9]),m1 6 10] [0,4,6] Ad4)
def Aux:List R:=[.c 4 5 true,.t 5]
def AxG:=Ao sY.eq_1<|Ao Ad4.eq_1<|AJ Ahd.eq_1
theorem AnH:Ar π 73 23 Ahd Aux=true:=by kernel_rfl
def XT:IC:=oR [fA 18 1 2,l1 19 18,q1 20 97 19,m1 21 20,D0 22 21 1 3,Dm 23 21 22,Dn 24 21 .eql 23 0,pA 25 21 24,m1 26 25,D0 27 26 1 4,Dm 28 26 27,gT 29 26 (.lenL (.t 28)),Dn 30 26 .eql 29 0,pA 31 26 30,m1 2 31] [2]
def Wy:IC:=oR [fA 34 1 2,l1 35 34,bC 36 .eql 35 (.s []),m1 37 36,D0 38 37 1 4,Dm 39 37 38,gT 40 37 (.lenL (.t 39)),Dn 41 37 .eql 40 0,pA 42 37 41,m1 2 42] [2]
def W2:IC:=oS [bZ 44 .eql 4 4,m1 43 44] [1,43] (cD 43 (oR [fA 45 1 2,l1 46 45,bC 47 .eql 46 (.s []),m1 48 47,D0 49 48 1 3,Dm 50 48 49,Dn 51 48 .eql 50 0,pA 52 48 51,m1 2 52] [2]) .skip)
def fU:IC:=.block 0 (oS [bZ 6 .eql 4 1,m1 5 6] [1,4,5] (cD 5 (oR [fA 7 1 3,l1 8 7,bZ 9 .eql 8 0,m1 10 9,D0 11 10 1 4,Dm 12 10 11,gT 13 10 (.lenL (.t 12)),Dn 14 10 .eql 13 0,pA 15 10 14,m1 2 15] [2]) (oS [bZ 17 .eql 4 2,m1 16 17] [1,4,16] (cD 16 XT (oS [bZ 33 .eql 4 3,m1 32 33] [1,4,32] (cD 32 Wy W2))))))
def sJ:IC:=oS [bX 1 0,mC 2 (.b false)] [1] (sQ (oS [fA 3 1 1,l1 4 3] [1,4] fU) (oR [mC 2 (.b false)] [2]))
def Arg:List R:=[.t 2]
def Awy:=Ao XT.eq_1<|Ao Wy.eq_1<|Ao W2.eq_1<|Ao fU.eq_1<|AJ sJ.eq_1
theorem AjS:Ar π 108 53 sJ Arg=true:=by kernel_rfl
def dC:IC:=sQ (.block 3 (oP [m1 28 4,m1 29 0,m1 30 3,iA 31 29 30 43 5,fA 32 31 4,l1 33 32,m1 34 5,iA 35 33 34 9 1,l1 36 35,nS 37 36,o1 38 (.mx false (.t 28) [.t 37]),m1 4 38] [0,3,4,5])) (oP [m1 26 5,bZ 27 .add 26 1,m1 5 27] [0,3,4,5])
def r5:IC:=oS [m1 39 4,bZ 40 .gtr 39 200,m1 41 40,Bn 42 41 0,Bn 43 41 3,gF 44 41 (.iaddr (.t 42) (.t 43) 43 5),CG 45 41 44 4,CM 46 41 45,gF 47 41 (.lenL (.t 46)),Dv 48 41 .gtr 47 12,pO 49 41 48,m1 50 49,Bn 51 50 0,Bn 52 50 3,gF 53 50 (.iaddr (.t 51) (.t 52) 43 5),CG 54 50 53 0,CM 55 50 54,gF 56 50 (.lenS (.t 55)),Dv 57 50 .gtr 56 60,pO 58 50 57] [0,3,58] (cD 58 (oR [mC 2 (.b false)] [2]) .skip)
def eY:IC:=sQ (.block 1 (oS [m1 12 0,m1 13 3,iA 14 12 13 43 5,fA 15 14 2,l1 16 15,nS 17 16,m1 4 17] [0,3,4] (sQ (oS [mZ 5 0] [0,3,4,5] (.block 2 (.loop (sQ (oS [m1 18 5,m1 19 0,m1 20 3,iA 21 19 20 43 5,fA 22 21 4,l1 23 22,nL 24 23,bT 25 .lss 18 24] [0,3,4,5,25] (cD 25 .skip (.exit 2))) dC)))) r5))) (oP [m1 10 3,bZ 11 .add 10 1,m1 3 11] [0,3])
def Aey:IC:=oS [mC 2 (.b false)] [0] (sQ (oS [mZ 3 0] [0,3] (.block 0 (.loop (sQ (oS [m1 6 3,m1 7 0,nL 8 7,bT 9 .lss 6 8] [0,3,9] (cD 9 .skip (.exit 0))) eY)))) (oR [m1 59 0,nL 60 59,bZ 61 .leq 60 30,m1 2 61] [2]))
def AvS:List R:=[.t 2]
def Ay0:=Ao dC.eq_1<|Ao r5.eq_1<|Ao eY.eq_1<|AJ Aey.eq_1
theorem AoL:Ar π 25 62 Aey AvS=true:=by kernel_rfl
def vA:IC:=sQ (oS [m1 3 0,o1 4 (.pu (.isnil false) [.t 3])] [0,4] (cD 4 (oR [mC 2 .nil] [2]) .skip)) (oR [o1 5 (.msl true 9 1 []),m1 6 0,o1 7 (.app (.t 5) (.t 6) 9 1),m1 2 7] [2])
def xG:IC:=oS [mC 2 .nil] [0] vA
def ApL:List R:=[.t 2]
def AwB:=Ao vA.eq_1<|AJ xG.eq_1
theorem Akr:Ar π 107 8 xG ApL=true:=by kernel_rfl
attribute[push_cast]AqA Axd Aux AxG Arg Awy AvS Ay0 ApL AwB
end Go.Ir

namespace Go.Ir
open Go.Proofs
variable(O:World)
structure Cg where
 name:Ad
 type:Int
 text:Ad
 date:Int
 list:List Ad
def Cg.enc(v:Cg):V:=.agg [.s v.name,.i .i64 v.type,.s v.text,.i .i64 v.date,.sl (v.list.map V.s)]
def Cg.wt(v:Cg):Nat:=1+v.name.length+v.text.length+v.list.length
theorem Cg.enc_eq(v:Cg):v.enc=.agg [.s v.name,.i .i64 v.type,.s v.text,.i .i64 v.date,.sl (v.list.map V.s)]:=rfl
def AbO:V:=.agg [.s [],.i .i64 0,.s [],.i .i64 0,.nil]
def Hk:List Cg->Ad->Option Cg
 | [],_=>none
 | v::vs,n=>if v.name==n then some v else Hk vs n
def gV:Option Cg->V
 | none=>AbO
 | some v=>v.enc
def Uh(o:Option Cg):V:=.tup [gV o,.b o.isSome]
theorem Gx{vs n v}(h:Hk vs n=some v):v∈vs:=by
 induction vs with
 | nil=>cases h
 | cons x vs a=>rw[Hk] at h;grind
theorem Aag(v:Cg)(n:Ad) a σ (d:lk σ a=some (.box (.s n))):An π O 106 [v.enc,.ref a 0] σ (.b (v.name==n)) σ:=by
 refine Ah (vs:=[.b (v.name==n)]) AhE (by simp) (λ_ h=>h) λn0 c=>?_;have f:∀j,((n0,j)=a)=False:=λj=>AhY (c _ _ d);simp only[push_cast,seval,rq,f,d,Cg.enc_eq]
 repeat' (first|(((first|apply Ac|apply Af|apply Ag)<;>intro _h)<;>simp only[push_cast,seval,rq,_h,f,d,Cg.enc_eq])|intro _)
 all_goals (refine AC (by simp[get, *]) (λi e h=>jO (c i e h) h))
theorem iI(l:List Ad):∀y∈l.map V.s,y.ok=true:=by intro y a;obtain⟨x,_,rfl⟩:=Awt.1 a;rfl
theorem Aeu(l:List Ad):∀y∈l.map V.s,(cells y).length=1:=by intro y a;obtain⟨x,_,rfl⟩:=Awt.1 a;rfl
theorem eT(l:List Ad)(f:l.length<=2^30):An π O 107 [.sl (l.map V.s)] [] (.sl (l.map V.s)) []:=by
 refine Ah (vs:=[.sl (l.map V.s)]) Akr (by simp) (by simp) λn0 d=>?_;clear d;have b:l.length<=AM:=by unfold AM;omega
 cases l with
 | nil=>
  simp only[push_cast,seval,rq,Asz,Adu,Amy (show 0<=AM by decide),Amy (Aeu [])];intros;refine⟨?_,?_⟩
  .intros;exact cV rfl
  .intros;exact S1 (e:=9) (sz:=1) rfl (iI []) (by simp[lk])
 | cons c cs=>have a:=Aeu (c::cs);rw[Am1] at a;rw[Am1] at *;rw[Aa8] at b;simp only[push_cast,seval,rq,Adu,Amy (show 0<=AM by decide),Amy a,Aub,Amy b];intros;exact S1 (e:=9) (sz:=1) rfl (iI (c::cs)) (by simp[lk])
theorem AmH(v:Cg):RC true 5 v.enc:=Jl rfl
theorem AqT:Ar π 105 19 (Me 43 5 true) Z2=true:=by kernel_rfl
theorem Avn vs n:(BT (λv=>v.name==n) vs<0/\Hk vs n=none)\/∃(j:Nat) (v:Cg),BT (λv=>v.name==n) vs=(j:Nat)/\vs[j]?=some v/\Hk vs n=some v:=by
 induction vs with
 | nil=>left;exact⟨by simp[BT],rfl⟩
 | cons x vs b=>
  rw[Hk];cases a:(x.name==n) with
  | true=>right;exact⟨0,x,by simp[BT,a],rfl,rfl⟩
  | false=>
   rcases b with⟨h1,h2⟩|⟨j,v,h1,h2,h3⟩
   .left;refine⟨?_,by simpa using h2⟩;simp[BT,a,h1]
   .right;refine⟨j+1,v,?_,by simpa using h2,by simpa using h3⟩;simp only[BT,a,A0c,h1];grind
theorem SY vs (n:Ad)(o:vs.length<=2^40)(m:∀v∈vs,v.list.length<=2^30):An π O 73 [.sl (vs.map Cg.enc),.s n] [] (Uh (Hk vs n)) []:=by
 have f:=λd σ l=>Dr O AqT Cg.enc vs (λv=>v.name==n) 106 [] [.ref d 0] σ (λx _=>AmH x) (λx _=>Aag O x n d σ l) (by omega);unfold Uh;refine Ah (vs:=[gV (Hk vs n),.b (Hk vs n).isSome]) AnH (by simp) (by simp) λn0 i=>?_;clear i;simp only[push_cast,seval,rq];intro k1;refine BJ (f (n0,3) _ (by simp[lk])) (λ_ _ h=>h) ?_;rw[Db];rcases Avn vs n with⟨h1,h2⟩|⟨j,v,h1,h2,h3⟩
 .have e:decide (BT (λv=>v.name==n) vs<0)=true:=by simpa using h1
  rw[h2];simp only[push_cast,seval,rq,e];intros;refine Ai ?_;simp[push_cast,get,gV,AbO]
 .have k:=eT O v.list (m v (Gx h3));have a:(vs.map Cg.enc)[j]?=some v.enc:=by rw[AtX,h2];rfl
  have g:=(Ath.1 h2).1;have c:decide ((j:Int)<0)=false:=by simp
  rw[h3,h1];simp only[push_cast,seval,rq,c,a,Aiv g,Cg.enc_eq,AaT]
  repeat' (first|(((first|apply Ac|apply Af|apply Ag)<;>intro _h)<;>simp only[push_cast,seval,rq,_h,c,a,Aiv g,Cg.enc_eq,AaT])|(refine Ab (by exact k) ?_;simp only[push_cast,seval,rq,c,a,Aiv g,Cg.enc_eq,AaT])|intro _)
  refine Ai ?_;simp[push_cast,get,gV,Cg.enc_eq]
def Le(v:Cg):Bool:=
 if v.type==1 then v.date==0&&(v.list.length:Int)==0 else if v.type==2 then DA v.text&&v.date==0&&(v.list.length:Int)==0
 else if v.type==3 then v.text==[]&&(v.list.length:Int)==0 else if v.type==4 then v.text==[]&&v.date==0 else false
theorem Om v (d:v.text.length<=2^30):An π O 108 [v.enc] [] (.b (Le v)) []:=by
 have c:=HD O v.text (by omega);generalize hS:Le v=S;unfold Le at hS;refine Ah (vs:=[.b S]) AjS (by simp) (by simp) λn0 a=>?_;clear a;simp only[push_cast,seval,rq,Cg.enc_eq,AaT]
 repeat' (first|(((first|apply Ac|apply Af|apply Ag)<;>intro _h)<;>simp only[push_cast,seval,rq,_h,Cg.enc_eq,AaT])|(refine Ab (by exact c) ?_;simp only[push_cast,seval,rq,Cg.enc_eq,AaT])|intro _)
 all_goals (refine Ae ?_;simp only[By,bq, *] at hS⊢;first|done|simp[<-hS, *])
def Gu(s:Ad):Bool:=s==[]||s==[105,110,116,101,103,101,114]||s==[112,101,114,99,101,110,116]
def AG(k:Int)(t a st:Ad)(c q:Int):Bool:=
 if k==1 then !(t==[])&&(a==[]&&(st==[]&&(c==0&&q==0)))
 else if k==10 then t==[]&&(a==[]&&(st==[]&&(c==0&&q==0)))
 else BN a&&(t==[]&&(
  if k==2 then st==[]&&(c==0&&q==0)
  else if k==11 then st==[]&&c==0
  else if k==7||k==8||k==9 then st==[]&&q==0
  else if k==3 then Gu st&&(c==0&&q==0)
  else if k==4||k==6 then BN st&&(c==0&&q==0)
  else if k==5 then Fg st&&(c==0&&q==0)
  else false))
def Al.fieldsB(p:Al):Bool:=AG p.kind p.text p.name p.style p.cases.length p.parts.length
theorem Zx(t d st:Ad)(cs:List AR)(ps:List Al)(j:d.length<Am)(h:st.length<Am):An π O 92 [.agg [.i .i64 1,.s t,.s d,.s st,.sl (cs.map AR.enc),.sl (ps.map Al.enc)]] [] (.b (AG 1 t d st cs.length ps.length)) []:=by
 generalize hS:AG 1 t d st cs.length ps.length=S;unfold AG Gu at hS;simp only[rb,bq,Agp,AfT] at hS;have f:(t==t)=true:=by simp
 have a:(d==d)=true:=by simp
 have c:(st==st)=true:=by simp
 have g:Bk 1=false:=rfl;refine Ah (vs:=[.b S]) GY (by simp) (by simp) λn0 e=>?_;clear e;simp only[push_cast,seval,rq,f,a,c,g,rb,rn]
 repeat' (first|(((first|apply Ac|apply Af|apply Ag)<;>intro _h)<;>simp only[push_cast,seval,rq,_h,f,a,c,g,rb,rn])|(refine Ab (by exact DQ O 1) ?_;simp only[push_cast,seval,rq,f,a,c,g,rb,rn])|intro _)
 all_goals subst hS
 all_goals (refine Ae ?_;simp only[By,Agp,AfT, *,bq,rq];done)
theorem Uv(t d st:Ad)(cs:List AR)(ps:List Al)(j:d.length<Am)(h:st.length<Am):An π O 92 [.agg [.i .i64 10,.s t,.s d,.s st,.sl (cs.map AR.enc),.sl (ps.map Al.enc)]] [] (.b (AG 10 t d st cs.length ps.length)) []:=by
 generalize hS:AG 10 t d st cs.length ps.length=S;unfold AG Gu at hS;simp only[rb,bq,Agp,AfT] at hS;have f:(t==t)=true:=by simp
 have a:(d==d)=true:=by simp
 have c:(st==st)=true:=by simp
 have g:Bk 10=false:=rfl;refine Ah (vs:=[.b S]) GY (by simp) (by simp) λn0 e=>?_;clear e;simp only[push_cast,seval,rq,f,a,c,g,rb,rn]
 repeat' (first|(((first|apply Ac|apply Af|apply Ag)<;>intro _h)<;>simp only[push_cast,seval,rq,_h,f,a,c,g,rb,rn])|(refine Ab (by exact DQ O 10) ?_;simp only[push_cast,seval,rq,f,a,c,g,rb,rn])|intro _)
 all_goals subst hS
 all_goals (refine Ae ?_;simp only[By,Agp,AfT, *,bq,rq];done)
theorem ZH(t a st:Ad)(cs:List AR)(ps:List Al)(j:a.length<Am)(k:st.length<Am):An π O 92 [.agg [.i .i64 2,.s t,.s a,.s st,.sl (cs.map AR.enc),.sl (ps.map Al.enc)]] [] (.b (AG 2 t a st cs.length ps.length)) []:=by
 generalize hS:AG 2 t a st cs.length ps.length=S;unfold AG Gu at hS;simp only[rb,bq,Agp,AfT] at hS;have f:(t==t)=true:=by simp
 have c:(a==a)=true:=by simp
 have d:(st==st)=true:=by simp
 have g:Bk 2=false:=rfl;have h:=Dz O a j;generalize BN a=l at h hS;refine Ah (vs:=[.b S]) GY (by simp) (by simp) λn0 e=>?_;clear e;simp only[push_cast,seval,rq,f,c,d,g,rb,rn]
 repeat' (first|(((first|apply Ac|apply Af|apply Ag)<;>intro _h)<;>simp only[push_cast,seval,rq,_h,f,c,d,g,rb,rn])|((first|refine Ab (by exact DQ O 2) ?_|refine Ab (by exact h) ?_);simp only[push_cast,seval,rq,f,c,d,g,rb,rn])|intro _)
 all_goals subst hS
 all_goals (refine Ae ?_;simp only[By,Agp,AfT, *,bq,rq];done)
theorem UW(t a st:Ad)(cs:List AR)(ps:List Al)(j:a.length<Am)(k:st.length<Am):An π O 92 [.agg [.i .i64 11,.s t,.s a,.s st,.sl (cs.map AR.enc),.sl (ps.map Al.enc)]] [] (.b (AG 11 t a st cs.length ps.length)) []:=by
 generalize hS:AG 11 t a st cs.length ps.length=S;unfold AG Gu at hS;simp only[rb,bq,Agp,AfT] at hS;have f:(t==t)=true:=by simp
 have c:(a==a)=true:=by simp
 have d:(st==st)=true:=by simp
 have g:Bk 11=false:=rfl;have h:=Dz O a j;generalize BN a=l at h hS;refine Ah (vs:=[.b S]) GY (by simp) (by simp) λn0 e=>?_;clear e;simp only[push_cast,seval,rq,f,c,d,g,rb,rn]
 repeat' (first|(((first|apply Ac|apply Af|apply Ag)<;>intro _h)<;>simp only[push_cast,seval,rq,_h,f,c,d,g,rb,rn])|((first|refine Ab (by exact DQ O 11) ?_|refine Ab (by exact h) ?_);simp only[push_cast,seval,rq,f,c,d,g,rb,rn])|intro _)
 all_goals subst hS
 all_goals (refine Ae ?_;simp only[By,Agp,AfT, *,bq,rq];done)
theorem Zi(t a st:Ad)(cs:List AR)(ps:List Al)(j:a.length<Am)(k:st.length<Am):An π O 92 [.agg [.i .i64 7,.s t,.s a,.s st,.sl (cs.map AR.enc),.sl (ps.map Al.enc)]] [] (.b (AG 7 t a st cs.length ps.length)) []:=by
 generalize hS:AG 7 t a st cs.length ps.length=S;unfold AG Gu at hS;simp only[rb,bq,Agp,AfT] at hS;have f:(t==t)=true:=by simp
 have c:(a==a)=true:=by simp
 have d:(st==st)=true:=by simp
 have g:Bk 7=true:=rfl;have h:=Dz O a j;generalize BN a=l at h hS;refine Ah (vs:=[.b S]) GY (by simp) (by simp) λn0 e=>?_;clear e;simp only[push_cast,seval,rq,f,c,d,g,rb,rn]
 repeat' (first|(((first|apply Ac|apply Af|apply Ag)<;>intro _h)<;>simp only[push_cast,seval,rq,_h,f,c,d,g,rb,rn])|((first|refine Ab (by exact DQ O 7) ?_|refine Ab (by exact h) ?_);simp only[push_cast,seval,rq,f,c,d,g,rb,rn])|intro _)
 all_goals subst hS
 all_goals (refine Ae ?_;simp only[By,Agp,AfT, *,bq,rq];done)
theorem bF(t a st:Ad)(cs:List AR)(ps:List Al)(j:a.length<Am)(k:st.length<Am):An π O 92 [.agg [.i .i64 8,.s t,.s a,.s st,.sl (cs.map AR.enc),.sl (ps.map Al.enc)]] [] (.b (AG 8 t a st cs.length ps.length)) []:=by
 generalize hS:AG 8 t a st cs.length ps.length=S;unfold AG Gu at hS;simp only[rb,bq,Agp,AfT] at hS;have f:(t==t)=true:=by simp
 have c:(a==a)=true:=by simp
 have d:(st==st)=true:=by simp
 have g:Bk 8=true:=rfl;have h:=Dz O a j;generalize BN a=l at h hS;refine Ah (vs:=[.b S]) GY (by simp) (by simp) λn0 e=>?_;clear e;simp only[push_cast,seval,rq,f,c,d,g,rb,rn]
 repeat' (first|(((first|apply Ac|apply Af|apply Ag)<;>intro _h)<;>simp only[push_cast,seval,rq,_h,f,c,d,g,rb,rn])|((first|refine Ab (by exact DQ O 8) ?_|refine Ab (by exact h) ?_);simp only[push_cast,seval,rq,f,c,d,g,rb,rn])|intro _)
 all_goals subst hS
 all_goals (refine Ae ?_;simp only[By,Agp,AfT, *,bq,rq];done)
theorem bL(t a st:Ad)(cs:List AR)(ps:List Al)(j:a.length<Am)(k:st.length<Am):An π O 92 [.agg [.i .i64 9,.s t,.s a,.s st,.sl (cs.map AR.enc),.sl (ps.map Al.enc)]] [] (.b (AG 9 t a st cs.length ps.length)) []:=by
 generalize hS:AG 9 t a st cs.length ps.length=S;unfold AG Gu at hS;simp only[rb,bq,Agp,AfT] at hS;have f:(t==t)=true:=by simp
 have c:(a==a)=true:=by simp
 have d:(st==st)=true:=by simp
 have g:Bk 9=true:=rfl;have h:=Dz O a j;generalize BN a=l at h hS;refine Ah (vs:=[.b S]) GY (by simp) (by simp) λn0 e=>?_;clear e;simp only[push_cast,seval,rq,f,c,d,g,rb,rn]
 repeat' (first|(((first|apply Ac|apply Af|apply Ag)<;>intro _h)<;>simp only[push_cast,seval,rq,_h,f,c,d,g,rb,rn])|((first|refine Ab (by exact DQ O 9) ?_|refine Ab (by exact h) ?_);simp only[push_cast,seval,rq,f,c,d,g,rb,rn])|intro _)
 all_goals subst hS
 all_goals (refine Ae ?_;simp only[By,Agp,AfT, *,bq,rq];done)
theorem YM(t a st:Ad)(cs:List AR)(ps:List Al)(j:a.length<Am)(k:st.length<Am):An π O 92 [.agg [.i .i64 3,.s t,.s a,.s st,.sl (cs.map AR.enc),.sl (ps.map Al.enc)]] [] (.b (AG 3 t a st cs.length ps.length)) []:=by
 generalize hS:AG 3 t a st cs.length ps.length=S;unfold AG Gu at hS;simp only[rb,bq,Agp,AfT] at hS;have f:(t==t)=true:=by simp
 have c:(a==a)=true:=by simp
 have d:(st==st)=true:=by simp
 have g:Bk 3=false:=rfl;have h:=Dz O a j;generalize BN a=l at h hS;refine Ah (vs:=[.b S]) GY (by simp) (by simp) λn0 e=>?_;clear e;simp only[push_cast,seval,rq,f,c,d,g,rb,rn]
 repeat' (first|(((first|apply Ac|apply Af|apply Ag)<;>intro _h)<;>simp only[push_cast,seval,rq,_h,f,c,d,g,rb,rn])|((first|refine Ab (by exact DQ O 3) ?_|refine Ab (by exact h) ?_);simp only[push_cast,seval,rq,f,c,d,g,rb,rn])|intro _)
 all_goals subst hS
 all_goals (refine Ae ?_;simp only[By,Agp,AfT, *,bq,rq];done)
theorem ZS(t a st:Ad)(cs:List AR)(ps:List Al)(k:a.length<Am)(f:st.length<Am):An π O 92 [.agg [.i .i64 4,.s t,.s a,.s st,.sl (cs.map AR.enc),.sl (ps.map Al.enc)]] [] (.b (AG 4 t a st cs.length ps.length)) []:=by
 generalize hS:AG 4 t a st cs.length ps.length=S;unfold AG Gu at hS;simp only[rb,bq,Agp,AfT] at hS;have g:(t==t)=true:=by simp
 have c:(a==a)=true:=by simp
 have d:(st==st)=true:=by simp
 have h:Bk 4=false:=rfl;have j:=Dz O a k;generalize BN a=l at j hS;have v2:=Dz O st f;generalize BN st=m at v2 hS;refine Ah (vs:=[.b S]) GY (by simp) (by simp) λn0 e=>?_;clear e;simp only[push_cast,seval,rq,g,c,d,h,rb,rn]
 repeat' (first|(((first|apply Ac|apply Af|apply Ag)<;>intro _h)<;>simp only[push_cast,seval,rq,_h,g,c,d,h,rb,rn])|((first|refine Ab (by exact DQ O 4) ?_|refine Ab (by exact j) ?_|refine Ab (by exact v2) ?_);simp only[push_cast,seval,rq,g,c,d,h,rb,rn])|intro _)
 all_goals subst hS
 all_goals (refine Ae ?_;simp only[By,Agp,AfT, *,bq,rq];done)
theorem Zs(t a st:Ad)(cs:List AR)(ps:List Al)(k:a.length<Am)(f:st.length<Am):An π O 92 [.agg [.i .i64 6,.s t,.s a,.s st,.sl (cs.map AR.enc),.sl (ps.map Al.enc)]] [] (.b (AG 6 t a st cs.length ps.length)) []:=by
 generalize hS:AG 6 t a st cs.length ps.length=S;unfold AG Gu at hS;simp only[rb,bq,Agp,AfT] at hS;have g:(t==t)=true:=by simp
 have c:(a==a)=true:=by simp
 have d:(st==st)=true:=by simp
 have h:Bk 6=false:=rfl;have j:=Dz O a k;generalize BN a=l at j hS;have v2:=Dz O st f;generalize BN st=m at v2 hS;refine Ah (vs:=[.b S]) GY (by simp) (by simp) λn0 e=>?_;clear e;simp only[push_cast,seval,rq,g,c,d,h,rb,rn]
 repeat' (first|(((first|apply Ac|apply Af|apply Ag)<;>intro _h)<;>simp only[push_cast,seval,rq,_h,g,c,d,h,rb,rn])|((first|refine Ab (by exact DQ O 6) ?_|refine Ab (by exact j) ?_|refine Ab (by exact v2) ?_);simp only[push_cast,seval,rq,g,c,d,h,rb,rn])|intro _)
 all_goals subst hS
 all_goals (refine Ae ?_;simp only[By,Agp,AfT, *,bq,rq];done)
theorem aM(t a st:Ad)(cs:List AR)(ps:List Al)(k:a.length<Am)(f:st.length<Am):An π O 92 [.agg [.i .i64 5,.s t,.s a,.s st,.sl (cs.map AR.enc),.sl (ps.map Al.enc)]] [] (.b (AG 5 t a st cs.length ps.length)) []:=by
 generalize hS:AG 5 t a st cs.length ps.length=S;unfold AG Gu at hS;simp only[rb,bq,Agp,AfT] at hS;have g:(t==t)=true:=by simp
 have c:(a==a)=true:=by simp
 have d:(st==st)=true:=by simp
 have h:Bk 5=false:=rfl;have j:=Dz O a k;generalize BN a=l at j hS;have v3:=Sz O st f;generalize Fg st=m at v3 hS;refine Ah (vs:=[.b S]) GY (by simp) (by simp) λn0 e=>?_;clear e;simp only[push_cast,seval,rq,g,c,d,h,rb,rn]
 repeat' (first|(((first|apply Ac|apply Af|apply Ag)<;>intro _h)<;>simp only[push_cast,seval,rq,_h,g,c,d,h,rb,rn])|((first|refine Ab (by exact DQ O 5) ?_|refine Ab (by exact j) ?_|refine Ab (by exact v3) ?_);simp only[push_cast,seval,rq,g,c,d,h,rb,rn])|intro _)
 all_goals subst hS
 all_goals (refine Ae ?_;simp only[By,Agp,AfT, *,bq,rq];done)
theorem Zc k (t q st:Ad)(cs:List AR)(ps:List Al)(d:(k==1)=false)(e:(k==2)=false)(f:(k==3)=false)(g:(k==4)=false)(h:(k==5)=false)(j:(k==6)=false)(l:(k==7)=false)(m:(k==8)=false)(o:(k==9)=false)(a:(k==10)=false)(c:(k==11)=false):An π O 92 [.agg [.i .i64 k,.s t,.s q,.s st,.sl (cs.map AR.enc),.sl (ps.map Al.enc)]] [] (.b (AG k t q st cs.length ps.length)) []:=by
 generalize hS:AG k t q st cs.length ps.length=S;unfold AG at hS;simp only[d,e,f,g,h,j,l,m,o,a,c,AsM,Agw,AfT,Am0] at hS;subst hS;have r:(k !=1)=true:=by simp at d⊢;exact d
 have u:(k !=10)=true:=by simp at a⊢;exact a
 refine Ah (vs:=[.b false]) GY (by simp) (by simp) λn0 p=>?_;clear p;simp only[push_cast,seval,rq,d,e,f,g,h,j,l,m,o,a,c,r,u]
 repeat' (first|(((first|apply Ac|apply Af|apply Ag)<;>intro _h)<;>simp only[push_cast,seval,rq,_h,d,e,f,g,h,j,l,m,o,a,c,r,u])|intro _)
 all_goals (refine Ae ?_;simp only[By,Agp,AfT, *,bq,rq];done)
theorem zB(p:Al)(a:p.name.length<Am)(c:p.style.length<Am):An π O 92 [p.enc] [] (.b p.fieldsB) []:=by
 unfold Al.fieldsB;obtain⟨k,t,d,st,cs,ps⟩:=p;simp only at a c⊢;rw[Al.enc_eq];simp only;have s:k=1\/k=2\/k=3\/k=4\/k=5\/k=6\/k=7\/k=8\/k=9\/k=10\/k=11\/((k==1)=false/\(k==2)=false/\(k==3)=false/\(k==4)=false/\(k==5)=false/\(k==6)=false/\(k==7)=false/\(k==8)=false/\(k==9)=false/\(k==10)=false/\(k==11)=false):=by simp only[Ayq];omega
 rcases s with rfl|rfl|rfl|rfl|rfl|rfl|rfl|rfl|rfl|rfl|rfl|⟨g,h,i,j,l,m,o,q,r,e,f⟩
 .exact Zx O t d st cs ps a c
 .exact ZH O t d st cs ps a c
 .exact YM O t d st cs ps a c
 .exact ZS O t d st cs ps a c
 .exact aM O t d st cs ps a c
 .exact Zs O t d st cs ps a c
 .exact Zi O t d st cs ps a c
 .exact bF O t d st cs ps a c
 .exact bL O t d st cs ps a c
 .exact Uv O t d st cs ps a c
 .exact UW O t d st cs ps a c
 .exact Zc O k t d st cs ps g h i j l m o q r e f
end Go.Ir

namespace Go.Ir
open Go.Proofs
variable{P:Program}{O:World}{nt n:Nat}{Q:Exit→St→Prop}{env:Bm}{σ:Au}
def dR:IC:=sQ (oS [fA 20 5 0,l1 21 20,fA 22 11 0,l1 23 22,q2 24 129 21 23,nT 25 24,m1 26 25,Bn 27 26 9,CG 28 26 11 0,CM 29 26 28,gF 30 26 (.rdm (.mget .str (.b false) false) (.t 27) [.t 29]),pO 31 26 30,m1 32 31,gF 33 32 (.load (.t 4) 1 true),CG 34 32 11 1,CM 35 32 34,Bn 36 32 2,Bn 37 32 3,Bn 38 32 37,CG 39 38 5 0,CM 40 38 39,Dv 41 38 .neq 40 9,gF 42 32 (.pick (.t 38) (.c (.b true)) (.t 41)),gF 43 32 (.calls 67 [.t 33,.t 35,.t 36,.t 42]),gF 44 32 (.not (.t 43)),pO 45 32 44] [2,3,4,5,9,11,14,15,16,45] (cD 45 (oR [mC 8 (.b false)] [8]) .skip)) (oP [m1 46 9,fA 47 11 0,l1 48 47,o0 (.wrm (.mput .str) (.t 46) [.t 48,.c (.b true)])] [2,3,4,5,9,14,15,16])
def dI:IC:=sQ (.block 1 (oS [iA 18 14 16 76 2,lA 19 18 2,o1 11 (.alloc (.agg [.s [],.nil])),sT 11 19 2] [2,3,4,5,9,11,14,15,16] dR)) (oP [bZ 49 .add 16 1,m1 16 49] [2,3,4,5,9,14,15,16])
def qC:IC:=oR [fA 50 5 4,l1 51 50,nL 52 51,bZ 53 .leq 52 20,m1 54 53,B0 55 54 9,gT 56 54 (.rdm (.mget .str (.b false) false) (.t 55) [.c (.s [111,116,104,101,114])]),pA 57 54 56,m1 8 57] [8]
def AeV:IC:=sQ (oS [fA 13 5 4,l1 14 13,nL 15 14,mZ 16 0] [2,3,4,5,9,14,15,16] (.block 0 (.loop (oS [bT 17 .lss 16 15] [2,3,4,5,9,14,15,16,17] (sQ (cD 17 .skip (.exit 0)) dI))))) qC
def AfL:IC:=oS [bX 4 0,bX 5 1,mC 8 (.b false)] [2,3,4,5] (oS [o1 12 (.mkm .mkmap []),m1 9 12] [2,3,4,5,9] AeV)
def AvL:List R:=[.t 8]
def Azj:=Ao dR.eq_1<|Ao dI.eq_1<|Ao qC.eq_1<|Ao AeV.eq_1<|AJ AfL.eq_1
theorem AoJ:Ar π 93 58 AfL AvL=true:=by kernel_rfl
def fP:IC:=oS [fA 81 10 0,l1 82 81,bZ 83 .neq 82 11,m1 84 83,D0 85 84 10 2,Dm 86 84 85,gT 87 84 (.bin .neq (.t 86) (.c (.s []))),pA 88 84 87] [1,2,3,4,10,11,12,13,88] (cD 88 (oP [fA 89 4 0,l1 90 89,fA 91 10 2,l1 92 91,o0 (.wrm (.mput .str) (.t 90) [.t 92,.c (.b true)])] [1,2,3,4,11,12,13]) .skip)
def sM:IC:=sQ (oS [fA 65 10 0,l1 66 65,q1 67 89 66,m1 68 67,B0 69 68 2,Dn 70 68 .geq 69 8,B0 71 68 70,gF 72 71 (.load (.t 4) 1 true),gF 73 71 (.load (.t 10) 6 true),Bn 74 71 2,Dv 75 71 .add 74 1,Bn 76 71 3,gF 77 71 (.calls 93 [.t 72,.t 73,.t 75,.t 76]),gF 78 71 (.not (.t 77)),gT 79 68 (.pick (.t 71) (.c (.b true)) (.t 78)),pA 80 68 79] [1,2,3,4,10,11,12,13,80] (cD 80 (oR [mC 8 (.b false)] [8]) .skip)) fP
def d8:IC:=sQ (oS [fA 48 10 0,l1 49 48,bZ 50 .eql 49 11,m1 51 50,B0 52 51 2,Dn 53 51 .geq 52 8,B0 54 51 53,gF 55 54 (.load (.t 4) 1 true),CG 56 54 10 5,CM 57 54 56,Bn 58 54 2,Dv 59 54 .add 58 1,Bn 60 54 3,gF 61 54 (.calls 67 [.t 55,.t 57,.t 59,.t 60]),gF 62 54 (.not (.t 61)),gT 63 51 (.pick (.t 54) (.c (.b true)) (.t 62)),pA 64 51 63] [1,2,3,4,10,11,12,13,64] (cD 64 (oR [mC 8 (.b false)] [8]) .skip)) sM
def gA:IC:=sQ (oS [lA 18 10 6,q1 19 92 18,nT 20 19,m1 21 20,CG 22 21 10 0,CM 23 21 22,Dv 24 21 .eql 23 10,Bn 25 21 24,B0 26 25 3,gT 27 25 (.not (.t 26)),gF 28 21 (.pick (.t 25) (.t 27) (.c (.b false))),pO 29 21 28,m1 30 29,Bn 31 30 9,Dv 32 30 .gtr 31 0,Bn 33 30 32,D0 34 33 10 0,Dm 35 33 34,Dn 36 33 .eql 35 1,gF 37 30 (.pick (.t 33) (.t 36) (.c (.b false))),Bn 38 30 37,B0 39 38 1,B0 40 38 9,Dn 41 38 .sub 40 1,gT 42 38 (.iaddr (.t 39) (.t 41) 74 6),D0 43 38 42 0,Dm 44 38 43,Dn 45 38 .eql 44 1,gF 46 30 (.pick (.t 38) (.t 45) (.c (.b false))),pO 47 30 46] [1,2,3,4,10,11,12,13,47] (cD 47 (oR [mC 8 (.b false)] [8]) .skip)) d8
def qK:IC:=sQ (.block 1 (oS [m1 15 13,iA 16 11 13 74 6,lA 17 16 6,o1 10 (.alloc (.agg [.i .i64 0,.s [],.s [],.s [],.nil,.nil])),m1 9 15,sT 10 17 6] [1,2,3,4,9,10,11,12,13] gA)) (oP [bZ 93 .add 13 1,m1 13 93] [1,2,3,4,11,12,13])
def Aee:IC:=sQ (oS [m1 11 1,nL 12 11,mZ 13 0] [1,2,3,4,11,12,13] (.block 0 (.loop (oS [bT 14 .lss 13 12] [1,2,3,4,11,12,13,14] (sQ (cD 14 .skip (.exit 0)) qK))))) (oR [mC 8 (.b true)] [8])
def Aeo:IC:=oS [bX 4 0,mC 8 (.b false)] [1,2,3,4] Aee
def AvG:List R:=[.t 8]
def Azb:=Ao fP.eq_1<|Ao sM.eq_1<|Ao d8.eq_1<|Ao gA.eq_1<|Ao qK.eq_1<|Ao Aee.eq_1<|AJ Aeo.eq_1
theorem Aq9:Ar π 67 94 Aeo AvG=true:=by kernel_rfl
def AdB:IC:=oR [o1 1 (.mkm .mkmap []),o0 (.wrm (.mput .str) (.t 1) [.c (.s [110,117,109,98,101,114]),ci 3]),o0 (.wrm (.mput .str) (.t 1) [.c (.s [117,110,105,116]),ci 4]),o0 (.wrm (.mput .str) (.t 1) [.c (.s [100,97,116,101]),ci 5]),o0 (.wrm (.mput .str) (.t 1) [.c (.s [108,105,115,116]),ci 6]),o0 (.wrm (.mput .str) (.t 1) [.c (.s [112,108,117,114,97,108]),ci 7]),o0 (.wrm (.mput .str) (.t 1) [.c (.s [111,114,100,105,110,97,108]),ci 8]),o0 (.wrm (.mput .str) (.t 1) [.c (.s [115,101,108,101,99,116]),ci 9]),m1 2 1,m1 0 2] [0]
def Agt:IC:=oS [mC 0 .nm] [] AdB
def Awc:List R:=[.t 0]
def Azn:=Ao AdB.eq_1<|AJ Agt.eq_1
theorem Anu:Ar π 88 3 Agt Awc=true:=by kernel_rfl
def y7:IC:=.ops [m1 96 3,fA 97 5 2,l1 98 97,nS 99 98,o1 100 (.bin .add (ci 2) (.t 99)),fA 101 5 5,l1 102 101,q1 103 59 102,bT 104 .add 100 103,bT 105 .add 96 104,m1 3 105] [3,10,11,12] [[1,2],[2,3],[3,4],[5,6],[6,7],[4,8],[7,8],[0,9],[8,9],[0,10],[9,10]]
def qW:IC:=oS [m1 86 3,fA 87 5 2,l1 88 87,nS 89 88,o1 90 (.bin .add (ci 3) (.t 89)),bT 91 .add 86 90,m1 3 91] [3,5,10,11,12] (oS [fA 92 5 5,l1 93 92,nL 94 93,bZ 95 .gtr 94 0] [3,5,10,11,12,95] (cD 95 y7 .skip))
def jZ:IC:=oS [m1 31 7,fA 32 5 0,l1 33 32,bT 34 .eql 31 33] [3,5,6,10,11,12,25,34] (cD 34 (oP [m1 35 3,m1 36 6,nS 37 36,o1 38 (.bin .add (ci 2) (.t 37)),bT 39 .add 35 38,m1 3 39] [3,5,10,11,12,25]) .skip)
def mT:IC:=sQ (.mnext 26 27 (.t 25) [3,5,10,11,12,25,27]) (sQ (cD 27 .skip (.exit 3)) (.block 4 (oS [o1 28 (.mentry (.t 25)),xT 29 28 0,xT 30 28 1,m1 6 29,m1 7 30] [3,5,6,7,10,11,12,25] jZ)))
def fM:IC:=.ops [m1 61 3,fA 62 9 0,l1 63 62,nS 64 63,o1 65 (.bin .add (ci 4) (.t 64)),fA 66 9 1,l1 67 66,q1 68 59 67,bT 69 .add 65 68,bT 70 .add 61 69,m1 3 70] [3,10,11,12,55,56,57] [[1,2],[2,3],[3,4],[5,6],[6,7],[4,8],[7,8],[0,9],[8,9],[0,10],[9,10]]
def rN:IC:=sQ (.block 6 (oS [iA 59 55 57 76 2,lA 60 59 2,o1 9 (.alloc (.agg [.s [],.nil])),sT 9 60 2] [3,9,10,11,12,55,56,57] fM)) (oP [bZ 71 .add 57 1,m1 57 71] [3,10,11,12,55,56,57])
def nM:IC:=oS [fA 54 5 4,l1 55 54,nL 56 55,mZ 57 0] [3,10,11,12,55,56,57] (.block 5 (.loop (oS [bT 58 .lss 57 56] [3,10,11,12,55,56,57,58] (sQ (cD 58 .skip (.exit 5)) rN))))
def mF:IC:=sQ (oS [fA 40 5 3,l1 41 40,bC 42 .neq 41 (.s [])] [3,5,10,11,12,42] (cD 42 (oP [m1 43 3,fA 44 5 3,l1 45 44,nS 46 45,o1 47 (.bin .add (ci 2) (.t 46)),bT 48 .add 43 47,m1 3 48] [3,5,10,11,12]) .skip)) (sQ (oS [fA 49 5 0,l1 50 49,q1 51 89 50] [3,5,10,11,12,51] (cD 51 (oP [m1 52 3,bZ 53 .add 52 1,m1 3 53] [3,5,10,11,12]) .skip)) nM)
def tD:IC:=oS [m1 18 3,fA 19 5 2,l1 20 19,nS 21 20,o1 22 (.bin .add (ci 2) (.t 21)),bT 23 .add 18 22,m1 3 23] [3,5,10,11,12] (sQ (oS [o1 24 (.calln 88 []),o1 25 (.mrange (.t 24))] [3,5,10,11,12,25] (.block 3 (.loop mT))) mF)
def xE:IC:=cD 72 (oP [m1 74 3,fA 75 5 1,l1 76 75,q1 77 87 76,nS 78 77,bT 79 .add 74 78,m1 3 79] [3,10,11,12]) (oS [bZ 81 .eql 17 10,m1 80 81] [3,5,10,11,12,17,80] (cD 80 (oP [m1 82 3,bZ 83 .add 82 1,m1 3 83] [3,10,11,12]) (oS [bZ 85 .eql 17 11,m1 84 85] [3,5,10,11,12,84] (cD 84 qW tD))))
def yR:IC:=sQ (.block 1 (oS [iA 14 10 12 74 6,lA 15 14 6,o1 5 (.alloc (.agg [.i .i64 0,.s [],.s [],.s [],.nil,.nil])),sT 5 15 6] [3,5,10,11,12] (oS [fA 16 5 0,l1 17 16] [3,5,10,11,12,17] (.block 2 (oS [bZ 73 .eql 17 1,m1 72 73] [3,5,10,11,12,17,72] xE))))) (oP [bZ 106 .add 12 1,m1 12 106] [3,10,11,12])
def Afd:IC:=sQ (oS [m1 10 0,nL 11 10,mZ 12 0] [3,10,11,12] (.block 0 (.loop (oS [bT 13 .lss 12 11] [3,10,11,12,13] (sQ (cD 13 .skip (.exit 0)) yR))))) (oR [m1 107 3,m1 2 107] [2])
def AgC:IC:=oS [mZ 2 0] [0] (oS [mZ 3 0] [0,3] Afd)
def Auk:List R:=[.t 2]
def AyD:=Ao y7.eq_1<|Ao qW.eq_1<|Ao jZ.eq_1<|Ao mT.eq_1<|Ao fM.eq_1<|Ao rN.eq_1<|Ao nM.eq_1<|Ao mF.eq_1<|Ao tD.eq_1<|Ao xE.eq_1<|Ao yR.eq_1<|Ao Afd.eq_1<|AJ AgC.eq_1
theorem ApS:Ar π 59 108 AgC Auk=true:=by kernel_rfl
def Ad6:IC:=oR [lA 8 5 1,m1 9 0,m1 10 1,o1 11 (.calls 67 [.t 8,.t 9,ci 0,.t 10]),m1 12 11,D0 13 12 5 0,Dm 14 12 13,gT 15 12 (.rdm .mlen (.t 14) []),Dn 16 12 .leq 15 20,pA 17 12 16,m1 18 17,B0 19 18 0,gT 20 18 (.call 59 [.t 19]),Dn 21 18 .leq 20 4000,pA 22 18 21,m1 4 22] [4]
def Aga:IC:=oS [mC 4 (.b false)] [0,1] (oS [o1 6 (.mkm .mkmap []),o1 7 (.build [.nm] [(0,1,.t 6)]),o1 5 (.alloc (.agg [.nm])),sT 5 7 1] [0,1,5] Ad6)
def Av1:List R:=[.t 4]
def Ay7:=Ao Ad6.eq_1<|AJ Aga.eq_1
theorem Aqn:Ar π 51 23 Aga Av1=true:=by kernel_rfl
def Aex:IC:=oS [mC 2 (.b false)] [0] (oR [m1 3 0,o1 4 (.call 51 [.t 3,.c (.b false)]),m1 2 4] [2])
def AtF:List R:=[.t 2]
def Ayf:=AJ Aex.eq_1
theorem Aos:Ar π 31 5 Aex AtF=true:=by kernel_rfl
attribute[push_cast]AvL Azj AvG Azb Awc Azn Auk AyD Av1 Ay7 AtF Ayf
end Go.Ir
section
namespace Go.Ir
open Go.Proofs
variable(O:World)
mutual
def Al.chk:Al->Int->Bool->List Ad->Bool×List Ad
 | ⟨k,t,b,st,cs,ps⟩,d,c,l=>
  match(if k==11 then(if decide (d>=8) then(false,l) else Ch ps (d+1) c false l) else(true,l)) with
  | (false,l1)=>(false,l1)
  | (true,l1)=>match(if Bk k then(if decide (d>=8) then(false,l1) else Fj cs k (d+1) c cs.length [] l1) else(true,l1)) with
   | (false,a)=>(false,a)
   | (true,a)=>(true,if !(k==11)&&!(b==[]) then cA b a else a)
def Ch:List Al->Int->Bool->Bool->List Ad->Bool×List Ad
 | [],_,_,_,l=>(true,l)
 | p::ps,d,c,a,l=>
  if !p.fieldsB||(p.kind==10&&!c)||(a&&p.kind==1) then(false,l) else
  match p.chk d c l with
  | (false,l1)=>(false,l1)
  | (true,l1)=>Ch ps d c (p.kind==1) l1
def Fj:List (Ad×List Al)->Int->Int->Bool->Nat->List Ad->List Ad->Bool×List Ad
 | [],_,_,_,n,seen,l=>(decide ((n:Int)<=20)&&seen.contains Cb,l)
 | (key,ps)::cs,k,d,c,n,seen,l=>
  if !Lx k key||seen.contains key then(false,l) else
  match Ch ps d (c||(k !=9)) false l with
  | (false,l1)=>(false,l1)
  | (true,l1)=>Fj cs k d c n (seen++[key]) l1
end
theorem Al.chk_eq(p:Al) d c l:p.chk d c l =
  match(if p.kind==11 then(if decide (d>=8) then(false,l) else Ch p.parts (d+1) c false l) else(true,l)) with
  | (false,l1)=>(false,l1)
  | (true,l1)=>match(if Bk p.kind then(if decide (d>=8) then(false,l1) else Fj p.cases p.kind (d+1) c p.cases.length [] l1) else(true,l1)) with
   | (false,a)=>(false,a)
   | (true,a)=>(true,if !(p.kind==11)&&!(p.name==[]) then cA p.name a else a):=by cases p;simp only[Al.chk]
theorem Nb p ps d c a l:Ch (p::ps) d c a l =
  if !p.fieldsB||(p.kind==10&&!c)||(a&&p.kind==1) then(false,l) else
  match p.chk d c l with
  | (false,l1)=>(false,l1)
  | (true,l1)=>Ch ps d c (p.kind==1) l1:=by simp only[Ch]
theorem Mv(x:AR)(cs:List AR) k d c n seen l:Fj (x::cs) k d c n seen l =
  if !Lx k x.1||seen.contains x.1 then(false,l) else
  match Ch x.2 d (c||(k !=9)) false l with
  | (false,l1)=>(false,l1)
  | (true,l1)=>Fj cs k d c n (seen++[x.1]) l1:=by have ⟨a,b⟩:=x;simp only[Fj]
theorem ON{id:Id}{a}(h:id.1<a) j:((a,j)=id)=False:=by grind
theorem Mg{id:Id}{a}(h:id.1<a) j:(id=(a,j))=False:=by grind
theorem Ajx{id e e'}:∀i,lk [(id,e')] i≠none->lk [(id,e)] i≠none:=by intro i h;simp only[lk] at h⊢;grind
theorem zT(p:Al) d c l id (M:p.wt<=2^24)(hp:∀x∈p.cases,∀l,An π O 67 [.agg [.arr id],.sl (x.2.map Al.enc),.i .i64 d,.b (c||(p.kind !=9))] [(id,.map (CQ l))] (.b (Ch x.2 d (c||(p.kind !=9)) false l).1) [(id,.map (CQ (Ch x.2 d (c||(p.kind !=9)) false l).2))]) :
  An π O 93 [.agg [.arr id],p.enc,.i .i64 d,.b c] [(id,.map (CQ l))] (.b (Fj p.cases p.kind d c p.cases.length [] l).1) [(id,.map (CQ (Fj p.cases p.kind d c p.cases.length [] l).2))]:=by
 rw[p.wt_eq] at M;have T:=Fn p.cases;generalize hS:Fj p.cases p.kind d c p.cases.length [] l=S;refine Ah (vs:=[.b S.1]) AoJ (by simp) Ajx λn0 E=>?_;have D:id.1<n0:=E id (.map (CQ l)) (by simp[lk]);clear E;rw[Al.enc_eq];have o:∀j,((n0,j)=id)=False:=λj=>ON D j;have e:∀j,(id=(n0,j))=False:=λj=>Mg D j;simp only[push_cast,seval,rq,o,e];intro k1 k2 k3;refine Ak p.cases.length (Inv:=λm st=>∃t y n' seen w A,p.cases=t++y/\m=y.length/\Fj y p.kind d c p.cases.length seen w=S/\id.1<A/\id.1<n'/\st=⟨[(2,.i .i64 d),(3,.b c),(4,.ref (n0,4) 0),(5,.ref (n0,5) 0),(9,.arr (A,12)),(14,.sl (p.cases.map AR.enc)),(15,.i .i64 p.cases.length),(16,.i .i64 t.length)],[(id,.map (CQ w)),((A,12),.map (CQ seen)),((n0,5),.box p.v),((n0,4),.box (.agg [.arr id]))],n'⟩) ⟨_,Aj.drop (pK (σ:=[_,_,_]) ?_) (AfJ _),[],p.cases,_,[],l,_,rfl,rfl,hS,?_,?_,rfl⟩ ?_
 .have:=ON (id:=id) (a:=n0+1+k1) (by omega);simp[o,this]
 .omega
 .omega
 clear hS;rintro m _ ⟨t,y,n',seen,w,A,f,rfl,z,B,U,rfl⟩;unfold Al.v;have u:∀j,((A,j)=id)=False:=λj=>ON B j;have g:∀j,(id=(A,j))=False:=λj=>Mg B j;have r:∀k j,((n'+1+k,j)=id)=False:=λk j=>ON (by omega) j;have h:∀k j,(id=(n'+1+k,j))=False:=λk j=>Mg (by omega) j;cases y with
 | nil=>
  rw[Fj] at z;subst z;rcases Gq Cb seen with⟨h1,_,i,h2,_⟩|⟨h1,_,h2⟩
  all_goals unfold Cb at h2
  .skip;simp only[push_cast,seval,rq,o,e,u,g,r,h,h2,f]
   repeat' (first|(((first|apply Ac|apply Af|apply Ag)<;>intro _h)<;>simp only[push_cast,seval,rq,_h,o,e,u,g,r,h,h2])|intro _)
   all_goals (refine AC ?_ Cm;simp only[By,h1,Agp,AfT,AmS,Am0,rq];done)
  .skip;simp only[push_cast,seval,rq,o,e,u,g,r,h,h2,f]
   repeat' (first|(((first|apply Ac|apply Af|apply Ag)<;>intro _h)<;>simp only[push_cast,seval,rq,_h,o,e,u,g,r,h,h2])|intro _)
   all_goals (refine AC ?_ Cm;simp only[By,h1,Agp,AfT,AmS,Am0,rq];done)
 | cons x y=>
  have N:=Ay f;have C:x∈p.cases:=by rw[f];simp
  have W:=DM C;have I:=Aj6 O p.kind x.1 (by omega);have H:c=true->An π O 67 [.agg [.arr id],.sl (x.2.map Al.enc),.i .i64 d,.b true] [(id,.map (CQ w))] (.b (Ch x.2 d (c||(p.kind !=9)) false w).1) [(id,.map (CQ (Ch x.2 d (c||(p.kind !=9)) false w).2))]:=by intro F;have:=hp x C w;rw[F] at this⊢;exact this
  have G:c=false->An π O 67 [.agg [.arr id],.sl (x.2.map Al.enc),.i .i64 d,.b (p.kind !=9)] [(id,.map (CQ w))] (.b (Ch x.2 d (c||(p.kind !=9)) false w).1) [(id,.map (CQ (Ch x.2 d (c||(p.kind !=9)) false w).2))]:=by intro F;have:=hp x C w;rw[F] at this⊢;exact this
  rw[Mv] at z;clear hp;generalize Ch x.2 d (c||(p.kind !=9)) false w=R at *;generalize Lx p.kind x.1=L at *;have K:∀k j,∀q∈[((n'+1+k,j),Be.box (.agg [V.s x.fst,V.sl (List.map Al.enc x.snd)]))]++[((A,12),Be.map (CQ seen)),((n0,5),.box (.agg [V.i IntKind.i64 p.kind,V.s p.text,V.s p.name,V.s p.style,V.sl (List.map AR.enc (t++x::y)),V.sl (List.map Al.enc p.parts)])),((n0,4),.box (.agg [.arr id]))],q.1≠id:=by
   intro k j q J;simp at J;rcases J with rfl|rfl|rfl|rfl
   all_goals simp[o,u,r]
  rcases Gq x.1 seen with⟨h1,_,i,h2,_⟩|⟨h1,_,h2⟩
  all_goals rw[h1] at z
  .rw[Atc,Aiv rfl] at z;subst z;simp only[push_cast,seval,rq,f,o,e,u,g,r,h,h2,Aa x (dn:=t) (by omega),Bg]
   repeat' (first|(((first|apply Ac|apply Af|apply Ag)<;>intro _h)<;>simp only[push_cast,seval,rq,_h,f,o,e,u,g,r,h,h2,Aa x (dn:=t) (by omega),Bg])|(refine Ab (by exact I) ?_;simp only[push_cast,seval,rq,f,o,e,u,g,r,h,h2,Aa x (dn:=t) (by omega),Bg])|intro _)
   all_goals (refine AC ?_ (Ed (r _ _));simp only[By,Agp];done)
  .rw[AsM] at z;obtain⟨X,rl⟩:=R;cases L
   all_goals cases X
   all_goals
    simp only[Amo,Ain,Agp,AfT,Agw] at z;skip;simp only[push_cast,seval,rq,f,o,e,u,g,r,h,h2,Aa x (dn:=t) (by omega),Bg]
    repeat' (first|(((first|apply Ac|apply Af|apply Ag)<;>intro _h)<;>simp only[push_cast,seval,rq,_h,f,o,e,u,g,r,h,h2,Aa x (dn:=t) (by omega),Bg])|(refine Ab (by exact I) ?_;simp only[push_cast,seval,rq,f,o,e,u,g,r,h,h2,Aa x (dn:=t) (by omega),Bg])|intro _)
    all_goals (try (first|refine El (pre:=[_]) (H (by assumption)) (K _ _) ?_|refine El (pre:=[_]) (G (by assumption)) (K _ _) ?_))
    all_goals (try simp only[push_cast,seval,rq,f,o,e,u,g,r,h,h2,Aa x (dn:=t) (by omega),Bg])
    repeat' (first|(((first|apply Ac|apply Af|apply Ag)<;>intro _h)<;>simp only[push_cast,seval,rq,_h,f,o,e,u,g,r,h,h2,Aa x (dn:=t) (by omega),Bg])|intro _)
    all_goals (try (exfalso;simp_all;done))
    all_goals subst_vars
    all_goals (first|(refine AC (by simp[get]) ?_;first|exact Cm|exact Ed (r _ _))|exact⟨_,_,Adx _,Aj.dropM (by simp[lk]) (AfJ _),t++[x],y,_,seen++[x.1],rl,A,by simp,rfl,by rw[f],B,by omega,rfl⟩|skip)
end Go.Ir
end
namespace Go.Ir
open Go.Proofs
variable(O:World)
theorem uT{k}(h:Bk k=true):(k==1)=false/\(k==10)=false/\(k==11)=false/\(k !=11)=true:=by unfold Bk at h;grind
theorem AnD:∀(N:Nat) (ps:List Al) (d:Int) (c:Bool) (l:List Ad) (id:Id),AV ps<N->AV ps<=2^24->0<=d->d<=2^30->
  An π O 67 [.agg [.arr id],.sl (ps.map Al.enc),.i .i64 d,.b c] [(id,.map (CQ l))] (.b (Ch ps d c false l).1) [(id,.map (CQ (Ch ps d c false l).2))]:=by
 intro N
 induction N with
 | zero=>intro ps d c l id h;omega
 | succ N V=>
 intro ps d c l id hN hb ae af;have aa:=Fp ps;generalize hS:Ch ps d c false l=S;refine Ah (vs:=[.b S.1]) Aq9 (by simp) Ajx λn0 T=>?_;have M:id.1<n0:=T id (.map (CQ l)) (by simp[lk]);clear T;have u:∀j,((n0,j)=id)=False:=λj=>ON M j;have e:∀j,(id=(n0,j))=False:=λj=>Mg M j;simp only[push_cast,seval,rq,u,e];intro k1 k2;refine Ak ps.length (Inv:=λm st=>∃dn f n' I,ps=dn++f/\m=f.length/\Ch f d c (O8 dn) I=S/\id.1<n'/\st=⟨[(1,.sl (ps.map Al.enc)),(2,.i .i64 d),(3,.b c),(4,.ref (n0,4) 0),(11,.sl (ps.map Al.enc)),(12,.i .i64 ps.length),(13,.i .i64 dn.length)],[(id,.map (CQ I)),((n0,4),.box (.agg [.arr id]))],n'⟩) ⟨_,Aj.drop (pK (σ:=[_]) ?_) (AfJ _),[],ps,_,l,rfl,rfl,hS,?_,rfl⟩ ?_
 .simp[u]
 .omega
 clear hS;rintro m _ ⟨dn,f,n',I,v,rfl,o,ag,rfl⟩;have r:∀k j,((n'+1+k,j)=id)=False:=λk j=>ON (by omega) j;have a:∀k j,(id=(n'+1+k,j))=False:=λk j=>Mg (by omega) j;cases f with
 | nil=>
  rw[Ch] at o;subst o;simp only[push_cast,seval,rq,u,e,r,a,v]
  repeat' (first|(((first|apply Ac|apply Af|apply Ag)<;>intro _h)<;>simp only[push_cast,seval,rq,_h,u,e,r,a])|intro _)
  all_goals (refine AC (by simp[get]) Cm)
 | cons p f=>
  have ad:=Ay v;have hw:=Gi (ps:=ps) (p:=p) (by rw[v];simp);have ah:=hw;rw[p.wt_eq] at hw;have s:O8 (dn++[p])=(p.kind==1):=by simp[O8]
  rw[Nb] at o;have K:(decide ((dn.length:Int)>0)=false/\O8 dn=false)\/(∃q:Al,decide ((dn.length:Int)>0)=true/\(List.map Al.enc (dn++p::f))[(IntKind.i64.wrap ((dn.length:Int)-1)).toNat]?=some q.enc/\(0<=IntKind.i64.wrap ((dn.length:Int)-1))=True/\O8 dn=(q.kind==1)):=by
   rcases A06 dn with rfl|⟨Z,q,rfl⟩
   .exact .inl ⟨rfl,rfl⟩
   .rw[A07] at *;have:IntKind.i64.wrap (((Z++[q]).length:Int)-1)=(Z.length:Int):=by rw[wrap64]<;>simp at *<;>omega
    refine .inr ⟨q,by simp<;>omega,?_,?_,by simp[O8]⟩
    .rw[this];simp
    .rw[this];simp
  have B:=zB O p (by unfold Am;omega) (by unfold Am;omega);rw[Al.enc_eq] at B;have t:=DQ O p.kind;have w:IntKind.i64.wrap (d+1)=d+1:=wrap64 (by omega) (by omega);rw[p.chk_eq] at o;have J:∀k j (X:Be),∀q∈[((n'+1+k,j),X)]++[((n0,4),Be.box (.agg [.arr id]))],q.1≠id:=by
   intro k j X q hq;simp at hq;rcases hq with rfl|rfl
   all_goals simp[u,r]
  have H:d<8/\decide (d>=8)=false\/decide (d>=8)=true:=by
   by_cases h:d<8
   .exact .inl ⟨h,by simp;omega⟩
   .exact .inr (by simp;omega)
  by_cases QA:p.kind=11
  .have E:=fun(H:d<8)=>V p.parts (d+1) c I id (by omega) (by omega) (by omega) (by omega);have Y:Bk 11=false:=rfl;have q1:(p.kind==1)=false:=by rw[QA];rfl
   rw[QA] at o B t;rw[Y] at t o;clear K;generalize p.fieldsB=L at *;generalize Ch p.parts (d+1) c false I=R at *;obtain⟨W,rl⟩:=R;cases L
   .simp only[bq,Agp,AfT,rb,reduceCtorEq] at o;simp only[push_cast,seval,rq,v,u,e,r,a,Aa p (dn:=dn) (by omega),w,QA,rb,rn]
    repeat' (first|(((first|apply Ac|apply Af|apply Ag)<;>intro _h)<;>simp only[push_cast,seval,rq,_h,v,u,e,r,a,Aa p (dn:=dn) (by omega),w,QA,rb,rn])|((first|refine Ab (by exact B) ?_|refine Ab (by exact t) ?_);simp only[push_cast,seval,rq,v,u,e,r,a,Aa p (dn:=dn) (by omega),w,QA,rb,rn])|intro _)
    all_goals (first|(subst o;refine AC (by simp[get]) ?_;first|exact Cm|exact Ed (r _ _))|exact⟨_,_,Adx _,Aj.dropM (by simp[lk]) (AfJ _),dn++[p],f,_,_,by simp,rfl,by rw[s,q1];exact o,by omega,rfl⟩|exact⟨_,_,Adx _,Aj.drop1 (by simp[lk,a]) (AfJ _),dn++[p],f,_,_,by simp,rfl,by rw[s,q1];exact o,by omega,rfl⟩|skip)
   .rcases H with⟨H,e8⟩|e8
    .cases W
     all_goals
      rw[e8] at o;simp only[bq,Agp,AfT,rb,reduceCtorEq] at o;skip;simp only[push_cast,seval,rq,v,u,e,r,a,Aa p (dn:=dn) (by omega),w,QA,rb,rn,e8]
      repeat' (first|(((first|apply Ac|apply Af|apply Ag)<;>intro _h)<;>simp only[push_cast,seval,rq,_h,v,u,e,r,a,Aa p (dn:=dn) (by omega),w,QA,rb,rn,e8])|((first|refine Ab (by exact B) ?_|refine Ab (by exact t) ?_);simp only[push_cast,seval,rq,v,u,e,r,a,Aa p (dn:=dn) (by omega),w,QA,rb,rn,e8])|intro _)
      all_goals (refine El (pre:=[_]) (E H) (J _ _ _) ?_;simp only[push_cast,seval,rq,v,u,e,r,a,Aa p (dn:=dn) (by omega),w,QA,rb,rn,e8])
      repeat' (first|(((first|apply Ac|apply Af|apply Ag)<;>intro _h)<;>simp only[push_cast,seval,rq,_h,v,u,e,r,a,Aa p (dn:=dn) (by omega),w,QA,rb,rn,e8])|(refine Ab (by exact t) ?_;simp only[push_cast,seval,rq,v,u,e,r,a,Aa p (dn:=dn) (by omega),w,QA,rb,rn,e8])|intro _)
      all_goals (first|(subst o;refine AC (by simp[get]) ?_;first|exact Cm|exact Ed (r _ _))|exact⟨_,_,Adx _,Aj.dropM (by simp[lk]) (AfJ _),dn++[p],f,_,_,by simp,rfl,by rw[s,q1];exact o,by omega,rfl⟩|exact⟨_,_,Adx _,Aj.drop1 (by simp[lk,a]) (AfJ _),dn++[p],f,_,_,by simp,rfl,by rw[s,q1];exact o,by omega,rfl⟩|skip)
    .rw[e8] at o;simp only[bq,Agp,AfT,rb,reduceCtorEq] at o;simp only[push_cast,seval,rq,v,u,e,r,a,Aa p (dn:=dn) (by omega),w,QA,rb,rn,e8]
     repeat' (first|(((first|apply Ac|apply Af|apply Ag)<;>intro _h)<;>simp only[push_cast,seval,rq,_h,v,u,e,r,a,Aa p (dn:=dn) (by omega),w,QA,rb,rn,e8])|((first|refine Ab (by exact B) ?_|refine Ab (by exact t) ?_);simp only[push_cast,seval,rq,v,u,e,r,a,Aa p (dn:=dn) (by omega),w,QA,rb,rn,e8])|intro _)
     all_goals (first|(subst o;refine AC (by simp[get]) ?_;first|exact Cm|exact Ed (r _ _))|exact⟨_,_,Adx _,Aj.dropM (by simp[lk]) (AfJ _),dn++[p],f,_,_,by simp,rfl,by rw[s,q1];exact o,by omega,rfl⟩|exact⟨_,_,Adx _,Aj.drop1 (by simp[lk,a]) (AfJ _),dn++[p],f,_,_,by simp,rfl,by rw[s,q1];exact o,by omega,rfl⟩|skip)
  .have g:(p.kind==11)=false:=by simpa using QA
   have z:(p.kind !=11)=true:=by simp[bne,g]
   rcases Ayd (Bk p.kind) with U|U
   .obtain⟨q1,y,_,_⟩:=uT U;have E:=fun(H:d<8)=>zT O p (d+1) c I id (by omega) (λx J l=>V x.2 (d+1) _ l id (by have:=DM J;omega) (by have:=DM J;omega) (by omega) (by omega));clear K V;rw[Al.enc_eq] at E;rw[U] at t o;simp only[bq,Agp,AfT,rb,reduceCtorEq,q1,y,g] at o;generalize p.fieldsB=L at *;generalize Fj p.cases p.kind (d+1) c p.cases.length [] I=R at *;obtain⟨W,rl⟩:=R;cases L
    .simp only[bq,Agp,AfT,rb,reduceCtorEq,q1,y,g] at o;simp only[push_cast,seval,rq,v,u,e,r,a,Aa p (dn:=dn) (by omega),w,q1,y,g,z,rb,rn]
     repeat' (first|(((first|apply Ac|apply Af|apply Ag)<;>intro _h)<;>simp only[push_cast,seval,rq,_h,v,u,e,r,a,Aa p (dn:=dn) (by omega),w,q1,y,g,z,rb,rn])|((first|refine Ab (by exact B) ?_|refine Ab (by exact t) ?_);simp only[push_cast,seval,rq,v,u,e,r,a,Aa p (dn:=dn) (by omega),w,q1,y,g,z,rb,rn])|intro _)
     all_goals (first|(subst o;refine AC (by simp[get]) ?_;first|exact Cm|exact Ed (r _ _))|exact⟨_,_,Adx _,Aj.dropM (by simp[lk]) (AfJ _),dn++[p],f,_,_,by simp,rfl,by rw[s,q1];exact o,by omega,rfl⟩|exact⟨_,_,Adx _,Aj.drop1 (by simp[lk,a]) (AfJ _),dn++[p],f,_,_,by simp,rfl,by rw[s,q1];exact o,by omega,rfl⟩|skip)
    .rcases H with⟨H,e8⟩|e8
     .simp only[bq,Agp,AfT,rb,reduceCtorEq,e8] at o;cases W
      .simp only[bq,Agp,AfT,rb,reduceCtorEq] at o;simp only[push_cast,seval,rq,v,u,e,r,a,Aa p (dn:=dn) (by omega),w,q1,y,g,z,rb,rn,e8]
       repeat' (first|(((first|apply Ac|apply Af|apply Ag)<;>intro _h)<;>simp only[push_cast,seval,rq,_h,v,u,e,r,a,Aa p (dn:=dn) (by omega),w,q1,y,g,z,rb,rn,e8])|((first|refine Ab (by exact B) ?_|refine Ab (by exact t) ?_);simp only[push_cast,seval,rq,v,u,e,r,a,Aa p (dn:=dn) (by omega),w,q1,y,g,z,rb,rn,e8])|intro _)
       all_goals (refine El (pre:=[_]) (E H) (J _ _ _) ?_;simp only[push_cast,seval,rq,v,u,e,r,a,Aa p (dn:=dn) (by omega),w,q1,y,g,z,rb,rn,e8])
       repeat' (first|(((first|apply Ac|apply Af|apply Ag)<;>intro _h)<;>simp only[push_cast,seval,rq,_h,v,u,e,r,a,Aa p (dn:=dn) (by omega),w,q1,y,g,z,rb,rn,e8])|intro _)
       all_goals (first|(subst o;refine AC (by simp[get]) ?_;first|exact Cm|exact Ed (r _ _))|exact⟨_,_,Adx _,Aj.dropM (by simp[lk]) (AfJ _),dn++[p],f,_,_,by simp,rfl,by rw[s,q1];exact o,by omega,rfl⟩|exact⟨_,_,Adx _,Aj.drop1 (by simp[lk,a]) (AfJ _),dn++[p],f,_,_,by simp,rfl,by rw[s,q1];exact o,by omega,rfl⟩|skip)
      .simp only[bq,Agp,AfT,rb,reduceCtorEq] at o;rcases Ayd (p.name==[]) with A|A
       .simp only[bq,Agp,AfT,rb,reduceCtorEq,A] at o;simp only[push_cast,seval,rq,v,u,e,r,a,Aa p (dn:=dn) (by omega),w,q1,y,g,z,rb,rn,e8,A]
        repeat' (first|(((first|apply Ac|apply Af|apply Ag)<;>intro _h)<;>simp only[push_cast,seval,rq,_h,v,u,e,r,a,Aa p (dn:=dn) (by omega),w,q1,y,g,z,rb,rn,e8,A])|((first|refine Ab (by exact B) ?_|refine Ab (by exact t) ?_);simp only[push_cast,seval,rq,v,u,e,r,a,Aa p (dn:=dn) (by omega),w,q1,y,g,z,rb,rn,e8,A])|intro _)
        all_goals (refine El (pre:=[_]) (E H) (J _ _ _) ?_;simp only[push_cast,seval,rq,v,u,e,r,a,Aa p (dn:=dn) (by omega),w,q1,y,g,z,rb,rn,e8,A])
        repeat' (first|(((first|apply Ac|apply Af|apply Ag)<;>intro _h)<;>simp only[push_cast,seval,rq,_h,v,u,e,r,a,Aa p (dn:=dn) (by omega),w,q1,y,g,z,rb,rn,e8,A])|intro _)
        all_goals (first|(subst o;refine AC (by simp[get]) ?_;first|exact Cm|exact Ed (r _ _))|exact⟨_,_,Adx _,Aj.dropM (by simp[lk]) (AfJ _),dn++[p],f,_,_,by simp,rfl,by rw[s,q1];exact o,by omega,rfl⟩|exact⟨_,_,Adx _,Aj.drop1 (by simp[lk,a]) (AfJ _),dn++[p],f,_,_,by simp,rfl,by rw[s,q1];exact o,by omega,rfl⟩|skip)
       .simp only[bq,Agp,AfT,rb,reduceCtorEq,A] at o;rcases Gq p.name rl with⟨_,hpu,i,h2,h3⟩|⟨_,hpu,h2⟩
        .rw[hpu] at o;simp only[push_cast,seval,rq,v,u,e,r,a,Aa p (dn:=dn) (by omega),w,q1,y,g,z,rb,rn,e8,A,h2,h3]
         repeat' (first|(((first|apply Ac|apply Af|apply Ag)<;>intro _h)<;>simp only[push_cast,seval,rq,_h,v,u,e,r,a,Aa p (dn:=dn) (by omega),w,q1,y,g,z,rb,rn,e8,A,h2,h3])|((first|refine Ab (by exact B) ?_|refine Ab (by exact t) ?_);simp only[push_cast,seval,rq,v,u,e,r,a,Aa p (dn:=dn) (by omega),w,q1,y,g,z,rb,rn,e8,A,h2,h3])|intro _)
         all_goals (refine El (pre:=[_]) (E H) (J _ _ _) ?_;simp only[push_cast,seval,rq,v,u,e,r,a,Aa p (dn:=dn) (by omega),w,q1,y,g,z,rb,rn,e8,A,h2,h3])
         repeat' (first|(((first|apply Ac|apply Af|apply Ag)<;>intro _h)<;>simp only[push_cast,seval,rq,_h,v,u,e,r,a,Aa p (dn:=dn) (by omega),w,q1,y,g,z,rb,rn,e8,A,h2,h3])|intro _)
         all_goals (first|(subst o;refine AC (by simp[get]) ?_;first|exact Cm|exact Ed (r _ _))|exact⟨_,_,Adx _,Aj.dropM (by simp[lk]) (AfJ _),dn++[p],f,_,_,by simp,rfl,by rw[s,q1];exact o,by omega,rfl⟩|exact⟨_,_,Adx _,Aj.drop1 (by simp[lk,a]) (AfJ _),dn++[p],f,_,_,by simp,rfl,by rw[s,q1];exact o,by omega,rfl⟩|skip)
        .rw[hpu] at o;simp only[push_cast,seval,rq,v,u,e,r,a,Aa p (dn:=dn) (by omega),w,q1,y,g,z,rb,rn,e8,A,h2,Bg]
         repeat' (first|(((first|apply Ac|apply Af|apply Ag)<;>intro _h)<;>simp only[push_cast,seval,rq,_h,v,u,e,r,a,Aa p (dn:=dn) (by omega),w,q1,y,g,z,rb,rn,e8,A,h2,Bg])|((first|refine Ab (by exact B) ?_|refine Ab (by exact t) ?_);simp only[push_cast,seval,rq,v,u,e,r,a,Aa p (dn:=dn) (by omega),w,q1,y,g,z,rb,rn,e8,A,h2,Bg])|intro _)
         all_goals (refine El (pre:=[_]) (E H) (J _ _ _) ?_;simp only[push_cast,seval,rq,v,u,e,r,a,Aa p (dn:=dn) (by omega),w,q1,y,g,z,rb,rn,e8,A,h2,Bg])
         repeat' (first|(((first|apply Ac|apply Af|apply Ag)<;>intro _h)<;>simp only[push_cast,seval,rq,_h,v,u,e,r,a,Aa p (dn:=dn) (by omega),w,q1,y,g,z,rb,rn,e8,A,h2,Bg])|intro _)
         all_goals (first|(subst o;refine AC (by simp[get]) ?_;first|exact Cm|exact Ed (r _ _))|exact⟨_,_,Adx _,Aj.dropM (by simp[lk]) (AfJ _),dn++[p],f,_,_,by simp,rfl,by rw[s,q1];exact o,by omega,rfl⟩|exact⟨_,_,Adx _,Aj.drop1 (by simp[lk,a]) (AfJ _),dn++[p],f,_,_,by simp,rfl,by rw[s,q1];exact o,by omega,rfl⟩|skip)
     .simp only[bq,Agp,AfT,rb,reduceCtorEq,e8] at o;simp only[push_cast,seval,rq,v,u,e,r,a,Aa p (dn:=dn) (by omega),w,q1,y,g,z,rb,rn,e8]
      repeat' (first|(((first|apply Ac|apply Af|apply Ag)<;>intro _h)<;>simp only[push_cast,seval,rq,_h,v,u,e,r,a,Aa p (dn:=dn) (by omega),w,q1,y,g,z,rb,rn,e8])|((first|refine Ab (by exact B) ?_|refine Ab (by exact t) ?_);simp only[push_cast,seval,rq,v,u,e,r,a,Aa p (dn:=dn) (by omega),w,q1,y,g,z,rb,rn,e8])|intro _)
      all_goals (first|(subst o;refine AC (by simp[get]) ?_;first|exact Cm|exact Ed (r _ _))|exact⟨_,_,Adx _,Aj.dropM (by simp[lk]) (AfJ _),dn++[p],f,_,_,by simp,rfl,by rw[s,q1];exact o,by omega,rfl⟩|exact⟨_,_,Adx _,Aj.drop1 (by simp[lk,a]) (AfJ _),dn++[p],f,_,_,by simp,rfl,by rw[s,q1];exact o,by omega,rfl⟩|skip)
   .clear V;rw[U] at t o;generalize p.fieldsB=L at *;cases L
    .simp only[bq,Agp,AfT,rb,reduceCtorEq,g] at o;simp only[push_cast,seval,rq,v,u,e,r,a,Aa p (dn:=dn) (by omega),w,g,z,rb,rn]
     repeat' (first|(((first|apply Ac|apply Af|apply Ag)<;>intro _h)<;>simp only[push_cast,seval,rq,_h,v,u,e,r,a,Aa p (dn:=dn) (by omega),w,g,z,rb,rn])|((first|refine Ab (by exact B) ?_|refine Ab (by exact t) ?_);simp only[push_cast,seval,rq,v,u,e,r,a,Aa p (dn:=dn) (by omega),w,g,z,rb,rn])|intro _)
     all_goals (first|(subst o;refine AC (by simp[get]) ?_;first|exact Cm|exact Ed (r _ _))|exact⟨_,_,Adx _,Aj.dropM (by simp[lk]) (AfJ _),dn++[p],f,_,_,by simp,rfl,by rw[s];exact o,by omega,rfl⟩|exact⟨_,_,Adx _,Aj.drop1 (by simp[lk,a]) (AfJ _),dn++[p],f,_,_,by simp,rfl,by rw[s];exact o,by omega,rfl⟩|skip)
    .simp only[bq,Agp,AfT,rb,reduceCtorEq,g] at o;generalize F:Ch f d c (p.kind==1)=G at o;rcases K with⟨e1,hl⟩|⟨q,e1,C,D,hl⟩
     case' inl=>have C:=e1;have D:=e1
     all_goals rw[hl] at o
     all_goals rcases Ayd (p.name==[]) with A|A
     .simp only[bq,Agp,AfT,rb,reduceCtorEq,A] at o;skip;simp only[push_cast,seval,rq,v,u,e,r,a,Aa p (dn:=dn) (by omega),w,g,z,rb,rn,e1,C,D,A]
      repeat' (first|(((first|apply Ac|apply Af|apply Ag)<;>intro _h)<;>simp only[push_cast,seval,rq,_h,v,u,e,r,a,Aa p (dn:=dn) (by omega),w,g,z,rb,rn,e1,C,D,A])|((first|refine Ab (by exact B) ?_|refine Ab (by exact t) ?_);simp only[push_cast,seval,rq,v,u,e,r,a,Aa p (dn:=dn) (by omega),w,g,z,rb,rn,e1,C,D,A])|intro _)
      all_goals (try simp only[AuH,Ay1] at *)
      all_goals (try simp only[*,bq,Agp,AfT,rb,reduceCtorEq] at o)
      all_goals (first|(subst o;refine AC (by simp[get]) ?_;first|exact Cm|exact Ed (r _ _))|exact⟨_,_,Adx _,Aj.dropM (by simp[lk]) (AfJ _),dn++[p],f,_,_,by simp,rfl,by rw[s,F];exact o,by omega,rfl⟩|exact⟨_,_,Adx _,Aj.drop1 (by simp[lk,a]) (AfJ _),dn++[p],f,_,_,by simp,rfl,by rw[s,F];exact o,by omega,rfl⟩|skip)
     .rcases Gq p.name I with⟨_,hpu,i,h2,h3⟩|⟨_,hpu,h2⟩
      all_goals simp only[bq,Agp,AfT,rb,reduceCtorEq,A,hpu] at o
      .skip;simp only[push_cast,seval,rq,v,u,e,r,a,Aa p (dn:=dn) (by omega),w,g,z,rb,rn,e1,C,D,A,h2,h3]
       repeat' (first|(((first|apply Ac|apply Af|apply Ag)<;>intro _h)<;>simp only[push_cast,seval,rq,_h,v,u,e,r,a,Aa p (dn:=dn) (by omega),w,g,z,rb,rn,e1,C,D,A,h2,h3])|((first|refine Ab (by exact B) ?_|refine Ab (by exact t) ?_);simp only[push_cast,seval,rq,v,u,e,r,a,Aa p (dn:=dn) (by omega),w,g,z,rb,rn,e1,C,D,A,h2,h3])|intro _)
       all_goals (try simp only[AuH,Ay1] at *)
       all_goals (try simp only[*,bq,Agp,AfT,rb,reduceCtorEq] at o)
       all_goals (first|(subst o;refine AC (by simp[get]) ?_;first|exact Cm|exact Ed (r _ _))|exact⟨_,_,Adx _,Aj.dropM (by simp[lk]) (AfJ _),dn++[p],f,_,_,by simp,rfl,by rw[s,F];exact o,by omega,rfl⟩|exact⟨_,_,Adx _,Aj.drop1 (by simp[lk,a]) (AfJ _),dn++[p],f,_,_,by simp,rfl,by rw[s,F];exact o,by omega,rfl⟩|skip)
      .skip;simp only[push_cast,seval,rq,v,u,e,r,a,Aa p (dn:=dn) (by omega),w,g,z,rb,rn,e1,C,D,A,h2,Bg]
       repeat' (first|(((first|apply Ac|apply Af|apply Ag)<;>intro _h)<;>simp only[push_cast,seval,rq,_h,v,u,e,r,a,Aa p (dn:=dn) (by omega),w,g,z,rb,rn,e1,C,D,A,h2,Bg])|((first|refine Ab (by exact B) ?_|refine Ab (by exact t) ?_);simp only[push_cast,seval,rq,v,u,e,r,a,Aa p (dn:=dn) (by omega),w,g,z,rb,rn,e1,C,D,A,h2,Bg])|intro _)
       all_goals (try simp only[AuH,Ay1] at *)
       all_goals (try simp only[*,bq,Agp,AfT,rb,reduceCtorEq] at o)
       all_goals (first|(subst o;refine AC (by simp[get]) ?_;first|exact Cm|exact Ed (r _ _))|exact⟨_,_,Adx _,Aj.dropM (by simp[lk]) (AfJ _),dn++[p],f,_,_,by simp,rfl,by rw[s,F];exact o,by omega,rfl⟩|exact⟨_,_,Adx _,Aj.drop1 (by simp[lk,a]) (AfJ _),dn++[p],f,_,_,by simp,rfl,by rw[s,F];exact o,by omega,rfl⟩|skip)
     .simp only[bq,Agp,AfT,rb,reduceCtorEq,A] at o;skip;simp only[push_cast,seval,rq,v,u,e,r,a,Aa p (dn:=dn) (by omega),w,g,z,rb,rn,e1,C,D,A]
      repeat' (first|(((first|apply Ac|apply Af|apply Ag)<;>intro _h)<;>simp only[push_cast,seval,rq,_h,v,u,e,r,a,Aa p (dn:=dn) (by omega),w,g,z,rb,rn,e1,C,D,A])|((first|refine Ab (by exact B) ?_|refine Ab (by exact t) ?_);simp only[push_cast,seval,rq,v,u,e,r,a,Aa p (dn:=dn) (by omega),w,g,z,rb,rn,e1,C,D,A])|intro _)
      all_goals (try simp only[AuH,Ay1] at *)
      all_goals (try simp only[*,bq,Agp,AfT,rb,reduceCtorEq] at o)
      all_goals (first|(subst o;refine AC (by simp[get]) ?_;first|exact Cm|exact Ed (r _ _))|exact⟨_,_,Adx _,Aj.dropM (by simp[lk]) (AfJ _),dn++[p],f,_,_,by simp,rfl,by rw[s,F];exact o,by omega,rfl⟩|exact⟨_,_,Adx _,Aj.drop1 (by simp[lk,a]) (AfJ _),dn++[p],f,_,_,by simp,rfl,by rw[s,F];exact o,by omega,rfl⟩|skip)
     .rcases Gq p.name I with⟨_,hpu,i,h2,h3⟩|⟨_,hpu,h2⟩
      all_goals simp only[bq,Agp,AfT,rb,reduceCtorEq,A,hpu] at o
      .skip;simp only[push_cast,seval,rq,v,u,e,r,a,Aa p (dn:=dn) (by omega),w,g,z,rb,rn,e1,C,D,A,h2,h3]
       repeat' (first|(((first|apply Ac|apply Af|apply Ag)<;>intro _h)<;>simp only[push_cast,seval,rq,_h,v,u,e,r,a,Aa p (dn:=dn) (by omega),w,g,z,rb,rn,e1,C,D,A,h2,h3])|((first|refine Ab (by exact B) ?_|refine Ab (by exact t) ?_);simp only[push_cast,seval,rq,v,u,e,r,a,Aa p (dn:=dn) (by omega),w,g,z,rb,rn,e1,C,D,A,h2,h3])|intro _)
       all_goals (try simp only[AuH,Ay1] at *)
       all_goals (try simp only[*,bq,Agp,AfT,rb,reduceCtorEq] at o)
       all_goals (first|(subst o;refine AC (by simp[get]) ?_;first|exact Cm|exact Ed (r _ _))|exact⟨_,_,Adx _,Aj.dropM (by simp[lk]) (AfJ _),dn++[p],f,_,_,by simp,rfl,by rw[s,F];exact o,by omega,rfl⟩|exact⟨_,_,Adx _,Aj.drop1 (by simp[lk,a]) (AfJ _),dn++[p],f,_,_,by simp,rfl,by rw[s,F];exact o,by omega,rfl⟩|skip)
      .skip;simp only[push_cast,seval,rq,v,u,e,r,a,Aa p (dn:=dn) (by omega),w,g,z,rb,rn,e1,C,D,A,h2,Bg]
       repeat' (first|(((first|apply Ac|apply Af|apply Ag)<;>intro _h)<;>simp only[push_cast,seval,rq,_h,v,u,e,r,a,Aa p (dn:=dn) (by omega),w,g,z,rb,rn,e1,C,D,A,h2,Bg])|((first|refine Ab (by exact B) ?_|refine Ab (by exact t) ?_);simp only[push_cast,seval,rq,v,u,e,r,a,Aa p (dn:=dn) (by omega),w,g,z,rb,rn,e1,C,D,A,h2,Bg])|intro _)
       all_goals (try simp only[AuH,Ay1] at *)
       all_goals (try simp only[*,bq,Agp,AfT,rb,reduceCtorEq] at o)
       all_goals (first|(subst o;refine AC (by simp[get]) ?_;first|exact Cm|exact Ed (r _ _))|exact⟨_,_,Adx _,Aj.dropM (by simp[lk]) (AfJ _),dn++[p],f,_,_,by simp,rfl,by rw[s,F];exact o,by omega,rfl⟩|exact⟨_,_,Adx _,Aj.drop1 (by simp[lk,a]) (AfJ _),dn++[p],f,_,_,by simp,rfl,by rw[s,F];exact o,by omega,rfl⟩|skip)
end Go.Ir

namespace Go.Ir
open Go.Proofs
variable{P:Program}{O:World}{nt n:Nat}{Q:Exit→St→Prop}{env:Bm}{σ:Au}
def dN:IC:=sQ (.block 1 (sQ (oS [m1 11 0,m1 12 4,o1 13 (.idx (.t 11) (.t 12)),q1 14 50 13] [0,3,4,14] (cD 14 (oP [m1 15 3,o1 16 (.msl false 5 1 [.c (.i .u8 92)]),o1 17 (.app (.t 15) (.t 16) 5 1),m1 3 17] [0,3,4]) .skip)) (oP [m1 18 3,m1 19 0,m1 20 4,o1 21 (.idx (.t 19) (.t 20)),o1 22 (.msl false 5 1 [.t 21]),o1 23 (.app (.t 18) (.t 22) 5 1),m1 3 23] [0,3,4]))) (oP [m1 9 4,bZ 10 .add 9 1,m1 4 10] [0,3,4])
def AfD:IC:=sQ (oS [mZ 4 0] [0,3,4] (.block 0 (.loop (sQ (oS [m1 5 4,m1 6 0,nS 7 6,bT 8 .lss 5 7] [0,3,4,8] (cD 8 .skip (.exit 0))) dN)))) (sQ (.wk (oP [m1 24 3,o1 25 (.pu .btos [.t 24]),m1 2 25] [2])) .ret)
def AeX:IC:=oS [mC 2 (.s [])] [0] (oS [mC 3 .nil] [0,3] AfD)
def Au9:List R:=[.t 2]
def AyN:=Ao dN.eq_1<|Ao AfD.eq_1<|AJ AeX.eq_1
theorem ArA:Ar π 29 26 AeX Au9=true:=by kernel_rfl
attribute[push_cast]Au9 AyN
end Go.Ir

namespace Go.Ir
open Go.Proofs
variable(O:World)
def Ha(c:UInt8):V:=.i .u8 c.toNat
theorem Vi(o:Ad):CD (o.map Ha)=some o:=by
 induction o with
 | nil=>rfl
 | cons c o a=>simp[CD,Ha,a]
def EB:Ad->Ad
 | []=>[]
 | c::s=>(if H7 c.toNat then[92,c] else[c])++EB s
theorem aB(s:Ad)(A:s.length<=2^26):An π O 29 [.s s] [] (.s (EB s)) []:=by
 generalize hS:EB s=S;refine Ah (vs:=[.s S]) ArA (by simp) (by simp) λn0 q=>?_;clear q;simp only[push_cast,seval,rq];intro k1 k2 k3;refine Ak s.length (Inv:=λm st=>∃dn a n id o,s=dn++a/\m=a.length/\o++EB a=S/\o.length<=2*dn.length/\st=⟨[(0,.s s),(3,.arr id),(4,.i .i64 dn.length)],[(id,.arr 5 1 (o.map Ha))],n⟩) ⟨_,(Aj.own (s:=3) (e:=5) (sz:=1) (k:=0) rfl).trans (Aj.envD (env':=[(0,.s s),(3,.arr (n0+1+k1+1+k2+1+k3,0)),(4,.i .i64 0)]) (λt=>?_) (AfJ _)),[],s,_,_,[],rfl,rfl,hS,by simp,rfl⟩ ?_
 .left;simp only[get];by_cases d:0=t
  .simp[<-d]
  .by_cases h:3=t<;>simp[d,h]
 clear hS;rintro m _ ⟨dn,a,n,id,o,g,rfl,f,z,rfl⟩;cases a with
 | nil=>
  rw[EB,AmY] at f;subst f;simp only[push_cast,seval,rq,g];intro B;refine GZ (Aj.frz (es:=o.map Ha) (env':=[(0,.s dn),(3,.sl (o.map Ha)),(4,.i .i64 dn.length),(8,.b false)]) (σ:=[]) rfl (λy v=>by obtain⟨x,_,u⟩:=Awt.1 v;rw[<-u];rfl) (λt=>?_) (AfJ _)) ?_
  .simp only[get];by_cases d:0=t
   .simp[d]
   .by_cases h:3=t
    .right;simp[d,h]
    .left;simp[d,h]
  .skip;simp only[push_cast,seval,rq,Vi]
   repeat' (first|(((first|apply Ac|apply Af|apply Ag)<;>intro _h)<;>(simp only[push_cast,seval,rq,_h];try (have _g:=_h;simp at _g)))|intro _)
   all_goals (first|(refine Ae ?_;simp[get]<;>(intros;omega);done)|(refine Ai ?_;simp[push_cast,get];done)|skip)
 | cons c a=>
  have r:=Ay g;rw[EB] at f;have j:o.length+1<=AM:=by unfold AM;omega
  have p:(List.map Ha o++[V.i IntKind.u8 92]).length=o.length+1:=by simp
  have m1:List.map Ha o++[V.i IntKind.u8 92]++[V.i IntKind.u8 c.toNat]=List.map Ha (o++[92,c]):=by simp[Ha]
  have w:List.map Ha o++[V.i IntKind.u8 c.toNat]=List.map Ha (o++[c]):=by simp[Ha]
  have l:o.length+1+1<=AM:=by unfold AM;omega
  simp only[push_cast,seval,rq,g,AZ c (dn:=dn) (by unfold Am;omega),AaT,p,Amy j,Amy l]
  repeat' (first|(((first|apply Ac|apply Af|apply Ag)<;>intro _h)<;>(simp only[push_cast,seval,rq,_h,g,AZ c (dn:=dn) (by unfold Am;omega),AaT,p,Amy j,Amy l];try (have _g:=_h;simp at _g)))|(refine Ab (by exact Vb O _) ?_;simp only[push_cast,seval,rq,g,AZ c (dn:=dn) (by unfold Am;omega),AaT,p,Amy j,Amy l])|intro _)
  all_goals (first|rw[m1]|rw[w])
  all_goals (first|(exact⟨_,_,Adx _,Aj.refl,dn++[c],a,_,_,o++[92,c],by simp,rfl,by rw[<-f];simp[*],by simp;omega,rfl⟩)|(exact⟨_,_,Adx _,Aj.refl,dn++[c],a,_,_,o++[c],by simp,rfl,by rw[<-f];simp[*],by simp;omega,rfl⟩)|skip)
end Go.Ir
section
namespace Go.Ir
open Go.Proofs
variable(O:World)
def Tx(k:Int):Ad:=
 if k==3 then[110,117,109,98,101,114] else if k==4 then[117,110,105,116] else if k==5 then[100,97,116,101] else if k==6 then[108,105,115,116]
 else if k==7 then[112,108,117,114,97,108] else if k==8 then[111,114,100,105,110,97,108] else[115,101,108,101,99,116]
theorem Hq k:(Tx k).length<=7:=by
 unfold Tx;repeat' split
 all_goals simp
theorem Jv s:(EB s).length<=2*s.length:=by
 induction s with
 | nil=>simp[EB]
 | cons c s a=>rw[EB];split<;>simp<;>omega
def YL(p:Al):Ad:=[123]++p.name++[44]++[32]++Tx p.kind
def YV(p:Al):Ad:=if p.style==[] then[] else[44]++[32]++p.style
def UT(p:Al):Ad:=if Bk p.kind then[44] else[]
mutual
def Al.textB:Al->Ad
 | ⟨k,t,a,st,cs,ps⟩=>
  if k==1 then EB t
  else if k==10 then[35]
  else if k==11 then(if ps.isEmpty then[60]++a++[47,62] else[60]++a++[62]++BD ps++[60,47]++a++[62])
  else if k==2 then[123]++a++[125]
  else if decide (k>=3)&&decide (k<=9) then YL ⟨k,t,a,st,cs,ps⟩++YV ⟨k,t,a,st,cs,ps⟩++UT ⟨k,t,a,st,cs,ps⟩++Dl cs++[125]
  else[]
def BD:List Al->Ad
 | []=>[]
 | p::ps=>p.textB++BD ps
def Dl:List (Ad×List Al)->Ad
 | []=>[]
 | (key,ps)::cs=>[32]++key++[32]++[123]++BD ps++[125]++Dl cs
end
theorem Al.textB_eq(p:Al):p.textB=(if p.kind==1 then EB p.text
  else if p.kind==10 then[35]
  else if p.kind==11 then(if p.parts.isEmpty then[60]++p.name++[47,62] else[60]++p.name++[62]++BD p.parts++[60,47]++p.name++[62])
  else if p.kind==2 then[123]++p.name++[125]
  else if decide (p.kind>=3)&&decide (p.kind<=9) then YL p++YV p++UT p++Dl p.cases++[125]
  else[]):=by cases p;simp only[Al.textB]
theorem FC p ps:BD (p::ps)=p.textB++BD ps:=by simp only[BD]
theorem F9(c:AR)(cs:List AR):Dl (c::cs)=[32]++c.1++[32]++[123]++BD c.2++[125]++Dl cs:=by have ⟨k,q⟩:=c;simp only[Dl]
theorem pQ p:(YV p).length<=2+p.style.length:=by unfold YV;split<;>simp<;>omega
theorem mD p:(UT p).length<=1:=by unfold UT;split<;>simp
theorem Al.textB_len1(p:Al)(N:Nat)(b:(BD p.parts).length<=20*AV p.parts)(c:(Dl p.cases).length<=20*DY p.cases):p.textB.length<=20*p.wt:=by
 rw[p.wt_eq,p.textB_eq];have a:=Jv p.text;have a2:=Hq p.kind;have a3:=pQ p;have a4:=mD p
 repeat' split
 all_goals (simp[YL]<;>omega)
theorem Rg:∀(N) (ps),AV ps<N->(BD ps).length<=20*AV ps:=by
 intro N
 induction N with
 | zero=>intro ps h;omega
 | succ N d=>
  have b:∀cs:List AR,DY cs<N->(Dl cs).length<=20*DY cs:=by
   intro cs
   induction cs with
   | nil=>intro _;simp[Dl]
   | cons c cs a=>intro h;rw[B8] at h;rw[F9,B8];have:=d c.2 (by omega);have:=a (by omega);simp<;>omega
  intro ps
  induction ps with
  | nil=>intro _;simp[BD]
  | cons p ps a=>intro h;rw[Bw] at h;rw[FC,Bw];have e:=a (by omega);have f:=p.wt_eq;have:=p.textB_len1 N (d p.parts (by omega)) (b p.cases (by omega));simp<;>omega
theorem G0 ps:(BD ps).length<=20*AV ps:=Rg _ ps (Adx _)
theorem U6(cs:List AR):(Dl cs).length<=20*DY cs:=by
 induction cs with
 | nil=>simp[Dl]
 | cons c cs a=>rw[F9,B8];have:=G0 c.2;simp<;>omega
theorem Al.textB_len(p:Al):p.textB.length<=20*p.wt:=p.textB_len1 0 (G0 _) (U6 _)
def WJ:List V:=[.s [110,117,109,98,101,114],.s [117,110,105,116],.s [100,97,116,101],.s [108,105,115,116],.s [112,108,117,114,97,108],.s [111,114,100,105,110,97,108],.s [115,101,108,101,99,116]]
theorem AcW k (a:3<=k)(b:k<=9):(0<=IntKind.i64.wrap (k-3))/\WJ[(IntKind.i64.wrap (k-3)).toNat]?=some (.s (Tx k)):=by
 have:k=3\/k=4\/k=5\/k=6\/k=7\/k=8\/k=9:=by omega
 rcases this with rfl|rfl|rfl|rfl|rfl|rfl|rfl<;>exact⟨by decide,rfl⟩
theorem Adn:∀(N:Nat) (ps:List Al),AV ps<N->AV ps<=2^24->
  An π O 14 [.sl (ps.map Al.enc),.s [32]] [] (.s (BD ps)) []:=by
 intro N
 induction N with
 | zero=>intro ps h;omega
 | succ N K=>
 intro ps hN hb;have J:=Fp ps;generalize hS:BD ps=S;refine Ah (vs:=[.s S]) AnB (by simp) (by simp) λn0 H=>?_;clear H;simp only[push_cast,seval,rq];intros;refine Ak ps.length (Inv:=λm st=>∃dn a n l,ps=dn++a/\m=a.length/\l++BD a=S/\l.length+20*AV a<=20*AV ps/\st=⟨[(0,.sl (ps.map Al.enc)),(1,.s [32]),(5,.s l),(6,.sl WJ),(7,.i .i64 dn.length)],[],n⟩) ⟨_,Aj.refl,[],ps,_,[],rfl,rfl,hS,by simp,rfl⟩ ?_;clear hS;rintro m _ ⟨dn,a,n,l,b,rfl,d,t,rfl⟩;cases a with
 | nil=>
  rw[BD,AmY] at d;subst d;simp only[push_cast,seval,rq,b]
  repeat' (first|(((first|apply Ac|apply Af|apply Ag)<;>intro _h)<;>simp only[push_cast,seval,rq,_h])|intro _)
  all_goals (first|(refine Ae ?_;simp[get]<;>(intros;omega);done)|(refine Ai ?_;simp[push_cast,get];done)|skip)
 | cons p a=>
  have R:=Ay b;have Y:=Gi (ps:=ps) (p:=p) (by rw[b];simp);rw[p.wt_eq] at Y;rw[FC,<-Awz] at d;rw[Bw,p.wt_eq] at t;have I:=p.textB_len;rw[p.wt_eq] at I;have V:=G0 p.parts;have U:=Fn p.cases;have G:=K p.parts (by omega) (by omega);rw[p.textB_eq] at d;by_cases k1:p.kind=1
  .have F:=aB O p.text (by omega);have:=Jv p.text;rw[k1] at d;simp only[push_cast,seval,rq,b,Aa p (dn:=dn) (by omega),k1,rb,rn]
   repeat' (first|(((first|apply Ac|apply Af|apply Ag)<;>intro _h)<;>simp only[push_cast,seval,rq,_h,b,Aa p (dn:=dn) (by omega),k1,rb,rn])|((first|refine Ab (by exact F) ?_|refine As (by simp only[Aaf,Aa8,Adu,Am]<;>omega) ?_);simp only[push_cast,seval,rq,b,Aa p (dn:=dn) (by omega),k1,rb,rn])|intro _)
   all_goals exact⟨_,_,Adx _,Aj.drop1 rfl (AfJ _),dn++[p],a,_,_,by simp,rfl,by rw[<-d];simp,by rw[<-b];(try simp)<;>omega,rfl⟩
  by_cases k2:p.kind=10
  .rw[k2] at d;simp only[push_cast,seval,rq,b,Aa p (dn:=dn) (by omega),k2,rb,rn]
   repeat' (first|(((first|apply Ac|apply Af|apply Ag)<;>intro _h)<;>simp only[push_cast,seval,rq,_h,b,Aa p (dn:=dn) (by omega),k2,rb,rn])|(refine As (by simp only[Aaf,Aa8,Adu,Am]<;>omega) ?_;simp only[push_cast,seval,rq,b,Aa p (dn:=dn) (by omega),k2,rb,rn])|intro _)
   all_goals exact⟨_,_,Adx _,Aj.drop1 rfl (AfJ _),dn++[p],a,_,_,by simp,rfl,by rw[<-d];simp,by rw[<-b];(try simp)<;>omega,rfl⟩
  by_cases k3:p.kind=11
  .rw[k3] at d;rcases hps:p.parts with _|⟨q,qs⟩
   .rw[hps] at d;simp only[push_cast,seval,rq,b,Aa p (dn:=dn) (by omega),k3,rb,rn,hps]
    repeat' (first|(((first|apply Ac|apply Af|apply Ag)<;>intro _h)<;>simp only[push_cast,seval,rq,_h,b,Aa p (dn:=dn) (by omega),k3,rb,rn,hps])|(refine As (by simp only[Aaf,Aa8,Adu,Am]<;>omega) ?_;simp only[push_cast,seval,rq,b,Aa p (dn:=dn) (by omega),k3,rb,rn,hps])|intro _)
    all_goals exact⟨_,_,Adx _,Aj.drop1 rfl (AfJ _),dn++[p],a,_,_,by simp,rfl,by rw[<-d];simp,by rw[<-b];(try simp)<;>omega,rfl⟩
   .have D:((p.parts.length:Int)==0)=false:=by rw[hps];simp<;>omega
    have M:p.parts.isEmpty=false:=by rw[hps];rfl
    rw[M] at d;clear hps;simp only[push_cast,seval,rq,b,Aa p (dn:=dn) (by omega),k3,rb,rn,D]
    repeat' (first|(((first|apply Ac|apply Af|apply Ag)<;>intro _h)<;>simp only[push_cast,seval,rq,_h,b,Aa p (dn:=dn) (by omega),k3,rb,rn,D])|((first|refine Ab (by exact G) ?_|refine As (by simp only[Aaf,Aa8,Adu,Am]<;>omega) ?_);simp only[push_cast,seval,rq,b,Aa p (dn:=dn) (by omega),k3,rb,rn,D])|intro _)
    all_goals exact⟨_,_,Adx _,Aj.drop1 rfl (AfJ _),dn++[p],a,_,_,by simp,rfl,by rw[<-d];simp,by rw[<-b];(try simp)<;>omega,rfl⟩
  by_cases w:p.kind=2
  .rw[w] at d;simp only[push_cast,seval,rq,b,Aa p (dn:=dn) (by omega),w,rb,rn]
   repeat' (first|(((first|apply Ac|apply Af|apply Ag)<;>intro _h)<;>simp only[push_cast,seval,rq,_h,b,Aa p (dn:=dn) (by omega),w,rb,rn])|(refine As (by simp only[Aaf,Aa8,Adu,Am]<;>omega) ?_;simp only[push_cast,seval,rq,b,Aa p (dn:=dn) (by omega),w,rb,rn])|intro _)
   all_goals exact⟨_,_,Adx _,Aj.drop1 rfl (AfJ _),dn++[p],a,_,_,by simp,rfl,by rw[<-d];simp,by rw[<-b];(try simp)<;>omega,rfl⟩
  have q1:(p.kind==1)=false:=by simpa using k1
  have q2:(p.kind==10)=false:=by simpa using k2
  have q3:(p.kind==11)=false:=by simpa using k3
  have k:(p.kind==2)=false:=by simpa using w
  rw[q1,q2,q3,k] at d;by_cases L:p.kind>=3/\p.kind<=9
  .obtain⟨x,B⟩:=AcW p.kind L.1 L.2;have x:=Amy x;have y:decide (p.kind>=3)=true:=by simp;omega
   have z:decide (p.kind<=9)=true:=by simp;omega
   have X:=Hq p.kind;have u:=AjX O p.kind;rw[y,z] at d;unfold WJ at B;unfold WJ;simp only[push_cast,seval,rq,b,Aa p (dn:=dn) (by omega),q1,q2,q3,k,y,z,x,B,rb,rn]
   repeat' (first|(((first|apply Ac|apply Af|apply Ag)<;>intro _h)<;>simp only[push_cast,seval,rq,_h,b,Aa p (dn:=dn) (by omega),q1,q2,q3,k,y,z,x,B,rb,rn])|((first|refine Ab (by exact u) ?_|refine As (by simp only[Aaf,Aa8,Adu,Am]<;>omega) ?_);simp only[push_cast,seval,rq,b,Aa p (dn:=dn) (by omega),q1,q2,q3,k,y,z,x,B,rb,rn])|intro _)
   all_goals (try simp only[AuH,Ay1] at *)
   all_goals
    refine Ak p.cases.length (Inv:=λm st=>∃r o n' C f,p.cases=r++o/\m=o.length/\f++Dl o++[125]++BD a=S/\f.length+20*DY o+1+20*AV a<=20*AV ps/\st=⟨[(0,.sl (List.map Al.enc (dn++p::a))),(1,.s [32]),(5,.s f),(6,.sl [.s [110,117,109,98,101,114],.s [117,110,105,116],.s [100,97,116,101],.s [108,105,115,116],.s [112,108,117,114,97,108],.s [111,114,100,105,110,97,108],.s [115,101,108,101,99,116]]),(7,.i .i64 dn.length),(8,.ref (C,8) 0),(9,.i .i64 r.length)],[((C,8),.box p.v)],n'⟩) ⟨_,Aj.refl,[],p.cases,_,_,_,rfl,rfl,?_,?_,rfl⟩ ?_
    .rw[<-d];simp only[YL,YV,UT,By,Agp,AfT, *,bq,rq];simp
    .simp<;>omega
    clear d;rintro m _ ⟨r,o,n',C,f,e,rfl,d,g,rfl⟩;unfold Al.v;cases o with
    | nil=>
     rw[Dl,AmY] at d;rw[Rf] at g;simp only[push_cast,seval,rq,e,Aa p (dn:=dn) (by omega)]
     repeat' (first|(refine As (by simp only[Aaf,Aa8,Adu,Am]<;>omega) ?_;simp only[push_cast,seval,rq,e,Aa p (dn:=dn) (by omega)])|intro _)
     all_goals exact⟨_,_,Adx _,Aj.drop1 rfl (AfJ _),dn++[p],a,_,_,by simp,rfl,by rw[<-d],by rw[<-b];simp<;>omega,rfl⟩
    | cons c o=>
     have T:=Ay e;have Z:=DM (cs:=p.cases) (c:=c) (by simp[e]);rw[F9] at d;rw[B8] at g;have W:=G0 c.2;have E:=K c.2 (by omega) (by omega);simp only[push_cast,seval,rq,b,e,Aa c (dn:=r) (by omega)]
     repeat' (first|(refine As (by simp only[Aaf,Aa8,Adu,Am]<;>omega) ?_;simp only[push_cast,seval,rq,b,e,Aa c (dn:=r) (by omega)])|(refine Ab (by exact E) ?_;simp only[push_cast,seval,rq,b,e,Aa c (dn:=r) (by omega)])|intro _)
     all_goals exact⟨_,_,Adx _,Aj.refl,r++[c],o,_,_,_,by simp[e],rfl,by rw[<-d];simp,by rw[<-b];simp<;>omega,rfl⟩
  .have j:decide (p.kind>=3)=false\/decide (p.kind>=3)=true/\decide (p.kind<=9)=false:=by
    by_cases h:p.kind>=3
    .right;simp;omega
    .left;simpa using h
   rcases j with j|⟨j,A⟩
   .rw[j] at d;simp only[push_cast,seval,rq,b,Aa p (dn:=dn) (by omega),q1,q2,q3,k,j,rb,rn]
    repeat' (first|(((first|apply Ac|apply Af|apply Ag)<;>intro _h)<;>simp only[push_cast,seval,rq,_h,b,Aa p (dn:=dn) (by omega),q1,q2,q3,k,j,rb,rn])|(refine As (by simp only[Aaf,Aa8,Adu,Am]<;>omega) ?_;simp only[push_cast,seval,rq,b,Aa p (dn:=dn) (by omega),q1,q2,q3,k,j,rb,rn])|intro _)
    all_goals exact⟨_,_,Adx _,Aj.drop1 rfl (AfJ _),dn++[p],a,_,_,by simp,rfl,by rw[<-d];simp,by rw[<-b];(try simp)<;>omega,rfl⟩
   .rw[j,A] at d;simp only[push_cast,seval,rq,b,Aa p (dn:=dn) (by omega),q1,q2,q3,k,j,A,rb,rn]
    repeat' (first|(((first|apply Ac|apply Af|apply Ag)<;>intro _h)<;>simp only[push_cast,seval,rq,_h,b,Aa p (dn:=dn) (by omega),q1,q2,q3,k,j,A,rb,rn])|(refine As (by simp only[Aaf,Aa8,Adu,Am]<;>omega) ?_;simp only[push_cast,seval,rq,b,Aa p (dn:=dn) (by omega),q1,q2,q3,k,j,A,rb,rn])|intro _)
    all_goals exact⟨_,_,Adx _,Aj.drop1 rfl (AfJ _),dn++[p],a,_,_,by simp,rfl,by rw[<-d];simp,by rw[<-b];(try simp)<;>omega,rfl⟩
end Go.Ir
end
namespace Go.Proofs
open Go.Shelf
def Tryz.lays169_ren:Go.Shelf.Ren:=⟨fun|169=>33|n=>n,fun|70=>78|9=>9|0=>0|72=>81|37=>79|127=>106|3=>3|5=>5|n=>n,fun|n=>n⟩
theorem Tryz.lays169:Go.Proofs.Lays.n169 Tryz.prog Tryz.lays169_ren:=by constructor;all_goals intros;kernel_rfl
end Go.Proofs
namespace Go.Ir
open Go.Proofs Go.RowKit
theorem Gm:Go.Proofs.Builder.Extra π Tryz.lays169_ren where
 sizeBuilder:=by kernel_rfl
 liesBuilder:=by kernel_rfl
 t5:=Tryz.underlying5
 a5:=Tryz.isAgg5
 z5:=Tryz.sizeOf5
 v5:=Tryz.zeroValue5
 infoByte:=by kernel_rfl
 cellsByte:=by kernel_rfl
 sizeByte:=by kernel_rfl
 neB5:=by decide
theorem fO(b:Nat)(w:World)(c:w.cell? ⟨b,0,none⟩=some (.pointer (some ⟨b,0,none⟩))) :
  Calls Tryz.prog 53 #[.pointer (some ⟨b,0,none⟩)] w λe w'=>e=.returned (.tuple #[])/\w'=w:=by
 obtain⟨j,a,_⟩:=Amd.1 Gm.sizeBuilder
 go_enter Tryz.func53,Tryz.ntmps53
 go_wp2
 rw[Lib.run_neq_ptr_same w _ Tryz.underlying78 a]
 go_wp2
 go_end0
 exact⟨rfl,rfl⟩
theorem Zk(b:Nat)(w:World)(g:w.cell? ⟨b,0,none⟩=some (.pointer none))(a:w.shape? b=some (81,2))(f:w.frozen? ⟨b,0,none⟩=false) :
  Calls Tryz.prog 53 #[.pointer (some ⟨b,0,none⟩)] w λe w'=>e=.returned (.tuple #[])/\w'=w.setCell ⟨b,0,none⟩ (.pointer (some ⟨b,0,none⟩)):=by
 obtain⟨j,d,c⟩:=Amd.1 Gm.sizeBuilder
 go_enter Tryz.func53,Tryz.ntmps53
 go_wp2
 rw[Lib.run_to_unsafe w ⟨b,0,none⟩ Tryz.underlying78 Tryz.underlying145 d (by rw[c];decide) a (Nat.zero_lt_succ 1)];simp only[Result.andThen];rw[A0d]
 go_wp2
 rw[run_callFunc_extern Tryz.func75 (by kernel_rfl) (by kernel_rfl) (by kernel_rfl) (e:=Extern.AbiNoEscape.same) (by kernel_rfl),Lib.run_noEscape];simp only[Result.andThen];rw[A0d]
 go_wp2
 rw[Lib.run_from_unsafe w ⟨b,0,none⟩ Tryz.underlying145 Tryz.underlying78 d a Gm.liesBuilder];simp only[Result.andThen];rw[A0d]
 go_wp2
 go_end0
 exact⟨rfl,rfl⟩
theorem Zu(B b:Nat)(d:List Value)(w:World)(h:Lib.IsBuilder 81 5 B b d w) :
  Calls Tryz.prog 53 #[.pointer (some ⟨b,0,none⟩)] w λe w'=>e=.returned (.tuple #[])/\(Lib.BuilderAt 81 5 B b (.pointer (some ⟨b,0,none⟩)) d w'/\Below B w w'):=by
 rcases h with h|h
 .refine(Zk b w h.cell0 h.shape h.frozen0).mono λe w' ⟨a,c⟩=>?_;subst c;exact⟨a,h.used _,(AxE B w).setCell (p:=⟨b,0,none⟩) h.1 _⟩
 .refine(fO b w h.cell0).mono λe w' ⟨a,c⟩=>?_;subst c;exact⟨a,h,AxE _ _⟩
theorem Mb(B b:Nat)(q:List Value)(c:Int)(w:World)(h:Lib.IsBuilder 81 5 B b q w)(E:q.length+1<=140737488355328)(G:B<=w.heap.size) :
  Calls Tryz.prog 117 #[.pointer (some ⟨b,0,none⟩),.int .u8 c] w λe w'=>e=.returned .nilIface/\(Lib.BuilderAt 81 5 B b (.pointer (some ⟨b,0,none⟩)) (q++[.int .u8 c]) w'/\Below B w w'):=by
 obtain⟨i0,H,A,C,D⟩:=info_parts Gm.infoByte;have x:∀args w,(callFunc 53 args).run Tryz.prog w=.ok (.enter 53 args) w:=enters_of Tryz.func53 (by kernel_rfl) rfl
 go_enter Tryz.func117,Tryz.ntmps117
 go_wp2_with (go_at_fn 53;refine(Zu B b q _ h).mono ?_)
 rintro e r ⟨rfl,⟨hB,v,m,o,z⟩,i⟩;have K:r.cell? ⟨b,0,none⟩=some (.pointer (some ⟨b,0,none⟩)):=by rw[Lib.cell_of_heap m];rfl
 have c1:r.cell? ⟨b,1,none⟩=some v:=by rw[Lib.cell_of_heap m];rfl
 go_wp2_with (at_builtin;refine wpList_append_own _ rfl _ _ 79 rfl B 5 i0 (.int .u8 0) 1 1 Tryz.underlying79 H A C D rfl (by decide) _ _ _ rfl (o.alloc _) ⟨r.heap.size,0,none⟩ 1 1 [.int .u8 c] rfl rfl ?c1 ?c2 ?c3 ?c4 ?c5 ?_)
 case c1=>
  intro j u s
  match j,s with
  | 0,s=>simp at s;subst s;simp[Addr.add]
 case c2=>intro u F;simp at F;subst F;rfl
 case c3=>unfold maxLen;omega
 case c4=>omega
 case c5=>have:=i.size;simp;omega
 intro J t d a _;have y:b<r.heap.size:=(AvR.1 m).1;have l:t.heap[b]?=some (.cells #[.pointer (some ⟨b,0,none⟩),v] 81 (0,0)):=by rw[a.block b (by simp;omega) (λe=>z e.symm),Lib.alloc_old r _ b y];exact m
 have L:t.cell? ⟨b,0,none⟩=some (.pointer (some ⟨b,0,none⟩)):=by rw[Lib.cell_of_heap l];rfl
 have M:t.cell? ⟨b,1,none⟩=some v:=by rw[Lib.cell_of_heap l];rfl
 have N:t.frozen? ⟨b,1,none⟩=false:=Lib.frozen_of_heap l 1;obtain⟨g,f,rfl⟩:∃g f,J=.slice (some ⟨g,0,none⟩) (q.length+1) f:=by
  rcases d.2 with⟨_,h0⟩|⟨g,f,cur,hv,_⟩
  .omega
  .exact⟨g,f,hv⟩
 go_wp2
 go_ret
 exact⟨rfl,Lib.BuilderAt.put (T:=81) (e:=5) hB l (bs':=q++[.int .u8 c]) (by simpa using d) (by decide),((i.alloc (by have:=i.size;omega) _).grown a (by have:=i.size;simp;omega) (λk I=>(o.lt k I).1)).setCell (p:=⟨b,1,none⟩) hB _⟩
theorem Ux B b l w (h:Lib.IsBuilder 81 5 B b (Lib.byteCells l) w)(a:B<=w.heap.size) :
  Calls Tryz.prog 33 #[.pointer (some ⟨b,0,none⟩)] w λe w'=>e=.returned (.string ⟨l.toArray⟩)/\Below B w w':=
 Any.Builder_String_any Tryz.lays169 Gm B b l w h a
theorem NV{P:Program}{f:FuncId}{args:List V}{v:V}{a:List Value}{w:World}(h:An P w f args [] v [])(j:VRels (λ_=>none) (λ_=>none) args a) :
  Calls P f a.toArray w λe w'=>∃val μ H,e=.returned val/\Aq μ H v val/\Below w.heap.size w w':=by
 have hp:Hp w [] 0 (λ_=>none) (λ_=>none) w:=
  {base:=AxE _ _
   pins:=λ_ _ h=>by cases h
   ents:=λ_ _ h=>by cases h
   unp:=λ_ ⟨_,_,h,_⟩=>by cases h
   sep:=λ_ _ _ _ _ h=>by cases h
   bd:=λ_ _=>rfl }
 refine(h.run 0 w _ _ a hp j).mono λe w' ⟨val,c,d,n',g,i,b,_⟩=>⟨val,c,d,g,i,b.base⟩
theorem NY(c:UInt8) w:Calls Tryz.prog 125 #[.int .u8 c.toNat] w λe w'=>e=.returned (.bool (H7 c.toNat))/\w'=w:=by
 go_enter Tryz.func125,Tryz.ntmps125
 go_wp2
 all_goals (go_ret;exact⟨by simp[H7, *],rfl⟩)
theorem tU(s:Ad)(F:s.length<=2^26)(w:World):Calls Tryz.prog 87 #[.string ⟨s.toArray⟩] w λe w'=>e=.returned (.string ⟨(EB s).toArray⟩)/\Below w.heap.size w w':=by
 go_enter Tryz.func87,Tryz.ntmps87
 go_wp2
 go_loopw [7] (λi wr=>∃(dn a b:Ad),dn++a=s/\i=.int .i64 dn.length/\Lib.IsBuilder 81 5 w.heap.size w.heap.size (Lib.byteCells b) wr/\Below w.heap.size w wr/\b++EB a=EB s/\b.length<=2*dn.length) (λi _=>s.length-(RowKit.intOf i).toNat)
 case atStart=>refine⟨[],s,[],rfl,rfl,Lib.fresh_isBuilder _ _ _,(AxE _ w).alloc (AfJ _) _,rfl,by simp⟩
 case round=>
  obtain⟨dn,a,b,p,y,hI,d,f,x⟩:=hrel;subst y;have j:s.length=dn.length+a.length:=by rw[<-p];simp
  cases a with
  | nil=>
   have g:decide (dn.length<s.length)=false:=by simp at j⊢;omega
   have l:¬dn.length<s.length:=by simpa using g
   clear j
   go_wp2_with (go_at_call 33;refine(Ux w.heap.size w.heap.size b _ hI d.size).mono ?_)
   rintro e A ⟨rfl,t⟩
   go_wp2
   go_ret
   rw[EB,AmY] at f;rw[<-f];exact⟨rfl,d.trans t⟩
  | cons c a=>
   have C:∀args w,(callFunc 125 args).run Tryz.prog w=.ok (.enter 125 args) w:=enters_of Tryz.func125 (by kernel_rfl) rfl;have D:∀args w,(callFunc 117 args).run Tryz.prog w=.ok (.enter 117 args) w:=enters_of Tryz.func117 (by kernel_rfl) rfl;have g:decide (dn.length<s.length)=true:=by simp at j⊢;omega
   have l:dn.length<s.length:=by simpa using g
   have r:b.length+2<=2^28/\dn.length<2^26:=by simp at j;omega
   obtain⟨r,z⟩:=r;clear j;have m:RowKit.wrap64 ((dn.length:Int)+1)=(dn.length:Int)+1:=by unfold RowKit.wrap64;omega
   have E:∀h,(⟨s.toArray⟩:ByteArray)[dn.length]'h=c:=by subst p;intro h;show(dn++c::a).toArray[dn.length]=c;simp
   go_wp2_with (go_at_call 125;refine(NY _ _).mono ?_)
   rintro e A ⟨rfl,rfl⟩;by_cases k:H7 c.toNat=true
   .rw[k]
    go_wp2_with (go_at_call 117;refine(Mb w.heap.size w.heap.size _ 92 _ hI (by rw[Lib.byteCells_length];omega) d.size).mono ?_)
    rintro e B ⟨rfl,q,o⟩
    go_wp2_with (go_at_call 117;refine(Mb w.heap.size w.heap.size _ _ _ (.inr q) (by simp[Lib.byteCells_length];omega) (by have:=d.size;have:=o.size;omega)).mono ?_)
    rintro e G ⟨rfl,v,u⟩
    go_wp2
    go_roundw
    case rel=>
     refine⟨dn++[c],a,b++[92,c],by rw[<-p];simp,?_,?_,?_,?_,?_⟩
     .simp
     .right;simpa[Lib.byteCells] using v
     .exact(d.trans o).trans u
     .rw[<-f,EB,k];simp
     .simp;omega
    case measure=>simp at g;simp[RowKit.intOf,m];omega
   .have k:H7 c.toNat=false:=by simpa using k
    rw[k]
    go_wp2_with (go_at_call 117;refine(Mb w.heap.size w.heap.size _ _ _ hI (by rw[Lib.byteCells_length];omega) d.size).mono ?_)
    rintro e B ⟨rfl,q,o⟩
    go_wp2
    go_roundw
    case rel=>
     refine⟨dn++[c],a,b++[c],by rw[<-p];simp,?_,?_,?_,?_,?_⟩
     .simp
     .right;simpa[Lib.byteCells] using q
     .exact d.trans o
     .rw[<-f,EB,k];simp
     .simp;omega
    case measure=>simp at g;simp[RowKit.intOf,m];omega
theorem YF s:(EB s).length<=2*s.length:=by
 induction s with
 | nil=>simp[EB]
 | cons c s a=>rw[EB];split<;>simp<;>omega
theorem ZN O (s:Ad)(c:s.length<=2^26):An π O 87 [.s s] [] (.s (EB s)) []:=by refine AP (by kernel_rfl) λw a g ⟨μ,H,d⟩=>?_;obtain⟨rfl,_⟩:=d.one_s;refine(tU s c w).mono λe w' ⟨b,f⟩=>?_;refine⟨_,b,λ_ _=>.s _ ?_,f⟩;have:=YF s;unfold Am;omega
def Qq(B:Nat)(l:Ad)(wr:World):Prop:=∀j (h:j<l.length),wr.cell? ⟨B,j,none⟩=some (.int .u8 (l[j].toNat:Int))/\wr.frozen? ⟨B,j,none⟩=false
theorem Qq.new(w:World) s:Qq w.heap.size s (w.drew.alloc (.cells (bytesRow ⟨s.toArray⟩ (grownCap w s.length 0 5)) 5 ((bytesRow ⟨s.toArray⟩ (grownCap w s.length 0 5)).size,(bytesRow ⟨s.toArray⟩ (grownCap w s.length 0 5)).size+1))):=by
 intro j h;have a:w.drew.heap.size=w.heap.size:=rfl;rw[<-a,World.cell?_alloc_mark,World.frozen?_alloc_mark,bytesRow_at _ _ _ (by simpa using h)];refine⟨by simp,?_⟩;have:j<(bytesRow ⟨s.toArray⟩ (grownCap w s.length 0 5)).size:=by unfold bytesRow;simp;omega
 simp;omega
theorem Qq.set{B p post c wr}(h:Qq B (p++[c]++post) wr)(d:UInt8):Qq B (p++[d]++post) (wr.setCell ⟨B,p.length,none⟩ (.int .u8 (d.toNat:Int))):=by
 intro j e;have a:j<(p++[c]++post).length:=by simp at e⊢;omega
 have ⟨h1,h2⟩:=h j a;rw[World.frozen?_setCell];refine⟨?_,h2⟩;by_cases b:j=p.length
 .subst b;rw[World.cell?_setCell_same' _ _ _ (by rw[h1];rfl)];simp
 .rw[World.cell?_setCell_other wr ⟨B,p.length,none⟩ ⟨B,j,none⟩ _ (by grind),h1];grind
theorem Qq.back{B n l wr}(h:Qq B l wr)(c:l.length=n) a:(convert 79 9 (.slice (some ⟨B,0,none⟩) n a)).run Tryz.prog wr=.ok (.string ⟨l.toArray⟩) wr:=by subst c;exact run_convert_bytes_back (P:=Tryz.prog) wr 79 9 5 ⟨B,0,none⟩ a l Tryz.underlying79 Tryz.underlying5 Tryz.underlying9 (λj b=>by have:=(h j b).1;unfold Addr.add;split<;>simp_all)
theorem rI:Hj []=[49]:=rfl
theorem Alt p:Hj (p++[57])=Hj p++[48]:=by unfold Hj;rw[List.reverse_append];show(Ja (57::p.reverse)).reverse=_;rw[Ja];simp
theorem AkX p (c:UInt8)(h:(c==57)=false):Hj (p++[c])=p++[c+1]:=by unfold Hj;rw[List.reverse_append];show(Ja (c::p.reverse)).reverse=_;rw[Ja,h];simp
theorem Zf(s:Ad)(F:s.length<=2^26)(w:World):Calls Tryz.prog 134 #[.string ⟨s.toArray⟩] w λe w'=>e=.returned (.string ⟨(Hj s).toArray⟩)/\Below w.heap.size w w':=by
 have o:=fun(w:World) (s:ByteArray)=>run_bytes_of_string (P:=Tryz.prog) w 9 79 5 s Tryz.underlying9 Tryz.underlying79 Tryz.underlying5;have u:RowKit.wrap64 ((s.length:Int)-1)=(s.length:Int)-1:=by unfold RowKit.wrap64;omega
 go_enter Tryz.func134,Tryz.ntmps134
 go_wp2
 go_loopw [4] (λi wr=>∃(pre post:Ad),pre.length+post.length=s.length/\i=.int .i64 ((pre.length:Int)-1)/\Qq w.heap.size (pre++post) wr/\Below w.heap.size w wr/\Hj pre++post=Hj s) (λi _=>(RowKit.intOf i+1).toNat)
 case atStart=>refine⟨s,[],by simp,by rw[<-u],by rw[AmY];exact Qq.new w s,((AxE _ w).alloc (AfJ _) _).drew,AmY _⟩
 case round=>
  obtain⟨pre,post,B,z,a,d,m⟩:=hrel;subst z;rcases A06 pre with rfl|⟨p,c,rfl⟩
  .have j:=a.back (by simpa using B) (grownCap w s.length 0 5)
   go_wp2
   go_ret
   refine⟨?_,d⟩;rw[<-m,rI];rfl
  .simp only[A07,Aaf,Aa8,Adu] at *;have r:((p.length+(0+1):Nat):Int)-1=(p.length:Int):=by omega
   rw[r];have l:=a p.length (by simp);have f:((p++[c])++post)[p.length]'(by simp)=c:=by simp
   rw[f] at l;obtain⟨C,D⟩:=l;have A:(p.length:Int)<(s.length:Int):=by omega
   have v:p.length<s.length:=by omega
   have t:(p++[c+1]++post).length=s.length:=by simp;omega
   have q:((c+1).toNat:Int)=((c.toNat:Int)+1) % 256:=by simp[UInt8.toNat_add]
   have j:=(a.set (c+1)).back t (grownCap w s.length 0 5);rw[q] at j;have k:=a.set 48;have y:((c.toNat:Int) !=57)=!(c==57):=by
    rw[Axn];simp only[bne_iff_ne,AuH,Ayq,ne_eq];constructor
    .rintro h rfl;exact h rfl
    .intro h E;apply h;have x:c.toNat=(57:UInt8).toNat:=by
      have:c.toNat=57:=by omega
      rw[this];rfl
     exact A0E.1 x
   go_wp2
   .have b:(c==57)=false:=by
     have:=‹(!(c==57))=true›;simpa using this
    go_ret
    refine⟨?_,d.setCell (p:=⟨w.heap.size,p.length,none⟩) (AfJ _) _⟩;rw[<-m,AkX p c b];simp
   .have b:(c==57)=true:=by
     have:=‹(!(c==57))=false›;simpa using this
    have g:c=57:=by simpa using b
    subst g;rw[Alt] at m;refine⟨⟨p,48::post,by simp;omega,rfl,?_,d.setCell (p:=⟨w.heap.size,p.length,none⟩) (AfJ _) _,by rw[<-m];simp⟩,by simp only[RowKit.intOf];omega⟩;simpa using k
theorem aH l:(Ja l).length<=l.length+1:=by
 induction l with
 | nil=>simp[Ja]
 | cons c l a=>rw[Ja];split<;>simp;omega
theorem Amj O (s:Ad)(g:s.length<=2^20):An π O 134 [.s s] [] (.s (Hj s)) []:=by refine AP (by kernel_rfl) λw a f ⟨μ,H,c⟩=>?_;obtain⟨rfl,_⟩:=c.one_s;refine(Zf s (by omega) w).mono λe w' ⟨b,d⟩=>?_;refine⟨_,b,λ_ _=>.s _ ?_,d⟩;have:=aH s.reverse;unfold Hj Am;simp at this⊢;omega
end Go.Ir
namespace Go.Proofs
open Go.Shelf
def Tryz.lays150_ren:Go.Shelf.Ren:=⟨fun|150=>183|153=>218|152=>241|226=>242|227=>205|228=>232|137=>159|119=>257|224=>235|225=>234|217=>196|266=>226|n=>n,fun|9=>9|4=>4|3=>3|5=>5|21=>21|117=>252|116=>251|0=>0|46=>177|124=>255|n=>n,fun|n=>n⟩
theorem Tryz.lays150:Go.Proofs.Lays.n150 Tryz.prog Tryz.lays150_ren:=by constructor;all_goals intros;kernel_rfl
end Go.Proofs
namespace Go.Ir
open Go.Proofs Go.RowKit
theorem RA(w:World):Calls Tryz.prog 241 #[.string ⟨#[123,125]⟩,.int .i32 65533] w λe w'=>e=.returned (.int .i64 (-1))/\Below w.heap.size w w':=by
 go_enter Tryz.func241,Tryz.ntmps241
 go_wp2
 go_loopg [5,6,176,177,178,179,180,181] 2 (λg _ _ _ _ _ _ _ _ f=>∃i:Nat,i+g=2/\f=w.iter ⟨#[123,125]⟩ i)
 case atStart=>exact⟨0,rfl,rfl⟩
 case round=>
  obtain⟨i,d,rfl⟩:=hrel;cases gk with
  | zero=>
   obtain rfl:i=2:=by omega
   have a:=run_next_end (P:=Tryz.prog) w ⟨#[123,125]⟩ 2
   go_wp2
   go_ret
   exact⟨rfl,(AxE _ w).alloc (AfJ _) _⟩
  | succ g=>
   have c:i=0\/i=1:=by omega
   rcases c with rfl|rfl
   .have a:=λb=>run_next_ascii (P:=Tryz.prog) w ⟨#[123,125]⟩ 0 b (by decide) (by decide)
    go_wp2
    go_roundg g
    case measure=>omega
    case rel=>exact⟨1,by omega,rfl⟩
   .have a:=λb=>run_next_ascii (P:=Tryz.prog) w ⟨#[123,125]⟩ 1 b (by decide) (by decide)
    go_wp2
    go_roundg g
    case measure=>omega
    case rel=>exact⟨2,by omega,rfl⟩
theorem Sj(r:Int)(g:55296<=r)(h:r<=57343)(w:World):Calls Tryz.prog 241 #[.string ⟨#[123,125]⟩,.int .i32 r] w λe w'=>e=.returned (.int .i64 (-1))/\Below w.heap.size w w':=by
 have a:decide (0<=r)=true:=by simp;omega
 have b:decide (r<128)=false:=by simp;omega
 have c:(r==65533)=false:=by simp;omega
 have d:¬r<55296:=by omega
 have f:¬57343<r:=by omega
 go_enter Tryz.func241,Tryz.ntmps241
 go_wp2
 go_ret
 exact⟨rfl,AxE _ w⟩
theorem Mn(r:Int)(h1:128<=r)(hr:r<55296\/57343<r)(h2:r<=1114111)(h3:(r==65533)=false)(w:World):Calls Tryz.prog 241 #[.string ⟨#[123,125]⟩,.int .i32 r] w fun e w'=>e=.returned (.int .i64 (-1))/\Below w.heap.size w w':=by
 have mixed:=Tryz.lays150.mixed
 have g1:decide (0<=r)=true:=by simp;omega
 have g2:decide (r<128)=false:=by simp;omega
 have hv:Utf8.valid r=true:=by
  rw[validRune_eq]
  unfold validRune
  apply decide_eq_true
  omega
 obtain⟨f1,f2,f3⟩:=encode_facts r hv h1
 have hcv:=fun(w:World)=>run_convert_int_string (P:=Tryz.prog) w 21 9 .i32 r (by rw[Tryz.underlying21];rfl) Tryz.underlying9
 generalize Utf8.encode r=E at *
 have hw1:RowKit.wrap64 ((E.size:Int)-1)=(E.size:Int)-1:=by unfold RowKit.wrap64;omega
 have hw1':(E.size:Int)-1=((E.size-1:Nat):Int):=by omega
 rw[hw1'] at hw1
 rcases hr with hr|hr
 .go_enter Tryz.func241,Tryz.ntmps241
  go_wp2
  refine wp_scope_straight ?_
  go_wp2
  go_loopw [9] (fun i wr=>i=.int .i64 ((E.size-1:Nat):Int)/\wr=w) (fun _ _=>0)
  case atStart=>exact⟨rfl,rfl⟩
  case round=>
   obtain⟨rfl,rfl⟩:=hrel
   by_cases hs:E.size=2
   .have hs1:E.size-1=1:=by omega
    obtain⟨x,hx⟩:∃x,x=E[1]'(by omega):=⟨_,rfl⟩
    have hx2:128<=x.toNat:=by
     have:=f3 (by omega)
     rw[hx];simp only[hs1] at this;exact this
    have g6:(1:Nat)<E.size:=by omega
    have g8:((125:Int) !=(x.toNat:Int))=true:=by simp;omega
    have hib:=fun w=>Any.strings_IndexByte (P:=Tryz.prog) (ρ:=Tryz.lays150_ren) { Tryz.lays150 with } ⟨#[]⟩ (x.toNat:Int) w
    simp only[hs1] at hw1⊢
    go_wp2
    refine wp_scope_straight ?_
    go_wp2
    have hq:(((((⟨#[123,125]⟩:ByteArray)[1]'(by decide)).toNat:Nat):Int) !=(((E[1]'g6).toNat:Nat):Int))=true:=by rw[<-hx];exact g8
    go_region
    go_wp2
    go_region_with (go_at_call 159;refine(Any.strings_IndexByte (P:=Tryz.prog) (ρ:=Tryz.lays150_ren) { Tryz.lays150 with } _ _ _).mono ?_;rintro e w' ⟨rfl,hw⟩;rw[hw])
    go_wp2
    all_goals (simp +zetaDelta only [Exit.noGoto,Exit.inBlock,Exit.then];go_ret;exact⟨rfl,((AxE _ _).drew).drew⟩)
   .have g6:¬E.size-1<2:=by omega
    have g7:decide (((E.size-1:Nat):Int)<2)=false:=by simp;omega
    go_wp2
    simp only[Exit.noGoto]
    go_ret
    exact⟨rfl,AxE _ _⟩
 .have g9:¬r<55296:=by omega
  go_enter Tryz.func241,Tryz.ntmps241
  go_wp2
  refine wp_scope_straight ?_
  go_wp2
  go_loopw [9] (fun i wr=>i=.int .i64 ((E.size-1:Nat):Int)/\wr=w) (fun _ _=>0)
  case atStart=>exact⟨rfl,rfl⟩
  case round=>
   obtain⟨rfl,rfl⟩:=hrel
   by_cases hs:E.size=2
   .have hs1:E.size-1=1:=by omega
    obtain⟨x,hx⟩:∃x,x=E[1]'(by omega):=⟨_,rfl⟩
    have hx2:128<=x.toNat:=by
     have:=f3 (by omega)
     rw[hx];simp only[hs1] at this;exact this
    have g6:(1:Nat)<E.size:=by omega
    have g8:((125:Int) !=(x.toNat:Int))=true:=by simp;omega
    have hib:=fun w=>Any.strings_IndexByte (P:=Tryz.prog) (ρ:=Tryz.lays150_ren) { Tryz.lays150 with } ⟨#[]⟩ (x.toNat:Int) w
    simp only[hs1] at hw1⊢
    go_wp2
    refine wp_scope_straight ?_
    go_wp2
    have hq:(((((⟨#[123,125]⟩:ByteArray)[1]'(by decide)).toNat:Nat):Int) !=(((E[1]'g6).toNat:Nat):Int))=true:=by rw[<-hx];exact g8
    go_region
    go_wp2
    go_region_with (go_at_call 159;refine(Any.strings_IndexByte (P:=Tryz.prog) (ρ:=Tryz.lays150_ren) { Tryz.lays150 with } _ _ _).mono ?_;rintro e w' ⟨rfl,hw⟩;rw[hw])
    go_wp2
    all_goals (simp +zetaDelta only [Exit.noGoto,Exit.inBlock,Exit.then];go_ret;exact⟨rfl,((AxE _ _).drew).drew⟩)
   .have g6:¬E.size-1<2:=by omega
    have g7:decide (((E.size-1:Nat):Int)<2)=false:=by simp;omega
    go_wp2
    simp only[Exit.noGoto]
    go_ret
    exact⟨rfl,AxE _ _⟩
theorem Uz r (b:128<=r)(c:r<=1114111) w:Calls Tryz.prog 241 #[.string ⟨#[123,125]⟩,.int .i32 r] w λe w'=>e=.returned (.int .i64 (-1))/\Below w.heap.size w w':=by
 by_cases d:r=65533
 .subst d;exact RA w
 .have a:(r==65533)=false:=by simp[d]
  by_cases f:r<55296
  .exact Mn r b (.inl f) c a w
  .by_cases g:57343<r
   .exact Mn r b (.inr g) c a w
   .exact Sj r (by omega) (by omega) w
theorem sE s p (h:128<=(s.get! p).toNat):(Utf8.decode s p).1<=1114111/\∀k,k<(Utf8.decode s p).2->128<=(s.get! (p+k)).toNat:=by
 have a:∀k,(s.get! (p+k)).toNat<256:=λk=>(s.get! (p+k)).toNat_lt;have g:=a 0;have i:=a 1;have j:=a 2;have l:=a 3;have f:¬(s.get! (p+0)).toNat<128:=by rw[AzG];omega
 have m:128<=(s.get! (p+0)).toNat:=by rw[AzG];exact h
 have one:∀k,k<1->128<=(s.get! (p+k)).toNat:=λk e=>by grind
 simp only[Utf8.decode,f,AfT,Utf8.runeError];split
 .grind
 .split
  .grind
  .split
   .rename_i c;simp only[AcR,Amz] at c;split
    .rename_i d;have b:=d;simp only[Utf8.valid,AcR,AyS,Avx] at b;refine⟨by simp only;omega,λk e=>?_⟩;grind
    .exact⟨by simp,one⟩
   .exact⟨by simp,one⟩
def AnR(s:ByteArray)(i:Nat):Prop:=∀j,j<i->j<s.size->s.get! j≠123/\s.get! j≠125
theorem PD(s:ByteArray)(h8:s.size<=8)(w:World):Calls Tryz.prog 218 #[.string s,.string ⟨#[123,125]⟩] w fun e w'=>(∃v:Int,e=.returned (.int .i64 v)/\((0<=v/\∃j,j<s.size/\(s.get! j=123\/s.get! j=125))\/(v=-1/\AnR s s.size)))/\Below w.heap.size w w':=by
 have mixed:=Tryz.lays150.mixed
 have h8z:decide ((8:Int)<(s.size:Int))=false:=decide_eq_false (by omega)
 have e152:∀args w,(callFunc 241 args).run Tryz.prog w=.ok (.enter 241 args) w:=enters_of Tryz.func241 (by kernel_rfl) rfl
 have L153:Lays.n153 Tryz.prog Tryz.lays150_ren:={ Tryz.lays150 with }
 have e226:∀args w,(callFunc (Tryz.lays150_ren.f 226) args).run Tryz.prog w=.ok (.enter (Tryz.lays150_ren.f 226) args) w:=enters_of L153.f226 (by kernel_rfl) rfl
 go_enter Tryz.func218,Tryz.ntmps218
 go_wp2_with (go_at_call 242;refine(Any.strings_shouldUseASCIISet (P:=Tryz.prog) (ρ:=Tryz.lays150_ren) { Tryz.lays150 with } _ _).mono ?_;rintro e w' ⟨rfl,hw⟩;rw[hw,h8z])
 go_loopw [9,10] (fun _ _ wr=>∃i:Nat,wr.heap[w.heap.size]?=some (.stringIter s i)/\Below w.heap.size w wr/\AnR s i) (fun _ _ wr=>s.size-wr.iterPos w.heap.size)
 case atStart=>exact⟨0,World.iter_heap _ _ _,(AxE _ w).alloc (AfJ _) _,fun j hj=>by omega⟩
 case round=>
  obtain⟨i,hit,hbw,hno⟩:=hrel
  by_cases hi:i<s.size
  .by_cases ha:(s[i]'hi).toNat<128
   .have hnx:=fun ty=>Go.Lib.run_next_ascii_at (P:=Tryz.prog) wr w.heap.size s i ty hit hi ha
    have hg:s.get! i=s[i]'hi:=by
     simp[ByteArray.get!,getElem!_pos,hi]
     rfl
    have hp1:=Lib.iterAt_heap wr w.heap.size s i (i+1) hit
    have hm:s.size-(wr.iterAt w.heap.size s (i+1)).iterPos w.heap.size<s.size-wr.iterPos w.heap.size:=by
     unfold World.iterPos
     rw[hp1,hit]
     simp only
     omega
    have hb1:=Lib.below_iterAt hbw (k:=w.heap.size) (AfJ _) s (i+1)
    have Hm:Hid (s.size-(wr.iterAt w.heap.size s (i+1)).iterPos w.heap.size<s.size-wr.iterPos w.heap.size):=hm
    have Hp:Hid ((wr.iterAt w.heap.size s (i+1)).heap[w.heap.size]?=some (.stringIter s (i+1))):=hp1
    clear hm hp1
    generalize s[i]'hi=x at *
    have Hg:Hid (s.get! i=x):=hg
    clear hg
    have hcon:=Lib.contains_iff_indexByte [123,125] x
    have hback:((x.toNat:Int)).toNat.toUInt8=x:=by simp
    cases hin:([123,125]:List UInt8).contains x
    .rw[hin] at hcon
     have hlt:¬((0:Int)<=Lib.indexByte [123,125] x):=AuU hcon.symm
     have Hin:Hid (([123,125]:List UInt8).contains x=false):=hin
     clear hcon hin
     go_wp2_with (go_at_call 241;refine(Any.strings_IndexRune_ascii (P:=Tryz.prog) (ρ:=Tryz.lays150_ren) { Tryz.lays150 with } _ _ _ (by omega) (by omega)).mono ?_;rintro e w' ⟨rfl,hw⟩;rw[hw,hback])
     refine⟨⟨i+1,Hp.out,hb1,fun j hj hjs=>?_⟩,Hm.out⟩
     by_cases he:j=i
     .subst he
      rw[Hg.out]
      have:=Hin.out
      simp at this
      exact this
     .exact hno j (by omega) hjs
    .rw[hin] at hcon
     have hge:(0:Int)<=Lib.indexByte [123,125] x:=AuL hcon.symm
     have Hin:Hid (([123,125]:List UInt8).contains x=true):=hin
     clear hcon hin
     go_wp2_with (go_at_call 241;refine(Any.strings_IndexRune_ascii (P:=Tryz.prog) (ρ:=Tryz.lays150_ren) { Tryz.lays150 with } _ _ _ (by omega) (by omega)).mono ?_;rintro e w' ⟨rfl,hw⟩;rw[hw,hback])
     go_ret
     refine⟨⟨i,rfl,.inl ⟨by omega,i,hi,?_⟩⟩,hb1⟩
     rw[Hg.out]
     have:=Hin.out
     simpa using this
   .have hnx:=fun ty=>Go.Lib.run_next_any_at (P:=Tryz.prog) wr w.heap.size s i ty hit hi
    have hg:s.get! i=s[i]'hi:=by
     simp[ByteArray.get!,getElem!_pos,hi]
     rfl
    obtain⟨d1,d2⟩:=decode_high s i hi (by omega)
    obtain⟨d3,d4⟩:=sE s i (by rw[hg];omega)
    generalize hD:Utf8.decode s i=D at *
    obtain⟨r,n⟩:=D
    simp only at d1 d2 d3 d4 hnx
    have hp1:=Lib.iterAt_heap wr w.heap.size s i (i+n) hit
    have hsz:=Lib.iterAt_size wr w.heap.size s (i+n)
    have hlt:w.heap.size<wr.heap.size:=(AvR.1 hit).1
    have hb1:=Lib.below_iterAt hbw (k:=w.heap.size) (AfJ _) s (i+n)
    have Hp:Hid ((wr.iterAt w.heap.size s (i+n)).heap[w.heap.size]?=some (.stringIter s (i+n))):=hp1
    have Hd:Hid (∀k,k<n->128<=(s.get! (i+k)).toNat):=d4
    have Hsz:Hid ((wr.iterAt w.heap.size s (i+n)).heap.size=wr.heap.size):=hsz
    have Hb:Hid (Below w.heap.size w (wr.iterAt w.heap.size s (i+n))):=hb1
    clear hp1 d4 hg ha hD hsz hb1
    go_wp2_with (go_at_call 241;refine(Uz (r:Int) (by omega) (by omega) _).mono ?_;rintro e w2 ⟨rfl,hw2⟩)
    have hb2:Below w.heap.size (wr.iterAt w.heap.size s (i+n)) w2:=hw2.mono (by rw[Hsz.out];omega)
    have hp2:w2.heap[w.heap.size]?=some (.stringIter s (i+n)):=by
     rw[hw2.block _ (by rw[Hsz.out];exact hlt)]
     exact Hp.out
    refine⟨⟨i+n,hp2,Hb.out.trans hb2,fun j hj hjs=>?_⟩,?_⟩
    .by_cases he:j<i
     .exact hno j he hjs
     .have:=Hd.out (j-i) (by omega)
      rw[show i+(j-i)=j by omega] at this
      constructor
      .intro h;rw[h] at this;simp at this
      .intro h;rw[h] at this;simp at this
    .unfold World.iterPos
     rw[hp2,hit]
     simp only
     omega
  .have hnx:=fun ty=>Go.Lib.run_next_end_at (P:=Tryz.prog) wr w.heap.size s i ty hit hi
   go_wp2
   go_ret
   exact⟨⟨-1,rfl,.inr ⟨rfl,fun j hj=>hno j (by omega)⟩⟩,hbw⟩
theorem Ob s:(∃j,j<(⟨s.toArray⟩:ByteArray).size/\((⟨s.toArray⟩:ByteArray).get! j=123\/(⟨s.toArray⟩:ByteArray).get! j=125))↔FH s=true:=by
 unfold FH;rw[AyX];have d:∀j (h:j<s.length),(⟨s.toArray⟩:ByteArray).get! j=s[j]:=λj h=>by simp[ByteArray.get!,h]
 constructor
 .rintro⟨j,a,h⟩;have b:j<s.length:=by simpa[ByteArray.size] using a
  grind
 .rintro⟨x,c,h⟩;obtain⟨j,a,rfl⟩:=List.getElem_of_mem c;refine⟨j,by simpa[ByteArray.size] using a,?_⟩;grind
theorem rX:∀s:Ad,decide (0<=Lib.indexAny s [123,125])=FH s
 | []=>rfl
 | b::l=>by
  have e:=rX l;have d:=Lib.indexAny_ge [123,125] l;have c:([123,125]:List UInt8).contains b=(b==123||b==125):=by rw[Axn];simp
  have a:FH (b::l)=((b==123||b==125)||FH l):=rfl;rw[Lib.indexAny,c,a,<-e];grind
theorem TD s (l:s.length<4294967281) w:Calls Tryz.prog 218 #[.string ⟨s.toArray⟩,.string ⟨#[123,125]⟩] w λe w'=>(∃v,e=.returned (.int .i64 v)/\decide (0<=v)=FH s)/\Below w.heap.size w w':=by
 by_cases g:s.length<=8
 .refine(PD ⟨s.toArray⟩ (by simpa[ByteArray.size] using g) w).mono λe w' ⟨⟨v,c,d⟩,h3⟩=>⟨⟨v,c,?_⟩,h3⟩
  rcases d with⟨h4,h5⟩|⟨rfl,h5⟩
  .rw[(Ob s).1 h5];simpa using h4
  .cases k:FH s with
   | false=>rfl
   | true=>
    obtain⟨j,f,h⟩:=(Ob s).2 k;have:=h5 j f f;rcases h with h|h
    .exact absurd h this.1
    .exact absurd h this.2
 .have a:(Tryz.prog.info? (Tryz.lays150_ren.t 116)).map (λi=>(i.zero,i.size))=some (some (.agg (Array.replicate 256 (.bool false))),256):=by kernel_rfl
  refine(Any.strings_IndexAny_long (P:=Tryz.prog) (ρ:=Tryz.lays150_ren) { Tryz.lays150 with } (zero_of_info a).1 (zero_of_info a).2 ⟨s.toArray⟩ ⟨#[123,125]⟩ w (by decide) (by simp[ByteArray.size];omega) (by simpa[ByteArray.size] using l) (by decide) (λj b h=>by
   match j with
   | 0=>simp at h;subst h;decide
   | 1=>simp at h;subst h;decide
   | j+2=>simp at h)).mono λe w' ⟨c,d⟩=>⟨⟨_,c,?_⟩,?_⟩
  .exact rX s
  .rw[d];exact((AxE _ _).alloc (AfJ _) _).alloc (by simp) _
theorem Abc(s:Ad)(a:s.length<4294967281)(w:World):Calls Tryz.prog 183 #[.string ⟨s.toArray⟩,.string ⟨#[123,125]⟩] w λe w'=>e=.returned (.bool (FH s))/\Below w.heap.size w w':=by
 have c:=TD s a w
 go_enter Tryz.func183,Tryz.ntmps183
 go_wp2_with (go_at_call 218;refine c.mono ?_;rintro e w' ⟨⟨v,rfl,b⟩,d⟩)
 go_ret
 exact⟨by first|rfl|(rw[<-b];rfl),d⟩
theorem i6 O (s:Ad)(k:s.length<=2^31):An π O 183 [.s s,.s [123,125]] [] (.b (FH s)) []:=by
 refine AP (by kernel_rfl) λw a i ⟨μ,H,d⟩=>?_;have c:=d.len;obtain⟨x,y,rfl⟩:∃x y,a=[x,y]:=by
  match a,c with
  | [x,y],_=>exact⟨x,y,rfl⟩
 obtain⟨rfl,j⟩:=Bi (d.at_ 0 _ _ rfl rfl);obtain⟨rfl,g⟩:=Bi (d.at_ 1 _ _ rfl rfl);exact(Abc s (by omega) w).mono λe w' ⟨f,h⟩=>⟨_,f,λ_ _=>.b _,h⟩
end Go.Ir
section
namespace Go.Ir
open Go.Proofs
variable(O:World)
def usesM:List (V×V):=[(.s [110,117,109,98,101,114],.i .i64 3),(.s [117,110,105,116],.i .i64 4),(.s [100,97,116,101],.i .i64 5),(.s [108,105,115,116],.i .i64 6),(.s [112,108,117,114,97,108],.i .i64 7),(.s [111,114,100,105,110,97,108],.i .i64 8),(.s [115,101,108,101,99,116],.i .i64 9)]
theorem Ai7:HB π O 88 [] [] (.map usesM) []:=by refine P2 (s:=0) Anu (by simp) (by simp) λn0 a=>?_;clear a;unfold usesM;have i:Bp .str (.s [110,117,109,98,101,114]) [] 0=some none:=rfl;have b:Bp .str (.s [117,110,105,116]) (usesM.take 1) 0=some none:=rfl;have c:Bp .str (.s [100,97,116,101]) (usesM.take 2) 0=some none:=rfl;have d:Bp .str (.s [108,105,115,116]) (usesM.take 3) 0=some none:=rfl;have e:Bp .str (.s [112,108,117,114,97,108]) (usesM.take 4) 0=some none:=rfl;have f:Bp .str (.s [111,114,100,105,110,97,108]) (usesM.take 5) 0=some none:=rfl;have g:Bp .str (.s [115,101,108,101,99,116]) (usesM.take 6) 0=some none:=rfl;simp only[usesM,AwE,AxO] at b c d e f g;simp only[push_cast,seval,rq,i,b,c,d,e,f,g];intros;exact⟨_,Aj.refl,_,rfl,by simp[lk],rfl,λ_ _ h=>by simp[lk] at h⟩
def UB(k:Int):Nat:=if decide (k>=3)&&decide (k<=9) then 2+(Tx k).length else 0
mutual
def Al.lenB:Al->Nat
 | ⟨k,t,a,st,cs,ps⟩=>
  if k==1 then(EB t).length
  else if k==10 then 1
  else if k==11 then(3+a.length)+(if ps.isEmpty then 0 else(2+a.length)+Do ps)
  else(2+a.length)+UB k+(if st==[] then 0 else 2+st.length)+(if Bk k then 1 else 0)+FX cs
def Do:List Al->Nat
 | []=>0
 | p::ps=>p.lenB+Do ps
def FX:List (Ad×List Al)->Nat
 | []=>0
 | (key,ps)::cs=>((4+key.length)+Do ps)+FX cs
end
theorem Al.lenB_eq(p:Al):p.lenB=(if p.kind==1 then(EB p.text).length
  else if p.kind==10 then 1
  else if p.kind==11 then(3+p.name.length)+(if p.parts.isEmpty then 0 else(2+p.name.length)+Do p.parts)
  else(2+p.name.length)+UB p.kind+(if p.style==[] then 0 else 2+p.style.length)+(if Bk p.kind then 1 else 0)+FX p.cases):=by cases p;simp only[Al.lenB]
theorem Ni p ps:Do (p::ps)=p.lenB+Do ps:=by simp only[Do]
theorem I7(c:AR)(cs:List AR):FX (c::cs)=((4+c.1.length)+Do c.2)+FX cs:=by have ⟨k,q⟩:=c;simp only[FX]
theorem Wi k:UB k<=9:=by unfold UB;have:=Hq k;split<;>omega
theorem Al.lenB_le1(p:Al)(b:Do p.parts<=20*AV p.parts)(c:FX p.cases<=20*DY p.cases):p.lenB<=20*p.wt:=by rw[p.wt_eq,p.lenB_eq];have a:=Jv p.text;have a2:=Wi p.kind;grind
theorem ZL:∀(N) (ps),AV ps<N->Do ps<=20*AV ps:=by
 intro N
 induction N with
 | zero=>intro ps h;omega
 | succ N d=>
  have b:∀cs:List AR,DY cs<N->FX cs<=20*DY cs:=by
   intro cs
   induction cs with
   | nil=>intro _;simp[FX]
   | cons c cs a=>intro h;rw[B8] at h;rw[I7,B8];grind
  intro ps
  induction ps with
  | nil=>intro _;simp[Do]
  | cons p ps a=>intro h;rw[Bw] at h;rw[Ni,Bw];have e:=a (by omega);have f:=p.wt_eq;have:=p.lenB_le1 (d p.parts (by omega)) (b p.cases (by omega));omega
theorem Jd ps:Do ps<=20*AV ps:=ZL _ ps (Adx _)
theorem cU(cs:List AR):FX cs<=20*DY cs:=by
 induction cs with
 | nil=>simp[FX]
 | cons c cs a=>rw[I7,B8];have:=Jd c.2;omega
theorem Al.lenB_le(p:Al):p.lenB<=20*p.wt:=p.lenB_le1 (Jd _) (cU _)
theorem RY:usesM.length=7:=rfl
theorem AcU{i a}(h:usesM[i]?=some a):i<7/\a=(.s (Tx (i+3:Nat)),.i .i64 (i+3:Nat)):=by
 have b:i<7:=by have:=(Ath.1 h).1;rw[RY] at this;exact this
 refine⟨b,?_⟩;have:i=0\/i=1\/i=2\/i=3\/i=4\/i=5\/i=6:=by omega
 rcases this with rfl|rfl|rfl|rfl|rfl|rfl|rfl<;>(simp only[usesM,Azu,AxR,Arp] at h;rw[<-h];rfl)
def Ga(k:Int)(seen:List Nat):Nat:=if decide (k>=3)&&seen.contains (k-3).toNat then 2+(Tx k).length else 0
theorem aL k:Ga k []=0:=by simp[Ga]
theorem Z5{k seen i}(h:((i+3:Nat):Int)=k)(b:i∉seen):Ga k seen=0/\Ga k (seen++[i])=2+(Tx (i+3:Nat)).length:=by
 subst h;have:(((i+3:Nat):Int)-3).toNat=i:=by omega
 have a:((i+3:Nat):Int)>=3:=by omega
 unfold Ga;grind
theorem U7{k seen i}(h:((i+3:Nat):Int)≠k):Ga k (seen++[i])=Ga k seen:=by unfold Ga;grind
theorem aO{k seen}(a:∀i,i<7->i∈seen)(b:∀i∈seen,i<7):Ga k seen=UB k:=by unfold Ga UB;grind
def T0(seen:List Nat):Nat:=(if 0∈seen then 0 else 1)+(if 1∈seen then 0 else 1)+(if 2∈seen then 0 else 1)+(if 3∈seen then 0 else 1)+(if 4∈seen then 0 else 1)+(if 5∈seen then 0 else 1)+(if 6∈seen then 0 else 1)
theorem kL{seen i}(b:i<7)(a:i∉seen):T0 (seen++[i])<T0 seen:=by
 have:i=0\/i=1\/i=2\/i=3\/i=4\/i=5\/i=6:=by omega
 unfold T0;rcases this with rfl|rfl|rfl|rfl|rfl|rfl|rfl<;>simp[a]
end Go.Ir
end
namespace Go.Ir
open Go.Proofs
variable(O:World)
theorem Sx:∀(N:Nat) (ps:List Al),AV ps<N->AV ps<=2^24->
  An π O 59 [.sl (ps.map Al.enc)] [] (.i .i64 (Do ps)) []:=by
 intro N
 induction N with
 | zero=>intro ps h;omega
 | succ N ih=>
 intro ps hN hb;have aa:=Fp ps;generalize hS:Do ps=S;refine Ah (vs:=[.i .i64 S]) ApS (by simp) (by simp) λn0 W=>?_;clear W;simp only[push_cast,seval,rq];intros;refine Ak ps.length (Inv:=λm st=>∃dn a n e x,x=((e:Nat):Int)/\ps=dn++a/\m=a.length/\e+Do a=S/\e+20*AV a<=20*AV ps/\st=⟨[(3,.i .i64 x),(10,.sl (ps.map Al.enc)),(11,.i .i64 ps.length),(12,.i .i64 dn.length)],[],n⟩) ⟨_,Aj.refl,[],ps,_,0,0,rfl,rfl,rfl,by omega,by omega,rfl⟩ ?_;clear hS;rintro m _ ⟨dn,a,n,e,_,rfl,b,rfl,d,E,rfl⟩;cases a with
 | nil=>
  rw[Do,AzG] at d;subst d;simp only[push_cast,seval,rq,b]
  repeat' (first|(((first|apply Ac|apply Af|apply Ag)<;>intro _h)<;>simp only[push_cast,seval,rq,_h])|intro _)
  all_goals (first|(refine Ae ?_;simp[get]<;>(intros;omega);done)|(refine Ai ?_;simp[push_cast,get];done)|skip)
 | cons p a=>
  have ae:=Ay b;have hw:=Gi (ps:=ps) (p:=p) (by rw[b];simp);rw[p.wt_eq] at hw;rw[Ni,<-AzI] at d;rw[Bw,p.wt_eq] at E;have X:=p.lenB_le;rw[p.wt_eq] at X;have aj:=Jd p.parts;have ai:=Fn p.cases;have V:=ih p.parts (by omega) (by omega);have I:=DQ O p.kind;rw[p.lenB_eq] at d;by_cases k1:p.kind=1
  .have R:=ZN O p.text (by omega);have:=Jv p.text;rw[k1] at d;simp only[push_cast,seval,rq,b,Aa p (dn:=dn) (by omega),k1,rb,rn]
   repeat' (first|(((first|apply Ac|apply Af|apply Ag)<;>intro _h)<;>simp only[push_cast,seval,rq,_h,b,Aa p (dn:=dn) (by omega),k1,rb,rn])|((first|refine Ab (by exact R) ?_|refine As (by simp only[Aaf,Aa8,Adu,Am]<;>omega) ?_);simp only[push_cast,seval,rq,b,Aa p (dn:=dn) (by omega),k1,rb,rn])|intro _)
   refine⟨_,_,Adx _,Aj.drop1 rfl (AfJ _),dn++[p],a,_,e+(EB p.text).length,_,by(try simp(disch:=omega) only [wrap64]);omega,by simp,rfl,by rw[<-d];simp,by rw[<-b];omega,rfl⟩
  by_cases k2:p.kind=10
  .rw[k2] at d;simp only[push_cast,seval,rq,b,Aa p (dn:=dn) (by omega),k2,rb,rn]
   repeat' (first|(((first|apply Ac|apply Af|apply Ag)<;>intro _h)<;>simp only[push_cast,seval,rq,_h,b,Aa p (dn:=dn) (by omega),k2,rb,rn])|(refine As (by simp only[Aaf,Aa8,Adu,Am]<;>omega) ?_;simp only[push_cast,seval,rq,b,Aa p (dn:=dn) (by omega),k2,rb,rn])|intro _)
   refine⟨_,_,Adx _,Aj.drop1 rfl (AfJ _),dn++[p],a,_,e+1,_,by(try simp(disch:=omega) only [wrap64]);omega,by simp,rfl,by rw[<-d];simp,by rw[<-b];omega,rfl⟩
  by_cases k3:p.kind=11
  .rw[k3] at d;rcases hps:p.parts with _|⟨q,qs⟩
   .rw[hps] at d;simp only[push_cast,seval,rq,b,Aa p (dn:=dn) (by omega),k3,rb,rn,hps]
    repeat' (first|(((first|apply Ac|apply Af|apply Ag)<;>intro _h)<;>simp only[push_cast,seval,rq,_h,b,Aa p (dn:=dn) (by omega),k3,rb,rn,hps])|(refine As (by simp only[Aaf,Aa8,Adu,Am]<;>omega) ?_;simp only[push_cast,seval,rq,b,Aa p (dn:=dn) (by omega),k3,rb,rn,hps])|intro _)
    refine⟨_,_,Adx _,Aj.drop1 rfl (AfJ _),dn++[p],a,_,e+(3+p.name.length),_,by(try simp(disch:=omega) only [wrap64]);omega,by simp,rfl,by rw[<-d];simp,by rw[<-b];omega,rfl⟩
   .have L:decide ((p.parts.length:Int)>0)=true:=by rw[hps];simp<;>omega
    have e2:p.parts.isEmpty=false:=by rw[hps];rfl
    rw[e2] at d;clear hps;simp only[push_cast,seval,rq,b,Aa p (dn:=dn) (by omega),k3,rb,rn,L]
    repeat' (first|(((first|apply Ac|apply Af|apply Ag)<;>intro _h)<;>simp only[push_cast,seval,rq,_h,b,Aa p (dn:=dn) (by omega),k3,rb,rn,L])|((first|refine Ab (by exact V) ?_|refine As (by simp only[Aaf,Aa8,Adu,Am]<;>omega) ?_);simp only[push_cast,seval,rq,b,Aa p (dn:=dn) (by omega),k3,rb,rn,L])|intro _)
    refine⟨_,_,Adx _,Aj.drop1 rfl (AfJ _),dn++[p],a,_,e+(3+p.name.length)+((2+p.name.length)+Do p.parts),_,by(try simp(disch:=omega) only [wrap64]);omega,by simp,rfl,by rw[<-d];simp<;>omega,by rw[<-b];omega,rfl⟩
  have q1:(p.kind==1)=false:=by simpa using k1
  have q2:(p.kind==10)=false:=by simpa using k2
  have q3:(p.kind==11)=false:=by simpa using k3
  rw[q1,q2,q3] at d;simp only[bq,Agp,AfT,rb,reduceCtorEq] at d;simp only[push_cast,seval,rq,b,Aa p (dn:=dn) (by omega),q1,q2,q3,rb,rn];intros;refine PX (Ai7 O) (λ_ _ h=>by simp[lk] at h) ?_;rw[FU];simp only[push_cast,seval,rq];intro kk;have am:=Hq p.kind;refine Ak (T0 []) (Inv:=λm st=>∃seen n' x z K,x=((e+(2+p.name.length)+Ga p.kind seen:Nat):Int)/\m=T0 seen/\(∀i∈seen,i<7)/\st=⟨[(3,.i .i64 x),(5,.ref (K,5) 0),(10,.sl (List.map Al.enc (dn++p::a))),(11,.i .i64 (dn++p::a).length),(12,.i .i64 dn.length),(25,.arr (z,25))],[((z,25),.mit (z,24) usesM.length seen usesM.length),((z,24),.map usesM),((K,5),.box p.v)],n'⟩) ⟨_,Aj.refl,[],_,_,_,_,by(simp(disch:=omega) only [wrap64,aL];omega),rfl,by simp,rfl⟩ ?_;rintro m _ ⟨seen,n',x,z,K,J,rfl,B,rfl⟩;unfold Al.v;simp only[push_cast,seval,rq,b,Aa p (dn:=dn) (by omega),q1,q2,q3,rb,rn];refine W6 (id:=(z,25)) (mid:=(z,24)) (es:=usesM) (seen:=seen) rfl (by simp[lk]) (by simp[lk]) (by simp) (by simp) (λi kv T H=>?_) (λo=>?_)
  .obtain⟨U,rfl⟩:=AcU T;have r:(seen++[i]).getLast?=some i:=by simp
   have ab:=Hq (i+3:Nat);have G:=kL U H;have y:∀j∈seen++[i],j<7:=by
    intro j hj;rcases Am5.1 hj with h|h
    .exact B j h
    .simp at h;omega
   have F:=λh=>Z5 (k:=p.kind) (seen:=seen) (i:=i) h H;have A:=λh=>U7 (k:=p.kind) (seen:=seen) (i:=i) h;generalize ah:((i+3:Nat):Int)=ki at *;have ak:Ga p.kind seen<=9:=by unfold Ga;split<;>omega
   simp only[push_cast,seval,rq,r,T]
   repeat' (first|(((first|apply Ac|apply Af|apply Ag)<;>intro _h)<;>simp only[push_cast,seval,rq,_h,r,T])|intro _)
   .obtain⟨u1,Y⟩:=F (by simpa using _h);refine⟨_,_,G,Aj.refl,seen++[i],_,_,_,_,?_,rfl,y,rfl⟩;rw[Y];rw[u1] at J;simp(disch:=omega) only [wrap64];rw[J];simp only[Int.natCast_add];omega
   .have Y:=A (by simpa using _h);refine⟨_,_,G,Aj.envD (λt=>?_) (AfJ _),seen++[i],_,x,z,K,?_,rfl,y,rfl⟩
    .by_cases Z:6=t
     .right;subst Z;rfl
     .by_cases D:34=t
      .right;subst D;rfl
      .left;simp[get,Z,D]
    .rw[Y,J];simp only[Int.natCast_add];omega
  .rw[RY] at o;rw[aO o B] at J;have an:=Wi p.kind;clear o B;obtain⟨sS,u⟩:∃n,n=(if(p.style==[])=true then 0 else 2+p.style.length):=⟨_,rfl⟩
   obtain⟨sC,s⟩:∃n,n=(if Bk p.kind=true then 1 else 0):=⟨_,rfl⟩;rw[<-u,<-s] at d;simp only[push_cast,seval,rq,b,Aa p (dn:=dn) (by omega),q1,q2,q3,rb,rn]
   repeat' (first|(((first|apply Ac|apply Af|apply Ag)<;>intro _h)<;>simp only[push_cast,seval,rq,_h,b,Aa p (dn:=dn) (by omega),q1,q2,q3,rb,rn])|(refine Ab (by exact I) ?_;simp only[push_cast,seval,rq,b,Aa p (dn:=dn) (by omega),q1,q2,q3,rb,rn])|intro _)
   all_goals (try simp only[AuH,Ay1] at *)
   all_goals (first|rw[Aiv (by assumption)] at u|rw[Amt (by simp only[*,Agw,AzK])] at u)
   all_goals (first|rw[Aiv (by assumption)] at s|rw[Amt (by simp only[*,Agw,AzK])] at s)
   all_goals
    refine Ak p.cases.length (Inv:=λm st=>∃C w n' f x,x=((f:Nat):Int)/\p.cases=C++w/\m=w.length/\f+FX w+Do a=S/\f+20*DY w+20*AV a<=20*AV ps/\st=⟨[(3,.i .i64 x),(10,.sl (List.map Al.enc (dn++p::a))),(11,.i .i64 (dn++p::a).length),(12,.i .i64 dn.length),(55,.sl (p.cases.map AR.enc)),(56,.i .i64 p.cases.length),(57,.i .i64 C.length)],[],n'⟩) ⟨_,Aj.drop (λ_ _ h=>by cases h) (AfJ _),[],p.cases,_,e+(2+p.name.length)+UB p.kind+sS+sC,_,by((try simp(disch:=omega) only [wrap64]);omega),rfl,rfl,by rw[<-d];omega,by omega,rfl⟩ ?_;clear d u s J;rintro m _ ⟨C,w,n',f,x,rfl,g,rfl,d,l,rfl⟩;cases w with
    | nil=>rw[FX,AzG] at d;rw[Rf] at l;simp only[push_cast,seval,rq,g,Aa p (dn:=dn) (by omega)];intros;exact⟨_,_,Adx _,Aj.refl,dn++[p],a,_,f,_,rfl,by simp,rfl,d,by rw[<-b];omega,rfl⟩
    | cons c w=>
     have af:=Ay g;have ap:=DM (cs:=p.cases) (c:=c) (by simp[g]);rw[I7] at d;rw[B8] at l;have al:=Jd c.2;have M:=ih c.2 (by omega) (by omega);simp only[push_cast,seval,rq,g,Aa c (dn:=C) (by omega)]
     repeat' (first|(refine Ab (by exact M) ?_;simp only[push_cast,seval,rq,g,Aa c (dn:=C) (by omega)])|intro _)
     refine⟨_,_,Adx _,Aj.drop1 rfl (AfJ _),C++[c],w,_,f+((4+c.1.length)+Do c.2),_,by(simp(disch:=omega) only [wrap64];omega),by simp[g],rfl,by rw[<-d];omega,by omega,rfl⟩
def Fs(ps:List Al):Bool:=(Ch ps 0 false false []).1&&decide (((Ch ps 0 false false []).2.length:Int)<=20)&&decide ((Do ps:Int)<=4000)
theorem Aa1 ps (d:AV ps<=2^24):An π O 51 [.sl (ps.map Al.enc),.b false] [] (.b (Fs ps)) []:=by
 have a:=λid=>AnD O _ ps 0 false [] id (Adx _) d (by omega) (by omega);have e:=Sx O _ ps (Adx _) d;generalize hS:Fs ps=S;unfold Fs at hS;generalize Ch ps 0 false false []=R at *;obtain⟨f,rl⟩:=R;have a:∀id,An π O 67 [.agg [.arr id],.sl (ps.map Al.enc),.i .i64 0,.b false] [(id,.map [])] (.b f) [(id,.map (CQ rl))]:=a;simp only at hS;refine Ah (vs:=[.b S]) Aqn (by simp) (by simp) λn0 c=>?_;clear c;simp only[push_cast,seval,rq];intros;refine YZ (a _) ?_ ?_
 .simp
 simp only[push_cast,seval,rq,So]
 repeat' (first|(((first|apply Ac|apply Af|apply Ag)<;>intro _h)<;>simp only[push_cast,seval,rq,_h])|(refine Ab (by exact e) ?_;simp only[push_cast,seval,rq])|intro _)
 all_goals (try simp only[So] at *)
 all_goals subst hS
 all_goals (first|(refine Ae ?_;simp[get, *]<;>(intros;omega);done)|(refine Ai ?_;simp[push_cast,get, *];done)|skip)
theorem Ab0 ps (c:AV ps<=2^24):An π O 31 [.sl (ps.map Al.enc)] [] (.b (Fs ps)) []:=by
 refine Ah (vs:=[.b (Fs ps)]) Aos (by simp) (by simp) λn0 a=>?_;clear a;simp only[push_cast,seval,rq]
 repeat' (first|(((first|apply Ac|apply Af|apply Ag)<;>intro _h)<;>simp only[push_cast,seval,rq,_h])|(refine Ab (by exact Aa1 O ps c) ?_;simp only[push_cast,seval,rq])|intro _)
 all_goals (first|(refine Ae ?_;simp[get]<;>(intros;omega);done)|(refine Ai ?_;simp[push_cast,get];done)|skip)
end Go.Ir
