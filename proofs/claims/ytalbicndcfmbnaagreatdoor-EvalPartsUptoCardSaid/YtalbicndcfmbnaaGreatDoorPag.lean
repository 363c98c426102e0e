/-
  Inputs that are whole locales, and cases of layer 32.
-/
import Derived.Test.YtalbicndcfmbnaaGreatDoorPaf
set_option linter.all false
set_option linter.unusedSimpArgs false
set_option linter.unusedVariables false
namespace Go.Ir
open Go.Proofs
theorem ApG:Tryz.prog.cellsOf 178=5:=by kernel_rfl
theorem Apv:Tryz.prog.cellsOf 180=3:=by kernel_rfl
theorem Apc:Tryz.prog.cellsOf 182=2:=by kernel_rfl
theorem Ap8:Tryz.prog.cellsOf 24=6:=by kernel_rfl
theorem AjY:Tryz.prog.cellsOf 25=1:=by kernel_rfl
theorem AkD:Tryz.prog.cellsOf 26=1:=by kernel_rfl
theorem Al4:Tryz.prog.cellsOf 27=1:=by kernel_rfl
theorem AmE:Tryz.prog.cellsOf 32=1:=by kernel_rfl
theorem zN:Tryz.prog.cellsOf 34=19:=by kernel_rfl
theorem ApO:CN Tryz.prog 178=some true:=by kernel_rfl
theorem ApE:CN Tryz.prog 180=some true:=by kernel_rfl
theorem Aq3:CN Tryz.prog 182=some true:=by kernel_rfl
def ZU(x:Dc):Nat:=bw x.style+bw x.two+bw x.start+bw x.mid+bw x.fin
def m6(x:Eb):Nat:=bw x.unit+bw x.cls+bw x.pat
def aE(x:Dg):Nat:=bw x.skel+bw x.pat
theorem Afc(c:List V)(h:Ek Tryz.prog 178 c):∃x:Dc,V.agg c=x.enc/\ZU x<=A6 c:=by
 obtain⟨hl,hf⟩:=h.st_inv Tryz.underlying178
 rw[ApG] at hl
 obtain⟨x0,x1,x2,x3,x4,rfl⟩:=Am8 hl
 have f0:=hf _ (by exact Afi)
 have f1:=hf _ (by exact Abt _ Afi)
 have f2:=hf _ (by exact Abt _ (Abt _ Afi))
 have f3:=hf _ (by exact Abt _ (Abt _ (Abt _ Afi)))
 have f4:=hf _ (by exact Abt _ (Abt _ (Abt _ (Abt _ Afi))))
 simp only[c9,Are,ApP,ApB,AqF] at f0 f1 f2 f3 f4
 obtain⟨s0,rfl⟩:=f0.str_inv Tryz.underlying9
 obtain⟨s1,rfl⟩:=f1.str_inv Tryz.underlying9
 obtain⟨s2,rfl⟩:=f2.str_inv Tryz.underlying9
 obtain⟨s3,rfl⟩:=f3.str_inv Tryz.underlying9
 obtain⟨s4,rfl⟩:=f4.str_inv Tryz.underlying9
 exact⟨⟨s0,s1,s2,s3,s4⟩,rfl,by simp only[ZU,bw,A6,Bf];omega⟩
theorem AgK(c:List V)(h:Ek Tryz.prog 180 c):∃x:Eb,V.agg c=x.enc/\m6 x<=A6 c:=by
 obtain⟨hl,hf⟩:=h.st_inv Tryz.underlying180
 rw[Apv] at hl
 obtain⟨x0,x1,x2,rfl⟩:=AlT hl
 have f0:=hf _ (by exact Afi)
 have f1:=hf _ (by exact Abt _ Afi)
 have f2:=hf _ (by exact Abt _ (Abt _ Afi))
 simp only[c9,Are,ApP,ApB,AqF] at f0 f1 f2
 obtain⟨s0,rfl⟩:=f0.str_inv Tryz.underlying9
 obtain⟨s1,rfl⟩:=f1.str_inv Tryz.underlying9
 obtain⟨s2,rfl⟩:=f2.str_inv Tryz.underlying9
 exact⟨⟨s0,s1,s2⟩,rfl,by simp only[m6,bw,A6,Bf];omega⟩
theorem AeP(c:List V)(h:Ek Tryz.prog 182 c):∃x:Dg,V.agg c=x.enc/\aE x<=A6 c:=by
 obtain⟨hl,hf⟩:=h.st_inv Tryz.underlying182
 rw[Apc] at hl
 obtain⟨x0,x1,rfl⟩:=Aax hl
 have f0:=hf _ (by exact Afi)
 have f1:=hf _ (by exact Abt _ Afi)
 simp only[c9,Are,ApP,ApB,AqF] at f0 f1
 obtain⟨s0,rfl⟩:=f0.str_inv Tryz.underlying9
 obtain⟨s1,rfl⟩:=f1.str_inv Tryz.underlying9
 exact⟨⟨s0,s1⟩,rfl,by simp only[aE,bw,A6,Bf];omega⟩
theorem AdV{l:List V}(h:l.length=16):∃a b c d e s0 s1 s2 s3 s4 s5 f g i j k,l=[a,b,c,d,e,s0,s1,s2,s3,s4,s5,f,g,i,j,k]:=by
 match l,h with
 | [a,b,c,d,e,s0,s1,s2,s3,s4,s5,f,g,i,j,k],_=>grind
theorem Alk{n:Int}(h:(Lit.int .i64 n).wf=true):-9223372036854775808<=n/\n<9223372036854775808:=by
 simp only[Lit.wf,Aav,decide_eq_true_eq] at h
 have h1:IntKind.i64.min=-9223372036854775808:=by decide
 have h2:IntKind.i64.max=9223372036854775807:=by decide
 omega
theorem S9(l:List Aa):E4 l<=30*Df bw l:=by
 induction l with
 | nil=>simp[E4,Bz,Df]
 | cons x l ih=>unfold E4 at *;simp only[Bz,Df,Ho,bw] at *;omega
theorem NV{α:Type}{f g:α->Nat}(h:∀x,f x<=30*g x)(l:List α):Bz f l<=30*Df g l:=by
 induction l with
 | nil=>simp[Bz,Df]
 | cons x l ih=>simp only[Bz,Df];have:=h x;omega
set_option maxHeartbeats 2000000 in
theorem Aij(c:List V)(h:Ek Tryz.prog 30 c):∃l:BV,V.agg c=l.enc/\M0 l<=200*A6 c/\A7 l.card+A7 l.ord<=A6 c/\-9223372036854775808<=l.prim/\l.sec<9223372036854775808:=by
 obtain⟨hl,hf⟩:=h.st_inv Tryz.underlying30
 rw[An5] at hl
 obtain⟨x0,x1,x2,x3,x4,y0,y1,y2,y3,y4,y5,x6,x7,x8,x9,x10,rfl⟩:=AdV hl
 have f0:=hf _ (by exact Afi)
 have f1:=hf _ (by exact Abt _ Afi)
 have f2:=hf _ (by exact Abt _ (Abt _ Afi))
 have f3:=hf _ (by exact Abt _ (Abt _ (Abt _ Afi)))
 have f4:=hf _ (by exact Abt _ (Abt _ (Abt _ (Abt _ Afi))))
 have f5:=hf _ (by exact Abt _ (Abt _ (Abt _ (Abt _ (Abt _ Afi)))))
 have f6:=hf _ (by exact Abt _ (Abt _ (Abt _ (Abt _ (Abt _ (Abt _ Afi))))))
 have f7:=hf _ (by exact Abt _ (Abt _ (Abt _ (Abt _ (Abt _ (Abt _ (Abt _ Afi)))))))
 have f8:=hf _ (by exact Abt _ (Abt _ (Abt _ (Abt _ (Abt _ (Abt _ (Abt _ (Abt _ Afi))))))))
 have f9:=hf _ (by exact Abt _ (Abt _ (Abt _ (Abt _ (Abt _ (Abt _ (Abt _ (Abt _ (Abt _ Afi)))))))))
 have f10:=hf _ (by exact Abt _ (Abt _ (Abt _ (Abt _ (Abt _ (Abt _ (Abt _ (Abt _ (Abt _ (Abt _ Afi))))))))))
 clear hf
 simp only[c9,Ag4,Ap8,AjY,AkD,Al4,AcO,Are,ApP,ApB,AqF] at f0 f1 f2 f3 f4 f5 f6 f7 f8 f9 f10
 obtain⟨tag,rfl⟩:=f0.str_inv Tryz.underlying9
 obtain⟨par,rfl⟩:=f1.str_inv Tryz.underlying9
 obtain⟨dir,rfl⟩:=f2.str_inv Tryz.underlying9
 obtain⟨xs,rfl,hw⟩:=DR f3 Tryz.underlying22 Ac1 AH.enc AH.wt TH
 obtain⟨ys,rfl,hw2⟩:=DR f4 Tryz.underlying22 Ac1 AH.enc AH.wt TH
 obtain⟨_,hs⟩:=f5.st_inv Tryz.underlying24
 have g0:=hs _ (by exact Afi)
 have g1:=hs _ (by exact Abt _ Afi)
 have g2:=hs _ (by exact Abt _ (Abt _ Afi))
 have g3:=hs _ (by exact Abt _ (Abt _ (Abt _ Afi)))
 have g4:=hs _ (by exact Abt _ (Abt _ (Abt _ (Abt _ Afi))))
 have g5:=hs _ (by exact Abt _ (Abt _ (Abt _ (Abt _ (Abt _ Afi)))))
 clear hs f5
 simp only[c9,c3,Are,ApP,ApB,AqF] at g0 g1 g2 g3 g4 g5
 obtain⟨s0,rfl⟩:=g0.str_inv Tryz.underlying9
 obtain⟨s1,rfl⟩:=g1.str_inv Tryz.underlying9
 obtain⟨s2,rfl⟩:=g2.str_inv Tryz.underlying9
 obtain⟨s3,rfl⟩:=g3.str_inv Tryz.underlying9
 obtain⟨n4,rfl,u4⟩:=g4.int_inv Tryz.underlying3
 obtain⟨n5,rfl,u5⟩:=g5.int_inv Tryz.underlying3
 obtain⟨ls,rfl,hw6⟩:=DR f6 Tryz.underlying25 ApO Dc.enc ZU Afc
 obtain⟨us,rfl,hw7⟩:=DR f7 Tryz.underlying26 ApE Eb.enc m6 AgK
 obtain⟨ds,rfl,hw8⟩:=DR f8 Tryz.underlying27 Aq3 Dg.enc aE AeP
 obtain⟨ms,rfl,hw9⟩:=Pn x9 f9
 obtain⟨dy,rfl,hw10⟩:=Pn x10 f10
 refine⟨⟨tag,par,dir,xs,ys,s0,s1,s2,s3,n4,n5,ls,us,ds,ms,dy⟩,rfl,?_,?_,(Alk u4).1,(Alk u5).2⟩
 ·have h1:=S9 [tag,par,dir,s0,s1,s2,s3]
  have h2:=S9 dy
  have h3:=S9 ms
  have h4:=NV (f:=Dc.sz) (g:=ZU) (fun x=>by simp only[Dc.sz,E4,Bz,Ho,ZU,bw];omega) ls
  have h5:=NV (f:=Eb.sz) (g:=m6) (fun x=>by simp only[Eb.sz,E4,Bz,Ho,m6,bw];omega) us
  have h6:=NV (f:=Dg.sz) (g:=aE) (fun x=>by simp only[Dg.sz,E4,Bz,Ho,aE,bw];omega) ds
  have h7:=Jt (w:=AH.wt) (l:=xs) (fun _=>by unfold AH.wt;omega)
  have h8:=Jt (w:=AH.wt) (l:=ys) (fun _=>by unfold AH.wt;omega)
  simp only[Df,bw] at h1
  unfold M0
  simp only[A6,Bf] at hw hw2 hw6 hw7 hw8 hw9 hw10⊢
  omega
 ·simp only[XH]
  simp only[A6,Bf] at hw hw2⊢
  omega
theorem yX(c:List V)(h:Ek Tryz.prog 34 c):∃L ps vs iso,V.agg c=PI L ps vs iso/\M0 L<=200*A6 c/\A7 L.card+A7 L.ord<=A6 c/\Bd ps<=A6 c/\Df BE.wt vs<=A6 c/\-9223372036854775808<=L.prim/\L.sec<9223372036854775808:=by
 obtain⟨hl,hf⟩:=h.st_inv Tryz.underlying34
 rw[zN] at hl
 obtain⟨a,r,rfl,ha,hr⟩:∃a r,c=a++r/\a.length=16/\r.length=3:=⟨c.take 16,c.drop 16,(AtD 16 c).symm,by simp;omega,by simp;omega⟩
 obtain⟨x0,x1,x2,rfl⟩:=AlT hr
 have f0:=hf _ (by exact Afi)
 have f1:=hf _ (by exact Abt _ Afi)
 have f2:=hf _ (by exact Abt _ (Abt _ Afi))
 have f3:=hf _ (by exact Abt _ (Abt _ (Abt _ Afi)))
 clear hf
 have d16:(a++[x0,x1,x2]).drop 16=[x0,x1,x2]:=by rw[<-ha,Auh]
 have d17:(a++[x0,x1,x2]).drop 17=[x1,x2]:=by rw[<-AtC (i:=1) (j:=16),d16];rfl
 have d18:(a++[x0,x1,x2]).drop 18=[x2]:=by rw[<-AtC (i:=2) (j:=16),d16];rfl
 have t16:(a++[x0,x1,x2]).take 16=a:=by rw[<-ha,List.take_left]
 simp only[An5,c31,AmE,Ab5,Are,d16,d17,d18,t16,ApB,AqF] at f0 f1 f2 f3
 obtain⟨L,hL,hb1,hb2,hb3,hb4⟩:=Aij a f0
 obtain⟨ps,rfl,hps⟩:=pY _ x0 (AbG _) f1
 obtain⟨vs,rfl,hvs⟩:=Aa7 x1 f2
 obtain⟨iso,rfl⟩:=f3.bool_inv Tryz.underlying4
 refine⟨L,ps,vs,iso,?_,?_,?_,?_,?_,hb3,hb4⟩
 ·rw[BV.enc_eq] at hL
  cases hL
  rw[GD,Hn]
  rfl
 all_goals (rw[Fu];simp only[A6];omega)
end Go.Ir
