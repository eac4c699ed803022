/-
  PayColours: contracts of functions, part 1.
-/
import Derived.Test.YtnnbmcfabojjjaaRows
import Derived.Test.YtnnbmcfabojjjaaNat
import Derived.WalkKit
import Derived.ProofKit
import Derived.OpenShut
import Derived.ChangeOld
import Derived.Below
import Derived.KernelRfl
import Derived.Lib.SmallJoins
import Derived.Laws.IdiomArrays
namespace Go.Proofs.Ytnnbmcfabojjjaa.payColours
open Go.ChangeShapes Go.WideShapes Go.ChangeAt Go.RowKit
open Go.SX
open Go.SX.E (fn pr cmp var)
set_option linter.unusedVariables false
set_option linter.unusedSimpArgs false
set_option maxRecDepth 100000
noncomputable section
theorem own:ownKnob Try.prog.godebug=none:=by kernel_rfl
theorem laidOut:laidOutB Try.prog=true:=by kernel_rfl
theorem good:lU Try.prog=true:=by kernel_rfl

theorem aeZ{G:Type}{cs:Array G}(h:cs.size=5):∃c0 c1 c2 c3 c4,cs=#[c0,c1,c2,c3,c4]:=by
 obtain⟨l⟩:=cs
 match l,h with
 |[c0,c1,c2,c3,c4],_=>exact⟨c0,c1,c2,c3,c4,rfl⟩
theorem ag9{H:Type}{W:World}{base:Nat}{enc:TypeId×Value->H}{v:Value}{d:DataW H}{p:List MemPlace}(o:Value.okWide Try.prog W .any base 42 v)
  (h:DataW.Trod enc Try.prog W 0 (fun _=>true) true 42 v d p):∃x0 x1 x2 x3 x4:Int,v=.agg #[.int .i64 x0,.int .i64 x1,.int .i64 x2,.int .i64 x3,.int .i64 x4]/\
   (Lit.int .i64 x0).wf=true/\(Lit.int .i64 x1).wf=true/\(Lit.int .i64 x2).wf=true/\(Lit.int .i64 x3).wf=true/\(Lit.int .i64 x4).wf=true:=by
 obtain⟨cs,rfl,hsz⟩:=okWide_struct Try.underlying42 o
 have hC:Try.prog.cellsOf 42=5:=by kernel_rfl
 obtain⟨c0,c1,c2,c3,c4,rfl⟩:=aeZ (hsz.trans hC)
 obtain⟨fuel,hf⟩:=h
 obtain⟨y0,y1,n,hx,_,h0,h1⟩:=trod_struct2 Try.underlying42 hf
 have e25:Try.prog.cellsOf 25=4:=by kernel_rfl
 have e3:Try.prog.cellsOf 3=1:=by kernel_rfl
 simp[Value.cells,e25,e3]at h0 h1
 obtain⟨z0,z1,z2,z3,m,_,k0,k1,k2,k3⟩:=trod_array4 Try.underlying25 e3 h0
 obtain⟨x0,a0,_,w0⟩:=DataW.trod_int Try.underlying3 k0
 obtain⟨x1,a1,_,w1⟩:=DataW.trod_int Try.underlying3 k1
 obtain⟨x2,a2,_,w2⟩:=DataW.trod_int Try.underlying3 k2
 obtain⟨x3,a3,_,w3⟩:=DataW.trod_int Try.underlying3 k3
 obtain⟨x4,a4,_,w4⟩:=DataW.trod_int Try.underlying3 h1
 simp only[List.cons.injEq,and_true]at a0 a1 a2 a3 a4;subst a0 a1 a2 a3 a4
 exact⟨x0,x1,x2,x3,x4,rfl,w0,w1,w2,w3,w4⟩
theorem ax3{G:Type}{cs:Array G}(h:cs.size=4):∃c0 c1 c2 c3,cs=#[c0,c1,c2,c3]:=by
 obtain⟨l⟩:=cs
 match l,h with
 |[c0,c1,c2,c3],_=>exact⟨c0,c1,c2,c3,rfl⟩
theorem aBb{H:Type}{W:World}{base:Nat}{enc:TypeId×Value->H}{v:Value}{d:DataW H}{p:List MemPlace}(o:Value.okWide Try.prog W .any base 25 v)
  (h:DataW.Trod enc Try.prog W 0 (fun _=>true) true 25 v d p):∃x0 x1 x2 x3:Int,v=.agg #[.int .i64 x0,.int .i64 x1,.int .i64 x2,.int .i64 x3]/\
   (Lit.int .i64 x0).wf=true/\(Lit.int .i64 x1).wf=true/\(Lit.int .i64 x2).wf=true/\(Lit.int .i64 x3).wf=true:=by
 simp only[Value.okWide,Try.underlying25]at o
 obtain⟨cs,rfl,hsz,_⟩:=o
 have hC:Try.prog.cellsOf 25=4:=by kernel_rfl
 obtain⟨c0,c1,c2,c3,rfl⟩:=ax3 (hsz.trans hC)
 obtain⟨fuel,hf⟩:=h
 have e3:Try.prog.cellsOf 3=1:=by kernel_rfl
 obtain⟨z0,z1,z2,z3,m,_,k0,k1,k2,k3⟩:=trod_array4 Try.underlying25 e3 hf
 obtain⟨x0,a0,_,w0⟩:=DataW.trod_int Try.underlying3 k0
 obtain⟨x1,a1,_,w1⟩:=DataW.trod_int Try.underlying3 k1
 obtain⟨x2,a2,_,w2⟩:=DataW.trod_int Try.underlying3 k2
 obtain⟨x3,a3,_,w3⟩:=DataW.trod_int Try.underlying3 k3
 simp only[List.cons.injEq,and_true]at a0 a1 a2 a3;subst a0 a1 a2 a3
 exact⟨x0,x1,x2,x3,rfl,w0,w1,w2,w3⟩

abbrev Tr(f:E):Prop:=∀F:Env,E.B F f=true
theorem ac{e:E}{l:List E}(h:Tr e)(hl:∀e∈l,Tr e):∀x∈e::l,Tr x:=all_cons h hl
structure Fa where
 e:E
 t:Tr e
def fa(e:E)(t:Tr e):Fa:=⟨e,t⟩
def XU:E->List E->E
 |a,[]=>a
 |a,b::l=>.and a (XU b l)
def cG:List E->E->E
 |[],d=>d
 |a::l,d=>.imp (XU a l) d
def fb(l:List E)(d:E)(t:Tr (cG l d)):Fa:=⟨cG l d,t⟩
def fl:List Fa->List E
 |[]=>[]
 |x::l=>x.e::fl l
theorem FK:∀l:List Fa,∀e∈fl l,Tr e
 |[],e,h=>by cases h
 |x::l,e,h=>(List.mem_cons.1 h).elim (fun h=>h▸x.t) (FK l e)
def iR:Fa:=fa tO fun F=>rfl
theorem az{a0 d:E}(h:∀F:Env,E.B F a0=true->E.B F d=true):Tr (cG [a0] d):=fun F=>by
 show E.B F (.imp a0 d)=true
 rw[cI]
 rintro p0
 exact h F p0
theorem au{a0 a1 d:E}(h:∀F:Env,E.B F a0=true->E.B F a1=true->E.B F d=true):Tr (cG [a0,a1] d):=fun F=>by
 show E.B F (.imp (.and a0 a1) d)=true
 rw[cI]
 simp only[ci]
 rintro⟨p0,p1⟩
 exact h F p0 p1
theorem am{a0 a1 a2 d:E}(h:∀F:Env,E.B F a0=true->E.B F a1=true->E.B F a2=true->E.B F d=true):Tr (cG [a0,a1,a2] d):=fun F=>by
 show E.B F (.imp (.and a0 (.and a1 a2)) d)=true
 rw[cI]
 simp only[ci]
 rintro⟨p0,p1,p2⟩
 exact h F p0 p1 p2
theorem aF{a0 a1 a2 a3 d:E}(h:∀F:Env,E.B F a0=true->E.B F a1=true->E.B F a2=true->E.B F a3=true->E.B F d=true):Tr (cG [a0,a1,a2,a3] d):=fun F=>by
 show E.B F (.imp (.and a0 (.and a1 (.and a2 a3))) d)=true
 rw[cI]
 simp only[ci]
 rintro⟨p0,p1,p2,p3⟩
 exact h F p0 p1 p2 p3
theorem aT{a0 a1 a2 a3 a4 d:E}(h:∀F:Env,E.B F a0=true->E.B F a1=true->E.B F a2=true->E.B F a3=true->E.B F a4=true->E.B F d=true):Tr (cG [a0,a1,a2,a3,a4] d):=fun F=>by
 show E.B F (.imp (.and a0 (.and a1 (.and a2 (.and a3 a4)))) d)=true
 rw[cI]
 simp only[ci]
 rintro⟨p0,p1,p2,p3,p4⟩
 exact h F p0 p1 p2 p3 p4
theorem bU{a0 a1 a2 a3 a4 a5 d:E}(h:∀F:Env,E.B F a0=true->E.B F a1=true->E.B F a2=true->E.B F a3=true->E.B F a4=true->E.B F a5=true->E.B F d=true):Tr (cG [a0,a1,a2,a3,a4,a5] d):=fun F=>by
 show E.B F (.imp (.and a0 (.and a1 (.and a2 (.and a3 (.and a4 a5))))) d)=true
 rw[cI]
 simp only[ci]
 rintro⟨p0,p1,p2,p3,p4,p5⟩
 exact h F p0 p1 p2 p3 p4 p5
theorem ck{a0 a1 a2 a3 a4 a5 a6 d:E}(h:∀F:Env,E.B F a0=true->E.B F a1=true->E.B F a2=true->E.B F a3=true->E.B F a4=true->E.B F a5=true->E.B F a6=true->E.B F d=true):Tr (cG [a0,a1,a2,a3,a4,a5,a6] d):=fun F=>by
 show E.B F (.imp (.and a0 (.and a1 (.and a2 (.and a3 (.and a4 (.and a5 a6)))))) d)=true
 rw[cI]
 simp only[ci]
 rintro⟨p0,p1,p2,p3,p4,p5,p6⟩
 exact h F p0 p1 p2 p3 p4 p5 p6
theorem cU{a0 a1 a2 a3 a4 a5 a6 a7 d:E}(h:∀F:Env,E.B F a0=true->E.B F a1=true->E.B F a2=true->E.B F a3=true->E.B F a4=true->E.B F a5=true->E.B F a6=true->E.B F a7=true->E.B F d=true):Tr (cG [a0,a1,a2,a3,a4,a5,a6,a7] d):=fun F=>by
 show E.B F (.imp (.and a0 (.and a1 (.and a2 (.and a3 (.and a4 (.and a5 (.and a6 a7))))))) d)=true
 rw[cI]
 simp only[ci]
 rintro⟨p0,p1,p2,p3,p4,p5,p6,p7⟩
 exact h F p0 p1 p2 p3 p4 p5 p6 p7
theorem dK{a0 a1 a2 a3 a4 a5 a6 a7 a8 d:E}(h:∀F:Env,E.B F a0=true->E.B F a1=true->E.B F a2=true->E.B F a3=true->E.B F a4=true->E.B F a5=true->E.B F a6=true->E.B F a7=true->E.B F a8=true->E.B F d=true):Tr (cG [a0,a1,a2,a3,a4,a5,a6,a7,a8] d):=fun F=>by
 show E.B F (.imp (.and a0 (.and a1 (.and a2 (.and a3 (.and a4 (.and a5 (.and a6 (.and a7 a8)))))))) d)=true
 rw[cI]
 simp only[ci]
 rintro⟨p0,p1,p2,p3,p4,p5,p6,p7,p8⟩
 exact h F p0 p1 p2 p3 p4 p5 p6 p7 p8
theorem fF{a0 a1 a2 a3 a4 a5 a6 a7 a8 a9 d:E}(h:∀F:Env,E.B F a0=true->E.B F a1=true->E.B F a2=true->E.B F a3=true->E.B F a4=true->E.B F a5=true->E.B F a6=true->E.B F a7=true->E.B F a8=true->E.B F a9=true->E.B F d=true):Tr (cG [a0,a1,a2,a3,a4,a5,a6,a7,a8,a9] d):=fun F=>by
 show E.B F (.imp (.and a0 (.and a1 (.and a2 (.and a3 (.and a4 (.and a5 (.and a6 (.and a7 (.and a8 a9))))))))) d)=true
 rw[cI]
 simp only[ci]
 rintro⟨p0,p1,p2,p3,p4,p5,p6,p7,p8,p9⟩
 exact h F p0 p1 p2 p3 p4 p5 p6 p7 p8 p9
theorem gk{a0 a1 a2 a3 a4 a5 a6 a7 a8 a9 a10 d:E}(h:∀F:Env,E.B F a0=true->E.B F a1=true->E.B F a2=true->E.B F a3=true->E.B F a4=true->E.B F a5=true->E.B F a6=true->E.B F a7=true->E.B F a8=true->E.B F a9=true->E.B F a10=true->E.B F d=true):Tr (cG [a0,a1,a2,a3,a4,a5,a6,a7,a8,a9,a10] d):=fun F=>by
 show E.B F (.imp (.and a0 (.and a1 (.and a2 (.and a3 (.and a4 (.and a5 (.and a6 (.and a7 (.and a8 (.and a9 a10)))))))))) d)=true
 rw[cI]
 simp only[ci]
 rintro⟨p0,p1,p2,p3,p4,p5,p6,p7,p8,p9,ao⟩
 exact h F p0 p1 p2 p3 p4 p5 p6 p7 p8 p9 ao
theorem iv{a0 a1 a2 a3 a4 a5 a6 a7 a8 a9 a10 a11 d:E}(h:∀F:Env,E.B F a0=true->E.B F a1=true->E.B F a2=true->E.B F a3=true->E.B F a4=true->E.B F a5=true->E.B F a6=true->E.B F a7=true->E.B F a8=true->E.B F a9=true->E.B F a10=true->E.B F a11=true->E.B F d=true):Tr (cG [a0,a1,a2,a3,a4,a5,a6,a7,a8,a9,a10,a11] d):=fun F=>by
 show E.B F (.imp (.and a0 (.and a1 (.and a2 (.and a3 (.and a4 (.and a5 (.and a6 (.and a7 (.and a8 (.and a9 (.and a10 a11))))))))))) d)=true
 rw[cI]
 simp only[ci]
 rintro⟨p0,p1,p2,p3,p4,p5,p6,p7,p8,p9,ao,av⟩
 exact h F p0 p1 p2 p3 p4 p5 p6 p7 p8 p9 ao av
theorem gP{a0 a1 a2 a3 a4 a5 a6 a7 a8 a9 a10 a11 a12 d:E}(h:∀F:Env,E.B F a0=true->E.B F a1=true->E.B F a2=true->E.B F a3=true->E.B F a4=true->E.B F a5=true->E.B F a6=true->E.B F a7=true->E.B F a8=true->E.B F a9=true->E.B F a10=true->E.B F a11=true->E.B F a12=true->E.B F d=true):Tr (cG [a0,a1,a2,a3,a4,a5,a6,a7,a8,a9,a10,a11,a12] d):=fun F=>by
 show E.B F (.imp (.and a0 (.and a1 (.and a2 (.and a3 (.and a4 (.and a5 (.and a6 (.and a7 (.and a8 (.and a9 (.and a10 (.and a11 a12)))))))))))) d)=true
 rw[cI]
 simp only[ci]
 rintro⟨p0,p1,p2,p3,p4,p5,p6,p7,p8,p9,ao,av,ax⟩
 exact h F p0 p1 p2 p3 p4 p5 p6 p7 p8 p9 ao av ax
theorem rU{a0 a1 a2 a3 a4 a5 a6 a7 a8 a9 a10 a11 a12 a13 d:E}(h:∀F:Env,E.B F a0=true->E.B F a1=true->E.B F a2=true->E.B F a3=true->E.B F a4=true->E.B F a5=true->E.B F a6=true->E.B F a7=true->E.B F a8=true->E.B F a9=true->E.B F a10=true->E.B F a11=true->E.B F a12=true->E.B F a13=true->E.B F d=true):Tr (cG [a0,a1,a2,a3,a4,a5,a6,a7,a8,a9,a10,a11,a12,a13] d):=fun F=>by
 show E.B F (.imp (.and a0 (.and a1 (.and a2 (.and a3 (.and a4 (.and a5 (.and a6 (.and a7 (.and a8 (.and a9 (.and a10 (.and a11 (.and a12 a13))))))))))))) d)=true
 rw[cI]
 simp only[ci]
 rintro⟨p0,p1,p2,p3,p4,p5,p6,p7,p8,p9,ao,av,ax,aB⟩
 exact h F p0 p1 p2 p3 p4 p5 p6 p7 p8 p9 ao av ax aB
theorem wv{a0 a1 a2 a3 a4 a5 a6 a7 a8 a9 a10 a11 a12 a13 a14 d:E}(h:∀F:Env,E.B F a0=true->E.B F a1=true->E.B F a2=true->E.B F a3=true->E.B F a4=true->E.B F a5=true->E.B F a6=true->E.B F a7=true->E.B F a8=true->E.B F a9=true->E.B F a10=true->E.B F a11=true->E.B F a12=true->E.B F a13=true->E.B F a14=true->E.B F d=true):Tr (cG [a0,a1,a2,a3,a4,a5,a6,a7,a8,a9,a10,a11,a12,a13,a14] d):=fun F=>by
 show E.B F (.imp (.and a0 (.and a1 (.and a2 (.and a3 (.and a4 (.and a5 (.and a6 (.and a7 (.and a8 (.and a9 (.and a10 (.and a11 (.and a12 (.and a13 a14)))))))))))))) d)=true
 rw[cI]
 simp only[ci]
 rintro⟨p0,p1,p2,p3,p4,p5,p6,p7,p8,p9,ao,av,ax,aB,aC⟩
 exact h F p0 p1 p2 p3 p4 p5 p6 p7 p8 p9 ao av ax aB aC
theorem lf{a0 a1 a2 a3 a4 a5 a6 a7 a8 a9 a10 a11 a12 a13 a14 a15 d:E}(h:∀F:Env,E.B F a0=true->E.B F a1=true->E.B F a2=true->E.B F a3=true->E.B F a4=true->E.B F a5=true->E.B F a6=true->E.B F a7=true->E.B F a8=true->E.B F a9=true->E.B F a10=true->E.B F a11=true->E.B F a12=true->E.B F a13=true->E.B F a14=true->E.B F a15=true->E.B F d=true):Tr (cG [a0,a1,a2,a3,a4,a5,a6,a7,a8,a9,a10,a11,a12,a13,a14,a15] d):=fun F=>by
 show E.B F (.imp (.and a0 (.and a1 (.and a2 (.and a3 (.and a4 (.and a5 (.and a6 (.and a7 (.and a8 (.and a9 (.and a10 (.and a11 (.and a12 (.and a13 (.and a14 a15))))))))))))))) d)=true
 rw[cI]
 simp only[ci]
 rintro⟨p0,p1,p2,p3,p4,p5,p6,p7,p8,p9,ao,av,ax,aB,aC,aE⟩
 exact h F p0 p1 p2 p3 p4 p5 p6 p7 p8 p9 ao av ax aB aC aE
theorem yE{a0 a1 a2 a3 a4 a5 a6 a7 a8 a9 a10 a11 a12 a13 a14 a15 a16 d:E}(h:∀F:Env,E.B F a0=true->E.B F a1=true->E.B F a2=true->E.B F a3=true->E.B F a4=true->E.B F a5=true->E.B F a6=true->E.B F a7=true->E.B F a8=true->E.B F a9=true->E.B F a10=true->E.B F a11=true->E.B F a12=true->E.B F a13=true->E.B F a14=true->E.B F a15=true->E.B F a16=true->E.B F d=true):Tr (cG [a0,a1,a2,a3,a4,a5,a6,a7,a8,a9,a10,a11,a12,a13,a14,a15,a16] d):=fun F=>by
 show E.B F (.imp (.and a0 (.and a1 (.and a2 (.and a3 (.and a4 (.and a5 (.and a6 (.and a7 (.and a8 (.and a9 (.and a10 (.and a11 (.and a12 (.and a13 (.and a14 (.and a15 a16)))))))))))))))) d)=true
 rw[cI]
 simp only[ci]
 rintro⟨p0,p1,p2,p3,p4,p5,p6,p7,p8,p9,ao,av,ax,aB,aC,aE,aL⟩
 exact h F p0 p1 p2 p3 p4 p5 p6 p7 p8 p9 ao av ax aB aC aE aL
theorem vc{a0 a1 a2 a3 a4 a5 a6 a7 a8 a9 a10 a11 a12 a13 a14 a15 a16 a17 d:E}(h:∀F:Env,E.B F a0=true->E.B F a1=true->E.B F a2=true->E.B F a3=true->E.B F a4=true->E.B F a5=true->E.B F a6=true->E.B F a7=true->E.B F a8=true->E.B F a9=true->E.B F a10=true->E.B F a11=true->E.B F a12=true->E.B F a13=true->E.B F a14=true->E.B F a15=true->E.B F a16=true->E.B F a17=true->E.B F d=true):Tr (cG [a0,a1,a2,a3,a4,a5,a6,a7,a8,a9,a10,a11,a12,a13,a14,a15,a16,a17] d):=fun F=>by
 show E.B F (.imp (.and a0 (.and a1 (.and a2 (.and a3 (.and a4 (.and a5 (.and a6 (.and a7 (.and a8 (.and a9 (.and a10 (.and a11 (.and a12 (.and a13 (.and a14 (.and a15 (.and a16 a17))))))))))))))))) d)=true
 rw[cI]
 simp only[ci]
 rintro⟨p0,p1,p2,p3,p4,p5,p6,p7,p8,p9,ao,av,ax,aB,aC,aE,aL,aQ⟩
 exact h F p0 p1 p2 p3 p4 p5 p6 p7 p8 p9 ao av ax aB aC aE aL aQ
theorem vk{a0 a1 a2 a3 a4 a5 a6 a7 a8 a9 a10 a11 a12 a13 a14 a15 a16 a17 a18 d:E}(h:∀F:Env,E.B F a0=true->E.B F a1=true->E.B F a2=true->E.B F a3=true->E.B F a4=true->E.B F a5=true->E.B F a6=true->E.B F a7=true->E.B F a8=true->E.B F a9=true->E.B F a10=true->E.B F a11=true->E.B F a12=true->E.B F a13=true->E.B F a14=true->E.B F a15=true->E.B F a16=true->E.B F a17=true->E.B F a18=true->E.B F d=true):Tr (cG [a0,a1,a2,a3,a4,a5,a6,a7,a8,a9,a10,a11,a12,a13,a14,a15,a16,a17,a18] d):=fun F=>by
 show E.B F (.imp (.and a0 (.and a1 (.and a2 (.and a3 (.and a4 (.and a5 (.and a6 (.and a7 (.and a8 (.and a9 (.and a10 (.and a11 (.and a12 (.and a13 (.and a14 (.and a15 (.and a16 (.and a17 a18)))))))))))))))))) d)=true
 rw[cI]
 simp only[ci]
 rintro⟨p0,p1,p2,p3,p4,p5,p6,p7,p8,p9,ao,av,ax,aB,aC,aE,aL,aQ,bb⟩
 exact h F p0 p1 p2 p3 p4 p5 p6 p7 p8 p9 ao av ax aB aC aE aL aQ bb
theorem Cq{a0 a1 a2 a3 a4 a5 a6 a7 a8 a9 a10 a11 a12 a13 a14 a15 a16 a17 a18 a19 d:E}(h:∀F:Env,E.B F a0=true->E.B F a1=true->E.B F a2=true->E.B F a3=true->E.B F a4=true->E.B F a5=true->E.B F a6=true->E.B F a7=true->E.B F a8=true->E.B F a9=true->E.B F a10=true->E.B F a11=true->E.B F a12=true->E.B F a13=true->E.B F a14=true->E.B F a15=true->E.B F a16=true->E.B F a17=true->E.B F a18=true->E.B F a19=true->E.B F d=true):Tr (cG [a0,a1,a2,a3,a4,a5,a6,a7,a8,a9,a10,a11,a12,a13,a14,a15,a16,a17,a18,a19] d):=fun F=>by
 show E.B F (.imp (.and a0 (.and a1 (.and a2 (.and a3 (.and a4 (.and a5 (.and a6 (.and a7 (.and a8 (.and a9 (.and a10 (.and a11 (.and a12 (.and a13 (.and a14 (.and a15 (.and a16 (.and a17 (.and a18 a19))))))))))))))))))) d)=true
 rw[cI]
 simp only[ci]
 rintro⟨p0,p1,p2,p3,p4,p5,p6,p7,p8,p9,ao,av,ax,aB,aC,aE,aL,aQ,bb,bm⟩
 exact h F p0 p1 p2 p3 p4 p5 p6 p7 p8 p9 ao av ax aB aC aE aL aQ bb bm
theorem abW{a0 a1 a2 a3 a4 a5 a6 a7 a8 a9 a10 a11 a12 a13 a14 a15 a16 a17 a18 a19 a20 d:E}(h:∀F:Env,E.B F a0=true->E.B F a1=true->E.B F a2=true->E.B F a3=true->E.B F a4=true->E.B F a5=true->E.B F a6=true->E.B F a7=true->E.B F a8=true->E.B F a9=true->E.B F a10=true->E.B F a11=true->E.B F a12=true->E.B F a13=true->E.B F a14=true->E.B F a15=true->E.B F a16=true->E.B F a17=true->E.B F a18=true->E.B F a19=true->E.B F a20=true->E.B F d=true):Tr (cG [a0,a1,a2,a3,a4,a5,a6,a7,a8,a9,a10,a11,a12,a13,a14,a15,a16,a17,a18,a19,a20] d):=fun F=>by
 show E.B F (.imp (.and a0 (.and a1 (.and a2 (.and a3 (.and a4 (.and a5 (.and a6 (.and a7 (.and a8 (.and a9 (.and a10 (.and a11 (.and a12 (.and a13 (.and a14 (.and a15 (.and a16 (.and a17 (.and a18 (.and a19 a20)))))))))))))))))))) d)=true
 rw[cI]
 simp only[ci]
 rintro⟨p0,p1,p2,p3,p4,p5,p6,p7,p8,p9,ao,av,ax,aB,aC,aE,aL,aQ,bb,bm,bB⟩
 exact h F p0 p1 p2 p3 p4 p5 p6 p7 p8 p9 ao av ax aB aC aE aL aQ bb bm bB
theorem Zs{a0 a1 a2 a3 a4 a5 a6 a7 a8 a9 a10 a11 a12 a13 a14 a15 a16 a17 a18 a19 a20 a21 d:E}(h:∀F:Env,E.B F a0=true->E.B F a1=true->E.B F a2=true->E.B F a3=true->E.B F a4=true->E.B F a5=true->E.B F a6=true->E.B F a7=true->E.B F a8=true->E.B F a9=true->E.B F a10=true->E.B F a11=true->E.B F a12=true->E.B F a13=true->E.B F a14=true->E.B F a15=true->E.B F a16=true->E.B F a17=true->E.B F a18=true->E.B F a19=true->E.B F a20=true->E.B F a21=true->E.B F d=true):Tr (cG [a0,a1,a2,a3,a4,a5,a6,a7,a8,a9,a10,a11,a12,a13,a14,a15,a16,a17,a18,a19,a20,a21] d):=fun F=>by
 show E.B F (.imp (.and a0 (.and a1 (.and a2 (.and a3 (.and a4 (.and a5 (.and a6 (.and a7 (.and a8 (.and a9 (.and a10 (.and a11 (.and a12 (.and a13 (.and a14 (.and a15 (.and a16 (.and a17 (.and a18 (.and a19 (.and a20 a21))))))))))))))))))))) d)=true
 rw[cI]
 simp only[ci]
 rintro⟨p0,p1,p2,p3,p4,p5,p6,p7,p8,p9,ao,av,ax,aB,aC,aE,aL,aQ,bb,bm,bB,bF⟩
 exact h F p0 p1 p2 p3 p4 p5 p6 p7 p8 p9 ao av ax aB aC aE aL aQ bb bm bB bF
theorem aCs{a0 a1 a2 a3 a4 a5 a6 a7 a8 a9 a10 a11 a12 a13 a14 a15 a16 a17 a18 a19 a20 a21 a22 d:E}(h:∀F:Env,E.B F a0=true->E.B F a1=true->E.B F a2=true->E.B F a3=true->E.B F a4=true->E.B F a5=true->E.B F a6=true->E.B F a7=true->E.B F a8=true->E.B F a9=true->E.B F a10=true->E.B F a11=true->E.B F a12=true->E.B F a13=true->E.B F a14=true->E.B F a15=true->E.B F a16=true->E.B F a17=true->E.B F a18=true->E.B F a19=true->E.B F a20=true->E.B F a21=true->E.B F a22=true->E.B F d=true):Tr (cG [a0,a1,a2,a3,a4,a5,a6,a7,a8,a9,a10,a11,a12,a13,a14,a15,a16,a17,a18,a19,a20,a21,a22] d):=fun F=>by
 show E.B F (.imp (.and a0 (.and a1 (.and a2 (.and a3 (.and a4 (.and a5 (.and a6 (.and a7 (.and a8 (.and a9 (.and a10 (.and a11 (.and a12 (.and a13 (.and a14 (.and a15 (.and a16 (.and a17 (.and a18 (.and a19 (.and a20 (.and a21 a22)))))))))))))))))))))) d)=true
 rw[cI]
 simp only[ci]
 rintro⟨p0,p1,p2,p3,p4,p5,p6,p7,p8,p9,ao,av,ax,aB,aC,aE,aL,aQ,bb,bm,bB,bF,bR⟩
 exact h F p0 p1 p2 p3 p4 p5 p6 p7 p8 p9 ao av ax aB aC aE aL aQ bb bm bB bF bR
theorem ME{a0 a1 a2 a3 a4 a5 a6 a7 a8 a9 a10 a11 a12 a13 a14 a15 a16 a17 a18 a19 a20 a21 a22 a23 d:E}(h:∀F:Env,E.B F a0=true->E.B F a1=true->E.B F a2=true->E.B F a3=true->E.B F a4=true->E.B F a5=true->E.B F a6=true->E.B F a7=true->E.B F a8=true->E.B F a9=true->E.B F a10=true->E.B F a11=true->E.B F a12=true->E.B F a13=true->E.B F a14=true->E.B F a15=true->E.B F a16=true->E.B F a17=true->E.B F a18=true->E.B F a19=true->E.B F a20=true->E.B F a21=true->E.B F a22=true->E.B F a23=true->E.B F d=true):Tr (cG [a0,a1,a2,a3,a4,a5,a6,a7,a8,a9,a10,a11,a12,a13,a14,a15,a16,a17,a18,a19,a20,a21,a22,a23] d):=fun F=>by
 show E.B F (.imp (.and a0 (.and a1 (.and a2 (.and a3 (.and a4 (.and a5 (.and a6 (.and a7 (.and a8 (.and a9 (.and a10 (.and a11 (.and a12 (.and a13 (.and a14 (.and a15 (.and a16 (.and a17 (.and a18 (.and a19 (.and a20 (.and a21 (.and a22 a23))))))))))))))))))))))) d)=true
 rw[cI]
 simp only[ci]
 rintro⟨p0,p1,p2,p3,p4,p5,p6,p7,p8,p9,ao,av,ax,aB,aC,aE,aL,aQ,bb,bm,bB,bF,bR,cf⟩
 exact h F p0 p1 p2 p3 p4 p5 p6 p7 p8 p9 ao av ax aB aC aE aL aQ bb bm bB bF bR cf
theorem Uk{a0 a1 a2 a3 a4 a5 a6 a7 a8 a9 a10 a11 a12 a13 a14 a15 a16 a17 a18 a19 a20 a21 a22 a23 a24 d:E}(h:∀F:Env,E.B F a0=true->E.B F a1=true->E.B F a2=true->E.B F a3=true->E.B F a4=true->E.B F a5=true->E.B F a6=true->E.B F a7=true->E.B F a8=true->E.B F a9=true->E.B F a10=true->E.B F a11=true->E.B F a12=true->E.B F a13=true->E.B F a14=true->E.B F a15=true->E.B F a16=true->E.B F a17=true->E.B F a18=true->E.B F a19=true->E.B F a20=true->E.B F a21=true->E.B F a22=true->E.B F a23=true->E.B F a24=true->E.B F d=true):Tr (cG [a0,a1,a2,a3,a4,a5,a6,a7,a8,a9,a10,a11,a12,a13,a14,a15,a16,a17,a18,a19,a20,a21,a22,a23,a24] d):=fun F=>by
 show E.B F (.imp (.and a0 (.and a1 (.and a2 (.and a3 (.and a4 (.and a5 (.and a6 (.and a7 (.and a8 (.and a9 (.and a10 (.and a11 (.and a12 (.and a13 (.and a14 (.and a15 (.and a16 (.and a17 (.and a18 (.and a19 (.and a20 (.and a21 (.and a22 (.and a23 a24)))))))))))))))))))))))) d)=true
 rw[cI]
 simp only[ci]
 rintro⟨p0,p1,p2,p3,p4,p5,p6,p7,p8,p9,ao,av,ax,aB,aC,aE,aL,aQ,bb,bm,bB,bF,bR,cf,cD⟩
 exact h F p0 p1 p2 p3 p4 p5 p6 p7 p8 p9 ao av ax aB aC aE aL aQ bb bm bB bF bR cf cD
theorem ZJ{a0 a1 a2 a3 a4 a5 a6 a7 a8 a9 a10 a11 a12 a13 a14 a15 a16 a17 a18 a19 a20 a21 a22 a23 a24 a25 d:E}(h:∀F:Env,E.B F a0=true->E.B F a1=true->E.B F a2=true->E.B F a3=true->E.B F a4=true->E.B F a5=true->E.B F a6=true->E.B F a7=true->E.B F a8=true->E.B F a9=true->E.B F a10=true->E.B F a11=true->E.B F a12=true->E.B F a13=true->E.B F a14=true->E.B F a15=true->E.B F a16=true->E.B F a17=true->E.B F a18=true->E.B F a19=true->E.B F a20=true->E.B F a21=true->E.B F a22=true->E.B F a23=true->E.B F a24=true->E.B F a25=true->E.B F d=true):Tr (cG [a0,a1,a2,a3,a4,a5,a6,a7,a8,a9,a10,a11,a12,a13,a14,a15,a16,a17,a18,a19,a20,a21,a22,a23,a24,a25] d):=fun F=>by
 show E.B F (.imp (.and a0 (.and a1 (.and a2 (.and a3 (.and a4 (.and a5 (.and a6 (.and a7 (.and a8 (.and a9 (.and a10 (.and a11 (.and a12 (.and a13 (.and a14 (.and a15 (.and a16 (.and a17 (.and a18 (.and a19 (.and a20 (.and a21 (.and a22 (.and a23 (.and a24 a25))))))))))))))))))))))))) d)=true
 rw[cI]
 simp only[ci]
 rintro⟨p0,p1,p2,p3,p4,p5,p6,p7,p8,p9,ao,av,ax,aB,aC,aE,aL,aQ,bb,bm,bB,bF,bR,cf,cD,cW⟩
 exact h F p0 p1 p2 p3 p4 p5 p6 p7 p8 p9 ao av ax aB aC aE aL aQ bb bm bB bF bR cf cD cW
theorem UX{a0 a1 a2 a3 a4 a5 a6 a7 a8 a9 a10 a11 a12 a13 a14 a15 a16 a17 a18 a19 a20 a21 a22 a23 a24 a25 a26 d:E}(h:∀F:Env,E.B F a0=true->E.B F a1=true->E.B F a2=true->E.B F a3=true->E.B F a4=true->E.B F a5=true->E.B F a6=true->E.B F a7=true->E.B F a8=true->E.B F a9=true->E.B F a10=true->E.B F a11=true->E.B F a12=true->E.B F a13=true->E.B F a14=true->E.B F a15=true->E.B F a16=true->E.B F a17=true->E.B F a18=true->E.B F a19=true->E.B F a20=true->E.B F a21=true->E.B F a22=true->E.B F a23=true->E.B F a24=true->E.B F a25=true->E.B F a26=true->E.B F d=true):Tr (cG [a0,a1,a2,a3,a4,a5,a6,a7,a8,a9,a10,a11,a12,a13,a14,a15,a16,a17,a18,a19,a20,a21,a22,a23,a24,a25,a26] d):=fun F=>by
 show E.B F (.imp (.and a0 (.and a1 (.and a2 (.and a3 (.and a4 (.and a5 (.and a6 (.and a7 (.and a8 (.and a9 (.and a10 (.and a11 (.and a12 (.and a13 (.and a14 (.and a15 (.and a16 (.and a17 (.and a18 (.and a19 (.and a20 (.and a21 (.and a22 (.and a23 (.and a24 (.and a25 a26)))))))))))))))))))))))))) d)=true
 rw[cI]
 simp only[ci]
 rintro⟨p0,p1,p2,p3,p4,p5,p6,p7,p8,p9,ao,av,ax,aB,aC,aE,aL,aQ,bb,bm,bB,bF,bR,cf,cD,cW,dq⟩
 exact h F p0 p1 p2 p3 p4 p5 p6 p7 p8 p9 ao av ax aB aC aE aL aQ bb bm bB bF bR cf cD cW dq
theorem anG{a0 a1 a2 a3 a4 a5 a6 a7 a8 a9 a10 a11 a12 a13 a14 a15 a16 a17 a18 a19 a20 a21 a22 a23 a24 a25 a26 a27 d:E}(h:∀F:Env,E.B F a0=true->E.B F a1=true->E.B F a2=true->E.B F a3=true->E.B F a4=true->E.B F a5=true->E.B F a6=true->E.B F a7=true->E.B F a8=true->E.B F a9=true->E.B F a10=true->E.B F a11=true->E.B F a12=true->E.B F a13=true->E.B F a14=true->E.B F a15=true->E.B F a16=true->E.B F a17=true->E.B F a18=true->E.B F a19=true->E.B F a20=true->E.B F a21=true->E.B F a22=true->E.B F a23=true->E.B F a24=true->E.B F a25=true->E.B F a26=true->E.B F a27=true->E.B F d=true):Tr (cG [a0,a1,a2,a3,a4,a5,a6,a7,a8,a9,a10,a11,a12,a13,a14,a15,a16,a17,a18,a19,a20,a21,a22,a23,a24,a25,a26,a27] d):=fun F=>by
 show E.B F (.imp (.and a0 (.and a1 (.and a2 (.and a3 (.and a4 (.and a5 (.and a6 (.and a7 (.and a8 (.and a9 (.and a10 (.and a11 (.and a12 (.and a13 (.and a14 (.and a15 (.and a16 (.and a17 (.and a18 (.and a19 (.and a20 (.and a21 (.and a22 (.and a23 (.and a24 (.and a25 (.and a26 a27))))))))))))))))))))))))))) d)=true
 rw[cI]
 simp only[ci]
 rintro⟨p0,p1,p2,p3,p4,p5,p6,p7,p8,p9,ao,av,ax,aB,aC,aE,aL,aQ,bb,bm,bB,bF,bR,cf,cD,cW,dq,dY⟩
 exact h F p0 p1 p2 p3 p4 p5 p6 p7 p8 p9 ao av ax aB aC aE aL aQ bb bm bB bF bR cf cD cW dq dY
theorem ax8{a0 a1 a2 a3 a4 a5 a6 a7 a8 a9 a10 a11 a12 a13 a14 a15 a16 a17 a18 a19 a20 a21 a22 a23 a24 a25 a26 a27 a28 d:E}(h:∀F:Env,E.B F a0=true->E.B F a1=true->E.B F a2=true->E.B F a3=true->E.B F a4=true->E.B F a5=true->E.B F a6=true->E.B F a7=true->E.B F a8=true->E.B F a9=true->E.B F a10=true->E.B F a11=true->E.B F a12=true->E.B F a13=true->E.B F a14=true->E.B F a15=true->E.B F a16=true->E.B F a17=true->E.B F a18=true->E.B F a19=true->E.B F a20=true->E.B F a21=true->E.B F a22=true->E.B F a23=true->E.B F a24=true->E.B F a25=true->E.B F a26=true->E.B F a27=true->E.B F a28=true->E.B F d=true):Tr (cG [a0,a1,a2,a3,a4,a5,a6,a7,a8,a9,a10,a11,a12,a13,a14,a15,a16,a17,a18,a19,a20,a21,a22,a23,a24,a25,a26,a27,a28] d):=fun F=>by
 show E.B F (.imp (.and a0 (.and a1 (.and a2 (.and a3 (.and a4 (.and a5 (.and a6 (.and a7 (.and a8 (.and a9 (.and a10 (.and a11 (.and a12 (.and a13 (.and a14 (.and a15 (.and a16 (.and a17 (.and a18 (.and a19 (.and a20 (.and a21 (.and a22 (.and a23 (.and a24 (.and a25 (.and a26 (.and a27 a28)))))))))))))))))))))))))))) d)=true
 rw[cI]
 simp only[ci]
 rintro⟨p0,p1,p2,p3,p4,p5,p6,p7,p8,p9,ao,av,ax,aB,aC,aE,aL,aQ,bb,bm,bB,bF,bR,cf,cD,cW,dq,dY,eN⟩
 exact h F p0 p1 p2 p3 p4 p5 p6 p7 p8 p9 ao av ax aB aC aE aL aQ bb bm bB bF bR cf cD cW dq dY eN
theorem ak3{a0 a1 a2 a3 a4 a5 a6 a7 a8 a9 a10 a11 a12 a13 a14 a15 a16 a17 a18 a19 a20 a21 a22 a23 a24 a25 a26 a27 a28 a29 d:E}(h:∀F:Env,E.B F a0=true->E.B F a1=true->E.B F a2=true->E.B F a3=true->E.B F a4=true->E.B F a5=true->E.B F a6=true->E.B F a7=true->E.B F a8=true->E.B F a9=true->E.B F a10=true->E.B F a11=true->E.B F a12=true->E.B F a13=true->E.B F a14=true->E.B F a15=true->E.B F a16=true->E.B F a17=true->E.B F a18=true->E.B F a19=true->E.B F a20=true->E.B F a21=true->E.B F a22=true->E.B F a23=true->E.B F a24=true->E.B F a25=true->E.B F a26=true->E.B F a27=true->E.B F a28=true->E.B F a29=true->E.B F d=true):Tr (cG [a0,a1,a2,a3,a4,a5,a6,a7,a8,a9,a10,a11,a12,a13,a14,a15,a16,a17,a18,a19,a20,a21,a22,a23,a24,a25,a26,a27,a28,a29] d):=fun F=>by
 show E.B F (.imp (.and a0 (.and a1 (.and a2 (.and a3 (.and a4 (.and a5 (.and a6 (.and a7 (.and a8 (.and a9 (.and a10 (.and a11 (.and a12 (.and a13 (.and a14 (.and a15 (.and a16 (.and a17 (.and a18 (.and a19 (.and a20 (.and a21 (.and a22 (.and a23 (.and a24 (.and a25 (.and a26 (.and a27 (.and a28 a29))))))))))))))))))))))))))))) d)=true
 rw[cI]
 simp only[ci]
 rintro⟨p0,p1,p2,p3,p4,p5,p6,p7,p8,p9,ao,av,ax,aB,aC,aE,aL,aQ,bb,bm,bB,bF,bR,cf,cD,cW,dq,dY,eN,fp⟩
 exact h F p0 p1 p2 p3 p4 p5 p6 p7 p8 p9 ao av ax aB aC aE aL aQ bb bm bB bF bR cf cD cW dq dY eN fp
theorem aon{a0 a1 a2 a3 a4 a5 a6 a7 a8 a9 a10 a11 a12 a13 a14 a15 a16 a17 a18 a19 a20 a21 a22 a23 a24 a25 a26 a27 a28 a29 a30 d:E}(h:∀F:Env,E.B F a0=true->E.B F a1=true->E.B F a2=true->E.B F a3=true->E.B F a4=true->E.B F a5=true->E.B F a6=true->E.B F a7=true->E.B F a8=true->E.B F a9=true->E.B F a10=true->E.B F a11=true->E.B F a12=true->E.B F a13=true->E.B F a14=true->E.B F a15=true->E.B F a16=true->E.B F a17=true->E.B F a18=true->E.B F a19=true->E.B F a20=true->E.B F a21=true->E.B F a22=true->E.B F a23=true->E.B F a24=true->E.B F a25=true->E.B F a26=true->E.B F a27=true->E.B F a28=true->E.B F a29=true->E.B F a30=true->E.B F d=true):Tr (cG [a0,a1,a2,a3,a4,a5,a6,a7,a8,a9,a10,a11,a12,a13,a14,a15,a16,a17,a18,a19,a20,a21,a22,a23,a24,a25,a26,a27,a28,a29,a30] d):=fun F=>by
 show E.B F (.imp (.and a0 (.and a1 (.and a2 (.and a3 (.and a4 (.and a5 (.and a6 (.and a7 (.and a8 (.and a9 (.and a10 (.and a11 (.and a12 (.and a13 (.and a14 (.and a15 (.and a16 (.and a17 (.and a18 (.and a19 (.and a20 (.and a21 (.and a22 (.and a23 (.and a24 (.and a25 (.and a26 (.and a27 (.and a28 (.and a29 a30)))))))))))))))))))))))))))))) d)=true
 rw[cI]
 simp only[ci]
 rintro⟨p0,p1,p2,p3,p4,p5,p6,p7,p8,p9,ao,av,ax,aB,aC,aE,aL,aQ,bb,bm,bB,bF,bR,cf,cD,cW,dq,dY,eN,fp,gx⟩
 exact h F p0 p1 p2 p3 p4 p5 p6 p7 p8 p9 ao av ax aB aC aE aL aQ bb bm bB bF bR cf cD cW dq dY eN fp gx
theorem aEK{a0 a1 a2 a3 a4 a5 a6 a7 a8 a9 a10 a11 a12 a13 a14 a15 a16 a17 a18 a19 a20 a21 a22 a23 a24 a25 a26 a27 a28 a29 a30 a31 a32 d:E}(h:∀F:Env,E.B F a0=true->E.B F a1=true->E.B F a2=true->E.B F a3=true->E.B F a4=true->E.B F a5=true->E.B F a6=true->E.B F a7=true->E.B F a8=true->E.B F a9=true->E.B F a10=true->E.B F a11=true->E.B F a12=true->E.B F a13=true->E.B F a14=true->E.B F a15=true->E.B F a16=true->E.B F a17=true->E.B F a18=true->E.B F a19=true->E.B F a20=true->E.B F a21=true->E.B F a22=true->E.B F a23=true->E.B F a24=true->E.B F a25=true->E.B F a26=true->E.B F a27=true->E.B F a28=true->E.B F a29=true->E.B F a30=true->E.B F a31=true->E.B F a32=true->E.B F d=true):Tr (cG [a0,a1,a2,a3,a4,a5,a6,a7,a8,a9,a10,a11,a12,a13,a14,a15,a16,a17,a18,a19,a20,a21,a22,a23,a24,a25,a26,a27,a28,a29,a30,a31,a32] d):=fun F=>by
 show E.B F (.imp (.and a0 (.and a1 (.and a2 (.and a3 (.and a4 (.and a5 (.and a6 (.and a7 (.and a8 (.and a9 (.and a10 (.and a11 (.and a12 (.and a13 (.and a14 (.and a15 (.and a16 (.and a17 (.and a18 (.and a19 (.and a20 (.and a21 (.and a22 (.and a23 (.and a24 (.and a25 (.and a26 (.and a27 (.and a28 (.and a29 (.and a30 (.and a31 a32)))))))))))))))))))))))))))))))) d)=true
 rw[cI]
 simp only[ci]
 rintro⟨p0,p1,p2,p3,p4,p5,p6,p7,p8,p9,ao,av,ax,aB,aC,aE,aL,aQ,bb,bm,bB,bF,bR,cf,cD,cW,dq,dY,eN,fp,gx,je,ig⟩
 exact h F p0 p1 p2 p3 p4 p5 p6 p7 p8 p9 ao av ax aB aC aE aL aQ bb bm bB bF bR cf cD cW dq dY eN fp gx je ig
theorem ayN{a0 a1 a2 a3 a4 a5 a6 a7 a8 a9 a10 a11 a12 a13 a14 a15 a16 a17 a18 a19 a20 a21 a22 a23 a24 a25 a26 a27 a28 a29 a30 a31 a32 a33 a34 d:E}(h:∀F:Env,E.B F a0=true->E.B F a1=true->E.B F a2=true->E.B F a3=true->E.B F a4=true->E.B F a5=true->E.B F a6=true->E.B F a7=true->E.B F a8=true->E.B F a9=true->E.B F a10=true->E.B F a11=true->E.B F a12=true->E.B F a13=true->E.B F a14=true->E.B F a15=true->E.B F a16=true->E.B F a17=true->E.B F a18=true->E.B F a19=true->E.B F a20=true->E.B F a21=true->E.B F a22=true->E.B F a23=true->E.B F a24=true->E.B F a25=true->E.B F a26=true->E.B F a27=true->E.B F a28=true->E.B F a29=true->E.B F a30=true->E.B F a31=true->E.B F a32=true->E.B F a33=true->E.B F a34=true->E.B F d=true):Tr (cG [a0,a1,a2,a3,a4,a5,a6,a7,a8,a9,a10,a11,a12,a13,a14,a15,a16,a17,a18,a19,a20,a21,a22,a23,a24,a25,a26,a27,a28,a29,a30,a31,a32,a33,a34] d):=fun F=>by
 show E.B F (.imp (.and a0 (.and a1 (.and a2 (.and a3 (.and a4 (.and a5 (.and a6 (.and a7 (.and a8 (.and a9 (.and a10 (.and a11 (.and a12 (.and a13 (.and a14 (.and a15 (.and a16 (.and a17 (.and a18 (.and a19 (.and a20 (.and a21 (.and a22 (.and a23 (.and a24 (.and a25 (.and a26 (.and a27 (.and a28 (.and a29 (.and a30 (.and a31 (.and a32 (.and a33 a34)))))))))))))))))))))))))))))))))) d)=true
 rw[cI]
 simp only[ci]
 rintro⟨p0,p1,p2,p3,p4,p5,p6,p7,p8,p9,ao,av,ax,aB,aC,aE,aL,aQ,bb,bm,bB,bF,bR,cf,cD,cW,dq,dY,eN,fp,gx,je,ig,lC,lp⟩
 exact h F p0 p1 p2 p3 p4 p5 p6 p7 p8 p9 ao av ax aB aC aE aL aQ bb bm bB bF bR cf cD cW dq dY eN fp gx je ig lC lp
theorem af8{a0 a1 a2 a3 a4 a5 a6 a7 a8 a9 a10 a11 a12 a13 a14 a15 a16 a17 a18 a19 a20 a21 a22 a23 a24 a25 a26 a27 a28 a29 a30 a31 a32 a33 a34 a35 a36 a37 a38 a39 a40 a41 a42 a43 a44 d:E}(h:∀F:Env,E.B F a0=true->E.B F a1=true->E.B F a2=true->E.B F a3=true->E.B F a4=true->E.B F a5=true->E.B F a6=true->E.B F a7=true->E.B F a8=true->E.B F a9=true->E.B F a10=true->E.B F a11=true->E.B F a12=true->E.B F a13=true->E.B F a14=true->E.B F a15=true->E.B F a16=true->E.B F a17=true->E.B F a18=true->E.B F a19=true->E.B F a20=true->E.B F a21=true->E.B F a22=true->E.B F a23=true->E.B F a24=true->E.B F a25=true->E.B F a26=true->E.B F a27=true->E.B F a28=true->E.B F a29=true->E.B F a30=true->E.B F a31=true->E.B F a32=true->E.B F a33=true->E.B F a34=true->E.B F a35=true->E.B F a36=true->E.B F a37=true->E.B F a38=true->E.B F a39=true->E.B F a40=true->E.B F a41=true->E.B F a42=true->E.B F a43=true->E.B F a44=true->E.B F d=true):Tr (cG [a0,a1,a2,a3,a4,a5,a6,a7,a8,a9,a10,a11,a12,a13,a14,a15,a16,a17,a18,a19,a20,a21,a22,a23,a24,a25,a26,a27,a28,a29,a30,a31,a32,a33,a34,a35,a36,a37,a38,a39,a40,a41,a42,a43,a44] d):=fun F=>by
 show E.B F (.imp (.and a0 (.and a1 (.and a2 (.and a3 (.and a4 (.and a5 (.and a6 (.and a7 (.and a8 (.and a9 (.and a10 (.and a11 (.and a12 (.and a13 (.and a14 (.and a15 (.and a16 (.and a17 (.and a18 (.and a19 (.and a20 (.and a21 (.and a22 (.and a23 (.and a24 (.and a25 (.and a26 (.and a27 (.and a28 (.and a29 (.and a30 (.and a31 (.and a32 (.and a33 (.and a34 (.and a35 (.and a36 (.and a37 (.and a38 (.and a39 (.and a40 (.and a41 (.and a42 (.and a43 a44)))))))))))))))))))))))))))))))))))))))))))) d)=true
 rw[cI]
 simp only[ci]
 rintro⟨p0,p1,p2,p3,p4,p5,p6,p7,p8,p9,ao,av,ax,aB,aC,aE,aL,aQ,bb,bm,bB,bF,bR,cf,cD,cW,dq,dY,eN,fp,gx,je,ig,lC,lp,rj,rc,qG,rR,qU,qp,pN,pP,rE,oB⟩
 exact h F p0 p1 p2 p3 p4 p5 p6 p7 p8 p9 ao av ax aB aC aE aL aQ bb bm bB bF bR cf cD cW dq dY eN fp gx je ig lC lp rj rc qG rR qU qp pN pP rE oB
theorem aD4{a0 a1 a2 a3 a4 a5 a6 a7 a8 a9 a10 a11 a12 a13 a14 a15 a16 a17 a18 a19 a20 a21 a22 a23 a24 a25 a26 a27 a28 a29 a30 a31 a32 a33 a34 a35 a36 a37 a38 a39 a40 a41 a42 a43 a44 a45 d:E}(h:∀F:Env,E.B F a0=true->E.B F a1=true->E.B F a2=true->E.B F a3=true->E.B F a4=true->E.B F a5=true->E.B F a6=true->E.B F a7=true->E.B F a8=true->E.B F a9=true->E.B F a10=true->E.B F a11=true->E.B F a12=true->E.B F a13=true->E.B F a14=true->E.B F a15=true->E.B F a16=true->E.B F a17=true->E.B F a18=true->E.B F a19=true->E.B F a20=true->E.B F a21=true->E.B F a22=true->E.B F a23=true->E.B F a24=true->E.B F a25=true->E.B F a26=true->E.B F a27=true->E.B F a28=true->E.B F a29=true->E.B F a30=true->E.B F a31=true->E.B F a32=true->E.B F a33=true->E.B F a34=true->E.B F a35=true->E.B F a36=true->E.B F a37=true->E.B F a38=true->E.B F a39=true->E.B F a40=true->E.B F a41=true->E.B F a42=true->E.B F a43=true->E.B F a44=true->E.B F a45=true->E.B F d=true):Tr (cG [a0,a1,a2,a3,a4,a5,a6,a7,a8,a9,a10,a11,a12,a13,a14,a15,a16,a17,a18,a19,a20,a21,a22,a23,a24,a25,a26,a27,a28,a29,a30,a31,a32,a33,a34,a35,a36,a37,a38,a39,a40,a41,a42,a43,a44,a45] d):=fun F=>by
 show E.B F (.imp (.and a0 (.and a1 (.and a2 (.and a3 (.and a4 (.and a5 (.and a6 (.and a7 (.and a8 (.and a9 (.and a10 (.and a11 (.and a12 (.and a13 (.and a14 (.and a15 (.and a16 (.and a17 (.and a18 (.and a19 (.and a20 (.and a21 (.and a22 (.and a23 (.and a24 (.and a25 (.and a26 (.and a27 (.and a28 (.and a29 (.and a30 (.and a31 (.and a32 (.and a33 (.and a34 (.and a35 (.and a36 (.and a37 (.and a38 (.and a39 (.and a40 (.and a41 (.and a42 (.and a43 (.and a44 a45))))))))))))))))))))))))))))))))))))))))))))) d)=true
 rw[cI]
 simp only[ci]
 rintro⟨p0,p1,p2,p3,p4,p5,p6,p7,p8,p9,ao,av,ax,aB,aC,aE,aL,aQ,bb,bm,bB,bF,bR,cf,cD,cW,dq,dY,eN,fp,gx,je,ig,lC,lp,rj,rc,qG,rR,qU,qp,pN,pP,rE,oB,Bh⟩
 exact h F p0 p1 p2 p3 p4 p5 p6 p7 p8 p9 ao av ax aB aC aE aL aQ bb bm bB bF bR cf cD cW dq dY eN fp gx je ig lC lp rj rc qG rR qU qp pN pP rE oB Bh
def ii(e:E):SV:=.int .i64 e
def gone:Blk:=⟨true,.gone⟩
def cu(b:Nat):SV:=.ptr b ⟨0,0,.int 0⟩
def bk(a b:E):E:=.cmp .eql a b
def pl(a b:E):E:=.fn 6 (.pr a b)
def mi(a b:E):E:=.fn 7 (.pr a b)
def tm(a b:E):E:=.fn 8 (.pr a b)
def ln(x:E):E:=.fn 0 x
def prs:List E->E
 |[]=>.int 0
 |[a]=>a
 |a::l=>.pr a (prs l)
def aP(f:Nat)(l:List E):E:=.fn f (prs l)
def nt(l i:E):E:=.fn 1 (.pr l i)
def dP(w:Int)(l:E):E:=.fn 9 (.pr l (.int w))
def rO:E:=.fn 10 (.int 0)
def kI:List CK:=[.int .i64]
def kO:List CK:=[.int .i64,.int .i64,.int .i64,.int .i64,.int .i64,.int .i64,.int .i64,.int .i64,.int .i64,.bool,.bool,.bool]
def kT:List CK:=[.int .i64,.int .i64]
def jJ:List CK:=[.int .i64,.int .i64,.int .i64,.int .i64,.slc kT]
def kS:List CK:=[.int .i64,.int .i64,.int .i64,.int .i64,.int .i64,.slc kI,.slc kI,.slc kI,.slc kI,.bool,.bool,.bool,.int .i64,.int .i64]
def kB:List CK:=.slc kO::(kS++(kS++[.slc jJ,.slc jJ,.slc kI,.slc kT,.int .i64,.int .i64,.int .i64,.int .i64,.int .i64]))
def aFE(e:E):CK->SV
 |.int k=>.int k e
 |.bool=>.bool e
 |.str=>.str e
 |.slc ks=>.bsl ks e
def tF(e:E):Nat->List CK->List SV
 |_,[]=>[]
 |j,c::cs=>aFE (nt e (.int (Int.ofNat j))) c::tF e (Nat.succ j) cs
def fI(e:E):SV:=.agg (tF e 0 kB)
def EA(e:E):Blk:=⟨true,.cells (tF e 0 kB) (.int 38) 34⟩
def cl(e:E)(j:Int):E:=nt e (.int j)
def Uz(e:E):E:=.fn 116 e
def O6(e:E):E:=.fn 117 e
def dE(e:E):List E:=[Uz e,O6 e]
def EP(f:FuncId):SV:=.func (.func f) [] []
def rT:E:=dP 2 (eV 0)
def aw3:Pact:=⟨114,[.bsl kT (eV 0),EP 103],⟨1,0,.nil,[ai rT (.int 1000)]⟩,[(ii (eV 1),⟨2,0,.nil,[.iff (ai (.int 0) (eV 1)) (.not (aP 101 [eV 0,rT])),ai (.int (-1)) (eV 1)]⟩)]⟩
def tTF:Tmpl:=⟨cJ 19 [(0,.bsl kT (eV 0)),(1,EP 103),(6,.bsl kT (eV 0)),(7,ii rT),(8,ii (eV 4))],⟨5,0,.nil,[ai rT (.int 1000),ai (.int 0) (eV 4),ai (eV 4) rT,aP 101 [eV 0,eV 4]]⟩,mi rT (eV 4)⟩
def aqg:List Ann:=[⟨114,0,[tTF],none⟩]
def itE:List E:=[eV 0,eV 1,eV 2,eV 3,eV 4,eV 5]
def OP:SV:=.agg [ii (eV 0),ii (eV 1),ii (eV 2),ii (eV 3),.bsl kT (eV 4)]
def awR:Pact:=⟨78,[OP,.bool (eV 5)],⟨6,0,.nil,[]⟩,[(.bool (eV 6),⟨7,0,.nil,[.iff (eV 6) (aP 102 itE)]⟩)]⟩
def rI:E:=dP 5 (eV 0)
def Py(g:FuncId)(q:Bool):Pact:=⟨101,[.bsl jJ (eV 0),EP g],⟨1,0,.nil,[ai rI (.int 1000)]⟩,[(ii (eV 1),⟨2,0,.nil,[.iff (ai (.int 0) (eV 1)) (.not (aP 103 [eV 0,.bool q,rI])),ai (.int (-1)) (eV 1)]⟩)]⟩
def tIF(g:FuncId)(q:Bool):Tmpl:=⟨cJ 19 [(0,.bsl jJ (eV 0)),(1,EP g),(6,.bsl jJ (eV 0)),(7,ii rI),(8,ii (eV 4))],⟨5,0,.nil,[ai rI (.int 1000),ai (.int 0) (eV 4),ai (eV 4) rI,aP 103 [eV 0,.bool q,eV 4]]⟩,mi rI (eV 4)⟩
def W0(g:FuncId)(q:Bool):List Ann:=[⟨101,0,[tIF g q],none⟩]
def nI:E:=ln (eV 0)
def azT(l k:E):E:=aP 114 [l,k]
def aCo:Pact:=⟨84,[.bsl kI (eV 0),ii (eV 1)],⟨2,0,.nil,[ai nI (.int 1000)]⟩,[(ii (eV 2),⟨3,0,.nil,[.iff (ai (.int 0) (eV 2)) (azT (eV 0) (eV 1)),ai (.int (-1)) (eV 2)]⟩)]⟩
def tIx:Tmpl:=⟨cJ 19 [(0,.bsl kI (eV 0)),(1,ii (eV 1)),(6,.bsl kI (eV 0)),(7,ii nI),(8,ii (eV 4))],⟨5,0,.nil,[ai nI (.int 1000),ai (.int 0) (eV 4),ai (eV 4) nI,bk (aP 131 [eV 0,eV 1,eV 4]) (.int 0)]⟩,mi nI (eV 4)⟩
def ai5:List Ann:=[⟨84,0,[tIx],none⟩]
def obV:SV:=.agg ((List.range 9).map (fun j=>ii (eV j))++[.bool (eV 9),.bool (eV 10),.bool (eV 11)])
def Rf(f:FuncId):Pact:=⟨f,[obV],⟨12,0,.nil,[]⟩,[(.bool (eV 12),⟨13,0,.nil,[.iff (eV 12) (aP 137 ((List.range 9).map eV))]⟩)]⟩
def put(c:Nat):SV:=.func (.func 105) [] [cu c]
def It(e:E):Blk:=⟨true,.mapl .i64 (.int .i64) e⟩
def wk(W:Nat)(m:E)(more:List Blk):T Blk:=bM (List.replicate W gone++[EA (eV 0),It m,⟨true,.cells [.map (W+1)] (.int 1) 153⟩]++more)
def zn(W:Nat):List (Nat×SV):=[(1,cu W),(3,cu (W+2)),(4,put (W+2))]
def Gm(m p q i:E):E:=aP 104 [m,eV 0,p,q,i]
def t0P:Tmpl:=⟨cJ 138 (zn 8++[(21,ii (eV 8))]),⟨10,11,wk 8 (eV 9) [],dE (eV 0)++[ai (.int 0) (eV 8),ai (eV 8) (.int 2),Gm (eV 9) (eV 8) (.int 0) (.int 0)]⟩,mi (.int 2) (eV 8)⟩
def aa6(W p:Nat):SV:=.agg ((List.range 4).map fun q=>.ptr W ⟨6+14*p+q,0,.int 0⟩)
def t2P(p:Nat):Tmpl:=⟨cJ 138 (zn 8++[(5,ii (eV 8)),(21,ii (eV 8)),(27,aa6 8 p),(28,ii (eV 16))]),⟨18,16,wk 8 (eV 17) [],
 dE (eV 0)++[bk (eV 8) (.int (Int.ofNat p)),ai (.int 0) (eV 16),ai (eV 16) (.int 4),Gm (eV 17) (eV 8) (eV 16) (.int 0)]⟩,mi (.int 4) (eV 16)⟩
def t4P(p:Nat):Tmpl:=⟨cJ 138 (zn 8++[(5,ii (eV 8)),(21,ii (eV 8)),(27,aa6 8 p),(28,ii (eV 16)),(33,.bsl kI (eV 28)),(34,ii (ln (eV 28))),(35,ii (eV 24))]),⟨29,24,wk 8 (eV 25) [],
 dE (eV 0)++[bk (eV 8) (.int (Int.ofNat p)),ai (.int 0) (eV 16),oC (eV 16) (.int 4),ai (.int 0) (eV 24),ai (eV 24) (ln (eV 28)),ai (ln (eV 28)) (.int 40),aP 109 [eV 28,eV 0,eV 8,eV 16],Gm (eV 25) (eV 8) (eV 16) (eV 24)]⟩,mi (ln (eV 28)) (eV 24)⟩
def fT:E:=dP 5 (cl (eV 0) 29)
def gm:E:=dP 12 (cl (eV 0) 0)
def t6P:Tmpl:=⟨cJ 138 (zn 32++[(10,.map 35),(49,.bsl jJ (cl (eV 0) 29)),(50,ii fT),(51,ii (eV 32))]),⟨35,36,wk 32 (eV 33) [It (eV 34)],
 dE (eV 0)++[ai fT (.int 20),ai (.int 0) (eV 32),ai (eV 32) fT,aP 105 [eV 33,eV 0,eV 32],aP 106 [eV 34,eV 0,eV 32]]⟩,mi fT (eV 32)⟩
def t8P:Tmpl:=⟨cJ 138 (zn 40++[(10,.map 43),(72,.bsl kO (cl (eV 0) 0)),(73,ii gm),(74,ii (eV 40))]),⟨43,44,wk 40 (eV 41) [It (eV 42)],
 dE (eV 0)++[ai gm (.int 30),ai (.int 0) (eV 40),ai (eV 40) gm,aP 105 [eV 41,eV 0,fT],aP 106 [eV 42,eV 0,fT],aP 107 [eV 0,eV 40]]⟩,mi gm (eV 40)⟩
def ak5:List Ann:=[⟨80,0,[t0P],none⟩,⟨80,2,[t2P 0,t2P 1],none⟩,⟨80,4,[t4P 0,t4P 1],none⟩,⟨80,6,[t6P],none⟩,⟨80,8,[t8P],none⟩]
def ah6:Pact:=⟨80,[fI (eV 0)],⟨1,0,.nil,dE (eV 0)⟩,[(.bool (eV 1),⟨2,0,.nil,[.iff (eV 1) (.fn 108 (eV 0))]⟩)]⟩
def aCv(e:E):Blk:=⟨true,.mapl .i64 .bool e⟩
def lO:E:=cl (eV 0) 34
def Lb:List E:=dE (eV 0)++[.fn 108 (eV 0),ai (.int 0) lO,ai lO (.int 1)]
def akj:Pact:=⟨81,[fI (eV 0)],⟨1,0,.nil,Lb⟩,[(.bool (eV 1),⟨2,0,.nil,[.iff (eV 1) (.fn 110 (eV 0))]⟩)]⟩
def YA(W:Nat):T Blk:=bM (List.replicate W gone++[EA (eV 0),aCv (eV (W+1))])
def Sz(W:Nat):List (Nat×SV):=[(1,cu W),(3,.bsl kI (eV (W+2))),(4,.bsl kI (eV (W+3))),(5,.map (W+1))]
def Zf(W:Nat):List E:=[aP 109 [eV (W+2),eV 0,lO,.int 2],aP 109 [eV (W+3),eV 0,mi (.int 1) lO,.int 2],ai (ln (eV (W+2))) (.int 40),ai (ln (eV (W+3))) (.int 40)]
def jp:E:=ln (cl (eV 0) 31)
def pq:E:=dP 2 (cl (eV 0) 32)
def t0F:Tmpl:=⟨cJ 85 (Sz 8++[(25,.bsl kI (cl (eV 0) 31)),(26,ii jp),(27,ii (eV 8))]),⟨12,10,YA 8,
 Lb++Zf 8++[ai jp (.int 30),ai (.int 0) (eV 8),ai (eV 8) jp,aP 111 [eV 0,eV 8],aP 113 [eV 9,eV 0,eV 8,.int 0]]⟩,mi jp (eV 8)⟩
def t2F:Tmpl:=⟨cJ 85 (Sz 16++[(44,.bsl kT (cl (eV 0) 32)),(45,ii pq),(46,ii (eV 16))]),⟨20,18,YA 16,
 Lb++Zf 16++[ai jp (.int 30),ai pq (.int 30),ai (.int 0) (eV 16),ai (eV 16) pq,aP 111 [eV 0,jp],aP 112 [eV 0,eV 16],aP 113 [eV 17,eV 0,jp,eV 16]]⟩,mi pq (eV 16)⟩
def awH:List Ann:=[⟨81,0,[t0F],none⟩,⟨81,2,[t2F],none⟩]
def spV:Pact:=⟨52,[fI (eV 0)],⟨1,0,.nil,dE (eV 0)⟩,[(.bool (eV 1),⟨2,0,.nil,[.iff (eV 1) (.fn 115 (eV 0))]⟩)]⟩
def ae1:Pact:=⟨48,[OP,.bool (eV 5)],⟨6,0,.nil,[]⟩,[(.bool (eV 6),⟨7,0,.nil,[.iff (eV 6) (aP 102 itE)]⟩)]⟩
def ayd:Pact:=⟨73,[.bsl kI (eV 0),ii (eV 1)],⟨2,0,.nil,[ai nI (.int 1000)]⟩,[(ii (eV 2),⟨3,0,.nil,[bk (eV 2) (aP 121 [eV 0,eV 1]),ai (.int 0) (eV 2),ai (eV 2) nI]⟩)]⟩
def aub:Pact:=⟨33,[fI (eV 0),ii (eV 1)],⟨2,0,.nil,dE (eV 0)⟩,[(ii (eV 2),⟨3,0,.nil,[bk (eV 2) (aP 120 [eV 0,eV 1,gm]),ai (.int (-1)) (eV 2),oC (eV 2) gm]⟩)]⟩
def aFi:Pact:=⟨72,[fI (eV 0),ii (eV 1),ii (eV 2)],⟨3,0,.nil,dE (eV 0)++[ai (.int 0) (eV 1),ai (eV 1) (.int 1)]⟩,[(ii (eV 3),⟨4,0,.nil,[bk (eV 3) (aP 122 [eV 0,eV 1,eV 2]),ai (.int 0) (eV 3),ai (eV 3) (.int 1000)]⟩)]⟩
def ahz:List E:=[ai (.int 0) (eV 0),ai (eV 0) (.int 1),ai (.int 1) (eV 1),ai (eV 1) (.int 500),ai (.int 0) (eV 2),ai (eV 2) (.int 399),ai (.int (-1)) (eV 3),ai (eV 3) (.int 1),ai (dP 2 (eV 4)) (.int 4),.imp (ai (.int 0) (eV 3)) (bk (dP 2 (eV 4)) (.int 0)),.imp (eV 5) (ai (.int 0) (eV 3))]
def tIt:Tmpl:=⟨cJ 108 [(1,.bool (eV 5)),(2,cu 8),(5,ii (eV 8))],⟨9,9,bM (List.replicate 8 gone++[⟨true,.cells [ii (eV 0),ii (eV 1),ii (eV 2),ii (eV 3),.bsl kT (eV 4)] (.int 5) 77⟩]),
 ahz++[ai (.int 0) (eV 8),ai (eV 8) (dP 2 (eV 4)),aP 101 [eV 4,eV 8]]⟩,mi (dP 2 (eV 4)) (eV 8)⟩
def ayx:List Ann:=[⟨48,0,[tIt],none⟩]
def tCt:Tmpl:=⟨cJ 22 [(0,.bsl kI (eV 0)),(1,ii (eV 1)),(5,ii (eV 9)),(6,ii (eV 8))],⟨10,0,.nil,[ai nI (.int 1000),ai (.int 0) (eV 8),ai (eV 8) nI,bk (eV 9) (aP 131 [eV 0,eV 1,eV 8]),ai (.int 0) (eV 9),ai (eV 9) (eV 8)]⟩,mi nI (eV 8)⟩
def ail:List Ann:=[⟨73,0,[tCt],none⟩]
def pD(W:Nat):T Blk:=bM (List.replicate W gone++[EA (eV 0)])
def tId:Tmpl:=⟨cJ 22 [(1,ii (eV 1)),(2,cu 8),(5,ii (eV 8))],⟨9,9,pD 8,dE (eV 0)++[ai gm (.int 30),ai (.int 0) (eV 8),ai (eV 8) gm,bk (aP 120 [eV 0,eV 1,eV 8]) (.int (-1))]⟩,mi gm (eV 8)⟩
def asL:List Ann:=[⟨33,0,[tId],none⟩]
def tPc:Tmpl:=⟨cJ 56 [(1,ii (eV 1)),(2,ii (eV 2)),(3,cu 16),(7,ii (eV 17)),(10,ii (eV 16))],⟨18,17,pD 16,dE (eV 0)++[ai (.int 0) (eV 1),ai (eV 1) (.int 1),ai fT (.int 20),ai (.int 0) (eV 16),ai (eV 16) fT,
 bk (eV 17) (pl (aP 132 [eV 0,eV 1,.int 4,eV 2]) (aP 133 [eV 0,eV 1,eV 2,eV 16])),ai (.int 0) (eV 17),ai (eV 17) (pl (.int 160) (eV 16))]⟩,mi fT (eV 16)⟩
def azF:List Ann:=[⟨72,2,[tPc],none⟩]
def t4D:Tmpl:=⟨cJ 108 [(1,cu 16),(3,ii (eV 17)),(7,ii (eV 16))],⟨18,17,pD 16,dE (eV 0)++[ai fT (.int 20),ai gm (.int 30),ai (.int 0) (eV 16),ai (eV 16) fT,
 bk (eV 17) (pl (aP 134 [eV 0,.int 8]) (aP 135 [eV 0,eV 16])),ai (.int 0) (eV 17),ai (eV 17) (pl (.int 320) (eV 16)),aP 123 [eV 0,eV 16]]⟩,mi fT (eV 16)⟩
def t6D:Tmpl:=⟨cJ 108 [(1,cu 24),(3,ii (eV 25)),(10,ii (eV 24))],⟨26,25,pD 24,dE (eV 0)++[ai gm (.int 30),ai (.int 0) (eV 24),ai (eV 24) gm,
 bk (eV 25) (pl (aP 134 [eV 0,.int 8]) (aP 135 [eV 0,fT])),aP 123 [eV 0,fT],aP 124 [eV 0,eV 24]]⟩,mi gm (eV 24)⟩
def aBR:List Ann:=[⟨50,4,[t4D],none⟩,⟨50,6,[t6D],none⟩]
def HB:List E:=dE (eV 0)++[ai (.int 0) lO,ai lO (.int 1),ai jp (.int 30),ai pq (.int 30)]
def t0R:Tmpl:=⟨cJ 94 [(1,cu 8),(3,ii (eV 8))],⟨9,9,pD 8,HB++[ai (.int 0) (eV 8),ai (eV 8) jp,aP 126 [eV 0,eV 8]]⟩,mi jp (eV 8)⟩
def t2R:Tmpl:=⟨cJ 94 [(1,cu 16),(4,ii (eV 16))],⟨17,17,pD 16,HB++[ai (.int 0) (eV 16),ai (eV 16) pq,aP 126 [eV 0,jp],aP 127 [eV 0,eV 16]]⟩,mi pq (eV 16)⟩
def P7(j:Int):E:=nt (cl (eV 0) 32) (pl (tm (eV 16) (.int 2)) (.int j))
def t4R:Tmpl:=⟨cJ 94 [(1,cu 16),(4,ii (eV 16)),(5,cu 24),(6,ii (eV 24))],⟨25,25,bM (List.replicate 16 gone++[EA (eV 0)]++List.replicate 7 gone++[⟨true,.cells [ii (P7 0),ii (P7 1)] (.int 2) 99⟩]),
 HB++[ai (.int 0) (eV 16),oC (eV 16) pq,aP 126 [eV 0,jp],aP 127 [eV 0,eV 16],ai (.int 0) (eV 24),ai (eV 24) (eV 16),aP 136 [eV 0,eV 16],aP 128 [eV 0,eV 16,eV 24]]⟩,mi (eV 16) (eV 24)⟩
def afX:List Ann:=[⟨51,0,[t0R],none⟩,⟨51,2,[t2R],none⟩,⟨51,4,[t4R],none⟩]
def aGv:Pact:=⟨50,[fI (eV 0)],⟨1,0,.nil,dE (eV 0)⟩,[(.bool (eV 1),⟨2,0,.nil,[.iff (eV 1) (.fn 125 (eV 0))]⟩)]⟩
def azh:Pact:=⟨51,[fI (eV 0)],⟨1,0,.nil,dE (eV 0)++[ai (.int 0) lO,ai lO (.int 1)]⟩,[(.bool (eV 1),⟨2,0,.nil,[.iff (eV 1) (.fn 129 (eV 0))]⟩)]⟩
def akw:Pact:=⟨25,[fI (eV 0)],⟨1,0,.nil,dE (eV 0)⟩,[(.bool (eV 1),⟨2,0,.nil,[.iff (eV 1) (.fn 130 (eV 0))]⟩)]⟩
def Oo:List E:=[ai (.int 0) lO,ai lO (.int 1),ai (.int 0) (cl (eV 0) 33),ai (cl (eV 0) 33) (.int 1000),ai (.int 0) (cl (eV 0) 35),ai (cl (eV 0) 35) (.int 10),ai (.int (-1)) (cl (eV 0) 36),ai (cl (eV 0) 36) (.int 1),ai (.int 0) (cl (eV 0) 37),ai (cl (eV 0) 37) (.int 2)]
def Hq:E:=dP 5 (cl (eV 0) 30)
def HX(c:Int)(q:Bool)(n:E):E:=aP 103 [cl (eV 0) c,.bool q,n]
def tV0:Tmpl:=⟨cJ 117 [(1,cu 8),(3,ii (eV 8))],⟨9,9,pD 8,dE (eV 0)++Oo++[ai fT (.int 20),ai (.int 0) (eV 8),ai (eV 8) fT,HX 29 false (eV 8)]⟩,mi fT (eV 8)⟩
def tV2:Tmpl:=⟨cJ 117 [(1,cu 16),(4,ii (eV 16))],⟨17,17,pD 16,dE (eV 0)++Oo++[ai Hq (.int 20),HX 29 false fT,ai (.int 0) (eV 16),ai (eV 16) Hq,HX 30 true (eV 16)]⟩,mi Hq (eV 16)⟩
def aC2:List Ann:=[⟨25,0,[tV0],none⟩,⟨25,2,[tV2],none⟩]
def kE:List CK:=[.int .i64,.int .i64,.int .i64,.int .i64,.int .i64]
def qD:List CK:=[.int .i64,.slc kE]
def kC:List CK:=[.str,.int .i64,.int .i64,.int .i64,.int .i64,.int .i64,.int .i64,.int .i64,.int .i64,.int .i64,.int .i64,.slc kE,.slc qD,.int .i64]
def RV(f:FuncId)(ks:List CK)(w:Int)(t:TypeId):Pact:=⟨f,[.bsl ks (eV 0)],⟨1,0,.nil,[ai (dP w (eV 0)) (.int 100)]⟩,
 [(.nils,⟨1,0,.nil,[bk (dP w (eV 0)) (.int 0)]⟩),(.nslice 0 (eV 1) (eV 2),⟨3,1,bM [⟨true,.flat ks (eV 0) (eV 1) (eV 2) t⟩],[ai (eV 1) (eV 2),bk (eV 1) (dP w (eV 0))]⟩)]⟩
def anm:Pact:=RV 107 kE 5 159
def arE:Pact:=RV 108 qD 2 71
def EE(e t:SV):List SV:=.str (eV 0)::((List.range 10).map fun j=>ii (eV (j+1)))++[e,t,ii (eV 13)]
def afI:SV:=.agg (EE (.bsl kE (eV 11)) (.bsl qD (eV 12)))
def Of(x n c:E):Blk:=⟨true,.flat qD x n c 71⟩
def aeY:Pact:=⟨82,[afI],⟨14,0,.nil,[aP 156 [eV 11,eV 12]]⟩,
 [(.agg (EE (.bsl kE (eV 14)) .nils),⟨15,0,.nil,[]⟩),(.agg (EE (.bsl kE (eV 14)) (.nslice 0 (eV 16) (eV 17))),⟨18,1,bM [Of (eV 15) (eV 16) (eV 17)],[ai (eV 16) (eV 17)]⟩)]⟩
def aCk(W:Nat):Blk:=⟨true,.cells (.str (eV W)::((List.range 10).map fun j=>ii (eV (W+j+1)))++[.nils,.nils,ii (eV (W+11))]) (.int 14) 58⟩
def XX(k:Nat):Tmpl:=
 let T:SV:=if k==0 then .nslice 22 (eV 42) (eV 43)else .nils
 let n:E:=if k==0 then eV 42 else .int 0
 ⟨cJ 31 [(1,cu 20),(2,cu 21),(14,T),(15,ii n),(16,ii (if k==0 then eV 44 else .int 0))],⟨45,23,bM (List.replicate 20 gone++[⟨true,.cells (EE (.bsl kE (eV 40)) T) (.int 14) 58⟩,aCk 20,if k==0 then Of (eV 41) (eV 42) (eV 43)else gone]),
  if k==0 then [ai (eV 42) (eV 43),ai (.int 0) (eV 44),ai (eV 44) (eV 42),ai (eV 42) (.int 3),aP 157 [eV 41,eV 42]] else []⟩,mi n (if k==0 then eV 44 else .int 0)⟩
def ah1:List Ann:=[⟨82,0,[XX 0,XX 1],none⟩]
def abH(a:Nat):SV:=.agg ((List.range 9).map (fun j=>ii (eV (a+j)))++[.bool (eV (a+9)),.bool (eV (a+10)),.bool (eV (a+11))])
def adV(a:Nat)(e t:SV):SV:=.agg (.str (eV a)::((List.range 10).map fun j=>ii (eV (a+j+1)))++[e,t,ii (eV (a+13))])
def Za:List E:=[bk (eV 14) (aP 141 [eV 0,eV 2]),bk (eV 20) (aP 142 [eV 0,eV 2])]
def akl:Pact:=⟨53,[.bsl kC (eV 0),abH 1],⟨13,0,.nil,[ai (dP 14 (eV 0)) (.int 12),aP 155 [eV 0,dP 14 (eV 0)]]⟩,[(adV 13 (.bsl kE (eV 24)) (.bsl qD (eV 25)),⟨27,0,.nil,Za⟩),(adV 13 .nils .nils,⟨27,0,.nil,Za⟩)]⟩
def DV:E:=dP 14 (eV 0)
def UO:List E:=dE (eV 1)++[ai DV (.int 12),aP 155 [eV 0,DV],ai (.int 0) (eV 2),ai (eV 2) (.int 1)]
def uZ:E:=dP 12 (cl (eV 1) 0)
def VZ(x n c:E):Blk:=⟨true,.flat kT x n c 85⟩
def GF(x n:E):E:=aP 143 [x,eV 0,eV 1,eV 2,n]
def avA:Blk:=⟨true,.cells (tF (eV 1) 0 kB) (.int 38) 34⟩
def tSo(k:Bool):Tmpl:=⟨cJ 62 [(0,.bsl kC (eV 0)),(2,ii (eV 2)),(4,cu 16),(7,if k then .nslice 17 (eV 17) (eV 18)else .nils),(12,.bsl kO (cl (eV 1) 0)),(13,ii uZ),(14,ii (eV 19))],
 ⟨20,18,bM (List.replicate 16 gone++[avA,if k then VZ (eV 16) (eV 17) (eV 18)else gone]),UO++[ai uZ (.int 30),ai (.int 0) (eV 19),ai (eV 19) uZ]++(if k then [ai (.int 1) (eV 17),ai (eV 17) (eV 18),bk (ln (eV 16)) (tm (eV 17) (.int 2)),ai (eV 17) (eV 19),GF (eV 16) (eV 19)] else [GF rO (eV 19)])⟩,mi uZ (eV 19)⟩
def axv:List Ann:=[⟨31,0,[tSo false,tSo true],none⟩]
def MY(X p:E):E:=aP 145 [X,p]
def apn:Pact:=⟨30,[fI (eV 0),ii (eV 1)],⟨2,0,.nil,dE (eV 0)⟩,[(.bool (eV 2),⟨3,0,.nil,[.iff (eV 2) (MY (eV 0) (eV 1))]⟩)]⟩
def arC:Pact:=⟨12,[fI (eV 0),ii (eV 1),.agg ((List.range 5).map fun j=>ii (eV (j+2)))],⟨7,0,.nil,dE (eV 0)⟩,[(.bool (eV 7),⟨8,0,.nil,[.iff (eV 7) (.and (MY (eV 0) (eV 1)) (aP 146 ((List.range 5).map fun j=>eV (j+2))))]⟩)]⟩
def Bv:List E:=dE (eV 1)++[ai DV (.int 12),aP 155 [eV 0,DV]]
def W3(m:Nat):List SV:=(List.range 4).map fun j=>ii (eV (m+j))
def li(n:Int):SV:=ii (.int n)
def ait(l:List Int):SV:=match l with | []=>.nils | l=>.nslice 0 (.int (Int.ofNat l.length)) (.int (Int.ofNat l.length))
def Yd(l:List Int):T Blk:=match l with | []=>.nil | l=>bM [⟨true,.cells (l.map li) (.int (Int.ofNat l.length)) 3⟩]
def NR(l:List Int):Nat:=match l with | []=>0 | _=>1
def uS(e t s:Int)(l m:List Int)(no:Int):Pact:=⟨29,[li e,li t,li s,ait l,.agg (m.map li),li no],⟨0,NR l,Yd l,[]⟩,[(.bool (.bool true),⟨0,NR l,Yd l,[]⟩)]⟩
def noB:List SV:=[.bool (.bool false),.bool (.bool false),.bool (.bool false)]
def Yp(b:Nat):SV:=.agg ([.nslice b (.int 4) (.var 0),li 20,li 1,li 0,li 0,li 2,.nils,.nils,.nslice (Nat.succ b) (.int 4) (.var 1),.nils]++noB++[li 0,li 0,li 20,li 0,li 0,li 0,li 0,.nils,.nils,.nils,.nils]++noB++[li 0,li 0,.nils,.nils,.nils,.nils,li 0,li 0,li 0,li (-1),li 0])
def FB(i c:Int)(t:Bool):List SV:=[li i,li c,li 0,li 0,li 0,li 0,li 0,li 0,li 0,.bool (.bool t),.bool (.bool true),.bool (.bool false)]
def Ho:List Blk:=[⟨true,.cells (FB 1 0 false++FB 2 1 false++FB 3 0 false++FB 4 2 true) (.fn 8 (.pr (.var 0) (.int 12))) 65⟩,⟨true,.cells [li 1,li 2,li 3,li 4] (.var 1) 3⟩]
def Mg:List E:=[ai (.int 4) (.var 1),ai (.int 0) (.var 1),ai (.int 4) (.var 0),ai (.int 0) (.var 0)]
def pQ(c:Int):List SV:=[.str (.str ⟨#[]⟩),li 1,li 0,li 0,li 0,li 0,li 0,li c,li 0,li 0,li 0,.nils,.nils,li 0]
def poH:Blk:=⟨true,.cells (pQ 0++pQ 1++pQ 2) (.int 42) 58⟩
def aEp:Pact:=⟨27,[],⟨0,0,.nil,[]⟩,[(Yp 0,⟨2,2,bM Ho,Mg⟩)]⟩
def LQ(more:List SV):List SV:=.nslice 0 (.int 3) (.int 3)::Yp 1::li 0::more
def yp:St:=⟨2,3,bM (poH::Ho),Mg⟩
def afR:Pact:=⟨10,LQ [],yp,[(.nslice 3 (.int 3) (.var 2),⟨3,4,bM (poH::Ho++[⟨true,.cells [li 1,li 2,li 3] (.var 2) 3⟩]),ai (.int 3) (.var 2)::Mg⟩)]⟩
def aqi:Pact:=⟨11,LQ [],yp,[(.agg [li 3,li 1,li 0,li 2],yp)]⟩
def GY(a b c d n:Int)(r:Bool):Pact:=⟨18,LQ [.agg [li a,li b,li c,li d,li n]],yp,[(.bool (.bool r),yp)]⟩
def args:List SV:=[.bsl kC (eV 0),fI (eV 1),ii (eV 2)]
def fU(f:Nat)(l:List E):E:=aP f (l++[.int 0])
def aqj(a b n:E):E:=aP 181 [a,b,n]
def adU:List E:=[ai rI (.int 20),aP 158 [eV 0,rI],.fn 190 (eV 0)]
def afi:Pact:=⟨35,[.bsl jJ (eV 0)],⟨1,0,.nil,adU⟩,[(.bsl jJ (eV 1),⟨2,0,.nil,[aP 187 [eV 1,eV 0]]⟩)]⟩
def awx(x n c:E):Blk:=⟨true,.flat jJ x n c 77⟩
def OX(k:Bool):Tmpl:=⟨cJ 25 [(0,.bsl jJ (eV 0)),(2,.nils),(3,if k then .nslice 8 (eV 9) (eV 10)else .nils),(4,ii (eV 11))],⟨12,if k then 9 else 0,bM (if k then List.replicate 8 gone++[awx (eV 8) (eV 9) (eV 10)] else []),
 adU++[ai (.int 0) (eV 11),ai (eV 11) rI]++(if k then [ai (.int 1) (eV 9),ai (eV 9) (eV 10),bk (eV 9) (eV 11),bk (ln (eV 8)) (tm (eV 9) (.int 5)),aqj (eV 8) (eV 0) (tm (eV 11) (.int 5))] else [bk (eV 11) (.int 0)])⟩,mi rI (eV 11)⟩
def apY:List Ann:=[⟨35,0,[OX false,OX true],none⟩]
def arV:List FM:=[.down jJ]
def msB:List FM:=mK kB
def agB:Pact:=⟨31,[.bsl kC (eV 0),fI (eV 1),ii (eV 2)],⟨3,0,.nil,UO⟩,
 [(.nslice 0 (eV 4) (eV 5),⟨6,1,bM [VZ (eV 3) (eV 4) (eV 5)],[ai (.int 0) (eV 4),ai (eV 4) (eV 5),bk (ln (eV 3)) (tm (eV 4) (.int 2)),ai (eV 4) uZ,GF (eV 3) uZ]⟩)]⟩
def msS:List FM:=[.up kT 85]
def jm(x n c:E):Blk:=⟨true,.flat kT x n c 85⟩
def jP(x n c:E):Blk:=⟨true,.flat kI x n c 3⟩
def Ha(r t:SV)(a:Nat):Blk:=⟨true,.cells (((List.range 4).map fun j=>ii (eV (a+j)))++[r,t]) (.int 6) 94⟩
def EU(b a:Nat)(k:Bool):List Blk:=[Ha (.nslice (b+1) (eV (a+5)) (eV (a+6))) (if k then .nslice (b+2) (eV (a+8)) (eV (a+9))else .nils) a,jm (eV (a+4)) (eV (a+5)) (eV (a+6)),if k then jP (eV (a+7)) (eV (a+8)) (eV (a+9))else gone]
def jU(a:Nat)(k:Bool):List E:=[ai (.int 0) (eV (a+5)),ai (eV (a+5)) (eV (a+6)),bk (ln (eV (a+4))) (tm (eV (a+5)) (.int 2))] ++
 (if k then [ai (.int 1) (eV (a+8)),ai (eV (a+8)) (eV (a+9)),bk (ln (eV (a+7))) (eV (a+8)),ai (pl (eV (a+5)) (eV (a+8))) (.int 30)] else [ai (eV (a+5)) (.int 30)])
def TG(a:Nat)(k:Bool):E:=if k then eV (a+7)else rO
def iO(a:Nat)(k:Bool):List E:=(List.range 5).map (fun j=>eV (a+j))++[TG a k]
def F6(e:E):Blk:=⟨true,.cells [ii e] (.int 1) 53⟩
def Rs(b:Nat):SV:=.func (.func 58) [] [cu b]
def clA:SV:=.func (.func 59) [] []
def Fj(any:Bool)(e:E):E:=if any then .int (-1)else e
def KN(e:E):List E:=[ai (.int 0) e,ai e (.int 3)]
def Hk(any:Bool):T Blk:=bM (jm (eV 0) (eV 1) (eV 2)::if any then [] else [F6 (eV 3)])
def LV(any:Bool):Nat:=if any then 1 else 2
def yX:List E:=[ai (.int 0) (eV 1),ai (eV 1) (eV 2),bk (ln (eV 0)) (tm (eV 1) (.int 2)),ai (eV 1) (.int 30)]++KN (eV 3)
def RK(any:Bool):SV:=if any then clA else Rs 1
def Pq(any:Bool):Pact:=⟨85,[.nslice 0 (eV 1) (eV 2),RK any],⟨if any then 3 else 4,LV any,Hk any,if any then yX.take 4 else yX⟩,
 [(ii (eV 4),⟨5,LV any,Hk any,[bk (eV 4) (aP 175 [Fj any (eV 3),eV 0,eV 1]),ai (.int (-1)) (eV 4),oC (eV 4) (eV 1)]⟩)]⟩
def tXF(any:Bool):Tmpl:=⟨cJ 19 [(0,.nslice 0 (eV 1) (eV 2)),(1,RK any),(6,.nslice 0 (eV 1) (eV 2)),(7,ii (eV 1)),(8,ii (eV 8))],⟨9,LV any,Hk any,(if any then yX.take 4 else yX)++[ai (.int 0) (eV 8),ai (eV 8) (eV 1),bk (aP 175 [Fj any (eV 3),eV 0,eV 8]) (.int (-1))]⟩,mi (eV 1) (eV 8)⟩
def SO(any:Bool):List Ann:=[⟨85,0,[tXF any],none⟩]
def ajD:List E:=yX.take 4++[ai (.int 0) (eV 3),oC (eV 3) (eV 1),bk (eV 4) (.ar .add .i64 (eV 3) (.int 1))]
def akr:Pact:=⟨86,[.nslice 0 (eV 1) (eV 2),ii (eV 3),ii (eV 4)],⟨5,1,bM [jm (eV 0) (eV 1) (eV 2)],ajD⟩,
 [(.nslice 0 (eV 6) (eV 2),⟨7,1,bM [jm (eV 5) (eV 6) (eV 2)],[bk (eV 6) (mi (eV 1) (.int 1)),bk (ln (eV 5)) (tm (eV 6) (.int 2)),aP 186 [eV 5,eV 0,eV 3]]⟩)]⟩
def qW(rb tb a:Nat)(k:Bool):Blk:=Ha (.nslice rb (eV (a+5)) (eV (a+6))) (if k then .nslice tb (eV (a+8)) (eV (a+9))else .nils) a
def mC(a:Nat):List E:=[fU 188 ((List.range 4).map fun j=>eV (a+j))]
def JK(any:Bool):List Blk:=if any then [] else [F6 (eV 10)]
def tpV(any:Bool):SV:=if any then clA else Rs 3
def Ca(any:Bool):Nat:=if any then 3 else 4
def aA8(k any:Bool):Pact:=⟨57,[cu 0,tpV any],⟨11,Ca any,bM (EU 0 0 k++JK any),jU 0 k++KN (eV 10)⟩,
  [(.bool (.bool true),⟨22,Ca any+1,bM ([Ha (.nslice 1 (eV 17) (eV 18)) (.nslice (Ca any) (eV 20) (eV 21)) 12|>fun b=>⟨true,match b.obj with | .cells (_ ::_ ::_ ::_ ::r) t e=> .cells (((List.range 4).map fun j=>ii (eV j))++r) t e | o=>o⟩,jm (eV 16) (eV 17) (eV 18),gone]++JK any++[jP (eV 19) (eV 20) (eV 21)]),
      jU 12 true++[bk (eV 17) (mi (eV 5) (.int 1)),bk (eV 20) (if k then pl (eV 8) (.int 1)else .int 1),fU 174 [eV 16,eV 19,Fj any (eV 10),eV 4,TG 0 k]]⟩),
   (.bool (.bool false),⟨11,Ca any,bM (EU 0 0 k++JK any),[bk (aP 175 [Fj any (eV 10),eV 4,eV 5]) (.int (-1))]⟩)]⟩
def Dr(k any:Bool):Pact:=let s:=aA8 k any;if any then {s with st:={s.st with pc:=jU 0 k++[bk (eV 10) (.int 0)]}} else s
def aeb(k:Bool):List E:=jU 0 k++mC 0++KN (eV 10)++[ai (.int 0) (eV 11),ai (eV 11) (.int 20)]
def Xy(k:Bool):SV×St:=(.bool (.bool true),⟨22,4,bM [qW 1 3 12 true,jm (eV 16) (eV 17) (eV 18),gone,jP (eV 19) (eV 20) (eV 21)],jU 12 true++mC 12++[fU 170 (iO 12 true++[eV 10,eV 11]++iO 0 k)]⟩)
def aAg:SV×St:=(.bool (.bool true),⟨19,3,bM [qW 1 3 12 false,jm (eV 16) (eV 17) (eV 18),gone],jU 12 false++mC 12++[fU 170 (iO 12 false++[eV 10,eV 11]++iO 0 false)]⟩)
def aqL(k:Bool):SV×St:=(.bool (.bool false),⟨12,3,bM [gone,gone,gone],[fU 171 ([eV 10,eV 11]++iO 0 k)]⟩)
def adq(k:Bool):Pact:=⟨37,[cu 0,ii (eV 10),ii (eV 11)],⟨12,3,bM (EU 0 0 k),aeb k⟩,(if k then [Xy k] else [aAg,Xy k])++[aqL k]⟩
def M7(k k':Bool):Tmpl:=⟨cJ 36 [(0,cu 0),(2,ii (eV 11)),(4,cu 25),(7,ii (eV 34))],⟨35,26,bM ([qW 1 24 24 k',jm (eV 28) (eV 29) (eV 30)]++List.replicate 22 gone++[if k' then jP (eV 31) (eV 32) (eV 33)else gone,F6 (eV 10)]),
 aeb k++jU 24 k'++mC 24++[ai (.int 0) (eV 34),ai (eV 34) (eV 11),fU 170 (iO 24 k'++[eV 10,eV 34]++iO 0 k),.imp (oC (eV 34) (eV 11)) (fU 185 ((List.range 4).map (fun j=>eV (24+j))++[eV 10]))]⟩,mi (eV 11) (eV 34)⟩
def OG(k:Bool):List Ann:=[⟨37,0,if k then [M7 true true] else [M7 false false,M7 false true],none⟩]
def asa(k:Bool):List E:=jU 0 k++mC 0
def VA(k:Bool):SV×St:=(.bool (.bool true),⟨22,4,bM [qW 1 3 12 true,jm (eV 16) (eV 17) (eV 18),gone,jP (eV 19) (eV 20) (eV 21)],jU 12 true++mC 12++[fU 170 (iO 12 true++[.int 4,.int 1]++iO 0 k)]⟩)
def aoa:SV×St:=(.bool (.bool true),⟨19,3,bM [qW 1 3 12 false,jm (eV 16) (eV 17) (eV 18),gone],jU 12 false++mC 12++[fU 170 (iO 12 false++[.int 4,.int 1]++iO 0 false)]⟩)
def aFu(k:Bool):SV×St:=(.bool (.bool false),⟨10,3,bM [gone,gone,gone],[fU 171 ([.int 4,.int 1]++iO 0 k)]⟩)
def SA(k:Bool):Pact:=⟨38,[cu 0],⟨10,3,bM (EU 0 0 k),asa k⟩,(if k then [VA k] else [aoa,VA k])++[aFu k]⟩
def ru:List E:=(List.range 5).map fun j=>eV (3+j)
def Lu:List E:=ru.take 4++[eV 0,eV 1,eV 2]
def vg:E:=MY (eV 1) (eV 2)
def um:E:=aP 146 ru
def afc:SV:=.agg [ii (.int 0),ii (.int 0),ii (.int 0),ii (.int 0)]
def adl(m:Nat)(l:E):E:=fU 183 ((List.range 4).map (fun j=>eV (m+j))++[l]++ru++[eV 0,eV 1,eV 2])
def Me:E:=fU 177 ([.int 4,eV 7]++Lu)
def abj(e:Int)(c:List E):SV×St:=(.tup [.nils,afc,ii (.int e)],⟨8,0,.nil,c⟩)
def aul:SV×St:=(.tup [.nils,.agg (W3 8),ii (.int 0)],⟨12,0,.nil,[adl 8 rO,vg,um]⟩)
def awS:SV×St:=(.tup [.nslice 0 (eV 13) (eV 14),.agg (W3 8),ii (.int 0)],⟨15,1,bM [jP (eV 12) (eV 13) (eV 14)],[adl 8 (eV 12),vg,um,ai (.int 1) (eV 13),ai (eV 13) (eV 14),ai (eV 13) (.int 30),bk (ln (eV 12)) (eV 13)]⟩)
def VJ:List SV:=[.bsl kC (eV 0),fI (eV 1),ii (eV 2),.agg (ru.map ii)]
def ayQ:Pact:=⟨17,VJ,⟨8,0,.nil,Bv⟩,[abj 2 [.not (.and vg um)],abj 12 [Me,vg,um],aul,awS]⟩
def ajH:Pact:=⟨36,[.agg ((List.range 5).map fun j=>ii (eV j))],⟨5,0,.nil,[]⟩,[(.bool (eV 5),⟨6,0,.nil,[.iff (eV 5) (aP 146 ((List.range 5).map eV))]⟩)]⟩
def aqK(a:Nat)(k:Bool)(n:E):E:=fU 176 (iO a k++[.int 4,n]++Lu)
def zB:Blk:=⟨true,.cells [ii (.int 0),ii (.int 0),ii (.int 0),ii (.int 0)] (.int 4) 25⟩
def I5(m:Nat):Tmpl:=let k:=m==1
  ⟨cJ 76 [(8,.nils),(9,cu 24),(10,ii (.int 0)),(11,cu 25),(12,.bool (.bool (m != 2))),(51,ii (eV 7)),(52,ii (eV 74))],⟨75,28,bM (List.replicate 24 gone++[zB]++(if m==2 then [gone,gone,gone] else [qW 26 27 64 k,jm (eV 68) (eV 69) (eV 70),if k then jP (eV 71) (eV 72) (eV 73)else gone])),
   Bv++[vg,um,ai (.int 0) (eV 7),ai (eV 7) (.int 20),ai (.int 0) (eV 74),ai (eV 74) (eV 7)]++(if m==2 then [Me] else jU 64 k++mC 64++[aqK 64 k (eV 74)])⟩,mi (eV 7) (eV 74)⟩
def aqd:Blk:=⟨true,.cells (ru.map ii) (.int 5) 42⟩
def GC(m:Nat):Tmpl:=let k:=m==1
  ⟨cJ 76 [(7,cu 16),(8,.nils),(9,cu 17),(10,ii (.int 0)),(11,cu 18),(12,.bool (.bool (m != 2))),(37,.agg ((ru.take 4).map ii)),(38,ii (eV 34))],⟨35,21,bM (List.replicate 16 gone++[aqd,zB]++(if m==2 then [gone,gone,gone] else [qW 19 20 24 k,jm (eV 28) (eV 29) (eV 30),if k then jP (eV 31) (eV 32) (eV 33)else gone])),
   Bv++[vg,um,ai (.int 0) (eV 34),ai (eV 34) (.int 4)]++(if m==2 then [Me] else jU 24 k++mC 24++[fU 176 (iO 24 k++[eV 34,.int 0]++Lu)])⟩,mi (.int 4) (eV 34)⟩
def arW:List Ann:=[⟨17,0,[GC 0,GC 1,GC 2],none⟩,⟨17,2,[I5 0,I5 1,I5 2],none⟩]
def anQ:E:=fU 182 (ru++[eV 0,eV 1,eV 2])
def aCC:Pact:=⟨18,VJ,⟨8,0,.nil,Bv⟩,[(.bool (eV 8),⟨9,0,.nil,[.iff (eV 8) anQ]⟩)]⟩
def msI:List FM:=[.down kI]
def adR:List E:=[ai nI (.int 40)]
def ajd:Pact:=⟨41,[.bsl kI (eV 0),ii (eV 1)],⟨2,0,.nil,adR⟩,[(.bsl kI (eV 2),⟨3,0,.nil,[aP 184 [eV 2,eV 0,eV 1,nI],ai (ln (eV 2)) nI]⟩)]⟩
def tWo(k:Bool):Tmpl:=⟨cJ 27 [(0,.bsl kI (eV 0)),(1,ii (eV 1)),(4,.nils),(5,if k then .nslice 8 (eV 9) (eV 10)else .nils),(6,ii (eV 11))],⟨12,if k then 9 else 0,bM (if k then List.replicate 8 gone++[jP (eV 8) (eV 9) (eV 10)] else []),
 adR++[ai (.int 0) (eV 11),ai (eV 11) nI]++(if k then [ai (.int 1) (eV 9),ai (eV 9) (eV 10),bk (ln (eV 8)) (eV 9),ai (eV 9) (eV 11),aP 184 [eV 8,eV 0,eV 1,eV 11]] else [aP 184 [rO,eV 0,eV 1,eV 11]])⟩,mi nI (eV 11)⟩
def akM:List Ann:=[⟨41,0,[tWo false,tWo true],none⟩]
def eW(b:Nat)(e:E)(n c:E):SV:=.agg (.nslice b n c::(tF e 0 kB).drop 1)
def nN(x n c:E):Blk:=⟨true,.flat kO x n c 65⟩
def M4:CK->SV
 |.int k=>.int k (.int 0)
 |.bool=>.bool (.bool false)
 |.str=>.str (.str ByteArray.empty)
 |.slc _=>.nils
def kL:List CK:=[.int .u8]
def y5(e:E):List E:=[bk (dP 5 (cl e 29)) (.int 0),bk (dP 5 (cl e 30)) (.int 0),bk (dP 2 (cl e 32)) (.int 0)]
def aAU:Pact:=⟨16,[fI (eV 0)],⟨1,0,.nil,dE (eV 0)++y5 (eV 0)⟩,[(eW 0 (eV 1) (eV 2) (eV 3),⟨5,1,bM [nN (eV 4) (eV 2) (eV 3)],[aP 211 [eV 1,eV 0],aP 200 [eV 4,cl (eV 0) 0],bk (eV 2) gm,ai (.int 0) (eV 2),ai (eV 2) (eV 3)]++y5 (eV 1)⟩)]⟩
def AU:List FM:=.up kO 65::(mK kB).drop 1
def abB:List E:=[ai (.int 0) (eV 1),ai (eV 1) (eV 2),ai (eV 1) (.int 30),bk (dP 12 (eV 3)) (eV 1)]
def aGT:Pact:=⟨33,[eW 0 (eV 0) (eV 1) (eV 2),ii (eV 4)],⟨5,1,bM [nN (eV 3) (eV 1) (eV 2)],abB⟩,[(ii (eV 5),⟨6,1,bM [nN (eV 3) (eV 1) (eV 2)],[bk (eV 5) (aP 208 [eV 3,eV 4,eV 1]),ai (.int (-1)) (eV 5),oC (eV 5) (eV 1)]⟩)]⟩
def To(b:Nat)(e n c:E):Blk:=⟨true,.cells (.nslice b n c::(tF e 0 kB).drop 1) (.int 38) 34⟩
def tIo:Tmpl:=⟨cJ 22 [(1,ii (eV 4)),(2,cu 8),(5,ii (eV 8))],⟨9,9,bM ([nN (eV 3) (eV 1) (eV 2)]++List.replicate 7 gone++[To 0 (eV 0) (eV 1) (eV 2)]),abB++[ai (.int 0) (eV 8),ai (eV 8) (eV 1),bk (aP 208 [eV 3,eV 4,eV 8]) (.int (-1))]⟩,mi (eV 1) (eV 8)⟩
def auC:List Ann:=[⟨33,0,[tIo],none⟩]
def u0(X k:E):E:=aP 120 [X,k,dP 12 (cl X 0)]
def aA6:Pact:=⟨45,[fI (eV 0),ii (eV 1)],⟨2,0,.nil,dE (eV 0)++y5 (eV 0)⟩,[(fI (eV 2),⟨3,0,.nil,[aP 209 [eV 2,eV 0,eV 1,.int 0],aP 200 [cl (eV 2) 0,cl (eV 0) 0],Uz (eV 2),O6 (eV 2)]⟩)]⟩
def azE:Pact:=⟨44,[fI (eV 0),abH 1],⟨13,0,.nil,dE (eV 0)++y5 (eV 0)++[ai (.int 0) (u0 (eV 0) (eV 1))]⟩,[(eW 0 (eV 13) (eV 14) (eV 15),⟨17,1,bM [nN (eV 16) (eV 14) (eV 15)],[aP 211 [eV 13,eV 0],fU 217 ([eV 16,cl (eV 0) 0,u0 (eV 0) (eV 1)]++(List.range 12).map fun j=>eV (j+1)),bk (eV 14) gm,ai (.int 0) (eV 14),ai (eV 14) (eV 15)]⟩)]⟩
def agL:List E:=dE (eV 0)++y5 (eV 0)++[ai (.int 0) (u0 (eV 0) (eV 1)),bk (nt (cl (eV 0) 0) (pl (tm (u0 (eV 0) (eV 1)) (.int 12)) (.int 0))) (eV 1),bk (nt (cl (eV 0) 0) (pl (tm (u0 (eV 0) (eV 1)) (.int 12)) (.int 2))) (.int 1)]
def aiF:Pact:=⟨23,[fI (eV 0),ii (eV 1),ii (.int 2)],⟨2,0,.nil,agL⟩,[(eW 0 (eV 2) (eV 3) (eV 4),⟨6,1,bM [nN (eV 5) (eV 3) (eV 4)],[aP 209 [eV 2,eV 0,eV 1,.int 1],aP 206 [eV 5,cl (eV 0) 0,u0 (eV 0) (eV 1)],bk (eV 3) gm,ai (.int 0) (eV 3),ai (eV 3) (eV 4)]⟩)]⟩
def az2:Pact:={afi with posts:=[(.bsl jJ (eV 1),⟨2,0,.nil,[aP 187 [eV 1,eV 0],.fn 201 (eV 1)]⟩)]}
def ajf:Pact:={ajd with posts:=[(.bsl kI (eV 2),⟨3,0,.nil,[aP 184 [eV 2,eV 0,eV 1,nI],ai (ln (eV 2)) nI,.fn 201 (eV 2)]⟩)]}
def L8:Blk:=⟨true,.flat kI (eV 0) (eV 1) (eV 1) 3⟩
def yB:List E:=[ai (.int 0) (eV 1),ai (eV 1) (.int 20),bk (ln (eV 0)) (eV 1),.fn 214 (eV 0)]
def P3(X n i:E)(m:Nat->E):E:=fU 203 ([X,n,i]++(List.range 4).map m)
def KY(O d l n i t:E):E:=aP 202 [O,d,l,n,i,t]
def Mj:Blk:=⟨true,.flat kI rO (.int 0) (.int 0) 3⟩
def ahl:Pact:=⟨22,[ii (.int 20),.agg [.nslice 0 (.int 0) (.int 0),.nslice 1 (eV 1) (eV 1)]],⟨2,2,bM [Mj,L8],yB⟩,
 [(.tup [eW 2 (eV 2) (eV 3) (eV 4),ii (.int 0)],⟨6,3,bM [Mj,L8,nN (eV 5) (eV 3) (eV 4)],[P3 (eV 2) (eV 1) (.int 0) (fun _=>.int 0),KY (eV 5) (eV 0) rO (eV 1) (.int 0) (.int 0),bk (eV 3) (eV 1),ai (.int 0) (eV 3),ai (eV 3) (eV 4)]⟩)]⟩
def ap7(L n:E):E:=aP 215 [L,n]
def zU(l0 l1:E)(o l:SV):Blk:=⟨true,.cells ((((((kB.map M4).set 1 (ii l0)).set 15 (ii l1)).set 36 (ii (.int (-1)))).set 0 o).set 20 l) (.int 38) 34⟩
def AA(b:Blk)(more:List Blk):T Blk:=bM ([Mj,L8]++List.replicate 6 gone++[⟨true,.cells [.nslice 0 (.int 0) (.int 0),.nslice 1 (eV 1) (eV 1)] (.int 2) 61⟩,⟨true,.cells (kB.map M4) (.int 38) 34⟩,b]++more)
def CZ(p:E):List (Nat×SV):=[(0,ii (.int 20)),(3,cu 8),(4,cu 9),(5,ii (.int 0)),(6,cu 10),(7,ii p)]
def Vg(a:Nat)(i:E):List E:=[bk (eV (a+1)) i,bk (eV (a+4)) i,ai (.int 1) i,ai (eV (a+1)) (eV (a+2)),ai (eV (a+4)) (eV (a+5)),KY (eV a) (eV 0) rO i (.int 0) (.int 0),ap7 (eV (a+3)) i]
def Wu(a:Nat):List Blk:=[nN (eV a) (eV (a+1)) (eV (a+2)),jP (eV (a+3)) (eV (a+4)) (eV (a+5))]
def CT(a b:E):E:=.imp a b
def tM0:Tmpl:=⟨cJ 93 (CZ (eV 8)),⟨11,11,AA (zU (eV 9) (eV 10) .nils .nils) [],yB++[ai (.int 0) (eV 8),ai (eV 8) (.int 2),CT (ai (.int 1) (eV 8)) (bk (eV 9) (.int 20)),CT (ai (.int 2) (eV 8)) (bk (eV 10) (.int 20)),CT (ai (.int 2) (eV 8)) (bk (eV 1) (.int 0))]⟩,mi (.int 2) (eV 8)⟩
def tM1:Tmpl:=⟨cJ 93 (CZ (eV 14)),⟨17,13,AA (zU (eV 15) (eV 16) (.nslice 11 (eV 9) (eV 10)) (.nslice 12 (eV 12) (eV 13))) (Wu 8),yB++[bk (eV 14) (.int 2),bk (eV 15) (.int 20),bk (eV 16) (.int 20)]++Vg 8 (eV 1)⟩,mi (.int 2) (eV 14)⟩
def tN0:Tmpl:=⟨cJ 93 (CZ (eV 8)++[(8,ii (.int 0))]),⟨18,11,AA (zU (eV 16) (eV 17) .nils .nils) [],yB++[ai (.int 0) (eV 8),ai (eV 8) (.int 1),bk (eV 16) (.int 20),CT (ai (.int 1) (eV 8)) (bk (eV 17) (.int 20))]⟩,eV 1⟩
def tN1:Tmpl:=⟨cJ 93 (CZ (eV 8)++[(8,ii (eV 24))]),⟨33,26,AA (zU (eV 31) (eV 32) (.nslice 24 (eV 26) (eV 27)) (.nslice 25 (eV 29) (eV 30))) (List.replicate 13 gone++Wu 25),yB++[bk (eV 8) (.int 1),ai (eV 24) (eV 1),bk (eV 31) (.int 20),bk (eV 32) (.int 20)]++Vg 25 (eV 24)⟩,mi (eV 1) (eV 24)⟩
def afm:List Ann:=[⟨22,0,[tM0,tM1],none⟩,⟨22,2,[tN0,tN1],none⟩]
def nL:E:=ln (eV 0)
def mE(j:Nat):E:=eV (j+1)
def mB(b a:Nat):Blk:=⟨true,.cells ((List.range 4).map fun j=>ii (eV (a+j))) (.int 4) 25⟩
def cB:Blk:=⟨true,.cells ((List.range 5).map fun j=>ii (eV (j+5))) (.int 5) 42⟩
def YR:Blk:=⟨true,.cells (pQ 0++pQ 1++pQ 2++pQ 3) (.int 56) 58⟩
def WA(e:E):E:=.fn 27 (.pr (eT [.int 4]) e)
def ZX:List E:=[ai nL (.int 20),WA (eV 0)]
def tC0:Tmpl:=⟨cJ 155 [(0,.bsl kL (eV 0)),(4,cu 16),(5,cu 17),(6,.bool (.bool false)),(7,.nslice 18 (.int 4) (.int 4)),(8,.nslice 19 nL nL),(9,ii (eV 17))],
 ⟨18,20,bM (List.replicate 16 gone++[mB 0 1,cB,YR,jP (eV 16) nL nL]),ZX++[ai (.int 0) (eV 17),ai (eV 17) nL,bk (ln (eV 16)) nL,aP 204 [eV 16,eV 0,eV 17]]⟩,mi nL (eV 17)⟩
def apB(a:Nat)(i:E):E:=fU 205 ((List.range 4).map (fun j=>eV (a+j))++(List.range 4).map mE++[eV 0,i])
def tC2:Tmpl:=⟨cJ 155 [(0,.bsl kL (eV 0)),(4,cu 24),(5,cu 25),(6,.bool (.bool false)),(7,.nslice 26 (.int 4) (.int 4)),(8,.nslice 27 nL nL),(10,cu 28),(11,ii (.int 0)),(12,cu 30),(13,ii (eV 33))],
  ⟨34,31,bM (List.replicate 24 gone++[mB 0 1,cB,YR,jP (eV 24) nL nL,To 29 (eV 25) (eV 26) (eV 27),nN (eV 28) (eV 26) (eV 27),mB 0 29]),
   ZX++[ai (.int 0) (eV 33),ai (eV 33) nL,bk (ln (eV 24)) nL,aP 204 [eV 24,eV 0,nL],P3 (eV 25) nL (eV 33) mE,KY (eV 28) (eV 24) (eV 0) nL (eV 33) (eV 33),apB 29 (eV 33),bk (eV 26) nL,ai (eV 26) (eV 27)]⟩,mi nL (eV 33)⟩
def U4:List Ann:=[⟨5,0,[tC0],none⟩,⟨5,2,[tC2],none⟩]
def aak:List (List FM):=[mK kB]
def axJ:List (List FM):=[[.down kC],mK kB]
def aF6:List SV:=[.bsl kL (eV 0),.agg ((List.range 4).map fun j=>ii (eV (j+1))),.agg ((List.range 5).map fun j=>ii (eV (j+5)))]
def Lw:List E:=[WA (eV 0)]

theorem aHb:∀F:Env,E.B F tO=true:=fun F=>rfl
structure Nl where
 l:List Nat1
 h:∀x∈l,aU Try.prog x
def nc{x:Nat1}(h:aU Try.prog x)(n:Nl):Nl:=⟨x::n.l,fun y hy=>(List.mem_cons.1 hy).elim (fun e=>e▸h) (n.h y)⟩
theorem sc{s:Pact}(f:List Fa)(a:List Ann)(n:Nl)(ms:List FM)(ha:Au a=true)(h:og Try.prog (fun tb=>LX Try.prog (tb.plus (fl f) a n.l) 3000 ms s)=true):aU Try.prog (bn s):=
 aui good (facts:=fl f) (FK f) (anns:=a) (Ff a ha) (nats:=n.l) n.h (n:=3000) (ms:=ms) h
def S2:Nl:=⟨nats,nats_ok⟩
def p0:List Fa:=[]
theorem aiv:aU Try.prog (bn (aEp)):=sc p0 ([]) S2 ([]) (by kernel_rfl) (by kernel_rfl)
def Vh:Nl:=nc aiv S2
def p1:List Fa:=[]
theorem akI:aU Try.prog (bn (uS 1 0 1 [] [0,0,0,1] 0)):=sc p1 ([]) Vh ([]) (by kernel_rfl) (by kernel_rfl)
def TL:Nl:=nc akI Vh
def p2:List Fa:=[]
theorem aDn:aU Try.prog (bn (uS 2 0 0 [1] [0,0,0,2] 0)):=sc p2 ([]) TL ([]) (by kernel_rfl) (by kernel_rfl)
def ac2:Nl:=nc aDn TL
def p3:List Fa:=[]
theorem atL:aU Try.prog (bn (uS 3 0 1 [1,3] [0,0,0,1] 0)):=sc p3 ([]) ac2 ([]) (by kernel_rfl) (by kernel_rfl)
def adp:Nl:=nc atL ac2
def p4:List Fa:=[]
theorem aAt:aU Try.prog (bn (uS 2 0 4 [1,2,3] [0,0,0,0] 0)):=sc p4 ([]) adp ([]) (by kernel_rfl) (by kernel_rfl)
def Vo:Nl:=nc aAt adp
def p5:List Fa:=[]
theorem aEa:aU Try.prog (bn (uS 0 1 4 [1,2] [0,0,0,0] 0)):=sc p5 ([]) Vo ([]) (by kernel_rfl) (by kernel_rfl)
def Zg:Nl:=nc aEa Vo
def p6:List Fa:=[]
theorem au6:aU Try.prog (bn (uS 0 2 0 [] [0,0,0,0] 12)):=sc p6 ([]) Zg ([]) (by kernel_rfl) (by kernel_rfl)
def Uy:Nl:=nc au6 Zg
def p7:List Fa:=[]
theorem amt:aU Try.prog (bn (afR)):=sc p7 ([]) Uy ([]) (by kernel_rfl) (by kernel_rfl)
def Q5:Nl:=nc amt Uy
def p8:List Fa:=[]
theorem ar4:aU Try.prog (bn (aqi)):=sc p8 ([]) Q5 ([]) (by kernel_rfl) (by kernel_rfl)
def VG:Nl:=nc ar4 Q5
def p9:List Fa:=[]
theorem amB:aU Try.prog (bn (GY 0 0 0 0 6 true)):=sc p9 ([]) VG ([]) (by kernel_rfl) (by kernel_rfl)
def QG:Nl:=nc amB VG
def ao:List Fa:=[]
theorem awT:aU Try.prog (bn (GY 0 0 0 0 7 false)):=sc ao ([]) QG ([]) (by kernel_rfl) (by kernel_rfl)
def Um:Nl:=nc awT QG
def av:List Fa:=[]
theorem aqV:aU Try.prog (bn (GY 0 0 1 0 0 false)):=sc av ([]) Um ([]) (by kernel_rfl) (by kernel_rfl)
def DN:Nl:=nc aqV Um
end
end Go.Proofs.Ytnnbmcfabojjjaa.payColours
