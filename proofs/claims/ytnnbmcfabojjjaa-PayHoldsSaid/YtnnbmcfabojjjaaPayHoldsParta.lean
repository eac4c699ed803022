/-
  PayHolds: contracts of functions, part 1.
-/
import Derived.Test.YtnnbmcfabojjjaaRows
import Derived.Test.YtnnbmcfabojjjaaNat
import Derived.WalkKit
import Derived.ProofKit
import Derived.OpenShut
import Derived.ChangeOld
import Derived.Below
import Derived.KernelRfl
import Derived.Lib.SmallJoins
import Derived.Laws.IdiomArrays
namespace Go.Proofs.Ytnnbmcfabojjjaa.payHolds
open Go.ChangeShapes Go.WideShapes Go.ChangeAt Go.RowKit
open Go.SX
open Go.SX.E (fn pr cmp var)
set_option linter.unusedVariables false
set_option linter.unusedSimpArgs false
set_option maxRecDepth 100000
noncomputable section
theorem own:ownKnob Try.prog.godebug=none:=by kernel_rfl
theorem laidOut:laidOutB Try.prog=true:=by kernel_rfl
theorem good:ju Try.prog=true:=by kernel_rfl

theorem awI{G:Type}{cs:Array G}(h:cs.size=5):∃c0 c1 c2 c3 c4,cs=#[c0,c1,c2,c3,c4]:=by
 obtain⟨l⟩:=cs
 match l,h with
 |[c0,c1,c2,c3,c4],_=>exact⟨c0,c1,c2,c3,c4,rfl⟩
theorem aal{H:Type}{W:World}{base:Nat}{enc:TypeId×Value->H}{v:Value}{d:DataW H}{p:List MemPlace}(o:Value.okWide Try.prog W .any base 42 v)
  (h:DataW.Trod enc Try.prog W 0 (fun _=>true) true 42 v d p):∃x0 x1 x2 x3 x4:Int,v=.agg #[.int .i64 x0,.int .i64 x1,.int .i64 x2,.int .i64 x3,.int .i64 x4]/\
   (Lit.int .i64 x0).wf=true/\(Lit.int .i64 x1).wf=true/\(Lit.int .i64 x2).wf=true/\(Lit.int .i64 x3).wf=true/\(Lit.int .i64 x4).wf=true:=by
 obtain⟨cs,rfl,hsz⟩:=okWide_struct Try.underlying42 o
 have hC:Try.prog.cellsOf 42=5:=by kernel_rfl
 obtain⟨c0,c1,c2,c3,c4,rfl⟩:=awI (hsz.trans hC)
 obtain⟨fuel,hf⟩:=h
 obtain⟨y0,y1,n,hx,_,h0,h1⟩:=trod_struct2 Try.underlying42 hf
 have e25:Try.prog.cellsOf 25=4:=by kernel_rfl
 have e3:Try.prog.cellsOf 3=1:=by kernel_rfl
 simp[Value.cells,e25,e3]at h0 h1
 obtain⟨z0,z1,z2,z3,m,_,k0,k1,k2,k3⟩:=trod_array4 Try.underlying25 e3 h0
 obtain⟨x0,a0,_,w0⟩:=DataW.trod_int Try.underlying3 k0
 obtain⟨x1,a1,_,w1⟩:=DataW.trod_int Try.underlying3 k1
 obtain⟨x2,a2,_,w2⟩:=DataW.trod_int Try.underlying3 k2
 obtain⟨x3,a3,_,w3⟩:=DataW.trod_int Try.underlying3 k3
 obtain⟨x4,a4,_,w4⟩:=DataW.trod_int Try.underlying3 h1
 simp only[List.cons.injEq,and_true]at a0 a1 a2 a3 a4;subst a0 a1 a2 a3 a4
 exact⟨x0,x1,x2,x3,x4,rfl,w0,w1,w2,w3,w4⟩
theorem arN{H:Type}:BulkOk (yE (H:=H)) vY:=Tp
theorem aw6{us:List U}(h:us.length=38)(t:U.typs us qb []=true):t8 (.lst us)=true:=aGW h t

abbrev Tr(f:E):Prop:=∀F:Env,E.B F f=true
theorem ac{e:E}{l:List E}(h:Tr e)(hl:∀e∈l,Tr e):∀x∈e::l,Tr x:=all_cons h hl
structure Fa where
 e:E
 t:Tr e
def fa(e:E)(t:Tr e):Fa:=⟨e,t⟩
def ans:E->List E->E
 |a,[]=>a
 |a,b::l=>.and a (ans b l)
def cv:List E->E->E
 |[],d=>d
 |a::l,d=>.imp (ans a l) d
def fb(l:List E)(d:E)(t:Tr (cv l d)):Fa:=⟨cv l d,t⟩
def fl:List Fa->List E
 |[]=>[]
 |x::l=>x.e::fl l
theorem MM:∀l:List Fa,∀e∈fl l,Tr e
 |[],e,h=>by cases h
 |x::l,e,h=>(List.mem_cons.1 h).elim (fun h=>h▸x.t) (MM l e)
def jM:Fa:=fa sQ fun F=>rfl
theorem aB{a0 d:E}(h:∀F:Env,E.B F a0=true->E.B F d=true):Tr (cv [a0] d):=fun F=>by
 show E.B F (.imp a0 d)=true
 rw[cB]
 rintro p0
 exact h F p0
theorem ax{a0 a1 d:E}(h:∀F:Env,E.B F a0=true->E.B F a1=true->E.B F d=true):Tr (cv [a0,a1] d):=fun F=>by
 show E.B F (.imp (.and a0 a1) d)=true
 rw[cB]
 simp only[cH]
 rintro⟨p0,p1⟩
 exact h F p0 p1
theorem am{a0 a1 a2 d:E}(h:∀F:Env,E.B F a0=true->E.B F a1=true->E.B F a2=true->E.B F d=true):Tr (cv [a0,a1,a2] d):=fun F=>by
 show E.B F (.imp (.and a0 (.and a1 a2)) d)=true
 rw[cB]
 simp only[cH]
 rintro⟨p0,p1,p2⟩
 exact h F p0 p1 p2
theorem aH{a0 a1 a2 a3 d:E}(h:∀F:Env,E.B F a0=true->E.B F a1=true->E.B F a2=true->E.B F a3=true->E.B F d=true):Tr (cv [a0,a1,a2,a3] d):=fun F=>by
 show E.B F (.imp (.and a0 (.and a1 (.and a2 a3))) d)=true
 rw[cB]
 simp only[cH]
 rintro⟨p0,p1,p2,p3⟩
 exact h F p0 p1 p2 p3
theorem aR{a0 a1 a2 a3 a4 d:E}(h:∀F:Env,E.B F a0=true->E.B F a1=true->E.B F a2=true->E.B F a3=true->E.B F a4=true->E.B F d=true):Tr (cv [a0,a1,a2,a3,a4] d):=fun F=>by
 show E.B F (.imp (.and a0 (.and a1 (.and a2 (.and a3 a4)))) d)=true
 rw[cB]
 simp only[cH]
 rintro⟨p0,p1,p2,p3,p4⟩
 exact h F p0 p1 p2 p3 p4
theorem cr{a0 a1 a2 a3 a4 a5 d:E}(h:∀F:Env,E.B F a0=true->E.B F a1=true->E.B F a2=true->E.B F a3=true->E.B F a4=true->E.B F a5=true->E.B F d=true):Tr (cv [a0,a1,a2,a3,a4,a5] d):=fun F=>by
 show E.B F (.imp (.and a0 (.and a1 (.and a2 (.and a3 (.and a4 a5))))) d)=true
 rw[cB]
 simp only[cH]
 rintro⟨p0,p1,p2,p3,p4,p5⟩
 exact h F p0 p1 p2 p3 p4 p5
theorem de{a0 a1 a2 a3 a4 a5 a6 d:E}(h:∀F:Env,E.B F a0=true->E.B F a1=true->E.B F a2=true->E.B F a3=true->E.B F a4=true->E.B F a5=true->E.B F a6=true->E.B F d=true):Tr (cv [a0,a1,a2,a3,a4,a5,a6] d):=fun F=>by
 show E.B F (.imp (.and a0 (.and a1 (.and a2 (.and a3 (.and a4 (.and a5 a6)))))) d)=true
 rw[cB]
 simp only[cH]
 rintro⟨p0,p1,p2,p3,p4,p5,p6⟩
 exact h F p0 p1 p2 p3 p4 p5 p6
theorem dw{a0 a1 a2 a3 a4 a5 a6 a7 d:E}(h:∀F:Env,E.B F a0=true->E.B F a1=true->E.B F a2=true->E.B F a3=true->E.B F a4=true->E.B F a5=true->E.B F a6=true->E.B F a7=true->E.B F d=true):Tr (cv [a0,a1,a2,a3,a4,a5,a6,a7] d):=fun F=>by
 show E.B F (.imp (.and a0 (.and a1 (.and a2 (.and a3 (.and a4 (.and a5 (.and a6 a7))))))) d)=true
 rw[cB]
 simp only[cH]
 rintro⟨p0,p1,p2,p3,p4,p5,p6,p7⟩
 exact h F p0 p1 p2 p3 p4 p5 p6 p7
theorem eB{a0 a1 a2 a3 a4 a5 a6 a7 a8 d:E}(h:∀F:Env,E.B F a0=true->E.B F a1=true->E.B F a2=true->E.B F a3=true->E.B F a4=true->E.B F a5=true->E.B F a6=true->E.B F a7=true->E.B F a8=true->E.B F d=true):Tr (cv [a0,a1,a2,a3,a4,a5,a6,a7,a8] d):=fun F=>by
 show E.B F (.imp (.and a0 (.and a1 (.and a2 (.and a3 (.and a4 (.and a5 (.and a6 (.and a7 a8)))))))) d)=true
 rw[cB]
 simp only[cH]
 rintro⟨p0,p1,p2,p3,p4,p5,p6,p7,p8⟩
 exact h F p0 p1 p2 p3 p4 p5 p6 p7 p8
theorem iD{a0 a1 a2 a3 a4 a5 a6 a7 a8 a9 d:E}(h:∀F:Env,E.B F a0=true->E.B F a1=true->E.B F a2=true->E.B F a3=true->E.B F a4=true->E.B F a5=true->E.B F a6=true->E.B F a7=true->E.B F a8=true->E.B F a9=true->E.B F d=true):Tr (cv [a0,a1,a2,a3,a4,a5,a6,a7,a8,a9] d):=fun F=>by
 show E.B F (.imp (.and a0 (.and a1 (.and a2 (.and a3 (.and a4 (.and a5 (.and a6 (.and a7 (.and a8 a9))))))))) d)=true
 rw[cB]
 simp only[cH]
 rintro⟨p0,p1,p2,p3,p4,p5,p6,p7,p8,p9⟩
 exact h F p0 p1 p2 p3 p4 p5 p6 p7 p8 p9
theorem iu{a0 a1 a2 a3 a4 a5 a6 a7 a8 a9 a10 d:E}(h:∀F:Env,E.B F a0=true->E.B F a1=true->E.B F a2=true->E.B F a3=true->E.B F a4=true->E.B F a5=true->E.B F a6=true->E.B F a7=true->E.B F a8=true->E.B F a9=true->E.B F a10=true->E.B F d=true):Tr (cv [a0,a1,a2,a3,a4,a5,a6,a7,a8,a9,a10] d):=fun F=>by
 show E.B F (.imp (.and a0 (.and a1 (.and a2 (.and a3 (.and a4 (.and a5 (.and a6 (.and a7 (.and a8 (.and a9 a10)))))))))) d)=true
 rw[cB]
 simp only[cH]
 rintro⟨p0,p1,p2,p3,p4,p5,p6,p7,p8,p9,aj⟩
 exact h F p0 p1 p2 p3 p4 p5 p6 p7 p8 p9 aj
theorem lf{a0 a1 a2 a3 a4 a5 a6 a7 a8 a9 a10 a11 d:E}(h:∀F:Env,E.B F a0=true->E.B F a1=true->E.B F a2=true->E.B F a3=true->E.B F a4=true->E.B F a5=true->E.B F a6=true->E.B F a7=true->E.B F a8=true->E.B F a9=true->E.B F a10=true->E.B F a11=true->E.B F d=true):Tr (cv [a0,a1,a2,a3,a4,a5,a6,a7,a8,a9,a10,a11] d):=fun F=>by
 show E.B F (.imp (.and a0 (.and a1 (.and a2 (.and a3 (.and a4 (.and a5 (.and a6 (.and a7 (.and a8 (.and a9 (.and a10 a11))))))))))) d)=true
 rw[cB]
 simp only[cH]
 rintro⟨p0,p1,p2,p3,p4,p5,p6,p7,p8,p9,aj,ak⟩
 exact h F p0 p1 p2 p3 p4 p5 p6 p7 p8 p9 aj ak
theorem iN{a0 a1 a2 a3 a4 a5 a6 a7 a8 a9 a10 a11 a12 d:E}(h:∀F:Env,E.B F a0=true->E.B F a1=true->E.B F a2=true->E.B F a3=true->E.B F a4=true->E.B F a5=true->E.B F a6=true->E.B F a7=true->E.B F a8=true->E.B F a9=true->E.B F a10=true->E.B F a11=true->E.B F a12=true->E.B F d=true):Tr (cv [a0,a1,a2,a3,a4,a5,a6,a7,a8,a9,a10,a11,a12] d):=fun F=>by
 show E.B F (.imp (.and a0 (.and a1 (.and a2 (.and a3 (.and a4 (.and a5 (.and a6 (.and a7 (.and a8 (.and a9 (.and a10 (.and a11 a12)))))))))))) d)=true
 rw[cB]
 simp only[cH]
 rintro⟨p0,p1,p2,p3,p4,p5,p6,p7,p8,p9,aj,ak,ao⟩
 exact h F p0 p1 p2 p3 p4 p5 p6 p7 p8 p9 aj ak ao
theorem rX{a0 a1 a2 a3 a4 a5 a6 a7 a8 a9 a10 a11 a12 a13 d:E}(h:∀F:Env,E.B F a0=true->E.B F a1=true->E.B F a2=true->E.B F a3=true->E.B F a4=true->E.B F a5=true->E.B F a6=true->E.B F a7=true->E.B F a8=true->E.B F a9=true->E.B F a10=true->E.B F a11=true->E.B F a12=true->E.B F a13=true->E.B F d=true):Tr (cv [a0,a1,a2,a3,a4,a5,a6,a7,a8,a9,a10,a11,a12,a13] d):=fun F=>by
 show E.B F (.imp (.and a0 (.and a1 (.and a2 (.and a3 (.and a4 (.and a5 (.and a6 (.and a7 (.and a8 (.and a9 (.and a10 (.and a11 (.and a12 a13))))))))))))) d)=true
 rw[cB]
 simp only[cH]
 rintro⟨p0,p1,p2,p3,p4,p5,p6,p7,p8,p9,aj,ak,ao,aq⟩
 exact h F p0 p1 p2 p3 p4 p5 p6 p7 p8 p9 aj ak ao aq
theorem yW{a0 a1 a2 a3 a4 a5 a6 a7 a8 a9 a10 a11 a12 a13 a14 d:E}(h:∀F:Env,E.B F a0=true->E.B F a1=true->E.B F a2=true->E.B F a3=true->E.B F a4=true->E.B F a5=true->E.B F a6=true->E.B F a7=true->E.B F a8=true->E.B F a9=true->E.B F a10=true->E.B F a11=true->E.B F a12=true->E.B F a13=true->E.B F a14=true->E.B F d=true):Tr (cv [a0,a1,a2,a3,a4,a5,a6,a7,a8,a9,a10,a11,a12,a13,a14] d):=fun F=>by
 show E.B F (.imp (.and a0 (.and a1 (.and a2 (.and a3 (.and a4 (.and a5 (.and a6 (.and a7 (.and a8 (.and a9 (.and a10 (.and a11 (.and a12 (.and a13 a14)))))))))))))) d)=true
 rw[cB]
 simp only[cH]
 rintro⟨p0,p1,p2,p3,p4,p5,p6,p7,p8,p9,aj,ak,ao,aq,av⟩
 exact h F p0 p1 p2 p3 p4 p5 p6 p7 p8 p9 aj ak ao aq av
theorem nO{a0 a1 a2 a3 a4 a5 a6 a7 a8 a9 a10 a11 a12 a13 a14 a15 d:E}(h:∀F:Env,E.B F a0=true->E.B F a1=true->E.B F a2=true->E.B F a3=true->E.B F a4=true->E.B F a5=true->E.B F a6=true->E.B F a7=true->E.B F a8=true->E.B F a9=true->E.B F a10=true->E.B F a11=true->E.B F a12=true->E.B F a13=true->E.B F a14=true->E.B F a15=true->E.B F d=true):Tr (cv [a0,a1,a2,a3,a4,a5,a6,a7,a8,a9,a10,a11,a12,a13,a14,a15] d):=fun F=>by
 show E.B F (.imp (.and a0 (.and a1 (.and a2 (.and a3 (.and a4 (.and a5 (.and a6 (.and a7 (.and a8 (.and a9 (.and a10 (.and a11 (.and a12 (.and a13 (.and a14 a15))))))))))))))) d)=true
 rw[cB]
 simp only[cH]
 rintro⟨p0,p1,p2,p3,p4,p5,p6,p7,p8,p9,aj,ak,ao,aq,av,az⟩
 exact h F p0 p1 p2 p3 p4 p5 p6 p7 p8 p9 aj ak ao aq av az
theorem ED{a0 a1 a2 a3 a4 a5 a6 a7 a8 a9 a10 a11 a12 a13 a14 a15 a16 d:E}(h:∀F:Env,E.B F a0=true->E.B F a1=true->E.B F a2=true->E.B F a3=true->E.B F a4=true->E.B F a5=true->E.B F a6=true->E.B F a7=true->E.B F a8=true->E.B F a9=true->E.B F a10=true->E.B F a11=true->E.B F a12=true->E.B F a13=true->E.B F a14=true->E.B F a15=true->E.B F a16=true->E.B F d=true):Tr (cv [a0,a1,a2,a3,a4,a5,a6,a7,a8,a9,a10,a11,a12,a13,a14,a15,a16] d):=fun F=>by
 show E.B F (.imp (.and a0 (.and a1 (.and a2 (.and a3 (.and a4 (.and a5 (.and a6 (.and a7 (.and a8 (.and a9 (.and a10 (.and a11 (.and a12 (.and a13 (.and a14 (.and a15 a16)))))))))))))))) d)=true
 rw[cB]
 simp only[cH]
 rintro⟨p0,p1,p2,p3,p4,p5,p6,p7,p8,p9,aj,ak,ao,aq,av,az,aG⟩
 exact h F p0 p1 p2 p3 p4 p5 p6 p7 p8 p9 aj ak ao aq av az aG
theorem yR{a0 a1 a2 a3 a4 a5 a6 a7 a8 a9 a10 a11 a12 a13 a14 a15 a16 a17 d:E}(h:∀F:Env,E.B F a0=true->E.B F a1=true->E.B F a2=true->E.B F a3=true->E.B F a4=true->E.B F a5=true->E.B F a6=true->E.B F a7=true->E.B F a8=true->E.B F a9=true->E.B F a10=true->E.B F a11=true->E.B F a12=true->E.B F a13=true->E.B F a14=true->E.B F a15=true->E.B F a16=true->E.B F a17=true->E.B F d=true):Tr (cv [a0,a1,a2,a3,a4,a5,a6,a7,a8,a9,a10,a11,a12,a13,a14,a15,a16,a17] d):=fun F=>by
 show E.B F (.imp (.and a0 (.and a1 (.and a2 (.and a3 (.and a4 (.and a5 (.and a6 (.and a7 (.and a8 (.and a9 (.and a10 (.and a11 (.and a12 (.and a13 (.and a14 (.and a15 (.and a16 a17))))))))))))))))) d)=true
 rw[cB]
 simp only[cH]
 rintro⟨p0,p1,p2,p3,p4,p5,p6,p7,p8,p9,aj,ak,ao,aq,av,az,aG,ap⟩
 exact h F p0 p1 p2 p3 p4 p5 p6 p7 p8 p9 aj ak ao aq av az aG ap
theorem Ee{a0 a1 a2 a3 a4 a5 a6 a7 a8 a9 a10 a11 a12 a13 a14 a15 a16 a17 a18 d:E}(h:∀F:Env,E.B F a0=true->E.B F a1=true->E.B F a2=true->E.B F a3=true->E.B F a4=true->E.B F a5=true->E.B F a6=true->E.B F a7=true->E.B F a8=true->E.B F a9=true->E.B F a10=true->E.B F a11=true->E.B F a12=true->E.B F a13=true->E.B F a14=true->E.B F a15=true->E.B F a16=true->E.B F a17=true->E.B F a18=true->E.B F d=true):Tr (cv [a0,a1,a2,a3,a4,a5,a6,a7,a8,a9,a10,a11,a12,a13,a14,a15,a16,a17,a18] d):=fun F=>by
 show E.B F (.imp (.and a0 (.and a1 (.and a2 (.and a3 (.and a4 (.and a5 (.and a6 (.and a7 (.and a8 (.and a9 (.and a10 (.and a11 (.and a12 (.and a13 (.and a14 (.and a15 (.and a16 (.and a17 a18)))))))))))))))))) d)=true
 rw[cB]
 simp only[cH]
 rintro⟨p0,p1,p2,p3,p4,p5,p6,p7,p8,p9,aj,ak,ao,aq,av,az,aG,ap,au⟩
 exact h F p0 p1 p2 p3 p4 p5 p6 p7 p8 p9 aj ak ao aq av az aG ap au
theorem S8{a0 a1 a2 a3 a4 a5 a6 a7 a8 a9 a10 a11 a12 a13 a14 a15 a16 a17 a18 a19 d:E}(h:∀F:Env,E.B F a0=true->E.B F a1=true->E.B F a2=true->E.B F a3=true->E.B F a4=true->E.B F a5=true->E.B F a6=true->E.B F a7=true->E.B F a8=true->E.B F a9=true->E.B F a10=true->E.B F a11=true->E.B F a12=true->E.B F a13=true->E.B F a14=true->E.B F a15=true->E.B F a16=true->E.B F a17=true->E.B F a18=true->E.B F a19=true->E.B F d=true):Tr (cv [a0,a1,a2,a3,a4,a5,a6,a7,a8,a9,a10,a11,a12,a13,a14,a15,a16,a17,a18,a19] d):=fun F=>by
 show E.B F (.imp (.and a0 (.and a1 (.and a2 (.and a3 (.and a4 (.and a5 (.and a6 (.and a7 (.and a8 (.and a9 (.and a10 (.and a11 (.and a12 (.and a13 (.and a14 (.and a15 (.and a16 (.and a17 (.and a18 a19))))))))))))))))))) d)=true
 rw[cB]
 simp only[cH]
 rintro⟨p0,p1,p2,p3,p4,p5,p6,p7,p8,p9,aj,ak,ao,aq,av,az,aG,ap,au,aF⟩
 exact h F p0 p1 p2 p3 p4 p5 p6 p7 p8 p9 aj ak ao aq av az aG ap au aF
theorem agP{a0 a1 a2 a3 a4 a5 a6 a7 a8 a9 a10 a11 a12 a13 a14 a15 a16 a17 a18 a19 a20 d:E}(h:∀F:Env,E.B F a0=true->E.B F a1=true->E.B F a2=true->E.B F a3=true->E.B F a4=true->E.B F a5=true->E.B F a6=true->E.B F a7=true->E.B F a8=true->E.B F a9=true->E.B F a10=true->E.B F a11=true->E.B F a12=true->E.B F a13=true->E.B F a14=true->E.B F a15=true->E.B F a16=true->E.B F a17=true->E.B F a18=true->E.B F a19=true->E.B F a20=true->E.B F d=true):Tr (cv [a0,a1,a2,a3,a4,a5,a6,a7,a8,a9,a10,a11,a12,a13,a14,a15,a16,a17,a18,a19,a20] d):=fun F=>by
 show E.B F (.imp (.and a0 (.and a1 (.and a2 (.and a3 (.and a4 (.and a5 (.and a6 (.and a7 (.and a8 (.and a9 (.and a10 (.and a11 (.and a12 (.and a13 (.and a14 (.and a15 (.and a16 (.and a17 (.and a18 (.and a19 a20)))))))))))))))))))) d)=true
 rw[cB]
 simp only[cH]
 rintro⟨p0,p1,p2,p3,p4,p5,p6,p7,p8,p9,aj,ak,ao,aq,av,az,aG,ap,au,aF,aL⟩
 exact h F p0 p1 p2 p3 p4 p5 p6 p7 p8 p9 aj ak ao aq av az aG ap au aF aL
theorem aAH{a0 a1 a2 a3 a4 a5 a6 a7 a8 a9 a10 a11 a12 a13 a14 a15 a16 a17 a18 a19 a20 a21 d:E}(h:∀F:Env,E.B F a0=true->E.B F a1=true->E.B F a2=true->E.B F a3=true->E.B F a4=true->E.B F a5=true->E.B F a6=true->E.B F a7=true->E.B F a8=true->E.B F a9=true->E.B F a10=true->E.B F a11=true->E.B F a12=true->E.B F a13=true->E.B F a14=true->E.B F a15=true->E.B F a16=true->E.B F a17=true->E.B F a18=true->E.B F a19=true->E.B F a20=true->E.B F a21=true->E.B F d=true):Tr (cv [a0,a1,a2,a3,a4,a5,a6,a7,a8,a9,a10,a11,a12,a13,a14,a15,a16,a17,a18,a19,a20,a21] d):=fun F=>by
 show E.B F (.imp (.and a0 (.and a1 (.and a2 (.and a3 (.and a4 (.and a5 (.and a6 (.and a7 (.and a8 (.and a9 (.and a10 (.and a11 (.and a12 (.and a13 (.and a14 (.and a15 (.and a16 (.and a17 (.and a18 (.and a19 (.and a20 a21))))))))))))))))))))) d)=true
 rw[cB]
 simp only[cH]
 rintro⟨p0,p1,p2,p3,p4,p5,p6,p7,p8,p9,aj,ak,ao,aq,av,az,aG,ap,au,aF,aL,aD⟩
 exact h F p0 p1 p2 p3 p4 p5 p6 p7 p8 p9 aj ak ao aq av az aG ap au aF aL aD
theorem aFy{a0 a1 a2 a3 a4 a5 a6 a7 a8 a9 a10 a11 a12 a13 a14 a15 a16 a17 a18 a19 a20 a21 a22 d:E}(h:∀F:Env,E.B F a0=true->E.B F a1=true->E.B F a2=true->E.B F a3=true->E.B F a4=true->E.B F a5=true->E.B F a6=true->E.B F a7=true->E.B F a8=true->E.B F a9=true->E.B F a10=true->E.B F a11=true->E.B F a12=true->E.B F a13=true->E.B F a14=true->E.B F a15=true->E.B F a16=true->E.B F a17=true->E.B F a18=true->E.B F a19=true->E.B F a20=true->E.B F a21=true->E.B F a22=true->E.B F d=true):Tr (cv [a0,a1,a2,a3,a4,a5,a6,a7,a8,a9,a10,a11,a12,a13,a14,a15,a16,a17,a18,a19,a20,a21,a22] d):=fun F=>by
 show E.B F (.imp (.and a0 (.and a1 (.and a2 (.and a3 (.and a4 (.and a5 (.and a6 (.and a7 (.and a8 (.and a9 (.and a10 (.and a11 (.and a12 (.and a13 (.and a14 (.and a15 (.and a16 (.and a17 (.and a18 (.and a19 (.and a20 (.and a21 a22)))))))))))))))))))))) d)=true
 rw[cB]
 simp only[cH]
 rintro⟨p0,p1,p2,p3,p4,p5,p6,p7,p8,p9,aj,ak,ao,aq,av,az,aG,ap,au,aF,aL,aD,aE⟩
 exact h F p0 p1 p2 p3 p4 p5 p6 p7 p8 p9 aj ak ao aq av az aG ap au aF aL aD aE
theorem Oe{a0 a1 a2 a3 a4 a5 a6 a7 a8 a9 a10 a11 a12 a13 a14 a15 a16 a17 a18 a19 a20 a21 a22 a23 d:E}(h:∀F:Env,E.B F a0=true->E.B F a1=true->E.B F a2=true->E.B F a3=true->E.B F a4=true->E.B F a5=true->E.B F a6=true->E.B F a7=true->E.B F a8=true->E.B F a9=true->E.B F a10=true->E.B F a11=true->E.B F a12=true->E.B F a13=true->E.B F a14=true->E.B F a15=true->E.B F a16=true->E.B F a17=true->E.B F a18=true->E.B F a19=true->E.B F a20=true->E.B F a21=true->E.B F a22=true->E.B F a23=true->E.B F d=true):Tr (cv [a0,a1,a2,a3,a4,a5,a6,a7,a8,a9,a10,a11,a12,a13,a14,a15,a16,a17,a18,a19,a20,a21,a22,a23] d):=fun F=>by
 show E.B F (.imp (.and a0 (.and a1 (.and a2 (.and a3 (.and a4 (.and a5 (.and a6 (.and a7 (.and a8 (.and a9 (.and a10 (.and a11 (.and a12 (.and a13 (.and a14 (.and a15 (.and a16 (.and a17 (.and a18 (.and a19 (.and a20 (.and a21 (.and a22 a23))))))))))))))))))))))) d)=true
 rw[cB]
 simp only[cH]
 rintro⟨p0,p1,p2,p3,p4,p5,p6,p7,p8,p9,aj,ak,ao,aq,av,az,aG,ap,au,aF,aL,aD,aE,aO⟩
 exact h F p0 p1 p2 p3 p4 p5 p6 p7 p8 p9 aj ak ao aq av az aG ap au aF aL aD aE aO
theorem Lz{a0 a1 a2 a3 a4 a5 a6 a7 a8 a9 a10 a11 a12 a13 a14 a15 a16 a17 a18 a19 a20 a21 a22 a23 a24 d:E}(h:∀F:Env,E.B F a0=true->E.B F a1=true->E.B F a2=true->E.B F a3=true->E.B F a4=true->E.B F a5=true->E.B F a6=true->E.B F a7=true->E.B F a8=true->E.B F a9=true->E.B F a10=true->E.B F a11=true->E.B F a12=true->E.B F a13=true->E.B F a14=true->E.B F a15=true->E.B F a16=true->E.B F a17=true->E.B F a18=true->E.B F a19=true->E.B F a20=true->E.B F a21=true->E.B F a22=true->E.B F a23=true->E.B F a24=true->E.B F d=true):Tr (cv [a0,a1,a2,a3,a4,a5,a6,a7,a8,a9,a10,a11,a12,a13,a14,a15,a16,a17,a18,a19,a20,a21,a22,a23,a24] d):=fun F=>by
 show E.B F (.imp (.and a0 (.and a1 (.and a2 (.and a3 (.and a4 (.and a5 (.and a6 (.and a7 (.and a8 (.and a9 (.and a10 (.and a11 (.and a12 (.and a13 (.and a14 (.and a15 (.and a16 (.and a17 (.and a18 (.and a19 (.and a20 (.and a21 (.and a22 (.and a23 a24)))))))))))))))))))))))) d)=true
 rw[cB]
 simp only[cH]
 rintro⟨p0,p1,p2,p3,p4,p5,p6,p7,p8,p9,aj,ak,ao,aq,av,az,aG,ap,au,aF,aL,aD,aE,aO,aQ⟩
 exact h F p0 p1 p2 p3 p4 p5 p6 p7 p8 p9 aj ak ao aq av az aG ap au aF aL aD aE aO aQ
theorem Ev{a0 a1 a2 a3 a4 a5 a6 a7 a8 a9 a10 a11 a12 a13 a14 a15 a16 a17 a18 a19 a20 a21 a22 a23 a24 a25 d:E}(h:∀F:Env,E.B F a0=true->E.B F a1=true->E.B F a2=true->E.B F a3=true->E.B F a4=true->E.B F a5=true->E.B F a6=true->E.B F a7=true->E.B F a8=true->E.B F a9=true->E.B F a10=true->E.B F a11=true->E.B F a12=true->E.B F a13=true->E.B F a14=true->E.B F a15=true->E.B F a16=true->E.B F a17=true->E.B F a18=true->E.B F a19=true->E.B F a20=true->E.B F a21=true->E.B F a22=true->E.B F a23=true->E.B F a24=true->E.B F a25=true->E.B F d=true):Tr (cv [a0,a1,a2,a3,a4,a5,a6,a7,a8,a9,a10,a11,a12,a13,a14,a15,a16,a17,a18,a19,a20,a21,a22,a23,a24,a25] d):=fun F=>by
 show E.B F (.imp (.and a0 (.and a1 (.and a2 (.and a3 (.and a4 (.and a5 (.and a6 (.and a7 (.and a8 (.and a9 (.and a10 (.and a11 (.and a12 (.and a13 (.and a14 (.and a15 (.and a16 (.and a17 (.and a18 (.and a19 (.and a20 (.and a21 (.and a22 (.and a23 (.and a24 a25))))))))))))))))))))))))) d)=true
 rw[cB]
 simp only[cH]
 rintro⟨p0,p1,p2,p3,p4,p5,p6,p7,p8,p9,aj,ak,ao,aq,av,az,aG,ap,au,aF,aL,aD,aE,aO,aQ,aV⟩
 exact h F p0 p1 p2 p3 p4 p5 p6 p7 p8 p9 aj ak ao aq av az aG ap au aF aL aD aE aO aQ aV
theorem vC{a0 a1 a2 a3 a4 a5 a6 a7 a8 a9 a10 a11 a12 a13 a14 a15 a16 a17 a18 a19 a20 a21 a22 a23 a24 a25 a26 d:E}(h:∀F:Env,E.B F a0=true->E.B F a1=true->E.B F a2=true->E.B F a3=true->E.B F a4=true->E.B F a5=true->E.B F a6=true->E.B F a7=true->E.B F a8=true->E.B F a9=true->E.B F a10=true->E.B F a11=true->E.B F a12=true->E.B F a13=true->E.B F a14=true->E.B F a15=true->E.B F a16=true->E.B F a17=true->E.B F a18=true->E.B F a19=true->E.B F a20=true->E.B F a21=true->E.B F a22=true->E.B F a23=true->E.B F a24=true->E.B F a25=true->E.B F a26=true->E.B F d=true):Tr (cv [a0,a1,a2,a3,a4,a5,a6,a7,a8,a9,a10,a11,a12,a13,a14,a15,a16,a17,a18,a19,a20,a21,a22,a23,a24,a25,a26] d):=fun F=>by
 show E.B F (.imp (.and a0 (.and a1 (.and a2 (.and a3 (.and a4 (.and a5 (.and a6 (.and a7 (.and a8 (.and a9 (.and a10 (.and a11 (.and a12 (.and a13 (.and a14 (.and a15 (.and a16 (.and a17 (.and a18 (.and a19 (.and a20 (.and a21 (.and a22 (.and a23 (.and a24 (.and a25 a26)))))))))))))))))))))))))) d)=true
 rw[cB]
 simp only[cH]
 rintro⟨p0,p1,p2,p3,p4,p5,p6,p7,p8,p9,aj,ak,ao,aq,av,az,aG,ap,au,aF,aL,aD,aE,aO,aQ,aV,bb⟩
 exact h F p0 p1 p2 p3 p4 p5 p6 p7 p8 p9 aj ak ao aq av az aG ap au aF aL aD aE aO aQ aV bb
theorem zq{a0 a1 a2 a3 a4 a5 a6 a7 a8 a9 a10 a11 a12 a13 a14 a15 a16 a17 a18 a19 a20 a21 a22 a23 a24 a25 a26 a27 d:E}(h:∀F:Env,E.B F a0=true->E.B F a1=true->E.B F a2=true->E.B F a3=true->E.B F a4=true->E.B F a5=true->E.B F a6=true->E.B F a7=true->E.B F a8=true->E.B F a9=true->E.B F a10=true->E.B F a11=true->E.B F a12=true->E.B F a13=true->E.B F a14=true->E.B F a15=true->E.B F a16=true->E.B F a17=true->E.B F a18=true->E.B F a19=true->E.B F a20=true->E.B F a21=true->E.B F a22=true->E.B F a23=true->E.B F a24=true->E.B F a25=true->E.B F a26=true->E.B F a27=true->E.B F d=true):Tr (cv [a0,a1,a2,a3,a4,a5,a6,a7,a8,a9,a10,a11,a12,a13,a14,a15,a16,a17,a18,a19,a20,a21,a22,a23,a24,a25,a26,a27] d):=fun F=>by
 show E.B F (.imp (.and a0 (.and a1 (.and a2 (.and a3 (.and a4 (.and a5 (.and a6 (.and a7 (.and a8 (.and a9 (.and a10 (.and a11 (.and a12 (.and a13 (.and a14 (.and a15 (.and a16 (.and a17 (.and a18 (.and a19 (.and a20 (.and a21 (.and a22 (.and a23 (.and a24 (.and a25 (.and a26 a27))))))))))))))))))))))))))) d)=true
 rw[cB]
 simp only[cH]
 rintro⟨p0,p1,p2,p3,p4,p5,p6,p7,p8,p9,aj,ak,ao,aq,av,az,aG,ap,au,aF,aL,aD,aE,aO,aQ,aV,bb,bp⟩
 exact h F p0 p1 p2 p3 p4 p5 p6 p7 p8 p9 aj ak ao aq av az aG ap au aF aL aD aE aO aQ aV bb bp
theorem MO{a0 a1 a2 a3 a4 a5 a6 a7 a8 a9 a10 a11 a12 a13 a14 a15 a16 a17 a18 a19 a20 a21 a22 a23 a24 a25 a26 a27 a28 d:E}(h:∀F:Env,E.B F a0=true->E.B F a1=true->E.B F a2=true->E.B F a3=true->E.B F a4=true->E.B F a5=true->E.B F a6=true->E.B F a7=true->E.B F a8=true->E.B F a9=true->E.B F a10=true->E.B F a11=true->E.B F a12=true->E.B F a13=true->E.B F a14=true->E.B F a15=true->E.B F a16=true->E.B F a17=true->E.B F a18=true->E.B F a19=true->E.B F a20=true->E.B F a21=true->E.B F a22=true->E.B F a23=true->E.B F a24=true->E.B F a25=true->E.B F a26=true->E.B F a27=true->E.B F a28=true->E.B F d=true):Tr (cv [a0,a1,a2,a3,a4,a5,a6,a7,a8,a9,a10,a11,a12,a13,a14,a15,a16,a17,a18,a19,a20,a21,a22,a23,a24,a25,a26,a27,a28] d):=fun F=>by
 show E.B F (.imp (.and a0 (.and a1 (.and a2 (.and a3 (.and a4 (.and a5 (.and a6 (.and a7 (.and a8 (.and a9 (.and a10 (.and a11 (.and a12 (.and a13 (.and a14 (.and a15 (.and a16 (.and a17 (.and a18 (.and a19 (.and a20 (.and a21 (.and a22 (.and a23 (.and a24 (.and a25 (.and a26 (.and a27 a28)))))))))))))))))))))))))))) d)=true
 rw[cB]
 simp only[cH]
 rintro⟨p0,p1,p2,p3,p4,p5,p6,p7,p8,p9,aj,ak,ao,aq,av,az,aG,ap,au,aF,aL,aD,aE,aO,aQ,aV,bb,bp,bD⟩
 exact h F p0 p1 p2 p3 p4 p5 p6 p7 p8 p9 aj ak ao aq av az aG ap au aF aL aD aE aO aQ aV bb bp bD
theorem aDS{a0 a1 a2 a3 a4 a5 a6 a7 a8 a9 a10 a11 a12 a13 a14 a15 a16 a17 a18 a19 a20 a21 a22 a23 a24 a25 a26 a27 a28 a29 d:E}(h:∀F:Env,E.B F a0=true->E.B F a1=true->E.B F a2=true->E.B F a3=true->E.B F a4=true->E.B F a5=true->E.B F a6=true->E.B F a7=true->E.B F a8=true->E.B F a9=true->E.B F a10=true->E.B F a11=true->E.B F a12=true->E.B F a13=true->E.B F a14=true->E.B F a15=true->E.B F a16=true->E.B F a17=true->E.B F a18=true->E.B F a19=true->E.B F a20=true->E.B F a21=true->E.B F a22=true->E.B F a23=true->E.B F a24=true->E.B F a25=true->E.B F a26=true->E.B F a27=true->E.B F a28=true->E.B F a29=true->E.B F d=true):Tr (cv [a0,a1,a2,a3,a4,a5,a6,a7,a8,a9,a10,a11,a12,a13,a14,a15,a16,a17,a18,a19,a20,a21,a22,a23,a24,a25,a26,a27,a28,a29] d):=fun F=>by
 show E.B F (.imp (.and a0 (.and a1 (.and a2 (.and a3 (.and a4 (.and a5 (.and a6 (.and a7 (.and a8 (.and a9 (.and a10 (.and a11 (.and a12 (.and a13 (.and a14 (.and a15 (.and a16 (.and a17 (.and a18 (.and a19 (.and a20 (.and a21 (.and a22 (.and a23 (.and a24 (.and a25 (.and a26 (.and a27 (.and a28 a29))))))))))))))))))))))))))))) d)=true
 rw[cB]
 simp only[cH]
 rintro⟨p0,p1,p2,p3,p4,p5,p6,p7,p8,p9,aj,ak,ao,aq,av,az,aG,ap,au,aF,aL,aD,aE,aO,aQ,aV,bb,bp,bD,bL⟩
 exact h F p0 p1 p2 p3 p4 p5 p6 p7 p8 p9 aj ak ao aq av az aG ap au aF aL aD aE aO aQ aV bb bp bD bL
theorem yK{a0 a1 a2 a3 a4 a5 a6 a7 a8 a9 a10 a11 a12 a13 a14 a15 a16 a17 a18 a19 a20 a21 a22 a23 a24 a25 a26 a27 a28 a29 a30 d:E}(h:∀F:Env,E.B F a0=true->E.B F a1=true->E.B F a2=true->E.B F a3=true->E.B F a4=true->E.B F a5=true->E.B F a6=true->E.B F a7=true->E.B F a8=true->E.B F a9=true->E.B F a10=true->E.B F a11=true->E.B F a12=true->E.B F a13=true->E.B F a14=true->E.B F a15=true->E.B F a16=true->E.B F a17=true->E.B F a18=true->E.B F a19=true->E.B F a20=true->E.B F a21=true->E.B F a22=true->E.B F a23=true->E.B F a24=true->E.B F a25=true->E.B F a26=true->E.B F a27=true->E.B F a28=true->E.B F a29=true->E.B F a30=true->E.B F d=true):Tr (cv [a0,a1,a2,a3,a4,a5,a6,a7,a8,a9,a10,a11,a12,a13,a14,a15,a16,a17,a18,a19,a20,a21,a22,a23,a24,a25,a26,a27,a28,a29,a30] d):=fun F=>by
 show E.B F (.imp (.and a0 (.and a1 (.and a2 (.and a3 (.and a4 (.and a5 (.and a6 (.and a7 (.and a8 (.and a9 (.and a10 (.and a11 (.and a12 (.and a13 (.and a14 (.and a15 (.and a16 (.and a17 (.and a18 (.and a19 (.and a20 (.and a21 (.and a22 (.and a23 (.and a24 (.and a25 (.and a26 (.and a27 (.and a28 (.and a29 a30)))))))))))))))))))))))))))))) d)=true
 rw[cB]
 simp only[cH]
 rintro⟨p0,p1,p2,p3,p4,p5,p6,p7,p8,p9,aj,ak,ao,aq,av,az,aG,ap,au,aF,aL,aD,aE,aO,aQ,aV,bb,bp,bD,bL,bO⟩
 exact h F p0 p1 p2 p3 p4 p5 p6 p7 p8 p9 aj ak ao aq av az aG ap au aF aL aD aE aO aQ aV bb bp bD bL bO
theorem u6{a0 a1 a2 a3 a4 a5 a6 a7 a8 a9 a10 a11 a12 a13 a14 a15 a16 a17 a18 a19 a20 a21 a22 a23 a24 a25 a26 a27 a28 a29 a30 a31 d:E}(h:∀F:Env,E.B F a0=true->E.B F a1=true->E.B F a2=true->E.B F a3=true->E.B F a4=true->E.B F a5=true->E.B F a6=true->E.B F a7=true->E.B F a8=true->E.B F a9=true->E.B F a10=true->E.B F a11=true->E.B F a12=true->E.B F a13=true->E.B F a14=true->E.B F a15=true->E.B F a16=true->E.B F a17=true->E.B F a18=true->E.B F a19=true->E.B F a20=true->E.B F a21=true->E.B F a22=true->E.B F a23=true->E.B F a24=true->E.B F a25=true->E.B F a26=true->E.B F a27=true->E.B F a28=true->E.B F a29=true->E.B F a30=true->E.B F a31=true->E.B F d=true):Tr (cv [a0,a1,a2,a3,a4,a5,a6,a7,a8,a9,a10,a11,a12,a13,a14,a15,a16,a17,a18,a19,a20,a21,a22,a23,a24,a25,a26,a27,a28,a29,a30,a31] d):=fun F=>by
 show E.B F (.imp (.and a0 (.and a1 (.and a2 (.and a3 (.and a4 (.and a5 (.and a6 (.and a7 (.and a8 (.and a9 (.and a10 (.and a11 (.and a12 (.and a13 (.and a14 (.and a15 (.and a16 (.and a17 (.and a18 (.and a19 (.and a20 (.and a21 (.and a22 (.and a23 (.and a24 (.and a25 (.and a26 (.and a27 (.and a28 (.and a29 (.and a30 a31))))))))))))))))))))))))))))))) d)=true
 rw[cB]
 simp only[cH]
 rintro⟨p0,p1,p2,p3,p4,p5,p6,p7,p8,p9,aj,ak,ao,aq,av,az,aG,ap,au,aF,aL,aD,aE,aO,aQ,aV,bb,bp,bD,bL,bO,ce⟩
 exact h F p0 p1 p2 p3 p4 p5 p6 p7 p8 p9 aj ak ao aq av az aG ap au aF aL aD aE aO aQ aV bb bp bD bL bO ce
theorem qt{a0 a1 a2 a3 a4 a5 a6 a7 a8 a9 a10 a11 a12 a13 a14 a15 a16 a17 a18 a19 a20 a21 a22 a23 a24 a25 a26 a27 a28 a29 a30 a31 a32 d:E}(h:∀F:Env,E.B F a0=true->E.B F a1=true->E.B F a2=true->E.B F a3=true->E.B F a4=true->E.B F a5=true->E.B F a6=true->E.B F a7=true->E.B F a8=true->E.B F a9=true->E.B F a10=true->E.B F a11=true->E.B F a12=true->E.B F a13=true->E.B F a14=true->E.B F a15=true->E.B F a16=true->E.B F a17=true->E.B F a18=true->E.B F a19=true->E.B F a20=true->E.B F a21=true->E.B F a22=true->E.B F a23=true->E.B F a24=true->E.B F a25=true->E.B F a26=true->E.B F a27=true->E.B F a28=true->E.B F a29=true->E.B F a30=true->E.B F a31=true->E.B F a32=true->E.B F d=true):Tr (cv [a0,a1,a2,a3,a4,a5,a6,a7,a8,a9,a10,a11,a12,a13,a14,a15,a16,a17,a18,a19,a20,a21,a22,a23,a24,a25,a26,a27,a28,a29,a30,a31,a32] d):=fun F=>by
 show E.B F (.imp (.and a0 (.and a1 (.and a2 (.and a3 (.and a4 (.and a5 (.and a6 (.and a7 (.and a8 (.and a9 (.and a10 (.and a11 (.and a12 (.and a13 (.and a14 (.and a15 (.and a16 (.and a17 (.and a18 (.and a19 (.and a20 (.and a21 (.and a22 (.and a23 (.and a24 (.and a25 (.and a26 (.and a27 (.and a28 (.and a29 (.and a30 (.and a31 a32)))))))))))))))))))))))))))))))) d)=true
 rw[cB]
 simp only[cH]
 rintro⟨p0,p1,p2,p3,p4,p5,p6,p7,p8,p9,aj,ak,ao,aq,av,az,aG,ap,au,aF,aL,aD,aE,aO,aQ,aV,bb,bp,bD,bL,bO,ce,df⟩
 exact h F p0 p1 p2 p3 p4 p5 p6 p7 p8 p9 aj ak ao aq av az aG ap au aF aL aD aE aO aQ aV bb bp bD bL bO ce df
theorem QL{a0 a1 a2 a3 a4 a5 a6 a7 a8 a9 a10 a11 a12 a13 a14 a15 a16 a17 a18 a19 a20 a21 a22 a23 a24 a25 a26 a27 a28 a29 a30 a31 a32 a33 d:E}(h:∀F:Env,E.B F a0=true->E.B F a1=true->E.B F a2=true->E.B F a3=true->E.B F a4=true->E.B F a5=true->E.B F a6=true->E.B F a7=true->E.B F a8=true->E.B F a9=true->E.B F a10=true->E.B F a11=true->E.B F a12=true->E.B F a13=true->E.B F a14=true->E.B F a15=true->E.B F a16=true->E.B F a17=true->E.B F a18=true->E.B F a19=true->E.B F a20=true->E.B F a21=true->E.B F a22=true->E.B F a23=true->E.B F a24=true->E.B F a25=true->E.B F a26=true->E.B F a27=true->E.B F a28=true->E.B F a29=true->E.B F a30=true->E.B F a31=true->E.B F a32=true->E.B F a33=true->E.B F d=true):Tr (cv [a0,a1,a2,a3,a4,a5,a6,a7,a8,a9,a10,a11,a12,a13,a14,a15,a16,a17,a18,a19,a20,a21,a22,a23,a24,a25,a26,a27,a28,a29,a30,a31,a32,a33] d):=fun F=>by
 show E.B F (.imp (.and a0 (.and a1 (.and a2 (.and a3 (.and a4 (.and a5 (.and a6 (.and a7 (.and a8 (.and a9 (.and a10 (.and a11 (.and a12 (.and a13 (.and a14 (.and a15 (.and a16 (.and a17 (.and a18 (.and a19 (.and a20 (.and a21 (.and a22 (.and a23 (.and a24 (.and a25 (.and a26 (.and a27 (.and a28 (.and a29 (.and a30 (.and a31 (.and a32 a33))))))))))))))))))))))))))))))))) d)=true
 rw[cB]
 simp only[cH]
 rintro⟨p0,p1,p2,p3,p4,p5,p6,p7,p8,p9,aj,ak,ao,aq,av,az,aG,ap,au,aF,aL,aD,aE,aO,aQ,aV,bb,bp,bD,bL,bO,ce,df,eJ⟩
 exact h F p0 p1 p2 p3 p4 p5 p6 p7 p8 p9 aj ak ao aq av az aG ap au aF aL aD aE aO aQ aV bb bp bD bL bO ce df eJ
theorem aB3{a0 a1 a2 a3 a4 a5 a6 a7 a8 a9 a10 a11 a12 a13 a14 a15 a16 a17 a18 a19 a20 a21 a22 a23 a24 a25 a26 a27 a28 a29 a30 a31 a32 a33 a34 d:E}(h:∀F:Env,E.B F a0=true->E.B F a1=true->E.B F a2=true->E.B F a3=true->E.B F a4=true->E.B F a5=true->E.B F a6=true->E.B F a7=true->E.B F a8=true->E.B F a9=true->E.B F a10=true->E.B F a11=true->E.B F a12=true->E.B F a13=true->E.B F a14=true->E.B F a15=true->E.B F a16=true->E.B F a17=true->E.B F a18=true->E.B F a19=true->E.B F a20=true->E.B F a21=true->E.B F a22=true->E.B F a23=true->E.B F a24=true->E.B F a25=true->E.B F a26=true->E.B F a27=true->E.B F a28=true->E.B F a29=true->E.B F a30=true->E.B F a31=true->E.B F a32=true->E.B F a33=true->E.B F a34=true->E.B F d=true):Tr (cv [a0,a1,a2,a3,a4,a5,a6,a7,a8,a9,a10,a11,a12,a13,a14,a15,a16,a17,a18,a19,a20,a21,a22,a23,a24,a25,a26,a27,a28,a29,a30,a31,a32,a33,a34] d):=fun F=>by
 show E.B F (.imp (.and a0 (.and a1 (.and a2 (.and a3 (.and a4 (.and a5 (.and a6 (.and a7 (.and a8 (.and a9 (.and a10 (.and a11 (.and a12 (.and a13 (.and a14 (.and a15 (.and a16 (.and a17 (.and a18 (.and a19 (.and a20 (.and a21 (.and a22 (.and a23 (.and a24 (.and a25 (.and a26 (.and a27 (.and a28 (.and a29 (.and a30 (.and a31 (.and a32 (.and a33 a34)))))))))))))))))))))))))))))))))) d)=true
 rw[cB]
 simp only[cH]
 rintro⟨p0,p1,p2,p3,p4,p5,p6,p7,p8,p9,aj,ak,ao,aq,av,az,aG,ap,au,aF,aL,aD,aE,aO,aQ,aV,bb,bp,bD,bL,bO,ce,df,eJ,fC⟩
 exact h F p0 p1 p2 p3 p4 p5 p6 p7 p8 p9 aj ak ao aq av az aG ap au aF aL aD aE aO aQ aV bb bp bD bL bO ce df eJ fC
theorem OD{a0 a1 a2 a3 a4 a5 a6 a7 a8 a9 a10 a11 a12 a13 a14 a15 a16 a17 a18 a19 a20 a21 a22 a23 a24 a25 a26 a27 a28 a29 a30 a31 a32 a33 a34 a35 d:E}(h:∀F:Env,E.B F a0=true->E.B F a1=true->E.B F a2=true->E.B F a3=true->E.B F a4=true->E.B F a5=true->E.B F a6=true->E.B F a7=true->E.B F a8=true->E.B F a9=true->E.B F a10=true->E.B F a11=true->E.B F a12=true->E.B F a13=true->E.B F a14=true->E.B F a15=true->E.B F a16=true->E.B F a17=true->E.B F a18=true->E.B F a19=true->E.B F a20=true->E.B F a21=true->E.B F a22=true->E.B F a23=true->E.B F a24=true->E.B F a25=true->E.B F a26=true->E.B F a27=true->E.B F a28=true->E.B F a29=true->E.B F a30=true->E.B F a31=true->E.B F a32=true->E.B F a33=true->E.B F a34=true->E.B F a35=true->E.B F d=true):Tr (cv [a0,a1,a2,a3,a4,a5,a6,a7,a8,a9,a10,a11,a12,a13,a14,a15,a16,a17,a18,a19,a20,a21,a22,a23,a24,a25,a26,a27,a28,a29,a30,a31,a32,a33,a34,a35] d):=fun F=>by
 show E.B F (.imp (.and a0 (.and a1 (.and a2 (.and a3 (.and a4 (.and a5 (.and a6 (.and a7 (.and a8 (.and a9 (.and a10 (.and a11 (.and a12 (.and a13 (.and a14 (.and a15 (.and a16 (.and a17 (.and a18 (.and a19 (.and a20 (.and a21 (.and a22 (.and a23 (.and a24 (.and a25 (.and a26 (.and a27 (.and a28 (.and a29 (.and a30 (.and a31 (.and a32 (.and a33 (.and a34 a35))))))))))))))))))))))))))))))))))) d)=true
 rw[cB]
 simp only[cH]
 rintro⟨p0,p1,p2,p3,p4,p5,p6,p7,p8,p9,aj,ak,ao,aq,av,az,aG,ap,au,aF,aL,aD,aE,aO,aQ,aV,bb,bp,bD,bL,bO,ce,df,eJ,fC,gp⟩
 exact h F p0 p1 p2 p3 p4 p5 p6 p7 p8 p9 aj ak ao aq av az aG ap au aF aL aD aE aO aQ aV bb bp bD bL bO ce df eJ fC gp
theorem Rm{a0 a1 a2 a3 a4 a5 a6 a7 a8 a9 a10 a11 a12 a13 a14 a15 a16 a17 a18 a19 a20 a21 a22 a23 a24 a25 a26 a27 a28 a29 a30 a31 a32 a33 a34 a35 a36 d:E}(h:∀F:Env,E.B F a0=true->E.B F a1=true->E.B F a2=true->E.B F a3=true->E.B F a4=true->E.B F a5=true->E.B F a6=true->E.B F a7=true->E.B F a8=true->E.B F a9=true->E.B F a10=true->E.B F a11=true->E.B F a12=true->E.B F a13=true->E.B F a14=true->E.B F a15=true->E.B F a16=true->E.B F a17=true->E.B F a18=true->E.B F a19=true->E.B F a20=true->E.B F a21=true->E.B F a22=true->E.B F a23=true->E.B F a24=true->E.B F a25=true->E.B F a26=true->E.B F a27=true->E.B F a28=true->E.B F a29=true->E.B F a30=true->E.B F a31=true->E.B F a32=true->E.B F a33=true->E.B F a34=true->E.B F a35=true->E.B F a36=true->E.B F d=true):Tr (cv [a0,a1,a2,a3,a4,a5,a6,a7,a8,a9,a10,a11,a12,a13,a14,a15,a16,a17,a18,a19,a20,a21,a22,a23,a24,a25,a26,a27,a28,a29,a30,a31,a32,a33,a34,a35,a36] d):=fun F=>by
 show E.B F (.imp (.and a0 (.and a1 (.and a2 (.and a3 (.and a4 (.and a5 (.and a6 (.and a7 (.and a8 (.and a9 (.and a10 (.and a11 (.and a12 (.and a13 (.and a14 (.and a15 (.and a16 (.and a17 (.and a18 (.and a19 (.and a20 (.and a21 (.and a22 (.and a23 (.and a24 (.and a25 (.and a26 (.and a27 (.and a28 (.and a29 (.and a30 (.and a31 (.and a32 (.and a33 (.and a34 (.and a35 a36)))))))))))))))))))))))))))))))))))) d)=true
 rw[cB]
 simp only[cH]
 rintro⟨p0,p1,p2,p3,p4,p5,p6,p7,p8,p9,aj,ak,ao,aq,av,az,aG,ap,au,aF,aL,aD,aE,aO,aQ,aV,bb,bp,bD,bL,bO,ce,df,eJ,fC,gp,iK⟩
 exact h F p0 p1 p2 p3 p4 p5 p6 p7 p8 p9 aj ak ao aq av az aG ap au aF aL aD aE aO aQ aV bb bp bD bL bO ce df eJ fC gp iK
theorem Yv{a0 a1 a2 a3 a4 a5 a6 a7 a8 a9 a10 a11 a12 a13 a14 a15 a16 a17 a18 a19 a20 a21 a22 a23 a24 a25 a26 a27 a28 a29 a30 a31 a32 a33 a34 a35 a36 a37 d:E}(h:∀F:Env,E.B F a0=true->E.B F a1=true->E.B F a2=true->E.B F a3=true->E.B F a4=true->E.B F a5=true->E.B F a6=true->E.B F a7=true->E.B F a8=true->E.B F a9=true->E.B F a10=true->E.B F a11=true->E.B F a12=true->E.B F a13=true->E.B F a14=true->E.B F a15=true->E.B F a16=true->E.B F a17=true->E.B F a18=true->E.B F a19=true->E.B F a20=true->E.B F a21=true->E.B F a22=true->E.B F a23=true->E.B F a24=true->E.B F a25=true->E.B F a26=true->E.B F a27=true->E.B F a28=true->E.B F a29=true->E.B F a30=true->E.B F a31=true->E.B F a32=true->E.B F a33=true->E.B F a34=true->E.B F a35=true->E.B F a36=true->E.B F a37=true->E.B F d=true):Tr (cv [a0,a1,a2,a3,a4,a5,a6,a7,a8,a9,a10,a11,a12,a13,a14,a15,a16,a17,a18,a19,a20,a21,a22,a23,a24,a25,a26,a27,a28,a29,a30,a31,a32,a33,a34,a35,a36,a37] d):=fun F=>by
 show E.B F (.imp (.and a0 (.and a1 (.and a2 (.and a3 (.and a4 (.and a5 (.and a6 (.and a7 (.and a8 (.and a9 (.and a10 (.and a11 (.and a12 (.and a13 (.and a14 (.and a15 (.and a16 (.and a17 (.and a18 (.and a19 (.and a20 (.and a21 (.and a22 (.and a23 (.and a24 (.and a25 (.and a26 (.and a27 (.and a28 (.and a29 (.and a30 (.and a31 (.and a32 (.and a33 (.and a34 (.and a35 (.and a36 a37))))))))))))))))))))))))))))))))))))) d)=true
 rw[cB]
 simp only[cH]
 rintro⟨p0,p1,p2,p3,p4,p5,p6,p7,p8,p9,aj,ak,ao,aq,av,az,aG,ap,au,aF,aL,aD,aE,aO,aQ,aV,bb,bp,bD,bL,bO,ce,df,eJ,fC,gp,iK,lH⟩
 exact h F p0 p1 p2 p3 p4 p5 p6 p7 p8 p9 aj ak ao aq av az aG ap au aF aL aD aE aO aQ aV bb bp bD bL bO ce df eJ fC gp iK lH
theorem aqP{a0 a1 a2 a3 a4 a5 a6 a7 a8 a9 a10 a11 a12 a13 a14 a15 a16 a17 a18 a19 a20 a21 a22 a23 a24 a25 a26 a27 a28 a29 a30 a31 a32 a33 a34 a35 a36 a37 a38 a39 a40 a41 a42 a43 a44 d:E}(h:∀F:Env,E.B F a0=true->E.B F a1=true->E.B F a2=true->E.B F a3=true->E.B F a4=true->E.B F a5=true->E.B F a6=true->E.B F a7=true->E.B F a8=true->E.B F a9=true->E.B F a10=true->E.B F a11=true->E.B F a12=true->E.B F a13=true->E.B F a14=true->E.B F a15=true->E.B F a16=true->E.B F a17=true->E.B F a18=true->E.B F a19=true->E.B F a20=true->E.B F a21=true->E.B F a22=true->E.B F a23=true->E.B F a24=true->E.B F a25=true->E.B F a26=true->E.B F a27=true->E.B F a28=true->E.B F a29=true->E.B F a30=true->E.B F a31=true->E.B F a32=true->E.B F a33=true->E.B F a34=true->E.B F a35=true->E.B F a36=true->E.B F a37=true->E.B F a38=true->E.B F a39=true->E.B F a40=true->E.B F a41=true->E.B F a42=true->E.B F a43=true->E.B F a44=true->E.B F d=true):Tr (cv [a0,a1,a2,a3,a4,a5,a6,a7,a8,a9,a10,a11,a12,a13,a14,a15,a16,a17,a18,a19,a20,a21,a22,a23,a24,a25,a26,a27,a28,a29,a30,a31,a32,a33,a34,a35,a36,a37,a38,a39,a40,a41,a42,a43,a44] d):=fun F=>by
 show E.B F (.imp (.and a0 (.and a1 (.and a2 (.and a3 (.and a4 (.and a5 (.and a6 (.and a7 (.and a8 (.and a9 (.and a10 (.and a11 (.and a12 (.and a13 (.and a14 (.and a15 (.and a16 (.and a17 (.and a18 (.and a19 (.and a20 (.and a21 (.and a22 (.and a23 (.and a24 (.and a25 (.and a26 (.and a27 (.and a28 (.and a29 (.and a30 (.and a31 (.and a32 (.and a33 (.and a34 (.and a35 (.and a36 (.and a37 (.and a38 (.and a39 (.and a40 (.and a41 (.and a42 (.and a43 a44)))))))))))))))))))))))))))))))))))))))))))) d)=true
 rw[cB]
 simp only[cH]
 rintro⟨p0,p1,p2,p3,p4,p5,p6,p7,p8,p9,aj,ak,ao,aq,av,az,aG,ap,au,aF,aL,aD,aE,aO,aQ,aV,bb,bp,bD,bL,bO,ce,df,eJ,fC,gp,iK,lH,qS,sn,rg,rG,qH,sH,o7⟩
 exact h F p0 p1 p2 p3 p4 p5 p6 p7 p8 p9 aj ak ao aq av az aG ap au aF aL aD aE aO aQ aV bb bp bD bL bO ce df eJ fC gp iK lH qS sn rg rG qH sH o7
theorem aIG{a0 a1 a2 a3 a4 a5 a6 a7 a8 a9 a10 a11 a12 a13 a14 a15 a16 a17 a18 a19 a20 a21 a22 a23 a24 a25 a26 a27 a28 a29 a30 a31 a32 a33 a34 a35 a36 a37 a38 a39 a40 a41 a42 a43 a44 a45 d:E}(h:∀F:Env,E.B F a0=true->E.B F a1=true->E.B F a2=true->E.B F a3=true->E.B F a4=true->E.B F a5=true->E.B F a6=true->E.B F a7=true->E.B F a8=true->E.B F a9=true->E.B F a10=true->E.B F a11=true->E.B F a12=true->E.B F a13=true->E.B F a14=true->E.B F a15=true->E.B F a16=true->E.B F a17=true->E.B F a18=true->E.B F a19=true->E.B F a20=true->E.B F a21=true->E.B F a22=true->E.B F a23=true->E.B F a24=true->E.B F a25=true->E.B F a26=true->E.B F a27=true->E.B F a28=true->E.B F a29=true->E.B F a30=true->E.B F a31=true->E.B F a32=true->E.B F a33=true->E.B F a34=true->E.B F a35=true->E.B F a36=true->E.B F a37=true->E.B F a38=true->E.B F a39=true->E.B F a40=true->E.B F a41=true->E.B F a42=true->E.B F a43=true->E.B F a44=true->E.B F a45=true->E.B F d=true):Tr (cv [a0,a1,a2,a3,a4,a5,a6,a7,a8,a9,a10,a11,a12,a13,a14,a15,a16,a17,a18,a19,a20,a21,a22,a23,a24,a25,a26,a27,a28,a29,a30,a31,a32,a33,a34,a35,a36,a37,a38,a39,a40,a41,a42,a43,a44,a45] d):=fun F=>by
 show E.B F (.imp (.and a0 (.and a1 (.and a2 (.and a3 (.and a4 (.and a5 (.and a6 (.and a7 (.and a8 (.and a9 (.and a10 (.and a11 (.and a12 (.and a13 (.and a14 (.and a15 (.and a16 (.and a17 (.and a18 (.and a19 (.and a20 (.and a21 (.and a22 (.and a23 (.and a24 (.and a25 (.and a26 (.and a27 (.and a28 (.and a29 (.and a30 (.and a31 (.and a32 (.and a33 (.and a34 (.and a35 (.and a36 (.and a37 (.and a38 (.and a39 (.and a40 (.and a41 (.and a42 (.and a43 (.and a44 a45))))))))))))))))))))))))))))))))))))))))))))) d)=true
 rw[cB]
 simp only[cH]
 rintro⟨p0,p1,p2,p3,p4,p5,p6,p7,p8,p9,aj,ak,ao,aq,av,az,aG,ap,au,aF,aL,aD,aE,aO,aQ,aV,bb,bp,bD,bL,bO,ce,df,eJ,fC,gp,iK,lH,qS,sn,rg,rG,qH,sH,o7,C2⟩
 exact h F p0 p1 p2 p3 p4 p5 p6 p7 p8 p9 aj ak ao aq av az aG ap au aF aL aD aE aO aQ aV bb bp bD bL bO ce df eJ fC gp iK lH qS sn rg rG qH sH o7 C2
def ii(e:E):SV:=.int .i64 e
def gone:Blk:=⟨true,.gone⟩
def dC(b:Nat):SV:=.ptr b ⟨0,0,.int 0⟩
def cj(a b:E):E:=.cmp .eql a b
def pl(a b:E):E:=.fn 6 (.pr a b)
def mi(a b:E):E:=.fn 7 (.pr a b)
def tm(a b:E):E:=.fn 8 (.pr a b)
def ln(x:E):E:=.fn 0 x
def prs:List E->E
 |[]=>.int 0
 |[a]=>a
 |a::l=>.pr a (prs l)
def ba(f:Nat)(l:List E):E:=.fn f (prs l)
def nt(l i:E):E:=.fn 1 (.pr l i)
def dG(w:Int)(l:E):E:=.fn 9 (.pr l (.int w))
def qB:E:=.fn 10 (.int 0)
def kI:List CK:=[.int .i64]
def kO:List CK:=[.int .i64,.int .i64,.int .i64,.int .i64,.int .i64,.int .i64,.int .i64,.int .i64,.int .i64,.bool,.bool,.bool]
def kT:List CK:=[.int .i64,.int .i64]
def iq:List CK:=[.int .i64,.int .i64,.int .i64,.int .i64,.slc kT]
def kS:List CK:=[.int .i64,.int .i64,.int .i64,.int .i64,.int .i64,.slc kI,.slc kI,.slc kI,.slc kI,.bool,.bool,.bool,.int .i64,.int .i64]
def kB:List CK:=.slc kO::(kS++(kS++[.slc iq,.slc iq,.slc kI,.slc kT,.int .i64,.int .i64,.int .i64,.int .i64,.int .i64]))
def as4(e:E):CK->SV
 |.int k=>.int k e
 |.bool=>.bool e
 |.str=>.str e
 |.slc ks=>.bsl ks e
def tK(e:E):Nat->List CK->List SV
 |_,[]=>[]
 |j,c::cs=>as4 (nt e (.int (Int.ofNat j))) c::tK e (Nat.succ j) cs
def gJ(e:E):SV:=.agg (tK e 0 kB)
def wt(e:E):Blk:=⟨true,.cells (tK e 0 kB) (.int 38) 34⟩
def cl(e:E)(j:Int):E:=nt e (.int j)
def NW(e:E):E:=.fn 116 e
def OW(e:E):E:=.fn 117 e
def eQ(e:E):List E:=[NW e,OW e]
def EX(f:FuncId):SV:=.func (.func f) [] []
def rT:E:=dG 2 (eV 0)
def aFD:Pact:=⟨114,[.bsl kT (eV 0),EX 103],⟨1,0,.nil,[ag rT (.int 1000)]⟩,[(ii (eV 1),⟨2,0,.nil,[.iff (ag (.int 0) (eV 1)) (.not (ba 101 [eV 0,rT])),ag (.int (-1)) (eV 1)]⟩)]⟩
def tTF:Tmpl:=⟨dr 19 [(0,.bsl kT (eV 0)),(1,EX 103),(6,.bsl kT (eV 0)),(7,ii rT),(8,ii (eV 4))],⟨5,0,.nil,[ag rT (.int 1000),ag (.int 0) (eV 4),ag (eV 4) rT,ba 101 [eV 0,eV 4]]⟩,mi rT (eV 4)⟩
def ahC:List Ann:=[⟨114,0,[tTF],none⟩]
def Zp:List E:=[eV 0,eV 1,eV 2,eV 3,eV 4,eV 5]
def Tf:SV:=.agg [ii (eV 0),ii (eV 1),ii (eV 2),ii (eV 3),.bsl kT (eV 4)]
def aEH:Pact:=⟨78,[Tf,.bool (eV 5)],⟨6,0,.nil,[]⟩,[(.bool (eV 6),⟨7,0,.nil,[.iff (eV 6) (ba 102 Zp)]⟩)]⟩
def rI:E:=dG 5 (eV 0)
def afY(g:FuncId)(q:Bool):Pact:=⟨101,[.bsl iq (eV 0),EX g],⟨1,0,.nil,[ag rI (.int 1000)]⟩,[(ii (eV 1),⟨2,0,.nil,[.iff (ag (.int 0) (eV 1)) (.not (ba 103 [eV 0,.bool q,rI])),ag (.int (-1)) (eV 1)]⟩)]⟩
def tIF(g:FuncId)(q:Bool):Tmpl:=⟨dr 19 [(0,.bsl iq (eV 0)),(1,EX g),(6,.bsl iq (eV 0)),(7,ii rI),(8,ii (eV 4))],⟨5,0,.nil,[ag rI (.int 1000),ag (.int 0) (eV 4),ag (eV 4) rI,ba 103 [eV 0,.bool q,eV 4]]⟩,mi rI (eV 4)⟩
def OG(g:FuncId)(q:Bool):List Ann:=[⟨101,0,[tIF g q],none⟩]
def nI:E:=ln (eV 0)
def S2(l k:E):E:=ba 114 [l,k]
def av4:Pact:=⟨84,[.bsl kI (eV 0),ii (eV 1)],⟨2,0,.nil,[ag nI (.int 1000)]⟩,[(ii (eV 2),⟨3,0,.nil,[.iff (ag (.int 0) (eV 2)) (S2 (eV 0) (eV 1)),ag (.int (-1)) (eV 2)]⟩)]⟩
def tIx:Tmpl:=⟨dr 19 [(0,.bsl kI (eV 0)),(1,ii (eV 1)),(6,.bsl kI (eV 0)),(7,ii nI),(8,ii (eV 4))],⟨5,0,.nil,[ag nI (.int 1000),ag (.int 0) (eV 4),ag (eV 4) nI,cj (ba 131 [eV 0,eV 1,eV 4]) (.int 0)]⟩,mi nI (eV 4)⟩
def aAa:List Ann:=[⟨84,0,[tIx],none⟩]
def obV:SV:=.agg ((List.range 9).map (fun j=>ii (eV j))++[.bool (eV 9),.bool (eV 10),.bool (eV 11)])
def aaC(f:FuncId):Pact:=⟨f,[obV],⟨12,0,.nil,[]⟩,[(.bool (eV 12),⟨13,0,.nil,[.iff (eV 12) (ba 137 ((List.range 9).map eV))]⟩)]⟩
def put(c:Nat):SV:=.func (.func 105) [] [dC c]
def Jq(e:E):Blk:=⟨true,.mapl .i64 (.int .i64) e⟩
def wG(W:Nat)(m:E)(more:List Blk):T Blk:=cn (List.replicate W gone++[wt (eV 0),Jq m,⟨true,.cells [.map (W+1)] (.int 1) 153⟩]++more)
def wZ(W:Nat):List (Nat×SV):=[(1,dC W),(3,dC (W+2)),(4,put (W+2))]
def Jz(m p q i:E):E:=ba 104 [m,eV 0,p,q,i]
def t0P:Tmpl:=⟨dr 138 (wZ 8++[(21,ii (eV 8))]),⟨10,11,wG 8 (eV 9) [],eQ (eV 0)++[ag (.int 0) (eV 8),ag (eV 8) (.int 2),Jz (eV 9) (eV 8) (.int 0) (.int 0)]⟩,mi (.int 2) (eV 8)⟩
def aeF(W p:Nat):SV:=.agg ((List.range 4).map fun q=>.ptr W ⟨6+14*p+q,0,.int 0⟩)
def Ty(p:Nat):Tmpl:=⟨dr 138 (wZ 8++[(5,ii (eV 8)),(21,ii (eV 8)),(27,aeF 8 p),(28,ii (eV 16))]),⟨18,16,wG 8 (eV 17) [],
 eQ (eV 0)++[cj (eV 8) (.int (Int.ofNat p)),ag (.int 0) (eV 16),ag (eV 16) (.int 4),Jz (eV 17) (eV 8) (eV 16) (.int 0)]⟩,mi (.int 4) (eV 16)⟩
def Tu(p:Nat):Tmpl:=⟨dr 138 (wZ 8++[(5,ii (eV 8)),(21,ii (eV 8)),(27,aeF 8 p),(28,ii (eV 16)),(33,.bsl kI (eV 28)),(34,ii (ln (eV 28))),(35,ii (eV 24))]),⟨29,24,wG 8 (eV 25) [],
 eQ (eV 0)++[cj (eV 8) (.int (Int.ofNat p)),ag (.int 0) (eV 16),ny (eV 16) (.int 4),ag (.int 0) (eV 24),ag (eV 24) (ln (eV 28)),ag (ln (eV 28)) (.int 40),ba 109 [eV 28,eV 0,eV 8,eV 16],Jz (eV 25) (eV 8) (eV 16) (eV 24)]⟩,mi (ln (eV 28)) (eV 24)⟩
def f0:E:=dG 5 (cl (eV 0) 29)
def jx:E:=dG 12 (cl (eV 0) 0)
def t6P:Tmpl:=⟨dr 138 (wZ 32++[(10,.map 35),(49,.bsl iq (cl (eV 0) 29)),(50,ii f0),(51,ii (eV 32))]),⟨35,36,wG 32 (eV 33) [Jq (eV 34)],
 eQ (eV 0)++[ag f0 (.int 20),ag (.int 0) (eV 32),ag (eV 32) f0,ba 105 [eV 33,eV 0,eV 32],ba 106 [eV 34,eV 0,eV 32]]⟩,mi f0 (eV 32)⟩
def t8P:Tmpl:=⟨dr 138 (wZ 40++[(10,.map 43),(72,.bsl kO (cl (eV 0) 0)),(73,ii jx),(74,ii (eV 40))]),⟨43,44,wG 40 (eV 41) [Jq (eV 42)],
 eQ (eV 0)++[ag jx (.int 30),ag (.int 0) (eV 40),ag (eV 40) jx,ba 105 [eV 41,eV 0,f0],ba 106 [eV 42,eV 0,f0],ba 107 [eV 0,eV 40]]⟩,mi jx (eV 40)⟩
def aBw:List Ann:=[⟨80,0,[t0P],none⟩,⟨80,2,[Ty 0,Ty 1],none⟩,⟨80,4,[Tu 0,Tu 1],none⟩,⟨80,6,[t6P],none⟩,⟨80,8,[t8P],none⟩]
def ai7:Pact:=⟨80,[gJ (eV 0)],⟨1,0,.nil,eQ (eV 0)⟩,[(.bool (eV 1),⟨2,0,.nil,[.iff (eV 1) (.fn 108 (eV 0))]⟩)]⟩
def aFq(e:E):Blk:=⟨true,.mapl .i64 .bool e⟩
def l6:E:=cl (eV 0) 34
def Jn:List E:=eQ (eV 0)++[.fn 108 (eV 0),ag (.int 0) l6,ag l6 (.int 1)]
def amR:Pact:=⟨81,[gJ (eV 0)],⟨1,0,.nil,Jn⟩,[(.bool (eV 1),⟨2,0,.nil,[.iff (eV 1) (.fn 110 (eV 0))]⟩)]⟩
def Zu(W:Nat):T Blk:=cn (List.replicate W gone++[wt (eV 0),aFq (eV (W+1))])
def XH(W:Nat):List (Nat×SV):=[(1,dC W),(3,.bsl kI (eV (W+2))),(4,.bsl kI (eV (W+3))),(5,.map (W+1))]
def aaA(W:Nat):List E:=[ba 109 [eV (W+2),eV 0,l6,.int 2],ba 109 [eV (W+3),eV 0,mi (.int 1) l6,.int 2],ag (ln (eV (W+2))) (.int 40),ag (ln (eV (W+3))) (.int 40)]
def kH:E:=ln (cl (eV 0) 31)
def pJ:E:=dG 2 (cl (eV 0) 32)
def t0F:Tmpl:=⟨dr 85 (XH 8++[(25,.bsl kI (cl (eV 0) 31)),(26,ii kH),(27,ii (eV 8))]),⟨12,10,Zu 8,
 Jn++aaA 8++[ag kH (.int 30),ag (.int 0) (eV 8),ag (eV 8) kH,ba 111 [eV 0,eV 8],ba 113 [eV 9,eV 0,eV 8,.int 0]]⟩,mi kH (eV 8)⟩
def t2F:Tmpl:=⟨dr 85 (XH 16++[(44,.bsl kT (cl (eV 0) 32)),(45,ii pJ),(46,ii (eV 16))]),⟨20,18,Zu 16,
 Jn++aaA 16++[ag kH (.int 30),ag pJ (.int 30),ag (.int 0) (eV 16),ag (eV 16) pJ,ba 111 [eV 0,kH],ba 112 [eV 0,eV 16],ba 113 [eV 17,eV 0,kH,eV 16]]⟩,mi pJ (eV 16)⟩
def aGK:List Ann:=[⟨81,0,[t0F],none⟩,⟨81,2,[t2F],none⟩]
def spV:Pact:=⟨52,[gJ (eV 0)],⟨1,0,.nil,eQ (eV 0)⟩,[(.bool (eV 1),⟨2,0,.nil,[.iff (eV 1) (.fn 115 (eV 0))]⟩)]⟩
def ahH:Pact:=⟨48,[Tf,.bool (eV 5)],⟨6,0,.nil,[]⟩,[(.bool (eV 6),⟨7,0,.nil,[.iff (eV 6) (ba 102 Zp)]⟩)]⟩
def aDX:Pact:=⟨73,[.bsl kI (eV 0),ii (eV 1)],⟨2,0,.nil,[ag nI (.int 1000)]⟩,[(ii (eV 2),⟨3,0,.nil,[cj (eV 2) (ba 121 [eV 0,eV 1]),ag (.int 0) (eV 2),ag (eV 2) nI]⟩)]⟩
def aC8:Pact:=⟨33,[gJ (eV 0),ii (eV 1)],⟨2,0,.nil,eQ (eV 0)⟩,[(ii (eV 2),⟨3,0,.nil,[cj (eV 2) (ba 120 [eV 0,eV 1,jx]),ag (.int (-1)) (eV 2),ny (eV 2) jx]⟩)]⟩
def aAO:Pact:=⟨72,[gJ (eV 0),ii (eV 1),ii (eV 2)],⟨3,0,.nil,eQ (eV 0)++[ag (.int 0) (eV 1),ag (eV 1) (.int 1)]⟩,[(ii (eV 3),⟨4,0,.nil,[cj (eV 3) (ba 122 [eV 0,eV 1,eV 2]),ag (.int 0) (eV 3),ag (eV 3) (.int 1000)]⟩)]⟩
def aAF:List E:=[ag (.int 0) (eV 0),ag (eV 0) (.int 1),ag (.int 1) (eV 1),ag (eV 1) (.int 500),ag (.int 0) (eV 2),ag (eV 2) (.int 399),ag (.int (-1)) (eV 3),ag (eV 3) (.int 1),ag (dG 2 (eV 4)) (.int 4),.imp (ag (.int 0) (eV 3)) (cj (dG 2 (eV 4)) (.int 0)),.imp (eV 5) (ag (.int 0) (eV 3))]
def tIt:Tmpl:=⟨dr 108 [(1,.bool (eV 5)),(2,dC 8),(5,ii (eV 8))],⟨9,9,cn (List.replicate 8 gone++[⟨true,.cells [ii (eV 0),ii (eV 1),ii (eV 2),ii (eV 3),.bsl kT (eV 4)] (.int 5) 77⟩]),
 aAF++[ag (.int 0) (eV 8),ag (eV 8) (dG 2 (eV 4)),ba 101 [eV 4,eV 8]]⟩,mi (dG 2 (eV 4)) (eV 8)⟩
def akt:List Ann:=[⟨48,0,[tIt],none⟩]
def tCt:Tmpl:=⟨dr 22 [(0,.bsl kI (eV 0)),(1,ii (eV 1)),(5,ii (eV 9)),(6,ii (eV 8))],⟨10,0,.nil,[ag nI (.int 1000),ag (.int 0) (eV 8),ag (eV 8) nI,cj (eV 9) (ba 131 [eV 0,eV 1,eV 8]),ag (.int 0) (eV 9),ag (eV 9) (eV 8)]⟩,mi nI (eV 8)⟩
def arS:List Ann:=[⟨73,0,[tCt],none⟩]
def pW(W:Nat):T Blk:=cn (List.replicate W gone++[wt (eV 0)])
def tId:Tmpl:=⟨dr 22 [(1,ii (eV 1)),(2,dC 8),(5,ii (eV 8))],⟨9,9,pW 8,eQ (eV 0)++[ag jx (.int 30),ag (.int 0) (eV 8),ag (eV 8) jx,cj (ba 120 [eV 0,eV 1,eV 8]) (.int (-1))]⟩,mi jx (eV 8)⟩
def av8:List Ann:=[⟨33,0,[tId],none⟩]
def tPc:Tmpl:=⟨dr 56 [(1,ii (eV 1)),(2,ii (eV 2)),(3,dC 16),(7,ii (eV 17)),(10,ii (eV 16))],⟨18,17,pW 16,eQ (eV 0)++[ag (.int 0) (eV 1),ag (eV 1) (.int 1),ag f0 (.int 20),ag (.int 0) (eV 16),ag (eV 16) f0,
 cj (eV 17) (pl (ba 132 [eV 0,eV 1,.int 4,eV 2]) (ba 133 [eV 0,eV 1,eV 2,eV 16])),ag (.int 0) (eV 17),ag (eV 17) (pl (.int 160) (eV 16))]⟩,mi f0 (eV 16)⟩
def aDe:List Ann:=[⟨72,2,[tPc],none⟩]
def t4D:Tmpl:=⟨dr 108 [(1,dC 16),(3,ii (eV 17)),(7,ii (eV 16))],⟨18,17,pW 16,eQ (eV 0)++[ag f0 (.int 20),ag jx (.int 30),ag (.int 0) (eV 16),ag (eV 16) f0,
 cj (eV 17) (pl (ba 134 [eV 0,.int 8]) (ba 135 [eV 0,eV 16])),ag (.int 0) (eV 17),ag (eV 17) (pl (.int 320) (eV 16)),ba 123 [eV 0,eV 16]]⟩,mi f0 (eV 16)⟩
def t6D:Tmpl:=⟨dr 108 [(1,dC 24),(3,ii (eV 25)),(10,ii (eV 24))],⟨26,25,pW 24,eQ (eV 0)++[ag jx (.int 30),ag (.int 0) (eV 24),ag (eV 24) jx,
 cj (eV 25) (pl (ba 134 [eV 0,.int 8]) (ba 135 [eV 0,f0])),ba 123 [eV 0,f0],ba 124 [eV 0,eV 24]]⟩,mi jx (eV 24)⟩
def aEP:List Ann:=[⟨50,4,[t4D],none⟩,⟨50,6,[t6D],none⟩]
def II:List E:=eQ (eV 0)++[ag (.int 0) l6,ag l6 (.int 1),ag kH (.int 30),ag pJ (.int 30)]
def t0R:Tmpl:=⟨dr 94 [(1,dC 8),(3,ii (eV 8))],⟨9,9,pW 8,II++[ag (.int 0) (eV 8),ag (eV 8) kH,ba 126 [eV 0,eV 8]]⟩,mi kH (eV 8)⟩
def t2R:Tmpl:=⟨dr 94 [(1,dC 16),(4,ii (eV 16))],⟨17,17,pW 16,II++[ag (.int 0) (eV 16),ag (eV 16) pJ,ba 126 [eV 0,kH],ba 127 [eV 0,eV 16]]⟩,mi pJ (eV 16)⟩
def ada(j:Int):E:=nt (cl (eV 0) 32) (pl (tm (eV 16) (.int 2)) (.int j))
def t4R:Tmpl:=⟨dr 94 [(1,dC 16),(4,ii (eV 16)),(5,dC 24),(6,ii (eV 24))],⟨25,25,cn (List.replicate 16 gone++[wt (eV 0)]++List.replicate 7 gone++[⟨true,.cells [ii (ada 0),ii (ada 1)] (.int 2) 99⟩]),
 II++[ag (.int 0) (eV 16),ny (eV 16) pJ,ba 126 [eV 0,kH],ba 127 [eV 0,eV 16],ag (.int 0) (eV 24),ag (eV 24) (eV 16),ba 136 [eV 0,eV 16],ba 128 [eV 0,eV 16,eV 24]]⟩,mi (eV 16) (eV 24)⟩
def aHZ:List Ann:=[⟨51,0,[t0R],none⟩,⟨51,2,[t2R],none⟩,⟨51,4,[t4R],none⟩]
def aCw:Pact:=⟨50,[gJ (eV 0)],⟨1,0,.nil,eQ (eV 0)⟩,[(.bool (eV 1),⟨2,0,.nil,[.iff (eV 1) (.fn 125 (eV 0))]⟩)]⟩
def amQ:Pact:=⟨51,[gJ (eV 0)],⟨1,0,.nil,eQ (eV 0)++[ag (.int 0) l6,ag l6 (.int 1)]⟩,[(.bool (eV 1),⟨2,0,.nil,[.iff (eV 1) (.fn 129 (eV 0))]⟩)]⟩
def ahP:Pact:=⟨25,[gJ (eV 0)],⟨1,0,.nil,eQ (eV 0)⟩,[(.bool (eV 1),⟨2,0,.nil,[.iff (eV 1) (.fn 130 (eV 0))]⟩)]⟩
def ab9:List E:=[ag (.int 0) l6,ag l6 (.int 1),ag (.int 0) (cl (eV 0) 33),ag (cl (eV 0) 33) (.int 1000),ag (.int 0) (cl (eV 0) 35),ag (cl (eV 0) 35) (.int 10),ag (.int (-1)) (cl (eV 0) 36),ag (cl (eV 0) 36) (.int 1),ag (.int 0) (cl (eV 0) 37),ag (cl (eV 0) 37) (.int 2)]
def wo:E:=dG 5 (cl (eV 0) 30)
def Lx(c:Int)(q:Bool)(n:E):E:=ba 103 [cl (eV 0) c,.bool q,n]
def tV0:Tmpl:=⟨dr 117 [(1,dC 8),(3,ii (eV 8))],⟨9,9,pW 8,eQ (eV 0)++ab9++[ag f0 (.int 20),ag (.int 0) (eV 8),ag (eV 8) f0,Lx 29 false (eV 8)]⟩,mi f0 (eV 8)⟩
def tV2:Tmpl:=⟨dr 117 [(1,dC 16),(4,ii (eV 16))],⟨17,17,pW 16,eQ (eV 0)++ab9++[ag wo (.int 20),Lx 29 false f0,ag (.int 0) (eV 16),ag (eV 16) wo,Lx 30 true (eV 16)]⟩,mi wo (eV 16)⟩
def aEy:List Ann:=[⟨25,0,[tV0],none⟩,⟨25,2,[tV2],none⟩]
def kE:List CK:=[.int .i64,.int .i64,.int .i64,.int .i64,.int .i64]
def qX:List CK:=[.int .i64,.slc kE]
def kC:List CK:=[.str,.int .i64,.int .i64,.int .i64,.int .i64,.int .i64,.int .i64,.int .i64,.int .i64,.int .i64,.int .i64,.slc kE,.slc qX,.int .i64]
def aeR(f:FuncId)(ks:List CK)(w:Int)(t:TypeId):Pact:=⟨f,[.bsl ks (eV 0)],⟨1,0,.nil,[ag (dG w (eV 0)) (.int 100)]⟩,
 [(.nils,⟨1,0,.nil,[cj (dG w (eV 0)) (.int 0)]⟩),(.nslice 0 (eV 1) (eV 2),⟨3,1,cn [⟨true,.flat ks (eV 0) (eV 1) (eV 2) t⟩],[ag (eV 1) (eV 2),cj (eV 1) (dG w (eV 0))]⟩)]⟩
def atc:Pact:=aeR 107 kE 5 159
def axP:Pact:=aeR 108 qX 2 71
def Dy(e t:SV):List SV:=.str (eV 0)::((List.range 10).map fun j=>ii (eV (j+1)))++[e,t,ii (eV 13)]
def aj0:SV:=.agg (Dy (.bsl kE (eV 11)) (.bsl qX (eV 12)))
def flT(x n c:E):Blk:=⟨true,.flat qX x n c 71⟩
def ar6:Pact:=⟨82,[aj0],⟨14,0,.nil,[ba 156 [eV 11,eV 12]]⟩,
 [(.agg (Dy (.bsl kE (eV 14)) .nils),⟨15,0,.nil,[]⟩),(.agg (Dy (.bsl kE (eV 14)) (.nslice 0 (eV 16) (eV 17))),⟨18,1,cn [flT (eV 15) (eV 16) (eV 17)],[ag (eV 16) (eV 17)]⟩)]⟩
def aAS(W:Nat):Blk:=⟨true,.cells (.str (eV W)::((List.range 10).map fun j=>ii (eV (W+j+1)))++[.nils,.nils,ii (eV (W+11))]) (.int 14) 58⟩
def Rw(k:Nat):Tmpl:=
 let T:SV:=if k==0 then .nslice 22 (eV 42) (eV 43)else .nils
 let n:E:=if k==0 then eV 42 else .int 0
 ⟨dr 31 [(1,dC 20),(2,dC 21),(14,T),(15,ii n),(16,ii (if k==0 then eV 44 else .int 0))],⟨45,23,cn (List.replicate 20 gone++[⟨true,.cells (Dy (.bsl kE (eV 40)) T) (.int 14) 58⟩,aAS 20,if k==0 then flT (eV 41) (eV 42) (eV 43)else gone]),
  if k==0 then [ag (eV 42) (eV 43),ag (.int 0) (eV 44),ag (eV 44) (eV 42),ag (eV 42) (.int 3),ba 157 [eV 41,eV 42]] else []⟩,mi n (if k==0 then eV 44 else .int 0)⟩
def apI:List Ann:=[⟨82,0,[Rw 0,Rw 1],none⟩]
def avy(a:Nat):SV:=.agg ((List.range 9).map (fun j=>ii (eV (a+j)))++[.bool (eV (a+9)),.bool (eV (a+10)),.bool (eV (a+11))])
def abb(a:Nat)(e t:SV):SV:=.agg (.str (eV a)::((List.range 10).map fun j=>ii (eV (a+j+1)))++[e,t,ii (eV (a+13))])
def adl:List E:=[cj (eV 14) (ba 141 [eV 0,eV 2]),cj (eV 20) (ba 142 [eV 0,eV 2])]
def aGH:Pact:=⟨53,[.bsl kC (eV 0),avy 1],⟨13,0,.nil,[ag (dG 14 (eV 0)) (.int 12),ba 155 [eV 0,dG 14 (eV 0)]]⟩,[(abb 13 (.bsl kE (eV 24)) (.bsl qX (eV 25)),⟨27,0,.nil,adl⟩),(abb 13 .nils .nils,⟨27,0,.nil,adl⟩)]⟩
def Fm:E:=dG 14 (eV 0)
def MQ:List E:=eQ (eV 1)++[ag Fm (.int 12),ba 155 [eV 0,Fm],ag (.int 0) (eV 2),ag (eV 2) (.int 1)]
def jE:E:=dG 12 (cl (eV 1) 0)
def JT(x n c:E):Blk:=⟨true,.flat kT x n c 85⟩
def tZ(x n:E):E:=ba 143 [x,eV 0,eV 1,eV 2,n]
def al0:Pact:=⟨31,[.bsl kC (eV 0),gJ (eV 1),ii (eV 2)],⟨3,0,.nil,MQ⟩,
 [(.nils,⟨3,0,.nil,[tZ qB jE]⟩),(.nslice 0 (eV 4) (eV 5),⟨6,1,cn [JT (eV 3) (eV 4) (eV 5)],[ag (.int 1) (eV 4),ag (eV 4) (eV 5),cj (ln (eV 3)) (tm (eV 4) (.int 2)),ag (eV 4) jE,tZ (eV 3) jE]⟩)]⟩
def aIg:Blk:=⟨true,.cells (tK (eV 1) 0 kB) (.int 38) 34⟩
def tSo(k:Bool):Tmpl:=⟨dr 62 [(0,.bsl kC (eV 0)),(2,ii (eV 2)),(4,dC 16),(7,if k then .nslice 17 (eV 17) (eV 18)else .nils),(12,.bsl kO (cl (eV 1) 0)),(13,ii jE),(14,ii (eV 19))],
 ⟨20,18,cn (List.replicate 16 gone++[aIg,if k then JT (eV 16) (eV 17) (eV 18)else gone]),MQ++[ag jE (.int 30),ag (.int 0) (eV 19),ag (eV 19) jE]++(if k then [ag (.int 1) (eV 17),ag (eV 17) (eV 18),cj (ln (eV 16)) (tm (eV 17) (.int 2)),ag (eV 17) (eV 19),tZ (eV 16) (eV 19)] else [tZ qB (eV 19)])⟩,mi jE (eV 19)⟩
def Qf:List Ann:=[⟨31,0,[tSo false,tSo true],none⟩]
def vA(X p:E):E:=ba 145 [X,p]
def atX:Pact:=⟨30,[gJ (eV 0),ii (eV 1)],⟨2,0,.nil,eQ (eV 0)⟩,[(.bool (eV 2),⟨3,0,.nil,[.iff (eV 2) (vA (eV 0) (eV 1))]⟩)]⟩
def aGY:Pact:=⟨12,[gJ (eV 0),ii (eV 1),.agg ((List.range 5).map fun j=>ii (eV (j+2)))],⟨7,0,.nil,eQ (eV 0)⟩,[(.bool (eV 7),⟨8,0,.nil,[.iff (eV 7) (.and (vA (eV 0) (eV 1)) (ba 146 ((List.range 5).map fun j=>eV (j+2))))]⟩)]⟩
def qk:List E:=eQ (eV 1)++[ag Fm (.int 12),ba 155 [eV 0,Fm]]
def Rg(x:E):E:=ba 144 [x,eV 0,eV 1,eV 2]
def arn:Pact:=⟨10,[.bsl kC (eV 0),gJ (eV 1),ii (eV 2)],⟨3,0,.nil,qk⟩,
  [(.nils,⟨3,0,.nil,[.imp (vA (eV 1) (eV 2)) (Rg qB)]⟩),
   (.nslice 0 (eV 4) (eV 5),⟨6,1,cn [⟨true,.flat kI (eV 3) (eV 4) (eV 5) 3⟩],[ag (.int 1) (eV 4),ag (eV 4) (eV 5),cj (ln (eV 3)) (eV 4),ag (eV 4) (.int 30),vA (eV 1) (eV 2),Rg (eV 3)]⟩)]⟩
def aHi:List E:=qk++[vA (eV 1) (eV 2),ag (.int 0) (eV 2),ag (eV 2) (.int 1)]
def XA:E:=dG 2 (eV 16)
def Qu(k:Bool):Tmpl:=⟨dr 30 [(7,if k then .nslice 16 (eV 18) (eV 19)else .nils),(17,.bsl kT (eV 16)),(18,ii (eV 21)),(19,ii (eV 20))],⟨22,17,cn (List.replicate 16 gone++[if k then⟨true,.flat kI (eV 17) (eV 18) (eV 19) 3⟩ else gone]),
 aHi++[tZ (eV 16) jE,ag jE (.int 30),cj (eV 21) XA,ag XA jE,ag (.int 0) (eV 20),ag (eV 20) (eV 21)]++(if k then [cj (eV 18) (eV 20),ag (.int 1) (eV 18),ag (eV 18) (eV 19),cj (ln (eV 17)) (eV 18),ba 148 [eV 17,eV 16,eV 20]] else [cj (eV 20) (.int 0)])⟩,mi (eV 21) (eV 20)⟩
def aCj:List Ann:=[⟨10,0,[Qu false,Qu true],none⟩]
def W6(m:Nat):List SV:=(List.range 4).map fun j=>ii (eV (m+j))
def li(n:Int):SV:=ii (.int n)
def aqw(l:List Int):SV:=match l with | []=>.nils | l=>.nslice 0 (.int (Int.ofNat l.length)) (.int (Int.ofNat l.length))
def aaJ(l:List Int):T Blk:=match l with | []=>.nil | l=>cn [⟨true,.cells (l.map li) (.int (Int.ofNat l.length)) 3⟩]
def afI(l:List Int):Nat:=match l with | []=>0 | _=>1
def uM(e t s:Int)(l m:List Int)(no:Int):Pact:=⟨29,[li e,li t,li s,aqw l,.agg (m.map li),li no],⟨0,afI l,aaJ l,[]⟩,[(.bool (.bool true),⟨0,afI l,aaJ l,[]⟩)]⟩
def noB:List SV:=[.bool (.bool false),.bool (.bool false),.bool (.bool false)]
def Us(b:Nat):SV:=.agg ([.nslice b (.int 4) (.var 0),li 20,li 1,li 0,li 0,li 2,.nils,.nils,.nslice (Nat.succ b) (.int 4) (.var 1),.nils]++noB++[li 0,li 0,li 20,li 0,li 0,li 0,li 0,.nils,.nils,.nils,.nils]++noB++[li 0,li 0,.nils,.nils,.nils,.nils,li 0,li 0,li 0,li (-1),li 0])
def C1(i c:Int)(t:Bool):List SV:=[li i,li c,li 0,li 0,li 0,li 0,li 0,li 0,li 0,.bool (.bool t),.bool (.bool true),.bool (.bool false)]
def Mp:List Blk:=[⟨true,.cells (C1 1 0 false++C1 2 1 false++C1 3 0 false++C1 4 2 true) (.fn 8 (.pr (.var 0) (.int 12))) 65⟩,⟨true,.cells [li 1,li 2,li 3,li 4] (.var 1) 3⟩]
def KE:List E:=[ag (.int 4) (.var 1),ag (.int 0) (.var 1),ag (.int 4) (.var 0),ag (.int 0) (.var 0)]
def Kj(c:Int):List SV:=[.str (.str ⟨#[]⟩),li 1,li 0,li 0,li 0,li 0,li 0,li c,li 0,li 0,li 0,.nils,.nils,li 0]
def RT:Blk:=⟨true,.cells (Kj 0++Kj 1++Kj 2) (.int 42) 58⟩
def aCr:Pact:=⟨27,[],⟨0,0,.nil,[]⟩,[(Us 0,⟨2,2,cn Mp,KE⟩)]⟩
def IW(more:List SV):List SV:=.nslice 0 (.int 3) (.int 3)::Us 1::li 0::more
def yi:St:=⟨2,3,cn (RT::Mp),KE⟩
def arg:Pact:=⟨10,IW [],yi,[(.nslice 3 (.int 3) (.var 2),⟨3,4,cn (RT::Mp++[⟨true,.cells [li 1,li 2,li 3] (.var 2) 3⟩]),ag (.int 3) (.var 2)::KE⟩)]⟩
def aHF:Pact:=⟨11,IW [],yi,[(.agg [li 3,li 1,li 0,li 2],yi)]⟩
def Oo(a b c d n:Int)(r:Bool):Pact:=⟨18,IW [.agg [li a,li b,li c,li d,li n]],yi,[(.bool (.bool r),yi)]⟩
def args:List SV:=[.bsl kC (eV 0),gJ (eV 1),ii (eV 2)]
def DF:E:=dG 14 (eV 0)
def aiq:Pact:=⟨7,[.bsl kC (eV 0)],⟨1,0,.nil,[]⟩,[(.bool (eV 1),⟨2,0,.nil,[.imp (eV 1) (.and (ag DF (.int 12)) (ba 155 [eV 0,DF]))]⟩)]⟩
def tL0:Tmpl:=⟨dr 55 [(0,.bsl kC (eV 0)),(3,ii (eV 8))],⟨9,0,.nil,[ag (.int 0) (eV 8),ag (eV 8) (.int 13),ag (eV 8) DF,ba 155 [eV 0,eV 8]]⟩,mi (.int 13) (eV 8)⟩
def Em:E:=nt (eV 0) (pl (tm (eV 8) (.int 14)) (.int 12))
def efE:E:=nt (eV 0) (pl (tm (eV 8) (.int 14)) (.int 11))
def tL2:Tmpl:=⟨dr 55 [(0,.bsl kC (eV 0)),(3,ii (eV 8)),(4,ii (eV 16))],⟨17,0,.nil,[ag (.int 0) (eV 8),ny (eV 8) (.int 13),ny (eV 8) DF,ba 155 [eV 0,eV 8],ag (dG 5 efE) (.int 5),ag (dG 2 Em) (.int 3),ag (.int 0) (eV 16),ag (eV 16) (dG 2 Em),ba 157 [Em,eV 16]]⟩,mi (dG 2 Em) (eV 16)⟩
def aum:List Ann:=[⟨7,0,[tL0],none⟩,⟨7,2,[tL2],none⟩]
def amS:Pact:=⟨8,[gJ (eV 0)],⟨1,0,.nil,[]⟩,[(.bool (eV 1),⟨2,0,.nil,[.imp (eV 1) (OW (eV 0))]⟩)]⟩
def lsB:Blk:=⟨true,.cells [.bsl iq (cl (eV 0) 29),.bsl iq (cl (eV 0) 30)] (.int 2) 30⟩
def ae4:T Blk:=cn (List.replicate 8 gone++[wt (eV 0),lsB])
def abt:List (Nat×SV):=[(1,dC 8),(29,.nslice 9 (.int 2) (.int 2)),(30,ii (.int 2)),(31,ii (eV 8))]
def ag4:List E:=[.fn 159 (eV 0),ag (.int 0) (eV 8),ag (eV 8) (.int 2),.imp (ag (.int 1) (eV 8)) (.and (ag f0 (.int 20)) (ba 158 [cl (eV 0) 29,f0])),.imp (ag (.int 2) (eV 8)) (.and (ag wo (.int 20)) (ba 158 [cl (eV 0) 30,wo]))]
def t4m:Tmpl:=⟨dr 68 abt,⟨9,10,ae4,ag4⟩,mi (.int 2) (eV 8)⟩
def WF(q:Nat):Tmpl:=let c:Int:=if q==0 then 29 else 30
 ⟨dr 68 (abt++[(7,.bsl iq (cl (eV 0) c)),(8,ii (eV 16))]),⟨17,10,ae4,
 ag4++[cj (eV 8) (.int (Int.ofNat q)),ag (dG 5 (cl (eV 0) c)) (.int 20),ag (.int 0) (eV 16),ag (eV 16) (dG 5 (cl (eV 0) c)),ba 158 [cl (eV 0) c,eV 16]]⟩,mi (dG 5 (cl (eV 0) c)) (eV 16)⟩
def asZ:List Ann:=[⟨8,4,[t4m],none⟩,⟨8,6,[WF 0,WF 1],none⟩]
/-! ### paying -/
def gX(f:Nat)(l:List E):E:=ba f (l++[.int 0])
def aa8:List E:=[ag rI (.int 20),ba 158 [eV 0,rI],.fn 190 (eV 0)]
def apH(x n c:E):Blk:=⟨true,.flat iq x n c 77⟩
def msB:List FM:=t7 kB
def axL:Pact:=⟨31,[.bsl kC (eV 0),gJ (eV 1),ii (eV 2)],⟨3,0,.nil,MQ⟩,
 [(.nslice 0 (eV 4) (eV 5),⟨6,1,cn [JT (eV 3) (eV 4) (eV 5)],[ag (.int 0) (eV 4),ag (eV 4) (eV 5),cj (ln (eV 3)) (tm (eV 4) (.int 2)),ag (eV 4) jE,tZ (eV 3) jE]⟩)]⟩
def msS:List FM:=[.up kT 85]
def k9(x n c:E):Blk:=⟨true,.flat kT x n c 85⟩
def kQ(x n c:E):Blk:=⟨true,.flat kI x n c 3⟩
def It(r t:SV)(a:Nat):Blk:=⟨true,.cells (((List.range 4).map fun j=>ii (eV (a+j)))++[r,t]) (.int 6) 94⟩
def BE(b a:Nat)(k:Bool):List Blk:=[It (.nslice (b+1) (eV (a+5)) (eV (a+6))) (if k then .nslice (b+2) (eV (a+8)) (eV (a+9))else .nils) a,k9 (eV (a+4)) (eV (a+5)) (eV (a+6)),if k then kQ (eV (a+7)) (eV (a+8)) (eV (a+9))else gone]
def ku(a:Nat)(k:Bool):List E:=[ag (.int 0) (eV (a+5)),ag (eV (a+5)) (eV (a+6)),cj (ln (eV (a+4))) (tm (eV (a+5)) (.int 2))] ++
 (if k then [ag (.int 1) (eV (a+8)),ag (eV (a+8)) (eV (a+9)),cj (ln (eV (a+7))) (eV (a+8)),ag (pl (eV (a+5)) (eV (a+8))) (.int 30)] else [ag (eV (a+5)) (.int 30)])
def puT(a:Nat)(k:Bool):E:=if k then eV (a+7)else qB
def jm(a:Nat)(k:Bool):List E:=(List.range 5).map (fun j=>eV (a+j))++[puT a k]
def IZ(e:E):Blk:=⟨true,.cells [ii e] (.int 1) 53⟩
def clC(b:Nat):SV:=.func (.func 58) [] [dC b]
def Zn:SV:=.func (.func 59) [] []
def Bp(any:Bool)(e:E):E:=if any then .int (-1)else e
def Gy(e:E):List E:=[ag (.int 0) e,ag e (.int 3)]
def Me(any:Bool):T Blk:=cn (k9 (eV 0) (eV 1) (eV 2)::if any then [] else [IZ (eV 3)])
def LV(any:Bool):Nat:=if any then 1 else 2
def wD:List E:=[ag (.int 0) (eV 1),ag (eV 1) (eV 2),cj (ln (eV 0)) (tm (eV 1) (.int 2)),ag (eV 1) (.int 30)]++Gy (eV 3)
def Pv(any:Bool):SV:=if any then Zn else clC 1
def XQ(any:Bool):Pact:=⟨85,[.nslice 0 (eV 1) (eV 2),Pv any],⟨if any then 3 else 4,LV any,Me any,if any then wD.take 4 else wD⟩,
 [(ii (eV 4),⟨5,LV any,Me any,[cj (eV 4) (ba 175 [Bp any (eV 3),eV 0,eV 1]),ag (.int (-1)) (eV 4),ny (eV 4) (eV 1)]⟩)]⟩
def tXF(any:Bool):Tmpl:=⟨dr 19 [(0,.nslice 0 (eV 1) (eV 2)),(1,Pv any),(6,.nslice 0 (eV 1) (eV 2)),(7,ii (eV 1)),(8,ii (eV 8))],⟨9,LV any,Me any,(if any then wD.take 4 else wD)++[ag (.int 0) (eV 8),ag (eV 8) (eV 1),cj (ba 175 [Bp any (eV 3),eV 0,eV 8]) (.int (-1))]⟩,mi (eV 1) (eV 8)⟩
def Rp(any:Bool):List Ann:=[⟨85,0,[tXF any],none⟩]
def an2:List E:=wD.take 4++[ag (.int 0) (eV 3),ny (eV 3) (eV 1),cj (eV 4) (.ar .add .i64 (eV 3) (.int 1))]
def atE:Pact:=⟨86,[.nslice 0 (eV 1) (eV 2),ii (eV 3),ii (eV 4)],⟨5,1,cn [k9 (eV 0) (eV 1) (eV 2)],an2⟩,
 [(.nslice 0 (eV 6) (eV 2),⟨7,1,cn [k9 (eV 5) (eV 6) (eV 2)],[cj (eV 6) (mi (eV 1) (.int 1)),cj (ln (eV 5)) (tm (eV 6) (.int 2)),ba 186 [eV 5,eV 0,eV 3]]⟩)]⟩
def rF(rb tb a:Nat)(k:Bool):Blk:=It (.nslice rb (eV (a+5)) (eV (a+6))) (if k then .nslice tb (eV (a+8)) (eV (a+9))else .nils) a
def n7(a:Nat):List E:=[gX 188 ((List.range 4).map fun j=>eV (a+j))]
def Kg(any:Bool):List Blk:=if any then [] else [IZ (eV 10)]
def tpV(any:Bool):SV:=if any then Zn else clC 3
def DC(any:Bool):Nat:=if any then 3 else 4
def al2(k any:Bool):Pact:=⟨57,[dC 0,tpV any],⟨11,DC any,cn (BE 0 0 k++Kg any),ku 0 k++Gy (eV 10)⟩,
  [(.bool (.bool true),⟨22,DC any+1,cn ([It (.nslice 1 (eV 17) (eV 18)) (.nslice (DC any) (eV 20) (eV 21)) 12|>fun b=>⟨true,match b.obj with | .cells (_ ::_ ::_ ::_ ::r) t e=> .cells (((List.range 4).map fun j=>ii (eV j))++r) t e | o=>o⟩,k9 (eV 16) (eV 17) (eV 18),gone]++Kg any++[kQ (eV 19) (eV 20) (eV 21)]),
      ku 12 true++[cj (eV 17) (mi (eV 5) (.int 1)),cj (eV 20) (if k then pl (eV 8) (.int 1)else .int 1),gX 174 [eV 16,eV 19,Bp any (eV 10),eV 4,puT 0 k]]⟩),
   (.bool (.bool false),⟨11,DC any,cn (BE 0 0 k++Kg any),[cj (ba 175 [Bp any (eV 10),eV 4,eV 5]) (.int (-1))]⟩)]⟩
def CV(k any:Bool):Pact:=let s:=al2 k any;if any then {s with st:={s.st with pc:=ku 0 k++[cj (eV 10) (.int 0)]}} else s
def WM(k:Bool):List E:=ku 0 k++n7 0++Gy (eV 10)++[ag (.int 0) (eV 11),ag (eV 11) (.int 20)]
def aew(k:Bool):SV×St:=(.bool (.bool true),⟨22,4,cn [rF 1 3 12 true,k9 (eV 16) (eV 17) (eV 18),gone,kQ (eV 19) (eV 20) (eV 21)],ku 12 true++n7 12++[gX 170 (jm 12 true++[eV 10,eV 11]++jm 0 k)]⟩)
def arT:SV×St:=(.bool (.bool true),⟨19,3,cn [rF 1 3 12 false,k9 (eV 16) (eV 17) (eV 18),gone],ku 12 false++n7 12++[gX 170 (jm 12 false++[eV 10,eV 11]++jm 0 false)]⟩)
def alM(k:Bool):SV×St:=(.bool (.bool false),⟨12,3,cn [gone,gone,gone],[gX 171 ([eV 10,eV 11]++jm 0 k)]⟩)
def ZR(k:Bool):Pact:=⟨37,[dC 0,ii (eV 10),ii (eV 11)],⟨12,3,cn (BE 0 0 k),WM k⟩,(if k then [aew k] else [arT,aew k])++[alM k]⟩
def Mj(k k':Bool):Tmpl:=⟨dr 36 [(0,dC 0),(2,ii (eV 11)),(4,dC 25),(7,ii (eV 34))],⟨35,26,cn ([rF 1 24 24 k',k9 (eV 28) (eV 29) (eV 30)]++List.replicate 22 gone++[if k' then kQ (eV 31) (eV 32) (eV 33)else gone,IZ (eV 10)]),
 WM k++ku 24 k'++n7 24++[ag (.int 0) (eV 34),ag (eV 34) (eV 11),gX 170 (jm 24 k'++[eV 10,eV 34]++jm 0 k),.imp (ny (eV 34) (eV 11)) (gX 185 ((List.range 4).map (fun j=>eV (24+j))++[eV 10]))]⟩,mi (eV 11) (eV 34)⟩
def ads(k:Bool):List Ann:=[⟨37,0,if k then [Mj true true] else [Mj false false,Mj false true],none⟩]
def aDn(k:Bool):List E:=ku 0 k++n7 0
def OB(k:Bool):SV×St:=(.bool (.bool true),⟨22,4,cn [rF 1 3 12 true,k9 (eV 16) (eV 17) (eV 18),gone,kQ (eV 19) (eV 20) (eV 21)],ku 12 true++n7 12++[gX 170 (jm 12 true++[.int 4,.int 1]++jm 0 k)]⟩)
def auh:SV×St:=(.bool (.bool true),⟨19,3,cn [rF 1 3 12 false,k9 (eV 16) (eV 17) (eV 18),gone],ku 12 false++n7 12++[gX 170 (jm 12 false++[.int 4,.int 1]++jm 0 false)]⟩)
def aGx(k:Bool):SV×St:=(.bool (.bool false),⟨10,3,cn [gone,gone,gone],[gX 171 ([.int 4,.int 1]++jm 0 k)]⟩)
def ae6(k:Bool):Pact:=⟨38,[dC 0],⟨10,3,cn (BE 0 0 k),aDn k⟩,(if k then [OB k] else [auh,OB k])++[aGx k]⟩
def oL:List E:=(List.range 5).map fun j=>eV (3+j)
def Jc:List E:=oL.take 4++[eV 0,eV 1,eV 2]
def rh:E:=vA (eV 1) (eV 2)
def rl:E:=ba 146 oL
def awA:SV:=.agg [ii (.int 0),ii (.int 0),ii (.int 0),ii (.int 0)]
def acK(m:Nat)(l:E):E:=gX 183 ((List.range 4).map (fun j=>eV (m+j))++[l]++oL++[eV 0,eV 1,eV 2])
def Iv:E:=gX 177 ([.int 4,eV 7]++Jc)
def adz(e:Int)(c:List E):SV×St:=(.tup [.nils,awA,ii (.int e)],⟨8,0,.nil,c⟩)
def aw8:SV×St:=(.tup [.nils,.agg (W6 8),ii (.int 0)],⟨12,0,.nil,[acK 8 qB,rh,rl]⟩)
def aBo:SV×St:=(.tup [.nslice 0 (eV 13) (eV 14),.agg (W6 8),ii (.int 0)],⟨15,1,cn [kQ (eV 12) (eV 13) (eV 14)],[acK 8 (eV 12),rh,rl,ag (.int 1) (eV 13),ag (eV 13) (eV 14),ag (eV 13) (.int 30),cj (ln (eV 12)) (eV 13)]⟩)
def DN:List SV:=[.bsl kC (eV 0),gJ (eV 1),ii (eV 2),.agg (oL.map ii)]
def aGv:Pact:=⟨17,DN,⟨8,0,.nil,qk⟩,[adz 2 [.not (.and rh rl)],adz 12 [Iv,rh,rl],aw8,aBo]⟩
def at6:Pact:=⟨36,[.agg ((List.range 5).map fun j=>ii (eV j))],⟨5,0,.nil,[]⟩,[(.bool (eV 5),⟨6,0,.nil,[.iff (eV 5) (ba 146 ((List.range 5).map eV))]⟩)]⟩
def aCg(a:Nat)(k:Bool)(n:E):E:=gX 176 (jm a k++[.int 4,n]++Jc)
def zB:Blk:=⟨true,.cells [ii (.int 0),ii (.int 0),ii (.int 0),ii (.int 0)] (.int 4) 25⟩
def Ni(m:Nat):Tmpl:=let k:=m==1
  ⟨dr 76 [(8,.nils),(9,dC 24),(10,ii (.int 0)),(11,dC 25),(12,.bool (.bool (m != 2))),(51,ii (eV 7)),(52,ii (eV 74))],⟨75,28,cn (List.replicate 24 gone++[zB]++(if m==2 then [gone,gone,gone] else [rF 26 27 64 k,k9 (eV 68) (eV 69) (eV 70),if k then kQ (eV 71) (eV 72) (eV 73)else gone])),
   qk++[rh,rl,ag (.int 0) (eV 7),ag (eV 7) (.int 20),ag (.int 0) (eV 74),ag (eV 74) (eV 7)]++(if m==2 then [Iv] else ku 64 k++n7 64++[aCg 64 k (eV 74)])⟩,mi (eV 7) (eV 74)⟩
def ap4:Blk:=⟨true,.cells (oL.map ii) (.int 5) 42⟩
def JW(m:Nat):Tmpl:=let k:=m==1
  ⟨dr 76 [(7,dC 16),(8,.nils),(9,dC 17),(10,ii (.int 0)),(11,dC 18),(12,.bool (.bool (m != 2))),(37,.agg ((oL.take 4).map ii)),(38,ii (eV 34))],⟨35,21,cn (List.replicate 16 gone++[ap4,zB]++(if m==2 then [gone,gone,gone] else [rF 19 20 24 k,k9 (eV 28) (eV 29) (eV 30),if k then kQ (eV 31) (eV 32) (eV 33)else gone])),
   qk++[rh,rl,ag (.int 0) (eV 34),ag (eV 34) (.int 4)]++(if m==2 then [Iv] else ku 24 k++n7 24++[gX 176 (jm 24 k++[eV 34,.int 0]++Jc)])⟩,mi (.int 4) (eV 34)⟩
def aIw:List Ann:=[⟨17,0,[JW 0,JW 1,JW 2],none⟩,⟨17,2,[Ni 0,Ni 1,Ni 2],none⟩]
def ady:E:=gX 182 (oL++[eV 0,eV 1,eV 2])
def aj1:Pact:=⟨18,DN,⟨8,0,.nil,qk⟩,[(.bool (eV 8),⟨9,0,.nil,[.iff (eV 8) ady]⟩)]⟩
def HQ(f:FuncId)(ks:List CK)(w:Int):Pact:=⟨f,[.bsl ks (eV 0)],⟨1,0,.nil,[ag (dG w (eV 0)) (.int 100)]⟩,[(.bsl ks (eV 1),⟨2,0,.nil,[ba 200 [eV 1,eV 0],.fn 201 (eV 1)]⟩)]⟩
def adM(f:FuncId)(ks:List CK)(w:Int)(t:TypeId):Pact:=⟨f,[.bsl ks (eV 0)],⟨1,0,.nil,[ag (dG w (eV 0)) (.int 100)]⟩,
 [(.nslice 0 (eV 2) (eV 3),⟨4,1,cn [⟨true,.flat ks (eV 1) (eV 2) (eV 3) t⟩],[ba 200 [eV 1,eV 0],ag (.int 0) (eV 2),ag (eV 2) (eV 3),cj (eV 2) (dG w (eV 0))]⟩)]⟩
def ap2:Pact:=⟨67,[.bsl iq (eV 0)],⟨1,0,.nil,aa8⟩,[(.bsl iq (eV 1),⟨2,0,.nil,[ba 187 [eV 1,eV 0],.fn 195 (eV 1)]⟩)]⟩
def tWi:Tmpl:=⟨dr 24 [(0,.bsl iq (eV 0)),(2,.nils),(3,.nslice 8 (eV 9) (eV 10)),(8,ii (eV 9)),(9,ii (eV 11))],⟨12,9,cn (List.replicate 8 gone++[apH (eV 8) (eV 9) (eV 10)]),
 aa8++[ag (.int 0) (eV 11),ag (eV 11) (eV 9),cj (eV 9) rI,ag (eV 9) (eV 10),ba 187 [eV 8,eV 0],.fn 190 (eV 8)]⟩,mi (eV 9) (eV 11)⟩
def aDc:List Ann:=[⟨67,0,[tWi],none⟩]
def gR(b:Nat)(e:E)(n c:E):SV:=.agg (.nslice b n c::(tK e 0 kB).drop 1)
def YU(x n c:E):Blk:=⟨true,.flat kO x n c 65⟩
def amo:Pact:=⟨46,[gJ (eV 0)],⟨1,0,.nil,eQ (eV 0)⟩,[(gR 0 (eV 1) (eV 2) (eV 3),⟨5,1,cn [YU (eV 4) (eV 2) (eV 3)],[ba 196 [eV 1,eV 0],ba 200 [eV 4,cl (eV 0) 0],cj (eV 2) jx,ag (.int 0) (eV 2),ag (eV 2) (eV 3)]⟩)]⟩
def QS:List E:=[ag (.int 0) (eV 1),ag (eV 1) (eV 2),cj (ln (eV 0)) (eV 1),ag (eV 1) (.int 100),.fn 193 (eV 0)]
def aFC:Pact:=⟨47,[.nslice 0 (eV 1) (eV 2),ii (eV 3)],⟨4,1,cn [kQ (eV 0) (eV 1) (eV 2)],QS⟩,[(.tup [ii (eV 4),.bool (eV 5)],⟨6,1,cn [kQ (eV 0) (eV 1) (eV 2)],[.iff (eV 5) (S2 (eV 0) (eV 3))]⟩)]⟩
def aHg:Pact:=⟨47,[.nils,ii (eV 0)],⟨1,0,.nil,[]⟩,[(.tup [ii (eV 1),.bool (.bool false)],⟨2,0,.nil,[]⟩)]⟩
def tBs:Tmpl:=⟨dr 54 [(0,.nslice 0 (eV 1) (eV 2)),(1,ii (eV 3)),(6,ii (eV 1)),(7,ii (eV 8)),(8,ii (eV 9))],⟨10,1,cn [kQ (eV 0) (eV 1) (eV 2)],QS++[ag (.int 0) (eV 8),ag (eV 8) (eV 9),ag (eV 9) (eV 1),ba 194 [eV 0,eV 3,eV 8,eV 9]]⟩,mi (eV 9) (eV 8)⟩
def axO:List Ann:=[⟨47,0,[tBs],none⟩]
def axt:E:=gX 198 ([eV 8]++oL++[eV 0,eV 1,eV 2])
def avW:Pact:=⟨24,DN,⟨8,0,.nil,qk++[ady]⟩,[(.tup [gJ (eV 8),ii (.int 0)],⟨9,0,.nil,[axt,NW (eV 8)]⟩)]⟩
def QT:CK->SV
 |.int k=>.int k (.int 0)
 |.bool=>.bool (.bool false)
 |.str=>.str (.str ByteArray.empty)
 |.slc _=>.nils
def tPy(k:Bool):Tmpl:=⟨dr 61 [(5,dC 16),(8,dC 19),(9,ii (.int 0)),(10,if k then .nslice 17 (eV 25) (eV 26)else .nils),(38,ii (eV 28)),(39,ii (eV 31))],
  ⟨32,20,cn (List.replicate 16 gone++[⟨true,.cells (.nslice 18 (eV 28) (eV 29) ::(tK (eV 27) 0 kB).drop 1) (.int 38) 34⟩,if k then kQ (eV 24) (eV 25) (eV 26)else gone,YU (eV 30) (eV 28) (eV 29),⟨true,.cells (kB.map QT) (.int 38) 34⟩]),
   qk++[rh,rl,cj (eV 28) jE,ag (.int 0) (eV 28),ag (eV 28) (eV 29),ag (.int 0) (eV 31),ag (eV 31) (eV 28),
     ba 191 [eV 30,cl (eV 1) 0,if k then eV 24 else qB,eV 31],gX 199 ([eV 27,if k then eV 24 else qB]++oL++[eV 0,eV 1,eV 2])]++(if k then [ag (.int 1) (eV 25),ag (eV 25) (eV 26),ag (eV 25) (.int 30),cj (ln (eV 24)) (eV 25)] else [])⟩,mi (eV 28) (eV 31)⟩
def apm:List Ann:=[⟨24,0,[tPy true,tPy false],none⟩]
def aDR:List SV:=DN++[.agg ((List.range 5).map fun j=>ii (eV (8+j)))]
def L8:List E:=[NW (eV 1)]
theorem aKT:∀F:Env,E.B F sQ=true:=fun F=>rfl
structure Nl where
 l:List Nat1
 h:∀x∈l,aW Try.prog x
def nc{x:Nat1}(h:aW Try.prog x)(n:Nl):Nl:=⟨x::n.l,fun y hy=>(List.mem_cons.1 hy).elim (fun e=>e▸h) (n.h y)⟩
theorem sc{s:Pact}(f:List Fa)(a:List Ann)(n:Nl)(ms:List FM)(ha:Fb a=true)(h:km Try.prog (fun tb=>I0 Try.prog (tb.plus (fl f) a n.l) 3000 ms s)=true):aW Try.prog (bu s):=
 aqU good (facts:=fl f) (MM f) (anns:=a) (B8 a ha) (nats:=n.l) n.h (n:=3000) (ms:=ms) h
def ZX:Nl:=⟨nats,nats_ok⟩
def p0:List Fa:=[]
theorem aH6:aW Try.prog (bu (aCr)):=sc p0 ([]) ZX ([]) (by kernel_rfl) (by kernel_rfl)
def Vt:Nl:=nc aH6 ZX
def p1:List Fa:=[]
theorem aCn:aW Try.prog (bu (uM 1 0 1 [] [0,0,0,1] 0)):=sc p1 ([]) Vt ([]) (by kernel_rfl) (by kernel_rfl)
def SF:Nl:=nc aCn Vt
def p2:List Fa:=[]
theorem aq9:aW Try.prog (bu (uM 2 0 0 [1] [0,0,0,2] 0)):=sc p2 ([]) SF ([]) (by kernel_rfl) (by kernel_rfl)
def P8:Nl:=nc aq9 SF
def p3:List Fa:=[]
theorem aow:aW Try.prog (bu (uM 3 0 1 [1,3] [0,0,0,1] 0)):=sc p3 ([]) P8 ([]) (by kernel_rfl) (by kernel_rfl)
def adD:Nl:=nc aow P8
def p4:List Fa:=[]
theorem aCa:aW Try.prog (bu (uM 2 0 4 [1,2,3] [0,0,0,0] 0)):=sc p4 ([]) adD ([]) (by kernel_rfl) (by kernel_rfl)
def adF:Nl:=nc aCa adD
def p5:List Fa:=[]
theorem atW:aW Try.prog (bu (uM 0 1 4 [1,2] [0,0,0,0] 0)):=sc p5 ([]) adF ([]) (by kernel_rfl) (by kernel_rfl)
def VL:Nl:=nc atW adF
def p6:List Fa:=[]
theorem aGA:aW Try.prog (bu (uM 0 2 0 [] [0,0,0,0] 12)):=sc p6 ([]) VL ([]) (by kernel_rfl) (by kernel_rfl)
def agp:Nl:=nc aGA VL
def p7:List Fa:=[]
theorem apA:aW Try.prog (bu (arg)):=sc p7 ([]) agp ([]) (by kernel_rfl) (by kernel_rfl)
def aeD:Nl:=nc apA agp
def p8:List Fa:=[]
theorem aoM:aW Try.prog (bu (aHF)):=sc p8 ([]) aeD ([]) (by kernel_rfl) (by kernel_rfl)
def ag2:Nl:=nc aoM aeD
def p9:List Fa:=[]
theorem amC:aW Try.prog (bu (Oo 0 0 0 0 6 true)):=sc p9 ([]) ag2 ([]) (by kernel_rfl) (by kernel_rfl)
def afq:Nl:=nc amC ag2
def aj:List Fa:=[]
theorem ajm:aW Try.prog (bu (Oo 0 0 0 0 7 false)):=sc aj ([]) afq ([]) (by kernel_rfl) (by kernel_rfl)
def adW:Nl:=nc ajm afq
def ak:List Fa:=[]
theorem auZ:aW Try.prog (bu (Oo 0 0 1 0 0 false)):=sc ak ([]) adW ([]) (by kernel_rfl) (by kernel_rfl)
def AQ:Nl:=nc auZ adW
end
end Go.Proofs.Ytnnbmcfabojjjaa.payHolds
