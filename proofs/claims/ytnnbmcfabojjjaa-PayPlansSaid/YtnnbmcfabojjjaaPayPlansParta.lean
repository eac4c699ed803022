/-
  PayPlans: contracts of functions, part 1.
-/
import Derived.Test.YtnnbmcfabojjjaaRows
import Derived.Test.YtnnbmcfabojjjaaNat
import Derived.WalkKit
import Derived.ProofKit
import Derived.OpenShut
import Derived.ChangeOld
import Derived.Below
import Derived.KernelRfl
import Derived.Lib.SmallJoins
import Derived.Laws.IdiomArrays
namespace Go.Proofs.Ytnnbmcfabojjjaa.payPlans
open Go.ChangeShapes Go.WideShapes Go.ChangeAt Go.RowKit
open Go.SX
open Go.SX.E (fn pr cmp var)
set_option linter.unusedVariables false
set_option linter.unusedSimpArgs false
set_option maxRecDepth 100000
noncomputable section
theorem own:ownKnob Try.prog.godebug=none:=by kernel_rfl
theorem laidOut:laidOutB Try.prog=true:=by kernel_rfl
theorem good:i7 Try.prog=true:=by kernel_rfl

theorem aqq{G:Type}{cs:Array G}(h:cs.size=5):∃c0 c1 c2 c3 c4,cs=#[c0,c1,c2,c3,c4]:=by
 obtain⟨l⟩:=cs
 match l,h with
 |[c0,c1,c2,c3,c4],_=>exact⟨c0,c1,c2,c3,c4,rfl⟩
theorem arX{H:Type}{W:World}{base:Nat}{enc:TypeId×Value->H}{v:Value}{d:DataW H}{p:List MemPlace}(o:Value.okWide Try.prog W .any base 42 v)
  (h:DataW.Trod enc Try.prog W 0 (fun _=>true) true 42 v d p):∃x0 x1 x2 x3 x4:Int,v=.agg #[.int .i64 x0,.int .i64 x1,.int .i64 x2,.int .i64 x3,.int .i64 x4]/\
   (Lit.int .i64 x0).wf=true/\(Lit.int .i64 x1).wf=true/\(Lit.int .i64 x2).wf=true/\(Lit.int .i64 x3).wf=true/\(Lit.int .i64 x4).wf=true:=by
 obtain⟨cs,rfl,hsz⟩:=okWide_struct Try.underlying42 o
 have hC:Try.prog.cellsOf 42=5:=by kernel_rfl
 obtain⟨c0,c1,c2,c3,c4,rfl⟩:=aqq (hsz.trans hC)
 obtain⟨fuel,hf⟩:=h
 obtain⟨y0,y1,n,hx,_,h0,h1⟩:=trod_struct2 Try.underlying42 hf
 have e25:Try.prog.cellsOf 25=4:=by kernel_rfl
 have e3:Try.prog.cellsOf 3=1:=by kernel_rfl
 simp[Value.cells,e25,e3]at h0 h1
 obtain⟨z0,z1,z2,z3,m,_,k0,k1,k2,k3⟩:=trod_array4 Try.underlying25 e3 h0
 obtain⟨x0,a0,_,w0⟩:=DataW.trod_int Try.underlying3 k0
 obtain⟨x1,a1,_,w1⟩:=DataW.trod_int Try.underlying3 k1
 obtain⟨x2,a2,_,w2⟩:=DataW.trod_int Try.underlying3 k2
 obtain⟨x3,a3,_,w3⟩:=DataW.trod_int Try.underlying3 k3
 obtain⟨x4,a4,_,w4⟩:=DataW.trod_int Try.underlying3 h1
 simp only[List.cons.injEq,and_true]at a0 a1 a2 a3 a4;subst a0 a1 a2 a3 a4
 exact⟨x0,x1,x2,x3,x4,rfl,w0,w1,w2,w3,w4⟩
theorem aAR{H:Type}:BulkOk (zK (H:=H)) xY:=WS
theorem azh{us:List U}(h:us.length=38)(t:U.typs us Ah []=true):(U.typs us Ah []&&us.length==38)=true:=by rw[t,h];rfl

abbrev Tr(f:E):Prop:=∀F:Env,E.B F f=true
theorem ac{e:E}{l:List E}(h:Tr e)(hl:∀e∈l,Tr e):∀x∈e::l,Tr x:=all_cons h hl
structure Fa where
 e:E
 t:Tr e
def fa(e:E)(t:Tr e):Fa:=⟨e,t⟩
def ans:E->List E->E
 |a,[]=>a
 |a,b::l=>.and a (ans b l)
def cM:List E->E->E
 |[],d=>d
 |a::l,d=>.imp (ans a l) d
def fb(l:List E)(d:E)(t:Tr (cM l d)):Fa:=⟨cM l d,t⟩
def fl:List Fa->List E
 |[]=>[]
 |x::l=>x.e::fl l
theorem gh:∀l:List Fa,∀e∈fl l,Tr e
 |[],e,h=>by cases h
 |x::l,e,h=>(List.mem_cons.1 h).elim (fun h=>h▸x.t) (gh l e)
def fK:Fa:=fa w8 fun F=>rfl
theorem aq{a0 d:E}(h:∀F:Env,E.B F a0=true->E.B F d=true):Tr (cM [a0] d):=fun F=>by
 show E.B F (.imp a0 d)=true
 rw[cR]
 rintro p0
 exact h F p0
theorem ak{a0 a1 d:E}(h:∀F:Env,E.B F a0=true->E.B F a1=true->E.B F d=true):Tr (cM [a0,a1] d):=fun F=>by
 show E.B F (.imp (.and a0 a1) d)=true
 rw[cR]
 simp only[cV]
 rintro⟨p0,p1⟩
 exact h F p0 p1
theorem af{a0 a1 a2 d:E}(h:∀F:Env,E.B F a0=true->E.B F a1=true->E.B F a2=true->E.B F d=true):Tr (cM [a0,a1,a2] d):=fun F=>by
 show E.B F (.imp (.and a0 (.and a1 a2)) d)=true
 rw[cR]
 simp only[cV]
 rintro⟨p0,p1,p2⟩
 exact h F p0 p1 p2
theorem aj{a0 a1 a2 a3 d:E}(h:∀F:Env,E.B F a0=true->E.B F a1=true->E.B F a2=true->E.B F a3=true->E.B F d=true):Tr (cM [a0,a1,a2,a3] d):=fun F=>by
 show E.B F (.imp (.and a0 (.and a1 (.and a2 a3))) d)=true
 rw[cR]
 simp only[cV]
 rintro⟨p0,p1,p2,p3⟩
 exact h F p0 p1 p2 p3
theorem aB{a0 a1 a2 a3 a4 d:E}(h:∀F:Env,E.B F a0=true->E.B F a1=true->E.B F a2=true->E.B F a3=true->E.B F a4=true->E.B F d=true):Tr (cM [a0,a1,a2,a3,a4] d):=fun F=>by
 show E.B F (.imp (.and a0 (.and a1 (.and a2 (.and a3 a4)))) d)=true
 rw[cR]
 simp only[cV]
 rintro⟨p0,p1,p2,p3,p4⟩
 exact h F p0 p1 p2 p3 p4
theorem be{a0 a1 a2 a3 a4 a5 d:E}(h:∀F:Env,E.B F a0=true->E.B F a1=true->E.B F a2=true->E.B F a3=true->E.B F a4=true->E.B F a5=true->E.B F d=true):Tr (cM [a0,a1,a2,a3,a4,a5] d):=fun F=>by
 show E.B F (.imp (.and a0 (.and a1 (.and a2 (.and a3 (.and a4 a5))))) d)=true
 rw[cR]
 simp only[cV]
 rintro⟨p0,p1,p2,p3,p4,p5⟩
 exact h F p0 p1 p2 p3 p4 p5
theorem bb{a0 a1 a2 a3 a4 a5 a6 d:E}(h:∀F:Env,E.B F a0=true->E.B F a1=true->E.B F a2=true->E.B F a3=true->E.B F a4=true->E.B F a5=true->E.B F a6=true->E.B F d=true):Tr (cM [a0,a1,a2,a3,a4,a5,a6] d):=fun F=>by
 show E.B F (.imp (.and a0 (.and a1 (.and a2 (.and a3 (.and a4 (.and a5 a6)))))) d)=true
 rw[cR]
 simp only[cV]
 rintro⟨p0,p1,p2,p3,p4,p5,p6⟩
 exact h F p0 p1 p2 p3 p4 p5 p6
theorem ba{a0 a1 a2 a3 a4 a5 a6 a7 d:E}(h:∀F:Env,E.B F a0=true->E.B F a1=true->E.B F a2=true->E.B F a3=true->E.B F a4=true->E.B F a5=true->E.B F a6=true->E.B F a7=true->E.B F d=true):Tr (cM [a0,a1,a2,a3,a4,a5,a6,a7] d):=fun F=>by
 show E.B F (.imp (.and a0 (.and a1 (.and a2 (.and a3 (.and a4 (.and a5 (.and a6 a7))))))) d)=true
 rw[cR]
 simp only[cV]
 rintro⟨p0,p1,p2,p3,p4,p5,p6,p7⟩
 exact h F p0 p1 p2 p3 p4 p5 p6 p7
theorem bh{a0 a1 a2 a3 a4 a5 a6 a7 a8 d:E}(h:∀F:Env,E.B F a0=true->E.B F a1=true->E.B F a2=true->E.B F a3=true->E.B F a4=true->E.B F a5=true->E.B F a6=true->E.B F a7=true->E.B F a8=true->E.B F d=true):Tr (cM [a0,a1,a2,a3,a4,a5,a6,a7,a8] d):=fun F=>by
 show E.B F (.imp (.and a0 (.and a1 (.and a2 (.and a3 (.and a4 (.and a5 (.and a6 (.and a7 a8)))))))) d)=true
 rw[cR]
 simp only[cV]
 rintro⟨p0,p1,p2,p3,p4,p5,p6,p7,p8⟩
 exact h F p0 p1 p2 p3 p4 p5 p6 p7 p8
theorem bE{a0 a1 a2 a3 a4 a5 a6 a7 a8 a9 d:E}(h:∀F:Env,E.B F a0=true->E.B F a1=true->E.B F a2=true->E.B F a3=true->E.B F a4=true->E.B F a5=true->E.B F a6=true->E.B F a7=true->E.B F a8=true->E.B F a9=true->E.B F d=true):Tr (cM [a0,a1,a2,a3,a4,a5,a6,a7,a8,a9] d):=fun F=>by
 show E.B F (.imp (.and a0 (.and a1 (.and a2 (.and a3 (.and a4 (.and a5 (.and a6 (.and a7 (.and a8 a9))))))))) d)=true
 rw[cR]
 simp only[cV]
 rintro⟨p0,p1,p2,p3,p4,p5,p6,p7,p8,p9⟩
 exact h F p0 p1 p2 p3 p4 p5 p6 p7 p8 p9
theorem dH{a0 a1 a2 a3 a4 a5 a6 a7 a8 a9 a10 d:E}(h:∀F:Env,E.B F a0=true->E.B F a1=true->E.B F a2=true->E.B F a3=true->E.B F a4=true->E.B F a5=true->E.B F a6=true->E.B F a7=true->E.B F a8=true->E.B F a9=true->E.B F a10=true->E.B F d=true):Tr (cM [a0,a1,a2,a3,a4,a5,a6,a7,a8,a9,a10] d):=fun F=>by
 show E.B F (.imp (.and a0 (.and a1 (.and a2 (.and a3 (.and a4 (.and a5 (.and a6 (.and a7 (.and a8 (.and a9 a10)))))))))) d)=true
 rw[cR]
 simp only[cV]
 rintro⟨p0,p1,p2,p3,p4,p5,p6,p7,p8,p9,ai⟩
 exact h F p0 p1 p2 p3 p4 p5 p6 p7 p8 p9 ai
theorem fu{a0 a1 a2 a3 a4 a5 a6 a7 a8 a9 a10 a11 d:E}(h:∀F:Env,E.B F a0=true->E.B F a1=true->E.B F a2=true->E.B F a3=true->E.B F a4=true->E.B F a5=true->E.B F a6=true->E.B F a7=true->E.B F a8=true->E.B F a9=true->E.B F a10=true->E.B F a11=true->E.B F d=true):Tr (cM [a0,a1,a2,a3,a4,a5,a6,a7,a8,a9,a10,a11] d):=fun F=>by
 show E.B F (.imp (.and a0 (.and a1 (.and a2 (.and a3 (.and a4 (.and a5 (.and a6 (.and a7 (.and a8 (.and a9 (.and a10 a11))))))))))) d)=true
 rw[cR]
 simp only[cV]
 rintro⟨p0,p1,p2,p3,p4,p5,p6,p7,p8,p9,ai,ao⟩
 exact h F p0 p1 p2 p3 p4 p5 p6 p7 p8 p9 ai ao
theorem fV{a0 a1 a2 a3 a4 a5 a6 a7 a8 a9 a10 a11 a12 d:E}(h:∀F:Env,E.B F a0=true->E.B F a1=true->E.B F a2=true->E.B F a3=true->E.B F a4=true->E.B F a5=true->E.B F a6=true->E.B F a7=true->E.B F a8=true->E.B F a9=true->E.B F a10=true->E.B F a11=true->E.B F a12=true->E.B F d=true):Tr (cM [a0,a1,a2,a3,a4,a5,a6,a7,a8,a9,a10,a11,a12] d):=fun F=>by
 show E.B F (.imp (.and a0 (.and a1 (.and a2 (.and a3 (.and a4 (.and a5 (.and a6 (.and a7 (.and a8 (.and a9 (.and a10 (.and a11 a12)))))))))))) d)=true
 rw[cR]
 simp only[cV]
 rintro⟨p0,p1,p2,p3,p4,p5,p6,p7,p8,p9,ai,ao,aw⟩
 exact h F p0 p1 p2 p3 p4 p5 p6 p7 p8 p9 ai ao aw
theorem ub{a0 a1 a2 a3 a4 a5 a6 a7 a8 a9 a10 a11 a12 a13 d:E}(h:∀F:Env,E.B F a0=true->E.B F a1=true->E.B F a2=true->E.B F a3=true->E.B F a4=true->E.B F a5=true->E.B F a6=true->E.B F a7=true->E.B F a8=true->E.B F a9=true->E.B F a10=true->E.B F a11=true->E.B F a12=true->E.B F a13=true->E.B F d=true):Tr (cM [a0,a1,a2,a3,a4,a5,a6,a7,a8,a9,a10,a11,a12,a13] d):=fun F=>by
 show E.B F (.imp (.and a0 (.and a1 (.and a2 (.and a3 (.and a4 (.and a5 (.and a6 (.and a7 (.and a8 (.and a9 (.and a10 (.and a11 (.and a12 a13))))))))))))) d)=true
 rw[cR]
 simp only[cV]
 rintro⟨p0,p1,p2,p3,p4,p5,p6,p7,p8,p9,ai,ao,aw,aD⟩
 exact h F p0 p1 p2 p3 p4 p5 p6 p7 p8 p9 ai ao aw aD
theorem Cw{a0 a1 a2 a3 a4 a5 a6 a7 a8 a9 a10 a11 a12 a13 a14 d:E}(h:∀F:Env,E.B F a0=true->E.B F a1=true->E.B F a2=true->E.B F a3=true->E.B F a4=true->E.B F a5=true->E.B F a6=true->E.B F a7=true->E.B F a8=true->E.B F a9=true->E.B F a10=true->E.B F a11=true->E.B F a12=true->E.B F a13=true->E.B F a14=true->E.B F d=true):Tr (cM [a0,a1,a2,a3,a4,a5,a6,a7,a8,a9,a10,a11,a12,a13,a14] d):=fun F=>by
 show E.B F (.imp (.and a0 (.and a1 (.and a2 (.and a3 (.and a4 (.and a5 (.and a6 (.and a7 (.and a8 (.and a9 (.and a10 (.and a11 (.and a12 (.and a13 a14)))))))))))))) d)=true
 rw[cR]
 simp only[cV]
 rintro⟨p0,p1,p2,p3,p4,p5,p6,p7,p8,p9,ai,ao,aw,aD,aG⟩
 exact h F p0 p1 p2 p3 p4 p5 p6 p7 p8 p9 ai ao aw aD aG
theorem pQ{a0 a1 a2 a3 a4 a5 a6 a7 a8 a9 a10 a11 a12 a13 a14 a15 d:E}(h:∀F:Env,E.B F a0=true->E.B F a1=true->E.B F a2=true->E.B F a3=true->E.B F a4=true->E.B F a5=true->E.B F a6=true->E.B F a7=true->E.B F a8=true->E.B F a9=true->E.B F a10=true->E.B F a11=true->E.B F a12=true->E.B F a13=true->E.B F a14=true->E.B F a15=true->E.B F d=true):Tr (cM [a0,a1,a2,a3,a4,a5,a6,a7,a8,a9,a10,a11,a12,a13,a14,a15] d):=fun F=>by
 show E.B F (.imp (.and a0 (.and a1 (.and a2 (.and a3 (.and a4 (.and a5 (.and a6 (.and a7 (.and a8 (.and a9 (.and a10 (.and a11 (.and a12 (.and a13 (.and a14 a15))))))))))))))) d)=true
 rw[cR]
 simp only[cV]
 rintro⟨p0,p1,p2,p3,p4,p5,p6,p7,p8,p9,ai,ao,aw,aD,aG,aH⟩
 exact h F p0 p1 p2 p3 p4 p5 p6 p7 p8 p9 ai ao aw aD aG aH
theorem EY{a0 a1 a2 a3 a4 a5 a6 a7 a8 a9 a10 a11 a12 a13 a14 a15 a16 d:E}(h:∀F:Env,E.B F a0=true->E.B F a1=true->E.B F a2=true->E.B F a3=true->E.B F a4=true->E.B F a5=true->E.B F a6=true->E.B F a7=true->E.B F a8=true->E.B F a9=true->E.B F a10=true->E.B F a11=true->E.B F a12=true->E.B F a13=true->E.B F a14=true->E.B F a15=true->E.B F a16=true->E.B F d=true):Tr (cM [a0,a1,a2,a3,a4,a5,a6,a7,a8,a9,a10,a11,a12,a13,a14,a15,a16] d):=fun F=>by
 show E.B F (.imp (.and a0 (.and a1 (.and a2 (.and a3 (.and a4 (.and a5 (.and a6 (.and a7 (.and a8 (.and a9 (.and a10 (.and a11 (.and a12 (.and a13 (.and a14 (.and a15 a16)))))))))))))))) d)=true
 rw[cR]
 simp only[cV]
 rintro⟨p0,p1,p2,p3,p4,p5,p6,p7,p8,p9,ai,ao,aw,aD,aG,aH,aT⟩
 exact h F p0 p1 p2 p3 p4 p5 p6 p7 p8 p9 ai ao aw aD aG aH aT
theorem AN{a0 a1 a2 a3 a4 a5 a6 a7 a8 a9 a10 a11 a12 a13 a14 a15 a16 a17 d:E}(h:∀F:Env,E.B F a0=true->E.B F a1=true->E.B F a2=true->E.B F a3=true->E.B F a4=true->E.B F a5=true->E.B F a6=true->E.B F a7=true->E.B F a8=true->E.B F a9=true->E.B F a10=true->E.B F a11=true->E.B F a12=true->E.B F a13=true->E.B F a14=true->E.B F a15=true->E.B F a16=true->E.B F a17=true->E.B F d=true):Tr (cM [a0,a1,a2,a3,a4,a5,a6,a7,a8,a9,a10,a11,a12,a13,a14,a15,a16,a17] d):=fun F=>by
 show E.B F (.imp (.and a0 (.and a1 (.and a2 (.and a3 (.and a4 (.and a5 (.and a6 (.and a7 (.and a8 (.and a9 (.and a10 (.and a11 (.and a12 (.and a13 (.and a14 (.and a15 (.and a16 a17))))))))))))))))) d)=true
 rw[cR]
 simp only[cV]
 rintro⟨p0,p1,p2,p3,p4,p5,p6,p7,p8,p9,ai,ao,aw,aD,aG,aH,aT,aY⟩
 exact h F p0 p1 p2 p3 p4 p5 p6 p7 p8 p9 ai ao aw aD aG aH aT aY
theorem GL{a0 a1 a2 a3 a4 a5 a6 a7 a8 a9 a10 a11 a12 a13 a14 a15 a16 a17 a18 d:E}(h:∀F:Env,E.B F a0=true->E.B F a1=true->E.B F a2=true->E.B F a3=true->E.B F a4=true->E.B F a5=true->E.B F a6=true->E.B F a7=true->E.B F a8=true->E.B F a9=true->E.B F a10=true->E.B F a11=true->E.B F a12=true->E.B F a13=true->E.B F a14=true->E.B F a15=true->E.B F a16=true->E.B F a17=true->E.B F a18=true->E.B F d=true):Tr (cM [a0,a1,a2,a3,a4,a5,a6,a7,a8,a9,a10,a11,a12,a13,a14,a15,a16,a17,a18] d):=fun F=>by
 show E.B F (.imp (.and a0 (.and a1 (.and a2 (.and a3 (.and a4 (.and a5 (.and a6 (.and a7 (.and a8 (.and a9 (.and a10 (.and a11 (.and a12 (.and a13 (.and a14 (.and a15 (.and a16 (.and a17 a18)))))))))))))))))) d)=true
 rw[cR]
 simp only[cV]
 rintro⟨p0,p1,p2,p3,p4,p5,p6,p7,p8,p9,ai,ao,aw,aD,aG,aH,aT,aY,bk⟩
 exact h F p0 p1 p2 p3 p4 p5 p6 p7 p8 p9 ai ao aw aD aG aH aT aY bk
theorem aft{a0 a1 a2 a3 a4 a5 a6 a7 a8 a9 a10 a11 a12 a13 a14 a15 a16 a17 a18 a19 d:E}(h:∀F:Env,E.B F a0=true->E.B F a1=true->E.B F a2=true->E.B F a3=true->E.B F a4=true->E.B F a5=true->E.B F a6=true->E.B F a7=true->E.B F a8=true->E.B F a9=true->E.B F a10=true->E.B F a11=true->E.B F a12=true->E.B F a13=true->E.B F a14=true->E.B F a15=true->E.B F a16=true->E.B F a17=true->E.B F a18=true->E.B F a19=true->E.B F d=true):Tr (cM [a0,a1,a2,a3,a4,a5,a6,a7,a8,a9,a10,a11,a12,a13,a14,a15,a16,a17,a18,a19] d):=fun F=>by
 show E.B F (.imp (.and a0 (.and a1 (.and a2 (.and a3 (.and a4 (.and a5 (.and a6 (.and a7 (.and a8 (.and a9 (.and a10 (.and a11 (.and a12 (.and a13 (.and a14 (.and a15 (.and a16 (.and a17 (.and a18 a19))))))))))))))))))) d)=true
 rw[cR]
 simp only[cV]
 rintro⟨p0,p1,p2,p3,p4,p5,p6,p7,p8,p9,ai,ao,aw,aD,aG,aH,aT,aY,bk,bw⟩
 exact h F p0 p1 p2 p3 p4 p5 p6 p7 p8 p9 ai ao aw aD aG aH aT aY bk bw
theorem aet{a0 a1 a2 a3 a4 a5 a6 a7 a8 a9 a10 a11 a12 a13 a14 a15 a16 a17 a18 a19 a20 d:E}(h:∀F:Env,E.B F a0=true->E.B F a1=true->E.B F a2=true->E.B F a3=true->E.B F a4=true->E.B F a5=true->E.B F a6=true->E.B F a7=true->E.B F a8=true->E.B F a9=true->E.B F a10=true->E.B F a11=true->E.B F a12=true->E.B F a13=true->E.B F a14=true->E.B F a15=true->E.B F a16=true->E.B F a17=true->E.B F a18=true->E.B F a19=true->E.B F a20=true->E.B F d=true):Tr (cM [a0,a1,a2,a3,a4,a5,a6,a7,a8,a9,a10,a11,a12,a13,a14,a15,a16,a17,a18,a19,a20] d):=fun F=>by
 show E.B F (.imp (.and a0 (.and a1 (.and a2 (.and a3 (.and a4 (.and a5 (.and a6 (.and a7 (.and a8 (.and a9 (.and a10 (.and a11 (.and a12 (.and a13 (.and a14 (.and a15 (.and a16 (.and a17 (.and a18 (.and a19 a20)))))))))))))))))))) d)=true
 rw[cR]
 simp only[cV]
 rintro⟨p0,p1,p2,p3,p4,p5,p6,p7,p8,p9,ai,ao,aw,aD,aG,aH,aT,aY,bk,bw,bF⟩
 exact h F p0 p1 p2 p3 p4 p5 p6 p7 p8 p9 ai ao aw aD aG aH aT aY bk bw bF
theorem aoQ{a0 a1 a2 a3 a4 a5 a6 a7 a8 a9 a10 a11 a12 a13 a14 a15 a16 a17 a18 a19 a20 a21 d:E}(h:∀F:Env,E.B F a0=true->E.B F a1=true->E.B F a2=true->E.B F a3=true->E.B F a4=true->E.B F a5=true->E.B F a6=true->E.B F a7=true->E.B F a8=true->E.B F a9=true->E.B F a10=true->E.B F a11=true->E.B F a12=true->E.B F a13=true->E.B F a14=true->E.B F a15=true->E.B F a16=true->E.B F a17=true->E.B F a18=true->E.B F a19=true->E.B F a20=true->E.B F a21=true->E.B F d=true):Tr (cM [a0,a1,a2,a3,a4,a5,a6,a7,a8,a9,a10,a11,a12,a13,a14,a15,a16,a17,a18,a19,a20,a21] d):=fun F=>by
 show E.B F (.imp (.and a0 (.and a1 (.and a2 (.and a3 (.and a4 (.and a5 (.and a6 (.and a7 (.and a8 (.and a9 (.and a10 (.and a11 (.and a12 (.and a13 (.and a14 (.and a15 (.and a16 (.and a17 (.and a18 (.and a19 (.and a20 a21))))))))))))))))))))) d)=true
 rw[cR]
 simp only[cV]
 rintro⟨p0,p1,p2,p3,p4,p5,p6,p7,p8,p9,ai,ao,aw,aD,aG,aH,aT,aY,bk,bw,bF,bP⟩
 exact h F p0 p1 p2 p3 p4 p5 p6 p7 p8 p9 ai ao aw aD aG aH aT aY bk bw bF bP
theorem aQA{a0 a1 a2 a3 a4 a5 a6 a7 a8 a9 a10 a11 a12 a13 a14 a15 a16 a17 a18 a19 a20 a21 a22 d:E}(h:∀F:Env,E.B F a0=true->E.B F a1=true->E.B F a2=true->E.B F a3=true->E.B F a4=true->E.B F a5=true->E.B F a6=true->E.B F a7=true->E.B F a8=true->E.B F a9=true->E.B F a10=true->E.B F a11=true->E.B F a12=true->E.B F a13=true->E.B F a14=true->E.B F a15=true->E.B F a16=true->E.B F a17=true->E.B F a18=true->E.B F a19=true->E.B F a20=true->E.B F a21=true->E.B F a22=true->E.B F d=true):Tr (cM [a0,a1,a2,a3,a4,a5,a6,a7,a8,a9,a10,a11,a12,a13,a14,a15,a16,a17,a18,a19,a20,a21,a22] d):=fun F=>by
 show E.B F (.imp (.and a0 (.and a1 (.and a2 (.and a3 (.and a4 (.and a5 (.and a6 (.and a7 (.and a8 (.and a9 (.and a10 (.and a11 (.and a12 (.and a13 (.and a14 (.and a15 (.and a16 (.and a17 (.and a18 (.and a19 (.and a20 (.and a21 a22)))))))))))))))))))))) d)=true
 rw[cR]
 simp only[cV]
 rintro⟨p0,p1,p2,p3,p4,p5,p6,p7,p8,p9,ai,ao,aw,aD,aG,aH,aT,aY,bk,bw,bF,bP,bZ⟩
 exact h F p0 p1 p2 p3 p4 p5 p6 p7 p8 p9 ai ao aw aD aG aH aT aY bk bw bF bP bZ
theorem O1{a0 a1 a2 a3 a4 a5 a6 a7 a8 a9 a10 a11 a12 a13 a14 a15 a16 a17 a18 a19 a20 a21 a22 a23 d:E}(h:∀F:Env,E.B F a0=true->E.B F a1=true->E.B F a2=true->E.B F a3=true->E.B F a4=true->E.B F a5=true->E.B F a6=true->E.B F a7=true->E.B F a8=true->E.B F a9=true->E.B F a10=true->E.B F a11=true->E.B F a12=true->E.B F a13=true->E.B F a14=true->E.B F a15=true->E.B F a16=true->E.B F a17=true->E.B F a18=true->E.B F a19=true->E.B F a20=true->E.B F a21=true->E.B F a22=true->E.B F a23=true->E.B F d=true):Tr (cM [a0,a1,a2,a3,a4,a5,a6,a7,a8,a9,a10,a11,a12,a13,a14,a15,a16,a17,a18,a19,a20,a21,a22,a23] d):=fun F=>by
 show E.B F (.imp (.and a0 (.and a1 (.and a2 (.and a3 (.and a4 (.and a5 (.and a6 (.and a7 (.and a8 (.and a9 (.and a10 (.and a11 (.and a12 (.and a13 (.and a14 (.and a15 (.and a16 (.and a17 (.and a18 (.and a19 (.and a20 (.and a21 (.and a22 a23))))))))))))))))))))))) d)=true
 rw[cR]
 simp only[cV]
 rintro⟨p0,p1,p2,p3,p4,p5,p6,p7,p8,p9,ai,ao,aw,aD,aG,aH,aT,aY,bk,bw,bF,bP,bZ,ck⟩
 exact h F p0 p1 p2 p3 p4 p5 p6 p7 p8 p9 ai ao aw aD aG aH aT aY bk bw bF bP bZ ck
theorem Yz{a0 a1 a2 a3 a4 a5 a6 a7 a8 a9 a10 a11 a12 a13 a14 a15 a16 a17 a18 a19 a20 a21 a22 a23 a24 d:E}(h:∀F:Env,E.B F a0=true->E.B F a1=true->E.B F a2=true->E.B F a3=true->E.B F a4=true->E.B F a5=true->E.B F a6=true->E.B F a7=true->E.B F a8=true->E.B F a9=true->E.B F a10=true->E.B F a11=true->E.B F a12=true->E.B F a13=true->E.B F a14=true->E.B F a15=true->E.B F a16=true->E.B F a17=true->E.B F a18=true->E.B F a19=true->E.B F a20=true->E.B F a21=true->E.B F a22=true->E.B F a23=true->E.B F a24=true->E.B F d=true):Tr (cM [a0,a1,a2,a3,a4,a5,a6,a7,a8,a9,a10,a11,a12,a13,a14,a15,a16,a17,a18,a19,a20,a21,a22,a23,a24] d):=fun F=>by
 show E.B F (.imp (.and a0 (.and a1 (.and a2 (.and a3 (.and a4 (.and a5 (.and a6 (.and a7 (.and a8 (.and a9 (.and a10 (.and a11 (.and a12 (.and a13 (.and a14 (.and a15 (.and a16 (.and a17 (.and a18 (.and a19 (.and a20 (.and a21 (.and a22 (.and a23 a24)))))))))))))))))))))))) d)=true
 rw[cR]
 simp only[cV]
 rintro⟨p0,p1,p2,p3,p4,p5,p6,p7,p8,p9,ai,ao,aw,aD,aG,aH,aT,aY,bk,bw,bF,bP,bZ,ck,cO⟩
 exact h F p0 p1 p2 p3 p4 p5 p6 p7 p8 p9 ai ao aw aD aG aH aT aY bk bw bF bP bZ ck cO
theorem adX{a0 a1 a2 a3 a4 a5 a6 a7 a8 a9 a10 a11 a12 a13 a14 a15 a16 a17 a18 a19 a20 a21 a22 a23 a24 a25 d:E}(h:∀F:Env,E.B F a0=true->E.B F a1=true->E.B F a2=true->E.B F a3=true->E.B F a4=true->E.B F a5=true->E.B F a6=true->E.B F a7=true->E.B F a8=true->E.B F a9=true->E.B F a10=true->E.B F a11=true->E.B F a12=true->E.B F a13=true->E.B F a14=true->E.B F a15=true->E.B F a16=true->E.B F a17=true->E.B F a18=true->E.B F a19=true->E.B F a20=true->E.B F a21=true->E.B F a22=true->E.B F a23=true->E.B F a24=true->E.B F a25=true->E.B F d=true):Tr (cM [a0,a1,a2,a3,a4,a5,a6,a7,a8,a9,a10,a11,a12,a13,a14,a15,a16,a17,a18,a19,a20,a21,a22,a23,a24,a25] d):=fun F=>by
 show E.B F (.imp (.and a0 (.and a1 (.and a2 (.and a3 (.and a4 (.and a5 (.and a6 (.and a7 (.and a8 (.and a9 (.and a10 (.and a11 (.and a12 (.and a13 (.and a14 (.and a15 (.and a16 (.and a17 (.and a18 (.and a19 (.and a20 (.and a21 (.and a22 (.and a23 (.and a24 a25))))))))))))))))))))))))) d)=true
 rw[cR]
 simp only[cV]
 rintro⟨p0,p1,p2,p3,p4,p5,p6,p7,p8,p9,ai,ao,aw,aD,aG,aH,aT,aY,bk,bw,bF,bP,bZ,ck,cO,df⟩
 exact h F p0 p1 p2 p3 p4 p5 p6 p7 p8 p9 ai ao aw aD aG aH aT aY bk bw bF bP bZ ck cO df
theorem akr{a0 a1 a2 a3 a4 a5 a6 a7 a8 a9 a10 a11 a12 a13 a14 a15 a16 a17 a18 a19 a20 a21 a22 a23 a24 a25 a26 d:E}(h:∀F:Env,E.B F a0=true->E.B F a1=true->E.B F a2=true->E.B F a3=true->E.B F a4=true->E.B F a5=true->E.B F a6=true->E.B F a7=true->E.B F a8=true->E.B F a9=true->E.B F a10=true->E.B F a11=true->E.B F a12=true->E.B F a13=true->E.B F a14=true->E.B F a15=true->E.B F a16=true->E.B F a17=true->E.B F a18=true->E.B F a19=true->E.B F a20=true->E.B F a21=true->E.B F a22=true->E.B F a23=true->E.B F a24=true->E.B F a25=true->E.B F a26=true->E.B F d=true):Tr (cM [a0,a1,a2,a3,a4,a5,a6,a7,a8,a9,a10,a11,a12,a13,a14,a15,a16,a17,a18,a19,a20,a21,a22,a23,a24,a25,a26] d):=fun F=>by
 show E.B F (.imp (.and a0 (.and a1 (.and a2 (.and a3 (.and a4 (.and a5 (.and a6 (.and a7 (.and a8 (.and a9 (.and a10 (.and a11 (.and a12 (.and a13 (.and a14 (.and a15 (.and a16 (.and a17 (.and a18 (.and a19 (.and a20 (.and a21 (.and a22 (.and a23 (.and a24 (.and a25 a26)))))))))))))))))))))))))) d)=true
 rw[cR]
 simp only[cV]
 rintro⟨p0,p1,p2,p3,p4,p5,p6,p7,p8,p9,ai,ao,aw,aD,aG,aH,aT,aY,bk,bw,bF,bP,bZ,ck,cO,df,dC⟩
 exact h F p0 p1 p2 p3 p4 p5 p6 p7 p8 p9 ai ao aw aD aG aH aT aY bk bw bF bP bZ ck cO df dC
theorem axD{a0 a1 a2 a3 a4 a5 a6 a7 a8 a9 a10 a11 a12 a13 a14 a15 a16 a17 a18 a19 a20 a21 a22 a23 a24 a25 a26 a27 d:E}(h:∀F:Env,E.B F a0=true->E.B F a1=true->E.B F a2=true->E.B F a3=true->E.B F a4=true->E.B F a5=true->E.B F a6=true->E.B F a7=true->E.B F a8=true->E.B F a9=true->E.B F a10=true->E.B F a11=true->E.B F a12=true->E.B F a13=true->E.B F a14=true->E.B F a15=true->E.B F a16=true->E.B F a17=true->E.B F a18=true->E.B F a19=true->E.B F a20=true->E.B F a21=true->E.B F a22=true->E.B F a23=true->E.B F a24=true->E.B F a25=true->E.B F a26=true->E.B F a27=true->E.B F d=true):Tr (cM [a0,a1,a2,a3,a4,a5,a6,a7,a8,a9,a10,a11,a12,a13,a14,a15,a16,a17,a18,a19,a20,a21,a22,a23,a24,a25,a26,a27] d):=fun F=>by
 show E.B F (.imp (.and a0 (.and a1 (.and a2 (.and a3 (.and a4 (.and a5 (.and a6 (.and a7 (.and a8 (.and a9 (.and a10 (.and a11 (.and a12 (.and a13 (.and a14 (.and a15 (.and a16 (.and a17 (.and a18 (.and a19 (.and a20 (.and a21 (.and a22 (.and a23 (.and a24 (.and a25 (.and a26 a27))))))))))))))))))))))))))) d)=true
 rw[cR]
 simp only[cV]
 rintro⟨p0,p1,p2,p3,p4,p5,p6,p7,p8,p9,ai,ao,aw,aD,aG,aH,aT,aY,bk,bw,bF,bP,bZ,ck,cO,df,dC,dY⟩
 exact h F p0 p1 p2 p3 p4 p5 p6 p7 p8 p9 ai ao aw aD aG aH aT aY bk bw bF bP bZ ck cO df dC dY
theorem aJ1{a0 a1 a2 a3 a4 a5 a6 a7 a8 a9 a10 a11 a12 a13 a14 a15 a16 a17 a18 a19 a20 a21 a22 a23 a24 a25 a26 a27 a28 d:E}(h:∀F:Env,E.B F a0=true->E.B F a1=true->E.B F a2=true->E.B F a3=true->E.B F a4=true->E.B F a5=true->E.B F a6=true->E.B F a7=true->E.B F a8=true->E.B F a9=true->E.B F a10=true->E.B F a11=true->E.B F a12=true->E.B F a13=true->E.B F a14=true->E.B F a15=true->E.B F a16=true->E.B F a17=true->E.B F a18=true->E.B F a19=true->E.B F a20=true->E.B F a21=true->E.B F a22=true->E.B F a23=true->E.B F a24=true->E.B F a25=true->E.B F a26=true->E.B F a27=true->E.B F a28=true->E.B F d=true):Tr (cM [a0,a1,a2,a3,a4,a5,a6,a7,a8,a9,a10,a11,a12,a13,a14,a15,a16,a17,a18,a19,a20,a21,a22,a23,a24,a25,a26,a27,a28] d):=fun F=>by
 show E.B F (.imp (.and a0 (.and a1 (.and a2 (.and a3 (.and a4 (.and a5 (.and a6 (.and a7 (.and a8 (.and a9 (.and a10 (.and a11 (.and a12 (.and a13 (.and a14 (.and a15 (.and a16 (.and a17 (.and a18 (.and a19 (.and a20 (.and a21 (.and a22 (.and a23 (.and a24 (.and a25 (.and a26 (.and a27 a28)))))))))))))))))))))))))))) d)=true
 rw[cR]
 simp only[cV]
 rintro⟨p0,p1,p2,p3,p4,p5,p6,p7,p8,p9,ai,ao,aw,aD,aG,aH,aT,aY,bk,bw,bF,bP,bZ,ck,cO,df,dC,dY,eS⟩
 exact h F p0 p1 p2 p3 p4 p5 p6 p7 p8 p9 ai ao aw aD aG aH aT aY bk bw bF bP bZ ck cO df dC dY eS
theorem aRk{a0 a1 a2 a3 a4 a5 a6 a7 a8 a9 a10 a11 a12 a13 a14 a15 a16 a17 a18 a19 a20 a21 a22 a23 a24 a25 a26 a27 a28 a29 d:E}(h:∀F:Env,E.B F a0=true->E.B F a1=true->E.B F a2=true->E.B F a3=true->E.B F a4=true->E.B F a5=true->E.B F a6=true->E.B F a7=true->E.B F a8=true->E.B F a9=true->E.B F a10=true->E.B F a11=true->E.B F a12=true->E.B F a13=true->E.B F a14=true->E.B F a15=true->E.B F a16=true->E.B F a17=true->E.B F a18=true->E.B F a19=true->E.B F a20=true->E.B F a21=true->E.B F a22=true->E.B F a23=true->E.B F a24=true->E.B F a25=true->E.B F a26=true->E.B F a27=true->E.B F a28=true->E.B F a29=true->E.B F d=true):Tr (cM [a0,a1,a2,a3,a4,a5,a6,a7,a8,a9,a10,a11,a12,a13,a14,a15,a16,a17,a18,a19,a20,a21,a22,a23,a24,a25,a26,a27,a28,a29] d):=fun F=>by
 show E.B F (.imp (.and a0 (.and a1 (.and a2 (.and a3 (.and a4 (.and a5 (.and a6 (.and a7 (.and a8 (.and a9 (.and a10 (.and a11 (.and a12 (.and a13 (.and a14 (.and a15 (.and a16 (.and a17 (.and a18 (.and a19 (.and a20 (.and a21 (.and a22 (.and a23 (.and a24 (.and a25 (.and a26 (.and a27 (.and a28 a29))))))))))))))))))))))))))))) d)=true
 rw[cR]
 simp only[cV]
 rintro⟨p0,p1,p2,p3,p4,p5,p6,p7,p8,p9,ai,ao,aw,aD,aG,aH,aT,aY,bk,bw,bF,bP,bZ,ck,cO,df,dC,dY,eS,fS⟩
 exact h F p0 p1 p2 p3 p4 p5 p6 p7 p8 p9 ai ao aw aD aG aH aT aY bk bw bF bP bZ ck cO df dC dY eS fS
theorem aPU{a0 a1 a2 a3 a4 a5 a6 a7 a8 a9 a10 a11 a12 a13 a14 a15 a16 a17 a18 a19 a20 a21 a22 a23 a24 a25 a26 a27 a28 a29 a30 d:E}(h:∀F:Env,E.B F a0=true->E.B F a1=true->E.B F a2=true->E.B F a3=true->E.B F a4=true->E.B F a5=true->E.B F a6=true->E.B F a7=true->E.B F a8=true->E.B F a9=true->E.B F a10=true->E.B F a11=true->E.B F a12=true->E.B F a13=true->E.B F a14=true->E.B F a15=true->E.B F a16=true->E.B F a17=true->E.B F a18=true->E.B F a19=true->E.B F a20=true->E.B F a21=true->E.B F a22=true->E.B F a23=true->E.B F a24=true->E.B F a25=true->E.B F a26=true->E.B F a27=true->E.B F a28=true->E.B F a29=true->E.B F a30=true->E.B F d=true):Tr (cM [a0,a1,a2,a3,a4,a5,a6,a7,a8,a9,a10,a11,a12,a13,a14,a15,a16,a17,a18,a19,a20,a21,a22,a23,a24,a25,a26,a27,a28,a29,a30] d):=fun F=>by
 show E.B F (.imp (.and a0 (.and a1 (.and a2 (.and a3 (.and a4 (.and a5 (.and a6 (.and a7 (.and a8 (.and a9 (.and a10 (.and a11 (.and a12 (.and a13 (.and a14 (.and a15 (.and a16 (.and a17 (.and a18 (.and a19 (.and a20 (.and a21 (.and a22 (.and a23 (.and a24 (.and a25 (.and a26 (.and a27 (.and a28 (.and a29 a30)))))))))))))))))))))))))))))) d)=true
 rw[cR]
 simp only[cV]
 rintro⟨p0,p1,p2,p3,p4,p5,p6,p7,p8,p9,ai,ao,aw,aD,aG,aH,aT,aY,bk,bw,bF,bP,bZ,ck,cO,df,dC,dY,eS,fS,h9⟩
 exact h F p0 p1 p2 p3 p4 p5 p6 p7 p8 p9 ai ao aw aD aG aH aT aY bk bw bF bP bZ ck cO df dC dY eS fS h9
theorem aNF{a0 a1 a2 a3 a4 a5 a6 a7 a8 a9 a10 a11 a12 a13 a14 a15 a16 a17 a18 a19 a20 a21 a22 a23 a24 a25 a26 a27 a28 a29 a30 a31 a32 d:E}(h:∀F:Env,E.B F a0=true->E.B F a1=true->E.B F a2=true->E.B F a3=true->E.B F a4=true->E.B F a5=true->E.B F a6=true->E.B F a7=true->E.B F a8=true->E.B F a9=true->E.B F a10=true->E.B F a11=true->E.B F a12=true->E.B F a13=true->E.B F a14=true->E.B F a15=true->E.B F a16=true->E.B F a17=true->E.B F a18=true->E.B F a19=true->E.B F a20=true->E.B F a21=true->E.B F a22=true->E.B F a23=true->E.B F a24=true->E.B F a25=true->E.B F a26=true->E.B F a27=true->E.B F a28=true->E.B F a29=true->E.B F a30=true->E.B F a31=true->E.B F a32=true->E.B F d=true):Tr (cM [a0,a1,a2,a3,a4,a5,a6,a7,a8,a9,a10,a11,a12,a13,a14,a15,a16,a17,a18,a19,a20,a21,a22,a23,a24,a25,a26,a27,a28,a29,a30,a31,a32] d):=fun F=>by
 show E.B F (.imp (.and a0 (.and a1 (.and a2 (.and a3 (.and a4 (.and a5 (.and a6 (.and a7 (.and a8 (.and a9 (.and a10 (.and a11 (.and a12 (.and a13 (.and a14 (.and a15 (.and a16 (.and a17 (.and a18 (.and a19 (.and a20 (.and a21 (.and a22 (.and a23 (.and a24 (.and a25 (.and a26 (.and a27 (.and a28 (.and a29 (.and a30 (.and a31 a32)))))))))))))))))))))))))))))))) d)=true
 rw[cR]
 simp only[cV]
 rintro⟨p0,p1,p2,p3,p4,p5,p6,p7,p8,p9,ai,ao,aw,aD,aG,aH,aT,aY,bk,bw,bF,bP,bZ,ck,cO,df,dC,dY,eS,fS,h9,jQ,jM⟩
 exact h F p0 p1 p2 p3 p4 p5 p6 p7 p8 p9 ai ao aw aD aG aH aT aY bk bw bF bP bZ ck cO df dC dY eS fS h9 jQ jM
theorem aTM{a0 a1 a2 a3 a4 a5 a6 a7 a8 a9 a10 a11 a12 a13 a14 a15 a16 a17 a18 a19 a20 a21 a22 a23 a24 a25 a26 a27 a28 a29 a30 a31 a32 a33 a34 d:E}(h:∀F:Env,E.B F a0=true->E.B F a1=true->E.B F a2=true->E.B F a3=true->E.B F a4=true->E.B F a5=true->E.B F a6=true->E.B F a7=true->E.B F a8=true->E.B F a9=true->E.B F a10=true->E.B F a11=true->E.B F a12=true->E.B F a13=true->E.B F a14=true->E.B F a15=true->E.B F a16=true->E.B F a17=true->E.B F a18=true->E.B F a19=true->E.B F a20=true->E.B F a21=true->E.B F a22=true->E.B F a23=true->E.B F a24=true->E.B F a25=true->E.B F a26=true->E.B F a27=true->E.B F a28=true->E.B F a29=true->E.B F a30=true->E.B F a31=true->E.B F a32=true->E.B F a33=true->E.B F a34=true->E.B F d=true):Tr (cM [a0,a1,a2,a3,a4,a5,a6,a7,a8,a9,a10,a11,a12,a13,a14,a15,a16,a17,a18,a19,a20,a21,a22,a23,a24,a25,a26,a27,a28,a29,a30,a31,a32,a33,a34] d):=fun F=>by
 show E.B F (.imp (.and a0 (.and a1 (.and a2 (.and a3 (.and a4 (.and a5 (.and a6 (.and a7 (.and a8 (.and a9 (.and a10 (.and a11 (.and a12 (.and a13 (.and a14 (.and a15 (.and a16 (.and a17 (.and a18 (.and a19 (.and a20 (.and a21 (.and a22 (.and a23 (.and a24 (.and a25 (.and a26 (.and a27 (.and a28 (.and a29 (.and a30 (.and a31 (.and a32 (.and a33 a34)))))))))))))))))))))))))))))))))) d)=true
 rw[cR]
 simp only[cV]
 rintro⟨p0,p1,p2,p3,p4,p5,p6,p7,p8,p9,ai,ao,aw,aD,aG,aH,aT,aY,bk,bw,bF,bP,bZ,ck,cO,df,dC,dY,eS,fS,h9,jQ,jM,nO,nZ⟩
 exact h F p0 p1 p2 p3 p4 p5 p6 p7 p8 p9 ai ao aw aD aG aH aT aY bk bw bF bP bZ ck cO df dC dY eS fS h9 jQ jM nO nZ
theorem aL3{a0 a1 a2 a3 a4 a5 a6 a7 a8 a9 a10 a11 a12 a13 a14 a15 a16 a17 a18 a19 a20 a21 a22 a23 a24 a25 a26 a27 a28 a29 a30 a31 a32 a33 a34 a35 a36 a37 a38 a39 a40 a41 a42 a43 a44 d:E}(h:∀F:Env,E.B F a0=true->E.B F a1=true->E.B F a2=true->E.B F a3=true->E.B F a4=true->E.B F a5=true->E.B F a6=true->E.B F a7=true->E.B F a8=true->E.B F a9=true->E.B F a10=true->E.B F a11=true->E.B F a12=true->E.B F a13=true->E.B F a14=true->E.B F a15=true->E.B F a16=true->E.B F a17=true->E.B F a18=true->E.B F a19=true->E.B F a20=true->E.B F a21=true->E.B F a22=true->E.B F a23=true->E.B F a24=true->E.B F a25=true->E.B F a26=true->E.B F a27=true->E.B F a28=true->E.B F a29=true->E.B F a30=true->E.B F a31=true->E.B F a32=true->E.B F a33=true->E.B F a34=true->E.B F a35=true->E.B F a36=true->E.B F a37=true->E.B F a38=true->E.B F a39=true->E.B F a40=true->E.B F a41=true->E.B F a42=true->E.B F a43=true->E.B F a44=true->E.B F d=true):Tr (cM [a0,a1,a2,a3,a4,a5,a6,a7,a8,a9,a10,a11,a12,a13,a14,a15,a16,a17,a18,a19,a20,a21,a22,a23,a24,a25,a26,a27,a28,a29,a30,a31,a32,a33,a34,a35,a36,a37,a38,a39,a40,a41,a42,a43,a44] d):=fun F=>by
 show E.B F (.imp (.and a0 (.and a1 (.and a2 (.and a3 (.and a4 (.and a5 (.and a6 (.and a7 (.and a8 (.and a9 (.and a10 (.and a11 (.and a12 (.and a13 (.and a14 (.and a15 (.and a16 (.and a17 (.and a18 (.and a19 (.and a20 (.and a21 (.and a22 (.and a23 (.and a24 (.and a25 (.and a26 (.and a27 (.and a28 (.and a29 (.and a30 (.and a31 (.and a32 (.and a33 (.and a34 (.and a35 (.and a36 (.and a37 (.and a38 (.and a39 (.and a40 (.and a41 (.and a42 (.and a43 a44)))))))))))))))))))))))))))))))))))))))))))) d)=true
 rw[cR]
 simp only[cV]
 rintro⟨p0,p1,p2,p3,p4,p5,p6,p7,p8,p9,ai,ao,aw,aD,aG,aH,aT,aY,bk,bw,bF,bP,bZ,ck,cO,df,dC,dY,eS,fS,h9,jQ,jM,nO,nZ,vH,uF,vU,uy,vC,tM,vJ,vD,tA,rH⟩
 exact h F p0 p1 p2 p3 p4 p5 p6 p7 p8 p9 ai ao aw aD aG aH aT aY bk bw bF bP bZ ck cO df dC dY eS fS h9 jQ jM nO nZ vH uF vU uy vC tM vJ vD tA rH
theorem aMZ{a0 a1 a2 a3 a4 a5 a6 a7 a8 a9 a10 a11 a12 a13 a14 a15 a16 a17 a18 a19 a20 a21 a22 a23 a24 a25 a26 a27 a28 a29 a30 a31 a32 a33 a34 a35 a36 a37 a38 a39 a40 a41 a42 a43 a44 a45 d:E}(h:∀F:Env,E.B F a0=true->E.B F a1=true->E.B F a2=true->E.B F a3=true->E.B F a4=true->E.B F a5=true->E.B F a6=true->E.B F a7=true->E.B F a8=true->E.B F a9=true->E.B F a10=true->E.B F a11=true->E.B F a12=true->E.B F a13=true->E.B F a14=true->E.B F a15=true->E.B F a16=true->E.B F a17=true->E.B F a18=true->E.B F a19=true->E.B F a20=true->E.B F a21=true->E.B F a22=true->E.B F a23=true->E.B F a24=true->E.B F a25=true->E.B F a26=true->E.B F a27=true->E.B F a28=true->E.B F a29=true->E.B F a30=true->E.B F a31=true->E.B F a32=true->E.B F a33=true->E.B F a34=true->E.B F a35=true->E.B F a36=true->E.B F a37=true->E.B F a38=true->E.B F a39=true->E.B F a40=true->E.B F a41=true->E.B F a42=true->E.B F a43=true->E.B F a44=true->E.B F a45=true->E.B F d=true):Tr (cM [a0,a1,a2,a3,a4,a5,a6,a7,a8,a9,a10,a11,a12,a13,a14,a15,a16,a17,a18,a19,a20,a21,a22,a23,a24,a25,a26,a27,a28,a29,a30,a31,a32,a33,a34,a35,a36,a37,a38,a39,a40,a41,a42,a43,a44,a45] d):=fun F=>by
 show E.B F (.imp (.and a0 (.and a1 (.and a2 (.and a3 (.and a4 (.and a5 (.and a6 (.and a7 (.and a8 (.and a9 (.and a10 (.and a11 (.and a12 (.and a13 (.and a14 (.and a15 (.and a16 (.and a17 (.and a18 (.and a19 (.and a20 (.and a21 (.and a22 (.and a23 (.and a24 (.and a25 (.and a26 (.and a27 (.and a28 (.and a29 (.and a30 (.and a31 (.and a32 (.and a33 (.and a34 (.and a35 (.and a36 (.and a37 (.and a38 (.and a39 (.and a40 (.and a41 (.and a42 (.and a43 (.and a44 a45))))))))))))))))))))))))))))))))))))))))))))) d)=true
 rw[cR]
 simp only[cV]
 rintro⟨p0,p1,p2,p3,p4,p5,p6,p7,p8,p9,ai,ao,aw,aD,aG,aH,aT,aY,bk,bw,bF,bP,bZ,ck,cO,df,dC,dY,eS,fS,h9,jQ,jM,nO,nZ,vH,uF,vU,uy,vC,tM,vJ,vD,tA,rH,IY⟩
 exact h F p0 p1 p2 p3 p4 p5 p6 p7 p8 p9 ai ao aw aD aG aH aT aY bk bw bF bP bZ ck cO df dC dY eS fS h9 jQ jM nO nZ vH uF vU uy vC tM vJ vD tA rH IY
def ii(e:E):SV:=.int .i64 e
def gone:Blk:=⟨true,.gone⟩
def bJ(b:Nat):SV:=.ptr b ⟨0,0,.int 0⟩
def bu(a b:E):E:=.cmp .eql a b
def pl(a b:E):E:=.fn 6 (.pr a b)
def mi(a b:E):E:=.fn 7 (.pr a b)
def tm(a b:E):E:=.fn 8 (.pr a b)
def ln(x:E):E:=.fn 0 x
def TK:List E->E
 |[]=>.int 0
 |[a]=>a
 |a::l=>.pr a (TK l)
def aI(f:Nat)(l:List E):E:=.fn f (TK l)
def nt(l i:E):E:=.fn 1 (.pr l i)
def dw(w:Int)(l:E):E:=.fn 9 (.pr l (.int w))
def AM:E:=.fn 10 (.int 0)
def kI:List CK:=[.int .i64]
def kO:List CK:=[.int .i64,.int .i64,.int .i64,.int .i64,.int .i64,.int .i64,.int .i64,.int .i64,.int .i64,.bool,.bool,.bool]
def kT:List CK:=[.int .i64,.int .i64]
def ga:List CK:=[.int .i64,.int .i64,.int .i64,.int .i64,.slc kT]
def kS:List CK:=[.int .i64,.int .i64,.int .i64,.int .i64,.int .i64,.slc kI,.slc kI,.slc kI,.slc kI,.bool,.bool,.bool,.int .i64,.int .i64]
def kB:List CK:=.slc kO::(kS++(kS++[.slc ga,.slc ga,.slc kI,.slc kT,.int .i64,.int .i64,.int .i64,.int .i64,.int .i64]))
def aqY(e:E):CK->SV
 |.int k=>.int k e
 |.bool=>.bool e
 |.str=>.str e
 |.slc ks=>.bsl ks e
def Ja(e:E):Nat->List CK->List SV
 |_,[]=>[]
 |j,c::cs=>aqY (nt e (.int (Int.ofNat j))) c::Ja e (Nat.succ j) cs
def fy(e:E):SV:=.agg (Ja e 0 kB)
def pg(e:E):Blk:=⟨true,.cells (Ja e 0 kB) (.int 38) 34⟩
def cl(e:E)(j:Int):E:=nt e (.int j)
def MZ(e:E):E:=.fn 116 e
def L5(e:E):E:=.fn 117 e
def d7(e:E):List E:=[MZ e,L5 e]
def FI(f:FuncId):SV:=.func (.func f) [] []
def rT:E:=dw 2 (eV 0)
def at1:Pact:=⟨114,[.bsl kT (eV 0),FI 103],⟨1,0,.nil,[ag rT (.int 1000)]⟩,[(ii (eV 1),⟨2,0,.nil,[.iff (ag (.int 0) (eV 1)) (.not (aI 101 [eV 0,rT])),ag (.int (-1)) (eV 1)]⟩)]⟩
def tTF:Tmpl:=⟨bC 19 [(0,.bsl kT (eV 0)),(1,FI 103),(6,.bsl kT (eV 0)),(7,ii rT),(8,ii (eV 4))],⟨5,0,.nil,[ag rT (.int 1000),ag (.int 0) (eV 4),ag (eV 4) rT,aI 101 [eV 0,eV 4]]⟩,mi rT (eV 4)⟩
def aMC:List Ann:=[⟨114,0,[tTF],none⟩]
def itE:List E:=[eV 0,eV 1,eV 2,eV 3,eV 4,eV 5]
def itV:SV:=.agg [ii (eV 0),ii (eV 1),ii (eV 2),ii (eV 3),.bsl kT (eV 4)]
def aDp:Pact:=⟨78,[itV,.bool (eV 5)],⟨6,0,.nil,[]⟩,[(.bool (eV 6),⟨7,0,.nil,[.iff (eV 6) (aI 102 itE)]⟩)]⟩
def rI:E:=dw 5 (eV 0)
def YP(g:FuncId)(q:Bool):Pact:=⟨101,[.bsl ga (eV 0),FI g],⟨1,0,.nil,[ag rI (.int 1000)]⟩,[(ii (eV 1),⟨2,0,.nil,[.iff (ag (.int 0) (eV 1)) (.not (aI 103 [eV 0,.bool q,rI])),ag (.int (-1)) (eV 1)]⟩)]⟩
def tIF(g:FuncId)(q:Bool):Tmpl:=⟨bC 19 [(0,.bsl ga (eV 0)),(1,FI g),(6,.bsl ga (eV 0)),(7,ii rI),(8,ii (eV 4))],⟨5,0,.nil,[ag rI (.int 1000),ag (.int 0) (eV 4),ag (eV 4) rI,aI 103 [eV 0,.bool q,eV 4]]⟩,mi rI (eV 4)⟩
def TY(g:FuncId)(q:Bool):List Ann:=[⟨101,0,[tIF g q],none⟩]
def nI:E:=ln (eV 0)
def avt(l k:E):E:=aI 114 [l,k]
def aCj:Pact:=⟨84,[.bsl kI (eV 0),ii (eV 1)],⟨2,0,.nil,[ag nI (.int 1000)]⟩,[(ii (eV 2),⟨3,0,.nil,[.iff (ag (.int 0) (eV 2)) (avt (eV 0) (eV 1)),ag (.int (-1)) (eV 2)]⟩)]⟩
def tIx:Tmpl:=⟨bC 19 [(0,.bsl kI (eV 0)),(1,ii (eV 1)),(6,.bsl kI (eV 0)),(7,ii nI),(8,ii (eV 4))],⟨5,0,.nil,[ag nI (.int 1000),ag (.int 0) (eV 4),ag (eV 4) nI,bu (aI 131 [eV 0,eV 1,eV 4]) (.int 0)]⟩,mi nI (eV 4)⟩
def apC:List Ann:=[⟨84,0,[tIx],none⟩]
def obV:SV:=.agg ((List.range 9).map (fun j=>ii (eV j))++[.bool (eV 9),.bool (eV 10),.bool (eV 11)])
def afi(f:FuncId):Pact:=⟨f,[obV],⟨12,0,.nil,[]⟩,[(.bool (eV 12),⟨13,0,.nil,[.iff (eV 12) (aI 137 ((List.range 9).map eV))]⟩)]⟩
def put(c:Nat):SV:=.func (.func 105) [] [bJ c]
def Sf(e:E):Blk:=⟨true,.mapl .i64 (.int .i64) e⟩
def A2(W:Nat)(m:E)(more:List Blk):T Blk:=bU (List.replicate W gone++[pg (eV 0),Sf m,⟨true,.cells [.map (W+1)] (.int 1) 153⟩]++more)
def CX(W:Nat):List (Nat×SV):=[(1,bJ W),(3,bJ (W+2)),(4,put (W+2))]
def MP(m p q i:E):E:=aI 104 [m,eV 0,p,q,i]
def t0P:Tmpl:=⟨bC 138 (CX 8++[(21,ii (eV 8))]),⟨10,11,A2 8 (eV 9) [],d7 (eV 0)++[ag (.int 0) (eV 8),ag (eV 8) (.int 2),MP (eV 9) (eV 8) (.int 0) (.int 0)]⟩,mi (.int 2) (eV 8)⟩
def TB(W p:Nat):SV:=.agg ((List.range 4).map fun q=>.ptr W ⟨6+14*p+q,0,.int 0⟩)
def t2P(p:Nat):Tmpl:=⟨bC 138 (CX 8++[(5,ii (eV 8)),(21,ii (eV 8)),(27,TB 8 p),(28,ii (eV 16))]),⟨18,16,A2 8 (eV 17) [],
 d7 (eV 0)++[bu (eV 8) (.int (Int.ofNat p)),ag (.int 0) (eV 16),ag (eV 16) (.int 4),MP (eV 17) (eV 8) (eV 16) (.int 0)]⟩,mi (.int 4) (eV 16)⟩
def Uu(p:Nat):Tmpl:=⟨bC 138 (CX 8++[(5,ii (eV 8)),(21,ii (eV 8)),(27,TB 8 p),(28,ii (eV 16)),(33,.bsl kI (eV 28)),(34,ii (ln (eV 28))),(35,ii (eV 24))]),⟨29,24,A2 8 (eV 25) [],
 d7 (eV 0)++[bu (eV 8) (.int (Int.ofNat p)),ag (.int 0) (eV 16),iB (eV 16) (.int 4),ag (.int 0) (eV 24),ag (eV 24) (ln (eV 28)),ag (ln (eV 28)) (.int 40),aI 109 [eV 28,eV 0,eV 8,eV 16],MP (eV 25) (eV 8) (eV 16) (eV 24)]⟩,mi (ln (eV 28)) (eV 24)⟩
def fE:E:=dw 5 (cl (eV 0) 29)
def eX:E:=dw 12 (cl (eV 0) 0)
def t6P:Tmpl:=⟨bC 138 (CX 32++[(10,.map 35),(49,.bsl ga (cl (eV 0) 29)),(50,ii fE),(51,ii (eV 32))]),⟨35,36,A2 32 (eV 33) [Sf (eV 34)],
 d7 (eV 0)++[ag fE (.int 20),ag (.int 0) (eV 32),ag (eV 32) fE,aI 105 [eV 33,eV 0,eV 32],aI 106 [eV 34,eV 0,eV 32]]⟩,mi fE (eV 32)⟩
def t8P:Tmpl:=⟨bC 138 (CX 40++[(10,.map 43),(72,.bsl kO (cl (eV 0) 0)),(73,ii eX),(74,ii (eV 40))]),⟨43,44,A2 40 (eV 41) [Sf (eV 42)],
 d7 (eV 0)++[ag eX (.int 30),ag (.int 0) (eV 40),ag (eV 40) eX,aI 105 [eV 41,eV 0,fE],aI 106 [eV 42,eV 0,fE],aI 107 [eV 0,eV 40]]⟩,mi eX (eV 40)⟩
def azB:List Ann:=[⟨80,0,[t0P],none⟩,⟨80,2,[t2P 0,t2P 1],none⟩,⟨80,4,[Uu 0,Uu 1],none⟩,⟨80,6,[t6P],none⟩,⟨80,8,[t8P],none⟩]
def aP5:Pact:=⟨80,[fy (eV 0)],⟨1,0,.nil,d7 (eV 0)⟩,[(.bool (eV 1),⟨2,0,.nil,[.iff (eV 1) (.fn 108 (eV 0))]⟩)]⟩
def aQf(e:E):Blk:=⟨true,.mapl .i64 .bool e⟩
def ny:E:=cl (eV 0) 34
def Ng:List E:=d7 (eV 0)++[.fn 108 (eV 0),ag (.int 0) ny,ag ny (.int 1)]
def auJ:Pact:=⟨81,[fy (eV 0)],⟨1,0,.nil,Ng⟩,[(.bool (eV 1),⟨2,0,.nil,[.iff (eV 1) (.fn 110 (eV 0))]⟩)]⟩
def aeR(W:Nat):T Blk:=bU (List.replicate W gone++[pg (eV 0),aQf (eV (W+1))])
def afS(W:Nat):List (Nat×SV):=[(1,bJ W),(3,.bsl kI (eV (W+2))),(4,.bsl kI (eV (W+3))),(5,.map (W+1))]
def ajQ(W:Nat):List E:=[aI 109 [eV (W+2),eV 0,ny,.int 2],aI 109 [eV (W+3),eV 0,mi (.int 1) ny,.int 2],ag (ln (eV (W+2))) (.int 40),ag (ln (eV (W+3))) (.int 40)]
def lO:E:=ln (cl (eV 0) 31)
def hJ:E:=dw 2 (cl (eV 0) 32)
def t0F:Tmpl:=⟨bC 85 (afS 8++[(25,.bsl kI (cl (eV 0) 31)),(26,ii lO),(27,ii (eV 8))]),⟨12,10,aeR 8,
 Ng++ajQ 8++[ag lO (.int 30),ag (.int 0) (eV 8),ag (eV 8) lO,aI 111 [eV 0,eV 8],aI 113 [eV 9,eV 0,eV 8,.int 0]]⟩,mi lO (eV 8)⟩
def t2F:Tmpl:=⟨bC 85 (afS 16++[(44,.bsl kT (cl (eV 0) 32)),(45,ii hJ),(46,ii (eV 16))]),⟨20,18,aeR 16,
 Ng++ajQ 16++[ag lO (.int 30),ag hJ (.int 30),ag (.int 0) (eV 16),ag (eV 16) hJ,aI 111 [eV 0,lO],aI 112 [eV 0,eV 16],aI 113 [eV 17,eV 0,lO,eV 16]]⟩,mi hJ (eV 16)⟩
def aHu:List Ann:=[⟨81,0,[t0F],none⟩,⟨81,2,[t2F],none⟩]
def spV:Pact:=⟨52,[fy (eV 0)],⟨1,0,.nil,d7 (eV 0)⟩,[(.bool (eV 1),⟨2,0,.nil,[.iff (eV 1) (.fn 115 (eV 0))]⟩)]⟩
def aKH:Pact:=⟨48,[itV,.bool (eV 5)],⟨6,0,.nil,[]⟩,[(.bool (eV 6),⟨7,0,.nil,[.iff (eV 6) (aI 102 itE)]⟩)]⟩
def aSh:Pact:=⟨73,[.bsl kI (eV 0),ii (eV 1)],⟨2,0,.nil,[ag nI (.int 1000)]⟩,[(ii (eV 2),⟨3,0,.nil,[bu (eV 2) (aI 121 [eV 0,eV 1]),ag (.int 0) (eV 2),ag (eV 2) nI]⟩)]⟩
def aSx:Pact:=⟨33,[fy (eV 0),ii (eV 1)],⟨2,0,.nil,d7 (eV 0)⟩,[(ii (eV 2),⟨3,0,.nil,[bu (eV 2) (aI 120 [eV 0,eV 1,eX]),ag (.int (-1)) (eV 2),iB (eV 2) eX]⟩)]⟩
def aFH:Pact:=⟨72,[fy (eV 0),ii (eV 1),ii (eV 2)],⟨3,0,.nil,d7 (eV 0)++[ag (.int 0) (eV 1),ag (eV 1) (.int 1)]⟩,[(ii (eV 3),⟨4,0,.nil,[bu (eV 3) (aI 122 [eV 0,eV 1,eV 2]),ag (.int 0) (eV 3),ag (eV 3) (.int 1000)]⟩)]⟩
def arT:List E:=[ag (.int 0) (eV 0),ag (eV 0) (.int 1),ag (.int 1) (eV 1),ag (eV 1) (.int 500),ag (.int 0) (eV 2),ag (eV 2) (.int 399),ag (.int (-1)) (eV 3),ag (eV 3) (.int 1),ag (dw 2 (eV 4)) (.int 4),.imp (ag (.int 0) (eV 3)) (bu (dw 2 (eV 4)) (.int 0)),.imp (eV 5) (ag (.int 0) (eV 3))]
def tIt:Tmpl:=⟨bC 108 [(1,.bool (eV 5)),(2,bJ 8),(5,ii (eV 8))],⟨9,9,bU (List.replicate 8 gone++[⟨true,.cells [ii (eV 0),ii (eV 1),ii (eV 2),ii (eV 3),.bsl kT (eV 4)] (.int 5) 77⟩]),
 arT++[ag (.int 0) (eV 8),ag (eV 8) (dw 2 (eV 4)),aI 101 [eV 4,eV 8]]⟩,mi (dw 2 (eV 4)) (eV 8)⟩
def azg:List Ann:=[⟨48,0,[tIt],none⟩]
def tCt:Tmpl:=⟨bC 22 [(0,.bsl kI (eV 0)),(1,ii (eV 1)),(5,ii (eV 9)),(6,ii (eV 8))],⟨10,0,.nil,[ag nI (.int 1000),ag (.int 0) (eV 8),ag (eV 8) nI,bu (eV 9) (aI 131 [eV 0,eV 1,eV 8]),ag (.int 0) (eV 9),ag (eV 9) (eV 8)]⟩,mi nI (eV 8)⟩
def aq5:List Ann:=[⟨73,0,[tCt],none⟩]
def qD(W:Nat):T Blk:=bU (List.replicate W gone++[pg (eV 0)])
def tId:Tmpl:=⟨bC 22 [(1,ii (eV 1)),(2,bJ 8),(5,ii (eV 8))],⟨9,9,qD 8,d7 (eV 0)++[ag eX (.int 30),ag (.int 0) (eV 8),ag (eV 8) eX,bu (aI 120 [eV 0,eV 1,eV 8]) (.int (-1))]⟩,mi eX (eV 8)⟩
def aYw:List Ann:=[⟨33,0,[tId],none⟩]
def tPc:Tmpl:=⟨bC 56 [(1,ii (eV 1)),(2,ii (eV 2)),(3,bJ 16),(7,ii (eV 17)),(10,ii (eV 16))],⟨18,17,qD 16,d7 (eV 0)++[ag (.int 0) (eV 1),ag (eV 1) (.int 1),ag fE (.int 20),ag (.int 0) (eV 16),ag (eV 16) fE,
 bu (eV 17) (pl (aI 132 [eV 0,eV 1,.int 4,eV 2]) (aI 133 [eV 0,eV 1,eV 2,eV 16])),ag (.int 0) (eV 17),ag (eV 17) (pl (.int 160) (eV 16))]⟩,mi fE (eV 16)⟩
def aqg:List Ann:=[⟨72,2,[tPc],none⟩]
def t4D:Tmpl:=⟨bC 108 [(1,bJ 16),(3,ii (eV 17)),(7,ii (eV 16))],⟨18,17,qD 16,d7 (eV 0)++[ag fE (.int 20),ag eX (.int 30),ag (.int 0) (eV 16),ag (eV 16) fE,
 bu (eV 17) (pl (aI 134 [eV 0,.int 8]) (aI 135 [eV 0,eV 16])),ag (.int 0) (eV 17),ag (eV 17) (pl (.int 320) (eV 16)),aI 123 [eV 0,eV 16]]⟩,mi fE (eV 16)⟩
def t6D:Tmpl:=⟨bC 108 [(1,bJ 24),(3,ii (eV 25)),(10,ii (eV 24))],⟨26,25,qD 24,d7 (eV 0)++[ag eX (.int 30),ag (.int 0) (eV 24),ag (eV 24) eX,
 bu (eV 25) (pl (aI 134 [eV 0,.int 8]) (aI 135 [eV 0,fE])),aI 123 [eV 0,fE],aI 124 [eV 0,eV 24]]⟩,mi eX (eV 24)⟩
def arp:List Ann:=[⟨50,4,[t4D],none⟩,⟨50,6,[t6D],none⟩]
def My:List E:=d7 (eV 0)++[ag (.int 0) ny,ag ny (.int 1),ag lO (.int 30),ag hJ (.int 30)]
def t0R:Tmpl:=⟨bC 94 [(1,bJ 8),(3,ii (eV 8))],⟨9,9,qD 8,My++[ag (.int 0) (eV 8),ag (eV 8) lO,aI 126 [eV 0,eV 8]]⟩,mi lO (eV 8)⟩
def t2R:Tmpl:=⟨bC 94 [(1,bJ 16),(4,ii (eV 16))],⟨17,17,qD 16,My++[ag (.int 0) (eV 16),ag (eV 16) hJ,aI 126 [eV 0,lO],aI 127 [eV 0,eV 16]]⟩,mi hJ (eV 16)⟩
def agl(j:Int):E:=nt (cl (eV 0) 32) (pl (tm (eV 16) (.int 2)) (.int j))
def t4R:Tmpl:=⟨bC 94 [(1,bJ 16),(4,ii (eV 16)),(5,bJ 24),(6,ii (eV 24))],⟨25,25,bU (List.replicate 16 gone++[pg (eV 0)]++List.replicate 7 gone++[⟨true,.cells [ii (agl 0),ii (agl 1)] (.int 2) 99⟩]),
 My++[ag (.int 0) (eV 16),iB (eV 16) hJ,aI 126 [eV 0,lO],aI 127 [eV 0,eV 16],ag (.int 0) (eV 24),ag (eV 24) (eV 16),aI 136 [eV 0,eV 16],aI 128 [eV 0,eV 16,eV 24]]⟩,mi (eV 16) (eV 24)⟩
def aC2:List Ann:=[⟨51,0,[t0R],none⟩,⟨51,2,[t2R],none⟩,⟨51,4,[t4R],none⟩]
def ay4:Pact:=⟨50,[fy (eV 0)],⟨1,0,.nil,d7 (eV 0)⟩,[(.bool (eV 1),⟨2,0,.nil,[.iff (eV 1) (.fn 125 (eV 0))]⟩)]⟩
def aKd:Pact:=⟨51,[fy (eV 0)],⟨1,0,.nil,d7 (eV 0)++[ag (.int 0) ny,ag ny (.int 1)]⟩,[(.bool (eV 1),⟨2,0,.nil,[.iff (eV 1) (.fn 129 (eV 0))]⟩)]⟩
def aJW:Pact:=⟨25,[fy (eV 0)],⟨1,0,.nil,d7 (eV 0)⟩,[(.bool (eV 1),⟨2,0,.nil,[.iff (eV 1) (.fn 130 (eV 0))]⟩)]⟩
def ahO:List E:=[ag (.int 0) ny,ag ny (.int 1),ag (.int 0) (cl (eV 0) 33),ag (cl (eV 0) 33) (.int 1000),ag (.int 0) (cl (eV 0) 35),ag (cl (eV 0) 35) (.int 10),ag (.int (-1)) (cl (eV 0) 36),ag (cl (eV 0) 36) (.int 1),ag (.int 0) (cl (eV 0) 37),ag (cl (eV 0) 37) (.int 2)]
def Bq:E:=dw 5 (cl (eV 0) 30)
def SY(c:Int)(q:Bool)(n:E):E:=aI 103 [cl (eV 0) c,.bool q,n]
def tV0:Tmpl:=⟨bC 117 [(1,bJ 8),(3,ii (eV 8))],⟨9,9,qD 8,d7 (eV 0)++ahO++[ag fE (.int 20),ag (.int 0) (eV 8),ag (eV 8) fE,SY 29 false (eV 8)]⟩,mi fE (eV 8)⟩
def tV2:Tmpl:=⟨bC 117 [(1,bJ 16),(4,ii (eV 16))],⟨17,17,qD 16,d7 (eV 0)++ahO++[ag Bq (.int 20),SY 29 false fE,ag (.int 0) (eV 16),ag (eV 16) Bq,SY 30 true (eV 16)]⟩,mi Bq (eV 16)⟩
def aLT:List Ann:=[⟨25,0,[tV0],none⟩,⟨25,2,[tV2],none⟩]
def kE:List CK:=[.int .i64,.int .i64,.int .i64,.int .i64,.int .i64]
def uD:List CK:=[.int .i64,.slc kE]
def kC:List CK:=[.str,.int .i64,.int .i64,.int .i64,.int .i64,.int .i64,.int .i64,.int .i64,.int .i64,.int .i64,.int .i64,.slc kE,.slc uD,.int .i64]
def agm(f:FuncId)(ks:List CK)(w:Int)(t:TypeId):Pact:=⟨f,[.bsl ks (eV 0)],⟨1,0,.nil,[ag (dw w (eV 0)) (.int 100)]⟩,
 [(.nils,⟨1,0,.nil,[bu (dw w (eV 0)) (.int 0)]⟩),(.nslice 0 (eV 1) (eV 2),⟨3,1,bU [⟨true,.flat ks (eV 0) (eV 1) (eV 2) t⟩],[ag (eV 1) (eV 2),bu (eV 1) (dw w (eV 0))]⟩)]⟩
def aIH:Pact:=agm 107 kE 5 159
def ayf:Pact:=agm 108 uD 2 71
def IM(e t:SV):List SV:=.str (eV 0)::((List.range 10).map fun j=>ii (eV (j+1)))++[e,t,ii (eV 13)]
def atb:SV:=.agg (IM (.bsl kE (eV 11)) (.bsl uD (eV 12)))
def flT(x n c:E):Blk:=⟨true,.flat uD x n c 71⟩
def aXT:Pact:=⟨82,[atb],⟨14,0,.nil,[aI 156 [eV 11,eV 12]]⟩,
 [(.agg (IM (.bsl kE (eV 14)) .nils),⟨15,0,.nil,[]⟩),(.agg (IM (.bsl kE (eV 14)) (.nslice 0 (eV 16) (eV 17))),⟨18,1,bU [flT (eV 15) (eV 16) (eV 17)],[ag (eV 16) (eV 17)]⟩)]⟩
def aGe(W:Nat):Blk:=⟨true,.cells (.str (eV W)::((List.range 10).map fun j=>ii (eV (W+j+1)))++[.nils,.nils,ii (eV (W+11))]) (.int 14) 58⟩
def tCC(k:Nat):Tmpl:=
 let T:SV:=if k==0 then .nslice 22 (eV 42) (eV 43)else .nils
 let n:E:=if k==0 then eV 42 else .int 0
 ⟨bC 31 [(1,bJ 20),(2,bJ 21),(14,T),(15,ii n),(16,ii (if k==0 then eV 44 else .int 0))],⟨45,23,bU (List.replicate 20 gone++[⟨true,.cells (IM (.bsl kE (eV 40)) T) (.int 14) 58⟩,aGe 20,if k==0 then flT (eV 41) (eV 42) (eV 43)else gone]),
  if k==0 then [ag (eV 42) (eV 43),ag (.int 0) (eV 44),ag (eV 44) (eV 42),ag (eV 42) (.int 3),aI 157 [eV 41,eV 42]] else []⟩,mi n (if k==0 then eV 44 else .int 0)⟩
def aqE:List Ann:=[⟨82,0,[tCC 0,tCC 1],none⟩]
def aXn(a:Nat):SV:=.agg ((List.range 9).map (fun j=>ii (eV (a+j)))++[.bool (eV (a+9)),.bool (eV (a+10)),.bool (eV (a+11))])
def aa3(a:Nat)(e t:SV):SV:=.agg (.str (eV a)::((List.range 10).map fun j=>ii (eV (a+j+1)))++[e,t,ii (eV (a+13))])
def amZ:List E:=[bu (eV 14) (aI 141 [eV 0,eV 2]),bu (eV 20) (aI 142 [eV 0,eV 2])]
def as9:Pact:=⟨53,[.bsl kC (eV 0),aXn 1],⟨13,0,.nil,[ag (dw 14 (eV 0)) (.int 12),aI 155 [eV 0,dw 14 (eV 0)]]⟩,[(aa3 13 (.bsl kE (eV 24)) (.bsl uD (eV 25)),⟨27,0,.nil,amZ⟩),(aa3 13 .nils .nils,⟨27,0,.nil,amZ⟩)]⟩
def IE:E:=dw 14 (eV 0)
def ahu:List E:=d7 (eV 1)++[ag IE (.int 12),aI 155 [eV 0,IE],ag (.int 0) (eV 2),ag (eV 2) (.int 1)]
def vQ:E:=dw 12 (cl (eV 1) 0)
def flS(x n c:E):Blk:=⟨true,.flat kT x n c 85⟩
def ND(x n:E):E:=aI 143 [x,eV 0,eV 1,eV 2,n]
def Qf:Blk:=⟨true,.cells (Ja (eV 1) 0 kB) (.int 38) 34⟩
def tSo(k:Bool):Tmpl:=⟨bC 62 [(0,.bsl kC (eV 0)),(2,ii (eV 2)),(4,bJ 16),(7,if k then .nslice 17 (eV 17) (eV 18)else .nils),(12,.bsl kO (cl (eV 1) 0)),(13,ii vQ),(14,ii (eV 19))],
 ⟨20,18,bU (List.replicate 16 gone++[Qf,if k then flS (eV 16) (eV 17) (eV 18)else gone]),ahu++[ag vQ (.int 30),ag (.int 0) (eV 19),ag (eV 19) vQ]++(if k then [ag (.int 1) (eV 17),ag (eV 17) (eV 18),bu (ln (eV 16)) (tm (eV 17) (.int 2)),ag (eV 17) (eV 19),ND (eV 16) (eV 19)] else [ND AM (eV 19)])⟩,mi vQ (eV 19)⟩
def aCE:List Ann:=[⟨31,0,[tSo false,tSo true],none⟩]
def EV(X p:E):E:=aI 145 [X,p]
def ax2:Pact:=⟨30,[fy (eV 0),ii (eV 1)],⟨2,0,.nil,d7 (eV 0)⟩,[(.bool (eV 2),⟨3,0,.nil,[.iff (eV 2) (EV (eV 0) (eV 1))]⟩)]⟩
def apl:Pact:=⟨12,[fy (eV 0),ii (eV 1),.agg ((List.range 5).map fun j=>ii (eV (j+2)))],⟨7,0,.nil,d7 (eV 0)⟩,[(.bool (eV 7),⟨8,0,.nil,[.iff (eV 7) (.and (EV (eV 0) (eV 1)) (aI 146 ((List.range 5).map fun j=>eV (j+2))))]⟩)]⟩
def tB:List E:=d7 (eV 1)++[ag IE (.int 12),aI 155 [eV 0,IE]]
def awo(x:E):E:=aI 144 [x,eV 0,eV 1,eV 2]
def QC(m:Nat):List SV:=(List.range 4).map fun j=>ii (eV (m+j))
def aug(k:E):E:=aI 120 [eV 1,k,vQ]
def aEg:Pact:=⟨32,[.bsl kC (eV 0),fy (eV 1),ii (eV 2)],⟨3,0,.nil,tB++[ag (.int 0) (aug (eV 2))]⟩,[(ii (eV 3),⟨4,0,.nil,[bu (eV 3) (aI 150 [eV 0,eV 1,eV 2]),ag (.int (-1)) (eV 3),ag (eV 3) (.int 3)]⟩)]⟩
def zJ:List E:=tB++[EV (eV 1) (eV 2),ag (.int 0) (eV 2),ag (eV 2) (.int 1)]
def ot(x n c:E):Blk:=⟨true,.flat kI x n c 3⟩
def tRS(k:Bool):Tmpl:=⟨bC 43 [(0,.bsl kC (eV 0)),(4,bJ 16),(7,if k then .nslice 17 (eV 17) (eV 18)else .nils),(14,.bsl kI (eV 19)),(15,ii (ln (eV 19))),(16,ii (eV 20))],⟨21,18,bU (List.replicate 16 gone++[Qf,if k then ot (eV 16) (eV 17) (eV 18)else gone]),
 zJ++[aI 109 [eV 19,eV 1,eV 2,.int 2],ag (ln (eV 19)) (.int 40),ag (.int 0) (eV 20),ag (eV 20) (ln (eV 19))]++(if k then [ag (.int 1) (eV 17),ag (eV 17) (eV 18),bu (ln (eV 16)) (eV 17),ag (eV 17) (eV 20),aI 151 [eV 16,eV 0,eV 1,eV 2,eV 20]] else [aI 151 [AM,eV 0,eV 1,eV 2,eV 20]])⟩,mi (ln (eV 19)) (eV 20)⟩
def apX:List Ann:=[⟨14,0,[tRS false,tRS true],none⟩]
def anE:List E:=[ag (.int 1) (eV 1),ag (eV 1) (eV 2),bu (ln (eV 0)) (eV 1),ag (eV 1) (.int 60)]
def aLm:Pact:=⟨34,[.nslice 0 (eV 1) (eV 2)],⟨3,1,bU [ot (eV 0) (eV 1) (eV 2)],anE⟩,
 [(.nslice 1 (eV 4) (eV 5),⟨6,2,bU [ot (eV 0) (eV 1) (eV 2),ot (eV 3) (eV 4) (eV 5)],[bu (eV 4) (eV 1),ag (eV 4) (eV 5),bu (ln (eV 3)) (eV 4),aI 152 [eV 3,eV 0,eV 1]]⟩)]⟩
def Mz(k:Bool):Tmpl:=⟨bC 46 [(0,.nslice 0 (eV 1) (eV 2)),(2,.nils),(3,if k then .nslice 8 (eV 9) (eV 10)else .nils),(4,ii (eV 11))],⟨12,9,bU ([ot (eV 0) (eV 1) (eV 2)]++List.replicate 7 gone++[if k then ot (eV 8) (eV 9) (eV 10)else gone]),
 anE++(if k then [ag (.int 1) (eV 11),ag (eV 11) (eV 1),bu (eV 9) (eV 11),ag (eV 9) (eV 10),bu (ln (eV 8)) (eV 9),aI 152 [eV 8,eV 0,eV 11]] else [bu (eV 11) (.int 0)])⟩,mi (eV 1) (eV 11)⟩
def alS(k:Bool):Tmpl:=⟨bC 46 [(0,.nslice 0 (eV 1) (eV 2)),(2,.nils),(3,if k then .nslice 8 (eV 9) (eV 10)else .nils),(4,ii (eV 11)),(5,ii (if k then eV 16 else .int 0))],⟨17,9,bU ([ot (eV 0) (eV 1) (eV 2)]++List.replicate 7 gone++[if k then ot (eV 8) (eV 9) (eV 10)else gone]),
 (Mz k).st.pc++[iB (eV 11) (eV 1)]++(if k then [ag (.int 0) (eV 16),ag (eV 16) (eV 9),aI 160 [eV 8,nt (eV 0) (eV 11),eV 16]] else [])⟩,if k then mi (eV 9) (eV 16)else .int 0⟩
def atu:List Ann:=[⟨34,0,[Mz false,Mz true],none⟩,⟨34,2,[alS false,alS true],none⟩]
def ahR:List E:=[ag (eV 1) (eV 2),bu (ln (eV 0)) (eV 1),ag (.int 0) (eV 1),ag (eV 1) (.int 100),ag (eV 4) (eV 5),bu (ln (eV 3)) (eV 4),ag (.int 0) (eV 4),ag (eV 4) (.int 100)]
def jX:T Blk:=bU [ot (eV 0) (eV 1) (eV 2),ot (eV 3) (eV 4) (eV 5)]
def aDi:Pact:=⟨13,[.nslice 0 (eV 1) (eV 2),.nslice 1 (eV 4) (eV 5)],⟨6,2,jX,ahR⟩,[(.bool (eV 6),⟨7,2,jX,[.iff (eV 6) (.and (bu (eV 1) (eV 4)) (aI 161 [eV 0,eV 3,eV 1]))]⟩)]⟩
def tIn:Tmpl:=⟨bC 26 [(0,.nslice 0 (eV 1) (eV 2)),(1,.nslice 1 (eV 4) (eV 5)),(5,ii (eV 8))],⟨9,2,jX,ahR++[bu (eV 4) (eV 1),ag (.int 0) (eV 8),ag (eV 8) (eV 1),aI 161 [eV 0,eV 3,eV 8]]⟩,mi (eV 1) (eV 8)⟩
def aWg:List Ann:=[⟨13,0,[tIn],none⟩]
def li(n:Int):SV:=ii (.int n)
def awb(l:List Int):SV:=match l with | []=>.nils | l=>.nslice 0 (.int (Int.ofNat l.length)) (.int (Int.ofNat l.length))
def alQ(l:List Int):T Blk:=match l with | []=>.nil | l=>bU [⟨true,.cells (l.map li) (.int (Int.ofNat l.length)) 3⟩]
def UT(l:List Int):Nat:=match l with | []=>0 | _=>1
def wF(e t s:Int)(l m:List Int)(no:Int):Pact:=⟨29,[li e,li t,li s,awb l,.agg (m.map li),li no],⟨0,UT l,alQ l,[]⟩,[(.bool (.bool true),⟨0,UT l,alQ l,[]⟩)]⟩
def noB:List SV:=[.bool (.bool false),.bool (.bool false),.bool (.bool false)]
def exV(b:Nat):SV:=.agg ([.nslice b (.int 4) (.var 0),li 20,li 1,li 0,li 0,li 2,.nils,.nils,.nslice (Nat.succ b) (.int 4) (.var 1),.nils]++noB++[li 0,li 0,li 20,li 0,li 0,li 0,li 0,.nils,.nils,.nils,.nils]++noB++[li 0,li 0,.nils,.nils,.nils,.nils,li 0,li 0,li 0,li (-1),li 0])
def Kq(i c:Int)(t:Bool):List SV:=[li i,li c,li 0,li 0,li 0,li 0,li 0,li 0,li 0,.bool (.bool t),.bool (.bool true),.bool (.bool false)]
def SG:List Blk:=[⟨true,.cells (Kq 1 0 false++Kq 2 1 false++Kq 3 0 false++Kq 4 2 true) (.fn 8 (.pr (.var 0) (.int 12))) 65⟩,⟨true,.cells [li 1,li 2,li 3,li 4] (.var 1) 3⟩]
def Sx:List E:=[ag (.int 4) (.var 1),ag (.int 0) (.var 1),ag (.int 4) (.var 0),ag (.int 0) (.var 0)]
def Ml(c:Int):List SV:=[.str (.str ⟨#[]⟩),li 1,li 0,li 0,li 0,li 0,li 0,li c,li 0,li 0,li 0,.nils,.nils,li 0]
def poH:Blk:=⟨true,.cells (Ml 0++Ml 1++Ml 2) (.int 42) 58⟩
def aQC:Pact:=⟨27,[],⟨0,0,.nil,[]⟩,[(exV 0,⟨2,2,bU SG,Sx⟩)]⟩
def QV(more:List SV):List SV:=.nslice 0 (.int 3) (.int 3)::exV 1::li 0::more
def CE:St:=⟨2,3,bU (poH::SG),Sx⟩
def aPC:Pact:=⟨10,QV [],CE,[(.nslice 3 (.int 3) (.var 2),⟨3,4,bU (poH::SG++[⟨true,.cells [li 1,li 2,li 3] (.var 2) 3⟩]),ag (.int 3) (.var 2)::Sx⟩)]⟩
def aV5:Pact:=⟨11,QV [],CE,[(.agg [li 3,li 1,li 0,li 2],CE)]⟩
def SR(a b c d n:Int)(r:Bool):Pact:=⟨18,QV [.agg [li a,li b,li c,li d,li n]],CE,[(.bool (.bool r),CE)]⟩
def args:List SV:=[.bsl kC (eV 0),fy (eV 1),ii (eV 2)]
def Gk:E:=dw 14 (eV 0)
def aCR:Pact:=⟨7,[.bsl kC (eV 0)],⟨1,0,.nil,[]⟩,[(.bool (eV 1),⟨2,0,.nil,[.imp (eV 1) (.and (ag Gk (.int 12)) (aI 155 [eV 0,Gk]))]⟩)]⟩
def tL0:Tmpl:=⟨bC 55 [(0,.bsl kC (eV 0)),(3,ii (eV 8))],⟨9,0,.nil,[ag (.int 0) (eV 8),ag (eV 8) (.int 13),ag (eV 8) Gk,aI 155 [eV 0,eV 8]]⟩,mi (.int 13) (eV 8)⟩
def Es:E:=nt (eV 0) (pl (tm (eV 8) (.int 14)) (.int 12))
def efE:E:=nt (eV 0) (pl (tm (eV 8) (.int 14)) (.int 11))
def tL2:Tmpl:=⟨bC 55 [(0,.bsl kC (eV 0)),(3,ii (eV 8)),(4,ii (eV 16))],⟨17,0,.nil,[ag (.int 0) (eV 8),iB (eV 8) (.int 13),iB (eV 8) Gk,aI 155 [eV 0,eV 8],ag (dw 5 efE) (.int 5),ag (dw 2 Es) (.int 3),ag (.int 0) (eV 16),ag (eV 16) (dw 2 Es),aI 157 [Es,eV 16]]⟩,mi (dw 2 Es) (eV 16)⟩
def aqu:List Ann:=[⟨7,0,[tL0],none⟩,⟨7,2,[tL2],none⟩]
def axo:Pact:=⟨8,[fy (eV 0)],⟨1,0,.nil,[]⟩,[(.bool (eV 1),⟨2,0,.nil,[.imp (eV 1) (L5 (eV 0))]⟩)]⟩
def lsB:Blk:=⟨true,.cells [.bsl ga (cl (eV 0) 29),.bsl ga (cl (eV 0) 30)] (.int 2) 30⟩
def TL:T Blk:=bU (List.replicate 8 gone++[pg (eV 0),lsB])
def ajq:List (Nat×SV):=[(1,bJ 8),(29,.nslice 9 (.int 2) (.int 2)),(30,ii (.int 2)),(31,ii (eV 8))]
def aiH:List E:=[.fn 159 (eV 0),ag (.int 0) (eV 8),ag (eV 8) (.int 2),.imp (ag (.int 1) (eV 8)) (.and (ag fE (.int 20)) (aI 158 [cl (eV 0) 29,fE])),.imp (ag (.int 2) (eV 8)) (.and (ag Bq (.int 20)) (aI 158 [cl (eV 0) 30,Bq]))]
def t4m:Tmpl:=⟨bC 68 ajq,⟨9,10,TL,aiH⟩,mi (.int 2) (eV 8)⟩
def tSm(q:Nat):Tmpl:=let c:Int:=if q==0 then 29 else 30
 ⟨bC 68 (ajq++[(7,.bsl ga (cl (eV 0) c)),(8,ii (eV 16))]),⟨17,10,TL,
 aiH++[bu (eV 8) (.int (Int.ofNat q)),ag (dw 5 (cl (eV 0) c)) (.int 20),ag (.int 0) (eV 16),ag (eV 16) (dw 5 (cl (eV 0) c)),aI 158 [cl (eV 0) c,eV 16]]⟩,mi (dw 5 (cl (eV 0) c)) (eV 16)⟩
def aDx:List Ann:=[⟨8,4,[t4m],none⟩,⟨8,6,[tSm 0,tSm 1],none⟩]
/-! ### paying -/
def fA(f:Nat)(l:List E):E:=aI f (l++[.int 0])
def eqU(a b:E):E:=.fn 12 (.pr a b)
def atx(a b n:E):E:=aI 181 [a,b,n]
def Yu:List E:=[ag rI (.int 20),aI 158 [eV 0,rI],.fn 190 (eV 0)]
def aMg:Pact:=⟨35,[.bsl ga (eV 0)],⟨1,0,.nil,Yu⟩,[(.bsl ga (eV 1),⟨2,0,.nil,[aI 187 [eV 1,eV 0]]⟩)]⟩
def aPO(x n c:E):Blk:=⟨true,.flat ga x n c 77⟩
def tCi(k:Bool):Tmpl:=⟨bC 25 [(0,.bsl ga (eV 0)),(2,.nils),(3,if k then .nslice 8 (eV 9) (eV 10)else .nils),(4,ii (eV 11))],⟨12,if k then 9 else 0,bU (if k then List.replicate 8 gone++[aPO (eV 8) (eV 9) (eV 10)] else []),
 Yu++[ag (.int 0) (eV 11),ag (eV 11) rI]++(if k then [ag (.int 1) (eV 9),ag (eV 9) (eV 10),bu (eV 9) (eV 11),bu (ln (eV 8)) (tm (eV 9) (.int 5)),atx (eV 8) (eV 0) (tm (eV 11) (.int 5))] else [bu (eV 11) (.int 0)])⟩,mi rI (eV 11)⟩
def aAZ:List Ann:=[⟨35,0,[tCi false,tCi true],none⟩]
def aHD:List FM:=[.down ga]
def aNv:Pact:=⟨16,[fy (eV 0)],⟨1,0,.nil,d7 (eV 0)⟩,[(fy (eV 1),⟨2,0,.nil,[aI 189 [eV 1,eV 0]]⟩)]⟩
def msB:List FM:=xI kB
def Ik(n:Nat):List (SV×St):=[(.bool (.bool true),⟨n,0,.nil,[]⟩)]
def afB:List E:=[eqU (eV 0) (eV 1),ag nI (.int 100)]
def aXy:Pact:=⟨13,[.bsl kI (eV 0),.bsl kI (eV 1)],⟨2,0,.nil,afB⟩,Ik 2⟩
def tIe:Tmpl:=⟨bC 26 [(0,.bsl kI (eV 0)),(1,.bsl kI (eV 1)),(5,ii (eV 8))],⟨9,0,.nil,afB++[ag (.int 0) (eV 8),ag (eV 8) nI]⟩,mi nI (eV 8)⟩
def aoX:List Ann:=[⟨13,0,[tIe],none⟩]
def it5(a:Nat):SV:=.agg [ii (eV a),ii (eV (a+1)),ii (eV (a+2)),ii (eV (a+3)),.bsl kT (eV (a+4))]
def alA:List E:=[bu (eV 0) (eV 5),bu (eV 1) (eV 6),bu (eV 2) (eV 7),bu (eV 3) (eV 8),eqU (eV 4) (eV 9),ag (dw 2 (eV 4)) (.int 6)]
def aVQ:Pact:=⟨62,[it5 0,it5 5],⟨10,0,.nil,alA⟩,Ik 10⟩
def aim:List E:=[aI 187 [eV 1,eV 0],ag rI (.int 20),aI 158 [eV 0,rI]]
def aGM:Pact:=⟨40,[.bsl ga (eV 0),.bsl ga (eV 1)],⟨2,0,.nil,aim⟩,Ik 2⟩
def zm:List E:=[MZ (eV 0),L5 (eV 0),aI 189 [eV 1,eV 0]]
def axY:Pact:=⟨20,[fy (eV 0),fy (eV 1)],⟨2,0,.nil,zm⟩,Ik 2⟩
def tSI:Tmpl:=⟨bC 59 [(2,bJ 16),(3,bJ 17),(5,ii (eV 16))],⟨17,18,bU (List.replicate 16 gone++[⟨true,.cells [ii (eV 0),ii (eV 1),ii (eV 2),ii (eV 3),.bsl kT (eV 4)] (.int 5) 77⟩,⟨true,.cells [ii (eV 5),ii (eV 6),ii (eV 7),ii (eV 8),.bsl kT (eV 9)] (.int 5) 77⟩]),
 alA++[ag (.int 0) (eV 16),ag (eV 16) (dw 2 (eV 4))]⟩,mi (dw 2 (eV 4)) (eV 16)⟩
def aJx:List Ann:=[⟨62,0,[tSI],none⟩]
def tIS:Tmpl:=⟨bC 27 [(0,.bsl ga (eV 0)),(1,.bsl ga (eV 1)),(5,ii (eV 8))],⟨9,0,.nil,aim++[ag (.int 0) (eV 8),ag (eV 8) rI]⟩,mi rI (eV 8)⟩
def aFB:List Ann:=[⟨40,0,[tIS],none⟩]
def GI(W:Nat):T Blk:=bU (List.replicate W gone++[pg (eV 0),pg (eV 1)])
def iv(k W s:Nat)(n:E):Tmpl:=⟨bC 199 [(2,bJ W),(3,bJ (W+1)),(s,ii (eV W))],⟨W+1,W+2,GI W,zm++[ag (.int 0) (eV W),ag (eV W) n]⟩,mi n (eV W)⟩
def aKN(k W:Nat):Out:=⟨.exit k,bC 199 [(2,bJ W),(3,bJ (W+1))],⟨W+1,W+2,GI W,zm⟩⟩
def f6(k W:Nat):LoopX:=⟨W,W,[aKN k W]⟩
def Ev(y:Option LoopX):Ann:=⟨20,0,[iv 0 16 5 eX],y⟩
def KT(y:Option LoopX):Ann:=⟨20,2,[iv 2 24 6 hJ],y⟩
def qL:Tmpl:=⟨bC 199 [(2,bJ 32),(3,bJ 33),(7,ii (eV 32))],⟨33,34,GI 32,zm++[ag (.int 0) (eV 32),ag (eV 32) (.int 2)]⟩,mi (.int 2) (eV 32)⟩
def DZ(y:Option LoopX):Ann:=⟨20,4,[qL],y⟩
def ajs(e:E)(p:Nat):Blk:=⟨true,.cells ((List.range 4).map fun q=>.bsl kI (cl e (Int.ofNat (6+14*p+q)))) (.int 4) 72⟩
def iq(p:Nat):Tmpl:=⟨bC 199 [(2,bJ 48),(3,bJ 49),(7,ii (eV 32)),(10,bJ 50),(11,bJ 51),(12,ii (eV 48))],⟨49,52,bU (List.replicate 48 gone++[pg (eV 0),pg (eV 1),ajs (eV 0) p,ajs (eV 1) p]),zm++[bu (eV 32) (.int (Int.ofNat p)),ag (.int 0) (eV 48),ag (eV 48) (.int 4)]⟩,mi (.int 4) (eV 48)⟩
def WU(p:Nat):Out:=⟨.exit 6,bC 199 [(2,bJ 48),(3,bJ 49),(7,ii (eV 32))],⟨49,50,GI 48,zm++[bu (eV 32) (.int (Int.ofNat p))]⟩⟩
def nC:LoopX:=⟨48,48,[WU 0,WU 1]⟩
def xG(y:Option LoopX):Ann:=⟨20,6,[iq 0,iq 1],y⟩
def aSd:Pact:=⟨31,[.bsl kC (eV 0),fy (eV 1),ii (eV 2)],⟨3,0,.nil,ahu⟩,
 [(.nslice 0 (eV 4) (eV 5),⟨6,1,bU [flS (eV 3) (eV 4) (eV 5)],[ag (.int 0) (eV 4),ag (eV 4) (eV 5),bu (ln (eV 3)) (tm (eV 4) (.int 2)),ag (eV 4) vQ,ND (eV 3) vQ]⟩)]⟩
def msS:List FM:=[.up kT 85]
def kR(x n c:E):Blk:=⟨true,.flat kT x n c 85⟩
def nV(x n c:E):Blk:=⟨true,.flat kI x n c 3⟩
def OH(r t:SV)(a:Nat):Blk:=⟨true,.cells (((List.range 4).map fun j=>ii (eV (a+j)))++[r,t]) (.int 6) 94⟩
def HH(b a:Nat)(k:Bool):List Blk:=[OH (.nslice (b+1) (eV (a+5)) (eV (a+6))) (if k then .nslice (b+2) (eV (a+8)) (eV (a+9))else .nils) a,kR (eV (a+4)) (eV (a+5)) (eV (a+6)),if k then nV (eV (a+7)) (eV (a+8)) (eV (a+9))else gone]
def lf(a:Nat)(k:Bool):List E:=[ag (.int 0) (eV (a+5)),ag (eV (a+5)) (eV (a+6)),bu (ln (eV (a+4))) (tm (eV (a+5)) (.int 2))] ++
 (if k then [ag (.int 1) (eV (a+8)),ag (eV (a+8)) (eV (a+9)),bu (ln (eV (a+7))) (eV (a+8)),ag (pl (eV (a+5)) (eV (a+8))) (.int 30)] else [ag (eV (a+5)) (.int 30)])
def puT(a:Nat)(k:Bool):E:=if k then eV (a+7)else AM
def iS(a:Nat)(k:Bool):List E:=(List.range 5).map (fun j=>eV (a+j))++[puT a k]
def Qz(e:E):Blk:=⟨true,.cells [ii e] (.int 1) 53⟩
def clC(b:Nat):SV:=.func (.func 58) [] [bJ b]
def UH:SV:=.func (.func 59) [] []
def KK(any:Bool)(e:E):E:=if any then .int (-1)else e
def NQ(e:E):List E:=[ag (.int 0) e,ag e (.int 3)]
def RW(any:Bool):T Blk:=bU (kR (eV 0) (eV 1) (eV 2)::if any then [] else [Qz (eV 3)])
def Ls(any:Bool):Nat:=if any then 1 else 2
def Bn:List E:=[ag (.int 0) (eV 1),ag (eV 1) (eV 2),bu (ln (eV 0)) (tm (eV 1) (.int 2)),ag (eV 1) (.int 30)]++NQ (eV 3)
def clX(any:Bool):SV:=if any then UH else clC 1
def adh(any:Bool):Pact:=⟨85,[.nslice 0 (eV 1) (eV 2),clX any],⟨if any then 3 else 4,Ls any,RW any,if any then Bn.take 4 else Bn⟩,
 [(ii (eV 4),⟨5,Ls any,RW any,[bu (eV 4) (aI 175 [KK any (eV 3),eV 0,eV 1]),ag (.int (-1)) (eV 4),iB (eV 4) (eV 1)]⟩)]⟩
def tXF(any:Bool):Tmpl:=⟨bC 19 [(0,.nslice 0 (eV 1) (eV 2)),(1,clX any),(6,.nslice 0 (eV 1) (eV 2)),(7,ii (eV 1)),(8,ii (eV 8))],⟨9,Ls any,RW any,(if any then Bn.take 4 else Bn)++[ag (.int 0) (eV 8),ag (eV 8) (eV 1),bu (aI 175 [KK any (eV 3),eV 0,eV 8]) (.int (-1))]⟩,mi (eV 1) (eV 8)⟩
def als(any:Bool):List Ann:=[⟨85,0,[tXF any],none⟩]
def aPy:List E:=Bn.take 4++[ag (.int 0) (eV 3),iB (eV 3) (eV 1),bu (eV 4) (.ar .add .i64 (eV 3) (.int 1))]
def aUD:Pact:=⟨86,[.nslice 0 (eV 1) (eV 2),ii (eV 3),ii (eV 4)],⟨5,1,bU [kR (eV 0) (eV 1) (eV 2)],aPy⟩,
 [(.nslice 0 (eV 6) (eV 2),⟨7,1,bU [kR (eV 5) (eV 6) (eV 2)],[bu (eV 6) (mi (eV 1) (.int 1)),bu (ln (eV 5)) (tm (eV 6) (.int 2)),aI 186 [eV 5,eV 0,eV 3]]⟩)]⟩
def tF(rb tb a:Nat)(k:Bool):Blk:=OH (.nslice rb (eV (a+5)) (eV (a+6))) (if k then .nslice tb (eV (a+8)) (eV (a+9))else .nils) a
def ov(a:Nat):List E:=[fA 188 ((List.range 4).map fun j=>eV (a+j))]
def Pi(any:Bool):List Blk:=if any then [] else [Qz (eV 10)]
def tpV(any:Bool):SV:=if any then UH else clC 3
def Ki(any:Bool):Nat:=if any then 3 else 4
def aor(k any:Bool):Pact:=⟨57,[bJ 0,tpV any],⟨11,Ki any,bU (HH 0 0 k++Pi any),lf 0 k++NQ (eV 10)⟩,
  [(.bool (.bool true),⟨22,Ki any+1,bU ([OH (.nslice 1 (eV 17) (eV 18)) (.nslice (Ki any) (eV 20) (eV 21)) 12|>fun b=>⟨true,match b.obj with | .cells (_ ::_ ::_ ::_ ::r) t e=> .cells (((List.range 4).map fun j=>ii (eV j))++r) t e | o=>o⟩,kR (eV 16) (eV 17) (eV 18),gone]++Pi any++[nV (eV 19) (eV 20) (eV 21)]),
      lf 12 true++[bu (eV 17) (mi (eV 5) (.int 1)),bu (eV 20) (if k then pl (eV 8) (.int 1)else .int 1),fA 174 [eV 16,eV 19,KK any (eV 10),eV 4,puT 0 k]]⟩),
   (.bool (.bool false),⟨11,Ki any,bU (HH 0 0 k++Pi any),[bu (aI 175 [KK any (eV 10),eV 4,eV 5]) (.int (-1))]⟩)]⟩
def FG(k any:Bool):Pact:=let s:=aor k any;if any then {s with st:={s.st with pc:=lf 0 k++[bu (eV 10) (.int 0)]}} else s
def abf(k:Bool):List E:=lf 0 k++ov 0++NQ (eV 10)++[ag (.int 0) (eV 11),ag (eV 11) (.int 20)]
def ag9(k:Bool):SV×St:=(.bool (.bool true),⟨22,4,bU [tF 1 3 12 true,kR (eV 16) (eV 17) (eV 18),gone,nV (eV 19) (eV 20) (eV 21)],lf 12 true++ov 12++[fA 170 (iS 12 true++[eV 10,eV 11]++iS 0 k)]⟩)
def aPY:SV×St:=(.bool (.bool true),⟨19,3,bU [tF 1 3 12 false,kR (eV 16) (eV 17) (eV 18),gone],lf 12 false++ov 12++[fA 170 (iS 12 false++[eV 10,eV 11]++iS 0 false)]⟩)
def aQb(k:Bool):SV×St:=(.bool (.bool false),⟨12,3,bU [gone,gone,gone],[fA 171 ([eV 10,eV 11]++iS 0 k)]⟩)
def TO(k:Bool):Pact:=⟨37,[bJ 0,ii (eV 10),ii (eV 11)],⟨12,3,bU (HH 0 0 k),abf k⟩,(if k then [ag9 k] else [aPY,ag9 k])++[aQb k]⟩
def SF(k k':Bool):Tmpl:=⟨bC 36 [(0,bJ 0),(2,ii (eV 11)),(4,bJ 25),(7,ii (eV 34))],⟨35,26,bU ([tF 1 24 24 k',kR (eV 28) (eV 29) (eV 30)]++List.replicate 22 gone++[if k' then nV (eV 31) (eV 32) (eV 33)else gone,Qz (eV 10)]),
 abf k++lf 24 k'++ov 24++[ag (.int 0) (eV 34),ag (eV 34) (eV 11),fA 170 (iS 24 k'++[eV 10,eV 34]++iS 0 k),.imp (iB (eV 34) (eV 11)) (fA 185 ((List.range 4).map (fun j=>eV (24+j))++[eV 10]))]⟩,mi (eV 11) (eV 34)⟩
def Wv(k:Bool):List Ann:=[⟨37,0,if k then [SF true true] else [SF false false,SF false true],none⟩]
def aJ4(k:Bool):List E:=lf 0 k++ov 0
def amX(k:Bool):SV×St:=(.bool (.bool true),⟨22,4,bU [tF 1 3 12 true,kR (eV 16) (eV 17) (eV 18),gone,nV (eV 19) (eV 20) (eV 21)],lf 12 true++ov 12++[fA 170 (iS 12 true++[.int 4,.int 1]++iS 0 k)]⟩)
def awV:SV×St:=(.bool (.bool true),⟨19,3,bU [tF 1 3 12 false,kR (eV 16) (eV 17) (eV 18),gone],lf 12 false++ov 12++[fA 170 (iS 12 false++[.int 4,.int 1]++iS 0 false)]⟩)
def aCm(k:Bool):SV×St:=(.bool (.bool false),⟨10,3,bU [gone,gone,gone],[fA 171 ([.int 4,.int 1]++iS 0 k)]⟩)
def Xj(k:Bool):Pact:=⟨38,[bJ 0],⟨10,3,bU (HH 0 0 k),aJ4 k⟩,(if k then [amX k] else [awV,amX k])++[aCm k]⟩
def sk:List E:=(List.range 5).map fun j=>eV (3+j)
def Is:List E:=sk.take 4++[eV 0,eV 1,eV 2]
def yI:E:=EV (eV 1) (eV 2)
def qg:E:=aI 146 sk
def avP:SV:=.agg [ii (.int 0),ii (.int 0),ii (.int 0),ii (.int 0)]
def TS(m:Nat)(l:E):E:=fA 183 ((List.range 4).map (fun j=>eV (m+j))++[l]++sk++[eV 0,eV 1,eV 2])
def AI:E:=fA 177 ([.int 4,eV 7]++Is)
def L8(e:Int)(c:List E):SV×St:=(.tup [.nils,avP,ii (.int e)],⟨8,0,.nil,c⟩)
def amJ:SV×St:=(.tup [.nils,.agg (QC 8),ii (.int 0)],⟨12,0,.nil,[TS 8 AM,yI,qg]⟩)
def agY:SV×St:=(.tup [.nslice 0 (eV 13) (eV 14),.agg (QC 8),ii (.int 0)],⟨15,1,bU [nV (eV 12) (eV 13) (eV 14)],[TS 8 (eV 12),yI,qg,ag (.int 1) (eV 13),ag (eV 13) (eV 14),ag (eV 13) (.int 30),bu (ln (eV 12)) (eV 13)]⟩)
def Dp:List SV:=[.bsl kC (eV 0),fy (eV 1),ii (eV 2),.agg (sk.map ii)]
def aE7:Pact:=⟨17,Dp,⟨8,0,.nil,tB⟩,[L8 2 [.not (.and yI qg)],L8 12 [AI,yI,qg],amJ,agY]⟩
def aTf:Pact:=⟨36,[.agg ((List.range 5).map fun j=>ii (eV j))],⟨5,0,.nil,[]⟩,[(.bool (eV 5),⟨6,0,.nil,[.iff (eV 5) (aI 146 ((List.range 5).map eV))]⟩)]⟩
def av8(a:Nat)(k:Bool)(n:E):E:=fA 176 (iS a k++[.int 4,n]++Is)
def zB:Blk:=⟨true,.cells [ii (.int 0),ii (.int 0),ii (.int 0),ii (.int 0)] (.int 4) 25⟩
def MJ(m:Nat):Tmpl:=let k:=m==1
  ⟨bC 76 [(8,.nils),(9,bJ 24),(10,ii (.int 0)),(11,bJ 25),(12,.bool (.bool (m != 2))),(51,ii (eV 7)),(52,ii (eV 74))],⟨75,28,bU (List.replicate 24 gone++[zB]++(if m==2 then [gone,gone,gone] else [tF 26 27 64 k,kR (eV 68) (eV 69) (eV 70),if k then nV (eV 71) (eV 72) (eV 73)else gone])),
   tB++[yI,qg,ag (.int 0) (eV 7),ag (eV 7) (.int 20),ag (.int 0) (eV 74),ag (eV 74) (eV 7)]++(if m==2 then [AI] else lf 64 k++ov 64++[av8 64 k (eV 74)])⟩,mi (eV 7) (eV 74)⟩
def adV:Blk:=⟨true,.cells (sk.map ii) (.int 5) 42⟩
def MC(m:Nat):Tmpl:=let k:=m==1
  ⟨bC 76 [(7,bJ 16),(8,.nils),(9,bJ 17),(10,ii (.int 0)),(11,bJ 18),(12,.bool (.bool (m != 2))),(37,.agg ((sk.take 4).map ii)),(38,ii (eV 34))],⟨35,21,bU (List.replicate 16 gone++[adV,zB]++(if m==2 then [gone,gone,gone] else [tF 19 20 24 k,kR (eV 28) (eV 29) (eV 30),if k then nV (eV 31) (eV 32) (eV 33)else gone])),
   tB++[yI,qg,ag (.int 0) (eV 34),ag (eV 34) (.int 4)]++(if m==2 then [AI] else lf 24 k++ov 24++[fA 176 (iS 24 k++[eV 34,.int 0]++Is)])⟩,mi (.int 4) (eV 34)⟩
def aLN:List Ann:=[⟨17,0,[MC 0,MC 1,MC 2],none⟩,⟨17,2,[MJ 0,MJ 1,MJ 2],none⟩]
def anW:E:=fA 182 (sk++[eV 0,eV 1,eV 2])
def aLX:Pact:=⟨18,Dp,⟨8,0,.nil,tB⟩,[(.bool (eV 8),⟨9,0,.nil,[.iff (eV 8) anW]⟩)]⟩
def atm:Pact:=⟨14,[.bsl kC (eV 0),fy (eV 1),ii (eV 2)],⟨3,0,.nil,zJ⟩,[(.bsl kI (eV 3),⟨4,0,.nil,[ag (ln (eV 3)) (.int 40),awo (eV 3)]⟩)]⟩
def msI:List FM:=[.down kI]
def akh:List E:=[ag nI (.int 40)]
def aKJ:Pact:=⟨41,[.bsl kI (eV 0),ii (eV 1)],⟨2,0,.nil,akh⟩,[(.bsl kI (eV 2),⟨3,0,.nil,[aI 184 [eV 2,eV 0,eV 1,nI],ag (ln (eV 2)) nI]⟩)]⟩
def tWo(k:Bool):Tmpl:=⟨bC 27 [(0,.bsl kI (eV 0)),(1,ii (eV 1)),(4,.nils),(5,if k then .nslice 8 (eV 9) (eV 10)else .nils),(6,ii (eV 11))],⟨12,if k then 9 else 0,bU (if k then List.replicate 8 gone++[nV (eV 8) (eV 9) (eV 10)] else []),
 akh++[ag (.int 0) (eV 11),ag (eV 11) nI]++(if k then [ag (.int 1) (eV 9),ag (eV 9) (eV 10),bu (ln (eV 8)) (eV 9),ag (eV 9) (eV 11),aI 184 [eV 8,eV 0,eV 1,eV 11]] else [aI 184 [AM,eV 0,eV 1,eV 11]])⟩,mi nI (eV 11)⟩
def aNo:List Ann:=[⟨41,0,[tWo false,tWo true],none⟩]
def aU6:Pact:=⟨21,Dp,⟨8,0,.nil,zJ++[qg]⟩,[L8 12 [AI],amJ,agY]⟩
def aB2(a:Nat):Blk:=⟨true,.cells (QC a) (.int 4) 25⟩
def qV(W a:Nat)(k:Bool)(more:List Blk):T Blk:=bU (List.replicate W gone++[Qf,adV,zB,aB2 a]++(if k then [nV (eV (a+7)) (eV (a+8)) (eV (a+9))] else [gone])++more)
def rg(W a:Nat)(k:Bool):List (Nat×SV):=[(0,.bsl kC (eV 0)),(5,bJ W),(7,bJ (W+1)),(8,.nils),(9,bJ (W+2)),(10,ii (.int 0)),(11,bJ (W+3)),(12,.bsl kI (eV (a+4))),(13,if k then .nslice (W+4) (eV (a+8)) (eV (a+9))else .nils)]
def vL(a:Nat)(k:Bool)(i n:E):List E:=zJ++[qg]++ov a++[ag (ln (eV (a+4))) (.int 40)]++(if k then [ag (.int 1) (eV (a+8)),ag (eV (a+8)) (eV (a+9)),bu (ln (eV (a+7))) (eV (a+8)),ag (pl (eV (a+8)) (ln (eV (a+4)))) (.int 30)] else []) ++
 [fA 178 (iS a k++[i,n]++Is)]
def im(k:Bool):Tmpl:=⟨bC 123 (rg 16 16 k++[(14,ii (eV 26))]),⟨27,21,qV 16 16 k [],vL 16 k (eV 26) (.int 0)++[ag (.int 0) (eV 26),ag (eV 26) (.int 4)]⟩,mi (.int 4) (eV 26)⟩
def Oi:E:=nt (jG (sk.take 4)) (eV 26)
def gQ(k:Bool):Tmpl:=⟨bC 123 (rg 24 32 k++[(14,ii (eV 26)),(15,ii (eV 42))]),⟨43,29,qV 24 32 k [],vL 32 k (eV 26) (eV 42)++[ag (.int 0) (eV 26),iB (eV 26) (.int 4),ag (.int 0) (eV 42),ag (eV 42) (.int 20),ag (eV 42) Oi]⟩,mi (.int 20) (eV 42)⟩
def iz(k:Bool):Tmpl:=⟨bC 123 (rg 24 32 k++[(14,ii (eV 26)),(15,ii (eV 42)),(16,ii (eV 48)),(17,ii (eV 49))]),⟨50,29,qV 24 32 k [],vL 32 k (eV 26) (eV 42)++[ag (.int 0) (eV 26),iB (eV 26) (.int 4),ag (.int 0) (eV 42),ag (eV 42) (.int 20),iB (eV 42) Oi,
 fA 185 ((List.range 4).map (fun j=>eV (32+j))++[eV 26]),ag (.int (-1)) (eV 49),iB (eV 49) (ln (eV 36)),bu (eV 48) (fA 179 [.fn 19 (.pr (eV 36) (pl (eV 49) (.int 1))),eV 26,eV 0,eV 1])]⟩,pl (eV 49) (.int 1)⟩
def ahy(k:Bool):Out:=⟨.exit 4,bC 123 (rg 24 32 k++[(14,ii (eV 26)),(15,ii (eV 42)),(16,ii (eV 48))]),⟨50,29,qV 24 32 k [],(gQ k).st.pc++[iB (eV 42) Oi,fA 185 ((List.range 4).map (fun j=>eV (32+j))++[eV 26]),bu (eV 48) (fA 179 [eV 36,eV 26,eV 0,eV 1])]⟩⟩
def nH:LoopX:=⟨48,29,[ahy false,ahy true]⟩
def wE(y:Option LoopX):Ann:=⟨21,4,[iz false,iz true],y⟩
def NP(n b:Nat):Out:=⟨.ret,bC 123 [(8,.nils),(9,bJ b),(10,ii (.int 12))],⟨n,b+1,bU (List.replicate b gone++[zB]),zJ++[qg,AI]⟩⟩
def ag8(k:Bool):Out:=⟨.exit 2,bC 123 (rg 24 32 k++[(14,ii (eV 26))]),⟨43,29,qV 24 32 k [],vL 32 k (pl (eV 26) (.int 1)) (.int 0)++[ag (.int 0) (eV 26),iB (eV 26) (.int 4)]⟩⟩
def nJ:LoopX:=⟨32,24,[ag8 false,ag8 true,NP 32 24]⟩
def yy(y:Option LoopX):Ann:=⟨21,2,[gQ false,gQ true],y⟩
def anQ(k:Bool):Out:=⟨.exit 0,bC 123 (rg 16 16 k),⟨27,21,qV 16 16 k [],vL 16 k (.int 4) (.int 0)⟩⟩
def ni:LoopX:=⟨16,16,[anQ false,anQ true,NP 16 16]⟩
def wj(y:Option LoopX):Ann:=⟨21,0,[im false,im true],y⟩
def iw(k:Bool):Tmpl:=⟨bC 123 (rg 24 32 k++[(18,ii (eV 42))]),⟨43,29,qV 24 32 k [],vL 32 k (.int 4) (eV 42)++[ag (.int 0) (eV 42),ag (eV 42) (.int 20),ag (eV 42) (eV 7)]⟩,mi (.int 20) (eV 42)⟩
def alr(k:Bool):Out:=⟨.exit 6,bC 123 (rg 24 32 k),⟨43,29,qV 24 32 k [],vL 32 k (.int 4) (eV 7)⟩⟩
def oB:LoopX:=⟨32,24,[alr false,alr true,NP 32 24]⟩
def xS(y:Option LoopX):Ann:=⟨21,6,[iw false,iw true],y⟩
def auA:Pact:=⟨19,Dp,⟨8,0,.nil,tB⟩,[(.bool (eV 8),⟨9,0,.nil,[.iff (eV 8) anW]⟩)]⟩
def aEU:List SV:=Dp
def RK:List E:=[MZ (eV 1)]

theorem aY1:∀F:Env,E.B F w8=true:=fun F=>rfl
structure Nl where
 l:List Nat1
 h:∀x∈l,aN Try.prog x
def nc{x:Nat1}(h:aN Try.prog x)(n:Nl):Nl:=⟨x::n.l,fun y hy=>(List.mem_cons.1 hy).elim (fun e=>e▸h) (n.h y)⟩
theorem sc{s:Pact}(f:List Fa)(a:List Ann)(n:Nl)(ms:List FM)(ha:Fo a=true)(h:lM Try.prog (fun tb=>P8 Try.prog (tb.plus (fl f) a n.l) 3000 ms s)=true):aN Try.prog (aZ s):=
 P4 good (facts:=fl f) (gh f) (anns:=a) (gL a ha) (nats:=n.l) n.h (n:=3000) (ms:=ms) h
def TM:Nl:=⟨nats,nats_ok⟩
def p0:List Fa:=[]
theorem aXe:aN Try.prog (aZ (aQC)):=sc p0 ([]) TM ([]) (by kernel_rfl) (by kernel_rfl)
def aaC:Nl:=nc aXe TM
def p1:List Fa:=[]
theorem azA:aN Try.prog (aZ (wF 1 0 1 [] [0,0,0,1] 0)):=sc p1 ([]) aaC ([]) (by kernel_rfl) (by kernel_rfl)
def aci:Nl:=nc azA aaC
def p2:List Fa:=[]
theorem aNp:aN Try.prog (aZ (wF 2 0 0 [1] [0,0,0,2] 0)):=sc p2 ([]) aci ([]) (by kernel_rfl) (by kernel_rfl)
def Vr:Nl:=nc aNp aci
def p3:List Fa:=[]
theorem awf:aN Try.prog (aZ (wF 3 0 1 [1,3] [0,0,0,1] 0)):=sc p3 ([]) Vr ([]) (by kernel_rfl) (by kernel_rfl)
def aei:Nl:=nc awf Vr
def p4:List Fa:=[]
theorem ap6:aN Try.prog (aZ (wF 2 0 4 [1,2,3] [0,0,0,0] 0)):=sc p4 ([]) aei ([]) (by kernel_rfl) (by kernel_rfl)
def UC:Nl:=nc ap6 aei
def p5:List Fa:=[]
theorem aHc:aN Try.prog (aZ (wF 0 1 4 [1,2] [0,0,0,0] 0)):=sc p5 ([]) UC ([]) (by kernel_rfl) (by kernel_rfl)
def VG:Nl:=nc aHc UC
def p6:List Fa:=[]
theorem aUy:aN Try.prog (aZ (wF 0 2 0 [] [0,0,0,0] 12)):=sc p6 ([]) VG ([]) (by kernel_rfl) (by kernel_rfl)
def adv:Nl:=nc aUy VG
def p7:List Fa:=[]
theorem axu:aN Try.prog (aZ (aPC)):=sc p7 ([]) adv ([]) (by kernel_rfl) (by kernel_rfl)
def amc:Nl:=nc axu adv
def p8:List Fa:=[]
theorem aC3:aN Try.prog (aZ (aV5)):=sc p8 ([]) amc ([]) (by kernel_rfl) (by kernel_rfl)
def abF:Nl:=nc aC3 amc
def p9:List Fa:=[]
theorem aCO:aN Try.prog (aZ (SR 0 0 0 0 6 true)):=sc p9 ([]) abF ([]) (by kernel_rfl) (by kernel_rfl)
def Yi:Nl:=nc aCO abF
def ai:List Fa:=[]
theorem aH0:aN Try.prog (aZ (SR 0 0 0 0 7 false)):=sc ai ([]) Yi ([]) (by kernel_rfl) (by kernel_rfl)
def Vk:Nl:=nc aH0 Yi
def ao:List Fa:=[]
theorem aPj:aN Try.prog (aZ (SR 0 0 1 0 0 false)):=sc ao ([]) Vk ([]) (by kernel_rfl) (by kernel_rfl)
def I7:Nl:=nc aPj Vk
end
end Go.Proofs.Ytnnbmcfabojjjaa.payPlans
