/-
  PayPays: contracts of functions, part 1.
-/
import Derived.Test.YtnnbmcfabojjjaaGreatRows
import Derived.Test.YtnnbmcfabojjjaaGreatNat
import Derived.WalkKit
import Derived.ProofKit
import Derived.OpenShut
import Derived.ChangeOld
import Derived.Below
import Derived.KernelRfl
import Derived.Lib.SmallJoins
import Derived.Laws.IdiomArrays
namespace Go.Proofs.YtnnbmcfabojjjaaGreat.payPays
open Go.ChangeShapes Go.WideShapes Go.ChangeAt Go.RowKit
open Go.SX
open Go.SX.E (fn pr cmp var)
set_option linter.unusedVariables false
set_option linter.unusedSimpArgs false
set_option maxRecDepth 100000
noncomputable section
theorem own:ownKnob Tryz.prog.godebug=none:=by kernel_rfl
theorem laidOut:laidOutB Tryz.prog=true:=by kernel_rfl
theorem good:ng Tryz.prog=true:=by kernel_rfl

theorem aXa{H:Type}:BulkOk (Ce (H:=H)) xG:=aiE
theorem a6p{us:List U}(h:us.length=38)(t:U.typs us qo []=true):xD (.lst us)=true:=aWC h t

abbrev Tr(f:E):Prop:=∀F:Env,E.B F f=true
theorem ac{e:E}{l:List E}(h:Tr e)(hl:∀e∈l,Tr e):∀x∈e::l,Tr x:=all_cons h hl
structure Fa where
 e:E
 t:Tr e
def fa(e:E)(t:Tr e):Fa:=⟨e,t⟩
def ans:E->List E->E
 |a,[]=>a
 |a,b::l=>.and a (ans b l)
def cP:List E->E->E
 |[],d=>d
 |a::l,d=>.imp (ans a l) d
def fb(l:List E)(d:E)(t:Tr (cP l d)):Fa:=⟨cP l d,t⟩
def fl:List Fa->List E
 |[]=>[]
 |x::l=>x.e::fl l
theorem gU:∀l:List Fa,∀e∈fl l,Tr e
 |[],e,h=>by cases h
 |x::l,e,h=>(List.mem_cons.1 h).elim (fun h=>h▸x.t) (gU l e)
def dv:Fa:=fa zu fun F=>rfl
theorem aj{a0 d:E}(h:∀F:Env,E.B F a0=true->E.B F d=true):Tr (cP [a0] d):=fun F=>by
 show E.B F (.imp a0 d)=true
 rw[cV]
 rintro p0
 exact h F p0
theorem ai{a0 a1 d:E}(h:∀F:Env,E.B F a0=true->E.B F a1=true->E.B F d=true):Tr (cP [a0,a1] d):=fun F=>by
 show E.B F (.imp (.and a0 a1) d)=true
 rw[cV]
 simp only[da]
 rintro⟨p0,p1⟩
 exact h F p0 p1
theorem ag{a0 a1 a2 d:E}(h:∀F:Env,E.B F a0=true->E.B F a1=true->E.B F a2=true->E.B F d=true):Tr (cP [a0,a1,a2] d):=fun F=>by
 show E.B F (.imp (.and a0 (.and a1 a2)) d)=true
 rw[cV]
 simp only[da]
 rintro⟨p0,p1,p2⟩
 exact h F p0 p1 p2
theorem am{a0 a1 a2 a3 d:E}(h:∀F:Env,E.B F a0=true->E.B F a1=true->E.B F a2=true->E.B F a3=true->E.B F d=true):Tr (cP [a0,a1,a2,a3] d):=fun F=>by
 show E.B F (.imp (.and a0 (.and a1 (.and a2 a3))) d)=true
 rw[cV]
 simp only[da]
 rintro⟨p0,p1,p2,p3⟩
 exact h F p0 p1 p2 p3
theorem aw{a0 a1 a2 a3 a4 d:E}(h:∀F:Env,E.B F a0=true->E.B F a1=true->E.B F a2=true->E.B F a3=true->E.B F a4=true->E.B F d=true):Tr (cP [a0,a1,a2,a3,a4] d):=fun F=>by
 show E.B F (.imp (.and a0 (.and a1 (.and a2 (.and a3 a4)))) d)=true
 rw[cV]
 simp only[da]
 rintro⟨p0,p1,p2,p3,p4⟩
 exact h F p0 p1 p2 p3 p4
theorem bq{a0 a1 a2 a3 a4 a5 d:E}(h:∀F:Env,E.B F a0=true->E.B F a1=true->E.B F a2=true->E.B F a3=true->E.B F a4=true->E.B F a5=true->E.B F d=true):Tr (cP [a0,a1,a2,a3,a4,a5] d):=fun F=>by
 show E.B F (.imp (.and a0 (.and a1 (.and a2 (.and a3 (.and a4 a5))))) d)=true
 rw[cV]
 simp only[da]
 rintro⟨p0,p1,p2,p3,p4,p5⟩
 exact h F p0 p1 p2 p3 p4 p5
theorem bL{a0 a1 a2 a3 a4 a5 a6 d:E}(h:∀F:Env,E.B F a0=true->E.B F a1=true->E.B F a2=true->E.B F a3=true->E.B F a4=true->E.B F a5=true->E.B F a6=true->E.B F d=true):Tr (cP [a0,a1,a2,a3,a4,a5,a6] d):=fun F=>by
 show E.B F (.imp (.and a0 (.and a1 (.and a2 (.and a3 (.and a4 (.and a5 a6)))))) d)=true
 rw[cV]
 simp only[da]
 rintro⟨p0,p1,p2,p3,p4,p5,p6⟩
 exact h F p0 p1 p2 p3 p4 p5 p6
theorem b7{a0 a1 a2 a3 a4 a5 a6 a7 d:E}(h:∀F:Env,E.B F a0=true->E.B F a1=true->E.B F a2=true->E.B F a3=true->E.B F a4=true->E.B F a5=true->E.B F a6=true->E.B F a7=true->E.B F d=true):Tr (cP [a0,a1,a2,a3,a4,a5,a6,a7] d):=fun F=>by
 show E.B F (.imp (.and a0 (.and a1 (.and a2 (.and a3 (.and a4 (.and a5 (.and a6 a7))))))) d)=true
 rw[cV]
 simp only[da]
 rintro⟨p0,p1,p2,p3,p4,p5,p6,p7⟩
 exact h F p0 p1 p2 p3 p4 p5 p6 p7
theorem b8{a0 a1 a2 a3 a4 a5 a6 a7 a8 d:E}(h:∀F:Env,E.B F a0=true->E.B F a1=true->E.B F a2=true->E.B F a3=true->E.B F a4=true->E.B F a5=true->E.B F a6=true->E.B F a7=true->E.B F a8=true->E.B F d=true):Tr (cP [a0,a1,a2,a3,a4,a5,a6,a7,a8] d):=fun F=>by
 show E.B F (.imp (.and a0 (.and a1 (.and a2 (.and a3 (.and a4 (.and a5 (.and a6 (.and a7 a8)))))))) d)=true
 rw[cV]
 simp only[da]
 rintro⟨p0,p1,p2,p3,p4,p5,p6,p7,p8⟩
 exact h F p0 p1 p2 p3 p4 p5 p6 p7 p8
theorem fA{a0 a1 a2 a3 a4 a5 a6 a7 a8 a9 d:E}(h:∀F:Env,E.B F a0=true->E.B F a1=true->E.B F a2=true->E.B F a3=true->E.B F a4=true->E.B F a5=true->E.B F a6=true->E.B F a7=true->E.B F a8=true->E.B F a9=true->E.B F d=true):Tr (cP [a0,a1,a2,a3,a4,a5,a6,a7,a8,a9] d):=fun F=>by
 show E.B F (.imp (.and a0 (.and a1 (.and a2 (.and a3 (.and a4 (.and a5 (.and a6 (.and a7 (.and a8 a9))))))))) d)=true
 rw[cV]
 simp only[da]
 rintro⟨p0,p1,p2,p3,p4,p5,p6,p7,p8,p9⟩
 exact h F p0 p1 p2 p3 p4 p5 p6 p7 p8 p9
theorem eW{a0 a1 a2 a3 a4 a5 a6 a7 a8 a9 a10 d:E}(h:∀F:Env,E.B F a0=true->E.B F a1=true->E.B F a2=true->E.B F a3=true->E.B F a4=true->E.B F a5=true->E.B F a6=true->E.B F a7=true->E.B F a8=true->E.B F a9=true->E.B F a10=true->E.B F d=true):Tr (cP [a0,a1,a2,a3,a4,a5,a6,a7,a8,a9,a10] d):=fun F=>by
 show E.B F (.imp (.and a0 (.and a1 (.and a2 (.and a3 (.and a4 (.and a5 (.and a6 (.and a7 (.and a8 (.and a9 a10)))))))))) d)=true
 rw[cV]
 simp only[da]
 rintro⟨p0,p1,p2,p3,p4,p5,p6,p7,p8,p9,ao⟩
 exact h F p0 p1 p2 p3 p4 p5 p6 p7 p8 p9 ao
theorem jV{a0 a1 a2 a3 a4 a5 a6 a7 a8 a9 a10 a11 d:E}(h:∀F:Env,E.B F a0=true->E.B F a1=true->E.B F a2=true->E.B F a3=true->E.B F a4=true->E.B F a5=true->E.B F a6=true->E.B F a7=true->E.B F a8=true->E.B F a9=true->E.B F a10=true->E.B F a11=true->E.B F d=true):Tr (cP [a0,a1,a2,a3,a4,a5,a6,a7,a8,a9,a10,a11] d):=fun F=>by
 show E.B F (.imp (.and a0 (.and a1 (.and a2 (.and a3 (.and a4 (.and a5 (.and a6 (.and a7 (.and a8 (.and a9 (.and a10 a11))))))))))) d)=true
 rw[cV]
 simp only[da]
 rintro⟨p0,p1,p2,p3,p4,p5,p6,p7,p8,p9,ao,au⟩
 exact h F p0 p1 p2 p3 p4 p5 p6 p7 p8 p9 ao au
theorem jk{a0 a1 a2 a3 a4 a5 a6 a7 a8 a9 a10 a11 a12 d:E}(h:∀F:Env,E.B F a0=true->E.B F a1=true->E.B F a2=true->E.B F a3=true->E.B F a4=true->E.B F a5=true->E.B F a6=true->E.B F a7=true->E.B F a8=true->E.B F a9=true->E.B F a10=true->E.B F a11=true->E.B F a12=true->E.B F d=true):Tr (cP [a0,a1,a2,a3,a4,a5,a6,a7,a8,a9,a10,a11,a12] d):=fun F=>by
 show E.B F (.imp (.and a0 (.and a1 (.and a2 (.and a3 (.and a4 (.and a5 (.and a6 (.and a7 (.and a8 (.and a9 (.and a10 (.and a11 a12)))))))))))) d)=true
 rw[cV]
 simp only[da]
 rintro⟨p0,p1,p2,p3,p4,p5,p6,p7,p8,p9,ao,au,az⟩
 exact h F p0 p1 p2 p3 p4 p5 p6 p7 p8 p9 ao au az
theorem u3{a0 a1 a2 a3 a4 a5 a6 a7 a8 a9 a10 a11 a12 a13 d:E}(h:∀F:Env,E.B F a0=true->E.B F a1=true->E.B F a2=true->E.B F a3=true->E.B F a4=true->E.B F a5=true->E.B F a6=true->E.B F a7=true->E.B F a8=true->E.B F a9=true->E.B F a10=true->E.B F a11=true->E.B F a12=true->E.B F a13=true->E.B F d=true):Tr (cP [a0,a1,a2,a3,a4,a5,a6,a7,a8,a9,a10,a11,a12,a13] d):=fun F=>by
 show E.B F (.imp (.and a0 (.and a1 (.and a2 (.and a3 (.and a4 (.and a5 (.and a6 (.and a7 (.and a8 (.and a9 (.and a10 (.and a11 (.and a12 a13))))))))))))) d)=true
 rw[cV]
 simp only[da]
 rintro⟨p0,p1,p2,p3,p4,p5,p6,p7,p8,p9,ao,au,az,aE⟩
 exact h F p0 p1 p2 p3 p4 p5 p6 p7 p8 p9 ao au az aE
theorem CU{a0 a1 a2 a3 a4 a5 a6 a7 a8 a9 a10 a11 a12 a13 a14 d:E}(h:∀F:Env,E.B F a0=true->E.B F a1=true->E.B F a2=true->E.B F a3=true->E.B F a4=true->E.B F a5=true->E.B F a6=true->E.B F a7=true->E.B F a8=true->E.B F a9=true->E.B F a10=true->E.B F a11=true->E.B F a12=true->E.B F a13=true->E.B F a14=true->E.B F d=true):Tr (cP [a0,a1,a2,a3,a4,a5,a6,a7,a8,a9,a10,a11,a12,a13,a14] d):=fun F=>by
 show E.B F (.imp (.and a0 (.and a1 (.and a2 (.and a3 (.and a4 (.and a5 (.and a6 (.and a7 (.and a8 (.and a9 (.and a10 (.and a11 (.and a12 (.and a13 a14)))))))))))))) d)=true
 rw[cV]
 simp only[da]
 rintro⟨p0,p1,p2,p3,p4,p5,p6,p7,p8,p9,ao,au,az,aE,aM⟩
 exact h F p0 p1 p2 p3 p4 p5 p6 p7 p8 p9 ao au az aE aM
theorem qk{a0 a1 a2 a3 a4 a5 a6 a7 a8 a9 a10 a11 a12 a13 a14 a15 d:E}(h:∀F:Env,E.B F a0=true->E.B F a1=true->E.B F a2=true->E.B F a3=true->E.B F a4=true->E.B F a5=true->E.B F a6=true->E.B F a7=true->E.B F a8=true->E.B F a9=true->E.B F a10=true->E.B F a11=true->E.B F a12=true->E.B F a13=true->E.B F a14=true->E.B F a15=true->E.B F d=true):Tr (cP [a0,a1,a2,a3,a4,a5,a6,a7,a8,a9,a10,a11,a12,a13,a14,a15] d):=fun F=>by
 show E.B F (.imp (.and a0 (.and a1 (.and a2 (.and a3 (.and a4 (.and a5 (.and a6 (.and a7 (.and a8 (.and a9 (.and a10 (.and a11 (.and a12 (.and a13 (.and a14 a15))))))))))))))) d)=true
 rw[cV]
 simp only[da]
 rintro⟨p0,p1,p2,p3,p4,p5,p6,p7,p8,p9,ao,au,az,aE,aM,aN⟩
 exact h F p0 p1 p2 p3 p4 p5 p6 p7 p8 p9 ao au az aE aM aN
theorem x7{a0 a1 a2 a3 a4 a5 a6 a7 a8 a9 a10 a11 a12 a13 a14 a15 a16 d:E}(h:∀F:Env,E.B F a0=true->E.B F a1=true->E.B F a2=true->E.B F a3=true->E.B F a4=true->E.B F a5=true->E.B F a6=true->E.B F a7=true->E.B F a8=true->E.B F a9=true->E.B F a10=true->E.B F a11=true->E.B F a12=true->E.B F a13=true->E.B F a14=true->E.B F a15=true->E.B F a16=true->E.B F d=true):Tr (cP [a0,a1,a2,a3,a4,a5,a6,a7,a8,a9,a10,a11,a12,a13,a14,a15,a16] d):=fun F=>by
 show E.B F (.imp (.and a0 (.and a1 (.and a2 (.and a3 (.and a4 (.and a5 (.and a6 (.and a7 (.and a8 (.and a9 (.and a10 (.and a11 (.and a12 (.and a13 (.and a14 (.and a15 a16)))))))))))))))) d)=true
 rw[cV]
 simp only[da]
 rintro⟨p0,p1,p2,p3,p4,p5,p6,p7,p8,p9,ao,au,az,aE,aM,aN,bb⟩
 exact h F p0 p1 p2 p3 p4 p5 p6 p7 p8 p9 ao au az aE aM aN bb
theorem CV{a0 a1 a2 a3 a4 a5 a6 a7 a8 a9 a10 a11 a12 a13 a14 a15 a16 a17 d:E}(h:∀F:Env,E.B F a0=true->E.B F a1=true->E.B F a2=true->E.B F a3=true->E.B F a4=true->E.B F a5=true->E.B F a6=true->E.B F a7=true->E.B F a8=true->E.B F a9=true->E.B F a10=true->E.B F a11=true->E.B F a12=true->E.B F a13=true->E.B F a14=true->E.B F a15=true->E.B F a16=true->E.B F a17=true->E.B F d=true):Tr (cP [a0,a1,a2,a3,a4,a5,a6,a7,a8,a9,a10,a11,a12,a13,a14,a15,a16,a17] d):=fun F=>by
 show E.B F (.imp (.and a0 (.and a1 (.and a2 (.and a3 (.and a4 (.and a5 (.and a6 (.and a7 (.and a8 (.and a9 (.and a10 (.and a11 (.and a12 (.and a13 (.and a14 (.and a15 (.and a16 a17))))))))))))))))) d)=true
 rw[cV]
 simp only[da]
 rintro⟨p0,p1,p2,p3,p4,p5,p6,p7,p8,p9,ao,au,az,aE,aM,aN,bb,bl⟩
 exact h F p0 p1 p2 p3 p4 p5 p6 p7 p8 p9 ao au az aE aM aN bb bl
theorem IW{a0 a1 a2 a3 a4 a5 a6 a7 a8 a9 a10 a11 a12 a13 a14 a15 a16 a17 a18 d:E}(h:∀F:Env,E.B F a0=true->E.B F a1=true->E.B F a2=true->E.B F a3=true->E.B F a4=true->E.B F a5=true->E.B F a6=true->E.B F a7=true->E.B F a8=true->E.B F a9=true->E.B F a10=true->E.B F a11=true->E.B F a12=true->E.B F a13=true->E.B F a14=true->E.B F a15=true->E.B F a16=true->E.B F a17=true->E.B F a18=true->E.B F d=true):Tr (cP [a0,a1,a2,a3,a4,a5,a6,a7,a8,a9,a10,a11,a12,a13,a14,a15,a16,a17,a18] d):=fun F=>by
 show E.B F (.imp (.and a0 (.and a1 (.and a2 (.and a3 (.and a4 (.and a5 (.and a6 (.and a7 (.and a8 (.and a9 (.and a10 (.and a11 (.and a12 (.and a13 (.and a14 (.and a15 (.and a16 (.and a17 a18)))))))))))))))))) d)=true
 rw[cV]
 simp only[da]
 rintro⟨p0,p1,p2,p3,p4,p5,p6,p7,p8,p9,ao,au,az,aE,aM,aN,bb,bl,bA⟩
 exact h F p0 p1 p2 p3 p4 p5 p6 p7 p8 p9 ao au az aE aM aN bb bl bA
theorem ako{a0 a1 a2 a3 a4 a5 a6 a7 a8 a9 a10 a11 a12 a13 a14 a15 a16 a17 a18 a19 d:E}(h:∀F:Env,E.B F a0=true->E.B F a1=true->E.B F a2=true->E.B F a3=true->E.B F a4=true->E.B F a5=true->E.B F a6=true->E.B F a7=true->E.B F a8=true->E.B F a9=true->E.B F a10=true->E.B F a11=true->E.B F a12=true->E.B F a13=true->E.B F a14=true->E.B F a15=true->E.B F a16=true->E.B F a17=true->E.B F a18=true->E.B F a19=true->E.B F d=true):Tr (cP [a0,a1,a2,a3,a4,a5,a6,a7,a8,a9,a10,a11,a12,a13,a14,a15,a16,a17,a18,a19] d):=fun F=>by
 show E.B F (.imp (.and a0 (.and a1 (.and a2 (.and a3 (.and a4 (.and a5 (.and a6 (.and a7 (.and a8 (.and a9 (.and a10 (.and a11 (.and a12 (.and a13 (.and a14 (.and a15 (.and a16 (.and a17 (.and a18 a19))))))))))))))))))) d)=true
 rw[cV]
 simp only[da]
 rintro⟨p0,p1,p2,p3,p4,p5,p6,p7,p8,p9,ao,au,az,aE,aM,aN,bb,bl,bA,bH⟩
 exact h F p0 p1 p2 p3 p4 p5 p6 p7 p8 p9 ao au az aE aM aN bb bl bA bH
theorem akp{a0 a1 a2 a3 a4 a5 a6 a7 a8 a9 a10 a11 a12 a13 a14 a15 a16 a17 a18 a19 a20 d:E}(h:∀F:Env,E.B F a0=true->E.B F a1=true->E.B F a2=true->E.B F a3=true->E.B F a4=true->E.B F a5=true->E.B F a6=true->E.B F a7=true->E.B F a8=true->E.B F a9=true->E.B F a10=true->E.B F a11=true->E.B F a12=true->E.B F a13=true->E.B F a14=true->E.B F a15=true->E.B F a16=true->E.B F a17=true->E.B F a18=true->E.B F a19=true->E.B F a20=true->E.B F d=true):Tr (cP [a0,a1,a2,a3,a4,a5,a6,a7,a8,a9,a10,a11,a12,a13,a14,a15,a16,a17,a18,a19,a20] d):=fun F=>by
 show E.B F (.imp (.and a0 (.and a1 (.and a2 (.and a3 (.and a4 (.and a5 (.and a6 (.and a7 (.and a8 (.and a9 (.and a10 (.and a11 (.and a12 (.and a13 (.and a14 (.and a15 (.and a16 (.and a17 (.and a18 (.and a19 a20)))))))))))))))))))) d)=true
 rw[cV]
 simp only[da]
 rintro⟨p0,p1,p2,p3,p4,p5,p6,p7,p8,p9,ao,au,az,aE,aM,aN,bb,bl,bA,bH,bP⟩
 exact h F p0 p1 p2 p3 p4 p5 p6 p7 p8 p9 ao au az aE aM aN bb bl bA bH bP
theorem aYz{a0 a1 a2 a3 a4 a5 a6 a7 a8 a9 a10 a11 a12 a13 a14 a15 a16 a17 a18 a19 a20 a21 d:E}(h:∀F:Env,E.B F a0=true->E.B F a1=true->E.B F a2=true->E.B F a3=true->E.B F a4=true->E.B F a5=true->E.B F a6=true->E.B F a7=true->E.B F a8=true->E.B F a9=true->E.B F a10=true->E.B F a11=true->E.B F a12=true->E.B F a13=true->E.B F a14=true->E.B F a15=true->E.B F a16=true->E.B F a17=true->E.B F a18=true->E.B F a19=true->E.B F a20=true->E.B F a21=true->E.B F d=true):Tr (cP [a0,a1,a2,a3,a4,a5,a6,a7,a8,a9,a10,a11,a12,a13,a14,a15,a16,a17,a18,a19,a20,a21] d):=fun F=>by
 show E.B F (.imp (.and a0 (.and a1 (.and a2 (.and a3 (.and a4 (.and a5 (.and a6 (.and a7 (.and a8 (.and a9 (.and a10 (.and a11 (.and a12 (.and a13 (.and a14 (.and a15 (.and a16 (.and a17 (.and a18 (.and a19 (.and a20 a21))))))))))))))))))))) d)=true
 rw[cV]
 simp only[da]
 rintro⟨p0,p1,p2,p3,p4,p5,p6,p7,p8,p9,ao,au,az,aE,aM,aN,bb,bl,bA,bH,bP,bZ⟩
 exact h F p0 p1 p2 p3 p4 p5 p6 p7 p8 p9 ao au az aE aM aN bb bl bA bH bP bZ
theorem aYA{a0 a1 a2 a3 a4 a5 a6 a7 a8 a9 a10 a11 a12 a13 a14 a15 a16 a17 a18 a19 a20 a21 a22 d:E}(h:∀F:Env,E.B F a0=true->E.B F a1=true->E.B F a2=true->E.B F a3=true->E.B F a4=true->E.B F a5=true->E.B F a6=true->E.B F a7=true->E.B F a8=true->E.B F a9=true->E.B F a10=true->E.B F a11=true->E.B F a12=true->E.B F a13=true->E.B F a14=true->E.B F a15=true->E.B F a16=true->E.B F a17=true->E.B F a18=true->E.B F a19=true->E.B F a20=true->E.B F a21=true->E.B F a22=true->E.B F d=true):Tr (cP [a0,a1,a2,a3,a4,a5,a6,a7,a8,a9,a10,a11,a12,a13,a14,a15,a16,a17,a18,a19,a20,a21,a22] d):=fun F=>by
 show E.B F (.imp (.and a0 (.and a1 (.and a2 (.and a3 (.and a4 (.and a5 (.and a6 (.and a7 (.and a8 (.and a9 (.and a10 (.and a11 (.and a12 (.and a13 (.and a14 (.and a15 (.and a16 (.and a17 (.and a18 (.and a19 (.and a20 (.and a21 a22)))))))))))))))))))))) d)=true
 rw[cV]
 simp only[da]
 rintro⟨p0,p1,p2,p3,p4,p5,p6,p7,p8,p9,ao,au,az,aE,aM,aN,bb,bl,bA,bH,bP,bZ,cg⟩
 exact h F p0 p1 p2 p3 p4 p5 p6 p7 p8 p9 ao au az aE aM aN bb bl bA bH bP bZ cg
theorem Ru{a0 a1 a2 a3 a4 a5 a6 a7 a8 a9 a10 a11 a12 a13 a14 a15 a16 a17 a18 a19 a20 a21 a22 a23 d:E}(h:∀F:Env,E.B F a0=true->E.B F a1=true->E.B F a2=true->E.B F a3=true->E.B F a4=true->E.B F a5=true->E.B F a6=true->E.B F a7=true->E.B F a8=true->E.B F a9=true->E.B F a10=true->E.B F a11=true->E.B F a12=true->E.B F a13=true->E.B F a14=true->E.B F a15=true->E.B F a16=true->E.B F a17=true->E.B F a18=true->E.B F a19=true->E.B F a20=true->E.B F a21=true->E.B F a22=true->E.B F a23=true->E.B F d=true):Tr (cP [a0,a1,a2,a3,a4,a5,a6,a7,a8,a9,a10,a11,a12,a13,a14,a15,a16,a17,a18,a19,a20,a21,a22,a23] d):=fun F=>by
 show E.B F (.imp (.and a0 (.and a1 (.and a2 (.and a3 (.and a4 (.and a5 (.and a6 (.and a7 (.and a8 (.and a9 (.and a10 (.and a11 (.and a12 (.and a13 (.and a14 (.and a15 (.and a16 (.and a17 (.and a18 (.and a19 (.and a20 (.and a21 (.and a22 a23))))))))))))))))))))))) d)=true
 rw[cV]
 simp only[da]
 rintro⟨p0,p1,p2,p3,p4,p5,p6,p7,p8,p9,ao,au,az,aE,aM,aN,bb,bl,bA,bH,bP,bZ,cg,cr⟩
 exact h F p0 p1 p2 p3 p4 p5 p6 p7 p8 p9 ao au az aE aM aN bb bl bA bH bP bZ cg cr
theorem akq{a0 a1 a2 a3 a4 a5 a6 a7 a8 a9 a10 a11 a12 a13 a14 a15 a16 a17 a18 a19 a20 a21 a22 a23 a24 d:E}(h:∀F:Env,E.B F a0=true->E.B F a1=true->E.B F a2=true->E.B F a3=true->E.B F a4=true->E.B F a5=true->E.B F a6=true->E.B F a7=true->E.B F a8=true->E.B F a9=true->E.B F a10=true->E.B F a11=true->E.B F a12=true->E.B F a13=true->E.B F a14=true->E.B F a15=true->E.B F a16=true->E.B F a17=true->E.B F a18=true->E.B F a19=true->E.B F a20=true->E.B F a21=true->E.B F a22=true->E.B F a23=true->E.B F a24=true->E.B F d=true):Tr (cP [a0,a1,a2,a3,a4,a5,a6,a7,a8,a9,a10,a11,a12,a13,a14,a15,a16,a17,a18,a19,a20,a21,a22,a23,a24] d):=fun F=>by
 show E.B F (.imp (.and a0 (.and a1 (.and a2 (.and a3 (.and a4 (.and a5 (.and a6 (.and a7 (.and a8 (.and a9 (.and a10 (.and a11 (.and a12 (.and a13 (.and a14 (.and a15 (.and a16 (.and a17 (.and a18 (.and a19 (.and a20 (.and a21 (.and a22 (.and a23 a24)))))))))))))))))))))))) d)=true
 rw[cV]
 simp only[da]
 rintro⟨p0,p1,p2,p3,p4,p5,p6,p7,p8,p9,ao,au,az,aE,aM,aN,bb,bl,bA,bH,bP,bZ,cg,cr,cQ⟩
 exact h F p0 p1 p2 p3 p4 p5 p6 p7 p8 p9 ao au az aE aM aN bb bl bA bH bP bZ cg cr cQ
theorem akr{a0 a1 a2 a3 a4 a5 a6 a7 a8 a9 a10 a11 a12 a13 a14 a15 a16 a17 a18 a19 a20 a21 a22 a23 a24 a25 d:E}(h:∀F:Env,E.B F a0=true->E.B F a1=true->E.B F a2=true->E.B F a3=true->E.B F a4=true->E.B F a5=true->E.B F a6=true->E.B F a7=true->E.B F a8=true->E.B F a9=true->E.B F a10=true->E.B F a11=true->E.B F a12=true->E.B F a13=true->E.B F a14=true->E.B F a15=true->E.B F a16=true->E.B F a17=true->E.B F a18=true->E.B F a19=true->E.B F a20=true->E.B F a21=true->E.B F a22=true->E.B F a23=true->E.B F a24=true->E.B F a25=true->E.B F d=true):Tr (cP [a0,a1,a2,a3,a4,a5,a6,a7,a8,a9,a10,a11,a12,a13,a14,a15,a16,a17,a18,a19,a20,a21,a22,a23,a24,a25] d):=fun F=>by
 show E.B F (.imp (.and a0 (.and a1 (.and a2 (.and a3 (.and a4 (.and a5 (.and a6 (.and a7 (.and a8 (.and a9 (.and a10 (.and a11 (.and a12 (.and a13 (.and a14 (.and a15 (.and a16 (.and a17 (.and a18 (.and a19 (.and a20 (.and a21 (.and a22 (.and a23 (.and a24 a25))))))))))))))))))))))))) d)=true
 rw[cV]
 simp only[da]
 rintro⟨p0,p1,p2,p3,p4,p5,p6,p7,p8,p9,ao,au,az,aE,aM,aN,bb,bl,bA,bH,bP,bZ,cg,cr,cQ,di⟩
 exact h F p0 p1 p2 p3 p4 p5 p6 p7 p8 p9 ao au az aE aM aN bb bl bA bH bP bZ cg cr cQ di
theorem aks{a0 a1 a2 a3 a4 a5 a6 a7 a8 a9 a10 a11 a12 a13 a14 a15 a16 a17 a18 a19 a20 a21 a22 a23 a24 a25 a26 d:E}(h:∀F:Env,E.B F a0=true->E.B F a1=true->E.B F a2=true->E.B F a3=true->E.B F a4=true->E.B F a5=true->E.B F a6=true->E.B F a7=true->E.B F a8=true->E.B F a9=true->E.B F a10=true->E.B F a11=true->E.B F a12=true->E.B F a13=true->E.B F a14=true->E.B F a15=true->E.B F a16=true->E.B F a17=true->E.B F a18=true->E.B F a19=true->E.B F a20=true->E.B F a21=true->E.B F a22=true->E.B F a23=true->E.B F a24=true->E.B F a25=true->E.B F a26=true->E.B F d=true):Tr (cP [a0,a1,a2,a3,a4,a5,a6,a7,a8,a9,a10,a11,a12,a13,a14,a15,a16,a17,a18,a19,a20,a21,a22,a23,a24,a25,a26] d):=fun F=>by
 show E.B F (.imp (.and a0 (.and a1 (.and a2 (.and a3 (.and a4 (.and a5 (.and a6 (.and a7 (.and a8 (.and a9 (.and a10 (.and a11 (.and a12 (.and a13 (.and a14 (.and a15 (.and a16 (.and a17 (.and a18 (.and a19 (.and a20 (.and a21 (.and a22 (.and a23 (.and a24 (.and a25 a26)))))))))))))))))))))))))) d)=true
 rw[cV]
 simp only[da]
 rintro⟨p0,p1,p2,p3,p4,p5,p6,p7,p8,p9,ao,au,az,aE,aM,aN,bb,bl,bA,bH,bP,bZ,cg,cr,cQ,di,dJ⟩
 exact h F p0 p1 p2 p3 p4 p5 p6 p7 p8 p9 ao au az aE aM aN bb bl bA bH bP bZ cg cr cQ di dJ
theorem aYB{a0 a1 a2 a3 a4 a5 a6 a7 a8 a9 a10 a11 a12 a13 a14 a15 a16 a17 a18 a19 a20 a21 a22 a23 a24 a25 a26 a27 d:E}(h:∀F:Env,E.B F a0=true->E.B F a1=true->E.B F a2=true->E.B F a3=true->E.B F a4=true->E.B F a5=true->E.B F a6=true->E.B F a7=true->E.B F a8=true->E.B F a9=true->E.B F a10=true->E.B F a11=true->E.B F a12=true->E.B F a13=true->E.B F a14=true->E.B F a15=true->E.B F a16=true->E.B F a17=true->E.B F a18=true->E.B F a19=true->E.B F a20=true->E.B F a21=true->E.B F a22=true->E.B F a23=true->E.B F a24=true->E.B F a25=true->E.B F a26=true->E.B F a27=true->E.B F d=true):Tr (cP [a0,a1,a2,a3,a4,a5,a6,a7,a8,a9,a10,a11,a12,a13,a14,a15,a16,a17,a18,a19,a20,a21,a22,a23,a24,a25,a26,a27] d):=fun F=>by
 show E.B F (.imp (.and a0 (.and a1 (.and a2 (.and a3 (.and a4 (.and a5 (.and a6 (.and a7 (.and a8 (.and a9 (.and a10 (.and a11 (.and a12 (.and a13 (.and a14 (.and a15 (.and a16 (.and a17 (.and a18 (.and a19 (.and a20 (.and a21 (.and a22 (.and a23 (.and a24 (.and a25 (.and a26 a27))))))))))))))))))))))))))) d)=true
 rw[cV]
 simp only[da]
 rintro⟨p0,p1,p2,p3,p4,p5,p6,p7,p8,p9,ao,au,az,aE,aM,aN,bb,bl,bA,bH,bP,bZ,cg,cr,cQ,di,dJ,eJ⟩
 exact h F p0 p1 p2 p3 p4 p5 p6 p7 p8 p9 ao au az aE aM aN bb bl bA bH bP bZ cg cr cQ di dJ eJ
theorem aYC{a0 a1 a2 a3 a4 a5 a6 a7 a8 a9 a10 a11 a12 a13 a14 a15 a16 a17 a18 a19 a20 a21 a22 a23 a24 a25 a26 a27 a28 d:E}(h:∀F:Env,E.B F a0=true->E.B F a1=true->E.B F a2=true->E.B F a3=true->E.B F a4=true->E.B F a5=true->E.B F a6=true->E.B F a7=true->E.B F a8=true->E.B F a9=true->E.B F a10=true->E.B F a11=true->E.B F a12=true->E.B F a13=true->E.B F a14=true->E.B F a15=true->E.B F a16=true->E.B F a17=true->E.B F a18=true->E.B F a19=true->E.B F a20=true->E.B F a21=true->E.B F a22=true->E.B F a23=true->E.B F a24=true->E.B F a25=true->E.B F a26=true->E.B F a27=true->E.B F a28=true->E.B F d=true):Tr (cP [a0,a1,a2,a3,a4,a5,a6,a7,a8,a9,a10,a11,a12,a13,a14,a15,a16,a17,a18,a19,a20,a21,a22,a23,a24,a25,a26,a27,a28] d):=fun F=>by
 show E.B F (.imp (.and a0 (.and a1 (.and a2 (.and a3 (.and a4 (.and a5 (.and a6 (.and a7 (.and a8 (.and a9 (.and a10 (.and a11 (.and a12 (.and a13 (.and a14 (.and a15 (.and a16 (.and a17 (.and a18 (.and a19 (.and a20 (.and a21 (.and a22 (.and a23 (.and a24 (.and a25 (.and a26 (.and a27 a28)))))))))))))))))))))))))))) d)=true
 rw[cV]
 simp only[da]
 rintro⟨p0,p1,p2,p3,p4,p5,p6,p7,p8,p9,ao,au,az,aE,aM,aN,bb,bl,bA,bH,bP,bZ,cg,cr,cQ,di,dJ,eJ,fK⟩
 exact h F p0 p1 p2 p3 p4 p5 p6 p7 p8 p9 ao au az aE aM aN bb bl bA bH bP bZ cg cr cQ di dJ eJ fK
theorem aYD{a0 a1 a2 a3 a4 a5 a6 a7 a8 a9 a10 a11 a12 a13 a14 a15 a16 a17 a18 a19 a20 a21 a22 a23 a24 a25 a26 a27 a28 a29 d:E}(h:∀F:Env,E.B F a0=true->E.B F a1=true->E.B F a2=true->E.B F a3=true->E.B F a4=true->E.B F a5=true->E.B F a6=true->E.B F a7=true->E.B F a8=true->E.B F a9=true->E.B F a10=true->E.B F a11=true->E.B F a12=true->E.B F a13=true->E.B F a14=true->E.B F a15=true->E.B F a16=true->E.B F a17=true->E.B F a18=true->E.B F a19=true->E.B F a20=true->E.B F a21=true->E.B F a22=true->E.B F a23=true->E.B F a24=true->E.B F a25=true->E.B F a26=true->E.B F a27=true->E.B F a28=true->E.B F a29=true->E.B F d=true):Tr (cP [a0,a1,a2,a3,a4,a5,a6,a7,a8,a9,a10,a11,a12,a13,a14,a15,a16,a17,a18,a19,a20,a21,a22,a23,a24,a25,a26,a27,a28,a29] d):=fun F=>by
 show E.B F (.imp (.and a0 (.and a1 (.and a2 (.and a3 (.and a4 (.and a5 (.and a6 (.and a7 (.and a8 (.and a9 (.and a10 (.and a11 (.and a12 (.and a13 (.and a14 (.and a15 (.and a16 (.and a17 (.and a18 (.and a19 (.and a20 (.and a21 (.and a22 (.and a23 (.and a24 (.and a25 (.and a26 (.and a27 (.and a28 a29))))))))))))))))))))))))))))) d)=true
 rw[cV]
 simp only[da]
 rintro⟨p0,p1,p2,p3,p4,p5,p6,p7,p8,p9,ao,au,az,aE,aM,aN,bb,bl,bA,bH,bP,bZ,cg,cr,cQ,di,dJ,eJ,fK,gC⟩
 exact h F p0 p1 p2 p3 p4 p5 p6 p7 p8 p9 ao au az aE aM aN bb bl bA bH bP bZ cg cr cQ di dJ eJ fK gC
theorem aYE{a0 a1 a2 a3 a4 a5 a6 a7 a8 a9 a10 a11 a12 a13 a14 a15 a16 a17 a18 a19 a20 a21 a22 a23 a24 a25 a26 a27 a28 a29 a30 d:E}(h:∀F:Env,E.B F a0=true->E.B F a1=true->E.B F a2=true->E.B F a3=true->E.B F a4=true->E.B F a5=true->E.B F a6=true->E.B F a7=true->E.B F a8=true->E.B F a9=true->E.B F a10=true->E.B F a11=true->E.B F a12=true->E.B F a13=true->E.B F a14=true->E.B F a15=true->E.B F a16=true->E.B F a17=true->E.B F a18=true->E.B F a19=true->E.B F a20=true->E.B F a21=true->E.B F a22=true->E.B F a23=true->E.B F a24=true->E.B F a25=true->E.B F a26=true->E.B F a27=true->E.B F a28=true->E.B F a29=true->E.B F a30=true->E.B F d=true):Tr (cP [a0,a1,a2,a3,a4,a5,a6,a7,a8,a9,a10,a11,a12,a13,a14,a15,a16,a17,a18,a19,a20,a21,a22,a23,a24,a25,a26,a27,a28,a29,a30] d):=fun F=>by
 show E.B F (.imp (.and a0 (.and a1 (.and a2 (.and a3 (.and a4 (.and a5 (.and a6 (.and a7 (.and a8 (.and a9 (.and a10 (.and a11 (.and a12 (.and a13 (.and a14 (.and a15 (.and a16 (.and a17 (.and a18 (.and a19 (.and a20 (.and a21 (.and a22 (.and a23 (.and a24 (.and a25 (.and a26 (.and a27 (.and a28 (.and a29 a30)))))))))))))))))))))))))))))) d)=true
 rw[cV]
 simp only[da]
 rintro⟨p0,p1,p2,p3,p4,p5,p6,p7,p8,p9,ao,au,az,aE,aM,aN,bb,bl,bA,bH,bP,bZ,cg,cr,cQ,di,dJ,eJ,fK,gC,iV⟩
 exact h F p0 p1 p2 p3 p4 p5 p6 p7 p8 p9 ao au az aE aM aN bb bl bA bH bP bZ cg cr cQ di dJ eJ fK gC iV
theorem aYF{a0 a1 a2 a3 a4 a5 a6 a7 a8 a9 a10 a11 a12 a13 a14 a15 a16 a17 a18 a19 a20 a21 a22 a23 a24 a25 a26 a27 a28 a29 a30 a31 a32 d:E}(h:∀F:Env,E.B F a0=true->E.B F a1=true->E.B F a2=true->E.B F a3=true->E.B F a4=true->E.B F a5=true->E.B F a6=true->E.B F a7=true->E.B F a8=true->E.B F a9=true->E.B F a10=true->E.B F a11=true->E.B F a12=true->E.B F a13=true->E.B F a14=true->E.B F a15=true->E.B F a16=true->E.B F a17=true->E.B F a18=true->E.B F a19=true->E.B F a20=true->E.B F a21=true->E.B F a22=true->E.B F a23=true->E.B F a24=true->E.B F a25=true->E.B F a26=true->E.B F a27=true->E.B F a28=true->E.B F a29=true->E.B F a30=true->E.B F a31=true->E.B F a32=true->E.B F d=true):Tr (cP [a0,a1,a2,a3,a4,a5,a6,a7,a8,a9,a10,a11,a12,a13,a14,a15,a16,a17,a18,a19,a20,a21,a22,a23,a24,a25,a26,a27,a28,a29,a30,a31,a32] d):=fun F=>by
 show E.B F (.imp (.and a0 (.and a1 (.and a2 (.and a3 (.and a4 (.and a5 (.and a6 (.and a7 (.and a8 (.and a9 (.and a10 (.and a11 (.and a12 (.and a13 (.and a14 (.and a15 (.and a16 (.and a17 (.and a18 (.and a19 (.and a20 (.and a21 (.and a22 (.and a23 (.and a24 (.and a25 (.and a26 (.and a27 (.and a28 (.and a29 (.and a30 (.and a31 a32)))))))))))))))))))))))))))))))) d)=true
 rw[cV]
 simp only[da]
 rintro⟨p0,p1,p2,p3,p4,p5,p6,p7,p8,p9,ao,au,az,aE,aM,aN,bb,bl,bA,bH,bP,bZ,cg,cr,cQ,di,dJ,eJ,fK,gC,iV,kX,kb⟩
 exact h F p0 p1 p2 p3 p4 p5 p6 p7 p8 p9 ao au az aE aM aN bb bl bA bH bP bZ cg cr cQ di dJ eJ fK gC iV kX kb
theorem aYG{a0 a1 a2 a3 a4 a5 a6 a7 a8 a9 a10 a11 a12 a13 a14 a15 a16 a17 a18 a19 a20 a21 a22 a23 a24 a25 a26 a27 a28 a29 a30 a31 a32 a33 a34 d:E}(h:∀F:Env,E.B F a0=true->E.B F a1=true->E.B F a2=true->E.B F a3=true->E.B F a4=true->E.B F a5=true->E.B F a6=true->E.B F a7=true->E.B F a8=true->E.B F a9=true->E.B F a10=true->E.B F a11=true->E.B F a12=true->E.B F a13=true->E.B F a14=true->E.B F a15=true->E.B F a16=true->E.B F a17=true->E.B F a18=true->E.B F a19=true->E.B F a20=true->E.B F a21=true->E.B F a22=true->E.B F a23=true->E.B F a24=true->E.B F a25=true->E.B F a26=true->E.B F a27=true->E.B F a28=true->E.B F a29=true->E.B F a30=true->E.B F a31=true->E.B F a32=true->E.B F a33=true->E.B F a34=true->E.B F d=true):Tr (cP [a0,a1,a2,a3,a4,a5,a6,a7,a8,a9,a10,a11,a12,a13,a14,a15,a16,a17,a18,a19,a20,a21,a22,a23,a24,a25,a26,a27,a28,a29,a30,a31,a32,a33,a34] d):=fun F=>by
 show E.B F (.imp (.and a0 (.and a1 (.and a2 (.and a3 (.and a4 (.and a5 (.and a6 (.and a7 (.and a8 (.and a9 (.and a10 (.and a11 (.and a12 (.and a13 (.and a14 (.and a15 (.and a16 (.and a17 (.and a18 (.and a19 (.and a20 (.and a21 (.and a22 (.and a23 (.and a24 (.and a25 (.and a26 (.and a27 (.and a28 (.and a29 (.and a30 (.and a31 (.and a32 (.and a33 a34)))))))))))))))))))))))))))))))))) d)=true
 rw[cV]
 simp only[da]
 rintro⟨p0,p1,p2,p3,p4,p5,p6,p7,p8,p9,ao,au,az,aE,aM,aN,bb,bl,bA,bH,bP,bZ,cg,cr,cQ,di,dJ,eJ,fK,gC,iV,kX,kb,oF,oG⟩
 exact h F p0 p1 p2 p3 p4 p5 p6 p7 p8 p9 ao au az aE aM aN bb bl bA bH bP bZ cg cr cQ di dJ eJ fK gC iV kX kb oF oG
theorem aYH{a0 a1 a2 a3 a4 a5 a6 a7 a8 a9 a10 a11 a12 a13 a14 a15 a16 a17 a18 a19 a20 a21 a22 a23 a24 a25 a26 a27 a28 a29 a30 a31 a32 a33 a34 a35 a36 a37 a38 a39 a40 a41 a42 a43 a44 d:E}(h:∀F:Env,E.B F a0=true->E.B F a1=true->E.B F a2=true->E.B F a3=true->E.B F a4=true->E.B F a5=true->E.B F a6=true->E.B F a7=true->E.B F a8=true->E.B F a9=true->E.B F a10=true->E.B F a11=true->E.B F a12=true->E.B F a13=true->E.B F a14=true->E.B F a15=true->E.B F a16=true->E.B F a17=true->E.B F a18=true->E.B F a19=true->E.B F a20=true->E.B F a21=true->E.B F a22=true->E.B F a23=true->E.B F a24=true->E.B F a25=true->E.B F a26=true->E.B F a27=true->E.B F a28=true->E.B F a29=true->E.B F a30=true->E.B F a31=true->E.B F a32=true->E.B F a33=true->E.B F a34=true->E.B F a35=true->E.B F a36=true->E.B F a37=true->E.B F a38=true->E.B F a39=true->E.B F a40=true->E.B F a41=true->E.B F a42=true->E.B F a43=true->E.B F a44=true->E.B F d=true):Tr (cP [a0,a1,a2,a3,a4,a5,a6,a7,a8,a9,a10,a11,a12,a13,a14,a15,a16,a17,a18,a19,a20,a21,a22,a23,a24,a25,a26,a27,a28,a29,a30,a31,a32,a33,a34,a35,a36,a37,a38,a39,a40,a41,a42,a43,a44] d):=fun F=>by
 show E.B F (.imp (.and a0 (.and a1 (.and a2 (.and a3 (.and a4 (.and a5 (.and a6 (.and a7 (.and a8 (.and a9 (.and a10 (.and a11 (.and a12 (.and a13 (.and a14 (.and a15 (.and a16 (.and a17 (.and a18 (.and a19 (.and a20 (.and a21 (.and a22 (.and a23 (.and a24 (.and a25 (.and a26 (.and a27 (.and a28 (.and a29 (.and a30 (.and a31 (.and a32 (.and a33 (.and a34 (.and a35 (.and a36 (.and a37 (.and a38 (.and a39 (.and a40 (.and a41 (.and a42 (.and a43 a44)))))))))))))))))))))))))))))))))))))))))))) d)=true
 rw[cV]
 simp only[da]
 rintro⟨p0,p1,p2,p3,p4,p5,p6,p7,p8,p9,ao,au,az,aE,aM,aN,bb,bl,bA,bH,bP,bZ,cg,cr,cQ,di,dJ,eJ,fK,gC,iV,kX,kb,oF,oG,vu,vv,vw,vz,vA,vB,vC,vD,vE,sa⟩
 exact h F p0 p1 p2 p3 p4 p5 p6 p7 p8 p9 ao au az aE aM aN bb bl bA bH bP bZ cg cr cQ di dJ eJ fK gC iV kX kb oF oG vu vv vw vz vA vB vC vD vE sa
theorem aYI{a0 a1 a2 a3 a4 a5 a6 a7 a8 a9 a10 a11 a12 a13 a14 a15 a16 a17 a18 a19 a20 a21 a22 a23 a24 a25 a26 a27 a28 a29 a30 a31 a32 a33 a34 a35 a36 a37 a38 a39 a40 a41 a42 a43 a44 a45 d:E}(h:∀F:Env,E.B F a0=true->E.B F a1=true->E.B F a2=true->E.B F a3=true->E.B F a4=true->E.B F a5=true->E.B F a6=true->E.B F a7=true->E.B F a8=true->E.B F a9=true->E.B F a10=true->E.B F a11=true->E.B F a12=true->E.B F a13=true->E.B F a14=true->E.B F a15=true->E.B F a16=true->E.B F a17=true->E.B F a18=true->E.B F a19=true->E.B F a20=true->E.B F a21=true->E.B F a22=true->E.B F a23=true->E.B F a24=true->E.B F a25=true->E.B F a26=true->E.B F a27=true->E.B F a28=true->E.B F a29=true->E.B F a30=true->E.B F a31=true->E.B F a32=true->E.B F a33=true->E.B F a34=true->E.B F a35=true->E.B F a36=true->E.B F a37=true->E.B F a38=true->E.B F a39=true->E.B F a40=true->E.B F a41=true->E.B F a42=true->E.B F a43=true->E.B F a44=true->E.B F a45=true->E.B F d=true):Tr (cP [a0,a1,a2,a3,a4,a5,a6,a7,a8,a9,a10,a11,a12,a13,a14,a15,a16,a17,a18,a19,a20,a21,a22,a23,a24,a25,a26,a27,a28,a29,a30,a31,a32,a33,a34,a35,a36,a37,a38,a39,a40,a41,a42,a43,a44,a45] d):=fun F=>by
 show E.B F (.imp (.and a0 (.and a1 (.and a2 (.and a3 (.and a4 (.and a5 (.and a6 (.and a7 (.and a8 (.and a9 (.and a10 (.and a11 (.and a12 (.and a13 (.and a14 (.and a15 (.and a16 (.and a17 (.and a18 (.and a19 (.and a20 (.and a21 (.and a22 (.and a23 (.and a24 (.and a25 (.and a26 (.and a27 (.and a28 (.and a29 (.and a30 (.and a31 (.and a32 (.and a33 (.and a34 (.and a35 (.and a36 (.and a37 (.and a38 (.and a39 (.and a40 (.and a41 (.and a42 (.and a43 (.and a44 a45))))))))))))))))))))))))))))))))))))))))))))) d)=true
 rw[cV]
 simp only[da]
 rintro⟨p0,p1,p2,p3,p4,p5,p6,p7,p8,p9,ao,au,az,aE,aM,aN,bb,bl,bA,bH,bP,bZ,cg,cr,cQ,di,dJ,eJ,fK,gC,iV,kX,kb,oF,oG,vu,vv,vw,vz,vA,vB,vC,vD,vE,sa,JD⟩
 exact h F p0 p1 p2 p3 p4 p5 p6 p7 p8 p9 ao au az aE aM aN bb bl bA bH bP bZ cg cr cQ di dJ eJ fK gC iV kX kb oF oG vu vv vw vz vA vB vC vD vE sa JD
def ii(e:E):SV:=.int .i64 e
def gone:Blk:=⟨true,.gone⟩
def bv(b:Nat):SV:=.ptr b ⟨0,0,.int 0⟩
def ba(a b:E):E:=.cmp .eql a b
def pl(a b:E):E:=.fn 6 (.pr a b)
def mi(a b:E):E:=.fn 7 (.pr a b)
def tm(a b:E):E:=.fn 8 (.pr a b)
def ln(x:E):E:=.fn 0 x
def prs:List E->E
 |[]=>.int 0
 |[a]=>a
 |a::l=>.pr a (prs l)
def aF(f:Nat)(l:List E):E:=.fn f (prs l)
def nt(l i:E):E:=.fn 1 (.pr l i)
def cR(w:Int)(l:E):E:=.fn 9 (.pr l (.int w))
def mQ:E:=.fn 10 (.int 0)
def kI:List CK:=[.int .i64]
def kO:List CK:=[.int .i64,.int .i64,.int .i64,.int .i64,.int .i64,.int .i64,.int .i64,.int .i64,.int .i64,.bool,.bool,.bool]
def kT:List CK:=[.int .i64,.int .i64]
def eY:List CK:=[.int .i64,.int .i64,.int .i64,.int .i64,.slc kT]
def kS:List CK:=[.int .i64,.int .i64,.int .i64,.int .i64,.int .i64,.slc kI,.slc kI,.slc kI,.slc kI,.bool,.bool,.bool,.int .i64,.int .i64]
def kB:List CK:=.slc kO::(kS++(kS++[.slc eY,.slc eY,.slc kI,.slc kT,.int .i64,.int .i64,.int .i64,.int .i64,.int .i64]))
def aiK(e:E):CK->SV
 |.int k=>.int k e
 |.bool=>.bool e
 |.str=>.str e
 |.slc ks=>.bsl ks e
def uL(e:E):Nat->List CK->List SV
 |_,[]=>[]
 |j,c::cs=>aiK (nt e (.int (Int.ofNat j))) c::uL e (Nat.succ j) cs
def dI(e:E):SV:=.agg (uL e 0 kB)
def oh(e:E):Blk:=⟨true,.cells (uL e 0 kB) (.int 38) 34⟩
def cl(e:E)(j:Int):E:=nt e (.int j)
def sE(e:E):E:=.fn 116 e
def sm(e:E):E:=.fn 117 e
def dW(e:E):List E:=[sE e,sm e]
def IH(f:FuncId):SV:=.func (.func f) [] []
def rT:E:=cR 2 (eV 0)
def a2m:Pact:=⟨112,[.bsl kT (eV 0),IH 101],⟨1,0,.nil,[af rT (.int 1000)]⟩,[(ii (eV 1),⟨2,0,.nil,[.iff (af (.int 0) (eV 1)) (.not (aF 101 [eV 0,rT])),af (.int (-1)) (eV 1)]⟩)]⟩
def tTF:Tmpl:=⟨bo 19 [(0,.bsl kT (eV 0)),(1,IH 101),(6,.bsl kT (eV 0)),(7,ii rT),(8,ii (eV 4))],⟨5,0,.nil,[af rT (.int 1000),af (.int 0) (eV 4),af (eV 4) rT,aF 101 [eV 0,eV 4]]⟩,mi rT (eV 4)⟩
def aV8:List Ann:=[⟨112,0,[tTF],none⟩]
def itE:List E:=[eV 0,eV 1,eV 2,eV 3,eV 4,eV 5]
def itV:SV:=.agg [ii (eV 0),ii (eV 1),ii (eV 2),ii (eV 3),.bsl kT (eV 4)]
def a1N:Pact:=⟨79,[itV,.bool (eV 5)],⟨6,0,.nil,[]⟩,[(.bool (eV 6),⟨7,0,.nil,[.iff (eV 6) (aF 102 itE)]⟩)]⟩
def rI:E:=cR 5 (eV 0)
def aoB(g:FuncId)(q:Bool):Pact:=⟨99,[.bsl eY (eV 0),IH g],⟨1,0,.nil,[af rI (.int 1000)]⟩,[(ii (eV 1),⟨2,0,.nil,[.iff (af (.int 0) (eV 1)) (.not (aF 103 [eV 0,.bool q,rI])),af (.int (-1)) (eV 1)]⟩)]⟩
def tIF(g:FuncId)(q:Bool):Tmpl:=⟨bo 19 [(0,.bsl eY (eV 0)),(1,IH g),(6,.bsl eY (eV 0)),(7,ii rI),(8,ii (eV 4))],⟨5,0,.nil,[af rI (.int 1000),af (.int 0) (eV 4),af (eV 4) rI,aF 103 [eV 0,.bool q,eV 4]]⟩,mi rI (eV 4)⟩
def aig(g:FuncId)(q:Bool):List Ann:=[⟨99,0,[tIF g q],none⟩]
def nI:E:=ln (eV 0)
def ajE(l k:E):E:=aF 114 [l,k]
def a1W:Pact:=⟨85,[.bsl kI (eV 0),ii (eV 1)],⟨2,0,.nil,[af nI (.int 1000)]⟩,[(ii (eV 2),⟨3,0,.nil,[.iff (af (.int 0) (eV 2)) (ajE (eV 0) (eV 1)),af (.int (-1)) (eV 2)]⟩)]⟩
def tIx:Tmpl:=⟨bo 19 [(0,.bsl kI (eV 0)),(1,ii (eV 1)),(6,.bsl kI (eV 0)),(7,ii nI),(8,ii (eV 4))],⟨5,0,.nil,[af nI (.int 1000),af (.int 0) (eV 4),af (eV 4) nI,ba (aF 131 [eV 0,eV 1,eV 4]) (.int 0)]⟩,mi nI (eV 4)⟩
def aVS:List Ann:=[⟨85,0,[tIx],none⟩]
def obV:SV:=.agg ((List.range 9).map (fun j=>ii (eV j))++[.bool (eV 9),.bool (eV 10),.bool (eV 11)])
def aoC(f:FuncId):Pact:=⟨f,[obV],⟨12,0,.nil,[]⟩,[(.bool (eV 12),⟨13,0,.nil,[.iff (eV 12) (aF 137 ((List.range 9).map eV))]⟩)]⟩
def put(c:Nat):SV:=.func (.func 103) [] [bv c]
def R8(e:E):Blk:=⟨true,.mapl .i64 (.int .i64) e⟩
def CQ(W:Nat)(m:E)(more:List Blk):T Blk:=bp (List.replicate W gone++[oh (eV 0),R8 m,⟨true,.cells [.map (W+1)] (.int 1) 153⟩]++more)
def DI(W:Nat):List (Nat×SV):=[(1,bv W),(3,bv (W+2)),(4,put (W+2))]
def QP(m p q i:E):E:=aF 104 [m,eV 0,p,q,i]
def t0P:Tmpl:=⟨bo 138 (DI 8++[(21,ii (eV 8))]),⟨10,11,CQ 8 (eV 9) [],dW (eV 0)++[af (.int 0) (eV 8),af (eV 8) (.int 2),QP (eV 9) (eV 8) (.int 0) (.int 0)]⟩,mi (.int 2) (eV 8)⟩
def anG(W p:Nat):SV:=.agg ((List.range 4).map fun q=>.ptr W ⟨6+14*p+q,0,.int 0⟩)
def t2P(p:Nat):Tmpl:=⟨bo 138 (DI 8++[(5,ii (eV 8)),(21,ii (eV 8)),(27,anG 8 p),(28,ii (eV 16))]),⟨18,16,CQ 8 (eV 17) [],
 dW (eV 0)++[ba (eV 8) (.int (Int.ofNat p)),af (.int 0) (eV 16),af (eV 16) (.int 4),QP (eV 17) (eV 8) (eV 16) (.int 0)]⟩,mi (.int 4) (eV 16)⟩
def t4P(p:Nat):Tmpl:=⟨bo 138 (DI 8++[(5,ii (eV 8)),(21,ii (eV 8)),(27,anG 8 p),(28,ii (eV 16)),(33,.bsl kI (eV 28)),(34,ii (ln (eV 28))),(35,ii (eV 24))]),⟨29,24,CQ 8 (eV 25) [],
 dW (eV 0)++[ba (eV 8) (.int (Int.ofNat p)),af (.int 0) (eV 16),gt (eV 16) (.int 4),af (.int 0) (eV 24),af (eV 24) (ln (eV 28)),af (ln (eV 28)) (.int 40),aF 109 [eV 28,eV 0,eV 8,eV 16],QP (eV 25) (eV 8) (eV 16) (eV 24)]⟩,mi (ln (eV 28)) (eV 24)⟩
def gg:E:=cR 5 (cl (eV 0) 29)
def fH:E:=cR 12 (cl (eV 0) 0)
def t6P:Tmpl:=⟨bo 138 (DI 32++[(10,.map 35),(49,.bsl eY (cl (eV 0) 29)),(50,ii gg),(51,ii (eV 32))]),⟨35,36,CQ 32 (eV 33) [R8 (eV 34)],
 dW (eV 0)++[af gg (.int 20),af (.int 0) (eV 32),af (eV 32) gg,aF 105 [eV 33,eV 0,eV 32],aF 106 [eV 34,eV 0,eV 32]]⟩,mi gg (eV 32)⟩
def t8P:Tmpl:=⟨bo 138 (DI 40++[(10,.map 43),(72,.bsl kO (cl (eV 0) 0)),(73,ii fH),(74,ii (eV 40))]),⟨43,44,CQ 40 (eV 41) [R8 (eV 42)],
 dW (eV 0)++[af fH (.int 30),af (.int 0) (eV 40),af (eV 40) fH,aF 105 [eV 41,eV 0,gg],aF 106 [eV 42,eV 0,gg],aF 107 [eV 0,eV 40]]⟩,mi fH (eV 40)⟩
def aVW:List Ann:=[⟨81,0,[t0P],none⟩,⟨81,2,[t2P 0,t2P 1],none⟩,⟨81,4,[t4P 0,t4P 1],none⟩,⟨81,6,[t6P],none⟩,⟨81,8,[t8P],none⟩]
def a2b:Pact:=⟨81,[dI (eV 0)],⟨1,0,.nil,dW (eV 0)⟩,[(.bool (eV 1),⟨2,0,.nil,[.iff (eV 1) (.fn 108 (eV 0))]⟩)]⟩
def aZF(e:E):Blk:=⟨true,.mapl .i64 .bool e⟩
def n9:E:=cl (eV 0) 34
def SN:List E:=dW (eV 0)++[.fn 108 (eV 0),af (.int 0) n9,af n9 (.int 1)]
def a1M:Pact:=⟨82,[dI (eV 0)],⟨1,0,.nil,SN⟩,[(.bool (eV 1),⟨2,0,.nil,[.iff (eV 1) (.fn 110 (eV 0))]⟩)]⟩
def akg(W:Nat):T Blk:=bp (List.replicate W gone++[oh (eV 0),aZF (eV (W+1))])
def aok(W:Nat):List (Nat×SV):=[(1,bv W),(3,.bsl kI (eV (W+2))),(4,.bsl kI (eV (W+3))),(5,.map (W+1))]
def anl(W:Nat):List E:=[aF 109 [eV (W+2),eV 0,n9,.int 2],aF 109 [eV (W+3),eV 0,mi (.int 1) n9,.int 2],af (ln (eV (W+2))) (.int 40),af (ln (eV (W+3))) (.int 40)]
def lQ:E:=ln (cl (eV 0) 31)
def iT:E:=cR 2 (cl (eV 0) 32)
def t0F:Tmpl:=⟨bo 85 (aok 8++[(25,.bsl kI (cl (eV 0) 31)),(26,ii lQ),(27,ii (eV 8))]),⟨12,10,akg 8,
 SN++anl 8++[af lQ (.int 30),af (.int 0) (eV 8),af (eV 8) lQ,aF 111 [eV 0,eV 8],aF 113 [eV 9,eV 0,eV 8,.int 0]]⟩,mi lQ (eV 8)⟩
def t2F:Tmpl:=⟨bo 85 (aok 16++[(44,.bsl kT (cl (eV 0) 32)),(45,ii iT),(46,ii (eV 16))]),⟨20,18,akg 16,
 SN++anl 16++[af lQ (.int 30),af iT (.int 30),af (.int 0) (eV 16),af (eV 16) iT,aF 111 [eV 0,lQ],aF 112 [eV 0,eV 16],aF 113 [eV 17,eV 0,lQ,eV 16]]⟩,mi iT (eV 16)⟩
def aVL:List Ann:=[⟨82,0,[t0F],none⟩,⟨82,2,[t2F],none⟩]
def spV:Pact:=⟨57,[dI (eV 0)],⟨1,0,.nil,dW (eV 0)⟩,[(.bool (eV 1),⟨2,0,.nil,[.iff (eV 1) (.fn 115 (eV 0))]⟩)]⟩
def a1V:Pact:=⟨44,[itV,.bool (eV 5)],⟨6,0,.nil,[]⟩,[(.bool (eV 6),⟨7,0,.nil,[.iff (eV 6) (aF 102 itE)]⟩)]⟩
def a1F:Pact:=⟨71,[.bsl kI (eV 0),ii (eV 1)],⟨2,0,.nil,[af nI (.int 1000)]⟩,[(ii (eV 2),⟨3,0,.nil,[ba (eV 2) (aF 121 [eV 0,eV 1]),af (.int 0) (eV 2),af (eV 2) nI]⟩)]⟩
def a1S:Pact:=⟨28,[dI (eV 0),ii (eV 1)],⟨2,0,.nil,dW (eV 0)⟩,[(ii (eV 2),⟨3,0,.nil,[ba (eV 2) (aF 120 [eV 0,eV 1,fH]),af (.int (-1)) (eV 2),gt (eV 2) fH]⟩)]⟩
def a2a:Pact:=⟨70,[dI (eV 0),ii (eV 1),ii (eV 2)],⟨3,0,.nil,dW (eV 0)++[af (.int 0) (eV 1),af (eV 1) (.int 1)]⟩,[(ii (eV 3),⟨4,0,.nil,[ba (eV 3) (aF 122 [eV 0,eV 1,eV 2]),af (.int 0) (eV 3),af (eV 3) (.int 1000)]⟩)]⟩
def a0a:List E:=[af (.int 0) (eV 0),af (eV 0) (.int 1),af (.int 1) (eV 1),af (eV 1) (.int 500),af (.int 0) (eV 2),af (eV 2) (.int 399),af (.int (-1)) (eV 3),af (eV 3) (.int 1),af (cR 2 (eV 4)) (.int 4),.imp (af (.int 0) (eV 3)) (ba (cR 2 (eV 4)) (.int 0)),.imp (eV 5) (af (.int 0) (eV 3))]
def tIt:Tmpl:=⟨bo 108 [(1,.bool (eV 5)),(2,bv 8),(5,ii (eV 8))],⟨9,9,bp (List.replicate 8 gone++[⟨true,.cells [ii (eV 0),ii (eV 1),ii (eV 2),ii (eV 3),.bsl kT (eV 4)] (.int 5) 63⟩]),
 a0a++[af (.int 0) (eV 8),af (eV 8) (cR 2 (eV 4)),aF 101 [eV 4,eV 8]]⟩,mi (cR 2 (eV 4)) (eV 8)⟩
def aVR:List Ann:=[⟨44,0,[tIt],none⟩]
def tCt:Tmpl:=⟨bo 22 [(0,.bsl kI (eV 0)),(1,ii (eV 1)),(5,ii (eV 9)),(6,ii (eV 8))],⟨10,0,.nil,[af nI (.int 1000),af (.int 0) (eV 8),af (eV 8) nI,ba (eV 9) (aF 131 [eV 0,eV 1,eV 8]),af (.int 0) (eV 9),af (eV 9) (eV 8)]⟩,mi nI (eV 8)⟩
def aVJ:List Ann:=[⟨71,0,[tCt],none⟩]
def rM(W:Nat):T Blk:=bp (List.replicate W gone++[oh (eV 0)])
def tId:Tmpl:=⟨bo 22 [(1,ii (eV 1)),(2,bv 8),(5,ii (eV 8))],⟨9,9,rM 8,dW (eV 0)++[af fH (.int 30),af (.int 0) (eV 8),af (eV 8) fH,ba (aF 120 [eV 0,eV 1,eV 8]) (.int (-1))]⟩,mi fH (eV 8)⟩
def aVO:List Ann:=[⟨28,0,[tId],none⟩]
def tPc:Tmpl:=⟨bo 56 [(1,ii (eV 1)),(2,ii (eV 2)),(3,bv 16),(7,ii (eV 17)),(10,ii (eV 16))],⟨18,17,rM 16,dW (eV 0)++[af (.int 0) (eV 1),af (eV 1) (.int 1),af gg (.int 20),af (.int 0) (eV 16),af (eV 16) gg,
 ba (eV 17) (pl (aF 132 [eV 0,eV 1,.int 4,eV 2]) (aF 133 [eV 0,eV 1,eV 2,eV 16])),af (.int 0) (eV 17),af (eV 17) (pl (.int 160) (eV 16))]⟩,mi gg (eV 16)⟩
def aVV:List Ann:=[⟨70,2,[tPc],none⟩]
def t4D:Tmpl:=⟨bo 108 [(1,bv 16),(3,ii (eV 17)),(7,ii (eV 16))],⟨18,17,rM 16,dW (eV 0)++[af gg (.int 20),af fH (.int 30),af (.int 0) (eV 16),af (eV 16) gg,
 ba (eV 17) (pl (aF 134 [eV 0,.int 8]) (aF 135 [eV 0,eV 16])),af (.int 0) (eV 17),af (eV 17) (pl (.int 320) (eV 16)),aF 123 [eV 0,eV 16]]⟩,mi gg (eV 16)⟩
def t6D:Tmpl:=⟨bo 108 [(1,bv 24),(3,ii (eV 25)),(10,ii (eV 24))],⟨26,25,rM 24,dW (eV 0)++[af fH (.int 30),af (.int 0) (eV 24),af (eV 24) fH,
 ba (eV 25) (pl (aF 134 [eV 0,.int 8]) (aF 135 [eV 0,gg])),aF 123 [eV 0,gg],aF 124 [eV 0,eV 24]]⟩,mi fH (eV 24)⟩
def aVK:List Ann:=[⟨46,4,[t4D],none⟩,⟨46,6,[t6D],none⟩]
def SM:List E:=dW (eV 0)++[af (.int 0) n9,af n9 (.int 1),af lQ (.int 30),af iT (.int 30)]
def t0R:Tmpl:=⟨bo 94 [(1,bv 8),(3,ii (eV 8))],⟨9,9,rM 8,SM++[af (.int 0) (eV 8),af (eV 8) lQ,aF 126 [eV 0,eV 8]]⟩,mi lQ (eV 8)⟩
def t2R:Tmpl:=⟨bo 94 [(1,bv 16),(4,ii (eV 16))],⟨17,17,rM 16,SM++[af (.int 0) (eV 16),af (eV 16) iT,aF 126 [eV 0,lQ],aF 127 [eV 0,eV 16]]⟩,mi iT (eV 16)⟩
def ait(j:Int):E:=nt (cl (eV 0) 32) (pl (tm (eV 16) (.int 2)) (.int j))
def t4R:Tmpl:=⟨bo 94 [(1,bv 16),(4,ii (eV 16)),(5,bv 24),(6,ii (eV 24))],⟨25,25,bp (List.replicate 16 gone++[oh (eV 0)]++List.replicate 7 gone++[⟨true,.cells [ii (ait 0),ii (ait 1)] (.int 2) 101⟩]),
 SM++[af (.int 0) (eV 16),gt (eV 16) iT,aF 126 [eV 0,lQ],aF 127 [eV 0,eV 16],af (.int 0) (eV 24),af (eV 24) (eV 16),aF 136 [eV 0,eV 16],aF 128 [eV 0,eV 16,eV 24]]⟩,mi (eV 16) (eV 24)⟩
def aVM:List Ann:=[⟨47,0,[t0R],none⟩,⟨47,2,[t2R],none⟩,⟨47,4,[t4R],none⟩]
def a1L:Pact:=⟨46,[dI (eV 0)],⟨1,0,.nil,dW (eV 0)⟩,[(.bool (eV 1),⟨2,0,.nil,[.iff (eV 1) (.fn 125 (eV 0))]⟩)]⟩
def a1P:Pact:=⟨47,[dI (eV 0)],⟨1,0,.nil,dW (eV 0)++[af (.int 0) n9,af n9 (.int 1)]⟩,[(.bool (eV 1),⟨2,0,.nil,[.iff (eV 1) (.fn 129 (eV 0))]⟩)]⟩
def a1x:Pact:=⟨24,[dI (eV 0)],⟨1,0,.nil,dW (eV 0)⟩,[(.bool (eV 1),⟨2,0,.nil,[.iff (eV 1) (.fn 130 (eV 0))]⟩)]⟩
def amN:List E:=[af (.int 0) n9,af n9 (.int 1),af (.int 0) (cl (eV 0) 33),af (cl (eV 0) 33) (.int 1000),af (.int 0) (cl (eV 0) 35),af (cl (eV 0) 35) (.int 10),af (.int (-1)) (cl (eV 0) 36),af (cl (eV 0) 36) (.int 1),af (.int 0) (cl (eV 0) 37),af (cl (eV 0) 37) (.int 2)]
def Dl:E:=cR 5 (cl (eV 0) 30)
def QO(c:Int)(q:Bool)(n:E):E:=aF 103 [cl (eV 0) c,.bool q,n]
def tV0:Tmpl:=⟨bo 117 [(1,bv 8),(3,ii (eV 8))],⟨9,9,rM 8,dW (eV 0)++amN++[af gg (.int 20),af (.int 0) (eV 8),af (eV 8) gg,QO 29 false (eV 8)]⟩,mi gg (eV 8)⟩
def tV2:Tmpl:=⟨bo 117 [(1,bv 16),(4,ii (eV 16))],⟨17,17,rM 16,dW (eV 0)++amN++[af Dl (.int 20),QO 29 false gg,af (.int 0) (eV 16),af (eV 16) Dl,QO 30 true (eV 16)]⟩,mi Dl (eV 16)⟩
def aVF:List Ann:=[⟨24,0,[tV0],none⟩,⟨24,2,[tV2],none⟩]
def kE:List CK:=[.int .i64,.int .i64,.int .i64,.int .i64,.int .i64]
def u9:List CK:=[.int .i64,.slc kE]
def kC:List CK:=[.str,.int .i64,.int .i64,.int .i64,.int .i64,.int .i64,.int .i64,.int .i64,.int .i64,.int .i64,.int .i64,.slc kE,.slc u9,.int .i64]
def aox(f:FuncId)(ks:List CK)(w:Int)(t:TypeId):Pact:=⟨f,[.bsl ks (eV 0)],⟨1,0,.nil,[af (cR w (eV 0)) (.int 100)]⟩,
 [(.nils,⟨1,0,.nil,[ba (cR w (eV 0)) (.int 0)]⟩),(.nslice 0 (eV 1) (eV 2),⟨3,1,bp [⟨true,.flat ks (eV 0) (eV 1) (eV 2) t⟩],[af (eV 1) (eV 2),ba (eV 1) (cR w (eV 0))]⟩)]⟩
def a1C:Pact:=aox 105 kE 5 159
def a1D:Pact:=aox 106 u9 2 57
def H6(e t:SV):List SV:=.str (eV 0)::((List.range 10).map fun j=>ii (eV (j+1)))++[e,t,ii (eV 13)]
def aWj:SV:=.agg (H6 (.bsl kE (eV 11)) (.bsl u9 (eV 12)))
def flT(x n c:E):Blk:=⟨true,.flat u9 x n c 57⟩
def a1B:Pact:=⟨83,[aWj],⟨14,0,.nil,[aF 156 [eV 11,eV 12]]⟩,
 [(.agg (H6 (.bsl kE (eV 14)) .nils),⟨15,0,.nil,[]⟩),(.agg (H6 (.bsl kE (eV 14)) (.nslice 0 (eV 16) (eV 17))),⟨18,1,bp [flT (eV 15) (eV 16) (eV 17)],[af (eV 16) (eV 17)]⟩)]⟩
def aXh(W:Nat):Blk:=⟨true,.cells (.str (eV W)::((List.range 10).map fun j=>ii (eV (W+j+1)))++[.nils,.nils,ii (eV (W+11))]) (.int 14) 54⟩
def tCC(k:Nat):Tmpl:=
 let T:SV:=if k==0 then .nslice 22 (eV 42) (eV 43)else .nils
 let n:E:=if k==0 then eV 42 else .int 0
 ⟨bo 31 [(1,bv 20),(2,bv 21),(14,T),(15,ii n),(16,ii (if k==0 then eV 44 else .int 0))],⟨45,23,bp (List.replicate 20 gone++[⟨true,.cells (H6 (.bsl kE (eV 40)) T) (.int 14) 54⟩,aXh 20,if k==0 then flT (eV 41) (eV 42) (eV 43)else gone]),
  if k==0 then [af (eV 42) (eV 43),af (.int 0) (eV 44),af (eV 44) (eV 42),af (eV 42) (.int 3),aF 157 [eV 41,eV 42]] else []⟩,mi n (if k==0 then eV 44 else .int 0)⟩
def aVH:List Ann:=[⟨83,0,[tCC 0,tCC 1],none⟩]
def a0b(a:Nat):SV:=.agg ((List.range 9).map (fun j=>ii (eV (a+j)))++[.bool (eV (a+9)),.bool (eV (a+10)),.bool (eV (a+11))])
def aiI(a:Nat)(e t:SV):SV:=.agg (.str (eV a)::((List.range 10).map fun j=>ii (eV (a+j+1)))++[e,t,ii (eV (a+13))])
def anp:List E:=[ba (eV 14) (aF 141 [eV 0,eV 2]),ba (eV 20) (aF 142 [eV 0,eV 2])]
def a1Z:Pact:=⟨58,[.bsl kC (eV 0),a0b 1],⟨13,0,.nil,[af (cR 14 (eV 0)) (.int 12),aF 155 [eV 0,cR 14 (eV 0)]]⟩,[(aiI 13 (.bsl kE (eV 24)) (.bsl u9 (eV 25)),⟨27,0,.nil,anp⟩),(aiI 13 .nils .nils,⟨27,0,.nil,anp⟩)]⟩
def yy:E:=cR 14 (eV 0)
def anu:List E:=dW (eV 1)++[af yy (.int 12),aF 155 [eV 0,yy],af (.int 0) (eV 2),af (eV 2) (.int 1)]
def r7:E:=cR 12 (cl (eV 1) 0)
def flS(x n c:E):Blk:=⟨true,.flat kT x n c 90⟩
def QQ(x n:E):E:=aF 143 [x,eV 0,eV 1,eV 2,n]
def P5:Blk:=⟨true,.cells (uL (eV 1) 0 kB) (.int 38) 34⟩
def tSo(k:Bool):Tmpl:=⟨bo 62 [(0,.bsl kC (eV 0)),(2,ii (eV 2)),(4,bv 16),(7,if k then .nslice 17 (eV 17) (eV 18)else .nils),(12,.bsl kO (cl (eV 1) 0)),(13,ii r7),(14,ii (eV 19))],
 ⟨20,18,bp (List.replicate 16 gone++[P5,if k then flS (eV 16) (eV 17) (eV 18)else gone]),anu++[af r7 (.int 30),af (.int 0) (eV 19),af (eV 19) r7]++(if k then [af (.int 1) (eV 17),af (eV 17) (eV 18),ba (ln (eV 16)) (tm (eV 17) (.int 2)),af (eV 17) (eV 19),QQ (eV 16) (eV 19)] else [QQ mQ (eV 19)])⟩,mi r7 (eV 19)⟩
def aV6:List Ann:=[⟨32,0,[tSo false,tSo true],none⟩]
def It(X p:E):E:=aF 145 [X,p]
def a1O:Pact:=⟨31,[dI (eV 0),ii (eV 1)],⟨2,0,.nil,dW (eV 0)⟩,[(.bool (eV 2),⟨3,0,.nil,[.iff (eV 2) (It (eV 0) (eV 1))]⟩)]⟩
def a2f:Pact:=⟨9,[dI (eV 0),ii (eV 1),.agg ((List.range 5).map fun j=>ii (eV (j+2)))],⟨7,0,.nil,dW (eV 0)⟩,[(.bool (eV 7),⟨8,0,.nil,[.iff (eV 7) (.and (It (eV 0) (eV 1)) (aF 146 ((List.range 5).map fun j=>eV (j+2))))]⟩)]⟩
def vG:List E:=dW (eV 1)++[af yy (.int 12),aF 155 [eV 0,yy]]
def aX6(x:E):E:=aF 144 [x,eV 0,eV 1,eV 2]
def PY(m:Nat):List SV:=(List.range 4).map fun j=>ii (eV (m+j))
def aX5(k:E):E:=aF 120 [eV 1,k,r7]
def a1Y:Pact:=⟨50,[.bsl kC (eV 0),dI (eV 1),ii (eV 2)],⟨3,0,.nil,vG++[af (.int 0) (aX5 (eV 2))]⟩,[(ii (eV 3),⟨4,0,.nil,[ba (eV 3) (aF 150 [eV 0,eV 1,eV 2]),af (.int (-1)) (eV 3),af (eV 3) (.int 3)]⟩)]⟩
def vH:List E:=vG++[It (eV 1) (eV 2),af (.int 0) (eV 2),af (eV 2) (.int 1)]
def ot(x n c:E):Blk:=⟨true,.flat kI x n c 3⟩
def tRS(k:Bool):Tmpl:=⟨bo 43 [(0,.bsl kC (eV 0)),(4,bv 16),(7,if k then .nslice 17 (eV 17) (eV 18)else .nils),(14,.bsl kI (eV 19)),(15,ii (ln (eV 19))),(16,ii (eV 20))],⟨21,18,bp (List.replicate 16 gone++[P5,if k then ot (eV 16) (eV 17) (eV 18)else gone]),
 vH++[aF 109 [eV 19,eV 1,eV 2,.int 2],af (ln (eV 19)) (.int 40),af (.int 0) (eV 20),af (eV 20) (ln (eV 19))]++(if k then [af (.int 1) (eV 17),af (eV 17) (eV 18),ba (ln (eV 16)) (eV 17),af (eV 17) (eV 20),aF 151 [eV 16,eV 0,eV 1,eV 2,eV 20]] else [aF 151 [mQ,eV 0,eV 1,eV 2,eV 20]])⟩,mi (ln (eV 19)) (eV 20)⟩
def aVZ:List Ann:=[⟨49,0,[tRS false,tRS true],none⟩]
def anr:List E:=[af (.int 1) (eV 1),af (eV 1) (eV 2),ba (ln (eV 0)) (eV 1),af (eV 1) (.int 60)]
def a2j:Pact:=⟨52,[.nslice 0 (eV 1) (eV 2)],⟨3,1,bp [ot (eV 0) (eV 1) (eV 2)],anr⟩,
 [(.nslice 1 (eV 4) (eV 5),⟨6,2,bp [ot (eV 0) (eV 1) (eV 2),ot (eV 3) (eV 4) (eV 5)],[ba (eV 4) (eV 1),af (eV 4) (eV 5),ba (ln (eV 3)) (eV 4),aF 152 [eV 3,eV 0,eV 1]]⟩)]⟩
def Ub(k:Bool):Tmpl:=⟨bo 46 [(0,.nslice 0 (eV 1) (eV 2)),(2,.nils),(3,if k then .nslice 8 (eV 9) (eV 10)else .nils),(4,ii (eV 11))],⟨12,9,bp ([ot (eV 0) (eV 1) (eV 2)]++List.replicate 7 gone++[if k then ot (eV 8) (eV 9) (eV 10)else gone]),
 anr++(if k then [af (.int 1) (eV 11),af (eV 11) (eV 1),ba (eV 9) (eV 11),af (eV 9) (eV 10),ba (ln (eV 8)) (eV 9),aF 152 [eV 8,eV 0,eV 11]] else [ba (eV 11) (.int 0)])⟩,mi (eV 1) (eV 11)⟩
def ap9(k:Bool):Tmpl:=⟨bo 46 [(0,.nslice 0 (eV 1) (eV 2)),(2,.nils),(3,if k then .nslice 8 (eV 9) (eV 10)else .nils),(4,ii (eV 11)),(5,ii (if k then eV 16 else .int 0))],⟨17,9,bp ([ot (eV 0) (eV 1) (eV 2)]++List.replicate 7 gone++[if k then ot (eV 8) (eV 9) (eV 10)else gone]),
 (Ub k).st.pc++[gt (eV 11) (eV 1)]++(if k then [af (.int 0) (eV 16),af (eV 16) (eV 9),aF 160 [eV 8,nt (eV 0) (eV 11),eV 16]] else [])⟩,if k then mi (eV 9) (eV 16)else .int 0⟩
def aV4:List Ann:=[⟨52,0,[Ub false,Ub true],none⟩,⟨52,2,[ap9 false,ap9 true],none⟩]
def ano:List E:=[af (eV 1) (eV 2),ba (ln (eV 0)) (eV 1),af (.int 0) (eV 1),af (eV 1) (.int 100),af (eV 4) (eV 5),ba (ln (eV 3)) (eV 4),af (.int 0) (eV 4),af (eV 4) (.int 100)]
def lJ:T Blk:=bp [ot (eV 0) (eV 1) (eV 2),ot (eV 3) (eV 4) (eV 5)]
def a1U:Pact:=⟨14,[.nslice 0 (eV 1) (eV 2),.nslice 1 (eV 4) (eV 5)],⟨6,2,lJ,ano⟩,[(.bool (eV 6),⟨7,2,lJ,[.iff (eV 6) (.and (ba (eV 1) (eV 4)) (aF 161 [eV 0,eV 3,eV 1]))]⟩)]⟩
def tIn:Tmpl:=⟨bo 26 [(0,.nslice 0 (eV 1) (eV 2)),(1,.nslice 1 (eV 4) (eV 5)),(5,ii (eV 8))],⟨9,2,lJ,ano++[ba (eV 4) (eV 1),af (.int 0) (eV 8),af (eV 8) (eV 1),aF 161 [eV 0,eV 3,eV 8]]⟩,mi (eV 1) (eV 8)⟩
def aVQ:List Ann:=[⟨14,0,[tIn],none⟩]
def li(n:Int):SV:=ii (.int n)
def a6x(l:List Int):SV:=match l with | []=>.nils | l=>.nslice 0 (.int (Int.ofNat l.length)) (.int (Int.ofNat l.length))
def aqy(l:List Int):T Blk:=match l with | []=>.nil | l=>bp [⟨true,.cells (l.map li) (.int (Int.ofNat l.length)) 3⟩]
def aqz(l:List Int):Nat:=match l with | []=>0 | _=>1
def y8(e t s:Int)(l m:List Int)(no:Int):Pact:=⟨18,[li e,li t,li s,a6x l,.agg (m.map li),li no],⟨0,aqz l,aqy l,[]⟩,[(.bool (.bool true),⟨0,aqz l,aqy l,[]⟩)]⟩
def noB:List SV:=[.bool (.bool false),.bool (.bool false),.bool (.bool false)]
def exV(b:Nat):SV:=.agg ([.nslice b (.int 4) (.var 0),li 20,li 1,li 0,li 0,li 2,.nils,.nils,.nslice (Nat.succ b) (.int 4) (.var 1),.nils]++noB++[li 0,li 0,li 20,li 0,li 0,li 0,li 0,.nils,.nils,.nils,.nils]++noB++[li 0,li 0,.nils,.nils,.nils,.nils,li 0,li 0,li 0,li (-1),li 0])
def Iq(i c:Int)(t:Bool):List SV:=[li i,li c,li 0,li 0,li 0,li 0,li 0,li 0,li 0,.bool (.bool t),.bool (.bool true),.bool (.bool false)]
def QK:List Blk:=[⟨true,.cells (Iq 1 0 false++Iq 2 1 false++Iq 3 0 false++Iq 4 2 true) (.fn 8 (.pr (.var 0) (.int 12))) 78⟩,⟨true,.cells [li 1,li 2,li 3,li 4] (.var 1) 3⟩]
def mvO(k:Nat):List SV:=(List.range 4).flatMap fun i=>[li (Int.ofNat (i+1)),li (if i==0 then 0 else if i==2 then 0 else if i==1 then 1 else 2),li 0,li 0,li 0,li 0,li 0,li 0,li 0,.bool (.bool false),.bool (.bool (Nat.blt i k)),.bool (.bool false)]
def mvN(k:Nat):Nat:=if k==0||k==4 then 2 else 3
def mvF(k:Nat):Nat:=if k==4 then 1 else 2
def mvV(k b:Nat):SV:=.agg ([.nslice b (.int 4) (.var b),li 20,li 0,li 0,li 0,li 0,if k==4 then .nils else .nslice (b+1) (.int (Int.ofNat (4-k))) (.var (b+1)),.nils,if k==0 then .nils else .nslice (b+mvF k) (.int (Int.ofNat k)) (.var (b+mvF k)),.nils]++noB++[li 0,li 0,li 20,li 0,li 0,li 0,li 0,.nils,.nils,.nils,.nils]++noB++[li 0,li 0,.nils,.nils,.nils,.nils,li 0,li 0,li 0,li (-1),li 0])
def mvL(l:List Nat)(v:Nat):Blk:=⟨true,.cells (l.map fun n=>li (Int.ofNat n)) (.var v) 3⟩
def mvH(k b:Nat):List Blk:=⟨true,.cells (mvO k) (.fn 8 (.pr (.var b) (.int 12))) 78⟩::((if k==4 then [] else [mvL ((List.range (4-k)).map fun j=>k+1+j) (b+1)])++(if k==0 then [] else [mvL ((List.range k).map fun j=>j+1) (b+mvF k)]))
def mvP(k b:Nat):List E:=af (.int 4) (.var b)::((if k==4 then [] else [af (.int (Int.ofNat (4-k))) (.var (b+1))])++(if k==0 then [] else [af (.int (Int.ofNat k)) (.var (b+mvF k))]))++(List.range (mvN k)).map fun j=>af (.int 0) (.var (b+j))
def a6O(k:Nat):Pact:=⟨30,[mvV k 0,li (Int.ofNat (k+1)),li 2],⟨mvN k,mvN k,bp (mvH k 0),mvP k 0⟩,[(mvV (k+1) (mvN k),⟨mvN k+mvN (k+1),mvN k+mvN (k+1),bp (List.replicate (mvN k) gone++mvH (k+1) (mvN k)),mvP (k+1) (mvN k)⟩)]⟩
def QL:List E:=[af (.int 4) (.var 1),af (.int 0) (.var 1),af (.int 4) (.var 0),af (.int 0) (.var 0)]
def SS(c:Int):List SV:=[.str (.str ⟨#[]⟩),li 1,li 0,li 0,li 0,li 0,li 0,li c,li 0,li 0,li 0,.nils,.nils,li 0]
def poH:Blk:=⟨true,.cells (SS 0++SS 1++SS 2) (.int 42) 54⟩
def a1I:Pact:=⟨13,[],⟨0,0,.nil,[]⟩,[(exV 0,⟨2,2,bp QK,QL⟩)]⟩
def QI(more:List SV):List SV:=.nslice 0 (.int 3) (.int 3)::exV 1::li 0::more
def CB:St:=⟨2,3,bp (poH::QK),QL⟩
def a1K:Pact:=⟨15,QI [],CB,[(.nslice 3 (.int 3) (.var 2),⟨3,4,bp (poH::QK++[⟨true,.cells [li 1,li 2,li 3] (.var 2) 3⟩]),af (.int 3) (.var 2)::QL⟩)]⟩
def a1J:Pact:=⟨17,QI [],CB,[(.agg [li 3,li 1,li 0,li 2],CB)]⟩
def Tv(a b c d n:Int)(r:Bool):Pact:=⟨19,QI [.agg [li a,li b,li c,li d,li n]],CB,[(.bool (.bool r),CB)]⟩
def args:List SV:=[.bsl kC (eV 0),dI (eV 1),ii (eV 2)]
def Jp:E:=cR 14 (eV 0)
def a1X:Pact:=⟨4,[.bsl kC (eV 0)],⟨1,0,.nil,[]⟩,[(.bool (eV 1),⟨2,0,.nil,[.imp (eV 1) (.and (af Jp (.int 12)) (aF 155 [eV 0,Jp]))]⟩)]⟩
def tL0:Tmpl:=⟨bo 55 [(0,.bsl kC (eV 0)),(3,ii (eV 8))],⟨9,0,.nil,[af (.int 0) (eV 8),af (eV 8) (.int 13),af (eV 8) Jp,aF 155 [eV 0,eV 8]]⟩,mi (.int 13) (eV 8)⟩
def Le:E:=nt (eV 0) (pl (tm (eV 8) (.int 14)) (.int 12))
def efE:E:=nt (eV 0) (pl (tm (eV 8) (.int 14)) (.int 11))
def tL2:Tmpl:=⟨bo 55 [(0,.bsl kC (eV 0)),(3,ii (eV 8)),(4,ii (eV 16))],⟨17,0,.nil,[af (.int 0) (eV 8),gt (eV 8) (.int 13),gt (eV 8) Jp,aF 155 [eV 0,eV 8],af (cR 5 efE) (.int 5),af (cR 2 Le) (.int 3),af (.int 0) (eV 16),af (eV 16) (cR 2 Le),aF 157 [Le,eV 16]]⟩,mi (cR 2 Le) (eV 16)⟩
def aVT:List Ann:=[⟨4,0,[tL0],none⟩,⟨4,2,[tL2],none⟩]
def a2k:Pact:=⟨5,[dI (eV 0)],⟨1,0,.nil,[]⟩,[(.bool (eV 1),⟨2,0,.nil,[.imp (eV 1) (sm (eV 0))]⟩)]⟩
def lsB:Blk:=⟨true,.cells [.bsl eY (cl (eV 0) 29),.bsl eY (cl (eV 0) 30)] (.int 2) 30⟩
def akh:T Blk:=bp (List.replicate 8 gone++[oh (eV 0),lsB])
def aog:List (Nat×SV):=[(1,bv 8),(29,.nslice 9 (.int 2) (.int 2)),(30,ii (.int 2)),(31,ii (eV 8))]
def ant:List E:=[.fn 159 (eV 0),af (.int 0) (eV 8),af (eV 8) (.int 2),.imp (af (.int 1) (eV 8)) (.and (af gg (.int 20)) (aF 158 [cl (eV 0) 29,gg])),.imp (af (.int 2) (eV 8)) (.and (af Dl (.int 20)) (aF 158 [cl (eV 0) 30,Dl]))]
def t4m:Tmpl:=⟨bo 68 aog,⟨9,10,akh,ant⟩,mi (.int 2) (eV 8)⟩
def tSm(q:Nat):Tmpl:=let c:Int:=if q==0 then 29 else 30
 ⟨bo 68 (aog++[(7,.bsl eY (cl (eV 0) c)),(8,ii (eV 16))]),⟨17,10,akh,
 ant++[ba (eV 8) (.int (Int.ofNat q)),af (cR 5 (cl (eV 0) c)) (.int 20),af (.int 0) (eV 16),af (eV 16) (cR 5 (cl (eV 0) c)),aF 158 [cl (eV 0) c,eV 16]]⟩,mi (cR 5 (cl (eV 0) c)) (eV 16)⟩
def aV5:List Ann:=[⟨5,4,[t4m],none⟩,⟨5,6,[tSm 0,tSm 1],none⟩]
/-! ### paying -/
def eF(f:Nat)(l:List E):E:=aF f (l++[.int 0])
def eqU(a b:E):E:=.fn 12 (.pr a b)
def aX8(a b n:E):E:=aF 181 [a,b,n]
def JV:List E:=[af rI (.int 20),aF 158 [eV 0,rI],.fn 190 (eV 0)]
def a1E:Pact:=⟨20,[.bsl eY (eV 0)],⟨1,0,.nil,JV⟩,[(.bsl eY (eV 1),⟨2,0,.nil,[aF 187 [eV 1,eV 0],.fn 195 (eV 1)]⟩)]⟩
def aYi(x n c:E):Blk:=⟨true,.flat eY x n c 63⟩
def tCi(k:Bool):Tmpl:=⟨bo 25 [(0,.bsl eY (eV 0)),(2,.nils),(3,if k then .nslice 8 (eV 9) (eV 10)else .nils),(4,ii (eV 11))],⟨12,if k then 9 else 0,bp (if k then List.replicate 8 gone++[aYi (eV 8) (eV 9) (eV 10)] else []),
 JV++[af (.int 0) (eV 11),af (eV 11) rI]++(if k then [af (.int 1) (eV 9),af (eV 9) (eV 10),ba (eV 9) (eV 11),ba (ln (eV 8)) (tm (eV 9) (.int 5)),aX8 (eV 8) (eV 0) (tm (eV 11) (.int 5))] else [ba (eV 11) (.int 0)])⟩,mi rI (eV 11)⟩
def aVI:List Ann:=[⟨20,0,[tCi false,tCi true],none⟩]
def aZV:List FM:=[.down eY]
def aoz:Pact:=⟨7,[dI (eV 0)],⟨1,0,.nil,dW (eV 0)⟩,[(dI (eV 1),⟨2,0,.nil,[aF 189 [eV 1,eV 0]]⟩)]⟩
def yw:List FM:=x5 kB
def Lf(n:Nat):List (SV×St):=[(.bool (.bool true),⟨n,0,.nil,[]⟩)]
def ann:List E:=[eqU (eV 0) (eV 1),af nI (.int 100)]
def a1T:Pact:=⟨14,[.bsl kI (eV 0),.bsl kI (eV 1)],⟨2,0,.nil,ann⟩,Lf 2⟩
def tIe:Tmpl:=⟨bo 26 [(0,.bsl kI (eV 0)),(1,.bsl kI (eV 1)),(5,ii (eV 8))],⟨9,0,.nil,ann++[af (.int 0) (eV 8),af (eV 8) nI]⟩,mi nI (eV 8)⟩
def aVP:List Ann:=[⟨14,0,[tIe],none⟩]
def it5(a:Nat):SV:=.agg [ii (eV a),ii (eV (a+1)),ii (eV (a+2)),ii (eV (a+3)),.bsl kT (eV (a+4))]
def anq:List E:=[ba (eV 0) (eV 5),ba (eV 1) (eV 6),ba (eV 2) (eV 7),ba (eV 3) (eV 8),eqU (eV 4) (eV 9),af (cR 2 (eV 4)) (.int 6)]
def a2g:Pact:=⟨72,[it5 0,it5 5],⟨10,0,.nil,anq⟩,Lf 10⟩
def anm:List E:=[aF 187 [eV 1,eV 0],af rI (.int 20),aF 158 [eV 0,rI]]
def a1R:Pact:=⟨48,[.bsl eY (eV 0),.bsl eY (eV 1)],⟨2,0,.nil,anm⟩,Lf 2⟩
def yS:List E:=[sE (eV 0),sm (eV 0),aF 189 [eV 1,eV 0]]
def a2i:Pact:=⟨25,[dI (eV 0),dI (eV 1)],⟨2,0,.nil,yS⟩,Lf 2⟩
def tSI:Tmpl:=⟨bo 59 [(2,bv 16),(3,bv 17),(5,ii (eV 16))],⟨17,18,bp (List.replicate 16 gone++[⟨true,.cells [ii (eV 0),ii (eV 1),ii (eV 2),ii (eV 3),.bsl kT (eV 4)] (.int 5) 63⟩,⟨true,.cells [ii (eV 5),ii (eV 6),ii (eV 7),ii (eV 8),.bsl kT (eV 9)] (.int 5) 63⟩]),
 anq++[af (.int 0) (eV 16),af (eV 16) (cR 2 (eV 4))]⟩,mi (cR 2 (eV 4)) (eV 16)⟩
def aV3:List Ann:=[⟨72,0,[tSI],none⟩]
def tIS:Tmpl:=⟨bo 27 [(0,.bsl eY (eV 0)),(1,.bsl eY (eV 1)),(5,ii (eV 8))],⟨9,0,.nil,anm++[af (.int 0) (eV 8),af (eV 8) rI]⟩,mi rI (eV 8)⟩
def aVN:List Ann:=[⟨48,0,[tIS],none⟩]
def IR(W:Nat):T Blk:=bp (List.replicate W gone++[oh (eV 0),oh (eV 1)])
def iY(k W s:Nat)(n:E):Tmpl:=⟨bo 199 [(2,bv W),(3,bv (W+1)),(s,ii (eV W))],⟨W+1,W+2,IR W,yS++[af (.int 0) (eV W),af (eV W) n]⟩,mi n (eV W)⟩
def aX2(k W:Nat):Out:=⟨.exit k,bo 199 [(2,bv W),(3,bv (W+1))],⟨W+1,W+2,IR W,yS⟩⟩
def hO(k W:Nat):LoopX:=⟨W,W,[aX2 k W]⟩
def HM(y:Option LoopX):Ann:=⟨25,0,[iY 0 16 5 fH],y⟩
def HN(y:Option LoopX):Ann:=⟨25,2,[iY 2 24 6 iT],y⟩
def sB:Tmpl:=⟨bo 199 [(2,bv 32),(3,bv 33),(7,ii (eV 32))],⟨33,34,IR 32,yS++[af (.int 0) (eV 32),af (eV 32) (.int 2)]⟩,mi (.int 2) (eV 32)⟩
def HO(y:Option LoopX):Ann:=⟨25,4,[sB],y⟩
def an9(e:E)(p:Nat):Blk:=⟨true,.cells ((List.range 4).map fun q=>.bsl kI (cl e (Int.ofNat (6+14*p+q)))) (.int 4) 58⟩
def iZ(p:Nat):Tmpl:=⟨bo 199 [(2,bv 48),(3,bv 49),(7,ii (eV 32)),(10,bv 50),(11,bv 51),(12,ii (eV 48))],⟨49,52,bp (List.replicate 48 gone++[oh (eV 0),oh (eV 1),an9 (eV 0) p,an9 (eV 1) p]),yS++[ba (eV 32) (.int (Int.ofNat p)),af (.int 0) (eV 48),af (eV 48) (.int 4)]⟩,mi (.int 4) (eV 48)⟩
def ajx(p:Nat):Out:=⟨.exit 6,bo 199 [(2,bv 48),(3,bv 49),(7,ii (eV 32))],⟨49,50,IR 48,yS++[ba (eV 32) (.int (Int.ofNat p))]⟩⟩
def oY:LoopX:=⟨48,48,[ajx 0,ajx 1]⟩
def xr(y:Option LoopX):Ann:=⟨25,6,[iZ 0,iZ 1],y⟩
def a2h:Pact:=⟨32,[.bsl kC (eV 0),dI (eV 1),ii (eV 2)],⟨3,0,.nil,anu⟩,
 [(.nslice 0 (eV 4) (eV 5),⟨6,1,bp [flS (eV 3) (eV 4) (eV 5)],[af (.int 0) (eV 4),af (eV 4) (eV 5),ba (ln (eV 3)) (tm (eV 4) (.int 2)),af (eV 4) r7,QQ (eV 3) r7]⟩)]⟩
def msS:List FM:=[.up kT 90]
def lH(x n c:E):Blk:=⟨true,.flat kT x n c 90⟩
def jj(x n c:E):Blk:=⟨true,.flat kI x n c 3⟩
def S0(r t:SV)(a:Nat):Blk:=⟨true,.cells (((List.range 4).map fun j=>ii (eV (a+j)))++[r,t]) (.int 6) 94⟩
def Ke(b a:Nat)(k:Bool):List Blk:=[S0 (.nslice (b+1) (eV (a+5)) (eV (a+6))) (if k then .nslice (b+2) (eV (a+8)) (eV (a+9))else .nils) a,lH (eV (a+4)) (eV (a+5)) (eV (a+6)),if k then jj (eV (a+7)) (eV (a+8)) (eV (a+9))else gone]
def lT(a:Nat)(k:Bool):List E:=[af (.int 0) (eV (a+5)),af (eV (a+5)) (eV (a+6)),ba (ln (eV (a+4))) (tm (eV (a+5)) (.int 2))] ++
 (if k then [af (.int 1) (eV (a+8)),af (eV (a+8)) (eV (a+9)),ba (ln (eV (a+7))) (eV (a+8)),af (pl (eV (a+5)) (eV (a+8))) (.int 30)] else [af (eV (a+5)) (.int 30)])
def puT(a:Nat)(k:Bool):E:=if k then eV (a+7)else mQ
def jt(a:Nat)(k:Bool):List E:=(List.range 5).map (fun j=>eV (a+j))++[puT a k]
def P4(e:E):Blk:=⟨true,.cells [ii e] (.int 1) 49⟩
def clC(b:Nat):SV:=.func (.func 62) [] [bv b]
def clA:SV:=.func (.func 63) [] []
def Ic(any:Bool)(e:E):E:=if any then .int (-1)else e
def Qh(e:E):List E:=[af (.int 0) e,af e (.int 3)]
def Up(any:Bool):T Blk:=bp (lH (eV 0) (eV 1) (eV 2)::if any then [] else [P4 (eV 3)])
def Uq(any:Bool):Nat:=if any then 1 else 2
def Dz:List E:=[af (.int 0) (eV 1),af (eV 1) (eV 2),ba (ln (eV 0)) (tm (eV 1) (.int 2)),af (eV 1) (.int 30)]++Qh (eV 3)
def clX(any:Bool):SV:=if any then clA else clC 1
def aoE(any:Bool):Pact:=⟨86,[.nslice 0 (eV 1) (eV 2),clX any],⟨if any then 3 else 4,Uq any,Up any,if any then Dz.take 4 else Dz⟩,
 [(ii (eV 4),⟨5,Uq any,Up any,[ba (eV 4) (aF 175 [Ic any (eV 3),eV 0,eV 1]),af (.int (-1)) (eV 4),gt (eV 4) (eV 1)]⟩)]⟩
def tXF(any:Bool):Tmpl:=⟨bo 19 [(0,.nslice 0 (eV 1) (eV 2)),(1,clX any),(6,.nslice 0 (eV 1) (eV 2)),(7,ii (eV 1)),(8,ii (eV 8))],⟨9,Uq any,Up any,(if any then Dz.take 4 else Dz)++[af (.int 0) (eV 8),af (eV 8) (eV 1),ba (aF 175 [Ic any (eV 3),eV 0,eV 8]) (.int (-1))]⟩,mi (eV 1) (eV 8)⟩
def aii(any:Bool):List Ann:=[⟨86,0,[tXF any],none⟩]
def a0H:List E:=Dz.take 4++[af (.int 0) (eV 3),gt (eV 3) (eV 1),ba (eV 4) (.ar .add .i64 (eV 3) (.int 1))]
def a1H:Pact:=⟨87,[.nslice 0 (eV 1) (eV 2),ii (eV 3),ii (eV 4)],⟨5,1,bp [lH (eV 0) (eV 1) (eV 2)],a0H⟩,
 [(.nslice 0 (eV 6) (eV 2),⟨7,1,bp [lH (eV 5) (eV 6) (eV 2)],[ba (eV 6) (mi (eV 1) (.int 1)),ba (ln (eV 5)) (tm (eV 6) (.int 2)),aF 186 [eV 5,eV 0,eV 3]]⟩)]⟩
def vI(rb tb a:Nat)(k:Bool):Blk:=S0 (.nslice rb (eV (a+5)) (eV (a+6))) (if k then .nslice tb (eV (a+8)) (eV (a+9))else .nils) a
def oK(a:Nat):List E:=[eF 188 ((List.range 4).map fun j=>eV (a+j))]
def Uj(any:Bool):List Blk:=if any then [] else [P4 (eV 10)]
def tpV(any:Bool):SV:=if any then clA else clC 3
def Ld(any:Bool):Nat:=if any then 3 else 4
def a2n(k any:Bool):Pact:=⟨61,[bv 0,tpV any],⟨11,Ld any,bp (Ke 0 0 k++Uj any),lT 0 k++Qh (eV 10)⟩,
  [(.bool (.bool true),⟨22,Ld any+1,bp ([S0 (.nslice 1 (eV 17) (eV 18)) (.nslice (Ld any) (eV 20) (eV 21)) 12|>fun b=>⟨true,match b.obj with | .cells (_ ::_ ::_ ::_ ::r) t e=> .cells (((List.range 4).map fun j=>ii (eV j))++r) t e | o=>o⟩,lH (eV 16) (eV 17) (eV 18),gone]++Uj any++[jj (eV 19) (eV 20) (eV 21)]),
      lT 12 true++[ba (eV 17) (mi (eV 5) (.int 1)),ba (eV 20) (if k then pl (eV 8) (.int 1)else .int 1),eF 174 [eV 16,eV 19,Ic any (eV 10),eV 4,puT 0 k]]⟩),
   (.bool (.bool false),⟨11,Ld any,bp (Ke 0 0 k++Uj any),[ba (aF 175 [Ic any (eV 10),eV 4,eV 5]) (.int (-1))]⟩)]⟩
def Ku(k any:Bool):Pact:=let s:=a2n k any;if any then {s with st:={s.st with pc:=lT 0 k++[ba (eV 10) (.int 0)]}} else s
def ank(k:Bool):List E:=lT 0 k++oK 0++Qh (eV 10)++[af (.int 0) (eV 11),af (eV 11) (.int 20)]
def aiQ(k:Bool):SV×St:=(.bool (.bool true),⟨22,4,bp [vI 1 3 12 true,lH (eV 16) (eV 17) (eV 18),gone,jj (eV 19) (eV 20) (eV 21)],lT 12 true++oK 12++[eF 170 (jt 12 true++[eV 10,eV 11]++jt 0 k)]⟩)
def aXv:SV×St:=(.bool (.bool true),⟨19,3,bp [vI 1 3 12 false,lH (eV 16) (eV 17) (eV 18),gone],lT 12 false++oK 12++[eF 170 (jt 12 false++[eV 10,eV 11]++jt 0 false)]⟩)
def aXw(k:Bool):SV×St:=(.bool (.bool false),⟨12,3,bp [gone,gone,gone],[eF 171 ([eV 10,eV 11]++jt 0 k)]⟩)
def aoy(k:Bool):Pact:=⟨34,[bv 0,ii (eV 10),ii (eV 11)],⟨12,3,bp (Ke 0 0 k),ank k⟩,(if k then [aiQ k] else [aXv,aiQ k])++[aXw k]⟩
def TY(k k':Bool):Tmpl:=⟨bo 36 [(0,bv 0),(2,ii (eV 11)),(4,bv 25),(7,ii (eV 34))],⟨35,26,bp ([vI 1 24 24 k',lH (eV 28) (eV 29) (eV 30)]++List.replicate 22 gone++[if k' then jj (eV 31) (eV 32) (eV 33)else gone,P4 (eV 10)]),
 ank k++lT 24 k'++oK 24++[af (.int 0) (eV 34),af (eV 34) (eV 11),eF 170 (jt 24 k'++[eV 10,eV 34]++jt 0 k),.imp (gt (eV 34) (eV 11)) (eF 185 ((List.range 4).map (fun j=>eV (24+j))++[eV 10]))]⟩,mi (eV 11) (eV 34)⟩
def aif(k:Bool):List Ann:=[⟨34,0,if k then [TY true true] else [TY false false,TY false true],none⟩]
def a0I(k:Bool):List E:=lT 0 k++oK 0
def am0(k:Bool):SV×St:=(.bool (.bool true),⟨22,4,bp [vI 1 3 12 true,lH (eV 16) (eV 17) (eV 18),gone,jj (eV 19) (eV 20) (eV 21)],lT 12 true++oK 12++[eF 170 (jt 12 true++[.int 4,.int 1]++jt 0 k)]⟩)
def a0j:SV×St:=(.bool (.bool true),⟨19,3,bp [vI 1 3 12 false,lH (eV 16) (eV 17) (eV 18),gone],lT 12 false++oK 12++[eF 170 (jt 12 false++[.int 4,.int 1]++jt 0 false)]⟩)
def a0k(k:Bool):SV×St:=(.bool (.bool false),⟨10,3,bp [gone,gone,gone],[eF 171 ([.int 4,.int 1]++jt 0 k)]⟩)
def aoD(k:Bool):Pact:=⟨35,[bv 0],⟨10,3,bp (Ke 0 0 k),a0I k⟩,(if k then [am0 k] else [a0j,am0 k])++[a0k k]⟩
def lE:List E:=(List.range 5).map fun j=>eV (3+j)
def Ih:List E:=lE.take 4++[eV 0,eV 1,eV 2]
def qg:E:=It (eV 1) (eV 2)
def jQ:E:=aF 146 lE
def a6H:SV:=.agg [ii (.int 0),ii (.int 0),ii (.int 0),ii (.int 0)]
def ajF(m:Nat)(l:E):E:=eF 183 ((List.range 4).map (fun j=>eV (m+j))++[l]++lE++[eV 0,eV 1,eV 2])
def uP:E:=eF 177 ([.int 4,eV 7]++Ih)
def SQ(e:Int)(c:List E):SV×St:=(.tup [.nils,a6H,ii (.int e)],⟨8,0,.nil,c⟩)
def anx:SV×St:=(.tup [.nils,.agg (PY 8),ii (.int 0)],⟨12,0,.nil,[ajF 8 mQ,qg,jQ]⟩)
def anz:SV×St:=(.tup [.nslice 0 (eV 13) (eV 14),.agg (PY 8),ii (.int 0)],⟨15,1,bp [jj (eV 12) (eV 13) (eV 14)],[ajF 8 (eV 12),qg,jQ,af (.int 1) (eV 13),af (eV 13) (eV 14),af (eV 13) (.int 30),ba (ln (eV 12)) (eV 13)]⟩)
def HQ:List SV:=[.bsl kC (eV 0),dI (eV 1),ii (eV 2),.agg (lE.map ii)]
def a2c:Pact:=⟨21,HQ,⟨8,0,.nil,vG⟩,[SQ 2 [.not (.and qg jQ)],SQ 12 [uP,qg,jQ],anx,anz]⟩
def a2o:Pact:=⟨33,[.agg ((List.range 5).map fun j=>ii (eV j))],⟨5,0,.nil,[]⟩,[(.bool (eV 5),⟨6,0,.nil,[.iff (eV 5) (aF 146 ((List.range 5).map eV))]⟩)]⟩
def aX7(a:Nat)(k:Bool)(n:E):E:=eF 176 (jt a k++[.int 4,n]++Ih)
def zB:Blk:=⟨true,.cells [ii (.int 0),ii (.int 0),ii (.int 0),ii (.int 0)] (.int 4) 25⟩
def Ua(m:Nat):Tmpl:=let k:=m==1
  ⟨bo 76 [(8,.nils),(9,bv 24),(10,ii (.int 0)),(11,bv 25),(12,.bool (.bool (m != 2))),(51,ii (eV 7)),(52,ii (eV 74))],⟨75,28,bp (List.replicate 24 gone++[zB]++(if m==2 then [gone,gone,gone] else [vI 26 27 64 k,lH (eV 68) (eV 69) (eV 70),if k then jj (eV 71) (eV 72) (eV 73)else gone])),
   vG++[qg,jQ,af (.int 0) (eV 7),af (eV 7) (.int 20),af (.int 0) (eV 74),af (eV 74) (eV 7)]++(if m==2 then [uP] else lT 64 k++oK 64++[aX7 64 k (eV 74)])⟩,mi (eV 7) (eV 74)⟩
def aiX:Blk:=⟨true,.cells (lE.map ii) (.int 5) 44⟩
def TZ(m:Nat):Tmpl:=let k:=m==1
  ⟨bo 76 [(7,bv 16),(8,.nils),(9,bv 17),(10,ii (.int 0)),(11,bv 18),(12,.bool (.bool (m != 2))),(37,.agg ((lE.take 4).map ii)),(38,ii (eV 34))],⟨35,21,bp (List.replicate 16 gone++[aiX,zB]++(if m==2 then [gone,gone,gone] else [vI 19 20 24 k,lH (eV 28) (eV 29) (eV 30),if k then jj (eV 31) (eV 32) (eV 33)else gone])),
   vG++[qg,jQ,af (.int 0) (eV 34),af (eV 34) (.int 4)]++(if m==2 then [uP] else lT 24 k++oK 24++[eF 176 (jt 24 k++[eV 34,.int 0]++Ih)])⟩,mi (.int 4) (eV 34)⟩
def aVX:List Ann:=[⟨21,0,[TZ 0,TZ 1,TZ 2],none⟩,⟨21,2,[Ua 0,Ua 1,Ua 2],none⟩]
def aX9:E:=eF 182 (lE++[eV 0,eV 1,eV 2])
def a2e:Pact:=⟨49,[.bsl kC (eV 0),dI (eV 1),ii (eV 2)],⟨3,0,.nil,vH⟩,[(.bsl kI (eV 3),⟨4,0,.nil,[af (ln (eV 3)) (.int 40),aX6 (eV 3)]⟩)]⟩
def msI:List FM:=[.down kI]
def anw:List E:=[af nI (.int 40)]
def a2q:Pact:=⟨51,[.bsl kI (eV 0),ii (eV 1)],⟨2,0,.nil,anw⟩,[(.bsl kI (eV 2),⟨3,0,.nil,[aF 184 [eV 2,eV 0,eV 1,nI],af (ln (eV 2)) nI]⟩)]⟩
def tWo(k:Bool):Tmpl:=⟨bo 27 [(0,.bsl kI (eV 0)),(1,ii (eV 1)),(4,.nils),(5,if k then .nslice 8 (eV 9) (eV 10)else .nils),(6,ii (eV 11))],⟨12,if k then 9 else 0,bp (if k then List.replicate 8 gone++[jj (eV 8) (eV 9) (eV 10)] else []),
 anw++[af (.int 0) (eV 11),af (eV 11) nI]++(if k then [af (.int 1) (eV 9),af (eV 9) (eV 10),ba (ln (eV 8)) (eV 9),af (eV 9) (eV 11),aF 184 [eV 8,eV 0,eV 1,eV 11]] else [aF 184 [mQ,eV 0,eV 1,eV 11]])⟩,mi nI (eV 11)⟩
def aWa:List Ann:=[⟨51,0,[tWo false,tWo true],none⟩]
def a2r:Pact:=⟨27,HQ,⟨8,0,.nil,vH++[jQ]⟩,[SQ 12 [uP],anx,anz]⟩
def aY9(a:Nat):Blk:=⟨true,.cells (PY a) (.int 4) 25⟩
def sH(W a:Nat)(k:Bool)(more:List Blk):T Blk:=bp (List.replicate W gone++[P5,aiX,zB,aY9 a]++(if k then [jj (eV (a+7)) (eV (a+8)) (eV (a+9))] else [gone])++more)
def sI(W a:Nat)(k:Bool):List (Nat×SV):=[(0,.bsl kC (eV 0)),(5,bv W),(7,bv (W+1)),(8,.nils),(9,bv (W+2)),(10,ii (.int 0)),(11,bv (W+3)),(12,.bsl kI (eV (a+4))),(13,if k then .nslice (W+4) (eV (a+8)) (eV (a+9))else .nils)]
def vR(a:Nat)(k:Bool)(i n:E):List E:=vH++[jQ]++oK a++[af (ln (eV (a+4))) (.int 40)]++(if k then [af (.int 1) (eV (a+8)),af (eV (a+8)) (eV (a+9)),ba (ln (eV (a+7))) (eV (a+8)),af (pl (eV (a+8)) (ln (eV (a+4)))) (.int 30)] else []) ++
 [eF 178 (jt a k++[i,n]++Ih)]
def i0(k:Bool):Tmpl:=⟨bo 123 (sI 16 16 k++[(14,ii (eV 26))]),⟨27,21,sH 16 16 k [],vR 16 k (eV 26) (.int 0)++[af (.int 0) (eV 26),af (eV 26) (.int 4)]⟩,mi (.int 4) (eV 26)⟩
def Qd:E:=nt (dt (lE.take 4)) (eV 26)
def iG(k:Bool):Tmpl:=⟨bo 123 (sI 24 32 k++[(14,ii (eV 26)),(15,ii (eV 42))]),⟨43,29,sH 24 32 k [],vR 32 k (eV 26) (eV 42)++[af (.int 0) (eV 26),gt (eV 26) (.int 4),af (.int 0) (eV 42),af (eV 42) (.int 20),af (eV 42) Qd]⟩,mi (.int 20) (eV 42)⟩
def i3(k:Bool):Tmpl:=⟨bo 123 (sI 24 32 k++[(14,ii (eV 26)),(15,ii (eV 42)),(16,ii (eV 48)),(17,ii (eV 49))]),⟨50,29,sH 24 32 k [],vR 32 k (eV 26) (eV 42)++[af (.int 0) (eV 26),gt (eV 26) (.int 4),af (.int 0) (eV 42),af (eV 42) (.int 20),gt (eV 42) Qd,
 eF 185 ((List.range 4).map (fun j=>eV (32+j))++[eV 26]),af (.int (-1)) (eV 49),gt (eV 49) (ln (eV 36)),ba (eV 48) (eF 179 [.fn 19 (.pr (eV 36) (pl (eV 49) (.int 1))),eV 26,eV 0,eV 1])]⟩,pl (eV 49) (.int 1)⟩
def ajA(k:Bool):Out:=⟨.exit 4,bo 123 (sI 24 32 k++[(14,ii (eV 26)),(15,ii (eV 42)),(16,ii (eV 48))]),⟨50,29,sH 24 32 k [],(iG k).st.pc++[gt (eV 42) Qd,eF 185 ((List.range 4).map (fun j=>eV (32+j))++[eV 26]),ba (eV 48) (eF 179 [eV 36,eV 26,eV 0,eV 1])]⟩⟩
def o6:LoopX:=⟨48,29,[ajA false,ajA true]⟩
def xw(y:Option LoopX):Ann:=⟨27,4,[i3 false,i3 true],y⟩
def Tb(n b:Nat):Out:=⟨.ret,bo 123 [(8,.nils),(9,bv b),(10,ii (.int 12))],⟨n,b+1,bp (List.replicate b gone++[zB]),vH++[jQ,uP]⟩⟩
def ajz(k:Bool):Out:=⟨.exit 2,bo 123 (sI 24 32 k++[(14,ii (eV 26))]),⟨43,29,sH 24 32 k [],vR 32 k (pl (eV 26) (.int 1)) (.int 0)++[af (.int 0) (eV 26),gt (eV 26) (.int 4)]⟩⟩
def o5:LoopX:=⟨32,24,[ajz false,ajz true,Tb 32 24]⟩
def xv(y:Option LoopX):Ann:=⟨27,2,[iG false,iG true],y⟩
def ajy(k:Bool):Out:=⟨.exit 0,bo 123 (sI 16 16 k),⟨27,21,sH 16 16 k [],vR 16 k (.int 4) (.int 0)⟩⟩
def oZ:LoopX:=⟨16,16,[ajy false,ajy true,Tb 16 16]⟩
def xu(y:Option LoopX):Ann:=⟨27,0,[i0 false,i0 true],y⟩
def i4(k:Bool):Tmpl:=⟨bo 123 (sI 24 32 k++[(18,ii (eV 42))]),⟨43,29,sH 24 32 k [],vR 32 k (.int 4) (eV 42)++[af (.int 0) (eV 42),af (eV 42) (.int 20),af (eV 42) (eV 7)]⟩,mi (.int 20) (eV 42)⟩
def ajB(k:Bool):Out:=⟨.exit 6,bo 123 (sI 24 32 k),⟨43,29,sH 24 32 k [],vR 32 k (.int 4) (eV 7)⟩⟩
def o7:LoopX:=⟨32,24,[ajB false,ajB true,Tb 32 24]⟩
def xx(y:Option LoopX):Ann:=⟨27,6,[i4 false,i4 true],y⟩
def DL(f:FuncId)(ks:List CK)(w:Int)(t:TypeId):Pact:=⟨f,[.bsl ks (eV 0)],⟨1,0,.nil,[af (cR w (eV 0)) (.int 100)]⟩,
 [(.nslice 0 (eV 2) (eV 3),⟨4,1,bp [⟨true,.flat ks (eV 1) (eV 2) (eV 3) t⟩],[aF 200 [eV 1,eV 0],af (.int 0) (eV 2),af (eV 2) (eV 3),ba (eV 2) (cR w (eV 0))]⟩)]⟩
def gX(b:Nat)(e:E)(n c:E):SV:=.agg (.nslice b n c::(uL e 0 kB).drop 1)
def uW(x n c:E):Blk:=⟨true,.flat kO x n c 78⟩
def anj:List E:=[af (.int 0) (eV 1),af (eV 1) (eV 2),ba (ln (eV 0)) (eV 1),af (eV 1) (.int 100),.fn 193 (eV 0)]
def a1z:Pact:=⟨23,[.nslice 0 (eV 1) (eV 2),ii (eV 3)],⟨4,1,bp [jj (eV 0) (eV 1) (eV 2)],anj⟩,[(.tup [ii (eV 4),.bool (eV 5)],⟨6,1,bp [jj (eV 0) (eV 1) (eV 2)],[.iff (eV 5) (ajE (eV 0) (eV 3))]⟩)]⟩
def a1A:Pact:=⟨23,[.nils,ii (eV 0)],⟨1,0,.nil,[]⟩,[(.tup [ii (eV 1),.bool (.bool false)],⟨2,0,.nil,[]⟩)]⟩
def tBs:Tmpl:=⟨bo 54 [(0,.nslice 0 (eV 1) (eV 2)),(1,ii (eV 3)),(6,ii (eV 1)),(7,ii (eV 8)),(8,ii (eV 9))],⟨10,1,bp [jj (eV 0) (eV 1) (eV 2)],anj++[af (.int 0) (eV 8),af (eV 8) (eV 9),af (eV 9) (eV 1),aF 194 [eV 0,eV 3,eV 8,eV 9]]⟩,mi (eV 9) (eV 8)⟩
def aVG:List Ann:=[⟨23,0,[tBs],none⟩]
def aYa:E:=eF 198 ([eV 8]++lE++[eV 0,eV 1,eV 2])
def zF:CK->SV
 |.int k=>.int k (.int 0)
 |.bool=>.bool (.bool false)
 |.str=>.str (.str ByteArray.empty)
 |.slc _=>.nils
def na(l n c o:E):Blk:=⟨true,.nest eY l n c 63 o⟩
def a1G:Pact:=DL 67 kT 2 112
def a2p:Pact:=⟨40,[.bsl eY (eV 0)],⟨1,0,.nil,JV⟩,[(.nslice 0 (eV 2) (eV 3),⟨5,1,bp [na (eV 1) (eV 2) (eV 3) (eV 4)],[aF 187 [eV 1,eV 0],.fn 190 (eV 1),ba (eV 2) rI,ba (eV 4) (eV 2),af (.int 0) (eV 2),af (eV 2) (eV 3)]⟩)]⟩
def tWn:Tmpl:=⟨bo 24 [(0,.bsl eY (eV 0)),(2,.nils),(3,.nslice 8 (eV 9) (eV 10)),(8,ii (eV 9)),(9,ii (eV 11))],⟨13,9,bp (List.replicate 8 gone++[na (eV 8) (eV 9) (eV 10) (eV 12)]),
 JV++[af (.int 0) (eV 11),af (eV 11) (eV 9),ba (eV 9) rI,af (eV 9) (eV 10),ba (eV 12) (eV 11),af (eV 12) (eV 11),af (eV 11) (eV 12),aF 187 [eV 8,eV 0],.fn 190 (eV 8)]⟩,mi (eV 9) (eV 11)⟩
def aV9:List Ann:=[⟨40,0,[tWn],none⟩]
/-! ### a board that is owned through and through: X its numbers; lists, lengths and rooms from variable k on -/
def Dq(l n c:E):Blk:=⟨true,.flat kI l n c 3⟩
def Dr(l n c:E):Blk:=⟨true,.flat kT l n c 101⟩
def Ko:List Nat:=[0,6,7,8,9,20,21,22,23,29,30,31,32]
def a0t(x:E)(k b:Nat):List SV:=(List.range 38).zip (uL x 0 kB) |>.map fun(j,v)=>match Ko.idxOf? j with
 |some i=>.nslice (b+i) (eV (k+3*i+1)) (eV (k+3*i+2))
 |none=>v
def HX(k:Nat)(o:Nat):List Blk:=(List.range 13).map fun i=>
 let l:=eV (k+3*i);let n:=eV (k+3*i+1);let c:=eV (k+3*i+2)
 if i==0 then uW l n c else if i==9 then na l n c (eV o)else if i==10 then na l n c (eV (o+1))else if i==12 then Dr l n c else Dq l n c
def Iu(l n:E):E:=aF 158 [l,n]
def nf(k:Nat)(o:Nat):List E:=(List.range 13).flatMap (fun i=>[af (.int 0) (eV (k+3*i+1)),af (eV (k+3*i+1)) (eV (k+3*i+2)),af (eV (k+3*i+1)) (.int 40)])++[ba (eV o) (eV (k+28)),ba (eV (o+1)) (eV (k+31))]
def qh(a b:Nat):List E:=[Iu (eV a) (eV 29),Iu (eV b) (eV 32)]
def yN(x:E)(k b:Nat):List SV:=(List.range 38).zip kB |>.map fun(j,c)=>match Ko.idxOf? j with
 |some i=>.nslice (b+i) (eV (k+3*i+1)) (eV (k+3*i+2))
 |none=>aiK (nt x (.int (Int.ofNat (gy.idxOf j)))) c
def a2l:Pact:=⟨26,[.agg (yN (eV 0) 1 0)],⟨42,13,bp (HX 1 40),nf 1 40++qh 28 31⟩,[(.tup [],⟨42,13,bp (List.replicate 13 gone),[]⟩)]⟩
def stH(W:Nat)(f:Nat->Nat)(more:List Blk):T Blk:=bp ((List.range 13).map (fun i=>
  let l:=eV (f i);let n:=eV (3*i+2);let c:=eV (3*i+3)
  if i==0 then uW l n c else if i==9 then na l n c (eV 40)else if i==10 then na l n c (eV 41)else if i==12 then Dr l n c else Dq l n c)++List.replicate (W-13) gone++[⟨true,.cells (yN (eV 0) 1 0) (.int 38) 34⟩]++more)
def tS0:Tmpl:=⟨bo 131 [(1,bv 16),(2,ii (eV 48))],⟨50,17,stH 16 (fun i=>if i==0 then 49 else 3*i+1) [],nf 1 40++qh 28 31++[af (.int 0) (eV 48),af (eV 48) (eV 2)]⟩,mi (eV 2) (eV 48)⟩
def zn(p:Nat):List SV:=(List.range 4).map fun q=>let i:=1+4*p+q;.nslice i (eV (3*i+2)) (eV (3*i+3))
def sq(W lo hi u:Nat)(a:Nat)(more:List Blk):T Blk:=bp ((List.range 13).map (fun i=>
  let l:=if Nat.ble u i&&Nat.ble i hi then eV (a+i-u)else eV (3*i+1);let n:=eV (3*i+2);let c:=eV (3*i+3)
  if Nat.blt i lo then gone else if i==0 then uW l n c else if i==9 then na l n c (eV 40)else if i==10 then na l n c (eV 41)else if i==12 then Dr l n c else Dq l n c)++List.replicate (W-13) gone++[⟨true,.cells (yN (eV 0) 1 0) (.int 38) 34⟩]++more)
def Ju(d:Nat)(i:E):List E:=[af (.int 0) i,af i (eV (3*d+2))]
def CW(v:Nat)(n:Int):List E:=[af (.int 0) (eV v),gt (eV v) (.int n)]
def tS2:Tmpl:=⟨bo 131 [(1,bv 24),(3,ii (eV 50))],⟨59,25,sq 24 1 8 1 51 [],nf 1 40++qh 28 31++[af (.int 0) (eV 50),af (eV 50) (.int 2)]⟩,mi (.int 2) (eV 50)⟩
def tS4(p:Nat):Tmpl:=⟨bo 131 [(1,bv 32),(3,ii (eV 50)),(37,.agg (zn p)),(38,ii (eV 64))],⟨73,33,sq 32 1 8 1 65 [],nf 1 40++qh 28 31++CW 50 2++[ba (eV 50) (.int (Int.ofNat p)),af (.int 0) (eV 64),af (eV 64) (.int 4)]⟩,mi (.int 4) (eV 64)⟩
def sA(p q:Nat):Tmpl:=let d:=1+4*p+q;⟨bo 131 [(1,bv 40),(3,ii (eV 50)),(5,.nslice d (eV (3*d+2)) (eV (3*d+3))),(6,ii (eV 80)),(37,.agg (zn p)),(38,ii (eV 64))],⟨89,41,sq 40 1 8 1 81 [],nf 1 40++qh 28 31++CW 50 2++CW 64 4++[ba (eV 50) (.int (Int.ofNat p)),ba (eV 64) (.int (Int.ofNat q))]++Ju d (eV 80)⟩,mi (eV (3*d+2)) (eV 80)⟩
def aV1:List Ann:=[⟨26,2,[tS2],none⟩,⟨26,4,[tS4 0,tS4 1],none⟩,⟨26,6,[sA 0 0,sA 0 1,sA 0 2,sA 0 3,sA 1 0,sA 1 1,sA 1 2,sA 1 3],none⟩]
def RI:Blk:=⟨true,.cells [.nslice 9 (eV 29) (eV 30),.nslice 10 (eV 32) (eV 33)] (.int 2) 30⟩
def Tq(W:Nat):List (Nat×SV):=[(1,bv W),(58,.nslice (W+1) (.int 2) (.int 2)),(59,ii (.int 2)),(60,ii (eV 60))]
def tS8:Tmpl:=⟨bo 131 (Tq 32),⟨63,34,sq 32 9 10 9 61 [RI],nf 1 40++qh 61 62++[af (.int 0) (eV 60),af (eV 60) (.int 2)]⟩,mi (.int 2) (eV 60)⟩
def aV2:List Ann:=[⟨26,8,[tS8],none⟩]
def ap7(m:Nat):Tmpl:=let d:=9+m;⟨bo 131 (Tq 40++[(8,.nslice d (eV (3*d+2)) (eV (3*d+3))),(9,ii (eV 68))]),⟨71,42,sq 40 9 10 9 69 [RI],nf 1 40++qh 69 70++CW 60 2++[ba (eV 60) (.int (Int.ofNat m))]++Ju d (eV 68)⟩,mi (.int 40) (eV 68)⟩
def tgE(l i:E):E:=cR 2 (nt l (pl (tm i (.int 5)) (.int 4)))
def ap8(m:Nat):Tmpl:=let d:=9+m;⟨bo 131 (Tq 48++[(8,.nslice d (eV (3*d+2)) (eV (3*d+3))),(9,ii (eV 68)),(10,ii (eV 76))]),⟨79,50,sq 48 9 10 9 77 [RI],nf 1 40++qh 77 78++CW 60 2++[ba (eV 60) (.int (Int.ofNat m)),af (.int 0) (eV 68),gt (eV 68) (eV (3*d+2)),gt (eV 68) (eV (40+m)),af (.int 0) (eV 76),af (eV 76) (tgE (eV (77+m)) (eV 68))]⟩,mi (tgE (eV (77+m)) (eV 68)) (eV 76)⟩
def aV0:List Ann:=[⟨26,10,[ap7 0,ap7 1],none⟩,⟨26,12,[ap8 0,ap8 1],none⟩]
def a5Y:Tmpl:=⟨bo 131 [(1,bv 40),(11,ii (eV 64))],⟨66,41,sq 40 11 11 11 65 [],nf 1 40++Ju 11 (eV 64)⟩,mi (eV 35) (eV 64)⟩
def a5Z:Tmpl:=⟨bo 131 [(1,bv 48),(12,ii (eV 72))],⟨74,49,sq 48 12 12 12 73 [],nf 1 40++Ju 12 (eV 72)⟩,mi (eV 38) (eV 72)⟩
def aV7:List Ann:=[⟨26,0,[tS0],none⟩,⟨26,14,[a5Y],none⟩,⟨26,16,[a5Z],none⟩]++aV0++aV2++aV1
/-! ### a copy that is owned -/
def wJ(i:Nat):Int:=if i==0 then 12 else if i==9||i==10 then 5 else if i==12 then 2 else 1
def cpX(x:E)(k o:Nat):List E:=(List.range 13).flatMap (fun i=>
  let l:=eV (k+3*i);let n:=eV (k+3*i+1);let c:=eV (k+3*i+2);let s:=cl x (Int.ofNat (Ko.getD i 0))
  (if i==9||i==10 then [aF 187 [l,s],.fn 190 l] else [aF 200 [l,s]])++[ba n (cR (wJ i) s),af (.int 0) n,af n c])++[ba (eV o) (eV (k+28)),ba (eV (o+1)) (eV (k+31))]
def a1y:Pact:=⟨22,[dI (eV 0)],⟨1,0,.nil,dW (eV 0)⟩,[(.agg (a0t (eV 0) 1 0),⟨42,13,bp (HX 1 40),cpX (eV 0) 1 40⟩)]⟩
def cpT(x:E)(k o:Nat):List E:=(cpX x k o).drop 1
def msU:List FM:=(List.range 38).zip kB |>.map fun(j,c)=>match c with
 |.slc ks=>.up ks (if j==0 then 78 else if j==29||j==30 then 63 else if j==32 then 101 else 3)
 |_=>.stay
def ai2:List E:=[eV 0,eV 1,eV 2]
def aYb(y l:E):E:=eF 218 ([y,l]++lE++ai2)
def aYc(y o:E):E:=eF 219 ([y,o]++lE++ai2)
def aqM(b:Nat):SV:=.agg ((List.range 38).zip kB |>.map fun(j,c)=>match Ko.idxOf? j with
 |some i=>.nslice (b+i) (.int 0) (.int 0)
 |none=>zF c)
def aqK:List Blk:=(List.range 13).map fun i=>if i==0 then uW mQ (.int 0) (.int 0)else if i==9||i==10 then na mQ (.int 0) (.int 0) (.int 0)else if i==12 then Dr mQ (.int 0) (.int 0)else Dq mQ (.int 0) (.int 0)
def anD(n:Int)(l:List E):SV×St:=(.tup [aqM 0,ii (.int n)],⟨8,13,bp aqK,l⟩)
def a2d:Pact:=⟨8,HQ,⟨8,0,.nil,vG⟩,[anD 2 [.not (.and qg jQ)],anD 12 [uP,qg,jQ],
 (.tup [.agg (yN (eV 8) 9 0),ii (.int 0)],⟨50,13,bp (HX 9 48),[aX9,aYc (eV 8) (eV 9)]++cpT (eV 1) 9 48⟩)]⟩
def aWv(k o:Nat):List Blk:=(List.range 13).map fun i=>
 let l:=eV (k+3*i);let n:=eV (k+3*i+1);let c:=eV (k+3*i+2)
 if i==0 then uW l n c else if i==9 then na l n c (eV o)else if i==10 then na l n c (eV (o+1))else if i==12 then Dr l n c else Dq l n c
def tPo(k:Bool):Tmpl:=let L:=if k then eV 64 else mQ;⟨bo 61 [(5,bv 33),(8,bv 35),(9,ii (.int 0)),(10,if k then .nslice 34 (eV 65) (eV 66)else .nils),(38,ii (eV 69)),(39,ii (eV 109))],
  ⟨110,36,bp (List.replicate 20 gone++aWv 68 107++[⟨true,.cells (yN (eV 67) 68 20) (.int 38) 34⟩,if k then jj (eV 64) (eV 65) (eV 66)else gone,⟨true,.cells (kB.map zF) (.int 38) 34⟩]),
   vG++[qg,jQ]++cpT (eV 1) 68 107++[af (.int 0) (eV 109),af (eV 109) (eV 69),aF 191 [eV 68,cl (eV 1) 0,L,eV 109],aYb (eV 67) L] ++
   (if k then [af (.int 1) (eV 65),af (eV 65) (eV 66),af (eV 65) (.int 30),ba (ln (eV 64)) (eV 65)] else [])⟩,mi (eV 69) (eV 109)⟩
def aVY:List Ann:=[⟨8,0,[tPo true,tPo false],none⟩]
def a2s:Pact:=⟨7,[dI (eV 0)],⟨1,0,.nil,dW (eV 0)⟩,[(gX 0 (eV 1) (eV 2) (eV 3),⟨5,1,bp [uW (eV 4) (eV 2) (eV 3)],[aF 196 [eV 1,eV 0],aF 200 [eV 4,cl (eV 0) 0],ba (eV 2) fH,af (.int 0) (eV 2),af (eV 2) (eV 3)]⟩)]⟩
def aZW:List FM:=.up kO 78::yw.drop 1
def aqL:SV:=.agg (.bsl kO (.fn 30 (.int 0))::(kB.map zF).drop 1)
def a2t:Pact:=⟨11,HQ,⟨8,0,.nil,vH++[jQ]⟩,[(.tup [aqL,ii (.int 12)],⟨8,0,.nil,[uP]⟩),(.tup [dI (eV 8),ii (.int 0)],⟨9,0,.nil,[aYa,sE (eV 8),sm (eV 8)]⟩)]⟩
def tYy(k:Bool):Tmpl:=let L:=if k then eV 24 else mQ;⟨bo 51 [(5,bv 16),(8,bv 19),(9,ii (.int 0)),(10,if k then .nslice 17 (eV 25) (eV 26)else .nils),(13,ii (eV 31))],
  ⟨32,20,bp (List.replicate 16 gone++[⟨true,.cells (.nslice 18 (eV 28) (eV 29) ::(uL (eV 27) 0 kB).drop 1) (.int 38) 34⟩,if k then jj (eV 24) (eV 25) (eV 26)else gone,uW (eV 30) (eV 28) (eV 29),⟨true,.cells (kB.map zF) (.int 38) 34⟩]),
   vH++[jQ,ba (eV 28) r7,af (.int 0) (eV 28),af (eV 28) (eV 29),af (.int 0) (eV 31),af (eV 31) (if k then eV 25 else .int 0),
     aF 220 [eV 30,cl (eV 1) 0,L,eV 31],eF 199 ([eV 27,L]++lE++[eV 0,eV 1,eV 2])]++(if k then [af (.int 1) (eV 25),af (eV 25) (eV 26),af (eV 25) (.int 30),ba (ln (eV 24)) (eV 25)] else [])⟩,mi (.int 30) (eV 31)⟩
def aWb:List Ann:=[⟨11,0,[tYy true,tYy false],none⟩]
def lsX(k:Nat):List E:=(List.range 13).map fun i=>eV (k+3*i)
def a1Q:Pact:=⟨10,[.agg (yN (eV 0) 1 0),ii (eV 42),dI (eV 43),ii (eV 44),dI (eV 45),dI (eV 46)],⟨47,13,bp (HX 1 40),nf 1 40++qh 28 31++[.fn 190 (eV 28),.fn 190 (eV 31),eF 221 ([eV 43,eV 0]++lsX 1),sE (eV 43),sm (eV 43),ba (eV 42) (eV 44),sE (eV 45),sm (eV 45),aF 189 [eV 46,eV 45]]⟩,
 [(.bool (.bool true),⟨47,13,bp (List.replicate 13 gone),[]⟩)]⟩
def aoA(z:SV):Pact:=⟨10,[aqM 0,ii (eV 0),z,ii (eV 1),dI (eV 2),dI (eV 3)],⟨4,13,bp aqK,[ba (eV 0) (eV 1),sE (eV 2),sm (eV 2),aF 189 [eV 3,eV 2]]⟩,
 [(.bool (.bool true),⟨4,13,bp (List.replicate 13 gone),[]⟩)]⟩
def zNl:SV:=.agg (kB.map zF)
/-! ### the law PayPays -/
def kL:List CK:=[.int .i64,.int .i64,.int .i64,.int .i64,.int .i64]
def aWk:List SV:=[.bsl kC (eV 0),dI (eV 1),ii (eV 2),.bsl kL (eV 3)]
def SL:List E:=[sE (eV 1)]
def tM:Tmpl:=⟨bo 86 [(0,.bsl kC (eV 0)),(2,ii (eV 2)),(3,.bsl kL (eV 3)),(5,bv 16),(9,ii (eV 17))],⟨18,17,bp (List.replicate 16 gone++[oh (eV 16)]),
 [af yy (.int 12),aF 155 [eV 0,yy],af (cR 5 (eV 3)) (.int 6),af (.int 0) (eV 17),af (eV 17) (cR 5 (eV 3)),sE (eV 16),sm (eV 16)]⟩,mi (cR 5 (eV 3)) (eV 17)⟩
def aih:List Ann:=[⟨3,0,[tM],none⟩]

theorem a6M:∀F:Env,E.B F zu=true:=fun F=>rfl
structure Nl where
 l:List Nat1
 h:∀x∈l,aI Tryz.prog x
def nc{x:Nat1}(h:aI Tryz.prog x)(n:Nl):Nl:=⟨x::n.l,fun y hy=>(List.mem_cons.1 hy).elim (fun e=>e▸h) (n.h y)⟩
theorem sc{s:Pact}(f:List Fa)(a:List Ann)(n:Nl)(ms:List FM)(ha:JY a=true)(h:oX Tryz.prog (fun tb=>Tw Tryz.prog (tb.plus (fl f) a n.l) 3000 ms s)=true):aI Tryz.prog (aX s):=
 Tz good (facts:=fl f) (gU f) (anns:=a) (iE a ha) (nats:=n.l) n.h (n:=3000) (ms:=ms) h
def alo:Nl:=⟨nats,nats_ok⟩
def p0:List Fa:=[]
theorem a2v:aI Tryz.prog (aX (a6O 0)):=sc p0 ([]) alo ([]) (by kernel_rfl) (by kernel_rfl)
def alp:Nl:=nc a2v alo
def p1:List Fa:=[]
theorem a2G:aI Tryz.prog (aX (a6O 1)):=sc p1 ([]) alp ([]) (by kernel_rfl) (by kernel_rfl)
def alA:Nl:=nc a2G alp
def p2:List Fa:=[]
theorem a2R:aI Tryz.prog (aX (a6O 2)):=sc p2 ([]) alA ([]) (by kernel_rfl) (by kernel_rfl)
def alL:Nl:=nc a2R alA
def p3:List Fa:=[]
theorem a3c:aI Tryz.prog (aX (a6O 3)):=sc p3 ([]) alL ([]) (by kernel_rfl) (by kernel_rfl)
def alW:Nl:=nc a3c alL
def p4:List Fa:=[]
theorem a3n:aI Tryz.prog (aX (a1I)):=sc p4 ([]) alW ([]) (by kernel_rfl) (by kernel_rfl)
def al5:Nl:=nc a3n alW
def p5:List Fa:=[]
theorem a3y:aI Tryz.prog (aX (y8 1 0 1 [] [0,0,0,1] 0)):=sc p5 ([]) al5 ([]) (by kernel_rfl) (by kernel_rfl)
def amg:Nl:=nc a3y al5
def p6:List Fa:=[]
theorem a3J:aI Tryz.prog (aX (y8 2 0 0 [1] [0,0,0,2] 0)):=sc p6 ([]) amg ([]) (by kernel_rfl) (by kernel_rfl)
def amq:Nl:=nc a3J amg
def p7:List Fa:=[]
theorem a3U:aI Tryz.prog (aX (y8 3 0 1 [1,3] [0,0,0,1] 0)):=sc p7 ([]) amq ([]) (by kernel_rfl) (by kernel_rfl)
def amx:Nl:=nc a3U amq
def p8:List Fa:=[]
theorem a3V:aI Tryz.prog (aX (y8 2 0 4 [1,2,3] [0,0,0,0] 0)):=sc p8 ([]) amx ([]) (by kernel_rfl) (by kernel_rfl)
def amz:Nl:=nc a3V amx
def p9:List Fa:=[]
theorem a3W:aI Tryz.prog (aX (y8 0 1 4 [1,2] [0,0,0,0] 0)):=sc p9 ([]) amz ([]) (by kernel_rfl) (by kernel_rfl)
def alq:Nl:=nc a3W amz
def ao:List Fa:=[]
theorem a2w:aI Tryz.prog (aX (y8 0 2 0 [] [0,0,0,0] 12)):=sc ao ([]) alq ([]) (by kernel_rfl) (by kernel_rfl)
def alr:Nl:=nc a2w alq
def au:List Fa:=[]
theorem a2x:aI Tryz.prog (aX (a1K)):=sc au ([]) alr ([]) (by kernel_rfl) (by kernel_rfl)
def Jq:Nl:=nc a2x alr
def az:List Fa:=[]
theorem a2y:aI Tryz.prog (aX (a1J)):=sc az ([]) Jq ([]) (by kernel_rfl) (by kernel_rfl)
def als:Nl:=nc a2y Jq
def aE:List Fa:=[]
theorem a2z:aI Tryz.prog (aX (Tv 0 0 0 0 6 true)):=sc aE ([]) als ([]) (by kernel_rfl) (by kernel_rfl)
def alu:Nl:=nc a2z als
def aM:List Fa:=[]
theorem a2A:aI Tryz.prog (aX (Tv 0 0 0 0 7 false)):=sc aM ([]) alu ([]) (by kernel_rfl) (by kernel_rfl)
def alv:Nl:=nc a2A alu
def aN:List Fa:=[]
theorem a2B:aI Tryz.prog (aX (Tv 0 0 1 0 0 false)):=sc aN ([]) alv ([]) (by kernel_rfl) (by kernel_rfl)
def alw:Nl:=nc a2B alv
end
end Go.Proofs.YtnnbmcfabojjjaaGreat.payPays
