/-
  CombatBlocks: contracts of functions, part 1.
-/
import Derived.Test.YtnggbcblogpnfaaGreatRows
import Derived.Test.YtnggbcblogpnfaaGreatNat
import Derived.WalkKit
import Derived.ProofKit
import Derived.OpenShut
import Derived.ChangeOld
import Derived.Below
import Derived.KernelRfl
import Derived.Lib.SmallJoins
import Derived.Laws.IdiomArrays
namespace Go.Proofs.YtnggbcblogpnfaaGreat.combatBlocks
open Go.ChangeShapes Go.WideShapes Go.ChangeAt Go.RowKit
open Go.SX
open Go.SX.E (fn pr cmp var)
set_option linter.unusedVariables false
set_option linter.unusedSimpArgs false
set_option maxRecDepth 100000
noncomputable section
theorem own:ownKnob Tryz.prog.godebug=none:=by kernel_rfl
theorem laidOut:laidOutB Tryz.prog=true:=by kernel_rfl
theorem good:kQ Tryz.prog=true:=by kernel_rfl

theorem aGc{H:Type}:BulkOk (xE (H:=H)) tE:=aaM
theorem aNu{us:List U}(h:us.length=38)(t:U.typs us nN []=true):tC (.lst us)=true:=aFV h t

abbrev Tr(f:E):Prop:=∀F:Env,E.B F f=true
theorem ac{e:E}{l:List E}(h:Tr e)(hl:∀e∈l,Tr e):∀x∈e::l,Tr x:=all_cons h hl
structure Fa where
 e:E
 t:Tr e
def fa(e:E)(t:Tr e):Fa:=⟨e,t⟩
def ans:E->List E->E
 |a,[]=>a
 |a,b::l=>.and a (ans b l)
def cK:List E->E->E
 |[],d=>d
 |a::l,d=>.imp (ans a l) d
def fb(l:List E)(d:E)(t:Tr (cK l d)):Fa:=⟨cK l d,t⟩
def fl:List Fa->List E
 |[]=>[]
 |x::l=>x.e::fl l
theorem nG:∀l:List Fa,∀e∈fl l,Tr e
 |[],e,h=>by cases h
 |x::l,e,h=>(List.mem_cons.1 h).elim (fun h=>h▸x.t) (nG l e)
def df:Fa:=fa vw fun F=>rfl
theorem ah{a0 d:E}(h:∀F:Env,E.B F a0=true->E.B F d=true):Tr (cK [a0] d):=fun F=>by
 show E.B F (.imp a0 d)=true
 rw[bu]
 rintro p0
 exact h F p0
theorem am{a0 a1 d:E}(h:∀F:Env,E.B F a0=true->E.B F a1=true->E.B F d=true):Tr (cK [a0,a1] d):=fun F=>by
 show E.B F (.imp (.and a0 a1) d)=true
 rw[bu]
 simp only[cO]
 rintro⟨p0,p1⟩
 exact h F p0 p1
theorem aj{a0 a1 a2 d:E}(h:∀F:Env,E.B F a0=true->E.B F a1=true->E.B F a2=true->E.B F d=true):Tr (cK [a0,a1,a2] d):=fun F=>by
 show E.B F (.imp (.and a0 (.and a1 a2)) d)=true
 rw[bu]
 simp only[cO]
 rintro⟨p0,p1,p2⟩
 exact h F p0 p1 p2
theorem aw{a0 a1 a2 a3 d:E}(h:∀F:Env,E.B F a0=true->E.B F a1=true->E.B F a2=true->E.B F a3=true->E.B F d=true):Tr (cK [a0,a1,a2,a3] d):=fun F=>by
 show E.B F (.imp (.and a0 (.and a1 (.and a2 a3))) d)=true
 rw[bu]
 simp only[cO]
 rintro⟨p0,p1,p2,p3⟩
 exact h F p0 p1 p2 p3
theorem aJ{a0 a1 a2 a3 a4 d:E}(h:∀F:Env,E.B F a0=true->E.B F a1=true->E.B F a2=true->E.B F a3=true->E.B F a4=true->E.B F d=true):Tr (cK [a0,a1,a2,a3,a4] d):=fun F=>by
 show E.B F (.imp (.and a0 (.and a1 (.and a2 (.and a3 a4)))) d)=true
 rw[bu]
 simp only[cO]
 rintro⟨p0,p1,p2,p3,p4⟩
 exact h F p0 p1 p2 p3 p4
theorem bL{a0 a1 a2 a3 a4 a5 d:E}(h:∀F:Env,E.B F a0=true->E.B F a1=true->E.B F a2=true->E.B F a3=true->E.B F a4=true->E.B F a5=true->E.B F d=true):Tr (cK [a0,a1,a2,a3,a4,a5] d):=fun F=>by
 show E.B F (.imp (.and a0 (.and a1 (.and a2 (.and a3 (.and a4 a5))))) d)=true
 rw[bu]
 simp only[cO]
 rintro⟨p0,p1,p2,p3,p4,p5⟩
 exact h F p0 p1 p2 p3 p4 p5
theorem cH{a0 a1 a2 a3 a4 a5 a6 d:E}(h:∀F:Env,E.B F a0=true->E.B F a1=true->E.B F a2=true->E.B F a3=true->E.B F a4=true->E.B F a5=true->E.B F a6=true->E.B F d=true):Tr (cK [a0,a1,a2,a3,a4,a5,a6] d):=fun F=>by
 show E.B F (.imp (.and a0 (.and a1 (.and a2 (.and a3 (.and a4 (.and a5 a6)))))) d)=true
 rw[bu]
 simp only[cO]
 rintro⟨p0,p1,p2,p3,p4,p5,p6⟩
 exact h F p0 p1 p2 p3 p4 p5 p6
theorem cR{a0 a1 a2 a3 a4 a5 a6 a7 d:E}(h:∀F:Env,E.B F a0=true->E.B F a1=true->E.B F a2=true->E.B F a3=true->E.B F a4=true->E.B F a5=true->E.B F a6=true->E.B F a7=true->E.B F d=true):Tr (cK [a0,a1,a2,a3,a4,a5,a6,a7] d):=fun F=>by
 show E.B F (.imp (.and a0 (.and a1 (.and a2 (.and a3 (.and a4 (.and a5 (.and a6 a7))))))) d)=true
 rw[bu]
 simp only[cO]
 rintro⟨p0,p1,p2,p3,p4,p5,p6,p7⟩
 exact h F p0 p1 p2 p3 p4 p5 p6 p7
theorem dP{a0 a1 a2 a3 a4 a5 a6 a7 a8 d:E}(h:∀F:Env,E.B F a0=true->E.B F a1=true->E.B F a2=true->E.B F a3=true->E.B F a4=true->E.B F a5=true->E.B F a6=true->E.B F a7=true->E.B F a8=true->E.B F d=true):Tr (cK [a0,a1,a2,a3,a4,a5,a6,a7,a8] d):=fun F=>by
 show E.B F (.imp (.and a0 (.and a1 (.and a2 (.and a3 (.and a4 (.and a5 (.and a6 (.and a7 a8)))))))) d)=true
 rw[bu]
 simp only[cO]
 rintro⟨p0,p1,p2,p3,p4,p5,p6,p7,p8⟩
 exact h F p0 p1 p2 p3 p4 p5 p6 p7 p8
theorem eT{a0 a1 a2 a3 a4 a5 a6 a7 a8 a9 d:E}(h:∀F:Env,E.B F a0=true->E.B F a1=true->E.B F a2=true->E.B F a3=true->E.B F a4=true->E.B F a5=true->E.B F a6=true->E.B F a7=true->E.B F a8=true->E.B F a9=true->E.B F d=true):Tr (cK [a0,a1,a2,a3,a4,a5,a6,a7,a8,a9] d):=fun F=>by
 show E.B F (.imp (.and a0 (.and a1 (.and a2 (.and a3 (.and a4 (.and a5 (.and a6 (.and a7 (.and a8 a9))))))))) d)=true
 rw[bu]
 simp only[cO]
 rintro⟨p0,p1,p2,p3,p4,p5,p6,p7,p8,p9⟩
 exact h F p0 p1 p2 p3 p4 p5 p6 p7 p8 p9
theorem gX{a0 a1 a2 a3 a4 a5 a6 a7 a8 a9 a10 d:E}(h:∀F:Env,E.B F a0=true->E.B F a1=true->E.B F a2=true->E.B F a3=true->E.B F a4=true->E.B F a5=true->E.B F a6=true->E.B F a7=true->E.B F a8=true->E.B F a9=true->E.B F a10=true->E.B F d=true):Tr (cK [a0,a1,a2,a3,a4,a5,a6,a7,a8,a9,a10] d):=fun F=>by
 show E.B F (.imp (.and a0 (.and a1 (.and a2 (.and a3 (.and a4 (.and a5 (.and a6 (.and a7 (.and a8 (.and a9 a10)))))))))) d)=true
 rw[bu]
 simp only[cO]
 rintro⟨p0,p1,p2,p3,p4,p5,p6,p7,p8,p9,ak⟩
 exact h F p0 p1 p2 p3 p4 p5 p6 p7 p8 p9 ak
theorem jE{a0 a1 a2 a3 a4 a5 a6 a7 a8 a9 a10 a11 d:E}(h:∀F:Env,E.B F a0=true->E.B F a1=true->E.B F a2=true->E.B F a3=true->E.B F a4=true->E.B F a5=true->E.B F a6=true->E.B F a7=true->E.B F a8=true->E.B F a9=true->E.B F a10=true->E.B F a11=true->E.B F d=true):Tr (cK [a0,a1,a2,a3,a4,a5,a6,a7,a8,a9,a10,a11] d):=fun F=>by
 show E.B F (.imp (.and a0 (.and a1 (.and a2 (.and a3 (.and a4 (.and a5 (.and a6 (.and a7 (.and a8 (.and a9 (.and a10 a11))))))))))) d)=true
 rw[bu]
 simp only[cO]
 rintro⟨p0,p1,p2,p3,p4,p5,p6,p7,p8,p9,ak,ao⟩
 exact h F p0 p1 p2 p3 p4 p5 p6 p7 p8 p9 ak ao
theorem gx{a0 a1 a2 a3 a4 a5 a6 a7 a8 a9 a10 a11 a12 d:E}(h:∀F:Env,E.B F a0=true->E.B F a1=true->E.B F a2=true->E.B F a3=true->E.B F a4=true->E.B F a5=true->E.B F a6=true->E.B F a7=true->E.B F a8=true->E.B F a9=true->E.B F a10=true->E.B F a11=true->E.B F a12=true->E.B F d=true):Tr (cK [a0,a1,a2,a3,a4,a5,a6,a7,a8,a9,a10,a11,a12] d):=fun F=>by
 show E.B F (.imp (.and a0 (.and a1 (.and a2 (.and a3 (.and a4 (.and a5 (.and a6 (.and a7 (.and a8 (.and a9 (.and a10 (.and a11 a12)))))))))))) d)=true
 rw[bu]
 simp only[cO]
 rintro⟨p0,p1,p2,p3,p4,p5,p6,p7,p8,p9,ak,ao,ap⟩
 exact h F p0 p1 p2 p3 p4 p5 p6 p7 p8 p9 ak ao ap
theorem lP{a0 a1 a2 a3 a4 a5 a6 a7 a8 a9 a10 a11 a12 a13 d:E}(h:∀F:Env,E.B F a0=true->E.B F a1=true->E.B F a2=true->E.B F a3=true->E.B F a4=true->E.B F a5=true->E.B F a6=true->E.B F a7=true->E.B F a8=true->E.B F a9=true->E.B F a10=true->E.B F a11=true->E.B F a12=true->E.B F a13=true->E.B F d=true):Tr (cK [a0,a1,a2,a3,a4,a5,a6,a7,a8,a9,a10,a11,a12,a13] d):=fun F=>by
 show E.B F (.imp (.and a0 (.and a1 (.and a2 (.and a3 (.and a4 (.and a5 (.and a6 (.and a7 (.and a8 (.and a9 (.and a10 (.and a11 (.and a12 a13))))))))))))) d)=true
 rw[bu]
 simp only[cO]
 rintro⟨p0,p1,p2,p3,p4,p5,p6,p7,p8,p9,ak,ao,ap,az⟩
 exact h F p0 p1 p2 p3 p4 p5 p6 p7 p8 p9 ak ao ap az
theorem yp{a0 a1 a2 a3 a4 a5 a6 a7 a8 a9 a10 a11 a12 a13 a14 d:E}(h:∀F:Env,E.B F a0=true->E.B F a1=true->E.B F a2=true->E.B F a3=true->E.B F a4=true->E.B F a5=true->E.B F a6=true->E.B F a7=true->E.B F a8=true->E.B F a9=true->E.B F a10=true->E.B F a11=true->E.B F a12=true->E.B F a13=true->E.B F a14=true->E.B F d=true):Tr (cK [a0,a1,a2,a3,a4,a5,a6,a7,a8,a9,a10,a11,a12,a13,a14] d):=fun F=>by
 show E.B F (.imp (.and a0 (.and a1 (.and a2 (.and a3 (.and a4 (.and a5 (.and a6 (.and a7 (.and a8 (.and a9 (.and a10 (.and a11 (.and a12 (.and a13 a14)))))))))))))) d)=true
 rw[bu]
 simp only[cO]
 rintro⟨p0,p1,p2,p3,p4,p5,p6,p7,p8,p9,ak,ao,ap,az,aC⟩
 exact h F p0 p1 p2 p3 p4 p5 p6 p7 p8 p9 ak ao ap az aC
theorem jF{a0 a1 a2 a3 a4 a5 a6 a7 a8 a9 a10 a11 a12 a13 a14 a15 d:E}(h:∀F:Env,E.B F a0=true->E.B F a1=true->E.B F a2=true->E.B F a3=true->E.B F a4=true->E.B F a5=true->E.B F a6=true->E.B F a7=true->E.B F a8=true->E.B F a9=true->E.B F a10=true->E.B F a11=true->E.B F a12=true->E.B F a13=true->E.B F a14=true->E.B F a15=true->E.B F d=true):Tr (cK [a0,a1,a2,a3,a4,a5,a6,a7,a8,a9,a10,a11,a12,a13,a14,a15] d):=fun F=>by
 show E.B F (.imp (.and a0 (.and a1 (.and a2 (.and a3 (.and a4 (.and a5 (.and a6 (.and a7 (.and a8 (.and a9 (.and a10 (.and a11 (.and a12 (.and a13 (.and a14 a15))))))))))))))) d)=true
 rw[bu]
 simp only[cO]
 rintro⟨p0,p1,p2,p3,p4,p5,p6,p7,p8,p9,ak,ao,ap,az,aC,aD⟩
 exact h F p0 p1 p2 p3 p4 p5 p6 p7 p8 p9 ak ao ap az aC aD
theorem yq{a0 a1 a2 a3 a4 a5 a6 a7 a8 a9 a10 a11 a12 a13 a14 a15 a16 d:E}(h:∀F:Env,E.B F a0=true->E.B F a1=true->E.B F a2=true->E.B F a3=true->E.B F a4=true->E.B F a5=true->E.B F a6=true->E.B F a7=true->E.B F a8=true->E.B F a9=true->E.B F a10=true->E.B F a11=true->E.B F a12=true->E.B F a13=true->E.B F a14=true->E.B F a15=true->E.B F a16=true->E.B F d=true):Tr (cK [a0,a1,a2,a3,a4,a5,a6,a7,a8,a9,a10,a11,a12,a13,a14,a15,a16] d):=fun F=>by
 show E.B F (.imp (.and a0 (.and a1 (.and a2 (.and a3 (.and a4 (.and a5 (.and a6 (.and a7 (.and a8 (.and a9 (.and a10 (.and a11 (.and a12 (.and a13 (.and a14 (.and a15 a16)))))))))))))))) d)=true
 rw[bu]
 simp only[cO]
 rintro⟨p0,p1,p2,p3,p4,p5,p6,p7,p8,p9,ak,ao,ap,az,aC,aD,aR⟩
 exact h F p0 p1 p2 p3 p4 p5 p6 p7 p8 p9 ak ao ap az aC aD aR
theorem tW{a0 a1 a2 a3 a4 a5 a6 a7 a8 a9 a10 a11 a12 a13 a14 a15 a16 a17 d:E}(h:∀F:Env,E.B F a0=true->E.B F a1=true->E.B F a2=true->E.B F a3=true->E.B F a4=true->E.B F a5=true->E.B F a6=true->E.B F a7=true->E.B F a8=true->E.B F a9=true->E.B F a10=true->E.B F a11=true->E.B F a12=true->E.B F a13=true->E.B F a14=true->E.B F a15=true->E.B F a16=true->E.B F a17=true->E.B F d=true):Tr (cK [a0,a1,a2,a3,a4,a5,a6,a7,a8,a9,a10,a11,a12,a13,a14,a15,a16,a17] d):=fun F=>by
 show E.B F (.imp (.and a0 (.and a1 (.and a2 (.and a3 (.and a4 (.and a5 (.and a6 (.and a7 (.and a8 (.and a9 (.and a10 (.and a11 (.and a12 (.and a13 (.and a14 (.and a15 (.and a16 a17))))))))))))))))) d)=true
 rw[bu]
 simp only[cO]
 rintro⟨p0,p1,p2,p3,p4,p5,p6,p7,p8,p9,ak,ao,ap,az,aC,aD,aR,aZ⟩
 exact h F p0 p1 p2 p3 p4 p5 p6 p7 p8 p9 ak ao ap az aC aD aR aZ
theorem tX{a0 a1 a2 a3 a4 a5 a6 a7 a8 a9 a10 a11 a12 a13 a14 a15 a16 a17 a18 d:E}(h:∀F:Env,E.B F a0=true->E.B F a1=true->E.B F a2=true->E.B F a3=true->E.B F a4=true->E.B F a5=true->E.B F a6=true->E.B F a7=true->E.B F a8=true->E.B F a9=true->E.B F a10=true->E.B F a11=true->E.B F a12=true->E.B F a13=true->E.B F a14=true->E.B F a15=true->E.B F a16=true->E.B F a17=true->E.B F a18=true->E.B F d=true):Tr (cK [a0,a1,a2,a3,a4,a5,a6,a7,a8,a9,a10,a11,a12,a13,a14,a15,a16,a17,a18] d):=fun F=>by
 show E.B F (.imp (.and a0 (.and a1 (.and a2 (.and a3 (.and a4 (.and a5 (.and a6 (.and a7 (.and a8 (.and a9 (.and a10 (.and a11 (.and a12 (.and a13 (.and a14 (.and a15 (.and a16 (.and a17 a18)))))))))))))))))) d)=true
 rw[bu]
 simp only[cO]
 rintro⟨p0,p1,p2,p3,p4,p5,p6,p7,p8,p9,ak,ao,ap,az,aC,aD,aR,aZ,bl⟩
 exact h F p0 p1 p2 p3 p4 p5 p6 p7 p8 p9 ak ao ap az aC aD aR aZ bl
theorem Ea{a0 a1 a2 a3 a4 a5 a6 a7 a8 a9 a10 a11 a12 a13 a14 a15 a16 a17 a18 a19 d:E}(h:∀F:Env,E.B F a0=true->E.B F a1=true->E.B F a2=true->E.B F a3=true->E.B F a4=true->E.B F a5=true->E.B F a6=true->E.B F a7=true->E.B F a8=true->E.B F a9=true->E.B F a10=true->E.B F a11=true->E.B F a12=true->E.B F a13=true->E.B F a14=true->E.B F a15=true->E.B F a16=true->E.B F a17=true->E.B F a18=true->E.B F a19=true->E.B F d=true):Tr (cK [a0,a1,a2,a3,a4,a5,a6,a7,a8,a9,a10,a11,a12,a13,a14,a15,a16,a17,a18,a19] d):=fun F=>by
 show E.B F (.imp (.and a0 (.and a1 (.and a2 (.and a3 (.and a4 (.and a5 (.and a6 (.and a7 (.and a8 (.and a9 (.and a10 (.and a11 (.and a12 (.and a13 (.and a14 (.and a15 (.and a16 (.and a17 (.and a18 a19))))))))))))))))))) d)=true
 rw[bu]
 simp only[cO]
 rintro⟨p0,p1,p2,p3,p4,p5,p6,p7,p8,p9,ak,ao,ap,az,aC,aD,aR,aZ,bl,bE⟩
 exact h F p0 p1 p2 p3 p4 p5 p6 p7 p8 p9 ak ao ap az aC aD aR aZ bl bE
theorem Eb{a0 a1 a2 a3 a4 a5 a6 a7 a8 a9 a10 a11 a12 a13 a14 a15 a16 a17 a18 a19 a20 d:E}(h:∀F:Env,E.B F a0=true->E.B F a1=true->E.B F a2=true->E.B F a3=true->E.B F a4=true->E.B F a5=true->E.B F a6=true->E.B F a7=true->E.B F a8=true->E.B F a9=true->E.B F a10=true->E.B F a11=true->E.B F a12=true->E.B F a13=true->E.B F a14=true->E.B F a15=true->E.B F a16=true->E.B F a17=true->E.B F a18=true->E.B F a19=true->E.B F a20=true->E.B F d=true):Tr (cK [a0,a1,a2,a3,a4,a5,a6,a7,a8,a9,a10,a11,a12,a13,a14,a15,a16,a17,a18,a19,a20] d):=fun F=>by
 show E.B F (.imp (.and a0 (.and a1 (.and a2 (.and a3 (.and a4 (.and a5 (.and a6 (.and a7 (.and a8 (.and a9 (.and a10 (.and a11 (.and a12 (.and a13 (.and a14 (.and a15 (.and a16 (.and a17 (.and a18 (.and a19 a20)))))))))))))))))))) d)=true
 rw[bu]
 simp only[cO]
 rintro⟨p0,p1,p2,p3,p4,p5,p6,p7,p8,p9,ak,ao,ap,az,aC,aD,aR,aZ,bl,bE,bO⟩
 exact h F p0 p1 p2 p3 p4 p5 p6 p7 p8 p9 ak ao ap az aC aD aR aZ bl bE bO
theorem aHr{a0 a1 a2 a3 a4 a5 a6 a7 a8 a9 a10 a11 a12 a13 a14 a15 a16 a17 a18 a19 a20 a21 d:E}(h:∀F:Env,E.B F a0=true->E.B F a1=true->E.B F a2=true->E.B F a3=true->E.B F a4=true->E.B F a5=true->E.B F a6=true->E.B F a7=true->E.B F a8=true->E.B F a9=true->E.B F a10=true->E.B F a11=true->E.B F a12=true->E.B F a13=true->E.B F a14=true->E.B F a15=true->E.B F a16=true->E.B F a17=true->E.B F a18=true->E.B F a19=true->E.B F a20=true->E.B F a21=true->E.B F d=true):Tr (cK [a0,a1,a2,a3,a4,a5,a6,a7,a8,a9,a10,a11,a12,a13,a14,a15,a16,a17,a18,a19,a20,a21] d):=fun F=>by
 show E.B F (.imp (.and a0 (.and a1 (.and a2 (.and a3 (.and a4 (.and a5 (.and a6 (.and a7 (.and a8 (.and a9 (.and a10 (.and a11 (.and a12 (.and a13 (.and a14 (.and a15 (.and a16 (.and a17 (.and a18 (.and a19 (.and a20 a21))))))))))))))))))))) d)=true
 rw[bu]
 simp only[cO]
 rintro⟨p0,p1,p2,p3,p4,p5,p6,p7,p8,p9,ak,ao,ap,az,aC,aD,aR,aZ,bl,bE,bO,bZ⟩
 exact h F p0 p1 p2 p3 p4 p5 p6 p7 p8 p9 ak ao ap az aC aD aR aZ bl bE bO bZ
theorem aHs{a0 a1 a2 a3 a4 a5 a6 a7 a8 a9 a10 a11 a12 a13 a14 a15 a16 a17 a18 a19 a20 a21 a22 d:E}(h:∀F:Env,E.B F a0=true->E.B F a1=true->E.B F a2=true->E.B F a3=true->E.B F a4=true->E.B F a5=true->E.B F a6=true->E.B F a7=true->E.B F a8=true->E.B F a9=true->E.B F a10=true->E.B F a11=true->E.B F a12=true->E.B F a13=true->E.B F a14=true->E.B F a15=true->E.B F a16=true->E.B F a17=true->E.B F a18=true->E.B F a19=true->E.B F a20=true->E.B F a21=true->E.B F a22=true->E.B F d=true):Tr (cK [a0,a1,a2,a3,a4,a5,a6,a7,a8,a9,a10,a11,a12,a13,a14,a15,a16,a17,a18,a19,a20,a21,a22] d):=fun F=>by
 show E.B F (.imp (.and a0 (.and a1 (.and a2 (.and a3 (.and a4 (.and a5 (.and a6 (.and a7 (.and a8 (.and a9 (.and a10 (.and a11 (.and a12 (.and a13 (.and a14 (.and a15 (.and a16 (.and a17 (.and a18 (.and a19 (.and a20 (.and a21 a22)))))))))))))))))))))) d)=true
 rw[bu]
 simp only[cO]
 rintro⟨p0,p1,p2,p3,p4,p5,p6,p7,p8,p9,ak,ao,ap,az,aC,aD,aR,aZ,bl,bE,bO,bZ,ch⟩
 exact h F p0 p1 p2 p3 p4 p5 p6 p7 p8 p9 ak ao ap az aC aD aR aZ bl bE bO bZ ch
theorem LI{a0 a1 a2 a3 a4 a5 a6 a7 a8 a9 a10 a11 a12 a13 a14 a15 a16 a17 a18 a19 a20 a21 a22 a23 d:E}(h:∀F:Env,E.B F a0=true->E.B F a1=true->E.B F a2=true->E.B F a3=true->E.B F a4=true->E.B F a5=true->E.B F a6=true->E.B F a7=true->E.B F a8=true->E.B F a9=true->E.B F a10=true->E.B F a11=true->E.B F a12=true->E.B F a13=true->E.B F a14=true->E.B F a15=true->E.B F a16=true->E.B F a17=true->E.B F a18=true->E.B F a19=true->E.B F a20=true->E.B F a21=true->E.B F a22=true->E.B F a23=true->E.B F d=true):Tr (cK [a0,a1,a2,a3,a4,a5,a6,a7,a8,a9,a10,a11,a12,a13,a14,a15,a16,a17,a18,a19,a20,a21,a22,a23] d):=fun F=>by
 show E.B F (.imp (.and a0 (.and a1 (.and a2 (.and a3 (.and a4 (.and a5 (.and a6 (.and a7 (.and a8 (.and a9 (.and a10 (.and a11 (.and a12 (.and a13 (.and a14 (.and a15 (.and a16 (.and a17 (.and a18 (.and a19 (.and a20 (.and a21 (.and a22 a23))))))))))))))))))))))) d)=true
 rw[bu]
 simp only[cO]
 rintro⟨p0,p1,p2,p3,p4,p5,p6,p7,p8,p9,ak,ao,ap,az,aC,aD,aR,aZ,bl,bE,bO,bZ,ch,cp⟩
 exact h F p0 p1 p2 p3 p4 p5 p6 p7 p8 p9 ak ao ap az aC aD aR aZ bl bE bO bZ ch cp
theorem acB{a0 a1 a2 a3 a4 a5 a6 a7 a8 a9 a10 a11 a12 a13 a14 a15 a16 a17 a18 a19 a20 a21 a22 a23 a24 d:E}(h:∀F:Env,E.B F a0=true->E.B F a1=true->E.B F a2=true->E.B F a3=true->E.B F a4=true->E.B F a5=true->E.B F a6=true->E.B F a7=true->E.B F a8=true->E.B F a9=true->E.B F a10=true->E.B F a11=true->E.B F a12=true->E.B F a13=true->E.B F a14=true->E.B F a15=true->E.B F a16=true->E.B F a17=true->E.B F a18=true->E.B F a19=true->E.B F a20=true->E.B F a21=true->E.B F a22=true->E.B F a23=true->E.B F a24=true->E.B F d=true):Tr (cK [a0,a1,a2,a3,a4,a5,a6,a7,a8,a9,a10,a11,a12,a13,a14,a15,a16,a17,a18,a19,a20,a21,a22,a23,a24] d):=fun F=>by
 show E.B F (.imp (.and a0 (.and a1 (.and a2 (.and a3 (.and a4 (.and a5 (.and a6 (.and a7 (.and a8 (.and a9 (.and a10 (.and a11 (.and a12 (.and a13 (.and a14 (.and a15 (.and a16 (.and a17 (.and a18 (.and a19 (.and a20 (.and a21 (.and a22 (.and a23 a24)))))))))))))))))))))))) d)=true
 rw[bu]
 simp only[cO]
 rintro⟨p0,p1,p2,p3,p4,p5,p6,p7,p8,p9,ak,ao,ap,az,aC,aD,aR,aZ,bl,bE,bO,bZ,ch,cp,cN⟩
 exact h F p0 p1 p2 p3 p4 p5 p6 p7 p8 p9 ak ao ap az aC aD aR aZ bl bE bO bZ ch cp cN
theorem acC{a0 a1 a2 a3 a4 a5 a6 a7 a8 a9 a10 a11 a12 a13 a14 a15 a16 a17 a18 a19 a20 a21 a22 a23 a24 a25 d:E}(h:∀F:Env,E.B F a0=true->E.B F a1=true->E.B F a2=true->E.B F a3=true->E.B F a4=true->E.B F a5=true->E.B F a6=true->E.B F a7=true->E.B F a8=true->E.B F a9=true->E.B F a10=true->E.B F a11=true->E.B F a12=true->E.B F a13=true->E.B F a14=true->E.B F a15=true->E.B F a16=true->E.B F a17=true->E.B F a18=true->E.B F a19=true->E.B F a20=true->E.B F a21=true->E.B F a22=true->E.B F a23=true->E.B F a24=true->E.B F a25=true->E.B F d=true):Tr (cK [a0,a1,a2,a3,a4,a5,a6,a7,a8,a9,a10,a11,a12,a13,a14,a15,a16,a17,a18,a19,a20,a21,a22,a23,a24,a25] d):=fun F=>by
 show E.B F (.imp (.and a0 (.and a1 (.and a2 (.and a3 (.and a4 (.and a5 (.and a6 (.and a7 (.and a8 (.and a9 (.and a10 (.and a11 (.and a12 (.and a13 (.and a14 (.and a15 (.and a16 (.and a17 (.and a18 (.and a19 (.and a20 (.and a21 (.and a22 (.and a23 (.and a24 a25))))))))))))))))))))))))) d)=true
 rw[bu]
 simp only[cO]
 rintro⟨p0,p1,p2,p3,p4,p5,p6,p7,p8,p9,ak,ao,ap,az,aC,aD,aR,aZ,bl,bE,bO,bZ,ch,cp,cN,dd⟩
 exact h F p0 p1 p2 p3 p4 p5 p6 p7 p8 p9 ak ao ap az aC aD aR aZ bl bE bO bZ ch cp cN dd
theorem acD{a0 a1 a2 a3 a4 a5 a6 a7 a8 a9 a10 a11 a12 a13 a14 a15 a16 a17 a18 a19 a20 a21 a22 a23 a24 a25 a26 d:E}(h:∀F:Env,E.B F a0=true->E.B F a1=true->E.B F a2=true->E.B F a3=true->E.B F a4=true->E.B F a5=true->E.B F a6=true->E.B F a7=true->E.B F a8=true->E.B F a9=true->E.B F a10=true->E.B F a11=true->E.B F a12=true->E.B F a13=true->E.B F a14=true->E.B F a15=true->E.B F a16=true->E.B F a17=true->E.B F a18=true->E.B F a19=true->E.B F a20=true->E.B F a21=true->E.B F a22=true->E.B F a23=true->E.B F a24=true->E.B F a25=true->E.B F a26=true->E.B F d=true):Tr (cK [a0,a1,a2,a3,a4,a5,a6,a7,a8,a9,a10,a11,a12,a13,a14,a15,a16,a17,a18,a19,a20,a21,a22,a23,a24,a25,a26] d):=fun F=>by
 show E.B F (.imp (.and a0 (.and a1 (.and a2 (.and a3 (.and a4 (.and a5 (.and a6 (.and a7 (.and a8 (.and a9 (.and a10 (.and a11 (.and a12 (.and a13 (.and a14 (.and a15 (.and a16 (.and a17 (.and a18 (.and a19 (.and a20 (.and a21 (.and a22 (.and a23 (.and a24 (.and a25 a26)))))))))))))))))))))))))) d)=true
 rw[bu]
 simp only[cO]
 rintro⟨p0,p1,p2,p3,p4,p5,p6,p7,p8,p9,ak,ao,ap,az,aC,aD,aR,aZ,bl,bE,bO,bZ,ch,cp,cN,dd,dE⟩
 exact h F p0 p1 p2 p3 p4 p5 p6 p7 p8 p9 ak ao ap az aC aD aR aZ bl bE bO bZ ch cp cN dd dE
theorem aHt{a0 a1 a2 a3 a4 a5 a6 a7 a8 a9 a10 a11 a12 a13 a14 a15 a16 a17 a18 a19 a20 a21 a22 a23 a24 a25 a26 a27 d:E}(h:∀F:Env,E.B F a0=true->E.B F a1=true->E.B F a2=true->E.B F a3=true->E.B F a4=true->E.B F a5=true->E.B F a6=true->E.B F a7=true->E.B F a8=true->E.B F a9=true->E.B F a10=true->E.B F a11=true->E.B F a12=true->E.B F a13=true->E.B F a14=true->E.B F a15=true->E.B F a16=true->E.B F a17=true->E.B F a18=true->E.B F a19=true->E.B F a20=true->E.B F a21=true->E.B F a22=true->E.B F a23=true->E.B F a24=true->E.B F a25=true->E.B F a26=true->E.B F a27=true->E.B F d=true):Tr (cK [a0,a1,a2,a3,a4,a5,a6,a7,a8,a9,a10,a11,a12,a13,a14,a15,a16,a17,a18,a19,a20,a21,a22,a23,a24,a25,a26,a27] d):=fun F=>by
 show E.B F (.imp (.and a0 (.and a1 (.and a2 (.and a3 (.and a4 (.and a5 (.and a6 (.and a7 (.and a8 (.and a9 (.and a10 (.and a11 (.and a12 (.and a13 (.and a14 (.and a15 (.and a16 (.and a17 (.and a18 (.and a19 (.and a20 (.and a21 (.and a22 (.and a23 (.and a24 (.and a25 (.and a26 a27))))))))))))))))))))))))))) d)=true
 rw[bu]
 simp only[cO]
 rintro⟨p0,p1,p2,p3,p4,p5,p6,p7,p8,p9,ak,ao,ap,az,aC,aD,aR,aZ,bl,bE,bO,bZ,ch,cp,cN,dd,dE,d5⟩
 exact h F p0 p1 p2 p3 p4 p5 p6 p7 p8 p9 ak ao ap az aC aD aR aZ bl bE bO bZ ch cp cN dd dE d5
theorem aHu{a0 a1 a2 a3 a4 a5 a6 a7 a8 a9 a10 a11 a12 a13 a14 a15 a16 a17 a18 a19 a20 a21 a22 a23 a24 a25 a26 a27 a28 d:E}(h:∀F:Env,E.B F a0=true->E.B F a1=true->E.B F a2=true->E.B F a3=true->E.B F a4=true->E.B F a5=true->E.B F a6=true->E.B F a7=true->E.B F a8=true->E.B F a9=true->E.B F a10=true->E.B F a11=true->E.B F a12=true->E.B F a13=true->E.B F a14=true->E.B F a15=true->E.B F a16=true->E.B F a17=true->E.B F a18=true->E.B F a19=true->E.B F a20=true->E.B F a21=true->E.B F a22=true->E.B F a23=true->E.B F a24=true->E.B F a25=true->E.B F a26=true->E.B F a27=true->E.B F a28=true->E.B F d=true):Tr (cK [a0,a1,a2,a3,a4,a5,a6,a7,a8,a9,a10,a11,a12,a13,a14,a15,a16,a17,a18,a19,a20,a21,a22,a23,a24,a25,a26,a27,a28] d):=fun F=>by
 show E.B F (.imp (.and a0 (.and a1 (.and a2 (.and a3 (.and a4 (.and a5 (.and a6 (.and a7 (.and a8 (.and a9 (.and a10 (.and a11 (.and a12 (.and a13 (.and a14 (.and a15 (.and a16 (.and a17 (.and a18 (.and a19 (.and a20 (.and a21 (.and a22 (.and a23 (.and a24 (.and a25 (.and a26 (.and a27 a28)))))))))))))))))))))))))))) d)=true
 rw[bu]
 simp only[cO]
 rintro⟨p0,p1,p2,p3,p4,p5,p6,p7,p8,p9,ak,ao,ap,az,aC,aD,aR,aZ,bl,bE,bO,bZ,ch,cp,cN,dd,dE,d5,eK⟩
 exact h F p0 p1 p2 p3 p4 p5 p6 p7 p8 p9 ak ao ap az aC aD aR aZ bl bE bO bZ ch cp cN dd dE d5 eK
theorem aHv{a0 a1 a2 a3 a4 a5 a6 a7 a8 a9 a10 a11 a12 a13 a14 a15 a16 a17 a18 a19 a20 a21 a22 a23 a24 a25 a26 a27 a28 a29 d:E}(h:∀F:Env,E.B F a0=true->E.B F a1=true->E.B F a2=true->E.B F a3=true->E.B F a4=true->E.B F a5=true->E.B F a6=true->E.B F a7=true->E.B F a8=true->E.B F a9=true->E.B F a10=true->E.B F a11=true->E.B F a12=true->E.B F a13=true->E.B F a14=true->E.B F a15=true->E.B F a16=true->E.B F a17=true->E.B F a18=true->E.B F a19=true->E.B F a20=true->E.B F a21=true->E.B F a22=true->E.B F a23=true->E.B F a24=true->E.B F a25=true->E.B F a26=true->E.B F a27=true->E.B F a28=true->E.B F a29=true->E.B F d=true):Tr (cK [a0,a1,a2,a3,a4,a5,a6,a7,a8,a9,a10,a11,a12,a13,a14,a15,a16,a17,a18,a19,a20,a21,a22,a23,a24,a25,a26,a27,a28,a29] d):=fun F=>by
 show E.B F (.imp (.and a0 (.and a1 (.and a2 (.and a3 (.and a4 (.and a5 (.and a6 (.and a7 (.and a8 (.and a9 (.and a10 (.and a11 (.and a12 (.and a13 (.and a14 (.and a15 (.and a16 (.and a17 (.and a18 (.and a19 (.and a20 (.and a21 (.and a22 (.and a23 (.and a24 (.and a25 (.and a26 (.and a27 (.and a28 a29))))))))))))))))))))))))))))) d)=true
 rw[bu]
 simp only[cO]
 rintro⟨p0,p1,p2,p3,p4,p5,p6,p7,p8,p9,ak,ao,ap,az,aC,aD,aR,aZ,bl,bE,bO,bZ,ch,cp,cN,dd,dE,d5,eK,fD⟩
 exact h F p0 p1 p2 p3 p4 p5 p6 p7 p8 p9 ak ao ap az aC aD aR aZ bl bE bO bZ ch cp cN dd dE d5 eK fD
theorem aHw{a0 a1 a2 a3 a4 a5 a6 a7 a8 a9 a10 a11 a12 a13 a14 a15 a16 a17 a18 a19 a20 a21 a22 a23 a24 a25 a26 a27 a28 a29 a30 d:E}(h:∀F:Env,E.B F a0=true->E.B F a1=true->E.B F a2=true->E.B F a3=true->E.B F a4=true->E.B F a5=true->E.B F a6=true->E.B F a7=true->E.B F a8=true->E.B F a9=true->E.B F a10=true->E.B F a11=true->E.B F a12=true->E.B F a13=true->E.B F a14=true->E.B F a15=true->E.B F a16=true->E.B F a17=true->E.B F a18=true->E.B F a19=true->E.B F a20=true->E.B F a21=true->E.B F a22=true->E.B F a23=true->E.B F a24=true->E.B F a25=true->E.B F a26=true->E.B F a27=true->E.B F a28=true->E.B F a29=true->E.B F a30=true->E.B F d=true):Tr (cK [a0,a1,a2,a3,a4,a5,a6,a7,a8,a9,a10,a11,a12,a13,a14,a15,a16,a17,a18,a19,a20,a21,a22,a23,a24,a25,a26,a27,a28,a29,a30] d):=fun F=>by
 show E.B F (.imp (.and a0 (.and a1 (.and a2 (.and a3 (.and a4 (.and a5 (.and a6 (.and a7 (.and a8 (.and a9 (.and a10 (.and a11 (.and a12 (.and a13 (.and a14 (.and a15 (.and a16 (.and a17 (.and a18 (.and a19 (.and a20 (.and a21 (.and a22 (.and a23 (.and a24 (.and a25 (.and a26 (.and a27 (.and a28 (.and a29 a30)))))))))))))))))))))))))))))) d)=true
 rw[bu]
 simp only[cO]
 rintro⟨p0,p1,p2,p3,p4,p5,p6,p7,p8,p9,ak,ao,ap,az,aC,aD,aR,aZ,bl,bE,bO,bZ,ch,cp,cN,dd,dE,d5,eK,fD,gG⟩
 exact h F p0 p1 p2 p3 p4 p5 p6 p7 p8 p9 ak ao ap az aC aD aR aZ bl bE bO bZ ch cp cN dd dE d5 eK fD gG
theorem aHx{a0 a1 a2 a3 a4 a5 a6 a7 a8 a9 a10 a11 a12 a13 a14 a15 a16 a17 a18 a19 a20 a21 a22 a23 a24 a25 a26 a27 a28 a29 a30 a31 a32 d:E}(h:∀F:Env,E.B F a0=true->E.B F a1=true->E.B F a2=true->E.B F a3=true->E.B F a4=true->E.B F a5=true->E.B F a6=true->E.B F a7=true->E.B F a8=true->E.B F a9=true->E.B F a10=true->E.B F a11=true->E.B F a12=true->E.B F a13=true->E.B F a14=true->E.B F a15=true->E.B F a16=true->E.B F a17=true->E.B F a18=true->E.B F a19=true->E.B F a20=true->E.B F a21=true->E.B F a22=true->E.B F a23=true->E.B F a24=true->E.B F a25=true->E.B F a26=true->E.B F a27=true->E.B F a28=true->E.B F a29=true->E.B F a30=true->E.B F a31=true->E.B F a32=true->E.B F d=true):Tr (cK [a0,a1,a2,a3,a4,a5,a6,a7,a8,a9,a10,a11,a12,a13,a14,a15,a16,a17,a18,a19,a20,a21,a22,a23,a24,a25,a26,a27,a28,a29,a30,a31,a32] d):=fun F=>by
 show E.B F (.imp (.and a0 (.and a1 (.and a2 (.and a3 (.and a4 (.and a5 (.and a6 (.and a7 (.and a8 (.and a9 (.and a10 (.and a11 (.and a12 (.and a13 (.and a14 (.and a15 (.and a16 (.and a17 (.and a18 (.and a19 (.and a20 (.and a21 (.and a22 (.and a23 (.and a24 (.and a25 (.and a26 (.and a27 (.and a28 (.and a29 (.and a30 (.and a31 a32)))))))))))))))))))))))))))))))) d)=true
 rw[bu]
 simp only[cO]
 rintro⟨p0,p1,p2,p3,p4,p5,p6,p7,p8,p9,ak,ao,ap,az,aC,aD,aR,aZ,bl,bE,bO,bZ,ch,cp,cN,dd,dE,d5,eK,fD,gG,jb,iE⟩
 exact h F p0 p1 p2 p3 p4 p5 p6 p7 p8 p9 ak ao ap az aC aD aR aZ bl bE bO bZ ch cp cN dd dE d5 eK fD gG jb iE
theorem aHy{a0 a1 a2 a3 a4 a5 a6 a7 a8 a9 a10 a11 a12 a13 a14 a15 a16 a17 a18 a19 a20 a21 a22 a23 a24 a25 a26 a27 a28 a29 a30 a31 a32 a33 a34 d:E}(h:∀F:Env,E.B F a0=true->E.B F a1=true->E.B F a2=true->E.B F a3=true->E.B F a4=true->E.B F a5=true->E.B F a6=true->E.B F a7=true->E.B F a8=true->E.B F a9=true->E.B F a10=true->E.B F a11=true->E.B F a12=true->E.B F a13=true->E.B F a14=true->E.B F a15=true->E.B F a16=true->E.B F a17=true->E.B F a18=true->E.B F a19=true->E.B F a20=true->E.B F a21=true->E.B F a22=true->E.B F a23=true->E.B F a24=true->E.B F a25=true->E.B F a26=true->E.B F a27=true->E.B F a28=true->E.B F a29=true->E.B F a30=true->E.B F a31=true->E.B F a32=true->E.B F a33=true->E.B F a34=true->E.B F d=true):Tr (cK [a0,a1,a2,a3,a4,a5,a6,a7,a8,a9,a10,a11,a12,a13,a14,a15,a16,a17,a18,a19,a20,a21,a22,a23,a24,a25,a26,a27,a28,a29,a30,a31,a32,a33,a34] d):=fun F=>by
 show E.B F (.imp (.and a0 (.and a1 (.and a2 (.and a3 (.and a4 (.and a5 (.and a6 (.and a7 (.and a8 (.and a9 (.and a10 (.and a11 (.and a12 (.and a13 (.and a14 (.and a15 (.and a16 (.and a17 (.and a18 (.and a19 (.and a20 (.and a21 (.and a22 (.and a23 (.and a24 (.and a25 (.and a26 (.and a27 (.and a28 (.and a29 (.and a30 (.and a31 (.and a32 (.and a33 a34)))))))))))))))))))))))))))))))))) d)=true
 rw[bu]
 simp only[cO]
 rintro⟨p0,p1,p2,p3,p4,p5,p6,p7,p8,p9,ak,ao,ap,az,aC,aD,aR,aZ,bl,bE,bO,bZ,ch,cp,cN,dd,dE,d5,eK,fD,gG,jb,iE,lV,lW⟩
 exact h F p0 p1 p2 p3 p4 p5 p6 p7 p8 p9 ak ao ap az aC aD aR aZ bl bE bO bZ ch cp cN dd dE d5 eK fD gG jb iE lV lW
theorem aHz{a0 a1 a2 a3 a4 a5 a6 a7 a8 a9 a10 a11 a12 a13 a14 a15 a16 a17 a18 a19 a20 a21 a22 a23 a24 a25 a26 a27 a28 a29 a30 a31 a32 a33 a34 a35 a36 a37 a38 a39 a40 a41 a42 a43 a44 d:E}(h:∀F:Env,E.B F a0=true->E.B F a1=true->E.B F a2=true->E.B F a3=true->E.B F a4=true->E.B F a5=true->E.B F a6=true->E.B F a7=true->E.B F a8=true->E.B F a9=true->E.B F a10=true->E.B F a11=true->E.B F a12=true->E.B F a13=true->E.B F a14=true->E.B F a15=true->E.B F a16=true->E.B F a17=true->E.B F a18=true->E.B F a19=true->E.B F a20=true->E.B F a21=true->E.B F a22=true->E.B F a23=true->E.B F a24=true->E.B F a25=true->E.B F a26=true->E.B F a27=true->E.B F a28=true->E.B F a29=true->E.B F a30=true->E.B F a31=true->E.B F a32=true->E.B F a33=true->E.B F a34=true->E.B F a35=true->E.B F a36=true->E.B F a37=true->E.B F a38=true->E.B F a39=true->E.B F a40=true->E.B F a41=true->E.B F a42=true->E.B F a43=true->E.B F a44=true->E.B F d=true):Tr (cK [a0,a1,a2,a3,a4,a5,a6,a7,a8,a9,a10,a11,a12,a13,a14,a15,a16,a17,a18,a19,a20,a21,a22,a23,a24,a25,a26,a27,a28,a29,a30,a31,a32,a33,a34,a35,a36,a37,a38,a39,a40,a41,a42,a43,a44] d):=fun F=>by
 show E.B F (.imp (.and a0 (.and a1 (.and a2 (.and a3 (.and a4 (.and a5 (.and a6 (.and a7 (.and a8 (.and a9 (.and a10 (.and a11 (.and a12 (.and a13 (.and a14 (.and a15 (.and a16 (.and a17 (.and a18 (.and a19 (.and a20 (.and a21 (.and a22 (.and a23 (.and a24 (.and a25 (.and a26 (.and a27 (.and a28 (.and a29 (.and a30 (.and a31 (.and a32 (.and a33 (.and a34 (.and a35 (.and a36 (.and a37 (.and a38 (.and a39 (.and a40 (.and a41 (.and a42 (.and a43 a44)))))))))))))))))))))))))))))))))))))))))))) d)=true
 rw[bu]
 simp only[cO]
 rintro⟨p0,p1,p2,p3,p4,p5,p6,p7,p8,p9,ak,ao,ap,az,aC,aD,aR,aZ,bl,bE,bO,bZ,ch,cp,cN,dd,dE,d5,eK,fD,gG,jb,iE,lV,lW,rM,rN,rO,rP,rQ,rR,rS,rU,rV,pA⟩
 exact h F p0 p1 p2 p3 p4 p5 p6 p7 p8 p9 ak ao ap az aC aD aR aZ bl bE bO bZ ch cp cN dd dE d5 eK fD gG jb iE lV lW rM rN rO rP rQ rR rS rU rV pA
theorem aHA{a0 a1 a2 a3 a4 a5 a6 a7 a8 a9 a10 a11 a12 a13 a14 a15 a16 a17 a18 a19 a20 a21 a22 a23 a24 a25 a26 a27 a28 a29 a30 a31 a32 a33 a34 a35 a36 a37 a38 a39 a40 a41 a42 a43 a44 a45 d:E}(h:∀F:Env,E.B F a0=true->E.B F a1=true->E.B F a2=true->E.B F a3=true->E.B F a4=true->E.B F a5=true->E.B F a6=true->E.B F a7=true->E.B F a8=true->E.B F a9=true->E.B F a10=true->E.B F a11=true->E.B F a12=true->E.B F a13=true->E.B F a14=true->E.B F a15=true->E.B F a16=true->E.B F a17=true->E.B F a18=true->E.B F a19=true->E.B F a20=true->E.B F a21=true->E.B F a22=true->E.B F a23=true->E.B F a24=true->E.B F a25=true->E.B F a26=true->E.B F a27=true->E.B F a28=true->E.B F a29=true->E.B F a30=true->E.B F a31=true->E.B F a32=true->E.B F a33=true->E.B F a34=true->E.B F a35=true->E.B F a36=true->E.B F a37=true->E.B F a38=true->E.B F a39=true->E.B F a40=true->E.B F a41=true->E.B F a42=true->E.B F a43=true->E.B F a44=true->E.B F a45=true->E.B F d=true):Tr (cK [a0,a1,a2,a3,a4,a5,a6,a7,a8,a9,a10,a11,a12,a13,a14,a15,a16,a17,a18,a19,a20,a21,a22,a23,a24,a25,a26,a27,a28,a29,a30,a31,a32,a33,a34,a35,a36,a37,a38,a39,a40,a41,a42,a43,a44,a45] d):=fun F=>by
 show E.B F (.imp (.and a0 (.and a1 (.and a2 (.and a3 (.and a4 (.and a5 (.and a6 (.and a7 (.and a8 (.and a9 (.and a10 (.and a11 (.and a12 (.and a13 (.and a14 (.and a15 (.and a16 (.and a17 (.and a18 (.and a19 (.and a20 (.and a21 (.and a22 (.and a23 (.and a24 (.and a25 (.and a26 (.and a27 (.and a28 (.and a29 (.and a30 (.and a31 (.and a32 (.and a33 (.and a34 (.and a35 (.and a36 (.and a37 (.and a38 (.and a39 (.and a40 (.and a41 (.and a42 (.and a43 (.and a44 a45))))))))))))))))))))))))))))))))))))))))))))) d)=true
 rw[bu]
 simp only[cO]
 rintro⟨p0,p1,p2,p3,p4,p5,p6,p7,p8,p9,ak,ao,ap,az,aC,aD,aR,aZ,bl,bE,bO,bZ,ch,cp,cN,dd,dE,d5,eK,fD,gG,jb,iE,lV,lW,rM,rN,rO,rP,rQ,rR,rS,rU,rV,pA,E9⟩
 exact h F p0 p1 p2 p3 p4 p5 p6 p7 p8 p9 ak ao ap az aC aD aR aZ bl bE bO bZ ch cp cN dd dE d5 eK fD gG jb iE lV lW rM rN rO rP rQ rR rS rU rV pA E9
def ii(e:E):SV:=.int .i64 e
def gone:Blk:=⟨true,.gone⟩
def bS(b:Nat):SV:=.ptr b ⟨0,0,.int 0⟩
def bn(a b:E):E:=.cmp .eql a b
def pl(a b:E):E:=.fn 6 (.pr a b)
def mi(a b:E):E:=.fn 7 (.pr a b)
def tm(a b:E):E:=.fn 8 (.pr a b)
def ln(x:E):E:=.fn 0 x
def prs:List E->E
 |[]=>.int 0
 |[a]=>a
 |a::l=>.pr a (prs l)
def ax(f:Nat)(l:List E):E:=.fn f (prs l)
def nt(l i:E):E:=.fn 1 (.pr l i)
def cY(w:Int)(l:E):E:=.fn 9 (.pr l (.int w))
def lF:E:=.fn 10 (.int 0)
def kI:List CK:=[.int .i64]
def kO:List CK:=[.int .i64,.int .i64,.int .i64,.int .i64,.int .i64,.int .i64,.int .i64,.int .i64,.int .i64,.bool,.bool,.bool]
def kT:List CK:=[.int .i64,.int .i64]
def d6:List CK:=[.int .i64,.int .i64,.int .i64,.int .i64,.slc kT]
def kS:List CK:=[.int .i64,.int .i64,.int .i64,.int .i64,.int .i64,.slc kI,.slc kI,.slc kI,.slc kI,.bool,.bool,.bool,.int .i64,.int .i64]
def kB:List CK:=.slc kO::(kS++(kS++[.slc d6,.slc d6,.slc kI,.slc kT,.int .i64,.int .i64,.int .i64,.int .i64,.int .i64]))
def aaV(e:E):CK->SV
 |.int k=>.int k e
 |.bool=>.bool e
 |.str=>.str e
 |.slc ks=>.bsl ks e
def qZ(e:E):Nat->List CK->List SV
 |_,[]=>[]
 |j,c::cs=>aaV (nt e (.int (Int.ofNat j))) c::qZ e (Nat.succ j) cs
def di(e:E):SV:=.agg (qZ e 0 kB)
def nh(e:E):Blk:=⟨true,.cells (qZ e 0 kB) (.int 38) 34⟩
def cl(e:E)(j:Int):E:=nt e (.int j)
def r9(e:E):E:=.fn 116 e
def rY(e:E):E:=.fn 117 e
def de(e:E):List E:=[r9 e,rY e]
def tT(f:FuncId):SV:=.func (.func f) [] []
def rT:E:=cY 2 (eV 0)
def aKz:Pact:=⟨123,[.bsl kT (eV 0),tT 110],⟨1,0,.nil,[af rT (.int 1000)]⟩,[(ii (eV 1),⟨2,0,.nil,[.iff (af (.int 0) (eV 1)) (.not (ax 101 [eV 0,rT])),af (.int (-1)) (eV 1)]⟩)]⟩
def tTF:Tmpl:=⟨bF 19 [(0,.bsl kT (eV 0)),(1,tT 110),(6,.bsl kT (eV 0)),(7,ii rT),(8,ii (eV 4))],⟨5,0,.nil,[af rT (.int 1000),af (.int 0) (eV 4),af (eV 4) rT,ax 101 [eV 0,eV 4]]⟩,mi rT (eV 4)⟩
def aFp:List Ann:=[⟨123,0,[tTF],none⟩]
def itE:List E:=[eV 0,eV 1,eV 2,eV 3,eV 4,eV 5]
def itV:SV:=.agg [ii (eV 0),ii (eV 1),ii (eV 2),ii (eV 3),.bsl kT (eV 4)]
def aKb:Pact:=⟨78,[itV,.bool (eV 5)],⟨6,0,.nil,[]⟩,[(.bool (eV 6),⟨7,0,.nil,[.iff (eV 6) (ax 102 itE)]⟩)]⟩
def rI:E:=cY 5 (eV 0)
def agv(g:FuncId)(q:Bool):Pact:=⟨108,[.bsl d6 (eV 0),tT g],⟨1,0,.nil,[af rI (.int 1000)]⟩,[(ii (eV 1),⟨2,0,.nil,[.iff (af (.int 0) (eV 1)) (.not (ax 103 [eV 0,.bool q,rI])),af (.int (-1)) (eV 1)]⟩)]⟩
def tIF(g:FuncId)(q:Bool):Tmpl:=⟨bF 19 [(0,.bsl d6 (eV 0)),(1,tT g),(6,.bsl d6 (eV 0)),(7,ii rI),(8,ii (eV 4))],⟨5,0,.nil,[af rI (.int 1000),af (.int 0) (eV 4),af (eV 4) rI,ax 103 [eV 0,.bool q,eV 4]]⟩,mi rI (eV 4)⟩
def aar(g:FuncId)(q:Bool):List Ann:=[⟨108,0,[tIF g q],none⟩]
def nI:E:=ln (eV 0)
def aG0(l k:E):E:=ax 114 [l,k]
def aKk:Pact:=⟨73,[.bsl kI (eV 0),ii (eV 1)],⟨2,0,.nil,[af nI (.int 1000)]⟩,[(ii (eV 2),⟨3,0,.nil,[.iff (af (.int 0) (eV 2)) (aG0 (eV 0) (eV 1)),af (.int (-1)) (eV 2)]⟩)]⟩
def tIx:Tmpl:=⟨bF 19 [(0,.bsl kI (eV 0)),(1,ii (eV 1)),(6,.bsl kI (eV 0)),(7,ii nI),(8,ii (eV 4))],⟨5,0,.nil,[af nI (.int 1000),af (.int 0) (eV 4),af (eV 4) nI,bn (ax 131 [eV 0,eV 1,eV 4]) (.int 0)]⟩,mi nI (eV 4)⟩
def aFb:List Ann:=[⟨73,0,[tIx],none⟩]
def obV:SV:=.agg ((List.range 9).map (fun j=>ii (eV j))++[.bool (eV 9),.bool (eV 10),.bool (eV 11)])
def agy(f:FuncId):Pact:=⟨f,[obV],⟨12,0,.nil,[]⟩,[(.bool (eV 12),⟨13,0,.nil,[.iff (eV 12) (ax 137 ((List.range 9).map eV))]⟩)]⟩
def put(c:Nat):SV:=.func (.func 112) [] [bS c]
def Mo(e:E):Blk:=⟨true,.mapl .i64 (.int .i64) e⟩
def yh(W:Nat)(m:E)(more:List Blk):T Blk:=bW (List.replicate W gone++[nh (eV 0),Mo m,⟨true,.cells [.map (W+1)] (.int 1) 153⟩]++more)
def zw(W:Nat):List (Nat×SV):=[(1,bS W),(3,bS (W+2)),(4,put (W+2))]
def La(m p q i:E):E:=ax 104 [m,eV 0,p,q,i]
def t0P:Tmpl:=⟨bF 138 (zw 8++[(21,ii (eV 8))]),⟨10,11,yh 8 (eV 9) [],de (eV 0)++[af (.int 0) (eV 8),af (eV 8) (.int 2),La (eV 9) (eV 8) (.int 0) (.int 0)]⟩,mi (.int 2) (eV 8)⟩
def afu(W p:Nat):SV:=.agg ((List.range 4).map fun q=>.ptr W ⟨6+14*p+q,0,.int 0⟩)
def t2P(p:Nat):Tmpl:=⟨bF 138 (zw 8++[(5,ii (eV 8)),(21,ii (eV 8)),(27,afu 8 p),(28,ii (eV 16))]),⟨18,16,yh 8 (eV 17) [],
 de (eV 0)++[bn (eV 8) (.int (Int.ofNat p)),af (.int 0) (eV 16),af (eV 16) (.int 4),La (eV 17) (eV 8) (eV 16) (.int 0)]⟩,mi (.int 4) (eV 16)⟩
def t4P(p:Nat):Tmpl:=⟨bF 138 (zw 8++[(5,ii (eV 8)),(21,ii (eV 8)),(27,afu 8 p),(28,ii (eV 16)),(33,.bsl kI (eV 28)),(34,ii (ln (eV 28))),(35,ii (eV 24))]),⟨29,24,yh 8 (eV 25) [],
 de (eV 0)++[bn (eV 8) (.int (Int.ofNat p)),af (.int 0) (eV 16),fR (eV 16) (.int 4),af (.int 0) (eV 24),af (eV 24) (ln (eV 28)),af (ln (eV 28)) (.int 40),ax 109 [eV 28,eV 0,eV 8,eV 16],La (eV 25) (eV 8) (eV 16) (eV 24)]⟩,mi (ln (eV 28)) (eV 24)⟩
def fk:E:=cY 5 (cl (eV 0) 29)
def ey:E:=cY 12 (cl (eV 0) 0)
def t6P:Tmpl:=⟨bF 138 (zw 32++[(10,.map 35),(49,.bsl d6 (cl (eV 0) 29)),(50,ii fk),(51,ii (eV 32))]),⟨35,36,yh 32 (eV 33) [Mo (eV 34)],
 de (eV 0)++[af fk (.int 20),af (.int 0) (eV 32),af (eV 32) fk,ax 105 [eV 33,eV 0,eV 32],ax 106 [eV 34,eV 0,eV 32]]⟩,mi fk (eV 32)⟩
def t8P:Tmpl:=⟨bF 138 (zw 40++[(10,.map 43),(72,.bsl kO (cl (eV 0) 0)),(73,ii ey),(74,ii (eV 40))]),⟨43,44,yh 40 (eV 41) [Mo (eV 42)],
 de (eV 0)++[af ey (.int 30),af (.int 0) (eV 40),af (eV 40) ey,ax 105 [eV 41,eV 0,fk],ax 106 [eV 42,eV 0,fk],ax 107 [eV 0,eV 40]]⟩,mi ey (eV 40)⟩
def aFf:List Ann:=[⟨80,0,[t0P],none⟩,⟨80,2,[t2P 0,t2P 1],none⟩,⟨80,4,[t4P 0,t4P 1],none⟩,⟨80,6,[t6P],none⟩,⟨80,8,[t8P],none⟩]
def aKr:Pact:=⟨80,[di (eV 0)],⟨1,0,.nil,de (eV 0)⟩,[(.bool (eV 1),⟨2,0,.nil,[.iff (eV 1) (.fn 108 (eV 0))]⟩)]⟩
def aIg(e:E):Blk:=⟨true,.mapl .i64 .bool e⟩
def lv:E:=cl (eV 0) 34
def MX:List E:=de (eV 0)++[.fn 108 (eV 0),af (.int 0) lv,af lv (.int 1)]
def aKa:Pact:=⟨81,[di (eV 0)],⟨1,0,.nil,MX⟩,[(.bool (eV 1),⟨2,0,.nil,[.iff (eV 1) (.fn 110 (eV 0))]⟩)]⟩
def ack(W:Nat):T Blk:=bW (List.replicate W gone++[nh (eV 0),aIg (eV (W+1))])
def agd(W:Nat):List (Nat×SV):=[(1,bS W),(3,.bsl kI (eV (W+2))),(4,.bsl kI (eV (W+3))),(5,.map (W+1))]
def afe(W:Nat):List E:=[ax 109 [eV (W+2),eV 0,lv,.int 2],ax 109 [eV (W+3),eV 0,mi (.int 1) lv,.int 2],af (ln (eV (W+2))) (.int 40),af (ln (eV (W+3))) (.int 40)]
def jK:E:=ln (cl (eV 0) 31)
def gD:E:=cY 2 (cl (eV 0) 32)
def t0F:Tmpl:=⟨bF 85 (agd 8++[(25,.bsl kI (cl (eV 0) 31)),(26,ii jK),(27,ii (eV 8))]),⟨12,10,ack 8,
 MX++afe 8++[af jK (.int 30),af (.int 0) (eV 8),af (eV 8) jK,ax 111 [eV 0,eV 8],ax 113 [eV 9,eV 0,eV 8,.int 0]]⟩,mi jK (eV 8)⟩
def t2F:Tmpl:=⟨bF 85 (agd 16++[(44,.bsl kT (cl (eV 0) 32)),(45,ii gD),(46,ii (eV 16))]),⟨20,18,ack 16,
 MX++afe 16++[af jK (.int 30),af gD (.int 30),af (.int 0) (eV 16),af (eV 16) gD,ax 111 [eV 0,jK],ax 112 [eV 0,eV 16],ax 113 [eV 17,eV 0,jK,eV 16]]⟩,mi gD (eV 16)⟩
def aE3:List Ann:=[⟨81,0,[t0F],none⟩,⟨81,2,[t2F],none⟩]
def spV:Pact:=⟨40,[di (eV 0)],⟨1,0,.nil,de (eV 0)⟩,[(.bool (eV 1),⟨2,0,.nil,[.iff (eV 1) (.fn 115 (eV 0))]⟩)]⟩
def aKj:Pact:=⟨42,[itV,.bool (eV 5)],⟨6,0,.nil,[]⟩,[(.bool (eV 6),⟨7,0,.nil,[.iff (eV 6) (ax 102 itE)]⟩)]⟩
def aJ4:Pact:=⟨27,[.bsl kI (eV 0),ii (eV 1)],⟨2,0,.nil,[af nI (.int 1000)]⟩,[(ii (eV 2),⟨3,0,.nil,[bn (eV 2) (ax 121 [eV 0,eV 1]),af (.int 0) (eV 2),af (eV 2) nI]⟩)]⟩
def aKh:Pact:=⟨47,[di (eV 0),ii (eV 1)],⟨2,0,.nil,de (eV 0)⟩,[(ii (eV 2),⟨3,0,.nil,[bn (eV 2) (ax 120 [eV 0,eV 1,ey]),af (.int (-1)) (eV 2),fR (eV 2) ey]⟩)]⟩
def aKq:Pact:=⟨85,[di (eV 0),ii (eV 1),ii (eV 2)],⟨3,0,.nil,de (eV 0)++[af (.int 0) (eV 1),af (eV 1) (.int 1)]⟩,[(ii (eV 3),⟨4,0,.nil,[bn (eV 3) (ax 122 [eV 0,eV 1,eV 2]),af (.int 0) (eV 3),af (eV 3) (.int 1000)]⟩)]⟩
def aIN:List E:=[af (.int 0) (eV 0),af (eV 0) (.int 1),af (.int 1) (eV 1),af (eV 1) (.int 500),af (.int 0) (eV 2),af (eV 2) (.int 399),af (.int (-1)) (eV 3),af (eV 3) (.int 1),af (cY 2 (eV 4)) (.int 4),.imp (af (.int 0) (eV 3)) (bn (cY 2 (eV 4)) (.int 0)),.imp (eV 5) (af (.int 0) (eV 3))]
def tIt:Tmpl:=⟨bF 108 [(1,.bool (eV 5)),(2,bS 8),(5,ii (eV 8))],⟨9,9,bW (List.replicate 8 gone++[⟨true,.cells [ii (eV 0),ii (eV 1),ii (eV 2),ii (eV 3),.bsl kT (eV 4)] (.int 5) 80⟩]),
 aIN++[af (.int 0) (eV 8),af (eV 8) (cY 2 (eV 4)),ax 101 [eV 4,eV 8]]⟩,mi (cY 2 (eV 4)) (eV 8)⟩
def aFa:List Ann:=[⟨42,0,[tIt],none⟩]
def tCt:Tmpl:=⟨bF 22 [(0,.bsl kI (eV 0)),(1,ii (eV 1)),(5,ii (eV 9)),(6,ii (eV 8))],⟨10,0,.nil,[af nI (.int 1000),af (.int 0) (eV 8),af (eV 8) nI,bn (eV 9) (ax 131 [eV 0,eV 1,eV 8]),af (.int 0) (eV 9),af (eV 9) (eV 8)]⟩,mi nI (eV 8)⟩
def aE0:List Ann:=[⟨27,0,[tCt],none⟩]
def lL(W:Nat):T Blk:=bW (List.replicate W gone++[nh (eV 0)])
def tId:Tmpl:=⟨bF 22 [(1,ii (eV 1)),(2,bS 8),(5,ii (eV 8))],⟨9,9,lL 8,de (eV 0)++[af ey (.int 30),af (.int 0) (eV 8),af (eV 8) ey,bn (ax 120 [eV 0,eV 1,eV 8]) (.int (-1))]⟩,mi ey (eV 8)⟩
def aE8:List Ann:=[⟨47,0,[tId],none⟩]
def tPc:Tmpl:=⟨bF 56 [(1,ii (eV 1)),(2,ii (eV 2)),(3,bS 16),(7,ii (eV 17)),(10,ii (eV 16))],⟨18,17,lL 16,de (eV 0)++[af (.int 0) (eV 1),af (eV 1) (.int 1),af fk (.int 20),af (.int 0) (eV 16),af (eV 16) fk,
 bn (eV 17) (pl (ax 132 [eV 0,eV 1,.int 4,eV 2]) (ax 133 [eV 0,eV 1,eV 2,eV 16])),af (.int 0) (eV 17),af (eV 17) (pl (.int 160) (eV 16))]⟩,mi fk (eV 16)⟩
def aFe:List Ann:=[⟨85,2,[tPc],none⟩]
def t4D:Tmpl:=⟨bF 108 [(1,bS 16),(3,ii (eV 17)),(7,ii (eV 16))],⟨18,17,lL 16,de (eV 0)++[af fk (.int 20),af ey (.int 30),af (.int 0) (eV 16),af (eV 16) fk,
 bn (eV 17) (pl (ax 134 [eV 0,.int 8]) (ax 135 [eV 0,eV 16])),af (.int 0) (eV 17),af (eV 17) (pl (.int 320) (eV 16)),ax 123 [eV 0,eV 16]]⟩,mi fk (eV 16)⟩
def t6D:Tmpl:=⟨bF 108 [(1,bS 24),(3,ii (eV 25)),(10,ii (eV 24))],⟨26,25,lL 24,de (eV 0)++[af ey (.int 30),af (.int 0) (eV 24),af (eV 24) ey,
 bn (eV 25) (pl (ax 134 [eV 0,.int 8]) (ax 135 [eV 0,fk])),ax 123 [eV 0,fk],ax 124 [eV 0,eV 24]]⟩,mi ey (eV 24)⟩
def aE1:List Ann:=[⟨44,4,[t4D],none⟩,⟨44,6,[t6D],none⟩]
def MV:List E:=de (eV 0)++[af (.int 0) lv,af lv (.int 1),af jK (.int 30),af gD (.int 30)]
def t0R:Tmpl:=⟨bF 94 [(1,bS 8),(3,ii (eV 8))],⟨9,9,lL 8,MV++[af (.int 0) (eV 8),af (eV 8) jK,ax 126 [eV 0,eV 8]]⟩,mi jK (eV 8)⟩
def t2R:Tmpl:=⟨bF 94 [(1,bS 16),(4,ii (eV 16))],⟨17,17,lL 16,MV++[af (.int 0) (eV 16),af (eV 16) gD,ax 126 [eV 0,jK],ax 127 [eV 0,eV 16]]⟩,mi gD (eV 16)⟩
def aaB(j:Int):E:=nt (cl (eV 0) 32) (pl (tm (eV 16) (.int 2)) (.int j))
def t4R:Tmpl:=⟨bF 94 [(1,bS 16),(4,ii (eV 16)),(5,bS 24),(6,ii (eV 24))],⟨25,25,bW (List.replicate 16 gone++[nh (eV 0)]++List.replicate 7 gone++[⟨true,.cells [ii (aaB 0),ii (aaB 1)] (.int 2) 47⟩]),
 MV++[af (.int 0) (eV 16),fR (eV 16) gD,ax 126 [eV 0,jK],ax 127 [eV 0,eV 16],af (.int 0) (eV 24),af (eV 24) (eV 16),ax 136 [eV 0,eV 16],ax 128 [eV 0,eV 16,eV 24]]⟩,mi (eV 16) (eV 24)⟩
def aE5:List Ann:=[⟨45,0,[t0R],none⟩,⟨45,2,[t2R],none⟩,⟨45,4,[t4R],none⟩]
def aJ7:Pact:=⟨44,[di (eV 0)],⟨1,0,.nil,de (eV 0)⟩,[(.bool (eV 1),⟨2,0,.nil,[.iff (eV 1) (.fn 125 (eV 0))]⟩)]⟩
def aKd:Pact:=⟨45,[di (eV 0)],⟨1,0,.nil,de (eV 0)++[af (.int 0) lv,af lv (.int 1)]⟩,[(.bool (eV 1),⟨2,0,.nil,[.iff (eV 1) (.fn 129 (eV 0))]⟩)]⟩
def aJT:Pact:=⟨14,[di (eV 0)],⟨1,0,.nil,de (eV 0)⟩,[(.bool (eV 1),⟨2,0,.nil,[.iff (eV 1) (.fn 130 (eV 0))]⟩)]⟩
def aeM:List E:=[af (.int 0) lv,af lv (.int 1),af (.int 0) (cl (eV 0) 33),af (cl (eV 0) 33) (.int 1000),af (.int 0) (cl (eV 0) 35),af (cl (eV 0) 35) (.int 10),af (.int (-1)) (cl (eV 0) 36),af (cl (eV 0) 36) (.int 1),af (.int 0) (cl (eV 0) 37),af (cl (eV 0) 37) (.int 2)]
def yY:E:=cY 5 (cl (eV 0) 30)
def KZ(c:Int)(q:Bool)(n:E):E:=ax 103 [cl (eV 0) c,.bool q,n]
def tV0:Tmpl:=⟨bF 117 [(1,bS 8),(3,ii (eV 8))],⟨9,9,lL 8,de (eV 0)++aeM++[af fk (.int 20),af (.int 0) (eV 8),af (eV 8) fk,KZ 29 false (eV 8)]⟩,mi fk (eV 8)⟩
def tV2:Tmpl:=⟨bF 117 [(1,bS 16),(4,ii (eV 16))],⟨17,17,lL 16,de (eV 0)++aeM++[af yY (.int 20),KZ 29 false fk,af (.int 0) (eV 16),af (eV 16) yY,KZ 30 true (eV 16)]⟩,mi yY (eV 16)⟩
def aER:List Ann:=[⟨14,0,[tV0],none⟩,⟨14,2,[tV2],none⟩]
def kE:List CK:=[.int .i64,.int .i64,.int .i64,.int .i64,.int .i64]
def kTr:List CK:=[.int .i64,.slc kE]
def kC:List CK:=[.str,.int .i64,.int .i64,.int .i64,.int .i64,.int .i64,.int .i64,.int .i64,.int .i64,.int .i64,.int .i64,.slc kE,.slc kTr,.int .i64]
def aeO(a:Nat):SV:=.agg ((List.range 9).map (fun j=>ii (eV (a+j)))++[.bool (eV (a+9)),.bool (eV (a+10)),.bool (eV (a+11))])
def lU:E:=cY 14 (eV 0)
def nS:E:=cY 12 (cl (eV 1) 0)
def CS:Blk:=⟨true,.cells (qZ (eV 1) 0 kB) (.int 38) 34⟩
def nF(x n c:E):Blk:=⟨true,.flat kI x n c 3⟩
def afm:List E:=[af (.int 1) (eV 1),af (eV 1) (eV 2),bn (ln (eV 0)) (eV 1),af (eV 1) (.int 60)]
def aKw:Pact:=⟨56,[.nslice 0 (eV 1) (eV 2)],⟨3,1,bW [nF (eV 0) (eV 1) (eV 2)],afm⟩,
 [(.nslice 1 (eV 4) (eV 5),⟨6,2,bW [nF (eV 0) (eV 1) (eV 2),nF (eV 3) (eV 4) (eV 5)],[bn (eV 4) (eV 1),af (eV 4) (eV 5),bn (ln (eV 3)) (eV 4),ax 152 [eV 3,eV 0,eV 1]]⟩)]⟩
def Of(k:Bool):Tmpl:=⟨bF 46 [(0,.nslice 0 (eV 1) (eV 2)),(2,.nils),(3,if k then .nslice 8 (eV 9) (eV 10)else .nils),(4,ii (eV 11))],⟨12,9,bW ([nF (eV 0) (eV 1) (eV 2)]++List.replicate 7 gone++[if k then nF (eV 8) (eV 9) (eV 10)else gone]),
 afm++(if k then [af (.int 1) (eV 11),af (eV 11) (eV 1),bn (eV 9) (eV 11),af (eV 9) (eV 10),bn (ln (eV 8)) (eV 9),ax 152 [eV 8,eV 0,eV 11]] else [bn (eV 11) (.int 0)])⟩,mi (eV 1) (eV 11)⟩
def aht(k:Bool):Tmpl:=⟨bF 46 [(0,.nslice 0 (eV 1) (eV 2)),(2,.nils),(3,if k then .nslice 8 (eV 9) (eV 10)else .nils),(4,ii (eV 11)),(5,ii (if k then eV 16 else .int 0))],⟨17,9,bW ([nF (eV 0) (eV 1) (eV 2)]++List.replicate 7 gone++[if k then nF (eV 8) (eV 9) (eV 10)else gone]),
 (Of k).st.pc++[fR (eV 11) (eV 1)]++(if k then [af (.int 0) (eV 16),af (eV 16) (eV 9),ax 160 [eV 8,nt (eV 0) (eV 11),eV 16]] else [])⟩,if k then mi (eV 9) (eV 16)else .int 0⟩
def aFm:List Ann:=[⟨56,0,[Of false,Of true],none⟩,⟨56,2,[aht false,aht true],none⟩]
def li(n:Int):SV:=ii (.int n)
def noB:List SV:=[.bool (.bool false),.bool (.bool false),.bool (.bool false)]
def args:List SV:=[.bsl kC (eV 0),di (eV 1),ii (eV 2)]
def EO:E:=cY 14 (eV 0)
def aKp:Pact:=⟨8,[.bsl kC (eV 0)],⟨1,0,.nil,[]⟩,[(.bool (eV 1),⟨2,0,.nil,[.imp (eV 1) (.and (af EO (.int 12)) (ax 155 [eV 0,EO]))]⟩)]⟩
def tL0:Tmpl:=⟨bF 55 [(0,.bsl kC (eV 0)),(3,ii (eV 8))],⟨9,0,.nil,[af (.int 0) (eV 8),af (eV 8) (.int 13),af (eV 8) EO,ax 155 [eV 0,eV 8]]⟩,mi (.int 13) (eV 8)⟩
def GF:E:=nt (eV 0) (pl (tm (eV 8) (.int 14)) (.int 12))
def efE:E:=nt (eV 0) (pl (tm (eV 8) (.int 14)) (.int 11))
def tL2:Tmpl:=⟨bF 55 [(0,.bsl kC (eV 0)),(3,ii (eV 8)),(4,ii (eV 16))],⟨17,0,.nil,[af (.int 0) (eV 8),fR (eV 8) (.int 13),fR (eV 8) EO,ax 155 [eV 0,eV 8],af (cY 5 efE) (.int 5),af (cY 2 GF) (.int 3),af (.int 0) (eV 16),af (eV 16) (cY 2 GF),ax 157 [GF,eV 16]]⟩,mi (cY 2 GF) (eV 16)⟩
def aFc:List Ann:=[⟨8,0,[tL0],none⟩,⟨8,2,[tL2],none⟩]
def aKx:Pact:=⟨9,[di (eV 0)],⟨1,0,.nil,[]⟩,[(.bool (eV 1),⟨2,0,.nil,[.imp (eV 1) (rY (eV 0))]⟩)]⟩
def lsB:Blk:=⟨true,.cells [.bsl d6 (cl (eV 0) 29),.bsl d6 (cl (eV 0) 30)] (.int 2) 30⟩
def acl:T Blk:=bW (List.replicate 8 gone++[nh (eV 0),lsB])
def af7:List (Nat×SV):=[(1,bS 8),(29,.nslice 9 (.int 2) (.int 2)),(30,ii (.int 2)),(31,ii (eV 8))]
def afn:List E:=[.fn 159 (eV 0),af (.int 0) (eV 8),af (eV 8) (.int 2),.imp (af (.int 1) (eV 8)) (.and (af fk (.int 20)) (ax 158 [cl (eV 0) 29,fk])),.imp (af (.int 2) (eV 8)) (.and (af yY (.int 20)) (ax 158 [cl (eV 0) 30,yY]))]
def t4m:Tmpl:=⟨bF 68 af7,⟨9,10,acl,afn⟩,mi (.int 2) (eV 8)⟩
def tSm(q:Nat):Tmpl:=let c:Int:=if q==0 then 29 else 30
 ⟨bF 68 (af7++[(7,.bsl d6 (cl (eV 0) c)),(8,ii (eV 16))]),⟨17,10,acl,
 afn++[bn (eV 8) (.int (Int.ofNat q)),af (cY 5 (cl (eV 0) c)) (.int 20),af (.int 0) (eV 16),af (eV 16) (cY 5 (cl (eV 0) c)),ax 158 [cl (eV 0) c,eV 16]]⟩,mi (cY 5 (cl (eV 0) c)) (eV 16)⟩
def aFn:List Ann:=[⟨9,4,[t4m],none⟩,⟨9,6,[tSm 0,tSm 1],none⟩]
/-! ### paying -/
def fnZ(f:Nat)(l:List E):E:=ax f (l++[.int 0])
def eqU(a b:E):E:=.fn 12 (.pr a b)
def aG1(a b n:E):E:=ax 181 [a,b,n]
def Ft:List E:=[af rI (.int 20),ax 158 [eV 0,rI],.fn 190 (eV 0)]
def aJ3:Pact:=⟨33,[.bsl d6 (eV 0)],⟨1,0,.nil,Ft⟩,[(.bsl d6 (eV 1),⟨2,0,.nil,[ax 187 [eV 1,eV 0],.fn 195 (eV 1)]⟩)]⟩
def aG8(x n c:E):Blk:=⟨true,.flat d6 x n c 80⟩
def tCi(k:Bool):Tmpl:=⟨bF 25 [(0,.bsl d6 (eV 0)),(2,.nils),(3,if k then .nslice 8 (eV 9) (eV 10)else .nils),(4,ii (eV 11))],⟨12,if k then 9 else 0,bW (if k then List.replicate 8 gone++[aG8 (eV 8) (eV 9) (eV 10)] else []),
 Ft++[af (.int 0) (eV 11),af (eV 11) rI]++(if k then [af (.int 1) (eV 9),af (eV 9) (eV 10),bn (eV 9) (eV 11),bn (ln (eV 8)) (tm (eV 9) (.int 5)),aG1 (eV 8) (eV 0) (tm (eV 11) (.int 5))] else [bn (eV 11) (.int 0)])⟩,mi rI (eV 11)⟩
def aEZ:List Ann:=[⟨33,0,[tCi false,tCi true],none⟩]
def aIx:List FM:=[.down d6]
def ags:Pact:=⟨11,[di (eV 0)],⟨1,0,.nil,de (eV 0)⟩,[(di (eV 1),⟨2,0,.nil,[ax 189 [eV 1,eV 0]]⟩)]⟩
def yW:List FM:=tS kB
def zI(n:Nat):List (SV×St):=[(.bool (.bool true),⟨n,0,.nil,[]⟩)]
def afi:List E:=[eqU (eV 0) (eV 1),af nI (.int 100)]
def aKi:Pact:=⟨17,[.bsl kI (eV 0),.bsl kI (eV 1)],⟨2,0,.nil,afi⟩,zI 2⟩
def tIe:Tmpl:=⟨bF 26 [(0,.bsl kI (eV 0)),(1,.bsl kI (eV 1)),(5,ii (eV 8))],⟨9,0,.nil,afi++[af (.int 0) (eV 8),af (eV 8) nI]⟩,mi nI (eV 8)⟩
def aE9:List Ann:=[⟨17,0,[tIe],none⟩]
def it5(a:Nat):SV:=.agg [ii (eV a),ii (eV (a+1)),ii (eV (a+2)),ii (eV (a+3)),.bsl kT (eV (a+4))]
def afk:List E:=[bn (eV 0) (eV 5),bn (eV 1) (eV 6),bn (eV 2) (eV 7),bn (eV 3) (eV 8),eqU (eV 4) (eV 9),af (cY 2 (eV 4)) (.int 6)]
def aKt:Pact:=⟨102,[it5 0,it5 5],⟨10,0,.nil,afk⟩,zI 10⟩
def afh:List E:=[ax 187 [eV 1,eV 0],af rI (.int 20),ax 158 [eV 0,rI]]
def aKg:Pact:=⟨64,[.bsl d6 (eV 0),.bsl d6 (eV 1)],⟨2,0,.nil,afh⟩,zI 2⟩
def uQ:List E:=[r9 (eV 0),rY (eV 0),ax 189 [eV 1,eV 0]]
def aKu:Pact:=⟨26,[di (eV 0),di (eV 1)],⟨2,0,.nil,uQ⟩,zI 2⟩
def tSI:Tmpl:=⟨bF 59 [(2,bS 16),(3,bS 17),(5,ii (eV 16))],⟨17,18,bW (List.replicate 16 gone++[⟨true,.cells [ii (eV 0),ii (eV 1),ii (eV 2),ii (eV 3),.bsl kT (eV 4)] (.int 5) 80⟩,⟨true,.cells [ii (eV 5),ii (eV 6),ii (eV 7),ii (eV 8),.bsl kT (eV 9)] (.int 5) 80⟩]),
 afk++[af (.int 0) (eV 16),af (eV 16) (cY 2 (eV 4))]⟩,mi (cY 2 (eV 4)) (eV 16)⟩
def aFk:List Ann:=[⟨102,0,[tSI],none⟩]
def tIS:Tmpl:=⟨bF 27 [(0,.bsl d6 (eV 0)),(1,.bsl d6 (eV 1)),(5,ii (eV 8))],⟨9,0,.nil,afh++[af (.int 0) (eV 8),af (eV 8) rI]⟩,mi rI (eV 8)⟩
def aE7:List Ann:=[⟨64,0,[tIS],none⟩]
def DX(W:Nat):T Blk:=bW (List.replicate W gone++[nh (eV 0),nh (eV 1)])
def gJ(k W s:Nat)(n:E):Tmpl:=⟨bF 199 [(2,bS W),(3,bS (W+1)),(s,ii (eV W))],⟨W+1,W+2,DX W,uQ++[af (.int 0) (eV W),af (eV W) n]⟩,mi n (eV W)⟩
def aGY(k W:Nat):Out:=⟨.exit k,bF 199 [(2,bS W),(3,bS (W+1))],⟨W+1,W+2,DX W,uQ⟩⟩
def fX(k W:Nat):LoopX:=⟨W,W,[aGY k W]⟩
def CA(y:Option LoopX):Ann:=⟨26,0,[gJ 0 16 5 ey],y⟩
def CB(y:Option LoopX):Ann:=⟨26,2,[gJ 2 24 6 gD],y⟩
def pN:Tmpl:=⟨bF 199 [(2,bS 32),(3,bS 33),(7,ii (eV 32))],⟨33,34,DX 32,uQ++[af (.int 0) (eV 32),af (eV 32) (.int 2)]⟩,mi (.int 2) (eV 32)⟩
def CC(y:Option LoopX):Ann:=⟨26,4,[pN],y⟩
def afZ(e:E)(p:Nat):Blk:=⟨true,.cells ((List.range 4).map fun q=>.bsl kI (cl e (Int.ofNat (6+14*p+q)))) (.int 4) 75⟩
def gK(p:Nat):Tmpl:=⟨bF 199 [(2,bS 48),(3,bS 49),(7,ii (eV 32)),(10,bS 50),(11,bS 51),(12,ii (eV 48))],⟨49,52,bW (List.replicate 48 gone++[nh (eV 0),nh (eV 1),afZ (eV 0) p,afZ (eV 1) p]),uQ++[bn (eV 32) (.int (Int.ofNat p)),af (.int 0) (eV 48),af (eV 48) (.int 4)]⟩,mi (.int 4) (eV 48)⟩
def abJ(p:Nat):Out:=⟨.exit 6,bF 199 [(2,bS 48),(3,bS 49),(7,ii (eV 32))],⟨49,50,DX 48,uQ++[bn (eV 32) (.int (Int.ofNat p))]⟩⟩
def mr:LoopX:=⟨48,48,[abJ 0,abJ 1]⟩
def tv(y:Option LoopX):Ann:=⟨26,6,[gK 0,gK 1],y⟩
def msI:List FM:=[.down kI]
def zy(f:FuncId)(ks:List CK)(w:Int)(t:TypeId):Pact:=⟨f,[.bsl ks (eV 0)],⟨1,0,.nil,[af (cY w (eV 0)) (.int 100)]⟩,
 [(.nslice 0 (eV 2) (eV 3),⟨4,1,bW [⟨true,.flat ks (eV 1) (eV 2) (eV 3) t⟩],[ax 200 [eV 1,eV 0],af (.int 0) (eV 2),af (eV 2) (eV 3),bn (eV 2) (cY w (eV 0))]⟩)]⟩
def DK(x n c:E):Blk:=⟨true,.flat kO x n c 60⟩
def Hb:CK->SV
 |.int k=>.int k (.int 0)
 |.bool=>.bool (.bool false)
 |.str=>.str (.str ByteArray.empty)
 |.slc _=>.nils
def nV(l n c o:E):Blk:=⟨true,.nest d6 l n c 80 o⟩
def aJ5:Pact:=zy 120 kT 2 132
def aKA:Pact:=⟨95,[.bsl d6 (eV 0)],⟨1,0,.nil,Ft⟩,[(.nslice 0 (eV 2) (eV 3),⟨5,1,bW [nV (eV 1) (eV 2) (eV 3) (eV 4)],[ax 187 [eV 1,eV 0],.fn 190 (eV 1),bn (eV 2) rI,bn (eV 4) (eV 2),af (.int 0) (eV 2),af (eV 2) (eV 3)]⟩)]⟩
def tWn:Tmpl:=⟨bF 24 [(0,.bsl d6 (eV 0)),(2,.nils),(3,.nslice 8 (eV 9) (eV 10)),(8,ii (eV 9)),(9,ii (eV 11))],⟨13,9,bW (List.replicate 8 gone++[nV (eV 8) (eV 9) (eV 10) (eV 12)]),
 Ft++[af (.int 0) (eV 11),af (eV 11) (eV 9),bn (eV 9) rI,af (eV 9) (eV 10),bn (eV 12) (eV 11),af (eV 12) (eV 11),af (eV 11) (eV 12),ax 187 [eV 8,eV 0],.fn 190 (eV 8)]⟩,mi (eV 9) (eV 11)⟩
def aFq:List Ann:=[⟨95,0,[tWn],none⟩]
/-! ### a board that is owned through and through: X its numbers; lists, lengths and rooms from variable k on -/
def E2(l n c:E):Blk:=⟨true,.flat kI l n c 3⟩
def y7(l n c:E):Blk:=⟨true,.flat kT l n c 47⟩
def zu:List Nat:=[0,6,7,8,9,20,21,22,23,29,30,31,32]
def aIZ(x:E)(k b:Nat):List SV:=(List.range 38).zip (qZ x 0 kB) |>.map fun(j,v)=>match zu.idxOf? j with
 |some i=>.nslice (b+i) (eV (k+3*i+1)) (eV (k+3*i+2))
 |none=>v
def CM(k:Nat)(o:Nat):List Blk:=(List.range 13).map fun i=>
 let l:=eV (k+3*i);let n:=eV (k+3*i+1);let c:=eV (k+3*i+2)
 if i==0 then DK l n c else if i==9 then nV l n c (eV o)else if i==10 then nV l n c (eV (o+1))else if i==12 then y7 l n c else E2 l n c
def Dv(l n:E):E:=ax 158 [l,n]
def kP(k:Nat)(o:Nat):List E:=(List.range 13).flatMap (fun i=>[af (.int 0) (eV (k+3*i+1)),af (eV (k+3*i+1)) (eV (k+3*i+2)),af (eV (k+3*i+1)) (.int 40)])++[bn (eV o) (eV (k+28)),bn (eV (o+1)) (eV (k+31))]
def nA(a b:Nat):List E:=[Dv (eV a) (eV 29),Dv (eV b) (eV 32)]
def y9(x:E)(k b:Nat):List SV:=(List.range 38).zip kB |>.map fun(j,c)=>match zu.idxOf? j with
 |some i=>.nslice (b+i) (eV (k+3*i+1)) (eV (k+3*i+2))
 |none=>aaV (nt x (.int (Int.ofNat (fB.idxOf j)))) c
def aKy:Pact:=⟨46,[.agg (y9 (eV 0) 1 0)],⟨42,13,bW (CM 1 40),kP 1 40++nA 28 31⟩,[(.tup [],⟨42,13,bW (List.replicate 13 gone),[]⟩)]⟩
def stH(W:Nat)(f:Nat->Nat)(more:List Blk):T Blk:=bW ((List.range 13).map (fun i=>
  let l:=eV (f i);let n:=eV (3*i+2);let c:=eV (3*i+3)
  if i==0 then DK l n c else if i==9 then nV l n c (eV 40)else if i==10 then nV l n c (eV 41)else if i==12 then y7 l n c else E2 l n c)++List.replicate (W-13) gone++[⟨true,.cells (y9 (eV 0) 1 0) (.int 38) 34⟩]++more)
def tS0:Tmpl:=⟨bF 131 [(1,bS 16),(2,ii (eV 48))],⟨50,17,stH 16 (fun i=>if i==0 then 49 else 3*i+1) [],kP 1 40++nA 28 31++[af (.int 0) (eV 48),af (eV 48) (eV 2)]⟩,mi (eV 2) (eV 48)⟩
def zn(p:Nat):List SV:=(List.range 4).map fun q=>let i:=1+4*p+q;.nslice i (eV (3*i+2)) (eV (3*i+3))
def pI(W lo hi u:Nat)(a:Nat)(more:List Blk):T Blk:=bW ((List.range 13).map (fun i=>
  let l:=if Nat.ble u i&&Nat.ble i hi then eV (a+i-u)else eV (3*i+1);let n:=eV (3*i+2);let c:=eV (3*i+3)
  if Nat.blt i lo then gone else if i==0 then DK l n c else if i==9 then nV l n c (eV 40)else if i==10 then nV l n c (eV 41)else if i==12 then y7 l n c else E2 l n c)++List.replicate (W-13) gone++[⟨true,.cells (y9 (eV 0) 1 0) (.int 38) 34⟩]++more)
def EW(d:Nat)(i:E):List E:=[af (.int 0) i,af i (eV (3*d+2))]
def yr(v:Nat)(n:Int):List E:=[af (.int 0) (eV v),fR (eV v) (.int n)]
def tS2:Tmpl:=⟨bF 131 [(1,bS 24),(3,ii (eV 50))],⟨59,25,pI 24 1 8 1 51 [],kP 1 40++nA 28 31++[af (.int 0) (eV 50),af (eV 50) (.int 2)]⟩,mi (.int 2) (eV 50)⟩
def tS4(p:Nat):Tmpl:=⟨bF 131 [(1,bS 32),(3,ii (eV 50)),(37,.agg (zn p)),(38,ii (eV 64))],⟨73,33,pI 32 1 8 1 65 [],kP 1 40++nA 28 31++yr 50 2++[bn (eV 50) (.int (Int.ofNat p)),af (.int 0) (eV 64),af (eV 64) (.int 4)]⟩,mi (.int 4) (eV 64)⟩
def pM(p q:Nat):Tmpl:=let d:=1+4*p+q;⟨bF 131 [(1,bS 40),(3,ii (eV 50)),(5,.nslice d (eV (3*d+2)) (eV (3*d+3))),(6,ii (eV 80)),(37,.agg (zn p)),(38,ii (eV 64))],⟨89,41,pI 40 1 8 1 81 [],kP 1 40++nA 28 31++yr 50 2++yr 64 4++[bn (eV 50) (.int (Int.ofNat p)),bn (eV 64) (.int (Int.ofNat q))]++EW d (eV 80)⟩,mi (eV (3*d+2)) (eV 80)⟩
def aFi:List Ann:=[⟨46,2,[tS2],none⟩,⟨46,4,[tS4 0,tS4 1],none⟩,⟨46,6,[pM 0 0,pM 0 1,pM 0 2,pM 0 3,pM 1 0,pM 1 1,pM 1 2,pM 1 3],none⟩]
def LS:Blk:=⟨true,.cells [.nslice 9 (eV 29) (eV 30),.nslice 10 (eV 32) (eV 33)] (.int 2) 30⟩
def Nv(W:Nat):List (Nat×SV):=[(1,bS W),(58,.nslice (W+1) (.int 2) (.int 2)),(59,ii (.int 2)),(60,ii (eV 60))]
def tS8:Tmpl:=⟨bF 131 (Nv 32),⟨63,34,pI 32 9 10 9 61 [LS],kP 1 40++nA 61 62++[af (.int 0) (eV 60),af (eV 60) (.int 2)]⟩,mi (.int 2) (eV 60)⟩
def aFj:List Ann:=[⟨46,8,[tS8],none⟩]
def ahq(m:Nat):Tmpl:=let d:=9+m;⟨bF 131 (Nv 40++[(8,.nslice d (eV (3*d+2)) (eV (3*d+3))),(9,ii (eV 68))]),⟨71,42,pI 40 9 10 9 69 [LS],kP 1 40++nA 69 70++yr 60 2++[bn (eV 60) (.int (Int.ofNat m))]++EW d (eV 68)⟩,mi (.int 40) (eV 68)⟩
def tgE(l i:E):E:=cY 2 (nt l (pl (tm i (.int 5)) (.int 4)))
def ahr(m:Nat):Tmpl:=let d:=9+m;⟨bF 131 (Nv 48++[(8,.nslice d (eV (3*d+2)) (eV (3*d+3))),(9,ii (eV 68)),(10,ii (eV 76))]),⟨79,50,pI 48 9 10 9 77 [LS],kP 1 40++nA 77 78++yr 60 2++[bn (eV 60) (.int (Int.ofNat m)),af (.int 0) (eV 68),fR (eV 68) (eV (3*d+2)),fR (eV 68) (eV (40+m)),af (.int 0) (eV 76),af (eV 76) (tgE (eV (77+m)) (eV 68))]⟩,mi (tgE (eV (77+m)) (eV 68)) (eV 76)⟩
def aFh:List Ann:=[⟨46,10,[ahq 0,ahq 1],none⟩,⟨46,12,[ahr 0,ahr 1],none⟩]
def aM8:Tmpl:=⟨bF 131 [(1,bS 40),(11,ii (eV 64))],⟨66,41,pI 40 11 11 11 65 [],kP 1 40++EW 11 (eV 64)⟩,mi (eV 35) (eV 64)⟩
def aM9:Tmpl:=⟨bF 131 [(1,bS 48),(12,ii (eV 72))],⟨74,49,pI 48 12 12 12 73 [],kP 1 40++EW 12 (eV 72)⟩,mi (eV 38) (eV 72)⟩
def aFo:List Ann:=[⟨46,0,[tS0],none⟩,⟨46,14,[aM8],none⟩,⟨46,16,[aM9],none⟩]++aFh++aFj++aFi
/-! ### a copy that is owned -/
def wJ(i:Nat):Int:=if i==0 then 12 else if i==9||i==10 then 5 else if i==12 then 2 else 1
def cpX(x:E)(k o:Nat):List E:=(List.range 13).flatMap (fun i=>
  let l:=eV (k+3*i);let n:=eV (k+3*i+1);let c:=eV (k+3*i+2);let s:=cl x (Int.ofNat (zu.getD i 0))
  (if i==9||i==10 then [ax 187 [l,s],.fn 190 l] else [ax 200 [l,s]])++[bn n (cY (wJ i) s),af (.int 0) n,af n c])++[bn (eV o) (eV (k+28)),bn (eV (o+1)) (eV (k+31))]
def aJX:Pact:=⟨55,[di (eV 0)],⟨1,0,.nil,de (eV 0)⟩,[(.agg (aIZ (eV 0) 1 0),⟨42,13,bW (CM 1 40),cpX (eV 0) 1 40⟩)]⟩
def ah7(b:Nat):SV:=.agg ((List.range 38).zip kB |>.map fun(j,c)=>match zu.idxOf? j with
 |some i=>.nslice (b+i) (.int 0) (.int 0)
 |none=>Hb c)
def ah5:List Blk:=(List.range 13).map fun i=>if i==0 then DK lF (.int 0) (.int 0)else if i==9||i==10 then nV lF (.int 0) (.int 0) (.int 0)else if i==12 then y7 lF (.int 0) (.int 0)else E2 lF (.int 0) (.int 0)
def lsX(k:Nat):List E:=(List.range 13).map fun i=>eV (k+3*i)
def aKf:Pact:=⟨15,[.agg (y9 (eV 0) 1 0),ii (eV 42),di (eV 43),ii (eV 44),di (eV 45),di (eV 46)],⟨47,13,bW (CM 1 40),kP 1 40++nA 28 31++[.fn 190 (eV 28),.fn 190 (eV 31),fnZ 221 ([eV 43,eV 0]++lsX 1),r9 (eV 43),rY (eV 43),bn (eV 42) (eV 44),r9 (eV 45),rY (eV 45),ax 189 [eV 46,eV 45]]⟩,
 [(.bool (.bool true),⟨47,13,bW (List.replicate 13 gone),[]⟩)]⟩
def agt(z:SV):Pact:=⟨15,[ah7 0,ii (eV 0),z,ii (eV 1),di (eV 2),di (eV 3)],⟨4,13,bW ah5,[bn (eV 0) (eV 1),r9 (eV 2),rY (eV 2),ax 189 [eV 3,eV 2]]⟩,
 [(.bool (.bool true),⟨4,13,bW (List.replicate 13 gone),[]⟩)]⟩
def zNl:SV:=.agg (kB.map Hb)
/-! ### the law PayPays -/
def agu(g:FuncId):Pact:=⟨g,[.bsl kC (eV 0),aeO 1,ii (eV 13)],⟨14,0,.nil,[]⟩,[(.bool (eV 14),⟨15,0,.nil,[.iff (eV 14) (ax 222 [eV 0,eV 2,eV 13])]⟩)]⟩
def agr(g:FuncId):Pact:=⟨g,[.bsl kC (eV 0),aeO 1],⟨13,0,.nil,[]⟩,[(.bool (eV 13),⟨14,0,.nil,[.iff (eV 13) (ax 223 [eV 0,eV 2])]⟩)]⟩
def yX:E:=cY 12 (eV 0)
def aHm(l i:E):E:=nt l (pl (tm i (.int 12)) (.int 0))
def afb:List E:=[af yX (.int 30),.fn 228 (eV 0),af (.int 1) (eV 1),af (eV 1) (.int 500)]
def aJU:Pact:=⟨113,[.bsl kO (eV 0),ii (eV 1),tT 114],⟨2,0,.nil,afb⟩,[(.tup [ii (eV 2),.bool (eV 3)],⟨4,0,.nil,[af (.int 0) (eV 2),af (eV 2) yX,ax 226 [eV 0,eV 1,eV 2,eV 2],.iff (eV 3) (.and (fR (eV 2) yX) (bn (aHm (eV 0) (eV 2)) (eV 1)))]⟩)]⟩
def tBf:Tmpl:=⟨bF 49 [(0,.bsl kO (eV 0)),(1,ii (eV 1)),(2,tT 114),(8,ii yX),(9,ii (eV 8)),(10,ii (eV 9))],⟨10,0,.nil,afb++[af (.int 0) (eV 8),af (eV 8) (eV 9),af (eV 9) yX,ax 226 [eV 0,eV 1,eV 8,eV 9]]⟩,mi (eV 9) (eV 8)⟩
def aES:List Ann:=[⟨113,0,[tBf],none⟩]
def aJn(l i:E):SV:=.agg ((List.range 12).map fun j=>if j<9 then ii (nt l (pl (tm i (.int 12)) (.int (Int.ofNat j))))else .bool (nt l (pl (tm i (.int 12)) (.int (Int.ofNat j)))))
def abN(k:E):E:=ax 120 [eV 0,k,ey]
def aJ8:Pact:=⟨37,[di (eV 0),ii (eV 1)],⟨2,0,.nil,de (eV 0)++[.fn 115 (eV 0),af (.int 0) (abN (eV 1))]⟩,[(aJn (cl (eV 0) 0) (eV 2),⟨3,0,.nil,[bn (eV 2) (abN (eV 1)),af (.int 0) (eV 2),fR (eV 2) ey]⟩)]⟩
def afd:List E:=de (eV 1)++[.fn 115 (eV 1),af lU (.int 12),ax 155 [eV 0,lU],af (.int 0) (eV 2),af (eV 2) (.int 1)]
def DJ(x n c:E):Blk:=⟨true,.flat kI x n c 3⟩
def aJ1:Pact:=⟨34,[.bsl kC (eV 0),di (eV 1),ii (eV 2)],⟨3,0,.nil,afd⟩,[(.nslice 0 (eV 4) (eV 5),⟨6,1,bW [DJ (eV 3) (eV 4) (eV 5)],[af (.int 0) (eV 4),af (eV 4) (eV 5),bn (ln (eV 3)) (eV 4),af (eV 4) (.int 30),ax 224 [eV 3,eV 0,eV 1,eV 2,nS]]⟩)]⟩
def aIw:List FM:=[.up kI 3]
def tCe(k:Bool):Tmpl:=let L:=if k then eV 16 else lF;⟨bF 51 [(0,.bsl kC (eV 0)),(2,ii (eV 2)),(4,bS 16),(6,.nils),(7,if k then .nslice 17 (eV 17) (eV 18)else .nils),(19,.bsl kO (cl (eV 1) 0)),(20,ii nS),(21,ii (eV 19))],
 ⟨20,if k then 18 else 17,bW (List.replicate 16 gone++[CS]++(if k then [DJ (eV 16) (eV 17) (eV 18)] else [])),afd++[af (.int 0) (eV 19),af (eV 19) nS,ax 224 [L,eV 0,eV 1,eV 2,eV 19]]++(if k then [af (.int 1) (eV 17),af (eV 17) (eV 18),bn (ln (eV 16)) (eV 17),af (eV 17) (eV 19)] else [])⟩,mi nS (eV 19)⟩
def aEX:List Ann:=[⟨34,0,[tCe true,tCe false],none⟩]
def rB(l:E):E:=cY 2 l
def GO:SV:=.agg [ii (eV 1),ii (eV 2)]
def uP:List E:=[af (rB (eV 0)) (.int 1000)]
def aJ0:Pact:=⟨54,[.bsl kT (eV 0),GO],⟨3,0,.nil,uP⟩,[(.bool (eV 3),⟨4,0,.nil,[.iff (eV 3) (ax 229 [eV 0,eV 1,eV 2,rB (eV 0)])]⟩)]⟩
def tCb:Tmpl:=⟨bF 19 [(0,.bsl kT (eV 0)),(1,GO),(3,bS 8),(6,.bsl kT (eV 0)),(7,ii (rB (eV 0))),(8,ii (eV 8))],⟨9,9,bW (List.replicate 8 gone++[⟨true,.cells [ii (eV 1),ii (eV 2)] (.int 2) 47⟩]),uP++[af (.int 0) (eV 8),af (eV 8) (rB (eV 0)),.not (ax 229 [eV 0,eV 1,eV 2,eV 8])]⟩,mi (rB (eV 0)) (eV 8)⟩
def aEW:List Ann:=[⟨91,0,[tCb],none⟩]
def Ku(e:E):Blk:=⟨true,.cells [ii e] (.int 1) 3⟩
def clB:SV:=.func (.func 53) [] [bS 0]
def aJ2:Pact:=⟨90,[.bsl kT (eV 0),clB],⟨2,1,bW [Ku (eV 1)],uP⟩,[(ii (eV 2),⟨3,1,bW [Ku (eV 1)],[.iff (af (.int 0) (eV 2)) (ax 230 [eV 0,eV 1,rB (eV 0)]),af (.int (-1)) (eV 2)]⟩)]⟩
def tCf:Tmpl:=⟨bF 19 [(0,.bsl kT (eV 0)),(1,clB),(6,.bsl kT (eV 0)),(7,ii (rB (eV 0))),(8,ii (eV 8))],⟨9,1,bW [Ku (eV 1)],uP++[af (.int 0) (eV 8),af (eV 8) (rB (eV 0)),.not (ax 230 [eV 0,eV 1,eV 8])]⟩,mi (rB (eV 0)) (eV 8)⟩
def aEY:List Ann:=[⟨90,0,[tCf],none⟩]
def aJ9:Pact:=⟨28,[.bsl kT (eV 0),GO],⟨3,0,.nil,uP⟩,[(.bool (eV 3),⟨4,0,.nil,[.iff (eV 3) (ax 229 [eV 0,eV 1,eV 2,rB (eV 0)])]⟩)]⟩
def tFh:Tmpl:=⟨bF 18 [(0,.bsl kT (eV 0)),(1,GO),(3,bS 8),(5,ii (eV 8))],⟨9,9,bW (List.replicate 8 gone++[⟨true,.cells [ii (eV 1),ii (eV 2)] (.int 2) 47⟩]),uP++[af (.int 0) (eV 8),af (eV 8) (rB (eV 0)),.not (ax 229 [eV 0,eV 1,eV 2,eV 8])]⟩,mi (rB (eV 0)) (eV 8)⟩
def aE2:List Ann:=[⟨28,0,[tFh],none⟩]
def lB:E:=cl (eV 0) 32
def aJV:Pact:=⟨57,[di (eV 0),ii (eV 1)],⟨2,0,.nil,de (eV 0)⟩,[(.bool (eV 2),⟨3,0,.nil,[.iff (eV 2) (ax 231 [lB,eV 1,rB lB])]⟩)]⟩
def tBk:Tmpl:=⟨bF 21 [(1,ii (eV 1)),(2,bS 8),(5,ii (eV 8))],⟨9,9,lL 8,de (eV 0)++[af (.int 0) (eV 8),af (eV 8) (rB lB),.not (ax 231 [lB,eV 1,eV 8])]⟩,mi (rB lB) (eV 8)⟩
def aET:List Ann:=[⟨57,0,[tBk],none⟩]
def aJZ:Pact:=⟨58,[di (eV 0),ii (eV 1)],⟨2,0,.nil,de (eV 0)++[.fn 115 (eV 0)]⟩,[(ii (eV 2),⟨3,0,.nil,[.iff (bn (eV 2) (.int 0)) (.not (ax 230 [lB,eV 1,rB lB]))]⟩)]⟩
def tBr:Tmpl:=⟨bF 27 [(1,ii (eV 1)),(2,bS 8),(5,ii (eV 8))],⟨9,9,lL 8,de (eV 0)++[.fn 115 (eV 0),af (.int 0) (eV 8),af (eV 8) (rB lB),.not (ax 230 [lB,eV 1,eV 8])]⟩,mi (rB lB) (eV 8)⟩
def aEV:List Ann:=[⟨58,0,[tBr],none⟩]
def afj:List E:=de (eV 1)++[.fn 130 (eV 1),af lU (.int 12),ax 155 [eV 0,lU],af (.int 0) (eV 2),af (eV 2) (.int 1)]
def afl:List E:=[af nI (.int 40)]
def aKv:Pact:=⟨56,[.bsl kI (eV 0)],⟨1,1,bW [gone],afl⟩,[(.bsl kI (eV 1),⟨2,1,bW [gone],[ax 152 [eV 1,eV 0,nI],bn (ln (eV 1)) nI]⟩)]⟩
def aKs:Pact:=⟨49,[.bsl kC (eV 0),di (eV 1),ii (eV 2)],⟨3,0,.nil,afj⟩,[(.bsl kI (eV 3),⟨4,0,.nil,[af (ln (eV 3)) (.int 40),ax 224 [eV 3,eV 0,eV 1,eV 2,nS]]⟩)]⟩
def Cu:E:=.ar .sub .i64 (.int 1) (cl (eV 1) 34)
def afc:List E:=de (eV 1)++[af lU (.int 12),ax 155 [eV 0,lU]]
def aI2:List E:=de (eV 1)++[.fn 115 (eV 1),af lU (.int 12),ax 155 [eV 0,lU]]
def aJW:Pact:=⟨19,[.bsl kC (eV 0),di (eV 1)],⟨2,0,.nil,afc⟩,[(.bsl kT (eV 2),⟨3,0,.nil,[.imp (.fn 115 (eV 1)) (ax 232 [eV 2,eV 0,eV 1]),.imp (.not (.fn 115 (eV 1))) (bn (rB (eV 2)) (.int 0)),af (rB (eV 2)) (.int 1000)]⟩)]⟩
def OO:E:=cl (eV 1) 31
def NE:E:=eV 25
def flA(c:E):Blk:=⟨true,.flat kI NE (eV 26) c 3⟩
def DI(x n c:E):Blk:=⟨true,.flat kT x n c 47⟩
def ae8:List E:=aI2++[af (eV 26) (eV 20),bn (ln (eV 25)) (eV 26),af (eV 26) (.int 30),ax 152 [eV 25,OO,ln OO],af (.int 0) Cu,af Cu (.int 1),af (eV 22) (.int 30),af (eV 22) (eV 23),bn (ln (eV 21)) (eV 22),ax 224 [eV 21,eV 0,eV 1,Cu,nS],af (.int 0) (eV 24),af (eV 24) (eV 22)]
def LF(k:Bool):List Blk:=List.replicate 16 gone++[CS,flA (eV 20),DJ (eV 21) (eV 22) (eV 23),if k then DI (eV 27) (eV 28) (eV 29)else gone]
def acT(k:Bool)(m:E):E:=ax 227 [if k then eV 27 else lF,eV 0,eV 1,eV 21,NE,eV 24,m]
def aeY(k:Bool):List E:=if k then [af (.int 1) (eV 28),af (eV 28) (eV 29),bn (ln (eV 27)) (tm (eV 28) (.int 2))] else []
def ahn(k:Bool):Tmpl:=⟨bF 94 [(0,.bsl kC (eV 0)),(3,bS 16),(4,.nils),(5,if k then .nslice 19 (eV 28) (eV 29)else .nils),(6,.nslice 17 (eV 26) (eV 20)),(28,.nslice 18 (eV 22) (eV 23)),(29,ii (eV 22)),(30,ii (eV 24))],⟨30,20,bW (LF k),ae8++aeY k++[acT k (.int 0)]⟩,mi (eV 22) (eV 24)⟩
def aJo(l i:E):List SV:=(List.range 12).map fun j=>if j<9 then ii (nt l (pl (tm i (.int 12)) (.int (Int.ofNat j))))else .bool (nt l (pl (tm i (.int 12)) (.int (Int.ofNat j))))
def oX:E:=cl (eV 1) 32
def yi:E:=nt (eV 21) (eV 24)
def ahx:E:=nt (cl (eV 1) 0) (pl (tm (eV 30) (.int 12)) (.int 9))
def oB:Blk:=⟨true,.cells (aJo (cl (eV 1) 0) (eV 30)) (.int 12) 60⟩
def ae9:List E:=ae8++[fR (eV 24) (eV 22),bn (eV 30) (ax 120 [eV 1,yi,nS]),af (.int 0) (eV 30),fR (eV 30) nS]
def aho(k:Bool):Tmpl:=⟨bF 94 [(0,.bsl kC (eV 0)),(3,bS 16),(4,.nils),(5,if k then .nslice 19 (eV 28) (eV 29)else .nils),(6,.nslice 17 (eV 26) (eV 20)),(8,ii yi),(9,bS 20),(28,.nslice 18 (eV 22) (eV 23)),(29,ii (eV 22)),(30,ii (eV 24)),(38,.bsl kT oX),(39,ii (rB oX)),(40,ii (eV 31))],
 ⟨32,21,bW (LF k++[oB]),ae9++aeY k++[acT k (.int 0),af (.int 0) (eV 31),af (eV 31) (rB oX),.not (ax 231 [oX,yi,eV 31]),.imp (fR (.int 0) (eV 31)) (.not ahx)]⟩,mi (rB oX) (eV 31)⟩
def ahp(k:Bool):Tmpl:=⟨bF 94 [(0,.bsl kC (eV 0)),(3,bS 16),(4,.nils),(5,if k then .nslice 21 (eV 34) (eV 35)else .nils),(6,.nslice 17 (eV 26) (eV 20)),(8,ii yi),(9,bS 20),(28,.nslice 18 (eV 22) (eV 23)),(29,ii (eV 22)),(30,ii (eV 24)),(53,.nslice 17 (eV 26) (eV 20)),(54,ii (eV 26)),(55,ii (eV 32))],
 ⟨36,22,bW (LF false++[oB,if k then DI (eV 33) (eV 34) (eV 35)else gone]),ae9++(if k then [af (.int 1) (eV 34),af (eV 34) (eV 35),bn (ln (eV 33)) (tm (eV 34) (.int 2))] else [])++[ax 227 [if k then eV 33 else lF,eV 0,eV 1,eV 21,NE,eV 24,eV 32],af (.int 0) (eV 32),af (eV 32) (eV 26),.not (ax 231 [oX,yi,rB oX]),.imp (fR (.int 0) (rB oX)) (.not ahx)]⟩,mi (eV 26) (eV 32)⟩
def aEU:List Ann:=[⟨19,0,[ahn false,ahn true],none⟩,⟨19,2,[aho false,aho true],none⟩,⟨19,4,[ahp false,ahp true],none⟩]
def Oe(k:Bool):Tmpl:=⟨bF 46 [(0,.bsl kI (eV 0)),(2,.nils),(3,if k then .nslice 8 (eV 9) (eV 10)else .nils),(4,ii (eV 11))],⟨12,9,bW (List.replicate 8 gone++[if k then nF (eV 8) (eV 9) (eV 10)else gone]),
 afl++(if k then [af (.int 1) (eV 11),af (eV 11) nI,bn (eV 9) (eV 11),af (eV 9) (eV 10),bn (ln (eV 8)) (eV 9),ax 152 [eV 8,eV 0,eV 11]] else [bn (eV 11) (.int 0)])⟩,mi nI (eV 11)⟩
def ahs(k:Bool):Tmpl:=⟨bF 46 [(0,.bsl kI (eV 0)),(2,.nils),(3,if k then .nslice 8 (eV 9) (eV 10)else .nils),(4,ii (eV 11)),(5,ii (if k then eV 16 else .int 0))],⟨17,9,bW (List.replicate 8 gone++[if k then nF (eV 8) (eV 9) (eV 10)else gone]),
 (Oe k).st.pc++[fR (eV 11) nI]++(if k then [af (.int 0) (eV 16),af (eV 16) (eV 9),ax 160 [eV 8,nt (eV 0) (eV 11),eV 16]] else [])⟩,if k then mi (eV 9) (eV 16)else .int 0⟩
def aFl:List Ann:=[⟨56,0,[Oe false,Oe true],none⟩,⟨56,2,[ahs false,ahs true],none⟩]
def tRe(k:Bool):Tmpl:=let L:=if k then eV 16 else lF;⟨bF 36 [(0,.bsl kC (eV 0)),(4,bS 16),(6,.nils),(7,if k then .nslice 17 (eV 17) (eV 18)else .nils),(14,.bsl kI (eV 19)),(15,ii (ln (eV 19))),(16,ii (eV 20))],⟨21,18,bW (List.replicate 16 gone++[CS,if k then DJ (eV 16) (eV 17) (eV 18)else gone]),
 afj++[ax 109 [eV 19,eV 1,eV 2,.int 2],af (ln (eV 19)) (.int 40),af (.int 0) (eV 20),af (eV 20) (ln (eV 19)),ax 225 [L,eV 0,eV 1,eV 2,eV 20]]++(if k then [af (.int 1) (eV 17),af (eV 17) (eV 18),bn (ln (eV 16)) (eV 17),af (eV 17) (eV 20)] else [])⟩,mi (ln (eV 19)) (eV 20)⟩
def aFg:List Ann:=[⟨49,0,[tRe false,tRe true],none⟩]
/-! ### a block is made -/
def Du:E:=ax 234 [eV 0,eV 1,eV 2,eV 3]
def Ow:SV:=.agg [ii (eV 2),ii (eV 3)]
def aaL(n:Int)(l:List E):SV×St:=(.tup [ah7 0,ii (.int n)],⟨4,13,bW ah5,l⟩)
def cpY(x:E)(k o:Nat):List E:=(List.range 12).flatMap (fun i=>
  let l:=eV (k+3*i);let n:=eV (k+3*i+1);let c:=eV (k+3*i+2);let s:=cl x (Int.ofNat (zu.getD i 0))
  (if i==9||i==10 then [ax 187 [l,s],.fn 190 l] else [ax 200 [l,s]])++[bn n (cY (wJ i) s),af (.int 0) n,af n c])++[bn (eV o) (eV (k+28)),bn (eV (o+1)) (eV (k+31))] ++
 [bn (eV (k+37)) (pl (cY 2 (cl x 32)) (.int 1)),af (eV (k+37)) (eV (k+38))]
def aJY:Pact:=⟨20,[.bsl kC (eV 0),di (eV 1),Ow],⟨4,0,.nil,afc⟩,[aaL 2 [.not (.fn 115 (eV 1))],aaL 14 [.fn 115 (eV 1),.not Du],
 (.tup [.agg (y9 (eV 4) 5 0),ii (.int 0)],⟨46,13,bW (CM 5 44),[.fn 115 (eV 1),Du,ax 236 [eV 4,eV 1],ax 233 [eV 41,cl (eV 1) 32,eV 2,eV 3]]++cpY (eV 1) 5 44⟩)]⟩
def aIz:List FM:=(List.range 38).zip kB |>.map fun(j,c)=>match c with
 |.slc ks=>.up ks (if j==0 then 60 else if j==29||j==30 then 80 else if j==32 then 47 else 3)
 |_=>.stay
def aIX(b:Nat)(x e n c:E):SV:=.agg ((qZ e 0 kB).take 32++[.nslice b n c]++(qZ x 0 kB).drop 33)
def aFI:E:=cY 2 (cl (eV 0) 32)
def aKB:Pact:=⟨11,[di (eV 0)],⟨1,0,.nil,de (eV 0)⟩,[(aIX 0 (eV 0) (eV 1) (eV 2) (eV 3),⟨5,1,bW [y7 (eV 4) (eV 2) (eV 3)],[ax 238 [eV 1,eV 0],ax 200 [eV 4,cl (eV 0) 32],bn (eV 2) aFI,af (.int 0) (eV 2),af (eV 2) (eV 3)]⟩)]⟩
def aIA:List FM:=yW.set 32 (.up kT 47)
def ah6:SV:=.agg ((kB.map Hb).set 32 (.bsl kT (.fn 30 (.int 0))))
def MW:List E:=de (eV 1)++[.fn 130 (eV 1),af lU (.int 12),ax 155 [eV 0,lU]]
def aKe:Pact:=⟨23,[.bsl kC (eV 0),di (eV 1)],⟨2,0,.nil,MW⟩,[(.bsl kT (eV 2),⟨3,0,.nil,[ax 232 [eV 2,eV 0,eV 1],af (rB (eV 2)) (.int 1000)]⟩)]⟩
def aJ6:Pact:=⟨21,[.bsl kC (eV 0),di (eV 1),Ow],⟨4,0,.nil,MW⟩,[(.tup [ah6,ii (.int 14)],⟨4,0,.nil,[.not Du]⟩),
 (.tup [di (eV 4),ii (.int 0)],⟨5,0,.nil,[Du,ax 235 [eV 4,eV 1,.int 32],ax 233 [cl (eV 4) 32,cl (eV 1) 32,eV 2,eV 3],r9 (eV 4),rY (eV 4)]⟩)]⟩
def aIy:List FM:=List.replicate 32 .stay++[.down kT]
def aff:List E:=[bn (rB (eV 0)) (rB (eV 1)),af (rB (eV 0)) (.int 1000),ax 237 [eV 0,eV 1]]
def aKc:Pact:=⟨22,[.bsl kT (eV 0),.bsl kT (eV 1)],⟨2,0,.nil,aff⟩,zI 2⟩
def tFm:Tmpl:=⟨bF 26 [(0,.bsl kT (eV 0)),(1,.bsl kT (eV 1)),(5,ii (eV 8))],⟨9,0,.nil,aff++[af (.int 0) (eV 8),af (eV 8) (rB (eV 0))]⟩,mi (rB (eV 0)) (eV 8)⟩
def aE4:List Ann:=[⟨22,0,[tFm],none⟩]
def EP:E:=ln (eV 2)
def Mw:E:=ln (cl (eV 1) 31)
def afg:List E:=MW++[af EP (.int 40),ax 224 [eV 2,eV 0,eV 1,Cu,nS],bn (ln (eV 3)) Mw,af Mw (.int 30),ax 152 [eV 3,cl (eV 1) 31,Mw]]
def hpF(k:Bool)(more:List Blk):T Blk:=bW (List.replicate 16 gone++[CS,if k then DI (eV 17) (eV 18) (eV 19)else gone]++more)
def pcO(v:Nat):List E:=[af (.int 1) (eV (v+1)),af (eV (v+1)) (eV (v+2)),bn (ln (eV v)) (tm (eV (v+1)) (.int 2))]
def tF0(k:Bool):Tmpl:=⟨bF 90 [(0,.bsl kC (eV 0)),(3,bS 16),(4,.nils),(5,if k then .nslice 17 (eV 18) (eV 19)else .nils),(6,.bsl kI (eV 2)),(7,.bsl kI (eV 3)),(8,ii (eV 16))],⟨20,18,hpF k [],
 afg++(if k then pcO 17 else [])++[af (.int 0) (eV 16),af (eV 16) EP,ax 227 [if k then eV 17 else lF,eV 0,eV 1,eV 2,eV 3,eV 16,.int 0]]⟩,mi EP (eV 16)⟩
def tF2(k:Bool):Tmpl:=⟨bF 90 [(0,.bsl kC (eV 0)),(3,bS 16),(4,.nils),(5,if k then .nslice 18 (eV 26) (eV 27)else .nils),(6,.bsl kI (eV 2)),(7,.bsl kI (eV 3)),(8,ii (eV 16)),(9,ii (eV 24))],⟨28,19,hpF false [if k then DI (eV 25) (eV 26) (eV 27)else gone],
 afg++(if k then pcO 25 else [])++[af (.int 0) (eV 16),fR (eV 16) EP,af (.int 0) (eV 24),af (eV 24) (ln (eV 3)),ax 227 [if k then eV 25 else lF,eV 0,eV 1,eV 2,eV 3,eV 16,eV 24]]⟩,mi (ln (eV 3)) (eV 24)⟩
def aE6:List Ann:=[⟨23,0,[tF0 false,tF0 true],none⟩,⟨23,2,[tF2 false,tF2 true],none⟩]
def uh(i c o d:Int)(t s m:Bool):List SV:=[li i,li c,li o,li 0,li 0,li d,li 0,li 0,li 0,.bool (.bool t),.bool (.bool s),.bool (.bool m)]
def kx(k:Nat):(Bool×Bool×Bool)×Int×List Int×List Int:=match k with
 |0=>((false,false,false),20,[],[]) | 1=>((true,false,false),20,[1],[]) | 2=>((true,false,false),20,[1,3],[])
 |3=>((true,true,false),20,[1,3,2],[]) | 4=>((true,true,false),20,[1,3,2],[4,3]) | _=>((true,true,true),17,[],[])
def LW(b v:Nat)(w:Nat)(l:List Int):SV:=match l with | []=>.nils | _=>.nslice b (.int (Int.ofNat (l.length/w))) (.var v)
def LY(b v k:Nat):SV:=let x:=kx k;.agg ([.nslice b (.int 6) (.var v),li 20,li 0,li 0,li 0,li 0,.nils,.nils,.nslice (b+1) (.int 3) (.var (v+1)),.nils]++noB++[li 0,li 0,li x.2.1,li 0,li 0,li 0,li 0,.nils,.nils,.nslice (b+2) (.int 3) (.var (v+2)),.nils]++noB ++
 [li 0,li 0,.nils,.nils,LW (b+3) (v+3) 1 x.2.2.1,LW (b+4) (v+4) 2 x.2.2.2,li 0,li 0,li 0,li (-1),li 0])
def uf(v:Nat)(w:Int)(t:TypeId)(l:List SV):List Blk:=match l with | []=>[] | _=>[⟨true,.cells l (if w==1 then .var v else .fn 8 (.pr (.var v) (.int w))) t⟩]
def yy(v k:Nat):List Blk:=let x:=kx k;let h:=x.1.2.2
 uf v 12 60 (uh 1 0 0 0 x.1.1 false false++uh 2 1 0 0 x.1.2.1 false false++uh 3 2 0 (if h then 2 else 0) false true false++uh 4 0 1 (if h then 1 else 0) false false h++uh 5 0 1 0 false false false++uh 6 1 1 0 false false false) ++
 uf (v+1) 1 3 [li 1,li 2,li 3]++uf (v+2) 1 3 [li 4,li 5,li 6]++uf (v+3) 1 3 (x.2.2.1.map li)++uf (v+4) 2 47 (x.2.2.2.map li)
def ug(v:Nat)(n:Nat):List E:=match n with | 0=>[] | _=>[af (.int (Int.ofNat n)) (.var v),af (.int 0) (.var v)]
def yz(v k:Nat):List E:=let x:=kx k;ug v 6++ug (v+1) 3++ug (v+2) 3++ug (v+3) x.2.2.1.length++ug (v+4) (x.2.2.2.length/2)
def gz(k:Nat):Nat:=match k with | 0=>3 | 4=>5 | 5=>3 | _=>4
def LU(c p t w:Int):List SV:=[.str (.str ⟨#[]⟩),li 2,li 0,li 0,li 0,li 0,li 0,li 0,li p,li t,li w,.nils,.nils,li 0]
def LV:Blk:=⟨true,.cells (LU 0 2 2 0++LU 1 1 1 2++LU 2 1 3 13) (.int 42) 71⟩
def ru(k:Nat):St:=⟨gz k,gz k+1,bW (LV::yy 0 k),yz 0 k⟩
def ue(k:Nat)(more:List SV):List SV:=.nslice 0 (.int 3) (.int 3)::LY 1 0 k::more
def LX(k j:Nat)(r:SV->SV):SV×St:=(r (LY (gz k+1) (gz k) j),⟨gz k+gz j,gz k+gz j+1,bW (LV::yy 0 k++yy (gz k) j),yz (gz k) j++yz 0 k⟩)
def aKo:Pact:=⟨31,[],⟨0,0,.nil,[]⟩,[(LY 0 0 0,⟨3,3,bW (yy 0 0),yz 0 0⟩)]⟩
def agx(f:FuncId)(k:Nat)(w:Nat)(t:TypeId)(l:List Int):Pact:=⟨f,ue k [],ru k,[(LW (gz k+1) (gz k) w l,⟨gz k+1,gz k+2,bW (LV::yy 0 k++uf (gz k) (Int.ofNat w) t (l.map li)),ug (gz k) (l.length/w)++yz 0 k⟩)]⟩
def Nz(k j:Nat)(id:Int):Pact:=⟨13,ue k [li id],ru k,[LX k j fun v=>.tup [v,li 0]]⟩
def aKm(k j:Nat)(x y:Int):Pact:=⟨20,ue k [.agg [li x,li y]],ru k,[LX k j fun v=>.tup [v,li 0]]⟩
def aKn(k j:Nat):Pact:=⟨24,ue k [],ru k,[LX k j id]⟩
def kNo(k:Nat):List (SV×St):=[(.tup [zNl,li 14],ru k)]
def aKl(k:Nat)(id:Int):Pact:=⟨13,ue k [li id],ru k,kNo k⟩
def agw(k:Nat)(x y:Int):Pact:=⟨20,ue k [.agg [li x,li y]],ru k,kNo k⟩
def MY:List E:=[r9 (eV 1)]
def aFx:List SV:=[.bsl kC (eV 0),di (eV 1),Ow]
theorem aNT:∀F:Env,E.B F vw=true:=fun F=>rfl
structure Nl where
 l:List Nat1
 h:∀x∈l,aL Tryz.prog x
def nc{x:Nat1}(h:aL Tryz.prog x)(n:Nl):Nl:=⟨x::n.l,fun y hy=>(List.mem_cons.1 hy).elim (fun e=>e▸h) (n.h y)⟩
theorem sc{s:Pact}(f:List Fa)(a:List Ann)(n:Nl)(ms:List FM)(ha:Fw a=true)(h:mq Tryz.prog (fun tb=>NB Tryz.prog (tb.plus (fl f) a n.l) 3000 ms s)=true):aL Tryz.prog (bh s):=
 agA good (facts:=fl f) (nG f) (anns:=a) (lY a ha) (nats:=n.l) n.h (n:=3000) (ms:=ms) h
def adw:Nl:=⟨nats,nats_ok⟩
def p0:List Fa:=[]
theorem aKD:aL Tryz.prog (bh (aKo)):=sc p0 ([]) adw ([]) (by kernel_rfl) (by kernel_rfl)
def adx:Nl:=nc aKD adw
def p1:List Fa:=[]
theorem aKO:aL Tryz.prog (bh (agx 12 0 1 3 [1,2,3])):=sc p1 ([]) adx ([]) (by kernel_rfl) (by kernel_rfl)
def adH:Nl:=nc aKO adx
def p2:List Fa:=[]
theorem aKZ:aL Tryz.prog (bh (Nz 0 1 1)):=sc p2 ([]) adH ([]) (by kernel_rfl) (by kernel_rfl)
def adS:Nl:=nc aKZ adH
def p3:List Fa:=[]
theorem aLa:aL Tryz.prog (bh (Nz 1 2 3)):=sc p3 ([]) adS ([]) (by kernel_rfl) (by kernel_rfl)
def ad1:Nl:=nc aLa adS
end
end Go.Proofs.YtnggbcblogpnfaaGreat.combatBlocks
