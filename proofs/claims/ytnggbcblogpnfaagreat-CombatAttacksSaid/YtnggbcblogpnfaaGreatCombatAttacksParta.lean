/-
  CombatAttacks: contracts of functions, part 1.
-/
import Derived.Test.YtnggbcblogpnfaaGreatRows
import Derived.Test.YtnggbcblogpnfaaGreatNat
import Derived.WalkKit
import Derived.ProofKit
import Derived.OpenShut
import Derived.ChangeOld
import Derived.Below
import Derived.KernelRfl
import Derived.Lib.SmallJoins
import Derived.Laws.IdiomArrays
namespace Go.Proofs.YtnggbcblogpnfaaGreat.combatAttacks
open Go.ChangeShapes Go.WideShapes Go.ChangeAt Go.RowKit
open Go.SX
open Go.SX.E (fn pr cmp var)
set_option linter.unusedVariables false
set_option linter.unusedSimpArgs false
set_option maxRecDepth 100000
noncomputable section
theorem own:ownKnob Tryz.prog.godebug=none:=by kernel_rfl
theorem laidOut:laidOutB Tryz.prog=true:=by kernel_rfl
theorem good:kq Tryz.prog=true:=by kernel_rfl

theorem aD9{H:Type}:BulkOk (xu (H:=H)) tc:=Zx
theorem aLK{us:List U}(h:us.length=38)(t:U.typs us np []=true):s7 (.lst us)=true:=aDT h t

abbrev Tr(f:E):Prop:=∀F:Env,E.B F f=true
theorem ac{e:E}{l:List E}(h:Tr e)(hl:∀e∈l,Tr e):∀x∈e::l,Tr x:=all_cons h hl
structure Fa where
 e:E
 t:Tr e
def fa(e:E)(t:Tr e):Fa:=⟨e,t⟩
def Zd:E->List E->E
 |a,[]=>a
 |a,b::l=>.and a (Zd b l)
def cB:List E->E->E
 |[],d=>d
 |a::l,d=>.imp (Zd a l) d
def fb(l:List E)(d:E)(t:Tr (cB l d)):Fa:=⟨cB l d,t⟩
def fl:List Fa->List E
 |[]=>[]
 |x::l=>x.e::fl l
theorem na:∀l:List Fa,∀e∈fl l,Tr e
 |[],e,h=>by cases h
 |x::l,e,h=>(List.mem_cons.1 h).elim (fun h=>h▸x.t) (na l e)
def cY:Fa:=fa vb fun F=>rfl
theorem ah{a0 d:E}(h:∀F:Env,E.B F a0=true->E.B F d=true):Tr (cB [a0] d):=fun F=>by
 show E.B F (.imp a0 d)=true
 rw[aG]
 rintro p0
 exact h F p0
theorem ap{a0 a1 d:E}(h:∀F:Env,E.B F a0=true->E.B F a1=true->E.B F d=true):Tr (cB [a0,a1] d):=fun F=>by
 show E.B F (.imp (.and a0 a1) d)=true
 rw[aG]
 simp only[cz]
 rintro⟨p0,p1⟩
 exact h F p0 p1
theorem am{a0 a1 a2 d:E}(h:∀F:Env,E.B F a0=true->E.B F a1=true->E.B F a2=true->E.B F d=true):Tr (cB [a0,a1,a2] d):=fun F=>by
 show E.B F (.imp (.and a0 (.and a1 a2)) d)=true
 rw[aG]
 simp only[cz]
 rintro⟨p0,p1,p2⟩
 exact h F p0 p1 p2
theorem aB{a0 a1 a2 a3 d:E}(h:∀F:Env,E.B F a0=true->E.B F a1=true->E.B F a2=true->E.B F a3=true->E.B F d=true):Tr (cB [a0,a1,a2,a3] d):=fun F=>by
 show E.B F (.imp (.and a0 (.and a1 (.and a2 a3))) d)=true
 rw[aG]
 simp only[cz]
 rintro⟨p0,p1,p2,p3⟩
 exact h F p0 p1 p2 p3
theorem aK{a0 a1 a2 a3 a4 d:E}(h:∀F:Env,E.B F a0=true->E.B F a1=true->E.B F a2=true->E.B F a3=true->E.B F a4=true->E.B F d=true):Tr (cB [a0,a1,a2,a3,a4] d):=fun F=>by
 show E.B F (.imp (.and a0 (.and a1 (.and a2 (.and a3 a4)))) d)=true
 rw[aG]
 simp only[cz]
 rintro⟨p0,p1,p2,p3,p4⟩
 exact h F p0 p1 p2 p3 p4
theorem bL{a0 a1 a2 a3 a4 a5 d:E}(h:∀F:Env,E.B F a0=true->E.B F a1=true->E.B F a2=true->E.B F a3=true->E.B F a4=true->E.B F a5=true->E.B F d=true):Tr (cB [a0,a1,a2,a3,a4,a5] d):=fun F=>by
 show E.B F (.imp (.and a0 (.and a1 (.and a2 (.and a3 (.and a4 a5))))) d)=true
 rw[aG]
 simp only[cz]
 rintro⟨p0,p1,p2,p3,p4,p5⟩
 exact h F p0 p1 p2 p3 p4 p5
theorem cV{a0 a1 a2 a3 a4 a5 a6 d:E}(h:∀F:Env,E.B F a0=true->E.B F a1=true->E.B F a2=true->E.B F a3=true->E.B F a4=true->E.B F a5=true->E.B F a6=true->E.B F d=true):Tr (cB [a0,a1,a2,a3,a4,a5,a6] d):=fun F=>by
 show E.B F (.imp (.and a0 (.and a1 (.and a2 (.and a3 (.and a4 (.and a5 a6)))))) d)=true
 rw[aG]
 simp only[cz]
 rintro⟨p0,p1,p2,p3,p4,p5,p6⟩
 exact h F p0 p1 p2 p3 p4 p5 p6
theorem c9{a0 a1 a2 a3 a4 a5 a6 a7 d:E}(h:∀F:Env,E.B F a0=true->E.B F a1=true->E.B F a2=true->E.B F a3=true->E.B F a4=true->E.B F a5=true->E.B F a6=true->E.B F a7=true->E.B F d=true):Tr (cB [a0,a1,a2,a3,a4,a5,a6,a7] d):=fun F=>by
 show E.B F (.imp (.and a0 (.and a1 (.and a2 (.and a3 (.and a4 (.and a5 (.and a6 a7))))))) d)=true
 rw[aG]
 simp only[cz]
 rintro⟨p0,p1,p2,p3,p4,p5,p6,p7⟩
 exact h F p0 p1 p2 p3 p4 p5 p6 p7
theorem di{a0 a1 a2 a3 a4 a5 a6 a7 a8 d:E}(h:∀F:Env,E.B F a0=true->E.B F a1=true->E.B F a2=true->E.B F a3=true->E.B F a4=true->E.B F a5=true->E.B F a6=true->E.B F a7=true->E.B F a8=true->E.B F d=true):Tr (cB [a0,a1,a2,a3,a4,a5,a6,a7,a8] d):=fun F=>by
 show E.B F (.imp (.and a0 (.and a1 (.and a2 (.and a3 (.and a4 (.and a5 (.and a6 (.and a7 a8)))))))) d)=true
 rw[aG]
 simp only[cz]
 rintro⟨p0,p1,p2,p3,p4,p5,p6,p7,p8⟩
 exact h F p0 p1 p2 p3 p4 p5 p6 p7 p8
theorem eR{a0 a1 a2 a3 a4 a5 a6 a7 a8 a9 d:E}(h:∀F:Env,E.B F a0=true->E.B F a1=true->E.B F a2=true->E.B F a3=true->E.B F a4=true->E.B F a5=true->E.B F a6=true->E.B F a7=true->E.B F a8=true->E.B F a9=true->E.B F d=true):Tr (cB [a0,a1,a2,a3,a4,a5,a6,a7,a8,a9] d):=fun F=>by
 show E.B F (.imp (.and a0 (.and a1 (.and a2 (.and a3 (.and a4 (.and a5 (.and a6 (.and a7 (.and a8 a9))))))))) d)=true
 rw[aG]
 simp only[cz]
 rintro⟨p0,p1,p2,p3,p4,p5,p6,p7,p8,p9⟩
 exact h F p0 p1 p2 p3 p4 p5 p6 p7 p8 p9
theorem eS{a0 a1 a2 a3 a4 a5 a6 a7 a8 a9 a10 d:E}(h:∀F:Env,E.B F a0=true->E.B F a1=true->E.B F a2=true->E.B F a3=true->E.B F a4=true->E.B F a5=true->E.B F a6=true->E.B F a7=true->E.B F a8=true->E.B F a9=true->E.B F a10=true->E.B F d=true):Tr (cB [a0,a1,a2,a3,a4,a5,a6,a7,a8,a9,a10] d):=fun F=>by
 show E.B F (.imp (.and a0 (.and a1 (.and a2 (.and a3 (.and a4 (.and a5 (.and a6 (.and a7 (.and a8 (.and a9 a10)))))))))) d)=true
 rw[aG]
 simp only[cz]
 rintro⟨p0,p1,p2,p3,p4,p5,p6,p7,p8,p9,ai⟩
 exact h F p0 p1 p2 p3 p4 p5 p6 p7 p8 p9 ai
theorem jq{a0 a1 a2 a3 a4 a5 a6 a7 a8 a9 a10 a11 d:E}(h:∀F:Env,E.B F a0=true->E.B F a1=true->E.B F a2=true->E.B F a3=true->E.B F a4=true->E.B F a5=true->E.B F a6=true->E.B F a7=true->E.B F a8=true->E.B F a9=true->E.B F a10=true->E.B F a11=true->E.B F d=true):Tr (cB [a0,a1,a2,a3,a4,a5,a6,a7,a8,a9,a10,a11] d):=fun F=>by
 show E.B F (.imp (.and a0 (.and a1 (.and a2 (.and a3 (.and a4 (.and a5 (.and a6 (.and a7 (.and a8 (.and a9 (.and a10 a11))))))))))) d)=true
 rw[aG]
 simp only[cz]
 rintro⟨p0,p1,p2,p3,p4,p5,p6,p7,p8,p9,ai,ao⟩
 exact h F p0 p1 p2 p3 p4 p5 p6 p7 p8 p9 ai ao
theorem jr{a0 a1 a2 a3 a4 a5 a6 a7 a8 a9 a10 a11 a12 d:E}(h:∀F:Env,E.B F a0=true->E.B F a1=true->E.B F a2=true->E.B F a3=true->E.B F a4=true->E.B F a5=true->E.B F a6=true->E.B F a7=true->E.B F a8=true->E.B F a9=true->E.B F a10=true->E.B F a11=true->E.B F a12=true->E.B F d=true):Tr (cB [a0,a1,a2,a3,a4,a5,a6,a7,a8,a9,a10,a11,a12] d):=fun F=>by
 show E.B F (.imp (.and a0 (.and a1 (.and a2 (.and a3 (.and a4 (.and a5 (.and a6 (.and a7 (.and a8 (.and a9 (.and a10 (.and a11 a12)))))))))))) d)=true
 rw[aG]
 simp only[cz]
 rintro⟨p0,p1,p2,p3,p4,p5,p6,p7,p8,p9,ai,ao,aq⟩
 exact h F p0 p1 p2 p3 p4 p5 p6 p7 p8 p9 ai ao aq
theorem DD{a0 a1 a2 a3 a4 a5 a6 a7 a8 a9 a10 a11 a12 a13 d:E}(h:∀F:Env,E.B F a0=true->E.B F a1=true->E.B F a2=true->E.B F a3=true->E.B F a4=true->E.B F a5=true->E.B F a6=true->E.B F a7=true->E.B F a8=true->E.B F a9=true->E.B F a10=true->E.B F a11=true->E.B F a12=true->E.B F a13=true->E.B F d=true):Tr (cB [a0,a1,a2,a3,a4,a5,a6,a7,a8,a9,a10,a11,a12,a13] d):=fun F=>by
 show E.B F (.imp (.and a0 (.and a1 (.and a2 (.and a3 (.and a4 (.and a5 (.and a6 (.and a7 (.and a8 (.and a9 (.and a10 (.and a11 (.and a12 a13))))))))))))) d)=true
 rw[aG]
 simp only[cz]
 rintro⟨p0,p1,p2,p3,p4,p5,p6,p7,p8,p9,ai,ao,aq,ax⟩
 exact h F p0 p1 p2 p3 p4 p5 p6 p7 p8 p9 ai ao aq ax
theorem tB{a0 a1 a2 a3 a4 a5 a6 a7 a8 a9 a10 a11 a12 a13 a14 d:E}(h:∀F:Env,E.B F a0=true->E.B F a1=true->E.B F a2=true->E.B F a3=true->E.B F a4=true->E.B F a5=true->E.B F a6=true->E.B F a7=true->E.B F a8=true->E.B F a9=true->E.B F a10=true->E.B F a11=true->E.B F a12=true->E.B F a13=true->E.B F a14=true->E.B F d=true):Tr (cB [a0,a1,a2,a3,a4,a5,a6,a7,a8,a9,a10,a11,a12,a13,a14] d):=fun F=>by
 show E.B F (.imp (.and a0 (.and a1 (.and a2 (.and a3 (.and a4 (.and a5 (.and a6 (.and a7 (.and a8 (.and a9 (.and a10 (.and a11 (.and a12 (.and a13 a14)))))))))))))) d)=true
 rw[aG]
 simp only[cz]
 rintro⟨p0,p1,p2,p3,p4,p5,p6,p7,p8,p9,ai,ao,aq,ax,aA⟩
 exact h F p0 p1 p2 p3 p4 p5 p6 p7 p8 p9 ai ao aq ax aA
theorem qT{a0 a1 a2 a3 a4 a5 a6 a7 a8 a9 a10 a11 a12 a13 a14 a15 d:E}(h:∀F:Env,E.B F a0=true->E.B F a1=true->E.B F a2=true->E.B F a3=true->E.B F a4=true->E.B F a5=true->E.B F a6=true->E.B F a7=true->E.B F a8=true->E.B F a9=true->E.B F a10=true->E.B F a11=true->E.B F a12=true->E.B F a13=true->E.B F a14=true->E.B F a15=true->E.B F d=true):Tr (cB [a0,a1,a2,a3,a4,a5,a6,a7,a8,a9,a10,a11,a12,a13,a14,a15] d):=fun F=>by
 show E.B F (.imp (.and a0 (.and a1 (.and a2 (.and a3 (.and a4 (.and a5 (.and a6 (.and a7 (.and a8 (.and a9 (.and a10 (.and a11 (.and a12 (.and a13 (.and a14 a15))))))))))))))) d)=true
 rw[aG]
 simp only[cz]
 rintro⟨p0,p1,p2,p3,p4,p5,p6,p7,p8,p9,ai,ao,aq,ax,aA,aC⟩
 exact h F p0 p1 p2 p3 p4 p5 p6 p7 p8 p9 ai ao aq ax aA aC
theorem tC{a0 a1 a2 a3 a4 a5 a6 a7 a8 a9 a10 a11 a12 a13 a14 a15 a16 d:E}(h:∀F:Env,E.B F a0=true->E.B F a1=true->E.B F a2=true->E.B F a3=true->E.B F a4=true->E.B F a5=true->E.B F a6=true->E.B F a7=true->E.B F a8=true->E.B F a9=true->E.B F a10=true->E.B F a11=true->E.B F a12=true->E.B F a13=true->E.B F a14=true->E.B F a15=true->E.B F a16=true->E.B F d=true):Tr (cB [a0,a1,a2,a3,a4,a5,a6,a7,a8,a9,a10,a11,a12,a13,a14,a15,a16] d):=fun F=>by
 show E.B F (.imp (.and a0 (.and a1 (.and a2 (.and a3 (.and a4 (.and a5 (.and a6 (.and a7 (.and a8 (.and a9 (.and a10 (.and a11 (.and a12 (.and a13 (.and a14 (.and a15 a16)))))))))))))))) d)=true
 rw[aG]
 simp only[cz]
 rintro⟨p0,p1,p2,p3,p4,p5,p6,p7,p8,p9,ai,ao,aq,ax,aA,aC,aL⟩
 exact h F p0 p1 p2 p3 p4 p5 p6 p7 p8 p9 ai ao aq ax aA aC aL
theorem eZ{a0 a1 a2 a3 a4 a5 a6 a7 a8 a9 a10 a11 a12 a13 a14 a15 a16 a17 d:E}(h:∀F:Env,E.B F a0=true->E.B F a1=true->E.B F a2=true->E.B F a3=true->E.B F a4=true->E.B F a5=true->E.B F a6=true->E.B F a7=true->E.B F a8=true->E.B F a9=true->E.B F a10=true->E.B F a11=true->E.B F a12=true->E.B F a13=true->E.B F a14=true->E.B F a15=true->E.B F a16=true->E.B F a17=true->E.B F d=true):Tr (cB [a0,a1,a2,a3,a4,a5,a6,a7,a8,a9,a10,a11,a12,a13,a14,a15,a16,a17] d):=fun F=>by
 show E.B F (.imp (.and a0 (.and a1 (.and a2 (.and a3 (.and a4 (.and a5 (.and a6 (.and a7 (.and a8 (.and a9 (.and a10 (.and a11 (.and a12 (.and a13 (.and a14 (.and a15 (.and a16 a17))))))))))))))))) d)=true
 rw[aG]
 simp only[cz]
 rintro⟨p0,p1,p2,p3,p4,p5,p6,p7,p8,p9,ai,ao,aq,ax,aA,aC,aL,aN⟩
 exact h F p0 p1 p2 p3 p4 p5 p6 p7 p8 p9 ai ao aq ax aA aC aL aN
theorem DE{a0 a1 a2 a3 a4 a5 a6 a7 a8 a9 a10 a11 a12 a13 a14 a15 a16 a17 a18 d:E}(h:∀F:Env,E.B F a0=true->E.B F a1=true->E.B F a2=true->E.B F a3=true->E.B F a4=true->E.B F a5=true->E.B F a6=true->E.B F a7=true->E.B F a8=true->E.B F a9=true->E.B F a10=true->E.B F a11=true->E.B F a12=true->E.B F a13=true->E.B F a14=true->E.B F a15=true->E.B F a16=true->E.B F a17=true->E.B F a18=true->E.B F d=true):Tr (cB [a0,a1,a2,a3,a4,a5,a6,a7,a8,a9,a10,a11,a12,a13,a14,a15,a16,a17,a18] d):=fun F=>by
 show E.B F (.imp (.and a0 (.and a1 (.and a2 (.and a3 (.and a4 (.and a5 (.and a6 (.and a7 (.and a8 (.and a9 (.and a10 (.and a11 (.and a12 (.and a13 (.and a14 (.and a15 (.and a16 (.and a17 a18)))))))))))))))))) d)=true
 rw[aG]
 simp only[cz]
 rintro⟨p0,p1,p2,p3,p4,p5,p6,p7,p8,p9,ai,ao,aq,ax,aA,aC,aL,aN,bn⟩
 exact h F p0 p1 p2 p3 p4 p5 p6 p7 p8 p9 ai ao aq ax aA aC aL aN bn
theorem abz{a0 a1 a2 a3 a4 a5 a6 a7 a8 a9 a10 a11 a12 a13 a14 a15 a16 a17 a18 a19 d:E}(h:∀F:Env,E.B F a0=true->E.B F a1=true->E.B F a2=true->E.B F a3=true->E.B F a4=true->E.B F a5=true->E.B F a6=true->E.B F a7=true->E.B F a8=true->E.B F a9=true->E.B F a10=true->E.B F a11=true->E.B F a12=true->E.B F a13=true->E.B F a14=true->E.B F a15=true->E.B F a16=true->E.B F a17=true->E.B F a18=true->E.B F a19=true->E.B F d=true):Tr (cB [a0,a1,a2,a3,a4,a5,a6,a7,a8,a9,a10,a11,a12,a13,a14,a15,a16,a17,a18,a19] d):=fun F=>by
 show E.B F (.imp (.and a0 (.and a1 (.and a2 (.and a3 (.and a4 (.and a5 (.and a6 (.and a7 (.and a8 (.and a9 (.and a10 (.and a11 (.and a12 (.and a13 (.and a14 (.and a15 (.and a16 (.and a17 (.and a18 a19))))))))))))))))))) d)=true
 rw[aG]
 simp only[cz]
 rintro⟨p0,p1,p2,p3,p4,p5,p6,p7,p8,p9,ai,ao,aq,ax,aA,aC,aL,aN,bn,bw⟩
 exact h F p0 p1 p2 p3 p4 p5 p6 p7 p8 p9 ai ao aq ax aA aC aL aN bn bw
theorem abA{a0 a1 a2 a3 a4 a5 a6 a7 a8 a9 a10 a11 a12 a13 a14 a15 a16 a17 a18 a19 a20 d:E}(h:∀F:Env,E.B F a0=true->E.B F a1=true->E.B F a2=true->E.B F a3=true->E.B F a4=true->E.B F a5=true->E.B F a6=true->E.B F a7=true->E.B F a8=true->E.B F a9=true->E.B F a10=true->E.B F a11=true->E.B F a12=true->E.B F a13=true->E.B F a14=true->E.B F a15=true->E.B F a16=true->E.B F a17=true->E.B F a18=true->E.B F a19=true->E.B F a20=true->E.B F d=true):Tr (cB [a0,a1,a2,a3,a4,a5,a6,a7,a8,a9,a10,a11,a12,a13,a14,a15,a16,a17,a18,a19,a20] d):=fun F=>by
 show E.B F (.imp (.and a0 (.and a1 (.and a2 (.and a3 (.and a4 (.and a5 (.and a6 (.and a7 (.and a8 (.and a9 (.and a10 (.and a11 (.and a12 (.and a13 (.and a14 (.and a15 (.and a16 (.and a17 (.and a18 (.and a19 a20)))))))))))))))))))) d)=true
 rw[aG]
 simp only[cz]
 rintro⟨p0,p1,p2,p3,p4,p5,p6,p7,p8,p9,ai,ao,aq,ax,aA,aC,aL,aN,bn,bw,bC⟩
 exact h F p0 p1 p2 p3 p4 p5 p6 p7 p8 p9 ai ao aq ax aA aC aL aN bn bw bC
theorem aFs{a0 a1 a2 a3 a4 a5 a6 a7 a8 a9 a10 a11 a12 a13 a14 a15 a16 a17 a18 a19 a20 a21 d:E}(h:∀F:Env,E.B F a0=true->E.B F a1=true->E.B F a2=true->E.B F a3=true->E.B F a4=true->E.B F a5=true->E.B F a6=true->E.B F a7=true->E.B F a8=true->E.B F a9=true->E.B F a10=true->E.B F a11=true->E.B F a12=true->E.B F a13=true->E.B F a14=true->E.B F a15=true->E.B F a16=true->E.B F a17=true->E.B F a18=true->E.B F a19=true->E.B F a20=true->E.B F a21=true->E.B F d=true):Tr (cB [a0,a1,a2,a3,a4,a5,a6,a7,a8,a9,a10,a11,a12,a13,a14,a15,a16,a17,a18,a19,a20,a21] d):=fun F=>by
 show E.B F (.imp (.and a0 (.and a1 (.and a2 (.and a3 (.and a4 (.and a5 (.and a6 (.and a7 (.and a8 (.and a9 (.and a10 (.and a11 (.and a12 (.and a13 (.and a14 (.and a15 (.and a16 (.and a17 (.and a18 (.and a19 (.and a20 a21))))))))))))))))))))) d)=true
 rw[aG]
 simp only[cz]
 rintro⟨p0,p1,p2,p3,p4,p5,p6,p7,p8,p9,ai,ao,aq,ax,aA,aC,aL,aN,bn,bw,bC,bG⟩
 exact h F p0 p1 p2 p3 p4 p5 p6 p7 p8 p9 ai ao aq ax aA aC aL aN bn bw bC bG
theorem aFt{a0 a1 a2 a3 a4 a5 a6 a7 a8 a9 a10 a11 a12 a13 a14 a15 a16 a17 a18 a19 a20 a21 a22 d:E}(h:∀F:Env,E.B F a0=true->E.B F a1=true->E.B F a2=true->E.B F a3=true->E.B F a4=true->E.B F a5=true->E.B F a6=true->E.B F a7=true->E.B F a8=true->E.B F a9=true->E.B F a10=true->E.B F a11=true->E.B F a12=true->E.B F a13=true->E.B F a14=true->E.B F a15=true->E.B F a16=true->E.B F a17=true->E.B F a18=true->E.B F a19=true->E.B F a20=true->E.B F a21=true->E.B F a22=true->E.B F d=true):Tr (cB [a0,a1,a2,a3,a4,a5,a6,a7,a8,a9,a10,a11,a12,a13,a14,a15,a16,a17,a18,a19,a20,a21,a22] d):=fun F=>by
 show E.B F (.imp (.and a0 (.and a1 (.and a2 (.and a3 (.and a4 (.and a5 (.and a6 (.and a7 (.and a8 (.and a9 (.and a10 (.and a11 (.and a12 (.and a13 (.and a14 (.and a15 (.and a16 (.and a17 (.and a18 (.and a19 (.and a20 (.and a21 a22)))))))))))))))))))))) d)=true
 rw[aG]
 simp only[cz]
 rintro⟨p0,p1,p2,p3,p4,p5,p6,p7,p8,p9,ai,ao,aq,ax,aA,aC,aL,aN,bn,bw,bC,bG,bO⟩
 exact h F p0 p1 p2 p3 p4 p5 p6 p7 p8 p9 ai ao aq ax aA aC aL aN bn bw bC bG bO
theorem Lp{a0 a1 a2 a3 a4 a5 a6 a7 a8 a9 a10 a11 a12 a13 a14 a15 a16 a17 a18 a19 a20 a21 a22 a23 d:E}(h:∀F:Env,E.B F a0=true->E.B F a1=true->E.B F a2=true->E.B F a3=true->E.B F a4=true->E.B F a5=true->E.B F a6=true->E.B F a7=true->E.B F a8=true->E.B F a9=true->E.B F a10=true->E.B F a11=true->E.B F a12=true->E.B F a13=true->E.B F a14=true->E.B F a15=true->E.B F a16=true->E.B F a17=true->E.B F a18=true->E.B F a19=true->E.B F a20=true->E.B F a21=true->E.B F a22=true->E.B F a23=true->E.B F d=true):Tr (cB [a0,a1,a2,a3,a4,a5,a6,a7,a8,a9,a10,a11,a12,a13,a14,a15,a16,a17,a18,a19,a20,a21,a22,a23] d):=fun F=>by
 show E.B F (.imp (.and a0 (.and a1 (.and a2 (.and a3 (.and a4 (.and a5 (.and a6 (.and a7 (.and a8 (.and a9 (.and a10 (.and a11 (.and a12 (.and a13 (.and a14 (.and a15 (.and a16 (.and a17 (.and a18 (.and a19 (.and a20 (.and a21 (.and a22 a23))))))))))))))))))))))) d)=true
 rw[aG]
 simp only[cz]
 rintro⟨p0,p1,p2,p3,p4,p5,p6,p7,p8,p9,ai,ao,aq,ax,aA,aC,aL,aN,bn,bw,bC,bG,bO,bV⟩
 exact h F p0 p1 p2 p3 p4 p5 p6 p7 p8 p9 ai ao aq ax aA aC aL aN bn bw bC bG bO bV
theorem abB{a0 a1 a2 a3 a4 a5 a6 a7 a8 a9 a10 a11 a12 a13 a14 a15 a16 a17 a18 a19 a20 a21 a22 a23 a24 d:E}(h:∀F:Env,E.B F a0=true->E.B F a1=true->E.B F a2=true->E.B F a3=true->E.B F a4=true->E.B F a5=true->E.B F a6=true->E.B F a7=true->E.B F a8=true->E.B F a9=true->E.B F a10=true->E.B F a11=true->E.B F a12=true->E.B F a13=true->E.B F a14=true->E.B F a15=true->E.B F a16=true->E.B F a17=true->E.B F a18=true->E.B F a19=true->E.B F a20=true->E.B F a21=true->E.B F a22=true->E.B F a23=true->E.B F a24=true->E.B F d=true):Tr (cB [a0,a1,a2,a3,a4,a5,a6,a7,a8,a9,a10,a11,a12,a13,a14,a15,a16,a17,a18,a19,a20,a21,a22,a23,a24] d):=fun F=>by
 show E.B F (.imp (.and a0 (.and a1 (.and a2 (.and a3 (.and a4 (.and a5 (.and a6 (.and a7 (.and a8 (.and a9 (.and a10 (.and a11 (.and a12 (.and a13 (.and a14 (.and a15 (.and a16 (.and a17 (.and a18 (.and a19 (.and a20 (.and a21 (.and a22 (.and a23 a24)))))))))))))))))))))))) d)=true
 rw[aG]
 simp only[cz]
 rintro⟨p0,p1,p2,p3,p4,p5,p6,p7,p8,p9,ai,ao,aq,ax,aA,aC,aL,aN,bn,bw,bC,bG,bO,bV,co⟩
 exact h F p0 p1 p2 p3 p4 p5 p6 p7 p8 p9 ai ao aq ax aA aC aL aN bn bw bC bG bO bV co
theorem abC{a0 a1 a2 a3 a4 a5 a6 a7 a8 a9 a10 a11 a12 a13 a14 a15 a16 a17 a18 a19 a20 a21 a22 a23 a24 a25 d:E}(h:∀F:Env,E.B F a0=true->E.B F a1=true->E.B F a2=true->E.B F a3=true->E.B F a4=true->E.B F a5=true->E.B F a6=true->E.B F a7=true->E.B F a8=true->E.B F a9=true->E.B F a10=true->E.B F a11=true->E.B F a12=true->E.B F a13=true->E.B F a14=true->E.B F a15=true->E.B F a16=true->E.B F a17=true->E.B F a18=true->E.B F a19=true->E.B F a20=true->E.B F a21=true->E.B F a22=true->E.B F a23=true->E.B F a24=true->E.B F a25=true->E.B F d=true):Tr (cB [a0,a1,a2,a3,a4,a5,a6,a7,a8,a9,a10,a11,a12,a13,a14,a15,a16,a17,a18,a19,a20,a21,a22,a23,a24,a25] d):=fun F=>by
 show E.B F (.imp (.and a0 (.and a1 (.and a2 (.and a3 (.and a4 (.and a5 (.and a6 (.and a7 (.and a8 (.and a9 (.and a10 (.and a11 (.and a12 (.and a13 (.and a14 (.and a15 (.and a16 (.and a17 (.and a18 (.and a19 (.and a20 (.and a21 (.and a22 (.and a23 (.and a24 a25))))))))))))))))))))))))) d)=true
 rw[aG]
 simp only[cz]
 rintro⟨p0,p1,p2,p3,p4,p5,p6,p7,p8,p9,ai,ao,aq,ax,aA,aC,aL,aN,bn,bw,bC,bG,bO,bV,co,cp⟩
 exact h F p0 p1 p2 p3 p4 p5 p6 p7 p8 p9 ai ao aq ax aA aC aL aN bn bw bC bG bO bV co cp
theorem yj{a0 a1 a2 a3 a4 a5 a6 a7 a8 a9 a10 a11 a12 a13 a14 a15 a16 a17 a18 a19 a20 a21 a22 a23 a24 a25 a26 d:E}(h:∀F:Env,E.B F a0=true->E.B F a1=true->E.B F a2=true->E.B F a3=true->E.B F a4=true->E.B F a5=true->E.B F a6=true->E.B F a7=true->E.B F a8=true->E.B F a9=true->E.B F a10=true->E.B F a11=true->E.B F a12=true->E.B F a13=true->E.B F a14=true->E.B F a15=true->E.B F a16=true->E.B F a17=true->E.B F a18=true->E.B F a19=true->E.B F a20=true->E.B F a21=true->E.B F a22=true->E.B F a23=true->E.B F a24=true->E.B F a25=true->E.B F a26=true->E.B F d=true):Tr (cB [a0,a1,a2,a3,a4,a5,a6,a7,a8,a9,a10,a11,a12,a13,a14,a15,a16,a17,a18,a19,a20,a21,a22,a23,a24,a25,a26] d):=fun F=>by
 show E.B F (.imp (.and a0 (.and a1 (.and a2 (.and a3 (.and a4 (.and a5 (.and a6 (.and a7 (.and a8 (.and a9 (.and a10 (.and a11 (.and a12 (.and a13 (.and a14 (.and a15 (.and a16 (.and a17 (.and a18 (.and a19 (.and a20 (.and a21 (.and a22 (.and a23 (.and a24 (.and a25 a26)))))))))))))))))))))))))) d)=true
 rw[aG]
 simp only[cz]
 rintro⟨p0,p1,p2,p3,p4,p5,p6,p7,p8,p9,ai,ao,aq,ax,aA,aC,aL,aN,bn,bw,bC,bG,bO,bV,co,cp,cQ⟩
 exact h F p0 p1 p2 p3 p4 p5 p6 p7 p8 p9 ai ao aq ax aA aC aL aN bn bw bC bG bO bV co cp cQ
theorem aFu{a0 a1 a2 a3 a4 a5 a6 a7 a8 a9 a10 a11 a12 a13 a14 a15 a16 a17 a18 a19 a20 a21 a22 a23 a24 a25 a26 a27 d:E}(h:∀F:Env,E.B F a0=true->E.B F a1=true->E.B F a2=true->E.B F a3=true->E.B F a4=true->E.B F a5=true->E.B F a6=true->E.B F a7=true->E.B F a8=true->E.B F a9=true->E.B F a10=true->E.B F a11=true->E.B F a12=true->E.B F a13=true->E.B F a14=true->E.B F a15=true->E.B F a16=true->E.B F a17=true->E.B F a18=true->E.B F a19=true->E.B F a20=true->E.B F a21=true->E.B F a22=true->E.B F a23=true->E.B F a24=true->E.B F a25=true->E.B F a26=true->E.B F a27=true->E.B F d=true):Tr (cB [a0,a1,a2,a3,a4,a5,a6,a7,a8,a9,a10,a11,a12,a13,a14,a15,a16,a17,a18,a19,a20,a21,a22,a23,a24,a25,a26,a27] d):=fun F=>by
 show E.B F (.imp (.and a0 (.and a1 (.and a2 (.and a3 (.and a4 (.and a5 (.and a6 (.and a7 (.and a8 (.and a9 (.and a10 (.and a11 (.and a12 (.and a13 (.and a14 (.and a15 (.and a16 (.and a17 (.and a18 (.and a19 (.and a20 (.and a21 (.and a22 (.and a23 (.and a24 (.and a25 (.and a26 a27))))))))))))))))))))))))))) d)=true
 rw[aG]
 simp only[cz]
 rintro⟨p0,p1,p2,p3,p4,p5,p6,p7,p8,p9,ai,ao,aq,ax,aA,aC,aL,aN,bn,bw,bC,bG,bO,bV,co,cp,cQ,dH⟩
 exact h F p0 p1 p2 p3 p4 p5 p6 p7 p8 p9 ai ao aq ax aA aC aL aN bn bw bC bG bO bV co cp cQ dH
theorem aFv{a0 a1 a2 a3 a4 a5 a6 a7 a8 a9 a10 a11 a12 a13 a14 a15 a16 a17 a18 a19 a20 a21 a22 a23 a24 a25 a26 a27 a28 d:E}(h:∀F:Env,E.B F a0=true->E.B F a1=true->E.B F a2=true->E.B F a3=true->E.B F a4=true->E.B F a5=true->E.B F a6=true->E.B F a7=true->E.B F a8=true->E.B F a9=true->E.B F a10=true->E.B F a11=true->E.B F a12=true->E.B F a13=true->E.B F a14=true->E.B F a15=true->E.B F a16=true->E.B F a17=true->E.B F a18=true->E.B F a19=true->E.B F a20=true->E.B F a21=true->E.B F a22=true->E.B F a23=true->E.B F a24=true->E.B F a25=true->E.B F a26=true->E.B F a27=true->E.B F a28=true->E.B F d=true):Tr (cB [a0,a1,a2,a3,a4,a5,a6,a7,a8,a9,a10,a11,a12,a13,a14,a15,a16,a17,a18,a19,a20,a21,a22,a23,a24,a25,a26,a27,a28] d):=fun F=>by
 show E.B F (.imp (.and a0 (.and a1 (.and a2 (.and a3 (.and a4 (.and a5 (.and a6 (.and a7 (.and a8 (.and a9 (.and a10 (.and a11 (.and a12 (.and a13 (.and a14 (.and a15 (.and a16 (.and a17 (.and a18 (.and a19 (.and a20 (.and a21 (.and a22 (.and a23 (.and a24 (.and a25 (.and a26 (.and a27 a28)))))))))))))))))))))))))))) d)=true
 rw[aG]
 simp only[cz]
 rintro⟨p0,p1,p2,p3,p4,p5,p6,p7,p8,p9,ai,ao,aq,ax,aA,aC,aL,aN,bn,bw,bC,bG,bO,bV,co,cp,cQ,dH,d6⟩
 exact h F p0 p1 p2 p3 p4 p5 p6 p7 p8 p9 ai ao aq ax aA aC aL aN bn bw bC bG bO bV co cp cQ dH d6
theorem aFw{a0 a1 a2 a3 a4 a5 a6 a7 a8 a9 a10 a11 a12 a13 a14 a15 a16 a17 a18 a19 a20 a21 a22 a23 a24 a25 a26 a27 a28 a29 d:E}(h:∀F:Env,E.B F a0=true->E.B F a1=true->E.B F a2=true->E.B F a3=true->E.B F a4=true->E.B F a5=true->E.B F a6=true->E.B F a7=true->E.B F a8=true->E.B F a9=true->E.B F a10=true->E.B F a11=true->E.B F a12=true->E.B F a13=true->E.B F a14=true->E.B F a15=true->E.B F a16=true->E.B F a17=true->E.B F a18=true->E.B F a19=true->E.B F a20=true->E.B F a21=true->E.B F a22=true->E.B F a23=true->E.B F a24=true->E.B F a25=true->E.B F a26=true->E.B F a27=true->E.B F a28=true->E.B F a29=true->E.B F d=true):Tr (cB [a0,a1,a2,a3,a4,a5,a6,a7,a8,a9,a10,a11,a12,a13,a14,a15,a16,a17,a18,a19,a20,a21,a22,a23,a24,a25,a26,a27,a28,a29] d):=fun F=>by
 show E.B F (.imp (.and a0 (.and a1 (.and a2 (.and a3 (.and a4 (.and a5 (.and a6 (.and a7 (.and a8 (.and a9 (.and a10 (.and a11 (.and a12 (.and a13 (.and a14 (.and a15 (.and a16 (.and a17 (.and a18 (.and a19 (.and a20 (.and a21 (.and a22 (.and a23 (.and a24 (.and a25 (.and a26 (.and a27 (.and a28 a29))))))))))))))))))))))))))))) d)=true
 rw[aG]
 simp only[cz]
 rintro⟨p0,p1,p2,p3,p4,p5,p6,p7,p8,p9,ai,ao,aq,ax,aA,aC,aL,aN,bn,bw,bC,bG,bO,bV,co,cp,cQ,dH,d6,eU⟩
 exact h F p0 p1 p2 p3 p4 p5 p6 p7 p8 p9 ai ao aq ax aA aC aL aN bn bw bC bG bO bV co cp cQ dH d6 eU
theorem abD{a0 a1 a2 a3 a4 a5 a6 a7 a8 a9 a10 a11 a12 a13 a14 a15 a16 a17 a18 a19 a20 a21 a22 a23 a24 a25 a26 a27 a28 a29 a30 d:E}(h:∀F:Env,E.B F a0=true->E.B F a1=true->E.B F a2=true->E.B F a3=true->E.B F a4=true->E.B F a5=true->E.B F a6=true->E.B F a7=true->E.B F a8=true->E.B F a9=true->E.B F a10=true->E.B F a11=true->E.B F a12=true->E.B F a13=true->E.B F a14=true->E.B F a15=true->E.B F a16=true->E.B F a17=true->E.B F a18=true->E.B F a19=true->E.B F a20=true->E.B F a21=true->E.B F a22=true->E.B F a23=true->E.B F a24=true->E.B F a25=true->E.B F a26=true->E.B F a27=true->E.B F a28=true->E.B F a29=true->E.B F a30=true->E.B F d=true):Tr (cB [a0,a1,a2,a3,a4,a5,a6,a7,a8,a9,a10,a11,a12,a13,a14,a15,a16,a17,a18,a19,a20,a21,a22,a23,a24,a25,a26,a27,a28,a29,a30] d):=fun F=>by
 show E.B F (.imp (.and a0 (.and a1 (.and a2 (.and a3 (.and a4 (.and a5 (.and a6 (.and a7 (.and a8 (.and a9 (.and a10 (.and a11 (.and a12 (.and a13 (.and a14 (.and a15 (.and a16 (.and a17 (.and a18 (.and a19 (.and a20 (.and a21 (.and a22 (.and a23 (.and a24 (.and a25 (.and a26 (.and a27 (.and a28 (.and a29 a30)))))))))))))))))))))))))))))) d)=true
 rw[aG]
 simp only[cz]
 rintro⟨p0,p1,p2,p3,p4,p5,p6,p7,p8,p9,ai,ao,aq,ax,aA,aC,aL,aN,bn,bw,bC,bG,bO,bV,co,cp,cQ,dH,d6,eU,fT⟩
 exact h F p0 p1 p2 p3 p4 p5 p6 p7 p8 p9 ai ao aq ax aA aC aL aN bn bw bC bG bO bV co cp cQ dH d6 eU fT
theorem aFx{a0 a1 a2 a3 a4 a5 a6 a7 a8 a9 a10 a11 a12 a13 a14 a15 a16 a17 a18 a19 a20 a21 a22 a23 a24 a25 a26 a27 a28 a29 a30 a31 a32 d:E}(h:∀F:Env,E.B F a0=true->E.B F a1=true->E.B F a2=true->E.B F a3=true->E.B F a4=true->E.B F a5=true->E.B F a6=true->E.B F a7=true->E.B F a8=true->E.B F a9=true->E.B F a10=true->E.B F a11=true->E.B F a12=true->E.B F a13=true->E.B F a14=true->E.B F a15=true->E.B F a16=true->E.B F a17=true->E.B F a18=true->E.B F a19=true->E.B F a20=true->E.B F a21=true->E.B F a22=true->E.B F a23=true->E.B F a24=true->E.B F a25=true->E.B F a26=true->E.B F a27=true->E.B F a28=true->E.B F a29=true->E.B F a30=true->E.B F a31=true->E.B F a32=true->E.B F d=true):Tr (cB [a0,a1,a2,a3,a4,a5,a6,a7,a8,a9,a10,a11,a12,a13,a14,a15,a16,a17,a18,a19,a20,a21,a22,a23,a24,a25,a26,a27,a28,a29,a30,a31,a32] d):=fun F=>by
 show E.B F (.imp (.and a0 (.and a1 (.and a2 (.and a3 (.and a4 (.and a5 (.and a6 (.and a7 (.and a8 (.and a9 (.and a10 (.and a11 (.and a12 (.and a13 (.and a14 (.and a15 (.and a16 (.and a17 (.and a18 (.and a19 (.and a20 (.and a21 (.and a22 (.and a23 (.and a24 (.and a25 (.and a26 (.and a27 (.and a28 (.and a29 (.and a30 (.and a31 a32)))))))))))))))))))))))))))))))) d)=true
 rw[aG]
 simp only[cz]
 rintro⟨p0,p1,p2,p3,p4,p5,p6,p7,p8,p9,ai,ao,aq,ax,aA,aC,aL,aN,bn,bw,bC,bG,bO,bV,co,cp,cQ,dH,d6,eU,fT,iV,im⟩
 exact h F p0 p1 p2 p3 p4 p5 p6 p7 p8 p9 ai ao aq ax aA aC aL aN bn bw bC bG bO bV co cp cQ dH d6 eU fT iV im
theorem aFy{a0 a1 a2 a3 a4 a5 a6 a7 a8 a9 a10 a11 a12 a13 a14 a15 a16 a17 a18 a19 a20 a21 a22 a23 a24 a25 a26 a27 a28 a29 a30 a31 a32 a33 a34 d:E}(h:∀F:Env,E.B F a0=true->E.B F a1=true->E.B F a2=true->E.B F a3=true->E.B F a4=true->E.B F a5=true->E.B F a6=true->E.B F a7=true->E.B F a8=true->E.B F a9=true->E.B F a10=true->E.B F a11=true->E.B F a12=true->E.B F a13=true->E.B F a14=true->E.B F a15=true->E.B F a16=true->E.B F a17=true->E.B F a18=true->E.B F a19=true->E.B F a20=true->E.B F a21=true->E.B F a22=true->E.B F a23=true->E.B F a24=true->E.B F a25=true->E.B F a26=true->E.B F a27=true->E.B F a28=true->E.B F a29=true->E.B F a30=true->E.B F a31=true->E.B F a32=true->E.B F a33=true->E.B F a34=true->E.B F d=true):Tr (cB [a0,a1,a2,a3,a4,a5,a6,a7,a8,a9,a10,a11,a12,a13,a14,a15,a16,a17,a18,a19,a20,a21,a22,a23,a24,a25,a26,a27,a28,a29,a30,a31,a32,a33,a34] d):=fun F=>by
 show E.B F (.imp (.and a0 (.and a1 (.and a2 (.and a3 (.and a4 (.and a5 (.and a6 (.and a7 (.and a8 (.and a9 (.and a10 (.and a11 (.and a12 (.and a13 (.and a14 (.and a15 (.and a16 (.and a17 (.and a18 (.and a19 (.and a20 (.and a21 (.and a22 (.and a23 (.and a24 (.and a25 (.and a26 (.and a27 (.and a28 (.and a29 (.and a30 (.and a31 (.and a32 (.and a33 a34)))))))))))))))))))))))))))))))))) d)=true
 rw[aG]
 simp only[cz]
 rintro⟨p0,p1,p2,p3,p4,p5,p6,p7,p8,p9,ai,ao,aq,ax,aA,aC,aL,aN,bn,bw,bC,bG,bO,bV,co,cp,cQ,dH,d6,eU,fT,iV,im,lC,lD⟩
 exact h F p0 p1 p2 p3 p4 p5 p6 p7 p8 p9 ai ao aq ax aA aC aL aN bn bw bC bG bO bV co cp cQ dH d6 eU fT iV im lC lD
theorem aFz{a0 a1 a2 a3 a4 a5 a6 a7 a8 a9 a10 a11 a12 a13 a14 a15 a16 a17 a18 a19 a20 a21 a22 a23 a24 a25 a26 a27 a28 a29 a30 a31 a32 a33 a34 a35 a36 a37 a38 a39 a40 a41 a42 a43 a44 d:E}(h:∀F:Env,E.B F a0=true->E.B F a1=true->E.B F a2=true->E.B F a3=true->E.B F a4=true->E.B F a5=true->E.B F a6=true->E.B F a7=true->E.B F a8=true->E.B F a9=true->E.B F a10=true->E.B F a11=true->E.B F a12=true->E.B F a13=true->E.B F a14=true->E.B F a15=true->E.B F a16=true->E.B F a17=true->E.B F a18=true->E.B F a19=true->E.B F a20=true->E.B F a21=true->E.B F a22=true->E.B F a23=true->E.B F a24=true->E.B F a25=true->E.B F a26=true->E.B F a27=true->E.B F a28=true->E.B F a29=true->E.B F a30=true->E.B F a31=true->E.B F a32=true->E.B F a33=true->E.B F a34=true->E.B F a35=true->E.B F a36=true->E.B F a37=true->E.B F a38=true->E.B F a39=true->E.B F a40=true->E.B F a41=true->E.B F a42=true->E.B F a43=true->E.B F a44=true->E.B F d=true):Tr (cB [a0,a1,a2,a3,a4,a5,a6,a7,a8,a9,a10,a11,a12,a13,a14,a15,a16,a17,a18,a19,a20,a21,a22,a23,a24,a25,a26,a27,a28,a29,a30,a31,a32,a33,a34,a35,a36,a37,a38,a39,a40,a41,a42,a43,a44] d):=fun F=>by
 show E.B F (.imp (.and a0 (.and a1 (.and a2 (.and a3 (.and a4 (.and a5 (.and a6 (.and a7 (.and a8 (.and a9 (.and a10 (.and a11 (.and a12 (.and a13 (.and a14 (.and a15 (.and a16 (.and a17 (.and a18 (.and a19 (.and a20 (.and a21 (.and a22 (.and a23 (.and a24 (.and a25 (.and a26 (.and a27 (.and a28 (.and a29 (.and a30 (.and a31 (.and a32 (.and a33 (.and a34 (.and a35 (.and a36 (.and a37 (.and a38 (.and a39 (.and a40 (.and a41 (.and a42 (.and a43 a44)))))))))))))))))))))))))))))))))))))))))))) d)=true
 rw[aG]
 simp only[cz]
 rintro⟨p0,p1,p2,p3,p4,p5,p6,p7,p8,p9,ai,ao,aq,ax,aA,aC,aL,aN,bn,bw,bC,bG,bO,bV,co,cp,cQ,dH,d6,eU,fT,iV,im,lC,lD,ri,rj,rk,rl,rm,rn,ro,rp,rq,pi⟩
 exact h F p0 p1 p2 p3 p4 p5 p6 p7 p8 p9 ai ao aq ax aA aC aL aN bn bw bC bG bO bV co cp cQ dH d6 eU fT iV im lC lD ri rj rk rl rm rn ro rp rq pi
theorem aFA{a0 a1 a2 a3 a4 a5 a6 a7 a8 a9 a10 a11 a12 a13 a14 a15 a16 a17 a18 a19 a20 a21 a22 a23 a24 a25 a26 a27 a28 a29 a30 a31 a32 a33 a34 a35 a36 a37 a38 a39 a40 a41 a42 a43 a44 a45 d:E}(h:∀F:Env,E.B F a0=true->E.B F a1=true->E.B F a2=true->E.B F a3=true->E.B F a4=true->E.B F a5=true->E.B F a6=true->E.B F a7=true->E.B F a8=true->E.B F a9=true->E.B F a10=true->E.B F a11=true->E.B F a12=true->E.B F a13=true->E.B F a14=true->E.B F a15=true->E.B F a16=true->E.B F a17=true->E.B F a18=true->E.B F a19=true->E.B F a20=true->E.B F a21=true->E.B F a22=true->E.B F a23=true->E.B F a24=true->E.B F a25=true->E.B F a26=true->E.B F a27=true->E.B F a28=true->E.B F a29=true->E.B F a30=true->E.B F a31=true->E.B F a32=true->E.B F a33=true->E.B F a34=true->E.B F a35=true->E.B F a36=true->E.B F a37=true->E.B F a38=true->E.B F a39=true->E.B F a40=true->E.B F a41=true->E.B F a42=true->E.B F a43=true->E.B F a44=true->E.B F a45=true->E.B F d=true):Tr (cB [a0,a1,a2,a3,a4,a5,a6,a7,a8,a9,a10,a11,a12,a13,a14,a15,a16,a17,a18,a19,a20,a21,a22,a23,a24,a25,a26,a27,a28,a29,a30,a31,a32,a33,a34,a35,a36,a37,a38,a39,a40,a41,a42,a43,a44,a45] d):=fun F=>by
 show E.B F (.imp (.and a0 (.and a1 (.and a2 (.and a3 (.and a4 (.and a5 (.and a6 (.and a7 (.and a8 (.and a9 (.and a10 (.and a11 (.and a12 (.and a13 (.and a14 (.and a15 (.and a16 (.and a17 (.and a18 (.and a19 (.and a20 (.and a21 (.and a22 (.and a23 (.and a24 (.and a25 (.and a26 (.and a27 (.and a28 (.and a29 (.and a30 (.and a31 (.and a32 (.and a33 (.and a34 (.and a35 (.and a36 (.and a37 (.and a38 (.and a39 (.and a40 (.and a41 (.and a42 (.and a43 (.and a44 a45))))))))))))))))))))))))))))))))))))))))))))) d)=true
 rw[aG]
 simp only[cz]
 rintro⟨p0,p1,p2,p3,p4,p5,p6,p7,p8,p9,ai,ao,aq,ax,aA,aC,aL,aN,bn,bw,bC,bG,bO,bV,co,cp,cQ,dH,d6,eU,fT,iV,im,lC,lD,ri,rj,rk,rl,rm,rn,ro,rp,rq,pi,EM⟩
 exact h F p0 p1 p2 p3 p4 p5 p6 p7 p8 p9 ai ao aq ax aA aC aL aN bn bw bC bG bO bV co cp cQ dH d6 eU fT iV im lC lD ri rj rk rl rm rn ro rp rq pi EM
def ii(e:E):SV:=.int .i64 e
def gone:Blk:=⟨true,.gone⟩
def b8(b:Nat):SV:=.ptr b ⟨0,0,.int 0⟩
def bm(a b:E):E:=.cmp .eql a b
def pl(a b:E):E:=.fn 6 (.pr a b)
def mi(a b:E):E:=.fn 7 (.pr a b)
def tm(a b:E):E:=.fn 8 (.pr a b)
def ln(x:E):E:=.fn 0 x
def prs:List E->E
 |[]=>.int 0
 |[a]=>a
 |a::l=>.pr a (prs l)
def az(f:Nat)(l:List E):E:=.fn f (prs l)
def nt(l i:E):E:=.fn 1 (.pr l i)
def cR(w:Int)(l:E):E:=.fn 9 (.pr l (.int w))
def qF:E:=.fn 10 (.int 0)
def kI:List CK:=[.int .i64]
def kO:List CK:=[.int .i64,.int .i64,.int .i64,.int .i64,.int .i64,.int .i64,.int .i64,.int .i64,.int .i64,.bool,.bool,.bool]
def kT:List CK:=[.int .i64,.int .i64]
def dT:List CK:=[.int .i64,.int .i64,.int .i64,.int .i64,.slc kT]
def kS:List CK:=[.int .i64,.int .i64,.int .i64,.int .i64,.int .i64,.slc kI,.slc kI,.slc kI,.slc kI,.bool,.bool,.bool,.int .i64,.int .i64]
def kB:List CK:=.slc kO::(kS++(kS++[.slc dT,.slc dT,.slc kI,.slc kT,.int .i64,.int .i64,.int .i64,.int .i64,.int .i64]))
def ZH(e:E):CK->SV
 |.int k=>.int k e
 |.bool=>.bool e
 |.str=>.str e
 |.slc ks=>.bsl ks e
def qy(e:E):Nat->List CK->List SV
 |_,[]=>[]
 |j,c::cs=>ZH (nt e (.int (Int.ofNat j))) c::qy e (Nat.succ j) cs
def dh(e:E):SV:=.agg (qy e 0 kB)
def mL(e:E):Blk:=⟨true,.cells (qy e 0 kB) (.int 38) 34⟩
def cl(e:E)(j:Int):E:=nt e (.int j)
def rE(e:E):E:=.fn 116 e
def ry(e:E):E:=.fn 117 e
def db(e:E):List E:=[rE e,ry e]
def tw(f:FuncId):SV:=.func (.func f) [] []
def rT:E:=cR 2 (eV 0)
def aID:Pact:=⟨123,[.bsl kT (eV 0),tw 110],⟨1,0,.nil,[af rT (.int 1000)]⟩,[(ii (eV 1),⟨2,0,.nil,[.iff (af (.int 0) (eV 1)) (.not (az 101 [eV 0,rT])),af (.int (-1)) (eV 1)]⟩)]⟩
def tTF:Tmpl:=⟨bF 19 [(0,.bsl kT (eV 0)),(1,tw 110),(6,.bsl kT (eV 0)),(7,ii rT),(8,ii (eV 4))],⟨5,0,.nil,[af rT (.int 1000),af (.int 0) (eV 4),af (eV 4) rT,az 101 [eV 0,eV 4]]⟩,mi rT (eV 4)⟩
def aDs:List Ann:=[⟨123,0,[tTF],none⟩]
def itE:List E:=[eV 0,eV 1,eV 2,eV 3,eV 4,eV 5]
def itV:SV:=.agg [ii (eV 0),ii (eV 1),ii (eV 2),ii (eV 3),.bsl kT (eV 4)]
def aIf:Pact:=⟨78,[itV,.bool (eV 5)],⟨6,0,.nil,[]⟩,[(.bool (eV 6),⟨7,0,.nil,[.iff (eV 6) (az 102 itE)]⟩)]⟩
def rI:E:=cR 5 (eV 0)
def afl(g:FuncId)(q:Bool):Pact:=⟨108,[.bsl dT (eV 0),tw g],⟨1,0,.nil,[af rI (.int 1000)]⟩,[(ii (eV 1),⟨2,0,.nil,[.iff (af (.int 0) (eV 1)) (.not (az 103 [eV 0,.bool q,rI])),af (.int (-1)) (eV 1)]⟩)]⟩
def tIF(g:FuncId)(q:Bool):Tmpl:=⟨bF 19 [(0,.bsl dT (eV 0)),(1,tw g),(6,.bsl dT (eV 0)),(7,ii rI),(8,ii (eV 4))],⟨5,0,.nil,[af rI (.int 1000),af (.int 0) (eV 4),af (eV 4) rI,az 103 [eV 0,.bool q,eV 4]]⟩,mi rI (eV 4)⟩
def Za(g:FuncId)(q:Bool):List Ann:=[⟨108,0,[tIF g q],none⟩]
def nI:E:=ln (eV 0)
def aE1(l k:E):E:=az 114 [l,k]
def aIo:Pact:=⟨73,[.bsl kI (eV 0),ii (eV 1)],⟨2,0,.nil,[af nI (.int 1000)]⟩,[(ii (eV 2),⟨3,0,.nil,[.iff (af (.int 0) (eV 2)) (aE1 (eV 0) (eV 1)),af (.int (-1)) (eV 2)]⟩)]⟩
def tIx:Tmpl:=⟨bF 19 [(0,.bsl kI (eV 0)),(1,ii (eV 1)),(6,.bsl kI (eV 0)),(7,ii nI),(8,ii (eV 4))],⟨5,0,.nil,[af nI (.int 1000),af (.int 0) (eV 4),af (eV 4) nI,bm (az 131 [eV 0,eV 1,eV 4]) (.int 0)]⟩,mi nI (eV 4)⟩
def aDe:List Ann:=[⟨73,0,[tIx],none⟩]
def obV:SV:=.agg ((List.range 9).map (fun j=>ii (eV j))++[.bool (eV 9),.bool (eV 10),.bool (eV 11)])
def afo(f:FuncId):Pact:=⟨f,[obV],⟨12,0,.nil,[]⟩,[(.bool (eV 12),⟨13,0,.nil,[.iff (eV 12) (az 137 ((List.range 9).map eV))]⟩)]⟩
def put(c:Nat):SV:=.func (.func 112) [] [b8 c]
def L4(e:E):Blk:=⟨true,.mapl .i64 (.int .i64) e⟩
def yd(W:Nat)(m:E)(more:List Blk):T Blk:=cn (List.replicate W gone++[mL (eV 0),L4 m,⟨true,.cells [.map (W+1)] (.int 1) 153⟩]++more)
def zo(W:Nat):List (Nat×SV):=[(1,b8 W),(3,b8 (W+2)),(4,put (W+2))]
def KH(m p q i:E):E:=az 104 [m,eV 0,p,q,i]
def t0P:Tmpl:=⟨bF 138 (zo 8++[(21,ii (eV 8))]),⟨10,11,yd 8 (eV 9) [],db (eV 0)++[af (.int 0) (eV 8),af (eV 8) (.int 2),KH (eV 9) (eV 8) (.int 0) (.int 0)]⟩,mi (.int 2) (eV 8)⟩
def aek(W p:Nat):SV:=.agg ((List.range 4).map fun q=>.ptr W ⟨6+14*p+q,0,.int 0⟩)
def t2P(p:Nat):Tmpl:=⟨bF 138 (zo 8++[(5,ii (eV 8)),(21,ii (eV 8)),(27,aek 8 p),(28,ii (eV 16))]),⟨18,16,yd 8 (eV 17) [],
 db (eV 0)++[bm (eV 8) (.int (Int.ofNat p)),af (.int 0) (eV 16),af (eV 16) (.int 4),KH (eV 17) (eV 8) (eV 16) (.int 0)]⟩,mi (.int 4) (eV 16)⟩
def t4P(p:Nat):Tmpl:=⟨bF 138 (zo 8++[(5,ii (eV 8)),(21,ii (eV 8)),(27,aek 8 p),(28,ii (eV 16)),(33,.bsl kI (eV 28)),(34,ii (ln (eV 28))),(35,ii (eV 24))]),⟨29,24,yd 8 (eV 25) [],
 db (eV 0)++[bm (eV 8) (.int (Int.ofNat p)),af (.int 0) (eV 16),gH (eV 16) (.int 4),af (.int 0) (eV 24),af (eV 24) (ln (eV 28)),af (ln (eV 28)) (.int 40),az 109 [eV 28,eV 0,eV 8,eV 16],KH (eV 25) (eV 8) (eV 16) (eV 24)]⟩,mi (ln (eV 28)) (eV 24)⟩
def eT:E:=cR 5 (cl (eV 0) 29)
def dU:E:=cR 12 (cl (eV 0) 0)
def t6P:Tmpl:=⟨bF 138 (zo 32++[(10,.map 35),(49,.bsl dT (cl (eV 0) 29)),(50,ii eT),(51,ii (eV 32))]),⟨35,36,yd 32 (eV 33) [L4 (eV 34)],
 db (eV 0)++[af eT (.int 20),af (.int 0) (eV 32),af (eV 32) eT,az 105 [eV 33,eV 0,eV 32],az 106 [eV 34,eV 0,eV 32]]⟩,mi eT (eV 32)⟩
def t8P:Tmpl:=⟨bF 138 (zo 40++[(10,.map 43),(72,.bsl kO (cl (eV 0) 0)),(73,ii dU),(74,ii (eV 40))]),⟨43,44,yd 40 (eV 41) [L4 (eV 42)],
 db (eV 0)++[af dU (.int 30),af (.int 0) (eV 40),af (eV 40) dU,az 105 [eV 41,eV 0,eT],az 106 [eV 42,eV 0,eT],az 107 [eV 0,eV 40]]⟩,mi dU (eV 40)⟩
def aDj:List Ann:=[⟨80,0,[t0P],none⟩,⟨80,2,[t2P 0,t2P 1],none⟩,⟨80,4,[t4P 0,t4P 1],none⟩,⟨80,6,[t6P],none⟩,⟨80,8,[t8P],none⟩]
def aIw:Pact:=⟨80,[dh (eV 0)],⟨1,0,.nil,db (eV 0)⟩,[(.bool (eV 1),⟨2,0,.nil,[.iff (eV 1) (.fn 108 (eV 0))]⟩)]⟩
def aGg(e:E):Blk:=⟨true,.mapl .i64 .bool e⟩
def lg:E:=cl (eV 0) 34
def MF:List E:=db (eV 0)++[.fn 108 (eV 0),af (.int 0) lg,af lg (.int 1)]
def aIe:Pact:=⟨81,[dh (eV 0)],⟨1,0,.nil,MF⟩,[(.bool (eV 1),⟨2,0,.nil,[.iff (eV 1) (.fn 110 (eV 0))]⟩)]⟩
def abi(W:Nat):T Blk:=cn (List.replicate W gone++[mL (eV 0),aGg (eV (W+1))])
def ae4(W:Nat):List (Nat×SV):=[(1,b8 W),(3,.bsl kI (eV (W+2))),(4,.bsl kI (eV (W+3))),(5,.map (W+1))]
def ad6(W:Nat):List E:=[az 109 [eV (W+2),eV 0,lg,.int 2],az 109 [eV (W+3),eV 0,mi (.int 1) lg,.int 2],af (ln (eV (W+2))) (.int 40),af (ln (eV (W+3))) (.int 40)]
def jy:E:=ln (cl (eV 0) 31)
def gi:E:=cR 2 (cl (eV 0) 32)
def t0F:Tmpl:=⟨bF 85 (ae4 8++[(25,.bsl kI (cl (eV 0) 31)),(26,ii jy),(27,ii (eV 8))]),⟨12,10,abi 8,
 MF++ad6 8++[af jy (.int 30),af (.int 0) (eV 8),af (eV 8) jy,az 111 [eV 0,eV 8],az 113 [eV 9,eV 0,eV 8,.int 0]]⟩,mi jy (eV 8)⟩
def t2F:Tmpl:=⟨bF 85 (ae4 16++[(44,.bsl kT (cl (eV 0) 32)),(45,ii gi),(46,ii (eV 16))]),⟨20,18,abi 16,
 MF++ad6 16++[af jy (.int 30),af gi (.int 30),af (.int 0) (eV 16),af (eV 16) gi,az 111 [eV 0,jy],az 112 [eV 0,eV 16],az 113 [eV 17,eV 0,jy,eV 16]]⟩,mi gi (eV 16)⟩
def aC8:List Ann:=[⟨81,0,[t0F],none⟩,⟨81,2,[t2F],none⟩]
def spV:Pact:=⟨40,[dh (eV 0)],⟨1,0,.nil,db (eV 0)⟩,[(.bool (eV 1),⟨2,0,.nil,[.iff (eV 1) (.fn 115 (eV 0))]⟩)]⟩
def aIn:Pact:=⟨42,[itV,.bool (eV 5)],⟨6,0,.nil,[]⟩,[(.bool (eV 6),⟨7,0,.nil,[.iff (eV 6) (az 102 itE)]⟩)]⟩
def aH8:Pact:=⟨27,[.bsl kI (eV 0),ii (eV 1)],⟨2,0,.nil,[af nI (.int 1000)]⟩,[(ii (eV 2),⟨3,0,.nil,[bm (eV 2) (az 121 [eV 0,eV 1]),af (.int 0) (eV 2),af (eV 2) nI]⟩)]⟩
def aIl:Pact:=⟨47,[dh (eV 0),ii (eV 1)],⟨2,0,.nil,db (eV 0)⟩,[(ii (eV 2),⟨3,0,.nil,[bm (eV 2) (az 120 [eV 0,eV 1,dU]),af (.int (-1)) (eV 2),gH (eV 2) dU]⟩)]⟩
def aIv:Pact:=⟨85,[dh (eV 0),ii (eV 1),ii (eV 2)],⟨3,0,.nil,db (eV 0)++[af (.int 0) (eV 1),af (eV 1) (.int 1)]⟩,[(ii (eV 3),⟨4,0,.nil,[bm (eV 3) (az 122 [eV 0,eV 1,eV 2]),af (.int 0) (eV 3),af (eV 3) (.int 1000)]⟩)]⟩
def aGR:List E:=[af (.int 0) (eV 0),af (eV 0) (.int 1),af (.int 1) (eV 1),af (eV 1) (.int 500),af (.int 0) (eV 2),af (eV 2) (.int 399),af (.int (-1)) (eV 3),af (eV 3) (.int 1),af (cR 2 (eV 4)) (.int 4),.imp (af (.int 0) (eV 3)) (bm (cR 2 (eV 4)) (.int 0)),.imp (eV 5) (af (.int 0) (eV 3))]
def tIt:Tmpl:=⟨bF 108 [(1,.bool (eV 5)),(2,b8 8),(5,ii (eV 8))],⟨9,9,cn (List.replicate 8 gone++[⟨true,.cells [ii (eV 0),ii (eV 1),ii (eV 2),ii (eV 3),.bsl kT (eV 4)] (.int 5) 80⟩]),
 aGR++[af (.int 0) (eV 8),af (eV 8) (cR 2 (eV 4)),az 101 [eV 4,eV 8]]⟩,mi (cR 2 (eV 4)) (eV 8)⟩
def aDd:List Ann:=[⟨42,0,[tIt],none⟩]
def tCt:Tmpl:=⟨bF 22 [(0,.bsl kI (eV 0)),(1,ii (eV 1)),(5,ii (eV 9)),(6,ii (eV 8))],⟨10,0,.nil,[af nI (.int 1000),af (.int 0) (eV 8),af (eV 8) nI,bm (eV 9) (az 131 [eV 0,eV 1,eV 8]),af (.int 0) (eV 9),af (eV 9) (eV 8)]⟩,mi nI (eV 8)⟩
def aC5:List Ann:=[⟨27,0,[tCt],none⟩]
def oT(W:Nat):T Blk:=cn (List.replicate W gone++[mL (eV 0)])
def tId:Tmpl:=⟨bF 22 [(1,ii (eV 1)),(2,b8 8),(5,ii (eV 8))],⟨9,9,oT 8,db (eV 0)++[af dU (.int 30),af (.int 0) (eV 8),af (eV 8) dU,bm (az 120 [eV 0,eV 1,eV 8]) (.int (-1))]⟩,mi dU (eV 8)⟩
def aDb:List Ann:=[⟨47,0,[tId],none⟩]
def tPc:Tmpl:=⟨bF 56 [(1,ii (eV 1)),(2,ii (eV 2)),(3,b8 16),(7,ii (eV 17)),(10,ii (eV 16))],⟨18,17,oT 16,db (eV 0)++[af (.int 0) (eV 1),af (eV 1) (.int 1),af eT (.int 20),af (.int 0) (eV 16),af (eV 16) eT,
 bm (eV 17) (pl (az 132 [eV 0,eV 1,.int 4,eV 2]) (az 133 [eV 0,eV 1,eV 2,eV 16])),af (.int 0) (eV 17),af (eV 17) (pl (.int 160) (eV 16))]⟩,mi eT (eV 16)⟩
def aDi:List Ann:=[⟨85,2,[tPc],none⟩]
def t4D:Tmpl:=⟨bF 108 [(1,b8 16),(3,ii (eV 17)),(7,ii (eV 16))],⟨18,17,oT 16,db (eV 0)++[af eT (.int 20),af dU (.int 30),af (.int 0) (eV 16),af (eV 16) eT,
 bm (eV 17) (pl (az 134 [eV 0,.int 8]) (az 135 [eV 0,eV 16])),af (.int 0) (eV 17),af (eV 17) (pl (.int 320) (eV 16)),az 123 [eV 0,eV 16]]⟩,mi eT (eV 16)⟩
def t6D:Tmpl:=⟨bF 108 [(1,b8 24),(3,ii (eV 25)),(10,ii (eV 24))],⟨26,25,oT 24,db (eV 0)++[af dU (.int 30),af (.int 0) (eV 24),af (eV 24) dU,
 bm (eV 25) (pl (az 134 [eV 0,.int 8]) (az 135 [eV 0,eT])),az 123 [eV 0,eT],az 124 [eV 0,eV 24]]⟩,mi dU (eV 24)⟩
def aC7:List Ann:=[⟨44,4,[t4D],none⟩,⟨44,6,[t6D],none⟩]
def MB:List E:=db (eV 0)++[af (.int 0) lg,af lg (.int 1),af jy (.int 30),af gi (.int 30)]
def t0R:Tmpl:=⟨bF 94 [(1,b8 8),(3,ii (eV 8))],⟨9,9,oT 8,MB++[af (.int 0) (eV 8),af (eV 8) jy,az 126 [eV 0,eV 8]]⟩,mi jy (eV 8)⟩
def t2R:Tmpl:=⟨bF 94 [(1,b8 16),(4,ii (eV 16))],⟨17,17,oT 16,MB++[af (.int 0) (eV 16),af (eV 16) gi,az 126 [eV 0,jy],az 127 [eV 0,eV 16]]⟩,mi gi (eV 16)⟩
def Zl(j:Int):E:=nt (cl (eV 0) 32) (pl (tm (eV 16) (.int 2)) (.int j))
def t4R:Tmpl:=⟨bF 94 [(1,b8 16),(4,ii (eV 16)),(5,b8 24),(6,ii (eV 24))],⟨25,25,cn (List.replicate 16 gone++[mL (eV 0)]++List.replicate 7 gone++[⟨true,.cells [ii (Zl 0),ii (Zl 1)] (.int 2) 47⟩]),
 MB++[af (.int 0) (eV 16),gH (eV 16) gi,az 126 [eV 0,jy],az 127 [eV 0,eV 16],af (.int 0) (eV 24),af (eV 24) (eV 16),az 136 [eV 0,eV 16],az 128 [eV 0,eV 16,eV 24]]⟩,mi (eV 16) (eV 24)⟩
def aC9:List Ann:=[⟨45,0,[t0R],none⟩,⟨45,2,[t2R],none⟩,⟨45,4,[t4R],none⟩]
def aIc:Pact:=⟨44,[dh (eV 0)],⟨1,0,.nil,db (eV 0)⟩,[(.bool (eV 1),⟨2,0,.nil,[.iff (eV 1) (.fn 125 (eV 0))]⟩)]⟩
def aIh:Pact:=⟨45,[dh (eV 0)],⟨1,0,.nil,db (eV 0)++[af (.int 0) lg,af lg (.int 1)]⟩,[(.bool (eV 1),⟨2,0,.nil,[.iff (eV 1) (.fn 129 (eV 0))]⟩)]⟩
def aH2:Pact:=⟨14,[dh (eV 0)],⟨1,0,.nil,db (eV 0)⟩,[(.bool (eV 1),⟨2,0,.nil,[.iff (eV 1) (.fn 130 (eV 0))]⟩)]⟩
def adI:List E:=[af (.int 0) lg,af lg (.int 1),af (.int 0) (cl (eV 0) 33),af (cl (eV 0) 33) (.int 1000),af (.int 0) (cl (eV 0) 35),af (cl (eV 0) 35) (.int 10),af (.int (-1)) (cl (eV 0) 36),af (cl (eV 0) 36) (.int 1),af (.int 0) (cl (eV 0) 37),af (cl (eV 0) 37) (.int 2)]
def yR:E:=cR 5 (cl (eV 0) 30)
def KG(c:Int)(q:Bool)(n:E):E:=az 103 [cl (eV 0) c,.bool q,n]
def tV0:Tmpl:=⟨bF 117 [(1,b8 8),(3,ii (eV 8))],⟨9,9,oT 8,db (eV 0)++adI++[af eT (.int 20),af (.int 0) (eV 8),af (eV 8) eT,KG 29 false (eV 8)]⟩,mi eT (eV 8)⟩
def tV2:Tmpl:=⟨bF 117 [(1,b8 16),(4,ii (eV 16))],⟨17,17,oT 16,db (eV 0)++adI++[af yR (.int 20),KG 29 false eT,af (.int 0) (eV 16),af (eV 16) yR,KG 30 true (eV 16)]⟩,mi yR (eV 16)⟩
def aC1:List Ann:=[⟨14,0,[tV0],none⟩,⟨14,2,[tV2],none⟩]
def kE:List CK:=[.int .i64,.int .i64,.int .i64,.int .i64,.int .i64]
def kTr:List CK:=[.int .i64,.slc kE]
def kC:List CK:=[.str,.int .i64,.int .i64,.int .i64,.int .i64,.int .i64,.int .i64,.int .i64,.int .i64,.int .i64,.int .i64,.slc kE,.slc kTr,.int .i64]
def adK(a:Nat):SV:=.agg ((List.range 9).map (fun j=>ii (eV (a+j)))++[.bool (eV (a+9)),.bool (eV (a+10)),.bool (eV (a+11))])
def ij:E:=cR 14 (eV 0)
def nx:E:=cR 12 (cl (eV 1) 0)
def qv:Blk:=⟨true,.cells (qy (eV 1) 0 kB) (.int 38) 34⟩
def qN(x n c:E):Blk:=⟨true,.flat kI x n c 3⟩
def aec:List E:=[af (.int 1) (eV 1),af (eV 1) (eV 2),bm (ln (eV 0)) (eV 1),af (eV 1) (.int 60)]
def aIA:Pact:=⟨56,[.nslice 0 (eV 1) (eV 2)],⟨3,1,cn [qN (eV 0) (eV 1) (eV 2)],aec⟩,
 [(.nslice 1 (eV 4) (eV 5),⟨6,2,cn [qN (eV 0) (eV 1) (eV 2),qN (eV 3) (eV 4) (eV 5)],[bm (eV 4) (eV 1),af (eV 4) (eV 5),bm (ln (eV 3)) (eV 4),az 152 [eV 3,eV 0,eV 1]]⟩)]⟩
def NK(k:Bool):Tmpl:=⟨bF 46 [(0,.nslice 0 (eV 1) (eV 2)),(2,.nils),(3,if k then .nslice 8 (eV 9) (eV 10)else .nils),(4,ii (eV 11))],⟨12,9,cn ([qN (eV 0) (eV 1) (eV 2)]++List.replicate 7 gone++[if k then qN (eV 8) (eV 9) (eV 10)else gone]),
 aec++(if k then [af (.int 1) (eV 11),af (eV 11) (eV 1),bm (eV 9) (eV 11),af (eV 9) (eV 10),bm (ln (eV 8)) (eV 9),az 152 [eV 8,eV 0,eV 11]] else [bm (eV 11) (.int 0)])⟩,mi (eV 1) (eV 11)⟩
def af7(k:Bool):Tmpl:=⟨bF 46 [(0,.nslice 0 (eV 1) (eV 2)),(2,.nils),(3,if k then .nslice 8 (eV 9) (eV 10)else .nils),(4,ii (eV 11)),(5,ii (if k then eV 16 else .int 0))],⟨17,9,cn ([qN (eV 0) (eV 1) (eV 2)]++List.replicate 7 gone++[if k then qN (eV 8) (eV 9) (eV 10)else gone]),
 (NK k).st.pc++[gH (eV 11) (eV 1)]++(if k then [af (.int 0) (eV 16),af (eV 16) (eV 9),az 160 [eV 8,nt (eV 0) (eV 11),eV 16]] else [])⟩,if k then mi (eV 9) (eV 16)else .int 0⟩
def aDp:List Ann:=[⟨56,0,[NK false,NK true],none⟩,⟨56,2,[af7 false,af7 true],none⟩]
def li(n:Int):SV:=ii (.int n)
def noB:List SV:=[.bool (.bool false),.bool (.bool false),.bool (.bool false)]
def args:List SV:=[.bsl kC (eV 0),dh (eV 1),ii (eV 2)]
def Er:E:=cR 14 (eV 0)
def aIu:Pact:=⟨8,[.bsl kC (eV 0)],⟨1,0,.nil,[]⟩,[(.bool (eV 1),⟨2,0,.nil,[.imp (eV 1) (.and (af Er (.int 12)) (az 155 [eV 0,Er]))]⟩)]⟩
def tL0:Tmpl:=⟨bF 55 [(0,.bsl kC (eV 0)),(3,ii (eV 8))],⟨9,0,.nil,[af (.int 0) (eV 8),af (eV 8) (.int 13),af (eV 8) Er,az 155 [eV 0,eV 8]]⟩,mi (.int 13) (eV 8)⟩
def Gd:E:=nt (eV 0) (pl (tm (eV 8) (.int 14)) (.int 12))
def efE:E:=nt (eV 0) (pl (tm (eV 8) (.int 14)) (.int 11))
def tL2:Tmpl:=⟨bF 55 [(0,.bsl kC (eV 0)),(3,ii (eV 8)),(4,ii (eV 16))],⟨17,0,.nil,[af (.int 0) (eV 8),gH (eV 8) (.int 13),gH (eV 8) Er,az 155 [eV 0,eV 8],af (cR 5 efE) (.int 5),af (cR 2 Gd) (.int 3),af (.int 0) (eV 16),af (eV 16) (cR 2 Gd),az 157 [Gd,eV 16]]⟩,mi (cR 2 Gd) (eV 16)⟩
def aDg:List Ann:=[⟨8,0,[tL0],none⟩,⟨8,2,[tL2],none⟩]
def aIB:Pact:=⟨9,[dh (eV 0)],⟨1,0,.nil,[]⟩,[(.bool (eV 1),⟨2,0,.nil,[.imp (eV 1) (ry (eV 0))]⟩)]⟩
def lsB:Blk:=⟨true,.cells [.bsl dT (cl (eV 0) 29),.bsl dT (cl (eV 0) 30)] (.int 2) 30⟩
def abj:T Blk:=cn (List.replicate 8 gone++[mL (eV 0),lsB])
def aeY:List (Nat×SV):=[(1,b8 8),(29,.nslice 9 (.int 2) (.int 2)),(30,ii (.int 2)),(31,ii (eV 8))]
def aed:List E:=[.fn 159 (eV 0),af (.int 0) (eV 8),af (eV 8) (.int 2),.imp (af (.int 1) (eV 8)) (.and (af eT (.int 20)) (az 158 [cl (eV 0) 29,eT])),.imp (af (.int 2) (eV 8)) (.and (af yR (.int 20)) (az 158 [cl (eV 0) 30,yR]))]
def t4m:Tmpl:=⟨bF 68 aeY,⟨9,10,abj,aed⟩,mi (.int 2) (eV 8)⟩
def tSm(q:Nat):Tmpl:=let c:Int:=if q==0 then 29 else 30
 ⟨bF 68 (aeY++[(7,.bsl dT (cl (eV 0) c)),(8,ii (eV 16))]),⟨17,10,abj,
 aed++[bm (eV 8) (.int (Int.ofNat q)),af (cR 5 (cl (eV 0) c)) (.int 20),af (.int 0) (eV 16),af (eV 16) (cR 5 (cl (eV 0) c)),az 158 [cl (eV 0) c,eV 16]]⟩,mi (cR 5 (cl (eV 0) c)) (eV 16)⟩
def aDq:List Ann:=[⟨9,4,[t4m],none⟩,⟨9,6,[tSm 0,tSm 1],none⟩]
/-! ### paying -/
def fnZ(f:Nat)(l:List E):E:=az f (l++[.int 0])
def o6(a b:E):E:=.fn 12 (.pr a b)
def aE2(a b n:E):E:=az 181 [a,b,n]
def E1:List E:=[af rI (.int 20),az 158 [eV 0,rI],.fn 190 (eV 0)]
def aH6:Pact:=⟨33,[.bsl dT (eV 0)],⟨1,0,.nil,E1⟩,[(.bsl dT (eV 1),⟨2,0,.nil,[az 187 [eV 1,eV 0],.fn 195 (eV 1)]⟩)]⟩
def aFa(x n c:E):Blk:=⟨true,.flat dT x n c 80⟩
def tCi(k:Bool):Tmpl:=⟨bF 25 [(0,.bsl dT (eV 0)),(2,.nils),(3,if k then .nslice 8 (eV 9) (eV 10)else .nils),(4,ii (eV 11))],⟨12,if k then 9 else 0,cn (if k then List.replicate 8 gone++[aFa (eV 8) (eV 9) (eV 10)] else []),
 E1++[af (.int 0) (eV 11),af (eV 11) rI]++(if k then [af (.int 1) (eV 9),af (eV 9) (eV 10),bm (eV 9) (eV 11),bm (ln (eV 8)) (tm (eV 9) (.int 5)),aE2 (eV 8) (eV 0) (tm (eV 11) (.int 5))] else [bm (eV 11) (.int 0)])⟩,mi rI (eV 11)⟩
def aC4:List Ann:=[⟨33,0,[tCi false,tCi true],none⟩]
def aGA:List FM:=[.down dT]
def afi:Pact:=⟨11,[dh (eV 0)],⟨1,0,.nil,db (eV 0)⟩,[(dh (eV 1),⟨2,0,.nil,[az 189 [eV 1,eV 0]]⟩)]⟩
def uc:List FM:=tv kB
def zz(n:Nat):List (SV×St):=[(.bool (.bool true),⟨n,0,.nil,[]⟩)]
def ad8:List E:=[o6 (eV 0) (eV 1),af nI (.int 100)]
def aIm:Pact:=⟨17,[.bsl kI (eV 0),.bsl kI (eV 1)],⟨2,0,.nil,ad8⟩,zz 2⟩
def tIe:Tmpl:=⟨bF 26 [(0,.bsl kI (eV 0)),(1,.bsl kI (eV 1)),(5,ii (eV 8))],⟨9,0,.nil,ad8++[af (.int 0) (eV 8),af (eV 8) nI]⟩,mi nI (eV 8)⟩
def aDc:List Ann:=[⟨17,0,[tIe],none⟩]
def it5(a:Nat):SV:=.agg [ii (eV a),ii (eV (a+1)),ii (eV (a+2)),ii (eV (a+3)),.bsl kT (eV (a+4))]
def aeb:List E:=[bm (eV 0) (eV 5),bm (eV 1) (eV 6),bm (eV 2) (eV 7),bm (eV 3) (eV 8),o6 (eV 4) (eV 9),af (cR 2 (eV 4)) (.int 6)]
def aIy:Pact:=⟨102,[it5 0,it5 5],⟨10,0,.nil,aeb⟩,zz 10⟩
def ad7:List E:=[az 187 [eV 1,eV 0],af rI (.int 20),az 158 [eV 0,rI]]
def aIk:Pact:=⟨64,[.bsl dT (eV 0),.bsl dT (eV 1)],⟨2,0,.nil,ad7⟩,zz 2⟩
def ux:List E:=[rE (eV 0),ry (eV 0),az 189 [eV 1,eV 0]]
def aIz:Pact:=⟨26,[dh (eV 0),dh (eV 1)],⟨2,0,.nil,ux⟩,zz 2⟩
def tSI:Tmpl:=⟨bF 59 [(2,b8 16),(3,b8 17),(5,ii (eV 16))],⟨17,18,cn (List.replicate 16 gone++[⟨true,.cells [ii (eV 0),ii (eV 1),ii (eV 2),ii (eV 3),.bsl kT (eV 4)] (.int 5) 80⟩,⟨true,.cells [ii (eV 5),ii (eV 6),ii (eV 7),ii (eV 8),.bsl kT (eV 9)] (.int 5) 80⟩]),
 aeb++[af (.int 0) (eV 16),af (eV 16) (cR 2 (eV 4))]⟩,mi (cR 2 (eV 4)) (eV 16)⟩
def aDo:List Ann:=[⟨102,0,[tSI],none⟩]
def tIS:Tmpl:=⟨bF 27 [(0,.bsl dT (eV 0)),(1,.bsl dT (eV 1)),(5,ii (eV 8))],⟨9,0,.nil,ad7++[af (.int 0) (eV 8),af (eV 8) rI]⟩,mi rI (eV 8)⟩
def aDa:List Ann:=[⟨64,0,[tIS],none⟩]
def Dz(W:Nat):T Blk:=cn (List.replicate W gone++[mL (eV 0),mL (eV 1)])
def gp(k W s:Nat)(n:E):Tmpl:=⟨bF 199 [(2,b8 W),(3,b8 (W+1)),(s,ii (eV W))],⟨W+1,W+2,Dz W,ux++[af (.int 0) (eV W),af (eV W) n]⟩,mi n (eV W)⟩
def aEZ(k W:Nat):Out:=⟨.exit k,bF 199 [(2,b8 W),(3,b8 (W+1))],⟨W+1,W+2,Dz W,ux⟩⟩
def fJ(k W:Nat):LoopX:=⟨W,W,[aEZ k W]⟩
def Ch(y:Option LoopX):Ann:=⟨26,0,[gp 0 16 5 dU],y⟩
def Ci(y:Option LoopX):Ann:=⟨26,2,[gp 2 24 6 gi],y⟩
def pw:Tmpl:=⟨bF 199 [(2,b8 32),(3,b8 33),(7,ii (eV 32))],⟨33,34,Dz 32,ux++[af (.int 0) (eV 32),af (eV 32) (.int 2)]⟩,mi (.int 2) (eV 32)⟩
def Cj(y:Option LoopX):Ann:=⟨26,4,[pw],y⟩
def aeQ(e:E)(p:Nat):Blk:=⟨true,.cells ((List.range 4).map fun q=>.bsl kI (cl e (Int.ofNat (6+14*p+q)))) (.int 4) 75⟩
def gq(p:Nat):Tmpl:=⟨bF 199 [(2,b8 48),(3,b8 49),(7,ii (eV 32)),(10,b8 50),(11,b8 51),(12,ii (eV 48))],⟨49,52,cn (List.replicate 48 gone++[mL (eV 0),mL (eV 1),aeQ (eV 0) p,aeQ (eV 1) p]),ux++[bm (eV 32) (.int (Int.ofNat p)),af (.int 0) (eV 48),af (eV 48) (.int 4)]⟩,mi (.int 4) (eV 48)⟩
def aaC(p:Nat):Out:=⟨.exit 6,bF 199 [(2,b8 48),(3,b8 49),(7,ii (eV 32))],⟨49,50,Dz 48,ux++[bm (eV 32) (.int (Int.ofNat p))]⟩⟩
def lR:LoopX:=⟨48,48,[aaC 0,aaC 1]⟩
def sW(y:Option LoopX):Ann:=⟨26,6,[gq 0,gq 1],y⟩
def msI:List FM:=[.down kI]
def zq(f:FuncId)(ks:List CK)(w:Int)(t:TypeId):Pact:=⟨f,[.bsl ks (eV 0)],⟨1,0,.nil,[af (cR w (eV 0)) (.int 100)]⟩,
 [(.nslice 0 (eV 2) (eV 3),⟨4,1,cn [⟨true,.flat ks (eV 1) (eV 2) (eV 3) t⟩],[az 200 [eV 1,eV 0],af (.int 0) (eV 2),af (eV 2) (eV 3),bm (eV 2) (cR w (eV 0))]⟩)]⟩
def x6(x n c:E):Blk:=⟨true,.flat kO x n c 60⟩
def Gv:CK->SV
 |.int k=>.int k (.int 0)
 |.bool=>.bool (.bool false)
 |.str=>.str (.str ByteArray.empty)
 |.slc _=>.nils
def nA(l n c o:E):Blk:=⟨true,.nest dT l n c 80 o⟩
def aH9:Pact:=zq 120 kT 2 132
def aIE:Pact:=⟨95,[.bsl dT (eV 0)],⟨1,0,.nil,E1⟩,[(.nslice 0 (eV 2) (eV 3),⟨5,1,cn [nA (eV 1) (eV 2) (eV 3) (eV 4)],[az 187 [eV 1,eV 0],.fn 190 (eV 1),bm (eV 2) rI,bm (eV 4) (eV 2),af (.int 0) (eV 2),af (eV 2) (eV 3)]⟩)]⟩
def tWn:Tmpl:=⟨bF 24 [(0,.bsl dT (eV 0)),(2,.nils),(3,.nslice 8 (eV 9) (eV 10)),(8,ii (eV 9)),(9,ii (eV 11))],⟨13,9,cn (List.replicate 8 gone++[nA (eV 8) (eV 9) (eV 10) (eV 12)]),
 E1++[af (.int 0) (eV 11),af (eV 11) (eV 9),bm (eV 9) rI,af (eV 9) (eV 10),bm (eV 12) (eV 11),af (eV 12) (eV 11),af (eV 11) (eV 12),az 187 [eV 8,eV 0],.fn 190 (eV 8)]⟩,mi (eV 9) (eV 11)⟩
def aDt:List Ann:=[⟨95,0,[tWn],none⟩]
/-! ### a board that is owned through and through: X its numbers; lists, lengths and rooms from variable k on -/
def yW(l n c:E):Blk:=⟨true,.flat kI l n c 3⟩
def EF(l n c:E):Blk:=⟨true,.flat kT l n c 47⟩
def zl:List Nat:=[0,6,7,8,9,20,21,22,23,29,30,31,32]
def aG3(x:E)(k b:Nat):List SV:=(List.range 38).zip (qy x 0 kB) |>.map fun(j,v)=>match zl.idxOf? j with
 |some i=>.nslice (b+i) (eV (k+3*i+1)) (eV (k+3*i+2))
 |none=>v
def Ct(k:Nat)(o:Nat):List Blk:=(List.range 13).map fun i=>
 let l:=eV (k+3*i);let n:=eV (k+3*i+1);let c:=eV (k+3*i+2)
 if i==0 then x6 l n c else if i==9 then nA l n c (eV o)else if i==10 then nA l n c (eV (o+1))else if i==12 then EF l n c else yW l n c
def Dc(l n:E):E:=az 158 [l,n]
def kp(k:Nat)(o:Nat):List E:=(List.range 13).flatMap (fun i=>[af (.int 0) (eV (k+3*i+1)),af (eV (k+3*i+1)) (eV (k+3*i+2)),af (eV (k+3*i+1)) (.int 40)])++[bm (eV o) (eV (k+28)),bm (eV (o+1)) (eV (k+31))]
def mX(a b:Nat):List E:=[Dc (eV a) (eV 29),Dc (eV b) (eV 32)]
def yY(x:E)(k b:Nat):List SV:=(List.range 38).zip kB |>.map fun(j,c)=>match zl.idxOf? j with
 |some i=>.nslice (b+i) (eV (k+3*i+1)) (eV (k+3*i+2))
 |none=>ZH (nt x (.int (Int.ofNat (fj.idxOf j)))) c
def aIC:Pact:=⟨46,[.agg (yY (eV 0) 1 0)],⟨42,13,cn (Ct 1 40),kp 1 40++mX 28 31⟩,[(.tup [],⟨42,13,cn (List.replicate 13 gone),[]⟩)]⟩
def stH(W:Nat)(f:Nat->Nat)(more:List Blk):T Blk:=cn ((List.range 13).map (fun i=>
  let l:=eV (f i);let n:=eV (3*i+2);let c:=eV (3*i+3)
  if i==0 then x6 l n c else if i==9 then nA l n c (eV 40)else if i==10 then nA l n c (eV 41)else if i==12 then EF l n c else yW l n c)++List.replicate (W-13) gone++[⟨true,.cells (yY (eV 0) 1 0) (.int 38) 34⟩]++more)
def tS0:Tmpl:=⟨bF 131 [(1,b8 16),(2,ii (eV 48))],⟨50,17,stH 16 (fun i=>if i==0 then 49 else 3*i+1) [],kp 1 40++mX 28 31++[af (.int 0) (eV 48),af (eV 48) (eV 2)]⟩,mi (eV 2) (eV 48)⟩
def zn(p:Nat):List SV:=(List.range 4).map fun q=>let i:=1+4*p+q;.nslice i (eV (3*i+2)) (eV (3*i+3))
def pq(W lo hi u:Nat)(a:Nat)(more:List Blk):T Blk:=cn ((List.range 13).map (fun i=>
  let l:=if Nat.ble u i&&Nat.ble i hi then eV (a+i-u)else eV (3*i+1);let n:=eV (3*i+2);let c:=eV (3*i+3)
  if Nat.blt i lo then gone else if i==0 then x6 l n c else if i==9 then nA l n c (eV 40)else if i==10 then nA l n c (eV 41)else if i==12 then EF l n c else yW l n c)++List.replicate (W-13) gone++[⟨true,.cells (yY (eV 0) 1 0) (.int 38) 34⟩]++more)
def Ez(d:Nat)(i:E):List E:=[af (.int 0) i,af i (eV (3*d+2))]
def yk(v:Nat)(n:Int):List E:=[af (.int 0) (eV v),gH (eV v) (.int n)]
def tS2:Tmpl:=⟨bF 131 [(1,b8 24),(3,ii (eV 50))],⟨59,25,pq 24 1 8 1 51 [],kp 1 40++mX 28 31++[af (.int 0) (eV 50),af (eV 50) (.int 2)]⟩,mi (.int 2) (eV 50)⟩
def tS4(p:Nat):Tmpl:=⟨bF 131 [(1,b8 32),(3,ii (eV 50)),(37,.agg (zn p)),(38,ii (eV 64))],⟨73,33,pq 32 1 8 1 65 [],kp 1 40++mX 28 31++yk 50 2++[bm (eV 50) (.int (Int.ofNat p)),af (.int 0) (eV 64),af (eV 64) (.int 4)]⟩,mi (.int 4) (eV 64)⟩
def pv(p q:Nat):Tmpl:=let d:=1+4*p+q;⟨bF 131 [(1,b8 40),(3,ii (eV 50)),(5,.nslice d (eV (3*d+2)) (eV (3*d+3))),(6,ii (eV 80)),(37,.agg (zn p)),(38,ii (eV 64))],⟨89,41,pq 40 1 8 1 81 [],kp 1 40++mX 28 31++yk 50 2++yk 64 4++[bm (eV 50) (.int (Int.ofNat p)),bm (eV 64) (.int (Int.ofNat q))]++Ez d (eV 80)⟩,mi (eV (3*d+2)) (eV 80)⟩
def aDm:List Ann:=[⟨46,2,[tS2],none⟩,⟨46,4,[tS4 0,tS4 1],none⟩,⟨46,6,[pv 0 0,pv 0 1,pv 0 2,pv 0 3,pv 1 0,pv 1 1,pv 1 2,pv 1 3],none⟩]
def Ly:Blk:=⟨true,.cells [.nslice 9 (eV 29) (eV 30),.nslice 10 (eV 32) (eV 33)] (.int 2) 30⟩
def Na(W:Nat):List (Nat×SV):=[(1,b8 W),(58,.nslice (W+1) (.int 2) (.int 2)),(59,ii (.int 2)),(60,ii (eV 60))]
def tS8:Tmpl:=⟨bF 131 (Na 32),⟨63,34,pq 32 9 10 9 61 [Ly],kp 1 40++mX 61 62++[af (.int 0) (eV 60),af (eV 60) (.int 2)]⟩,mi (.int 2) (eV 60)⟩
def aDn:List Ann:=[⟨46,8,[tS8],none⟩]
def af5(m:Nat):Tmpl:=let d:=9+m;⟨bF 131 (Na 40++[(8,.nslice d (eV (3*d+2)) (eV (3*d+3))),(9,ii (eV 68))]),⟨71,42,pq 40 9 10 9 69 [Ly],kp 1 40++mX 69 70++yk 60 2++[bm (eV 60) (.int (Int.ofNat m))]++Ez d (eV 68)⟩,mi (.int 40) (eV 68)⟩
def tgE(l i:E):E:=cR 2 (nt l (pl (tm i (.int 5)) (.int 4)))
def af6(m:Nat):Tmpl:=let d:=9+m;⟨bF 131 (Na 48++[(8,.nslice d (eV (3*d+2)) (eV (3*d+3))),(9,ii (eV 68)),(10,ii (eV 76))]),⟨79,50,pq 48 9 10 9 77 [Ly],kp 1 40++mX 77 78++yk 60 2++[bm (eV 60) (.int (Int.ofNat m)),af (.int 0) (eV 68),gH (eV 68) (eV (3*d+2)),gH (eV 68) (eV (40+m)),af (.int 0) (eV 76),af (eV 76) (tgE (eV (77+m)) (eV 68))]⟩,mi (tgE (eV (77+m)) (eV 68)) (eV 76)⟩
def aDl:List Ann:=[⟨46,10,[af5 0,af5 1],none⟩,⟨46,12,[af6 0,af6 1],none⟩]
def aLn:Tmpl:=⟨bF 131 [(1,b8 40),(11,ii (eV 64))],⟨66,41,pq 40 11 11 11 65 [],kp 1 40++Ez 11 (eV 64)⟩,mi (eV 35) (eV 64)⟩
def aLo:Tmpl:=⟨bF 131 [(1,b8 48),(12,ii (eV 72))],⟨74,49,pq 48 12 12 12 73 [],kp 1 40++Ez 12 (eV 72)⟩,mi (eV 38) (eV 72)⟩
def aDr:List Ann:=[⟨46,0,[tS0],none⟩,⟨46,14,[aLn],none⟩,⟨46,16,[aLo],none⟩]++aDl++aDn++aDm
/-! ### a copy that is owned -/
def wJ(i:Nat):Int:=if i==0 then 12 else if i==9||i==10 then 5 else if i==12 then 2 else 1
def cpX(x:E)(k o:Nat):List E:=(List.range 13).flatMap (fun i=>
  let l:=eV (k+3*i);let n:=eV (k+3*i+1);let c:=eV (k+3*i+2);let s:=cl x (Int.ofNat (zl.getD i 0))
  (if i==9||i==10 then [az 187 [l,s],.fn 190 l] else [az 200 [l,s]])++[bm n (cR (wJ i) s),af (.int 0) n,af n c])++[bm (eV o) (eV (k+28)),bm (eV (o+1)) (eV (k+31))]
def aH4:Pact:=⟨55,[dh (eV 0)],⟨1,0,.nil,db (eV 0)⟩,[(.agg (aG3 (eV 0) 1 0),⟨42,13,cn (Ct 1 40),cpX (eV 0) 1 40⟩)]⟩
def agJ(b:Nat):SV:=.agg ((List.range 38).zip kB |>.map fun(j,c)=>match zl.idxOf? j with
 |some i=>.nslice (b+i) (.int 0) (.int 0)
 |none=>Gv c)
def agH:List Blk:=(List.range 13).map fun i=>if i==0 then x6 qF (.int 0) (.int 0)else if i==9||i==10 then nA qF (.int 0) (.int 0) (.int 0)else if i==12 then EF qF (.int 0) (.int 0)else yW qF (.int 0) (.int 0)
def lsX(k:Nat):List E:=(List.range 13).map fun i=>eV (k+3*i)
def aIi:Pact:=⟨15,[.agg (yY (eV 0) 1 0),ii (eV 42),dh (eV 43),ii (eV 44),dh (eV 45),dh (eV 46)],⟨47,13,cn (Ct 1 40),kp 1 40++mX 28 31++[.fn 190 (eV 28),.fn 190 (eV 31),fnZ 221 ([eV 43,eV 0]++lsX 1),rE (eV 43),ry (eV 43),bm (eV 42) (eV 44),rE (eV 45),ry (eV 45),az 189 [eV 46,eV 45]]⟩,
 [(.bool (.bool true),⟨47,13,cn (List.replicate 13 gone),[]⟩)]⟩
def afj(z:SV):Pact:=⟨15,[agJ 0,ii (eV 0),z,ii (eV 1),dh (eV 2),dh (eV 3)],⟨4,13,cn agH,[bm (eV 0) (eV 1),rE (eV 2),ry (eV 2),az 189 [eV 3,eV 2]]⟩,
 [(.bool (.bool true),⟨4,13,cn (List.replicate 13 gone),[]⟩)]⟩
def zNl:SV:=.agg (kB.map Gv)
/-! ### the law PayPays -/
def afk(g:FuncId):Pact:=⟨g,[.bsl kC (eV 0),adK 1,ii (eV 13)],⟨14,0,.nil,[]⟩,[(.bool (eV 14),⟨15,0,.nil,[.iff (eV 14) (az 222 [eV 0,eV 2,eV 13])]⟩)]⟩
def afh(g:FuncId):Pact:=⟨g,[.bsl kC (eV 0),adK 1],⟨13,0,.nil,[]⟩,[(.bool (eV 13),⟨14,0,.nil,[.iff (eV 13) (az 223 [eV 0,eV 2])]⟩)]⟩
def yQ:E:=cR 12 (eV 0)
def aFn(l i:E):E:=nt l (pl (tm i (.int 12)) (.int 0))
def ad5:List E:=[af yQ (.int 30),.fn 228 (eV 0),af (.int 1) (eV 1),af (eV 1) (.int 500)]
def aH3:Pact:=⟨113,[.bsl kO (eV 0),ii (eV 1),tw 114],⟨2,0,.nil,ad5⟩,[(.tup [ii (eV 2),.bool (eV 3)],⟨4,0,.nil,[af (.int 0) (eV 2),af (eV 2) yQ,az 226 [eV 0,eV 1,eV 2,eV 2],.iff (eV 3) (.and (gH (eV 2) yQ) (bm (aFn (eV 0) (eV 2)) (eV 1)))]⟩)]⟩
def tBf:Tmpl:=⟨bF 49 [(0,.bsl kO (eV 0)),(1,ii (eV 1)),(2,tw 114),(8,ii yQ),(9,ii (eV 8)),(10,ii (eV 9))],⟨10,0,.nil,ad5++[af (.int 0) (eV 8),af (eV 8) (eV 9),af (eV 9) yQ,az 226 [eV 0,eV 1,eV 8,eV 9]]⟩,mi (eV 9) (eV 8)⟩
def aC2:List Ann:=[⟨113,0,[tBf],none⟩]
def aHt(l i:E):SV:=.agg ((List.range 12).map fun j=>if j<9 then ii (nt l (pl (tm i (.int 12)) (.int (Int.ofNat j))))else .bool (nt l (pl (tm i (.int 12)) (.int (Int.ofNat j)))))
def aaG(k:E):E:=az 120 [eV 0,k,dU]
def aId:Pact:=⟨37,[dh (eV 0),ii (eV 1)],⟨2,0,.nil,db (eV 0)++[.fn 115 (eV 0),af (.int 0) (aaG (eV 1))]⟩,[(aHt (cl (eV 0) 0) (eV 2),⟨3,0,.nil,[bm (eV 2) (aaG (eV 1)),af (.int 0) (eV 2),gH (eV 2) dU]⟩)]⟩
def aG7:List E:=db (eV 1)++[.fn 115 (eV 1),af ij (.int 12),az 155 [eV 0,ij],af (.int 0) (eV 2),af (eV 2) (.int 1)]
def x5(x n c:E):Blk:=⟨true,.flat kI x n c 3⟩
def aGz:List FM:=[.up kI 3]
def tCe(k:Bool):Tmpl:=let L:=if k then eV 16 else qF;⟨bF 51 [(0,.bsl kC (eV 0)),(2,ii (eV 2)),(4,b8 16),(6,.nils),(7,if k then .nslice 17 (eV 17) (eV 18)else .nils),(19,.bsl kO (cl (eV 1) 0)),(20,ii nx),(21,ii (eV 19))],
 ⟨20,if k then 18 else 17,cn (List.replicate 16 gone++[qv]++(if k then [x5 (eV 16) (eV 17) (eV 18)] else [])),aG7++[af (.int 0) (eV 19),af (eV 19) nx,az 224 [L,eV 0,eV 1,eV 2,eV 19]]++(if k then [af (.int 1) (eV 17),af (eV 17) (eV 18),bm (ln (eV 16)) (eV 17),af (eV 17) (eV 19)] else [])⟩,mi nx (eV 19)⟩
def aC3:List Ann:=[⟨34,0,[tCe true,tCe false],none⟩]
def aea:List E:=db (eV 1)++[.fn 130 (eV 1),af ij (.int 12),az 155 [eV 0,ij],af (.int 0) (eV 2),af (eV 2) (.int 1)]
def aIx:Pact:=⟨49,[.bsl kC (eV 0),dh (eV 1),ii (eV 2)],⟨3,0,.nil,aea⟩,[(.bsl kI (eV 3),⟨4,0,.nil,[af (ln (eV 3)) (.int 40),az 224 [eV 3,eV 0,eV 1,eV 2,nx]]⟩)]⟩
def MD:List E:=db (eV 1)++[af ij (.int 12),az 155 [eV 0,ij]]
def aG6:List E:=db (eV 1)++[.fn 115 (eV 1),af ij (.int 12),az 155 [eV 0,ij]]
def tRe(k:Bool):Tmpl:=let L:=if k then eV 16 else qF;⟨bF 36 [(0,.bsl kC (eV 0)),(4,b8 16),(6,.nils),(7,if k then .nslice 17 (eV 17) (eV 18)else .nils),(14,.bsl kI (eV 19)),(15,ii (ln (eV 19))),(16,ii (eV 20))],⟨21,18,cn (List.replicate 16 gone++[qv,if k then x5 (eV 16) (eV 17) (eV 18)else gone]),
 aea++[az 109 [eV 19,eV 1,eV 2,.int 2],af (ln (eV 19)) (.int 40),af (.int 0) (eV 20),af (eV 20) (ln (eV 19)),az 225 [L,eV 0,eV 1,eV 2,eV 20]]++(if k then [af (.int 1) (eV 17),af (eV 17) (eV 18),bm (ln (eV 16)) (eV 17),af (eV 17) (eV 20)] else [])⟩,mi (ln (eV 19)) (eV 20)⟩
def aDk:List Ann:=[⟨49,0,[tRe false,tRe true],none⟩]
/-! ### a block is made -/
def aGC:List FM:=(List.range 38).zip kB |>.map fun(j,c)=>match c with
 |.slc ks=>.up ks (if j==0 then 60 else if j==29||j==30 then 80 else if j==32 then 47 else 3)
 |_=>.stay
def ME:List E:=db (eV 1)++[.fn 130 (eV 1),af ij (.int 12),az 155 [eV 0,ij]]
def Mc:E:=ln (eV 2)
def tQ(i c o d:Int)(t s m:Bool):List SV:=[li i,li c,li o,li 0,li 0,li d,li 0,li 0,li 0,.bool (.bool t),.bool (.bool s),.bool (.bool m)]
def kx(k:Nat):(Bool×Bool×Bool)×Int×List Int×List Int:=match k with
 |0=>((false,false,false),20,[],[]) | 1=>((true,false,false),20,[1],[]) | 2=>((true,false,false),20,[1,3],[])
 |3=>((true,true,false),20,[1,3,2],[]) | 4=>((true,true,false),20,[1,3,2],[4,3]) | _=>((true,true,true),17,[],[])
def LB(b v:Nat)(w:Nat)(l:List Int):SV:=match l with | []=>.nils | _=>.nslice b (.int (Int.ofNat (l.length/w))) (.var v)
def LD(b v k:Nat):SV:=let x:=kx k;.agg ([.nslice b (.int 6) (.var v),li 20,li 0,li 0,li 0,li 0,.nils,.nils,.nslice (b+1) (.int 3) (.var (v+1)),.nils]++noB++[li 0,li 0,li x.2.1,li 0,li 0,li 0,li 0,.nils,.nils,.nslice (b+2) (.int 3) (.var (v+2)),.nils]++noB ++
 [li 0,li 0,.nils,.nils,LB (b+3) (v+3) 1 x.2.2.1,LB (b+4) (v+4) 2 x.2.2.2,li 0,li 0,li 0,li (-1),li 0])
def tO(v:Nat)(w:Int)(t:TypeId)(l:List SV):List Blk:=match l with | []=>[] | _=>[⟨true,.cells l (if w==1 then .var v else .fn 8 (.pr (.var v) (.int w))) t⟩]
def yq(v k:Nat):List Blk:=let x:=kx k;let h:=x.1.2.2
 tO v 12 60 (tQ 1 0 0 0 x.1.1 false false++tQ 2 1 0 0 x.1.2.1 false false++tQ 3 2 0 (if h then 2 else 0) false true false++tQ 4 0 1 (if h then 1 else 0) false false h++tQ 5 0 1 0 false false false++tQ 6 1 1 0 false false false) ++
 tO (v+1) 1 3 [li 1,li 2,li 3]++tO (v+2) 1 3 [li 4,li 5,li 6]++tO (v+3) 1 3 (x.2.2.1.map li)++tO (v+4) 2 47 (x.2.2.2.map li)
def tP(v:Nat)(n:Nat):List E:=match n with | 0=>[] | _=>[af (.int (Int.ofNat n)) (.var v),af (.int 0) (.var v)]
def yr(v k:Nat):List E:=let x:=kx k;tP v 6++tP (v+1) 3++tP (v+2) 3++tP (v+3) x.2.2.1.length++tP (v+4) (x.2.2.2.length/2)
def gf(k:Nat):Nat:=match k with | 0=>3 | 4=>5 | 5=>3 | _=>4
def Lz(c p t w:Int):List SV:=[.str (.str ⟨#[]⟩),li 2,li 0,li 0,li 0,li 0,li 0,li 0,li p,li t,li w,.nils,.nils,li 0]
def LA:Blk:=⟨true,.cells (Lz 0 2 2 0++Lz 1 1 1 2++Lz 2 1 3 13) (.int 42) 71⟩
def qW(k:Nat):St:=⟨gf k,gf k+1,cn (LA::yq 0 k),yr 0 k⟩
def tN(k:Nat)(more:List SV):List SV:=.nslice 0 (.int 3) (.int 3)::LD 1 0 k::more
def LC(k j:Nat)(r:SV->SV):SV×St:=(r (LD (gf k+1) (gf k) j),⟨gf k+gf j,gf k+gf j+1,cn (LA::yq 0 k++yq (gf k) j),yr (gf k) j++yr 0 k⟩)
def aIt:Pact:=⟨31,[],⟨0,0,.nil,[]⟩,[(LD 0 0 0,⟨3,3,cn (yq 0 0),yr 0 0⟩)]⟩
def afn(f:FuncId)(k:Nat)(w:Nat)(t:TypeId)(l:List Int):Pact:=⟨f,tN k [],qW k,[(LB (gf k+1) (gf k) w l,⟨gf k+1,gf k+2,cn (LA::yq 0 k++tO (gf k) (Int.ofNat w) t (l.map li)),tP (gf k) (l.length/w)++yr 0 k⟩)]⟩
def Ng(k j:Nat)(id:Int):Pact:=⟨13,tN k [li id],qW k,[LC k j fun v=>.tup [v,li 0]]⟩
def aIr(k j:Nat)(x y:Int):Pact:=⟨20,tN k [.agg [li x,li y]],qW k,[LC k j fun v=>.tup [v,li 0]]⟩
def aIs(k j:Nat):Pact:=⟨24,tN k [],qW k,[LC k j id]⟩
def kNo(k:Nat):List (SV×St):=[(.tup [zNl,li 14],qW k)]
def aIq(k:Nat)(id:Int):Pact:=⟨13,tN k [li id],qW k,kNo k⟩
def afm(k:Nat)(x y:Int):Pact:=⟨20,tN k [.agg [li x,li y]],qW k,kNo k⟩
def MG:List E:=[rE (eV 1)]
def aH5:Pact:=⟨34,[.bsl kC (eV 0),dh (eV 1),ii (eV 2)],⟨3,0,.nil,db (eV 1)++[af ij (.int 12),az 155 [eV 0,ij],.imp (.fn 115 (eV 1)) (af (.int 0) (eV 2)),.imp (.fn 115 (eV 1)) (af (eV 2) (.int 1))]⟩,
 [(.nslice 0 (eV 4) (eV 5),⟨6,1,cn [x5 (eV 3) (eV 4) (eV 5)],[af (.int 0) (eV 4),af (eV 4) (eV 5),bm (ln (eV 3)) (eV 4),af (eV 4) (.int 30),.imp (.fn 115 (eV 1)) (az 224 [eV 3,eV 0,eV 1,eV 2,nx]),.imp (.not (.fn 115 (eV 1))) (bm (eV 4) (.int 0))]⟩)]⟩
def aH1:Pact:=⟨12,[.bsl kC (eV 0),dh (eV 1)],⟨2,0,.nil,MD⟩,[(.bsl kI (eV 2),⟨3,0,.nil,[.imp (.fn 115 (eV 1)) (az 241 [eV 2,eV 0,eV 1]),.imp (.not (.fn 115 (eV 1))) (bm (ln (eV 2)) (.int 0)),af (ln (eV 2)) (.int 40)]⟩)]⟩
def sU:E:=cl (eV 1) 34
def MC:List E:=MD++[af (.int 0) (eV 3),af (eV 3) (eV 4),bm (ln (eV 2)) (eV 3),af (eV 3) (.int 30),.imp (.fn 115 (eV 1)) (az 224 [eV 2,eV 0,eV 1,sU,nx]),.imp (.not (.fn 115 (eV 1))) (bm (eV 3) (.int 0)),.imp (.fn 115 (eV 1)) (af (.int 0) sU),.imp (.fn 115 (eV 1)) (af sU (.int 1))]
def Cy:Blk:=⟨true,.cells [.bsl kC (eV 0)] (.int 1) 22⟩
def CH:SV:=.func (.func 36) [] [b8 1,b8 0]
def ye(l:E):T Blk:=cn [Cy,qv,x5 l (eV 3) (eV 4)]
def t71:Tmpl:=⟨bF 19 [(0,.nslice 2 (eV 3) (eV 4)),(1,CH),(6,.nslice 2 (eV 3) (eV 4)),(7,ii (eV 3)),(8,ii (eV 16))],⟨17,3,ye (eV 2),
 MC++[af (.int 0) (eV 16),af (eV 16) (eV 3),az 244 [eV 2,eV 0,eV 1,eV 16]]⟩,mi (eV 3) (eV 16)⟩
def aG8:List E:=db (eV 1)++[.fn 115 (eV 1),af ij (.int 12),az 155 [eV 0,ij],af (.int 0) (az 120 [eV 1,eV 2,nx])]
def aH7:Pact:=⟨36,[ii (eV 2),b8 1,b8 0],⟨3,2,cn [Cy,qv],aG8⟩,[(.bool (eV 3),⟨4,2,cn [Cy,qv],[.iff (eV 3) (.not (az 239 [eV 0,eV 1,eV 2]))]⟩)]⟩
def t35:Tmpl:=⟨bF 42 [(0,.nslice 2 (eV 3) (eV 4)),(1,CH),(4,.nils),(5,ii (eV 16)),(6,ii (eV 17))],⟨25,3,ye (eV 24),
 aG6++[af (.int 0) (eV 3),af (eV 3) (eV 4),bm (ln (eV 24)) (eV 3),af (eV 3) (.int 30),af (.int 0) sU,af sU (.int 1),af (.int 0) (eV 16),gH (eV 16) (eV 17),af (eV 17) (eV 3),az 243 [eV 24,eV 0,eV 1,eV 16,eV 17]]⟩,mi (eV 3) (eV 17)⟩
def aaH(i:E):E:=az 244 [eV 2,eV 0,eV 1,i]
def aIj:Pact:=⟨71,[.nslice 2 (eV 3) (eV 4),CH],⟨5,3,ye (eV 2),MC⟩,[(ii (eV 5),⟨6,3,ye (eV 2),[af (.int (-1)) (eV 5),gH (eV 5) (eV 3),.imp (gH (eV 5) (.int 0)) (aaH (eV 3)),.imp (af (.int 0) (eV 5)) (aaH (eV 5)),.imp (af (.int 0) (eV 5)) (.not (az 239 [eV 0,eV 1,nt (eV 2) (eV 5)]))]⟩)]⟩
def aIa:Pact:=⟨35,[.nslice 2 (eV 3) (eV 4),CH],⟨5,3,ye (eV 2),MC⟩,[(.nslice 2 (eV 5) (eV 4),⟨7,3,cn [Cy,qv,⟨true,.flat kI (eV 6) (eV 5) (eV 4) 3⟩],
 [af (.int 0) (eV 5),af (eV 5) (eV 3),bm (ln (eV 6)) (eV 5),.imp (.fn 115 (eV 1)) (az 241 [eV 6,eV 0,eV 1]),.imp (.not (.fn 115 (eV 1))) (bm (eV 5) (.int 0))]⟩)]⟩
/-! ### an attack -/
def Db:E:=az 246 [eV 0,eV 1,eV 2]
def Y6(n:Int)(l:List E):SV×St:=(.tup [agJ 0,ii (.int n)],⟨3,13,cn agH,l⟩)
def cpZ(x:E)(k o:Nat):List E:=([1,2,3,4,5,6,7,8,9,10,12]:List Nat).flatMap (fun i=>
  let l:=eV (k+3*i);let n:=eV (k+3*i+1);let c:=eV (k+3*i+2);let s:=cl x (Int.ofNat (zl.getD i 0))
  (if i==9||i==10 then [az 187 [l,s],.fn 190 l] else [az 200 [l,s]])++[bm n (cR (wJ i) s),af (.int 0) n,af n c])++[bm (eV o) (eV (k+28)),bm (eV (o+1)) (eV (k+31))] ++
 [bm (eV (k+1)) (cR 12 (cl x 0)),af (.int 0) (eV (k+1)),af (eV (k+1)) (eV (k+2)),bm (eV (k+34)) (pl (cR 1 (cl x 31)) (.int 1)),af (eV (k+34)) (eV (k+35))]
def aH0:Pact:=⟨13,[.bsl kC (eV 0),dh (eV 1),ii (eV 2)],⟨3,0,.nil,MD⟩,[Y6 2 [.not (.fn 115 (eV 1))],Y6 14 [.fn 115 (eV 1),.not Db],
 (.tup [.agg (yY (eV 3) 4 0),ii (.int 0)],⟨45,13,cn (Ct 4 43),[.fn 115 (eV 1),Db,az 236 [eV 3,eV 1],az 247 [eV 4,eV 1,eV 0,eV 2],az 248 [eV 37,cl (eV 1) 31,eV 2]]++cpZ (eV 1) 4 43⟩)]⟩
def aIb:Pact:=⟨18,[.bsl kC (eV 0),dh (eV 1)],⟨2,0,.nil,ME⟩,[(.bsl kI (eV 2),⟨3,0,.nil,[az 241 [eV 2,eV 0,eV 1],af (ln (eV 2)) (.int 40)]⟩)]⟩
def tFa(k:Bool):Tmpl:=⟨bF 57 [(0,.bsl kC (eV 0)),(3,b8 16),(4,.nils),(5,if k then .nslice 17 (eV 17) (eV 18)else .nils),(6,.bsl kI (eV 2)),(7,ii (eV 19))],⟨20,18,cn (List.replicate 16 gone++[qv,if k then x5 (eV 16) (eV 17) (eV 18)else gone]),
 ME++[af Mc (.int 40),az 224 [eV 2,eV 0,eV 1,sU,nx],af (.int 0) (eV 19),af (eV 19) Mc,az 242 [if k then eV 16 else qF,eV 2,eV 0,eV 1,eV 19]]++(if k then [af (.int 1) (eV 17),af (eV 17) (eV 18),bm (ln (eV 16)) (eV 17),af (eV 17) (eV 19)] else [])⟩,mi Mc (eV 19)⟩
def aC6:List Ann:=[⟨18,0,[tFa true,tFa false],none⟩]
def aG0(b:Nat)(x e l:E)(n c n' c':E):SV:=.agg ([.nslice b n c]++((qy e 0 kB).take 31).drop 1++[.nslice (b+1) n' c',.bsl kT l]++(qy x 0 kB).drop 33)
def aIF:Pact:=⟨11,[dh (eV 0)],⟨1,0,.nil,db (eV 0)⟩,[(aG0 0 (eV 0) (eV 1) (eV 2) (eV 3) (eV 4) (eV 5) (eV 6),⟨9,2,cn [x6 (eV 7) (eV 3) (eV 4),yW (eV 8) (eV 5) (eV 6)],[az 249 [eV 1,eV 0],az 200 [eV 2,cl (eV 0) 32],.fn 201 (eV 2),az 200 [eV 7,cl (eV 0) 0],az 200 [eV 8,cl (eV 0) 31],
 bm (eV 3) dU,af (.int 0) (eV 3),af (eV 3) (eV 4),bm (eV 5) (ln (cl (eV 0) 31)),af (.int 0) (eV 5),af (eV 5) (eV 6)]⟩)]⟩
def aGD:List FM:=(uc.set 31 (FM.up kI 3)).set 0 (FM.up kO 60)
def agI:SV:=.agg (((kB.map Gv).set 31 (.bsl kI (.fn 30 (.int 0)))).set 0 (.bsl kO (.fn 30 (.int 0))))
def aIg:Pact:=⟨16,[.bsl kC (eV 0),dh (eV 1),ii (eV 2)],⟨3,0,.nil,ME⟩,[(.tup [agI,ii (.int 14)],⟨3,0,.nil,[.not Db]⟩),
 (.tup [dh (eV 3),ii (.int 0)],⟨4,0,.nil,[Db,az 250 [eV 3,eV 1],az 247 [cl (eV 3) 0,eV 1,eV 0,eV 2],az 248 [cl (eV 3) 31,cl (eV 1) 31,eV 2],rE (eV 3),ry (eV 3)]⟩)]⟩
def aGB:List FM:=(List.replicate 31 FM.stay++[FM.down kI]).set 0 (FM.down kO)
def ad9:List E:=[bm (ln (eV 0)) (ln (eV 1)),af (ln (eV 0)) (.int 100),az 237 [eV 0,eV 1]]
def aIp:Pact:=⟨17,[.bsl kI (eV 0),.bsl kI (eV 1)],⟨2,0,.nil,ad9⟩,zz 2⟩
def tIz:Tmpl:=⟨bF 26 [(0,.bsl kI (eV 0)),(1,.bsl kI (eV 1)),(5,ii (eV 8))],⟨9,0,.nil,ad9++[af (.int 0) (eV 8),af (eV 8) (ln (eV 0))]⟩,mi (ln (eV 0)) (eV 8)⟩
def aDf:List Ann:=[⟨17,0,[tIz],none⟩]
/-! ### the law -/
def aDA:List SV:=[.bsl kC (eV 0),dh (eV 1),ii (eV 2)]
theorem aMl:∀F:Env,E.B F vb=true:=fun F=>rfl
structure Nl where
 l:List Nat1
 h:∀x∈l,aR Tryz.prog x
def nc{x:Nat1}(h:aR Tryz.prog x)(n:Nl):Nl:=⟨x::n.l,fun y hy=>(List.mem_cons.1 hy).elim (fun e=>e▸h) (n.h y)⟩
theorem sc{s:Pact}(f:List Fa)(a:List Ann)(n:Nl)(ms:List FM)(ha:E4 a=true)(h:lQ Tryz.prog (fun tb=>Nh Tryz.prog (tb.plus (fl f) a n.l) 3000 ms s)=true):aR Tryz.prog (bj s):=
 afq good (facts:=fl f) (na f) (anns:=a) (lF a ha) (nats:=n.l) n.h (n:=3000) (ms:=ms) h
def acv:Nl:=⟨nats,nats_ok⟩
def p0:List Fa:=[]
theorem aIH:aR Tryz.prog (bj (aIt)):=sc p0 ([]) acv ([]) (by kernel_rfl) (by kernel_rfl)
def acw:Nl:=nc aIH acv
def p1:List Fa:=[]
theorem aIS:aR Tryz.prog (bj (afn 12 0 1 3 [1,2,3])):=sc p1 ([]) acw ([]) (by kernel_rfl) (by kernel_rfl)
def acG:Nl:=nc aIS acw
def p2:List Fa:=[]
theorem aI3:aR Tryz.prog (bj (Ng 0 1 1)):=sc p2 ([]) acG ([]) (by kernel_rfl) (by kernel_rfl)
def acR:Nl:=nc aI3 acG
def p3:List Fa:=[]
theorem aJe:aR Tryz.prog (bj (Ng 1 2 3)):=sc p3 ([]) acR ([]) (by kernel_rfl) (by kernel_rfl)
def acZ:Nl:=nc aJe acR
end
end Go.Proofs.YtnggbcblogpnfaaGreat.combatAttacks
