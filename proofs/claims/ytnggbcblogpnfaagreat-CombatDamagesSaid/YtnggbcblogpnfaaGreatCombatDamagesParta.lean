/-
  CombatDamages: contracts of functions, part 1.
-/
import Derived.Test.YtnggbcblogpnfaaGreatRows
import Derived.Test.YtnggbcblogpnfaaGreatNat
import Derived.WalkKit
import Derived.ProofKit
import Derived.OpenShut
import Derived.ChangeOld
import Derived.Below
import Derived.KernelRfl
import Derived.Lib.SmallJoins
import Derived.Laws.IdiomArrays
namespace Go.Proofs.YtnggbcblogpnfaaGreat.combatDamages
open Go.ChangeShapes Go.WideShapes Go.ChangeAt Go.RowKit
open Go.SX
open Go.SX.E (fn pr cmp var)
set_option linter.unusedVariables false
set_option linter.unusedSimpArgs false
set_option maxRecDepth 100000
noncomputable section
theorem own:ownKnob Tryz.prog.godebug=none:=by kernel_rfl
theorem laidOut:laidOutB Tryz.prog=true:=by kernel_rfl
theorem good:lV Tryz.prog=true:=by kernel_rfl

theorem aCe{H:Type}:BulkOk (ya (H:=H)) ut:=YR
theorem aJO{us:List U}(h:us.length=38)(t:U.typs us oD []=true):uq (.lst us)=true:=aBW h t

abbrev Tr(f:E):Prop:=∀ρ:Env,E.B ρ f=true
theorem ac{e:E}{l:List E}(h:Tr e)(hl:∀e∈l,Tr e):∀x∈e::l,Tr x:=all_cons h hl
structure Fa where
 e:E
 t:Tr e
def fa(e:E)(t:Tr e):Fa:=⟨e,t⟩
def Yv:E->List E->E
 |a,[]=>a
 |a,b::l=>.and a (Yv b l)
def df:List E->E->E
 |[],d=>d
 |a::l,d=>.imp (Yv a l) d
def fb(l:List E)(d:E)(t:Tr (df l d)):Fa:=⟨df l d,t⟩
def fl:List Fa->List E
 |[]=>[]
 |x::l=>x.e::fl l
theorem oo:∀l:List Fa,∀e∈fl l,Tr e
 |[],e,h=>by cases h
 |x::l,e,h=>(List.mem_cons.1 h).elim (fun h=>h▸x.t) (oo l e)
def ey:Fa:=fa wn fun ρ=>rfl
theorem ak{a0 d:E}(h:∀ρ:Env,E.B ρ a0=true->E.B ρ d=true):Tr (df [a0] d):=fun ρ=>by
 show E.B ρ (.imp a0 d)=true
 rw[cb]
 rintro p0
 exact h ρ p0
theorem au{a0 a1 d:E}(h:∀ρ:Env,E.B ρ a0=true->E.B ρ a1=true->E.B ρ d=true):Tr (df [a0,a1] d):=fun ρ=>by
 show E.B ρ (.imp (.and a0 a1) d)=true
 rw[cb]
 simp only[cZ]
 rintro⟨p0,p1⟩
 exact h ρ p0 p1
theorem ay{a0 a1 a2 d:E}(h:∀ρ:Env,E.B ρ a0=true->E.B ρ a1=true->E.B ρ a2=true->E.B ρ d=true):Tr (df [a0,a1,a2] d):=fun ρ=>by
 show E.B ρ (.imp (.and a0 (.and a1 a2)) d)=true
 rw[cb]
 simp only[cZ]
 rintro⟨p0,p1,p2⟩
 exact h ρ p0 p1 p2
theorem aF{a0 a1 a2 a3 d:E}(h:∀ρ:Env,E.B ρ a0=true->E.B ρ a1=true->E.B ρ a2=true->E.B ρ a3=true->E.B ρ d=true):Tr (df [a0,a1,a2,a3] d):=fun ρ=>by
 show E.B ρ (.imp (.and a0 (.and a1 (.and a2 a3))) d)=true
 rw[cb]
 simp only[cZ]
 rintro⟨p0,p1,p2,p3⟩
 exact h ρ p0 p1 p2 p3
theorem bl{a0 a1 a2 a3 a4 d:E}(h:∀ρ:Env,E.B ρ a0=true->E.B ρ a1=true->E.B ρ a2=true->E.B ρ a3=true->E.B ρ a4=true->E.B ρ d=true):Tr (df [a0,a1,a2,a3,a4] d):=fun ρ=>by
 show E.B ρ (.imp (.and a0 (.and a1 (.and a2 (.and a3 a4)))) d)=true
 rw[cb]
 simp only[cZ]
 rintro⟨p0,p1,p2,p3,p4⟩
 exact h ρ p0 p1 p2 p3 p4
theorem cz{a0 a1 a2 a3 a4 a5 d:E}(h:∀ρ:Env,E.B ρ a0=true->E.B ρ a1=true->E.B ρ a2=true->E.B ρ a3=true->E.B ρ a4=true->E.B ρ a5=true->E.B ρ d=true):Tr (df [a0,a1,a2,a3,a4,a5] d):=fun ρ=>by
 show E.B ρ (.imp (.and a0 (.and a1 (.and a2 (.and a3 (.and a4 a5))))) d)=true
 rw[cb]
 simp only[cZ]
 rintro⟨p0,p1,p2,p3,p4,p5⟩
 exact h ρ p0 p1 p2 p3 p4 p5
theorem eZ{a0 a1 a2 a3 a4 a5 a6 d:E}(h:∀ρ:Env,E.B ρ a0=true->E.B ρ a1=true->E.B ρ a2=true->E.B ρ a3=true->E.B ρ a4=true->E.B ρ a5=true->E.B ρ a6=true->E.B ρ d=true):Tr (df [a0,a1,a2,a3,a4,a5,a6] d):=fun ρ=>by
 show E.B ρ (.imp (.and a0 (.and a1 (.and a2 (.and a3 (.and a4 (.and a5 a6)))))) d)=true
 rw[cb]
 simp only[cZ]
 rintro⟨p0,p1,p2,p3,p4,p5,p6⟩
 exact h ρ p0 p1 p2 p3 p4 p5 p6
theorem dO{a0 a1 a2 a3 a4 a5 a6 a7 d:E}(h:∀ρ:Env,E.B ρ a0=true->E.B ρ a1=true->E.B ρ a2=true->E.B ρ a3=true->E.B ρ a4=true->E.B ρ a5=true->E.B ρ a6=true->E.B ρ a7=true->E.B ρ d=true):Tr (df [a0,a1,a2,a3,a4,a5,a6,a7] d):=fun ρ=>by
 show E.B ρ (.imp (.and a0 (.and a1 (.and a2 (.and a3 (.and a4 (.and a5 (.and a6 a7))))))) d)=true
 rw[cb]
 simp only[cZ]
 rintro⟨p0,p1,p2,p3,p4,p5,p6,p7⟩
 exact h ρ p0 p1 p2 p3 p4 p5 p6 p7
theorem fB{a0 a1 a2 a3 a4 a5 a6 a7 a8 d:E}(h:∀ρ:Env,E.B ρ a0=true->E.B ρ a1=true->E.B ρ a2=true->E.B ρ a3=true->E.B ρ a4=true->E.B ρ a5=true->E.B ρ a6=true->E.B ρ a7=true->E.B ρ a8=true->E.B ρ d=true):Tr (df [a0,a1,a2,a3,a4,a5,a6,a7,a8] d):=fun ρ=>by
 show E.B ρ (.imp (.and a0 (.and a1 (.and a2 (.and a3 (.and a4 (.and a5 (.and a6 (.and a7 a8)))))))) d)=true
 rw[cb]
 simp only[cZ]
 rintro⟨p0,p1,p2,p3,p4,p5,p6,p7,p8⟩
 exact h ρ p0 p1 p2 p3 p4 p5 p6 p7 p8
theorem jh{a0 a1 a2 a3 a4 a5 a6 a7 a8 a9 d:E}(h:∀ρ:Env,E.B ρ a0=true->E.B ρ a1=true->E.B ρ a2=true->E.B ρ a3=true->E.B ρ a4=true->E.B ρ a5=true->E.B ρ a6=true->E.B ρ a7=true->E.B ρ a8=true->E.B ρ a9=true->E.B ρ d=true):Tr (df [a0,a1,a2,a3,a4,a5,a6,a7,a8,a9] d):=fun ρ=>by
 show E.B ρ (.imp (.and a0 (.and a1 (.and a2 (.and a3 (.and a4 (.and a5 (.and a6 (.and a7 (.and a8 a9))))))))) d)=true
 rw[cb]
 simp only[cZ]
 rintro⟨p0,p1,p2,p3,p4,p5,p6,p7,p8,p9⟩
 exact h ρ p0 p1 p2 p3 p4 p5 p6 p7 p8 p9
theorem kG{a0 a1 a2 a3 a4 a5 a6 a7 a8 a9 a10 d:E}(h:∀ρ:Env,E.B ρ a0=true->E.B ρ a1=true->E.B ρ a2=true->E.B ρ a3=true->E.B ρ a4=true->E.B ρ a5=true->E.B ρ a6=true->E.B ρ a7=true->E.B ρ a8=true->E.B ρ a9=true->E.B ρ a10=true->E.B ρ d=true):Tr (df [a0,a1,a2,a3,a4,a5,a6,a7,a8,a9,a10] d):=fun ρ=>by
 show E.B ρ (.imp (.and a0 (.and a1 (.and a2 (.and a3 (.and a4 (.and a5 (.and a6 (.and a7 (.and a8 (.and a9 a10)))))))))) d)=true
 rw[cb]
 simp only[cZ]
 rintro⟨p0,p1,p2,p3,p4,p5,p6,p7,p8,p9,am⟩
 exact h ρ p0 p1 p2 p3 p4 p5 p6 p7 p8 p9 am
theorem mO{a0 a1 a2 a3 a4 a5 a6 a7 a8 a9 a10 a11 d:E}(h:∀ρ:Env,E.B ρ a0=true->E.B ρ a1=true->E.B ρ a2=true->E.B ρ a3=true->E.B ρ a4=true->E.B ρ a5=true->E.B ρ a6=true->E.B ρ a7=true->E.B ρ a8=true->E.B ρ a9=true->E.B ρ a10=true->E.B ρ a11=true->E.B ρ d=true):Tr (df [a0,a1,a2,a3,a4,a5,a6,a7,a8,a9,a10,a11] d):=fun ρ=>by
 show E.B ρ (.imp (.and a0 (.and a1 (.and a2 (.and a3 (.and a4 (.and a5 (.and a6 (.and a7 (.and a8 (.and a9 (.and a10 a11))))))))))) d)=true
 rw[cb]
 simp only[cZ]
 rintro⟨p0,p1,p2,p3,p4,p5,p6,p7,p8,p9,am,av⟩
 exact h ρ p0 p1 p2 p3 p4 p5 p6 p7 p8 p9 am av
theorem kH{a0 a1 a2 a3 a4 a5 a6 a7 a8 a9 a10 a11 a12 d:E}(h:∀ρ:Env,E.B ρ a0=true->E.B ρ a1=true->E.B ρ a2=true->E.B ρ a3=true->E.B ρ a4=true->E.B ρ a5=true->E.B ρ a6=true->E.B ρ a7=true->E.B ρ a8=true->E.B ρ a9=true->E.B ρ a10=true->E.B ρ a11=true->E.B ρ a12=true->E.B ρ d=true):Tr (df [a0,a1,a2,a3,a4,a5,a6,a7,a8,a9,a10,a11,a12] d):=fun ρ=>by
 show E.B ρ (.imp (.and a0 (.and a1 (.and a2 (.and a3 (.and a4 (.and a5 (.and a6 (.and a7 (.and a8 (.and a9 (.and a10 (.and a11 a12)))))))))))) d)=true
 rw[cb]
 simp only[cZ]
 rintro⟨p0,p1,p2,p3,p4,p5,p6,p7,p8,p9,am,av,az⟩
 exact h ρ p0 p1 p2 p3 p4 p5 p6 p7 p8 p9 am av az
theorem mP{a0 a1 a2 a3 a4 a5 a6 a7 a8 a9 a10 a11 a12 a13 d:E}(h:∀ρ:Env,E.B ρ a0=true->E.B ρ a1=true->E.B ρ a2=true->E.B ρ a3=true->E.B ρ a4=true->E.B ρ a5=true->E.B ρ a6=true->E.B ρ a7=true->E.B ρ a8=true->E.B ρ a9=true->E.B ρ a10=true->E.B ρ a11=true->E.B ρ a12=true->E.B ρ a13=true->E.B ρ d=true):Tr (df [a0,a1,a2,a3,a4,a5,a6,a7,a8,a9,a10,a11,a12,a13] d):=fun ρ=>by
 show E.B ρ (.imp (.and a0 (.and a1 (.and a2 (.and a3 (.and a4 (.and a5 (.and a6 (.and a7 (.and a8 (.and a9 (.and a10 (.and a11 (.and a12 a13))))))))))))) d)=true
 rw[cb]
 simp only[cZ]
 rintro⟨p0,p1,p2,p3,p4,p5,p6,p7,p8,p9,am,av,az,aD⟩
 exact h ρ p0 p1 p2 p3 p4 p5 p6 p7 p8 p9 am av az aD
theorem yV{a0 a1 a2 a3 a4 a5 a6 a7 a8 a9 a10 a11 a12 a13 a14 d:E}(h:∀ρ:Env,E.B ρ a0=true->E.B ρ a1=true->E.B ρ a2=true->E.B ρ a3=true->E.B ρ a4=true->E.B ρ a5=true->E.B ρ a6=true->E.B ρ a7=true->E.B ρ a8=true->E.B ρ a9=true->E.B ρ a10=true->E.B ρ a11=true->E.B ρ a12=true->E.B ρ a13=true->E.B ρ a14=true->E.B ρ d=true):Tr (df [a0,a1,a2,a3,a4,a5,a6,a7,a8,a9,a10,a11,a12,a13,a14] d):=fun ρ=>by
 show E.B ρ (.imp (.and a0 (.and a1 (.and a2 (.and a3 (.and a4 (.and a5 (.and a6 (.and a7 (.and a8 (.and a9 (.and a10 (.and a11 (.and a12 (.and a13 a14)))))))))))))) d)=true
 rw[cb]
 simp only[cZ]
 rintro⟨p0,p1,p2,p3,p4,p5,p6,p7,p8,p9,am,av,az,aD,aJ⟩
 exact h ρ p0 p1 p2 p3 p4 p5 p6 p7 p8 p9 am av az aD aJ
theorem pP{a0 a1 a2 a3 a4 a5 a6 a7 a8 a9 a10 a11 a12 a13 a14 a15 d:E}(h:∀ρ:Env,E.B ρ a0=true->E.B ρ a1=true->E.B ρ a2=true->E.B ρ a3=true->E.B ρ a4=true->E.B ρ a5=true->E.B ρ a6=true->E.B ρ a7=true->E.B ρ a8=true->E.B ρ a9=true->E.B ρ a10=true->E.B ρ a11=true->E.B ρ a12=true->E.B ρ a13=true->E.B ρ a14=true->E.B ρ a15=true->E.B ρ d=true):Tr (df [a0,a1,a2,a3,a4,a5,a6,a7,a8,a9,a10,a11,a12,a13,a14,a15] d):=fun ρ=>by
 show E.B ρ (.imp (.and a0 (.and a1 (.and a2 (.and a3 (.and a4 (.and a5 (.and a6 (.and a7 (.and a8 (.and a9 (.and a10 (.and a11 (.and a12 (.and a13 (.and a14 a15))))))))))))))) d)=true
 rw[cb]
 simp only[cZ]
 rintro⟨p0,p1,p2,p3,p4,p5,p6,p7,p8,p9,am,av,az,aD,aJ,aL⟩
 exact h ρ p0 p1 p2 p3 p4 p5 p6 p7 p8 p9 am av az aD aJ aL
theorem lP{a0 a1 a2 a3 a4 a5 a6 a7 a8 a9 a10 a11 a12 a13 a14 a15 a16 d:E}(h:∀ρ:Env,E.B ρ a0=true->E.B ρ a1=true->E.B ρ a2=true->E.B ρ a3=true->E.B ρ a4=true->E.B ρ a5=true->E.B ρ a6=true->E.B ρ a7=true->E.B ρ a8=true->E.B ρ a9=true->E.B ρ a10=true->E.B ρ a11=true->E.B ρ a12=true->E.B ρ a13=true->E.B ρ a14=true->E.B ρ a15=true->E.B ρ a16=true->E.B ρ d=true):Tr (df [a0,a1,a2,a3,a4,a5,a6,a7,a8,a9,a10,a11,a12,a13,a14,a15,a16] d):=fun ρ=>by
 show E.B ρ (.imp (.and a0 (.and a1 (.and a2 (.and a3 (.and a4 (.and a5 (.and a6 (.and a7 (.and a8 (.and a9 (.and a10 (.and a11 (.and a12 (.and a13 (.and a14 (.and a15 a16)))))))))))))))) d)=true
 rw[cb]
 simp only[cZ]
 rintro⟨p0,p1,p2,p3,p4,p5,p6,p7,p8,p9,am,av,az,aD,aJ,aL,aU⟩
 exact h ρ p0 p1 p2 p3 p4 p5 p6 p7 p8 p9 am av az aD aJ aL aU
theorem DR{a0 a1 a2 a3 a4 a5 a6 a7 a8 a9 a10 a11 a12 a13 a14 a15 a16 a17 d:E}(h:∀ρ:Env,E.B ρ a0=true->E.B ρ a1=true->E.B ρ a2=true->E.B ρ a3=true->E.B ρ a4=true->E.B ρ a5=true->E.B ρ a6=true->E.B ρ a7=true->E.B ρ a8=true->E.B ρ a9=true->E.B ρ a10=true->E.B ρ a11=true->E.B ρ a12=true->E.B ρ a13=true->E.B ρ a14=true->E.B ρ a15=true->E.B ρ a16=true->E.B ρ a17=true->E.B ρ d=true):Tr (df [a0,a1,a2,a3,a4,a5,a6,a7,a8,a9,a10,a11,a12,a13,a14,a15,a16,a17] d):=fun ρ=>by
 show E.B ρ (.imp (.and a0 (.and a1 (.and a2 (.and a3 (.and a4 (.and a5 (.and a6 (.and a7 (.and a8 (.and a9 (.and a10 (.and a11 (.and a12 (.and a13 (.and a14 (.and a15 (.and a16 a17))))))))))))))))) d)=true
 rw[cb]
 simp only[cZ]
 rintro⟨p0,p1,p2,p3,p4,p5,p6,p7,p8,p9,am,av,az,aD,aJ,aL,aU,bg⟩
 exact h ρ p0 p1 p2 p3 p4 p5 p6 p7 p8 p9 am av az aD aJ aL aU bg
theorem DS{a0 a1 a2 a3 a4 a5 a6 a7 a8 a9 a10 a11 a12 a13 a14 a15 a16 a17 a18 d:E}(h:∀ρ:Env,E.B ρ a0=true->E.B ρ a1=true->E.B ρ a2=true->E.B ρ a3=true->E.B ρ a4=true->E.B ρ a5=true->E.B ρ a6=true->E.B ρ a7=true->E.B ρ a8=true->E.B ρ a9=true->E.B ρ a10=true->E.B ρ a11=true->E.B ρ a12=true->E.B ρ a13=true->E.B ρ a14=true->E.B ρ a15=true->E.B ρ a16=true->E.B ρ a17=true->E.B ρ a18=true->E.B ρ d=true):Tr (df [a0,a1,a2,a3,a4,a5,a6,a7,a8,a9,a10,a11,a12,a13,a14,a15,a16,a17,a18] d):=fun ρ=>by
 show E.B ρ (.imp (.and a0 (.and a1 (.and a2 (.and a3 (.and a4 (.and a5 (.and a6 (.and a7 (.and a8 (.and a9 (.and a10 (.and a11 (.and a12 (.and a13 (.and a14 (.and a15 (.and a16 (.and a17 a18)))))))))))))))))) d)=true
 rw[cb]
 simp only[cZ]
 rintro⟨p0,p1,p2,p3,p4,p5,p6,p7,p8,p9,am,av,az,aD,aJ,aL,aU,bg,bn⟩
 exact h ρ p0 p1 p2 p3 p4 p5 p6 p7 p8 p9 am av az aD aJ aL aU bg bn
theorem aa3{a0 a1 a2 a3 a4 a5 a6 a7 a8 a9 a10 a11 a12 a13 a14 a15 a16 a17 a18 a19 d:E}(h:∀ρ:Env,E.B ρ a0=true->E.B ρ a1=true->E.B ρ a2=true->E.B ρ a3=true->E.B ρ a4=true->E.B ρ a5=true->E.B ρ a6=true->E.B ρ a7=true->E.B ρ a8=true->E.B ρ a9=true->E.B ρ a10=true->E.B ρ a11=true->E.B ρ a12=true->E.B ρ a13=true->E.B ρ a14=true->E.B ρ a15=true->E.B ρ a16=true->E.B ρ a17=true->E.B ρ a18=true->E.B ρ a19=true->E.B ρ d=true):Tr (df [a0,a1,a2,a3,a4,a5,a6,a7,a8,a9,a10,a11,a12,a13,a14,a15,a16,a17,a18,a19] d):=fun ρ=>by
 show E.B ρ (.imp (.and a0 (.and a1 (.and a2 (.and a3 (.and a4 (.and a5 (.and a6 (.and a7 (.and a8 (.and a9 (.and a10 (.and a11 (.and a12 (.and a13 (.and a14 (.and a15 (.and a16 (.and a17 (.and a18 a19))))))))))))))))))) d)=true
 rw[cb]
 simp only[cZ]
 rintro⟨p0,p1,p2,p3,p4,p5,p6,p7,p8,p9,am,av,az,aD,aJ,aL,aU,bg,bn,bD⟩
 exact h ρ p0 p1 p2 p3 p4 p5 p6 p7 p8 p9 am av az aD aJ aL aU bg bn bD
theorem aa4{a0 a1 a2 a3 a4 a5 a6 a7 a8 a9 a10 a11 a12 a13 a14 a15 a16 a17 a18 a19 a20 d:E}(h:∀ρ:Env,E.B ρ a0=true->E.B ρ a1=true->E.B ρ a2=true->E.B ρ a3=true->E.B ρ a4=true->E.B ρ a5=true->E.B ρ a6=true->E.B ρ a7=true->E.B ρ a8=true->E.B ρ a9=true->E.B ρ a10=true->E.B ρ a11=true->E.B ρ a12=true->E.B ρ a13=true->E.B ρ a14=true->E.B ρ a15=true->E.B ρ a16=true->E.B ρ a17=true->E.B ρ a18=true->E.B ρ a19=true->E.B ρ a20=true->E.B ρ d=true):Tr (df [a0,a1,a2,a3,a4,a5,a6,a7,a8,a9,a10,a11,a12,a13,a14,a15,a16,a17,a18,a19,a20] d):=fun ρ=>by
 show E.B ρ (.imp (.and a0 (.and a1 (.and a2 (.and a3 (.and a4 (.and a5 (.and a6 (.and a7 (.and a8 (.and a9 (.and a10 (.and a11 (.and a12 (.and a13 (.and a14 (.and a15 (.and a16 (.and a17 (.and a18 (.and a19 a20)))))))))))))))))))) d)=true
 rw[cb]
 simp only[cZ]
 rintro⟨p0,p1,p2,p3,p4,p5,p6,p7,p8,p9,am,av,az,aD,aJ,aL,aU,bg,bn,bD,bL⟩
 exact h ρ p0 p1 p2 p3 p4 p5 p6 p7 p8 p9 am av az aD aJ aL aU bg bn bD bL
theorem aa5{a0 a1 a2 a3 a4 a5 a6 a7 a8 a9 a10 a11 a12 a13 a14 a15 a16 a17 a18 a19 a20 a21 d:E}(h:∀ρ:Env,E.B ρ a0=true->E.B ρ a1=true->E.B ρ a2=true->E.B ρ a3=true->E.B ρ a4=true->E.B ρ a5=true->E.B ρ a6=true->E.B ρ a7=true->E.B ρ a8=true->E.B ρ a9=true->E.B ρ a10=true->E.B ρ a11=true->E.B ρ a12=true->E.B ρ a13=true->E.B ρ a14=true->E.B ρ a15=true->E.B ρ a16=true->E.B ρ a17=true->E.B ρ a18=true->E.B ρ a19=true->E.B ρ a20=true->E.B ρ a21=true->E.B ρ d=true):Tr (df [a0,a1,a2,a3,a4,a5,a6,a7,a8,a9,a10,a11,a12,a13,a14,a15,a16,a17,a18,a19,a20,a21] d):=fun ρ=>by
 show E.B ρ (.imp (.and a0 (.and a1 (.and a2 (.and a3 (.and a4 (.and a5 (.and a6 (.and a7 (.and a8 (.and a9 (.and a10 (.and a11 (.and a12 (.and a13 (.and a14 (.and a15 (.and a16 (.and a17 (.and a18 (.and a19 (.and a20 a21))))))))))))))))))))) d)=true
 rw[cb]
 simp only[cZ]
 rintro⟨p0,p1,p2,p3,p4,p5,p6,p7,p8,p9,am,av,az,aD,aJ,aL,aU,bg,bn,bD,bL,bW⟩
 exact h ρ p0 p1 p2 p3 p4 p5 p6 p7 p8 p9 am av az aD aJ aL aU bg bn bD bL bW
theorem aDP{a0 a1 a2 a3 a4 a5 a6 a7 a8 a9 a10 a11 a12 a13 a14 a15 a16 a17 a18 a19 a20 a21 a22 d:E}(h:∀ρ:Env,E.B ρ a0=true->E.B ρ a1=true->E.B ρ a2=true->E.B ρ a3=true->E.B ρ a4=true->E.B ρ a5=true->E.B ρ a6=true->E.B ρ a7=true->E.B ρ a8=true->E.B ρ a9=true->E.B ρ a10=true->E.B ρ a11=true->E.B ρ a12=true->E.B ρ a13=true->E.B ρ a14=true->E.B ρ a15=true->E.B ρ a16=true->E.B ρ a17=true->E.B ρ a18=true->E.B ρ a19=true->E.B ρ a20=true->E.B ρ a21=true->E.B ρ a22=true->E.B ρ d=true):Tr (df [a0,a1,a2,a3,a4,a5,a6,a7,a8,a9,a10,a11,a12,a13,a14,a15,a16,a17,a18,a19,a20,a21,a22] d):=fun ρ=>by
 show E.B ρ (.imp (.and a0 (.and a1 (.and a2 (.and a3 (.and a4 (.and a5 (.and a6 (.and a7 (.and a8 (.and a9 (.and a10 (.and a11 (.and a12 (.and a13 (.and a14 (.and a15 (.and a16 (.and a17 (.and a18 (.and a19 (.and a20 (.and a21 a22)))))))))))))))))))))) d)=true
 rw[cb]
 simp only[cZ]
 rintro⟨p0,p1,p2,p3,p4,p5,p6,p7,p8,p9,am,av,az,aD,aJ,aL,aU,bg,bn,bD,bL,bW,cf⟩
 exact h ρ p0 p1 p2 p3 p4 p5 p6 p7 p8 p9 am av az aD aJ aL aU bg bn bD bL bW cf
theorem yW{a0 a1 a2 a3 a4 a5 a6 a7 a8 a9 a10 a11 a12 a13 a14 a15 a16 a17 a18 a19 a20 a21 a22 a23 d:E}(h:∀ρ:Env,E.B ρ a0=true->E.B ρ a1=true->E.B ρ a2=true->E.B ρ a3=true->E.B ρ a4=true->E.B ρ a5=true->E.B ρ a6=true->E.B ρ a7=true->E.B ρ a8=true->E.B ρ a9=true->E.B ρ a10=true->E.B ρ a11=true->E.B ρ a12=true->E.B ρ a13=true->E.B ρ a14=true->E.B ρ a15=true->E.B ρ a16=true->E.B ρ a17=true->E.B ρ a18=true->E.B ρ a19=true->E.B ρ a20=true->E.B ρ a21=true->E.B ρ a22=true->E.B ρ a23=true->E.B ρ d=true):Tr (df [a0,a1,a2,a3,a4,a5,a6,a7,a8,a9,a10,a11,a12,a13,a14,a15,a16,a17,a18,a19,a20,a21,a22,a23] d):=fun ρ=>by
 show E.B ρ (.imp (.and a0 (.and a1 (.and a2 (.and a3 (.and a4 (.and a5 (.and a6 (.and a7 (.and a8 (.and a9 (.and a10 (.and a11 (.and a12 (.and a13 (.and a14 (.and a15 (.and a16 (.and a17 (.and a18 (.and a19 (.and a20 (.and a21 (.and a22 a23))))))))))))))))))))))) d)=true
 rw[cb]
 simp only[cZ]
 rintro⟨p0,p1,p2,p3,p4,p5,p6,p7,p8,p9,am,av,az,aD,aJ,aL,aU,bg,bn,bD,bL,bW,cf,cG⟩
 exact h ρ p0 p1 p2 p3 p4 p5 p6 p7 p8 p9 am av az aD aJ aL aU bg bn bD bL bW cf cG
theorem aa6{a0 a1 a2 a3 a4 a5 a6 a7 a8 a9 a10 a11 a12 a13 a14 a15 a16 a17 a18 a19 a20 a21 a22 a23 a24 d:E}(h:∀ρ:Env,E.B ρ a0=true->E.B ρ a1=true->E.B ρ a2=true->E.B ρ a3=true->E.B ρ a4=true->E.B ρ a5=true->E.B ρ a6=true->E.B ρ a7=true->E.B ρ a8=true->E.B ρ a9=true->E.B ρ a10=true->E.B ρ a11=true->E.B ρ a12=true->E.B ρ a13=true->E.B ρ a14=true->E.B ρ a15=true->E.B ρ a16=true->E.B ρ a17=true->E.B ρ a18=true->E.B ρ a19=true->E.B ρ a20=true->E.B ρ a21=true->E.B ρ a22=true->E.B ρ a23=true->E.B ρ a24=true->E.B ρ d=true):Tr (df [a0,a1,a2,a3,a4,a5,a6,a7,a8,a9,a10,a11,a12,a13,a14,a15,a16,a17,a18,a19,a20,a21,a22,a23,a24] d):=fun ρ=>by
 show E.B ρ (.imp (.and a0 (.and a1 (.and a2 (.and a3 (.and a4 (.and a5 (.and a6 (.and a7 (.and a8 (.and a9 (.and a10 (.and a11 (.and a12 (.and a13 (.and a14 (.and a15 (.and a16 (.and a17 (.and a18 (.and a19 (.and a20 (.and a21 (.and a22 (.and a23 a24)))))))))))))))))))))))) d)=true
 rw[cb]
 simp only[cZ]
 rintro⟨p0,p1,p2,p3,p4,p5,p6,p7,p8,p9,am,av,az,aD,aJ,aL,aU,bg,bn,bD,bL,bW,cf,cG,dg⟩
 exact h ρ p0 p1 p2 p3 p4 p5 p6 p7 p8 p9 am av az aD aJ aL aU bg bn bD bL bW cf cG dg
theorem aa7{a0 a1 a2 a3 a4 a5 a6 a7 a8 a9 a10 a11 a12 a13 a14 a15 a16 a17 a18 a19 a20 a21 a22 a23 a24 a25 d:E}(h:∀ρ:Env,E.B ρ a0=true->E.B ρ a1=true->E.B ρ a2=true->E.B ρ a3=true->E.B ρ a4=true->E.B ρ a5=true->E.B ρ a6=true->E.B ρ a7=true->E.B ρ a8=true->E.B ρ a9=true->E.B ρ a10=true->E.B ρ a11=true->E.B ρ a12=true->E.B ρ a13=true->E.B ρ a14=true->E.B ρ a15=true->E.B ρ a16=true->E.B ρ a17=true->E.B ρ a18=true->E.B ρ a19=true->E.B ρ a20=true->E.B ρ a21=true->E.B ρ a22=true->E.B ρ a23=true->E.B ρ a24=true->E.B ρ a25=true->E.B ρ d=true):Tr (df [a0,a1,a2,a3,a4,a5,a6,a7,a8,a9,a10,a11,a12,a13,a14,a15,a16,a17,a18,a19,a20,a21,a22,a23,a24,a25] d):=fun ρ=>by
 show E.B ρ (.imp (.and a0 (.and a1 (.and a2 (.and a3 (.and a4 (.and a5 (.and a6 (.and a7 (.and a8 (.and a9 (.and a10 (.and a11 (.and a12 (.and a13 (.and a14 (.and a15 (.and a16 (.and a17 (.and a18 (.and a19 (.and a20 (.and a21 (.and a22 (.and a23 (.and a24 a25))))))))))))))))))))))))) d)=true
 rw[cb]
 simp only[cZ]
 rintro⟨p0,p1,p2,p3,p4,p5,p6,p7,p8,p9,am,av,az,aD,aJ,aL,aU,bg,bn,bD,bL,bW,cf,cG,dg,dH⟩
 exact h ρ p0 p1 p2 p3 p4 p5 p6 p7 p8 p9 am av az aD aJ aL aU bg bn bD bL bW cf cG dg dH
theorem aa8{a0 a1 a2 a3 a4 a5 a6 a7 a8 a9 a10 a11 a12 a13 a14 a15 a16 a17 a18 a19 a20 a21 a22 a23 a24 a25 a26 d:E}(h:∀ρ:Env,E.B ρ a0=true->E.B ρ a1=true->E.B ρ a2=true->E.B ρ a3=true->E.B ρ a4=true->E.B ρ a5=true->E.B ρ a6=true->E.B ρ a7=true->E.B ρ a8=true->E.B ρ a9=true->E.B ρ a10=true->E.B ρ a11=true->E.B ρ a12=true->E.B ρ a13=true->E.B ρ a14=true->E.B ρ a15=true->E.B ρ a16=true->E.B ρ a17=true->E.B ρ a18=true->E.B ρ a19=true->E.B ρ a20=true->E.B ρ a21=true->E.B ρ a22=true->E.B ρ a23=true->E.B ρ a24=true->E.B ρ a25=true->E.B ρ a26=true->E.B ρ d=true):Tr (df [a0,a1,a2,a3,a4,a5,a6,a7,a8,a9,a10,a11,a12,a13,a14,a15,a16,a17,a18,a19,a20,a21,a22,a23,a24,a25,a26] d):=fun ρ=>by
 show E.B ρ (.imp (.and a0 (.and a1 (.and a2 (.and a3 (.and a4 (.and a5 (.and a6 (.and a7 (.and a8 (.and a9 (.and a10 (.and a11 (.and a12 (.and a13 (.and a14 (.and a15 (.and a16 (.and a17 (.and a18 (.and a19 (.and a20 (.and a21 (.and a22 (.and a23 (.and a24 (.and a25 a26)))))))))))))))))))))))))) d)=true
 rw[cb]
 simp only[cZ]
 rintro⟨p0,p1,p2,p3,p4,p5,p6,p7,p8,p9,am,av,az,aD,aJ,aL,aU,bg,bn,bD,bL,bW,cf,cG,dg,dH,ef⟩
 exact h ρ p0 p1 p2 p3 p4 p5 p6 p7 p8 p9 am av az aD aJ aL aU bg bn bD bL bW cf cG dg dH ef
theorem aDQ{a0 a1 a2 a3 a4 a5 a6 a7 a8 a9 a10 a11 a12 a13 a14 a15 a16 a17 a18 a19 a20 a21 a22 a23 a24 a25 a26 a27 d:E}(h:∀ρ:Env,E.B ρ a0=true->E.B ρ a1=true->E.B ρ a2=true->E.B ρ a3=true->E.B ρ a4=true->E.B ρ a5=true->E.B ρ a6=true->E.B ρ a7=true->E.B ρ a8=true->E.B ρ a9=true->E.B ρ a10=true->E.B ρ a11=true->E.B ρ a12=true->E.B ρ a13=true->E.B ρ a14=true->E.B ρ a15=true->E.B ρ a16=true->E.B ρ a17=true->E.B ρ a18=true->E.B ρ a19=true->E.B ρ a20=true->E.B ρ a21=true->E.B ρ a22=true->E.B ρ a23=true->E.B ρ a24=true->E.B ρ a25=true->E.B ρ a26=true->E.B ρ a27=true->E.B ρ d=true):Tr (df [a0,a1,a2,a3,a4,a5,a6,a7,a8,a9,a10,a11,a12,a13,a14,a15,a16,a17,a18,a19,a20,a21,a22,a23,a24,a25,a26,a27] d):=fun ρ=>by
 show E.B ρ (.imp (.and a0 (.and a1 (.and a2 (.and a3 (.and a4 (.and a5 (.and a6 (.and a7 (.and a8 (.and a9 (.and a10 (.and a11 (.and a12 (.and a13 (.and a14 (.and a15 (.and a16 (.and a17 (.and a18 (.and a19 (.and a20 (.and a21 (.and a22 (.and a23 (.and a24 (.and a25 (.and a26 a27))))))))))))))))))))))))))) d)=true
 rw[cb]
 simp only[cZ]
 rintro⟨p0,p1,p2,p3,p4,p5,p6,p7,p8,p9,am,av,az,aD,aJ,aL,aU,bg,bn,bD,bL,bW,cf,cG,dg,dH,ef,fh⟩
 exact h ρ p0 p1 p2 p3 p4 p5 p6 p7 p8 p9 am av az aD aJ aL aU bg bn bD bL bW cf cG dg dH ef fh
theorem aDR{a0 a1 a2 a3 a4 a5 a6 a7 a8 a9 a10 a11 a12 a13 a14 a15 a16 a17 a18 a19 a20 a21 a22 a23 a24 a25 a26 a27 a28 d:E}(h:∀ρ:Env,E.B ρ a0=true->E.B ρ a1=true->E.B ρ a2=true->E.B ρ a3=true->E.B ρ a4=true->E.B ρ a5=true->E.B ρ a6=true->E.B ρ a7=true->E.B ρ a8=true->E.B ρ a9=true->E.B ρ a10=true->E.B ρ a11=true->E.B ρ a12=true->E.B ρ a13=true->E.B ρ a14=true->E.B ρ a15=true->E.B ρ a16=true->E.B ρ a17=true->E.B ρ a18=true->E.B ρ a19=true->E.B ρ a20=true->E.B ρ a21=true->E.B ρ a22=true->E.B ρ a23=true->E.B ρ a24=true->E.B ρ a25=true->E.B ρ a26=true->E.B ρ a27=true->E.B ρ a28=true->E.B ρ d=true):Tr (df [a0,a1,a2,a3,a4,a5,a6,a7,a8,a9,a10,a11,a12,a13,a14,a15,a16,a17,a18,a19,a20,a21,a22,a23,a24,a25,a26,a27,a28] d):=fun ρ=>by
 show E.B ρ (.imp (.and a0 (.and a1 (.and a2 (.and a3 (.and a4 (.and a5 (.and a6 (.and a7 (.and a8 (.and a9 (.and a10 (.and a11 (.and a12 (.and a13 (.and a14 (.and a15 (.and a16 (.and a17 (.and a18 (.and a19 (.and a20 (.and a21 (.and a22 (.and a23 (.and a24 (.and a25 (.and a26 (.and a27 a28)))))))))))))))))))))))))))) d)=true
 rw[cb]
 simp only[cZ]
 rintro⟨p0,p1,p2,p3,p4,p5,p6,p7,p8,p9,am,av,az,aD,aJ,aL,aU,bg,bn,bD,bL,bW,cf,cG,dg,dH,ef,fh,fO⟩
 exact h ρ p0 p1 p2 p3 p4 p5 p6 p7 p8 p9 am av az aD aJ aL aU bg bn bD bL bW cf cG dg dH ef fh fO
theorem aDS{a0 a1 a2 a3 a4 a5 a6 a7 a8 a9 a10 a11 a12 a13 a14 a15 a16 a17 a18 a19 a20 a21 a22 a23 a24 a25 a26 a27 a28 a29 d:E}(h:∀ρ:Env,E.B ρ a0=true->E.B ρ a1=true->E.B ρ a2=true->E.B ρ a3=true->E.B ρ a4=true->E.B ρ a5=true->E.B ρ a6=true->E.B ρ a7=true->E.B ρ a8=true->E.B ρ a9=true->E.B ρ a10=true->E.B ρ a11=true->E.B ρ a12=true->E.B ρ a13=true->E.B ρ a14=true->E.B ρ a15=true->E.B ρ a16=true->E.B ρ a17=true->E.B ρ a18=true->E.B ρ a19=true->E.B ρ a20=true->E.B ρ a21=true->E.B ρ a22=true->E.B ρ a23=true->E.B ρ a24=true->E.B ρ a25=true->E.B ρ a26=true->E.B ρ a27=true->E.B ρ a28=true->E.B ρ a29=true->E.B ρ d=true):Tr (df [a0,a1,a2,a3,a4,a5,a6,a7,a8,a9,a10,a11,a12,a13,a14,a15,a16,a17,a18,a19,a20,a21,a22,a23,a24,a25,a26,a27,a28,a29] d):=fun ρ=>by
 show E.B ρ (.imp (.and a0 (.and a1 (.and a2 (.and a3 (.and a4 (.and a5 (.and a6 (.and a7 (.and a8 (.and a9 (.and a10 (.and a11 (.and a12 (.and a13 (.and a14 (.and a15 (.and a16 (.and a17 (.and a18 (.and a19 (.and a20 (.and a21 (.and a22 (.and a23 (.and a24 (.and a25 (.and a26 (.and a27 (.and a28 a29))))))))))))))))))))))))))))) d)=true
 rw[cb]
 simp only[cZ]
 rintro⟨p0,p1,p2,p3,p4,p5,p6,p7,p8,p9,am,av,az,aD,aJ,aL,aU,bg,bn,bD,bL,bW,cf,cG,dg,dH,ef,fh,fO,gt⟩
 exact h ρ p0 p1 p2 p3 p4 p5 p6 p7 p8 p9 am av az aD aJ aL aU bg bn bD bL bW cf cG dg dH ef fh fO gt
theorem aDT{a0 a1 a2 a3 a4 a5 a6 a7 a8 a9 a10 a11 a12 a13 a14 a15 a16 a17 a18 a19 a20 a21 a22 a23 a24 a25 a26 a27 a28 a29 a30 d:E}(h:∀ρ:Env,E.B ρ a0=true->E.B ρ a1=true->E.B ρ a2=true->E.B ρ a3=true->E.B ρ a4=true->E.B ρ a5=true->E.B ρ a6=true->E.B ρ a7=true->E.B ρ a8=true->E.B ρ a9=true->E.B ρ a10=true->E.B ρ a11=true->E.B ρ a12=true->E.B ρ a13=true->E.B ρ a14=true->E.B ρ a15=true->E.B ρ a16=true->E.B ρ a17=true->E.B ρ a18=true->E.B ρ a19=true->E.B ρ a20=true->E.B ρ a21=true->E.B ρ a22=true->E.B ρ a23=true->E.B ρ a24=true->E.B ρ a25=true->E.B ρ a26=true->E.B ρ a27=true->E.B ρ a28=true->E.B ρ a29=true->E.B ρ a30=true->E.B ρ d=true):Tr (df [a0,a1,a2,a3,a4,a5,a6,a7,a8,a9,a10,a11,a12,a13,a14,a15,a16,a17,a18,a19,a20,a21,a22,a23,a24,a25,a26,a27,a28,a29,a30] d):=fun ρ=>by
 show E.B ρ (.imp (.and a0 (.and a1 (.and a2 (.and a3 (.and a4 (.and a5 (.and a6 (.and a7 (.and a8 (.and a9 (.and a10 (.and a11 (.and a12 (.and a13 (.and a14 (.and a15 (.and a16 (.and a17 (.and a18 (.and a19 (.and a20 (.and a21 (.and a22 (.and a23 (.and a24 (.and a25 (.and a26 (.and a27 (.and a28 (.and a29 a30)))))))))))))))))))))))))))))) d)=true
 rw[cb]
 simp only[cZ]
 rintro⟨p0,p1,p2,p3,p4,p5,p6,p7,p8,p9,am,av,az,aD,aJ,aL,aU,bg,bn,bD,bL,bW,cf,cG,dg,dH,ef,fh,fO,gt,iC⟩
 exact h ρ p0 p1 p2 p3 p4 p5 p6 p7 p8 p9 am av az aD aJ aL aU bg bn bD bL bW cf cG dg dH ef fh fO gt iC
theorem aDU{a0 a1 a2 a3 a4 a5 a6 a7 a8 a9 a10 a11 a12 a13 a14 a15 a16 a17 a18 a19 a20 a21 a22 a23 a24 a25 a26 a27 a28 a29 a30 a31 a32 d:E}(h:∀ρ:Env,E.B ρ a0=true->E.B ρ a1=true->E.B ρ a2=true->E.B ρ a3=true->E.B ρ a4=true->E.B ρ a5=true->E.B ρ a6=true->E.B ρ a7=true->E.B ρ a8=true->E.B ρ a9=true->E.B ρ a10=true->E.B ρ a11=true->E.B ρ a12=true->E.B ρ a13=true->E.B ρ a14=true->E.B ρ a15=true->E.B ρ a16=true->E.B ρ a17=true->E.B ρ a18=true->E.B ρ a19=true->E.B ρ a20=true->E.B ρ a21=true->E.B ρ a22=true->E.B ρ a23=true->E.B ρ a24=true->E.B ρ a25=true->E.B ρ a26=true->E.B ρ a27=true->E.B ρ a28=true->E.B ρ a29=true->E.B ρ a30=true->E.B ρ a31=true->E.B ρ a32=true->E.B ρ d=true):Tr (df [a0,a1,a2,a3,a4,a5,a6,a7,a8,a9,a10,a11,a12,a13,a14,a15,a16,a17,a18,a19,a20,a21,a22,a23,a24,a25,a26,a27,a28,a29,a30,a31,a32] d):=fun ρ=>by
 show E.B ρ (.imp (.and a0 (.and a1 (.and a2 (.and a3 (.and a4 (.and a5 (.and a6 (.and a7 (.and a8 (.and a9 (.and a10 (.and a11 (.and a12 (.and a13 (.and a14 (.and a15 (.and a16 (.and a17 (.and a18 (.and a19 (.and a20 (.and a21 (.and a22 (.and a23 (.and a24 (.and a25 (.and a26 (.and a27 (.and a28 (.and a29 (.and a30 (.and a31 a32)))))))))))))))))))))))))))))))) d)=true
 rw[cb]
 simp only[cZ]
 rintro⟨p0,p1,p2,p3,p4,p5,p6,p7,p8,p9,am,av,az,aD,aJ,aL,aU,bg,bn,bD,bL,bW,cf,cG,dg,dH,ef,fh,fO,gt,iC,jQ,jn⟩
 exact h ρ p0 p1 p2 p3 p4 p5 p6 p7 p8 p9 am av az aD aJ aL aU bg bn bD bL bW cf cG dg dH ef fh fO gt iC jQ jn
theorem aDV{a0 a1 a2 a3 a4 a5 a6 a7 a8 a9 a10 a11 a12 a13 a14 a15 a16 a17 a18 a19 a20 a21 a22 a23 a24 a25 a26 a27 a28 a29 a30 a31 a32 a33 a34 d:E}(h:∀ρ:Env,E.B ρ a0=true->E.B ρ a1=true->E.B ρ a2=true->E.B ρ a3=true->E.B ρ a4=true->E.B ρ a5=true->E.B ρ a6=true->E.B ρ a7=true->E.B ρ a8=true->E.B ρ a9=true->E.B ρ a10=true->E.B ρ a11=true->E.B ρ a12=true->E.B ρ a13=true->E.B ρ a14=true->E.B ρ a15=true->E.B ρ a16=true->E.B ρ a17=true->E.B ρ a18=true->E.B ρ a19=true->E.B ρ a20=true->E.B ρ a21=true->E.B ρ a22=true->E.B ρ a23=true->E.B ρ a24=true->E.B ρ a25=true->E.B ρ a26=true->E.B ρ a27=true->E.B ρ a28=true->E.B ρ a29=true->E.B ρ a30=true->E.B ρ a31=true->E.B ρ a32=true->E.B ρ a33=true->E.B ρ a34=true->E.B ρ d=true):Tr (df [a0,a1,a2,a3,a4,a5,a6,a7,a8,a9,a10,a11,a12,a13,a14,a15,a16,a17,a18,a19,a20,a21,a22,a23,a24,a25,a26,a27,a28,a29,a30,a31,a32,a33,a34] d):=fun ρ=>by
 show E.B ρ (.imp (.and a0 (.and a1 (.and a2 (.and a3 (.and a4 (.and a5 (.and a6 (.and a7 (.and a8 (.and a9 (.and a10 (.and a11 (.and a12 (.and a13 (.and a14 (.and a15 (.and a16 (.and a17 (.and a18 (.and a19 (.and a20 (.and a21 (.and a22 (.and a23 (.and a24 (.and a25 (.and a26 (.and a27 (.and a28 (.and a29 (.and a30 (.and a31 (.and a32 (.and a33 a34)))))))))))))))))))))))))))))))))) d)=true
 rw[cb]
 simp only[cZ]
 rintro⟨p0,p1,p2,p3,p4,p5,p6,p7,p8,p9,am,av,az,aD,aJ,aL,aU,bg,bn,bD,bL,bW,cf,cG,dg,dH,ef,fh,fO,gt,iC,jQ,jn,mU,mV⟩
 exact h ρ p0 p1 p2 p3 p4 p5 p6 p7 p8 p9 am av az aD aJ aL aU bg bn bD bL bW cf cG dg dH ef fh fO gt iC jQ jn mU mV
theorem aDW{a0 a1 a2 a3 a4 a5 a6 a7 a8 a9 a10 a11 a12 a13 a14 a15 a16 a17 a18 a19 a20 a21 a22 a23 a24 a25 a26 a27 a28 a29 a30 a31 a32 a33 a34 a35 a36 a37 a38 a39 a40 a41 a42 a43 a44 d:E}(h:∀ρ:Env,E.B ρ a0=true->E.B ρ a1=true->E.B ρ a2=true->E.B ρ a3=true->E.B ρ a4=true->E.B ρ a5=true->E.B ρ a6=true->E.B ρ a7=true->E.B ρ a8=true->E.B ρ a9=true->E.B ρ a10=true->E.B ρ a11=true->E.B ρ a12=true->E.B ρ a13=true->E.B ρ a14=true->E.B ρ a15=true->E.B ρ a16=true->E.B ρ a17=true->E.B ρ a18=true->E.B ρ a19=true->E.B ρ a20=true->E.B ρ a21=true->E.B ρ a22=true->E.B ρ a23=true->E.B ρ a24=true->E.B ρ a25=true->E.B ρ a26=true->E.B ρ a27=true->E.B ρ a28=true->E.B ρ a29=true->E.B ρ a30=true->E.B ρ a31=true->E.B ρ a32=true->E.B ρ a33=true->E.B ρ a34=true->E.B ρ a35=true->E.B ρ a36=true->E.B ρ a37=true->E.B ρ a38=true->E.B ρ a39=true->E.B ρ a40=true->E.B ρ a41=true->E.B ρ a42=true->E.B ρ a43=true->E.B ρ a44=true->E.B ρ d=true):Tr (df [a0,a1,a2,a3,a4,a5,a6,a7,a8,a9,a10,a11,a12,a13,a14,a15,a16,a17,a18,a19,a20,a21,a22,a23,a24,a25,a26,a27,a28,a29,a30,a31,a32,a33,a34,a35,a36,a37,a38,a39,a40,a41,a42,a43,a44] d):=fun ρ=>by
 show E.B ρ (.imp (.and a0 (.and a1 (.and a2 (.and a3 (.and a4 (.and a5 (.and a6 (.and a7 (.and a8 (.and a9 (.and a10 (.and a11 (.and a12 (.and a13 (.and a14 (.and a15 (.and a16 (.and a17 (.and a18 (.and a19 (.and a20 (.and a21 (.and a22 (.and a23 (.and a24 (.and a25 (.and a26 (.and a27 (.and a28 (.and a29 (.and a30 (.and a31 (.and a32 (.and a33 (.and a34 (.and a35 (.and a36 (.and a37 (.and a38 (.and a39 (.and a40 (.and a41 (.and a42 (.and a43 a44)))))))))))))))))))))))))))))))))))))))))))) d)=true
 rw[cb]
 simp only[cZ]
 rintro⟨p0,p1,p2,p3,p4,p5,p6,p7,p8,p9,am,av,az,aD,aJ,aL,aU,bg,bn,bD,bL,bW,cf,cG,dg,dH,ef,fh,fO,gt,iC,jQ,jn,mU,mV,sQ,sR,sS,sT,sU,sV,sW,sX,sY,ql⟩
 exact h ρ p0 p1 p2 p3 p4 p5 p6 p7 p8 p9 am av az aD aJ aL aU bg bn bD bL bW cf cG dg dH ef fh fO gt iC jQ jn mU mV sQ sR sS sT sU sV sW sX sY ql
theorem aDX{a0 a1 a2 a3 a4 a5 a6 a7 a8 a9 a10 a11 a12 a13 a14 a15 a16 a17 a18 a19 a20 a21 a22 a23 a24 a25 a26 a27 a28 a29 a30 a31 a32 a33 a34 a35 a36 a37 a38 a39 a40 a41 a42 a43 a44 a45 d:E}(h:∀ρ:Env,E.B ρ a0=true->E.B ρ a1=true->E.B ρ a2=true->E.B ρ a3=true->E.B ρ a4=true->E.B ρ a5=true->E.B ρ a6=true->E.B ρ a7=true->E.B ρ a8=true->E.B ρ a9=true->E.B ρ a10=true->E.B ρ a11=true->E.B ρ a12=true->E.B ρ a13=true->E.B ρ a14=true->E.B ρ a15=true->E.B ρ a16=true->E.B ρ a17=true->E.B ρ a18=true->E.B ρ a19=true->E.B ρ a20=true->E.B ρ a21=true->E.B ρ a22=true->E.B ρ a23=true->E.B ρ a24=true->E.B ρ a25=true->E.B ρ a26=true->E.B ρ a27=true->E.B ρ a28=true->E.B ρ a29=true->E.B ρ a30=true->E.B ρ a31=true->E.B ρ a32=true->E.B ρ a33=true->E.B ρ a34=true->E.B ρ a35=true->E.B ρ a36=true->E.B ρ a37=true->E.B ρ a38=true->E.B ρ a39=true->E.B ρ a40=true->E.B ρ a41=true->E.B ρ a42=true->E.B ρ a43=true->E.B ρ a44=true->E.B ρ a45=true->E.B ρ d=true):Tr (df [a0,a1,a2,a3,a4,a5,a6,a7,a8,a9,a10,a11,a12,a13,a14,a15,a16,a17,a18,a19,a20,a21,a22,a23,a24,a25,a26,a27,a28,a29,a30,a31,a32,a33,a34,a35,a36,a37,a38,a39,a40,a41,a42,a43,a44,a45] d):=fun ρ=>by
 show E.B ρ (.imp (.and a0 (.and a1 (.and a2 (.and a3 (.and a4 (.and a5 (.and a6 (.and a7 (.and a8 (.and a9 (.and a10 (.and a11 (.and a12 (.and a13 (.and a14 (.and a15 (.and a16 (.and a17 (.and a18 (.and a19 (.and a20 (.and a21 (.and a22 (.and a23 (.and a24 (.and a25 (.and a26 (.and a27 (.and a28 (.and a29 (.and a30 (.and a31 (.and a32 (.and a33 (.and a34 (.and a35 (.and a36 (.and a37 (.and a38 (.and a39 (.and a40 (.and a41 (.and a42 (.and a43 (.and a44 a45))))))))))))))))))))))))))))))))))))))))))))) d)=true
 rw[cb]
 simp only[cZ]
 rintro⟨p0,p1,p2,p3,p4,p5,p6,p7,p8,p9,am,av,az,aD,aJ,aL,aU,bg,bn,bD,bL,bW,cf,cG,dg,dH,ef,fh,fO,gt,iC,jQ,jn,mU,mV,sQ,sR,sS,sT,sU,sV,sW,sX,sY,ql,E6⟩
 exact h ρ p0 p1 p2 p3 p4 p5 p6 p7 p8 p9 am av az aD aJ aL aU bg bn bD bL bW cf cG dg dH ef fh fO gt iC jQ jn mU mV sQ sR sS sT sU sV sW sX sY ql E6
def ii(e:E):SV:=.int .i64 e
def gone:Blk:=⟨true,.gone⟩
def cr(b:Nat):SV:=.ptr b ⟨0,0,.int 0⟩
def bv(a b:E):E:=.cmp .eql a b
def pl(a b:E):E:=.fn 6 (.pr a b)
def mi(a b:E):E:=.fn 7 (.pr a b)
def tm(a b:E):E:=.fn 8 (.pr a b)
def ln(x:E):E:=.fn 0 x
def prs:List E->E
 |[]=>.int 0
 |[a]=>a
 |a::l=>.pr a (prs l)
def aO(f:Nat)(l:List E):E:=.fn f (prs l)
def nt(l i:E):E:=.fn 1 (.pr l i)
def dJ(w:Int)(l:E):E:=.fn 9 (.pr l (.int w))
def De:E:=.fn 10 (.int 0)
def kI:List CK:=[.int .i64]
def kO:List CK:=[.int .i64,.int .i64,.int .i64,.int .i64,.int .i64,.int .i64,.int .i64,.int .i64,.int .i64,.bool,.bool,.bool]
def kT:List CK:=[.int .i64,.int .i64]
def fo:List CK:=[.int .i64,.int .i64,.int .i64,.int .i64,.slc kT]
def kS:List CK:=[.int .i64,.int .i64,.int .i64,.int .i64,.int .i64,.slc kI,.slc kI,.slc kI,.slc kI,.bool,.bool,.bool,.int .i64,.int .i64]
def kB:List CK:=.slc kO::(kS++(kS++[.slc fo,.slc fo,.slc kI,.slc kT,.int .i64,.int .i64,.int .i64,.int .i64,.int .i64]))
def Y0(e:E):CK->SV
 |.int k=>.int k e
 |.bool=>.bool e
 |.str=>.str e
 |.slc ks=>.bsl ks e
def rW(e:E):Nat->List CK->List SV
 |_,[]=>[]
 |j,c::cs=>Y0 (nt e (.int (Int.ofNat j))) c::rW e (Nat.succ j) cs
def eH(e:E):SV:=.agg (rW e 0 kB)
def nZ(e:E):Blk:=⟨true,.cells (rW e 0 kB) (.int 38) 34⟩
def cl(e:E)(j:Int):E:=nt e (.int j)
def th(e:E):E:=.fn 116 e
def ta(e:E):E:=.fn 117 e
def eh(e:E):List E:=[th e,ta e]
def uL(f:FuncId):SV:=.func (.func f) [] []
def rT:E:=dJ 2 (eV 0)
def aGQ:Pact:=⟨123,[.bsl kT (eV 0),uL 110],⟨1,0,.nil,[ah rT (.int 1000)]⟩,[(ii (eV 1),⟨2,0,.nil,[.iff (ah (.int 0) (eV 1)) (.not (aO 101 [eV 0,rT])),ah (.int (-1)) (eV 1)]⟩)]⟩
def tTF:Tmpl:=⟨bX 19 [(0,.bsl kT (eV 0)),(1,uL 110),(6,.bsl kT (eV 0)),(7,ii rT),(8,ii (eV 4))],⟨5,0,.nil,[ah rT (.int 1000),ah (.int 0) (eV 4),ah (eV 4) rT,aO 101 [eV 0,eV 4]]⟩,mi rT (eV 4)⟩
def aBr:List Ann:=[⟨123,0,[tTF],none⟩]
def itE:List E:=[eV 0,eV 1,eV 2,eV 3,eV 4,eV 5]
def itV:SV:=.agg [ii (eV 0),ii (eV 1),ii (eV 2),ii (eV 3),.bsl kT (eV 4)]
def aGt:Pact:=⟨78,[itV,.bool (eV 5)],⟨6,0,.nil,[]⟩,[(.bool (eV 6),⟨7,0,.nil,[.iff (eV 6) (aO 102 itE)]⟩)]⟩
def rI:E:=dJ 5 (eV 0)
def aeV(g:FuncId)(q:Bool):Pact:=⟨108,[.bsl fo (eV 0),uL g],⟨1,0,.nil,[ah rI (.int 1000)]⟩,[(ii (eV 1),⟨2,0,.nil,[.iff (ah (.int 0) (eV 1)) (.not (aO 103 [eV 0,.bool q,rI])),ah (.int (-1)) (eV 1)]⟩)]⟩
def tIF(g:FuncId)(q:Bool):Tmpl:=⟨bX 19 [(0,.bsl fo (eV 0)),(1,uL g),(6,.bsl fo (eV 0)),(7,ii rI),(8,ii (eV 4))],⟨5,0,.nil,[ah rI (.int 1000),ah (.int 0) (eV 4),ah (eV 4) rI,aO 103 [eV 0,.bool q,eV 4]]⟩,mi rI (eV 4)⟩
def Ys(g:FuncId)(q:Bool):List Ann:=[⟨108,0,[tIF g q],none⟩]
def nI:E:=ln (eV 0)
def aDd(l k:E):E:=aO 114 [l,k]
def aGB:Pact:=⟨73,[.bsl kI (eV 0),ii (eV 1)],⟨2,0,.nil,[ah nI (.int 1000)]⟩,[(ii (eV 2),⟨3,0,.nil,[.iff (ah (.int 0) (eV 2)) (aDd (eV 0) (eV 1)),ah (.int (-1)) (eV 2)]⟩)]⟩
def tIx:Tmpl:=⟨bX 19 [(0,.bsl kI (eV 0)),(1,ii (eV 1)),(6,.bsl kI (eV 0)),(7,ii nI),(8,ii (eV 4))],⟨5,0,.nil,[ah nI (.int 1000),ah (.int 0) (eV 4),ah (eV 4) nI,bv (aO 131 [eV 0,eV 1,eV 4]) (.int 0)]⟩,mi nI (eV 4)⟩
def aBf:List Ann:=[⟨73,0,[tIx],none⟩]
def obV:SV:=.agg ((List.range 9).map (fun j=>ii (eV j))++[.bool (eV 9),.bool (eV 10),.bool (eV 11)])
def aeY(f:FuncId):Pact:=⟨f,[obV],⟨12,0,.nil,[]⟩,[(.bool (eV 12),⟨13,0,.nil,[.iff (eV 12) (aO 137 ((List.range 9).map eV))]⟩)]⟩
def put(c:Nat):SV:=.func (.func 112) [] [cr c]
def Ma(e:E):Blk:=⟨true,.mapl .i64 (.one (.int .i64)) e⟩
def yR(W:Nat)(m:E)(more:List Blk):T Blk:=db (List.replicate W gone++[nZ (eV 0),Ma m,⟨true,.cells [.map (W+1)] (.int 1) 153⟩]++more)
def zZ(W:Nat):List (Nat×SV):=[(1,cr W),(3,cr (W+2)),(4,put (W+2))]
def KJ(m p q i:E):E:=aO 104 [m,eV 0,p,q,i]
def t0P:Tmpl:=⟨bX 138 (zZ 8++[(21,ii (eV 8))]),⟨10,11,yR 8 (eV 9) [],eh (eV 0)++[ah (.int 0) (eV 8),ah (eV 8) (.int 2),KJ (eV 9) (eV 8) (.int 0) (.int 0)]⟩,mi (.int 2) (eV 8)⟩
def adV(W p:Nat):SV:=.agg ((List.range 4).map fun q=>.ptr W ⟨6+14*p+q,0,.int 0⟩)
def t2P(p:Nat):Tmpl:=⟨bX 138 (zZ 8++[(5,ii (eV 8)),(21,ii (eV 8)),(27,adV 8 p),(28,ii (eV 16))]),⟨18,16,yR 8 (eV 17) [],
 eh (eV 0)++[bv (eV 8) (.int (Int.ofNat p)),ah (.int 0) (eV 16),ah (eV 16) (.int 4),KJ (eV 17) (eV 8) (eV 16) (.int 0)]⟩,mi (.int 4) (eV 16)⟩
def t4P(p:Nat):Tmpl:=⟨bX 138 (zZ 8++[(5,ii (eV 8)),(21,ii (eV 8)),(27,adV 8 p),(28,ii (eV 16)),(33,.bsl kI (eV 28)),(34,ii (ln (eV 28))),(35,ii (eV 24))]),⟨29,24,yR 8 (eV 25) [],
 eh (eV 0)++[bv (eV 8) (.int (Int.ofNat p)),ah (.int 0) (eV 16),jd (eV 16) (.int 4),ah (.int 0) (eV 24),ah (eV 24) (ln (eV 28)),ah (ln (eV 28)) (.int 40),aO 109 [eV 28,eV 0,eV 8,eV 16],KJ (eV 25) (eV 8) (eV 16) (eV 24)]⟩,mi (ln (eV 28)) (eV 24)⟩
def gg:E:=dJ 5 (cl (eV 0) 29)
def fu:E:=dJ 12 (cl (eV 0) 0)
def t6P:Tmpl:=⟨bX 138 (zZ 32++[(10,.map 35),(49,.bsl fo (cl (eV 0) 29)),(50,ii gg),(51,ii (eV 32))]),⟨35,36,yR 32 (eV 33) [Ma (eV 34)],
 eh (eV 0)++[ah gg (.int 20),ah (.int 0) (eV 32),ah (eV 32) gg,aO 105 [eV 33,eV 0,eV 32],aO 106 [eV 34,eV 0,eV 32]]⟩,mi gg (eV 32)⟩
def t8P:Tmpl:=⟨bX 138 (zZ 40++[(10,.map 43),(72,.bsl kO (cl (eV 0) 0)),(73,ii fu),(74,ii (eV 40))]),⟨43,44,yR 40 (eV 41) [Ma (eV 42)],
 eh (eV 0)++[ah fu (.int 30),ah (.int 0) (eV 40),ah (eV 40) fu,aO 105 [eV 41,eV 0,gg],aO 106 [eV 42,eV 0,gg],aO 107 [eV 0,eV 40]]⟩,mi fu (eV 40)⟩
def aBj:List Ann:=[⟨80,0,[t0P],none⟩,⟨80,2,[t2P 0,t2P 1],none⟩,⟨80,4,[t4P 0,t4P 1],none⟩,⟨80,6,[t6P],none⟩,⟨80,8,[t8P],none⟩]
def aGI:Pact:=⟨80,[eH (eV 0)],⟨1,0,.nil,eh (eV 0)⟩,[(.bool (eV 1),⟨2,0,.nil,[.iff (eV 1) (.fn 108 (eV 0))]⟩)]⟩
def aEC(e:E):Blk:=⟨true,.mapl .i64 (.one .bool) e⟩
def my:E:=cl (eV 0) 34
def MM:List E:=eh (eV 0)++[.fn 108 (eV 0),ah (.int 0) my,ah my (.int 1)]
def aGs:Pact:=⟨81,[eH (eV 0)],⟨1,0,.nil,MM⟩,[(.bool (eV 1),⟨2,0,.nil,[.iff (eV 1) (.fn 110 (eV 0))]⟩)]⟩
def aaJ(W:Nat):T Blk:=db (List.replicate W gone++[nZ (eV 0),aEC (eV (W+1))])
def aeH(W:Nat):List (Nat×SV):=[(1,cr W),(3,.bsl kI (eV (W+2))),(4,.bsl kI (eV (W+3))),(5,.map (W+1))]
def adD(W:Nat):List E:=[aO 109 [eV (W+2),eV 0,my,.int 2],aO 109 [eV (W+3),eV 0,mi (.int 1) my,.int 2],ah (ln (eV (W+2))) (.int 40),ah (ln (eV (W+3))) (.int 40)]
def kV:E:=ln (cl (eV 0) 31)
def iB:E:=dJ 2 (cl (eV 0) 32)
def t0F:Tmpl:=⟨bX 85 (aeH 8++[(25,.bsl kI (cl (eV 0) 31)),(26,ii kV),(27,ii (eV 8))]),⟨12,10,aaJ 8,
 MM++adD 8++[ah kV (.int 30),ah (.int 0) (eV 8),ah (eV 8) kV,aO 111 [eV 0,eV 8],aO 113 [eV 9,eV 0,eV 8,.int 0]]⟩,mi kV (eV 8)⟩
def t2F:Tmpl:=⟨bX 85 (aeH 16++[(44,.bsl kT (cl (eV 0) 32)),(45,ii iB),(46,ii (eV 16))]),⟨20,18,aaJ 16,
 MM++adD 16++[ah kV (.int 30),ah iB (.int 30),ah (.int 0) (eV 16),ah (eV 16) iB,aO 111 [eV 0,kV],aO 112 [eV 0,eV 16],aO 113 [eV 17,eV 0,kV,eV 16]]⟩,mi iB (eV 16)⟩
def aA9:List Ann:=[⟨81,0,[t0F],none⟩,⟨81,2,[t2F],none⟩]
def spV:Pact:=⟨40,[eH (eV 0)],⟨1,0,.nil,eh (eV 0)⟩,[(.bool (eV 1),⟨2,0,.nil,[.iff (eV 1) (.fn 115 (eV 0))]⟩)]⟩
def aGA:Pact:=⟨42,[itV,.bool (eV 5)],⟨6,0,.nil,[]⟩,[(.bool (eV 6),⟨7,0,.nil,[.iff (eV 6) (aO 102 itE)]⟩)]⟩
def aGl:Pact:=⟨27,[.bsl kI (eV 0),ii (eV 1)],⟨2,0,.nil,[ah nI (.int 1000)]⟩,[(ii (eV 2),⟨3,0,.nil,[bv (eV 2) (aO 121 [eV 0,eV 1]),ah (.int 0) (eV 2),ah (eV 2) nI]⟩)]⟩
def aGy:Pact:=⟨47,[eH (eV 0),ii (eV 1)],⟨2,0,.nil,eh (eV 0)⟩,[(ii (eV 2),⟨3,0,.nil,[bv (eV 2) (aO 120 [eV 0,eV 1,fu]),ah (.int (-1)) (eV 2),jd (eV 2) fu]⟩)]⟩
def aGH:Pact:=⟨85,[eH (eV 0),ii (eV 1),ii (eV 2)],⟨3,0,.nil,eh (eV 0)++[ah (.int 0) (eV 1),ah (eV 1) (.int 1)]⟩,[(ii (eV 3),⟨4,0,.nil,[bv (eV 3) (aO 122 [eV 0,eV 1,eV 2]),ah (.int 0) (eV 3),ah (eV 3) (.int 1000)]⟩)]⟩
def aE4:List E:=[ah (.int 0) (eV 0),ah (eV 0) (.int 1),ah (.int 1) (eV 1),ah (eV 1) (.int 500),ah (.int 0) (eV 2),ah (eV 2) (.int 399),ah (.int (-1)) (eV 3),ah (eV 3) (.int 1),ah (dJ 2 (eV 4)) (.int 4),.imp (ah (.int 0) (eV 3)) (bv (dJ 2 (eV 4)) (.int 0)),.imp (eV 5) (ah (.int 0) (eV 3))]
def tIt:Tmpl:=⟨bX 108 [(1,.bool (eV 5)),(2,cr 8),(5,ii (eV 8))],⟨9,9,db (List.replicate 8 gone++[⟨true,.cells [ii (eV 0),ii (eV 1),ii (eV 2),ii (eV 3),.bsl kT (eV 4)] (.int 5) 80⟩]),
 aE4++[ah (.int 0) (eV 8),ah (eV 8) (dJ 2 (eV 4)),aO 101 [eV 4,eV 8]]⟩,mi (dJ 2 (eV 4)) (eV 8)⟩
def aBe:List Ann:=[⟨42,0,[tIt],none⟩]
def tCt:Tmpl:=⟨bX 22 [(0,.bsl kI (eV 0)),(1,ii (eV 1)),(5,ii (eV 9)),(6,ii (eV 8))],⟨10,0,.nil,[ah nI (.int 1000),ah (.int 0) (eV 8),ah (eV 8) nI,bv (eV 9) (aO 131 [eV 0,eV 1,eV 8]),ah (.int 0) (eV 9),ah (eV 9) (eV 8)]⟩,mi nI (eV 8)⟩
def aA6:List Ann:=[⟨27,0,[tCt],none⟩]
def oA(W:Nat):T Blk:=db (List.replicate W gone++[nZ (eV 0)])
def tId:Tmpl:=⟨bX 22 [(1,ii (eV 1)),(2,cr 8),(5,ii (eV 8))],⟨9,9,oA 8,eh (eV 0)++[ah fu (.int 30),ah (.int 0) (eV 8),ah (eV 8) fu,bv (aO 120 [eV 0,eV 1,eV 8]) (.int (-1))]⟩,mi fu (eV 8)⟩
def aBc:List Ann:=[⟨47,0,[tId],none⟩]
def tPc:Tmpl:=⟨bX 56 [(1,ii (eV 1)),(2,ii (eV 2)),(3,cr 16),(7,ii (eV 17)),(10,ii (eV 16))],⟨18,17,oA 16,eh (eV 0)++[ah (.int 0) (eV 1),ah (eV 1) (.int 1),ah gg (.int 20),ah (.int 0) (eV 16),ah (eV 16) gg,
 bv (eV 17) (pl (aO 132 [eV 0,eV 1,.int 4,eV 2]) (aO 133 [eV 0,eV 1,eV 2,eV 16])),ah (.int 0) (eV 17),ah (eV 17) (pl (.int 160) (eV 16))]⟩,mi gg (eV 16)⟩
def aBi:List Ann:=[⟨85,2,[tPc],none⟩]
def t4D:Tmpl:=⟨bX 108 [(1,cr 16),(3,ii (eV 17)),(7,ii (eV 16))],⟨18,17,oA 16,eh (eV 0)++[ah gg (.int 20),ah fu (.int 30),ah (.int 0) (eV 16),ah (eV 16) gg,
 bv (eV 17) (pl (aO 134 [eV 0,.int 8]) (aO 135 [eV 0,eV 16])),ah (.int 0) (eV 17),ah (eV 17) (pl (.int 320) (eV 16)),aO 123 [eV 0,eV 16]]⟩,mi gg (eV 16)⟩
def t6D:Tmpl:=⟨bX 108 [(1,cr 24),(3,ii (eV 25)),(10,ii (eV 24))],⟨26,25,oA 24,eh (eV 0)++[ah fu (.int 30),ah (.int 0) (eV 24),ah (eV 24) fu,
 bv (eV 25) (pl (aO 134 [eV 0,.int 8]) (aO 135 [eV 0,gg])),aO 123 [eV 0,gg],aO 124 [eV 0,eV 24]]⟩,mi fu (eV 24)⟩
def aA8:List Ann:=[⟨44,4,[t4D],none⟩,⟨44,6,[t6D],none⟩]
def MK:List E:=eh (eV 0)++[ah (.int 0) my,ah my (.int 1),ah kV (.int 30),ah iB (.int 30)]
def t0R:Tmpl:=⟨bX 94 [(1,cr 8),(3,ii (eV 8))],⟨9,9,oA 8,MK++[ah (.int 0) (eV 8),ah (eV 8) kV,aO 126 [eV 0,eV 8]]⟩,mi kV (eV 8)⟩
def t2R:Tmpl:=⟨bX 94 [(1,cr 16),(4,ii (eV 16))],⟨17,17,oA 16,MK++[ah (.int 0) (eV 16),ah (eV 16) iB,aO 126 [eV 0,kV],aO 127 [eV 0,eV 16]]⟩,mi iB (eV 16)⟩
def YF(j:Int):E:=nt (cl (eV 0) 32) (pl (tm (eV 16) (.int 2)) (.int j))
def t4R:Tmpl:=⟨bX 94 [(1,cr 16),(4,ii (eV 16)),(5,cr 24),(6,ii (eV 24))],⟨25,25,db (List.replicate 16 gone++[nZ (eV 0)]++List.replicate 7 gone++[⟨true,.cells [ii (YF 0),ii (YF 1)] (.int 2) 47⟩]),
 MK++[ah (.int 0) (eV 16),jd (eV 16) iB,aO 126 [eV 0,kV],aO 127 [eV 0,eV 16],ah (.int 0) (eV 24),ah (eV 24) (eV 16),aO 136 [eV 0,eV 16],aO 128 [eV 0,eV 16,eV 24]]⟩,mi (eV 16) (eV 24)⟩
def aBa:List Ann:=[⟨45,0,[t0R],none⟩,⟨45,2,[t2R],none⟩,⟨45,4,[t4R],none⟩]
def aGq:Pact:=⟨44,[eH (eV 0)],⟨1,0,.nil,eh (eV 0)⟩,[(.bool (eV 1),⟨2,0,.nil,[.iff (eV 1) (.fn 125 (eV 0))]⟩)]⟩
def aGu:Pact:=⟨45,[eH (eV 0)],⟨1,0,.nil,eh (eV 0)++[ah (.int 0) my,ah my (.int 1)]⟩,[(.bool (eV 1),⟨2,0,.nil,[.iff (eV 1) (.fn 129 (eV 0))]⟩)]⟩
def aGg:Pact:=⟨14,[eH (eV 0)],⟨1,0,.nil,eh (eV 0)⟩,[(.bool (eV 1),⟨2,0,.nil,[.iff (eV 1) (.fn 130 (eV 0))]⟩)]⟩
def adf:List E:=[ah (.int 0) my,ah my (.int 1),ah (.int 0) (cl (eV 0) 33),ah (cl (eV 0) 33) (.int 1000),ah (.int 0) (cl (eV 0) 35),ah (cl (eV 0) 35) (.int 10),ah (.int (-1)) (cl (eV 0) 36),ah (cl (eV 0) 36) (.int 1),ah (.int 0) (cl (eV 0) 37),ah (cl (eV 0) 37) (.int 2)]
def zB:E:=dJ 5 (cl (eV 0) 30)
def KI(c:Int)(q:Bool)(n:E):E:=aO 103 [cl (eV 0) c,.bool q,n]
def tV0:Tmpl:=⟨bX 117 [(1,cr 8),(3,ii (eV 8))],⟨9,9,oA 8,eh (eV 0)++adf++[ah gg (.int 20),ah (.int 0) (eV 8),ah (eV 8) gg,KI 29 false (eV 8)]⟩,mi gg (eV 8)⟩
def tV2:Tmpl:=⟨bX 117 [(1,cr 16),(4,ii (eV 16))],⟨17,17,oA 16,eh (eV 0)++adf++[ah zB (.int 20),KI 29 false gg,ah (.int 0) (eV 16),ah (eV 16) zB,KI 30 true (eV 16)]⟩,mi zB (eV 16)⟩
def aA2:List Ann:=[⟨14,0,[tV0],none⟩,⟨14,2,[tV2],none⟩]
def kE:List CK:=[.int .i64,.int .i64,.int .i64,.int .i64,.int .i64]
def kTr:List CK:=[.int .i64,.slc kE]
def kC:List CK:=[.str,.int .i64,.int .i64,.int .i64,.int .i64,.int .i64,.int .i64,.int .i64,.int .i64,.int .i64,.int .i64,.slc kE,.slc kTr,.int .i64]
def ET(a:Nat):SV:=.agg ((List.range 9).map (fun j=>ii (eV (a+j)))++[.bool (eV (a+9)),.bool (eV (a+10)),.bool (eV (a+11))])
def vo:E:=dJ 14 (eV 0)
def nO1:E:=dJ 12 (cl (eV 1) 0)
def aB9:Blk:=⟨true,.cells (rW (eV 1) 0 kB) (.int 38) 34⟩
def sm(x n c:E):Blk:=⟨true,.flat kI x n c 3⟩
def adJ:List E:=[ah (.int 1) (eV 1),ah (eV 1) (eV 2),bv (ln (eV 0)) (eV 1),ah (eV 1) (.int 60)]
def aGL:Pact:=⟨56,[.nslice 0 (eV 1) (eV 2)],⟨3,1,db [sm (eV 0) (eV 1) (eV 2)],adJ⟩,
 [(.nslice 1 (eV 4) (eV 5),⟨6,2,db [sm (eV 0) (eV 1) (eV 2),sm (eV 3) (eV 4) (eV 5)],[bv (eV 4) (eV 1),ah (eV 4) (eV 5),bv (ln (eV 3)) (eV 4),aO 152 [eV 3,eV 0,eV 1]]⟩)]⟩
def NP(k:Bool):Tmpl:=⟨bX 46 [(0,.nslice 0 (eV 1) (eV 2)),(2,.nils),(3,if k then .nslice 8 (eV 9) (eV 10)else .nils),(4,ii (eV 11))],⟨12,9,db ([sm (eV 0) (eV 1) (eV 2)]++List.replicate 7 gone++[if k then sm (eV 8) (eV 9) (eV 10)else gone]),
 adJ++(if k then [ah (.int 1) (eV 11),ah (eV 11) (eV 1),bv (eV 9) (eV 11),ah (eV 9) (eV 10),bv (ln (eV 8)) (eV 9),aO 152 [eV 8,eV 0,eV 11]] else [bv (eV 11) (.int 0)])⟩,mi (eV 1) (eV 11)⟩
def afI(k:Bool):Tmpl:=⟨bX 46 [(0,.nslice 0 (eV 1) (eV 2)),(2,.nils),(3,if k then .nslice 8 (eV 9) (eV 10)else .nils),(4,ii (eV 11)),(5,ii (if k then eV 16 else .int 0))],⟨17,9,db ([sm (eV 0) (eV 1) (eV 2)]++List.replicate 7 gone++[if k then sm (eV 8) (eV 9) (eV 10)else gone]),
 (NP k).st.pc++[jd (eV 11) (eV 1)]++(if k then [ah (.int 0) (eV 16),ah (eV 16) (eV 9),aO 160 [eV 8,nt (eV 0) (eV 11),eV 16]] else [])⟩,if k then mi (eV 9) (eV 16)else .int 0⟩
def aBo:List Ann:=[⟨56,0,[NP false,NP true],none⟩,⟨56,2,[afI false,afI true],none⟩]
def li(n:Int):SV:=ii (.int n)
def noB:List SV:=[.bool (.bool false),.bool (.bool false),.bool (.bool false)]
def args:List SV:=[.bsl kC (eV 0),eH (eV 1),ii (eV 2)]
def EH:E:=dJ 14 (eV 0)
def aGG:Pact:=⟨8,[.bsl kC (eV 0)],⟨1,0,.nil,[]⟩,[(.bool (eV 1),⟨2,0,.nil,[.imp (eV 1) (.and (ah EH (.int 12)) (aO 155 [eV 0,EH]))]⟩)]⟩
def tL0:Tmpl:=⟨bX 55 [(0,.bsl kC (eV 0)),(3,ii (eV 8))],⟨9,0,.nil,[ah (.int 0) (eV 8),ah (eV 8) (.int 13),ah (eV 8) EH,aO 155 [eV 0,eV 8]]⟩,mi (.int 13) (eV 8)⟩
def Gx:E:=nt (eV 0) (pl (tm (eV 8) (.int 14)) (.int 12))
def efE:E:=nt (eV 0) (pl (tm (eV 8) (.int 14)) (.int 11))
def tL2:Tmpl:=⟨bX 55 [(0,.bsl kC (eV 0)),(3,ii (eV 8)),(4,ii (eV 16))],⟨17,0,.nil,[ah (.int 0) (eV 8),jd (eV 8) (.int 13),jd (eV 8) EH,aO 155 [eV 0,eV 8],ah (dJ 5 efE) (.int 5),ah (dJ 2 Gx) (.int 3),ah (.int 0) (eV 16),ah (eV 16) (dJ 2 Gx),aO 157 [Gx,eV 16]]⟩,mi (dJ 2 Gx) (eV 16)⟩
def aBg:List Ann:=[⟨8,0,[tL0],none⟩,⟨8,2,[tL2],none⟩]
def aGN:Pact:=⟨9,[eH (eV 0)],⟨1,0,.nil,[]⟩,[(.bool (eV 1),⟨2,0,.nil,[.imp (eV 1) (ta (eV 0))]⟩)]⟩
def lsB:Blk:=⟨true,.cells [.bsl fo (cl (eV 0) 29),.bsl fo (cl (eV 0) 30)] (.int 2) 30⟩
def aaK:T Blk:=db (List.replicate 8 gone++[nZ (eV 0),lsB])
def aeB:List (Nat×SV):=[(1,cr 8),(29,.nslice 9 (.int 2) (.int 2)),(30,ii (.int 2)),(31,ii (eV 8))]
def adK:List E:=[.fn 159 (eV 0),ah (.int 0) (eV 8),ah (eV 8) (.int 2),.imp (ah (.int 1) (eV 8)) (.and (ah gg (.int 20)) (aO 158 [cl (eV 0) 29,gg])),.imp (ah (.int 2) (eV 8)) (.and (ah zB (.int 20)) (aO 158 [cl (eV 0) 30,zB]))]
def t4m:Tmpl:=⟨bX 68 aeB,⟨9,10,aaK,adK⟩,mi (.int 2) (eV 8)⟩
def tSm(q:Nat):Tmpl:=let c:Int:=if q==0 then 29 else 30
 ⟨bX 68 (aeB++[(7,.bsl fo (cl (eV 0) c)),(8,ii (eV 16))]),⟨17,10,aaK,
 adK++[bv (eV 8) (.int (Int.ofNat q)),ah (dJ 5 (cl (eV 0) c)) (.int 20),ah (.int 0) (eV 16),ah (eV 16) (dJ 5 (cl (eV 0) c)),aO 158 [cl (eV 0) c,eV 16]]⟩,mi (dJ 5 (cl (eV 0) c)) (eV 16)⟩
def aBp:List Ann:=[⟨9,4,[t4m],none⟩,⟨9,6,[tSm 0,tSm 1],none⟩]
/-! ### paying -/
def fnZ(f:Nat)(l:List E):E:=aO f (l++[.int 0])
def ZO(a b:E):E:=.fn 12 (.pr a b)
def aDe(a b n:E):E:=aO 181 [a,b,n]
def Fo:List E:=[ah rI (.int 20),aO 158 [eV 0,rI],.fn 190 (eV 0)]
def aGk:Pact:=⟨33,[.bsl fo (eV 0)],⟨1,0,.nil,Fo⟩,[(.bsl fo (eV 1),⟨2,0,.nil,[aO 187 [eV 1,eV 0],.fn 195 (eV 1)]⟩)]⟩
def aDm(x n c:E):Blk:=⟨true,.flat fo x n c 80⟩
def tCi(k:Bool):Tmpl:=⟨bX 25 [(0,.bsl fo (eV 0)),(2,.nils),(3,if k then .nslice 8 (eV 9) (eV 10)else .nils),(4,ii (eV 11))],⟨12,if k then 9 else 0,db (if k then List.replicate 8 gone++[aDm (eV 8) (eV 9) (eV 10)] else []),
 Fo++[ah (.int 0) (eV 11),ah (eV 11) rI]++(if k then [ah (.int 1) (eV 9),ah (eV 9) (eV 10),bv (eV 9) (eV 11),bv (ln (eV 8)) (tm (eV 9) (.int 5)),aDe (eV 8) (eV 0) (tm (eV 11) (.int 5))] else [bv (eV 11) (.int 0)])⟩,mi rI (eV 11)⟩
def aA5:List Ann:=[⟨33,0,[tCi false,tCi true],none⟩]
def aER:List FM:=[.down fo]
def aeT:Pact:=⟨11,[eH (eV 0)],⟨1,0,.nil,eh (eV 0)⟩,[(eH (eV 1),⟨2,0,.nil,[aO 189 [eV 1,eV 0]]⟩)]⟩
def sL:List FM:=uK kB
def Gy(n:Nat):List (SV×St):=[(.bool (.bool true),⟨n,0,.nil,[]⟩)]
def adG:List E:=[ZO (eV 0) (eV 1),ah nI (.int 100)]
def aGz:Pact:=⟨17,[.bsl kI (eV 0),.bsl kI (eV 1)],⟨2,0,.nil,adG⟩,Gy 2⟩
def tIe:Tmpl:=⟨bX 26 [(0,.bsl kI (eV 0)),(1,.bsl kI (eV 1)),(5,ii (eV 8))],⟨9,0,.nil,adG++[ah (.int 0) (eV 8),ah (eV 8) nI]⟩,mi nI (eV 8)⟩
def aBd:List Ann:=[⟨17,0,[tIe],none⟩]
def it5(a:Nat):SV:=.agg [ii (eV a),ii (eV (a+1)),ii (eV (a+2)),ii (eV (a+3)),.bsl kT (eV (a+4))]
def adI:List E:=[bv (eV 0) (eV 5),bv (eV 1) (eV 6),bv (eV 2) (eV 7),bv (eV 3) (eV 8),ZO (eV 4) (eV 9),ah (dJ 2 (eV 4)) (.int 6)]
def aGJ:Pact:=⟨102,[it5 0,it5 5],⟨10,0,.nil,adI⟩,Gy 10⟩
def adF:List E:=[aO 187 [eV 1,eV 0],ah rI (.int 20),aO 158 [eV 0,rI]]
def aGx:Pact:=⟨64,[.bsl fo (eV 0),.bsl fo (eV 1)],⟨2,0,.nil,adF⟩,Gy 2⟩
def vH:List E:=[th (eV 0),ta (eV 0),aO 189 [eV 1,eV 0]]
def aGK:Pact:=⟨26,[eH (eV 0),eH (eV 1)],⟨2,0,.nil,vH⟩,Gy 2⟩
def tSI:Tmpl:=⟨bX 59 [(2,cr 16),(3,cr 17),(5,ii (eV 16))],⟨17,18,db (List.replicate 16 gone++[⟨true,.cells [ii (eV 0),ii (eV 1),ii (eV 2),ii (eV 3),.bsl kT (eV 4)] (.int 5) 80⟩,⟨true,.cells [ii (eV 5),ii (eV 6),ii (eV 7),ii (eV 8),.bsl kT (eV 9)] (.int 5) 80⟩]),
 adI++[ah (.int 0) (eV 16),ah (eV 16) (dJ 2 (eV 4))]⟩,mi (dJ 2 (eV 4)) (eV 16)⟩
def aBn:List Ann:=[⟨102,0,[tSI],none⟩]
def tIS:Tmpl:=⟨bX 27 [(0,.bsl fo (eV 0)),(1,.bsl fo (eV 1)),(5,ii (eV 8))],⟨9,0,.nil,adF++[ah (.int 0) (eV 8),ah (eV 8) rI]⟩,mi rI (eV 8)⟩
def aBb:List Ann:=[⟨64,0,[tIS],none⟩]
def DJ(W:Nat):T Blk:=db (List.replicate W gone++[nZ (eV 0),nZ (eV 1)])
def iF(k W s:Nat)(n:E):Tmpl:=⟨bX 199 [(2,cr W),(3,cr (W+1)),(s,ii (eV W))],⟨W+1,W+2,DJ W,vH++[ah (.int 0) (eV W),ah (eV W) n]⟩,mi n (eV W)⟩
def aDb(k W:Nat):Out:=⟨.exit k,bX 199 [(2,cr W),(3,cr (W+1))],⟨W+1,W+2,DJ W,vH⟩⟩
def gQ(k W:Nat):LoopX:=⟨W,W,[aDb k W]⟩
def Cu(y:Option LoopX):Ann:=⟨26,0,[iF 0 16 5 fu],y⟩
def Cv(y:Option LoopX):Ann:=⟨26,2,[iF 2 24 6 iB],y⟩
def qA:Tmpl:=⟨bX 199 [(2,cr 32),(3,cr 33),(7,ii (eV 32))],⟨33,34,DJ 32,vH++[ah (.int 0) (eV 32),ah (eV 32) (.int 2)]⟩,mi (.int 2) (eV 32)⟩
def Cw(y:Option LoopX):Ann:=⟨26,4,[qA],y⟩
def aes(e:E)(p:Nat):Blk:=⟨true,.cells ((List.range 4).map fun q=>.bsl kI (cl e (Int.ofNat (6+14*p+q)))) (.int 4) 75⟩
def iG(p:Nat):Tmpl:=⟨bX 199 [(2,cr 48),(3,cr 49),(7,ii (eV 32)),(10,cr 50),(11,cr 51),(12,ii (eV 48))],⟨49,52,db (List.replicate 48 gone++[nZ (eV 0),nZ (eV 1),aes (eV 0) p,aes (eV 1) p]),vH++[bv (eV 32) (.int (Int.ofNat p)),ah (.int 0) (eV 48),ah (eV 48) (.int 4)]⟩,mi (.int 4) (eV 48)⟩
def ZW(p:Nat):Out:=⟨.exit 6,bX 199 [(2,cr 48),(3,cr 49),(7,ii (eV 32))],⟨49,50,DJ 48,vH++[bv (eV 32) (.int (Int.ofNat p))]⟩⟩
def nu:LoopX:=⟨48,48,[ZW 0,ZW 1]⟩
def uf(y:Option LoopX):Ann:=⟨26,6,[iG 0,iG 1],y⟩
def Aa(f:FuncId)(ks:List CK)(w:Int)(t:TypeId):Pact:=⟨f,[.bsl ks (eV 0)],⟨1,0,.nil,[ah (dJ w (eV 0)) (.int 100)]⟩,
 [(.nslice 0 (eV 2) (eV 3),⟨4,1,db [⟨true,.flat ks (eV 1) (eV 2) (eV 3) t⟩],[aO 200 [eV 1,eV 0],ah (.int 0) (eV 2),ah (eV 2) (eV 3),bv (eV 2) (dJ w (eV 0))]⟩)]⟩
def gN(b:Nat)(e:E)(n c:E):SV:=.agg (.nslice b n c::(rW e 0 kB).drop 1)
def pJ(x n c:E):Blk:=⟨true,.flat kO x n c 60⟩
def tu:CK->SV
 |.int k=>.int k (.int 0)
 |.bool=>.bool (.bool false)
 |.str=>.str (.str ByteArray.empty)
 |.slc _=>.nils
def oL(l n c o:E):Blk:=⟨true,.nest fo l n c 80 o⟩
def aGm:Pact:=Aa 120 kT 2 132
def aGR:Pact:=⟨95,[.bsl fo (eV 0)],⟨1,0,.nil,Fo⟩,[(.nslice 0 (eV 2) (eV 3),⟨5,1,db [oL (eV 1) (eV 2) (eV 3) (eV 4)],[aO 187 [eV 1,eV 0],.fn 190 (eV 1),bv (eV 2) rI,bv (eV 4) (eV 2),ah (.int 0) (eV 2),ah (eV 2) (eV 3)]⟩)]⟩
def tWn:Tmpl:=⟨bX 24 [(0,.bsl fo (eV 0)),(2,.nils),(3,.nslice 8 (eV 9) (eV 10)),(8,ii (eV 9)),(9,ii (eV 11))],⟨13,9,db (List.replicate 8 gone++[oL (eV 8) (eV 9) (eV 10) (eV 12)]),
 Fo++[ah (.int 0) (eV 11),ah (eV 11) (eV 9),bv (eV 9) rI,ah (eV 9) (eV 10),bv (eV 12) (eV 11),ah (eV 12) (eV 11),ah (eV 11) (eV 12),aO 187 [eV 8,eV 0],.fn 190 (eV 8)]⟩,mi (eV 9) (eV 11)⟩
def aBs:List Ann:=[⟨95,0,[tWn],none⟩]
/-! ### a board that is owned through and through: X its numbers; lists, lengths and rooms from variable k on -/
def EX(l n c:E):Blk:=⟨true,.flat kI l n c 3⟩
def EY(l n c:E):Blk:=⟨true,.flat kT l n c 47⟩
def zX:List Nat:=[0,6,7,8,9,20,21,22,23,29,30,31,32]
def ME(x:E)(k b:Nat):List SV:=(List.range 38).zip (rW x 0 kB) |>.map fun(j,v)=>match zX.idxOf? j with
 |some i=>.nslice (b+i) (eV (k+3*i+1)) (eV (k+3*i+2))
 |none=>v
def rS(k:Nat)(o:Nat):List Blk:=(List.range 13).map fun i=>
 let l:=eV (k+3*i);let n:=eV (k+3*i+1);let c:=eV (k+3*i+2)
 if i==0 then pJ l n c else if i==9 then oL l n c (eV o)else if i==10 then oL l n c (eV (o+1))else if i==12 then EY l n c else EX l n c
def Dn(l n:E):E:=aO 158 [l,n]
def lU(k:Nat)(o:Nat):List E:=(List.range 13).flatMap (fun i=>[ah (.int 0) (eV (k+3*i+1)),ah (eV (k+3*i+1)) (eV (k+3*i+2)),ah (eV (k+3*i+1)) (.int 40)])++[bv (eV o) (eV (k+28)),bv (eV (o+1)) (eV (k+31))]
def oh(a b:Nat):List E:=[Dn (eV a) (eV 29),Dn (eV b) (eV 32)]
def zI(x:E)(k b:Nat):List SV:=(List.range 38).zip kB |>.map fun(j,c)=>match zX.idxOf? j with
 |some i=>.nslice (b+i) (eV (k+3*i+1)) (eV (k+3*i+2))
 |none=>Y0 (nt x (.int (Int.ofNat (fL.idxOf j)))) c
def aGO:Pact:=⟨46,[.agg (zI (eV 0) 1 0)],⟨42,13,db (rS 1 40),lU 1 40++oh 28 31⟩,[(.tup [],⟨42,13,db (List.replicate 13 gone),[]⟩)]⟩
def stH(W:Nat)(f:Nat->Nat)(more:List Blk):T Blk:=db ((List.range 13).map (fun i=>
  let l:=eV (f i);let n:=eV (3*i+2);let c:=eV (3*i+3)
  if i==0 then pJ l n c else if i==9 then oL l n c (eV 40)else if i==10 then oL l n c (eV 41)else if i==12 then EY l n c else EX l n c)++List.replicate (W-13) gone++[⟨true,.cells (zI (eV 0) 1 0) (.int 38) 34⟩]++more)
def tS0:Tmpl:=⟨bX 131 [(1,cr 16),(2,ii (eV 48))],⟨50,17,stH 16 (fun i=>if i==0 then 49 else 3*i+1) [],lU 1 40++oh 28 31++[ah (.int 0) (eV 48),ah (eV 48) (eV 2)]⟩,mi (eV 2) (eV 48)⟩
def zn(p:Nat):List SV:=(List.range 4).map fun q=>let i:=1+4*p+q;.nslice i (eV (3*i+2)) (eV (3*i+3))
def qu(W lo hi u:Nat)(a:Nat)(more:List Blk):T Blk:=db ((List.range 13).map (fun i=>
  let l:=if Nat.ble u i&&Nat.ble i hi then eV (a+i-u)else eV (3*i+1);let n:=eV (3*i+2);let c:=eV (3*i+3)
  if Nat.blt i lo then gone else if i==0 then pJ l n c else if i==9 then oL l n c (eV 40)else if i==10 then oL l n c (eV 41)else if i==12 then EY l n c else EX l n c)++List.replicate (W-13) gone++[⟨true,.cells (zI (eV 0) 1 0) (.int 38) 34⟩]++more)
def EN(d:Nat)(i:E):List E:=[ah (.int 0) i,ah i (eV (3*d+2))]
def yX(v:Nat)(n:Int):List E:=[ah (.int 0) (eV v),jd (eV v) (.int n)]
def tS2:Tmpl:=⟨bX 131 [(1,cr 24),(3,ii (eV 50))],⟨59,25,qu 24 1 8 1 51 [],lU 1 40++oh 28 31++[ah (.int 0) (eV 50),ah (eV 50) (.int 2)]⟩,mi (.int 2) (eV 50)⟩
def tS4(p:Nat):Tmpl:=⟨bX 131 [(1,cr 32),(3,ii (eV 50)),(37,.agg (zn p)),(38,ii (eV 64))],⟨73,33,qu 32 1 8 1 65 [],lU 1 40++oh 28 31++yX 50 2++[bv (eV 50) (.int (Int.ofNat p)),ah (.int 0) (eV 64),ah (eV 64) (.int 4)]⟩,mi (.int 4) (eV 64)⟩
def qz(p q:Nat):Tmpl:=let d:=1+4*p+q;⟨bX 131 [(1,cr 40),(3,ii (eV 50)),(5,.nslice d (eV (3*d+2)) (eV (3*d+3))),(6,ii (eV 80)),(37,.agg (zn p)),(38,ii (eV 64))],⟨89,41,qu 40 1 8 1 81 [],lU 1 40++oh 28 31++yX 50 2++yX 64 4++[bv (eV 50) (.int (Int.ofNat p)),bv (eV 64) (.int (Int.ofNat q))]++EN d (eV 80)⟩,mi (eV (3*d+2)) (eV 80)⟩
def aBl:List Ann:=[⟨46,2,[tS2],none⟩,⟨46,4,[tS4 0,tS4 1],none⟩,⟨46,6,[qz 0 0,qz 0 1,qz 0 2,qz 0 3,qz 1 0,qz 1 1,qz 1 2,qz 1 3],none⟩]
def LC:Blk:=⟨true,.cells [.nslice 9 (eV 29) (eV 30),.nslice 10 (eV 32) (eV 33)] (.int 2) 30⟩
def Nj(W:Nat):List (Nat×SV):=[(1,cr W),(58,.nslice (W+1) (.int 2) (.int 2)),(59,ii (.int 2)),(60,ii (eV 60))]
def tS8:Tmpl:=⟨bX 131 (Nj 32),⟨63,34,qu 32 9 10 9 61 [LC],lU 1 40++oh 61 62++[ah (.int 0) (eV 60),ah (eV 60) (.int 2)]⟩,mi (.int 2) (eV 60)⟩
def aBm:List Ann:=[⟨46,8,[tS8],none⟩]
def afG(m:Nat):Tmpl:=let d:=9+m;⟨bX 131 (Nj 40++[(8,.nslice d (eV (3*d+2)) (eV (3*d+3))),(9,ii (eV 68))]),⟨71,42,qu 40 9 10 9 69 [LC],lU 1 40++oh 69 70++yX 60 2++[bv (eV 60) (.int (Int.ofNat m))]++EN d (eV 68)⟩,mi (.int 40) (eV 68)⟩
def tgE(l i:E):E:=dJ 2 (nt l (pl (tm i (.int 5)) (.int 4)))
def afH(m:Nat):Tmpl:=let d:=9+m;⟨bX 131 (Nj 48++[(8,.nslice d (eV (3*d+2)) (eV (3*d+3))),(9,ii (eV 68)),(10,ii (eV 76))]),⟨79,50,qu 48 9 10 9 77 [LC],lU 1 40++oh 77 78++yX 60 2++[bv (eV 60) (.int (Int.ofNat m)),ah (.int 0) (eV 68),jd (eV 68) (eV (3*d+2)),jd (eV 68) (eV (40+m)),ah (.int 0) (eV 76),ah (eV 76) (tgE (eV (77+m)) (eV 68))]⟩,mi (tgE (eV (77+m)) (eV 68)) (eV 76)⟩
def aBk:List Ann:=[⟨46,10,[afG 0,afG 1],none⟩,⟨46,12,[afH 0,afH 1],none⟩]
def aJq:Tmpl:=⟨bX 131 [(1,cr 40),(11,ii (eV 64))],⟨66,41,qu 40 11 11 11 65 [],lU 1 40++EN 11 (eV 64)⟩,mi (eV 35) (eV 64)⟩
def aJr:Tmpl:=⟨bX 131 [(1,cr 48),(12,ii (eV 72))],⟨74,49,qu 48 12 12 12 73 [],lU 1 40++EN 12 (eV 72)⟩,mi (eV 38) (eV 72)⟩
def aBq:List Ann:=[⟨46,0,[tS0],none⟩,⟨46,14,[aJq],none⟩,⟨46,16,[aJr],none⟩]++aBk++aBm++aBl
/-! ### a copy that is owned -/
def wJ(i:Nat):Int:=if i==0 then 12 else if i==9||i==10 then 5 else if i==12 then 2 else 1
def Zk(x:E)(k o:Nat):List E:=(List.range 13).flatMap (fun i=>
  let l:=eV (k+3*i);let n:=eV (k+3*i+1);let c:=eV (k+3*i+2);let s:=cl x (Int.ofNat (zX.getD i 0))
  (if i==9||i==10 then [aO 187 [l,s],.fn 190 l] else [aO 200 [l,s]])++[bv n (dJ (wJ i) s),ah (.int 0) n,ah n c])++[bv (eV o) (eV (k+28)),bv (eV (o+1)) (eV (k+31))]
def aGi:Pact:=⟨55,[eH (eV 0)],⟨1,0,.nil,eh (eV 0)⟩,[(.agg (ME (eV 0) 1 0),⟨42,13,db (rS 1 40),Zk (eV 0) 1 40⟩)]⟩
def agj(b:Nat):SV:=.agg ((List.range 38).zip kB |>.map fun(j,c)=>match zX.idxOf? j with
 |some i=>.nslice (b+i) (.int 0) (.int 0)
 |none=>tu c)
def agi:List Blk:=(List.range 13).map fun i=>if i==0 then pJ De (.int 0) (.int 0)else if i==9||i==10 then oL De (.int 0) (.int 0) (.int 0)else if i==12 then EY De (.int 0) (.int 0)else EX De (.int 0) (.int 0)
def aGS:Pact:=⟨11,[eH (eV 0)],⟨1,0,.nil,eh (eV 0)⟩,[(gN 0 (eV 1) (eV 2) (eV 3),⟨5,1,db [pJ (eV 4) (eV 2) (eV 3)],[aO 196 [eV 1,eV 0],aO 200 [eV 4,cl (eV 0) 0],bv (eV 2) fu,ah (.int 0) (eV 2),ah (eV 2) (eV 3)]⟩)]⟩
def aET:List FM:=.up kO 60::sL.drop 1
def vf(k:Nat):List E:=(List.range 13).map fun i=>eV (k+3*i)
def aGw:Pact:=⟨15,[.agg (zI (eV 0) 1 0),ii (eV 42),eH (eV 43),ii (eV 44),eH (eV 45),eH (eV 46)],⟨47,13,db (rS 1 40),lU 1 40++oh 28 31++[.fn 190 (eV 28),.fn 190 (eV 31),fnZ 221 ([eV 43,eV 0]++vf 1),th (eV 43),ta (eV 43),bv (eV 42) (eV 44),th (eV 45),ta (eV 45),aO 189 [eV 46,eV 45]]⟩,
 [(.bool (.bool true),⟨47,13,db (List.replicate 13 gone),[]⟩)]⟩
def aGv(z:SV):Pact:=⟨15,[agj 0,ii (eV 0),z,ii (eV 1),eH (eV 2),eH (eV 3)],⟨4,13,db agi,[bv (eV 0) (eV 1),th (eV 2),ta (eV 2),aO 189 [eV 3,eV 2]]⟩,
 [(.bool (.bool true),⟨4,13,db (List.replicate 13 gone),[]⟩)]⟩
def zNl:SV:=.agg (kB.map tu)
/-! ### the law PayPays -/
def aeU(g:FuncId):Pact:=⟨g,[.bsl kC (eV 0),ET 1,ii (eV 13)],⟨14,0,.nil,[]⟩,[(.bool (eV 14),⟨15,0,.nil,[.iff (eV 14) (aO 222 [eV 0,eV 2,eV 13])]⟩)]⟩
def zA:E:=dJ 12 (eV 0)
def aDK(l i:E):E:=nt l (pl (tm i (.int 12)) (.int 0))
def adC:List E:=[ah zA (.int 30),.fn 228 (eV 0),ah (.int 1) (eV 1),ah (eV 1) (.int 500)]
def aGh:Pact:=⟨113,[.bsl kO (eV 0),ii (eV 1),uL 114],⟨2,0,.nil,adC⟩,[(.tup [ii (eV 2),.bool (eV 3)],⟨4,0,.nil,[ah (.int 0) (eV 2),ah (eV 2) zA,aO 226 [eV 0,eV 1,eV 2,eV 2],.iff (eV 3) (.and (jd (eV 2) zA) (bv (aDK (eV 0) (eV 2)) (eV 1)))]⟩)]⟩
def tBf:Tmpl:=⟨bX 49 [(0,.bsl kO (eV 0)),(1,ii (eV 1)),(2,uL 114),(8,ii zA),(9,ii (eV 8)),(10,ii (eV 9))],⟨10,0,.nil,adC++[ah (.int 0) (eV 8),ah (eV 8) (eV 9),ah (eV 9) zA,aO 226 [eV 0,eV 1,eV 8,eV 9]]⟩,mi (eV 9) (eV 8)⟩
def aA3:List Ann:=[⟨113,0,[tBf],none⟩]
def aFM(l i:E):SV:=.agg ((List.range 12).map fun j=>if j<9 then ii (nt l (pl (tm i (.int 12)) (.int (Int.ofNat j))))else .bool (nt l (pl (tm i (.int 12)) (.int (Int.ofNat j)))))
def aaa(k:E):E:=aO 120 [eV 0,k,fu]
def aGr:Pact:=⟨37,[eH (eV 0),ii (eV 1)],⟨2,0,.nil,eh (eV 0)++[.fn 115 (eV 0),ah (.int 0) (aaa (eV 1))]⟩,[(aFM (cl (eV 0) 0) (eV 2),⟨3,0,.nil,[bv (eV 2) (aaa (eV 1)),ah (.int 0) (eV 2),jd (eV 2) fu]⟩)]⟩
def rB(l:E):E:=dJ 2 l
def J2:E:=cl (eV 0) 32
def tBr:Tmpl:=⟨bX 27 [(1,ii (eV 1)),(2,cr 8),(5,ii (eV 8))],⟨9,9,oA 8,eh (eV 0)++[.fn 115 (eV 0),ah (.int 0) (eV 8),ah (eV 8) (rB J2),.not (aO 230 [J2,eV 1,eV 8])]⟩,mi (rB J2) (eV 8)⟩
def aA4:List Ann:=[⟨58,0,[tBr],none⟩]
def aFn:List E:=eh (eV 1)++[ah vo (.int 12),aO 155 [eV 0,vo]]
def aFm:List E:=eh (eV 1)++[.fn 115 (eV 1),ah vo (.int 12),aO 155 [eV 0,vo]]
def Oo:E:=cl (eV 1) 31
def YK:E:=cl (eV 1) 32
def aES:List FM:=(List.range 38).zip kB |>.map fun(j,c)=>match c with
 |.slc ks=>.up ks (if j==0 then 60 else if j==29||j==30 then 80 else if j==32 then 47 else 3)
 |_=>.stay
def adE:List E:=eh (eV 1)++[.fn 130 (eV 1),ah vo (.int 12),aO 155 [eV 0,vo]]
def uY(i c o d:Int)(t s m:Bool):List SV:=[li i,li c,li o,li 0,li 0,li d,li 0,li 0,li 0,.bool (.bool t),.bool (.bool s),.bool (.bool m)]
def kx(k:Nat):(Bool×Bool×Bool)×Int×List Int×List Int:=match k with
 |0=>((false,false,false),20,[],[]) | 1=>((true,false,false),20,[1],[]) | 2=>((true,false,false),20,[1,3],[])
 |3=>((true,true,false),20,[1,3,2],[]) | 4=>((true,true,false),20,[1,3,2],[4,3]) | _=>((true,true,true),17,[],[])
def LH(b v:Nat)(w:Nat)(l:List Int):SV:=match l with | []=>.nils | _=>.nslice b (.int (Int.ofNat (l.length/w))) (.var v)
def LJ(b v k:Nat):SV:=let x:=kx k;.agg ([.nslice b (.int 6) (.var v),li 20,li 0,li 0,li 0,li 0,.nils,.nils,.nslice (b+1) (.int 3) (.var (v+1)),.nils]++noB++[li 0,li 0,li x.2.1,li 0,li 0,li 0,li 0,.nils,.nils,.nslice (b+2) (.int 3) (.var (v+2)),.nils]++noB ++
 [li 0,li 0,.nils,.nils,LH (b+3) (v+3) 1 x.2.2.1,LH (b+4) (v+4) 2 x.2.2.2,li 0,li 0,li 0,li (-1),li 0])
def uW(v:Nat)(w:Int)(t:TypeId)(l:List SV):List Blk:=match l with | []=>[] | _=>[⟨true,.cells l (if w==1 then .var v else .fn 8 (.pr (.var v) (.int w))) t⟩]
def y7(v k:Nat):List Blk:=let x:=kx k;let h:=x.1.2.2
 uW v 12 60 (uY 1 0 0 0 x.1.1 false false++uY 2 1 0 0 x.1.2.1 false false++uY 3 2 0 (if h then 2 else 0) false true false++uY 4 0 1 (if h then 1 else 0) false false h++uY 5 0 1 0 false false false++uY 6 1 1 0 false false false) ++
 uW (v+1) 1 3 [li 1,li 2,li 3]++uW (v+2) 1 3 [li 4,li 5,li 6]++uW (v+3) 1 3 (x.2.2.1.map li)++uW (v+4) 2 47 (x.2.2.2.map li)
def uX(v:Nat)(n:Nat):List E:=match n with | 0=>[] | _=>[ah (.int (Int.ofNat n)) (.var v),ah (.int 0) (.var v)]
def y8(v k:Nat):List E:=let x:=kx k;uX v 6++uX (v+1) 3++uX (v+2) 3++uX (v+3) x.2.2.1.length++uX (v+4) (x.2.2.2.length/2)
def iw(k:Nat):Nat:=match k with | 0=>3 | 4=>5 | 5=>3 | _=>4
def LF(c p t w:Int):List SV:=[.str (.str ⟨#[]⟩),li 2,li 0,li 0,li 0,li 0,li 0,li 0,li p,li t,li w,.nils,.nils,li 0]
def LG:Blk:=⟨true,.cells (LF 0 2 2 0++LF 1 1 1 2++LF 2 1 3 13) (.int 42) 71⟩
def sD(k:Nat):St:=⟨iw k,iw k+1,db (LG::y7 0 k),y8 0 k⟩
def uV(k:Nat)(more:List SV):List SV:=.nslice 0 (.int 3) (.int 3)::LJ 1 0 k::more
def LI(k j:Nat)(r:SV->SV):SV×St:=(r (LJ (iw k+1) (iw k) j),⟨iw k+iw j,iw k+iw j+1,db (LG::y7 0 k++y7 (iw k) j),y8 (iw k) j++y8 0 k⟩)
def aGF:Pact:=⟨31,[],⟨0,0,.nil,[]⟩,[(LJ 0 0 0,⟨3,3,db (y7 0 0),y8 0 0⟩)]⟩
def aeX(f:FuncId)(k:Nat)(w:Nat)(t:TypeId)(l:List Int):Pact:=⟨f,uV k [],sD k,[(LH (iw k+1) (iw k) w l,⟨iw k+1,iw k+2,db (LG::y7 0 k++uW (iw k) (Int.ofNat w) t (l.map li)),uX (iw k) (l.length/w)++y8 0 k⟩)]⟩
def Np(k j:Nat)(id:Int):Pact:=⟨13,uV k [li id],sD k,[LI k j fun v=>.tup [v,li 0]]⟩
def aGD(k j:Nat)(x y:Int):Pact:=⟨20,uV k [.agg [li x,li y]],sD k,[LI k j fun v=>.tup [v,li 0]]⟩
def aGE(k j:Nat):Pact:=⟨24,uV k [],sD k,[LI k j id]⟩
def kNo(k:Nat):List (SV×St):=[(.tup [zNl,li 14],sD k)]
def aGC(k:Nat)(id:Int):Pact:=⟨13,uV k [li id],sD k,kNo k⟩
def aeW(k:Nat)(x y:Int):Pact:=⟨20,uV k [.agg [li x,li y]],sD k,kNo k⟩
def KK:E:=aO 251 [eV 0,eV 2,eV 4,eV 7,eV 8]
def adH:List E:=[.fn 261 (eV 0),aO 262 [eV 4,eV 7,eV 8]]
def aeZ(g:FuncId)(pc:List E):Pact:=⟨g,[.bsl kC (eV 0),ET 1],⟨13,0,.nil,pc⟩,[(ii (eV 13),⟨14,0,.nil,[bv (eV 13) KK]⟩)]⟩
def aeS(g:FuncId)(pc:List E):Pact:=⟨g,[ii (eV 0),ii (eV 1)],⟨2,0,.nil,pc⟩,[(ii (eV 2),⟨3,0,.nil,[bv (eV 2) (aO 252 [eV 0,eV 1])]⟩)]⟩
def cpD(x:E)(k o:Nat):List E:=(List.range 10).flatMap (fun i=>let i:=i+1
  let l:=eV (k+3*i);let n:=eV (k+3*i+1);let c:=eV (k+3*i+2);let s:=cl x (Int.ofNat (zX.getD i 0))
  (if i==9||i==10 then [aO 187 [l,s],.fn 190 l] else [aO 200 [l,s]])++[bv n (dJ (wJ i) s),ah (.int 0) n,ah n c])++[bv (eV o) (eV (k+28)),bv (eV (o+1)) (eV (k+31))] ++
 [bv (eV (k+1)) (dJ 12 (cl x 0)),ah (.int 0) (eV (k+1)),ah (eV (k+1)) (eV (k+2)),bv (ln (eV (k+33))) (.int 0),bv (ln (eV (k+36))) (.int 0),bv (eV (k+34)) (.int 0),ah (eV (k+34)) (eV (k+35)),bv (eV (k+37)) (.int 0),ah (eV (k+37)) (eV (k+38))]
def aGo:Pact:=⟨24,[.bsl kC (eV 0),eH (eV 1)],⟨2,0,.nil,aFn++[.fn 261 (eV 0)]⟩,[(agj 0,⟨2,13,db agi,[.not (.fn 115 (eV 1))]⟩),
 (.agg (zI (eV 2) 3 0),⟨44,13,db (rS 3 42),[.fn 115 (eV 1),aO 256 [eV 2,eV 0,eV 1],aO 255 [eV 3,eV 0,eV 1,nO1]]++cpD (eV 1) 3 42⟩)]⟩
def aFl:List E:=[aO 262 [eV 0,eV 1,.int 0]]
def aGM:Pact:=⟨59,[.bsl kC (eV 0),ET 1],⟨13,0,.nil,adH⟩,[(.agg [ii (eV 13),.bool (eV 14)],⟨15,0,.nil,[bv (eV 13) KK,.iff (eV 14) (.and (jd (.int 0) KK) (aO 222 [eV 0,eV 2,.int 8]))]⟩)]⟩
def LD:VK:=.row [.int .i64,.bool]
def hpD:T Blk:=db ([⟨true,.cells (ME (eV 1) 3 3) (.int 38) 34⟩,⟨true,.cells (kB.map tu) (.int 38) 34⟩,⟨true,.mapl .i64 LD (eV 44)⟩]++rS 3 42)
def ML:List E:=aFm++[.fn 261 (eV 0)]++Zk (eV 1) 3 42
def tD0:Tmpl:=⟨bX 128 [(0,.bsl kC (eV 0)),(3,cr 0),(4,cr 1),(5,.map 2),(25,.nslice 15 (eV 40) (eV 41)),(26,ii (eV 40)),(27,ii (eV 45))],⟨46,16,hpD,ML++[ah (.int 0) (eV 45),ah (eV 45) (eV 40),aO 253 [eV 44,eV 0,eV 1,eV 45]]⟩,mi (eV 40) (eV 45)⟩
def aGP:Pact:=⟨60,[ii (eV 0),ii (eV 1),ii (eV 2)],⟨3,0,.nil,[ah (.int 0) (eV 0),ah (eV 0) (eV 2),ah (eV 2) (.int 100000),ah (.int 0) (eV 1),ah (eV 1) (.int 100000)]⟩,[(ii (eV 3),⟨4,0,.nil,[bv (eV 3) (.mx (.int 0) (.fn 7 (.pr (eV 0) (eV 1))))]⟩)]⟩
def adt(p:Nat):List SV:=(ME (eV 1) 3 3).set (1+14*p) (ii (eV 46))
def aDH(p:Nat):T Blk:=db ([⟨true,.cells (adt p) (.int 38) 34⟩,⟨true,.cells (kB.map tu) (.int 38) 34⟩,⟨true,.mapl .i64 LD (eV 44)⟩]++rS 3 42)
def tD2(p:Nat):Tmpl:=⟨bX 128 [(0,.bsl kC (eV 0)),(3,cr 0),(4,cr 1),(5,.map 2),(8,.ptr 0 ⟨1+14*p,0,.int 0⟩),(58,.nslice 14 (eV 37) (eV 38)),(59,ii (eV 37)),(60,ii (eV 47))],⟨48,16,aDH p,
 ML++[aO 253 [eV 44,eV 0,eV 1,rB YK],bv (cl (eV 1) 34) (.int (1-Int.ofNat p)),ah (.int 0) (eV 47),ah (eV 47) (eV 37),bv (eV 46) (aO 254 [eV 0,eV 1,eV 47]),ah (.int 0) (eV 46),ah (eV 46) (.int 9999)]⟩,mi (eV 37) (eV 47)⟩
def aBP:List Blk:=pJ (eV 48) (eV 4) (eV 5)::(rS 3 42).drop 1
def aDI(p:Nat):T Blk:=db ([⟨true,.cells (adt p) (.int 38) 34⟩,⟨true,.cells (kB.map tu) (.int 38) 34⟩,⟨true,.mapl .i64 LD (eV 44)⟩]++aBP)
def tD4(p:Nat):Tmpl:=⟨bX 128 [(0,.bsl kC (eV 0)),(3,cr 0),(4,cr 1),(5,.map 2),(87,.nslice 3 (eV 4) (eV 5)),(88,ii (eV 4)),(89,ii (eV 49))],⟨50,16,aDI p,
 ML++[aO 253 [eV 44,eV 0,eV 1,rB YK],bv (cl (eV 1) 34) (.int (1-Int.ofNat p)),ah (.int 0) (eV 49),ah (eV 49) (eV 4),bv (eV 46) (aO 254 [eV 0,eV 1,ln (cl (eV 1) 31)]),ah (.int 0) (eV 46),ah (eV 46) (.int 9999),aO 255 [eV 48,eV 0,eV 1,eV 49]]⟩,mi (eV 4) (eV 49)⟩
def aGj:Pact:=⟨58,[eH (eV 0),ii (eV 1)],⟨2,0,.nil,eh (eV 0)++[.fn 115 (eV 0)]⟩,[(ii (eV 2),⟨3,0,.nil,[bv (eV 2) (aO 258 [eV 0,eV 1])]⟩)]⟩
def aGp:Pact:=⟨25,[.bsl kC (eV 0),eH (eV 1)],⟨2,0,.nil,adE⟩,[(eH (eV 2),⟨3,0,.nil,[aO 259 [eV 2,eV 0,eV 1],th (eV 2),ta (eV 2)]⟩)]⟩
def flD(x:E):T Blk:=db [pJ x (eV 14) (eV 15)]
def aGn:Pact:=⟨63,[.bsl kC (eV 0),ET 1,.ptr 0 ⟨0,12,eV 16⟩],⟨17,1,flD (eV 13),[ah (.int 0) (eV 16),jd (eV 16) (eV 14),ah (eV 14) (eV 15)]⟩,
 [(.tup [],⟨18,1,flD (eV 17),[aO 260 [eV 17,eV 13,eV 16,eV 0,eV 2,eV 4,eV 7,eV 8]]⟩)]⟩
def aFi(p:Nat):List SV:=(.nslice 2 (eV 3) (eV 4)::(rW (eV 2) 0 kB).drop 1).set (1+14*p) (ii (eV 7))
def tDr(p:Nat):Tmpl:=⟨bX 85 [(0,.bsl kC (eV 0)),(3,cr 0),(4,cr 1),(5,cr 3),(6,.ptr 3 ⟨1+14*p,0,.int 0⟩),(7,ii (eV 8))],⟨9,4,db [aB9,⟨true,.cells (kB.map tu) (.int 38) 34⟩,pJ (eV 6) (eV 3) (eV 4),⟨true,.cells (aFi p) (.int 38) 34⟩],
 adE++[aO 196 [eV 2,eV 1],bv (eV 3) nO1,ah (.int 0) (eV 3),ah (eV 3) (eV 4),bv (cl (eV 1) 34) (.int (1-Int.ofNat p)),ah (.int 0) (eV 8),ah (eV 8) (ln Oo),bv (eV 7) (aO 254 [eV 0,eV 1,eV 8]),ah (.int 0) (eV 7),ah (eV 7) (.int 9999),aO 257 [eV 6,eV 0,eV 1,eV 8]]⟩,mi (ln Oo) (eV 8)⟩
def aA7:List Ann:=[⟨25,0,[tDr 0,tDr 1],none⟩]
/-! the law -/
def aBB:List SV:=[.bsl kC (eV 0),eH (eV 1)]
def MN:List E:=[th (eV 1),.fn 261 (eV 0)]
theorem aKj:∀ρ:Env,E.B ρ wn=true:=fun ρ=>rfl
structure Nl where
 l:List Nat1
 h:∀x∈l,aV Tryz.prog x
def nc{x:Nat1}(h:aV Tryz.prog x)(n:Nl):Nl:=⟨x::n.l,fun y hy=>(List.mem_cons.1 hy).elim (fun e=>e▸h) (n.h y)⟩
theorem sc{s:Pact}(f:List Fa)(a:List Ann)(n:Nl)(ms:List FM)(ha:Fs a=true)(h:nr Tryz.prog (fun tb=>Nq Tryz.prog (tb.plus (fl f) a n.l) 3000 ms s)=true):aV Tryz.prog (bz s):=
 ae1 good (facts:=fl f) (oo f) (anns:=a) (mX a ha) (nats:=n.l) n.h (n:=3000) (ms:=ms) h
def ab0:Nl:=⟨nats,nats_ok⟩
def p0:List Fa:=[]
theorem aGU:aV Tryz.prog (bz (aGF)):=sc p0 ([]) ab0 ([]) (by kernel_rfl) (by kernel_rfl)
def ab1:Nl:=nc aGU ab0
def p1:List Fa:=[]
theorem aG5:aV Tryz.prog (bz (aeX 12 0 1 3 [1,2,3])):=sc p1 ([]) ab1 ([]) (by kernel_rfl) (by kernel_rfl)
def acb:Nl:=nc aG5 ab1
def p2:List Fa:=[]
theorem aHg:aV Tryz.prog (bz (Np 0 1 1)):=sc p2 ([]) acb ([]) (by kernel_rfl) (by kernel_rfl)
def acn:Nl:=nc aHg acb
def p3:List Fa:=[]
theorem aHr:aV Tryz.prog (bz (Np 1 2 3)):=sc p3 ([]) acn ([]) (by kernel_rfl) (by kernel_rfl)
def acx:Nl:=nc aHr acn
end
end Go.Proofs.YtnggbcblogpnfaaGreat.combatDamages
