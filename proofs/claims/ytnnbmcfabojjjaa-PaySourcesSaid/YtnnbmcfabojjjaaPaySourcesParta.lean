/-
  PaySources: contracts of functions, part 1.
-/
import Derived.Test.YtnnbmcfabojjjaaRows
import Derived.Test.YtnnbmcfabojjjaaTheory
import Derived.WalkKit
import Derived.ProofKit
import Derived.OpenShut
import Derived.ChangeOld
import Derived.Below
import Derived.KernelRfl
import Derived.Lib.SmallJoins
namespace Go.Proofs.Ytnnbmcfabojjjaa.paySources
open Go.ChangeShapes Go.WideShapes Go.ChangeAt Go.RowKit
open Go.SX
set_option linter.unusedVariables false
set_option linter.unusedSimpArgs false
set_option maxRecDepth 100000
noncomputable section
theorem own:ownKnob Try.prog.godebug=none:=by kernel_rfl
theorem laidOut:laidOutB Try.prog=true:=by kernel_rfl
theorem good:progOk Try.prog=true:=by kernel_rfl

theorem bulkOk {H:Type}:BulkOk (bulkD (H:=H)) bulkDs:=bulkD_ok
theorem ty_board {us:List U} (h:us.length=38) (t:U.typs us kBu []=true):(U.typs us kBu [] && us.length == 38)=true:=by rw [t,h]; rfl

abbrev Tr (f:E):Prop:=∀ ρ:Env,E.B ρ f=true
theorem ac {e:E} {l:List E} (h:Tr e) (hl:∀ e∈l,Tr e):∀ x∈e::l,Tr x:=all_cons h hl
theorem ii1 {a0 d:E} (h:∀ ρ:Env,E.B ρ a0=true→E.B ρ d=true):Tr (.imp a0 d):=fun ρ=>by
 rw [sm_B_imp]
 rintro p0
 exact h ρ p0
theorem ii2 {a0 a1 d:E} (h:∀ ρ:Env,E.B ρ a0=true→E.B ρ a1=true→E.B ρ d=true):Tr (.imp (.and a0 a1) d):=fun ρ=>by
 rw [sm_B_imp]
 simp only [sm_B_and]
 rintro ⟨p0,p1⟩
 exact h ρ p0 p1
theorem ii3 {a0 a1 a2 d:E} (h:∀ ρ:Env,E.B ρ a0=true→E.B ρ a1=true→E.B ρ a2=true→E.B ρ d=true):Tr (.imp (.and a0 (.and a1 a2)) d):=fun ρ=>by
 rw [sm_B_imp]
 simp only [sm_B_and]
 rintro ⟨p0,p1,p2⟩
 exact h ρ p0 p1 p2
theorem ii4 {a0 a1 a2 a3 d:E} (h:∀ ρ:Env,E.B ρ a0=true→E.B ρ a1=true→E.B ρ a2=true→E.B ρ a3=true→E.B ρ d=true):Tr (.imp (.and a0 (.and a1 (.and a2 a3))) d):=fun ρ=>by
 rw [sm_B_imp]
 simp only [sm_B_and]
 rintro ⟨p0,p1,p2,p3⟩
 exact h ρ p0 p1 p2 p3
theorem ii5 {a0 a1 a2 a3 a4 d:E} (h:∀ ρ:Env,E.B ρ a0=true→E.B ρ a1=true→E.B ρ a2=true→E.B ρ a3=true→E.B ρ a4=true→E.B ρ d=true):Tr (.imp (.and a0 (.and a1 (.and a2 (.and a3 a4)))) d):=fun ρ=>by
 rw [sm_B_imp]
 simp only [sm_B_and]
 rintro ⟨p0,p1,p2,p3,p4⟩
 exact h ρ p0 p1 p2 p3 p4
theorem ii6 {a0 a1 a2 a3 a4 a5 d:E} (h:∀ ρ:Env,E.B ρ a0=true→E.B ρ a1=true→E.B ρ a2=true→E.B ρ a3=true→E.B ρ a4=true→E.B ρ a5=true→E.B ρ d=true):Tr (.imp (.and a0 (.and a1 (.and a2 (.and a3 (.and a4 a5))))) d):=fun ρ=>by
 rw [sm_B_imp]
 simp only [sm_B_and]
 rintro ⟨p0,p1,p2,p3,p4,p5⟩
 exact h ρ p0 p1 p2 p3 p4 p5
theorem ii7 {a0 a1 a2 a3 a4 a5 a6 d:E} (h:∀ ρ:Env,E.B ρ a0=true→E.B ρ a1=true→E.B ρ a2=true→E.B ρ a3=true→E.B ρ a4=true→E.B ρ a5=true→E.B ρ a6=true→E.B ρ d=true):Tr (.imp (.and a0 (.and a1 (.and a2 (.and a3 (.and a4 (.and a5 a6)))))) d):=fun ρ=>by
 rw [sm_B_imp]
 simp only [sm_B_and]
 rintro ⟨p0,p1,p2,p3,p4,p5,p6⟩
 exact h ρ p0 p1 p2 p3 p4 p5 p6
theorem ii8 {a0 a1 a2 a3 a4 a5 a6 a7 d:E} (h:∀ ρ:Env,E.B ρ a0=true→E.B ρ a1=true→E.B ρ a2=true→E.B ρ a3=true→E.B ρ a4=true→E.B ρ a5=true→E.B ρ a6=true→E.B ρ a7=true→E.B ρ d=true):Tr (.imp (.and a0 (.and a1 (.and a2 (.and a3 (.and a4 (.and a5 (.and a6 a7))))))) d):=fun ρ=>by
 rw [sm_B_imp]
 simp only [sm_B_and]
 rintro ⟨p0,p1,p2,p3,p4,p5,p6,p7⟩
 exact h ρ p0 p1 p2 p3 p4 p5 p6 p7
theorem ii9 {a0 a1 a2 a3 a4 a5 a6 a7 a8 d:E} (h:∀ ρ:Env,E.B ρ a0=true→E.B ρ a1=true→E.B ρ a2=true→E.B ρ a3=true→E.B ρ a4=true→E.B ρ a5=true→E.B ρ a6=true→E.B ρ a7=true→E.B ρ a8=true→E.B ρ d=true):Tr (.imp (.and a0 (.and a1 (.and a2 (.and a3 (.and a4 (.and a5 (.and a6 (.and a7 a8)))))))) d):=fun ρ=>by
 rw [sm_B_imp]
 simp only [sm_B_and]
 rintro ⟨p0,p1,p2,p3,p4,p5,p6,p7,p8⟩
 exact h ρ p0 p1 p2 p3 p4 p5 p6 p7 p8
theorem ii10 {a0 a1 a2 a3 a4 a5 a6 a7 a8 a9 d:E} (h:∀ ρ:Env,E.B ρ a0=true→E.B ρ a1=true→E.B ρ a2=true→E.B ρ a3=true→E.B ρ a4=true→E.B ρ a5=true→E.B ρ a6=true→E.B ρ a7=true→E.B ρ a8=true→E.B ρ a9=true→E.B ρ d=true):Tr (.imp (.and a0 (.and a1 (.and a2 (.and a3 (.and a4 (.and a5 (.and a6 (.and a7 (.and a8 a9))))))))) d):=fun ρ=>by
 rw [sm_B_imp]
 simp only [sm_B_and]
 rintro ⟨p0,p1,p2,p3,p4,p5,p6,p7,p8,p9⟩
 exact h ρ p0 p1 p2 p3 p4 p5 p6 p7 p8 p9
theorem ii11 {a0 a1 a2 a3 a4 a5 a6 a7 a8 a9 a10 d:E} (h:∀ ρ:Env,E.B ρ a0=true→E.B ρ a1=true→E.B ρ a2=true→E.B ρ a3=true→E.B ρ a4=true→E.B ρ a5=true→E.B ρ a6=true→E.B ρ a7=true→E.B ρ a8=true→E.B ρ a9=true→E.B ρ a10=true→E.B ρ d=true):Tr (.imp (.and a0 (.and a1 (.and a2 (.and a3 (.and a4 (.and a5 (.and a6 (.and a7 (.and a8 (.and a9 a10)))))))))) d):=fun ρ=>by
 rw [sm_B_imp]
 simp only [sm_B_and]
 rintro ⟨p0,p1,p2,p3,p4,p5,p6,p7,p8,p9,p10⟩
 exact h ρ p0 p1 p2 p3 p4 p5 p6 p7 p8 p9 p10
theorem ii12 {a0 a1 a2 a3 a4 a5 a6 a7 a8 a9 a10 a11 d:E} (h:∀ ρ:Env,E.B ρ a0=true→E.B ρ a1=true→E.B ρ a2=true→E.B ρ a3=true→E.B ρ a4=true→E.B ρ a5=true→E.B ρ a6=true→E.B ρ a7=true→E.B ρ a8=true→E.B ρ a9=true→E.B ρ a10=true→E.B ρ a11=true→E.B ρ d=true):Tr (.imp (.and a0 (.and a1 (.and a2 (.and a3 (.and a4 (.and a5 (.and a6 (.and a7 (.and a8 (.and a9 (.and a10 a11))))))))))) d):=fun ρ=>by
 rw [sm_B_imp]
 simp only [sm_B_and]
 rintro ⟨p0,p1,p2,p3,p4,p5,p6,p7,p8,p9,p10,p11⟩
 exact h ρ p0 p1 p2 p3 p4 p5 p6 p7 p8 p9 p10 p11
theorem ii13 {a0 a1 a2 a3 a4 a5 a6 a7 a8 a9 a10 a11 a12 d:E} (h:∀ ρ:Env,E.B ρ a0=true→E.B ρ a1=true→E.B ρ a2=true→E.B ρ a3=true→E.B ρ a4=true→E.B ρ a5=true→E.B ρ a6=true→E.B ρ a7=true→E.B ρ a8=true→E.B ρ a9=true→E.B ρ a10=true→E.B ρ a11=true→E.B ρ a12=true→E.B ρ d=true):Tr (.imp (.and a0 (.and a1 (.and a2 (.and a3 (.and a4 (.and a5 (.and a6 (.and a7 (.and a8 (.and a9 (.and a10 (.and a11 a12)))))))))))) d):=fun ρ=>by
 rw [sm_B_imp]
 simp only [sm_B_and]
 rintro ⟨p0,p1,p2,p3,p4,p5,p6,p7,p8,p9,p10,p11,p12⟩
 exact h ρ p0 p1 p2 p3 p4 p5 p6 p7 p8 p9 p10 p11 p12
theorem ii14 {a0 a1 a2 a3 a4 a5 a6 a7 a8 a9 a10 a11 a12 a13 d:E} (h:∀ ρ:Env,E.B ρ a0=true→E.B ρ a1=true→E.B ρ a2=true→E.B ρ a3=true→E.B ρ a4=true→E.B ρ a5=true→E.B ρ a6=true→E.B ρ a7=true→E.B ρ a8=true→E.B ρ a9=true→E.B ρ a10=true→E.B ρ a11=true→E.B ρ a12=true→E.B ρ a13=true→E.B ρ d=true):Tr (.imp (.and a0 (.and a1 (.and a2 (.and a3 (.and a4 (.and a5 (.and a6 (.and a7 (.and a8 (.and a9 (.and a10 (.and a11 (.and a12 a13))))))))))))) d):=fun ρ=>by
 rw [sm_B_imp]
 simp only [sm_B_and]
 rintro ⟨p0,p1,p2,p3,p4,p5,p6,p7,p8,p9,p10,p11,p12,p13⟩
 exact h ρ p0 p1 p2 p3 p4 p5 p6 p7 p8 p9 p10 p11 p12 p13
theorem ii15 {a0 a1 a2 a3 a4 a5 a6 a7 a8 a9 a10 a11 a12 a13 a14 d:E} (h:∀ ρ:Env,E.B ρ a0=true→E.B ρ a1=true→E.B ρ a2=true→E.B ρ a3=true→E.B ρ a4=true→E.B ρ a5=true→E.B ρ a6=true→E.B ρ a7=true→E.B ρ a8=true→E.B ρ a9=true→E.B ρ a10=true→E.B ρ a11=true→E.B ρ a12=true→E.B ρ a13=true→E.B ρ a14=true→E.B ρ d=true):Tr (.imp (.and a0 (.and a1 (.and a2 (.and a3 (.and a4 (.and a5 (.and a6 (.and a7 (.and a8 (.and a9 (.and a10 (.and a11 (.and a12 (.and a13 a14)))))))))))))) d):=fun ρ=>by
 rw [sm_B_imp]
 simp only [sm_B_and]
 rintro ⟨p0,p1,p2,p3,p4,p5,p6,p7,p8,p9,p10,p11,p12,p13,p14⟩
 exact h ρ p0 p1 p2 p3 p4 p5 p6 p7 p8 p9 p10 p11 p12 p13 p14
theorem ii16 {a0 a1 a2 a3 a4 a5 a6 a7 a8 a9 a10 a11 a12 a13 a14 a15 d:E} (h:∀ ρ:Env,E.B ρ a0=true→E.B ρ a1=true→E.B ρ a2=true→E.B ρ a3=true→E.B ρ a4=true→E.B ρ a5=true→E.B ρ a6=true→E.B ρ a7=true→E.B ρ a8=true→E.B ρ a9=true→E.B ρ a10=true→E.B ρ a11=true→E.B ρ a12=true→E.B ρ a13=true→E.B ρ a14=true→E.B ρ a15=true→E.B ρ d=true):Tr (.imp (.and a0 (.and a1 (.and a2 (.and a3 (.and a4 (.and a5 (.and a6 (.and a7 (.and a8 (.and a9 (.and a10 (.and a11 (.and a12 (.and a13 (.and a14 a15))))))))))))))) d):=fun ρ=>by
 rw [sm_B_imp]
 simp only [sm_B_and]
 rintro ⟨p0,p1,p2,p3,p4,p5,p6,p7,p8,p9,p10,p11,p12,p13,p14,p15⟩
 exact h ρ p0 p1 p2 p3 p4 p5 p6 p7 p8 p9 p10 p11 p12 p13 p14 p15
theorem ii17 {a0 a1 a2 a3 a4 a5 a6 a7 a8 a9 a10 a11 a12 a13 a14 a15 a16 d:E} (h:∀ ρ:Env,E.B ρ a0=true→E.B ρ a1=true→E.B ρ a2=true→E.B ρ a3=true→E.B ρ a4=true→E.B ρ a5=true→E.B ρ a6=true→E.B ρ a7=true→E.B ρ a8=true→E.B ρ a9=true→E.B ρ a10=true→E.B ρ a11=true→E.B ρ a12=true→E.B ρ a13=true→E.B ρ a14=true→E.B ρ a15=true→E.B ρ a16=true→E.B ρ d=true):Tr (.imp (.and a0 (.and a1 (.and a2 (.and a3 (.and a4 (.and a5 (.and a6 (.and a7 (.and a8 (.and a9 (.and a10 (.and a11 (.and a12 (.and a13 (.and a14 (.and a15 a16)))))))))))))))) d):=fun ρ=>by
 rw [sm_B_imp]
 simp only [sm_B_and]
 rintro ⟨p0,p1,p2,p3,p4,p5,p6,p7,p8,p9,p10,p11,p12,p13,p14,p15,p16⟩
 exact h ρ p0 p1 p2 p3 p4 p5 p6 p7 p8 p9 p10 p11 p12 p13 p14 p15 p16
theorem ii18 {a0 a1 a2 a3 a4 a5 a6 a7 a8 a9 a10 a11 a12 a13 a14 a15 a16 a17 d:E} (h:∀ ρ:Env,E.B ρ a0=true→E.B ρ a1=true→E.B ρ a2=true→E.B ρ a3=true→E.B ρ a4=true→E.B ρ a5=true→E.B ρ a6=true→E.B ρ a7=true→E.B ρ a8=true→E.B ρ a9=true→E.B ρ a10=true→E.B ρ a11=true→E.B ρ a12=true→E.B ρ a13=true→E.B ρ a14=true→E.B ρ a15=true→E.B ρ a16=true→E.B ρ a17=true→E.B ρ d=true):Tr (.imp (.and a0 (.and a1 (.and a2 (.and a3 (.and a4 (.and a5 (.and a6 (.and a7 (.and a8 (.and a9 (.and a10 (.and a11 (.and a12 (.and a13 (.and a14 (.and a15 (.and a16 a17))))))))))))))))) d):=fun ρ=>by
 rw [sm_B_imp]
 simp only [sm_B_and]
 rintro ⟨p0,p1,p2,p3,p4,p5,p6,p7,p8,p9,p10,p11,p12,p13,p14,p15,p16,p17⟩
 exact h ρ p0 p1 p2 p3 p4 p5 p6 p7 p8 p9 p10 p11 p12 p13 p14 p15 p16 p17
theorem ii19 {a0 a1 a2 a3 a4 a5 a6 a7 a8 a9 a10 a11 a12 a13 a14 a15 a16 a17 a18 d:E} (h:∀ ρ:Env,E.B ρ a0=true→E.B ρ a1=true→E.B ρ a2=true→E.B ρ a3=true→E.B ρ a4=true→E.B ρ a5=true→E.B ρ a6=true→E.B ρ a7=true→E.B ρ a8=true→E.B ρ a9=true→E.B ρ a10=true→E.B ρ a11=true→E.B ρ a12=true→E.B ρ a13=true→E.B ρ a14=true→E.B ρ a15=true→E.B ρ a16=true→E.B ρ a17=true→E.B ρ a18=true→E.B ρ d=true):Tr (.imp (.and a0 (.and a1 (.and a2 (.and a3 (.and a4 (.and a5 (.and a6 (.and a7 (.and a8 (.and a9 (.and a10 (.and a11 (.and a12 (.and a13 (.and a14 (.and a15 (.and a16 (.and a17 a18)))))))))))))))))) d):=fun ρ=>by
 rw [sm_B_imp]
 simp only [sm_B_and]
 rintro ⟨p0,p1,p2,p3,p4,p5,p6,p7,p8,p9,p10,p11,p12,p13,p14,p15,p16,p17,p18⟩
 exact h ρ p0 p1 p2 p3 p4 p5 p6 p7 p8 p9 p10 p11 p12 p13 p14 p15 p16 p17 p18
theorem ii20 {a0 a1 a2 a3 a4 a5 a6 a7 a8 a9 a10 a11 a12 a13 a14 a15 a16 a17 a18 a19 d:E} (h:∀ ρ:Env,E.B ρ a0=true→E.B ρ a1=true→E.B ρ a2=true→E.B ρ a3=true→E.B ρ a4=true→E.B ρ a5=true→E.B ρ a6=true→E.B ρ a7=true→E.B ρ a8=true→E.B ρ a9=true→E.B ρ a10=true→E.B ρ a11=true→E.B ρ a12=true→E.B ρ a13=true→E.B ρ a14=true→E.B ρ a15=true→E.B ρ a16=true→E.B ρ a17=true→E.B ρ a18=true→E.B ρ a19=true→E.B ρ d=true):Tr (.imp (.and a0 (.and a1 (.and a2 (.and a3 (.and a4 (.and a5 (.and a6 (.and a7 (.and a8 (.and a9 (.and a10 (.and a11 (.and a12 (.and a13 (.and a14 (.and a15 (.and a16 (.and a17 (.and a18 a19))))))))))))))))))) d):=fun ρ=>by
 rw [sm_B_imp]
 simp only [sm_B_and]
 rintro ⟨p0,p1,p2,p3,p4,p5,p6,p7,p8,p9,p10,p11,p12,p13,p14,p15,p16,p17,p18,p19⟩
 exact h ρ p0 p1 p2 p3 p4 p5 p6 p7 p8 p9 p10 p11 p12 p13 p14 p15 p16 p17 p18 p19
theorem ii21 {a0 a1 a2 a3 a4 a5 a6 a7 a8 a9 a10 a11 a12 a13 a14 a15 a16 a17 a18 a19 a20 d:E} (h:∀ ρ:Env,E.B ρ a0=true→E.B ρ a1=true→E.B ρ a2=true→E.B ρ a3=true→E.B ρ a4=true→E.B ρ a5=true→E.B ρ a6=true→E.B ρ a7=true→E.B ρ a8=true→E.B ρ a9=true→E.B ρ a10=true→E.B ρ a11=true→E.B ρ a12=true→E.B ρ a13=true→E.B ρ a14=true→E.B ρ a15=true→E.B ρ a16=true→E.B ρ a17=true→E.B ρ a18=true→E.B ρ a19=true→E.B ρ a20=true→E.B ρ d=true):Tr (.imp (.and a0 (.and a1 (.and a2 (.and a3 (.and a4 (.and a5 (.and a6 (.and a7 (.and a8 (.and a9 (.and a10 (.and a11 (.and a12 (.and a13 (.and a14 (.and a15 (.and a16 (.and a17 (.and a18 (.and a19 a20)))))))))))))))))))) d):=fun ρ=>by
 rw [sm_B_imp]
 simp only [sm_B_and]
 rintro ⟨p0,p1,p2,p3,p4,p5,p6,p7,p8,p9,p10,p11,p12,p13,p14,p15,p16,p17,p18,p19,p20⟩
 exact h ρ p0 p1 p2 p3 p4 p5 p6 p7 p8 p9 p10 p11 p12 p13 p14 p15 p16 p17 p18 p19 p20
theorem ii22 {a0 a1 a2 a3 a4 a5 a6 a7 a8 a9 a10 a11 a12 a13 a14 a15 a16 a17 a18 a19 a20 a21 d:E} (h:∀ ρ:Env,E.B ρ a0=true→E.B ρ a1=true→E.B ρ a2=true→E.B ρ a3=true→E.B ρ a4=true→E.B ρ a5=true→E.B ρ a6=true→E.B ρ a7=true→E.B ρ a8=true→E.B ρ a9=true→E.B ρ a10=true→E.B ρ a11=true→E.B ρ a12=true→E.B ρ a13=true→E.B ρ a14=true→E.B ρ a15=true→E.B ρ a16=true→E.B ρ a17=true→E.B ρ a18=true→E.B ρ a19=true→E.B ρ a20=true→E.B ρ a21=true→E.B ρ d=true):Tr (.imp (.and a0 (.and a1 (.and a2 (.and a3 (.and a4 (.and a5 (.and a6 (.and a7 (.and a8 (.and a9 (.and a10 (.and a11 (.and a12 (.and a13 (.and a14 (.and a15 (.and a16 (.and a17 (.and a18 (.and a19 (.and a20 a21))))))))))))))))))))) d):=fun ρ=>by
 rw [sm_B_imp]
 simp only [sm_B_and]
 rintro ⟨p0,p1,p2,p3,p4,p5,p6,p7,p8,p9,p10,p11,p12,p13,p14,p15,p16,p17,p18,p19,p20,p21⟩
 exact h ρ p0 p1 p2 p3 p4 p5 p6 p7 p8 p9 p10 p11 p12 p13 p14 p15 p16 p17 p18 p19 p20 p21
theorem ii23 {a0 a1 a2 a3 a4 a5 a6 a7 a8 a9 a10 a11 a12 a13 a14 a15 a16 a17 a18 a19 a20 a21 a22 d:E} (h:∀ ρ:Env,E.B ρ a0=true→E.B ρ a1=true→E.B ρ a2=true→E.B ρ a3=true→E.B ρ a4=true→E.B ρ a5=true→E.B ρ a6=true→E.B ρ a7=true→E.B ρ a8=true→E.B ρ a9=true→E.B ρ a10=true→E.B ρ a11=true→E.B ρ a12=true→E.B ρ a13=true→E.B ρ a14=true→E.B ρ a15=true→E.B ρ a16=true→E.B ρ a17=true→E.B ρ a18=true→E.B ρ a19=true→E.B ρ a20=true→E.B ρ a21=true→E.B ρ a22=true→E.B ρ d=true):Tr (.imp (.and a0 (.and a1 (.and a2 (.and a3 (.and a4 (.and a5 (.and a6 (.and a7 (.and a8 (.and a9 (.and a10 (.and a11 (.and a12 (.and a13 (.and a14 (.and a15 (.and a16 (.and a17 (.and a18 (.and a19 (.and a20 (.and a21 a22)))))))))))))))))))))) d):=fun ρ=>by
 rw [sm_B_imp]
 simp only [sm_B_and]
 rintro ⟨p0,p1,p2,p3,p4,p5,p6,p7,p8,p9,p10,p11,p12,p13,p14,p15,p16,p17,p18,p19,p20,p21,p22⟩
 exact h ρ p0 p1 p2 p3 p4 p5 p6 p7 p8 p9 p10 p11 p12 p13 p14 p15 p16 p17 p18 p19 p20 p21 p22
theorem ii24 {a0 a1 a2 a3 a4 a5 a6 a7 a8 a9 a10 a11 a12 a13 a14 a15 a16 a17 a18 a19 a20 a21 a22 a23 d:E} (h:∀ ρ:Env,E.B ρ a0=true→E.B ρ a1=true→E.B ρ a2=true→E.B ρ a3=true→E.B ρ a4=true→E.B ρ a5=true→E.B ρ a6=true→E.B ρ a7=true→E.B ρ a8=true→E.B ρ a9=true→E.B ρ a10=true→E.B ρ a11=true→E.B ρ a12=true→E.B ρ a13=true→E.B ρ a14=true→E.B ρ a15=true→E.B ρ a16=true→E.B ρ a17=true→E.B ρ a18=true→E.B ρ a19=true→E.B ρ a20=true→E.B ρ a21=true→E.B ρ a22=true→E.B ρ a23=true→E.B ρ d=true):Tr (.imp (.and a0 (.and a1 (.and a2 (.and a3 (.and a4 (.and a5 (.and a6 (.and a7 (.and a8 (.and a9 (.and a10 (.and a11 (.and a12 (.and a13 (.and a14 (.and a15 (.and a16 (.and a17 (.and a18 (.and a19 (.and a20 (.and a21 (.and a22 a23))))))))))))))))))))))) d):=fun ρ=>by
 rw [sm_B_imp]
 simp only [sm_B_and]
 rintro ⟨p0,p1,p2,p3,p4,p5,p6,p7,p8,p9,p10,p11,p12,p13,p14,p15,p16,p17,p18,p19,p20,p21,p22,p23⟩
 exact h ρ p0 p1 p2 p3 p4 p5 p6 p7 p8 p9 p10 p11 p12 p13 p14 p15 p16 p17 p18 p19 p20 p21 p22 p23
theorem ii25 {a0 a1 a2 a3 a4 a5 a6 a7 a8 a9 a10 a11 a12 a13 a14 a15 a16 a17 a18 a19 a20 a21 a22 a23 a24 d:E} (h:∀ ρ:Env,E.B ρ a0=true→E.B ρ a1=true→E.B ρ a2=true→E.B ρ a3=true→E.B ρ a4=true→E.B ρ a5=true→E.B ρ a6=true→E.B ρ a7=true→E.B ρ a8=true→E.B ρ a9=true→E.B ρ a10=true→E.B ρ a11=true→E.B ρ a12=true→E.B ρ a13=true→E.B ρ a14=true→E.B ρ a15=true→E.B ρ a16=true→E.B ρ a17=true→E.B ρ a18=true→E.B ρ a19=true→E.B ρ a20=true→E.B ρ a21=true→E.B ρ a22=true→E.B ρ a23=true→E.B ρ a24=true→E.B ρ d=true):Tr (.imp (.and a0 (.and a1 (.and a2 (.and a3 (.and a4 (.and a5 (.and a6 (.and a7 (.and a8 (.and a9 (.and a10 (.and a11 (.and a12 (.and a13 (.and a14 (.and a15 (.and a16 (.and a17 (.and a18 (.and a19 (.and a20 (.and a21 (.and a22 (.and a23 a24)))))))))))))))))))))))) d):=fun ρ=>by
 rw [sm_B_imp]
 simp only [sm_B_and]
 rintro ⟨p0,p1,p2,p3,p4,p5,p6,p7,p8,p9,p10,p11,p12,p13,p14,p15,p16,p17,p18,p19,p20,p21,p22,p23,p24⟩
 exact h ρ p0 p1 p2 p3 p4 p5 p6 p7 p8 p9 p10 p11 p12 p13 p14 p15 p16 p17 p18 p19 p20 p21 p22 p23 p24
theorem ii26 {a0 a1 a2 a3 a4 a5 a6 a7 a8 a9 a10 a11 a12 a13 a14 a15 a16 a17 a18 a19 a20 a21 a22 a23 a24 a25 d:E} (h:∀ ρ:Env,E.B ρ a0=true→E.B ρ a1=true→E.B ρ a2=true→E.B ρ a3=true→E.B ρ a4=true→E.B ρ a5=true→E.B ρ a6=true→E.B ρ a7=true→E.B ρ a8=true→E.B ρ a9=true→E.B ρ a10=true→E.B ρ a11=true→E.B ρ a12=true→E.B ρ a13=true→E.B ρ a14=true→E.B ρ a15=true→E.B ρ a16=true→E.B ρ a17=true→E.B ρ a18=true→E.B ρ a19=true→E.B ρ a20=true→E.B ρ a21=true→E.B ρ a22=true→E.B ρ a23=true→E.B ρ a24=true→E.B ρ a25=true→E.B ρ d=true):Tr (.imp (.and a0 (.and a1 (.and a2 (.and a3 (.and a4 (.and a5 (.and a6 (.and a7 (.and a8 (.and a9 (.and a10 (.and a11 (.and a12 (.and a13 (.and a14 (.and a15 (.and a16 (.and a17 (.and a18 (.and a19 (.and a20 (.and a21 (.and a22 (.and a23 (.and a24 a25))))))))))))))))))))))))) d):=fun ρ=>by
 rw [sm_B_imp]
 simp only [sm_B_and]
 rintro ⟨p0,p1,p2,p3,p4,p5,p6,p7,p8,p9,p10,p11,p12,p13,p14,p15,p16,p17,p18,p19,p20,p21,p22,p23,p24,p25⟩
 exact h ρ p0 p1 p2 p3 p4 p5 p6 p7 p8 p9 p10 p11 p12 p13 p14 p15 p16 p17 p18 p19 p20 p21 p22 p23 p24 p25
theorem ii27 {a0 a1 a2 a3 a4 a5 a6 a7 a8 a9 a10 a11 a12 a13 a14 a15 a16 a17 a18 a19 a20 a21 a22 a23 a24 a25 a26 d:E} (h:∀ ρ:Env,E.B ρ a0=true→E.B ρ a1=true→E.B ρ a2=true→E.B ρ a3=true→E.B ρ a4=true→E.B ρ a5=true→E.B ρ a6=true→E.B ρ a7=true→E.B ρ a8=true→E.B ρ a9=true→E.B ρ a10=true→E.B ρ a11=true→E.B ρ a12=true→E.B ρ a13=true→E.B ρ a14=true→E.B ρ a15=true→E.B ρ a16=true→E.B ρ a17=true→E.B ρ a18=true→E.B ρ a19=true→E.B ρ a20=true→E.B ρ a21=true→E.B ρ a22=true→E.B ρ a23=true→E.B ρ a24=true→E.B ρ a25=true→E.B ρ a26=true→E.B ρ d=true):Tr (.imp (.and a0 (.and a1 (.and a2 (.and a3 (.and a4 (.and a5 (.and a6 (.and a7 (.and a8 (.and a9 (.and a10 (.and a11 (.and a12 (.and a13 (.and a14 (.and a15 (.and a16 (.and a17 (.and a18 (.and a19 (.and a20 (.and a21 (.and a22 (.and a23 (.and a24 (.and a25 a26)))))))))))))))))))))))))) d):=fun ρ=>by
 rw [sm_B_imp]
 simp only [sm_B_and]
 rintro ⟨p0,p1,p2,p3,p4,p5,p6,p7,p8,p9,p10,p11,p12,p13,p14,p15,p16,p17,p18,p19,p20,p21,p22,p23,p24,p25,p26⟩
 exact h ρ p0 p1 p2 p3 p4 p5 p6 p7 p8 p9 p10 p11 p12 p13 p14 p15 p16 p17 p18 p19 p20 p21 p22 p23 p24 p25 p26
theorem ii28 {a0 a1 a2 a3 a4 a5 a6 a7 a8 a9 a10 a11 a12 a13 a14 a15 a16 a17 a18 a19 a20 a21 a22 a23 a24 a25 a26 a27 d:E} (h:∀ ρ:Env,E.B ρ a0=true→E.B ρ a1=true→E.B ρ a2=true→E.B ρ a3=true→E.B ρ a4=true→E.B ρ a5=true→E.B ρ a6=true→E.B ρ a7=true→E.B ρ a8=true→E.B ρ a9=true→E.B ρ a10=true→E.B ρ a11=true→E.B ρ a12=true→E.B ρ a13=true→E.B ρ a14=true→E.B ρ a15=true→E.B ρ a16=true→E.B ρ a17=true→E.B ρ a18=true→E.B ρ a19=true→E.B ρ a20=true→E.B ρ a21=true→E.B ρ a22=true→E.B ρ a23=true→E.B ρ a24=true→E.B ρ a25=true→E.B ρ a26=true→E.B ρ a27=true→E.B ρ d=true):Tr (.imp (.and a0 (.and a1 (.and a2 (.and a3 (.and a4 (.and a5 (.and a6 (.and a7 (.and a8 (.and a9 (.and a10 (.and a11 (.and a12 (.and a13 (.and a14 (.and a15 (.and a16 (.and a17 (.and a18 (.and a19 (.and a20 (.and a21 (.and a22 (.and a23 (.and a24 (.and a25 (.and a26 a27))))))))))))))))))))))))))) d):=fun ρ=>by
 rw [sm_B_imp]
 simp only [sm_B_and]
 rintro ⟨p0,p1,p2,p3,p4,p5,p6,p7,p8,p9,p10,p11,p12,p13,p14,p15,p16,p17,p18,p19,p20,p21,p22,p23,p24,p25,p26,p27⟩
 exact h ρ p0 p1 p2 p3 p4 p5 p6 p7 p8 p9 p10 p11 p12 p13 p14 p15 p16 p17 p18 p19 p20 p21 p22 p23 p24 p25 p26 p27
theorem ii29 {a0 a1 a2 a3 a4 a5 a6 a7 a8 a9 a10 a11 a12 a13 a14 a15 a16 a17 a18 a19 a20 a21 a22 a23 a24 a25 a26 a27 a28 d:E} (h:∀ ρ:Env,E.B ρ a0=true→E.B ρ a1=true→E.B ρ a2=true→E.B ρ a3=true→E.B ρ a4=true→E.B ρ a5=true→E.B ρ a6=true→E.B ρ a7=true→E.B ρ a8=true→E.B ρ a9=true→E.B ρ a10=true→E.B ρ a11=true→E.B ρ a12=true→E.B ρ a13=true→E.B ρ a14=true→E.B ρ a15=true→E.B ρ a16=true→E.B ρ a17=true→E.B ρ a18=true→E.B ρ a19=true→E.B ρ a20=true→E.B ρ a21=true→E.B ρ a22=true→E.B ρ a23=true→E.B ρ a24=true→E.B ρ a25=true→E.B ρ a26=true→E.B ρ a27=true→E.B ρ a28=true→E.B ρ d=true):Tr (.imp (.and a0 (.and a1 (.and a2 (.and a3 (.and a4 (.and a5 (.and a6 (.and a7 (.and a8 (.and a9 (.and a10 (.and a11 (.and a12 (.and a13 (.and a14 (.and a15 (.and a16 (.and a17 (.and a18 (.and a19 (.and a20 (.and a21 (.and a22 (.and a23 (.and a24 (.and a25 (.and a26 (.and a27 a28)))))))))))))))))))))))))))) d):=fun ρ=>by
 rw [sm_B_imp]
 simp only [sm_B_and]
 rintro ⟨p0,p1,p2,p3,p4,p5,p6,p7,p8,p9,p10,p11,p12,p13,p14,p15,p16,p17,p18,p19,p20,p21,p22,p23,p24,p25,p26,p27,p28⟩
 exact h ρ p0 p1 p2 p3 p4 p5 p6 p7 p8 p9 p10 p11 p12 p13 p14 p15 p16 p17 p18 p19 p20 p21 p22 p23 p24 p25 p26 p27 p28
theorem ii30 {a0 a1 a2 a3 a4 a5 a6 a7 a8 a9 a10 a11 a12 a13 a14 a15 a16 a17 a18 a19 a20 a21 a22 a23 a24 a25 a26 a27 a28 a29 d:E} (h:∀ ρ:Env,E.B ρ a0=true→E.B ρ a1=true→E.B ρ a2=true→E.B ρ a3=true→E.B ρ a4=true→E.B ρ a5=true→E.B ρ a6=true→E.B ρ a7=true→E.B ρ a8=true→E.B ρ a9=true→E.B ρ a10=true→E.B ρ a11=true→E.B ρ a12=true→E.B ρ a13=true→E.B ρ a14=true→E.B ρ a15=true→E.B ρ a16=true→E.B ρ a17=true→E.B ρ a18=true→E.B ρ a19=true→E.B ρ a20=true→E.B ρ a21=true→E.B ρ a22=true→E.B ρ a23=true→E.B ρ a24=true→E.B ρ a25=true→E.B ρ a26=true→E.B ρ a27=true→E.B ρ a28=true→E.B ρ a29=true→E.B ρ d=true):Tr (.imp (.and a0 (.and a1 (.and a2 (.and a3 (.and a4 (.and a5 (.and a6 (.and a7 (.and a8 (.and a9 (.and a10 (.and a11 (.and a12 (.and a13 (.and a14 (.and a15 (.and a16 (.and a17 (.and a18 (.and a19 (.and a20 (.and a21 (.and a22 (.and a23 (.and a24 (.and a25 (.and a26 (.and a27 (.and a28 a29))))))))))))))))))))))))))))) d):=fun ρ=>by
 rw [sm_B_imp]
 simp only [sm_B_and]
 rintro ⟨p0,p1,p2,p3,p4,p5,p6,p7,p8,p9,p10,p11,p12,p13,p14,p15,p16,p17,p18,p19,p20,p21,p22,p23,p24,p25,p26,p27,p28,p29⟩
 exact h ρ p0 p1 p2 p3 p4 p5 p6 p7 p8 p9 p10 p11 p12 p13 p14 p15 p16 p17 p18 p19 p20 p21 p22 p23 p24 p25 p26 p27 p28 p29
theorem ii31 {a0 a1 a2 a3 a4 a5 a6 a7 a8 a9 a10 a11 a12 a13 a14 a15 a16 a17 a18 a19 a20 a21 a22 a23 a24 a25 a26 a27 a28 a29 a30 d:E} (h:∀ ρ:Env,E.B ρ a0=true→E.B ρ a1=true→E.B ρ a2=true→E.B ρ a3=true→E.B ρ a4=true→E.B ρ a5=true→E.B ρ a6=true→E.B ρ a7=true→E.B ρ a8=true→E.B ρ a9=true→E.B ρ a10=true→E.B ρ a11=true→E.B ρ a12=true→E.B ρ a13=true→E.B ρ a14=true→E.B ρ a15=true→E.B ρ a16=true→E.B ρ a17=true→E.B ρ a18=true→E.B ρ a19=true→E.B ρ a20=true→E.B ρ a21=true→E.B ρ a22=true→E.B ρ a23=true→E.B ρ a24=true→E.B ρ a25=true→E.B ρ a26=true→E.B ρ a27=true→E.B ρ a28=true→E.B ρ a29=true→E.B ρ a30=true→E.B ρ d=true):Tr (.imp (.and a0 (.and a1 (.and a2 (.and a3 (.and a4 (.and a5 (.and a6 (.and a7 (.and a8 (.and a9 (.and a10 (.and a11 (.and a12 (.and a13 (.and a14 (.and a15 (.and a16 (.and a17 (.and a18 (.and a19 (.and a20 (.and a21 (.and a22 (.and a23 (.and a24 (.and a25 (.and a26 (.and a27 (.and a28 (.and a29 a30)))))))))))))))))))))))))))))) d):=fun ρ=>by
 rw [sm_B_imp]
 simp only [sm_B_and]
 rintro ⟨p0,p1,p2,p3,p4,p5,p6,p7,p8,p9,p10,p11,p12,p13,p14,p15,p16,p17,p18,p19,p20,p21,p22,p23,p24,p25,p26,p27,p28,p29,p30⟩
 exact h ρ p0 p1 p2 p3 p4 p5 p6 p7 p8 p9 p10 p11 p12 p13 p14 p15 p16 p17 p18 p19 p20 p21 p22 p23 p24 p25 p26 p27 p28 p29 p30
theorem ii33 {a0 a1 a2 a3 a4 a5 a6 a7 a8 a9 a10 a11 a12 a13 a14 a15 a16 a17 a18 a19 a20 a21 a22 a23 a24 a25 a26 a27 a28 a29 a30 a31 a32 d:E} (h:∀ ρ:Env,E.B ρ a0=true→E.B ρ a1=true→E.B ρ a2=true→E.B ρ a3=true→E.B ρ a4=true→E.B ρ a5=true→E.B ρ a6=true→E.B ρ a7=true→E.B ρ a8=true→E.B ρ a9=true→E.B ρ a10=true→E.B ρ a11=true→E.B ρ a12=true→E.B ρ a13=true→E.B ρ a14=true→E.B ρ a15=true→E.B ρ a16=true→E.B ρ a17=true→E.B ρ a18=true→E.B ρ a19=true→E.B ρ a20=true→E.B ρ a21=true→E.B ρ a22=true→E.B ρ a23=true→E.B ρ a24=true→E.B ρ a25=true→E.B ρ a26=true→E.B ρ a27=true→E.B ρ a28=true→E.B ρ a29=true→E.B ρ a30=true→E.B ρ a31=true→E.B ρ a32=true→E.B ρ d=true):Tr (.imp (.and a0 (.and a1 (.and a2 (.and a3 (.and a4 (.and a5 (.and a6 (.and a7 (.and a8 (.and a9 (.and a10 (.and a11 (.and a12 (.and a13 (.and a14 (.and a15 (.and a16 (.and a17 (.and a18 (.and a19 (.and a20 (.and a21 (.and a22 (.and a23 (.and a24 (.and a25 (.and a26 (.and a27 (.and a28 (.and a29 (.and a30 (.and a31 a32)))))))))))))))))))))))))))))))) d):=fun ρ=>by
 rw [sm_B_imp]
 simp only [sm_B_and]
 rintro ⟨p0,p1,p2,p3,p4,p5,p6,p7,p8,p9,p10,p11,p12,p13,p14,p15,p16,p17,p18,p19,p20,p21,p22,p23,p24,p25,p26,p27,p28,p29,p30,p31,p32⟩
 exact h ρ p0 p1 p2 p3 p4 p5 p6 p7 p8 p9 p10 p11 p12 p13 p14 p15 p16 p17 p18 p19 p20 p21 p22 p23 p24 p25 p26 p27 p28 p29 p30 p31 p32
theorem ii35 {a0 a1 a2 a3 a4 a5 a6 a7 a8 a9 a10 a11 a12 a13 a14 a15 a16 a17 a18 a19 a20 a21 a22 a23 a24 a25 a26 a27 a28 a29 a30 a31 a32 a33 a34 d:E} (h:∀ ρ:Env,E.B ρ a0=true→E.B ρ a1=true→E.B ρ a2=true→E.B ρ a3=true→E.B ρ a4=true→E.B ρ a5=true→E.B ρ a6=true→E.B ρ a7=true→E.B ρ a8=true→E.B ρ a9=true→E.B ρ a10=true→E.B ρ a11=true→E.B ρ a12=true→E.B ρ a13=true→E.B ρ a14=true→E.B ρ a15=true→E.B ρ a16=true→E.B ρ a17=true→E.B ρ a18=true→E.B ρ a19=true→E.B ρ a20=true→E.B ρ a21=true→E.B ρ a22=true→E.B ρ a23=true→E.B ρ a24=true→E.B ρ a25=true→E.B ρ a26=true→E.B ρ a27=true→E.B ρ a28=true→E.B ρ a29=true→E.B ρ a30=true→E.B ρ a31=true→E.B ρ a32=true→E.B ρ a33=true→E.B ρ a34=true→E.B ρ d=true):Tr (.imp (.and a0 (.and a1 (.and a2 (.and a3 (.and a4 (.and a5 (.and a6 (.and a7 (.and a8 (.and a9 (.and a10 (.and a11 (.and a12 (.and a13 (.and a14 (.and a15 (.and a16 (.and a17 (.and a18 (.and a19 (.and a20 (.and a21 (.and a22 (.and a23 (.and a24 (.and a25 (.and a26 (.and a27 (.and a28 (.and a29 (.and a30 (.and a31 (.and a32 (.and a33 a34)))))))))))))))))))))))))))))))))) d):=fun ρ=>by
 rw [sm_B_imp]
 simp only [sm_B_and]
 rintro ⟨p0,p1,p2,p3,p4,p5,p6,p7,p8,p9,p10,p11,p12,p13,p14,p15,p16,p17,p18,p19,p20,p21,p22,p23,p24,p25,p26,p27,p28,p29,p30,p31,p32,p33,p34⟩
 exact h ρ p0 p1 p2 p3 p4 p5 p6 p7 p8 p9 p10 p11 p12 p13 p14 p15 p16 p17 p18 p19 p20 p21 p22 p23 p24 p25 p26 p27 p28 p29 p30 p31 p32 p33 p34
theorem ii45 {a0 a1 a2 a3 a4 a5 a6 a7 a8 a9 a10 a11 a12 a13 a14 a15 a16 a17 a18 a19 a20 a21 a22 a23 a24 a25 a26 a27 a28 a29 a30 a31 a32 a33 a34 a35 a36 a37 a38 a39 a40 a41 a42 a43 a44 d:E} (h:∀ ρ:Env,E.B ρ a0=true→E.B ρ a1=true→E.B ρ a2=true→E.B ρ a3=true→E.B ρ a4=true→E.B ρ a5=true→E.B ρ a6=true→E.B ρ a7=true→E.B ρ a8=true→E.B ρ a9=true→E.B ρ a10=true→E.B ρ a11=true→E.B ρ a12=true→E.B ρ a13=true→E.B ρ a14=true→E.B ρ a15=true→E.B ρ a16=true→E.B ρ a17=true→E.B ρ a18=true→E.B ρ a19=true→E.B ρ a20=true→E.B ρ a21=true→E.B ρ a22=true→E.B ρ a23=true→E.B ρ a24=true→E.B ρ a25=true→E.B ρ a26=true→E.B ρ a27=true→E.B ρ a28=true→E.B ρ a29=true→E.B ρ a30=true→E.B ρ a31=true→E.B ρ a32=true→E.B ρ a33=true→E.B ρ a34=true→E.B ρ a35=true→E.B ρ a36=true→E.B ρ a37=true→E.B ρ a38=true→E.B ρ a39=true→E.B ρ a40=true→E.B ρ a41=true→E.B ρ a42=true→E.B ρ a43=true→E.B ρ a44=true→E.B ρ d=true):Tr (.imp (.and a0 (.and a1 (.and a2 (.and a3 (.and a4 (.and a5 (.and a6 (.and a7 (.and a8 (.and a9 (.and a10 (.and a11 (.and a12 (.and a13 (.and a14 (.and a15 (.and a16 (.and a17 (.and a18 (.and a19 (.and a20 (.and a21 (.and a22 (.and a23 (.and a24 (.and a25 (.and a26 (.and a27 (.and a28 (.and a29 (.and a30 (.and a31 (.and a32 (.and a33 (.and a34 (.and a35 (.and a36 (.and a37 (.and a38 (.and a39 (.and a40 (.and a41 (.and a42 (.and a43 a44)))))))))))))))))))))))))))))))))))))))))))) d):=fun ρ=>by
 rw [sm_B_imp]
 simp only [sm_B_and]
 rintro ⟨p0,p1,p2,p3,p4,p5,p6,p7,p8,p9,p10,p11,p12,p13,p14,p15,p16,p17,p18,p19,p20,p21,p22,p23,p24,p25,p26,p27,p28,p29,p30,p31,p32,p33,p34,p35,p36,p37,p38,p39,p40,p41,p42,p43,p44⟩
 exact h ρ p0 p1 p2 p3 p4 p5 p6 p7 p8 p9 p10 p11 p12 p13 p14 p15 p16 p17 p18 p19 p20 p21 p22 p23 p24 p25 p26 p27 p28 p29 p30 p31 p32 p33 p34 p35 p36 p37 p38 p39 p40 p41 p42 p43 p44
theorem ii46 {a0 a1 a2 a3 a4 a5 a6 a7 a8 a9 a10 a11 a12 a13 a14 a15 a16 a17 a18 a19 a20 a21 a22 a23 a24 a25 a26 a27 a28 a29 a30 a31 a32 a33 a34 a35 a36 a37 a38 a39 a40 a41 a42 a43 a44 a45 d:E} (h:∀ ρ:Env,E.B ρ a0=true→E.B ρ a1=true→E.B ρ a2=true→E.B ρ a3=true→E.B ρ a4=true→E.B ρ a5=true→E.B ρ a6=true→E.B ρ a7=true→E.B ρ a8=true→E.B ρ a9=true→E.B ρ a10=true→E.B ρ a11=true→E.B ρ a12=true→E.B ρ a13=true→E.B ρ a14=true→E.B ρ a15=true→E.B ρ a16=true→E.B ρ a17=true→E.B ρ a18=true→E.B ρ a19=true→E.B ρ a20=true→E.B ρ a21=true→E.B ρ a22=true→E.B ρ a23=true→E.B ρ a24=true→E.B ρ a25=true→E.B ρ a26=true→E.B ρ a27=true→E.B ρ a28=true→E.B ρ a29=true→E.B ρ a30=true→E.B ρ a31=true→E.B ρ a32=true→E.B ρ a33=true→E.B ρ a34=true→E.B ρ a35=true→E.B ρ a36=true→E.B ρ a37=true→E.B ρ a38=true→E.B ρ a39=true→E.B ρ a40=true→E.B ρ a41=true→E.B ρ a42=true→E.B ρ a43=true→E.B ρ a44=true→E.B ρ a45=true→E.B ρ d=true):Tr (.imp (.and a0 (.and a1 (.and a2 (.and a3 (.and a4 (.and a5 (.and a6 (.and a7 (.and a8 (.and a9 (.and a10 (.and a11 (.and a12 (.and a13 (.and a14 (.and a15 (.and a16 (.and a17 (.and a18 (.and a19 (.and a20 (.and a21 (.and a22 (.and a23 (.and a24 (.and a25 (.and a26 (.and a27 (.and a28 (.and a29 (.and a30 (.and a31 (.and a32 (.and a33 (.and a34 (.and a35 (.and a36 (.and a37 (.and a38 (.and a39 (.and a40 (.and a41 (.and a42 (.and a43 (.and a44 a45))))))))))))))))))))))))))))))))))))))))))))) d):=fun ρ=>by
 rw [sm_B_imp]
 simp only [sm_B_and]
 rintro ⟨p0,p1,p2,p3,p4,p5,p6,p7,p8,p9,p10,p11,p12,p13,p14,p15,p16,p17,p18,p19,p20,p21,p22,p23,p24,p25,p26,p27,p28,p29,p30,p31,p32,p33,p34,p35,p36,p37,p38,p39,p40,p41,p42,p43,p44,p45⟩
 exact h ρ p0 p1 p2 p3 p4 p5 p6 p7 p8 p9 p10 p11 p12 p13 p14 p15 p16 p17 p18 p19 p20 p21 p22 p23 p24 p25 p26 p27 p28 p29 p30 p31 p32 p33 p34 p35 p36 p37 p38 p39 p40 p41 p42 p43 p44 p45
def ii (e:E):SV:=.int .i64 e
def gone:Blk:=⟨true,.gone⟩
def at0 (b:Nat):SV:=.ptr b ⟨0,0,.int 0⟩
def eEq (a b:E):E:=.cmp .eql a b
def pl (a b:E):E:=.fn 6 (.pr a b)
def mi (a b:E):E:=.fn 7 (.pr a b)
def tm (a b:E):E:=.fn 8 (.pr a b)
def ln (x:E):E:=.fn 0 x
def prs:List E→E
 | []=>.int 0
 | [a]=>a
 | a::l=>.pr a (prs l)
def fnE (f:Nat) (l:List E):E:=.fn f (prs l)
def nt (l i:E):E:=.fn 1 (.pr l i)
def rows (w:Int) (l:E):E:=.fn 9 (.pr l (.int w))
def emp:E:=.fn 10 (.int 0)
def kI:List CK:=[.int .i64]
def kO:List CK:=[.int .i64,.int .i64,.int .i64,.int .i64,.int .i64,.int .i64,.int .i64,.int .i64,.int .i64,.bool,.bool,.bool]
def kT:List CK:=[.int .i64,.int .i64]
def kIt:List CK:=[.int .i64,.int .i64,.int .i64,.int .i64,.slc kT]
def kS:List CK:=[.int .i64,.int .i64,.int .i64,.int .i64,.int .i64,.slc kI,.slc kI,.slc kI,.slc kI,.bool,.bool,.bool,.int .i64,.int .i64]
def kB:List CK:=.slc kO::(kS++(kS++[.slc kIt,.slc kIt,.slc kI,.slc kT,.int .i64,.int .i64,.int .i64,.int .i64,.int .i64]))
def cellV (e:E):CK→SV
 | .int k=>.int k e
 | .bool=>.bool e
 | .str=>.str e
 | .slc ks=>.bsl ks e
def cellsV (e:E):Nat→List CK→List SV
 | _,[]=>[]
 | j,c::cs=>cellV (nt e (.int (Int.ofNat j))) c::cellsV e (Nat.succ j) cs
def argX (e:E):SV:=.agg (cellsV e 0 kB)
def boxX (e:E):Blk:=⟨true,.cells (cellsV e 0 kB) (.int 38) 34⟩
def cl (e:E) (j:Int):E:=nt e (.int j)
def tyB (e:E):E:=.fn 116 e
def smB (e:E):E:=.fn 117 e
def pcX (e:E):List E:=[tyB e,smB e]
/-- an index that looks for what is right -/
def fun0 (f : FuncId) : SV := .func (.func f) [] []
def rT:E:=rows 2 (eV 0)
def spTF:Pact:=⟨114,[.bsl kT (eV 0),fun0 103],⟨1,0,.nil,[eLe rT (.int 1000)]⟩,[(ii (eV 1),⟨2,0,.nil,[.iff (eLe (.int 0) (eV 1)) (.not (fnE 101 [eV 0,rT])),eLe (.int (-1)) (eV 1)]⟩)]⟩
def tTF:Tmpl:=⟨tmSlots 19 [(0,.bsl kT (eV 0)),(1,fun0 103),(6,.bsl kT (eV 0)),(7,ii rT),(8,ii (eV 4))],⟨5,0,.nil,[eLe rT (.int 1000),eLe (.int 0) (eV 4),eLe (eV 4) rT,fnE 101 [eV 0,eV 4]]⟩,mi rT (eV 4)⟩
def annTF:List Ann:=[⟨114,0,[tTF],none⟩]
/-- an item: its cells, of the queue -/
def itE : List E := [eV 0, eV 1, eV 2, eV 3, eV 4, eV 5]
def itV:SV:=.agg [ii (eV 0),ii (eV 1),ii (eV 2),ii (eV 3),.bsl kT (eV 4)]
def spFine:Pact:=⟨78,[itV,.bool (eV 5)],⟨6,0,.nil,[]⟩,[(.bool (eV 6),⟨7,0,.nil,[.iff (eV 6) (fnE 102 itE)]⟩)]⟩
def rI:E:=rows 5 (eV 0)
def spIF (g:FuncId) (q:Bool):Pact:=⟨101,[.bsl kIt (eV 0),fun0 g],⟨1,0,.nil,[eLe rI (.int 1000)]⟩,[(ii (eV 1),⟨2,0,.nil,[.iff (eLe (.int 0) (eV 1)) (.not (fnE 103 [eV 0,.bool q,rI])),eLe (.int (-1)) (eV 1)]⟩)]⟩
def tIF (g:FuncId) (q:Bool):Tmpl:=⟨tmSlots 19 [(0,.bsl kIt (eV 0)),(1,fun0 g),(6,.bsl kIt (eV 0)),(7,ii rI),(8,ii (eV 4))],⟨5,0,.nil,[eLe rI (.int 1000),eLe (.int 0) (eV 4),eLe (eV 4) rI,fnE 103 [eV 0,.bool q,eV 4]]⟩,mi rI (eV 4)⟩
def annIF (g:FuncId) (q:Bool):List Ann:=[⟨101,0,[tIF g q],none⟩]
/-- whether a list has a number -/
def nI : E := ln (eV 0)
def f114 (l k:E):E:=fnE 114 [l,k]
def spIx:Pact:=⟨84,[.bsl kI (eV 0),ii (eV 1)],⟨2,0,.nil,[eLe nI (.int 1000)]⟩,[(ii (eV 2),⟨3,0,.nil,[.iff (eLe (.int 0) (eV 2)) (f114 (eV 0) (eV 1)),eLe (.int (-1)) (eV 2)]⟩)]⟩
def tIx:Tmpl:=⟨tmSlots 19 [(0,.bsl kI (eV 0)),(1,ii (eV 1)),(6,.bsl kI (eV 0)),(7,ii nI),(8,ii (eV 4))],⟨5,0,.nil,[eLe nI (.int 1000),eLe (.int 0) (eV 4),eLe (eV 4) nI,eEq (fnE 131 [eV 0,eV 1,eV 4]) (.int 0)]⟩,mi nI (eV 4)⟩
def annIx:List Ann:=[⟨84,0,[tIx],none⟩]
/-- an object that is right: 0 to 8 its numbers -/
def obV : SV := .agg ((List.range 9).map (fun j => ii (eV j)) ++ [.bool (eV 9), .bool (eV 10), .bool (eV 11)])
def spOV (f:FuncId):Pact:=⟨f,[obV],⟨12,0,.nil,[]⟩,[(.bool (eV 12),⟨13,0,.nil,[.iff (eV 12) (fnE 137 ((List.range 9).map eV))]⟩)]⟩
/-- all objects have a place: box, owners, the cell with them -/
def put (c : Nat) : SV := .func (.func 105) [] [at0 c]
def mapB (e:E):Blk:=⟨true,.mapl .i64 (.int .i64) e⟩
def heapP (W:Nat) (m:E) (more:List Blk):T Blk:=heapL (List.replicate W gone++[boxX (eV 0),mapB m,⟨true,.cells [.map (W + 1)] (.int 1) 153⟩]++more)
def slotsP (W:Nat):List (Nat × SV):=[(1,at0 W),(3,at0 (W + 2)),(4,put (W + 2))]
def f104 (m p q i:E):E:=fnE 104 [m,eV 0,p,q,i]
def t0P:Tmpl:=⟨tmSlots 138 (slotsP 8++[(21,ii (eV 8))]),⟨10,11,heapP 8 (eV 9) [],pcX (eV 0)++[eLe (.int 0) (eV 8),eLe (eV 8) (.int 2),f104 (eV 9) (eV 8) (.int 0) (.int 0)]⟩,mi (.int 2) (eV 8)⟩
def ptrs (W p:Nat):SV:=.agg ((List.range 4).map fun q=>.ptr W ⟨6 + 14 * p + q,0,.int 0⟩)
def t2P (p:Nat):Tmpl:=⟨tmSlots 138 (slotsP 8++[(5,ii (eV 8)),(21,ii (eV 8)),(27,ptrs 8 p),(28,ii (eV 16))]),⟨18,16,heapP 8 (eV 17) [],
 pcX (eV 0)++[eEq (eV 8) (.int (Int.ofNat p)),eLe (.int 0) (eV 16),eLe (eV 16) (.int 4),f104 (eV 17) (eV 8) (eV 16) (.int 0)]⟩,mi (.int 4) (eV 16)⟩
def t4P (p:Nat):Tmpl:=⟨tmSlots 138 (slotsP 8++[(5,ii (eV 8)),(21,ii (eV 8)),(27,ptrs 8 p),(28,ii (eV 16)),(33,.bsl kI (eV 28)),(34,ii (ln (eV 28))),(35,ii (eV 24))]),⟨29,24,heapP 8 (eV 25) [],
 pcX (eV 0)++[eEq (eV 8) (.int (Int.ofNat p)),eLe (.int 0) (eV 16),eLt (eV 16) (.int 4),eLe (.int 0) (eV 24),eLe (eV 24) (ln (eV 28)),eLe (ln (eV 28)) (.int 40),fnE 109 [eV 28,eV 0,eV 8,eV 16],f104 (eV 25) (eV 8) (eV 16) (eV 24)]⟩,mi (ln (eV 28)) (eV 24)⟩
def nSt:E:=rows 5 (cl (eV 0) 29)
def nOb:E:=rows 12 (cl (eV 0) 0)
def t6P:Tmpl:=⟨tmSlots 138 (slotsP 32++[(10,.map 35),(49,.bsl kIt (cl (eV 0) 29)),(50,ii nSt),(51,ii (eV 32))]),⟨35,36,heapP 32 (eV 33) [mapB (eV 34)],
 pcX (eV 0)++[eLe nSt (.int 20),eLe (.int 0) (eV 32),eLe (eV 32) nSt,fnE 105 [eV 33,eV 0,eV 32],fnE 106 [eV 34,eV 0,eV 32]]⟩,mi nSt (eV 32)⟩
def t8P:Tmpl:=⟨tmSlots 138 (slotsP 40++[(10,.map 43),(72,.bsl kO (cl (eV 0) 0)),(73,ii nOb),(74,ii (eV 40))]),⟨43,44,heapP 40 (eV 41) [mapB (eV 42)],
 pcX (eV 0)++[eLe nOb (.int 30),eLe (.int 0) (eV 40),eLe (eV 40) nOb,fnE 105 [eV 41,eV 0,nSt],fnE 106 [eV 42,eV 0,nSt],fnE 107 [eV 0,eV 40]]⟩,mi nOb (eV 40)⟩
def annPl:List Ann:=[⟨80,0,[t0P],none⟩,⟨80,2,[t2P 0,t2P 1],none⟩,⟨80,4,[t4P 0,t4P 1],none⟩,⟨80,6,[t6P],none⟩,⟨80,8,[t8P],none⟩]
def spPl:Pact:=⟨80,[argX (eV 0)],⟨1,0,.nil,pcX (eV 0)⟩,[(.bool (eV 1),⟨2,0,.nil,[.iff (eV 1) (.fn 108 (eV 0))]⟩)]⟩
/-- the attackers and the blocks -/
def mapT (e : E) : Blk := ⟨true, .mapl .i64 .bool e⟩
def actE:E:=cl (eV 0) 34
def pcFi:List E:=pcX (eV 0)++[.fn 108 (eV 0),eLe (.int 0) actE,eLe actE (.int 1)]
def spFi:Pact:=⟨81,[argX (eV 0)],⟨1,0,.nil,pcFi⟩,[(.bool (eV 1),⟨2,0,.nil,[.iff (eV 1) (.fn 110 (eV 0))]⟩)]⟩
def heapF (W:Nat):T Blk:=heapL (List.replicate W gone++[boxX (eV 0),mapT (eV (W + 1))])
def slotsF (W:Nat):List (Nat × SV):=[(1,at0 W),(3,.bsl kI (eV (W + 2))),(4,.bsl kI (eV (W + 3))),(5,.map (W + 1))]
def pcF2 (W:Nat):List E:=[fnE 109 [eV (W + 2),eV 0,actE,.int 2],fnE 109 [eV (W + 3),eV 0,mi (.int 1) actE,.int 2],eLe (ln (eV (W + 2))) (.int 40),eLe (ln (eV (W + 3))) (.int 40)]
def nAt:E:=ln (cl (eV 0) 31)
def nBl:E:=rows 2 (cl (eV 0) 32)
def t0F:Tmpl:=⟨tmSlots 85 (slotsF 8++[(25,.bsl kI (cl (eV 0) 31)),(26,ii nAt),(27,ii (eV 8))]),⟨12,10,heapF 8,
 pcFi++pcF2 8++[eLe nAt (.int 30),eLe (.int 0) (eV 8),eLe (eV 8) nAt,fnE 111 [eV 0,eV 8],fnE 113 [eV 9,eV 0,eV 8,.int 0]]⟩,mi nAt (eV 8)⟩
def t2F:Tmpl:=⟨tmSlots 85 (slotsF 16++[(44,.bsl kT (cl (eV 0) 32)),(45,ii nBl),(46,ii (eV 16))]),⟨20,18,heapF 16,
 pcFi++pcF2 16++[eLe nAt (.int 30),eLe nBl (.int 30),eLe (.int 0) (eV 16),eLe (eV 16) nBl,fnE 111 [eV 0,nAt],fnE 112 [eV 0,eV 16],fnE 113 [eV 17,eV 0,nAt,eV 16]]⟩,mi nBl (eV 16)⟩
def annFi:List Ann:=[⟨81,0,[t0F],none⟩,⟨81,2,[t2F],none⟩]
/-- the program's valid boards -/
def spV : Pact := ⟨52, [argX (eV 0)], ⟨1, 0, .nil, pcX (eV 0)⟩, [(.bool (eV 1), ⟨2, 0, .nil, [.iff (eV 1) (.fn 115 (eV 0))]⟩)]⟩
def natV:List Nat1:=[specNat (spIF 77 false),specNat (spIF 79 true),specNat spPl,specNat spFi]
/-- the reference: items, seats, counts, where an object is -/
def spIt : Pact := ⟨48, [itV, .bool (eV 5)], ⟨6, 0, .nil, []⟩, [(.bool (eV 6), ⟨7, 0, .nil, [.iff (eV 6) (fnE 102 itE)]⟩)]⟩
def spCt:Pact:=⟨73,[.bsl kI (eV 0),ii (eV 1)],⟨2,0,.nil,[eLe nI (.int 1000)]⟩,[(ii (eV 2),⟨3,0,.nil,[eEq (eV 2) (fnE 121 [eV 0,eV 1]),eLe (.int 0) (eV 2),eLe (eV 2) nI]⟩)]⟩
def spId:Pact:=⟨33,[argX (eV 0),ii (eV 1)],⟨2,0,.nil,pcX (eV 0)⟩,[(ii (eV 2),⟨3,0,.nil,[eEq (eV 2) (fnE 120 [eV 0,eV 1,nOb]),eLe (.int (-1)) (eV 2),eLt (eV 2) nOb]⟩)]⟩
def spPc:Pact:=⟨72,[argX (eV 0),ii (eV 1),ii (eV 2)],⟨3,0,.nil,pcX (eV 0)++[eLe (.int 0) (eV 1),eLe (eV 1) (.int 1)]⟩,[(ii (eV 3),⟨4,0,.nil,[eEq (eV 3) (fnE 122 [eV 0,eV 1,eV 2]),eLe (.int 0) (eV 3),eLe (eV 3) (.int 1000)]⟩)]⟩
def numIt:List E:=[eLe (.int 0) (eV 0),eLe (eV 0) (.int 1),eLe (.int 1) (eV 1),eLe (eV 1) (.int 500),eLe (.int 0) (eV 2),eLe (eV 2) (.int 399),eLe (.int (-1)) (eV 3),eLe (eV 3) (.int 1),eLe (rows 2 (eV 4)) (.int 4),.imp (eLe (.int 0) (eV 3)) (eEq (rows 2 (eV 4)) (.int 0)),.imp (eV 5) (eLe (.int 0) (eV 3))]
def tIt:Tmpl:=⟨tmSlots 108 [(1,.bool (eV 5)),(2,at0 8),(5,ii (eV 8))],⟨9,9,heapL (List.replicate 8 gone++[⟨true,.cells [ii (eV 0),ii (eV 1),ii (eV 2),ii (eV 3),.bsl kT (eV 4)] (.int 5) 77⟩]),
 numIt++[eLe (.int 0) (eV 8),eLe (eV 8) (rows 2 (eV 4)),fnE 101 [eV 4,eV 8]]⟩,mi (rows 2 (eV 4)) (eV 8)⟩
def annIt:List Ann:=[⟨48,0,[tIt],none⟩]
def tCt:Tmpl:=⟨tmSlots 22 [(0,.bsl kI (eV 0)),(1,ii (eV 1)),(5,ii (eV 9)),(6,ii (eV 8))],⟨10,0,.nil,[eLe nI (.int 1000),eLe (.int 0) (eV 8),eLe (eV 8) nI,eEq (eV 9) (fnE 131 [eV 0,eV 1,eV 8]),eLe (.int 0) (eV 9),eLe (eV 9) (eV 8)]⟩,mi nI (eV 8)⟩
def annCt:List Ann:=[⟨73,0,[tCt],none⟩]
def heapX (W:Nat):T Blk:=heapL (List.replicate W gone++[boxX (eV 0)])
def tId:Tmpl:=⟨tmSlots 22 [(1,ii (eV 1)),(2,at0 8),(5,ii (eV 8))],⟨9,9,heapX 8,pcX (eV 0)++[eLe nOb (.int 30),eLe (.int 0) (eV 8),eLe (eV 8) nOb,eEq (fnE 120 [eV 0,eV 1,eV 8]) (.int (-1))]⟩,mi nOb (eV 8)⟩
def annId:List Ann:=[⟨33,0,[tId],none⟩]
def tPc:Tmpl:=⟨tmSlots 56 [(1,ii (eV 1)),(2,ii (eV 2)),(3,at0 16),(7,ii (eV 17)),(10,ii (eV 16))],⟨18,17,heapX 16,pcX (eV 0)++[eLe (.int 0) (eV 1),eLe (eV 1) (.int 1),eLe nSt (.int 20),eLe (.int 0) (eV 16),eLe (eV 16) nSt,
 eEq (eV 17) (pl (fnE 132 [eV 0,eV 1,.int 4,eV 2]) (fnE 133 [eV 0,eV 1,eV 2,eV 16])),eLe (.int 0) (eV 17),eLe (eV 17) (pl (.int 160) (eV 16))]⟩,mi nSt (eV 16)⟩
def annPc:List Ann:=[⟨72,2,[tPc],none⟩]
def t4D:Tmpl:=⟨tmSlots 108 [(1,at0 16),(3,ii (eV 17)),(7,ii (eV 16))],⟨18,17,heapX 16,pcX (eV 0)++[eLe nSt (.int 20),eLe nOb (.int 30),eLe (.int 0) (eV 16),eLe (eV 16) nSt,
 eEq (eV 17) (pl (fnE 134 [eV 0,.int 8]) (fnE 135 [eV 0,eV 16])),eLe (.int 0) (eV 17),eLe (eV 17) (pl (.int 320) (eV 16)),fnE 123 [eV 0,eV 16]]⟩,mi nSt (eV 16)⟩
def t6D:Tmpl:=⟨tmSlots 108 [(1,at0 24),(3,ii (eV 25)),(10,ii (eV 24))],⟨26,25,heapX 24,pcX (eV 0)++[eLe nOb (.int 30),eLe (.int 0) (eV 24),eLe (eV 24) nOb,
 eEq (eV 25) (pl (fnE 134 [eV 0,.int 8]) (fnE 135 [eV 0,nSt])),fnE 123 [eV 0,nSt],fnE 124 [eV 0,eV 24]]⟩,mi nOb (eV 24)⟩
def annFd:List Ann:=[⟨50,4,[t4D],none⟩,⟨50,6,[t6D],none⟩]
def pcA:List E:=pcX (eV 0)++[eLe (.int 0) actE,eLe actE (.int 1),eLe nAt (.int 30),eLe nBl (.int 30)]
def t0R:Tmpl:=⟨tmSlots 94 [(1,at0 8),(3,ii (eV 8))],⟨9,9,heapX 8,pcA++[eLe (.int 0) (eV 8),eLe (eV 8) nAt,fnE 126 [eV 0,eV 8]]⟩,mi nAt (eV 8)⟩
def t2R:Tmpl:=⟨tmSlots 94 [(1,at0 16),(4,ii (eV 16))],⟨17,17,heapX 16,pcA++[eLe (.int 0) (eV 16),eLe (eV 16) nBl,fnE 126 [eV 0,nAt],fnE 127 [eV 0,eV 16]]⟩,mi nBl (eV 16)⟩
def bRow (j:Int):E:=nt (cl (eV 0) 32) (pl (tm (eV 16) (.int 2)) (.int j))
def t4R:Tmpl:=⟨tmSlots 94 [(1,at0 16),(4,ii (eV 16)),(5,at0 24),(6,ii (eV 24))],⟨25,25,heapL (List.replicate 16 gone++[boxX (eV 0)]++List.replicate 7 gone++[⟨true,.cells [ii (bRow 0),ii (bRow 1)] (.int 2) 99⟩]),
 pcA++[eLe (.int 0) (eV 16),eLt (eV 16) nBl,fnE 126 [eV 0,nAt],fnE 127 [eV 0,eV 16],eLe (.int 0) (eV 24),eLe (eV 24) (eV 16),fnE 136 [eV 0,eV 16],fnE 128 [eV 0,eV 16,eV 24]]⟩,mi (eV 16) (eV 24)⟩
def annFr:List Ann:=[⟨51,0,[t0R],none⟩,⟨51,2,[t2R],none⟩,⟨51,4,[t4R],none⟩]
def spFd:Pact:=⟨50,[argX (eV 0)],⟨1,0,.nil,pcX (eV 0)⟩,[(.bool (eV 1),⟨2,0,.nil,[.iff (eV 1) (.fn 125 (eV 0))]⟩)]⟩
def spFr:Pact:=⟨51,[argX (eV 0)],⟨1,0,.nil,pcX (eV 0)++[eLe (.int 0) actE,eLe actE (.int 1)]⟩,[(.bool (eV 1),⟨2,0,.nil,[.iff (eV 1) (.fn 129 (eV 0))]⟩)]⟩
def spBV:Pact:=⟨25,[argX (eV 0)],⟨1,0,.nil,pcX (eV 0)⟩,[(.bool (eV 1),⟨2,0,.nil,[.iff (eV 1) (.fn 130 (eV 0))]⟩)]⟩
def numB:List E:=[eLe (.int 0) actE,eLe actE (.int 1),eLe (.int 0) (cl (eV 0) 33),eLe (cl (eV 0) 33) (.int 1000),eLe (.int 0) (cl (eV 0) 35),eLe (cl (eV 0) 35) (.int 10),eLe (.int (-1)) (cl (eV 0) 36),eLe (cl (eV 0) 36) (.int 1),eLe (.int 0) (cl (eV 0) 37),eLe (cl (eV 0) 37) (.int 2)]
def nQu:E:=rows 5 (cl (eV 0) 30)
def f103 (c:Int) (q:Bool) (n:E):E:=fnE 103 [cl (eV 0) c,.bool q,n]
def tV0:Tmpl:=⟨tmSlots 117 [(1,at0 8),(3,ii (eV 8))],⟨9,9,heapX 8,pcX (eV 0)++numB++[eLe nSt (.int 20),eLe (.int 0) (eV 8),eLe (eV 8) nSt,f103 29 false (eV 8)]⟩,mi nSt (eV 8)⟩
def tV2:Tmpl:=⟨tmSlots 117 [(1,at0 16),(4,ii (eV 16))],⟨17,17,heapX 16,pcX (eV 0)++numB++[eLe nQu (.int 20),f103 29 false nSt,eLe (.int 0) (eV 16),eLe (eV 16) nQu,f103 30 true (eV 16)]⟩,mi nQu (eV 16)⟩
def annBV:List Ann:=[⟨25,0,[tV0],none⟩,⟨25,2,[tV2],none⟩]
/-- cards: effects and triggers are copied -/
def kE : List CK := [.int .i64, .int .i64, .int .i64, .int .i64, .int .i64]
def kTr:List CK:=[.int .i64,.slc kE]
def kC:List CK:=[.str,.int .i64,.int .i64,.int .i64,.int .i64,.int .i64,.int .i64,.int .i64,.int .i64,.int .i64,.int .i64,.slc kE,.slc kTr,.int .i64]
def noS (b:Nat):SV:=.slice b ⟨0,0,.int 0⟩ (.int 0) (.int 0)
def spCl (f:FuncId) (ks:List CK) (w:Int) (t:TypeId):Pact:=⟨f,[.bsl ks (eV 0)],⟨1,0,.nil,[eLe (rows w (eV 0)) (.int 100)]⟩,
 [(.nils,⟨1,0,.nil,[eEq (rows w (eV 0)) (.int 0)]⟩),(.nslice 0 (eV 1) (eV 2),⟨3,1,heapL [⟨true,.flat ks (eV 0) (eV 1) (eV 2) t⟩],[eLe (eV 1) (eV 2),eEq (eV 1) (rows w (eV 0))]⟩)]⟩
def spCE:Pact:=spCl 107 kE 5 159
def spCT:Pact:=spCl 108 kTr 2 71
def cardV (e t:SV):List SV:=.str (eV 0)::((List.range 10).map fun j=>ii (eV (j + 1)))++[e,t,ii (eV 13)]
def argC:SV:=.agg (cardV (.bsl kE (eV 11)) (.bsl kTr (eV 12)))
def flT (x n c:E):Blk:=⟨true,.flat kTr x n c 71⟩
def noT:Blk:=⟨true,.cells [] (.int 0) 71⟩
def spCC:Pact:=⟨82,[argC],⟨14,0,.nil,[fnE 156 [eV 11,eV 12]]⟩,
 [(.agg (cardV (.bsl kE (eV 14)) .nils),⟨15,0,.nil,[]⟩),(.agg (cardV (.bsl kE (eV 14)) (.nslice 0 (eV 16) (eV 17))),⟨18,1,heapL [flT (eV 15) (eV 16) (eV 17)],[eLe (eV 16) (eV 17)]⟩)]⟩
def cardZ (W:Nat):Blk:=⟨true,.cells (.str (eV W)::((List.range 10).map fun j=>ii (eV (W + j + 1)))++[.nils,.nils,ii (eV (W + 11))]) (.int 14) 58⟩
def tCC (k:Nat):Tmpl :=
 let T:SV:=if k == 0 then .nslice 22 (eV 42) (eV 43) else .nils
 let n:E:=if k == 0 then eV 42 else .int 0
 ⟨tmSlots 31 [(1,at0 20),(2,at0 21),(14,T),(15,ii n),(16,ii (if k == 0 then eV 44 else .int 0))],⟨45,23,heapL (List.replicate 20 gone++[⟨true,.cells (cardV (.bsl kE (eV 40)) T) (.int 14) 58⟩,cardZ 20,if k == 0 then flT (eV 41) (eV 42) (eV 43) else gone]),
  if k == 0 then [eLe (eV 42) (eV 43),eLe (.int 0) (eV 44),eLe (eV 44) (eV 42),eLe (eV 42) (.int 3),fnE 157 [eV 41,eV 42]] else []⟩,mi n (if k == 0 then eV 44 else .int 0)⟩
def annCC:List Ann:=[⟨82,0,[tCC 0,tCC 1],none⟩]
def natCE:Nat1:=frzNat [kE] (specNat spCE)
def natCC:Nat1:=frzNat (List.replicate 12 []++[kTr]) (specNat spCC)
/-- the card of an object: 0 cards, 1 to 12 the object -/
def obVs (a : Nat) : SV := .agg ((List.range 9).map (fun j => ii (eV (a + j))) ++ [.bool (eV (a + 9)), .bool (eV (a + 10)), .bool (eV (a + 11))])
def cardQ (a:Nat) (e t:SV):SV:=.agg (.str (eV a)::((List.range 10).map fun j=>ii (eV (a + j + 1)))++[e,t,ii (eV (a + 13))])
def pcOC:List E:=[eEq (eV 14) (fnE 141 [eV 0,eV 2]),eEq (eV 20) (fnE 142 [eV 0,eV 2])]
def spOC:Pact:=⟨53,[.bsl kC (eV 0),obVs 1],⟨13,0,.nil,[eLe (rows 14 (eV 0)) (.int 12),fnE 155 [eV 0,rows 14 (eV 0)]]⟩,[(cardQ 13 (.bsl kE (eV 24)) (.bsl kTr (eV 25)),⟨27,0,.nil,pcOC⟩),(cardQ 13 .nils .nils,⟨27,0,.nil,pcOC⟩)]⟩
def natOC:Nat1:=frzNat (List.replicate 11 []++[kE,kTr]) (specNat spOC)
/-- the untapped sources: 0 cards, 1 board, 2 player -/
def nCa : E := rows 14 (eV 0)
def pcSo:List E:=pcX (eV 1)++[eLe nCa (.int 12),fnE 155 [eV 0,nCa],eLe (.int 0) (eV 2),eLe (eV 2) (.int 1)]
def nO1:E:=rows 12 (cl (eV 1) 0)
def flS (x n c:E):Blk:=⟨true,.flat kT x n c 85⟩
def f143 (x n:E):E:=fnE 143 [x,eV 0,eV 1,eV 2,n]
def spSo:Pact:=⟨31,[.bsl kC (eV 0),argX (eV 1),ii (eV 2)],⟨3,0,.nil,pcSo⟩,
 [(.nils,⟨3,0,.nil,[f143 emp nO1]⟩),(.nslice 0 (eV 4) (eV 5),⟨6,1,heapL [flS (eV 3) (eV 4) (eV 5)],[eLe (.int 1) (eV 4),eLe (eV 4) (eV 5),eEq (ln (eV 3)) (tm (eV 4) (.int 2)),eLe (eV 4) nO1,f143 (eV 3) nO1]⟩)]⟩
def boxX1:Blk:=⟨true,.cells (cellsV (eV 1) 0 kB) (.int 38) 34⟩
def tSo (k:Bool):Tmpl:=⟨tmSlots 62 [(0,.bsl kC (eV 0)),(2,ii (eV 2)),(4,at0 16),(7,if k then .nslice 17 (eV 17) (eV 18) else .nils),(12,.bsl kO (cl (eV 1) 0)),(13,ii nO1),(14,ii (eV 19))],
 ⟨20,18,heapL (List.replicate 16 gone++[boxX1,if k then flS (eV 16) (eV 17) (eV 18) else gone]),pcSo++[eLe nO1 (.int 30),eLe (.int 0) (eV 19),eLe (eV 19) nO1]++(if k then [eLe (.int 1) (eV 17),eLe (eV 17) (eV 18),eEq (ln (eV 16)) (tm (eV 17) (.int 2)),eLe (eV 17) (eV 19),f143 (eV 16) (eV 19)] else [f143 emp (eV 19)])⟩,mi nO1 (eV 19)⟩
def annSo:List Ann:=[⟨31,0,[tSo false,tSo true],none⟩]
/-- what is paid from: 0 cards, 1 board, 2 player -/
def natSo : Nat1 := frzNat [kT] (specNat spSo)
def f145 (X p:E):E:=fnE 145 [X,p]
def spFn:Pact:=⟨30,[argX (eV 0),ii (eV 1)],⟨2,0,.nil,pcX (eV 0)⟩,[(.bool (eV 2),⟨3,0,.nil,[.iff (eV 2) (f145 (eV 0) (eV 1))]⟩)]⟩
def spRi:Pact:=⟨12,[argX (eV 0),ii (eV 1),.agg ((List.range 5).map fun j=>ii (eV (j + 2)))],⟨7,0,.nil,pcX (eV 0)⟩,[(.bool (eV 7),⟨8,0,.nil,[.iff (eV 7) (.and (f145 (eV 0) (eV 1)) (fnE 146 ((List.range 5).map fun j=>eV (j + 2))))]⟩)]⟩
def pcPS:List E:=pcX (eV 1)++[eLe nCa (.int 12),fnE 155 [eV 0,nCa]]
def f144 (x:E):E:=fnE 144 [x,eV 0,eV 1,eV 2]
def spPS : Pact := ⟨10, [.bsl kC (eV 0), argX (eV 1), ii (eV 2)], ⟨3, 0, .nil, pcPS⟩,
  [(.nils, ⟨3, 0, .nil, [.imp (f145 (eV 1) (eV 2)) (f144 emp)]⟩),
   (.nslice 0 (eV 4) (eV 5), ⟨6, 1, heapL [⟨true, .flat kI (eV 3) (eV 4) (eV 5) 3⟩], [eLe (.int 1) (eV 4), eLe (eV 4) (eV 5), eEq (ln (eV 3)) (eV 4), eLe (eV 4) (.int 30), f145 (eV 1) (eV 2), f144 (eV 3)]⟩)]⟩
def pcFi2:List E:=pcPS++[f145 (eV 1) (eV 2),eLe (.int 0) (eV 2),eLe (eV 2) (.int 1)]
def nSr:E:=rows 2 (eV 16)
def tPS (k:Bool):Tmpl:=⟨tmSlots 30 [(7,if k then .nslice 16 (eV 18) (eV 19) else .nils),(17,.bsl kT (eV 16)),(18,ii (eV 21)),(19,ii (eV 20))],⟨22,17,heapL (List.replicate 16 gone++[if k then ⟨true,.flat kI (eV 17) (eV 18) (eV 19) 3⟩ else gone]),
 pcFi2++[f143 (eV 16) nO1,eLe nO1 (.int 30),eEq (eV 21) nSr,eLe nSr nO1,eLe (.int 0) (eV 20),eLe (eV 20) (eV 21)]++(if k then [eEq (eV 18) (eV 20),eLe (.int 1) (eV 18),eLe (eV 18) (eV 19),eEq (ln (eV 17)) (eV 18),fnE 148 [eV 17,eV 16,eV 20]] else [eEq (eV 20) (.int 0)])⟩,mi (eV 21) (eV 20)⟩
def annPS:List Ann:=[⟨10,0,[tPS false,tPS true],none⟩]
def f147 (m:Nat) (i:E):E:=fnE 147 ((List.range 4).map (fun j=>eV (m + j))++[eV 0,eV 1,eV 2,i])
def arr4 (m:Nat):List SV:=(List.range 4).map fun j=>ii (eV (m + j))
def nSo (x:E):E:=rows 2 x
def spMo:Pact:=⟨11,[.bsl kC (eV 0),argX (eV 1),ii (eV 2)],⟨3,0,.nil,pcPS⟩,
 [(.agg [ii (.int 0),ii (.int 0),ii (.int 0),ii (.int 0)],⟨3,0,.nil,[.not (f145 (eV 1) (eV 2))]⟩),(.agg (arr4 3),⟨7,0,.nil,[f145 (eV 1) (eV 2),f147 3 (.int 30)]⟩)]⟩
def tMo:Tmpl:=⟨tmSlots 40 [(6,at0 16),(7,at0 17),(23,.bsl kT (eV 16)),(24,ii (eV 22)),(25,ii (eV 21))],⟨23,18,heapL (List.replicate 16 gone++[⟨true,.cells [ii (.int 0),ii (.int 0),ii (.int 0),ii (.int 0)] (.int 4) 25⟩,⟨true,.cells (arr4 17) (.int 4) 25⟩]),
 pcFi2++[f143 (eV 16) nO1,eLe nO1 (.int 30),eEq (eV 22) nSr,eLe nSr nO1,eLe (.int 0) (eV 21),eLe (eV 21) (eV 22),f147 17 (eV 21)]⟩,mi (eV 22) (eV 21)⟩
def annMo:List Ann:=[⟨11,0,[tMo],none⟩]
/-- the reference's: what an object makes, its sources -/
def f120 (k : E) : E := fnE 120 [eV 1, k, nO1]
def spMa:Pact:=⟨32,[.bsl kC (eV 0),argX (eV 1),ii (eV 2)],⟨3,0,.nil,pcPS++[eLe (.int 0) (f120 (eV 2))]⟩,[(ii (eV 3),⟨4,0,.nil,[eEq (eV 3) (fnE 150 [eV 0,eV 1,eV 2]),eLe (.int (-1)) (eV 3),eLe (eV 3) (.int 3)]⟩)]⟩
def pcRS:List E:=pcPS++[f145 (eV 1) (eV 2),eLe (.int 0) (eV 2),eLe (eV 2) (.int 1)]
def flI (x n c:E):Blk:=⟨true,.flat kI x n c 3⟩
def tRS (k:Bool):Tmpl:=⟨tmSlots 43 [(0,.bsl kC (eV 0)),(4,at0 16),(7,if k then .nslice 17 (eV 17) (eV 18) else .nils),(14,.bsl kI (eV 19)),(15,ii (ln (eV 19))),(16,ii (eV 20))],⟨21,18,heapL (List.replicate 16 gone++[boxX1,if k then flI (eV 16) (eV 17) (eV 18) else gone]),
 pcRS++[fnE 109 [eV 19,eV 1,eV 2,.int 2],eLe (ln (eV 19)) (.int 40),eLe (.int 0) (eV 20),eLe (eV 20) (ln (eV 19))]++(if k then [eLe (.int 1) (eV 17),eLe (eV 17) (eV 18),eEq (ln (eV 16)) (eV 17),eLe (eV 17) (eV 20),fnE 151 [eV 16,eV 0,eV 1,eV 2,eV 20]] else [fnE 151 [emp,eV 0,eV 1,eV 2,eV 20]])⟩,mi (ln (eV 19)) (eV 20)⟩
def annRS:List Ann:=[⟨14,0,[tRS false,tRS true],none⟩]
/-- in order: 0 the list, 1 its length, 2 its room -/
def pcSd : List E := [eLe (.int 1) (eV 1), eLe (eV 1) (eV 2), eEq (ln (eV 0)) (eV 1), eLe (eV 1) (.int 60)]
def spSd:Pact:=⟨34,[.nslice 0 (eV 1) (eV 2)],⟨3,1,heapL [flI (eV 0) (eV 1) (eV 2)],pcSd⟩,
 [(.nslice 1 (eV 4) (eV 5),⟨6,2,heapL [flI (eV 0) (eV 1) (eV 2),flI (eV 3) (eV 4) (eV 5)],[eEq (eV 4) (eV 1),eLe (eV 4) (eV 5),eEq (ln (eV 3)) (eV 4),fnE 152 [eV 3,eV 0,eV 1]]⟩)]⟩
def tSd (k:Bool):Tmpl:=⟨tmSlots 46 [(0,.nslice 0 (eV 1) (eV 2)),(2,.nils),(3,if k then .nslice 8 (eV 9) (eV 10) else .nils),(4,ii (eV 11))],⟨12,9,heapL ([flI (eV 0) (eV 1) (eV 2)]++List.replicate 7 gone++[if k then flI (eV 8) (eV 9) (eV 10) else gone]),
 pcSd++(if k then [eLe (.int 1) (eV 11),eLe (eV 11) (eV 1),eEq (eV 9) (eV 11),eLe (eV 9) (eV 10),eEq (ln (eV 8)) (eV 9),fnE 152 [eV 8,eV 0,eV 11]] else [eEq (eV 11) (.int 0)])⟩,mi (eV 1) (eV 11)⟩
def tSd2 (k:Bool):Tmpl:=⟨tmSlots 46 [(0,.nslice 0 (eV 1) (eV 2)),(2,.nils),(3,if k then .nslice 8 (eV 9) (eV 10) else .nils),(4,ii (eV 11)),(5,ii (if k then eV 16 else .int 0))],⟨17,9,heapL ([flI (eV 0) (eV 1) (eV 2)]++List.replicate 7 gone++[if k then flI (eV 8) (eV 9) (eV 10) else gone]),
 (tSd k).st.pc++[eLt (eV 11) (eV 1)]++(if k then [eLe (.int 0) (eV 16),eLe (eV 16) (eV 9),fnE 160 [eV 8,nt (eV 0) (eV 11),eV 16]] else [])⟩,if k then mi (eV 9) (eV 16) else .int 0⟩
def annSd:List Ann:=[⟨34,0,[tSd false,tSd true],none⟩,⟨34,2,[tSd2 false,tSd2 true],none⟩]
def spRS:Pact:=⟨14,[.bsl kC (eV 0),argX (eV 1),ii (eV 2)],⟨3,0,.nil,pcRS⟩,
 [(.nils,⟨3,0,.nil,[f144 emp]⟩),(.nslice 0 (eV 4) (eV 5),⟨6,1,heapL [flI (eV 3) (eV 4) (eV 5)],[eLe (.int 1) (eV 4),eLe (eV 4) (eV 5),eEq (ln (eV 3)) (eV 4),eLe (eV 4) (.int 40),f144 (eV 3)]⟩)]⟩
def spYM:Pact:=⟨15,[.bsl kC (eV 0),argX (eV 1),ii (eV 2)],⟨3,0,.nil,pcRS⟩,[(.agg (arr4 3),⟨7,0,.nil,[f147 3 (.int 30)]⟩)]⟩
def tYM (k:Bool):Tmpl:=⟨tmSlots 41 [(0,.bsl kC (eV 0)),(4,at0 16),(6,at0 17),(7,at0 18),(8,if k then .nslice 19 (eV 21) (eV 22) else .nils),(9,ii (eV 23))],⟨24,20,heapL (List.replicate 16 gone++[boxX1,⟨true,.cells [ii (.int 0),ii (.int 0),ii (.int 0),ii (.int 0)] (.int 4) 25⟩,⟨true,.cells (arr4 16) (.int 4) 25⟩,if k then flI (eV 20) (eV 21) (eV 22) else gone]),
 pcRS++[eLe (.int 0) (eV 23),f147 16 (eV 23)]++(if k then [eLe (.int 1) (eV 21),eLe (eV 21) (eV 22),eEq (ln (eV 20)) (eV 21),eLe (eV 21) (.int 40),f144 (eV 20),eLe (eV 23) (eV 21)] else [f144 emp,eEq (eV 23) (.int 0)])⟩,if k then mi (eV 21) (eV 23) else mi (.int 0) (eV 23)⟩
def annYM:List Ann:=[⟨15,0,[tYM false,tYM true],none⟩]
/-- equal lists -/
def pcIn : List E := [eLe (eV 1) (eV 2), eEq (ln (eV 0)) (eV 1), eLe (.int 0) (eV 1), eLe (eV 1) (.int 100), eLe (eV 4) (eV 5), eEq (ln (eV 3)) (eV 4), eLe (.int 0) (eV 4), eLe (eV 4) (.int 100)]
def heapIn:T Blk:=heapL [flI (eV 0) (eV 1) (eV 2),flI (eV 3) (eV 4) (eV 5)]
def spIn:Pact:=⟨13,[.nslice 0 (eV 1) (eV 2),.nslice 1 (eV 4) (eV 5)],⟨6,2,heapIn,pcIn⟩,[(.bool (eV 6),⟨7,2,heapIn,[.iff (eV 6) (.and (eEq (eV 1) (eV 4)) (fnE 161 [eV 0,eV 3,eV 1]))]⟩)]⟩
def tIn:Tmpl:=⟨tmSlots 26 [(0,.nslice 0 (eV 1) (eV 2)),(1,.nslice 1 (eV 4) (eV 5)),(5,ii (eV 8))],⟨9,2,heapIn,pcIn++[eEq (eV 4) (eV 1),eLe (.int 0) (eV 8),eLe (eV 8) (eV 1),fnE 161 [eV 0,eV 3,eV 8]]⟩,mi (eV 1) (eV 8)⟩
def annIn:List Ann:=[⟨13,0,[tIn],none⟩]
/-- the examples: one plan each -/
def li (n : Int) : SV := ii (.int n)
def wantV (l:List Int):SV:=match l with | []=>.nils | l=>.nslice 0 (.int (Int.ofNat l.length)) (.int (Int.ofNat l.length))
def wantH (l:List Int):T Blk:=match l with | []=>.nil | l=>heapL [⟨true,.cells (l.map li) (.int (Int.ofNat l.length)) 3⟩]
def wantN (l:List Int):Nat:=match l with | []=>0 | _=>1
def spPlan (e t s:Int) (l m:List Int) (no:Int):Pact:=⟨29,[li e,li t,li s,wantV l,.agg (m.map li),li no],⟨0,wantN l,wantH l,[]⟩,[(.bool (.bool true),⟨0,wantN l,wantH l,[]⟩)]⟩
/-- the examples' board and pool -/
def noB : List SV := [.bool (.bool false), .bool (.bool false), .bool (.bool false)]
def exV (b:Nat):SV:=.agg ([.nslice b (.int 4) (.var 0),li 20,li 1,li 0,li 0,li 2,.nils,.nils,.nslice (Nat.succ b) (.int 4) (.var 1),.nils]++noB++[li 0,li 0,li 20,li 0,li 0,li 0,li 0,.nils,.nils,.nils,.nils]++noB++[li 0,li 0,.nils,.nils,.nils,.nils,li 0,li 0,li 0,li (-1),li 0])
def exO (i c:Int) (t:Bool):List SV:=[li i,li c,li 0,li 0,li 0,li 0,li 0,li 0,li 0,.bool (.bool t),.bool (.bool true),.bool (.bool false)]
def exH:List Blk:=[⟨true,.cells (exO 1 0 false++exO 2 1 false++exO 3 0 false++exO 4 2 true) (.fn 8 (.pr (.var 0) (.int 12))) 65⟩,⟨true,.cells [li 1,li 2,li 3,li 4] (.var 1) 3⟩]
def exP:List E:=[eLe (.int 4) (.var 1),eLe (.int 0) (.var 1),eLe (.int 4) (.var 0),eLe (.int 0) (.var 0)]
def poC (c:Int):List SV:=[.str (.str ⟨#[]⟩),li 1,li 0,li 0,li 0,li 0,li 0,li c,li 0,li 0,li 0,.nils,.nils,li 0]
def poH:Blk:=⟨true,.cells (poC 0++poC 1++poC 2) (.int 42) 58⟩
def spEx:Pact:=⟨27,[],⟨0,0,.nil,[]⟩,[(exV 0,⟨2,2,heapL exH,exP⟩)]⟩
def exA (more:List SV):List SV:=.nslice 0 (.int 3) (.int 3)::exV 1::li 0::more
def exS:St:=⟨2,3,heapL (poH::exH),exP⟩
def spExS:Pact:=⟨10,exA [],exS,[(.nslice 3 (.int 3) (.var 2),⟨3,4,heapL (poH::exH++[⟨true,.cells [li 1,li 2,li 3] (.var 2) 3⟩]),eLe (.int 3) (.var 2)::exP⟩)]⟩
def spExM:Pact:=⟨11,exA [],exS,[(.agg [li 3,li 1,li 0,li 2],exS)]⟩
def spExC (a b c d n:Int) (r:Bool):Pact:=⟨18,exA [.agg [li a,li b,li c,li d,li n]],exS,[(.bool (.bool r),exS)]⟩
/-- the law PaySources -/
def args : List SV := [.bsl kC (eV 0), argX (eV 1), ii (eV 2)]
def pc0:List E:=[tyB (eV 1)]
/-- light cards, small boards -/
def nC0 : E := rows 14 (eV 0)
def spLi:Pact:=⟨7,[.bsl kC (eV 0)],⟨1,0,.nil,[]⟩,[(.bool (eV 1),⟨2,0,.nil,[.imp (eV 1) (.and (eLe nC0 (.int 12)) (fnE 155 [eV 0,nC0]))]⟩)]⟩
def tL0:Tmpl:=⟨tmSlots 55 [(0,.bsl kC (eV 0)),(3,ii (eV 8))],⟨9,0,.nil,[eLe (.int 0) (eV 8),eLe (eV 8) (.int 13),eLe (eV 8) nC0,fnE 155 [eV 0,eV 8]]⟩,mi (.int 13) (eV 8)⟩
def trE:E:=nt (eV 0) (pl (tm (eV 8) (.int 14)) (.int 12))
def efE:E:=nt (eV 0) (pl (tm (eV 8) (.int 14)) (.int 11))
def tL2:Tmpl:=⟨tmSlots 55 [(0,.bsl kC (eV 0)),(3,ii (eV 8)),(4,ii (eV 16))],⟨17,0,.nil,[eLe (.int 0) (eV 8),eLt (eV 8) (.int 13),eLt (eV 8) nC0,fnE 155 [eV 0,eV 8],eLe (rows 5 efE) (.int 5),eLe (rows 2 trE) (.int 3),eLe (.int 0) (eV 16),eLe (eV 16) (rows 2 trE),fnE 157 [trE,eV 16]]⟩,mi (rows 2 trE) (eV 16)⟩
def annLi:List Ann:=[⟨7,0,[tL0],none⟩,⟨7,2,[tL2],none⟩]
def spSm:Pact:=⟨8,[argX (eV 0)],⟨1,0,.nil,[]⟩,[(.bool (eV 1),⟨2,0,.nil,[.imp (eV 1) (smB (eV 0))]⟩)]⟩
def lsB:Blk:=⟨true,.cells [.bsl kIt (cl (eV 0) 29),.bsl kIt (cl (eV 0) 30)] (.int 2) 30⟩
def heapSm:T Blk:=heapL (List.replicate 8 gone++[boxX (eV 0),lsB])
def slSm:List (Nat × SV):=[(1,at0 8),(29,.nslice 9 (.int 2) (.int 2)),(30,ii (.int 2)),(31,ii (eV 8))]
def pcSm:List E:=[.fn 159 (eV 0),eLe (.int 0) (eV 8),eLe (eV 8) (.int 2),.imp (eLe (.int 1) (eV 8)) (.and (eLe nSt (.int 20)) (fnE 158 [cl (eV 0) 29,nSt])),.imp (eLe (.int 2) (eV 8)) (.and (eLe nQu (.int 20)) (fnE 158 [cl (eV 0) 30,nQu]))]
def t4m:Tmpl:=⟨tmSlots 68 slSm,⟨9,10,heapSm,pcSm⟩,mi (.int 2) (eV 8)⟩
def tSm (q:Nat):Tmpl:=let c:Int:=if q == 0 then 29 else 30
 ⟨tmSlots 68 (slSm++[(7,.bsl kIt (cl (eV 0) c)),(8,ii (eV 16))]),⟨17,10,heapSm,
 pcSm++[eEq (eV 8) (.int (Int.ofNat q)),eLe (rows 5 (cl (eV 0) c)) (.int 20),eLe (.int 0) (eV 16),eLe (eV 16) (rows 5 (cl (eV 0) c)),fnE 158 [cl (eV 0) c,eV 16]]⟩,mi (rows 5 (cl (eV 0) c)) (eV 16)⟩
def annSm:List Ann:=[⟨8,4,[t4m],none⟩,⟨8,6,[tSm 0,tSm 1],none⟩]

def natl0:List Nat1:=[]
theorem natl0_ok:∀ x∈natl0,NatOk Try.prog x:=(fun x hx=>by cases hx)

namespace p0
def facts:List E:=[]
theorem facts_ok:∀ e∈facts,∀ ρ:Env,E.B ρ e=true:=all_nil
end p0
theorem spec0_0:NatOk Try.prog (specNat (spEx)) :=
 spec_of_check good (facts:=p0.facts) p0.facts_ok (anns:=[]) (plainAnns_ok _ (by kernel_rfl)) (nats:=natl0) natl0_ok (n:=3000) (by kernel_rfl)
def natl1:List Nat1:=specNat (spEx)::natl0
theorem natl1_ok:∀ x∈natl1,NatOk Try.prog x:=by
 intro x hx
 rcases List.mem_cons.1 hx with rfl | hx
 ·exact spec0_0
 exact natl0_ok x hx

namespace p1
def facts:List E:=[]
theorem facts_ok:∀ e∈facts,∀ ρ:Env,E.B ρ e=true:=all_nil
end p1
theorem spec1_0:NatOk Try.prog (specNat (spPlan 1 0 1 [] [0,0,0,1] 0)) :=
 spec_of_check good (facts:=p1.facts) p1.facts_ok (anns:=[]) (plainAnns_ok _ (by kernel_rfl)) (nats:=natl1) natl1_ok (n:=3000) (by kernel_rfl)
def natl2:List Nat1:=specNat (spPlan 1 0 1 [] [0,0,0,1] 0)::natl1
theorem natl2_ok:∀ x∈natl2,NatOk Try.prog x:=by
 intro x hx
 rcases List.mem_cons.1 hx with rfl | hx
 ·exact spec1_0
 exact natl1_ok x hx

namespace p2
def facts:List E:=[]
theorem facts_ok:∀ e∈facts,∀ ρ:Env,E.B ρ e=true:=all_nil
end p2
theorem spec2_0:NatOk Try.prog (specNat (spPlan 2 0 0 [1] [0,0,0,2] 0)) :=
 spec_of_check good (facts:=p2.facts) p2.facts_ok (anns:=[]) (plainAnns_ok _ (by kernel_rfl)) (nats:=natl2) natl2_ok (n:=3000) (by kernel_rfl)
def natl3:List Nat1:=specNat (spPlan 2 0 0 [1] [0,0,0,2] 0)::natl2
theorem natl3_ok:∀ x∈natl3,NatOk Try.prog x:=by
 intro x hx
 rcases List.mem_cons.1 hx with rfl | hx
 ·exact spec2_0
 exact natl2_ok x hx

namespace p3
def facts:List E:=[]
theorem facts_ok:∀ e∈facts,∀ ρ:Env,E.B ρ e=true:=all_nil
end p3
theorem spec3_0:NatOk Try.prog (specNat (spPlan 3 0 1 [1,3] [0,0,0,1] 0)) :=
 spec_of_check good (facts:=p3.facts) p3.facts_ok (anns:=[]) (plainAnns_ok _ (by kernel_rfl)) (nats:=natl3) natl3_ok (n:=3000) (by kernel_rfl)
def natl4:List Nat1:=specNat (spPlan 3 0 1 [1,3] [0,0,0,1] 0)::natl3
theorem natl4_ok:∀ x∈natl4,NatOk Try.prog x:=by
 intro x hx
 rcases List.mem_cons.1 hx with rfl | hx
 ·exact spec3_0
 exact natl3_ok x hx

namespace p4
def facts:List E:=[]
theorem facts_ok:∀ e∈facts,∀ ρ:Env,E.B ρ e=true:=all_nil
end p4
theorem spec4_0:NatOk Try.prog (specNat (spPlan 2 0 4 [1,2,3] [0,0,0,0] 0)) :=
 spec_of_check good (facts:=p4.facts) p4.facts_ok (anns:=[]) (plainAnns_ok _ (by kernel_rfl)) (nats:=natl4) natl4_ok (n:=3000) (by kernel_rfl)
def natl5:List Nat1:=specNat (spPlan 2 0 4 [1,2,3] [0,0,0,0] 0)::natl4
theorem natl5_ok:∀ x∈natl5,NatOk Try.prog x:=by
 intro x hx
 rcases List.mem_cons.1 hx with rfl | hx
 ·exact spec4_0
 exact natl4_ok x hx

namespace p5
def facts:List E:=[]
theorem facts_ok:∀ e∈facts,∀ ρ:Env,E.B ρ e=true:=all_nil
end p5
theorem spec5_0:NatOk Try.prog (specNat (spPlan 0 1 4 [1,2] [0,0,0,0] 0)) :=
 spec_of_check good (facts:=p5.facts) p5.facts_ok (anns:=[]) (plainAnns_ok _ (by kernel_rfl)) (nats:=natl5) natl5_ok (n:=3000) (by kernel_rfl)
def natl6:List Nat1:=specNat (spPlan 0 1 4 [1,2] [0,0,0,0] 0)::natl5
theorem natl6_ok:∀ x∈natl6,NatOk Try.prog x:=by
 intro x hx
 rcases List.mem_cons.1 hx with rfl | hx
 ·exact spec5_0
 exact natl5_ok x hx

namespace p6
def facts:List E:=[]
theorem facts_ok:∀ e∈facts,∀ ρ:Env,E.B ρ e=true:=all_nil
end p6
theorem spec6_0:NatOk Try.prog (specNat (spPlan 0 2 0 [] [0,0,0,0] 12)) :=
 spec_of_check good (facts:=p6.facts) p6.facts_ok (anns:=[]) (plainAnns_ok _ (by kernel_rfl)) (nats:=natl6) natl6_ok (n:=3000) (by kernel_rfl)
def natl7:List Nat1:=specNat (spPlan 0 2 0 [] [0,0,0,0] 12)::natl6
theorem natl7_ok:∀ x∈natl7,NatOk Try.prog x:=by
 intro x hx
 rcases List.mem_cons.1 hx with rfl | hx
 ·exact spec6_0
 exact natl6_ok x hx

namespace p7
def facts:List E:=[]
theorem facts_ok:∀ e∈facts,∀ ρ:Env,E.B ρ e=true:=all_nil
end p7
theorem spec7_0:NatOk Try.prog (specNat (spExS)) :=
 spec_of_check good (facts:=p7.facts) p7.facts_ok (anns:=[]) (plainAnns_ok _ (by kernel_rfl)) (nats:=natl7) natl7_ok (n:=3000) (by kernel_rfl)
def natl8:List Nat1:=specNat (spExS)::natl7
theorem natl8_ok:∀ x∈natl8,NatOk Try.prog x:=by
 intro x hx
 rcases List.mem_cons.1 hx with rfl | hx
 ·exact spec7_0
 exact natl7_ok x hx

namespace p8
def facts:List E:=[]
theorem facts_ok:∀ e∈facts,∀ ρ:Env,E.B ρ e=true:=all_nil
end p8
theorem spec8_0:NatOk Try.prog (specNat (spExM)) :=
 spec_of_check good (facts:=p8.facts) p8.facts_ok (anns:=[]) (plainAnns_ok _ (by kernel_rfl)) (nats:=natl8) natl8_ok (n:=3000) (by kernel_rfl)
def natl9:List Nat1:=specNat (spExM)::natl8
theorem natl9_ok:∀ x∈natl9,NatOk Try.prog x:=by
 intro x hx
 rcases List.mem_cons.1 hx with rfl | hx
 ·exact spec8_0
 exact natl8_ok x hx

namespace p9
def facts:List E:=[]
theorem facts_ok:∀ e∈facts,∀ ρ:Env,E.B ρ e=true:=all_nil
end p9
theorem spec9_0:NatOk Try.prog (specNat (spExC 0 0 0 0 6 true)) :=
 spec_of_check good (facts:=p9.facts) p9.facts_ok (anns:=[]) (plainAnns_ok _ (by kernel_rfl)) (nats:=natl9) natl9_ok (n:=3000) (by kernel_rfl)
def natl10:List Nat1:=specNat (spExC 0 0 0 0 6 true)::natl9
theorem natl10_ok:∀ x∈natl10,NatOk Try.prog x:=by
 intro x hx
 rcases List.mem_cons.1 hx with rfl | hx
 ·exact spec9_0
 exact natl9_ok x hx

namespace p10
def facts:List E:=[]
theorem facts_ok:∀ e∈facts,∀ ρ:Env,E.B ρ e=true:=all_nil
end p10
theorem spec10_0:NatOk Try.prog (specNat (spExC 0 0 0 0 7 false)) :=
 spec_of_check good (facts:=p10.facts) p10.facts_ok (anns:=[]) (plainAnns_ok _ (by kernel_rfl)) (nats:=natl10) natl10_ok (n:=3000) (by kernel_rfl)
def natl11:List Nat1:=specNat (spExC 0 0 0 0 7 false)::natl10
theorem natl11_ok:∀ x∈natl11,NatOk Try.prog x:=by
 intro x hx
 rcases List.mem_cons.1 hx with rfl | hx
 ·exact spec10_0
 exact natl10_ok x hx

namespace p11
def facts:List E:=[]
theorem facts_ok:∀ e∈facts,∀ ρ:Env,E.B ρ e=true:=all_nil
end p11
theorem spec11_0:NatOk Try.prog (specNat (spExC 0 0 1 0 0 false)) :=
 spec_of_check good (facts:=p11.facts) p11.facts_ok (anns:=[]) (plainAnns_ok _ (by kernel_rfl)) (nats:=natl11) natl11_ok (n:=3000) (by kernel_rfl)
def natl12:List Nat1:=specNat (spExC 0 0 1 0 0 false)::natl11
theorem natl12_ok:∀ x∈natl12,NatOk Try.prog x:=by
 intro x hx
 rcases List.mem_cons.1 hx with rfl | hx
 ·exact spec11_0
 exact natl11_ok x hx

end
end Go.Proofs.Ytnnbmcfabojjjaa.paySources
