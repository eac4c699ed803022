/-
  MetaHolds: contracts of functions, part 1.
-/
import Derived.Test.YtmngplmblanhdaaRows
import Derived.Test.YtmngplmblanhdaaNat
import Derived.WalkKit
import Derived.ProofKit
import Derived.OpenShut
import Derived.ChangeOld
import Derived.Below
import Derived.KernelRfl
import Derived.Lib.SmallJoins
import Derived.Test.YtmngplmblanhdaaTheory
namespace Go.Proofs.Ytmngplmblanhdaa.metaHolds
open Go.ChangeShapes Go.WideShapes Go.ChangeAt Go.RowKit
open Go.SX
set_option linter.unusedVariables false
set_option linter.unusedSimpArgs false
set_option maxRecDepth 100000
noncomputable section
abbrev Q0:E:=.var 0
abbrev Q1:E:=.var 3
abbrev Q2:E:=.cmp .lss Q1 Q0
abbrev Q3:E:=.not (.cmp .lss Q1 (.int 0))
abbrev Q4:E:=.var 2
abbrev Q5:E:=.pr Q4 (.pr Q1 Q0)
abbrev Q6:E:=.fn 115 Q5
abbrev Q7:E:=.cmp .lss (.int 20) Q0
abbrev Q8:E:=.not Q7
abbrev Q9:E:=.ar .add .i64 Q1 (.int 1)
abbrev Q10:E:=.cmp .lss Q0 Q1
abbrev Q11:E:=.not Q10
abbrev Q12:E:=.and Q11 Q6
abbrev Q13:E:=.and (.not Q2) Q12
abbrev Q14:E:=.and Q3 Q8
abbrev Q15:E:=.and Q2 Q14
abbrev Q16:E:=.and Q11 Q14
abbrev Q17:E:=.and Q2 Q16
abbrev Q18:E:=.var 1
abbrev Q19:E:=.cmp .lss Q1 (.fn 9 (.pr Q18 (.int 3)))
abbrev Q20:E:=.cmp .lss (.int 3) (.fn 1 (.pr Q18 (.fn 6 (.pr (.fn 8 (.pr Q1 (.int 3))) (.int 2)))))
abbrev Q21:E:=.cmp .eql (.fn 104 (.pr Q18 (.pr (.fn 9 (.pr Q18 (.int 3))) Q0))) (.int 2)
abbrev Q22:E:=.cmp .lss (.fn 1 (.pr Q18 (.fn 6 (.pr (.fn 8 (.pr Q1 (.int 3))) (.int 0))))) (.int 0)
abbrev Q23:E:=.cmp .lss (.fn 1 (.pr Q18 (.fn 6 (.pr (.fn 8 (.pr Q1 (.int 3))) (.int 0))))) Q0
abbrev Q24:E:=.cmp .lss (.fn 1 (.pr Q18 (.fn 6 (.pr (.fn 8 (.pr Q1 (.int 3))) (.int 1))))) (.int 0)
abbrev Q25:E:=.cmp .lss (.fn 1 (.pr Q18 (.fn 6 (.pr (.fn 8 (.pr Q1 (.int 3))) (.int 1))))) Q0
abbrev Q26:E:=.cmp .eql (.fn 1 (.pr Q18 (.fn 6 (.pr (.fn 8 (.pr Q1 (.int 3))) (.int 0))))) (.fn 1 (.pr Q18 (.fn 6 (.pr (.fn 8 (.pr Q1 (.int 3))) (.int 1)))))
abbrev Q27:E:=.cmp .lss (.fn 1 (.pr Q18 (.fn 6 (.pr (.fn 8 (.pr Q1 (.int 3))) (.int 2))))) (.int 1)
abbrev Q28:E:=.cmp .eql (.fn 104 (.pr Q18 (.pr Q1 Q0))) (.int 0)
abbrev Q29:E:=.cmp .lss (.int 1000) (.fn 9 (.pr Q18 (.int 3)))
abbrev Q30:E:=.not Q29
abbrev Q31:E:=.cmp .lss (.fn 9 (.pr Q18 (.int 3))) Q1
abbrev Q32:E:=.not Q31
abbrev Q33:E:=.and Q3 Q30
abbrev Q34:E:=.and Q19 Q33
abbrev Q35:E:=.and Q32 Q33
abbrev Q36:E:=.and Q19 Q35
abbrev Q37:E:=.var 5
abbrev Q38:E:=.cmp .lss Q37 (.fn 9 (.pr Q1 (.int 3)))
abbrev Q39:E:=.cmp .lss (.fn 1 (.pr Q1 (.fn 6 (.pr (.fn 8 (.pr Q37 (.int 3))) (.int 0))))) (.int 0)
abbrev Q40:E:=.not (.cmp .lss Q37 (.int 0))
abbrev Q41:E:=.cmp .eql (.fn 104 (.pr Q1 (.pr (.fn 9 (.pr Q1 (.int 3))) Q18))) (.int 2)
abbrev Q42:E:=.cmp .lss (.fn 1 (.pr Q1 (.fn 6 (.pr (.fn 8 (.pr Q37 (.int 3))) (.int 1))))) (.int 0)
abbrev Q43:E:=.cmp .lss (.int 3) (.fn 1 (.pr Q1 (.fn 6 (.pr (.fn 8 (.pr Q37 (.int 3))) (.int 2)))))
abbrev Q44:E:=.cmp .lss (.fn 1 (.pr Q1 (.fn 6 (.pr (.fn 8 (.pr Q37 (.int 3))) (.int 0))))) Q18
abbrev Q45:E:=.cmp .lss (.fn 1 (.pr Q1 (.fn 6 (.pr (.fn 8 (.pr Q37 (.int 3))) (.int 1))))) Q18
abbrev Q46:E:=.cmp .eql (.fn 1 (.pr Q1 (.fn 6 (.pr (.fn 8 (.pr Q37 (.int 3))) (.int 0))))) (.fn 1 (.pr Q1 (.fn 6 (.pr (.fn 8 (.pr Q37 (.int 3))) (.int 1)))))
abbrev Q47:E:=.cmp .lss (.fn 1 (.pr Q1 (.fn 6 (.pr (.fn 8 (.pr Q37 (.int 3))) (.int 2))))) (.int 1)
abbrev Q48:E:=.not (.cmp .lss (.int 1000) (.fn 9 (.pr Q1 (.int 3))))
abbrev Q49:E:=.cmp .eql (.fn 104 (.pr Q1 (.pr Q37 Q18))) (.int 0)
abbrev Q50:E:=.ar .add .i64 Q37 (.int 1)
abbrev Q51:E:=.cmp .lss (.int 1000) Q4
abbrev Q52:E:=.not Q51
abbrev Q53:E:=.cmp .lss Q4 (.int 0)
abbrev Q54:E:=.not Q53
abbrev Q55:E:=.and Q52 Q54
abbrev Q56:E:=.and Q48 Q55
abbrev Q57:E:=.cmp .lss (.fn 9 (.pr Q1 (.int 3))) Q37
abbrev Q58:E:=.not Q57
abbrev Q59:E:=.cmp .eql (.fn 104 (.pr Q1 (.pr (.fn 9 (.pr Q1 (.int 3))) Q18))) (.int 0)
abbrev Q60:E:=.and Q58 Q40
abbrev Q61:E:=.and Q48 Q60
abbrev Q62:E:=.and Q38 Q61
abbrev Q63:E:=.var 9
abbrev Q64:E:=.cmp .lss Q63 (.fn 9 (.pr Q1 (.int 3)))
abbrev Q65:E:=.cmp .lss Q63 (.int 0)
abbrev Q66:E:=.not Q65
abbrev Q67:E:=.and Q59 (.and Q64 Q66)
abbrev Q68:E:=.ar .add .i64 Q4 (.fn 9 (.pr Q1 (.int 3)))
abbrev Q69:E:=.var 8
abbrev Q70:E:=.pr Q1 (.pr Q63 Q18)
abbrev Q71:E:=.pr Q0 Q70
abbrev Q72:E:=.pr Q69 Q71
abbrev Q73:E:=.fn 103 Q72
abbrev Q74:E:=.cmp .lss (.fn 9 (.pr Q1 (.int 3))) Q63
abbrev Q75:E:=.not Q74
abbrev Q76:E:=.pr Q69 (.fn 6 (.pr Q4 Q63))
abbrev Q77:E:=.fn 117 Q76
abbrev Q78:E:=.pr Q69 Q18
abbrev Q79:E:=.fn 101 Q78
abbrev Q80:E:=.and Q79 Q67
abbrev Q81:E:=.and Q66 Q48
abbrev Q82:E:=.and Q64 Q81
abbrev Q83:E:=.ar .add .i64 Q63 (.int 1)
abbrev Q84:E:=.and Q75 Q81
abbrev Q85:E:=.and Q64 Q84
abbrev Q86:E:=.ar .add .i64 (.fn 1 (.pr (.fn 1 (.pr Q69 (.fn 1 (.pr Q1 (.fn 6 (.pr (.fn 8 (.pr Q63 (.int 3))) (.int 0))))))) (.fn 1 (.pr Q1 (.fn 6 (.pr (.fn 8 (.pr Q63 (.int 3))) (.int 1))))))) (.int 1)
abbrev Q87:E:=.cmp .eql (.fn 1 (.pr Q1 (.fn 6 (.pr (.fn 8 (.pr Q63 (.int 3))) (.int 2))))) (.int 1)
abbrev Q88:E:=.and Q48 Q52
abbrev Q89:E:=.and Q59 Q88
abbrev Q90:E:=.and Q66 Q89
abbrev Q91:E:=.and Q73 Q90
abbrev Q92:E:=.and Q79 Q91
abbrev Q93:E:=.and Q77 Q92
abbrev Q94:E:=.ar .add .i64 (.fn 1 (.pr (.fn 1 (.pr Q69 (.fn 1 (.pr Q1 (.fn 6 (.pr (.fn 8 (.pr Q63 (.int 3))) (.int 0))))))) (.fn 1 (.pr Q1 (.fn 6 (.pr (.fn 8 (.pr Q63 (.int 3))) (.int 1))))))) (.int 2)
abbrev Q95:E:=.pr Q1 (.pr Q83 Q18)
abbrev Q96:E:=.pr Q0 Q95
abbrev Q97:E:=.cmp .eql (.fn 1 (.pr Q1 (.fn 6 (.pr (.fn 8 (.pr Q63 (.int 3))) (.int 2))))) (.int 2)
abbrev Q98:E:=.ar .add .i64 (.fn 1 (.pr (.fn 1 (.pr Q69 (.fn 1 (.pr Q1 (.fn 6 (.pr (.fn 8 (.pr Q63 (.int 3))) (.int 1))))))) (.fn 1 (.pr Q1 (.fn 6 (.pr (.fn 8 (.pr Q63 (.int 3))) (.int 0))))))) (.int 2)
abbrev Q99:E:=.and Q66 Q59
abbrev Q100:E:=.and Q79 Q99
abbrev Q101:E:=.and Q64 Q100
abbrev Q102:E:=.and Q79 Q90
abbrev Q103:E:=.and Q77 Q102
abbrev Q104:E:=.and Q64 Q103
abbrev Q105:E:=.ar .add .i64 (.fn 1 (.pr (.fn 1 (.pr (.fn 2 (.pr Q69 (.pr (.fn 1 (.pr Q1 (.fn 6 (.pr (.fn 8 (.pr Q63 (.int 3))) (.int 0))))) (.fn 21 (.pr (.fn 1 (.pr Q69 (.fn 1 (.pr Q1 (.fn 6 (.pr (.fn 8 (.pr Q63 (.int 3))) (.int 0))))))) (.fn 2 (.pr (.fn 1 (.pr Q69 (.fn 1 (.pr Q1 (.fn 6 (.pr (.fn 8 (.pr Q63 (.int 3))) (.int 0))))))) (.pr (.fn 1 (.pr Q1 (.fn 6 (.pr (.fn 8 (.pr Q63 (.int 3))) (.int 1))))) Q86)))))))) (.fn 1 (.pr Q1 (.fn 6 (.pr (.fn 8 (.pr Q63 (.int 3))) (.int 1))))))) (.fn 1 (.pr Q1 (.fn 6 (.pr (.fn 8 (.pr Q63 (.int 3))) (.int 0))))))) (.int 1)
theorem own:ownKnob Try.prog.godebug=none:=by kernel_rfl
theorem laidOut:laidOutB Try.prog=true:=by kernel_rfl
theorem good:progOk Try.prog=true:=by kernel_rfl


abbrev Tr (f:E):Prop:=∀ ρ:Env,E.B ρ f=true
theorem ac {e:E} {l:List E} (h:Tr e) (hl:∀ e∈l,Tr e):∀ x∈e::l,Tr x:=all_cons h hl
theorem ii1 {a0 d:E} (h:∀ ρ:Env,E.B ρ a0=true→E.B ρ d=true):Tr (.imp a0 d):=fun ρ=>by
 rw [sm_B_imp]
 rintro p0
 exact h ρ p0
theorem ii2 {a0 a1 d:E} (h:∀ ρ:Env,E.B ρ a0=true→E.B ρ a1=true→E.B ρ d=true):Tr (.imp (.and a0 a1) d):=fun ρ=>by
 rw [sm_B_imp]
 simp only [sm_B_and]
 rintro ⟨p0,p1⟩
 exact h ρ p0 p1
theorem ii3 {a0 a1 a2 d:E} (h:∀ ρ:Env,E.B ρ a0=true→E.B ρ a1=true→E.B ρ a2=true→E.B ρ d=true):Tr (.imp (.and a0 (.and a1 a2)) d):=fun ρ=>by
 rw [sm_B_imp]
 simp only [sm_B_and]
 rintro ⟨p0,p1,p2⟩
 exact h ρ p0 p1 p2
theorem ii4 {a0 a1 a2 a3 d:E} (h:∀ ρ:Env,E.B ρ a0=true→E.B ρ a1=true→E.B ρ a2=true→E.B ρ a3=true→E.B ρ d=true):Tr (.imp (.and a0 (.and a1 (.and a2 a3))) d):=fun ρ=>by
 rw [sm_B_imp]
 simp only [sm_B_and]
 rintro ⟨p0,p1,p2,p3⟩
 exact h ρ p0 p1 p2 p3
theorem ii5 {a0 a1 a2 a3 a4 d:E} (h:∀ ρ:Env,E.B ρ a0=true→E.B ρ a1=true→E.B ρ a2=true→E.B ρ a3=true→E.B ρ a4=true→E.B ρ d=true):Tr (.imp (.and a0 (.and a1 (.and a2 (.and a3 a4)))) d):=fun ρ=>by
 rw [sm_B_imp]
 simp only [sm_B_and]
 rintro ⟨p0,p1,p2,p3,p4⟩
 exact h ρ p0 p1 p2 p3 p4
theorem ii6 {a0 a1 a2 a3 a4 a5 d:E} (h:∀ ρ:Env,E.B ρ a0=true→E.B ρ a1=true→E.B ρ a2=true→E.B ρ a3=true→E.B ρ a4=true→E.B ρ a5=true→E.B ρ d=true):Tr (.imp (.and a0 (.and a1 (.and a2 (.and a3 (.and a4 a5))))) d):=fun ρ=>by
 rw [sm_B_imp]
 simp only [sm_B_and]
 rintro ⟨p0,p1,p2,p3,p4,p5⟩
 exact h ρ p0 p1 p2 p3 p4 p5
theorem ii7 {a0 a1 a2 a3 a4 a5 a6 d:E} (h:∀ ρ:Env,E.B ρ a0=true→E.B ρ a1=true→E.B ρ a2=true→E.B ρ a3=true→E.B ρ a4=true→E.B ρ a5=true→E.B ρ a6=true→E.B ρ d=true):Tr (.imp (.and a0 (.and a1 (.and a2 (.and a3 (.and a4 (.and a5 a6)))))) d):=fun ρ=>by
 rw [sm_B_imp]
 simp only [sm_B_and]
 rintro ⟨p0,p1,p2,p3,p4,p5,p6⟩
 exact h ρ p0 p1 p2 p3 p4 p5 p6
theorem ii8 {a0 a1 a2 a3 a4 a5 a6 a7 d:E} (h:∀ ρ:Env,E.B ρ a0=true→E.B ρ a1=true→E.B ρ a2=true→E.B ρ a3=true→E.B ρ a4=true→E.B ρ a5=true→E.B ρ a6=true→E.B ρ a7=true→E.B ρ d=true):Tr (.imp (.and a0 (.and a1 (.and a2 (.and a3 (.and a4 (.and a5 (.and a6 a7))))))) d):=fun ρ=>by
 rw [sm_B_imp]
 simp only [sm_B_and]
 rintro ⟨p0,p1,p2,p3,p4,p5,p6,p7⟩
 exact h ρ p0 p1 p2 p3 p4 p5 p6 p7
theorem ii9 {a0 a1 a2 a3 a4 a5 a6 a7 a8 d:E} (h:∀ ρ:Env,E.B ρ a0=true→E.B ρ a1=true→E.B ρ a2=true→E.B ρ a3=true→E.B ρ a4=true→E.B ρ a5=true→E.B ρ a6=true→E.B ρ a7=true→E.B ρ a8=true→E.B ρ d=true):Tr (.imp (.and a0 (.and a1 (.and a2 (.and a3 (.and a4 (.and a5 (.and a6 (.and a7 a8)))))))) d):=fun ρ=>by
 rw [sm_B_imp]
 simp only [sm_B_and]
 rintro ⟨p0,p1,p2,p3,p4,p5,p6,p7,p8⟩
 exact h ρ p0 p1 p2 p3 p4 p5 p6 p7 p8
theorem ii10 {a0 a1 a2 a3 a4 a5 a6 a7 a8 a9 d:E} (h:∀ ρ:Env,E.B ρ a0=true→E.B ρ a1=true→E.B ρ a2=true→E.B ρ a3=true→E.B ρ a4=true→E.B ρ a5=true→E.B ρ a6=true→E.B ρ a7=true→E.B ρ a8=true→E.B ρ a9=true→E.B ρ d=true):Tr (.imp (.and a0 (.and a1 (.and a2 (.and a3 (.and a4 (.and a5 (.and a6 (.and a7 (.and a8 a9))))))))) d):=fun ρ=>by
 rw [sm_B_imp]
 simp only [sm_B_and]
 rintro ⟨p0,p1,p2,p3,p4,p5,p6,p7,p8,p9⟩
 exact h ρ p0 p1 p2 p3 p4 p5 p6 p7 p8 p9
theorem ii11 {a0 a1 a2 a3 a4 a5 a6 a7 a8 a9 a10 d:E} (h:∀ ρ:Env,E.B ρ a0=true→E.B ρ a1=true→E.B ρ a2=true→E.B ρ a3=true→E.B ρ a4=true→E.B ρ a5=true→E.B ρ a6=true→E.B ρ a7=true→E.B ρ a8=true→E.B ρ a9=true→E.B ρ a10=true→E.B ρ d=true):Tr (.imp (.and a0 (.and a1 (.and a2 (.and a3 (.and a4 (.and a5 (.and a6 (.and a7 (.and a8 (.and a9 a10)))))))))) d):=fun ρ=>by
 rw [sm_B_imp]
 simp only [sm_B_and]
 rintro ⟨p0,p1,p2,p3,p4,p5,p6,p7,p8,p9,p10⟩
 exact h ρ p0 p1 p2 p3 p4 p5 p6 p7 p8 p9 p10
theorem ii14 {a0 a1 a2 a3 a4 a5 a6 a7 a8 a9 a10 a11 a12 a13 d:E} (h:∀ ρ:Env,E.B ρ a0=true→E.B ρ a1=true→E.B ρ a2=true→E.B ρ a3=true→E.B ρ a4=true→E.B ρ a5=true→E.B ρ a6=true→E.B ρ a7=true→E.B ρ a8=true→E.B ρ a9=true→E.B ρ a10=true→E.B ρ a11=true→E.B ρ a12=true→E.B ρ a13=true→E.B ρ d=true):Tr (.imp (.and a0 (.and a1 (.and a2 (.and a3 (.and a4 (.and a5 (.and a6 (.and a7 (.and a8 (.and a9 (.and a10 (.and a11 (.and a12 a13))))))))))))) d):=fun ρ=>by
 rw [sm_B_imp]
 simp only [sm_B_and]
 rintro ⟨p0,p1,p2,p3,p4,p5,p6,p7,p8,p9,p10,p11,p12,p13⟩
 exact h ρ p0 p1 p2 p3 p4 p5 p6 p7 p8 p9 p10 p11 p12 p13
def ii (e:E):SV:=.int .i64 e
def gone:Blk:=⟨true,.gone⟩
def at0 (b:Nat):SV:=.ptr b ⟨0,0,.int 0⟩
def eEq (a b:E):E:=.cmp .eql a b
def pl (a b:E):E:=.fn 6 (.pr a b)
def mi (a b:E):E:=.fn 7 (.pr a b)
def tm (a b:E):E:=.fn 8 (.pr a b)
def ln (x:E):E:=.fn 0 x
def prs:List E→E
 | []=>.int 0
 | [a]=>a
 | a::l=>.pr a (prs l)
def fnE (f:Nat) (l:List E):E:=.fn f (prs l)
def nt (l i:E):E:=.fn 1 (.pr l i)
def kI:List CK:=[.int .i64]
def kZ:List CK:=[.slc kI]
def kG:List CK:=[.int .i64,.int .i64,.int .i64]
def rw3 (l:E):E:=.fn 9 (.pr l (.int 3))
/-- a field: l its scores, d how many decks, g how many games -/
def fieldB (W : Nat) (l d g : E) : List Blk := [⟨true, .cells [.nslice (W + 1) d d, ii g] (.int 2) 57⟩, ⟨true, .nest kZ l d d 23⟩]
def pcD (d:E):List E:=[eLe (.int 2) d,eLe d (.int 20)]
def isM (l d:E):E:=fnE 101 [l,d]
def bnd (l g:E):E:=fnE 117 [l,g]
/-- meta.New -/
def spNew : Pact := ⟨9, [ii (eV 0)], ⟨1, 0, .nil, pcD (eV 0)⟩, [(.tup [at0 0, ii (.int 0)], ⟨2, 2, heapL (fieldB 0 (eV 1) (eV 0) (.int 0)), [fnE 116 [eV 1, eV 0], isM (eV 1) (eV 0), bnd (eV 1) (.int 0), eEq (ln (eV 1)) (eV 0)]⟩)]⟩
def tNew:Tmpl:=⟨tmSlots 34 [(0,ii (eV 0)),(4,at0 1),(19,.nslice 0 (eV 0) (eV 0)),(20,ii (eV 0)),(21,ii (eV 3))],⟨4,2,heapL [⟨true,.nest kZ (eV 2) (eV 0) (eV 0) 23⟩,⟨true,.cells [.nslice 0 (eV 0) (eV 0),ii (.int 0)] (.int 2) 57⟩],pcD (eV 0)++[fnE 115 [eV 2,eV 3,eV 0],eEq (ln (eV 2)) (eV 0),eLe (.int 0) (eV 3),eLe (eV 3) (eV 0)]⟩,mi (eV 0) (eV 3)⟩
def annNew:List Ann:=[⟨9,0,[tNew],none⟩]
/-- bad -/
def bdE (x k d : E) : E := fnE 104 [x, k, d]
def spBad:Pact:=⟨11,[ii (eV 0),.bsl kG (eV 1)],⟨2,0,.nil,pcD (eV 0)++[eLe (rw3 (eV 1)) (.int 1000)]⟩,[(ii (eV 2),⟨3,0,.nil,[eEq (eV 2) (bdE (eV 1) (rw3 (eV 1)) (eV 0))]⟩)]⟩
def tBad:Tmpl:=⟨tmSlots 54 [(0,ii (eV 0)),(1,.bsl kG (eV 1)),(5,ii (eV 3))],⟨4,0,.nil,spBad.st.pc++[eEq (bdE (eV 1) (eV 3) (eV 0)) (.int 0),eLe (.int 0) (eV 3),eLe (eV 3) (rw3 (eV 1))]⟩,mi (rw3 (eV 1)) (eV 3)⟩
def annBad:List Ann:=[⟨11,0,[tBad],none⟩]
/-- Add: 0 scores, 1 decks, 2 games, 3 what is added -/
def pcF : List E := pcD (eV 1) ++ [isM (eV 0) (eV 1), bnd (eV 0) (eV 2), eEq (ln (eV 0)) (eV 1), eLe (.int 0) (eV 2), eLe (eV 2) (.int 1000), eLe (rw3 (eV 3)) (.int 1000)]
def nG:E:=rw3 (eV 3)
def addE (l' l k:E):E:=fnE 103 [l',l,eV 3,k,eV 1]
def spAdd:Pact:=⟨10,[at0 0,.bsl kG (eV 3)],⟨4,2,heapL (fieldB 0 (eV 0) (eV 1) (eV 2)),pcF⟩,
 [(ii (.int 0),⟨6,2,heapL (fieldB 0 (eV 4) (eV 1) (eV 5)),[eEq (bdE (eV 3) nG (eV 1)) (.int 0),eEq (eV 5) (pl (eV 2) nG),addE (eV 4) (eV 0) nG,isM (eV 4) (eV 1),bnd (eV 4) (eV 5),eEq (ln (eV 4)) (eV 1)]⟩),(ii (.int 2),⟨4,2,heapL (fieldB 0 (eV 0) (eV 1) (eV 2)),[eEq (bdE (eV 3) nG (eV 1)) (.int 2)]⟩)]⟩
def tA1:Tmpl:=⟨tmSlots 133 [(0,at0 0),(1,.bsl kG (eV 3)),(11,.bsl kG (eV 3)),(12,ii nG),(13,ii (eV 5))],⟨6,2,heapL (fieldB 0 (eV 0) (eV 1) (eV 2)),pcF++[eEq (bdE (eV 3) (eV 5) (eV 1)) (.int 0),eLe (.int 0) (eV 5),eLe (eV 5) nG]⟩,mi nG (eV 5)⟩
def tA2:Tmpl:=⟨tmSlots 133 [(0,at0 0),(1,.bsl kG (eV 3)),(55,.bsl kG (eV 3)),(56,ii nG),(57,ii (eV 9))],⟨10,2,heapL (fieldB 0 (eV 8) (eV 1) (eV 2)),pcF++[eEq (bdE (eV 3) nG (eV 1)) (.int 0),eLe (.int 0) (eV 9),eLe (eV 9) nG,addE (eV 8) (eV 0) (eV 9),isM (eV 8) (eV 1),bnd (eV 8) (pl (eV 2) (eV 9)),eEq (ln (eV 8)) (eV 1)]⟩,mi nG (eV 9)⟩
def annAdd:List Ann:=[⟨10,0,[tA1],none⟩,⟨10,2,[tA2],none⟩]
/-- the rate: 3 and 4 the decks -/
def heapF : T Blk := heapL (fieldB 0 (eV 0) (eV 1) (eV 2))
def pcR:List E:=pcD (eV 1)++[isM (eV 0) (eV 1),bnd (eV 0) (eV 2),eEq (ln (eV 0)) (eV 1),eLe (.int 0) (eV 2),eLe (eV 2) (.int 1000)]
def inD (a d:E):List E:=[eLe (.int 0) a,eLt a d]
def spRate:Pact:=⟨33,[at0 0,ii (eV 3),ii (eV 4)],⟨5,2,heapF,pcR++inD (eV 3) (eV 1)++inD (eV 4) (eV 1)⟩,[(ii (eV 5),⟨6,2,heapF,[eEq (eV 5) (fnE 105 [eV 0,eV 3,eV 4]),eLe (.int 0) (eV 5),eLe (eV 5) (.int 1000)]⟩)]⟩

/-- beats, floor, cycle, grown, top -/
def spBt : Pact := ⟨34, [at0 0, ii (eV 3), ii (eV 4)], ⟨5, 2, heapF, pcR ++ inD (eV 3) (eV 1) ++ inD (eV 4) (eV 1)⟩, [(.bool (eV 5), ⟨6, 2, heapF, [.iff (eV 5) (fnE 119 [eV 0, eV 3, eV 4])]⟩)]⟩
def spFl:Pact:=⟨18,[at0 0,ii (eV 3)],⟨4,2,heapF,pcR++inD (eV 3) (eV 1)⟩,[(.tup [ii (eV 4),ii (.int 0)],⟨5,2,heapF,[eEq (eV 4) (fnE 122 [eV 0,eV 3,eV 1]),eLe (eV 4) (.int 1000),eLe (.int 0) (eV 4)]⟩)]⟩
def spCy:Pact:=⟨19,[at0 0],⟨3,2,heapF,pcR⟩,[(.tup [.agg [ii (eV 3),ii (eV 4),ii (eV 5)],ii (eV 6)],⟨7,2,heapF,[.imp (fnE 123 [eV 0,eV 1,eV 1]) (.not (eEq (eV 6) (.int 0))),.imp (.not (fnE 123 [eV 0,eV 1,eV 1])) (eEq (eV 6) (.int 0))]⟩)]⟩
def fl (x n c:E):Blk:=⟨true,.flat [.int .i64] x n c 3⟩
def spGr:Pact:=⟨32,[at0 0,ii (eV 3)],⟨4,2,heapF,pcR++inD (eV 3) (eV 1)⟩,[(.nslice 2 (eV 5) (eV 6),⟨7,3,heapL (fieldB 0 (eV 0) (eV 1) (eV 2)++[fl (eV 4) (eV 5) (eV 6)]),[fnE 120 [eV 4,eV 0,eV 1,eV 3],eEq (eV 5) (ln (eV 4)),eLe (.int 1) (eV 5),eLe (eV 5) (eV 1),eLe (eV 5) (.int 20),eLe (eV 5) (eV 6)]⟩)]⟩
def spTp:Pact:=⟨14,[at0 0],⟨3,2,heapF,pcR⟩,[(.nslice 2 (eV 4) (eV 5),⟨6,3,heapL (fieldB 0 (eV 0) (eV 1) (eV 2)++[fl (eV 3) (eV 4) (eV 5)]),[fnE 121 [eV 3,eV 0,eV 1,eV 1],eEq (eV 4) (ln (eV 3)),eLe (.int 1) (eV 4),eLe (eV 4) (eV 1),eLe (eV 4) (.int 20),eLe (eV 4) (eV 5)]⟩)]⟩

def tFl:Tmpl:=⟨tmSlots 35 [(0,at0 0),(1,ii (eV 3)),(4,ii (.int 0)),(5,ii (.int 0)),(6,ii (eV 4)),(19,.nslice 1 (eV 1) (eV 1)),(20,ii (eV 1)),(21,ii (eV 5))],⟨6,2,heapF,pcR++inD (eV 3) (eV 1)++[eEq (eV 4) (fnE 122 [eV 0,eV 3,eV 5]),eLe (.int 0) (eV 4),eLe (eV 4) (.int 1000),eLe (.int 0) (eV 5),eLe (eV 5) (eV 1)]⟩,mi (eV 1) (eV 5)⟩
def annFl:List Ann:=[⟨18,1,[tFl],none⟩]
/-- cycle: 3 a, 4 b, 5 c -/
def heapC : T Blk := heapL (fieldB 0 (eV 0) (eV 1) (eV 2) ++ [⟨true, .cells [ii (.int 0), ii (.int 0), ii (.int 0)] (.int 3) 41⟩])
def pcC1:List E:=pcR++[eLe (.int 0) (eV 3),fnE 123 [eV 0,eV 1,eV 3]]
def slC:List (Nat × SV):=[(0,at0 0),(2,at0 2),(3,ii (.int 0)),(4,ii (eV 1)),(16,ii (eV 1)),(17,ii (eV 3))]
def tC1:Tmpl:=⟨tmSlots 56 slC,⟨4,3,heapC,pcC1++[eLe (eV 3) (eV 1)]⟩,mi (eV 1) (eV 3)⟩
def pcC2:List E:=pcC1++[eLt (eV 3) (eV 1),eLt (eV 3) (eV 4),eLe (eV 4) (eV 1),fnE 124 [eV 0,eV 1,eV 3,eV 4]]
def slC2:List (Nat × SV):=slC++[(5,ii (eV 3)),(6,ii (eV 4))]
def tC2:Tmpl:=⟨tmSlots 56 slC2,⟨5,3,heapC,pcC2⟩,mi (eV 1) (eV 4)⟩
def tC3:Tmpl:=⟨tmSlots 56 (slC2++[(7,ii (eV 5))]),⟨6,3,heapC,pcC2++[eLt (eV 4) (eV 1),eLt (eV 3) (eV 5),eLe (eV 5) (eV 1),fnE 125 [eV 0,eV 3,eV 4,eV 5]]⟩,mi (eV 1) (eV 5)⟩
def annCy:List Ann:=[⟨19,0,[tC1],none⟩,⟨19,2,[tC2],none⟩,⟨19,4,[tC3],none⟩]
def grw (x i k:E):E:=fnE 126 [eV 0,eV 1,eV 3,x,i,k]
/-- grown: 4 the list, 5 its length, 6 its room, 7 i -/
def slG : List (Nat × SV) := [(0, at0 0), (1, ii (eV 3)), (4, .nils), (5, .nslice 3 (eV 5) (eV 6)), (6, ii (eV 7))]
def heapG:T Blk:=heapL (fieldB 0 (eV 0) (eV 1) (eV 2)++[gone,fl (eV 4) (eV 5) (eV 6)])
def pcG:List E:=pcR++inD (eV 3) (eV 1)++[eEq (eV 5) (ln (eV 4)),eLe (.int 1) (eV 5),eLe (eV 5) (eV 1),eLe (eV 5) (eV 6),eLe (.int 0) (eV 7)]
def tG1:Tmpl:=⟨tmSlots 46 slG,⟨8,4,heapG,pcG++[eLe (eV 7) (eV 5),grw (eV 4) (eV 7) (.int 0)]⟩,mi (eV 1) (eV 7)⟩
/-- contains, equal lists -/
def spCt : Pact := ⟨40, [.nslice 0 (eV 1) (eV 2), ii (eV 3)], ⟨4, 1, heapL [fl (eV 0) (eV 1) (eV 2)], [eEq (eV 1) (ln (eV 0)), eLe (.int 0) (eV 1), eLe (eV 1) (.int 1000), eLe (eV 1) (eV 2)]⟩, [(.bool (eV 4), ⟨5, 1, heapL [fl (eV 0) (eV 1) (eV 2)], [.iff (eV 4) (fnE 132 [eV 0, eV 3])]⟩)]⟩
def spIx:Pact:=⟨45,[.nslice 0 (eV 1) (eV 2),ii (eV 3)],⟨4,1,spCt.st.heap,spCt.st.pc⟩,[(ii (eV 4),⟨5,1,spCt.st.heap,[.iff (eLe (.int 0) (eV 4)) (fnE 132 [eV 0,eV 3])]⟩)]⟩
def tIx:Tmpl:=⟨tmSlots 19 [(0,.nslice 0 (eV 1) (eV 2)),(1,ii (eV 3)),(6,.nslice 0 (eV 1) (eV 2)),(7,ii (eV 1)),(8,ii (eV 4))],⟨5,1,spCt.st.heap,spCt.st.pc++[eLe (.int 0) (eV 4),eLe (eV 4) (eV 1),.not (fnE 133 [eV 0,eV 4,eV 3])]⟩,mi (eV 1) (eV 4)⟩
def annIx:List Ann:=[⟨45,0,[tIx],none⟩]
def pcIn:List E:=[eEq (eV 2) (ln (eV 0)),eEq (eV 3) (ln (eV 1)),eLe (eV 2) (.int 20),eLe (.int 0) (eV 2),eLe (.int 0) (eV 3),eLe (eV 3) (.int 20),eLe (eV 2) (eV 4),eLe (eV 3) (eV 5)]
def hIn:T Blk:=heapL [fl (eV 0) (eV 2) (eV 4),fl (eV 1) (eV 3) (eV 5)]
def spIn:Pact:=⟨15,[.nslice 0 (eV 2) (eV 4),.nslice 1 (eV 3) (eV 5)],⟨6,2,hIn,pcIn⟩,[(.bool (eV 6),⟨7,2,hIn,[.iff (eV 6) (fnE 134 [eV 0,eV 1])]⟩)]⟩
def tIn:Tmpl:=⟨tmSlots 26 [(0,.nslice 0 (eV 2) (eV 4)),(1,.nslice 1 (eV 3) (eV 5)),(5,ii (eV 6))],⟨7,2,hIn,pcIn++[eEq (eV 2) (eV 3),eLe (.int 0) (eV 6),eLe (eV 6) (eV 2),fnE 131 [eV 0,eV 1,eV 6]]⟩,mi (eV 2) (eV 6)⟩
def annIn:List Ann:=[⟨15,0,[tIn],none⟩]
def tG2:Tmpl:=⟨tmSlots 46 [(0,at0 0),(1,ii (eV 3)),(4,.nils),(5,.nslice 4 (eV 9) (eV 10)),(6,ii (eV 7)),(19,.nslice 1 (eV 1) (eV 1)),(20,ii (eV 1)),(21,ii (eV 11))],
 ⟨12,5,heapL (fieldB 0 (eV 0) (eV 1) (eV 2)++[gone,gone,fl (eV 8) (eV 9) (eV 10)]),pcR++inD (eV 3) (eV 1)++[eEq (eV 9) (ln (eV 8)),eLe (.int 1) (eV 9),eLe (eV 9) (eV 1),eLe (eV 9) (eV 10),eLe (.int 0) (eV 7),eLt (eV 7) (eV 9),eLt (eV 7) (eV 1),eLe (.int 0) (eV 11),eLe (eV 11) (eV 1),grw (eV 8) (eV 7) (eV 11)]⟩,mi (eV 1) (eV 11)⟩
def annGr:List Ann:=[⟨32,0,[tG1],none⟩,⟨32,2,[tG2],none⟩]
def tTp:Tmpl:=⟨tmSlots 29 [(0,at0 0),(2,.nils),(3,.nslice 3 (eV 7) (eV 8)),(13,.nslice 1 (eV 1) (eV 1)),(14,ii (eV 1)),(15,ii (eV 9))],⟨10,4,heapL (fieldB 0 (eV 0) (eV 1) (eV 2)++[gone,fl (eV 6) (eV 7) (eV 8)]),pcR++[fnE 121 [eV 6,eV 0,eV 1,eV 9],eEq (eV 7) (ln (eV 6)),eLe (.int 1) (eV 7),eLe (eV 7) (eV 1),eLe (eV 7) (eV 8),eLe (.int 0) (eV 9),eLe (eV 9) (eV 1)]⟩,mi (eV 1) (eV 9)⟩
def annTp:List Ann:=[⟨14,0,[tTp],none⟩]
def natl:List Nat1:=[specNat spNew,specNat spBad,specNat spAdd,specNat spRate,specNat spBt,specNat spFl,specNat spCy,specNat spTp,specNat spIn,closedNat 8]
/-- the law -/
def pc0 : List E := []
def args:List SV:=[ii (eV 0),.bsl kG (eV 1)]
def bd0:E:=eEq (bdE (eV 1) (rw3 (eV 1)) (eV 0)) (.int 0)
def pcW:List E:=pcD (eV 0)++[eLe (rw3 (eV 1)) (.int 200),bd0]
def fld (v:Nat):List E:=[isM (eV v) (eV 0),bnd (eV v) (eV (v + 1)),eEq (ln (eV v)) (eV 0),eLe (.int 0) (eV (v + 1)),eLe (eV (v + 1)) (.int 1000)]
def blF (W v:Nat):List Blk:=fieldB W (eV v) (eV 0) (eV (v + 1))
def gn (k:Nat):List Blk:=List.replicate k gone
/-- loop 0: 8 scores of f, 9 games, 10 scores of g, 11 games, 12 i -/
def slH (b : Nat) : List (Nat × SV) := [(0, ii (eV 0)), (1, .bsl kG (eV 1)), (4, .bool (.bool false)), (5, at0 b), (7, at0 (b + 2))]
def r118 (l:E):E:=fnE 118 [l,eV 1,eV 0]
def r130 (l i:E):E:=fnE 130 [l,eV 1,eV 0,i]
def hp0:T Blk:=heapL (gn 8++blF 8 8++blF 10 10)
def tL0:Tmpl:=⟨tmSlots 271 (slH 8++[(9,ii (eV 12))]),⟨13,12,hp0,pcW++fld 8++fld 10++[r118 (eV 8),r130 (eV 10) (pl (eV 12) (.int 1)),eLe (.int (-1)) (eV 12),eLt (eV 12) (rw3 (eV 1)),eEq (eV 11) (mi (mi (rw3 (eV 1)) (.int 1)) (eV 12))]⟩,pl (eV 12) (.int 1)⟩
def exL0:Out:=⟨.exit 0,tmSlots 271 (slH 8),⟨13,12,hp0,pcW++fld 8++fld 10++[r118 (eV 8),r118 (eV 10)]⟩⟩
def yL0:LoopX:=⟨8,8,[exL0]⟩
def annL0 (y:Option LoopX):Ann:=⟨4,0,[tL0],y⟩
/-- loop 2: 24 scores of f, 26 of g, 28 the top, 31 a -/
def topE (x l : E) : E := fnE 121 [x, l, eV 0, eV 0]
def pcT (l t:Nat):List E:=[topE (eV t) (eV l),eEq (eV (t + 1)) (ln (eV t)),eLe (.int 1) (eV (t + 1)),eLe (eV (t + 1)) (eV 0),eLe (eV (t + 1)) (.int 20),eLe (eV (t + 1)) (eV (t + 2))]
def flT (t:Nat):Blk:=fl (eV t) (eV (t + 1)) (eV (t + 2))
def slT (b t:Nat):SV:=.nslice b (eV (t + 1)) (eV (t + 2))
def hp2:List Blk:=gn 16++blF 16 24++blF 18 26++[flT 28]
def pc2:List E:=pcW++fld 24++fld 26++[r118 (eV 24),r118 (eV 26)]++pcT 24 28
def sl2:List (Nat × SV):=slH 16++[(10,slT 20 28)]
def tL2:Tmpl:=⟨tmSlots 271 (sl2++[(11,ii (eV 31))]),⟨32,21,heapL hp2,pc2++[eLe (.int 0) (eV 31),eLe (eV 31) (eV 0)]⟩,mi (eV 0) (eV 31)⟩
def exL2:Out:=⟨.exit 2,tmSlots 271 sl2,⟨32,21,heapL hp2,pc2⟩⟩
def yL2:LoopX:=⟨24,16,[exL2]⟩
def annL2 (y:Option LoopX):Ann:=⟨4,2,[tL2],y⟩
def tL4:Tmpl:=⟨tmSlots 271 (sl2++[(11,ii (eV 31)),(12,.bool (eV 32)),(13,ii (eV 33))]),⟨34,21,heapL hp2,pc2++[eLe (.int 0) (eV 31),eLt (eV 31) (eV 0),.iff (eV 32) (fnE 127 [eV 24,eV 31,eV 33]),eLe (.int 0) (eV 33),eLe (eV 33) (eV 0)]⟩,mi (eV 0) (eV 33)⟩
def annL4:Ann:=⟨4,4,[tL4],none⟩
/-- loop 6: 40 scores, 42 the top, 45 i, 46 whether any two beat each other -/
def hp6 : List Blk := gn 24 ++ blF 24 40 ++ [flT 42]
def pc6:List E:=pcD (eV 0)++fld 40++pcT 40 42
def tour (i:E):E:=fnE 129 [eV 40,eV 42,i]
def sl6:List (Nat × SV):=[(0,ii (eV 0)),(1,.bsl kG (eV 1)),(4,.bool (.bool false)),(5,at0 24),(10,slT 26 42),(22,.bool (eV 46))]
def tL6:Tmpl:=⟨tmSlots 271 (sl6++[(23,ii (eV 45))]),⟨47,27,heapL hp6,pc6++[eLe (.int 0) (eV 45),eLe (eV 45) (eV 43),.iff (eV 46) (tour (eV 45))]⟩,mi (eV 43) (eV 45)⟩
def exL6:Out:=⟨.exit 6,tmSlots 271 sl6,⟨47,27,heapL hp6,pc6++[.iff (eV 46) (tour (eV 43))]⟩⟩
def yL6:LoopX:=⟨40,24,[exL6]⟩
def annL6 (y:Option LoopX):Ann:=⟨4,6,[tL6],y⟩
def sl8:List (Nat × SV):=(sl6.filter (fun p=>p.1 != 22))++[(22,.bool (eV 48)),(23,ii (eV 45)),(26,ii (eV 49))]
def tL8:Tmpl:=⟨tmSlots 271 sl8,⟨50,27,heapL hp6,pc6++[eLe (.int 0) (eV 45),eLt (eV 45) (eV 43),.iff (eV 48) (.and (tour (eV 45)) (fnE 128 [eV 40,eV 42,eV 45,eV 49])),eLe (.int 0) (eV 49),eLe (eV 49) (eV 45)]⟩,mi (eV 45) (eV 49)⟩
def annL8:Ann:=⟨4,8,[tL8],none⟩
def nGr:List Nat1:=[specNat spBt,specNat spCt,sortNat 41]
def mkL1 (x:E):E:=mkList [x]

def natl0:List Nat1:=nats
theorem natl0_ok:∀ x∈natl0,NatOk Try.prog x:=nats_ok

theorem reckoned0:withTab Try.prog (fun tb=>checkAll outTrue (run Try.prog (tb.plus [] [] natl0) 3000 (.call 8 []) .nil (varSt 0 []) SX.one))=true:=by kernel_rfl
def natl1:List Nat1:=closedNat 8::natl0
theorem natl1_ok:∀ x∈natl1,NatOk Try.prog x:=by
 intro x hx
 rcases List.mem_cons.1 hx with rfl | hx
 ·exact closed_of_check good (facts:=[]) all_nil (anns:=[]) (plainAnns_ok [] rfl) (nats:=natl0) natl0_ok reckoned0
 ·exact natl0_ok x hx

def F0:E:=(.imp (.not (.cmp .lss Q0 (.int 2))) (.fn 115 (.pr (.fn 5 (.pr Q0 (.fn 30 (.int 0)))) (.pr (.int 0) Q0))))
theorem G0:Tr F0:=ii1 fun ρ p0=>by
 have:=@t115_zero ρ (.int 0) (.int 0) Q0
 try simp only [smA,smW] at *
 grind
def F1:E:=(.imp (.not (.cmp .lss Q0 (.int 2))) (.cmp .eql (.mx Q0 (.int 0)) Q0))
theorem G1:Tr F1:=ii1 fun ρ p0=>by
 try simp only [smA,smW] at *
 grind
def F2:E:=(.imp (.and Q2 (.and Q3 (.and Q6 Q8))) (.fn 115 (.pr (.fn 2 (.pr Q4 (.pr Q1 (.fn 28 (.pr (.pr (.var 4) Q0) (.fn 5 (.pr Q0 (.int 0)))))))) (.pr Q9 Q0))))
theorem G2:Tr F2:=ii4 fun ρ p0 p1 p2 p3=>by
 have:=@wrap_add ρ Q1 (.int 1)
 have:=@t115_step ρ _ (.pr (.var 4) Q0) _ _ Q9 (.int 0) p2
 try simp only [smA,smW] at *
 grind
def F3:E:=(.imp Q13 (.fn 116 (.pr Q4 Q0)))
theorem G3:Tr F3:=ii3 fun ρ p0 p1 p2=>by
 have:=@t116_of ρ _ _ _ p2
 try simp only [smA,smW] at *
 grind
def F4:E:=(.imp Q15 (.not (.cmp .lss Q9 (.int 0))))
theorem G4:Tr F4:=ii3 fun ρ p0 p1 p2=>by
 try simp only [smA,smW] at *
 obtain ⟨a3,ea3,qa3⟩:=cs_i64 ((E.I ρ Q1) + (1))
 try simp only [ea3] at *
 grind
def F5:E:=(.imp Q13 (.fn 101 (.pr Q4 Q0)))
theorem G5:Tr F5:=ii3 fun ρ p0 p1 p2=>by
 have:=fun e=>@t101_of ρ _ _ (@t116_of ρ _ _ _ p2 e)
 try simp only [smA,smW] at *
 grind
def F6:E:=(.imp Q17 (.not (.cmp .lss Q0 Q9)))
theorem G6:Tr F6:=ii4 fun ρ p0 p1 p2 p3=>by
 try simp only [smA,smW] at *
 obtain ⟨a3,ea3,qa3⟩:=cs_i64 ((E.I ρ Q1) + (1))
 try simp only [ea3] at *
 grind
def F7:E:=(.imp Q13 (.fn 117 (.pr Q4 (.int 0))))
theorem G7:Tr F7:=ii3 fun ρ p0 p1 p2=>by
 have:=fun e=>@t117_of ρ _ _ (.int 0) (@t116_of ρ _ _ _ p2 e)
 try simp only [smA,smW] at *
 grind
def F8:E:=(.imp Q15 (.cmp .lss (.fn 7 (.pr Q0 Q9)) (.fn 7 (.pr Q0 Q1))))
theorem G8:Tr F8:=ii3 fun ρ p0 p1 p2=>by
 try simp only [smA,smW] at *
 obtain ⟨a3,ea3,qa3⟩:=cs_i64 ((E.I ρ Q1) + (1))
 try simp only [ea3] at *
 grind
def F9:E:=(.imp Q17 (.not (.cmp .lss (.fn 7 (.pr Q0 Q9)) (.int 0))))
theorem G9:Tr F9:=ii4 fun ρ p0 p1 p2 p3=>by
 try simp only [smA,smW] at *
 obtain ⟨a3,ea3,qa3⟩:=cs_i64 ((E.I ρ Q1) + (1))
 try simp only [ea3] at *
 grind
namespace p0
def facts:List E:=[F0,F1,F2,F3,F4,F5,F6,F7,F8,F9]
theorem facts_ok:∀ e∈facts,Tr e:=(ac G0 (ac G1 (ac G2 (ac G3 (ac G4 (ac G5 (ac G6 (ac G7 (ac G8 (ac G9 all_nil))))))))))
end p0
theorem spec0_0:NatOk Try.prog (specNat (spNew)) :=
 spec_of_check good (facts:=p0.facts) p0.facts_ok (anns:=annNew) (plainAnns_ok _ (by kernel_rfl)) (nats:=natl1) natl1_ok (n:=3000) (by kernel_rfl)
def natl2:List Nat1:=specNat (spNew)::natl1
theorem natl2_ok:∀ x∈natl2,NatOk Try.prog x:=by
 intro x hx
 rcases List.mem_cons.1 hx with rfl | hx
 ·exact spec0_0
 exact natl1_ok x hx

def F10:E:=(.cmp .eql (.fn 104 (.pr Q18 (.pr (.int 0) Q0))) (.int 0))
theorem G10:Tr F10:=fun ρ=>by
 unfold F10
 have:=@t104_zero ρ Q18 Q0 (.int 0)
 try simp only [smA,smW] at *
 grind
def F11:E:=(.imp (.and Q19 (.and Q20 Q3)) Q21)
theorem G11:Tr F11:=ii3 fun ρ p0 p1 p2=>by
 have:=@t104_vals ρ Q18 Q0 (.fn 9 (.pr Q18 (.int 3)))
 have:=fun e=>@t104_at ρ Q18 Q0 Q1 e
 try simp only [smA,smW] at *
 grind
def F12:E:=(.imp (.and Q19 (.and (.not Q22) (.and Q23 (.and (.not Q24) (.and Q25 (.and (.not Q26) (.and (.not Q27) (.and (.not Q20) (.and Q3 (.and Q28 Q30)))))))))) (.cmp .eql (.fn 104 (.pr Q18 (.pr Q9 Q0))) (.int 0)))
theorem G12:Tr F12:=ii11 fun ρ p0 p1 p2 p3 p4 p5 p6 p7 p8 p9 p10=>by
 have:=@wrap_add ρ Q1 (.int 1)
 have:=@t104_step ρ Q18 Q0 Q1 Q9
 try simp only [smA,smW] at *
 grind
def F13:E:=(.imp (.and Q19 (.and Q27 Q3)) Q21)
theorem G13:Tr F13:=ii3 fun ρ p0 p1 p2=>by
 have:=@t104_vals ρ Q18 Q0 (.fn 9 (.pr Q18 (.int 3)))
 have:=fun e=>@t104_at ρ Q18 Q0 Q1 e
 try simp only [smA,smW] at *
 grind
def F14:E:=(.imp (.and Q19 (.and Q26 Q3)) Q21)
theorem G14:Tr F14:=ii3 fun ρ p0 p1 p2=>by
 have:=@t104_vals ρ Q18 Q0 (.fn 9 (.pr Q18 (.int 3)))
 have:=fun e=>@t104_at ρ Q18 Q0 Q1 e
 try simp only [smA,smW] at *
 grind
def F15:E:=(.imp (.and Q19 (.and (.not Q25) Q3)) Q21)
theorem G15:Tr F15:=ii3 fun ρ p0 p1 p2=>by
 have:=@t104_vals ρ Q18 Q0 (.fn 9 (.pr Q18 (.int 3)))
 have:=fun e=>@t104_at ρ Q18 Q0 Q1 e
 try simp only [smA,smW] at *
 grind
def F16:E:=(.imp (.and Q19 (.and Q24 Q3)) Q21)
theorem G16:Tr F16:=ii3 fun ρ p0 p1 p2=>by
 have:=@t104_vals ρ Q18 Q0 (.fn 9 (.pr Q18 (.int 3)))
 have:=fun e=>@t104_at ρ Q18 Q0 Q1 e
 try simp only [smA,smW] at *
 grind
def F17:E:=(.imp (.and Q19 (.and (.not Q23) Q3)) Q21)
theorem G17:Tr F17:=ii3 fun ρ p0 p1 p2=>by
 have:=@t104_vals ρ Q18 Q0 (.fn 9 (.pr Q18 (.int 3)))
 have:=fun e=>@t104_at ρ Q18 Q0 Q1 e
 try simp only [smA,smW] at *
 grind
def F18:E:=(.imp (.and Q19 (.and Q22 Q3)) Q21)
theorem G18:Tr F18:=ii3 fun ρ p0 p1 p2=>by
 have:=@t104_vals ρ Q18 Q0 (.fn 9 (.pr Q18 (.int 3)))
 have:=fun e=>@t104_at ρ Q18 Q0 Q1 e
 try simp only [smA,smW] at *
 grind
def F19:E:=(.imp (.and (.not Q19) (.and Q32 Q28)) (.cmp .eql (.fn 104 (.pr Q18 (.pr (.fn 9 (.pr Q18 (.int 3))) Q0))) (.int 0)))
theorem G19:Tr F19:=ii3 fun ρ p0 p1 p2=>by
 have:=@t104_congr ρ Q18 Q0 Q1 (.fn 9 (.pr Q18 (.int 3)))
 try simp only [smA,smW] at *
 grind
def F20:E:=(.imp Q34 (.not (.cmp .lss Q9 (.int 0))))
theorem G20:Tr F20:=ii3 fun ρ p0 p1 p2=>by
 try simp only [smA,smW] at *
 obtain ⟨a7,ea7,qa7⟩:=cs_i64 ((E.I ρ Q1) + (1))
 try simp only [ea7] at *
 grind
def F21:E:=(.imp Q36 (.not (.cmp .lss (.fn 9 (.pr Q18 (.int 3))) Q9)))
theorem G21:Tr F21:=ii4 fun ρ p0 p1 p2 p3=>by
 try simp only [smA,smW] at *
 obtain ⟨a7,ea7,qa7⟩:=cs_i64 ((E.I ρ Q1) + (1))
 try simp only [ea7] at *
 grind
def F22:E:=(.imp Q34 (.cmp .lss (.fn 7 (.pr (.fn 9 (.pr Q18 (.int 3))) Q9)) (.fn 7 (.pr (.fn 9 (.pr Q18 (.int 3))) Q1))))
theorem G22:Tr F22:=ii3 fun ρ p0 p1 p2=>by
 try simp only [smA,smW] at *
 obtain ⟨a7,ea7,qa7⟩:=cs_i64 ((E.I ρ Q1) + (1))
 try simp only [ea7] at *
 grind
def F23:E:=(.imp Q36 (.not (.cmp .lss (.fn 7 (.pr (.fn 9 (.pr Q18 (.int 3))) Q9)) (.int 0))))
theorem G23:Tr F23:=ii4 fun ρ p0 p1 p2 p3=>by
 try simp only [smA,smW] at *
 obtain ⟨a7,ea7,qa7⟩:=cs_i64 ((E.I ρ Q1) + (1))
 try simp only [ea7] at *
 grind
namespace p1
def facts:List E:=[F10,F11,F12,F13,F14,F15,F16,F17,F18,F19,F20,F21,F22,F23]
theorem facts_ok:∀ e∈facts,Tr e:=(ac G10 (ac G11 (ac G12 (ac G13 (ac G14 (ac G15 (ac G16 (ac G17 (ac G18 (ac G19 (ac G20 (ac G21 (ac G22 (ac G23 all_nil))))))))))))))
end p1
theorem spec1_0:NatOk Try.prog (specNat (spBad)) :=
 spec_of_check good (facts:=p1.facts) p1.facts_ok (anns:=annBad) (plainAnns_ok _ (by kernel_rfl)) (nats:=natl2) natl2_ok (n:=3000) (by kernel_rfl)
def natl3:List Nat1:=specNat (spBad)::natl2
theorem natl3_ok:∀ x∈natl3,NatOk Try.prog x:=by
 intro x hx
 rcases List.mem_cons.1 hx with rfl | hx
 ·exact spec1_0
 exact natl2_ok x hx

def F24:E:=(.cmp .eql (.fn 104 (.pr Q1 (.pr (.int 0) Q18))) (.int 0))
theorem G24:Tr F24:=fun ρ=>by
 unfold F24
 have:=@t104_zero ρ Q1 Q18 (.int 0)
 try simp only [smA,smW] at *
 grind
def F25:E:=(.imp (.and Q38 (.and Q39 Q40)) Q41)
theorem G25:Tr F25:=ii3 fun ρ p0 p1 p2=>by
 have:=@t104_vals ρ Q1 Q18 (.fn 9 (.pr Q1 (.int 3)))
 have:=fun e=>@t104_at ρ Q1 Q18 Q37 e
 try simp only [smA,smW] at *
 grind
def F26:E:=(.imp (.and Q38 (.and Q42 Q40)) Q41)
theorem G26:Tr F26:=ii3 fun ρ p0 p1 p2=>by
 have:=@t104_vals ρ Q1 Q18 (.fn 9 (.pr Q1 (.int 3)))
 have:=fun e=>@t104_at ρ Q1 Q18 Q37 e
 try simp only [smA,smW] at *
 grind
def F27:E:=(.imp (.and Q38 (.and Q43 Q40)) Q41)
theorem G27:Tr F27:=ii3 fun ρ p0 p1 p2=>by
 have:=@t104_vals ρ Q1 Q18 (.fn 9 (.pr Q1 (.int 3)))
 have:=fun e=>@t104_at ρ Q1 Q18 Q37 e
 try simp only [smA,smW] at *
 grind
def F28:E:=(.imp (.and Q38 (.and (.not Q39) (.and Q44 (.and (.not Q42) (.and Q45 (.and (.not Q46) (.and (.not Q47) (.and (.not Q43) (.and Q48 (.and Q40 Q49)))))))))) (.cmp .eql (.fn 104 (.pr Q1 (.pr Q50 Q18))) (.int 0)))
theorem G28:Tr F28:=ii11 fun ρ p0 p1 p2 p3 p4 p5 p6 p7 p8 p9 p10=>by
 have:=@wrap_add ρ Q37 (.int 1)
 have:=@t104_step ρ Q1 Q18 Q37 Q50
 try simp only [smA,smW] at *
 grind
def F29:E:=(.imp (.and Q38 (.and Q47 Q40)) Q41)
theorem G29:Tr F29:=ii3 fun ρ p0 p1 p2=>by
 have:=@t104_vals ρ Q1 Q18 (.fn 9 (.pr Q1 (.int 3)))
 have:=fun e=>@t104_at ρ Q1 Q18 Q37 e
 try simp only [smA,smW] at *
 grind
def F30:E:=(.imp (.and Q38 (.and Q46 Q40)) Q41)
theorem G30:Tr F30:=ii3 fun ρ p0 p1 p2=>by
 have:=@t104_vals ρ Q1 Q18 (.fn 9 (.pr Q1 (.int 3)))
 have:=fun e=>@t104_at ρ Q1 Q18 Q37 e
 try simp only [smA,smW] at *
 grind
def F31:E:=(.imp (.and Q38 (.and (.not Q45) Q40)) Q41)
theorem G31:Tr F31:=ii3 fun ρ p0 p1 p2=>by
 have:=@t104_vals ρ Q1 Q18 (.fn 9 (.pr Q1 (.int 3)))
 have:=fun e=>@t104_at ρ Q1 Q18 Q37 e
 try simp only [smA,smW] at *
 grind
def F32:E:=(.imp (.and Q38 (.and (.not Q44) Q40)) Q41)
theorem G32:Tr F32:=ii3 fun ρ p0 p1 p2=>by
 have:=@t104_vals ρ Q1 Q18 (.fn 9 (.pr Q1 (.int 3)))
 have:=fun e=>@t104_at ρ Q1 Q18 Q37 e
 try simp only [smA,smW] at *
 grind
def F33:E:=(.imp Q56 (.not (.cmp .lss (.ar .sub .i64 (.int 100000) Q4) (.fn 9 (.pr Q1 (.int 3))))))
theorem G33:Tr F33:=ii3 fun ρ p0 p1 p2=>by
 try simp only [smA,smW] at *
 obtain ⟨a6,ea6,qa6⟩:=cs_i64 ((100000) - (E.I ρ Q4))
 try simp only [ea6] at *
 grind
def F34:E:=(.imp (.and (.not Q38) (.and Q58 Q49)) Q59)
theorem G34:Tr F34:=ii3 fun ρ p0 p1 p2=>by
 have:=@t104_congr ρ Q1 Q18 Q37 (.fn 9 (.pr Q1 (.int 3)))
 try simp only [smA,smW] at *
 try simp only [ea7] at *
 grind
def F35:E:=(.imp (.and Q38 (.and Q48 Q40)) (.not (.cmp .lss Q50 (.int 0))))
theorem G35:Tr F35:=ii3 fun ρ p0 p1 p2=>by
 try simp only [smA,smW] at *
 obtain ⟨a9,ea9,qa9⟩:=cs_i64 ((E.I ρ Q37) + (1))
 try simp only [ea9] at *
 grind
def F36:E:=(.imp Q62 (.not (.cmp .lss (.fn 9 (.pr Q1 (.int 3))) Q50)))
theorem G36:Tr F36:=ii4 fun ρ p0 p1 p2 p3=>by
 try simp only [smA,smW] at *
 obtain ⟨a9,ea9,qa9⟩:=cs_i64 ((E.I ρ Q37) + (1))
 try simp only [ea9] at *
 grind
def F37:E:=(.imp (.fn 101 (.pr Q0 Q18)) (.fn 103 (.pr Q0 (.pr Q0 (.pr Q1 (.pr (.int 0) Q18))))))
theorem G37:Tr F37:=ii1 fun ρ p0=>by
 have:=@t103_zero ρ Q1 _ _ (.int 0) p0
 try simp only [smA,smW] at *
 grind
def F38:E:=(.imp (.and Q38 (.and Q48 Q40)) (.cmp .lss (.fn 7 (.pr (.fn 9 (.pr Q1 (.int 3))) Q50)) (.fn 7 (.pr (.fn 9 (.pr Q1 (.int 3))) Q37))))
theorem G38:Tr F38:=ii3 fun ρ p0 p1 p2=>by
 try simp only [smA,smW] at *
 obtain ⟨a9,ea9,qa9⟩:=cs_i64 ((E.I ρ Q37) + (1))
 try simp only [ea9] at *
 grind
def F39:E:=(.imp (.fn 117 (.pr Q0 Q4)) (.fn 117 (.pr Q0 (.fn 6 (.pr Q4 (.int 0))))))
theorem G39:Tr F39:=ii1 fun ρ p0=>by
 have:=@t117_congr ρ _ (.fn 6 (.pr Q4 (.int 0))) _ p0
 try simp only [smA,smW] at *
 grind
def F40:E:=(.imp Q62 (.not (.cmp .lss (.fn 7 (.pr (.fn 9 (.pr Q1 (.int 3))) Q50)) (.int 0))))
theorem G40:Tr F40:=ii4 fun ρ p0 p1 p2 p3=>by
 try simp only [smA,smW] at *
 obtain ⟨a9,ea9,qa9⟩:=cs_i64 ((E.I ρ Q37) + (1))
 try simp only [ea9] at *
 grind
def F41:E:=(.imp Q67 (.not (.cmp .lss (.fn 1 (.pr Q1 (.fn 6 (.pr (.fn 8 (.pr Q63 (.int 3))) (.int 0))))) (.int 0))))
theorem G41:Tr F41:=ii3 fun ρ p0 p1 p2=>by
 have:=fun e=>@t104_at ρ Q1 Q18 Q63 e
 try simp only [smA,smW] at *
 grind
def F42:E:=(.imp Q67 (.not (.cmp .lss (.fn 1 (.pr Q1 (.fn 6 (.pr (.fn 8 (.pr Q63 (.int 3))) (.int 1))))) (.int 0))))
theorem G42:Tr F42:=ii3 fun ρ p0 p1 p2=>by
 have:=fun e=>@t104_at ρ Q1 Q18 Q63 e
 try simp only [smA,smW] at *
 grind
def F43:E:=(.imp Q56 (.cmp .eql Q68 (.fn 6 (.pr Q4 (.fn 9 (.pr Q1 (.int 3)))))))
theorem G43:Tr F43:=ii3 fun ρ p0 p1 p2=>by
 have:=@rw3_nn ρ (.pr Q1 (.int 3))
 try simp only [smA,smW] at *
 obtain ⟨a7,ea7,qa7⟩:=cs_i64 ((E.I ρ Q4) + (E.I ρ (.fn 9 (.pr Q1 (.int 3)))))
 try simp only [ea7] at *
 grind
def F44:E:=(.imp Q67 (.cmp .lss (.fn 1 (.pr Q1 (.fn 6 (.pr (.fn 8 (.pr Q63 (.int 3))) (.int 0))))) Q18))
theorem G44:Tr F44:=ii3 fun ρ p0 p1 p2=>by
 have:=fun e=>@t104_at ρ Q1 Q18 Q63 e
 try simp only [smA,smW] at *
 grind
def F45:E:=(.imp Q67 (.cmp .lss (.fn 1 (.pr Q1 (.fn 6 (.pr (.fn 8 (.pr Q63 (.int 3))) (.int 1))))) Q18))
theorem G45:Tr F45:=ii3 fun ρ p0 p1 p2=>by
 have:=fun e=>@t104_at ρ Q1 Q18 Q63 e
 try simp only [smA,smW] at *
 grind
def F46:E:=(.imp (.and (.not Q64) (.and Q73 Q75)) (.fn 103 (.pr Q69 (.pr Q0 (.pr Q1 (.pr (.fn 9 (.pr Q1 (.int 3))) Q18))))))
theorem G46:Tr F46:=ii3 fun ρ p0 p1 p2=>by
 have:=@t103_congr ρ _ _ _ _ _ (.fn 9 (.pr Q1 (.int 3))) p1
 try simp only [smA,smW] at *
 grind
def F47:E:=(.imp (.and (.not Q64) (.and Q77 (.and Q75 Q56))) (.fn 117 (.pr Q69 Q68)))
theorem G47:Tr F47:=ii6 fun ρ p0 p1 p2 p3 p4 p5=>by
 have:=@wrap_add ρ Q4 (.fn 9 (.pr Q1 (.int 3)))
 have:=@rw3_nn ρ (.pr Q1 (.int 3))
 have:=@t117_congr ρ _ Q68 _ p1
 try simp only [smA,smW] at *
 grind
def F48:E:=(.imp Q80 (.cmp .lss (.fn 1 (.pr Q1 (.fn 6 (.pr (.fn 8 (.pr Q63 (.int 3))) (.int 1))))) (.fn 0 (.fn 1 (.pr Q69 (.fn 1 (.pr Q1 (.fn 6 (.pr (.fn 8 (.pr Q63 (.int 3))) (.int 0))))))))))
theorem G48:Tr F48:=ii4 fun ρ p0 p1 p2 p3=>by
 have:=fun e=>@t104_at ρ Q1 Q18 Q63 e
 have:=@t101_row ρ _ (.fn 1 (.pr Q1 (.fn 6 (.pr (.fn 8 (.pr Q63 (.int 3))) (.int 0))))) _ p0
 try simp only [smA,smW] at *
 grind
def F49:E:=(.imp Q80 (.cmp .lss (.fn 1 (.pr Q1 (.fn 6 (.pr (.fn 8 (.pr Q63 (.int 3))) (.int 0))))) (.fn 0 (.fn 1 (.pr Q69 (.fn 1 (.pr Q1 (.fn 6 (.pr (.fn 8 (.pr Q63 (.int 3))) (.int 1))))))))))
theorem G49:Tr F49:=ii4 fun ρ p0 p1 p2 p3=>by
 have:=fun e=>@t104_at ρ Q1 Q18 Q63 e
 have:=@t101_row ρ _ (.fn 1 (.pr Q1 (.fn 6 (.pr (.fn 8 (.pr Q63 (.int 3))) (.int 1))))) _ p0
 try simp only [smA,smW] at *
 grind
def F50:E:=(.imp Q82 (.not (.cmp .lss Q83 (.int 0))))
theorem G50:Tr F50:=ii3 fun ρ p0 p1 p2=>by
 try simp only [smA,smW] at *
 obtain ⟨a8,ea8,qa8⟩:=cs_i64 ((E.I ρ Q63) + (1))
 try simp only [ea8] at *
 grind
def F51:E:=(.imp Q85 (.not (.cmp .lss (.fn 9 (.pr Q1 (.int 3))) Q83)))
theorem G51:Tr F51:=ii4 fun ρ p0 p1 p2 p3=>by
 try simp only [smA,smW] at *
 obtain ⟨a8,ea8,qa8⟩:=cs_i64 ((E.I ρ Q63) + (1))
 try simp only [ea8] at *
 grind
def F52:E:=(.imp Q80 (.cmp .lss (.fn 1 (.pr Q1 (.fn 6 (.pr (.fn 8 (.pr Q63 (.int 3))) (.int 0))))) (.fn 0 (.fn 1 (.pr (.fn 2 (.pr Q69 (.pr (.fn 1 (.pr Q1 (.fn 6 (.pr (.fn 8 (.pr Q63 (.int 3))) (.int 0))))) (.fn 21 (.pr (.fn 1 (.pr Q69 (.fn 1 (.pr Q1 (.fn 6 (.pr (.fn 8 (.pr Q63 (.int 3))) (.int 0))))))) (.fn 2 (.pr (.fn 1 (.pr Q69 (.fn 1 (.pr Q1 (.fn 6 (.pr (.fn 8 (.pr Q63 (.int 3))) (.int 0))))))) (.pr (.fn 1 (.pr Q1 (.fn 6 (.pr (.fn 8 (.pr Q63 (.int 3))) (.int 1))))) Q86)))))))) (.fn 1 (.pr Q1 (.fn 6 (.pr (.fn 8 (.pr Q63 (.int 3))) (.int 1))))))))))
theorem G52:Tr F52:=ii4 fun ρ p0 p1 p2 p3=>by
 have:=fun e=>@t104_at ρ Q1 Q18 Q63 e
 have:=fun e1 e2=>@t101_row ρ _ (.fn 1 (.pr Q1 (.fn 6 (.pr (.fn 8 (.pr Q63 (.int 3))) (.int 1))))) _ (@t101_set ρ Q69 (.fn 1 (.pr Q1 (.fn 6 (.pr (.fn 8 (.pr Q63 (.int 3))) (.int 0))))) (.fn 1 (.pr Q1 (.fn 6 (.pr (.fn 8 (.pr Q63 (.int 3))) (.int 1))))) _ Q86 (.fn 1 (.pr Q69 (.fn 1 (.pr Q1 (.fn 6 (.pr (.fn 8 (.pr Q63 (.int 3))) (.int 0))))))) p0 e1 e2)
 try simp only [smA,smW] at *
 grind
def F53:E:=(.imp (.and Q64 (.and Q87 Q93)) (.fn 103 (.pr (.fn 2 (.pr Q69 (.pr (.fn 1 (.pr Q1 (.fn 6 (.pr (.fn 8 (.pr Q63 (.int 3))) (.int 0))))) (.fn 21 (.pr (.fn 1 (.pr Q69 (.fn 1 (.pr Q1 (.fn 6 (.pr (.fn 8 (.pr Q63 (.int 3))) (.int 0))))))) (.fn 2 (.pr (.fn 1 (.pr Q69 (.fn 1 (.pr Q1 (.fn 6 (.pr (.fn 8 (.pr Q63 (.int 3))) (.int 0))))))) (.pr (.fn 1 (.pr Q1 (.fn 6 (.pr (.fn 8 (.pr Q63 (.int 3))) (.int 1))))) Q94)))))))) Q96)))
theorem G53:Tr F53:=ii9 fun ρ p0 p1 p2 p3 p4 p5 p6 p7 p8=>by
 have:=@wrap_add ρ (.fn 1 (.pr (.fn 1 (.pr Q69 (.fn 1 (.pr Q1 (.fn 6 (.pr (.fn 8 (.pr Q63 (.int 3))) (.int 0))))))) (.fn 1 (.pr Q1 (.fn 6 (.pr (.fn 8 (.pr Q63 (.int 3))) (.int 1))))))) (.int 2)
 have:=@wrap_add ρ Q63 (.int 1)
 have:=fun e=>@t104_at ρ Q1 Q18 Q63 e
 have:=@t117_at ρ _ (.fn 1 (.pr Q1 (.fn 6 (.pr (.fn 8 (.pr Q63 (.int 3))) (.int 0))))) (.fn 1 (.pr Q1 (.fn 6 (.pr (.fn 8 (.pr Q63 (.int 3))) (.int 1))))) _ _ p2 p3
 have:=@t103_one ρ _ _ _ (.fn 1 (.pr Q1 (.fn 6 (.pr (.fn 8 (.pr Q63 (.int 3))) (.int 0))))) (.fn 1 (.pr Q1 (.fn 6 (.pr (.fn 8 (.pr Q63 (.int 3))) (.int 1))))) _ _ Q94 (.fn 1 (.pr Q69 (.fn 1 (.pr Q1 (.fn 6 (.pr (.fn 8 (.pr Q63 (.int 3))) (.int 0))))))) Q83 p4 p3
 try simp only [smA,smW] at *
 grind
def F54:E:=(.imp (.and Q64 (.and Q97 Q93)) (.fn 103 (.pr (.fn 2 (.pr Q69 (.pr (.fn 1 (.pr Q1 (.fn 6 (.pr (.fn 8 (.pr Q63 (.int 3))) (.int 1))))) (.fn 21 (.pr (.fn 1 (.pr Q69 (.fn 1 (.pr Q1 (.fn 6 (.pr (.fn 8 (.pr Q63 (.int 3))) (.int 1))))))) (.fn 2 (.pr (.fn 1 (.pr Q69 (.fn 1 (.pr Q1 (.fn 6 (.pr (.fn 8 (.pr Q63 (.int 3))) (.int 1))))))) (.pr (.fn 1 (.pr Q1 (.fn 6 (.pr (.fn 8 (.pr Q63 (.int 3))) (.int 0))))) Q98)))))))) Q96)))
theorem G54:Tr F54:=ii9 fun ρ p0 p1 p2 p3 p4 p5 p6 p7 p8=>by
 have:=@wrap_add ρ (.fn 1 (.pr (.fn 1 (.pr Q69 (.fn 1 (.pr Q1 (.fn 6 (.pr (.fn 8 (.pr Q63 (.int 3))) (.int 1))))))) (.fn 1 (.pr Q1 (.fn 6 (.pr (.fn 8 (.pr Q63 (.int 3))) (.int 0))))))) (.int 2)
 have:=@wrap_add ρ Q63 (.int 1)
 have:=fun e=>@t104_at ρ Q1 Q18 Q63 e
 have:=@t117_at ρ _ (.fn 1 (.pr Q1 (.fn 6 (.pr (.fn 8 (.pr Q63 (.int 3))) (.int 1))))) (.fn 1 (.pr Q1 (.fn 6 (.pr (.fn 8 (.pr Q63 (.int 3))) (.int 0))))) _ _ p2 p3
 have:=@t103_one ρ _ _ _ (.fn 1 (.pr Q1 (.fn 6 (.pr (.fn 8 (.pr Q63 (.int 3))) (.int 1))))) (.fn 1 (.pr Q1 (.fn 6 (.pr (.fn 8 (.pr Q63 (.int 3))) (.int 0))))) _ _ Q98 (.fn 1 (.pr Q69 (.fn 1 (.pr Q1 (.fn 6 (.pr (.fn 8 (.pr Q63 (.int 3))) (.int 1))))))) Q83 p4 p3
 try simp only [smA,smW] at *
 grind
def F55:E:=(.imp Q101 (.fn 101 (.pr (.fn 2 (.pr Q69 (.pr (.fn 1 (.pr Q1 (.fn 6 (.pr (.fn 8 (.pr Q63 (.int 3))) (.int 0))))) (.fn 21 (.pr (.fn 1 (.pr Q69 (.fn 1 (.pr Q1 (.fn 6 (.pr (.fn 8 (.pr Q63 (.int 3))) (.int 0))))))) (.fn 2 (.pr (.fn 1 (.pr Q69 (.fn 1 (.pr Q1 (.fn 6 (.pr (.fn 8 (.pr Q63 (.int 3))) (.int 0))))))) (.pr (.fn 1 (.pr Q1 (.fn 6 (.pr (.fn 8 (.pr Q63 (.int 3))) (.int 1))))) Q94)))))))) Q18)))
theorem G55:Tr F55:=ii4 fun ρ p0 p1 p2 p3=>by
 have:=fun e=>@t104_at ρ Q1 Q18 Q63 e
 have:=fun e0 e1=>(@t101_set ρ Q69 (.fn 1 (.pr Q1 (.fn 6 (.pr (.fn 8 (.pr Q63 (.int 3))) (.int 0))))) (.fn 1 (.pr Q1 (.fn 6 (.pr (.fn 8 (.pr Q63 (.int 3))) (.int 1))))) _ Q94 (.fn 1 (.pr Q69 (.fn 1 (.pr Q1 (.fn 6 (.pr (.fn 8 (.pr Q63 (.int 3))) (.int 0))))))) p1 e0 e1)
 try simp only [smA,smW] at *
 grind
def F56:E:=(.imp Q101 (.fn 101 (.pr (.fn 2 (.pr Q69 (.pr (.fn 1 (.pr Q1 (.fn 6 (.pr (.fn 8 (.pr Q63 (.int 3))) (.int 1))))) (.fn 21 (.pr (.fn 1 (.pr Q69 (.fn 1 (.pr Q1 (.fn 6 (.pr (.fn 8 (.pr Q63 (.int 3))) (.int 1))))))) (.fn 2 (.pr (.fn 1 (.pr Q69 (.fn 1 (.pr Q1 (.fn 6 (.pr (.fn 8 (.pr Q63 (.int 3))) (.int 1))))))) (.pr (.fn 1 (.pr Q1 (.fn 6 (.pr (.fn 8 (.pr Q63 (.int 3))) (.int 0))))) Q98)))))))) Q18)))
theorem G56:Tr F56:=ii4 fun ρ p0 p1 p2 p3=>by
 have:=fun e=>@t104_at ρ Q1 Q18 Q63 e
 have:=fun e0 e1=>(@t101_set ρ Q69 (.fn 1 (.pr Q1 (.fn 6 (.pr (.fn 8 (.pr Q63 (.int 3))) (.int 1))))) (.fn 1 (.pr Q1 (.fn 6 (.pr (.fn 8 (.pr Q63 (.int 3))) (.int 0))))) _ Q98 (.fn 1 (.pr Q69 (.fn 1 (.pr Q1 (.fn 6 (.pr (.fn 8 (.pr Q63 (.int 3))) (.int 1))))))) p1 e0 e1)
 try simp only [smA,smW] at *
 grind
def F57:E:=(.imp Q104 (.fn 117 (.pr (.fn 2 (.pr Q69 (.pr (.fn 1 (.pr Q1 (.fn 6 (.pr (.fn 8 (.pr Q63 (.int 3))) (.int 0))))) (.fn 21 (.pr (.fn 1 (.pr Q69 (.fn 1 (.pr Q1 (.fn 6 (.pr (.fn 8 (.pr Q63 (.int 3))) (.int 0))))))) (.fn 2 (.pr (.fn 1 (.pr Q69 (.fn 1 (.pr Q1 (.fn 6 (.pr (.fn 8 (.pr Q63 (.int 3))) (.int 0))))))) (.pr (.fn 1 (.pr Q1 (.fn 6 (.pr (.fn 8 (.pr Q63 (.int 3))) (.int 1))))) Q94)))))))) (.fn 6 (.pr Q4 Q83)))))
theorem G57:Tr F57:=ii7 fun ρ p0 p1 p2 p3 p4 p5 p6=>by
 have:=@wrap_add ρ (.fn 1 (.pr (.fn 1 (.pr Q69 (.fn 1 (.pr Q1 (.fn 6 (.pr (.fn 8 (.pr Q63 (.int 3))) (.int 0))))))) (.fn 1 (.pr Q1 (.fn 6 (.pr (.fn 8 (.pr Q63 (.int 3))) (.int 1))))))) (.int 2)
 have:=@wrap_add ρ Q63 (.int 1)
 have:=fun e=>@t104_at ρ Q1 Q18 Q63 e
 have:=@t117_at ρ _ (.fn 1 (.pr Q1 (.fn 6 (.pr (.fn 8 (.pr Q63 (.int 3))) (.int 0))))) (.fn 1 (.pr Q1 (.fn 6 (.pr (.fn 8 (.pr Q63 (.int 3))) (.int 1))))) _ _ p1 p2
 have:=@t117_set ρ Q69 (.fn 1 (.pr Q1 (.fn 6 (.pr (.fn 8 (.pr Q63 (.int 3))) (.int 0))))) (.fn 1 (.pr Q1 (.fn 6 (.pr (.fn 8 (.pr Q63 (.int 3))) (.int 1))))) _ Q94 (.fn 1 (.pr Q69 (.fn 1 (.pr Q1 (.fn 6 (.pr (.fn 8 (.pr Q63 (.int 3))) (.int 0))))))) (.fn 6 (.pr Q4 Q83)) _ p1 p2
 try simp only [smA,smW] at *
 grind
def F58:E:=(.imp Q104 (.fn 117 (.pr (.fn 2 (.pr Q69 (.pr (.fn 1 (.pr Q1 (.fn 6 (.pr (.fn 8 (.pr Q63 (.int 3))) (.int 1))))) (.fn 21 (.pr (.fn 1 (.pr Q69 (.fn 1 (.pr Q1 (.fn 6 (.pr (.fn 8 (.pr Q63 (.int 3))) (.int 1))))))) (.fn 2 (.pr (.fn 1 (.pr Q69 (.fn 1 (.pr Q1 (.fn 6 (.pr (.fn 8 (.pr Q63 (.int 3))) (.int 1))))))) (.pr (.fn 1 (.pr Q1 (.fn 6 (.pr (.fn 8 (.pr Q63 (.int 3))) (.int 0))))) Q98)))))))) (.fn 6 (.pr Q4 Q83)))))
theorem G58:Tr F58:=ii7 fun ρ p0 p1 p2 p3 p4 p5 p6=>by
 have:=@wrap_add ρ (.fn 1 (.pr (.fn 1 (.pr Q69 (.fn 1 (.pr Q1 (.fn 6 (.pr (.fn 8 (.pr Q63 (.int 3))) (.int 1))))))) (.fn 1 (.pr Q1 (.fn 6 (.pr (.fn 8 (.pr Q63 (.int 3))) (.int 0))))))) (.int 2)
 have:=@wrap_add ρ Q63 (.int 1)
 have:=fun e=>@t104_at ρ Q1 Q18 Q63 e
 have:=@t117_at ρ _ (.fn 1 (.pr Q1 (.fn 6 (.pr (.fn 8 (.pr Q63 (.int 3))) (.int 1))))) (.fn 1 (.pr Q1 (.fn 6 (.pr (.fn 8 (.pr Q63 (.int 3))) (.int 0))))) _ _ p1 p2
 have:=@t117_set ρ Q69 (.fn 1 (.pr Q1 (.fn 6 (.pr (.fn 8 (.pr Q63 (.int 3))) (.int 1))))) (.fn 1 (.pr Q1 (.fn 6 (.pr (.fn 8 (.pr Q63 (.int 3))) (.int 0))))) _ Q98 (.fn 1 (.pr Q69 (.fn 1 (.pr Q1 (.fn 6 (.pr (.fn 8 (.pr Q63 (.int 3))) (.int 1))))))) (.fn 6 (.pr Q4 Q83)) _ p1 p2
 try simp only [smA,smW] at *
 grind
def F59:E:=(.imp (.and Q64 (.and (.not Q87) (.and (.not Q97) Q93))) (.fn 103 (.pr (.fn 2 (.pr (.fn 2 (.pr Q69 (.pr (.fn 1 (.pr Q1 (.fn 6 (.pr (.fn 8 (.pr Q63 (.int 3))) (.int 0))))) (.fn 21 (.pr (.fn 1 (.pr Q69 (.fn 1 (.pr Q1 (.fn 6 (.pr (.fn 8 (.pr Q63 (.int 3))) (.int 0))))))) (.fn 2 (.pr (.fn 1 (.pr Q69 (.fn 1 (.pr Q1 (.fn 6 (.pr (.fn 8 (.pr Q63 (.int 3))) (.int 0))))))) (.pr (.fn 1 (.pr Q1 (.fn 6 (.pr (.fn 8 (.pr Q63 (.int 3))) (.int 1))))) Q86)))))))) (.pr (.fn 1 (.pr Q1 (.fn 6 (.pr (.fn 8 (.pr Q63 (.int 3))) (.int 1))))) (.fn 21 (.pr (.fn 1 (.pr (.fn 2 (.pr Q69 (.pr (.fn 1 (.pr Q1 (.fn 6 (.pr (.fn 8 (.pr Q63 (.int 3))) (.int 0))))) (.fn 21 (.pr (.fn 1 (.pr Q69 (.fn 1 (.pr Q1 (.fn 6 (.pr (.fn 8 (.pr Q63 (.int 3))) (.int 0))))))) (.fn 2 (.pr (.fn 1 (.pr Q69 (.fn 1 (.pr Q1 (.fn 6 (.pr (.fn 8 (.pr Q63 (.int 3))) (.int 0))))))) (.pr (.fn 1 (.pr Q1 (.fn 6 (.pr (.fn 8 (.pr Q63 (.int 3))) (.int 1))))) Q86)))))))) (.fn 1 (.pr Q1 (.fn 6 (.pr (.fn 8 (.pr Q63 (.int 3))) (.int 1))))))) (.fn 2 (.pr (.fn 1 (.pr (.fn 2 (.pr Q69 (.pr (.fn 1 (.pr Q1 (.fn 6 (.pr (.fn 8 (.pr Q63 (.int 3))) (.int 0))))) (.fn 21 (.pr (.fn 1 (.pr Q69 (.fn 1 (.pr Q1 (.fn 6 (.pr (.fn 8 (.pr Q63 (.int 3))) (.int 0))))))) (.fn 2 (.pr (.fn 1 (.pr Q69 (.fn 1 (.pr Q1 (.fn 6 (.pr (.fn 8 (.pr Q63 (.int 3))) (.int 0))))))) (.pr (.fn 1 (.pr Q1 (.fn 6 (.pr (.fn 8 (.pr Q63 (.int 3))) (.int 1))))) Q86)))))))) (.fn 1 (.pr Q1 (.fn 6 (.pr (.fn 8 (.pr Q63 (.int 3))) (.int 1))))))) (.pr (.fn 1 (.pr Q1 (.fn 6 (.pr (.fn 8 (.pr Q63 (.int 3))) (.int 0))))) Q105)))))))) Q96)))
theorem G59:Tr F59:=ii10 fun ρ p0 p1 p2 p3 p4 p5 p6 p7 p8 p9=>by
 have:=@wrap_add ρ (.fn 1 (.pr (.fn 1 (.pr Q69 (.fn 1 (.pr Q1 (.fn 6 (.pr (.fn 8 (.pr Q63 (.int 3))) (.int 0))))))) (.fn 1 (.pr Q1 (.fn 6 (.pr (.fn 8 (.pr Q63 (.int 3))) (.int 1))))))) (.int 1)
 have:=@wrap_add ρ (.fn 1 (.pr (.fn 1 (.pr (.fn 2 (.pr Q69 (.pr (.fn 1 (.pr Q1 (.fn 6 (.pr (.fn 8 (.pr Q63 (.int 3))) (.int 0))))) (.fn 21 (.pr (.fn 1 (.pr Q69 (.fn 1 (.pr Q1 (.fn 6 (.pr (.fn 8 (.pr Q63 (.int 3))) (.int 0))))))) (.fn 2 (.pr (.fn 1 (.pr Q69 (.fn 1 (.pr Q1 (.fn 6 (.pr (.fn 8 (.pr Q63 (.int 3))) (.int 0))))))) (.pr (.fn 1 (.pr Q1 (.fn 6 (.pr (.fn 8 (.pr Q63 (.int 3))) (.int 1))))) Q86)))))))) (.fn 1 (.pr Q1 (.fn 6 (.pr (.fn 8 (.pr Q63 (.int 3))) (.int 1))))))) (.fn 1 (.pr Q1 (.fn 6 (.pr (.fn 8 (.pr Q63 (.int 3))) (.int 0))))))) (.int 1)
 have:=@wrap_add ρ Q63 (.int 1)
 have:=fun e=>@t104_at ρ Q1 Q18 Q63 e
 have:=@t117_at ρ _ (.fn 1 (.pr Q1 (.fn 6 (.pr (.fn 8 (.pr Q63 (.int 3))) (.int 0))))) (.fn 1 (.pr Q1 (.fn 6 (.pr (.fn 8 (.pr Q63 (.int 3))) (.int 1))))) _ _ p3 p4
 have:=@I_set ρ _ (.fn 1 (.pr Q1 (.fn 6 (.pr (.fn 8 (.pr Q63 (.int 3))) (.int 0))))) (.fn 1 (.pr Q1 (.fn 6 (.pr (.fn 8 (.pr Q63 (.int 3))) (.int 1))))) _ Q86 (.fn 1 (.pr Q69 (.fn 1 (.pr Q1 (.fn 6 (.pr (.fn 8 (.pr Q63 (.int 3))) (.int 0))))))) (.fn 1 (.pr Q1 (.fn 6 (.pr (.fn 8 (.pr Q63 (.int 3))) (.int 1))))) (.fn 1 (.pr Q1 (.fn 6 (.pr (.fn 8 (.pr Q63 (.int 3))) (.int 0))))) p4
 have:=@t117_at ρ _ (.fn 1 (.pr Q1 (.fn 6 (.pr (.fn 8 (.pr Q63 (.int 3))) (.int 1))))) (.fn 1 (.pr Q1 (.fn 6 (.pr (.fn 8 (.pr Q63 (.int 3))) (.int 0))))) _ _ p3 p4
 have:=fun e1 e2 e3 e4 e5 e6 e7 e8 e9=>@t103_two ρ _ _ _ _ (.fn 1 (.pr Q1 (.fn 6 (.pr (.fn 8 (.pr Q63 (.int 3))) (.int 0))))) (.fn 1 (.pr Q1 (.fn 6 (.pr (.fn 8 (.pr Q63 (.int 3))) (.int 1))))) _ _ Q86 (.fn 1 (.pr Q69 (.fn 1 (.pr Q1 (.fn 6 (.pr (.fn 8 (.pr Q63 (.int 3))) (.int 0))))))) Q83 (.fn 1 (.pr (.fn 2 (.pr Q69 (.pr (.fn 1 (.pr Q1 (.fn 6 (.pr (.fn 8 (.pr Q63 (.int 3))) (.int 0))))) (.fn 21 (.pr (.fn 1 (.pr Q69 (.fn 1 (.pr Q1 (.fn 6 (.pr (.fn 8 (.pr Q63 (.int 3))) (.int 0))))))) (.fn 2 (.pr (.fn 1 (.pr Q69 (.fn 1 (.pr Q1 (.fn 6 (.pr (.fn 8 (.pr Q63 (.int 3))) (.int 0))))))) (.pr (.fn 1 (.pr Q1 (.fn 6 (.pr (.fn 8 (.pr Q63 (.int 3))) (.int 1))))) Q86)))))))) (.fn 1 (.pr Q1 (.fn 6 (.pr (.fn 8 (.pr Q63 (.int 3))) (.int 1))))))) Q105 p5 p4 e1 e2 e3 e4 e5 e6 e7 e8 e9 rfl
 try simp only [smA,smW] at *
 grind
def F60:E:=(.imp Q82 (.cmp .lss (.fn 7 (.pr (.fn 9 (.pr Q1 (.int 3))) Q83)) (.fn 7 (.pr (.fn 9 (.pr Q1 (.int 3))) Q63))))
theorem G60:Tr F60:=ii3 fun ρ p0 p1 p2=>by
 try simp only [smA,smW] at *
 obtain ⟨a8,ea8,qa8⟩:=cs_i64 ((E.I ρ Q63) + (1))
 try simp only [ea8] at *
 grind
def F61:E:=(.imp Q101 (.fn 101 (.pr (.fn 2 (.pr (.fn 2 (.pr Q69 (.pr (.fn 1 (.pr Q1 (.fn 6 (.pr (.fn 8 (.pr Q63 (.int 3))) (.int 0))))) (.fn 21 (.pr (.fn 1 (.pr Q69 (.fn 1 (.pr Q1 (.fn 6 (.pr (.fn 8 (.pr Q63 (.int 3))) (.int 0))))))) (.fn 2 (.pr (.fn 1 (.pr Q69 (.fn 1 (.pr Q1 (.fn 6 (.pr (.fn 8 (.pr Q63 (.int 3))) (.int 0))))))) (.pr (.fn 1 (.pr Q1 (.fn 6 (.pr (.fn 8 (.pr Q63 (.int 3))) (.int 1))))) Q86)))))))) (.pr (.fn 1 (.pr Q1 (.fn 6 (.pr (.fn 8 (.pr Q63 (.int 3))) (.int 1))))) (.fn 21 (.pr (.fn 1 (.pr (.fn 2 (.pr Q69 (.pr (.fn 1 (.pr Q1 (.fn 6 (.pr (.fn 8 (.pr Q63 (.int 3))) (.int 0))))) (.fn 21 (.pr (.fn 1 (.pr Q69 (.fn 1 (.pr Q1 (.fn 6 (.pr (.fn 8 (.pr Q63 (.int 3))) (.int 0))))))) (.fn 2 (.pr (.fn 1 (.pr Q69 (.fn 1 (.pr Q1 (.fn 6 (.pr (.fn 8 (.pr Q63 (.int 3))) (.int 0))))))) (.pr (.fn 1 (.pr Q1 (.fn 6 (.pr (.fn 8 (.pr Q63 (.int 3))) (.int 1))))) Q86)))))))) (.fn 1 (.pr Q1 (.fn 6 (.pr (.fn 8 (.pr Q63 (.int 3))) (.int 1))))))) (.fn 2 (.pr (.fn 1 (.pr (.fn 2 (.pr Q69 (.pr (.fn 1 (.pr Q1 (.fn 6 (.pr (.fn 8 (.pr Q63 (.int 3))) (.int 0))))) (.fn 21 (.pr (.fn 1 (.pr Q69 (.fn 1 (.pr Q1 (.fn 6 (.pr (.fn 8 (.pr Q63 (.int 3))) (.int 0))))))) (.fn 2 (.pr (.fn 1 (.pr Q69 (.fn 1 (.pr Q1 (.fn 6 (.pr (.fn 8 (.pr Q63 (.int 3))) (.int 0))))))) (.pr (.fn 1 (.pr Q1 (.fn 6 (.pr (.fn 8 (.pr Q63 (.int 3))) (.int 1))))) Q86)))))))) (.fn 1 (.pr Q1 (.fn 6 (.pr (.fn 8 (.pr Q63 (.int 3))) (.int 1))))))) (.pr (.fn 1 (.pr Q1 (.fn 6 (.pr (.fn 8 (.pr Q63 (.int 3))) (.int 0))))) Q105)))))))) Q18)))
theorem G61:Tr F61:=ii4 fun ρ p0 p1 p2 p3=>by
 have:=fun e=>@t104_at ρ Q1 Q18 Q63 e
 have:=fun e0 e1 e2 e3=>(@t101_set ρ (.fn 2 (.pr Q69 (.pr (.fn 1 (.pr Q1 (.fn 6 (.pr (.fn 8 (.pr Q63 (.int 3))) (.int 0))))) (.fn 21 (.pr (.fn 1 (.pr Q69 (.fn 1 (.pr Q1 (.fn 6 (.pr (.fn 8 (.pr Q63 (.int 3))) (.int 0))))))) (.fn 2 (.pr (.fn 1 (.pr Q69 (.fn 1 (.pr Q1 (.fn 6 (.pr (.fn 8 (.pr Q63 (.int 3))) (.int 0))))))) (.pr (.fn 1 (.pr Q1 (.fn 6 (.pr (.fn 8 (.pr Q63 (.int 3))) (.int 1))))) Q86)))))))) (.fn 1 (.pr Q1 (.fn 6 (.pr (.fn 8 (.pr Q63 (.int 3))) (.int 1))))) (.fn 1 (.pr Q1 (.fn 6 (.pr (.fn 8 (.pr Q63 (.int 3))) (.int 0))))) _ Q105 (.fn 1 (.pr (.fn 2 (.pr Q69 (.pr (.fn 1 (.pr Q1 (.fn 6 (.pr (.fn 8 (.pr Q63 (.int 3))) (.int 0))))) (.fn 21 (.pr (.fn 1 (.pr Q69 (.fn 1 (.pr Q1 (.fn 6 (.pr (.fn 8 (.pr Q63 (.int 3))) (.int 0))))))) (.fn 2 (.pr (.fn 1 (.pr Q69 (.fn 1 (.pr Q1 (.fn 6 (.pr (.fn 8 (.pr Q63 (.int 3))) (.int 0))))))) (.pr (.fn 1 (.pr Q1 (.fn 6 (.pr (.fn 8 (.pr Q63 (.int 3))) (.int 1))))) Q86)))))))) (.fn 1 (.pr Q1 (.fn 6 (.pr (.fn 8 (.pr Q63 (.int 3))) (.int 1))))))) (@t101_set ρ Q69 (.fn 1 (.pr Q1 (.fn 6 (.pr (.fn 8 (.pr Q63 (.int 3))) (.int 0))))) (.fn 1 (.pr Q1 (.fn 6 (.pr (.fn 8 (.pr Q63 (.int 3))) (.int 1))))) _ Q86 (.fn 1 (.pr Q69 (.fn 1 (.pr Q1 (.fn 6 (.pr (.fn 8 (.pr Q63 (.int 3))) (.int 0))))))) p1 e0 e1) e2 e3)
 try simp only [smA,smW] at *
 grind
def F62:E:=(.imp Q85 (.not (.cmp .lss (.fn 7 (.pr (.fn 9 (.pr Q1 (.int 3))) Q83)) (.int 0))))
theorem G62:Tr F62:=ii4 fun ρ p0 p1 p2 p3=>by
 try simp only [smA,smW] at *
 obtain ⟨a8,ea8,qa8⟩:=cs_i64 ((E.I ρ Q63) + (1))
 try simp only [ea8] at *
 grind
def F63:E:=(.imp Q104 (.fn 117 (.pr (.fn 2 (.pr (.fn 2 (.pr Q69 (.pr (.fn 1 (.pr Q1 (.fn 6 (.pr (.fn 8 (.pr Q63 (.int 3))) (.int 0))))) (.fn 21 (.pr (.fn 1 (.pr Q69 (.fn 1 (.pr Q1 (.fn 6 (.pr (.fn 8 (.pr Q63 (.int 3))) (.int 0))))))) (.fn 2 (.pr (.fn 1 (.pr Q69 (.fn 1 (.pr Q1 (.fn 6 (.pr (.fn 8 (.pr Q63 (.int 3))) (.int 0))))))) (.pr (.fn 1 (.pr Q1 (.fn 6 (.pr (.fn 8 (.pr Q63 (.int 3))) (.int 1))))) Q86)))))))) (.pr (.fn 1 (.pr Q1 (.fn 6 (.pr (.fn 8 (.pr Q63 (.int 3))) (.int 1))))) (.fn 21 (.pr (.fn 1 (.pr (.fn 2 (.pr Q69 (.pr (.fn 1 (.pr Q1 (.fn 6 (.pr (.fn 8 (.pr Q63 (.int 3))) (.int 0))))) (.fn 21 (.pr (.fn 1 (.pr Q69 (.fn 1 (.pr Q1 (.fn 6 (.pr (.fn 8 (.pr Q63 (.int 3))) (.int 0))))))) (.fn 2 (.pr (.fn 1 (.pr Q69 (.fn 1 (.pr Q1 (.fn 6 (.pr (.fn 8 (.pr Q63 (.int 3))) (.int 0))))))) (.pr (.fn 1 (.pr Q1 (.fn 6 (.pr (.fn 8 (.pr Q63 (.int 3))) (.int 1))))) Q86)))))))) (.fn 1 (.pr Q1 (.fn 6 (.pr (.fn 8 (.pr Q63 (.int 3))) (.int 1))))))) (.fn 2 (.pr (.fn 1 (.pr (.fn 2 (.pr Q69 (.pr (.fn 1 (.pr Q1 (.fn 6 (.pr (.fn 8 (.pr Q63 (.int 3))) (.int 0))))) (.fn 21 (.pr (.fn 1 (.pr Q69 (.fn 1 (.pr Q1 (.fn 6 (.pr (.fn 8 (.pr Q63 (.int 3))) (.int 0))))))) (.fn 2 (.pr (.fn 1 (.pr Q69 (.fn 1 (.pr Q1 (.fn 6 (.pr (.fn 8 (.pr Q63 (.int 3))) (.int 0))))))) (.pr (.fn 1 (.pr Q1 (.fn 6 (.pr (.fn 8 (.pr Q63 (.int 3))) (.int 1))))) Q86)))))))) (.fn 1 (.pr Q1 (.fn 6 (.pr (.fn 8 (.pr Q63 (.int 3))) (.int 1))))))) (.pr (.fn 1 (.pr Q1 (.fn 6 (.pr (.fn 8 (.pr Q63 (.int 3))) (.int 0))))) Q105)))))))) (.fn 6 (.pr Q4 Q83)))))
theorem G63:Tr F63:=ii7 fun ρ p0 p1 p2 p3 p4 p5 p6=>by
 have:=@wrap_add ρ (.fn 1 (.pr (.fn 1 (.pr Q69 (.fn 1 (.pr Q1 (.fn 6 (.pr (.fn 8 (.pr Q63 (.int 3))) (.int 0))))))) (.fn 1 (.pr Q1 (.fn 6 (.pr (.fn 8 (.pr Q63 (.int 3))) (.int 1))))))) (.int 1)
 have:=@wrap_add ρ (.fn 1 (.pr (.fn 1 (.pr (.fn 2 (.pr Q69 (.pr (.fn 1 (.pr Q1 (.fn 6 (.pr (.fn 8 (.pr Q63 (.int 3))) (.int 0))))) (.fn 21 (.pr (.fn 1 (.pr Q69 (.fn 1 (.pr Q1 (.fn 6 (.pr (.fn 8 (.pr Q63 (.int 3))) (.int 0))))))) (.fn 2 (.pr (.fn 1 (.pr Q69 (.fn 1 (.pr Q1 (.fn 6 (.pr (.fn 8 (.pr Q63 (.int 3))) (.int 0))))))) (.pr (.fn 1 (.pr Q1 (.fn 6 (.pr (.fn 8 (.pr Q63 (.int 3))) (.int 1))))) Q86)))))))) (.fn 1 (.pr Q1 (.fn 6 (.pr (.fn 8 (.pr Q63 (.int 3))) (.int 1))))))) (.fn 1 (.pr Q1 (.fn 6 (.pr (.fn 8 (.pr Q63 (.int 3))) (.int 0))))))) (.int 1)
 have:=@wrap_add ρ Q63 (.int 1)
 have:=fun e=>@t104_at ρ Q1 Q18 Q63 e
 have:=@t117_at ρ _ (.fn 1 (.pr Q1 (.fn 6 (.pr (.fn 8 (.pr Q63 (.int 3))) (.int 0))))) (.fn 1 (.pr Q1 (.fn 6 (.pr (.fn 8 (.pr Q63 (.int 3))) (.int 1))))) _ _ p1 p2
 have:=@I_set ρ _ (.fn 1 (.pr Q1 (.fn 6 (.pr (.fn 8 (.pr Q63 (.int 3))) (.int 0))))) (.fn 1 (.pr Q1 (.fn 6 (.pr (.fn 8 (.pr Q63 (.int 3))) (.int 1))))) _ Q86 (.fn 1 (.pr Q69 (.fn 1 (.pr Q1 (.fn 6 (.pr (.fn 8 (.pr Q63 (.int 3))) (.int 0))))))) (.fn 1 (.pr Q1 (.fn 6 (.pr (.fn 8 (.pr Q63 (.int 3))) (.int 1))))) (.fn 1 (.pr Q1 (.fn 6 (.pr (.fn 8 (.pr Q63 (.int 3))) (.int 0))))) p2
 have:=@t117_at ρ _ (.fn 1 (.pr Q1 (.fn 6 (.pr (.fn 8 (.pr Q63 (.int 3))) (.int 1))))) (.fn 1 (.pr Q1 (.fn 6 (.pr (.fn 8 (.pr Q63 (.int 3))) (.int 0))))) _ _ p1 p2
 have:=fun e1 e2 e3 e4 e5 e6 e7=>@t117_set ρ (.fn 2 (.pr Q69 (.pr (.fn 1 (.pr Q1 (.fn 6 (.pr (.fn 8 (.pr Q63 (.int 3))) (.int 0))))) (.fn 21 (.pr (.fn 1 (.pr Q69 (.fn 1 (.pr Q1 (.fn 6 (.pr (.fn 8 (.pr Q63 (.int 3))) (.int 0))))))) (.fn 2 (.pr (.fn 1 (.pr Q69 (.fn 1 (.pr Q1 (.fn 6 (.pr (.fn 8 (.pr Q63 (.int 3))) (.int 0))))))) (.pr (.fn 1 (.pr Q1 (.fn 6 (.pr (.fn 8 (.pr Q63 (.int 3))) (.int 1))))) Q86)))))))) (.fn 1 (.pr Q1 (.fn 6 (.pr (.fn 8 (.pr Q63 (.int 3))) (.int 1))))) (.fn 1 (.pr Q1 (.fn 6 (.pr (.fn 8 (.pr Q63 (.int 3))) (.int 0))))) _ Q105 (.fn 1 (.pr (.fn 2 (.pr Q69 (.pr (.fn 1 (.pr Q1 (.fn 6 (.pr (.fn 8 (.pr Q63 (.int 3))) (.int 0))))) (.fn 21 (.pr (.fn 1 (.pr Q69 (.fn 1 (.pr Q1 (.fn 6 (.pr (.fn 8 (.pr Q63 (.int 3))) (.int 0))))))) (.fn 2 (.pr (.fn 1 (.pr Q69 (.fn 1 (.pr Q1 (.fn 6 (.pr (.fn 8 (.pr Q63 (.int 3))) (.int 0))))))) (.pr (.fn 1 (.pr Q1 (.fn 6 (.pr (.fn 8 (.pr Q63 (.int 3))) (.int 1))))) Q86)))))))) (.fn 1 (.pr Q1 (.fn 6 (.pr (.fn 8 (.pr Q63 (.int 3))) (.int 1))))))) (.fn 6 (.pr Q4 Q83)) _ (@t117_set ρ Q69 (.fn 1 (.pr Q1 (.fn 6 (.pr (.fn 8 (.pr Q63 (.int 3))) (.int 0))))) (.fn 1 (.pr Q1 (.fn 6 (.pr (.fn 8 (.pr Q63 (.int 3))) (.int 1))))) _ Q86 (.fn 1 (.pr Q69 (.fn 1 (.pr Q1 (.fn 6 (.pr (.fn 8 (.pr Q63 (.int 3))) (.int 0))))))) (.fn 6 (.pr Q4 Q83)) _ p1 p2 e1 e2 e3 e4 e5 e6 e7) (@t101_set ρ Q69 (.fn 1 (.pr Q1 (.fn 6 (.pr (.fn 8 (.pr Q63 (.int 3))) (.int 0))))) (.fn 1 (.pr Q1 (.fn 6 (.pr (.fn 8 (.pr Q63 (.int 3))) (.int 1))))) _ Q86 (.fn 1 (.pr Q69 (.fn 1 (.pr Q1 (.fn 6 (.pr (.fn 8 (.pr Q63 (.int 3))) (.int 0))))))) p2 e1 e2)
 try simp only [smA,smW] at *
 grind
namespace p2
def facts:List E:=[F24,F25,F26,F27,F28,F29,F30,F31,F32,F33,F34,F35,F36,F37,F38,F39,F40,F41,F42,F43,F44,F45,F46,F47,F48,F49,F50,F51,F52,F53,F54,F55,F56,F57,F58,F59,F60,F61,F62,F63]
theorem facts_ok:∀ e∈facts,Tr e:=(ac G24 (ac G25 (ac G26 (ac G27 (ac G28 (ac G29 (ac G30 (ac G31 (ac G32 (ac G33 (ac G34 (ac G35 (ac G36 (ac G37 (ac G38 (ac G39 (ac G40 (ac G41 (ac G42 (ac G43 (ac G44 (ac G45 (ac G46 (ac G47 (ac G48 (ac G49 (ac G50 (ac G51 (ac G52 (ac G53 (ac G54 (ac G55 (ac G56 (ac G57 (ac G58 (ac G59 (ac G60 (ac G61 (ac G62 (ac G63 all_nil))))))))))))))))))))))))))))))))))))))))
end p2
theorem spec2_0:NatOk Try.prog (specNat (spAdd)) :=
 spec_of_check good (facts:=p2.facts) p2.facts_ok (anns:=annAdd) (plainAnns_ok _ (by kernel_rfl)) (nats:=natl3) natl3_ok (n:=3000) (by kernel_rfl)
def natl4:List Nat1:=specNat (spAdd)::natl3
theorem natl4_ok:∀ x∈natl4,NatOk Try.prog x:=by
 intro x hx
 rcases List.mem_cons.1 hx with rfl | hx
 ·exact spec2_0
 exact natl3_ok x hx

end
end Go.Proofs.Ytmngplmblanhdaa.metaHolds
