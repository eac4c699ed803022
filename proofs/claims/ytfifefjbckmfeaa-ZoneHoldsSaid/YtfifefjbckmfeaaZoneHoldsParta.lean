/-
  ZoneHolds: contracts of functions, part 1.
-/
import Derived.Test.YtfifefjbckmfeaaRows
import Derived.Test.YtfifefjbckmfeaaNat
import Derived.WalkKit
import Derived.ProofKit
import Derived.OpenShut
import Derived.ChangeOld
import Derived.Below
import Derived.KernelRfl
import Derived.Lib.SmallJoins
import Derived.Test.YtfifefjbckmfeaaTheory
namespace Go.Proofs.Ytfifefjbckmfeaa.zoneHolds
open Go.ChangeShapes Go.WideShapes Go.ChangeAt Go.RowKit
open Go.SX
set_option linter.unusedVariables false
set_option linter.unusedSimpArgs false
set_option maxRecDepth 100000
noncomputable section
abbrev Q0:E:=.var 0
abbrev Q1:E:=.var 1
abbrev Q2:E:=.var 4
abbrev Q3:E:=.cmp .lss Q2 (.fn 0 Q0)
abbrev Q4:E:=.cmp .eql Q1 (.fn 1 (.pr Q0 Q2))
abbrev Q5:E:=.cmp .eql (.fn 117 (.pr Q0 (.pr Q1 Q2))) (.int (-1))
abbrev Q6:E:=.not (.cmp .lss Q2 (.int 0))
abbrev Q7:E:=.cmp .lss (.int 1000) (.fn 0 Q0)
abbrev Q8:E:=.not Q7
abbrev Q9:E:=.and Q6 Q8
abbrev Q10:E:=.and Q3 Q9
abbrev Q11:E:=.ar .add .i64 Q2 (.int 1)
abbrev Q12:E:=.and (.not (.cmp .lss (.fn 0 Q0) Q2)) Q9
abbrev Q13:E:=.and Q3 Q12
abbrev Q14:E:=.var 5
abbrev Q15:E:=.cmp .lss (.fn 0 (.fn 1 (.pr Q0 Q2))) Q14
abbrev Q16:E:=.not Q15
abbrev Q17:E:=.cmp .lss Q2 Q1
abbrev Q18:E:=.cmp .eql (.fn 0 Q0) Q1
abbrev Q19:E:=.not (.cmp .lss (.int 100) (.fn 109 Q0))
abbrev Q20:E:=.and Q18 Q19
abbrev Q21:E:=.and Q17 (.and Q6 Q20)
abbrev Q22:E:=.not (.cmp .lss Q14 (.int 0))
abbrev Q23:E:=.var 3
abbrev Q24:E:=.cmp .lss (.int 4096) Q23
abbrev Q25:E:=.not Q24
abbrev Q26:E:=.cmp .lss Q23 (.int 1)
abbrev Q27:E:=.not Q26
abbrev Q28:E:=.var 2
abbrev Q29:E:=.not (.fn 33 (.pr Q28 Q23))
abbrev Q30:E:=.fn 106 (.pr Q0 Q28)
abbrev Q31:E:=.and Q30 Q18
abbrev Q32:E:=.and Q6 Q31
abbrev Q33:E:=.and Q17 Q32
abbrev Q34:E:=.and Q29 Q33
abbrev Q35:E:=.and Q27 Q34
abbrev Q36:E:=.and Q25 Q35
abbrev Q37:E:=.and Q22 Q36
abbrev Q38:E:=.and Q16 Q37
abbrev Q39:E:=.cmp .lss Q2 (.int (-1))
abbrev Q40:E:=.not Q39
abbrev Q41:E:=.cmp .eql Q2 (.fn 116 (.pr (.fn 1 (.pr Q0 (.fn 32 (.pr Q28 (.pr Q23 (.int 0)))))) Q23))
abbrev Q42:E:=.cmp .lss Q2 (.fn 0 (.fn 1 (.pr Q0 (.fn 32 (.pr Q28 (.pr Q23 (.int 0)))))))
abbrev Q43:E:=.and (.fn 33 (.pr Q28 Q23)) (.and Q30 (.and Q42 (.and Q41 Q19)))
abbrev Q44:E:=.cmp .eql (.fn 29 (.pr (.fn 0 (.fn 1 (.pr Q0 (.fn 32 (.pr Q28 (.pr Q23 (.int 0))))))) Q11)) (.int 0)
abbrev Q45:E:=.and (.fn 33 (.pr Q28 Q23)) (.and Q30 (.and Q42 (.and Q40 (.and Q41 Q19))))
abbrev Q46:E:=.and (.fn 33 (.pr Q28 Q23)) (.and Q30 (.and Q42 (.and Q41 (.and Q44 Q19))))
abbrev Q47:E:=.and Q19 (.not (.cmp .lss (.int 32) Q1))
abbrev Q48:E:=.not (.fn 33 (.pr (.fn 35 (.pr Q28 Q23)) Q23))
abbrev Q49:E:=.pr Q0 (.pr Q2 Q23)
abbrev Q50:E:=.and Q30 Q29
abbrev Q51:E:=.cmp .eql (.fn 107 (.pr Q0 Q23)) (.int (-1))
abbrev Q52:E:=.and Q27 Q24
abbrev Q53:E:=.and Q30 Q52
abbrev Q54:E:=.cmp .lss (.fn 107 (.pr Q0 Q23)) (.int 0)
abbrev Q55:E:=.not Q54
abbrev Q56:E:=.and Q6 Q17
abbrev Q57:E:=.and Q55 Q56
abbrev Q58:E:=.not Q57
abbrev Q59:E:=.cmp .eql (.fn 109 Q14) (.fn 6 (.pr (.fn 109 Q0) (.int (-1))))
abbrev Q60:E:=.cmp .lss Q23 Q1
abbrev Q61:E:=.not (.cmp .lss Q23 (.int 0))
abbrev Q62:E:=.and Q60 (.and Q61 Q20)
abbrev Q63:E:=.cmp .eql (.fn 0 (.fn 1 (.pr Q0 Q23))) (.int 0)
abbrev Q64:E:=.pr (.fn 10 (.int 0)) (.pr Q0 Q23)
abbrev Q65:E:=.fn 115 Q64
abbrev Q66:E:=.cmp .eql Q14 (.fn 0 (.fn 1 (.pr Q0 Q23)))
abbrev Q67:E:=.cmp .eql Q14 (.int 0)
abbrev Q68:E:=.ar .sub .i64 Q14 (.int 1)
abbrev Q69:E:=.and Q18 (.and Q66 (.and Q22 Q19))
abbrev Q70:E:=.and Q61 Q69
abbrev Q71:E:=.and Q60 Q70
theorem own:ownKnob Try.prog.godebug=none:=by kernel_rfl
theorem laidOut:laidOutB Try.prog=true:=by kernel_rfl
theorem good:progOk Try.prog=true:=by kernel_rfl


abbrev Tr (f:E):Prop:=∀ ρ:Env,E.B ρ f=true
theorem ac {e:E} {l:List E} (h:Tr e) (hl:∀ e∈l,Tr e):∀ x∈e::l,Tr x:=all_cons h hl
theorem ii1 {a0 d:E} (h:∀ ρ:Env,E.B ρ a0=true→E.B ρ d=true):Tr (.imp a0 d):=fun ρ=>by
 rw [sm_B_imp]
 rintro p0
 exact h ρ p0
theorem ii2 {a0 a1 d:E} (h:∀ ρ:Env,E.B ρ a0=true→E.B ρ a1=true→E.B ρ d=true):Tr (.imp (.and a0 a1) d):=fun ρ=>by
 rw [sm_B_imp]
 simp only [sm_B_and]
 rintro ⟨p0,p1⟩
 exact h ρ p0 p1
theorem ii3 {a0 a1 a2 d:E} (h:∀ ρ:Env,E.B ρ a0=true→E.B ρ a1=true→E.B ρ a2=true→E.B ρ d=true):Tr (.imp (.and a0 (.and a1 a2)) d):=fun ρ=>by
 rw [sm_B_imp]
 simp only [sm_B_and]
 rintro ⟨p0,p1,p2⟩
 exact h ρ p0 p1 p2
theorem ii4 {a0 a1 a2 a3 d:E} (h:∀ ρ:Env,E.B ρ a0=true→E.B ρ a1=true→E.B ρ a2=true→E.B ρ a3=true→E.B ρ d=true):Tr (.imp (.and a0 (.and a1 (.and a2 a3))) d):=fun ρ=>by
 rw [sm_B_imp]
 simp only [sm_B_and]
 rintro ⟨p0,p1,p2,p3⟩
 exact h ρ p0 p1 p2 p3
theorem ii5 {a0 a1 a2 a3 a4 d:E} (h:∀ ρ:Env,E.B ρ a0=true→E.B ρ a1=true→E.B ρ a2=true→E.B ρ a3=true→E.B ρ a4=true→E.B ρ d=true):Tr (.imp (.and a0 (.and a1 (.and a2 (.and a3 a4)))) d):=fun ρ=>by
 rw [sm_B_imp]
 simp only [sm_B_and]
 rintro ⟨p0,p1,p2,p3,p4⟩
 exact h ρ p0 p1 p2 p3 p4
theorem ii6 {a0 a1 a2 a3 a4 a5 d:E} (h:∀ ρ:Env,E.B ρ a0=true→E.B ρ a1=true→E.B ρ a2=true→E.B ρ a3=true→E.B ρ a4=true→E.B ρ a5=true→E.B ρ d=true):Tr (.imp (.and a0 (.and a1 (.and a2 (.and a3 (.and a4 a5))))) d):=fun ρ=>by
 rw [sm_B_imp]
 simp only [sm_B_and]
 rintro ⟨p0,p1,p2,p3,p4,p5⟩
 exact h ρ p0 p1 p2 p3 p4 p5
theorem ii7 {a0 a1 a2 a3 a4 a5 a6 d:E} (h:∀ ρ:Env,E.B ρ a0=true→E.B ρ a1=true→E.B ρ a2=true→E.B ρ a3=true→E.B ρ a4=true→E.B ρ a5=true→E.B ρ a6=true→E.B ρ d=true):Tr (.imp (.and a0 (.and a1 (.and a2 (.and a3 (.and a4 (.and a5 a6)))))) d):=fun ρ=>by
 rw [sm_B_imp]
 simp only [sm_B_and]
 rintro ⟨p0,p1,p2,p3,p4,p5,p6⟩
 exact h ρ p0 p1 p2 p3 p4 p5 p6
theorem ii8 {a0 a1 a2 a3 a4 a5 a6 a7 d:E} (h:∀ ρ:Env,E.B ρ a0=true→E.B ρ a1=true→E.B ρ a2=true→E.B ρ a3=true→E.B ρ a4=true→E.B ρ a5=true→E.B ρ a6=true→E.B ρ a7=true→E.B ρ d=true):Tr (.imp (.and a0 (.and a1 (.and a2 (.and a3 (.and a4 (.and a5 (.and a6 a7))))))) d):=fun ρ=>by
 rw [sm_B_imp]
 simp only [sm_B_and]
 rintro ⟨p0,p1,p2,p3,p4,p5,p6,p7⟩
 exact h ρ p0 p1 p2 p3 p4 p5 p6 p7
theorem ii9 {a0 a1 a2 a3 a4 a5 a6 a7 a8 d:E} (h:∀ ρ:Env,E.B ρ a0=true→E.B ρ a1=true→E.B ρ a2=true→E.B ρ a3=true→E.B ρ a4=true→E.B ρ a5=true→E.B ρ a6=true→E.B ρ a7=true→E.B ρ a8=true→E.B ρ d=true):Tr (.imp (.and a0 (.and a1 (.and a2 (.and a3 (.and a4 (.and a5 (.and a6 (.and a7 a8)))))))) d):=fun ρ=>by
 rw [sm_B_imp]
 simp only [sm_B_and]
 rintro ⟨p0,p1,p2,p3,p4,p5,p6,p7,p8⟩
 exact h ρ p0 p1 p2 p3 p4 p5 p6 p7 p8
theorem ii10 {a0 a1 a2 a3 a4 a5 a6 a7 a8 a9 d:E} (h:∀ ρ:Env,E.B ρ a0=true→E.B ρ a1=true→E.B ρ a2=true→E.B ρ a3=true→E.B ρ a4=true→E.B ρ a5=true→E.B ρ a6=true→E.B ρ a7=true→E.B ρ a8=true→E.B ρ a9=true→E.B ρ d=true):Tr (.imp (.and a0 (.and a1 (.and a2 (.and a3 (.and a4 (.and a5 (.and a6 (.and a7 (.and a8 a9))))))))) d):=fun ρ=>by
 rw [sm_B_imp]
 simp only [sm_B_and]
 rintro ⟨p0,p1,p2,p3,p4,p5,p6,p7,p8,p9⟩
 exact h ρ p0 p1 p2 p3 p4 p5 p6 p7 p8 p9
theorem ii12 {a0 a1 a2 a3 a4 a5 a6 a7 a8 a9 a10 a11 d:E} (h:∀ ρ:Env,E.B ρ a0=true→E.B ρ a1=true→E.B ρ a2=true→E.B ρ a3=true→E.B ρ a4=true→E.B ρ a5=true→E.B ρ a6=true→E.B ρ a7=true→E.B ρ a8=true→E.B ρ a9=true→E.B ρ a10=true→E.B ρ a11=true→E.B ρ d=true):Tr (.imp (.and a0 (.and a1 (.and a2 (.and a3 (.and a4 (.and a5 (.and a6 (.and a7 (.and a8 (.and a9 (.and a10 a11))))))))))) d):=fun ρ=>by
 rw [sm_B_imp]
 simp only [sm_B_and]
 rintro ⟨p0,p1,p2,p3,p4,p5,p6,p7,p8,p9,p10,p11⟩
 exact h ρ p0 p1 p2 p3 p4 p5 p6 p7 p8 p9 p10 p11
def ii (e:E):SV:=.int .i64 e
def gone:Blk:=⟨true,.gone⟩
def at0 (b:Nat):SV:=.ptr b ⟨0,0,.int 0⟩
def eEq (a b:E):E:=.cmp .eql a b
def pl (a b:E):E:=.fn 6 (.pr a b)
def mi (a b:E):E:=.fn 7 (.pr a b)
def ln (x:E):E:=.fn 0 x
def prs:List E→E
 | []=>.int 0
 | [a]=>a
 | a::l=>.pr a (prs l)
def fnE (f:Nat) (l:List E):E:=.fn f (prs l)
def nt (l i:E):E:=.fn 1 (.pr l i)
def emp:E:=.fn 10 (.int 0)
def kI:List CK:=[.int .i64]
def kZ:List CK:=[.slc kI]
/-- zones: the struct, the lists, the map; W: the first block, v: the variables lists, how many, map -/
def zoneB (W : Nat) (l n m : E) : List Blk := [⟨true, .cells [.nslice (W + 1) n n, .map (W + 2)] (.int 2) 53⟩, ⟨true, .flat kZ l n n 35⟩, ⟨true, .mapl .i64 (.int .i64) m⟩]
def pcZ (l n:E):List E:=[eLe (.int 1) n,eLe n (.int 32),eEq (ln l) n]
/-- where a number is in a list -/
def nI : E := ln (eV 0)
def spIx:Pact:=⟨31,[.bsl kI (eV 0),ii (eV 1)],⟨2,0,.nil,[eLe nI (.int 1000)]⟩,[(ii (eV 2),⟨3,0,.nil,[eEq (eV 2) (fnE 116 [eV 0,eV 1]),eLe (.int (-1)) (eV 2),eLt (eV 2) nI]⟩)]⟩
def tIx:Tmpl:=⟨tmSlots 19 [(0,.bsl kI (eV 0)),(1,ii (eV 1)),(6,.bsl kI (eV 0)),(7,ii nI),(8,ii (eV 4))],⟨5,0,.nil,[eLe nI (.int 1000),eLe (.int 0) (eV 4),eLe (eV 4) nI,eEq (fnE 117 [eV 0,eV 1,eV 4]) (.int (-1))]⟩,mi nI (eV 4)⟩
def annIx:List Ann:=[⟨31,0,[tIx],none⟩]
/-- calls: 0 lists, 1 how many, 2 map, 3 id, 4 zone -/
def zl (l z : E) : E := nt l z
def tot (l:E):E:=.fn 109 l
def pcO:List E:=pcZ (eV 0) (eV 1)++[fnE 106 [eV 0,eV 2],eLe (tot (eV 0)) (.int 100)]
def f107 (l:E):E:=fnE 107 [l,eV 3]
/-- after a call that has done something: lists 5, map 6 -/
def aft (rel : E) (d : Int) (more : List E) : SV × St := (ii (.int 0), ⟨7, 3, heapL (zoneB 0 (eV 5) (eV 1) (eV 6)), [rel, eEq (ln (eV 5)) (eV 1), fnE 106 [eV 5, eV 6], eEq (tot (eV 5)) (pl (tot (eV 0)) (.int d))] ++ more⟩)
def err:SV × St:=(ii (eV 5),⟨6,3,heapL (zoneB 0 (eV 0) (eV 1) (eV 2)),[.not (eEq (eV 5) (.int 0))]⟩)
def inZ:List E:=[eLe (.int 0) (eV 4),eLt (eV 4) (eV 1)]
def stZ (k:Nat):St:=⟨k,3,heapL (zoneB 0 (eV 0) (eV 1) (eV 2)),pcO⟩
/-- an id is put at a place (5), an id is taken out -/
def aftK (k : Nat) (rel : E) (d : Int) : SV × St := (.tup [], ⟨k + 2, 3, heapL (zoneB 0 (eV k) (eV 1) (eV (k + 1))), [rel, eEq (ln (eV k)) (eV 1), fnE 106 [eV k, eV (k + 1)], eEq (tot (eV k)) (pl (tot (eV 0)) (.int d))]⟩)
def spPu:Pact:=⟨27,[at0 0,ii (eV 3),ii (eV 4),ii (eV 5)],⟨6,3,heapL (zoneB 0 (eV 0) (eV 1) (eV 2)),pcO++inZ++[.not (fnE 33 [eV 2,eV 3]),eLe (.int 1) (eV 3),eLe (eV 3) (.int 4096),eLe (.int 0) (eV 5),eLe (eV 5) (ln (zl (eV 0) (eV 4)))]⟩,[aftK 6 (fnE 118 [eV 6,eV 0,eV 4,eV 3,eV 5]) 1]⟩
def spTk:Pact:=⟨28,[at0 0,ii (eV 3)],⟨4,3,heapL (zoneB 0 (eV 0) (eV 1) (eV 2)),pcO++[fnE 33 [eV 2,eV 3]]⟩,[let p:=aftK 4 (fnE 104 [eV 4,eV 0,eV 3]) (-1); (p.1,{ p.2 with pc:=p.2.pc++[.not (fnE 33 [eV 5,eV 3])] })]⟩
def spPut:Pact:=⟨9,[at0 0,ii (eV 3),ii (eV 4)],stZ 5,[aft (fnE 102 [eV 5,eV 0,eV 4,eV 3]) 1 (inZ++[eEq (f107 (eV 0)) (.int (-1))]),err]⟩
def spUnder:Pact:=⟨10,[at0 0,ii (eV 3),ii (eV 4)],stZ 5,[aft (fnE 103 [eV 5,eV 0,eV 4,eV 3]) 1 (inZ++[eEq (f107 (eV 0)) (.int (-1))]),err]⟩
def errM:SV × St:=(ii (eV 5),⟨6,3,heapL (zoneB 0 (eV 0) (eV 1) (eV 2)),[.not (.and (eLe (.int 0) (f107 (eV 0))) (.and (eLe (.int 0) (eV 4)) (eLt (eV 4) (eV 1)))),.not (eEq (eV 5) (.int 0))]⟩)
def spMove:Pact:=⟨11,[at0 0,ii (eV 3),ii (eV 4)],stZ 5,[aft (fnE 105 [eV 5,eV 0,eV 4,eV 3]) 0 (inZ++[eLe (.int 0) (f107 (eV 0))]),errM]⟩
def spRemove:Pact:=⟨14,[at0 0,ii (eV 3)],stZ 4,[(ii (.int 0),⟨6,3,heapL (zoneB 0 (eV 4) (eV 1) (eV 5)),[fnE 104 [eV 4,eV 0,eV 3],eEq (ln (eV 4)) (eV 1),fnE 106 [eV 4,eV 5],eEq (tot (eV 4)) (pl (tot (eV 0)) (.int (-1))),eLe (.int 0) (f107 (eV 0))]⟩),(ii (eV 4),⟨5,3,heapL (zoneB 0 (eV 0) (eV 1) (eV 2)),[.not (eEq (eV 4) (.int 0))]⟩)]⟩
/-- what does not change anything -/
def heapZ : T Blk := heapL (zoneB 0 (eV 0) (eV 1) (eV 2))
def f108 (l z id:E):E:=fnE 108 [l,z,id]
def spWhere:Pact:=⟨21,[at0 0,ii (eV 3)],stZ 4,[(.tup [.agg [ii (eV 4),ii (eV 5)],ii (.int 0)],⟨6,3,heapZ,[eLe (.int 0) (f107 (eV 0)),eEq (eV 4) (f107 (eV 0)),eLe (.int 0) (eV 4),eLt (eV 4) (eV 1),eEq (eV 5) (f108 (eV 0) (eV 4) (eV 3)),eLe (.int 0) (eV 5)]⟩),(.tup [.agg [ii (.int 0),ii (.int 0)],ii (eV 4)],⟨5,3,heapZ,[eEq (f107 (eV 0)) (.int (-1)),.not (eEq (eV 4) (.int 0))]⟩)]⟩
def stQ:St:=⟨4,3,heapZ,pcO++[eLe (.int 0) (eV 3),eLt (eV 3) (eV 1)]⟩
def flI (x n c:E):Blk:=⟨true,.flat kI x n c 3⟩
def f115 (x:E):E:=fnE 115 [x,eV 0,eV 3]
def zq:E:=nt (eV 0) (eV 3)
def spList:Pact:=⟨17,[at0 0,ii (eV 3)],stQ,[(.nslice 3 (eV 5) (eV 6),⟨7,4,heapL (zoneB 0 (eV 0) (eV 1) (eV 2)++[flI (eV 4) (eV 5) (eV 6)]),[eLe (.int 0) (eV 5),eLe (eV 5) (eV 6),eEq (ln (eV 4)) (eV 5),eEq (eV 5) (ln zq),eLe (eV 5) (.int 100),f115 (eV 4)]⟩),(.bsl kI (eV 4),⟨5,3,heapZ,[f115 (eV 4),eEq (ln (eV 4)) (.int 0)]⟩),(.nils,⟨4,3,heapZ,[f115 emp]⟩)]⟩
def natList:Nat1:=frzNat [kI] (specNat spList)
def spTop:Pact:=⟨22,[at0 0,ii (eV 3)],stQ,[(.tup [ii (eV 4),ii (.int 0)],⟨5,3,heapZ,[eLe (.int 1) (ln zq),eEq (eV 4) (nt zq (mi (ln zq) (.int 1)))]⟩),(.tup [ii (.int 0),ii (eV 4)],⟨5,3,heapZ,[eEq (ln zq) (.int 0),.not (eEq (eV 4) (.int 0))]⟩)]⟩
def spWh:Pact:=⟨15,[at0 0,ii (eV 3),.agg [ii (eV 4),ii (eV 5)],ii (.int 0)],⟨6,3,heapZ,pcO⟩,[(.bool (eV 6),⟨7,3,heapZ,[.iff (eV 6) (.and (eLe (.int 0) (f107 (eV 0))) (.and (eEq (f107 (eV 0)) (eV 4)) (eEq (f108 (eV 0) (f107 (eV 0)) (eV 3)) (eV 5))))]⟩)]⟩
/-- few calls -/
def kA : List CK := [.int .i64, .int .i64, .int .i64, .slc kI]
def rw4 (l:E):E:=.fn 9 (.pr l (.int 4))
def spSm:Pact:=⟨20,[.bsl kA (eV 0)],⟨1,0,.nil,[]⟩,[(.bool (eV 1),⟨2,0,.nil,[.imp (eV 1) (eLe (rw4 (eV 0)) (.int 80))]⟩)]⟩
/-- the law: 0 how many, 1 the calls; 8 lists, 9 map, 10 which call -/
def zonesW (W : Nat) (l n m : E) : List Blk := [⟨true, .cells [.nslice (W + 1) n n, .map (W + 2)] (.int 2) 53⟩, ⟨true, .flat kZ l n n 35⟩, ⟨true, .mapl .i64 (.int .i64) m⟩]
def pcN:List E:=[eLe (.int 1) (eV 0),eLe (eV 0) (.int 32),eLe (rw4 (eV 1)) (.int 80)]
def okE (l m:E):List E:=[fnE 106 [l,m],eEq (ln l) (eV 0)]
def slG:List (Nat × SV):=[(0,ii (eV 0)),(1,.bsl kA (eV 1)),(5,at0 8),(48,.bsl kA (eV 1)),(49,ii (rw4 (eV 1))),(50,ii (eV 10))]
def tG:Tmpl:=⟨tmSlots 223 slG,⟨11,11,heapL (List.replicate 8 gone++zonesW 8 (eV 8) (eV 0) (eV 9)),pcN++okE (eV 8) (eV 9)++[eLe (tot (eV 8)) (eV 10),eLe (.int 0) (eV 10),eLe (eV 10) (rw4 (eV 1))]⟩,mi (rw4 (eV 1)) (eV 10)⟩
def tm (a b:E):E:=.fn 8 (.pr a b)
def actE (k:Int):E:=nt (eV 1) (pl (tm (eV 10) (.int 4)) (.int k))
def actB:Blk:=⟨true,.cells [ii (actE 0),ii (actE 1),ii (actE 2),.bsl kI (actE 3)] (.int 4) 43⟩
def f110 (x l n:E):E:=fnE 110 [x,l,n]
def slB:List (Nat × SV):=slG++[(8,at0 16),(9,.nslice 17 (eV 0) (eV 0))]
def heapB (l m b:E):List Blk:=List.replicate 8 gone++zonesW 8 l (eV 0) m++List.replicate 5 gone++[actB,⟨true,.flat kZ b (eV 0) (eV 0) 35⟩]
def tB:Tmpl:=⟨tmSlots 223 (slB++[(57,ii (eV 0)),(58,ii (eV 17))]),⟨18,18,heapL (heapB (eV 8) (eV 9) (eV 16)),tG.st.pc++[eLt (eV 10) (rw4 (eV 1)),eEq (ln (eV 16)) (eV 0),f110 (eV 16) (eV 8) (eV 17),eLe (.int 0) (eV 17),eLe (eV 17) (eV 0)]⟩,mi (eV 0) (eV 17)⟩
/-- after a call: 32 the lists, 33 the map, 34 and 35 where the id was, 36 the error, 37 the zone that is meant, 38 the zones that are checked, 39 what was seen, 40 the lists before -/
def actC : Blk := ⟨true, .cells [ii (actE 0), ii (actE 1), ii (eV 37), .bsl kI (actE 3)] (.int 4) 43⟩
def f112 (s l j k:E):E:=fnE 112 [s,l,j,k]
def slC:List (Nat × SV):=[(0,ii (eV 0)),(1,.bsl kA (eV 1)),(5,at0 32),(48,.bsl kA (eV 1)),(49,ii (rw4 (eV 1))),(50,ii (eV 10)),(8,at0 35),(9,.nslice 36 (eV 0) (eV 0)),(11,at0 37),(13,ii (eV 36)),(14,.map 38),(113,ii (eV 0)),(114,ii (eV 38))]
def heapC:List Blk:=List.replicate 32 gone++zonesW 32 (eV 32) (eV 0) (eV 33)++[actC,⟨true,.flat kZ (eV 40) (eV 0) (eV 0) 35⟩,⟨true,.cells [ii (eV 34),ii (eV 35)] (.int 2) 33⟩,⟨true,.mapl .i64 .bool (eV 39)⟩]
def f111:E:=fnE 111 [eV 32,eV 40,actE 1,eV 34,eV 37,eV 36]
def pcC:List E:=pcN++[eLe (.int 0) (eV 10),eLt (eV 10) (rw4 (eV 1))]++okE (eV 32) (eV 33)++[eLe (tot (eV 32)) (pl (eV 10) (.int 1)),eEq (ln (eV 40)) (eV 0),eLe (tot (eV 40)) (.int 100),f111]
def tC:Tmpl:=⟨tmSlots 223 slC,⟨41,39,heapL heapC,pcC++[eLe (.int 0) (eV 38),eLe (eV 38) (eV 0),f112 (eV 39) (eV 32) (eV 38) (.int 0)]⟩,mi (eV 0) (eV 38)⟩
/-- the lists without the id: before (x) and now (y); W 48 and 64 -/
def bj : E := nt (eV 40) (eV 38)
def f113 (x l n:E):E:=fnE 113 [x,l,actE 1,n]
def ownL (b v:Nat):SV:=.nslice b (eV (v + 1)) (eV (v + 2))
def pcL (v:Nat) (n:E):List E:=[eLe (.int 1) (eV (v + 1)),eLe (eV (v + 1)) (eV (v + 2)),eEq (ln (eV v)) (eV (v + 1)),eLe (eV (v + 1)) n]
def nowP (v:Nat):List E:=[eLt (eV 38) (eV 0),fnE 115 [eV v,eV 32,eV 38]]
def tX (k:Bool):Tmpl:=⟨tmSlots 223 (slC++[(15,ii (eV 38)),(16,.bsl kI (eV 48)),(17,if k then ownL 48 50 else .nils),(18,.nils),(123,.bsl kI bj),(124,ii (ln bj)),(125,ii (eV 49))]),
 ⟨53,49,heapL (heapC++List.replicate 9 gone++[if k then flI (eV 50) (eV 51) (eV 52) else gone]),tC.st.pc++nowP 48++[eLe (.int 0) (eV 49),eLe (eV 49) (ln bj),eLe (ln bj) (.int 100)]++(if k then pcL 50 (eV 49)++[f113 (eV 50) bj (eV 49)] else [f113 emp bj (eV 49)])⟩,mi (ln bj) (eV 49)⟩
def heapY:List Blk:=List.replicate 32 gone++zonesW 32 (eV 32) (eV 0) (eV 33)++[actC,⟨true,.flat kZ (eV 40) (eV 0) (eV 0) 35⟩,⟨true,.cells [ii (eV 34),ii (eV 35)] (.int 2) 33⟩,⟨true,.mapl .i64 .bool (eV 64)⟩]
def tY (kx ky:Bool):Tmpl:=⟨tmSlots 223 (slC++[(15,ii (eV 38)),(16,.bsl kI (eV 65)),(17,if kx then ownL 64 66 else .nils),(18,if ky then ownL 65 69 else .nils),(138,.bsl kI (eV 65)),(139,ii (ln (eV 65))),(140,ii (eV 72))]),
 ⟨73,66,heapL (heapY++List.replicate 25 gone++[if kx then flI (eV 66) (eV 67) (eV 68) else gone,if ky then flI (eV 69) (eV 70) (eV 71) else gone]),pcC++[eLe (.int 0) (eV 38)]++nowP 65++[eLe (ln (eV 65)) (.int 100),eLe (.int 0) (eV 72),eLe (eV 72) (ln (eV 65)),f112 (eV 64) (eV 32) (eV 38) (eV 72)] ++
  (if kx then pcL 66 (.int 100)++[f113 (eV 66) bj (ln bj)] else [f113 emp bj (ln bj)])++(if ky then pcL 69 (eV 72)++[f113 (eV 69) (eV 65) (eV 72)] else [f113 emp (eV 65) (eV 72)])⟩,mi (ln (eV 65)) (eV 72)⟩
/-- equal lists -/
def pcSO : List E := [eLe (eV 1) (eV 2), eEq (ln (eV 0)) (eV 1), eLe (.int 0) (eV 1), eLe (eV 1) (.int 1000), eLe (eV 4) (eV 5), eEq (ln (eV 3)) (eV 4), eLe (.int 0) (eV 4), eLe (eV 4) (.int 1000)]
def heapSO:T Blk:=heapL [flI (eV 0) (eV 1) (eV 2),flI (eV 3) (eV 4) (eV 5)]
def spSO:Pact:=⟨16,[.nslice 0 (eV 1) (eV 2),.nslice 1 (eV 4) (eV 5)],⟨6,2,heapSO,pcSO⟩,[(.bool (eV 6),⟨7,2,heapSO,[.iff (eV 6) (.and (eEq (eV 1) (eV 4)) (fnE 114 [eV 0,eV 3,eV 1]))]⟩)]⟩
def tSO:Tmpl:=⟨tmSlots 26 [(0,.nslice 0 (eV 1) (eV 2)),(1,.nslice 1 (eV 4) (eV 5)),(5,ii (eV 8))],⟨9,2,heapSO,pcSO++[eEq (eV 4) (eV 1),eLe (.int 0) (eV 8),eLe (eV 8) (eV 1),fnE 114 [eV 0,eV 3,eV 8]]⟩,mi (eV 1) (eV 8)⟩
def annSO:List Ann:=[⟨16,0,[tSO],none⟩]
def spSB:Pact:=⟨16,[.bsl kI (eV 0),.bsl kI (eV 1)],⟨2,0,.nil,[eLe (ln (eV 0)) (.int 1000)]⟩,[(.bool (eV 2),⟨3,0,.nil,[.iff (eV 2) (.and (eEq (ln (eV 0)) (ln (eV 1))) (fnE 114 [eV 0,eV 1,ln (eV 0)]))]⟩)]⟩
def tSB:Tmpl:=⟨tmSlots 26 [(0,.bsl kI (eV 0)),(1,.bsl kI (eV 1)),(5,ii (eV 8))],⟨9,0,.nil,[eLe (ln (eV 0)) (.int 1000),eEq (ln (eV 1)) (ln (eV 0)),eLe (.int 0) (eV 8),eLe (eV 8) (ln (eV 0)),fnE 114 [eV 0,eV 1,eV 8]]⟩,mi (ln (eV 0)) (eV 8)⟩
def annSB:List Ann:=[⟨16,0,[tSB],none⟩]
def tSm:Tmpl:=⟨tmSlots 24 [(0,.bsl kA (eV 0)),(3,ii (eV 8))],⟨9,0,.nil,[eLe (.int 0) (eV 8),eLe (eV 8) (.int 81),eLe (eV 8) (rw4 (eV 0))]⟩,mi (.int 81) (eV 8)⟩
def annSm:List Ann:=[⟨20,0,[tSm],none⟩]
/-- one of two lists is nil -/
def pcN1 : List E := [eLe (eV 1) (eV 2), eEq (ln (eV 0)) (eV 1), eLe (.int 0) (eV 1), eLe (eV 1) (.int 1000)]
def heapN1:T Blk:=heapL [flI (eV 0) (eV 1) (eV 2)]
def pN1:List (SV × St):=[(.bool (eV 3),⟨4,1,heapN1,[.iff (eV 3) (eEq (eV 1) (.int 0))]⟩)]
def spNO:Pact:=⟨16,[.nils,.nslice 0 (eV 1) (eV 2)],⟨3,1,heapN1,pcN1⟩,pN1⟩
def spON:Pact:=⟨16,[.nslice 0 (eV 1) (eV 2),.nils],⟨3,1,heapN1,pcN1⟩,pN1⟩
def args:List SV:=[ii (eV 0),.bsl kA (eV 1)]
def pc0:List E:=[]
/-! loops by themselves -/
def exB:Out:=⟨.exit 2,tmSlots 223 slB,⟨17,18,heapL (heapB (eV 8) (eV 9) (eV 16)),tG.st.pc++[eLt (eV 10) (rw4 (eV 1)),eEq (ln (eV 16)) (eV 0),f110 (eV 16) (eV 8) (eV 0)]⟩⟩
def yB:LoopX:=⟨16,16,[exB]⟩
def exX (k:Bool):Out:=⟨.exit 7,tmSlots 223 (slC++[(15,ii (eV 38)),(16,.bsl kI (eV 48)),(17,if k then ownL 48 50 else .nils),(18,.nils)]),
 ⟨53,49,heapL (heapC++List.replicate 9 gone++[if k then flI (eV 50) (eV 51) (eV 52) else gone]),tC.st.pc++nowP 48++[eLe (ln bj) (.int 100)]++(if k then pcL 50 (.int 100)++[f113 (eV 50) bj (ln bj)] else [f113 emp bj (ln bj)])⟩⟩
def yX:LoopX:=⟨48,48,[exX false,exX true]⟩
def exY (kx ky:Bool):Out:=⟨.exit 9,tmSlots 223 (slC++[(15,ii (eV 38)),(16,.bsl kI (eV 65)),(17,if kx then ownL 64 66 else .nils),(18,if ky then ownL 65 69 else .nils)]),
 ⟨73,66,heapL (heapY++List.replicate 25 gone++[if kx then flI (eV 66) (eV 67) (eV 68) else gone,if ky then flI (eV 69) (eV 70) (eV 71) else gone]),pcC++[eLe (.int 0) (eV 38)]++nowP 65++[eLe (ln (eV 65)) (.int 100),f112 (eV 64) (eV 32) (eV 38) (ln (eV 65))] ++
  (if kx then pcL 66 (.int 100)++[f113 (eV 66) bj (ln bj)] else [f113 emp bj (ln bj)])++(if ky then pcL 69 (.int 100)++[f113 (eV 69) (eV 65) (ln (eV 65))] else [f113 emp (eV 65) (ln (eV 65))])⟩⟩
def yY:LoopX:=⟨64,64,[exY false false,exY false true,exY true false,exY true true]⟩
def exC:Out:=⟨.exit 5,tmSlots 223 [(0,ii (eV 0)),(1,.bsl kA (eV 1)),(5,at0 32),(48,.bsl kA (eV 1)),(49,ii (rw4 (eV 1))),(50,ii (eV 10))],
 ⟨34,35,heapL (List.replicate 32 gone++zonesW 32 (eV 32) (eV 0) (eV 33)),pcN++[eLe (.int 0) (eV 10),eLt (eV 10) (rw4 (eV 1))]++okE (eV 32) (eV 33)++[eLe (tot (eV 32)) (pl (eV 10) (.int 1))]⟩⟩
def yC:LoopX:=⟨32,32,[exC]⟩
def yG:LoopX:=⟨8,8,[⟨.exit 0,tmSlots 223 [],⟨8,8,.nil,[]⟩⟩]⟩
def annG (y:Option LoopX):Ann:=⟨5,0,[tG],y⟩
def annB (y:Option LoopX):Ann:=⟨5,2,[tB],y⟩
def annC (y:Option LoopX):Ann:=⟨5,5,[tC],y⟩
def annX (y:Option LoopX):Ann:=⟨5,7,[tX false,tX true],y⟩
def annY (y:Option LoopX):Ann:=⟨5,9,[tY false false,tY false true,tY true false,tY true true],y⟩

def natl0:List Nat1:=nats
theorem natl0_ok:∀ x∈natl0,NatOk Try.prog x:=nats_ok

theorem reckoned0:withTab Try.prog (fun tb=>checkAll outTrue (run Try.prog (tb.plus [] [] natl0) 3000 (.call 13 []) .nil (varSt 0 []) SX.one))=true:=by kernel_rfl
def natl1:List Nat1:=closedNat 13::natl0
theorem natl1_ok:∀ x∈natl1,NatOk Try.prog x:=by
 intro x hx
 rcases List.mem_cons.1 hx with rfl | hx
 ·exact closed_of_check good (facts:=[]) all_nil (anns:=[]) (plainAnns_ok [] rfl) (nats:=natl0) natl0_ok reckoned0
 ·exact natl0_ok x hx

def F0:E:=(.cmp .eql (.fn 117 (.pr Q0 (.pr Q1 (.int 0)))) (.int (-1)))
theorem G0:Tr F0:=fun ρ=>by
 unfold F0
 have:=@t117_zero ρ Q0 (.int 0) Q1
 try simp only [smA,smW] at *
 grind
def F1:E:=(.imp (.and Q3 (.and Q4 (.and Q5 Q6))) (.cmp .eql Q2 (.fn 116 (.pr Q0 Q1))))
theorem G1:Tr F1:=ii4 fun ρ p0 p1 p2 p3=>by
 have:=@t117_step ρ Q0 Q2 (.fn 6 (.pr Q2 (.int 1))) Q1
 try simp only [smA,smW] at *
 grind
def F2:E:=(.imp Q10 (.not (.cmp .lss Q11 (.int 0))))
theorem G2:Tr F2:=ii3 fun ρ p0 p1 p2=>by
 try simp only [smA,smW] at *
 obtain ⟨a5,ea5,qa5⟩:=cs_i64 ((E.I ρ Q2) + (1))
 try simp only [ea5] at *
 grind
def F3:E:=(.imp (.and (.not Q3) Q5) (.cmp .eql (.fn 116 (.pr Q0 Q1)) (.int (-1))))
theorem G3:Tr F3:=ii2 fun ρ p0 p1=>by
 have:=@t117_end ρ Q0 Q2 Q1
 try simp only [smA,smW] at *
 grind
def F4:E:=(.imp Q13 (.not (.cmp .lss (.fn 0 Q0) Q11)))
theorem G4:Tr F4:=ii4 fun ρ p0 p1 p2 p3=>by
 try simp only [smA,smW] at *
 obtain ⟨a5,ea5,qa5⟩:=cs_i64 ((E.I ρ Q2) + (1))
 try simp only [ea5] at *
 grind
def F5:E:=(.imp (.and Q3 (.and (.not Q4) (.and Q5 Q9))) (.cmp .eql (.fn 117 (.pr Q0 (.pr Q1 Q11))) (.int (-1))))
theorem G5:Tr F5:=ii5 fun ρ p0 p1 p2 p3 p4=>by
 have:=@wrap_add ρ Q2 (.int 1)
 have:=@t117_step ρ Q0 Q2 Q11 Q1
 try simp only [smA,smW] at *
 grind
def F6:E:=(.imp Q10 (.cmp .lss (.fn 7 (.pr (.fn 0 Q0) Q11)) (.fn 7 (.pr (.fn 0 Q0) Q2))))
theorem G6:Tr F6:=ii3 fun ρ p0 p1 p2=>by
 try simp only [smA,smW] at *
 obtain ⟨a5,ea5,qa5⟩:=cs_i64 ((E.I ρ Q2) + (1))
 try simp only [ea5] at *
 grind
def F7:E:=(.imp Q13 (.not (.cmp .lss (.fn 7 (.pr (.fn 0 Q0) Q11)) (.int 0))))
theorem G7:Tr F7:=ii4 fun ρ p0 p1 p2 p3=>by
 try simp only [smA,smW] at *
 obtain ⟨a5,ea5,qa5⟩:=cs_i64 ((E.I ρ Q2) + (1))
 try simp only [ea5] at *
 grind
namespace p0
def facts:List E:=[F0,F1,F2,F3,F4,F5,F6,F7]
theorem facts_ok:∀ e∈facts,Tr e:=(ac G0 (ac G1 (ac G2 (ac G3 (ac G4 (ac G5 (ac G6 (ac G7 all_nil))))))))
end p0
theorem spec0_0:NatOk Try.prog (specNat (spIx)) :=
 spec_of_check good (facts:=p0.facts) p0.facts_ok (anns:=annIx) (plainAnns_ok _ (by kernel_rfl)) (nats:=natl1) natl1_ok (n:=3000) (by kernel_rfl)
def natl2:List Nat1:=specNat (spIx)::natl1
theorem natl2_ok:∀ x∈natl2,NatOk Try.prog x:=by
 intro x hx
 rcases List.mem_cons.1 hx with rfl | hx
 ·exact spec0_0
 exact natl1_ok x hx

def F8:E:=(.imp (.and Q16 Q21) (.not (.cmp .lss (.int 2147483648) (.fn 6 (.pr Q14 (.int 1))))))
theorem G8:Tr F8:=ii5 fun ρ p0 p1 p2 p3 p4=>by
 have:=@zlen_le ρ Q0 Q2
 try simp only [smA,smW] at *
 grind
def F9:E:=(.imp (.and Q16 (.and Q22 Q21)) (.not (.cmp .lss (.int 2147483648) (.fn 6 (.pr (.fn 6 (.pr Q14 (.int 1))) (.fn 29 (.pr (.fn 0 (.fn 1 (.pr Q0 Q2))) Q14)))))))
theorem G9:Tr F9:=ii6 fun ρ p0 p1 p2 p3 p4 p5=>by
 have:=@zlen_le ρ Q0 Q2
 have:=@I_29 ρ (.fn 0 (.fn 1 (.pr Q0 Q2))) Q14
 try simp only [smA,smW] at *
 grind
def F10:E:=(.imp Q38 (.fn 118 (.pr (.fn 2 (.pr Q0 (.pr Q2 (.fn 28 (.pr (.pr (.var 8) (.fn 6 (.pr (.fn 6 (.pr Q14 (.int 1))) (.fn 29 (.pr (.fn 0 (.fn 1 (.pr Q0 Q2))) Q14))))) (.fn 3 (.pr (.fn 3 (.pr (.fn 24 (.pr (.pr (.int 1) (.fn 1 (.pr Q0 Q2))) (.pr (.int 0) (.pr Q14 Q14)))) (.fn 23 (.pr Q23 (.fn 10 (.int 0)))))) (.fn 24 (.pr (.pr (.int 1) (.fn 1 (.pr Q0 Q2))) (.pr Q14 (.pr (.fn 0 (.fn 1 (.pr Q0 Q2))) (.fn 22 (.fn 1 (.pr Q0 Q2)))))))))))))) (.pr Q0 (.pr Q2 (.pr Q23 Q14))))))
theorem G10:Tr F10:=ii9 fun ρ p0 p1 p2 p3 p4 p5 p6 p7 p8=>by
 have n33:¬ E.B ρ (.fn 33 (.pr Q28 Q23))=true:=by simpa only [smA] using p4
 have:=fun a b c d e f=>@t_ins ρ (.pr (.var 8) (.fn 6 (.pr (.fn 6 (.pr Q14 (.int 1))) (.fn 29 (.pr (.fn 0 (.fn 1 (.pr Q0 Q2))) Q14))))) _ Q14 _ Q2 Q23 p7 n33 a b c d e f _ rfl
 try simp only [smA,smW] at *
 grind
def F11:E:=(.imp Q38 (.fn 106 (.pr (.fn 2 (.pr Q0 (.pr Q2 (.fn 28 (.pr (.pr (.var 8) (.fn 6 (.pr (.fn 6 (.pr Q14 (.int 1))) (.fn 29 (.pr (.fn 0 (.fn 1 (.pr Q0 Q2))) Q14))))) (.fn 3 (.pr (.fn 3 (.pr (.fn 24 (.pr (.pr (.int 1) (.fn 1 (.pr Q0 Q2))) (.pr (.int 0) (.pr Q14 Q14)))) (.fn 23 (.pr Q23 (.fn 10 (.int 0)))))) (.fn 24 (.pr (.pr (.int 1) (.fn 1 (.pr Q0 Q2))) (.pr Q14 (.pr (.fn 0 (.fn 1 (.pr Q0 Q2))) (.fn 22 (.fn 1 (.pr Q0 Q2)))))))))))))) (.fn 34 (.pr Q28 (.pr Q23 Q2))))))
theorem G11:Tr F11:=ii9 fun ρ p0 p1 p2 p3 p4 p5 p6 p7 p8=>by
 have n33:¬ E.B ρ (.fn 33 (.pr Q28 Q23))=true:=by simpa only [smA] using p4
 have:=fun a b c d e f=>@t_ins ρ (.pr (.var 8) (.fn 6 (.pr (.fn 6 (.pr Q14 (.int 1))) (.fn 29 (.pr (.fn 0 (.fn 1 (.pr Q0 Q2))) Q14))))) _ Q14 _ Q2 Q23 p7 n33 a b c d e f _ rfl
 try simp only [smA,smW] at *
 grind
def F12:E:=(.imp Q38 (.cmp .eql (.fn 109 (.fn 2 (.pr Q0 (.pr Q2 (.fn 28 (.pr (.pr (.var 8) (.fn 6 (.pr (.fn 6 (.pr Q14 (.int 1))) (.fn 29 (.pr (.fn 0 (.fn 1 (.pr Q0 Q2))) Q14))))) (.fn 3 (.pr (.fn 3 (.pr (.fn 24 (.pr (.pr (.int 1) (.fn 1 (.pr Q0 Q2))) (.pr (.int 0) (.pr Q14 Q14)))) (.fn 23 (.pr Q23 (.fn 10 (.int 0)))))) (.fn 24 (.pr (.pr (.int 1) (.fn 1 (.pr Q0 Q2))) (.pr Q14 (.pr (.fn 0 (.fn 1 (.pr Q0 Q2))) (.fn 22 (.fn 1 (.pr Q0 Q2))))))))))))))) (.fn 6 (.pr (.fn 109 Q0) (.int 1)))))
theorem G12:Tr F12:=ii9 fun ρ p0 p1 p2 p3 p4 p5 p6 p7 p8=>by
 have n33:¬ E.B ρ (.fn 33 (.pr Q28 Q23))=true:=by simpa only [smA] using p4
 have:=fun a b c d e f=>@t_ins ρ (.pr (.var 8) (.fn 6 (.pr (.fn 6 (.pr Q14 (.int 1))) (.fn 29 (.pr (.fn 0 (.fn 1 (.pr Q0 Q2))) Q14))))) _ Q14 _ Q2 Q23 p7 n33 a b c d e f _ rfl
 try simp only [smA,smW] at *
 grind
namespace p1
def facts:List E:=[F8,F9,F10,F11,F12]
theorem facts_ok:∀ e∈facts,Tr e:=(ac G8 (ac G9 (ac G10 (ac G11 (ac G12 all_nil)))))
end p1
theorem spec1_0:NatOk Try.prog (specNat (spPu)) :=
 spec_of_check good (facts:=p1.facts) p1.facts_ok (anns:=[]) (plainAnns_ok _ (by kernel_rfl)) (nats:=natl2) natl2_ok (n:=3000) (by kernel_rfl)
def natl3:List Nat1:=specNat (spPu)::natl2
theorem natl3_ok:∀ x∈natl3,NatOk Try.prog x:=by
 intro x hx
 rcases List.mem_cons.1 hx with rfl | hx
 ·exact spec1_0
 exact natl2_ok x hx

def F13:E:=(.imp (.and (.fn 33 (.pr Q28 Q23)) Q30) (.not (.cmp .lss (.fn 32 (.pr Q28 (.pr Q23 (.int 0)))) (.int 0))))
theorem G13:Tr F13:=ii2 fun ρ p0 p1=>by
 have:=@t_find ρ _ _ _ p1 p0
 try simp only [smA,smW] at *
 grind
def F14:E:=(.imp (.and (.fn 33 (.pr Q28 Q23)) Q31) (.cmp .lss (.fn 32 (.pr Q28 (.pr Q23 (.int 0)))) Q1))
theorem G14:Tr F14:=ii3 fun ρ p0 p1 p2=>by
 have:=@t_find ρ _ _ _ p1 p0
 try simp only [smA,smW] at *
 grind
def F15:E:=(.imp (.and (.fn 33 (.pr Q28 Q23)) (.and Q30 Q19)) (.not (.cmp .lss (.int 1000) (.fn 0 (.fn 1 (.pr Q0 (.fn 32 (.pr Q28 (.pr Q23 (.int 0))))))))))
theorem G15:Tr F15:=ii3 fun ρ p0 p1 p2=>by
 have:=@t_find ρ _ _ _ p1 p0
 have:=@zlen_le ρ Q0 (.fn 32 (.pr Q28 (.pr Q23 (.int 0))))
 try simp only [smA,smW] at *
 grind
def F16:E:=(.imp (.and (.fn 33 (.pr Q28 Q23)) (.and Q30 (.and Q40 Q41))) Q6)
theorem G16:Tr F16:=ii4 fun ρ p0 p1 p2 p3=>by
 have:=@t_find ρ _ _ _ p1 p0
 try simp only [smA,smW] at *
 grind
def F17:E:=(.imp Q43 (.not (.cmp .lss Q11 (.int 0))))
theorem G17:Tr F17:=ii5 fun ρ p0 p1 p2 p3 p4=>by
 have:=@t_find ρ _ _ _ p1 p0
 have:=@zlen_le ρ Q0 (.fn 32 (.pr Q28 (.pr Q23 (.int 0))))
 try simp only [smA,smW] at *
 obtain ⟨a6,ea6,qa6⟩:=cs_i64 ((E.I ρ Q2) + (1))
 try simp only [ea6] at *
 grind
def F18:E:=(.imp Q42 (.not (.cmp .lss (.fn 0 (.fn 1 (.pr Q0 (.fn 32 (.pr Q28 (.pr Q23 (.int 0))))))) Q2)))
theorem G18:Tr F18:=ii1 fun ρ p0=>by
 try simp only [smA,smW] at *
 grind
def F19:E:=(.imp Q43 (.not (.cmp .lss (.fn 0 (.fn 1 (.pr Q0 (.fn 32 (.pr Q28 (.pr Q23 (.int 0))))))) Q11)))
theorem G19:Tr F19:=ii5 fun ρ p0 p1 p2 p3 p4=>by
 have:=@t_find ρ _ _ _ p1 p0
 have:=@zlen_le ρ Q0 (.fn 32 (.pr Q28 (.pr Q23 (.int 0))))
 try simp only [smA,smW] at *
 obtain ⟨a6,ea6,qa6⟩:=cs_i64 ((E.I ρ Q2) + (1))
 try simp only [ea6] at *
 grind
def F20:E:=(.imp Q43 (.not (.cmp .lss (.int 2147483648) (.fn 6 (.pr Q2 (.fn 29 (.pr (.fn 0 (.fn 1 (.pr Q0 (.fn 32 (.pr Q28 (.pr Q23 (.int 0))))))) Q11)))))))
theorem G20:Tr F20:=ii5 fun ρ p0 p1 p2 p3 p4=>by
 have:=@t_find ρ _ _ _ p1 p0
 have:=@zlen_le ρ Q0 (.fn 32 (.pr Q28 (.pr Q23 (.int 0))))
 have:=@I_29 ρ (.fn 0 (.fn 1 (.pr Q0 (.fn 32 (.pr Q28 (.pr Q23 (.int 0))))))) Q11
 have:=@wrap_add ρ Q2 (.int 1)
 try simp only [smA,smW] at *
 grind
def F21:E:=(.imp (.and (.fn 33 (.pr Q28 Q23)) (.and Q30 (.and Q42 (.and Q41 (.and (.not Q44) Q19))))) (.cmp .lss Q2 (.fn 6 (.pr Q2 (.fn 29 (.pr (.fn 0 (.fn 1 (.pr Q0 (.fn 32 (.pr Q28 (.pr Q23 (.int 0))))))) Q11))))))
theorem G21:Tr F21:=ii6 fun ρ p0 p1 p2 p3 p4 p5=>by
 have:=@t_find ρ _ _ _ p1 p0
 have:=@zlen_le ρ Q0 (.fn 32 (.pr Q28 (.pr Q23 (.int 0))))
 have:=@I_29 ρ (.fn 0 (.fn 1 (.pr Q0 (.fn 32 (.pr Q28 (.pr Q23 (.int 0))))))) Q11
 have:=@wrap_add ρ Q2 (.int 1)
 try simp only [smA,smW] at *
 grind
def F22:E:=(.imp Q45 (.fn 104 (.pr (.fn 2 (.pr Q0 (.pr (.fn 32 (.pr Q28 (.pr Q23 (.int 0)))) (.fn 28 (.pr (.pr (.var 6) (.fn 6 (.pr Q2 (.fn 29 (.pr (.fn 0 (.fn 1 (.pr Q0 (.fn 32 (.pr Q28 (.pr Q23 (.int 0))))))) Q11))))) (.fn 3 (.pr (.fn 24 (.pr (.pr (.int 1) (.fn 1 (.pr Q0 (.fn 32 (.pr Q28 (.pr Q23 (.int 0))))))) (.pr (.int 0) (.pr Q2 Q2)))) (.fn 24 (.pr (.pr (.int 1) (.fn 1 (.pr Q0 (.fn 32 (.pr Q28 (.pr Q23 (.int 0))))))) (.pr Q11 (.pr (.fn 0 (.fn 1 (.pr Q0 (.fn 32 (.pr Q28 (.pr Q23 (.int 0))))))) (.fn 22 (.fn 1 (.pr Q0 (.fn 32 (.pr Q28 (.pr Q23 (.int 0)))))))))))))))))) (.pr Q0 Q23))))
theorem G22:Tr F22:=ii6 fun ρ p0 p1 p2 p3 p4 p5=>by
 obtain ⟨g0,g2,g1⟩:(0)≤E.I ρ Q2∧E.I ρ Q2=E.I ρ (.fn 116 (.pr (.fn 1 (.pr Q0 (.fn 32 (.pr Q28 (.pr Q23 (.int 0)))))) Q23))∧E.I ρ Q11=E.I ρ (.fn 6 (.pr Q2 (.int 1))):=by
  have:=@t_find ρ _ _ _ p1 p0
  have:=@zlen_le ρ Q0 (.fn 32 (.pr Q28 (.pr Q23 (.int 0))))
  have:=@I_29 ρ (.fn 0 (.fn 1 (.pr Q0 (.fn 32 (.pr Q28 (.pr Q23 (.int 0))))))) Q11
  have:=@wrap_add ρ Q2 (.int 1)
  try simp only [smA,smW] at *
  have:=@fn0_nn ρ Q0
  have:=@fn0_nn ρ (.fn 1 (.pr Q0 (.fn 32 (.pr Q28 (.pr Q23 (.int 0))))))
  obtain ⟨a8,ea8,qa8⟩:=cs_i64 ((E.I ρ Q2) + (1))
  try simp only [ea8] at *
  grind
 have ht:=@t_take ρ _ _ (.fn 32 (.pr Q28 (.pr Q23 (.int 0)))) _ (.fn 28 (.pr (.pr (.var 6) (.fn 6 (.pr Q2 (.fn 29 (.pr (.fn 0 (.fn 1 (.pr Q0 (.fn 32 (.pr Q28 (.pr Q23 (.int 0))))))) Q11))))) (.fn 3 (.pr (.fn 24 (.pr (.pr (.int 1) (.fn 1 (.pr Q0 (.fn 32 (.pr Q28 (.pr Q23 (.int 0))))))) (.pr (.int 0) (.pr Q2 Q2)))) (.fn 24 (.pr (.pr (.int 1) (.fn 1 (.pr Q0 (.fn 32 (.pr Q28 (.pr Q23 (.int 0))))))) (.pr Q11 (.pr (.fn 0 (.fn 1 (.pr Q0 (.fn 32 (.pr Q28 (.pr Q23 (.int 0))))))) (.fn 22 (.fn 1 (.pr Q0 (.fn 32 (.pr Q28 (.pr Q23 (.int 0))))))))))))))) (.int 0) p1 p0 rfl ((@ints_cut2 ρ (.fn 1 (.pr Q0 (.fn 32 (.pr Q28 (.pr Q23 (.int 0)))))) (.pr (.var 6) (.fn 6 (.pr Q2 (.fn 29 (.pr (.fn 0 (.fn 1 (.pr Q0 (.fn 32 (.pr Q28 (.pr Q23 (.int 0))))))) Q11))))) Q2 Q11 g0 g1).trans (by rw [g2]))
 exact ht.1
def F23:E:=(.imp Q46 (.fn 104 (.pr (.fn 2 (.pr Q0 (.pr (.fn 32 (.pr Q28 (.pr Q23 (.int 0)))) (.fn 24 (.pr (.pr (.int 1) (.fn 1 (.pr Q0 (.fn 32 (.pr Q28 (.pr Q23 (.int 0))))))) (.pr (.int 0) (.pr Q2 Q2))))))) (.pr Q0 Q23))))
theorem G23:Tr F23:=ii6 fun ρ p0 p1 p2 p3 p4 p5=>by
 obtain ⟨g0,g2,g1⟩:(0)≤E.I ρ Q2∧E.I ρ Q2=E.I ρ (.fn 116 (.pr (.fn 1 (.pr Q0 (.fn 32 (.pr Q28 (.pr Q23 (.int 0)))))) Q23))∧E.I ρ (.fn 0 (.fn 1 (.pr Q0 (.fn 32 (.pr Q28 (.pr Q23 (.int 0)))))))≤E.I ρ (.fn 6 (.pr Q2 (.int 1))):=by
  have:=@t_find ρ _ _ _ p1 p0
  have:=@zlen_le ρ Q0 (.fn 32 (.pr Q28 (.pr Q23 (.int 0))))
  have:=@I_29 ρ (.fn 0 (.fn 1 (.pr Q0 (.fn 32 (.pr Q28 (.pr Q23 (.int 0))))))) Q11
  have:=@wrap_add ρ Q2 (.int 1)
  try simp only [smA,smW] at *
  have:=@fn0_nn ρ Q0
  have:=@fn0_nn ρ (.fn 1 (.pr Q0 (.fn 32 (.pr Q28 (.pr Q23 (.int 0))))))
  grind
 have ht:=@t_take ρ _ _ (.fn 32 (.pr Q28 (.pr Q23 (.int 0)))) _ (.fn 24 (.pr (.pr (.int 1) (.fn 1 (.pr Q0 (.fn 32 (.pr Q28 (.pr Q23 (.int 0))))))) (.pr (.int 0) (.pr Q2 Q2)))) (.int 0) p1 p0 rfl ((@ints_cut1 ρ (.fn 1 (.pr Q0 (.fn 32 (.pr Q28 (.pr Q23 (.int 0)))))) Q2 g0 g1).trans (by rw [g2]))
 exact ht.1
def F24:E:=(.imp Q45 (.fn 106 (.pr (.fn 2 (.pr Q0 (.pr (.fn 32 (.pr Q28 (.pr Q23 (.int 0)))) (.fn 28 (.pr (.pr (.var 6) (.fn 6 (.pr Q2 (.fn 29 (.pr (.fn 0 (.fn 1 (.pr Q0 (.fn 32 (.pr Q28 (.pr Q23 (.int 0))))))) Q11))))) (.fn 3 (.pr (.fn 24 (.pr (.pr (.int 1) (.fn 1 (.pr Q0 (.fn 32 (.pr Q28 (.pr Q23 (.int 0))))))) (.pr (.int 0) (.pr Q2 Q2)))) (.fn 24 (.pr (.pr (.int 1) (.fn 1 (.pr Q0 (.fn 32 (.pr Q28 (.pr Q23 (.int 0))))))) (.pr Q11 (.pr (.fn 0 (.fn 1 (.pr Q0 (.fn 32 (.pr Q28 (.pr Q23 (.int 0))))))) (.fn 22 (.fn 1 (.pr Q0 (.fn 32 (.pr Q28 (.pr Q23 (.int 0)))))))))))))))))) (.fn 35 (.pr Q28 Q23)))))
theorem G24:Tr F24:=ii6 fun ρ p0 p1 p2 p3 p4 p5=>by
 obtain ⟨g0,g2,g1⟩:(0)≤E.I ρ Q2∧E.I ρ Q2=E.I ρ (.fn 116 (.pr (.fn 1 (.pr Q0 (.fn 32 (.pr Q28 (.pr Q23 (.int 0)))))) Q23))∧E.I ρ Q11=E.I ρ (.fn 6 (.pr Q2 (.int 1))):=by
  have:=@t_find ρ _ _ _ p1 p0
  have:=@zlen_le ρ Q0 (.fn 32 (.pr Q28 (.pr Q23 (.int 0))))
  have:=@I_29 ρ (.fn 0 (.fn 1 (.pr Q0 (.fn 32 (.pr Q28 (.pr Q23 (.int 0))))))) Q11
  have:=@wrap_add ρ Q2 (.int 1)
  try simp only [smA,smW] at *
  have:=@fn0_nn ρ Q0
  have:=@fn0_nn ρ (.fn 1 (.pr Q0 (.fn 32 (.pr Q28 (.pr Q23 (.int 0))))))
  obtain ⟨a8,ea8,qa8⟩:=cs_i64 ((E.I ρ Q2) + (1))
  try simp only [ea8] at *
  grind
 have ht:=@t_take ρ _ _ (.fn 32 (.pr Q28 (.pr Q23 (.int 0)))) _ (.fn 28 (.pr (.pr (.var 6) (.fn 6 (.pr Q2 (.fn 29 (.pr (.fn 0 (.fn 1 (.pr Q0 (.fn 32 (.pr Q28 (.pr Q23 (.int 0))))))) Q11))))) (.fn 3 (.pr (.fn 24 (.pr (.pr (.int 1) (.fn 1 (.pr Q0 (.fn 32 (.pr Q28 (.pr Q23 (.int 0))))))) (.pr (.int 0) (.pr Q2 Q2)))) (.fn 24 (.pr (.pr (.int 1) (.fn 1 (.pr Q0 (.fn 32 (.pr Q28 (.pr Q23 (.int 0))))))) (.pr Q11 (.pr (.fn 0 (.fn 1 (.pr Q0 (.fn 32 (.pr Q28 (.pr Q23 (.int 0))))))) (.fn 22 (.fn 1 (.pr Q0 (.fn 32 (.pr Q28 (.pr Q23 (.int 0))))))))))))))) (.int 0) p1 p0 rfl ((@ints_cut2 ρ (.fn 1 (.pr Q0 (.fn 32 (.pr Q28 (.pr Q23 (.int 0)))))) (.pr (.var 6) (.fn 6 (.pr Q2 (.fn 29 (.pr (.fn 0 (.fn 1 (.pr Q0 (.fn 32 (.pr Q28 (.pr Q23 (.int 0))))))) Q11))))) Q2 Q11 g0 g1).trans (by rw [g2]))
 exact ht.2.1
def F25:E:=(.imp Q46 (.fn 106 (.pr (.fn 2 (.pr Q0 (.pr (.fn 32 (.pr Q28 (.pr Q23 (.int 0)))) (.fn 24 (.pr (.pr (.int 1) (.fn 1 (.pr Q0 (.fn 32 (.pr Q28 (.pr Q23 (.int 0))))))) (.pr (.int 0) (.pr Q2 Q2))))))) (.fn 35 (.pr Q28 Q23)))))
theorem G25:Tr F25:=ii6 fun ρ p0 p1 p2 p3 p4 p5=>by
 obtain ⟨g0,g2,g1⟩:(0)≤E.I ρ Q2∧E.I ρ Q2=E.I ρ (.fn 116 (.pr (.fn 1 (.pr Q0 (.fn 32 (.pr Q28 (.pr Q23 (.int 0)))))) Q23))∧E.I ρ (.fn 0 (.fn 1 (.pr Q0 (.fn 32 (.pr Q28 (.pr Q23 (.int 0)))))))≤E.I ρ (.fn 6 (.pr Q2 (.int 1))):=by
  have:=@t_find ρ _ _ _ p1 p0
  have:=@zlen_le ρ Q0 (.fn 32 (.pr Q28 (.pr Q23 (.int 0))))
  have:=@I_29 ρ (.fn 0 (.fn 1 (.pr Q0 (.fn 32 (.pr Q28 (.pr Q23 (.int 0))))))) Q11
  have:=@wrap_add ρ Q2 (.int 1)
  try simp only [smA,smW] at *
  have:=@fn0_nn ρ Q0
  have:=@fn0_nn ρ (.fn 1 (.pr Q0 (.fn 32 (.pr Q28 (.pr Q23 (.int 0))))))
  grind
 have ht:=@t_take ρ _ _ (.fn 32 (.pr Q28 (.pr Q23 (.int 0)))) _ (.fn 24 (.pr (.pr (.int 1) (.fn 1 (.pr Q0 (.fn 32 (.pr Q28 (.pr Q23 (.int 0))))))) (.pr (.int 0) (.pr Q2 Q2)))) (.int 0) p1 p0 rfl ((@ints_cut1 ρ (.fn 1 (.pr Q0 (.fn 32 (.pr Q28 (.pr Q23 (.int 0)))))) Q2 g0 g1).trans (by rw [g2]))
 exact ht.2.1
def F26:E:=(.imp (.and (.fn 33 (.pr Q28 Q23)) (.and Q30 (.and Q18 (.and (.not (.cmp .lss Q1 (.int 1))) (.and Q42 (.and Q40 (.and Q41 (.and (.not Q44) (.and Q22 (.and (.not (.cmp .lss Q14 (.fn 6 (.pr Q2 (.fn 29 (.pr (.fn 0 (.fn 1 (.pr Q0 (.fn 32 (.pr Q28 (.pr Q23 (.int 0))))))) Q11)))))) Q47)))))))))) (.cmp .eql (.fn 109 (.fn 2 (.pr Q0 (.pr (.fn 32 (.pr Q28 (.pr Q23 (.int 0)))) (.fn 28 (.pr (.pr (.var 6) (.fn 6 (.pr Q2 (.fn 29 (.pr (.fn 0 (.fn 1 (.pr Q0 (.fn 32 (.pr Q28 (.pr Q23 (.int 0))))))) Q11))))) (.fn 3 (.pr (.fn 24 (.pr (.pr (.int 1) (.fn 1 (.pr Q0 (.fn 32 (.pr Q28 (.pr Q23 (.int 0))))))) (.pr (.int 0) (.pr Q2 Q2)))) (.fn 24 (.pr (.pr (.int 1) (.fn 1 (.pr Q0 (.fn 32 (.pr Q28 (.pr Q23 (.int 0))))))) (.pr Q11 (.pr (.fn 0 (.fn 1 (.pr Q0 (.fn 32 (.pr Q28 (.pr Q23 (.int 0))))))) (.fn 22 (.fn 1 (.pr Q0 (.fn 32 (.pr Q28 (.pr Q23 (.int 0))))))))))))))))))) (.fn 6 (.pr (.fn 109 Q0) (.int (-1))))))
theorem G26:Tr F26:=ii12 fun ρ p0 p1 p2 p3 p4 p5 p6 p7 p8 p9 p10 p11=>by
 obtain ⟨g0,g2,g1⟩:(0)≤E.I ρ Q2∧E.I ρ Q2=E.I ρ (.fn 116 (.pr (.fn 1 (.pr Q0 (.fn 32 (.pr Q28 (.pr Q23 (.int 0)))))) Q23))∧E.I ρ Q11=E.I ρ (.fn 6 (.pr Q2 (.int 1))):=by
  have:=@t_find ρ _ _ _ p1 p0
  have:=@zlen_le ρ Q0 (.fn 32 (.pr Q28 (.pr Q23 (.int 0))))
  have:=@I_29 ρ (.fn 0 (.fn 1 (.pr Q0 (.fn 32 (.pr Q28 (.pr Q23 (.int 0))))))) Q11
  have:=@wrap_add ρ Q2 (.int 1)
  try simp only [smA,smW] at *
  have:=@fn0_nn ρ Q0
  have:=@fn0_nn ρ (.fn 1 (.pr Q0 (.fn 32 (.pr Q28 (.pr Q23 (.int 0))))))
  obtain ⟨a8,ea8,qa8⟩:=cs_i64 ((E.I ρ Q2) + (1))
  try simp only [ea8] at *
  grind
 have ht:=@t_take ρ _ _ (.fn 32 (.pr Q28 (.pr Q23 (.int 0)))) _ (.fn 28 (.pr (.pr (.var 6) (.fn 6 (.pr Q2 (.fn 29 (.pr (.fn 0 (.fn 1 (.pr Q0 (.fn 32 (.pr Q28 (.pr Q23 (.int 0))))))) Q11))))) (.fn 3 (.pr (.fn 24 (.pr (.pr (.int 1) (.fn 1 (.pr Q0 (.fn 32 (.pr Q28 (.pr Q23 (.int 0))))))) (.pr (.int 0) (.pr Q2 Q2)))) (.fn 24 (.pr (.pr (.int 1) (.fn 1 (.pr Q0 (.fn 32 (.pr Q28 (.pr Q23 (.int 0))))))) (.pr Q11 (.pr (.fn 0 (.fn 1 (.pr Q0 (.fn 32 (.pr Q28 (.pr Q23 (.int 0))))))) (.fn 22 (.fn 1 (.pr Q0 (.fn 32 (.pr Q28 (.pr Q23 (.int 0))))))))))))))) (.int 0) p1 p0 rfl ((@ints_cut2 ρ (.fn 1 (.pr Q0 (.fn 32 (.pr Q28 (.pr Q23 (.int 0)))))) (.pr (.var 6) (.fn 6 (.pr Q2 (.fn 29 (.pr (.fn 0 (.fn 1 (.pr Q0 (.fn 32 (.pr Q28 (.pr Q23 (.int 0))))))) Q11))))) Q2 Q11 g0 g1).trans (by rw [g2]))
 have h3:=ht.2.2.1
 simp only [smA,smW] at h3 ⊢
 omega
def F27:E:=(.imp (.and (.fn 33 (.pr Q28 Q23)) (.and Q30 (.and Q18 (.and (.not (.cmp .lss Q1 (.int 1))) (.and Q42 (.and Q40 (.and Q41 (.and Q44 Q47)))))))) (.cmp .eql (.fn 109 (.fn 2 (.pr Q0 (.pr (.fn 32 (.pr Q28 (.pr Q23 (.int 0)))) (.fn 24 (.pr (.pr (.int 1) (.fn 1 (.pr Q0 (.fn 32 (.pr Q28 (.pr Q23 (.int 0))))))) (.pr (.int 0) (.pr Q2 Q2)))))))) (.fn 6 (.pr (.fn 109 Q0) (.int (-1))))))
theorem G27:Tr F27:=ii10 fun ρ p0 p1 p2 p3 p4 p5 p6 p7 p8 p9=>by
 obtain ⟨g0,g2,g1⟩:(0)≤E.I ρ Q2∧E.I ρ Q2=E.I ρ (.fn 116 (.pr (.fn 1 (.pr Q0 (.fn 32 (.pr Q28 (.pr Q23 (.int 0)))))) Q23))∧E.I ρ (.fn 0 (.fn 1 (.pr Q0 (.fn 32 (.pr Q28 (.pr Q23 (.int 0)))))))≤E.I ρ (.fn 6 (.pr Q2 (.int 1))):=by
  have:=@t_find ρ _ _ _ p1 p0
  have:=@zlen_le ρ Q0 (.fn 32 (.pr Q28 (.pr Q23 (.int 0))))
  have:=@I_29 ρ (.fn 0 (.fn 1 (.pr Q0 (.fn 32 (.pr Q28 (.pr Q23 (.int 0))))))) Q11
  have:=@wrap_add ρ Q2 (.int 1)
  try simp only [smA,smW] at *
  have:=@fn0_nn ρ Q0
  have:=@fn0_nn ρ (.fn 1 (.pr Q0 (.fn 32 (.pr Q28 (.pr Q23 (.int 0))))))
  grind
 have ht:=@t_take ρ _ _ (.fn 32 (.pr Q28 (.pr Q23 (.int 0)))) _ (.fn 24 (.pr (.pr (.int 1) (.fn 1 (.pr Q0 (.fn 32 (.pr Q28 (.pr Q23 (.int 0))))))) (.pr (.int 0) (.pr Q2 Q2)))) (.int 0) p1 p0 rfl ((@ints_cut1 ρ (.fn 1 (.pr Q0 (.fn 32 (.pr Q28 (.pr Q23 (.int 0)))))) Q2 g0 g1).trans (by rw [g2]))
 have h3:=ht.2.2.1
 simp only [smA,smW] at h3 ⊢
 omega
def F28:E:=(.imp Q45 Q48)
theorem G28:Tr F28:=ii6 fun ρ p0 p1 p2 p3 p4 p5=>by
 obtain ⟨g0,g2,g1⟩:(0)≤E.I ρ Q2∧E.I ρ Q2=E.I ρ (.fn 116 (.pr (.fn 1 (.pr Q0 (.fn 32 (.pr Q28 (.pr Q23 (.int 0)))))) Q23))∧E.I ρ Q11=E.I ρ (.fn 6 (.pr Q2 (.int 1))):=by
  have:=@t_find ρ _ _ _ p1 p0
  have:=@zlen_le ρ Q0 (.fn 32 (.pr Q28 (.pr Q23 (.int 0))))
  have:=@I_29 ρ (.fn 0 (.fn 1 (.pr Q0 (.fn 32 (.pr Q28 (.pr Q23 (.int 0))))))) Q11
  have:=@wrap_add ρ Q2 (.int 1)
  try simp only [smA,smW] at *
  have:=@fn0_nn ρ Q0
  have:=@fn0_nn ρ (.fn 1 (.pr Q0 (.fn 32 (.pr Q28 (.pr Q23 (.int 0))))))
  obtain ⟨a8,ea8,qa8⟩:=cs_i64 ((E.I ρ Q2) + (1))
  try simp only [ea8] at *
  grind
 have ht:=@t_take ρ _ _ (.fn 32 (.pr Q28 (.pr Q23 (.int 0)))) _ (.fn 28 (.pr (.int 0) (.fn 3 (.pr (.fn 24 (.pr (.pr (.int 1) (.fn 1 (.pr Q0 (.fn 32 (.pr Q28 (.pr Q23 (.int 0))))))) (.pr (.int 0) (.pr Q2 Q2)))) (.fn 24 (.pr (.pr (.int 1) (.fn 1 (.pr Q0 (.fn 32 (.pr Q28 (.pr Q23 (.int 0))))))) (.pr Q11 (.pr (.fn 0 (.fn 1 (.pr Q0 (.fn 32 (.pr Q28 (.pr Q23 (.int 0))))))) (.fn 22 (.fn 1 (.pr Q0 (.fn 32 (.pr Q28 (.pr Q23 (.int 0))))))))))))))) (.int 0) p1 p0 rfl ((@ints_cut2 ρ (.fn 1 (.pr Q0 (.fn 32 (.pr Q28 (.pr Q23 (.int 0)))))) (.int 0) Q2 Q11 g0 g1).trans (by rw [g2]))
 simpa only [smA] using ht.2.2.2
def F29:E:=(.imp Q46 Q48)
theorem G29:Tr F29:=ii6 fun ρ p0 p1 p2 p3 p4 p5=>by
 obtain ⟨g0,g2,g1⟩:(0)≤E.I ρ Q2∧E.I ρ Q2=E.I ρ (.fn 116 (.pr (.fn 1 (.pr Q0 (.fn 32 (.pr Q28 (.pr Q23 (.int 0)))))) Q23))∧E.I ρ (.fn 0 (.fn 1 (.pr Q0 (.fn 32 (.pr Q28 (.pr Q23 (.int 0)))))))≤E.I ρ (.fn 6 (.pr Q2 (.int 1))):=by
  have:=@t_find ρ _ _ _ p1 p0
  have:=@zlen_le ρ Q0 (.fn 32 (.pr Q28 (.pr Q23 (.int 0))))
  have:=@I_29 ρ (.fn 0 (.fn 1 (.pr Q0 (.fn 32 (.pr Q28 (.pr Q23 (.int 0))))))) Q11
  have:=@wrap_add ρ Q2 (.int 1)
  try simp only [smA,smW] at *
  have:=@fn0_nn ρ Q0
  have:=@fn0_nn ρ (.fn 1 (.pr Q0 (.fn 32 (.pr Q28 (.pr Q23 (.int 0))))))
  grind
 have ht:=@t_take ρ _ _ (.fn 32 (.pr Q28 (.pr Q23 (.int 0)))) _ (.fn 24 (.pr (.pr (.int 1) (.fn 1 (.pr Q0 (.fn 32 (.pr Q28 (.pr Q23 (.int 0))))))) (.pr (.int 0) (.pr Q2 Q2)))) (.int 0) p1 p0 rfl ((@ints_cut1 ρ (.fn 1 (.pr Q0 (.fn 32 (.pr Q28 (.pr Q23 (.int 0)))))) Q2 g0 g1).trans (by rw [g2]))
 simpa only [smA] using ht.2.2.2
namespace p2
def facts:List E:=[F13,F14,F15,F16,F17,F18,F19,F20,F21,F22,F23,F24,F25,F26,F27,F28,F29]
theorem facts_ok:∀ e∈facts,Tr e:=(ac G13 (ac G14 (ac G15 (ac G16 (ac G17 (ac G18 (ac G19 (ac G20 (ac G21 (ac G22 (ac G23 (ac G24 (ac G25 (ac G26 (ac G27 (ac G28 (ac G29 all_nil)))))))))))))))))
end p2
theorem spec2_0:NatOk Try.prog (specNat (spTk)) :=
 spec_of_check good (facts:=p2.facts) p2.facts_ok (anns:=[]) (plainAnns_ok _ (by kernel_rfl)) (nats:=natl3) natl3_ok (n:=3000) (by kernel_rfl)
def natl4:List Nat1:=specNat (spTk)::natl3
theorem natl4_ok:∀ x∈natl4,NatOk Try.prog x:=by
 intro x hx
 rcases List.mem_cons.1 hx with rfl | hx
 ·exact spec2_0
 exact natl3_ok x hx

def F30:E:=(.imp (.and Q6 (.fn 118 (.pr Q14 (.pr Q0 (.pr Q2 (.pr Q23 (.fn 0 (.fn 1 (.pr Q0 Q2))))))))) (.fn 102 (.pr Q14 Q49)))
theorem G30:Tr F30:=ii2 fun ρ p0 p1=>by
 have:=@t102_of ρ _ _ _ _ p1
 try simp only [smA,smW] at *
 grind
def F31:E:=(.imp Q50 Q51)
theorem G31:Tr F31:=ii2 fun ρ p0 p1=>by
 have:=@t_none ρ _ _ Q23 p0
 try simp only [smA,smW] at *
 grind
namespace p3
def facts:List E:=[F30,F31]
theorem facts_ok:∀ e∈facts,Tr e:=(ac G30 (ac G31 all_nil))
end p3
theorem spec3_0:NatOk Try.prog (specNat (spPut)) :=
 spec_of_check good (facts:=p3.facts) p3.facts_ok (anns:=[]) (plainAnns_ok _ (by kernel_rfl)) (nats:=natl4) natl4_ok (n:=3000) (by kernel_rfl)
def natl5:List Nat1:=specNat (spPut)::natl4
theorem natl5_ok:∀ x∈natl5,NatOk Try.prog x:=by
 intro x hx
 rcases List.mem_cons.1 hx with rfl | hx
 ·exact spec3_0
 exact natl4_ok x hx

def F32:E:=(.imp (.fn 118 (.pr Q14 (.pr Q0 (.pr Q2 (.pr Q23 (.int 0)))))) (.fn 103 (.pr Q14 Q49)))
theorem G32:Tr F32:=ii1 fun ρ p0=>by
 have:=@t103_of ρ _ _ _ _ p0
 try simp only [smA,smW] at *
 grind
namespace p4
def facts:List E:=[F32,F31]
theorem facts_ok:∀ e∈facts,Tr e:=(ac G32 (ac G31 all_nil))
end p4
theorem spec4_0:NatOk Try.prog (specNat (spUnder)) :=
 spec_of_check good (facts:=p4.facts) p4.facts_ok (anns:=[]) (plainAnns_ok _ (by kernel_rfl)) (nats:=natl5) natl5_ok (n:=3000) (by kernel_rfl)
def natl6:List Nat1:=specNat (spUnder)::natl5
theorem natl6_ok:∀ x∈natl6,NatOk Try.prog x:=by
 intro x hx
 rcases List.mem_cons.1 hx with rfl | hx
 ·exact spec4_0
 exact natl5_ok x hx

def F33:E:=(.imp Q53 Q58)
theorem G33:Tr F33:=ii3 fun ρ p0 p1 p2=>by
 have:=@t_range ρ _ _ Q23 p0
 try simp only [smA,smW] at *
 grind
def F34:E:=(.imp (.and Q59 Q19) (.not (.cmp .lss (.int 100) (.fn 109 Q14))))
theorem G34:Tr F34:=ii2 fun ρ p0 p1=>by
 try simp only [smA,smW] at *
 grind
def F35:E:=(.imp Q50 Q58)
theorem G35:Tr F35:=ii2 fun ρ p0 p1=>by
 have:=@t_none ρ _ _ Q23 p0
 try simp only [smA,smW] at *
 grind
def F36:E:=(.imp (.not Q17) Q58)
theorem G36:Tr F36:=ii1 fun ρ p0=>by
 try simp only [smA,smW] at *
 grind
def F37:E:=(.imp (.cmp .lss Q2 (.int 0)) Q58)
theorem G37:Tr F37:=ii1 fun ρ p0=>by
 try simp only [smA,smW] at *
 grind
def F38:E:=(.imp (.and Q30 Q26) Q58)
theorem G38:Tr F38:=ii2 fun ρ p0 p1=>by
 have:=@t_range ρ _ _ Q23 p0
 try simp only [smA,smW] at *
 grind
def F39:E:=(.imp (.and Q6 (.and (.fn 104 (.pr Q14 (.pr Q0 Q23))) (.fn 118 (.pr (.var 7) (.pr Q14 (.pr Q2 (.pr Q23 (.fn 0 (.fn 1 (.pr Q14 Q2)))))))))) (.fn 105 (.pr (.var 7) Q49)))
theorem G39:Tr F39:=ii3 fun ρ p0 p1 p2=>by
 have:=@t105_of ρ _ _ _ _ _ p1 p2
 try simp only [smA,smW] at *
 grind
def F40:E:=(.imp (.and Q59 (.cmp .eql (.fn 109 (.var 7)) (.fn 6 (.pr (.fn 109 Q14) (.int 1))))) (.cmp .eql (.fn 109 (.var 7)) (.fn 6 (.pr (.fn 109 Q0) (.int 0)))))
theorem G40:Tr F40:=ii2 fun ρ p0 p1=>by
 try simp only [smA,smW] at *
 grind
def F41:E:=(.imp (.and Q30 (.fn 33 (.pr Q28 Q23))) Q55)
theorem G41:Tr F41:=ii2 fun ρ p0 p1=>by
 have:=@t_find ρ _ _ _ p0 p1
 try simp only [smA,smW] at *
 grind
namespace p5
def facts:List E:=[F33,F34,F35,F36,F37,F38,F39,F40,F41]
theorem facts_ok:∀ e∈facts,Tr e:=(ac G33 (ac G34 (ac G35 (ac G36 (ac G37 (ac G38 (ac G39 (ac G40 (ac G41 all_nil)))))))))
end p5
theorem spec5_0:NatOk Try.prog (specNat (spMove)) :=
 spec_of_check good (facts:=p5.facts) p5.facts_ok (anns:=[]) (plainAnns_ok _ (by kernel_rfl)) (nats:=natl6) natl6_ok (n:=3000) (by kernel_rfl)
def natl7:List Nat1:=specNat (spMove)::natl6
theorem natl7_ok:∀ x∈natl7,NatOk Try.prog x:=by
 intro x hx
 rcases List.mem_cons.1 hx with rfl | hx
 ·exact spec5_0
 exact natl6_ok x hx

namespace p6
def facts:List E:=[F41]
theorem facts_ok:∀ e∈facts,Tr e:=(ac G41 all_nil)
end p6
theorem spec6_0:NatOk Try.prog (specNat (spRemove)) :=
 spec_of_check good (facts:=p6.facts) p6.facts_ok (anns:=[]) (plainAnns_ok _ (by kernel_rfl)) (nats:=natl7) natl7_ok (n:=3000) (by kernel_rfl)
def natl8:List Nat1:=specNat (spRemove)::natl7
theorem natl8_ok:∀ x∈natl8,NatOk Try.prog x:=by
 intro x hx
 rcases List.mem_cons.1 hx with rfl | hx
 ·exact spec6_0
 exact natl7_ok x hx

def F42:E:=(.imp Q53 Q51)
theorem G42:Tr F42:=ii3 fun ρ p0 p1 p2=>by
 have:=@t_range ρ _ _ Q23 p0
 try simp only [smA,smW] at *
 grind
def F43:E:=(.imp (.and Q30 Q26) Q51)
theorem G43:Tr F43:=ii2 fun ρ p0 p1=>by
 have:=@t_range ρ _ _ Q23 p0
 try simp only [smA,smW] at *
 grind
def F44:E:=(.imp (.and Q30 (.fn 33 (.pr Q28 Q23))) (.cmp .eql (.fn 32 (.pr Q28 (.pr Q23 (.int 0)))) (.fn 107 (.pr Q0 Q23))))
theorem G44:Tr F44:=ii2 fun ρ p0 p1=>by
 have:=@t_find ρ _ _ _ p0 p1
 try simp only [smA,smW] at *
 grind
def F45:E:=(.imp (.and Q30 (.and (.fn 33 (.pr Q28 Q23)) Q41)) (.cmp .eql Q2 (.fn 108 (.pr Q0 (.pr (.fn 32 (.pr Q28 (.pr Q23 (.int 0)))) Q23)))))
theorem G45:Tr F45:=ii3 fun ρ p0 p1 p2=>by
 have:=@t_find ρ _ _ _ p0 p1
 have:=@I_108 ρ Q0 (.fn 32 (.pr Q28 (.pr Q23 (.int 0)))) Q23
 try simp only [smA,smW] at *
 grind
namespace p7
def facts:List E:=[F42,F13,F31,F43,F14,F15,F41,F44,F45,F16]
theorem facts_ok:∀ e∈facts,Tr e:=(ac G42 (ac G13 (ac G31 (ac G43 (ac G14 (ac G15 (ac G41 (ac G44 (ac G45 (ac G16 all_nil))))))))))
end p7
theorem spec7_0:NatOk Try.prog (specNat (spWhere)) :=
 spec_of_check good (facts:=p7.facts) p7.facts_ok (anns:=[]) (plainAnns_ok _ (by kernel_rfl)) (nats:=natl8) natl8_ok (n:=3000) (by kernel_rfl)
def natl9:List Nat1:=specNat (spWhere)::natl8
theorem natl9_ok:∀ x∈natl9,NatOk Try.prog x:=by
 intro x hx
 rcases List.mem_cons.1 hx with rfl | hx
 ·exact spec7_0
 exact natl8_ok x hx

def F46:E:=(.imp Q62 (.not (.cmp .lss (.int 2147483648) (.fn 0 (.fn 1 (.pr Q0 Q23))))))
theorem G46:Tr F46:=ii4 fun ρ p0 p1 p2 p3=>by
 have:=@zlen_le ρ Q0 Q23
 try simp only [smA,smW] at *
 grind
def F47:E:=(.imp Q62 (.not (.cmp .lss (.int 100) (.fn 0 (.fn 1 (.pr Q0 Q23))))))
theorem G47:Tr F47:=ii4 fun ρ p0 p1 p2 p3=>by
 have:=@zlen_le ρ Q0 Q23
 try simp only [smA,smW] at *
 grind
def F48:E:=(.imp (.and Q61 (.and (.imp (.fn 31 (.fn 1 (.pr Q0 Q23))) Q63) (.fn 31 (.fn 1 (.pr Q0 Q23))))) Q65)
theorem G48:Tr F48:=ii3 fun ρ p0 p1 p2=>by
 have:=@t115_nil ρ Q0 (.int 0) Q23
 try simp only [smA,smW] at *
 grind
def F49:E:=(.imp Q61 (.fn 115 (.pr (.fn 1 (.pr Q0 Q23)) (.pr Q0 Q23))))
theorem G49:Tr F49:=ii1 fun ρ p0=>by
 have:=@t115_self ρ Q0 Q23
 try simp only [smA,smW] at *
 grind
namespace p8
def facts:List E:=[F46,F47,F48,F49]
theorem facts_ok:∀ e∈facts,Tr e:=(ac G46 (ac G47 (ac G48 (ac G49 all_nil))))
end p8
theorem spec8_0:NatOk Try.prog (specNat (spList)) :=
 spec_of_check good (facts:=p8.facts) p8.facts_ok (anns:=[]) (plainAnns_ok _ (by kernel_rfl)) (nats:=natl9) natl9_ok (n:=3000) (by kernel_rfl)
def natl10:List Nat1:=frzNat ([kI]) (specNat (spList))::natl9
theorem natl10_ok:∀ x∈natl10,NatOk Try.prog x:=by
 intro x hx
 rcases List.mem_cons.1 hx with rfl | hx
 ·exact frzNat_ok spec8_0
 exact natl9_ok x hx

def F50:E:=(.imp (.and Q66 Q67) Q63)
theorem G50:Tr F50:=ii2 fun ρ p0 p1=>by
 try simp only [smA,smW] at *
 grind
def F51:E:=(.imp (.and Q60 (.and Q61 (.and Q18 (.and Q66 (.and Q22 (.and (.not Q67) Q19)))))) (.not (.cmp .lss Q68 (.int 0))))
theorem G51:Tr F51:=ii7 fun ρ p0 p1 p2 p3 p4 p5 p6=>by
 have:=@zlen_le ρ Q0 Q23
 try simp only [smA,smW] at *
 have:=@fn0_nn ρ (.fn 1 (.pr Q0 Q23))
 obtain ⟨a6,ea6,qa6⟩:=cs_i64 ((E.I ρ Q14) - (1))
 try simp only [ea6] at *
 grind
def F52:E:=(.imp (.and Q61 (.and (.cmp .eql (.fn 0 Q2) (.int 0)) (.fn 115 (.pr Q2 (.pr Q0 Q23))))) Q63)
theorem G52:Tr F52:=ii3 fun ρ p0 p1 p2=>by
 have:=@t115_len ρ _ _ (.int 0) _ p2
 try simp only [smA,smW] at *
 grind
def F53:E:=(.imp (.and Q61 Q65) Q63)
theorem G53:Tr F53:=ii2 fun ρ p0 p1=>by
 have:=@t115_len ρ _ _ (.int 0) _ p1
 have hnl:E.I ρ (.fn 0 (.fn 10 (.int 0)))=0:=rfl
 try simp only [smA,smW] at *
 grind
def F54:E:=(.imp Q71 (.cmp .lss Q68 (.fn 0 (.fn 1 (.pr Q0 Q23)))))
theorem G54:Tr F54:=ii6 fun ρ p0 p1 p2 p3 p4 p5=>by
 have:=@zlen_le ρ Q0 Q23
 try simp only [smA,smW] at *
 obtain ⟨a6,ea6,qa6⟩:=cs_i64 ((E.I ρ Q14) - (1))
 try simp only [ea6] at *
 grind
def F55:E:=(.imp (.and Q66 (.and Q22 (.not Q67))) (.not (.cmp .lss (.fn 0 (.fn 1 (.pr Q0 Q23))) (.int 1))))
theorem G55:Tr F55:=ii3 fun ρ p0 p1 p2=>by
 try simp only [smA,smW] at *
 have:=@fn0_nn ρ (.fn 1 (.pr Q0 Q23))
 grind
def F56:E:=(.imp Q71 (.cmp .eql (.fn 1 (.pr (.fn 1 (.pr Q0 Q23)) Q68)) (.fn 1 (.pr (.fn 1 (.pr Q0 Q23)) (.fn 7 (.pr (.fn 0 (.fn 1 (.pr Q0 Q23))) (.int 1)))))))
theorem G56:Tr F56:=ii6 fun ρ p0 p1 p2 p3 p4 p5=>by
 have:=@zlen_le ρ Q0 Q23
 have:=@wrap_sub ρ Q14 (.int 1)
 have:=@nth_congr ρ (.fn 1 (.pr Q0 Q23)) Q68 (.fn 7 (.pr (.fn 0 (.fn 1 (.pr Q0 Q23))) (.int 1)))
 try simp only [smA,smW] at *
 grind
namespace p9
def facts:List E:=[F50,F51,F52,F53,F54,F55,F56]
theorem facts_ok:∀ e∈facts,Tr e:=(ac G50 (ac G51 (ac G52 (ac G53 (ac G54 (ac G55 (ac G56 all_nil)))))))
end p9
theorem spec9_0:NatOk Try.prog (specNat (spTop)) :=
 spec_of_check good (facts:=p9.facts) p9.facts_ok (anns:=[]) (plainAnns_ok _ (by kernel_rfl)) (nats:=natl10) natl10_ok (n:=3000) (by kernel_rfl)
def natl11:List Nat1:=specNat (spTop)::natl10
theorem natl11_ok:∀ x∈natl11,NatOk Try.prog x:=by
 intro x hx
 rcases List.mem_cons.1 hx with rfl | hx
 ·exact spec9_0
 exact natl10_ok x hx

end
end Go.Proofs.Ytfifefjbckmfeaa.zoneHolds
