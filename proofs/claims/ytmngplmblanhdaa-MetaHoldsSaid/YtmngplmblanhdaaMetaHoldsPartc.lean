/-
  MetaHolds: contracts of functions, part 3.
-/
import Derived.Test.YtmngplmblanhdaaRows
import Derived.Test.YtmngplmblanhdaaNat
import Derived.WalkKit
import Derived.ProofKit
import Derived.OpenShut
import Derived.ChangeOld
import Derived.Below
import Derived.KernelRfl
import Derived.Lib.SmallJoins
import Derived.Test.YtmngplmblanhdaaTheory
import Derived.Test.YtmngplmblanhdaaMetaHoldsPartb
namespace Go.Proofs.Ytmngplmblanhdaa.metaHolds
open Go.ChangeShapes Go.WideShapes Go.ChangeAt Go.RowKit
open Go.SX
set_option linter.unusedVariables false
set_option linter.unusedSimpArgs false
set_option maxRecDepth 100000
noncomputable section
abbrev X0:E:=.var 3
abbrev X1:E:=.var 0
abbrev X2:E:=.var 1
abbrev X3:E:=.pr X1 (.pr X2 (.int 0))
abbrev X4:E:=.pr X0 X3
abbrev X5:E:=.var 9
abbrev X6:E:=.cmp .lss X5 X2
abbrev X7:E:=.cmp .eql (.var 11) (.fn 0 (.var 10))
abbrev X8:E:=.pr X1 (.pr X2 X5)
abbrev X9:E:=.pr (.var 10) X8
abbrev X10:E:=.fn 120 X9
abbrev X11:E:=.cmp .lss X5 (.int 0)
abbrev X12:E:=.not X11
abbrev X13:E:=.var 6
abbrev X14:E:=.pr X13 X8
abbrev X15:E:=.fn 121 X14
abbrev X16:E:=.cmp .lss (.int 20) X2
abbrev X17:E:=.not X16
abbrev X18:E:=.and X15 X17
abbrev X19:E:=.and (.cmp .eql (.var 7) (.fn 0 X13)) X18
abbrev X20:E:=.and X12 X19
abbrev X21:E:=.ar .add .i64 X5 (.int 1)
abbrev X22:E:=.and X6 (.and X12 X17)
abbrev X23:E:=.var 2
abbrev X24:E:=.cmp .eql X23 X0
abbrev X25:E:=.cmp .eql X0 (.fn 0 X2)
abbrev X26:E:=.cmp .eql X23 (.fn 0 X1)
abbrev X27:E:=.and X25 X26
abbrev X28:E:=.fn 134 (.pr X1 X2)
abbrev X29:E:=.iff (.bool false) X28
abbrev X30:E:=.cmp .lss X13 X23
abbrev X31:E:=.cmp .lss X23 X13
abbrev X32:E:=.not X31
abbrev X33:E:=.cmp .eql (.fn 1 (.pr X1 X13)) (.fn 1 (.pr X2 X13))
abbrev X34:E:=.cmp .lss X13 (.int 0)
abbrev X35:E:=.not X34
abbrev X36:E:=.cmp .lss (.int 20) X0
abbrev X37:E:=.not X36
abbrev X38:E:=.and X24 X37
abbrev X39:E:=.and X35 X38
abbrev X40:E:=.and X30 X39
abbrev X41:E:=.ar .add .i64 X13 (.int 1)
abbrev X42:E:=.and X32 X39
abbrev X43:E:=.and X30 X42
def F146:E:=(.imp (.fn 120 X4) (.fn 121 X4))
theorem G146:Tr F146:=ii1 fun ρ p0=>by
 have:=@t121_zero ρ _ _ _ (.int 0) _ p0
 try simp only [smA,smW] at *
 grind
def F147:E:=(.imp (.and X6 (.and X7 (.and X10 (.and (.cmp .lss (.var 11) (.var 7)) X20)))) (.fn 121 (.pr (.var 10) (.pr X1 (.pr X2 X21)))))
theorem G147:Tr F147:=ii8 fun ρ p0 p1 p2 p3 p4 p5 p6 p7=>by
 have:=@wrap_add ρ X5 (.int 1)
 have:=fun e1 e2=>@t121_new ρ _ _ _ _ X21 _ _ p6 p2 e1 e2
 try simp only [smA,smW] at *
 grind
def F148:E:=(.imp (.and X6 (.and X7 (.and X10 (.and (.not (.cmp .lss (.var 11) (.var 7))) X20)))) (.fn 121 (.pr X13 (.pr X1 (.pr X2 X21)))))
theorem G148:Tr F148:=ii8 fun ρ p0 p1 p2 p3 p4 p5 p6 p7=>by
 have:=@wrap_add ρ X5 (.int 1)
 have:=fun e1 e2=>@t121_old ρ _ _ _ _ X21 _ _ p6 p2 e1 e2
 try simp only [smA,smW] at *
 grind
def F149:E:=(.imp (.and (.not X6) (.and (.not (.cmp .lss X2 X5)) X15)) (.fn 121 (.pr X13 (.pr X1 (.pr X2 X2)))))
theorem G149:Tr F149:=ii3 fun ρ p0 p1 p2=>by
 have:=@t121_congr ρ _ _ _ _ X2 p2
 try simp only [smA,smW] at *
 grind
def F150:E:=(.imp X22 (.not (.cmp .lss X21 (.int 0))))
theorem G150:Tr F150:=ii3 fun ρ p0 p1 p2=>by
 try simp only [smA,smW] at *
 obtain ⟨a10,ea10,qa10⟩:=cs_i64 ((E.I ρ X5) + (1))
 try simp only [ea10] at *
 grind
def F151:E:=(.imp (.and (.not (.cmp .lss X2 (.var 7))) X17) (.not (.cmp .lss (.int 20) (.var 7))))
theorem G151:Tr F151:=ii2 fun ρ p0 p1=>by
 try simp only [smA,smW] at *
 grind
def F152:E:=(.imp X22 (.not (.cmp .lss X2 X21)))
theorem G152:Tr F152:=ii3 fun ρ p0 p1 p2=>by
 try simp only [smA,smW] at *
 obtain ⟨a10,ea10,qa10⟩:=cs_i64 ((E.I ρ X5) + (1))
 try simp only [ea10] at *
 grind
def F153:E:=(.imp X22 (.cmp .lss (.fn 7 (.pr X2 X21)) (.fn 7 (.pr X2 X5))))
theorem G153:Tr F153:=ii3 fun ρ p0 p1 p2=>by
 try simp only [smA,smW] at *
 obtain ⟨a10,ea10,qa10⟩:=cs_i64 ((E.I ρ X5) + (1))
 try simp only [ea10] at *
 grind
def F154:E:=(.imp X22 (.not (.cmp .lss (.fn 7 (.pr X2 X21)) (.int 0))))
theorem G154:Tr F154:=ii3 fun ρ p0 p1 p2=>by
 try simp only [smA,smW] at *
 obtain ⟨a10,ea10,qa10⟩:=cs_i64 ((E.I ρ X5) + (1))
 try simp only [ea10] at *
 grind
namespace p10
def facts:List E:=[F146,F147,F148,F149,F150,F151,F152,F153,F154]
theorem facts_ok:∀ e∈facts,Tr e:=(ac G146 (ac G147 (ac G148 (ac G149 (ac G150 (ac G151 (ac G152 (ac G153 (ac G154 all_nil)))))))))
end p10
theorem spec10_0:NatOk Try.prog (specNat (spTp)) :=
 spec_of_check good (facts:=p10.facts) p10.facts_ok (anns:=annTp) (plainAnns_ok _ (by kernel_rfl)) (nats:=natl11) natl11_ok (n:=3000) (by kernel_rfl)
def natl12:List Nat1:=specNat (spTp)::natl11
theorem natl12_ok:∀ x∈natl12,NatOk Try.prog x:=by
 intro x hx
 rcases List.mem_cons.1 hx with rfl | hx
 ·exact spec10_0
 exact natl11_ok x hx

def F155:E:=(.imp (.and (.not X24) X27) X29)
theorem G155:Tr F155:=ii3 fun ρ p0 p1 p2=>by
 have:=@t134_len ρ X1 X2
 try simp only [smA,smW] at *
 grind
def F156:E:=(.fn 131 X3)
theorem G156:Tr F156:=fun ρ=>by
 unfold F156
 have:=@t131_zero ρ X1 (.int 0) X2
 try simp only [smA,smW] at *
 grind
def F157:E:=(.imp (.and X30 (.and X32 X24)) (.cmp .lss X13 X0))
theorem G157:Tr F157:=ii3 fun ρ p0 p1 p2=>by
 try simp only [smA,smW] at *
 grind
def F158:E:=(.imp (.and (.not X30) (.and (.fn 131 (.pr X1 (.pr X2 X13))) (.and X24 X27))) (.iff (.bool true) X28))
theorem G158:Tr F158:=ii5 fun ρ p0 p1 p2 p3 p4=>by
 have:=@t134_end ρ _ _ _ p1
 try simp only [smA,smW] at *
 grind
def F159:E:=(.imp (.not X33) X29)
theorem G159:Tr F159:=ii1 fun ρ p0=>by
 have:=fun e=>@t134_at ρ X1 X2 e X13
 try simp only [smA,smW] at *
 grind
def F160:E:=(.imp X40 (.not (.cmp .lss X41 (.int 0))))
theorem G160:Tr F160:=ii4 fun ρ p0 p1 p2 p3=>by
 try simp only [smA,smW] at *
 obtain ⟨a9,ea9,qa9⟩:=cs_i64 ((E.I ρ X13) + (1))
 try simp only [ea9] at *
 grind
def F161:E:=(.imp X43 (.not (.cmp .lss X23 X41)))
theorem G161:Tr F161:=ii5 fun ρ p0 p1 p2 p3 p4=>by
 try simp only [smA,smW] at *
 obtain ⟨a9,ea9,qa9⟩:=cs_i64 ((E.I ρ X13) + (1))
 try simp only [ea9] at *
 grind
def F162:E:=(.imp (.and X30 (.and X33 (.and (.fn 131 (.pr X1 (.pr X2 X13))) (.and X35 (.and X24 (.and X37 X27)))))) (.fn 131 (.pr X1 (.pr X2 X41))))
theorem G162:Tr F162:=ii8 fun ρ p0 p1 p2 p3 p4 p5 p6 p7=>by
 have:=@wrap_add ρ X13 (.int 1)
 have:=@t131_step ρ _ _ X41 _ p2
 try simp only [smA,smW] at *
 grind
def F163:E:=(.imp X40 (.cmp .lss (.fn 7 (.pr X23 X41)) (.fn 7 (.pr X23 X13))))
theorem G163:Tr F163:=ii4 fun ρ p0 p1 p2 p3=>by
 try simp only [smA,smW] at *
 obtain ⟨a9,ea9,qa9⟩:=cs_i64 ((E.I ρ X13) + (1))
 try simp only [ea9] at *
 grind
def F164:E:=(.imp X43 (.not (.cmp .lss (.fn 7 (.pr X23 X41)) (.int 0))))
theorem G164:Tr F164:=ii5 fun ρ p0 p1 p2 p3 p4=>by
 try simp only [smA,smW] at *
 obtain ⟨a9,ea9,qa9⟩:=cs_i64 ((E.I ρ X13) + (1))
 try simp only [ea9] at *
 grind
namespace p11
def facts:List E:=[F155,F156,F157,F158,F159,F160,F161,F162,F163,F164]
theorem facts_ok:∀ e∈facts,Tr e:=(ac G155 (ac G156 (ac G157 (ac G158 (ac G159 (ac G160 (ac G161 (ac G162 (ac G163 (ac G164 all_nil))))))))))
end p11
theorem spec11_0:NatOk Try.prog (specNat (spIn)) :=
 spec_of_check good (facts:=p11.facts) p11.facts_ok (anns:=annIn) (plainAnns_ok _ (by kernel_rfl)) (nats:=natl12) natl12_ok (n:=3000) (by kernel_rfl)
def natl13:List Nat1:=specNat (spIn)::natl12
theorem natl13_ok:∀ x∈natl13,NatOk Try.prog x:=by
 intro x hx
 rcases List.mem_cons.1 hx with rfl | hx
 ·exact spec11_0
 exact natl12_ok x hx

end
end Go.Proofs.Ytmngplmblanhdaa.metaHolds
