/-
  ViewHidden: contracts of functions, part 5.
-/
import Derived.Test.YtoicbojdnjcmiaaRows
import Derived.Test.YtoicbojdnjcmiaaNat
import Derived.WalkKit
import Derived.ProofKit
import Derived.OpenShut
import Derived.ChangeOld
import Derived.Below
import Derived.KernelRfl
import Derived.Lib.SmallJoins
import Derived.Test.YtoicbojdnjcmiaaViewHiddenPartd
namespace Go.Proofs.Ytoicbojdnjcmiaa.viewHidden
open Go.ChangeShapes Go.WideShapes Go.ChangeAt Go.RowKit
open Go.SX
set_option linter.unusedVariables false
set_option linter.unusedSimpArgs false
set_option maxRecDepth 100000
noncomputable section
abbrev Z0:E:=.var 0
abbrev Z1:E:=.fn 117 Z0
abbrev Z2:E:=.ar .add .i64 (.int 0) (.fn 0 (.fn 1 (.pr Z0 (.int 6))))
abbrev Z3:E:=.ar .add .i64 Z2 (.fn 0 (.fn 1 (.pr Z0 (.int 20))))
abbrev Z4:E:=.ar .add .i64 Z3 (.fn 0 (.fn 1 (.pr Z0 (.int 7))))
abbrev Z5:E:=.ar .add .i64 Z3 (.fn 0 (.fn 1 (.pr Z0 (.int 21))))
abbrev Z6:E:=.iff (.var 2) (.fn 115 Z0)
abbrev Z7:E:=.var 1
abbrev Z8:E:=.pr Z0 Z7
abbrev Z9:E:=.fn 145 Z8
abbrev Z10:E:=.ar .sub .i64 Z4 (.int 0)
abbrev Z11:E:=.ar .sub .i64 Z5 (.int 0)
abbrev Z12:E:=.cmp .eql Z7 (.int 0)
abbrev Z13:E:=.cmp .eql (.ar .sub .i64 (.int 1) Z7) (.int 1)
abbrev Z14:E:=.cmp .eql Z7 (.int 1)
abbrev Z15:E:=.cmp .eql (.ar .sub .i64 (.int 1) Z7) (.int 0)
abbrev Z16:E:=.and Z14 (.not Z15)
abbrev Z17:E:=.cmp .eql (.fn 0 (.fn 1 (.pr Z0 (.int 6)))) (.int 0)
abbrev Z18:E:=.and Z1 (.and Z12 (.and Z15 Z17))
abbrev Z19:E:=.cmp .lss (.int 2147483648) (.fn 0 (.fn 1 (.pr Z0 (.int 20))))
abbrev Z20:E:=.not Z19
abbrev Z21:E:=.cmp .lss (.int 2147483648) (.fn 0 (.fn 1 (.pr Z0 (.int 7))))
abbrev Z22:E:=.not Z21
abbrev Z23:E:=.cmp .lss (.int 2147483648) (.fn 6 (.pr (.fn 0 (.fn 1 (.pr Z0 (.int 20)))) (.fn 0 (.fn 1 (.pr Z0 (.int 7))))))
abbrev Z24:E:=.not Z23
abbrev Z25:E:=.not Z17
abbrev Z26:E:=.cmp .lss (.fn 6 (.pr (.fn 0 (.fn 1 (.pr Z0 (.int 6)))) (.fn 0 (.fn 1 (.pr Z0 (.int 20)))))) (.int 0)
abbrev Z27:E:=.not Z26
abbrev Z28:E:=.and Z6 (.var 2)
abbrev Z29:E:=.cmp .eql (.fn 0 (.fn 1 (.pr Z0 (.int 20)))) (.int 0)
abbrev Z30:E:=.cmp .eql (.fn 0 (.fn 1 (.pr Z0 (.int 21)))) (.int 0)
abbrev Z31:E:=.pr (.fn 10 (.int 0)) Z8
abbrev Z32:E:=.fn 163 Z31
abbrev Z33:E:=.cmp .lss (.fn 6 (.pr (.fn 6 (.pr (.fn 0 (.fn 1 (.pr Z0 (.int 6)))) (.fn 0 (.fn 1 (.pr Z0 (.int 20)))))) (.fn 0 (.fn 1 (.pr Z0 (.int 21)))))) (.int 1)
abbrev Z34:E:=.not Z33
abbrev Z35:E:=.cmp .lss (.int 0) Z11
abbrev Z36:E:=.cmp .lss (.int 600) (.fn 0 (.fn 1 (.pr Z0 (.int 7))))
abbrev Z37:E:=.not Z36
abbrev Z38:E:=.cmp .lss (.fn 6 (.pr (.fn 0 (.fn 1 (.pr Z0 (.int 20)))) (.fn 0 (.fn 1 (.pr Z0 (.int 7)))))) (.int 1)
abbrev Z39:E:=.not Z38
abbrev Z40:E:=.cmp .lss (.fn 6 (.pr (.fn 6 (.pr (.fn 0 (.fn 1 (.pr Z0 (.int 6)))) (.fn 0 (.fn 1 (.pr Z0 (.int 20)))))) (.fn 0 (.fn 1 (.pr Z0 (.int 7)))))) (.int 1)
abbrev Z41:E:=.not Z40
abbrev Z42:E:=.cmp .lss (.int 0) Z10
abbrev Z43:E:=.cmp .eql (.fn 0 (.fn 1 (.pr Z0 (.int 7)))) (.int 0)
abbrev Z44:E:=.not Z35
abbrev Z45:E:=.and Z44 (.and Z17 (.and Z29 (.not Z30)))
abbrev Z46:E:=.and Z1 Z45
abbrev Z47:E:=.not Z42
abbrev Z48:E:=.pr (.fn 40 (.fn 1 (.pr Z0 (.int 21)))) Z8
abbrev Z49:E:=.fn 163 Z48
abbrev Z50:E:=.pr (.fn 40 (.fn 1 (.pr Z0 (.int 7)))) Z8
abbrev Z51:E:=.fn 163 Z50
abbrev Z52:E:=.cmp .lss (.int 600) (.fn 6 (.pr (.fn 0 (.fn 1 (.pr Z0 (.int 20)))) (.fn 0 (.fn 1 (.pr Z0 (.int 7))))))
abbrev Z53:E:=.not Z52
abbrev Z54:E:=.and Z44 Z25
abbrev Z55:E:=.and Z1 Z54
abbrev Z56:E:=.and Z47 Z25
abbrev Z57:E:=.and Z1 Z56
abbrev Z58:E:=.and Z17 (.not Z29)
abbrev Z59:E:=.and Z44 Z58
abbrev Z60:E:=.and Z1 Z59
abbrev Z61:E:=.pr (.fn 40 (.fn 3 (.pr (.fn 1 (.pr Z0 (.int 20))) (.fn 1 (.pr Z0 (.int 21)))))) Z8
abbrev Z62:E:=.fn 163 Z61
abbrev Z63:E:=.pr (.fn 40 (.fn 3 (.pr (.fn 3 (.pr (.fn 1 (.pr Z0 (.int 6))) (.fn 1 (.pr Z0 (.int 20))))) (.fn 1 (.pr Z0 (.int 21)))))) Z8
abbrev Z64:E:=.fn 163 Z63
abbrev Z65:E:=.pr (.fn 40 (.fn 3 (.pr (.fn 3 (.pr (.fn 3 (.pr (.fn 4 (.pr (.fn 5 (.pr Z11 (.int 0))) (.pr (.int 0) (.int 0)))) (.fn 1 (.pr Z0 (.int 6))))) (.fn 1 (.pr Z0 (.int 20))))) (.fn 1 (.pr Z0 (.int 21)))))) Z8
abbrev Z66:E:=.fn 163 Z65
abbrev Z67:E:=.pr (.fn 40 (.fn 3 (.pr (.fn 1 (.pr Z0 (.int 20))) (.fn 1 (.pr Z0 (.int 7)))))) Z8
abbrev Z68:E:=.fn 163 Z67
abbrev Z69:E:=.pr (.fn 40 (.fn 3 (.pr (.fn 3 (.pr (.fn 1 (.pr Z0 (.int 6))) (.fn 1 (.pr Z0 (.int 20))))) (.fn 1 (.pr Z0 (.int 7)))))) Z8
abbrev Z70:E:=.fn 163 Z69
abbrev Z71:E:=.pr (.fn 40 (.fn 3 (.pr (.fn 3 (.pr (.fn 3 (.pr (.fn 4 (.pr (.fn 5 (.pr Z10 (.int 0))) (.pr (.int 0) (.int 0)))) (.fn 1 (.pr Z0 (.int 6))))) (.fn 1 (.pr Z0 (.int 20))))) (.fn 1 (.pr Z0 (.int 7)))))) Z8
abbrev Z72:E:=.fn 163 Z71
def F440:E:=(.imp Z1 (.not (.cmp .lss Z2 (.int 0))))
theorem G440:Tr F440:=ii1 fun ρ p0=>by
 have:=t117 p0
 try simp only [smA,smW] at *
 have:=@fn0_nn ρ (.fn 1 (.pr Z0 (.int 6)))
 obtain ⟨a1,ea1,qa1⟩:=cs_i64 ((0) + (E.I ρ (.fn 0 (.fn 1 (.pr Z0 (.int 6))))))
 try simp only [ea1] at *
 grind
def F441:E:=(.imp Z1 (.not (.cmp .lss Z3 (.int 0))))
theorem G441:Tr F441:=ii1 fun ρ p0=>by
 have:=t117 p0
 try simp only [smA,smW] at *
 have:=@fn0_nn ρ (.fn 1 (.pr Z0 (.int 6)))
 have:=@fn0_nn ρ (.fn 1 (.pr Z0 (.int 20)))
 obtain ⟨a2,ea2,qa2⟩:=cs_i64 ((0) + (E.I ρ (.fn 0 (.fn 1 (.pr Z0 (.int 6))))))
 try simp only [ea2] at *
 obtain ⟨a3,ea3,qa3⟩:=cs_i64 (a2 + (E.I ρ (.fn 0 (.fn 1 (.pr Z0 (.int 20))))))
 try simp only [ea3] at *
 grind
def F442:E:=(.imp Z1 (.not (.cmp .lss Z4 (.int 0))))
theorem G442:Tr F442:=ii1 fun ρ p0=>by
 have:=t117 p0
 try simp only [smA,smW] at *
 have:=@fn0_nn ρ (.fn 1 (.pr Z0 (.int 6)))
 have:=@fn0_nn ρ (.fn 1 (.pr Z0 (.int 20)))
 have:=@fn0_nn ρ (.fn 1 (.pr Z0 (.int 7)))
 obtain ⟨a3,ea3,qa3⟩:=cs_i64 ((0) + (E.I ρ (.fn 0 (.fn 1 (.pr Z0 (.int 6))))))
 try simp only [ea3] at *
 obtain ⟨a4,ea4,qa4⟩:=cs_i64 (a3 + (E.I ρ (.fn 0 (.fn 1 (.pr Z0 (.int 20))))))
 try simp only [ea4] at *
 obtain ⟨a5,ea5,qa5⟩:=cs_i64 (a4 + (E.I ρ (.fn 0 (.fn 1 (.pr Z0 (.int 7))))))
 try simp only [ea5] at *
 grind
def F443:E:=(.imp Z1 (.not (.cmp .lss Z5 (.int 0))))
theorem G443:Tr F443:=ii1 fun ρ p0=>by
 have:=t117 p0
 try simp only [smA,smW] at *
 have:=@fn0_nn ρ (.fn 1 (.pr Z0 (.int 6)))
 have:=@fn0_nn ρ (.fn 1 (.pr Z0 (.int 20)))
 have:=@fn0_nn ρ (.fn 1 (.pr Z0 (.int 21)))
 obtain ⟨a3,ea3,qa3⟩:=cs_i64 ((0) + (E.I ρ (.fn 0 (.fn 1 (.pr Z0 (.int 6))))))
 try simp only [ea3] at *
 obtain ⟨a4,ea4,qa4⟩:=cs_i64 (a3 + (E.I ρ (.fn 0 (.fn 1 (.pr Z0 (.int 20))))))
 try simp only [ea4] at *
 obtain ⟨a5,ea5,qa5⟩:=cs_i64 (a4 + (E.I ρ (.fn 0 (.fn 1 (.pr Z0 (.int 21))))))
 try simp only [ea5] at *
 grind
def F444:E:=(.imp (.and Z6 (.not (.var 2))) (.not Z9))
theorem G444:Tr F444:=ii2 fun ρ p0 p1=>by
 have:=@z145 ρ Z7 Z0
 have:=@t_valid ρ Z0
 try simp only [smA,smW] at *
 grind
def F445:E:=(.imp Z1 (.not (.cmp .lss (.int 4096) Z10)))
theorem G445:Tr F445:=ii1 fun ρ p0=>by
 have:=t117 p0
 try simp only [smA,smW] at *
 have:=@fn0_nn ρ (.fn 1 (.pr Z0 (.int 6)))
 have:=@fn0_nn ρ (.fn 1 (.pr Z0 (.int 20)))
 have:=@fn0_nn ρ (.fn 1 (.pr Z0 (.int 7)))
 try simp only [ea4] at *
 obtain ⟨a5,ea5,qa5⟩:=cs_i64 ((0) + (E.I ρ (.fn 0 (.fn 1 (.pr Z0 (.int 6))))))
 try simp only [ea5] at *
 obtain ⟨a6,ea6,qa6⟩:=cs_i64 (a5 + (E.I ρ (.fn 0 (.fn 1 (.pr Z0 (.int 20))))))
 try simp only [ea6] at *
 obtain ⟨a7,ea7,qa7⟩:=cs_i64 (a6 + (E.I ρ (.fn 0 (.fn 1 (.pr Z0 (.int 7))))))
 try simp only [ea7] at *
 obtain ⟨a8,ea8,qa8⟩:=cs_i64 (a7 - (0))
 try simp only [ea8] at *
 grind
def F446:E:=(.imp Z1 (.not (.cmp .lss (.int 4096) Z11)))
theorem G446:Tr F446:=ii1 fun ρ p0=>by
 have:=t117 p0
 try simp only [smA,smW] at *
 have:=@fn0_nn ρ (.fn 1 (.pr Z0 (.int 6)))
 have:=@fn0_nn ρ (.fn 1 (.pr Z0 (.int 20)))
 have:=@fn0_nn ρ (.fn 1 (.pr Z0 (.int 21)))
 try simp only [ea4] at *
 obtain ⟨a5,ea5,qa5⟩:=cs_i64 ((0) + (E.I ρ (.fn 0 (.fn 1 (.pr Z0 (.int 6))))))
 try simp only [ea5] at *
 obtain ⟨a6,ea6,qa6⟩:=cs_i64 (a5 + (E.I ρ (.fn 0 (.fn 1 (.pr Z0 (.int 20))))))
 try simp only [ea6] at *
 obtain ⟨a7,ea7,qa7⟩:=cs_i64 (a6 + (E.I ρ (.fn 0 (.fn 1 (.pr Z0 (.int 21))))))
 try simp only [ea7] at *
 obtain ⟨a8,ea8,qa8⟩:=cs_i64 (a7 - (0))
 try simp only [ea8] at *
 grind
def F447:E:=(.imp Z12 Z13)
theorem G447:Tr F447:=ii1 fun ρ p0=>by
 try simp only [smA,smW] at *
 obtain ⟨a1,ea1,qa1⟩:=cs_i64 ((1) - (E.I ρ Z7))
 try simp only [ea1] at *
 grind
def F448:E:=(.imp (.and (.not Z12) (.and Z14 Z13)) (.not (.cmp .lss (.int 4096) Z11)))
theorem G448:Tr F448:=ii3 fun ρ p0 p1 p2=>by
 try simp only [smA,smW] at *
 obtain ⟨a4,ea4,qa4⟩:=cs_i64 ((1) - (E.I ρ Z7))
 try simp only [ea4] at *
 obtain ⟨a5,ea5,qa5⟩:=cs_i64 ((0) + (E.I ρ (.fn 0 (.fn 1 (.pr Z0 (.int 6))))))
 try simp only [ea5] at *
 obtain ⟨a6,ea6,qa6⟩:=cs_i64 (a5 + (E.I ρ (.fn 0 (.fn 1 (.pr Z0 (.int 20))))))
 try simp only [ea6] at *
 obtain ⟨a7,ea7,qa7⟩:=cs_i64 (a6 + (E.I ρ (.fn 0 (.fn 1 (.pr Z0 (.int 21))))))
 try simp only [ea7] at *
 obtain ⟨a8,ea8,qa8⟩:=cs_i64 (a7 - (0))
 try simp only [ea8] at *
 grind
def F449:E:=(.imp Z16 Z13)
theorem G449:Tr F449:=ii2 fun ρ p0 p1=>by
 try simp only [smA,smW] at *
 obtain ⟨a1,ea1,qa1⟩:=cs_i64 ((1) - (E.I ρ Z7))
 try simp only [ea1] at *
 grind
def F450:E:=(.imp (.and (.not Z12) (.not Z14)) (.not Z9))
theorem G450:Tr F450:=ii2 fun ρ p0 p1=>by
 have:=@z145 ρ Z7 Z0
 try simp only [smA,smW] at *
 grind
def F451:E:=(.imp Z1 (.not (.cmp .lss (.int 2147483648) Z10)))
theorem G451:Tr F451:=ii1 fun ρ p0=>by
 have:=t117 p0
 try simp only [smA,smW] at *
 have:=@fn0_nn ρ (.fn 1 (.pr Z0 (.int 6)))
 have:=@fn0_nn ρ (.fn 1 (.pr Z0 (.int 20)))
 have:=@fn0_nn ρ (.fn 1 (.pr Z0 (.int 7)))
 try simp only [ea4] at *
 obtain ⟨a5,ea5,qa5⟩:=cs_i64 ((0) + (E.I ρ (.fn 0 (.fn 1 (.pr Z0 (.int 6))))))
 try simp only [ea5] at *
 obtain ⟨a6,ea6,qa6⟩:=cs_i64 (a5 + (E.I ρ (.fn 0 (.fn 1 (.pr Z0 (.int 20))))))
 try simp only [ea6] at *
 obtain ⟨a7,ea7,qa7⟩:=cs_i64 (a6 + (E.I ρ (.fn 0 (.fn 1 (.pr Z0 (.int 7))))))
 try simp only [ea7] at *
 obtain ⟨a8,ea8,qa8⟩:=cs_i64 (a7 - (0))
 try simp only [ea8] at *
 grind
def F452:E:=(.imp Z1 (.not (.cmp .lss (.int 2147483648) (.fn 0 (.fn 1 (.pr Z0 (.int 6)))))))
theorem G452:Tr F452:=ii1 fun ρ p0=>by
 have:=t117 p0
 try simp only [smA,smW] at *
 try simp only [ea4] at *
 try simp only [ea5] at *
 try simp only [ea6] at *
 try simp only [ea7] at *
 try simp only [ea8] at *
 grind
def F453:E:=(.imp Z1 (.not (.cmp .lss (.int 2147483648) Z11)))
theorem G453:Tr F453:=ii1 fun ρ p0=>by
 have:=t117 p0
 try simp only [smA,smW] at *
 have:=@fn0_nn ρ (.fn 1 (.pr Z0 (.int 6)))
 have:=@fn0_nn ρ (.fn 1 (.pr Z0 (.int 20)))
 have:=@fn0_nn ρ (.fn 1 (.pr Z0 (.int 21)))
 try simp only [ea4] at *
 obtain ⟨a5,ea5,qa5⟩:=cs_i64 ((0) + (E.I ρ (.fn 0 (.fn 1 (.pr Z0 (.int 6))))))
 try simp only [ea5] at *
 obtain ⟨a6,ea6,qa6⟩:=cs_i64 (a5 + (E.I ρ (.fn 0 (.fn 1 (.pr Z0 (.int 20))))))
 try simp only [ea6] at *
 obtain ⟨a7,ea7,qa7⟩:=cs_i64 (a6 + (E.I ρ (.fn 0 (.fn 1 (.pr Z0 (.int 21))))))
 try simp only [ea7] at *
 obtain ⟨a8,ea8,qa8⟩:=cs_i64 (a7 - (0))
 try simp only [ea8] at *
 grind
def F454:E:=(.imp Z18 Z20)
theorem G454:Tr F454:=ii4 fun ρ p0 p1 p2 p3=>by
 have:=t117 p0
 try simp only [smA,smW] at *
 have:=@fn0_nn ρ (.fn 1 (.pr Z0 (.int 6)))
 obtain ⟨a4,ea4,qa4⟩:=cs_i64 ((1) - (E.I ρ Z7))
 try simp only [ea4] at *
 try simp only [ea5] at *
 try simp only [ea6] at *
 try simp only [ea7] at *
 try simp only [ea8] at *
 grind
def F455:E:=(.imp Z1 (.not (.cmp .lss (.int 2147483648) (.fn 6 (.pr (.fn 0 (.fn 1 (.pr Z0 (.int 6)))) (.fn 0 (.fn 1 (.pr Z0 (.int 20)))))))))
theorem G455:Tr F455:=ii1 fun ρ p0=>by
 have:=t117 p0
 try simp only [smA,smW] at *
 try simp only [ea5] at *
 try simp only [ea6] at *
 try simp only [ea7] at *
 try simp only [ea8] at *
 try simp only [ea9] at *
 grind
def F456:E:=(.imp Z1 Z20)
theorem G456:Tr F456:=ii1 fun ρ p0=>by
 have:=t117 p0
 try simp only [smA,smW] at *
 try simp only [ea4] at *
 try simp only [ea5] at *
 try simp only [ea6] at *
 try simp only [ea7] at *
 try simp only [ea8] at *
 grind
def F457:E:=(.imp Z18 Z22)
theorem G457:Tr F457:=ii4 fun ρ p0 p1 p2 p3=>by
 have:=t117 p0
 try simp only [smA,smW] at *
 have:=@fn0_nn ρ (.fn 1 (.pr Z0 (.int 6)))
 obtain ⟨a4,ea4,qa4⟩:=cs_i64 ((1) - (E.I ρ Z7))
 try simp only [ea4] at *
 try simp only [ea5] at *
 try simp only [ea6] at *
 try simp only [ea7] at *
 try simp only [ea8] at *
 grind
def F458:E:=(.imp Z18 Z24)
theorem G458:Tr F458:=ii4 fun ρ p0 p1 p2 p3=>by
 have:=t117 p0
 try simp only [smA,smW] at *
 have:=@fn0_nn ρ (.fn 1 (.pr Z0 (.int 6)))
 obtain ⟨a5,ea5,qa5⟩:=cs_i64 ((1) - (E.I ρ Z7))
 try simp only [ea5] at *
 try simp only [ea6] at *
 try simp only [ea7] at *
 try simp only [ea8] at *
 try simp only [ea9] at *
 grind
def F459:E:=(.imp Z25 Z27)
theorem G459:Tr F459:=ii1 fun ρ p0=>by
 try simp only [smA,smW] at *
 have:=@fn0_nn ρ (.fn 1 (.pr Z0 (.int 6)))
 have:=@fn0_nn ρ (.fn 1 (.pr Z0 (.int 20)))
 try simp only [ea6] at *
 try simp only [ea7] at *
 try simp only [ea8] at *
 try simp only [ea9] at *
 try simp only [ea10] at *
 grind
def F460:E:=Z27
theorem G460:Tr F460:=fun ρ=>by
 unfold F460
 try simp only [smA,smW] at *
 have:=@fn0_nn ρ (.fn 1 (.pr Z0 (.int 6)))
 have:=@fn0_nn ρ (.fn 1 (.pr Z0 (.int 20)))
 try simp only [ea7] at *
 try simp only [ea8] at *
 try simp only [ea9] at *
 try simp only [ea10] at *
 try simp only [ea11] at *
 grind
def F461:E:=(.imp Z1 Z22)
theorem G461:Tr F461:=ii1 fun ρ p0=>by
 have:=t117 p0
 try simp only [smA,smW] at *
 try simp only [ea4] at *
 try simp only [ea5] at *
 try simp only [ea6] at *
 try simp only [ea7] at *
 try simp only [ea8] at *
 grind
def F462:E:=(.imp Z1 Z24)
theorem G462:Tr F462:=ii1 fun ρ p0=>by
 have:=t117 p0
 try simp only [smA,smW] at *
 try simp only [ea5] at *
 try simp only [ea6] at *
 try simp only [ea7] at *
 try simp only [ea8] at *
 try simp only [ea9] at *
 grind
def F463:E:=(.imp Z1 (.not (.cmp .lss (.int 2147483648) (.fn 6 (.pr (.fn 6 (.pr (.fn 0 (.fn 1 (.pr Z0 (.int 6)))) (.fn 0 (.fn 1 (.pr Z0 (.int 20)))))) (.fn 0 (.fn 1 (.pr Z0 (.int 7)))))))))
theorem G463:Tr F463:=ii1 fun ρ p0=>by
 have:=t117 p0
 try simp only [smA,smW] at *
 try simp only [ea6] at *
 try simp only [ea7] at *
 try simp only [ea8] at *
 try simp only [ea9] at *
 try simp only [ea10] at *
 grind
def F464:E:=(.imp Z1 (.not (.cmp .lss (.int 2147483648) (.fn 0 (.fn 1 (.pr Z0 (.int 21)))))))
theorem G464:Tr F464:=ii1 fun ρ p0=>by
 have:=t117 p0
 try simp only [smA,smW] at *
 try simp only [ea4] at *
 try simp only [ea5] at *
 try simp only [ea6] at *
 try simp only [ea7] at *
 try simp only [ea8] at *
 grind
def F465:E:=(.imp Z1 (.not (.cmp .lss (.int 2147483648) (.fn 6 (.pr (.fn 0 (.fn 1 (.pr Z0 (.int 20)))) (.fn 0 (.fn 1 (.pr Z0 (.int 21)))))))))
theorem G465:Tr F465:=ii1 fun ρ p0=>by
 have:=t117 p0
 try simp only [smA,smW] at *
 try simp only [ea5] at *
 try simp only [ea6] at *
 try simp only [ea7] at *
 try simp only [ea8] at *
 try simp only [ea9] at *
 grind
def F466:E:=(.imp Z1 (.not (.cmp .lss (.int 2147483648) (.fn 6 (.pr (.fn 6 (.pr (.fn 0 (.fn 1 (.pr Z0 (.int 6)))) (.fn 0 (.fn 1 (.pr Z0 (.int 20)))))) (.fn 0 (.fn 1 (.pr Z0 (.int 21)))))))))
theorem G466:Tr F466:=ii1 fun ρ p0=>by
 have:=t117 p0
 try simp only [smA,smW] at *
 try simp only [ea6] at *
 try simp only [ea7] at *
 try simp only [ea8] at *
 try simp only [ea9] at *
 try simp only [ea10] at *
 grind
def F467:E:=(.imp (.and Z12 (.and Z6 (.and (.var 2) Z17))) Z9)
theorem G467:Tr F467:=ii4 fun ρ p0 p1 p2 p3=>by
 have:=@z145 ρ Z7 Z0
 have:=@t_valid ρ Z0
 try simp only [smA,smW] at *
 have:=@fn0_nn ρ (.fn 1 (.pr Z0 (.int 6)))
 try simp only [ea4] at *
 try simp only [ea5] at *
 try simp only [ea6] at *
 try simp only [ea7] at *
 try simp only [ea8] at *
 grind
def F468:E:=(.cmp .eql (.fn 0 (.fn 40 (.fn 1 (.pr Z0 (.int 21))))) (.fn 0 (.fn 1 (.pr Z0 (.int 21)))))
theorem G468:Tr F468:=fun ρ=>by
 unfold F468
 have:=@len_40 ρ (.fn 1 (.pr Z0 (.int 21)))
 try simp only [smA,smW] at *
 try simp only [ea6] at *
 try simp only [ea7] at *
 try simp only [ea8] at *
 try simp only [ea9] at *
 try simp only [ea10] at *
 omega
def F469:E:=(.imp Z18 Z9)
theorem G469:Tr F469:=ii4 fun ρ p0 p1 p2 p3=>by
 have:=t117 p0
 try simp only [smA,smW] at *
 have:=@fn0_nn ρ (.fn 1 (.pr Z0 (.int 6)))
 obtain ⟨a4,ea4,qa4⟩:=cs_i64 ((1) - (E.I ρ Z7))
 try simp only [ea4] at *
 try simp only [ea5] at *
 try simp only [ea6] at *
 try simp only [ea7] at *
 try simp only [ea8] at *
 grind
def F470:E:=(.cmp .eql (.fn 0 (.fn 40 (.fn 1 (.pr Z0 (.int 7))))) (.fn 0 (.fn 1 (.pr Z0 (.int 7)))))
theorem G470:Tr F470:=fun ρ=>by
 unfold F470
 have:=@len_40 ρ (.fn 1 (.pr Z0 (.int 7)))
 try simp only [smA,smW] at *
 try simp only [ea6] at *
 try simp only [ea7] at *
 try simp only [ea8] at *
 try simp only [ea9] at *
 try simp only [ea10] at *
 omega
def F471:E:=(.imp Z16 Z9)
theorem G471:Tr F471:=ii2 fun ρ p0 p1=>by
 try simp only [smA,smW] at *
 obtain ⟨a4,ea4,qa4⟩:=cs_i64 ((1) - (E.I ρ Z7))
 try simp only [ea4] at *
 try simp only [ea5] at *
 try simp only [ea6] at *
 try simp only [ea7] at *
 try simp only [ea8] at *
 grind
def F472:E:=(.imp (.and Z14 Z28) Z9)
theorem G472:Tr F472:=ii3 fun ρ p0 p1 p2=>by
 have:=@z145 ρ Z7 Z0
 have:=@t_valid ρ Z0
 try simp only [smA,smW] at *
 try simp only [ea4] at *
 try simp only [ea5] at *
 try simp only [ea6] at *
 try simp only [ea7] at *
 try simp only [ea8] at *
 grind
def F473:E:=(.imp (.and Z1 (.and Z12 (.and Z17 (.and Z29 Z30)))) Z32)
theorem G473:Tr F473:=ii5 fun ρ p0 p1 p2 p3 p4=>by
 obtain ⟨gp,g6,g20,g21⟩:E.I ρ Z7=(0)∧E.I ρ (.fn 0 (.fn 1 (.pr Z0 (.int 6))))=(0)∧E.I ρ (.fn 0 (.fn 1 (.pr Z0 (.int 20))))=(0)∧E.I ρ (.fn 0 (.fn 1 (.pr Z0 (.int 21))))=(0):=by
  have:=t117 p0
  have:=@wrap_sub ρ (.int 1) Z7
  have:=@wrap_sub ρ Z5 (.int 0)
  have:=@wrap_add ρ Z3 (.fn 0 (.fn 1 (.pr Z0 (.int 21))))
  have:=@wrap_add ρ Z2 (.fn 0 (.fn 1 (.pr Z0 (.int 20))))
  have:=@wrap_add ρ (.int 0) (.fn 0 (.fn 1 (.pr Z0 (.int 6))))
  try simp only [smA,smW] at *
  have:=@fn0_nn ρ (.fn 1 (.pr Z0 (.int 6)))
  have:=@fn0_nn ρ (.fn 1 (.pr Z0 (.int 20)))
  have:=@fn0_nn ρ (.fn 1 (.pr Z0 (.int 21)))
  obtain ⟨a4,ea4,qa4⟩:=cs_i64 ((1) - (E.I ρ Z7))
  try simp only [ea4] at *
  obtain ⟨a5,ea5,qa5⟩:=cs_i64 ((0) + (E.I ρ (.fn 0 (.fn 1 (.pr Z0 (.int 6))))))
  try simp only [ea5] at *
  obtain ⟨a6,ea6,qa6⟩:=cs_i64 (a5 + (E.I ρ (.fn 0 (.fn 1 (.pr Z0 (.int 20))))))
  try simp only [ea6] at *
  obtain ⟨a7,ea7,qa7⟩:=cs_i64 (a6 + (E.I ρ (.fn 0 (.fn 1 (.pr Z0 (.int 21))))))
  try simp only [ea7] at *
  obtain ⟨a8,ea8,qa8⟩:=cs_i64 (a7 - (0))
  try simp only [ea8] at *
  grind
 exact t163_n0 gp (by simp only [ints_app,ints_nil,ints_40z,List.nil_append,List.append_nil,List.append_assoc,ints_nil_of g6,ints_nil_of g20,ints_nil_of g21])
def F474:E:=(.imp Z1 (.not (.cmp .lss (.int 600) (.fn 0 (.fn 1 (.pr Z0 (.int 21)))))))
theorem G474:Tr F474:=ii1 fun ρ p0=>by
 have:=t117 p0
 try simp only [smA,smW] at *
 try simp only [ea5] at *
 try simp only [ea6] at *
 try simp only [ea7] at *
 try simp only [ea8] at *
 try simp only [ea9] at *
 grind
def F475:E:=(.imp (.not Z29) (.not (.cmp .lss (.fn 6 (.pr (.fn 0 (.fn 1 (.pr Z0 (.int 20)))) (.fn 0 (.fn 1 (.pr Z0 (.int 21)))))) (.int 1))))
theorem G475:Tr F475:=ii1 fun ρ p0=>by
 try simp only [smA,smW] at *
 have:=@fn0_nn ρ (.fn 1 (.pr Z0 (.int 20)))
 have:=@fn0_nn ρ (.fn 1 (.pr Z0 (.int 21)))
 try simp only [ea5] at *
 try simp only [ea6] at *
 try simp only [ea7] at *
 try simp only [ea8] at *
 try simp only [ea9] at *
 grind
def F476:E:=(.imp Z25 Z34)
theorem G476:Tr F476:=ii1 fun ρ p0=>by
 try simp only [smA,smW] at *
 have:=@fn0_nn ρ (.fn 1 (.pr Z0 (.int 6)))
 have:=@fn0_nn ρ (.fn 1 (.pr Z0 (.int 20)))
 have:=@fn0_nn ρ (.fn 1 (.pr Z0 (.int 21)))
 try simp only [ea5] at *
 try simp only [ea6] at *
 try simp only [ea7] at *
 try simp only [ea8] at *
 try simp only [ea9] at *
 grind
def F477:E:=(.imp (.and Z1 Z35) Z34)
theorem G477:Tr F477:=ii2 fun ρ p0 p1=>by
 have:=t117 p0
 try simp only [smA,smW] at *
 have:=@fn0_nn ρ (.fn 1 (.pr Z0 (.int 6)))
 have:=@fn0_nn ρ (.fn 1 (.pr Z0 (.int 20)))
 have:=@fn0_nn ρ (.fn 1 (.pr Z0 (.int 21)))
 try simp only [ea5] at *
 obtain ⟨a6,ea6,qa6⟩:=cs_i64 ((0) + (E.I ρ (.fn 0 (.fn 1 (.pr Z0 (.int 6))))))
 try simp only [ea6] at *
 obtain ⟨a7,ea7,qa7⟩:=cs_i64 (a6 + (E.I ρ (.fn 0 (.fn 1 (.pr Z0 (.int 20))))))
 try simp only [ea7] at *
 obtain ⟨a8,ea8,qa8⟩:=cs_i64 (a7 + (E.I ρ (.fn 0 (.fn 1 (.pr Z0 (.int 21))))))
 try simp only [ea8] at *
 obtain ⟨a9,ea9,qa9⟩:=cs_i64 (a8 - (0))
 try simp only [ea9] at *
 grind
def F478:E:=(.imp Z18 Z32)
theorem G478:Tr F478:=ii4 fun ρ p0 p1 p2 p3=>by
 obtain ⟨gp,g6,g20,g7⟩:E.I ρ Z7=(1)∧E.I ρ (.fn 0 (.fn 1 (.pr Z0 (.int 6))))=(0)∧E.I ρ (.fn 0 (.fn 1 (.pr Z0 (.int 20))))=(0)∧E.I ρ (.fn 0 (.fn 1 (.pr Z0 (.int 7))))=(0):=by
  have:=t117 p0
  have:=@wrap_sub ρ (.int 1) Z7
  have:=@wrap_sub ρ Z4 (.int 0)
  have:=@wrap_add ρ Z3 (.fn 0 (.fn 1 (.pr Z0 (.int 7))))
  have:=@wrap_add ρ Z2 (.fn 0 (.fn 1 (.pr Z0 (.int 20))))
  have:=@wrap_add ρ (.int 0) (.fn 0 (.fn 1 (.pr Z0 (.int 6))))
  try simp only [smA,smW] at *
  have:=@fn0_nn ρ (.fn 1 (.pr Z0 (.int 6)))
  have:=@fn0_nn ρ (.fn 1 (.pr Z0 (.int 20)))
  have:=@fn0_nn ρ (.fn 1 (.pr Z0 (.int 7)))
  obtain ⟨a4,ea4,qa4⟩:=cs_i64 ((1) - (E.I ρ Z7))
  try simp only [ea4] at *
  obtain ⟨a5,ea5,qa5⟩:=cs_i64 ((0) + (E.I ρ (.fn 0 (.fn 1 (.pr Z0 (.int 6))))))
  try simp only [ea5] at *
  obtain ⟨a6,ea6,qa6⟩:=cs_i64 (a5 + (E.I ρ (.fn 0 (.fn 1 (.pr Z0 (.int 20))))))
  try simp only [ea6] at *
  obtain ⟨a7,ea7,qa7⟩:=cs_i64 (a6 + (E.I ρ (.fn 0 (.fn 1 (.pr Z0 (.int 7))))))
  try simp only [ea7] at *
  obtain ⟨a8,ea8,qa8⟩:=cs_i64 (a7 - (0))
  try simp only [ea8] at *
  grind
 exact t163_n1 gp (by simp only [ints_app,ints_nil,ints_40z,List.nil_append,List.append_nil,List.append_assoc,ints_nil_of g6,ints_nil_of g20,ints_nil_of g7])
def F479:E:=(.imp Z18 Z37)
theorem G479:Tr F479:=ii4 fun ρ p0 p1 p2 p3=>by
 have:=t117 p0
 try simp only [smA,smW] at *
 have:=@fn0_nn ρ (.fn 1 (.pr Z0 (.int 6)))
 obtain ⟨a5,ea5,qa5⟩:=cs_i64 ((1) - (E.I ρ Z7))
 try simp only [ea5] at *
 try simp only [ea6] at *
 try simp only [ea7] at *
 try simp only [ea8] at *
 try simp only [ea9] at *
 grind
def F480:E:=(.imp Z18 Z39)
theorem G480:Tr F480:=ii4 fun ρ p0 p1 p2 p3=>by
 have:=t117 p0
 try simp only [smA,smW] at *
 have:=@fn0_nn ρ (.fn 1 (.pr Z0 (.int 6)))
 obtain ⟨a5,ea5,qa5⟩:=cs_i64 ((1) - (E.I ρ Z7))
 try simp only [ea5] at *
 try simp only [ea6] at *
 try simp only [ea7] at *
 try simp only [ea8] at *
 try simp only [ea9] at *
 grind
def F481:E:=(.imp Z25 Z41)
theorem G481:Tr F481:=ii1 fun ρ p0=>by
 try simp only [smA,smW] at *
 have:=@fn0_nn ρ (.fn 1 (.pr Z0 (.int 6)))
 have:=@fn0_nn ρ (.fn 1 (.pr Z0 (.int 20)))
 have:=@fn0_nn ρ (.fn 1 (.pr Z0 (.int 7)))
 try simp only [ea5] at *
 try simp only [ea6] at *
 try simp only [ea7] at *
 try simp only [ea8] at *
 try simp only [ea9] at *
 grind
def F482:E:=(.imp (.and Z1 Z42) Z41)
theorem G482:Tr F482:=ii2 fun ρ p0 p1=>by
 have:=t117 p0
 try simp only [smA,smW] at *
 have:=@fn0_nn ρ (.fn 1 (.pr Z0 (.int 6)))
 have:=@fn0_nn ρ (.fn 1 (.pr Z0 (.int 20)))
 have:=@fn0_nn ρ (.fn 1 (.pr Z0 (.int 7)))
 try simp only [ea5] at *
 obtain ⟨a6,ea6,qa6⟩:=cs_i64 ((0) + (E.I ρ (.fn 0 (.fn 1 (.pr Z0 (.int 6))))))
 try simp only [ea6] at *
 obtain ⟨a7,ea7,qa7⟩:=cs_i64 (a6 + (E.I ρ (.fn 0 (.fn 1 (.pr Z0 (.int 20))))))
 try simp only [ea7] at *
 obtain ⟨a8,ea8,qa8⟩:=cs_i64 (a7 + (E.I ρ (.fn 0 (.fn 1 (.pr Z0 (.int 7))))))
 try simp only [ea8] at *
 obtain ⟨a9,ea9,qa9⟩:=cs_i64 (a8 - (0))
 try simp only [ea9] at *
 grind
def F483:E:=(.imp (.and Z1 Z16) Z32)
theorem G483:Tr F483:=ii3 fun ρ p0 p1 p2=>by
 obtain ⟨gp,g6,g20,g21⟩:E.I ρ Z7=(0)∧E.I ρ (.fn 0 (.fn 1 (.pr Z0 (.int 6))))=(0)∧E.I ρ (.fn 0 (.fn 1 (.pr Z0 (.int 20))))=(0)∧E.I ρ (.fn 0 (.fn 1 (.pr Z0 (.int 21))))=(0):=by
  have:=t117 p0
  have:=@wrap_sub ρ (.int 1) Z7
  have:=@wrap_sub ρ Z5 (.int 0)
  have:=@wrap_add ρ Z3 (.fn 0 (.fn 1 (.pr Z0 (.int 21))))
  have:=@wrap_add ρ Z2 (.fn 0 (.fn 1 (.pr Z0 (.int 20))))
  have:=@wrap_add ρ (.int 0) (.fn 0 (.fn 1 (.pr Z0 (.int 6))))
  try simp only [smA,smW] at *
  have:=@fn0_nn ρ (.fn 1 (.pr Z0 (.int 6)))
  have:=@fn0_nn ρ (.fn 1 (.pr Z0 (.int 20)))
  have:=@fn0_nn ρ (.fn 1 (.pr Z0 (.int 21)))
  obtain ⟨a4,ea4,qa4⟩:=cs_i64 ((1) - (E.I ρ Z7))
  try simp only [ea4] at *
  obtain ⟨a5,ea5,qa5⟩:=cs_i64 ((0) + (E.I ρ (.fn 0 (.fn 1 (.pr Z0 (.int 6))))))
  try simp only [ea5] at *
  obtain ⟨a6,ea6,qa6⟩:=cs_i64 (a5 + (E.I ρ (.fn 0 (.fn 1 (.pr Z0 (.int 20))))))
  try simp only [ea6] at *
  obtain ⟨a7,ea7,qa7⟩:=cs_i64 (a6 + (E.I ρ (.fn 0 (.fn 1 (.pr Z0 (.int 21))))))
  try simp only [ea7] at *
  obtain ⟨a8,ea8,qa8⟩:=cs_i64 (a7 - (0))
  try simp only [ea8] at *
  grind
 exact t163_n0 gp (by simp only [ints_app,ints_nil,ints_40z,List.nil_append,List.append_nil,List.append_assoc,ints_nil_of g6,ints_nil_of g20,ints_nil_of g21])
def F484:E:=(.imp (.and Z1 (.and Z14 (.and Z17 (.and Z29 Z43)))) Z32)
theorem G484:Tr F484:=ii5 fun ρ p0 p1 p2 p3 p4=>by
 obtain ⟨gp,g6,g20,g7⟩:E.I ρ Z7=(1)∧E.I ρ (.fn 0 (.fn 1 (.pr Z0 (.int 6))))=(0)∧E.I ρ (.fn 0 (.fn 1 (.pr Z0 (.int 20))))=(0)∧E.I ρ (.fn 0 (.fn 1 (.pr Z0 (.int 7))))=(0):=by
  have:=t117 p0
  have:=@wrap_sub ρ (.int 1) Z7
  have:=@wrap_sub ρ Z4 (.int 0)
  have:=@wrap_add ρ Z3 (.fn 0 (.fn 1 (.pr Z0 (.int 7))))
  have:=@wrap_add ρ Z2 (.fn 0 (.fn 1 (.pr Z0 (.int 20))))
  have:=@wrap_add ρ (.int 0) (.fn 0 (.fn 1 (.pr Z0 (.int 6))))
  try simp only [smA,smW] at *
  have:=@fn0_nn ρ (.fn 1 (.pr Z0 (.int 6)))
  have:=@fn0_nn ρ (.fn 1 (.pr Z0 (.int 20)))
  have:=@fn0_nn ρ (.fn 1 (.pr Z0 (.int 7)))
  obtain ⟨a4,ea4,qa4⟩:=cs_i64 ((1) - (E.I ρ Z7))
  try simp only [ea4] at *
  obtain ⟨a5,ea5,qa5⟩:=cs_i64 ((0) + (E.I ρ (.fn 0 (.fn 1 (.pr Z0 (.int 6))))))
  try simp only [ea5] at *
  obtain ⟨a6,ea6,qa6⟩:=cs_i64 (a5 + (E.I ρ (.fn 0 (.fn 1 (.pr Z0 (.int 20))))))
  try simp only [ea6] at *
  obtain ⟨a7,ea7,qa7⟩:=cs_i64 (a6 + (E.I ρ (.fn 0 (.fn 1 (.pr Z0 (.int 7))))))
  try simp only [ea7] at *
  obtain ⟨a8,ea8,qa8⟩:=cs_i64 (a7 - (0))
  try simp only [ea8] at *
  grind
 exact t163_n1 gp (by simp only [ints_app,ints_nil,ints_40z,List.nil_append,List.append_nil,List.append_assoc,ints_nil_of g6,ints_nil_of g20,ints_nil_of g7])
def F485:E:=(.imp Z1 Z37)
theorem G485:Tr F485:=ii1 fun ρ p0=>by
 have:=t117 p0
 try simp only [smA,smW] at *
 try simp only [ea5] at *
 try simp only [ea6] at *
 try simp only [ea7] at *
 try simp only [ea8] at *
 try simp only [ea9] at *
 grind
def F486:E:=(.imp (.not Z29) Z39)
theorem G486:Tr F486:=ii1 fun ρ p0=>by
 try simp only [smA,smW] at *
 have:=@fn0_nn ρ (.fn 1 (.pr Z0 (.int 20)))
 have:=@fn0_nn ρ (.fn 1 (.pr Z0 (.int 7)))
 try simp only [ea5] at *
 try simp only [ea6] at *
 try simp only [ea7] at *
 try simp only [ea8] at *
 try simp only [ea9] at *
 grind
def F487:E:=(.cmp .eql (.fn 0 (.fn 40 (.fn 3 (.pr (.fn 1 (.pr Z0 (.int 20))) (.fn 1 (.pr Z0 (.int 21))))))) (.fn 6 (.pr (.fn 0 (.fn 1 (.pr Z0 (.int 20)))) (.fn 0 (.fn 1 (.pr Z0 (.int 21)))))))
theorem G487:Tr F487:=fun ρ=>by
 unfold F487
 have:=@len_40 ρ (.fn 3 (.pr (.fn 1 (.pr Z0 (.int 20))) (.fn 1 (.pr Z0 (.int 21)))))
 have:=@len_3 ρ (.fn 1 (.pr Z0 (.int 20))) (.fn 1 (.pr Z0 (.int 21)))
 try simp only [smA,smW] at *
 obtain ⟨a6,ea6,qa6⟩:=cs_i64 ((1) - (E.I ρ Z7))
 try simp only [ea6] at *
 obtain ⟨a7,ea7,qa7⟩:=cs_i64 ((0) + (E.I ρ (.fn 0 (.fn 1 (.pr Z0 (.int 6))))))
 try simp only [ea7] at *
 obtain ⟨a8,ea8,qa8⟩:=cs_i64 (a7 + (E.I ρ (.fn 0 (.fn 1 (.pr Z0 (.int 20))))))
 try simp only [ea8] at *
 obtain ⟨a9,ea9,qa9⟩:=cs_i64 (a8 + (E.I ρ (.fn 0 (.fn 1 (.pr Z0 (.int 21))))))
 try simp only [ea9] at *
 obtain ⟨a10,ea10,qa10⟩:=cs_i64 (a9 - (0))
 try simp only [ea10] at *
 omega
def F488:E:=(.cmp .eql (.fn 0 (.fn 40 (.fn 3 (.pr (.fn 3 (.pr (.fn 1 (.pr Z0 (.int 6))) (.fn 1 (.pr Z0 (.int 20))))) (.fn 1 (.pr Z0 (.int 21))))))) (.fn 6 (.pr (.fn 6 (.pr (.fn 0 (.fn 1 (.pr Z0 (.int 6)))) (.fn 0 (.fn 1 (.pr Z0 (.int 20)))))) (.fn 0 (.fn 1 (.pr Z0 (.int 21)))))))
theorem G488:Tr F488:=fun ρ=>by
 unfold F488
 have:=@len_40 ρ (.fn 3 (.pr (.fn 3 (.pr (.fn 1 (.pr Z0 (.int 6))) (.fn 1 (.pr Z0 (.int 20))))) (.fn 1 (.pr Z0 (.int 21)))))
 have:=@len_3 ρ (.fn 3 (.pr (.fn 1 (.pr Z0 (.int 6))) (.fn 1 (.pr Z0 (.int 20))))) (.fn 1 (.pr Z0 (.int 21)))
 have:=@len_3 ρ (.fn 1 (.pr Z0 (.int 6))) (.fn 1 (.pr Z0 (.int 20)))
 try simp only [smA,smW] at *
 obtain ⟨a6,ea6,qa6⟩:=cs_i64 ((1) - (E.I ρ Z7))
 try simp only [ea6] at *
 obtain ⟨a7,ea7,qa7⟩:=cs_i64 ((0) + (E.I ρ (.fn 0 (.fn 1 (.pr Z0 (.int 6))))))
 try simp only [ea7] at *
 obtain ⟨a8,ea8,qa8⟩:=cs_i64 (a7 + (E.I ρ (.fn 0 (.fn 1 (.pr Z0 (.int 20))))))
 try simp only [ea8] at *
 obtain ⟨a9,ea9,qa9⟩:=cs_i64 (a8 + (E.I ρ (.fn 0 (.fn 1 (.pr Z0 (.int 21))))))
 try simp only [ea9] at *
 obtain ⟨a10,ea10,qa10⟩:=cs_i64 (a9 - (0))
 try simp only [ea10] at *
 omega
def F489:E:=(.cmp .eql (.fn 0 (.fn 40 (.fn 3 (.pr (.fn 3 (.pr (.fn 3 (.pr (.fn 4 (.pr (.fn 5 (.pr Z11 (.int 0))) (.pr (.int 0) (.int 0)))) (.fn 1 (.pr Z0 (.int 6))))) (.fn 1 (.pr Z0 (.int 20))))) (.fn 1 (.pr Z0 (.int 21))))))) (.fn 6 (.pr (.fn 6 (.pr (.fn 0 (.fn 1 (.pr Z0 (.int 6)))) (.fn 0 (.fn 1 (.pr Z0 (.int 20)))))) (.fn 0 (.fn 1 (.pr Z0 (.int 21)))))))
theorem G489:Tr F489:=fun ρ=>by
 unfold F489
 have:=@len_40 ρ (.fn 3 (.pr (.fn 3 (.pr (.fn 3 (.pr (.fn 4 (.pr (.fn 5 (.pr Z11 (.int 0))) (.pr (.int 0) (.int 0)))) (.fn 1 (.pr Z0 (.int 6))))) (.fn 1 (.pr Z0 (.int 20))))) (.fn 1 (.pr Z0 (.int 21)))))
 have:=@len_3 ρ (.fn 3 (.pr (.fn 3 (.pr (.fn 4 (.pr (.fn 5 (.pr Z11 (.int 0))) (.pr (.int 0) (.int 0)))) (.fn 1 (.pr Z0 (.int 6))))) (.fn 1 (.pr Z0 (.int 20))))) (.fn 1 (.pr Z0 (.int 21)))
 have:=@len_3 ρ (.fn 3 (.pr (.fn 4 (.pr (.fn 5 (.pr Z11 (.int 0))) (.pr (.int 0) (.int 0)))) (.fn 1 (.pr Z0 (.int 6))))) (.fn 1 (.pr Z0 (.int 20)))
 have:=@len_3 ρ (.fn 4 (.pr (.fn 5 (.pr Z11 (.int 0))) (.pr (.int 0) (.int 0)))) (.fn 1 (.pr Z0 (.int 6)))
 have:=@len_40z ρ (.fn 5 (.pr Z11 (.int 0))) (.int 0)
 try simp only [smA,smW] at *
 obtain ⟨a6,ea6,qa6⟩:=cs_i64 ((1) - (E.I ρ Z7))
 try simp only [ea6] at *
 obtain ⟨a7,ea7,qa7⟩:=cs_i64 ((0) + (E.I ρ (.fn 0 (.fn 1 (.pr Z0 (.int 6))))))
 try simp only [ea7] at *
 obtain ⟨a8,ea8,qa8⟩:=cs_i64 (a7 + (E.I ρ (.fn 0 (.fn 1 (.pr Z0 (.int 20))))))
 try simp only [ea8] at *
 obtain ⟨a9,ea9,qa9⟩:=cs_i64 (a8 + (E.I ρ (.fn 0 (.fn 1 (.pr Z0 (.int 21))))))
 try simp only [ea9] at *
 obtain ⟨a10,ea10,qa10⟩:=cs_i64 (a9 - (0))
 try simp only [ea10] at *
 omega
def F490:E:=(.cmp .eql (.fn 0 (.fn 40 (.fn 3 (.pr (.fn 1 (.pr Z0 (.int 20))) (.fn 1 (.pr Z0 (.int 7))))))) (.fn 6 (.pr (.fn 0 (.fn 1 (.pr Z0 (.int 20)))) (.fn 0 (.fn 1 (.pr Z0 (.int 7)))))))
theorem G490:Tr F490:=fun ρ=>by
 unfold F490
 have:=@len_40 ρ (.fn 3 (.pr (.fn 1 (.pr Z0 (.int 20))) (.fn 1 (.pr Z0 (.int 7)))))
 have:=@len_3 ρ (.fn 1 (.pr Z0 (.int 20))) (.fn 1 (.pr Z0 (.int 7)))
 try simp only [smA,smW] at *
 obtain ⟨a6,ea6,qa6⟩:=cs_i64 ((1) - (E.I ρ Z7))
 try simp only [ea6] at *
 obtain ⟨a7,ea7,qa7⟩:=cs_i64 ((0) + (E.I ρ (.fn 0 (.fn 1 (.pr Z0 (.int 6))))))
 try simp only [ea7] at *
 obtain ⟨a8,ea8,qa8⟩:=cs_i64 (a7 + (E.I ρ (.fn 0 (.fn 1 (.pr Z0 (.int 20))))))
 try simp only [ea8] at *
 obtain ⟨a9,ea9,qa9⟩:=cs_i64 (a8 + (E.I ρ (.fn 0 (.fn 1 (.pr Z0 (.int 7))))))
 try simp only [ea9] at *
 obtain ⟨a10,ea10,qa10⟩:=cs_i64 (a9 - (0))
 try simp only [ea10] at *
 omega
def F491:E:=(.cmp .eql (.fn 0 (.fn 40 (.fn 3 (.pr (.fn 3 (.pr (.fn 1 (.pr Z0 (.int 6))) (.fn 1 (.pr Z0 (.int 20))))) (.fn 1 (.pr Z0 (.int 7))))))) (.fn 6 (.pr (.fn 6 (.pr (.fn 0 (.fn 1 (.pr Z0 (.int 6)))) (.fn 0 (.fn 1 (.pr Z0 (.int 20)))))) (.fn 0 (.fn 1 (.pr Z0 (.int 7)))))))
theorem G491:Tr F491:=fun ρ=>by
 unfold F491
 have:=@len_40 ρ (.fn 3 (.pr (.fn 3 (.pr (.fn 1 (.pr Z0 (.int 6))) (.fn 1 (.pr Z0 (.int 20))))) (.fn 1 (.pr Z0 (.int 7)))))
 have:=@len_3 ρ (.fn 3 (.pr (.fn 1 (.pr Z0 (.int 6))) (.fn 1 (.pr Z0 (.int 20))))) (.fn 1 (.pr Z0 (.int 7)))
 have:=@len_3 ρ (.fn 1 (.pr Z0 (.int 6))) (.fn 1 (.pr Z0 (.int 20)))
 try simp only [smA,smW] at *
 obtain ⟨a6,ea6,qa6⟩:=cs_i64 ((1) - (E.I ρ Z7))
 try simp only [ea6] at *
 obtain ⟨a7,ea7,qa7⟩:=cs_i64 ((0) + (E.I ρ (.fn 0 (.fn 1 (.pr Z0 (.int 6))))))
 try simp only [ea7] at *
 obtain ⟨a8,ea8,qa8⟩:=cs_i64 (a7 + (E.I ρ (.fn 0 (.fn 1 (.pr Z0 (.int 20))))))
 try simp only [ea8] at *
 obtain ⟨a9,ea9,qa9⟩:=cs_i64 (a8 + (E.I ρ (.fn 0 (.fn 1 (.pr Z0 (.int 7))))))
 try simp only [ea9] at *
 obtain ⟨a10,ea10,qa10⟩:=cs_i64 (a9 - (0))
 try simp only [ea10] at *
 omega
def F492:E:=(.cmp .eql (.fn 0 (.fn 40 (.fn 3 (.pr (.fn 3 (.pr (.fn 3 (.pr (.fn 4 (.pr (.fn 5 (.pr Z10 (.int 0))) (.pr (.int 0) (.int 0)))) (.fn 1 (.pr Z0 (.int 6))))) (.fn 1 (.pr Z0 (.int 20))))) (.fn 1 (.pr Z0 (.int 7))))))) (.fn 6 (.pr (.fn 6 (.pr (.fn 0 (.fn 1 (.pr Z0 (.int 6)))) (.fn 0 (.fn 1 (.pr Z0 (.int 20)))))) (.fn 0 (.fn 1 (.pr Z0 (.int 7)))))))
theorem G492:Tr F492:=fun ρ=>by
 unfold F492
 have:=@len_40 ρ (.fn 3 (.pr (.fn 3 (.pr (.fn 3 (.pr (.fn 4 (.pr (.fn 5 (.pr Z10 (.int 0))) (.pr (.int 0) (.int 0)))) (.fn 1 (.pr Z0 (.int 6))))) (.fn 1 (.pr Z0 (.int 20))))) (.fn 1 (.pr Z0 (.int 7)))))
 have:=@len_3 ρ (.fn 3 (.pr (.fn 3 (.pr (.fn 4 (.pr (.fn 5 (.pr Z10 (.int 0))) (.pr (.int 0) (.int 0)))) (.fn 1 (.pr Z0 (.int 6))))) (.fn 1 (.pr Z0 (.int 20))))) (.fn 1 (.pr Z0 (.int 7)))
 have:=@len_3 ρ (.fn 3 (.pr (.fn 4 (.pr (.fn 5 (.pr Z10 (.int 0))) (.pr (.int 0) (.int 0)))) (.fn 1 (.pr Z0 (.int 6))))) (.fn 1 (.pr Z0 (.int 20)))
 have:=@len_3 ρ (.fn 4 (.pr (.fn 5 (.pr Z10 (.int 0))) (.pr (.int 0) (.int 0)))) (.fn 1 (.pr Z0 (.int 6)))
 have:=@len_40z ρ (.fn 5 (.pr Z10 (.int 0))) (.int 0)
 try simp only [smA,smW] at *
 obtain ⟨a6,ea6,qa6⟩:=cs_i64 ((1) - (E.I ρ Z7))
 try simp only [ea6] at *
 obtain ⟨a7,ea7,qa7⟩:=cs_i64 ((0) + (E.I ρ (.fn 0 (.fn 1 (.pr Z0 (.int 6))))))
 try simp only [ea7] at *
 obtain ⟨a8,ea8,qa8⟩:=cs_i64 (a7 + (E.I ρ (.fn 0 (.fn 1 (.pr Z0 (.int 20))))))
 try simp only [ea8] at *
 obtain ⟨a9,ea9,qa9⟩:=cs_i64 (a8 + (E.I ρ (.fn 0 (.fn 1 (.pr Z0 (.int 7))))))
 try simp only [ea9] at *
 obtain ⟨a10,ea10,qa10⟩:=cs_i64 (a9 - (0))
 try simp only [ea10] at *
 omega
def F493:E:=(.imp Z46 Z9)
theorem G493:Tr F493:=ii5 fun ρ p0 p1 p2 p3 p4=>by
 have:=t117 p0
 try simp only [smA,smW] at *
 have:=@fn0_nn ρ (.fn 1 (.pr Z0 (.int 6)))
 have:=@fn0_nn ρ (.fn 1 (.pr Z0 (.int 21)))
 try simp only [ea5] at *
 obtain ⟨a6,ea6,qa6⟩:=cs_i64 ((0) + (E.I ρ (.fn 0 (.fn 1 (.pr Z0 (.int 6))))))
 try simp only [ea6] at *
 obtain ⟨a7,ea7,qa7⟩:=cs_i64 (a6 + (E.I ρ (.fn 0 (.fn 1 (.pr Z0 (.int 20))))))
 try simp only [ea7] at *
 obtain ⟨a8,ea8,qa8⟩:=cs_i64 (a7 + (E.I ρ (.fn 0 (.fn 1 (.pr Z0 (.int 21))))))
 try simp only [ea8] at *
 obtain ⟨a9,ea9,qa9⟩:=cs_i64 (a8 - (0))
 try simp only [ea9] at *
 grind
def F494:E:=(.imp (.and Z1 (.and Z47 (.and Z17 (.and Z29 (.not Z43))))) Z9)
theorem G494:Tr F494:=ii5 fun ρ p0 p1 p2 p3 p4=>by
 have:=t117 p0
 try simp only [smA,smW] at *
 have:=@fn0_nn ρ (.fn 1 (.pr Z0 (.int 6)))
 have:=@fn0_nn ρ (.fn 1 (.pr Z0 (.int 7)))
 try simp only [ea5] at *
 obtain ⟨a6,ea6,qa6⟩:=cs_i64 ((0) + (E.I ρ (.fn 0 (.fn 1 (.pr Z0 (.int 6))))))
 try simp only [ea6] at *
 obtain ⟨a7,ea7,qa7⟩:=cs_i64 (a6 + (E.I ρ (.fn 0 (.fn 1 (.pr Z0 (.int 20))))))
 try simp only [ea7] at *
 obtain ⟨a8,ea8,qa8⟩:=cs_i64 (a7 + (E.I ρ (.fn 0 (.fn 1 (.pr Z0 (.int 7))))))
 try simp only [ea8] at *
 obtain ⟨a9,ea9,qa9⟩:=cs_i64 (a8 - (0))
 try simp only [ea9] at *
 grind
def F495:E:=(.imp (.and Z1 (.and Z12 (.and Z17 Z29))) Z49)
theorem G495:Tr F495:=ii4 fun ρ p0 p1 p2 p3=>by
 obtain ⟨gp,g6,g20⟩:E.I ρ Z7=(0)∧E.I ρ (.fn 0 (.fn 1 (.pr Z0 (.int 6))))=(0)∧E.I ρ (.fn 0 (.fn 1 (.pr Z0 (.int 20))))=(0):=by
  have:=t117 p0
  have:=@wrap_sub ρ (.int 1) Z7
  have:=@wrap_sub ρ Z5 (.int 0)
  have:=@wrap_add ρ Z3 (.fn 0 (.fn 1 (.pr Z0 (.int 21))))
  have:=@wrap_add ρ Z2 (.fn 0 (.fn 1 (.pr Z0 (.int 20))))
  have:=@wrap_add ρ (.int 0) (.fn 0 (.fn 1 (.pr Z0 (.int 6))))
  try simp only [smA,smW] at *
  have:=@fn0_nn ρ (.fn 1 (.pr Z0 (.int 6)))
  have:=@fn0_nn ρ (.fn 1 (.pr Z0 (.int 20)))
  have:=@fn0_nn ρ (.fn 1 (.pr Z0 (.int 21)))
  obtain ⟨a5,ea5,qa5⟩:=cs_i64 ((1) - (E.I ρ Z7))
  try simp only [ea5] at *
  obtain ⟨a6,ea6,qa6⟩:=cs_i64 ((0) + (E.I ρ (.fn 0 (.fn 1 (.pr Z0 (.int 6))))))
  try simp only [ea6] at *
  obtain ⟨a7,ea7,qa7⟩:=cs_i64 (a6 + (E.I ρ (.fn 0 (.fn 1 (.pr Z0 (.int 20))))))
  try simp only [ea7] at *
  obtain ⟨a8,ea8,qa8⟩:=cs_i64 (a7 + (E.I ρ (.fn 0 (.fn 1 (.pr Z0 (.int 21))))))
  try simp only [ea8] at *
  obtain ⟨a9,ea9,qa9⟩:=cs_i64 (a8 - (0))
  try simp only [ea9] at *
  grind
 exact t163_0 gp (by simp only [ints_app,ints_nil,ints_40z,List.nil_append,List.append_nil,List.append_assoc,ints_nil_of g6,ints_nil_of g20])
def F496:E:=(.imp Z1 (.not (.cmp .lss (.int 600) (.fn 6 (.pr (.fn 0 (.fn 1 (.pr Z0 (.int 20)))) (.fn 0 (.fn 1 (.pr Z0 (.int 21)))))))))
theorem G496:Tr F496:=ii1 fun ρ p0=>by
 have:=t117 p0
 try simp only [smA,smW] at *
 try simp only [ea5] at *
 try simp only [ea6] at *
 try simp only [ea7] at *
 try simp only [ea8] at *
 try simp only [ea9] at *
 grind
def F497:E:=(.imp Z1 (.not (.cmp .lss (.int 600) (.fn 6 (.pr (.fn 6 (.pr (.fn 0 (.fn 1 (.pr Z0 (.int 6)))) (.fn 0 (.fn 1 (.pr Z0 (.int 20)))))) (.fn 0 (.fn 1 (.pr Z0 (.int 21)))))))))
theorem G497:Tr F497:=ii1 fun ρ p0=>by
 have:=t117 p0
 try simp only [smA,smW] at *
 try simp only [ea5] at *
 try simp only [ea6] at *
 try simp only [ea7] at *
 try simp only [ea8] at *
 try simp only [ea9] at *
 grind
def F498:E:=(.imp Z18 Z51)
theorem G498:Tr F498:=ii4 fun ρ p0 p1 p2 p3=>by
 obtain ⟨gp,g6,g20⟩:E.I ρ Z7=(1)∧E.I ρ (.fn 0 (.fn 1 (.pr Z0 (.int 6))))=(0)∧E.I ρ (.fn 0 (.fn 1 (.pr Z0 (.int 20))))=(0):=by
  have:=t117 p0
  have:=@wrap_sub ρ (.int 1) Z7
  have:=@wrap_sub ρ Z4 (.int 0)
  have:=@wrap_add ρ Z3 (.fn 0 (.fn 1 (.pr Z0 (.int 7))))
  have:=@wrap_add ρ Z2 (.fn 0 (.fn 1 (.pr Z0 (.int 20))))
  have:=@wrap_add ρ (.int 0) (.fn 0 (.fn 1 (.pr Z0 (.int 6))))
  try simp only [smA,smW] at *
  have:=@fn0_nn ρ (.fn 1 (.pr Z0 (.int 6)))
  have:=@fn0_nn ρ (.fn 1 (.pr Z0 (.int 20)))
  have:=@fn0_nn ρ (.fn 1 (.pr Z0 (.int 7)))
  obtain ⟨a5,ea5,qa5⟩:=cs_i64 ((1) - (E.I ρ Z7))
  try simp only [ea5] at *
  obtain ⟨a6,ea6,qa6⟩:=cs_i64 ((0) + (E.I ρ (.fn 0 (.fn 1 (.pr Z0 (.int 6))))))
  try simp only [ea6] at *
  obtain ⟨a7,ea7,qa7⟩:=cs_i64 (a6 + (E.I ρ (.fn 0 (.fn 1 (.pr Z0 (.int 20))))))
  try simp only [ea7] at *
  obtain ⟨a8,ea8,qa8⟩:=cs_i64 (a7 + (E.I ρ (.fn 0 (.fn 1 (.pr Z0 (.int 7))))))
  try simp only [ea8] at *
  obtain ⟨a9,ea9,qa9⟩:=cs_i64 (a8 - (0))
  try simp only [ea9] at *
  grind
 exact t163_1 gp (by simp only [ints_app,ints_nil,ints_40z,List.nil_append,List.append_nil,List.append_assoc,ints_nil_of g6,ints_nil_of g20])
def F499:E:=(.imp Z18 Z53)
theorem G499:Tr F499:=ii4 fun ρ p0 p1 p2 p3=>by
 have:=t117 p0
 try simp only [smA,smW] at *
 have:=@fn0_nn ρ (.fn 1 (.pr Z0 (.int 6)))
 obtain ⟨a5,ea5,qa5⟩:=cs_i64 ((1) - (E.I ρ Z7))
 try simp only [ea5] at *
 try simp only [ea6] at *
 try simp only [ea7] at *
 try simp only [ea8] at *
 try simp only [ea9] at *
 grind
def F500:E:=(.imp Z1 (.not (.cmp .lss (.int 600) (.fn 6 (.pr (.fn 6 (.pr (.fn 0 (.fn 1 (.pr Z0 (.int 6)))) (.fn 0 (.fn 1 (.pr Z0 (.int 20)))))) (.fn 0 (.fn 1 (.pr Z0 (.int 7)))))))))
theorem G500:Tr F500:=ii1 fun ρ p0=>by
 have:=t117 p0
 try simp only [smA,smW] at *
 try simp only [ea5] at *
 try simp only [ea6] at *
 try simp only [ea7] at *
 try simp only [ea8] at *
 try simp only [ea9] at *
 grind
def F501:E:=(.imp Z46 Z49)
theorem G501:Tr F501:=ii5 fun ρ p0 p1 p2 p3 p4=>by
 obtain ⟨gp,g6,g20⟩:E.I ρ Z7=(0)∧E.I ρ (.fn 0 (.fn 1 (.pr Z0 (.int 6))))=(0)∧E.I ρ (.fn 0 (.fn 1 (.pr Z0 (.int 20))))=(0):=by
  have:=t117 p0
  have:=@wrap_sub ρ (.int 1) Z7
  have:=@wrap_sub ρ Z5 (.int 0)
  have:=@wrap_add ρ Z3 (.fn 0 (.fn 1 (.pr Z0 (.int 21))))
  have:=@wrap_add ρ Z2 (.fn 0 (.fn 1 (.pr Z0 (.int 20))))
  have:=@wrap_add ρ (.int 0) (.fn 0 (.fn 1 (.pr Z0 (.int 6))))
  try simp only [smA,smW] at *
  have:=@fn0_nn ρ (.fn 1 (.pr Z0 (.int 6)))
  have:=@fn0_nn ρ (.fn 1 (.pr Z0 (.int 20)))
  have:=@fn0_nn ρ (.fn 1 (.pr Z0 (.int 21)))
  obtain ⟨a5,ea5,qa5⟩:=cs_i64 ((1) - (E.I ρ Z7))
  try simp only [ea5] at *
  obtain ⟨a6,ea6,qa6⟩:=cs_i64 ((0) + (E.I ρ (.fn 0 (.fn 1 (.pr Z0 (.int 6))))))
  try simp only [ea6] at *
  obtain ⟨a7,ea7,qa7⟩:=cs_i64 (a6 + (E.I ρ (.fn 0 (.fn 1 (.pr Z0 (.int 20))))))
  try simp only [ea7] at *
  obtain ⟨a8,ea8,qa8⟩:=cs_i64 (a7 + (E.I ρ (.fn 0 (.fn 1 (.pr Z0 (.int 21))))))
  try simp only [ea8] at *
  obtain ⟨a9,ea9,qa9⟩:=cs_i64 (a8 - (0))
  try simp only [ea9] at *
  grind
 exact t163_0 gp (by simp only [ints_app,ints_nil,ints_40z,List.nil_append,List.append_nil,List.append_assoc,ints_nil_of g6,ints_nil_of g20])
def F502:E:=(.imp (.and Z1 (.and Z14 (.and Z17 Z29))) Z51)
theorem G502:Tr F502:=ii4 fun ρ p0 p1 p2 p3=>by
 obtain ⟨gp,g6,g20⟩:E.I ρ Z7=(1)∧E.I ρ (.fn 0 (.fn 1 (.pr Z0 (.int 6))))=(0)∧E.I ρ (.fn 0 (.fn 1 (.pr Z0 (.int 20))))=(0):=by
  have:=t117 p0
  have:=@wrap_sub ρ (.int 1) Z7
  have:=@wrap_sub ρ Z4 (.int 0)
  have:=@wrap_add ρ Z3 (.fn 0 (.fn 1 (.pr Z0 (.int 7))))
  have:=@wrap_add ρ Z2 (.fn 0 (.fn 1 (.pr Z0 (.int 20))))
  have:=@wrap_add ρ (.int 0) (.fn 0 (.fn 1 (.pr Z0 (.int 6))))
  try simp only [smA,smW] at *
  have:=@fn0_nn ρ (.fn 1 (.pr Z0 (.int 6)))
  have:=@fn0_nn ρ (.fn 1 (.pr Z0 (.int 20)))
  have:=@fn0_nn ρ (.fn 1 (.pr Z0 (.int 7)))
  obtain ⟨a5,ea5,qa5⟩:=cs_i64 ((1) - (E.I ρ Z7))
  try simp only [ea5] at *
  obtain ⟨a6,ea6,qa6⟩:=cs_i64 ((0) + (E.I ρ (.fn 0 (.fn 1 (.pr Z0 (.int 6))))))
  try simp only [ea6] at *
  obtain ⟨a7,ea7,qa7⟩:=cs_i64 (a6 + (E.I ρ (.fn 0 (.fn 1 (.pr Z0 (.int 20))))))
  try simp only [ea7] at *
  obtain ⟨a8,ea8,qa8⟩:=cs_i64 (a7 + (E.I ρ (.fn 0 (.fn 1 (.pr Z0 (.int 7))))))
  try simp only [ea8] at *
  obtain ⟨a9,ea9,qa9⟩:=cs_i64 (a8 - (0))
  try simp only [ea9] at *
  grind
 exact t163_1 gp (by simp only [ints_app,ints_nil,ints_40z,List.nil_append,List.append_nil,List.append_assoc,ints_nil_of g6,ints_nil_of g20])
def F503:E:=(.imp Z1 Z53)
theorem G503:Tr F503:=ii1 fun ρ p0=>by
 have:=t117 p0
 try simp only [smA,smW] at *
 try simp only [ea5] at *
 try simp only [ea6] at *
 try simp only [ea7] at *
 try simp only [ea8] at *
 try simp only [ea9] at *
 grind
def F504:E:=(.imp Z55 Z9)
theorem G504:Tr F504:=ii3 fun ρ p0 p1 p2=>by
 have:=t117 p0
 try simp only [smA,smW] at *
 have:=@fn0_nn ρ (.fn 1 (.pr Z0 (.int 6)))
 have:=@fn0_nn ρ (.fn 1 (.pr Z0 (.int 20)))
 have:=@fn0_nn ρ (.fn 1 (.pr Z0 (.int 21)))
 try simp only [ea5] at *
 obtain ⟨a6,ea6,qa6⟩:=cs_i64 ((0) + (E.I ρ (.fn 0 (.fn 1 (.pr Z0 (.int 6))))))
 try simp only [ea6] at *
 obtain ⟨a7,ea7,qa7⟩:=cs_i64 (a6 + (E.I ρ (.fn 0 (.fn 1 (.pr Z0 (.int 20))))))
 try simp only [ea7] at *
 obtain ⟨a8,ea8,qa8⟩:=cs_i64 (a7 + (E.I ρ (.fn 0 (.fn 1 (.pr Z0 (.int 21))))))
 try simp only [ea8] at *
 obtain ⟨a9,ea9,qa9⟩:=cs_i64 (a8 - (0))
 try simp only [ea9] at *
 grind
def F505:E:=(.imp (.and Z12 Z28) Z9)
theorem G505:Tr F505:=ii3 fun ρ p0 p1 p2=>by
 have:=@z145 ρ Z7 Z0
 have:=@t_valid ρ Z0
 try simp only [smA,smW] at *
 try simp only [ea5] at *
 try simp only [ea6] at *
 try simp only [ea7] at *
 try simp only [ea8] at *
 try simp only [ea9] at *
 grind
def F506:E:=(.imp Z57 Z9)
theorem G506:Tr F506:=ii3 fun ρ p0 p1 p2=>by
 have:=t117 p0
 try simp only [smA,smW] at *
 have:=@fn0_nn ρ (.fn 1 (.pr Z0 (.int 6)))
 have:=@fn0_nn ρ (.fn 1 (.pr Z0 (.int 20)))
 have:=@fn0_nn ρ (.fn 1 (.pr Z0 (.int 7)))
 try simp only [ea5] at *
 obtain ⟨a6,ea6,qa6⟩:=cs_i64 ((0) + (E.I ρ (.fn 0 (.fn 1 (.pr Z0 (.int 6))))))
 try simp only [ea6] at *
 obtain ⟨a7,ea7,qa7⟩:=cs_i64 (a6 + (E.I ρ (.fn 0 (.fn 1 (.pr Z0 (.int 20))))))
 try simp only [ea7] at *
 obtain ⟨a8,ea8,qa8⟩:=cs_i64 (a7 + (E.I ρ (.fn 0 (.fn 1 (.pr Z0 (.int 7))))))
 try simp only [ea8] at *
 obtain ⟨a9,ea9,qa9⟩:=cs_i64 (a8 - (0))
 try simp only [ea9] at *
 grind
def F507:E:=(.imp (.and Z12 Z15) Z9)
theorem G507:Tr F507:=ii2 fun ρ p0 p1=>by
 try simp only [smA,smW] at *
 obtain ⟨a5,ea5,qa5⟩:=cs_i64 ((1) - (E.I ρ Z7))
 try simp only [ea5] at *
 try simp only [ea6] at *
 try simp only [ea7] at *
 try simp only [ea8] at *
 try simp only [ea9] at *
 grind
def F508:E:=(.imp Z60 Z9)
theorem G508:Tr F508:=ii4 fun ρ p0 p1 p2 p3=>by
 have:=t117 p0
 try simp only [smA,smW] at *
 have:=@fn0_nn ρ (.fn 1 (.pr Z0 (.int 6)))
 have:=@fn0_nn ρ (.fn 1 (.pr Z0 (.int 20)))
 have:=@fn0_nn ρ (.fn 1 (.pr Z0 (.int 21)))
 try simp only [ea5] at *
 obtain ⟨a6,ea6,qa6⟩:=cs_i64 ((0) + (E.I ρ (.fn 0 (.fn 1 (.pr Z0 (.int 6))))))
 try simp only [ea6] at *
 obtain ⟨a7,ea7,qa7⟩:=cs_i64 (a6 + (E.I ρ (.fn 0 (.fn 1 (.pr Z0 (.int 20))))))
 try simp only [ea7] at *
 obtain ⟨a8,ea8,qa8⟩:=cs_i64 (a7 + (E.I ρ (.fn 0 (.fn 1 (.pr Z0 (.int 21))))))
 try simp only [ea8] at *
 obtain ⟨a9,ea9,qa9⟩:=cs_i64 (a8 - (0))
 try simp only [ea9] at *
 grind
def F509:E:=(.imp (.and Z1 (.and Z47 Z58)) Z9)
theorem G509:Tr F509:=ii4 fun ρ p0 p1 p2 p3=>by
 have:=t117 p0
 try simp only [smA,smW] at *
 have:=@fn0_nn ρ (.fn 1 (.pr Z0 (.int 6)))
 have:=@fn0_nn ρ (.fn 1 (.pr Z0 (.int 20)))
 have:=@fn0_nn ρ (.fn 1 (.pr Z0 (.int 7)))
 try simp only [ea5] at *
 obtain ⟨a6,ea6,qa6⟩:=cs_i64 ((0) + (E.I ρ (.fn 0 (.fn 1 (.pr Z0 (.int 6))))))
 try simp only [ea6] at *
 obtain ⟨a7,ea7,qa7⟩:=cs_i64 (a6 + (E.I ρ (.fn 0 (.fn 1 (.pr Z0 (.int 20))))))
 try simp only [ea7] at *
 obtain ⟨a8,ea8,qa8⟩:=cs_i64 (a7 + (E.I ρ (.fn 0 (.fn 1 (.pr Z0 (.int 7))))))
 try simp only [ea8] at *
 obtain ⟨a9,ea9,qa9⟩:=cs_i64 (a8 - (0))
 try simp only [ea9] at *
 grind
def F510:E:=(.imp (.and Z1 (.and Z12 Z17)) Z62)
theorem G510:Tr F510:=ii3 fun ρ p0 p1 p2=>by
 obtain ⟨gp,g6⟩:E.I ρ Z7=(0)∧E.I ρ (.fn 0 (.fn 1 (.pr Z0 (.int 6))))=(0):=by
  have:=t117 p0
  have:=@wrap_sub ρ (.int 1) Z7
  have:=@wrap_sub ρ Z5 (.int 0)
  have:=@wrap_add ρ Z3 (.fn 0 (.fn 1 (.pr Z0 (.int 21))))
  have:=@wrap_add ρ Z2 (.fn 0 (.fn 1 (.pr Z0 (.int 20))))
  have:=@wrap_add ρ (.int 0) (.fn 0 (.fn 1 (.pr Z0 (.int 6))))
  try simp only [smA,smW] at *
  have:=@fn0_nn ρ (.fn 1 (.pr Z0 (.int 6)))
  have:=@fn0_nn ρ (.fn 1 (.pr Z0 (.int 20)))
  have:=@fn0_nn ρ (.fn 1 (.pr Z0 (.int 21)))
  obtain ⟨a5,ea5,qa5⟩:=cs_i64 ((1) - (E.I ρ Z7))
  try simp only [ea5] at *
  obtain ⟨a6,ea6,qa6⟩:=cs_i64 ((0) + (E.I ρ (.fn 0 (.fn 1 (.pr Z0 (.int 6))))))
  try simp only [ea6] at *
  obtain ⟨a7,ea7,qa7⟩:=cs_i64 (a6 + (E.I ρ (.fn 0 (.fn 1 (.pr Z0 (.int 20))))))
  try simp only [ea7] at *
  obtain ⟨a8,ea8,qa8⟩:=cs_i64 (a7 + (E.I ρ (.fn 0 (.fn 1 (.pr Z0 (.int 21))))))
  try simp only [ea8] at *
  obtain ⟨a9,ea9,qa9⟩:=cs_i64 (a8 - (0))
  try simp only [ea9] at *
  grind
 exact t163_0 gp (by simp only [ints_app,ints_nil,ints_40z,List.nil_append,List.append_nil,List.append_assoc,ints_nil_of g6])
def F511:E:=(.imp (.and Z1 Z12) Z64)
theorem G511:Tr F511:=ii2 fun ρ p0 p1=>by
 have gp:E.I ρ Z7=(0):=by
  have:=t117 p0
  have:=@wrap_sub ρ (.int 1) Z7
  have:=@wrap_sub ρ Z5 (.int 0)
  have:=@wrap_add ρ Z3 (.fn 0 (.fn 1 (.pr Z0 (.int 21))))
  have:=@wrap_add ρ Z2 (.fn 0 (.fn 1 (.pr Z0 (.int 20))))
  have:=@wrap_add ρ (.int 0) (.fn 0 (.fn 1 (.pr Z0 (.int 6))))
  try simp only [smA,smW] at *
  have:=@fn0_nn ρ (.fn 1 (.pr Z0 (.int 6)))
  have:=@fn0_nn ρ (.fn 1 (.pr Z0 (.int 20)))
  have:=@fn0_nn ρ (.fn 1 (.pr Z0 (.int 21)))
  obtain ⟨a5,ea5,qa5⟩:=cs_i64 ((1) - (E.I ρ Z7))
  try simp only [ea5] at *
  obtain ⟨a6,ea6,qa6⟩:=cs_i64 ((0) + (E.I ρ (.fn 0 (.fn 1 (.pr Z0 (.int 6))))))
  try simp only [ea6] at *
  obtain ⟨a7,ea7,qa7⟩:=cs_i64 (a6 + (E.I ρ (.fn 0 (.fn 1 (.pr Z0 (.int 20))))))
  try simp only [ea7] at *
  obtain ⟨a8,ea8,qa8⟩:=cs_i64 (a7 + (E.I ρ (.fn 0 (.fn 1 (.pr Z0 (.int 21))))))
  try simp only [ea8] at *
  obtain ⟨a9,ea9,qa9⟩:=cs_i64 (a8 - (0))
  try simp only [ea9] at *
  grind
 exact t163_0 gp (by simp only [ints_app,ints_nil,ints_40z,List.nil_append,List.append_nil,List.append_assoc])
def F512:E:=(.imp (.and Z1 Z12) Z66)
theorem G512:Tr F512:=ii2 fun ρ p0 p1=>by
 have gp:E.I ρ Z7=(0):=by
  have:=t117 p0
  have:=@wrap_sub ρ (.int 1) Z7
  have:=@wrap_sub ρ Z5 (.int 0)
  have:=@wrap_add ρ Z3 (.fn 0 (.fn 1 (.pr Z0 (.int 21))))
  have:=@wrap_add ρ Z2 (.fn 0 (.fn 1 (.pr Z0 (.int 20))))
  have:=@wrap_add ρ (.int 0) (.fn 0 (.fn 1 (.pr Z0 (.int 6))))
  try simp only [smA,smW] at *
  have:=@fn0_nn ρ (.fn 1 (.pr Z0 (.int 6)))
  have:=@fn0_nn ρ (.fn 1 (.pr Z0 (.int 20)))
  have:=@fn0_nn ρ (.fn 1 (.pr Z0 (.int 21)))
  obtain ⟨a5,ea5,qa5⟩:=cs_i64 ((1) - (E.I ρ Z7))
  try simp only [ea5] at *
  obtain ⟨a6,ea6,qa6⟩:=cs_i64 ((0) + (E.I ρ (.fn 0 (.fn 1 (.pr Z0 (.int 6))))))
  try simp only [ea6] at *
  obtain ⟨a7,ea7,qa7⟩:=cs_i64 (a6 + (E.I ρ (.fn 0 (.fn 1 (.pr Z0 (.int 20))))))
  try simp only [ea7] at *
  obtain ⟨a8,ea8,qa8⟩:=cs_i64 (a7 + (E.I ρ (.fn 0 (.fn 1 (.pr Z0 (.int 21))))))
  try simp only [ea8] at *
  obtain ⟨a9,ea9,qa9⟩:=cs_i64 (a8 - (0))
  try simp only [ea9] at *
  grind
 exact t163_0 gp (by simp only [ints_app,ints_nil,ints_40z,List.nil_append,List.append_nil,List.append_assoc])
def F513:E:=(.imp Z18 Z68)
theorem G513:Tr F513:=ii4 fun ρ p0 p1 p2 p3=>by
 obtain ⟨gp,g6⟩:E.I ρ Z7=(1)∧E.I ρ (.fn 0 (.fn 1 (.pr Z0 (.int 6))))=(0):=by
  have:=t117 p0
  have:=@wrap_sub ρ (.int 1) Z7
  have:=@wrap_sub ρ Z4 (.int 0)
  have:=@wrap_add ρ Z3 (.fn 0 (.fn 1 (.pr Z0 (.int 7))))
  have:=@wrap_add ρ Z2 (.fn 0 (.fn 1 (.pr Z0 (.int 20))))
  have:=@wrap_add ρ (.int 0) (.fn 0 (.fn 1 (.pr Z0 (.int 6))))
  try simp only [smA,smW] at *
  have:=@fn0_nn ρ (.fn 1 (.pr Z0 (.int 6)))
  have:=@fn0_nn ρ (.fn 1 (.pr Z0 (.int 20)))
  have:=@fn0_nn ρ (.fn 1 (.pr Z0 (.int 7)))
  obtain ⟨a5,ea5,qa5⟩:=cs_i64 ((1) - (E.I ρ Z7))
  try simp only [ea5] at *
  obtain ⟨a6,ea6,qa6⟩:=cs_i64 ((0) + (E.I ρ (.fn 0 (.fn 1 (.pr Z0 (.int 6))))))
  try simp only [ea6] at *
  obtain ⟨a7,ea7,qa7⟩:=cs_i64 (a6 + (E.I ρ (.fn 0 (.fn 1 (.pr Z0 (.int 20))))))
  try simp only [ea7] at *
  obtain ⟨a8,ea8,qa8⟩:=cs_i64 (a7 + (E.I ρ (.fn 0 (.fn 1 (.pr Z0 (.int 7))))))
  try simp only [ea8] at *
  obtain ⟨a9,ea9,qa9⟩:=cs_i64 (a8 - (0))
  try simp only [ea9] at *
  grind
 exact t163_1 gp (by simp only [ints_app,ints_nil,ints_40z,List.nil_append,List.append_nil,List.append_assoc,ints_nil_of g6])
def F514:E:=(.imp Z57 Z70)
theorem G514:Tr F514:=ii3 fun ρ p0 p1 p2=>by
 have gp:E.I ρ Z7=(1):=by
  have:=t117 p0
  have:=@wrap_sub ρ (.int 1) Z7
  have:=@wrap_sub ρ Z4 (.int 0)
  have:=@wrap_add ρ Z3 (.fn 0 (.fn 1 (.pr Z0 (.int 7))))
  have:=@wrap_add ρ Z2 (.fn 0 (.fn 1 (.pr Z0 (.int 20))))
  have:=@wrap_add ρ (.int 0) (.fn 0 (.fn 1 (.pr Z0 (.int 6))))
  try simp only [smA,smW] at *
  have:=@fn0_nn ρ (.fn 1 (.pr Z0 (.int 6)))
  have:=@fn0_nn ρ (.fn 1 (.pr Z0 (.int 20)))
  have:=@fn0_nn ρ (.fn 1 (.pr Z0 (.int 7)))
  obtain ⟨a5,ea5,qa5⟩:=cs_i64 ((1) - (E.I ρ Z7))
  try simp only [ea5] at *
  obtain ⟨a6,ea6,qa6⟩:=cs_i64 ((0) + (E.I ρ (.fn 0 (.fn 1 (.pr Z0 (.int 6))))))
  try simp only [ea6] at *
  obtain ⟨a7,ea7,qa7⟩:=cs_i64 (a6 + (E.I ρ (.fn 0 (.fn 1 (.pr Z0 (.int 20))))))
  try simp only [ea7] at *
  obtain ⟨a8,ea8,qa8⟩:=cs_i64 (a7 + (E.I ρ (.fn 0 (.fn 1 (.pr Z0 (.int 7))))))
  try simp only [ea8] at *
  obtain ⟨a9,ea9,qa9⟩:=cs_i64 (a8 - (0))
  try simp only [ea9] at *
  grind
 exact t163_1 gp (by simp only [ints_app,ints_nil,ints_40z,List.nil_append,List.append_nil,List.append_assoc])
def F515:E:=(.imp (.and Z1 (.and Z12 Z15)) Z72)
theorem G515:Tr F515:=ii3 fun ρ p0 p1 p2=>by
 have gp:E.I ρ Z7=(1):=by
  have:=t117 p0
  have:=@wrap_sub ρ (.int 1) Z7
  have:=@wrap_sub ρ Z4 (.int 0)
  have:=@wrap_add ρ Z3 (.fn 0 (.fn 1 (.pr Z0 (.int 7))))
  have:=@wrap_add ρ Z2 (.fn 0 (.fn 1 (.pr Z0 (.int 20))))
  have:=@wrap_add ρ (.int 0) (.fn 0 (.fn 1 (.pr Z0 (.int 6))))
  try simp only [smA,smW] at *
  have:=@fn0_nn ρ (.fn 1 (.pr Z0 (.int 6)))
  have:=@fn0_nn ρ (.fn 1 (.pr Z0 (.int 20)))
  have:=@fn0_nn ρ (.fn 1 (.pr Z0 (.int 7)))
  obtain ⟨a5,ea5,qa5⟩:=cs_i64 ((1) - (E.I ρ Z7))
  try simp only [ea5] at *
  obtain ⟨a6,ea6,qa6⟩:=cs_i64 ((0) + (E.I ρ (.fn 0 (.fn 1 (.pr Z0 (.int 6))))))
  try simp only [ea6] at *
  obtain ⟨a7,ea7,qa7⟩:=cs_i64 (a6 + (E.I ρ (.fn 0 (.fn 1 (.pr Z0 (.int 20))))))
  try simp only [ea7] at *
  obtain ⟨a8,ea8,qa8⟩:=cs_i64 (a7 + (E.I ρ (.fn 0 (.fn 1 (.pr Z0 (.int 7))))))
  try simp only [ea8] at *
  obtain ⟨a9,ea9,qa9⟩:=cs_i64 (a8 - (0))
  try simp only [ea9] at *
  grind
 exact t163_1 gp (by simp only [ints_app,ints_nil,ints_40z,List.nil_append,List.append_nil,List.append_assoc])
def F516:E:=(.imp Z60 Z62)
theorem G516:Tr F516:=ii4 fun ρ p0 p1 p2 p3=>by
 obtain ⟨gp,g6⟩:E.I ρ Z7=(0)∧E.I ρ (.fn 0 (.fn 1 (.pr Z0 (.int 6))))=(0):=by
  have:=t117 p0
  have:=@wrap_sub ρ (.int 1) Z7
  have:=@wrap_sub ρ Z5 (.int 0)
  have:=@wrap_add ρ Z3 (.fn 0 (.fn 1 (.pr Z0 (.int 21))))
  have:=@wrap_add ρ Z2 (.fn 0 (.fn 1 (.pr Z0 (.int 20))))
  have:=@wrap_add ρ (.int 0) (.fn 0 (.fn 1 (.pr Z0 (.int 6))))
  try simp only [smA,smW] at *
  have:=@fn0_nn ρ (.fn 1 (.pr Z0 (.int 6)))
  have:=@fn0_nn ρ (.fn 1 (.pr Z0 (.int 20)))
  have:=@fn0_nn ρ (.fn 1 (.pr Z0 (.int 21)))
  obtain ⟨a5,ea5,qa5⟩:=cs_i64 ((1) - (E.I ρ Z7))
  try simp only [ea5] at *
  obtain ⟨a6,ea6,qa6⟩:=cs_i64 ((0) + (E.I ρ (.fn 0 (.fn 1 (.pr Z0 (.int 6))))))
  try simp only [ea6] at *
  obtain ⟨a7,ea7,qa7⟩:=cs_i64 (a6 + (E.I ρ (.fn 0 (.fn 1 (.pr Z0 (.int 20))))))
  try simp only [ea7] at *
  obtain ⟨a8,ea8,qa8⟩:=cs_i64 (a7 + (E.I ρ (.fn 0 (.fn 1 (.pr Z0 (.int 21))))))
  try simp only [ea8] at *
  obtain ⟨a9,ea9,qa9⟩:=cs_i64 (a8 - (0))
  try simp only [ea9] at *
  grind
 exact t163_0 gp (by simp only [ints_app,ints_nil,ints_40z,List.nil_append,List.append_nil,List.append_assoc,ints_nil_of g6])
def F517:E:=(.imp Z55 Z64)
theorem G517:Tr F517:=ii3 fun ρ p0 p1 p2=>by
 have gp:E.I ρ Z7=(0):=by
  have:=t117 p0
  have:=@wrap_sub ρ (.int 1) Z7
  have:=@wrap_sub ρ Z5 (.int 0)
  have:=@wrap_add ρ Z3 (.fn 0 (.fn 1 (.pr Z0 (.int 21))))
  have:=@wrap_add ρ Z2 (.fn 0 (.fn 1 (.pr Z0 (.int 20))))
  have:=@wrap_add ρ (.int 0) (.fn 0 (.fn 1 (.pr Z0 (.int 6))))
  try simp only [smA,smW] at *
  have:=@fn0_nn ρ (.fn 1 (.pr Z0 (.int 6)))
  have:=@fn0_nn ρ (.fn 1 (.pr Z0 (.int 20)))
  have:=@fn0_nn ρ (.fn 1 (.pr Z0 (.int 21)))
  obtain ⟨a5,ea5,qa5⟩:=cs_i64 ((1) - (E.I ρ Z7))
  try simp only [ea5] at *
  obtain ⟨a6,ea6,qa6⟩:=cs_i64 ((0) + (E.I ρ (.fn 0 (.fn 1 (.pr Z0 (.int 6))))))
  try simp only [ea6] at *
  obtain ⟨a7,ea7,qa7⟩:=cs_i64 (a6 + (E.I ρ (.fn 0 (.fn 1 (.pr Z0 (.int 20))))))
  try simp only [ea7] at *
  obtain ⟨a8,ea8,qa8⟩:=cs_i64 (a7 + (E.I ρ (.fn 0 (.fn 1 (.pr Z0 (.int 21))))))
  try simp only [ea8] at *
  obtain ⟨a9,ea9,qa9⟩:=cs_i64 (a8 - (0))
  try simp only [ea9] at *
  grind
 exact t163_0 gp (by simp only [ints_app,ints_nil,ints_40z,List.nil_append,List.append_nil,List.append_assoc])
def F518:E:=(.imp (.and Z1 Z16) Z66)
theorem G518:Tr F518:=ii3 fun ρ p0 p1 p2=>by
 have gp:E.I ρ Z7=(0):=by
  have:=t117 p0
  have:=@wrap_sub ρ (.int 1) Z7
  have:=@wrap_sub ρ Z5 (.int 0)
  have:=@wrap_add ρ Z3 (.fn 0 (.fn 1 (.pr Z0 (.int 21))))
  have:=@wrap_add ρ Z2 (.fn 0 (.fn 1 (.pr Z0 (.int 20))))
  have:=@wrap_add ρ (.int 0) (.fn 0 (.fn 1 (.pr Z0 (.int 6))))
  try simp only [smA,smW] at *
  have:=@fn0_nn ρ (.fn 1 (.pr Z0 (.int 6)))
  have:=@fn0_nn ρ (.fn 1 (.pr Z0 (.int 20)))
  have:=@fn0_nn ρ (.fn 1 (.pr Z0 (.int 21)))
  obtain ⟨a5,ea5,qa5⟩:=cs_i64 ((1) - (E.I ρ Z7))
  try simp only [ea5] at *
  obtain ⟨a6,ea6,qa6⟩:=cs_i64 ((0) + (E.I ρ (.fn 0 (.fn 1 (.pr Z0 (.int 6))))))
  try simp only [ea6] at *
  obtain ⟨a7,ea7,qa7⟩:=cs_i64 (a6 + (E.I ρ (.fn 0 (.fn 1 (.pr Z0 (.int 20))))))
  try simp only [ea7] at *
  obtain ⟨a8,ea8,qa8⟩:=cs_i64 (a7 + (E.I ρ (.fn 0 (.fn 1 (.pr Z0 (.int 21))))))
  try simp only [ea8] at *
  obtain ⟨a9,ea9,qa9⟩:=cs_i64 (a8 - (0))
  try simp only [ea9] at *
  grind
 exact t163_0 gp (by simp only [ints_app,ints_nil,ints_40z,List.nil_append,List.append_nil,List.append_assoc])
def F519:E:=(.imp (.and Z1 (.and Z14 Z17)) Z68)
theorem G519:Tr F519:=ii3 fun ρ p0 p1 p2=>by
 obtain ⟨gp,g6⟩:E.I ρ Z7=(1)∧E.I ρ (.fn 0 (.fn 1 (.pr Z0 (.int 6))))=(0):=by
  have:=t117 p0
  have:=@wrap_sub ρ (.int 1) Z7
  have:=@wrap_sub ρ Z4 (.int 0)
  have:=@wrap_add ρ Z3 (.fn 0 (.fn 1 (.pr Z0 (.int 7))))
  have:=@wrap_add ρ Z2 (.fn 0 (.fn 1 (.pr Z0 (.int 20))))
  have:=@wrap_add ρ (.int 0) (.fn 0 (.fn 1 (.pr Z0 (.int 6))))
  try simp only [smA,smW] at *
  have:=@fn0_nn ρ (.fn 1 (.pr Z0 (.int 6)))
  have:=@fn0_nn ρ (.fn 1 (.pr Z0 (.int 20)))
  have:=@fn0_nn ρ (.fn 1 (.pr Z0 (.int 7)))
  obtain ⟨a5,ea5,qa5⟩:=cs_i64 ((1) - (E.I ρ Z7))
  try simp only [ea5] at *
  obtain ⟨a6,ea6,qa6⟩:=cs_i64 ((0) + (E.I ρ (.fn 0 (.fn 1 (.pr Z0 (.int 6))))))
  try simp only [ea6] at *
  obtain ⟨a7,ea7,qa7⟩:=cs_i64 (a6 + (E.I ρ (.fn 0 (.fn 1 (.pr Z0 (.int 20))))))
  try simp only [ea7] at *
  obtain ⟨a8,ea8,qa8⟩:=cs_i64 (a7 + (E.I ρ (.fn 0 (.fn 1 (.pr Z0 (.int 7))))))
  try simp only [ea8] at *
  obtain ⟨a9,ea9,qa9⟩:=cs_i64 (a8 - (0))
  try simp only [ea9] at *
  grind
 exact t163_1 gp (by simp only [ints_app,ints_nil,ints_40z,List.nil_append,List.append_nil,List.append_assoc,ints_nil_of g6])
def F520:E:=(.imp (.and Z1 Z14) Z70)
theorem G520:Tr F520:=ii2 fun ρ p0 p1=>by
 have gp:E.I ρ Z7=(1):=by
  have:=t117 p0
  have:=@wrap_sub ρ (.int 1) Z7
  have:=@wrap_sub ρ Z4 (.int 0)
  have:=@wrap_add ρ Z3 (.fn 0 (.fn 1 (.pr Z0 (.int 7))))
  have:=@wrap_add ρ Z2 (.fn 0 (.fn 1 (.pr Z0 (.int 20))))
  have:=@wrap_add ρ (.int 0) (.fn 0 (.fn 1 (.pr Z0 (.int 6))))
  try simp only [smA,smW] at *
  have:=@fn0_nn ρ (.fn 1 (.pr Z0 (.int 6)))
  have:=@fn0_nn ρ (.fn 1 (.pr Z0 (.int 20)))
  have:=@fn0_nn ρ (.fn 1 (.pr Z0 (.int 7)))
  obtain ⟨a5,ea5,qa5⟩:=cs_i64 ((1) - (E.I ρ Z7))
  try simp only [ea5] at *
  obtain ⟨a6,ea6,qa6⟩:=cs_i64 ((0) + (E.I ρ (.fn 0 (.fn 1 (.pr Z0 (.int 6))))))
  try simp only [ea6] at *
  obtain ⟨a7,ea7,qa7⟩:=cs_i64 (a6 + (E.I ρ (.fn 0 (.fn 1 (.pr Z0 (.int 20))))))
  try simp only [ea7] at *
  obtain ⟨a8,ea8,qa8⟩:=cs_i64 (a7 + (E.I ρ (.fn 0 (.fn 1 (.pr Z0 (.int 7))))))
  try simp only [ea8] at *
  obtain ⟨a9,ea9,qa9⟩:=cs_i64 (a8 - (0))
  try simp only [ea9] at *
  grind
 exact t163_1 gp (by simp only [ints_app,ints_nil,ints_40z,List.nil_append,List.append_nil,List.append_assoc])
def F521:E:=(.imp (.and Z1 Z14) Z72)
theorem G521:Tr F521:=ii2 fun ρ p0 p1=>by
 have gp:E.I ρ Z7=(1):=by
  have:=t117 p0
  have:=@wrap_sub ρ (.int 1) Z7
  have:=@wrap_sub ρ Z4 (.int 0)
  have:=@wrap_add ρ Z3 (.fn 0 (.fn 1 (.pr Z0 (.int 7))))
  have:=@wrap_add ρ Z2 (.fn 0 (.fn 1 (.pr Z0 (.int 20))))
  have:=@wrap_add ρ (.int 0) (.fn 0 (.fn 1 (.pr Z0 (.int 6))))
  try simp only [smA,smW] at *
  have:=@fn0_nn ρ (.fn 1 (.pr Z0 (.int 6)))
  have:=@fn0_nn ρ (.fn 1 (.pr Z0 (.int 20)))
  have:=@fn0_nn ρ (.fn 1 (.pr Z0 (.int 7)))
  obtain ⟨a5,ea5,qa5⟩:=cs_i64 ((1) - (E.I ρ Z7))
  try simp only [ea5] at *
  obtain ⟨a6,ea6,qa6⟩:=cs_i64 ((0) + (E.I ρ (.fn 0 (.fn 1 (.pr Z0 (.int 6))))))
  try simp only [ea6] at *
  obtain ⟨a7,ea7,qa7⟩:=cs_i64 (a6 + (E.I ρ (.fn 0 (.fn 1 (.pr Z0 (.int 20))))))
  try simp only [ea7] at *
  obtain ⟨a8,ea8,qa8⟩:=cs_i64 (a7 + (E.I ρ (.fn 0 (.fn 1 (.pr Z0 (.int 7))))))
  try simp only [ea8] at *
  obtain ⟨a9,ea9,qa9⟩:=cs_i64 (a8 - (0))
  try simp only [ea9] at *
  grind
 exact t163_1 gp (by simp only [ints_app,ints_nil,ints_40z,List.nil_append,List.append_nil,List.append_assoc])
namespace p17
def facts:List E:=[F440,F441,F442,F443,F444,F445,F446,F447,F448,F449,F450,F451,F452,F453,F454,F455,F456,F457,F458,F459,F460,F461,F462,F463,F464,F465,F466,F467,F468,F469,F470,F471,F472,F473,F474,F475,F476,F477,F478,F479,F480,F481,F482,F483,F484,F485,F486,F487,F488,F489,F490,F491,F492,F493,F494,F495,F496,F497,F498,F499,F500,F501,F502,F503,F504,F505,F506,F507,F508,F509,F510,F511,F512,F513,F514,F515,F516,F517,F518,F519,F520,F521]
theorem facts_ok:∀ e∈facts,Tr e:=(ac G440 (ac G441 (ac G442 (ac G443 (ac G444 (ac G445 (ac G446 (ac G447 (ac G448 (ac G449 (ac G450 (ac G451 (ac G452 (ac G453 (ac G454 (ac G455 (ac G456 (ac G457 (ac G458 (ac G459 (ac G460 (ac G461 (ac G462 (ac G463 (ac G464 (ac G465 (ac G466 (ac G467 (ac G468 (ac G469 (ac G470 (ac G471 (ac G472 (ac G473 (ac G474 (ac G475 (ac G476 (ac G477 (ac G478 (ac G479 (ac G480 (ac G481 (ac G482 (ac G483 (ac G484 (ac G485 (ac G486 (ac G487 (ac G488 (ac G489 (ac G490 (ac G491 (ac G492 (ac G493 (ac G494 (ac G495 (ac G496 (ac G497 (ac G498 (ac G499 (ac G500 (ac G501 (ac G502 (ac G503 (ac G504 (ac G505 (ac G506 (ac G507 (ac G508 (ac G509 (ac G510 (ac G511 (ac G512 (ac G513 (ac G514 (ac G515 (ac G516 (ac G517 (ac G518 (ac G519 (ac G520 (ac G521 all_nil))))))))))))))))))))))))))))))))))))))))))))))))))))))))))))))))))))))))))))))))))
end p17
theorem spec17_0:NatOk Try.prog (specNat (spH)) :=
 spec_of_check good (facts:=p17.facts) p17.facts_ok (anns:=[]) (plainAnns_ok _ (by kernel_rfl)) (nats:=natl18) natl18_ok (n:=3000) (by kernel_rfl)
def natl19:List Nat1:=specNat (spH)::natl18
theorem natl19_ok:∀ x∈natl19,NatOk Try.prog x:=by
 intro x hx
 rcases List.mem_cons.1 hx with rfl | hx
 ·exact spec17_0
 exact natl18_ok x hx

end
end Go.Proofs.Ytoicbojdnjcmiaa.viewHidden
