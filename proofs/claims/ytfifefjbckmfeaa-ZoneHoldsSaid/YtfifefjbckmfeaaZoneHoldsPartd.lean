/-
  ZoneHolds: contracts of functions, part 4.
-/
import Derived.Test.YtfifefjbckmfeaaRows
import Derived.Test.YtfifefjbckmfeaaNat
import Derived.WalkKit
import Derived.ProofKit
import Derived.OpenShut
import Derived.ChangeOld
import Derived.Below
import Derived.KernelRfl
import Derived.Lib.SmallJoins
import Derived.Test.YtfifefjbckmfeaaTheory
import Derived.Test.YtfifefjbckmfeaaZoneHoldsPartc
namespace Go.Proofs.Ytfifefjbckmfeaa.zoneHolds
open Go.ChangeShapes Go.WideShapes Go.ChangeAt Go.RowKit
open Go.SX
set_option linter.unusedVariables false
set_option linter.unusedSimpArgs false
set_option maxRecDepth 100000
noncomputable section
abbrev Y0:E:=.var 0
abbrev Y1:E:=.var 8
abbrev Y2:E:=.var 10
abbrev Y3:E:=.not (.cmp .lss Y2 (.fn 109 Y1))
abbrev Y4:E:=.var 18
abbrev Y5:E:=.cmp .lss (.fn 6 (.pr Y2 (.int 1))) (.fn 109 Y4)
abbrev Y6:E:=.not Y5
abbrev Y7:E:=.var 1
abbrev Y8:E:=.cmp .eql (.fn 107 (.pr Y1 (.fn 1 (.pr Y7 (.fn 6 (.pr (.fn 8 (.pr Y2 (.int 4))) (.int 1))))))) (.int (-1))
abbrev Y9:E:=.and Y8 (.not (.cmp .lss (.fn 107 (.pr Y1 (.fn 1 (.pr Y7 (.fn 6 (.pr (.fn 8 (.pr Y2 (.int 4))) (.int 1))))))) (.int 0)))
abbrev Y10:E:=.cmp .lss Y2 (.fn 9 (.pr Y7 (.int 4)))
abbrev Y11:E:=.cmp .lss Y2 (.int 0)
abbrev Y12:E:=.not Y11
abbrev Y13:E:=.cmp .lss (.int 80) (.fn 9 (.pr Y7 (.int 4)))
abbrev Y14:E:=.not Y13
abbrev Y15:E:=.ar .add .i64 Y2 (.int 1)
abbrev Y16:E:=.var 17
abbrev Y17:E:=.cmp .eql Y16 (.fn 107 (.pr Y1 (.fn 1 (.pr Y7 (.fn 6 (.pr (.fn 8 (.pr Y2 (.int 4))) (.int 1)))))))
abbrev Y18:E:=.and (.not (.cmp .lss Y16 (.int 0))) (.and Y17 Y8)
abbrev Y19:E:=.var 19
abbrev Y20:E:=.cmp .lss (.fn 6 (.pr Y2 (.int 1))) (.fn 109 Y19)
abbrev Y21:E:=.not Y20
abbrev Y22:E:=.var 16
abbrev Y23:E:=.pr Y1 Y0
abbrev Y24:E:=.pr Y22 Y23
abbrev Y25:E:=.fn 110 Y24
abbrev Y26:E:=.cmp .eql (.fn 0 Y22) Y0
abbrev Y27:E:=.cmp .eql (.fn 0 Y1) Y0
abbrev Y28:E:=.cmp .lss (.int 100) (.fn 109 Y22)
abbrev Y29:E:=.not Y28
abbrev Y30:E:=.and Y12 Y14
abbrev Y31:E:=.and Y10 Y30
abbrev Y32:E:=.and Y25 (.and Y26 Y27)
abbrev Y33:E:=.cmp .lss (.fn 1 (.pr Y7 (.fn 6 (.pr (.fn 8 (.pr Y2 (.int 4))) (.int 2))))) Y0
abbrev Y34:E:=.cmp .lss (.fn 1 (.pr Y7 (.fn 6 (.pr (.fn 8 (.pr Y2 (.int 4))) (.int 2))))) (.int 0)
abbrev Y35:E:=.not Y34
abbrev Y36:E:=.pr (.fn 1 (.pr Y7 (.fn 6 (.pr (.fn 8 (.pr Y2 (.int 4))) (.int 2))))) (.fn 1 (.pr Y7 (.fn 6 (.pr (.fn 8 (.pr Y2 (.int 4))) (.int 1)))))
abbrev Y37:E:=.pr Y1 Y36
abbrev Y38:E:=.pr Y4 Y37
abbrev Y39:E:=.pr (.fn 1 (.pr Y7 (.fn 6 (.pr (.fn 8 (.pr Y2 (.int 4))) (.int 2))))) (.int 0)
abbrev Y40:E:=.pr (.int (-1)) Y39
abbrev Y41:E:=.pr (.fn 1 (.pr Y7 (.fn 6 (.pr (.fn 8 (.pr Y2 (.int 4))) (.int 1))))) Y40
abbrev Y42:E:=.pr Y22 Y41
abbrev Y43:E:=.pr Y4 Y42
abbrev Y44:E:=.fn 111 Y43
abbrev Y45:E:=.cmp .lss (.fn 9 (.pr Y7 (.int 4))) Y2
abbrev Y46:E:=.not Y45
abbrev Y47:E:=.and Y46 Y30
abbrev Y48:E:=.and Y10 Y47
abbrev Y49:E:=.cmp .lss (.fn 9 (.pr Y7 (.int 4))) Y15
abbrev Y50:E:=.not Y49
abbrev Y51:E:=.pr (.fn 1 (.pr Y7 (.fn 6 (.pr (.fn 8 (.pr Y2 (.int 4))) (.int 1))))) (.pr Y16 Y39)
abbrev Y52:E:=.pr Y22 Y51
abbrev Y53:E:=.pr Y19 Y52
abbrev Y54:E:=.fn 111 Y53
abbrev Y55:E:=.and Y27 (.fn 106 (.pr Y1 (.var 9)))
abbrev Y56:E:=.and Y26 Y55
abbrev Y57:E:=.and Y25 Y56
abbrev Y58:E:=.pr (.int 0) (.int 0)
abbrev Y59:E:=.pr (.fn 10 (.int 0)) (.pr Y19 Y58)
abbrev Y60:E:=.fn 112 Y59
abbrev Y61:E:=.cmp .lss (.fn 7 (.pr (.fn 9 (.pr Y7 (.int 4))) Y15)) (.int 0)
abbrev Y62:E:=.not Y61
theorem loop3:LoopOk Try.prog (annC (some yC)):=loop_of_bodies rfl (by kernel_rfl) (by
 intro τ hτ
 rcases List.mem_cons.1 hτ with rfl | hτ
 ·exact body3_0
 cases hτ)
def F210:E:=(.imp (.not (.cmp .lss Y0 (.int 1))) (.cmp .eql (.mx Y0 (.int 0)) Y0))
theorem G210:Tr F210:=ii1 fun ρ p0=>by
 try simp only [smA,smW] at *
 grind
def F211:E:=(.fn 110 (.pr (.fn 5 (.pr Y0 (.fn 30 (.int 0)))) (.pr Y1 (.int 0))))
theorem G211:Tr F211:=fun ρ=>by
 unfold F211
 have:=@t110_zero ρ (.fn 5 (.pr Y0 (.fn 30 (.int 0)))) Y1 (.int 0)
 try simp only [smA,smW] at *
 grind
def F212:E:=(.imp Y3 (.not (.cmp .lss (.fn 6 (.pr Y2 (.int 1))) (.fn 109 Y1))))
theorem G212:Tr F212:=ii1 fun ρ p0=>by
 try simp only [smA,smW] at *
 grind
def F213:E:=(.imp (.and (.cmp .eql (.fn 109 Y4) (.fn 6 (.pr (.fn 109 Y1) (.int 1)))) Y3) Y6)
theorem G213:Tr F213:=ii2 fun ρ p0 p1=>by
 try simp only [smA,smW] at *
 grind
def F214:E:=(.imp Y9 Y6)
theorem G214:Tr F214:=ii2 fun ρ p0 p1=>by
 try simp only [smA,smW] at *
 grind
def F215:E:=(.imp (.and Y10 (.and Y12 (.and Y3 Y14))) (.not (.cmp .lss Y15 (.fn 109 Y1))))
theorem G215:Tr F215:=ii4 fun ρ p0 p1 p2 p3=>by
 try simp only [smA,smW] at *
 obtain ⟨a9,ea9,qa9⟩:=cs_i64 ((E.I ρ Y2) + (1))
 try simp only [ea9] at *
 grind
def F216:E:=(.imp Y18 Y21)
theorem G216:Tr F216:=ii3 fun ρ p0 p1 p2=>by
 try simp only [smA,smW] at *
 grind
def F217:E:=(.imp (.and (.cmp .eql (.fn 109 Y19) (.fn 6 (.pr (.fn 109 Y1) (.int 0)))) Y3) Y21)
theorem G217:Tr F217:=ii2 fun ρ p0 p1=>by
 try simp only [smA,smW] at *
 grind
def F218:E:=(.imp (.and (.cmp .eql (.fn 109 Y19) (.fn 6 (.pr (.fn 109 Y1) (.int (-1))))) Y3) Y21)
theorem G218:Tr F218:=ii2 fun ρ p0 p1=>by
 try simp only [smA,smW] at *
 grind
def F219:E:=(.imp (.and Y25 (.and Y26 (.and Y10 (.and Y3 (.and Y27 Y14))))) Y29)
theorem G219:Tr F219:=ii6 fun ρ p0 p1 p2 p3 p4 p5=>by
 have:=fun e1 e2=>t109_con (@t110_con ρ _ _ _ p0 e1 e2)
 try simp only [smA,smW] at *
 grind
def F220:E:=(.imp Y9 Y29)
theorem G220:Tr F220:=ii2 fun ρ p0 p1=>by
 try simp only [smA,smW] at *
 grind
def F221:E:=(.imp Y31 (.not (.cmp .lss Y15 (.int 0))))
theorem G221:Tr F221:=ii3 fun ρ p0 p1 p2=>by
 try simp only [smA,smW] at *
 obtain ⟨a9,ea9,qa9⟩:=cs_i64 ((E.I ρ Y2) + (1))
 try simp only [ea9] at *
 grind
def F222:E:=(.imp Y18 Y29)
theorem G222:Tr F222:=ii3 fun ρ p0 p1 p2=>by
 try simp only [smA,smW] at *
 grind
def F223:E:=(.imp Y32 (.fn 111 (.pr Y1 (.pr Y22 (.pr (.fn 1 (.pr Y7 (.fn 6 (.pr (.fn 8 (.pr Y2 (.int 4))) (.int 1))))) (.pr (.int (-1)) (.pr (.fn 1 (.pr Y7 (.fn 6 (.pr (.fn 8 (.pr Y2 (.int 4))) (.int 2))))) Y4)))))))
theorem G223:Tr F223:=ii3 fun ρ p0 p1 p2=>by
 have:=fun e1 e2=>@t111_same ρ Y1 _ (.int (-1)) (.fn 1 (.pr Y7 (.fn 6 (.pr (.fn 8 (.pr Y2 (.int 4))) (.int 2))))) (.fn 1 (.pr Y7 (.fn 6 (.pr (.fn 8 (.pr Y2 (.int 4))) (.int 1))))) Y4 (@t110_con ρ _ _ _ p0 e1 e2)
 try simp only [smA,smW] at *
 grind
def F224:E:=(.imp (.and Y33 (.and Y35 (.and (.fn 102 Y38) Y32))) Y44)
theorem G224:Tr F224:=ii6 fun ρ p0 p1 p2 p3 p4 p5=>by
 have:=fun e1 e2=>@t111_102 ρ _ _ _ (.int (-1)) _ _ (.int 0) (@t110_con ρ _ _ _ p3 e1 e2) p2
 try simp only [smA,smW] at *
 grind
def F225:E:=(.imp (.and Y33 (.and Y35 (.and (.fn 103 Y38) Y32))) Y44)
theorem G225:Tr F225:=ii6 fun ρ p0 p1 p2 p3 p4 p5=>by
 have:=fun e1 e2=>@t111_103 ρ _ _ _ (.int (-1)) _ _ (.int 0) (@t110_con ρ _ _ _ p3 e1 e2) p2
 try simp only [smA,smW] at *
 grind
def F226:E:=(.imp Y9 Y44)
theorem G226:Tr F226:=ii2 fun ρ p0 p1=>by
 try simp only [smA,smW] at *
 grind
def F227:E:=(.imp Y32 (.fn 111 (.pr Y1 (.pr Y22 (.pr (.fn 1 (.pr Y7 (.fn 6 (.pr (.fn 8 (.pr Y2 (.int 4))) (.int 1))))) (.pr (.int (-1)) (.pr (.int (-1)) Y4)))))))
theorem G227:Tr F227:=ii3 fun ρ p0 p1 p2=>by
 have:=fun e1 e2=>@t111_same ρ Y1 _ (.int (-1)) (.int (-1)) (.fn 1 (.pr Y7 (.fn 6 (.pr (.fn 8 (.pr Y2 (.int 4))) (.int 1))))) Y4 (@t110_con ρ _ _ _ p0 e1 e2)
 try simp only [smA,smW] at *
 grind
def F228:E:=(.imp Y9 (.fn 111 (.pr Y4 (.pr Y22 (.pr (.fn 1 (.pr Y7 (.fn 6 (.pr (.fn 8 (.pr Y2 (.int 4))) (.int 1))))) (.pr (.int (-1)) (.pr (.int (-1)) (.int 0))))))))
theorem G228:Tr F228:=ii2 fun ρ p0 p1=>by
 try simp only [smA,smW] at *
 grind
def F229:E:=(.imp Y48 Y50)
theorem G229:Tr F229:=ii4 fun ρ p0 p1 p2 p3=>by
 try simp only [smA,smW] at *
 obtain ⟨a9,ea9,qa9⟩:=cs_i64 ((E.I ρ Y2) + (1))
 try simp only [ea9] at *
 grind
def F230:E:=(.imp Y32 (.fn 111 (.pr Y1 (.pr Y22 (.pr (.fn 1 (.pr Y7 (.fn 6 (.pr (.fn 8 (.pr Y2 (.int 4))) (.int 1))))) (.pr Y16 (.pr (.fn 1 (.pr Y7 (.fn 6 (.pr (.fn 8 (.pr Y2 (.int 4))) (.int 2))))) Y19)))))))
theorem G230:Tr F230:=ii3 fun ρ p0 p1 p2=>by
 have:=fun e1 e2=>@t111_same ρ Y1 _ Y16 (.fn 1 (.pr Y7 (.fn 6 (.pr (.fn 8 (.pr Y2 (.int 4))) (.int 2))))) (.fn 1 (.pr Y7 (.fn 6 (.pr (.fn 8 (.pr Y2 (.int 4))) (.int 1))))) Y19 (@t110_con ρ _ _ _ p0 e1 e2)
 try simp only [smA,smW] at *
 grind
def F231:E:=(.imp Y18 Y54)
theorem G231:Tr F231:=ii3 fun ρ p0 p1 p2=>by
 try simp only [smA,smW] at *
 grind
def F232:E:=(.imp (.and Y17 (.and Y33 (.and Y35 (.and (.fn 105 (.pr Y19 Y37)) Y57)))) Y54)
theorem G232:Tr F232:=ii8 fun ρ p0 p1 p2 p3 p4 p5 p6 p7=>by
 have:=fun e1 e2=>@t111_105 ρ _ _ _ Y16 _ _ _ (.int 0) (@t110_con ρ _ _ _ p4 e1 e2) p7 p3
 try simp only [smA,smW] at *
 grind
def F233:E:=(.imp Y32 (.fn 111 (.pr Y1 (.pr Y22 (.pr (.fn 1 (.pr Y7 (.fn 6 (.pr (.fn 8 (.pr Y2 (.int 4))) (.int 1))))) (.pr Y16 (.pr (.int (-1)) Y19)))))))
theorem G233:Tr F233:=ii3 fun ρ p0 p1 p2=>by
 have:=fun e1 e2=>@t111_same ρ Y1 _ Y16 (.int (-1)) (.fn 1 (.pr Y7 (.fn 6 (.pr (.fn 8 (.pr Y2 (.int 4))) (.int 1))))) Y19 (@t110_con ρ _ _ _ p0 e1 e2)
 try simp only [smA,smW] at *
 grind
def F234:E:=(.imp (.and Y17 (.and (.fn 104 (.pr Y19 (.pr Y1 (.fn 1 (.pr Y7 (.fn 6 (.pr (.fn 8 (.pr Y2 (.int 4))) (.int 1)))))))) Y57)) (.fn 111 (.pr Y19 (.pr Y22 (.pr (.fn 1 (.pr Y7 (.fn 6 (.pr (.fn 8 (.pr Y2 (.int 4))) (.int 1))))) (.pr Y16 (.pr (.int (-1)) (.int 0))))))))
theorem G234:Tr F234:=ii6 fun ρ p0 p1 p2 p3 p4 p5=>by
 have:=fun e1 e2=>@t111_104 ρ _ _ _ Y16 (.int (-1)) _ _ (.int 0) (@t110_con ρ _ _ _ p2 e1 e2) p5 p1
 try simp only [smA,smW] at *
 grind
def F235:E:=(.fn 112 (.pr (.fn 10 (.int 0)) (.pr Y1 Y58)))
theorem G235:Tr F235:=fun ρ=>by
 unfold F235
 have:=@t112_zero ρ Y1 (.int 0) (.int 0) (.int 0)
 try simp only [smA,smW] at *
 grind
def F236:E:=(.fn 112 (.pr (.fn 10 (.int 0)) (.pr Y4 Y58)))
theorem G236:Tr F236:=fun ρ=>by
 unfold F236
 have:=@t112_zero ρ Y4 (.int 0) (.int 0) (.int 0)
 try simp only [smA,smW] at *
 grind
def F237:E:=(.imp Y31 (.cmp .lss (.fn 7 (.pr (.fn 9 (.pr Y7 (.int 4))) Y15)) (.fn 7 (.pr (.fn 9 (.pr Y7 (.int 4))) Y2))))
theorem G237:Tr F237:=ii3 fun ρ p0 p1 p2=>by
 try simp only [smA,smW] at *
 obtain ⟨a9,ea9,qa9⟩:=cs_i64 ((E.I ρ Y2) + (1))
 try simp only [ea9] at *
 grind
def F238:E:=(.imp Y18 Y60)
theorem G238:Tr F238:=ii3 fun ρ p0 p1 p2=>by
 try simp only [smA,smW] at *
 grind
def F239:E:=Y60
theorem G239:Tr F239:=fun ρ=>by
 unfold F239
 have:=@t112_zero ρ Y19 (.int 0) (.int 0) (.int 0)
 try simp only [smA,smW] at *
 grind
def F240:E:=(.imp (.and (.not (.cmp .lss (.fn 6 (.pr Y2 (.int 1))) (.fn 109 (.var 32)))) Y31) (.not (.cmp .lss Y15 (.fn 109 (.var 32)))))
theorem G240:Tr F240:=ii4 fun ρ p0 p1 p2 p3=>by
 try simp only [smA,smW] at *
 obtain ⟨a5,ea5,qa5⟩:=cs_i64 ((E.I ρ Y2) + (1))
 try simp only [ea5] at *
 grind
def F241:E:=(.imp Y48 Y62)
theorem G241:Tr F241:=ii4 fun ρ p0 p1 p2 p3=>by
 try simp only [smA,smW] at *
 obtain ⟨a9,ea9,qa9⟩:=cs_i64 ((E.I ρ Y2) + (1))
 try simp only [ea9] at *
 grind
def F242:E:=(.imp Y31 Y50)
theorem G242:Tr F242:=ii3 fun ρ p0 p1 p2=>by
 try simp only [smA,smW] at *
 obtain ⟨a5,ea5,qa5⟩:=cs_i64 ((E.I ρ Y2) + (1))
 try simp only [ea5] at *
 grind
def F243:E:=(.imp Y31 Y62)
theorem G243:Tr F243:=ii3 fun ρ p0 p1 p2=>by
 try simp only [smA,smW] at *
 obtain ⟨a5,ea5,qa5⟩:=cs_i64 ((E.I ρ Y2) + (1))
 try simp only [ea5] at *
 grind
namespace l4
def facts:List E:=[F210,F211,F93,F212,F213,F214,F215,F216,F217,F218,F219,F220,F221,F222,F223,F224,F225,F226,F227,F228,F229,F230,F231,F232,F233,F234,F235,F236,F237,F238,F239,F240,F241,F242,F243]
theorem facts_ok:∀ e∈facts,Tr e:=(ac G210 (ac G211 (ac G93 (ac G212 (ac G213 (ac G214 (ac G215 (ac G216 (ac G217 (ac G218 (ac G219 (ac G220 (ac G221 (ac G222 (ac G223 (ac G224 (ac G225 (ac G226 (ac G227 (ac G228 (ac G229 (ac G230 (ac G231 (ac G232 (ac G233 (ac G234 (ac G235 (ac G236 (ac G237 (ac G238 (ac G239 (ac G240 (ac G241 (ac G242 (ac G243 all_nil)))))))))))))))))))))))))))))))))))
end l4
def annsU4:List Ann:=(annB (some yB))::(annC (some yC))::[]
theorem annsU4_ok:∀ x∈annsU4,LoopOk Try.prog x:=by
 intro x hx
 rcases List.mem_cons.1 hx with rfl | hx
 ·exact loop0
 rcases List.mem_cons.1 hx with rfl | hx
 ·exact loop3
 exact plainAnns_ok [] (by kernel_rfl) x hx
theorem body4_0_0:BodyOk Try.prog (annG (some yG)) yG (tG).less (tG).tmps { (tG).st with pc:=(tG).st.pc } :=
 body_of_check good (facts:=l4.facts) l4.facts_ok (anns:=annsU4) annsU4_ok (nats:=natl17) natl17_ok (n:=3000) (by kernel_rfl) (by kernel_rfl)
theorem body4_0:BodyOk Try.prog (annG (some yG)) yG (tG).less (tG).tmps (tG).st:=body4_0_0
end
end Go.Proofs.Ytfifefjbckmfeaa.zoneHolds
