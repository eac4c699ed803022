/-
  MetaHolds: contracts of functions, part 4.
-/
import Derived.Test.YtmngplmblanhdaaRows
import Derived.Test.YtmngplmblanhdaaNat
import Derived.WalkKit
import Derived.ProofKit
import Derived.OpenShut
import Derived.ChangeOld
import Derived.Below
import Derived.KernelRfl
import Derived.Lib.SmallJoins
import Derived.Test.YtmngplmblanhdaaTheory
import Derived.Test.YtmngplmblanhdaaMetaHoldsPartc
namespace Go.Proofs.Ytmngplmblanhdaa.metaHolds
open Go.ChangeShapes Go.WideShapes Go.ChangeAt Go.RowKit
open Go.SX
set_option linter.unusedVariables false
set_option linter.unusedSimpArgs false
set_option maxRecDepth 100000
noncomputable section
abbrev Y0:E:=.var 12
abbrev Y1:E:=.not (.cmp .lss Y0 (.int 0))
abbrev Y2:E:=.var 1
abbrev Y3:E:=.cmp .lss Y0 (.fn 9 (.pr Y2 (.int 3)))
abbrev Y4:E:=.cmp .lss (.int 200) (.fn 9 (.pr Y2 (.int 3)))
abbrev Y5:E:=.not Y4
abbrev Y6:E:=.and Y3 Y5
abbrev Y7:E:=.and Y1 Y6
abbrev Y8:E:=.ar .add .i64 Y0 (.int 1)
abbrev Y9:E:=.var 0
abbrev Y10:E:=.pr Y2 (.pr Y9 (.fn 6 (.pr Y0 (.int 1))))
abbrev Y11:E:=.pr (.var 10) Y10
abbrev Y12:E:=.fn 130 Y11
abbrev Y13:E:=.cmp .eql (.var 11) (.fn 7 (.pr (.fn 7 (.pr (.fn 9 (.pr Y2 (.int 3))) (.int 1))) Y0))
abbrev Y14:E:=.cmp .eql (.var 14) (.fn 6 (.pr (.var 11) (.fn 9 (.pr (.fn 24 (.pr (.pr (.int 3) Y2) (.pr Y0 (.pr Y8 (.fn 22 Y2))))) (.int 3)))))
abbrev Y15:E:=.and Y5 (.and Y1 Y14)
abbrev Y16:E:=.ar .sub .i64 Y0 (.int 1)
abbrev Y17:E:=.and (.not (.cmp .lss Y0 (.int (-1)))) Y5
abbrev Y18:E:=.and Y3 Y17
abbrev Y19:E:=.and Y1 Y18
abbrev Y20:E:=.var 24
abbrev Y21:E:=.var 31
abbrev Y22:E:=.var 34
abbrev Y23:E:=.var 33
abbrev Y24:E:=.cmp .eql Y22 (.fn 105 (.pr Y20 (.pr Y21 Y23)))
abbrev Y25:E:=.cmp .lss Y23 Y9
abbrev Y26:E:=.iff (.var 37) (.fn 119 (.pr Y20 (.pr Y21 Y23)))
abbrev Y27:E:=.var 32
abbrev Y28:E:=.cmp .lss Y23 (.int 0)
abbrev Y29:E:=.not Y28
abbrev Y30:E:=.fn 127 (.pr Y20 (.pr Y21 Y23))
abbrev Y31:E:=.iff Y27 Y30
abbrev Y32:E:=.cmp .lss Y21 (.int 0)
abbrev Y33:E:=.not Y32
abbrev Y34:E:=.cmp .lss (.int 20) Y9
abbrev Y35:E:=.not Y34
abbrev Y36:E:=.and Y33 Y35
abbrev Y37:E:=.and Y31 Y36
abbrev Y38:E:=.and Y29 Y37
abbrev Y39:E:=.ar .add .i64 Y23 (.int 1)
abbrev Y40:E:=.pr Y20 (.pr Y21 Y39)
abbrev Y41:E:=.fn 127 Y40
abbrev Y42:E:=.cmp .lss Y21 Y9
abbrev Y43:E:=.cmp .lss Y9 Y23
abbrev Y44:E:=.not Y43
abbrev Y45:E:=.pr Y9 Y9
abbrev Y46:E:=.and Y42 Y36
abbrev Y47:E:=.ar .add .i64 Y21 (.int 1)
abbrev Y48:E:=.and Y44 Y46
abbrev Y49:E:=.and (.not Y25) Y48
abbrev Y50:E:=.and Y29 Y35
abbrev Y51:E:=.and Y25 Y50
abbrev Y52:E:=.and Y44 Y50
abbrev Y53:E:=.and Y25 Y52
abbrev Y54:E:=.var 45
abbrev Y55:E:=.cmp .lss Y54 (.int 0)
abbrev Y56:E:=.not Y55
abbrev Y57:E:=.var 43
abbrev Y58:E:=.cmp .lss Y54 Y57
abbrev Y59:E:=.var 42
abbrev Y60:E:=.cmp .eql Y57 (.fn 0 Y59)
abbrev Y61:E:=.var 40
abbrev Y62:E:=.pr Y61 Y45
abbrev Y63:E:=.pr Y59 Y62
abbrev Y64:E:=.fn 121 Y63
abbrev Y65:E:=.cmp .lss Y9 (.int 2)
abbrev Y66:E:=.not Y65
abbrev Y67:E:=.and Y64 Y66
abbrev Y68:E:=.and Y60 Y67
abbrev Y69:E:=.and Y58 Y68
abbrev Y70:E:=.and Y56 Y69
abbrev Y71:E:=.var 49
abbrev Y72:E:=.cmp .lss Y71 (.int 0)
abbrev Y73:E:=.not Y72
abbrev Y74:E:=.cmp .lss Y71 Y54
abbrev Y75:E:=.and Y74 Y69
abbrev Y76:E:=.and Y73 Y75
abbrev Y77:E:=.pr Y61 (.pr Y59 Y54)
abbrev Y78:E:=.fn 129 Y77
abbrev Y79:E:=.iff (.var 46) Y78
abbrev Y80:E:=.cmp .lss Y54 Y71
abbrev Y81:E:=.not Y80
abbrev Y82:E:=.cmp .lss (.int 20) Y57
abbrev Y83:E:=.not Y82
abbrev Y84:E:=.and Y58 Y83
abbrev Y85:E:=.and Y73 Y84
abbrev Y86:E:=.and Y81 Y85
abbrev Y87:E:=.and (.not Y74) Y86
abbrev Y88:E:=.ar .add .i64 Y54 (.int 1)
abbrev Y89:E:=.pr (.fn 1 (.pr Y59 Y54)) (.fn 1 (.pr Y59 Y71))
abbrev Y90:E:=.pr Y61 Y89
abbrev Y91:E:=.fn 119 Y90
abbrev Y92:E:=.iff (.var 50) Y91
abbrev Y93:E:=.var 48
abbrev Y94:E:=.pr Y59 (.pr Y54 Y71)
abbrev Y95:E:=.pr Y61 Y94
abbrev Y96:E:=.fn 128 Y95
abbrev Y97:E:=.and Y78 Y96
abbrev Y98:E:=.iff Y93 Y97
abbrev Y99:E:=.and Y83 Y60
abbrev Y100:E:=.and Y58 Y99
abbrev Y101:E:=.and Y98 Y100
abbrev Y102:E:=.and Y73 Y101
abbrev Y103:E:=.ar .add .i64 Y71 (.int 1)
abbrev Y104:E:=.pr Y59 (.pr Y54 Y103)
abbrev Y105:E:=.pr Y61 Y104
abbrev Y106:E:=.fn 128 Y105
abbrev Y107:E:=.and Y78 Y106
abbrev Y108:E:=.and Y74 Y85
abbrev Y109:E:=.and Y74 Y86
def F165:E:=(.imp Y7 (.not (.cmp .lss Y8 (.int 0))))
theorem G165:Tr F165:=ii3 fun ρ p0 p1 p2=>by
 try simp only [smA,smW] at *
 obtain ⟨a8,ea8,qa8⟩:=cs_i64 ((E.I ρ Y0) + (1))
 try simp only [ea8] at *
 grind
def F166:E:=(.imp (.and (.cmp .lss Y0 (.int 0)) Y12) (.fn 118 (.pr (.var 10) (.pr Y2 Y9))))
theorem G166:Tr F166:=ii2 fun ρ p0 p1=>by
 have:=@t118_end ρ _ _ _ _ p1
 try simp only [smA,smW] at *
 grind
def F167:E:=(.imp Y7 (.not (.cmp .lss (.fn 9 (.pr Y2 (.int 3))) Y8)))
theorem G167:Tr F167:=ii3 fun ρ p0 p1 p2=>by
 try simp only [smA,smW] at *
 obtain ⟨a8,ea8,qa8⟩:=cs_i64 ((E.I ρ Y0) + (1))
 try simp only [ea8] at *
 grind
def F168:E:=(.imp Y7 (.not (.cmp .lss Y8 Y0)))
theorem G168:Tr F168:=ii3 fun ρ p0 p1 p2=>by
 try simp only [smA,smW] at *
 obtain ⟨a8,ea8,qa8⟩:=cs_i64 ((E.I ρ Y0) + (1))
 try simp only [ea8] at *
 grind
def F169:E:=(.imp Y7 (.not (.cmp .lss (.int 1000) (.fn 9 (.pr (.fn 24 (.pr (.pr (.int 3) Y2) (.pr Y0 (.pr Y8 (.fn 22 Y2))))) (.int 3))))))
theorem G169:Tr F169:=ii3 fun ρ p0 p1 p2=>by
 have:=@wrap_add ρ Y0 (.int 1)
 have:=@cut_rw ρ Y2 Y0 Y8 (.fn 22 Y2)
 try simp only [smA,smW] at *
 grind
def F170:E:=(.imp (.and Y1 (.and Y3 (.and (.cmp .eql (.fn 104 (.pr Y2 (.pr (.fn 9 (.pr Y2 (.int 3))) Y9))) (.int 0)) Y5))) (.not (.cmp .eql (.fn 104 (.pr (.fn 24 (.pr (.pr (.int 3) Y2) (.pr Y0 (.pr Y8 (.fn 22 Y2))))) (.pr (.fn 9 (.pr (.fn 24 (.pr (.pr (.int 3) Y2) (.pr Y0 (.pr Y8 (.fn 22 Y2))))) (.int 3))) Y9))) (.int 2))))
theorem G170:Tr F170:=ii4 fun ρ p0 p1 p2 p3=>by
 have:=@wrap_add ρ Y0 (.int 1)
 have:=@t104_cut ρ Y2 Y9 Y0 Y8 (.fn 22 Y2) (.fn 9 (.pr (.fn 24 (.pr (.pr (.int 3) Y2) (.pr Y0 (.pr Y8 (.fn 22 Y2))))) (.int 3)))
 try simp only [smA,smW] at *
 grind
def F171:E:=(.imp (.and Y13 (.and Y3 Y15)) (.not (.cmp .lss (.var 14) (.int 0))))
theorem G171:Tr F171:=ii5 fun ρ p0 p1 p2 p3 p4=>by
 have:=@wrap_add ρ Y0 (.int 1)
 have:=@cut_rw ρ Y2 Y0 Y8 (.fn 22 Y2)
 try simp only [smA,smW] at *
 grind
def F172:E:=(.imp (.and Y13 (.and Y3 (.and (.not (.cmp .lss (.int 1000) (.var 11))) Y15))) (.not (.cmp .lss (.int 1000) (.var 14))))
theorem G172:Tr F172:=ii6 fun ρ p0 p1 p2 p3 p4 p5=>by
 have:=@wrap_add ρ Y0 (.int 1)
 have:=@cut_rw ρ Y2 Y0 Y8 (.fn 22 Y2)
 try simp only [smA,smW] at *
 grind
def F173:E:=(.imp (.and Y1 (.and (.fn 103 (.pr (.var 13) (.pr (.var 10) (.pr (.fn 24 (.pr (.pr (.int 3) Y2) (.pr Y0 (.pr Y8 (.fn 22 Y2))))) (.pr (.fn 9 (.pr (.fn 24 (.pr (.pr (.int 3) Y2) (.pr Y0 (.pr Y8 (.fn 22 Y2))))) (.int 3))) Y9))))) (.and Y3 (.and Y12 Y5)))) (.fn 130 (.pr (.var 13) (.pr Y2 (.pr Y9 (.fn 6 (.pr Y16 (.int 1))))))))
theorem G173:Tr F173:=ii5 fun ρ p0 p1 p2 p3 p4=>by
 have:=@wrap_add ρ Y0 (.int 1)
 have:=@wrap_sub ρ Y0 (.int 1)
 have:=@cut_rw ρ Y2 Y0 Y8 (.fn 22 Y2)
 have:=fun e1 e2 e3 e4=>@t130_step ρ Y2 _ _ Y0 _ Y8 _ (.fn 6 (.pr Y16 (.int 1))) (.fn 22 Y2) _ e1 e2 e3 p3 e4 p1
 try simp only [smA,smW] at *
 grind
def F174:E:=(.imp Y19 (.not (.cmp .lss Y16 (.int (-1)))))
theorem G174:Tr F174:=ii4 fun ρ p0 p1 p2 p3=>by
 try simp only [smA,smW] at *
 obtain ⟨a12,ea12,qa12⟩:=cs_i64 ((E.I ρ Y0) - (1))
 try simp only [ea12] at *
 grind
def F175:E:=(.imp Y7 (.cmp .lss Y16 (.fn 9 (.pr Y2 (.int 3)))))
theorem G175:Tr F175:=ii3 fun ρ p0 p1 p2=>by
 try simp only [smA,smW] at *
 obtain ⟨a12,ea12,qa12⟩:=cs_i64 ((E.I ρ Y0) - (1))
 try simp only [ea12] at *
 grind
def F176:E:=(.imp (.and Y1 (.and Y14 (.and Y13 Y6))) (.cmp .eql (.var 14) (.fn 7 (.pr (.fn 7 (.pr (.fn 9 (.pr Y2 (.int 3))) (.int 1))) Y16))))
theorem G176:Tr F176:=ii5 fun ρ p0 p1 p2 p3 p4=>by
 have:=@wrap_add ρ Y0 (.int 1)
 have:=@cut_rw ρ Y2 Y0 Y8 (.fn 22 Y2)
 try simp only [smA,smW] at *
 obtain ⟨a12,ea12,qa12⟩:=cs_i64 ((E.I ρ Y0) - (1))
 try simp only [ea12] at *
 grind
def F177:E:=(.imp Y7 (.cmp .lss (.fn 6 (.pr Y16 (.int 1))) (.fn 6 (.pr Y0 (.int 1)))))
theorem G177:Tr F177:=ii3 fun ρ p0 p1 p2=>by
 try simp only [smA,smW] at *
 obtain ⟨a12,ea12,qa12⟩:=cs_i64 ((E.I ρ Y0) - (1))
 try simp only [ea12] at *
 grind
def F178:E:=(.imp Y19 (.not (.cmp .lss (.fn 6 (.pr Y16 (.int 1))) (.int 0))))
theorem G178:Tr F178:=ii4 fun ρ p0 p1 p2 p3=>by
 try simp only [smA,smW] at *
 obtain ⟨a12,ea12,qa12⟩:=cs_i64 ((E.I ρ Y0) - (1))
 try simp only [ea12] at *
 grind
namespace l0
def facts:List E:=[F165,F166,F167,F168,F169,F170,F171,F172,F173,F174,F175,F176,F177,F178]
theorem facts_ok:∀ e∈facts,Tr e:=(ac G165 (ac G166 (ac G167 (ac G168 (ac G169 (ac G170 (ac G171 (ac G172 (ac G173 (ac G174 (ac G175 (ac G176 (ac G177 (ac G178 all_nil))))))))))))))
end l0
theorem body0_0_0:BodyOk Try.prog (annL0 (some yL0)) yL0 (tL0).less (tL0).tmps { (tL0).st with pc:=(tL0).st.pc } :=
 body_of_check good (facts:=l0.facts) l0.facts_ok (anns:=[]) (plainAnns_ok _ (by kernel_rfl)) (nats:=natl13) natl13_ok (n:=3000) (by kernel_rfl) (by kernel_rfl)
theorem body0_0:BodyOk Try.prog (annL0 (some yL0)) yL0 (tL0).less (tL0).tmps (tL0).st:=body0_0_0
theorem loop0:LoopOk Try.prog (annL0 (some yL0)):=loop_of_bodies rfl (by kernel_rfl) (by
 intro τ hτ
 rcases List.mem_cons.1 hτ with rfl | hτ
 ·exact body0_0
 cases hτ)
def F179:E:=(.iff (.bool true) (.fn 127 (.pr Y20 (.pr Y21 (.int 0)))))
theorem G179:Tr F179:=fun ρ=>by
 unfold F179
 have:=@t127_zero ρ Y20 Y21 (.int 0)
 try simp only [smA,smW] at *
 grind
def F180:E:=(.imp (.and Y24 (.and (.cmp .eql (.var 36) (.fn 105 (.pr (.var 26) (.pr Y21 Y23)))) (.and (.fn 118 (.pr (.var 26) (.pr Y2 Y9))) (.fn 118 (.pr Y20 (.pr Y2 Y9)))))) (.cmp .eql Y22 (.var 36)))
theorem G180:Tr F180:=ii4 fun ρ p0 p1 p2 p3=>by
 have:=@t118_rate ρ _ _ _ Y21 Y23 _ p2 p3
 try simp only [smA,smW] at *
 try simp only [ea18] at *
 grind
def F181:E:=(.imp (.and Y25 (.and Y26 (.and Y27 (.and (.not (.var 37)) Y38)))) (.iff (.cmp .eql Y21 Y23) Y41))
theorem G181:Tr F181:=ii8 fun ρ p0 p1 p2 p3 p4 p5 p6 p7=>by
 have:=@wrap_add ρ Y23 (.int 1)
 have:=@t127_step ρ Y20 Y21 Y23 Y39
 try simp only [smA,smW] at *
 try simp only [ea18] at *
 grind
def F182:E:=(.imp (.and Y25 (.and Y26 (.and Y27 (.and (.var 37) Y38)))) (.iff (.bool true) Y41))
theorem G182:Tr F182:=ii8 fun ρ p0 p1 p2 p3 p4 p5 p6 p7=>by
 have:=@wrap_add ρ Y23 (.int 1)
 have:=@t127_step ρ Y20 Y21 Y23 Y39
 try simp only [smA,smW] at *
 try simp only [ea18] at *
 grind
def F183:E:=(.imp (.and Y25 (.and (.not Y27) Y38)) (.iff (.bool false) Y41))
theorem G183:Tr F183:=ii6 fun ρ p0 p1 p2 p3 p4 p5=>by
 have:=@wrap_add ρ Y23 (.int 1)
 have:=@t127_step ρ Y20 Y21 Y23 Y39
 try simp only [smA,smW] at *
 try simp only [ea18] at *
 grind
def F184:E:=(.imp (.and Y25 (.and (.not (.cmp .lss (.int 1000) Y22)) (.and (.not (.cmp .lss Y22 (.int 0))) (.and Y24 (.and (.not (.cmp .lss (.int 1000) (.var 35))) (.and (.not (.cmp .lss (.var 35) (.int 0))) (.and (.cmp .eql (.var 35) (.fn 105 (.pr Y20 (.pr Y23 Y21)))) (.and (.not (.cmp .eql (.ar .add .i64 Y22 (.var 35)) (.int 1000))) (.and Y29 (.and Y31 (.and Y42 (.and Y33 (.and (.fn 117 (.pr Y20 (.var 25))) (.fn 101 (.pr Y20 Y9))))))))))))))) (.cmp .eql (.ar .add .i64 Y22 (.var 35)) (.int 999)))
theorem G184:Tr F184:=ii14 fun ρ p0 p1 p2 p3 p4 p5 p6 p7 p8 p9 p10 p11 p12 p13=>by
 have:=@t105_sum ρ _ Y21 Y23 _ _ p12 p13
 try simp only [smA,smW] at *
 obtain ⟨a18,ea18,qa18⟩:=cs_i64 ((E.I ρ Y22) + (E.I ρ (.var 35)))
 try simp only [ea18] at *
 grind
def F185:E:=(.imp (.and Y44 (.and Y31 (.and Y42 (.and Y33 (.and (.fn 121 (.pr (.var 28) (.pr Y20 Y45))) (.and (.not Y25) (.and Y27 (.iff Y22 (.fn 134 (.pr (.var 28) (.fn 23 (.pr Y21 (.fn 10 (.int 0)))))))))))))) Y22)
theorem G185:Tr F185:=ii8 fun ρ p0 p1 p2 p3 p4 p5 p6 p7=>by
 have:=fun e e1 e2 e3=>@t127_top ρ _ Y20 Y21 _ Y23 (.int 0) e e1 e2 e3 p4
 try simp only [smA,smW] at *
 grind
def F186:E:=(.imp Y46 (.not (.cmp .lss Y47 (.int 0))))
theorem G186:Tr F186:=ii3 fun ρ p0 p1 p2=>by
 try simp only [smA,smW] at *
 obtain ⟨a12,ea12,qa12⟩:=cs_i64 ((E.I ρ Y21) + (1))
 try simp only [ea12] at *
 grind
def F187:E:=(.imp Y49 (.not (.cmp .lss Y9 Y47)))
theorem G187:Tr F187:=ii5 fun ρ p0 p1 p2 p3 p4=>by
 try simp only [smA,smW] at *
 obtain ⟨a12,ea12,qa12⟩:=cs_i64 ((E.I ρ Y21) + (1))
 try simp only [ea12] at *
 grind
def F188:E:=(.imp Y51 (.not (.cmp .lss Y39 (.int 0))))
theorem G188:Tr F188:=ii3 fun ρ p0 p1 p2=>by
 try simp only [smA,smW] at *
 try simp only [ea18] at *
 obtain ⟨a19,ea19,qa19⟩:=cs_i64 ((E.I ρ Y23) + (1))
 try simp only [ea19] at *
 grind
def F189:E:=(.imp Y46 (.cmp .lss (.fn 7 (.pr Y9 Y47)) (.fn 7 (.pr Y9 Y21))))
theorem G189:Tr F189:=ii3 fun ρ p0 p1 p2=>by
 try simp only [smA,smW] at *
 obtain ⟨a12,ea12,qa12⟩:=cs_i64 ((E.I ρ Y21) + (1))
 try simp only [ea12] at *
 grind
def F190:E:=(.imp Y53 (.not (.cmp .lss Y9 Y39)))
theorem G190:Tr F190:=ii4 fun ρ p0 p1 p2 p3=>by
 try simp only [smA,smW] at *
 try simp only [ea18] at *
 obtain ⟨a19,ea19,qa19⟩:=cs_i64 ((E.I ρ Y23) + (1))
 try simp only [ea19] at *
 grind
def F191:E:=(.imp Y49 (.not (.cmp .lss (.fn 7 (.pr Y9 Y47)) (.int 0))))
theorem G191:Tr F191:=ii5 fun ρ p0 p1 p2 p3 p4=>by
 try simp only [smA,smW] at *
 obtain ⟨a12,ea12,qa12⟩:=cs_i64 ((E.I ρ Y21) + (1))
 try simp only [ea12] at *
 grind
def F192:E:=(.imp Y51 (.cmp .lss (.fn 7 (.pr Y9 Y39)) (.fn 7 (.pr Y9 Y23))))
theorem G192:Tr F192:=ii3 fun ρ p0 p1 p2=>by
 try simp only [smA,smW] at *
 try simp only [ea18] at *
 obtain ⟨a19,ea19,qa19⟩:=cs_i64 ((E.I ρ Y23) + (1))
 try simp only [ea19] at *
 grind
def F193:E:=(.imp Y53 (.not (.cmp .lss (.fn 7 (.pr Y9 Y39)) (.int 0))))
theorem G193:Tr F193:=ii4 fun ρ p0 p1 p2 p3=>by
 try simp only [smA,smW] at *
 try simp only [ea18] at *
 obtain ⟨a19,ea19,qa19⟩:=cs_i64 ((E.I ρ Y23) + (1))
 try simp only [ea19] at *
 grind
namespace l1
def facts:List E:=[F179,F180,F181,F182,F183,F184,F185,F186,F187,F188,F189,F190,F191,F192,F193]
theorem facts_ok:∀ e∈facts,Tr e:=(ac G179 (ac G180 (ac G181 (ac G182 (ac G183 (ac G184 (ac G185 (ac G186 (ac G187 (ac G188 (ac G189 (ac G190 (ac G191 (ac G192 (ac G193 all_nil)))))))))))))))
end l1
theorem body1_0_0:BodyOk Try.prog (annL2 (some yL2)) yL2 (tL2).less (tL2).tmps { (tL2).st with pc:=(tL2).st.pc } :=
 body_of_check good (facts:=l1.facts) l1.facts_ok (anns:=[annL4]) (plainAnns_ok _ (by kernel_rfl)) (nats:=natl13) natl13_ok (n:=3000) (by kernel_rfl) (by kernel_rfl)
theorem body1_0:BodyOk Try.prog (annL2 (some yL2)) yL2 (tL2).less (tL2).tmps (tL2).st:=body1_0_0
theorem loop1:LoopOk Try.prog (annL2 (some yL2)):=loop_of_bodies rfl (by kernel_rfl) (by
 intro τ hτ
 rcases List.mem_cons.1 hτ with rfl | hτ
 ·exact body1_0
 cases hτ)
def F194:E:=(.imp Y70 (.not (.cmp .lss (.fn 1 (.pr Y59 Y54)) (.int 0))))
theorem G194:Tr F194:=ii5 fun ρ p0 p1 p2 p3 p4=>by
 have:=fun e1 e2=>@t121_elem ρ _ _ _ _ p3 e1 e2 Y54
 try simp only [smA,smW] at *
 grind
def F195:E:=(.imp Y70 (.cmp .lss (.fn 1 (.pr Y59 Y54)) Y9))
theorem G195:Tr F195:=ii5 fun ρ p0 p1 p2 p3 p4=>by
 have:=fun e1 e2=>@t121_elem ρ _ _ _ _ p3 e1 e2 Y54
 try simp only [smA,smW] at *
 grind
def F196:E:=(.imp Y76 (.not (.cmp .lss (.fn 1 (.pr Y59 Y71)) (.int 0))))
theorem G196:Tr F196:=ii6 fun ρ p0 p1 p2 p3 p4 p5=>by
 have:=fun e1 e2=>@t121_elem ρ _ _ _ _ p4 e1 e2 Y71
 try simp only [smA,smW] at *
 grind
def F197:E:=(.imp Y76 (.cmp .lss (.fn 1 (.pr Y59 Y71)) Y9))
theorem G197:Tr F197:=ii6 fun ρ p0 p1 p2 p3 p4 p5=>by
 have:=fun e1 e2=>@t121_elem ρ _ _ _ _ p4 e1 e2 Y71
 try simp only [smA,smW] at *
 grind
def F198:E:=(.imp (.and (.cmp .eql (.var 47) (.fn 122 (.pr Y61 (.pr (.fn 1 (.pr Y59 Y54)) Y9)))) (.and (.cmp .lss (.int 1) Y57) (.and Y58 (.and Y56 (.and (.not (.cmp .lss Y9 Y57)) (.and Y60 (.and Y64 (.and (.fn 117 (.pr Y61 (.var 41))) (.fn 101 (.pr Y61 Y9)))))))))) (.not (.cmp .lss (.int 500) (.var 47))))
theorem G198:Tr F198:=ii9 fun ρ p0 p1 p2 p3 p4 p5 p6 p7 p8=>by
 have:=@t122_top ρ _ _ Y54 _ _ p6 p7 p8
 try simp only [smA,smW] at *
 grind
def F199:E:=(.imp Y79 (.iff (.var 46) (.and Y78 (.fn 128 (.pr Y61 (.pr Y59 (.pr Y54 (.int 0))))))))
theorem G199:Tr F199:=ii1 fun ρ p0=>by
 have:=@t128_zero ρ Y59 Y61 Y54 (.int 0)
 try simp only [smA,smW] at *
 grind
def F200:E:=(.imp (.and (.not Y58) (.and Y79 (.not (.cmp .lss Y57 Y54)))) (.iff (.var 46) (.fn 129 (.pr Y61 (.pr Y59 Y57)))))
theorem G200:Tr F200:=ii3 fun ρ p0 p1 p2=>by
 have:=@t129_congr ρ Y59 Y61 Y54 Y57
 try simp only [smA,smW] at *
 grind
def F201:E:=(.imp (.and Y74 Y58) (.cmp .lss Y71 Y57))
theorem G201:Tr F201:=ii2 fun ρ p0 p1=>by
 try simp only [smA,smW] at *
 grind
def F202:E:=(.imp Y87 (.not (.cmp .lss Y88 (.int 0))))
theorem G202:Tr F202:=ii5 fun ρ p0 p1 p2 p3 p4=>by
 try simp only [smA,smW] at *
 obtain ⟨a8,ea8,qa8⟩:=cs_i64 ((E.I ρ Y54) + (1))
 try simp only [ea8] at *
 grind
def F203:E:=(.imp (.and Y74 (.and Y92 (.and (.iff (.var 51) (.fn 119 (.pr Y61 (.pr (.fn 1 (.pr Y59 Y71)) (.fn 1 (.pr Y59 Y54)))))) (.and Y93 (.and (.not (.var 50)) Y102))))) (.iff (.var 51) Y107))
theorem G203:Tr F203:=ii10 fun ρ p0 p1 p2 p3 p4 p5 p6 p7 p8 p9=>by
 have:=@wrap_add ρ Y71 (.int 1)
 have:=@t128_step ρ Y59 Y61 Y54 Y103 Y71
 try simp only [smA,smW] at *
 grind
def F204:E:=(.imp (.and Y74 (.and Y92 (.and Y93 (.and (.var 50) Y102)))) (.iff (.bool true) Y107))
theorem G204:Tr F204:=ii9 fun ρ p0 p1 p2 p3 p4 p5 p6 p7 p8=>by
 have:=@wrap_add ρ Y71 (.int 1)
 have:=@t128_step ρ Y59 Y61 Y54 Y103 Y71
 try simp only [smA,smW] at *
 grind
def F205:E:=(.imp (.and Y74 (.and (.not Y93) Y102)) (.iff (.bool false) Y107))
theorem G205:Tr F205:=ii7 fun ρ p0 p1 p2 p3 p4 p5 p6=>by
 have:=@wrap_add ρ Y71 (.int 1)
 have:=@t128_step ρ Y59 Y61 Y54 Y103 Y71
 try simp only [smA,smW] at *
 grind
def F206:E:=(.imp Y87 (.not (.cmp .lss Y57 Y88)))
theorem G206:Tr F206:=ii5 fun ρ p0 p1 p2 p3 p4=>by
 try simp only [smA,smW] at *
 obtain ⟨a8,ea8,qa8⟩:=cs_i64 ((E.I ρ Y54) + (1))
 try simp only [ea8] at *
 grind
def F207:E:=(.imp Y108 (.not (.cmp .lss Y103 (.int 0))))
theorem G207:Tr F207:=ii4 fun ρ p0 p1 p2 p3=>by
 try simp only [smA,smW] at *
 obtain ⟨a8,ea8,qa8⟩:=cs_i64 ((E.I ρ Y71) + (1))
 try simp only [ea8] at *
 grind
def F208:E:=(.imp (.and (.not Y74) (.and Y81 (.and Y73 (.and Y98 (.and Y58 (.and Y56 Y83)))))) (.iff Y93 (.fn 129 (.pr Y61 (.pr Y59 Y88)))))
theorem G208:Tr F208:=ii7 fun ρ p0 p1 p2 p3 p4 p5 p6=>by
 have:=@wrap_add ρ Y54 (.int 1)
 have:=@t129_step ρ Y59 Y61 Y54 Y88 Y71
 try simp only [smA,smW] at *
 grind
def F209:E:=(.imp Y109 (.not (.cmp .lss Y54 Y103)))
theorem G209:Tr F209:=ii5 fun ρ p0 p1 p2 p3 p4=>by
 try simp only [smA,smW] at *
 obtain ⟨a8,ea8,qa8⟩:=cs_i64 ((E.I ρ Y71) + (1))
 try simp only [ea8] at *
 grind
def F210:E:=(.imp Y87 (.cmp .lss (.fn 7 (.pr Y57 Y88)) (.fn 7 (.pr Y57 Y54))))
theorem G210:Tr F210:=ii5 fun ρ p0 p1 p2 p3 p4=>by
 try simp only [smA,smW] at *
 obtain ⟨a8,ea8,qa8⟩:=cs_i64 ((E.I ρ Y54) + (1))
 try simp only [ea8] at *
 grind
def F211:E:=(.imp Y108 (.cmp .lss (.fn 7 (.pr Y54 Y103)) (.fn 7 (.pr Y54 Y71))))
theorem G211:Tr F211:=ii4 fun ρ p0 p1 p2 p3=>by
 try simp only [smA,smW] at *
 obtain ⟨a8,ea8,qa8⟩:=cs_i64 ((E.I ρ Y71) + (1))
 try simp only [ea8] at *
 grind
def F212:E:=(.imp Y87 (.not (.cmp .lss (.fn 7 (.pr Y57 Y88)) (.int 0))))
theorem G212:Tr F212:=ii5 fun ρ p0 p1 p2 p3 p4=>by
 try simp only [smA,smW] at *
 obtain ⟨a8,ea8,qa8⟩:=cs_i64 ((E.I ρ Y54) + (1))
 try simp only [ea8] at *
 grind
def F213:E:=(.imp Y109 (.not (.cmp .lss (.fn 7 (.pr Y54 Y103)) (.int 0))))
theorem G213:Tr F213:=ii5 fun ρ p0 p1 p2 p3 p4=>by
 try simp only [smA,smW] at *
 obtain ⟨a8,ea8,qa8⟩:=cs_i64 ((E.I ρ Y71) + (1))
 try simp only [ea8] at *
 grind
namespace l2
def facts:List E:=[F194,F195,F196,F197,F198,F199,F200,F201,F202,F203,F204,F205,F206,F207,F208,F209,F210,F211,F212,F213]
theorem facts_ok:∀ e∈facts,Tr e:=(ac G194 (ac G195 (ac G196 (ac G197 (ac G198 (ac G199 (ac G200 (ac G201 (ac G202 (ac G203 (ac G204 (ac G205 (ac G206 (ac G207 (ac G208 (ac G209 (ac G210 (ac G211 (ac G212 (ac G213 all_nil))))))))))))))))))))
end l2
theorem body2_0_0:BodyOk Try.prog (annL6 (some yL6)) yL6 (tL6).less (tL6).tmps { (tL6).st with pc:=(tL6).st.pc } :=
 body_of_check good (facts:=l2.facts) l2.facts_ok (anns:=[annL8]) (plainAnns_ok _ (by kernel_rfl)) (nats:=natl13) natl13_ok (n:=3000) (by kernel_rfl) (by kernel_rfl)
theorem body2_0:BodyOk Try.prog (annL6 (some yL6)) yL6 (tL6).less (tL6).tmps (tL6).st:=body2_0_0
end
end Go.Proofs.Ytmngplmblanhdaa.metaHolds
