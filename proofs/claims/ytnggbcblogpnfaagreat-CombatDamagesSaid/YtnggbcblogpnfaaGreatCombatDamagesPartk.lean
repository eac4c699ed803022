/-
  CombatDamages: contracts of functions, part 11.
-/
import Derived.Test.YtnggbcblogpnfaaGreatCombatDamagesPartj
namespace Go.Proofs.YtnggbcblogpnfaaGreat.combatDamages
open Go.ChangeShapes Go.WideShapes Go.ChangeAt Go.RowKit
open Go.SX
open Go.SX.E (fn pr cmp var)
set_option linter.unusedVariables false
set_option linter.unusedSimpArgs false
set_option maxRecDepth 100000
noncomputable section
abbrev T0:E:=var 0
abbrev T1:E:=cmp .eql (fn 0 T0) (.int 0)
abbrev T2:E:=.imp (fn 31 T0) T1
abbrev T3:=[T2,(fn 31 T0)]
abbrev T4:E:=pr (var 1) T0
abbrev T5:E:=fn 200 T4
abbrev T6:E:=var 8
abbrev T7:E:=fn 187 (pr T6 T0)
abbrev T8:E:=pr T0 (fn 9 (pr T0 (.int 5)))
abbrev T9:E:=fn 158 T8
abbrev dT:E:=var 11
abbrev mm:E:=var 9
abbrev tT:E:=cmp .lss dT mm
abbrev BC:E:=cmp .eql mm (fn 9 (pr T0 (.int 5)))
abbrev T14:E:=cmp .lss dT (.int 0)
abbrev TM:E:=.not T14
abbrev T16:=[TM]
abbrev TN:=BC::T16
abbrev BD:E:=var 12
abbrev T19:E:=cmp .lss BD dT
abbrev TO:E:=.not T19
abbrev T21:E:=cmp .lss dT BD
abbrev TP:E:=.not T21
abbrev T23:E:=cmp .lss mm dT
abbrev TQ:E:=.not T23
abbrev T25:E:=cmp .lss (.int 20) (fn 9 (pr T0 (.int 5)))
abbrev T26:E:=.not T25
abbrev T27:=[T26]
abbrev TR:=TM::T27
abbrev T29:=BC::TR
abbrev BE:=tT::T29
abbrev T31:=TQ::TR
abbrev TS:=BC::T31
abbrev TT:=tT::TS
abbrev TU:E:=fn 190 T6
abbrev rd:E:=var 14
abbrev IQ:E:=var 13
abbrev T37:E:=pr IQ (fn 1 (pr T6 (fn 6 (pr (fn 8 (pr dT (.int 5))) (.int 4)))))
abbrev TV:E:=fn 200 T37
abbrev T39:=T7::TN
abbrev T40:=TU::T39
abbrev T41:=TV::T40
abbrev TW:=tT::T41
abbrev lm:List E:=[(fn 117 T0)]
def wK:=fb T3 (fn 200 (pr (fn 10 (.int 0)) T0))<|au fun ρ p0 p1=>by
 have:=@aIZ ρ (.int 0) T0
 simp only[aa]at *;grind
def wL:=fa ((fn 200 (pr T0 T0)))<|fun ρ=>by
 exact afx
def sS:List Fa:=[ey,wK,wL]
theorem aHo:aV Tryz.prog (bz (Aa 119 fo 5 80)):=sc sS ([]) acv ([.up fo 80]) (by kernel_rfl) (by kernel_rfl)
def acw:Nl:=nc aHo acv
def sT:List Fa:=[ey,wK,wL]
theorem aHp:aV Tryz.prog (bz (aGm)):=sc sT ([]) acw ([.up kT 132]) (by kernel_rfl) (by kernel_rfl)
def acy:Nl:=nc aHp acw
def ao9:=fb [T5] (fn 187 T4)<|ak fun ρ p0=>by
 exact aI0 p0
def apa:=fb [T5,(fn 190 T0)] (fn 190 (var 1))<|au fun ρ p0 p1=>by
 grind[aI1]
def apb:=fb (T7::T9::tT::TN) (.not (cmp .lss (.int 100) (fn 9 (pr (fn 1 (pr T6 (fn 6 (pr (fn 8 (pr dT (.int 5))) (.int 4))))) (.int 2)))))<|bl fun ρ p0 p1 p2 p3 p4=>by
 have:=@aIN _ _ _ dT _ p1 p0
 simp only[aa]at *;grind
def apc:=fb [(.not tT),TO,TP,TQ] (cmp .eql BD mm)<|aF fun ρ p0 p1 p2 p3=>by
 simp only[aa]at *;grind
def apd:=fb BE (.not (cmp .lss (.ar .add .i64 dT (.int 1)) (.int 0)))<|aF fun ρ p0 p1 p2 p3=>by
 simp only[aa,ae]at *
 obtain⟨a,b,c⟩:=ab (E.I ρ dT+1)
 omega
def ape:=fb [BC] (.not (cmp .lss mm (.int 0)))<|ak fun ρ p0=>by
 have:=EO ρ (pr T0 (.int 5))
 simp only[aa]at *;grind
def apf:=fb TT (.not (cmp .lss mm (.ar .add .i64 dT (.int 1))))<|bl fun ρ p0 p1 p2 p3 p4=>by
 simp only[aa,ae]at *
 obtain⟨a,b,c⟩:=ab (E.I ρ dT+1)
 omega
def apg:=fb (TU::T7::(fn 190 T0)::T9::tT::(cmp .eql rd (fn 9 (pr (fn 1 (pr T6 (fn 6 (pr (fn 8 (pr dT (.int 5))) (.int 4))))) (.int 2))))::(.not (cmp .lss (var 15) rd))::(.not (cmp .lss rd (.int 0)))::TV::TO::TP::(cmp .eql BD dT)::(.not (cmp .lss (var 10) mm))::TS) (cmp .eql (fn 6 (pr dT (.int 1))) (.ar .add .i64 dT (.int 1)))<|lP fun ρ p0 p1 p2 p3 p4 p5 p6 p7 p8 p9 am av az aD aJ aL aU=>by
 simp only[aa,ae]at *
 obtain⟨a,b,c⟩:=ab (E.I ρ dT+1)
 omega
def aph:=fb BE (.not (cmp .lss (.ar .add .i64 dT (.int 1)) (fn 6 (pr dT (.int 1)))))<|aF fun ρ p0 p1 p2 p3=>by
 simp only[aa,ae]at *
 obtain⟨a,b,c⟩:=ab (E.I ρ dT+1)
 omega
def api:=fb BE (.not (cmp .lss (fn 6 (pr dT (.int 1))) (.ar .add .i64 dT (.int 1))))<|aF fun ρ p0 p1 p2 p3=>by
 simp only[aa,ae]at *
 obtain⟨a,b,c⟩:=ab (E.I ρ dT+1)
 omega
def apj:=fb TW (fn 187 (pr (fn 2 (pr T6 (pr (fn 6 (pr (fn 8 (pr dT (.int 5))) (.int 4))) (fn 28 (pr (pr (var 16) rd) IQ))))) T0))<|cz fun ρ p0 p1 p2 p3 p4 p5=>by
 have:=fun h0 h1=>(@afu _ _ _ _ _ p3 p2 h0 h1 (show E.B ρ (fn _ (pr (fn 28 (pr (pr (var 16) rd) _)) _))=true from p1) rfl).1
 simp only[aa]at *;grind
def apk:=fb TW (fn 190 (fn 2 (pr T6 (pr (fn 6 (pr (fn 8 (pr dT (.int 5))) (.int 4))) (fn 28 (pr (pr (var 16) rd) IQ))))))<|cz fun ρ p0 p1 p2 p3 p4 p5=>by
 have:=fun h0 h1=>(@afu _ _ _ _ _ p3 p2 h0 h1 (show E.B ρ (fn _ (pr (fn 28 (pr (pr (var 16) rd) _)) _))=true from p1) rfl).2
 simp only[aa]at *;grind
def apl:=fb BE (cmp .lss (fn 7 (pr mm (.ar .add .i64 dT (.int 1)))) (fn 7 (pr mm dT)))<|aF fun ρ p0 p1 p2 p3=>by
 simp only[aa,ae]at *
 obtain⟨a,b,c⟩:=ab (E.I ρ dT+1)
 omega
def apm:=fb TT (.not (cmp .lss (fn 7 (pr mm (.ar .add .i64 dT (.int 1)))) (.int 0)))<|bl fun ρ p0 p1 p2 p3 p4=>by
 simp only[aa,ae]at *
 obtain⟨a,b,c⟩:=ab (E.I ρ dT+1)
 omega
def sU:List Fa:=[ey,ao9,apa,apb,apc,apd,ape,apf,apg,aph,api,apj,apk,apl,apm]
theorem aHq:aV Tryz.prog (bz (aGR)):=sc sU (aBs) acy ([.up fo 80]) (by kernel_rfl) (by kernel_rfl)
def acz:Nl:=nc aHq acy
def sV:List Fa:=[ey,wK,wL]
theorem aHs:aV Tryz.prog (bz (Aa 92 kO 12 60)):=sc sV ([]) acz ([.up kO 60]) (by kernel_rfl) (by kernel_rfl)
def acA:Nl:=nc aHs acz
def apn:=fb [(.not (cmp .lss (.int 100) (fn 9 (pr T0 (.int 1)))))] (.not (cmp .lss (.int 2147483648) (fn 0 T0)))<|ak fun ρ p0=>by
 have:=@kX ρ T0
 simp only[aa]at *;grind
def apo:=fb T3 (cmp .eql (fn 9 (pr T0 (.int 1))) (.int 0))<|au fun ρ p0 p1=>by
 simp_all[kX]
def apq:=fa ((cmp .eql (fn 0 T0) (fn 9 (pr T0 (.int 1)))))<|fun ρ=>by
 have:=@kX ρ T0
 simp only[aa]at *;grind
def sW:List Fa:=[ey,wK,apn,apo,wL,apq]
theorem aHt:aV Tryz.prog (bz (Aa 93 kI 1 3)):=sc sW ([]) acA ([.up kI 3]) (by kernel_rfl) (by kernel_rfl)
def acB:Nl:=nc aHt acA
def sX:List Fa:=[ey,wK,wL]
theorem aHu:aV Tryz.prog (bz (Aa 94 kT 2 47)):=sc sX ([]) acB ([.up kT 47]) (by kernel_rfl) (by kernel_rfl)
def acC:Nl:=nc aHu acB
def apr:=fb lm (.not (cmp .lss (.int 100) (fn 9 (pr (fn 1 (pr T0 (.int 0))) (.int 12)))))<|ak fun ρ p0=>by
 have:=ao p0
 simp only[aa]at *;omega
def aps:=fb lm (.not (cmp .lss (.int 100) (fn 9 (pr (fn 1 (pr T0 (.int 31))) (.int 1)))))<|ak fun ρ p0=>by
 have:=@kX ρ (fn 1 (pr T0 (.int 31)))
 have:=@jt ρ T0
 simp only[aa]at *;grind
def apt:=fb lm (.not (cmp .lss (.int 100) (fn 9 (pr (fn 1 (pr T0 (.int 32))) (.int 2)))))<|ak fun ρ p0=>by
 have:=ao p0
 simp only[aa]at *;omega
def apu:=fb lm (.not (cmp .lss (.int 100) (fn 9 (pr (fn 1 (pr T0 (.int 6))) (.int 1)))))<|ak fun ρ p0=>by
 have:=@kX ρ (fn 1 (pr T0 (.int 6)))
 have:=@jt ρ T0
 have:=@o7 ρ T0
 simp only[aa]at *;grind
def apv:=fb lm (.not (cmp .lss (.int 100) (fn 9 (pr (fn 1 (pr T0 (.int 7))) (.int 1)))))<|ak fun ρ p0=>by
 have:=@kX ρ (fn 1 (pr T0 (.int 7)))
 have:=@jt ρ T0
 have:=@o7 ρ T0
 simp only[aa]at *;grind
def apw:=fb lm (.not (cmp .lss (.int 100) (fn 9 (pr (fn 1 (pr T0 (.int 8))) (.int 1)))))<|ak fun ρ p0=>by
 have:=@kX ρ (fn 1 (pr T0 (.int 8)))
 have:=@jt ρ T0
 have:=@o7 ρ T0
 simp only[aa]at *;grind
def apx:=fb lm (.not (cmp .lss (.int 100) (fn 9 (pr (fn 1 (pr T0 (.int 9))) (.int 1)))))<|ak fun ρ p0=>by
 have:=@kX ρ (fn 1 (pr T0 (.int 9)))
 have:=@jt ρ T0
 have:=@o7 ρ T0
 simp only[aa]at *;grind
def apy:=fb lm (.not (cmp .lss (.int 100) (fn 9 (pr (fn 1 (pr T0 (.int 20))) (.int 1)))))<|ak fun ρ p0=>by
 have:=@kX ρ (fn 1 (pr T0 (.int 20)))
 have:=@jt ρ T0
 have:=@o7 ρ T0
 simp only[aa]at *;grind
def apz:=fb lm (.not (cmp .lss (.int 100) (fn 9 (pr (fn 1 (pr T0 (.int 21))) (.int 1)))))<|ak fun ρ p0=>by
 have:=@kX ρ (fn 1 (pr T0 (.int 21)))
 have:=@jt ρ T0
 have:=@o7 ρ T0
 simp only[aa]at *;grind
def apA:=fb lm (.not (cmp .lss (.int 100) (fn 9 (pr (fn 1 (pr T0 (.int 22))) (.int 1)))))<|ak fun ρ p0=>by
 have:=@kX ρ (fn 1 (pr T0 (.int 22)))
 have:=@jt ρ T0
 have:=@o7 ρ T0
 simp only[aa]at *;grind
def apB:=fb lm (.not (cmp .lss (.int 100) (fn 9 (pr (fn 1 (pr T0 (.int 23))) (.int 1)))))<|ak fun ρ p0=>by
 have:=@kX ρ (fn 1 (pr T0 (.int 23)))
 have:=@jt ρ T0
 have:=@o7 ρ T0
 simp only[aa]at *;grind
def sY:List Fa:=[ey,apr,aps,apt,ny,wH,AK,tB,wI,AL,apu,apv,apw,apx,apy,apz,apA,apB]
theorem aHv:aV Tryz.prog (bz (aGi)):=sc sY ([]) acC ([]) (by kernel_rfl) (by kernel_rfl)
def acD:Nl:=nc aHv acC
end
end Go.Proofs.YtnggbcblogpnfaaGreat.combatDamages
