/-
  PayPays: contracts of functions, part 17.
-/
import Derived.Test.YtnnbmcfabojjjaaGreatPayPaysPartp
namespace Go.Proofs.YtnnbmcfabojjjaaGreat.payPays
open Go.ChangeShapes Go.WideShapes Go.ChangeAt Go.RowKit
open Go.SX
open Go.SX.E (fn pr cmp var)
set_option linter.unusedVariables false
set_option linter.unusedSimpArgs false
set_option maxRecDepth 100000
noncomputable section
abbrev bi:E:=var 0
abbrev KK1:E:=cmp .eql (fn 0 bi) (.int 0)
abbrev KK2:E:=.imp (fn 31 bi) KK1
abbrev KK3:=[KK2,(fn 31 bi)]
abbrev cW:E:=var 1
abbrev KK5:E:=pr cW bi
abbrev KK6:E:=fn 200 KK5
abbrev bD:E:=var 8
abbrev M0:E:=fn 187 (pr bD bi)
abbrev KK9:E:=pr bi (fn 9 (pr bi (.int 5)))
abbrev acn:E:=fn 158 KK9
abbrev cT:E:=var 11
abbrev bE:E:=var 9
abbrev wm:E:=cmp .lss cT bE
abbrev Fb:E:=cmp .eql bE (fn 9 (pr bi (.int 5)))
abbrev aON:E:=cmp .lss cT (.int 0)
abbrev acz:E:=.not aON
abbrev aOO:=[acz]
abbrev acA:=Fb::aOO
abbrev qR:E:=var 12
abbrev acB:E:=.not (cmp .lss qR cT)
abbrev acC:E:=.not (cmp .lss cT qR)
abbrev aOP:E:=cmp .lss bE cT
abbrev acD:E:=.not aOP
abbrev aOQ:E:=cmp .lss (.int 20) (fn 9 (pr bi (.int 5)))
abbrev aOR:E:=.not aOQ
abbrev aOS:=[aOR]
abbrev acE:=acz::aOS
abbrev aOT:=Fb::acE
abbrev Fd:=wm::aOT
abbrev aOU:=acD::acE
abbrev acF:=Fb::aOU
abbrev acG:=wm::acF
abbrev acH:E:=fn 190 bD
abbrev tw:E:=var 14
abbrev MV:E:=var 13
abbrev aOV:E:=pr MV (fn 1 (pr bD (fn 6 (pr (fn 8 (pr cT (.int 5))) (.int 4)))))
abbrev acI:E:=fn 200 aOV
abbrev tx:E:=var 10
abbrev aOW:=M0::acA
abbrev aOX:=acH::aOW
abbrev aOY:=acI::aOX
abbrev acJ:=wm::aOY
abbrev mq:List E:=[(fn 117 bi)]
abbrev aOZ:E:=cmp .eql (fn 0 bi) cW
abbrev Fe:=[aOZ]
abbrev mr:E:=var 3
abbrev wn:E:=cmp .lss bD bE
abbrev Ff:E:=.not (cmp .lss cW bE)
abbrev Aj:E:=.not (cmp .lss bD (.int 0))
abbrev aO0:E:=cmp .lss (.int 100) cW
abbrev acK:E:=.not aO0
abbrev aO1:=[acK]
abbrev acL:=Aj::aO1
abbrev wo:=wn::Ff::acL
abbrev acM:E:=cmp .eql (fn 1 (pr bi bD)) mr
abbrev MW:E:=fn 194 (pr bi (pr mr (pr bD bE)))
abbrev MX:E:=fn 193 bi
abbrev acN:E:=fn 114 (pr bi mr)
abbrev acO:E:=.iff (.bool false) acN
abbrev aO2:E:=cmp .lss bE bD
abbrev MY:E:=.not aO2
abbrev aO3:=MY::acL
abbrev aO4:=Ff::aO3
abbrev Fg:=wn::aO4
abbrev acP:E:=cmp .lss (fn 1 (pr bi (.wr .i64 (.ar .shr .u64 (.wr .u64 (.ar .add .i64 bD bE)) (.int 1))))) mr
abbrev aO5:=acK::Fe
abbrev aO6:=MX::aO5
abbrev aO7:=Aj::aO6
abbrev aO8:=MY::aO7
abbrev aO9:=Ff::aO8
abbrev acQ:=MW::aO9
abbrev tz:E:=var 2
abbrev tA:E:=fn 145 (pr cW tz)
abbrev Ak:E:=cmp .eql tz (.int 0)
abbrev wq:E:=pr mr (pr (var 4) (pr (var 5) (pr (var 6) (pr (var 7) (pr bi (pr cW (pr tz (.int 0))))))))
abbrev MZ:E:=pr qR wq
abbrev aPa:E:=pr tx (pr cT MZ)
abbrev aPb:E:=pr bE aPa
abbrev aPc:E:=pr bD aPb
abbrev acR:E:=fn 183 aPc
abbrev Fh:E:=pr (fn 10 (.int 0)) wq
abbrev aPd:E:=pr tx (pr cT Fh)
abbrev aPe:E:=pr bE aPd
abbrev aPf:E:=pr bD aPe
abbrev acS:E:=fn 183 aPf
abbrev M1:E:=var 67
abbrev Al:E:=var 64
abbrev aPg:E:=pr Al wq
abbrev aPh:E:=pr M1 aPg
abbrev acT:E:=fn 218 aPh
abbrev acU:=[acT]
abbrev aPi:E:=pr (var 6) (var 7)
abbrev aPj:E:=pr (var 5) aPi
abbrev aPk:E:=pr (var 4) aPj
abbrev aPl:E:=pr mr aPk
abbrev acV:E:=fn 146 aPl
abbrev Fi:E:=fn 117 cW
abbrev dY:E:=var 109
abbrev tB:E:=var 69
abbrev tu:E:=cmp .lss dY tB
abbrev aOw:E:=cmp .lss dY (.int 0)
abbrev MS:E:=.not aOw
abbrev Ai:E:=cmp .eql tB (fn 9 (pr (fn 1 (pr cW (.int 0))) (.int 12)))
abbrev aco:=[MS,Ai]
abbrev aOx:=tu::aco
abbrev acp:=Fi::aOx
abbrev acq:E:=fn 218 (pr M1 Fh)
abbrev aOy:E:=cmp .lss tB dY
abbrev MT:E:=.not aOy
abbrev tv:E:=var 68
abbrev aOz:E:=pr Al dY
abbrev aOA:E:=pr (fn 1 (pr cW (.int 0))) aOz
abbrev aOB:E:=pr tv aOA
abbrev aOC:E:=fn 191 aOB
abbrev acr:=[aOC]
abbrev aOD:E:=pr M1 (pr tv wq)
abbrev acs:E:=fn 219 aOD
abbrev aOE:=MT::aco
abbrev aOF:=tu::aOE
abbrev acu:=Fi::aOF
abbrev aOG:E:=pr (fn 10 (.int 0)) dY
abbrev aOH:E:=pr (fn 1 (pr cW (.int 0))) aOG
abbrev aOI:E:=pr tv aOH
abbrev acv:E:=fn 191 aOI
abbrev MU:E:=var 111
abbrev aOJ:E:=pr Al (fn 1 (pr tv (fn 6 (pr (fn 8 (pr dY (.int 12))) (.int 0)))))
abbrev aOK:E:=fn 114 aOJ
abbrev acw:E:=.iff MU aOK
abbrev aOL:=Fi::acr
abbrev aOM:=Ai::aOL
abbrev acx:=MS::aOM
abbrev acy:E:=pr (fn 1 (pr cW (.int 0))) (pr Al (.ar .add .i64 dY (.int 1)))
def zI:=fb KK3 (fn 200 (pr (fn 10 (.int 0)) bi))<|ai fun F p0 p1=>by
 have:=@a5S F (.int 0) bi
 simp only[aa]at *;grind
def zJ:=fa ((fn 200 (pr bi bi)))<|fun F=>by
 exact ap1
def p67:List Fa:=[dv,zI,zJ]
theorem a3G:aI Tryz.prog (aX (DL 66 eY 5 63)):=sc p67 ([]) amo ([.up eY 63]) (by kernel_rfl) (by kernel_rfl)
def amp:Nl:=nc a3G amo
def p68:List Fa:=[dv,zI,zJ]
theorem a3H:aI Tryz.prog (aX (a1G)):=sc p68 ([]) amp ([.up kT 112]) (by kernel_rfl) (by kernel_rfl)
def amr:Nl:=nc a3H amp
def awm:=fb [KK6] (fn 187 KK5)<|aj fun F p0=>by
 exact a5T p0
def awn:=fb [KK6,(fn 190 bi)] (fn 190 cW)<|ai fun F p0 p1=>by
 grind[a5U]
def awo:=fb (M0::acn::wm::acA) (.not (cmp .lss (.int 100) (fn 9 (pr (fn 1 (pr bD (fn 6 (pr (fn 8 (pr cT (.int 5))) (.int 4))))) (.int 2)))))<|aw fun F p0 p1 p2 p3 p4=>by
 have:=@a5b _ _ _ cT _ p1 p0
 simp only[aa]at *;grind
def awp:=fb [(.not wm),acB,acC,acD] (cmp .eql qR bE)<|am fun F p0 p1 p2 p3=>by
 simp only[aa]at *;grind
def awq:=fb Fd (.not (cmp .lss (.ar .add .i64 cT (.int 1)) (.int 0)))<|am fun F p0 p1 p2 p3=>by
 simp only[aa,ab]at *
 obtain⟨a,b,c⟩:=ae (E.I F cT+1)
 omega
def awr:=fb [Fb] (.not (cmp .lss bE (.int 0)))<|aj fun F p0=>by
 have:=yB F (pr bi (.int 5))
 simp only[aa]at *;grind
def awt:=fb acG (.not (cmp .lss bE (.ar .add .i64 cT (.int 1))))<|aw fun F p0 p1 p2 p3 p4=>by
 simp only[aa,ab]at *
 obtain⟨a,b,c⟩:=ae (E.I F cT+1)
 omega
def awu:=fb (acH::M0::(fn 190 bi)::acn::wm::(cmp .eql tw (fn 9 (pr (fn 1 (pr bD (fn 6 (pr (fn 8 (pr cT (.int 5))) (.int 4))))) (.int 2))))::(.not (cmp .lss (var 15) tw))::(.not (cmp .lss tw (.int 0)))::acI::acB::acC::(cmp .eql qR cT)::(.not (cmp .lss tx bE))::acF) (cmp .eql (fn 6 (pr cT (.int 1))) (.ar .add .i64 cT (.int 1)))<|x7 fun F p0 p1 p2 p3 p4 p5 p6 p7 p8 p9 ao au az aE aM aN bb=>by
 simp only[aa,ab]at *
 obtain⟨a,b,c⟩:=ae (E.I F cT+1)
 omega
def awv:=fb Fd (.not (cmp .lss (.ar .add .i64 cT (.int 1)) (fn 6 (pr cT (.int 1)))))<|am fun F p0 p1 p2 p3=>by
 simp only[aa,ab]at *
 obtain⟨a,b,c⟩:=ae (E.I F cT+1)
 omega
def aww:=fb Fd (.not (cmp .lss (fn 6 (pr cT (.int 1))) (.ar .add .i64 cT (.int 1))))<|am fun F p0 p1 p2 p3=>by
 simp only[aa,ab]at *
 obtain⟨a,b,c⟩:=ae (E.I F cT+1)
 omega
def awx:=fb acJ (fn 187 (pr (fn 2 (pr bD (pr (fn 6 (pr (fn 8 (pr cT (.int 5))) (.int 4))) (fn 28 (pr (pr (var 16) tw) MV))))) bi))<|bq fun F p0 p1 p2 p3 p4 p5=>by
 have:=fun h0 h1=>(@apS _ _ _ _ _ p3 p2 h0 h1 (show E.B F (fn _ (pr (fn 28 (pr (pr (var 16) tw) _)) _))=true from p1) rfl).1
 simp only[aa]at *;grind
def awy:=fb acJ (fn 190 (fn 2 (pr bD (pr (fn 6 (pr (fn 8 (pr cT (.int 5))) (.int 4))) (fn 28 (pr (pr (var 16) tw) MV))))))<|bq fun F p0 p1 p2 p3 p4 p5=>by
 have:=fun h0 h1=>(@apS _ _ _ _ _ p3 p2 h0 h1 (show E.B F (fn _ (pr (fn 28 (pr (pr (var 16) tw) _)) _))=true from p1) rfl).2
 simp only[aa]at *;grind
def awz:=fb Fd (cmp .lss (fn 7 (pr bE (.ar .add .i64 cT (.int 1)))) (fn 7 (pr bE cT)))<|am fun F p0 p1 p2 p3=>by
 simp only[aa,ab]at *
 obtain⟨a,b,c⟩:=ae (E.I F cT+1)
 omega
def awA:=fb acG (.not (cmp .lss (fn 7 (pr bE (.ar .add .i64 cT (.int 1)))) (.int 0)))<|aw fun F p0 p1 p2 p3 p4=>by
 simp only[aa,ab]at *
 obtain⟨a,b,c⟩:=ae (E.I F cT+1)
 omega
def p69:List Fa:=[dv,awm,awn,awo,awp,awq,awr,awt,awu,awv,aww,awx,awy,awz,awA]
theorem a3I:aI Tryz.prog (aX (a2p)):=sc p69 (aV9) amr ([.up eY 63]) (by kernel_rfl) (by kernel_rfl)
def ams:Nl:=nc a3I amr
def p70:List Fa:=[dv,zI,zJ]
theorem a3K:aI Tryz.prog (aX (DL 37 kO 12 78)):=sc p70 ([]) ams ([.up kO 78]) (by kernel_rfl) (by kernel_rfl)
def amt:Nl:=nc a3K ams
def awB:=fb [(.not (cmp .lss (.int 100) (fn 9 (pr bi (.int 1)))))] (.not (cmp .lss (.int 2147483648) (fn 0 bi)))<|aj fun F p0=>by
 have:=@fX F bi
 simp only[aa]at *;grind
def awC:=fb KK3 (cmp .eql (fn 9 (pr bi (.int 1))) (.int 0))<|ai fun F p0 p1=>by
 simp_all[fX]
def awE:=fa ((cmp .eql (fn 0 bi) (fn 9 (pr bi (.int 1)))))<|fun F=>by
 have:=@fX F bi
 simp only[aa]at *;grind
def p71:List Fa:=[dv,zI,awB,awC,zJ,awE]
theorem a3L:aI Tryz.prog (aX (DL 38 kI 1 3)):=sc p71 ([]) amt ([.up kI 3]) (by kernel_rfl) (by kernel_rfl)
def amu:Nl:=nc a3L amt
def p72:List Fa:=[dv,zI,zJ]
theorem a3M:aI Tryz.prog (aX (DL 39 kT 2 101)):=sc p72 ([]) amu ([.up kT 101]) (by kernel_rfl) (by kernel_rfl)
def aZX:Nl:=nc a3M amu
def awF:=fb mq (.not (cmp .lss (.int 100) (fn 9 (pr (fn 1 (pr bi (.int 0))) (.int 12)))))<|aj fun F p0=>by
 have:=ap p0
 simp only[aa]at *;omega
def awG:=fb mq (.not (cmp .lss (.int 100) (fn 9 (pr (fn 1 (pr bi (.int 31))) (.int 1)))))<|aj fun F p0=>by
 have:=@fX F (fn 1 (pr bi (.int 31)))
 have:=@dw F bi
 simp only[aa]at *;grind
def awH:=fb mq (.not (cmp .lss (.int 100) (fn 9 (pr (fn 1 (pr bi (.int 32))) (.int 2)))))<|aj fun F p0=>by
 have:=ap p0
 simp only[aa]at *;omega
def awI:=fb mq (.not (cmp .lss (.int 100) (fn 9 (pr (fn 1 (pr bi (.int 6))) (.int 1)))))<|aj fun F p0=>by
 have:=@fX F (fn 1 (pr bi (.int 6)))
 have:=@dw F bi
 have:=@iH F bi
 simp only[aa]at *;grind
def awJ:=fb mq (.not (cmp .lss (.int 100) (fn 9 (pr (fn 1 (pr bi (.int 7))) (.int 1)))))<|aj fun F p0=>by
 have:=@fX F (fn 1 (pr bi (.int 7)))
 have:=@dw F bi
 have:=@iH F bi
 simp only[aa]at *;grind
def awK:=fb mq (.not (cmp .lss (.int 100) (fn 9 (pr (fn 1 (pr bi (.int 8))) (.int 1)))))<|aj fun F p0=>by
 have:=@fX F (fn 1 (pr bi (.int 8)))
 have:=@dw F bi
 have:=@iH F bi
 simp only[aa]at *;grind
def awL:=fb mq (.not (cmp .lss (.int 100) (fn 9 (pr (fn 1 (pr bi (.int 9))) (.int 1)))))<|aj fun F p0=>by
 have:=@fX F (fn 1 (pr bi (.int 9)))
 have:=@dw F bi
 have:=@iH F bi
 simp only[aa]at *;grind
def awM:=fb mq (.not (cmp .lss (.int 100) (fn 9 (pr (fn 1 (pr bi (.int 20))) (.int 1)))))<|aj fun F p0=>by
 have:=@fX F (fn 1 (pr bi (.int 20)))
 have:=@dw F bi
 have:=@iH F bi
 simp only[aa]at *;grind
def awN:=fb mq (.not (cmp .lss (.int 100) (fn 9 (pr (fn 1 (pr bi (.int 21))) (.int 1)))))<|aj fun F p0=>by
 have:=@fX F (fn 1 (pr bi (.int 21)))
 have:=@dw F bi
 have:=@iH F bi
 simp only[aa]at *;grind
def awP:=fb mq (.not (cmp .lss (.int 100) (fn 9 (pr (fn 1 (pr bi (.int 22))) (.int 1)))))<|aj fun F p0=>by
 have:=@fX F (fn 1 (pr bi (.int 22)))
 have:=@dw F bi
 have:=@iH F bi
 simp only[aa]at *;grind
def awQ:=fb mq (.not (cmp .lss (.int 100) (fn 9 (pr (fn 1 (pr bi (.int 23))) (.int 1)))))<|aj fun F p0=>by
 have:=@fX F (fn 1 (pr bi (.int 23)))
 have:=@dw F bi
 have:=@iH F bi
 simp only[aa]at *;grind
def p73:List Fa:=[dv,awF,awG,awH,pd,zK,Eg,vY,zL,Eh,awI,awJ,awK,awL,awM,awN,awP,awQ]
theorem a3N:aI Tryz.prog (aX (a1y)):=sc p73 ([]) aZX ([]) (by kernel_rfl) (by kernel_rfl)
def amv:Nl:=nc a3N aZX
def awR:=fb Fe (fn 194 (pr bi (pr mr (pr (.int 0) cW))))<|aj fun F p0=>by
 have:=@a5O F mr bi (.int 0) cW
 simp only[aa]at *;grind
def awS:=fb wo (.not (cmp .lss (.wr .i64 (.ar .shr .u64 (.wr .u64 (.ar .add .i64 bD bE)) (.int 1))) (.int 0)))<|am fun F p0 p1 p2 p3=>by
 have:=@lk F bD bE
 simp only[aa]at *;omega
def awT:=fb [(.not wn),(.not acM),MW,Aj,MX] acO<|aw fun F p0 p1 p2 p3 p4=>by
 have:=apZ p4 p2
 simp only[aa]at *;grind
def awU:=fb ((cmp .lss bD cW)::acM::Aj::Fe) (.iff (.bool true) acN)<|am fun F p0 p1 p2 p3=>by
 have:=@a5P F mr bi bD
 simp only[aa]at *;grind
def awV:=fb ((.not wn)::(.not (cmp .lss bD cW))::MW::Ff::MY::Aj::MX::Fe) acO<|b7 fun F p0 p1 p2 p3 p4 p5 p6 p7=>by
 have:=apZ p6 p2
 simp only[aa]at *;grind
def awW:=fb Fg (cmp .lss (.wr .i64 (.ar .shr .u64 (.wr .u64 (.ar .add .i64 bD bE)) (.int 1))) cW)<|aw fun F p0 p1 p2 p3 p4=>by
 have:=@lk F bD bE
 simp only[aa]at *;omega
def awX:=fb wo (.not (cmp .lss (.ar .add .i64 (.wr .i64 (.ar .shr .u64 (.wr .u64 (.ar .add .i64 bD bE)) (.int 1))) (.int 1)) (.int 0)))<|am fun F p0 p1 p2 p3=>by
 have:=@lk F bD bE
 simp only[aa,ab]at *
 obtain⟨a,b,c⟩:=ae (E.I F (.ar .shr .u64 (.wr .u64 (.ar .add .i64 bD bE)) (.int 1)))
 simp only[b]at *
 obtain⟨d,f,g⟩:=ae (a+(1))
 omega
def awY:=fb wo (.not (cmp .lss (.wr .i64 (.ar .shr .u64 (.wr .u64 (.ar .add .i64 bD bE)) (.int 1))) bD))<|am fun F p0 p1 p2 p3=>by
 have:=@lk F bD bE
 simp only[aa]at *;omega
def aw0:=fb Fg (.not (cmp .lss bE (.ar .add .i64 (.wr .i64 (.ar .shr .u64 (.wr .u64 (.ar .add .i64 bD bE)) (.int 1))) (.int 1))))<|aw fun F p0 p1 p2 p3 p4=>by
 have:=@lk F bD bE
 simp only[aa,ab]at *
 obtain⟨a,b,c⟩:=ae (E.I F (.ar .shr .u64 (.wr .u64 (.ar .add .i64 bD bE)) (.int 1)))
 simp only[b]at *
 obtain⟨d,f,g⟩:=ae (a+(1))
 omega
def aw1:=fb wo (.not (cmp .lss cW (.wr .i64 (.ar .shr .u64 (.wr .u64 (.ar .add .i64 bD bE)) (.int 1)))))<|am fun F p0 p1 p2 p3=>by
 have:=@lk F bD bE
 simp only[aa]at *;omega
def aw2:=fb (wn::acP::acQ) (fn 194 (pr bi (pr mr (pr (.ar .add .i64 (.wr .i64 (.ar .shr .u64 (.wr .u64 (.ar .add .i64 bD bE)) (.int 1))) (.int 1)) bE))))<|b8 fun F p0 p1 p2 p3 p4 p5 p6 p7 p8=>by
 have:=@lk F bD bE
 have:=@a5N _ _ _ (.ar .add .i64 (.wr .i64 (.ar .shr .u64 (.wr .u64 (.ar .add .i64 bD bE)) (.int 1))) (.int 1)) _ _ (.wr .i64 (.ar .shr .u64 (.wr .u64 (.ar .add .i64 bD bE)) (.int 1))) p6 p2
 have:=@ay F (.wr .i64 (.ar .shr .u64 (.wr .u64 (.ar .add .i64 bD bE)) (.int 1))) (.int 1)
 simp only[aa]at *;grind
def aw3:=fb (wn::(.not acP)::acQ) (fn 194 (pr bi (pr mr (pr bD (.wr .i64 (.ar .shr .u64 (.wr .u64 (.ar .add .i64 bD bE)) (.int 1)))))))<|b8 fun F p0 p1 p2 p3 p4 p5 p6 p7 p8=>by
 have:=@lk F bD bE
 have:=@a5M _ _ _ _ _ (.wr .i64 (.ar .shr .u64 (.wr .u64 (.ar .add .i64 bD bE)) (.int 1))) p6 p2
 simp only[aa]at *;grind
def aw4:=fb wo (cmp .lss (fn 7 (pr bE (.ar .add .i64 (.wr .i64 (.ar .shr .u64 (.wr .u64 (.ar .add .i64 bD bE)) (.int 1))) (.int 1)))) (fn 7 (pr bE bD)))<|am fun F p0 p1 p2 p3=>by
 have:=@lk F bD bE
 simp only[aa,ab]at *
 obtain⟨a,b,c⟩:=ae (E.I F (.ar .shr .u64 (.wr .u64 (.ar .add .i64 bD bE)) (.int 1)))
 simp only[b]at *
 obtain⟨d,f,g⟩:=ae (a+(1))
 omega
def aw5:=fb Fg (cmp .lss (fn 7 (pr (.wr .i64 (.ar .shr .u64 (.wr .u64 (.ar .add .i64 bD bE)) (.int 1))) bD)) (fn 7 (pr bE bD)))<|aw fun F p0 p1 p2 p3 p4=>by
 have:=@lk F bD bE
 simp only[aa]at *;omega
def aw6:=fb Fg (.not (cmp .lss (fn 7 (pr bE (.ar .add .i64 (.wr .i64 (.ar .shr .u64 (.wr .u64 (.ar .add .i64 bD bE)) (.int 1))) (.int 1)))) (.int 0)))<|aw fun F p0 p1 p2 p3 p4=>by
 have:=@lk F bD bE
 simp only[aa,ab]at *
 obtain⟨a,b,c⟩:=ae (E.I F (.ar .shr .u64 (.wr .u64 (.ar .add .i64 bD bE)) (.int 1)))
 simp only[b]at *
 obtain⟨d,f,g⟩:=ae (a+(1))
 omega
def aw7:=fb wo (.not (cmp .lss (fn 7 (pr (.wr .i64 (.ar .shr .u64 (.wr .u64 (.ar .add .i64 bD bE)) (.int 1))) bD)) (.int 0)))<|am fun F p0 p1 p2 p3=>by
 have:=@lk F bD bE
 simp only[aa]at *;omega
def p74:List Fa:=[awR,awS,awT,awU,awV,awW,awX,awY,aw0,aw1,aw2,aw3,aw4,aw5,aw6,aw7]
theorem a3O:aI Tryz.prog (aX (a1z)):=sc p74 (aVG) amv ([]) (by kernel_rfl) (by kernel_rfl)
def aZY:Nl:=nc a3O amv
def p75:List Fa:=[]
theorem a3P:aI Tryz.prog (aX (a1A)):=sc p75 ([]) aZY ([]) (by kernel_rfl) (by kernel_rfl)
def amw:Nl:=nc a3P aZY
def aw8:=fb [(fn 200 (pr (var 15) (fn 1 (pr cW (.int 0)))))] (fn 191 (pr (var 15) (pr (fn 1 (pr cW (.int 0))) (pr qR (.int 0)))))<|aj fun F p0=>by
 exact apY p0 (Int.le_refl _)
def aw9:=fb [tA,(.not Ak)] (cmp .eql tz (.int 1))<|ai fun F p0 p1=>by
 have:=@dX F tz cW
 simp only[aa]at *;grind
def axb:=fb [(fn 200 (pr qR (fn 1 (pr cW (.int 0)))))] (fn 191 (pr qR (pr (fn 1 (pr cW (.int 0))) (pr (fn 10 (.int 0)) (.int 0)))))<|aj fun F p0=>by
 exact apY p0 (Int.le_refl _)
def axc:=fb [acR,Ak,tA] (fn 218 (pr (yD 0 cW bD bE tx cT) MZ))<|ag fun F p0 p1 p2=>by
 have hq:=by
  simp only[aa]at *;omega
 have h1:=KV 0 (by decide) p0 hq;exact h1
def axd:=fb [acS,Ak,tA] (fn 218 (pr (yD 0 cW bD bE tx cT) Fh))<|ag fun F p0 p1 p2=>by
 have hq:=by
  simp only[aa]at *;omega
 have h1:=KV 0 (by decide) p0 hq;exact h1
def axe:=fb acU (fn 193 Al)<|aj fun F p0=>by
 exact a5V p0
def axf:=fb (acV::tA::acU) (fn 182 wq)<|ag fun F p0 p1 p2=>by
 grind[ap2]
def axg:=fb acp (.not (cmp .lss (.ar .add .i64 dY (.int 1)) (.int 0)))<|am fun F p0 p1 p2 p3=>by
 have:=@dw F cW
 simp only[aa,ab]at *
 obtain⟨a,b,c⟩:=ae (E.I F dY+1)
 grind
def axh:=fb [acq,acV,tA] (fn 182 wq)<|ag fun F p0 p1 p2=>by
 grind[ap2]
def axi:=fb [acR,(.not Ak),tA] (fn 218 (pr (yD 1 cW bD bE tx cT) MZ))<|ag fun F p0 p1 p2=>by
 have hq:E.I F tz=1:=by
  have:=Eq.mp dX p2
  simp only[aa]at *;omega
 have h1:=KV 1 (by decide) p0 hq;exact h1
def axj:=fb [acS,(.not Ak),tA] (fn 218 (pr (yD 1 cW bD bE tx cT) Fh))<|ag fun F p0 p1 p2=>by
 have hq:E.I F tz=1:=by
  have:=Eq.mp dX p2
  simp only[aa]at *;omega
 have h1:=KV 1 (by decide) p0 hq;exact h1
def axk:=fb ((.not tu)::MT::Ai::acT::acr) acs<|aw fun F p0 p1 p2 p3 p4=>by
 have hi:E.I F dY=E.I F (fn 9 (pr (fn 1 (pr cW (.int 0))) (.int 12))):=by
  simp only[aa]at *;omega
 grind[ap3]
def axm:=fb acu (.not (cmp .lss tB (.ar .add .i64 dY (.int 1))))<|aw fun F p0 p1 p2 p3 p4=>by
 simp only[aa,ab]at *
 obtain⟨a,b,c⟩:=ae (E.I F dY+1)
 omega
def axn:=fb [(.not tu),acq,acv,MT,Ai] acs<|aw fun F p0 p1 p2 p3 p4=>by
 have hi:E.I F dY=E.I F (fn 9 (pr (fn 1 (pr cW (.int 0))) (.int 12))):=by
  simp only[aa]at *;omega
 grind[ap3]
def axo:=fb [tu,acv,MS,Ai,Fi] (fn 191 (pr tv (pr (fn 1 (pr cW (.int 0))) (pr (fn 10 (.int 0)) (.ar .add .i64 dY (.int 1))))))<|aw fun F p0 p1 p2 p3 p4=>by
 have:=fun h0 hm=>@a5K _ _ _ _ _ (.ar .add .i64 dY (.int 1)) p1 h0 hm
 have:=@ay F dY (.int 1)
 have:=@dw F cW
 simp only[aa]at *;grind
def axp:=fb (tu::acw::MU::acx) (fn 191 (pr (fn 2 (pr tv (pr (fn 6 (pr (fn 8 (pr dY (.int 12))) (.int 9))) (.bool true)))) acy))<|bL fun F p0 p1 p2 p3 p4 p5 p6=>by
 have:=fun h0 hm hn=>@a5L _ _ _ _ (.ar .add .i64 dY (.int 1)) _ p6 h0 hm hn
 have:=@ay F dY (.int 1)
 have:=@dw F cW
 simp only[aa]at *;grind
def axq:=fb (tu::acw::(.not MU)::acx) (fn 191 (pr tv acy))<|bL fun F p0 p1 p2 p3 p4 p5 p6=>by
 have:=fun h0 hm hn=>@apX _ _ _ _ (.ar .add .i64 dY (.int 1)) _ p6 h0 hm hn
 have:=@ay F dY (.int 1)
 have:=@dw F cW
 simp only[aa]at *;grind
def axr:=fb acp (cmp .lss (fn 7 (pr tB (.ar .add .i64 dY (.int 1)))) (fn 7 (pr tB dY)))<|am fun F p0 p1 p2 p3=>by
 have:=@dw F cW
 simp only[aa,ab]at *
 obtain⟨a,b,c⟩:=ae (E.I F dY+1)
 grind
def axs:=fb acu (.not (cmp .lss (fn 7 (pr tB (.ar .add .i64 dY (.int 1)))) (.int 0)))<|aw fun F p0 p1 p2 p3 p4=>by
 simp only[aa,ab]at *
 obtain⟨a,b,c⟩:=ae (E.I F dY+1)
 omega
def p76:List Fa:=[dv,aw8,aw9,axb,axc,axd,axe,axf,axg,axh,axi,axj,axk,axm,axn,axo,axp,axq,axr,axs]
theorem a3Q:aI Tryz.prog (aX (a2d)):=sc p76 (aVY) amw (msU) (by kernel_rfl) (by kernel_rfl)
def Js:Nl:=nc a3Q amw
end
end Go.Proofs.YtnnbmcfabojjjaaGreat.payPays
