/-
  PayPlans: contracts of functions, part 11.
-/
import Derived.Test.YtnnbmcfabojjjaaRows
import Derived.Test.YtnnbmcfabojjjaaNat
import Derived.WalkKit
import Derived.ProofKit
import Derived.OpenShut
import Derived.ChangeOld
import Derived.Below
import Derived.KernelRfl
import Derived.Lib.SmallJoins
import Derived.Laws.IdiomArrays
import Derived.Test.YtnnbmcfabojjjaaPayPlansPartj
namespace Go.Proofs.Ytnnbmcfabojjjaa.payPlans
open Go.ChangeShapes Go.WideShapes Go.ChangeAt Go.RowKit
open Go.SX
open Go.SX.E (fn pr cmp var)
set_option linter.unusedVariables false
set_option linter.unusedSimpArgs false
set_option maxRecDepth 100000
noncomputable section
abbrev T0:E:=var 3
abbrev T1:E:=var 4
abbrev T2:E:=var 5
abbrev T3:E:=var 6
abbrev T4:E:=var 7
abbrev T5:E:=fn 146 (pr T0 (pr T1 (pr T2 (pr T3 T4))))
abbrev T6:E:=var 1
abbrev T7:E:=var 2
abbrev T8:E:=pr T6 T7
abbrev T9:E:=fn 145 T8
abbrev pN:E:=var 8
abbrev l8:E:=var 9
abbrev dU:E:=var 11
abbrev dR:E:=var 0
abbrev Ma:E:=pr dR (pr T6 (pr T7 (.int 0)))
abbrev HU:E:=pr T0 (pr T1 (pr T2 (pr T3 (pr T4 Ma))))
abbrev T16:E:=.iff (.bool true) (fn 182 HU)
abbrev Tx:E:=.iff (.bool false) (fn 182 HU)
abbrev mB:E:=cmp .lss dU (fn 0 dR)
abbrev T19:E:=cmp .lss dU (.int 0)
abbrev T20:E:=.not T19
abbrev HI:E:=.not (cmp .lss (.int 40) (fn 0 dR))
abbrev Ob:=[T20,HI]
abbrev Td:=mB::Ob
abbrev T25:E:=pr T6 dU
abbrev T26:E:=pr dR T25
abbrev T27:E:=pr (fn 10 (.int 0)) T26
abbrev T28:E:=fn 184 T27
abbrev BY:E:=.not (cmp .lss (fn 0 dR) dU)
abbrev T30:E:=pr dR (pr T6 (fn 0 dR))
abbrev T31:E:=pr pN T26
abbrev T32:E:=fn 184 T31
abbrev T33:=BY::Ob
abbrev T34:=mB::T33
abbrev T35:E:=cmp .lss (fn 0 dR) (.ar .add .i64 dU (.int 1))
abbrev T36:E:=.not T35
abbrev T37:E:=cmp .lss dU l8
abbrev Oa:E:=.not T37
abbrev T39:E:=cmp .lss l8 (.int 1)
abbrev T40:E:=.not T39
abbrev T41:=[T40]
abbrev T42:=Oa::T41
abbrev XU:=HI::T42
abbrev T44:=BY::XU
abbrev T45:=mB::T44
abbrev T46:E:=cmp .eql (fn 0 pN) l8
abbrev T47:=[T46]
abbrev Gz:E:=cmp .eql (fn 1 (pr dR dU)) T6
abbrev T49:=T28::Ob
abbrev HB:E:=pr dR (pr T6 (.ar .add .i64 dU (.int 1)))
abbrev LX:=mB::XU
abbrev VF:E:=cmp .lss (fn 7 (pr (fn 0 dR) (.ar .add .i64 dU (.int 1)))) (fn 7 (pr (fn 0 dR) dU))
abbrev T53:=T32::T42
abbrev T54:=HI::T53
abbrev XQ:=T20::T54
abbrev T56:E:=cmp .lss (fn 7 (pr (fn 0 dR) (.ar .add .i64 dU (.int 1)))) (.int 0)
abbrev T57:E:=.not T56
abbrev T58:E:=cmp .eql T7 (.int 0)
abbrev T59:E:=fn 117 T6
abbrev Kj:=[T59]
abbrev NY:E:=pr T6 (pr T7 (.int 2))
abbrev cB:E:=var 20
abbrev jZ:E:=var 19
abbrev gp:E:=cmp .lss cB (fn 0 jZ)
abbrev rF:E:=.not (cmp .lss cB (.int 0))
abbrev T66:E:=pr jZ NY
abbrev T67:E:=fn 109 T66
abbrev vg:=[T67,T9]
abbrev T69:E:=cmp .lss (fn 120 (pr T6 (pr (fn 1 (pr jZ cB)) (fn 9 (pr (fn 1 (pr T6 (.int 0))) (.int 12)))))) (.int 0)
abbrev T70:E:=.not T69
abbrev T71:E:=pr T6 (pr T7 cB)
abbrev ZW:E:=pr dR T71
abbrev FK:E:=fn 151 (pr (fn 10 (.int 0)) ZW)
abbrev Hy:E:=.not gp
abbrev T75:E:=pr dR T8
abbrev mq:E:=var 17
abbrev n9:E:=.not (cmp .lss cB mq)
abbrev tZ:E:=.not (cmp .lss mq (.int 1))
abbrev yg:E:=var 16
abbrev CW:E:=cmp .eql (fn 0 yg) mq
abbrev T81:E:=cmp .lss (fn 0 jZ) cB
abbrev Nx:E:=.not T81
abbrev T83:E:=cmp .lss (.int 40) (fn 0 jZ)
abbrev Ol:E:=.not T83
abbrev AD:=[Ol]
abbrev Pc:=rF::AD
abbrev ju:E:=var 22
abbrev T88:E:=cmp .lss ju (.int (-1))
abbrev T89:E:=.not T88
abbrev yx:E:=cmp .eql ju (fn 120 (pr T6 (pr (fn 1 (pr jZ cB)) (fn 9 (pr (fn 1 (pr T6 (.int 0))) (.int 12))))))
abbrev T91:E:=cmp .lss ju (.int 0)
abbrev YJ:E:=.not T91
abbrev kU:E:=var 21
abbrev NZ:=gp::Pc
abbrev T96:E:=cmp .lss (.ar .add .i64 cB (.int 1)) (.int 0)
abbrev Vq:E:=.not T96
abbrev T98:=tZ::AD
abbrev T99:=n9::T98
abbrev Kd:=gp::T99
abbrev PX:E:=fn 151 (pr yg ZW)
abbrev aRC:E:=cmp .lss (fn 0 jZ) (.ar .add .i64 cB (.int 1))
abbrev akz:E:=.not aRC
abbrev aRd:=Nx::AD
abbrev aux:=tZ::aRd
abbrev aq9:=n9::aux
abbrev aaL:=gp::aq9
abbrev y5:E:=cmp .eql kU (fn 150 (pr dR (pr T6 (fn 1 (pr jZ cB)))))
abbrev KB:E:=cmp .lss kU (.int 0)
abbrev aCB:=[T67]
abbrev aKE:=Ol::aCB
abbrev agE:=rF::aKE
abbrev Fg:E:=pr dR (pr T6 (pr T7 (.ar .add .i64 cB (.int 1))))
abbrev aEM:E:=pr (fn 10 (.int 0)) Fg
abbrev ack:E:=fn 151 aEM
abbrev Wk:=Ol::vg
abbrev XF:=rF::Wk
abbrev alF:E:=.not (cmp .lss (.ar .add .i64 cB (.int 1)) mq)
abbrev aaJ:E:=cmp .lss (fn 7 (pr (fn 0 jZ) (.ar .add .i64 cB (.int 1)))) (fn 7 (pr (fn 0 jZ) cB))
abbrev ajV:E:=.not (fn 1 (pr (fn 1 (pr T6 (.int 0))) (fn 6 (pr (fn 8 (pr ju (.int 12))) (.int 9)))))
abbrev akH:E:=fn 151 (pr yg Fg)
abbrev aG2:=tZ::Wk
abbrev aA4:=n9::aG2
abbrev ah7:=PX::aA4
abbrev aL7:E:=cmp .lss (fn 7 (pr (fn 0 jZ) (.ar .add .i64 cB (.int 1)))) (.int 0)
abbrev aha:E:=.not aL7
def aNY:=fb ([T5,T9,(fn 183 (pr pN (pr l8 (pr (var 10) (pr dU (pr (var 12) HU))))))]) T16<|af fun F p0 p1 p2=>by
 have:=(@nP F T4 T0 T1 T2 T3 dR T6 T7)
 have:=jw p2
 simp_all
def aKs:=fb ([T5,T9,(fn 183 (pr pN (pr l8 (pr (var 10) (pr dU (pr (fn 10 (.int 0)) HU))))))]) T16<|af fun F p0 p1 p2=>by
 have:=(@nP F T4 T0 T1 T2 T3 dR T6 T7)
 have:=jw p2
 simp_all
def aeJ:=fb ([(fn 177 (pr (.int 4) (pr T4 (pr T0 (pr T1 (pr T2 (pr T3 Ma)))))))]) Tx<|aq fun F p0=>by
 have:=(@nP F T4 T0 T1 T2 T3 dR T6 T7)
 simp_all
def aCK:=fb ([(.not (.and T9 T5))]) Tx<|aq fun F p0=>by
 have:=(@nP F T4 T0 T1 T2 T3 dR T6 T7)
 try simp only[aa]at *
 grind
def p60:List Fa:=[fK,aNY,aKs,aeJ,aCK]
theorem aGF:aN Try.prog (aZ (aLX)):=sc p60 ([]) ad2 ([]) (by kernel_rfl) (by kernel_rfl)
def ajH:Nl:=nc aGF ad2
def ayl:=fa ((fn 184 (pr (fn 10 (.int 0)) (pr dR (pr T6 (.int 0))))))<|fun F=>by
 rfl
def aqU:=fb Td (.not (cmp .lss (.ar .add .i64 dU (.int 1)) (.int 0)))<|af fun F p0 p1 p2=>by
 try simp only[aa,ab]at *
 obtain⟨a5,ea5,qa5⟩:=ae ((E.I F dU)+(1))
 omega
def aLy:=fb ([(.not mB),T28,BY]) (fn 184 (pr (fn 30 (.int 0)) T30))<|af fun F p0 p1 p2=>by
 have hr0:(E.I F _=E.I F _)->E.B F (fn _ (pr (fn 30 (.int 0)) (pr _ (pr _ (fn 0 dR)))))=true:=fun s0=>aEC p1 s0
 try simp only[aa]at *
 grind
def azd:=fb ([(.not mB),BY,T32]) (fn 184 (pr (fn 28 (pr (pr (var 12) l8) pN)) T30))<|af fun F p0 p1 p2=>by
 have hr0:(E.I F _=E.I F _)->E.B F (fn _ (pr (fn 28 (pr (pr (var 12) l8) _)) (pr _ (pr _ (fn 0 dR)))))=true:=fun s0=>aGb p2 s0
 try simp only[aa]at *
 grind
def aOx:=fb T34 T36<|aj fun F p0 p1 p2 p3=>by
 try simp only[aa,ab]at *
 obtain⟨a5,ea5,qa5⟩:=ae ((E.I F dU)+(1))
 omega
def aAt:=fb ([mB,HI,Oa]) (.not (cmp .lss (.int 2147483648) (fn 6 (pr l8 (.int 1)))))<|af fun F p0 p1 p2=>by
 try simp only[aa]at *
 grind
def aMX:=fb T45 T36<|aB fun F p0 p1 p2 p3 p4=>by
 try simp only[aa,ab]at *
 obtain⟨a7,ea7,qa7⟩:=ae ((E.I F dU)+(1))
 omega
def aNK:=fb (BY::Oa::T47) (.not (cmp .lss (fn 0 dR) (fn 0 pN)))<|af fun F p0 p1 p2=>by
 try simp only[aa]at *
 grind
def azD:=fb Td (.not (cmp .lss (.ar .add .i64 dU (.int 1)) (.int 1)))<|af fun F p0 p1 p2=>by
 try simp only[aa,ab]at *
 obtain⟨a5,ea5,qa5⟩:=ae ((E.I F dU)+(1))
 omega
def aoE:=fb (mB::Gz::T49) (fn 184 (pr (fn 10 (.int 0)) HB))<|aB fun F p0 p1 p2 p3 p4=>by
 have:=@am F dU (.int 1)
 have hr1:(0<=E.I F _)->(E.I F _<E.I F _)->(E.I F _=E.I F _+1)->(E.I F _=E.I F _)->E.B F (fn _ (pr _ (pr _ (pr _ (.ar .add .i64 dU (.int 1))))))=true:=fun s0 s1 s2 s3=>am3 p2 s0 s1 s2 s3
 try simp only[aa]at *
 grind
def aVk:=fb LX (.not (cmp .lss (.ar .add .i64 dU (.int 1)) l8))<|aj fun F p0 p1 p2 p3=>by
 try simp only[aa,ab]at *
 obtain⟨a7,ea7,qa7⟩:=ae ((E.I F dU)+(1))
 omega
def aT5:=fb (mB::(.not Gz)::T49) (fn 184 (pr (fn 23 (pr (fn 1 (pr dR dU)) (fn 10 (.int 0)))) HB))<|aB fun F p0 p1 p2 p3 p4=>by
 have:=@am F dU (.int 1)
 have hr0:(0<=E.I F _)->(E.I F _<E.I F _)->(E.I F _=E.I F _+1)->(¬E.I F _=E.I F _)->E.B F (fn _ (pr (fn 23 (pr _ (fn 10 (.int 0)))) (pr _ (pr _ (.ar .add .i64 dU (.int 1))))))=true:=fun s0 s1 s2 s3=>aQG p2 s0 s1 s2 s3
 try simp only[aa]at *
 grind
def aGR:=fb Td VF<|af fun F p0 p1 p2=>by
 try simp only[aa,ab]at *
 obtain⟨a4,ea4,qa4⟩:=ae ((E.I F dU)+(1))
 omega
def auQ:=fb (mB::Gz::XQ) (fn 184 (pr pN HB))<|bb fun F p0 p1 p2 p3 p4 p5 p6=>by
 have:=@am F dU (.int 1)
 have hr0:(0<=E.I F _)->(E.I F _<E.I F _)->(E.I F _=E.I F _+1)->(E.I F _=E.I F _)->E.B F (fn _ (pr _ (pr _ (pr _ (.ar .add .i64 dU (.int 1))))))=true:=fun s0 s1 s2 s3=>am3 p4 s0 s1 s2 s3
 try simp only[aa]at *
 grind
def aYg:=fb T34 T57<|aj fun F p0 p1 p2 p3=>by
 try simp only[aa,ab]at *
 obtain⟨a4,ea4,qa4⟩:=ae ((E.I F dU)+(1))
 omega
def aHA:=fb T47 (cmp .eql (fn 6 (pr (fn 0 pN) (.int 1))) (fn 6 (pr l8 (.int 1))))<|aq fun F p0=>by
 try simp only[aa]at *
 grind
def aVi:=fb LX VF<|aj fun F p0 p1 p2 p3=>by
 try simp only[aa,ab]at *
 obtain⟨a7,ea7,qa7⟩:=ae ((E.I F dU)+(1))
 omega
def aVW:=fb LX (.not (cmp .lss (.ar .add .i64 dU (.int 1)) (fn 6 (pr l8 (.int 1)))))<|aj fun F p0 p1 p2 p3=>by
 try simp only[aa,ab]at *
 obtain⟨a8,ea8,qa8⟩:=ae ((E.I F dU)+(1))
 omega
def aYh:=fb T45 T57<|aB fun F p0 p1 p2 p3 p4=>by
 try simp only[aa,ab]at *
 obtain⟨a7,ea7,qa7⟩:=ae ((E.I F dU)+(1))
 omega
def aVp:=fb (mB::(.not Gz)::XQ) (fn 184 (pr (fn 3 (pr pN (fn 23 (pr (fn 1 (pr dR dU)) (fn 10 (.int 0)))))) HB))<|bb fun F p0 p1 p2 p3 p4 p5 p6=>by
 have:=@am F dU (.int 1)
 have hr0:(0<=E.I F _)->(E.I F _<E.I F _)->(E.I F _=E.I F _+1)->(¬E.I F _=E.I F _)->E.B F (fn _ (pr (fn 3 (pr _ (fn 23 (pr _ (fn 10 (.int 0)))))) (pr _ (pr _ (.ar .add .i64 dU (.int 1))))))=true:=fun s0 s1 s2 s3=>aDL p4 s0 s1 s2 s3
 try simp only[aa]at *
 grind
def p61:List Fa:=[fK,ayl,aqU,aLy,agA,azd,aOx,aAt,aMX,aNK,azD,aoE,aVk,aT5,aGR,auQ,aYg,aHA,aVi,aVW,aYh,aVp]
theorem aIf:aN Try.prog (aZ (aKJ)):=sc p61 (aNo) ajH (msI) (by kernel_rfl) (by kernel_rfl)
def acs:Nl:=nc aIf ajH
def aXa:=fb (T58::Kj) (fn 109 (pr (fn 1 (pr T6 (.int 8))) NY))<|ak fun F p0 p1=>by
 have g0:=by
  try simp only[aa]at *
  omega
 have g1:E.I F _=E.I F (.int 2):=rfl;exact gI 0 2 8 (by decide) (by rfl) g0 g1
def asz:=fb ((.not T58)::(.not (cmp .lss (.int 1) T7))::(.not (cmp .lss T7 (.int 0)))::Kj) (fn 109 (pr (fn 1 (pr T6 (.int 22))) NY))<|aj fun F p0 p1 p2 p3=>by
 have g0:E.I F T7=(1):=by
  try simp only[aa]at *
  omega
 have g1:E.I F _=E.I F (.int 2):=rfl;exact gI 1 2 22 (by decide) (by rfl) g0 g1
def aRs:=fb Kj (.not (cmp .lss (.int 40) (fn 0 (fn 1 (pr T6 (.int 8))))))<|aq fun F p0=>by
 have:=ap p0
 try simp only[aa]at *
 omega
def avo:=fb Kj (.not (cmp .lss (.int 40) (fn 0 (fn 1 (pr T6 (.int 22))))))<|aq fun F p0=>by
 have:=ap p0
 try simp only[aa]at *
 omega
def aFS:=fa ((fn 151 (pr (fn 10 (.int 0)) Ma)))<|fun F=>by
 rfl
def axT:=fb (gp::rF::vg) T70<|aj fun F p0 p1 p2 p3=>by
 have:=@rA F _ _ _ _ p2 p3 (fn 1 (pr _ cB)) rfl
 try simp only[aa]at *
 grind
def aA8:=fb (FK::Hy::vg) (fn 144 (pr (fn 30 (.int 0)) T75))<|aj fun F p0 p1 p2 p3=>by
 have hr0:(E.I F _<=E.I F _)->E.B F (fn _ (pr (fn 30 (.int 0)) _))=true:=fun s0=>aAL (@aFx _ _ (.int 0) _ _ _ _ _ p0 p2 p3 s0)
 try simp only[aa]at *
 grind
def axN:=fb (gp::n9::tZ::vg) T70<|aB fun F p0 p1 p2 p3 p4=>by
 have:=@rA F _ _ _ _ p3 p4 (fn 1 (pr _ cB)) rfl
 try simp only[aa]at *
 grind
def aP7:=fb (Hy::n9::CW::Nx::Pc) (.not (cmp .lss (.int 60) mq))<|be fun F p0 p1 p2 p3 p4 p5=>by
 try simp only[aa]at *
 omega
def axy:=fb (gp::T89::yx::rF::vg) YJ<|be fun F p0 p1 p2 p3 p4 p5=>by
 have:=@rA F _ _ _ _ p4 p5 (fn 1 (pr _ cB)) rfl
 try simp only[aa]at *
 grind
def aCg:=fb (gp::T89::yx::n9::tZ::vg) YJ<|bb fun F p0 p1 p2 p3 p4 p5 p6=>by
 have:=@rA F _ _ _ _ p5 p6 (fn 1 (pr _ cB)) rfl
 try simp only[aa]at *
 grind
def aGt:=fb (n9::CW::Nx::rF::Hy::(cmp .eql (fn 0 kU) ju)::(cmp .eql ju mq)::AD) (.not (cmp .lss (.int 40) (fn 0 kU)))<|ba fun F p0 p1 p2 p3 p4 p5 p6 p7=>by
 try simp only[aa]at *
 omega
def aGr:=fb NZ Vq<|af fun F p0 p1 p2=>by
 try simp only[aa,ab]at *
 obtain⟨a6,ea6,qa6⟩:=ae ((E.I F cB)+(1))
 omega
def aFs:=fb ([(.not (cmp .lss (var 18) mq)),tZ]) (.not (cmp .lss (var 18) (.int 0)))<|ak fun F p0 p1=>by
 try simp only[aa]at *
 grind
def aCe:=fb Kd Vq<|aj fun F p0 p1 p2 p3=>by
 try simp only[aa,ab]at *
 obtain⟨a12,ea12,qa12⟩:=ae ((E.I F cB)+(1))
 omega
def as8:=fb (Hy::(fn 152 (pr kU (pr yg mq)))::PX::CW::vg) (fn 144 (pr (fn 28 (pr (pr (var 24) ju) kU)) T75))<|be fun F p0 p1 p2 p3 p4 p5=>by
 have hr0:(E.I F _<=E.I F _)->(E.I F _<=E.I F _)->E.B F (fn _ (pr (fn 28 (pr (pr (var 24) ju) _)) _))=true:=fun s0 s1=>aV9 (aFN p2 p4 p5 p1 s0 s1)
 try simp only[aa]at *
 grind
def atK:=fb ([gp,rF]) akz<|ak fun F p0 p1=>by
 try simp only[aa,ab]at *
 obtain⟨a6,ea6,qa6⟩:=ae ((E.I F cB)+(1))
 omega
def aJN:=fb (gp::n9::AD) (.not (cmp .lss (.int 2147483648) (fn 6 (pr mq (.int 1)))))<|af fun F p0 p1 p2=>by
 try simp only[aa]at *
 grind
def aCv:=fb aaL akz<|aB fun F p0 p1 p2 p3 p4=>by
 try simp only[aa,ab]at *
 obtain⟨a12,ea12,qa12⟩:=ae ((E.I F cB)+(1))
 omega
def aSN:=fb (FK::gp::y5::KB::agE) ack<|bb fun F p0 p1 p2 p3 p4 p5 p6=>by
 have:=@am F cB (.int 1)
 have:=@wW F _ _ _ (.ar .add .i64 cB (.int 1)) _ _ _ p0 p6 _ kU _ (fn 1 (pr _ (fn 6 (pr (fn 8 (pr (.int 0) _)) _)))) rfl rfl
 try simp only[aa]at *
 grind
def ave:=fb NZ (.not (cmp .lss (.ar .add .i64 cB (.int 1)) (.int 1)))<|af fun F p0 p1 p2=>by
 try simp only[aa,ab]at *
 obtain⟨a10,ea10,qa10⟩:=ae ((E.I F cB)+(1))
 omega
def ax5:=fb (FK::gp::y5::yx::(fn 1 (pr (fn 1 (pr T6 (.int 0))) (fn 6 (pr (fn 8 (pr ju (.int 12))) (.int 9)))))::XF) ack<|bh fun F p0 p1 p2 p3 p4 p5 p6 p7 p8=>by
 have:=@am F cB (.int 1)
 have:=@rA F _ _ _ _ p7 p8 (fn 1 (pr _ cB)) rfl
 have:=@wW F _ _ _ (.ar .add .i64 cB (.int 1)) _ _ _ p0 p7 _ kU _ (fn 1 (pr _ (fn 6 (pr (fn 8 (pr ju _)) _)))) rfl rfl
 try simp only[aa]at *
 grind
def aDk:=fb (gp::n9::CW::Pc) alF<|aB fun F p0 p1 p2 p3 p4=>by
 try simp only[aa,ab]at *
 obtain⟨a9,ea9,qa9⟩:=ae ((E.I F cB)+(1))
 omega
def atv:=fb Kd alF<|aj fun F p0 p1 p2 p3=>by
 try simp only[aa,ab]at *
 obtain⟨a12,ea12,qa12⟩:=ae ((E.I F cB)+(1))
 omega
def aqo:=fb NZ aaJ<|af fun F p0 p1 p2=>by
 try simp only[aa,ab]at *
 obtain⟨a6,ea6,qa6⟩:=ae ((E.I F cB)+(1))
 omega
def aS3:=fb (FK::gp::y5::(.not KB)::yx::ajV::XF) (fn 151 (pr (fn 23 (pr (fn 1 (pr jZ cB)) (fn 10 (.int 0)))) Fg))<|bE fun F p0 p1 p2 p3 p4 p5 p6 p7 p8 p9=>by
 have:=@am F cB (.int 1)
 have:=@rA F _ _ _ _ p8 p9 (fn 1 (pr _ cB)) rfl
 have hnil0:av F (fn 10 (.int 0))=[]:=rfl
 have:=@wW F _ _ _ (.ar .add .i64 cB (.int 1)) _ _ _ p0 p8 _ kU _ (fn 1 (pr _ (fn 6 (pr (fn 8 (pr ju _)) _)))) rfl rfl
 try simp only[aa]at *
 grind
def axM:=fb (gp::y5::KB::PX::n9::tZ::agE) akH<|bh fun F p0 p1 p2 p3 p4 p5 p6 p7 p8=>by
 have:=@am F cB (.int 1)
 have:=@wW F _ _ _ (.ar .add .i64 cB (.int 1)) _ _ _ p3 p8 _ kU _ (fn 1 (pr _ (fn 6 (pr (fn 8 (pr (.int 0) _)) _)))) rfl rfl
 try simp only[aa]at *
 grind
def aIl:=fb (gp::y5::yx::(fn 1 (pr (fn 1 (pr T6 (.int 0))) (fn 6 (pr (fn 8 (pr ju (.int 12))) (.int 9)))))::ah7) akH<|bE fun F p0 p1 p2 p3 p4 p5 p6 p7 p8 p9=>by
 have:=@am F cB (.int 1)
 have:=@rA F _ _ _ _ p8 p9 (fn 1 (pr _ cB)) rfl
 have:=@wW F _ _ _ (.ar .add .i64 cB (.int 1)) _ _ _ p4 p8 _ kU _ (fn 1 (pr _ (fn 6 (pr (fn 8 (pr ju _)) _)))) rfl rfl
 try simp only[aa]at *
 grind
def aUn:=fb ([gp,rF]) aha<|ak fun F p0 p1=>by
 try simp only[aa,ab]at *
 obtain⟨a6,ea6,qa6⟩:=ae ((E.I F cB)+(1))
 omega
def aD1:=fb ([CW]) (cmp .eql (fn 6 (pr (fn 0 yg) (.int 1))) (fn 6 (pr mq (.int 1))))<|aq fun F p0=>by
 try simp only[aa]at *
 grind
def aFV:=fb Kd aaJ<|aj fun F p0 p1 p2 p3=>by
 try simp only[aa,ab]at *
 obtain⟨a12,ea12,qa12⟩:=ae ((E.I F cB)+(1))
 omega
def aSu:=fb Kd (.not (cmp .lss (.ar .add .i64 cB (.int 1)) (fn 6 (pr mq (.int 1)))))<|aj fun F p0 p1 p2 p3=>by
 try simp only[aa,ab]at *
 obtain⟨a13,ea13,qa13⟩:=ae ((E.I F cB)+(1))
 omega
def aBi:=fb aaL aha<|aB fun F p0 p1 p2 p3 p4=>by
 try simp only[aa,ab]at *
 obtain⟨a12,ea12,qa12⟩:=ae ((E.I F cB)+(1))
 omega
def aU2:=fb (gp::y5::(.not KB)::yx::ajV::ah7) (fn 151 (pr (fn 3 (pr yg (fn 23 (pr (fn 1 (pr jZ cB)) (fn 10 (.int 0)))))) Fg))<|dH fun F p0 p1 p2 p3 p4 p5 p6 p7 p8 p9 ai=>by
 have:=@am F cB (.int 1)
 have:=@rA F _ _ _ _ p9 ai (fn 1 (pr _ cB)) rfl
 have:=@wW F _ _ _ (.ar .add .i64 cB (.int 1)) _ _ _ p5 p9 _ kU _ (fn 1 (pr _ (fn 6 (pr (fn 8 (pr ju _)) _)))) rfl rfl
 try simp only[aa]at *
 grind
def p62:List Fa:=[fK,aXa,asz,aRs,avo,aFS,axT,aA8,axN,aP7,axy,aCg,aGt,aGr,aFs,aCe,as8,atK,aJN,aCv,aSN,ave,ax5,aDk,atv,aqo,aS3,axM,aIl,aUn,aD1,aFV,aSu,aBi,aU2]
theorem avh:aN Try.prog (aZ (atm)):=sc p62 (apX) acs (msI) (by kernel_rfl) (by kernel_rfl)
def fR:Nl:=nc avh acs
end
end Go.Proofs.Ytnnbmcfabojjjaa.payPlans
