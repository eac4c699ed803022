/-
  PayColours: contracts of functions, part 8.
-/
import Derived.Test.YtnnbmcfabojjjaaRows
import Derived.Test.YtnnbmcfabojjjaaNat
import Derived.WalkKit
import Derived.ProofKit
import Derived.OpenShut
import Derived.ChangeOld
import Derived.Below
import Derived.KernelRfl
import Derived.Lib.SmallJoins
import Derived.Laws.IdiomArrays
import Derived.Test.YtnnbmcfabojjjaaPayColoursPartg
namespace Go.Proofs.Ytnnbmcfabojjjaa.payColours
open Go.ChangeShapes Go.WideShapes Go.ChangeAt Go.RowKit
open Go.SX
open Go.SX.E (fn pr cmp var)
set_option linter.unusedVariables false
set_option linter.unusedSimpArgs false
set_option maxRecDepth 100000
noncomputable section
abbrev D0:E:=var 3
abbrev D1:E:=var 4
abbrev D2:E:=var 5
abbrev D3:E:=var 6
abbrev D4:E:=var 7
abbrev D5:E:=fn 146 (pr D0 (pr D1 (pr D2 (pr D3 D4))))
abbrev D6:E:=var 1
abbrev D7:E:=var 2
abbrev D8:E:=fn 145 (pr D6 D7)
abbrev D9:E:=var 8
abbrev cT:E:=var 9
abbrev ee:E:=var 10
abbrev aH:E:=var 11
abbrev fE:E:=var 12
abbrev ag:E:=var 0
abbrev D15:E:=pr D6 (pr D7 (.int 0))
abbrev Qy:E:=pr ag D15
abbrev KU:E:=pr D0 (pr D1 (pr D2 (pr D3 (pr D4 Qy))))
abbrev Hm:E:=.bool true
abbrev Qa:E:=fn 182 KU
abbrev D20:E:=.iff Hm Qa
abbrev dQ:E:=.bool false
abbrev No:E:=.iff dQ Qa
abbrev lM:E:=cmp .lss aH (fn 9 (pr ag (.int 5)))
abbrev tz:E:=.not (cmp .lss aH (.int 0))
abbrev Kl:E:=cmp .eql aH (.int 0)
abbrev D26:E:=cmp .lss (fn 9 (pr ag (.int 5))) aH
abbrev OV:E:=.not D26
abbrev D28:E:=pr ag (fn 8 (pr aH (.int 5)))
abbrev D29:E:=pr D9 D28
abbrev D30:E:=fn 181 D29
abbrev Gf:E:=cmp .eql (fn 0 D9) (fn 8 (pr cT (.int 5)))
abbrev Iu:E:=cmp .eql cT aH
abbrev td:E:=.not (cmp .lss (.int 20) (fn 9 (pr ag (.int 5))))
abbrev vG:=[lM,Kl,tz,td]
abbrev D35:E:=cmp .lss (.ar .add .i64 aH (.int 1)) (.int 0)
abbrev LY:E:=.not D35
abbrev D37:E:=cmp .lss cT (.int 1)
abbrev D38:E:=.not D37
abbrev Mz:=[D38]
abbrev D40:E:=cmp .lss (fn 9 (pr ag (.int 5))) (.ar .add .i64 aH (.int 1))
abbrev Tz:E:=.not D40
abbrev D42:E:=cmp .lss (.int 2147483648) (fn 6 (pr cT (.int 1)))
abbrev W1:E:=.not D42
abbrev Sx:=Iu::Mz
abbrev D45:=td::Sx
abbrev XN:=lM::D45
abbrev D47:=OV::D45
abbrev UJ:=lM::D47
abbrev gY:E:=var 13
abbrev QD:E:=pr ag (fn 8 (pr (.ar .add .i64 aH (.int 1)) (.int 5)))
abbrev Q1:=Gf::Sx
abbrev D52:E:=cmp .lss (fn 7 (pr (fn 9 (pr ag (.int 5))) (.ar .add .i64 aH (.int 1)))) (fn 7 (pr (fn 9 (pr ag (.int 5))) aH))
abbrev D53:E:=cmp .lss (fn 7 (pr (fn 9 (pr ag (.int 5))) (.ar .add .i64 aH (.int 1)))) (.int 0)
abbrev D54:E:=.not D53
abbrev HW:E:=pr ag (pr D6 (.int 0))
abbrev jC:E:=cmp .lss aH (fn 0 ag)
abbrev Df:E:=.not (cmp .lss (.int 40) (fn 0 ag))
abbrev CI:=[tz,Df]
abbrev Nb:=jC::CI
abbrev D60:E:=pr D6 aH
abbrev D61:E:=pr ag D60
abbrev D62:E:=pr (fn 10 (.int 0)) D61
abbrev Rc:E:=fn 184 D62
abbrev uP:E:=.not (cmp .lss (fn 0 ag) aH)
abbrev XL:E:=pr ag (pr D6 (fn 0 ag))
abbrev D66:E:=pr D9 D61
abbrev QY:E:=fn 184 D66
abbrev D68:E:=cmp .lss (fn 0 ag) (.ar .add .i64 aH (.int 1))
abbrev D69:E:=.not D68
abbrev D70:E:=cmp .lss aH cT
abbrev IG:E:=.not D70
abbrev T7:=IG::Mz
abbrev D73:=Df::T7
abbrev D74:=uP::D73
abbrev Ws:=jC::D74
abbrev D76:E:=cmp .eql (fn 0 D9) cT
abbrev UV:=[D76]
abbrev BB:E:=cmp .eql (fn 1 (pr ag aH)) D6
abbrev Sa:=Rc::CI
abbrev AN:E:=pr ag (pr D6 (.ar .add .i64 aH (.int 1)))
abbrev JA:=jC::D73
abbrev Rl:E:=cmp .lss (fn 7 (pr (fn 0 ag) (.ar .add .i64 aH (.int 1)))) (fn 7 (pr (fn 0 ag) aH))
abbrev D83:=QY::T7
abbrev D84:=Df::D83
abbrev Yz:=tz::D84
abbrev D86:E:=cmp .lss (fn 7 (pr (fn 0 ag) (.ar .add .i64 aH (.int 1)))) (.int 0)
abbrev OS:E:=.not D86
abbrev pX:E:=fn 117 ag
abbrev kb:=[pX]
abbrev Lh:E:=fn 116 ag
abbrev R9:E:=fn 201 ee
abbrev D92:E:=pr ee (fn 1 (pr ag (.int 29)))
abbrev Pm:E:=fn 187 D92
abbrev YQ:E:=fn 201 aH
abbrev D95:E:=pr aH (fn 1 (pr ag (.int 30)))
abbrev D96:E:=fn 187 D95
abbrev RD:=[D96]
abbrev eY:E:=var 14
abbrev jR:E:=var 15
abbrev jX:E:=var 16
abbrev ed:E:=var 17
abbrev HD:E:=cmp .eql (fn 9 (pr (fn 1 (pr ag (.int 30))) (.int 5))) (.int 0)
abbrev Fp:E:=cmp .lss D9 D6
abbrev aex:E:=cmp .eql (fn 1 (pr D0 (fn 6 (pr (fn 8 (pr D9 (.int 12))) (.int 0))))) D1
abbrev XE:E:=cmp .eql (fn 208 (pr D0 (pr D1 D9))) (.int (-1))
abbrev Cf:E:=.not (cmp .lss D9 (.int 0))
abbrev aau:E:=cmp .eql (fn 9 (pr D0 (.int 12))) D6
abbrev avh:E:=cmp .lss (.int 30) D6
abbrev Yc:E:=.not avh
abbrev aFL:E:=cmp .lss D6 (.int 0)
abbrev GW:E:=.not aFL
abbrev uR:=[GW]
abbrev aCb:=Yc::uR
abbrev aps:=aau::aCb
abbrev aai:=Cf::aps
abbrev Yq:=XE::aai
abbrev TY:=Fp::aai
abbrev ay7:E:=pr D7 ag
abbrev Om:E:=fn 211 ay7
abbrev mQ:=[pX,Om]
abbrev auT:E:=fn 201 D3
abbrev ayE:E:=pr D6 (fn 0 (fn 1 (pr D7 (.int 6))))
abbrev aws:E:=pr (fn 1 (pr D7 (.int 6))) ayE
abbrev aqE:E:=pr D3 aws
abbrev aih:E:=fn 184 aqE
abbrev an0:E:=fn 201 D4
abbrev avy:E:=pr D6 (fn 0 (fn 1 (pr D7 (.int 7))))
abbrev aoQ:E:=pr (fn 1 (pr D7 (.int 7))) avy
abbrev apK:E:=pr D4 aoQ
abbrev ai9:E:=fn 184 apK
abbrev aCW:E:=fn 201 D9
abbrev aF9:E:=pr D6 (fn 0 (fn 1 (pr D7 (.int 8))))
abbrev apP:E:=pr (fn 1 (pr D7 (.int 8))) aF9
abbrev ajU:E:=pr D9 apP
abbrev axx:E:=fn 184 ajU
abbrev aFS:E:=fn 201 cT
abbrev alS:E:=pr D6 (fn 0 (fn 1 (pr D7 (.int 9))))
abbrev aif:E:=pr (fn 1 (pr D7 (.int 9))) alS
abbrev amp:E:=pr cT aif
abbrev awO:E:=fn 184 amp
abbrev ari:E:=pr D6 (fn 0 (fn 1 (pr D7 (.int 20))))
abbrev aA4:E:=pr (fn 1 (pr D7 (.int 20))) ari
abbrev aki:E:=pr ee aA4
abbrev anq:E:=fn 184 aki
abbrev ak6:E:=pr D6 (fn 0 (fn 1 (pr D7 (.int 21))))
abbrev azX:E:=pr (fn 1 (pr D7 (.int 21))) ak6
abbrev anw:E:=pr aH azX
abbrev awc:E:=fn 184 anw
abbrev awI:E:=fn 201 fE
abbrev aEC:E:=pr D6 (fn 0 (fn 1 (pr D7 (.int 22))))
abbrev an1:E:=pr (fn 1 (pr D7 (.int 22))) aEC
abbrev apy:E:=pr fE an1
abbrev aBP:E:=fn 184 apy
abbrev aFN:E:=fn 201 gY
abbrev ag6:E:=pr D6 (fn 0 (fn 1 (pr D7 (.int 23))))
abbrev aDT:E:=pr (fn 1 (pr D7 (.int 23))) ag6
abbrev afQ:E:=pr gY aDT
abbrev an7:E:=fn 184 afQ
abbrev axz:E:=fn 201 eY
abbrev ao2:E:=pr D6 (fn 0 (fn 1 (pr D7 (.int 31))))
abbrev aDF:E:=pr (fn 1 (pr D7 (.int 31))) ao2
abbrev aAv:E:=pr eY aDF
abbrev ar1:E:=fn 184 aAv
abbrev atS:=[ar1]
abbrev axc:=axz::atS
abbrev av9:=an7::axc
abbrev ayq:=aFN::av9
abbrev ahx:=aBP::ayq
abbrev amm:=awI::ahx
abbrev atC:=awc::amm
abbrev av2:=YQ::atC
abbrev axD:=anq::av2
abbrev anc:=R9::axD
abbrev aCw:=awO::anc
abbrev agT:=aFS::aCw
abbrev ayt:=axx::agT
abbrev aol:=aCW::ayt
abbrev aFv:=ai9::aol
abbrev auv:=an0::aFv
abbrev aDk:=aih::auv
abbrev asR:=auT::aDk
abbrev aag:=Om::asR
abbrev SG:=HD::aag
abbrev afn:E:=pr D2 (fn 1 (pr ag (.int 0)))
abbrev Vq:E:=fn 200 afn
abbrev BY:E:=cmp .eql eY (fn 9 (pr (fn 1 (pr ag (.int 0))) (.int 12)))
abbrev Bq:E:=fn 200 (pr jX (fn 1 (pr ag (.int 0))))
abbrev wq:E:=.not (cmp .lss (fn 120 (pr ag (pr D6 (fn 9 (pr (fn 1 (pr ag (.int 0))) (.int 12)))))) (.int 0))
abbrev aB8:E:=cmp .lss ed (.int (-1))
abbrev aaG:E:=.not aB8
abbrev aao:E:=cmp .eql ed (fn 208 (pr jX (pr D6 eY)))
abbrev U7:E:=pr (fn 1 (pr ag (.int 0))) (pr (fn 120 (pr ag (pr D6 (fn 9 (pr (fn 1 (pr ag (.int 0))) (.int 12)))))) (pr D6 (pr D7 (pr D0 (pr D1 (pr D2 (pr D3 (pr D4 (pr D9 (pr cT (pr ee (pr aH (pr fE (.int 0))))))))))))))
abbrev n7:E:=cmp .eql D7 (fn 120 (pr ag (pr D6 (fn 9 (pr (fn 1 (pr ag (.int 0))) (.int 12))))))
abbrev uH:E:=fn 209 (pr D0 HW)
abbrev MN:E:=cmp .eql (fn 1 (pr (fn 1 (pr ag (.int 0))) (fn 6 (pr (fn 8 (pr (fn 120 (pr ag (pr D6 (fn 9 (pr (fn 1 (pr ag (.int 0))) (.int 12)))))) (.int 12))) (.int 0))))) D6
abbrev qn:E:=fn 200 (pr (fn 1 (pr D0 (.int 0))) (fn 1 (pr ag (.int 0))))
abbrev vL:E:=cmp .eql (fn 1 (pr (fn 1 (pr ag (.int 0))) (fn 6 (pr (fn 8 (pr (fn 120 (pr ag (pr D6 (fn 9 (pr (fn 1 (pr ag (.int 0))) (.int 12)))))) (.int 12))) (.int 2))))) (.int 1)
abbrev yA:E:=cmp .eql (fn 1 (pr (fn 1 (pr ag (.int 0))) (fn 6 (pr (fn 8 (pr D7 (.int 12))) (.int 2))))) (.int 0)
abbrev M8:E:=fn 117 D0
abbrev ay8:E:=pr D1 D0
abbrev acL:E:=fn 211 ay8
abbrev FW:=[acL]
abbrev PW:=M8::FW
abbrev PO:E:=pr ag (pr D6 (.int 1))
abbrev ahh:E:=pr Hm (pr dQ (.int 0))
abbrev ayn:E:=pr dQ ahh
abbrev aCg:E:=pr (.int 0) ayn
abbrev ajP:E:=pr (.int 0) aCg
abbrev amQ:E:=pr (.int 0) ajP
abbrev aim:E:=pr (.int 0) amQ
abbrev aoJ:E:=pr (fn 1 (pr (fn 1 (pr ag (.int 0))) (fn 6 (pr (fn 8 (pr D7 (.int 12))) (.int 4))))) aim
abbrev ajK:E:=pr (fn 1 (pr (fn 1 (pr ag (.int 0))) (fn 6 (pr (fn 8 (pr D7 (.int 12))) (.int 3))))) aoJ
abbrev aBJ:E:=pr (fn 1 (pr (fn 1 (pr ag (.int 0))) (fn 6 (pr (fn 8 (pr D7 (.int 12))) (.int 2))))) ajK
abbrev aBh:E:=pr (fn 1 (pr (fn 1 (pr ag (.int 0))) (fn 6 (pr (fn 8 (pr D7 (.int 12))) (.int 1))))) aBJ
abbrev aA1:E:=pr (fn 1 (pr (fn 1 (pr ag (.int 0))) (fn 6 (pr (fn 8 (pr D7 (.int 12))) (.int 0))))) aBh
abbrev af0:E:=pr (fn 120 (pr D0 (pr (fn 1 (pr (fn 1 (pr ag (.int 0))) (fn 6 (pr (fn 8 (pr D7 (.int 12))) (.int 0))))) (fn 9 (pr (fn 1 (pr D0 (.int 0))) (.int 12)))))) aA1
abbrev afo:E:=pr (fn 1 (pr D0 (.int 0))) af0
abbrev aCn:E:=pr D4 afo
abbrev aaf:E:=fn 217 aCn
abbrev aEY:E:=pr (fn 1 (pr ag (.int 0))) (fn 120 (pr ag (pr D6 (fn 9 (pr (fn 1 (pr ag (.int 0))) (.int 12))))))
abbrev alL:E:=pr D4 aEY
abbrev RY:E:=fn 206 alL
abbrev qo:E:=.not (cmp .lss (.int 20) D6)
abbrev Kt:=qo::uR
abbrev azS:E:=cmp .lss (.int 500) (.ar .add .i64 (.int 0) D6)
abbrev Yh:E:=.not azS
abbrev KH:E:=cmp .eql D6 (.int 0)
abbrev zE:E:=cmp .eql D9 (.int 0)
abbrev AT:E:=.not (cmp .lss D9 (.int 1))
abbrev TV:E:=cmp .eql ee (.int 20)
abbrev PE:E:=cmp .lss D9 (.int 2)
abbrev An:E:=.not PE
abbrev Ve:E:=.imp An KH
abbrev NH:E:=.imp An TV
abbrev ack:E:=cmp .eql cT (.int 20)
abbrev Ze:E:=.imp AT ack
abbrev al2:=[NH,Ze]
abbrev abm:=Ve::al2
abbrev ahL:E:=pr (.int 0) (pr (.int 0) (.int 0))
abbrev aib:E:=pr (.int 0) ahL
abbrev amy:E:=pr (.int 0) aib
abbrev axR:E:=pr (.int 0) amy
abbrev WI:E:=pr D6 axR
abbrev GL:E:=cmp .eql jX (.int 20)
abbrev oT:E:=fn 214 ag
abbrev KM:E:=cmp .eql ed (.int 20)
abbrev aj0:E:=.imp AT KM
abbrev wW:List E:=[(.not (cmp .lss (.int 1) D9)),Cf]
abbrev aey:=aj0::wW
abbrev ZY:List E:=(.not zE)::aey
abbrev cv:E:=var 24
abbrev mo:E:=.not (cmp .lss cv (.int 1))
abbrev vr:E:=var 29
abbrev o5:E:=cmp .eql vr cv
abbrev jI:E:=var 26
abbrev qm:E:=cmp .eql jI cv
abbrev ZM:E:=cmp .eql D9 (.int 1)
abbrev aft:E:=pr D6 (pr (.int 0) (.int 0))
abbrev auK:E:=pr (fn 10 (.int 0)) aft
abbrev Zj:E:=pr ag auK
abbrev ass:E:=cmp .lss D6 (.int 1)
abbrev QC:E:=.not ass
abbrev qc:E:=cmp .lss cv D6
abbrev Cc:E:=.not qc
abbrev ahX:E:=cmp .lss D6 cv
abbrev Sd:E:=.not ahX
abbrev apw:=[Sd]
abbrev aAp:=qm::apw
abbrev MH:=o5::aAp
abbrev UF:=Cc::MH
abbrev aEN:E:=cmp .lss (.ar .add .i64 D9 (.int 1)) (.int 2)
abbrev Np:E:=.not aEN
abbrev abt:E:=.imp Np KM
abbrev zN:E:=cmp .eql (fn 0 ag) D6
abbrev ad0:E:=.imp Np KH
abbrev TT:E:=cmp .lss (.int 0) D6
abbrev TX:=zN::Kt
abbrev axy:=qm::TX
abbrev Ul:=o5::axy
abbrev agz:E:=pr cv (pr (.int 0) (.int 0))
abbrev aCA:E:=pr (fn 10 (.int 0)) agz
abbrev akJ:E:=pr ag aCA
abbrev avd:E:=pr (var 25) akJ
abbrev acS:E:=fn 202 avd
abbrev RA:E:=fn 215 (pr (var 28) cv)
abbrev ZI:=o5::TX
abbrev xC:=qc::mo::ZI
def aBZ:=fb ([D5,D8,(fn 183 (pr D9 (pr cT (pr ee (pr aH (pr fE KU))))))]) D20<|am fun F p0 p1 p2=>by
 have:=(@wZ F D4 D0 D1 D2 D3 ag D6 D7)
 have:=TW p2
 simp_all
def ajC:=fb ([D5,D8,(fn 183 (pr D9 (pr cT (pr ee (pr aH (pr (fn 10 (.int 0)) KU))))))]) D20<|am fun F p0 p1 p2=>by
 have:=(@wZ F D4 D0 D1 D2 D3 ag D6 D7)
 have:=TW p2
 simp_all
def aF5:=fb ([(fn 177 (pr (.int 4) (pr D4 (pr D0 (pr D1 (pr D2 (pr D3 Qy)))))))]) No<|az fun F p0=>by
 have:=(@wZ F D4 D0 D1 D2 D3 ag D6 D7)
 simp_all
def ajv:=fb ([(.not (.and D8 D5))]) No<|az fun F p0=>by
 have:=(@wZ F D4 D0 D1 D2 D3 ag D6 D7)
 try simp only[ab]at *
 grind
def p49:List Fa:=[iR,aBZ,ajC,aF5,ajv]
theorem awt:aU Try.prog (bn (aCC)):=sc p49 ([]) UU ([]) (by kernel_rfl) (by kernel_rfl)
def Ol:Nl:=nc (GJ (mss:=axJ) awt) UU
def alY:=fb ([(fn 158 (pr ag (fn 9 (pr ag (.int 5))))),lM,tz]) (.not (cmp .lss (.int 2147483648) (fn 9 (pr (fn 1 (pr ag (fn 6 (pr (fn 8 (pr aH (.int 5))) (.int 4))))) (.int 2)))))<|am fun F p0 p1 p2=>by
 have hr0:0<=E.I F _->E.I F _<E.I F _->E.I F (fn 9 (pr (fn 1 _) _))<=6:=fun h0 h1=>@ahA F _ aH _ p0 h0 h1
 try simp only[ab]at *
 grind
def awh:=fb ([(.not lM),Kl]) (fn 187 (pr (fn 30 (.int 0)) ag))<|au fun F p0 p1=>by
 have:=fun h0=>@afJ F (fn 30 (.int 0)) ag rfl h0
 try simp only[ab]at *
 grind
def awo:=fb ([(.not lM),OV,D30,Gf,Iu]) (fn 187 (pr (fn 28 (pr (pr fE cT) D9)) ag))<|aT fun F p0 p1 p2 p3 p4=>by
 have:=fun h1 h2=>@avV F _ _ _ (pr fE cT) p2 h1 h2
 try simp only[ab]at *
 grind
def aA0:=fb vG LY<|aF fun F p0 p1 p2 p3=>by
 try simp only[ab,aj]at *
 obtain⟨a5,ea5,qa5⟩:=ah ((E.I F aH)+(1))
 omega
def T9:=fa ((fn 201 (fn 30 (.int 0))))<|fun F=>by
 rfl
def ZA:=fb ((.not (cmp .lss ee cT))::Mz) (.not (cmp .lss ee (.int 0)))<|au fun F p0 p1=>by
 try simp only[ab]at *
 grind
def Sm:=fa ((fn 201 (fn 28 (pr (pr fE cT) D9))))<|fun F=>by
 rfl
def ag7:=fb vG Tz<|aF fun F p0 p1 p2 p3=>by
 try simp only[ab,aj]at *
 obtain⟨a5,ea5,qa5⟩:=ah ((E.I F aH)+(1))
 omega
def ate:=fb ([lM,td,Iu]) W1<|am fun F p0 p1 p2=>by
 try simp only[ab]at *
 grind
def alB:=fb vG (cmp .eql (.ar .add .i64 aH (.int 1)) (.int 1))<|aF fun F p0 p1 p2 p3=>by
 try simp only[ab,aj]at *
 obtain⟨a5,ea5,qa5⟩:=ah ((E.I F aH)+(1))
 omega
def axC:=fb XN LY<|aF fun F p0 p1 p2 p3=>by
 try simp only[ab,aj]at *
 obtain⟨a8,ea8,qa8⟩:=ah ((E.I F aH)+(1))
 omega
def anH:=fa ((cmp .eql (fn 8 (pr (.int 1) (.int 5))) (.int 5)))<|fun F=>by
 rfl
def ah3:=fb UJ Tz<|aT fun F p0 p1 p2 p3 p4=>by
 try simp only[ab,aj]at *
 obtain⟨a8,ea8,qa8⟩:=ah ((E.I F aH)+(1))
 omega
def arq:=fb ([lM,Kl,tz,(fn 190 ag),td]) (fn 181 (pr (fn 23 (pr (fn 1 (pr ag (fn 6 (pr (fn 8 (pr aH (.int 5))) (.int 0))))) (fn 23 (pr (fn 1 (pr ag (fn 6 (pr (fn 8 (pr aH (.int 5))) (.int 1))))) (fn 23 (pr (fn 1 (pr ag (fn 6 (pr (fn 8 (pr aH (.int 5))) (.int 2))))) (fn 23 (pr (fn 1 (pr ag (fn 6 (pr (fn 8 (pr aH (.int 5))) (.int 3))))) (fn 23 (pr (fn 28 (pr (pr gY (fn 9 (pr (fn 1 (pr ag (fn 6 (pr (fn 8 (pr aH (.int 5))) (.int 4))))) (.int 2)))) (fn 1 (pr ag (fn 6 (pr (fn 8 (pr aH (.int 5))) (.int 4))))))) (fn 10 (.int 0)))))))))))) QD))<|aT fun F p0 p1 p2 p3 p4=>by
 have:=@aA F aH (.int 1)
 have hr2:E.I F _=0->E.I F _<E.I F _->E.I F _=(E.I F _+1)*5->E.B F (fn _ (pr (fn 23 (pr (fn 1 _) (fn 23 (pr (fn 1 _) (fn 23 (pr (fn 1 _) (fn 23 (pr (fn 1 _) (fn 23 (pr (fn 28 (pr _ (fn 1 _))) _)))))))))) _))=true:=fun h0 h3 h4=>@auI F _ aH (fn 8 (pr (.ar .add .i64 aH (.int 1)) (.int 5))) p3 h0 h3 h4 gY (fn 9 (pr (fn 1 (pr ag (fn 6 (pr (fn 8 (pr aH (.int 5))) (.int 4))))) (.int 2)))
 try simp only[ab]at *
 grind
def aqY:=fb (lM::td::Q1) (cmp .eql (fn 6 (pr cT (.int 1))) (.ar .add .i64 aH (.int 1)))<|aT fun F p0 p1 p2 p3 p4=>by
 try simp only[ab,aj]at *
 obtain⟨a8,ea8,qa8⟩:=ah ((E.I F aH)+(1))
 omega
def afE:=fb vG D52<|aF fun F p0 p1 p2 p3=>by
 try simp only[ab,aj]at *
 obtain⟨a5,ea5,qa5⟩:=ah ((E.I F aH)+(1))
 omega
def agI:=fb ([Gf]) (cmp .eql (fn 6 (pr (fn 0 D9) (.int 5))) (fn 8 (pr (fn 6 (pr cT (.int 1))) (.int 5))))<|az fun F p0=>by
 try simp only[ab]at *
 grind
def aAK:=fb vG D54<|aF fun F p0 p1 p2 p3=>by
 try simp only[ab,aj]at *
 obtain⟨a5,ea5,qa5⟩:=ah ((E.I F aH)+(1))
 omega
def azo:=fb (lM::tz::(fn 190 ag)::td::D30::Q1) (fn 181 (pr (fn 3 (pr D9 (fn 23 (pr (fn 1 (pr ag (fn 6 (pr (fn 8 (pr aH (.int 5))) (.int 0))))) (fn 23 (pr (fn 1 (pr ag (fn 6 (pr (fn 8 (pr aH (.int 5))) (.int 1))))) (fn 23 (pr (fn 1 (pr ag (fn 6 (pr (fn 8 (pr aH (.int 5))) (.int 2))))) (fn 23 (pr (fn 1 (pr ag (fn 6 (pr (fn 8 (pr aH (.int 5))) (.int 3))))) (fn 23 (pr (fn 28 (pr (pr gY (fn 9 (pr (fn 1 (pr ag (fn 6 (pr (fn 8 (pr aH (.int 5))) (.int 4))))) (.int 2)))) (fn 1 (pr ag (fn 6 (pr (fn 8 (pr aH (.int 5))) (.int 4))))))) (fn 10 (.int 0)))))))))))))) QD))<|cU fun F p0 p1 p2 p3 p4 p5 p6 p7=>by
 have:=@aA F aH (.int 1)
 have hr2:0<=E.I F _->E.I F _=E.I F _*5->E.I F _=E.I F _*5->E.I F _<E.I F _->E.I F _=(E.I F _+1)*5->E.B F (fn _ (pr (fn 3 (pr _ (fn 23 (pr (fn 1 _) (fn 23 (pr (fn 1 _) (fn 23 (pr (fn 1 _) (fn 23 (pr (fn 1 _) (fn 23 (pr (fn 28 (pr _ (fn 1 _))) _)))))))))))) _))=true:=fun h0 h1 h2 h3 h4=>@aGp F _ _ aH (fn 8 (pr (.ar .add .i64 aH (.int 1)) (.int 5))) _ p4 p2 h0 h1 h2 h3 h4 gY (fn 9 (pr (fn 1 (pr ag (fn 6 (pr (fn 8 (pr aH (.int 5))) (.int 4))))) (.int 2)))
 try simp only[ab]at *
 grind
def agQ:=fb XN D52<|aF fun F p0 p1 p2 p3=>by
 try simp only[ab,aj]at *
 obtain⟨a8,ea8,qa8⟩:=ah ((E.I F aH)+(1))
 omega
def aAz:=fb UJ D54<|aT fun F p0 p1 p2 p3 p4=>by
 try simp only[ab,aj]at *
 obtain⟨a8,ea8,qa8⟩:=ah ((E.I F aH)+(1))
 omega
def p50:List Fa:=[iR,alY,awh,awo,aA0,T9,ZA,Sm,ag7,ate,alB,axC,anH,ah3,arq,aqY,afE,agI,aAK,azo,agQ,aAz]
theorem aza:aU Try.prog (bn (az2)):=sc p50 (apY) Ol (arV) (by kernel_rfl) (by kernel_rfl)
def adL:Nl:=nc aza Ol
def aju:=fa ((fn 184 (pr (fn 10 (.int 0)) HW)))<|fun F=>by
 rfl
def as6:=fb Nb LY<|am fun F p0 p1 p2=>by
 try simp only[ab,aj]at *
 obtain⟨a5,ea5,qa5⟩:=ah ((E.I F aH)+(1))
 omega
def apg:=fb ([(.not jC),Rc,uP]) (fn 184 (pr (fn 30 (.int 0)) XL))<|am fun F p0 p1 p2=>by
 have hr0:(E.I F _=E.I F _)->E.B F (fn _ (pr (fn 30 (.int 0)) (pr _ (pr _ (fn 0 ag)))))=true:=fun s0=>anh p1 s0
 try simp only[ab]at *
 grind
def akV:=fb ([(.not jC),uP,QY]) (fn 184 (pr (fn 28 (pr (pr fE cT) D9)) XL))<|am fun F p0 p1 p2=>by
 have hr0:(E.I F _=E.I F _)->E.B F (fn _ (pr (fn 28 (pr (pr fE cT) _)) (pr _ (pr _ (fn 0 ag)))))=true:=fun s0=>amo p2 s0
 try simp only[ab]at *
 grind
def arK:=fb (jC::uP::CI) D69<|aF fun F p0 p1 p2 p3=>by
 try simp only[ab,aj]at *
 obtain⟨a5,ea5,qa5⟩:=ah ((E.I F aH)+(1))
 omega
def aAa:=fb ([jC,Df,IG]) W1<|am fun F p0 p1 p2=>by
 try simp only[ab]at *
 grind
def alb:=fb Ws D69<|aT fun F p0 p1 p2 p3 p4=>by
 try simp only[ab,aj]at *
 obtain⟨a7,ea7,qa7⟩:=ah ((E.I F aH)+(1))
 omega
def awE:=fb (uP::IG::UV) (.not (cmp .lss (fn 0 ag) (fn 0 D9)))<|am fun F p0 p1 p2=>by
 try simp only[ab]at *
 grind
def au0:=fb Nb (.not (cmp .lss (.ar .add .i64 aH (.int 1)) (.int 1)))<|am fun F p0 p1 p2=>by
 try simp only[ab,aj]at *
 obtain⟨a5,ea5,qa5⟩:=ah ((E.I F aH)+(1))
 omega
def asr:=fb (jC::BB::Sa) (fn 184 (pr (fn 10 (.int 0)) AN))<|aT fun F p0 p1 p2 p3 p4=>by
 have:=@aA F aH (.int 1)
 have hr1:(0<=E.I F _)->(E.I F _<E.I F _)->(E.I F _=E.I F _+1)->(E.I F _=E.I F _)->E.B F (fn _ (pr _ (pr _ (pr _ (.ar .add .i64 aH (.int 1))))))=true:=fun s0 s1 s2 s3=>Q2 p2 s0 s1 s2 s3
 try simp only[ab]at *
 grind
def akK:=fb JA (.not (cmp .lss (.ar .add .i64 aH (.int 1)) cT))<|aF fun F p0 p1 p2 p3=>by
 try simp only[ab,aj]at *
 obtain⟨a7,ea7,qa7⟩:=ah ((E.I F aH)+(1))
 omega
def afp:=fb (jC::(.not BB)::Sa) (fn 184 (pr (fn 23 (pr (fn 1 (pr ag aH)) (fn 10 (.int 0)))) AN))<|aT fun F p0 p1 p2 p3 p4=>by
 have:=@aA F aH (.int 1)
 have hr0:(0<=E.I F _)->(E.I F _<E.I F _)->(E.I F _=E.I F _+1)->(¬E.I F _=E.I F _)->E.B F (fn _ (pr (fn 23 (pr _ (fn 10 (.int 0)))) (pr _ (pr _ (.ar .add .i64 aH (.int 1))))))=true:=fun s0 s1 s2 s3=>apu p2 s0 s1 s2 s3
 try simp only[ab]at *
 grind
def amY:=fb Nb Rl<|am fun F p0 p1 p2=>by
 try simp only[ab,aj]at *
 obtain⟨a4,ea4,qa4⟩:=ah ((E.I F aH)+(1))
 omega
def aiS:=fb (jC::BB::Yz) (fn 184 (pr D9 AN))<|ck fun F p0 p1 p2 p3 p4 p5 p6=>by
 have:=@aA F aH (.int 1)
 have hr0:(0<=E.I F _)->(E.I F _<E.I F _)->(E.I F _=E.I F _+1)->(E.I F _=E.I F _)->E.B F (fn _ (pr _ (pr _ (pr _ (.ar .add .i64 aH (.int 1))))))=true:=fun s0 s1 s2 s3=>Q2 p4 s0 s1 s2 s3
 try simp only[ab]at *
 grind
def asn:=fb (jC::uP::CI) OS<|aF fun F p0 p1 p2 p3=>by
 try simp only[ab,aj]at *
 obtain⟨a4,ea4,qa4⟩:=ah ((E.I F aH)+(1))
 omega
def azV:=fb UV (cmp .eql (fn 6 (pr (fn 0 D9) (.int 1))) (fn 6 (pr cT (.int 1))))<|az fun F p0=>by
 try simp only[ab]at *
 grind
def amK:=fb JA Rl<|aF fun F p0 p1 p2 p3=>by
 try simp only[ab,aj]at *
 obtain⟨a7,ea7,qa7⟩:=ah ((E.I F aH)+(1))
 omega
def ar3:=fb JA (.not (cmp .lss (.ar .add .i64 aH (.int 1)) (fn 6 (pr cT (.int 1)))))<|aF fun F p0 p1 p2 p3=>by
 try simp only[ab,aj]at *
 obtain⟨a8,ea8,qa8⟩:=ah ((E.I F aH)+(1))
 omega
def auu:=fb Ws OS<|aT fun F p0 p1 p2 p3 p4=>by
 try simp only[ab,aj]at *
 obtain⟨a7,ea7,qa7⟩:=ah ((E.I F aH)+(1))
 omega
def axd:=fb (jC::(.not BB)::Yz) (fn 184 (pr (fn 3 (pr D9 (fn 23 (pr (fn 1 (pr ag aH)) (fn 10 (.int 0)))))) AN))<|ck fun F p0 p1 p2 p3 p4 p5 p6=>by
 have:=@aA F aH (.int 1)
 have hr0:(0<=E.I F _)->(E.I F _<E.I F _)->(E.I F _=E.I F _+1)->(¬E.I F _=E.I F _)->E.B F (fn _ (pr (fn 3 (pr _ (fn 23 (pr _ (fn 10 (.int 0)))))) (pr _ (pr _ (.ar .add .i64 aH (.int 1))))))=true:=fun s0 s1 s2 s3=>aix p4 s0 s1 s2 s3
 try simp only[ab]at *
 grind
def p51:List Fa:=[iR,aju,as6,apg,ZA,akV,arK,T9,aAa,alb,awE,au0,asr,akK,Sm,afp,amY,aiS,asn,azV,amK,ar3,auu,axd]
theorem aiV:aU Try.prog (bn (ajf)):=sc p51 (akM) adL (msI) (by kernel_rfl) (by kernel_rfl)
def Ya:Nl:=nc aiV adL
def ao0:=fb kb (.not (cmp .lss (.int 2147483648) (fn 9 (pr (fn 1 (pr ag (.int 0))) (.int 12)))))<|az fun F p0=>by
 have:=aw p0
 try simp only[ab]at *
 omega
def axF:=fb kb (.not (cmp .lss (.int 2147483648) (fn 0 (fn 1 (pr ag (.int 6))))))<|az fun F p0=>by
 have:=aw p0
 try simp only[ab]at *
 omega
def arD:=fb kb (.not (cmp .lss (.int 2147483648) (fn 0 (fn 1 (pr ag (.int 7))))))<|az fun F p0=>by
 have:=aw p0
 try simp only[ab]at *
 omega
def axa:=fb kb (.not (cmp .lss (.int 2147483648) (fn 0 (fn 1 (pr ag (.int 8))))))<|az fun F p0=>by
 have:=aw p0
 try simp only[ab]at *
 omega
def aGC:=fb kb (.not (cmp .lss (.int 2147483648) (fn 0 (fn 1 (pr ag (.int 9))))))<|az fun F p0=>by
 have:=aw p0
 try simp only[ab]at *
 omega
def azD:=fb kb (.not (cmp .lss (.int 2147483648) (fn 0 (fn 1 (pr ag (.int 20))))))<|az fun F p0=>by
 have:=aw p0
 try simp only[ab]at *
 omega
def afV:=fb kb (.not (cmp .lss (.int 2147483648) (fn 0 (fn 1 (pr ag (.int 21))))))<|az fun F p0=>by
 have:=aw p0
 try simp only[ab]at *
 omega
def axM:=fb kb (.not (cmp .lss (.int 2147483648) (fn 0 (fn 1 (pr ag (.int 22))))))<|az fun F p0=>by
 have:=aw p0
 try simp only[ab]at *
 omega
def azu:=fb kb (.not (cmp .lss (.int 2147483648) (fn 0 (fn 1 (pr ag (.int 23))))))<|az fun F p0=>by
 have:=aw p0
 try simp only[ab]at *
 omega
def ayM:=fb kb (fn 158 (pr (fn 1 (pr ag (.int 29))) (fn 9 (pr (fn 1 (pr ag (.int 29))) (.int 5)))))<|az fun F p0=>by
 simp_all[E4]
def aD5:=fb ([Lh]) (fn 190 (fn 1 (pr ag (.int 29))))<|az fun F p0=>by
 have:=adO p0 29 (by decide)
 omega
def ayD:=fb kb (fn 158 (pr (fn 1 (pr ag (.int 30))) (fn 9 (pr (fn 1 (pr ag (.int 30))) (.int 5)))))<|az fun F p0=>by
 simp_all[E4]
def aBl:=fb ([Lh]) (fn 190 (fn 1 (pr ag (.int 30))))<|az fun F p0=>by
 have:=adO p0 30 (by decide)
 omega
def ash:=fb kb (.not (cmp .lss (.int 2147483648) (fn 0 (fn 1 (pr ag (.int 31))))))<|az fun F p0=>by
 have:=@E4 F ag
 try simp only[ab]at *
 grind
def atX:=fb ((cmp .eql (fn 9 (pr (fn 1 (pr ag (.int 32))) (.int 2))) (.int 0))::Lh::R9::Pm::YQ::RD) (fn 211 (pr (fn 23 (pr (fn 1 (pr ag (.int 0))) (fn 23 (pr (fn 1 (pr ag (.int 1))) (fn 23 (pr (fn 1 (pr ag (.int 2))) (fn 23 (pr (fn 1 (pr ag (.int 3))) (fn 23 (pr (fn 1 (pr ag (.int 4))) (fn 23 (pr (fn 1 (pr ag (.int 5))) (fn 23 (pr (fn 28 (pr (pr gY (fn 0 (fn 1 (pr ag (.int 6))))) (fn 1 (pr ag (.int 6))))) (fn 23 (pr (fn 28 (pr (pr eY (fn 0 (fn 1 (pr ag (.int 7))))) (fn 1 (pr ag (.int 7))))) (fn 23 (pr (fn 28 (pr (pr jR (fn 0 (fn 1 (pr ag (.int 8))))) (fn 1 (pr ag (.int 8))))) (fn 23 (pr (fn 28 (pr (pr jX (fn 0 (fn 1 (pr ag (.int 9))))) (fn 1 (pr ag (.int 9))))) (fn 23 (pr (fn 1 (pr ag (.int 10))) (fn 23 (pr (fn 1 (pr ag (.int 11))) (fn 23 (pr (fn 1 (pr ag (.int 12))) (fn 23 (pr (fn 1 (pr ag (.int 13))) (fn 23 (pr (fn 1 (pr ag (.int 14))) (fn 23 (pr (fn 1 (pr ag (.int 15))) (fn 23 (pr (fn 1 (pr ag (.int 16))) (fn 23 (pr (fn 1 (pr ag (.int 17))) (fn 23 (pr (fn 1 (pr ag (.int 18))) (fn 23 (pr (fn 1 (pr ag (.int 19))) (fn 23 (pr (fn 28 (pr (pr ed (fn 0 (fn 1 (pr ag (.int 20))))) (fn 1 (pr ag (.int 20))))) (fn 23 (pr (fn 28 (pr (pr (var 18) (fn 0 (fn 1 (pr ag (.int 21))))) (fn 1 (pr ag (.int 21))))) (fn 23 (pr (fn 28 (pr (pr (var 19) (fn 0 (fn 1 (pr ag (.int 22))))) (fn 1 (pr ag (.int 22))))) (fn 23 (pr (fn 28 (pr (pr (var 20) (fn 0 (fn 1 (pr ag (.int 23))))) (fn 1 (pr ag (.int 23))))) (fn 23 (pr (fn 1 (pr ag (.int 24))) (fn 23 (pr (fn 1 (pr ag (.int 25))) (fn 23 (pr (fn 1 (pr ag (.int 26))) (fn 23 (pr (fn 1 (pr ag (.int 27))) (fn 23 (pr (fn 1 (pr ag (.int 28))) (fn 23 (pr ee (fn 23 (pr aH (fn 23 (pr (fn 28 (pr (pr (var 21) (fn 0 (fn 1 (pr ag (.int 31))))) (fn 1 (pr ag (.int 31))))) (fn 23 (pr (fn 30 (.int 0)) (fn 23 (pr (fn 1 (pr ag (.int 33))) (fn 23 (pr (fn 1 (pr ag (.int 34))) (fn 23 (pr (fn 1 (pr ag (.int 35))) (fn 23 (pr (fn 1 (pr ag (.int 36))) (fn 23 (pr (fn 1 (pr ag (.int 37))) (fn 10 (.int 0)))))))))))))))))))))))))))))))))))))))))))))))))))))))))))))))))))))))))))))) ag))<|bU fun F p0 p1 p2 p3 p4 p5=>by
 have h1:=@amW F ag ([(fn 1 (pr ag (.int 0))),(fn 1 (pr ag (.int 1))),(fn 1 (pr ag (.int 2))),(fn 1 (pr ag (.int 3))),(fn 1 (pr ag (.int 4))),(fn 1 (pr ag (.int 5))),(fn 28 (pr (pr gY (fn 0 (fn 1 (pr ag (.int 6))))) (fn 1 (pr ag (.int 6))))),(fn 28 (pr (pr eY (fn 0 (fn 1 (pr ag (.int 7))))) (fn 1 (pr ag (.int 7))))),(fn 28 (pr (pr jR (fn 0 (fn 1 (pr ag (.int 8))))) (fn 1 (pr ag (.int 8))))),(fn 28 (pr (pr jX (fn 0 (fn 1 (pr ag (.int 9))))) (fn 1 (pr ag (.int 9))))),(fn 1 (pr ag (.int 10))),(fn 1 (pr ag (.int 11))),(fn 1 (pr ag (.int 12))),(fn 1 (pr ag (.int 13))),(fn 1 (pr ag (.int 14))),(fn 1 (pr ag (.int 15))),(fn 1 (pr ag (.int 16))),(fn 1 (pr ag (.int 17))),(fn 1 (pr ag (.int 18))),(fn 1 (pr ag (.int 19))),(fn 28 (pr (pr ed (fn 0 (fn 1 (pr ag (.int 20))))) (fn 1 (pr ag (.int 20))))),(fn 28 (pr (pr (var 18) (fn 0 (fn 1 (pr ag (.int 21))))) (fn 1 (pr ag (.int 21))))),(fn 28 (pr (pr (var 19) (fn 0 (fn 1 (pr ag (.int 22))))) (fn 1 (pr ag (.int 22))))),(fn 28 (pr (pr (var 20) (fn 0 (fn 1 (pr ag (.int 23))))) (fn 1 (pr ag (.int 23))))),(fn 1 (pr ag (.int 24))),(fn 1 (pr ag (.int 25))),(fn 1 (pr ag (.int 26))),(fn 1 (pr ag (.int 27))),(fn 1 (pr ag (.int 28))),ee,aH,(fn 28 (pr (pr (var 21) (fn 0 (fn 1 (pr ag (.int 31))))) (fn 1 (pr ag (.int 31))))),(fn 30 (.int 0)),(fn 1 (pr ag (.int 33))),(fn 1 (pr ag (.int 34))),(fn 1 (pr ag (.int 35))),(fn 1 (pr ag (.int 36))),(fn 1 (pr ag (.int 37)))]) rfl;exact h1 ⟨sq0,⟨dZ 1 rfl,⟨dZ 2 rfl,⟨dZ 3 rfl,⟨dZ 4 rfl,⟨dZ 5 rfl,⟨nM 6 (by decide) p1 rfl nA n9,⟨nM 7 (by decide) p1 rfl nA n9,⟨nM 8 (by decide) p1 rfl nA n9,⟨nM 9 (by decide) p1 rfl nA n9,⟨dZ 10 rfl,⟨dZ 11 rfl,⟨dZ 12 rfl,⟨dZ 13 rfl,⟨dZ 14 rfl,⟨dZ 15 rfl,⟨dZ 16 rfl,⟨dZ 17 rfl,⟨dZ 18 rfl,⟨dZ 19 rfl,⟨nM 20 (by decide) p1 rfl nA n9,⟨nM 21 (by decide) p1 rfl nA n9,⟨nM 22 (by decide) p1 rfl nA n9,⟨nM 23 (by decide) p1 rfl nA n9,⟨dZ 24 rfl,⟨dZ 25 rfl,⟨dZ 26 rfl,⟨dZ 27 rfl,⟨dZ 28 rfl,⟨Jw 29 rfl p2 (Em p3),⟨Jw 30 rfl p4 (Em p5),⟨nM 31 (by decide) p1 rfl nA n9,⟨Jw 32 rfl qY (oU.trans (EQ p0).symm),⟨dZ 33 rfl,⟨dZ 34 rfl,⟨dZ 35 rfl,⟨dZ 36 rfl,⟨dZ 37 rfl,trivial⟩⟩⟩⟩⟩⟩⟩⟩⟩⟩⟩⟩⟩⟩⟩⟩⟩⟩⟩⟩⟩⟩⟩⟩⟩⟩⟩⟩⟩⟩⟩⟩⟩⟩⟩⟩⟩⟩
def atI:=fa ((fn 200 (pr (fn 1 (pr ag (.int 0))) (fn 1 (pr ag (.int 0))))))<|fun F=>by
 exact aoG
def aB9:=fb ([(cmp .eql (fn 9 (pr (fn 1 (pr ag (.int 29))) (.int 5))) (.int 0)),Pm]) (cmp .eql (fn 9 (pr ee (.int 5))) (.int 0))<|au fun F p0 p1=>by
 have:=Em p1
 simp_all
def awe:=fb (HD::RD) (cmp .eql (fn 9 (pr aH (.int 5))) (.int 0))<|au fun F p0 p1=>by
 have:=Em p1
 simp_all
def atH:=fa ((cmp .eql (fn 9 (pr (fn 30 (.int 0)) (.int 2))) (.int 0)))<|fun F=>by
 have:=@oU F (.int 0) (.int 2)
 try simp only[ab]at *
 omega
def p52:List Fa:=[iR,ao0,axF,arD,axa,aGC,azD,afV,axM,azu,ayM,aD5,ayD,aBl,ash,atX,atI,aB9,awe,atH]
theorem av3:aU Try.prog (bn (aAU)):=sc p52 ([]) Ya (AU) (by kernel_rfl) (by kernel_rfl)
def Ny:Nl:=nc av3 Ya
def aqG:=fa ((cmp .eql (fn 208 (pr D0 (pr D1 (.int 0)))) (.int (-1))))<|fun F=>by
 have:=@xZ F D1 (.int 0) D0
 try simp only[ab]at *
 first | omega | grind
def ae7:=fb (Fp::aex::Yq) (cmp .eql D9 (fn 208 (pr D0 (pr D1 D6))))<|ck fun F p0 p1 p2 p3 p4 p5 p6=>by
 have:=@xw F D1 D6 D0 D9
 have:=@uf F D1 D6 D0 D9
 have:=@xZ F D1 D6 D0
 have:=@zP F D1 D9 D0 D6
 have:=@xw F D1 D9 D0 D6
 have:=@uf F D1 D9 D0 D6
 try simp only[ab]at *
 first | omega | grind
def aCK:=fb ([(.not Fp),XE,(.not (cmp .lss D6 D9)),Cf,aau,Yc]) (cmp .eql (fn 208 (pr D0 (pr D1 D6))) (.int (-1)))<|bU fun F p0 p1 p2 p3 p4 p5=>by
 have:=@uf F D1 D6 D0 D9
 have:=@xZ F D1 D6 D0
 have:=@zP F D1 D9 D0 D6
 have:=@xw F D1 D9 D0 D6
 have:=@uf F D1 D9 D0 D6
 try simp only[ab]at *
 first | omega | grind
def ar6:=fb TY (.not (cmp .lss D6 (.ar .add .i64 D9 (.int 1))))<|aT fun F p0 p1 p2 p3 p4=>by
 have:=@aA F D9 (.int 1)
 try simp only[ab]at *
 first | omega | grind
def anp:=fb (Fp::(.not aex)::Yq) (cmp .eql (fn 208 (pr D0 (pr D1 (.ar .add .i64 D9 (.int 1))))) (.int (-1)))<|ck fun F p0 p1 p2 p3 p4 p5 p6=>by
 have:=@aA F D9 (.int 1)
 have:=@zP F D1 (.ar .add .i64 D9 (.int 1)) D0 D9
 have:=@xw F D1 (.ar .add .i64 D9 (.int 1)) D0 D9
 have:=@uf F D1 (.ar .add .i64 D9 (.int 1)) D0 D9
 have:=@xZ F D1 (.ar .add .i64 D9 (.int 1)) D0
 have:=@zP F D1 D9 D0 (.ar .add .i64 D9 (.int 1))
 have:=@xw F D1 D9 D0 (.ar .add .i64 D9 (.int 1))
 have:=@uf F D1 D9 D0 (.ar .add .i64 D9 (.int 1))
 try simp only[ab]at *
 first | omega | grind
def apr:=fb TY (.not (cmp .lss (fn 7 (pr D6 (.ar .add .i64 D9 (.int 1)))) (.int 0)))<|aT fun F p0 p1 p2 p3 p4=>by
 have:=@aA F D9 (.int 1)
 try simp only[ab]at *
 first | omega | grind
def p53:List Fa:=[iR,aqG,ae7,ach,aCK,ar6,anp,P9,apr]
theorem aus:aU Try.prog (bn (aGT)):=sc p53 (auC) Ny ([]) (by kernel_rfl) (by kernel_rfl)
def adj:Nl:=nc aus Ny
def aiO:=fb mQ (.not (cmp .lss (.int 40) (fn 0 (fn 1 (pr D7 (.int 6))))))<|au fun F p0 p1=>by
 have:=aw p0
 have:=kv p1 6 (by decide) rfl rfl
 try simp only[ab]at *
 simp_all
def alM:=fb mQ (.not (cmp .lss (.int 40) (fn 0 (fn 1 (pr D7 (.int 7))))))<|au fun F p0 p1=>by
 have:=aw p0
 have:=kv p1 7 (by decide) rfl rfl
 try simp only[ab]at *
 simp_all
def asm:=fb mQ (.not (cmp .lss (.int 40) (fn 0 (fn 1 (pr D7 (.int 8))))))<|au fun F p0 p1=>by
 have:=aw p0
 have:=kv p1 8 (by decide) rfl rfl
 try simp only[ab]at *
 simp_all
def axQ:=fb mQ (.not (cmp .lss (.int 40) (fn 0 (fn 1 (pr D7 (.int 9))))))<|au fun F p0 p1=>by
 have:=aw p0
 have:=kv p1 9 (by decide) rfl rfl
 try simp only[ab]at *
 simp_all
def asp:=fb mQ (.not (cmp .lss (.int 40) (fn 0 (fn 1 (pr D7 (.int 20))))))<|au fun F p0 p1=>by
 have:=aw p0
 have:=kv p1 20 (by decide) rfl rfl
 try simp only[ab]at *
 simp_all
def avY:=fb mQ (.not (cmp .lss (.int 40) (fn 0 (fn 1 (pr D7 (.int 21))))))<|au fun F p0 p1=>by
 have:=aw p0
 have:=kv p1 21 (by decide) rfl rfl
 try simp only[ab]at *
 simp_all
def ak0:=fb mQ (.not (cmp .lss (.int 40) (fn 0 (fn 1 (pr D7 (.int 22))))))<|au fun F p0 p1=>by
 have:=aw p0
 have:=kv p1 22 (by decide) rfl rfl
 try simp only[ab]at *
 simp_all
def aqZ:=fb mQ (.not (cmp .lss (.int 40) (fn 0 (fn 1 (pr D7 (.int 23))))))<|au fun F p0 p1=>by
 have:=aw p0
 have:=kv p1 23 (by decide) rfl rfl
 try simp only[ab]at *
 simp_all
def ax0:=fb mQ (.not (cmp .lss (.int 40) (fn 0 (fn 1 (pr D7 (.int 31))))))<|au fun F p0 p1=>by
 have:=aw p0
 have:=kv p1 31 (by decide) rfl rfl
 try simp only[ab]at *
 grind
def auD:=fb SG (fn 209 (pr (fn 23 (pr (fn 28 (pr (pr jR D0) D2)) (fn 23 (pr (fn 1 (pr D7 (.int 1))) (fn 23 (pr (fn 1 (pr D7 (.int 2))) (fn 23 (pr (fn 1 (pr D7 (.int 3))) (fn 23 (pr (fn 1 (pr D7 (.int 4))) (fn 23 (pr (fn 1 (pr D7 (.int 5))) (fn 23 (pr D3 (fn 23 (pr D4 (fn 23 (pr D9 (fn 23 (pr cT (fn 23 (pr (fn 1 (pr D7 (.int 10))) (fn 23 (pr (fn 1 (pr D7 (.int 11))) (fn 23 (pr (fn 1 (pr D7 (.int 12))) (fn 23 (pr (fn 1 (pr D7 (.int 13))) (fn 23 (pr (fn 1 (pr D7 (.int 14))) (fn 23 (pr (fn 1 (pr D7 (.int 15))) (fn 23 (pr (fn 1 (pr D7 (.int 16))) (fn 23 (pr (fn 1 (pr D7 (.int 17))) (fn 23 (pr (fn 1 (pr D7 (.int 18))) (fn 23 (pr (fn 1 (pr D7 (.int 19))) (fn 23 (pr ee (fn 23 (pr aH (fn 23 (pr fE (fn 23 (pr gY (fn 23 (pr (fn 1 (pr D7 (.int 24))) (fn 23 (pr (fn 1 (pr D7 (.int 25))) (fn 23 (pr (fn 1 (pr D7 (.int 26))) (fn 23 (pr (fn 1 (pr D7 (.int 27))) (fn 23 (pr (fn 1 (pr D7 (.int 28))) (fn 23 (pr (fn 30 (.int 0)) (fn 23 (pr (fn 1 (pr D7 (.int 30))) (fn 23 (pr eY (fn 23 (pr (fn 30 (.int 0)) (fn 23 (pr (fn 1 (pr D7 (.int 33))) (fn 23 (pr (fn 1 (pr D7 (.int 34))) (fn 23 (pr (fn 1 (pr D7 (.int 35))) (fn 23 (pr (fn 1 (pr D7 (.int 36))) (fn 23 (pr (fn 1 (pr D7 (.int 37))) (fn 10 (.int 0)))))))))))))))))))))))))))))))))))))))))))))))))))))))))))))))))))))))))))))) HW))<|Cq fun F p0 p1 p2 p3 p4 p5 p6 p7 p8 p9 ao av ax aB aC aE aL aQ bb bm=>by
 have h1:=@Ce F ag (.int 0) D6 ([(fn 28 (pr (pr jR D0) D2)),(fn 1 (pr D7 (.int 1))),(fn 1 (pr D7 (.int 2))),(fn 1 (pr D7 (.int 3))),(fn 1 (pr D7 (.int 4))),(fn 1 (pr D7 (.int 5))),D3,D4,D9,cT,(fn 1 (pr D7 (.int 10))),(fn 1 (pr D7 (.int 11))),(fn 1 (pr D7 (.int 12))),(fn 1 (pr D7 (.int 13))),(fn 1 (pr D7 (.int 14))),(fn 1 (pr D7 (.int 15))),(fn 1 (pr D7 (.int 16))),(fn 1 (pr D7 (.int 17))),(fn 1 (pr D7 (.int 18))),(fn 1 (pr D7 (.int 19))),ee,aH,fE,gY,(fn 1 (pr D7 (.int 24))),(fn 1 (pr D7 (.int 25))),(fn 1 (pr D7 (.int 26))),(fn 1 (pr D7 (.int 27))),(fn 1 (pr D7 (.int 28))),(fn 30 (.int 0)),(fn 1 (pr D7 (.int 30))),eY,(fn 30 (.int 0)),(fn 1 (pr D7 (.int 33))),(fn 1 (pr D7 (.int 34))),(fn 1 (pr D7 (.int 35))),(fn 1 (pr D7 (.int 36))),(fn 1 (pr D7 (.int 37)))]) rfl;have h209:=h1 ⟨HN,⟨aX 1 (by decide) rfl rfl rfl p1,⟨aX 2 (by decide) rfl rfl rfl p1,⟨aX 3 (by decide) rfl rfl rfl p1,⟨aX 4 (by decide) rfl rfl rfl p1,⟨aX 5 (by decide) rfl rfl rfl p1,⟨dM 6 (by decide) rfl rfl rfl p1 p3 p2,⟨dM 7 (by decide) rfl rfl rfl p1 p5 p4,⟨dM 8 (by decide) rfl rfl rfl p1 p7 p6,⟨dM 9 (by decide) rfl rfl rfl p1 p9 p8,⟨aX 10 (by decide) rfl rfl rfl p1,⟨aX 11 (by decide) rfl rfl rfl p1,⟨aX 12 (by decide) rfl rfl rfl p1,⟨aX 13 (by decide) rfl rfl rfl p1,⟨aX 14 (by decide) rfl rfl rfl p1,⟨aX 15 (by decide) rfl rfl rfl p1,⟨aX 16 (by decide) rfl rfl rfl p1,⟨aX 17 (by decide) rfl rfl rfl p1,⟨aX 18 (by decide) rfl rfl rfl p1,⟨aX 19 (by decide) rfl rfl rfl p1,⟨dM 20 (by decide) rfl rfl rfl p1 av ao,⟨dM 21 (by decide) rfl rfl rfl p1 aB ax,⟨dM 22 (by decide) rfl rfl rfl p1 aE aC,⟨dM 23 (by decide) rfl rfl rfl p1 aQ aL,⟨aX 24 (by decide) rfl rfl rfl p1,⟨aX 25 (by decide) rfl rfl rfl p1,⟨aX 26 (by decide) rfl rfl rfl p1,⟨aX 27 (by decide) rfl rfl rfl p1,⟨aX 28 (by decide) rfl rfl rfl p1,⟨u9 29 rfl rfl rfl qY oU,⟨JV 30 (by decide) rfl rfl rfl p1 (EQ p0),⟨dM 31 (by decide) rfl rfl rfl p1 bm bb,⟨u9 32 rfl rfl rfl qY oU,⟨aX 33 (by decide) rfl rfl rfl p1,⟨aX 34 (by decide) rfl rfl rfl p1,⟨aX 35 (by decide) rfl rfl rfl p1,⟨aX 36 (by decide) rfl rfl rfl p1,⟨aX 37 (by decide) rfl rfl rfl p1,trivial⟩⟩⟩⟩⟩⟩⟩⟩⟩⟩⟩⟩⟩⟩⟩⟩⟩⟩⟩⟩⟩⟩⟩⟩⟩⟩⟩⟩⟩⟩⟩⟩⟩⟩⟩⟩⟩⟩;exact h209
def alv:=fb ([Vq]) (fn 200 (pr (fn 28 (pr (pr jR D0) D2)) (fn 1 (pr ag (.int 0)))))<|az fun F p0=>by
 exact aAN p0
def aCQ:=fb SG (fn 116 (fn 23 (pr (fn 28 (pr (pr jR D0) D2)) (fn 23 (pr (fn 1 (pr D7 (.int 1))) (fn 23 (pr (fn 1 (pr D7 (.int 2))) (fn 23 (pr (fn 1 (pr D7 (.int 3))) (fn 23 (pr (fn 1 (pr D7 (.int 4))) (fn 23 (pr (fn 1 (pr D7 (.int 5))) (fn 23 (pr D3 (fn 23 (pr D4 (fn 23 (pr D9 (fn 23 (pr cT (fn 23 (pr (fn 1 (pr D7 (.int 10))) (fn 23 (pr (fn 1 (pr D7 (.int 11))) (fn 23 (pr (fn 1 (pr D7 (.int 12))) (fn 23 (pr (fn 1 (pr D7 (.int 13))) (fn 23 (pr (fn 1 (pr D7 (.int 14))) (fn 23 (pr (fn 1 (pr D7 (.int 15))) (fn 23 (pr (fn 1 (pr D7 (.int 16))) (fn 23 (pr (fn 1 (pr D7 (.int 17))) (fn 23 (pr (fn 1 (pr D7 (.int 18))) (fn 23 (pr (fn 1 (pr D7 (.int 19))) (fn 23 (pr ee (fn 23 (pr aH (fn 23 (pr fE (fn 23 (pr gY (fn 23 (pr (fn 1 (pr D7 (.int 24))) (fn 23 (pr (fn 1 (pr D7 (.int 25))) (fn 23 (pr (fn 1 (pr D7 (.int 26))) (fn 23 (pr (fn 1 (pr D7 (.int 27))) (fn 23 (pr (fn 1 (pr D7 (.int 28))) (fn 23 (pr (fn 30 (.int 0)) (fn 23 (pr (fn 1 (pr D7 (.int 30))) (fn 23 (pr eY (fn 23 (pr (fn 30 (.int 0)) (fn 23 (pr (fn 1 (pr D7 (.int 33))) (fn 23 (pr (fn 1 (pr D7 (.int 34))) (fn 23 (pr (fn 1 (pr D7 (.int 35))) (fn 23 (pr (fn 1 (pr D7 (.int 36))) (fn 23 (pr (fn 1 (pr D7 (.int 37))) (fn 10 (.int 0)))))))))))))))))))))))))))))))))))))))))))))))))))))))))))))))))))))))))))))))<|Cq fun F p0 p1 p2 p3 p4 p5 p6 p7 p8 p9 ao av ax aB aC aE aL aQ bb bm=>by
 have h1:=@Ce F ag (.int 0) D6 ([(fn 28 (pr (pr jR D0) D2)),(fn 1 (pr D7 (.int 1))),(fn 1 (pr D7 (.int 2))),(fn 1 (pr D7 (.int 3))),(fn 1 (pr D7 (.int 4))),(fn 1 (pr D7 (.int 5))),D3,D4,D9,cT,(fn 1 (pr D7 (.int 10))),(fn 1 (pr D7 (.int 11))),(fn 1 (pr D7 (.int 12))),(fn 1 (pr D7 (.int 13))),(fn 1 (pr D7 (.int 14))),(fn 1 (pr D7 (.int 15))),(fn 1 (pr D7 (.int 16))),(fn 1 (pr D7 (.int 17))),(fn 1 (pr D7 (.int 18))),(fn 1 (pr D7 (.int 19))),ee,aH,fE,gY,(fn 1 (pr D7 (.int 24))),(fn 1 (pr D7 (.int 25))),(fn 1 (pr D7 (.int 26))),(fn 1 (pr D7 (.int 27))),(fn 1 (pr D7 (.int 28))),(fn 30 (.int 0)),(fn 1 (pr D7 (.int 30))),eY,(fn 30 (.int 0)),(fn 1 (pr D7 (.int 33))),(fn 1 (pr D7 (.int 34))),(fn 1 (pr D7 (.int 35))),(fn 1 (pr D7 (.int 36))),(fn 1 (pr D7 (.int 37)))]) rfl;have h209:=h1 ⟨HN,⟨aX 1 (by decide) rfl rfl rfl p1,⟨aX 2 (by decide) rfl rfl rfl p1,⟨aX 3 (by decide) rfl rfl rfl p1,⟨aX 4 (by decide) rfl rfl rfl p1,⟨aX 5 (by decide) rfl rfl rfl p1,⟨dM 6 (by decide) rfl rfl rfl p1 p3 p2,⟨dM 7 (by decide) rfl rfl rfl p1 p5 p4,⟨dM 8 (by decide) rfl rfl rfl p1 p7 p6,⟨dM 9 (by decide) rfl rfl rfl p1 p9 p8,⟨aX 10 (by decide) rfl rfl rfl p1,⟨aX 11 (by decide) rfl rfl rfl p1,⟨aX 12 (by decide) rfl rfl rfl p1,⟨aX 13 (by decide) rfl rfl rfl p1,⟨aX 14 (by decide) rfl rfl rfl p1,⟨aX 15 (by decide) rfl rfl rfl p1,⟨aX 16 (by decide) rfl rfl rfl p1,⟨aX 17 (by decide) rfl rfl rfl p1,⟨aX 18 (by decide) rfl rfl rfl p1,⟨aX 19 (by decide) rfl rfl rfl p1,⟨dM 20 (by decide) rfl rfl rfl p1 av ao,⟨dM 21 (by decide) rfl rfl rfl p1 aB ax,⟨dM 22 (by decide) rfl rfl rfl p1 aE aC,⟨dM 23 (by decide) rfl rfl rfl p1 aQ aL,⟨aX 24 (by decide) rfl rfl rfl p1,⟨aX 25 (by decide) rfl rfl rfl p1,⟨aX 26 (by decide) rfl rfl rfl p1,⟨aX 27 (by decide) rfl rfl rfl p1,⟨aX 28 (by decide) rfl rfl rfl p1,⟨u9 29 rfl rfl rfl qY oU,⟨JV 30 (by decide) rfl rfl rfl p1 (EQ p0),⟨dM 31 (by decide) rfl rfl rfl p1 bm bb,⟨u9 32 rfl rfl rfl qY oU,⟨aX 33 (by decide) rfl rfl rfl p1,⟨aX 34 (by decide) rfl rfl rfl p1,⟨aX 35 (by decide) rfl rfl rfl p1,⟨aX 36 (by decide) rfl rfl rfl p1,⟨aX 37 (by decide) rfl rfl rfl p1,trivial⟩⟩⟩⟩⟩⟩⟩⟩⟩⟩⟩⟩⟩⟩⟩⟩⟩⟩⟩⟩⟩⟩⟩⟩⟩⟩⟩⟩⟩⟩⟩⟩⟩⟩⟩⟩⟩⟩;have h2:=@ajs F _ _ _ _ rfl rfl h209;exact h2
def auy:=fb (HD::pX::Vq::aag) (fn 117 (fn 23 (pr (fn 28 (pr (pr jR D0) D2)) (fn 23 (pr (fn 1 (pr D7 (.int 1))) (fn 23 (pr (fn 1 (pr D7 (.int 2))) (fn 23 (pr (fn 1 (pr D7 (.int 3))) (fn 23 (pr (fn 1 (pr D7 (.int 4))) (fn 23 (pr (fn 1 (pr D7 (.int 5))) (fn 23 (pr D3 (fn 23 (pr D4 (fn 23 (pr D9 (fn 23 (pr cT (fn 23 (pr (fn 1 (pr D7 (.int 10))) (fn 23 (pr (fn 1 (pr D7 (.int 11))) (fn 23 (pr (fn 1 (pr D7 (.int 12))) (fn 23 (pr (fn 1 (pr D7 (.int 13))) (fn 23 (pr (fn 1 (pr D7 (.int 14))) (fn 23 (pr (fn 1 (pr D7 (.int 15))) (fn 23 (pr (fn 1 (pr D7 (.int 16))) (fn 23 (pr (fn 1 (pr D7 (.int 17))) (fn 23 (pr (fn 1 (pr D7 (.int 18))) (fn 23 (pr (fn 1 (pr D7 (.int 19))) (fn 23 (pr ee (fn 23 (pr aH (fn 23 (pr fE (fn 23 (pr gY (fn 23 (pr (fn 1 (pr D7 (.int 24))) (fn 23 (pr (fn 1 (pr D7 (.int 25))) (fn 23 (pr (fn 1 (pr D7 (.int 26))) (fn 23 (pr (fn 1 (pr D7 (.int 27))) (fn 23 (pr (fn 1 (pr D7 (.int 28))) (fn 23 (pr (fn 30 (.int 0)) (fn 23 (pr (fn 1 (pr D7 (.int 30))) (fn 23 (pr eY (fn 23 (pr (fn 30 (.int 0)) (fn 23 (pr (fn 1 (pr D7 (.int 33))) (fn 23 (pr (fn 1 (pr D7 (.int 34))) (fn 23 (pr (fn 1 (pr D7 (.int 35))) (fn 23 (pr (fn 1 (pr D7 (.int 36))) (fn 23 (pr (fn 1 (pr D7 (.int 37))) (fn 10 (.int 0)))))))))))))))))))))))))))))))))))))))))))))))))))))))))))))))))))))))))))))))<|Zs fun F p0 p1 p2 p3 p4 p5 p6 p7 p8 p9 ao av ax aB aC aE aL aQ bb bm bB bF=>by
 have h1:=@Ce F ag (.int 0) D6 ([(fn 28 (pr (pr jR D0) D2)),(fn 1 (pr D7 (.int 1))),(fn 1 (pr D7 (.int 2))),(fn 1 (pr D7 (.int 3))),(fn 1 (pr D7 (.int 4))),(fn 1 (pr D7 (.int 5))),D3,D4,D9,cT,(fn 1 (pr D7 (.int 10))),(fn 1 (pr D7 (.int 11))),(fn 1 (pr D7 (.int 12))),(fn 1 (pr D7 (.int 13))),(fn 1 (pr D7 (.int 14))),(fn 1 (pr D7 (.int 15))),(fn 1 (pr D7 (.int 16))),(fn 1 (pr D7 (.int 17))),(fn 1 (pr D7 (.int 18))),(fn 1 (pr D7 (.int 19))),ee,aH,fE,gY,(fn 1 (pr D7 (.int 24))),(fn 1 (pr D7 (.int 25))),(fn 1 (pr D7 (.int 26))),(fn 1 (pr D7 (.int 27))),(fn 1 (pr D7 (.int 28))),(fn 30 (.int 0)),(fn 1 (pr D7 (.int 30))),eY,(fn 30 (.int 0)),(fn 1 (pr D7 (.int 33))),(fn 1 (pr D7 (.int 34))),(fn 1 (pr D7 (.int 35))),(fn 1 (pr D7 (.int 36))),(fn 1 (pr D7 (.int 37)))]) rfl;have h209:=h1 ⟨HN,⟨aX 1 (by decide) rfl rfl rfl p3,⟨aX 2 (by decide) rfl rfl rfl p3,⟨aX 3 (by decide) rfl rfl rfl p3,⟨aX 4 (by decide) rfl rfl rfl p3,⟨aX 5 (by decide) rfl rfl rfl p3,⟨dM 6 (by decide) rfl rfl rfl p3 p5 p4,⟨dM 7 (by decide) rfl rfl rfl p3 p7 p6,⟨dM 8 (by decide) rfl rfl rfl p3 p9 p8,⟨dM 9 (by decide) rfl rfl rfl p3 av ao,⟨aX 10 (by decide) rfl rfl rfl p3,⟨aX 11 (by decide) rfl rfl rfl p3,⟨aX 12 (by decide) rfl rfl rfl p3,⟨aX 13 (by decide) rfl rfl rfl p3,⟨aX 14 (by decide) rfl rfl rfl p3,⟨aX 15 (by decide) rfl rfl rfl p3,⟨aX 16 (by decide) rfl rfl rfl p3,⟨aX 17 (by decide) rfl rfl rfl p3,⟨aX 18 (by decide) rfl rfl rfl p3,⟨aX 19 (by decide) rfl rfl rfl p3,⟨dM 20 (by decide) rfl rfl rfl p3 aB ax,⟨dM 21 (by decide) rfl rfl rfl p3 aE aC,⟨dM 22 (by decide) rfl rfl rfl p3 aQ aL,⟨dM 23 (by decide) rfl rfl rfl p3 bm bb,⟨aX 24 (by decide) rfl rfl rfl p3,⟨aX 25 (by decide) rfl rfl rfl p3,⟨aX 26 (by decide) rfl rfl rfl p3,⟨aX 27 (by decide) rfl rfl rfl p3,⟨aX 28 (by decide) rfl rfl rfl p3,⟨u9 29 rfl rfl rfl qY oU,⟨JV 30 (by decide) rfl rfl rfl p3 (EQ p0),⟨dM 31 (by decide) rfl rfl rfl p3 bF bB,⟨u9 32 rfl rfl rfl qY oU,⟨aX 33 (by decide) rfl rfl rfl p3,⟨aX 34 (by decide) rfl rfl rfl p3,⟨aX 35 (by decide) rfl rfl rfl p3,⟨aX 36 (by decide) rfl rfl rfl p3,⟨aX 37 (by decide) rfl rfl rfl p3,trivial⟩⟩⟩⟩⟩⟩⟩⟩⟩⟩⟩⟩⟩⟩⟩⟩⟩⟩⟩⟩⟩⟩⟩⟩⟩⟩⟩⟩⟩⟩⟩⟩⟩⟩⟩⟩⟩⟩;have h2:=@aq5 F _ _ _ h209 p2 p1;exact h2
def p54:List Fa:=[iR,aiO,alM,asm,axQ,asp,avY,ak0,aqZ,ax0,auD,alv,aCQ,auy]
theorem aES:aU Try.prog (bn (aA6)):=sc p54 ([]) adj (msB) (by kernel_rfl) (by kernel_rfl)
def OJ:Nl:=nc aES adj
def aj2:=fb ([pX,BY,Bq]) (.not (cmp .lss (.int 30) eY))<|am fun F p0 p1 p2=>by
 have:=aw p0
 have:=@uW _ _ _ (.int 12) p2
 try simp only[ab]at *
 first | omega | grind
def ar7:=fb ([BY,Bq]) (cmp .eql (fn 9 (pr jX (.int 12))) eY)<|au fun F p0 p1=>by
 have:=@uW _ _ _ (.int 12) p1
 try simp only[ab]at *
 first | omega | grind
def aGg:=fb ([wq,pX,BY,Bq,(fn 211 (pr gY ag)),(cmp .lss ed eY),aaG,aao]) (fn 217 (pr (fn 2 (pr (fn 2 (pr (fn 2 (pr (fn 2 (pr (fn 2 (pr (fn 2 (pr (fn 2 (pr (fn 2 (pr (fn 2 (pr (fn 2 (pr (fn 2 (pr (fn 2 (pr jX (pr (fn 6 (pr (fn 8 (pr ed (.int 12))) (.int 0))) D6))) (pr (fn 6 (pr (fn 8 (pr ed (.int 12))) (.int 1))) D7))) (pr (fn 6 (pr (fn 8 (pr ed (.int 12))) (.int 2))) D0))) (pr (fn 6 (pr (fn 8 (pr ed (.int 12))) (.int 3))) D1))) (pr (fn 6 (pr (fn 8 (pr ed (.int 12))) (.int 4))) D2))) (pr (fn 6 (pr (fn 8 (pr ed (.int 12))) (.int 5))) D3))) (pr (fn 6 (pr (fn 8 (pr ed (.int 12))) (.int 6))) D4))) (pr (fn 6 (pr (fn 8 (pr ed (.int 12))) (.int 7))) D9))) (pr (fn 6 (pr (fn 8 (pr ed (.int 12))) (.int 8))) cT))) (pr (fn 6 (pr (fn 8 (pr ed (.int 12))) (.int 9))) ee))) (pr (fn 6 (pr (fn 8 (pr ed (.int 12))) (.int 10))) aH))) (pr (fn 6 (pr (fn 8 (pr ed (.int 12))) (.int 11))) fE))) U7))<|cU fun F p0 p1 p2 p3 p4 p5 p6 p7=>by
 have e1:0<=E.I F ed/\E.I F ed<E.I F eY/\E.I F (fn 9 (pr jX (.int 12)))=E.I F eY/\E.I F ed=E.I F (fn 120 (pr ag (pr D6 (fn 9 (pr (fn 1 (pr ag (.int 0))) (.int 12)))))):=by
  have:=aw p1
  have:=Eq.mp E4 p1
  have:=ao3 p4
  have:=@uW _ _ _ (.int 12) p3
  have:=@xZ F D6 eY jX
  have:=@ac7 _ _ D6 eY (fn 9 (pr (fn 1 (pr ag (.int 0))) (.int 12))) _ D6 p3
  simp only[ab]at *;grind
 exact @aho _ _ _ _ (fn 120 (pr ag (pr D6 (fn 9 (pr (fn 1 (pr ag (.int 0))) (.int 12)))))) _ _ _ _ _ _ _ _ _ _ _ _ _ p3 e1.1 e1.2.1 e1.2.2.1 e1.2.2.2
def ayb:=fb ([wq,BY,Bq,aaG,aao,(cmp .lss ed (.int 0))]) (fn 217 (pr jX U7))<|bU fun F p0 p1 p2 p3 p4 p5=>by
 have:=@ac7 _ _ D6 eY (fn 9 (pr (fn 1 (pr ag (.int 0))) (.int 12))) _ D6 p2
 exfalso;simp only[ab]at *;grind
def p55:List Fa:=[iR,aj2,ar7,aGg,ayb]
theorem ahQ:aU Try.prog (bn (azE)):=sc p55 ([]) OJ (AU) (by kernel_rfl) (by kernel_rfl)
def TJ:Nl:=nc ahQ OJ
def aw8:=fb ([wq,n7]) (.not (cmp .lss D7 (.int 0)))<|au fun F p0 p1=>by
 try simp only[ab]at *
 omega
def aCc:=fb ([uH]) (cmp .eql (fn 9 (pr (fn 1 (pr D0 (.int 29))) (.int 5))) (.int 0))<|az fun F p0=>by
 have:=sa p0
 try simp only[ab]at *
 omega
def aiJ:=fb ([uH]) (cmp .eql (fn 9 (pr (fn 1 (pr D0 (.int 30))) (.int 5))) (.int 0))<|az fun F p0=>by
 have:=sa p0
 try simp only[ab]at *
 omega
def ap0:=fb ([uH]) (cmp .eql (fn 9 (pr (fn 1 (pr D0 (.int 32))) (.int 2))) (.int 0))<|az fun F p0=>by
 have:=sa p0
 try simp only[ab]at *
 omega
def auF:=fb ([MN,wq,n7,qn]) (.not (cmp .lss (fn 120 (pr D0 (pr (fn 1 (pr (fn 1 (pr ag (.int 0))) (fn 6 (pr (fn 8 (pr D7 (.int 12))) (.int 0))))) (fn 9 (pr (fn 1 (pr D0 (.int 0))) (.int 12)))))) (.int 0)))<|aF fun F p0 p1 p2 p3=>by
 have:=@uW _ _ _ (.int 12) p3
 have:=@fW F (.int 0) (fn 120 (pr ag (pr D6 (fn 9 (pr (fn 1 (pr ag (.int 0))) (.int 12)))))) (fn 1 (pr ag (.int 0))) D7
 have:=@Zv _ _ _ (fn 1 (pr (fn 1 (pr ag (.int 0))) (fn 6 (pr (fn 8 (pr D7 (.int 12))) (.int 0))))) (fn 9 (pr (fn 1 (pr D0 (.int 0))) (.int 12))) (fn 9 (pr (fn 1 (pr ag (.int 0))) (.int 12))) D6 p3
 try simp only[ab]at *
 omega
def aff:=fb ([vL,n7,qn,yA]) (.not (cmp .lss (.int 2147483648) (fn 0 (fn 1 (pr D1 (.int 8))))))<|aF fun F p0 p1 p2 p3=>by
 have:=@fW F (.int 2) (fn 120 (pr ag (pr D6 (fn 9 (pr (fn 1 (pr ag (.int 0))) (.int 12)))))) (fn 1 (pr ag (.int 0))) D7
 try simp only[ab]at *
 omega
def apl:=fb PW (.not (cmp .lss (.int 2147483648) (fn 0 (fn 1 (pr D1 (.int 22))))))<|au fun F p0 p1=>by
 have:=aw p0
 have:=kv p1 22 (by decide) rfl rfl
 try simp only[ab]at *
 grind
def agO:=fb ([vL,n7,qn,(.not yA)]) (cmp .eql (fn 1 (pr (fn 1 (pr ag (.int 0))) (fn 6 (pr (fn 8 (pr D7 (.int 12))) (.int 2))))) (.int 1))<|aF fun F p0 p1 p2 p3=>by
 have:=@fW F (.int 2) (fn 120 (pr ag (pr D6 (fn 9 (pr (fn 1 (pr ag (.int 0))) (.int 12)))))) (fn 1 (pr ag (.int 0))) D7
 try simp only[ab]at *
 omega
def aGK:=fb ([vL,n7,qn,yA]) (.not (cmp .lss (.int 2147483648) (fn 6 (pr (fn 0 (fn 1 (pr D1 (.int 8)))) (.int 1)))))<|aF fun F p0 p1 p2 p3=>by
 have:=@fW F (.int 2) (fn 120 (pr ag (pr D6 (fn 9 (pr (fn 1 (pr ag (.int 0))) (.int 12)))))) (fn 1 (pr ag (.int 0))) D7
 try simp only[ab]at *
 omega
def aFW:=fb PW (.not (cmp .lss (.int 2147483648) (fn 6 (pr (fn 0 (fn 1 (pr D1 (.int 22)))) (.int 1)))))<|au fun F p0 p1=>by
 have:=aw p0
 have:=kv p1 22 (by decide) rfl rfl
 try simp only[ab]at *
 grind
def anf:=fb ([vL,n7,yA]) (fn 209 (pr (fn 23 (pr (fn 1 (pr D1 (.int 0))) (fn 23 (pr (fn 1 (pr D1 (.int 1))) (fn 23 (pr (fn 1 (pr D1 (.int 2))) (fn 23 (pr (fn 1 (pr D1 (.int 3))) (fn 23 (pr (fn 1 (pr D1 (.int 4))) (fn 23 (pr (fn 1 (pr D1 (.int 5))) (fn 23 (pr (fn 1 (pr D1 (.int 6))) (fn 23 (pr (fn 1 (pr D1 (.int 7))) (fn 23 (pr (fn 28 (pr (pr ee (fn 6 (pr (fn 0 (fn 1 (pr D1 (.int 8)))) (.int 1)))) (fn 3 (pr (fn 1 (pr D1 (.int 8))) (fn 23 (pr (fn 1 (pr (fn 1 (pr ag (.int 0))) (fn 6 (pr (fn 8 (pr D7 (.int 12))) (.int 0))))) (fn 10 (.int 0)))))))) (fn 23 (pr (fn 1 (pr D1 (.int 9))) (fn 23 (pr (fn 1 (pr D1 (.int 10))) (fn 23 (pr (fn 1 (pr D1 (.int 11))) (fn 23 (pr (fn 1 (pr D1 (.int 12))) (fn 23 (pr (fn 1 (pr D1 (.int 13))) (fn 23 (pr (fn 1 (pr D1 (.int 14))) (fn 23 (pr (fn 1 (pr D1 (.int 15))) (fn 23 (pr (fn 1 (pr D1 (.int 16))) (fn 23 (pr (fn 1 (pr D1 (.int 17))) (fn 23 (pr (fn 1 (pr D1 (.int 18))) (fn 23 (pr (fn 1 (pr D1 (.int 19))) (fn 23 (pr (fn 1 (pr D1 (.int 20))) (fn 23 (pr (fn 1 (pr D1 (.int 21))) (fn 23 (pr (fn 1 (pr D1 (.int 22))) (fn 23 (pr (fn 1 (pr D1 (.int 23))) (fn 23 (pr (fn 1 (pr D1 (.int 24))) (fn 23 (pr (fn 1 (pr D1 (.int 25))) (fn 23 (pr (fn 1 (pr D1 (.int 26))) (fn 23 (pr (fn 1 (pr D1 (.int 27))) (fn 23 (pr (fn 1 (pr D1 (.int 28))) (fn 23 (pr (fn 1 (pr D1 (.int 29))) (fn 23 (pr (fn 1 (pr D1 (.int 30))) (fn 23 (pr (fn 1 (pr D1 (.int 31))) (fn 23 (pr (fn 1 (pr D1 (.int 32))) (fn 23 (pr (fn 1 (pr D1 (.int 33))) (fn 23 (pr (fn 1 (pr D1 (.int 34))) (fn 23 (pr (fn 1 (pr D1 (.int 35))) (fn 23 (pr (fn 1 (pr D1 (.int 36))) (fn 23 (pr (fn 1 (pr D1 (.int 37))) (fn 10 (.int 0)))))))))))))))))))))))))))))))))))))))))))))))))))))))))))))))))))))))))))))) PO))<|am fun F p0 p1 p2=>by
 have:=@fW F (.int 2) D7 (fn 1 (pr ag (.int 0))) (fn 120 (pr ag (pr D6 (fn 9 (pr (fn 1 (pr ag (.int 0))) (.int 12))))))
 simp only[ab]at *;grind
def ay0:=fb (MN::n7::uH::FW) (fn 209 (pr (fn 23 (pr (fn 1 (pr D1 (.int 0))) (fn 23 (pr (fn 1 (pr D1 (.int 1))) (fn 23 (pr (fn 1 (pr D1 (.int 2))) (fn 23 (pr (fn 1 (pr D1 (.int 3))) (fn 23 (pr (fn 1 (pr D1 (.int 4))) (fn 23 (pr (fn 1 (pr D1 (.int 5))) (fn 23 (pr (fn 1 (pr D1 (.int 6))) (fn 23 (pr (fn 1 (pr D1 (.int 7))) (fn 23 (pr (fn 1 (pr D1 (.int 8))) (fn 23 (pr (fn 1 (pr D1 (.int 9))) (fn 23 (pr (fn 1 (pr D1 (.int 10))) (fn 23 (pr (fn 1 (pr D1 (.int 11))) (fn 23 (pr (fn 1 (pr D1 (.int 12))) (fn 23 (pr (fn 1 (pr D1 (.int 13))) (fn 23 (pr (fn 1 (pr D1 (.int 14))) (fn 23 (pr (fn 1 (pr D1 (.int 15))) (fn 23 (pr (fn 1 (pr D1 (.int 16))) (fn 23 (pr (fn 1 (pr D1 (.int 17))) (fn 23 (pr (fn 1 (pr D1 (.int 18))) (fn 23 (pr (fn 1 (pr D1 (.int 19))) (fn 23 (pr (fn 1 (pr D1 (.int 20))) (fn 23 (pr (fn 1 (pr D1 (.int 21))) (fn 23 (pr (fn 28 (pr (pr ee (fn 6 (pr (fn 0 (fn 1 (pr D1 (.int 22)))) (.int 1)))) (fn 3 (pr (fn 1 (pr D1 (.int 22))) (fn 23 (pr (fn 1 (pr (fn 1 (pr ag (.int 0))) (fn 6 (pr (fn 8 (pr D7 (.int 12))) (.int 0))))) (fn 10 (.int 0)))))))) (fn 23 (pr (fn 1 (pr D1 (.int 23))) (fn 23 (pr (fn 1 (pr D1 (.int 24))) (fn 23 (pr (fn 1 (pr D1 (.int 25))) (fn 23 (pr (fn 1 (pr D1 (.int 26))) (fn 23 (pr (fn 1 (pr D1 (.int 27))) (fn 23 (pr (fn 1 (pr D1 (.int 28))) (fn 23 (pr (fn 1 (pr D1 (.int 29))) (fn 23 (pr (fn 1 (pr D1 (.int 30))) (fn 23 (pr (fn 1 (pr D1 (.int 31))) (fn 23 (pr (fn 1 (pr D1 (.int 32))) (fn 23 (pr (fn 1 (pr D1 (.int 33))) (fn 23 (pr (fn 1 (pr D1 (.int 34))) (fn 23 (pr (fn 1 (pr D1 (.int 35))) (fn 23 (pr (fn 1 (pr D1 (.int 36))) (fn 23 (pr (fn 1 (pr D1 (.int 37))) (fn 10 (.int 0)))))))))))))))))))))))))))))))))))))))))))))))))))))))))))))))))))))))))))))) PO))<|aF fun F p0 p1 p2 p3=>by
 have hv:E.I F (fn 1 (pr (fn 1 (pr ag (.int 0))) (fn 6 (pr (fn 8 (pr D7 (.int 12))) (.int 0)))))=E.I F D6:=by
  have:=@fW F (.int 0) (fn 120 (pr ag (pr D6 (fn 9 (pr (fn 1 (pr ag (.int 0))) (.int 12)))))) (fn 1 (pr ag (.int 0))) D7
  simp only[ab]at *;grind
 have h1:=@Ce F ag (.int 1) D6 ([(fn 1 (pr D1 (.int 0))),(fn 1 (pr D1 (.int 1))),(fn 1 (pr D1 (.int 2))),(fn 1 (pr D1 (.int 3))),(fn 1 (pr D1 (.int 4))),(fn 1 (pr D1 (.int 5))),(fn 1 (pr D1 (.int 6))),(fn 1 (pr D1 (.int 7))),(fn 1 (pr D1 (.int 8))),(fn 1 (pr D1 (.int 9))),(fn 1 (pr D1 (.int 10))),(fn 1 (pr D1 (.int 11))),(fn 1 (pr D1 (.int 12))),(fn 1 (pr D1 (.int 13))),(fn 1 (pr D1 (.int 14))),(fn 1 (pr D1 (.int 15))),(fn 1 (pr D1 (.int 16))),(fn 1 (pr D1 (.int 17))),(fn 1 (pr D1 (.int 18))),(fn 1 (pr D1 (.int 19))),(fn 1 (pr D1 (.int 20))),(fn 1 (pr D1 (.int 21))),(fn 28 (pr (pr ee (fn 6 (pr (fn 0 (fn 1 (pr D1 (.int 22)))) (.int 1)))) (fn 3 (pr (fn 1 (pr D1 (.int 22))) (fn 23 (pr (fn 1 (pr (fn 1 (pr ag (.int 0))) (fn 6 (pr (fn 8 (pr D7 (.int 12))) (.int 0))))) (fn 10 (.int 0)))))))),(fn 1 (pr D1 (.int 23))),(fn 1 (pr D1 (.int 24))),(fn 1 (pr D1 (.int 25))),(fn 1 (pr D1 (.int 26))),(fn 1 (pr D1 (.int 27))),(fn 1 (pr D1 (.int 28))),(fn 1 (pr D1 (.int 29))),(fn 1 (pr D1 (.int 30))),(fn 1 (pr D1 (.int 31))),(fn 1 (pr D1 (.int 32))),(fn 1 (pr D1 (.int 33))),(fn 1 (pr D1 (.int 34))),(fn 1 (pr D1 (.int 35))),(fn 1 (pr D1 (.int 36))),(fn 1 (pr D1 (.int 37)))]) rfl;have h209:=h1 ⟨cF 0 (by decide) (by decide) p3 p2,⟨cF 1 (by decide) (by decide) p3 p2,⟨cF 2 (by decide) (by decide) p3 p2,⟨cF 3 (by decide) (by decide) p3 p2,⟨cF 4 (by decide) (by decide) p3 p2,⟨cF 5 (by decide) (by decide) p3 p2,⟨cF 6 (by decide) (by decide) p3 p2,⟨cF 7 (by decide) (by decide) p3 p2,⟨cF 8 (by decide) (by decide) p3 p2,⟨cF 9 (by decide) (by decide) p3 p2,⟨cF 10 (by decide) (by decide) p3 p2,⟨cF 11 (by decide) (by decide) p3 p2,⟨cF 12 (by decide) (by decide) p3 p2,⟨cF 13 (by decide) (by decide) p3 p2,⟨cF 14 (by decide) (by decide) p3 p2,⟨cF 15 (by decide) (by decide) p3 p2,⟨cF 16 (by decide) (by decide) p3 p2,⟨cF 17 (by decide) (by decide) p3 p2,⟨cF 18 (by decide) (by decide) p3 p2,⟨cF 19 (by decide) (by decide) p3 p2,⟨cF 20 (by decide) (by decide) p3 p2,⟨cF 21 (by decide) (by decide) p3 p2,⟨aBr p3 p2 hv,⟨cF 23 (by decide) (by decide) p3 p2,⟨cF 24 (by decide) (by decide) p3 p2,⟨cF 25 (by decide) (by decide) p3 p2,⟨cF 26 (by decide) (by decide) p3 p2,⟨cF 27 (by decide) (by decide) p3 p2,⟨cF 28 (by decide) (by decide) p3 p2,⟨cF 29 (by decide) (by decide) p3 p2,⟨cF 30 (by decide) (by decide) p3 p2,⟨cF 31 (by decide) (by decide) p3 p2,⟨cF 32 (by decide) (by decide) p3 p2,⟨cF 33 (by decide) (by decide) p3 p2,⟨cF 34 (by decide) (by decide) p3 p2,⟨cF 35 (by decide) (by decide) p3 p2,⟨cF 36 (by decide) (by decide) p3 p2,⟨cF 37 (by decide) (by decide) p3 p2,trivial⟩⟩⟩⟩⟩⟩⟩⟩⟩⟩⟩⟩⟩⟩⟩⟩⟩⟩⟩⟩⟩⟩⟩⟩⟩⟩⟩⟩⟩⟩⟩⟩⟩⟩⟩⟩⟩⟩;exact h209
def auR:=fb ([vL,pX,n7,M8,qn,uH,aaf,acL,yA]) RY<|dK fun F p0 p1 p2 p3 p4 p5 p6 p7 p8=>by
 have e1:0<=E.I F D7/\E.I F (fn 120 (pr D0 (pr (fn 1 (pr (fn 1 (pr ag (.int 0))) (fn 6 (pr (fn 8 (pr D7 (.int 12))) (.int 0))))) (fn 9 (pr (fn 1 (pr D0 (.int 0))) (.int 12))))))=E.I F D7/\E.I F D7=E.I F (fn 120 (pr ag (pr D6 (fn 9 (pr (fn 1 (pr ag (.int 0))) (.int 12)))))):=by
  have:=@fW F (.int 2) D7 (fn 1 (pr ag (.int 0))) (fn 120 (pr ag (pr D6 (fn 9 (pr (fn 1 (pr ag (.int 0))) (.int 12))))))
  simp only[ab]at *;grind
 have h1:=abq p6 rfl p4 e1.1 e1.2.1 e1.2.2;omega
def aw4:=fb (MN::wq::pX::(.not (cmp .lss D7 (.int (-1))))::n7::M8::qn::uH::aaf::FW) RY<|fF fun F p0 p1 p2 p3 p4 p5 p6 p7 p8 p9=>by
 have e1:0<=E.I F D7/\E.I F (fn 120 (pr D0 (pr (fn 1 (pr (fn 1 (pr ag (.int 0))) (fn 6 (pr (fn 8 (pr D7 (.int 12))) (.int 0))))) (fn 9 (pr (fn 1 (pr D0 (.int 0))) (.int 12))))))=E.I F D7/\E.I F D7=E.I F (fn 120 (pr ag (pr D6 (fn 9 (pr (fn 1 (pr ag (.int 0))) (.int 12)))))):=by
  have:=@uW _ _ _ (.int 12) p6
  have:=@fW F (.int 0) D7 (fn 1 (pr ag (.int 0))) (fn 120 (pr ag (pr D6 (fn 9 (pr (fn 1 (pr ag (.int 0))) (.int 12))))))
  have:=@Zv _ _ _ (fn 1 (pr (fn 1 (pr ag (.int 0))) (fn 6 (pr (fn 8 (pr D7 (.int 12))) (.int 0))))) (fn 9 (pr (fn 1 (pr D0 (.int 0))) (.int 12))) (fn 9 (pr (fn 1 (pr ag (.int 0))) (.int 12))) D6 p6
  simp only[ab]at *;grind
 have h1:=abq p8 rfl p6 e1.1 e1.2.1 e1.2.2;omega
def atJ:=fb ([qn,(cmp .eql D2 (fn 9 (pr (fn 1 (pr D0 (.int 0))) (.int 12))))]) (cmp .eql D2 (fn 9 (pr (fn 1 (pr ag (.int 0))) (.int 12))))<|au fun F p0 p1=>by
 have:=@uW _ _ _ (.int 12) p0
 simp_all
def p56:List Fa:=[iR,aw8,aCc,aiJ,ap0,auF,aff,apl,agO,aGK,aFW,anf,ay0,auR,aw4,atJ]
theorem afT:aU Try.prog (bn (aiF)):=sc p56 ([]) TJ (AU) (by kernel_rfl) (by kernel_rfl)
def Zp:Nl:=nc (GJ (mss:=aak) afT) TJ
def anY:=fb Kt Yh<|au fun F p0 p1=>by
 have:=@aA F (.int 0) D6
 try simp only[ab]at *
 omega
def ajG:=fb ([Yh]) (.imp dQ dQ)<|az fun F p0=>by
 rfl
def apX:=fb uR (.imp dQ dQ)<|az fun F p0=>by
 rfl
def akd:=fb uR (.imp dQ KH)<|az fun F p0=>by
 rfl
def axp:=fb ([zE]) (.imp AT TV)<|az fun F p0=>by
 try simp only[ab]at *
 omega
def aCd:=fb (PE::(.not zE)::Cf::abm) ack<|bU fun F p0 p1 p2 p3 p4 p5=>by
 try simp only[ab]at *
 omega
def avE:=fb (An::abm) (fn 203 (pr (fn 23 (pr (fn 1 (pr (.int 0) (.int 0))) (fn 23 (pr cT (fn 23 (pr (.int 0) (fn 23 (pr (.int 0) (fn 23 (pr (.int 0) (fn 23 (pr (.int 0) (fn 23 (pr (fn 30 (.int 0)) (fn 23 (pr (fn 30 (.int 0)) (fn 23 (pr (fn 30 (.int 0)) (fn 23 (pr (fn 30 (.int 0)) (fn 23 (pr dQ (fn 23 (pr dQ (fn 23 (pr dQ (fn 23 (pr (.int 0) (fn 23 (pr (.int 0) (fn 23 (pr ee (fn 23 (pr (.int 0) (fn 23 (pr (.int 0) (fn 23 (pr (.int 0) (fn 23 (pr (.int 0) (fn 23 (pr (fn 30 (.int 0)) (fn 23 (pr (fn 30 (.int 0)) (fn 23 (pr (fn 30 (.int 0)) (fn 23 (pr (fn 30 (.int 0)) (fn 23 (pr dQ (fn 23 (pr dQ (fn 23 (pr dQ (fn 23 (pr (.int 0) (fn 23 (pr (.int 0) (fn 23 (pr (fn 30 (.int 0)) (fn 23 (pr (fn 30 (.int 0)) (fn 23 (pr (fn 30 (.int 0)) (fn 23 (pr (fn 30 (.int 0)) (fn 23 (pr (.int 0) (fn 23 (pr (.int 0) (fn 23 (pr (.int 0) (fn 23 (pr (.int (-1)) (fn 23 (pr (.int 0) (fn 10 (.int 0)))))))))))))))))))))))))))))))))))))))))))))))))))))))))))))))))))))))))))))) WI))<|aF fun F p0 p1 p2 p3=>by
 have en:E.I F D6<=0:=by
  simp only[ab]at *;grind
 have el:=@apN _ (.int 0) _ en;have e1:E.I F cT=20/\E.I F ee=20:=by
  simp only[ab]at *;grind
 have h1:=@OY _ (fn 1 (pr (.int 0) (.int 0))) _ _ _ _ e1.1 e1.2 el;exact h1
def atW:=fb ([GL,(fn 215 (pr aH D6)),(cmp .eql jR (.int 20))]) (fn 203 (pr (fn 23 (pr (fn 1 (pr (.int 0) (.int 0))) (fn 23 (pr jR (fn 23 (pr (.int 0) (fn 23 (pr (.int 0) (fn 23 (pr (.int 0) (fn 23 (pr (.int 0) (fn 23 (pr (fn 30 (.int 0)) (fn 23 (pr (fn 30 (.int 0)) (fn 23 (pr (fn 30 (.int 0)) (fn 23 (pr (fn 30 (.int 0)) (fn 23 (pr dQ (fn 23 (pr dQ (fn 23 (pr dQ (fn 23 (pr (.int 0) (fn 23 (pr (.int 0) (fn 23 (pr jX (fn 23 (pr (.int 0) (fn 23 (pr (.int 0) (fn 23 (pr (.int 0) (fn 23 (pr (.int 0) (fn 23 (pr (fn 28 (pr (pr ed fE) aH)) (fn 23 (pr (fn 30 (.int 0)) (fn 23 (pr (fn 30 (.int 0)) (fn 23 (pr (fn 30 (.int 0)) (fn 23 (pr dQ (fn 23 (pr dQ (fn 23 (pr dQ (fn 23 (pr (.int 0) (fn 23 (pr (.int 0) (fn 23 (pr (fn 30 (.int 0)) (fn 23 (pr (fn 30 (.int 0)) (fn 23 (pr (fn 30 (.int 0)) (fn 23 (pr (fn 30 (.int 0)) (fn 23 (pr (.int 0) (fn 23 (pr (.int 0) (fn 23 (pr (.int 0) (fn 23 (pr (.int (-1)) (fn 23 (pr (.int 0) (fn 10 (.int 0)))))))))))))))))))))))))))))))))))))))))))))))))))))))))))))))))))))))))))))) WI))<|am fun F p0 p1 p2=>by
 have el:=@arL _ _ (pr ed fE) _ p1;have e1:E.I F jR=20/\E.I F jX=20:=by
  simp only[ab]at *;grind
 have h1:=@OY _ (fn 1 (pr (.int 0) (.int 0))) _ _ _ _ e1.1 e1.2 el;exact h1
def afr:=fb ([oT]) (.not (cmp .lss (.int 399) (fn 1 (pr ag (.int 0)))))<|az fun F p0=>by
 have:=@DX _ _ (.int 0) p0
 try simp only[ab]at *
 omega
def akq:=fb ZY KM<|aF fun F p0 p1 p2 p3=>by
 try simp only[ab]at *
 omega
def asu:=fb ([oT]) (.not (cmp .lss (fn 1 (pr ag (.int 0))) (.int 0)))<|az fun F p0=>by
 have:=@DX _ _ (.int 0) p0
 try simp only[ab]at *
 omega
def avH:=fb wW (.not (cmp .lss (.ar .add .i64 D9 (.int 1)) (.int 0)))<|au fun F p0 p1=>by
 have:=@aA F D9 (.int 1)
 try simp only[ab]at *
 omega
def aje:=fb ([oT]) (.not (cmp .lss (.int 399) (fn 1 (pr ag cv))))<|az fun F p0=>by
 have:=@DX _ _ cv p0
 try simp only[ab]at *
 omega
def aEI:=fb ([mo,o5,qm]) (.not (cmp .lss jI (.int 0)))<|am fun F p0 p1 p2=>by
 try simp only[ab]at *
 omega
def ayk:=fb ([oT]) (.not (cmp .lss (fn 1 (pr ag cv)) (.int 0)))<|az fun F p0=>by
 have:=@DX _ _ cv p0
 try simp only[ab]at *
 omega
def apM:=fb ([ZM]) (cmp .eql (.ar .add .i64 D9 (.int 1)) (.int 2))<|az fun F p0=>by
 have:=@aA F D9 (.int 1)
 try simp only[ab]at *
 omega
def aFt:=fb uR (.imp AT Hm)<|az fun F p0=>by
 simp_all
def ajw:=fb ([An,qo,GW,Ve,NH,Ze,(.not (cmp .lss (.int 2) D9))]) (fn 202 (pr (fn 10 (.int 0)) Zj))<|ck fun F p0 p1 p2 p3 p4 p5 p6=>by
 have e1:E.I F D6<=0:=by
  simp only[ab]at *;omega
 exact arN e1
def aqy:=fb ([qo,GW,QC,(cmp .eql fE D6),(cmp .eql cT D6)]) (.not (cmp .lss cT (.int 0)))<|aT fun F p0 p1 p2 p3 p4=>by
 try simp only[ab]at *
 omega
def aAF:=fb wW (.not (cmp .lss (.int 2) (.ar .add .i64 D9 (.int 1))))<|au fun F p0 p1=>by
 have:=@aA F D9 (.int 1)
 try simp only[ab]at *
 omega
def aB4:=fb UF (cmp .eql jI D6)<|aF fun F p0 p1 p2 p3=>by
 try simp only[ab]at *
 omega
def ajk:=fb ([GL]) (.imp (.not (cmp .lss (.ar .add .i64 D9 (.int 1)) (.int 1))) GL)<|az fun F p0=>by
 simp_all
def aDO:=fb UF (cmp .eql vr D6)<|aF fun F p0 p1 p2 p3=>by
 try simp only[ab]at *
 omega
def az8:=fb ([zE]) abt<|az fun F p0=>by
 have:=@aA F D9 (.int 1)
 try simp only[ab]at *
 omega
def arb:=fb ZY (fn 202 (pr (fn 23 (pr (.int 1) (fn 23 (pr (fn 1 (pr ag (.int 0))) (fn 23 (pr D9 (fn 23 (pr (.int 0) (fn 23 (pr (.int 0) (fn 23 (pr (.int 0) (fn 23 (pr (.int 0) (fn 23 (pr (.int 0) (fn 23 (pr (.int 0) (fn 23 (pr dQ (fn 23 (pr dQ (fn 23 (pr dQ (fn 10 (.int 0)))))))))))))))))))))))))) (pr ag (pr (fn 10 (.int 0)) (pr (.int 1) (pr (.int 0) (.int 0)))))))<|aF fun F p0 p1 p2 p3=>by
 have e1:E.I F D9=1:=by
  simp only[ab]at *;omega
 have h1:=@anX F ag (fn 10 (.int 0)) _ e1;exact h1
def aE3:=fb aey abt<|am fun F p0 p1 p2=>by
 have:=@aA F D9 (.int 1)
 try simp only[ab]at *
 omega
def aBA:=fb ([(.not (cmp .lss (var 27) jI)),mo,o5,qm]) (.not (cmp .lss (var 27) (.int 0)))<|aF fun F p0 p1 p2 p3=>by
 try simp only[ab]at *
 omega
def aEF:=fb ([Cc,mo,o5,qm,Sd,zN,qo]) QC<|ck fun F p0 p1 p2 p3 p4 p5 p6=>by
 try simp only[ab]at *
 omega
def asw:=fb (zE::Kt) ad0<|am fun F p0 p1 p2=>by
 have:=@aA F D9 (.int 1)
 try simp only[ab]at *
 omega
def avw:=fa ((fn 215 (pr (fn 23 (pr (.int 1) (fn 10 (.int 0)))) (.int 1))))<|fun F=>by
 rfl
def akX:=fb ((.not TT)::zN::uR) ad0<|am fun F p0 p1 p2=>by
 try simp only[ab]at *
 omega
def aFB:=fb (qc::Ul) (.not (cmp .lss (.int 2147483648) (fn 6 (pr jI (.int 1)))))<|bU fun F p0 p1 p2 p3 p4 p5=>by
 try simp only[ab]at *
 omega
def anu:=fb (Cc::acS::MH) (fn 202 (pr (var 25) Zj))<|aT fun F p0 p1 p2 p3 p4=>by
 have e1:E.I F cv=E.I F D6:=by
  simp only[ab]at *;omega
 exact abw p1 e1 rfl rfl
def azw:=fa ((cmp .lss (fn 7 (pr D6 (.int 1))) D6))<|fun F=>by
 try simp only[ab]at *
 omega
def azq:=fb wW (cmp .lss (fn 7 (pr (.int 2) (.ar .add .i64 D9 (.int 1)))) (fn 7 (pr (.int 2) D9)))<|au fun F p0 p1=>by
 have:=@aA F D9 (.int 1)
 try simp only[ab]at *
 omega
def ag4:=fb ([mo,o5]) (.not (cmp .lss vr (.int 0)))<|au fun F p0 p1=>by
 try simp only[ab]at *
 omega
def am0:=fb (Cc::RA::MH) (fn 215 (pr (var 28) D6))<|aT fun F p0 p1 p2 p3 p4=>by
 have e1:E.I F cv=E.I F D6:=by
  simp only[ab]at *;omega
 grind[azP]
def al5:=fb ([TT,zN,qo]) (.not (cmp .lss (fn 7 (pr D6 (.int 1))) (.int 0)))<|am fun F p0 p1 p2=>by
 try simp only[ab]at *
 omega
def ayR:=fb wW (.not (cmp .lss (fn 7 (pr (.int 2) (.ar .add .i64 D9 (.int 1)))) (.int 0)))<|au fun F p0 p1=>by
 have:=@aA F D9 (.int 1)
 try simp only[ab]at *
 omega
def apV:=fb ([(.not (cmp .lss (var 30) vr)),mo,o5]) (.not (cmp .lss (var 30) (.int 0)))<|am fun F p0 p1 p2=>by
 try simp only[ab]at *
 omega
def azm:=fb (qc::ZI) (.not (cmp .lss (.int 2147483648) (fn 6 (pr vr (.int 1)))))<|aT fun F p0 p1 p2 p3 p4=>by
 try simp only[ab]at *
 omega
def aD3:=fb xC (.not (cmp .lss D6 (.ar .add .i64 cv (.int 1))))<|bU fun F p0 p1 p2 p3 p4 p5=>by
 have:=@aA F cv (.int 1)
 try simp only[ab]at *
 omega
def azt:=fb (qc::mo::Ul) (cmp .eql (fn 6 (pr jI (.int 1))) (.ar .add .i64 cv (.int 1)))<|ck fun F p0 p1 p2 p3 p4 p5 p6=>by
 have:=@aA F cv (.int 1)
 try simp only[ab]at *
 omega
def aq2:=fb xC (cmp .eql (fn 6 (pr vr (.int 1))) (.ar .add .i64 cv (.int 1)))<|bU fun F p0 p1 p2 p3 p4 p5=>by
 have:=@aA F cv (.int 1)
 try simp only[ab]at *
 omega
def aiQ:=fb xC (.not (cmp .lss (.ar .add .i64 cv (.int 1)) (.int 1)))<|bU fun F p0 p1 p2 p3 p4 p5=>by
 have:=@aA F cv (.int 1)
 try simp only[ab]at *
 omega
def ame:=fb ([qc,acS,mo,qm,ZM,oT,qo,oT,oT,oT]) (fn 202 (pr (fn 3 (pr (var 25) (fn 23 (pr (.ar .add .i64 jI (.int 1)) (fn 23 (pr (fn 1 (pr ag cv)) (fn 23 (pr D9 (fn 23 (pr (.int 0) (fn 23 (pr (.int 0) (fn 23 (pr (.int 0) (fn 23 (pr (.int 0) (fn 23 (pr (.int 0) (fn 23 (pr (.int 0) (fn 23 (pr dQ (fn 23 (pr dQ (fn 23 (pr dQ (fn 10 (.int 0)))))))))))))))))))))))))))) (pr ag (pr (fn 10 (.int 0)) (pr (.ar .add .i64 cv (.int 1)) (pr (.int 0) (.int 0)))))))<|fF fun F p0 p1 p2 p3 p4 p5 p6 p7 p8 p9=>by
 have e1:0<=E.I F cv/\E.I F (.ar .add .i64 cv (.int 1))=E.I F cv+1/\E.I F (.ar .add .i64 jI (.int 1))=E.I F cv+1/\E.I F D9=1:=by
  have:=@aA F jI (.int 1)
  have:=@aA F cv (.int 1)
  simp only[ab]at *;grind
 have h1:=asg p1 e1.1 e1.2.1 e1.2.2.1 e1.2.2.2;exact h1
def aik:=fb ([qc,RA,mo,qm,qo]) (fn 215 (pr (fn 3 (pr (var 28) (fn 23 (pr (.ar .add .i64 jI (.int 1)) (fn 10 (.int 0)))))) (.ar .add .i64 cv (.int 1))))<|aT fun F p0 p1 p2 p3 p4=>by
 have e1:0<=E.I F cv/\E.I F (.ar .add .i64 cv (.int 1))=E.I F cv+1/\E.I F (.ar .add .i64 jI (.int 1))=E.I F cv+1:=by
  have:=@aA F jI (.int 1)
  have:=@aA F cv (.int 1)
  simp only[ab]at *;grind
 grind[aEM]
def anB:=fb xC (cmp .lss (fn 7 (pr D6 (.ar .add .i64 cv (.int 1)))) (fn 7 (pr D6 cv)))<|bU fun F p0 p1 p2 p3 p4 p5=>by
 have:=@aA F cv (.int 1)
 try simp only[ab]at *
 omega
def afY:=fb xC (.not (cmp .lss (fn 7 (pr D6 (.ar .add .i64 cv (.int 1)))) (.int 0)))<|bU fun F p0 p1 p2 p3 p4 p5=>by
 have:=@aA F cv (.int 1)
 try simp only[ab]at *
 omega
def p57:List Fa:=[iR,anY,ajG,apX,akd,axp,aCd,avE,atW,VR,afr,akq,asu,avH,aje,aEI,ayk,apM,aFt,ajw,aqy,G85,aAF,aB4,ajk,aDO,az8,arb,aE3,aBA,aEF,asw,avw,akX,aFB,anu,OC,azw,azq,ag4,am0,XR,al5,ayR,apV,XS,azm,Xw,aD3,azt,aq2,aiQ,ame,aik,anB,afY]
theorem aum:aU Try.prog (bn (ahl)):=sc p57 (afm) Zp (AU) (by kernel_rfl) (by kernel_rfl)
def Pt:Nl:=nc aum Zp
end
end Go.Proofs.Ytnnbmcfabojjjaa.payColours
