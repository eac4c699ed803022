/-
  PayColours: contracts of functions, part 2.
-/
import Derived.Test.YtnnbmcfabojjjaaRows
import Derived.Test.YtnnbmcfabojjjaaNat
import Derived.WalkKit
import Derived.ProofKit
import Derived.OpenShut
import Derived.ChangeOld
import Derived.Below
import Derived.KernelRfl
import Derived.Lib.SmallJoins
import Derived.Laws.IdiomArrays
import Derived.Test.YtnnbmcfabojjjaaPayColoursParta
namespace Go.Proofs.Ytnnbmcfabojjjaa.payColours
open Go.ChangeShapes Go.WideShapes Go.ChangeAt Go.RowKit
open Go.SX
open Go.SX.E (fn pr cmp var)
set_option linter.unusedVariables false
set_option linter.unusedSimpArgs false
set_option maxRecDepth 100000
noncomputable section
abbrev J0:E:=var 0
abbrev J1:E:=var 4
abbrev J2:E:=cmp .lss J1 (fn 9 (pr J0 (.int 2)))
abbrev J3:E:=cmp .lss (fn 1 (pr J0 (fn 6 (pr (fn 8 (pr J1 (.int 2))) (.int 0))))) (.int 0)
abbrev J4:E:=cmp .lss J1 (.int 0)
abbrev J5:E:=.not J4
abbrev J6:=[J5]
abbrev J7:E:=pr J0 (fn 9 (pr J0 (.int 2)))
abbrev J8:E:=fn 101 J7
abbrev J9:E:=.not J8
abbrev xp:E:=.iff J5 J9
abbrev tD:E:=.not J3
abbrev Vu:E:=cmp .lss (fn 1 (pr J0 (fn 6 (pr (fn 8 (pr J1 (.int 2))) (.int 1))))) (.int 0)
abbrev EZ:E:=.not Vu
abbrev DP:E:=cmp .lss (.int 1) (fn 1 (pr J0 (fn 6 (pr (fn 8 (pr J1 (.int 2))) (.int 1)))))
abbrev Hh:E:=cmp .eql (fn 1 (pr J0 (fn 6 (pr (fn 8 (pr J1 (.int 2))) (.int 0))))) (.int 0)
abbrev J16:E:=cmp .eql (fn 1 (pr J0 (fn 6 (pr (fn 8 (pr J1 (.int 2))) (.int 1))))) (.int 0)
abbrev J17:E:=cmp .lss (.int 1000) (fn 9 (pr J0 (.int 2)))
abbrev J18:E:=.not J17
abbrev J19:=[J18]
abbrev SU:=J5::J19
abbrev Tc:=J2::SU
abbrev J22:E:=cmp .lss (.ar .add .i64 J1 (.int 1)) (.int 0)
abbrev LJ:E:=.not J22
abbrev Oz:E:=cmp .lss (.int 500) (fn 1 (pr J0 (fn 6 (pr (fn 8 (pr J1 (.int 2))) (.int 0)))))
abbrev PY:E:=fn 101 (pr J0 J1)
abbrev i4:E:=.bool false
abbrev J27:=PY::SU
abbrev OM:List E:=(.not Oz)::J27
abbrev J29:E:=pr J0 (.ar .add .i64 J1 (.int 1))
abbrev SN:E:=fn 101 J29
abbrev Xx:E:=cmp .lss J0 (.int 0)
abbrev bE:E:=var 1
abbrev b9:E:=var 2
abbrev b7:E:=var 3
abbrev bH:E:=var 5
abbrev J36:E:=pr b7 (pr J1 bH)
abbrev J37:E:=pr b9 J36
abbrev J38:E:=pr bE J37
abbrev J39:E:=pr J0 J38
abbrev J40:E:=fn 102 J39
abbrev kR:E:=.iff i4 J40
abbrev iS:E:=.not Xx
abbrev Zd:E:=cmp .lss (.int 1) J0
abbrev jW:E:=.not Zd
abbrev Ro:E:=cmp .lss bE (.int 1)
abbrev kj:E:=.not Ro
abbrev J47:E:=cmp .lss b9 (.int 0)
abbrev nO:E:=.not J47
abbrev NW:E:=cmp .lss b7 (.int (-1))
abbrev rL:E:=.not NW
abbrev ZB:E:=cmp .lss (.int 1) b7
abbrev un:E:=.not ZB
abbrev J53:E:=cmp .lss (.int 4) (fn 9 (pr J1 (.int 2)))
abbrev zy:E:=.not J53
abbrev CV:E:=cmp .lss b7 (.int 0)
abbrev fN:E:=.not CV
abbrev LO:E:=cmp .lss (.int 0) (fn 9 (pr J1 (.int 2)))
abbrev d6:E:=var 6
abbrev HY:E:=cmp .lss d6 (.int 0)
abbrev lW:E:=.not HY
abbrev J61:E:=pr J1 (fn 9 (pr J1 (.int 2)))
abbrev J62:E:=fn 101 J61
abbrev J63:E:=.not J62
abbrev J64:E:=.iff lW J63
abbrev Wi:E:=cmp .lss (.int 500) bE
abbrev J66:E:=.not Wi
abbrev PR:E:=cmp .lss (.int 399) b9
abbrev J68:E:=.not PR
abbrev J69:=[J68]
abbrev NL:=J66::J69
abbrev Lf:=J64::NL
abbrev Ij:E:=.iff HY J40
abbrev nP:E:=cmp .lss J1 (fn 9 (pr J0 (.int 5)))
abbrev J74:E:=pr (fn 1 (pr J0 (fn 6 (pr (fn 8 (pr J1 (.int 5))) (.int 4))))) i4
abbrev J75:E:=pr (fn 1 (pr J0 (fn 6 (pr (fn 8 (pr J1 (.int 5))) (.int 3))))) J74
abbrev J76:E:=pr (fn 1 (pr J0 (fn 6 (pr (fn 8 (pr J1 (.int 5))) (.int 2))))) J75
abbrev J77:E:=pr (fn 1 (pr J0 (fn 6 (pr (fn 8 (pr J1 (.int 5))) (.int 1))))) J76
abbrev J78:E:=pr (fn 1 (pr J0 (fn 6 (pr (fn 8 (pr J1 (.int 5))) (.int 0))))) J77
abbrev J79:E:=fn 102 J78
abbrev J80:E:=.iff bH J79
abbrev J81:E:=pr i4 (fn 9 (pr J0 (.int 5)))
abbrev J82:E:=pr J0 J81
abbrev J83:E:=fn 103 J82
abbrev W6:E:=.not J83
abbrev J85:E:=cmp .lss (.int 1000) (fn 9 (pr J0 (.int 5)))
abbrev J86:E:=.not J85
abbrev J87:=[J86]
abbrev MD:=J5::J87
abbrev NO:=nP::MD
abbrev J90:E:=pr J0 (pr i4 J1)
abbrev Wx:E:=fn 103 J90
abbrev pg:E:=.bool true
abbrev J93:E:=pr (fn 1 (pr J0 (fn 6 (pr (fn 8 (pr J1 (.int 5))) (.int 4))))) pg
abbrev J94:E:=pr (fn 1 (pr J0 (fn 6 (pr (fn 8 (pr J1 (.int 5))) (.int 3))))) J93
abbrev J95:E:=pr (fn 1 (pr J0 (fn 6 (pr (fn 8 (pr J1 (.int 5))) (.int 2))))) J94
abbrev J96:E:=pr (fn 1 (pr J0 (fn 6 (pr (fn 8 (pr J1 (.int 5))) (.int 1))))) J95
abbrev J97:E:=pr (fn 1 (pr J0 (fn 6 (pr (fn 8 (pr J1 (.int 5))) (.int 0))))) J96
abbrev J98:E:=fn 102 J97
abbrev Ps:E:=.iff bH J98
abbrev aqb:E:=pr pg (fn 9 (pr J0 (.int 5)))
abbrev amh:E:=pr J0 aqb
abbrev aGz:E:=fn 103 amh
abbrev UI:E:=.not aGz
abbrev aqF:E:=pr J0 (pr pg J1)
abbrev adX:E:=fn 103 aqF
abbrev tL:E:=cmp .lss J1 (fn 0 J0)
abbrev Rj:E:=cmp .eql bE (fn 1 (pr J0 J1))
abbrev Wg:E:=fn 114 (pr J0 bE)
abbrev akW:E:=cmp .lss (.int 1000) (fn 0 J0)
abbrev aiU:E:=.not akW
abbrev aw6:=[aiU]
abbrev SB:=J5::aw6
abbrev XT:=tL::SB
abbrev VM:E:=cmp .eql (fn 131 (pr J0 (pr bE J1))) (.int 0)
abbrev aeq:E:=cmp .lss (.int 99) b7
abbrev dU:E:=var 7
abbrev bg:E:=var 8
abbrev BV:E:=fn 137 (pr J0 (pr bE (pr b9 (pr b7 (pr J1 (pr bH (pr d6 (pr dU bg))))))))
abbrev fJ:E:=.iff i4 BV
abbrev aby:E:=cmp .lss (.int 99) J1
abbrev aad:E:=cmp .lss bH (.int 0)
abbrev ko:E:=.not aad
abbrev acz:E:=cmp .lss (.int 99) bH
abbrev ZN:E:=cmp .lss (.int 99) d6
abbrev aaO:E:=cmp .lss dU (.int 0)
abbrev rH:E:=.not aaO
abbrev WD:E:=cmp .lss (.int 99) dU
abbrev ady:E:=cmp .lss bg (.int 0)
abbrev y9:E:=.not ady
abbrev Rk:E:=cmp .lss (.int 99) bg
abbrev ID:E:=cmp .eql bE (.int (-1))
abbrev EH:E:=.not ID
abbrev A7:E:=cmp .eql b7 (.int 0)
abbrev Gd:E:=cmp .eql J1 (.int 0)
abbrev Oe:E:=cmp .lss J0 (.int 1)
abbrev qj:E:=.not Oe
abbrev Ed:E:=cmp .lss bE (.int (-1))
abbrev Jh:E:=cmp .lss bE (.int 400)
abbrev zH:E:=cmp .eql b9 (.int 0)
abbrev ZT:E:=.not aeq
abbrev an8:E:=.not acz
abbrev aBS:E:=.not ZN
abbrev aze:E:=.not WD
abbrev ati:E:=.not Rk
abbrev RS:E:=cmp .lss (.int 500) J0
abbrev amP:E:=.not RS
abbrev aw5:=[amP]
abbrev aic:=ati::aw5
abbrev aiZ:=aze::aic
abbrev aEz:=aBS::aiZ
abbrev aeA:=an8::aEz
abbrev RG:=ZT::aeA
abbrev aCS:E:=cmp .eql b9 (.int 1)
abbrev TN:E:=.iff aCS BV
abbrev aEj:List E:=(.not aby)::aeA
abbrev ad3:=ZT::aEj
abbrev MK:E:=pr (.int 0) (.int 0)
abbrev gN:E:=fn 117 J0
abbrev iL:=[gN]
abbrev nq:E:=cmp .eql bg (.int 0)
abbrev af1:E:=cmp .lss (.ar .add .i64 bg (.int 1)) (.int 0)
abbrev QV:E:=.not af1
abbrev kY:E:=cmp .eql bg (.int 1)
abbrev cL:E:=var 16
abbrev zL:E:=cmp .eql cL (.int 0)
abbrev nx:E:=pr J0 (pr bg cL)
abbrev C3:E:=cmp .eql cL (.int 1)
abbrev Bl:E:=cmp .eql cL (.int 2)
abbrev Ea:E:=cmp .lss cL (.int 4)
abbrev alQ:E:=cmp .lss cL (.int 0)
abbrev aa3:E:=.not alQ
abbrev agE:=[aa3,nq]
abbrev TE:=Ea::agE
abbrev aij:E:=cmp .lss (.int 2) (.ar .add .i64 bg (.int 1))
abbrev VQ:E:=.not aij
abbrev qb:=[Ea,aa3]
abbrev dT:E:=var 24
abbrev iZ:E:=var 28
abbrev rp:E:=cmp .lss dT (fn 0 iZ)
abbrev uI:E:=var 25
abbrev xP:E:=fn 104 (pr uI (pr J0 (pr bg (pr cL dT))))
abbrev xj:E:=fn 109 (pr iZ nx)
abbrev aEr:E:=cmp .lss dT (.int 0)
abbrev Hr:E:=.not aEr
abbrev Xf:=Hr::TE
abbrev kM:E:=.iff i4 (fn 108 J0)
abbrev agj:E:=cmp .lss (.int 40) (fn 0 iZ)
abbrev Gp:E:=.not agj
abbrev XI:=[Hr]
abbrev ae0:=Gp::XI
abbrev Qi:=rp::ae0
abbrev Ri:=Hr::qb
abbrev ag1:E:=pr bg (pr cL (.int 0))
abbrev aFw:E:=pr J0 ag1
abbrev azn:E:=pr (var 17) aFw
abbrev ays:E:=fn 104 azn
abbrev ahm:E:=cmp .lss (.int 4) cL
abbrev alK:E:=.not ahm
abbrev ape:=[alK]
abbrev YM:=ays::ape
abbrev axb:E:=pr (.ar .add .i64 bg (.int 1)) MK
abbrev aDc:E:=pr J0 axb
abbrev apt:E:=pr (var 17) aDc
abbrev Wp:E:=fn 104 apt
abbrev Qd:=rp::XI
abbrev SP:E:=cmp .lss (fn 7 (pr (.int 2) (.ar .add .i64 bg (.int 1)))) (fn 7 (pr (.int 2) bg))
abbrev db:E:=var 32
abbrev tT:E:=cmp .lss db (fn 9 (pr (fn 1 (pr J0 (.int 29))) (.int 5)))
abbrev Gj:E:=cmp .lss (fn 1 (pr (fn 1 (pr J0 (.int 29))) (fn 6 (pr (fn 8 (pr db (.int 5))) (.int 3))))) (.int 0)
abbrev rY:E:=var 33
abbrev Ab:E:=var 34
abbrev aaB:E:=pr J0 db
abbrev avQ:E:=pr Ab aaB
abbrev SF:E:=fn 106 avQ
abbrev akg:E:=pr rY aaB
abbrev U3:E:=fn 105 akg
abbrev avj:E:=cmp .lss db (.int 0)
abbrev avJ:E:=.not avj
abbrev PL:=[avJ]
abbrev api:=U3::PL
abbrev Tu:=SF::api
abbrev akR:=tT::PL
abbrev ER:=gN::akR
abbrev ac1:E:=.not (fn 33 (pr uI (fn 1 (pr iZ dT))))
abbrev aCZ:E:=pr cL (.ar .add .i64 dT (.int 1))
abbrev aGh:E:=pr bg aCZ
abbrev awQ:E:=pr J0 aGh
abbrev aDp:E:=pr (fn 34 (pr uI (pr (fn 1 (pr iZ dT)) bg))) awQ
abbrev R4:E:=fn 104 aDp
abbrev aEm:E:=cmp .lss (fn 7 (pr (.int 2) (.ar .add .i64 bg (.int 1)))) (.int 0)
abbrev UZ:E:=.not aEm
abbrev atA:E:=cmp .lss (fn 9 (pr (fn 1 (pr J0 (.int 29))) (.int 5))) db
abbrev agx:E:=.not atA
abbrev Oi:=[agx]
abbrev EN:E:=pr J0 (fn 9 (pr (fn 1 (pr J0 (.int 29))) (.int 5)))
abbrev afu:E:=.not (fn 33 (pr rY (fn 1 (pr (fn 1 (pr J0 (.int 29))) (fn 6 (pr (fn 8 (pr db (.int 5))) (.int 1)))))))
abbrev aaA:=gN::Tu
abbrev agG:=afu::aaA
abbrev aoW:=Gj::agG
abbrev aeD:=tT::aoW
abbrev Cj:E:=pr J0 (.ar .add .i64 db (.int 1))
abbrev aw2:List E:=(.not Gj)::aaA
abbrev Vf:=tT::aw2
abbrev aR:E:=var 40
abbrev gX:E:=cmp .lss aR (fn 9 (pr (fn 1 (pr J0 (.int 0))) (.int 12)))
abbrev ol:E:=cmp .lss (.int 0) aR
abbrev Ew:=[gX,ol]
abbrev Kx:=gN::Ew
abbrev GV:E:=fn 107 (pr J0 aR)
abbrev lh:E:=var 41
abbrev JJ:E:=fn 105 (pr lh EN)
abbrev uG:E:=.not ol
abbrev aDV:E:=cmp .lss aR (.int 0)
abbrev aah:E:=.not aDV
abbrev acP:=[aah]
abbrev Gh:=uG::acP
abbrev auf:E:=cmp .lss (.ar .add .i64 aR (.int 1)) (.int 0)
abbrev aay:E:=.not auf
abbrev nl:E:=var 43
abbrev po:E:=.iff nl (fn 137 (pr (fn 1 (pr (fn 1 (pr J0 (.int 0))) (fn 6 (pr (fn 8 (pr aR (.int 12))) (.int 0))))) (pr (fn 1 (pr (fn 1 (pr J0 (.int 0))) (fn 6 (pr (fn 8 (pr aR (.int 12))) (.int 1))))) (pr (fn 1 (pr (fn 1 (pr J0 (.int 0))) (fn 6 (pr (fn 8 (pr aR (.int 12))) (.int 2))))) (pr (fn 1 (pr (fn 1 (pr J0 (.int 0))) (fn 6 (pr (fn 8 (pr aR (.int 12))) (.int 3))))) (pr (fn 1 (pr (fn 1 (pr J0 (.int 0))) (fn 6 (pr (fn 8 (pr aR (.int 12))) (.int 4))))) (pr (fn 1 (pr (fn 1 (pr J0 (.int 0))) (fn 6 (pr (fn 8 (pr aR (.int 12))) (.int 5))))) (pr (fn 1 (pr (fn 1 (pr J0 (.int 0))) (fn 6 (pr (fn 8 (pr aR (.int 12))) (.int 6))))) (pr (fn 1 (pr (fn 1 (pr J0 (.int 0))) (fn 6 (pr (fn 8 (pr aR (.int 12))) (.int 7))))) (fn 1 (pr (fn 1 (pr J0 (.int 0))) (fn 6 (pr (fn 8 (pr aR (.int 12))) (.int 8))))))))))))))
abbrev wg:E:=var 42
abbrev AS:E:=cmp .eql (fn 32 (pr wg (pr (fn 1 (pr (fn 1 (pr J0 (.int 0))) (fn 6 (pr (fn 8 (pr aR (.int 12))) (.int 0))))) (.int 0)))) (fn 1 (pr (fn 1 (pr J0 (.int 0))) (fn 6 (pr (fn 8 (pr aR (.int 12))) (.int 1)))))
abbrev WL:E:=fn 106 (pr wg EN)
abbrev wG:=GV::WL::JJ::acP
abbrev sJ:E:=cmp .eql (fn 32 (pr lh (pr (fn 1 (pr (fn 1 (pr J0 (.int 0))) (fn 6 (pr (fn 8 (pr aR (.int 12))) (.int 0))))) (.int 0)))) (fn 1 (pr (fn 1 (pr J0 (.int 0))) (fn 6 (pr (fn 8 (pr aR (.int 12))) (.int 2)))))
abbrev ab8:E:=.not (fn 33 (pr lh (fn 1 (pr (fn 1 (pr J0 (.int 0))) (fn 6 (pr (fn 8 (pr aR (.int 12))) (.int 0)))))))
abbrev Ac:E:=cmp .lss (fn 1 (pr (fn 1 (pr J0 (.int 0))) (fn 6 (pr (fn 8 (pr (.ar .sub .i64 aR (.int 1)) (.int 12))) (.int 0))))) (fn 1 (pr (fn 1 (pr J0 (.int 0))) (fn 6 (pr (fn 8 (pr aR (.int 12))) (.int 0)))))
abbrev qL:=GV::WL::JJ::aah::iL
abbrev SC:=gX::Gh
abbrev aie:E:=cmp .lss (fn 9 (pr (fn 1 (pr J0 (.int 0))) (.int 12))) (.ar .add .i64 aR (.int 1))
abbrev T8:E:=.not aie
abbrev ad6:E:=.not (fn 33 (pr wg (fn 1 (pr (fn 1 (pr J0 (.int 0))) (fn 6 (pr (fn 8 (pr aR (.int 12))) (.int 0)))))))
abbrev Fk:E:=fn 107 (pr J0 (.ar .add .i64 aR (.int 1)))
abbrev Qg:E:=cmp .lss (fn 7 (pr (fn 9 (pr (fn 1 (pr J0 (.int 0))) (.int 12))) (.ar .add .i64 aR (.int 1)))) (fn 7 (pr (fn 9 (pr (fn 1 (pr J0 (.int 0))) (.int 12))) aR))
abbrev alE:E:=cmp .lss (fn 7 (pr (fn 9 (pr (fn 1 (pr J0 (.int 0))) (.int 12))) (.ar .add .i64 aR (.int 1)))) (.int 0)
abbrev UH:E:=.not alE
theorem azl:og Try.prog (fun tb=>pY sI (run Try.prog (tb.plus [] [] DN.l) 3000 (.call 9 []) .nil (pZ 0 []) SX.one))=true:=by kernel_rfl
def Sp:Nl:=nc (aDm good (facts:=[]) all_nil (anns:=[]) (Ff [] rfl) (nats:=DN.l) DN.h azl) DN

def G0:=fa ((fn 101 (pr J0 (.int 0))))<|fun F=>by
 rfl
def G1:=fb (J2::J3::J6) xp<|am fun F p0 p1 p2=>by
 have:=fun h0 h1=>@lT F _ _ (fn 9 (pr J0 (.int 2))) h0 h1 (fn 1 _) (fn 1 (pr J0 (fn 6 (pr (fn 8 (pr J1 _)) _)))) rfl rfl
 try simp only[ab]at *
 grind
def G2:=fb (J2::tD::Vu::J6) xp<|aF fun F p0 p1 p2 p3=>by
 have:=fun h0 h1=>@lT F _ _ (fn 9 (pr J0 (.int 2))) h0 h1 _ (fn 1 (pr J0 (fn 6 (pr (fn 8 (pr J1 _)) _)))) rfl rfl
 try simp only[ab]at *
 grind
def G3:=fb (J2::tD::EZ::(.not DP)::(.not Hh)::(.not J16)::J6) xp<|ck fun F p0 p1 p2 p3 p4 p5 p6=>by
 have:=fun h0 h1=>@lT F _ _ (fn 9 (pr J0 (.int 2))) h0 h1 (fn 1 _) (fn 1 (pr J0 (fn 6 (pr (fn 8 (pr J1 _)) _)))) rfl rfl
 try simp only[ab]at *
 grind
def G4:=fb Tc LJ<|am fun F p0 p1 p2=>by
 try simp only[ab,aj]at *
 obtain⟨a2,ea2,qa2⟩:=ah ((E.I F J1)+(1))
 omega
def G5:=fb (J2::tD::EZ::DP::J6) xp<|aT fun F p0 p1 p2 p3 p4=>by
 have:=fun h0 h1=>@lT F _ _ (fn 9 (pr J0 (.int 2))) h0 h1 _ (fn 1 (pr J0 (fn 6 (pr (fn 8 (pr J1 _)) _)))) rfl rfl
 try simp only[ab]at *
 grind
def G6:=fb (J2::tD::Oz::J6) xp<|aF fun F p0 p1 p2 p3=>by
 have:=fun h0 h1=>@lT F _ _ (fn 9 (pr J0 (.int 2))) h0 h1 (fn 1 _) (fn 1 (pr J0 (fn 6 (pr (fn 8 (pr J1 _)) _)))) rfl rfl
 try simp only[ab]at *
 grind
def G7:=fb ([(.not J2),PY]) (.iff i4 J9)<|au fun F p0 p1=>by
 have:=fun h1=>@acx F _ _ (fn 9 (pr J0 (.int 2))) p1 h1
 try simp only[ab]at *
 grind
def G8:=fb (J2::J6) (.not (cmp .lss (fn 9 (pr J0 (.int 2))) (.ar .add .i64 J1 (.int 1))))<|au fun F p0 p1=>by
 try simp only[ab,aj]at *
 obtain⟨a2,ea2,qa2⟩:=ah ((E.I F J1)+(1))
 omega
def G9:=fb (J2::tD::EZ::(.not DP)::(.not Hh)::J16::OM) SN<|fF fun F p0 p1 p2 p3 p4 p5 p6 p7 p8 p9=>by
 have:=@aA F J1 (.int 1)
 have:=fun h0 hm=>@EX F _ (.ar .add .i64 J1 (.int 1)) _ p7 h0 hm (fn 1 _) (fn 1 _) rfl rfl
 try simp only[ab]at *
 grind
def G10:=fb (J2::tD::EZ::(.not DP)::Hh::OM) SN<|dK fun F p0 p1 p2 p3 p4 p5 p6 p7 p8=>by
 have:=@aA F J1 (.int 1)
 have:=fun h0 hm=>@EX F _ (.ar .add .i64 J1 (.int 1)) _ p6 h0 hm (fn 1 _) (fn 1 _) rfl rfl
 try simp only[ab]at *
 grind
def G11:=fb Tc (cmp .lss (fn 7 (pr (fn 9 (pr J0 (.int 2))) (.ar .add .i64 J1 (.int 1)))) (fn 7 (pr (fn 9 (pr J0 (.int 2))) J1)))<|am fun F p0 p1 p2=>by
 try simp only[ab,aj]at *
 obtain⟨a2,ea2,qa2⟩:=ah ((E.I F J1)+(1))
 omega
def G12:=fb (J2::J6) (.not (cmp .lss (fn 7 (pr (fn 9 (pr J0 (.int 2))) (.ar .add .i64 J1 (.int 1)))) (.int 0)))<|au fun F p0 p1=>by
 try simp only[ab,aj]at *
 obtain⟨a2,ea2,qa2⟩:=ah ((E.I F J1)+(1))
 omega
def ax:List Fa:=[G0,G1,G2,G3,G4,G5,G6,G7,G8,G9,G10,G11,G12]
theorem aA5:aU Try.prog (bn (aw3)):=sc ax (aqg) Sp ([]) (by kernel_rfl) (by kernel_rfl)
def aa2:Nl:=nc aA5 Sp
def G13:=fb ([Xx]) kR<|az fun F p0=>by
 have:=(@dg F b7 bE J0 bH b9 J1)
 try simp only[ab]at *
 grind
def G14:=fb ([iS,jW,Ro]) kR<|am fun F p0 p1 p2=>by
 have:=(@dg F b7 bE J0 bH b9 J1)
 try simp only[ab]at *
 grind
def G15:=fb ([iS,jW,kj,J47]) kR<|aF fun F p0 p1 p2 p3=>by
 have:=(@dg F b7 bE J0 bH b9 J1)
 try simp only[ab]at *
 grind
def G16:=fb ([iS,jW,kj,nO,NW]) kR<|aT fun F p0 p1 p2 p3 p4=>by
 have:=(@dg F b7 bE J0 bH b9 J1)
 try simp only[ab]at *
 grind
def G17:=fb (iS::jW::kj::nO::rL::un::zy::fN::(.not LO)::bH::Lf) Ij<|gP fun F p0 p1 p2 p3 p4 p5 p6 p7 p8 p9 ao av ax=>by
 have:=wn F (pr J1 (.int 2))
 have:=(@dg F b7 bE J0 bH b9 J1)
 try simp only[ab]at *
 grind
def G18:=fb (iS::jW::kj::nO::rL::un::zy::fN::(.not LO)::Lf) Ij<|iv fun F p0 p1 p2 p3 p4 p5 p6 p7 p8 p9 ao av=>by
 have:=wn F (pr J1 (.int 2))
 have:=(@dg F b7 bE J0 bH b9 J1)
 try simp only[ab]at *
 grind
def G19:=fb (iS::jW::kj::nO::rL::un::zy::fN::LO::NL) kR<|gk fun F p0 p1 p2 p3 p4 p5 p6 p7 p8 p9 ao=>by
 have:=(@dg F b7 bE J0 bH b9 J1)
 try simp only[ab]at *
 grind
def G20:=fb ([iS,jW,kj,nO,rL,un,zy,CV,bH]) kR<|dK fun F p0 p1 p2 p3 p4 p5 p6 p7 p8=>by
 have:=(@dg F b7 bE J0 bH b9 J1)
 try simp only[ab]at *
 grind
def G21:=fb (iS::jW::kj::nO::rL::un::zy::CV::(.not bH)::Lf) Ij<|iv fun F p0 p1 p2 p3 p4 p5 p6 p7 p8 p9 ao av=>by
 have:=(@dg F b7 bE J0 bH b9 J1)
 try simp only[ab]at *
 grind
def G22:=fb ([iS,jW,kj,nO,rL,un,J53]) kR<|ck fun F p0 p1 p2 p3 p4 p5 p6=>by
 have:=(@dg F b7 bE J0 bH b9 J1)
 try simp only[ab]at *
 grind
def G23:=fb ([iS,jW,kj,nO,rL,ZB]) kR<|bU fun F p0 p1 p2 p3 p4 p5=>by
 have:=(@dg F b7 bE J0 bH b9 J1)
 try simp only[ab]at *
 grind
def G24:=fb ([iS,jW,kj,nO,PR]) kR<|aT fun F p0 p1 p2 p3 p4=>by
 have:=(@dg F b7 bE J0 bH b9 J1)
 try simp only[ab]at *
 grind
def G25:=fb ([iS,jW,kj,Wi]) kR<|aF fun F p0 p1 p2 p3=>by
 have:=(@dg F b7 bE J0 bH b9 J1)
 try simp only[ab]at *
 grind
def G26:=fb ([iS,Zd]) kR<|au fun F p0 p1=>by
 have:=(@dg F b7 bE J0 bH b9 J1)
 try simp only[ab]at *
 grind
def aB:List Fa:=[G13,G14,G15,G16,G17,G18,G19,G20,G21,G22,G23,G24,G25,G26]
theorem aER:aU Try.prog (bn (awR)):=sc aB ([]) aa2 ([]) (by kernel_rfl) (by kernel_rfl)
def PM:Nl:=nc aER aa2
def G27:=fa ((fn 103 (pr J0 (pr i4 (.int 0)))))<|fun F=>by
 rfl
def G28:=fb (nP::J80::(.not bH)::J6) (.iff J5 W6)<|aF fun F p0 p1 p2 p3=>by
 have:=fun h0 h1=>@FI F _ _ (fn 9 (pr J0 (.int 5))) _ h0 h1 (fn _ (pr (fn 1 _) (pr (fn 1 _) (pr (fn 1 _) (pr (fn 1 _) (pr (fn 1 (pr J0 (fn 6 (pr (fn 8 (pr J1 _)) _)))) i4)))))) rfl
 try simp only[ab]at *
 grind
def G29:=fb NO LJ<|am fun F p0 p1 p2=>by
 try simp only[ab,aj]at *
 obtain⟨a2,ea2,qa2⟩:=ah ((E.I F J1)+(1))
 omega
def G30:=fb ([(.not nP),Wx]) (.iff i4 W6)<|au fun F p0 p1=>by
 have:=fun h1=>@EW F _ _ (fn 9 (pr J0 (.int 5))) _ p1 h1
 try simp only[ab]at *
 grind
def Vl:=fb (nP::J6) (.not (cmp .lss (fn 9 (pr J0 (.int 5))) (.ar .add .i64 J1 (.int 1))))<|au fun F p0 p1=>by
 try simp only[ab,aj]at *
 obtain⟨a2,ea2,qa2⟩:=ah ((E.I F J1)+(1))
 omega
def G32:=fb (nP::J80::bH::Wx::MD) (fn 103 (pr J0 (pr i4 (.ar .add .i64 J1 (.int 1)))))<|bU fun F p0 p1 p2 p3 p4 p5=>by
 have:=@aA F J1 (.int 1)
 have:=fun h0 hm=>@CQ F _ _ (.ar .add .i64 J1 (.int 1)) _ p3 h0 hm (fn _ (pr (fn 1 _) (pr (fn 1 _) (pr (fn 1 _) (pr (fn 1 _) (pr (fn 1 _) _)))))) rfl
 try simp only[ab]at *
 grind
def OT:=fb NO (cmp .lss (fn 7 (pr (fn 9 (pr J0 (.int 5))) (.ar .add .i64 J1 (.int 1)))) (fn 7 (pr (fn 9 (pr J0 (.int 5))) J1)))<|am fun F p0 p1 p2=>by
 try simp only[ab,aj]at *
 obtain⟨a2,ea2,qa2⟩:=ah ((E.I F J1)+(1))
 omega
def Nx:=fb (nP::J6) (.not (cmp .lss (fn 7 (pr (fn 9 (pr J0 (.int 5))) (.ar .add .i64 J1 (.int 1)))) (.int 0)))<|au fun F p0 p1=>by
 try simp only[ab,aj]at *
 obtain⟨a2,ea2,qa2⟩:=ah ((E.I F J1)+(1))
 omega
def aC:List Fa:=[G27,G28,G29,G30,Vl,G32,OT,Nx]
theorem avB:aU Try.prog (bn (Py 77 false)):=sc aC (W0 77 false) PM ([]) (by kernel_rfl) (by kernel_rfl)
def abP:Nl:=nc avB PM
def G35:=fa ((fn 103 (pr J0 (pr pg (.int 0)))))<|fun F=>by
 rfl
def G36:=fb (nP::Ps::(.not bH)::J6) (.iff J5 UI)<|aF fun F p0 p1 p2 p3=>by
 have:=fun h0 h1=>@FI F _ _ (fn 9 (pr J0 (.int 5))) _ h0 h1 (fn _ (pr (fn 1 _) (pr (fn 1 _) (pr (fn 1 _) (pr (fn 1 _) (pr (fn 1 (pr J0 (fn 6 (pr (fn 8 (pr J1 _)) _)))) pg)))))) rfl
 try simp only[ab]at *
 grind
def G37:=fb ([(.not nP),adX]) (.iff i4 UI)<|au fun F p0 p1=>by
 have:=fun h1=>@EW F _ _ (fn 9 (pr J0 (.int 5))) _ p1 h1
 try simp only[ab]at *
 grind
def G38:=fb (nP::Ps::bH::adX::MD) (fn 103 (pr J0 (pr pg (.ar .add .i64 J1 (.int 1)))))<|bU fun F p0 p1 p2 p3 p4 p5=>by
 have:=@aA F J1 (.int 1)
 have:=fun h0 hm=>@CQ F _ _ (.ar .add .i64 J1 (.int 1)) _ p3 h0 hm (fn _ (pr (fn 1 _) (pr (fn 1 _) (pr (fn 1 _) (pr (fn 1 _) (pr (fn 1 _) _)))))) rfl
 try simp only[ab]at *
 grind
def aE:List Fa:=[G35,G36,G29,G37,Vl,G38,OT,Nx]
theorem ajz:aU Try.prog (bn (Py 79 true)):=sc aE (W0 79 true) abP ([]) (by kernel_rfl) (by kernel_rfl)
def P8:Nl:=nc ajz abP
def Nr:=fa ((cmp .eql (fn 131 (pr J0 (pr bE (.int 0)))) (.int 0)))<|fun F=>by
 rfl
def G40:=fb (tL::Rj::J6) (.iff J5 Wg)<|am fun F p0 p1 p2=>by
 have:=@ag2 F J0 bE J1
 try simp only[ab]at *
 grind
def G41:=fb XT LJ<|am fun F p0 p1 p2=>by
 try simp only[ab,aj]at *
 obtain⟨a3,ea3,qa3⟩:=ah ((E.I F J1)+(1))
 omega
def G42:=fb ([(.not tL),VM]) (.iff i4 Wg)<|au fun F p0 p1=>by
 have:=@aue F J0 bE J1
 try simp only[ab]at *
 grind
def G43:=fb (tL::J6) (.not (cmp .lss (fn 0 J0) (.ar .add .i64 J1 (.int 1))))<|au fun F p0 p1=>by
 try simp only[ab,aj]at *
 obtain⟨a3,ea3,qa3⟩:=ah ((E.I F J1)+(1))
 omega
def G44:=fb (tL::(.not Rj)::VM::SB) (cmp .eql (fn 131 (pr J0 (pr bE (.ar .add .i64 J1 (.int 1))))) (.int 0))<|aT fun F p0 p1 p2 p3 p4=>by
 have:=@aA F J1 (.int 1)
 have:=@My F J0 bE J1 (.ar .add .i64 J1 (.int 1))
 try simp only[ab]at *
 grind
def G45:=fb XT (cmp .lss (fn 7 (pr (fn 0 J0) (.ar .add .i64 J1 (.int 1)))) (fn 7 (pr (fn 0 J0) J1)))<|am fun F p0 p1 p2=>by
 try simp only[ab,aj]at *
 obtain⟨a3,ea3,qa3⟩:=ah ((E.I F J1)+(1))
 omega
def G46:=fb (tL::J6) (.not (cmp .lss (fn 7 (pr (fn 0 J0) (.ar .add .i64 J1 (.int 1)))) (.int 0)))<|au fun F p0 p1=>by
 try simp only[ab,aj]at *
 obtain⟨a3,ea3,qa3⟩:=ah ((E.I F J1)+(1))
 omega
def aL:List Fa:=[Nr,G40,G41,G42,G43,G44,G45,G46]
theorem avq:aU Try.prog (bn (aCo)):=sc aL (ai5) P8 ([]) (by kernel_rfl) (by kernel_rfl)
def PX:Nl:=nc avq P8
def Qk:=fb ([fN,aeq]) fJ<|au fun F p0 p1=>by
 have:=@cm F J0 bE b9 b7 J1 bH d6 dU bg
 try simp only[ab]at *
 grind
def Sn:=fb ([fN,J5,aby]) fJ<|am fun F p0 p1 p2=>by
 have:=@cm F J0 bE b9 b7 J1 bH d6 dU bg
 try simp only[ab]at *
 grind
def RJ:=fb ([fN,J5,ko,acz]) fJ<|aF fun F p0 p1 p2 p3=>by
 have:=@cm F J0 bE b9 b7 J1 bH d6 dU bg
 try simp only[ab]at *
 grind
def Zc:=fb ([fN,J5,ko,lW,ZN]) fJ<|aT fun F p0 p1 p2 p3 p4=>by
 have:=@cm F J0 bE b9 b7 J1 bH d6 dU bg
 try simp only[ab]at *
 grind
def Zi:=fb ([fN,J5,ko,lW,rH,WD]) fJ<|bU fun F p0 p1 p2 p3 p4 p5=>by
 have:=@cm F J0 bE b9 b7 J1 bH d6 dU bg
 try simp only[ab]at *
 grind
def G52:=fb ([fN,J5,ko,lW,rH,y9,Rk]) fJ<|ck fun F p0 p1 p2 p3 p4 p5 p6=>by
 have:=@cm F J0 bE b9 b7 J1 bH d6 dU bg
 try simp only[ab]at *
 grind
def G53:=fb (fN::J5::ko::lW::rH::y9::EH::A7::Gd::qj::(.not Ed)::Jh::(.not zH)::RG) TN<|vk fun F p0 p1 p2 p3 p4 p5 p6 p7 p8 p9 ao av ax aB aC aE aL aQ bb=>by
 have:=@cm F J0 bE b9 b7 J1 bH d6 dU bg
 try simp only[ab]at *
 grind
def G54:=fb (fN::J5::ko::lW::rH::y9::EH::A7::Gd::qj::(.not Ed)::Jh::zH::RG) (.iff pg BV)<|vk fun F p0 p1 p2 p3 p4 p5 p6 p7 p8 p9 ao av ax aB aC aE aL aQ bb=>by
 have:=@cm F J0 bE b9 b7 J1 bH d6 dU bg
 try simp only[ab]at *
 grind
def G55:=fb ([qj,(.not Ed),(.not Jh)]) fJ<|am fun F p0 p1 p2=>by
 have:=@cm F J0 bE b9 b7 J1 bH d6 dU bg
 try simp only[ab]at *
 grind
def Pb:=fb ([qj,Ed]) fJ<|au fun F p0 p1=>by
 have:=@cm F J0 bE b9 b7 J1 bH d6 dU bg
 try simp only[ab]at *
 grind
def Q6:=fb ([qj,RS]) fJ<|au fun F p0 p1=>by
 have:=@cm F J0 bE b9 b7 J1 bH d6 dU bg
 try simp only[ab]at *
 grind
def WQ:=fb ([Oe]) fJ<|az fun F p0=>by
 have:=@cm F J0 bE b9 b7 J1 bH d6 dU bg
 try simp only[ab]at *
 grind
def G59:=fb ([EH,A7,(.not Gd)]) fJ<|am fun F p0 p1 p2=>by
 have:=@cm F J0 bE b9 b7 J1 bH d6 dU bg
 try simp only[ab]at *
 grind
def G60:=fb ([EH,(.not A7)]) fJ<|au fun F p0 p1=>by
 have:=@cm F J0 bE b9 b7 J1 bH d6 dU bg
 try simp only[ab]at *
 grind
def G61:=fb (fN::J5::ko::lW::rH::y9::ID::qj::(.not zH)::ad3) TN<|lf fun F p0 p1 p2 p3 p4 p5 p6 p7 p8 p9 ao av ax aB aC aE=>by
 have:=@cm F J0 bE b9 b7 J1 bH d6 dU bg
 try simp only[ab]at *
 grind
def G62:=fb (fN::J5::ko::lW::rH::y9::ID::qj::zH::ad3) (.iff pg BV)<|lf fun F p0 p1 p2 p3 p4 p5 p6 p7 p8 p9 ao av ax aB aC aE=>by
 have:=@cm F J0 bE b9 b7 J1 bH d6 dU bg
 try simp only[ab]at *
 grind
def Sv:=fb ([fN,J5,ko,lW,rH,ady]) fJ<|bU fun F p0 p1 p2 p3 p4 p5=>by
 have:=@cm F J0 bE b9 b7 J1 bH d6 dU bg
 try simp only[ab]at *
 grind
def U1:=fb ([fN,J5,ko,lW,aaO]) fJ<|aT fun F p0 p1 p2 p3 p4=>by
 have:=@cm F J0 bE b9 b7 J1 bH d6 dU bg
 try simp only[ab]at *
 grind
def Pj:=fb ([fN,J5,ko,HY]) fJ<|aF fun F p0 p1 p2 p3=>by
 have:=@cm F J0 bE b9 b7 J1 bH d6 dU bg
 try simp only[ab]at *
 grind
def G66:=fb ([fN,J5,aad]) fJ<|am fun F p0 p1 p2=>by
 have:=@cm F J0 bE b9 b7 J1 bH d6 dU bg
 try simp only[ab]at *
 grind
def PF:=fb ([fN,J4]) fJ<|au fun F p0 p1=>by
 have:=@cm F J0 bE b9 b7 J1 bH d6 dU bg
 try simp only[ab]at *
 grind
def XF:=fb ([CV]) fJ<|az fun F p0=>by
 have:=@cm F J0 bE b9 b7 J1 bH d6 dU bg
 try simp only[ab]at *
 grind
def aQ:List Fa:=[Qk,Sn,RJ,Zc,Zi,G52,G53,G54,G55,Pb,Q6,WQ,G59,G60,G61,G62,Sv,U1,Pj,G66,PF,XF]
theorem ay5:aU Try.prog (bn (Rf 106)):=sc aQ ([]) PX ([]) (by kernel_rfl) (by kernel_rfl)
def Vs:Nl:=nc ay5 PX
def G69:=fa ((fn 104 (pr (fn 10 (.int 0)) (pr J0 (pr (.int 0) MK)))))<|fun F=>by
 rfl
def G70:=fb iL (.not (cmp .lss (.int 40) (fn 0 (fn 1 (pr J0 (.int 6))))))<|az fun F p0=>by
 have:=aw p0
 try simp only[ab]at *
 omega
def G71:=fb iL (.not (cmp .lss (.int 40) (fn 0 (fn 1 (pr J0 (.int 7))))))<|az fun F p0=>by
 have:=aw p0
 try simp only[ab]at *
 omega
def QM:=fb iL (.not (cmp .lss (.int 40) (fn 0 (fn 1 (pr J0 (.int 8))))))<|az fun F p0=>by
 have:=aw p0
 try simp only[ab]at *
 omega
def G73:=fb iL (.not (cmp .lss (.int 40) (fn 0 (fn 1 (pr J0 (.int 9))))))<|az fun F p0=>by
 have:=aw p0
 try simp only[ab]at *
 omega
def VR:=fb ([nq]) QV<|az fun F p0=>by
 try simp only[ab,aj]at *
 obtain⟨a1,ea1,qa1⟩:=ah ((E.I F bg)+(1))
 omega
def G75:=fb iL (.not (cmp .lss (.int 40) (fn 0 (fn 1 (pr J0 (.int 20))))))<|az fun F p0=>by
 have:=aw p0
 try simp only[ab]at *
 omega
def G76:=fb iL (.not (cmp .lss (.int 40) (fn 0 (fn 1 (pr J0 (.int 21))))))<|az fun F p0=>by
 have:=aw p0
 try simp only[ab]at *
 omega
def NI:=fb iL (.not (cmp .lss (.int 40) (fn 0 (fn 1 (pr J0 (.int 22))))))<|az fun F p0=>by
 have:=aw p0
 try simp only[ab]at *
 omega
def G78:=fb iL (.not (cmp .lss (.int 40) (fn 0 (fn 1 (pr J0 (.int 23))))))<|az fun F p0=>by
 have:=aw p0
 try simp only[ab]at *
 omega
def G79:=fb ([kY]) QV<|az fun F p0=>by
 try simp only[ab,aj]at *
 obtain⟨a1,ea1,qa1⟩:=ah ((E.I F bg)+(1))
 omega
def BT:=fb iL (.not (cmp .lss (.int 20) (fn 9 (pr (fn 1 (pr J0 (.int 29))) (.int 5)))))<|az fun F p0=>by
 have:=aw p0
 try simp only[ab]at *
 omega
def G81:=fb ([zL,gN,nq]) (fn 109 (pr (fn 1 (pr J0 (.int 6))) nx))<|am fun F p0 p1 p2=>by
 obtain⟨g0,g1⟩:E.I F bg=(0)/\E.I F cL=(0):=by
  try simp only[ab]at *
  omega
 exact gG 0 0 6 (by decide) (by rfl) g0 g1
def G82:=fb ([C3,gN,nq]) (fn 109 (pr (fn 1 (pr J0 (.int 7))) nx))<|am fun F p0 p1 p2=>by
 obtain⟨g0,g1⟩:E.I F bg=(0)/\E.I F cL=(1):=by
  try simp only[ab]at *
  omega
 exact gG 0 1 7 (by decide) (by rfl) g0 g1
def G83:=fb ([Bl,gN,nq]) (fn 109 (pr (fn 1 (pr J0 (.int 8))) nx))<|am fun F p0 p1 p2=>by
 obtain⟨g0,g1⟩:E.I F bg=(0)/\E.I F cL=(2):=by
  try simp only[ab]at *
  omega
 exact gG 0 2 8 (by decide) (by rfl) g0 g1
def G84:=fb ((.not zL)::(.not C3)::(.not Bl)::gN::TE) (fn 109 (pr (fn 1 (pr J0 (.int 9))) nx))<|ck fun F p0 p1 p2 p3 p4 p5 p6=>by
 obtain⟨g0,g1⟩:E.I F bg=(0)/\E.I F cL=(3):=by
  try simp only[ab]at *
  omega
 exact gG 0 3 9 (by decide) (by rfl) g0 g1
def G85:=fb ([nq]) VQ<|az fun F p0=>by
 try simp only[ab,aj]at *
 obtain⟨a1,ea1,qa1⟩:=ah ((E.I F bg)+(1))
 omega
def G86:=fb (kY::zL::iL) (fn 109 (pr (fn 1 (pr J0 (.int 20))) nx))<|am fun F p0 p1 p2=>by
 obtain⟨g0,g1⟩:E.I F bg=(1)/\E.I F cL=(0):=by
  try simp only[ab]at *
  omega
 exact gG 1 0 20 (by decide) (by rfl) g0 g1
def G87:=fb (kY::C3::iL) (fn 109 (pr (fn 1 (pr J0 (.int 21))) nx))<|am fun F p0 p1 p2=>by
 obtain⟨g0,g1⟩:E.I F bg=(1)/\E.I F cL=(1):=by
  try simp only[ab]at *
  omega
 exact gG 1 1 21 (by decide) (by rfl) g0 g1
def G88:=fb (kY::Bl::iL) (fn 109 (pr (fn 1 (pr J0 (.int 22))) nx))<|am fun F p0 p1 p2=>by
 obtain⟨g0,g1⟩:E.I F bg=(1)/\E.I F cL=(2):=by
  try simp only[ab]at *
  omega
 exact gG 1 2 22 (by decide) (by rfl) g0 g1
def G89:=fb (kY::(.not zL)::(.not C3)::(.not Bl)::gN::qb) (fn 109 (pr (fn 1 (pr J0 (.int 23))) nx))<|ck fun F p0 p1 p2 p3 p4 p5 p6=>by
 obtain⟨g0,g1⟩:E.I F bg=(1)/\E.I F cL=(3):=by
  try simp only[ab]at *
  omega
 exact gG 1 3 23 (by decide) (by rfl) g0 g1
def G90:=fb ([kY]) VQ<|az fun F p0=>by
 try simp only[ab,aj]at *
 obtain⟨a1,ea1,qa1⟩:=ah ((E.I F bg)+(1))
 omega
def G91:=fb ([(.not (cmp .lss bg (.int 2))),gN,(fn 104 (pr (var 9) (pr J0 (pr bg MK)))),(.not (cmp .lss (.int 2) bg))]) (fn 105 (pr (var 9) (pr J0 (.int 0))))<|aF fun F p0 p1 p2 p3=>by
 have g0:E.I F bg=(2):=by
  try simp only[ab]at *
  omega
 have g1:E.I F _=E.I F (.int 0):=rfl;have g2:E.I F _=E.I F (.int 0):=rfl;have g3:E.I F _=E.I F (.int 0):=rfl;exact aB7 p2 g0 g1 g2 g3
def G92:=fb (rp::(fn 33 (pr uI (fn 1 (pr iZ dT))))::xP::xj::Xf) kM<|cU fun F p0 p1 p2 p3 p4 p5 p6 p7=>by
 have:=@De F _ _ _ (fn 6 (pr dT (.int 1))) _ _ _ p2 p3
 try simp only[ab]at *
 grind
def G93:=fb Qi (.not (cmp .lss (.ar .add .i64 dT (.int 1)) (.int 0)))<|am fun F p0 p1 p2=>by
 try simp only[ab,aj]at *
 obtain⟨a2,ea2,qa2⟩:=ah ((E.I F dT)+(1))
 omega
def G94:=fb qb (.not (cmp .lss (.ar .add .i64 cL (.int 1)) (.int 0)))<|au fun F p0 p1=>by
 try simp only[ab,aj]at *
 obtain⟨a1,ea1,qa1⟩:=ah ((E.I F cL)+(1))
 omega
def G95:=fb (kY::rp::(fn 33 (pr uI (fn 1 (pr iZ dT))))::xP::xj::Ri) kM<|cU fun F p0 p1 p2 p3 p4 p5 p6 p7=>by
 have:=@De F _ _ _ (fn 6 (pr dT (.int 1))) _ _ _ p3 p4
 try simp only[ab]at *
 grind
def G96:=fb ((.not Ea)::gN::nq::YM) Wp<|aT fun F p0 p1 p2 p3 p4=>by
 obtain⟨g0,g1,g2,g3,g4⟩:(0)<=E.I F bg/\(0)<=E.I F cL/\(0)<=E.I F (.ar .add .i64 bg (.int 1))/\(0)<=(0)/\E.I F (fn 6 (pr (fn 8 (pr (.ar .add .i64 bg (.int 1)) (.int 4))) (.int 0)))=E.I F (fn 6 (pr (fn 8 (pr bg (.int 4))) cL)):=by
  try simp only[ab,aj]at *
  obtain⟨a2,ea2,qa2⟩:=ah ((E.I F bg)+(1))
  omega
 have g5:E.I F _=E.I F (.int 0):=rfl;exact R0 p3 (by omega) (by omega) (by omega) (by simp_all) g4 g5
def G97:=fb (kY::(.not Ea)::gN::YM) Wp<|aT fun F p0 p1 p2 p3 p4=>by
 obtain⟨g0,g1,g2,g3,g4⟩:(0)<=E.I F bg/\(0)<=E.I F cL/\(0)<=E.I F (.ar .add .i64 bg (.int 1))/\(0)<=(0)/\E.I F (fn 6 (pr (fn 8 (pr (.ar .add .i64 bg (.int 1)) (.int 4))) (.int 0)))=E.I F (fn 6 (pr (fn 8 (pr bg (.int 4))) cL)):=by
  try simp only[ab,aj]at *
  obtain⟨a2,ea2,qa2⟩:=ah ((E.I F bg)+(1))
  omega
 have g5:E.I F _=E.I F (.int 0):=rfl;exact R0 p3 (by omega) (by omega) (by omega) (by simp_all) g4 g5
def G98:=fa ((fn 106 (pr (fn 10 (.int 0)) (pr J0 (.int 0)))))<|fun F=>by
 rfl
def G99:=fb Qd (.not (cmp .lss (fn 0 iZ) (.ar .add .i64 dT (.int 1))))<|au fun F p0 p1=>by
 try simp only[ab,aj]at *
 obtain⟨a2,ea2,qa2⟩:=ah ((E.I F dT)+(1))
 omega
def ayg:=fb qb (.not (cmp .lss (.int 4) (.ar .add .i64 cL (.int 1))))<|au fun F p0 p1=>by
 try simp only[ab,aj]at *
 obtain⟨a1,ea1,qa1⟩:=ah ((E.I F cL)+(1))
 omega
def OC:=fb ([nq]) SP<|az fun F p0=>by
 try simp only[ab,aj]at *
 obtain⟨a1,ea1,qa1⟩:=ah ((E.I F bg)+(1))
 omega
def XS:=fb ([kY]) SP<|az fun F p0=>by
 try simp only[ab,aj]at *
 obtain⟨a1,ea1,qa1⟩:=ah ((E.I F bg)+(1))
 omega
def aG6:=fb (tT::Gj::(fn 33 (pr rY (fn 1 (pr (fn 1 (pr J0 (.int 29))) (fn 6 (pr (fn 8 (pr db (.int 5))) (.int 1)))))))::Tu) kM<|bU fun F p0 p1 p2 p3 p4 p5=>by
 have:=fun a b hn=>@wH F (fn 6 (pr db (.int 1))) _ _ _ _ p4 p3 a b hn _ _ _ _ rfl rfl rfl rfl
 try simp only[ab]at *
 grind
def aED:=fb ER (.not (cmp .lss (.ar .add .i64 db (.int 1)) (.int 0)))<|am fun F p0 p1 p2=>by
 have:=aw p0
 try simp only[ab,aj]at *
 obtain⟨a2,ea2,qa2⟩:=ah ((E.I F db)+(1))
 omega
def Kf:=fb iL (.not (cmp .lss (.int 30) (fn 9 (pr (fn 1 (pr J0 (.int 0))) (.int 12)))))<|az fun F p0=>by
 have:=aw p0
 try simp only[ab]at *
 omega
def afl:=fb (rp::ac1::xP::xj::Gp::Xf) R4<|dK fun F p0 p1 p2 p3 p4 p5 p6 p7 p8=>by
 have:=@aA F dT (.int 1)
 have:=@De F _ _ _ (.ar .add .i64 dT (.int 1)) _ _ _ p2 p3
 try simp only[ab]at *
 grind
def aBL:=fb ((.not rp)::gN::xP::xj::(.not (cmp .lss (fn 0 iZ) dT))::qb) (fn 104 (pr uI (pr J0 (pr bg (pr (.ar .add .i64 cL (.int 1)) (.int 0))))))<|ck fun F p0 p1 p2 p3 p4 p5 p6=>by
 obtain⟨g0,g1,g2⟩:(0)<=E.I F cL/\E.I F dT=E.I F (fn 0 iZ)/\E.I F (.ar .add .i64 cL (.int 1))=E.I F (fn 6 (pr cL (.int 1))):=by
  try simp only[ab,aj]at *
  obtain⟨a3,ea3,qa3⟩:=ah ((E.I F cL)+(1))
  omega
 have g3:E.I F _=E.I F (.int 0):=rfl;exact aE5 p2 p3 (by omega) g1 g2 g3
def ak9:=fb (kY::rp::ac1::xP::xj::Gp::Ri) R4<|dK fun F p0 p1 p2 p3 p4 p5 p6 p7 p8=>by
 have:=@aA F dT (.int 1)
 have:=@De F _ _ _ (.ar .add .i64 dT (.int 1)) _ _ _ p3 p4
 try simp only[ab]at *
 grind
def XR:=fb ([nq]) UZ<|az fun F p0=>by
 try simp only[ab,aj]at *
 obtain⟨a1,ea1,qa1⟩:=ah ((E.I F bg)+(1))
 omega
def Xw:=fb ([kY]) UZ<|az fun F p0=>by
 try simp only[ab,aj]at *
 obtain⟨a1,ea1,qa1⟩:=ah ((E.I F bg)+(1))
 omega
def axP:=fb ER (.not (cmp .lss (fn 9 (pr (fn 1 (pr J0 (.int 29))) (.int 5))) (.ar .add .i64 db (.int 1))))<|am fun F p0 p1 p2=>by
 try simp only[ab,aj]at *
 obtain⟨a2,ea2,qa2⟩:=ah ((E.I F db)+(1))
 omega
def agh:=fb ((.not tT)::gN::U3::Oi) (fn 105 (pr rY EN))<|aF fun F p0 p1 p2 p3=>by
 have g0:E.I F (fn 9 (pr (fn 1 (pr J0 (.int 29))) (.int 5)))=E.I F db:=by
  try simp only[ab]at *
  omega
 grind[al3]
def alx:=fb Qi (cmp .lss (fn 7 (pr (fn 0 iZ) (.ar .add .i64 dT (.int 1)))) (fn 7 (pr (fn 0 iZ) dT)))<|am fun F p0 p1 p2=>by
 try simp only[ab,aj]at *
 obtain⟨a2,ea2,qa2⟩:=ah ((E.I F dT)+(1))
 omega
def ayV:=fb qb (cmp .lss (fn 7 (pr (.int 4) (.ar .add .i64 cL (.int 1)))) (fn 7 (pr (.int 4) cL)))<|au fun F p0 p1=>by
 try simp only[ab,aj]at *
 obtain⟨a1,ea1,qa1⟩:=ah ((E.I F cL)+(1))
 omega
def amu:=fb aeD (fn 105 (pr (fn 34 (pr rY (pr (fn 1 (pr (fn 1 (pr J0 (.int 29))) (fn 6 (pr (fn 8 (pr db (.int 5))) (.int 1))))) (fn 1 (pr (fn 1 (pr J0 (.int 29))) (fn 6 (pr (fn 8 (pr db (.int 5))) (.int 0)))))))) Cj))<|ck fun F p0 p1 p2 p3 p4 p5 p6=>by
 have:=aw p3
 have:=@aA F db (.int 1)
 have:=fun a b hn=>@wH F (.ar .add .i64 db (.int 1)) _ _ _ _ p5 p4 a b hn _ _ _ _ rfl rfl rfl rfl
 try simp only[ab]at *
 grind
def aGG:=fb Vf (fn 105 (pr rY Cj))<|bU fun F p0 p1 p2 p3 p4 p5=>by
 have:=aw p2
 have:=@aA F db (.int 1)
 have:=fun a b hn=>@wH F (.ar .add .i64 db (.int 1)) _ _ _ _ p4 p3 a b hn _ _ _ _ rfl rfl rfl rfl
 try simp only[ab]at *
 grind
def arR:=fb ((.not tT)::gN::SF::Oi) (fn 106 (pr Ab EN))<|aF fun F p0 p1 p2 p3=>by
 have g0:E.I F (fn 9 (pr (fn 1 (pr J0 (.int 29))) (.int 5)))=E.I F db:=by
  try simp only[ab]at *
  omega
 grind[ane]
def an2:=fb Qd (.not (cmp .lss (fn 7 (pr (fn 0 iZ) (.ar .add .i64 dT (.int 1)))) (.int 0)))<|au fun F p0 p1=>by
 try simp only[ab,aj]at *
 obtain⟨a2,ea2,qa2⟩:=ah ((E.I F dT)+(1))
 omega
def ami:=fb qb (.not (cmp .lss (fn 7 (pr (.int 4) (.ar .add .i64 cL (.int 1)))) (.int 0)))<|au fun F p0 p1=>by
 try simp only[ab,aj]at *
 obtain⟨a1,ea1,qa1⟩:=ah ((E.I F cL)+(1))
 omega
def aFG:=fb aeD (fn 106 (pr (fn 34 (pr Ab (pr (fn 1 (pr (fn 1 (pr J0 (.int 29))) (fn 6 (pr (fn 8 (pr db (.int 5))) (.int 1))))) (fn 1 (pr (fn 1 (pr J0 (.int 29))) (fn 6 (pr (fn 8 (pr db (.int 5))) (.int 2)))))))) Cj))<|ck fun F p0 p1 p2 p3 p4 p5 p6=>by
 have:=aw p3
 have:=@aA F db (.int 1)
 have:=fun a b hn=>@wH F (.ar .add .i64 db (.int 1)) _ _ _ _ p5 p4 a b hn _ _ _ _ rfl rfl rfl rfl
 try simp only[ab]at *
 grind
def aud:=fb Vf (fn 106 (pr Ab Cj))<|bU fun F p0 p1 p2 p3 p4 p5=>by
 have:=aw p2
 have:=@aA F db (.int 1)
 have:=fun a b hn=>@wH F (.ar .add .i64 db (.int 1)) _ _ _ _ p4 p3 a b hn _ _ _ _ rfl rfl rfl rfl
 try simp only[ab]at *
 grind
def atl:=fa ((fn 107 (pr J0 (.int 0))))<|fun F=>by
 rfl
def ag8:=fb ER (cmp .lss (fn 7 (pr (fn 9 (pr (fn 1 (pr J0 (.int 29))) (.int 5))) (.ar .add .i64 db (.int 1)))) (fn 7 (pr (fn 9 (pr (fn 1 (pr J0 (.int 29))) (.int 5))) db)))<|am fun F p0 p1 p2=>by
 have:=aw p0
 try simp only[ab,aj]at *
 obtain⟨a2,ea2,qa2⟩:=ah ((E.I F db)+(1))
 omega
def aso:=fb Kx (.not (cmp .lss (.ar .sub .i64 aR (.int 1)) (.int 0)))<|am fun F p0 p1 p2=>by
 have:=aw p0
 try simp only[ab,aj]at *
 obtain⟨a2,ea2,qa2⟩:=ah ((E.I F aR)-(1))
 omega
def ay9:=fb ([(.not gX),GV,JJ,(.not (cmp .lss (fn 9 (pr (fn 1 (pr J0 (.int 0))) (.int 12))) aR))]) (.iff (cmp .eql (fn 0 lh) (fn 9 (pr (fn 1 (pr J0 (.int 0))) (.int 12)))) (fn 108 J0))<|aF fun F p0 p1 p2 p3=>by
 have:=@ayc F _ _ _ p2 p1
 try simp only[ab]at *
 grind
def axt:=fb ER (.not (cmp .lss (fn 7 (pr (fn 9 (pr (fn 1 (pr J0 (.int 29))) (.int 5))) (.ar .add .i64 db (.int 1)))) (.int 0)))<|am fun F p0 p1 p2=>by
 try simp only[ab,aj]at *
 obtain⟨a2,ea2,qa2⟩:=ah ((E.I F db)+(1))
 omega
def arA:=fb Ew (cmp .lss (.ar .sub .i64 aR (.int 1)) (fn 9 (pr (fn 1 (pr J0 (.int 0))) (.int 12))))<|au fun F p0 p1=>by
 try simp only[ab,aj]at *
 obtain⟨a2,ea2,qa2⟩:=ah ((E.I F aR)-(1))
 omega
def anz:=fb Gh aay<|au fun F p0 p1=>by
 try simp only[ab,aj]at *
 obtain⟨a1,ea1,qa1⟩:=ah ((E.I F aR)+(1))
 omega
def axO:=fb (gX::po::nl::uG::(fn 33 (pr lh (fn 1 (pr (fn 1 (pr J0 (.int 0))) (fn 6 (pr (fn 8 (pr aR (.int 12))) (.int 0)))))))::(fn 33 (pr wg (fn 1 (pr (fn 1 (pr J0 (.int 0))) (fn 6 (pr (fn 8 (pr aR (.int 12))) (.int 0)))))))::(.not AS)::wG) kM<|gk fun F p0 p1 p2 p3 p4 p5 p6 p7 p8 p9 ao=>by
 have:=@jH F _ (fn 6 (pr aR (.int 1))) _ _ _ p9 p8 p7 (.ar .sub .i64 aR (.int 1)) _ _ _ _ _ _ _ _ _ rfl rfl rfl rfl rfl rfl rfl rfl rfl
 try simp only[ab]at *
 grind
def afj:=fb (gX::uG::(.not sJ)::wG) kM<|ck fun F p0 p1 p2 p3 p4 p5 p6=>by
 have:=@jH F _ (fn 6 (pr aR (.int 1))) _ _ _ p5 p4 p3 (.ar .sub .i64 aR (.int 1)) _ _ _ _ _ _ _ _ _ rfl rfl rfl rfl rfl rfl rfl rfl rfl
 try simp only[ab]at *
 grind
def aCh:=fb (gX::uG::ab8::wG) kM<|ck fun F p0 p1 p2 p3 p4 p5 p6=>by
 have:=@jH F _ (fn 6 (pr aR (.int 1))) _ _ _ p5 p4 p3 (.ar .sub .i64 aR (.int 1)) _ _ _ _ _ _ _ _ _ rfl rfl rfl rfl rfl rfl rfl rfl rfl
 try simp only[ab]at *
 grind
def avn:=fb Kx aay<|am fun F p0 p1 p2=>by
 have:=aw p0
 try simp only[ab,aj]at *
 obtain⟨a2,ea2,qa2⟩:=ah ((E.I F aR)+(1))
 omega
def ah8:=fb (gX::po::nl::ol::Ac::(fn 33 (pr lh (fn 1 (pr (fn 1 (pr J0 (.int 0))) (fn 6 (pr (fn 8 (pr aR (.int 12))) (.int 0)))))))::(fn 33 (pr wg (fn 1 (pr (fn 1 (pr J0 (.int 0))) (fn 6 (pr (fn 8 (pr aR (.int 12))) (.int 0)))))))::(.not AS)::qL) kM<|gP fun F p0 p1 p2 p3 p4 p5 p6 p7 p8 p9 ao av ax=>by
 have:=aw ax
 have:=@bz F aR (.int 1)
 have:=@jH F _ (fn 6 (pr aR (.int 1))) _ _ _ ao p9 p8 (.ar .sub .i64 aR (.int 1)) _ _ _ _ _ _ _ _ _ rfl rfl rfl rfl rfl rfl rfl rfl rfl
 try simp only[ab]at *
 grind
def azU:=fb (gX::ol::(.not sJ)::qL) kM<|cU fun F p0 p1 p2 p3 p4 p5 p6 p7=>by
 have:=aw p7
 have:=@bz F aR (.int 1)
 have:=@jH F _ (fn 6 (pr aR (.int 1))) _ _ _ p5 p4 p3 (.ar .sub .i64 aR (.int 1)) _ _ _ _ _ _ _ _ _ rfl rfl rfl rfl rfl rfl rfl rfl rfl
 try simp only[ab]at *
 grind
def aun:=fb (gX::ol::ab8::qL) kM<|cU fun F p0 p1 p2 p3 p4 p5 p6 p7=>by
 have:=aw p7
 have:=@bz F aR (.int 1)
 have:=@jH F _ (fn 6 (pr aR (.int 1))) _ _ _ p5 p4 p3 (.ar .sub .i64 aR (.int 1)) _ _ _ _ _ _ _ _ _ rfl rfl rfl rfl rfl rfl rfl rfl rfl
 try simp only[ab]at *
 grind
def agF:=fb (gX::po::nl::ol::(.not Ac)::qL) kM<|fF fun F p0 p1 p2 p3 p4 p5 p6 p7 p8 p9=>by
 have:=aw p9
 have:=@bz F aR (.int 1)
 have:=@jH F _ (fn 6 (pr aR (.int 1))) _ _ _ p7 p6 p5 (.ar .sub .i64 aR (.int 1)) _ _ _ _ _ _ _ _ _ rfl rfl rfl rfl rfl rfl rfl rfl rfl
 try simp only[ab]at *
 grind
def ap4:=fb (gX::po::(.not nl)::qL) kM<|cU fun F p0 p1 p2 p3 p4 p5 p6 p7=>by
 have:=aw p7
 have:=@bz F aR (.int 1)
 have:=@jH F _ (fn 6 (pr aR (.int 1))) _ _ _ p5 p4 p3 (.ar .sub .i64 aR (.int 1)) _ _ _ _ _ _ _ _ _ rfl rfl rfl rfl rfl rfl rfl rfl rfl
 try simp only[ab]at *
 grind
def aoE:=fb SC T8<|am fun F p0 p1 p2=>by
 try simp only[ab,aj]at *
 obtain⟨a2,ea2,qa2⟩:=ah ((E.I F aR)+(1))
 omega
def aEh:=fb Ew T8<|au fun F p0 p1=>by
 try simp only[ab,aj]at *
 obtain⟨a2,ea2,qa2⟩:=ah ((E.I F aR)+(1))
 omega
def aC9:=fb (gX::po::nl::uG::(fn 33 (pr lh (fn 1 (pr (fn 1 (pr J0 (.int 0))) (fn 6 (pr (fn 8 (pr aR (.int 12))) (.int 0)))))))::sJ::ad6::wG) Fk<|gk fun F p0 p1 p2 p3 p4 p5 p6 p7 p8 p9 ao=>by
 have:=@aA F aR (.int 1)
 have:=@jH F _ (.ar .add .i64 aR (.int 1)) _ _ _ p9 p8 p7 (.ar .sub .i64 aR (.int 1)) _ _ _ _ _ _ _ _ _ rfl rfl rfl rfl rfl rfl rfl rfl rfl
 try simp only[ab]at *
 grind
def aog:=fb (gX::po::nl::uG::(fn 33 (pr lh (fn 1 (pr (fn 1 (pr J0 (.int 0))) (fn 6 (pr (fn 8 (pr aR (.int 12))) (.int 0)))))))::sJ::AS::wG) Fk<|gk fun F p0 p1 p2 p3 p4 p5 p6 p7 p8 p9 ao=>by
 have:=@aA F aR (.int 1)
 have:=@jH F _ (.ar .add .i64 aR (.int 1)) _ _ _ p9 p8 p7 (.ar .sub .i64 aR (.int 1)) _ _ _ _ _ _ _ _ _ rfl rfl rfl rfl rfl rfl rfl rfl rfl
 try simp only[ab]at *
 grind
def auU:=fb (gX::po::nl::ol::Ac::(fn 33 (pr lh (fn 1 (pr (fn 1 (pr J0 (.int 0))) (fn 6 (pr (fn 8 (pr aR (.int 12))) (.int 0)))))))::sJ::ad6::qL) Fk<|gP fun F p0 p1 p2 p3 p4 p5 p6 p7 p8 p9 ao av ax=>by
 have:=aw ax
 have:=@bz F aR (.int 1)
 have:=@aA F aR (.int 1)
 have:=@jH F _ (.ar .add .i64 aR (.int 1)) _ _ _ ao p9 p8 (.ar .sub .i64 aR (.int 1)) _ _ _ _ _ _ _ _ _ rfl rfl rfl rfl rfl rfl rfl rfl rfl
 try simp only[ab]at *
 grind
def aow:=fb (gX::po::nl::ol::Ac::(fn 33 (pr lh (fn 1 (pr (fn 1 (pr J0 (.int 0))) (fn 6 (pr (fn 8 (pr aR (.int 12))) (.int 0)))))))::sJ::AS::qL) Fk<|gP fun F p0 p1 p2 p3 p4 p5 p6 p7 p8 p9 ao av ax=>by
 have:=aw ax
 have:=@bz F aR (.int 1)
 have:=@aA F aR (.int 1)
 have:=@jH F _ (.ar .add .i64 aR (.int 1)) _ _ _ ao p9 p8 (.ar .sub .i64 aR (.int 1)) _ _ _ _ _ _ _ _ _ rfl rfl rfl rfl rfl rfl rfl rfl rfl
 try simp only[ab]at *
 grind
def aqf:=fb Gh Qg<|au fun F p0 p1=>by
 try simp only[ab,aj]at *
 obtain⟨a2,ea2,qa2⟩:=ah ((E.I F aR)+(1))
 omega
def asA:=fb Kx Qg<|am fun F p0 p1 p2=>by
 have:=aw p0
 try simp only[ab,aj]at *
 obtain⟨a2,ea2,qa2⟩:=ah ((E.I F aR)+(1))
 omega
def agV:=fb SC UH<|am fun F p0 p1 p2=>by
 try simp only[ab,aj]at *
 obtain⟨a2,ea2,qa2⟩:=ah ((E.I F aR)+(1))
 omega
def aye:=fb Ew UH<|au fun F p0 p1=>by
 try simp only[ab,aj]at *
 obtain⟨a2,ea2,qa2⟩:=ah ((E.I F aR)+(1))
 omega
def bb:List Fa:=[G69,G70,G71,QM,G73,VR,G75,G76,NI,G78,G79,BT,G81,G82,G83,G84,G85,G86,G87,G88,G89,G90,G91,G92,G93,G94,G95,G96,G97,G98,G99,ayg,OC,XS,aG6,aED,Kf,afl,aBL,ak9,XR,Xw,axP,agh,alx,ayV,amu,aGG,arR,an2,ami,aFG,aud,atl,ag8,aso,ay9,axt,arA,anz,axO,afj,aCh,avn,ah8,azU,aun,agF,ap4,aoE,aEh,aC9,aog,auU,aow,aqf,asA,agV,aye]
theorem asO:aU Try.prog (bn (ah6)):=sc bb (ak5) Vs ([]) (by kernel_rfl) (by kernel_rfl)
def Qu:Nl:=nc asO Vs
end
end Go.Proofs.Ytnnbmcfabojjjaa.payColours
