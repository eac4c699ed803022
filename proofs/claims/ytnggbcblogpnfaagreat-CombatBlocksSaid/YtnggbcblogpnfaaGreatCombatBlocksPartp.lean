/-
  CombatBlocks: contracts of functions, part 16.
-/
import Derived.Test.YtnggbcblogpnfaaGreatCombatBlocksParto
namespace Go.Proofs.YtnggbcblogpnfaaGreat.combatBlocks
open Go.ChangeShapes Go.WideShapes Go.ChangeAt Go.RowKit
open Go.SX
open Go.SX.E (fn pr cmp var)
set_option linter.unusedVariables false
set_option linter.unusedSimpArgs false
set_option maxRecDepth 100000
noncomputable section
abbrev aQ:E:=var 68
abbrev nf:E:=var 29
abbrev ZQ:E:=cmp .lss aQ nf
abbrev ZU:E:=var 40
abbrev Kd:E:=cmp .eql ZU nf
abbrev ZY:E:=cmp .lss aQ ZU
abbrev kn:E:=var 32
abbrev ZZ7:E:=cmp .lss aQ kn
abbrev ZZ8:E:=var 41
abbrev Kf:E:=cmp .eql ZZ8 kn
abbrev Zh:E:=cmp .lss aQ ZZ8
abbrev qI:E:=var 2
abbrev aDg:E:=cmp .lss qI (.int 0)
abbrev aDn:E:=.not aDg
abbrev km:E:=var 48
abbrev Zx:E:=cmp .lss km qI
abbrev aDC:E:=cmp .lss (.int 40) qI
abbrev aDI:E:=.not aDC
abbrev aDO:E:=cmp .lss km (.int 0)
abbrev aDV:E:=.not aDO
abbrev ZR:=[aDV]
abbrev aDZ:=aDI::ZR
abbrev aD0:=Zx::aDZ
abbrev ZS:=aDn::aD0
abbrev qL:E:=var 5
abbrev aD1:E:=cmp .lss qL (.int 0)
abbrev aD2:E:=.not aD1
abbrev bg:E:=var 80
abbrev ZT:E:=cmp .lss bg qL
abbrev aD3:E:=cmp .lss (.int 40) qL
abbrev aD4:E:=.not aD3
abbrev gt:List E:=[(.not (cmp .lss bg (.int 0)))]
abbrev aD5:=aD4::gt
abbrev aD6:=ZT::aD5
abbrev ZV:=aD2::aD6
abbrev oS:E:=.not (cmp .lss (.ar .add .i64 bg (.int 1)) (.int 0))
abbrev fe:E:=var 64
abbrev aD7:E:=cmp .lss fe (.int 4)
abbrev aD8:E:=cmp .lss fe (.int 0)
abbrev aD9:E:=.not aD8
abbrev Ke:=[aD9]
abbrev Ct:=aD7::Ke
abbrev aEa:E:=cmp .lss (.ar .add .i64 fe (.int 1)) (.int 0)
abbrev ZW:E:=.not aEa
abbrev qM:E:=var 8
abbrev aEb:E:=cmp .lss qM (.int 0)
abbrev aEc:E:=.not aEb
abbrev ZX:E:=cmp .lss bg qM
abbrev aEd:E:=cmp .lss (.int 40) qM
abbrev aEe:E:=.not aEd
abbrev aEf:=aEe::gt
abbrev aEg:=ZX::aEf
abbrev ZZ:=aEc::aEg
abbrev qN:E:=var 11
abbrev aEh:E:=cmp .lss qN (.int 0)
abbrev aEi:E:=.not aEh
abbrev aaa:E:=cmp .lss bg qN
abbrev aEj:E:=cmp .lss (.int 40) qN
abbrev aEk:E:=.not aEj
abbrev aEl:=aEk::gt
abbrev aEm:=aaa::aEl
abbrev aab:=aEi::aEm
abbrev qO:E:=var 14
abbrev aEn:E:=cmp .lss qO (.int 0)
abbrev aEo:E:=.not aEn
abbrev aac:E:=cmp .lss bg qO
abbrev aEp:E:=cmp .lss (.int 40) qO
abbrev aEq:E:=.not aEp
abbrev aEr:=aEq::gt
abbrev aEs:=aac::aEr
abbrev aad:=aEo::aEs
abbrev qP:E:=var 17
abbrev aEt:E:=cmp .lss qP (.int 0)
abbrev aEu:E:=.not aEt
abbrev aae:E:=cmp .lss bg qP
abbrev aEv:E:=cmp .lss (.int 40) qP
abbrev aEw:E:=.not aEv
abbrev aEx:=aEw::gt
abbrev aEy:=aae::aEx
abbrev aaf:=aEu::aEy
abbrev qQ:E:=var 20
abbrev aEz:E:=cmp .lss qQ (.int 0)
abbrev aEA:E:=.not aEz
abbrev aag:E:=cmp .lss bg qQ
abbrev aEB:E:=cmp .lss (.int 40) qQ
abbrev aEC:E:=.not aEB
abbrev aED:=aEC::gt
abbrev aEE:=aag::aED
abbrev aah:=aEA::aEE
abbrev qR:E:=var 23
abbrev aEF:E:=cmp .lss qR (.int 0)
abbrev aEG:E:=.not aEF
abbrev aai:E:=cmp .lss bg qR
abbrev aEH:E:=cmp .lss (.int 40) qR
abbrev aEI:E:=.not aEH
abbrev aEJ:=aEI::gt
abbrev aEK:=aai::aEJ
abbrev aaj:=aEG::aEK
abbrev qS:E:=var 26
abbrev aEL:E:=cmp .lss qS (.int 0)
abbrev aC3:E:=.not aEL
abbrev Zi:E:=cmp .lss bg qS
abbrev aC4:E:=cmp .lss (.int 40) qS
abbrev aC5:E:=.not aC4
abbrev aC6:=aC5::gt
abbrev aC7:=Zi::aC6
abbrev Zj:=aC3::aC7
abbrev ki:E:=var 50
abbrev aC8:E:=cmp .lss ki (.int 2)
abbrev aC9:E:=cmp .lss ki (.int 0)
abbrev aDa:E:=.not aC9
abbrev aDb:=[aDa]
abbrev Cr:=aC8::aDb
abbrev ng:E:=.not (cmp .lss aQ (.int 0))
abbrev kj:E:=var 60
abbrev aDc:E:=cmp .lss kj (.int 0)
abbrev aDd:E:=.not aDc
abbrev aDe:E:=cmp .lss kj (.int 2)
abbrev aDf:=[aDe]
abbrev Cs:=aDd::aDf
abbrev qJ:E:=var 35
abbrev aDh:E:=cmp .lss qJ (.int 0)
abbrev aDi:E:=.not aDh
abbrev Zk:E:=cmp .lss fe qJ
abbrev aDj:E:=cmp .lss (.int 40) qJ
abbrev aDk:E:=.not aDj
abbrev aDl:=aDk::Ke
abbrev aDm:=Zk::aDl
abbrev Zl:=aDi::aDm
abbrev qK:E:=var 38
abbrev aDo:E:=cmp .lss qK (.int 0)
abbrev aDp:E:=.not aDo
abbrev kl:E:=var 72
abbrev Zm:E:=cmp .lss kl qK
abbrev aDq:E:=cmp .lss (.int 40) qK
abbrev aDr:E:=.not aDq
abbrev aDs:E:=cmp .lss kl (.int 0)
abbrev aDt:E:=.not aDs
abbrev Zn:=[aDt]
abbrev aDu:=aDr::Zn
abbrev aDv:=Zm::aDu
abbrev Zo:=aDp::aDv
abbrev Zp:=Zx::ZR
abbrev Zq:=ZT::gt
abbrev Zr:=ZX::gt
abbrev Zs:=aaa::gt
abbrev Zt:=aac::gt
abbrev Zu:=aae::gt
abbrev Zv:=aag::gt
abbrev Zw:=aai::gt
abbrev Zy:=Zi::gt
abbrev dX:E:=var 77
abbrev aDw:E:=pr dX nf
abbrev Zz:E:=fn 158 aDw
abbrev bX:E:=var 76
abbrev aDx:E:=cmp .lss nf (.int 0)
abbrev aDy:E:=.not aDx
abbrev aDz:E:=cmp .lss (.int 40) nf
abbrev aDA:E:=.not aDz
abbrev aDB:=[ZY]
abbrev ZA:=ng::aDB
abbrev aDD:=aDA::ZA
abbrev aDE:=aDy::aDD
abbrev J9:=Kd::aDE
abbrev aDF:E:=cmp .lss (.ar .add .i64 aQ (.int 1)) (.int 0)
abbrev ZB:E:=.not aDF
abbrev dY:E:=var 78
abbrev aDG:E:=pr dY kn
abbrev ZC:E:=fn 158 aDG
abbrev aDH:E:=cmp .lss kn (.int 0)
abbrev aDJ:E:=.not aDH
abbrev aDK:E:=cmp .lss (.int 40) kn
abbrev aDL:E:=.not aDK
abbrev ZD:=[Zh,ng]
abbrev aDM:=aDL::ZD
abbrev aDN:=aDJ::aDM
abbrev Ka:=Kf::aDN
abbrev ZE:=Zk::Ke
abbrev ZF:=Zm::Zn
abbrev ZG:E:=cmp .lss bX (fn 9 (pr (fn 1 (pr dX (fn 6 (pr (fn 8 (pr aQ (.int 5))) (.int 4))))) (.int 2)))
abbrev aDP:E:=cmp .lss bX (.int 0)
abbrev Kb:E:=.not aDP
abbrev aDQ:=[ng,ZQ]
abbrev aDR:=Kb::aDQ
abbrev aDS:=ZG::aDR
abbrev ZH:=Zz::aDS
abbrev aDT:E:=cmp .lss (.ar .add .i64 bX (.int 1)) (.int 0)
abbrev ZI:E:=.not aDT
abbrev ZJ:E:=cmp .lss bX (fn 9 (pr (fn 1 (pr dY (fn 6 (pr (fn 8 (pr aQ (.int 5))) (.int 4))))) (.int 2)))
abbrev aDU:=[ZZ7,ng]
abbrev aDW:=Kb::aDU
abbrev aDX:=ZJ::aDW
abbrev ZK:=ZC::aDX
abbrev ZL:=[Kb,ng]
abbrev ZM:=ZG::ZL
abbrev ZN:E:=cmp .lss (fn 7 (pr (.int 40) (.ar .add .i64 aQ (.int 1)))) (fn 7 (pr (.int 40) aQ))
abbrev ZO:=ZJ::ZL
abbrev aDY:E:=cmp .lss (fn 7 (pr (.int 40) (.ar .add .i64 aQ (.int 1)))) (.int 0)
abbrev ZP:E:=.not aDY
def awX:=fb [ZQ,Kd] ZY<|am fun F p0 p1=>by
 simp only[aa]at *;omega
def awY:=fb [ZZ7,Kf] Zh<|am fun F p0 p1=>by
 simp only[aa]at *;omega
def awZ:=fb ZS (.not (cmp .lss (.ar .add .i64 km (.int 1)) (.int 0)))<|aw fun F p0 p1 p2 p3=>by
 simp only[aa,ae]at *
 obtain⟨a,b,c⟩:=ab (E.I F km+1)
 omega
def aif:=fb ZV oS<|aw fun F p0 p1 p2 p3=>by
 simp only[aa,ae]at *
 obtain⟨a,b,c⟩:=ab (E.I F bg+1)
 omega
def aig:=fb Ct ZW<|am fun F p0 p1=>by
 simp only[aa,ae]at *
 obtain⟨a,b,c⟩:=ab (E.I F fe+1)
 omega
def aih:=fb ZZ oS<|aw fun F p0 p1 p2 p3=>by
 simp only[aa,ae]at *
 obtain⟨a,b,c⟩:=ab (E.I F bg+1)
 omega
def aii:=fb aab oS<|aw fun F p0 p1 p2 p3=>by
 simp only[aa,ae]at *
 obtain⟨a,b,c⟩:=ab (E.I F bg+1)
 omega
def aij:=fb aad oS<|aw fun F p0 p1 p2 p3=>by
 simp only[aa,ae]at *
 obtain⟨a,b,c⟩:=ab (E.I F bg+1)
 omega
def aik:=fb aaf oS<|aw fun F p0 p1 p2 p3=>by
 simp only[aa,ae]at *
 obtain⟨a,b,c⟩:=ab (E.I F bg+1)
 omega
def ail:=fb aah oS<|aw fun F p0 p1 p2 p3=>by
 simp only[aa,ae]at *
 obtain⟨a,b,c⟩:=ab (E.I F bg+1)
 omega
def aim:=fb aaj oS<|aw fun F p0 p1 p2 p3=>by
 simp only[aa,ae]at *
 obtain⟨a,b,c⟩:=ab (E.I F bg+1)
 omega
def ain:=fb Zj oS<|aw fun F p0 p1 p2 p3=>by
 simp only[aa,ae]at *
 obtain⟨a,b,c⟩:=ab (E.I F bg+1)
 omega
def aio:=fb Cr (.not (cmp .lss (.ar .add .i64 ki (.int 1)) (.int 0)))<|am fun F p0 p1=>by
 simp only[aa,ae]at *
 obtain⟨a,b,c⟩:=ab (E.I F ki+1)
 omega
def aip:=fb [ng,(fn 158 (pr (var 69) nf))] (fn 158 (pr (fn 2 (pr (var 69) (pr (fn 6 (pr (fn 8 (pr aQ (.int 5))) (.int 2))) (.ar .add .i64 (fn 1 (pr (var 69) (fn 6 (pr (fn 8 (pr aQ (.int 5))) (.int 2))))) (.int 1))))) nf))<|am fun F p0 p1=>by
 have h0:0<=E.I F aQ:=by simp only[aa]at *;omega
 exact abO h0 p1
def aiq:=fb Cs (.not (cmp .lss (.ar .add .i64 kj (.int 1)) (.int 0)))<|am fun F p0 p1=>by
 simp only[aa,ae]at *
 obtain⟨a,b,c⟩:=ab (E.I F kj+1)
 omega
def air:=fb [ng,(fn 158 (pr (var 70) kn))] (fn 158 (pr (fn 2 (pr (var 70) (pr (fn 6 (pr (fn 8 (pr aQ (.int 5))) (.int 2))) (.ar .add .i64 (fn 1 (pr (var 70) (fn 6 (pr (fn 8 (pr aQ (.int 5))) (.int 2))))) (.int 1))))) kn))<|am fun F p0 p1=>by
 have h0:0<=E.I F aQ:=by simp only[aa]at *;omega
 exact abO h0 p1
def ais:=fb Zl ZW<|aw fun F p0 p1 p2 p3=>by
 simp only[aa,ae]at *
 obtain⟨a,b,c⟩:=ab (E.I F fe+1)
 omega
def ait:=fb Zo (.not (cmp .lss (.ar .add .i64 kl (.int 1)) (.int 0)))<|aw fun F p0 p1 p2 p3=>by
 simp only[aa,ae]at *
 obtain⟨a,b,c⟩:=ab (E.I F kl+1)
 omega
def aiu:=fb Zp (.not (cmp .lss qI (.ar .add .i64 km (.int 1))))<|am fun F p0 p1=>by
 simp only[aa,ae]at *
 obtain⟨a,b,c⟩:=ab (E.I F km+1)
 omega
def aiv:=fb Zq (.not (cmp .lss qL (.ar .add .i64 bg (.int 1))))<|am fun F p0 p1=>by
 simp only[aa,ae]at *
 obtain⟨a,b,c⟩:=ab (E.I F bg+1)
 omega
def aiw:=fb Ct (.not (cmp .lss (.int 4) (.ar .add .i64 fe (.int 1))))<|am fun F p0 p1=>by
 simp only[aa,ae]at *
 obtain⟨a,b,c⟩:=ab (E.I F fe+1)
 omega
def aix:=fb Zr (.not (cmp .lss qM (.ar .add .i64 bg (.int 1))))<|am fun F p0 p1=>by
 simp only[aa,ae]at *
 obtain⟨a,b,c⟩:=ab (E.I F bg+1)
 omega
def aiy:=fb Zs (.not (cmp .lss qN (.ar .add .i64 bg (.int 1))))<|am fun F p0 p1=>by
 simp only[aa,ae]at *
 obtain⟨a,b,c⟩:=ab (E.I F bg+1)
 omega
def aiz:=fb Zt (.not (cmp .lss qO (.ar .add .i64 bg (.int 1))))<|am fun F p0 p1=>by
 simp only[aa,ae]at *
 obtain⟨a,b,c⟩:=ab (E.I F bg+1)
 omega
def aiA:=fb Zu (.not (cmp .lss qP (.ar .add .i64 bg (.int 1))))<|am fun F p0 p1=>by
 simp only[aa,ae]at *
 obtain⟨a,b,c⟩:=ab (E.I F bg+1)
 omega
def aiB:=fb Zv (.not (cmp .lss qQ (.ar .add .i64 bg (.int 1))))<|am fun F p0 p1=>by
 simp only[aa,ae]at *
 obtain⟨a,b,c⟩:=ab (E.I F bg+1)
 omega
def aiC:=fb Zw (.not (cmp .lss qR (.ar .add .i64 bg (.int 1))))<|am fun F p0 p1=>by
 simp only[aa,ae]at *
 obtain⟨a,b,c⟩:=ab (E.I F bg+1)
 omega
def aiD:=fb Zy (.not (cmp .lss qS (.ar .add .i64 bg (.int 1))))<|am fun F p0 p1=>by
 simp only[aa,ae]at *
 obtain⟨a,b,c⟩:=ab (E.I F bg+1)
 omega
def aiE:=fb Cr (.not (cmp .lss (.int 2) (.ar .add .i64 ki (.int 1))))<|am fun F p0 p1=>by
 simp only[aa,ae]at *
 obtain⟨a,b,c⟩:=ab (E.I F ki+1)
 omega
def aiF:=fb [ng,Zz] (fn 158 (pr (fn 2 (pr dX (pr (fn 6 (pr (fn 8 (pr aQ (.int 5))) (.int 4))) (fn 21 (pr (fn 1 (pr dX (fn 6 (pr (fn 8 (pr aQ (.int 5))) (.int 4))))) (fn 2 (pr (fn 1 (pr dX (fn 6 (pr (fn 8 (pr aQ (.int 5))) (.int 4))))) (pr (fn 6 (pr (fn 8 (pr bX (.int 2))) (.int 0))) (.ar .add .i64 (fn 1 (pr (fn 1 (pr dX (fn 6 (pr (fn 8 (pr aQ (.int 5))) (.int 4))))) (fn 6 (pr (fn 8 (pr bX (.int 2))) (.int 0))))) (.int 1)))))))))) nf))<|am fun F p0 p1=>by
 have h0:0<=E.I F aQ:=by simp only[aa]at *;omega
 exact abP h0 p1
def aiG:=fb J9 ZB<|aJ fun F p0 p1 p2 p3 p4=>by
 simp only[aa,ae]at *
 obtain⟨a,b,c⟩:=ab (E.I F aQ+1)
 omega
def aiH:=fb [ng,ZC] (fn 158 (pr (fn 2 (pr dY (pr (fn 6 (pr (fn 8 (pr aQ (.int 5))) (.int 4))) (fn 21 (pr (fn 1 (pr dY (fn 6 (pr (fn 8 (pr aQ (.int 5))) (.int 4))))) (fn 2 (pr (fn 1 (pr dY (fn 6 (pr (fn 8 (pr aQ (.int 5))) (.int 4))))) (pr (fn 6 (pr (fn 8 (pr bX (.int 2))) (.int 0))) (.ar .add .i64 (fn 1 (pr (fn 1 (pr dY (fn 6 (pr (fn 8 (pr aQ (.int 5))) (.int 4))))) (fn 6 (pr (fn 8 (pr bX (.int 2))) (.int 0))))) (.int 1)))))))))) kn))<|am fun F p0 p1=>by
 have h0:0<=E.I F aQ:=by simp only[aa]at *;omega
 exact abP h0 p1
def aiI:=fb Ka ZB<|aJ fun F p0 p1 p2 p3 p4=>by
 simp only[aa,ae]at *
 obtain⟨a,b,c⟩:=ab (E.I F aQ+1)
 omega
def aiK:=fb Cs (.not (cmp .lss (.int 2) (.ar .add .i64 kj (.int 1))))<|am fun F p0 p1=>by
 simp only[aa,ae]at *
 obtain⟨a,b,c⟩:=ab (E.I F kj+1)
 omega
def aiL:=fb ZE (.not (cmp .lss qJ (.ar .add .i64 fe (.int 1))))<|am fun F p0 p1=>by
 simp only[aa,ae]at *
 obtain⟨a,b,c⟩:=ab (E.I F fe+1)
 omega
def aiM:=fb ZF (.not (cmp .lss qK (.ar .add .i64 kl (.int 1))))<|am fun F p0 p1=>by
 simp only[aa,ae]at *
 obtain⟨a,b,c⟩:=ab (E.I F kl+1)
 omega
def aiN:=fb ZS (cmp .lss (fn 7 (pr qI (.ar .add .i64 km (.int 1)))) (fn 7 (pr qI km)))<|aw fun F p0 p1 p2 p3=>by
 simp only[aa,ae]at *
 obtain⟨a,b,c⟩:=ab (E.I F km+1)
 omega
def aiO:=fb ZV (cmp .lss (fn 7 (pr qL (.ar .add .i64 bg (.int 1)))) (fn 7 (pr qL bg)))<|aw fun F p0 p1 p2 p3=>by
 simp only[aa,ae]at *
 obtain⟨a,b,c⟩:=ab (E.I F bg+1)
 omega
def aiP:=fb Ct (cmp .lss (fn 7 (pr (.int 4) (.ar .add .i64 fe (.int 1)))) (fn 7 (pr (.int 4) fe)))<|am fun F p0 p1=>by
 simp only[aa,ae]at *
 obtain⟨a,b,c⟩:=ab (E.I F fe+1)
 omega
def aiQ:=fb ZZ (cmp .lss (fn 7 (pr qM (.ar .add .i64 bg (.int 1)))) (fn 7 (pr qM bg)))<|aw fun F p0 p1 p2 p3=>by
 simp only[aa,ae]at *
 obtain⟨a,b,c⟩:=ab (E.I F bg+1)
 omega
def aiR:=fb aab (cmp .lss (fn 7 (pr qN (.ar .add .i64 bg (.int 1)))) (fn 7 (pr qN bg)))<|aw fun F p0 p1 p2 p3=>by
 simp only[aa,ae]at *
 obtain⟨a,b,c⟩:=ab (E.I F bg+1)
 omega
def aiS:=fb aad (cmp .lss (fn 7 (pr qO (.ar .add .i64 bg (.int 1)))) (fn 7 (pr qO bg)))<|aw fun F p0 p1 p2 p3=>by
 simp only[aa,ae]at *
 obtain⟨a,b,c⟩:=ab (E.I F bg+1)
 omega
def aiT:=fb aaf (cmp .lss (fn 7 (pr qP (.ar .add .i64 bg (.int 1)))) (fn 7 (pr qP bg)))<|aw fun F p0 p1 p2 p3=>by
 simp only[aa,ae]at *
 obtain⟨a,b,c⟩:=ab (E.I F bg+1)
 omega
def aiV:=fb aah (cmp .lss (fn 7 (pr qQ (.ar .add .i64 bg (.int 1)))) (fn 7 (pr qQ bg)))<|aw fun F p0 p1 p2 p3=>by
 simp only[aa,ae]at *
 obtain⟨a,b,c⟩:=ab (E.I F bg+1)
 omega
def aiW:=fb aaj (cmp .lss (fn 7 (pr qR (.ar .add .i64 bg (.int 1)))) (fn 7 (pr qR bg)))<|aw fun F p0 p1 p2 p3=>by
 simp only[aa,ae]at *
 obtain⟨a,b,c⟩:=ab (E.I F bg+1)
 omega
def aiX:=fb Zj (cmp .lss (fn 7 (pr qS (.ar .add .i64 bg (.int 1)))) (fn 7 (pr qS bg)))<|aw fun F p0 p1 p2 p3=>by
 simp only[aa,ae]at *
 obtain⟨a,b,c⟩:=ab (E.I F bg+1)
 omega
def aiY:=fb Cr (cmp .lss (fn 7 (pr (.int 2) (.ar .add .i64 ki (.int 1)))) (fn 7 (pr (.int 2) ki)))<|am fun F p0 p1=>by
 simp only[aa,ae]at *
 obtain⟨a,b,c⟩:=ab (E.I F ki+1)
 omega
def aiZ:=fb ZH ZI<|aJ fun F p0 p1 p2 p3 p4=>by
 have h0:0<=E.I F aQ:=by simp only[aa]at *;omega
 have h9:=by simp only[aa]at *;omega
 have:=Dw h0 h9 p0
 simp only[aa,ae]at *
 obtain⟨a,b,c⟩:=ab (E.I F bX+1)
 omega
def ai0:=fb (Kd::ZA) (.not (cmp .lss nf (.ar .add .i64 aQ (.int 1))))<|aj fun F p0 p1 p2=>by
 simp only[aa,ae]at *
 obtain⟨a,b,c⟩:=ab (E.I F aQ+1)
 omega
def ai1:=fb ZK ZI<|aJ fun F p0 p1 p2 p3 p4=>by
 have h0:0<=E.I F aQ:=by simp only[aa]at *;omega
 have h9:E.I F aQ<E.I F kn:=by simp only[aa]at *;omega
 have:=Dw h0 h9 p0
 simp only[aa,ae]at *
 obtain⟨a,b,c⟩:=ab (E.I F bX+1)
 omega
def ai2:=fb (Kf::ZD) (.not (cmp .lss kn (.ar .add .i64 aQ (.int 1))))<|aj fun F p0 p1 p2=>by
 simp only[aa,ae]at *
 obtain⟨a,b,c⟩:=ab (E.I F aQ+1)
 omega
def ai3:=fb Cs (cmp .lss (fn 7 (pr (.int 2) (.ar .add .i64 kj (.int 1)))) (fn 7 (pr (.int 2) kj)))<|am fun F p0 p1=>by
 simp only[aa,ae]at *
 obtain⟨a,b,c⟩:=ab (E.I F kj+1)
 omega
def ai4:=fb Zl (cmp .lss (fn 7 (pr qJ (.ar .add .i64 fe (.int 1)))) (fn 7 (pr qJ fe)))<|aw fun F p0 p1 p2 p3=>by
 simp only[aa,ae]at *
 obtain⟨a,b,c⟩:=ab (E.I F fe+1)
 omega
def ai5:=fb Zo (cmp .lss (fn 7 (pr qK (.ar .add .i64 kl (.int 1)))) (fn 7 (pr qK kl)))<|aw fun F p0 p1 p2 p3=>by
 simp only[aa,ae]at *
 obtain⟨a,b,c⟩:=ab (E.I F kl+1)
 omega
def ai6:=fb Zp (.not (cmp .lss (fn 7 (pr qI (.ar .add .i64 km (.int 1)))) (.int 0)))<|am fun F p0 p1=>by
 simp only[aa,ae]at *
 obtain⟨a,b,c⟩:=ab (E.I F km+1)
 omega
def ai7:=fb Zq (.not (cmp .lss (fn 7 (pr qL (.ar .add .i64 bg (.int 1)))) (.int 0)))<|am fun F p0 p1=>by
 simp only[aa,ae]at *
 obtain⟨a,b,c⟩:=ab (E.I F bg+1)
 omega
def ai8:=fb Ct (.not (cmp .lss (fn 7 (pr (.int 4) (.ar .add .i64 fe (.int 1)))) (.int 0)))<|am fun F p0 p1=>by
 simp only[aa,ae]at *
 obtain⟨a,b,c⟩:=ab (E.I F fe+1)
 omega
def ai9:=fb Zr (.not (cmp .lss (fn 7 (pr qM (.ar .add .i64 bg (.int 1)))) (.int 0)))<|am fun F p0 p1=>by
 simp only[aa,ae]at *
 obtain⟨a,b,c⟩:=ab (E.I F bg+1)
 omega
def aja:=fb Zs (.not (cmp .lss (fn 7 (pr qN (.ar .add .i64 bg (.int 1)))) (.int 0)))<|am fun F p0 p1=>by
 simp only[aa,ae]at *
 obtain⟨a,b,c⟩:=ab (E.I F bg+1)
 omega
def ajb:=fb Zt (.not (cmp .lss (fn 7 (pr qO (.ar .add .i64 bg (.int 1)))) (.int 0)))<|am fun F p0 p1=>by
 simp only[aa,ae]at *
 obtain⟨a,b,c⟩:=ab (E.I F bg+1)
 omega
def ajc:=fb Zu (.not (cmp .lss (fn 7 (pr qP (.ar .add .i64 bg (.int 1)))) (.int 0)))<|am fun F p0 p1=>by
 simp only[aa,ae]at *
 obtain⟨a,b,c⟩:=ab (E.I F bg+1)
 omega
def ajd:=fb Zv (.not (cmp .lss (fn 7 (pr qQ (.ar .add .i64 bg (.int 1)))) (.int 0)))<|am fun F p0 p1=>by
 simp only[aa,ae]at *
 obtain⟨a,b,c⟩:=ab (E.I F bg+1)
 omega
def aje:=fb Zw (.not (cmp .lss (fn 7 (pr qR (.ar .add .i64 bg (.int 1)))) (.int 0)))<|am fun F p0 p1=>by
 simp only[aa,ae]at *
 obtain⟨a,b,c⟩:=ab (E.I F bg+1)
 omega
def ajg:=fb Zy (.not (cmp .lss (fn 7 (pr qS (.ar .add .i64 bg (.int 1)))) (.int 0)))<|am fun F p0 p1=>by
 simp only[aa,ae]at *
 obtain⟨a,b,c⟩:=ab (E.I F bg+1)
 omega
def ajh:=fb Cr (.not (cmp .lss (fn 7 (pr (.int 2) (.ar .add .i64 ki (.int 1)))) (.int 0)))<|am fun F p0 p1=>by
 simp only[aa,ae]at *
 obtain⟨a,b,c⟩:=ab (E.I F ki+1)
 omega
def aji:=fb ZM (.not (cmp .lss (fn 9 (pr (fn 1 (pr (fn 2 (pr dX (pr (fn 6 (pr (fn 8 (pr aQ (.int 5))) (.int 4))) (fn 21 (pr (fn 1 (pr dX (fn 6 (pr (fn 8 (pr aQ (.int 5))) (.int 4))))) (fn 2 (pr (fn 1 (pr dX (fn 6 (pr (fn 8 (pr aQ (.int 5))) (.int 4))))) (pr (fn 6 (pr (fn 8 (pr bX (.int 2))) (.int 0))) (.ar .add .i64 (fn 1 (pr (fn 1 (pr dX (fn 6 (pr (fn 8 (pr aQ (.int 5))) (.int 4))))) (fn 6 (pr (fn 8 (pr bX (.int 2))) (.int 0))))) (.int 1)))))))))) (fn 6 (pr (fn 8 (pr aQ (.int 5))) (.int 4))))) (.int 2))) (.ar .add .i64 bX (.int 1))))<|aj fun F p0 p1 p2=>by
 have h0:0<=E.I F aQ:=by simp only[aa]at *;omega
 have hr:E.I F (fn 9 (pr (fn 1 (pr (fn 2 (pr _ (pr _ (fn 21 (pr _ (fn 2 (pr _ (pr (fn 6 (pr (fn 8 (pr bX (.int 2))) (.int 0))) (.ar .add .i64 (fn 1 (pr (fn 1 (pr dX (fn 6 (pr (fn 8 (pr aQ (.int 5))) (.int 4))))) (fn 6 (pr (fn 8 (pr bX (.int 2))) (.int 0))))) (.int 1)))))))))) _)) _))=E.I F (fn 9 (pr (fn 1 (pr dX _)) _)):=tP h0;simp only[aa,ae]at *
 obtain⟨a,b,c⟩:=ab (E.I F bX+1)
 omega
def ajj:=fb J9 ZN<|aJ fun F p0 p1 p2 p3 p4=>by
 simp only[aa,ae]at *
 obtain⟨a,b,c⟩:=ab (E.I F aQ+1)
 omega
def ajk:=fb ZO (.not (cmp .lss (fn 9 (pr (fn 1 (pr (fn 2 (pr dY (pr (fn 6 (pr (fn 8 (pr aQ (.int 5))) (.int 4))) (fn 21 (pr (fn 1 (pr dY (fn 6 (pr (fn 8 (pr aQ (.int 5))) (.int 4))))) (fn 2 (pr (fn 1 (pr dY (fn 6 (pr (fn 8 (pr aQ (.int 5))) (.int 4))))) (pr (fn 6 (pr (fn 8 (pr bX (.int 2))) (.int 0))) (.ar .add .i64 (fn 1 (pr (fn 1 (pr dY (fn 6 (pr (fn 8 (pr aQ (.int 5))) (.int 4))))) (fn 6 (pr (fn 8 (pr bX (.int 2))) (.int 0))))) (.int 1)))))))))) (fn 6 (pr (fn 8 (pr aQ (.int 5))) (.int 4))))) (.int 2))) (.ar .add .i64 bX (.int 1))))<|aj fun F p0 p1 p2=>by
 have h0:0<=E.I F aQ:=by simp only[aa]at *;omega
 have hr:E.I F (fn 9 (pr (fn 1 (pr (fn 2 (pr _ (pr _ (fn 21 (pr _ (fn 2 (pr _ (pr (fn 6 (pr (fn 8 (pr bX (.int 2))) (.int 0))) (.ar .add .i64 (fn 1 (pr (fn 1 (pr dY (fn 6 (pr (fn 8 (pr aQ (.int 5))) (.int 4))))) (fn 6 (pr (fn 8 (pr bX (.int 2))) (.int 0))))) (.int 1)))))))))) _)) _))=E.I F (fn 9 (pr (fn 1 (pr dY _)) _)):=tP h0;simp only[aa,ae]at *
 obtain⟨a,b,c⟩:=ab (E.I F bX+1)
 omega
def ajl:=fb Ka ZN<|aJ fun F p0 p1 p2 p3 p4=>by
 simp only[aa,ae]at *
 obtain⟨a,b,c⟩:=ab (E.I F aQ+1)
 omega
def ajm:=fb Cs (.not (cmp .lss (fn 7 (pr (.int 2) (.ar .add .i64 kj (.int 1)))) (.int 0)))<|am fun F p0 p1=>by
 simp only[aa,ae]at *
 obtain⟨a,b,c⟩:=ab (E.I F kj+1)
 omega
def ajn:=fb ZE (.not (cmp .lss (fn 7 (pr qJ (.ar .add .i64 fe (.int 1)))) (.int 0)))<|am fun F p0 p1=>by
 simp only[aa,ae]at *
 obtain⟨a,b,c⟩:=ab (E.I F fe+1)
 omega
def ajo:=fb ZF (.not (cmp .lss (fn 7 (pr qK (.ar .add .i64 kl (.int 1)))) (.int 0)))<|am fun F p0 p1=>by
 simp only[aa,ae]at *
 obtain⟨a,b,c⟩:=ab (E.I F kl+1)
 omega
def ajp:=fb ZH (cmp .lss (fn 7 (pr (fn 9 (pr (fn 1 (pr (fn 2 (pr dX (pr (fn 6 (pr (fn 8 (pr aQ (.int 5))) (.int 4))) (fn 21 (pr (fn 1 (pr dX (fn 6 (pr (fn 8 (pr aQ (.int 5))) (.int 4))))) (fn 2 (pr (fn 1 (pr dX (fn 6 (pr (fn 8 (pr aQ (.int 5))) (.int 4))))) (pr (fn 6 (pr (fn 8 (pr bX (.int 2))) (.int 0))) (.ar .add .i64 (fn 1 (pr (fn 1 (pr dX (fn 6 (pr (fn 8 (pr aQ (.int 5))) (.int 4))))) (fn 6 (pr (fn 8 (pr bX (.int 2))) (.int 0))))) (.int 1)))))))))) (fn 6 (pr (fn 8 (pr aQ (.int 5))) (.int 4))))) (.int 2))) (.ar .add .i64 bX (.int 1)))) (fn 7 (pr (fn 9 (pr (fn 1 (pr dX (fn 6 (pr (fn 8 (pr aQ (.int 5))) (.int 4))))) (.int 2))) bX)))<|aJ fun F p0 p1 p2 p3 p4=>by
 have h0:0<=E.I F aQ:=by simp only[aa]at *;omega
 have h9:=by simp only[aa]at *;omega
 have:=Dw h0 h9 p0
 have hr:E.I F (fn 9 (pr (fn 1 (pr (fn 2 (pr _ (pr _ (fn 21 (pr _ (fn 2 (pr _ (pr (fn 6 (pr (fn 8 (pr bX (.int 2))) (.int 0))) (.ar .add .i64 (fn 1 (pr (fn 1 (pr dX (fn 6 (pr (fn 8 (pr aQ (.int 5))) (.int 4))))) (fn 6 (pr (fn 8 (pr bX (.int 2))) (.int 0))))) (.int 1)))))))))) _)) _))=E.I F (fn 9 (pr (fn 1 (pr dX _)) _)):=tP h0;simp only[aa,ae]at *
 obtain⟨a,b,c⟩:=ab (E.I F bX+1)
 omega
def ajr:=fb J9 ZP<|aJ fun F p0 p1 p2 p3 p4=>by
 simp only[aa,ae]at *
 obtain⟨a,b,c⟩:=ab (E.I F aQ+1)
 omega
def ajs:=fb ZK (cmp .lss (fn 7 (pr (fn 9 (pr (fn 1 (pr (fn 2 (pr dY (pr (fn 6 (pr (fn 8 (pr aQ (.int 5))) (.int 4))) (fn 21 (pr (fn 1 (pr dY (fn 6 (pr (fn 8 (pr aQ (.int 5))) (.int 4))))) (fn 2 (pr (fn 1 (pr dY (fn 6 (pr (fn 8 (pr aQ (.int 5))) (.int 4))))) (pr (fn 6 (pr (fn 8 (pr bX (.int 2))) (.int 0))) (.ar .add .i64 (fn 1 (pr (fn 1 (pr dY (fn 6 (pr (fn 8 (pr aQ (.int 5))) (.int 4))))) (fn 6 (pr (fn 8 (pr bX (.int 2))) (.int 0))))) (.int 1)))))))))) (fn 6 (pr (fn 8 (pr aQ (.int 5))) (.int 4))))) (.int 2))) (.ar .add .i64 bX (.int 1)))) (fn 7 (pr (fn 9 (pr (fn 1 (pr dY (fn 6 (pr (fn 8 (pr aQ (.int 5))) (.int 4))))) (.int 2))) bX)))<|aJ fun F p0 p1 p2 p3 p4=>by
 have h0:0<=E.I F aQ:=by simp only[aa]at *;omega
 have h9:E.I F aQ<E.I F kn:=by simp only[aa]at *;omega
 have:=Dw h0 h9 p0
 have hr:E.I F (fn 9 (pr (fn 1 (pr (fn 2 (pr _ (pr _ (fn 21 (pr _ (fn 2 (pr _ (pr (fn 6 (pr (fn 8 (pr bX (.int 2))) (.int 0))) (.ar .add .i64 (fn 1 (pr (fn 1 (pr dY (fn 6 (pr (fn 8 (pr aQ (.int 5))) (.int 4))))) (fn 6 (pr (fn 8 (pr bX (.int 2))) (.int 0))))) (.int 1)))))))))) _)) _))=E.I F (fn 9 (pr (fn 1 (pr dY _)) _)):=tP h0;simp only[aa,ae]at *
 obtain⟨a,b,c⟩:=ab (E.I F bX+1)
 omega
def ajt:=fb Ka ZP<|aJ fun F p0 p1 p2 p3 p4=>by
 simp only[aa,ae]at *
 obtain⟨a,b,c⟩:=ab (E.I F aQ+1)
 omega
def aju:=fb ZM (.not (cmp .lss (fn 7 (pr (fn 9 (pr (fn 1 (pr (fn 2 (pr dX (pr (fn 6 (pr (fn 8 (pr aQ (.int 5))) (.int 4))) (fn 21 (pr (fn 1 (pr dX (fn 6 (pr (fn 8 (pr aQ (.int 5))) (.int 4))))) (fn 2 (pr (fn 1 (pr dX (fn 6 (pr (fn 8 (pr aQ (.int 5))) (.int 4))))) (pr (fn 6 (pr (fn 8 (pr bX (.int 2))) (.int 0))) (.ar .add .i64 (fn 1 (pr (fn 1 (pr dX (fn 6 (pr (fn 8 (pr aQ (.int 5))) (.int 4))))) (fn 6 (pr (fn 8 (pr bX (.int 2))) (.int 0))))) (.int 1)))))))))) (fn 6 (pr (fn 8 (pr aQ (.int 5))) (.int 4))))) (.int 2))) (.ar .add .i64 bX (.int 1)))) (.int 0)))<|aj fun F p0 p1 p2=>by
 have h0:0<=E.I F aQ:=by simp only[aa]at *;omega
 have hr:E.I F (fn 9 (pr (fn 1 (pr (fn 2 (pr _ (pr _ (fn 21 (pr _ (fn 2 (pr _ (pr (fn 6 (pr (fn 8 (pr bX (.int 2))) (.int 0))) (.ar .add .i64 (fn 1 (pr (fn 1 (pr dX (fn 6 (pr (fn 8 (pr aQ (.int 5))) (.int 4))))) (fn 6 (pr (fn 8 (pr bX (.int 2))) (.int 0))))) (.int 1)))))))))) _)) _))=E.I F (fn 9 (pr (fn 1 (pr dX _)) _)):=tP h0;simp only[aa,ae]at *
 obtain⟨a,b,c⟩:=ab (E.I F bX+1)
 omega
def ajv:=fb ZO (.not (cmp .lss (fn 7 (pr (fn 9 (pr (fn 1 (pr (fn 2 (pr dY (pr (fn 6 (pr (fn 8 (pr aQ (.int 5))) (.int 4))) (fn 21 (pr (fn 1 (pr dY (fn 6 (pr (fn 8 (pr aQ (.int 5))) (.int 4))))) (fn 2 (pr (fn 1 (pr dY (fn 6 (pr (fn 8 (pr aQ (.int 5))) (.int 4))))) (pr (fn 6 (pr (fn 8 (pr bX (.int 2))) (.int 0))) (.ar .add .i64 (fn 1 (pr (fn 1 (pr dY (fn 6 (pr (fn 8 (pr aQ (.int 5))) (.int 4))))) (fn 6 (pr (fn 8 (pr bX (.int 2))) (.int 0))))) (.int 1)))))))))) (fn 6 (pr (fn 8 (pr aQ (.int 5))) (.int 4))))) (.int 2))) (.ar .add .i64 bX (.int 1)))) (.int 0)))<|aj fun F p0 p1 p2=>by
 have h0:0<=E.I F aQ:=by simp only[aa]at *;omega
 have hr:E.I F (fn 9 (pr (fn 1 (pr (fn 2 (pr _ (pr _ (fn 21 (pr _ (fn 2 (pr _ (pr (fn 6 (pr (fn 8 (pr bX (.int 2))) (.int 0))) (.ar .add .i64 (fn 1 (pr (fn 1 (pr dY (fn 6 (pr (fn 8 (pr aQ (.int 5))) (.int 4))))) (fn 6 (pr (fn 8 (pr bX (.int 2))) (.int 0))))) (.int 1)))))))))) _)) _))=E.I F (fn 9 (pr (fn 1 (pr dY _)) _)):=tP h0;simp only[aa,ae]at *
 obtain⟨a,b,c⟩:=ab (E.I F bX+1)
 omega
def p65:List Fa:=[df,awX,awY,awZ,aif,aig,aih,aii,aij,aik,ail,aim,ain,aio,aip,aiq,air,ais,ait,aiu,aiv,aiw,aix,aiy,aiz,aiA,aiB,aiC,aiD,aiE,aiF,aiG,aiH,aiI,aiK,aiL,aiM,aiN,aiO,aiP,aiQ,aiR,aiS,aiT,aiV,aiW,aiX,aiY,aiZ,ai0,ai1,ai2,ai3,ai4,ai5,ai6,ai7,ai8,ai9,aja,ajb,ajc,ajd,aje,ajg,ajh,aji,ajj,ajk,ajl,ajm,ajn,ajo,ajp,ajr,ajs,ajt,aju,ajv]
theorem aLC:aL Tryz.prog (bh (aKy)):=sc p65 (aFo) aes ([]) (by kernel_rfl) (by kernel_rfl)
def ES:Nl:=nc aLC aes
end
end Go.Proofs.YtnggbcblogpnfaaGreat.combatBlocks
