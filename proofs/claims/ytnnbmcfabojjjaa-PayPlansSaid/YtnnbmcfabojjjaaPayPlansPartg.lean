/-
  PayPlans: contracts of functions, part 7.
-/
import Derived.Test.YtnnbmcfabojjjaaRows
import Derived.Test.YtnnbmcfabojjjaaNat
import Derived.WalkKit
import Derived.ProofKit
import Derived.OpenShut
import Derived.ChangeOld
import Derived.Below
import Derived.KernelRfl
import Derived.Lib.SmallJoins
import Derived.Laws.IdiomArrays
import Derived.Test.YtnnbmcfabojjjaaPayPlansPartf
namespace Go.Proofs.Ytnnbmcfabojjjaa.payPlans
open Go.ChangeShapes Go.WideShapes Go.ChangeAt Go.RowKit
open Go.SX
open Go.SX.E (fn pr cmp var)
set_option linter.unusedVariables false
set_option linter.unusedSimpArgs false
set_option maxRecDepth 100000
noncomputable section
abbrev N0:E:=var 0
abbrev N1:E:=fn 158 (pr N0 (fn 9 (pr N0 (.int 5))))
abbrev N2:E:=var 11
abbrev N3:E:=cmp .lss N2 (fn 9 (pr N0 (.int 5)))
abbrev N4:E:=cmp .lss N2 (.int 0)
abbrev N5:E:=.not N4
abbrev N6:E:=cmp .lss (.int 2147483648) (fn 9 (pr (fn 1 (pr N0 (fn 6 (pr (fn 8 (pr N2 (.int 5))) (.int 4))))) (.int 2)))
abbrev N7:E:=.not N6
abbrev N8:E:=cmp .lss (fn 9 (pr N0 (.int 5))) N2
abbrev N9:E:=.not N8
abbrev N10:E:=cmp .eql N2 (.int 0)
abbrev YX:=[N10]
abbrev jq:E:=var 9
abbrev yi:E:=cmp .eql jq N2
abbrev BN:E:=.not (cmp .lss jq (.int 1))
abbrev cu:E:=var 8
abbrev N16:E:=pr N0 (fn 8 (pr N2 (.int 5)))
abbrev N17:E:=pr cu N16
abbrev N18:E:=fn 181 N17
abbrev Fq:E:=cmp .eql (fn 0 cu) (fn 8 (pr jq (.int 5)))
abbrev N20:E:=cmp .lss (.int 20) (fn 9 (pr N0 (.int 5)))
abbrev N21:E:=.not N20
abbrev N22:=N21::YX
abbrev N23:=N5::N22
abbrev GG:=N3::N23
abbrev N26:E:=cmp .lss (.ar .add .i64 N2 (.int 1)) (.int 0)
abbrev Wr:E:=.not N26
abbrev zM:E:=var 10
abbrev N29:E:=cmp .lss (fn 9 (pr N0 (.int 5))) (.ar .add .i64 N2 (.int 1))
abbrev W5:E:=.not N29
abbrev DA:=[N21]
abbrev N32:=BN::DA
abbrev Yn:=yi::N32
abbrev N34:=N3::Yn
abbrev N35:=N9::DA
abbrev N36:=BN::N35
abbrev N37:=yi::N36
abbrev N38:=N3::N37
abbrev TE:E:=pr N0 (fn 8 (pr (.ar .add .i64 N2 (.int 1)) (.int 5)))
abbrev N40:E:=cmp .lss (fn 7 (pr (fn 9 (pr N0 (.int 5))) (.ar .add .i64 N2 (.int 1)))) (fn 7 (pr (fn 9 (pr N0 (.int 5))) N2))
abbrev N41:E:=cmp .lss (fn 7 (pr (fn 9 (pr N0 (.int 5))) (.ar .add .i64 N2 (.int 1)))) (.int 0)
abbrev N42:E:=.not N41
abbrev bq:E:=fn 117 N0
abbrev jP:=[bq]
abbrev bA:E:=fn 116 N0
abbrev bj:E:=var 16
abbrev gb:E:=var 24
abbrev bv:E:=var 1
abbrev L7:List E:=[(fn 12 (pr N0 bv))]
abbrev N50:E:=cmp .lss cu (fn 0 N0)
abbrev N51:E:=cmp .lss cu (.int 0)
abbrev Rw:E:=.not N51
abbrev N53:E:=cmp .lss (.int 100) (fn 0 N0)
abbrev N54:E:=.not N53
abbrev N55:=[N54]
abbrev N56:=Rw::N55
abbrev Ue:=N50::N56
abbrev N59:E:=cmp .lss (.ar .add .i64 cu (.int 1)) (.int 0)
abbrev N60:E:=.not N59
abbrev mt:E:=var 4
abbrev RG:List E:=[(fn 12 (pr mt jq))]
abbrev LC:E:=cmp .lss bj (fn 9 (pr mt (.int 2)))
abbrev N64:E:=cmp .lss (fn 9 (pr mt (.int 2))) bj
abbrev UU:E:=.not N64
abbrev uH:E:=.bool true
abbrev N67:E:=cmp .lss bj (.int 0)
abbrev Yq:E:=.not N67
abbrev N69:E:=cmp .lss (.int 6) (fn 9 (pr mt (.int 2)))
abbrev N70:E:=.not N69
abbrev N71:=[N70]
abbrev N72:=Yq::N71
abbrev Zt:=LC::N72
abbrev N75:E:=cmp .lss (.ar .add .i64 bj (.int 1)) (.int 0)
abbrev N76:E:=.not N75
abbrev N77:=UU::N72
abbrev N78:=LC::N77
abbrev M5:E:=fn 187 (pr bv N0)
abbrev En:E:=cmp .lss cu (fn 9 (pr N0 (.int 5)))
abbrev N81:E:=cmp .lss (fn 9 (pr N0 (.int 5))) cu
abbrev N82:E:=.not N81
abbrev N83:=[Rw]
abbrev TR:=En::N83
abbrev BO:=M5::TR
abbrev N86:=Rw::DA
abbrev N87:=En::N86
abbrev N88:=N82::N86
abbrev N89:=En::N88
abbrev br:E:=fn 189 (pr bv N0)
abbrev RU:E:=cmp .lss bj (fn 9 (pr (fn 1 (pr N0 (.int 0))) (.int 12)))
abbrev N92:E:=cmp .lss (fn 9 (pr (fn 1 (pr N0 (.int 0))) (.int 12))) bj
abbrev N93:E:=.not N92
abbrev N94:=[Yq]
abbrev N95:=RU::N94
abbrev N96:=bq::N95
abbrev N97:=N93::N94
abbrev N98:=RU::N97
abbrev N99:=bq::N98
abbrev SE:E:=cmp .lss gb (fn 9 (pr (fn 1 (pr N0 (.int 32))) (.int 2)))
abbrev awu:E:=cmp .lss (fn 9 (pr (fn 1 (pr N0 (.int 32))) (.int 2))) gb
abbrev ahM:E:=.not awu
abbrev azq:E:=cmp .lss gb (.int 0)
abbrev aAr:E:=.not azq
abbrev aiS:=[aAr]
abbrev aT1:=SE::aiS
abbrev ag2:=bq::aT1
abbrev aKU:=ahM::aiS
abbrev apD:=SE::aKU
abbrev XL:=bq::apD
abbrev cx:E:=var 48
abbrev oE:E:=.not (cmp .lss (.int 4) cx)
abbrev oT:E:=.not (cmp .lss cx (.int 0))
abbrev iV:E:=var 32
abbrev dg:E:=cmp .eql iV (.int 0)
abbrev sD:E:=cmp .lss cx (.int 4)
abbrev MY:E:=cmp .eql cx (.int 0)
abbrev aqi:=[sD,MY]
abbrev aM6:=bA::aqi
abbrev avR:=bq::aM6
abbrev Vg:=br::avR
abbrev aSy:=dg::Vg
abbrev aLb:=oT::aSy
abbrev Uy:=oE::aLb
abbrev yb:E:=.not MY
abbrev S7:E:=cmp .eql cx (.int 1)
abbrev aqS:=[yb,S7]
abbrev aUP:=sD::aqS
abbrev aMP:=bA::aUP
abbrev aPE:=bq::aMP
abbrev alN:=br::aPE
abbrev aDs:=dg::alN
abbrev aSk:=oT::aDs
abbrev afH:=oE::aSk
abbrev IC:E:=.not S7
abbrev LS:E:=cmp .eql cx (.int 2)
abbrev aIU:=[IC,LS]
abbrev aDY:=yb::aIU
abbrev aFA:=sD::aDY
abbrev aLr:=bA::aFA
abbrev azG:=bq::aLr
abbrev ad0:=br::azG
abbrev aKC:=dg::ad0
abbrev aVJ:=oT::aKC
abbrev ajJ:=oE::aVJ
abbrev adZ:E:=.not LS
abbrev ayG:=[adZ]
abbrev aSn:=IC::ayG
abbrev asd:=yb::aSn
abbrev arF:=sD::asd
abbrev arg:=bA::arF
abbrev aA7:=bq::arg
abbrev ae5:=br::aA7
abbrev aMI:=dg::ae5
abbrev aEY:=oT::aMI
abbrev aln:=oE::aEY
abbrev aEn:=[oT]
abbrev Jj:=oE::aEn
abbrev aOO:=adZ::Jj
abbrev awD:=IC::aOO
abbrev aVn:=yb::awD
abbrev ax1:=sD::aVn
abbrev aKq:=bA::ax1
abbrev axW:=bq::aKq
abbrev ahS:=br::axW
abbrev FY:=dg::ahS
abbrev rd:E:=.not (cmp .lss (.ar .add .i64 cx (.int 1)) (.int 0))
abbrev aUx:=LS::Jj
abbrev aOh:=IC::aUx
abbrev awJ:=yb::aOh
abbrev aBa:=sD::awJ
abbrev aHd:=bA::aBa
abbrev aSb:=bq::aHd
abbrev aki:=br::aSb
abbrev Hv:=dg::aki
abbrev aVd:=S7::Jj
abbrev aWV:=yb::aVd
abbrev ayO:=sD::aWV
abbrev avW:=bA::ayO
abbrev awB:=bq::avW
abbrev aja:=br::awB
abbrev H6:=dg::aja
abbrev aL6:=MY::Jj
abbrev aE4:=sD::aL6
abbrev aSl:=bA::aE4
abbrev avn:=bq::aSl
abbrev acU:=br::avn
abbrev Gr:=dg::acU
abbrev qR:E:=.not (cmp .lss (.int 4) (.ar .add .i64 cx (.int 1)))
abbrev sx:E:=cmp .lss (fn 7 (pr (.int 4) (.ar .add .i64 cx (.int 1)))) (fn 7 (pr (.int 4) cx))
abbrev ry:E:=.not (cmp .lss (fn 7 (pr (.int 4) (.ar .add .i64 cx (.int 1)))) (.int 0))
abbrev oY:E:=cmp .eql iV (.int 1)
abbrev ayQ:=oY::Vg
abbrev aNm:=oT::ayQ
abbrev ald:=oE::aNm
abbrev atr:=oY::alN
abbrev axw:=oT::atr
abbrev ant:=oE::axw
abbrev ark:=oY::ad0
abbrev ayh:=oT::ark
abbrev ajr:=oE::ayh
abbrev ax0:=oY::ae5
abbrev aS9:=oT::ax0
abbrev adb:=oE::aS9
abbrev E4:=oY::ahS
abbrev JC:=oY::aki
abbrev Fr:=oY::aja
abbrev Fp:=oY::acU
abbrev b7:E:=.not (cmp .lss (.int 2) iV)
abbrev cb:E:=.not (cmp .lss iV (.int 0))
abbrev b9:E:=cmp .lss iV (.int 2)
abbrev eQ:E:=.not dg
abbrev tK:E:=cmp .eql (fn 1 (pr N0 (.int 15))) (fn 1 (pr bv (.int 15)))
abbrev ZS:E:=cmp .eql (fn 1 (pr N0 (.int 16))) (fn 1 (pr bv (.int 16)))
abbrev alf:E:=cmp .eql (fn 1 (pr N0 (.int 17))) (fn 1 (pr bv (.int 17)))
abbrev agz:E:=cmp .eql (fn 1 (pr N0 (.int 18))) (fn 1 (pr bv (.int 18)))
abbrev Zg:E:=cmp .eql (fn 1 (pr N0 (.int 19))) (fn 1 (pr bv (.int 19)))
abbrev pq:E:=.and ZS (.and alf (.and agz (.and Zg uH)))
abbrev my:E:=.iff (fn 1 (pr N0 (.int 24))) (fn 1 (pr bv (.int 24)))
abbrev mQ:E:=.iff (fn 1 (pr N0 (.int 25))) (fn 1 (pr bv (.int 25)))
abbrev qG:E:=.iff (fn 1 (pr N0 (.int 26))) (fn 1 (pr bv (.int 26)))
abbrev sv:E:=cmp .eql (fn 1 (pr N0 (.int 27))) (fn 1 (pr bv (.int 27)))
abbrev ZQ:=[qG,sv]
abbrev aar:=mQ::ZQ
abbrev anS:=my::aar
abbrev abk:=pq::anS
abbrev uW:E:=cmp .eql (fn 1 (pr N0 (.int 28))) (fn 1 (pr bv (.int 28)))
abbrev aHt:=[bq,bA]
abbrev amw:=br::aHt
abbrev EQ:=dg::amw
abbrev aIb:E:=cmp .lss (.ar .add .i64 iV (.int 1)) (.int 0)
abbrev aiW:E:=.not aIb
abbrev KN:=oY::amw
abbrev amY:=[mQ,qG]
abbrev Su:=my::amY
abbrev abc:=[ZS,alf,agz,Zg,uH]
abbrev tV:=[b7,cb,br,bq,bA,b9,eQ]
abbrev tO:E:=cmp .eql (fn 1 (pr N0 (.int 1))) (fn 1 (pr bv (.int 1)))
abbrev ajm:E:=cmp .eql (fn 1 (pr N0 (.int 2))) (fn 1 (pr bv (.int 2)))
abbrev aig:E:=cmp .eql (fn 1 (pr N0 (.int 3))) (fn 1 (pr bv (.int 3)))
abbrev aka:E:=cmp .eql (fn 1 (pr N0 (.int 4))) (fn 1 (pr bv (.int 4)))
abbrev ZV:E:=cmp .eql (fn 1 (pr N0 (.int 5))) (fn 1 (pr bv (.int 5)))
abbrev pK:E:=.and ajm (.and aig (.and aka (.and ZV uH)))
abbrev ml:E:=.iff (fn 1 (pr N0 (.int 10))) (fn 1 (pr bv (.int 10)))
abbrev oC:E:=.iff (fn 1 (pr N0 (.int 11))) (fn 1 (pr bv (.int 11)))
abbrev qI:E:=.iff (fn 1 (pr N0 (.int 12))) (fn 1 (pr bv (.int 12)))
abbrev rk:E:=cmp .eql (fn 1 (pr N0 (.int 13))) (fn 1 (pr bv (.int 13)))
abbrev adt:=[qI,rk]
abbrev ait:=oC::adt
abbrev ajR:=ml::ait
abbrev ZU:=pK::ajR
abbrev s8:E:=cmp .eql (fn 1 (pr N0 (.int 14))) (fn 1 (pr bv (.int 14)))
abbrev WE:=[oC,qI]
abbrev Pe:=ml::WE
abbrev ad5:=[ajm,aig,aka,ZV,uH]
abbrev tU:=[b7,cb,br,bq,bA,b9,dg]
abbrev aW2:E:=cmp .lss (.int 2) (.ar .add .i64 iV (.int 1))
abbrev Un:E:=.not aW2
abbrev ahf:E:=cmp .lss (fn 7 (pr (.int 2) (.ar .add .i64 iV (.int 1)))) (fn 7 (pr (.int 2) iV))
abbrev aDa:E:=cmp .lss (fn 7 (pr (.int 2) (.ar .add .i64 iV (.int 1)))) (.int 0)
abbrev acP:E:=.not aDa
def ats:=fb ([N1,N3,N5]) N7<|af fun F p0 p1 p2=>by
 have hr0:0<=E.I F _->E.I F _<E.I F _->E.I F (fn 9 (pr (fn 1 _) _))<=6:=fun h0 h1=>@Nm F _ N2 _ p0 h0 h1
 try simp only[aa]at *
 grind
def aMr:=fb ((.not N3)::N9::YX) (fn 187 (pr (fn 30 (.int 0)) N0))<|af fun F p0 p1 p2=>by
 have:=fun h0=>@aS0 F (fn 30 (.int 0)) N0 rfl h0
 try simp only[aa]at *
 grind
def aqs:=fb ([N1,N3,yi,BN]) N7<|aj fun F p0 p1 p2 p3=>by
 have hr0:0<=E.I F _->E.I F _<E.I F _->E.I F (fn 9 (pr (fn 1 _) _))<=6:=fun h0 h1=>@Nm F _ N2 _ p0 h0 h1
 try simp only[aa]at *
 grind
def aXH:=fb ([(.not N3),N18,Fq,yi,N9]) (fn 187 (pr (fn 28 (pr (pr (var 12) jq) cu)) N0))<|aB fun F p0 p1 p2 p3 p4=>by
 have:=fun h1 h2=>@aJt F _ _ _ (pr (var 12) jq) p1 h1 h2
 try simp only[aa]at *
 grind
def azW:=fb GG Wr<|aj fun F p0 p1 p2 p3=>by
 try simp only[aa,ab]at *
 obtain⟨a5,ea5,qa5⟩:=ae ((E.I F N2)+(1))
 omega
def agA:=fb ([(.not (cmp .lss zM jq)),BN]) (.not (cmp .lss zM (.int 0)))<|ak fun F p0 p1=>by
 try simp only[aa]at *
 grind
def awj:=fb GG W5<|aj fun F p0 p1 p2 p3=>by
 try simp only[aa,ab]at *
 obtain⟨a5,ea5,qa5⟩:=ae ((E.I F N2)+(1))
 omega
def aH7:=fb (N3::yi::DA) (.not (cmp .lss (.int 2147483648) (fn 6 (pr jq (.int 1)))))<|af fun F p0 p1 p2=>by
 try simp only[aa]at *
 grind
def az5:=fb N34 Wr<|aj fun F p0 p1 p2 p3=>by
 try simp only[aa,ab]at *
 obtain⟨a8,ea8,qa8⟩:=ae ((E.I F N2)+(1))
 omega
def aQK:=fa ((cmp .eql (fn 8 (pr (.int 1) (.int 5))) (.int 5)))<|fun F=>by
 rfl
def av2:=fb N38 W5<|aB fun F p0 p1 p2 p3 p4=>by
 try simp only[aa,ab]at *
 obtain⟨a8,ea8,qa8⟩:=ae ((E.I F N2)+(1))
 omega
def aOT:=fb (N3::N5::(fn 190 N0)::N22) (fn 181 (pr (fn 23 (pr (fn 1 (pr N0 (fn 6 (pr (fn 8 (pr N2 (.int 5))) (.int 0))))) (fn 23 (pr (fn 1 (pr N0 (fn 6 (pr (fn 8 (pr N2 (.int 5))) (.int 1))))) (fn 23 (pr (fn 1 (pr N0 (fn 6 (pr (fn 8 (pr N2 (.int 5))) (.int 2))))) (fn 23 (pr (fn 1 (pr N0 (fn 6 (pr (fn 8 (pr N2 (.int 5))) (.int 3))))) (fn 23 (pr (fn 28 (pr (pr (var 13) (fn 9 (pr (fn 1 (pr N0 (fn 6 (pr (fn 8 (pr N2 (.int 5))) (.int 4))))) (.int 2)))) (fn 1 (pr N0 (fn 6 (pr (fn 8 (pr N2 (.int 5))) (.int 4))))))) (fn 10 (.int 0)))))))))))) TE))<|aB fun F p0 p1 p2 p3 p4=>by
 have:=@am F N2 (.int 1)
 have hr2:E.I F _=0->E.I F _<E.I F _->E.I F _=(E.I F _+1)*5->E.B F (fn _ (pr (fn 23 (pr (fn 1 _) (fn 23 (pr (fn 1 _) (fn 23 (pr (fn 1 _) (fn 23 (pr (fn 1 _) (fn 23 (pr (fn 28 (pr _ (fn 1 _))) _)))))))))) _))=true:=fun h0 h3 h4=>@apU F _ N2 (fn 8 (pr (.ar .add .i64 N2 (.int 1)) (.int 5))) p2 h0 h3 h4 (var 13) (fn 9 (pr (fn 1 (pr N0 (fn 6 (pr (fn 8 (pr N2 (.int 5))) (.int 4))))) (.int 2)))
 try simp only[aa]at *
 grind
def azk:=fb (N3::Fq::Yn) (cmp .eql (fn 6 (pr jq (.int 1))) (.ar .add .i64 N2 (.int 1)))<|aB fun F p0 p1 p2 p3 p4=>by
 try simp only[aa,ab]at *
 obtain⟨a8,ea8,qa8⟩:=ae ((E.I F N2)+(1))
 omega
def aKP:=fb GG N40<|aj fun F p0 p1 p2 p3=>by
 try simp only[aa,ab]at *
 obtain⟨a5,ea5,qa5⟩:=ae ((E.I F N2)+(1))
 omega
def aSK:=fb ([Fq]) (cmp .eql (fn 6 (pr (fn 0 cu) (.int 5))) (fn 8 (pr (fn 6 (pr jq (.int 1))) (.int 5))))<|aq fun F p0=>by
 try simp only[aa]at *
 grind
def aRc:=fb GG N42<|aj fun F p0 p1 p2 p3=>by
 try simp only[aa,ab]at *
 obtain⟨a5,ea5,qa5⟩:=ae ((E.I F N2)+(1))
 omega
def aze:=fb (N3::N18::Fq::yi::BN::(fn 190 N0)::DA) (fn 181 (pr (fn 3 (pr cu (fn 23 (pr (fn 1 (pr N0 (fn 6 (pr (fn 8 (pr N2 (.int 5))) (.int 0))))) (fn 23 (pr (fn 1 (pr N0 (fn 6 (pr (fn 8 (pr N2 (.int 5))) (.int 1))))) (fn 23 (pr (fn 1 (pr N0 (fn 6 (pr (fn 8 (pr N2 (.int 5))) (.int 2))))) (fn 23 (pr (fn 1 (pr N0 (fn 6 (pr (fn 8 (pr N2 (.int 5))) (.int 3))))) (fn 23 (pr (fn 28 (pr (pr (var 13) (fn 9 (pr (fn 1 (pr N0 (fn 6 (pr (fn 8 (pr N2 (.int 5))) (.int 4))))) (.int 2)))) (fn 1 (pr N0 (fn 6 (pr (fn 8 (pr N2 (.int 5))) (.int 4))))))) (fn 10 (.int 0)))))))))))))) TE))<|bb fun F p0 p1 p2 p3 p4 p5 p6=>by
 have:=@am F N2 (.int 1)
 have hr2:0<=E.I F _->E.I F _=E.I F _*5->E.I F _=E.I F _*5->E.I F _<E.I F _->E.I F _=(E.I F _+1)*5->E.B F (fn _ (pr (fn 3 (pr _ (fn 23 (pr (fn 1 _) (fn 23 (pr (fn 1 _) (fn 23 (pr (fn 1 _) (fn 23 (pr (fn 1 _) (fn 23 (pr (fn 28 (pr _ (fn 1 _))) _)))))))))))) _))=true:=fun h0 h1 h2 h3 h4=>@aPS F _ _ N2 (fn 8 (pr (.ar .add .i64 N2 (.int 1)) (.int 5))) _ p1 p5 h0 h1 h2 h3 h4 (var 13) (fn 9 (pr (fn 1 (pr N0 (fn 6 (pr (fn 8 (pr N2 (.int 5))) (.int 4))))) (.int 2)))
 try simp only[aa]at *
 grind
def aS6:=fb N34 N40<|aj fun F p0 p1 p2 p3=>by
 try simp only[aa,ab]at *
 obtain⟨a8,ea8,qa8⟩:=ae ((E.I F N2)+(1))
 omega
def aNV:=fb N38 N42<|aB fun F p0 p1 p2 p3 p4=>by
 try simp only[aa,ab]at *
 obtain⟨a8,ea8,qa8⟩:=ae ((E.I F N2)+(1))
 omega
def vJ:List Fa:=[fK,ats,aMr,aqs,aXH,azW,agA,awj,aH7,an1,az5,aQK,av2,aOT,azk,aKP,aSK,aRc,aze,aS6,aNV]
theorem axd:aN Try.prog (aZ (aMg)):=sc vJ (aAZ) aaq (aHD) (by kernel_rfl) (by kernel_rfl)
def ae3:Nl:=nc axd aaq
def aLI:=fb jP (.not (cmp .lss (.int 2147483648) (fn 9 (pr (fn 1 (pr N0 (.int 0))) (.int 12)))))<|aq fun F p0=>by
 have:=ap p0
 try simp only[aa]at *
 omega
def aUT:=fb jP (.not (cmp .lss (.int 2147483648) (fn 0 (fn 1 (pr N0 (.int 6))))))<|aq fun F p0=>by
 have:=ap p0
 try simp only[aa]at *
 omega
def aXD:=fb jP (.not (cmp .lss (.int 2147483648) (fn 0 (fn 1 (pr N0 (.int 7))))))<|aq fun F p0=>by
 have:=ap p0
 try simp only[aa]at *
 omega
def aSr:=fb jP (.not (cmp .lss (.int 2147483648) (fn 0 (fn 1 (pr N0 (.int 8))))))<|aq fun F p0=>by
 have:=ap p0
 try simp only[aa]at *
 omega
def aqK:=fb jP (.not (cmp .lss (.int 2147483648) (fn 0 (fn 1 (pr N0 (.int 9))))))<|aq fun F p0=>by
 have:=ap p0
 try simp only[aa]at *
 omega
def aTJ:=fb jP (.not (cmp .lss (.int 2147483648) (fn 0 (fn 1 (pr N0 (.int 20))))))<|aq fun F p0=>by
 have:=ap p0
 try simp only[aa]at *
 omega
def ava:=fb jP (.not (cmp .lss (.int 2147483648) (fn 0 (fn 1 (pr N0 (.int 21))))))<|aq fun F p0=>by
 have:=ap p0
 try simp only[aa]at *
 omega
def awP:=fb jP (.not (cmp .lss (.int 2147483648) (fn 0 (fn 1 (pr N0 (.int 22))))))<|aq fun F p0=>by
 have:=ap p0
 try simp only[aa]at *
 omega
def avT:=fb jP (.not (cmp .lss (.int 2147483648) (fn 0 (fn 1 (pr N0 (.int 23))))))<|aq fun F p0=>by
 have:=ap p0
 try simp only[aa]at *
 omega
def WH:=fb jP (fn 158 (pr (fn 1 (pr N0 (.int 29))) (fn 9 (pr (fn 1 (pr N0 (.int 29))) (.int 5)))))<|aq fun F p0=>by
 simp_all[RX]
def aqt:=fb ([bA]) (fn 190 (fn 1 (pr N0 (.int 29))))<|aq fun F p0=>by
 have:=akj p0 29 (by decide)
 omega
def YL:=fb jP (fn 158 (pr (fn 1 (pr N0 (.int 30))) (fn 9 (pr (fn 1 (pr N0 (.int 30))) (.int 5)))))<|aq fun F p0=>by
 simp_all[RX]
def aoY:=fb ([bA]) (fn 190 (fn 1 (pr N0 (.int 30))))<|aq fun F p0=>by
 have:=akj p0 30 (by decide)
 omega
def aXO:=fb jP (.not (cmp .lss (.int 2147483648) (fn 0 (fn 1 (pr N0 (.int 31))))))<|aq fun F p0=>by
 have:=ap p0
 try simp only[aa]at *
 grind
def aVt:=fb jP (.not (cmp .lss (.int 2147483648) (fn 9 (pr (fn 1 (pr N0 (.int 32))) (.int 2)))))<|aq fun F p0=>by
 have:=ap p0
 try simp only[aa]at *
 grind
def asi:=fb ([bA,(fn 187 (pr zM (fn 1 (pr N0 (.int 29))))),(fn 187 (pr N2 (fn 1 (pr N0 (.int 30)))))]) (fn 189 (pr (fn 23 (pr (fn 28 (pr (pr (var 14) (fn 9 (pr (fn 1 (pr N0 (.int 0))) (.int 12)))) (fn 1 (pr N0 (.int 0))))) (fn 23 (pr (fn 1 (pr N0 (.int 1))) (fn 23 (pr (fn 1 (pr N0 (.int 2))) (fn 23 (pr (fn 1 (pr N0 (.int 3))) (fn 23 (pr (fn 1 (pr N0 (.int 4))) (fn 23 (pr (fn 1 (pr N0 (.int 5))) (fn 23 (pr (fn 28 (pr (pr (var 15) (fn 0 (fn 1 (pr N0 (.int 6))))) (fn 1 (pr N0 (.int 6))))) (fn 23 (pr (fn 28 (pr (pr bj (fn 0 (fn 1 (pr N0 (.int 7))))) (fn 1 (pr N0 (.int 7))))) (fn 23 (pr (fn 28 (pr (pr (var 17) (fn 0 (fn 1 (pr N0 (.int 8))))) (fn 1 (pr N0 (.int 8))))) (fn 23 (pr (fn 28 (pr (pr (var 18) (fn 0 (fn 1 (pr N0 (.int 9))))) (fn 1 (pr N0 (.int 9))))) (fn 23 (pr (fn 1 (pr N0 (.int 10))) (fn 23 (pr (fn 1 (pr N0 (.int 11))) (fn 23 (pr (fn 1 (pr N0 (.int 12))) (fn 23 (pr (fn 1 (pr N0 (.int 13))) (fn 23 (pr (fn 1 (pr N0 (.int 14))) (fn 23 (pr (fn 1 (pr N0 (.int 15))) (fn 23 (pr (fn 1 (pr N0 (.int 16))) (fn 23 (pr (fn 1 (pr N0 (.int 17))) (fn 23 (pr (fn 1 (pr N0 (.int 18))) (fn 23 (pr (fn 1 (pr N0 (.int 19))) (fn 23 (pr (fn 28 (pr (pr (var 19) (fn 0 (fn 1 (pr N0 (.int 20))))) (fn 1 (pr N0 (.int 20))))) (fn 23 (pr (fn 28 (pr (pr (var 20) (fn 0 (fn 1 (pr N0 (.int 21))))) (fn 1 (pr N0 (.int 21))))) (fn 23 (pr (fn 28 (pr (pr (var 21) (fn 0 (fn 1 (pr N0 (.int 22))))) (fn 1 (pr N0 (.int 22))))) (fn 23 (pr (fn 28 (pr (pr (var 22) (fn 0 (fn 1 (pr N0 (.int 23))))) (fn 1 (pr N0 (.int 23))))) (fn 23 (pr (fn 1 (pr N0 (.int 24))) (fn 23 (pr (fn 1 (pr N0 (.int 25))) (fn 23 (pr (fn 1 (pr N0 (.int 26))) (fn 23 (pr (fn 1 (pr N0 (.int 27))) (fn 23 (pr (fn 1 (pr N0 (.int 28))) (fn 23 (pr zM (fn 23 (pr N2 (fn 23 (pr (fn 28 (pr (pr (var 23) (fn 0 (fn 1 (pr N0 (.int 31))))) (fn 1 (pr N0 (.int 31))))) (fn 23 (pr (fn 28 (pr (pr gb (fn 9 (pr (fn 1 (pr N0 (.int 32))) (.int 2)))) (fn 1 (pr N0 (.int 32))))) (fn 23 (pr (fn 1 (pr N0 (.int 33))) (fn 23 (pr (fn 1 (pr N0 (.int 34))) (fn 23 (pr (fn 1 (pr N0 (.int 35))) (fn 23 (pr (fn 1 (pr N0 (.int 36))) (fn 23 (pr (fn 1 (pr N0 (.int 37))) (fn 10 (.int 0)))))))))))))))))))))))))))))))))))))))))))))))))))))))))))))))))))))))))))))) N0))<|af fun F p0 p1 p2=>by
 have h1:=@awc F N0 [(fn 28 (pr (pr (var 14) (fn 9 (pr (fn 1 (pr N0 (.int 0))) (.int 12)))) (fn 1 (pr N0 (.int 0))))),(fn 1 (pr N0 (.int 1))),(fn 1 (pr N0 (.int 2))),(fn 1 (pr N0 (.int 3))),(fn 1 (pr N0 (.int 4))),(fn 1 (pr N0 (.int 5))),(fn 28 (pr (pr (var 15) (fn 0 (fn 1 (pr N0 (.int 6))))) (fn 1 (pr N0 (.int 6))))),(fn 28 (pr (pr bj (fn 0 (fn 1 (pr N0 (.int 7))))) (fn 1 (pr N0 (.int 7))))),(fn 28 (pr (pr (var 17) (fn 0 (fn 1 (pr N0 (.int 8))))) (fn 1 (pr N0 (.int 8))))),(fn 28 (pr (pr (var 18) (fn 0 (fn 1 (pr N0 (.int 9))))) (fn 1 (pr N0 (.int 9))))),(fn 1 (pr N0 (.int 10))),(fn 1 (pr N0 (.int 11))),(fn 1 (pr N0 (.int 12))),(fn 1 (pr N0 (.int 13))),(fn 1 (pr N0 (.int 14))),(fn 1 (pr N0 (.int 15))),(fn 1 (pr N0 (.int 16))),(fn 1 (pr N0 (.int 17))),(fn 1 (pr N0 (.int 18))),(fn 1 (pr N0 (.int 19))),(fn 28 (pr (pr (var 19) (fn 0 (fn 1 (pr N0 (.int 20))))) (fn 1 (pr N0 (.int 20))))),(fn 28 (pr (pr (var 20) (fn 0 (fn 1 (pr N0 (.int 21))))) (fn 1 (pr N0 (.int 21))))),(fn 28 (pr (pr (var 21) (fn 0 (fn 1 (pr N0 (.int 22))))) (fn 1 (pr N0 (.int 22))))),(fn 28 (pr (pr (var 22) (fn 0 (fn 1 (pr N0 (.int 23))))) (fn 1 (pr N0 (.int 23))))),(fn 1 (pr N0 (.int 24))),(fn 1 (pr N0 (.int 25))),(fn 1 (pr N0 (.int 26))),(fn 1 (pr N0 (.int 27))),(fn 1 (pr N0 (.int 28))),zM,N2,(fn 28 (pr (pr (var 23) (fn 0 (fn 1 (pr N0 (.int 31))))) (fn 1 (pr N0 (.int 31))))),(fn 28 (pr (pr gb (fn 9 (pr (fn 1 (pr N0 (.int 32))) (.int 2)))) (fn 1 (pr N0 (.int 32))))),(fn 1 (pr N0 (.int 33))),(fn 1 (pr N0 (.int 34))),(fn 1 (pr N0 (.int 35))),(fn 1 (pr N0 (.int 36))),(fn 1 (pr N0 (.int 37)))] rfl;exact h1 (l4 p0 0 rfl (by decide) rfl (d5 1 rfl (d5 2 rfl (d5 3 rfl (d5 4 rfl (d5 5 rfl (l4 p0 6 rfl (by decide) rfl (l4 p0 7 rfl (by decide) rfl (l4 p0 8 rfl (by decide) rfl (l4 p0 9 rfl (by decide) rfl (d5 10 rfl (d5 11 rfl (d5 12 rfl (d5 13 rfl (d5 14 rfl (d5 15 rfl (d5 16 rfl (d5 17 rfl (d5 18 rfl (d5 19 rfl (l4 p0 20 rfl (by decide) rfl (l4 p0 21 rfl (by decide) rfl (l4 p0 22 rfl (by decide) rfl (l4 p0 23 rfl (by decide) rfl (d5 24 rfl (d5 25 rfl (d5 26 rfl (d5 27 rfl (d5 28 rfl (ala 29 rfl p1 (ala 30 rfl p2 (l4 p0 31 rfl (by decide) rfl (l4 p0 32 rfl (by decide) rfl (d5 33 rfl (d5 34 rfl (d5 35 rfl (d5 36 rfl (d5 37 rfl trivial))))))))))))))))))))))))))))))))))))))
def vD:List Fa:=[fK,aLI,aUT,aXD,aSr,aqK,aTJ,ava,awP,avT,zz,WH,aqt,PA,YL,aoY,aXO,aVt,asi]
theorem aQr:aN Try.prog (aZ (aNv)):=sc vD ([]) ae3 (msB) (by kernel_rfl) (by kernel_rfl)
def anp:Nl:=nc aQr ae3
def aQ0:=fb L7 (cmp .eql (fn 0 N0) (fn 0 bv))<|aq fun F p0=>by
 have:=@adw F _ _ p0
 try simp only[aa]at *
 grind
def aTD:=fb (N50::(.not (cmp .lss (fn 0 N0) cu))::L7) (cmp .lss cu (fn 0 bv))<|af fun F p0 p1 p2=>by
 have:=@adw F _ _ p2
 simp_all
def aIv:=fb L7 (cmp .eql (fn 1 (pr N0 cu)) (fn 1 (pr bv cu)))<|aq fun F p0=>by
 have:=@je F _ _ p0 cu
 try simp only[aa]at *
 grind
def aBq:=fb Ue N60<|af fun F p0 p1 p2=>by
 try simp only[aa,ab]at *
 obtain⟨a4,ea4,qa4⟩:=ae ((E.I F cu)+(1))
 omega
def aBC:=fb Ue (cmp .lss (fn 7 (pr (fn 0 N0) (.ar .add .i64 cu (.int 1)))) (fn 7 (pr (fn 0 N0) cu)))<|af fun F p0 p1 p2=>by
 try simp only[aa,ab]at *
 obtain⟨a2,ea2,qa2⟩:=ae ((E.I F cu)+(1))
 omega
def tA:List Fa:=[aQ0,aTD,aIv,aBq,ak2,aBC,aiM]
theorem aPg:aN Try.prog (aZ (aXy)):=sc tA (aoX) anp ([]) (by kernel_rfl) (by kernel_rfl)
def ac8:Nl:=nc aPg anp
def aN8:=fb RG (cmp .eql (fn 9 (pr mt (.int 2))) (fn 9 (pr jq (.int 2))))<|aq fun F p0=>by
 have:=@xw F _ _ p0 (.int 2)
 try simp only[aa]at *
 grind
def azw:=fb (LC::UU::RG) (cmp .lss bj (fn 9 (pr jq (.int 2))))<|af fun F p0 p1 p2=>by
 have:=@xw F _ _ p2 (.int 2)
 simp_all
def aNA:=fb RG (.and (cmp .eql (fn 1 (pr mt (fn 6 (pr (fn 8 (pr bj (.int 2))) (.int 0))))) (fn 1 (pr jq (fn 6 (pr (fn 8 (pr bj (.int 2))) (.int 0)))))) (.and (cmp .eql (fn 1 (pr mt (fn 6 (pr (fn 8 (pr bj (.int 2))) (.int 1))))) (fn 1 (pr jq (fn 6 (pr (fn 8 (pr bj (.int 2))) (.int 1)))))) uH))<|aq fun F p0=>by
 have:=@je F _ _ p0 (fn 6 (pr (fn 8 (pr bj (.int 2))) (.int 0)))
 have:=@je F _ _ p0 (fn 6 (pr (fn 8 (pr bj (.int 2))) (.int 1)))
 try simp only[aa]at *
 grind
def aHY:=fb Zt N76<|af fun F p0 p1 p2=>by
 try simp only[aa,ab]at *
 obtain⟨a14,ea14,qa14⟩:=ae ((E.I F bj)+(1))
 omega
def atH:=fb N78 (.not (cmp .lss (fn 9 (pr mt (.int 2))) (.ar .add .i64 bj (.int 1))))<|aj fun F p0 p1 p2 p3=>by
 try simp only[aa,ab]at *
 obtain⟨a10,ea10,qa10⟩:=ae ((E.I F bj)+(1))
 omega
def aoZ:=fb Zt (cmp .lss (fn 7 (pr (fn 9 (pr mt (.int 2))) (.ar .add .i64 bj (.int 1)))) (fn 7 (pr (fn 9 (pr mt (.int 2))) bj)))<|af fun F p0 p1 p2=>by
 try simp only[aa,ab]at *
 obtain⟨a10,ea10,qa10⟩:=ae ((E.I F bj)+(1))
 omega
def aT4:=fb N78 (.not (cmp .lss (fn 7 (pr (fn 9 (pr mt (.int 2))) (.ar .add .i64 bj (.int 1)))) (.int 0)))<|aj fun F p0 p1 p2 p3=>by
 try simp only[aa,ab]at *
 obtain⟨a10,ea10,qa10⟩:=ae ((E.I F bj)+(1))
 omega
def rH:List Fa:=[aN8,azw,aNA,aHY,atH,aoZ,aT4]
theorem asn:aN Try.prog (aZ (aVQ)):=sc rH (aJx) ac8 ([]) (by kernel_rfl) (by kernel_rfl)
def aev:Nl:=nc asn ac8
def aXM:=fb ([M5]) (cmp .eql (fn 9 (pr N0 (.int 5))) (fn 9 (pr bv (.int 5))))<|aq fun F p0=>by
 have:=@Yy F _ _ p0
 try simp only[aa]at *
 grind
def aPQ:=fb ([M5,En,N82]) (cmp .lss cu (fn 9 (pr bv (.int 5))))<|af fun F p0 p1 p2=>by
 have:=@Yy F _ _ p0
 simp_all
def aTQ:=fb BO (cmp .eql (fn 1 (pr N0 (fn 6 (pr (fn 8 (pr cu (.int 5))) (.int 0))))) (fn 1 (pr bv (fn 6 (pr (fn 8 (pr cu (.int 5))) (.int 0))))))<|af fun F p0 p1 p2=>by
 have hr1:0<=E.I F _->E.I F _<E.I F _->E.I F (fn 1 _)=E.I F (fn 1 _):=fun h0 h1=>@Jo F _ _ cu p0 h0 h1 0 (by decide)
 try simp only[aa]at *
 grind
def aBS:=fb BO (cmp .eql (fn 1 (pr N0 (fn 6 (pr (fn 8 (pr cu (.int 5))) (.int 1))))) (fn 1 (pr bv (fn 6 (pr (fn 8 (pr cu (.int 5))) (.int 1))))))<|af fun F p0 p1 p2=>by
 have hr1:0<=E.I F _->E.I F _<E.I F _->E.I F (fn 1 _)=E.I F (fn 1 _):=fun h0 h1=>@Jo F _ _ cu p0 h0 h1 1 (by decide)
 try simp only[aa]at *
 grind
def atc:=fb BO (cmp .eql (fn 1 (pr N0 (fn 6 (pr (fn 8 (pr cu (.int 5))) (.int 2))))) (fn 1 (pr bv (fn 6 (pr (fn 8 (pr cu (.int 5))) (.int 2))))))<|af fun F p0 p1 p2=>by
 have hr1:0<=E.I F _->E.I F _<E.I F _->E.I F (fn 1 _)=E.I F (fn 1 _):=fun h0 h1=>@Jo F _ _ cu p0 h0 h1 2 (by decide)
 try simp only[aa]at *
 grind
def aBe:=fb BO (cmp .eql (fn 1 (pr N0 (fn 6 (pr (fn 8 (pr cu (.int 5))) (.int 3))))) (fn 1 (pr bv (fn 6 (pr (fn 8 (pr cu (.int 5))) (.int 3))))))<|af fun F p0 p1 p2=>by
 have hr1:0<=E.I F _->E.I F _<E.I F _->E.I F (fn 1 _)=E.I F (fn 1 _):=fun h0 h1=>@Jo F _ _ cu p0 h0 h1 3 (by decide)
 try simp only[aa]at *
 grind
def aUG:=fb BO (fn 12 (pr (fn 1 (pr N0 (fn 6 (pr (fn 8 (pr cu (.int 5))) (.int 4))))) (fn 1 (pr bv (fn 6 (pr (fn 8 (pr cu (.int 5))) (.int 4)))))))<|af fun F p0 p1 p2=>by
 have hr2:0<=E.I F _->E.I F _<E.I F _->E.B F (fn 12 (pr (fn 1 _) (fn 1 _)))=true:=fun h0 h1=>ol (@Vt F _ _ cu p0 h0 h1 4 (by decide))
 try simp only[aa]at *
 grind
def aVS:=fb (N1::TR) (.not (cmp .lss (.int 6) (fn 9 (pr (fn 1 (pr N0 (fn 6 (pr (fn 8 (pr cu (.int 5))) (.int 4))))) (.int 2)))))<|af fun F p0 p1 p2=>by
 have hr2:0<=E.I F _->E.I F _<E.I F _->E.I F (fn 9 (pr (fn 1 _) _))<=6:=fun h0 h1=>@Nm F _ cu _ p0 h0 h1
 try simp only[aa]at *
 grind
def aC6:=fb N87 N60<|af fun F p0 p1 p2=>by
 try simp only[aa,ab]at *
 obtain⟨a2,ea2,qa2⟩:=ae ((E.I F cu)+(1))
 omega
def aoA:=fb N89 (.not (cmp .lss (fn 9 (pr N0 (.int 5))) (.ar .add .i64 cu (.int 1))))<|aj fun F p0 p1 p2 p3=>by
 try simp only[aa,ab]at *
 obtain⟨a2,ea2,qa2⟩:=ae ((E.I F cu)+(1))
 omega
def aH3:=fb N87 (cmp .lss (fn 7 (pr (fn 9 (pr N0 (.int 5))) (.ar .add .i64 cu (.int 1)))) (fn 7 (pr (fn 9 (pr N0 (.int 5))) cu)))<|af fun F p0 p1 p2=>by
 try simp only[aa,ab]at *
 obtain⟨a2,ea2,qa2⟩:=ae ((E.I F cu)+(1))
 omega
def aGZ:=fb N89 (.not (cmp .lss (fn 7 (pr (fn 9 (pr N0 (.int 5))) (.ar .add .i64 cu (.int 1)))) (.int 0)))<|aj fun F p0 p1 p2 p3=>by
 try simp only[aa,ab]at *
 obtain⟨a2,ea2,qa2⟩:=ae ((E.I F cu)+(1))
 omega
def IY:List Fa:=[aXM,aPQ,aTQ,aBS,atc,aBe,aUG,aVS,aC6,aoA,aH3,aGZ]
theorem aNg:aN Try.prog (aZ (aGM)):=sc IY (aFB) aev ([]) (by kernel_rfl) (by kernel_rfl)
def kP:Nl:=nc aNg aev
def aX0:=fb ([br,RU,N93]) (cmp .lss bj (fn 9 (pr (fn 1 (pr bv (.int 0))) (.int 12))))<|af fun F p0 p1 p2=>by
 have hp0:=aE p0 0 (by decide)
 have:=@xw F _ _ hp0 (.int 12)
 simp_all
def axl:=fb ([br]) (.and (cmp .eql (fn 1 (pr (fn 1 (pr N0 (.int 0))) (fn 6 (pr (fn 8 (pr bj (.int 12))) (.int 0))))) (fn 1 (pr (fn 1 (pr bv (.int 0))) (fn 6 (pr (fn 8 (pr bj (.int 12))) (.int 0)))))) (.and (cmp .eql (fn 1 (pr (fn 1 (pr N0 (.int 0))) (fn 6 (pr (fn 8 (pr bj (.int 12))) (.int 1))))) (fn 1 (pr (fn 1 (pr bv (.int 0))) (fn 6 (pr (fn 8 (pr bj (.int 12))) (.int 1)))))) (.and (cmp .eql (fn 1 (pr (fn 1 (pr N0 (.int 0))) (fn 6 (pr (fn 8 (pr bj (.int 12))) (.int 2))))) (fn 1 (pr (fn 1 (pr bv (.int 0))) (fn 6 (pr (fn 8 (pr bj (.int 12))) (.int 2)))))) (.and (cmp .eql (fn 1 (pr (fn 1 (pr N0 (.int 0))) (fn 6 (pr (fn 8 (pr bj (.int 12))) (.int 3))))) (fn 1 (pr (fn 1 (pr bv (.int 0))) (fn 6 (pr (fn 8 (pr bj (.int 12))) (.int 3)))))) (.and (cmp .eql (fn 1 (pr (fn 1 (pr N0 (.int 0))) (fn 6 (pr (fn 8 (pr bj (.int 12))) (.int 4))))) (fn 1 (pr (fn 1 (pr bv (.int 0))) (fn 6 (pr (fn 8 (pr bj (.int 12))) (.int 4)))))) (.and (cmp .eql (fn 1 (pr (fn 1 (pr N0 (.int 0))) (fn 6 (pr (fn 8 (pr bj (.int 12))) (.int 5))))) (fn 1 (pr (fn 1 (pr bv (.int 0))) (fn 6 (pr (fn 8 (pr bj (.int 12))) (.int 5)))))) (.and (cmp .eql (fn 1 (pr (fn 1 (pr N0 (.int 0))) (fn 6 (pr (fn 8 (pr bj (.int 12))) (.int 6))))) (fn 1 (pr (fn 1 (pr bv (.int 0))) (fn 6 (pr (fn 8 (pr bj (.int 12))) (.int 6)))))) (.and (cmp .eql (fn 1 (pr (fn 1 (pr N0 (.int 0))) (fn 6 (pr (fn 8 (pr bj (.int 12))) (.int 7))))) (fn 1 (pr (fn 1 (pr bv (.int 0))) (fn 6 (pr (fn 8 (pr bj (.int 12))) (.int 7)))))) (.and (cmp .eql (fn 1 (pr (fn 1 (pr N0 (.int 0))) (fn 6 (pr (fn 8 (pr bj (.int 12))) (.int 8))))) (fn 1 (pr (fn 1 (pr bv (.int 0))) (fn 6 (pr (fn 8 (pr bj (.int 12))) (.int 8)))))) (.and (.iff (fn 1 (pr (fn 1 (pr N0 (.int 0))) (fn 6 (pr (fn 8 (pr bj (.int 12))) (.int 9))))) (fn 1 (pr (fn 1 (pr bv (.int 0))) (fn 6 (pr (fn 8 (pr bj (.int 12))) (.int 9)))))) (.and (.iff (fn 1 (pr (fn 1 (pr N0 (.int 0))) (fn 6 (pr (fn 8 (pr bj (.int 12))) (.int 10))))) (fn 1 (pr (fn 1 (pr bv (.int 0))) (fn 6 (pr (fn 8 (pr bj (.int 12))) (.int 10)))))) (.and (.iff (fn 1 (pr (fn 1 (pr N0 (.int 0))) (fn 6 (pr (fn 8 (pr bj (.int 12))) (.int 11))))) (fn 1 (pr (fn 1 (pr bv (.int 0))) (fn 6 (pr (fn 8 (pr bj (.int 12))) (.int 11)))))) uH))))))))))))<|aq fun F p0=>by
 have hp0:=aE p0 0 (by decide)
 have:=@je F _ _ hp0 (fn 6 (pr (fn 8 (pr bj (.int 12))) (.int 0)))
 have:=@je F _ _ hp0 (fn 6 (pr (fn 8 (pr bj (.int 12))) (.int 1)))
 have:=@je F _ _ hp0 (fn 6 (pr (fn 8 (pr bj (.int 12))) (.int 2)))
 have:=@je F _ _ hp0 (fn 6 (pr (fn 8 (pr bj (.int 12))) (.int 3)))
 have:=@je F _ _ hp0 (fn 6 (pr (fn 8 (pr bj (.int 12))) (.int 4)))
 have:=@je F _ _ hp0 (fn 6 (pr (fn 8 (pr bj (.int 12))) (.int 5)))
 have:=@je F _ _ hp0 (fn 6 (pr (fn 8 (pr bj (.int 12))) (.int 6)))
 have:=@je F _ _ hp0 (fn 6 (pr (fn 8 (pr bj (.int 12))) (.int 7)))
 have:=@je F _ _ hp0 (fn 6 (pr (fn 8 (pr bj (.int 12))) (.int 8)))
 have:=@SI F _ _ hp0 (fn 6 (pr (fn 8 (pr bj (.int 12))) (.int 9)))
 have:=@SI F _ _ hp0 (fn 6 (pr (fn 8 (pr bj (.int 12))) (.int 10)))
 have:=@SI F _ _ hp0 (fn 6 (pr (fn 8 (pr bj (.int 12))) (.int 11)))
 try simp only[aa]at *
 grind
def aM9:=fb N96 N76<|af fun F p0 p1 p2=>by
 have:=ap p0
 try simp only[aa,ab]at *
 obtain⟨a20,ea20,qa20⟩:=ae ((E.I F bj)+(1))
 omega
def as7:=fb N99 (.not (cmp .lss (fn 9 (pr (fn 1 (pr N0 (.int 0))) (.int 12))) (.ar .add .i64 bj (.int 1))))<|aj fun F p0 p1 p2 p3=>by
 try simp only[aa,ab]at *
 obtain⟨a2,ea2,qa2⟩:=ae ((E.I F bj)+(1))
 omega
def aXR:=fb N96 (cmp .lss (fn 7 (pr (fn 9 (pr (fn 1 (pr N0 (.int 0))) (.int 12))) (.ar .add .i64 bj (.int 1)))) (fn 7 (pr (fn 9 (pr (fn 1 (pr N0 (.int 0))) (.int 12))) bj)))<|af fun F p0 p1 p2=>by
 have:=ap p0
 try simp only[aa,ab]at *
 obtain⟨a2,ea2,qa2⟩:=ae ((E.I F bj)+(1))
 omega
def aJQ:=fb N99 (.not (cmp .lss (fn 7 (pr (fn 9 (pr (fn 1 (pr N0 (.int 0))) (.int 12))) (.ar .add .i64 bj (.int 1)))) (.int 0)))<|aj fun F p0 p1 p2 p3=>by
 try simp only[aa,ab]at *
 obtain⟨a2,ea2,qa2⟩:=ae ((E.I F bj)+(1))
 omega
def asJ:List Fa:=[aX0,axl,aM9,as7,aXR,aJQ]
theorem aYk:BodyOk Try.prog (Ev (some (f6 0 16))) (f6 0 16) (iv 0 16 5 eX).less (iv 0 16 5 eX).tmps {(iv 0 16 5 eX).st with pc:=(iv 0 16 5 eX).st.pc}:=
 kc good (facts:=fl asJ) (gh _) (anns:=[]) (gL _ (by kernel_rfl)) (nats:=kP.l) kP.h (n:=3000) (by kernel_rfl) (by kernel_rfl)
theorem apu:BodyOk Try.prog (Ev (some (f6 0 16))) (f6 0 16) (iv 0 16 5 eX).less (iv 0 16 5 eX).tmps (iv 0 16 5 eX).st:=aYk
theorem aVU:dZ Try.prog (Ev (some (f6 0 16))):=rW rfl (by kernel_rfl) (by
 intro τ hτ;rcases List.mem_cons.1 hτ with rfl|hτ
 ·exact apu
 cases hτ)
def aU4:=fb ([br,SE,ahM]) (cmp .lss gb (fn 9 (pr (fn 1 (pr bv (.int 32))) (.int 2))))<|af fun F p0 p1 p2=>by
 have hp0:=aE p0 32 (by decide)
 have:=@xw F _ _ hp0 (.int 2)
 simp_all
def aRX:=fb ([br]) (.and (cmp .eql (fn 1 (pr (fn 1 (pr N0 (.int 32))) (fn 6 (pr (fn 8 (pr gb (.int 2))) (.int 0))))) (fn 1 (pr (fn 1 (pr bv (.int 32))) (fn 6 (pr (fn 8 (pr gb (.int 2))) (.int 0)))))) (.and (cmp .eql (fn 1 (pr (fn 1 (pr N0 (.int 32))) (fn 6 (pr (fn 8 (pr gb (.int 2))) (.int 1))))) (fn 1 (pr (fn 1 (pr bv (.int 32))) (fn 6 (pr (fn 8 (pr gb (.int 2))) (.int 1)))))) uH))<|aq fun F p0=>by
 have hp0:=aE p0 32 (by decide)
 have:=@je F _ _ hp0 (fn 6 (pr (fn 8 (pr gb (.int 2))) (.int 0)))
 have:=@je F _ _ hp0 (fn 6 (pr (fn 8 (pr gb (.int 2))) (.int 1)))
 try simp only[aa]at *
 grind
def apL:=fb ag2 (.not (cmp .lss (.ar .add .i64 gb (.int 1)) (.int 0)))<|af fun F p0 p1 p2=>by
 have:=ap p0
 try simp only[aa,ab]at *
 obtain⟨a6,ea6,qa6⟩:=ae ((E.I F gb)+(1))
 omega
def aRU:=fb XL (.not (cmp .lss (fn 9 (pr (fn 1 (pr N0 (.int 32))) (.int 2))) (.ar .add .i64 gb (.int 1))))<|aj fun F p0 p1 p2 p3=>by
 try simp only[aa,ab]at *
 obtain⟨a2,ea2,qa2⟩:=ae ((E.I F gb)+(1))
 omega
def aOB:=fb ag2 (cmp .lss (fn 7 (pr (fn 9 (pr (fn 1 (pr N0 (.int 32))) (.int 2))) (.ar .add .i64 gb (.int 1)))) (fn 7 (pr (fn 9 (pr (fn 1 (pr N0 (.int 32))) (.int 2))) gb)))<|af fun F p0 p1 p2=>by
 have:=ap p0
 try simp only[aa,ab]at *
 obtain⟨a2,ea2,qa2⟩:=ae ((E.I F gb)+(1))
 omega
def aVX:=fb XL (.not (cmp .lss (fn 7 (pr (fn 9 (pr (fn 1 (pr N0 (.int 32))) (.int 2))) (.ar .add .i64 gb (.int 1)))) (.int 0)))<|aj fun F p0 p1 p2 p3=>by
 try simp only[aa,ab]at *
 obtain⟨a2,ea2,qa2⟩:=ae ((E.I F gb)+(1))
 omega
def aGK:List Fa:=[aU4,aRX,apL,aRU,aOB,aVX]
theorem aRK:BodyOk Try.prog (KT (some (f6 2 24))) (f6 2 24) (iv 2 24 6 hJ).less (iv 2 24 6 hJ).tmps {(iv 2 24 6 hJ).st with pc:=(iv 2 24 6 hJ).st.pc}:=
 kc good (facts:=fl aGK) (gh _) (anns:=[]) (gL _ (by kernel_rfl)) (nats:=kP.l) kP.h (n:=3000) (by kernel_rfl) (by kernel_rfl)
theorem apM:BodyOk Try.prog (KT (some (f6 2 24))) (f6 2 24) (iv 2 24 6 hJ).less (iv 2 24 6 hJ).tmps (iv 2 24 6 hJ).st:=aRK
theorem az2:dZ Try.prog (KT (some (f6 2 24))):=rW rfl (by kernel_rfl) (by
 intro τ hτ;rcases List.mem_cons.1 hτ with rfl|hτ
 ·exact apM
 cases hτ)
def apF:=fb Uy (fn 12 (pr (fn 1 (pr N0 (.int 6))) (fn 1 (pr bv (.int 6)))))<|ba fun F p0 p1 p2 p3 p4 p5 p6 p7=>by
 have hp0:=aE p3 6 (by decide);grind[ol]
def asX:=fb afH (fn 12 (pr (fn 1 (pr N0 (.int 7))) (fn 1 (pr bv (.int 7)))))<|bh fun F p0 p1 p2 p3 p4 p5 p6 p7 p8=>by
 have hp0:=aE p3 7 (by decide);grind[ol]
def ax7:=fb ajJ (fn 12 (pr (fn 1 (pr N0 (.int 8))) (fn 1 (pr bv (.int 8)))))<|bE fun F p0 p1 p2 p3 p4 p5 p6 p7 p8 p9=>by
 have hp0:=aE p3 8 (by decide);grind[ol]
def axi:=fb aln (fn 12 (pr (fn 1 (pr N0 (.int 9))) (fn 1 (pr bv (.int 9)))))<|bE fun F p0 p1 p2 p3 p4 p5 p6 p7 p8 p9=>by
 have hp0:=aE p3 9 (by decide);grind[ol]
def atl:=fb Uy (.not (cmp .lss (.int 100) (fn 0 (fn 1 (pr N0 (.int 6))))))<|ba fun F p0 p1 p2 p3 p4 p5 p6 p7=>by
 have:=ap p4
 try simp only[aa]at *
 omega
def aRL:=fb afH (.not (cmp .lss (.int 100) (fn 0 (fn 1 (pr N0 (.int 7))))))<|bh fun F p0 p1 p2 p3 p4 p5 p6 p7 p8=>by
 have:=ap p4
 try simp only[aa]at *
 omega
def aq3:=fb ajJ (.not (cmp .lss (.int 100) (fn 0 (fn 1 (pr N0 (.int 8))))))<|bE fun F p0 p1 p2 p3 p4 p5 p6 p7 p8 p9=>by
 have:=ap p4
 try simp only[aa]at *
 omega
def aN9:=fb aln (.not (cmp .lss (.int 100) (fn 0 (fn 1 (pr N0 (.int 9))))))<|bE fun F p0 p1 p2 p3 p4 p5 p6 p7 p8 p9=>by
 have:=ap p4
 try simp only[aa]at *
 omega
def aBB:=fb FY rd<|bE fun F p0 p1 p2 p3 p4 p5 p6 p7 p8 p9=>by
 have:=am (F:=F) (a:=cx) (b:=(.int 1))
 try simp only[aa]at *
 omega
def aut:=fb Hv rd<|bE fun F p0 p1 p2 p3 p4 p5 p6 p7 p8 p9=>by
 have:=am (F:=F) (a:=cx) (b:=(.int 1))
 try simp only[aa]at *
 omega
def aVN:=fb H6 rd<|bh fun F p0 p1 p2 p3 p4 p5 p6 p7 p8=>by
 have:=am (F:=F) (a:=cx) (b:=(.int 1))
 try simp only[aa]at *
 omega
def ays:=fb Gr rd<|ba fun F p0 p1 p2 p3 p4 p5 p6 p7=>by
 have:=am (F:=F) (a:=cx) (b:=(.int 1))
 try simp only[aa]at *
 omega
def aV7:=fb FY qR<|bE fun F p0 p1 p2 p3 p4 p5 p6 p7 p8 p9=>by
 have:=am (F:=F) (a:=cx) (b:=(.int 1))
 try simp only[aa]at *
 omega
def aES:=fb Hv qR<|bE fun F p0 p1 p2 p3 p4 p5 p6 p7 p8 p9=>by
 have:=am (F:=F) (a:=cx) (b:=(.int 1))
 try simp only[aa]at *
 omega
def aJj:=fb H6 qR<|bh fun F p0 p1 p2 p3 p4 p5 p6 p7 p8=>by
 have:=am (F:=F) (a:=cx) (b:=(.int 1))
 try simp only[aa]at *
 omega
def aHj:=fb Gr qR<|ba fun F p0 p1 p2 p3 p4 p5 p6 p7=>by
 have:=am (F:=F) (a:=cx) (b:=(.int 1))
 try simp only[aa]at *
 omega
def aSA:=fb FY sx<|bE fun F p0 p1 p2 p3 p4 p5 p6 p7 p8 p9=>by
 have:=am (F:=F) (a:=cx) (b:=(.int 1))
 try simp only[aa]at *
 omega
def aG5:=fb Hv sx<|bE fun F p0 p1 p2 p3 p4 p5 p6 p7 p8 p9=>by
 have:=am (F:=F) (a:=cx) (b:=(.int 1))
 try simp only[aa]at *
 omega
def aX1:=fb H6 sx<|bh fun F p0 p1 p2 p3 p4 p5 p6 p7 p8=>by
 have:=am (F:=F) (a:=cx) (b:=(.int 1))
 try simp only[aa]at *
 omega
def aA1:=fb Gr sx<|ba fun F p0 p1 p2 p3 p4 p5 p6 p7=>by
 have:=am (F:=F) (a:=cx) (b:=(.int 1))
 try simp only[aa]at *
 omega
def axI:=fb FY ry<|bE fun F p0 p1 p2 p3 p4 p5 p6 p7 p8 p9=>by
 have:=am (F:=F) (a:=cx) (b:=(.int 1))
 try simp only[aa]at *
 omega
def aRI:=fb Hv ry<|bE fun F p0 p1 p2 p3 p4 p5 p6 p7 p8 p9=>by
 have:=am (F:=F) (a:=cx) (b:=(.int 1))
 try simp only[aa]at *
 omega
def aJE:=fb H6 ry<|bh fun F p0 p1 p2 p3 p4 p5 p6 p7 p8=>by
 have:=am (F:=F) (a:=cx) (b:=(.int 1))
 try simp only[aa]at *
 omega
def aJy:=fb Gr ry<|ba fun F p0 p1 p2 p3 p4 p5 p6 p7=>by
 have:=am (F:=F) (a:=cx) (b:=(.int 1))
 try simp only[aa]at *
 omega
def aso:List Fa:=[apF,asX,ax7,axi,atl,aRL,aq3,aN9,aBB,aut,aVN,ays,aV7,aES,aJj,aHj,aSA,aG5,aX1,aA1,axI,aRI,aJE,aJy]
theorem aKA:BodyOk Try.prog (xG (some nC)) nC (iq 0).less (iq 0).tmps {(iq 0).st with pc:=(iq 0).st.pc}:=
 kc good (facts:=fl aso) (gh _) (anns:=[]) (gL _ (by kernel_rfl)) (nats:=kP.l) kP.h (n:=3000) (by kernel_rfl) (by kernel_rfl)
theorem aMJ:BodyOk Try.prog (xG (some nC)) nC (iq 0).less (iq 0).tmps (iq 0).st:=aKA
def aFC:=fb ald (fn 12 (pr (fn 1 (pr N0 (.int 20))) (fn 1 (pr bv (.int 20)))))<|ba fun F p0 p1 p2 p3 p4 p5 p6 p7=>by
 have hp0:=aE p3 20 (by decide);grind[ol]
def aFP:=fb ant (fn 12 (pr (fn 1 (pr N0 (.int 21))) (fn 1 (pr bv (.int 21)))))<|bh fun F p0 p1 p2 p3 p4 p5 p6 p7 p8=>by
 have hp0:=aE p3 21 (by decide);grind[ol]
def awO:=fb ajr (fn 12 (pr (fn 1 (pr N0 (.int 22))) (fn 1 (pr bv (.int 22)))))<|bE fun F p0 p1 p2 p3 p4 p5 p6 p7 p8 p9=>by
 have hp0:=aE p3 22 (by decide);grind[ol]
def aBE:=fb adb (fn 12 (pr (fn 1 (pr N0 (.int 23))) (fn 1 (pr bv (.int 23)))))<|bE fun F p0 p1 p2 p3 p4 p5 p6 p7 p8 p9=>by
 have hp0:=aE p3 23 (by decide);grind[ol]
def axJ:=fb ald (.not (cmp .lss (.int 100) (fn 0 (fn 1 (pr N0 (.int 20))))))<|ba fun F p0 p1 p2 p3 p4 p5 p6 p7=>by
 have:=ap p4
 try simp only[aa]at *
 omega
def aOf:=fb ant (.not (cmp .lss (.int 100) (fn 0 (fn 1 (pr N0 (.int 21))))))<|bh fun F p0 p1 p2 p3 p4 p5 p6 p7 p8=>by
 have:=ap p4
 try simp only[aa]at *
 omega
def aTU:=fb ajr (.not (cmp .lss (.int 100) (fn 0 (fn 1 (pr N0 (.int 22))))))<|bE fun F p0 p1 p2 p3 p4 p5 p6 p7 p8 p9=>by
 have:=ap p4
 try simp only[aa]at *
 omega
def api:=fb adb (.not (cmp .lss (.int 100) (fn 0 (fn 1 (pr N0 (.int 23))))))<|bE fun F p0 p1 p2 p3 p4 p5 p6 p7 p8 p9=>by
 have:=ap p4
 try simp only[aa]at *
 omega
def aW8:=fb E4 rd<|bE fun F p0 p1 p2 p3 p4 p5 p6 p7 p8 p9=>by
 have:=am (F:=F) (a:=cx) (b:=(.int 1))
 try simp only[aa]at *
 omega
def au2:=fb JC rd<|bE fun F p0 p1 p2 p3 p4 p5 p6 p7 p8 p9=>by
 have:=am (F:=F) (a:=cx) (b:=(.int 1))
 try simp only[aa]at *
 omega
def aBk:=fb Fr rd<|bh fun F p0 p1 p2 p3 p4 p5 p6 p7 p8=>by
 have:=am (F:=F) (a:=cx) (b:=(.int 1))
 try simp only[aa]at *
 omega
def au4:=fb Fp rd<|ba fun F p0 p1 p2 p3 p4 p5 p6 p7=>by
 have:=am (F:=F) (a:=cx) (b:=(.int 1))
 try simp only[aa]at *
 omega
def asy:=fb E4 qR<|bE fun F p0 p1 p2 p3 p4 p5 p6 p7 p8 p9=>by
 have:=am (F:=F) (a:=cx) (b:=(.int 1))
 try simp only[aa]at *
 omega
def aGg:=fb JC qR<|bE fun F p0 p1 p2 p3 p4 p5 p6 p7 p8 p9=>by
 have:=am (F:=F) (a:=cx) (b:=(.int 1))
 try simp only[aa]at *
 omega
def aUl:=fb Fr qR<|bh fun F p0 p1 p2 p3 p4 p5 p6 p7 p8=>by
 have:=am (F:=F) (a:=cx) (b:=(.int 1))
 try simp only[aa]at *
 omega
def asL:=fb Fp qR<|ba fun F p0 p1 p2 p3 p4 p5 p6 p7=>by
 have:=am (F:=F) (a:=cx) (b:=(.int 1))
 try simp only[aa]at *
 omega
def aKn:=fb E4 sx<|bE fun F p0 p1 p2 p3 p4 p5 p6 p7 p8 p9=>by
 have:=am (F:=F) (a:=cx) (b:=(.int 1))
 try simp only[aa]at *
 omega
def avy:=fb JC sx<|bE fun F p0 p1 p2 p3 p4 p5 p6 p7 p8 p9=>by
 have:=am (F:=F) (a:=cx) (b:=(.int 1))
 try simp only[aa]at *
 omega
def auF:=fb Fr sx<|bh fun F p0 p1 p2 p3 p4 p5 p6 p7 p8=>by
 have:=am (F:=F) (a:=cx) (b:=(.int 1))
 try simp only[aa]at *
 omega
def aKj:=fb Fp sx<|ba fun F p0 p1 p2 p3 p4 p5 p6 p7=>by
 have:=am (F:=F) (a:=cx) (b:=(.int 1))
 try simp only[aa]at *
 omega
def aMH:=fb E4 ry<|bE fun F p0 p1 p2 p3 p4 p5 p6 p7 p8 p9=>by
 have:=am (F:=F) (a:=cx) (b:=(.int 1))
 try simp only[aa]at *
 omega
def aRj:=fb JC ry<|bE fun F p0 p1 p2 p3 p4 p5 p6 p7 p8 p9=>by
 have:=am (F:=F) (a:=cx) (b:=(.int 1))
 try simp only[aa]at *
 omega
def apN:=fb Fr ry<|bh fun F p0 p1 p2 p3 p4 p5 p6 p7 p8=>by
 have:=am (F:=F) (a:=cx) (b:=(.int 1))
 try simp only[aa]at *
 omega
def aYr:=fb Fp ry<|ba fun F p0 p1 p2 p3 p4 p5 p6 p7=>by
 have:=am (F:=F) (a:=cx) (b:=(.int 1))
 try simp only[aa]at *
 omega
def aoJ:List Fa:=[aFC,aFP,awO,aBE,axJ,aOf,aTU,api,aW8,au2,aBk,au4,asy,aGg,aUl,asL,aKn,avy,auF,aKj,aMH,aRj,apN,aYr]
theorem ayJ:BodyOk Try.prog (xG (some nC)) nC (iq 1).less (iq 1).tmps {(iq 1).st with pc:=(iq 1).st.pc}:=
 kc good (facts:=fl aoJ) (gh _) (anns:=[]) (gL _ (by kernel_rfl)) (nats:=kP.l) kP.h (n:=3000) (by kernel_rfl) (by kernel_rfl)
theorem aIY:BodyOk Try.prog (xG (some nC)) nC (iq 1).less (iq 1).tmps (iq 1).st:=ayJ
theorem aEv:dZ Try.prog (xG (some nC)):=rW rfl (by kernel_rfl) (by
 intro τ hτ;rcases List.mem_cons.1 hτ with rfl|hτ
 ·exact aMJ
 rcases List.mem_cons.1 hτ with rfl|hτ
 ·exact aIY
 cases hτ)
def aeZ:List Ann:=(xG (some nC))::[]
theorem aLh:∀x∈aeZ,dZ Try.prog x:=by
 intro x hx;rcases List.mem_cons.1 hx with rfl|hx
 ·exact aEv
 exact gL [] (by kernel_rfl) x hx
def asA:=fb (b7::cb::br::bq::bA::b9::eQ::tK::abk) uW<|fV fun F p0 p1 p2 p3 p4 p5 p6 p7 p8 p9 ai ao aw=>by
 have hp9:=aE p2 28 (by decide);have hi28:E.I F _=E.I F _:=bg hp9;try simp only[aa]at *
 grind
def ayq:=fb EQ aiW<|aj fun F p0 p1 p2 p3=>by
 have:=am (F:=F) (a:=iV) (b:=(.int 1))
 try simp only[aa]at *
 omega
def aBg:=fb KN aiW<|aj fun F p0 p1 p2 p3=>by
 have:=am (F:=F) (a:=iV) (b:=(.int 1))
 try simp only[aa]at *
 omega
def ap7:=fb (b7::cb::br::bq::bA::b9::eQ::tK::pq::Su) sv<|fu fun F p0 p1 p2 p3 p4 p5 p6 p7 p8 p9 ai ao=>by
 have hp8:=aE p2 27 (by decide);have hi27:E.I F _=E.I F _:=bg hp8;try simp only[aa]at *
 grind
def ar4:=fb ([b7,cb,br,bq,bA,b9,eQ,tK,pq,my,mQ]) qG<|dH fun F p0 p1 p2 p3 p4 p5 p6 p7 p8 p9 ai=>by
 have hp7:=aE p2 26 (by decide);have hb26:E.B F _=E.B F _:=d9 hp7;simp_all
def aEH:=fb ([b7,cb,br,bq,bA,b9,eQ,tK,pq,my]) mQ<|bE fun F p0 p1 p2 p3 p4 p5 p6 p7 p8 p9=>by
 have hp6:=aE p2 25 (by decide);have hb25:E.B F _=E.B F _:=d9 hp6;simp_all
def arD:=fb (b7::cb::br::bq::bA::b9::eQ::tK::abc) my<|fV fun F p0 p1 p2 p3 p4 p5 p6 p7 p8 p9 ai ao aw=>by
 have hp5:=aE p2 24 (by decide);have hb24:E.B F _=E.B F _:=d9 hp5;simp_all
def atS:=fb ([b7,cb,br,bq,bA,b9,eQ,tK]) pq<|ba fun F p0 p1 p2 p3 p4 p5 p6 p7=>by
 have hp1:=aE p2 16 (by decide);have hi16:E.I F _=E.I F _:=bg hp1;have hp2:=aE p2 17 (by decide);have hi17:E.I F _=E.I F _:=bg hp2;have hp3:=aE p2 18 (by decide);have hi18:E.I F _=E.I F _:=bg hp3;have hp4:=aE p2 19 (by decide);have hi19:E.I F _=E.I F _:=bg hp4;try simp only[aa]at *
 grind
def arV:=fb tV tK<|bb fun F p0 p1 p2 p3 p4 p5 p6=>by
 have hp0:=aE p2 15 (by decide);have hi15:E.I F _=E.I F _:=bg hp0;try simp only[aa]at *
 grind
def axq:=fb (b7::cb::br::bq::bA::b9::dg::tO::ZU) s8<|fV fun F p0 p1 p2 p3 p4 p5 p6 p7 p8 p9 ai ao aw=>by
 have hp9:=aE p2 14 (by decide);have hi14:E.I F _=E.I F _:=bg hp9;try simp only[aa]at *
 grind
def ao7:=fb (b7::cb::br::bq::bA::b9::dg::tO::pK::Pe) rk<|fu fun F p0 p1 p2 p3 p4 p5 p6 p7 p8 p9 ai ao=>by
 have hp8:=aE p2 13 (by decide);have hi13:E.I F _=E.I F _:=bg hp8;try simp only[aa]at *
 grind
def aUb:=fb ([b7,cb,br,bq,bA,b9,dg,tO,pK,ml,oC]) qI<|dH fun F p0 p1 p2 p3 p4 p5 p6 p7 p8 p9 ai=>by
 have hp7:=aE p2 12 (by decide);have hb12:E.B F _=E.B F _:=d9 hp7;simp_all
def azt:=fb ([b7,cb,br,bq,bA,b9,dg,tO,pK,ml]) oC<|bE fun F p0 p1 p2 p3 p4 p5 p6 p7 p8 p9=>by
 have hp6:=aE p2 11 (by decide);have hb11:E.B F _=E.B F _:=d9 hp6;simp_all
def aU0:=fb (b7::cb::br::bq::bA::b9::dg::tO::ad5) ml<|fV fun F p0 p1 p2 p3 p4 p5 p6 p7 p8 p9 ai ao aw=>by
 have hp5:=aE p2 10 (by decide);have hb10:E.B F _=E.B F _:=d9 hp5;simp_all
def aJT:=fb ([b7,cb,br,bq,bA,b9,dg,tO]) pK<|ba fun F p0 p1 p2 p3 p4 p5 p6 p7=>by
 have hp1:=aE p2 2 (by decide);have hi2:E.I F _=E.I F _:=bg hp1;have hp2:=aE p2 3 (by decide);have hi3:E.I F _=E.I F _:=bg hp2;have hp3:=aE p2 4 (by decide);have hi4:E.I F _=E.I F _:=bg hp3;have hp4:=aE p2 5 (by decide);have hi5:E.I F _=E.I F _:=bg hp4;try simp only[aa]at *
 grind
def aBD:=fb tU tO<|bb fun F p0 p1 p2 p3 p4 p5 p6=>by
 have hp0:=aE p2 1 (by decide);have hi1:E.I F _=E.I F _:=bg hp0;try simp only[aa]at *
 grind
def aRR:=fb (b7::cb::br::bq::bA::b9::eQ::abk) uW<|fu fun F p0 p1 p2 p3 p4 p5 p6 p7 p8 p9 ai ao=>by
 have hp8:=aE p2 28 (by decide);have hi28:E.I F _=E.I F _:=bg hp8;try simp only[aa]at *
 grind
def aBR:=fb EQ Un<|aj fun F p0 p1 p2 p3=>by
 have:=am (F:=F) (a:=iV) (b:=(.int 1))
 try simp only[aa]at *
 omega
def aH9:=fb KN Un<|aj fun F p0 p1 p2 p3=>by
 have:=am (F:=F) (a:=iV) (b:=(.int 1))
 try simp only[aa]at *
 omega
def axz:=fb (b7::cb::br::bq::bA::b9::eQ::pq::Su) sv<|dH fun F p0 p1 p2 p3 p4 p5 p6 p7 p8 p9 ai=>by
 have hp7:=aE p2 27 (by decide);have hi27:E.I F _=E.I F _:=bg hp7;try simp only[aa]at *
 grind
def awi:=fb ([b7,cb,br,bq,bA,b9,eQ,pq,my,mQ]) qG<|bE fun F p0 p1 p2 p3 p4 p5 p6 p7 p8 p9=>by
 have hp6:=aE p2 26 (by decide);have hb26:E.B F _=E.B F _:=d9 hp6;simp_all
def asb:=fb ([b7,cb,br,bq,bA,b9,eQ,pq,my]) mQ<|bh fun F p0 p1 p2 p3 p4 p5 p6 p7 p8=>by
 have hp5:=aE p2 25 (by decide);have hb25:E.B F _=E.B F _:=d9 hp5;simp_all
def aIn:=fb (b7::cb::br::bq::bA::b9::eQ::abc) my<|fu fun F p0 p1 p2 p3 p4 p5 p6 p7 p8 p9 ai ao=>by
 have hp4:=aE p2 24 (by decide);have hb24:E.B F _=E.B F _:=d9 hp4;simp_all
def aqX:=fb tV pq<|bb fun F p0 p1 p2 p3 p4 p5 p6=>by
 have hp0:=aE p2 16 (by decide);have hi16:E.I F _=E.I F _:=bg hp0;have hp1:=aE p2 17 (by decide);have hi17:E.I F _=E.I F _:=bg hp1;have hp2:=aE p2 18 (by decide);have hi18:E.I F _=E.I F _:=bg hp2;have hp3:=aE p2 19 (by decide);have hi19:E.I F _=E.I F _:=bg hp3;try simp only[aa]at *
 grind
def aKG:=fb (b7::cb::br::bq::bA::b9::dg::ZU) s8<|fu fun F p0 p1 p2 p3 p4 p5 p6 p7 p8 p9 ai ao=>by
 have hp8:=aE p2 14 (by decide);have hi14:E.I F _=E.I F _:=bg hp8;try simp only[aa]at *
 grind
def aTp:=fb (b7::cb::br::bq::bA::b9::dg::pK::Pe) rk<|dH fun F p0 p1 p2 p3 p4 p5 p6 p7 p8 p9 ai=>by
 have hp7:=aE p2 13 (by decide);have hi13:E.I F _=E.I F _:=bg hp7;try simp only[aa]at *
 grind
def aOZ:=fb ([b7,cb,br,bq,bA,b9,dg,pK,ml,oC]) qI<|bE fun F p0 p1 p2 p3 p4 p5 p6 p7 p8 p9=>by
 have hp6:=aE p2 12 (by decide);have hb12:E.B F _=E.B F _:=d9 hp6;simp_all
def aLn:=fb ([b7,cb,br,bq,bA,b9,dg,pK,ml]) oC<|bh fun F p0 p1 p2 p3 p4 p5 p6 p7 p8=>by
 have hp5:=aE p2 11 (by decide);have hb11:E.B F _=E.B F _:=d9 hp5;simp_all
def aQJ:=fb (b7::cb::br::bq::bA::b9::dg::ad5) ml<|fu fun F p0 p1 p2 p3 p4 p5 p6 p7 p8 p9 ai ao=>by
 have hp4:=aE p2 10 (by decide);have hb10:E.B F _=E.B F _:=d9 hp4;simp_all
def aWN:=fb tU pK<|bb fun F p0 p1 p2 p3 p4 p5 p6=>by
 have hp0:=aE p2 2 (by decide);have hi2:E.I F _=E.I F _:=bg hp0;have hp1:=aE p2 3 (by decide);have hi3:E.I F _=E.I F _:=bg hp1;have hp2:=aE p2 4 (by decide);have hi4:E.I F _=E.I F _:=bg hp2;have hp3:=aE p2 5 (by decide);have hi5:E.I F _=E.I F _:=bg hp3;try simp only[aa]at *
 grind
def ap5:=fb (b7::cb::br::bq::bA::b9::eQ::anS) uW<|dH fun F p0 p1 p2 p3 p4 p5 p6 p7 p8 p9 ai=>by
 have hp4:=aE p2 28 (by decide);have hi28:E.I F _=E.I F _:=bg hp4;try simp only[aa]at *
 grind
def aJH:=fb EQ ahf<|aj fun F p0 p1 p2 p3=>by
 have:=am (F:=F) (a:=iV) (b:=(.int 1))
 try simp only[aa]at *
 omega
def azY:=fb KN ahf<|aj fun F p0 p1 p2 p3=>by
 have:=am (F:=F) (a:=iV) (b:=(.int 1))
 try simp only[aa]at *
 omega
def aYt:=fb (b7::cb::br::bq::bA::b9::eQ::Su) sv<|bE fun F p0 p1 p2 p3 p4 p5 p6 p7 p8 p9=>by
 have hp3:=aE p2 27 (by decide);have hi27:E.I F _=E.I F _:=bg hp3;try simp only[aa]at *
 grind
def aOt:=fb ([b7,cb,br,bq,bA,b9,eQ,my,mQ]) qG<|bh fun F p0 p1 p2 p3 p4 p5 p6 p7 p8=>by
 have hp2:=aE p2 26 (by decide);have hb26:E.B F _=E.B F _:=d9 hp2;simp_all
def aYz:=fb ([b7,cb,br,bq,bA,b9,eQ,my]) mQ<|ba fun F p0 p1 p2 p3 p4 p5 p6 p7=>by
 have hp1:=aE p2 25 (by decide);have hb25:E.B F _=E.B F _:=d9 hp1;simp_all
def asS:=fb tV my<|bb fun F p0 p1 p2 p3 p4 p5 p6=>by
 have hp0:=aE p2 24 (by decide);have hb24:E.B F _=E.B F _:=d9 hp0;simp_all
def aHS:=fb (b7::cb::br::bq::bA::b9::dg::ajR) s8<|dH fun F p0 p1 p2 p3 p4 p5 p6 p7 p8 p9 ai=>by
 have hp4:=aE p2 14 (by decide);have hi14:E.I F _=E.I F _:=bg hp4;try simp only[aa]at *
 grind
def aw3:=fb (b7::cb::br::bq::bA::b9::dg::Pe) rk<|bE fun F p0 p1 p2 p3 p4 p5 p6 p7 p8 p9=>by
 have hp3:=aE p2 13 (by decide);have hi13:E.I F _=E.I F _:=bg hp3;try simp only[aa]at *
 grind
def aD2:=fb ([b7,cb,br,bq,bA,b9,dg,ml,oC]) qI<|bh fun F p0 p1 p2 p3 p4 p5 p6 p7 p8=>by
 have hp2:=aE p2 12 (by decide);have hb12:E.B F _=E.B F _:=d9 hp2;simp_all
def arG:=fb ([b7,cb,br,bq,bA,b9,dg,ml]) oC<|ba fun F p0 p1 p2 p3 p4 p5 p6 p7=>by
 have hp1:=aE p2 11 (by decide);have hb11:E.B F _=E.B F _:=d9 hp1;simp_all
def at5:=fb tU ml<|bb fun F p0 p1 p2 p3 p4 p5 p6=>by
 have hp0:=aE p2 10 (by decide);have hb10:E.B F _=E.B F _:=d9 hp0;simp_all
def aEz:=fb (b7::cb::br::bq::bA::b9::eQ::aar) uW<|bE fun F p0 p1 p2 p3 p4 p5 p6 p7 p8 p9=>by
 have hp3:=aE p2 28 (by decide);have hi28:E.I F _=E.I F _:=bg hp3;try simp only[aa]at *
 grind
def axk:=fb EQ acP<|aj fun F p0 p1 p2 p3=>by
 have:=am (F:=F) (a:=iV) (b:=(.int 1))
 try simp only[aa]at *
 omega
def aYs:=fb KN acP<|aj fun F p0 p1 p2 p3=>by
 have:=am (F:=F) (a:=iV) (b:=(.int 1))
 try simp only[aa]at *
 omega
def aE3:=fb (b7::cb::br::bq::bA::b9::eQ::amY) sv<|bh fun F p0 p1 p2 p3 p4 p5 p6 p7 p8=>by
 have hp2:=aE p2 27 (by decide);have hi27:E.I F _=E.I F _:=bg hp2;try simp only[aa]at *
 grind
def ape:=fb ([b7,cb,br,bq,bA,b9,eQ,mQ]) qG<|ba fun F p0 p1 p2 p3 p4 p5 p6 p7=>by
 have hp1:=aE p2 26 (by decide);have hb26:E.B F _=E.B F _:=d9 hp1;simp_all
def ay7:=fb tV mQ<|bb fun F p0 p1 p2 p3 p4 p5 p6=>by
 have hp0:=aE p2 25 (by decide);have hb25:E.B F _=E.B F _:=d9 hp0;simp_all
def aUs:=fb (b7::cb::br::bq::bA::b9::dg::ait) s8<|bE fun F p0 p1 p2 p3 p4 p5 p6 p7 p8 p9=>by
 have hp3:=aE p2 14 (by decide);have hi14:E.I F _=E.I F _:=bg hp3;try simp only[aa]at *
 grind
def aoD:=fb (b7::cb::br::bq::bA::b9::dg::WE) rk<|bh fun F p0 p1 p2 p3 p4 p5 p6 p7 p8=>by
 have hp2:=aE p2 13 (by decide);have hi13:E.I F _=E.I F _:=bg hp2;try simp only[aa]at *
 grind
def azX:=fb ([b7,cb,br,bq,bA,b9,dg,oC]) qI<|ba fun F p0 p1 p2 p3 p4 p5 p6 p7=>by
 have hp1:=aE p2 12 (by decide);have hb12:E.B F _=E.B F _:=d9 hp1;simp_all
def arB:=fb tU oC<|bb fun F p0 p1 p2 p3 p4 p5 p6=>by
 have hp0:=aE p2 11 (by decide);have hb11:E.B F _=E.B F _:=d9 hp0;simp_all
def azc:=fb (b7::cb::br::bq::bA::b9::eQ::ZQ) uW<|bh fun F p0 p1 p2 p3 p4 p5 p6 p7 p8=>by
 have hp2:=aE p2 28 (by decide);have hi28:E.I F _=E.I F _:=bg hp2;try simp only[aa]at *
 grind
def aoH:=fb ([b7,cb,br,bq,bA,b9,eQ,qG]) sv<|ba fun F p0 p1 p2 p3 p4 p5 p6 p7=>by
 have hp1:=aE p2 27 (by decide);have hi27:E.I F _=E.I F _:=bg hp1;try simp only[aa]at *
 grind
def aCs:=fb tV qG<|bb fun F p0 p1 p2 p3 p4 p5 p6=>by
 have hp0:=aE p2 26 (by decide);have hb26:E.B F _=E.B F _:=d9 hp0;simp_all
def azO:=fb (b7::cb::br::bq::bA::b9::dg::adt) s8<|bh fun F p0 p1 p2 p3 p4 p5 p6 p7 p8=>by
 have hp2:=aE p2 14 (by decide);have hi14:E.I F _=E.I F _:=bg hp2;try simp only[aa]at *
 grind
def aPA:=fb ([b7,cb,br,bq,bA,b9,dg,qI]) rk<|ba fun F p0 p1 p2 p3 p4 p5 p6 p7=>by
 have hp1:=aE p2 13 (by decide);have hi13:E.I F _=E.I F _:=bg hp1;try simp only[aa]at *
 grind
def aGT:=fb tU qI<|bb fun F p0 p1 p2 p3 p4 p5 p6=>by
 have hp0:=aE p2 12 (by decide);have hb12:E.B F _=E.B F _:=d9 hp0;simp_all
def aMR:=fb ([b7,cb,br,bq,bA,b9,eQ,sv]) uW<|ba fun F p0 p1 p2 p3 p4 p5 p6 p7=>by
 have hp1:=aE p2 28 (by decide);have hi28:E.I F _=E.I F _:=bg hp1;try simp only[aa]at *
 grind
def arC:=fb tV sv<|bb fun F p0 p1 p2 p3 p4 p5 p6=>by
 have hp0:=aE p2 27 (by decide);have hi27:E.I F _=E.I F _:=bg hp0;try simp only[aa]at *
 grind
def aXC:=fb ([b7,cb,br,bq,bA,b9,dg,rk]) s8<|ba fun F p0 p1 p2 p3 p4 p5 p6 p7=>by
 have hp1:=aE p2 14 (by decide);have hi14:E.I F _=E.I F _:=bg hp1;try simp only[aa]at *
 grind
def atN:=fb tU rk<|bb fun F p0 p1 p2 p3 p4 p5 p6=>by
 have hp0:=aE p2 13 (by decide);have hi13:E.I F _=E.I F _:=bg hp0;try simp only[aa]at *
 grind
def aRH:=fb tV uW<|bb fun F p0 p1 p2 p3 p4 p5 p6=>by
 have hp0:=aE p2 28 (by decide);have hi28:E.I F _=E.I F _:=bg hp0;try simp only[aa]at *
 grind
def aVv:=fb tU s8<|bb fun F p0 p1 p2 p3 p4 p5 p6=>by
 have hp0:=aE p2 14 (by decide);have hi14:E.I F _=E.I F _:=bg hp0;try simp only[aa]at *
 grind
def aWP:List Fa:=[asA,ayq,aBg,ap7,ar4,aEH,arD,atS,arV,axq,ao7,aUb,azt,aU0,aJT,aBD,aRR,aBR,aH9,axz,awi,asb,aIn,aqX,aKG,aTp,aOZ,aLn,aQJ,aWN,ap5,aJH,azY,aYt,aOt,aYz,asS,aHS,aw3,aD2,arG,at5,aEz,axk,aYs,aE3,ape,ay7,aUs,aoD,azX,arB,azc,aoH,aCs,azO,aPA,aGT,aMR,arC,aXC,atN,aRH,aVv]
theorem aoU:BodyOk Try.prog (DZ (some (f6 4 32))) (f6 4 32) (qL).less (qL).tmps {(qL).st with pc:=(qL).st.pc}:=
 kc good (facts:=fl aWP) (gh _) (anns:=aeZ) aLh (nats:=kP.l) kP.h (n:=3000) (by kernel_rfl) (by kernel_rfl)
theorem aTq:BodyOk Try.prog (DZ (some (f6 4 32))) (f6 4 32) (qL).less (qL).tmps (qL).st:=aoU
end
end Go.Proofs.Ytnnbmcfabojjjaa.payPlans
