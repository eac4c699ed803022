/-
  PayHolds: one reckoning by the kernel, HT contracts of functions and facts.
-/
import Derived.Test.YtnnbmcfabojjjaaRows
import Derived.Test.YtnnbmcfabojjjaaNat
import Derived.WalkKit
import Derived.ProofKit
import Derived.OpenShut
import Derived.ChangeOld
import Derived.Below
import Derived.KernelRfl
import Derived.Lib.SmallJoins
import Derived.Laws.IdiomArrays
import Derived.Test.YtnnbmcfabojjjaaPayHoldsParti
namespace Go.Proofs.Ytnnbmcfabojjjaa.payHolds
open Go.ChangeShapes Go.WideShapes Go.ChangeAt Go.RowKit
open Go.SX
open Go.SX.E (fn pr cmp var)
set_option linter.unusedVariables false
set_option linter.unusedSimpArgs false
set_option maxRecDepth 100000
noncomputable section
abbrev U0:E:=var 13
abbrev U1:E:=var 0
abbrev U2:E:=cmp .lss (.int 12) (fn 9 (pr U1 (.int 14)))
abbrev U3:E:=.not U2
abbrev U4:E:=pr U1 (fn 9 (pr U1 (.int 14)))
abbrev U5:E:=fn 155 U4
abbrev U6:E:=.imp U0 (.and U3 U5)
abbrev U7:E:=var 15
abbrev U8:E:=var 1
abbrev U9:E:=var 2
abbrev bz:E:=fn 145 (pr U8 U9)
abbrev cT:E:=var 3
abbrev cK:E:=var 4
abbrev cM:E:=var 5
abbrev cS:E:=var 6
abbrev cU:E:=var 7
abbrev bG:E:=fn 146 (pr cT (pr cK (pr cM (pr cS cU))))
abbrev cL:E:=.iff U7 (.and bz bG)
abbrev ki:E:=var 8
abbrev kg:E:=var 9
abbrev jQ:E:=var 10
abbrev jS:E:=var 11
abbrev jD:E:=var 12
abbrev Om:E:=pr U9 (.int 0)
abbrev EO:E:=pr U1 (pr U8 Om)
abbrev cq:E:=.iff (var 18) (fn 182 (pr ki (pr kg (pr jQ (pr jS (pr jD EO))))))
abbrev rO:E:=var 19
abbrev cY:E:=.iff rO (fn 182 (pr (.mn cT ki) (pr (.mn cK kg) (pr (.mn cM jQ) (pr (.mn cS jS) (pr (.mn cU jD) EO))))))
abbrev cJ:E:=var 17
abbrev v7:E:=pr cT (pr cK (pr cM (pr cS (pr cU EO))))
abbrev Ob:E:=fn 182 v7
abbrev cQ:E:=.iff cJ Ob
abbrev U32:E:=.not cJ
abbrev PX:=[bG,bz]
abbrev U34:=U32::PX
abbrev Dd:=cQ::U34
abbrev bY:E:=var 20
abbrev cb:E:=var 21
abbrev b9:E:=var 22
abbrev ck:E:=var 23
abbrev dF:E:=var 24
abbrev dM:E:=fn 183 (pr bY (pr cb (pr b9 (pr ck (pr dF v7)))))
abbrev U42:E:=pr (fn 10 (.int 0)) v7
abbrev gK:E:=fn 183 (pr bY (pr cb (pr b9 (pr ck U42))))
abbrev cy:E:=var 16
abbrev cG:E:=.iff cy (.and bz (fn 146 (pr ki (pr kg (pr jQ (pr jS jD))))))
abbrev fR:E:=cmp .eql U9 (.int 0)
abbrev gq:E:=.not fR
abbrev Ij:=[gq]
abbrev U49:=dM::Ij
abbrev U50:=bz::U49
abbrev U51:=bG::U50
abbrev Du:=cq::U51
abbrev U53:E:=cmp .lss (fn 1 (pr U8 (.int 16))) bY
abbrev RF:E:=.not U53
abbrev U55:E:=cmp .lss (fn 1 (pr U8 (.int 17))) cb
abbrev U56:E:=.not U55
abbrev U57:E:=cmp .lss (fn 1 (pr U8 (.int 18))) b9
abbrev Vf:E:=.not U57
abbrev U59:E:=cmp .lss (fn 1 (pr U8 (.int 19))) ck
abbrev U60:E:=.not U59
abbrev xQ:=[bG,bz,dM]
abbrev U62:E:=cmp .lss ck (.int 0)
abbrev U63:E:=.not U62
abbrev U64:E:=cmp .lss b9 (.int 0)
abbrev YI:E:=.not U64
abbrev U66:E:=cmp .lss cb (.int 0)
abbrev Yc:E:=.not U66
abbrev U68:E:=cmp .lss bY (.int 0)
abbrev UT:E:=.not U68
abbrev wX:=[bG,bz,dM,fR]
abbrev U71:E:=cmp .lss (fn 1 (pr U8 (.int 2))) bY
abbrev U72:E:=.not U71
abbrev U73:E:=cmp .lss (fn 1 (pr U8 (.int 3))) cb
abbrev PQ:E:=.not U73
abbrev U75:E:=cmp .lss (fn 1 (pr U8 (.int 4))) b9
abbrev U76:E:=.not U75
abbrev U77:E:=cmp .lss (fn 1 (pr U8 (.int 5))) ck
abbrev TN:E:=.not U77
abbrev U79:=gK::Ij
abbrev U80:=bz::U79
abbrev U81:=bG::U80
abbrev Eu:=cq::U81
abbrev zm:=[bG,bz,gK]
abbrev zy:=[bG,bz,gK,fR]
abbrev bW:E:=fn 116 U8
abbrev cP:E:=var 14
abbrev db:E:=.imp cP (fn 117 U8)
abbrev eE:E:=var 27
abbrev fN:E:=fn 116 eE
abbrev fM:E:=fn 198 (pr eE v7)
abbrev i9:E:=fn 116 dF
abbrev i0:E:=fn 198 (pr dF v7)
abbrev d5:E:=var 25
abbrev ef:E:=cmp .eql (fn 0 dF) d5
abbrev eN:E:=.not (cmp .lss (.int 30) d5)
abbrev tn:E:=var 26
abbrev fh:E:=.not (cmp .lss tn d5)
abbrev d8:E:=.not (cmp .lss d5 (.int 1))
abbrev Ah:E:=cmp .eql (.ar .sub .i64 (.ar .add .i64 (.ar .sub .i64 (.ar .add .i64 (.ar .sub .i64 (.ar .add .i64 (.ar .sub .i64 (.ar .add .i64 d5 (fn 1 (pr U8 (.int 16)))) bY) (fn 1 (pr U8 (.int 17)))) cb) (fn 1 (pr U8 (.int 18)))) b9) (fn 1 (pr U8 (.int 19)))) ck) (.ar .add .i64 (.ar .add .i64 (.ar .add .i64 (.ar .add .i64 cU cT) cK) cM) cS)
abbrev rQ:E:=var 28
abbrev nf:E:=.iff rQ (fn 130 eE)
abbrev Tx:E:=pr eE U9
abbrev Cp:E:=fn 145 Tx
abbrev afz:E:=pr U1 Tx
abbrev au9:E:=pr (fn 10 (.int 0)) afz
abbrev ajP:E:=fn 144 au9
abbrev Wt:E:=.imp Cp ajP
abbrev Dk:E:=pr U1 (pr U8 U9)
abbrev az0:E:=pr (fn 10 (.int 0)) Dk
abbrev aFX:E:=fn 144 az0
abbrev aaN:E:=.imp bz aFX
abbrev IL:=[aaN]
abbrev MT:=Wt::IL
abbrev aC5:=rQ::MT
abbrev H9:=nf::aC5
abbrev tv:E:=cmp .eql (.ar .sub .i64 (.int 0) d5) (.int 0)
abbrev zC:E:=var 29
abbrev azq:E:=pr zC Dk
abbrev atd:E:=fn 144 azq
abbrev fV:E:=var 30
abbrev aAZ:E:=cmp .lss (.int 30) fV
abbrev Mk:E:=.not aAZ
abbrev JF:E:=cmp .eql (fn 0 zC) fV
abbrev aDC:E:=var 31
abbrev aDQ:E:=cmp .lss aDC fV
abbrev On:E:=.not aDQ
abbrev awj:E:=cmp .lss fV (.int 1)
abbrev Ig:E:=.not awj
abbrev aqk:=[Ig]
abbrev aiQ:=On::aqk
abbrev akg:=JF::aiQ
abbrev atP:=Mk::akg
abbrev aqs:=bz::atP
abbrev aaX:=atd::aqs
abbrev abq:=Wt::aaX
abbrev an4:=rQ::abq
abbrev Mm:=nf::an4
abbrev uZ:E:=cmp .eql (.ar .sub .i64 fV d5) (.int 0)
abbrev Fe:E:=.not (var 18)
abbrev rJ:E:=var 32
abbrev atM:E:=pr U1 (pr eE Om)
abbrev aok:E:=pr jD atM
abbrev awN:E:=pr jS aok
abbrev amr:E:=pr jQ awN
abbrev aBX:E:=pr kg amr
abbrev aw7:E:=pr ki aBX
abbrev afR:E:=fn 182 aw7
abbrev at8:E:=pr zC afz
abbrev abW:E:=fn 144 at8
abbrev aBH:=Ig::IL
abbrev avv:=On::aBH
abbrev alU:=JF::avv
abbrev azG:=Mk::alU
abbrev auw:=Cp::azG
abbrev Tq:=abW::auw
abbrev akD:=rQ::Tq
abbrev JB:=nf::akD
abbrev tJ:E:=cmp .eql fV (.ar .sub .i64 (.int 0) d5)
abbrev anP:E:=pr rJ Dk
abbrev aCq:E:=fn 144 anP
abbrev lV:E:=var 33
abbrev avm:E:=cmp .lss (.int 30) lV
abbrev aBm:E:=.not avm
abbrev ant:E:=cmp .eql (fn 0 rJ) lV
abbrev aIq:E:=var 34
abbrev ak1:E:=cmp .lss aIq lV
abbrev aH3:E:=.not ak1
abbrev aI5:E:=cmp .lss lV (.int 1)
abbrev awO:E:=.not aI5
abbrev at4:=[awO]
abbrev aoa:=aH3::at4
abbrev ara:=ant::aoa
abbrev arP:=aBm::ara
abbrev atn:=bz::arP
abbrev ah4:=aCq::atn
abbrev arR:=Ig::ah4
abbrev aGb:=On::arR
abbrev aqI:=JF::aGb
abbrev aA4:=Mk::aqI
abbrev amb:=Cp::aA4
abbrev acy:=abW::amb
abbrev ayu:=rQ::acy
abbrev HK:=nf::ayu
abbrev ur:E:=cmp .eql fV (.ar .sub .i64 lV d5)
abbrev zj:E:=cmp .eql (.ar .sub .i64 (.ar .add .i64 (.ar .sub .i64 (.ar .add .i64 (.ar .sub .i64 (.ar .add .i64 (.ar .sub .i64 (.ar .add .i64 d5 (fn 1 (pr U8 (.int 2)))) bY) (fn 1 (pr U8 (.int 3)))) cb) (fn 1 (pr U8 (.int 4)))) b9) (fn 1 (pr U8 (.int 5)))) ck) (.ar .add .i64 (.ar .add .i64 (.ar .add .i64 (.ar .add .i64 cU cT) cK) cM) cS)
abbrev aAy:E:=pr U1 (pr dF Om)
abbrev aJc:E:=pr jD aAy
abbrev atD:E:=pr jS aJc
abbrev akw:E:=pr jQ atD
abbrev azn:E:=pr kg akw
abbrev ak3:E:=pr ki azn
abbrev aeJ:E:=fn 182 ak3
abbrev Ji:E:=cmp .eql (.ar .sub .i64 (.ar .add .i64 (.ar .sub .i64 (.ar .add .i64 (.ar .sub .i64 (.ar .add .i64 (.ar .sub .i64 (.ar .add .i64 (.int 0) (fn 1 (pr U8 (.int 16)))) bY) (fn 1 (pr U8 (.int 17)))) cb) (fn 1 (pr U8 (.int 18)))) b9) (fn 1 (pr U8 (.int 19)))) ck) (.ar .add .i64 (.ar .add .i64 (.ar .add .i64 (.ar .add .i64 cU cT) cK) cM) cS)
abbrev wy:E:=.iff d5 (fn 130 dF)
abbrev YT:E:=pr dF U9
abbrev Gz:E:=fn 145 YT
abbrev Xf:E:=pr U1 YT
abbrev alA:E:=pr (fn 10 (.int 0)) Xf
abbrev aFV:E:=fn 144 alA
abbrev ago:E:=.imp Gz aFV
abbrev aHt:E:=pr tn Dk
abbrev Vi:E:=fn 144 aHt
abbrev ahV:E:=cmp .lss (.int 30) eE
abbrev RX:E:=.not ahV
abbrev NO:E:=cmp .eql (fn 0 tn) eE
abbrev aH0:E:=cmp .lss rQ eE
abbrev Pc:E:=.not aH0
abbrev aHu:E:=cmp .lss eE (.int 1)
abbrev ad6:E:=.not aHu
abbrev Qo:=[ad6]
abbrev atK:=Pc::Qo
abbrev aFa:=NO::atK
abbrev aFh:=RX::aFa
abbrev aI1:=bz::aFh
abbrev aqM:=Vi::aI1
abbrev aag:=ago::aqM
abbrev anv:=d5::aag
abbrev Kl:=wy::anv
abbrev vG:E:=cmp .eql (.ar .sub .i64 eE (.int 0)) (.int 0)
abbrev acG:=NO::Qo
abbrev aD0:E:=pr tn Xf
abbrev Yy:E:=fn 144 aD0
abbrev ayJ:=ad6::aaX
abbrev akV:=Pc::ayJ
abbrev aG9:=NO::akV
abbrev aGZ:=RX::aG9
abbrev ahB:=Gz::aGZ
abbrev Th:=Yy::ahB
abbrev ayz:=d5::Th
abbrev Jl:=wy::ayz
abbrev wg:E:=cmp .eql eE (.ar .sub .i64 fV (.int 0))
abbrev KL:E:=cmp .eql (.ar .sub .i64 (.ar .add .i64 (.ar .sub .i64 (.ar .add .i64 (.ar .sub .i64 (.ar .add .i64 (.ar .sub .i64 (.ar .add .i64 (.int 0) (fn 1 (pr U8 (.int 2)))) bY) (fn 1 (pr U8 (.int 3)))) cb) (fn 1 (pr U8 (.int 4)))) b9) (fn 1 (pr U8 (.int 5)))) ck) (.ar .add .i64 (.ar .add .i64 (.ar .add .i64 (.ar .add .i64 cU cT) cK) cM) cS)
abbrev ayQ:=fM::H9
abbrev afx:=fN::ayQ
abbrev arW:=fM::Mm
abbrev Pk:=fN::arW
abbrev az7:=fM::JB
abbrev ac5:=fN::az7
abbrev ayj:=fM::HK
abbrev RV:=fN::ayj
abbrev aqi:=i0::Kl
abbrev abH:=i9::aqi
abbrev aA9:=i0::Jl
abbrev Ue:=i9::aA9
abbrev atO:=nf::MT
abbrev aAQ:=fM::atO
abbrev aa9:=fN::aAQ
abbrev aG5:=nf::abq
abbrev aky:=fM::aG5
abbrev aaG:=fN::aky
abbrev aw2:=nf::Tq
abbrev aFi:=fM::aw2
abbrev afg:=fN::aFi
abbrev aC6:=nf::acy
abbrev aF5:=fM::aC6
abbrev WQ:=fN::aF5
abbrev aCz:=wy::aag
abbrev ah3:=i0::aCz
abbrev XN:=i9::ah3
abbrev aG7:=wy::Th
abbrev axx:=i0::aG7
abbrev ags:=i9::axx
def avL:=fb ([U6,U0]) U3<|ax fun F p0 p1=>by
 simp_all
def aDw:=fb ([U6,U0]) U5<|ax fun F p0 p1=>by
 simp_all
def ax7:=fb ([cL,U7,cq,(var 18),cY]) rO<|aR fun F p0 p1 p2 p3 p4=>by
 simp_all[ayC]
def axD:=fb Dd (.not dM)<|aH fun F p0 p1 p2 p3=>by
 have:=@dt F cU U9 U8 dF U1 cT cK cM cS bY cb b9 ck
 simp_all
def aqa:=fb Dd (.not gK)<|aH fun F p0 p1 p2 p3=>by
 have:=@dt F cU U9 U8 (fn 10 (.int 0)) U1 cT cK cM cS bY cb b9 ck
 simp_all
def asB:=fb Dd (.not (fn 183 (pr rO (pr bY (pr cb (pr b9 (pr ck v7)))))))<|aH fun F p0 p1 p2 p3=>by
 have:=@dt F cU U9 U8 ck U1 cT cK cM cS rO bY cb b9
 simp_all
def aGX:=fb Dd (.not (fn 183 (pr rO (pr bY (pr cb (pr b9 U42))))))<|aH fun F p0 p1 p2 p3=>by
 have:=@dt F cU U9 U8 (fn 10 (.int 0)) U1 cT cK cM cS rO bY cb b9
 simp_all
def aDz:=fb ([cL,U7,cG,cy,cQ,cJ,cY]) rO<|de fun F p0 p1 p2 p3 p4 p5 p6=>by
 simp_all[atJ]
def aqr:=fb (bz::Ij) (cmp .eql U9 (.int 1))<|ax fun F p0 p1=>by
 have:=@dN F U9 U8
 try simp only[aa]at *
 grind
def aAt:=fb (cQ::cJ::PX) (.not (fn 177 (pr (.int 4) (pr cU (pr cT (pr cK (pr cM (pr cS EO))))))))<|aH fun F p0 p1 p2 p3=>by
 simp_all[qh]
def ava:=fb ([cL,U7]) (.and bz bG)<|ax fun F p0 p1=>by
 simp_all
def ayM:=fb Du RF<|aR fun F p0 p1 p2 p3 p4=>by
 have:=@dN F U9 U8
 have:=@dt F cU U9 U8 dF U1 cT cK cM cS bY cb b9 ck
 have:=@mO F U9 U8 U1
 try simp only[aa]at *
 grind
def aIp:=fb Du U56<|aR fun F p0 p1 p2 p3 p4=>by
 have:=@dN F U9 U8
 have:=@dt F cU U9 U8 dF U1 cT cK cM cS bY cb b9 ck
 have:=@mO F U9 U8 U1
 try simp only[aa]at *
 grind
def aBz:=fb Du Vf<|aR fun F p0 p1 p2 p3 p4=>by
 have:=@dN F U9 U8
 have:=@dt F cU U9 U8 dF U1 cT cK cM cS bY cb b9 ck
 have:=@mO F U9 U8 U1
 try simp only[aa]at *
 grind
def apa:=fb Du U60<|aR fun F p0 p1 p2 p3 p4=>by
 have:=@dN F U9 U8
 have:=@dt F cU U9 U8 dF U1 cT cK cM cS bY cb b9 ck
 have:=@mO F U9 U8 U1
 try simp only[aa]at *
 grind
def aAn:=fb xQ Ob<|am fun F p0 p1 p2=>by
 have:=@dt F cU U9 U8 dF U1 cT cK cM cS bY cb b9 ck
 simp_all
def aoP:=fb xQ U63<|am fun F p0 p1 p2=>by
 have:=@dt F cU U9 U8 dF U1 cT cK cM cS bY cb b9 ck
 try simp only[aa]at *
 grind
def atU:=fb xQ YI<|am fun F p0 p1 p2=>by
 have:=@dt F cU U9 U8 dF U1 cT cK cM cS bY cb b9 ck
 try simp only[aa]at *
 grind
def al6:=fb xQ Yc<|am fun F p0 p1 p2=>by
 have:=@dt F cU U9 U8 dF U1 cT cK cM cS bY cb b9 ck
 try simp only[aa]at *
 grind
def axm:=fb xQ UT<|am fun F p0 p1 p2=>by
 have:=@dt F cU U9 U8 dF U1 cT cK cM cS bY cb b9 ck
 try simp only[aa]at *
 grind
def aqf:=fb wX U72<|aH fun F p0 p1 p2 p3=>by
 have:=@dt F cU U9 U8 dF U1 cT cK cM cS bY cb b9 ck
 have:=@mA F U9 U8 U1
 try simp only[aa]at *
 grind
def aAC:=fb wX PQ<|aH fun F p0 p1 p2 p3=>by
 have:=@dt F cU U9 U8 dF U1 cT cK cM cS bY cb b9 ck
 have:=@mA F U9 U8 U1
 try simp only[aa]at *
 grind
def arY:=fb wX U76<|aH fun F p0 p1 p2 p3=>by
 have:=@dt F cU U9 U8 dF U1 cT cK cM cS bY cb b9 ck
 have:=@mA F U9 U8 U1
 try simp only[aa]at *
 grind
def akp:=fb wX TN<|aH fun F p0 p1 p2 p3=>by
 have:=@dt F cU U9 U8 dF U1 cT cK cM cS bY cb b9 ck
 have:=@mA F U9 U8 U1
 try simp only[aa]at *
 grind
def aqh:=fb Eu RF<|aR fun F p0 p1 p2 p3 p4=>by
 have:=@dN F U9 U8
 have:=@dt F cU U9 U8 (fn 10 (.int 0)) U1 cT cK cM cS bY cb b9 ck
 have:=@mO F U9 U8 U1
 try simp only[aa]at *
 grind
def anH:=fb Eu U56<|aR fun F p0 p1 p2 p3 p4=>by
 have:=@dN F U9 U8
 have:=@dt F cU U9 U8 (fn 10 (.int 0)) U1 cT cK cM cS bY cb b9 ck
 have:=@mO F U9 U8 U1
 try simp only[aa]at *
 grind
def aCL:=fb Eu Vf<|aR fun F p0 p1 p2 p3 p4=>by
 have:=@dN F U9 U8
 have:=@dt F cU U9 U8 (fn 10 (.int 0)) U1 cT cK cM cS bY cb b9 ck
 have:=@mO F U9 U8 U1
 try simp only[aa]at *
 grind
def aui:=fb Eu U60<|aR fun F p0 p1 p2 p3 p4=>by
 have:=@dN F U9 U8
 have:=@dt F cU U9 U8 (fn 10 (.int 0)) U1 cT cK cM cS bY cb b9 ck
 have:=@mO F U9 U8 U1
 try simp only[aa]at *
 grind
def azR:=fb zm Ob<|am fun F p0 p1 p2=>by
 have:=@dt F cU U9 U8 (fn 10 (.int 0)) U1 cT cK cM cS bY cb b9 ck
 simp_all
def auA:=fb zm U63<|am fun F p0 p1 p2=>by
 have:=@dt F cU U9 U8 (fn 10 (.int 0)) U1 cT cK cM cS bY cb b9 ck
 try simp only[aa]at *
 grind
def aq2:=fb zm YI<|am fun F p0 p1 p2=>by
 have:=@dt F cU U9 U8 (fn 10 (.int 0)) U1 cT cK cM cS bY cb b9 ck
 try simp only[aa]at *
 grind
def arD:=fb zm Yc<|am fun F p0 p1 p2=>by
 have:=@dt F cU U9 U8 (fn 10 (.int 0)) U1 cT cK cM cS bY cb b9 ck
 try simp only[aa]at *
 grind
def al4:=fb zm UT<|am fun F p0 p1 p2=>by
 have:=@dt F cU U9 U8 (fn 10 (.int 0)) U1 cT cK cM cS bY cb b9 ck
 try simp only[aa]at *
 grind
def akh:=fb zy U72<|aH fun F p0 p1 p2 p3=>by
 have:=@dt F cU U9 U8 (fn 10 (.int 0)) U1 cT cK cM cS bY cb b9 ck
 have:=@mA F U9 U8 U1
 try simp only[aa]at *
 grind
def awn:=fb zy PQ<|aH fun F p0 p1 p2 p3=>by
 have:=@dt F cU U9 U8 (fn 10 (.int 0)) U1 cT cK cM cS bY cb b9 ck
 have:=@mA F U9 U8 U1
 try simp only[aa]at *
 grind
def akA:=fb zy U76<|aH fun F p0 p1 p2 p3=>by
 have:=@dt F cU U9 U8 (fn 10 (.int 0)) U1 cT cK cM cS bY cb b9 ck
 have:=@mA F U9 U8 U1
 try simp only[aa]at *
 grind
def av3:=fb zy TN<|aH fun F p0 p1 p2 p3=>by
 have:=@dt F cU U9 U8 (fn 10 (.int 0)) U1 cT cK cM cS bY cb b9 ck
 have:=@mA F U9 U8 U1
 try simp only[aa]at *
 grind
def aCP:=fb ([bW,db,cP,bG,bz,fN,fM]) (fn 117 eE)<|de fun F p0 p1 p2 p3 p4 p5 p6=>by
 have:=dZ p6 p5 p0
 simp_all
def ato:=fb ([bW,db,cP,bG,bz,i9,i0]) (fn 117 dF)<|de fun F p0 p1 p2 p3 p4 p5 p6=>by
 have:=dZ p6 p5 p0
 simp_all
def aEl:=fb (bW::U6::U0::db::cP::cL::U7::cG::cy::cQ::cq::cJ::cY::ef::eN::fh::d8::bG::bz::dM::gq::fN::fM::Ah::H9) tv<|zq fun F p0 p1 p2 p3 p4 p5 p6 p7 p8 p9 aj ak ao aq av az aG ap au aF aL aD aE aO aQ aV bb bp=>by
 have:=cV aE aD p0 au ap aF
 have:=(dZ aE aD p0 au ap).1
 have:=@bg F (fn 10 (.int 0)) U9 eE U1
 have:=@bg F (fn 10 (.int 0)) U9 U8 U1
 try simp only[aa]at *
 grind
def alj:=fb (bW::ef::d8::bG::bz::dM::fN::fM::MT) (.not zC)<|iD fun F p0 p1 p2 p3 p4 p5 p6 p7 p8 p9=>by
 have:=cV p7 p6 p0 p4 p3 p5
 have:=dZ p7 p6 p0
 have:=@bg F (fn 10 (.int 0)) U9 eE U1
 have:=@bg F (fn 10 (.int 0)) U9 U8 U1
 try simp only[aa]at *
 grind
def asb:=fb (bW::U6::U0::db::cP::cL::U7::cG::cy::cQ::cq::cJ::cY::ef::eN::fh::d8::bG::bz::dM::gq::fN::fM::Ah::Mm) uZ<|qt fun F p0 p1 p2 p3 p4 p5 p6 p7 p8 p9 aj ak ao aq av az aG ap au aF aL aD aE aO aQ aV bb bp bD bL bO ce df=>by
 have:=cV aE aD p0 au ap aF
 have:=(dZ aE aD p0 au ap).1
 have:=bg bp
 have:=@bg F (fn 10 (.int 0)) U9 eE U1
 have:=@dY F (.int 0)
 try simp only[aa,ae]at *
 obtain⟨a32,ea32,qa32⟩:=ab ((E.I F fV)-(E.I F d5))
 grind
def aDP:=fb ([bW,cG,cy,cq,bG,bz,fN,fM,Fe,(.iff rJ afR)]) (.not rJ)<|iD fun F p0 p1 p2 p3 p4 p5 p6 p7 p8 p9=>by
 have:=@kp F jD U9 U8 U1 ki kg jQ jS
 have:=@kp F jD U9 eE U1 ki kg jQ jS
 have:=dZ p7 p6 p0
 try simp only[aa]at *
 grind
def amF:=fb (bW::U6::U0::db::cP::cL::U7::cG::cy::cQ::cq::cJ::cY::ef::eN::fh::d8::bG::bz::dM::gq::fN::fM::Ah::JB) tJ<|qt fun F p0 p1 p2 p3 p4 p5 p6 p7 p8 p9 aj ak ao aq av az aG ap au aF aL aD aE aO aQ aV bb bp bD bL bO ce df=>by
 have:=cV aE aD p0 au ap aF
 have:=bg bb
 have:=@bg F (fn 10 (.int 0)) U9 U8 U1
 have:=@dY F (.int 0)
 try simp only[aa]at *
 grind
def avg:=fb (ef::d8::bG::bz::dM::IL) (.not rJ)<|cr fun F p0 p1 p2 p3 p4 p5=>by
 have:=@dt F cU U9 U8 dF U1 cT cK cM cS bY cb b9 ck
 have:=@bg F (fn 10 (.int 0)) U9 U8 U1
 have:=@dY F (.int 0)
 try simp only[aa]at *
 grind
def ajA:=fb (bW::U6::U0::db::cP::cL::U7::cG::cy::cQ::cq::cJ::cY::ef::eN::fh::d8::bG::bz::dM::gq::fN::fM::Ah::HK) ur<|Yv fun F p0 p1 p2 p3 p4 p5 p6 p7 p8 p9 aj ak ao aq av az aG ap au aF aL aD aE aO aQ aV bb bp bD bL bO ce df eJ fC gp iK lH=>by
 have:=cV aE aD p0 au ap aF
 have:=bg bb
 have:=bg df
 try simp only[aa,ae]at *
 obtain⟨a35,ea35,qa35⟩:=ab ((E.I F lV)-(E.I F d5))
 omega
def ame:=fb ([bW,cG,cy,cq,bG,bz,fN,fM,Cp,Fe,(.iff (var 35) afR)]) (.not (var 35))<|iu fun F p0 p1 p2 p3 p4 p5 p6 p7 p8 p9 aj=>by
 have:=@kp F jD U9 U8 U1 ki kg jQ jS
 have:=@kp F jD U9 eE U1 ki kg jQ jS
 have:=dZ p7 p6 p0
 try simp only[aa]at *
 grind
def aGq:=fb ([bW,bG,bz,fN,fM,nf]) rQ<|cr fun F p0 p1 p2 p3 p4 p5=>by
 have:=dZ p4 p3 p0
 simp_all
def asN:=fb (ef::eN::d8::U51) Ah<|de fun F p0 p1 p2 p3 p4 p5 p6=>by
 have:=dt p5 p4 p3
 have:=Eq.mp dN p4
 have:=@mO F U9 U8 U1
 have:=@ij F _ _ U1 p4 0 (by decide)
 have:=@ij F _ _ U1 p4 1 (by decide)
 have:=@ij F _ _ U1 p4 2 (by decide)
 have:=@ij F _ _ U1 p4 3 (by decide)
 have:=@Ba F d5 bY cb b9 ck (fn 1 (pr U8 (.int 16))) (fn 1 (pr U8 (.int 17))) (fn 1 (pr U8 (.int 18))) (fn 1 (pr U8 (.int 19)))
 have:=Ej p3
 try simp only[aa]at *
 omega
def aie:=fb (bW::U6::U0::db::cP::cL::U7::cG::cy::cQ::cq::cJ::cY::ef::eN::fh::d8::bG::bz::dM::fR::fN::fM::zj::H9) tv<|zq fun F p0 p1 p2 p3 p4 p5 p6 p7 p8 p9 aj ak ao aq av az aG ap au aF aL aD aE aO aQ aV bb bp=>by
 have:=cV aE aD p0 au ap aF
 have:=(dZ aE aD p0 au ap).1
 have:=@bg F (fn 10 (.int 0)) U9 eE U1
 have:=@bg F (fn 10 (.int 0)) U9 U8 U1
 try simp only[aa]at *
 grind
def ap5:=fb (bW::U6::U0::db::cP::cL::U7::cG::cy::cQ::cq::cJ::cY::ef::eN::fh::d8::bG::bz::dM::fR::fN::fM::zj::Mm) uZ<|qt fun F p0 p1 p2 p3 p4 p5 p6 p7 p8 p9 aj ak ao aq av az aG ap au aF aL aD aE aO aQ aV bb bp bD bL bO ce df=>by
 have:=cV aE aD p0 au ap aF
 have:=(dZ aE aD p0 au ap).1
 have:=bg bp
 have:=@bg F (fn 10 (.int 0)) U9 eE U1
 have:=@dY F (.int 0)
 try simp only[aa,ae]at *
 obtain⟨a32,ea32,qa32⟩:=ab ((E.I F fV)-(E.I F d5))
 grind
def aiN:=fb (bW::U6::U0::db::cP::cL::U7::cG::cy::cQ::cq::cJ::cY::ef::eN::fh::d8::bG::bz::dM::fR::fN::fM::zj::JB) tJ<|qt fun F p0 p1 p2 p3 p4 p5 p6 p7 p8 p9 aj ak ao aq av az aG ap au aF aL aD aE aO aQ aV bb bp bD bL bO ce df=>by
 have:=cV aE aD p0 au ap aF
 have:=bg bb
 have:=@bg F (fn 10 (.int 0)) U9 U8 U1
 have:=@dY F (.int 0)
 try simp only[aa]at *
 grind
def aob:=fb (bW::U6::U0::db::cP::cL::U7::cG::cy::cQ::cq::cJ::cY::ef::eN::fh::d8::bG::bz::dM::fR::fN::fM::zj::HK) ur<|Yv fun F p0 p1 p2 p3 p4 p5 p6 p7 p8 p9 aj ak ao aq av az aG ap au aF aL aD aE aO aQ aV bb bp bD bL bO ce df eJ fC gp iK lH=>by
 have:=cV aE aD p0 au ap aF
 have:=bg bb
 have:=bg df
 try simp only[aa,ae]at *
 obtain⟨a35,ea35,qa35⟩:=ab ((E.I F lV)-(E.I F d5))
 omega
def asy:=fb (ef::eN::d8::wX) zj<|de fun F p0 p1 p2 p3 p4 p5 p6=>by
 have:=dt p5 p4 p3
 have:=@mA F U9 U8 U1
 have:=@ij F _ _ U1 p4 0 (by decide)
 have:=@ij F _ _ U1 p4 1 (by decide)
 have:=@ij F _ _ U1 p4 2 (by decide)
 have:=@ij F _ _ U1 p4 3 (by decide)
 have:=@Ba F d5 bY cb b9 ck (fn 1 (pr U8 (.int 2))) (fn 1 (pr U8 (.int 3))) (fn 1 (pr U8 (.int 4))) (fn 1 (pr U8 (.int 5)))
 have:=Ej p3
 try simp only[aa]at *
 omega
def ayE:=fb ([bW,cG,cy,cq,bG,bz,i9,i0,Fe,(.iff tn aeJ)]) (.not tn)<|iD fun F p0 p1 p2 p3 p4 p5 p6 p7 p8 p9=>by
 have:=@kp F jD U9 U8 U1 ki kg jQ jS
 have:=@kp F jD U9 dF U1 ki kg jQ jS
 have:=dZ p7 p6 p0
 try simp only[aa]at *
 grind
def aIo:=fb (bW::U6::U0::db::cP::cL::U7::cG::cy::cQ::cq::cJ::cY::bG::bz::gK::gq::i9::i0::Ji::Kl) vG<|MO fun F p0 p1 p2 p3 p4 p5 p6 p7 p8 p9 aj ak ao aq av az aG ap au aF aL aD aE aO aQ aV bb bp bD=>by
 have:=cV au ap p0 av aq az
 have:=(dZ au ap p0 av aq).1
 have:=@dY F (.int 0)
 have:=bg aO
 have:=@bg F (fn 10 (.int 0)) U9 dF U1
 try simp only[aa]at *
 simp_all
def ayD:=fb (bW::bG::bz::gK::i9::i0::ago::Vi::acG) (.not zC)<|iD fun F p0 p1 p2 p3 p4 p5 p6 p7 p8 p9=>by
 have:=cV p5 p4 p0 p2 p1 p3
 have:=bg p7
 have:=dZ p5 p4 p0
 have:=@bg F (fn 10 (.int 0)) U9 dF U1
 have:=@dY F (.int 0)
 try simp only[aa]at *
 grind
def aHe:=fb (bW::bG::bz::gK::i9::i0::Yy::acG) (.not aaN)<|eB fun F p0 p1 p2 p3 p4 p5 p6 p7 p8=>by
 have:=cV p5 p4 p0 p2 p1 p3
 have:=bg p6
 have:=@bg F (fn 10 (.int 0)) U9 U8 U1
 try simp only[aa]at *
 grind
def ax3:=fb (bW::U6::U0::db::cP::cL::U7::cG::cy::cQ::cq::cJ::cY::bG::bz::gK::gq::i9::i0::Ji::Jl) wg<|QL fun F p0 p1 p2 p3 p4 p5 p6 p7 p8 p9 aj ak ao aq av az aG ap au aF aL aD aE aO aQ aV bb bp bD bL bO ce df eJ=>by
 have:=cV au ap p0 av aq az
 have:=@dY F (.int 0)
 have:=bg aE
 have:=bg bD
 try simp only[aa,ae]at *
 obtain⟨a32,ea32,qa32⟩:=ab ((E.I F fV)-(0))
 omega
def ani:=fb ([bW,cG,cy,cq,bG,bz,i9,i0,Gz,Fe,(.iff rJ aeJ)]) (.not rJ)<|iu fun F p0 p1 p2 p3 p4 p5 p6 p7 p8 p9 aj=>by
 have:=@kp F jD U9 U8 U1 ki kg jQ jS
 have:=@kp F jD U9 dF U1 ki kg jQ jS
 have:=dZ p7 p6 p0
 try simp only[aa]at *
 grind
def aIs:=fb ([bW,bG,bz,i9,i0,wy]) d5<|cr fun F p0 p1 p2 p3 p4 p5=>by
 have:=dZ p4 p3 p0
 simp_all
def aH9:=fb U81 Ji<|aH fun F p0 p1 p2 p3=>by
 have:=dt p2 p1 p0
 have:=Eq.mp dN p1
 have:=@mO F U9 U8 U1
 have:=@ij F _ _ U1 p1 0 (by decide)
 have:=@ij F _ _ U1 p1 1 (by decide)
 have:=@ij F _ _ U1 p1 2 (by decide)
 have:=@ij F _ _ U1 p1 3 (by decide)
 have:=@dY F (.int 0)
 have:=@Ba F (.int 0) bY cb b9 ck (fn 1 (pr U8 (.int 16))) (fn 1 (pr U8 (.int 17))) (fn 1 (pr U8 (.int 18))) (fn 1 (pr U8 (.int 19)))
 have:=Ej p0
 try simp only[aa]at *
 omega
def aI0:=fb (bW::U6::U0::db::cP::cL::U7::cG::cy::cQ::cq::cJ::cY::bG::bz::gK::fR::i9::i0::KL::Kl) vG<|MO fun F p0 p1 p2 p3 p4 p5 p6 p7 p8 p9 aj ak ao aq av az aG ap au aF aL aD aE aO aQ aV bb bp bD=>by
 have:=cV au ap p0 av aq az
 have:=(dZ au ap p0 av aq).1
 have:=@dY F (.int 0)
 have:=bg aO
 have:=@bg F (fn 10 (.int 0)) U9 dF U1
 try simp only[aa]at *
 simp_all
def aE4:=fb (bW::U6::U0::db::cP::cL::U7::cG::cy::cQ::cq::cJ::cY::bG::bz::gK::fR::i9::i0::KL::Jl) wg<|QL fun F p0 p1 p2 p3 p4 p5 p6 p7 p8 p9 aj ak ao aq av az aG ap au aF aL aD aE aO aQ aV bb bp bD bL bO ce df eJ=>by
 have:=cV au ap p0 av aq az
 have:=@dY F (.int 0)
 have:=bg aE
 have:=bg bD
 try simp only[aa,ae]at *
 obtain⟨a32,ea32,qa32⟩:=ab ((E.I F fV)-(0))
 omega
def aBS:=fb zy KL<|aH fun F p0 p1 p2 p3=>by
 have:=dt p2 p1 p0
 have:=@mA F U9 U8 U1
 have:=@ij F _ _ U1 p1 0 (by decide)
 have:=@ij F _ _ U1 p1 1 (by decide)
 have:=@ij F _ _ U1 p1 2 (by decide)
 have:=@ij F _ _ U1 p1 3 (by decide)
 have:=@dY F (.int 0)
 have:=@Ba F (.int 0) bY cb b9 ck (fn 1 (pr U8 (.int 2))) (fn 1 (pr U8 (.int 3))) (fn 1 (pr U8 (.int 4))) (fn 1 (pr U8 (.int 5)))
 have:=Ej p0
 try simp only[aa]at *
 omega
def ap0:=fb (bW::U6::U0::db::cP::cL::U7::cG::cy::cQ::cq::cJ::cY::ef::eN::fh::d8::bG::bz::dM::gq::afx) tv<|vC fun F p0 p1 p2 p3 p4 p5 p6 p7 p8 p9 aj ak ao aq av az aG ap au aF aL aD aE aO aQ aV bb=>by
 have:=cV aE aD p0 au ap aF
 have:=(dZ aE aD p0 au ap).1
 have:=@bg F (fn 10 (.int 0)) U9 eE U1
 have:=@bg F (fn 10 (.int 0)) U9 U8 U1
 try simp only[aa]at *
 grind
def ase:=fb (bW::U6::U0::db::cP::cL::U7::cG::cy::cQ::cq::cJ::cY::ef::eN::fh::d8::bG::bz::dM::gq::Pk) uZ<|u6 fun F p0 p1 p2 p3 p4 p5 p6 p7 p8 p9 aj ak ao aq av az aG ap au aF aL aD aE aO aQ aV bb bp bD bL bO ce=>by
 have:=cV aE aD p0 au ap aF
 have:=(dZ aE aD p0 au ap).1
 have:=bg bb
 have:=@bg F (fn 10 (.int 0)) U9 eE U1
 have:=@dY F (.int 0)
 try simp only[aa,ae]at *
 obtain⟨a7,ea7,qa7⟩:=ab ((E.I F fV)-(E.I F d5))
 grind
def apC:=fb (bW::U6::U0::db::cP::cL::U7::cG::cy::cQ::cq::cJ::cY::ef::eN::fh::d8::bG::bz::dM::gq::ac5) tJ<|u6 fun F p0 p1 p2 p3 p4 p5 p6 p7 p8 p9 aj ak ao aq av az aG ap au aF aL aD aE aO aQ aV bb bp bD bL bO ce=>by
 have:=cV aE aD p0 au ap aF
 have:=bg aV
 have:=@bg F (fn 10 (.int 0)) U9 U8 U1
 have:=@dY F (.int 0)
 try simp only[aa]at *
 grind
def amY:=fb (bW::U6::U0::db::cP::cL::U7::cG::cy::cQ::cq::cJ::cY::ef::eN::fh::d8::bG::bz::dM::gq::RV) ur<|Rm fun F p0 p1 p2 p3 p4 p5 p6 p7 p8 p9 aj ak ao aq av az aG ap au aF aL aD aE aO aQ aV bb bp bD bL bO ce df eJ fC gp iK=>by
 have:=cV aE aD p0 au ap aF
 have:=bg aV
 have:=bg ce
 try simp only[aa,ae]at *
 obtain⟨a10,ea10,qa10⟩:=ab ((E.I F lV)-(E.I F d5))
 omega
def anx:=fb (bW::U6::U0::db::cP::cL::U7::cG::cy::cQ::cq::cJ::cY::ef::eN::fh::d8::bG::bz::dM::fR::afx) tv<|vC fun F p0 p1 p2 p3 p4 p5 p6 p7 p8 p9 aj ak ao aq av az aG ap au aF aL aD aE aO aQ aV bb=>by
 have:=cV aE aD p0 au ap aF
 have:=(dZ aE aD p0 au ap).1
 have:=@bg F (fn 10 (.int 0)) U9 eE U1
 have:=@bg F (fn 10 (.int 0)) U9 U8 U1
 try simp only[aa]at *
 grind
def av5:=fb (bW::U6::U0::db::cP::cL::U7::cG::cy::cQ::cq::cJ::cY::ef::eN::fh::d8::bG::bz::dM::fR::Pk) uZ<|u6 fun F p0 p1 p2 p3 p4 p5 p6 p7 p8 p9 aj ak ao aq av az aG ap au aF aL aD aE aO aQ aV bb bp bD bL bO ce=>by
 have:=cV aE aD p0 au ap aF
 have:=(dZ aE aD p0 au ap).1
 have:=bg bb
 have:=@bg F (fn 10 (.int 0)) U9 eE U1
 have:=@dY F (.int 0)
 try simp only[aa,ae]at *
 obtain⟨a7,ea7,qa7⟩:=ab ((E.I F fV)-(E.I F d5))
 grind
def aqd:=fb (bW::U6::U0::db::cP::cL::U7::cG::cy::cQ::cq::cJ::cY::ef::eN::fh::d8::bG::bz::dM::fR::ac5) tJ<|u6 fun F p0 p1 p2 p3 p4 p5 p6 p7 p8 p9 aj ak ao aq av az aG ap au aF aL aD aE aO aQ aV bb bp bD bL bO ce=>by
 have:=cV aE aD p0 au ap aF
 have:=bg aV
 have:=@bg F (fn 10 (.int 0)) U9 U8 U1
 have:=@dY F (.int 0)
 try simp only[aa]at *
 grind
def aCF:=fb (bW::U6::U0::db::cP::cL::U7::cG::cy::cQ::cq::cJ::cY::ef::eN::fh::d8::bG::bz::dM::fR::RV) ur<|Rm fun F p0 p1 p2 p3 p4 p5 p6 p7 p8 p9 aj ak ao aq av az aG ap au aF aL aD aE aO aQ aV bb bp bD bL bO ce df eJ fC gp iK=>by
 have:=cV aE aD p0 au ap aF
 have:=bg aV
 have:=bg ce
 try simp only[aa,ae]at *
 obtain⟨a10,ea10,qa10⟩:=ab ((E.I F lV)-(E.I F d5))
 omega
def arc:=fb (bW::U6::U0::db::cP::cL::U7::cG::cy::cQ::cq::cJ::cY::bG::bz::gK::gq::abH) vG<|zq fun F p0 p1 p2 p3 p4 p5 p6 p7 p8 p9 aj ak ao aq av az aG ap au aF aL aD aE aO aQ aV bb bp=>by
 have:=cV au ap p0 av aq az
 have:=(dZ au ap p0 av aq).1
 have:=@dY F (.int 0)
 have:=bg aE
 have:=@bg F (fn 10 (.int 0)) U9 dF U1
 try simp only[aa]at *
 simp_all
def asf:=fb (bW::U6::U0::db::cP::cL::U7::cG::cy::cQ::cq::cJ::cY::bG::bz::gK::gq::Ue) wg<|qt fun F p0 p1 p2 p3 p4 p5 p6 p7 p8 p9 aj ak ao aq av az aG ap au aF aL aD aE aO aQ aV bb bp bD bL bO ce df=>by
 have:=cV au ap p0 av aq az
 have:=@dY F (.int 0)
 have:=bg aD
 have:=bg bp
 try simp only[aa,ae]at *
 obtain⟨a7,ea7,qa7⟩:=ab ((E.I F fV)-(0))
 omega
def aFw:=fb (bW::U6::U0::db::cP::cL::U7::cG::cy::cQ::cq::cJ::cY::bG::bz::gK::fR::abH) vG<|zq fun F p0 p1 p2 p3 p4 p5 p6 p7 p8 p9 aj ak ao aq av az aG ap au aF aL aD aE aO aQ aV bb bp=>by
 have:=cV au ap p0 av aq az
 have:=(dZ au ap p0 av aq).1
 have:=@dY F (.int 0)
 have:=bg aE
 have:=@bg F (fn 10 (.int 0)) U9 dF U1
 try simp only[aa]at *
 simp_all
def aAK:=fb (bW::U6::U0::db::cP::cL::U7::cG::cy::cQ::cq::cJ::cY::bG::bz::gK::fR::Ue) wg<|qt fun F p0 p1 p2 p3 p4 p5 p6 p7 p8 p9 aj ak ao aq av az aG ap au aF aL aD aE aO aQ aV bb bp bD bL bO ce df=>by
 have:=cV au ap p0 av aq az
 have:=@dY F (.int 0)
 have:=bg aD
 have:=bg bp
 try simp only[aa,ae]at *
 obtain⟨a7,ea7,qa7⟩:=ab ((E.I F fV)-(0))
 omega
def awQ:=fb (bW::U6::U0::db::cP::cL::U7::cG::cy::cQ::cq::cJ::cY::ef::eN::fh::d8::bG::bz::dM::gq::aa9) tv<|Ev fun F p0 p1 p2 p3 p4 p5 p6 p7 p8 p9 aj ak ao aq av az aG ap au aF aL aD aE aO aQ aV=>by
 have:=cV aE aD p0 au ap aF
 have:=(dZ aE aD p0 au ap).1
 have:=@bg F (fn 10 (.int 0)) U9 eE U1
 have:=@bg F (fn 10 (.int 0)) U9 U8 U1
 try simp only[aa]at *
 grind
def aF1:=fb (bW::U6::U0::db::cP::cL::U7::cG::cy::cQ::cq::cJ::cY::ef::eN::fh::d8::bG::bz::dM::gq::aaG) uZ<|yK fun F p0 p1 p2 p3 p4 p5 p6 p7 p8 p9 aj ak ao aq av az aG ap au aF aL aD aE aO aQ aV bb bp bD bL bO=>by
 have:=cV aE aD p0 au ap aF
 have:=(dZ aE aD p0 au ap).1
 have:=bg aV
 have:=@bg F (fn 10 (.int 0)) U9 eE U1
 have:=@dY F (.int 0)
 try simp only[aa,ae]at *
 obtain⟨a7,ea7,qa7⟩:=ab ((E.I F fV)-(E.I F d5))
 grind
def aHN:=fb (bW::U6::U0::db::cP::cL::U7::cG::cy::cQ::cq::cJ::cY::ef::eN::fh::d8::bG::bz::dM::gq::afg) tJ<|yK fun F p0 p1 p2 p3 p4 p5 p6 p7 p8 p9 aj ak ao aq av az aG ap au aF aL aD aE aO aQ aV bb bp bD bL bO=>by
 have:=cV aE aD p0 au ap aF
 have:=bg aQ
 have:=@bg F (fn 10 (.int 0)) U9 U8 U1
 have:=@dY F (.int 0)
 try simp only[aa]at *
 grind
def asL:=fb (bW::U6::U0::db::cP::cL::U7::cG::cy::cQ::cq::cJ::cY::ef::eN::fh::d8::bG::bz::dM::gq::WQ) ur<|OD fun F p0 p1 p2 p3 p4 p5 p6 p7 p8 p9 aj ak ao aq av az aG ap au aF aL aD aE aO aQ aV bb bp bD bL bO ce df eJ fC gp=>by
 have:=cV aE aD p0 au ap aF
 have:=bg aQ
 have:=bg bO
 try simp only[aa,ae]at *
 obtain⟨a10,ea10,qa10⟩:=ab ((E.I F lV)-(E.I F d5))
 omega
def anG:=fb (bW::U6::U0::db::cP::cL::U7::cG::cy::cQ::cq::cJ::cY::ef::eN::fh::d8::bG::bz::dM::fR::aa9) tv<|Ev fun F p0 p1 p2 p3 p4 p5 p6 p7 p8 p9 aj ak ao aq av az aG ap au aF aL aD aE aO aQ aV=>by
 have:=cV aE aD p0 au ap aF
 have:=(dZ aE aD p0 au ap).1
 have:=@bg F (fn 10 (.int 0)) U9 eE U1
 have:=@bg F (fn 10 (.int 0)) U9 U8 U1
 try simp only[aa]at *
 grind
def aAq:=fb (bW::U6::U0::db::cP::cL::U7::cG::cy::cQ::cq::cJ::cY::ef::eN::fh::d8::bG::bz::dM::fR::aaG) uZ<|yK fun F p0 p1 p2 p3 p4 p5 p6 p7 p8 p9 aj ak ao aq av az aG ap au aF aL aD aE aO aQ aV bb bp bD bL bO=>by
 have:=cV aE aD p0 au ap aF
 have:=(dZ aE aD p0 au ap).1
 have:=bg aV
 have:=@bg F (fn 10 (.int 0)) U9 eE U1
 have:=@dY F (.int 0)
 try simp only[aa,ae]at *
 obtain⟨a7,ea7,qa7⟩:=ab ((E.I F fV)-(E.I F d5))
 grind
def aHx:=fb (bW::U6::U0::db::cP::cL::U7::cG::cy::cQ::cq::cJ::cY::ef::eN::fh::d8::bG::bz::dM::fR::afg) tJ<|yK fun F p0 p1 p2 p3 p4 p5 p6 p7 p8 p9 aj ak ao aq av az aG ap au aF aL aD aE aO aQ aV bb bp bD bL bO=>by
 have:=cV aE aD p0 au ap aF
 have:=bg aQ
 have:=@bg F (fn 10 (.int 0)) U9 U8 U1
 have:=@dY F (.int 0)
 try simp only[aa]at *
 grind
def aEs:=fb (bW::U6::U0::db::cP::cL::U7::cG::cy::cQ::cq::cJ::cY::ef::eN::fh::d8::bG::bz::dM::fR::WQ) ur<|OD fun F p0 p1 p2 p3 p4 p5 p6 p7 p8 p9 aj ak ao aq av az aG ap au aF aL aD aE aO aQ aV bb bp bD bL bO ce df eJ fC gp=>by
 have:=cV aE aD p0 au ap aF
 have:=bg aQ
 have:=bg bO
 try simp only[aa,ae]at *
 obtain⟨a10,ea10,qa10⟩:=ab ((E.I F lV)-(E.I F d5))
 omega
def auO:=fb (bW::U6::U0::db::cP::cL::U7::cG::cy::cQ::cq::cJ::cY::bG::bz::gK::gq::XN) vG<|vC fun F p0 p1 p2 p3 p4 p5 p6 p7 p8 p9 aj ak ao aq av az aG ap au aF aL aD aE aO aQ aV bb=>by
 have:=cV au ap p0 av aq az
 have:=(dZ au ap p0 av aq).1
 have:=@dY F (.int 0)
 have:=bg aD
 have:=@bg F (fn 10 (.int 0)) U9 dF U1
 try simp only[aa]at *
 simp_all
def aE5:=fb (bW::U6::U0::db::cP::cL::U7::cG::cy::cQ::cq::cJ::cY::bG::bz::gK::gq::ags) wg<|u6 fun F p0 p1 p2 p3 p4 p5 p6 p7 p8 p9 aj ak ao aq av az aG ap au aF aL aD aE aO aQ aV bb bp bD bL bO ce=>by
 have:=cV au ap p0 av aq az
 have:=@dY F (.int 0)
 have:=bg aL
 have:=bg bb
 try simp only[aa,ae]at *
 obtain⟨a7,ea7,qa7⟩:=ab ((E.I F fV)-(0))
 omega
def ayx:=fb (bW::U6::U0::db::cP::cL::U7::cG::cy::cQ::cq::cJ::cY::bG::bz::gK::fR::XN) vG<|vC fun F p0 p1 p2 p3 p4 p5 p6 p7 p8 p9 aj ak ao aq av az aG ap au aF aL aD aE aO aQ aV bb=>by
 have:=cV au ap p0 av aq az
 have:=(dZ au ap p0 av aq).1
 have:=@dY F (.int 0)
 have:=bg aD
 have:=@bg F (fn 10 (.int 0)) U9 dF U1
 try simp only[aa]at *
 simp_all
def alr:=fb (bW::U6::U0::db::cP::cL::U7::cG::cy::cQ::cq::cJ::cY::bG::bz::gK::fR::ags) wg<|u6 fun F p0 p1 p2 p3 p4 p5 p6 p7 p8 p9 aj ak ao aq av az aG ap au aF aL aD aE aO aQ aV bb bp bD bL bO ce=>by
 have:=cV au ap p0 av aq az
 have:=@dY F (.int 0)
 have:=bg aL
 have:=bg bb
 try simp only[aa,ae]at *
 obtain⟨a7,ea7,qa7⟩:=ab ((E.I F fV)-(0))
 omega
def mF:List Fa:=[jM,avL,aDw,ax7,axD,aqa,asB,aGX,aDz,aqr,aAt,ava,ayM,aIp,aBz,apa,aAn,aoP,atU,al6,axm,aqf,aAC,arY,akp,aqh,anH,aCL,aui,azR,auA,aq2,arD,al4,akh,awn,akA,av3,aCP,ato,aEl,alj,asb,aDP,amF,avg,ajA,ame,aGq,asN,aie,ap5,aiN,aob,asy,ayE,aIo,ayD,aHe,ax3,ani,aIs,aH9,aI0,aE4,aBS,ap0,ase,apC,amY,anx,av5,aqd,aCF,arc,asf,aFw,aAK,awQ,aF1,aHN,asL,anG,aAq,aHx,aEs,auO,aE5,ayx,alr]
theorem Uu:km Try.prog (fun tb=>nU sx (run Try.prog (tb.plus (fl mF) [] WN.l) 3000 (.call 6 aDR) .nil (pp 13 L8) SX.one))=true:=by kernel_rfl

theorem walk{H:Type}(W:World)(base:Nat)(enc:TypeId×Value->H)(v0:Value)(d0:DataW H)(p0:List MemPlace)(v1:Value)(d1:DataW H)(p1:List MemPlace)(v2:Value)(d2:DataW H)(p2:List MemPlace)(v3:Value)(d3:DataW H)(p3:List MemPlace)(v4:Value)(d4:DataW H)(p4:List MemPlace)
  (o0:Value.okWide Try.prog W .any base 22 v0)(h0:DataW.Trod enc Try.prog W 0 (fun _=>true) true 22 v0 d0 p0)
  (o1:Value.okWide Try.prog W .any base 34 v1)(h1:DataW.Trod enc Try.prog W 0 (fun _=>true) true 34 v1 d1 p1)
  (o2:Value.okWide Try.prog W .any base 3 v2)(h2:DataW.Trod enc Try.prog W 0 (fun _=>true) true 3 v2 d2 p2)
  (o3:Value.okWide Try.prog W .any base 42 v3)(h3:DataW.Trod enc Try.prog W 0 (fun _=>true) true 42 v3 d3 p3)
  (o4:Value.okWide Try.prog W .any base 42 v4)(h4:DataW.Trod enc Try.prog W 0 (fun _=>true) true 42 v4 d4 p4):
  Calls Try.prog 6 #[v0,v1,v2,v3,v4] W fun e W'=>e=.returned (.bool true)/\Below W.heap.size W W':=by
 obtain⟨x0,rfl,k0,w0⟩:=aBn (n:=9) (ks:=kC) Try.underlying22 (by kernel_rfl) o0 h0
 obtain⟨x1,rfl,l1,k1,w1,s1⟩:=ahN arN (n:=9) (ks:=kB) Try.underlying34 (by kernel_rfl) o1 h1
 obtain⟨x2,rfl,_,_,w2⟩:=open_int Try.underlying3 o2 h2
 have r2:=lO w2
 obtain⟨x3,x4,x5,x6,x7,rfl,w3,w4,w5,w6,w7⟩:=aal o3 h3
 have r3:=lO w3;have r4:=lO w4;have r5:=lO w5;have r6:=lO w6;have r7:=lO w7
 obtain⟨x8,x9,x10,x11,x12,rfl,w8,w9,w10,w11,w12⟩:=aal o4 h4
 have r8:=lO w8;have r9:=lO w9;have r10:=lO w10;have r11:=lO w11;have r12:=lO w12;have q0:=aAf w0;refine Wj good (facts:=fl mF) (MM _) (anns:=[]) (B8 _ (by kernel_rfl)) WN.h (vs:=[x0,.lst x1,.int x2,.int x3,.int x4,.int x5,.int x6,.int x7,.int x8,.int x9,.int x10,.int x11,.int x12]) (pc:=L8) Uu ?_ W ⟨k0,⟨⟨k1 0 _ rfl,trivial,trivial,trivial,trivial,trivial,k1 6 _ rfl,k1 7 _ rfl,k1 8 _ rfl,k1 9 _ rfl,trivial,trivial,trivial,trivial,trivial,trivial,trivial,trivial,trivial,trivial,k1 20 _ rfl,k1 21 _ rfl,k1 22 _ rfl,k1 23 _ rfl,trivial,trivial,trivial,trivial,trivial,k1 29 _ rfl,k1 30 _ rfl,k1 31 _ rfl,k1 32 _ rfl,trivial,trivial,trivial,trivial,trivial,trivial⟩,⟨trivial,⟨⟨trivial,trivial,trivial,trivial,trivial,trivial⟩,⟨⟨trivial,trivial,trivial,trivial,trivial,trivial⟩,trivial⟩⟩⟩⟩⟩;unfold L8;try simp only[aha,aaK,List.cons_append,List.nil_append]
 repeat' (refine alk ?_ ?_)
 all_goals first
  |exact aIY
  |(exact aw6 l1 w1)
  |(first | exact q0 | skip;done)
  |(simp only[ag,ny,eV,Env.of,aey,ayK,Za,af8,getD_cons_zero,getD_cons_succ,avQ];omega)

set_option maxRecDepth 100000 in
theorem aHb(os:Os)(started:os.Started)(H:Type)(enc:TypeId×Value->H):
    ReturnsInHanded {} Try.checked os 6 .any (Rows.payHoldsSpec.pre6 enc Try.prog Try.f6 Rows.payHoldsRow.domain false) (Rows.payHoldsSpec.post enc Try.prog Try.f6 false true false false):=by
  refine returnsInHanded_of_change (C:=Try.checked) own started (by kernel_rfl) Try.func6
    (ChangeSpec.witness6 (enc:=enc) (C:=Try.checked) false ⟨#[],#[.slice none 0 0,.agg #[.slice none 0 0,.int .i64 0,.int .i64 0,.int .i64 0,.int .i64 0,.int .i64 0,.slice none 0 0,.slice none 0 0,.slice none 0 0,.slice none 0 0,.bool false,.bool false,.bool false,.int .i64 0,.int .i64 0,.int .i64 0,.int .i64 0,.int .i64 0,.int .i64 0,.int .i64 0,.slice none 0 0,.slice none 0 0,.slice none 0 0,.slice none 0 0,.bool false,.bool false,.bool false,.int .i64 0,.int .i64 0,.slice none 0 0,.slice none 0 0,.slice none 0 0,.slice none 0 0,.int .i64 0,.int .i64 0,.int .i64 0,.int .i64 0,.int .i64 0],.int .i64 0,.agg #[.int .i64 0,.int .i64 0,.int .i64 0,.int .i64 0,.int .i64 0],.agg #[.int .i64 0,.int .i64 0,.int .i64 0,.int .i64 0,.int .i64 0]],[]⟩ 8 (by kernel_rfl) (by kernel_rfl) (by kernel_rfl) (by kernel_rfl)) ?_
  intro W base args ds gs before hval0 hW hcnd _;have hval:∀(j:Nat) t v,Try.f6.params[j]? =some t->args[j]? =some v->Value.okWide Try.prog W .any base t v:=hval0;have hW':=hW
  obtain⟨p,q,hA0,hV,rfl,hfz,hnd⟩:=hW
  have hA:DataW.TrodAll enc Try.prog W 0 (fun _=>true) true Try.f6.params.toList args.toList ds p:=hA0
  rw[Try.params6]at hA hval
  obtain⟨v0,vs0,d0,ds0,p0,q0,hargs,rfl,rfl,h0,r0⟩:=trodAll_cons hA
  obtain⟨v1,vs1,d1,ds1,p1,q1,rfl,rfl,rfl,h1,r1⟩:=trodAll_cons r0
  obtain⟨v2,vs2,d2,ds2,p2,q2,rfl,rfl,rfl,h2,r2⟩:=trodAll_cons r1
  obtain⟨v3,vs3,d3,ds3,p3,q3,rfl,rfl,rfl,h3,r3⟩:=trodAll_cons r2
  obtain⟨v4,vs4,d4,ds4,p4,q4,rfl,rfl,rfl,h4,r4⟩:=trodAll_cons r3
  obtain⟨rfl,rfl,rfl⟩:=trodAll_nil r4
  obtain rfl:args= #[v0,v1,v2,v3,v4]:=by cases args;simp_all
  obtain⟨rfl,rfl⟩:=trodVars_none hV
  have lt0:∀x∈p0,x.block<W.heap.size:=by obtain⟨m,hm⟩:=h0;exact DataW.trod_lt m _ _ _ hm
  have lt1:∀x∈p1,x.block<W.heap.size:=by obtain⟨m,hm⟩:=h1;exact DataW.trod_lt m _ _ _ hm
  have lt2:∀x∈p2,x.block<W.heap.size:=by obtain⟨m,hm⟩:=h2;exact DataW.trod_lt m _ _ _ hm
  have lt3:∀x∈p3,x.block<W.heap.size:=by obtain⟨m,hm⟩:=h3;exact DataW.trod_lt m _ _ _ hm
  have lt4:∀x∈p4,x.block<W.heap.size:=by obtain⟨m,hm⟩:=h4;exact DataW.trod_lt m _ _ _ hm
  have o0:=hval 0 22 v0 rfl rfl;have o1:=hval 1 34 v1 rfl rfl;have o2:=hval 2 3 v2 rfl rfl;have o3:=hval 3 42 v3 rfl rfl;have o4:=hval 4 42 v4 rfl rfl;clear hA0 hval0
  refine(walk W base enc v0 d0 p0 v1 d1 p1 v2 d2 p2 v3 d3 p3 v4 d4 p4 o0 h0 o1 h1 o2 h2 o3 h3 o4 h4).mono fun e W' ⟨he,bel⟩=>?_
  subst he
  exact⟨_,rfl,_,_,_,[],_,[],hW',trodAll_mk1 (shut_bool Try.underlying4 _),(trodAll_cons_mk (Below.trod laidOut (by kernel_rfl) (of_decide_eq_true (by kernel_rfl)) h0 bel lt0) (trodAll_cons_mk (Below.trod laidOut (by kernel_rfl) (of_decide_eq_true (by kernel_rfl)) h1 bel lt1) (trodAll_cons_mk (Below.trod laidOut (by kernel_rfl) (of_decide_eq_true (by kernel_rfl)) h2 bel lt2) (trodAll_cons_mk (Below.trod laidOut (by kernel_rfl) (of_decide_eq_true (by kernel_rfl)) h3 bel lt3) (trodAll_cons_mk (Below.trod laidOut (by kernel_rfl) (of_decide_eq_true (by kernel_rfl)) h4 bel lt4) trodAll_mk0))))),rfl,bel.frame _,fun h=>by cases h⟩

theorem HT:Rows.payHoldsRow.holds Try.pinned (OpenSpec.ofChange Rows.payHoldsSpec):=
 OpenClaim.holds_of_wide 6 Try.f6 rfl rfl rfl rfl rfl rfl rfl ⟨rfl,rfl,rfl,rfl,rfl⟩ rfl rfl rfl rfl rfl (by kernel_rfl) Try.func6 (by kernel_rfl)
  (of_decide_eq_true (by kernel_rfl)) (by unfold Func.isWrapper;first | (rw[if_pos (by decide +kernel)];kernel_rfl) | (rw[if_neg (by decide +kernel)];exact⟨rfl,rfl⟩))
  (fun os started H enc _=>aHb os started H enc)

theorem proved:Rows.PayHoldsSaid:=HT

end
end Go.Proofs.Ytnnbmcfabojjjaa.payHolds
