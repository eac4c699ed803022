/-
  PayHolds: contracts of functions, part 9.
-/
import Derived.Test.YtnnbmcfabojjjaaRows
import Derived.Test.YtnnbmcfabojjjaaNat
import Derived.WalkKit
import Derived.ProofKit
import Derived.OpenShut
import Derived.ChangeOld
import Derived.Below
import Derived.KernelRfl
import Derived.Lib.SmallJoins
import Derived.Laws.IdiomArrays
import Derived.Test.YtnnbmcfabojjjaaPayHoldsParth
namespace Go.Proofs.Ytnnbmcfabojjjaa.payHolds
open Go.ChangeShapes Go.WideShapes Go.ChangeAt Go.RowKit
open Go.SX
open Go.SX.E (fn pr cmp var)
set_option linter.unusedVariables false
set_option linter.unusedSimpArgs false
set_option maxRecDepth 100000
noncomputable section
abbrev V0:E:=var 3
abbrev V1:E:=var 4
abbrev V2:E:=var 5
abbrev V3:E:=var 6
abbrev V4:E:=var 7
abbrev V5:E:=fn 146 (pr V0 (pr V1 (pr V2 (pr V3 V4))))
abbrev V6:E:=var 1
abbrev V7:E:=var 2
abbrev V8:E:=fn 145 (pr V6 V7)
abbrev V9:E:=var 8
abbrev bA:E:=var 9
abbrev mX:E:=var 10
abbrev eG:E:=var 11
abbrev bc:E:=var 12
abbrev aw:E:=var 0
abbrev V15:E:=pr V7 (.int 0)
abbrev V16:E:=pr V6 V15
abbrev Sl:E:=pr aw V16
abbrev yd:E:=pr V0 (pr V1 (pr V2 (pr V3 (pr V4 Sl))))
abbrev Mn:E:=pr bc yd
abbrev Ip:E:=fn 183 (pr V9 (pr bA (pr mX (pr eG Mn))))
abbrev IG:E:=.bool true
abbrev zt:E:=fn 182 yd
abbrev V23:E:=.iff IG zt
abbrev FB:E:=pr (fn 10 (.int 0)) yd
abbrev Jf:E:=fn 183 (pr V9 (pr bA (pr mX (pr eG FB))))
abbrev V26:E:=pr V3 Sl
abbrev V27:E:=pr V2 V26
abbrev V28:E:=pr V1 V27
abbrev V29:E:=pr V0 V28
abbrev V30:E:=pr V4 V29
abbrev V31:E:=pr (.int 4) V30
abbrev V32:E:=fn 177 V31
abbrev V33:E:=.bool false
abbrev V34:E:=.iff V33 zt
abbrev V35:E:=cmp .eql (fn 0 aw) (.int 0)
abbrev V36:E:=.imp (fn 31 aw) V35
abbrev V37:=[V36,(fn 31 aw)]
abbrev Sk:E:=pr V6 aw
abbrev SQ:E:=fn 200 Sk
abbrev GU:E:=fn 187 (pr V9 aw)
abbrev Ei:E:=cmp .lss eG bA
abbrev KZ:E:=cmp .eql bA (fn 9 (pr aw (.int 5)))
abbrev V43:E:=cmp .lss eG (.int 0)
abbrev QG:E:=.not V43
abbrev V45:=[QG]
abbrev V46:=KZ::V45
abbrev V47:E:=cmp .lss (.int 20) (fn 9 (pr aw (.int 5)))
abbrev V48:E:=.not V47
abbrev V49:=[V48]
abbrev Pp:=QG::V49
abbrev V51:=KZ::Pp
abbrev V52:=Ei::V51
abbrev VD:E:=fn 190 V9
abbrev V54:E:=.not (cmp .lss bA eG)
abbrev V55:=V54::Pp
abbrev V56:=KZ::V55
abbrev ZA:=Ei::V56
abbrev We:E:=fn 201 bc
abbrev V59:E:=pr bc (fn 1 (pr V9 (fn 6 (pr (fn 8 (pr eG (.int 5))) (.int 4)))))
abbrev V60:E:=fn 200 V59
abbrev V61:=GU::V46
abbrev V62:=VD::V61
abbrev V63:=V60::V62
abbrev V64:=We::V63
abbrev Ua:=Ei::V64
abbrev kh:List E:=[(fn 117 aw)]
abbrev IK:E:=fn 116 aw
abbrev bl:E:=var 15
abbrev V69:E:=cmp .eql (fn 0 aw) V6
abbrev As:=[V69]
abbrev sV:E:=cmp .lss V9 bA
abbrev A1:E:=.not (cmp .lss V6 bA)
abbrev yn:E:=.not (cmp .lss V9 (.int 0))
abbrev V74:E:=cmp .lss (.int 100) V6
abbrev Pj:E:=.not V74
abbrev V76:=[Pj]
abbrev O3:=yn::V76
abbrev uS:=sV::A1::O3
abbrev V79:E:=cmp .eql (fn 1 (pr aw V9)) V0
abbrev Js:E:=fn 194 (pr aw (pr V0 (pr V9 bA)))
abbrev Ng:E:=fn 193 aw
abbrev V82:E:=pr aw V0
abbrev V83:E:=fn 114 V82
abbrev V84:E:=.iff V33 V83
abbrev V85:E:=cmp .lss bA V9
abbrev NN:E:=.not V85
abbrev V87:=NN::O3
abbrev V88:=A1::V87
abbrev EP:=sV::V88
abbrev Qy:E:=cmp .lss (fn 1 (pr aw (.wr .i64 (.ar .shr .u64 (.wr .u64 (.ar .add .i64 V9 bA)) (.int 1))))) V0
abbrev V91:=Pj::As
abbrev V92:=Ng::V91
abbrev V93:=yn::V92
abbrev V94:=NN::V93
abbrev V95:=A1::V94
abbrev Tl:=Js::V95
abbrev wF:E:=cmp .eql V7 (.int 0)
abbrev Vx:E:=fn 196 (pr bl V6)
abbrev V99:E:=fn 196 (pr bc V6)
abbrev bj:E:=var 27
abbrev zS:E:=var 24
abbrev ayf:E:=pr zS yd
abbrev ahO:E:=pr bj ayf
abbrev ab8:E:=fn 199 ahO
abbrev UK:=[ab8]
abbrev eM:E:=var 31
abbrev ka:E:=var 28
abbrev sm:E:=cmp .lss eM ka
abbrev aB1:E:=cmp .lss ka eM
abbrev Jh:E:=.not aB1
abbrev wL:E:=cmp .eql ka (fn 9 (pr (fn 1 (pr V6 (.int 0))) (.int 12)))
abbrev lZ:E:=var 30
abbrev axH:E:=pr zS eM
abbrev atI:E:=pr (fn 1 (pr V6 (.int 0))) axH
abbrev aFx:E:=pr lZ atI
abbrev alb:E:=fn 191 aFx
abbrev Q4:=[alb]
abbrev uD:E:=var 32
abbrev aFA:E:=pr (fn 23 (pr (fn 28 (pr (pr uD ka) lZ)) (fn 23 (pr (fn 1 (pr bj (.int 1))) (fn 23 (pr (fn 1 (pr bj (.int 2))) (fn 23 (pr (fn 1 (pr bj (.int 3))) (fn 23 (pr (fn 1 (pr bj (.int 4))) (fn 23 (pr (fn 1 (pr bj (.int 5))) (fn 23 (pr (fn 1 (pr bj (.int 6))) (fn 23 (pr (fn 1 (pr bj (.int 7))) (fn 23 (pr (fn 1 (pr bj (.int 8))) (fn 23 (pr (fn 1 (pr bj (.int 9))) (fn 23 (pr (fn 1 (pr bj (.int 10))) (fn 23 (pr (fn 1 (pr bj (.int 11))) (fn 23 (pr (fn 1 (pr bj (.int 12))) (fn 23 (pr (fn 1 (pr bj (.int 13))) (fn 23 (pr (fn 1 (pr bj (.int 14))) (fn 23 (pr (fn 1 (pr bj (.int 15))) (fn 23 (pr (fn 1 (pr bj (.int 16))) (fn 23 (pr (fn 1 (pr bj (.int 17))) (fn 23 (pr (fn 1 (pr bj (.int 18))) (fn 23 (pr (fn 1 (pr bj (.int 19))) (fn 23 (pr (fn 1 (pr bj (.int 20))) (fn 23 (pr (fn 1 (pr bj (.int 21))) (fn 23 (pr (fn 1 (pr bj (.int 22))) (fn 23 (pr (fn 1 (pr bj (.int 23))) (fn 23 (pr (fn 1 (pr bj (.int 24))) (fn 23 (pr (fn 1 (pr bj (.int 25))) (fn 23 (pr (fn 1 (pr bj (.int 26))) (fn 23 (pr (fn 1 (pr bj (.int 27))) (fn 23 (pr (fn 1 (pr bj (.int 28))) (fn 23 (pr (fn 1 (pr bj (.int 29))) (fn 23 (pr (fn 1 (pr bj (.int 30))) (fn 23 (pr (fn 1 (pr bj (.int 31))) (fn 23 (pr (fn 1 (pr bj (.int 32))) (fn 23 (pr (fn 1 (pr bj (.int 33))) (fn 23 (pr (fn 1 (pr bj (.int 34))) (fn 23 (pr (fn 1 (pr bj (.int 35))) (fn 23 (pr (fn 1 (pr bj (.int 36))) (fn 23 (pr (fn 1 (pr bj (.int 37))) (fn 10 (.int 0)))))))))))))))))))))))))))))))))))))))))))))))))))))))))))))))))))))))))))))) yd
abbrev acY:E:=fn 198 aFA
abbrev Ek:E:=fn 117 V6
abbrev aHQ:E:=cmp .lss eM (.int 0)
abbrev JA:E:=.not aHQ
abbrev VE:=[JA,wL]
abbrev aEM:=sm::VE
abbrev WE:=Ek::aEM
abbrev agy:E:=fn 199 (pr bj FB)
abbrev avs:E:=pr (fn 10 (.int 0)) eM
abbrev aHr:E:=pr (fn 1 (pr V6 (.int 0))) avs
abbrev awC:E:=pr lZ aHr
abbrev PJ:E:=fn 191 awC
abbrev OJ:E:=fn 116 (fn 23 (pr (fn 28 (pr (pr uD ka) lZ)) (fn 23 (pr (fn 1 (pr bj (.int 1))) (fn 23 (pr (fn 1 (pr bj (.int 2))) (fn 23 (pr (fn 1 (pr bj (.int 3))) (fn 23 (pr (fn 1 (pr bj (.int 4))) (fn 23 (pr (fn 1 (pr bj (.int 5))) (fn 23 (pr (fn 1 (pr bj (.int 6))) (fn 23 (pr (fn 1 (pr bj (.int 7))) (fn 23 (pr (fn 1 (pr bj (.int 8))) (fn 23 (pr (fn 1 (pr bj (.int 9))) (fn 23 (pr (fn 1 (pr bj (.int 10))) (fn 23 (pr (fn 1 (pr bj (.int 11))) (fn 23 (pr (fn 1 (pr bj (.int 12))) (fn 23 (pr (fn 1 (pr bj (.int 13))) (fn 23 (pr (fn 1 (pr bj (.int 14))) (fn 23 (pr (fn 1 (pr bj (.int 15))) (fn 23 (pr (fn 1 (pr bj (.int 16))) (fn 23 (pr (fn 1 (pr bj (.int 17))) (fn 23 (pr (fn 1 (pr bj (.int 18))) (fn 23 (pr (fn 1 (pr bj (.int 19))) (fn 23 (pr (fn 1 (pr bj (.int 20))) (fn 23 (pr (fn 1 (pr bj (.int 21))) (fn 23 (pr (fn 1 (pr bj (.int 22))) (fn 23 (pr (fn 1 (pr bj (.int 23))) (fn 23 (pr (fn 1 (pr bj (.int 24))) (fn 23 (pr (fn 1 (pr bj (.int 25))) (fn 23 (pr (fn 1 (pr bj (.int 26))) (fn 23 (pr (fn 1 (pr bj (.int 27))) (fn 23 (pr (fn 1 (pr bj (.int 28))) (fn 23 (pr (fn 1 (pr bj (.int 29))) (fn 23 (pr (fn 1 (pr bj (.int 30))) (fn 23 (pr (fn 1 (pr bj (.int 31))) (fn 23 (pr (fn 1 (pr bj (.int 32))) (fn 23 (pr (fn 1 (pr bj (.int 33))) (fn 23 (pr (fn 1 (pr bj (.int 34))) (fn 23 (pr (fn 1 (pr bj (.int 35))) (fn 23 (pr (fn 1 (pr bj (.int 36))) (fn 23 (pr (fn 1 (pr bj (.int 37))) (fn 10 (.int 0))))))))))))))))))))))))))))))))))))))))))))))))))))))))))))))))))))))))))))))
abbrev aEi:=Jh::VE
abbrev axV:=sm::aEi
abbrev acu:=Ek::axV
abbrev ale:E:=pr zS (fn 1 (pr lZ (fn 6 (pr (fn 8 (pr eM (.int 12))) (.int 0)))))
abbrev ahI:E:=fn 114 ale
abbrev Rf:E:=.iff (var 33) ahI
abbrev aIJ:=Ek::Q4
abbrev asd:=wL::aIJ
abbrev agK:=JA::asd
abbrev Xt:E:=pr (fn 1 (pr V6 (.int 0))) (pr zS (.ar .add .i64 eM (.int 1)))
def atf:=fb ([V5,V8,Ip]) V23<|am fun F p0 p1 p2=>by
 have:=(@qh F V4 V0 V1 V2 V3 aw V6 V7)
 have:=LH p2
 simp_all
def aqH:=fb ([V5,V8,Jf]) V23<|am fun F p0 p1 p2=>by
 have:=(@qh F V4 V0 V1 V2 V3 aw V6 V7)
 have:=LH p2
 simp_all
def aoE:=fb ([V32]) V34<|aB fun F p0=>by
 have:=(@qh F V4 V0 V1 V2 V3 aw V6 V7)
 simp_all
def as5:=fb ([(.not (.and V8 V5))]) V34<|aB fun F p0=>by
 have:=(@qh F V4 V0 V1 V2 V3 aw V6 V7)
 try simp only[aa]at *
 grind
def p53:List Fa:=[jM,atf,aqH,aoE,as5]
theorem aDZ:aW Try.prog (bu (aj1)):=sc p53 ([]) QA ([]) (by kernel_rfl) (by kernel_rfl)
def WH:Nl:=nc aDZ QA
def WX:=fb V37 (fn 200 (pr (fn 10 (.int 0)) aw))<|ax fun F p0 p1=>by
 have:=@aki F (.int 0) aw
 try simp only[aa]at *
 grind
def Xi:=fa ((fn 200 (pr aw aw)))<|fun F=>by
 exact ak2
def p54:List Fa:=[jM,WX,Xi]
theorem atY:aW Try.prog (bu (adM 97 iq 5 77)):=sc p54 ([]) WH ([.up iq 77]) (by kernel_rfl) (by kernel_rfl)
def Td:Nl:=nc atY WH
def M3:=fb V37 (fn 200 (pr (fn 30 (.int 0)) aw))<|ax fun F p0 p1=>by
 have:=@aoF F (.int 0) aw
 try simp only[aa]at *
 grind
def R3:=fa ((fn 200 (pr (fn 28 (pr (pr V7 (fn 9 (pr aw (.int 2)))) aw)) aw)))<|fun F=>by
 exact ae3
def GK:=fa ((fn 201 (fn 30 (.int 0))))<|fun F=>by
 rfl
def af1:=fa ((fn 201 (fn 28 (pr (pr V7 (fn 9 (pr aw (.int 2)))) aw))))<|fun F=>by
 rfl
def p55:List Fa:=[jM,M3,R3,GK,af1]
theorem aDU:aW Try.prog (bu (HQ 98 kT 2)):=sc p55 ([]) Td ([.down kT]) (by kernel_rfl) (by kernel_rfl)
def aez:Nl:=nc aDU Td
def axJ:=fb ([SQ]) (fn 187 Sk)<|aB fun F p0=>by
 exact aGV p0
def azb:=fb ([SQ,(fn 190 aw)]) (fn 190 V6)<|ax fun F p0 p1=>by
 grind[ahx]
def anp:=fb (GU::(fn 158 (pr aw (fn 9 (pr aw (.int 5)))))::Ei::V46) (.not (cmp .lss (.int 100) (fn 9 (pr (fn 1 (pr V9 (fn 6 (pr (fn 8 (pr eG (.int 5))) (.int 4))))) (.int 2)))))<|aR fun F p0 p1 p2 p3 p4=>by
 have:=@apX _ _ _ eG _ p1 p0
 try simp only[aa]at *
 grind
def anU:=fb ([GU]) (fn 187 (pr (fn 28 (pr (pr bc bA) V9)) aw))<|aB fun F p0=>by
 exact p0
def aEZ:=fb V52 (.not (cmp .lss (.ar .add .i64 eG (.int 1)) (.int 0)))<|aH fun F p0 p1 p2 p3=>by
 try simp only[aa,ae]at *
 obtain⟨a4,ea4,qa4⟩:=ab ((E.I F eG)+(1))
 omega
def avq:=fb ([VD]) (fn 195 (fn 28 (pr (pr bc bA) V9)))<|aB fun F p0=>by
 exact av7 p0
def aBU:=fb ZA (.not (cmp .lss bA (.ar .add .i64 eG (.int 1))))<|aR fun F p0 p1 p2 p3 p4=>by
 try simp only[aa,ae]at *
 obtain⟨a4,ea4,qa4⟩:=ab ((E.I F eG)+(1))
 omega
def aCe:=fb Ua (fn 187 (pr (fn 2 (pr V9 (pr (fn 6 (pr (fn 8 (pr eG (.int 5))) (.int 4))) bc))) aw))<|de fun F p0 p1 p2 p3 p4 p5 p6=>by
 have:=fun h0 h1=>(@adG _ _ _ _ _ p4 p3 h0 h1 p2 p1).1
 try simp only[aa]at *
 grind
def aAT:=fb Ua (fn 190 (fn 2 (pr V9 (pr (fn 6 (pr (fn 8 (pr eG (.int 5))) (.int 4))) bc))))<|de fun F p0 p1 p2 p3 p4 p5 p6=>by
 have:=fun h0 h1=>(@adG _ _ _ _ _ p4 p3 h0 h1 p2 p1).2
 try simp only[aa]at *
 grind
def aou:=fb V52 (cmp .lss (fn 7 (pr bA (.ar .add .i64 eG (.int 1)))) (fn 7 (pr bA eG)))<|aH fun F p0 p1 p2 p3=>by
 try simp only[aa,ae]at *
 obtain⟨a4,ea4,qa4⟩:=ab ((E.I F eG)+(1))
 omega
def azh:=fb ZA (.not (cmp .lss (fn 7 (pr bA (.ar .add .i64 eG (.int 1)))) (.int 0)))<|aR fun F p0 p1 p2 p3 p4=>by
 try simp only[aa,ae]at *
 obtain⟨a4,ea4,qa4⟩:=ab ((E.I F eG)+(1))
 omega
def p56:List Fa:=[jM,axJ,azb,anp,anU,aEZ,avq,aBU,aCe,aAT,aou,azh]
theorem arU:aW Try.prog (bu (ap2)):=sc p56 (aDc) aez ([.down iq]) (by kernel_rfl) (by kernel_rfl)
def ZN:Nl:=nc arU aez
def p57:List Fa:=[jM,WX,Xi]
theorem asi:aW Try.prog (bu (adM 64 kO 12 65)):=sc p57 ([]) ZN ([.up kO 65]) (by kernel_rfl) (by kernel_rfl)
def XW:Nl:=nc asi ZN
def aD5:=fb ([(.not (cmp .lss (.int 100) (fn 9 (pr aw (.int 1)))))]) (.not (cmp .lss (.int 2147483648) (fn 0 aw)))<|aB fun F p0=>by
 have:=@mM F aw
 try simp only[aa]at *
 grind
def aIC:=fa ((fn 200 (pr (fn 28 (pr (pr V7 (fn 0 aw)) aw)) aw)))<|fun F=>by
 exact ae3
def au0:=fa ((fn 201 (fn 28 (pr (pr V7 (fn 0 aw)) aw))))<|fun F=>by
 rfl
def p58:List Fa:=[jM,M3,aD5,GK,aIC,au0]
theorem azN:aW Try.prog (bu (HQ 65 kI 1)):=sc p58 ([]) XW ([.down kI]) (by kernel_rfl) (by kernel_rfl)
def Sp:Nl:=nc azN XW
def p59:List Fa:=[jM,M3,R3,GK,af1]
theorem ahL:aW Try.prog (bu (HQ 66 kT 2)):=sc p59 ([]) Sp ([.down kT]) (by kernel_rfl) (by kernel_rfl)
def abp:Nl:=nc ahL Sp
def aG4:=fb kh (.not (cmp .lss (.int 100) (fn 9 (pr (fn 1 (pr aw (.int 0))) (.int 12)))))<|aB fun F p0=>by
 have:=aC p0
 try simp only[aa]at *
 omega
def akG:=fb kh (.not (cmp .lss (.int 100) (fn 9 (pr (fn 1 (pr aw (.int 31))) (.int 1)))))<|aB fun F p0=>by
 have:=@mM F (fn 1 (pr aw (.int 31)))
 have:=@gz F aw
 try simp only[aa]at *
 grind
def anh:=fb kh (.not (cmp .lss (.int 100) (fn 9 (pr (fn 1 (pr aw (.int 32))) (.int 2)))))<|aB fun F p0=>by
 have:=@gz F aw
 try simp only[aa]at *
 grind
def aDb:=fb kh (fn 158 (pr (fn 1 (pr aw (.int 29))) (fn 9 (pr (fn 1 (pr aw (.int 29))) (.int 5)))))<|aB fun F p0=>by
 simp_all[gz]
def asO:=fb ([IK]) (fn 190 (fn 1 (pr aw (.int 29))))<|aB fun F p0=>by
 have:=agN p0 29 (by decide)
 omega
def aoR:=fb kh (fn 158 (pr (fn 1 (pr aw (.int 30))) (fn 9 (pr (fn 1 (pr aw (.int 30))) (.int 5)))))<|aB fun F p0=>by
 simp_all[gz]
def aAp:=fb ([IK]) (fn 190 (fn 1 (pr aw (.int 30))))<|aB fun F p0=>by
 have:=agN p0 30 (by decide)
 omega
def auS:=fb kh (.not (cmp .lss (.int 100) (fn 9 (pr (fn 1 (pr aw (.int 6))) (.int 1)))))<|aB fun F p0=>by
 have:=@mM F (fn 1 (pr aw (.int 6)))
 have:=@gz F aw
 have:=@nA F aw
 try simp only[aa]at *
 grind
def awd:=fb kh (.not (cmp .lss (.int 100) (fn 9 (pr (fn 1 (pr aw (.int 7))) (.int 1)))))<|aB fun F p0=>by
 have:=@mM F (fn 1 (pr aw (.int 7)))
 have:=@gz F aw
 have:=@nA F aw
 try simp only[aa]at *
 grind
def avu:=fb kh (.not (cmp .lss (.int 100) (fn 9 (pr (fn 1 (pr aw (.int 8))) (.int 1)))))<|aB fun F p0=>by
 have:=@mM F (fn 1 (pr aw (.int 8)))
 have:=@gz F aw
 have:=@nA F aw
 try simp only[aa]at *
 grind
def avl:=fb kh (.not (cmp .lss (.int 100) (fn 9 (pr (fn 1 (pr aw (.int 9))) (.int 1)))))<|aB fun F p0=>by
 have:=@mM F (fn 1 (pr aw (.int 9)))
 have:=@gz F aw
 have:=@nA F aw
 try simp only[aa]at *
 grind
def aCK:=fb kh (.not (cmp .lss (.int 100) (fn 9 (pr (fn 1 (pr aw (.int 20))) (.int 1)))))<|aB fun F p0=>by
 have:=@mM F (fn 1 (pr aw (.int 20)))
 have:=@gz F aw
 have:=@nA F aw
 try simp only[aa]at *
 grind
def ajL:=fb kh (.not (cmp .lss (.int 100) (fn 9 (pr (fn 1 (pr aw (.int 21))) (.int 1)))))<|aB fun F p0=>by
 have:=@mM F (fn 1 (pr aw (.int 21)))
 have:=@gz F aw
 have:=@nA F aw
 try simp only[aa]at *
 grind
def ajE:=fb kh (.not (cmp .lss (.int 100) (fn 9 (pr (fn 1 (pr aw (.int 22))) (.int 1)))))<|aB fun F p0=>by
 have:=@mM F (fn 1 (pr aw (.int 22)))
 have:=@gz F aw
 have:=@nA F aw
 try simp only[aa]at *
 grind
def asH:=fb kh (.not (cmp .lss (.int 100) (fn 9 (pr (fn 1 (pr aw (.int 23))) (.int 1)))))<|aB fun F p0=>by
 have:=@mM F (fn 1 (pr aw (.int 23)))
 have:=@gz F aw
 have:=@nA F aw
 try simp only[aa]at *
 grind
def aoT:=fb ([IK,(fn 201 V1),(fn 200 (pr V1 (fn 1 (pr aw (.int 31))))),(fn 201 V2),(fn 200 (pr V2 (fn 1 (pr aw (.int 32))))),(fn 195 V3),(fn 187 (pr V3 (fn 1 (pr aw (.int 29))))),(fn 195 V4),(fn 187 (pr V4 (fn 1 (pr aw (.int 30))))),(fn 201 V9),(fn 200 (pr V9 (fn 1 (pr aw (.int 6))))),(fn 201 bA),(fn 200 (pr bA (fn 1 (pr aw (.int 7))))),(fn 201 mX),(fn 200 (pr mX (fn 1 (pr aw (.int 8))))),(fn 201 eG),(fn 200 (pr eG (fn 1 (pr aw (.int 9))))),We,(fn 200 (pr bc (fn 1 (pr aw (.int 20))))),(fn 201 (var 13)),(fn 200 (pr (var 13) (fn 1 (pr aw (.int 21))))),(fn 201 (var 14)),(fn 200 (pr (var 14) (fn 1 (pr aw (.int 22))))),(fn 201 bl),(fn 200 (pr bl (fn 1 (pr aw (.int 23)))))]) (fn 196 (pr (fn 23 (pr (fn 1 (pr aw (.int 0))) (fn 23 (pr (fn 1 (pr aw (.int 1))) (fn 23 (pr (fn 1 (pr aw (.int 2))) (fn 23 (pr (fn 1 (pr aw (.int 3))) (fn 23 (pr (fn 1 (pr aw (.int 4))) (fn 23 (pr (fn 1 (pr aw (.int 5))) (fn 23 (pr V9 (fn 23 (pr bA (fn 23 (pr mX (fn 23 (pr eG (fn 23 (pr (fn 1 (pr aw (.int 10))) (fn 23 (pr (fn 1 (pr aw (.int 11))) (fn 23 (pr (fn 1 (pr aw (.int 12))) (fn 23 (pr (fn 1 (pr aw (.int 13))) (fn 23 (pr (fn 1 (pr aw (.int 14))) (fn 23 (pr (fn 1 (pr aw (.int 15))) (fn 23 (pr (fn 1 (pr aw (.int 16))) (fn 23 (pr (fn 1 (pr aw (.int 17))) (fn 23 (pr (fn 1 (pr aw (.int 18))) (fn 23 (pr (fn 1 (pr aw (.int 19))) (fn 23 (pr bc (fn 23 (pr (var 13) (fn 23 (pr (var 14) (fn 23 (pr bl (fn 23 (pr (fn 1 (pr aw (.int 24))) (fn 23 (pr (fn 1 (pr aw (.int 25))) (fn 23 (pr (fn 1 (pr aw (.int 26))) (fn 23 (pr (fn 1 (pr aw (.int 27))) (fn 23 (pr (fn 1 (pr aw (.int 28))) (fn 23 (pr V3 (fn 23 (pr V4 (fn 23 (pr V1 (fn 23 (pr V2 (fn 23 (pr (fn 1 (pr aw (.int 33))) (fn 23 (pr (fn 1 (pr aw (.int 34))) (fn 23 (pr (fn 1 (pr aw (.int 35))) (fn 23 (pr (fn 1 (pr aw (.int 36))) (fn 23 (pr (fn 1 (pr aw (.int 37))) (fn 10 (.int 0)))))))))))))))))))))))))))))))))))))))))))))))))))))))))))))))))))))))))))))) aw))<|Lz fun F p0 p1 p2 p3 p4 p5 p6 p7 p8 p9 aj ak ao aq av az aG ap au aF aL aD aE aO aQ=>by
 have h1:=@aka F aw ([(fn 1 (pr aw (.int 0))),(fn 1 (pr aw (.int 1))),(fn 1 (pr aw (.int 2))),(fn 1 (pr aw (.int 3))),(fn 1 (pr aw (.int 4))),(fn 1 (pr aw (.int 5))),V9,bA,mX,eG,(fn 1 (pr aw (.int 10))),(fn 1 (pr aw (.int 11))),(fn 1 (pr aw (.int 12))),(fn 1 (pr aw (.int 13))),(fn 1 (pr aw (.int 14))),(fn 1 (pr aw (.int 15))),(fn 1 (pr aw (.int 16))),(fn 1 (pr aw (.int 17))),(fn 1 (pr aw (.int 18))),(fn 1 (pr aw (.int 19))),bc,(var 13),(var 14),bl,(fn 1 (pr aw (.int 24))),(fn 1 (pr aw (.int 25))),(fn 1 (pr aw (.int 26))),(fn 1 (pr aw (.int 27))),(fn 1 (pr aw (.int 28))),V3,V4,V1,V2,(fn 1 (pr aw (.int 33))),(fn 1 (pr aw (.int 34))),(fn 1 (pr aw (.int 35))),(fn 1 (pr aw (.int 36))),(fn 1 (pr aw (.int 37)))]) rfl;exact h1 (ais (eT 1 rfl rfl (eT 2 rfl rfl (eT 3 rfl rfl (eT 4 rfl rfl (eT 5 rfl rfl (l4 6 rfl rfl (by decide) p0 aj p9 (l4 7 rfl rfl (by decide) p0 ao ak (l4 8 rfl rfl (by decide) p0 av aq (l4 9 rfl rfl (by decide) p0 aG az (eT 10 rfl rfl (eT 11 rfl rfl (eT 12 rfl rfl (eT 13 rfl rfl (eT 14 rfl rfl (eT 15 rfl rfl (eT 16 rfl rfl (eT 17 rfl rfl (eT 18 rfl rfl (eT 19 rfl rfl (l4 20 rfl rfl (by decide) p0 au ap (l4 21 rfl rfl (by decide) p0 aL aF (l4 22 rfl rfl (by decide) p0 aE aD (l4 23 rfl rfl (by decide) p0 aQ aO (eT 24 rfl rfl (eT 25 rfl rfl (eT 26 rfl rfl (eT 27 rfl rfl (eT 28 rfl rfl (abl 29 rfl rfl p6 p5 (abl 30 rfl rfl p8 p7 (l4 31 rfl rfl (by decide) p0 p2 p1 (l4 32 rfl rfl (by decide) p0 p4 p3 (eT 33 rfl rfl (eT 34 rfl rfl (eT 35 rfl rfl (eT 36 rfl rfl (eT 37 rfl rfl trivial))))))))))))))))))))))))))))))))))))))
def p60:List Fa:=[jM,aG4,akG,anh,y7,aDb,asO,ag1,aoR,aAp,auS,awd,avu,avl,aCK,ajL,ajE,asH,aoT]
theorem aIU:aW Try.prog (bu (amo)):=sc p60 ([]) abp ([]) (by kernel_rfl) (by kernel_rfl)
def afQ:Nl:=nc aIU abp
def avx:=fb As (fn 194 (pr aw (pr V0 (pr (.int 0) V6))))<|aB fun F p0=>by
 have:=@ajc F V0 aw (.int 0) V6
 try simp only[aa]at *
 grind
def anz:=fb uS (.not (cmp .lss (.wr .i64 (.ar .shr .u64 (.wr .u64 (.ar .add .i64 V9 bA)) (.int 1))) (.int 0)))<|aH fun F p0 p1 p2 p3=>by
 have:=@kz F V9 bA
 try simp only[aa]at *
 omega
def aor:=fb ([(.not sV),(.not V79),Js,yn,Ng]) V84<|aR fun F p0 p1 p2 p3 p4=>by
 have:=W5 p4 p2
 try simp only[aa]at *
 grind
def ah8:=fb ((cmp .lss V9 V6)::V79::yn::As) (.iff IG V83)<|aH fun F p0 p1 p2 p3=>by
 have:=@avT F V0 aw V9
 try simp only[aa]at *
 grind
def auj:=fb ((.not sV)::(.not (cmp .lss V9 V6))::Js::A1::NN::yn::Ng::As) V84<|dw fun F p0 p1 p2 p3 p4 p5 p6 p7=>by
 have:=W5 p6 p2
 try simp only[aa]at *
 grind
def asw:=fb EP (cmp .lss (.wr .i64 (.ar .shr .u64 (.wr .u64 (.ar .add .i64 V9 bA)) (.int 1))) V6)<|aR fun F p0 p1 p2 p3 p4=>by
 have:=@kz F V9 bA
 try simp only[aa]at *
 omega
def ao6:=fb uS (.not (cmp .lss (.ar .add .i64 (.wr .i64 (.ar .shr .u64 (.wr .u64 (.ar .add .i64 V9 bA)) (.int 1))) (.int 1)) (.int 0)))<|aH fun F p0 p1 p2 p3=>by
 have:=@kz F V9 bA
 try simp only[aa,ae]at *
 obtain⟨a8,ea8,qa8⟩:=ab (E.I F (.ar .shr .u64 (.wr .u64 (.ar .add .i64 V9 bA)) (.int 1)))
 try simp only[ea8]at *
 obtain⟨a9,ea9,qa9⟩:=ab (a8+(1))
 omega
def aAV:=fb uS (.not (cmp .lss (.wr .i64 (.ar .shr .u64 (.wr .u64 (.ar .add .i64 V9 bA)) (.int 1))) V9))<|aH fun F p0 p1 p2 p3=>by
 have:=@kz F V9 bA
 try simp only[aa]at *
 omega
def azd:=fb EP (.not (cmp .lss bA (.ar .add .i64 (.wr .i64 (.ar .shr .u64 (.wr .u64 (.ar .add .i64 V9 bA)) (.int 1))) (.int 1))))<|aR fun F p0 p1 p2 p3 p4=>by
 have:=@kz F V9 bA
 try simp only[aa,ae]at *
 obtain⟨a8,ea8,qa8⟩:=ab (E.I F (.ar .shr .u64 (.wr .u64 (.ar .add .i64 V9 bA)) (.int 1)))
 try simp only[ea8]at *
 obtain⟨a9,ea9,qa9⟩:=ab (a8+(1))
 omega
def apV:=fb uS (.not (cmp .lss V6 (.wr .i64 (.ar .shr .u64 (.wr .u64 (.ar .add .i64 V9 bA)) (.int 1)))))<|aH fun F p0 p1 p2 p3=>by
 have:=@kz F V9 bA
 try simp only[aa]at *
 omega
def ahK:=fb (sV::Qy::Tl) (fn 194 (pr aw (pr V0 (pr (.ar .add .i64 (.wr .i64 (.ar .shr .u64 (.wr .u64 (.ar .add .i64 V9 bA)) (.int 1))) (.int 1)) bA))))<|eB fun F p0 p1 p2 p3 p4 p5 p6 p7 p8=>by
 have:=@kz F V9 bA
 have:=@avB _ _ _ (.ar .add .i64 (.wr .i64 (.ar .shr .u64 (.wr .u64 (.ar .add .i64 V9 bA)) (.int 1))) (.int 1)) _ _ (.wr .i64 (.ar .shr .u64 (.wr .u64 (.ar .add .i64 V9 bA)) (.int 1))) p6 p2
 have:=@aM F (.wr .i64 (.ar .shr .u64 (.wr .u64 (.ar .add .i64 V9 bA)) (.int 1))) (.int 1)
 try simp only[aa]at *
 grind
def auR:=fb (sV::(.not Qy)::Tl) (fn 194 (pr aw (pr V0 (pr V9 (.wr .i64 (.ar .shr .u64 (.wr .u64 (.ar .add .i64 V9 bA)) (.int 1)))))))<|eB fun F p0 p1 p2 p3 p4 p5 p6 p7 p8=>by
 have:=@kz F V9 bA
 have:=@ao8 _ _ _ _ _ (.wr .i64 (.ar .shr .u64 (.wr .u64 (.ar .add .i64 V9 bA)) (.int 1))) p6 p2
 try simp only[aa]at *
 grind
def aDT:=fb uS (cmp .lss (fn 7 (pr bA (.ar .add .i64 (.wr .i64 (.ar .shr .u64 (.wr .u64 (.ar .add .i64 V9 bA)) (.int 1))) (.int 1)))) (fn 7 (pr bA V9)))<|aH fun F p0 p1 p2 p3=>by
 have:=@kz F V9 bA
 try simp only[aa,ae]at *
 obtain⟨a8,ea8,qa8⟩:=ab (E.I F (.ar .shr .u64 (.wr .u64 (.ar .add .i64 V9 bA)) (.int 1)))
 try simp only[ea8]at *
 obtain⟨a9,ea9,qa9⟩:=ab (a8+(1))
 omega
def aFo:=fb EP (cmp .lss (fn 7 (pr (.wr .i64 (.ar .shr .u64 (.wr .u64 (.ar .add .i64 V9 bA)) (.int 1))) V9)) (fn 7 (pr bA V9)))<|aR fun F p0 p1 p2 p3 p4=>by
 have:=@kz F V9 bA
 try simp only[aa]at *
 omega
def aIr:=fb EP (.not (cmp .lss (fn 7 (pr bA (.ar .add .i64 (.wr .i64 (.ar .shr .u64 (.wr .u64 (.ar .add .i64 V9 bA)) (.int 1))) (.int 1)))) (.int 0)))<|aR fun F p0 p1 p2 p3 p4=>by
 have:=@kz F V9 bA
 try simp only[aa,ae]at *
 obtain⟨a8,ea8,qa8⟩:=ab (E.I F (.ar .shr .u64 (.wr .u64 (.ar .add .i64 V9 bA)) (.int 1)))
 try simp only[ea8]at *
 obtain⟨a9,ea9,qa9⟩:=ab (a8+(1))
 omega
def aop:=fb uS (.not (cmp .lss (fn 7 (pr (.wr .i64 (.ar .shr .u64 (.wr .u64 (.ar .add .i64 V9 bA)) (.int 1))) V9)) (.int 0)))<|aH fun F p0 p1 p2 p3=>by
 have:=@kz F V9 bA
 try simp only[aa]at *
 omega
def p61:List Fa:=[avx,anz,aor,ah8,auj,asw,ao6,aAV,azd,apV,ahK,auR,aDT,aFo,aIr,aop]
theorem apK:aW Try.prog (bu (aFC)):=sc p61 (axO) afQ ([]) (by kernel_rfl) (by kernel_rfl)
def UL:Nl:=nc apK afQ
def p62:List Fa:=[]
theorem aBQ:aW Try.prog (bu (aHg)):=sc p62 ([]) UL ([]) (by kernel_rfl) (by kernel_rfl)
def afn:Nl:=nc aBQ UL
def ayg:=fb ([(fn 200 (pr (var 18) (fn 1 (pr V6 (.int 0)))))]) (fn 191 (pr (var 18) (pr (fn 1 (pr V6 (.int 0))) (pr bc (.int 0)))))<|aB fun F p0=>by
 exact PF p0 (Int.le_refl _)
def ayP:=fb ([zt,V5,(.not wF)]) (cmp .eql V7 (.int 1))<|am fun F p0 p1 p2=>by
 have:=@kp F V4 V7 V6 aw V0 V1 V2 V3
 have:=@dN F V7 V6
 try simp only[aa]at *
 grind
def anB:=fb ([(fn 200 (pr bl (fn 1 (pr V6 (.int 0)))))]) (fn 191 (pr bl (pr (fn 1 (pr V6 (.int 0))) (pr (fn 10 (.int 0)) (.int 0)))))<|aB fun F p0=>by
 exact PF p0 (Int.le_refl _)
def aBI:=fb ([zt,V5]) (.not V32)<|ax fun F p0 p1=>by
 simp_all[qh]
def als:=fb ([zt]) (.and V8 V5)<|aB fun F p0=>by
 simp_all[kp]
def aB5:=fb ([Ip,Vx,wF]) (fn 199 (pr (fn 23 (pr (fn 1 (pr bl (.int 0))) (fn 23 (pr (fn 1 (pr bl (.int 1))) (fn 23 (pr V9 (fn 23 (pr bA (fn 23 (pr mX (fn 23 (pr eG (fn 23 (pr (fn 1 (pr bl (.int 6))) (fn 23 (pr (fn 1 (pr bl (.int 7))) (fn 23 (pr (fn 1 (pr bl (.int 8))) (fn 23 (pr (fn 1 (pr bl (.int 9))) (fn 23 (pr (fn 1 (pr bl (.int 10))) (fn 23 (pr (fn 1 (pr bl (.int 11))) (fn 23 (pr (fn 1 (pr bl (.int 12))) (fn 23 (pr (fn 1 (pr bl (.int 13))) (fn 23 (pr (fn 1 (pr bl (.int 14))) (fn 23 (pr (fn 1 (pr bl (.int 15))) (fn 23 (pr (fn 1 (pr bl (.int 16))) (fn 23 (pr (fn 1 (pr bl (.int 17))) (fn 23 (pr (fn 1 (pr bl (.int 18))) (fn 23 (pr (fn 1 (pr bl (.int 19))) (fn 23 (pr (fn 1 (pr bl (.int 20))) (fn 23 (pr (fn 1 (pr bl (.int 21))) (fn 23 (pr (fn 1 (pr bl (.int 22))) (fn 23 (pr (fn 1 (pr bl (.int 23))) (fn 23 (pr (fn 1 (pr bl (.int 24))) (fn 23 (pr (fn 1 (pr bl (.int 25))) (fn 23 (pr (fn 1 (pr bl (.int 26))) (fn 23 (pr (fn 1 (pr bl (.int 27))) (fn 23 (pr (fn 1 (pr bl (.int 28))) (fn 23 (pr (fn 1 (pr bl (.int 29))) (fn 23 (pr (fn 1 (pr bl (.int 30))) (fn 23 (pr (fn 1 (pr bl (.int 31))) (fn 23 (pr (fn 1 (pr bl (.int 32))) (fn 23 (pr (fn 1 (pr bl (.int 33))) (fn 23 (pr (fn 1 (pr bl (.int 34))) (fn 23 (pr (fn 1 (pr bl (.int 35))) (fn 23 (pr (fn 1 (pr bl (.int 36))) (fn 23 (pr (fn 1 (pr bl (.int 37))) (fn 10 (.int 0)))))))))))))))))))))))))))))))))))))))))))))))))))))))))))))))))))))))))))))) Mn))<|am fun F p0 p1 p2=>by
 have hq:=by
  simp only[aa]at *;omega
 have h1:=Dv 0 (by decide) p1 p0 hq;exact h1
def ay2:=fb ([Jf,V99,wF]) (fn 199 (pr (fn 23 (pr (fn 1 (pr bc (.int 0))) (fn 23 (pr (fn 1 (pr bc (.int 1))) (fn 23 (pr V9 (fn 23 (pr bA (fn 23 (pr mX (fn 23 (pr eG (fn 23 (pr (fn 1 (pr bc (.int 6))) (fn 23 (pr (fn 1 (pr bc (.int 7))) (fn 23 (pr (fn 1 (pr bc (.int 8))) (fn 23 (pr (fn 1 (pr bc (.int 9))) (fn 23 (pr (fn 1 (pr bc (.int 10))) (fn 23 (pr (fn 1 (pr bc (.int 11))) (fn 23 (pr (fn 1 (pr bc (.int 12))) (fn 23 (pr (fn 1 (pr bc (.int 13))) (fn 23 (pr (fn 1 (pr bc (.int 14))) (fn 23 (pr (fn 1 (pr bc (.int 15))) (fn 23 (pr (fn 1 (pr bc (.int 16))) (fn 23 (pr (fn 1 (pr bc (.int 17))) (fn 23 (pr (fn 1 (pr bc (.int 18))) (fn 23 (pr (fn 1 (pr bc (.int 19))) (fn 23 (pr (fn 1 (pr bc (.int 20))) (fn 23 (pr (fn 1 (pr bc (.int 21))) (fn 23 (pr (fn 1 (pr bc (.int 22))) (fn 23 (pr (fn 1 (pr bc (.int 23))) (fn 23 (pr (fn 1 (pr bc (.int 24))) (fn 23 (pr (fn 1 (pr bc (.int 25))) (fn 23 (pr (fn 1 (pr bc (.int 26))) (fn 23 (pr (fn 1 (pr bc (.int 27))) (fn 23 (pr (fn 1 (pr bc (.int 28))) (fn 23 (pr (fn 1 (pr bc (.int 29))) (fn 23 (pr (fn 1 (pr bc (.int 30))) (fn 23 (pr (fn 1 (pr bc (.int 31))) (fn 23 (pr (fn 1 (pr bc (.int 32))) (fn 23 (pr (fn 1 (pr bc (.int 33))) (fn 23 (pr (fn 1 (pr bc (.int 34))) (fn 23 (pr (fn 1 (pr bc (.int 35))) (fn 23 (pr (fn 1 (pr bc (.int 36))) (fn 23 (pr (fn 1 (pr bc (.int 37))) (fn 10 (.int 0)))))))))))))))))))))))))))))))))))))))))))))))))))))))))))))))))))))))))))))) FB))<|am fun F p0 p1 p2=>by
 have hq:=by
  simp only[aa]at *;omega
 have h1:=Dv 0 (by decide) p1 p0 hq;exact h1
def aFB:=fb UK (fn 193 zS)<|aB fun F p0=>by
 exact avX p0
def akU:=fb ((.not sm)::Jh::wL::ab8::Q4) acY<|aR fun F p0 p1 p2 p3 p4=>by
 have hi:E.I F eM=E.I F (fn 9 (pr (fn 1 (pr V6 (.int 0))) (.int 12))):=by
  simp only[aa]at *;omega
 have h1:=@af9 _ _ _ _ _ _ _ _ _ (pr uD ka) _ _ _ _ p3 p4 hi;exact h1
def aml:=fb WE (.not (cmp .lss (.ar .add .i64 eM (.int 1)) (.int 0)))<|aH fun F p0 p1 p2 p3=>by
 have:=@gz F V6
 try simp only[aa,ae]at *
 obtain⟨a5,ea5,qa5⟩:=ab ((E.I F eM)+(1))
 grind
def asl:=fb ([(.not sm),agy,PJ,Jh,wL]) acY<|aR fun F p0 p1 p2 p3 p4=>by
 have hi:E.I F eM=E.I F (fn 9 (pr (fn 1 (pr V6 (.int 0))) (.int 12))):=by
  simp only[aa]at *;omega
 have h1:=@af9 _ _ _ _ _ _ _ _ _ (pr uD ka) _ _ _ _ p1 p2 hi;exact h1
def akM:=fb ([Ip,Vx,(.not wF),V8]) (fn 199 (pr (fn 23 (pr (fn 1 (pr bl (.int 0))) (fn 23 (pr (fn 1 (pr bl (.int 1))) (fn 23 (pr (fn 1 (pr bl (.int 2))) (fn 23 (pr (fn 1 (pr bl (.int 3))) (fn 23 (pr (fn 1 (pr bl (.int 4))) (fn 23 (pr (fn 1 (pr bl (.int 5))) (fn 23 (pr (fn 1 (pr bl (.int 6))) (fn 23 (pr (fn 1 (pr bl (.int 7))) (fn 23 (pr (fn 1 (pr bl (.int 8))) (fn 23 (pr (fn 1 (pr bl (.int 9))) (fn 23 (pr (fn 1 (pr bl (.int 10))) (fn 23 (pr (fn 1 (pr bl (.int 11))) (fn 23 (pr (fn 1 (pr bl (.int 12))) (fn 23 (pr (fn 1 (pr bl (.int 13))) (fn 23 (pr (fn 1 (pr bl (.int 14))) (fn 23 (pr (fn 1 (pr bl (.int 15))) (fn 23 (pr V9 (fn 23 (pr bA (fn 23 (pr mX (fn 23 (pr eG (fn 23 (pr (fn 1 (pr bl (.int 20))) (fn 23 (pr (fn 1 (pr bl (.int 21))) (fn 23 (pr (fn 1 (pr bl (.int 22))) (fn 23 (pr (fn 1 (pr bl (.int 23))) (fn 23 (pr (fn 1 (pr bl (.int 24))) (fn 23 (pr (fn 1 (pr bl (.int 25))) (fn 23 (pr (fn 1 (pr bl (.int 26))) (fn 23 (pr (fn 1 (pr bl (.int 27))) (fn 23 (pr (fn 1 (pr bl (.int 28))) (fn 23 (pr (fn 1 (pr bl (.int 29))) (fn 23 (pr (fn 1 (pr bl (.int 30))) (fn 23 (pr (fn 1 (pr bl (.int 31))) (fn 23 (pr (fn 1 (pr bl (.int 32))) (fn 23 (pr (fn 1 (pr bl (.int 33))) (fn 23 (pr (fn 1 (pr bl (.int 34))) (fn 23 (pr (fn 1 (pr bl (.int 35))) (fn 23 (pr (fn 1 (pr bl (.int 36))) (fn 23 (pr (fn 1 (pr bl (.int 37))) (fn 10 (.int 0)))))))))))))))))))))))))))))))))))))))))))))))))))))))))))))))))))))))))))))) Mn))<|aH fun F p0 p1 p2 p3=>by
 have hq:E.I F V7=1:=by
  have:=Eq.mp dN p3
  simp only[aa]at *;omega
 have h1:=Dv 1 (by decide) p1 p0 hq;exact h1
def av6:=fb ([Jf,V99,(.not wF),V8]) (fn 199 (pr (fn 23 (pr (fn 1 (pr bc (.int 0))) (fn 23 (pr (fn 1 (pr bc (.int 1))) (fn 23 (pr (fn 1 (pr bc (.int 2))) (fn 23 (pr (fn 1 (pr bc (.int 3))) (fn 23 (pr (fn 1 (pr bc (.int 4))) (fn 23 (pr (fn 1 (pr bc (.int 5))) (fn 23 (pr (fn 1 (pr bc (.int 6))) (fn 23 (pr (fn 1 (pr bc (.int 7))) (fn 23 (pr (fn 1 (pr bc (.int 8))) (fn 23 (pr (fn 1 (pr bc (.int 9))) (fn 23 (pr (fn 1 (pr bc (.int 10))) (fn 23 (pr (fn 1 (pr bc (.int 11))) (fn 23 (pr (fn 1 (pr bc (.int 12))) (fn 23 (pr (fn 1 (pr bc (.int 13))) (fn 23 (pr (fn 1 (pr bc (.int 14))) (fn 23 (pr (fn 1 (pr bc (.int 15))) (fn 23 (pr V9 (fn 23 (pr bA (fn 23 (pr mX (fn 23 (pr eG (fn 23 (pr (fn 1 (pr bc (.int 20))) (fn 23 (pr (fn 1 (pr bc (.int 21))) (fn 23 (pr (fn 1 (pr bc (.int 22))) (fn 23 (pr (fn 1 (pr bc (.int 23))) (fn 23 (pr (fn 1 (pr bc (.int 24))) (fn 23 (pr (fn 1 (pr bc (.int 25))) (fn 23 (pr (fn 1 (pr bc (.int 26))) (fn 23 (pr (fn 1 (pr bc (.int 27))) (fn 23 (pr (fn 1 (pr bc (.int 28))) (fn 23 (pr (fn 1 (pr bc (.int 29))) (fn 23 (pr (fn 1 (pr bc (.int 30))) (fn 23 (pr (fn 1 (pr bc (.int 31))) (fn 23 (pr (fn 1 (pr bc (.int 32))) (fn 23 (pr (fn 1 (pr bc (.int 33))) (fn 23 (pr (fn 1 (pr bc (.int 34))) (fn 23 (pr (fn 1 (pr bc (.int 35))) (fn 23 (pr (fn 1 (pr bc (.int 36))) (fn 23 (pr (fn 1 (pr bc (.int 37))) (fn 10 (.int 0)))))))))))))))))))))))))))))))))))))))))))))))))))))))))))))))))))))))))))))) FB))<|aH fun F p0 p1 p2 p3=>by
 have hq:E.I F V7=1:=by
  have:=Eq.mp dN p3
  simp only[aa]at *;omega
 have h1:=Dv 1 (by decide) p1 p0 hq;exact h1
def akn:=fb (V8::(fn 116 V6)::UK) OJ<|am fun F p0 p1 p2=>by
 have h1:=@UG _ lZ _ _ _ _ _ _ (pr uD ka) _ _ _ _ p2 p1 p0;exact h1
def ai5:=fb acu (.not (cmp .lss ka (.ar .add .i64 eM (.int 1))))<|aR fun F p0 p1 p2 p3 p4=>by
 try simp only[aa,ae]at *
 obtain⟨a5,ea5,qa5⟩:=ab ((E.I F eM)+(1))
 omega
def akL:=fb ([agy,V8,(fn 116 V6)]) OJ<|am fun F p0 p1 p2=>by
 have h1:=@UG _ lZ _ _ _ _ _ _ (pr uD ka) _ _ _ _ p0 p2 p1;exact h1
def au1:=fb ([sm,PJ,JA,wL,Ek]) (fn 191 (pr lZ (pr (fn 1 (pr V6 (.int 0))) (pr (fn 10 (.int 0)) (.ar .add .i64 eM (.int 1))))))<|aR fun F p0 p1 p2 p3 p4=>by
 have:=fun h0 hm=>@aly _ _ _ _ _ (.ar .add .i64 eM (.int 1)) p1 h0 hm
 have:=@aM F eM (.int 1)
 have:=@gz F V6
 try simp only[aa]at *
 grind
def alp:=fb (sm::Rf::(var 33)::agK) (fn 191 (pr (fn 2 (pr lZ (pr (fn 6 (pr (fn 8 (pr eM (.int 12))) (.int 9))) IG))) Xt))<|de fun F p0 p1 p2 p3 p4 p5 p6=>by
 have:=fun h0 hm hn=>@aGF _ _ _ _ (.ar .add .i64 eM (.int 1)) _ p6 h0 hm hn
 have:=@aM F eM (.int 1)
 have:=@gz F V6
 try simp only[aa]at *
 grind
def akx:=fb (sm::Rf::(.not (var 33))::agK) (fn 191 (pr lZ Xt))<|de fun F p0 p1 p2 p3 p4 p5 p6=>by
 have:=fun h0 hm hn=>@aeN _ _ _ _ (.ar .add .i64 eM (.int 1)) _ p6 h0 hm hn
 have:=@aM F eM (.int 1)
 have:=@gz F V6
 try simp only[aa]at *
 grind
def aBq:=fb WE (cmp .lss (fn 7 (pr ka (.ar .add .i64 eM (.int 1)))) (fn 7 (pr ka eM)))<|aH fun F p0 p1 p2 p3=>by
 have:=@gz F V6
 try simp only[aa,ae]at *
 obtain⟨a5,ea5,qa5⟩:=ab ((E.I F eM)+(1))
 grind
def atS:=fb acu (.not (cmp .lss (fn 7 (pr ka (.ar .add .i64 eM (.int 1)))) (.int 0)))<|aR fun F p0 p1 p2 p3 p4=>by
 try simp only[aa,ae]at *
 obtain⟨a5,ea5,qa5⟩:=ab ((E.I F eM)+(1))
 omega
def p63:List Fa:=[jM,ayg,ayP,anB,aBI,als,aB5,ay2,aFB,akU,aml,asl,akM,av6,akn,ai5,akL,au1,alp,akx,aBq,atS]
theorem aqq:aW Try.prog (bu (avW)):=sc p63 (apm) afn (msB) (by kernel_rfl) (by kernel_rfl)
def WN:Nl:=nc aqq afn
end
end Go.Proofs.Ytnnbmcfabojjjaa.payHolds
