/-
  PayPays: contracts of functions, part 9.
-/
import Derived.Test.YtnnbmcfabojjjaaGreatPayPaysParth
namespace Go.Proofs.YtnnbmcfabojjjaaGreat.payPays
open Go.ChangeShapes Go.WideShapes Go.ChangeAt Go.RowKit
open Go.SX
open Go.SX.E (fn pr cmp var)
set_option linter.unusedVariables false
set_option linter.unusedSimpArgs false
set_option maxRecDepth 100000
noncomputable section
abbrev V0:E:=var 3
abbrev V1:E:=var 0
abbrev V2:E:=var 8
abbrev V3:E:=var 1
abbrev V4:E:=cmp .lss V2 V3
abbrev V5:E:=cmp .eql (fn 1 (pr V1 (fn 6 (pr (fn 8 (pr V2 (.int 2))) (.int 1))))) V0
abbrev V6:E:=cmp .eql (fn 175 (pr V0 (pr V1 V2))) (.int (-1))
abbrev V7:E:=cmp .lss V2 (.int 0)
abbrev V8:E:=.not V7
abbrev V9:E:=cmp .eql (fn 0 V1) (fn 8 (pr V3 (.int 2)))
abbrev V10:=[V8,V9]
abbrev nR:E:=.not (cmp .lss (.int 30) V3)
abbrev V12:=[V8,nR]
abbrev V13:=V4::V12
abbrev V14:E:=cmp .lss V3 V2
abbrev V15:E:=.not V14
abbrev V16:=[V15]
abbrev V17:=V15::V12
abbrev V18:=V4::V17
abbrev nU:E:=.not (cmp .lss V0 (.int 0))
abbrev V20:E:=cmp .eql (fn 175 (pr (.int (-1)) (pr V1 V2))) (.int (-1))
abbrev aY:E:=var 4
abbrev mw:E:=cmp .eql aY (.ar .add .i64 V0 (.int 1))
abbrev jL:E:=cmp .lss V0 V3
abbrev aG:E:=var 2
abbrev A2:E:=.not (cmp .lss aG V3)
abbrev V26:E:=cmp .lss V3 (.int 0)
abbrev Oz:E:=.not V26
abbrev V28:=[Oz]
abbrev V29:=A2::V28
abbrev V30:=nR::V29
abbrev V31:=nU::V30
abbrev V32:=jL::V31
abbrev V33:=mw::V32
abbrev V34:=nR::V28
abbrev pL:=mw::jL::nU::V34
abbrev fN:=[jL,(cmp .eql V3 V0)]
abbrev V37:E:=cmp .eql V3 (fn 7 (pr V3 (.int 1)))
abbrev Gt:E:=cmp .lss aG V0
abbrev ua:E:=.not Gt
abbrev V40:E:=cmp .eql aG aY
abbrev V41:=[V40]
abbrev V42:=A2::V41
abbrev V43:=jL::V42
abbrev V44:=mw::V43
abbrev A5:E:=pr V1 V0
abbrev V46:E:=fn 186 (pr V1 A5)
abbrev OB:E:=cmp .lss V3 V0
abbrev OC:E:=.not OB
abbrev V49:E:=cmp .lss aG (.int 0)
abbrev OD:E:=.not V49
abbrev V51:E:=cmp .lss (fn 7 (pr V3 aY)) (.int 0)
abbrev V52:E:=.not V51
abbrev V53:=V9::V42
abbrev V54:E:=cmp .lss (.int 2147483648) V0
abbrev V55:E:=.not V54
abbrev V56:E:=cmp .lss V3 (fn 6 (pr aY (fn 7 (pr V3 aY))))
abbrev V57:E:=.not V56
abbrev V58:E:=cmp .lss (.int 2147483648) (fn 6 (pr V0 (fn 7 (pr V3 aY))))
abbrev V59:E:=.not V58
abbrev V60:E:=cmp .lss (fn 6 (pr V0 (fn 7 (pr V3 aY)))) (.int 0)
abbrev V61:E:=.not V60
abbrev V62:E:=cmp .eql (fn 7 (pr V3 V0)) (.int 1)
abbrev V63:=Oz::V41
abbrev V64:=A2::V63
abbrev V65:=nR::V64
abbrev V66:=nU::V65
abbrev V67:=jL::V66
abbrev V68:=mw::V67
abbrev V69:E:=cmp .lss V3 (fn 6 (pr V0 (fn 7 (pr V3 aY))))
abbrev V70:E:=.not V69
abbrev V71:E:=cmp .eql (fn 7 (pr V3 (fn 6 (pr V0 (fn 7 (pr V3 aY)))))) (.int 1)
abbrev V72:E:=cmp .eql V0 (fn 7 (pr V3 (.int 1)))
abbrev V73:E:=cmp .lss (fn 6 (pr V0 (fn 7 (pr V3 aY)))) aG
abbrev V74:E:=cmp .eql (fn 6 (pr (fn 0 (fn 18 (pr V1 (fn 8 (pr V0 (.int 2)))))) (fn 0 (fn 18 (pr V1 (fn 8 (pr (.int 0) (.int 2)))))))) (fn 8 (pr V0 (.int 2)))
abbrev V75:=nR::V53
abbrev V76:=nU::V75
abbrev V77:=jL::V76
abbrev V78:=mw::V77
abbrev V79:E:=cmp .eql (fn 6 (pr V0 (fn 7 (pr V3 aY)))) (fn 7 (pr V3 (.int 1)))
abbrev V80:E:=pr (fn 3 (pr (fn 18 (pr V1 (fn 8 (pr V0 (.int 2))))) (fn 18 (pr V1 (fn 8 (pr (.int 0) (.int 2))))))) A5
abbrev V81:E:=fn 186 V80
abbrev V82:E:=cmp .eql (fn 6 (pr (fn 0 (fn 18 (pr V1 (fn 8 (pr V0 (.int 2)))))) (fn 0 (fn 4 (pr V1 (pr (fn 8 (pr aY (.int 2))) (fn 8 (pr (fn 6 (pr aY (fn 7 (pr V3 aY)))) (.int 2))))))))) (fn 8 (pr (fn 6 (pr V0 (fn 7 (pr V3 aY)))) (.int 2)))
abbrev V83:E:=pr (fn 3 (pr (fn 18 (pr V1 (fn 8 (pr V0 (.int 2))))) (fn 4 (pr V1 (pr (fn 8 (pr aY (.int 2))) (fn 8 (pr (fn 6 (pr aY (fn 7 (pr V3 aY)))) (.int 2)))))))) A5
abbrev V84:E:=fn 186 V83
abbrev aH:E:=var 11
abbrev cp:E:=var 10
abbrev fu:E:=var 5
abbrev OE:E:=cmp .eql aH (fn 175 (pr cp (pr aY fu)))
abbrev V89:E:=cmp .lss aH (.int 0)
abbrev V90:E:=cmp .lss fu (.int 0)
abbrev V91:E:=.not V90
abbrev w8:E:=.not V89
abbrev q8:E:=var 14
abbrev V94:E:=cmp .eql q8 (fn 7 (pr fu (.int 1)))
abbrev Gu:=[V94]
abbrev V96:E:=cmp .lss (var 6) fu
abbrev V97:E:=.not V96
abbrev V98:E:=cmp .lss (.int 30) fu
abbrev OF:E:=.not V98
abbrev Oa:E:=cmp .eql (fn 0 aY) (fn 8 (pr fu (.int 2)))
abbrev aRm:E:=pr (var 13) (pr aY aH)
abbrev aRn:E:=fn 186 aRm
abbrev aRo:=[aRn]
abbrev aRp:=w8::aRo
abbrev aRq:=OE::aRp
abbrev aeu:=Oa::aRq
abbrev aev:E:=pr (fn 10 (.int 0)) (.int 0)
abbrev Gb:E:=pr aY aev
abbrev AV:E:=.not (cmp .lss (.int 30) (fn 6 (pr fu V2)))
abbrev ey:E:=var 7
abbrev aew:E:=cmp .eql (fn 0 ey) V2
abbrev aRr:E:=cmp .lss V2 (.int 1)
abbrev aRs:E:=.not aRr
abbrev aex:=[aRs]
abbrev aRt:E:=cmp .lss (.int 2147483648) (fn 6 (pr V2 (.int 1)))
abbrev aey:E:=.not aRt
abbrev Gc:E:=pr aY (pr ey (.int 0))
abbrev tV:E:=var 12
abbrev Ob:E:=cmp .eql tV (fn 175 (pr (.int (-1)) (pr aY fu)))
abbrev aez:E:=cmp .lss tV (.int 0)
abbrev aeA:E:=cmp .eql (fn 175 (pr (.int (-1)) (pr aY fu))) (.int (-1))
abbrev Oc:E:=.not aez
abbrev pE:E:=var 15
abbrev aRu:E:=cmp .eql pE (fn 7 (pr fu (.int 1)))
abbrev Gd:=[aRu]
abbrev aRv:E:=pr q8 (pr aY tV)
abbrev aRw:E:=fn 186 aRv
abbrev aRx:=[aRw]
abbrev aRy:=Oc::aRx
abbrev aRz:=Ob::aRy
abbrev aeB:=Oa::aRz
abbrev Od:E:=pr V0 (.int 0)
abbrev Oe:E:=pr aG Od
abbrev Of:E:=pr V3 Oe
abbrev dG:E:=fn 188 (pr V1 Of)
abbrev nS:=[w8,dG]
abbrev Ge:=[dG,w8]
abbrev AW:E:=cmp .eql cp (.int 0)
abbrev AX:E:=cmp .eql cp (.int 1)
abbrev AY:E:=cmp .eql cp (.int 2)
abbrev aRA:E:=cmp .lss (.int 3) cp
abbrev Og:E:=.not aRA
abbrev aRB:E:=cmp .lss cp (.int 0)
abbrev Oh:E:=.not aRB
abbrev aRC:=[Oh,dG]
abbrev aeC:=Og::aRC
abbrev aRD:=w8::aeC
abbrev aRE:List E:=(.not AY)::aRD
abbrev aRF:List E:=(.not AX)::aRE
abbrev aeD:List E:=(.not AW)::aRF
abbrev qY:E:=pr V1 (pr V3 (pr aG (pr V0 Gb)))
abbrev tW:E:=.not (cmp .lss (.int 20) aH)
abbrev Oi:E:=pr cp (.int 0)
abbrev aeE:E:=pr V0 Oi
abbrev aeF:E:=pr aG aeE
abbrev fo:E:=var 34
abbrev jK:E:=cmp .lss fo aH
abbrev nT:E:=var 28
abbrev AZ:E:=var 29
abbrev Oj:E:=cmp .eql (fn 175 (pr cp (pr nT AZ))) (.int (-1))
abbrev pF:E:=var 24
abbrev pG:E:=var 25
abbrev pH:E:=var 26
abbrev pI:E:=var 27
abbrev aRG:E:=pr pH (pr pI Oi)
abbrev aRH:E:=pr pG aRG
abbrev aRI:E:=pr pF aRH
abbrev aeG:E:=fn 185 aRI
abbrev tX:E:=.imp jK aeG
abbrev A0:E:=.not (cmp .lss fo (.int 0))
abbrev aeH:E:=cmp .eql (fn 0 nT) (fn 8 (pr AZ (.int 2)))
abbrev aRJ:E:=pr fo qY
abbrev aeI:E:=pr cp aRJ
abbrev aRK:E:=pr (fn 10 (.int 0)) aeI
abbrev aRL:E:=pr nT aRK
abbrev aRM:E:=pr pI aRL
abbrev aRN:E:=pr pH aRM
abbrev aRO:E:=pr pG aRN
abbrev aRP:E:=pr pF aRO
abbrev aRQ:E:=fn 170 aRP
abbrev aeJ:=[aRQ]
abbrev aRR:=Oh::aeJ
abbrev aeK:=Og::aRR
abbrev Gf:E:=pr cp (pr aH qY)
abbrev Ol:=[A0,tW]
abbrev aRS:E:=cmp .lss aH fo
abbrev Om:E:=.not aRS
abbrev A1:E:=var 31
abbrev On:E:=fn 170 (pr pF (pr pG (pr pH (pr pI (pr nT (pr A1 aeI))))))
abbrev aRT:=[Oh]
abbrev aeL:=Og::aRT
abbrev aRU:=aeH::aeL
abbrev aeM:=A0::aRU
abbrev aeN:=[Om]
abbrev aRV:=Om::Ol
abbrev aeO:=jK::aRV
abbrev Gg:E:=var 40
abbrev Gh:E:=var 43
abbrev aRW:E:=pr (.ar .add .i64 fo (.int 1)) qY
abbrev aRX:E:=pr cp aRW
abbrev aRY:E:=pr Gh aRX
abbrev aRZ:E:=pr Gg aRY
abbrev aR0:E:=pr pI aRZ
abbrev aR1:E:=pr pH aR0
abbrev aR2:E:=pr pG aR1
abbrev aR3:E:=pr pF aR2
abbrev aeP:E:=fn 170 aR3
abbrev aR4:E:=pr nT (pr A1 (.int 0))
abbrev aR5:E:=pr cp aR4
abbrev aR6:E:=pr Gh aR5
abbrev aR7:E:=pr Gg aR6
abbrev aeQ:E:=fn 174 aR7
abbrev aR8:=tW::aeL
abbrev aeR:=A0::aR8
abbrev qZ:E:=pr V1 (pr V3 (pr aG (pr V0 Gc)))
abbrev Oo:E:=fn 170 (pr pF (pr pG (pr pH (pr pI (pr nT (pr A1 (pr cp (pr fo qZ))))))))
abbrev aeS:E:=pr cp (pr aH qZ)
abbrev aR9:E:=cmp .eql V0 (.int 0)
abbrev Oq:=[aR9]
abbrev aSa:=Gt::Oq
abbrev Gi:=dG::aSa
abbrev Ot:E:=pr (.int 4) (pr (.int 1) qY)
abbrev tY:E:=fn 171 Ot
abbrev tZ:E:=fn 170 (pr V1 (pr V3 (pr aG (pr V0 (pr pE (pr (var 18) Ot))))))
abbrev pJ:E:=cmp .lss V1 V3
abbrev w6:E:=cmp .lss V3 aG
abbrev aSb:=[pJ,w6,Gt]
abbrev Ou:=dG::aSb
abbrev Gj:E:=fn 188 (pr V1 (pr V3 (pr aG (pr (.ar .sub .i64 V0 (.int 1)) (.int 0)))))
abbrev aSc:E:=cmp .eql aG (.int 0)
abbrev aeT:=[aSc]
abbrev aSd:=w6::aeT
abbrev Gk:=dG::aSd
abbrev aSe:E:=pr (.ar .sub .i64 aG (.int 1)) Od
abbrev aSf:E:=pr V3 aSe
abbrev aSg:E:=pr V1 aSf
abbrev aeU:E:=fn 188 aSg
abbrev aSh:=OB::Oq
abbrev Gl:=dG::aSh
abbrev aeV:E:=.not w6
abbrev aSi:=[aeV,OB]
abbrev aSj:=pJ::aSi
abbrev Ov:=dG::aSj
abbrev aSk:E:=cmp .eql V3 (.int 0)
abbrev aSl:=[aSk]
abbrev aSm:=pJ::aSl
abbrev Gm:=dG::aSm
abbrev pK:E:=.not pJ
abbrev w7:E:=cmp .lss V1 aG
abbrev aSn:=[pK,w7,Gt]
abbrev Ow:=dG::aSn
abbrev aSo:=w7::aeT
abbrev Gn:=dG::aSo
abbrev Ox:E:=cmp .lss V1 V0
abbrev aSp:=Ox::Oq
abbrev Gp:=dG::aSp
abbrev A3:E:=.not w7
abbrev aSq:=[pK,A3,Ox]
abbrev Oy:=dG::aSq
abbrev Gq:E:=.not Ox
abbrev A4:E:=cmp .eql V1 (.int 0)
abbrev aSr:=[pK,A3,Gq,A4,aeA]
abbrev aSs:=Oa::aSr
abbrev aeW:=dG::aSs
abbrev aSt:E:=pr (fn 10 (.int 0)) Ot
abbrev aeX:E:=pr aY aSt
abbrev Gr:E:=fn 170 (pr V1 (pr V3 (pr aG (pr (.ar .sub .i64 V0 (.int 1)) aeX))))
abbrev aeY:E:=pr V0 aeX
abbrev aSu:E:=pr (.ar .sub .i64 aG (.int 1)) aeY
abbrev aSv:E:=pr V3 aSu
abbrev aSw:E:=pr V1 aSv
abbrev aeZ:E:=fn 170 aSw
abbrev aSx:=[aeV,OC]
abbrev aSy:=pJ::aSx
abbrev ae0:=dG::aSy
abbrev ae1:E:=pr aG aeY
abbrev aSz:=[pK,A3,Gq,(.not A4)]
abbrev ae2:=dG::aSz
abbrev OA:E:=pr (.int 4) (pr (.int 1) qZ)
abbrev t7:E:=fn 171 OA
abbrev t8:E:=fn 170 (pr V1 (pr V3 (pr aG (pr V0 (pr pE (pr (var 18) OA))))))
abbrev aSA:E:=pr ey OA
abbrev ae3:E:=pr aY aSA
abbrev Gs:E:=fn 170 (pr V1 (pr V3 (pr aG (pr (.ar .sub .i64 V0 (.int 1)) ae3))))
abbrev ae4:E:=pr V0 ae3
abbrev aSB:E:=pr (.ar .sub .i64 aG (.int 1)) ae4
abbrev aSC:E:=pr V3 aSB
abbrev aSD:E:=pr V1 aSC
abbrev ae5:E:=fn 170 aSD
abbrev ae6:E:=pr aG ae4
def aJc:=fa ((cmp .eql (fn 175 (pr V0 (pr V1 (.int 0)))) (.int (-1))))<|fun F=>by
 rfl
def aJd:=fb (V4::V5::V6::V10) (cmp .eql V2 (fn 175 (pr V0 (pr V1 V3))))<|aw fun F p0 p1 p2 p3 p4=>by
 have:=@apm F V1 V0 V3 V2
 simp only[aa]at *;grind
def aJe:=fb V13 (.not (cmp .lss (.ar .add .i64 V2 (.int 1)) (.int 0)))<|ag fun F p0 p1 p2=>by
 simp only[aa,ab]at *
 obtain⟨a,b,c⟩:=ae (E.I F V2+1)
 omega
def aJf:=fb ((.not V4)::V6::V16) (cmp .eql (fn 175 (pr V0 (pr V1 V3))) (.int (-1)))<|ag fun F p0 p1 p2=>by
 have:=@apl F V1 V0 V3 V2
 simp only[aa]at *;grind
def aJg:=fb V18 (.not (cmp .lss V3 (.ar .add .i64 V2 (.int 1))))<|am fun F p0 p1 p2 p3=>by
 simp only[aa,ab]at *
 obtain⟨a,b,c⟩:=ae (E.I F V2+1)
 omega
def aJh:=fb [V4,(.not V5),V6,V8,nU,nR,V9] (cmp .eql (fn 175 (pr V0 (pr V1 (.ar .add .i64 V2 (.int 1))))) (.int (-1)))<|bL fun F p0 p1 p2 p3 p4 p5 p6=>by
 have:=@ay F V2 (.int 1)
 have:=@a5h F V1 V0 V3 (.ar .add .i64 V2 (.int 1)) V2
 simp only[aa]at *;grind
def aJi:=fb V13 (cmp .lss (fn 7 (pr V3 (.ar .add .i64 V2 (.int 1)))) (fn 7 (pr V3 V2)))<|ag fun F p0 p1 p2=>by
 simp only[aa,ab]at *
 obtain⟨a,b,c⟩:=ae (E.I F V2+1)
 omega
def aJj:=fb V18 (.not (cmp .lss (fn 7 (pr V3 (.ar .add .i64 V2 (.int 1)))) (.int 0)))<|am fun F p0 p1 p2 p3=>by
 simp only[aa,ab]at *
 obtain⟨a,b,c⟩:=ae (E.I F V2+1)
 omega
def p51:List Fa:=[aJc,aJd,aJe,aJf,aJg,aJh,aJi,aJj]
theorem a3p:aI Tryz.prog (aX (aoE false)):=sc p51 (aii false) al8 ([]) (by kernel_rfl) (by kernel_rfl)
def al9:Nl:=nc a3p al8
def aJk:=fa ((cmp .eql (fn 175 (pr (.int (-1)) (pr V1 (.int 0)))) (.int (-1))))<|fun F=>by
 rfl
def aJl:=fb (V4::V20::V10) (cmp .eql V2 (fn 175 (pr (.int (-1)) (pr V1 V3))))<|am fun F p0 p1 p2 p3=>by
 have:=@apm F V1 (.int (-1)) V3 V2
 simp only[aa]at *;grind
def aJm:=fb ((.not V4)::V20::V16) (cmp .eql (fn 175 (pr (.int (-1)) (pr V1 V3))) (.int (-1)))<|ag fun F p0 p1 p2=>by
 have:=@apl F V1 (.int (-1)) V3 V2
 simp only[aa]at *;grind
def p52:List Fa:=[aJk,aJl,aJm]
theorem a3q:aI Tryz.prog (aX (aoE true)):=sc p52 (aii true) al9 ([]) (by kernel_rfl) (by kernel_rfl)
def ama:Nl:=nc a3q al9
def aJn:=fb V33 (.not (cmp .lss aG (fn 6 (pr V0 (fn 7 (pr V3 aY))))))<|bq fun F p0 p1 p2 p3 p4 p5=>by
 simp only[aa,ab]at *
 obtain⟨a,b,c⟩:=ae (E.I F V0+1)
 omega
def aJo:=fb pL (cmp .lss (fn 6 (pr V0 (fn 7 (pr V3 aY)))) V3)<|aw fun F p0 p1 p2 p3 p4=>by
 simp only[aa,ab]at *
 obtain⟨a,b,c⟩:=ae (E.I F V0+1)
 omega
def aJp:=fb pL (.not (cmp .lss aY (.int 0)))<|aw fun F p0 p1 p2 p3 p4=>by
 simp only[aa,ab]at *
 obtain⟨a,b,c⟩:=ae (E.I F V0+1)
 omega
def aJq:=fb pL (.not (cmp .lss V3 aY))<|aw fun F p0 p1 p2 p3 p4=>by
 simp only[aa,ab]at *
 obtain⟨a,b,c⟩:=ae (E.I F V0+1)
 omega
def aJr:=fb pL (.not (cmp .lss aY V0))<|aw fun F p0 p1 p2 p3 p4=>by
 simp only[aa,ab]at *
 obtain⟨a,b,c⟩:=ae (E.I F V0+1)
 omega
def aJs:=fb fN V37<|ai fun F p0 p1=>by
 simp only[aa]at *;omega
def aJt:=fb fN ua<|ai fun F p0 p1=>by
 simp only[aa]at *;omega
def aJu:=fb [mw,jL,nU,nR,Oz,(cmp .eql V0 aY)] V37<|bq fun F p0 p1 p2 p3 p4 p5=>by
 simp only[aa,ab]at *
 obtain⟨a,b,c⟩:=ae (E.I F V0+1)
 omega
def aJv:=fb V44 ua<|am fun F p0 p1 p2 p3=>by
 simp only[aa]at *;omega
def aJw:=fb [jL,A2] ua<|ai fun F p0 p1=>by
 simp only[aa]at *;omega
def aJx:=fb fN V46<|ai fun F p0 p1=>by
 simp only[aa]at *;omega
def aJy:=fb fN OC<|ai fun F p0 p1=>by
 simp only[aa]at *;omega
def aJz:=fb [mw,jL,nU,nR,(cmp .eql V0 aY)] V46<|aw fun F p0 p1 p2 p3 p4=>by
 simp only[aa,ab]at *
 obtain⟨a,b,c⟩:=ae (E.I F V0+1)
 omega
def aJA:=fb [jL] OC<|aj fun F p0=>by
 simp only[aa]at *;omega
def aJB:=fb fN OD<|ai fun F p0 p1=>by
 simp only[aa]at *;omega
def aJC:=fb fN V52<|ai fun F p0 p1=>by
 simp only[aa]at *;omega
def aJD:=fb (mw::V53) OD<|am fun F p0 p1 p2 p3=>by
 simp only[aa]at *
 have:=@cm F V1
 omega
def aJE:=fb pL V52<|aw fun F p0 p1 p2 p3 p4=>by
 simp only[aa,ab]at *
 obtain⟨a,b,c⟩:=ae (E.I F V0+1)
 omega
def aJF:=fb fN V55<|ai fun F p0 p1=>by
 simp only[aa]at *;omega
def aJG:=fb fN V57<|ai fun F p0 p1=>by
 simp only[aa]at *;omega
def aJH:=fb (jL::V34) V55<|ag fun F p0 p1 p2=>by
 simp only[aa]at *;omega
def aJI:=fa (V57)<|fun F=>by
 simp only[aa]at *;omega
def aJJ:=fb [V9,A2] OD<|ai fun F p0 p1=>by
 simp only[aa]at *
 have:=@cm F V1
 omega
def aJK:=fb fN V59<|ai fun F p0 p1=>by
 simp only[aa]at *;omega
def aJL:=fb pL V59<|aw fun F p0 p1 p2 p3 p4=>by
 simp only[aa,ab]at *
 obtain⟨a,b,c⟩:=ae (E.I F V0+1)
 omega
def aJM:=fb fN V61<|ai fun F p0 p1=>by
 simp only[aa]at *;omega
def aJN:=fb fN V62<|ai fun F p0 p1=>by
 simp only[aa]at *;omega
def aJO:=fb [mw,jL,nU,V9] V61<|am fun F p0 p1 p2 p3=>by
 simp only[aa,ab]at *
 obtain⟨a,b,c⟩:=ae (E.I F V0+1)
 omega
def aJP:=fb V68 V62<|bL fun F p0 p1 p2 p3 p4 p5 p6=>by
 simp only[aa,ab]at *
 obtain⟨a,b,c⟩:=ae (E.I F V0+1)
 omega
def aJQ:=fb fN V70<|ai fun F p0 p1=>by
 simp only[aa]at *;omega
def aJR:=fb fN (cmp .lss V0 aG)<|ai fun F p0 p1=>by
 simp only[aa]at *;omega
def aJS:=fb pL V70<|aw fun F p0 p1 p2 p3 p4=>by
 simp only[aa,ab]at *
 obtain⟨a,b,c⟩:=ae (E.I F V0+1)
 omega
def aJT:=fb V44 (cmp .lss V0 aG)<|am fun F p0 p1 p2 p3=>by
 simp only[aa]at *;omega
def aJU:=fb fN V71<|ai fun F p0 p1=>by
 simp only[aa]at *;omega
def aJV:=fb fN V72<|ai fun F p0 p1=>by
 simp only[aa]at *;omega
def aJW:=fb pL V71<|aw fun F p0 p1 p2 p3 p4=>by
 simp only[aa,ab]at *
 obtain⟨a,b,c⟩:=ae (E.I F V0+1)
 omega
def aJX:=fb V68 V72<|bL fun F p0 p1 p2 p3 p4 p5 p6=>by
 simp only[aa,ab]at *
 obtain⟨a,b,c⟩:=ae (E.I F V0+1)
 omega
def aJY:=fb fN V73<|ai fun F p0 p1=>by
 simp only[aa]at *;omega
def aJZ:=fb fN V74<|ai fun F p0 p1=>by
 simp only[aa]at *;omega
def aJ0:=fb V33 V73<|bq fun F p0 p1 p2 p3 p4 p5=>by
 simp only[aa,ab]at *
 obtain⟨a,b,c⟩:=ae (E.I F V0+1)
 omega
def aJ1:=fb V78 V74<|bL fun F p0 p1 p2 p3 p4 p5 p6=>by
 have:=@RT F (fn 8 (pr V0 (.int 2))) V1
 have:=@RT F (fn 8 (pr (.int 0) (.int 2))) V1
 simp only[aa]at *;omega
def aJ2:=fb fN V79<|ai fun F p0 p1=>by
 simp only[aa]at *;omega
def aJ3:=fb fN V81<|ai fun F p0 p1=>by
 simp only[aa]at *;omega
def aJ4:=fb pL V79<|aw fun F p0 p1 p2 p3 p4=>by
 simp only[aa,ab]at *
 obtain⟨a,b,c⟩:=ae (E.I F V0+1)
 omega
def aJ5:=fb V78 V81<|bL fun F p0 p1 p2 p3 p4 p5 p6=>by
 have hr0:(0<=E.I F _)->(E.I F _=E.I F _*2)->(E.I F _<=0)->(E.I F _<=E.I F _*2+2)->E.B F (fn _ (pr (fn 3 (pr (fn 18 (pr _ (fn 8 (pr V0 (.int 2))))) (fn 18 (pr _ (fn 8 (pr (.int 0) (.int 2))))))) A5))=true:=fun s0 s1 s2 s3=>a5D s0 s1 s2 s3
 simp only[aa,ab]at *
 obtain⟨a,b,c⟩:=ae (E.I F V0+1)
 grind
def aJ6:=fb fN V82<|ai fun F p0 p1=>by
 simp only[aa]at *;omega
def aJ7:=fb [mw,jL,nU,nR,V9,(.not (cmp .eql V3 V0))] V82<|bq fun F p0 p1 p2 p3 p4 p5=>by
 have:=@RT F (fn 8 (pr V0 (.int 2))) V1
 have:=@vb F V1 (fn 8 (pr aY (.int 2))) (fn 8 (pr (fn 6 (pr aY (fn 7 (pr V3 aY)))) (.int 2)))
 simp only[aa,ab]at *
 obtain⟨a,b,c⟩:=ae (E.I F V0+1)
 omega
def aJ8:=fb fN V84<|ai fun F p0 p1=>by
 simp only[aa]at *;omega
def aJ9:=fb [mw,jL,nU,nR,V9] V84<|aw fun F p0 p1 p2 p3 p4=>by
 have hr0:(0<=E.I F _)->(E.I F _=E.I F _*2)->(E.I F _=E.I F _*2+2)->(E.I F _=E.I F _)->E.B F (fn _ (pr (fn 3 (pr (fn 18 (pr _ (fn 8 (pr V0 (.int 2))))) (fn 4 (pr _ (pr (fn 8 (pr aY (.int 2))) (fn 8 (pr (fn 6 (pr aY (fn 7 (pr V3 aY)))) (.int 2)))))))) A5))=true:=fun s0 s1 s2 s3=>a5E s0 s1 s2 s3
 simp only[aa,ab]at *
 obtain⟨a,b,c⟩:=ae (E.I F V0+1)
 grind
def p53:List Fa:=[dv,aJn,aJo,aJp,aJq,aJr,aJs,aJt,aJu,aJv,aJw,aJx,aJy,aJz,aJA,aJB,aJC,aJD,aJE,aJF,aJG,aJH,aJI,aJJ,aJK,aJL,aJM,aJN,aJO,aJP,aJQ,aJR,aJS,aJT,aJU,aJV,aJW,aJX,aJY,aJZ,aJ0,aJ1,aJ2,aJ3,aJ4,aJ5,aJ6,aJ7,aJ8,aJ9]
theorem a3r:aI Tryz.prog (aX (a1H)):=sc p53 ([]) ama ([]) (by kernel_rfl) (by kernel_rfl)
def amb:Nl:=nc a3r ama
def Zm:=fb [OE,V89] (cmp .eql (fn 175 (pr cp (pr aY fu))) (.int (-1)))<|ai fun F p0 p1=>by
 have:=@apn F aY cp fu
 simp only[aa]at *;grind
def Zn:=fb (V91::(cmp .lss aH fu)::OE::w8::Gu) (.not (cmp .lss q8 (.int 0)))<|aw fun F p0 p1 p2 p3 p4=>by
 simp only[aa]at *;grind
def Zo:=fb (V97::Gu) (.not (cmp .lss (var 6) q8))<|ai fun F p0 p1=>by
 simp only[aa]at *;grind
def aKa:=fb (OF::Gu) (.not (cmp .lss (.int 30) (fn 6 (pr q8 (.int 1)))))<|ai fun F p0 p1=>by
 simp only[aa]at *;grind
def aKb:=fb aeu (fn 174 (pr (var 13) (pr (fn 23 (pr (fn 1 (pr aY (fn 6 (pr (fn 8 (pr aH (.int 2))) (.int 0))))) (fn 10 (.int 0)))) (pr cp Gb))))<|am fun F p0 p1 p2 p3=>by
 have hr2:(E.I F _=E.I F _)->(0<=E.I F _)->(E.I F _=E.I F fu*2)->E.B F (fn _ (pr _ (pr _ (pr cp _))))=true:=fun s0 s1 s2=>api p3 s0 s1 s2
 simp only[aa]at *;grind
def p54:List Fa:=[Zm,Zn,Zo,aKa,aKb]
theorem a3s:aI Tryz.prog (aX (Ku false false)):=sc p54 ([]) amb ([]) (by kernel_rfl) (by kernel_rfl)
def amc:Nl:=nc a3s amb
def Zp:=fb (AV::aew::aex) OF<|ag fun F p0 p1 p2=>by
 simp only[aa]at *;omega
def Zq:=fb ((.not (cmp .lss (var 9) V2))::aex) (.not (cmp .lss (var 9) (.int 0)))<|ai fun F p0 p1=>by
 simp only[aa]at *;grind
def aKc:=fb [AV,(cmp .lss aH fu),w8] aey<|ag fun F p0 p1 p2=>by
 simp only[aa]at *;grind
def Zr:=fb [aew] (cmp .eql (fn 6 (pr (fn 0 ey) (.int 1))) (fn 6 (pr V2 (.int 1))))<|aj fun F p0=>by
 simp only[aa]at *;grind
def aKd:=fb (AV::Gu) (.not (cmp .lss (.int 30) (fn 6 (pr q8 (fn 6 (pr V2 (.int 1)))))))<|ai fun F p0 p1=>by
 simp only[aa]at *;grind
def aKe:=fb aeu (fn 174 (pr (var 13) (pr (fn 3 (pr ey (fn 23 (pr (fn 1 (pr aY (fn 6 (pr (fn 8 (pr aH (.int 2))) (.int 0))))) (fn 10 (.int 0)))))) (pr cp Gc))))<|am fun F p0 p1 p2 p3=>by
 have hr2:(E.I F _=E.I F _)->(0<=E.I F _)->(E.I F _=E.I F fu*2)->E.B F (fn _ (pr _ (pr _ (pr cp (pr _ (pr ey _))))))=true:=fun s0 s1 s2=>apk p3 s0 s1 s2
 simp only[aa]at *;grind
def p55:List Fa:=[Zp,Zm,Zq,aKc,Zn,Zo,Zr,aKd,aKe]
theorem a3t:aI Tryz.prog (aX (Ku true false)):=sc p55 ([]) amc ([]) (by kernel_rfl) (by kernel_rfl)
def amd:Nl:=nc a3t amc
def Zt:=fb [Ob,aez] aeA<|ai fun F p0 p1=>by
 have:=@apn F aY (.int (-1)) fu
 simp only[aa]at *;grind
def Zu:=fb (V91::(cmp .lss tV fu)::Ob::Oc::Gd) (.not (cmp .lss pE (.int 0)))<|aw fun F p0 p1 p2 p3 p4=>by
 simp only[aa]at *;grind
def Zv:=fb (V97::Gd) (.not (cmp .lss (var 6) pE))<|ai fun F p0 p1=>by
 simp only[aa]at *;grind
def aKf:=fb (OF::Gd) (.not (cmp .lss (.int 30) (fn 6 (pr pE (.int 1)))))<|ai fun F p0 p1=>by
 simp only[aa]at *;grind
def aKg:=fb aeB (fn 174 (pr q8 (pr (fn 23 (pr (fn 1 (pr aY (fn 6 (pr (fn 8 (pr tV (.int 2))) (.int 0))))) (fn 10 (.int 0)))) (pr (.int (-1)) Gb))))<|am fun F p0 p1 p2 p3=>by
 have hr2:(E.I F _=E.I F _)->(0<=E.I F _)->(E.I F _=E.I F fu*2)->E.B F (fn _ (pr _ (pr _ (pr (.int (-1)) _))))=true:=fun s0 s1 s2=>api p3 s0 s1 s2
 simp only[aa]at *;grind
def p56:List Fa:=[Zt,Zu,Zv,aKf,aKg]
theorem a3u:aI Tryz.prog (aX (Ku false true)):=sc p56 ([]) amd ([]) (by kernel_rfl) (by kernel_rfl)
def ame:Nl:=nc a3u amd
def aKh:=fb [AV,(cmp .lss tV fu),Oc] aey<|ag fun F p0 p1 p2=>by
 simp only[aa]at *;grind
def aKi:=fb (AV::Gd) (.not (cmp .lss (.int 30) (fn 6 (pr pE (fn 6 (pr V2 (.int 1)))))))<|ai fun F p0 p1=>by
 simp only[aa]at *;grind
def aKj:=fb aeB (fn 174 (pr q8 (pr (fn 3 (pr ey (fn 23 (pr (fn 1 (pr aY (fn 6 (pr (fn 8 (pr tV (.int 2))) (.int 0))))) (fn 10 (.int 0)))))) (pr (.int (-1)) Gc))))<|am fun F p0 p1 p2 p3=>by
 have hr2:(E.I F _=E.I F _)->(0<=E.I F _)->(E.I F _=E.I F fu*2)->E.B F (fn _ (pr _ (pr _ (pr (.int (-1)) (pr _ (pr ey _))))))=true:=fun s0 s1 s2=>apk p3 s0 s1 s2
 simp only[aa]at *;grind
def p57:List Fa:=[Zp,Zt,Zq,aKh,Zu,Zv,Zr,aKi,aKj]
theorem a3v:aI Tryz.prog (aX (Ku true true)):=sc p57 ([]) ame ([]) (by kernel_rfl) (by kernel_rfl)
def amf:Nl:=nc a3v ame
def Zw:=fb nS (fn 188 (pr V1 (pr V3 (pr aG (pr (.ar .sub .i64 V0 (.mn aH V0)) (.int 0))))))<|ai fun F p0 p1=>by
 have:=@aR F V0 (.mn aH V0)
 have:=(@ak F _ _ _ _).mp p1
 rw[show E.B F _=true↔_ from iff_of_eq (@ak F _ _ _ _)]
 simp only[aa]at *;grind
def Zx:=fb nS (fn 188 (pr V1 (pr V3 (pr (.ar .sub .i64 aG (.mn aH aG)) Od))))<|ai fun F p0 p1=>by
 have:=@aR F aG (.mn aH aG)
 have:=(@ak F _ _ _ _).mp p1
 rw[show E.B F _=true↔_ from iff_of_eq (@ak F _ _ _ _)]
 simp only[aa]at *;grind
def Zy:=fb nS (fn 188 (pr V1 (pr (.ar .sub .i64 V3 (.mn aH V3)) Oe)))<|ai fun F p0 p1=>by
 have:=@aR F V3 (.mn aH V3)
 have:=(@ak F _ _ _ _).mp p1
 rw[show E.B F _=true↔_ from iff_of_eq (@ak F _ _ _ _)]
 simp only[aa]at *;grind
def Zz:=fb nS (fn 188 (pr (.ar .sub .i64 V1 (.mn aH V1)) Of))<|ai fun F p0 p1=>by
 have:=@aR F V1 (.mn aH V1)
 have:=(@ak F _ _ _ _).mp p1
 rw[show E.B F _=true↔_ from iff_of_eq (@ak F _ _ _ _)]
 simp only[aa]at *;grind
def ZA:=fb Ge (.not (cmp .lss (.mn aH V0) (.int 0)))<|ai fun F p0 p1=>by
 have:=(@ak F _ _ _ _).mp p0
 simp only[aa]at *;grind
def ZB:=fb Ge (.not (cmp .lss (.mn aH aG) (.int 0)))<|ai fun F p0 p1=>by
 have:=(@ak F _ _ _ _).mp p0
 simp only[aa]at *;grind
def ZC:=fb Ge (.not (cmp .lss (.mn aH V3) (.int 0)))<|ai fun F p0 p1=>by
 have:=(@ak F _ _ _ _).mp p0
 simp only[aa]at *;grind
def ZD:=fb Ge (.not (cmp .lss (.mn aH V1) (.int 0)))<|ai fun F p0 p1=>by
 have:=(@ak F _ _ _ _).mp p0
 simp only[aa]at *;grind
def ZE:=fa ((.not (cmp .lss aH (.mn aH V0))))<|fun F=>by
 simp only[aa]at *;grind
def ZF:=fa ((.not (cmp .lss aH (.mn aH aG))))<|fun F=>by
 simp only[aa]at *;grind
def ZG:=fa ((.not (cmp .lss aH (.mn aH V3))))<|fun F=>by
 simp only[aa]at *;grind
def ZH:=fa ((.not (cmp .lss aH (.mn aH V1))))<|fun F=>by
 simp only[aa]at *;grind
def aKk:=fb aeD (fn 170 (pr V1 (pr V3 (pr aG (pr (.ar .sub .i64 V0 (.mn aH V0)) (pr aY (pr (fn 10 (.int 0)) (pr cp (pr (.mn aH V0) qY)))))))))<|bL fun F p0 p1 p2 p3 p4 p5 p6=>by
 have:=@aR F V0 (.mn aH V0)
 have:=(@ak F _ _ _ _).mp p6
 have hr2:(E.I F _=3)->(E.I F _=E.I F _-E.I F _)->(0<=E.I F _)->(E.I F _<=E.I F _)->E.B F (fn _ (pr _ (pr _ (pr _ (pr (.ar .sub .i64 V0 (.mn aH V0)) (pr _ (pr _ (pr cp (pr (.mn aH V0) (pr V1 (pr V3 (pr aG (pr V0 (pr aY (pr (fn 10 (.int 0)) _)))))))))))))))=true:=fun s0 s1 s2 s3=>ape s0 s1 s2 s3
 simp only[aa]at *;grind
def aKl:=fb (AY::nS) (fn 170 (pr V1 (pr V3 (pr (.ar .sub .i64 aG (.mn aH aG)) (pr V0 (pr aY (pr (fn 10 (.int 0)) (pr cp (pr (.mn aH aG) qY)))))))))<|ag fun F p0 p1 p2=>by
 have:=@aR F aG (.mn aH aG)
 have:=(@ak F _ _ _ _).mp p2
 have hr2:(E.I F _=2)->(E.I F _=E.I F _-E.I F _)->(0<=E.I F _)->(E.I F _<=E.I F _)->E.B F (fn _ (pr _ (pr _ (pr (.ar .sub .i64 aG (.mn aH aG)) (pr _ (pr _ (pr _ (pr cp (pr (.mn aH aG) (pr V1 (pr V3 (pr aG (pr V0 (pr aY (pr (fn 10 (.int 0)) _)))))))))))))))=true:=fun s0 s1 s2 s3=>apd s0 s1 s2 s3
 simp only[aa]at *;grind
def aKm:=fb (AX::nS) (fn 170 (pr V1 (pr (.ar .sub .i64 V3 (.mn aH V3)) (pr aG (pr V0 (pr aY (pr (fn 10 (.int 0)) (pr cp (pr (.mn aH V3) qY)))))))))<|ag fun F p0 p1 p2=>by
 have:=@aR F V3 (.mn aH V3)
 have:=(@ak F _ _ _ _).mp p2
 have hr2:(E.I F _=1)->(E.I F _=E.I F _-E.I F _)->(0<=E.I F _)->(E.I F _<=E.I F _)->E.B F (fn _ (pr _ (pr (.ar .sub .i64 V3 (.mn aH V3)) (pr _ (pr _ (pr _ (pr _ (pr cp (pr (.mn aH V3) (pr V1 (pr V3 (pr aG (pr V0 (pr aY (pr (fn 10 (.int 0)) _)))))))))))))))=true:=fun s0 s1 s2 s3=>apc s0 s1 s2 s3
 simp only[aa]at *;grind
def aKn:=fb (AW::nS) (fn 170 (pr (.ar .sub .i64 V1 (.mn aH V1)) (pr V3 (pr aG (pr V0 (pr aY (pr (fn 10 (.int 0)) (pr cp (pr (.mn aH V1) qY)))))))))<|ag fun F p0 p1 p2=>by
 have:=@aR F V1 (.mn aH V1)
 have:=(@ak F _ _ _ _).mp p2
 have hr2:(E.I F _=0)->(E.I F _=E.I F _-E.I F _)->(0<=E.I F _)->(E.I F _<=E.I F _)->E.B F (fn _ (pr (.ar .sub .i64 V1 (.mn aH V1)) (pr _ (pr _ (pr _ (pr _ (pr _ (pr cp (pr (.mn aH V1) (pr V1 (pr V3 (pr aG (pr V0 (pr aY (pr (fn 10 (.int 0)) _)))))))))))))))=true:=fun s0 s1 s2 s3=>apb s0 s1 s2 s3
 simp only[aa]at *;grind
def ZI:=fb ((.not AW)::(.not AX)::(.not AY)::tW::aeC) (.imp (cmp .lss (.mn aH V0) aH) (fn 185 (pr V1 (pr V3 (pr aG (pr (.ar .sub .i64 V0 (.mn aH V0)) Oi))))))<|bL fun F p0 p1 p2 p3 p4 p5 p6=>by
 have:=@aR F V0 (.mn aH V0)
 have hr5:=fun s0 s1=>@apP F V1 V3 aG (.ar .sub .i64 V0 (.mn aH V0)) cp s0 s1
 simp only[aa]at *;grind
def ZJ:=fb [AY,tW,dG] (.imp (cmp .lss (.mn aH aG) aH) (fn 185 (pr V1 (pr V3 (pr (.ar .sub .i64 aG (.mn aH aG)) aeE)))))<|ag fun F p0 p1 p2=>by
 have:=@aR F aG (.mn aH aG)
 have hr4:=fun s0 s1=>@apO F V1 V3 (.ar .sub .i64 aG (.mn aH aG)) V0 cp s0 s1
 simp only[aa]at *;grind
def ZK:=fb [AX,tW,dG] (.imp (cmp .lss (.mn aH V3) aH) (fn 185 (pr V1 (pr (.ar .sub .i64 V3 (.mn aH V3)) aeF))))<|ag fun F p0 p1 p2=>by
 have:=@aR F V3 (.mn aH V3)
 have hr3:=fun s0 s1=>@apN F V1 (.ar .sub .i64 V3 (.mn aH V3)) aG V0 cp s0 s1
 simp only[aa]at *;grind
def ZL:=fb [AW,tW,dG] (.imp (cmp .lss (.mn aH V1) aH) (fn 185 (pr (.ar .sub .i64 V1 (.mn aH V1)) (pr V3 aeF))))<|ag fun F p0 p1 p2=>by
 have:=@aR F V1 (.mn aH V1)
 have hr2:=fun s0 s1=>@apM F (.ar .sub .i64 V1 (.mn aH V1)) V3 aG V0 cp s0 s1
 simp only[aa]at *;grind
def aKo:=fb (jK::Oj::tX::A0::aeH::aeK) (fn 171 Gf)<|b7 fun F p0 p1 p2 p3 p4 p5 p6 p7=>by
 have hr4:(E.I F _=-1)->(E.I F _=E.I F AZ*2)->(E.B F _=true)->(0<=E.I F _)->(E.I F _<=3)->(0<=E.I F _)->(E.I F _<E.I F _)->E.B F (fn _ (pr _ (pr aH _)))=true:=fun s0 s1 s2 s3 s4 s5 s6=>TQ p7 s0 s1 s2 s3 s4 s5 s6
 simp only[aa]at *;grind
def ZM:=fb (jK::Ol) (.not (cmp .lss (.ar .add .i64 fo (.int 1)) (.int 0)))<|ag fun F p0 p1 p2=>by
 simp only[aa,ab]at *
 obtain⟨a,b,c⟩:=ae (E.I F fo+1)
 omega
def aKp:=fb ((.not jK)::Om::aeJ) (fn 170 (pr pF (pr pG (pr pH (pr pI (pr nT (pr (fn 10 (.int 0)) Gf)))))))<|ag fun F p0 p1 p2=>by
 have hr4:(E.I F _=E.I F _)->E.B F (fn _ (pr _ (pr _ (pr _ (pr _ (pr _ (pr _ (pr _ (pr aH _)))))))))=true:=fun s0=>gG p2 s0
 simp only[aa]at *;grind
def aKq:=fb (jK::Oj::tX::On::aeM) (fn 171 Gf)<|b7 fun F p0 p1 p2 p3 p4 p5 p6 p7=>by
 have hr4:(E.I F _=-1)->(E.I F _=E.I F AZ*2)->(E.B F _=true)->(0<=E.I F _)->(E.I F _<=3)->(0<=E.I F _)->(E.I F _<E.I F _)->E.B F (fn _ (pr _ (pr aH _)))=true:=fun s0 s1 s2 s3 s4 s5 s6=>TQ p3 s0 s1 s2 s3 s4 s5 s6
 simp only[aa]at *;grind
def aKr:=fb ((.not jK)::On::aeN) (fn 170 (pr pF (pr pG (pr pH (pr pI (pr nT (pr A1 Gf)))))))<|ag fun F p0 p1 p2=>by
 have hr4:(E.I F _=E.I F _)->E.B F (fn _ (pr _ (pr _ (pr _ (pr _ (pr _ (pr _ (pr _ (pr aH _)))))))))=true:=fun s0=>gG p1 s0
 simp only[aa]at *;grind
def ZN:=fb aeO (.not (cmp .lss aH (.ar .add .i64 fo (.int 1))))<|am fun F p0 p1 p2 p3=>by
 simp only[aa,ab]at *
 obtain⟨a,b,c⟩:=ae (E.I F fo+1)
 omega
def aKs:=fb (jK::(fn 174 (pr Gg (pr Gh (pr cp (pr nT aev)))))::tX::A0::tW::aeK) aeP<|b7 fun F p0 p1 p2 p3 p4 p5 p6 p7=>by
 have:=@ay F fo (.int 1)
 have hr4:(E.B F _=true)->(0<=E.I F _)->(E.I F _<=3)->(0<=E.I F _)->(E.I F _=E.I F _+1)->E.B F (fn _ (pr _ (pr _ (pr _ (pr _ (pr _ (pr _ (pr _ (pr (.ar .add .i64 fo (.int 1)) _)))))))))=true:=fun s0 s1 s2 s3 s4=>TP p7 p1 s0 s1 s2 s3 s4
 simp only[aa]at *;grind
def aKt:=fb (jK::aeQ::tX::On::aeR) aeP<|b7 fun F p0 p1 p2 p3 p4 p5 p6 p7=>by
 have:=@ay F fo (.int 1)
 have hr4:(E.B F _=true)->(0<=E.I F _)->(E.I F _<=3)->(0<=E.I F _)->(E.I F _=E.I F _+1)->E.B F (fn _ (pr _ (pr _ (pr _ (pr _ (pr _ (pr _ (pr _ (pr (.ar .add .i64 fo (.int 1)) _)))))))))=true:=fun s0 s1 s2 s3 s4=>TP p3 p1 s0 s1 s2 s3 s4
 simp only[aa]at *;grind
def ZO:=fb [jK,tX] (.imp (cmp .lss (.ar .add .i64 fo (.int 1)) aH) aeG)<|ai fun F p0 p1=>by
 simp_all
def ZP:=fb (jK::Ol) (cmp .lss (fn 7 (pr aH (.ar .add .i64 fo (.int 1)))) (fn 7 (pr aH fo)))<|ag fun F p0 p1 p2=>by
 simp only[aa,ab]at *
 obtain⟨a,b,c⟩:=ae (E.I F fo+1)
 omega
def ZQ:=fb aeO (.not (cmp .lss (fn 7 (pr aH (.ar .add .i64 fo (.int 1)))) (.int 0)))<|am fun F p0 p1 p2 p3=>by
 simp only[aa,ab]at *
 obtain⟨a,b,c⟩:=ae (E.I F fo+1)
 omega
def p58:List Fa:=[Zw,Zx,Zy,Zz,ZA,ZB,ZC,ZD,ZE,ZF,ZG,ZH,aKk,aKl,aKm,aKn,ZI,ZJ,ZK,ZL,aKo,ZM,aKp,aKq,aKr,ZN,aKs,aKt,ZO,ZP,ZQ]
theorem a3w:aI Tryz.prog (aX (aoy false)):=sc p58 (aif false) amf ([]) (by kernel_rfl) (by kernel_rfl)
def amh:Nl:=nc a3w amf
def aKu:=fb aeD (fn 170 (pr V1 (pr V3 (pr aG (pr (.ar .sub .i64 V0 (.mn aH V0)) (pr aY (pr ey (pr cp (pr (.mn aH V0) qZ)))))))))<|bL fun F p0 p1 p2 p3 p4 p5 p6=>by
 have:=@aR F V0 (.mn aH V0)
 have:=(@ak F _ _ _ _).mp p6
 have hr2:(E.I F _=3)->(E.I F _=E.I F _-E.I F _)->(0<=E.I F _)->(E.I F _<=E.I F _)->E.B F (fn _ (pr _ (pr _ (pr _ (pr (.ar .sub .i64 V0 (.mn aH V0)) (pr _ (pr _ (pr cp (pr (.mn aH V0) (pr V1 (pr V3 (pr aG (pr V0 (pr aY (pr ey _)))))))))))))))=true:=fun s0 s1 s2 s3=>ape s0 s1 s2 s3
 simp only[aa]at *;grind
def aKv:=fb (AY::nS) (fn 170 (pr V1 (pr V3 (pr (.ar .sub .i64 aG (.mn aH aG)) (pr V0 (pr aY (pr ey (pr cp (pr (.mn aH aG) qZ)))))))))<|ag fun F p0 p1 p2=>by
 have:=@aR F aG (.mn aH aG)
 have:=(@ak F _ _ _ _).mp p2
 have hr2:(E.I F _=2)->(E.I F _=E.I F _-E.I F _)->(0<=E.I F _)->(E.I F _<=E.I F _)->E.B F (fn _ (pr _ (pr _ (pr (.ar .sub .i64 aG (.mn aH aG)) (pr _ (pr _ (pr _ (pr cp (pr (.mn aH aG) (pr V1 (pr V3 (pr aG (pr V0 (pr aY (pr ey _)))))))))))))))=true:=fun s0 s1 s2 s3=>apd s0 s1 s2 s3
 simp only[aa]at *;grind
def aKw:=fb (AX::nS) (fn 170 (pr V1 (pr (.ar .sub .i64 V3 (.mn aH V3)) (pr aG (pr V0 (pr aY (pr ey (pr cp (pr (.mn aH V3) qZ)))))))))<|ag fun F p0 p1 p2=>by
 have:=@aR F V3 (.mn aH V3)
 have:=(@ak F _ _ _ _).mp p2
 have hr2:(E.I F _=1)->(E.I F _=E.I F _-E.I F _)->(0<=E.I F _)->(E.I F _<=E.I F _)->E.B F (fn _ (pr _ (pr (.ar .sub .i64 V3 (.mn aH V3)) (pr _ (pr _ (pr _ (pr _ (pr cp (pr (.mn aH V3) (pr V1 (pr V3 (pr aG (pr V0 (pr aY (pr ey _)))))))))))))))=true:=fun s0 s1 s2 s3=>apc s0 s1 s2 s3
 simp only[aa]at *;grind
def aKx:=fb (AW::nS) (fn 170 (pr (.ar .sub .i64 V1 (.mn aH V1)) (pr V3 (pr aG (pr V0 (pr aY (pr ey (pr cp (pr (.mn aH V1) qZ)))))))))<|ag fun F p0 p1 p2=>by
 have:=@aR F V1 (.mn aH V1)
 have:=(@ak F _ _ _ _).mp p2
 have hr2:(E.I F _=0)->(E.I F _=E.I F _-E.I F _)->(0<=E.I F _)->(E.I F _<=E.I F _)->E.B F (fn _ (pr (.ar .sub .i64 V1 (.mn aH V1)) (pr _ (pr _ (pr _ (pr _ (pr _ (pr cp (pr (.mn aH V1) (pr V1 (pr V3 (pr aG (pr V0 (pr aY (pr ey _)))))))))))))))=true:=fun s0 s1 s2 s3=>apb s0 s1 s2 s3
 simp only[aa]at *;grind
def aKy:=fb (jK::Oj::tX::Oo::aeM) (fn 171 aeS)<|b7 fun F p0 p1 p2 p3 p4 p5 p6 p7=>by
 have hr4:(E.I F _=-1)->(E.I F _=E.I F AZ*2)->(E.B F _=true)->(0<=E.I F _)->(E.I F _<=3)->(0<=E.I F _)->(E.I F _<E.I F _)->E.B F (fn _ (pr _ (pr aH _)))=true:=fun s0 s1 s2 s3 s4 s5 s6=>TQ p3 s0 s1 s2 s3 s4 s5 s6
 simp only[aa]at *;grind
def aKz:=fb ((.not jK)::Oo::aeN) (fn 170 (pr pF (pr pG (pr pH (pr pI (pr nT (pr A1 aeS)))))))<|ag fun F p0 p1 p2=>by
 have hr4:(E.I F _=E.I F _)->E.B F (fn _ (pr _ (pr _ (pr _ (pr _ (pr _ (pr _ (pr _ (pr aH _)))))))))=true:=fun s0=>gG p1 s0
 simp only[aa]at *;grind
def aKA:=fb (jK::aeQ::tX::Oo::aeR) (fn 170 (pr pF (pr pG (pr pH (pr pI (pr Gg (pr Gh (pr cp (pr (.ar .add .i64 fo (.int 1)) qZ)))))))))<|b7 fun F p0 p1 p2 p3 p4 p5 p6 p7=>by
 have:=@ay F fo (.int 1)
 have hr4:(E.B F _=true)->(0<=E.I F _)->(E.I F _<=3)->(0<=E.I F _)->(E.I F _=E.I F _+1)->E.B F (fn _ (pr _ (pr _ (pr _ (pr _ (pr _ (pr _ (pr _ (pr (.ar .add .i64 fo (.int 1)) _)))))))))=true:=fun s0 s1 s2 s3 s4=>TP p3 p1 s0 s1 s2 s3 s4
 simp only[aa]at *;grind
def p59:List Fa:=[Zw,Zx,Zy,Zz,ZA,ZB,ZC,ZD,ZE,ZF,ZG,ZH,aKu,aKv,aKw,aKx,ZI,ZJ,ZK,ZL,aKy,ZM,aKz,ZN,aKA,ZO,ZP,ZQ]
theorem a3x:aI Tryz.prog (aX (aoy true)):=sc p59 (aif true) amh ([]) (by kernel_rfl) (by kernel_rfl)
def ami:Nl:=nc a3x amh
def aKB:=fb Gi tY<|ag fun F p0 p1 p2=>by
 have:=(@ak F _ _ _ _).mp p0
 simp only[aa]at *;grind
def aKC:=fb Gi tZ<|ag fun F p0 p1 p2=>by
 have:=(@ak F _ _ _ _).mp p0
 simp only[aa]at *;grind
def ZS:=fb Ou Gj<|am fun F p0 p1 p2 p3=>by
 have:=@aR F V0 (.int 1)
 have:=(@ak F _ _ _ _).mp p0
 rw[show E.B F _=true↔_ from iff_of_eq (@ak F _ _ _ _)]
 simp only[aa]at *;grind
def aKD:=fb Gk tY<|ag fun F p0 p1 p2=>by
 have:=(@ak F _ _ _ _).mp p0
 simp only[aa]at *;grind
def aKE:=fb Gk tZ<|ag fun F p0 p1 p2=>by
 have:=(@ak F _ _ _ _).mp p0
 simp only[aa]at *;grind
def ZT:=fb [dG,pJ,w6] aeU<|ag fun F p0 p1 p2=>by
 have:=@aR F aG (.int 1)
 have:=(@ak F _ _ _ _).mp p0
 rw[show E.B F _=true↔_ from iff_of_eq (@ak F _ _ _ _)]
 simp only[aa]at *;grind
def aKF:=fb Gl tY<|ag fun F p0 p1 p2=>by
 have:=(@ak F _ _ _ _).mp p0
 simp only[aa]at *;grind
def aKG:=fb Gl tZ<|ag fun F p0 p1 p2=>by
 have:=(@ak F _ _ _ _).mp p0
 simp only[aa]at *;grind
def ZU:=fb Ov Gj<|am fun F p0 p1 p2 p3=>by
 have:=@aR F V0 (.int 1)
 have:=(@ak F _ _ _ _).mp p0
 rw[show E.B F _=true↔_ from iff_of_eq (@ak F _ _ _ _)]
 simp only[aa]at *;grind
def aKH:=fb Gm tY<|ag fun F p0 p1 p2=>by
 have:=(@ak F _ _ _ _).mp p0
 simp only[aa]at *;grind
def aKI:=fb Gm tZ<|ag fun F p0 p1 p2=>by
 have:=(@ak F _ _ _ _).mp p0
 simp only[aa]at *;grind
def ZV:=fb [dG,pJ] (fn 188 (pr V1 (pr (.ar .sub .i64 V3 (.int 1)) Oe)))<|ai fun F p0 p1=>by
 have:=@aR F V3 (.int 1)
 have:=(@ak F _ _ _ _).mp p0
 rw[show E.B F _=true↔_ from iff_of_eq (@ak F _ _ _ _)]
 simp only[aa]at *;grind
def ZW:=fb Ow Gj<|am fun F p0 p1 p2 p3=>by
 have:=@aR F V0 (.int 1)
 have:=(@ak F _ _ _ _).mp p0
 rw[show E.B F _=true↔_ from iff_of_eq (@ak F _ _ _ _)]
 simp only[aa]at *;grind
def aKJ:=fb Gn tY<|ag fun F p0 p1 p2=>by
 have:=(@ak F _ _ _ _).mp p0
 simp only[aa]at *;grind
def aKK:=fb Gn tZ<|ag fun F p0 p1 p2=>by
 have:=(@ak F _ _ _ _).mp p0
 simp only[aa]at *;grind
def ZX:=fb [dG,pK,w7] aeU<|ag fun F p0 p1 p2=>by
 have:=@aR F aG (.int 1)
 have:=(@ak F _ _ _ _).mp p0
 rw[show E.B F _=true↔_ from iff_of_eq (@ak F _ _ _ _)]
 simp only[aa]at *;grind
def aKL:=fb Gp tY<|ag fun F p0 p1 p2=>by
 have:=(@ak F _ _ _ _).mp p0
 simp only[aa]at *;grind
def aKM:=fb Gp tZ<|ag fun F p0 p1 p2=>by
 have:=(@ak F _ _ _ _).mp p0
 simp only[aa]at *;grind
def ZY:=fb Oy Gj<|am fun F p0 p1 p2 p3=>by
 have:=@aR F V0 (.int 1)
 have:=(@ak F _ _ _ _).mp p0
 rw[show E.B F _=true↔_ from iff_of_eq (@ak F _ _ _ _)]
 simp only[aa]at *;grind
def aKN:=fb aeW tY<|bL fun F p0 p1 p2 p3 p4 p5 p6=>by
 have hr1:(E.I F _=-1)->(E.I F _=E.I F fu*2)->(E.I F _<=0)->(E.I F _<=0)->(E.I F _<=0)->(E.I F _<=0)->E.B F (fn _ (pr _ (pr _ (pr V1 (pr V3 (pr aG (pr V0 (pr aY (pr (fn 10 (.int 0)) _)))))))))=true:=fun s0 s1 s2 s3 s4 s5=>aph s0 s1 s2 s3 s4 s5
 simp only[aa]at *;grind
def aKO:=fb [dG,pK,A3,Gq,A4,(fn 174 (pr pE (pr (var 18) (pr (.int (-1)) Gb))))] tZ<|bq fun F p0 p1 p2 p3 p4 p5=>by
 have hr1:(E.I F _<=0)->(E.I F _<=0)->(E.I F _<=0)->(E.I F _<=0)->E.B F (fn _ (pr _ (pr _ (pr _ (pr _ (pr _ (pr _ (pr _ (pr _ (pr V1 (pr V3 (pr aG (pr V0 _)))))))))))))=true:=fun s0 s1 s2 s3=>apa p5 s0 s1 s2 s3
 simp only[aa]at *;grind
def ZZ:=fb [dG,(.not A4)] (fn 188 (pr (.ar .sub .i64 V1 (.int 1)) Of))<|ai fun F p0 p1=>by
 have:=@aR F V1 (.int 1)
 have:=(@ak F _ _ _ _).mp p0
 rw[show E.B F _=true↔_ from iff_of_eq (@ak F _ _ _ _)]
 simp only[aa]at *;grind
def aKP:=fb Ou Gr<|am fun F p0 p1 p2 p3=>by
 have:=@aR F V0 (.int 1)
 have:=(@ak F _ _ _ _).mp p0
 have hr1:(E.I F _=E.I F _-1)->(E.I F _<E.I F _)->(E.I F _<E.I F _)->(E.I F _<E.I F _)->(0<E.I F _)->(E.I F _=1)->E.B F (fn _ (pr _ (pr _ (pr _ (pr (.ar .sub .i64 V0 (.int 1)) (pr _ (pr _ (pr _ (pr (.int 1) (pr V1 (pr V3 (pr aG (pr V0 (pr aY (pr (fn 10 (.int 0)) _)))))))))))))))=true:=fun s0 s1 s2 s3 s4 s5=>gG (sv s0 s1 s2 s3 s4) s5
 simp only[aa]at *;grind
def aKQ:=fb [dG,pJ,w6,ua] aeZ<|am fun F p0 p1 p2 p3=>by
 have:=@aR F aG (.int 1)
 have:=(@ak F _ _ _ _).mp p0
 have hr1:(E.I F _=E.I F _-1)->(E.I F _<E.I F _)->(E.I F _<E.I F _)->(E.I F _<=E.I F _)->(0<E.I F _)->(E.I F _=1)->E.B F (fn _ (pr _ (pr _ (pr (.ar .sub .i64 aG (.int 1)) (pr _ (pr _ (pr _ (pr _ (pr (.int 1) (pr V1 (pr V3 (pr aG (pr V0 (pr aY (pr (fn 10 (.int 0)) _)))))))))))))))=true:=fun s0 s1 s2 s3 s4 s5=>gG (KR s0 s1 s2 s3 s4) s5
 simp only[aa]at *;grind
def aKR:=fb Ov Gr<|am fun F p0 p1 p2 p3=>by
 have:=@aR F V0 (.int 1)
 have:=(@ak F _ _ _ _).mp p0
 have hr1:(E.I F _=E.I F _-1)->(E.I F _<E.I F _)->(E.I F _<E.I F _)->(E.I F _<E.I F _)->(0<E.I F _)->(E.I F _=1)->E.B F (fn _ (pr _ (pr _ (pr _ (pr (.ar .sub .i64 V0 (.int 1)) (pr _ (pr _ (pr _ (pr (.int 1) (pr V1 (pr V3 (pr aG (pr V0 (pr aY (pr (fn 10 (.int 0)) _)))))))))))))))=true:=fun s0 s1 s2 s3 s4 s5=>gG (sv s0 s1 s2 s3 s4) s5
 simp only[aa]at *;grind
def aKS:=fb ae0 (fn 170 (pr V1 (pr (.ar .sub .i64 V3 (.int 1)) ae1)))<|am fun F p0 p1 p2 p3=>by
 have:=@aR F V3 (.int 1)
 have:=(@ak F _ _ _ _).mp p0
 have hr1:(E.I F _=E.I F _-1)->(E.I F _<E.I F _)->(E.I F _<=E.I F _)->(E.I F _<=E.I F _)->(0<E.I F _)->(E.I F _=1)->E.B F (fn _ (pr _ (pr (.ar .sub .i64 V3 (.int 1)) (pr _ (pr _ (pr _ (pr _ (pr _ (pr (.int 1) (pr V1 (pr V3 (pr aG (pr V0 (pr aY (pr (fn 10 (.int 0)) _)))))))))))))))=true:=fun s0 s1 s2 s3 s4 s5=>gG (apg s0 s1 s2 s3 s4) s5
 simp only[aa]at *;grind
def aKT:=fb Ow Gr<|am fun F p0 p1 p2 p3=>by
 have:=@aR F V0 (.int 1)
 have:=(@ak F _ _ _ _).mp p0
 have hr1:(E.I F _=E.I F _-1)->(E.I F _<E.I F _)->(E.I F _<E.I F _)->(E.I F _<E.I F _)->(0<E.I F _)->(E.I F _=1)->E.B F (fn _ (pr _ (pr _ (pr _ (pr (.ar .sub .i64 V0 (.int 1)) (pr _ (pr _ (pr _ (pr (.int 1) (pr V1 (pr V3 (pr aG (pr V0 (pr aY (pr (fn 10 (.int 0)) _)))))))))))))))=true:=fun s0 s1 s2 s3 s4 s5=>gG (sv s0 s1 s2 s3 s4) s5
 simp only[aa]at *;grind
def aKU:=fb [dG,pK,w7,ua] aeZ<|am fun F p0 p1 p2 p3=>by
 have:=@aR F aG (.int 1)
 have:=(@ak F _ _ _ _).mp p0
 have hr1:(E.I F _=E.I F _-1)->(E.I F _<E.I F _)->(E.I F _<E.I F _)->(E.I F _<=E.I F _)->(0<E.I F _)->(E.I F _=1)->E.B F (fn _ (pr _ (pr _ (pr (.ar .sub .i64 aG (.int 1)) (pr _ (pr _ (pr _ (pr _ (pr (.int 1) (pr V1 (pr V3 (pr aG (pr V0 (pr aY (pr (fn 10 (.int 0)) _)))))))))))))))=true:=fun s0 s1 s2 s3 s4 s5=>gG (KR s0 s1 s2 s3 s4) s5
 simp only[aa]at *;grind
def aKV:=fb Oy Gr<|am fun F p0 p1 p2 p3=>by
 have:=@aR F V0 (.int 1)
 have:=(@ak F _ _ _ _).mp p0
 have hr1:(E.I F _=E.I F _-1)->(E.I F _<E.I F _)->(E.I F _<E.I F _)->(E.I F _<E.I F _)->(0<E.I F _)->(E.I F _=1)->E.B F (fn _ (pr _ (pr _ (pr _ (pr (.ar .sub .i64 V0 (.int 1)) (pr _ (pr _ (pr _ (pr (.int 1) (pr V1 (pr V3 (pr aG (pr V0 (pr aY (pr (fn 10 (.int 0)) _)))))))))))))))=true:=fun s0 s1 s2 s3 s4 s5=>gG (sv s0 s1 s2 s3 s4) s5
 simp only[aa]at *;grind
def aKW:=fb ae2 (fn 170 (pr (.ar .sub .i64 V1 (.int 1)) (pr V3 ae1)))<|aw fun F p0 p1 p2 p3 p4=>by
 have:=@aR F V1 (.int 1)
 have:=(@ak F _ _ _ _).mp p0
 have hr1:(E.I F _=E.I F _-1)->(E.I F _<=E.I F _)->(E.I F _<=E.I F _)->(E.I F _<=E.I F _)->(0<E.I F _)->(E.I F _=1)->E.B F (fn _ (pr (.ar .sub .i64 V1 (.int 1)) (pr _ (pr _ (pr _ (pr _ (pr _ (pr _ (pr (.int 1) (pr V1 (pr V3 (pr aG (pr V0 (pr aY (pr (fn 10 (.int 0)) _)))))))))))))))=true:=fun s0 s1 s2 s3 s4 s5=>gG (apf s0 s1 s2 s3 s4) s5
 simp only[aa]at *;grind
def p60:List Fa:=[aKB,aKC,ZS,aKD,aKE,ZT,aKF,aKG,ZU,aKH,aKI,ZV,ZW,aKJ,aKK,ZX,aKL,aKM,ZY,aKN,aKO,ZZ,aKP,aKQ,aKR,aKS,aKT,aKU,aKV,aKW]
theorem a3z:aI Tryz.prog (aX (aoD false)):=sc p60 ([]) ami ([]) (by kernel_rfl) (by kernel_rfl)
def amj:Nl:=nc a3z ami
def aKX:=fb Gi t7<|ag fun F p0 p1 p2=>by
 have:=(@ak F _ _ _ _).mp p0
 simp only[aa]at *;grind
def aKY:=fb Gi t8<|ag fun F p0 p1 p2=>by
 have:=(@ak F _ _ _ _).mp p0
 simp only[aa]at *;grind
def aKZ:=fb Gk t7<|ag fun F p0 p1 p2=>by
 have:=(@ak F _ _ _ _).mp p0
 simp only[aa]at *;grind
def aK0:=fb Gk t8<|ag fun F p0 p1 p2=>by
 have:=(@ak F _ _ _ _).mp p0
 simp only[aa]at *;grind
def aK1:=fb Gl t7<|ag fun F p0 p1 p2=>by
 have:=(@ak F _ _ _ _).mp p0
 simp only[aa]at *;grind
def aK2:=fb Gl t8<|ag fun F p0 p1 p2=>by
 have:=(@ak F _ _ _ _).mp p0
 simp only[aa]at *;grind
def aK3:=fb Gm t7<|ag fun F p0 p1 p2=>by
 have:=(@ak F _ _ _ _).mp p0
 simp only[aa]at *;grind
def aK4:=fb Gm t8<|ag fun F p0 p1 p2=>by
 have:=(@ak F _ _ _ _).mp p0
 simp only[aa]at *;grind
def aK5:=fb Gn t7<|ag fun F p0 p1 p2=>by
 have:=(@ak F _ _ _ _).mp p0
 simp only[aa]at *;grind
def aK6:=fb Gn t8<|ag fun F p0 p1 p2=>by
 have:=(@ak F _ _ _ _).mp p0
 simp only[aa]at *;grind
def aK7:=fb Gp t7<|ag fun F p0 p1 p2=>by
 have:=(@ak F _ _ _ _).mp p0
 simp only[aa]at *;grind
def aK8:=fb Gp t8<|ag fun F p0 p1 p2=>by
 have:=(@ak F _ _ _ _).mp p0
 simp only[aa]at *;grind
def aK9:=fb aeW t7<|bL fun F p0 p1 p2 p3 p4 p5 p6=>by
 have hr1:(E.I F _=-1)->(E.I F _=E.I F fu*2)->(E.I F _<=0)->(E.I F _<=0)->(E.I F _<=0)->(E.I F _<=0)->E.B F (fn _ (pr _ (pr _ (pr V1 (pr V3 (pr aG (pr V0 (pr aY (pr ey _)))))))))=true:=fun s0 s1 s2 s3 s4 s5=>aph s0 s1 s2 s3 s4 s5
 simp only[aa]at *;grind
def aLa:=fb [dG,pK,A3,Gq,A4,(fn 174 (pr pE (pr (var 18) (pr (.int (-1)) Gc))))] t8<|bq fun F p0 p1 p2 p3 p4 p5=>by
 have hr1:(E.I F _<=0)->(E.I F _<=0)->(E.I F _<=0)->(E.I F _<=0)->E.B F (fn _ (pr _ (pr _ (pr _ (pr _ (pr _ (pr _ (pr _ (pr _ (pr V1 (pr V3 (pr aG (pr V0 _)))))))))))))=true:=fun s0 s1 s2 s3=>apa p5 s0 s1 s2 s3
 simp only[aa]at *;grind
def aLb:=fb Ou Gs<|am fun F p0 p1 p2 p3=>by
 have:=@aR F V0 (.int 1)
 have:=(@ak F _ _ _ _).mp p0
 have hr1:(E.I F _=E.I F _-1)->(E.I F _<E.I F _)->(E.I F _<E.I F _)->(E.I F _<E.I F _)->(0<E.I F _)->(E.I F _=1)->E.B F (fn _ (pr _ (pr _ (pr _ (pr (.ar .sub .i64 V0 (.int 1)) (pr _ (pr _ (pr _ (pr (.int 1) (pr V1 (pr V3 (pr aG (pr V0 (pr aY (pr ey _)))))))))))))))=true:=fun s0 s1 s2 s3 s4 s5=>gG (sv s0 s1 s2 s3 s4) s5
 simp only[aa]at *;grind
def aLc:=fb [dG,pJ,w6,ua] ae5<|am fun F p0 p1 p2 p3=>by
 have:=@aR F aG (.int 1)
 have:=(@ak F _ _ _ _).mp p0
 have hr1:(E.I F _=E.I F _-1)->(E.I F _<E.I F _)->(E.I F _<E.I F _)->(E.I F _<=E.I F _)->(0<E.I F _)->(E.I F _=1)->E.B F (fn _ (pr _ (pr _ (pr (.ar .sub .i64 aG (.int 1)) (pr _ (pr _ (pr _ (pr _ (pr (.int 1) (pr V1 (pr V3 (pr aG (pr V0 (pr aY (pr ey _)))))))))))))))=true:=fun s0 s1 s2 s3 s4 s5=>gG (KR s0 s1 s2 s3 s4) s5
 simp only[aa]at *;grind
def aLd:=fb Ov Gs<|am fun F p0 p1 p2 p3=>by
 have:=@aR F V0 (.int 1)
 have:=(@ak F _ _ _ _).mp p0
 have hr1:(E.I F _=E.I F _-1)->(E.I F _<E.I F _)->(E.I F _<E.I F _)->(E.I F _<E.I F _)->(0<E.I F _)->(E.I F _=1)->E.B F (fn _ (pr _ (pr _ (pr _ (pr (.ar .sub .i64 V0 (.int 1)) (pr _ (pr _ (pr _ (pr (.int 1) (pr V1 (pr V3 (pr aG (pr V0 (pr aY (pr ey _)))))))))))))))=true:=fun s0 s1 s2 s3 s4 s5=>gG (sv s0 s1 s2 s3 s4) s5
 simp only[aa]at *;grind
def aLe:=fb ae0 (fn 170 (pr V1 (pr (.ar .sub .i64 V3 (.int 1)) ae6)))<|am fun F p0 p1 p2 p3=>by
 have:=@aR F V3 (.int 1)
 have:=(@ak F _ _ _ _).mp p0
 have hr1:(E.I F _=E.I F _-1)->(E.I F _<E.I F _)->(E.I F _<=E.I F _)->(E.I F _<=E.I F _)->(0<E.I F _)->(E.I F _=1)->E.B F (fn _ (pr _ (pr (.ar .sub .i64 V3 (.int 1)) (pr _ (pr _ (pr _ (pr _ (pr _ (pr (.int 1) (pr V1 (pr V3 (pr aG (pr V0 (pr aY (pr ey _)))))))))))))))=true:=fun s0 s1 s2 s3 s4 s5=>gG (apg s0 s1 s2 s3 s4) s5
 simp only[aa]at *;grind
def aLf:=fb Ow Gs<|am fun F p0 p1 p2 p3=>by
 have:=@aR F V0 (.int 1)
 have:=(@ak F _ _ _ _).mp p0
 have hr1:(E.I F _=E.I F _-1)->(E.I F _<E.I F _)->(E.I F _<E.I F _)->(E.I F _<E.I F _)->(0<E.I F _)->(E.I F _=1)->E.B F (fn _ (pr _ (pr _ (pr _ (pr (.ar .sub .i64 V0 (.int 1)) (pr _ (pr _ (pr _ (pr (.int 1) (pr V1 (pr V3 (pr aG (pr V0 (pr aY (pr ey _)))))))))))))))=true:=fun s0 s1 s2 s3 s4 s5=>gG (sv s0 s1 s2 s3 s4) s5
 simp only[aa]at *;grind
def aLg:=fb [dG,pK,w7,ua] ae5<|am fun F p0 p1 p2 p3=>by
 have:=@aR F aG (.int 1)
 have:=(@ak F _ _ _ _).mp p0
 have hr1:(E.I F _=E.I F _-1)->(E.I F _<E.I F _)->(E.I F _<E.I F _)->(E.I F _<=E.I F _)->(0<E.I F _)->(E.I F _=1)->E.B F (fn _ (pr _ (pr _ (pr (.ar .sub .i64 aG (.int 1)) (pr _ (pr _ (pr _ (pr _ (pr (.int 1) (pr V1 (pr V3 (pr aG (pr V0 (pr aY (pr ey _)))))))))))))))=true:=fun s0 s1 s2 s3 s4 s5=>gG (KR s0 s1 s2 s3 s4) s5
 simp only[aa]at *;grind
def aLh:=fb Oy Gs<|am fun F p0 p1 p2 p3=>by
 have:=@aR F V0 (.int 1)
 have:=(@ak F _ _ _ _).mp p0
 have hr1:(E.I F _=E.I F _-1)->(E.I F _<E.I F _)->(E.I F _<E.I F _)->(E.I F _<E.I F _)->(0<E.I F _)->(E.I F _=1)->E.B F (fn _ (pr _ (pr _ (pr _ (pr (.ar .sub .i64 V0 (.int 1)) (pr _ (pr _ (pr _ (pr (.int 1) (pr V1 (pr V3 (pr aG (pr V0 (pr aY (pr ey _)))))))))))))))=true:=fun s0 s1 s2 s3 s4 s5=>gG (sv s0 s1 s2 s3 s4) s5
 simp only[aa]at *;grind
def aLi:=fb ae2 (fn 170 (pr (.ar .sub .i64 V1 (.int 1)) (pr V3 ae6)))<|aw fun F p0 p1 p2 p3 p4=>by
 have:=@aR F V1 (.int 1)
 have:=(@ak F _ _ _ _).mp p0
 have hr1:(E.I F _=E.I F _-1)->(E.I F _<=E.I F _)->(E.I F _<=E.I F _)->(E.I F _<=E.I F _)->(0<E.I F _)->(E.I F _=1)->E.B F (fn _ (pr (.ar .sub .i64 V1 (.int 1)) (pr _ (pr _ (pr _ (pr _ (pr _ (pr _ (pr (.int 1) (pr V1 (pr V3 (pr aG (pr V0 (pr aY (pr ey _)))))))))))))))=true:=fun s0 s1 s2 s3 s4 s5=>gG (apf s0 s1 s2 s3 s4) s5
 simp only[aa]at *;grind
def p61:List Fa:=[aKX,aKY,ZS,aKZ,aK0,ZT,aK1,aK2,ZU,aK3,aK4,ZV,ZW,aK5,aK6,ZX,aK7,aK8,ZY,aK9,aLa,ZZ,aLb,aLc,aLd,aLe,aLf,aLg,aLh,aLi]
theorem a3A:aI Tryz.prog (aX (aoD true)):=sc p61 ([]) amj ([]) (by kernel_rfl) (by kernel_rfl)
def gx:Nl:=nc a3A amj
end
end Go.Proofs.YtnnbmcfabojjjaaGreat.payPays
