/-
  PayPays: contracts of functions, part 2.
-/
import Derived.Test.YtnnbmcfabojjjaaGreatPayPaysParta
namespace Go.Proofs.YtnnbmcfabojjjaaGreat.payPays
open Go.ChangeShapes Go.WideShapes Go.ChangeAt Go.RowKit
open Go.SX
open Go.SX.E (fn pr cmp var)
set_option linter.unusedVariables false
set_option linter.unusedSimpArgs false
set_option maxRecDepth 100000
noncomputable section
abbrev J0:E:=var 0
abbrev J1:E:=var 4
abbrev J2:E:=cmp .lss J1 (fn 9 (pr J0 (.int 2)))
abbrev J3:E:=cmp .lss (fn 1 (pr J0 (fn 6 (pr (fn 8 (pr J1 (.int 2))) (.int 0))))) (.int 0)
abbrev J4:E:=cmp .lss J1 (.int 0)
abbrev J5:E:=.not J4
abbrev J6:=[J5]
abbrev J7:E:=pr J0 (fn 9 (pr J0 (.int 2)))
abbrev J8:E:=fn 101 J7
abbrev J9:E:=.not J8
abbrev zO:E:=.iff J5 J9
abbrev v6:E:=.not J3
abbrev J12:E:=cmp .lss (fn 1 (pr J0 (fn 6 (pr (fn 8 (pr J1 (.int 2))) (.int 1))))) (.int 0)
abbrev Eo:E:=.not J12
abbrev Eu:E:=cmp .lss (.int 1) (fn 1 (pr J0 (fn 6 (pr (fn 8 (pr J1 (.int 2))) (.int 1)))))
abbrev L6:E:=cmp .eql (fn 1 (pr J0 (fn 6 (pr (fn 8 (pr J1 (.int 2))) (.int 0))))) (.int 0)
abbrev J16:E:=cmp .eql (fn 1 (pr J0 (fn 6 (pr (fn 8 (pr J1 (.int 2))) (.int 1))))) (.int 0)
abbrev J17:E:=cmp .lss (.int 1000) (fn 9 (pr J0 (.int 2)))
abbrev J18:E:=.not J17
abbrev J19:=[J18]
abbrev J20:=J5::J19
abbrev J21:=J2::J20
abbrev J22:E:=cmp .lss (.ar .add .i64 J1 (.int 1)) (.int 0)
abbrev Mb:E:=.not J22
abbrev J24:E:=cmp .lss (.int 500) (fn 1 (pr J0 (fn 6 (pr (fn 8 (pr J1 (.int 2))) (.int 0)))))
abbrev J25:E:=fn 101 (pr J0 J1)
abbrev kj:E:=.bool false
abbrev J27:=J25::J20
abbrev J28:List E:=(.not J24)::J27
abbrev J29:E:=pr J0 (.ar .add .i64 J1 (.int 1))
abbrev J30:E:=fn 101 J29
abbrev J31:E:=cmp .lss J0 (.int 0)
abbrev bQ:E:=var 1
abbrev co:E:=var 2
abbrev cn:E:=var 3
abbrev bW:E:=var 5
abbrev J36:E:=pr cn (pr J1 bW)
abbrev J37:E:=pr co J36
abbrev J38:E:=pr bQ J37
abbrev J39:E:=pr J0 J38
abbrev J40:E:=fn 102 J39
abbrev mj:E:=.iff kj J40
abbrev kl:E:=.not J31
abbrev J43:E:=cmp .lss (.int 1) J0
abbrev ll:E:=.not J43
abbrev J45:E:=cmp .lss bQ (.int 1)
abbrev mm:E:=.not J45
abbrev J47:E:=cmp .lss co (.int 0)
abbrev ph:E:=.not J47
abbrev J49:E:=cmp .lss cn (.int (-1))
abbrev s9:E:=.not J49
abbrev J51:E:=cmp .lss (.int 1) cn
abbrev wd:E:=.not J51
abbrev J53:E:=cmp .lss (.int 4) (fn 9 (pr J1 (.int 2)))
abbrev zU:E:=.not J53
abbrev EI:E:=cmp .lss cn (.int 0)
abbrev gJ:E:=.not EI
abbrev Mg:E:=cmp .lss (.int 0) (fn 9 (pr J1 (.int 2)))
abbrev ef:E:=var 6
abbrev Mh:E:=cmp .lss ef (.int 0)
abbrev ny:E:=.not Mh
abbrev J61:E:=pr J1 (fn 9 (pr J1 (.int 2)))
abbrev J62:E:=fn 101 J61
abbrev J63:E:=.not J62
abbrev J64:E:=.iff ny J63
abbrev J65:E:=cmp .lss (.int 500) bQ
abbrev J66:E:=.not J65
abbrev J67:E:=cmp .lss (.int 399) co
abbrev J68:E:=.not J67
abbrev J69:=[J68]
abbrev J70:=J66::J69
abbrev Mi:=J64::J70
abbrev Mj:E:=.iff Mh J40
abbrev pi:E:=cmp .lss J1 (fn 9 (pr J0 (.int 5)))
abbrev J74:E:=pr (fn 1 (pr J0 (fn 6 (pr (fn 8 (pr J1 (.int 5))) (.int 4))))) kj
abbrev J75:E:=pr (fn 1 (pr J0 (fn 6 (pr (fn 8 (pr J1 (.int 5))) (.int 3))))) J74
abbrev J76:E:=pr (fn 1 (pr J0 (fn 6 (pr (fn 8 (pr J1 (.int 5))) (.int 2))))) J75
abbrev J77:E:=pr (fn 1 (pr J0 (fn 6 (pr (fn 8 (pr J1 (.int 5))) (.int 1))))) J76
abbrev J78:E:=pr (fn 1 (pr J0 (fn 6 (pr (fn 8 (pr J1 (.int 5))) (.int 0))))) J77
abbrev J79:E:=fn 102 J78
abbrev J80:E:=.iff bW J79
abbrev J81:E:=pr kj (fn 9 (pr J0 (.int 5)))
abbrev J82:E:=pr J0 J81
abbrev J83:E:=fn 103 J82
abbrev J84:E:=.not J83
abbrev J85:E:=cmp .lss (.int 1000) (fn 9 (pr J0 (.int 5)))
abbrev J86:E:=.not J85
abbrev J87:=[J86]
abbrev Mk:=J5::J87
abbrev J89:=pi::Mk
abbrev J90:E:=pr J0 (pr kj J1)
abbrev J91:E:=fn 103 J90
abbrev qO:E:=.bool true
abbrev J93:E:=pr (fn 1 (pr J0 (fn 6 (pr (fn 8 (pr J1 (.int 5))) (.int 4))))) qO
abbrev J94:E:=pr (fn 1 (pr J0 (fn 6 (pr (fn 8 (pr J1 (.int 5))) (.int 3))))) J93
abbrev J95:E:=pr (fn 1 (pr J0 (fn 6 (pr (fn 8 (pr J1 (.int 5))) (.int 2))))) J94
abbrev J96:E:=pr (fn 1 (pr J0 (fn 6 (pr (fn 8 (pr J1 (.int 5))) (.int 1))))) J95
abbrev J97:E:=pr (fn 1 (pr J0 (fn 6 (pr (fn 8 (pr J1 (.int 5))) (.int 0))))) J96
abbrev J98:E:=fn 102 J97
abbrev J99:E:=.iff bW J98
abbrev aL6:E:=pr qO (fn 9 (pr J0 (.int 5)))
abbrev aL7:E:=pr J0 aL6
abbrev aL8:E:=fn 103 aL7
abbrev aad:E:=.not aL8
abbrev aL9:E:=pr J0 (pr qO J1)
abbrev aae:E:=fn 103 aL9
abbrev vZ:E:=cmp .lss J1 (fn 0 J0)
abbrev aaf:E:=cmp .eql bQ (fn 1 (pr J0 J1))
abbrev aag:E:=fn 114 (pr J0 bQ)
abbrev aMa:E:=cmp .lss (.int 1000) (fn 0 J0)
abbrev aMb:E:=.not aMa
abbrev aMc:=[aMb]
abbrev aah:=J5::aMc
abbrev aai:=vZ::aah
abbrev aaj:E:=cmp .eql (fn 131 (pr J0 (pr bQ J1))) (.int 0)
abbrev aak:E:=cmp .lss (.int 99) cn
abbrev d8:E:=var 7
abbrev bk:E:=var 8
abbrev En:E:=fn 137 (pr J0 (pr bQ (pr co (pr cn (pr J1 (pr bW (pr ef (pr d8 bk))))))))
abbrev gI:E:=.iff kj En
abbrev aal:E:=cmp .lss (.int 99) J1
abbrev aam:E:=cmp .lss bW (.int 0)
abbrev mf:E:=.not aam
abbrev aan:E:=cmp .lss (.int 99) bW
abbrev aao:E:=cmp .lss (.int 99) ef
abbrev aap:E:=cmp .lss d8 (.int 0)
abbrev sX:E:=.not aap
abbrev aaq:E:=cmp .lss (.int 99) d8
abbrev aar:E:=cmp .lss bk (.int 0)
abbrev zP:E:=.not aar
abbrev aas:E:=cmp .lss (.int 99) bk
abbrev L3:E:=cmp .eql bQ (.int (-1))
abbrev Ep:E:=.not L3
abbrev Er:E:=cmp .eql cn (.int 0)
abbrev L4:E:=cmp .eql J1 (.int 0)
abbrev aat:E:=cmp .lss J0 (.int 1)
abbrev sY:E:=.not aat
abbrev Es:E:=cmp .lss bQ (.int (-1))
abbrev L5:E:=cmp .lss bQ (.int 400)
abbrev Et:E:=cmp .eql co (.int 0)
abbrev aau:E:=.not aak
abbrev aMd:E:=.not aan
abbrev aMe:E:=.not aao
abbrev aMf:E:=.not aaq
abbrev aMg:E:=.not aas
abbrev aav:E:=cmp .lss (.int 500) J0
abbrev aMh:E:=.not aav
abbrev aMi:=[aMh]
abbrev aMj:=aMg::aMi
abbrev aMk:=aMf::aMj
abbrev aMl:=aMe::aMk
abbrev aaw:=aMd::aMl
abbrev aax:=aau::aaw
abbrev aMm:E:=cmp .eql co (.int 1)
abbrev aay:E:=.iff aMm En
abbrev aMn:List E:=(.not aal)::aaw
abbrev aaz:=aau::aMn
abbrev L7:E:=pr (.int 0) (.int 0)
abbrev i5:E:=fn 117 J0
abbrev jy:=[i5]
abbrev pe:E:=cmp .eql bk (.int 0)
abbrev aMo:E:=cmp .lss (.ar .add .i64 bk (.int 1)) (.int 0)
abbrev aaA:E:=.not aMo
abbrev mg:E:=cmp .eql bk (.int 1)
abbrev cS:E:=var 16
abbrev Ev:E:=cmp .eql cS (.int 0)
abbrev pf:E:=pr J0 (pr bk cS)
abbrev Ew:E:=cmp .eql cS (.int 1)
abbrev Ey:E:=cmp .eql cS (.int 2)
abbrev Ez:E:=cmp .lss cS (.int 4)
abbrev aMp:E:=cmp .lss cS (.int 0)
abbrev aaB:E:=.not aMp
abbrev aMq:=[aaB,pe]
abbrev aaC:=Ez::aMq
abbrev aMr:E:=cmp .lss (.int 2) (.ar .add .i64 bk (.int 1))
abbrev aaD:E:=.not aMr
abbrev sZ:=[Ez,aaB]
abbrev d9:E:=var 24
abbrev ki:E:=var 28
abbrev s7:E:=cmp .lss d9 (fn 0 ki)
abbrev v7:E:=var 25
abbrev zQ:E:=fn 104 (pr v7 (pr J0 (pr bk (pr cS d9))))
abbrev zR:E:=fn 109 (pr ki pf)
abbrev aMs:E:=cmp .lss d9 (.int 0)
abbrev L8:E:=.not aMs
abbrev aaE:=L8::aaC
abbrev mh:E:=.iff kj (fn 108 J0)
abbrev aMt:E:=cmp .lss (.int 40) (fn 0 ki)
abbrev L9:E:=.not aMt
abbrev aaF:=[L8]
abbrev aMu:=L9::aaF
abbrev aaG:=s7::aMu
abbrev aaH:=L8::sZ
abbrev aMv:E:=pr bk (pr cS (.int 0))
abbrev aMw:E:=pr J0 aMv
abbrev aMx:E:=pr (var 17) aMw
abbrev aMy:E:=fn 104 aMx
abbrev aMz:E:=cmp .lss (.int 4) cS
abbrev aMA:E:=.not aMz
abbrev aMB:=[aMA]
abbrev aaI:=aMy::aMB
abbrev aMC:E:=pr (.ar .add .i64 bk (.int 1)) L7
abbrev aMD:E:=pr J0 aMC
abbrev aME:E:=pr (var 17) aMD
abbrev aaJ:E:=fn 104 aME
abbrev aaK:=s7::aaF
abbrev aaL:E:=cmp .lss (fn 7 (pr (.int 2) (.ar .add .i64 bk (.int 1)))) (fn 7 (pr (.int 2) bk))
abbrev dl:E:=var 32
abbrev v8:E:=cmp .lss dl (fn 9 (pr (fn 1 (pr J0 (.int 29))) (.int 5)))
abbrev Ma:E:=cmp .lss (fn 1 (pr (fn 1 (pr J0 (.int 29))) (fn 6 (pr (fn 8 (pr dl (.int 5))) (.int 3))))) (.int 0)
abbrev wa:E:=var 33
abbrev EA:E:=var 34
abbrev aaM:E:=pr J0 dl
abbrev aMF:E:=pr EA aaM
abbrev aaN:E:=fn 106 aMF
abbrev aMG:E:=pr wa aaM
abbrev aaO:E:=fn 105 aMG
abbrev aMH:E:=cmp .lss dl (.int 0)
abbrev aMI:E:=.not aMH
abbrev aaP:=[aMI]
abbrev aMJ:=aaO::aaP
abbrev aaQ:=aaN::aMJ
abbrev aMK:=v8::aaP
abbrev EB:=i5::aMK
abbrev aaR:E:=.not (fn 33 (pr v7 (fn 1 (pr ki d9))))
abbrev aML:E:=pr cS (.ar .add .i64 d9 (.int 1))
abbrev aMM:E:=pr bk aML
abbrev aMN:E:=pr J0 aMM
abbrev aMO:E:=pr (fn 34 (pr v7 (pr (fn 1 (pr ki d9)) bk))) aMN
abbrev aaS:E:=fn 104 aMO
abbrev aMP:E:=cmp .lss (fn 7 (pr (.int 2) (.ar .add .i64 bk (.int 1)))) (.int 0)
abbrev aaT:E:=.not aMP
abbrev aMQ:E:=cmp .lss (fn 9 (pr (fn 1 (pr J0 (.int 29))) (.int 5))) dl
abbrev aMR:E:=.not aMQ
abbrev aaU:=[aMR]
abbrev EC:E:=pr J0 (fn 9 (pr (fn 1 (pr J0 (.int 29))) (.int 5)))
abbrev aMS:E:=.not (fn 33 (pr wa (fn 1 (pr (fn 1 (pr J0 (.int 29))) (fn 6 (pr (fn 8 (pr dl (.int 5))) (.int 1)))))))
abbrev aaV:=i5::aaQ
abbrev aMT:=aMS::aaV
abbrev aMU:=Ma::aMT
abbrev aaW:=v8::aMU
abbrev ED:E:=pr J0 (.ar .add .i64 dl (.int 1))
abbrev aMV:List E:=(.not Ma)::aaV
abbrev aaX:=v8::aMV
abbrev aW:E:=var 40
abbrev i6:E:=cmp .lss aW (fn 9 (pr (fn 1 (pr J0 (.int 0))) (.int 12)))
abbrev qM:E:=cmp .lss (.int 0) aW
abbrev EE:=[i6,qM]
abbrev Mc:=i5::EE
abbrev Md:E:=fn 107 (pr J0 aW)
abbrev nx:E:=var 41
abbrev Me:E:=fn 105 (pr nx EC)
abbrev wb:E:=.not qM
abbrev aMW:E:=cmp .lss aW (.int 0)
abbrev aaY:E:=.not aMW
abbrev aaZ:=[aaY]
abbrev Mf:=wb::aaZ
abbrev aMX:E:=cmp .lss (.ar .add .i64 aW (.int 1)) (.int 0)
abbrev aa0:E:=.not aMX
abbrev pg:E:=var 43
abbrev qN:E:=.iff pg (fn 137 (pr (fn 1 (pr (fn 1 (pr J0 (.int 0))) (fn 6 (pr (fn 8 (pr aW (.int 12))) (.int 0))))) (pr (fn 1 (pr (fn 1 (pr J0 (.int 0))) (fn 6 (pr (fn 8 (pr aW (.int 12))) (.int 1))))) (pr (fn 1 (pr (fn 1 (pr J0 (.int 0))) (fn 6 (pr (fn 8 (pr aW (.int 12))) (.int 2))))) (pr (fn 1 (pr (fn 1 (pr J0 (.int 0))) (fn 6 (pr (fn 8 (pr aW (.int 12))) (.int 3))))) (pr (fn 1 (pr (fn 1 (pr J0 (.int 0))) (fn 6 (pr (fn 8 (pr aW (.int 12))) (.int 4))))) (pr (fn 1 (pr (fn 1 (pr J0 (.int 0))) (fn 6 (pr (fn 8 (pr aW (.int 12))) (.int 5))))) (pr (fn 1 (pr (fn 1 (pr J0 (.int 0))) (fn 6 (pr (fn 8 (pr aW (.int 12))) (.int 6))))) (pr (fn 1 (pr (fn 1 (pr J0 (.int 0))) (fn 6 (pr (fn 8 (pr aW (.int 12))) (.int 7))))) (fn 1 (pr (fn 1 (pr J0 (.int 0))) (fn 6 (pr (fn 8 (pr aW (.int 12))) (.int 8))))))))))))))
abbrev zS:E:=var 42
abbrev EF:E:=cmp .eql (fn 32 (pr zS (pr (fn 1 (pr (fn 1 (pr J0 (.int 0))) (fn 6 (pr (fn 8 (pr aW (.int 12))) (.int 0))))) (.int 0)))) (fn 1 (pr (fn 1 (pr J0 (.int 0))) (fn 6 (pr (fn 8 (pr aW (.int 12))) (.int 1)))))
abbrev aa1:E:=fn 106 (pr zS EC)
abbrev zT:=Md::aa1::Me::aaZ
abbrev wc:E:=cmp .eql (fn 32 (pr nx (pr (fn 1 (pr (fn 1 (pr J0 (.int 0))) (fn 6 (pr (fn 8 (pr aW (.int 12))) (.int 0))))) (.int 0)))) (fn 1 (pr (fn 1 (pr J0 (.int 0))) (fn 6 (pr (fn 8 (pr aW (.int 12))) (.int 2)))))
abbrev aa2:E:=.not (fn 33 (pr nx (fn 1 (pr (fn 1 (pr J0 (.int 0))) (fn 6 (pr (fn 8 (pr aW (.int 12))) (.int 0)))))))
abbrev EG:E:=cmp .lss (fn 1 (pr (fn 1 (pr J0 (.int 0))) (fn 6 (pr (fn 8 (pr (.ar .sub .i64 aW (.int 1)) (.int 12))) (.int 0))))) (fn 1 (pr (fn 1 (pr J0 (.int 0))) (fn 6 (pr (fn 8 (pr aW (.int 12))) (.int 0)))))
abbrev s8:=Md::aa1::Me::aaY::jy
abbrev aa3:=i6::Mf
abbrev aMY:E:=cmp .lss (fn 9 (pr (fn 1 (pr J0 (.int 0))) (.int 12))) (.ar .add .i64 aW (.int 1))
abbrev aa4:E:=.not aMY
abbrev aa5:E:=.not (fn 33 (pr zS (fn 1 (pr (fn 1 (pr J0 (.int 0))) (fn 6 (pr (fn 8 (pr aW (.int 12))) (.int 0)))))))
abbrev EH:E:=fn 107 (pr J0 (.ar .add .i64 aW (.int 1)))
abbrev aa6:E:=cmp .lss (fn 7 (pr (fn 9 (pr (fn 1 (pr J0 (.int 0))) (.int 12))) (.ar .add .i64 aW (.int 1)))) (fn 7 (pr (fn 9 (pr (fn 1 (pr J0 (.int 0))) (.int 12))) aW))
abbrev aMZ:E:=cmp .lss (fn 7 (pr (fn 9 (pr (fn 1 (pr J0 (.int 0))) (.int 12))) (.ar .add .i64 aW (.int 1)))) (.int 0)
abbrev aa7:E:=.not aMZ
theorem a0W:oX Tryz.prog (fun tb=>uM yJ (run Tryz.prog (tb.plus [] [] alw.l) 3000 (.call 6 []) .nil (vQ 0 []) SX.one))=true:=by kernel_rfl
def alx:Nl:=nc (aXr good (facts:=[]) all_nil (anns:=[]) (iE [] rfl) (nats:=alw.l) alw.h a0W) alw

def G0:=fa ((fn 101 (pr J0 (.int 0))))<|fun F=>by
 rfl
def G1:=fb (J2::J3::J6) zO<|ag fun F p0 p1 p2=>by
 have:=fun h0 h1=>@oO F _ _ (fn 9 (pr J0 (.int 2))) h0 h1 (fn 1 _) (fn 1 (pr J0 (fn 6 (pr (fn 8 (pr J1 _)) _)))) rfl rfl
 simp only[aa]at *;grind
def G2:=fb (J2::v6::J12::J6) zO<|am fun F p0 p1 p2 p3=>by
 have:=fun h0 h1=>@oO F _ _ (fn 9 (pr J0 (.int 2))) h0 h1 _ (fn 1 (pr J0 (fn 6 (pr (fn 8 (pr J1 _)) _)))) rfl rfl
 simp only[aa]at *;grind
def G3:=fb (J2::v6::Eo::(.not Eu)::(.not L6)::(.not J16)::J6) zO<|bL fun F p0 p1 p2 p3 p4 p5 p6=>by
 have:=fun h0 h1=>@oO F _ _ (fn 9 (pr J0 (.int 2))) h0 h1 (fn 1 _) (fn 1 (pr J0 (fn 6 (pr (fn 8 (pr J1 _)) _)))) rfl rfl
 simp only[aa]at *;grind
def G4:=fb J21 Mb<|ag fun F p0 p1 p2=>by
 simp only[aa,ab]at *
 obtain⟨a,b,c⟩:=ae (E.I F J1+1)
 omega
def G5:=fb (J2::v6::Eo::Eu::J6) zO<|aw fun F p0 p1 p2 p3 p4=>by
 have:=fun h0 h1=>@oO F _ _ (fn 9 (pr J0 (.int 2))) h0 h1 _ (fn 1 (pr J0 (fn 6 (pr (fn 8 (pr J1 _)) _)))) rfl rfl
 simp only[aa]at *;grind
def G6:=fb (J2::v6::J24::J6) zO<|am fun F p0 p1 p2 p3=>by
 have:=fun h0 h1=>@oO F _ _ (fn 9 (pr J0 (.int 2))) h0 h1 (fn 1 _) (fn 1 (pr J0 (fn 6 (pr (fn 8 (pr J1 _)) _)))) rfl rfl
 simp only[aa]at *;grind
def G7:=fb [(.not J2),J25] (.iff kj J9)<|ai fun F p0 p1=>by
 have:=fun h1=>@aoT F _ _ (fn 9 (pr J0 (.int 2))) p1 h1
 simp only[aa]at *;grind
def G8:=fb (J2::J6) (.not (cmp .lss (fn 9 (pr J0 (.int 2))) (.ar .add .i64 J1 (.int 1))))<|ai fun F p0 p1=>by
 simp only[aa,ab]at *
 obtain⟨a,b,c⟩:=ae (E.I F J1+1)
 omega
def G9:=fb (J2::v6::Eo::(.not Eu)::(.not L6)::J16::J28) J30<|fA fun F p0 p1 p2 p3 p4 p5 p6 p7 p8 p9=>by
 have:=@ay F J1 (.int 1)
 have:=fun h0 hm=>@KI F _ (.ar .add .i64 J1 (.int 1)) _ p7 h0 hm (fn 1 _) (fn 1 _) rfl rfl
 simp only[aa]at *;grind
def G10:=fb (J2::v6::Eo::(.not Eu)::L6::J28) J30<|b8 fun F p0 p1 p2 p3 p4 p5 p6 p7 p8=>by
 have:=@ay F J1 (.int 1)
 have:=fun h0 hm=>@KI F _ (.ar .add .i64 J1 (.int 1)) _ p6 h0 hm (fn 1 _) (fn 1 _) rfl rfl
 simp only[aa]at *;grind
def G11:=fb J21 (cmp .lss (fn 7 (pr (fn 9 (pr J0 (.int 2))) (.ar .add .i64 J1 (.int 1)))) (fn 7 (pr (fn 9 (pr J0 (.int 2))) J1)))<|ag fun F p0 p1 p2=>by
 simp only[aa,ab]at *
 obtain⟨a,b,c⟩:=ae (E.I F J1+1)
 omega
def G12:=fb (J2::J6) (.not (cmp .lss (fn 7 (pr (fn 9 (pr J0 (.int 2))) (.ar .add .i64 J1 (.int 1)))) (.int 0)))<|ai fun F p0 p1=>by
 simp only[aa,ab]at *
 obtain⟨a,b,c⟩:=ae (E.I F J1+1)
 omega
def bb:List Fa:=[G0,G1,G2,G3,G4,G5,G6,G7,G8,G9,G10,G11,G12]
theorem a2C:aI Tryz.prog (aX (a2m)):=sc bb (aV8) alx ([]) (by kernel_rfl) (by kernel_rfl)
def aly:Nl:=nc a2C alx
def Yb:=fb [J31] mj<|aj fun F p0=>by
 have:=(@dF F cn bQ J0 bW co J1)
 simp only[aa]at *;grind
def G14:=fb [kl,ll,J45] mj<|ag fun F p0 p1 p2=>by
 have:=(@dF F cn bQ J0 bW co J1)
 simp only[aa]at *;grind
def G15:=fb [kl,ll,mm,J47] mj<|am fun F p0 p1 p2 p3=>by
 have:=(@dF F cn bQ J0 bW co J1)
 simp only[aa]at *;grind
def G16:=fb [kl,ll,mm,ph,J49] mj<|aw fun F p0 p1 p2 p3 p4=>by
 have:=(@dF F cn bQ J0 bW co J1)
 simp only[aa]at *;grind
def G17:=fb (kl::ll::mm::ph::s9::wd::zU::gJ::(.not Mg)::bW::Mi) Mj<|jk fun F p0 p1 p2 p3 p4 p5 p6 p7 p8 p9 ao au az=>by
 have:=yB F (pr J1 (.int 2))
 have:=(@dF F cn bQ J0 bW co J1)
 simp only[aa]at *;grind
def G18:=fb (kl::ll::mm::ph::s9::wd::zU::gJ::(.not Mg)::Mi) Mj<|jV fun F p0 p1 p2 p3 p4 p5 p6 p7 p8 p9 ao au=>by
 have:=yB F (pr J1 (.int 2))
 have:=(@dF F cn bQ J0 bW co J1)
 simp only[aa]at *;grind
def G19:=fb (kl::ll::mm::ph::s9::wd::zU::gJ::Mg::J70) mj<|eW fun F p0 p1 p2 p3 p4 p5 p6 p7 p8 p9 ao=>by
 have:=(@dF F cn bQ J0 bW co J1)
 simp only[aa]at *;grind
def G20:=fb [kl,ll,mm,ph,s9,wd,zU,EI,bW] mj<|b8 fun F p0 p1 p2 p3 p4 p5 p6 p7 p8=>by
 have:=(@dF F cn bQ J0 bW co J1)
 simp only[aa]at *;grind
def G21:=fb (kl::ll::mm::ph::s9::wd::zU::EI::(.not bW)::Mi) Mj<|jV fun F p0 p1 p2 p3 p4 p5 p6 p7 p8 p9 ao au=>by
 have:=(@dF F cn bQ J0 bW co J1)
 simp only[aa]at *;grind
def G22:=fb [kl,ll,mm,ph,s9,wd,J53] mj<|bL fun F p0 p1 p2 p3 p4 p5 p6=>by
 have:=(@dF F cn bQ J0 bW co J1)
 simp only[aa]at *;grind
def G23:=fb [kl,ll,mm,ph,s9,J51] mj<|bq fun F p0 p1 p2 p3 p4 p5=>by
 have:=(@dF F cn bQ J0 bW co J1)
 simp only[aa]at *;grind
def G24:=fb [kl,ll,mm,ph,J67] mj<|aw fun F p0 p1 p2 p3 p4=>by
 have:=(@dF F cn bQ J0 bW co J1)
 simp only[aa]at *;grind
def G25:=fb [kl,ll,mm,J65] mj<|am fun F p0 p1 p2 p3=>by
 have:=(@dF F cn bQ J0 bW co J1)
 simp only[aa]at *;grind
def G26:=fb [kl,J43] mj<|ai fun F p0 p1=>by
 have:=(@dF F cn bQ J0 bW co J1)
 simp only[aa]at *;grind
def bl:List Fa:=[Yb,G14,G15,G16,G17,G18,G19,G20,G21,G22,G23,G24,G25,G26]
theorem a2D:aI Tryz.prog (aX (a1N)):=sc bl ([]) aly ([]) (by kernel_rfl) (by kernel_rfl)
def alz:Nl:=nc a2D aly
def G27:=fa ((fn 103 (pr J0 (pr kj (.int 0)))))<|fun F=>by
 rfl
def G28:=fb (pi::J80::(.not bW)::J6) (.iff J5 J84)<|am fun F p0 p1 p2 p3=>by
 have:=fun h0 h1=>@KK F _ _ (fn 9 (pr J0 (.int 5))) _ h0 h1 (fn _ (pr (fn 1 _) (pr (fn 1 _) (pr (fn 1 _) (pr (fn 1 _) (pr (fn 1 (pr J0 (fn 6 (pr (fn 8 (pr J1 _)) _)))) kj)))))) rfl
 simp only[aa]at *;grind
def Yr:=fb J89 Mb<|ag fun F p0 p1 p2=>by
 simp only[aa,ab]at *
 obtain⟨a,b,c⟩:=ae (E.I F J1+1)
 omega
def G30:=fb [(.not pi),J91] (.iff kj J84)<|ai fun F p0 p1=>by
 have:=fun h1=>@KJ F _ _ (fn 9 (pr J0 (.int 5))) _ p1 h1
 simp only[aa]at *;grind
def Yw:=fb (pi::J6) (.not (cmp .lss (fn 9 (pr J0 (.int 5))) (.ar .add .i64 J1 (.int 1))))<|ai fun F p0 p1=>by
 simp only[aa,ab]at *
 obtain⟨a,b,c⟩:=ae (E.I F J1+1)
 omega
def G32:=fb (pi::J80::bW::J91::Mk) (fn 103 (pr J0 (pr kj (.ar .add .i64 J1 (.int 1)))))<|bq fun F p0 p1 p2 p3 p4 p5=>by
 have:=@ay F J1 (.int 1)
 have:=fun h0 hm=>@KL F _ _ (.ar .add .i64 J1 (.int 1)) _ p3 h0 hm (fn _ (pr (fn 1 _) (pr (fn 1 _) (pr (fn 1 _) (pr (fn 1 _) (pr (fn 1 _) _)))))) rfl
 simp only[aa]at *;grind
def Yx:=fb J89 (cmp .lss (fn 7 (pr (fn 9 (pr J0 (.int 5))) (.ar .add .i64 J1 (.int 1)))) (fn 7 (pr (fn 9 (pr J0 (.int 5))) J1)))<|ag fun F p0 p1 p2=>by
 simp only[aa,ab]at *
 obtain⟨a,b,c⟩:=ae (E.I F J1+1)
 omega
def Yy:=fb (pi::J6) (.not (cmp .lss (fn 7 (pr (fn 9 (pr J0 (.int 5))) (.ar .add .i64 J1 (.int 1)))) (.int 0)))<|ai fun F p0 p1=>by
 simp only[aa,ab]at *
 obtain⟨a,b,c⟩:=ae (E.I F J1+1)
 omega
def bA:List Fa:=[G27,G28,Yr,G30,Yw,G32,Yx,Yy]
theorem a2E:aI Tryz.prog (aX (aoB 78 false)):=sc bA (aig 78 false) alz ([]) (by kernel_rfl) (by kernel_rfl)
def alB:Nl:=nc a2E alz
def G35:=fa ((fn 103 (pr J0 (pr qO (.int 0)))))<|fun F=>by
 rfl
def G36:=fb (pi::J99::(.not bW)::J6) (.iff J5 aad)<|am fun F p0 p1 p2 p3=>by
 have:=fun h0 h1=>@KK F _ _ (fn 9 (pr J0 (.int 5))) _ h0 h1 (fn _ (pr (fn 1 _) (pr (fn 1 _) (pr (fn 1 _) (pr (fn 1 _) (pr (fn 1 (pr J0 (fn 6 (pr (fn 8 (pr J1 _)) _)))) qO)))))) rfl
 simp only[aa]at *;grind
def G37:=fb [(.not pi),aae] (.iff kj aad)<|ai fun F p0 p1=>by
 have:=fun h1=>@KJ F _ _ (fn 9 (pr J0 (.int 5))) _ p1 h1
 simp only[aa]at *;grind
def G38:=fb (pi::J99::bW::aae::Mk) (fn 103 (pr J0 (pr qO (.ar .add .i64 J1 (.int 1)))))<|bq fun F p0 p1 p2 p3 p4 p5=>by
 have:=@ay F J1 (.int 1)
 have:=fun h0 hm=>@KL F _ _ (.ar .add .i64 J1 (.int 1)) _ p3 h0 hm (fn _ (pr (fn 1 _) (pr (fn 1 _) (pr (fn 1 _) (pr (fn 1 _) (pr (fn 1 _) _)))))) rfl
 simp only[aa]at *;grind
def bH:List Fa:=[G35,G36,Yr,G37,Yw,G38,Yx,Yy]
theorem a2F:aI Tryz.prog (aX (aoB 80 true)):=sc bH (aig 80 true) alB ([]) (by kernel_rfl) (by kernel_rfl)
def alC:Nl:=nc a2F alB
def Yz:=fa ((cmp .eql (fn 131 (pr J0 (pr bQ (.int 0)))) (.int 0)))<|fun F=>by
 rfl
def G40:=fb (vZ::aaf::J6) (.iff J5 aag)<|ag fun F p0 p1 p2=>by
 have:=@a4C F J0 bQ J1
 simp only[aa]at *;grind
def G41:=fb aai Mb<|ag fun F p0 p1 p2=>by
 simp only[aa,ab]at *
 obtain⟨a,b,c⟩:=ae (E.I F J1+1)
 omega
def G42:=fb [(.not vZ),aaj] (.iff kj aag)<|ai fun F p0 p1=>by
 have:=@a4N F J0 bQ J1
 simp only[aa]at *;grind
def G43:=fb (vZ::J6) (.not (cmp .lss (fn 0 J0) (.ar .add .i64 J1 (.int 1))))<|ai fun F p0 p1=>by
 simp only[aa,ab]at *
 obtain⟨a,b,c⟩:=ae (E.I F J1+1)
 omega
def G44:=fb (vZ::(.not aaf)::aaj::aah) (cmp .eql (fn 131 (pr J0 (pr bQ (.ar .add .i64 J1 (.int 1))))) (.int 0))<|aw fun F p0 p1 p2 p3 p4=>by
 have:=@ay F J1 (.int 1)
 have:=@TN F J0 bQ J1 (.ar .add .i64 J1 (.int 1))
 simp only[aa]at *;grind
def G45:=fb aai (cmp .lss (fn 7 (pr (fn 0 J0) (.ar .add .i64 J1 (.int 1)))) (fn 7 (pr (fn 0 J0) J1)))<|ag fun F p0 p1 p2=>by
 simp only[aa,ab]at *
 obtain⟨a,b,c⟩:=ae (E.I F J1+1)
 omega
def G46:=fb (vZ::J6) (.not (cmp .lss (fn 7 (pr (fn 0 J0) (.ar .add .i64 J1 (.int 1)))) (.int 0)))<|ai fun F p0 p1=>by
 simp only[aa,ab]at *
 obtain⟨a,b,c⟩:=ae (E.I F J1+1)
 omega
def bP:List Fa:=[Yz,G40,G41,G42,G43,G44,G45,G46]
theorem a2H:aI Tryz.prog (aX (a1W)):=sc bP (aVS) alC ([]) (by kernel_rfl) (by kernel_rfl)
def alD:Nl:=nc a2H alC
def YC:=fb [gJ,aak] gI<|ai fun F p0 p1=>by
 have:=@cz F J0 bQ co cn J1 bW ef d8 bk
 simp only[aa]at *;grind
def YD:=fb [gJ,J5,aal] gI<|ag fun F p0 p1 p2=>by
 have:=@cz F J0 bQ co cn J1 bW ef d8 bk
 simp only[aa]at *;grind
def YE:=fb [gJ,J5,mf,aan] gI<|am fun F p0 p1 p2 p3=>by
 have:=@cz F J0 bQ co cn J1 bW ef d8 bk
 simp only[aa]at *;grind
def YF:=fb [gJ,J5,mf,ny,aao] gI<|aw fun F p0 p1 p2 p3 p4=>by
 have:=@cz F J0 bQ co cn J1 bW ef d8 bk
 simp only[aa]at *;grind
def YG:=fb [gJ,J5,mf,ny,sX,aaq] gI<|bq fun F p0 p1 p2 p3 p4 p5=>by
 have:=@cz F J0 bQ co cn J1 bW ef d8 bk
 simp only[aa]at *;grind
def G52:=fb [gJ,J5,mf,ny,sX,zP,aas] gI<|bL fun F p0 p1 p2 p3 p4 p5 p6=>by
 have:=@cz F J0 bQ co cn J1 bW ef d8 bk
 simp only[aa]at *;grind
def G53:=fb (gJ::J5::mf::ny::sX::zP::Ep::Er::L4::sY::(.not Es)::L5::(.not Et)::aax) aay<|IW fun F p0 p1 p2 p3 p4 p5 p6 p7 p8 p9 ao au az aE aM aN bb bl bA=>by
 have:=@cz F J0 bQ co cn J1 bW ef d8 bk
 simp only[aa]at *;grind
def G54:=fb (gJ::J5::mf::ny::sX::zP::Ep::Er::L4::sY::(.not Es)::L5::Et::aax) (.iff qO En)<|IW fun F p0 p1 p2 p3 p4 p5 p6 p7 p8 p9 ao au az aE aM aN bb bl bA=>by
 have:=@cz F J0 bQ co cn J1 bW ef d8 bk
 simp only[aa]at *;grind
def G55:=fb [sY,(.not Es),(.not L5)] gI<|ag fun F p0 p1 p2=>by
 have:=@cz F J0 bQ co cn J1 bW ef d8 bk
 simp only[aa]at *;grind
def YI:=fb [sY,Es] gI<|ai fun F p0 p1=>by
 have:=@cz F J0 bQ co cn J1 bW ef d8 bk
 simp only[aa]at *;grind
def YJ:=fb [sY,aav] gI<|ai fun F p0 p1=>by
 have:=@cz F J0 bQ co cn J1 bW ef d8 bk
 simp only[aa]at *;grind
def YK:=fb [aat] gI<|aj fun F p0=>by
 have:=@cz F J0 bQ co cn J1 bW ef d8 bk
 simp only[aa]at *;grind
def G59:=fb [Ep,Er,(.not L4)] gI<|ag fun F p0 p1 p2=>by
 have:=@cz F J0 bQ co cn J1 bW ef d8 bk
 simp only[aa]at *;grind
def G60:=fb [Ep,(.not Er)] gI<|ai fun F p0 p1=>by
 have:=@cz F J0 bQ co cn J1 bW ef d8 bk
 simp only[aa]at *;grind
def G61:=fb (gJ::J5::mf::ny::sX::zP::L3::sY::(.not Et)::aaz) aay<|qk fun F p0 p1 p2 p3 p4 p5 p6 p7 p8 p9 ao au az aE aM aN=>by
 have:=@cz F J0 bQ co cn J1 bW ef d8 bk
 simp only[aa]at *;grind
def G62:=fb (gJ::J5::mf::ny::sX::zP::L3::sY::Et::aaz) (.iff qO En)<|qk fun F p0 p1 p2 p3 p4 p5 p6 p7 p8 p9 ao au az aE aM aN=>by
 have:=@cz F J0 bQ co cn J1 bW ef d8 bk
 simp only[aa]at *;grind
def YL:=fb [gJ,J5,mf,ny,sX,aar] gI<|bq fun F p0 p1 p2 p3 p4 p5=>by
 have:=@cz F J0 bQ co cn J1 bW ef d8 bk
 simp only[aa]at *;grind
def YM:=fb [gJ,J5,mf,ny,aap] gI<|aw fun F p0 p1 p2 p3 p4=>by
 have:=@cz F J0 bQ co cn J1 bW ef d8 bk
 simp only[aa]at *;grind
def YN:=fb [gJ,J5,mf,Mh] gI<|am fun F p0 p1 p2 p3=>by
 have:=@cz F J0 bQ co cn J1 bW ef d8 bk
 simp only[aa]at *;grind
def YP:=fb [gJ,J5,aam] gI<|ag fun F p0 p1 p2=>by
 have:=@cz F J0 bQ co cn J1 bW ef d8 bk
 simp only[aa]at *;grind
def YQ:=fb [gJ,J4] gI<|ai fun F p0 p1=>by
 have:=@cz F J0 bQ co cn J1 bW ef d8 bk
 simp only[aa]at *;grind
def YR:=fb [EI] gI<|aj fun F p0=>by
 have:=@cz F J0 bQ co cn J1 bW ef d8 bk
 simp only[aa]at *;grind
def bZ:List Fa:=[YC,YD,YE,YF,YG,G52,G53,G54,G55,YI,YJ,YK,G59,G60,G61,G62,YL,YM,YN,YP,YQ,YR]
theorem a2I:aI Tryz.prog (aX (aoC 104)):=sc bZ ([]) alD ([]) (by kernel_rfl) (by kernel_rfl)
def alE:Nl:=nc a2I alD
def G69:=fa ((fn 104 (pr (fn 10 (.int 0)) (pr J0 (pr (.int 0) L7)))))<|fun F=>by
 rfl
def G70:=fb jy (.not (cmp .lss (.int 40) (fn 0 (fn 1 (pr J0 (.int 6))))))<|aj fun F p0=>by
 have:=ap p0
 simp only[aa]at *;omega
def G71:=fb jy (.not (cmp .lss (.int 40) (fn 0 (fn 1 (pr J0 (.int 7))))))<|aj fun F p0=>by
 have:=ap p0
 simp only[aa]at *;omega
def YT:=fb jy (.not (cmp .lss (.int 40) (fn 0 (fn 1 (pr J0 (.int 8))))))<|aj fun F p0=>by
 have:=ap p0
 simp only[aa]at *;omega
def G73:=fb jy (.not (cmp .lss (.int 40) (fn 0 (fn 1 (pr J0 (.int 9))))))<|aj fun F p0=>by
 have:=ap p0
 simp only[aa]at *;omega
def Zj:=fb [pe] aaA<|aj fun F p0=>by
 simp only[aa,ab]at *
 obtain⟨a,b,c⟩:=ae (E.I F bk+1)
 omega
def G75:=fb jy (.not (cmp .lss (.int 40) (fn 0 (fn 1 (pr J0 (.int 20))))))<|aj fun F p0=>by
 have:=ap p0
 simp only[aa]at *;omega
def G76:=fb jy (.not (cmp .lss (.int 40) (fn 0 (fn 1 (pr J0 (.int 21))))))<|aj fun F p0=>by
 have:=ap p0
 simp only[aa]at *;omega
def Zk:=fb jy (.not (cmp .lss (.int 40) (fn 0 (fn 1 (pr J0 (.int 22))))))<|aj fun F p0=>by
 have:=ap p0
 simp only[aa]at *;omega
def G78:=fb jy (.not (cmp .lss (.int 40) (fn 0 (fn 1 (pr J0 (.int 23))))))<|aj fun F p0=>by
 have:=ap p0
 simp only[aa]at *;omega
def Zl:=fb [mg] aaA<|aj fun F p0=>by
 simp only[aa,ab]at *
 obtain⟨a,b,c⟩:=ae (E.I F bk+1)
 omega
def pd:=fb jy (.not (cmp .lss (.int 20) (fn 9 (pr (fn 1 (pr J0 (.int 29))) (.int 5)))))<|aj fun F p0=>by
 have:=ap p0
 simp only[aa]at *;omega
def G81:=fb [Ev,i5,pe] (fn 109 (pr (fn 1 (pr J0 (.int 6))) pf))<|ag fun F p0 p1 p2=>by
 obtain⟨g0,g1⟩:E.I F bk=(0)/\E.I F cS=(0):=by
  simp only[aa]at *;omega
 exact iF 0 0 6 (by decide) (by rfl) g0 g1
def G82:=fb [Ew,i5,pe] (fn 109 (pr (fn 1 (pr J0 (.int 7))) pf))<|ag fun F p0 p1 p2=>by
 obtain⟨g0,g1⟩:E.I F bk=(0)/\E.I F cS=(1):=by
  simp only[aa]at *;omega
 exact iF 0 1 7 (by decide) (by rfl) g0 g1
def G83:=fb [Ey,i5,pe] (fn 109 (pr (fn 1 (pr J0 (.int 8))) pf))<|ag fun F p0 p1 p2=>by
 obtain⟨g0,g1⟩:E.I F bk=(0)/\E.I F cS=(2):=by
  simp only[aa]at *;omega
 exact iF 0 2 8 (by decide) (by rfl) g0 g1
def G84:=fb ((.not Ev)::(.not Ew)::(.not Ey)::i5::aaC) (fn 109 (pr (fn 1 (pr J0 (.int 9))) pf))<|bL fun F p0 p1 p2 p3 p4 p5 p6=>by
 obtain⟨g0,g1⟩:E.I F bk=(0)/\E.I F cS=(3):=by
  simp only[aa]at *;omega
 exact iF 0 3 9 (by decide) (by rfl) g0 g1
def Zs:=fb [pe] aaD<|aj fun F p0=>by
 simp only[aa,ab]at *
 obtain⟨a,b,c⟩:=ae (E.I F bk+1)
 omega
def G86:=fb (mg::Ev::jy) (fn 109 (pr (fn 1 (pr J0 (.int 20))) pf))<|ag fun F p0 p1 p2=>by
 obtain⟨g0,g1⟩:E.I F bk=(1)/\E.I F cS=(0):=by
  simp only[aa]at *;omega
 exact iF 1 0 20 (by decide) (by rfl) g0 g1
def G87:=fb (mg::Ew::jy) (fn 109 (pr (fn 1 (pr J0 (.int 21))) pf))<|ag fun F p0 p1 p2=>by
 obtain⟨g0,g1⟩:E.I F bk=(1)/\E.I F cS=(1):=by
  simp only[aa]at *;omega
 exact iF 1 1 21 (by decide) (by rfl) g0 g1
def G88:=fb (mg::Ey::jy) (fn 109 (pr (fn 1 (pr J0 (.int 22))) pf))<|ag fun F p0 p1 p2=>by
 obtain⟨g0,g1⟩:E.I F bk=(1)/\E.I F cS=(2):=by
  simp only[aa]at *;omega
 exact iF 1 2 22 (by decide) (by rfl) g0 g1
def G89:=fb (mg::(.not Ev)::(.not Ew)::(.not Ey)::i5::sZ) (fn 109 (pr (fn 1 (pr J0 (.int 23))) pf))<|bL fun F p0 p1 p2 p3 p4 p5 p6=>by
 obtain⟨g0,g1⟩:E.I F bk=(1)/\E.I F cS=(3):=by
  simp only[aa]at *;omega
 exact iF 1 3 23 (by decide) (by rfl) g0 g1
def ZR:=fb [mg] aaD<|aj fun F p0=>by
 simp only[aa,ab]at *
 obtain⟨a,b,c⟩:=ae (E.I F bk+1)
 omega
def G91:=fb [(.not (cmp .lss bk (.int 2))),i5,(fn 104 (pr (var 9) (pr J0 (pr bk L7)))),(.not (cmp .lss (.int 2) bk))] (fn 105 (pr (var 9) (pr J0 (.int 0))))<|am fun F p0 p1 p2 p3=>by
 have g0:E.I F bk=(2):=by
  simp only[aa]at *;omega
 have g1:E.I F _=E.I F (.int 0):=rfl;have g2:E.I F _=E.I F (.int 0):=rfl;have g3:E.I F _=E.I F (.int 0):=rfl;exact a4x p2 g0 g1 g2 g3
def G92:=fb (s7::(fn 33 (pr v7 (fn 1 (pr ki d9))))::zQ::zR::aaE) mh<|b7 fun F p0 p1 p2 p3 p4 p5 p6 p7=>by
 have:=@KM F _ _ _ (fn 6 (pr d9 (.int 1))) _ _ _ p2 p3
 simp only[aa]at *;grind
def G93:=fb aaG (.not (cmp .lss (.ar .add .i64 d9 (.int 1)) (.int 0)))<|ag fun F p0 p1 p2=>by
 simp only[aa,ab]at *
 obtain⟨a,b,c⟩:=ae (E.I F d9+1)
 omega
def G94:=fb sZ (.not (cmp .lss (.ar .add .i64 cS (.int 1)) (.int 0)))<|ai fun F p0 p1=>by
 simp only[aa,ab]at *
 obtain⟨a,b,c⟩:=ae (E.I F cS+1)
 omega
def G95:=fb (mg::s7::(fn 33 (pr v7 (fn 1 (pr ki d9))))::zQ::zR::aaH) mh<|b7 fun F p0 p1 p2 p3 p4 p5 p6 p7=>by
 have:=@KM F _ _ _ (fn 6 (pr d9 (.int 1))) _ _ _ p3 p4
 simp only[aa]at *;grind
def G96:=fb ((.not Ez)::i5::pe::aaI) aaJ<|aw fun F p0 p1 p2 p3 p4=>by
 obtain⟨g0,g1,g2,g3,g4⟩:(0)<=E.I F bk/\(0)<=E.I F cS/\(0)<=E.I F (.ar .add .i64 bk (.int 1))/\(0)<=(0)/\E.I F (fn 6 (pr (fn 8 (pr (.ar .add .i64 bk (.int 1)) (.int 4))) (.int 0)))=E.I F (fn 6 (pr (fn 8 (pr bk (.int 4))) cS)):=by
  simp only[aa,ab]at *
  obtain⟨a,b,c⟩:=ae (E.I F bk+1)
  omega
 have g5:E.I F _=E.I F (.int 0):=rfl;exact aoU p3 (by omega) (by omega) (by omega) (by simp_all) g4 g5
def G97:=fb (mg::(.not Ez)::i5::aaI) aaJ<|aw fun F p0 p1 p2 p3 p4=>by
 obtain⟨g0,g1,g2,g3,g4⟩:(0)<=E.I F bk/\(0)<=E.I F cS/\(0)<=E.I F (.ar .add .i64 bk (.int 1))/\(0)<=(0)/\E.I F (fn 6 (pr (fn 8 (pr (.ar .add .i64 bk (.int 1)) (.int 4))) (.int 0)))=E.I F (fn 6 (pr (fn 8 (pr bk (.int 4))) cS)):=by
  simp only[aa,ab]at *
  obtain⟨a,b,c⟩:=ae (E.I F bk+1)
  omega
 have g5:E.I F _=E.I F (.int 0):=rfl;exact aoU p3 (by omega) (by omega) (by omega) (by simp_all) g4 g5
def G98:=fa ((fn 106 (pr (fn 10 (.int 0)) (pr J0 (.int 0)))))<|fun F=>by
 rfl
def G99:=fb aaK (.not (cmp .lss (fn 0 ki) (.ar .add .i64 d9 (.int 1))))<|ai fun F p0 p1=>by
 simp only[aa,ab]at *
 obtain⟨a,b,c⟩:=ae (E.I F d9+1)
 omega
def asH:=fb sZ (.not (cmp .lss (.int 4) (.ar .add .i64 cS (.int 1))))<|ai fun F p0 p1=>by
 simp only[aa,ab]at *
 obtain⟨a,b,c⟩:=ae (E.I F cS+1)
 omega
def VO:=fb [pe] aaL<|aj fun F p0=>by
 simp only[aa,ab]at *
 obtain⟨a,b,c⟩:=ae (E.I F bk+1)
 omega
def VP:=fb [mg] aaL<|aj fun F p0=>by
 simp only[aa,ab]at *
 obtain⟨a,b,c⟩:=ae (E.I F bk+1)
 omega
def atc:=fb (v8::Ma::(fn 33 (pr wa (fn 1 (pr (fn 1 (pr J0 (.int 29))) (fn 6 (pr (fn 8 (pr dl (.int 5))) (.int 1)))))))::aaQ) mh<|bq fun F p0 p1 p2 p3 p4 p5=>by
 have:=fun a b hn=>@DQ F (fn 6 (pr dl (.int 1))) _ _ _ _ p4 p3 a b hn _ _ _ _ rfl rfl rfl rfl
 simp only[aa]at *;grind
def ato:=fb EB (.not (cmp .lss (.ar .add .i64 dl (.int 1)) (.int 0)))<|ag fun F p0 p1 p2=>by
 have:=ap p0
 simp only[aa,ab]at *
 obtain⟨a,b,c⟩:=ae (E.I F dl+1)
 omega
def LK:=fb jy (.not (cmp .lss (.int 30) (fn 9 (pr (fn 1 (pr J0 (.int 0))) (.int 12)))))<|aj fun F p0=>by
 have:=ap p0
 simp only[aa]at *;omega
def atJ:=fb (s7::aaR::zQ::zR::L9::aaE) aaS<|b8 fun F p0 p1 p2 p3 p4 p5 p6 p7 p8=>by
 have:=@ay F d9 (.int 1)
 have:=@KM F _ _ _ (.ar .add .i64 d9 (.int 1)) _ _ _ p2 p3
 simp only[aa]at *;grind
def atV:=fb ((.not s7)::i5::zQ::zR::(.not (cmp .lss (fn 0 ki) d9))::sZ) (fn 104 (pr v7 (pr J0 (pr bk (pr (.ar .add .i64 cS (.int 1)) (.int 0))))))<|bL fun F p0 p1 p2 p3 p4 p5 p6=>by
 obtain⟨g0,g1,g2⟩:(0)<=E.I F cS/\E.I F d9=E.I F (fn 0 ki)/\E.I F (.ar .add .i64 cS (.int 1))=E.I F (fn 6 (pr cS (.int 1))):=by
  simp only[aa,ab]at *
  obtain⟨a,b,c⟩:=ae (E.I F cS+1)
  omega
 have g3:E.I F _=E.I F (.int 0):=rfl;exact a4v p2 p3 (by omega) g1 g2 g3
def at7:=fb (mg::s7::aaR::zQ::zR::L9::aaH) aaS<|b8 fun F p0 p1 p2 p3 p4 p5 p6 p7 p8=>by
 have:=@ay F d9 (.int 1)
 have:=@KM F _ _ _ (.ar .add .i64 d9 (.int 1)) _ _ _ p3 p4
 simp only[aa]at *;grind
def VQ:=fb [pe] aaT<|aj fun F p0=>by
 simp only[aa,ab]at *
 obtain⟨a,b,c⟩:=ae (E.I F bk+1)
 omega
def VZ:=fb [mg] aaT<|aj fun F p0=>by
 simp only[aa,ab]at *
 obtain⟨a,b,c⟩:=ae (E.I F bk+1)
 omega
def auo:=fb EB (.not (cmp .lss (fn 9 (pr (fn 1 (pr J0 (.int 29))) (.int 5))) (.ar .add .i64 dl (.int 1))))<|ag fun F p0 p1 p2=>by
 simp only[aa,ab]at *
 obtain⟨a,b,c⟩:=ae (E.I F dl+1)
 omega
def auu:=fb ((.not v8)::i5::aaO::aaU) (fn 105 (pr wa EC))<|am fun F p0 p1 p2 p3=>by
 have g0:E.I F (fn 9 (pr (fn 1 (pr J0 (.int 29))) (.int 5)))=E.I F dl:=by
  simp only[aa]at *;omega
 grind[a4w]
def auv:=fb aaG (cmp .lss (fn 7 (pr (fn 0 ki) (.ar .add .i64 d9 (.int 1)))) (fn 7 (pr (fn 0 ki) d9)))<|ag fun F p0 p1 p2=>by
 simp only[aa,ab]at *
 obtain⟨a,b,c⟩:=ae (E.I F d9+1)
 omega
def auw:=fb sZ (cmp .lss (fn 7 (pr (.int 4) (.ar .add .i64 cS (.int 1)))) (fn 7 (pr (.int 4) cS)))<|ai fun F p0 p1=>by
 simp only[aa,ab]at *
 obtain⟨a,b,c⟩:=ae (E.I F cS+1)
 omega
def aux:=fb aaW (fn 105 (pr (fn 34 (pr wa (pr (fn 1 (pr (fn 1 (pr J0 (.int 29))) (fn 6 (pr (fn 8 (pr dl (.int 5))) (.int 1))))) (fn 1 (pr (fn 1 (pr J0 (.int 29))) (fn 6 (pr (fn 8 (pr dl (.int 5))) (.int 0)))))))) ED))<|bL fun F p0 p1 p2 p3 p4 p5 p6=>by
 have:=ap p3
 have:=@ay F dl (.int 1)
 have:=fun a b hn=>@DQ F (.ar .add .i64 dl (.int 1)) _ _ _ _ p5 p4 a b hn _ _ _ _ rfl rfl rfl rfl
 simp only[aa]at *;grind
def auz:=fb aaX (fn 105 (pr wa ED))<|bq fun F p0 p1 p2 p3 p4 p5=>by
 have:=ap p2
 have:=@ay F dl (.int 1)
 have:=fun a b hn=>@DQ F (.ar .add .i64 dl (.int 1)) _ _ _ _ p4 p3 a b hn _ _ _ _ rfl rfl rfl rfl
 simp only[aa]at *;grind
def auI:=fb ((.not v8)::i5::aaN::aaU) (fn 106 (pr EA EC))<|am fun F p0 p1 p2 p3=>by
 have g0:E.I F (fn 9 (pr (fn 1 (pr J0 (.int 29))) (.int 5)))=E.I F dl:=by
  simp only[aa]at *;omega
 grind[a4y]
def auK:=fb aaK (.not (cmp .lss (fn 7 (pr (fn 0 ki) (.ar .add .i64 d9 (.int 1)))) (.int 0)))<|ai fun F p0 p1=>by
 simp only[aa,ab]at *
 obtain⟨a,b,c⟩:=ae (E.I F d9+1)
 omega
def auL:=fb sZ (.not (cmp .lss (fn 7 (pr (.int 4) (.ar .add .i64 cS (.int 1)))) (.int 0)))<|ai fun F p0 p1=>by
 simp only[aa,ab]at *
 obtain⟨a,b,c⟩:=ae (E.I F cS+1)
 omega
def auP:=fb aaW (fn 106 (pr (fn 34 (pr EA (pr (fn 1 (pr (fn 1 (pr J0 (.int 29))) (fn 6 (pr (fn 8 (pr dl (.int 5))) (.int 1))))) (fn 1 (pr (fn 1 (pr J0 (.int 29))) (fn 6 (pr (fn 8 (pr dl (.int 5))) (.int 2)))))))) ED))<|bL fun F p0 p1 p2 p3 p4 p5 p6=>by
 have:=ap p3
 have:=@ay F dl (.int 1)
 have:=fun a b hn=>@DQ F (.ar .add .i64 dl (.int 1)) _ _ _ _ p5 p4 a b hn _ _ _ _ rfl rfl rfl rfl
 simp only[aa]at *;grind
def au0:=fb aaX (fn 106 (pr EA ED))<|bq fun F p0 p1 p2 p3 p4 p5=>by
 have:=ap p2
 have:=@ay F dl (.int 1)
 have:=fun a b hn=>@DQ F (.ar .add .i64 dl (.int 1)) _ _ _ _ p4 p3 a b hn _ _ _ _ rfl rfl rfl rfl
 simp only[aa]at *;grind
def ava:=fa ((fn 107 (pr J0 (.int 0))))<|fun F=>by
 rfl
def avg:=fb EB (cmp .lss (fn 7 (pr (fn 9 (pr (fn 1 (pr J0 (.int 29))) (.int 5))) (.ar .add .i64 dl (.int 1)))) (fn 7 (pr (fn 9 (pr (fn 1 (pr J0 (.int 29))) (.int 5))) dl)))<|ag fun F p0 p1 p2=>by
 have:=ap p0
 simp only[aa,ab]at *
 obtain⟨a,b,c⟩:=ae (E.I F dl+1)
 omega
def avh:=fb Mc (.not (cmp .lss (.ar .sub .i64 aW (.int 1)) (.int 0)))<|ag fun F p0 p1 p2=>by
 have:=ap p0
 simp only[aa,ab]at *
 obtain⟨a,b,c⟩:=ae ((E.I F aW)-(1))
 omega
def avi:=fb [(.not i6),Md,Me,(.not (cmp .lss (fn 9 (pr (fn 1 (pr J0 (.int 0))) (.int 12))) aW))] (.iff (cmp .eql (fn 0 nx) (fn 9 (pr (fn 1 (pr J0 (.int 0))) (.int 12)))) (fn 108 J0))<|am fun F p0 p1 p2 p3=>by
 have:=@a58 F _ _ _ p2 p1
 simp only[aa]at *;grind
def avj:=fb EB (.not (cmp .lss (fn 7 (pr (fn 9 (pr (fn 1 (pr J0 (.int 29))) (.int 5))) (.ar .add .i64 dl (.int 1)))) (.int 0)))<|ag fun F p0 p1 p2=>by
 simp only[aa,ab]at *
 obtain⟨a,b,c⟩:=ae (E.I F dl+1)
 omega
def avq:=fb EE (cmp .lss (.ar .sub .i64 aW (.int 1)) (fn 9 (pr (fn 1 (pr J0 (.int 0))) (.int 12))))<|ai fun F p0 p1=>by
 simp only[aa,ab]at *
 obtain⟨a,b,c⟩:=ae ((E.I F aW)-(1))
 omega
def avB:=fb Mf aa0<|ai fun F p0 p1=>by
 simp only[aa,ab]at *
 obtain⟨a,b,c⟩:=ae (E.I F aW+1)
 omega
def avM:=fb (i6::qN::pg::wb::(fn 33 (pr nx (fn 1 (pr (fn 1 (pr J0 (.int 0))) (fn 6 (pr (fn 8 (pr aW (.int 12))) (.int 0)))))))::(fn 33 (pr zS (fn 1 (pr (fn 1 (pr J0 (.int 0))) (fn 6 (pr (fn 8 (pr aW (.int 12))) (.int 0)))))))::(.not EF)::zT) mh<|eW fun F p0 p1 p2 p3 p4 p5 p6 p7 p8 p9 ao=>by
 have:=@lW F _ (fn 6 (pr aW (.int 1))) _ _ _ p9 p8 p7 (.ar .sub .i64 aW (.int 1)) _ _ _ _ _ _ _ _ _ rfl rfl rfl rfl rfl rfl rfl rfl rfl
 simp only[aa]at *;grind
def avX:=fb (i6::wb::(.not wc)::zT) mh<|bL fun F p0 p1 p2 p3 p4 p5 p6=>by
 have:=@lW F _ (fn 6 (pr aW (.int 1))) _ _ _ p5 p4 p3 (.ar .sub .i64 aW (.int 1)) _ _ _ _ _ _ _ _ _ rfl rfl rfl rfl rfl rfl rfl rfl rfl
 simp only[aa]at *;grind
def av8:=fb (i6::wb::aa2::zT) mh<|bL fun F p0 p1 p2 p3 p4 p5 p6=>by
 have:=@lW F _ (fn 6 (pr aW (.int 1))) _ _ _ p5 p4 p3 (.ar .sub .i64 aW (.int 1)) _ _ _ _ _ _ _ _ _ rfl rfl rfl rfl rfl rfl rfl rfl rfl
 simp only[aa]at *;grind
def awj:=fb Mc aa0<|ag fun F p0 p1 p2=>by
 have:=ap p0
 simp only[aa,ab]at *
 obtain⟨a,b,c⟩:=ae (E.I F aW+1)
 omega
def aws:=fb (i6::qN::pg::qM::EG::(fn 33 (pr nx (fn 1 (pr (fn 1 (pr J0 (.int 0))) (fn 6 (pr (fn 8 (pr aW (.int 12))) (.int 0)))))))::(fn 33 (pr zS (fn 1 (pr (fn 1 (pr J0 (.int 0))) (fn 6 (pr (fn 8 (pr aW (.int 12))) (.int 0)))))))::(.not EF)::s8) mh<|jk fun F p0 p1 p2 p3 p4 p5 p6 p7 p8 p9 ao au az=>by
 have:=ap az
 have:=@aR F aW (.int 1)
 have:=@lW F _ (fn 6 (pr aW (.int 1))) _ _ _ ao p9 p8 (.ar .sub .i64 aW (.int 1)) _ _ _ _ _ _ _ _ _ rfl rfl rfl rfl rfl rfl rfl rfl rfl
 simp only[aa]at *;grind
def awD:=fb (i6::qM::(.not wc)::s8) mh<|b7 fun F p0 p1 p2 p3 p4 p5 p6 p7=>by
 have:=ap p7
 have:=@aR F aW (.int 1)
 have:=@lW F _ (fn 6 (pr aW (.int 1))) _ _ _ p5 p4 p3 (.ar .sub .i64 aW (.int 1)) _ _ _ _ _ _ _ _ _ rfl rfl rfl rfl rfl rfl rfl rfl rfl
 simp only[aa]at *;grind
def awO:=fb (i6::qM::aa2::s8) mh<|b7 fun F p0 p1 p2 p3 p4 p5 p6 p7=>by
 have:=ap p7
 have:=@aR F aW (.int 1)
 have:=@lW F _ (fn 6 (pr aW (.int 1))) _ _ _ p5 p4 p3 (.ar .sub .i64 aW (.int 1)) _ _ _ _ _ _ _ _ _ rfl rfl rfl rfl rfl rfl rfl rfl rfl
 simp only[aa]at *;grind
def awZ:=fb (i6::qN::pg::qM::(.not EG)::s8) mh<|fA fun F p0 p1 p2 p3 p4 p5 p6 p7 p8 p9=>by
 have:=ap p9
 have:=@aR F aW (.int 1)
 have:=@lW F _ (fn 6 (pr aW (.int 1))) _ _ _ p7 p6 p5 (.ar .sub .i64 aW (.int 1)) _ _ _ _ _ _ _ _ _ rfl rfl rfl rfl rfl rfl rfl rfl rfl
 simp only[aa]at *;grind
def axa:=fb (i6::qN::(.not pg)::s8) mh<|b7 fun F p0 p1 p2 p3 p4 p5 p6 p7=>by
 have:=ap p7
 have:=@aR F aW (.int 1)
 have:=@lW F _ (fn 6 (pr aW (.int 1))) _ _ _ p5 p4 p3 (.ar .sub .i64 aW (.int 1)) _ _ _ _ _ _ _ _ _ rfl rfl rfl rfl rfl rfl rfl rfl rfl
 simp only[aa]at *;grind
def axl:=fb aa3 aa4<|ag fun F p0 p1 p2=>by
 simp only[aa,ab]at *
 obtain⟨a,b,c⟩:=ae (E.I F aW+1)
 omega
def axw:=fb EE aa4<|ai fun F p0 p1=>by
 simp only[aa,ab]at *
 obtain⟨a,b,c⟩:=ae (E.I F aW+1)
 omega
def axH:=fb (i6::qN::pg::wb::(fn 33 (pr nx (fn 1 (pr (fn 1 (pr J0 (.int 0))) (fn 6 (pr (fn 8 (pr aW (.int 12))) (.int 0)))))))::wc::aa5::zT) EH<|eW fun F p0 p1 p2 p3 p4 p5 p6 p7 p8 p9 ao=>by
 have:=@ay F aW (.int 1)
 have:=@lW F _ (.ar .add .i64 aW (.int 1)) _ _ _ p9 p8 p7 (.ar .sub .i64 aW (.int 1)) _ _ _ _ _ _ _ _ _ rfl rfl rfl rfl rfl rfl rfl rfl rfl
 simp only[aa]at *;grind
def axS:=fb (i6::qN::pg::wb::(fn 33 (pr nx (fn 1 (pr (fn 1 (pr J0 (.int 0))) (fn 6 (pr (fn 8 (pr aW (.int 12))) (.int 0)))))))::wc::EF::zT) EH<|eW fun F p0 p1 p2 p3 p4 p5 p6 p7 p8 p9 ao=>by
 have:=@ay F aW (.int 1)
 have:=@lW F _ (.ar .add .i64 aW (.int 1)) _ _ _ p9 p8 p7 (.ar .sub .i64 aW (.int 1)) _ _ _ _ _ _ _ _ _ rfl rfl rfl rfl rfl rfl rfl rfl rfl
 simp only[aa]at *;grind
def ax3:=fb (i6::qN::pg::qM::EG::(fn 33 (pr nx (fn 1 (pr (fn 1 (pr J0 (.int 0))) (fn 6 (pr (fn 8 (pr aW (.int 12))) (.int 0)))))))::wc::aa5::s8) EH<|jk fun F p0 p1 p2 p3 p4 p5 p6 p7 p8 p9 ao au az=>by
 have:=ap az
 have:=@aR F aW (.int 1)
 have:=@ay F aW (.int 1)
 have:=@lW F _ (.ar .add .i64 aW (.int 1)) _ _ _ ao p9 p8 (.ar .sub .i64 aW (.int 1)) _ _ _ _ _ _ _ _ _ rfl rfl rfl rfl rfl rfl rfl rfl rfl
 simp only[aa]at *;grind
def aye:=fb (i6::qN::pg::qM::EG::(fn 33 (pr nx (fn 1 (pr (fn 1 (pr J0 (.int 0))) (fn 6 (pr (fn 8 (pr aW (.int 12))) (.int 0)))))))::wc::EF::s8) EH<|jk fun F p0 p1 p2 p3 p4 p5 p6 p7 p8 p9 ao au az=>by
 have:=ap az
 have:=@aR F aW (.int 1)
 have:=@ay F aW (.int 1)
 have:=@lW F _ (.ar .add .i64 aW (.int 1)) _ _ _ ao p9 p8 (.ar .sub .i64 aW (.int 1)) _ _ _ _ _ _ _ _ _ rfl rfl rfl rfl rfl rfl rfl rfl rfl
 simp only[aa]at *;grind
def ayp:=fb Mf aa6<|ai fun F p0 p1=>by
 simp only[aa,ab]at *
 obtain⟨a,b,c⟩:=ae (E.I F aW+1)
 omega
def ayA:=fb Mc aa6<|ag fun F p0 p1 p2=>by
 have:=ap p0
 simp only[aa,ab]at *
 obtain⟨a,b,c⟩:=ae (E.I F aW+1)
 omega
def ayL:=fb aa3 aa7<|ag fun F p0 p1 p2=>by
 simp only[aa,ab]at *
 obtain⟨a,b,c⟩:=ae (E.I F aW+1)
 omega
def ayW:=fb EE aa7<|ai fun F p0 p1=>by
 simp only[aa,ab]at *
 obtain⟨a,b,c⟩:=ae (E.I F aW+1)
 omega
def cg:List Fa:=[G69,G70,G71,YT,G73,Zj,G75,G76,Zk,G78,Zl,pd,G81,G82,G83,G84,Zs,G86,G87,G88,G89,ZR,G91,G92,G93,G94,G95,G96,G97,G98,G99,asH,VO,VP,atc,ato,LK,atJ,atV,at7,VQ,VZ,auo,auu,auv,auw,aux,auz,auI,auK,auL,auP,au0,ava,avg,avh,avi,avj,avq,avB,avM,avX,av8,awj,aws,awD,awO,awZ,axa,axl,axw,axH,axS,ax3,aye,ayp,ayA,ayL,ayW]
theorem a2J:aI Tryz.prog (aX (a2b)):=sc cg (aVW) alE ([]) (by kernel_rfl) (by kernel_rfl)
def alF:Nl:=nc a2J alE
end
end Go.Proofs.YtnnbmcfabojjjaaGreat.payPays
