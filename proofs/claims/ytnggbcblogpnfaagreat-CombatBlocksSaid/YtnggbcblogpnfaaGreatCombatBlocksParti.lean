/-
  CombatBlocks: contracts of functions, part 9.
-/
import Derived.Test.YtnggbcblogpnfaaGreatCombatBlocksParth
namespace Go.Proofs.YtnggbcblogpnfaaGreat.combatBlocks
open Go.ChangeShapes Go.WideShapes Go.ChangeAt Go.RowKit
open Go.SX
open Go.SX.E (fn pr cmp var)
set_option linter.unusedVariables false
set_option linter.unusedSimpArgs false
set_option maxRecDepth 100000
noncomputable section
abbrev V0:E:=var 11
abbrev V1:E:=cmp .eql V0 (.int 0)
abbrev V2:E:=.not (cmp .lss (.ar .add .i64 V0 (.int 1)) (.int 1))
abbrev V3:E:=var 1
abbrev V4:E:=.not (cmp .lss (.int 60) V3)
abbrev V5:E:=var 0
abbrev V6:E:=cmp .eql (fn 0 V5) V3
abbrev V7:E:=.not (cmp .lss V3 (.int 1))
abbrev V8:E:=cmp .lss V0 V3
abbrev V9:E:=var 9
abbrev Bv:E:=cmp .eql V9 V0
abbrev V11:E:=cmp .lss V0 (.int 1)
abbrev V12:E:=.not V11
abbrev WB:=[V12]
abbrev ql:=Bv::WB
abbrev V15:E:=.not (cmp .lss V3 V0)
abbrev WO:=[V15]
abbrev BB:E:=.not (cmp .lss V3 (.ar .add .i64 V0 (.int 1)))
abbrev ay:E:=var 16
abbrev gR:E:=cmp .lss ay V9
abbrev jq:E:=.not gR
abbrev lp:E:=.not (cmp .lss V9 ay)
abbrev V22:E:=cmp .lss (fn 7 (pr V9 ay)) (.int 0)
abbrev WQ:E:=.not V22
abbrev jY:E:=.not (cmp .lss ay (.int 0))
abbrev bi:E:=var 8
abbrev mQ:E:=cmp .eql (fn 0 bi) V9
abbrev w8:=[mQ,Bv]
abbrev WR:=jY::w8
abbrev V29:=V7::WR
abbrev V30:=V6::V29
abbrev V31:=V4::V30
abbrev V32:=V8::V31
abbrev BC:=gR::V32
abbrev BD:E:=.not (cmp .lss (.ar .add .i64 ay (.int 1)) (.int 0))
abbrev Jk:E:=fn 152 (pr bi (pr V5 V0))
abbrev WS:E:=cmp .eql (.ar .add .i64 V0 (.int 1)) (.int 1)
abbrev BE:E:=pr V5 (.ar .add .i64 V0 (.int 1))
abbrev V38:E:=pr (fn 23 (pr (fn 1 (pr V5 V0)) (fn 10 (.int 0)))) BE
abbrev WT:E:=fn 152 V38
abbrev V40:E:=cmp .lss (.int 2147483648) (fn 6 (pr (fn 7 (pr V9 ay)) (.int 1)))
abbrev WU:E:=.not V40
abbrev Jl:E:=cmp .lss (fn 1 (pr bi ay)) (fn 1 (pr V5 V0))
abbrev Jm:E:=fn 160 (pr bi (pr (fn 1 (pr V5 V0)) ay))
abbrev sZ:E:=cmp .lss (fn 7 (pr V3 (.ar .add .i64 V0 (.int 1)))) (fn 7 (pr V3 V0))
abbrev Jn:E:=var 10
abbrev V46:E:=cmp .lss Jn V9
abbrev V47:E:=.not V46
abbrev V48:=[V47]
abbrev WV:=mQ::V48
abbrev V50:E:=cmp .lss Jn ay
abbrev Jo:E:=.not V50
abbrev w9:E:=cmp .eql Jn ay
abbrev s5:E:=.not (cmp .lss (fn 7 (pr V3 (.ar .add .i64 V0 (.int 1)))) (.int 0))
abbrev V54:=V4::V6::V7::lp::w8
abbrev WW:=V8::V54
abbrev V56:E:=cmp .lss (.int 2147483648) ay
abbrev WX:E:=.not V56
abbrev V58:=V7::w8
abbrev V59:=V6::V58
abbrev V60:=V4::V59
abbrev Jp:=V8::V60
abbrev V62:E:=cmp .lss (fn 6 (pr (fn 7 (pr V9 ay)) (.int 1))) (.int 0)
abbrev WY:E:=.not V62
abbrev mR:E:=cmp .eql ay (.int 0)
abbrev WZ:E:=cmp .eql (fn 6 (pr (fn 7 (pr V9 ay)) (.int 1))) (.int 0)
abbrev Jq:=[mR,WZ,lp]
abbrev W0:E:=cmp .eql (.ar .add .i64 V0 (.int 1)) (.int 0)
abbrev mS:=jq::mR::lp::ql
abbrev W1:E:=cmp .lss (.int 0) (fn 6 (pr (fn 7 (pr V9 ay)) (.int 1)))
abbrev Jr:=[gR,mR,WZ]
abbrev V71:=V6::V7::ql
abbrev V72:=V4::V71
abbrev Js:=V8::V72
abbrev V74:=mR::Jp
abbrev Jt:=gR::V74
abbrev Ju:=lp::mQ::ql
abbrev W2:=gR::mR::V8::V6::w8
abbrev W3:E:=cmp .eql (fn 6 (pr (fn 7 (pr V9 ay)) (.int 1))) (.ar .add .i64 V0 (.int 1))
abbrev W4:E:=cmp .eql (fn 6 (pr (fn 0 (fn 4 (pr bi (pr ay (fn 6 (pr ay (fn 7 (pr V9 ay)))))))) (.int 1))) (fn 6 (pr (fn 7 (pr V9 ay)) (.int 1)))
abbrev W5:E:=cmp .eql (fn 6 (pr (fn 0 (fn 4 (pr bi (pr (.int 0) ay)))) (fn 6 (pr (fn 0 (fn 4 (pr bi (pr ay (fn 6 (pr ay (fn 7 (pr V9 ay)))))))) (.int 1))))) (fn 6 (pr ay (fn 6 (pr (fn 7 (pr V9 ay)) (.int 1)))))
abbrev V81:=mQ::WB
abbrev V82:=Jk::V81
abbrev V83:=jY::V82
abbrev V84:=lp::V83
abbrev V85:=Jm::V84
abbrev V86:=V6::V85
abbrev V87:=V4::V86
abbrev V88:=V8::V87
abbrev W6:=jq::V88
abbrev V90:E:=pr (fn 3 (pr (fn 23 (pr (fn 1 (pr V5 V0)) (fn 10 (.int 0)))) (fn 4 (pr bi (pr ay (fn 6 (pr ay (fn 7 (pr V9 ay))))))))) BE
abbrev W7:E:=fn 152 V90
abbrev V92:E:=pr (fn 3 (pr (fn 4 (pr bi (pr (.int 0) ay))) (fn 3 (pr (fn 23 (pr (fn 1 (pr V5 V0)) (fn 10 (.int 0)))) (fn 4 (pr bi (pr ay (fn 6 (pr ay (fn 7 (pr V9 ay))))))))))) BE
abbrev W8:E:=fn 152 V92
abbrev V94:=V6::Jm::jY::Jk::w8
abbrev V95:=V4::V94
abbrev W9:=V8::V95
abbrev V97:E:=cmp .lss bi (.int 0)
abbrev Xa:E:=.not V97
abbrev Xb:=[Xa]
abbrev Bw:E:=.bool false
abbrev aAv:E:=cmp .lss (.int 12) (fn 9 (pr V5 (.int 14)))
abbrev Wm:E:=.not aAv
abbrev aAw:E:=pr V5 (fn 9 (pr V5 (.int 14)))
abbrev aAx:E:=fn 155 aAw
abbrev Wn:E:=.and Wm aAx
abbrev Wo:E:=cmp .lss bi (.int 13)
abbrev Jc:E:=cmp .lss bi (fn 9 (pr V5 (.int 14)))
abbrev Wp:E:=.imp Wm Wn
abbrev Wq:E:=fn 155 (pr V5 bi)
abbrev Bx:E:=cmp .lss ay (fn 9 (pr (fn 1 (pr V5 (fn 6 (pr (fn 8 (pr bi (.int 14))) (.int 12))))) (.int 2)))
abbrev aAy:E:=cmp .lss (.int 3) (fn 9 (pr (fn 1 (pr V5 (fn 6 (pr (fn 8 (pr bi (.int 14))) (.int 12))))) (.int 2)))
abbrev Wr:E:=.not aAy
abbrev aAz:=[Wr]
abbrev Jd:=jY::aAz
abbrev Ws:=Bx::Jd
abbrev sY:=Wo::Xb
abbrev aAA:E:=cmp .lss (fn 9 (pr (fn 1 (pr V5 (fn 6 (pr (fn 8 (pr bi (.int 14))) (.int 12))))) (.int 2))) ay
abbrev Wt:E:=.not aAA
abbrev aAB:=Wt::Jd
abbrev Wu:=Bx::aAB
abbrev aAC:E:=pr (fn 1 (pr V5 (fn 6 (pr (fn 8 (pr bi (.int 14))) (.int 12))))) ay
abbrev Wv:E:=fn 157 aAC
abbrev By:E:=cmp .lss (.int 40) (fn 0 (fn 1 (pr V5 (.int 6))))
abbrev mP:E:=.imp Bw (fn 117 V5)
abbrev Ww:E:=cmp .lss (.int 40) (fn 0 (fn 1 (pr V5 (.int 7))))
abbrev Wx:E:=cmp .lss (.int 40) (fn 0 (fn 1 (pr V5 (.int 8))))
abbrev Wy:E:=cmp .lss (.int 40) (fn 0 (fn 1 (pr V5 (.int 9))))
abbrev Wz:E:=cmp .lss (.int 40) (fn 0 (fn 1 (pr V5 (.int 20))))
abbrev WA:E:=cmp .lss (.int 40) (fn 0 (fn 1 (pr V5 (.int 21))))
abbrev WC:E:=cmp .lss (.int 40) (fn 0 (fn 1 (pr V5 (.int 22))))
abbrev WD:E:=cmp .lss (.int 40) (fn 0 (fn 1 (pr V5 (.int 23))))
abbrev Je:E:=fn 159 V5
abbrev aAD:E:=cmp .lss (.int 20) (fn 9 (pr (fn 1 (pr V5 (.int 29))) (.int 5)))
abbrev WE:E:=.not aAD
abbrev Jf:E:=.and WE (fn 158 (pr (fn 1 (pr V5 (.int 29))) (fn 9 (pr (fn 1 (pr V5 (.int 29))) (.int 5)))))
abbrev aAE:E:=cmp .lss (.int 20) (fn 9 (pr (fn 1 (pr V5 (.int 30))) (.int 5)))
abbrev WF:E:=.not aAE
abbrev Jg:E:=.and WF (fn 158 (pr (fn 1 (pr V5 (.int 30))) (fn 9 (pr (fn 1 (pr V5 (.int 30))) (.int 5)))))
abbrev Bz:E:=.imp (.not (cmp .lss bi (.int 1))) Jf
abbrev aAF:E:=cmp .lss bi (.int 2)
abbrev WG:E:=.not aAF
abbrev Jh:E:=.imp WG Jg
abbrev w7:E:=cmp .lss ay (fn 9 (pr (fn 1 (pr V5 (.int 29))) (.int 5)))
abbrev Ji:=[WE]
abbrev aAG:=jY::Ji
abbrev WH:=w7::aAG
abbrev aAH:E:=pr (fn 1 (pr V5 (.int 29))) ay
abbrev WI:E:=fn 158 aAH
abbrev aAI:E:=cmp .lss (.ar .add .i64 bi (.int 1)) (.int 1)
abbrev aAJ:E:=.not aAI
abbrev WJ:E:=.imp aAJ Jf
abbrev Jj:E:=cmp .lss ay (fn 9 (pr (fn 1 (pr V5 (.int 30))) (.int 5)))
abbrev WK:=[WF]
abbrev WL:=jY::WK
abbrev WM:=Jj::WL
abbrev aAK:E:=cmp .lss (.ar .add .i64 bi (.int 1)) (.int 2)
abbrev aAL:E:=.not aAK
abbrev WN:E:=.imp aAL Jg
abbrev aAM:E:=pr (fn 1 (pr V5 (.int 30))) ay
abbrev WP:E:=fn 158 aAM
def P8:=fb [V1] V2<|ah fun F p0=>by
 simp only[aa,ae]at *
 obtain⟨a,b,c⟩:=ab (E.I F V0+1)
 omega
def ao8:=fb [V1,V4,V6,V7] V8<|aw fun F p0 p1 p2 p3=>by
 simp only[aa]at *;omega
def P9:=fb ql (.not (cmp .lss V9 (.int 0)))<|am fun F p0 p1=>by
 simp only[aa]at *;omega
def ao9:=fb ((.not V8)::V6::Bv::WO) (cmp .eql V9 V3)<|aw fun F p0 p1 p2 p3=>by
 simp only[aa]at *;omega
def apa:=fb [V8,V1,V4,V6] BB<|aw fun F p0 p1 p2 p3=>by
 simp only[aa,ae]at *
 obtain⟨a,b,c⟩:=ab (E.I F V0+1)
 omega
def Qa:=fb [jq,lp] WQ<|am fun F p0 p1=>by
 simp only[aa]at *;omega
def apb:=fb BC BD<|cR fun F p0 p1 p2 p3 p4 p5 p6 p7=>by
 simp only[aa,ae]at *
 obtain⟨a,b,c⟩:=ab (E.I F ay+1)
 omega
def Qb:=fb [gR,mQ] WQ<|am fun F p0 p1=>by
 simp only[aa]at *;omega
def Qc:=fa ((fn 160 (pr bi (pr (fn 1 (pr V5 V0)) (.int 0)))))<|fun F=>by
 rfl
def apc:=fb ((.not V8)::Jk::WO) (fn 152 (pr bi (pr V5 V3)))<|aj fun F p0 p1 p2=>by
 have:=@aMC F _ _ _ V3 p1
 simp only[aa]at *;grind
def Hx:=fb [V1] WS<|ah fun F p0=>by
 simp only[aa,ae]at *
 obtain⟨a,b,c⟩:=ab (E.I F V0+1)
 omega
def Qd:=fa ((.not (cmp .lss V9 (fn 6 (pr ay (fn 7 (pr V9 ay)))))))<|fun F=>by
 simp only[aa]at *;omega
def apd:=fb BC (.not (cmp .lss V9 (.ar .add .i64 ay (.int 1))))<|cR fun F p0 p1 p2 p3 p4 p5 p6 p7=>by
 simp only[aa,ae]at *
 obtain⟨a,b,c⟩:=ab (E.I F ay+1)
 omega
def ape:=fb [V8,V1,V4,V6,V7] WT<|aJ fun F p0 p1 p2 p3 p4=>by
 have:=@bJ F V0 (.int 1)
 have:=@agT F _ (.int 0) _ (.ar .add .i64 V0 (.int 1)) (fn 1 (pr V5 V0)) rfl
 simp only[aa]at *;grind
def Qe:=fb [jq,lp] WU<|am fun F p0 p1=>by
 simp only[aa]at *;omega
def apf:=fb (gR::Jl::V8::V4::Jm::WR) (fn 160 (pr bi (pr (fn 1 (pr V5 V0)) (.ar .add .i64 ay (.int 1)))))<|cR fun F p0 p1 p2 p3 p4 p5 p6 p7=>by
 have:=@bJ F ay (.int 1)
 have:=@agX F bi ay (.ar .add .i64 ay (.int 1)) (fn 1 (pr V5 V0))
 simp only[aa]at *;grind
def apg:=fb [V8,V4,V6,V7,jY,Bv] WU<|bL fun F p0 p1 p2 p3 p4 p5=>by
 simp only[aa]at *;omega
def aph:=fb [V1] sZ<|ah fun F p0=>by
 simp only[aa,ae]at *
 obtain⟨a,b,c⟩:=ab (E.I F V0+1)
 omega
def Qf:=fb (jq::lp::WV) Jo<|aw fun F p0 p1 p2 p3=>by
 simp only[aa]at *;omega
def Qg:=fb [w9] Jo<|ah fun F p0=>by
 simp only[aa]at *;omega
def api:=fb BC (cmp .lss (fn 7 (pr V9 (.ar .add .i64 ay (.int 1)))) (fn 7 (pr V9 ay)))<|cR fun F p0 p1 p2 p3 p4 p5 p6 p7=>by
 simp only[aa,ae]at *
 obtain⟨a,b,c⟩:=ab (E.I F ay+1)
 omega
def Qh:=fb (gR::WV) Jo<|aj fun F p0 p1 p2=>by
 simp only[aa]at *;omega
def apj:=fb [V8,V1,V4,V6] s5<|aw fun F p0 p1 p2 p3=>by
 simp only[aa,ae]at *
 obtain⟨a,b,c⟩:=ab (E.I F V0+1)
 omega
def apk:=fb (jq::WW) WX<|cR fun F p0 p1 p2 p3 p4 p5 p6 p7=>by
 simp only[aa]at *;omega
def apl:=fb BC (.not (cmp .lss (fn 7 (pr V9 (.ar .add .i64 ay (.int 1)))) (.int 0)))<|cR fun F p0 p1 p2 p3 p4 p5 p6 p7=>by
 simp only[aa,ae]at *
 obtain⟨a,b,c⟩:=ab (E.I F ay+1)
 omega
def apm:=fb (gR::Jp) WX<|cH fun F p0 p1 p2 p3 p4 p5 p6=>by
 simp only[aa]at *;omega
def Qi:=fb [jq,lp] WY<|am fun F p0 p1=>by
 simp only[aa]at *;omega
def apn:=fb (jq::w9::WW) (.not (cmp .lss (.int 2147483648) (fn 6 (pr ay (.int 1)))))<|dP fun F p0 p1 p2 p3 p4 p5 p6 p7 p8=>by
 simp only[aa]at *;omega
def Qj:=fb [gR,mQ] WY<|am fun F p0 p1=>by
 simp only[aa]at *;omega
def Qk:=fb Jq W0<|aj fun F p0 p1 p2=>by
 simp only[aa]at *;omega
def Qm:=fb mS W1<|aJ fun F p0 p1 p2 p3 p4=>by
 simp only[aa]at *;omega
def apo:=fb Jp (.not (cmp .lss (.int 2147483648) (fn 6 (pr ay (fn 6 (pr (fn 7 (pr V9 ay)) (.int 1)))))))<|bL fun F p0 p1 p2 p3 p4 p5=>by
 simp only[aa]at *;omega
def Qn:=fb Jr W0<|aj fun F p0 p1 p2=>by
 simp only[aa]at *;omega
def Qo:=fb [gR,mR,mQ] W1<|aj fun F p0 p1 p2=>by
 simp only[aa]at *;omega
def apq:=fb Jq sZ<|aj fun F p0 p1 p2=>by
 simp only[aa]at *;omega
def Qp:=fb mS V2<|aJ fun F p0 p1 p2 p3 p4=>by
 simp only[aa]at *;omega
def apr:=fb Js V2<|bL fun F p0 p1 p2 p3 p4 p5=>by
 simp only[aa,ae]at *
 obtain⟨a,b,c⟩:=ab (E.I F V0+1)
 omega
def Qq:=fb (jq::w9::mR::lp::ql) WS<|bL fun F p0 p1 p2 p3 p4 p5=>by
 simp only[aa]at *;omega
def aps:=fb Jr sZ<|aj fun F p0 p1 p2=>by
 simp only[aa]at *;omega
def apt:=fb Jt V2<|cR fun F p0 p1 p2 p3 p4 p5 p6 p7=>by
 simp only[aa,ae]at *
 obtain⟨a,b,c⟩:=ab (E.I F V0+1)
 omega
def apu:=fb Jq s5<|aj fun F p0 p1 p2=>by
 simp only[aa]at *;omega
def apv:=fb mS BB<|aJ fun F p0 p1 p2 p3 p4=>by
 simp only[aa]at *;omega
def apw:=fb (V8::V6::ql) BB<|aw fun F p0 p1 p2 p3=>by
 simp only[aa,ae]at *
 obtain⟨a,b,c⟩:=ab (E.I F V0+1)
 omega
def Qs:=fb mS WT<|aJ fun F p0 p1 p2 p3 p4=>by
 simp only[aa]at *;grind
def apx:=fb (jq::w9::V8::V4::V6::V7::Ju) (cmp .eql (fn 6 (pr ay (.int 1))) (.ar .add .i64 V0 (.int 1)))<|eT fun F p0 p1 p2 p3 p4 p5 p6 p7 p8 p9=>by
 simp only[aa,ae]at *
 obtain⟨a,b,c⟩:=ab (E.I F V0+1)
 omega
def apy:=fb Jr s5<|aj fun F p0 p1 p2=>by
 simp only[aa]at *;omega
def apz:=fb W2 BB<|bL fun F p0 p1 p2 p3 p4 p5=>by
 simp only[aa,ae]at *
 obtain⟨a,b,c⟩:=ab (E.I F V0+1)
 omega
def Qt:=fb mS W3<|aJ fun F p0 p1 p2 p3 p4=>by
 simp only[aa]at *;omega
def apA:=fb Js (cmp .eql (fn 6 (pr ay (fn 6 (pr (fn 7 (pr V9 ay)) (.int 1))))) (.ar .add .i64 V0 (.int 1)))<|bL fun F p0 p1 p2 p3 p4 p5=>by
 simp only[aa,ae]at *
 obtain⟨a,b,c⟩:=ab (E.I F V0+1)
 omega
def Qu:=fb (jq::w9::Ju) (cmp .eql (fn 6 (pr (fn 0 (fn 4 (pr bi (pr (.int 0) ay)))) (.int 1))) (fn 6 (pr ay (.int 1))))<|bL fun F p0 p1 p2 p3 p4 p5=>by
 have:=@um F bi (.int 0) ay
 simp only[aa]at *;omega
def apB:=fb Jt W3<|cR fun F p0 p1 p2 p3 p4 p5 p6 p7=>by
 simp only[aa,ae]at *
 obtain⟨a,b,c⟩:=ab (E.I F V0+1)
 omega
def Qw:=fb mS W4<|aJ fun F p0 p1 p2 p3 p4=>by
 simp only[aa]at *;omega
def Qx:=fb (jq::Ju) W5<|aJ fun F p0 p1 p2 p3 p4=>by
 have:=@um F bi (.int 0) ay
 have:=@um F bi ay (fn 6 (pr ay (fn 7 (pr V9 ay))))
 simp only[aa]at *;omega
def apC:=fb W6 (fn 152 (pr (fn 3 (pr (fn 4 (pr bi (pr (.int 0) ay))) (fn 23 (pr (fn 1 (pr V5 V0)) (fn 10 (.int 0)))))) BE))<|eT fun F p0 p1 p2 p3 p4 p5 p6 p7 p8 p9=>by
 have:=@bJ F V0 (.int 1)
 have:=@pL F _ _ _ _ (.ar .add .i64 V0 (.int 1)) _ (fn 0 bi) p7 p4 rfl
 simp only[aa]at *;grind
def Qy:=fb [gR,mR,mQ] W4<|aj fun F p0 p1 p2=>by
 have:=@um F bi ay (fn 6 (pr ay (fn 7 (pr V9 ay))))
 simp only[aa]at *;omega
def Qz:=fb [gR,jY,mQ] W5<|aj fun F p0 p1 p2=>by
 have:=@um F bi (.int 0) ay
 have:=@um F bi ay (fn 6 (pr ay (fn 7 (pr V9 ay))))
 simp only[aa]at *;omega
def QA:=fb mS W7<|aJ fun F p0 p1 p2 p3 p4=>by
 simp only[aa]at *;grind
def apD:=fb W6 W8<|eT fun F p0 p1 p2 p3 p4 p5 p6 p7 p8 p9=>by
 have:=@bJ F V0 (.int 1)
 have:=@pL F _ _ _ _ (.ar .add .i64 V0 (.int 1)) _ (fn 6 (pr ay (fn 7 (pr V9 ay)))) p7 p4 rfl
 simp only[aa]at *;grind
def apE:=fb (gR::(.not Jl)::mR::W9) W7<|gX fun F p0 p1 p2 p3 p4 p5 p6 p7 p8 p9 ak=>by
 have:=@bJ F V0 (.int 1)
 have:=@pL F _ _ _ _ (.ar .add .i64 V0 (.int 1)) _ (fn 6 (pr ay (fn 7 (pr V9 ay)))) p8 p6 rfl
 simp only[aa]at *;grind
def apF:=fb (gR::(.not Jl)::W9) W8<|eT fun F p0 p1 p2 p3 p4 p5 p6 p7 p8 p9=>by
 have:=@bJ F V0 (.int 1)
 have:=@pL F _ _ _ _ (.ar .add .i64 V0 (.int 1)) _ (fn 6 (pr ay (fn 7 (pr V9 ay)))) p7 p5 rfl
 simp only[aa]at *;grind
def apG:=fb mS sZ<|aJ fun F p0 p1 p2 p3 p4=>by
 simp only[aa]at *;omega
def apH:=fb Js sZ<|bL fun F p0 p1 p2 p3 p4 p5=>by
 simp only[aa,ae]at *
 obtain⟨a,b,c⟩:=ab (E.I F V0+1)
 omega
def apI:=fb Jt sZ<|cR fun F p0 p1 p2 p3 p4 p5 p6 p7=>by
 simp only[aa,ae]at *
 obtain⟨a,b,c⟩:=ab (E.I F V0+1)
 omega
def apJ:=fb mS s5<|aJ fun F p0 p1 p2 p3 p4=>by
 simp only[aa]at *;omega
def apK:=fb (V8::V6::ql) s5<|aw fun F p0 p1 p2 p3=>by
 simp only[aa,ae]at *
 obtain⟨a,b,c⟩:=ab (E.I F V0+1)
 omega
def apL:=fb W2 s5<|bL fun F p0 p1 p2 p3 p4 p5=>by
 simp only[aa,ae]at *
 obtain⟨a,b,c⟩:=ab (E.I F V0+1)
 omega
def eK:List Fa:=[P8,ao8,P9,ao9,apa,Qa,apb,Qb,Qc,apc,Hx,Qd,apd,ape,Qe,apf,apg,aph,Qf,Qg,api,Qh,apj,apk,apl,apm,Qi,apn,Qj,Qk,Qm,apo,Qn,Qo,apq,Qp,apr,Qq,aps,apt,apu,apv,apw,Qs,apx,apy,apz,Qt,apA,Qu,apB,Qw,Qx,apC,Qy,Qz,QA,apD,apE,apF,apG,apH,apI,apJ,apK,apL]
theorem aKX:aL Tryz.prog (bh (aKw)):=sc eK (aFm) adR ([]) (by kernel_rfl) (by kernel_rfl)
def adT:Nl:=nc aKX adR
def apM:=fa ((fn 155 (pr V5 (.int 0))))<|fun F=>by
 rfl
def apN:=fb Xb (.imp Bw Wn)<|ah fun F p0=>by
 rfl
def apO:=fa ((fn 157 (pr (fn 1 (pr V5 (fn 6 (pr (fn 8 (pr bi (.int 14))) (.int 12))))) (.int 0))))<|fun F=>by
 rfl
def apP:=fb [(.not Wo),Jc] Wp<|am fun F p0 p1=>by
 simp only[aa]at *;grind
def apQ:=fb [(.not Jc),Wq,(.not (cmp .lss (fn 9 (pr V5 (.int 14))) bi))] Wp<|aj fun F p0 p1 p2=>by
 have:=@aMF F bi (fn 9 (pr V5 (.int 14))) V5
 simp only[aa]at *;grind
def apR:=fb Ws BD<|aj fun F p0 p1 p2=>by
 simp only[aa,ae]at *
 obtain⟨a,b,c⟩:=ab (E.I F ay+1)
 omega
def apS:=fb sY (.not (cmp .lss (.ar .add .i64 bi (.int 1)) (.int 0)))<|am fun F p0 p1=>by
 simp only[aa,ae]at *
 obtain⟨a,b,c⟩:=ab (E.I F bi+1)
 omega
def apT:=fb Wu (.not (cmp .lss (fn 9 (pr (fn 1 (pr V5 (fn 6 (pr (fn 8 (pr bi (.int 14))) (.int 12))))) (.int 2))) (.ar .add .i64 ay (.int 1))))<|aw fun F p0 p1 p2 p3=>by
 simp only[aa,ae]at *
 obtain⟨a,b,c⟩:=ab (E.I F ay+1)
 omega
def apU:=fb sY (.not (cmp .lss (.int 13) (.ar .add .i64 bi (.int 1))))<|am fun F p0 p1=>by
 simp only[aa,ae]at *
 obtain⟨a,b,c⟩:=ab (E.I F bi+1)
 omega
def apV:=fb (Bx::(.not (cmp .lss (.int 5) (fn 9 (pr (fn 1 (pr (fn 1 (pr V5 (fn 6 (pr (fn 8 (pr bi (.int 14))) (.int 12))))) (fn 6 (pr (fn 8 (pr ay (.int 2))) (.int 1))))) (.int 5)))))::Wv::Jd) (fn 157 (pr (fn 1 (pr V5 (fn 6 (pr (fn 8 (pr bi (.int 14))) (.int 12))))) (.ar .add .i64 ay (.int 1))))<|aJ fun F p0 p1 p2 p3 p4=>by
 have:=@bJ F ay (.int 1)
 have:=@aMH F ay (.ar .add .i64 ay (.int 1)) (fn 1 (pr V5 (fn 6 (pr (fn 8 (pr bi (.int 14))) (.int 12)))))
 simp only[aa]at *;grind
def apW:=fb (Jc::sY) (.not (cmp .lss (fn 9 (pr V5 (.int 14))) (.ar .add .i64 bi (.int 1))))<|aj fun F p0 p1 p2=>by
 simp only[aa,ae]at *
 obtain⟨a,b,c⟩:=ab (E.I F bi+1)
 omega
def apX:=fb Ws (cmp .lss (fn 7 (pr (fn 9 (pr (fn 1 (pr V5 (fn 6 (pr (fn 8 (pr bi (.int 14))) (.int 12))))) (.int 2))) (.ar .add .i64 ay (.int 1)))) (fn 7 (pr (fn 9 (pr (fn 1 (pr V5 (fn 6 (pr (fn 8 (pr bi (.int 14))) (.int 12))))) (.int 2))) ay)))<|aj fun F p0 p1 p2=>by
 simp only[aa,ae]at *
 obtain⟨a,b,c⟩:=ab (E.I F ay+1)
 omega
def apY:=fb ((.not Bx)::Wv::Wt::Wr::(.not (cmp .lss (.int 5) (fn 9 (pr (fn 1 (pr V5 (fn 6 (pr (fn 8 (pr bi (.int 14))) (.int 11))))) (.int 5)))))::Wq::sY) (fn 155 (pr V5 (.ar .add .i64 bi (.int 1))))<|cR fun F p0 p1 p2 p3 p4 p5 p6 p7=>by
 have:=@bJ F bi (.int 1)
 have:=@aMG F bi (.ar .add .i64 bi (.int 1)) V5
 have:=@aNK F (fn 1 (pr V5 (fn 6 (pr (fn 8 (pr bi (.int 14))) (.int 11))))) (fn 1 (pr V5 (fn 6 (pr (fn 8 (pr bi (.int 14))) (.int 12)))))
 have hy1:E.I F ay=E.I F (fn 9 (pr (fn 1 (pr V5 (fn 6 (pr (fn 8 (pr bi (.int 14))) (.int 12))))) (.int 2)))->E.B F (fn 157 (pr (fn 1 (pr V5 (fn 6 (pr (fn 8 (pr bi (.int 14))) (.int 12))))) (fn 9 (pr (fn 1 (pr V5 (fn 6 (pr (fn 8 (pr bi (.int 14))) (.int 12))))) (.int 2)))))=true:=fun hh=>by simp_all[ahZ]
 simp only[aa]at *;grind
def apZ:=fb Wu (.not (cmp .lss (fn 7 (pr (fn 9 (pr (fn 1 (pr V5 (fn 6 (pr (fn 8 (pr bi (.int 14))) (.int 12))))) (.int 2))) (.ar .add .i64 ay (.int 1)))) (.int 0)))<|aw fun F p0 p1 p2 p3=>by
 simp only[aa,ae]at *
 obtain⟨a,b,c⟩:=ab (E.I F ay+1)
 omega
def ap0:=fb sY (cmp .lss (fn 7 (pr (.int 13) (.ar .add .i64 bi (.int 1)))) (fn 7 (pr (.int 13) bi)))<|am fun F p0 p1=>by
 simp only[aa,ae]at *
 obtain⟨a,b,c⟩:=ab (E.I F bi+1)
 omega
def ap1:=fb sY (.not (cmp .lss (fn 7 (pr (.int 13) (.ar .add .i64 bi (.int 1)))) (.int 0)))<|am fun F p0 p1=>by
 simp only[aa,ae]at *
 obtain⟨a,b,c⟩:=ab (E.I F bi+1)
 omega
def fD:List Fa:=[apM,apN,apO,apP,apQ,apR,apS,apT,apU,apV,apW,apX,apY,apZ,ap0,ap1]
theorem aKY:aL Tryz.prog (bh (aKp)):=sc fD (aFc) adT ([]) (by kernel_rfl) (by kernel_rfl)
def adU:Nl:=nc aKY adT
def ap2:=fb [By] mP<|ah fun F p0=>by
 rfl
def ap3:=fb [Ww] mP<|ah fun F p0=>by
 rfl
def ap4:=fb [Wx] mP<|ah fun F p0=>by
 rfl
def ap5:=fb [Wy] mP<|ah fun F p0=>by
 rfl
def ap6:=fb [Wz] mP<|ah fun F p0=>by
 rfl
def ap7:=fb [WA] mP<|ah fun F p0=>by
 rfl
def ap8:=fb [WC] mP<|ah fun F p0=>by
 rfl
def ap9:=fb [WD] mP<|ah fun F p0=>by
 rfl
def aqa:=fb [(.not By),(.not Ww),(.not Wx),(.not Wy),(.not Wz),(.not WA),(.not WC),(.not WD)] Je<|cR fun F p0 p1 p2 p3 p4 p5 p6 p7=>by
 have:=@kX F V5
 simp only[aa]at *;grind
def aqb:=fb [(.not By)] (.imp Bw Jf)<|ah fun F p0=>by
 rfl
def aqc:=fb [(.not By)] (.imp Bw Jg)<|ah fun F p0=>by
 rfl
def aqd:=fb [Je] mP<|ah fun F p0=>by
 rfl
def aqe:=fb [Bz] Bz<|ah fun F p0=>by
 omega
def aqf:=fb [WG,(.not (cmp .lss (.int 30) (fn 9 (pr (fn 1 (pr V5 (.int 0))) (.int 12))))),(.not (cmp .lss (.int 30) (fn 0 (fn 1 (pr V5 (.int 31)))))),Jh,Bz,Je] (.imp (.not (cmp .lss (.int 30) (fn 9 (pr (fn 1 (pr V5 (.int 32))) (.int 2))))) (fn 117 V5))<|bL fun F p0 p1 p2 p3 p4 p5=>by
 have:=@gi F V5
 simp only[aa]at *;grind
def aqg:=fb [Jh] Jh<|ah fun F p0=>by
 omega
def aqh:=fa ((fn 158 (pr (fn 1 (pr V5 (.int 29))) (.int 0))))<|fun F=>by
 rfl
def aqi:=fa ((fn 158 (pr (fn 1 (pr V5 (.int 30))) (.int 0))))<|fun F=>by
 rfl
def aqj:=fb WH BD<|aj fun F p0 p1 p2=>by
 simp only[aa,ae]at *
 obtain⟨a,b,c⟩:=ab (E.I F ay+1)
 omega
def aqk:=fb ((.not w7)::WI::(.not (cmp .lss (fn 9 (pr (fn 1 (pr V5 (.int 29))) (.int 5))) ay))::Ji) WJ<|aw fun F p0 p1 p2 p3=>by
 have:=@agV F (fn 1 (pr V5 (.int 29))) ay (fn 9 (pr (fn 1 (pr V5 (.int 29))) (.int 5)))
 simp only[aa]at *;grind
def aql:=fb WM BD<|aj fun F p0 p1 p2=>by
 simp only[aa,ae]at *
 obtain⟨a,b,c⟩:=ab (E.I F ay+1)
 omega
def aqm:=fb [(cmp .eql bi (.int 1)),Bz] WJ<|am fun F p0 p1=>by
 simp only[aa]at *;simp_all
def aqn:=fb [w7,jY] (.not (cmp .lss (fn 9 (pr (fn 1 (pr V5 (.int 29))) (.int 5))) (.ar .add .i64 ay (.int 1))))<|am fun F p0 p1=>by
 simp only[aa,ae]at *
 obtain⟨a,b,c⟩:=ab (E.I F ay+1)
 omega
def aqo:=fb [(.not (cmp .lss (.int 2) bi)),Xa,(cmp .eql bi (.int 0))] WN<|aj fun F p0 p1 p2=>by
 simp only[aa,ae]at *
 obtain⟨a,b,c⟩:=ab (E.I F bi+1)
 omega
def aqp:=fb ((.not Jj)::WP::(.not (cmp .lss (fn 9 (pr (fn 1 (pr V5 (.int 30))) (.int 5))) ay))::WK) WN<|aw fun F p0 p1 p2 p3=>by
 have:=@agV F (fn 1 (pr V5 (.int 30))) ay (fn 9 (pr (fn 1 (pr V5 (.int 30))) (.int 5)))
 simp only[aa]at *;grind
def aqq:=fb (w7::(.not (cmp .lss (.int 6) (fn 9 (pr (fn 1 (pr (fn 1 (pr V5 (.int 29))) (fn 6 (pr (fn 8 (pr ay (.int 5))) (.int 4))))) (.int 2)))))::jY::WI::Ji) (fn 158 (pr (fn 1 (pr V5 (.int 29))) (.ar .add .i64 ay (.int 1))))<|aJ fun F p0 p1 p2 p3 p4=>by
 have:=@bJ F ay (.int 1)
 have:=@agW F (fn 1 (pr V5 (.int 29))) ay (.ar .add .i64 ay (.int 1))
 simp only[aa]at *;grind
def aqr:=fb (Jj::(.not (cmp .lss (.int 6) (fn 9 (pr (fn 1 (pr (fn 1 (pr V5 (.int 30))) (fn 6 (pr (fn 8 (pr ay (.int 5))) (.int 4))))) (.int 2)))))::WP::WL) (fn 158 (pr (fn 1 (pr V5 (.int 30))) (.ar .add .i64 ay (.int 1))))<|aJ fun F p0 p1 p2 p3 p4=>by
 have:=@bJ F ay (.int 1)
 have:=@agW F (fn 1 (pr V5 (.int 30))) ay (.ar .add .i64 ay (.int 1))
 simp only[aa]at *;grind
def aqs:=fb WH (cmp .lss (fn 7 (pr (fn 9 (pr (fn 1 (pr V5 (.int 29))) (.int 5))) (.ar .add .i64 ay (.int 1)))) (fn 7 (pr (fn 9 (pr (fn 1 (pr V5 (.int 29))) (.int 5))) ay)))<|aj fun F p0 p1 p2=>by
 simp only[aa,ae]at *
 obtain⟨a,b,c⟩:=ab (E.I F ay+1)
 omega
def aqt:=fb WM (cmp .lss (fn 7 (pr (fn 9 (pr (fn 1 (pr V5 (.int 30))) (.int 5))) (.ar .add .i64 ay (.int 1)))) (fn 7 (pr (fn 9 (pr (fn 1 (pr V5 (.int 30))) (.int 5))) ay)))<|aj fun F p0 p1 p2=>by
 simp only[aa,ae]at *
 obtain⟨a,b,c⟩:=ab (E.I F ay+1)
 omega
def aqu:=fb [w7,jY] (.not (cmp .lss (fn 7 (pr (fn 9 (pr (fn 1 (pr V5 (.int 29))) (.int 5))) (.ar .add .i64 ay (.int 1)))) (.int 0)))<|am fun F p0 p1=>by
 simp only[aa,ae]at *
 obtain⟨a,b,c⟩:=ab (E.I F ay+1)
 omega
def gG:List Fa:=[ap2,ap3,ap4,ap5,ap6,ap7,ap8,ap9,aqa,aqb,aqc,aqd,aqe,aqf,aqg,aqh,aqi,Rc,Rh,Rl,Rq,aqj,aqk,aql,aqm,aqn,aqo,P6,aqp,aqq,PD,aqr,PE,aqs,PJ,aqt,PK,aqu,P7]
theorem aK0:aL Tryz.prog (bh (aKx)):=sc gG (aFn) adU ([]) (by kernel_rfl) (by kernel_rfl)
def adV:Nl:=nc aK0 adU
end
end Go.Proofs.YtnggbcblogpnfaaGreat.combatBlocks
