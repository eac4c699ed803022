/-
  CombatAttacks: contracts of functions, part 9.
-/
import Derived.Test.YtnggbcblogpnfaaGreatCombatAttacksParth
namespace Go.Proofs.YtnggbcblogpnfaaGreat.combatAttacks
open Go.ChangeShapes Go.WideShapes Go.ChangeAt Go.RowKit
open Go.SX
open Go.SX.E (fn pr cmp var)
set_option linter.unusedVariables false
set_option linter.unusedSimpArgs false
set_option maxRecDepth 100000
noncomputable section
abbrev V0:E:=var 11
abbrev V1:E:=cmp .eql V0 (.int 0)
abbrev V2:E:=.not (cmp .lss (.ar .add .i64 V0 (.int 1)) (.int 1))
abbrev V3:E:=var 1
abbrev V4:E:=.not (cmp .lss (.int 60) V3)
abbrev V5:E:=var 0
abbrev V6:E:=cmp .eql (fn 0 V5) V3
abbrev V7:E:=.not (cmp .lss V3 (.int 1))
abbrev V8:E:=cmp .lss V0 V3
abbrev V9:E:=var 9
abbrev Bi:E:=cmp .eql V9 V0
abbrev V11:E:=cmp .lss V0 (.int 1)
abbrev V12:E:=.not V11
abbrev Vr:=[V12]
abbrev pT:=Bi::Vr
abbrev V15:E:=.not (cmp .lss V3 V0)
abbrev VE:=[V15]
abbrev Bo:E:=.not (cmp .lss V3 (.ar .add .i64 V0 (.int 1)))
abbrev aw:E:=var 16
abbrev gC:E:=cmp .lss aw V9
abbrev jd:E:=.not gC
abbrev kR:E:=.not (cmp .lss V9 aw)
abbrev V22:E:=cmp .lss (fn 7 (pr V9 aw)) (.int 0)
abbrev VG:E:=.not V22
abbrev jN:E:=.not (cmp .lss aw (.int 0))
abbrev bh:E:=var 8
abbrev mr:E:=cmp .eql (fn 0 bh) V9
abbrev wn:=[mr,Bi]
abbrev VH:=jN::wn
abbrev V29:=V7::VH
abbrev V30:=V6::V29
abbrev V31:=V4::V30
abbrev V32:=V8::V31
abbrev Bp:=gC::V32
abbrev Bq:E:=.not (cmp .lss (.ar .add .i64 aw (.int 1)) (.int 0))
abbrev I0:E:=fn 152 (pr bh (pr V5 V0))
abbrev VI:E:=cmp .eql (.ar .add .i64 V0 (.int 1)) (.int 1)
abbrev Br:E:=pr V5 (.ar .add .i64 V0 (.int 1))
abbrev V38:E:=pr (fn 23 (pr (fn 1 (pr V5 V0)) (fn 10 (.int 0)))) Br
abbrev VJ:E:=fn 152 V38
abbrev V40:E:=cmp .lss (.int 2147483648) (fn 6 (pr (fn 7 (pr V9 aw)) (.int 1)))
abbrev VK:E:=.not V40
abbrev I1:E:=cmp .lss (fn 1 (pr bh aw)) (fn 1 (pr V5 V0))
abbrev I2:E:=fn 160 (pr bh (pr (fn 1 (pr V5 V0)) aw))
abbrev sE:E:=cmp .lss (fn 7 (pr V3 (.ar .add .i64 V0 (.int 1)))) (fn 7 (pr V3 V0))
abbrev I3:E:=var 10
abbrev V46:E:=cmp .lss I3 V9
abbrev V47:E:=.not V46
abbrev V48:=[V47]
abbrev VL:=mr::V48
abbrev V50:E:=cmp .lss I3 aw
abbrev I4:E:=.not V50
abbrev wo:E:=cmp .eql I3 aw
abbrev sF:E:=.not (cmp .lss (fn 7 (pr V3 (.ar .add .i64 V0 (.int 1)))) (.int 0))
abbrev V54:=V4::V6::V7::kR::wn
abbrev VM:=V8::V54
abbrev V56:E:=cmp .lss (.int 2147483648) aw
abbrev VN:E:=.not V56
abbrev V58:=V7::wn
abbrev V59:=V6::V58
abbrev V60:=V4::V59
abbrev I5:=V8::V60
abbrev V62:E:=cmp .lss (fn 6 (pr (fn 7 (pr V9 aw)) (.int 1))) (.int 0)
abbrev VO:E:=.not V62
abbrev mt:E:=cmp .eql aw (.int 0)
abbrev VP:E:=cmp .eql (fn 6 (pr (fn 7 (pr V9 aw)) (.int 1))) (.int 0)
abbrev I6:=[mt,VP,kR]
abbrev VQ:E:=cmp .eql (.ar .add .i64 V0 (.int 1)) (.int 0)
abbrev mu:=jd::mt::kR::pT
abbrev VR:E:=cmp .lss (.int 0) (fn 6 (pr (fn 7 (pr V9 aw)) (.int 1)))
abbrev I7:=[gC,mt,VP]
abbrev V71:=V6::V7::pT
abbrev V72:=V4::V71
abbrev I8:=V8::V72
abbrev V74:=mt::I5
abbrev I9:=gC::V74
abbrev Ja:=kR::mr::pT
abbrev VS:=gC::mt::V8::V6::wn
abbrev VT:E:=cmp .eql (fn 6 (pr (fn 7 (pr V9 aw)) (.int 1))) (.ar .add .i64 V0 (.int 1))
abbrev VU:E:=cmp .eql (fn 6 (pr (fn 0 (fn 4 (pr bh (pr aw (fn 6 (pr aw (fn 7 (pr V9 aw)))))))) (.int 1))) (fn 6 (pr (fn 7 (pr V9 aw)) (.int 1)))
abbrev VV:E:=cmp .eql (fn 6 (pr (fn 0 (fn 4 (pr bh (pr (.int 0) aw)))) (fn 6 (pr (fn 0 (fn 4 (pr bh (pr aw (fn 6 (pr aw (fn 7 (pr V9 aw)))))))) (.int 1))))) (fn 6 (pr aw (fn 6 (pr (fn 7 (pr V9 aw)) (.int 1)))))
abbrev V81:=mr::Vr
abbrev V82:=I0::V81
abbrev V83:=jN::V82
abbrev V84:=kR::V83
abbrev V85:=I2::V84
abbrev V86:=V6::V85
abbrev V87:=V4::V86
abbrev V88:=V8::V87
abbrev VW:=jd::V88
abbrev V90:E:=pr (fn 3 (pr (fn 23 (pr (fn 1 (pr V5 V0)) (fn 10 (.int 0)))) (fn 4 (pr bh (pr aw (fn 6 (pr aw (fn 7 (pr V9 aw))))))))) Br
abbrev VX:E:=fn 152 V90
abbrev V92:E:=pr (fn 3 (pr (fn 4 (pr bh (pr (.int 0) aw))) (fn 3 (pr (fn 23 (pr (fn 1 (pr V5 V0)) (fn 10 (.int 0)))) (fn 4 (pr bh (pr aw (fn 6 (pr aw (fn 7 (pr V9 aw))))))))))) Br
abbrev VY:E:=fn 152 V92
abbrev V94:=V6::I2::jN::I0::wn
abbrev V95:=V4::V94
abbrev VZ:=V8::V95
abbrev V97:E:=cmp .lss bh (.int 0)
abbrev Wa:E:=.not V97
abbrev Wb:=[Wa]
abbrev Bj:E:=.bool false
abbrev ayb:E:=cmp .lss (.int 12) (fn 9 (pr V5 (.int 14)))
abbrev Vc:E:=.not ayb
abbrev ayc:E:=pr V5 (fn 9 (pr V5 (.int 14)))
abbrev ayd:E:=fn 155 ayc
abbrev Vd:E:=.and Vc ayd
abbrev Ve:E:=cmp .lss bh (.int 13)
abbrev IS:E:=cmp .lss bh (fn 9 (pr V5 (.int 14)))
abbrev Vf:E:=.imp Vc Vd
abbrev Vg:E:=fn 155 (pr V5 bh)
abbrev Bl:E:=cmp .lss aw (fn 9 (pr (fn 1 (pr V5 (fn 6 (pr (fn 8 (pr bh (.int 14))) (.int 12))))) (.int 2)))
abbrev aye:E:=cmp .lss (.int 3) (fn 9 (pr (fn 1 (pr V5 (fn 6 (pr (fn 8 (pr bh (.int 14))) (.int 12))))) (.int 2)))
abbrev Vh:E:=.not aye
abbrev ayf:=[Vh]
abbrev IT:=jN::ayf
abbrev Vi:=Bl::IT
abbrev sD:=Ve::Wb
abbrev ayg:E:=cmp .lss (fn 9 (pr (fn 1 (pr V5 (fn 6 (pr (fn 8 (pr bh (.int 14))) (.int 12))))) (.int 2))) aw
abbrev Vj:E:=.not ayg
abbrev ayh:=Vj::IT
abbrev Vk:=Bl::ayh
abbrev ayi:E:=pr (fn 1 (pr V5 (fn 6 (pr (fn 8 (pr bh (.int 14))) (.int 12))))) aw
abbrev Vl:E:=fn 157 ayi
abbrev Bm:E:=cmp .lss (.int 40) (fn 0 (fn 1 (pr V5 (.int 6))))
abbrev mq:E:=.imp Bj (fn 117 V5)
abbrev Vm:E:=cmp .lss (.int 40) (fn 0 (fn 1 (pr V5 (.int 7))))
abbrev Vn:E:=cmp .lss (.int 40) (fn 0 (fn 1 (pr V5 (.int 8))))
abbrev Vo:E:=cmp .lss (.int 40) (fn 0 (fn 1 (pr V5 (.int 9))))
abbrev Vp:E:=cmp .lss (.int 40) (fn 0 (fn 1 (pr V5 (.int 20))))
abbrev Vq:E:=cmp .lss (.int 40) (fn 0 (fn 1 (pr V5 (.int 21))))
abbrev Vs:E:=cmp .lss (.int 40) (fn 0 (fn 1 (pr V5 (.int 22))))
abbrev Vt:E:=cmp .lss (.int 40) (fn 0 (fn 1 (pr V5 (.int 23))))
abbrev IU:E:=fn 159 V5
abbrev ayj:E:=cmp .lss (.int 20) (fn 9 (pr (fn 1 (pr V5 (.int 29))) (.int 5)))
abbrev Vu:E:=.not ayj
abbrev IV:E:=.and Vu (fn 158 (pr (fn 1 (pr V5 (.int 29))) (fn 9 (pr (fn 1 (pr V5 (.int 29))) (.int 5)))))
abbrev ayk:E:=cmp .lss (.int 20) (fn 9 (pr (fn 1 (pr V5 (.int 30))) (.int 5)))
abbrev Vv:E:=.not ayk
abbrev IW:E:=.and Vv (fn 158 (pr (fn 1 (pr V5 (.int 30))) (fn 9 (pr (fn 1 (pr V5 (.int 30))) (.int 5)))))
abbrev Bn:E:=.imp (.not (cmp .lss bh (.int 1))) IV
abbrev ayl:E:=cmp .lss bh (.int 2)
abbrev Vw:E:=.not ayl
abbrev IX:E:=.imp Vw IW
abbrev wm:E:=cmp .lss aw (fn 9 (pr (fn 1 (pr V5 (.int 29))) (.int 5)))
abbrev IY:=[Vu]
abbrev aym:=jN::IY
abbrev Vx:=wm::aym
abbrev ayn:E:=pr (fn 1 (pr V5 (.int 29))) aw
abbrev Vy:E:=fn 158 ayn
abbrev ayo:E:=cmp .lss (.ar .add .i64 bh (.int 1)) (.int 1)
abbrev ayp:E:=.not ayo
abbrev Vz:E:=.imp ayp IV
abbrev IZ:E:=cmp .lss aw (fn 9 (pr (fn 1 (pr V5 (.int 30))) (.int 5)))
abbrev VA:=[Vv]
abbrev VB:=jN::VA
abbrev VC:=IZ::VB
abbrev ayq:E:=cmp .lss (.ar .add .i64 bh (.int 1)) (.int 2)
abbrev ayr:E:=.not ayq
abbrev VD:E:=.imp ayr IW
abbrev ays:E:=pr (fn 1 (pr V5 (.int 30))) aw
abbrev VF:E:=fn 158 ays
def amN:=fb [V1] V2<|ah fun F p0=>by
 simp only[aa,ae]at *
 obtain⟨a,b,c⟩:=ab (E.I F V0+1)
 omega
def amO:=fb [V1,V4,V6,V7] V8<|aB fun F p0 p1 p2 p3=>by
 simp only[aa]at *;omega
def amP:=fb pT (.not (cmp .lss V9 (.int 0)))<|ap fun F p0 p1=>by
 simp only[aa]at *;omega
def amQ:=fb ((.not V8)::V6::Bi::VE) (cmp .eql V9 V3)<|aB fun F p0 p1 p2 p3=>by
 simp only[aa]at *;omega
def amR:=fb [V8,V1,V4,V6] Bo<|aB fun F p0 p1 p2 p3=>by
 simp only[aa,ae]at *
 obtain⟨a,b,c⟩:=ab (E.I F V0+1)
 omega
def amS:=fb [jd,kR] VG<|ap fun F p0 p1=>by
 simp only[aa]at *;omega
def amT:=fb Bp Bq<|c9 fun F p0 p1 p2 p3 p4 p5 p6 p7=>by
 simp only[aa,ae]at *
 obtain⟨a,b,c⟩:=ab (E.I F aw+1)
 omega
def amU:=fb [gC,mr] VG<|ap fun F p0 p1=>by
 simp only[aa]at *;omega
def amV:=fa ((fn 160 (pr bh (pr (fn 1 (pr V5 V0)) (.int 0)))))<|fun F=>by
 rfl
def amW:=fb ((.not V8)::I0::VE) (fn 152 (pr bh (pr V5 V3)))<|am fun F p0 p1 p2=>by
 have:=@aKA F _ _ _ V3 p1
 simp only[aa]at *;grind
def PI:=fb [V1] VI<|ah fun F p0=>by
 simp only[aa,ae]at *
 obtain⟨a,b,c⟩:=ab (E.I F V0+1)
 omega
def amX:=fa ((.not (cmp .lss V9 (fn 6 (pr aw (fn 7 (pr V9 aw)))))))<|fun F=>by
 simp only[aa]at *;omega
def amY:=fb Bp (.not (cmp .lss V9 (.ar .add .i64 aw (.int 1))))<|c9 fun F p0 p1 p2 p3 p4 p5 p6 p7=>by
 simp only[aa,ae]at *
 obtain⟨a,b,c⟩:=ab (E.I F aw+1)
 omega
def amZ:=fb [V8,V1,V4,V6,V7] VJ<|aK fun F p0 p1 p2 p3 p4=>by
 have:=@bH F V0 (.int 1)
 have:=@aKB F _ (.int 0) _ (.ar .add .i64 V0 (.int 1)) (fn 1 (pr V5 V0)) rfl
 simp only[aa]at *;grind
def am0:=fb [jd,kR] VK<|ap fun F p0 p1=>by
 simp only[aa]at *;omega
def am1:=fb (gC::I1::V8::V4::I2::VH) (fn 160 (pr bh (pr (fn 1 (pr V5 V0)) (.ar .add .i64 aw (.int 1)))))<|c9 fun F p0 p1 p2 p3 p4 p5 p6 p7=>by
 have:=@bH F aw (.int 1)
 have:=@aKH F bh aw (.ar .add .i64 aw (.int 1)) (fn 1 (pr V5 V0))
 simp only[aa]at *;grind
def am2:=fb [V8,V4,V6,V7,jN,Bi] VK<|bL fun F p0 p1 p2 p3 p4 p5=>by
 simp only[aa]at *;omega
def am3:=fb [V1] sE<|ah fun F p0=>by
 simp only[aa,ae]at *
 obtain⟨a,b,c⟩:=ab (E.I F V0+1)
 omega
def am4:=fb (jd::kR::VL) I4<|aB fun F p0 p1 p2 p3=>by
 simp only[aa]at *;omega
def am5:=fb [wo] I4<|ah fun F p0=>by
 simp only[aa]at *;omega
def am6:=fb Bp (cmp .lss (fn 7 (pr V9 (.ar .add .i64 aw (.int 1)))) (fn 7 (pr V9 aw)))<|c9 fun F p0 p1 p2 p3 p4 p5 p6 p7=>by
 simp only[aa,ae]at *
 obtain⟨a,b,c⟩:=ab (E.I F aw+1)
 omega
def am7:=fb (gC::VL) I4<|am fun F p0 p1 p2=>by
 simp only[aa]at *;omega
def am8:=fb [V8,V1,V4,V6] sF<|aB fun F p0 p1 p2 p3=>by
 simp only[aa,ae]at *
 obtain⟨a,b,c⟩:=ab (E.I F V0+1)
 omega
def am9:=fb (jd::VM) VN<|c9 fun F p0 p1 p2 p3 p4 p5 p6 p7=>by
 simp only[aa]at *;omega
def ana:=fb Bp (.not (cmp .lss (fn 7 (pr V9 (.ar .add .i64 aw (.int 1)))) (.int 0)))<|c9 fun F p0 p1 p2 p3 p4 p5 p6 p7=>by
 simp only[aa,ae]at *
 obtain⟨a,b,c⟩:=ab (E.I F aw+1)
 omega
def anb:=fb (gC::I5) VN<|cV fun F p0 p1 p2 p3 p4 p5 p6=>by
 simp only[aa]at *;omega
def anc:=fb [jd,kR] VO<|ap fun F p0 p1=>by
 simp only[aa]at *;omega
def ane:=fb (jd::wo::VM) (.not (cmp .lss (.int 2147483648) (fn 6 (pr aw (.int 1)))))<|di fun F p0 p1 p2 p3 p4 p5 p6 p7 p8=>by
 simp only[aa]at *;omega
def anf:=fb [gC,mr] VO<|ap fun F p0 p1=>by
 simp only[aa]at *;omega
def ang:=fb I6 VQ<|am fun F p0 p1 p2=>by
 simp only[aa]at *;omega
def anh:=fb mu VR<|aK fun F p0 p1 p2 p3 p4=>by
 simp only[aa]at *;omega
def ani:=fb I5 (.not (cmp .lss (.int 2147483648) (fn 6 (pr aw (fn 6 (pr (fn 7 (pr V9 aw)) (.int 1)))))))<|bL fun F p0 p1 p2 p3 p4 p5=>by
 simp only[aa]at *;omega
def anj:=fb I7 VQ<|am fun F p0 p1 p2=>by
 simp only[aa]at *;omega
def ank:=fb [gC,mt,mr] VR<|am fun F p0 p1 p2=>by
 simp only[aa]at *;omega
def anl:=fb I6 sE<|am fun F p0 p1 p2=>by
 simp only[aa]at *;omega
def anm:=fb mu V2<|aK fun F p0 p1 p2 p3 p4=>by
 simp only[aa]at *;omega
def ann:=fb I8 V2<|bL fun F p0 p1 p2 p3 p4 p5=>by
 simp only[aa,ae]at *
 obtain⟨a,b,c⟩:=ab (E.I F V0+1)
 omega
def ano:=fb (jd::wo::mt::kR::pT) VI<|bL fun F p0 p1 p2 p3 p4 p5=>by
 simp only[aa]at *;omega
def anp:=fb I7 sE<|am fun F p0 p1 p2=>by
 simp only[aa]at *;omega
def anq:=fb I9 V2<|c9 fun F p0 p1 p2 p3 p4 p5 p6 p7=>by
 simp only[aa,ae]at *
 obtain⟨a,b,c⟩:=ab (E.I F V0+1)
 omega
def anr:=fb I6 sF<|am fun F p0 p1 p2=>by
 simp only[aa]at *;omega
def ant:=fb mu Bo<|aK fun F p0 p1 p2 p3 p4=>by
 simp only[aa]at *;omega
def anu:=fb (V8::V6::pT) Bo<|aB fun F p0 p1 p2 p3=>by
 simp only[aa,ae]at *
 obtain⟨a,b,c⟩:=ab (E.I F V0+1)
 omega
def anv:=fb mu VJ<|aK fun F p0 p1 p2 p3 p4=>by
 simp only[aa]at *;grind
def anw:=fb (jd::wo::V8::V4::V6::V7::Ja) (cmp .eql (fn 6 (pr aw (.int 1))) (.ar .add .i64 V0 (.int 1)))<|eR fun F p0 p1 p2 p3 p4 p5 p6 p7 p8 p9=>by
 simp only[aa,ae]at *
 obtain⟨a,b,c⟩:=ab (E.I F V0+1)
 omega
def anx:=fb I7 sF<|am fun F p0 p1 p2=>by
 simp only[aa]at *;omega
def anz:=fb VS Bo<|bL fun F p0 p1 p2 p3 p4 p5=>by
 simp only[aa,ae]at *
 obtain⟨a,b,c⟩:=ab (E.I F V0+1)
 omega
def anA:=fb mu VT<|aK fun F p0 p1 p2 p3 p4=>by
 simp only[aa]at *;omega
def anB:=fb I8 (cmp .eql (fn 6 (pr aw (fn 6 (pr (fn 7 (pr V9 aw)) (.int 1))))) (.ar .add .i64 V0 (.int 1)))<|bL fun F p0 p1 p2 p3 p4 p5=>by
 simp only[aa,ae]at *
 obtain⟨a,b,c⟩:=ab (E.I F V0+1)
 omega
def anC:=fb (jd::wo::Ja) (cmp .eql (fn 6 (pr (fn 0 (fn 4 (pr bh (pr (.int 0) aw)))) (.int 1))) (fn 6 (pr aw (.int 1))))<|bL fun F p0 p1 p2 p3 p4 p5=>by
 have:=@tV F bh (.int 0) aw
 simp only[aa]at *;omega
def anD:=fb I9 VT<|c9 fun F p0 p1 p2 p3 p4 p5 p6 p7=>by
 simp only[aa,ae]at *
 obtain⟨a,b,c⟩:=ab (E.I F V0+1)
 omega
def anE:=fb mu VU<|aK fun F p0 p1 p2 p3 p4=>by
 simp only[aa]at *;omega
def anF:=fb (jd::Ja) VV<|aK fun F p0 p1 p2 p3 p4=>by
 have:=@tV F bh (.int 0) aw
 have:=@tV F bh aw (fn 6 (pr aw (fn 7 (pr V9 aw))))
 simp only[aa]at *;omega
def anG:=fb VW (fn 152 (pr (fn 3 (pr (fn 4 (pr bh (pr (.int 0) aw))) (fn 23 (pr (fn 1 (pr V5 V0)) (fn 10 (.int 0)))))) Br))<|eR fun F p0 p1 p2 p3 p4 p5 p6 p7 p8 p9=>by
 have:=@bH F V0 (.int 1)
 have:=@FU F _ _ _ _ (.ar .add .i64 V0 (.int 1)) _ (fn 0 bh) p7 p4 rfl
 simp only[aa]at *;grind
def anH:=fb [gC,mt,mr] VU<|am fun F p0 p1 p2=>by
 have:=@tV F bh aw (fn 6 (pr aw (fn 7 (pr V9 aw))))
 simp only[aa]at *;omega
def anI:=fb [gC,jN,mr] VV<|am fun F p0 p1 p2=>by
 have:=@tV F bh (.int 0) aw
 have:=@tV F bh aw (fn 6 (pr aw (fn 7 (pr V9 aw))))
 simp only[aa]at *;omega
def anJ:=fb mu VX<|aK fun F p0 p1 p2 p3 p4=>by
 simp only[aa]at *;grind
def anK:=fb VW VY<|eR fun F p0 p1 p2 p3 p4 p5 p6 p7 p8 p9=>by
 have:=@bH F V0 (.int 1)
 have:=@FU F _ _ _ _ (.ar .add .i64 V0 (.int 1)) _ (fn 6 (pr aw (fn 7 (pr V9 aw)))) p7 p4 rfl
 simp only[aa]at *;grind
def anL:=fb (gC::(.not I1)::mt::VZ) VX<|eS fun F p0 p1 p2 p3 p4 p5 p6 p7 p8 p9 ai=>by
 have:=@bH F V0 (.int 1)
 have:=@FU F _ _ _ _ (.ar .add .i64 V0 (.int 1)) _ (fn 6 (pr aw (fn 7 (pr V9 aw)))) p8 p6 rfl
 simp only[aa]at *;grind
def anM:=fb (gC::(.not I1)::VZ) VY<|eR fun F p0 p1 p2 p3 p4 p5 p6 p7 p8 p9=>by
 have:=@bH F V0 (.int 1)
 have:=@FU F _ _ _ _ (.ar .add .i64 V0 (.int 1)) _ (fn 6 (pr aw (fn 7 (pr V9 aw)))) p7 p5 rfl
 simp only[aa]at *;grind
def anN:=fb mu sE<|aK fun F p0 p1 p2 p3 p4=>by
 simp only[aa]at *;omega
def anO:=fb I8 sE<|bL fun F p0 p1 p2 p3 p4 p5=>by
 simp only[aa,ae]at *
 obtain⟨a,b,c⟩:=ab (E.I F V0+1)
 omega
def anP:=fb I9 sE<|c9 fun F p0 p1 p2 p3 p4 p5 p6 p7=>by
 simp only[aa,ae]at *
 obtain⟨a,b,c⟩:=ab (E.I F V0+1)
 omega
def anQ:=fb mu sF<|aK fun F p0 p1 p2 p3 p4=>by
 simp only[aa]at *;omega
def anR:=fb (V8::V6::pT) sF<|aB fun F p0 p1 p2 p3=>by
 simp only[aa,ae]at *
 obtain⟨a,b,c⟩:=ab (E.I F V0+1)
 omega
def anS:=fb VS sF<|bL fun F p0 p1 p2 p3 p4 p5=>by
 simp only[aa,ae]at *
 obtain⟨a,b,c⟩:=ab (E.I F V0+1)
 omega
def d6:List Fa:=[amN,amO,amP,amQ,amR,amS,amT,amU,amV,amW,PI,amX,amY,amZ,am0,am1,am2,am3,am4,am5,am6,am7,am8,am9,ana,anb,anc,ane,anf,ang,anh,ani,anj,ank,anl,anm,ann,ano,anp,anq,anr,ant,anu,anv,anw,anx,anz,anA,anB,anC,anD,anE,anF,anG,anH,anI,anJ,anK,anL,anM,anN,anO,anP,anQ,anR,anS]
theorem aI1:aR Tryz.prog (bj (aIA)):=sc d6 (aDp) acQ ([]) (by kernel_rfl) (by kernel_rfl)
def acS:Nl:=nc aI1 acQ
def anT:=fa ((fn 155 (pr V5 (.int 0))))<|fun F=>by
 rfl
def anU:=fb Wb (.imp Bj Vd)<|ah fun F p0=>by
 rfl
def anV:=fa ((fn 157 (pr (fn 1 (pr V5 (fn 6 (pr (fn 8 (pr bh (.int 14))) (.int 12))))) (.int 0))))<|fun F=>by
 rfl
def anW:=fb [(.not Ve),IS] Vf<|ap fun F p0 p1=>by
 simp only[aa]at *;grind
def anX:=fb [(.not IS),Vg,(.not (cmp .lss (fn 9 (pr V5 (.int 14))) bh))] Vf<|am fun F p0 p1 p2=>by
 have:=@aKD F bh (fn 9 (pr V5 (.int 14))) V5
 simp only[aa]at *;grind
def anY:=fb Vi Bq<|am fun F p0 p1 p2=>by
 simp only[aa,ae]at *
 obtain⟨a,b,c⟩:=ab (E.I F aw+1)
 omega
def anZ:=fb sD (.not (cmp .lss (.ar .add .i64 bh (.int 1)) (.int 0)))<|ap fun F p0 p1=>by
 simp only[aa,ae]at *
 obtain⟨a,b,c⟩:=ab (E.I F bh+1)
 omega
def an0:=fb Vk (.not (cmp .lss (fn 9 (pr (fn 1 (pr V5 (fn 6 (pr (fn 8 (pr bh (.int 14))) (.int 12))))) (.int 2))) (.ar .add .i64 aw (.int 1))))<|aB fun F p0 p1 p2 p3=>by
 simp only[aa,ae]at *
 obtain⟨a,b,c⟩:=ab (E.I F aw+1)
 omega
def an1:=fb sD (.not (cmp .lss (.int 13) (.ar .add .i64 bh (.int 1))))<|ap fun F p0 p1=>by
 simp only[aa,ae]at *
 obtain⟨a,b,c⟩:=ab (E.I F bh+1)
 omega
def an2:=fb (Bl::(.not (cmp .lss (.int 5) (fn 9 (pr (fn 1 (pr (fn 1 (pr V5 (fn 6 (pr (fn 8 (pr bh (.int 14))) (.int 12))))) (fn 6 (pr (fn 8 (pr aw (.int 2))) (.int 1))))) (.int 5)))))::Vl::IT) (fn 157 (pr (fn 1 (pr V5 (fn 6 (pr (fn 8 (pr bh (.int 14))) (.int 12))))) (.ar .add .i64 aw (.int 1))))<|aK fun F p0 p1 p2 p3 p4=>by
 have:=@bH F aw (.int 1)
 have:=@aKF F aw (.ar .add .i64 aw (.int 1)) (fn 1 (pr V5 (fn 6 (pr (fn 8 (pr bh (.int 14))) (.int 12)))))
 simp only[aa]at *;grind
def an3:=fb (IS::sD) (.not (cmp .lss (fn 9 (pr V5 (.int 14))) (.ar .add .i64 bh (.int 1))))<|am fun F p0 p1 p2=>by
 simp only[aa,ae]at *
 obtain⟨a,b,c⟩:=ab (E.I F bh+1)
 omega
def an4:=fb Vi (cmp .lss (fn 7 (pr (fn 9 (pr (fn 1 (pr V5 (fn 6 (pr (fn 8 (pr bh (.int 14))) (.int 12))))) (.int 2))) (.ar .add .i64 aw (.int 1)))) (fn 7 (pr (fn 9 (pr (fn 1 (pr V5 (fn 6 (pr (fn 8 (pr bh (.int 14))) (.int 12))))) (.int 2))) aw)))<|am fun F p0 p1 p2=>by
 simp only[aa,ae]at *
 obtain⟨a,b,c⟩:=ab (E.I F aw+1)
 omega
def an5:=fb ((.not Bl)::Vl::Vj::Vh::(.not (cmp .lss (.int 5) (fn 9 (pr (fn 1 (pr V5 (fn 6 (pr (fn 8 (pr bh (.int 14))) (.int 11))))) (.int 5)))))::Vg::sD) (fn 155 (pr V5 (.ar .add .i64 bh (.int 1))))<|c9 fun F p0 p1 p2 p3 p4 p5 p6 p7=>by
 have:=@bH F bh (.int 1)
 have:=@aKE F bh (.ar .add .i64 bh (.int 1)) V5
 have:=@aL0 F (fn 1 (pr V5 (fn 6 (pr (fn 8 (pr bh (.int 14))) (.int 11))))) (fn 1 (pr V5 (fn 6 (pr (fn 8 (pr bh (.int 14))) (.int 12)))))
 have hy1:E.I F aw=E.I F (fn 9 (pr (fn 1 (pr V5 (fn 6 (pr (fn 8 (pr bh (.int 14))) (.int 12))))) (.int 2)))->E.B F (fn 157 (pr (fn 1 (pr V5 (fn 6 (pr (fn 8 (pr bh (.int 14))) (.int 12))))) (fn 9 (pr (fn 1 (pr V5 (fn 6 (pr (fn 8 (pr bh (.int 14))) (.int 12))))) (.int 2)))))=true:=fun hh=>by simp_all[agB]
 simp only[aa]at *;grind
def an6:=fb Vk (.not (cmp .lss (fn 7 (pr (fn 9 (pr (fn 1 (pr V5 (fn 6 (pr (fn 8 (pr bh (.int 14))) (.int 12))))) (.int 2))) (.ar .add .i64 aw (.int 1)))) (.int 0)))<|aB fun F p0 p1 p2 p3=>by
 simp only[aa,ae]at *
 obtain⟨a,b,c⟩:=ab (E.I F aw+1)
 omega
def an7:=fb sD (cmp .lss (fn 7 (pr (.int 13) (.ar .add .i64 bh (.int 1)))) (fn 7 (pr (.int 13) bh)))<|ap fun F p0 p1=>by
 simp only[aa,ae]at *
 obtain⟨a,b,c⟩:=ab (E.I F bh+1)
 omega
def an8:=fb sD (.not (cmp .lss (fn 7 (pr (.int 13) (.ar .add .i64 bh (.int 1)))) (.int 0)))<|ap fun F p0 p1=>by
 simp only[aa,ae]at *
 obtain⟨a,b,c⟩:=ab (E.I F bh+1)
 omega
def eU:List Fa:=[anT,anU,anV,anW,anX,anY,anZ,an0,an1,an2,an3,an4,an5,an6,an7,an8]
theorem aI2:aR Tryz.prog (bj (aIu)):=sc eU (aDg) acS ([]) (by kernel_rfl) (by kernel_rfl)
def acT:Nl:=nc aI2 acS
def an9:=fb [Bm] mq<|ah fun F p0=>by
 rfl
def aoa:=fb [Vm] mq<|ah fun F p0=>by
 rfl
def aob:=fb [Vn] mq<|ah fun F p0=>by
 rfl
def aoc:=fb [Vo] mq<|ah fun F p0=>by
 rfl
def aod:=fb [Vp] mq<|ah fun F p0=>by
 rfl
def aoe:=fb [Vq] mq<|ah fun F p0=>by
 rfl
def aof:=fb [Vs] mq<|ah fun F p0=>by
 rfl
def aog:=fb [Vt] mq<|ah fun F p0=>by
 rfl
def aoh:=fb [(.not Bm),(.not Vm),(.not Vn),(.not Vo),(.not Vp),(.not Vq),(.not Vs),(.not Vt)] IU<|c9 fun F p0 p1 p2 p3 p4 p5 p6 p7=>by
 have:=@kA F V5
 simp only[aa]at *;grind
def aoi:=fb [(.not Bm)] (.imp Bj IV)<|ah fun F p0=>by
 rfl
def aoj:=fb [(.not Bm)] (.imp Bj IW)<|ah fun F p0=>by
 rfl
def aok:=fb [IU] mq<|ah fun F p0=>by
 rfl
def aol:=fb [Bn] Bn<|ah fun F p0=>by
 omega
def aom:=fb [Vw,(.not (cmp .lss (.int 30) (fn 9 (pr (fn 1 (pr V5 (.int 0))) (.int 12))))),(.not (cmp .lss (.int 30) (fn 0 (fn 1 (pr V5 (.int 31)))))),IX,Bn,IU] (.imp (.not (cmp .lss (.int 30) (fn 9 (pr (fn 1 (pr V5 (.int 32))) (.int 2))))) (fn 117 V5))<|bL fun F p0 p1 p2 p3 p4 p5=>by
 have:=@gv F V5
 simp only[aa]at *;grind
def aon:=fb [IX] IX<|ah fun F p0=>by
 omega
def aoo:=fa ((fn 158 (pr (fn 1 (pr V5 (.int 29))) (.int 0))))<|fun F=>by
 rfl
def aop:=fa ((fn 158 (pr (fn 1 (pr V5 (.int 30))) (.int 0))))<|fun F=>by
 rfl
def aoq:=fb Vx Bq<|am fun F p0 p1 p2=>by
 simp only[aa,ae]at *
 obtain⟨a,b,c⟩:=ab (E.I F aw+1)
 omega
def aor:=fb ((.not wm)::Vy::(.not (cmp .lss (fn 9 (pr (fn 1 (pr V5 (.int 29))) (.int 5))) aw))::IY) Vz<|aB fun F p0 p1 p2 p3=>by
 have:=@afM F (fn 1 (pr V5 (.int 29))) aw (fn 9 (pr (fn 1 (pr V5 (.int 29))) (.int 5)))
 simp only[aa]at *;grind
def aos:=fb VC Bq<|am fun F p0 p1 p2=>by
 simp only[aa,ae]at *
 obtain⟨a,b,c⟩:=ab (E.I F aw+1)
 omega
def aot:=fb [(cmp .eql bh (.int 1)),Bn] Vz<|ap fun F p0 p1=>by
 simp only[aa]at *;simp_all
def aou:=fb [wm,jN] (.not (cmp .lss (fn 9 (pr (fn 1 (pr V5 (.int 29))) (.int 5))) (.ar .add .i64 aw (.int 1))))<|ap fun F p0 p1=>by
 simp only[aa,ae]at *
 obtain⟨a,b,c⟩:=ab (E.I F aw+1)
 omega
def aov:=fb [(.not (cmp .lss (.int 2) bh)),Wa,(cmp .eql bh (.int 0))] VD<|am fun F p0 p1 p2=>by
 simp only[aa,ae]at *
 obtain⟨a,b,c⟩:=ab (E.I F bh+1)
 omega
def aow:=fb ((.not IZ)::VF::(.not (cmp .lss (fn 9 (pr (fn 1 (pr V5 (.int 30))) (.int 5))) aw))::VA) VD<|aB fun F p0 p1 p2 p3=>by
 have:=@afM F (fn 1 (pr V5 (.int 30))) aw (fn 9 (pr (fn 1 (pr V5 (.int 30))) (.int 5)))
 simp only[aa]at *;grind
def aox:=fb (wm::(.not (cmp .lss (.int 6) (fn 9 (pr (fn 1 (pr (fn 1 (pr V5 (.int 29))) (fn 6 (pr (fn 8 (pr aw (.int 5))) (.int 4))))) (.int 2)))))::jN::Vy::IY) (fn 158 (pr (fn 1 (pr V5 (.int 29))) (.ar .add .i64 aw (.int 1))))<|aK fun F p0 p1 p2 p3 p4=>by
 have:=@bH F aw (.int 1)
 have:=@afN F (fn 1 (pr V5 (.int 29))) aw (.ar .add .i64 aw (.int 1))
 simp only[aa]at *;grind
def aoy:=fb (IZ::(.not (cmp .lss (.int 6) (fn 9 (pr (fn 1 (pr (fn 1 (pr V5 (.int 30))) (fn 6 (pr (fn 8 (pr aw (.int 5))) (.int 4))))) (.int 2)))))::VF::VB) (fn 158 (pr (fn 1 (pr V5 (.int 30))) (.ar .add .i64 aw (.int 1))))<|aK fun F p0 p1 p2 p3 p4=>by
 have:=@bH F aw (.int 1)
 have:=@afN F (fn 1 (pr V5 (.int 30))) aw (.ar .add .i64 aw (.int 1))
 simp only[aa]at *;grind
def aoz:=fb Vx (cmp .lss (fn 7 (pr (fn 9 (pr (fn 1 (pr V5 (.int 29))) (.int 5))) (.ar .add .i64 aw (.int 1)))) (fn 7 (pr (fn 9 (pr (fn 1 (pr V5 (.int 29))) (.int 5))) aw)))<|am fun F p0 p1 p2=>by
 simp only[aa,ae]at *
 obtain⟨a,b,c⟩:=ab (E.I F aw+1)
 omega
def aoA:=fb VC (cmp .lss (fn 7 (pr (fn 9 (pr (fn 1 (pr V5 (.int 30))) (.int 5))) (.ar .add .i64 aw (.int 1)))) (fn 7 (pr (fn 9 (pr (fn 1 (pr V5 (.int 30))) (.int 5))) aw)))<|am fun F p0 p1 p2=>by
 simp only[aa,ae]at *
 obtain⟨a,b,c⟩:=ab (E.I F aw+1)
 omega
def aoB:=fb [wm,jN] (.not (cmp .lss (fn 7 (pr (fn 9 (pr (fn 1 (pr V5 (.int 29))) (.int 5))) (.ar .add .i64 aw (.int 1)))) (.int 0)))<|ap fun F p0 p1=>by
 simp only[aa,ae]at *
 obtain⟨a,b,c⟩:=ab (E.I F aw+1)
 omega
def fT:List Fa:=[an9,aoa,aob,aoc,aod,aoe,aof,aog,aoh,aoi,aoj,aok,aol,aom,aon,aoo,aop,Qn,Qr,Qu,Qv,aoq,aor,aos,aot,aou,aov,PG,aow,aox,Pe,aoy,Pf,aoz,Pk,aoA,Pl,aoB,PH]
theorem aI4:aR Tryz.prog (bj (aIB)):=sc fT (aDq) acT ([]) (by kernel_rfl) (by kernel_rfl)
def acU:Nl:=nc aI4 acT
end
end Go.Proofs.YtnggbcblogpnfaaGreat.combatAttacks
