/-
  CombatAttacks: contracts of functions, part 8.
-/
import Derived.Test.YtnggbcblogpnfaaGreatCombatAttacksPartg
namespace Go.Proofs.YtnggbcblogpnfaaGreat.combatAttacks
open Go.ChangeShapes Go.WideShapes Go.ChangeAt Go.RowKit
open Go.SX
open Go.SX.E (fn pr cmp var)
set_option linter.unusedVariables false
set_option linter.unusedSimpArgs false
set_option maxRecDepth 100000
noncomputable section
abbrev D0:E:=var 0
abbrev D1:E:=var 8
abbrev D2:E:=cmp .lss D1 (fn 0 (fn 1 (pr D0 (.int 31))))
abbrev D3:E:=fn 117 D0
abbrev D4:E:=pr D0 D1
abbrev D5:E:=fn 126 D4
abbrev D6:E:=pr D0 (fn 0 (fn 1 (pr D0 (.int 31))))
abbrev D7:E:=fn 126 D6
abbrev D8:E:=cmp .eql (fn 1 (pr D0 (.int 34))) (.int 0)
abbrev D9:E:=cmp .eql (var 10) (fn 121 (pr (fn 1 (pr D0 (.int 22))) (fn 1 (pr (fn 1 (pr D0 (.int 31))) D1))))
abbrev zO:E:=cmp .eql (var 10) (.int 1)
abbrev Ow:E:=cmp .lss (.int 1) (fn 1 (pr D0 (.int 34)))
abbrev vk:E:=.not Ow
abbrev OH:E:=cmp .lss (fn 1 (pr D0 (.int 34))) (.int 0)
abbrev vo:E:=.not OH
abbrev D15:E:=cmp .lss D1 (.int 0)
abbrev D16:E:=.not D15
abbrev zS:=[D16]
abbrev Gz:=D5::zS
abbrev D19:=vo::Gz
abbrev OV:=vk::D19
abbrev n4:E:=.bool false
abbrev GA:E:=fn 129 D0
abbrev n6:E:=.iff n4 GA
abbrev OW:E:=cmp .eql (var 10) (fn 121 (pr (fn 1 (pr D0 (.int 8))) (fn 1 (pr (fn 1 (pr D0 (.int 31))) D1))))
abbrev vp:E:=var 9
abbrev GB:E:=cmp .eql vp (fn 121 (pr (fn 1 (pr D0 (.int 31))) (fn 1 (pr (fn 1 (pr D0 (.int 31))) D1))))
abbrev GC:E:=cmp .eql vp (.int 1)
abbrev bD:E:=var 16
abbrev pG:E:=cmp .lss bD (fn 9 (pr (fn 1 (pr D0 (.int 32))) (.int 2)))
abbrev OX:E:=pr D0 bD
abbrev OY:E:=fn 127 OX
abbrev rR:E:=.bool true
abbrev OZ:=D3::Gz
abbrev D34:E:=pr D0 (.ar .add .i64 D1 (.int 1))
abbrev O0:E:=fn 126 D34
abbrev n7:E:=var 17
abbrev vq:E:=cmp .eql n7 (fn 121 (pr (fn 1 (pr D0 (.int 31))) (fn 1 (pr (fn 1 (pr D0 (.int 32))) (fn 6 (pr (fn 8 (pr bD (.int 2))) (.int 1)))))))
abbrev vr:E:=cmp .eql n7 (.int 1)
abbrev zT:E:=cmp .eql (.ar .sub .i64 (.int 1) (fn 1 (pr D0 (.int 34)))) (.int 0)
abbrev vu:E:=var 18
abbrev O1:E:=cmp .eql vu (fn 121 (pr (fn 1 (pr D0 (.int 22))) (fn 1 (pr (fn 1 (pr D0 (.int 32))) (fn 6 (pr (fn 8 (pr bD (.int 2))) (.int 0)))))))
abbrev O2:E:=cmp .eql vu (.int 1)
abbrev pH:E:=.not (cmp .lss bD (.int 0))
abbrev D44:=[vk,vo]
abbrev D45:=pH::D44
abbrev GD:=pG::D45
abbrev O3:List E:=(.not O2)::GD
abbrev O4:=O2::GD
abbrev GF:E:=fn 136 OX
abbrev O5:E:=cmp .eql vu (fn 121 (pr (fn 1 (pr D0 (.int 8))) (fn 1 (pr (fn 1 (pr D0 (.int 32))) (fn 6 (pr (fn 8 (pr bD (.int 2))) (.int 0)))))))
abbrev eA:E:=var 24
abbrev n8:E:=cmp .lss eA bD
abbrev O6:E:=.not n8
abbrev D54:E:=cmp .lss bD eA
abbrev O7:E:=.not D54
abbrev rS:E:=.not (cmp .lss eA (.int 0))
abbrev D57:=[rS,pG]
abbrev D58:=O7::D57
abbrev D59:=O6::D58
abbrev zU:=D3::D59
abbrev D61:E:=cmp .lss (.ar .add .i64 bD (.int 1)) (.int 0)
abbrev O8:E:=.not D61
abbrev GG:E:=cmp .eql (fn 1 (pr (fn 1 (pr D0 (.int 32))) (fn 6 (pr (fn 8 (pr eA (.int 2))) (.int 1))))) (fn 1 (pr (fn 1 (pr D0 (.int 32))) (fn 6 (pr (fn 8 (pr bD (.int 2))) (.int 1)))))
abbrev O9:E:=cmp .eql (fn 1 (pr (fn 1 (pr D0 (.int 32))) (fn 6 (pr (fn 8 (pr eA (.int 2))) (.int 0))))) (fn 1 (pr (fn 1 (pr D0 (.int 32))) (fn 6 (pr (fn 8 (pr bD (.int 2))) (.int 0)))))
abbrev zV:E:=fn 128 (pr D0 (pr bD eA))
abbrev D66:=[pG,pH]
abbrev GH:=rS::D66
abbrev Pa:=D3::n8::GH
abbrev cw:=[D3]
abbrev bZ:E:=.iff n4 (fn 130 D0)
abbrev GI:E:=cmp .lss (.int 2) (fn 1 (pr D0 (.int 37)))
abbrev GJ:E:=cmp .lss (fn 1 (pr D0 (.int 37))) (.int 0)
abbrev GK:E:=cmp .lss (.int 1) (fn 1 (pr D0 (.int 36)))
abbrev GL:E:=cmp .lss (fn 1 (pr D0 (.int 36))) (.int (-1))
abbrev GM:E:=cmp .lss (.int 10) (fn 1 (pr D0 (.int 35)))
abbrev GN:E:=cmp .lss (fn 1 (pr D0 (.int 35))) (.int 0)
abbrev GO:E:=cmp .lss (.int 1000) (fn 1 (pr D0 (.int 33)))
abbrev GP:E:=cmp .lss (fn 1 (pr D0 (.int 33))) (.int 0)
abbrev zW:E:=cmp .lss D1 (fn 9 (pr (fn 1 (pr D0 (.int 29))) (.int 5)))
abbrev D80:E:=pr (fn 1 (pr (fn 1 (pr D0 (.int 29))) (fn 6 (pr (fn 8 (pr D1 (.int 5))) (.int 4))))) n4
abbrev D81:E:=pr (fn 1 (pr (fn 1 (pr D0 (.int 29))) (fn 6 (pr (fn 8 (pr D1 (.int 5))) (.int 3))))) D80
abbrev D82:E:=pr (fn 1 (pr (fn 1 (pr D0 (.int 29))) (fn 6 (pr (fn 8 (pr D1 (.int 5))) (.int 2))))) D81
abbrev D83:E:=pr (fn 1 (pr (fn 1 (pr D0 (.int 29))) (fn 6 (pr (fn 8 (pr D1 (.int 5))) (.int 1))))) D82
abbrev D84:E:=pr (fn 1 (pr (fn 1 (pr D0 (.int 29))) (fn 6 (pr (fn 8 (pr D1 (.int 5))) (.int 0))))) D83
abbrev D85:E:=fn 102 D84
abbrev Pb:E:=.iff vp D85
abbrev D87:=zW::zS
abbrev zX:=D3::D87
abbrev D89:E:=pr (fn 1 (pr D0 (.int 29))) (pr n4 D1)
abbrev Pc:E:=fn 103 D89
abbrev zY:E:=fn 103 (pr (fn 1 (pr D0 (.int 29))) (pr n4 (fn 9 (pr (fn 1 (pr D0 (.int 29))) (.int 5)))))
abbrev vv:E:=cmp .lss bD (fn 9 (pr (fn 1 (pr D0 (.int 30))) (.int 5)))
abbrev D93:E:=pr (fn 1 (pr (fn 1 (pr D0 (.int 30))) (fn 6 (pr (fn 8 (pr bD (.int 5))) (.int 4))))) rR
abbrev D94:E:=pr (fn 1 (pr (fn 1 (pr D0 (.int 30))) (fn 6 (pr (fn 8 (pr bD (.int 5))) (.int 3))))) D93
abbrev D95:E:=pr (fn 1 (pr (fn 1 (pr D0 (.int 30))) (fn 6 (pr (fn 8 (pr bD (.int 5))) (.int 2))))) D94
abbrev D96:E:=pr (fn 1 (pr (fn 1 (pr D0 (.int 30))) (fn 6 (pr (fn 8 (pr bD (.int 5))) (.int 1))))) D95
abbrev D97:E:=pr (fn 1 (pr (fn 1 (pr D0 (.int 30))) (fn 6 (pr (fn 8 (pr bD (.int 5))) (.int 0))))) D96
abbrev D98:E:=fn 102 D97
abbrev Pd:E:=.iff n7 D98
abbrev zP:=[vv,pH]
abbrev Oo:E:=cmp .lss (fn 1 (pr D0 (.int 2))) (.int 0)
abbrev dB:E:=.not Oo
abbrev Oq:E:=cmp .lss (fn 1 (pr D0 (.int 3))) (.int 0)
abbrev dI:E:=.not Oq
abbrev Ot:E:=cmp .lss (fn 1 (pr D0 (.int 4))) (.int 0)
abbrev dX:E:=.not Ot
abbrev Ou:E:=cmp .lss (fn 1 (pr D0 (.int 5))) (.int 0)
abbrev Ov:E:=cmp .lss (fn 1 (pr D0 (.int 1))) (.int 0)
abbrev ey:E:=.not Ov
abbrev Ox:E:=cmp .lss (.int 9999) (fn 1 (pr D0 (.int 1)))
abbrev ez:E:=.not Ou
abbrev eH:E:=.not Ox
abbrev Oy:E:=cmp .lss (fn 1 (pr D0 (.int 13))) (.int 0)
abbrev eW:E:=.not Oy
abbrev Oz:E:=cmp .lss (.int 7) (fn 1 (pr D0 (.int 13)))
abbrev fx:E:=.not Oz
abbrev OA:E:=cmp .lss (fn 1 (pr D0 (.int 14))) (.int 0)
abbrev fK:E:=.not OA
abbrev OB:E:=cmp .lss (fn 1 (pr D0 (.int 16))) (.int 0)
abbrev iv:E:=.not OB
abbrev OC:E:=cmp .lss (fn 1 (pr D0 (.int 17))) (.int 0)
abbrev jG:E:=.not OC
abbrev OD:E:=cmp .lss (fn 1 (pr D0 (.int 18))) (.int 0)
abbrev lS:E:=.not OD
abbrev OE:E:=cmp .lss (fn 1 (pr D0 (.int 19))) (.int 0)
abbrev OF:E:=cmp .lss (fn 1 (pr D0 (.int 15))) (.int 0)
abbrev pE:E:=.not OF
abbrev OG:E:=cmp .lss (.int 9999) (fn 1 (pr D0 (.int 15)))
abbrev pF:E:=.not OE
abbrev rQ:E:=.not OG
abbrev OI:E:=cmp .lss (fn 1 (pr D0 (.int 27))) (.int 0)
abbrev vn:E:=.not OI
abbrev OJ:E:=cmp .lss (.int 7) (fn 1 (pr D0 (.int 27)))
abbrev zQ:E:=.not OJ
abbrev zR:E:=cmp .lss (fn 1 (pr D0 (.int 28))) (.int 0)
abbrev OK:E:=.iff n7 (fn 125 D0)
abbrev OL:E:=cmp .lss (.int 99) (fn 1 (pr D0 (.int 2)))
abbrev OM:E:=cmp .lss (.int 99) (fn 1 (pr D0 (.int 3)))
abbrev ON:E:=cmp .lss (.int 99) (fn 1 (pr D0 (.int 4)))
abbrev OO:E:=cmp .lss (.int 99) (fn 1 (pr D0 (.int 5)))
abbrev OP:E:=cmp .lss (.int 255) (fn 1 (pr D0 (.int 14)))
abbrev OQ:E:=cmp .lss (.int 99) (fn 1 (pr D0 (.int 16)))
abbrev OR:E:=cmp .lss (.int 99) (fn 1 (pr D0 (.int 17)))
abbrev OS:E:=cmp .lss (.int 99) (fn 1 (pr D0 (.int 18)))
abbrev OT:E:=cmp .lss (.int 99) (fn 1 (pr D0 (.int 19)))
abbrev OU:E:=cmp .lss (.int 255) (fn 1 (pr D0 (.int 28)))
abbrev Gy:E:=fn 103 (pr (fn 1 (pr D0 (.int 30))) (pr rR bD))
def alq:=fa ((fn 126 (pr D0 (.int 0))))<|fun F=>by
 rfl
def alr:=fb [(.not D2),D3,D5,(.not (cmp .lss (fn 0 (fn 1 (pr D0 (.int 31)))) D1))] D7<|aB fun F p0 p1 p2 p3=>by
 have g0:E.I F (fn 0 (fn 1 (pr D0 (.int 31))))=E.I F D1:=by
  simp only[aa]at *;omega
 grind[aKs]
def als:=fb (D2::(.not D8)::D9::(.not zO)::OV) n6<|c9 fun F p0 p1 p2 p3 p4 p5 p6 p7=>by
 have:=fun ha=>@uZ F _ (fn 6 (pr D1 (.int 1))) _ _ p6 _ rfl (uq ha).1
 simp only[aa]at *;grind
def alu:=fb (D2::D8::OW::(.not zO)::Gz) n6<|bL fun F p0 p1 p2 p3 p4 p5=>by
 have:=fun ha=>@uZ F _ (fn 6 (pr D1 (.int 1))) _ _ p4 _ rfl (uo ha).1
 simp only[aa]at *;grind
def alv:=fb (D2::GB::(.not GC)::OV) n6<|cV fun F p0 p1 p2 p3 p4 p5 p6=>by
 have:=fun ha=>@uZ F _ (fn 6 (pr D1 (.int 1))) _ _ p5 _ rfl (uo ha).1
 have:=fun ha=>@uZ F _ (fn 6 (pr D1 (.int 1))) _ _ p5 _ rfl (uq ha).1
 simp only[aa]at *;grind
def alw:=fa ((fn 127 (pr D0 (.int 0))))<|fun F=>by
 rfl
def alx:=fb [(.not pG),OY,D7,(.not (cmp .lss (fn 9 (pr (fn 1 (pr D0 (.int 32))) (.int 2))) bD))] (.iff rR GA)<|aB fun F p0 p1 p2 p3=>by
 have:=@aLq F _ _ p2 p1
 simp only[aa]at *;grind
def aly:=fb (D2::GB::GC::(.not D8)::D9::zO::vk::vo::OZ) O0<|eS fun F p0 p1 p2 p3 p4 p5 p6 p7 p8 p9 ai=>by
 have:=ak p8
 have:=@bH F D1 (.int 1)
 have:=fun ha=>@uZ F _ (.ar .add .i64 D1 (.int 1)) _ _ p9 _ rfl (uq ha).1
 simp only[aa]at *;grind
def alz:=fb (D2::GB::GC::D8::OW::zO::OZ) O0<|di fun F p0 p1 p2 p3 p4 p5 p6 p7 p8=>by
 have:=ak p6
 have:=@bH F D1 (.int 1)
 have:=fun ha=>@uZ F _ (.ar .add .i64 D1 (.int 1)) _ _ p7 _ rfl (uo ha).1
 simp only[aa]at *;grind
def alA:=fb (vq::vr::(.not zT)::O1::O3) n6<|di fun F p0 p1 p2 p3 p4 p5 p6 p7 p8=>by
 have:=fun ha=>@u5 F _ _ _ _ (fn 1 (pr (fn 1 (pr D0 _)) (fn 6 (pr (fn 8 (pr bD _)) _)))) rfl rfl (uo ha).2
 simp only[aa,ae]at *
 obtain⟨a,b,c⟩:=ab ((1)-(E.I F (fn 1 (pr D0 (.int 34)))))
 grind
def alB:=fb (vq::vr::(.not zT)::O1::O4) GF<|di fun F p0 p1 p2 p3 p4 p5 p6 p7 p8=>by
 have:=fun ha=>@u5 F _ _ _ _ (fn 1 (pr (fn 1 (pr D0 _)) (fn 6 (pr (fn 8 (pr bD _)) _)))) rfl rfl (uo ha).2
 simp only[aa,ae]at *
 obtain⟨a,b,c⟩:=ab ((1)-(E.I F (fn 1 (pr D0 (.int 34)))))
 grind
def alC:=fb (vq::vr::zT::O5::O3) n6<|di fun F p0 p1 p2 p3 p4 p5 p6 p7 p8=>by
 have:=fun ha=>@u5 F _ _ _ _ (fn 1 (pr (fn 1 (pr D0 _)) (fn 6 (pr (fn 8 (pr bD _)) _)))) rfl rfl (uq ha).2
 simp only[aa,ae]at *
 obtain⟨a,b,c⟩:=ab ((1)-(E.I F (fn 1 (pr D0 (.int 34)))))
 grind
def alD:=fb (vq::vr::zT::O5::O4) GF<|di fun F p0 p1 p2 p3 p4 p5 p6 p7 p8=>by
 have:=fun ha=>@u5 F _ _ _ _ (fn 1 (pr (fn 1 (pr D0 _)) (fn 6 (pr (fn 8 (pr bD _)) _)))) rfl rfl (uq ha).2
 simp only[aa,ae]at *
 obtain⟨a,b,c⟩:=ab ((1)-(E.I F (fn 1 (pr D0 (.int 34)))))
 grind
def alE:=fb (vq::(.not vr)::GD) n6<|bL fun F p0 p1 p2 p3 p4 p5=>by
 have:=fun ha=>@u5 F _ _ _ _ (fn 1 (pr (fn 1 (pr D0 _)) (fn 6 (pr (fn 8 (pr bD _)) _)))) rfl rfl (uo ha).2
 have:=fun ha=>@u5 F _ _ _ _ (fn 1 (pr (fn 1 (pr D0 _)) (fn 6 (pr (fn 8 (pr bD _)) _)))) rfl rfl (uq ha).2
 simp only[aa]at *;grind
def alF:=fa ((fn 128 (pr D0 (pr bD (.int 0)))))<|fun F=>by
 rfl
def alG:=fb [n8,pG] (cmp .lss eA (fn 9 (pr (fn 1 (pr D0 (.int 32))) (.int 2))))<|ap fun F p0 p1=>by
 simp only[aa]at *;omega
def alH:=fb zU O8<|aK fun F p0 p1 p2 p3 p4=>by
 have:=ak p0
 simp only[aa,ae]at *
 obtain⟨a,b,c⟩:=ab (E.I F bD+1)
 omega
def alI:=fb (n8::(.not GG)::O9::zV::GH) n6<|cV fun F p0 p1 p2 p3 p4 p5 p6=>by
 have:=@NL F _ _ (fn 6 (pr eA (.int 1))) _ p3 _ _ _ _ rfl rfl rfl rfl
 simp only[aa]at *;grind
def alJ:=fb Pa (.not (cmp .lss (.ar .add .i64 eA (.int 1)) (.int 0)))<|aK fun F p0 p1 p2 p3 p4=>by
 have:=ak p0
 simp only[aa,ae]at *
 obtain⟨a,b,c⟩:=ab (E.I F eA+1)
 omega
def alK:=fb (n8::GG::zV::GH) n6<|bL fun F p0 p1 p2 p3 p4 p5=>by
 have:=@NL F _ _ (fn 6 (pr eA (.int 1))) _ p2 _ _ _ _ rfl rfl rfl rfl
 simp only[aa]at *;grind
def alL:=fb zU (.not (cmp .lss (fn 9 (pr (fn 1 (pr D0 (.int 32))) (.int 2))) (.ar .add .i64 bD (.int 1))))<|aK fun F p0 p1 p2 p3 p4=>by
 simp only[aa,ae]at *
 obtain⟨a,b,c⟩:=ab (E.I F bD+1)
 omega
def alM:=fb [n8,rS] (.not (cmp .lss bD (.ar .add .i64 eA (.int 1))))<|ap fun F p0 p1=>by
 simp only[aa,ae]at *
 obtain⟨a,b,c⟩:=ab (E.I F eA+1)
 omega
def alN:=fb (O6::zV::GF::O7::rS::OY::pG::pH::cw) (fn 127 (pr D0 (.ar .add .i64 bD (.int 1))))<|di fun F p0 p1 p2 p3 p4 p5 p6 p7 p8=>by
 have:=ak p8
 have:=@bH F bD (.int 1)
 have:=@aKt F _ _ (.ar .add .i64 bD (.int 1)) _ p5 p2 p1
 simp only[aa]at *;grind
def alO:=fb (n8::(.not GG)::(.not O9)::zV::rS::pG::pH::cw) (fn 128 (pr D0 (pr bD (.ar .add .i64 eA (.int 1)))))<|c9 fun F p0 p1 p2 p3 p4 p5 p6 p7=>by
 have:=ak p7
 have:=@bH F eA (.int 1)
 have:=@NL F _ _ (.ar .add .i64 eA (.int 1)) _ p3 _ _ _ _ rfl rfl rfl rfl
 simp only[aa]at *;grind
def alP:=fb zU (cmp .lss (fn 7 (pr (fn 9 (pr (fn 1 (pr D0 (.int 32))) (.int 2))) (.ar .add .i64 bD (.int 1)))) (fn 7 (pr (fn 9 (pr (fn 1 (pr D0 (.int 32))) (.int 2))) bD)))<|aK fun F p0 p1 p2 p3 p4=>by
 have:=ak p0
 simp only[aa,ae]at *
 obtain⟨a,b,c⟩:=ab (E.I F bD+1)
 omega
def alQ:=fb Pa (cmp .lss (fn 7 (pr bD (.ar .add .i64 eA (.int 1)))) (fn 7 (pr bD eA)))<|aK fun F p0 p1 p2 p3 p4=>by
 have:=ak p0
 simp only[aa,ae]at *
 obtain⟨a,b,c⟩:=ab (E.I F eA+1)
 omega
def alR:=fb zU (.not (cmp .lss (fn 7 (pr (fn 9 (pr (fn 1 (pr D0 (.int 32))) (.int 2))) (.ar .add .i64 bD (.int 1)))) (.int 0)))<|aK fun F p0 p1 p2 p3 p4=>by
 simp only[aa,ae]at *
 obtain⟨a,b,c⟩:=ab (E.I F bD+1)
 omega
def alS:=fb [n8,rS] (.not (cmp .lss (fn 7 (pr bD (.ar .add .i64 eA (.int 1)))) (.int 0)))<|ap fun F p0 p1=>by
 simp only[aa,ae]at *
 obtain⟨a,b,c⟩:=ab (E.I F eA+1)
 omega
def cQ:List Fa:=[Po,Pq,alq,Pv,Pw,alr,als,Pp,alu,alv,alw,Pr,Pn,alx,aly,alz,Ps,alA,alB,alC,alD,alE,Pt,alF,alG,alH,alI,alJ,alK,alL,alM,alN,alO,alP,alQ,alR,alS]
theorem aIZ:aR Tryz.prog (bj (aIh)):=sc cQ (aC9) acO ([]) (by kernel_rfl) (by kernel_rfl)
def acP:Nl:=nc aIZ acO
def alT:=fb ((cmp .lss (.int 200) (fn 9 (pr (fn 1 (pr D0 (.int 30))) (.int 5))))::cw) bZ<|ap fun F p0 p1=>by
 have:=ak p1
 simp only[aa]at *;grind
def alU:=fb ((cmp .lss (.int 200) (fn 9 (pr (fn 1 (pr D0 (.int 29))) (.int 5))))::cw) bZ<|ap fun F p0 p1=>by
 have:=ak p1
 simp only[aa]at *;grind
def alV:=fb ((cmp .lss (.int 500) (fn 9 (pr (fn 1 (pr D0 (.int 0))) (.int 12))))::cw) bZ<|ap fun F p0 p1=>by
 have:=ak p1
 simp only[aa]at *;grind
def alW:=fb [GI] bZ<|ah fun F p0=>by
 have:=@ck F D0
 simp only[aa]at *;grind
def alX:=fb [GJ] bZ<|ah fun F p0=>by
 have:=@ck F D0
 simp only[aa]at *;grind
def alY:=fb [GK] bZ<|ah fun F p0=>by
 have:=@ck F D0
 simp only[aa]at *;grind
def alZ:=fb [GL] bZ<|ah fun F p0=>by
 have:=@ck F D0
 simp only[aa]at *;grind
def al0:=fb [GM] bZ<|ah fun F p0=>by
 have:=@ck F D0
 simp only[aa]at *;grind
def al1:=fb [GN] bZ<|ah fun F p0=>by
 have:=@ck F D0
 simp only[aa]at *;grind
def al2:=fb [GO] bZ<|ah fun F p0=>by
 have:=@ck F D0
 simp only[aa]at *;grind
def al3:=fb [GP] bZ<|ah fun F p0=>by
 have:=@ck F D0
 simp only[aa]at *;grind
def al4:=fb [Ow] bZ<|ah fun F p0=>by
 have:=@ck F D0
 simp only[aa]at *;grind
def al5:=fb [OH] bZ<|ah fun F p0=>by
 have:=@ck F D0
 simp only[aa]at *;grind
def al6:=fa ((fn 103 (pr (fn 1 (pr D0 (.int 29))) (pr n4 (.int 0)))))<|fun F=>by
 rfl
def al7:=fb (zW::Pb::(.not vp)::(.not GI)::(.not GJ)::(.not GK)::(.not GL)::(.not GM)::(.not GN)::(.not GO)::(.not GP)::vk::vo::D3::zS) bZ<|tB fun F p0 p1 p2 p3 p4 p5 p6 p7 p8 p9 ai ao aq ax aA=>by
 have:=@ck F D0
 have:=fun h0 h1=>@FO F _ _ (fn 9 (pr (fn 1 (pr D0 (.int 29))) (.int 5))) _ h0 h1 (fn _ (pr (fn 1 _) (pr (fn 1 _) (pr (fn 1 _) (pr (fn 1 _) (pr (fn 1 (pr (fn 1 (pr D0 (.int 29))) (fn 6 (pr (fn 8 (pr D1 _)) _)))) n4)))))) rfl
 simp only[aa]at *;grind
def al8:=fb zX (.not (cmp .lss (.ar .add .i64 D1 (.int 1)) (.int 0)))<|am fun F p0 p1 p2=>by
 have:=ak p0
 simp only[aa,ae]at *
 obtain⟨a,b,c⟩:=ab (E.I F D1+1)
 omega
def rU:=fb cw (.not (cmp .lss (.int 20) (fn 9 (pr (fn 1 (pr D0 (.int 30))) (.int 5)))))<|ah fun F p0=>by
 have:=ak p0
 simp only[aa]at *;omega
def al9:=fb zX (.not (cmp .lss (fn 9 (pr (fn 1 (pr D0 (.int 29))) (.int 5))) (.ar .add .i64 D1 (.int 1))))<|am fun F p0 p1 p2=>by
 simp only[aa,ae]at *
 obtain⟨a,b,c⟩:=ab (E.I F D1+1)
 omega
def ama:=fb [(.not zW),Pc] zY<|ap fun F p0 p1=>by
 have:=fun h1=>@FN F _ _ (fn 9 (pr (fn 1 (pr D0 (.int 29))) (.int 5))) _ p1 h1
 simp only[aa]at *;grind
def amb:=fb (zW::Pb::vp::D3::Pc::zS) (fn 103 (pr (fn 1 (pr D0 (.int 29))) (pr n4 (.ar .add .i64 D1 (.int 1)))))<|bL fun F p0 p1 p2 p3 p4 p5=>by
 have:=ak p3
 have:=@bH F D1 (.int 1)
 have:=fun h0 hm=>@FP F _ _ (.ar .add .i64 D1 (.int 1)) _ p4 h0 hm (fn _ (pr (fn 1 _) (pr (fn 1 _) (pr (fn 1 _) (pr (fn 1 _) (pr (fn 1 _) _)))))) rfl
 simp only[aa]at *;grind
def amc:=fa ((fn 103 (pr (fn 1 (pr D0 (.int 30))) (pr rR (.int 0)))))<|fun F=>by
 rfl
def amd:=fb zX (cmp .lss (fn 7 (pr (fn 9 (pr (fn 1 (pr D0 (.int 29))) (.int 5))) (.ar .add .i64 D1 (.int 1)))) (fn 7 (pr (fn 9 (pr (fn 1 (pr D0 (.int 29))) (.int 5))) D1)))<|am fun F p0 p1 p2=>by
 have:=ak p0
 simp only[aa,ae]at *
 obtain⟨a,b,c⟩:=ab (E.I F D1+1)
 omega
def ame:=fb (vv::Pd::(.not n7)::pH::zY::cw) bZ<|bL fun F p0 p1 p2 p3 p4 p5=>by
 have:=@ck F D0
 have:=fun h0 h1=>@FO F _ _ (fn 9 (pr (fn 1 (pr D0 (.int 30))) (.int 5))) _ h0 h1 (fn _ (pr (fn 1 _) (pr (fn 1 _) (pr (fn 1 _) (pr (fn 1 _) (pr (fn 1 (pr (fn 1 (pr D0 (.int 30))) (fn 6 (pr (fn 8 (pr bD _)) _)))) rR)))))) rfl
 simp only[aa]at *;grind
def amf:=fb (D3::zP) O8<|am fun F p0 p1 p2=>by
 have:=ak p0
 simp only[aa,ae]at *
 obtain⟨a,b,c⟩:=ab (E.I F bD+1)
 omega
def amg:=fb (Oo::cw) bZ<|ap fun F p0 p1=>by
 have:=@ck F D0
 simp only[aa]at *;grind
def amh:=fb (dB::Oq::cw) bZ<|am fun F p0 p1 p2=>by
 have:=@ck F D0
 simp only[aa]at *;grind
def ami:=fb (dB::dI::Ot::cw) bZ<|aB fun F p0 p1 p2 p3=>by
 have:=@ck F D0
 simp only[aa]at *;grind
def amj:=fb (dB::dI::dX::Ou::cw) bZ<|aK fun F p0 p1 p2 p3 p4=>by
 have:=@ck F D0
 simp only[aa]at *;grind
def amk:=fb (Ov::cw) bZ<|ap fun F p0 p1=>by
 have:=@ck F D0
 simp only[aa]at *;grind
def aml:=fb (ey::Ox::cw) bZ<|am fun F p0 p1 p2=>by
 have:=@ck F D0
 simp only[aa]at *;grind
def amm:=fb (dB::dI::dX::ez::ey::eH::Oy::cw) bZ<|c9 fun F p0 p1 p2 p3 p4 p5 p6 p7=>by
 have:=@ck F D0
 simp only[aa]at *;grind
def amn:=fb (dB::dI::dX::ez::ey::eH::eW::Oz::cw) bZ<|di fun F p0 p1 p2 p3 p4 p5 p6 p7 p8=>by
 have:=@ck F D0
 simp only[aa]at *;grind
def amo:=fb (dB::dI::dX::ez::ey::eH::eW::fx::OA::cw) bZ<|eR fun F p0 p1 p2 p3 p4 p5 p6 p7 p8 p9=>by
 have:=@ck F D0
 simp only[aa]at *;grind
def amp:=fb (dB::dI::dX::ez::ey::eH::eW::fx::fK::OB::cw) bZ<|eS fun F p0 p1 p2 p3 p4 p5 p6 p7 p8 p9 ai=>by
 have:=@ck F D0
 simp only[aa]at *;grind
def amq:=fb (dB::dI::dX::ez::ey::eH::eW::fx::fK::iv::OC::cw) bZ<|jq fun F p0 p1 p2 p3 p4 p5 p6 p7 p8 p9 ai ao=>by
 have:=@ck F D0
 simp only[aa]at *;grind
def amr:=fb (dB::dI::dX::ez::ey::eH::eW::fx::fK::iv::jG::OD::cw) bZ<|jr fun F p0 p1 p2 p3 p4 p5 p6 p7 p8 p9 ai ao aq=>by
 have:=@ck F D0
 simp only[aa]at *;grind
def ams:=fb (dB::dI::dX::ez::ey::eH::eW::fx::fK::iv::jG::lS::OE::cw) bZ<|DD fun F p0 p1 p2 p3 p4 p5 p6 p7 p8 p9 ai ao aq ax=>by
 have:=@ck F D0
 simp only[aa]at *;grind
def amt:=fb (dB::dI::dX::ez::ey::eH::eW::fx::fK::OF::cw) bZ<|eS fun F p0 p1 p2 p3 p4 p5 p6 p7 p8 p9 ai=>by
 have:=@ck F D0
 simp only[aa]at *;grind
def amu:=fb (dB::dI::dX::ez::ey::eH::eW::fx::fK::pE::OG::cw) bZ<|jq fun F p0 p1 p2 p3 p4 p5 p6 p7 p8 p9 ai ao=>by
 have:=@ck F D0
 simp only[aa]at *;grind
def amv:=fb (dB::dI::dX::ez::ey::eH::eW::fx::fK::iv::jG::lS::pF::pE::rQ::OI::cw) bZ<|tC fun F p0 p1 p2 p3 p4 p5 p6 p7 p8 p9 ai ao aq ax aA aC aL=>by
 have:=@ck F D0
 simp only[aa]at *;grind
def amw:=fb (dB::dI::dX::ez::ey::eH::eW::fx::fK::iv::jG::lS::pF::pE::rQ::vn::OJ::cw) bZ<|eZ fun F p0 p1 p2 p3 p4 p5 p6 p7 p8 p9 ai ao aq ax aA aC aL aN=>by
 have:=@ck F D0
 simp only[aa]at *;grind
def amx:=fb (dB::dI::dX::ez::ey::eH::eW::fx::fK::iv::jG::lS::pF::pE::rQ::vn::zQ::zR::cw) bZ<|DE fun F p0 p1 p2 p3 p4 p5 p6 p7 p8 p9 ai ao aq ax aA aC aL aN bn=>by
 have:=@ck F D0
 simp only[aa]at *;grind
def amy:=fb ((.not vv)::dB::dI::dX::ez::ey::eH::eW::fx::fK::iv::jG::lS::pF::pE::rQ::vn::zQ::(.not zR)::OK::n7::(.iff vu GA)::(.not OL)::(.not OM)::(.not ON)::(.not OO)::(.not OP)::(.not OQ)::(.not OR)::(.not OS)::(.not OT)::(.not OU)::Gy::zY::(.not GI)::(.not GJ)::(.not GK)::(.not GL)::(.not GM)::(.not GN)::(.not GO)::(.not GP)::vk::vo::cw) (.iff vu (fn 130 D0))<|aFz fun F p0 p1 p2 p3 p4 p5 p6 p7 p8 p9 ai ao aq ax aA aC aL aN bn bw bC bG bO bV co cp cQ dH d6 eU fT iV im lC lD ri rj rk rl rm rn ro rp rq pi=>by
 have:=ak pi
 have:=@ck F D0
 have:=fun h1=>@FN F _ _ (fn 9 (pr (fn 1 (pr D0 (.int 30))) (.int 5))) _ im h1
 simp only[aa]at *;grind
def amz:=fb ((.not vv)::dB::dI::dX::ez::ey::eH::eW::fx::fK::iv::jG::lS::pF::pE::rQ::vn::zQ::(.not zR)::OK::(.not n7)::Gy::zY::cw) bZ<|Lp fun F p0 p1 p2 p3 p4 p5 p6 p7 p8 p9 ai ao aq ax aA aC aL aN bn bw bC bG bO bV=>by
 have:=@ck F D0
 simp_all
def amA:=fb (dB::dI::dX::ez::ey::eH::eW::fx::fK::iv::jG::lS::pF::pE::rQ::vn::zQ::(.not zR)::OU::cw) bZ<|abz fun F p0 p1 p2 p3 p4 p5 p6 p7 p8 p9 ai ao aq ax aA aC aL aN bn bw=>by
 have:=@ck F D0
 simp only[aa]at *;grind
def amB:=fb (dB::dI::dX::ez::ey::eH::eW::fx::fK::iv::jG::lS::pF::OT::cw) bZ<|tB fun F p0 p1 p2 p3 p4 p5 p6 p7 p8 p9 ai ao aq ax aA=>by
 have:=@ck F D0
 simp only[aa]at *;grind
def amC:=fb (dB::dI::dX::ez::ey::eH::eW::fx::fK::iv::jG::lS::OS::cw) bZ<|DD fun F p0 p1 p2 p3 p4 p5 p6 p7 p8 p9 ai ao aq ax=>by
 have:=@ck F D0
 simp only[aa]at *;grind
def amD:=fb (dB::dI::dX::ez::ey::eH::eW::fx::fK::iv::jG::OR::cw) bZ<|jr fun F p0 p1 p2 p3 p4 p5 p6 p7 p8 p9 ai ao aq=>by
 have:=@ck F D0
 simp only[aa]at *;grind
def amE:=fb (dB::dI::dX::ez::ey::eH::eW::fx::fK::iv::OQ::cw) bZ<|jq fun F p0 p1 p2 p3 p4 p5 p6 p7 p8 p9 ai ao=>by
 have:=@ck F D0
 simp only[aa]at *;grind
def amF:=fb (dB::dI::dX::ez::ey::eH::eW::fx::fK::OP::cw) bZ<|eS fun F p0 p1 p2 p3 p4 p5 p6 p7 p8 p9 ai=>by
 have:=@ck F D0
 simp only[aa]at *;grind
def amG:=fb (dB::dI::dX::ez::OO::cw) bZ<|bL fun F p0 p1 p2 p3 p4 p5=>by
 have:=@ck F D0
 simp only[aa]at *;grind
def amH:=fb (dB::dI::dX::ON::cw) bZ<|aK fun F p0 p1 p2 p3 p4=>by
 have:=@ck F D0
 simp only[aa]at *;grind
def amI:=fb zX (.not (cmp .lss (fn 7 (pr (fn 9 (pr (fn 1 (pr D0 (.int 29))) (.int 5))) (.ar .add .i64 D1 (.int 1)))) (.int 0)))<|am fun F p0 p1 p2=>by
 simp only[aa,ae]at *
 obtain⟨a,b,c⟩:=ab (E.I F D1+1)
 omega
def PG:=fb zP (.not (cmp .lss (fn 9 (pr (fn 1 (pr D0 (.int 30))) (.int 5))) (.ar .add .i64 bD (.int 1))))<|ap fun F p0 p1=>by
 simp only[aa,ae]at *
 obtain⟨a,b,c⟩:=ab (E.I F bD+1)
 omega
def amJ:=fb (dB::dI::OM::cw) bZ<|aB fun F p0 p1 p2 p3=>by
 have:=@ck F D0
 simp only[aa]at *;grind
def amK:=fb (dB::OL::cw) bZ<|am fun F p0 p1 p2=>by
 have:=@ck F D0
 simp only[aa]at *;grind
def amL:=fb (vv::Pd::n7::Gy::pH::cw) (fn 103 (pr (fn 1 (pr D0 (.int 30))) (pr rR (.ar .add .i64 bD (.int 1)))))<|bL fun F p0 p1 p2 p3 p4 p5=>by
 have:=ak p5
 have:=@bH F bD (.int 1)
 have:=fun h0 hm=>@FP F _ _ (.ar .add .i64 bD (.int 1)) _ p3 h0 hm (fn _ (pr (fn 1 _) (pr (fn 1 _) (pr (fn 1 _) (pr (fn 1 _) (pr (fn 1 _) _)))))) rfl
 simp only[aa]at *;grind
def amM:=fb (D3::zP) (cmp .lss (fn 7 (pr (fn 9 (pr (fn 1 (pr D0 (.int 30))) (.int 5))) (.ar .add .i64 bD (.int 1)))) (fn 7 (pr (fn 9 (pr (fn 1 (pr D0 (.int 30))) (.int 5))) bD)))<|am fun F p0 p1 p2=>by
 have:=ak p0
 simp only[aa,ae]at *
 obtain⟨a,b,c⟩:=ab (E.I F bD+1)
 omega
def PH:=fb zP (.not (cmp .lss (fn 7 (pr (fn 9 (pr (fn 1 (pr D0 (.int 30))) (.int 5))) (.ar .add .i64 bD (.int 1)))) (.int 0)))<|ap fun F p0 p1=>by
 simp only[aa,ae]at *
 obtain⟨a,b,c⟩:=ab (E.I F bD+1)
 omega
def dH:List Fa:=[alT,lU,alU,alV,alW,alX,alY,alZ,al0,al1,al2,al3,al4,al5,al6,al7,al8,rU,al9,ama,amb,amc,amd,ame,amf,amg,amh,ami,amj,amk,aml,amm,amn,amo,amp,amq,amr,ams,amt,amu,amv,amw,amx,amy,amz,amA,amB,amC,amD,amE,amF,amG,amH,amI,PG,amJ,amK,amL,amM,PH]
theorem aI0:aR Tryz.prog (bj (aH2)):=sc dH (aC1) acP ([]) (by kernel_rfl) (by kernel_rfl)
def acQ:Nl:=nc aI0 acP
end
end Go.Proofs.YtnggbcblogpnfaaGreat.combatAttacks
