/-
  CombatBlocks: contracts of functions, part 8.
-/
import Derived.Test.YtnggbcblogpnfaaGreatCombatBlocksPartg
namespace Go.Proofs.YtnggbcblogpnfaaGreat.combatBlocks
open Go.ChangeShapes Go.WideShapes Go.ChangeAt Go.RowKit
open Go.SX
open Go.SX.E (fn pr cmp var)
set_option linter.unusedVariables false
set_option linter.unusedSimpArgs false
set_option maxRecDepth 100000
noncomputable section
abbrev D0:E:=var 0
abbrev D1:E:=var 8
abbrev D2:E:=cmp .lss D1 (fn 0 (fn 1 (pr D0 (.int 31))))
abbrev D3:E:=fn 117 D0
abbrev D4:E:=pr D0 D1
abbrev D5:E:=fn 126 D4
abbrev D6:E:=pr D0 (fn 0 (fn 1 (pr D0 (.int 31))))
abbrev D7:E:=fn 126 D6
abbrev D8:E:=cmp .eql (fn 1 (pr D0 (.int 34))) (.int 0)
abbrev D9:E:=cmp .eql (var 10) (fn 121 (pr (fn 1 (pr D0 (.int 22))) (fn 1 (pr (fn 1 (pr D0 (.int 31))) D1))))
abbrev zS:E:=cmp .eql (var 10) (.int 1)
abbrev OU:E:=cmp .lss (.int 1) (fn 1 (pr D0 (.int 34)))
abbrev vF:E:=.not OU
abbrev O5:E:=cmp .lss (fn 1 (pr D0 (.int 34))) (.int 0)
abbrev vH:E:=.not O5
abbrev D15:E:=cmp .lss D1 (.int 0)
abbrev D16:E:=.not D15
abbrev zW:=[D16]
abbrev Hf:=D5::zW
abbrev D19:=vH::Hf
abbrev Pj:=vF::D19
abbrev ou:E:=.bool false
abbrev Hg:E:=fn 129 D0
abbrev ov:E:=.iff ou Hg
abbrev Pk:E:=cmp .eql (var 10) (fn 121 (pr (fn 1 (pr D0 (.int 8))) (fn 1 (pr (fn 1 (pr D0 (.int 31))) D1))))
abbrev vI:E:=var 9
abbrev Hh:E:=cmp .eql vI (fn 121 (pr (fn 1 (pr D0 (.int 31))) (fn 1 (pr (fn 1 (pr D0 (.int 31))) D1))))
abbrev Hi:E:=cmp .eql vI (.int 1)
abbrev bM:E:=var 16
abbrev pW:E:=cmp .lss bM (fn 9 (pr (fn 1 (pr D0 (.int 32))) (.int 2)))
abbrev Pl:E:=pr D0 bM
abbrev Pm:E:=fn 127 Pl
abbrev su:E:=.bool true
abbrev Pn:=D3::Hf
abbrev D34:E:=pr D0 (.ar .add .i64 D1 (.int 1))
abbrev Po:E:=fn 126 D34
abbrev oz:E:=var 17
abbrev vJ:E:=cmp .eql oz (fn 121 (pr (fn 1 (pr D0 (.int 31))) (fn 1 (pr (fn 1 (pr D0 (.int 32))) (fn 6 (pr (fn 8 (pr bM (.int 2))) (.int 1)))))))
abbrev vK:E:=cmp .eql oz (.int 1)
abbrev zX:E:=cmp .eql (.ar .sub .i64 (.int 1) (fn 1 (pr D0 (.int 34)))) (.int 0)
abbrev vL:E:=var 18
abbrev Pp:E:=cmp .eql vL (fn 121 (pr (fn 1 (pr D0 (.int 22))) (fn 1 (pr (fn 1 (pr D0 (.int 32))) (fn 6 (pr (fn 8 (pr bM (.int 2))) (.int 0)))))))
abbrev Pq:E:=cmp .eql vL (.int 1)
abbrev pX:E:=.not (cmp .lss bM (.int 0))
abbrev D44:=[vF,vH]
abbrev D45:=pX::D44
abbrev Hj:=pW::D45
abbrev Pr:List E:=(.not Pq)::Hj
abbrev Ps:=Pq::Hj
abbrev Hk:E:=fn 136 Pl
abbrev Pt:E:=cmp .eql vL (fn 121 (pr (fn 1 (pr D0 (.int 8))) (fn 1 (pr (fn 1 (pr D0 (.int 32))) (fn 6 (pr (fn 8 (pr bM (.int 2))) (.int 0)))))))
abbrev eP:E:=var 24
abbrev oA:E:=cmp .lss eP bM
abbrev Pv:E:=.not oA
abbrev D54:E:=cmp .lss bM eP
abbrev Pw:E:=.not D54
abbrev sx:E:=.not (cmp .lss eP (.int 0))
abbrev D57:=[sx,pW]
abbrev D58:=Pw::D57
abbrev D59:=Pv::D58
abbrev zY:=D3::D59
abbrev D61:E:=cmp .lss (.ar .add .i64 bM (.int 1)) (.int 0)
abbrev Px:E:=.not D61
abbrev Hl:E:=cmp .eql (fn 1 (pr (fn 1 (pr D0 (.int 32))) (fn 6 (pr (fn 8 (pr eP (.int 2))) (.int 1))))) (fn 1 (pr (fn 1 (pr D0 (.int 32))) (fn 6 (pr (fn 8 (pr bM (.int 2))) (.int 1)))))
abbrev Py:E:=cmp .eql (fn 1 (pr (fn 1 (pr D0 (.int 32))) (fn 6 (pr (fn 8 (pr eP (.int 2))) (.int 0))))) (fn 1 (pr (fn 1 (pr D0 (.int 32))) (fn 6 (pr (fn 8 (pr bM (.int 2))) (.int 0)))))
abbrev zZ:E:=fn 128 (pr D0 (pr bM eP))
abbrev D66:=[pW,pX]
abbrev Hm:=sx::D66
abbrev Pz:=D3::oA::Hm
abbrev cF:=[D3]
abbrev ci:E:=.iff ou (fn 130 D0)
abbrev Hn:E:=cmp .lss (.int 2) (fn 1 (pr D0 (.int 37)))
abbrev Ho:E:=cmp .lss (fn 1 (pr D0 (.int 37))) (.int 0)
abbrev Hp:E:=cmp .lss (.int 1) (fn 1 (pr D0 (.int 36)))
abbrev Hq:E:=cmp .lss (fn 1 (pr D0 (.int 36))) (.int (-1))
abbrev Hr:E:=cmp .lss (.int 10) (fn 1 (pr D0 (.int 35)))
abbrev Hs:E:=cmp .lss (fn 1 (pr D0 (.int 35))) (.int 0)
abbrev Ht:E:=cmp .lss (.int 1000) (fn 1 (pr D0 (.int 33)))
abbrev Hu:E:=cmp .lss (fn 1 (pr D0 (.int 33))) (.int 0)
abbrev z8:E:=cmp .lss D1 (fn 9 (pr (fn 1 (pr D0 (.int 29))) (.int 5)))
abbrev D80:E:=pr (fn 1 (pr (fn 1 (pr D0 (.int 29))) (fn 6 (pr (fn 8 (pr D1 (.int 5))) (.int 4))))) ou
abbrev D81:E:=pr (fn 1 (pr (fn 1 (pr D0 (.int 29))) (fn 6 (pr (fn 8 (pr D1 (.int 5))) (.int 3))))) D80
abbrev D82:E:=pr (fn 1 (pr (fn 1 (pr D0 (.int 29))) (fn 6 (pr (fn 8 (pr D1 (.int 5))) (.int 2))))) D81
abbrev D83:E:=pr (fn 1 (pr (fn 1 (pr D0 (.int 29))) (fn 6 (pr (fn 8 (pr D1 (.int 5))) (.int 1))))) D82
abbrev D84:E:=pr (fn 1 (pr (fn 1 (pr D0 (.int 29))) (fn 6 (pr (fn 8 (pr D1 (.int 5))) (.int 0))))) D83
abbrev D85:E:=fn 102 D84
abbrev PA:E:=.iff vI D85
abbrev D87:=z8::zW
abbrev Aa:=D3::D87
abbrev D89:E:=pr (fn 1 (pr D0 (.int 29))) (pr ou D1)
abbrev PB:E:=fn 103 D89
abbrev Ab:E:=fn 103 (pr (fn 1 (pr D0 (.int 29))) (pr ou (fn 9 (pr (fn 1 (pr D0 (.int 29))) (.int 5)))))
abbrev vM:E:=cmp .lss bM (fn 9 (pr (fn 1 (pr D0 (.int 30))) (.int 5)))
abbrev D93:E:=pr (fn 1 (pr (fn 1 (pr D0 (.int 30))) (fn 6 (pr (fn 8 (pr bM (.int 5))) (.int 4))))) su
abbrev D94:E:=pr (fn 1 (pr (fn 1 (pr D0 (.int 30))) (fn 6 (pr (fn 8 (pr bM (.int 5))) (.int 3))))) D93
abbrev D95:E:=pr (fn 1 (pr (fn 1 (pr D0 (.int 30))) (fn 6 (pr (fn 8 (pr bM (.int 5))) (.int 2))))) D94
abbrev D96:E:=pr (fn 1 (pr (fn 1 (pr D0 (.int 30))) (fn 6 (pr (fn 8 (pr bM (.int 5))) (.int 1))))) D95
abbrev D97:E:=pr (fn 1 (pr (fn 1 (pr D0 (.int 30))) (fn 6 (pr (fn 8 (pr bM (.int 5))) (.int 0))))) D96
abbrev D98:E:=fn 102 D97
abbrev PC:E:=.iff oz D98
abbrev zT:=[vM,pX]
abbrev OP:E:=cmp .lss (fn 1 (pr D0 (.int 2))) (.int 0)
abbrev dL:E:=.not OP
abbrev OQ:E:=cmp .lss (fn 1 (pr D0 (.int 3))) (.int 0)
abbrev dS:E:=.not OQ
abbrev OR:E:=cmp .lss (fn 1 (pr D0 (.int 4))) (.int 0)
abbrev d9:E:=.not OR
abbrev OS:E:=cmp .lss (fn 1 (pr D0 (.int 5))) (.int 0)
abbrev OT:E:=cmp .lss (fn 1 (pr D0 (.int 1))) (.int 0)
abbrev eN:E:=.not OT
abbrev OV:E:=cmp .lss (.int 9999) (fn 1 (pr D0 (.int 1)))
abbrev eO:E:=.not OS
abbrev eY:E:=.not OV
abbrev OW:E:=cmp .lss (fn 1 (pr D0 (.int 13))) (.int 0)
abbrev fo:E:=.not OW
abbrev OX:E:=cmp .lss (.int 7) (fn 1 (pr D0 (.int 13)))
abbrev fI:E:=.not OX
abbrev OY:E:=cmp .lss (fn 1 (pr D0 (.int 14))) (.int 0)
abbrev fY:E:=.not OY
abbrev OZ:E:=cmp .lss (fn 1 (pr D0 (.int 16))) (.int 0)
abbrev iL:E:=.not OZ
abbrev O0:E:=cmp .lss (fn 1 (pr D0 (.int 17))) (.int 0)
abbrev jR:E:=.not O0
abbrev O1:E:=cmp .lss (fn 1 (pr D0 (.int 18))) (.int 0)
abbrev mu:E:=.not O1
abbrev O2:E:=cmp .lss (fn 1 (pr D0 (.int 19))) (.int 0)
abbrev O3:E:=cmp .lss (fn 1 (pr D0 (.int 15))) (.int 0)
abbrev pU:E:=.not O3
abbrev O4:E:=cmp .lss (.int 9999) (fn 1 (pr D0 (.int 15)))
abbrev pV:E:=.not O2
abbrev ss:E:=.not O4
abbrev O6:E:=cmp .lss (fn 1 (pr D0 (.int 27))) (.int 0)
abbrev vG:E:=.not O6
abbrev O7:E:=cmp .lss (.int 7) (fn 1 (pr D0 (.int 27)))
abbrev zU:E:=.not O7
abbrev zV:E:=cmp .lss (fn 1 (pr D0 (.int 28))) (.int 0)
abbrev O8:E:=.iff oz (fn 125 D0)
abbrev O9:E:=cmp .lss (.int 99) (fn 1 (pr D0 (.int 2)))
abbrev Pa:E:=cmp .lss (.int 99) (fn 1 (pr D0 (.int 3)))
abbrev Pb:E:=cmp .lss (.int 99) (fn 1 (pr D0 (.int 4)))
abbrev Pc:E:=cmp .lss (.int 99) (fn 1 (pr D0 (.int 5)))
abbrev Pd:E:=cmp .lss (.int 255) (fn 1 (pr D0 (.int 14)))
abbrev Pe:E:=cmp .lss (.int 99) (fn 1 (pr D0 (.int 16)))
abbrev Pf:E:=cmp .lss (.int 99) (fn 1 (pr D0 (.int 17)))
abbrev Pg:E:=cmp .lss (.int 99) (fn 1 (pr D0 (.int 18)))
abbrev Ph:E:=cmp .lss (.int 99) (fn 1 (pr D0 (.int 19)))
abbrev Pi:E:=cmp .lss (.int 255) (fn 1 (pr D0 (.int 28)))
abbrev He:E:=fn 103 (pr (fn 1 (pr D0 (.int 30))) (pr su bM))
def anM:=fa ((fn 126 (pr D0 (.int 0))))<|fun F=>by
 rfl
def anN:=fb [(.not D2),D3,D5,(.not (cmp .lss (fn 0 (fn 1 (pr D0 (.int 31)))) D1))] D7<|aw fun F p0 p1 p2 p3=>by
 have g0:E.I F (fn 0 (fn 1 (pr D0 (.int 31))))=E.I F D1:=by
  simp only[aa]at *;omega
 grind[aMs]
def anO:=fb (D2::(.not D8)::D9::(.not zS)::Pj) ov<|cR fun F p0 p1 p2 p3 p4 p5 p6 p7=>by
 have:=fun ha=>@vp F _ (fn 6 (pr D1 (.int 1))) _ _ p6 _ rfl (uK ha).1
 simp only[aa]at *;grind
def anP:=fb (D2::D8::Pk::(.not zS)::Hf) ov<|bL fun F p0 p1 p2 p3 p4 p5=>by
 have:=fun ha=>@vp F _ (fn 6 (pr D1 (.int 1))) _ _ p4 _ rfl (uJ ha).1
 simp only[aa]at *;grind
def anQ:=fb (D2::Hh::(.not Hi)::Pj) ov<|cH fun F p0 p1 p2 p3 p4 p5 p6=>by
 have:=fun ha=>@vp F _ (fn 6 (pr D1 (.int 1))) _ _ p5 _ rfl (uJ ha).1
 have:=fun ha=>@vp F _ (fn 6 (pr D1 (.int 1))) _ _ p5 _ rfl (uK ha).1
 simp only[aa]at *;grind
def anR:=fa ((fn 127 (pr D0 (.int 0))))<|fun F=>by
 rfl
def anS:=fb [(.not pW),Pm,D7,(.not (cmp .lss (fn 9 (pr (fn 1 (pr D0 (.int 32))) (.int 2))) bM))] (.iff su Hg)<|aw fun F p0 p1 p2 p3=>by
 have:=@aNb F _ _ p2 p1
 simp only[aa]at *;grind
def anT:=fb (D2::Hh::Hi::(.not D8)::D9::zS::vF::vH::Pn) Po<|gX fun F p0 p1 p2 p3 p4 p5 p6 p7 p8 p9 ak=>by
 have:=ai p8
 have:=@bJ F D1 (.int 1)
 have:=fun ha=>@vp F _ (.ar .add .i64 D1 (.int 1)) _ _ p9 _ rfl (uK ha).1
 simp only[aa]at *;grind
def anU:=fb (D2::Hh::Hi::D8::Pk::zS::Pn) Po<|dP fun F p0 p1 p2 p3 p4 p5 p6 p7 p8=>by
 have:=ai p6
 have:=@bJ F D1 (.int 1)
 have:=fun ha=>@vp F _ (.ar .add .i64 D1 (.int 1)) _ _ p7 _ rfl (uJ ha).1
 simp only[aa]at *;grind
def anV:=fb (vJ::vK::(.not zX)::Pp::Pr) ov<|dP fun F p0 p1 p2 p3 p4 p5 p6 p7 p8=>by
 have:=fun ha=>@vq F _ _ _ _ (fn 1 (pr (fn 1 (pr D0 _)) (fn 6 (pr (fn 8 (pr bM _)) _)))) rfl rfl (uJ ha).2
 simp only[aa,ae]at *
 obtain⟨a,b,c⟩:=ab ((1)-(E.I F (fn 1 (pr D0 (.int 34)))))
 grind
def anW:=fb (vJ::vK::(.not zX)::Pp::Ps) Hk<|dP fun F p0 p1 p2 p3 p4 p5 p6 p7 p8=>by
 have:=fun ha=>@vq F _ _ _ _ (fn 1 (pr (fn 1 (pr D0 _)) (fn 6 (pr (fn 8 (pr bM _)) _)))) rfl rfl (uJ ha).2
 simp only[aa,ae]at *
 obtain⟨a,b,c⟩:=ab ((1)-(E.I F (fn 1 (pr D0 (.int 34)))))
 grind
def anX:=fb (vJ::vK::zX::Pt::Pr) ov<|dP fun F p0 p1 p2 p3 p4 p5 p6 p7 p8=>by
 have:=fun ha=>@vq F _ _ _ _ (fn 1 (pr (fn 1 (pr D0 _)) (fn 6 (pr (fn 8 (pr bM _)) _)))) rfl rfl (uK ha).2
 simp only[aa,ae]at *
 obtain⟨a,b,c⟩:=ab ((1)-(E.I F (fn 1 (pr D0 (.int 34)))))
 grind
def anY:=fb (vJ::vK::zX::Pt::Ps) Hk<|dP fun F p0 p1 p2 p3 p4 p5 p6 p7 p8=>by
 have:=fun ha=>@vq F _ _ _ _ (fn 1 (pr (fn 1 (pr D0 _)) (fn 6 (pr (fn 8 (pr bM _)) _)))) rfl rfl (uK ha).2
 simp only[aa,ae]at *
 obtain⟨a,b,c⟩:=ab ((1)-(E.I F (fn 1 (pr D0 (.int 34)))))
 grind
def anZ:=fb (vJ::(.not vK)::Hj) ov<|bL fun F p0 p1 p2 p3 p4 p5=>by
 have:=fun ha=>@vq F _ _ _ _ (fn 1 (pr (fn 1 (pr D0 _)) (fn 6 (pr (fn 8 (pr bM _)) _)))) rfl rfl (uJ ha).2
 have:=fun ha=>@vq F _ _ _ _ (fn 1 (pr (fn 1 (pr D0 _)) (fn 6 (pr (fn 8 (pr bM _)) _)))) rfl rfl (uK ha).2
 simp only[aa]at *;grind
def an0:=fa ((fn 128 (pr D0 (pr bM (.int 0)))))<|fun F=>by
 rfl
def an1:=fb [oA,pW] (cmp .lss eP (fn 9 (pr (fn 1 (pr D0 (.int 32))) (.int 2))))<|am fun F p0 p1=>by
 simp only[aa]at *;omega
def an2:=fb zY Px<|aJ fun F p0 p1 p2 p3 p4=>by
 have:=ai p0
 simp only[aa,ae]at *
 obtain⟨a,b,c⟩:=ab (E.I F bM+1)
 omega
def an3:=fb (oA::(.not Hl)::Py::zZ::Hm) ov<|cH fun F p0 p1 p2 p3 p4 p5 p6=>by
 have:=@Og F _ _ (fn 6 (pr eP (.int 1))) _ p3 _ _ _ _ rfl rfl rfl rfl
 simp only[aa]at *;grind
def an4:=fb Pz (.not (cmp .lss (.ar .add .i64 eP (.int 1)) (.int 0)))<|aJ fun F p0 p1 p2 p3 p4=>by
 have:=ai p0
 simp only[aa,ae]at *
 obtain⟨a,b,c⟩:=ab (E.I F eP+1)
 omega
def an5:=fb (oA::Hl::zZ::Hm) ov<|bL fun F p0 p1 p2 p3 p4 p5=>by
 have:=@Og F _ _ (fn 6 (pr eP (.int 1))) _ p2 _ _ _ _ rfl rfl rfl rfl
 simp only[aa]at *;grind
def an6:=fb zY (.not (cmp .lss (fn 9 (pr (fn 1 (pr D0 (.int 32))) (.int 2))) (.ar .add .i64 bM (.int 1))))<|aJ fun F p0 p1 p2 p3 p4=>by
 simp only[aa,ae]at *
 obtain⟨a,b,c⟩:=ab (E.I F bM+1)
 omega
def an7:=fb [oA,sx] (.not (cmp .lss bM (.ar .add .i64 eP (.int 1))))<|am fun F p0 p1=>by
 simp only[aa,ae]at *
 obtain⟨a,b,c⟩:=ab (E.I F eP+1)
 omega
def an8:=fb (Pv::zZ::Hk::Pw::sx::Pm::pW::pX::cF) (fn 127 (pr D0 (.ar .add .i64 bM (.int 1))))<|dP fun F p0 p1 p2 p3 p4 p5 p6 p7 p8=>by
 have:=ai p8
 have:=@bJ F bM (.int 1)
 have:=@aMt F _ _ (.ar .add .i64 bM (.int 1)) _ p5 p2 p1
 simp only[aa]at *;grind
def an9:=fb (oA::(.not Hl)::(.not Py)::zZ::sx::pW::pX::cF) (fn 128 (pr D0 (pr bM (.ar .add .i64 eP (.int 1)))))<|cR fun F p0 p1 p2 p3 p4 p5 p6 p7=>by
 have:=ai p7
 have:=@bJ F eP (.int 1)
 have:=@Og F _ _ (.ar .add .i64 eP (.int 1)) _ p3 _ _ _ _ rfl rfl rfl rfl
 simp only[aa]at *;grind
def aoa:=fb zY (cmp .lss (fn 7 (pr (fn 9 (pr (fn 1 (pr D0 (.int 32))) (.int 2))) (.ar .add .i64 bM (.int 1)))) (fn 7 (pr (fn 9 (pr (fn 1 (pr D0 (.int 32))) (.int 2))) bM)))<|aJ fun F p0 p1 p2 p3 p4=>by
 have:=ai p0
 simp only[aa,ae]at *
 obtain⟨a,b,c⟩:=ab (E.I F bM+1)
 omega
def aob:=fb Pz (cmp .lss (fn 7 (pr bM (.ar .add .i64 eP (.int 1)))) (fn 7 (pr bM eP)))<|aJ fun F p0 p1 p2 p3 p4=>by
 have:=ai p0
 simp only[aa,ae]at *
 obtain⟨a,b,c⟩:=ab (E.I F eP+1)
 omega
def aoc:=fb zY (.not (cmp .lss (fn 7 (pr (fn 9 (pr (fn 1 (pr D0 (.int 32))) (.int 2))) (.ar .add .i64 bM (.int 1)))) (.int 0)))<|aJ fun F p0 p1 p2 p3 p4=>by
 simp only[aa,ae]at *
 obtain⟨a,b,c⟩:=ab (E.I F bM+1)
 omega
def aod:=fb [oA,sx] (.not (cmp .lss (fn 7 (pr bM (.ar .add .i64 eP (.int 1)))) (.int 0)))<|am fun F p0 p1=>by
 simp only[aa,ae]at *
 obtain⟨a,b,c⟩:=ab (E.I F eP+1)
 omega
def dE:List Fa:=[PN,PP,anM,PV,PW,anN,anO,PO,anP,anQ,anR,PQ,PM,anS,anT,anU,PR,anV,anW,anX,anY,anZ,PS,an0,an1,an2,an3,an4,an5,an6,an7,an8,an9,aoa,aob,aoc,aod]
theorem aKV:aL Tryz.prog (bh (aKd)):=sc dE (aE5) adP ([]) (by kernel_rfl) (by kernel_rfl)
def adQ:Nl:=nc aKV adP
def aoe:=fb ((cmp .lss (.int 200) (fn 9 (pr (fn 1 (pr D0 (.int 30))) (.int 5))))::cF) ci<|am fun F p0 p1=>by
 have:=ai p1
 simp only[aa]at *;grind
def aof:=fb ((cmp .lss (.int 200) (fn 9 (pr (fn 1 (pr D0 (.int 29))) (.int 5))))::cF) ci<|am fun F p0 p1=>by
 have:=ai p1
 simp only[aa]at *;grind
def aog:=fb ((cmp .lss (.int 500) (fn 9 (pr (fn 1 (pr D0 (.int 0))) (.int 12))))::cF) ci<|am fun F p0 p1=>by
 have:=ai p1
 simp only[aa]at *;grind
def aoh:=fb [Hn] ci<|ah fun F p0=>by
 have:=@cq F D0
 simp only[aa]at *;grind
def aoi:=fb [Ho] ci<|ah fun F p0=>by
 have:=@cq F D0
 simp only[aa]at *;grind
def aoj:=fb [Hp] ci<|ah fun F p0=>by
 have:=@cq F D0
 simp only[aa]at *;grind
def aok:=fb [Hq] ci<|ah fun F p0=>by
 have:=@cq F D0
 simp only[aa]at *;grind
def aol:=fb [Hr] ci<|ah fun F p0=>by
 have:=@cq F D0
 simp only[aa]at *;grind
def aom:=fb [Hs] ci<|ah fun F p0=>by
 have:=@cq F D0
 simp only[aa]at *;grind
def aon:=fb [Ht] ci<|ah fun F p0=>by
 have:=@cq F D0
 simp only[aa]at *;grind
def aoo:=fb [Hu] ci<|ah fun F p0=>by
 have:=@cq F D0
 simp only[aa]at *;grind
def aop:=fb [OU] ci<|ah fun F p0=>by
 have:=@cq F D0
 simp only[aa]at *;grind
def aoq:=fb [O5] ci<|ah fun F p0=>by
 have:=@cq F D0
 simp only[aa]at *;grind
def aor:=fa ((fn 103 (pr (fn 1 (pr D0 (.int 29))) (pr ou (.int 0)))))<|fun F=>by
 rfl
def aos:=fb (z8::PA::(.not vI)::(.not Hn)::(.not Ho)::(.not Hp)::(.not Hq)::(.not Hr)::(.not Hs)::(.not Ht)::(.not Hu)::vF::vH::D3::zW) ci<|yp fun F p0 p1 p2 p3 p4 p5 p6 p7 p8 p9 ak ao ap az aC=>by
 have:=@cq F D0
 have:=fun h0 h1=>@Gi F _ _ (fn 9 (pr (fn 1 (pr D0 (.int 29))) (.int 5))) _ h0 h1 (fn _ (pr (fn 1 _) (pr (fn 1 _) (pr (fn 1 _) (pr (fn 1 _) (pr (fn 1 (pr (fn 1 (pr D0 (.int 29))) (fn 6 (pr (fn 8 (pr D1 _)) _)))) ou)))))) rfl
 simp only[aa]at *;grind
def aot:=fb Aa (.not (cmp .lss (.ar .add .i64 D1 (.int 1)) (.int 0)))<|aj fun F p0 p1 p2=>by
 have:=ai p0
 simp only[aa,ae]at *
 obtain⟨a,b,c⟩:=ab (E.I F D1+1)
 omega
def sy:=fb cF (.not (cmp .lss (.int 20) (fn 9 (pr (fn 1 (pr D0 (.int 30))) (.int 5)))))<|ah fun F p0=>by
 have:=ai p0
 simp only[aa]at *;omega
def aou:=fb Aa (.not (cmp .lss (fn 9 (pr (fn 1 (pr D0 (.int 29))) (.int 5))) (.ar .add .i64 D1 (.int 1))))<|aj fun F p0 p1 p2=>by
 simp only[aa,ae]at *
 obtain⟨a,b,c⟩:=ab (E.I F D1+1)
 omega
def aov:=fb [(.not z8),PB] Ab<|am fun F p0 p1=>by
 have:=fun h1=>@Gh F _ _ (fn 9 (pr (fn 1 (pr D0 (.int 29))) (.int 5))) _ p1 h1
 simp only[aa]at *;grind
def aow:=fb (z8::PA::vI::D3::PB::zW) (fn 103 (pr (fn 1 (pr D0 (.int 29))) (pr ou (.ar .add .i64 D1 (.int 1)))))<|bL fun F p0 p1 p2 p3 p4 p5=>by
 have:=ai p3
 have:=@bJ F D1 (.int 1)
 have:=fun h0 hm=>@Gj F _ _ (.ar .add .i64 D1 (.int 1)) _ p4 h0 hm (fn _ (pr (fn 1 _) (pr (fn 1 _) (pr (fn 1 _) (pr (fn 1 _) (pr (fn 1 _) _)))))) rfl
 simp only[aa]at *;grind
def aox:=fa ((fn 103 (pr (fn 1 (pr D0 (.int 30))) (pr su (.int 0)))))<|fun F=>by
 rfl
def aoy:=fb Aa (cmp .lss (fn 7 (pr (fn 9 (pr (fn 1 (pr D0 (.int 29))) (.int 5))) (.ar .add .i64 D1 (.int 1)))) (fn 7 (pr (fn 9 (pr (fn 1 (pr D0 (.int 29))) (.int 5))) D1)))<|aj fun F p0 p1 p2=>by
 have:=ai p0
 simp only[aa,ae]at *
 obtain⟨a,b,c⟩:=ab (E.I F D1+1)
 omega
def aoz:=fb (vM::PC::(.not oz)::pX::Ab::cF) ci<|bL fun F p0 p1 p2 p3 p4 p5=>by
 have:=@cq F D0
 have:=fun h0 h1=>@Gi F _ _ (fn 9 (pr (fn 1 (pr D0 (.int 30))) (.int 5))) _ h0 h1 (fn _ (pr (fn 1 _) (pr (fn 1 _) (pr (fn 1 _) (pr (fn 1 _) (pr (fn 1 (pr (fn 1 (pr D0 (.int 30))) (fn 6 (pr (fn 8 (pr bM _)) _)))) su)))))) rfl
 simp only[aa]at *;grind
def aoA:=fb (D3::zT) Px<|aj fun F p0 p1 p2=>by
 have:=ai p0
 simp only[aa,ae]at *
 obtain⟨a,b,c⟩:=ab (E.I F bM+1)
 omega
def aoB:=fb (OP::cF) ci<|am fun F p0 p1=>by
 have:=@cq F D0
 simp only[aa]at *;grind
def aoC:=fb (dL::OQ::cF) ci<|aj fun F p0 p1 p2=>by
 have:=@cq F D0
 simp only[aa]at *;grind
def aoD:=fb (dL::dS::OR::cF) ci<|aw fun F p0 p1 p2 p3=>by
 have:=@cq F D0
 simp only[aa]at *;grind
def aoE:=fb (dL::dS::d9::OS::cF) ci<|aJ fun F p0 p1 p2 p3 p4=>by
 have:=@cq F D0
 simp only[aa]at *;grind
def aoF:=fb (OT::cF) ci<|am fun F p0 p1=>by
 have:=@cq F D0
 simp only[aa]at *;grind
def aoG:=fb (eN::OV::cF) ci<|aj fun F p0 p1 p2=>by
 have:=@cq F D0
 simp only[aa]at *;grind
def aoH:=fb (dL::dS::d9::eO::eN::eY::OW::cF) ci<|cR fun F p0 p1 p2 p3 p4 p5 p6 p7=>by
 have:=@cq F D0
 simp only[aa]at *;grind
def aoI:=fb (dL::dS::d9::eO::eN::eY::fo::OX::cF) ci<|dP fun F p0 p1 p2 p3 p4 p5 p6 p7 p8=>by
 have:=@cq F D0
 simp only[aa]at *;grind
def aoJ:=fb (dL::dS::d9::eO::eN::eY::fo::fI::OY::cF) ci<|eT fun F p0 p1 p2 p3 p4 p5 p6 p7 p8 p9=>by
 have:=@cq F D0
 simp only[aa]at *;grind
def aoK:=fb (dL::dS::d9::eO::eN::eY::fo::fI::fY::OZ::cF) ci<|gX fun F p0 p1 p2 p3 p4 p5 p6 p7 p8 p9 ak=>by
 have:=@cq F D0
 simp only[aa]at *;grind
def aoL:=fb (dL::dS::d9::eO::eN::eY::fo::fI::fY::iL::O0::cF) ci<|jE fun F p0 p1 p2 p3 p4 p5 p6 p7 p8 p9 ak ao=>by
 have:=@cq F D0
 simp only[aa]at *;grind
def aoM:=fb (dL::dS::d9::eO::eN::eY::fo::fI::fY::iL::jR::O1::cF) ci<|gx fun F p0 p1 p2 p3 p4 p5 p6 p7 p8 p9 ak ao ap=>by
 have:=@cq F D0
 simp only[aa]at *;grind
def aoN:=fb (dL::dS::d9::eO::eN::eY::fo::fI::fY::iL::jR::mu::O2::cF) ci<|lP fun F p0 p1 p2 p3 p4 p5 p6 p7 p8 p9 ak ao ap az=>by
 have:=@cq F D0
 simp only[aa]at *;grind
def aoO:=fb (dL::dS::d9::eO::eN::eY::fo::fI::fY::O3::cF) ci<|gX fun F p0 p1 p2 p3 p4 p5 p6 p7 p8 p9 ak=>by
 have:=@cq F D0
 simp only[aa]at *;grind
def aoP:=fb (dL::dS::d9::eO::eN::eY::fo::fI::fY::pU::O4::cF) ci<|jE fun F p0 p1 p2 p3 p4 p5 p6 p7 p8 p9 ak ao=>by
 have:=@cq F D0
 simp only[aa]at *;grind
def aoQ:=fb (dL::dS::d9::eO::eN::eY::fo::fI::fY::iL::jR::mu::pV::pU::ss::O6::cF) ci<|yq fun F p0 p1 p2 p3 p4 p5 p6 p7 p8 p9 ak ao ap az aC aD aR=>by
 have:=@cq F D0
 simp only[aa]at *;grind
def aoR:=fb (dL::dS::d9::eO::eN::eY::fo::fI::fY::iL::jR::mu::pV::pU::ss::vG::O7::cF) ci<|tW fun F p0 p1 p2 p3 p4 p5 p6 p7 p8 p9 ak ao ap az aC aD aR aZ=>by
 have:=@cq F D0
 simp only[aa]at *;grind
def aoS:=fb (dL::dS::d9::eO::eN::eY::fo::fI::fY::iL::jR::mu::pV::pU::ss::vG::zU::zV::cF) ci<|tX fun F p0 p1 p2 p3 p4 p5 p6 p7 p8 p9 ak ao ap az aC aD aR aZ bl=>by
 have:=@cq F D0
 simp only[aa]at *;grind
def aoT:=fb ((.not vM)::dL::dS::d9::eO::eN::eY::fo::fI::fY::iL::jR::mu::pV::pU::ss::vG::zU::(.not zV)::O8::oz::(.iff vL Hg)::(.not O9)::(.not Pa)::(.not Pb)::(.not Pc)::(.not Pd)::(.not Pe)::(.not Pf)::(.not Pg)::(.not Ph)::(.not Pi)::He::Ab::(.not Hn)::(.not Ho)::(.not Hp)::(.not Hq)::(.not Hr)::(.not Hs)::(.not Ht)::(.not Hu)::vF::vH::cF) (.iff vL (fn 130 D0))<|aHz fun F p0 p1 p2 p3 p4 p5 p6 p7 p8 p9 ak ao ap az aC aD aR aZ bl bE bO bZ ch cp cN dd dE d5 eK fD gG jb iE lV lW rM rN rO rP rQ rR rS rU rV pA=>by
 have:=ai pA
 have:=@cq F D0
 have:=fun h1=>@Gh F _ _ (fn 9 (pr (fn 1 (pr D0 (.int 30))) (.int 5))) _ iE h1
 simp only[aa]at *;grind
def aoU:=fb ((.not vM)::dL::dS::d9::eO::eN::eY::fo::fI::fY::iL::jR::mu::pV::pU::ss::vG::zU::(.not zV)::O8::(.not oz)::He::Ab::cF) ci<|LI fun F p0 p1 p2 p3 p4 p5 p6 p7 p8 p9 ak ao ap az aC aD aR aZ bl bE bO bZ ch cp=>by
 have:=@cq F D0
 simp_all
def aoV:=fb (dL::dS::d9::eO::eN::eY::fo::fI::fY::iL::jR::mu::pV::pU::ss::vG::zU::(.not zV)::Pi::cF) ci<|Ea fun F p0 p1 p2 p3 p4 p5 p6 p7 p8 p9 ak ao ap az aC aD aR aZ bl bE=>by
 have:=@cq F D0
 simp only[aa]at *;grind
def aoW:=fb (dL::dS::d9::eO::eN::eY::fo::fI::fY::iL::jR::mu::pV::Ph::cF) ci<|yp fun F p0 p1 p2 p3 p4 p5 p6 p7 p8 p9 ak ao ap az aC=>by
 have:=@cq F D0
 simp only[aa]at *;grind
def aoX:=fb (dL::dS::d9::eO::eN::eY::fo::fI::fY::iL::jR::mu::Pg::cF) ci<|lP fun F p0 p1 p2 p3 p4 p5 p6 p7 p8 p9 ak ao ap az=>by
 have:=@cq F D0
 simp only[aa]at *;grind
def aoY:=fb (dL::dS::d9::eO::eN::eY::fo::fI::fY::iL::jR::Pf::cF) ci<|gx fun F p0 p1 p2 p3 p4 p5 p6 p7 p8 p9 ak ao ap=>by
 have:=@cq F D0
 simp only[aa]at *;grind
def aoZ:=fb (dL::dS::d9::eO::eN::eY::fo::fI::fY::iL::Pe::cF) ci<|jE fun F p0 p1 p2 p3 p4 p5 p6 p7 p8 p9 ak ao=>by
 have:=@cq F D0
 simp only[aa]at *;grind
def ao0:=fb (dL::dS::d9::eO::eN::eY::fo::fI::fY::Pd::cF) ci<|gX fun F p0 p1 p2 p3 p4 p5 p6 p7 p8 p9 ak=>by
 have:=@cq F D0
 simp only[aa]at *;grind
def ao1:=fb (dL::dS::d9::eO::Pc::cF) ci<|bL fun F p0 p1 p2 p3 p4 p5=>by
 have:=@cq F D0
 simp only[aa]at *;grind
def ao2:=fb (dL::dS::d9::Pb::cF) ci<|aJ fun F p0 p1 p2 p3 p4=>by
 have:=@cq F D0
 simp only[aa]at *;grind
def ao3:=fb Aa (.not (cmp .lss (fn 7 (pr (fn 9 (pr (fn 1 (pr D0 (.int 29))) (.int 5))) (.ar .add .i64 D1 (.int 1)))) (.int 0)))<|aj fun F p0 p1 p2=>by
 simp only[aa,ae]at *
 obtain⟨a,b,c⟩:=ab (E.I F D1+1)
 omega
def P6:=fb zT (.not (cmp .lss (fn 9 (pr (fn 1 (pr D0 (.int 30))) (.int 5))) (.ar .add .i64 bM (.int 1))))<|am fun F p0 p1=>by
 simp only[aa,ae]at *
 obtain⟨a,b,c⟩:=ab (E.I F bM+1)
 omega
def ao4:=fb (dL::dS::Pa::cF) ci<|aw fun F p0 p1 p2 p3=>by
 have:=@cq F D0
 simp only[aa]at *;grind
def ao5:=fb (dL::O9::cF) ci<|aj fun F p0 p1 p2=>by
 have:=@cq F D0
 simp only[aa]at *;grind
def ao6:=fb (vM::PC::oz::He::pX::cF) (fn 103 (pr (fn 1 (pr D0 (.int 30))) (pr su (.ar .add .i64 bM (.int 1)))))<|bL fun F p0 p1 p2 p3 p4 p5=>by
 have:=ai p5
 have:=@bJ F bM (.int 1)
 have:=fun h0 hm=>@Gj F _ _ (.ar .add .i64 bM (.int 1)) _ p3 h0 hm (fn _ (pr (fn 1 _) (pr (fn 1 _) (pr (fn 1 _) (pr (fn 1 _) (pr (fn 1 _) _)))))) rfl
 simp only[aa]at *;grind
def ao7:=fb (D3::zT) (cmp .lss (fn 7 (pr (fn 9 (pr (fn 1 (pr D0 (.int 30))) (.int 5))) (.ar .add .i64 bM (.int 1)))) (fn 7 (pr (fn 9 (pr (fn 1 (pr D0 (.int 30))) (.int 5))) bM)))<|aj fun F p0 p1 p2=>by
 have:=ai p0
 simp only[aa,ae]at *
 obtain⟨a,b,c⟩:=ab (E.I F bM+1)
 omega
def P7:=fb zT (.not (cmp .lss (fn 7 (pr (fn 9 (pr (fn 1 (pr D0 (.int 30))) (.int 5))) (.ar .add .i64 bM (.int 1)))) (.int 0)))<|am fun F p0 p1=>by
 simp only[aa,ae]at *
 obtain⟨a,b,c⟩:=ab (E.I F bM+1)
 omega
def d5:List Fa:=[aoe,mw,aof,aog,aoh,aoi,aoj,aok,aol,aom,aon,aoo,aop,aoq,aor,aos,aot,sy,aou,aov,aow,aox,aoy,aoz,aoA,aoB,aoC,aoD,aoE,aoF,aoG,aoH,aoI,aoJ,aoK,aoL,aoM,aoN,aoO,aoP,aoQ,aoR,aoS,aoT,aoU,aoV,aoW,aoX,aoY,aoZ,ao0,ao1,ao2,ao3,P6,ao4,ao5,ao6,ao7,P7]
theorem aKW:aL Tryz.prog (bh (aJT)):=sc d5 (aER) adQ ([]) (by kernel_rfl) (by kernel_rfl)
def adR:Nl:=nc aKW adQ
end
end Go.Proofs.YtnggbcblogpnfaaGreat.combatBlocks
