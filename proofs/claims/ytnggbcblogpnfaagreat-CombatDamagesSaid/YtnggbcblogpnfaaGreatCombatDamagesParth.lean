/-
  CombatDamages: contracts of functions, part 8.
-/
import Derived.Test.YtnggbcblogpnfaaGreatCombatDamagesPartg
namespace Go.Proofs.YtnggbcblogpnfaaGreat.combatDamages
open Go.ChangeShapes Go.WideShapes Go.ChangeAt Go.RowKit
open Go.SX
open Go.SX.E (fn pr cmp var)
set_option linter.unusedVariables false
set_option linter.unusedSimpArgs false
set_option maxRecDepth 100000
noncomputable section
abbrev D0:E:=var 0
abbrev D1:E:=var 8
abbrev D2:E:=cmp .lss D1 (fn 0 (fn 1 (pr D0 (.int 31))))
abbrev D3:E:=fn 117 D0
abbrev D4:E:=pr D0 D1
abbrev D5:E:=fn 126 D4
abbrev D6:E:=pr D0 (fn 0 (fn 1 (pr D0 (.int 31))))
abbrev D7:E:=fn 126 D6
abbrev D8:E:=cmp .eql (fn 1 (pr D0 (.int 34))) (.int 0)
abbrev D9:E:=cmp .eql (var 10) (fn 121 (pr (fn 1 (pr D0 (.int 22))) (fn 1 (pr (fn 1 (pr D0 (.int 31))) D1))))
abbrev Aw:E:=cmp .eql (var 10) (.int 1)
abbrev Ox:E:=cmp .lss (.int 1) (fn 1 (pr D0 (.int 34)))
abbrev wx:E:=.not Ox
abbrev OI:E:=cmp .lss (fn 1 (pr D0 (.int 34))) (.int 0)
abbrev wz:E:=.not OI
abbrev D15:E:=cmp .lss D1 (.int 0)
abbrev D16:E:=.not D15
abbrev AA:=[D16]
abbrev GU:=D5::AA
abbrev D19:=wz::GU
abbrev OW:=wx::D19
abbrev pa:E:=.bool false
abbrev GV:E:=fn 129 D0
abbrev pb:E:=.iff pa GV
abbrev OX:E:=cmp .eql (var 10) (fn 121 (pr (fn 1 (pr D0 (.int 8))) (fn 1 (pr (fn 1 (pr D0 (.int 31))) D1))))
abbrev wA:E:=var 9
abbrev GW:E:=cmp .eql wA (fn 121 (pr (fn 1 (pr D0 (.int 31))) (fn 1 (pr (fn 1 (pr D0 (.int 31))) D1))))
abbrev GX:E:=cmp .eql wA (.int 1)
abbrev bN:E:=var 16
abbrev qL:E:=cmp .lss bN (fn 9 (pr (fn 1 (pr D0 (.int 32))) (.int 2)))
abbrev OY:E:=pr D0 bN
abbrev OZ:E:=fn 127 OY
abbrev tz:E:=.bool true
abbrev O0:=D3::GU
abbrev D34:E:=pr D0 (.ar .add .i64 D1 (.int 1))
abbrev O1:E:=fn 126 D34
abbrev pd:E:=var 17
abbrev wB:E:=cmp .eql pd (fn 121 (pr (fn 1 (pr D0 (.int 31))) (fn 1 (pr (fn 1 (pr D0 (.int 32))) (fn 6 (pr (fn 8 (pr bN (.int 2))) (.int 1)))))))
abbrev wC:E:=cmp .eql pd (.int 1)
abbrev AB:E:=cmp .eql (.ar .sub .i64 (.int 1) (fn 1 (pr D0 (.int 34)))) (.int 0)
abbrev wD:E:=var 18
abbrev O2:E:=cmp .eql wD (fn 121 (pr (fn 1 (pr D0 (.int 22))) (fn 1 (pr (fn 1 (pr D0 (.int 32))) (fn 6 (pr (fn 8 (pr bN (.int 2))) (.int 0)))))))
abbrev O3:E:=cmp .eql wD (.int 1)
abbrev qM:E:=.not (cmp .lss bN (.int 0))
abbrev D44:=[wx,wz]
abbrev D45:=qM::D44
abbrev GY:=qL::D45
abbrev O4:List E:=(.not O3)::GY
abbrev O5:=O3::GY
abbrev GZ:E:=fn 136 OY
abbrev O6:E:=cmp .eql wD (fn 121 (pr (fn 1 (pr D0 (.int 8))) (fn 1 (pr (fn 1 (pr D0 (.int 32))) (fn 6 (pr (fn 8 (pr bN (.int 2))) (.int 0)))))))
abbrev fT:E:=var 24
abbrev pe:E:=cmp .lss fT bN
abbrev O7:E:=.not pe
abbrev D54:E:=cmp .lss bN fT
abbrev O8:E:=.not D54
abbrev tA:E:=.not (cmp .lss fT (.int 0))
abbrev D57:=[tA,qL]
abbrev D58:=O8::D57
abbrev D59:=O7::D58
abbrev AC:=D3::D59
abbrev D61:E:=cmp .lss (.ar .add .i64 bN (.int 1)) (.int 0)
abbrev O9:E:=.not D61
abbrev Ha:E:=cmp .eql (fn 1 (pr (fn 1 (pr D0 (.int 32))) (fn 6 (pr (fn 8 (pr fT (.int 2))) (.int 1))))) (fn 1 (pr (fn 1 (pr D0 (.int 32))) (fn 6 (pr (fn 8 (pr bN (.int 2))) (.int 1)))))
abbrev Pa:E:=cmp .eql (fn 1 (pr (fn 1 (pr D0 (.int 32))) (fn 6 (pr (fn 8 (pr fT (.int 2))) (.int 0))))) (fn 1 (pr (fn 1 (pr D0 (.int 32))) (fn 6 (pr (fn 8 (pr bN (.int 2))) (.int 0)))))
abbrev AD:E:=fn 128 (pr D0 (pr bN fT))
abbrev D66:=[qL,qM]
abbrev Hb:=tA::D66
abbrev Pb:=D3::pe::Hb
abbrev c9:=[D3]
abbrev cC:E:=.iff pa (fn 130 D0)
abbrev Hc:E:=cmp .lss (.int 2) (fn 1 (pr D0 (.int 37)))
abbrev Hd:E:=cmp .lss (fn 1 (pr D0 (.int 37))) (.int 0)
abbrev He:E:=cmp .lss (.int 1) (fn 1 (pr D0 (.int 36)))
abbrev Hf:E:=cmp .lss (fn 1 (pr D0 (.int 36))) (.int (-1))
abbrev Hg:E:=cmp .lss (.int 10) (fn 1 (pr D0 (.int 35)))
abbrev Hh:E:=cmp .lss (fn 1 (pr D0 (.int 35))) (.int 0)
abbrev Hi:E:=cmp .lss (.int 1000) (fn 1 (pr D0 (.int 33)))
abbrev Hj:E:=cmp .lss (fn 1 (pr D0 (.int 33))) (.int 0)
abbrev AE:E:=cmp .lss D1 (fn 9 (pr (fn 1 (pr D0 (.int 29))) (.int 5)))
abbrev D80:E:=pr (fn 1 (pr (fn 1 (pr D0 (.int 29))) (fn 6 (pr (fn 8 (pr D1 (.int 5))) (.int 4))))) pa
abbrev D81:E:=pr (fn 1 (pr (fn 1 (pr D0 (.int 29))) (fn 6 (pr (fn 8 (pr D1 (.int 5))) (.int 3))))) D80
abbrev D82:E:=pr (fn 1 (pr (fn 1 (pr D0 (.int 29))) (fn 6 (pr (fn 8 (pr D1 (.int 5))) (.int 2))))) D81
abbrev D83:E:=pr (fn 1 (pr (fn 1 (pr D0 (.int 29))) (fn 6 (pr (fn 8 (pr D1 (.int 5))) (.int 1))))) D82
abbrev D84:E:=pr (fn 1 (pr (fn 1 (pr D0 (.int 29))) (fn 6 (pr (fn 8 (pr D1 (.int 5))) (.int 0))))) D83
abbrev D85:E:=fn 102 D84
abbrev Pc:E:=.iff wA D85
abbrev D87:=AE::AA
abbrev AF:=D3::D87
abbrev D89:E:=pr (fn 1 (pr D0 (.int 29))) (pr pa D1)
abbrev Pd:E:=fn 103 D89
abbrev AG:E:=fn 103 (pr (fn 1 (pr D0 (.int 29))) (pr pa (fn 9 (pr (fn 1 (pr D0 (.int 29))) (.int 5)))))
abbrev wE:E:=cmp .lss bN (fn 9 (pr (fn 1 (pr D0 (.int 30))) (.int 5)))
abbrev D93:E:=pr (fn 1 (pr (fn 1 (pr D0 (.int 30))) (fn 6 (pr (fn 8 (pr bN (.int 5))) (.int 4))))) tz
abbrev D94:E:=pr (fn 1 (pr (fn 1 (pr D0 (.int 30))) (fn 6 (pr (fn 8 (pr bN (.int 5))) (.int 3))))) D93
abbrev D95:E:=pr (fn 1 (pr (fn 1 (pr D0 (.int 30))) (fn 6 (pr (fn 8 (pr bN (.int 5))) (.int 2))))) D94
abbrev D96:E:=pr (fn 1 (pr (fn 1 (pr D0 (.int 30))) (fn 6 (pr (fn 8 (pr bN (.int 5))) (.int 1))))) D95
abbrev D97:E:=pr (fn 1 (pr (fn 1 (pr D0 (.int 30))) (fn 6 (pr (fn 8 (pr bN (.int 5))) (.int 0))))) D96
abbrev D98:E:=fn 102 D97
abbrev Pe:E:=.iff pd D98
abbrev Ax:=[wE,qM]
abbrev Oq:E:=cmp .lss (fn 1 (pr D0 (.int 2))) (.int 0)
abbrev eF:E:=.not Oq
abbrev Ot:E:=cmp .lss (fn 1 (pr D0 (.int 3))) (.int 0)
abbrev eP:E:=.not Ot
abbrev Ou:E:=cmp .lss (fn 1 (pr D0 (.int 4))) (.int 0)
abbrev fx:E:=.not Ou
abbrev Ov:E:=cmp .lss (fn 1 (pr D0 (.int 5))) (.int 0)
abbrev Ow:E:=cmp .lss (fn 1 (pr D0 (.int 1))) (.int 0)
abbrev fR:E:=.not Ow
abbrev Oy:E:=cmp .lss (.int 9999) (fn 1 (pr D0 (.int 1)))
abbrev fS:E:=.not Ov
abbrev gb:E:=.not Oy
abbrev Oz:E:=cmp .lss (fn 1 (pr D0 (.int 13))) (.int 0)
abbrev gj:E:=.not Oz
abbrev OA:E:=cmp .lss (.int 7) (fn 1 (pr D0 (.int 13)))
abbrev gy:E:=.not OA
abbrev OB:E:=cmp .lss (fn 1 (pr D0 (.int 14))) (.int 0)
abbrev gR:E:=.not OB
abbrev OC:E:=cmp .lss (fn 1 (pr D0 (.int 16))) (.int 0)
abbrev ju:E:=.not OC
abbrev OD:E:=cmp .lss (fn 1 (pr D0 (.int 17))) (.int 0)
abbrev k8:E:=.not OD
abbrev OE:E:=cmp .lss (fn 1 (pr D0 (.int 18))) (.int 0)
abbrev nw:E:=.not OE
abbrev OF:E:=cmp .lss (fn 1 (pr D0 (.int 19))) (.int 0)
abbrev OG:E:=cmp .lss (fn 1 (pr D0 (.int 15))) (.int 0)
abbrev qJ:E:=.not OG
abbrev OH:E:=cmp .lss (.int 9999) (fn 1 (pr D0 (.int 15)))
abbrev qK:E:=.not OF
abbrev tx:E:=.not OH
abbrev OJ:E:=cmp .lss (fn 1 (pr D0 (.int 27))) (.int 0)
abbrev wy:E:=.not OJ
abbrev OK:E:=cmp .lss (.int 7) (fn 1 (pr D0 (.int 27)))
abbrev Ay:E:=.not OK
abbrev Az:E:=cmp .lss (fn 1 (pr D0 (.int 28))) (.int 0)
abbrev OL:E:=.iff pd (fn 125 D0)
abbrev OM:E:=cmp .lss (.int 99) (fn 1 (pr D0 (.int 2)))
abbrev ON:E:=cmp .lss (.int 99) (fn 1 (pr D0 (.int 3)))
abbrev OO:E:=cmp .lss (.int 99) (fn 1 (pr D0 (.int 4)))
abbrev OP:E:=cmp .lss (.int 99) (fn 1 (pr D0 (.int 5)))
abbrev OQ:E:=cmp .lss (.int 255) (fn 1 (pr D0 (.int 14)))
abbrev OR:E:=cmp .lss (.int 99) (fn 1 (pr D0 (.int 16)))
abbrev OS:E:=cmp .lss (.int 99) (fn 1 (pr D0 (.int 17)))
abbrev OT:E:=cmp .lss (.int 99) (fn 1 (pr D0 (.int 18)))
abbrev OU:E:=cmp .lss (.int 99) (fn 1 (pr D0 (.int 19)))
abbrev OV:E:=cmp .lss (.int 255) (fn 1 (pr D0 (.int 28)))
abbrev GS:E:=fn 103 (pr (fn 1 (pr D0 (.int 30))) (pr tz bN))
def ake:=fa ((fn 126 (pr D0 (.int 0))))<|fun ρ=>by
 rfl
def akf:=fb [(.not D2),D3,D5,(.not (cmp .lss (fn 0 (fn 1 (pr D0 (.int 31)))) D1))] D7<|aF fun ρ p0 p1 p2 p3=>by
 have g0:E.I ρ (fn 0 (fn 1 (pr D0 (.int 31))))=E.I ρ D1:=by
  simp only[aa]at *;omega
 grind[aIz]
def akg:=fb (D2::(.not D8)::D9::(.not Aw)::OW) pb<|dO fun ρ p0 p1 p2 p3 p4 p5 p6 p7=>by
 have:=fun ha=>@wi ρ _ (fn 6 (pr D1 (.int 1))) _ _ p6 _ rfl (vC ha).1
 simp only[aa]at *;grind
def akh:=fb (D2::D8::OX::(.not Aw)::GU) pb<|cz fun ρ p0 p1 p2 p3 p4 p5=>by
 have:=fun ha=>@wi ρ _ (fn 6 (pr D1 (.int 1))) _ _ p4 _ rfl (vB ha).1
 simp only[aa]at *;grind
def aki:=fb (D2::GW::(.not GX)::OW) pb<|eZ fun ρ p0 p1 p2 p3 p4 p5 p6=>by
 have:=fun ha=>@wi ρ _ (fn 6 (pr D1 (.int 1))) _ _ p5 _ rfl (vB ha).1
 have:=fun ha=>@wi ρ _ (fn 6 (pr D1 (.int 1))) _ _ p5 _ rfl (vC ha).1
 simp only[aa]at *;grind
def akj:=fa ((fn 127 (pr D0 (.int 0))))<|fun ρ=>by
 rfl
def akk:=fb [(.not qL),OZ,D7,(.not (cmp .lss (fn 9 (pr (fn 1 (pr D0 (.int 32))) (.int 2))) bN))] (.iff tz GV)<|aF fun ρ p0 p1 p2 p3=>by
 have:=@aJt ρ _ _ p2 p1
 simp only[aa]at *;grind
def akl:=fb (D2::GW::GX::(.not D8)::D9::Aw::wx::wz::O0) O1<|kG fun ρ p0 p1 p2 p3 p4 p5 p6 p7 p8 p9 am=>by
 have:=ao p8
 have:=@bY ρ D1 (.int 1)
 have:=fun ha=>@wi ρ _ (.ar .add .i64 D1 (.int 1)) _ _ p9 _ rfl (vC ha).1
 simp only[aa]at *;grind
def akm:=fb (D2::GW::GX::D8::OX::Aw::O0) O1<|fB fun ρ p0 p1 p2 p3 p4 p5 p6 p7 p8=>by
 have:=ao p6
 have:=@bY ρ D1 (.int 1)
 have:=fun ha=>@wi ρ _ (.ar .add .i64 D1 (.int 1)) _ _ p7 _ rfl (vB ha).1
 simp only[aa]at *;grind
def akn:=fb (wB::wC::(.not AB)::O2::O4) pb<|fB fun ρ p0 p1 p2 p3 p4 p5 p6 p7 p8=>by
 have:=fun ha=>@wj ρ _ _ _ _ (fn 1 (pr (fn 1 (pr D0 _)) (fn 6 (pr (fn 8 (pr bN _)) _)))) rfl rfl (vB ha).2
 simp only[aa,ae]at *
 obtain⟨a,b,c⟩:=ab ((1)-(E.I ρ (fn 1 (pr D0 (.int 34)))))
 grind
def ako:=fb (wB::wC::(.not AB)::O2::O5) GZ<|fB fun ρ p0 p1 p2 p3 p4 p5 p6 p7 p8=>by
 have:=fun ha=>@wj ρ _ _ _ _ (fn 1 (pr (fn 1 (pr D0 _)) (fn 6 (pr (fn 8 (pr bN _)) _)))) rfl rfl (vB ha).2
 simp only[aa,ae]at *
 obtain⟨a,b,c⟩:=ab ((1)-(E.I ρ (fn 1 (pr D0 (.int 34)))))
 grind
def akp:=fb (wB::wC::AB::O6::O4) pb<|fB fun ρ p0 p1 p2 p3 p4 p5 p6 p7 p8=>by
 have:=fun ha=>@wj ρ _ _ _ _ (fn 1 (pr (fn 1 (pr D0 _)) (fn 6 (pr (fn 8 (pr bN _)) _)))) rfl rfl (vC ha).2
 simp only[aa,ae]at *
 obtain⟨a,b,c⟩:=ab ((1)-(E.I ρ (fn 1 (pr D0 (.int 34)))))
 grind
def akq:=fb (wB::wC::AB::O6::O5) GZ<|fB fun ρ p0 p1 p2 p3 p4 p5 p6 p7 p8=>by
 have:=fun ha=>@wj ρ _ _ _ _ (fn 1 (pr (fn 1 (pr D0 _)) (fn 6 (pr (fn 8 (pr bN _)) _)))) rfl rfl (vC ha).2
 simp only[aa,ae]at *
 obtain⟨a,b,c⟩:=ab ((1)-(E.I ρ (fn 1 (pr D0 (.int 34)))))
 grind
def akr:=fb (wB::(.not wC)::GY) pb<|cz fun ρ p0 p1 p2 p3 p4 p5=>by
 have:=fun ha=>@wj ρ _ _ _ _ (fn 1 (pr (fn 1 (pr D0 _)) (fn 6 (pr (fn 8 (pr bN _)) _)))) rfl rfl (vB ha).2
 have:=fun ha=>@wj ρ _ _ _ _ (fn 1 (pr (fn 1 (pr D0 _)) (fn 6 (pr (fn 8 (pr bN _)) _)))) rfl rfl (vC ha).2
 simp only[aa]at *;grind
def aks:=fa ((fn 128 (pr D0 (pr bN (.int 0)))))<|fun ρ=>by
 rfl
def akt:=fb [pe,qL] (cmp .lss fT (fn 9 (pr (fn 1 (pr D0 (.int 32))) (.int 2))))<|au fun ρ p0 p1=>by
 simp only[aa]at *;omega
def aku:=fb AC O9<|bl fun ρ p0 p1 p2 p3 p4=>by
 have:=ao p0
 simp only[aa,ae]at *
 obtain⟨a,b,c⟩:=ab (E.I ρ bN+1)
 omega
def akv:=fb (pe::(.not Ha)::Pa::AD::Hb) pb<|eZ fun ρ p0 p1 p2 p3 p4 p5 p6=>by
 have:=@NQ ρ _ _ (fn 6 (pr fT (.int 1))) _ p3 _ _ _ _ rfl rfl rfl rfl
 simp only[aa]at *;grind
def akw:=fb Pb (.not (cmp .lss (.ar .add .i64 fT (.int 1)) (.int 0)))<|bl fun ρ p0 p1 p2 p3 p4=>by
 have:=ao p0
 simp only[aa,ae]at *
 obtain⟨a,b,c⟩:=ab (E.I ρ fT+1)
 omega
def akx:=fb (pe::Ha::AD::Hb) pb<|cz fun ρ p0 p1 p2 p3 p4 p5=>by
 have:=@NQ ρ _ _ (fn 6 (pr fT (.int 1))) _ p2 _ _ _ _ rfl rfl rfl rfl
 simp only[aa]at *;grind
def aky:=fb AC (.not (cmp .lss (fn 9 (pr (fn 1 (pr D0 (.int 32))) (.int 2))) (.ar .add .i64 bN (.int 1))))<|bl fun ρ p0 p1 p2 p3 p4=>by
 simp only[aa,ae]at *
 obtain⟨a,b,c⟩:=ab (E.I ρ bN+1)
 omega
def akz:=fb [pe,tA] (.not (cmp .lss bN (.ar .add .i64 fT (.int 1))))<|au fun ρ p0 p1=>by
 simp only[aa,ae]at *
 obtain⟨a,b,c⟩:=ab (E.I ρ fT+1)
 omega
def akA:=fb (O7::AD::GZ::O8::tA::OZ::qL::qM::c9) (fn 127 (pr D0 (.ar .add .i64 bN (.int 1))))<|fB fun ρ p0 p1 p2 p3 p4 p5 p6 p7 p8=>by
 have:=ao p8
 have:=@bY ρ bN (.int 1)
 have:=@aIA ρ _ _ (.ar .add .i64 bN (.int 1)) _ p5 p2 p1
 simp only[aa]at *;grind
def akB:=fb (pe::(.not Ha)::(.not Pa)::AD::tA::qL::qM::c9) (fn 128 (pr D0 (pr bN (.ar .add .i64 fT (.int 1)))))<|dO fun ρ p0 p1 p2 p3 p4 p5 p6 p7=>by
 have:=ao p7
 have:=@bY ρ fT (.int 1)
 have:=@NQ ρ _ _ (.ar .add .i64 fT (.int 1)) _ p3 _ _ _ _ rfl rfl rfl rfl
 simp only[aa]at *;grind
def akC:=fb AC (cmp .lss (fn 7 (pr (fn 9 (pr (fn 1 (pr D0 (.int 32))) (.int 2))) (.ar .add .i64 bN (.int 1)))) (fn 7 (pr (fn 9 (pr (fn 1 (pr D0 (.int 32))) (.int 2))) bN)))<|bl fun ρ p0 p1 p2 p3 p4=>by
 have:=ao p0
 simp only[aa,ae]at *
 obtain⟨a,b,c⟩:=ab (E.I ρ bN+1)
 omega
def akD:=fb Pb (cmp .lss (fn 7 (pr bN (.ar .add .i64 fT (.int 1)))) (fn 7 (pr bN fT)))<|bl fun ρ p0 p1 p2 p3 p4=>by
 have:=ao p0
 simp only[aa,ae]at *
 obtain⟨a,b,c⟩:=ab (E.I ρ fT+1)
 omega
def akE:=fb AC (.not (cmp .lss (fn 7 (pr (fn 9 (pr (fn 1 (pr D0 (.int 32))) (.int 2))) (.ar .add .i64 bN (.int 1)))) (.int 0)))<|bl fun ρ p0 p1 p2 p3 p4=>by
 simp only[aa,ae]at *
 obtain⟨a,b,c⟩:=ab (E.I ρ bN+1)
 omega
def akF:=fb [pe,tA] (.not (cmp .lss (fn 7 (pr bN (.ar .add .i64 fT (.int 1)))) (.int 0)))<|au fun ρ p0 p1=>by
 simp only[aa,ae]at *
 obtain⟨a,b,c⟩:=ab (E.I ρ fT+1)
 omega
def ef:List Fa:=[Pl,Pn,ake,Pt,Pv,akf,akg,Pm,akh,aki,akj,Po,Pk,akk,akl,akm,Pp,akn,ako,akp,akq,akr,Pq,aks,akt,aku,akv,akw,akx,aky,akz,akA,akB,akC,akD,akE,akF]
theorem aHc:aV Tryz.prog (bz (aGu)):=sc ef (aBa) ack ([]) (by kernel_rfl) (by kernel_rfl)
def acl:Nl:=nc aHc ack
def akG:=fb ((cmp .lss (.int 200) (fn 9 (pr (fn 1 (pr D0 (.int 30))) (.int 5))))::c9) cC<|au fun ρ p0 p1=>by
 have:=ao p1
 simp only[aa]at *;grind
def akH:=fb ((cmp .lss (.int 200) (fn 9 (pr (fn 1 (pr D0 (.int 29))) (.int 5))))::c9) cC<|au fun ρ p0 p1=>by
 have:=ao p1
 simp only[aa]at *;grind
def akI:=fb ((cmp .lss (.int 500) (fn 9 (pr (fn 1 (pr D0 (.int 0))) (.int 12))))::c9) cC<|au fun ρ p0 p1=>by
 have:=ao p1
 simp only[aa]at *;grind
def akJ:=fb [Hc] cC<|ak fun ρ p0=>by
 have:=@cP ρ D0
 simp only[aa]at *;grind
def akK:=fb [Hd] cC<|ak fun ρ p0=>by
 have:=@cP ρ D0
 simp only[aa]at *;grind
def akL:=fb [He] cC<|ak fun ρ p0=>by
 have:=@cP ρ D0
 simp only[aa]at *;grind
def akM:=fb [Hf] cC<|ak fun ρ p0=>by
 have:=@cP ρ D0
 simp only[aa]at *;grind
def akN:=fb [Hg] cC<|ak fun ρ p0=>by
 have:=@cP ρ D0
 simp only[aa]at *;grind
def akO:=fb [Hh] cC<|ak fun ρ p0=>by
 have:=@cP ρ D0
 simp only[aa]at *;grind
def akP:=fb [Hi] cC<|ak fun ρ p0=>by
 have:=@cP ρ D0
 simp only[aa]at *;grind
def akQ:=fb [Hj] cC<|ak fun ρ p0=>by
 have:=@cP ρ D0
 simp only[aa]at *;grind
def akR:=fb [Ox] cC<|ak fun ρ p0=>by
 have:=@cP ρ D0
 simp only[aa]at *;grind
def akS:=fb [OI] cC<|ak fun ρ p0=>by
 have:=@cP ρ D0
 simp only[aa]at *;grind
def akT:=fa ((fn 103 (pr (fn 1 (pr D0 (.int 29))) (pr pa (.int 0)))))<|fun ρ=>by
 rfl
def akU:=fb (AE::Pc::(.not wA)::(.not Hc)::(.not Hd)::(.not He)::(.not Hf)::(.not Hg)::(.not Hh)::(.not Hi)::(.not Hj)::wx::wz::D3::AA) cC<|yV fun ρ p0 p1 p2 p3 p4 p5 p6 p7 p8 p9 am av az aD aJ=>by
 have:=@cP ρ D0
 have:=fun h0 h1=>@Ge ρ _ _ (fn 9 (pr (fn 1 (pr D0 (.int 29))) (.int 5))) _ h0 h1 (fn _ (pr (fn 1 _) (pr (fn 1 _) (pr (fn 1 _) (pr (fn 1 _) (pr (fn 1 (pr (fn 1 (pr D0 (.int 29))) (fn 6 (pr (fn 8 (pr D1 _)) _)))) pa)))))) rfl
 simp only[aa]at *;grind
def akV:=fb AF (.not (cmp .lss (.ar .add .i64 D1 (.int 1)) (.int 0)))<|ay fun ρ p0 p1 p2=>by
 have:=ao p0
 simp only[aa,ae]at *
 obtain⟨a,b,c⟩:=ab (E.I ρ D1+1)
 omega
def tB:=fb c9 (.not (cmp .lss (.int 20) (fn 9 (pr (fn 1 (pr D0 (.int 30))) (.int 5)))))<|ak fun ρ p0=>by
 have:=ao p0
 simp only[aa]at *;omega
def akW:=fb AF (.not (cmp .lss (fn 9 (pr (fn 1 (pr D0 (.int 29))) (.int 5))) (.ar .add .i64 D1 (.int 1))))<|ay fun ρ p0 p1 p2=>by
 simp only[aa,ae]at *
 obtain⟨a,b,c⟩:=ab (E.I ρ D1+1)
 omega
def akX:=fb [(.not AE),Pd] AG<|au fun ρ p0 p1=>by
 have:=fun h1=>@Gd ρ _ _ (fn 9 (pr (fn 1 (pr D0 (.int 29))) (.int 5))) _ p1 h1
 simp only[aa]at *;grind
def akY:=fb (AE::Pc::wA::D3::Pd::AA) (fn 103 (pr (fn 1 (pr D0 (.int 29))) (pr pa (.ar .add .i64 D1 (.int 1)))))<|cz fun ρ p0 p1 p2 p3 p4 p5=>by
 have:=ao p3
 have:=@bY ρ D1 (.int 1)
 have:=fun h0 hm=>@Gf ρ _ _ (.ar .add .i64 D1 (.int 1)) _ p4 h0 hm (fn _ (pr (fn 1 _) (pr (fn 1 _) (pr (fn 1 _) (pr (fn 1 _) (pr (fn 1 _) _)))))) rfl
 simp only[aa]at *;grind
def akZ:=fa ((fn 103 (pr (fn 1 (pr D0 (.int 30))) (pr tz (.int 0)))))<|fun ρ=>by
 rfl
def ak0:=fb AF (cmp .lss (fn 7 (pr (fn 9 (pr (fn 1 (pr D0 (.int 29))) (.int 5))) (.ar .add .i64 D1 (.int 1)))) (fn 7 (pr (fn 9 (pr (fn 1 (pr D0 (.int 29))) (.int 5))) D1)))<|ay fun ρ p0 p1 p2=>by
 have:=ao p0
 simp only[aa,ae]at *
 obtain⟨a,b,c⟩:=ab (E.I ρ D1+1)
 omega
def ak1:=fb (wE::Pe::(.not pd)::qM::AG::c9) cC<|cz fun ρ p0 p1 p2 p3 p4 p5=>by
 have:=@cP ρ D0
 have:=fun h0 h1=>@Ge ρ _ _ (fn 9 (pr (fn 1 (pr D0 (.int 30))) (.int 5))) _ h0 h1 (fn _ (pr (fn 1 _) (pr (fn 1 _) (pr (fn 1 _) (pr (fn 1 _) (pr (fn 1 (pr (fn 1 (pr D0 (.int 30))) (fn 6 (pr (fn 8 (pr bN _)) _)))) tz)))))) rfl
 simp only[aa]at *;grind
def ak2:=fb (D3::Ax) O9<|ay fun ρ p0 p1 p2=>by
 have:=ao p0
 simp only[aa,ae]at *
 obtain⟨a,b,c⟩:=ab (E.I ρ bN+1)
 omega
def ak3:=fb (Oq::c9) cC<|au fun ρ p0 p1=>by
 have:=@cP ρ D0
 simp only[aa]at *;grind
def ak4:=fb (eF::Ot::c9) cC<|ay fun ρ p0 p1 p2=>by
 have:=@cP ρ D0
 simp only[aa]at *;grind
def ak5:=fb (eF::eP::Ou::c9) cC<|aF fun ρ p0 p1 p2 p3=>by
 have:=@cP ρ D0
 simp only[aa]at *;grind
def ak6:=fb (eF::eP::fx::Ov::c9) cC<|bl fun ρ p0 p1 p2 p3 p4=>by
 have:=@cP ρ D0
 simp only[aa]at *;grind
def ak7:=fb (Ow::c9) cC<|au fun ρ p0 p1=>by
 have:=@cP ρ D0
 simp only[aa]at *;grind
def ak8:=fb (fR::Oy::c9) cC<|ay fun ρ p0 p1 p2=>by
 have:=@cP ρ D0
 simp only[aa]at *;grind
def ak9:=fb (eF::eP::fx::fS::fR::gb::Oz::c9) cC<|dO fun ρ p0 p1 p2 p3 p4 p5 p6 p7=>by
 have:=@cP ρ D0
 simp only[aa]at *;grind
def ala:=fb (eF::eP::fx::fS::fR::gb::gj::OA::c9) cC<|fB fun ρ p0 p1 p2 p3 p4 p5 p6 p7 p8=>by
 have:=@cP ρ D0
 simp only[aa]at *;grind
def alb:=fb (eF::eP::fx::fS::fR::gb::gj::gy::OB::c9) cC<|jh fun ρ p0 p1 p2 p3 p4 p5 p6 p7 p8 p9=>by
 have:=@cP ρ D0
 simp only[aa]at *;grind
def alc:=fb (eF::eP::fx::fS::fR::gb::gj::gy::gR::OC::c9) cC<|kG fun ρ p0 p1 p2 p3 p4 p5 p6 p7 p8 p9 am=>by
 have:=@cP ρ D0
 simp only[aa]at *;grind
def ald:=fb (eF::eP::fx::fS::fR::gb::gj::gy::gR::ju::OD::c9) cC<|mO fun ρ p0 p1 p2 p3 p4 p5 p6 p7 p8 p9 am av=>by
 have:=@cP ρ D0
 simp only[aa]at *;grind
def ale:=fb (eF::eP::fx::fS::fR::gb::gj::gy::gR::ju::k8::OE::c9) cC<|kH fun ρ p0 p1 p2 p3 p4 p5 p6 p7 p8 p9 am av az=>by
 have:=@cP ρ D0
 simp only[aa]at *;grind
def alf:=fb (eF::eP::fx::fS::fR::gb::gj::gy::gR::ju::k8::nw::OF::c9) cC<|mP fun ρ p0 p1 p2 p3 p4 p5 p6 p7 p8 p9 am av az aD=>by
 have:=@cP ρ D0
 simp only[aa]at *;grind
def alg:=fb (eF::eP::fx::fS::fR::gb::gj::gy::gR::OG::c9) cC<|kG fun ρ p0 p1 p2 p3 p4 p5 p6 p7 p8 p9 am=>by
 have:=@cP ρ D0
 simp only[aa]at *;grind
def alh:=fb (eF::eP::fx::fS::fR::gb::gj::gy::gR::qJ::OH::c9) cC<|mO fun ρ p0 p1 p2 p3 p4 p5 p6 p7 p8 p9 am av=>by
 have:=@cP ρ D0
 simp only[aa]at *;grind
def ali:=fb (eF::eP::fx::fS::fR::gb::gj::gy::gR::ju::k8::nw::qK::qJ::tx::OJ::c9) cC<|lP fun ρ p0 p1 p2 p3 p4 p5 p6 p7 p8 p9 am av az aD aJ aL aU=>by
 have:=@cP ρ D0
 simp only[aa]at *;grind
def alj:=fb (eF::eP::fx::fS::fR::gb::gj::gy::gR::ju::k8::nw::qK::qJ::tx::wy::OK::c9) cC<|DR fun ρ p0 p1 p2 p3 p4 p5 p6 p7 p8 p9 am av az aD aJ aL aU bg=>by
 have:=@cP ρ D0
 simp only[aa]at *;grind
def alk:=fb (eF::eP::fx::fS::fR::gb::gj::gy::gR::ju::k8::nw::qK::qJ::tx::wy::Ay::Az::c9) cC<|DS fun ρ p0 p1 p2 p3 p4 p5 p6 p7 p8 p9 am av az aD aJ aL aU bg bn=>by
 have:=@cP ρ D0
 simp only[aa]at *;grind
def alm:=fb ((.not wE)::eF::eP::fx::fS::fR::gb::gj::gy::gR::ju::k8::nw::qK::qJ::tx::wy::Ay::(.not Az)::OL::pd::(.iff wD GV)::(.not OM)::(.not ON)::(.not OO)::(.not OP)::(.not OQ)::(.not OR)::(.not OS)::(.not OT)::(.not OU)::(.not OV)::GS::AG::(.not Hc)::(.not Hd)::(.not He)::(.not Hf)::(.not Hg)::(.not Hh)::(.not Hi)::(.not Hj)::wx::wz::c9) (.iff wD (fn 130 D0))<|aDW fun ρ p0 p1 p2 p3 p4 p5 p6 p7 p8 p9 am av az aD aJ aL aU bg bn bD bL bW cf cG dg dH ef fh fO gt iC jQ jn mU mV sQ sR sS sT sU sV sW sX sY ql=>by
 have:=ao ql
 have:=@cP ρ D0
 have:=fun h1=>@Gd ρ _ _ (fn 9 (pr (fn 1 (pr D0 (.int 30))) (.int 5))) _ jn h1
 simp only[aa]at *;grind
def aln:=fb ((.not wE)::eF::eP::fx::fS::fR::gb::gj::gy::gR::ju::k8::nw::qK::qJ::tx::wy::Ay::(.not Az)::OL::(.not pd)::GS::AG::c9) cC<|yW fun ρ p0 p1 p2 p3 p4 p5 p6 p7 p8 p9 am av az aD aJ aL aU bg bn bD bL bW cf cG=>by
 have:=@cP ρ D0
 simp_all
def alo:=fb (eF::eP::fx::fS::fR::gb::gj::gy::gR::ju::k8::nw::qK::qJ::tx::wy::Ay::(.not Az)::OV::c9) cC<|aa3 fun ρ p0 p1 p2 p3 p4 p5 p6 p7 p8 p9 am av az aD aJ aL aU bg bn bD=>by
 have:=@cP ρ D0
 simp only[aa]at *;grind
def alp:=fb (eF::eP::fx::fS::fR::gb::gj::gy::gR::ju::k8::nw::qK::OU::c9) cC<|yV fun ρ p0 p1 p2 p3 p4 p5 p6 p7 p8 p9 am av az aD aJ=>by
 have:=@cP ρ D0
 simp only[aa]at *;grind
def alq:=fb (eF::eP::fx::fS::fR::gb::gj::gy::gR::ju::k8::nw::OT::c9) cC<|mP fun ρ p0 p1 p2 p3 p4 p5 p6 p7 p8 p9 am av az aD=>by
 have:=@cP ρ D0
 simp only[aa]at *;grind
def alr:=fb (eF::eP::fx::fS::fR::gb::gj::gy::gR::ju::k8::OS::c9) cC<|kH fun ρ p0 p1 p2 p3 p4 p5 p6 p7 p8 p9 am av az=>by
 have:=@cP ρ D0
 simp only[aa]at *;grind
def als:=fb (eF::eP::fx::fS::fR::gb::gj::gy::gR::ju::OR::c9) cC<|mO fun ρ p0 p1 p2 p3 p4 p5 p6 p7 p8 p9 am av=>by
 have:=@cP ρ D0
 simp only[aa]at *;grind
def alu:=fb (eF::eP::fx::fS::fR::gb::gj::gy::gR::OQ::c9) cC<|kG fun ρ p0 p1 p2 p3 p4 p5 p6 p7 p8 p9 am=>by
 have:=@cP ρ D0
 simp only[aa]at *;grind
def alv:=fb (eF::eP::fx::fS::OP::c9) cC<|cz fun ρ p0 p1 p2 p3 p4 p5=>by
 have:=@cP ρ D0
 simp only[aa]at *;grind
def alw:=fb (eF::eP::fx::OO::c9) cC<|bl fun ρ p0 p1 p2 p3 p4=>by
 have:=@cP ρ D0
 simp only[aa]at *;grind
def alx:=fb AF (.not (cmp .lss (fn 7 (pr (fn 9 (pr (fn 1 (pr D0 (.int 29))) (.int 5))) (.ar .add .i64 D1 (.int 1)))) (.int 0)))<|ay fun ρ p0 p1 p2=>by
 simp only[aa,ae]at *
 obtain⟨a,b,c⟩:=ab (E.I ρ D1+1)
 omega
def PF:=fb Ax (.not (cmp .lss (fn 9 (pr (fn 1 (pr D0 (.int 30))) (.int 5))) (.ar .add .i64 bN (.int 1))))<|au fun ρ p0 p1=>by
 simp only[aa,ae]at *
 obtain⟨a,b,c⟩:=ab (E.I ρ bN+1)
 omega
def aly:=fb (eF::eP::ON::c9) cC<|aF fun ρ p0 p1 p2 p3=>by
 have:=@cP ρ D0
 simp only[aa]at *;grind
def alz:=fb (eF::OM::c9) cC<|ay fun ρ p0 p1 p2=>by
 have:=@cP ρ D0
 simp only[aa]at *;grind
def alA:=fb (wE::Pe::pd::GS::qM::c9) (fn 103 (pr (fn 1 (pr D0 (.int 30))) (pr tz (.ar .add .i64 bN (.int 1)))))<|cz fun ρ p0 p1 p2 p3 p4 p5=>by
 have:=ao p5
 have:=@bY ρ bN (.int 1)
 have:=fun h0 hm=>@Gf ρ _ _ (.ar .add .i64 bN (.int 1)) _ p3 h0 hm (fn _ (pr (fn 1 _) (pr (fn 1 _) (pr (fn 1 _) (pr (fn 1 _) (pr (fn 1 _) _)))))) rfl
 simp only[aa]at *;grind
def alB:=fb (D3::Ax) (cmp .lss (fn 7 (pr (fn 9 (pr (fn 1 (pr D0 (.int 30))) (.int 5))) (.ar .add .i64 bN (.int 1)))) (fn 7 (pr (fn 9 (pr (fn 1 (pr D0 (.int 30))) (.int 5))) bN)))<|ay fun ρ p0 p1 p2=>by
 have:=ao p0
 simp only[aa,ae]at *
 obtain⟨a,b,c⟩:=ab (E.I ρ bN+1)
 omega
def PG:=fb Ax (.not (cmp .lss (fn 7 (pr (fn 9 (pr (fn 1 (pr D0 (.int 30))) (.int 5))) (.ar .add .i64 bN (.int 1)))) (.int 0)))<|au fun ρ p0 p1=>by
 simp only[aa,ae]at *
 obtain⟨a,b,c⟩:=ab (E.I ρ bN+1)
 omega
def fh:List Fa:=[akG,ny,akH,akI,akJ,akK,akL,akM,akN,akO,akP,akQ,akR,akS,akT,akU,akV,tB,akW,akX,akY,akZ,ak0,ak1,ak2,ak3,ak4,ak5,ak6,ak7,ak8,ak9,ala,alb,alc,ald,ale,alf,alg,alh,ali,alj,alk,alm,aln,alo,alp,alq,alr,als,alu,alv,alw,alx,PF,aly,alz,alA,alB,PG]
theorem aHd:aV Tryz.prog (bz (aGg)):=sc fh (aA2) acl ([]) (by kernel_rfl) (by kernel_rfl)
def acm:Nl:=nc aHd acl
end
end Go.Proofs.YtnggbcblogpnfaaGreat.combatDamages
