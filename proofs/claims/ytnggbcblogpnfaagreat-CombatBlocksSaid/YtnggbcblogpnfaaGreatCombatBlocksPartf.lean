/-
  CombatBlocks: contracts of functions, part 6.
-/
import Derived.Test.YtnggbcblogpnfaaGreatCombatBlocksParte
namespace Go.Proofs.YtnggbcblogpnfaaGreat.combatBlocks
open Go.ChangeShapes Go.WideShapes Go.ChangeAt Go.RowKit
open Go.SX
open Go.SX.E (fn pr cmp var)
set_option linter.unusedVariables false
set_option linter.unusedSimpArgs false
set_option maxRecDepth 100000
noncomputable section
abbrev K0:E:=var 0
abbrev K1:E:=cmp .eql (fn 1 (pr K0 (.int 34))) (.int 0)
abbrev K2:E:=cmp .eql (.ar .sub .i64 (.int 1) (fn 1 (pr K0 (.int 34)))) (.int 0)
abbrev K3:E:=.not K2
abbrev K4:E:=cmp .eql (.ar .sub .i64 (.int 1) (fn 1 (pr K0 (.int 34)))) (.int 1)
abbrev K5:E:=cmp .lss (.int 1) (fn 1 (pr K0 (.int 34)))
abbrev K6:E:=.not K5
abbrev K7:E:=cmp .lss (fn 1 (pr K0 (.int 34))) (.int 0)
abbrev K8:E:=.not K7
abbrev K9:E:=fn 117 K0
abbrev qc:=[K9]
abbrev K11:=K8::qc
abbrev H4:=K6::K11
abbrev Sd:=K3::H4
abbrev H5:E:=pr K0 (pr (fn 1 (pr K0 (.int 34))) (.int 2))
abbrev K15:E:=pr (fn 1 (pr K0 (.int 22))) H5
abbrev Sx:E:=fn 109 K15
abbrev H6:E:=pr K0 (pr (fn 7 (pr (.int 1) (fn 1 (pr K0 (.int 34))))) (.int 2))
abbrev K18:E:=pr (fn 1 (pr K0 (.int 22))) H6
abbrev SJ:E:=fn 109 K18
abbrev K20:E:=pr (fn 1 (pr K0 (.int 8))) H6
abbrev SK:E:=fn 109 K20
abbrev dG:E:=var 8
abbrev sH:E:=cmp .lss dG (fn 0 (fn 1 (pr K0 (.int 31))))
abbrev wb:E:=var 9
abbrev jT:E:=.bool false
abbrev SL:E:=.not (fn 32 (pr wb (pr (fn 1 (pr (fn 1 (pr K0 (.int 31))) dG)) jT)))
abbrev SM:E:=cmp .lss (var 12) (.int 0)
abbrev SN:E:=.not SM
abbrev SO:E:=var 10
abbrev K30:E:=pr SO (fn 1 (pr (fn 1 (pr K0 (.int 31))) dG))
abbrev K31:E:=fn 114 K30
abbrev SP:E:=.iff SN K31
abbrev sI:E:=fn 108 K0
abbrev K34:E:=pr dG (.int 0)
abbrev K35:E:=pr K0 K34
abbrev K36:E:=pr wb K35
abbrev SQ:E:=fn 113 K36
abbrev K38:E:=pr K0 dG
abbrev SR:E:=fn 111 K38
abbrev K40:E:=cmp .lss dG (.int 0)
abbrev SS:E:=.not K40
abbrev K42:E:=pr SO H5
abbrev K43:E:=fn 109 K42
abbrev K44:=[K43]
abbrev K45:=SS::K44
abbrev K46:=SR::K45
abbrev SU:=SQ::K46
abbrev K48:=sI::SU
abbrev K49:=K8::K48
abbrev SW:=K6::K49
abbrev H9:E:=fn 110 K0
abbrev sJ:E:=.iff jT H9
abbrev K53:=[SS]
abbrev K54:=sH::K53
abbrev Az:=K9::K54
abbrev K56:E:=cmp .lss (fn 0 (fn 1 (pr K0 (.int 31)))) dG
abbrev K57:E:=.not K56
abbrev SY:=[K57]
abbrev AA:E:=fn 111 (pr K0 (fn 0 (fn 1 (pr K0 (.int 31)))))
abbrev K60:=K9::SU
abbrev K61:=sI::K60
abbrev K62:=K8::K61
abbrev K63:=K6::K62
abbrev K64:=SN::K63
abbrev K65:=SP::K64
abbrev K66:=SL::K65
abbrev SZ:=sH::K66
abbrev AB:E:=.bool true
abbrev cg:E:=var 16
abbrev qe:E:=cmp .lss cg (fn 9 (pr (fn 1 (pr K0 (.int 32))) (.int 2)))
abbrev qf:E:=var 17
abbrev Ia:E:=.not (fn 32 (pr qf (pr (.ar .sub .i64 (.int 0) (fn 1 (pr (fn 1 (pr K0 (.int 32))) (fn 6 (pr (fn 8 (pr cg (.int 2))) (.int 0)))))) jT)))
abbrev S0:E:=cmp .lss (var 21) (.int 0)
abbrev S1:E:=.not S0
abbrev S2:E:=var 19
abbrev K76:E:=pr S2 (fn 1 (pr (fn 1 (pr K0 (.int 32))) (fn 6 (pr (fn 8 (pr cg (.int 2))) (.int 0)))))
abbrev K77:E:=fn 114 K76
abbrev S3:E:=.iff S1 K77
abbrev K79:E:=pr (fn 0 (fn 1 (pr K0 (.int 31)))) cg
abbrev K80:E:=pr K0 K79
abbrev K81:E:=pr qf K80
abbrev S4:E:=fn 113 K81
abbrev Ib:E:=fn 112 (pr K0 cg)
abbrev K84:E:=cmp .lss cg (.int 0)
abbrev Ic:E:=.not K84
abbrev K86:E:=pr S2 H6
abbrev S5:E:=fn 109 K86
abbrev K88:=[K8,sI]
abbrev K89:=K6::K88
abbrev K90:=S5::K89
abbrev K91:=Ic::K90
abbrev K92:=AA::K91
abbrev K93:=Ib::K92
abbrev AC:=S4::K93
abbrev K95:=[Ic]
abbrev K96:=qe::K95
abbrev AD:=K9::K96
abbrev S6:E:=cmp .lss (var 20) (.int 0)
abbrev S7:E:=.not S6
abbrev ax1:E:=pr (fn 1 (pr K0 (.int 31))) (fn 1 (pr (fn 1 (pr K0 (.int 32))) (fn 6 (pr (fn 8 (pr cg (.int 2))) (.int 1)))))
abbrev ax2:E:=fn 114 ax1
abbrev R4:E:=.iff S7 ax2
abbrev ax3:=S5::K6::K8::sI::qc
abbrev ax4:=Ic::ax3
abbrev ax5:=AA::ax4
abbrev ax6:=Ib::ax5
abbrev ax7:=S4::ax6
abbrev ax8:=S1::ax7
abbrev ax9:=S3::ax8
abbrev aya:=S7::ax9
abbrev ayb:=R4::aya
abbrev ayc:=Ia::ayb
abbrev ayd:List E:=(fn 32 (pr qf (pr (fn 1 (pr (fn 1 (pr K0 (.int 32))) (fn 6 (pr (fn 8 (pr cg (.int 2))) (.int 1))))) jT)))::ayc
abbrev R5:=qe::ayd
abbrev cj:E:=.iff jT (fn 115 K0)
abbrev R6:E:=cmp .lss (fn 1 (pr K0 (.int 33))) (.int 0)
abbrev cB:E:=.not R6
abbrev R7:E:=cmp .lss (.int 1000) (fn 1 (pr K0 (.int 33)))
abbrev cG:E:=.not R7
abbrev R8:E:=cmp .lss (fn 1 (pr K0 (.int 35))) (.int 0)
abbrev cJ:E:=.not R8
abbrev R9:E:=cmp .lss (.int 10) (fn 1 (pr K0 (.int 35)))
abbrev cP:E:=.not R9
abbrev Sa:E:=cmp .lss (fn 1 (pr K0 (.int 36))) (.int (-1))
abbrev cT:E:=.not Sa
abbrev Sb:E:=cmp .lss (.int 1) (fn 1 (pr K0 (.int 36)))
abbrev cU:E:=.not Sb
abbrev Sc:E:=cmp .lss (fn 1 (pr K0 (.int 37))) (.int 0)
abbrev cZ:E:=.not Sc
abbrev Se:E:=cmp .lss (.int 2) (fn 1 (pr K0 (.int 37)))
abbrev dg:E:=.not Se
abbrev Sf:E:=cmp .lss (fn 1 (pr K0 (.int 1))) (.int 0)
abbrev dl:E:=.not Sf
abbrev Sg:E:=cmp .lss (.int 9999) (fn 1 (pr K0 (.int 1)))
abbrev du:E:=.not Sg
abbrev Sh:E:=cmp .lss (fn 1 (pr K0 (.int 2))) (.int 0)
abbrev dA:E:=.not Sh
abbrev Si:E:=cmp .lss (.int 99) (fn 1 (pr K0 (.int 2)))
abbrev Sj:E:=cmp .lss (fn 1 (pr K0 (.int 3))) (.int 0)
abbrev dM:E:=.not Sj
abbrev Sk:E:=cmp .lss (.int 99) (fn 1 (pr K0 (.int 3)))
abbrev Sl:E:=cmp .lss (fn 1 (pr K0 (.int 4))) (.int 0)
abbrev dT:E:=.not Sl
abbrev Sm:E:=cmp .lss (.int 99) (fn 1 (pr K0 (.int 4)))
abbrev Sn:E:=cmp .lss (fn 1 (pr K0 (.int 5))) (.int 0)
abbrev ef:E:=.not Sn
abbrev So:E:=cmp .lss (.int 99) (fn 1 (pr K0 (.int 5)))
abbrev Sp:E:=cmp .lss (fn 1 (pr K0 (.int 13))) (.int 0)
abbrev eQ:E:=.not Sp
abbrev Sq:E:=cmp .lss (.int 7) (fn 1 (pr K0 (.int 13)))
abbrev eZ:E:=.not Sq
abbrev Sr:E:=cmp .lss (fn 1 (pr K0 (.int 14))) (.int 0)
abbrev fu:E:=.not Sr
abbrev Ss:E:=cmp .lss (.int 255) (fn 1 (pr K0 (.int 14)))
abbrev Su:E:=cmp .lss (fn 1 (pr K0 (.int 15))) (.int 0)
abbrev fZ:E:=.not Su
abbrev Sv:E:=cmp .lss (.int 9999) (fn 1 (pr K0 (.int 15)))
abbrev gk:E:=.not Sv
abbrev Sw:E:=cmp .lss (fn 1 (pr K0 (.int 16))) (.int 0)
abbrev gN:E:=.not Sw
abbrev Sy:E:=cmp .lss (.int 99) (fn 1 (pr K0 (.int 16)))
abbrev Sz:E:=cmp .lss (fn 1 (pr K0 (.int 17))) (.int 0)
abbrev iM:E:=.not Sz
abbrev SA:E:=cmp .lss (.int 99) (fn 1 (pr K0 (.int 17)))
abbrev SB:E:=cmp .lss (fn 1 (pr K0 (.int 18))) (.int 0)
abbrev jS:E:=.not SB
abbrev SC:E:=cmp .lss (.int 99) (fn 1 (pr K0 (.int 18)))
abbrev SD:E:=cmp .lss (fn 1 (pr K0 (.int 19))) (.int 0)
abbrev mB:E:=.not SD
abbrev SE:E:=cmp .lss (.int 99) (fn 1 (pr K0 (.int 19)))
abbrev SF:E:=cmp .lss (fn 1 (pr K0 (.int 27))) (.int 0)
abbrev qd:E:=.not SF
abbrev SG:E:=cmp .lss (.int 7) (fn 1 (pr K0 (.int 27)))
abbrev sG:E:=.not SG
abbrev SH:E:=cmp .lss (fn 1 (pr K0 (.int 28))) (.int 0)
abbrev v7:E:=.not SH
abbrev SI:E:=cmp .lss (.int 255) (fn 1 (pr K0 (.int 28)))
abbrev H7:E:=.iff (var 3) sI
abbrev v8:E:=cmp .lss (var 1) (.int 0)
abbrev Ax:E:=.iff (.not v8) (.not (fn 103 (pr (fn 1 (pr K0 (.int 29))) (pr jT (fn 9 (pr (fn 1 (pr K0 (.int 29))) (.int 5)))))))
abbrev Ay:E:=cmp .lss (var 2) (.int 0)
abbrev H8:E:=.iff (.not Ay) (.not (fn 103 (pr (fn 1 (pr K0 (.int 30))) (pr AB (fn 9 (pr (fn 1 (pr K0 (.int 30))) (.int 5)))))))
def akD:=fb [K1,K3] K4<|am fun F p0 p1=>by
 simp only[aa,ae]at *
 obtain⟨a,b,c⟩:=ab ((1)-(E.I F (fn 1 (pr K0 (.int 34)))))
 omega
def PM:=fb [K3,K6,K8] K4<|aj fun F p0 p1 p2=>by
 simp only[aa,ae]at *
 obtain⟨a,b,c⟩:=ab ((1)-(E.I F (fn 1 (pr K0 (.int 34)))))
 omega
def akE:=fb ((.not K1)::Sd) Sx<|aJ fun F p0 p1 p2 p3 p4=>by
 have g0:E.I F (fn 1 (pr K0 (.int 34)))=(1):=by
  simp only[aa]at *;omega
 have g1:E.I F _=E.I F (.int 2):=rfl;exact gh 1 2 22 (by decide) (by rfl) g0 g1
def akF:=fb (K2::H4) Sx<|aw fun F p0 p1 p2 p3=>by
 have g0:E.I F (fn 1 (pr K0 (.int 34)))=(1):=by
  simp only[aa,ae]at *
  obtain⟨a,b,c⟩:=ab ((1)-(E.I F (fn 1 (pr K0 (.int 34)))))
  omega
 have g1:E.I F _=E.I F (.int 2):=rfl;exact gh 1 2 22 (by decide) (by rfl) g0 g1
def akG:=fb (K1::qc) (fn 109 (pr (fn 1 (pr K0 (.int 8))) H5))<|am fun F p0 p1=>by
 have g0:=by
  simp only[aa]at *;omega
 have g1:E.I F _=E.I F (.int 2):=rfl;exact gh 0 2 8 (by decide) (by rfl) g0 g1
def akH:=fb Sd SJ<|aw fun F p0 p1 p2 p3=>by
 have g0:E.I F (fn 7 (pr (.int 1) (fn 1 (pr K0 (.int 34)))))=(1):=by
  simp only[aa,ae]at *
  obtain⟨a,b,c⟩:=ab ((1)-(E.I F (fn 1 (pr K0 (.int 34)))))
  omega
 have g1:E.I F _=E.I F (.int 2):=rfl;exact gh 1 2 22 (by decide) (by rfl) g0 g1
def akI:=fb (K2::H4) SK<|aw fun F p0 p1 p2 p3=>by
 have g0:E.I F (fn 7 (pr (.int 1) (fn 1 (pr K0 (.int 34)))))=(0):=by
  simp only[aa,ae]at *
  obtain⟨a,b,c⟩:=ab ((1)-(E.I F (fn 1 (pr K0 (.int 34)))))
  omega
 have g1:E.I F _=E.I F (.int 2):=rfl;exact gh 0 2 8 (by decide) (by rfl) g0 g1
def akJ:=fb (K1::qc) SJ<|am fun F p0 p1=>by
 have g0:E.I F (fn 7 (pr (.int 1) (fn 1 (pr K0 (.int 34)))))=(1):=by
  simp only[aa]at *;omega
 have g1:E.I F _=E.I F (.int 2):=rfl;exact gh 1 2 22 (by decide) (by rfl) g0 g1
def akK:=fb (K1::K2::qc) SK<|aj fun F p0 p1 p2=>by
 have g0:E.I F (fn 7 (pr (.int 1) (fn 1 (pr K0 (.int 34)))))=(0):=by
  simp only[aa,ae]at *
  obtain⟨a,b,c⟩:=ab ((1)-(E.I F (fn 1 (pr K0 (.int 34)))))
  omega
 have g1:E.I F _=E.I F (.int 2):=rfl;exact gh 0 2 8 (by decide) (by rfl) g0 g1
def PN:=fb qc (.not (cmp .lss (.int 30) (fn 0 (fn 1 (pr K0 (.int 31))))))<|ah fun F p0=>by
 have:=ai p0
 simp only[aa]at *;omega
def akL:=fa ((fn 111 (pr K0 (.int 0))))<|fun F=>by
 rfl
def akM:=fa ((fn 113 (pr (fn 10 (.int 0)) (pr K0 (pr (.int 0) (.int 0))))))<|fun F=>by
 grind[aMf,agh]
def akN:=fb (sH::SL::SP::SM::SW) sJ<|gX fun F p0 p1 p2 p3 p4 p5 p6 p7 p8 p9 ak=>by
 have:=fun a b c d hm=>@Gy F _ (fn 6 (pr dG (.int 1))) _ _ _ p6 a b p7 p8 c d ak hm
 simp only[aa]at *;grind
def PO:=fb Az (.not (cmp .lss (.ar .add .i64 dG (.int 1)) (.int 0)))<|aj fun F p0 p1 p2=>by
 have:=ai p0
 simp only[aa,ae]at *
 obtain⟨a,b,c⟩:=ab (E.I F dG+1)
 omega
def akO:=fb (sH::(fn 32 (pr wb (pr (fn 1 (pr (fn 1 (pr K0 (.int 31))) dG)) jT)))::SW) sJ<|dP fun F p0 p1 p2 p3 p4 p5 p6 p7 p8=>by
 have:=fun a b c d hm=>@Gy F _ (fn 6 (pr dG (.int 1))) _ _ _ p4 a b p5 p6 c d p8 hm
 simp only[aa]at *;grind
def PP:=fb qc (.not (cmp .lss (.int 30) (fn 9 (pr (fn 1 (pr K0 (.int 32))) (.int 2)))))<|ah fun F p0=>by
 have:=ai p0
 simp only[aa]at *;omega
def PQ:=fb Az (.not (cmp .lss (fn 0 (fn 1 (pr K0 (.int 31)))) (.ar .add .i64 dG (.int 1))))<|aj fun F p0 p1 p2=>by
 simp only[aa,ae]at *
 obtain⟨a,b,c⟩:=ab (E.I F dG+1)
 omega
def akP:=fb ((.not sH)::K9::SR::SY) AA<|aw fun F p0 p1 p2 p3=>by
 have g0:E.I F (fn 0 (fn 1 (pr K0 (.int 31))))=E.I F dG:=by
  simp only[aa]at *;omega
 grind[aMd]
def akQ:=fb SZ (fn 111 (pr K0 (.ar .add .i64 dG (.int 1))))<|jE fun F p0 p1 p2 p3 p4 p5 p6 p7 p8 p9 ak ao=>by
 have:=ai p7
 have:=@bJ F dG (.int 1)
 have:=fun a b c d hm=>@Gy F _ (.ar .add .i64 dG (.int 1)) _ _ _ p6 a b p8 p9 c d ao hm
 simp only[aa]at *;grind
def akR:=fa ((fn 112 (pr K0 (.int 0))))<|fun F=>by
 rfl
def akS:=fb SZ (fn 113 (pr (fn 34 (pr wb (pr (fn 1 (pr (fn 1 (pr K0 (.int 31))) dG)) AB))) (pr K0 (pr (.ar .add .i64 dG (.int 1)) (.int 0)))))<|jE fun F p0 p1 p2 p3 p4 p5 p6 p7 p8 p9 ak ao=>by
 have:=ai p7
 have:=@bJ F dG (.int 1)
 have:=fun a b c d hm=>@Gy F _ (.ar .add .i64 dG (.int 1)) _ _ _ p6 a b p8 p9 c d ao hm
 simp only[aa]at *;grind
def akT:=fb ((.not sH)::K9::SQ::SY) (fn 113 (pr wb (pr K0 (pr (fn 0 (fn 1 (pr K0 (.int 31)))) (.int 0)))))<|aw fun F p0 p1 p2 p3=>by
 have g0:E.I F (fn 0 (fn 1 (pr K0 (.int 31))))=E.I F dG:=by
  simp only[aa]at *;omega
 grind[aMe]
def PR:=fb Az (cmp .lss (fn 7 (pr (fn 0 (fn 1 (pr K0 (.int 31)))) (.ar .add .i64 dG (.int 1)))) (fn 7 (pr (fn 0 (fn 1 (pr K0 (.int 31)))) dG)))<|aj fun F p0 p1 p2=>by
 have:=ai p0
 simp only[aa,ae]at *
 obtain⟨a,b,c⟩:=ab (E.I F dG+1)
 omega
def akU:=fb (qe::Ia::S3::S0::AC) sJ<|jE fun F p0 p1 p2 p3 p4 p5 p6 p7 p8 p9 ak ao=>by
 have hw:1<=E.I F _->E.I F _<=500->E.I F _=-(E.I F (fn 1 (pr (fn 1 (pr K0 (.int 32))) (fn 6 (pr (fn 8 (pr cg (.int 2))) (.int 0)))))):=uA
 have:=fun a b c d e hm=>@vr F _ (fn 6 (pr cg (.int 1))) _ _ _ (.ar .sub .i64 (.int 0) (fn 1 (pr (fn 1 (pr K0 (.int 32))) (fn 6 (pr (fn 8 (pr cg (.int 2))) (.int 0)))))) ao a b p4 p6 p5 c d p8 hm _ _ rfl rfl e
 simp only[aa]at *;grind
def akV:=fb AD (.not (cmp .lss (.ar .add .i64 cg (.int 1)) (.int 0)))<|aj fun F p0 p1 p2=>by
 have:=ai p0
 simp only[aa,ae]at *
 obtain⟨a,b,c⟩:=ab (E.I F cg+1)
 omega
def akW:=fb (qe::Ia::R4::S6::AC) sJ<|jE fun F p0 p1 p2 p3 p4 p5 p6 p7 p8 p9 ak ao=>by
 have hw:1<=E.I F _->E.I F _<=500->E.I F _=-(E.I F (fn 1 (pr (fn 1 (pr K0 (.int 32))) (fn 6 (pr (fn 8 (pr cg (.int 2))) (.int 0)))))):=uA
 have:=fun a b c d e hm=>@vr F _ (fn 6 (pr cg (.int 1))) _ _ _ (.ar .sub .i64 (.int 0) (fn 1 (pr (fn 1 (pr K0 (.int 32))) (fn 6 (pr (fn 8 (pr cg (.int 2))) (.int 0)))))) ao a b p4 p6 p5 c d p8 hm _ _ rfl rfl e
 simp only[aa]at *;grind
def akX:=fb (qe::(fn 32 (pr qf (pr (fn 1 (pr (fn 1 (pr K0 (.int 32))) (fn 6 (pr (fn 8 (pr cg (.int 2))) (.int 1))))) jT)))::(fn 32 (pr qf (pr (.ar .sub .i64 (.int 0) (fn 1 (pr (fn 1 (pr K0 (.int 32))) (fn 6 (pr (fn 8 (pr cg (.int 2))) (.int 0)))))) jT)))::AC) sJ<|gX fun F p0 p1 p2 p3 p4 p5 p6 p7 p8 p9 ak=>by
 have hw:1<=E.I F _->E.I F _<=500->E.I F _=-(E.I F (fn 1 (pr (fn 1 (pr K0 (.int 32))) (fn 6 (pr (fn 8 (pr cg (.int 2))) (.int 0)))))):=uA
 have:=fun a b c d e hm=>@vr F _ (fn 6 (pr cg (.int 1))) _ _ _ (.ar .sub .i64 (.int 0) (fn 1 (pr (fn 1 (pr K0 (.int 32))) (fn 6 (pr (fn 8 (pr cg (.int 2))) (.int 0)))))) ak a b p3 p5 p4 c d p7 hm _ _ rfl rfl e
 simp only[aa]at *;grind
def akY:=fb (qe::(.not (fn 32 (pr qf (pr (fn 1 (pr (fn 1 (pr K0 (.int 32))) (fn 6 (pr (fn 8 (pr cg (.int 2))) (.int 1))))) jT))))::AC) sJ<|eT fun F p0 p1 p2 p3 p4 p5 p6 p7 p8 p9=>by
 have hw:1<=E.I F _->E.I F _<=500->E.I F _=-(E.I F (fn 1 (pr (fn 1 (pr K0 (.int 32))) (fn 6 (pr (fn 8 (pr cg (.int 2))) (.int 0)))))):=uA
 have:=fun a b c d e hm=>@vr F _ (fn 6 (pr cg (.int 1))) _ _ _ (.ar .sub .i64 (.int 0) (fn 1 (pr (fn 1 (pr K0 (.int 32))) (fn 6 (pr (fn 8 (pr cg (.int 2))) (.int 0)))))) p9 a b p2 p4 p3 c d p6 hm _ _ rfl rfl e
 simp only[aa]at *;grind
def akZ:=fb [(.not qe),Ib,AA,(.not (cmp .lss (fn 9 (pr (fn 1 (pr K0 (.int 32))) (.int 2))) cg))] (.iff AB H9)<|aw fun F p0 p1 p2 p3=>by
 have:=@aNa F _ _ p2 p1
 simp only[aa]at *;grind
def PS:=fb Az (.not (cmp .lss (fn 7 (pr (fn 0 (fn 1 (pr K0 (.int 31)))) (.ar .add .i64 dG (.int 1)))) (.int 0)))<|aj fun F p0 p1 p2=>by
 simp only[aa,ae]at *
 obtain⟨a,b,c⟩:=ab (E.I F dG+1)
 omega
def ak0:=fb AD (.not (cmp .lss (fn 9 (pr (fn 1 (pr K0 (.int 32))) (.int 2))) (.ar .add .i64 cg (.int 1))))<|aj fun F p0 p1 p2=>by
 simp only[aa,ae]at *
 obtain⟨a,b,c⟩:=ab (E.I F cg+1)
 omega
def ak1:=fb R5 (fn 112 (pr K0 (.ar .add .i64 cg (.int 1))))<|jF fun F p0 p1 p2 p3 p4 p5 p6 p7 p8 p9 ak ao ap az aC aD=>by
 have:=ai aD
 have:=@bJ F cg (.int 1)
 have hw:1<=E.I F _->E.I F _<=500->E.I F _=-(E.I F (fn 1 (pr (fn 1 (pr K0 (.int 32))) (fn 6 (pr (fn 8 (pr cg (.int 2))) (.int 0)))))):=uA
 have:=fun a b c d e hm=>@vr F _ (.ar .add .i64 cg (.int 1)) _ _ _ (.ar .sub .i64 (.int 0) (fn 1 (pr (fn 1 (pr K0 (.int 32))) (fn 6 (pr (fn 8 (pr cg (.int 2))) (.int 0)))))) aC a b p7 p9 p8 c d ao hm _ _ rfl rfl e
 simp only[aa]at *;grind
def ak2:=fb R5 (fn 113 (pr (fn 34 (pr (fn 34 (pr qf (pr (fn 1 (pr (fn 1 (pr K0 (.int 32))) (fn 6 (pr (fn 8 (pr cg (.int 2))) (.int 1))))) jT))) (pr (.ar .sub .i64 (.int 0) (fn 1 (pr (fn 1 (pr K0 (.int 32))) (fn 6 (pr (fn 8 (pr cg (.int 2))) (.int 0)))))) AB))) (pr K0 (pr (fn 0 (fn 1 (pr K0 (.int 31)))) (.ar .add .i64 cg (.int 1))))))<|jF fun F p0 p1 p2 p3 p4 p5 p6 p7 p8 p9 ak ao ap az aC aD=>by
 have:=ai aD
 have:=@bJ F cg (.int 1)
 have hw:1<=E.I F _->E.I F _<=500->E.I F _=-(E.I F (fn 1 (pr (fn 1 (pr K0 (.int 32))) (fn 6 (pr (fn 8 (pr cg (.int 2))) (.int 0)))))):=uA
 have:=fun a b c d e hm=>@vr F _ (.ar .add .i64 cg (.int 1)) _ _ _ (.ar .sub .i64 (.int 0) (fn 1 (pr (fn 1 (pr K0 (.int 32))) (fn 6 (pr (fn 8 (pr cg (.int 2))) (.int 0)))))) aC a b p7 p9 p8 c d ao hm _ _ rfl rfl e
 simp only[aa]at *;grind
def ak3:=fb AD (cmp .lss (fn 7 (pr (fn 9 (pr (fn 1 (pr K0 (.int 32))) (.int 2))) (.ar .add .i64 cg (.int 1)))) (fn 7 (pr (fn 9 (pr (fn 1 (pr K0 (.int 32))) (.int 2))) cg)))<|aj fun F p0 p1 p2=>by
 have:=ai p0
 simp only[aa,ae]at *
 obtain⟨a,b,c⟩:=ab (E.I F cg+1)
 omega
def ak4:=fb AD (.not (cmp .lss (fn 7 (pr (fn 9 (pr (fn 1 (pr K0 (.int 32))) (.int 2))) (.ar .add .i64 cg (.int 1)))) (.int 0)))<|aj fun F p0 p1 p2=>by
 simp only[aa,ae]at *
 obtain⟨a,b,c⟩:=ab (E.I F cg+1)
 omega
def bl:List Fa:=[akD,PM,akE,akF,akG,akH,akI,akJ,akK,Rd,Q6,PN,akL,akM,akN,PO,akO,PP,PQ,akP,akQ,akR,akS,akT,PR,akU,akV,akW,akX,akY,akZ,PS,ak0,ak1,ak2,ak3,ak4]
theorem aKM:aL Tryz.prog (bh (aKa)):=sc bl (aE3) adG ([]) (by kernel_rfl) (by kernel_rfl)
def adI:Nl:=nc aKM adG
def ak5:=fb [K7] cj<|ah fun F p0=>by
 have:=@b9 F K0
 simp only[aa]at *;grind
def ak6:=fb [K8,K6,R6] cj<|aj fun F p0 p1 p2=>by
 have:=@b9 F K0
 simp only[aa]at *;grind
def ak7:=fb [K8,K6,cB,cG,R8] cj<|aJ fun F p0 p1 p2 p3 p4=>by
 have:=@b9 F K0
 simp only[aa]at *;grind
def ak8:=fb [K8,K6,cB,cG,cJ,cP,Sa] cj<|cH fun F p0 p1 p2 p3 p4 p5 p6=>by
 have:=@b9 F K0
 simp only[aa]at *;grind
def ak9:=fb [K8,K6,cB,cG,cJ,cP,cT,cU,Sc] cj<|dP fun F p0 p1 p2 p3 p4 p5 p6 p7 p8=>by
 have:=@b9 F K0
 simp only[aa]at *;grind
def ala:=fb [K9,(cmp .lss (.int 200) (fn 9 (pr (fn 1 (pr K0 (.int 30))) (.int 5))))] cj<|am fun F p0 p1=>by
 have:=ai p0
 simp only[aa]at *;grind
def alb:=fb [K9,K8,K6,cB,cG,cJ,cP,cT,cU,cZ,dg,Sf] cj<|jE fun F p0 p1 p2 p3 p4 p5 p6 p7 p8 p9 ak ao=>by
 have:=@b9 F K0
 simp only[aa]at *;grind
def alc:=fb [K9,K8,K6,cB,cG,cJ,cP,cT,cU,cZ,dg,dl,du,dA,Si] cj<|yp fun F p0 p1 p2 p3 p4 p5 p6 p7 p8 p9 ak ao ap az aC=>by
 have:=@b9 F K0
 simp only[aa]at *;grind
def ald:=fb [K9,K8,K6,cB,cG,cJ,cP,cT,cU,cZ,dg,dl,du,dA,dM,Sk] cj<|jF fun F p0 p1 p2 p3 p4 p5 p6 p7 p8 p9 ak ao ap az aC aD=>by
 have:=@b9 F K0
 simp only[aa]at *;grind
def ale:=fb [K9,K8,K6,cB,cG,cJ,cP,cT,cU,cZ,dg,dl,du,dA,dM,dT,Sm] cj<|yq fun F p0 p1 p2 p3 p4 p5 p6 p7 p8 p9 ak ao ap az aC aD aR=>by
 have:=@b9 F K0
 simp only[aa]at *;grind
def alf:=fb [K9,K8,K6,cB,cG,cJ,cP,cT,cU,cZ,dg,dl,du,dA,dM,dT,ef,So] cj<|tW fun F p0 p1 p2 p3 p4 p5 p6 p7 p8 p9 ak ao ap az aC aD aR aZ=>by
 have:=@b9 F K0
 simp only[aa]at *;grind
def alg:=fb [K9,K8,K6,cB,cG,cJ,cP,cT,cU,cZ,dg,dl,du,dA,dM,dT,ef,Sp] cj<|tW fun F p0 p1 p2 p3 p4 p5 p6 p7 p8 p9 ak ao ap az aC aD aR aZ=>by
 have:=@b9 F K0
 simp only[aa]at *;grind
def alh:=fb [K9,K8,K6,cB,cG,cJ,cP,cT,cU,cZ,dg,dl,du,dA,dM,dT,ef,eQ,eZ,Sr] cj<|Ea fun F p0 p1 p2 p3 p4 p5 p6 p7 p8 p9 ak ao ap az aC aD aR aZ bl bE=>by
 have:=@b9 F K0
 simp only[aa]at *;grind
def ali:=fb [K9,K8,K6,cB,cG,cJ,cP,cT,cU,cZ,dg,dl,du,dA,dM,dT,ef,eQ,eZ,fu,Ss] cj<|Eb fun F p0 p1 p2 p3 p4 p5 p6 p7 p8 p9 ak ao ap az aC aD aR aZ bl bE bO=>by
 have:=@b9 F K0
 simp only[aa]at *;grind
def alj:=fb [K9,K8,K6,cB,cG,cJ,cP,cT,cU,cZ,dg,dl,du,dA,dM,dT,ef,eQ,eZ,fu,Su] cj<|Eb fun F p0 p1 p2 p3 p4 p5 p6 p7 p8 p9 ak ao ap az aC aD aR aZ bl bE bO=>by
 have:=@b9 F K0
 simp only[aa]at *;grind
def alk:=fb [K9,K8,K6,cB,cG,cJ,cP,cT,cU,cZ,dg,dl,du,dA,dM,dT,ef,eQ,eZ,fu,fZ,gk,gN,Sy] cj<|LI fun F p0 p1 p2 p3 p4 p5 p6 p7 p8 p9 ak ao ap az aC aD aR aZ bl bE bO bZ ch cp=>by
 have:=@b9 F K0
 simp only[aa]at *;grind
def alm:=fb [K9,K8,K6,cB,cG,cJ,cP,cT,cU,cZ,dg,dl,du,dA,dM,dT,ef,eQ,eZ,fu,fZ,gk,gN,iM,SA] cj<|acB fun F p0 p1 p2 p3 p4 p5 p6 p7 p8 p9 ak ao ap az aC aD aR aZ bl bE bO bZ ch cp cN=>by
 have:=@b9 F K0
 simp only[aa]at *;grind
def aln:=fb [K9,K8,K6,cB,cG,cJ,cP,cT,cU,cZ,dg,dl,du,dA,dM,dT,ef,eQ,eZ,fu,fZ,gk,gN,iM,jS,SC] cj<|acC fun F p0 p1 p2 p3 p4 p5 p6 p7 p8 p9 ak ao ap az aC aD aR aZ bl bE bO bZ ch cp cN dd=>by
 have:=@b9 F K0
 simp only[aa]at *;grind
def alo:=fb [K9,K8,K6,cB,cG,cJ,cP,cT,cU,cZ,dg,dl,du,dA,dM,dT,ef,eQ,eZ,fu,fZ,gk,gN,iM,jS,mB,SE] cj<|acD fun F p0 p1 p2 p3 p4 p5 p6 p7 p8 p9 ak ao ap az aC aD aR aZ bl bE bO bZ ch cp cN dd dE=>by
 have:=@b9 F K0
 simp only[aa]at *;grind
def alp:=fb [K9,K8,K6,cB,cG,cJ,cP,cT,cU,cZ,dg,dl,du,dA,dM,dT,ef,eQ,eZ,fu,fZ,gk,gN,iM,jS,mB,SF] cj<|acD fun F p0 p1 p2 p3 p4 p5 p6 p7 p8 p9 ak ao ap az aC aD aR aZ bl bE bO bZ ch cp cN dd dE=>by
 have:=@b9 F K0
 simp only[aa]at *;grind
def alq:=fb [K9,K8,K6,cB,cG,cJ,cP,cT,cU,cZ,dg,dl,du,dA,dM,dT,ef,eQ,eZ,fu,fZ,gk,gN,iM,jS,mB,qd,sG,SH] cj<|aHu fun F p0 p1 p2 p3 p4 p5 p6 p7 p8 p9 ak ao ap az aC aD aR aZ bl bE bO bZ ch cp cN dd dE d5 eK=>by
 have:=@b9 F K0
 simp only[aa]at *;grind
def alr:=fb [K9,K8,K6,cB,cG,cJ,cP,cT,cU,cZ,dg,dl,du,dA,dM,dT,ef,eQ,eZ,fu,fZ,gk,gN,iM,jS,mB,qd,sG,v7,SI] cj<|aHv fun F p0 p1 p2 p3 p4 p5 p6 p7 p8 p9 ak ao ap az aC aD aR aZ bl bE bO bZ ch cp cN dd dE d5 eK fD=>by
 have:=@b9 F K0
 simp only[aa]at *;grind
def als:=fb [H7,(var 3)] sI<|am fun F p0 p1=>by
 simp_all
def alu:=fb [K9,K8,K6,cB,cG,cJ,cP,cT,cU,cZ,dg,dl,du,dA,dM,dT,ef,eQ,eZ,fu,fZ,gk,gN,iM,jS,mB,qd,sG,v7,Ax,v8,H8,Ay,H7,(.not (var 3))] cj<|aHy fun F p0 p1 p2 p3 p4 p5 p6 p7 p8 p9 ak ao ap az aC aD aR aZ bl bE bO bZ ch cp cN dd dE d5 eK fD gG jb iE lV lW=>by
 have:=@b9 F K0
 simp_all
def alv:=fb [K9,K8,K6,cB,cG,cJ,cP,cT,cU,cZ,dg,dl,du,dA,dM,dT,ef,eQ,eZ,fu,fZ,gk,gN,iM,jS,mB,qd,sG,v7,Ax,v8,H8,(.not Ay)] cj<|aHx fun F p0 p1 p2 p3 p4 p5 p6 p7 p8 p9 ak ao ap az aC aD aR aZ bl bE bO bZ ch cp cN dd dE d5 eK fD gG jb iE=>by
 have:=@b9 F K0
 simp_all
def alw:=fb [K9,K8,K6,cB,cG,cJ,cP,cT,cU,cZ,dg,dl,du,dA,dM,dT,ef,eQ,eZ,fu,fZ,gk,gN,iM,jS,mB,qd,sG,v7,Ax,(.not v8)] cj<|aHw fun F p0 p1 p2 p3 p4 p5 p6 p7 p8 p9 ak ao ap az aC aD aR aZ bl bE bO bZ ch cp cN dd dE d5 eK fD gG=>by
 have:=@b9 F K0
 simp_all
def alx:=fb [K9,K8,K6,cB,cG,cJ,cP,cT,cU,cZ,dg,dl,du,dA,dM,dT,ef,eQ,eZ,fu,fZ,gk,gN,iM,jS,mB,qd,SG] cj<|aHt fun F p0 p1 p2 p3 p4 p5 p6 p7 p8 p9 ak ao ap az aC aD aR aZ bl bE bO bZ ch cp cN dd dE d5=>by
 have:=@b9 F K0
 simp only[aa]at *;grind
def aly:=fb [K9,K8,K6,cB,cG,cJ,cP,cT,cU,cZ,dg,dl,du,dA,dM,dT,ef,eQ,eZ,fu,fZ,gk,gN,iM,jS,SD] cj<|acC fun F p0 p1 p2 p3 p4 p5 p6 p7 p8 p9 ak ao ap az aC aD aR aZ bl bE bO bZ ch cp cN dd=>by
 have:=@b9 F K0
 simp only[aa]at *;grind
def alz:=fb [K9,K8,K6,cB,cG,cJ,cP,cT,cU,cZ,dg,dl,du,dA,dM,dT,ef,eQ,eZ,fu,fZ,gk,gN,iM,SB] cj<|acB fun F p0 p1 p2 p3 p4 p5 p6 p7 p8 p9 ak ao ap az aC aD aR aZ bl bE bO bZ ch cp cN=>by
 have:=@b9 F K0
 simp only[aa]at *;grind
def alA:=fb [K9,K8,K6,cB,cG,cJ,cP,cT,cU,cZ,dg,dl,du,dA,dM,dT,ef,eQ,eZ,fu,fZ,gk,gN,Sz] cj<|LI fun F p0 p1 p2 p3 p4 p5 p6 p7 p8 p9 ak ao ap az aC aD aR aZ bl bE bO bZ ch cp=>by
 have:=@b9 F K0
 simp only[aa]at *;grind
def alB:=fb [K9,K8,K6,cB,cG,cJ,cP,cT,cU,cZ,dg,dl,du,dA,dM,dT,ef,eQ,eZ,fu,fZ,gk,Sw] cj<|aHs fun F p0 p1 p2 p3 p4 p5 p6 p7 p8 p9 ak ao ap az aC aD aR aZ bl bE bO bZ ch=>by
 have:=@b9 F K0
 simp only[aa]at *;grind
def alC:=fb [K9,K8,K6,cB,cG,cJ,cP,cT,cU,cZ,dg,dl,du,dA,dM,dT,ef,eQ,eZ,fu,fZ,gk,gN,iM,jS,mB,qd,sG,v7,Ax,v8,H8,Ay,H7,(var 3),(.iff (var 4) H9),(.not Si),(.not Sk),(.not Sm),(.not So),(.not Ss),(.not Sy),(.not SA),(.not SC),(.not SE),(.not SI)] (.iff (var 4) (fn 115 K0))<|aHA fun F p0 p1 p2 p3 p4 p5 p6 p7 p8 p9 ak ao ap az aC aD aR aZ bl bE bO bZ ch cp cN dd dE d5 eK fD gG jb iE lV lW rM rN rO rP rQ rR rS rU rV pA E9=>by
 have:=ai p0
 have:=@b9 F K0
 simp only[aa]at *;grind
def alD:=fb [K9,K8,K6,cB,cG,cJ,cP,cT,cU,cZ,dg,dl,du,dA,dM,dT,ef,eQ,eZ,fu,fZ,Sv] cj<|aHr fun F p0 p1 p2 p3 p4 p5 p6 p7 p8 p9 ak ao ap az aC aD aR aZ bl bE bO bZ=>by
 have:=@b9 F K0
 simp only[aa]at *;grind
def alE:=fb [K9,K8,K6,cB,cG,cJ,cP,cT,cU,cZ,dg,dl,du,dA,dM,dT,ef,eQ,Sq] cj<|tX fun F p0 p1 p2 p3 p4 p5 p6 p7 p8 p9 ak ao ap az aC aD aR aZ bl=>by
 have:=@b9 F K0
 simp only[aa]at *;grind
def alF:=fb [K9,K8,K6,cB,cG,cJ,cP,cT,cU,cZ,dg,dl,du,dA,dM,dT,Sn] cj<|yq fun F p0 p1 p2 p3 p4 p5 p6 p7 p8 p9 ak ao ap az aC aD aR=>by
 have:=@b9 F K0
 simp only[aa]at *;grind
def alG:=fb [K9,K8,K6,cB,cG,cJ,cP,cT,cU,cZ,dg,dl,du,dA,dM,Sl] cj<|jF fun F p0 p1 p2 p3 p4 p5 p6 p7 p8 p9 ak ao ap az aC aD=>by
 have:=@b9 F K0
 simp only[aa]at *;grind
def alH:=fb [K9,K8,K6,cB,cG,cJ,cP,cT,cU,cZ,dg,dl,du,dA,Sj] cj<|yp fun F p0 p1 p2 p3 p4 p5 p6 p7 p8 p9 ak ao ap az aC=>by
 have:=@b9 F K0
 simp only[aa]at *;grind
def alI:=fb [K9,K8,K6,cB,cG,cJ,cP,cT,cU,cZ,dg,dl,du,Sh] cj<|lP fun F p0 p1 p2 p3 p4 p5 p6 p7 p8 p9 ak ao ap az=>by
 have:=@b9 F K0
 simp only[aa]at *;grind
def alJ:=fb [K9,K8,K6,cB,cG,cJ,cP,cT,cU,cZ,dg,dl,Sg] cj<|gx fun F p0 p1 p2 p3 p4 p5 p6 p7 p8 p9 ak ao ap=>by
 have:=@b9 F K0
 simp only[aa]at *;grind
def alK:=fb [K9,(cmp .lss (.int 200) (fn 9 (pr (fn 1 (pr K0 (.int 29))) (.int 5))))] cj<|am fun F p0 p1=>by
 have:=ai p0
 simp only[aa]at *;grind
def alL:=fb [K9,(cmp .lss (.int 500) (fn 9 (pr (fn 1 (pr K0 (.int 0))) (.int 12))))] cj<|am fun F p0 p1=>by
 have:=ai p0
 simp only[aa]at *;grind
def alM:=fb [K8,K6,cB,cG,cJ,cP,cT,cU,cZ,Se] cj<|eT fun F p0 p1 p2 p3 p4 p5 p6 p7 p8 p9=>by
 have:=@b9 F K0
 simp only[aa]at *;grind
def alN:=fb [K8,K6,cB,cG,cJ,cP,cT,Sb] cj<|cR fun F p0 p1 p2 p3 p4 p5 p6 p7=>by
 have:=@b9 F K0
 simp only[aa]at *;grind
def alO:=fb [K8,K6,cB,cG,cJ,R9] cj<|bL fun F p0 p1 p2 p3 p4 p5=>by
 have:=@b9 F K0
 simp only[aa]at *;grind
def alP:=fb [K8,K6,cB,R7] cj<|aw fun F p0 p1 p2 p3=>by
 have:=@b9 F K0
 simp only[aa]at *;grind
def alQ:=fb [K8,K5] cj<|am fun F p0 p1=>by
 have:=@b9 F K0
 simp only[aa]at *;grind
def bE:List Fa:=[ak5,ak6,ak7,ak8,ak9,ala,alb,alc,ald,ale,alf,alg,alh,ali,alj,alk,alm,aln,alo,alp,alq,alr,als,alu,alv,alw,alx,aly,alz,alA,alB,alC,alD,alE,alF,alG,alH,alI,alJ,alK,alL,alM,alN,alO,alP,alQ]
theorem aKN:aL Tryz.prog (bh (spV)):=sc bE ([]) adI ([]) (by kernel_rfl) (by kernel_rfl)
def adJ:Nl:=nc aKN adI
end
end Go.Proofs.YtnggbcblogpnfaaGreat.combatBlocks
