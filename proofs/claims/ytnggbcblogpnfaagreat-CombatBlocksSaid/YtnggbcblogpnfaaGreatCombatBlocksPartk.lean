/-
  CombatBlocks: contracts of functions, part 11.
-/
import Derived.Test.YtnggbcblogpnfaaGreatCombatBlocksPartj
namespace Go.Proofs.YtnggbcblogpnfaaGreat.combatBlocks
open Go.ChangeShapes Go.WideShapes Go.ChangeAt Go.RowKit
open Go.SX
open Go.SX.E (fn pr cmp var)
set_option linter.unusedVariables false
set_option linter.unusedSimpArgs false
set_option maxRecDepth 100000
noncomputable section
abbrev T0:E:=var 0
abbrev T1:E:=cmp .eql (fn 0 T0) (.int 0)
abbrev T2:E:=.imp (fn 31 T0) T1
abbrev T3:=[T2,(fn 31 T0)]
abbrev T4:E:=pr (var 1) T0
abbrev T5:E:=fn 200 T4
abbrev T6:E:=var 8
abbrev T7:E:=fn 187 (pr T6 T0)
abbrev T8:E:=pr T0 (fn 9 (pr T0 (.int 5)))
abbrev T9:E:=fn 158 T8
abbrev dw:E:=var 11
abbrev lm:E:=var 9
abbrev sX:E:=cmp .lss dw lm
abbrev Bf:E:=cmp .eql lm (fn 9 (pr T0 (.int 5)))
abbrev T14:E:=cmp .lss dw (.int 0)
abbrev Vs:E:=.not T14
abbrev T16:=[Vs]
abbrev Vt:=Bf::T16
abbrev Bg:E:=var 12
abbrev T19:E:=cmp .lss Bg dw
abbrev Vu:E:=.not T19
abbrev T21:E:=cmp .lss dw Bg
abbrev Vv:E:=.not T21
abbrev T23:E:=cmp .lss lm dw
abbrev Vw:E:=.not T23
abbrev T25:E:=cmp .lss (.int 20) (fn 9 (pr T0 (.int 5)))
abbrev T26:E:=.not T25
abbrev T27:=[T26]
abbrev Vx:=Vs::T27
abbrev T29:=Bf::Vx
abbrev Bh:=sX::T29
abbrev T31:=Vw::Vx
abbrev Vy:=Bf::T31
abbrev Vz:=sX::Vy
abbrev VA:E:=fn 190 T6
abbrev qj:E:=var 14
abbrev IY:E:=var 13
abbrev T37:E:=pr IY (fn 1 (pr T6 (fn 6 (pr (fn 8 (pr dw (.int 5))) (.int 4)))))
abbrev VB:E:=fn 200 T37
abbrev T39:=T7::Vt
abbrev T40:=VA::T39
abbrev T41:=VB::T40
abbrev VC:=sX::T41
abbrev jW:List E:=[(fn 117 T0)]
def vR:=fb T3 (fn 200 (pr (fn 10 (.int 0)) T0))<|am fun F p0 p1=>by
 have:=@aMS F (.int 0) T0
 simp only[aa]at *;grind
def vS:=fa ((fn 200 (pr T0 T0)))<|fun F=>by
 exact ag4
def rO:List Fa:=[df,vR,vS]
theorem aK7:aL Tryz.prog (bh (zy 119 d6 5 80)):=sc rO ([]) adZ ([.up d6 80]) (by kernel_rfl) (by kernel_rfl)
def ad0:Nl:=nc aK7 adZ
def rP:List Fa:=[df,vR,vS]
theorem aK8:aL Tryz.prog (bh (aJ5)):=sc rP ([]) ad0 ([.up kT 132]) (by kernel_rfl) (by kernel_rfl)
def ad2:Nl:=nc aK8 ad0
def ash:=fb [T5] (fn 187 T4)<|ah fun F p0=>by
 exact aMT p0
def asi:=fb [T5,(fn 190 T0)] (fn 190 (var 1))<|am fun F p0 p1=>by
 grind[aMU]
def asj:=fb (T7::T9::sX::Vt) (.not (cmp .lss (.int 100) (fn 9 (pr (fn 1 (pr T6 (fn 6 (pr (fn 8 (pr dw (.int 5))) (.int 4))))) (.int 2)))))<|aJ fun F p0 p1 p2 p3 p4=>by
 have:=@aMI _ _ _ dw _ p1 p0
 simp only[aa]at *;grind
def asl:=fb [(.not sX),Vu,Vv,Vw] (cmp .eql Bg lm)<|aw fun F p0 p1 p2 p3=>by
 simp only[aa]at *;grind
def asm:=fb Bh (.not (cmp .lss (.ar .add .i64 dw (.int 1)) (.int 0)))<|aw fun F p0 p1 p2 p3=>by
 simp only[aa,ae]at *
 obtain⟨a,b,c⟩:=ab (E.I F dw+1)
 omega
def asn:=fb [Bf] (.not (cmp .lss lm (.int 0)))<|ah fun F p0=>by
 have:=pw F (pr T0 (.int 5))
 simp only[aa]at *;grind
def aso:=fb Vz (.not (cmp .lss lm (.ar .add .i64 dw (.int 1))))<|aJ fun F p0 p1 p2 p3 p4=>by
 simp only[aa,ae]at *
 obtain⟨a,b,c⟩:=ab (E.I F dw+1)
 omega
def asp:=fb (VA::T7::(fn 190 T0)::T9::sX::(cmp .eql qj (fn 9 (pr (fn 1 (pr T6 (fn 6 (pr (fn 8 (pr dw (.int 5))) (.int 4))))) (.int 2))))::(.not (cmp .lss (var 15) qj))::(.not (cmp .lss qj (.int 0)))::VB::Vu::Vv::(cmp .eql Bg dw)::(.not (cmp .lss (var 10) lm))::Vy) (cmp .eql (fn 6 (pr dw (.int 1))) (.ar .add .i64 dw (.int 1)))<|yq fun F p0 p1 p2 p3 p4 p5 p6 p7 p8 p9 ak ao ap az aC aD aR=>by
 simp only[aa,ae]at *
 obtain⟨a,b,c⟩:=ab (E.I F dw+1)
 omega
def asq:=fb Bh (.not (cmp .lss (.ar .add .i64 dw (.int 1)) (fn 6 (pr dw (.int 1)))))<|aw fun F p0 p1 p2 p3=>by
 simp only[aa,ae]at *
 obtain⟨a,b,c⟩:=ab (E.I F dw+1)
 omega
def asr:=fb Bh (.not (cmp .lss (fn 6 (pr dw (.int 1))) (.ar .add .i64 dw (.int 1))))<|aw fun F p0 p1 p2 p3=>by
 simp only[aa,ae]at *
 obtain⟨a,b,c⟩:=ab (E.I F dw+1)
 omega
def ass:=fb VC (fn 187 (pr (fn 2 (pr T6 (pr (fn 6 (pr (fn 8 (pr dw (.int 5))) (.int 4))) (fn 28 (pr (pr (var 16) qj) IY))))) T0))<|bL fun F p0 p1 p2 p3 p4 p5=>by
 have:=fun h0 h1=>(@ag1 _ _ _ _ _ p3 p2 h0 h1 (show E.B F (fn _ (pr (fn 28 (pr (pr (var 16) qj) _)) _))=true from p1) rfl).1
 simp only[aa]at *;grind
def ast:=fb VC (fn 190 (fn 2 (pr T6 (pr (fn 6 (pr (fn 8 (pr dw (.int 5))) (.int 4))) (fn 28 (pr (pr (var 16) qj) IY))))))<|bL fun F p0 p1 p2 p3 p4 p5=>by
 have:=fun h0 h1=>(@ag1 _ _ _ _ _ p3 p2 h0 h1 (show E.B F (fn _ (pr (fn 28 (pr (pr (var 16) qj) _)) _))=true from p1) rfl).2
 simp only[aa]at *;grind
def asu:=fb Bh (cmp .lss (fn 7 (pr lm (.ar .add .i64 dw (.int 1)))) (fn 7 (pr lm dw)))<|aw fun F p0 p1 p2 p3=>by
 simp only[aa,ae]at *
 obtain⟨a,b,c⟩:=ab (E.I F dw+1)
 omega
def asv:=fb Vz (.not (cmp .lss (fn 7 (pr lm (.ar .add .i64 dw (.int 1)))) (.int 0)))<|aJ fun F p0 p1 p2 p3 p4=>by
 simp only[aa,ae]at *
 obtain⟨a,b,c⟩:=ab (E.I F dw+1)
 omega
def rQ:List Fa:=[df,ash,asi,asj,asl,asm,asn,aso,asp,asq,asr,ass,ast,asu,asv]
theorem aK9:aL Tryz.prog (bh (aKA)):=sc rQ (aFq) ad2 ([.up d6 80]) (by kernel_rfl) (by kernel_rfl)
def ad3:Nl:=nc aK9 ad2
def rR:List Fa:=[df,vR,vS]
theorem aLb:aL Tryz.prog (bh (zy 92 kO 12 60)):=sc rR ([]) ad3 ([.up kO 60]) (by kernel_rfl) (by kernel_rfl)
def ad4:Nl:=nc aLb ad3
def asw:=fb [(.not (cmp .lss (.int 100) (fn 9 (pr T0 (.int 1)))))] (.not (cmp .lss (.int 2147483648) (fn 0 T0)))<|ah fun F p0=>by
 have:=@jM F T0
 simp only[aa]at *;grind
def asx:=fb T3 (cmp .eql (fn 9 (pr T0 (.int 1))) (.int 0))<|am fun F p0 p1=>by
 simp_all[jM]
def asy:=fa ((cmp .eql (fn 0 T0) (fn 9 (pr T0 (.int 1)))))<|fun F=>by
 have:=@jM F T0
 simp only[aa]at *;grind
def rS:List Fa:=[df,vR,asw,asx,vS,asy]
theorem aLc:aL Tryz.prog (bh (zy 93 kI 1 3)):=sc rS ([]) ad4 ([.up kI 3]) (by kernel_rfl) (by kernel_rfl)
def ad5:Nl:=nc aLc ad4
def rU:List Fa:=[df,vR,vS]
theorem aLd:aL Tryz.prog (bh (zy 94 kT 2 47)):=sc rU ([]) ad5 ([.up kT 47]) (by kernel_rfl) (by kernel_rfl)
def ad6:Nl:=nc aLd ad5
def asz:=fb jW (.not (cmp .lss (.int 100) (fn 9 (pr (fn 1 (pr T0 (.int 0))) (.int 12)))))<|ah fun F p0=>by
 have:=ai p0
 simp only[aa]at *;omega
def asA:=fb jW (.not (cmp .lss (.int 100) (fn 9 (pr (fn 1 (pr T0 (.int 31))) (.int 1)))))<|ah fun F p0=>by
 have:=@jM F (fn 1 (pr T0 (.int 31)))
 have:=@gi F T0
 simp only[aa]at *;grind
def asB:=fb jW (.not (cmp .lss (.int 100) (fn 9 (pr (fn 1 (pr T0 (.int 32))) (.int 2)))))<|ah fun F p0=>by
 have:=ai p0
 simp only[aa]at *;omega
def asC:=fb jW (.not (cmp .lss (.int 100) (fn 9 (pr (fn 1 (pr T0 (.int 6))) (.int 1)))))<|ah fun F p0=>by
 have:=@jM F (fn 1 (pr T0 (.int 6)))
 have:=@gi F T0
 have:=@kX F T0
 simp only[aa]at *;grind
def asD:=fb jW (.not (cmp .lss (.int 100) (fn 9 (pr (fn 1 (pr T0 (.int 7))) (.int 1)))))<|ah fun F p0=>by
 have:=@jM F (fn 1 (pr T0 (.int 7)))
 have:=@gi F T0
 have:=@kX F T0
 simp only[aa]at *;grind
def asE:=fb jW (.not (cmp .lss (.int 100) (fn 9 (pr (fn 1 (pr T0 (.int 8))) (.int 1)))))<|ah fun F p0=>by
 have:=@jM F (fn 1 (pr T0 (.int 8)))
 have:=@gi F T0
 have:=@kX F T0
 simp only[aa]at *;grind
def asF:=fb jW (.not (cmp .lss (.int 100) (fn 9 (pr (fn 1 (pr T0 (.int 9))) (.int 1)))))<|ah fun F p0=>by
 have:=@jM F (fn 1 (pr T0 (.int 9)))
 have:=@gi F T0
 have:=@kX F T0
 simp only[aa]at *;grind
def asG:=fb jW (.not (cmp .lss (.int 100) (fn 9 (pr (fn 1 (pr T0 (.int 20))) (.int 1)))))<|ah fun F p0=>by
 have:=@jM F (fn 1 (pr T0 (.int 20)))
 have:=@gi F T0
 have:=@kX F T0
 simp only[aa]at *;grind
def asH:=fb jW (.not (cmp .lss (.int 100) (fn 9 (pr (fn 1 (pr T0 (.int 21))) (.int 1)))))<|ah fun F p0=>by
 have:=@jM F (fn 1 (pr T0 (.int 21)))
 have:=@gi F T0
 have:=@kX F T0
 simp only[aa]at *;grind
def asI:=fb jW (.not (cmp .lss (.int 100) (fn 9 (pr (fn 1 (pr T0 (.int 22))) (.int 1)))))<|ah fun F p0=>by
 have:=@jM F (fn 1 (pr T0 (.int 22)))
 have:=@gi F T0
 have:=@kX F T0
 simp only[aa]at *;grind
def asJ:=fb jW (.not (cmp .lss (.int 100) (fn 9 (pr (fn 1 (pr T0 (.int 23))) (.int 1)))))<|ah fun F p0=>by
 have:=@jM F (fn 1 (pr T0 (.int 23)))
 have:=@gi F T0
 have:=@kX F T0
 simp only[aa]at *;grind
def rV:List Fa:=[df,asz,asA,asB,mw,vP,Af,sy,vQ,Ag,asC,asD,asE,asF,asG,asH,asI,asJ]
theorem aLe:aL Tryz.prog (bh (aJX)):=sc rV ([]) ad6 ([]) (by kernel_rfl) (by kernel_rfl)
def ad7:Nl:=nc aLe ad6
end
end Go.Proofs.YtnggbcblogpnfaaGreat.combatBlocks
