/-
  PayPays: contracts of functions, part 18.
-/
import Derived.Test.YtnnbmcfabojjjaaGreatPayPaysPartq
namespace Go.Proofs.YtnnbmcfabojjjaaGreat.payPays
open Go.ChangeShapes Go.WideShapes Go.ChangeAt Go.RowKit
open Go.SX
open Go.SX.E (fn pr cmp var)
set_option linter.unusedVariables false
set_option linter.unusedSimpArgs false
set_option maxRecDepth 100000
noncomputable section
abbrev aK:E:=var 0
abbrev nG:E:=var 10
abbrev nH:E:=var 11
abbrev tD:E:=var 15
abbrev jb:E:=var 1
abbrev Av:E:=var 12
abbrev wz:E:=var 8
abbrev wA:E:=var 9
abbrev Aw:E:=var 2
abbrev Fy:E:=pr (var 3) (pr (var 4) (pr (var 5) (pr (var 6) (pr (var 7) (pr aK (pr jb (pr Aw (.int 0))))))))
abbrev Ng:E:=pr Av Fy
abbrev aPx:E:=pr nG (pr nH Ng)
abbrev aPy:E:=pr wA aPx
abbrev aPz:E:=pr wz aPy
abbrev ac5:E:=fn 183 aPz
abbrev ac6:E:=fn 196 (pr tD jb)
abbrev Fv:E:=cmp .eql Aw (.int 0)
abbrev qS:E:=fn 145 (pr jb Aw)
abbrev Fw:E:=pr (fn 10 (.int 0)) Fy
abbrev aPA:E:=pr nG (pr nH Fw)
abbrev aPB:E:=pr wA aPA
abbrev aPC:E:=pr wz aPB
abbrev ac7:E:=fn 183 aPC
abbrev ac8:E:=fn 196 (pr Av jb)
abbrev Fx:E:=fn 116 jb
abbrev pu:E:=var 27
abbrev lq:E:=var 24
abbrev Nh:E:=fn 199 (pr pu (pr lq Fy))
abbrev kr:E:=var 32
abbrev ja:E:=var 28
abbrev iN:E:=var 30
abbrev ac9:E:=fn 116 (fW pu (fn 28 (pr (pr kr ja) iN)))
abbrev dx:E:=var 31
abbrev ww:E:=var 25
abbrev wx:E:=cmp .lss dx ww
abbrev Ni:E:=cmp .eql (fn 0 lq) ww
abbrev aPD:E:=pr (fn 1 (pr jb (.int 0))) (pr lq dx)
abbrev aPE:E:=pr iN aPD
abbrev ada:E:=fn 220 aPE
abbrev aPF:E:=.not (cmp .lss ww dx)
abbrev adb:=[aPF]
abbrev aPG:E:=pr (fW pu (fn 28 (pr (pr kr ja) iN))) Fy
abbrev adc:E:=fn 198 aPG
abbrev Nj:E:=fn 199 (pr pu Fw)
abbrev aPH:E:=pr (fn 10 (.int 0)) dx
abbrev aPI:E:=pr (fn 1 (pr jb (.int 0))) aPH
abbrev aPJ:E:=pr iN aPI
abbrev ade:E:=fn 220 aPJ
abbrev wy:E:=.not (cmp .lss dx (.int 0))
abbrev aPK:=[ada]
abbrev Nk:=Nh::aPK
abbrev adf:E:=fn 117 (fW pu (fn 28 (pr (pr kr ja) iN)))
abbrev tE:E:=var 33
abbrev Nm:E:=cmp .eql tE (fn 120 (pr (fW pu (fn 28 (pr (pr kr ja) iN))) (pr (fn 1 (pr lq dx)) (fn 9 (pr (fn 28 (pr (pr kr ja) iN)) (.int 12))))))
abbrev aPL:=Ni::Nk
abbrev adg:=qS::aPL
abbrev aPM:E:=cmp .lss (.int 30) ww
abbrev Nn:E:=.not aPM
abbrev aPN:=[Nn]
abbrev aPO:=wy::aPN
abbrev No:=wx::aPO
def axt:=fb [(fn 116 aK),(fn 195 nG),(fn 187 (pr nG (fn 1 (pr aK (.int 29))))),(fn 195 nH),(fn 187 (pr nH (fn 1 (pr aK (.int 30)))))] (fn 196 (pr (dt [(fn 1 (pr aK (.int 0))),(fn 1 (pr aK (.int 1))),(fn 1 (pr aK (.int 2))),(fn 1 (pr aK (.int 3))),(fn 1 (pr aK (.int 4))),(fn 1 (pr aK (.int 5))),(fn 28 (pr (pr (var 14) (fn 0 (fn 1 (pr aK (.int 6))))) (fn 1 (pr aK (.int 6))))),(fn 28 (pr (pr tD (fn 0 (fn 1 (pr aK (.int 7))))) (fn 1 (pr aK (.int 7))))),(fn 28 (pr (pr (var 16) (fn 0 (fn 1 (pr aK (.int 8))))) (fn 1 (pr aK (.int 8))))),(fn 28 (pr (pr (var 17) (fn 0 (fn 1 (pr aK (.int 9))))) (fn 1 (pr aK (.int 9))))),(fn 1 (pr aK (.int 10))),(fn 1 (pr aK (.int 11))),(fn 1 (pr aK (.int 12))),(fn 1 (pr aK (.int 13))),(fn 1 (pr aK (.int 14))),(fn 1 (pr aK (.int 15))),(fn 1 (pr aK (.int 16))),(fn 1 (pr aK (.int 17))),(fn 1 (pr aK (.int 18))),(fn 1 (pr aK (.int 19))),(fn 28 (pr (pr (var 18) (fn 0 (fn 1 (pr aK (.int 20))))) (fn 1 (pr aK (.int 20))))),(fn 28 (pr (pr (var 19) (fn 0 (fn 1 (pr aK (.int 21))))) (fn 1 (pr aK (.int 21))))),(fn 28 (pr (pr (var 20) (fn 0 (fn 1 (pr aK (.int 22))))) (fn 1 (pr aK (.int 22))))),(fn 28 (pr (pr (var 21) (fn 0 (fn 1 (pr aK (.int 23))))) (fn 1 (pr aK (.int 23))))),(fn 1 (pr aK (.int 24))),(fn 1 (pr aK (.int 25))),(fn 1 (pr aK (.int 26))),(fn 1 (pr aK (.int 27))),(fn 1 (pr aK (.int 28))),nG,nH,(fn 28 (pr (pr (var 22) (fn 0 (fn 1 (pr aK (.int 31))))) (fn 1 (pr aK (.int 31))))),(fn 28 (pr (pr (var 23) (fn 9 (pr (fn 1 (pr aK (.int 32))) (.int 2)))) (fn 1 (pr aK (.int 32))))),(fn 1 (pr aK (.int 33))),(fn 1 (pr aK (.int 34))),(fn 1 (pr aK (.int 35))),(fn 1 (pr aK (.int 36))),(fn 1 (pr aK (.int 37)))]) aK))<|aw fun F p0 p1 p2 p3 p4=>by
 have h1:=@a5R F aK ([(fn 1 (pr aK (.int 0))),(fn 1 (pr aK (.int 1))),(fn 1 (pr aK (.int 2))),(fn 1 (pr aK (.int 3))),(fn 1 (pr aK (.int 4))),(fn 1 (pr aK (.int 5))),(fn 28 (pr (pr (var 14) (fn 0 (fn 1 (pr aK (.int 6))))) (fn 1 (pr aK (.int 6))))),(fn 28 (pr (pr tD (fn 0 (fn 1 (pr aK (.int 7))))) (fn 1 (pr aK (.int 7))))),(fn 28 (pr (pr (var 16) (fn 0 (fn 1 (pr aK (.int 8))))) (fn 1 (pr aK (.int 8))))),(fn 28 (pr (pr (var 17) (fn 0 (fn 1 (pr aK (.int 9))))) (fn 1 (pr aK (.int 9))))),(fn 1 (pr aK (.int 10))),(fn 1 (pr aK (.int 11))),(fn 1 (pr aK (.int 12))),(fn 1 (pr aK (.int 13))),(fn 1 (pr aK (.int 14))),(fn 1 (pr aK (.int 15))),(fn 1 (pr aK (.int 16))),(fn 1 (pr aK (.int 17))),(fn 1 (pr aK (.int 18))),(fn 1 (pr aK (.int 19))),(fn 28 (pr (pr (var 18) (fn 0 (fn 1 (pr aK (.int 20))))) (fn 1 (pr aK (.int 20))))),(fn 28 (pr (pr (var 19) (fn 0 (fn 1 (pr aK (.int 21))))) (fn 1 (pr aK (.int 21))))),(fn 28 (pr (pr (var 20) (fn 0 (fn 1 (pr aK (.int 22))))) (fn 1 (pr aK (.int 22))))),(fn 28 (pr (pr (var 21) (fn 0 (fn 1 (pr aK (.int 23))))) (fn 1 (pr aK (.int 23))))),(fn 1 (pr aK (.int 24))),(fn 1 (pr aK (.int 25))),(fn 1 (pr aK (.int 26))),(fn 1 (pr aK (.int 27))),(fn 1 (pr aK (.int 28))),nG,nH,(fn 28 (pr (pr (var 22) (fn 0 (fn 1 (pr aK (.int 31))))) (fn 1 (pr aK (.int 31))))),(fn 28 (pr (pr (var 23) (fn 9 (pr (fn 1 (pr aK (.int 32))) (.int 2)))) (fn 1 (pr aK (.int 32))))),(fn 1 (pr aK (.int 33))),(fn 1 (pr aK (.int 34))),(fn 1 (pr aK (.int 35))),(fn 1 (pr aK (.int 36))),(fn 1 (pr aK (.int 37)))]) rfl;exact h1 (aXH (eE 1 rfl rfl (eE 2 rfl rfl (eE 3 rfl rfl (eE 4 rfl rfl (eE 5 rfl rfl (ol 6 rfl rfl (by decide) p0 oR oS (ol 7 rfl rfl (by decide) p0 oR oS (ol 8 rfl rfl (by decide) p0 oR oS (ol 9 rfl rfl (by decide) p0 oR oS (eE 10 rfl rfl (eE 11 rfl rfl (eE 12 rfl rfl (eE 13 rfl rfl (eE 14 rfl rfl (eE 15 rfl rfl (eE 16 rfl rfl (eE 17 rfl rfl (eE 18 rfl rfl (eE 19 rfl rfl (ol 20 rfl rfl (by decide) p0 oR oS (ol 21 rfl rfl (by decide) p0 oR oS (ol 22 rfl rfl (by decide) p0 oR oS (ol 23 rfl rfl (by decide) p0 oR oS (eE 24 rfl rfl (eE 25 rfl rfl (eE 26 rfl rfl (eE 27 rfl rfl (eE 28 rfl rfl (ai1 29 rfl rfl p2 p1 (ai1 30 rfl rfl p4 p3 (ol 31 rfl rfl (by decide) p0 oR oS (ol 32 rfl rfl (by decide) p0 oR oS (eE 33 rfl rfl (eE 34 rfl rfl (eE 35 rfl rfl (eE 36 rfl rfl (eE 37 rfl rfl trivial))))))))))))))))))))))))))))))))))))))
def axu:=fa ((fn 200 (pr (fn 1 (pr aK (.int 0))) (fn 1 (pr aK (.int 0))))))<|fun F=>by
 exact ap1
def p77:List Fa:=[dv,LN,LO,LP,LQ,LR,LS,LU,LV,LW,pd,zK,Eg,vY,zL,Eh,LX,LY,axt,axu]
theorem a3R:aI Tryz.prog (aX (a2s)):=sc p77 ([]) kV (aZW) (by kernel_rfl) (by kernel_rfl)
def aZZ:Nl:=nc a3R Js
def axv:=fb [(fn 200 (pr (var 18) (fn 1 (pr jb (.int 0)))))] (fn 220 (pr (var 18) (pr (fn 1 (pr jb (.int 0))) (pr Av (.int 0)))))<|aj fun F p0=>by
 exact ap6 p0 (Int.le_refl _)
def axx:=fb [(fn 200 (pr tD (fn 1 (pr jb (.int 0)))))] (fn 220 (pr tD (pr (fn 1 (pr jb (.int 0))) (pr (fn 10 (.int 0)) (.int 0)))))<|aj fun F p0=>by
 exact ap6 p0 (Int.le_refl _)
def axy:=fb [ac5,ac6,Fv] (fn 199 (pr (yT 0 tD wz wA nG nH) Ng))<|ag fun F p0 p1 p2=>by
 have hq:=by
  simp only[aa]at *;omega
 have h1:=KU 0 (by decide) p1 p0 hq;exact h1
def axz:=fb [ac5,ac6,(.not Fv),qS] (fn 199 (pr (yT 1 tD wz wA nG nH) Ng))<|am fun F p0 p1 p2 p3=>by
 have hq:E.I F Aw=1:=by
  have:=Eq.mp dX p3
  simp only[aa]at *;omega
 have h1:=KU 1 (by decide) p1 p0 hq;exact h1
def axA:=fb [ac7,ac8,Fv] (fn 199 (pr (yT 0 Av wz wA nG nH) Fw))<|ag fun F p0 p1 p2=>by
 have hq:=by
  simp only[aa]at *;omega
 have h1:=KU 0 (by decide) p1 p0 hq;exact h1
def axB:=fb [ac7,ac8,(.not Fv),qS] (fn 199 (pr (yT 1 Av wz wA nG nH) Fw))<|am fun F p0 p1 p2 p3=>by
 have hq:E.I F Aw=1:=by
  have:=Eq.mp dX p3
  simp only[aa]at *;omega
 have h1:=KU 1 (by decide) p1 p0 hq;exact h1
def axC:=fb [qS,Fx,Nh] ac9<|ag fun F p0 p1 p2=>by
 have h1:=@aoV _ iN _ _ _ _ _ _ (pr kr ja) _ _ _ _ p2 p1 p0;exact h1
def axD:=fb ((.not wx)::Ni::Nh::ada::adb) adc<|aw fun F p0 p1 p2 p3 p4=>by
 have hi:E.I F (fn 0 lq)<=E.I F dx:=by
  simp only[aa]at *;omega
 exact @ap0 _ _ _ _ _ _ _ _ _ _ _ _ _ _ p2 p3 hi
def axE:=fb [Nj,ade,(.not (cmp .lss (.int 0) dx)),wy] adc<|am fun F p0 p1 p2 p3=>by
 have:=@aZd F (.int 0)
 have hi:E.I F (fn 0 (fn 10 (.int 0)))<=E.I F dx:=by
  simp only[aa]at *;omega
 exact @ap0 _ _ _ _ _ _ _ _ _ _ _ _ _ _ p0 p1 hi
def axF:=fb (qS::(fn 117 jb)::Fx::Nk) adf<|aw fun F p0 p1 p2 p3 p4=>by
 exact @aoW _ _ _ _ _ _ _ _ _ _ _ _ _ _ p3 p4 p2 p1 p0
def axG:=fb [Nj,qS,Fx] ac9<|ag fun F p0 p1 p2=>by
 have h1:=@aoV _ iN _ _ _ _ _ _ (pr kr ja) _ _ _ _ p0 p2 p1;exact h1
def axI:=fb (wx::Nm::wy::adg) (.not (cmp .lss tE (.int 0)))<|bL fun F p0 p1 p2 p3 p4 p5 p6=>by
 have ej:E.I F tE=E.I F (fn 120 (pr (fW pu (fn 28 (pr (pr kr ja) iN))) (pr (fn 1 (pr lq dx)) (fn 9 (pr (fn 28 (pr (pr kr ja) iN)) (.int 12)))))):=by
  simp only[aa]at *;omega
 have h0:0<=E.I F dx:=by
  simp only[aa]at *;omega
 have h1:E.I F dx<E.I F (fn 0 lq):=by
  simp only[aa]at *;omega
 have:=@ap5 _ _ _ _ _ _ _ _ _ _ _ _ _ _ _ p5 p6 p3 h0 h1 ej
 simp only[aa]at *;omega
def axJ:=fb [Nj,ade,qS,(fn 117 jb),Fx] adf<|aw fun F p0 p1 p2 p3 p4=>by
 exact @aoW _ _ _ _ _ _ _ _ _ _ _ _ _ _ p0 p1 p4 p3 p2
def axK:=fb (wx::Nm::wy::(cmp .eql ja (fn 9 (pr (fn 1 (pr jb (.int 0))) (.int 12))))::adg) (cmp .lss tE ja)<|b7 fun F p0 p1 p2 p3 p4 p5 p6 p7=>by
 have ej:E.I F tE=E.I F (fn 120 (pr (fW pu (fn 28 (pr (pr kr ja) iN))) (pr (fn 1 (pr lq dx)) (fn 9 (pr (fn 28 (pr (pr kr ja) iN)) (.int 12)))))):=by
  simp only[aa]at *;omega
 have h0:0<=E.I F dx:=by
  simp only[aa]at *;omega
 have h1:E.I F dx<E.I F (fn 0 lq):=by
  simp only[aa]at *;omega
 have:=@ap5 _ _ _ _ _ _ _ _ _ _ _ _ _ _ _ p6 p7 p4 h0 h1 ej
 simp only[aa]at *;omega
def axL:=fb No (.not (cmp .lss (.ar .add .i64 dx (.int 1)) (.int 0)))<|ag fun F p0 p1 p2=>by
 simp only[aa,ab]at *
 obtain⟨a,b,c⟩:=ae (E.I F dx+1)
 omega
def axM:=fb (wx::wy::Nn::adb) (.not (cmp .lss ww (.ar .add .i64 dx (.int 1))))<|am fun F p0 p1 p2 p3=>by
 simp only[aa,ab]at *
 obtain⟨a,b,c⟩:=ae (E.I F dx+1)
 omega
def axN:=fb (wx::Nm::wy::qS::Ni::Nn::(.not (cmp .lss ww (.int 1)))::Nk) (fn 220 (pr (fn 2 (pr iN (pr (fn 6 (pr (fn 8 (pr tE (.int 12))) (.int 9))) (.bool true)))) (pr (fn 1 (pr jb (.int 0))) (pr lq (.ar .add .i64 dx (.int 1))))))<|b8 fun F p0 p1 p2 p3 p4 p5 p6 p7 p8=>by
 have ej:E.I F tE=E.I F (fn 120 (pr (fW pu (fn 28 (pr (pr kr ja) iN))) (pr (fn 1 (pr lq dx)) (fn 9 (pr (fn 28 (pr (pr kr ja) iN)) (.int 12)))))):=by
  simp only[aa]at *;omega
 have h0:0<=E.I F dx:=by
  simp only[aa]at *;omega
 have h1:E.I F dx<E.I F (fn 0 lq):=by
  simp only[aa]at *;omega
 have:=@ay F dx (.int 1)
 have hm:E.I F (.ar .add .i64 dx (.int 1))=E.I F dx+1:=by
  simp only[aa]at *;omega
 exact @a5W _ _ _ _ _ _ _ _ _ _ _ _ _ _ _ _ p7 p8 p3 ej h0 h1 hm
def axO:=fb No (cmp .lss (fn 7 (pr (.int 30) (.ar .add .i64 dx (.int 1)))) (fn 7 (pr (.int 30) dx)))<|ag fun F p0 p1 p2=>by
 simp only[aa,ab]at *
 obtain⟨a,b,c⟩:=ae (E.I F dx+1)
 omega
def axP:=fb No (.not (cmp .lss (fn 7 (pr (.int 30) (.ar .add .i64 dx (.int 1)))) (.int 0)))<|ag fun F p0 p1 p2=>by
 simp only[aa,ab]at *
 obtain⟨a,b,c⟩:=ae (E.I F dx+1)
 omega
def p78:List Fa:=[dv,axv,axx,axy,axz,axA,axB,axC,axD,axE,axF,axG,axI,axJ,axK,axL,axM,axN,axO,axP]
theorem a3S:aI Tryz.prog (aX (a2t)):=sc p78 (aWb) aZZ ([.down kO]) (by kernel_rfl) (by kernel_rfl)
def aZ0:Nl:=nc a3S aZZ
def p79:List Fa:=[dv,LN,LO,LP,LQ,LR,LS,LU,LV,LW,pd,zK,Eg,vY,zL,Eh,LX,LY,YS]
theorem a3T:aI Tryz.prog (aX (aoz)):=sc p79 ([]) kV (yw) (by kernel_rfl) (by kernel_rfl)
def amy:Nl:=nc a3T aZ0
end
end Go.Proofs.YtnnbmcfabojjjaaGreat.payPays
