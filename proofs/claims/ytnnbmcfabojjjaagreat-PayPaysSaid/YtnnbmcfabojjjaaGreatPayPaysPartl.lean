/-
  PayPays: contracts of functions, part 12.
-/
import Derived.Test.YtnnbmcfabojjjaaGreatPayPaysPartk
namespace Go.Proofs.YtnnbmcfabojjjaaGreat.payPays
open Go.ChangeShapes Go.WideShapes Go.ChangeAt Go.RowKit
open Go.SX
open Go.SX.E (fn pr cmp var)
set_option linter.unusedVariables false
set_option linter.unusedSimpArgs false
set_option maxRecDepth 100000
noncomputable section
abbrev dK:E:=var 49
abbrev QQ1:E:=cmp .lss dK (.int 0)
abbrev wC:E:=.not QQ1
abbrev db:E:=var 36
abbrev FC:E:=cmp .lss dK (fn 0 db)
abbrev bY:E:=var 26
abbrev kv:E:=cmp .lss bY (.int 4)
abbrev fk:E:=var 32
abbrev fC:E:=var 33
abbrev f6:E:=var 34
abbrev gN:E:=var 35
abbrev bM:E:=var 42
abbrev cC:E:=var 3
abbrev cD:E:=var 4
abbrev cF:E:=var 5
abbrev cG:E:=var 6
abbrev mu:E:=var 0
abbrev jc:E:=var 1
abbrev FB:E:=pr cC (pr cD (pr cF (pr cG (pr mu (pr jc (pr (var 2) (.int 0)))))))
abbrev adm:E:=pr bY (pr bM FB)
abbrev wD:E:=fn 178 (pr fk (pr fC (pr f6 (pr gN (pr db (pr (fn 10 (.int 0)) adm))))))
abbrev aPW:E:=pr jc (var 2)
abbrev adn:E:=fn 145 aPW
abbrev ado:E:=fn 117 jc
abbrev tF:=[adn,ado]
abbrev aPX:E:=cmp .lss (fn 120 (pr jc (pr (fn 1 (pr db dK)) (fn 9 (pr (fn 1 (pr jc (.int 0))) (.int 12)))))) (.int 0)
abbrev adp:E:=.not aPX
abbrev lr:E:=cmp .lss bM (fn 1 (pr (fn 23 (pr cC (fn 23 (pr cD (fn 23 (pr cF (fn 23 (pr cG (fn 10 (.int 0)))))))))) bY))
abbrev ku:E:=.not (cmp .lss (fn 1 (pr (fn 23 (pr cC (fn 23 (pr cD (fn 23 (pr cF (fn 23 (pr cG (fn 10 (.int 0)))))))))) bY)) bM)
abbrev aPY:E:=cmp .lss dK (.int (-1))
abbrev aPZ:E:=.not aPY
abbrev aP0:E:=cmp .lss (.int 40) (fn 0 db)
abbrev aP1:E:=.not aP0
abbrev wE:=[aP1]
abbrev aP2:=aPZ::wE
abbrev aP3:=FC::aP2
abbrev adq:=wC::aP3
abbrev pw:E:=var 48
abbrev ads:E:=cmp .eql pw (fn 179 (pr (fn 19 (pr db (fn 6 (pr dK (.int 1))))) (pr bY (pr mu (pr jc (.int 0))))))
abbrev tG:E:=cmp .eql pw (fn 179 (pr db (pr bY (pr mu (pr jc (.int 0))))))
abbrev Nt:=FC::wE
abbrev adt:=wC::Nt
abbrev adu:E:=cmp .eql (var 50) (fn 150 (pr mu (pr jc (fn 1 (pr db dK)))))
abbrev adv:E:=cmp .eql (var 50) bY
abbrev AA:E:=fn 178 (pr fk (pr fC (pr f6 (pr gN (pr db (pr (var 39) adm))))))
abbrev Nu:E:=cmp .lss (.int 0) fk
abbrev adw:E:=pr gN (.int 0)
abbrev adx:E:=pr f6 adw
abbrev ady:E:=pr fC adx
abbrev aP4:E:=pr fk ady
abbrev adz:E:=fn 188 aP4
abbrev qT:=[adz]
abbrev tH:E:=cmp .eql bY (.int 0)
abbrev tI:E:=cmp .lss bM cC
abbrev nJ:E:=.not (cmp .lss bY (.int 0))
abbrev aP5:=[nJ,wD]
abbrev aP6:=kv::aP5
abbrev FD:=ku::aP6
abbrev FE:E:=fn 178 (pr fk (pr fC (pr f6 (pr gN (pr db (pr (fn 10 (.int 0)) (pr (fn 6 (pr bY (.int 1))) (pr (.int 0) FB))))))))
abbrev Nv:E:=cmp .lss (.int 0) fC
abbrev tJ:E:=cmp .eql bY (.int 1)
abbrev tK:E:=cmp .lss bM cD
abbrev Nw:E:=cmp .lss (.int 0) f6
abbrev tL:E:=cmp .eql bY (.int 2)
abbrev tN:E:=cmp .lss bM cF
abbrev Nx:E:=cmp .lss (.int 0) gN
abbrev AB:E:=.not tH
abbrev AC:E:=.not tJ
abbrev AD:E:=.not tL
abbrev tO:E:=cmp .lss bM cG
abbrev adA:=[kv,nJ]
abbrev nK:E:=.not (cmp .lss bM (.int 0))
abbrev eQ:E:=var 7
abbrev fB:E:=fn 146 (pr cC (pr cD (pr cF (pr cG eQ))))
abbrev aP7:=[adz,fB]
abbrev adB:=wD::aP7
abbrev Ny:=nK::adB
abbrev Nz:E:=pr bY (pr (.ar .add .i64 bM (.int 1)) FB)
abbrev aP8:E:=pr (fn 10 (.int 0)) Nz
abbrev adC:E:=pr db aP8
abbrev adD:E:=pr gN adC
abbrev adE:E:=pr f6 adD
abbrev nL:E:=fn 185 (pr fk (pr fC (pr f6 (pr gN (pr bY (.int 0))))))
abbrev lu:=[nK]
abbrev AE:E:=.not (cmp .lss (.ar .add .i64 bM (.int 1)) (.int 0))
abbrev aP9:E:=cmp .lss (.int 20) bM
abbrev adF:E:=.not aP9
abbrev adG:=adF::lu
abbrev NB:=ku::adG
abbrev aQa:=tI::NB
abbrev aQb:=tH::aQa
abbrev adH:=fB::aQb
abbrev AF:E:=.not (cmp .lss (.int 20) (.ar .add .i64 bM (.int 1)))
abbrev aQc:=tK::NB
abbrev aQd:=tJ::aQc
abbrev adI:=fB::aQd
abbrev aQe:=tN::NB
abbrev aQf:=tL::aQe
abbrev adJ:=fB::aQf
abbrev aQg:=tO::adG
abbrev adh:=fB::aQg
abbrev Ax:E:=.not (cmp .lss (fn 1 (pr (fn 23 (pr cC (fn 23 (pr cD (fn 23 (pr cF (fn 23 (pr cG (fn 10 (.int 0)))))))))) bY)) (.ar .add .i64 bM (.int 1)))
abbrev Fz:=nK::adA
abbrev Ay:E:=cmp .lss (fn 7 (pr (.int 20) (.ar .add .i64 bM (.int 1)))) (fn 7 (pr (.int 20) bM))
abbrev Np:E:=cmp .eql pw (.int 0)
abbrev aPR:E:=pr (.int 4) (pr eQ FB)
abbrev adi:E:=fn 177 aPR
abbrev pv:E:=var 51
abbrev wB:E:=var 40
abbrev Az:E:=.not (cmp .lss (fn 7 (pr (.int 20) (.ar .add .i64 bM (.int 1)))) (.int 0))
abbrev Nq:E:=.not Np
abbrev Nr:E:=fn 184 (pr pv (pr db (pr pw (fn 0 db))))
abbrev aPS:=[ado,Nq,Nr]
abbrev adj:=adn::aPS
abbrev Ns:E:=cmp .eql (fn 0 (var 39)) wB
abbrev adk:=lr::fB::Fz
abbrev aPT:=adF::Fz
abbrev aPU:=ku::aPT
abbrev aPV:=fB::aPU
abbrev adl:=lr::aPV
def auj:=fb (wC::FC::kv::wD::tF) adp<|bq fun F p0 p1 p2 p3 p4 p5=>by
 have:=apE p3 p4 p5 (i:=dK)
 simp only[aa]at *;grind
def VR:=fb [lr] ku<|aj fun F p0=>by
 simp only[aa]at *;grind
def VS:=fb adq (.not (cmp .lss (.ar .sub .i64 dK (.int 1)) (.int (-1))))<|am fun F p0 p1 p2 p3=>by
 simp only[aa,ab]at *
 obtain⟨a,b,c⟩:=ae ((E.I F dK)-(1))
 omega
def VT:=fb [QQ1,ads] tG<|ai fun F p0 p1=>by
 have:=@a5p F bY (fn 6 (pr dK (.int 1))) db mu jc
 simp only[aa]at *;grind
def VU:=fb adt (cmp .lss (.ar .sub .i64 dK (.int 1)) (fn 0 db))<|ag fun F p0 p1 p2=>by
 simp only[aa,ab]at *
 obtain⟨a,b,c⟩:=ae ((E.I F dK)-(1))
 omega
def VV:=fb (wC::adu::adv::Nt) (cmp .eql (fn 1 (pr db dK)) (fn 179 (pr (fn 19 (pr db (fn 6 (pr (.ar .sub .i64 dK (.int 1)) (.int 1))))) (pr bY (pr mu (pr jc (.int 0)))))))<|aw fun F p0 p1 p2 p3 p4=>by
 have:=@aR F dK (.int 1)
 have:=@a5r F bY (fn 6 (pr (.ar .sub .i64 dK (.int 1)) (.int 1))) dK db mu jc
 simp only[aa]at *;grind
def VW:=fb (wC::adu::(.not adv)::ads::Nt) (cmp .eql pw (fn 179 (pr (fn 19 (pr db (fn 6 (pr (.ar .sub .i64 dK (.int 1)) (.int 1))))) (pr bY (pr mu (pr jc (.int 0)))))))<|bq fun F p0 p1 p2 p3 p4 p5=>by
 have:=@aR F dK (.int 1)
 have:=@a5s F bY (fn 6 (pr (.ar .sub .i64 dK (.int 1)) (.int 1))) (fn 6 (pr dK (.int 1))) dK db mu jc
 simp only[aa]at *;grind
def VX:=fb adt (cmp .lss (fn 6 (pr (.ar .sub .i64 dK (.int 1)) (.int 1))) (fn 6 (pr dK (.int 1))))<|ag fun F p0 p1 p2=>by
 simp only[aa,ab]at *
 obtain⟨a,b,c⟩:=ae ((E.I F dK)-(1))
 omega
def VY:=fb adq (.not (cmp .lss (fn 6 (pr (.ar .sub .i64 dK (.int 1)) (.int 1))) (.int 0)))<|am fun F p0 p1 p2 p3=>by
 simp only[aa,ab]at *
 obtain⟨a,b,c⟩:=ae ((E.I F dK)-(1))
 omega
def aYV:List Fa:=[dv,auj,VR,VS,VT,VU,VV,VW,VX,VY]
theorem aWE:BodyOk Tryz.prog (xw (some o6)) o6 (i3 false).less (i3 false).tmps {(i3 false).st with pc:=(i3 false).st.pc}:=
 kG good (facts:=fl aYV) (gU _) (anns:=[]) (iE _ (by kernel_rfl)) (nats:=amn.l) amn.h (n:=3000) (by kernel_rfl) (by kernel_rfl)
theorem aWD:BodyOk Tryz.prog (xw (some o6)) o6 (i3 false).less (i3 false).tmps (i3 false).st:=aWE
def auk:=fb (wC::FC::kv::AA::tF) adp<|bq fun F p0 p1 p2 p3 p4 p5=>by
 have:=apE p3 p4 p5 (i:=dK)
 simp only[aa]at *;grind
def aYW:List Fa:=[dv,auk,VR,VS,VT,VU,VV,VW,VX,VY]
theorem aWG:BodyOk Tryz.prog (xw (some o6)) o6 (i3 true).less (i3 true).tmps {(i3 true).st with pc:=(i3 true).st.pc}:=
 kG good (facts:=fl aYW) (gU _) (anns:=[]) (iE _ (by kernel_rfl)) (nats:=amn.l) amn.h (n:=3000) (by kernel_rfl) (by kernel_rfl)
theorem aWF:BodyOk Tryz.prog (xw (some o6)) o6 (i3 true).less (i3 true).tmps (i3 true).st:=aWG
theorem aZs:eh Tryz.prog (xw (some o6)):=rX rfl (by kernel_rfl) (by
 intro τ hτ;rcases List.mem_cons.1 hτ with rfl|hτ
 ·exact aWD
 rcases List.mem_cons.1 hτ with rfl|hτ
 ·exact aWF
 cases hτ)
def PS:List Ann:=(xw (some o6))::[]
theorem ail:∀x∈PS,eh Tryz.prog x:=by
 intro x hx;rcases List.mem_cons.1 hx with rfl|hx
 ·exact aZs
 exact iE [] (by kernel_rfl) x hx
def Ef:=fb (Nu::qT) (fn 188 (pr (.ar .sub .i64 fk (.int 1)) ady))<|ai fun F p0 p1=>by
 have:=@aR F fk (.int 1)
 have:=(@ak F _ _ _ _).mp p1
 rw[show E.B F _=true↔_ from iff_of_eq (@ak F _ _ _ _)]
 simp only[aa]at *;grind
def Wa:=fb [tH,tI,ku] lr<|ag fun F p0 p1 p2=>by
 have:=@Cj F bY cC cD cF cG
 simp only[aa]at *;grind
def aul:=fb (tH::(.not tI)::FD) FE<|bq fun F p0 p1 p2 p3 p4 p5=>by
 have:=@Cj F bY cC cD cF cG
 have hr9:(E.I F _=E.I F _)->(0<=E.I F _)->(E.I F _<4)->(E.I F _=E.I F _+1)->(E.I F _=0)->E.B F (fn _ (pr _ (pr _ (pr _ (pr _ (pr _ (pr _ (pr (fn 6 (pr bY (.int 1))) (pr (.int 0) _)))))))))=true:=fun s0 s1 s2 s3 s4=>sy p5 s0 s1 s2 s3 s4
 simp only[aa]at *;grind
def Wb:=fb (Nv::qT) (fn 188 (pr fk (pr (.ar .sub .i64 fC (.int 1)) adx)))<|ai fun F p0 p1=>by
 have:=@aR F fC (.int 1)
 have:=(@ak F _ _ _ _).mp p1
 rw[show E.B F _=true↔_ from iff_of_eq (@ak F _ _ _ _)]
 simp only[aa]at *;grind
def Wc:=fb [tJ,tK,ku] lr<|ag fun F p0 p1 p2=>by
 have:=@Ck F bY cC cD cF cG
 simp only[aa]at *;grind
def aum:=fb (tJ::(.not tK)::FD) FE<|bq fun F p0 p1 p2 p3 p4 p5=>by
 have:=@Ck F bY cC cD cF cG
 have hr9:(E.I F _=E.I F _)->(0<=E.I F _)->(E.I F _<4)->(E.I F _=E.I F _+1)->(E.I F _=0)->E.B F (fn _ (pr _ (pr _ (pr _ (pr _ (pr _ (pr _ (pr (fn 6 (pr bY (.int 1))) (pr (.int 0) _)))))))))=true:=fun s0 s1 s2 s3 s4=>sy p5 s0 s1 s2 s3 s4
 simp only[aa]at *;grind
def Wd:=fb (Nw::qT) (fn 188 (pr fk (pr fC (pr (.ar .sub .i64 f6 (.int 1)) adw))))<|ai fun F p0 p1=>by
 have:=@aR F f6 (.int 1)
 have:=(@ak F _ _ _ _).mp p1
 rw[show E.B F _=true↔_ from iff_of_eq (@ak F _ _ _ _)]
 simp only[aa]at *;grind
def We:=fb [tL,tN,ku] lr<|ag fun F p0 p1 p2=>by
 have:=@Cl F bY cC cD cF cG
 simp only[aa]at *;grind
def aun:=fb (tL::(.not tN)::FD) FE<|bq fun F p0 p1 p2 p3 p4 p5=>by
 have:=@Cl F bY cC cD cF cG
 have hr9:(E.I F _=E.I F _)->(0<=E.I F _)->(E.I F _<4)->(E.I F _=E.I F _+1)->(E.I F _=0)->E.B F (fn _ (pr _ (pr _ (pr _ (pr _ (pr _ (pr _ (pr (fn 6 (pr bY (.int 1))) (pr (.int 0) _)))))))))=true:=fun s0 s1 s2 s3 s4=>sy p5 s0 s1 s2 s3 s4
 simp only[aa]at *;grind
def Wf:=fb (Nx::qT) (fn 188 (pr fk (pr fC (pr f6 (pr (.ar .sub .i64 gN (.int 1)) (.int 0))))))<|ai fun F p0 p1=>by
 have:=@aR F gN (.int 1)
 have:=(@ak F _ _ _ _).mp p1
 rw[show E.B F _=true↔_ from iff_of_eq (@ak F _ _ _ _)]
 simp only[aa]at *;grind
def Wg:=fb (AB::AC::AD::tO::ku::adA) lr<|bL fun F p0 p1 p2 p3 p4 p5 p6=>by
 have:=@Cm F bY cC cD cF cG
 simp only[aa]at *;grind
def aup:=fb (AB::AC::AD::(.not tO)::FD) FE<|b7 fun F p0 p1 p2 p3 p4 p5 p6 p7=>by
 have:=@Cm F bY cC cD cF cG
 have hr9:(E.I F _=E.I F _)->(0<=E.I F _)->(E.I F _<4)->(E.I F _=E.I F _+1)->(E.I F _=0)->E.B F (fn _ (pr _ (pr _ (pr _ (pr _ (pr _ (pr _ (pr (fn 6 (pr bY (.int 1))) (pr (.int 0) _)))))))))=true:=fun s0 s1 s2 s3 s4=>sy p7 s0 s1 s2 s3 s4
 simp only[aa]at *;grind
def auq:=fb (tH::tI::Nu::Ny) (fn 178 (pr (.ar .sub .i64 fk (.int 1)) (pr fC adE)))<|bL fun F p0 p1 p2 p3 p4 p5 p6=>by
 have:=@aR F fk (.int 1)
 have:=@ay F bM (.int 1)
 have:=@aV F cC cD cF cG eQ
 have:=(@ak F _ _ _ _).mp p5
 have hr8:(E.I F _=0)->(0<=E.I F _)->(E.I F _=E.I F _+1)->(0<E.I F _)->(E.I F _=E.I F _-1)->E.B F (fn _ (pr (.ar .sub .i64 fk (.int 1)) (pr _ (pr _ (pr _ (pr _ (pr _ (pr _ (pr (.ar .add .i64 bM (.int 1)) _)))))))))=true:=fun s0 s1 s2 s3 s4=>apz p4 s0 s1 s2 s3 s4
 simp only[aa]at *;grind
def Wh:=fb (tH::(.not Nu)::qT) nL<|ag fun F p0 p1 p2=>by
 have:=(@ak F _ _ _ _).mp p2
 have hr1:=fun s0 s1=>@apM F fk fC f6 gN bY s0 s1
 simp only[aa]at *;grind
def aur:=fb (tJ::tK::Nv::Ny) (fn 178 (pr fk (pr (.ar .sub .i64 fC (.int 1)) adE)))<|bL fun F p0 p1 p2 p3 p4 p5 p6=>by
 have:=@aR F fC (.int 1)
 have:=@ay F bM (.int 1)
 have:=@aV F cC cD cF cG eQ
 have:=(@ak F _ _ _ _).mp p5
 have hr8:(E.I F _=1)->(0<=E.I F _)->(E.I F _=E.I F _+1)->(0<E.I F _)->(E.I F _=E.I F _-1)->E.B F (fn _ (pr _ (pr (.ar .sub .i64 fC (.int 1)) (pr _ (pr _ (pr _ (pr _ (pr _ (pr (.ar .add .i64 bM (.int 1)) _)))))))))=true:=fun s0 s1 s2 s3 s4=>apA p4 s0 s1 s2 s3 s4
 simp only[aa]at *;grind
def Wi:=fb (tJ::(.not Nv)::qT) nL<|ag fun F p0 p1 p2=>by
 have:=(@ak F _ _ _ _).mp p2
 have hr2:=fun s0 s1=>@apN F fk fC f6 gN bY s0 s1
 simp only[aa]at *;grind
def aus:=fb (tL::tN::Nw::Ny) (fn 178 (pr fk (pr fC (pr (.ar .sub .i64 f6 (.int 1)) adD))))<|bL fun F p0 p1 p2 p3 p4 p5 p6=>by
 have:=@aR F f6 (.int 1)
 have:=@ay F bM (.int 1)
 have:=@aV F cC cD cF cG eQ
 have:=(@ak F _ _ _ _).mp p5
 have hr8:(E.I F _=2)->(0<=E.I F _)->(E.I F _=E.I F _+1)->(0<E.I F _)->(E.I F _=E.I F _-1)->E.B F (fn _ (pr _ (pr _ (pr (.ar .sub .i64 f6 (.int 1)) (pr _ (pr _ (pr _ (pr _ (pr (.ar .add .i64 bM (.int 1)) _)))))))))=true:=fun s0 s1 s2 s3 s4=>apB p4 s0 s1 s2 s3 s4
 simp only[aa]at *;grind
def Wj:=fb (tL::(.not Nw)::qT) nL<|ag fun F p0 p1 p2=>by
 have:=(@ak F _ _ _ _).mp p2
 have hr3:=fun s0 s1=>@apO F fk fC f6 gN bY s0 s1
 simp only[aa]at *;grind
def aut:=fb (AB::AC::AD::tO::Nx::nK::kv::nJ::adB) (fn 178 (pr fk (pr fC (pr f6 (pr (.ar .sub .i64 gN (.int 1)) adC)))))<|eW fun F p0 p1 p2 p3 p4 p5 p6 p7 p8 p9 ao=>by
 have:=@aR F gN (.int 1)
 have:=@ay F bM (.int 1)
 have:=@aV F cC cD cF cG eQ
 have:=(@ak F _ _ _ _).mp p9
 have hr8:(E.I F _=3)->(0<=E.I F _)->(E.I F _=E.I F _+1)->(0<E.I F _)->(E.I F _=E.I F _-1)->E.B F (fn _ (pr _ (pr _ (pr _ (pr (.ar .sub .i64 gN (.int 1)) (pr _ (pr _ (pr _ (pr (.ar .add .i64 bM (.int 1)) _)))))))))=true:=fun s0 s1 s2 s3 s4=>apC p8 s0 s1 s2 s3 s4
 simp only[aa]at *;grind
def Wk:=fb (AB::AC::AD::(.not Nx)::kv::nJ::qT) nL<|bL fun F p0 p1 p2 p3 p4 p5 p6=>by
 have:=(@ak F _ _ _ _).mp p6
 have hr4:=fun s0 s1=>@apP F fk fC f6 gN bY s0 s1
 simp only[aa]at *;grind
def Wl:=fb (fB::tI::lu) AE<|ag fun F p0 p1 p2=>by
 have:=@aV F cC cD cF cG eQ
 simp only[aa,ab]at *
 obtain⟨a,b,c⟩:=ae (E.I F bM+1)
 grind
def Wm:=fb wE (.not (cmp .lss (.ar .sub .i64 (fn 0 db) (.int 1)) (.int (-1))))<|aj fun F p0=>by
 simp only[aa,ab]at *
 have:=@cm F db
 obtain⟨a,b,c⟩:=ae ((E.I F (fn 0 db))-(1))
 omega
def Wn:=fb (fB::tK::lu) AE<|ag fun F p0 p1 p2=>by
 have:=@aV F cC cD cF cG eQ
 simp only[aa,ab]at *
 obtain⟨a,b,c⟩:=ae (E.I F bM+1)
 grind
def Wo:=fb (fB::tN::lu) AE<|ag fun F p0 p1 p2=>by
 have:=@aV F cC cD cF cG eQ
 simp only[aa,ab]at *
 obtain⟨a,b,c⟩:=ae (E.I F bM+1)
 grind
def Wp:=fb (fB::tO::lu) AE<|ag fun F p0 p1 p2=>by
 have:=@aV F cC cD cF cG eQ
 simp only[aa,ab]at *
 obtain⟨a,b,c⟩:=ae (E.I F bM+1)
 grind
def Wq:=fb adH AF<|bq fun F p0 p1 p2 p3 p4 p5=>by
 have:=@aV F cC cD cF cG eQ
 simp only[aa,ab]at *
 obtain⟨a,b,c⟩:=ae (E.I F bM+1)
 grind
def Wr:=fb wE (cmp .lss (.ar .sub .i64 (fn 0 db) (.int 1)) (fn 0 db))<|aj fun F p0=>by
 simp only[aa,ab]at *
 have:=@cm F db
 obtain⟨a,b,c⟩:=ae ((E.I F (fn 0 db))-(1))
 omega
def Ws:=fb adI AF<|bq fun F p0 p1 p2 p3 p4 p5=>by
 have:=@aV F cC cD cF cG eQ
 simp only[aa,ab]at *
 obtain⟨a,b,c⟩:=ae (E.I F bM+1)
 grind
def Wt:=fb adJ AF<|bq fun F p0 p1 p2 p3 p4 p5=>by
 have:=@aV F cC cD cF cG eQ
 simp only[aa,ab]at *
 obtain⟨a,b,c⟩:=ae (E.I F bM+1)
 grind
def Wu:=fb adh AF<|am fun F p0 p1 p2 p3=>by
 have:=@aV F cC cD cF cG eQ
 simp only[aa,ab]at *
 obtain⟨a,b,c⟩:=ae (E.I F bM+1)
 grind
def Wv:=fb (fB::tH::tI::ku::lu) Ax<|aw fun F p0 p1 p2 p3 p4=>by
 have:=@Cj F bY cC cD cF cG
 simp only[aa,ab]at *
 obtain⟨a,b,c⟩:=ae (E.I F bM+1)
 omega
def Ww:=fb wE (cmp .eql (fn 179 (pr (fn 19 (pr db (fn 6 (pr (.ar .sub .i64 (fn 0 db) (.int 1)) (.int 1))))) (pr bY (pr mu (pr jc (.int 0)))))) (.int 0))<|aj fun F p0=>by
 have:=@aR F (fn 0 db) (.int 1)
 have:=@a5q F bY (fn 6 (pr (.ar .sub .i64 (fn 0 db) (.int 1)) (.int 1))) db mu jc
 simp only[aa]at *
 have:=@cm F db
 grind
def Wx:=fb (fB::tJ::tK::ku::lu) Ax<|aw fun F p0 p1 p2 p3 p4=>by
 have:=@Ck F bY cC cD cF cG
 simp only[aa,ab]at *
 obtain⟨a,b,c⟩:=ae (E.I F bM+1)
 omega
def Wy:=fb (fB::tL::tN::ku::lu) Ax<|aw fun F p0 p1 p2 p3 p4=>by
 have:=@Cl F bY cC cD cF cG
 simp only[aa,ab]at *
 obtain⟨a,b,c⟩:=ae (E.I F bM+1)
 omega
def Wz:=fb (fB::AB::AC::AD::tO::ku::Fz) Ax<|b8 fun F p0 p1 p2 p3 p4 p5 p6 p7 p8=>by
 have:=@Cm F bY cC cD cF cG
 simp only[aa,ab]at *
 obtain⟨a,b,c⟩:=ae (E.I F bM+1)
 omega
def WA:=fb (fB::tI::lu) Ay<|ag fun F p0 p1 p2=>by
 have:=@aV F cC cD cF cG eQ
 simp only[aa,ab]at *
 obtain⟨a,b,c⟩:=ae (E.I F bM+1)
 grind
def WB:=fb (tG::nL::lr::Np::nK::kv::nJ::wD::tF) adi<|fA fun F p0 p1 p2 p3 p4 p5 p6 p7 p8 p9=>by
 have hr8:(E.I F _=0)->(0<=E.I F _)->(E.I F _<4)->(0<=E.I F _)->(E.I F _<E.I F _)->E.B F (fn _ (pr _ (pr eQ _)))=true:=fun s0 s1 s2 s3 s4=>apw p7 p8 p9 p1 s0 s1 s2 s3 s4
 simp only[aa]at *;grind
def WC:=fb ((.not (cmp .lss (fn 0 db) (fn 0 pv)))::wE) (.not (cmp .lss (.int 40) (fn 0 pv)))<|ai fun F p0 p1=>by
 simp only[aa]at *;grind
def WD:=fb (tG::nL::lr::AA::Np::nK::kv::nJ::tF) adi<|fA fun F p0 p1 p2 p3 p4 p5 p6 p7 p8 p9=>by
 have hr8:(E.I F _=0)->(0<=E.I F _)->(E.I F _<4)->(0<=E.I F _)->(E.I F _<E.I F _)->E.B F (fn _ (pr _ (pr eQ _)))=true:=fun s0 s1 s2 s3 s4=>apw p3 p8 p9 p1 s0 s1 s2 s3 s4
 simp only[aa]at *;grind
def LL:=fb [(.not (cmp .lss (var 41) wB)),(.not (cmp .lss wB (.int 1)))] (.not (cmp .lss (var 41) (.int 0)))<|ai fun F p0 p1=>by
 simp only[aa]at *;grind
def WE:=fb (fB::tK::lu) Ay<|ag fun F p0 p1 p2=>by
 have:=@aV F cC cD cF cG eQ
 simp only[aa,ab]at *
 obtain⟨a,b,c⟩:=ae (E.I F bM+1)
 grind
def WF:=fb (fB::tN::lu) Ay<|ag fun F p0 p1 p2=>by
 have:=@aV F cC cD cF cG eQ
 simp only[aa,ab]at *
 obtain⟨a,b,c⟩:=ae (E.I F bM+1)
 grind
def WG:=fb (fB::tO::lu) Ay<|ag fun F p0 p1 p2=>by
 have:=@aV F cC cD cF cG eQ
 simp only[aa,ab]at *
 obtain⟨a,b,c⟩:=ae (E.I F bM+1)
 grind
def WH:=fb adH Az<|bq fun F p0 p1 p2 p3 p4 p5=>by
 have:=@aV F cC cD cF cG eQ
 simp only[aa,ab]at *
 obtain⟨a,b,c⟩:=ae (E.I F bM+1)
 grind
def WI:=fb (tG::nL::nK::kv::nJ::wD::adj) (.not (cmp .lss (.int 30) (fn 6 (pr (.int 1) (fn 0 pv)))))<|fA fun F p0 p1 p2 p3 p4 p5 p6 p7 p8 p9=>by
 have:=@cm F (fn 10 (.int 0))
 have:=@apD _ _ _ _ _ _ _ _ _ pv pw _ _ _ _ _ _ _ p5 p6 p7 p1
 simp only[aa]at *;grind
def WJ:=fb (kv::AA::Ns::tF) (.not (cmp .lss (.int 2147483648) (fn 6 (pr wB (.int 1)))))<|aw fun F p0 p1 p2 p3 p4=>by
 have:=TW p1 p3 p4
 simp only[aa]at *
 have:=@cm F db
 grind
def WK:=fb adI Az<|bq fun F p0 p1 p2 p3 p4 p5=>by
 have:=@aV F cC cD cF cG eQ
 simp only[aa,ab]at *
 obtain⟨a,b,c⟩:=ae (E.I F bM+1)
 grind
def WL:=fb adJ Az<|bq fun F p0 p1 p2 p3 p4 p5=>by
 have:=@aV F cC cD cF cG eQ
 simp only[aa,ab]at *
 obtain⟨a,b,c⟩:=ae (E.I F bM+1)
 grind
def WM:=fb adh Az<|am fun F p0 p1 p2 p3=>by
 have:=@aV F cC cD cF cG eQ
 simp only[aa,ab]at *
 obtain⟨a,b,c⟩:=ae (E.I F bM+1)
 grind
def WN:=fb (tG::nL::lr::Nq::Nr::nK::kv::nJ::wD::fB::tF) (fn 178 (pr fk (pr fC (pr f6 (pr gN (pr pv (pr (fn 23 (pr pw (fn 10 (.int 0)))) Nz)))))))<|jV fun F p0 p1 p2 p3 p4 p5 p6 p7 p8 p9 ao au=>by
 have:=@ay F bM (.int 1)
 have:=@uN F bY _ _ _ _ _ p9
 have hr9:(E.I F _=E.I F _)->(¬E.I F _=0)->(0<=E.I F _)->(E.I F _<4)->(0<=E.I F _)->(E.I F _=E.I F _+1)->E.B F (fn _ (pr _ (pr _ (pr _ (pr _ (pr _ (pr _ (pr _ (pr (.ar .add .i64 bM (.int 1)) _)))))))))=true:=fun s0 s1 s2 s3 s4 s5=>a5o p8 ao au p1 s0 s1 p4 s2 s3 s4 s5
 simp only[aa]at *;grind
def WO:=fb adk AE<|aw fun F p0 p1 p2 p3 p4=>by
 have:=@uN F bY _ _ _ _ _ p1
 simp only[aa,ab]at *
 obtain⟨a,b,c⟩:=ae (E.I F bM+1)
 omega
def LM:=fb [Ns] (cmp .eql (fn 6 (pr (fn 0 (var 39)) (.int 1))) (fn 6 (pr wB (.int 1))))<|aj fun F p0=>by
 simp only[aa]at *;grind
def WP:=fb adl AF<|bL fun F p0 p1 p2 p3 p4 p5 p6=>by
 have:=@uN F bY _ _ _ _ _ p1
 simp only[aa,ab]at *
 obtain⟨a,b,c⟩:=ae (E.I F bM+1)
 omega
def WQ:=fb (tG::nL::nK::kv::nJ::AA::Ns::adj) (.not (cmp .lss (.int 30) (fn 6 (pr (fn 6 (pr wB (.int 1))) (fn 0 pv)))))<|eW fun F p0 p1 p2 p3 p4 p5 p6 p7 p8 p9 ao=>by
 have:=@apD _ _ _ _ _ _ _ _ _ pv pw _ _ _ _ _ _ _ p5 p7 p8 p1
 simp only[aa]at *;grind
def WR:=fb (lr::fB::ku::Fz) Ax<|bq fun F p0 p1 p2 p3 p4 p5=>by
 simp only[aa,ab]at *
 obtain⟨a,b,c⟩:=ae (E.I F bM+1)
 omega
def WS:=fb (tG::nL::lr::AA::Nq::Nr::nK::kv::nJ::fB::tF) (fn 178 (pr fk (pr fC (pr f6 (pr gN (pr pv (pr (fn 3 (pr (var 39) (fn 23 (pr pw (fn 10 (.int 0)))))) Nz)))))))<|jV fun F p0 p1 p2 p3 p4 p5 p6 p7 p8 p9 ao au=>by
 have:=@ay F bM (.int 1)
 have:=@uN F bY _ _ _ _ _ p9
 have hr9:(E.I F _=E.I F _)->(¬E.I F _=0)->(0<=E.I F _)->(E.I F _<4)->(0<=E.I F _)->(E.I F _=E.I F _+1)->E.B F (fn _ (pr _ (pr _ (pr _ (pr _ (pr _ (pr _ (pr _ (pr (.ar .add .i64 bM (.int 1)) _)))))))))=true:=fun s0 s1 s2 s3 s4 s5=>apG p3 ao au p1 s0 s1 p5 s2 s3 s4 s5
 simp only[aa]at *;grind
def WT:=fb adk Ay<|aw fun F p0 p1 p2 p3 p4=>by
 have:=@uN F bY _ _ _ _ _ p1
 simp only[aa,ab]at *
 obtain⟨a,b,c⟩:=ae (E.I F bM+1)
 omega
def WU:=fb adl Az<|bL fun F p0 p1 p2 p3 p4 p5 p6=>by
 have:=@uN F bY _ _ _ _ _ p1
 simp only[aa,ab]at *
 obtain⟨a,b,c⟩:=ae (E.I F bM+1)
 omega
def aYX:List Fa:=[dv,Ef,Wa,aul,Wb,Wc,aum,Wd,We,aun,Wf,Wg,aup,auq,Wh,aur,Wi,aus,Wj,aut,Wk,Wl,Wm,Wn,Wo,Wp,Wq,Wr,Ws,Wt,Wu,Wv,Ww,Wx,Wy,Wz,WA,WB,WC,WD,LL,WE,WF,WG,WH,WI,WJ,WK,WL,WM,WN,WO,LM,WP,WQ,WR,WS,WT,WU]
theorem aWI:BodyOk Tryz.prog (xv (some o5)) o5 (iG false).less (iG false).tmps {(iG false).st with pc:=(iG false).st.pc}:=
 kG good (facts:=fl aYX) (gU _) (anns:=PS) ail (nats:=amn.l) amn.h (n:=3000) (by kernel_rfl) (by kernel_rfl)
theorem aWH:BodyOk Tryz.prog (xv (some o5)) o5 (iG false).less (iG false).tmps (iG false).st:=aWI
end
end Go.Proofs.YtnnbmcfabojjjaaGreat.payPays
