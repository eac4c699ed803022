/-
  PayPays: contracts of functions, part 14.
-/
import Derived.Test.YtnnbmcfabojjjaaGreatPayPaysPartm
namespace Go.Proofs.YtnnbmcfabojjjaaGreat.payPays
open Go.ChangeShapes Go.WideShapes Go.ChangeAt Go.RowKit
open Go.SX
open Go.SX.E (fn pr cmp var)
set_option linter.unusedVariables false
set_option linter.unusedSimpArgs false
set_option maxRecDepth 100000
noncomputable section
abbrev ij:E:=var 3
abbrev ik:E:=var 4
abbrev im:E:=var 5
abbrev io:E:=var 6
abbrev fP:E:=var 7
abbrev uh:E:=fn 146 (pr ij (pr ik (pr im (pr io fP))))
abbrev fD:E:=var 26
abbrev BG:E:=cmp .lss fD (.int 4)
abbrev XX8:E:=cmp .lss fD (.int 0)
abbrev XX9:E:=.not XX8
abbrev OP:=[XX9]
abbrev BD:=BG::OP
abbrev aTi:E:=cmp .lss (.int 4) fD
abbrev afQ:E:=.not aTi
abbrev OQ:E:=var 1
abbrev afR:E:=var 2
abbrev GM:E:=pr ij (pr ik (pr im (pr io (pr (var 0) (pr OQ (pr afR (.int 0)))))))
abbrev xd:E:=pr (.int 0) GM
abbrev aD:E:=var 32
abbrev aC:E:=var 33
abbrev aB:E:=var 34
abbrev ax:E:=var 35
abbrev dS:E:=var 36
abbrev afS:E:=pr (fn 6 (pr fD (.int 1))) xd
abbrev afT:E:=pr (.ar .add .i64 fD (.int 1)) xd
abbrev gP:E:=cmp .lss aD aC
abbrev mA:E:=cmp .lss aC aB
abbrev uf:E:=cmp .lss aB ax
abbrev afU:E:=pr ax (.int 0)
abbrev afV:E:=pr aB afU
abbrev nZ:E:=fn 188 (pr aD (pr aC afV))
abbrev mB:=[nZ]
abbrev rf:E:=fn 188 (pr aD (pr aC (pr aB (pr (.ar .sub .i64 ax (.int 1)) (.int 0)))))
abbrev afW:E:=cmp .lss (.int 0) ax
abbrev afX:E:=.not afW
abbrev GN:=afX::mB
abbrev afY:=uf::GN
abbrev aTj:=mA::afY
abbrev afZ:=gP::aTj
abbrev aTk:E:=pr fP GM
abbrev af0:E:=pr (.int 4) aTk
abbrev pT:E:=fn 177 af0
abbrev GO:=[afX]
abbrev ug:=nZ::gP::mA::uf::GO
abbrev rg:E:=.not (cmp .lss (.int 40) (fn 0 (fn 24 (pr (pr (.int 1) dS) (pr (.int 1) (pr (fn 0 dS) (fn 22 dS)))))))
abbrev GP:E:=fn 188 (pr aD (pr aC (pr (.ar .sub .i64 aB (.int 1)) afU)))
abbrev af1:E:=cmp .lss (.int 0) aB
abbrev OR:E:=.not af1
abbrev OS:=OR::mB
abbrev af2:=gP::mA::OS
abbrev ui:=[nZ,gP,mA,OR]
abbrev BE:E:=cmp .lss aC ax
abbrev af3:=gP::BE::GN
abbrev uj:=nZ::gP::BE::GO
abbrev aTl:E:=pr (.ar .sub .i64 aC (.int 1)) afV
abbrev aTm:E:=pr aD aTl
abbrev af4:E:=fn 188 aTm
abbrev GQ:E:=cmp .lss (.int 0) aC
abbrev uk:=[nZ,gP,(.not GQ)]
abbrev pU:E:=.not gP
abbrev n4:E:=cmp .lss aD aB
abbrev af5:=n4::afY
abbrev ul:=nZ::n4::uf::GO
abbrev um:=[nZ,n4,OR]
abbrev BF:E:=.not n4
abbrev rh:E:=cmp .lss aD ax
abbrev un:=nZ::rh::GO
abbrev aO:E:=var 42
abbrev je:E:=cmp .lss aO fP
abbrev OT:E:=cmp .lss (.int 0) aD
abbrev OU:E:=cmp .eql (fn 0 dS) (.int 0)
abbrev uo:E:=.not (cmp .lss aO (.int 0))
abbrev BH:E:=fn 178 (pr aD (pr aC (pr aB (pr ax (pr dS (pr (fn 10 (.int 0)) (pr (.int 4) (pr aO GM))))))))
abbrev aTn:E:=pr OQ afR
abbrev af6:E:=fn 145 aTn
abbrev af7:E:=fn 117 OQ
abbrev af8:=[af6,af7]
abbrev aTo:=[af7,(.not OU)]
abbrev aTp:=af6::aTo
abbrev af9:=BH::aTp
abbrev aTq:E:=cmp .lss fP aO
abbrev OV:E:=.not aTq
abbrev aTr:E:=pr (fn 10 (.int 0)) af0
abbrev aTs:E:=pr dS aTr
abbrev aTt:E:=pr ax aTs
abbrev aTu:E:=pr aB aTt
abbrev aTv:E:=pr aC aTu
abbrev aTw:E:=pr aD aTv
abbrev aga:E:=fn 178 aTw
abbrev aTx:=[nZ,uh]
abbrev aTy:=BH::aTx
abbrev GR:=uo::aTy
abbrev OW:=afW::GR
abbrev agb:=uf::OW
abbrev aTz:E:=pr (.ar .add .i64 aO (.int 1)) GM
abbrev agc:E:=pr (.int 4) aTz
abbrev aTA:E:=pr (fn 10 (.int 0)) agc
abbrev agd:E:=pr dS aTA
abbrev ri:E:=fn 178 (pr aD (pr aC (pr aB (pr (.ar .sub .i64 ax (.int 1)) agd))))
abbrev rj:E:=.not (cmp .lss (.int 30) (fn 6 (pr (.int 1) (fn 0 (fn 24 (pr (pr (.int 1) dS) (pr (.int 1) (pr (fn 0 dS) (fn 22 dS)))))))))
abbrev aS8:=af1::GR
abbrev afK:List E:=(.not uf)::aS8
abbrev afL:E:=pr ax agd
abbrev GL:E:=fn 178 (pr aD (pr aC (pr (.ar .sub .i64 aB (.int 1)) afL)))
abbrev afM:E:=pr aB afL
abbrev aS9:E:=pr (.ar .sub .i64 aC (.int 1)) afM
abbrev aTa:E:=pr aD aS9
abbrev afN:E:=fn 178 aTa
abbrev aTb:E:=pr aC afM
abbrev aTc:E:=pr (.ar .sub .i64 aD (.int 1)) aTb
abbrev afO:E:=fn 178 aTc
abbrev q9:E:=.not (cmp .lss (.ar .add .i64 aO (.int 1)) (.int 0))
abbrev pS:E:=fn 178 (pr aD (pr aC (pr aB (pr ax (pr (fn 24 (pr (pr (.int 1) dS) (pr (.int 1) (pr (fn 0 dS) (fn 22 dS))))) (pr (fn 23 (pr (fn 1 (pr dS (.int 0))) (fn 10 (.int 0)))) agc))))))
abbrev aTd:E:=cmp .lss (.int 20) aO
abbrev aTe:E:=.not aTd
abbrev aTf:=[aTe,uo]
abbrev aTg:=OV::aTf
abbrev aTh:=je::aTg
abbrev afP:=uh::aTh
abbrev ra:E:=.not (cmp .lss (.int 20) (.ar .add .i64 aO (.int 1)))
abbrev rc:E:=.not (cmp .lss fP (.ar .add .i64 aO (.int 1)))
abbrev rd:E:=cmp .lss (fn 7 (pr (.int 20) (.ar .add .i64 aO (.int 1)))) (fn 7 (pr (.int 20) aO))
abbrev re:E:=.not (cmp .lss (fn 7 (pr (.int 20) (.ar .add .i64 aO (.int 1)))) (.int 0))
theorem aZt:eh Tryz.prog (xv (some o5)):=rX rfl (by kernel_rfl) (by
 intro τ hτ;rcases List.mem_cons.1 hτ with rfl|hτ
 ·exact aWH
 rcases List.mem_cons.1 hτ with rfl|hτ
 ·exact aWJ
 cases hτ)
def PT:List Ann:=(xv (some o5))::[]
theorem aim:∀x∈PT,eh Tryz.prog x:=by
 intro x hx;rcases List.mem_cons.1 hx with rfl|hx
 ·exact aZt
 exact iE [] (by kernel_rfl) x hx
def WV:=fb (uh::BD) (.not (cmp .lss (fn 1 (pr (fn 23 (pr ij (fn 23 (pr ik (fn 23 (pr im (fn 23 (pr io (fn 10 (.int 0)))))))))) fD)) (.int 0)))<|ag fun F p0 p1 p2=>by
 have:=@uN F fD _ _ _ _ _ p0
 simp only[aa]at *;grind
def auH:=fb [(.not BG),afQ,(fn 178 (pr (var 16) (pr (var 17) (pr (var 18) (pr (var 19) (pr (var 20) (pr (fn 10 (.int 0)) (pr fD xd))))))))] (fn 178 (pr (var 16) (pr (var 17) (pr (var 18) (pr (var 19) (pr (var 20) (pr (fn 10 (.int 0)) (pr (.int 4) xd))))))))<|ag fun F p0 p1 p2=>by
 have hr3:(E.I F _=E.I F _)->(E.I F _=E.I F _)->E.B F (fn _ (pr _ (pr _ (pr _ (pr _ (pr _ (pr _ (pr (.int 4) (pr (.int 0) _)))))))))=true:=fun s0 s1=>zj p2 s0 s1
 simp only[aa]at *;grind
def WW:=fb (BG::(fn 178 (pr aD (pr aC (pr aB (pr ax (pr dS (pr (fn 10 (.int 0)) afS)))))))::OP) (fn 178 (pr aD (pr aC (pr aB (pr ax (pr dS (pr (fn 10 (.int 0)) afT)))))))<|ag fun F p0 p1 p2=>by
 have:=@ay F fD (.int 1)
 have hr3:(E.I F _=E.I F _)->(E.I F _=E.I F _)->E.B F (fn _ (pr _ (pr _ (pr _ (pr _ (pr _ (pr _ (pr (.ar .add .i64 fD (.int 1)) (pr (.int 0) _)))))))))=true:=fun s0 s1=>zj p1 s0 s1
 simp only[aa]at *;grind
def WX:=fb (BG::(fn 178 (pr aD (pr aC (pr aB (pr ax (pr dS (pr (var 39) afS)))))))::OP) (fn 178 (pr aD (pr aC (pr aB (pr ax (pr dS (pr (var 39) afT)))))))<|ag fun F p0 p1 p2=>by
 have:=@ay F fD (.int 1)
 have hr3:(E.I F _=E.I F _)->(E.I F _=E.I F _)->E.B F (fn _ (pr _ (pr _ (pr _ (pr _ (pr _ (pr _ (pr (.ar .add .i64 fD (.int 1)) (pr (.int 0) _)))))))))=true:=fun s0 s1=>zj p1 s0 s1
 simp only[aa]at *;grind
def WY:=fb BD (.not (cmp .lss (.ar .add .i64 fD (.int 1)) (.int 0)))<|ai fun F p0 p1=>by
 simp only[aa,ab]at *
 obtain⟨a,b,c⟩:=ae (E.I F fD+1)
 omega
def WZ:=fb BD (.not (cmp .lss (.int 4) (.ar .add .i64 fD (.int 1))))<|ai fun F p0 p1=>by
 simp only[aa,ab]at *
 obtain⟨a,b,c⟩:=ae (E.I F fD+1)
 omega
def W0:=fb BD (cmp .lss (fn 7 (pr (.int 4) (.ar .add .i64 fD (.int 1)))) (fn 7 (pr (.int 4) fD)))<|ai fun F p0 p1=>by
 simp only[aa,ab]at *
 obtain⟨a,b,c⟩:=ae (E.I F fD+1)
 omega
def W1:=fb BD (.not (cmp .lss (fn 7 (pr (.int 4) (.ar .add .i64 fD (.int 1)))) (.int 0)))<|ai fun F p0 p1=>by
 simp only[aa,ab]at *
 obtain⟨a,b,c⟩:=ae (E.I F fD+1)
 omega
def aYZ:List Fa:=[dv,WV,auH,WW,WX,WY,WZ,W0,W1]
theorem aWM:BodyOk Tryz.prog (xu (some oZ)) oZ (i0 false).less (i0 false).tmps {(i0 false).st with pc:=(i0 false).st.pc}:=
 kG good (facts:=fl aYZ) (gU _) (anns:=PT) aim (nats:=amn.l) amn.h (n:=3000) (by kernel_rfl) (by kernel_rfl)
theorem aWL:BodyOk Tryz.prog (xu (some oZ)) oZ (i0 false).less (i0 false).tmps (i0 false).st:=aWM
def auJ:=fb [(.not BG),afQ,(fn 178 (pr (var 16) (pr (var 17) (pr (var 18) (pr (var 19) (pr (var 20) (pr (var 23) (pr fD xd))))))))] (fn 178 (pr (var 16) (pr (var 17) (pr (var 18) (pr (var 19) (pr (var 20) (pr (var 23) (pr (.int 4) xd))))))))<|ag fun F p0 p1 p2=>by
 have hr3:(E.I F _=E.I F _)->(E.I F _=E.I F _)->E.B F (fn _ (pr _ (pr _ (pr _ (pr _ (pr _ (pr _ (pr (.int 4) (pr (.int 0) _)))))))))=true:=fun s0 s1=>zj p2 s0 s1
 simp only[aa]at *;grind
def aY0:List Fa:=[dv,WV,auJ,WW,WX,WY,WZ,W0,W1]
theorem aWO:BodyOk Tryz.prog (xu (some oZ)) oZ (i0 true).less (i0 true).tmps {(i0 true).st with pc:=(i0 true).st.pc}:=
 kG good (facts:=fl aY0) (gU _) (anns:=PT) aim (nats:=amn.l) amn.h (n:=3000) (by kernel_rfl) (by kernel_rfl)
theorem aWN:BodyOk Tryz.prog (xu (some oZ)) oZ (i0 true).less (i0 true).tmps (i0 true).st:=aWO
theorem aZu:eh Tryz.prog (xu (some oZ)):=rX rfl (by kernel_rfl) (by
 intro τ hτ;rcases List.mem_cons.1 hτ with rfl|hτ
 ·exact aWL
 rcases List.mem_cons.1 hτ with rfl|hτ
 ·exact aWN
 cases hτ)
def W2:=fb (gP::mA::uf::mB) rf<|am fun F p0 p1 p2 p3=>by
 have:=@aR F ax (.int 1)
 have:=(@ak F aD aC aB ax).mp p3
 rw[show E.B F rf=true↔_ from iff_of_eq (@ak F aD aC aB (.ar .sub .i64 ax (.int 1)))]
 simp only[aa,ab]at *;grind
def W3:=fb afZ pT<|aw fun F p0 p1 p2 p3 p4=>by
 have:=(@ak F aD aC aB ax).mp p4
 simp only[aa,ab]at *;grind
def W4:=fb ug rg<|aw fun F p0 p1 p2 p3 p4=>by
 have:=(@ak F aD aC aB ax).mp p0
 simp only[aa,ab]at *;grind
def W5:=fb (gP::mA::mB) GP<|ag fun F p0 p1 p2=>by
 have:=@aR F aB (.int 1)
 have:=(@ak F aD aC aB ax).mp p2
 rw[show E.B F GP=true↔_ from iff_of_eq (@ak F aD aC (.ar .sub .i64 aB (.int 1)) ax)]
 simp only[aa,ab]at *;grind
def W6:=fb af2 pT<|am fun F p0 p1 p2 p3=>by
 have:=(@ak F aD aC aB ax).mp p3
 simp only[aa,ab]at *;grind
def W7:=fb ui rg<|am fun F p0 p1 p2 p3=>by
 have:=(@ak F aD aC aB ax).mp p0
 simp only[aa,ab]at *;grind
def W8:=fb (gP::(.not mA)::BE::mB) rf<|am fun F p0 p1 p2 p3=>by
 have:=@aR F ax (.int 1)
 have:=(@ak F aD aC aB ax).mp p3
 rw[show E.B F rf=true↔_ from iff_of_eq (@ak F aD aC aB (.ar .sub .i64 ax (.int 1)))]
 simp only[aa,ab]at *;grind
def W9:=fb af3 pT<|am fun F p0 p1 p2 p3=>by
 have:=(@ak F aD aC aB ax).mp p3
 simp only[aa,ab]at *;grind
def Xa:=fb uj rg<|am fun F p0 p1 p2 p3=>by
 have:=(@ak F aD aC aB ax).mp p0
 simp only[aa,ab]at *;grind
def Xb:=fb (gP::mB) af4<|ai fun F p0 p1=>by
 have:=@aR F aC (.int 1)
 have:=(@ak F aD aC aB ax).mp p1
 rw[show E.B F af4=true↔_ from iff_of_eq (@ak F aD (.ar .sub .i64 aC (.int 1)) aB ax)]
 simp only[aa,ab]at *;grind
def Xc:=fb (gP::(.not GQ)::mB) pT<|ag fun F p0 p1 p2=>by
 have:=(@ak F aD aC aB ax).mp p2
 simp only[aa,ab]at *;grind
def Xd:=fb uk rg<|ag fun F p0 p1 p2=>by
 have:=(@ak F aD aC aB ax).mp p0
 simp only[aa,ab]at *;grind
def Xe:=fb (pU::n4::uf::mB) rf<|am fun F p0 p1 p2 p3=>by
 have:=@aR F ax (.int 1)
 have:=(@ak F aD aC aB ax).mp p3
 rw[show E.B F rf=true↔_ from iff_of_eq (@ak F aD aC aB (.ar .sub .i64 ax (.int 1)))]
 simp only[aa,ab]at *;grind
def Xf:=fb af5 pT<|am fun F p0 p1 p2 p3=>by
 have:=(@ak F aD aC aB ax).mp p3
 simp only[aa,ab]at *;grind
def Xg:=fb ul rg<|am fun F p0 p1 p2 p3=>by
 have:=(@ak F aD aC aB ax).mp p0
 simp only[aa,ab]at *;grind
def Xh:=fb (pU::n4::mB) GP<|ag fun F p0 p1 p2=>by
 have:=@aR F aB (.int 1)
 have:=(@ak F aD aC aB ax).mp p2
 rw[show E.B F GP=true↔_ from iff_of_eq (@ak F aD aC (.ar .sub .i64 aB (.int 1)) ax)]
 simp only[aa,ab]at *;grind
def Xi:=fb (n4::OS) pT<|ag fun F p0 p1 p2=>by
 have:=(@ak F aD aC aB ax).mp p2
 simp only[aa,ab]at *;grind
def Xj:=fb um rg<|ag fun F p0 p1 p2=>by
 have:=(@ak F aD aC aB ax).mp p0
 simp only[aa,ab]at *;grind
def Xk:=fb (pU::BF::rh::mB) rf<|am fun F p0 p1 p2 p3=>by
 have:=@aR F ax (.int 1)
 have:=(@ak F aD aC aB ax).mp p3
 rw[show E.B F rf=true↔_ from iff_of_eq (@ak F aD aC aB (.ar .sub .i64 ax (.int 1)))]
 simp only[aa,ab]at *;grind
def Xl:=fb (rh::GN) pT<|ag fun F p0 p1 p2=>by
 have:=(@ak F aD aC aB ax).mp p2
 simp only[aa,ab]at *;grind
def Xm:=fb un rg<|ag fun F p0 p1 p2=>by
 have:=(@ak F aD aC aB ax).mp p0
 simp only[aa,ab]at *;grind
def auM:=fb (je::pU::BF::(.not rh)::(.not OT)::OU::uo::BH::nZ::af8) pT<|eW fun F p0 p1 p2 p3 p4 p5 p6 p7 p8 p9 ao=>by
 have:=(@ak F aD aC aB ax).mp p8
 have hr3:(0<=E.I F aO)->(E.I F aO<E.I F fP)->(E.I F (fn 0 dS)=0)->(E.I F aD<=0)->(E.I F aC<=0)->(E.I F aB<=0)->(E.I F ax<=0)->E.B F pT=true:=fun s0 s1 s2 s3 s4 s5 s6=>apq p7 p9 ao s0 s1 s2 s3 s4 s5 s6
 simp only[aa,ab]at *;grind
def auN:=fb af9 rg<|am fun F p0 p1 p2 p3=>by
 have:=TW p0 p1 p2
 have:=@cm F (fn 10 (.int 0))
 have:=@I8 F (fn 22 dS) dS
 simp only[aa,ab]at *
 have:=@cm F dS
 grind
def auO:=fb [(.not je),OV,BH] aga<|ag fun F p0 p1 p2=>by
 have hr3:(E.I F (.int 4)=E.I F (.int 4))->(E.I F fP=E.I F aO)->E.B F aga=true:=fun s0 s1=>zj p2 s0 s1
 simp only[aa,ab]at *;grind
def auQ:=fb (je::gP::mA::agb) ri<|b8 fun F p0 p1 p2 p3 p4 p5 p6 p7 p8=>by
 have:=@aR F ax (.int 1)
 have:=@ay F aO (.int 1)
 have:=@aV F ij ik im io fP
 have:=(@ak F aD aC aB ax).mp p7
 have hr3:(0<=E.I F aO)->(E.I F (.ar .add .i64 aO (.int 1))=E.I F aO+1)->(0<E.I F ax)->(E.I F (.ar .sub .i64 ax (.int 1))=E.I F ax-1)->(E.I F aD<E.I F ax)->(E.I F aC<E.I F ax)->(E.I F aB<E.I F ax)->E.B F ri=true:=fun s0 s1 s2 s3 s4 s5 s6=>sx p6 s0 s1 s2 s3 s4 s5 s6
 simp only[aa,ab]at *;grind
def auR:=fb ug rj<|aw fun F p0 p1 p2 p3 p4=>by
 have:=(@ak F aD aC aB ax).mp p0
 simp only[aa,ab]at *;grind
def auS:=fb (je::gP::mA::afK) GL<|b8 fun F p0 p1 p2 p3 p4 p5 p6 p7 p8=>by
 have:=@aR F aB (.int 1)
 have:=@ay F aO (.int 1)
 have:=@aV F ij ik im io fP
 have:=(@ak F aD aC aB ax).mp p7
 have hr3:(0<=E.I F aO)->(E.I F (.ar .add .i64 aO (.int 1))=E.I F aO+1)->(0<E.I F aB)->(E.I F (.ar .sub .i64 aB (.int 1))=E.I F aB-1)->(E.I F aD<E.I F aB)->(E.I F aC<E.I F aB)->(E.I F ax<=E.I F aB)->E.B F GL=true:=fun s0 s1 s2 s3 s4 s5 s6=>KS p6 s0 s1 s2 s3 s4 s5 s6
 simp only[aa,ab]at *;grind
def auT:=fb ui rj<|am fun F p0 p1 p2 p3=>by
 have:=(@ak F aD aC aB ax).mp p0
 simp only[aa,ab]at *;grind
def auU:=fb (je::gP::(.not mA)::BE::OW) ri<|b8 fun F p0 p1 p2 p3 p4 p5 p6 p7 p8=>by
 have:=@aR F ax (.int 1)
 have:=@ay F aO (.int 1)
 have:=@aV F ij ik im io fP
 have:=(@ak F aD aC aB ax).mp p7
 have hr3:(0<=E.I F aO)->(E.I F (.ar .add .i64 aO (.int 1))=E.I F aO+1)->(0<E.I F ax)->(E.I F (.ar .sub .i64 ax (.int 1))=E.I F ax-1)->(E.I F aD<E.I F ax)->(E.I F aC<E.I F ax)->(E.I F aB<E.I F ax)->E.B F ri=true:=fun s0 s1 s2 s3 s4 s5 s6=>sx p6 s0 s1 s2 s3 s4 s5 s6
 simp only[aa,ab]at *;grind
def auV:=fb uj rj<|am fun F p0 p1 p2 p3=>by
 have:=(@ak F aD aC aB ax).mp p0
 simp only[aa,ab]at *;grind
def auW:=fb (je::gP::(.not mA)::(.not BE)::GQ::GR) afN<|b8 fun F p0 p1 p2 p3 p4 p5 p6 p7 p8=>by
 have:=@aR F aC (.int 1)
 have:=@ay F aO (.int 1)
 have:=@aV F ij ik im io fP
 have:=(@ak F aD aC aB ax).mp p7
 have hr3:(0<=E.I F aO)->(E.I F (.ar .add .i64 aO (.int 1))=E.I F aO+1)->(0<E.I F aC)->(E.I F (.ar .sub .i64 aC (.int 1))=E.I F aC-1)->(E.I F aD<E.I F aC)->(E.I F aB<=E.I F aC)->(E.I F ax<=E.I F aC)->E.B F afN=true:=fun s0 s1 s2 s3 s4 s5 s6=>apy p6 s0 s1 s2 s3 s4 s5 s6
 simp only[aa,ab]at *;grind
def auX:=fb uk rj<|ag fun F p0 p1 p2=>by
 have:=(@ak F aD aC aB ax).mp p0
 simp only[aa,ab]at *;grind
def auY:=fb (je::pU::n4::agb) ri<|b8 fun F p0 p1 p2 p3 p4 p5 p6 p7 p8=>by
 have:=@aR F ax (.int 1)
 have:=@ay F aO (.int 1)
 have:=@aV F ij ik im io fP
 have:=(@ak F aD aC aB ax).mp p7
 have hr3:(0<=E.I F aO)->(E.I F (.ar .add .i64 aO (.int 1))=E.I F aO+1)->(0<E.I F ax)->(E.I F (.ar .sub .i64 ax (.int 1))=E.I F ax-1)->(E.I F aD<E.I F ax)->(E.I F aC<E.I F ax)->(E.I F aB<E.I F ax)->E.B F ri=true:=fun s0 s1 s2 s3 s4 s5 s6=>sx p6 s0 s1 s2 s3 s4 s5 s6
 simp only[aa,ab]at *;grind
def auZ:=fb ul rj<|am fun F p0 p1 p2 p3=>by
 have:=(@ak F aD aC aB ax).mp p0
 simp only[aa,ab]at *;grind
def au1:=fb (je::pU::n4::afK) GL<|b8 fun F p0 p1 p2 p3 p4 p5 p6 p7 p8=>by
 have:=@aR F aB (.int 1)
 have:=@ay F aO (.int 1)
 have:=@aV F ij ik im io fP
 have:=(@ak F aD aC aB ax).mp p7
 have hr3:(0<=E.I F aO)->(E.I F (.ar .add .i64 aO (.int 1))=E.I F aO+1)->(0<E.I F aB)->(E.I F (.ar .sub .i64 aB (.int 1))=E.I F aB-1)->(E.I F aD<E.I F aB)->(E.I F aC<E.I F aB)->(E.I F ax<=E.I F aB)->E.B F GL=true:=fun s0 s1 s2 s3 s4 s5 s6=>KS p6 s0 s1 s2 s3 s4 s5 s6
 simp only[aa,ab]at *;grind
def au2:=fb um rj<|ag fun F p0 p1 p2=>by
 have:=(@ak F aD aC aB ax).mp p0
 simp only[aa,ab]at *;grind
def au3:=fb (je::pU::BF::rh::OW) ri<|b8 fun F p0 p1 p2 p3 p4 p5 p6 p7 p8=>by
 have:=@aR F ax (.int 1)
 have:=@ay F aO (.int 1)
 have:=@aV F ij ik im io fP
 have:=(@ak F aD aC aB ax).mp p7
 have hr3:(0<=E.I F aO)->(E.I F (.ar .add .i64 aO (.int 1))=E.I F aO+1)->(0<E.I F ax)->(E.I F (.ar .sub .i64 ax (.int 1))=E.I F ax-1)->(E.I F aD<E.I F ax)->(E.I F aC<E.I F ax)->(E.I F aB<E.I F ax)->E.B F ri=true:=fun s0 s1 s2 s3 s4 s5 s6=>sx p6 s0 s1 s2 s3 s4 s5 s6
 simp only[aa,ab]at *;grind
def au4:=fb un rj<|ag fun F p0 p1 p2=>by
 have:=(@ak F aD aC aB ax).mp p0
 simp only[aa,ab]at *;grind
def au5:=fb (je::pU::BF::(.not rh)::OT::GR) afO<|b8 fun F p0 p1 p2 p3 p4 p5 p6 p7 p8=>by
 have:=@aR F aD (.int 1)
 have:=@ay F aO (.int 1)
 have:=@aV F ij ik im io fP
 have:=(@ak F aD aC aB ax).mp p7
 have hr3:(0<=E.I F aO)->(E.I F (.ar .add .i64 aO (.int 1))=E.I F aO+1)->(0<E.I F aD)->(E.I F (.ar .sub .i64 aD (.int 1))=E.I F aD-1)->(E.I F aC<=E.I F aD)->(E.I F aB<=E.I F aD)->(E.I F ax<=E.I F aD)->E.B F afO=true:=fun s0 s1 s2 s3 s4 s5 s6=>apx p6 s0 s1 s2 s3 s4 s5 s6
 simp only[aa,ab]at *;grind
def au6:=fb af9 rj<|am fun F p0 p1 p2 p3=>by
 have:=TW p0 p1 p2
 have:=@cm F (fn 10 (.int 0))
 have:=@I8 F (fn 22 dS) dS
 simp only[aa,ab]at *
 have:=@cm F dS
 grind
def Xn:=fb [uh,je,uo] q9<|ag fun F p0 p1 p2=>by
 have:=@aV F ij ik im io fP
 simp only[aa,ab]at *
 obtain⟨a,b,c⟩:=ae (E.I F aO+1)
 simp only[b]at *;grind
def au7:=fb afZ pS<|aw fun F p0 p1 p2 p3 p4=>by
 have:=(@ak F aD aC aB ax).mp p4
 simp only[aa,ab]at *;grind
def au8:=fb af2 pS<|am fun F p0 p1 p2 p3=>by
 have:=(@ak F aD aC aB ax).mp p3
 simp only[aa,ab]at *;grind
def au9:=fb af3 pS<|am fun F p0 p1 p2 p3=>by
 have:=(@ak F aD aC aB ax).mp p3
 simp only[aa,ab]at *;grind
def avb:=fb (gP::(.not GQ)::mB) pS<|ag fun F p0 p1 p2=>by
 have:=(@ak F aD aC aB ax).mp p2
 simp only[aa,ab]at *;grind
def avc:=fb af5 pS<|am fun F p0 p1 p2 p3=>by
 have:=(@ak F aD aC aB ax).mp p3
 simp only[aa,ab]at *;grind
def avd:=fb (n4::OS) pS<|ag fun F p0 p1 p2=>by
 have:=(@ak F aD aC aB ax).mp p2
 simp only[aa,ab]at *;grind
def ave:=fb (rh::GN) pS<|ag fun F p0 p1 p2=>by
 have:=(@ak F aD aC aB ax).mp p2
 simp only[aa,ab]at *;grind
def avf:=fb (je::pU::BF::(.not rh)::(.not OT)::(.not OU)::uo::BH::uh::af8) pS<|eW fun F p0 p1 p2 p3 p4 p5 p6 p7 p8 p9 ao=>by
 have:=@ay F aO (.int 1)
 have:=@aV F ij ik im io fP
 have hr3:(0<=E.I F aO)->(E.I F (.ar .add .i64 aO (.int 1))=E.I F aO+1)->(0<E.I F (fn 0 dS))->(E.I F aD<=0)->(E.I F aC<=0)->(E.I F aB<=0)->(E.I F ax<=0)->E.B F pS=true:=fun s0 s1 s2 s3 s4 s5 s6=>a5k p7 p9 ao s0 s1 s2 s3 s4 s5 s6
 simp only[aa,ab]at *
 have:=@cm F dS
 grind
def Xo:=fb afP ra<|aw fun F p0 p1 p2 p3 p4=>by
 have:=@aV F ij ik im io fP
 simp only[aa,ab]at *
 obtain⟨a,b,c⟩:=ae (E.I F aO+1)
 simp only[b]at *;grind
def Xp:=fb ug q9<|aw fun F p0 p1 p2 p3 p4=>by
 have:=(@ak F aD aC aB ax).mp p0
 simp only[aa,ab]at *
 obtain⟨a,b,c⟩:=ae (E.I F aO+1)
 simp only[b]at *;grind
def Xq:=fb ui q9<|am fun F p0 p1 p2 p3=>by
 have:=(@ak F aD aC aB ax).mp p0
 simp only[aa,ab]at *
 obtain⟨a,b,c⟩:=ae (E.I F aO+1)
 simp only[b]at *;grind
def Xr:=fb uj q9<|am fun F p0 p1 p2 p3=>by
 have:=(@ak F aD aC aB ax).mp p0
 simp only[aa,ab]at *
 obtain⟨a,b,c⟩:=ae (E.I F aO+1)
 simp only[b]at *;grind
def Xs:=fb uk q9<|ag fun F p0 p1 p2=>by
 have:=(@ak F aD aC aB ax).mp p0
 simp only[aa,ab]at *
 obtain⟨a,b,c⟩:=ae (E.I F aO+1)
 simp only[b]at *;grind
def Xt:=fb ul q9<|am fun F p0 p1 p2 p3=>by
 have:=(@ak F aD aC aB ax).mp p0
 simp only[aa,ab]at *
 obtain⟨a,b,c⟩:=ae (E.I F aO+1)
 simp only[b]at *;grind
def Xu:=fb um q9<|ag fun F p0 p1 p2=>by
 have:=(@ak F aD aC aB ax).mp p0
 simp only[aa,ab]at *
 obtain⟨a,b,c⟩:=ae (E.I F aO+1)
 simp only[b]at *;grind
def Xv:=fb un q9<|ag fun F p0 p1 p2=>by
 have:=(@ak F aD aC aB ax).mp p0
 simp only[aa,ab]at *
 obtain⟨a,b,c⟩:=ae (E.I F aO+1)
 simp only[b]at *;grind
def Xw:=fb [uh,je,OV,uo] rc<|am fun F p0 p1 p2 p3=>by
 have:=@aV F ij ik im io fP
 simp only[aa,ab]at *
 obtain⟨a,b,c⟩:=ae (E.I F aO+1)
 simp only[b]at *;grind
def Xx:=fb ug ra<|aw fun F p0 p1 p2 p3 p4=>by
 have:=(@ak F aD aC aB ax).mp p0
 simp only[aa,ab]at *
 obtain⟨a,b,c⟩:=ae (E.I F aO+1)
 simp only[b]at *;grind
def Xy:=fb ui ra<|am fun F p0 p1 p2 p3=>by
 have:=(@ak F aD aC aB ax).mp p0
 simp only[aa,ab]at *
 obtain⟨a,b,c⟩:=ae (E.I F aO+1)
 simp only[b]at *;grind
def Xz:=fb uj ra<|am fun F p0 p1 p2 p3=>by
 have:=(@ak F aD aC aB ax).mp p0
 simp only[aa,ab]at *
 obtain⟨a,b,c⟩:=ae (E.I F aO+1)
 simp only[b]at *;grind
def XA:=fb uk ra<|ag fun F p0 p1 p2=>by
 have:=(@ak F aD aC aB ax).mp p0
 simp only[aa,ab]at *
 obtain⟨a,b,c⟩:=ae (E.I F aO+1)
 simp only[b]at *;grind
def XB:=fb ul ra<|am fun F p0 p1 p2 p3=>by
 have:=(@ak F aD aC aB ax).mp p0
 simp only[aa,ab]at *
 obtain⟨a,b,c⟩:=ae (E.I F aO+1)
 simp only[b]at *;grind
def XC:=fb um ra<|ag fun F p0 p1 p2=>by
 have:=(@ak F aD aC aB ax).mp p0
 simp only[aa,ab]at *
 obtain⟨a,b,c⟩:=ae (E.I F aO+1)
 simp only[b]at *;grind
def XD:=fb un ra<|ag fun F p0 p1 p2=>by
 have:=(@ak F aD aC aB ax).mp p0
 simp only[aa,ab]at *
 obtain⟨a,b,c⟩:=ae (E.I F aO+1)
 simp only[b]at *;grind
def XE:=fb [uh,je,uo] rd<|ag fun F p0 p1 p2=>by
 have:=@aV F ij ik im io fP
 simp only[aa,ab]at *
 obtain⟨a,b,c⟩:=ae (E.I F aO+1)
 simp only[b]at *;grind
def XF:=fb ug rc<|aw fun F p0 p1 p2 p3 p4=>by
 have:=(@ak F aD aC aB ax).mp p0
 simp only[aa,ab]at *
 obtain⟨a,b,c⟩:=ae (E.I F aO+1)
 simp only[b]at *;grind
def XG:=fb ui rc<|am fun F p0 p1 p2 p3=>by
 have:=(@ak F aD aC aB ax).mp p0
 simp only[aa,ab]at *
 obtain⟨a,b,c⟩:=ae (E.I F aO+1)
 simp only[b]at *;grind
def XH:=fb uj rc<|am fun F p0 p1 p2 p3=>by
 have:=(@ak F aD aC aB ax).mp p0
 simp only[aa,ab]at *
 obtain⟨a,b,c⟩:=ae (E.I F aO+1)
 simp only[b]at *;grind
def XI:=fb uk rc<|ag fun F p0 p1 p2=>by
 have:=(@ak F aD aC aB ax).mp p0
 simp only[aa,ab]at *
 obtain⟨a,b,c⟩:=ae (E.I F aO+1)
 simp only[b]at *;grind
def XJ:=fb ul rc<|am fun F p0 p1 p2 p3=>by
 have:=(@ak F aD aC aB ax).mp p0
 simp only[aa,ab]at *
 obtain⟨a,b,c⟩:=ae (E.I F aO+1)
 simp only[b]at *;grind
def XK:=fb um rc<|ag fun F p0 p1 p2=>by
 have:=(@ak F aD aC aB ax).mp p0
 simp only[aa,ab]at *
 obtain⟨a,b,c⟩:=ae (E.I F aO+1)
 simp only[b]at *;grind
def XL:=fb un rc<|ag fun F p0 p1 p2=>by
 have:=(@ak F aD aC aB ax).mp p0
 simp only[aa,ab]at *
 obtain⟨a,b,c⟩:=ae (E.I F aO+1)
 simp only[b]at *;grind
def XM:=fb afP re<|aw fun F p0 p1 p2 p3 p4=>by
 have:=@aV F ij ik im io fP
 simp only[aa,ab]at *
 obtain⟨a,b,c⟩:=ae (E.I F aO+1)
 simp only[b]at *;grind
def XN:=fb ug rd<|aw fun F p0 p1 p2 p3 p4=>by
 have:=(@ak F aD aC aB ax).mp p0
 simp only[aa,ab]at *
 obtain⟨a,b,c⟩:=ae (E.I F aO+1)
 simp only[b]at *;grind
def XO:=fb ui rd<|am fun F p0 p1 p2 p3=>by
 have:=(@ak F aD aC aB ax).mp p0
 simp only[aa,ab]at *
 obtain⟨a,b,c⟩:=ae (E.I F aO+1)
 simp only[b]at *;grind
def XP:=fb uj rd<|am fun F p0 p1 p2 p3=>by
 have:=(@ak F aD aC aB ax).mp p0
 simp only[aa,ab]at *
 obtain⟨a,b,c⟩:=ae (E.I F aO+1)
 simp only[b]at *;grind
def XQ:=fb uk rd<|ag fun F p0 p1 p2=>by
 have:=(@ak F aD aC aB ax).mp p0
 simp only[aa,ab]at *
 obtain⟨a,b,c⟩:=ae (E.I F aO+1)
 simp only[b]at *;grind
def XR:=fb ul rd<|am fun F p0 p1 p2 p3=>by
 have:=(@ak F aD aC aB ax).mp p0
 simp only[aa,ab]at *
 obtain⟨a,b,c⟩:=ae (E.I F aO+1)
 simp only[b]at *;grind
def XS:=fb um rd<|ag fun F p0 p1 p2=>by
 have:=(@ak F aD aC aB ax).mp p0
 simp only[aa,ab]at *
 obtain⟨a,b,c⟩:=ae (E.I F aO+1)
 simp only[b]at *;grind
def XT:=fb un rd<|ag fun F p0 p1 p2=>by
 have:=(@ak F aD aC aB ax).mp p0
 simp only[aa,ab]at *
 obtain⟨a,b,c⟩:=ae (E.I F aO+1)
 simp only[b]at *;grind
def XU:=fb ug re<|aw fun F p0 p1 p2 p3 p4=>by
 have:=(@ak F aD aC aB ax).mp p0
 simp only[aa,ab]at *
 obtain⟨a,b,c⟩:=ae (E.I F aO+1)
 simp only[b]at *;grind
def XV:=fb ui re<|am fun F p0 p1 p2 p3=>by
 have:=(@ak F aD aC aB ax).mp p0
 simp only[aa,ab]at *
 obtain⟨a,b,c⟩:=ae (E.I F aO+1)
 simp only[b]at *;grind
def XW:=fb uj re<|am fun F p0 p1 p2 p3=>by
 have:=(@ak F aD aC aB ax).mp p0
 simp only[aa,ab]at *
 obtain⟨a,b,c⟩:=ae (E.I F aO+1)
 simp only[b]at *;grind
def XX:=fb uk re<|ag fun F p0 p1 p2=>by
 have:=(@ak F aD aC aB ax).mp p0
 simp only[aa,ab]at *
 obtain⟨a,b,c⟩:=ae (E.I F aO+1)
 simp only[b]at *;grind
def XY:=fb ul re<|am fun F p0 p1 p2 p3=>by
 have:=(@ak F aD aC aB ax).mp p0
 simp only[aa,ab]at *
 obtain⟨a,b,c⟩:=ae (E.I F aO+1)
 simp only[b]at *;grind
def XZ:=fb um re<|ag fun F p0 p1 p2=>by
 have:=(@ak F aD aC aB ax).mp p0
 simp only[aa,ab]at *
 obtain⟨a,b,c⟩:=ae (E.I F aO+1)
 simp only[b]at *;grind
def Ya:=fb un re<|ag fun F p0 p1 p2=>by
 have:=(@ak F aD aC aB ax).mp p0
 simp only[aa,ab]at *
 obtain⟨a,b,c⟩:=ae (E.I F aO+1)
 simp only[b]at *;grind
def aY1:List Fa:=[dv,W2,W3,W4,W5,W6,W7,W8,W9,Xa,Xb,Xc,Xd,Xe,Xf,Xg,Xh,Xi,Xj,Xk,Xl,Xm,Ef,auM,auN,auO,auQ,auR,auS,auT,auU,auV,auW,auX,auY,auZ,au1,au2,au3,au4,au5,au6,Xn,au7,au8,au9,avb,avc,avd,ave,avf,Xo,Xp,Xq,Xr,Xs,Xt,Xu,Xv,Xw,Xx,Xy,Xz,XA,XB,XC,XD,XE,XF,XG,XH,XI,XJ,XK,XL,XM,XN,XO,XP,XQ,XR,XS,XT,XU,XV,XW,XX,XY,XZ,Ya]
theorem aWQ:BodyOk Tryz.prog (xx (some o7)) o7 (i4 false).less (i4 false).tmps {(i4 false).st with pc:=(i4 false).st.pc}:=
 kG good (facts:=fl aY1) (gU _) (anns:=[]) (iE _ (by kernel_rfl)) (nats:=amn.l) amn.h (n:=3000) (by kernel_rfl) (by kernel_rfl)
theorem aWP:BodyOk Tryz.prog (xx (some o7)) o7 (i4 false).less (i4 false).tmps (i4 false).st:=aWQ
end
end Go.Proofs.YtnnbmcfabojjjaaGreat.payPays
