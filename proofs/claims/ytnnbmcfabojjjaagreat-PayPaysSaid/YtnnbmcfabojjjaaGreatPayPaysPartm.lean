/-
  PayPays: contracts of functions, part 13.
-/
import Derived.Test.YtnnbmcfabojjjaaGreatPayPaysPartl
namespace Go.Proofs.YtnnbmcfabojjjaaGreat.payPays
open Go.ChangeShapes Go.WideShapes Go.ChangeAt Go.RowKit
open Go.SX
open Go.SX.E (fn pr cmp var)
set_option linter.unusedVariables false
set_option linter.unusedSimpArgs false
set_option maxRecDepth 100000
noncomputable section
abbrev hU:E:=var 26
abbrev EJ:E:=cmp .eql hU (.int 0)
abbrev fZ:E:=var 42
abbrev km:E:=var 3
abbrev kn:E:=var 4
abbrev ko:E:=var 5
abbrev kp:E:=var 6
abbrev JJ7:E:=cmp .lss (fn 1 (pr (fn 23 (pr km (fn 23 (pr kn (fn 23 (pr ko (fn 23 (pr kp (fn 10 (.int 0)))))))))) hU)) fZ
abbrev JJ8:E:=.not JJ7
abbrev JJ9:E:=cmp .lss hU (.int 4)
abbrev aM0:E:=cmp .lss hU (.int 0)
abbrev aa8:E:=.not aM0
abbrev nz:E:=var 32
abbrev nA:E:=var 33
abbrev pj:E:=var 34
abbrev qP:E:=var 35
abbrev Ml:E:=var 36
abbrev Mm:E:=var 39
abbrev Mn:E:=pr km (pr kn (pr ko (pr kp (pr (var 0) (pr (var 1) (pr (var 2) (.int 0)))))))
abbrev aM1:E:=pr fZ Mn
abbrev aM2:E:=pr hU aM1
abbrev aM3:E:=pr Mm aM2
abbrev aM4:E:=pr Ml aM3
abbrev aM5:E:=pr qP aM4
abbrev aM6:E:=pr pj aM5
abbrev aM7:E:=pr nA aM6
abbrev aM8:E:=pr nz aM7
abbrev aa9:E:=fn 178 aM8
abbrev aM9:=[aa9]
abbrev aNa:=aa8::aM9
abbrev aNb:=JJ9::aNa
abbrev EK:=JJ8::aNb
abbrev EL:E:=fn 178 (pr nz (pr nA (pr pj (pr qP (pr Ml (pr Mm (pr (fn 6 (pr hU (.int 1))) (pr (.int 0) Mn))))))))
abbrev EM:E:=cmp .eql hU (.int 1)
abbrev EN:E:=cmp .eql hU (.int 2)
abbrev aNc:E:=cmp .lss fZ (.int 0)
abbrev aba:E:=.not aNc
abbrev aNd:E:=pr qP (.int 0)
abbrev aNe:E:=pr pj aNd
abbrev aNf:E:=pr nA aNe
abbrev aNg:E:=pr nz aNf
abbrev aNh:E:=fn 188 aNg
abbrev zV:E:=var 7
abbrev aNi:E:=pr kp zV
abbrev aNj:E:=pr ko aNi
abbrev aNk:E:=pr kn aNj
abbrev aNl:E:=pr km aNk
abbrev aNm:E:=fn 146 aNl
abbrev aNn:=[aNm]
abbrev aNo:=aNh::aNn
abbrev abb:=aa9::aNo
abbrev Mo:=aba::abb
abbrev aNp:E:=pr (.ar .add .i64 fZ (.int 1)) Mn
abbrev aNq:E:=pr hU aNp
abbrev aNr:E:=pr Mm aNq
abbrev abc:E:=pr Ml aNr
abbrev abd:E:=pr qP abc
abbrev abe:E:=pr pj abd
def auy:=fb (EJ::(.not (cmp .lss fZ km))::EK) EL<|bq fun F p0 p1 p2 p3 p4 p5=>by
 have:=@Cj F hU km kn ko kp
 have hr9:(E.I F _=E.I F _)->(0<=E.I F _)->(E.I F _<4)->(E.I F _=E.I F _+1)->(E.I F _=0)->E.B F (fn _ (pr _ (pr _ (pr _ (pr _ (pr _ (pr _ (pr (fn 6 (pr hU (.int 1))) (pr (.int 0) _)))))))))=true:=fun s0 s1 s2 s3 s4=>sy p5 s0 s1 s2 s3 s4
 simp only[aa]at *;grind
def auA:=fb (EM::(.not (cmp .lss fZ kn))::EK) EL<|bq fun F p0 p1 p2 p3 p4 p5=>by
 have:=@Ck F hU km kn ko kp
 have hr9:(E.I F _=E.I F _)->(0<=E.I F _)->(E.I F _<4)->(E.I F _=E.I F _+1)->(E.I F _=0)->E.B F (fn _ (pr _ (pr _ (pr _ (pr _ (pr _ (pr _ (pr (fn 6 (pr hU (.int 1))) (pr (.int 0) _)))))))))=true:=fun s0 s1 s2 s3 s4=>sy p5 s0 s1 s2 s3 s4
 simp only[aa]at *;grind
def auB:=fb (EN::(.not (cmp .lss fZ ko))::EK) EL<|bq fun F p0 p1 p2 p3 p4 p5=>by
 have:=@Cl F hU km kn ko kp
 have hr9:(E.I F _=E.I F _)->(0<=E.I F _)->(E.I F _<4)->(E.I F _=E.I F _+1)->(E.I F _=0)->E.B F (fn _ (pr _ (pr _ (pr _ (pr _ (pr _ (pr _ (pr (fn 6 (pr hU (.int 1))) (pr (.int 0) _)))))))))=true:=fun s0 s1 s2 s3 s4=>sy p5 s0 s1 s2 s3 s4
 simp only[aa]at *;grind
def auC:=fb ((.not EJ)::(.not EM)::(.not EN)::(.not (cmp .lss fZ kp))::EK) EL<|b7 fun F p0 p1 p2 p3 p4 p5 p6 p7=>by
 have:=@Cm F hU km kn ko kp
 have hr9:(E.I F _=E.I F _)->(0<=E.I F _)->(E.I F _<4)->(E.I F _=E.I F _+1)->(E.I F _=0)->E.B F (fn _ (pr _ (pr _ (pr _ (pr _ (pr _ (pr _ (pr (fn 6 (pr hU (.int 1))) (pr (.int 0) _)))))))))=true:=fun s0 s1 s2 s3 s4=>sy p7 s0 s1 s2 s3 s4
 simp only[aa]at *;grind
def auD:=fb (EJ::(cmp .lss fZ km)::(cmp .lss (.int 0) nz)::Mo) (fn 178 (pr (.ar .sub .i64 nz (.int 1)) (pr nA abe)))<|bL fun F p0 p1 p2 p3 p4 p5 p6=>by
 have:=@aR F nz (.int 1)
 have:=@ay F fZ (.int 1)
 have:=@aV F km kn ko kp zV
 have:=(@ak F _ _ _ _).mp p5
 have hr8:(E.I F _=0)->(0<=E.I F _)->(E.I F _=E.I F _+1)->(0<E.I F _)->(E.I F _=E.I F _-1)->E.B F (fn _ (pr (.ar .sub .i64 nz (.int 1)) (pr _ (pr _ (pr _ (pr _ (pr _ (pr _ (pr (.ar .add .i64 fZ (.int 1)) _)))))))))=true:=fun s0 s1 s2 s3 s4=>apz p4 s0 s1 s2 s3 s4
 simp only[aa]at *;grind
def auE:=fb (EM::(cmp .lss fZ kn)::(cmp .lss (.int 0) nA)::Mo) (fn 178 (pr nz (pr (.ar .sub .i64 nA (.int 1)) abe)))<|bL fun F p0 p1 p2 p3 p4 p5 p6=>by
 have:=@aR F nA (.int 1)
 have:=@ay F fZ (.int 1)
 have:=@aV F km kn ko kp zV
 have:=(@ak F _ _ _ _).mp p5
 have hr8:(E.I F _=1)->(0<=E.I F _)->(E.I F _=E.I F _+1)->(0<E.I F _)->(E.I F _=E.I F _-1)->E.B F (fn _ (pr _ (pr (.ar .sub .i64 nA (.int 1)) (pr _ (pr _ (pr _ (pr _ (pr _ (pr (.ar .add .i64 fZ (.int 1)) _)))))))))=true:=fun s0 s1 s2 s3 s4=>apA p4 s0 s1 s2 s3 s4
 simp only[aa]at *;grind
def auF:=fb (EN::(cmp .lss fZ ko)::(cmp .lss (.int 0) pj)::Mo) (fn 178 (pr nz (pr nA (pr (.ar .sub .i64 pj (.int 1)) abd))))<|bL fun F p0 p1 p2 p3 p4 p5 p6=>by
 have:=@aR F pj (.int 1)
 have:=@ay F fZ (.int 1)
 have:=@aV F km kn ko kp zV
 have:=(@ak F _ _ _ _).mp p5
 have hr8:(E.I F _=2)->(0<=E.I F _)->(E.I F _=E.I F _+1)->(0<E.I F _)->(E.I F _=E.I F _-1)->E.B F (fn _ (pr _ (pr _ (pr (.ar .sub .i64 pj (.int 1)) (pr _ (pr _ (pr _ (pr _ (pr (.ar .add .i64 fZ (.int 1)) _)))))))))=true:=fun s0 s1 s2 s3 s4=>apB p4 s0 s1 s2 s3 s4
 simp only[aa]at *;grind
def auG:=fb ((.not EJ)::(.not EM)::(.not EN)::(cmp .lss fZ kp)::(cmp .lss (.int 0) qP)::aba::JJ9::aa8::abb) (fn 178 (pr nz (pr nA (pr pj (pr (.ar .sub .i64 qP (.int 1)) abc)))))<|eW fun F p0 p1 p2 p3 p4 p5 p6 p7 p8 p9 ao=>by
 have:=@aR F qP (.int 1)
 have:=@ay F fZ (.int 1)
 have:=@aV F km kn ko kp zV
 have:=(@ak F _ _ _ _).mp p9
 have hr8:(E.I F _=3)->(0<=E.I F _)->(E.I F _=E.I F _+1)->(0<E.I F _)->(E.I F _=E.I F _-1)->E.B F (fn _ (pr _ (pr _ (pr _ (pr (.ar .sub .i64 qP (.int 1)) (pr _ (pr _ (pr _ (pr (.ar .add .i64 fZ (.int 1)) _)))))))))=true:=fun s0 s1 s2 s3 s4=>apC p8 s0 s1 s2 s3 s4
 simp only[aa]at *;grind
def aYY:List Fa:=[dv,Ef,Wa,auy,Wb,Wc,auA,Wd,We,auB,Wf,Wg,auC,auD,Wh,auE,Wi,auF,Wj,auG,Wk,Wl,Wm,Wn,Wo,Wp,Wq,Wr,Ws,Wt,Wu,Wv,Ww,Wx,Wy,Wz,WA,WB,WC,WD,LL,WE,WF,WG,WH,WI,WJ,WK,WL,WM,WN,WO,LM,WP,WQ,WR,WS,WT,WU]
theorem aWK:BodyOk Tryz.prog (xv (some o5)) o5 (iG true).less (iG true).tmps {(iG true).st with pc:=(iG true).st.pc}:=
 kG good (facts:=fl aYY) (gU _) (anns:=PS) ail (nats:=amn.l) amn.h (n:=3000) (by kernel_rfl) (by kernel_rfl)
theorem aWJ:BodyOk Tryz.prog (xv (some o5)) o5 (iG true).less (iG true).tmps (iG true).st:=aWK
end
end Go.Proofs.YtnnbmcfabojjjaaGreat.payPays
