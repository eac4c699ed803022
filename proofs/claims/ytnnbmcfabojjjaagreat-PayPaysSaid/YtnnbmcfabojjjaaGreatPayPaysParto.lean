/-
  PayPays: contracts of functions, part 15.
-/
import Derived.Test.YtnnbmcfabojjjaaGreatPayPaysPartn
namespace Go.Proofs.YtnnbmcfabojjjaaGreat.payPays
open Go.ChangeShapes Go.WideShapes Go.ChangeAt Go.RowKit
open Go.SX
open Go.SX.E (fn pr cmp var)
set_option linter.unusedVariables false
set_option linter.unusedSimpArgs false
set_option maxRecDepth 100000
noncomputable section
abbrev jO:E:=var 32
abbrev jP:E:=var 33
abbrev jg:E:=var 34
abbrev gR:E:=var 35
abbrev kA:E:=fn 188 (pr jO (pr jP (pr jg (pr gR (.int 0)))))
abbrev kD:E:=cmp .lss jO jP
abbrev rm:E:=cmp .lss jP jg
abbrev BN:E:=cmp .lss jg gR
abbrev YY8:E:=cmp .lss (.int 0) gR
abbrev YY9:E:=.not YY8
abbrev Pp:=[YY9]
abbrev ag4:=BN::Pp
abbrev aUv:=rm::ag4
abbrev aUw:=kD::aUv
abbrev Hg:=kA::aUw
abbrev ur:E:=.not (cmp .lss (var 41) (.int 0))
abbrev ag5:E:=cmp .lss (.int 0) jg
abbrev Pq:E:=.not ag5
abbrev ag6:=[Pq]
abbrev aUx:=rm::ag6
abbrev aUy:=kD::aUx
abbrev Hh:=kA::aUy
abbrev Hi:E:=cmp .lss jP gR
abbrev aUz:=Hi::Pp
abbrev aUA:=kD::aUz
abbrev Hj:=kA::aUA
abbrev ag7:E:=cmp .lss (.int 0) jP
abbrev ag8:E:=.not ag7
abbrev aUB:=[ag8]
abbrev aUC:=kD::aUB
abbrev Hk:=kA::aUC
abbrev ut:E:=cmp .lss jO jg
abbrev aUD:=ut::ag4
abbrev Hl:=kA::aUD
abbrev aUE:=ut::ag6
abbrev Hm:=kA::aUE
abbrev xj:E:=cmp .lss jO gR
abbrev aUF:=xj::Pp
abbrev Hn:=kA::aUF
abbrev fx:E:=var 42
abbrev jh:E:=var 7
abbrev mE:E:=cmp .lss fx jh
abbrev xk:E:=.not kD
abbrev Ho:E:=.not ut
abbrev Pr:E:=cmp .lss (.int 0) jO
abbrev eT:E:=var 36
abbrev ag9:E:=cmp .eql (fn 0 eT) (.int 0)
abbrev aUG:E:=cmp .lss fx (.int 0)
abbrev Ps:E:=.not aUG
abbrev BM:E:=var 39
abbrev mG:E:=var 3
abbrev mH:E:=var 4
abbrev mI:E:=var 5
abbrev mJ:E:=var 6
abbrev Pt:E:=var 1
abbrev Pv:E:=pr mG (pr mH (pr mI (pr mJ (pr (var 0) (pr Pt (pr (var 2) (.int 0)))))))
abbrev Hp:E:=fn 178 (pr jO (pr jP (pr jg (pr gR (pr eT (pr BM (pr (.int 4) (pr fx Pv))))))))
abbrev aUH:E:=pr Pt (var 2)
abbrev aUI:E:=fn 145 aUH
abbrev aha:=[aUI,(fn 117 Pt)]
abbrev ahb:E:=pr (.int 4) (pr jh Pv)
abbrev aUJ:E:=pr mJ jh
abbrev aUK:E:=pr mI aUJ
abbrev aUL:E:=pr mH aUK
abbrev aUM:E:=pr mG aUL
abbrev ahc:E:=fn 146 aUM
abbrev aUN:=[ahc]
abbrev aUO:=kA::aUN
abbrev aUP:=Hp::aUO
abbrev Hq:=Ps::aUP
abbrev Pw:=YY8::Hq
abbrev ahd:=BN::Pw
abbrev aUQ:E:=pr (.ar .add .i64 fx (.int 1)) Pv
abbrev ahe:E:=pr (.int 4) aUQ
abbrev aUR:E:=pr BM ahe
abbrev ahf:E:=pr eT aUR
abbrev Hr:E:=fn 178 (pr jO (pr jP (pr jg (pr (.ar .sub .i64 gR (.int 1)) ahf))))
abbrev BO:E:=var 40
abbrev rn:E:=.not (cmp .lss (.int 2147483648) (fn 6 (pr BO (.int 1))))
abbrev aUS:=ag5::Hq
abbrev ahg:List E:=(.not BN)::aUS
abbrev ahh:E:=pr gR ahf
abbrev aUT:E:=pr (.ar .sub .i64 jg (.int 1)) ahh
abbrev aUU:E:=pr jP aUT
abbrev aUV:E:=pr jO aUU
abbrev ahi:E:=fn 178 aUV
abbrev ahj:E:=pr jg ahh
abbrev Px:E:=.not ag9
abbrev aUW:E:=cmp .lss (.int 30) (fn 6 (pr BO (fn 0 eT)))
abbrev ahk:E:=.not aUW
abbrev aUX:=[ahk]
abbrev ahl:=Px::aUX
abbrev uv:E:=cmp .eql (fn 6 (pr (fn 0 BM) (.int 1))) (fn 6 (pr BO (.int 1)))
abbrev ro:E:=.not (cmp .lss (.int 30) (fn 6 (pr (fn 6 (pr BO (.int 1))) (fn 0 (fn 24 (pr (pr (.int 1) eT) (pr (.int 1) (pr (fn 0 eT) (fn 22 eT)))))))))
abbrev Hs:=[YY9,kA]
abbrev rp:E:=fn 178 (pr jO (pr jP (pr jg (pr gR (pr (fn 24 (pr (pr (.int 1) eT) (pr (.int 1) (pr (fn 0 eT) (fn 22 eT))))) (pr (fn 3 (pr BM (fn 23 (pr (fn 1 (pr eT (.int 0))) (fn 10 (.int 0)))))) ahe))))))
def avk:=fb Hg ur<|aw fun F p0 p1 p2 p3 p4=>by
 have:=(@ak F _ _ _ _).mp p0
 simp only[aa]at *;grind
def avl:=fb Hh ur<|am fun F p0 p1 p2 p3=>by
 have:=(@ak F _ _ _ _).mp p0
 simp only[aa]at *;grind
def avm:=fb Hj ur<|am fun F p0 p1 p2 p3=>by
 have:=(@ak F _ _ _ _).mp p0
 simp only[aa]at *;grind
def avn:=fb Hk ur<|ag fun F p0 p1 p2=>by
 have:=(@ak F _ _ _ _).mp p0
 simp only[aa]at *;grind
def avo:=fb Hl ur<|am fun F p0 p1 p2 p3=>by
 have:=(@ak F _ _ _ _).mp p0
 simp only[aa]at *;grind
def avp:=fb Hm ur<|ag fun F p0 p1 p2=>by
 have:=(@ak F _ _ _ _).mp p0
 simp only[aa]at *;grind
def avr:=fb Hn ur<|ag fun F p0 p1 p2=>by
 have:=(@ak F _ _ _ _).mp p0
 simp only[aa]at *;grind
def avs:=fb (mE::xk::Ho::(.not xj)::(.not Pr)::ag9::Ps::Hp::kA::aha) (fn 177 ahb)<|eW fun F p0 p1 p2 p3 p4 p5 p6 p7 p8 p9 ao=>by
 have hr3:(0<=E.I F _)->(E.I F _<E.I F _)->(E.I F _=0)->(E.I F _<=0)->(E.I F _<=0)->(E.I F _<=0)->(E.I F _<=0)->E.B F (fn _ (pr _ (pr jh _)))=true:=fun s0 s1 s2 s3 s4 s5 s6=>apq p7 p9 ao s0 s1 s2 s3 s4 s5 s6
 simp only[aa]at *;grind
def avt:=fb [(.not mE),(.not (cmp .lss jh fx)),Hp] (fn 178 (pr jO (pr jP (pr jg (pr gR (pr eT (pr BM ahb)))))))<|ag fun F p0 p1 p2=>by
 have hr3:(E.I F _=E.I F _)->(E.I F _=E.I F _)->E.B F (fn _ (pr _ (pr _ (pr _ (pr _ (pr _ (pr _ (pr (.int 4) (pr jh _)))))))))=true:=fun s0 s1=>zj p2 s0 s1
 simp only[aa]at *;grind
def avu:=fb (mE::kD::rm::ahd) Hr<|b8 fun F p0 p1 p2 p3 p4 p5 p6 p7 p8=>by
 have:=@aR F gR (.int 1)
 have:=@ay F fx (.int 1)
 have:=@aV F mG mH mI mJ jh
 have:=(@ak F _ _ _ _).mp p7
 have hr3:(0<=E.I F _)->(E.I F _=E.I F _+1)->(0<E.I F _)->(E.I F _=E.I F _-1)->(E.I F _<E.I F _)->(E.I F _<E.I F _)->(E.I F _<E.I F _)->E.B F (fn _ (pr _ (pr _ (pr _ (pr (.ar .sub .i64 gR (.int 1)) (pr _ (pr _ (pr _ (pr (.ar .add .i64 fx (.int 1)) _)))))))))=true:=fun s0 s1 s2 s3 s4 s5 s6=>sx p6 s0 s1 s2 s3 s4 s5 s6
 simp only[aa]at *;grind
def avv:=fb Hg rn<|aw fun F p0 p1 p2 p3 p4=>by
 have:=(@ak F _ _ _ _).mp p0
 simp only[aa]at *;grind
def avw:=fb (mE::kD::rm::ahg) ahi<|b8 fun F p0 p1 p2 p3 p4 p5 p6 p7 p8=>by
 have:=@aR F jg (.int 1)
 have:=@ay F fx (.int 1)
 have:=@aV F mG mH mI mJ jh
 have:=(@ak F _ _ _ _).mp p7
 have hr3:(0<=E.I F _)->(E.I F _=E.I F _+1)->(0<E.I F _)->(E.I F _=E.I F _-1)->(E.I F _<E.I F _)->(E.I F _<E.I F _)->(E.I F _<=E.I F _)->E.B F (fn _ (pr _ (pr _ (pr (.ar .sub .i64 jg (.int 1)) (pr _ (pr _ (pr _ (pr _ (pr (.ar .add .i64 fx (.int 1)) _)))))))))=true:=fun s0 s1 s2 s3 s4 s5 s6=>KS p6 s0 s1 s2 s3 s4 s5 s6
 simp only[aa]at *;grind
def avx:=fb Hh rn<|am fun F p0 p1 p2 p3=>by
 have:=(@ak F _ _ _ _).mp p0
 simp only[aa]at *;grind
def avy:=fb (mE::kD::(.not rm)::Hi::Pw) Hr<|b8 fun F p0 p1 p2 p3 p4 p5 p6 p7 p8=>by
 have:=@aR F gR (.int 1)
 have:=@ay F fx (.int 1)
 have:=@aV F mG mH mI mJ jh
 have:=(@ak F _ _ _ _).mp p7
 have hr3:(0<=E.I F _)->(E.I F _=E.I F _+1)->(0<E.I F _)->(E.I F _=E.I F _-1)->(E.I F _<E.I F _)->(E.I F _<E.I F _)->(E.I F _<E.I F _)->E.B F (fn _ (pr _ (pr _ (pr _ (pr (.ar .sub .i64 gR (.int 1)) (pr _ (pr _ (pr _ (pr (.ar .add .i64 fx (.int 1)) _)))))))))=true:=fun s0 s1 s2 s3 s4 s5 s6=>sx p6 s0 s1 s2 s3 s4 s5 s6
 simp only[aa]at *;grind
def avz:=fb Hj rn<|am fun F p0 p1 p2 p3=>by
 have:=(@ak F _ _ _ _).mp p0
 simp only[aa]at *;grind
def avA:=fb (mE::kD::(.not rm)::(.not Hi)::ag7::Hq) (fn 178 (pr jO (pr (.ar .sub .i64 jP (.int 1)) ahj)))<|b8 fun F p0 p1 p2 p3 p4 p5 p6 p7 p8=>by
 have:=@aR F jP (.int 1)
 have:=@ay F fx (.int 1)
 have:=@aV F mG mH mI mJ jh
 have:=(@ak F _ _ _ _).mp p7
 have hr3:(0<=E.I F _)->(E.I F _=E.I F _+1)->(0<E.I F _)->(E.I F _=E.I F _-1)->(E.I F _<E.I F _)->(E.I F _<=E.I F _)->(E.I F _<=E.I F _)->E.B F (fn _ (pr _ (pr (.ar .sub .i64 jP (.int 1)) (pr _ (pr _ (pr _ (pr _ (pr _ (pr (.ar .add .i64 fx (.int 1)) _)))))))))=true:=fun s0 s1 s2 s3 s4 s5 s6=>apy p6 s0 s1 s2 s3 s4 s5 s6
 simp only[aa]at *;grind
def avC:=fb Hk rn<|ag fun F p0 p1 p2=>by
 have:=(@ak F _ _ _ _).mp p0
 simp only[aa]at *;grind
def avD:=fb (mE::xk::ut::ahd) Hr<|b8 fun F p0 p1 p2 p3 p4 p5 p6 p7 p8=>by
 have:=@aR F gR (.int 1)
 have:=@ay F fx (.int 1)
 have:=@aV F mG mH mI mJ jh
 have:=(@ak F _ _ _ _).mp p7
 have hr3:(0<=E.I F _)->(E.I F _=E.I F _+1)->(0<E.I F _)->(E.I F _=E.I F _-1)->(E.I F _<E.I F _)->(E.I F _<E.I F _)->(E.I F _<E.I F _)->E.B F (fn _ (pr _ (pr _ (pr _ (pr (.ar .sub .i64 gR (.int 1)) (pr _ (pr _ (pr _ (pr (.ar .add .i64 fx (.int 1)) _)))))))))=true:=fun s0 s1 s2 s3 s4 s5 s6=>sx p6 s0 s1 s2 s3 s4 s5 s6
 simp only[aa]at *;grind
def avE:=fb Hl rn<|am fun F p0 p1 p2 p3=>by
 have:=(@ak F _ _ _ _).mp p0
 simp only[aa]at *;grind
def avF:=fb (mE::xk::ut::ahg) ahi<|b8 fun F p0 p1 p2 p3 p4 p5 p6 p7 p8=>by
 have:=@aR F jg (.int 1)
 have:=@ay F fx (.int 1)
 have:=@aV F mG mH mI mJ jh
 have:=(@ak F _ _ _ _).mp p7
 have hr3:(0<=E.I F _)->(E.I F _=E.I F _+1)->(0<E.I F _)->(E.I F _=E.I F _-1)->(E.I F _<E.I F _)->(E.I F _<E.I F _)->(E.I F _<=E.I F _)->E.B F (fn _ (pr _ (pr _ (pr (.ar .sub .i64 jg (.int 1)) (pr _ (pr _ (pr _ (pr _ (pr (.ar .add .i64 fx (.int 1)) _)))))))))=true:=fun s0 s1 s2 s3 s4 s5 s6=>KS p6 s0 s1 s2 s3 s4 s5 s6
 simp only[aa]at *;grind
def avG:=fb Hm rn<|ag fun F p0 p1 p2=>by
 have:=(@ak F _ _ _ _).mp p0
 simp only[aa]at *;grind
def avH:=fb (mE::xk::Ho::xj::Pw) Hr<|b8 fun F p0 p1 p2 p3 p4 p5 p6 p7 p8=>by
 have:=@aR F gR (.int 1)
 have:=@ay F fx (.int 1)
 have:=@aV F mG mH mI mJ jh
 have:=(@ak F _ _ _ _).mp p7
 have hr3:(0<=E.I F _)->(E.I F _=E.I F _+1)->(0<E.I F _)->(E.I F _=E.I F _-1)->(E.I F _<E.I F _)->(E.I F _<E.I F _)->(E.I F _<E.I F _)->E.B F (fn _ (pr _ (pr _ (pr _ (pr (.ar .sub .i64 gR (.int 1)) (pr _ (pr _ (pr _ (pr (.ar .add .i64 fx (.int 1)) _)))))))))=true:=fun s0 s1 s2 s3 s4 s5 s6=>sx p6 s0 s1 s2 s3 s4 s5 s6
 simp only[aa]at *;grind
def avI:=fb Hn rn<|ag fun F p0 p1 p2=>by
 have:=(@ak F _ _ _ _).mp p0
 simp only[aa]at *;grind
def avJ:=fb (mE::xk::Ho::(.not xj)::Pr::Hq) (fn 178 (pr (.ar .sub .i64 jO (.int 1)) (pr jP ahj)))<|b8 fun F p0 p1 p2 p3 p4 p5 p6 p7 p8=>by
 have:=@aR F jO (.int 1)
 have:=@ay F fx (.int 1)
 have:=@aV F mG mH mI mJ jh
 have:=(@ak F _ _ _ _).mp p7
 have hr3:(0<=E.I F _)->(E.I F _=E.I F _+1)->(0<E.I F _)->(E.I F _=E.I F _-1)->(E.I F _<=E.I F _)->(E.I F _<=E.I F _)->(E.I F _<=E.I F _)->E.B F (fn _ (pr (.ar .sub .i64 jO (.int 1)) (pr _ (pr _ (pr _ (pr _ (pr _ (pr _ (pr (.ar .add .i64 fx (.int 1)) _)))))))))=true:=fun s0 s1 s2 s3 s4 s5 s6=>apx p6 s0 s1 s2 s3 s4 s5 s6
 simp only[aa]at *;grind
def avK:=fb ahl rn<|ai fun F p0 p1=>by
 simp only[aa]at *
 have:=@cm F eT
 grind
def avL:=fb [Px,ahk,(.not (cmp .lss BO (.int 1)))] (.not (cmp .lss (.int 40) (fn 0 (fn 24 (pr (pr (.int 1) eT) (pr (.int 1) (pr (fn 0 eT) (fn 22 eT))))))))<|ag fun F p0 p1 p2=>by
 have:=@I8 F (fn 22 eT) eT
 simp only[aa]at *
 have:=@cm F eT
 grind
def avN:=fb Hg uv<|aw fun F p0 p1 p2 p3 p4=>by
 have:=(@ak F _ _ _ _).mp p0
 simp only[aa]at *;grind
def avO:=fb Hh uv<|am fun F p0 p1 p2 p3=>by
 have:=(@ak F _ _ _ _).mp p0
 simp only[aa]at *;grind
def avP:=fb Hj uv<|am fun F p0 p1 p2 p3=>by
 have:=(@ak F _ _ _ _).mp p0
 simp only[aa]at *;grind
def avQ:=fb Hk uv<|ag fun F p0 p1 p2=>by
 have:=(@ak F _ _ _ _).mp p0
 simp only[aa]at *;grind
def avR:=fb Hl uv<|am fun F p0 p1 p2 p3=>by
 have:=(@ak F _ _ _ _).mp p0
 simp only[aa]at *;grind
def avS:=fb Hm uv<|ag fun F p0 p1 p2=>by
 have:=(@ak F _ _ _ _).mp p0
 simp only[aa]at *;grind
def avT:=fb Hn uv<|ag fun F p0 p1 p2=>by
 have:=(@ak F _ _ _ _).mp p0
 simp only[aa]at *;grind
def avU:=fb Hg ro<|aw fun F p0 p1 p2 p3 p4=>by
 have:=(@ak F _ _ _ _).mp p0
 simp only[aa]at *;grind
def avV:=fb Hh ro<|am fun F p0 p1 p2 p3=>by
 have:=(@ak F _ _ _ _).mp p0
 simp only[aa]at *;grind
def avW:=fb Hj ro<|am fun F p0 p1 p2 p3=>by
 have:=(@ak F _ _ _ _).mp p0
 simp only[aa]at *;grind
def avY:=fb Hk ro<|ag fun F p0 p1 p2=>by
 have:=(@ak F _ _ _ _).mp p0
 simp only[aa]at *;grind
def avZ:=fb Hl ro<|am fun F p0 p1 p2 p3=>by
 have:=(@ak F _ _ _ _).mp p0
 simp only[aa]at *;grind
def av0:=fb Hm ro<|ag fun F p0 p1 p2=>by
 have:=(@ak F _ _ _ _).mp p0
 simp only[aa]at *;grind
def av1:=fb Hn ro<|ag fun F p0 p1 p2=>by
 have:=(@ak F _ _ _ _).mp p0
 simp only[aa]at *;grind
def av2:=fb ahl ro<|ai fun F p0 p1=>by
 have:=@I8 F (fn 22 eT) eT
 simp only[aa]at *
 have:=@cm F eT
 grind
def av3:=fb (kD::rm::BN::Hs) rp<|aw fun F p0 p1 p2 p3 p4=>by
 have:=(@ak F _ _ _ _).mp p4
 simp only[aa]at *;grind
def av4:=fb [kD,rm,Pq,kA] rp<|am fun F p0 p1 p2 p3=>by
 have:=(@ak F _ _ _ _).mp p3
 simp only[aa]at *;grind
def av5:=fb (kD::Hi::Hs) rp<|am fun F p0 p1 p2 p3=>by
 have:=(@ak F _ _ _ _).mp p3
 simp only[aa]at *;grind
def av6:=fb [kD,ag8,kA] rp<|ag fun F p0 p1 p2=>by
 have:=(@ak F _ _ _ _).mp p2
 simp only[aa]at *;grind
def av7:=fb (ut::BN::Hs) rp<|am fun F p0 p1 p2 p3=>by
 have:=(@ak F _ _ _ _).mp p3
 simp only[aa]at *;grind
def av9:=fb [ut,Pq,kA] rp<|ag fun F p0 p1 p2=>by
 have:=(@ak F _ _ _ _).mp p2
 simp only[aa]at *;grind
def awa:=fb (xj::Hs) rp<|ag fun F p0 p1 p2=>by
 have:=(@ak F _ _ _ _).mp p2
 simp only[aa]at *;grind
def awb:=fb (mE::xk::Ho::(.not xj)::(.not Pr)::Px::Ps::Hp::ahc::aha) rp<|eW fun F p0 p1 p2 p3 p4 p5 p6 p7 p8 p9 ao=>by
 have:=@ay F fx (.int 1)
 have:=@aV F mG mH mI mJ jh
 have hr3:(0<=E.I F _)->(E.I F _=E.I F _+1)->(0<E.I F _)->(E.I F _<=0)->(E.I F _<=0)->(E.I F _<=0)->(E.I F _<=0)->E.B F (fn _ (pr _ (pr _ (pr _ (pr _ (pr (fn 24 (pr _ (pr _ (pr _ (fn 22 eT))))) (pr _ (pr _ (pr (.ar .add .i64 fx (.int 1)) _)))))))))=true:=fun s0 s1 s2 s3 s4 s5 s6=>a5l p7 p9 ao s0 s1 s2 s3 s4 s5 s6
 simp only[aa]at *
 have:=@cm F eT
 grind
def aY2:List Fa:=[dv,W2,W3,avk,W5,W6,avl,W8,W9,avm,Xb,Xc,avn,Xe,Xf,avo,Xh,Xi,avp,Xk,Xl,avr,Ef,avs,LL,avt,avu,avv,avw,avx,avy,avz,avA,avC,avD,avE,avF,avG,avH,avI,avJ,avK,Xn,W4,W7,Xa,Xd,Xg,Xj,Xm,avL,Xo,avN,avO,avP,avQ,avR,avS,avT,LM,Xw,avU,avV,avW,avY,avZ,av0,av1,av2,XE,av3,av4,av5,av6,av7,av9,awa,awb,XM,Xp,Xq,Xr,Xs,Xt,Xu,Xv,Xx,Xy,Xz,XA,XB,XC,XD,XF,XG,XH,XI,XJ,XK,XL,XN,XO,XP,XQ,XR,XS,XT,XU,XV,XW,XX,XY,XZ,Ya]
theorem aWS:BodyOk Tryz.prog (xx (some o7)) o7 (i4 true).less (i4 true).tmps {(i4 true).st with pc:=(i4 true).st.pc}:=
 kG good (facts:=fl aY2) (gU _) (anns:=[]) (iE _ (by kernel_rfl)) (nats:=amn.l) amn.h (n:=3000) (by kernel_rfl) (by kernel_rfl)
theorem aWR:BodyOk Tryz.prog (xx (some o7)) o7 (i4 true).less (i4 true).tmps (i4 true).st:=aWS
end
end Go.Proofs.YtnnbmcfabojjjaaGreat.payPays
