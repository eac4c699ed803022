/-
  PayPays: contracts of functions, part 16.
-/
import Derived.Test.YtnnbmcfabojjjaaGreatPayPaysParto
namespace Go.Proofs.YtnnbmcfabojjjaaGreat.payPays
open Go.ChangeShapes Go.WideShapes Go.ChangeAt Go.RowKit
open Go.SX
open Go.SX.E (fn pr cmp var)
set_option linter.unusedVariables false
set_option linter.unusedSimpArgs false
set_option maxRecDepth 100000
noncomputable section
abbrev gp:E:=var 1
abbrev xp:E:=var 2
abbrev ZZ2:E:=pr gp xp
abbrev BX:E:=fn 145 ZZ2
abbrev ZZ4:E:=pr (fn 1 (pr gp (.int 19))) (.int 0)
abbrev ZZ5:E:=pr (fn 1 (pr gp (.int 18))) ZZ4
abbrev ZZ6:E:=pr (fn 1 (pr gp (.int 17))) ZZ5
abbrev ZZ7:E:=pr (fn 1 (pr gp (.int 16))) ZZ6
abbrev ZZ8:E:=fn 188 ZZ7
abbrev ZZ9:E:=pr (fn 1 (pr gp (.int 5))) (.int 0)
abbrev aUY:E:=pr (fn 1 (pr gp (.int 4))) ZZ9
abbrev aUZ:E:=pr (fn 1 (pr gp (.int 3))) aUY
abbrev aU0:E:=pr (fn 1 (pr gp (.int 2))) aUZ
abbrev ahO:E:=fn 188 aU0
abbrev ahP:E:=cmp .eql xp (.int 0)
abbrev ahQ:E:=var 8
abbrev ahR:E:=var 0
abbrev aU1:E:=pr ahR ZZ2
abbrev aU2:E:=pr ahQ aU1
abbrev aU3:E:=fn 144 aU2
abbrev ahS:=[aU3]
abbrev ahT:E:=var 3
abbrev ahU:E:=var 4
abbrev ahV:E:=var 5
abbrev ahW:E:=var 6
abbrev aU4:E:=pr xp (.int 0)
abbrev aU5:E:=pr gp aU4
abbrev ahX:E:=pr ahR aU5
abbrev aU6:E:=pr ahW ahX
abbrev aU7:E:=pr ahV aU6
abbrev aU8:E:=pr ahU aU7
abbrev ahY:E:=pr ahT aU8
abbrev aU9:E:=pr (.int 0) ahY
abbrev aVa:E:=pr (.int 0) aU9
abbrev aVb:E:=pr (fn 10 (.int 0)) aVa
abbrev ahZ:E:=pr ahQ aVb
abbrev aVc:E:=pr (fn 1 (pr gp (.int 19))) ahZ
abbrev aVd:E:=pr (fn 1 (pr gp (.int 18))) aVc
abbrev aVe:E:=pr (fn 1 (pr gp (.int 17))) aVd
abbrev aVf:E:=pr (fn 1 (pr gp (.int 16))) aVe
abbrev ah0:E:=fn 178 aVf
abbrev aVg:E:=pr (fn 1 (pr gp (.int 5))) ahZ
abbrev aVh:E:=pr (fn 1 (pr gp (.int 4))) aVg
abbrev aVi:E:=pr (fn 1 (pr gp (.int 3))) aVh
abbrev aVj:E:=pr (fn 1 (pr gp (.int 2))) aVi
abbrev ah1:E:=fn 178 aVj
abbrev HE:E:=var 32
abbrev HF:E:=var 33
abbrev HG:E:=var 34
abbrev HH:E:=var 35
abbrev BY:E:=var 36
abbrev xq:E:=var 7
abbrev aVk:E:=pr xq ahY
abbrev ah2:E:=pr (.int 4) aVk
abbrev aVl:E:=pr xq ahX
abbrev aVm:E:=pr ahW aVl
abbrev aVn:E:=pr ahV aVm
abbrev aVo:E:=pr ahU aVn
abbrev ah3:E:=pr ahT aVo
abbrev aVp:E:=pr (fn 10 (.int 0)) ah3
abbrev aVq:E:=pr HH aVp
abbrev aVr:E:=pr HG aVq
abbrev aVs:E:=pr HF aVr
abbrev aVt:E:=pr HE aVs
abbrev ah4:E:=fn 183 aVt
abbrev uA:E:=var 40
abbrev aVu:E:=cmp .lss (.int 30) (fn 6 (pr uA (fn 0 BY)))
abbrev ah5:E:=.not aVu
abbrev BZ:E:=var 39
abbrev ah6:E:=cmp .eql (fn 0 BZ) uA
abbrev aVv:E:=pr (var 43) ah3
abbrev aVw:E:=pr HH aVv
abbrev aVx:E:=pr HG aVw
abbrev aVy:E:=pr HF aVx
abbrev aVz:E:=pr HE aVy
abbrev ah7:E:=fn 183 aVz
abbrev aVA:E:=cmp .eql (var 44) uA
abbrev ah8:=[aVA]
theorem aZv:eh Tryz.prog (xx (some o7)):=rX rfl (by kernel_rfl) (by
 intro τ hτ;rcases List.mem_cons.1 hτ with rfl|hτ
 ·exact aWP
 rcases List.mem_cons.1 hτ with rfl|hτ
 ·exact aWR
 cases hτ)
def awc:=fb [BX] ZZ8<|aj fun F p0=>by
 have hr0:(E.B F BX=true)->E.B F ZZ8=true:=fun s0=>apU s0
 try simp only[aa,ab]at *
 grind
def awd:=fb [BX] ahO<|aj fun F p0=>by
 have hr0:(E.B F BX=true)->E.B F ahO=true:=fun s0=>apT s0
 try simp only[aa,ab]at *
 grind
def awe:=fb (BX::(.not ahP)::ahS) ah0<|ag fun F p0 p1 p2=>by
 have:=@dX F xp gp
 have hr0:(E.I F xp=1)->E.B F ah0=true:=fun s0=>a5n p2 s0
 simp only[aa,ab]at *;grind
def awf:=fb (ahP::ahS) ah1<|ai fun F p0 p1=>by
 have hr0:(E.I F xp=0)->E.B F ah1=true:=fun s0=>a5m p1 s0
 simp only[aa,ab]at *;grind
def awg:=fb [(fn 178 (pr HE (pr HF (pr HG (pr HH (pr BY (pr (fn 10 (.int 0)) ah2)))))))] ah4<|aj fun F p0=>by
 have hr3:(E.I F xq=E.I F xq)->E.B F ah4=true:=fun s0=>a5v p0 s0
 simp only[aa,ab]at *;grind
def awh:=fb [ah5] (.not (cmp .lss (.int 60) uA))<|aj fun F p0=>by
 simp only[aa,ab]at *
 have:=@cm F BY
 grind
def awi:=fb [(fn 178 (pr HE (pr HF (pr HG (pr HH (pr BY (pr BZ ah2))))))),ah6,(fn 152 (pr (var 43) (pr BZ uA)))] ah7<|ag fun F p0 p1 p2=>by
 have hr3:(E.I F xq=E.I F xq)->(E.I F (fn 0 BZ)<=E.I F uA)->E.B F ah7=true:=fun s0 s1=>a5w p0 s0 p2 s1
 simp only[aa,ab]at *;grind
def awk:=fb (ah6::(.not (cmp .lss uA (.int 1)))::ah8) (.not (cmp .lss (var 44) (.int 1)))<|ag fun F p0 p1 p2=>by
 have:=@cm F BZ
 simp only[aa,ab]at *;grind
def awl:=fb (ah5::ah8) (.not (cmp .lss (.int 30) (var 44)))<|ai fun F p0 p1=>by
 simp only[aa,ab]at *
 have:=@cm F BY
 grind
def p66:List Fa:=[dv,awc,awd,awe,awf,aaa,awg,awh,awi,awk,awl]
def a6Q:List Ann:=(xu (some oZ))::(xx (some o7))::[]
theorem a6T:∀x∈a6Q,eh Tryz.prog x:=by
 intro x hx;rcases List.mem_cons.1 hx with rfl|hx
 ·exact aZu
 rcases List.mem_cons.1 hx with rfl|hx
 ·exact aZv
 exact iE [] (by kernel_rfl) x hx
theorem a3F:aI Tryz.prog (aX (a2r)):=
 Tz good (facts:=fl p66) (gU _) (anns:=a6Q) a6T (nats:=amn.l) amn.h (n:=3000) (ms:=[]) (by kernel_rfl)
def amo:Nl:=nc a3F amn
end
end Go.Proofs.YtnnbmcfabojjjaaGreat.payPays
