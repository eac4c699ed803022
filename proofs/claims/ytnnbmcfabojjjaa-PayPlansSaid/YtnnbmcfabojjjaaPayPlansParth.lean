/-
  PayPlans: contracts of functions, part 8.
-/
import Derived.Test.YtnnbmcfabojjjaaRows
import Derived.Test.YtnnbmcfabojjjaaNat
import Derived.WalkKit
import Derived.ProofKit
import Derived.OpenShut
import Derived.ChangeOld
import Derived.Below
import Derived.KernelRfl
import Derived.Lib.SmallJoins
import Derived.Laws.IdiomArrays
import Derived.Test.YtnnbmcfabojjjaaPayPlansPartg
namespace Go.Proofs.Ytnnbmcfabojjjaa.payPlans
open Go.ChangeShapes Go.WideShapes Go.ChangeAt Go.RowKit
open Go.SX
open Go.SX.E (fn pr cmp var)
set_option linter.unusedVariables false
set_option linter.unusedSimpArgs false
set_option maxRecDepth 100000
noncomputable section
abbrev D0:E:=var 1
abbrev D1:E:=var 0
abbrev D2:E:=fn 189 (pr D0 D1)
abbrev D3:E:=fn 117 D1
abbrev D4:E:=fn 116 D1
abbrev D5:E:=cmp .eql (fn 9 (pr (fn 1 (pr D1 (.int 0))) (.int 12))) (fn 9 (pr (fn 1 (pr D0 (.int 0))) (.int 12)))
abbrev D6:E:=pr (fn 1 (pr D0 (.int 29))) (fn 1 (pr D1 (.int 29)))
abbrev D7:E:=fn 187 D6
abbrev D8:=[D2,D3,D4]
abbrev D9:E:=cmp .eql (fn 9 (pr (fn 1 (pr D1 (.int 32))) (.int 2))) (fn 9 (pr (fn 1 (pr D0 (.int 32))) (.int 2)))
abbrev ng:E:=cmp .eql (fn 1 (pr D1 (.int 33))) (fn 1 (pr D0 (.int 33)))
abbrev n7:E:=cmp .eql (fn 1 (pr D1 (.int 34))) (fn 1 (pr D0 (.int 34)))
abbrev pf:E:=cmp .eql (fn 1 (pr D1 (.int 35))) (fn 1 (pr D0 (.int 35)))
abbrev uL:E:=cmp .eql (fn 1 (pr D1 (.int 36))) (fn 1 (pr D0 (.int 36)))
abbrev D14:=[pf,uL]
abbrev PQ:=n7::D14
abbrev wc:E:=cmp .eql (fn 1 (pr D1 (.int 37))) (fn 1 (pr D0 (.int 37)))
theorem aPf:dZ Try.prog (DZ (some (f6 4 32))):=rW rfl (by kernel_rfl) (by
 intro τ hτ;rcases List.mem_cons.1 hτ with rfl|hτ
 ·exact aTq
 cases hτ)
def aKo:=fb ([D2,D3,D4,D5]) D7<|aj fun F p0 p1 p2 p3=>by
 simp_all[aeQ]
def aIG:=fb D8 D5<|af fun F p0 p1 p2=>by
 have hp0:=aE p0 0 (by decide)
 have:=@xw F _ _ hp0 (.int 12)
 try simp only[aa]at *
 grind
def aBd:=fb D8 D7<|af fun F p0 p1 p2=>by
 simp_all[aeQ]
def aQk:=fb D8 (fn 187 (pr (fn 1 (pr D0 (.int 30))) (fn 1 (pr D1 (.int 30)))))<|af fun F p0 p1 p2=>by
 simp_all[apQ]
def auT:=fb D8 (fn 12 (pr (fn 1 (pr D1 (.int 31))) (fn 1 (pr D0 (.int 31)))))<|af fun F p0 p1 p2=>by
 have hp0:=aE p0 31 (by decide);grind[ol]
def aOR:=fb D8 (.not (cmp .lss (.int 100) (fn 0 (fn 1 (pr D1 (.int 31))))))<|af fun F p0 p1 p2=>by
 have:=ap p1
 try simp only[aa]at *
 omega
def aW4:=fb (D2::D3::D4::D9::ng::PQ) wc<|ba fun F p0 p1 p2 p3 p4 p5 p6 p7=>by
 have hp7:=aE p0 37 (by decide);have hi37:E.I F _=E.I F _:=bg hp7;try simp only[aa]at *
 grind
def aXZ:=fb ([D2,D3,D4,D9,ng,n7,pf]) uL<|bb fun F p0 p1 p2 p3 p4 p5 p6=>by
 have hp6:=aE p0 36 (by decide);have hi36:E.I F _=E.I F _:=bg hp6;try simp only[aa]at *
 grind
def aKg:=fb ([D2,D3,D4,D9,ng,n7]) pf<|be fun F p0 p1 p2 p3 p4 p5=>by
 have hp5:=aE p0 35 (by decide);have hi35:E.I F _=E.I F _:=bg hp5;try simp only[aa]at *
 grind
def aK6:=fb ([D2,D3,D4,D9,ng]) n7<|aB fun F p0 p1 p2 p3 p4=>by
 have hp4:=aE p0 34 (by decide);have hi34:E.I F _=E.I F _:=bg hp4;try simp only[aa]at *
 grind
def ayb:=fb ([D2,D3,D4,D9]) ng<|aj fun F p0 p1 p2 p3=>by
 have hp3:=aE p0 33 (by decide);have hi33:E.I F _=E.I F _:=bg hp3;try simp only[aa]at *
 grind
def aFu:=fb D8 D9<|af fun F p0 p1 p2=>by
 have hp0:=aE p0 32 (by decide)
 have:=@xw F _ _ hp0 (.int 2)
 try simp only[aa]at *
 grind
def aLQ:=fb (D2::D3::D4::ng::PQ) wc<|bb fun F p0 p1 p2 p3 p4 p5 p6=>by
 have hp4:=aE p0 37 (by decide);have hi37:E.I F _=E.I F _:=bg hp4;try simp only[aa]at *
 grind
def aMM:=fb ([D2,D3,D4,ng,n7,pf]) uL<|be fun F p0 p1 p2 p3 p4 p5=>by
 have hp3:=aE p0 36 (by decide);have hi36:E.I F _=E.I F _:=bg hp3;try simp only[aa]at *
 grind
def avm:=fb ([D2,D3,D4,ng,n7]) pf<|aB fun F p0 p1 p2 p3 p4=>by
 have hp2:=aE p0 35 (by decide);have hi35:E.I F _=E.I F _:=bg hp2;try simp only[aa]at *
 grind
def aVL:=fb ([D2,D3,D4,ng]) n7<|aj fun F p0 p1 p2 p3=>by
 have hp1:=aE p0 34 (by decide);have hi34:E.I F _=E.I F _:=bg hp1;try simp only[aa]at *
 grind
def aq4:=fb D8 ng<|af fun F p0 p1 p2=>by
 have hp0:=aE p0 33 (by decide);have hi33:E.I F _=E.I F _:=bg hp0;try simp only[aa]at *
 grind
def aBM:=fb (D2::D3::D4::PQ) wc<|be fun F p0 p1 p2 p3 p4 p5=>by
 have hp3:=aE p0 37 (by decide);have hi37:E.I F _=E.I F _:=bg hp3;try simp only[aa]at *
 grind
def avr:=fb ([D2,D3,D4,n7,pf]) uL<|aB fun F p0 p1 p2 p3 p4=>by
 have hp2:=aE p0 36 (by decide);have hi36:E.I F _=E.I F _:=bg hp2;try simp only[aa]at *
 grind
def aKw:=fb ([D2,D3,D4,n7]) pf<|aj fun F p0 p1 p2 p3=>by
 have hp1:=aE p0 35 (by decide);have hi35:E.I F _=E.I F _:=bg hp1;try simp only[aa]at *
 grind
def aOD:=fb D8 n7<|af fun F p0 p1 p2=>by
 have hp0:=aE p0 34 (by decide);have hi34:E.I F _=E.I F _:=bg hp0;try simp only[aa]at *
 grind
def aXt:=fb (D2::D3::D4::D14) wc<|aB fun F p0 p1 p2 p3 p4=>by
 have hp2:=aE p0 37 (by decide);have hi37:E.I F _=E.I F _:=bg hp2;try simp only[aa]at *
 grind
def aBz:=fb ([D2,D3,D4,pf]) uL<|aj fun F p0 p1 p2 p3=>by
 have hp1:=aE p0 36 (by decide);have hi36:E.I F _=E.I F _:=bg hp1;try simp only[aa]at *
 grind
def aBG:=fb D8 pf<|af fun F p0 p1 p2=>by
 have hp0:=aE p0 35 (by decide);have hi35:E.I F _=E.I F _:=bg hp0;try simp only[aa]at *
 grind
def aGa:=fb ([D2,D3,D4,uL]) wc<|aj fun F p0 p1 p2 p3=>by
 have hp1:=aE p0 37 (by decide);have hi37:E.I F _=E.I F _:=bg hp1;try simp only[aa]at *
 grind
def aGQ:=fb D8 uL<|af fun F p0 p1 p2=>by
 have hp0:=aE p0 36 (by decide);have hi36:E.I F _=E.I F _:=bg hp0;try simp only[aa]at *
 grind
def aGv:=fb D8 wc<|af fun F p0 p1 p2=>by
 have hp0:=aE p0 37 (by decide);have hi37:E.I F _=E.I F _:=bg hp0;try simp only[aa]at *
 grind
def p46:List Fa:=[aKo,aIG,aBd,zz,WH,aQk,PA,YL,auT,aOR,aW4,aXZ,aKg,aK6,ayb,aFu,aLQ,aMM,avm,aVL,aq4,aBM,avr,aKw,aOD,aXt,aBz,aBG,aGa,aGQ,aGv]
def aiE:List Ann:=(Ev (some (f6 0 16)))::(KT (some (f6 2 24)))::(DZ (some (f6 4 32)))::[]
theorem aTt:∀x∈aiE,dZ Try.prog x:=by
 intro x hx;rcases List.mem_cons.1 hx with rfl|hx
 ·exact aVU
 rcases List.mem_cons.1 hx with rfl|hx
 ·exact az2
 rcases List.mem_cons.1 hx with rfl|hx
 ·exact aPf
 exact gL [] (by kernel_rfl) x hx
theorem aXq:aN Try.prog (aZ (axY)):=
 P4 good (facts:=fl p46) (gh _) (anns:=aiE) aTt (nats:=kP.l) kP.h (n:=3000) (ms:=[]) (by kernel_rfl)
def akf:Nl:=nc aXq kP
end
end Go.Proofs.Ytnnbmcfabojjjaa.payPlans
