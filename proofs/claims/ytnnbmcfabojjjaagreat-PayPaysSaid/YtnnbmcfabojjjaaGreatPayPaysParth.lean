/-
  PayPays: contracts of functions, part 8.
-/
import Derived.Test.YtnnbmcfabojjjaaGreatPayPaysPartg
namespace Go.Proofs.YtnnbmcfabojjjaaGreat.payPays
open Go.ChangeShapes Go.WideShapes Go.ChangeAt Go.RowKit
open Go.SX
open Go.SX.E (fn pr cmp var)
set_option linter.unusedVariables false
set_option linter.unusedSimpArgs false
set_option maxRecDepth 100000
noncomputable section
abbrev D0:E:=var 1
abbrev D1:E:=var 0
abbrev D2:E:=pr D0 D1
abbrev D3:E:=fn 189 D2
abbrev D4:=[D3]
theorem aZz:eh Tryz.prog (HO (some (hO 4 32))):=rX rfl (by kernel_rfl) (by
 intro τ hτ;rcases List.mem_cons.1 hτ with rfl|hτ
 ·exact aW1
 cases hτ)
def aI1:=fb D4 (fn 187 (pr (fn 1 (pr D0 (.int 29))) (fn 1 (pr D1 (.int 29)))))<|aj fun F p0=>by
 simp_all[a5G]
def aI2:=fb D4 (cmp .eql (fn 9 (pr (fn 1 (pr D1 (.int 0))) (.int 12))) (fn 9 (pr (fn 1 (pr D0 (.int 0))) (.int 12))))<|aj fun F p0=>by
 have hp0:=jw p0 0 (by rfl)
 have:=@vL F _ _ hp0 (.int 12)
 simp only[aa]at *;grind
def aI3:=fb D4 (fn 187 (pr (fn 1 (pr D0 (.int 30))) (fn 1 (pr D1 (.int 30)))))<|aj fun F p0=>by
 simp_all[a5H]
def aI4:=fb D4 (fn 12 (pr (fn 1 (pr D1 (.int 31))) (fn 1 (pr D0 (.int 31)))))<|aj fun F p0=>by
 have hp0:=jw p0 31 (by rfl);grind[oQ]
def aI5:=fb [(fn 117 D1)] (.not (cmp .lss (.int 100) (fn 0 (fn 1 (pr D1 (.int 31))))))<|aj fun F p0=>by
 have:=ap p0
 simp only[aa]at *;grind
def aI6:=fb D4 (cmp .eql (fn 1 (pr D1 (.int 37))) (fn 1 (pr D0 (.int 37))))<|aj fun F p0=>by
 have hi37:=gH p0 37 (by decide) rfl rfl rfl;simp only[aa]at *;grind
def aI7:=fb D4 (cmp .eql (fn 1 (pr D1 (.int 36))) (fn 1 (pr D0 (.int 36))))<|aj fun F p0=>by
 have hi36:=gH p0 36 (by decide) rfl rfl rfl;simp only[aa]at *;grind
def aI8:=fb D4 (cmp .eql (fn 1 (pr D1 (.int 35))) (fn 1 (pr D0 (.int 35))))<|aj fun F p0=>by
 have hi35:=gH p0 35 (by decide) rfl rfl rfl;simp only[aa]at *;grind
def aI9:=fb D4 (cmp .eql (fn 1 (pr D1 (.int 34))) (fn 1 (pr D0 (.int 34))))<|aj fun F p0=>by
 have hi34:=gH p0 34 (by decide) rfl rfl rfl;simp only[aa]at *;grind
def aJa:=fb D4 (cmp .eql (fn 1 (pr D1 (.int 33))) (fn 1 (pr D0 (.int 33))))<|aj fun F p0=>by
 have hi33:=gH p0 33 (by decide) rfl rfl rfl;simp only[aa]at *;grind
def aJb:=fb D4 (cmp .eql (fn 9 (pr (fn 1 (pr D1 (.int 32))) (.int 2))) (fn 9 (pr (fn 1 (pr D0 (.int 32))) (.int 2))))<|aj fun F p0=>by
 have hp0:=jw p0 32 (by rfl)
 have:=@vL F _ _ hp0 (.int 2)
 simp only[aa]at *;grind
def p50:List Fa:=[aI1,aI2,pd,zK,aI3,vY,zL,aI4,aI5,aI6,aI7,aI8,aI9,aJa,aJb]
def a6P:List Ann:=(HM (some (hO 0 16)))::(HN (some (hO 2 24)))::(HO (some (hO 4 32)))::[]
theorem a6S:∀x∈a6P,eh Tryz.prog x:=by
 intro x hx;rcases List.mem_cons.1 hx with rfl|hx
 ·exact aZw
 rcases List.mem_cons.1 hx with rfl|hx
 ·exact aZx
 rcases List.mem_cons.1 hx with rfl|hx
 ·exact aZz
 exact iE [] (by kernel_rfl) x hx
theorem a3o:aI Tryz.prog (aX (a2i)):=
 Tz good (facts:=fl p50) (gU _) (anns:=a6P) a6S (nats:=al7.l) al7.h (n:=3000) (ms:=[]) (by kernel_rfl)
def al8:Nl:=nc (akX (mss:=[yw,yw]) a3o) al7
end
end Go.Proofs.YtnnbmcfabojjjaaGreat.payPays
