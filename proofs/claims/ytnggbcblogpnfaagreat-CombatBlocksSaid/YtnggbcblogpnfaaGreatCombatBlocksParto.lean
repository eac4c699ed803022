/-
  CombatBlocks: contracts of functions, part 15.
-/
import Derived.Test.YtnggbcblogpnfaaGreatCombatBlocksPartn
namespace Go.Proofs.YtnggbcblogpnfaaGreat.combatBlocks
open Go.ChangeShapes Go.WideShapes Go.ChangeAt Go.RowKit
open Go.SX
open Go.SX.E (fn pr cmp var)
set_option linter.unusedVariables false
set_option linter.unusedSimpArgs false
set_option maxRecDepth 100000
noncomputable section
abbrev aI:E:=var 0
abbrev oM:E:=var 11
abbrev cC:E:=var 1
abbrev JO:E:=fn 130 cC
abbrev oN:E:=var 4
abbrev JP:E:=pr aI cC
abbrev JQ:E:=fn 232 (pr oN JP)
abbrev qB:E:=var 5
abbrev io:E:=var 2
abbrev ip:E:=var 3
abbrev JL:E:=.iff qB (fn 229 (pr oN (pr io (pr ip (fn 9 (pr oN (.int 2)))))))
abbrev xg:E:=fn 234 (pr aI (pr cC (pr io ip)))
abbrev xh:E:=fn 117 cC
abbrev lq:E:=var 8
abbrev qA:E:=var 7
abbrev aBZ:E:=cmp .eql qA (fn 9 (pr (fn 1 (pr cC (.int 32))) (.int 2)))
abbrev XT:=[aBZ]
abbrev aF:E:=var 6
abbrev aB0:E:=pr aF cC
abbrev aB1:E:=fn 238 aB0
abbrev JM:=[aB1]
abbrev xi:E:=var 9
abbrev aB2:E:=pr xi (fn 1 (pr cC (.int 32)))
abbrev XU:E:=fn 200 aB2
abbrev XV:E:=pr (fn 1 (pr cC (.int 32))) (pr io ip)
abbrev tg:E:=fn 115 cC
abbrev B5:E:=.iff oN tg
abbrev B6:E:=var 44
abbrev aB3:E:=cmp .eql B6 (fn 9 (pr (fn 1 (pr cC (.int 32))) (.int 2)))
abbrev JN:=[aB3]
abbrev aB4:E:=fn 232 (pr qB JP)
abbrev XW:E:=.imp tg aB4
abbrev aB5:E:=pr ip (fn 9 (pr qB (.int 2)))
abbrev aB6:E:=pr io aB5
abbrev aB7:E:=pr qB aB6
abbrev aB8:E:=fn 229 aB7
abbrev XX:E:=.iff aF aB8
def awC:=fb [(fn 116 aI),(fn 195 (var 10)),(fn 187 (pr (var 10) (fn 1 (pr aI (.int 29))))),(fn 195 oM),(fn 187 (pr oM (fn 1 (pr aI (.int 30)))))] (fn 238 (pr (cL [(fn 28 (pr (pr (var 14) (fn 9 (pr (fn 1 (pr aI (.int 0))) (.int 12)))) (fn 1 (pr aI (.int 0))))),(fn 1 (pr aI (.int 1))),(fn 1 (pr aI (.int 2))),(fn 1 (pr aI (.int 3))),(fn 1 (pr aI (.int 4))),(fn 1 (pr aI (.int 5))),(fn 28 (pr (pr (var 15) (fn 0 (fn 1 (pr aI (.int 6))))) (fn 1 (pr aI (.int 6))))),(fn 28 (pr (pr (var 16) (fn 0 (fn 1 (pr aI (.int 7))))) (fn 1 (pr aI (.int 7))))),(fn 28 (pr (pr (var 17) (fn 0 (fn 1 (pr aI (.int 8))))) (fn 1 (pr aI (.int 8))))),(fn 28 (pr (pr (var 18) (fn 0 (fn 1 (pr aI (.int 9))))) (fn 1 (pr aI (.int 9))))),(fn 1 (pr aI (.int 10))),(fn 1 (pr aI (.int 11))),(fn 1 (pr aI (.int 12))),(fn 1 (pr aI (.int 13))),(fn 1 (pr aI (.int 14))),(fn 1 (pr aI (.int 15))),(fn 1 (pr aI (.int 16))),(fn 1 (pr aI (.int 17))),(fn 1 (pr aI (.int 18))),(fn 1 (pr aI (.int 19))),(fn 28 (pr (pr (var 19) (fn 0 (fn 1 (pr aI (.int 20))))) (fn 1 (pr aI (.int 20))))),(fn 28 (pr (pr (var 20) (fn 0 (fn 1 (pr aI (.int 21))))) (fn 1 (pr aI (.int 21))))),(fn 28 (pr (pr (var 21) (fn 0 (fn 1 (pr aI (.int 22))))) (fn 1 (pr aI (.int 22))))),(fn 28 (pr (pr (var 22) (fn 0 (fn 1 (pr aI (.int 23))))) (fn 1 (pr aI (.int 23))))),(fn 1 (pr aI (.int 24))),(fn 1 (pr aI (.int 25))),(fn 1 (pr aI (.int 26))),(fn 1 (pr aI (.int 27))),(fn 1 (pr aI (.int 28))),(var 10),oM,(fn 28 (pr (pr (var 23) (fn 0 (fn 1 (pr aI (.int 31))))) (fn 1 (pr aI (.int 31)))))]) aI))<|aJ fun F p0 p1 p2 p3 p4=>by
 have h1:=@aM7 F aI ([(fn 28 (pr (pr (var 14) (fn 9 (pr (fn 1 (pr aI (.int 0))) (.int 12)))) (fn 1 (pr aI (.int 0))))),(fn 1 (pr aI (.int 1))),(fn 1 (pr aI (.int 2))),(fn 1 (pr aI (.int 3))),(fn 1 (pr aI (.int 4))),(fn 1 (pr aI (.int 5))),(fn 28 (pr (pr (var 15) (fn 0 (fn 1 (pr aI (.int 6))))) (fn 1 (pr aI (.int 6))))),(fn 28 (pr (pr (var 16) (fn 0 (fn 1 (pr aI (.int 7))))) (fn 1 (pr aI (.int 7))))),(fn 28 (pr (pr (var 17) (fn 0 (fn 1 (pr aI (.int 8))))) (fn 1 (pr aI (.int 8))))),(fn 28 (pr (pr (var 18) (fn 0 (fn 1 (pr aI (.int 9))))) (fn 1 (pr aI (.int 9))))),(fn 1 (pr aI (.int 10))),(fn 1 (pr aI (.int 11))),(fn 1 (pr aI (.int 12))),(fn 1 (pr aI (.int 13))),(fn 1 (pr aI (.int 14))),(fn 1 (pr aI (.int 15))),(fn 1 (pr aI (.int 16))),(fn 1 (pr aI (.int 17))),(fn 1 (pr aI (.int 18))),(fn 1 (pr aI (.int 19))),(fn 28 (pr (pr (var 19) (fn 0 (fn 1 (pr aI (.int 20))))) (fn 1 (pr aI (.int 20))))),(fn 28 (pr (pr (var 20) (fn 0 (fn 1 (pr aI (.int 21))))) (fn 1 (pr aI (.int 21))))),(fn 28 (pr (pr (var 21) (fn 0 (fn 1 (pr aI (.int 22))))) (fn 1 (pr aI (.int 22))))),(fn 28 (pr (pr (var 22) (fn 0 (fn 1 (pr aI (.int 23))))) (fn 1 (pr aI (.int 23))))),(fn 1 (pr aI (.int 24))),(fn 1 (pr aI (.int 25))),(fn 1 (pr aI (.int 26))),(fn 1 (pr aI (.int 27))),(fn 1 (pr aI (.int 28))),(var 10),oM,(fn 28 (pr (pr (var 23) (fn 0 (fn 1 (pr aI (.int 31))))) (fn 1 (pr aI (.int 31)))))]) rfl;exact h1 (lE 0 rfl (by decide) p0 ml mm (fh 1 rfl (fh 2 rfl (fh 3 rfl (fh 4 rfl (fh 5 rfl (lE 6 rfl (by decide) p0 ml mm (lE 7 rfl (by decide) p0 ml mm (lE 8 rfl (by decide) p0 ml mm (lE 9 rfl (by decide) p0 ml mm (fh 10 rfl (fh 11 rfl (fh 12 rfl (fh 13 rfl (fh 14 rfl (fh 15 rfl (fh 16 rfl (fh 17 rfl (fh 18 rfl (fh 19 rfl (lE 20 rfl (by decide) p0 ml mm (lE 21 rfl (by decide) p0 ml mm (lE 22 rfl (by decide) p0 ml mm (lE 23 rfl (by decide) p0 ml mm (fh 24 rfl (fh 25 rfl (fh 26 rfl (fh 27 rfl (fh 28 rfl (abg 29 rfl p2 p1 (abg 30 rfl p4 p3 (lE 31 rfl (by decide) p0 ml mm trivial))))))))))))))))))))))))))))))))
def awD:=fa ((fn 200 (pr (fn 1 (pr aI (.int 32))) (fn 1 (pr aI (.int 32))))))<|fun F=>by
 exact ag4
def p60:List Fa:=[df,Hy,Hz,HA,HB,HC,HD,HE,HF,HG,mw,vP,Af,sy,vQ,Ag,HH,HI,awC,awD]
theorem aLx:aL Tryz.prog (bh (aKB)):=sc p60 ([]) ER (aIA) (by kernel_rfl) (by kernel_rfl)
def aep:Nl:=nc aLx aIB
def awE:=fb [JO,JQ,JL,(.not qB)] (.not xg)<|aw fun F p0 p1 p2 p3=>by
 have:=@zD _ io ip _ _ _ (dN.2 p0) p1
 skip
 simp only[bp,aS]at *;grind
def awF:=fb (xh::(.not (cmp .lss lq qA))::XT) (.not (cmp .lss lq (.int 0)))<|aj fun F p0 p1 p2=>by
 have:=ai p0
 simp only[aa]at *;omega
def awG:=fb (xh::XT) (.not (cmp .lss (.int 2147483648) (fn 6 (pr qA (.int 1)))))<|am fun F p0 p1=>by
 have:=ai p0
 simp only[aa]at *;omega
def awH:=fb [JO,JQ,JL,qB] xg<|aw fun F p0 p1 p2 p3=>by
 have:=@zD _ io ip _ _ _ (dN.2 p0) p1
 skip
 simp only[bp,aS]at *;grind
def awI:=fb JM (fn 235 (pr (cL [(fn 1 (pr aF (.int 0))),(fn 1 (pr aF (.int 1))),(fn 1 (pr aF (.int 2))),(fn 1 (pr aF (.int 3))),(fn 1 (pr aF (.int 4))),(fn 1 (pr aF (.int 5))),(fn 1 (pr aF (.int 6))),(fn 1 (pr aF (.int 7))),(fn 1 (pr aF (.int 8))),(fn 1 (pr aF (.int 9))),(fn 1 (pr aF (.int 10))),(fn 1 (pr aF (.int 11))),(fn 1 (pr aF (.int 12))),(fn 1 (pr aF (.int 13))),(fn 1 (pr aF (.int 14))),(fn 1 (pr aF (.int 15))),(fn 1 (pr aF (.int 16))),(fn 1 (pr aF (.int 17))),(fn 1 (pr aF (.int 18))),(fn 1 (pr aF (.int 19))),(fn 1 (pr aF (.int 20))),(fn 1 (pr aF (.int 21))),(fn 1 (pr aF (.int 22))),(fn 1 (pr aF (.int 23))),(fn 1 (pr aF (.int 24))),(fn 1 (pr aF (.int 25))),(fn 1 (pr aF (.int 26))),(fn 1 (pr aF (.int 27))),(fn 1 (pr aF (.int 28))),(fn 1 (pr aF (.int 29))),(fn 1 (pr aF (.int 30))),(fn 1 (pr aF (.int 31))),(fn 28 (pr (pr oM (fn 6 (pr qA (.int 1)))) (fn 3 (pr xi (fn 23 (pr io (fn 23 (pr ip (fn 10 (.int 0)))))))))),(fn 1 (pr cC (.int 33))),(fn 1 (pr cC (.int 34))),(fn 1 (pr cC (.int 35))),(fn 1 (pr cC (.int 36))),(fn 1 (pr cC (.int 37)))]) (pr cC (.int 32))))<|ah fun F p0=>by
 exact Od p0
def awJ:=fb [XU] (fn 233 (pr (fn 28 (pr (pr oM (fn 6 (pr qA (.int 1)))) (fn 3 (pr xi (fn 23 (pr io (fn 23 (pr ip (fn 10 (.int 0)))))))))) XV))<|ah fun F p0=>by
 exact ahk p0
def awK:=fb ((fn 116 cC)::JM) (fn 116 (cL [(fn 1 (pr aF (.int 0))),(fn 1 (pr aF (.int 1))),(fn 1 (pr aF (.int 2))),(fn 1 (pr aF (.int 3))),(fn 1 (pr aF (.int 4))),(fn 1 (pr aF (.int 5))),(fn 1 (pr aF (.int 6))),(fn 1 (pr aF (.int 7))),(fn 1 (pr aF (.int 8))),(fn 1 (pr aF (.int 9))),(fn 1 (pr aF (.int 10))),(fn 1 (pr aF (.int 11))),(fn 1 (pr aF (.int 12))),(fn 1 (pr aF (.int 13))),(fn 1 (pr aF (.int 14))),(fn 1 (pr aF (.int 15))),(fn 1 (pr aF (.int 16))),(fn 1 (pr aF (.int 17))),(fn 1 (pr aF (.int 18))),(fn 1 (pr aF (.int 19))),(fn 1 (pr aF (.int 20))),(fn 1 (pr aF (.int 21))),(fn 1 (pr aF (.int 22))),(fn 1 (pr aF (.int 23))),(fn 1 (pr aF (.int 24))),(fn 1 (pr aF (.int 25))),(fn 1 (pr aF (.int 26))),(fn 1 (pr aF (.int 27))),(fn 1 (pr aF (.int 28))),(fn 1 (pr aF (.int 29))),(fn 1 (pr aF (.int 30))),(fn 1 (pr aF (.int 31))),(fn 28 (pr (pr oM (fn 6 (pr qA (.int 1)))) (fn 3 (pr xi (fn 23 (pr io (fn 23 (pr ip (fn 10 (.int 0)))))))))),(fn 1 (pr cC (.int 33))),(fn 1 (pr cC (.int 34))),(fn 1 (pr cC (.int 35))),(fn 1 (pr cC (.int 36))),(fn 1 (pr cC (.int 37)))]))<|am fun F p0 p1=>by
 exact aMi p1 p0
def awL:=fb (JO::xh::JQ::JL::qB::XU::JM) (fn 117 (cL [(fn 1 (pr aF (.int 0))),(fn 1 (pr aF (.int 1))),(fn 1 (pr aF (.int 2))),(fn 1 (pr aF (.int 3))),(fn 1 (pr aF (.int 4))),(fn 1 (pr aF (.int 5))),(fn 1 (pr aF (.int 6))),(fn 1 (pr aF (.int 7))),(fn 1 (pr aF (.int 8))),(fn 1 (pr aF (.int 9))),(fn 1 (pr aF (.int 10))),(fn 1 (pr aF (.int 11))),(fn 1 (pr aF (.int 12))),(fn 1 (pr aF (.int 13))),(fn 1 (pr aF (.int 14))),(fn 1 (pr aF (.int 15))),(fn 1 (pr aF (.int 16))),(fn 1 (pr aF (.int 17))),(fn 1 (pr aF (.int 18))),(fn 1 (pr aF (.int 19))),(fn 1 (pr aF (.int 20))),(fn 1 (pr aF (.int 21))),(fn 1 (pr aF (.int 22))),(fn 1 (pr aF (.int 23))),(fn 1 (pr aF (.int 24))),(fn 1 (pr aF (.int 25))),(fn 1 (pr aF (.int 26))),(fn 1 (pr aF (.int 27))),(fn 1 (pr aF (.int 28))),(fn 1 (pr aF (.int 29))),(fn 1 (pr aF (.int 30))),(fn 1 (pr aF (.int 31))),(fn 28 (pr (pr oM (fn 6 (pr qA (.int 1)))) (fn 3 (pr xi (fn 23 (pr io (fn 23 (pr ip (fn 10 (.int 0)))))))))),(fn 1 (pr cC (.int 33))),(fn 1 (pr cC (.int 34))),(fn 1 (pr cC (.int 35))),(fn 1 (pr cC (.int 36))),(fn 1 (pr cC (.int 37)))]))<|cH fun F p0 p1 p2 p3 p4 p5 p6=>by
 have:=@zD _ io ip _ _ _ (dN.2 p0) p2
 have m:E.B F xg=true:=by
  simp only[bp,aS]at *;grind
 exact aMm p6 p1 p5 (dN.2 p0) m
def p61:List Fa:=[df,awE,awF,awG,awH,awI,awJ,awK,awL]
theorem aLy:aL Tryz.prog (bh (aJ6)):=sc p61 ([]) aep (aIy) (by kernel_rfl) (by kernel_rfl)
def aIC:Nl:=nc aLy aep
def p62:List Fa:=[df,Hy,Hz,HA,HB,HC,HD,HE,HF,HG,mw,vP,Af,sy,vQ,Ag,HH,HI,QH]
theorem aLz:aL Tryz.prog (bh (ags)):=sc p62 ([]) ER (yW) (by kernel_rfl) (by kernel_rfl)
def aeq:Nl:=nc aLz aIC
def awM:=fb [(cmp .lss lq (fn 9 (pr aI (.int 2)))),(cmp .eql (fn 9 (pr aI (.int 2))) (fn 9 (pr cC (.int 2))))] (cmp .lss lq (fn 9 (pr cC (.int 2))))<|am fun F p0 p1=>by
 simp only[aa]at *;omega
def awN:=fb [(fn 237 JP)] (.and (cmp .eql (fn 1 (pr aI (fn 6 (pr (fn 8 (pr lq (.int 2))) (.int 0))))) (fn 1 (pr cC (fn 6 (pr (fn 8 (pr lq (.int 2))) (.int 0)))))) (.and (cmp .eql (fn 1 (pr aI (fn 6 (pr (fn 8 (pr lq (.int 2))) (.int 1))))) (fn 1 (pr cC (fn 6 (pr (fn 8 (pr lq (.int 2))) (.int 1)))))) (.bool true)))<|ah fun F p0=>by
 have:=@ahl _ _ _ (fn 6 (pr (fn 8 (pr lq (.int 2))) (.int 0))) p0
 have:=@ahl _ _ _ (fn 6 (pr (fn 8 (pr lq (.int 2))) (.int 1))) p0
 simp only[aa,and_true]at *;grind
def p63:List Fa:=[df,awM,awN,Ah,Ai,Aj,Ak]
theorem aLA:aL Tryz.prog (bh (aKc)):=sc p63 (aE4) aeq ([]) (by kernel_rfl) (by kernel_rfl)
def aer:Nl:=nc aLA aeq
def awO:=fb [B5,(.not oN)] (.not tg)<|am fun F p0 p1=>by
 simp only[aa,bp,aS]at *;grind
def awP:=fb [B5,oN] tg<|am fun F p0 p1=>by
 simp only[aa,bp,aS]at *;grind
def awQ:=fb (xh::(.not (cmp .lss (var 45) B6))::JN) (.not (cmp .lss (var 45) (.int 0)))<|aj fun F p0 p1 p2=>by
 have:=ai p0
 simp only[aa]at *;omega
def awR:=fb [B5,oN,XW,XX,(.not aF)] (.not xg)<|aJ fun F p0 p1 p2 p3 p4=>by
 have hv:E.B F tg=true:=by
  have:=p0
  simp only[bp]at *;grind
 have h2:=p2
 rw[bu]at h2
 have h2:=h2 hv
 have:=@zD _ io ip _ _ _ hv h2
 skip
 simp only[bp,aS]at *;grind
def awS:=fb (xh::JN) (.not (cmp .lss (.int 2147483648) (fn 6 (pr B6 (.int 1)))))<|am fun F p0 p1=>by
 have:=ai p0
 simp only[aa]at *;omega
def awT:=fb [B5,oN,XW,XX,aF] xg<|aJ fun F p0 p1 p2 p3 p4=>by
 have hv:E.B F tg=true:=by
  have:=p0
  simp only[bp]at *;grind
 have h2:=p2
 rw[bu]at h2
 have h2:=h2 hv
 have:=@zD _ io ip _ _ _ hv h2
 skip
 simp only[bp,aS]at *;grind
def awU:=fa ((fn 236 (pr (aIM 0 cC (fn 1 (pr cC (.int 2))) (fn 1 (pr cC (.int 3))) (fn 1 (pr cC (.int 4))) (fn 1 (pr cC (.int 5)))) cC)))<|fun F=>by
 exact aM6
def awV:=fb [(fn 200 (pr (var 43) (fn 1 (pr cC (.int 32)))))] (fn 233 (pr (fn 3 (pr (var 43) (fn 23 (pr io (fn 23 (pr ip (fn 10 (.int 0)))))))) XV))<|ah fun F p0=>by
 exact ahk p0
def awW:=fb JN (cmp .eql (fn 6 (pr B6 (.int 1))) (fn 6 (pr (fn 9 (pr (fn 1 (pr cC (.int 32))) (.int 2))) (.int 1))))<|ah fun F p0=>by
 simp only[aa]at *;omega
def p64:List Fa:=[df,awO,awP,awQ,awR,awS,awT,awU,awV,awW]
theorem aLB:aL Tryz.prog (bh (aJY)):=sc p64 ([]) aer (aIz) (by kernel_rfl) (by kernel_rfl)
def aes:Nl:=nc aLB aer
end
end Go.Proofs.YtnggbcblogpnfaaGreat.combatBlocks
