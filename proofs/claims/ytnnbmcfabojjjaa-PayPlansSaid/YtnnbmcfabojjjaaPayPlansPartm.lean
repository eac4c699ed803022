/-
  PayPlans: contracts of functions, part 13.
-/
import Derived.Test.YtnnbmcfabojjjaaRows
import Derived.Test.YtnnbmcfabojjjaaNat
import Derived.WalkKit
import Derived.ProofKit
import Derived.OpenShut
import Derived.ChangeOld
import Derived.Below
import Derived.KernelRfl
import Derived.Lib.SmallJoins
import Derived.Laws.IdiomArrays
import Derived.Test.YtnnbmcfabojjjaaPayPlansPartl
namespace Go.Proofs.Ytnnbmcfabojjjaa.payPlans
open Go.ChangeShapes Go.WideShapes Go.ChangeAt Go.RowKit
open Go.SX
open Go.SX.E (fn pr cmp var)
set_option linter.unusedVariables false
set_option linter.unusedSimpArgs false
set_option maxRecDepth 100000
noncomputable section
abbrev gR:E:=var 26
abbrev Jr:E:=cmp .eql gR (.int 0)
abbrev ik:E:=var 42
abbrev kl:E:=var 3
abbrev kg:E:=var 4
abbrev kv:E:=var 5
abbrev kb:E:=var 6
abbrev JJ7:E:=cmp .lss (fn 1 (pr (fn 23 (pr kl (fn 23 (pr kg (fn 23 (pr kv (fn 23 (pr kb (fn 10 (.int 0)))))))))) gR)) ik
abbrev JJ8:E:=.not JJ7
abbrev JJ9:E:=cmp .lss gR (.int 4)
abbrev aXf:E:=cmp .lss gR (.int 0)
abbrev aiG:E:=.not aXf
abbrev po:E:=var 32
abbrev qf:E:=var 33
abbrev rS:E:=var 34
abbrev vV:E:=var 35
abbrev Pg:E:=var 36
abbrev QA:E:=var 39
abbrev Nd:E:=pr kl (pr kg (pr kv (pr kb (pr (var 0) (pr (var 1) (pr (var 2) (.int 0)))))))
abbrev asj:E:=pr ik Nd
abbrev aBK:E:=pr gR asj
abbrev ayX:E:=pr QA aBK
abbrev aUp:E:=pr Pg ayX
abbrev aC9:E:=pr vV aUp
abbrev aSU:E:=pr rS aC9
abbrev aXr:E:=pr qf aSU
abbrev aYu:E:=pr po aXr
abbrev acL:E:=fn 178 aYu
abbrev aBx:=[acL]
abbrev aWd:=aiG::aBx
abbrev apB:=JJ9::aWd
abbrev Gn:=JJ8::apB
abbrev Ew:E:=fn 178 (pr po (pr qf (pr rS (pr vV (pr Pg (pr QA (pr (fn 6 (pr gR (.int 1))) (pr (.int 0) Nd))))))))
abbrev HT:E:=cmp .eql gR (.int 1)
abbrev JQ:E:=cmp .eql gR (.int 2)
abbrev aDW:E:=cmp .lss ik (.int 0)
abbrev afx:E:=.not aDW
abbrev aLE:E:=pr vV (.int 0)
abbrev aHK:E:=pr rS aLE
abbrev aRl:E:=pr qf aHK
abbrev auj:E:=pr po aRl
abbrev ay3:E:=fn 188 auj
abbrev Db:E:=var 7
abbrev aVl:E:=pr kb Db
abbrev aQh:E:=pr kv aVl
abbrev aXc:E:=pr kg aQh
abbrev aHQ:E:=pr kl aXc
abbrev aBZ:E:=fn 146 aHQ
abbrev aXN:=[aBZ]
abbrev aUS:=ay3::aXN
abbrev ajL:=acL::aUS
abbrev Mk:=afx::ajL
abbrev awt:E:=pr (.ar .add .i64 ik (.int 1)) Nd
abbrev aqm:E:=pr gR awt
abbrev aFT:E:=pr QA aqm
abbrev abG:E:=pr Pg aFT
abbrev akM:E:=pr vV abG
abbrev abY:E:=pr rS akM
def auv:=fb (Jr::(.not (cmp .lss ik kl))::Gn) Ew<|be fun F p0 p1 p2 p3 p4 p5=>by
 have:=@C0 F gR kl kg kv kb
 have hr9:(E.I F _=E.I F _)->(0<=E.I F _)->(E.I F _<4)->(E.I F _=E.I F _+1)->(E.I F _=0)->E.B F (fn _ (pr _ (pr _ (pr _ (pr _ (pr _ (pr _ (pr (fn 6 (pr gR (.int 1))) (pr (.int 0) _)))))))))=true:=fun s0 s1 s2 s3 s4=>rq p5 s0 s1 s2 s3 s4
 try simp only[aa]at *
 grind
def aQ9:=fb (HT::(.not (cmp .lss ik kg))::Gn) Ew<|be fun F p0 p1 p2 p3 p4 p5=>by
 have:=@Cm F gR kl kg kv kb
 have hr9:(E.I F _=E.I F _)->(0<=E.I F _)->(E.I F _<4)->(E.I F _=E.I F _+1)->(E.I F _=0)->E.B F (fn _ (pr _ (pr _ (pr _ (pr _ (pr _ (pr _ (pr (fn 6 (pr gR (.int 1))) (pr (.int 0) _)))))))))=true:=fun s0 s1 s2 s3 s4=>rq p5 s0 s1 s2 s3 s4
 try simp only[aa]at *
 grind
def aEK:=fb (JQ::(.not (cmp .lss ik kv))::Gn) Ew<|be fun F p0 p1 p2 p3 p4 p5=>by
 have:=@zH F gR kl kg kv kb
 have hr9:(E.I F _=E.I F _)->(0<=E.I F _)->(E.I F _<4)->(E.I F _=E.I F _+1)->(E.I F _=0)->E.B F (fn _ (pr _ (pr _ (pr _ (pr _ (pr _ (pr _ (pr (fn 6 (pr gR (.int 1))) (pr (.int 0) _)))))))))=true:=fun s0 s1 s2 s3 s4=>rq p5 s0 s1 s2 s3 s4
 try simp only[aa]at *
 grind
def aWz:=fb ((.not Jr)::(.not HT)::(.not JQ)::(.not (cmp .lss ik kb))::Gn) Ew<|ba fun F p0 p1 p2 p3 p4 p5 p6 p7=>by
 have:=@zV F gR kl kg kv kb
 have hr9:(E.I F _=E.I F _)->(0<=E.I F _)->(E.I F _<4)->(E.I F _=E.I F _+1)->(E.I F _=0)->E.B F (fn _ (pr _ (pr _ (pr _ (pr _ (pr _ (pr _ (pr (fn 6 (pr gR (.int 1))) (pr (.int 0) _)))))))))=true:=fun s0 s1 s2 s3 s4=>rq p7 s0 s1 s2 s3 s4
 try simp only[aa]at *
 grind
def aPM:=fb (Jr::(cmp .lss ik kl)::(cmp .lss (.int 0) po)::Mk) (fn 178 (pr (.ar .sub .i64 po (.int 1)) (pr qf abY)))<|bb fun F p0 p1 p2 p3 p4 p5 p6=>by
 have:=@aK F po (.int 1)
 have:=@am F ik (.int 1)
 have:=@aO F kl kg kv kb Db
 have:=(@ah F _ _ _ _).mp p5
 have hr8:(E.I F _=0)->(0<=E.I F _)->(E.I F _=E.I F _+1)->(0<E.I F _)->(E.I F _=E.I F _-1)->E.B F (fn _ (pr (.ar .sub .i64 po (.int 1)) (pr _ (pr _ (pr _ (pr _ (pr _ (pr _ (pr (.ar .add .i64 ik (.int 1)) _)))))))))=true:=fun s0 s1 s2 s3 s4=>UQ p4 s0 s1 s2 s3 s4
 try simp only[aa]at *
 grind
def arv:=fb (HT::(cmp .lss ik kg)::(cmp .lss (.int 0) qf)::Mk) (fn 178 (pr po (pr (.ar .sub .i64 qf (.int 1)) abY)))<|bb fun F p0 p1 p2 p3 p4 p5 p6=>by
 have:=@aK F qf (.int 1)
 have:=@am F ik (.int 1)
 have:=@aO F kl kg kv kb Db
 have:=(@ah F _ _ _ _).mp p5
 have hr8:(E.I F _=1)->(0<=E.I F _)->(E.I F _=E.I F _+1)->(0<E.I F _)->(E.I F _=E.I F _-1)->E.B F (fn _ (pr _ (pr (.ar .sub .i64 qf (.int 1)) (pr _ (pr _ (pr _ (pr _ (pr _ (pr (.ar .add .i64 ik (.int 1)) _)))))))))=true:=fun s0 s1 s2 s3 s4=>YO p4 s0 s1 s2 s3 s4
 try simp only[aa]at *
 grind
def aXb:=fb (JQ::(cmp .lss ik kv)::(cmp .lss (.int 0) rS)::Mk) (fn 178 (pr po (pr qf (pr (.ar .sub .i64 rS (.int 1)) akM))))<|bb fun F p0 p1 p2 p3 p4 p5 p6=>by
 have:=@aK F rS (.int 1)
 have:=@am F ik (.int 1)
 have:=@aO F kl kg kv kb Db
 have:=(@ah F _ _ _ _).mp p5
 have hr8:(E.I F _=2)->(0<=E.I F _)->(E.I F _=E.I F _+1)->(0<E.I F _)->(E.I F _=E.I F _-1)->E.B F (fn _ (pr _ (pr _ (pr (.ar .sub .i64 rS (.int 1)) (pr _ (pr _ (pr _ (pr _ (pr (.ar .add .i64 ik (.int 1)) _)))))))))=true:=fun s0 s1 s2 s3 s4=>al7 p4 s0 s1 s2 s3 s4
 try simp only[aa]at *
 grind
def aCp:=fb ((.not Jr)::(.not HT)::(.not JQ)::(cmp .lss ik kb)::(cmp .lss (.int 0) vV)::afx::JJ9::aiG::ajL) (fn 178 (pr po (pr qf (pr rS (pr (.ar .sub .i64 vV (.int 1)) abG)))))<|dH fun F p0 p1 p2 p3 p4 p5 p6 p7 p8 p9 ai=>by
 have:=@aK F vV (.int 1)
 have:=@am F ik (.int 1)
 have:=@aO F kl kg kv kb Db
 have:=(@ah F _ _ _ _).mp p9
 have hr8:(E.I F _=3)->(0<=E.I F _)->(E.I F _=E.I F _+1)->(0<E.I F _)->(E.I F _=E.I F _-1)->E.B F (fn _ (pr _ (pr _ (pr _ (pr (.ar .sub .i64 vV (.int 1)) (pr _ (pr _ (pr _ (pr (.ar .add .i64 ik (.int 1)) _)))))))))=true:=fun s0 s1 s2 s3 s4=>agL p8 s0 s1 s2 s3 s4
 try simp only[aa]at *
 grind
def aWr:List Fa:=[fK,E7,adL,auv,Ul,aa5,aQ9,ahk,ac6,aEK,agN,Wj,aWz,aPM,ag1,arv,akR,aXb,afE,aCp,TG,aeV,ac9,ali,aeP,amd,abO,ab9,aaY,afC,aiD,ae8,ajO,ab8,ag7,amp,Zl,Ut,ai6,afz,LL,akd,akY,al0,agI,ado,XH,Wd,anG,abQ,agu,ah3,Ly,amu,Ve,ZY,ZA,anX,Wh]
theorem aHl:BodyOk Try.prog (yy (some nJ)) nJ (gQ true).less (gQ true).tmps {(gQ true).st with pc:=(gQ true).st.pc}:=
 kc good (facts:=fl aWr) (gh _) (anns:=Pb) Ur (nats:=fR.l) fR.h (n:=3000) (by kernel_rfl) (by kernel_rfl)
theorem aCk:BodyOk Try.prog (yy (some nJ)) nJ (gQ true).less (gQ true).tmps (gQ true).st:=aHl
end
end Go.Proofs.Ytnnbmcfabojjjaa.payPlans
