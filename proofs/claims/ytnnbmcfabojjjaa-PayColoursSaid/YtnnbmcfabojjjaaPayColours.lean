/-
  PayColours: one reckoning by the kernel, If contracts of functions and facts.
-/
import Derived.Test.YtnnbmcfabojjjaaRows
import Derived.Test.YtnnbmcfabojjjaaNat
import Derived.WalkKit
import Derived.ProofKit
import Derived.OpenShut
import Derived.ChangeOld
import Derived.Below
import Derived.KernelRfl
import Derived.Lib.SmallJoins
import Derived.Laws.IdiomArrays
import Derived.Test.YtnnbmcfabojjjaaPayColoursParth
namespace Go.Proofs.Ytnnbmcfabojjjaa.payColours
open Go.ChangeShapes Go.WideShapes Go.ChangeAt Go.RowKit
open Go.SX
open Go.SX.E (fn pr cmp var)
set_option linter.unusedVariables false
set_option linter.unusedSimpArgs false
set_option maxRecDepth 100000
noncomputable section
abbrev V0:E:=var 0
abbrev V1:E:=.not (cmp .lss (.int 20) (fn 0 V0))
abbrev V2:E:=var 17
abbrev V3:E:=cmp .lss V2 (fn 0 V0)
abbrev V4:E:=cmp .lss V2 (.int 0)
abbrev V5:E:=.not V4
abbrev V6:=[V5]
abbrev V7:=V1::V6
abbrev V8:=V3::V7
abbrev V9:E:=var 16
abbrev V10:E:=pr V9 (pr V0 V2)
abbrev Tg:E:=fn 204 V10
abbrev V12:E:=cmp .eql (fn 0 V9) (fn 0 V0)
abbrev V13:E:=cmp .lss (fn 0 V0) V2
abbrev V14:E:=.not V13
abbrev V15:=[V14]
abbrev V16:=V12::V15
abbrev V17:=Tg::V16
abbrev Nz:=V3::V6
abbrev cQ:E:=var 18
abbrev A5:E:=pr (.int 0) (.int 0)
abbrev jN:E:=var 1
abbrev kd:E:=var 2
abbrev kc:E:=var 3
abbrev jx:E:=var 4
abbrev HO:E:=pr jN (pr kd (pr kc (pr jx (.int 0))))
abbrev aa:E:=var 25
abbrev ae:E:=var 33
abbrev jA:E:=fn 203 (pr aa (pr (fn 0 V0) (pr ae HO)))
abbrev aM:E:=var 34
abbrev aK:E:=var 26
abbrev aZ:E:=var 28
abbrev dS:E:=cmp .lss ae (fn 0 V0)
abbrev i5:E:=var 24
abbrev lI:E:=fn 202 (pr aZ (pr i5 (pr V0 (pr (fn 0 V0) (pr ae ae)))))
abbrev oV:E:=cmp .eql (fn 0 i5) (fn 0 V0)
abbrev np:E:=.not (cmp .lss ae (.int 0))
abbrev pp:=[np,V1]
abbrev Qs:E:=fn 117 (fn 23 (pr (fn 28 (pr (pr aM aK) aZ)) (fn 23 (pr (fn 1 (pr aa (.int 1))) (fn 23 (pr (fn 1 (pr aa (.int 2))) (fn 23 (pr (fn 1 (pr aa (.int 3))) (fn 23 (pr (fn 1 (pr aa (.int 4))) (fn 23 (pr (fn 1 (pr aa (.int 5))) (fn 23 (pr (fn 1 (pr aa (.int 6))) (fn 23 (pr (fn 1 (pr aa (.int 7))) (fn 23 (pr (fn 1 (pr aa (.int 8))) (fn 23 (pr (fn 1 (pr aa (.int 9))) (fn 23 (pr (fn 1 (pr aa (.int 10))) (fn 23 (pr (fn 1 (pr aa (.int 11))) (fn 23 (pr (fn 1 (pr aa (.int 12))) (fn 23 (pr (fn 1 (pr aa (.int 13))) (fn 23 (pr (fn 1 (pr aa (.int 14))) (fn 23 (pr (fn 1 (pr aa (.int 15))) (fn 23 (pr (fn 1 (pr aa (.int 16))) (fn 23 (pr (fn 1 (pr aa (.int 17))) (fn 23 (pr (fn 1 (pr aa (.int 18))) (fn 23 (pr (fn 1 (pr aa (.int 19))) (fn 23 (pr (fn 1 (pr aa (.int 20))) (fn 23 (pr (fn 1 (pr aa (.int 21))) (fn 23 (pr (fn 1 (pr aa (.int 22))) (fn 23 (pr (fn 1 (pr aa (.int 23))) (fn 23 (pr (fn 1 (pr aa (.int 24))) (fn 23 (pr (fn 1 (pr aa (.int 25))) (fn 23 (pr (fn 1 (pr aa (.int 26))) (fn 23 (pr (fn 1 (pr aa (.int 27))) (fn 23 (pr (fn 1 (pr aa (.int 28))) (fn 23 (pr (fn 1 (pr aa (.int 29))) (fn 23 (pr (fn 1 (pr aa (.int 30))) (fn 23 (pr (fn 1 (pr aa (.int 31))) (fn 23 (pr (fn 1 (pr aa (.int 32))) (fn 23 (pr (fn 1 (pr aa (.int 33))) (fn 23 (pr (fn 1 (pr aa (.int 34))) (fn 23 (pr (fn 1 (pr aa (.int 35))) (fn 23 (pr (fn 1 (pr aa (.int 36))) (fn 23 (pr (fn 1 (pr aa (.int 37))) (fn 10 (.int 0))))))))))))))))))))))))))))))))))))))))))))))))))))))))))))))))))))))))))))))
abbrev ut:E:=.not dS
abbrev uy:E:=.not (cmp .lss (fn 0 V0) ae)
abbrev E3:E:=var 36
abbrev kn:E:=pr E3 (.int 4)
abbrev na:E:=var 35
abbrev gh:E:=var 5
abbrev iG:E:=var 6
abbrev jq:E:=var 7
abbrev kQ:E:=var 8
abbrev oW:E:=var 9
abbrev ti:E:=.iff na (.and (fn 145 (pr (fn 23 (pr (fn 28 (pr (pr aM aK) aZ)) (fn 23 (pr (fn 1 (pr aa (.int 1))) (fn 23 (pr (fn 1 (pr aa (.int 2))) (fn 23 (pr (fn 1 (pr aa (.int 3))) (fn 23 (pr (fn 1 (pr aa (.int 4))) (fn 23 (pr (fn 1 (pr aa (.int 5))) (fn 23 (pr (fn 1 (pr aa (.int 6))) (fn 23 (pr (fn 1 (pr aa (.int 7))) (fn 23 (pr (fn 1 (pr aa (.int 8))) (fn 23 (pr (fn 1 (pr aa (.int 9))) (fn 23 (pr (fn 1 (pr aa (.int 10))) (fn 23 (pr (fn 1 (pr aa (.int 11))) (fn 23 (pr (fn 1 (pr aa (.int 12))) (fn 23 (pr (fn 1 (pr aa (.int 13))) (fn 23 (pr (fn 1 (pr aa (.int 14))) (fn 23 (pr (fn 1 (pr aa (.int 15))) (fn 23 (pr (fn 1 (pr aa (.int 16))) (fn 23 (pr (fn 1 (pr aa (.int 17))) (fn 23 (pr (fn 1 (pr aa (.int 18))) (fn 23 (pr (fn 1 (pr aa (.int 19))) (fn 23 (pr (fn 1 (pr aa (.int 20))) (fn 23 (pr (fn 1 (pr aa (.int 21))) (fn 23 (pr (fn 1 (pr aa (.int 22))) (fn 23 (pr (fn 1 (pr aa (.int 23))) (fn 23 (pr (fn 1 (pr aa (.int 24))) (fn 23 (pr (fn 1 (pr aa (.int 25))) (fn 23 (pr (fn 1 (pr aa (.int 26))) (fn 23 (pr (fn 1 (pr aa (.int 27))) (fn 23 (pr (fn 1 (pr aa (.int 28))) (fn 23 (pr (fn 1 (pr aa (.int 29))) (fn 23 (pr (fn 1 (pr aa (.int 30))) (fn 23 (pr (fn 1 (pr aa (.int 31))) (fn 23 (pr (fn 1 (pr aa (.int 32))) (fn 23 (pr (fn 1 (pr aa (.int 33))) (fn 23 (pr (fn 1 (pr aa (.int 34))) (fn 23 (pr (fn 1 (pr aa (.int 35))) (fn 23 (pr (fn 1 (pr aa (.int 36))) (fn 23 (pr (fn 1 (pr aa (.int 37))) (fn 10 (.int 0)))))))))))))))))))))))))))))))))))))))))))))))))))))))))))))))))))))))))))))) (.int 1))) (fn 146 (pr gh (pr iG (pr jq (pr kQ oW))))))
abbrev oh:E:=var 37
abbrev sX:E:=pr (fn 23 (pr (fn 28 (pr (pr aM aK) aZ)) (fn 23 (pr (fn 1 (pr aa (.int 1))) (fn 23 (pr (fn 1 (pr aa (.int 2))) (fn 23 (pr (fn 1 (pr aa (.int 3))) (fn 23 (pr (fn 1 (pr aa (.int 4))) (fn 23 (pr (fn 1 (pr aa (.int 5))) (fn 23 (pr (fn 1 (pr aa (.int 6))) (fn 23 (pr (fn 1 (pr aa (.int 7))) (fn 23 (pr (fn 1 (pr aa (.int 8))) (fn 23 (pr (fn 1 (pr aa (.int 9))) (fn 23 (pr (fn 1 (pr aa (.int 10))) (fn 23 (pr (fn 1 (pr aa (.int 11))) (fn 23 (pr (fn 1 (pr aa (.int 12))) (fn 23 (pr (fn 1 (pr aa (.int 13))) (fn 23 (pr (fn 1 (pr aa (.int 14))) (fn 23 (pr (fn 1 (pr aa (.int 15))) (fn 23 (pr (fn 1 (pr aa (.int 16))) (fn 23 (pr (fn 1 (pr aa (.int 17))) (fn 23 (pr (fn 1 (pr aa (.int 18))) (fn 23 (pr (fn 1 (pr aa (.int 19))) (fn 23 (pr (fn 1 (pr aa (.int 20))) (fn 23 (pr (fn 1 (pr aa (.int 21))) (fn 23 (pr (fn 1 (pr aa (.int 22))) (fn 23 (pr (fn 1 (pr aa (.int 23))) (fn 23 (pr (fn 1 (pr aa (.int 24))) (fn 23 (pr (fn 1 (pr aa (.int 25))) (fn 23 (pr (fn 1 (pr aa (.int 26))) (fn 23 (pr (fn 1 (pr aa (.int 27))) (fn 23 (pr (fn 1 (pr aa (.int 28))) (fn 23 (pr (fn 1 (pr aa (.int 29))) (fn 23 (pr (fn 1 (pr aa (.int 30))) (fn 23 (pr (fn 1 (pr aa (.int 31))) (fn 23 (pr (fn 1 (pr aa (.int 32))) (fn 23 (pr (fn 1 (pr aa (.int 33))) (fn 23 (pr (fn 1 (pr aa (.int 34))) (fn 23 (pr (fn 1 (pr aa (.int 35))) (fn 23 (pr (fn 1 (pr aa (.int 36))) (fn 23 (pr (fn 1 (pr aa (.int 37))) (fn 10 (.int 0)))))))))))))))))))))))))))))))))))))))))))))))))))))))))))))))))))))))))))))) (pr (.int 1) (.int 0))
abbrev wC:E:=.not oh
abbrev yV:E:=.not (cmp .lss (var 27) aK)
abbrev wa:E:=cmp .eql aK (fn 0 V0)
abbrev bu:E:=var 29
abbrev bw:E:=var 30
abbrev bD:E:=var 31
abbrev bG:E:=var 32
abbrev rg:E:=fn 205 (pr bu (pr bw (pr bD (pr bG (pr jN (pr kd (pr kc (pr jx (pr V0 (pr ae (.int 0)))))))))))
abbrev qN:E:=fn 204 (pr i5 (pr V0 (fn 0 V0)))
abbrev Br:E:=.not (cmp .lss bu gh)
abbrev V62:E:=cmp .lss bw iG
abbrev H3:E:=.not V62
abbrev V64:E:=cmp .lss bD jq
abbrev V65:E:=.not V64
abbrev IT:=lI::pp
abbrev Jj:=dS::IT
abbrev V68:E:=cmp .eql E3 (fn 9 (pr (fn 28 (pr (pr aM aK) aZ)) (.int 12)))
abbrev V69:=[V68,V1]
abbrev zV:E:=cmp .eql (fn 1 (pr i5 ae)) (.int 0)
abbrev lE:E:=.not zV
abbrev Dz:E:=cmp .eql (fn 1 (pr i5 ae)) (.int 1)
abbrev rr:E:=.not Dz
abbrev Fi:E:=cmp .eql (fn 1 (pr i5 ae)) (.int 2)
abbrev BU:E:=.not Fi
abbrev V76:E:=pr (fn 28 (pr (pr aM aK) aZ)) (fn 120 (pr (fn 23 (pr (fn 28 (pr (pr aM aK) aZ)) (fn 23 (pr (fn 1 (pr aa (.int 1))) (fn 23 (pr (fn 1 (pr aa (.int 2))) (fn 23 (pr (fn 1 (pr aa (.int 3))) (fn 23 (pr (fn 1 (pr aa (.int 4))) (fn 23 (pr (fn 1 (pr aa (.int 5))) (fn 23 (pr (fn 1 (pr aa (.int 6))) (fn 23 (pr (fn 1 (pr aa (.int 7))) (fn 23 (pr (fn 1 (pr aa (.int 8))) (fn 23 (pr (fn 1 (pr aa (.int 9))) (fn 23 (pr (fn 1 (pr aa (.int 10))) (fn 23 (pr (fn 1 (pr aa (.int 11))) (fn 23 (pr (fn 1 (pr aa (.int 12))) (fn 23 (pr (fn 1 (pr aa (.int 13))) (fn 23 (pr (fn 1 (pr aa (.int 14))) (fn 23 (pr (fn 1 (pr aa (.int 15))) (fn 23 (pr (fn 1 (pr aa (.int 16))) (fn 23 (pr (fn 1 (pr aa (.int 17))) (fn 23 (pr (fn 1 (pr aa (.int 18))) (fn 23 (pr (fn 1 (pr aa (.int 19))) (fn 23 (pr (fn 1 (pr aa (.int 20))) (fn 23 (pr (fn 1 (pr aa (.int 21))) (fn 23 (pr (fn 1 (pr aa (.int 22))) (fn 23 (pr (fn 1 (pr aa (.int 23))) (fn 23 (pr (fn 1 (pr aa (.int 24))) (fn 23 (pr (fn 1 (pr aa (.int 25))) (fn 23 (pr (fn 1 (pr aa (.int 26))) (fn 23 (pr (fn 1 (pr aa (.int 27))) (fn 23 (pr (fn 1 (pr aa (.int 28))) (fn 23 (pr (fn 1 (pr aa (.int 29))) (fn 23 (pr (fn 1 (pr aa (.int 30))) (fn 23 (pr (fn 1 (pr aa (.int 31))) (fn 23 (pr (fn 1 (pr aa (.int 32))) (fn 23 (pr (fn 1 (pr aa (.int 33))) (fn 23 (pr (fn 1 (pr aa (.int 34))) (fn 23 (pr (fn 1 (pr aa (.int 35))) (fn 23 (pr (fn 1 (pr aa (.int 36))) (fn 23 (pr (fn 1 (pr aa (.int 37))) (fn 10 (.int 0)))))))))))))))))))))))))))))))))))))))))))))))))))))))))))))))))))))))))))))) (pr (.ar .add .i64 ae (.int 1)) (fn 9 (pr (fn 28 (pr (pr aM aK) aZ)) (.int 12))))))
abbrev V77:E:=pr (var 38) V76
abbrev TK:E:=fn 206 V77
abbrev MW:E:=cmp .lss (.int 3) (.ar .rem .u8 (fn 1 (pr V0 ae)) (.int 8))
abbrev yl:E:=.not MW
abbrev V81:E:=pr (.ar .add .i64 ae (.int 1)) (.ar .add .i64 ae (.int 1))
abbrev V82:E:=pr (fn 0 V0) V81
abbrev V83:E:=pr V0 V82
abbrev VU:E:=pr i5 V83
abbrev Mi:E:=cmp .lss bu (.int 0)
abbrev V86:E:=cmp .lss bu (.int 100)
abbrev jQ:=rg::qN::pp
abbrev V88:E:=pr (.ar .add .i64 ae (.int 1)) (.int 0)
abbrev V89:E:=pr V0 V88
abbrev V90:E:=pr jx V89
abbrev V91:E:=pr kc V90
abbrev V92:E:=pr kd V91
abbrev W5:E:=pr jN V92
abbrev YZ:E:=pr bG W5
abbrev VD:E:=pr bD YZ
abbrev V96:E:=pr bw VD
abbrev ml:E:=fn 205 (pr bu V96)
abbrev H8:E:=cmp .lss bw (.int 0)
abbrev V99:E:=cmp .lss bw (.int 100)
abbrev GI:E:=cmp .lss bD (.int 0)
abbrev acJ:E:=cmp .lss bD (.int 100)
abbrev HG:E:=cmp .lss bG (.int 0)
abbrev aec:E:=cmp .lss bG (.int 100)
def ajL:=fb ([V1]) (cmp .eql (.mx (fn 0 V0) (.int 0)) (fn 0 V0))<|az fun F p0=>by
 try simp only[ab,aj]at *
 have:=@ch F V0
 omega
def ax2:=fa ((fn 204 (pr (fn 5 (pr (fn 0 V0) (.int 0))) (pr V0 (.int 0)))))<|fun F=>by
 exact aDJ rfl
def ai0:=fb V8 (.not (cmp .lss (.ar .add .i64 V2 (.int 1)) (.int 0)))<|am fun F p0 p1 p2=>by
 try simp only[ab,aj]at *
 have:=@ch F V0
 obtain⟨a2,ea2,qa2⟩:=ah ((E.I F V2)+(1))
 try simp only[ea2]at *
 omega
def ai8:=fb ((.not V3)::V17) (fn 214 V9)<|aF fun F p0 p1 p2 p3=>by
 have e1:E.I F V2=E.I F (fn 0 V0):=by
  simp only[ab]at *;omega
 exact au5 p1 e1
def aE1:=fb Nz (.not (cmp .lss (fn 0 V0) (.ar .add .i64 V2 (.int 1))))<|au fun F p0 p1=>by
 try simp only[ab,aj]at *
 obtain⟨a2,ea2,qa2⟩:=ah ((E.I F V2)+(1))
 try simp only[ea2]at *
 omega
def aEs:=fb ((.not V3)::(cmp .eql (var 19) (fn 0 V0))::V17) (fn 204 (pr V9 (pr V0 (fn 0 V0))))<|aT fun F p0 p1 p2 p3 p4=>by
 have e1:E.I F V2=E.I F (fn 0 V0):=by
  simp only[ab]at *;omega
 exact asD p2 e1
def am1:=fb ((fn 27 (pr (fn 23 (pr (.int 4) (fn 10 (.int 0)))) V0))::V3::V1::Tg::V6) (fn 204 (pr (fn 2 (pr V9 (pr V2 (.wr .i64 (.ar .rem .u8 (fn 1 (pr V0 V2)) (.int 4)))))) (pr V0 (.ar .add .i64 V2 (.int 1)))))<|aT fun F p0 p1 p2 p3 p4=>by
 have e1:0<=E.I F V2/\E.I F V2<E.I F (fn 0 V0)/\E.I F (.ar .add .i64 V2 (.int 1))=E.I F V2+1:=by
  have:=@aA F V2 (.int 1)
  simp only[ab]at *;grind
 exact aDK p3 p0 e1.1 e1.2.1 e1.2.2
def ayf:=fb ([(fn 203 (pr cQ (pr (fn 0 V0) (pr (.int 0) (pr (.int 0) (pr (.int 0) (pr (.int 0) A5)))))))]) (fn 203 (pr (fn 23 (pr (fn 1 (pr cQ (.int 0))) (fn 23 (pr (fn 1 (pr cQ (.int 1))) (fn 23 (pr (fn 1 (pr cQ (.int 2))) (fn 23 (pr (fn 1 (pr cQ (.int 3))) (fn 23 (pr (fn 1 (pr cQ (.int 4))) (fn 23 (pr (fn 1 (pr cQ (.int 5))) (fn 23 (pr (fn 1 (pr cQ (.int 6))) (fn 23 (pr (fn 1 (pr cQ (.int 7))) (fn 23 (pr (fn 1 (pr cQ (.int 8))) (fn 23 (pr (fn 1 (pr cQ (.int 9))) (fn 23 (pr (fn 1 (pr cQ (.int 10))) (fn 23 (pr (fn 1 (pr cQ (.int 11))) (fn 23 (pr (fn 1 (pr cQ (.int 12))) (fn 23 (pr (fn 1 (pr cQ (.int 13))) (fn 23 (pr (fn 1 (pr cQ (.int 14))) (fn 23 (pr (fn 1 (pr cQ (.int 15))) (fn 23 (pr jN (fn 23 (pr kd (fn 23 (pr kc (fn 23 (pr jx (fn 23 (pr (fn 1 (pr cQ (.int 20))) (fn 23 (pr (fn 1 (pr cQ (.int 21))) (fn 23 (pr (fn 1 (pr cQ (.int 22))) (fn 23 (pr (fn 1 (pr cQ (.int 23))) (fn 23 (pr (fn 1 (pr cQ (.int 24))) (fn 23 (pr (fn 1 (pr cQ (.int 25))) (fn 23 (pr (fn 1 (pr cQ (.int 26))) (fn 23 (pr (fn 1 (pr cQ (.int 27))) (fn 23 (pr (fn 1 (pr cQ (.int 28))) (fn 23 (pr (fn 1 (pr cQ (.int 29))) (fn 23 (pr (fn 1 (pr cQ (.int 30))) (fn 23 (pr (fn 1 (pr cQ (.int 31))) (fn 23 (pr (fn 1 (pr cQ (.int 32))) (fn 23 (pr (fn 1 (pr cQ (.int 33))) (fn 23 (pr (fn 1 (pr cQ (.int 34))) (fn 23 (pr (fn 1 (pr cQ (.int 35))) (fn 23 (pr (fn 1 (pr cQ (.int 36))) (fn 23 (pr (fn 1 (pr cQ (.int 37))) (fn 10 (.int 0)))))))))))))))))))))))))))))))))))))))))))))))))))))))))))))))))))))))))))))) (pr (fn 0 V0) (pr (.int 0) HO))))<|az fun F p0=>by
 have h1:=@aDQ _ _ _ _ jN kd kc jx p0;exact h1
def aAH:=fb V8 (cmp .lss (fn 7 (pr (fn 0 V0) (.ar .add .i64 V2 (.int 1)))) (fn 7 (pr (fn 0 V0) V2)))<|am fun F p0 p1 p2=>by
 try simp only[ab,aj]at *
 have:=@ch F V0
 obtain⟨a2,ea2,qa2⟩:=ah ((E.I F V2)+(1))
 try simp only[ea2]at *
 omega
def aCl:=fb ([(fn 202 (pr (var 21) (pr V9 (pr (fn 10 (.int 0)) (pr (fn 0 V0) A5)))))]) (fn 202 (pr (var 21) (pr V9 (pr V0 (pr (fn 0 V0) A5)))))<|az fun F p0=>by
 exact p0
def azf:=fb Nz (.not (cmp .lss (fn 7 (pr (fn 0 V0) (.ar .add .i64 V2 (.int 1)))) (.int 0)))<|au fun F p0 p1=>by
 try simp only[ab,aj]at *
 obtain⟨a2,ea2,qa2⟩:=ah ((E.I F V2)+(1))
 try simp only[ea2]at *
 omega
def ae9:=fa ((fn 205 (pr jN (pr kd (pr kc (pr jx (pr jN (pr kd (pr kc (pr jx (pr V0 A5)))))))))))<|fun F=>by
 exact auW
def aAZ:=fb ([jA]) (fn 116 (fn 23 (pr (fn 28 (pr (pr aM aK) aZ)) (fn 23 (pr (fn 1 (pr aa (.int 1))) (fn 23 (pr (fn 1 (pr aa (.int 2))) (fn 23 (pr (fn 1 (pr aa (.int 3))) (fn 23 (pr (fn 1 (pr aa (.int 4))) (fn 23 (pr (fn 1 (pr aa (.int 5))) (fn 23 (pr (fn 1 (pr aa (.int 6))) (fn 23 (pr (fn 1 (pr aa (.int 7))) (fn 23 (pr (fn 1 (pr aa (.int 8))) (fn 23 (pr (fn 1 (pr aa (.int 9))) (fn 23 (pr (fn 1 (pr aa (.int 10))) (fn 23 (pr (fn 1 (pr aa (.int 11))) (fn 23 (pr (fn 1 (pr aa (.int 12))) (fn 23 (pr (fn 1 (pr aa (.int 13))) (fn 23 (pr (fn 1 (pr aa (.int 14))) (fn 23 (pr (fn 1 (pr aa (.int 15))) (fn 23 (pr (fn 1 (pr aa (.int 16))) (fn 23 (pr (fn 1 (pr aa (.int 17))) (fn 23 (pr (fn 1 (pr aa (.int 18))) (fn 23 (pr (fn 1 (pr aa (.int 19))) (fn 23 (pr (fn 1 (pr aa (.int 20))) (fn 23 (pr (fn 1 (pr aa (.int 21))) (fn 23 (pr (fn 1 (pr aa (.int 22))) (fn 23 (pr (fn 1 (pr aa (.int 23))) (fn 23 (pr (fn 1 (pr aa (.int 24))) (fn 23 (pr (fn 1 (pr aa (.int 25))) (fn 23 (pr (fn 1 (pr aa (.int 26))) (fn 23 (pr (fn 1 (pr aa (.int 27))) (fn 23 (pr (fn 1 (pr aa (.int 28))) (fn 23 (pr (fn 1 (pr aa (.int 29))) (fn 23 (pr (fn 1 (pr aa (.int 30))) (fn 23 (pr (fn 1 (pr aa (.int 31))) (fn 23 (pr (fn 1 (pr aa (.int 32))) (fn 23 (pr (fn 1 (pr aa (.int 33))) (fn 23 (pr (fn 1 (pr aa (.int 34))) (fn 23 (pr (fn 1 (pr aa (.int 35))) (fn 23 (pr (fn 1 (pr aa (.int 36))) (fn 23 (pr (fn 1 (pr aa (.int 37))) (fn 10 (.int 0)))))))))))))))))))))))))))))))))))))))))))))))))))))))))))))))))))))))))))))))<|az fun F p0=>by
 have h1:=@ar9 _ _ aZ _ (pr aM aK) _ _ _ _ _ p0;exact h1
def aFg:=fb (dS::lI::jA::oV::pp) Qs<|bU fun F p0 p1 p2 p3 p4 p5=>by
 have e1:E.I F (fn 0 V0)<=20/\E.I F ae<=E.I F (fn 0 V0)/\0<=E.I F ae:=by
  simp only[ab]at *;omega
 have h1:=@YP _ _ _ _ _ (pr aM aK) _ _ _ _ _ _ _ p2 p1 e1.1 e1.2.1 e1.2.2;exact h1
def ayr:=fb (ut::lI::jA::oV::uy::pp) Qs<|ck fun F p0 p1 p2 p3 p4 p5 p6=>by
 have e1:E.I F (fn 0 V0)<=20/\E.I F ae<=E.I F (fn 0 V0)/\0<=E.I F ae:=by
  simp only[ab]at *;omega
 have h1:=@YP _ _ _ _ _ (pr aM aK) _ _ _ _ _ _ _ p2 p1 e1.1 e1.2.1 e1.2.2;exact h1
def avC:=fb ([jA]) (cmp .eql (fn 9 (pr (fn 1 (pr aa (.int 29))) (.int 5))) (.int 0))<|az fun F p0=>by
 have:=BS p0
 try simp only[ab]at *
 first | omega | grind
def aiB:=fa ((.not (cmp .lss (.int 12) (fn 9 (pr (fn 28 (pr kn (fn 23 (pr (.str ⟨#[]⟩) (fn 23 (pr (.int 1) (fn 23 (pr (.int 0) (fn 23 (pr (.int 0) (fn 23 (pr (.int 0) (fn 23 (pr (.int 0) (fn 23 (pr (.int 0) (fn 23 (pr (.int 0) (fn 23 (pr (.int 0) (fn 23 (pr (.int 0) (fn 23 (pr (.int 0) (fn 23 (pr (fn 30 (.int 0)) (fn 23 (pr (fn 30 (.int 0)) (fn 23 (pr (.int 0) (fn 23 (pr (.str ⟨#[]⟩) (fn 23 (pr (.int 1) (fn 23 (pr (.int 0) (fn 23 (pr (.int 0) (fn 23 (pr (.int 0) (fn 23 (pr (.int 0) (fn 23 (pr (.int 0) (fn 23 (pr (.int 1) (fn 23 (pr (.int 0) (fn 23 (pr (.int 0) (fn 23 (pr (.int 0) (fn 23 (pr (fn 30 (.int 0)) (fn 23 (pr (fn 30 (.int 0)) (fn 23 (pr (.int 0) (fn 23 (pr (.str ⟨#[]⟩) (fn 23 (pr (.int 1) (fn 23 (pr (.int 0) (fn 23 (pr (.int 0) (fn 23 (pr (.int 0) (fn 23 (pr (.int 0) (fn 23 (pr (.int 0) (fn 23 (pr (.int 2) (fn 23 (pr (.int 0) (fn 23 (pr (.int 0) (fn 23 (pr (.int 0) (fn 23 (pr (fn 30 (.int 0)) (fn 23 (pr (fn 30 (.int 0)) (fn 23 (pr (.int 0) (fn 23 (pr (.str ⟨#[]⟩) (fn 23 (pr (.int 1) (fn 23 (pr (.int 0) (fn 23 (pr (.int 0) (fn 23 (pr (.int 0) (fn 23 (pr (.int 0) (fn 23 (pr (.int 0) (fn 23 (pr (.int 3) (fn 23 (pr (.int 0) (fn 23 (pr (.int 0) (fn 23 (pr (.int 0) (fn 23 (pr (fn 30 (.int 0)) (fn 23 (pr (fn 30 (.int 0)) (fn 23 (pr (.int 0) (fn 10 (.int 0)))))))))))))))))))))))))))))))))))))))))))))))))))))))))))))))))))))))))))))))))))))))))))))))))))))))))))))))))))) (.int 14))))))<|fun F=>by
 exact @ayy _ (fn 28 (pr kn (fn 23 (pr (.str ⟨#[]⟩) (fn 23 (pr (.int 1) (fn 23 (pr (.int 0) (fn 23 (pr (.int 0) (fn 23 (pr (.int 0) (fn 23 (pr (.int 0) (fn 23 (pr (.int 0) (fn 23 (pr (.int 0) (fn 23 (pr (.int 0) (fn 23 (pr (.int 0) (fn 23 (pr (.int 0) (fn 23 (pr (fn 30 (.int 0)) (fn 23 (pr (fn 30 (.int 0)) (fn 23 (pr (.int 0) (fn 23 (pr (.str ⟨#[]⟩) (fn 23 (pr (.int 1) (fn 23 (pr (.int 0) (fn 23 (pr (.int 0) (fn 23 (pr (.int 0) (fn 23 (pr (.int 0) (fn 23 (pr (.int 0) (fn 23 (pr (.int 1) (fn 23 (pr (.int 0) (fn 23 (pr (.int 0) (fn 23 (pr (.int 0) (fn 23 (pr (fn 30 (.int 0)) (fn 23 (pr (fn 30 (.int 0)) (fn 23 (pr (.int 0) (fn 23 (pr (.str ⟨#[]⟩) (fn 23 (pr (.int 1) (fn 23 (pr (.int 0) (fn 23 (pr (.int 0) (fn 23 (pr (.int 0) (fn 23 (pr (.int 0) (fn 23 (pr (.int 0) (fn 23 (pr (.int 2) (fn 23 (pr (.int 0) (fn 23 (pr (.int 0) (fn 23 (pr (.int 0) (fn 23 (pr (fn 30 (.int 0)) (fn 23 (pr (fn 30 (.int 0)) (fn 23 (pr (.int 0) (fn 23 (pr (.str ⟨#[]⟩) (fn 23 (pr (.int 1) (fn 23 (pr (.int 0) (fn 23 (pr (.int 0) (fn 23 (pr (.int 0) (fn 23 (pr (.int 0) (fn 23 (pr (.int 0) (fn 23 (pr (.int 3) (fn 23 (pr (.int 0) (fn 23 (pr (.int 0) (fn 23 (pr (.int 0) (fn 23 (pr (fn 30 (.int 0)) (fn 23 (pr (fn 30 (.int 0)) (fn 23 (pr (.int 0) (fn 10 (.int 0)))))))))))))))))))))))))))))))))))))))))))))))))))))))))))))))))))))))))))))))))))))))))))))))))))))))))))))))))))) rfl
def aEc:=fb ([jA]) (cmp .eql (fn 9 (pr (fn 1 (pr aa (.int 30))) (.int 5))) (.int 0))<|az fun F p0=>by
 have:=BS p0
 try simp only[ab]at *
 first | omega | grind
def aBj:=fa ((fn 155 (pr (fn 28 (pr kn (fn 23 (pr (.str ⟨#[]⟩) (fn 23 (pr (.int 1) (fn 23 (pr (.int 0) (fn 23 (pr (.int 0) (fn 23 (pr (.int 0) (fn 23 (pr (.int 0) (fn 23 (pr (.int 0) (fn 23 (pr (.int 0) (fn 23 (pr (.int 0) (fn 23 (pr (.int 0) (fn 23 (pr (.int 0) (fn 23 (pr (fn 30 (.int 0)) (fn 23 (pr (fn 30 (.int 0)) (fn 23 (pr (.int 0) (fn 23 (pr (.str ⟨#[]⟩) (fn 23 (pr (.int 1) (fn 23 (pr (.int 0) (fn 23 (pr (.int 0) (fn 23 (pr (.int 0) (fn 23 (pr (.int 0) (fn 23 (pr (.int 0) (fn 23 (pr (.int 1) (fn 23 (pr (.int 0) (fn 23 (pr (.int 0) (fn 23 (pr (.int 0) (fn 23 (pr (fn 30 (.int 0)) (fn 23 (pr (fn 30 (.int 0)) (fn 23 (pr (.int 0) (fn 23 (pr (.str ⟨#[]⟩) (fn 23 (pr (.int 1) (fn 23 (pr (.int 0) (fn 23 (pr (.int 0) (fn 23 (pr (.int 0) (fn 23 (pr (.int 0) (fn 23 (pr (.int 0) (fn 23 (pr (.int 2) (fn 23 (pr (.int 0) (fn 23 (pr (.int 0) (fn 23 (pr (.int 0) (fn 23 (pr (fn 30 (.int 0)) (fn 23 (pr (fn 30 (.int 0)) (fn 23 (pr (.int 0) (fn 23 (pr (.str ⟨#[]⟩) (fn 23 (pr (.int 1) (fn 23 (pr (.int 0) (fn 23 (pr (.int 0) (fn 23 (pr (.int 0) (fn 23 (pr (.int 0) (fn 23 (pr (.int 0) (fn 23 (pr (.int 3) (fn 23 (pr (.int 0) (fn 23 (pr (.int 0) (fn 23 (pr (.int 0) (fn 23 (pr (fn 30 (.int 0)) (fn 23 (pr (fn 30 (.int 0)) (fn 23 (pr (.int 0) (fn 10 (.int 0)))))))))))))))))))))))))))))))))))))))))))))))))))))))))))))))))))))))))))))))))))))))))))))))))))))))))))))))))))) (fn 9 (pr (fn 28 (pr kn (fn 23 (pr (.str ⟨#[]⟩) (fn 23 (pr (.int 1) (fn 23 (pr (.int 0) (fn 23 (pr (.int 0) (fn 23 (pr (.int 0) (fn 23 (pr (.int 0) (fn 23 (pr (.int 0) (fn 23 (pr (.int 0) (fn 23 (pr (.int 0) (fn 23 (pr (.int 0) (fn 23 (pr (.int 0) (fn 23 (pr (fn 30 (.int 0)) (fn 23 (pr (fn 30 (.int 0)) (fn 23 (pr (.int 0) (fn 23 (pr (.str ⟨#[]⟩) (fn 23 (pr (.int 1) (fn 23 (pr (.int 0) (fn 23 (pr (.int 0) (fn 23 (pr (.int 0) (fn 23 (pr (.int 0) (fn 23 (pr (.int 0) (fn 23 (pr (.int 1) (fn 23 (pr (.int 0) (fn 23 (pr (.int 0) (fn 23 (pr (.int 0) (fn 23 (pr (fn 30 (.int 0)) (fn 23 (pr (fn 30 (.int 0)) (fn 23 (pr (.int 0) (fn 23 (pr (.str ⟨#[]⟩) (fn 23 (pr (.int 1) (fn 23 (pr (.int 0) (fn 23 (pr (.int 0) (fn 23 (pr (.int 0) (fn 23 (pr (.int 0) (fn 23 (pr (.int 0) (fn 23 (pr (.int 2) (fn 23 (pr (.int 0) (fn 23 (pr (.int 0) (fn 23 (pr (.int 0) (fn 23 (pr (fn 30 (.int 0)) (fn 23 (pr (fn 30 (.int 0)) (fn 23 (pr (.int 0) (fn 23 (pr (.str ⟨#[]⟩) (fn 23 (pr (.int 1) (fn 23 (pr (.int 0) (fn 23 (pr (.int 0) (fn 23 (pr (.int 0) (fn 23 (pr (.int 0) (fn 23 (pr (.int 0) (fn 23 (pr (.int 3) (fn 23 (pr (.int 0) (fn 23 (pr (.int 0) (fn 23 (pr (.int 0) (fn 23 (pr (fn 30 (.int 0)) (fn 23 (pr (fn 30 (.int 0)) (fn 23 (pr (.int 0) (fn 10 (.int 0)))))))))))))))))))))))))))))))))))))))))))))))))))))))))))))))))))))))))))))))))))))))))))))))))))))))))))))))))))) (.int 14))))))<|fun F=>by
 exact @alc _ (fn 28 (pr kn (fn 23 (pr (.str ⟨#[]⟩) (fn 23 (pr (.int 1) (fn 23 (pr (.int 0) (fn 23 (pr (.int 0) (fn 23 (pr (.int 0) (fn 23 (pr (.int 0) (fn 23 (pr (.int 0) (fn 23 (pr (.int 0) (fn 23 (pr (.int 0) (fn 23 (pr (.int 0) (fn 23 (pr (.int 0) (fn 23 (pr (fn 30 (.int 0)) (fn 23 (pr (fn 30 (.int 0)) (fn 23 (pr (.int 0) (fn 23 (pr (.str ⟨#[]⟩) (fn 23 (pr (.int 1) (fn 23 (pr (.int 0) (fn 23 (pr (.int 0) (fn 23 (pr (.int 0) (fn 23 (pr (.int 0) (fn 23 (pr (.int 0) (fn 23 (pr (.int 1) (fn 23 (pr (.int 0) (fn 23 (pr (.int 0) (fn 23 (pr (.int 0) (fn 23 (pr (fn 30 (.int 0)) (fn 23 (pr (fn 30 (.int 0)) (fn 23 (pr (.int 0) (fn 23 (pr (.str ⟨#[]⟩) (fn 23 (pr (.int 1) (fn 23 (pr (.int 0) (fn 23 (pr (.int 0) (fn 23 (pr (.int 0) (fn 23 (pr (.int 0) (fn 23 (pr (.int 0) (fn 23 (pr (.int 2) (fn 23 (pr (.int 0) (fn 23 (pr (.int 0) (fn 23 (pr (.int 0) (fn 23 (pr (fn 30 (.int 0)) (fn 23 (pr (fn 30 (.int 0)) (fn 23 (pr (.int 0) (fn 23 (pr (.str ⟨#[]⟩) (fn 23 (pr (.int 1) (fn 23 (pr (.int 0) (fn 23 (pr (.int 0) (fn 23 (pr (.int 0) (fn 23 (pr (.int 0) (fn 23 (pr (.int 0) (fn 23 (pr (.int 3) (fn 23 (pr (.int 0) (fn 23 (pr (.int 0) (fn 23 (pr (.int 0) (fn 23 (pr (fn 30 (.int 0)) (fn 23 (pr (fn 30 (.int 0)) (fn 23 (pr (.int 0) (fn 10 (.int 0)))))))))))))))))))))))))))))))))))))))))))))))))))))))))))))))))))))))))))))))))))))))))))))))))))))))))))))))))))) rfl
def aig:=fb ([jA]) (cmp .eql (fn 9 (pr (fn 1 (pr aa (.int 32))) (.int 2))) (.int 0))<|az fun F p0=>by
 have:=BS p0
 try simp only[ab]at *
 first | omega | grind
def am6:=fb [ti,(.not na),(.iff oh (fn 182 (pr gh (pr iG (pr jq (pr kQ (pr oW (pr (fn 28 (pr kn (fn 23 (pr (.str ⟨#[]⟩) (fn 23 (pr (.int 1) (fn 23 (pr (.int 0) (fn 23 (pr (.int 0) (fn 23 (pr (.int 0) (fn 23 (pr (.int 0) (fn 23 (pr (.int 0) (fn 23 (pr (.int 0) (fn 23 (pr (.int 0) (fn 23 (pr (.int 0) (fn 23 (pr (.int 0) (fn 23 (pr (fn 30 (.int 0)) (fn 23 (pr (fn 30 (.int 0)) (fn 23 (pr (.int 0) (fn 23 (pr (.str ⟨#[]⟩) (fn 23 (pr (.int 1) (fn 23 (pr (.int 0) (fn 23 (pr (.int 0) (fn 23 (pr (.int 0) (fn 23 (pr (.int 0) (fn 23 (pr (.int 0) (fn 23 (pr (.int 1) (fn 23 (pr (.int 0) (fn 23 (pr (.int 0) (fn 23 (pr (.int 0) (fn 23 (pr (fn 30 (.int 0)) (fn 23 (pr (fn 30 (.int 0)) (fn 23 (pr (.int 0) (fn 23 (pr (.str ⟨#[]⟩) (fn 23 (pr (.int 1) (fn 23 (pr (.int 0) (fn 23 (pr (.int 0) (fn 23 (pr (.int 0) (fn 23 (pr (.int 0) (fn 23 (pr (.int 0) (fn 23 (pr (.int 2) (fn 23 (pr (.int 0) (fn 23 (pr (.int 0) (fn 23 (pr (.int 0) (fn 23 (pr (fn 30 (.int 0)) (fn 23 (pr (fn 30 (.int 0)) (fn 23 (pr (.int 0) (fn 23 (pr (.str ⟨#[]⟩) (fn 23 (pr (.int 1) (fn 23 (pr (.int 0) (fn 23 (pr (.int 0) (fn 23 (pr (.int 0) (fn 23 (pr (.int 0) (fn 23 (pr (.int 0) (fn 23 (pr (.int 3) (fn 23 (pr (.int 0) (fn 23 (pr (.int 0) (fn 23 (pr (.int 0) (fn 23 (pr (fn 30 (.int 0)) (fn 23 (pr (fn 30 (.int 0)) (fn 23 (pr (.int 0) (fn 10 (.int 0)))))))))))))))))))))))))))))))))))))))))))))))))))))))))))))))))))))))))))))))))))))))))))))))))))))))))))))))))))) sX))))))))] wC<|am fun F p0 p1 p2=>by
 have g7:=(kg p2).trans aaW;have g8:=p1
 rw[o7,kg p0,ci]at g8
 rw[o7,g7]
 exact fun q=>g8 ⟨q.1,q.2.1⟩
def avP:=fb [yV,wa,rg,lI,jA,qN,oV,uy,np,(fn 27 (pr (fn 23 (pr (.int 4) (fn 10 (.int 0)))) V0)),V1,ut,ti,na,(cmp .lss bu gh),(.iff oh (fn 182 (pr gh (pr iG (pr jq (pr kQ (pr oW (pr (fn 28 (pr kn (fn 23 (pr (.str ⟨#[]⟩) (fn 23 (pr (.int 1) (fn 23 (pr (.int 0) (fn 23 (pr (.int 0) (fn 23 (pr (.int 0) (fn 23 (pr (.int 0) (fn 23 (pr (.int 0) (fn 23 (pr (.int 0) (fn 23 (pr (.int 0) (fn 23 (pr (.int 0) (fn 23 (pr (.int 0) (fn 23 (pr (fn 30 (.int 0)) (fn 23 (pr (fn 30 (.int 0)) (fn 23 (pr (.int 0) (fn 23 (pr (.str ⟨#[]⟩) (fn 23 (pr (.int 1) (fn 23 (pr (.int 0) (fn 23 (pr (.int 0) (fn 23 (pr (.int 0) (fn 23 (pr (.int 0) (fn 23 (pr (.int 0) (fn 23 (pr (.int 1) (fn 23 (pr (.int 0) (fn 23 (pr (.int 0) (fn 23 (pr (.int 0) (fn 23 (pr (fn 30 (.int 0)) (fn 23 (pr (fn 30 (.int 0)) (fn 23 (pr (.int 0) (fn 23 (pr (.str ⟨#[]⟩) (fn 23 (pr (.int 1) (fn 23 (pr (.int 0) (fn 23 (pr (.int 0) (fn 23 (pr (.int 0) (fn 23 (pr (.int 0) (fn 23 (pr (.int 0) (fn 23 (pr (.int 2) (fn 23 (pr (.int 0) (fn 23 (pr (.int 0) (fn 23 (pr (.int 0) (fn 23 (pr (fn 30 (.int 0)) (fn 23 (pr (fn 30 (.int 0)) (fn 23 (pr (.int 0) (fn 23 (pr (.str ⟨#[]⟩) (fn 23 (pr (.int 1) (fn 23 (pr (.int 0) (fn 23 (pr (.int 0) (fn 23 (pr (.int 0) (fn 23 (pr (.int 0) (fn 23 (pr (.int 0) (fn 23 (pr (.int 3) (fn 23 (pr (.int 0) (fn 23 (pr (.int 0) (fn 23 (pr (.int 0) (fn 23 (pr (fn 30 (.int 0)) (fn 23 (pr (fn 30 (.int 0)) (fn 23 (pr (.int 0) (fn 10 (.int 0)))))))))))))))))))))))))))))))))))))))))))))))))))))))))))))))))))))))))))))))))))))))))))))))))))))))))))))))))))) sX))))))))] wC<|lf fun F p0 p1 p2 p3 p4 p5 p6 p7 p8 p9 ao av ax aB aC aE=>by
 have hA:=Eq.mp (ci _ _ _) (Eq.mp (kg ax) aB);have hk:k9 F aa aZ i5 V0 (fn 0 V0) jN kd kc jx:=by
  have h1:=xd p4 p3 p5
  have:=@ch F V0
  simp only[ab]at *;exact h1 (by omega) (by omega) (by omega) (by omega)
 have hp:E.I F (.int 1)=1:=rfl;have g0:E.I F ae=E.I F (fn 0 V0):=by
  simp only[ab]at *;omega
 have g1:=yq p2 g0;have g7:=(kg aE).trans (wu hk hp (yY rfl) g1 hA.1 hA.2)
 have:=Eq.mp bP hA.2
 have g6:=Eq.mp (vf hk hp) hA.1
 have:=wQ p2 g6
 clear hk g1 hA p2 p3 p4 p5 p9 ax aB aE
 rw[o7,g7]
 simp only[ab]at *;grind
def aCH:=fb [yV,wa,rg,lI,jA,qN,oV,uy,np,(fn 27 (pr (fn 23 (pr (.int 4) (fn 10 (.int 0)))) V0)),V1,ut,ti,na,Br,V62,(.iff oh (fn 182 (pr gh (pr iG (pr jq (pr kQ (pr oW (pr (fn 28 (pr kn (fn 23 (pr (.str ⟨#[]⟩) (fn 23 (pr (.int 1) (fn 23 (pr (.int 0) (fn 23 (pr (.int 0) (fn 23 (pr (.int 0) (fn 23 (pr (.int 0) (fn 23 (pr (.int 0) (fn 23 (pr (.int 0) (fn 23 (pr (.int 0) (fn 23 (pr (.int 0) (fn 23 (pr (.int 0) (fn 23 (pr (fn 30 (.int 0)) (fn 23 (pr (fn 30 (.int 0)) (fn 23 (pr (.int 0) (fn 23 (pr (.str ⟨#[]⟩) (fn 23 (pr (.int 1) (fn 23 (pr (.int 0) (fn 23 (pr (.int 0) (fn 23 (pr (.int 0) (fn 23 (pr (.int 0) (fn 23 (pr (.int 0) (fn 23 (pr (.int 1) (fn 23 (pr (.int 0) (fn 23 (pr (.int 0) (fn 23 (pr (.int 0) (fn 23 (pr (fn 30 (.int 0)) (fn 23 (pr (fn 30 (.int 0)) (fn 23 (pr (.int 0) (fn 23 (pr (.str ⟨#[]⟩) (fn 23 (pr (.int 1) (fn 23 (pr (.int 0) (fn 23 (pr (.int 0) (fn 23 (pr (.int 0) (fn 23 (pr (.int 0) (fn 23 (pr (.int 0) (fn 23 (pr (.int 2) (fn 23 (pr (.int 0) (fn 23 (pr (.int 0) (fn 23 (pr (.int 0) (fn 23 (pr (fn 30 (.int 0)) (fn 23 (pr (fn 30 (.int 0)) (fn 23 (pr (.int 0) (fn 23 (pr (.str ⟨#[]⟩) (fn 23 (pr (.int 1) (fn 23 (pr (.int 0) (fn 23 (pr (.int 0) (fn 23 (pr (.int 0) (fn 23 (pr (.int 0) (fn 23 (pr (.int 0) (fn 23 (pr (.int 3) (fn 23 (pr (.int 0) (fn 23 (pr (.int 0) (fn 23 (pr (.int 0) (fn 23 (pr (fn 30 (.int 0)) (fn 23 (pr (fn 30 (.int 0)) (fn 23 (pr (.int 0) (fn 10 (.int 0)))))))))))))))))))))))))))))))))))))))))))))))))))))))))))))))))))))))))))))))))))))))))))))))))))))))))))))))))))) sX))))))))] wC<|yE fun F p0 p1 p2 p3 p4 p5 p6 p7 p8 p9 ao av ax aB aC aE aL=>by
 have hA:=Eq.mp (ci _ _ _) (Eq.mp (kg ax) aB);have hk:k9 F aa aZ i5 V0 (fn 0 V0) jN kd kc jx:=by
  have h1:=xd p4 p3 p5
  have:=@ch F V0
  simp only[ab]at *;exact h1 (by omega) (by omega) (by omega) (by omega)
 have hp:E.I F (.int 1)=1:=rfl;have g0:E.I F ae=E.I F (fn 0 V0):=by
  simp only[ab]at *;omega
 have g1:=yq p2 g0;have g7:=(kg aL).trans (wu hk hp (yY rfl) g1 hA.1 hA.2)
 have:=Eq.mp bP hA.2
 have g6:=Eq.mp (vf hk hp) hA.1
 have:=wQ p2 g6
 clear hk g1 hA p2 p3 p4 p5 p9 ax aB aL
 rw[o7,g7]
 simp only[ab]at *;grind
def atE:=fb [yV,wa,rg,lI,jA,qN,oV,uy,np,(fn 27 (pr (fn 23 (pr (.int 4) (fn 10 (.int 0)))) V0)),V1,ut,ti,na,Br,H3,V64,(.iff oh (fn 182 (pr gh (pr iG (pr jq (pr kQ (pr oW (pr (fn 28 (pr kn (fn 23 (pr (.str ⟨#[]⟩) (fn 23 (pr (.int 1) (fn 23 (pr (.int 0) (fn 23 (pr (.int 0) (fn 23 (pr (.int 0) (fn 23 (pr (.int 0) (fn 23 (pr (.int 0) (fn 23 (pr (.int 0) (fn 23 (pr (.int 0) (fn 23 (pr (.int 0) (fn 23 (pr (.int 0) (fn 23 (pr (fn 30 (.int 0)) (fn 23 (pr (fn 30 (.int 0)) (fn 23 (pr (.int 0) (fn 23 (pr (.str ⟨#[]⟩) (fn 23 (pr (.int 1) (fn 23 (pr (.int 0) (fn 23 (pr (.int 0) (fn 23 (pr (.int 0) (fn 23 (pr (.int 0) (fn 23 (pr (.int 0) (fn 23 (pr (.int 1) (fn 23 (pr (.int 0) (fn 23 (pr (.int 0) (fn 23 (pr (.int 0) (fn 23 (pr (fn 30 (.int 0)) (fn 23 (pr (fn 30 (.int 0)) (fn 23 (pr (.int 0) (fn 23 (pr (.str ⟨#[]⟩) (fn 23 (pr (.int 1) (fn 23 (pr (.int 0) (fn 23 (pr (.int 0) (fn 23 (pr (.int 0) (fn 23 (pr (.int 0) (fn 23 (pr (.int 0) (fn 23 (pr (.int 2) (fn 23 (pr (.int 0) (fn 23 (pr (.int 0) (fn 23 (pr (.int 0) (fn 23 (pr (fn 30 (.int 0)) (fn 23 (pr (fn 30 (.int 0)) (fn 23 (pr (.int 0) (fn 23 (pr (.str ⟨#[]⟩) (fn 23 (pr (.int 1) (fn 23 (pr (.int 0) (fn 23 (pr (.int 0) (fn 23 (pr (.int 0) (fn 23 (pr (.int 0) (fn 23 (pr (.int 0) (fn 23 (pr (.int 3) (fn 23 (pr (.int 0) (fn 23 (pr (.int 0) (fn 23 (pr (.int 0) (fn 23 (pr (fn 30 (.int 0)) (fn 23 (pr (fn 30 (.int 0)) (fn 23 (pr (.int 0) (fn 10 (.int 0)))))))))))))))))))))))))))))))))))))))))))))))))))))))))))))))))))))))))))))))))))))))))))))))))))))))))))))))))))) sX))))))))] wC<|vc fun F p0 p1 p2 p3 p4 p5 p6 p7 p8 p9 ao av ax aB aC aE aL aQ=>by
 have hA:=Eq.mp (ci _ _ _) (Eq.mp (kg ax) aB);have hk:k9 F aa aZ i5 V0 (fn 0 V0) jN kd kc jx:=by
  have h1:=xd p4 p3 p5
  have:=@ch F V0
  simp only[ab]at *;exact h1 (by omega) (by omega) (by omega) (by omega)
 have hp:E.I F (.int 1)=1:=rfl;have g0:E.I F ae=E.I F (fn 0 V0):=by
  simp only[ab]at *;omega
 have g1:=yq p2 g0;have g7:=(kg aQ).trans (wu hk hp (yY rfl) g1 hA.1 hA.2)
 have:=Eq.mp bP hA.2
 have g6:=Eq.mp (vf hk hp) hA.1
 have:=wQ p2 g6
 clear hk g1 hA p2 p3 p4 p5 p9 ax aB aQ
 rw[o7,g7]
 simp only[ab]at *;grind
def awn:=fb (yV::wa::rg::lI::jA::qN::oV::uy::np::(fn 27 (pr (fn 23 (pr (.int 4) (fn 10 (.int 0)))) V0))::V1::ut::ti::na::Br::H3::V65::(.iff oh (fn 182 (pr gh (pr iG (pr jq (pr kQ (pr oW (pr (fn 28 (pr kn (fn 23 (pr (.str ⟨#[]⟩) (fn 23 (pr (.int 1) (fn 23 (pr (.int 0) (fn 23 (pr (.int 0) (fn 23 (pr (.int 0) (fn 23 (pr (.int 0) (fn 23 (pr (.int 0) (fn 23 (pr (.int 0) (fn 23 (pr (.int 0) (fn 23 (pr (.int 0) (fn 23 (pr (.int 0) (fn 23 (pr (fn 30 (.int 0)) (fn 23 (pr (fn 30 (.int 0)) (fn 23 (pr (.int 0) (fn 23 (pr (.str ⟨#[]⟩) (fn 23 (pr (.int 1) (fn 23 (pr (.int 0) (fn 23 (pr (.int 0) (fn 23 (pr (.int 0) (fn 23 (pr (.int 0) (fn 23 (pr (.int 0) (fn 23 (pr (.int 1) (fn 23 (pr (.int 0) (fn 23 (pr (.int 0) (fn 23 (pr (.int 0) (fn 23 (pr (fn 30 (.int 0)) (fn 23 (pr (fn 30 (.int 0)) (fn 23 (pr (.int 0) (fn 23 (pr (.str ⟨#[]⟩) (fn 23 (pr (.int 1) (fn 23 (pr (.int 0) (fn 23 (pr (.int 0) (fn 23 (pr (.int 0) (fn 23 (pr (.int 0) (fn 23 (pr (.int 0) (fn 23 (pr (.int 2) (fn 23 (pr (.int 0) (fn 23 (pr (.int 0) (fn 23 (pr (.int 0) (fn 23 (pr (fn 30 (.int 0)) (fn 23 (pr (fn 30 (.int 0)) (fn 23 (pr (.int 0) (fn 23 (pr (.str ⟨#[]⟩) (fn 23 (pr (.int 1) (fn 23 (pr (.int 0) (fn 23 (pr (.int 0) (fn 23 (pr (.int 0) (fn 23 (pr (.int 0) (fn 23 (pr (.int 0) (fn 23 (pr (.int 3) (fn 23 (pr (.int 0) (fn 23 (pr (.int 0) (fn 23 (pr (.int 0) (fn 23 (pr (fn 30 (.int 0)) (fn 23 (pr (fn 30 (.int 0)) (fn 23 (pr (.int 0) (fn 10 (.int 0)))))))))))))))))))))))))))))))))))))))))))))))))))))))))))))))))))))))))))))))))))))))))))))))))))))))))))))))))))) sX))))))))::[(.not (cmp .lss bG kQ))]) (.iff oh (.not (cmp .lss (.ar .sub .i64 (.ar .add .i64 (.ar .sub .i64 (.ar .add .i64 (.ar .sub .i64 (.ar .add .i64 (.ar .sub .i64 (.ar .add .i64 (.int 0) bu) gh) bw) iG) bD) jq) bG) kQ) oW)))<|vk fun F p0 p1 p2 p3 p4 p5 p6 p7 p8 p9 ao av ax aB aC aE aL aQ bb=>by
 have hA:=Eq.mp (ci _ _ _) (Eq.mp (kg ax) aB);have hk:k9 F aa aZ i5 V0 (fn 0 V0) jN kd kc jx:=by
  have h1:=xd p4 p3 p5
  have:=@ch F V0
  simp only[ab]at *;exact h1 (by omega) (by omega) (by omega) (by omega)
 have hp:E.I F (.int 1)=1:=rfl;have g0:E.I F ae=E.I F (fn 0 V0):=by
  simp only[ab]at *;omega
 have g1:=yq p2 g0;have g7:=(kg aQ).trans (wu hk hp (yY rfl) g1 hA.1 hA.2)
 have:=Eq.mp bP hA.2
 have g6:=Eq.mp (vf hk hp) hA.1
 have:=wQ p2 g6
 have:=@bz F (.ar .add .i64 (.ar .sub .i64 (.ar .add .i64 (.ar .sub .i64 (.ar .add .i64 (.ar .sub .i64 (.ar .add .i64 (.int 0) bu) gh) bw) iG) bD) jq) bG) kQ
 have:=@aA F (.ar .sub .i64 (.ar .add .i64 (.ar .sub .i64 (.ar .add .i64 (.ar .sub .i64 (.ar .add .i64 (.int 0) bu) gh) bw) iG) bD) jq) bG
 have:=@bz F (.ar .add .i64 (.ar .sub .i64 (.ar .add .i64 (.ar .sub .i64 (.ar .add .i64 (.int 0) bu) gh) bw) iG) bD) jq
 have:=@aA F (.ar .sub .i64 (.ar .add .i64 (.ar .sub .i64 (.ar .add .i64 (.int 0) bu) gh) bw) iG) bD
 have:=@bz F (.ar .add .i64 (.ar .sub .i64 (.ar .add .i64 (.int 0) bu) gh) bw) iG
 have:=@aA F (.ar .sub .i64 (.ar .add .i64 (.int 0) bu) gh) bw
 have:=@bz F (.ar .add .i64 (.int 0) bu) gh
 have:=@aA F (.int 0) bu
 clear hk g1 hA p2 p3 p4 p5 p9 ax aB aQ
 rw[Pp,g7]
 simp only[ab]at *;grind
def aAx:=fb (yV::wa::rg::lI::jA::qN::oV::uy::np::(fn 27 (pr (fn 23 (pr (.int 4) (fn 10 (.int 0)))) V0))::V1::ut::ti::na::Br::H3::V65::(.iff oh (fn 182 (pr gh (pr iG (pr jq (pr kQ (pr oW (pr (fn 28 (pr kn (fn 23 (pr (.str ⟨#[]⟩) (fn 23 (pr (.int 1) (fn 23 (pr (.int 0) (fn 23 (pr (.int 0) (fn 23 (pr (.int 0) (fn 23 (pr (.int 0) (fn 23 (pr (.int 0) (fn 23 (pr (.int 0) (fn 23 (pr (.int 0) (fn 23 (pr (.int 0) (fn 23 (pr (.int 0) (fn 23 (pr (fn 30 (.int 0)) (fn 23 (pr (fn 30 (.int 0)) (fn 23 (pr (.int 0) (fn 23 (pr (.str ⟨#[]⟩) (fn 23 (pr (.int 1) (fn 23 (pr (.int 0) (fn 23 (pr (.int 0) (fn 23 (pr (.int 0) (fn 23 (pr (.int 0) (fn 23 (pr (.int 0) (fn 23 (pr (.int 1) (fn 23 (pr (.int 0) (fn 23 (pr (.int 0) (fn 23 (pr (.int 0) (fn 23 (pr (fn 30 (.int 0)) (fn 23 (pr (fn 30 (.int 0)) (fn 23 (pr (.int 0) (fn 23 (pr (.str ⟨#[]⟩) (fn 23 (pr (.int 1) (fn 23 (pr (.int 0) (fn 23 (pr (.int 0) (fn 23 (pr (.int 0) (fn 23 (pr (.int 0) (fn 23 (pr (.int 0) (fn 23 (pr (.int 2) (fn 23 (pr (.int 0) (fn 23 (pr (.int 0) (fn 23 (pr (.int 0) (fn 23 (pr (fn 30 (.int 0)) (fn 23 (pr (fn 30 (.int 0)) (fn 23 (pr (.int 0) (fn 23 (pr (.str ⟨#[]⟩) (fn 23 (pr (.int 1) (fn 23 (pr (.int 0) (fn 23 (pr (.int 0) (fn 23 (pr (.int 0) (fn 23 (pr (.int 0) (fn 23 (pr (.int 0) (fn 23 (pr (.int 3) (fn 23 (pr (.int 0) (fn 23 (pr (.int 0) (fn 23 (pr (.int 0) (fn 23 (pr (fn 30 (.int 0)) (fn 23 (pr (fn 30 (.int 0)) (fn 23 (pr (.int 0) (fn 10 (.int 0)))))))))))))))))))))))))))))))))))))))))))))))))))))))))))))))))))))))))))))))))))))))))))))))))))))))))))))))))))) sX))))))))::[(cmp .lss bG kQ)]) wC<|vk fun F p0 p1 p2 p3 p4 p5 p6 p7 p8 p9 ao av ax aB aC aE aL aQ bb=>by
 have hA:=Eq.mp (ci _ _ _) (Eq.mp (kg ax) aB);have hk:k9 F aa aZ i5 V0 (fn 0 V0) jN kd kc jx:=by
  have h1:=xd p4 p3 p5
  have:=@ch F V0
  simp only[ab]at *;exact h1 (by omega) (by omega) (by omega) (by omega)
 have hp:E.I F (.int 1)=1:=rfl;have g0:E.I F ae=E.I F (fn 0 V0):=by
  simp only[ab]at *;omega
 have g1:=yq p2 g0;have g7:=(kg aQ).trans (wu hk hp (yY rfl) g1 hA.1 hA.2)
 have:=Eq.mp bP hA.2
 have g6:=Eq.mp (vf hk hp) hA.1
 have:=wQ p2 g6
 clear hk g1 hA p2 p3 p4 p5 p9 ax aB aQ
 rw[o7,g7]
 simp only[ab]at *;grind
def avb:=fb Jj (.not (cmp .lss (fn 120 (pr (fn 23 (pr (fn 28 (pr (pr aM aK) aZ)) (fn 23 (pr (fn 1 (pr aa (.int 1))) (fn 23 (pr (fn 1 (pr aa (.int 2))) (fn 23 (pr (fn 1 (pr aa (.int 3))) (fn 23 (pr (fn 1 (pr aa (.int 4))) (fn 23 (pr (fn 1 (pr aa (.int 5))) (fn 23 (pr (fn 1 (pr aa (.int 6))) (fn 23 (pr (fn 1 (pr aa (.int 7))) (fn 23 (pr (fn 1 (pr aa (.int 8))) (fn 23 (pr (fn 1 (pr aa (.int 9))) (fn 23 (pr (fn 1 (pr aa (.int 10))) (fn 23 (pr (fn 1 (pr aa (.int 11))) (fn 23 (pr (fn 1 (pr aa (.int 12))) (fn 23 (pr (fn 1 (pr aa (.int 13))) (fn 23 (pr (fn 1 (pr aa (.int 14))) (fn 23 (pr (fn 1 (pr aa (.int 15))) (fn 23 (pr (fn 1 (pr aa (.int 16))) (fn 23 (pr (fn 1 (pr aa (.int 17))) (fn 23 (pr (fn 1 (pr aa (.int 18))) (fn 23 (pr (fn 1 (pr aa (.int 19))) (fn 23 (pr (fn 1 (pr aa (.int 20))) (fn 23 (pr (fn 1 (pr aa (.int 21))) (fn 23 (pr (fn 1 (pr aa (.int 22))) (fn 23 (pr (fn 1 (pr aa (.int 23))) (fn 23 (pr (fn 1 (pr aa (.int 24))) (fn 23 (pr (fn 1 (pr aa (.int 25))) (fn 23 (pr (fn 1 (pr aa (.int 26))) (fn 23 (pr (fn 1 (pr aa (.int 27))) (fn 23 (pr (fn 1 (pr aa (.int 28))) (fn 23 (pr (fn 1 (pr aa (.int 29))) (fn 23 (pr (fn 1 (pr aa (.int 30))) (fn 23 (pr (fn 1 (pr aa (.int 31))) (fn 23 (pr (fn 1 (pr aa (.int 32))) (fn 23 (pr (fn 1 (pr aa (.int 33))) (fn 23 (pr (fn 1 (pr aa (.int 34))) (fn 23 (pr (fn 1 (pr aa (.int 35))) (fn 23 (pr (fn 1 (pr aa (.int 36))) (fn 23 (pr (fn 1 (pr aa (.int 37))) (fn 10 (.int 0)))))))))))))))))))))))))))))))))))))))))))))))))))))))))))))))))))))))))))))) (pr (.ar .add .i64 ae (.int 1)) (fn 9 (pr (fn 28 (pr (pr aM aK) aZ)) (.int 12)))))) (.int 0)))<|aF fun F p0 p1 p2 p3=>by
 have:=@aA F ae (.int 1)
 have:=@qz _ _ _ _ (pr aM aK) _ _ _ p1
 have hz3:0<=E.I F ae->E.I F ae<E.I F (fn 0 V0)->E.I F (.ar .add .i64 ae (.int 1))=E.I F ae+1->E.I F (fn 9 (pr (fn 28 (pr (pr aM aK) aZ)) (.int 12)))=E.I F (fn 0 V0)->E.I F (fn 120 (pr (fn 23 (pr (fn 28 (pr (pr aM aK) aZ)) (fn 23 (pr (fn 1 (pr aa (.int 1))) (fn 23 (pr (fn 1 (pr aa (.int 2))) (fn 23 (pr (fn 1 (pr aa (.int 3))) (fn 23 (pr (fn 1 (pr aa (.int 4))) (fn 23 (pr (fn 1 (pr aa (.int 5))) (fn 23 (pr (fn 1 (pr aa (.int 6))) (fn 23 (pr (fn 1 (pr aa (.int 7))) (fn 23 (pr (fn 1 (pr aa (.int 8))) (fn 23 (pr (fn 1 (pr aa (.int 9))) (fn 23 (pr (fn 1 (pr aa (.int 10))) (fn 23 (pr (fn 1 (pr aa (.int 11))) (fn 23 (pr (fn 1 (pr aa (.int 12))) (fn 23 (pr (fn 1 (pr aa (.int 13))) (fn 23 (pr (fn 1 (pr aa (.int 14))) (fn 23 (pr (fn 1 (pr aa (.int 15))) (fn 23 (pr (fn 1 (pr aa (.int 16))) (fn 23 (pr (fn 1 (pr aa (.int 17))) (fn 23 (pr (fn 1 (pr aa (.int 18))) (fn 23 (pr (fn 1 (pr aa (.int 19))) (fn 23 (pr (fn 1 (pr aa (.int 20))) (fn 23 (pr (fn 1 (pr aa (.int 21))) (fn 23 (pr (fn 1 (pr aa (.int 22))) (fn 23 (pr (fn 1 (pr aa (.int 23))) (fn 23 (pr (fn 1 (pr aa (.int 24))) (fn 23 (pr (fn 1 (pr aa (.int 25))) (fn 23 (pr (fn 1 (pr aa (.int 26))) (fn 23 (pr (fn 1 (pr aa (.int 27))) (fn 23 (pr (fn 1 (pr aa (.int 28))) (fn 23 (pr (fn 1 (pr aa (.int 29))) (fn 23 (pr (fn 1 (pr aa (.int 30))) (fn 23 (pr (fn 1 (pr aa (.int 31))) (fn 23 (pr (fn 1 (pr aa (.int 32))) (fn 23 (pr (fn 1 (pr aa (.int 33))) (fn 23 (pr (fn 1 (pr aa (.int 34))) (fn 23 (pr (fn 1 (pr aa (.int 35))) (fn 23 (pr (fn 1 (pr aa (.int 36))) (fn 23 (pr (fn 1 (pr aa (.int 37))) (fn 10 (.int 0)))))))))))))))))))))))))))))))))))))))))))))))))))))))))))))))))))))))))))))) (pr (.ar .add .i64 ae (.int 1)) (fn 9 (pr (fn 28 (pr (pr aM aK) aZ)) (.int 12))))))=E.I F ae:=@wY _ aa _ _ _ _ _ _ (pr aM aK) _ _ _ p1
 have:=@zt _ _ _ _ ae (pr aM aK) _ _ _ p1
 have:=@fW F (.int 0) ae (fn 28 (pr (pr aM aK) aZ)) (fn 120 (pr (fn 23 (pr (fn 28 (pr (pr aM aK) aZ)) (fn 23 (pr (fn 1 (pr aa (.int 1))) (fn 23 (pr (fn 1 (pr aa (.int 2))) (fn 23 (pr (fn 1 (pr aa (.int 3))) (fn 23 (pr (fn 1 (pr aa (.int 4))) (fn 23 (pr (fn 1 (pr aa (.int 5))) (fn 23 (pr (fn 1 (pr aa (.int 6))) (fn 23 (pr (fn 1 (pr aa (.int 7))) (fn 23 (pr (fn 1 (pr aa (.int 8))) (fn 23 (pr (fn 1 (pr aa (.int 9))) (fn 23 (pr (fn 1 (pr aa (.int 10))) (fn 23 (pr (fn 1 (pr aa (.int 11))) (fn 23 (pr (fn 1 (pr aa (.int 12))) (fn 23 (pr (fn 1 (pr aa (.int 13))) (fn 23 (pr (fn 1 (pr aa (.int 14))) (fn 23 (pr (fn 1 (pr aa (.int 15))) (fn 23 (pr (fn 1 (pr aa (.int 16))) (fn 23 (pr (fn 1 (pr aa (.int 17))) (fn 23 (pr (fn 1 (pr aa (.int 18))) (fn 23 (pr (fn 1 (pr aa (.int 19))) (fn 23 (pr (fn 1 (pr aa (.int 20))) (fn 23 (pr (fn 1 (pr aa (.int 21))) (fn 23 (pr (fn 1 (pr aa (.int 22))) (fn 23 (pr (fn 1 (pr aa (.int 23))) (fn 23 (pr (fn 1 (pr aa (.int 24))) (fn 23 (pr (fn 1 (pr aa (.int 25))) (fn 23 (pr (fn 1 (pr aa (.int 26))) (fn 23 (pr (fn 1 (pr aa (.int 27))) (fn 23 (pr (fn 1 (pr aa (.int 28))) (fn 23 (pr (fn 1 (pr aa (.int 29))) (fn 23 (pr (fn 1 (pr aa (.int 30))) (fn 23 (pr (fn 1 (pr aa (.int 31))) (fn 23 (pr (fn 1 (pr aa (.int 32))) (fn 23 (pr (fn 1 (pr aa (.int 33))) (fn 23 (pr (fn 1 (pr aa (.int 34))) (fn 23 (pr (fn 1 (pr aa (.int 35))) (fn 23 (pr (fn 1 (pr aa (.int 36))) (fn 23 (pr (fn 1 (pr aa (.int 37))) (fn 10 (.int 0)))))))))))))))))))))))))))))))))))))))))))))))))))))))))))))))))))))))))))))) (pr (.ar .add .i64 ae (.int 1)) (fn 9 (pr (fn 28 (pr (pr aM aK) aZ)) (.int 12))))))
 have:=@fW F (.int 2) ae (fn 28 (pr (pr aM aK) aZ)) (fn 120 (pr (fn 23 (pr (fn 28 (pr (pr aM aK) aZ)) (fn 23 (pr (fn 1 (pr aa (.int 1))) (fn 23 (pr (fn 1 (pr aa (.int 2))) (fn 23 (pr (fn 1 (pr aa (.int 3))) (fn 23 (pr (fn 1 (pr aa (.int 4))) (fn 23 (pr (fn 1 (pr aa (.int 5))) (fn 23 (pr (fn 1 (pr aa (.int 6))) (fn 23 (pr (fn 1 (pr aa (.int 7))) (fn 23 (pr (fn 1 (pr aa (.int 8))) (fn 23 (pr (fn 1 (pr aa (.int 9))) (fn 23 (pr (fn 1 (pr aa (.int 10))) (fn 23 (pr (fn 1 (pr aa (.int 11))) (fn 23 (pr (fn 1 (pr aa (.int 12))) (fn 23 (pr (fn 1 (pr aa (.int 13))) (fn 23 (pr (fn 1 (pr aa (.int 14))) (fn 23 (pr (fn 1 (pr aa (.int 15))) (fn 23 (pr (fn 1 (pr aa (.int 16))) (fn 23 (pr (fn 1 (pr aa (.int 17))) (fn 23 (pr (fn 1 (pr aa (.int 18))) (fn 23 (pr (fn 1 (pr aa (.int 19))) (fn 23 (pr (fn 1 (pr aa (.int 20))) (fn 23 (pr (fn 1 (pr aa (.int 21))) (fn 23 (pr (fn 1 (pr aa (.int 22))) (fn 23 (pr (fn 1 (pr aa (.int 23))) (fn 23 (pr (fn 1 (pr aa (.int 24))) (fn 23 (pr (fn 1 (pr aa (.int 25))) (fn 23 (pr (fn 1 (pr aa (.int 26))) (fn 23 (pr (fn 1 (pr aa (.int 27))) (fn 23 (pr (fn 1 (pr aa (.int 28))) (fn 23 (pr (fn 1 (pr aa (.int 29))) (fn 23 (pr (fn 1 (pr aa (.int 30))) (fn 23 (pr (fn 1 (pr aa (.int 31))) (fn 23 (pr (fn 1 (pr aa (.int 32))) (fn 23 (pr (fn 1 (pr aa (.int 33))) (fn 23 (pr (fn 1 (pr aa (.int 34))) (fn 23 (pr (fn 1 (pr aa (.int 35))) (fn 23 (pr (fn 1 (pr aa (.int 36))) (fn 23 (pr (fn 1 (pr aa (.int 37))) (fn 10 (.int 0)))))))))))))))))))))))))))))))))))))))))))))))))))))))))))))))))))))))))))))) (pr (.ar .add .i64 ae (.int 1)) (fn 9 (pr (fn 28 (pr (pr aM aK) aZ)) (.int 12))))))
 try simp only[ab]at *
 have:=@ch F V0
 first | omega | grind
def amH:=fb Jj (cmp .eql (fn 1 (pr (fn 28 (pr (pr aM aK) aZ)) (fn 6 (pr (fn 8 (pr (fn 120 (pr (fn 23 (pr (fn 28 (pr (pr aM aK) aZ)) (fn 23 (pr (fn 1 (pr aa (.int 1))) (fn 23 (pr (fn 1 (pr aa (.int 2))) (fn 23 (pr (fn 1 (pr aa (.int 3))) (fn 23 (pr (fn 1 (pr aa (.int 4))) (fn 23 (pr (fn 1 (pr aa (.int 5))) (fn 23 (pr (fn 1 (pr aa (.int 6))) (fn 23 (pr (fn 1 (pr aa (.int 7))) (fn 23 (pr (fn 1 (pr aa (.int 8))) (fn 23 (pr (fn 1 (pr aa (.int 9))) (fn 23 (pr (fn 1 (pr aa (.int 10))) (fn 23 (pr (fn 1 (pr aa (.int 11))) (fn 23 (pr (fn 1 (pr aa (.int 12))) (fn 23 (pr (fn 1 (pr aa (.int 13))) (fn 23 (pr (fn 1 (pr aa (.int 14))) (fn 23 (pr (fn 1 (pr aa (.int 15))) (fn 23 (pr (fn 1 (pr aa (.int 16))) (fn 23 (pr (fn 1 (pr aa (.int 17))) (fn 23 (pr (fn 1 (pr aa (.int 18))) (fn 23 (pr (fn 1 (pr aa (.int 19))) (fn 23 (pr (fn 1 (pr aa (.int 20))) (fn 23 (pr (fn 1 (pr aa (.int 21))) (fn 23 (pr (fn 1 (pr aa (.int 22))) (fn 23 (pr (fn 1 (pr aa (.int 23))) (fn 23 (pr (fn 1 (pr aa (.int 24))) (fn 23 (pr (fn 1 (pr aa (.int 25))) (fn 23 (pr (fn 1 (pr aa (.int 26))) (fn 23 (pr (fn 1 (pr aa (.int 27))) (fn 23 (pr (fn 1 (pr aa (.int 28))) (fn 23 (pr (fn 1 (pr aa (.int 29))) (fn 23 (pr (fn 1 (pr aa (.int 30))) (fn 23 (pr (fn 1 (pr aa (.int 31))) (fn 23 (pr (fn 1 (pr aa (.int 32))) (fn 23 (pr (fn 1 (pr aa (.int 33))) (fn 23 (pr (fn 1 (pr aa (.int 34))) (fn 23 (pr (fn 1 (pr aa (.int 35))) (fn 23 (pr (fn 1 (pr aa (.int 36))) (fn 23 (pr (fn 1 (pr aa (.int 37))) (fn 10 (.int 0)))))))))))))))))))))))))))))))))))))))))))))))))))))))))))))))))))))))))))))) (pr (.ar .add .i64 ae (.int 1)) (fn 9 (pr (fn 28 (pr (pr aM aK) aZ)) (.int 12)))))) (.int 12))) (.int 0))))) (.ar .add .i64 ae (.int 1)))<|aF fun F p0 p1 p2 p3=>by
 have:=@aA F ae (.int 1)
 have:=@qz _ _ _ _ (pr aM aK) _ _ _ p1
 have hz3:0<=E.I F ae->E.I F ae<E.I F (fn 0 V0)->E.I F (.ar .add .i64 ae (.int 1))=E.I F ae+1->E.I F (fn 9 (pr (fn 28 (pr (pr aM aK) aZ)) (.int 12)))=E.I F (fn 0 V0)->E.I F (fn 120 (pr (fn 23 (pr (fn 28 (pr (pr aM aK) aZ)) (fn 23 (pr (fn 1 (pr aa (.int 1))) (fn 23 (pr (fn 1 (pr aa (.int 2))) (fn 23 (pr (fn 1 (pr aa (.int 3))) (fn 23 (pr (fn 1 (pr aa (.int 4))) (fn 23 (pr (fn 1 (pr aa (.int 5))) (fn 23 (pr (fn 1 (pr aa (.int 6))) (fn 23 (pr (fn 1 (pr aa (.int 7))) (fn 23 (pr (fn 1 (pr aa (.int 8))) (fn 23 (pr (fn 1 (pr aa (.int 9))) (fn 23 (pr (fn 1 (pr aa (.int 10))) (fn 23 (pr (fn 1 (pr aa (.int 11))) (fn 23 (pr (fn 1 (pr aa (.int 12))) (fn 23 (pr (fn 1 (pr aa (.int 13))) (fn 23 (pr (fn 1 (pr aa (.int 14))) (fn 23 (pr (fn 1 (pr aa (.int 15))) (fn 23 (pr (fn 1 (pr aa (.int 16))) (fn 23 (pr (fn 1 (pr aa (.int 17))) (fn 23 (pr (fn 1 (pr aa (.int 18))) (fn 23 (pr (fn 1 (pr aa (.int 19))) (fn 23 (pr (fn 1 (pr aa (.int 20))) (fn 23 (pr (fn 1 (pr aa (.int 21))) (fn 23 (pr (fn 1 (pr aa (.int 22))) (fn 23 (pr (fn 1 (pr aa (.int 23))) (fn 23 (pr (fn 1 (pr aa (.int 24))) (fn 23 (pr (fn 1 (pr aa (.int 25))) (fn 23 (pr (fn 1 (pr aa (.int 26))) (fn 23 (pr (fn 1 (pr aa (.int 27))) (fn 23 (pr (fn 1 (pr aa (.int 28))) (fn 23 (pr (fn 1 (pr aa (.int 29))) (fn 23 (pr (fn 1 (pr aa (.int 30))) (fn 23 (pr (fn 1 (pr aa (.int 31))) (fn 23 (pr (fn 1 (pr aa (.int 32))) (fn 23 (pr (fn 1 (pr aa (.int 33))) (fn 23 (pr (fn 1 (pr aa (.int 34))) (fn 23 (pr (fn 1 (pr aa (.int 35))) (fn 23 (pr (fn 1 (pr aa (.int 36))) (fn 23 (pr (fn 1 (pr aa (.int 37))) (fn 10 (.int 0)))))))))))))))))))))))))))))))))))))))))))))))))))))))))))))))))))))))))))))) (pr (.ar .add .i64 ae (.int 1)) (fn 9 (pr (fn 28 (pr (pr aM aK) aZ)) (.int 12))))))=E.I F ae:=@wY _ aa _ _ _ _ _ _ (pr aM aK) _ _ _ p1
 have:=@zt _ _ _ _ ae (pr aM aK) _ _ _ p1
 have:=@fW F (.int 0) ae (fn 28 (pr (pr aM aK) aZ)) (fn 120 (pr (fn 23 (pr (fn 28 (pr (pr aM aK) aZ)) (fn 23 (pr (fn 1 (pr aa (.int 1))) (fn 23 (pr (fn 1 (pr aa (.int 2))) (fn 23 (pr (fn 1 (pr aa (.int 3))) (fn 23 (pr (fn 1 (pr aa (.int 4))) (fn 23 (pr (fn 1 (pr aa (.int 5))) (fn 23 (pr (fn 1 (pr aa (.int 6))) (fn 23 (pr (fn 1 (pr aa (.int 7))) (fn 23 (pr (fn 1 (pr aa (.int 8))) (fn 23 (pr (fn 1 (pr aa (.int 9))) (fn 23 (pr (fn 1 (pr aa (.int 10))) (fn 23 (pr (fn 1 (pr aa (.int 11))) (fn 23 (pr (fn 1 (pr aa (.int 12))) (fn 23 (pr (fn 1 (pr aa (.int 13))) (fn 23 (pr (fn 1 (pr aa (.int 14))) (fn 23 (pr (fn 1 (pr aa (.int 15))) (fn 23 (pr (fn 1 (pr aa (.int 16))) (fn 23 (pr (fn 1 (pr aa (.int 17))) (fn 23 (pr (fn 1 (pr aa (.int 18))) (fn 23 (pr (fn 1 (pr aa (.int 19))) (fn 23 (pr (fn 1 (pr aa (.int 20))) (fn 23 (pr (fn 1 (pr aa (.int 21))) (fn 23 (pr (fn 1 (pr aa (.int 22))) (fn 23 (pr (fn 1 (pr aa (.int 23))) (fn 23 (pr (fn 1 (pr aa (.int 24))) (fn 23 (pr (fn 1 (pr aa (.int 25))) (fn 23 (pr (fn 1 (pr aa (.int 26))) (fn 23 (pr (fn 1 (pr aa (.int 27))) (fn 23 (pr (fn 1 (pr aa (.int 28))) (fn 23 (pr (fn 1 (pr aa (.int 29))) (fn 23 (pr (fn 1 (pr aa (.int 30))) (fn 23 (pr (fn 1 (pr aa (.int 31))) (fn 23 (pr (fn 1 (pr aa (.int 32))) (fn 23 (pr (fn 1 (pr aa (.int 33))) (fn 23 (pr (fn 1 (pr aa (.int 34))) (fn 23 (pr (fn 1 (pr aa (.int 35))) (fn 23 (pr (fn 1 (pr aa (.int 36))) (fn 23 (pr (fn 1 (pr aa (.int 37))) (fn 10 (.int 0)))))))))))))))))))))))))))))))))))))))))))))))))))))))))))))))))))))))))))))) (pr (.ar .add .i64 ae (.int 1)) (fn 9 (pr (fn 28 (pr (pr aM aK) aZ)) (.int 12))))))
 have:=@fW F (.int 2) ae (fn 28 (pr (pr aM aK) aZ)) (fn 120 (pr (fn 23 (pr (fn 28 (pr (pr aM aK) aZ)) (fn 23 (pr (fn 1 (pr aa (.int 1))) (fn 23 (pr (fn 1 (pr aa (.int 2))) (fn 23 (pr (fn 1 (pr aa (.int 3))) (fn 23 (pr (fn 1 (pr aa (.int 4))) (fn 23 (pr (fn 1 (pr aa (.int 5))) (fn 23 (pr (fn 1 (pr aa (.int 6))) (fn 23 (pr (fn 1 (pr aa (.int 7))) (fn 23 (pr (fn 1 (pr aa (.int 8))) (fn 23 (pr (fn 1 (pr aa (.int 9))) (fn 23 (pr (fn 1 (pr aa (.int 10))) (fn 23 (pr (fn 1 (pr aa (.int 11))) (fn 23 (pr (fn 1 (pr aa (.int 12))) (fn 23 (pr (fn 1 (pr aa (.int 13))) (fn 23 (pr (fn 1 (pr aa (.int 14))) (fn 23 (pr (fn 1 (pr aa (.int 15))) (fn 23 (pr (fn 1 (pr aa (.int 16))) (fn 23 (pr (fn 1 (pr aa (.int 17))) (fn 23 (pr (fn 1 (pr aa (.int 18))) (fn 23 (pr (fn 1 (pr aa (.int 19))) (fn 23 (pr (fn 1 (pr aa (.int 20))) (fn 23 (pr (fn 1 (pr aa (.int 21))) (fn 23 (pr (fn 1 (pr aa (.int 22))) (fn 23 (pr (fn 1 (pr aa (.int 23))) (fn 23 (pr (fn 1 (pr aa (.int 24))) (fn 23 (pr (fn 1 (pr aa (.int 25))) (fn 23 (pr (fn 1 (pr aa (.int 26))) (fn 23 (pr (fn 1 (pr aa (.int 27))) (fn 23 (pr (fn 1 (pr aa (.int 28))) (fn 23 (pr (fn 1 (pr aa (.int 29))) (fn 23 (pr (fn 1 (pr aa (.int 30))) (fn 23 (pr (fn 1 (pr aa (.int 31))) (fn 23 (pr (fn 1 (pr aa (.int 32))) (fn 23 (pr (fn 1 (pr aa (.int 33))) (fn 23 (pr (fn 1 (pr aa (.int 34))) (fn 23 (pr (fn 1 (pr aa (.int 35))) (fn 23 (pr (fn 1 (pr aa (.int 36))) (fn 23 (pr (fn 1 (pr aa (.int 37))) (fn 10 (.int 0)))))))))))))))))))))))))))))))))))))))))))))))))))))))))))))))))))))))))))))) (pr (.ar .add .i64 ae (.int 1)) (fn 9 (pr (fn 28 (pr (pr aM aK) aZ)) (.int 12))))))
 try simp only[ab]at *
 have:=@ch F V0
 first | omega | grind
def alg:=fb Jj (cmp .eql (fn 1 (pr (fn 28 (pr (pr aM aK) aZ)) (fn 6 (pr (fn 8 (pr (fn 120 (pr (fn 23 (pr (fn 28 (pr (pr aM aK) aZ)) (fn 23 (pr (fn 1 (pr aa (.int 1))) (fn 23 (pr (fn 1 (pr aa (.int 2))) (fn 23 (pr (fn 1 (pr aa (.int 3))) (fn 23 (pr (fn 1 (pr aa (.int 4))) (fn 23 (pr (fn 1 (pr aa (.int 5))) (fn 23 (pr (fn 1 (pr aa (.int 6))) (fn 23 (pr (fn 1 (pr aa (.int 7))) (fn 23 (pr (fn 1 (pr aa (.int 8))) (fn 23 (pr (fn 1 (pr aa (.int 9))) (fn 23 (pr (fn 1 (pr aa (.int 10))) (fn 23 (pr (fn 1 (pr aa (.int 11))) (fn 23 (pr (fn 1 (pr aa (.int 12))) (fn 23 (pr (fn 1 (pr aa (.int 13))) (fn 23 (pr (fn 1 (pr aa (.int 14))) (fn 23 (pr (fn 1 (pr aa (.int 15))) (fn 23 (pr (fn 1 (pr aa (.int 16))) (fn 23 (pr (fn 1 (pr aa (.int 17))) (fn 23 (pr (fn 1 (pr aa (.int 18))) (fn 23 (pr (fn 1 (pr aa (.int 19))) (fn 23 (pr (fn 1 (pr aa (.int 20))) (fn 23 (pr (fn 1 (pr aa (.int 21))) (fn 23 (pr (fn 1 (pr aa (.int 22))) (fn 23 (pr (fn 1 (pr aa (.int 23))) (fn 23 (pr (fn 1 (pr aa (.int 24))) (fn 23 (pr (fn 1 (pr aa (.int 25))) (fn 23 (pr (fn 1 (pr aa (.int 26))) (fn 23 (pr (fn 1 (pr aa (.int 27))) (fn 23 (pr (fn 1 (pr aa (.int 28))) (fn 23 (pr (fn 1 (pr aa (.int 29))) (fn 23 (pr (fn 1 (pr aa (.int 30))) (fn 23 (pr (fn 1 (pr aa (.int 31))) (fn 23 (pr (fn 1 (pr aa (.int 32))) (fn 23 (pr (fn 1 (pr aa (.int 33))) (fn 23 (pr (fn 1 (pr aa (.int 34))) (fn 23 (pr (fn 1 (pr aa (.int 35))) (fn 23 (pr (fn 1 (pr aa (.int 36))) (fn 23 (pr (fn 1 (pr aa (.int 37))) (fn 10 (.int 0)))))))))))))))))))))))))))))))))))))))))))))))))))))))))))))))))))))))))))))) (pr (.ar .add .i64 ae (.int 1)) (fn 9 (pr (fn 28 (pr (pr aM aK) aZ)) (.int 12)))))) (.int 12))) (.int 2))))) (.int 1))<|aF fun F p0 p1 p2 p3=>by
 have:=@aA F ae (.int 1)
 have:=@qz _ _ _ _ (pr aM aK) _ _ _ p1
 have hz3:0<=E.I F ae->E.I F ae<E.I F (fn 0 V0)->E.I F (.ar .add .i64 ae (.int 1))=E.I F ae+1->E.I F (fn 9 (pr (fn 28 (pr (pr aM aK) aZ)) (.int 12)))=E.I F (fn 0 V0)->E.I F (fn 120 (pr (fn 23 (pr (fn 28 (pr (pr aM aK) aZ)) (fn 23 (pr (fn 1 (pr aa (.int 1))) (fn 23 (pr (fn 1 (pr aa (.int 2))) (fn 23 (pr (fn 1 (pr aa (.int 3))) (fn 23 (pr (fn 1 (pr aa (.int 4))) (fn 23 (pr (fn 1 (pr aa (.int 5))) (fn 23 (pr (fn 1 (pr aa (.int 6))) (fn 23 (pr (fn 1 (pr aa (.int 7))) (fn 23 (pr (fn 1 (pr aa (.int 8))) (fn 23 (pr (fn 1 (pr aa (.int 9))) (fn 23 (pr (fn 1 (pr aa (.int 10))) (fn 23 (pr (fn 1 (pr aa (.int 11))) (fn 23 (pr (fn 1 (pr aa (.int 12))) (fn 23 (pr (fn 1 (pr aa (.int 13))) (fn 23 (pr (fn 1 (pr aa (.int 14))) (fn 23 (pr (fn 1 (pr aa (.int 15))) (fn 23 (pr (fn 1 (pr aa (.int 16))) (fn 23 (pr (fn 1 (pr aa (.int 17))) (fn 23 (pr (fn 1 (pr aa (.int 18))) (fn 23 (pr (fn 1 (pr aa (.int 19))) (fn 23 (pr (fn 1 (pr aa (.int 20))) (fn 23 (pr (fn 1 (pr aa (.int 21))) (fn 23 (pr (fn 1 (pr aa (.int 22))) (fn 23 (pr (fn 1 (pr aa (.int 23))) (fn 23 (pr (fn 1 (pr aa (.int 24))) (fn 23 (pr (fn 1 (pr aa (.int 25))) (fn 23 (pr (fn 1 (pr aa (.int 26))) (fn 23 (pr (fn 1 (pr aa (.int 27))) (fn 23 (pr (fn 1 (pr aa (.int 28))) (fn 23 (pr (fn 1 (pr aa (.int 29))) (fn 23 (pr (fn 1 (pr aa (.int 30))) (fn 23 (pr (fn 1 (pr aa (.int 31))) (fn 23 (pr (fn 1 (pr aa (.int 32))) (fn 23 (pr (fn 1 (pr aa (.int 33))) (fn 23 (pr (fn 1 (pr aa (.int 34))) (fn 23 (pr (fn 1 (pr aa (.int 35))) (fn 23 (pr (fn 1 (pr aa (.int 36))) (fn 23 (pr (fn 1 (pr aa (.int 37))) (fn 10 (.int 0)))))))))))))))))))))))))))))))))))))))))))))))))))))))))))))))))))))))))))))) (pr (.ar .add .i64 ae (.int 1)) (fn 9 (pr (fn 28 (pr (pr aM aK) aZ)) (.int 12))))))=E.I F ae:=@wY _ aa _ _ _ _ _ _ (pr aM aK) _ _ _ p1
 have:=@zt _ _ _ _ ae (pr aM aK) _ _ _ p1
 have:=@fW F (.int 0) ae (fn 28 (pr (pr aM aK) aZ)) (fn 120 (pr (fn 23 (pr (fn 28 (pr (pr aM aK) aZ)) (fn 23 (pr (fn 1 (pr aa (.int 1))) (fn 23 (pr (fn 1 (pr aa (.int 2))) (fn 23 (pr (fn 1 (pr aa (.int 3))) (fn 23 (pr (fn 1 (pr aa (.int 4))) (fn 23 (pr (fn 1 (pr aa (.int 5))) (fn 23 (pr (fn 1 (pr aa (.int 6))) (fn 23 (pr (fn 1 (pr aa (.int 7))) (fn 23 (pr (fn 1 (pr aa (.int 8))) (fn 23 (pr (fn 1 (pr aa (.int 9))) (fn 23 (pr (fn 1 (pr aa (.int 10))) (fn 23 (pr (fn 1 (pr aa (.int 11))) (fn 23 (pr (fn 1 (pr aa (.int 12))) (fn 23 (pr (fn 1 (pr aa (.int 13))) (fn 23 (pr (fn 1 (pr aa (.int 14))) (fn 23 (pr (fn 1 (pr aa (.int 15))) (fn 23 (pr (fn 1 (pr aa (.int 16))) (fn 23 (pr (fn 1 (pr aa (.int 17))) (fn 23 (pr (fn 1 (pr aa (.int 18))) (fn 23 (pr (fn 1 (pr aa (.int 19))) (fn 23 (pr (fn 1 (pr aa (.int 20))) (fn 23 (pr (fn 1 (pr aa (.int 21))) (fn 23 (pr (fn 1 (pr aa (.int 22))) (fn 23 (pr (fn 1 (pr aa (.int 23))) (fn 23 (pr (fn 1 (pr aa (.int 24))) (fn 23 (pr (fn 1 (pr aa (.int 25))) (fn 23 (pr (fn 1 (pr aa (.int 26))) (fn 23 (pr (fn 1 (pr aa (.int 27))) (fn 23 (pr (fn 1 (pr aa (.int 28))) (fn 23 (pr (fn 1 (pr aa (.int 29))) (fn 23 (pr (fn 1 (pr aa (.int 30))) (fn 23 (pr (fn 1 (pr aa (.int 31))) (fn 23 (pr (fn 1 (pr aa (.int 32))) (fn 23 (pr (fn 1 (pr aa (.int 33))) (fn 23 (pr (fn 1 (pr aa (.int 34))) (fn 23 (pr (fn 1 (pr aa (.int 35))) (fn 23 (pr (fn 1 (pr aa (.int 36))) (fn 23 (pr (fn 1 (pr aa (.int 37))) (fn 10 (.int 0)))))))))))))))))))))))))))))))))))))))))))))))))))))))))))))))))))))))))))))) (pr (.ar .add .i64 ae (.int 1)) (fn 9 (pr (fn 28 (pr (pr aM aK) aZ)) (.int 12))))))
 have:=@fW F (.int 2) ae (fn 28 (pr (pr aM aK) aZ)) (fn 120 (pr (fn 23 (pr (fn 28 (pr (pr aM aK) aZ)) (fn 23 (pr (fn 1 (pr aa (.int 1))) (fn 23 (pr (fn 1 (pr aa (.int 2))) (fn 23 (pr (fn 1 (pr aa (.int 3))) (fn 23 (pr (fn 1 (pr aa (.int 4))) (fn 23 (pr (fn 1 (pr aa (.int 5))) (fn 23 (pr (fn 1 (pr aa (.int 6))) (fn 23 (pr (fn 1 (pr aa (.int 7))) (fn 23 (pr (fn 1 (pr aa (.int 8))) (fn 23 (pr (fn 1 (pr aa (.int 9))) (fn 23 (pr (fn 1 (pr aa (.int 10))) (fn 23 (pr (fn 1 (pr aa (.int 11))) (fn 23 (pr (fn 1 (pr aa (.int 12))) (fn 23 (pr (fn 1 (pr aa (.int 13))) (fn 23 (pr (fn 1 (pr aa (.int 14))) (fn 23 (pr (fn 1 (pr aa (.int 15))) (fn 23 (pr (fn 1 (pr aa (.int 16))) (fn 23 (pr (fn 1 (pr aa (.int 17))) (fn 23 (pr (fn 1 (pr aa (.int 18))) (fn 23 (pr (fn 1 (pr aa (.int 19))) (fn 23 (pr (fn 1 (pr aa (.int 20))) (fn 23 (pr (fn 1 (pr aa (.int 21))) (fn 23 (pr (fn 1 (pr aa (.int 22))) (fn 23 (pr (fn 1 (pr aa (.int 23))) (fn 23 (pr (fn 1 (pr aa (.int 24))) (fn 23 (pr (fn 1 (pr aa (.int 25))) (fn 23 (pr (fn 1 (pr aa (.int 26))) (fn 23 (pr (fn 1 (pr aa (.int 27))) (fn 23 (pr (fn 1 (pr aa (.int 28))) (fn 23 (pr (fn 1 (pr aa (.int 29))) (fn 23 (pr (fn 1 (pr aa (.int 30))) (fn 23 (pr (fn 1 (pr aa (.int 31))) (fn 23 (pr (fn 1 (pr aa (.int 32))) (fn 23 (pr (fn 1 (pr aa (.int 33))) (fn 23 (pr (fn 1 (pr aa (.int 34))) (fn 23 (pr (fn 1 (pr aa (.int 35))) (fn 23 (pr (fn 1 (pr aa (.int 36))) (fn 23 (pr (fn 1 (pr aa (.int 37))) (fn 10 (.int 0)))))))))))))))))))))))))))))))))))))))))))))))))))))))))))))))))))))))))))))) (pr (.ar .add .i64 ae (.int 1)) (fn 9 (pr (fn 28 (pr (pr aM aK) aZ)) (.int 12))))))
 try simp only[ab]at *
 have:=@ch F V0
 first | omega | grind
def aF4:=fb (lI::dS::V69) (cmp .lss ae E3)<|aF fun F p0 p1 p2 p3=>by
 have:=@qz _ _ _ _ (pr aM aK) _ _ _ p0
 try simp only[ab]at *
 have:=@ch F V0
 first | omega | grind
def ayS:=fb (dS::pp) (.not (cmp .lss (.ar .add .i64 ae (.int 1)) (.int 0)))<|am fun F p0 p1 p2=>by
 try simp only[ab,aj]at *
 have:=@ch F V0
 obtain⟨a2,ea2,qa2⟩:=ah ((E.I F ae)+(1))
 try simp only[ea2]at *
 omega
def azW:=fb ([qN,dS,lE,rr,BU,oV,np]) (cmp .eql (fn 1 (pr i5 ae)) (.int 3))<|ck fun F p0 p1 p2 p3 p4 p5 p6=>by
 have:=@ji _ _ _ ae _ p0
 try simp only[ab]at *
 first | omega | grind
def aGd:=fb ([dS,np]) (.not (cmp .lss (fn 0 V0) (.ar .add .i64 ae (.int 1))))<|au fun F p0 p1=>by
 try simp only[ab,aj]at *
 obtain⟨a2,ea2,qa2⟩:=ah ((E.I F ae)+(1))
 try simp only[ea2]at *
 omega
def aDy:=fb (dS::(fn 209 (pr na (pr (fn 23 (pr (fn 28 (pr (pr aM aK) aZ)) (fn 23 (pr (fn 1 (pr aa (.int 1))) (fn 23 (pr (fn 1 (pr aa (.int 2))) (fn 23 (pr (fn 1 (pr aa (.int 3))) (fn 23 (pr (fn 1 (pr aa (.int 4))) (fn 23 (pr (fn 1 (pr aa (.int 5))) (fn 23 (pr (fn 1 (pr aa (.int 6))) (fn 23 (pr (fn 1 (pr aa (.int 7))) (fn 23 (pr (fn 1 (pr aa (.int 8))) (fn 23 (pr (fn 1 (pr aa (.int 9))) (fn 23 (pr (fn 1 (pr aa (.int 10))) (fn 23 (pr (fn 1 (pr aa (.int 11))) (fn 23 (pr (fn 1 (pr aa (.int 12))) (fn 23 (pr (fn 1 (pr aa (.int 13))) (fn 23 (pr (fn 1 (pr aa (.int 14))) (fn 23 (pr (fn 1 (pr aa (.int 15))) (fn 23 (pr (fn 1 (pr aa (.int 16))) (fn 23 (pr (fn 1 (pr aa (.int 17))) (fn 23 (pr (fn 1 (pr aa (.int 18))) (fn 23 (pr (fn 1 (pr aa (.int 19))) (fn 23 (pr (fn 1 (pr aa (.int 20))) (fn 23 (pr (fn 1 (pr aa (.int 21))) (fn 23 (pr (fn 1 (pr aa (.int 22))) (fn 23 (pr (fn 1 (pr aa (.int 23))) (fn 23 (pr (fn 1 (pr aa (.int 24))) (fn 23 (pr (fn 1 (pr aa (.int 25))) (fn 23 (pr (fn 1 (pr aa (.int 26))) (fn 23 (pr (fn 1 (pr aa (.int 27))) (fn 23 (pr (fn 1 (pr aa (.int 28))) (fn 23 (pr (fn 1 (pr aa (.int 29))) (fn 23 (pr (fn 1 (pr aa (.int 30))) (fn 23 (pr (fn 1 (pr aa (.int 31))) (fn 23 (pr (fn 1 (pr aa (.int 32))) (fn 23 (pr (fn 1 (pr aa (.int 33))) (fn 23 (pr (fn 1 (pr aa (.int 34))) (fn 23 (pr (fn 1 (pr aa (.int 35))) (fn 23 (pr (fn 1 (pr aa (.int 36))) (fn 23 (pr (fn 1 (pr aa (.int 37))) (fn 10 (.int 0)))))))))))))))))))))))))))))))))))))))))))))))))))))))))))))))))))))))))))))) (pr (.ar .add .i64 ae (.int 1)) (.int 1)))))::jA::pp) (fn 203 (pr na (pr (fn 0 V0) (pr (.ar .add .i64 ae (.int 1)) HO))))<|aT fun F p0 p1 p2 p3 p4=>by
 have e1:0<=E.I F ae/\E.I F ae<E.I F (fn 0 V0)/\E.I F (.ar .add .i64 ae (.int 1))=E.I F ae+1/\E.I F (.ar .add .i64 ae (.int 1))=E.I F ae+1:=by
  have:=@aA F ae (.int 1)
  have:=sa p1
  have:=BS p2
  simp only[ab]at *;grind
 have h1:=@ahU _ _ _ (fn 28 (pr (pr aM aK) aZ)) _ _ _ _ _ _ _ _ p1 p2 e1.1 e1.2.1 e1.2.2.1 e1.2.2.2;exact h1
def auE:=fb ((fn 27 (pr (fn 23 (pr (.int 4) (fn 10 (.int 0)))) V0))::dS::TK::yl::IT) (fn 202 (pr (var 38) VU))<|ck fun F p0 p1 p2 p3 p4 p5 p6=>by
 have e1:0<=E.I F ae/\E.I F ae<E.I F (fn 0 V0)/\E.I F (fn 120 (pr (fn 23 (pr (fn 28 (pr (pr aM aK) aZ)) (fn 23 (pr (fn 1 (pr aa (.int 1))) (fn 23 (pr (fn 1 (pr aa (.int 2))) (fn 23 (pr (fn 1 (pr aa (.int 3))) (fn 23 (pr (fn 1 (pr aa (.int 4))) (fn 23 (pr (fn 1 (pr aa (.int 5))) (fn 23 (pr (fn 1 (pr aa (.int 6))) (fn 23 (pr (fn 1 (pr aa (.int 7))) (fn 23 (pr (fn 1 (pr aa (.int 8))) (fn 23 (pr (fn 1 (pr aa (.int 9))) (fn 23 (pr (fn 1 (pr aa (.int 10))) (fn 23 (pr (fn 1 (pr aa (.int 11))) (fn 23 (pr (fn 1 (pr aa (.int 12))) (fn 23 (pr (fn 1 (pr aa (.int 13))) (fn 23 (pr (fn 1 (pr aa (.int 14))) (fn 23 (pr (fn 1 (pr aa (.int 15))) (fn 23 (pr (fn 1 (pr aa (.int 16))) (fn 23 (pr (fn 1 (pr aa (.int 17))) (fn 23 (pr (fn 1 (pr aa (.int 18))) (fn 23 (pr (fn 1 (pr aa (.int 19))) (fn 23 (pr (fn 1 (pr aa (.int 20))) (fn 23 (pr (fn 1 (pr aa (.int 21))) (fn 23 (pr (fn 1 (pr aa (.int 22))) (fn 23 (pr (fn 1 (pr aa (.int 23))) (fn 23 (pr (fn 1 (pr aa (.int 24))) (fn 23 (pr (fn 1 (pr aa (.int 25))) (fn 23 (pr (fn 1 (pr aa (.int 26))) (fn 23 (pr (fn 1 (pr aa (.int 27))) (fn 23 (pr (fn 1 (pr aa (.int 28))) (fn 23 (pr (fn 1 (pr aa (.int 29))) (fn 23 (pr (fn 1 (pr aa (.int 30))) (fn 23 (pr (fn 1 (pr aa (.int 31))) (fn 23 (pr (fn 1 (pr aa (.int 32))) (fn 23 (pr (fn 1 (pr aa (.int 33))) (fn 23 (pr (fn 1 (pr aa (.int 34))) (fn 23 (pr (fn 1 (pr aa (.int 35))) (fn 23 (pr (fn 1 (pr aa (.int 36))) (fn 23 (pr (fn 1 (pr aa (.int 37))) (fn 10 (.int 0)))))))))))))))))))))))))))))))))))))))))))))))))))))))))))))))))))))))))))))) (pr (.ar .add .i64 ae (.int 1)) (fn 9 (pr (fn 28 (pr (pr aM aK) aZ)) (.int 12))))))=E.I F ae/\E.I F (.ar .add .i64 ae (.int 1))=E.I F ae+1:=by
  have:=@aA F ae (.int 1)
  have:=@qz _ _ _ _ (pr aM aK) _ _ _ p4
  have hz2:0<=E.I F ae->E.I F ae<E.I F (fn 0 V0)->E.I F (.ar .add .i64 ae (.int 1))=E.I F ae+1->E.I F (fn 9 (pr (fn 28 (pr (pr aM aK) aZ)) (.int 12)))=E.I F (fn 0 V0)->E.I F (fn 120 (pr (fn 23 (pr (fn 28 (pr (pr aM aK) aZ)) (fn 23 (pr (fn 1 (pr aa (.int 1))) (fn 23 (pr (fn 1 (pr aa (.int 2))) (fn 23 (pr (fn 1 (pr aa (.int 3))) (fn 23 (pr (fn 1 (pr aa (.int 4))) (fn 23 (pr (fn 1 (pr aa (.int 5))) (fn 23 (pr (fn 1 (pr aa (.int 6))) (fn 23 (pr (fn 1 (pr aa (.int 7))) (fn 23 (pr (fn 1 (pr aa (.int 8))) (fn 23 (pr (fn 1 (pr aa (.int 9))) (fn 23 (pr (fn 1 (pr aa (.int 10))) (fn 23 (pr (fn 1 (pr aa (.int 11))) (fn 23 (pr (fn 1 (pr aa (.int 12))) (fn 23 (pr (fn 1 (pr aa (.int 13))) (fn 23 (pr (fn 1 (pr aa (.int 14))) (fn 23 (pr (fn 1 (pr aa (.int 15))) (fn 23 (pr (fn 1 (pr aa (.int 16))) (fn 23 (pr (fn 1 (pr aa (.int 17))) (fn 23 (pr (fn 1 (pr aa (.int 18))) (fn 23 (pr (fn 1 (pr aa (.int 19))) (fn 23 (pr (fn 1 (pr aa (.int 20))) (fn 23 (pr (fn 1 (pr aa (.int 21))) (fn 23 (pr (fn 1 (pr aa (.int 22))) (fn 23 (pr (fn 1 (pr aa (.int 23))) (fn 23 (pr (fn 1 (pr aa (.int 24))) (fn 23 (pr (fn 1 (pr aa (.int 25))) (fn 23 (pr (fn 1 (pr aa (.int 26))) (fn 23 (pr (fn 1 (pr aa (.int 27))) (fn 23 (pr (fn 1 (pr aa (.int 28))) (fn 23 (pr (fn 1 (pr aa (.int 29))) (fn 23 (pr (fn 1 (pr aa (.int 30))) (fn 23 (pr (fn 1 (pr aa (.int 31))) (fn 23 (pr (fn 1 (pr aa (.int 32))) (fn 23 (pr (fn 1 (pr aa (.int 33))) (fn 23 (pr (fn 1 (pr aa (.int 34))) (fn 23 (pr (fn 1 (pr aa (.int 35))) (fn 23 (pr (fn 1 (pr aa (.int 36))) (fn 23 (pr (fn 1 (pr aa (.int 37))) (fn 10 (.int 0)))))))))))))))))))))))))))))))))))))))))))))))))))))))))))))))))))))))))))))) (pr (.ar .add .i64 ae (.int 1)) (fn 9 (pr (fn 28 (pr (pr aM aK) aZ)) (.int 12))))))=E.I F ae:=@wY _ aa _ _ _ _ _ _ (pr aM aK) _ _ _ p4
  have:=@zt _ _ _ _ ae (pr aM aK) _ _ _ p4
  have:=@fW F (.int 0) ae (fn 28 (pr (pr aM aK) aZ)) (fn 120 (pr (fn 23 (pr (fn 28 (pr (pr aM aK) aZ)) (fn 23 (pr (fn 1 (pr aa (.int 1))) (fn 23 (pr (fn 1 (pr aa (.int 2))) (fn 23 (pr (fn 1 (pr aa (.int 3))) (fn 23 (pr (fn 1 (pr aa (.int 4))) (fn 23 (pr (fn 1 (pr aa (.int 5))) (fn 23 (pr (fn 1 (pr aa (.int 6))) (fn 23 (pr (fn 1 (pr aa (.int 7))) (fn 23 (pr (fn 1 (pr aa (.int 8))) (fn 23 (pr (fn 1 (pr aa (.int 9))) (fn 23 (pr (fn 1 (pr aa (.int 10))) (fn 23 (pr (fn 1 (pr aa (.int 11))) (fn 23 (pr (fn 1 (pr aa (.int 12))) (fn 23 (pr (fn 1 (pr aa (.int 13))) (fn 23 (pr (fn 1 (pr aa (.int 14))) (fn 23 (pr (fn 1 (pr aa (.int 15))) (fn 23 (pr (fn 1 (pr aa (.int 16))) (fn 23 (pr (fn 1 (pr aa (.int 17))) (fn 23 (pr (fn 1 (pr aa (.int 18))) (fn 23 (pr (fn 1 (pr aa (.int 19))) (fn 23 (pr (fn 1 (pr aa (.int 20))) (fn 23 (pr (fn 1 (pr aa (.int 21))) (fn 23 (pr (fn 1 (pr aa (.int 22))) (fn 23 (pr (fn 1 (pr aa (.int 23))) (fn 23 (pr (fn 1 (pr aa (.int 24))) (fn 23 (pr (fn 1 (pr aa (.int 25))) (fn 23 (pr (fn 1 (pr aa (.int 26))) (fn 23 (pr (fn 1 (pr aa (.int 27))) (fn 23 (pr (fn 1 (pr aa (.int 28))) (fn 23 (pr (fn 1 (pr aa (.int 29))) (fn 23 (pr (fn 1 (pr aa (.int 30))) (fn 23 (pr (fn 1 (pr aa (.int 31))) (fn 23 (pr (fn 1 (pr aa (.int 32))) (fn 23 (pr (fn 1 (pr aa (.int 33))) (fn 23 (pr (fn 1 (pr aa (.int 34))) (fn 23 (pr (fn 1 (pr aa (.int 35))) (fn 23 (pr (fn 1 (pr aa (.int 36))) (fn 23 (pr (fn 1 (pr aa (.int 37))) (fn 10 (.int 0)))))))))))))))))))))))))))))))))))))))))))))))))))))))))))))))))))))))))))))) (pr (.ar .add .i64 ae (.int 1)) (fn 9 (pr (fn 28 (pr (pr aM aK) aZ)) (.int 12))))))
  have:=@fW F (.int 2) ae (fn 28 (pr (pr aM aK) aZ)) (fn 120 (pr (fn 23 (pr (fn 28 (pr (pr aM aK) aZ)) (fn 23 (pr (fn 1 (pr aa (.int 1))) (fn 23 (pr (fn 1 (pr aa (.int 2))) (fn 23 (pr (fn 1 (pr aa (.int 3))) (fn 23 (pr (fn 1 (pr aa (.int 4))) (fn 23 (pr (fn 1 (pr aa (.int 5))) (fn 23 (pr (fn 1 (pr aa (.int 6))) (fn 23 (pr (fn 1 (pr aa (.int 7))) (fn 23 (pr (fn 1 (pr aa (.int 8))) (fn 23 (pr (fn 1 (pr aa (.int 9))) (fn 23 (pr (fn 1 (pr aa (.int 10))) (fn 23 (pr (fn 1 (pr aa (.int 11))) (fn 23 (pr (fn 1 (pr aa (.int 12))) (fn 23 (pr (fn 1 (pr aa (.int 13))) (fn 23 (pr (fn 1 (pr aa (.int 14))) (fn 23 (pr (fn 1 (pr aa (.int 15))) (fn 23 (pr (fn 1 (pr aa (.int 16))) (fn 23 (pr (fn 1 (pr aa (.int 17))) (fn 23 (pr (fn 1 (pr aa (.int 18))) (fn 23 (pr (fn 1 (pr aa (.int 19))) (fn 23 (pr (fn 1 (pr aa (.int 20))) (fn 23 (pr (fn 1 (pr aa (.int 21))) (fn 23 (pr (fn 1 (pr aa (.int 22))) (fn 23 (pr (fn 1 (pr aa (.int 23))) (fn 23 (pr (fn 1 (pr aa (.int 24))) (fn 23 (pr (fn 1 (pr aa (.int 25))) (fn 23 (pr (fn 1 (pr aa (.int 26))) (fn 23 (pr (fn 1 (pr aa (.int 27))) (fn 23 (pr (fn 1 (pr aa (.int 28))) (fn 23 (pr (fn 1 (pr aa (.int 29))) (fn 23 (pr (fn 1 (pr aa (.int 30))) (fn 23 (pr (fn 1 (pr aa (.int 31))) (fn 23 (pr (fn 1 (pr aa (.int 32))) (fn 23 (pr (fn 1 (pr aa (.int 33))) (fn 23 (pr (fn 1 (pr aa (.int 34))) (fn 23 (pr (fn 1 (pr aa (.int 35))) (fn 23 (pr (fn 1 (pr aa (.int 36))) (fn 23 (pr (fn 1 (pr aa (.int 37))) (fn 10 (.int 0)))))))))))))))))))))))))))))))))))))))))))))))))))))))))))))))))))))))))))))) (pr (.ar .add .i64 ae (.int 1)) (fn 9 (pr (fn 28 (pr (pr aM aK) aZ)) (.int 12))))))
  simp only[ab]at *;grind
 have e2:dV (E.L F V0) (E.I F ae).toNat=false:=by
  rw[gT p0]
  simp only[ab]at *;exact decide_eq_false (by omega)
 have h1:=@azH _ _ _ _ _ (.ar .add .i64 ae (.int 1)) _ _ _ _ p2 p4 e1.1 e1.2.1 e1.2.2.1 e1.2.2.2 e2;exact h1
def an9:=fb ((fn 27 (pr (fn 23 (pr (.int 4) (fn 10 (.int 0)))) V0))::dS::TK::MW::IT) (fn 202 (pr (fn 2 (pr (var 38) (pr (fn 6 (pr (fn 8 (pr ae (.int 12))) (.int 9))) (.bool true)))) VU))<|ck fun F p0 p1 p2 p3 p4 p5 p6=>by
 have e1:0<=E.I F ae/\E.I F ae<E.I F (fn 0 V0)/\E.I F (fn 120 (pr (fn 23 (pr (fn 28 (pr (pr aM aK) aZ)) (fn 23 (pr (fn 1 (pr aa (.int 1))) (fn 23 (pr (fn 1 (pr aa (.int 2))) (fn 23 (pr (fn 1 (pr aa (.int 3))) (fn 23 (pr (fn 1 (pr aa (.int 4))) (fn 23 (pr (fn 1 (pr aa (.int 5))) (fn 23 (pr (fn 1 (pr aa (.int 6))) (fn 23 (pr (fn 1 (pr aa (.int 7))) (fn 23 (pr (fn 1 (pr aa (.int 8))) (fn 23 (pr (fn 1 (pr aa (.int 9))) (fn 23 (pr (fn 1 (pr aa (.int 10))) (fn 23 (pr (fn 1 (pr aa (.int 11))) (fn 23 (pr (fn 1 (pr aa (.int 12))) (fn 23 (pr (fn 1 (pr aa (.int 13))) (fn 23 (pr (fn 1 (pr aa (.int 14))) (fn 23 (pr (fn 1 (pr aa (.int 15))) (fn 23 (pr (fn 1 (pr aa (.int 16))) (fn 23 (pr (fn 1 (pr aa (.int 17))) (fn 23 (pr (fn 1 (pr aa (.int 18))) (fn 23 (pr (fn 1 (pr aa (.int 19))) (fn 23 (pr (fn 1 (pr aa (.int 20))) (fn 23 (pr (fn 1 (pr aa (.int 21))) (fn 23 (pr (fn 1 (pr aa (.int 22))) (fn 23 (pr (fn 1 (pr aa (.int 23))) (fn 23 (pr (fn 1 (pr aa (.int 24))) (fn 23 (pr (fn 1 (pr aa (.int 25))) (fn 23 (pr (fn 1 (pr aa (.int 26))) (fn 23 (pr (fn 1 (pr aa (.int 27))) (fn 23 (pr (fn 1 (pr aa (.int 28))) (fn 23 (pr (fn 1 (pr aa (.int 29))) (fn 23 (pr (fn 1 (pr aa (.int 30))) (fn 23 (pr (fn 1 (pr aa (.int 31))) (fn 23 (pr (fn 1 (pr aa (.int 32))) (fn 23 (pr (fn 1 (pr aa (.int 33))) (fn 23 (pr (fn 1 (pr aa (.int 34))) (fn 23 (pr (fn 1 (pr aa (.int 35))) (fn 23 (pr (fn 1 (pr aa (.int 36))) (fn 23 (pr (fn 1 (pr aa (.int 37))) (fn 10 (.int 0)))))))))))))))))))))))))))))))))))))))))))))))))))))))))))))))))))))))))))))) (pr (.ar .add .i64 ae (.int 1)) (fn 9 (pr (fn 28 (pr (pr aM aK) aZ)) (.int 12))))))=E.I F ae/\E.I F (.ar .add .i64 ae (.int 1))=E.I F ae+1:=by
  have:=@aA F ae (.int 1)
  have:=@qz _ _ _ _ (pr aM aK) _ _ _ p4
  have hz2:0<=E.I F ae->E.I F ae<E.I F (fn 0 V0)->E.I F (.ar .add .i64 ae (.int 1))=E.I F ae+1->E.I F (fn 9 (pr (fn 28 (pr (pr aM aK) aZ)) (.int 12)))=E.I F (fn 0 V0)->E.I F (fn 120 (pr (fn 23 (pr (fn 28 (pr (pr aM aK) aZ)) (fn 23 (pr (fn 1 (pr aa (.int 1))) (fn 23 (pr (fn 1 (pr aa (.int 2))) (fn 23 (pr (fn 1 (pr aa (.int 3))) (fn 23 (pr (fn 1 (pr aa (.int 4))) (fn 23 (pr (fn 1 (pr aa (.int 5))) (fn 23 (pr (fn 1 (pr aa (.int 6))) (fn 23 (pr (fn 1 (pr aa (.int 7))) (fn 23 (pr (fn 1 (pr aa (.int 8))) (fn 23 (pr (fn 1 (pr aa (.int 9))) (fn 23 (pr (fn 1 (pr aa (.int 10))) (fn 23 (pr (fn 1 (pr aa (.int 11))) (fn 23 (pr (fn 1 (pr aa (.int 12))) (fn 23 (pr (fn 1 (pr aa (.int 13))) (fn 23 (pr (fn 1 (pr aa (.int 14))) (fn 23 (pr (fn 1 (pr aa (.int 15))) (fn 23 (pr (fn 1 (pr aa (.int 16))) (fn 23 (pr (fn 1 (pr aa (.int 17))) (fn 23 (pr (fn 1 (pr aa (.int 18))) (fn 23 (pr (fn 1 (pr aa (.int 19))) (fn 23 (pr (fn 1 (pr aa (.int 20))) (fn 23 (pr (fn 1 (pr aa (.int 21))) (fn 23 (pr (fn 1 (pr aa (.int 22))) (fn 23 (pr (fn 1 (pr aa (.int 23))) (fn 23 (pr (fn 1 (pr aa (.int 24))) (fn 23 (pr (fn 1 (pr aa (.int 25))) (fn 23 (pr (fn 1 (pr aa (.int 26))) (fn 23 (pr (fn 1 (pr aa (.int 27))) (fn 23 (pr (fn 1 (pr aa (.int 28))) (fn 23 (pr (fn 1 (pr aa (.int 29))) (fn 23 (pr (fn 1 (pr aa (.int 30))) (fn 23 (pr (fn 1 (pr aa (.int 31))) (fn 23 (pr (fn 1 (pr aa (.int 32))) (fn 23 (pr (fn 1 (pr aa (.int 33))) (fn 23 (pr (fn 1 (pr aa (.int 34))) (fn 23 (pr (fn 1 (pr aa (.int 35))) (fn 23 (pr (fn 1 (pr aa (.int 36))) (fn 23 (pr (fn 1 (pr aa (.int 37))) (fn 10 (.int 0)))))))))))))))))))))))))))))))))))))))))))))))))))))))))))))))))))))))))))))) (pr (.ar .add .i64 ae (.int 1)) (fn 9 (pr (fn 28 (pr (pr aM aK) aZ)) (.int 12))))))=E.I F ae:=@wY _ aa _ _ _ _ _ _ (pr aM aK) _ _ _ p4
  have:=@zt _ _ _ _ ae (pr aM aK) _ _ _ p4
  have:=@fW F (.int 0) ae (fn 28 (pr (pr aM aK) aZ)) (fn 120 (pr (fn 23 (pr (fn 28 (pr (pr aM aK) aZ)) (fn 23 (pr (fn 1 (pr aa (.int 1))) (fn 23 (pr (fn 1 (pr aa (.int 2))) (fn 23 (pr (fn 1 (pr aa (.int 3))) (fn 23 (pr (fn 1 (pr aa (.int 4))) (fn 23 (pr (fn 1 (pr aa (.int 5))) (fn 23 (pr (fn 1 (pr aa (.int 6))) (fn 23 (pr (fn 1 (pr aa (.int 7))) (fn 23 (pr (fn 1 (pr aa (.int 8))) (fn 23 (pr (fn 1 (pr aa (.int 9))) (fn 23 (pr (fn 1 (pr aa (.int 10))) (fn 23 (pr (fn 1 (pr aa (.int 11))) (fn 23 (pr (fn 1 (pr aa (.int 12))) (fn 23 (pr (fn 1 (pr aa (.int 13))) (fn 23 (pr (fn 1 (pr aa (.int 14))) (fn 23 (pr (fn 1 (pr aa (.int 15))) (fn 23 (pr (fn 1 (pr aa (.int 16))) (fn 23 (pr (fn 1 (pr aa (.int 17))) (fn 23 (pr (fn 1 (pr aa (.int 18))) (fn 23 (pr (fn 1 (pr aa (.int 19))) (fn 23 (pr (fn 1 (pr aa (.int 20))) (fn 23 (pr (fn 1 (pr aa (.int 21))) (fn 23 (pr (fn 1 (pr aa (.int 22))) (fn 23 (pr (fn 1 (pr aa (.int 23))) (fn 23 (pr (fn 1 (pr aa (.int 24))) (fn 23 (pr (fn 1 (pr aa (.int 25))) (fn 23 (pr (fn 1 (pr aa (.int 26))) (fn 23 (pr (fn 1 (pr aa (.int 27))) (fn 23 (pr (fn 1 (pr aa (.int 28))) (fn 23 (pr (fn 1 (pr aa (.int 29))) (fn 23 (pr (fn 1 (pr aa (.int 30))) (fn 23 (pr (fn 1 (pr aa (.int 31))) (fn 23 (pr (fn 1 (pr aa (.int 32))) (fn 23 (pr (fn 1 (pr aa (.int 33))) (fn 23 (pr (fn 1 (pr aa (.int 34))) (fn 23 (pr (fn 1 (pr aa (.int 35))) (fn 23 (pr (fn 1 (pr aa (.int 36))) (fn 23 (pr (fn 1 (pr aa (.int 37))) (fn 10 (.int 0)))))))))))))))))))))))))))))))))))))))))))))))))))))))))))))))))))))))))))))) (pr (.ar .add .i64 ae (.int 1)) (fn 9 (pr (fn 28 (pr (pr aM aK) aZ)) (.int 12))))))
  have:=@fW F (.int 2) ae (fn 28 (pr (pr aM aK) aZ)) (fn 120 (pr (fn 23 (pr (fn 28 (pr (pr aM aK) aZ)) (fn 23 (pr (fn 1 (pr aa (.int 1))) (fn 23 (pr (fn 1 (pr aa (.int 2))) (fn 23 (pr (fn 1 (pr aa (.int 3))) (fn 23 (pr (fn 1 (pr aa (.int 4))) (fn 23 (pr (fn 1 (pr aa (.int 5))) (fn 23 (pr (fn 1 (pr aa (.int 6))) (fn 23 (pr (fn 1 (pr aa (.int 7))) (fn 23 (pr (fn 1 (pr aa (.int 8))) (fn 23 (pr (fn 1 (pr aa (.int 9))) (fn 23 (pr (fn 1 (pr aa (.int 10))) (fn 23 (pr (fn 1 (pr aa (.int 11))) (fn 23 (pr (fn 1 (pr aa (.int 12))) (fn 23 (pr (fn 1 (pr aa (.int 13))) (fn 23 (pr (fn 1 (pr aa (.int 14))) (fn 23 (pr (fn 1 (pr aa (.int 15))) (fn 23 (pr (fn 1 (pr aa (.int 16))) (fn 23 (pr (fn 1 (pr aa (.int 17))) (fn 23 (pr (fn 1 (pr aa (.int 18))) (fn 23 (pr (fn 1 (pr aa (.int 19))) (fn 23 (pr (fn 1 (pr aa (.int 20))) (fn 23 (pr (fn 1 (pr aa (.int 21))) (fn 23 (pr (fn 1 (pr aa (.int 22))) (fn 23 (pr (fn 1 (pr aa (.int 23))) (fn 23 (pr (fn 1 (pr aa (.int 24))) (fn 23 (pr (fn 1 (pr aa (.int 25))) (fn 23 (pr (fn 1 (pr aa (.int 26))) (fn 23 (pr (fn 1 (pr aa (.int 27))) (fn 23 (pr (fn 1 (pr aa (.int 28))) (fn 23 (pr (fn 1 (pr aa (.int 29))) (fn 23 (pr (fn 1 (pr aa (.int 30))) (fn 23 (pr (fn 1 (pr aa (.int 31))) (fn 23 (pr (fn 1 (pr aa (.int 32))) (fn 23 (pr (fn 1 (pr aa (.int 33))) (fn 23 (pr (fn 1 (pr aa (.int 34))) (fn 23 (pr (fn 1 (pr aa (.int 35))) (fn 23 (pr (fn 1 (pr aa (.int 36))) (fn 23 (pr (fn 1 (pr aa (.int 37))) (fn 10 (.int 0)))))))))))))))))))))))))))))))))))))))))))))))))))))))))))))))))))))))))))))) (pr (.ar .add .i64 ae (.int 1)) (fn 9 (pr (fn 28 (pr (pr aM aK) aZ)) (.int 12))))))
  simp only[ab]at *;grind
 have e2:dV (E.L F V0) (E.I F ae).toNat=true:=by
  rw[gT p0]
  simp only[ab]at *;exact decide_eq_true (by omega)
 have h1:=@atf _ _ _ _ _ (.ar .add .i64 ae (.int 1)) _ _ _ _ p2 p4 e1.1 e1.2.1 e1.2.2.1 e1.2.2.2 e2;exact h1
def aB6:=fb ((fn 27 (pr (fn 23 (pr (.int 4) (fn 10 (.int 0)))) V0))::dS::yl::zV::(.not Mi)::V86::jQ) (fn 205 (pr (.ar .add .i64 bu (.int 1)) V96))<|fF fun F p0 p1 p2 p3 p4 p5 p6 p7 p8 p9=>by
 have e1:0<=E.I F ae/\E.I F (.ar .add .i64 ae (.int 1))=E.I F ae+1/\E.I F (.ar .add .i64 bu (.int 1))=bp (E.L F V0) 0 (E.I F bu) (E.I F ae).toNat/\E.I F bw=bp (E.L F V0) 1 (E.I F bw) (E.I F ae).toNat/\E.I F bD=bp (E.L F V0) 2 (E.I F bD) (E.I F ae).toNat/\E.I F bG=bp (E.L F V0) 3 (E.I F bG) (E.I F ae).toNat:=by
  have:=@aA F bu (.int 1)
  have:=@aA F ae (.int 1)
  have:=@ji _ _ _ ae _ p7
  have:=bC (E.L F V0) 0 (E.I F bu) (E.I F ae).toNat
  have:=bC (E.L F V0) 1 (E.I F bw) (E.I F ae).toNat
  have:=bC (E.L F V0) 2 (E.I F bD) (E.I F ae).toNat
  have:=bC (E.L F V0) 3 (E.I F bG) (E.I F ae).toNat
  have:=@gT _ ae _ p0
  simp only[ab]at *;grind
 exact iY p6 e1.1 e1.2.1 e1.2.2.1 e1.2.2.2.1 e1.2.2.2.2.1 e1.2.2.2.2.2
def aku:=fb ((fn 27 (pr (fn 23 (pr (.int 4) (fn 10 (.int 0)))) V0))::dS::zV::(.not Mi)::(.not V86)::jQ) ml<|dK fun F p0 p1 p2 p3 p4 p5 p6 p7 p8=>by
 have e1:0<=E.I F ae/\E.I F (.ar .add .i64 ae (.int 1))=E.I F ae+1/\E.I F bu=bp (E.L F V0) 0 (E.I F bu) (E.I F ae).toNat/\E.I F bw=bp (E.L F V0) 1 (E.I F bw) (E.I F ae).toNat/\E.I F bD=bp (E.L F V0) 2 (E.I F bD) (E.I F ae).toNat/\E.I F bG=bp (E.L F V0) 3 (E.I F bG) (E.I F ae).toNat:=by
  have:=@aA F ae (.int 1)
  have:=@ji _ _ _ ae _ p6
  have:=bC (E.L F V0) 0 (E.I F bu) (E.I F ae).toNat
  have:=bC (E.L F V0) 1 (E.I F bw) (E.I F ae).toNat
  have:=bC (E.L F V0) 2 (E.I F bD) (E.I F ae).toNat
  have:=bC (E.L F V0) 3 (E.I F bG) (E.I F ae).toNat
  have:=@gT _ ae _ p0
  simp only[ab]at *;grind
 exact iY p5 e1.1 e1.2.1 e1.2.2.1 e1.2.2.2.1 e1.2.2.2.2.1 e1.2.2.2.2.2
def ato:=fb ((fn 27 (pr (fn 23 (pr (.int 4) (fn 10 (.int 0)))) V0))::dS::zV::Mi::jQ) ml<|cU fun F p0 p1 p2 p3 p4 p5 p6 p7=>by
 have e1:0<=E.I F ae/\E.I F (.ar .add .i64 ae (.int 1))=E.I F ae+1/\E.I F bu=bp (E.L F V0) 0 (E.I F bu) (E.I F ae).toNat/\E.I F bw=bp (E.L F V0) 1 (E.I F bw) (E.I F ae).toNat/\E.I F bD=bp (E.L F V0) 2 (E.I F bD) (E.I F ae).toNat/\E.I F bG=bp (E.L F V0) 3 (E.I F bG) (E.I F ae).toNat:=by
  have:=@aA F ae (.int 1)
  have:=@ji _ _ _ ae _ p5
  have:=bC (E.L F V0) 0 (E.I F bu) (E.I F ae).toNat
  have:=bC (E.L F V0) 1 (E.I F bw) (E.I F ae).toNat
  have:=bC (E.L F V0) 2 (E.I F bD) (E.I F ae).toNat
  have:=bC (E.L F V0) 3 (E.I F bG) (E.I F ae).toNat
  have:=@gT _ ae _ p0
  simp only[ab]at *;grind
 exact iY p4 e1.1 e1.2.1 e1.2.2.1 e1.2.2.2.1 e1.2.2.2.2.1 e1.2.2.2.2.2
def apb:=fb ((fn 27 (pr (fn 23 (pr (.int 4) (fn 10 (.int 0)))) V0))::dS::yl::lE::Dz::(.not H8)::V99::jQ) (fn 205 (pr bu (pr (.ar .add .i64 bw (.int 1)) VD)))<|gk fun F p0 p1 p2 p3 p4 p5 p6 p7 p8 p9 ao=>by
 have e1:0<=E.I F ae/\E.I F (.ar .add .i64 ae (.int 1))=E.I F ae+1/\E.I F bu=bp (E.L F V0) 0 (E.I F bu) (E.I F ae).toNat/\E.I F (.ar .add .i64 bw (.int 1))=bp (E.L F V0) 1 (E.I F bw) (E.I F ae).toNat/\E.I F bD=bp (E.L F V0) 2 (E.I F bD) (E.I F ae).toNat/\E.I F bG=bp (E.L F V0) 3 (E.I F bG) (E.I F ae).toNat:=by
  have:=@aA F bw (.int 1)
  have:=@aA F ae (.int 1)
  have:=@ji _ _ _ ae _ p8
  have:=bC (E.L F V0) 0 (E.I F bu) (E.I F ae).toNat
  have:=bC (E.L F V0) 1 (E.I F bw) (E.I F ae).toNat
  have:=bC (E.L F V0) 2 (E.I F bD) (E.I F ae).toNat
  have:=bC (E.L F V0) 3 (E.I F bG) (E.I F ae).toNat
  have:=@gT _ ae _ p0
  simp only[ab]at *;grind
 exact iY p7 e1.1 e1.2.1 e1.2.2.1 e1.2.2.2.1 e1.2.2.2.2.1 e1.2.2.2.2.2
def aoL:=fb ((fn 27 (pr (fn 23 (pr (.int 4) (fn 10 (.int 0)))) V0))::dS::lE::Dz::(.not H8)::(.not V99)::jQ) ml<|fF fun F p0 p1 p2 p3 p4 p5 p6 p7 p8 p9=>by
 have e1:0<=E.I F ae/\E.I F (.ar .add .i64 ae (.int 1))=E.I F ae+1/\E.I F bu=bp (E.L F V0) 0 (E.I F bu) (E.I F ae).toNat/\E.I F bw=bp (E.L F V0) 1 (E.I F bw) (E.I F ae).toNat/\E.I F bD=bp (E.L F V0) 2 (E.I F bD) (E.I F ae).toNat/\E.I F bG=bp (E.L F V0) 3 (E.I F bG) (E.I F ae).toNat:=by
  have:=@aA F ae (.int 1)
  have:=@ji _ _ _ ae _ p7
  have:=bC (E.L F V0) 0 (E.I F bu) (E.I F ae).toNat
  have:=bC (E.L F V0) 1 (E.I F bw) (E.I F ae).toNat
  have:=bC (E.L F V0) 2 (E.I F bD) (E.I F ae).toNat
  have:=bC (E.L F V0) 3 (E.I F bG) (E.I F ae).toNat
  have:=@gT _ ae _ p0
  simp only[ab]at *;grind
 exact iY p6 e1.1 e1.2.1 e1.2.2.1 e1.2.2.2.1 e1.2.2.2.2.1 e1.2.2.2.2.2
def aEW:=fb ((fn 27 (pr (fn 23 (pr (.int 4) (fn 10 (.int 0)))) V0))::dS::lE::Dz::H8::jQ) ml<|dK fun F p0 p1 p2 p3 p4 p5 p6 p7 p8=>by
 have e1:0<=E.I F ae/\E.I F (.ar .add .i64 ae (.int 1))=E.I F ae+1/\E.I F bu=bp (E.L F V0) 0 (E.I F bu) (E.I F ae).toNat/\E.I F bw=bp (E.L F V0) 1 (E.I F bw) (E.I F ae).toNat/\E.I F bD=bp (E.L F V0) 2 (E.I F bD) (E.I F ae).toNat/\E.I F bG=bp (E.L F V0) 3 (E.I F bG) (E.I F ae).toNat:=by
  have:=@aA F ae (.int 1)
  have:=@ji _ _ _ ae _ p6
  have:=bC (E.L F V0) 0 (E.I F bu) (E.I F ae).toNat
  have:=bC (E.L F V0) 1 (E.I F bw) (E.I F ae).toNat
  have:=bC (E.L F V0) 2 (E.I F bD) (E.I F ae).toNat
  have:=bC (E.L F V0) 3 (E.I F bG) (E.I F ae).toNat
  have:=@gT _ ae _ p0
  simp only[ab]at *;grind
 exact iY p5 e1.1 e1.2.1 e1.2.2.1 e1.2.2.2.1 e1.2.2.2.2.1 e1.2.2.2.2.2
def apm:=fb ((fn 27 (pr (fn 23 (pr (.int 4) (fn 10 (.int 0)))) V0))::dS::yl::lE::rr::Fi::(.not GI)::acJ::jQ) (fn 205 (pr bu (pr bw (pr (.ar .add .i64 bD (.int 1)) YZ))))<|iv fun F p0 p1 p2 p3 p4 p5 p6 p7 p8 p9 ao av=>by
 have e1:0<=E.I F ae/\E.I F (.ar .add .i64 ae (.int 1))=E.I F ae+1/\E.I F bu=bp (E.L F V0) 0 (E.I F bu) (E.I F ae).toNat/\E.I F bw=bp (E.L F V0) 1 (E.I F bw) (E.I F ae).toNat/\E.I F (.ar .add .i64 bD (.int 1))=bp (E.L F V0) 2 (E.I F bD) (E.I F ae).toNat/\E.I F bG=bp (E.L F V0) 3 (E.I F bG) (E.I F ae).toNat:=by
  have:=@aA F bD (.int 1)
  have:=@aA F ae (.int 1)
  have:=@ji _ _ _ ae _ p9
  have:=bC (E.L F V0) 0 (E.I F bu) (E.I F ae).toNat
  have:=bC (E.L F V0) 1 (E.I F bw) (E.I F ae).toNat
  have:=bC (E.L F V0) 2 (E.I F bD) (E.I F ae).toNat
  have:=bC (E.L F V0) 3 (E.I F bG) (E.I F ae).toNat
  have:=@gT _ ae _ p0
  simp only[ab]at *;grind
 exact iY p8 e1.1 e1.2.1 e1.2.2.1 e1.2.2.2.1 e1.2.2.2.2.1 e1.2.2.2.2.2
def alT:=fb ((fn 27 (pr (fn 23 (pr (.int 4) (fn 10 (.int 0)))) V0))::dS::lE::rr::Fi::(.not GI)::(.not acJ)::jQ) ml<|gk fun F p0 p1 p2 p3 p4 p5 p6 p7 p8 p9 ao=>by
 have e1:0<=E.I F ae/\E.I F (.ar .add .i64 ae (.int 1))=E.I F ae+1/\E.I F bu=bp (E.L F V0) 0 (E.I F bu) (E.I F ae).toNat/\E.I F bw=bp (E.L F V0) 1 (E.I F bw) (E.I F ae).toNat/\E.I F bD=bp (E.L F V0) 2 (E.I F bD) (E.I F ae).toNat/\E.I F bG=bp (E.L F V0) 3 (E.I F bG) (E.I F ae).toNat:=by
  have:=@aA F ae (.int 1)
  have:=@ji _ _ _ ae _ p8
  have:=bC (E.L F V0) 0 (E.I F bu) (E.I F ae).toNat
  have:=bC (E.L F V0) 1 (E.I F bw) (E.I F ae).toNat
  have:=bC (E.L F V0) 2 (E.I F bD) (E.I F ae).toNat
  have:=bC (E.L F V0) 3 (E.I F bG) (E.I F ae).toNat
  have:=@gT _ ae _ p0
  simp only[ab]at *;grind
 exact iY p7 e1.1 e1.2.1 e1.2.2.1 e1.2.2.2.1 e1.2.2.2.2.1 e1.2.2.2.2.2
def ay3:=fb ((fn 27 (pr (fn 23 (pr (.int 4) (fn 10 (.int 0)))) V0))::dS::lE::rr::Fi::GI::jQ) ml<|fF fun F p0 p1 p2 p3 p4 p5 p6 p7 p8 p9=>by
 have e1:0<=E.I F ae/\E.I F (.ar .add .i64 ae (.int 1))=E.I F ae+1/\E.I F bu=bp (E.L F V0) 0 (E.I F bu) (E.I F ae).toNat/\E.I F bw=bp (E.L F V0) 1 (E.I F bw) (E.I F ae).toNat/\E.I F bD=bp (E.L F V0) 2 (E.I F bD) (E.I F ae).toNat/\E.I F bG=bp (E.L F V0) 3 (E.I F bG) (E.I F ae).toNat:=by
  have:=@aA F ae (.int 1)
  have:=@ji _ _ _ ae _ p7
  have:=bC (E.L F V0) 0 (E.I F bu) (E.I F ae).toNat
  have:=bC (E.L F V0) 1 (E.I F bw) (E.I F ae).toNat
  have:=bC (E.L F V0) 2 (E.I F bD) (E.I F ae).toNat
  have:=bC (E.L F V0) 3 (E.I F bG) (E.I F ae).toNat
  have:=@gT _ ae _ p0
  simp only[ab]at *;grind
 exact iY p6 e1.1 e1.2.1 e1.2.2.1 e1.2.2.2.1 e1.2.2.2.2.1 e1.2.2.2.2.2
def aBd:=fb ((fn 27 (pr (fn 23 (pr (.int 4) (fn 10 (.int 0)))) V0))::dS::MW::rg::pp) ml<|bU fun F p0 p1 p2 p3 p4 p5=>by
 have e1:0<=E.I F ae/\E.I F (.ar .add .i64 ae (.int 1))=E.I F ae+1/\E.I F bu=bp (E.L F V0) 0 (E.I F bu) (E.I F ae).toNat/\E.I F bw=bp (E.L F V0) 1 (E.I F bw) (E.I F ae).toNat/\E.I F bD=bp (E.L F V0) 2 (E.I F bD) (E.I F ae).toNat/\E.I F bG=bp (E.L F V0) 3 (E.I F bG) (E.I F ae).toNat:=by
  have:=@aA F ae (.int 1)
  have:=bC (E.L F V0) 0 (E.I F bu) (E.I F ae).toNat
  have:=bC (E.L F V0) 1 (E.I F bw) (E.I F ae).toNat
  have:=bC (E.L F V0) 2 (E.I F bD) (E.I F ae).toNat
  have:=bC (E.L F V0) 3 (E.I F bG) (E.I F ae).toNat
  have:=@gT _ ae _ p0
  simp only[ab]at *;grind
 exact iY p3 e1.1 e1.2.1 e1.2.2.1 e1.2.2.2.1 e1.2.2.2.2.1 e1.2.2.2.2.2
def apz:=fb (lI::V69) (cmp .eql E3 (fn 0 V0))<|am fun F p0 p1 p2=>by
 have:=@qz _ _ _ _ (pr aM aK) _ _ _ p0
 try simp only[ab]at *
 have:=@ch F V0
 first | omega | grind
def alZ:=fb ((fn 27 (pr (fn 23 (pr (.int 4) (fn 10 (.int 0)))) V0))::dS::yl::lE::rr::BU::(.not HG)::aec::jQ) (fn 205 (pr bu (pr bw (pr bD (pr (.ar .add .i64 bG (.int 1)) W5)))))<|iv fun F p0 p1 p2 p3 p4 p5 p6 p7 p8 p9 ao av=>by
 have e1:0<=E.I F ae/\E.I F (.ar .add .i64 ae (.int 1))=E.I F ae+1/\E.I F bu=bp (E.L F V0) 0 (E.I F bu) (E.I F ae).toNat/\E.I F bw=bp (E.L F V0) 1 (E.I F bw) (E.I F ae).toNat/\E.I F bD=bp (E.L F V0) 2 (E.I F bD) (E.I F ae).toNat/\E.I F (.ar .add .i64 bG (.int 1))=bp (E.L F V0) 3 (E.I F bG) (E.I F ae).toNat:=by
  have:=@aA F bG (.int 1)
  have:=@aA F ae (.int 1)
  have:=@ji _ _ _ ae _ p9
  have:=bC (E.L F V0) 0 (E.I F bu) (E.I F ae).toNat
  have:=bC (E.L F V0) 1 (E.I F bw) (E.I F ae).toNat
  have:=bC (E.L F V0) 2 (E.I F bD) (E.I F ae).toNat
  have:=bC (E.L F V0) 3 (E.I F bG) (E.I F ae).toNat
  have:=@gT _ ae _ p0
  simp only[ab]at *;grind
 exact iY p8 e1.1 e1.2.1 e1.2.2.1 e1.2.2.2.1 e1.2.2.2.2.1 e1.2.2.2.2.2
def akP:=fb ((fn 27 (pr (fn 23 (pr (.int 4) (fn 10 (.int 0)))) V0))::dS::lE::rr::BU::(.not HG)::(.not aec)::jQ) ml<|gk fun F p0 p1 p2 p3 p4 p5 p6 p7 p8 p9 ao=>by
 have e1:0<=E.I F ae/\E.I F (.ar .add .i64 ae (.int 1))=E.I F ae+1/\E.I F bu=bp (E.L F V0) 0 (E.I F bu) (E.I F ae).toNat/\E.I F bw=bp (E.L F V0) 1 (E.I F bw) (E.I F ae).toNat/\E.I F bD=bp (E.L F V0) 2 (E.I F bD) (E.I F ae).toNat/\E.I F bG=bp (E.L F V0) 3 (E.I F bG) (E.I F ae).toNat:=by
  have:=@aA F ae (.int 1)
  have:=@ji _ _ _ ae _ p8
  have:=bC (E.L F V0) 0 (E.I F bu) (E.I F ae).toNat
  have:=bC (E.L F V0) 1 (E.I F bw) (E.I F ae).toNat
  have:=bC (E.L F V0) 2 (E.I F bD) (E.I F ae).toNat
  have:=bC (E.L F V0) 3 (E.I F bG) (E.I F ae).toNat
  have:=@gT _ ae _ p0
  simp only[ab]at *;grind
 exact iY p7 e1.1 e1.2.1 e1.2.2.1 e1.2.2.2.1 e1.2.2.2.2.1 e1.2.2.2.2.2
def aqU:=fb ((fn 27 (pr (fn 23 (pr (.int 4) (fn 10 (.int 0)))) V0))::dS::lE::rr::BU::HG::jQ) ml<|fF fun F p0 p1 p2 p3 p4 p5 p6 p7 p8 p9=>by
 have e1:0<=E.I F ae/\E.I F (.ar .add .i64 ae (.int 1))=E.I F ae+1/\E.I F bu=bp (E.L F V0) 0 (E.I F bu) (E.I F ae).toNat/\E.I F bw=bp (E.L F V0) 1 (E.I F bw) (E.I F ae).toNat/\E.I F bD=bp (E.L F V0) 2 (E.I F bD) (E.I F ae).toNat/\E.I F bG=bp (E.L F V0) 3 (E.I F bG) (E.I F ae).toNat:=by
  have:=@aA F ae (.int 1)
  have:=@ji _ _ _ ae _ p7
  have:=bC (E.L F V0) 0 (E.I F bu) (E.I F ae).toNat
  have:=bC (E.L F V0) 1 (E.I F bw) (E.I F ae).toNat
  have:=bC (E.L F V0) 2 (E.I F bD) (E.I F ae).toNat
  have:=bC (E.L F V0) 3 (E.I F bG) (E.I F ae).toNat
  have:=@gT _ ae _ p0
  simp only[ab]at *;grind
 exact iY p6 e1.1 e1.2.1 e1.2.2.1 e1.2.2.2.1 e1.2.2.2.2.1 e1.2.2.2.2.2
def apR:=fb (dS::pp) (cmp .lss (fn 7 (pr (fn 0 V0) (.ar .add .i64 ae (.int 1)))) (fn 7 (pr (fn 0 V0) ae)))<|am fun F p0 p1 p2=>by
 try simp only[ab,aj]at *
 have:=@ch F V0
 obtain⟨a2,ea2,qa2⟩:=ah ((E.I F ae)+(1))
 try simp only[ea2]at *
 omega
def aoM:=fb ([dS,np]) (.not (cmp .lss (fn 7 (pr (fn 0 V0) (.ar .add .i64 ae (.int 1)))) (.int 0)))<|au fun F p0 p1=>by
 try simp only[ab,aj]at *
 obtain⟨a2,ea2,qa2⟩:=ah ((E.I F ae)+(1))
 try simp only[ea2]at *
 omega
def mF:List Fa:=[iR,ajL,ax2,ai0,ai8,aE1,aEs,am1,ayf,aAH,aCl,azf,ae9,aAZ,aFg,ayr,avC,aiB,aEc,aBj,aig,am6,avP,aCH,atE,awn,aAx,avb,amH,alg,aF4,ayS,azW,aGd,aDy,auE,an9,aB6,aku,ato,apb,aoL,aEW,apm,alT,ay3,aBd,apz,alZ,akP,aqU,apR,aoM]
theorem acv:og Try.prog (fun tb=>pY sI (run Try.prog (tb.plus (fl mF) U4 Pt.l) 3000 (.call 5 aF6) .nil (pZ 10 Lw) SX.one))=true:=by kernel_rfl

theorem walk{H:Type}(W:World)(base:Nat)(enc:TypeId×Value->H)(v0:Value)(d0:DataW H)(p0:List MemPlace)(v1:Value)(d1:DataW H)(p1:List MemPlace)(v2:Value)(d2:DataW H)(p2:List MemPlace)
  (o0:Value.okWide Try.prog W .any base 51 v0)(h0:DataW.Trod enc Try.prog W 0 (fun _=>true) true 51 v0 d0 p0)
  (o1:Value.okWide Try.prog W .any base 25 v1)(h1:DataW.Trod enc Try.prog W 0 (fun _=>true) true 25 v1 d1 p1)
  (o2:Value.okWide Try.prog W .any base 42 v2)(h2:DataW.Trod enc Try.prog W 0 (fun _=>true) true 42 v2 d2 p2):
  Calls Try.prog 5 #[v0,v1,v2] W fun e W'=>e=.returned (.bool true)/\Below W.heap.size W W':=by
 obtain⟨x0,rfl,k0,w0⟩:=akN (n:=9) (ks:=[.int .u8]) Try.underlying51 (by kernel_rfl) o0 h0
 obtain⟨x1,x2,x3,x4,rfl,w1,w2,w3,w4⟩:=aBb o1 h1
 have r1:=nT w1;have r2:=nT w2;have r3:=nT w3;have r4:=nT w4
 obtain⟨x5,x6,x7,x8,x9,rfl,w5,w6,w7,w8,w9⟩:=ag9 o2 h2
 have r5:=nT w5;have r6:=nT w6;have r7:=nT w7;have r8:=nT w8;have r9:=nT w9;have q0:=au7 w0;refine aev good (facts:=fl mF) (FK _) (anns:=U4) (Ff _ (by kernel_rfl)) Pt.h (vs:=[x0,.int x1,.int x2,.int x3,.int x4,.int x5,.int x6,.int x7,.int x8,.int x9]) (pc:=Lw) acv ?_ W ⟨k0,⟨⟨trivial,trivial,trivial,trivial,trivial⟩,⟨⟨trivial,trivial,trivial,trivial,trivial,trivial⟩,trivial⟩⟩⟩;unfold Lw;try simp only[Wv,Wj,List.cons_append,List.nil_append]
 repeat' (refine azN ?_ ?_)
 all_goals first
  |exact afw
  |(first | exact q0 | skip;done)
  |(simp only[ai,oC,eV,Env.of,VO,ajY,Pf,o7,getD_cons_zero,getD_cons_succ,ajA];omega)

set_option maxRecDepth 100000 in
theorem aGB(os:Os)(started:os.Started)(H:Type)(enc:TypeId×Value->H):
    ReturnsInHanded {} Try.checked os 5 .any (Rows.payColoursSpec.pre6 enc Try.prog Try.f5 Rows.payColoursRow.domain false) (Rows.payColoursSpec.post enc Try.prog Try.f5 false true false false):=by
  refine returnsInHanded_of_change (C:=Try.checked) own started (by kernel_rfl) Try.func5
    (ChangeSpec.witness6 (enc:=enc) (C:=Try.checked) false ⟨#[],#[.slice none 0 0,.agg #[.int .i64 0,.int .i64 0,.int .i64 0,.int .i64 0],.agg #[.int .i64 0,.int .i64 0,.int .i64 0,.int .i64 0,.int .i64 0]],[]⟩ 8 (by kernel_rfl) (by kernel_rfl) (by kernel_rfl) (by kernel_rfl)) ?_
  intro W base args ds gs before hval0 hW hcnd _;have hval:∀(j:Nat) t v,Try.f5.params[j]? =some t->args[j]? =some v->Value.okWide Try.prog W .any base t v:=hval0;have hW':=hW
  obtain⟨p,q,hA0,hV,rfl,hfz,hnd⟩:=hW
  have hA:DataW.TrodAll enc Try.prog W 0 (fun _=>true) true Try.f5.params.toList args.toList ds p:=hA0
  rw[Try.params5]at hA hval
  obtain⟨v0,vs0,d0,ds0,p0,q0,hargs,rfl,rfl,h0,r0⟩:=trodAll_cons hA
  obtain⟨v1,vs1,d1,ds1,p1,q1,rfl,rfl,rfl,h1,r1⟩:=trodAll_cons r0
  obtain⟨v2,vs2,d2,ds2,p2,q2,rfl,rfl,rfl,h2,r2⟩:=trodAll_cons r1
  obtain⟨rfl,rfl,rfl⟩:=trodAll_nil r2
  obtain rfl:args= #[v0,v1,v2]:=by cases args;simp_all
  obtain⟨rfl,rfl⟩:=trodVars_none hV
  have lt0:∀x∈p0,x.block<W.heap.size:=by obtain⟨m,hm⟩:=h0;exact DataW.trod_lt m _ _ _ hm
  have lt1:∀x∈p1,x.block<W.heap.size:=by obtain⟨m,hm⟩:=h1;exact DataW.trod_lt m _ _ _ hm
  have lt2:∀x∈p2,x.block<W.heap.size:=by obtain⟨m,hm⟩:=h2;exact DataW.trod_lt m _ _ _ hm
  have o0:=hval 0 51 v0 rfl rfl;have o1:=hval 1 25 v1 rfl rfl;have o2:=hval 2 42 v2 rfl rfl;clear hA0 hval0
  refine(walk W base enc v0 d0 p0 v1 d1 p1 v2 d2 p2 o0 h0 o1 h1 o2 h2).mono fun e W' ⟨he,bel⟩=>?_
  subst he
  exact⟨_,rfl,_,_,_,[],_,[],hW',trodAll_mk1 (shut_bool Try.underlying4 _),(trodAll_cons_mk (Below.trod laidOut (by kernel_rfl) (of_decide_eq_true (by kernel_rfl)) h0 bel lt0) (trodAll_cons_mk (Below.trod laidOut (by kernel_rfl) (of_decide_eq_true (by kernel_rfl)) h1 bel lt1) (trodAll_cons_mk (Below.trod laidOut (by kernel_rfl) (of_decide_eq_true (by kernel_rfl)) h2 bel lt2) trodAll_mk0))),rfl,bel.frame _,fun h=>by cases h⟩

theorem If:Rows.payColoursRow.holds Try.pinned (OpenSpec.ofChange Rows.payColoursSpec):=
 OpenClaim.holds_of_wide 5 Try.f5 rfl rfl rfl rfl rfl rfl rfl ⟨rfl,rfl,rfl,rfl,rfl⟩ rfl rfl rfl rfl rfl (by kernel_rfl) Try.func5 (by kernel_rfl)
  (of_decide_eq_true (by kernel_rfl)) (by unfold Func.isWrapper;first | (rw[if_pos (by decide +kernel)];kernel_rfl) | (rw[if_neg (by decide +kernel)];exact⟨rfl,rfl⟩))
  (fun os started H enc _=>aGB os started H enc)

theorem proved:Rows.PayColoursSaid:=If

end
end Go.Proofs.Ytnnbmcfabojjjaa.payColours
