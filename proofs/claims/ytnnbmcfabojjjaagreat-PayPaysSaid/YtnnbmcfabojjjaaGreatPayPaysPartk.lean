/-
  PayPays: contracts of functions, part 11.
-/
import Derived.Test.YtnnbmcfabojjjaaGreatPayPaysPartj
namespace Go.Proofs.YtnnbmcfabojjjaaGreat.payPays
open Go.ChangeShapes Go.WideShapes Go.ChangeAt Go.RowKit
open Go.SX
open Go.SX.E (fn pr cmp var)
set_option linter.unusedVariables false
set_option linter.unusedSimpArgs false
set_option maxRecDepth 100000
noncomputable section
abbrev T0:E:=var 0
abbrev T1:E:=var 1
abbrev T2:E:=var 11
abbrev T3:E:=cmp .lss T2 (fn 0 T0)
abbrev T4:E:=cmp .lss T2 (.int 0)
abbrev T5:E:=.not T4
abbrev T6:E:=.not (cmp .lss (.int 40) (fn 0 T0))
abbrev T7:=[T5,T6]
abbrev T8:=T3::T7
abbrev T9:E:=pr T1 T2
abbrev T10:E:=pr T0 T9
abbrev T11:E:=pr (fn 10 (.int 0)) T10
abbrev T12:E:=fn 184 T11
abbrev AG:E:=.not (cmp .lss (fn 0 T0) T2)
abbrev T14:E:=pr T0 (pr T1 (fn 0 T0))
abbrev tP:E:=var 8
abbrev T16:E:=pr tP T10
abbrev T17:E:=fn 184 T16
abbrev px:E:=var 9
abbrev T19:=AG::T7
abbrev T20:=T3::T19
abbrev T21:E:=cmp .lss (fn 0 T0) (.ar .add .i64 T2 (.int 1))
abbrev T22:E:=.not T21
abbrev T23:E:=cmp .lss T2 px
abbrev NC:E:=.not T23
abbrev T25:E:=cmp .lss px (.int 1)
abbrev T26:E:=.not T25
abbrev T27:=[T26]
abbrev T28:=NC::T27
abbrev T29:=T6::T28
abbrev T30:=AG::T29
abbrev T31:=T3::T30
abbrev T32:E:=cmp .eql (fn 0 tP) px
abbrev T33:=[T32]
abbrev FH:E:=cmp .eql (fn 1 (pr T0 T2)) T1
abbrev T35:=T12::T7
abbrev FI:E:=pr T0 (pr T1 (.ar .add .i64 T2 (.int 1)))
abbrev ND:=T3::T29
abbrev T38:E:=cmp .lss (fn 7 (pr (fn 0 T0) (.ar .add .i64 T2 (.int 1)))) (fn 7 (pr (fn 0 T0) T2))
abbrev T39:=T17::T28
abbrev T40:=T6::T39
abbrev T41:=T5::T40
abbrev T42:E:=cmp .lss (fn 7 (pr (fn 0 T0) (.ar .add .i64 T2 (.int 1)))) (.int 0)
abbrev T43:E:=.not T42
abbrev py:E:=var 2
abbrev T45:E:=cmp .eql py (.int 0)
abbrev T46:E:=fn 117 T1
abbrev FJ:=[T46]
abbrev NE:E:=pr T1 (pr py (.int 2))
abbrev bR:E:=var 20
abbrev kw:E:=var 19
abbrev gO:E:=cmp .lss bR (fn 0 kw)
abbrev qU:E:=.not (cmp .lss bR (.int 0))
abbrev T53:E:=pr kw NE
abbrev T54:E:=fn 109 T53
abbrev T55:E:=pr T1 py
abbrev tQ:=[T54,(fn 145 T55)]
abbrev T57:E:=cmp .lss (fn 120 (pr T1 (pr (fn 1 (pr kw bR)) (fn 9 (pr (fn 1 (pr T1 (.int 0))) (.int 12)))))) (.int 0)
abbrev T58:E:=.not T57
abbrev T59:E:=pr T1 (pr py bR)
abbrev T60:E:=pr T0 T59
abbrev FK:E:=fn 151 (pr (fn 10 (.int 0)) T60)
abbrev FL:E:=.not gO
abbrev T63:E:=pr T0 T55
abbrev mv:E:=var 17
abbrev nM:E:=.not (cmp .lss bR mv)
abbrev tR:E:=.not (cmp .lss mv (.int 1))
abbrev wF:E:=var 16
abbrev AH:E:=cmp .eql (fn 0 wF) mv
abbrev T69:E:=cmp .lss (fn 0 kw) bR
abbrev NF:E:=.not T69
abbrev T71:E:=cmp .lss (.int 40) (fn 0 kw)
abbrev NG:E:=.not T71
abbrev AI:=[NG]
abbrev NH:=qU::AI
abbrev jE:E:=var 22
abbrev T76:E:=cmp .lss jE (.int (-1))
abbrev T77:E:=.not T76
abbrev wG:E:=cmp .eql jE (fn 120 (pr T1 (pr (fn 1 (pr kw bR)) (fn 9 (pr (fn 1 (pr T1 (.int 0))) (.int 12))))))
abbrev T79:E:=cmp .lss jE (.int 0)
abbrev T80:E:=.not T79
abbrev lv:E:=var 21
abbrev NI:=gO::NH
abbrev T83:E:=cmp .lss (.ar .add .i64 bR (.int 1)) (.int 0)
abbrev T84:E:=.not T83
abbrev T85:=tR::AI
abbrev T86:=nM::T85
abbrev FN:=gO::T86
abbrev NJ:E:=fn 151 (pr wF T60)
abbrev T89:E:=cmp .lss (fn 0 kw) (.ar .add .i64 bR (.int 1))
abbrev T90:E:=.not T89
abbrev T91:=NF::AI
abbrev T92:=tR::T91
abbrev T93:=nM::T92
abbrev T94:=gO::T93
abbrev wH:E:=cmp .eql lv (fn 150 (pr T0 (pr T1 (fn 1 (pr kw bR)))))
abbrev FO:E:=cmp .lss lv (.int 0)
abbrev T97:=[T54]
abbrev T98:=NG::T97
abbrev T99:=qU::T98
abbrev FG:E:=pr T0 (pr T1 (pr py (.ar .add .i64 bR (.int 1))))
abbrev aQh:E:=pr (fn 10 (.int 0)) FG
abbrev adL:E:=fn 151 aQh
abbrev adM:=NG::tQ
abbrev adN:=qU::adM
abbrev aQi:E:=cmp .lss (.ar .add .i64 bR (.int 1)) mv
abbrev adO:E:=.not aQi
abbrev adP:E:=cmp .lss (fn 7 (pr (fn 0 kw) (.ar .add .i64 bR (.int 1)))) (fn 7 (pr (fn 0 kw) bR))
abbrev adQ:E:=.not (fn 1 (pr (fn 1 (pr T1 (.int 0))) (fn 6 (pr (fn 8 (pr jE (.int 12))) (.int 9)))))
abbrev adR:E:=fn 151 (pr wF FG)
abbrev aQj:=tR::adM
abbrev aQk:=nM::aQj
abbrev adS:=NJ::aQk
abbrev aQl:E:=cmp .lss (fn 7 (pr (fn 0 kw) (.ar .add .i64 bR (.int 1)))) (.int 0)
abbrev adT:E:=.not aQl
def atl:=fa ((fn 184 (pr (fn 10 (.int 0)) (pr T0 (pr T1 (.int 0))))))<|fun F=>by
 rfl
def atm:=fb T8 (.not (cmp .lss (.ar .add .i64 T2 (.int 1)) (.int 0)))<|ag fun F p0 p1 p2=>by
 simp only[aa,ab]at *
 obtain⟨a,b,c⟩:=ae (E.I F T2+1)
 omega
def atn:=fb [(.not T3),T12,AG] (fn 184 (pr (fn 30 (.int 0)) T14))<|ag fun F p0 p1 p2=>by
 have hr0:(E.I F _=E.I F _)->E.B F (fn _ (pr (fn 30 (.int 0)) (pr _ (pr _ (fn 0 T0)))))=true:=fun s0=>a5A p1 s0
 simp only[aa]at *;grind
def atp:=fb [(.not T3),AG,T17] (fn 184 (pr (fn 28 (pr (pr (var 12) px) tP)) T14))<|ag fun F p0 p1 p2=>by
 have hr0:(E.I F _=E.I F _)->E.B F (fn _ (pr (fn 28 (pr (pr (var 12) px) _)) (pr _ (pr _ (fn 0 T0)))))=true:=fun s0=>a5z p2 s0
 simp only[aa]at *;grind
def atq:=fb T20 T22<|am fun F p0 p1 p2 p3=>by
 simp only[aa,ab]at *
 obtain⟨a,b,c⟩:=ae (E.I F T2+1)
 omega
def atr:=fb [T3,T6,NC] (.not (cmp .lss (.int 2147483648) (fn 6 (pr px (.int 1)))))<|ag fun F p0 p1 p2=>by
 simp only[aa]at *;grind
def ats:=fb T31 T22<|aw fun F p0 p1 p2 p3 p4=>by
 simp only[aa,ab]at *
 obtain⟨a,b,c⟩:=ae (E.I F T2+1)
 omega
def att:=fb (AG::NC::T33) (.not (cmp .lss (fn 0 T0) (fn 0 tP)))<|ag fun F p0 p1 p2=>by
 simp only[aa]at *;grind
def atu:=fb T8 (.not (cmp .lss (.ar .add .i64 T2 (.int 1)) (.int 1)))<|ag fun F p0 p1 p2=>by
 simp only[aa,ab]at *
 obtain⟨a,b,c⟩:=ae (E.I F T2+1)
 omega
def atv:=fb (T3::FH::T35) (fn 184 (pr (fn 10 (.int 0)) FI))<|aw fun F p0 p1 p2 p3 p4=>by
 have:=@ay F T2 (.int 1)
 have hr1:(0<=E.I F _)->(E.I F _<E.I F _)->(E.I F _=E.I F _+1)->(E.I F _=E.I F _)->E.B F (fn _ (pr _ (pr _ (pr _ (.ar .add .i64 T2 (.int 1))))))=true:=fun s0 s1 s2 s3=>apL p2 s0 s1 s2 s3
 simp only[aa]at *;grind
def atw:=fb ND (.not (cmp .lss (.ar .add .i64 T2 (.int 1)) px))<|am fun F p0 p1 p2 p3=>by
 simp only[aa,ab]at *
 obtain⟨a,b,c⟩:=ae (E.I F T2+1)
 omega
def atx:=fb (T3::(.not FH)::T35) (fn 184 (pr (fn 23 (pr (fn 1 (pr T0 T2)) (fn 10 (.int 0)))) FI))<|aw fun F p0 p1 p2 p3 p4=>by
 have:=@ay F T2 (.int 1)
 have hr0:(0<=E.I F _)->(E.I F _<E.I F _)->(E.I F _=E.I F _+1)->(¬E.I F _=E.I F _)->E.B F (fn _ (pr (fn 23 (pr _ (fn 10 (.int 0)))) (pr _ (pr _ (.ar .add .i64 T2 (.int 1))))))=true:=fun s0 s1 s2 s3=>a5C p2 s0 s1 s2 s3
 simp only[aa]at *;grind
def aty:=fb T8 T38<|ag fun F p0 p1 p2=>by
 simp only[aa,ab]at *
 obtain⟨a,b,c⟩:=ae (E.I F T2+1)
 omega
def atz:=fb (T3::FH::T41) (fn 184 (pr tP FI))<|bL fun F p0 p1 p2 p3 p4 p5 p6=>by
 have:=@ay F T2 (.int 1)
 have hr0:(0<=E.I F _)->(E.I F _<E.I F _)->(E.I F _=E.I F _+1)->(E.I F _=E.I F _)->E.B F (fn _ (pr _ (pr _ (pr _ (.ar .add .i64 T2 (.int 1))))))=true:=fun s0 s1 s2 s3=>apL p4 s0 s1 s2 s3
 simp only[aa]at *;grind
def atA:=fb T20 T43<|am fun F p0 p1 p2 p3=>by
 simp only[aa,ab]at *
 obtain⟨a,b,c⟩:=ae (E.I F T2+1)
 omega
def atB:=fb T33 (cmp .eql (fn 6 (pr (fn 0 tP) (.int 1))) (fn 6 (pr px (.int 1))))<|aj fun F p0=>by
 simp only[aa]at *;grind
def atC:=fb ND T38<|am fun F p0 p1 p2 p3=>by
 simp only[aa,ab]at *
 obtain⟨a,b,c⟩:=ae (E.I F T2+1)
 omega
def atD:=fb ND (.not (cmp .lss (.ar .add .i64 T2 (.int 1)) (fn 6 (pr px (.int 1)))))<|am fun F p0 p1 p2 p3=>by
 simp only[aa,ab]at *
 obtain⟨a,b,c⟩:=ae (E.I F T2+1)
 omega
def atE:=fb T31 T43<|aw fun F p0 p1 p2 p3 p4=>by
 simp only[aa,ab]at *
 obtain⟨a,b,c⟩:=ae (E.I F T2+1)
 omega
def atF:=fb (T3::(.not FH)::T41) (fn 184 (pr (fn 3 (pr tP (fn 23 (pr (fn 1 (pr T0 T2)) (fn 10 (.int 0)))))) FI))<|bL fun F p0 p1 p2 p3 p4 p5 p6=>by
 have:=@ay F T2 (.int 1)
 have hr0:(0<=E.I F _)->(E.I F _<E.I F _)->(E.I F _=E.I F _+1)->(¬E.I F _=E.I F _)->E.B F (fn _ (pr (fn 3 (pr _ (fn 23 (pr _ (fn 10 (.int 0)))))) (pr _ (pr _ (.ar .add .i64 T2 (.int 1))))))=true:=fun s0 s1 s2 s3=>a5B p4 s0 s1 s2 s3
 simp only[aa]at *;grind
def p64:List Fa:=[dv,atl,atm,atn,YO,atp,atq,atr,ats,att,atu,atv,atw,atx,aty,atz,atA,atB,atC,atD,atE,atF]
theorem a3D:aI Tryz.prog (aX (a2q)):=sc p64 (aWa) aml (msI) (by kernel_rfl) (by kernel_rfl)
def amm:Nl:=nc a3D aml
def atG:=fb (T45::FJ) (fn 109 (pr (fn 1 (pr T1 (.int 8))) NE))<|ai fun F p0 p1=>by
 have g0:=by
  simp only[aa]at *;omega
 have g1:E.I F _=E.I F (.int 2):=rfl;exact iF 0 2 8 (by decide) (by rfl) g0 g1
def atH:=fb ((.not T45)::(.not (cmp .lss (.int 1) py))::(.not (cmp .lss py (.int 0)))::FJ) (fn 109 (pr (fn 1 (pr T1 (.int 22))) NE))<|am fun F p0 p1 p2 p3=>by
 have g0:E.I F py=(1):=by
  simp only[aa]at *;omega
 have g1:E.I F _=E.I F (.int 2):=rfl;exact iF 1 2 22 (by decide) (by rfl) g0 g1
def atI:=fb FJ (.not (cmp .lss (.int 40) (fn 0 (fn 1 (pr T1 (.int 8))))))<|aj fun F p0=>by
 have:=ap p0
 simp only[aa]at *;omega
def atK:=fb FJ (.not (cmp .lss (.int 40) (fn 0 (fn 1 (pr T1 (.int 22))))))<|aj fun F p0=>by
 have:=ap p0
 simp only[aa]at *;omega
def atL:=fa ((fn 151 (pr (fn 10 (.int 0)) (pr T0 (pr T1 (pr py (.int 0)))))))<|fun F=>by
 rfl
def atM:=fb (gO::qU::tQ) T58<|am fun F p0 p1 p2 p3=>by
 have:=@su F _ _ _ _ p2 p3 (fn 1 (pr _ bR)) rfl
 simp only[aa]at *;grind
def atN:=fb (FK::FL::tQ) (fn 144 (pr (fn 30 (.int 0)) T63))<|am fun F p0 p1 p2 p3=>by
 have hr0:(E.I F _<=E.I F _)->E.B F (fn _ (pr (fn 30 (.int 0)) _))=true:=fun s0=>a4U (@a4W _ _ (.int 0) _ _ _ _ _ p0 p2 p3 s0)
 simp only[aa]at *;grind
def atO:=fb (gO::nM::tR::tQ) T58<|aw fun F p0 p1 p2 p3 p4=>by
 have:=@su F _ _ _ _ p3 p4 (fn 1 (pr _ bR)) rfl
 simp only[aa]at *;grind
def atP:=fb (FL::nM::AH::NF::NH) (.not (cmp .lss (.int 60) mv))<|bq fun F p0 p1 p2 p3 p4 p5=>by
 simp only[aa]at *;omega
def atQ:=fb (gO::T77::wG::qU::tQ) T80<|bq fun F p0 p1 p2 p3 p4 p5=>by
 have:=@su F _ _ _ _ p4 p5 (fn 1 (pr _ bR)) rfl
 simp only[aa]at *;grind
def atS:=fb (gO::T77::wG::nM::tR::tQ) T80<|bL fun F p0 p1 p2 p3 p4 p5 p6=>by
 have:=@su F _ _ _ _ p5 p6 (fn 1 (pr _ bR)) rfl
 simp only[aa]at *;grind
def atT:=fb (nM::AH::NF::qU::FL::(cmp .eql (fn 0 lv) jE)::(cmp .eql jE mv)::AI) (.not (cmp .lss (.int 40) (fn 0 lv)))<|b7 fun F p0 p1 p2 p3 p4 p5 p6 p7=>by
 simp only[aa]at *;omega
def atU:=fb NI T84<|ag fun F p0 p1 p2=>by
 simp only[aa,ab]at *
 obtain⟨a,b,c⟩:=ae (E.I F bR+1)
 omega
def atW:=fb [(.not (cmp .lss (var 18) mv)),tR] (.not (cmp .lss (var 18) (.int 0)))<|ai fun F p0 p1=>by
 simp only[aa]at *;grind
def atX:=fb FN T84<|am fun F p0 p1 p2 p3=>by
 simp only[aa,ab]at *
 obtain⟨a,b,c⟩:=ae (E.I F bR+1)
 omega
def atY:=fb (FL::(fn 152 (pr lv (pr wF mv)))::NJ::AH::tQ) (fn 144 (pr (fn 28 (pr (pr (var 24) jE) lv)) T63))<|bq fun F p0 p1 p2 p3 p4 p5=>by
 have hr0:(E.I F _<=E.I F _)->(E.I F _<=E.I F _)->E.B F (fn _ (pr (fn 28 (pr (pr (var 24) jE) _)) _))=true:=fun s0 s1=>a4T (a4V p2 p4 p5 p1 s0 s1)
 simp only[aa]at *;grind
def atZ:=fb [gO,qU] T90<|ai fun F p0 p1=>by
 simp only[aa,ab]at *
 obtain⟨a,b,c⟩:=ae (E.I F bR+1)
 omega
def at1:=fb (gO::nM::AI) (.not (cmp .lss (.int 2147483648) (fn 6 (pr mv (.int 1)))))<|ag fun F p0 p1 p2=>by
 simp only[aa]at *;grind
def at2:=fb T94 T90<|aw fun F p0 p1 p2 p3 p4=>by
 simp only[aa,ab]at *
 obtain⟨a,b,c⟩:=ae (E.I F bR+1)
 omega
def at3:=fb (FK::gO::wH::FO::T99) adL<|bL fun F p0 p1 p2 p3 p4 p5 p6=>by
 have:=@ay F bR (.int 1)
 have:=@zi F _ _ _ (.ar .add .i64 bR (.int 1)) _ _ _ p0 p6 _ lv _ (fn 1 (pr _ (fn 6 (pr (fn 8 (pr (.int 0) _)) _)))) rfl rfl
 simp only[aa]at *;grind
def at4:=fb NI (.not (cmp .lss (.ar .add .i64 bR (.int 1)) (.int 1)))<|ag fun F p0 p1 p2=>by
 simp only[aa,ab]at *
 obtain⟨a,b,c⟩:=ae (E.I F bR+1)
 omega
def at5:=fb (FK::gO::wH::wG::(fn 1 (pr (fn 1 (pr T1 (.int 0))) (fn 6 (pr (fn 8 (pr jE (.int 12))) (.int 9)))))::adN) adL<|b8 fun F p0 p1 p2 p3 p4 p5 p6 p7 p8=>by
 have:=@ay F bR (.int 1)
 have:=@su F _ _ _ _ p7 p8 (fn 1 (pr _ bR)) rfl
 have:=@zi F _ _ _ (.ar .add .i64 bR (.int 1)) _ _ _ p0 p7 _ lv _ (fn 1 (pr _ (fn 6 (pr (fn 8 (pr jE _)) _)))) rfl rfl
 simp only[aa]at *;grind
def at6:=fb (gO::nM::AH::NH) adO<|aw fun F p0 p1 p2 p3 p4=>by
 simp only[aa,ab]at *
 obtain⟨a,b,c⟩:=ae (E.I F bR+1)
 omega
def at8:=fb FN adO<|am fun F p0 p1 p2 p3=>by
 simp only[aa,ab]at *
 obtain⟨a,b,c⟩:=ae (E.I F bR+1)
 omega
def at9:=fb NI adP<|ag fun F p0 p1 p2=>by
 simp only[aa,ab]at *
 obtain⟨a,b,c⟩:=ae (E.I F bR+1)
 omega
def aua:=fb (FK::gO::wH::(.not FO)::wG::adQ::adN) (fn 151 (pr (fn 23 (pr (fn 1 (pr kw bR)) (fn 10 (.int 0)))) FG))<|fA fun F p0 p1 p2 p3 p4 p5 p6 p7 p8 p9=>by
 have:=@ay F bR (.int 1)
 have:=@su F _ _ _ _ p8 p9 (fn 1 (pr _ bR)) rfl
 have hnil0:aq F (fn 10 (.int 0))=[]:=rfl
 have:=@zi F _ _ _ (.ar .add .i64 bR (.int 1)) _ _ _ p0 p8 _ lv _ (fn 1 (pr _ (fn 6 (pr (fn 8 (pr jE _)) _)))) rfl rfl
 simp only[aa]at *;grind
def aub:=fb (gO::wH::FO::NJ::nM::tR::T99) adR<|b8 fun F p0 p1 p2 p3 p4 p5 p6 p7 p8=>by
 have:=@ay F bR (.int 1)
 have:=@zi F _ _ _ (.ar .add .i64 bR (.int 1)) _ _ _ p3 p8 _ lv _ (fn 1 (pr _ (fn 6 (pr (fn 8 (pr (.int 0) _)) _)))) rfl rfl
 simp only[aa]at *;grind
def auc:=fb (gO::wH::wG::(fn 1 (pr (fn 1 (pr T1 (.int 0))) (fn 6 (pr (fn 8 (pr jE (.int 12))) (.int 9)))))::adS) adR<|fA fun F p0 p1 p2 p3 p4 p5 p6 p7 p8 p9=>by
 have:=@ay F bR (.int 1)
 have:=@su F _ _ _ _ p8 p9 (fn 1 (pr _ bR)) rfl
 have:=@zi F _ _ _ (.ar .add .i64 bR (.int 1)) _ _ _ p4 p8 _ lv _ (fn 1 (pr _ (fn 6 (pr (fn 8 (pr jE _)) _)))) rfl rfl
 simp only[aa]at *;grind
def aud:=fb [gO,qU] adT<|ai fun F p0 p1=>by
 simp only[aa,ab]at *
 obtain⟨a,b,c⟩:=ae (E.I F bR+1)
 omega
def aue:=fb [AH] (cmp .eql (fn 6 (pr (fn 0 wF) (.int 1))) (fn 6 (pr mv (.int 1))))<|aj fun F p0=>by
 simp only[aa]at *;grind
def auf:=fb FN adP<|am fun F p0 p1 p2 p3=>by
 simp only[aa,ab]at *
 obtain⟨a,b,c⟩:=ae (E.I F bR+1)
 omega
def aug:=fb FN (.not (cmp .lss (.ar .add .i64 bR (.int 1)) (fn 6 (pr mv (.int 1)))))<|am fun F p0 p1 p2 p3=>by
 simp only[aa,ab]at *
 obtain⟨a,b,c⟩:=ae (E.I F bR+1)
 omega
def auh:=fb T94 adT<|aw fun F p0 p1 p2 p3 p4=>by
 simp only[aa,ab]at *
 obtain⟨a,b,c⟩:=ae (E.I F bR+1)
 omega
def aui:=fb (gO::wH::(.not FO)::wG::adQ::adS) (fn 151 (pr (fn 3 (pr wF (fn 23 (pr (fn 1 (pr kw bR)) (fn 10 (.int 0)))))) FG))<|eW fun F p0 p1 p2 p3 p4 p5 p6 p7 p8 p9 ao=>by
 have:=@ay F bR (.int 1)
 have:=@su F _ _ _ _ p9 ao (fn 1 (pr _ bR)) rfl
 have:=@zi F _ _ _ (.ar .add .i64 bR (.int 1)) _ _ _ p5 p9 _ lv _ (fn 1 (pr _ (fn 6 (pr (fn 8 (pr jE _)) _)))) rfl rfl
 simp only[aa]at *;grind
def p65:List Fa:=[dv,atG,atH,atI,atK,atL,atM,atN,atO,atP,atQ,atS,atT,atU,atW,atX,atY,atZ,at1,at2,at3,at4,at5,at6,at8,at9,aua,aub,auc,aud,aue,auf,aug,auh,aui]
theorem a3E:aI Tryz.prog (aX (a2e)):=sc p65 (aVZ) amm (msI) (by kernel_rfl) (by kernel_rfl)
def amn:Nl:=nc a3E amm
end
end Go.Proofs.YtnnbmcfabojjjaaGreat.payPays
