/-
  PayPays: one reckoning by the kernel, Sx contracts of functions and facts.
-/
import Derived.Test.YtnnbmcfabojjjaaGreatRows
import Derived.Test.YtnnbmcfabojjjaaGreatNat
import Derived.WalkKit
import Derived.ProofKit
import Derived.OpenShut
import Derived.ChangeOld
import Derived.Below
import Derived.KernelRfl
import Derived.Lib.SmallJoins
import Derived.Laws.IdiomArrays
import Derived.Test.YtnnbmcfabojjjaaGreatPayPaysPartt
namespace Go.Proofs.YtnnbmcfabojjjaaGreat.payPays
open Go.ChangeShapes Go.WideShapes Go.ChangeAt Go.RowKit
open Go.SX
open Go.SX.E (fn pr cmp var)
set_option linter.unusedVariables false
set_option linter.unusedSimpArgs false
set_option maxRecDepth 100000
noncomputable section
abbrev dm:E:=var 3
abbrev cM:E:=var 17
abbrev w5:E:=var 0
abbrev ci:E:=var 16
abbrev nQ:E:=var 2
abbrev UU5:E:=pr nQ (.int 0)
abbrev UU6:E:=pr ci UU5
abbrev UU7:E:=pr w5 UU6
abbrev UU8:E:=pr (fn 1 (pr dm (fn 6 (pr (fn 8 (pr cM (.int 5))) (.int 3))))) UU7
abbrev UU9:E:=pr (fn 1 (pr dm (fn 6 (pr (fn 8 (pr cM (.int 5))) (.int 2))))) UU8
abbrev aQY:E:=pr (fn 1 (pr dm (fn 6 (pr (fn 8 (pr cM (.int 5))) (.int 1))))) UU9
abbrev aQZ:E:=pr (fn 1 (pr dm (fn 6 (pr (fn 8 (pr cM (.int 5))) (.int 0))))) aQY
abbrev aQ0:E:=pr (fn 1 (pr dm (fn 6 (pr (fn 8 (pr cM (.int 5))) (.int 4))))) aQZ
abbrev aQ1:E:=pr (.int 4) aQ0
abbrev aed:E:=fn 177 aQ1
abbrev F8:E:=pr (fn 1 (pr dm (fn 6 (pr (fn 8 (pr cM (.int 5))) (.int 0))))) (pr (fn 1 (pr dm (fn 6 (pr (fn 8 (pr cM (.int 5))) (.int 1))))) (pr (fn 1 (pr dm (fn 6 (pr (fn 8 (pr cM (.int 5))) (.int 2))))) (pr (fn 1 (pr dm (fn 6 (pr (fn 8 (pr cM (.int 5))) (.int 3))))) (pr (fn 1 (pr dm (fn 6 (pr (fn 8 (pr cM (.int 5))) (.int 4))))) UU7))))
abbrev wZ:E:=var 19
abbrev w4:E:=fn 145 (pr ci nQ)
abbrev NW:E:=fn 146 (pr (fn 1 (pr dm (fn 6 (pr (fn 8 (pr cM (.int 5))) (.int 0))))) (pr (fn 1 (pr dm (fn 6 (pr (fn 8 (pr cM (.int 5))) (.int 1))))) (pr (fn 1 (pr dm (fn 6 (pr (fn 8 (pr cM (.int 5))) (.int 2))))) (pr (fn 1 (pr dm (fn 6 (pr (fn 8 (pr cM (.int 5))) (.int 3))))) (fn 1 (pr dm (fn 6 (pr (fn 8 (pr cM (.int 5))) (.int 4)))))))))
abbrev F9:E:=.and w4 NW
abbrev aQ2:E:=cmp .lss (.int 12) (fn 9 (pr w5 (.int 14)))
abbrev NX:E:=.not aQ2
abbrev NY:E:=fn 155 (pr w5 (fn 9 (pr w5 (.int 14))))
abbrev aQ3:E:=.and NX NY
abbrev aQ4:E:=.imp (var 4) aQ3
abbrev aee:=[aQ4,(var 4)]
abbrev Ga:E:=cmp .lss cM (fn 9 (pr dm (.int 5)))
abbrev aQ5:E:=cmp .lss cM (.int 0)
abbrev aef:E:=.not aQ5
abbrev aQ6:E:=cmp .lss (.int 6) (fn 9 (pr dm (.int 5)))
abbrev aeg:E:=.not aQ6
abbrev aQ7:=[aeg]
abbrev aeh:=aef::aQ7
abbrev aei:=Ga::aeh
abbrev aQ8:E:=cmp .lss nQ (.int 0)
abbrev aej:E:=.not aQ8
abbrev tU:E:=fn 182 F8
abbrev NZ:E:=.iff (var 61) F9
abbrev iP:E:=fn 117 ci
abbrev aek:E:=fn 116 ci
abbrev aQ9:E:=cmp .lss (fn 9 (pr dm (.int 5))) cM
abbrev ael:E:=.not aQ9
abbrev aRa:=[NX]
abbrev aRb:=NY::aRa
abbrev aRc:=aeg::aRb
abbrev aRd:=aef::aRc
abbrev aRe:=ael::aRd
abbrev aRf:=aek::aRe
abbrev aem:=iP::aRf
abbrev aRg:=ael::aeh
abbrev aen:=Ga::aRg
abbrev aRh:=NZ::aem
abbrev aRi:=tU::aRh
abbrev aeo:=Ga::aRi
abbrev aRj:E:=cmp .lss (.int 1) nQ
abbrev aep:E:=.not aRj
abbrev aeq:E:=cmp .eql (var 48) (fn 9 (pr (fn 1 (pr ci (.int 29))) (.int 5)))
abbrev aer:E:=cmp .eql (var 51) (fn 9 (pr (fn 1 (pr ci (.int 30))) (.int 5)))
abbrev aRk:E:=pr (var 47) (fn 1 (pr ci (.int 29)))
abbrev aes:E:=fn 187 aRk
abbrev aRl:E:=pr (var 50) (fn 1 (pr ci (.int 30)))
abbrev aet:E:=fn 187 aRl
def azh:=fb [aed] (.not (fn 198 (pr (var 20) F8)))<|aj fun F p0=>by
 simp_all[aXc]
def azi:=fb [(.iff wZ F9),(.not F9)] (.not wZ)<|ai fun F p0 p1=>by
 simp_all
def azj:=fb aee NX<|ai fun F p0 p1=>by
 simp_all
def azk:=fb aee NY<|ai fun F p0 p1=>by
 simp_all
def azl:=fb aei (.not (cmp .lss (.ar .add .i64 cM (.int 1)) (.int 0)))<|ag fun F p0 p1 p2=>by
 simp only[aa,ab]at *
 obtain⟨a,b,c⟩:=ae (E.I F cM+1)
 omega
def azm:=fb [NW,w4,(.iff wZ F9)] wZ<|ag fun F p0 p1 p2=>by
 simp_all
def azn:=fb [w4] aej<|aj fun F p0=>by
 have:=@dX F nQ ci
 simp only[aa]at *;grind
def azp:=fb [tU,NZ] (var 61)<|ai fun F p0 p1=>by
 simp_all[sK]
def azq:=fb (Ga::tU::NZ::(var 61)::aem) w4<|eW fun F p0 p1 p2 p3 p4 p5 p6 p7 p8 p9 ao=>by
 simp_all
def azr:=fb aen (.not (cmp .lss (fn 9 (pr dm (.int 5))) (.ar .add .i64 cM (.int 1))))<|am fun F p0 p1 p2 p3=>by
 simp only[aa,ab]at *
 obtain⟨a,b,c⟩:=ae (E.I F cM+1)
 omega
def azs:=fb aeo w4<|fA fun F p0 p1 p2 p3 p4 p5 p6 p7 p8 p9=>by
 simp_all[sK]
def azt:=fb aei (cmp .lss (fn 7 (pr (fn 9 (pr dm (.int 5))) (.ar .add .i64 cM (.int 1)))) (fn 7 (pr (fn 9 (pr dm (.int 5))) cM)))<|ag fun F p0 p1 p2=>by
 simp only[aa,ab]at *
 obtain⟨a,b,c⟩:=ae (E.I F cM+1)
 omega
def azu:=fb [w4] aep<|aj fun F p0=>by
 have:=@dX F nQ ci
 simp only[aa]at *;grind
def azv:=fb [tU] aej<|aj fun F p0=>by
 have:=@sK F (fn 1 (pr dm (fn 6 (pr (fn 8 (pr cM (.int 5))) (.int 4))))) (fn 1 (pr dm (fn 6 (pr (fn 8 (pr cM (.int 5))) (.int 0))))) (fn 1 (pr dm (fn 6 (pr (fn 8 (pr cM (.int 5))) (.int 1))))) (fn 1 (pr dm (fn 6 (pr (fn 8 (pr cM (.int 5))) (.int 2))))) (fn 1 (pr dm (fn 6 (pr (fn 8 (pr cM (.int 5))) (.int 3))))) w5 ci nQ
 have:=@dX F nQ ci
 simp only[aa]at *;grind
def azw:=fb aen (.not (cmp .lss (fn 7 (pr (fn 9 (pr dm (.int 5))) (.ar .add .i64 cM (.int 1)))) (.int 0)))<|am fun F p0 p1 p2 p3=>by
 simp only[aa,ab]at *
 obtain⟨a,b,c⟩:=ae (E.I F cM+1)
 omega
def azx:=fb [tU] aep<|aj fun F p0=>by
 have:=@sK F (fn 1 (pr dm (fn 6 (pr (fn 8 (pr cM (.int 5))) (.int 4))))) (fn 1 (pr dm (fn 6 (pr (fn 8 (pr cM (.int 5))) (.int 0))))) (fn 1 (pr dm (fn 6 (pr (fn 8 (pr cM (.int 5))) (.int 1))))) (fn 1 (pr dm (fn 6 (pr (fn 8 (pr cM (.int 5))) (.int 2))))) (fn 1 (pr dm (fn 6 (pr (fn 8 (pr cM (.int 5))) (.int 3))))) w5 ci nQ
 have:=@dX F nQ ci
 simp only[aa]at *;grind
def azy:=fb aeo NW<|fA fun F p0 p1 p2 p3 p4 p5 p6 p7 p8 p9=>by
 simp_all[sK]
def azA:=fb [tU] (.not aed)<|aj fun F p0=>by
 simp_all[sK]
def azB:=fb [iP,(cmp .eql (var 21) (fn 9 (pr (fn 1 (pr ci (.int 0))) (.int 12))))] (.not (cmp .lss (.int 40) (var 21)))<|ai fun F p0 p1=>by
 have:=Eq.mp dw p0
 simp only[aa]at *;omega
def azC:=fb [iP,(cmp .eql (var 24) (fn 9 (pr (fn 1 (pr ci (.int 6))) (.int 1))))] (.not (cmp .lss (.int 40) (var 24)))<|ai fun F p0 p1=>by
 have q1:=Eq.mp dw p0
 have:=Eq.mp iH q1.1
 have:=@fX F (fn 1 (pr ci (.int 6)))
 simp only[aa]at *;omega
def azD:=fb [iP,(cmp .eql (var 27) (fn 9 (pr (fn 1 (pr ci (.int 7))) (.int 1))))] (.not (cmp .lss (.int 40) (var 27)))<|ai fun F p0 p1=>by
 have q1:=Eq.mp dw p0
 have:=Eq.mp iH q1.1
 have:=@fX F (fn 1 (pr ci (.int 7)))
 simp only[aa]at *;omega
def azE:=fb [iP,(cmp .eql (var 30) (fn 9 (pr (fn 1 (pr ci (.int 8))) (.int 1))))] (.not (cmp .lss (.int 40) (var 30)))<|ai fun F p0 p1=>by
 have q1:=Eq.mp dw p0
 have:=Eq.mp iH q1.1
 have:=@fX F (fn 1 (pr ci (.int 8)))
 simp only[aa]at *;omega
def azF:=fb [iP,(cmp .eql (var 33) (fn 9 (pr (fn 1 (pr ci (.int 9))) (.int 1))))] (.not (cmp .lss (.int 40) (var 33)))<|ai fun F p0 p1=>by
 have q1:=Eq.mp dw p0
 have:=Eq.mp iH q1.1
 have:=@fX F (fn 1 (pr ci (.int 9)))
 simp only[aa]at *;omega
def azG:=fb [iP,(cmp .eql (var 36) (fn 9 (pr (fn 1 (pr ci (.int 20))) (.int 1))))] (.not (cmp .lss (.int 40) (var 36)))<|ai fun F p0 p1=>by
 have q1:=Eq.mp dw p0
 have:=Eq.mp iH q1.1
 have:=@fX F (fn 1 (pr ci (.int 20)))
 simp only[aa]at *;omega
def azH:=fb [iP,(cmp .eql (var 39) (fn 9 (pr (fn 1 (pr ci (.int 21))) (.int 1))))] (.not (cmp .lss (.int 40) (var 39)))<|ai fun F p0 p1=>by
 have q1:=Eq.mp dw p0
 have:=Eq.mp iH q1.1
 have:=@fX F (fn 1 (pr ci (.int 21)))
 simp only[aa]at *;omega
def azI:=fb [iP,(cmp .eql (var 42) (fn 9 (pr (fn 1 (pr ci (.int 22))) (.int 1))))] (.not (cmp .lss (.int 40) (var 42)))<|ai fun F p0 p1=>by
 have q1:=Eq.mp dw p0
 have:=Eq.mp iH q1.1
 have:=@fX F (fn 1 (pr ci (.int 22)))
 simp only[aa]at *;omega
def azJ:=fb [iP,(cmp .eql (var 45) (fn 9 (pr (fn 1 (pr ci (.int 23))) (.int 1))))] (.not (cmp .lss (.int 40) (var 45)))<|ai fun F p0 p1=>by
 have q1:=Eq.mp dw p0
 have:=Eq.mp iH q1.1
 have:=@fX F (fn 1 (pr ci (.int 23)))
 simp only[aa]at *;omega
def azL:=fb [iP,aeq] (.not (cmp .lss (.int 40) (var 48)))<|ai fun F p0 p1=>by
 have:=Eq.mp dw p0
 simp only[aa]at *;omega
def azM:=fb [iP,aer] (.not (cmp .lss (.int 40) (var 51)))<|ai fun F p0 p1=>by
 have:=Eq.mp dw p0
 simp only[aa]at *;omega
def azN:=fb [iP,(cmp .eql (var 54) (fn 9 (pr (fn 1 (pr ci (.int 31))) (.int 1))))] (.not (cmp .lss (.int 40) (var 54)))<|ai fun F p0 p1=>by
 have:=Eq.mp dw p0
 have:=@fX F (fn 1 (pr ci (.int 31)))
 simp only[aa]at *;omega
def azO:=fb [iP,(cmp .eql (var 57) (fn 9 (pr (fn 1 (pr ci (.int 32))) (.int 2))))] (.not (cmp .lss (.int 40) (var 57)))<|ai fun F p0 p1=>by
 have:=Eq.mp dw p0
 simp only[aa]at *;omega
def azP:=fb [aeq,aes,iP] (fn 158 (pr (var 47) (var 48)))<|ag fun F p0 p1 p2=>by
 have ej:=by
  simp only[aa]at *;omega
 grind[ao7,dw]
def azQ:=fb [aer,aet,iP] (fn 158 (pr (var 50) (var 51)))<|ag fun F p0 p1 p2=>by
 have ej:=by
  simp only[aa]at *;omega
 grind[ao7,dw]
def azR:=fb [(fn 200 (pr (var 56) (fn 1 (pr ci (.int 32))))),(fn 200 (pr (var 53) (fn 1 (pr ci (.int 31))))),aet,aes,(fn 200 (pr (var 44) (fn 1 (pr ci (.int 23))))),(fn 200 (pr (var 41) (fn 1 (pr ci (.int 22))))),(fn 200 (pr (var 38) (fn 1 (pr ci (.int 21))))),(fn 200 (pr (var 35) (fn 1 (pr ci (.int 20))))),(fn 200 (pr (var 32) (fn 1 (pr ci (.int 9))))),(fn 200 (pr (var 29) (fn 1 (pr ci (.int 8))))),(fn 200 (pr (var 26) (fn 1 (pr ci (.int 7))))),(fn 200 (pr (var 23) (fn 1 (pr ci (.int 6))))),(fn 219 (pr wZ (pr (var 20) F8))),tU,(fn 116 (var 62)),(fn 198 (pr (var 62) F8)),aek] (fn 221 (pr (var 62) (pr wZ (pr (var 20) (pr (var 23) (pr (var 26) (pr (var 29) (pr (var 32) (pr (var 35) (pr (var 38) (pr (var 41) (pr (var 44) (pr (var 47) (pr (var 50) (pr (var 53) (pr (var 56) (.int 0)))))))))))))))))<|x7 fun F p0 p1 p2 p3 p4 p5 p6 p7 p8 p9 ao au az aE aM aN bb=>by
 have h145:=(Eq.mp sK aE).1;exact a5X aN az h145 aM bb au ao p9 p8 p7 p6 p5 p4 p3 p2 p1 p0
def mF:List Fa:=[dv,azh,azi,azj,azk,azl,azm,azn,azp,azq,azr,azs,azt,azu,azv,azw,azx,azy,azA,azB,azC,azD,azE,azF,azG,azH,azI,azJ,azL,azM,azN,azO,azP,azQ,azR]
theorem anW:oX Tryz.prog (fun tb=>uM yJ (run Tryz.prog (tb.plus (fl mF) aih a6R.l) 3000 (.call 3 aWk) .nil (vQ 4 SL) SX.one))=true:=by kernel_rfl

theorem walk{H:Type}(W:World)(base:Nat)(enc:TypeId×Value->H)(v0:Value)(d0:DataW H)(p0:List MemPlace)(v1:Value)(d1:DataW H)(p1:List MemPlace)(v2:Value)(d2:DataW H)(p2:List MemPlace)(v3:Value)(d3:DataW H)(p3:List MemPlace)
  (o0:Value.okWide Tryz.prog W .any base 22 v0)(h0:DataW.Trod enc Tryz.prog W 0 (fun _=>true) true 22 v0 d0 p0)
  (o1:Value.okWide Tryz.prog W .any base 34 v1)(h1:DataW.Trod enc Tryz.prog W 0 (fun _=>true) true 34 v1 d1 p1)
  (o2:Value.okWide Tryz.prog W .any base 3 v2)(h2:DataW.Trod enc Tryz.prog W 0 (fun _=>true) true 3 v2 d2 p2)
  (o3:Value.okWide Tryz.prog W .any base 35 v3)(h3:DataW.Trod enc Tryz.prog W 0 (fun _=>true) true 35 v3 d3 p3):
  Calls Tryz.prog 3 #[v0,v1,v2,v3] W fun e W'=>e=.returned (.bool true)/\Below W.heap.size W W':=by
 obtain⟨x0,rfl,k0,w0⟩:=am3 (n:=9) (ks:=kC) Tryz.underlying22 (by kernel_rfl) o0 h0
 obtain⟨x1,rfl,l1,k1,w1,s1⟩:=a0m aXa (n:=9) (ks:=kB) Tryz.underlying34 (by kernel_rfl) o1 h1
 obtain⟨x2,rfl,_,_,w2⟩:=open_int Tryz.underlying3 o2 h2
 have r2:=a6z w2
 obtain⟨x3,rfl,k3,w3⟩:=am3 (n:=9) (ks:=kL) Tryz.underlying35 (by kernel_rfl) o3 h3
 have q0:=aqp w0;have q3:=aqp w3;refine aqm good (facts:=fl mF) (gU _) (anns:=aih) (iE _ (by kernel_rfl)) a6R.h (vs:=[x0,.lst x1,.int x2,x3]) (pc:=SL) anW ?_ W ⟨k0,⟨⟨k1 0 _ rfl,trivial,trivial,trivial,trivial,trivial,k1 6 _ rfl,k1 7 _ rfl,k1 8 _ rfl,k1 9 _ rfl,trivial,trivial,trivial,trivial,trivial,trivial,trivial,trivial,trivial,trivial,k1 20 _ rfl,k1 21 _ rfl,k1 22 _ rfl,k1 23 _ rfl,trivial,trivial,trivial,trivial,trivial,k1 29 _ rfl,k1 30 _ rfl,k1 31 _ rfl,k1 32 _ rfl,trivial,trivial,trivial,trivial,trivial,trivial⟩,⟨trivial,⟨k3,trivial⟩⟩⟩⟩;unfold SL;try simp only[aqs,akl,List.cons_append,List.nil_append]
 repeat' (refine a0J ?_ ?_)
 all_goals first
  |exact a0K
  |(exact a6p l1 w1)
  |(first | exact q0 | exact q3 | skip;done)
  |(simp only[af,gt,eV,Env.of,aon,a1r,aol,aom,getD_cons_zero,getD_cons_succ,a6l];omega)

set_option maxRecDepth 100000 in
theorem aZh(os:Os)(started:os.Started)(H:Type)(enc:TypeId×Value->H):
    ReturnsInHanded {} Tryz.checked os 3 .any (Rows.payPaysSpec.pre6 enc Tryz.prog Tryz.f3 Rows.payPaysRow.domain false) (Rows.payPaysSpec.post enc Tryz.prog Tryz.f3 false true false false):=by
  refine returnsInHanded_of_change (C:=Tryz.checked) own started (by kernel_rfl) Tryz.func3
    (ChangeSpec.witness6 (enc:=enc) (C:=Tryz.checked) false ⟨#[],#[.slice none 0 0,.agg #[.slice none 0 0,.int .i64 0,.int .i64 0,.int .i64 0,.int .i64 0,.int .i64 0,.slice none 0 0,.slice none 0 0,.slice none 0 0,.slice none 0 0,.bool false,.bool false,.bool false,.int .i64 0,.int .i64 0,.int .i64 0,.int .i64 0,.int .i64 0,.int .i64 0,.int .i64 0,.slice none 0 0,.slice none 0 0,.slice none 0 0,.slice none 0 0,.bool false,.bool false,.bool false,.int .i64 0,.int .i64 0,.slice none 0 0,.slice none 0 0,.slice none 0 0,.slice none 0 0,.int .i64 0,.int .i64 0,.int .i64 0,.int .i64 0,.int .i64 0],.int .i64 0,.slice none 0 0],[]⟩ 8 (by kernel_rfl) (by kernel_rfl) (by kernel_rfl) (by kernel_rfl)) ?_
  intro W base args ds gs before hval0 hW hcnd _;have hval:∀(j:Nat) t v,Tryz.f3.params[j]? =some t->args[j]? =some v->Value.okWide Tryz.prog W .any base t v:=hval0;have hW':=hW
  obtain⟨p,q,hA0,hV,rfl,hfz,hnd⟩:=hW
  have hA:DataW.TrodAll enc Tryz.prog W 0 (fun _=>true) true Tryz.f3.params.toList args.toList ds p:=hA0
  rw[Tryz.params3]at hA hval
  obtain⟨v0,vs0,d0,ds0,p0,q0,hargs,rfl,rfl,h0,r0⟩:=trodAll_cons hA
  obtain⟨v1,vs1,d1,ds1,p1,q1,rfl,rfl,rfl,h1,r1⟩:=trodAll_cons r0
  obtain⟨v2,vs2,d2,ds2,p2,q2,rfl,rfl,rfl,h2,r2⟩:=trodAll_cons r1
  obtain⟨v3,vs3,d3,ds3,p3,q3,rfl,rfl,rfl,h3,r3⟩:=trodAll_cons r2
  obtain⟨rfl,rfl,rfl⟩:=trodAll_nil r3
  obtain rfl:args= #[v0,v1,v2,v3]:=by cases args;simp_all
  obtain⟨rfl,rfl⟩:=trodVars_none hV
  have lt0:∀x∈p0,x.block<W.heap.size:=by obtain⟨m,hm⟩:=h0;exact DataW.trod_lt m _ _ _ hm
  have lt1:∀x∈p1,x.block<W.heap.size:=by obtain⟨m,hm⟩:=h1;exact DataW.trod_lt m _ _ _ hm
  have lt2:∀x∈p2,x.block<W.heap.size:=by obtain⟨m,hm⟩:=h2;exact DataW.trod_lt m _ _ _ hm
  have lt3:∀x∈p3,x.block<W.heap.size:=by obtain⟨m,hm⟩:=h3;exact DataW.trod_lt m _ _ _ hm
  have o0:=hval 0 22 v0 rfl rfl;have o1:=hval 1 34 v1 rfl rfl;have o2:=hval 2 3 v2 rfl rfl;have o3:=hval 3 35 v3 rfl rfl;clear hA0 hval0
  refine(walk W base enc v0 d0 p0 v1 d1 p1 v2 d2 p2 v3 d3 p3 o0 h0 o1 h1 o2 h2 o3 h3).mono fun e W' ⟨he,bel⟩=>?_
  subst he
  exact⟨_,rfl,_,_,_,[],_,[],hW',trodAll_mk1 (shut_bool Tryz.underlying4 _),(trodAll_cons_mk (Below.trod laidOut (by kernel_rfl) (of_decide_eq_true (by kernel_rfl)) h0 bel lt0) (trodAll_cons_mk (Below.trod laidOut (by kernel_rfl) (of_decide_eq_true (by kernel_rfl)) h1 bel lt1) (trodAll_cons_mk (Below.trod laidOut (by kernel_rfl) (of_decide_eq_true (by kernel_rfl)) h2 bel lt2) (trodAll_cons_mk (Below.trod laidOut (by kernel_rfl) (of_decide_eq_true (by kernel_rfl)) h3 bel lt3) trodAll_mk0)))),rfl,bel.frame _,fun h=>by cases h⟩

theorem Sx:Rows.payPaysRow.holds Tryz.pinned (OpenSpec.ofChange Rows.payPaysSpec):=
 OpenClaim.holds_of_wide 3 Tryz.f3 rfl rfl rfl rfl rfl rfl rfl ⟨rfl,rfl,rfl,rfl,rfl⟩ rfl rfl rfl rfl rfl (by kernel_rfl) Tryz.func3 (by kernel_rfl)
  (of_decide_eq_true (by kernel_rfl)) (by unfold Func.isWrapper;first | (rw[if_pos (by decide +kernel)];kernel_rfl) | (rw[if_neg (by decide +kernel)];exact⟨rfl,rfl⟩))
  (fun os started H enc _=>aZh os started H enc)

theorem proved:Rows.PayPaysSaid:=Sx

end
end Go.Proofs.YtnnbmcfabojjjaaGreat.payPays
