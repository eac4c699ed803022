/-
  CombatBlocks: one reckoning by the kernel, E7 contracts of functions and facts.
-/
import Derived.Test.YtnggbcblogpnfaaGreatRows
import Derived.Test.YtnggbcblogpnfaaGreatNat
import Derived.WalkKit
import Derived.ProofKit
import Derived.OpenShut
import Derived.ChangeOld
import Derived.Below
import Derived.KernelRfl
import Derived.Lib.SmallJoins
import Derived.Laws.IdiomArrays
import Derived.Test.YtnggbcblogpnfaaGreatCombatBlocksPartq
namespace Go.Proofs.YtnggbcblogpnfaaGreat.combatBlocks
open Go.ChangeShapes Go.WideShapes Go.ChangeAt Go.RowKit
open Go.SX
open Go.SX.E (fn pr cmp var)
set_option linter.unusedVariables false
set_option linter.unusedSimpArgs false
set_option maxRecDepth 100000
noncomputable section
abbrev bK:E:=var 1
abbrev oJ:E:=fn 115 bK
abbrev sR:E:=var 8
abbrev wR:E:=fn 130 bK
abbrev AZ:E:=var 0
abbrev NN5:E:=cmp .lss (.int 12) (fn 9 (pr AZ (.int 14)))
abbrev UL:E:=.not NN5
abbrev NN7:E:=pr AZ (fn 9 (pr AZ (.int 14)))
abbrev UM:E:=fn 155 NN7
abbrev NN9:E:=.and UL UM
abbrev azp:E:=.imp (var 4) NN9
abbrev UB:=[azp,(var 4)]
abbrev wP:E:=var 7
abbrev IG:E:=pr AZ bK
abbrev azq:E:=pr wP IG
abbrev azr:E:=fn 232 azq
abbrev UC:E:=.imp oJ azr
abbrev azs:E:=fn 232 (pr (var 52) IG)
abbrev azt:=[azs]
abbrev azu:=oJ::azt
abbrev UD:=UC::azu
abbrev wQ:E:=var 9
abbrev azv:E:=fn 232 (pr wQ IG)
abbrev azw:=[azv]
abbrev azx:=oJ::azw
abbrev UE:=UC::azx
abbrev gn:E:=var 5
abbrev gP:E:=.imp gn (fn 117 bK)
abbrev UF:E:=cmp .eql (var 37) (fn 9 (pr (fn 1 (pr bK (.int 29))) (.int 5)))
abbrev UG:E:=cmp .eql (var 40) (fn 9 (pr (fn 1 (pr bK (.int 30))) (.int 5)))
abbrev azy:E:=cmp .eql (var 46) (fn 6 (pr (fn 9 (pr (fn 1 (pr bK (.int 32))) (.int 2))) (.int 1)))
abbrev azz:=[azy]
abbrev azA:=gn::azz
abbrev UH:=gP::azA
abbrev azB:E:=pr (var 36) (fn 1 (pr bK (.int 29)))
abbrev UI:E:=fn 187 azB
abbrev azC:E:=pr (var 39) (fn 1 (pr bK (.int 30)))
abbrev UJ:E:=fn 187 azC
abbrev UK:E:=pr (fn 1 (pr bK (.int 32))) (pr (var 2) (var 3))
def ajA:=fb [(.not oJ),(.iff sR wR)] (.not sR)<|am fun F p0 p1=>by
 have:=@dN F bK
 simp only[aa,bp,aS]at *;grind
def ajB:=fb [oJ,(.iff sR wR)] sR<|am fun F p0 p1=>by
 have:=@dN F bK
 simp only[aa,bp,aS]at *;grind
def ajC:=fb [(.not oJ),(.iff (var 50) wR)] (.not (var 50))<|am fun F p0 p1=>by
 have:=@dN F bK
 simp only[aa,bp,aS]at *;grind
def ajD:=fb [oJ,(.iff (var 50) wR)] (var 50)<|am fun F p0 p1=>by
 have:=@dN F bK
 simp only[aa,bp,aS]at *;grind
def ajE:=fb UB UL<|am fun F p0 p1=>by
 have h:=p0
 rw[bu]at h
 have h:=h p1
 rw[cO]at h
 exact h.1
def ajF:=fb UB UM<|am fun F p0 p1=>by
 have h:=p0
 rw[bu]at h
 have h:=h p1
 rw[cO]at h
 exact h.2
def ajG:=fb [oJ] wR<|ah fun F p0=>by
 exact dN.1 p0
def ajH:=fb UD (cmp .eql (fn 9 (pr wP (.int 2))) (fn 9 (pr (var 52) (.int 2))))<|aj fun F p0 p1 p2=>by
 have h2:=p0
 rw[bu]at h2
 have h2:=h2 p1
 have:=ahm (Gx h2 p2)
 simp only[aa]at *;omega
def ajI:=fb UE (cmp .eql (fn 9 (pr wP (.int 2))) (fn 9 (pr wQ (.int 2))))<|aj fun F p0 p1 p2=>by
 have h2:=p0
 rw[bu]at h2
 have h2:=h2 p1
 have:=ahm (Gx h2 p2)
 simp only[aa]at *;omega
def ajJ:=fb UD (fn 237 (pr wP (var 52)))<|aj fun F p0 p1 p2=>by
 have h2:=p0
 rw[bu]at h2
 have h2:=h2 p1;exact Gx h2 p2
def ajK:=fb UE (fn 237 (pr wP wQ))<|aj fun F p0 p1 p2=>by
 have h2:=p0
 rw[bu]at h2
 have h2:=h2 p1;exact Gx h2 p2
def ajL:=fb [gP,gn,(cmp .eql (var 10) (fn 9 (pr (fn 1 (pr bK (.int 0))) (.int 12))))] (.not (cmp .lss (.int 40) (var 10)))<|aj fun F p0 p1 p2=>by
 have h7:=p0
 rw[bu]at h7
 have h7:=h7 p1
 have:=ai h7
 simp only[aa]at *;omega
def ajM:=fb [gP,gn,(.not (cmp .lss (var 13) (.int 0))),(cmp .eql (var 13) (fn 9 (pr (fn 1 (pr bK (.int 6))) (.int 1))))] (.not (cmp .lss (.int 40) (var 13)))<|aw fun F p0 p1 p2 p3=>by
 have h7:=p0
 rw[bu]at h7
 have h7:=h7 p1
 have:=ai h7
 have r1:E.I F (fn 9 (pr (fn 1 (pr bK (.int 6))) (.int 1)))=E.I F (fn 0 (fn 1 (pr bK (.int 6)))):=od;simp only[aa]at *;omega
def ajN:=fb [gP,gn,(.not (cmp .lss (var 16) (.int 0))),(cmp .eql (var 16) (fn 9 (pr (fn 1 (pr bK (.int 7))) (.int 1))))] (.not (cmp .lss (.int 40) (var 16)))<|aw fun F p0 p1 p2 p3=>by
 have h7:=p0
 rw[bu]at h7
 have h7:=h7 p1
 have:=ai h7
 have r1:E.I F (fn 9 (pr (fn 1 (pr bK (.int 7))) (.int 1)))=E.I F (fn 0 (fn 1 (pr bK (.int 7)))):=od;simp only[aa]at *;omega
def ajO:=fb [gP,gn,(.not (cmp .lss (var 19) (.int 0))),(cmp .eql (var 19) (fn 9 (pr (fn 1 (pr bK (.int 8))) (.int 1))))] (.not (cmp .lss (.int 40) (var 19)))<|aw fun F p0 p1 p2 p3=>by
 have h7:=p0
 rw[bu]at h7
 have h7:=h7 p1
 have:=ai h7
 have r1:E.I F (fn 9 (pr (fn 1 (pr bK (.int 8))) (.int 1)))=E.I F (fn 0 (fn 1 (pr bK (.int 8)))):=od;simp only[aa]at *;omega
def ajP:=fb [gP,gn,(.not (cmp .lss (var 22) (.int 0))),(cmp .eql (var 22) (fn 9 (pr (fn 1 (pr bK (.int 9))) (.int 1))))] (.not (cmp .lss (.int 40) (var 22)))<|aw fun F p0 p1 p2 p3=>by
 have h7:=p0
 rw[bu]at h7
 have h7:=h7 p1
 have:=ai h7
 have r1:E.I F (fn 9 (pr (fn 1 (pr bK (.int 9))) (.int 1)))=E.I F (fn 0 (fn 1 (pr bK (.int 9)))):=od;simp only[aa]at *;omega
def ajQ:=fb [gP,gn,(.not (cmp .lss (var 25) (.int 0))),(cmp .eql (var 25) (fn 9 (pr (fn 1 (pr bK (.int 20))) (.int 1))))] (.not (cmp .lss (.int 40) (var 25)))<|aw fun F p0 p1 p2 p3=>by
 have h7:=p0
 rw[bu]at h7
 have h7:=h7 p1
 have:=ai h7
 have r1:E.I F (fn 9 (pr (fn 1 (pr bK (.int 20))) (.int 1)))=E.I F (fn 0 (fn 1 (pr bK (.int 20)))):=od;simp only[aa]at *;omega
def ajR:=fb [gP,gn,(.not (cmp .lss (var 28) (.int 0))),(cmp .eql (var 28) (fn 9 (pr (fn 1 (pr bK (.int 21))) (.int 1))))] (.not (cmp .lss (.int 40) (var 28)))<|aw fun F p0 p1 p2 p3=>by
 have h7:=p0
 rw[bu]at h7
 have h7:=h7 p1
 have:=ai h7
 have r1:E.I F (fn 9 (pr (fn 1 (pr bK (.int 21))) (.int 1)))=E.I F (fn 0 (fn 1 (pr bK (.int 21)))):=od;simp only[aa]at *;omega
def ajS:=fb [gP,gn,(.not (cmp .lss (var 31) (.int 0))),(cmp .eql (var 31) (fn 9 (pr (fn 1 (pr bK (.int 22))) (.int 1))))] (.not (cmp .lss (.int 40) (var 31)))<|aw fun F p0 p1 p2 p3=>by
 have h7:=p0
 rw[bu]at h7
 have h7:=h7 p1
 have:=ai h7
 have r1:E.I F (fn 9 (pr (fn 1 (pr bK (.int 22))) (.int 1)))=E.I F (fn 0 (fn 1 (pr bK (.int 22)))):=od;simp only[aa]at *;omega
def ajT:=fb [gP,gn,(.not (cmp .lss (var 34) (.int 0))),(cmp .eql (var 34) (fn 9 (pr (fn 1 (pr bK (.int 23))) (.int 1))))] (.not (cmp .lss (.int 40) (var 34)))<|aw fun F p0 p1 p2 p3=>by
 have h7:=p0
 rw[bu]at h7
 have h7:=h7 p1
 have:=ai h7
 have r1:E.I F (fn 9 (pr (fn 1 (pr bK (.int 23))) (.int 1)))=E.I F (fn 0 (fn 1 (pr bK (.int 23)))):=od;simp only[aa]at *;omega
def ajU:=fb [gP,gn,UF] (.not (cmp .lss (.int 40) (var 37)))<|aj fun F p0 p1 p2=>by
 have h7:=p0
 rw[bu]at h7
 have h7:=h7 p1
 have:=ai h7
 simp only[aa]at *;omega
def ajV:=fb [gP,gn,UG] (.not (cmp .lss (.int 40) (var 40)))<|aj fun F p0 p1 p2=>by
 have h7:=p0
 rw[bu]at h7
 have h7:=h7 p1
 have:=ai h7
 simp only[aa]at *;omega
def ajW:=fb [gP,gn,(cmp .eql (var 43) (fn 9 (pr (fn 1 (pr bK (.int 31))) (.int 1))))] (.not (cmp .lss (.int 40) (var 43)))<|aj fun F p0 p1 p2=>by
 have h7:=p0
 rw[bu]at h7
 have h7:=h7 p1
 have:=ai h7
 have r1:E.I F (fn 9 (pr (fn 1 (pr bK (.int 31))) (.int 1)))=E.I F (fn 0 (fn 1 (pr bK (.int 31)))):=od;simp only[aa]at *;omega
def ajX:=fb UH (.not (cmp .lss (var 46) (.int 0)))<|aj fun F p0 p1 p2=>by
 have h7:=p0
 rw[bu]at h7
 have h7:=h7 p1
 have:=ai h7
 simp only[aa]at *;omega
def ajY:=fb UH (.not (cmp .lss (.int 40) (var 46)))<|aj fun F p0 p1 p2=>by
 have h7:=p0
 rw[bu]at h7
 have h7:=h7 p1
 have:=ai h7
 simp only[aa]at *;omega
def ajZ:=fb [gP,gn,UF,UI] (fn 158 (pr (var 36) (var 37)))<|aw fun F p0 p1 p2 p3=>by
 have h7:=p0
 rw[bu]at h7
 have h7:=h7 p1;have ej:E.I F (var 37)=E.I F (fn 9 (pr (fn 1 (pr bK (.int 29))) (.int 5))):=by
  simp only[aa]at *;omega
 exact agU p3 (Eq.mp gi h7).2.2.2.1 ej
def aj0:=fb [gP,gn,UG,UJ] (fn 158 (pr (var 39) (var 40)))<|aw fun F p0 p1 p2 p3=>by
 have h7:=p0
 rw[bu]at h7
 have h7:=h7 p1;have ej:E.I F (var 40)=E.I F (fn 9 (pr (fn 1 (pr bK (.int 30))) (.int 5))):=by
  simp only[aa]at *;omega
 exact agU p3 (Eq.mp gi h7).2.2.2.2.1 ej
def aj1:=fb [(fn 200 (pr (var 42) (fn 1 (pr bK (.int 31))))),UJ,UI,(fn 200 (pr (var 33) (fn 1 (pr bK (.int 23))))),(fn 200 (pr (var 30) (fn 1 (pr bK (.int 22))))),(fn 200 (pr (var 27) (fn 1 (pr bK (.int 21))))),(fn 200 (pr (var 24) (fn 1 (pr bK (.int 20))))),(fn 200 (pr (var 21) (fn 1 (pr bK (.int 9))))),(fn 200 (pr (var 18) (fn 1 (pr bK (.int 8))))),(fn 200 (pr (var 15) (fn 1 (pr bK (.int 7))))),(fn 200 (pr (var 12) (fn 1 (pr bK (.int 6))))),(fn 200 (pr wQ (fn 1 (pr bK (.int 0))))),(fn 233 (pr (var 45) UK)),(fn 236 (pr sR bK)),(fn 233 (pr (fn 1 (pr (var 51) (.int 32))) UK)),(fn 235 (pr (var 51) (pr bK (.int 32))))] (fn 221 (pr (var 51) (pr sR (pr wQ (pr (var 12) (pr (var 15) (pr (var 18) (pr (var 21) (pr (var 24) (pr (var 27) (pr (var 30) (pr (var 33) (pr (var 36) (pr (var 39) (pr (var 42) (pr (var 45) (.int 0)))))))))))))))))<|jF fun F p0 p1 p2 p3 p4 p5 p6 p7 p8 p9 ak ao ap az aC aD=>by
 exact aMV aD aC az ao ak p9 p8 p7 p6 p5 p4 p3 p2 p1 p0 ap
def mF:List Fa:=[df,ajA,ajB,ajC,ajD,ajE,ajF,ajG,ajH,ajI,ajJ,ajK,ajL,ajM,ajN,ajO,ajP,ajQ,ajR,ajS,ajT,ajU,ajV,ajW,ajX,ajY,ajZ,aj0,aj1]
theorem afM:mq Tryz.prog (fun tb=>q8 uH (run Tryz.prog (tb.plus (fl mF) [] aeu.l) 3000 (.call 4 aFx) .nil (sd 4 MY) SX.one))=true:=by kernel_rfl

theorem walk{H:Type}(W:World)(base:Nat)(enc:TypeId×Value->H)(v0:Value)(d0:DataW H)(p0:List MemPlace)(v1:Value)(d1:DataW H)(p1:List MemPlace)(v2:Value)(d2:DataW H)(p2:List MemPlace)
  (o0:Value.okWide Tryz.prog W .any base 22 v0)(h0:DataW.Trod enc Tryz.prog W 0 (fun _=>true) true 22 v0 d0 p0)
  (o1:Value.okWide Tryz.prog W .any base 34 v1)(h1:DataW.Trod enc Tryz.prog W 0 (fun _=>true) true 34 v1 d1 p1)
  (o2:Value.okWide Tryz.prog W .any base 47 v2)(h2:DataW.Trod enc Tryz.prog W 0 (fun _=>true) true 47 v2 d2 p2):
  Calls Tryz.prog 4 #[v0,v1,v2] W fun e W'=>e=.returned (.bool true)/\Below W.heap.size W W':=by
 obtain⟨x0,rfl,k0,w0⟩:=aIR (n:=9) (ks:=kC) Tryz.underlying22 (by kernel_rfl) o0 h0
 obtain⟨x1,rfl,l1,k1,w1,s1⟩:=aIQ aGc (n:=9) (ks:=kB) Tryz.underlying34 (by kernel_rfl) o1 h1
 obtain⟨c2_0,c2_1,y2_0,y2_1,n2,rfl,_,_,t2_0,t2_1⟩:=Joins.open_agg2 Tryz.underlying47 (by kernel_rfl) (by kernel_rfl) o2 h2
 obtain⟨x2,z2,_,w2⟩:=DataW.trod_int Tryz.underlying3 t2_0
 simp only[List.cons.injEq,and_true]at z2;subst z2;have r2:=ahQ w2
 obtain⟨x3,z3,_,w3⟩:=DataW.trod_int Tryz.underlying3 t2_1
 simp only[List.cons.injEq,and_true]at z3;subst z3;have r3:=ahQ w3;have q0:=aNv w0;refine ahD good (facts:=fl mF) (nG _) (anns:=[]) (lY _ (by kernel_rfl)) aeu.h (vs:=[x0,.lst x1,.int x2,.int x3]) (pc:=MY) afM ?_ W ⟨k0,⟨⟨k1 0 _ rfl,trivial,trivial,trivial,trivial,trivial,k1 6 _ rfl,k1 7 _ rfl,k1 8 _ rfl,k1 9 _ rfl,trivial,trivial,trivial,trivial,trivial,trivial,trivial,trivial,trivial,trivial,k1 20 _ rfl,k1 21 _ rfl,k1 22 _ rfl,k1 23 _ rfl,trivial,trivial,trivial,trivial,trivial,k1 29 _ rfl,k1 30 _ rfl,k1 31 _ rfl,k1 32 _ rfl,trivial,trivial,trivial,trivial,trivial,trivial⟩,⟨⟨trivial,trivial,trivial⟩,trivial⟩⟩⟩;unfold MY;try simp only[ahI,acq,List.cons_append,List.nil_append]
 repeat' (refine aI3 ?_ ?_)
 all_goals first
  |exact aI4
  |(exact aNu l1 w1)
  |(first | exact q0 | skip;done)
  |(simp only[af,fR,eV,Env.of,agh,aJO,agf,aS,aHd,aHc,aNq];omega)

set_option maxRecDepth 100000 in
theorem aHZ(os:Os)(started:os.Started)(H:Type)(enc:TypeId×Value->H):
    ReturnsInHanded {} Tryz.checked os 4 .any (Rows.combatBlocksSpec.pre6 enc Tryz.prog Tryz.f4 Rows.combatBlocksRow.domain false) (Rows.combatBlocksSpec.post enc Tryz.prog Tryz.f4 false true false false):=by
  refine returnsInHanded_of_change (C:=Tryz.checked) own started (by kernel_rfl) Tryz.func4
    (ChangeSpec.witness6 (enc:=enc) (C:=Tryz.checked) false ⟨#[],#[.slice none 0 0,.agg #[.slice none 0 0,.int .i64 0,.int .i64 0,.int .i64 0,.int .i64 0,.int .i64 0,.slice none 0 0,.slice none 0 0,.slice none 0 0,.slice none 0 0,.bool false,.bool false,.bool false,.int .i64 0,.int .i64 0,.int .i64 0,.int .i64 0,.int .i64 0,.int .i64 0,.int .i64 0,.slice none 0 0,.slice none 0 0,.slice none 0 0,.slice none 0 0,.bool false,.bool false,.bool false,.int .i64 0,.int .i64 0,.slice none 0 0,.slice none 0 0,.slice none 0 0,.slice none 0 0,.int .i64 0,.int .i64 0,.int .i64 0,.int .i64 0,.int .i64 0],.agg #[.int .i64 0,.int .i64 0]],[]⟩ 8 (by kernel_rfl) (by kernel_rfl) (by kernel_rfl) (by kernel_rfl)) ?_
  intro W base args ds gs before hval0 hW hcnd _;have hval:∀(j:Nat) t v,Tryz.f4.params[j]? =some t->args[j]? =some v->Value.okWide Tryz.prog W .any base t v:=hval0;have hW':=hW
  obtain⟨p,q,hA0,hV,rfl,hfz,hnd⟩:=hW
  have hA:DataW.TrodAll enc Tryz.prog W 0 (fun _=>true) true Tryz.f4.params.toList args.toList ds p:=hA0
  rw[Tryz.params4]at hA hval
  obtain⟨v0,vs0,d0,ds0,p0,q0,hargs,rfl,rfl,h0,r0⟩:=trodAll_cons hA
  obtain⟨v1,vs1,d1,ds1,p1,q1,rfl,rfl,rfl,h1,r1⟩:=trodAll_cons r0
  obtain⟨v2,vs2,d2,ds2,p2,q2,rfl,rfl,rfl,h2,r2⟩:=trodAll_cons r1
  obtain⟨rfl,rfl,rfl⟩:=trodAll_nil r2
  obtain rfl:args= #[v0,v1,v2]:=by cases args;simp_all
  obtain⟨rfl,rfl⟩:=trodVars_none hV
  have lt0:∀x∈p0,x.block<W.heap.size:=by obtain⟨m,hm⟩:=h0;exact DataW.trod_lt m _ _ _ hm
  have lt1:∀x∈p1,x.block<W.heap.size:=by obtain⟨m,hm⟩:=h1;exact DataW.trod_lt m _ _ _ hm
  have lt2:∀x∈p2,x.block<W.heap.size:=by obtain⟨m,hm⟩:=h2;exact DataW.trod_lt m _ _ _ hm
  have o0:=hval 0 22 v0 rfl rfl;have o1:=hval 1 34 v1 rfl rfl;have o2:=hval 2 47 v2 rfl rfl;clear hA0 hval0
  refine(walk W base enc v0 d0 p0 v1 d1 p1 v2 d2 p2 o0 h0 o1 h1 o2 h2).mono fun e W' ⟨he,bel⟩=>?_
  subst he
  exact⟨_,rfl,_,_,_,[],_,[],hW',trodAll_mk1 (shut_bool Tryz.underlying4 _),(trodAll_cons_mk (Below.trod laidOut (by kernel_rfl) (of_decide_eq_true (by kernel_rfl)) h0 bel lt0) (trodAll_cons_mk (Below.trod laidOut (by kernel_rfl) (of_decide_eq_true (by kernel_rfl)) h1 bel lt1) (trodAll_cons_mk (Below.trod laidOut (by kernel_rfl) (of_decide_eq_true (by kernel_rfl)) h2 bel lt2) trodAll_mk0))),rfl,bel.frame _,fun h=>by cases h⟩

theorem E7:Rows.combatBlocksRow.holds Tryz.pinned (OpenSpec.ofChange Rows.combatBlocksSpec):=
 OpenClaim.holds_of_wide 4 Tryz.f4 rfl rfl rfl rfl rfl rfl rfl ⟨rfl,rfl,rfl,rfl,rfl⟩ rfl rfl rfl rfl rfl (by kernel_rfl) Tryz.func4 (by kernel_rfl)
  (of_decide_eq_true (by kernel_rfl)) (by unfold Func.isWrapper;first | (rw[if_pos (by decide +kernel)];kernel_rfl) | (rw[if_neg (by decide +kernel)];exact⟨rfl,rfl⟩))
  (fun os started H enc _=>aHZ os started H enc)

theorem proved:Rows.CombatBlocksSaid:=E7

end
end Go.Proofs.YtnggbcblogpnfaaGreat.combatBlocks
