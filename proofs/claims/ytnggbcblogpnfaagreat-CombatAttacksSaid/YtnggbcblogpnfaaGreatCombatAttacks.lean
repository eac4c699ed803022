/-
  CombatAttacks: one reckoning by the kernel, EK contracts of functions and facts.
-/
import Derived.Test.YtnggbcblogpnfaaGreatRows
import Derived.Test.YtnggbcblogpnfaaGreatNat
import Derived.WalkKit
import Derived.ProofKit
import Derived.OpenShut
import Derived.ChangeOld
import Derived.Below
import Derived.KernelRfl
import Derived.Lib.SmallJoins
import Derived.Laws.IdiomArrays
import Derived.Test.YtnggbcblogpnfaaGreatCombatAttacksPartp
namespace Go.Proofs.YtnggbcblogpnfaaGreat.combatAttacks
open Go.ChangeShapes Go.WideShapes Go.ChangeAt Go.RowKit
open Go.SX
open Go.SX.E (fn pr cmp var)
set_option linter.unusedVariables false
set_option linter.unusedSimpArgs false
set_option maxRecDepth 100000
noncomputable section
abbrev bA:E:=var 1
abbrev oe:E:=fn 115 bA
abbrev sf:E:=var 7
abbrev vV:E:=fn 130 bA
abbrev vW:E:=var 0
abbrev KK5:E:=cmp .lss (.int 12) (fn 9 (pr vW (.int 14)))
abbrev Sd:E:=.not KK5
abbrev KK7:E:=pr vW (fn 9 (pr vW (.int 14)))
abbrev Se:E:=fn 155 KK7
abbrev KK9:E:=.and Sd Se
abbrev awa:E:=.imp (var 3) KK9
abbrev R0:=[awa,(var 3)]
abbrev vT:E:=var 6
abbrev HR:E:=pr vW bA
abbrev awb:E:=pr vT HR
abbrev awc:E:=fn 241 awb
abbrev R3:E:=.imp oe awc
abbrev awd:E:=fn 241 (pr (var 51) HR)
abbrev awe:=[awd]
abbrev awf:=oe::awe
abbrev R4:=R3::awf
abbrev vU:E:=var 8
abbrev awg:E:=fn 241 (pr vU HR)
abbrev awh:=[awg]
abbrev awi:=oe::awh
abbrev R5:=R3::awi
abbrev fZ:E:=var 4
abbrev gy:E:=.imp fZ (fn 117 bA)
abbrev R6:E:=cmp .eql (var 36) (fn 9 (pr (fn 1 (pr bA (.int 29))) (.int 5)))
abbrev R7:E:=cmp .eql (var 39) (fn 9 (pr (fn 1 (pr bA (.int 30))) (.int 5)))
abbrev awj:E:=cmp .eql (var 42) (fn 6 (pr (fn 9 (pr (fn 1 (pr bA (.int 31))) (.int 1))) (.int 1)))
abbrev awk:=[awj]
abbrev awl:=fZ::awk
abbrev R8:=gy::awl
abbrev awm:E:=pr (var 35) (fn 1 (pr bA (.int 29)))
abbrev R9:E:=fn 187 awm
abbrev awn:E:=pr (var 38) (fn 1 (pr bA (.int 30)))
abbrev Sa:E:=fn 187 awn
abbrev Sb:E:=pr (fn 1 (pr bA (.int 31))) (var 2)
abbrev Sc:E:=pr bA (pr vW (var 2))
def ahd:=fb [(.not oe),(.iff sf vV)] (.not sf)<|ap fun F p0 p1=>by
 have:=@gt F bA
 simp only[aa,bg,bv]at *;grind
def ahe:=fb [oe,(.iff sf vV)] sf<|ap fun F p0 p1=>by
 have:=@gt F bA
 simp only[aa,bg,bv]at *;grind
def ahf:=fb [(.not oe),(.iff (var 49) vV)] (.not (var 49))<|ap fun F p0 p1=>by
 have:=@gt F bA
 simp only[aa,bg,bv]at *;grind
def ahg:=fb [oe,(.iff (var 49) vV)] (var 49)<|ap fun F p0 p1=>by
 have:=@gt F bA
 simp only[aa,bg,bv]at *;grind
def ahi:=fb R0 Sd<|ap fun F p0 p1=>by
 have h:=p0
 rw[aG]at h
 have h:=h p1
 rw[cz]at h
 exact h.1
def ahj:=fb R0 Se<|ap fun F p0 p1=>by
 have h:=p0
 rw[aG]at h
 have h:=h p1
 rw[cz]at h
 exact h.2
def ahk:=fb [oe] vV<|ah fun F p0=>by
 exact gt.1 p0
def ahl:=fb R4 (cmp .eql (fn 0 vT) (fn 0 (var 51)))<|am fun F p0 p1 p2=>by
 have h241:=p0
 rw[aG]at h241
 have h241:=h241 p1;have u:=afX h241 p2
 rw[kg]
 exact u
def ahm:=fb R5 (cmp .eql (fn 0 vT) (fn 0 vU))<|am fun F p0 p1 p2=>by
 have h241:=p0
 rw[aG]at h241
 have h241:=h241 p1;have u:=afX h241 p2
 rw[kg]
 exact u
def ahn:=fb R4 (fn 237 (pr vT (var 51)))<|am fun F p0 p1 p2=>by
 have h241:=p0
 rw[aG]at h241
 have h241:=h241 p1;exact afW h241 p2
def aho:=fb R5 (fn 237 (pr vT vU))<|am fun F p0 p1 p2=>by
 have h241:=p0
 rw[aG]at h241
 have h241:=h241 p1;exact afW h241 p2
def ahp:=fb [gy,fZ,(cmp .eql (var 9) (fn 9 (pr (fn 1 (pr bA (.int 0))) (.int 12))))] (.not (cmp .lss (.int 40) (var 9)))<|am fun F p0 p1 p2=>by
 have h7:=p0
 rw[aG]at h7
 have h7:=h7 p1
 have:=ak h7
 simp only[aa]at *;omega
def ahq:=fb [gy,fZ,(.not (cmp .lss (var 12) (.int 0))),(cmp .eql (var 12) (fn 9 (pr (fn 1 (pr bA (.int 6))) (.int 1))))] (.not (cmp .lss (.int 40) (var 12)))<|aB fun F p0 p1 p2 p3=>by
 have h7:=p0
 rw[aG]at h7
 have h7:=h7 p1
 have:=ak h7
 have r1:E.I F (fn 9 (pr (fn 1 (pr bA (.int 6))) (.int 1)))=E.I F (fn 0 (fn 1 (pr bA (.int 6)))):=ku;simp only[aa]at *;omega
def ahr:=fb [gy,fZ,(.not (cmp .lss (var 15) (.int 0))),(cmp .eql (var 15) (fn 9 (pr (fn 1 (pr bA (.int 7))) (.int 1))))] (.not (cmp .lss (.int 40) (var 15)))<|aB fun F p0 p1 p2 p3=>by
 have h7:=p0
 rw[aG]at h7
 have h7:=h7 p1
 have:=ak h7
 have r1:E.I F (fn 9 (pr (fn 1 (pr bA (.int 7))) (.int 1)))=E.I F (fn 0 (fn 1 (pr bA (.int 7)))):=ku;simp only[aa]at *;omega
def aht:=fb [gy,fZ,(.not (cmp .lss (var 18) (.int 0))),(cmp .eql (var 18) (fn 9 (pr (fn 1 (pr bA (.int 8))) (.int 1))))] (.not (cmp .lss (.int 40) (var 18)))<|aB fun F p0 p1 p2 p3=>by
 have h7:=p0
 rw[aG]at h7
 have h7:=h7 p1
 have:=ak h7
 have r1:E.I F (fn 9 (pr (fn 1 (pr bA (.int 8))) (.int 1)))=E.I F (fn 0 (fn 1 (pr bA (.int 8)))):=ku;simp only[aa]at *;omega
def ahu:=fb [gy,fZ,(.not (cmp .lss (var 21) (.int 0))),(cmp .eql (var 21) (fn 9 (pr (fn 1 (pr bA (.int 9))) (.int 1))))] (.not (cmp .lss (.int 40) (var 21)))<|aB fun F p0 p1 p2 p3=>by
 have h7:=p0
 rw[aG]at h7
 have h7:=h7 p1
 have:=ak h7
 have r1:E.I F (fn 9 (pr (fn 1 (pr bA (.int 9))) (.int 1)))=E.I F (fn 0 (fn 1 (pr bA (.int 9)))):=ku;simp only[aa]at *;omega
def ahv:=fb [gy,fZ,(.not (cmp .lss (var 24) (.int 0))),(cmp .eql (var 24) (fn 9 (pr (fn 1 (pr bA (.int 20))) (.int 1))))] (.not (cmp .lss (.int 40) (var 24)))<|aB fun F p0 p1 p2 p3=>by
 have h7:=p0
 rw[aG]at h7
 have h7:=h7 p1
 have:=ak h7
 have r1:E.I F (fn 9 (pr (fn 1 (pr bA (.int 20))) (.int 1)))=E.I F (fn 0 (fn 1 (pr bA (.int 20)))):=ku;simp only[aa]at *;omega
def ahw:=fb [gy,fZ,(.not (cmp .lss (var 27) (.int 0))),(cmp .eql (var 27) (fn 9 (pr (fn 1 (pr bA (.int 21))) (.int 1))))] (.not (cmp .lss (.int 40) (var 27)))<|aB fun F p0 p1 p2 p3=>by
 have h7:=p0
 rw[aG]at h7
 have h7:=h7 p1
 have:=ak h7
 have r1:E.I F (fn 9 (pr (fn 1 (pr bA (.int 21))) (.int 1)))=E.I F (fn 0 (fn 1 (pr bA (.int 21)))):=ku;simp only[aa]at *;omega
def ahx:=fb [gy,fZ,(.not (cmp .lss (var 30) (.int 0))),(cmp .eql (var 30) (fn 9 (pr (fn 1 (pr bA (.int 22))) (.int 1))))] (.not (cmp .lss (.int 40) (var 30)))<|aB fun F p0 p1 p2 p3=>by
 have h7:=p0
 rw[aG]at h7
 have h7:=h7 p1
 have:=ak h7
 have r1:E.I F (fn 9 (pr (fn 1 (pr bA (.int 22))) (.int 1)))=E.I F (fn 0 (fn 1 (pr bA (.int 22)))):=ku;simp only[aa]at *;omega
def ahy:=fb [gy,fZ,(.not (cmp .lss (var 33) (.int 0))),(cmp .eql (var 33) (fn 9 (pr (fn 1 (pr bA (.int 23))) (.int 1))))] (.not (cmp .lss (.int 40) (var 33)))<|aB fun F p0 p1 p2 p3=>by
 have h7:=p0
 rw[aG]at h7
 have h7:=h7 p1
 have:=ak h7
 have r1:E.I F (fn 9 (pr (fn 1 (pr bA (.int 23))) (.int 1)))=E.I F (fn 0 (fn 1 (pr bA (.int 23)))):=ku;simp only[aa]at *;omega
def ahz:=fb [gy,fZ,R6] (.not (cmp .lss (.int 40) (var 36)))<|am fun F p0 p1 p2=>by
 have h7:=p0
 rw[aG]at h7
 have h7:=h7 p1
 have:=ak h7
 simp only[aa]at *;omega
def ahA:=fb [gy,fZ,R7] (.not (cmp .lss (.int 40) (var 39)))<|am fun F p0 p1 p2=>by
 have h7:=p0
 rw[aG]at h7
 have h7:=h7 p1
 have:=ak h7
 simp only[aa]at *;omega
def ahB:=fb R8 (.not (cmp .lss (var 42) (.int 0)))<|am fun F p0 p1 p2=>by
 have h7:=p0
 rw[aG]at h7
 have h7:=h7 p1
 have:=ak h7
 have r1:E.I F (fn 9 (pr (fn 1 (pr bA (.int 31))) (.int 1)))=E.I F (fn 0 (fn 1 (pr bA (.int 31)))):=ku;simp only[aa]at *;omega
def ahC:=fb R8 (.not (cmp .lss (.int 40) (var 42)))<|am fun F p0 p1 p2=>by
 have h7:=p0
 rw[aG]at h7
 have h7:=h7 p1
 have:=ak h7
 have r1:E.I F (fn 9 (pr (fn 1 (pr bA (.int 31))) (.int 1)))=E.I F (fn 0 (fn 1 (pr bA (.int 31)))):=ku;simp only[aa]at *;omega
def ahD:=fb [gy,fZ,(cmp .eql (var 45) (fn 9 (pr (fn 1 (pr bA (.int 32))) (.int 2))))] (.not (cmp .lss (.int 40) (var 45)))<|am fun F p0 p1 p2=>by
 have h7:=p0
 rw[aG]at h7
 have h7:=h7 p1
 have:=ak h7
 simp only[aa]at *;omega
def ahE:=fb [gy,fZ,R6,R9] (fn 158 (pr (var 35) (var 36)))<|aB fun F p0 p1 p2 p3=>by
 have h7:=p0
 rw[aG]at h7
 have h7:=h7 p1;have ej:E.I F (var 36)=E.I F (fn 9 (pr (fn 1 (pr bA (.int 29))) (.int 5))):=by
  simp only[aa]at *;omega
 exact afL p3 (Eq.mp gv h7).2.2.2.1 ej
def ahF:=fb [gy,fZ,R7,Sa] (fn 158 (pr (var 38) (var 39)))<|aB fun F p0 p1 p2 p3=>by
 have h7:=p0
 rw[aG]at h7
 have h7:=h7 p1;have ej:E.I F (var 39)=E.I F (fn 9 (pr (fn 1 (pr bA (.int 30))) (.int 5))):=by
  simp only[aa]at *;omega
 exact afL p3 (Eq.mp gv h7).2.2.2.2.1 ej
def ahG:=fb [(fn 200 (pr (var 44) (fn 1 (pr bA (.int 32))))),Sa,R9,(fn 200 (pr (var 32) (fn 1 (pr bA (.int 23))))),(fn 200 (pr (var 29) (fn 1 (pr bA (.int 22))))),(fn 200 (pr (var 26) (fn 1 (pr bA (.int 21))))),(fn 200 (pr (var 23) (fn 1 (pr bA (.int 20))))),(fn 200 (pr (var 20) (fn 1 (pr bA (.int 9))))),(fn 200 (pr (var 17) (fn 1 (pr bA (.int 8))))),(fn 200 (pr (var 14) (fn 1 (pr bA (.int 7))))),(fn 200 (pr (var 11) (fn 1 (pr bA (.int 6))))),(fn 248 (pr (var 41) Sb)),(fn 247 (pr vU Sc)),(fn 236 (pr sf bA)),(fn 248 (pr (fn 1 (pr (var 50) (.int 31))) Sb)),(fn 247 (pr (fn 1 (pr (var 50) (.int 0))) Sc)),(fn 250 (pr (var 50) bA))] (fn 221 (pr (var 50) (pr sf (pr vU (pr (var 11) (pr (var 14) (pr (var 17) (pr (var 20) (pr (var 23) (pr (var 26) (pr (var 29) (pr (var 32) (pr (var 35) (pr (var 38) (pr (var 41) (pr (var 44) (.int 0)))))))))))))))))<|tC fun F p0 p1 p2 p3 p4 p5 p6 p7 p8 p9 ai ao aq ax aA aC aL=>by
 exact aKV aL aC aA ax aq ai p9 p8 p7 p6 p5 p4 p3 p2 p1 ao p0
def mF:List Fa:=[cY,ahd,ahe,ahf,ahg,ahi,ahj,ahk,ahl,ahm,ahn,aho,ahp,ahq,ahr,aht,ahu,ahv,ahw,ahx,ahy,ahz,ahA,ahB,ahC,ahD,ahE,ahF,ahG]
theorem aeB:lQ Tryz.prog (fun tb=>qz um (run Tryz.prog (tb.plus (fl mF) [] ado.l) 3000 (.call 3 aDA) .nil (rH 3 MG) SX.one))=true:=by kernel_rfl

theorem walk{H:Type}(W:World)(base:Nat)(enc:TypeId×Value->H)(v0:Value)(d0:DataW H)(p0:List MemPlace)(v1:Value)(d1:DataW H)(p1:List MemPlace)(v2:Value)(d2:DataW H)(p2:List MemPlace)
  (o0:Value.okWide Tryz.prog W .any base 22 v0)(h0:DataW.Trod enc Tryz.prog W 0 (fun _=>true) true 22 v0 d0 p0)
  (o1:Value.okWide Tryz.prog W .any base 34 v1)(h1:DataW.Trod enc Tryz.prog W 0 (fun _=>true) true 34 v1 d1 p1)
  (o2:Value.okWide Tryz.prog W .any base 3 v2)(h2:DataW.Trod enc Tryz.prog W 0 (fun _=>true) true 3 v2 d2 p2):
  Calls Tryz.prog 3 #[v0,v1,v2] W fun e W'=>e=.returned (.bool true)/\Below W.heap.size W W':=by
 obtain⟨x0,rfl,k0,w0⟩:=aGV (n:=9) (ks:=kC) Tryz.underlying22 (by kernel_rfl) o0 h0
 obtain⟨x1,rfl,l1,k1,w1,s1⟩:=aGU aD9 (n:=9) (ks:=kB) Tryz.underlying34 (by kernel_rfl) o1 h1
 obtain⟨x2,rfl,_,_,w2⟩:=open_int Tryz.underlying3 o2 h2
 have r2:=aLU w2;have q0:=aLL w0;refine agf good (facts:=fl mF) (na _) (anns:=[]) (lF _ (by kernel_rfl)) ado.h (vs:=[x0,.lst x1,.int x2]) (pc:=MG) aeB ?_ W ⟨k0,⟨⟨k1 0 _ rfl,trivial,trivial,trivial,trivial,trivial,k1 6 _ rfl,k1 7 _ rfl,k1 8 _ rfl,k1 9 _ rfl,trivial,trivial,trivial,trivial,trivial,trivial,trivial,trivial,trivial,trivial,k1 20 _ rfl,k1 21 _ rfl,k1 22 _ rfl,k1 23 _ rfl,trivial,trivial,trivial,trivial,trivial,k1 29 _ rfl,k1 30 _ rfl,k1 31 _ rfl,k1 32 _ rfl,trivial,trivial,trivial,trivial,trivial,trivial⟩,⟨trivial,trivial⟩⟩⟩;unfold MG;try simp only[agl,abo,List.cons_append,List.nil_append]
 repeat' (refine aG9 ?_ ?_)
 all_goals first
  |exact aHa
  |(exact aLK l1 w1)
  |(first | exact q0 | skip;done)
  |(simp only[af,gH,eV,Env.of,ae7,aHV,ae6,bv,aFf,aFe,aLG];omega)

set_option maxRecDepth 100000 in
theorem aFY(os:Os)(started:os.Started)(H:Type)(enc:TypeId×Value->H):
    ReturnsInHanded {} Tryz.checked os 3 .any (Rows.combatAttacksSpec.pre6 enc Tryz.prog Tryz.f3 Rows.combatAttacksRow.domain false) (Rows.combatAttacksSpec.post enc Tryz.prog Tryz.f3 false true false false):=by
  refine returnsInHanded_of_change (C:=Tryz.checked) own started (by kernel_rfl) Tryz.func3
    (ChangeSpec.witness6 (enc:=enc) (C:=Tryz.checked) false ⟨#[],#[.slice none 0 0,.agg #[.slice none 0 0,.int .i64 0,.int .i64 0,.int .i64 0,.int .i64 0,.int .i64 0,.slice none 0 0,.slice none 0 0,.slice none 0 0,.slice none 0 0,.bool false,.bool false,.bool false,.int .i64 0,.int .i64 0,.int .i64 0,.int .i64 0,.int .i64 0,.int .i64 0,.int .i64 0,.slice none 0 0,.slice none 0 0,.slice none 0 0,.slice none 0 0,.bool false,.bool false,.bool false,.int .i64 0,.int .i64 0,.slice none 0 0,.slice none 0 0,.slice none 0 0,.slice none 0 0,.int .i64 0,.int .i64 0,.int .i64 0,.int .i64 0,.int .i64 0],.int .i64 0],[]⟩ 8 (by kernel_rfl) (by kernel_rfl) (by kernel_rfl) (by kernel_rfl)) ?_
  intro W base args ds gs before hval0 hW hcnd _;have hval:∀(j:Nat) t v,Tryz.f3.params[j]? =some t->args[j]? =some v->Value.okWide Tryz.prog W .any base t v:=hval0;have hW':=hW
  obtain⟨p,q,hA0,hV,rfl,hfz,hnd⟩:=hW
  have hA:DataW.TrodAll enc Tryz.prog W 0 (fun _=>true) true Tryz.f3.params.toList args.toList ds p:=hA0
  rw[Tryz.params3]at hA hval
  obtain⟨v0,vs0,d0,ds0,p0,q0,hargs,rfl,rfl,h0,r0⟩:=trodAll_cons hA
  obtain⟨v1,vs1,d1,ds1,p1,q1,rfl,rfl,rfl,h1,r1⟩:=trodAll_cons r0
  obtain⟨v2,vs2,d2,ds2,p2,q2,rfl,rfl,rfl,h2,r2⟩:=trodAll_cons r1
  obtain⟨rfl,rfl,rfl⟩:=trodAll_nil r2
  obtain rfl:args= #[v0,v1,v2]:=by cases args;simp_all
  obtain⟨rfl,rfl⟩:=trodVars_none hV
  have lt0:∀x∈p0,x.block<W.heap.size:=by obtain⟨m,hm⟩:=h0;exact DataW.trod_lt m _ _ _ hm
  have lt1:∀x∈p1,x.block<W.heap.size:=by obtain⟨m,hm⟩:=h1;exact DataW.trod_lt m _ _ _ hm
  have lt2:∀x∈p2,x.block<W.heap.size:=by obtain⟨m,hm⟩:=h2;exact DataW.trod_lt m _ _ _ hm
  have o0:=hval 0 22 v0 rfl rfl;have o1:=hval 1 34 v1 rfl rfl;have o2:=hval 2 3 v2 rfl rfl;clear hA0 hval0
  refine(walk W base enc v0 d0 p0 v1 d1 p1 v2 d2 p2 o0 h0 o1 h1 o2 h2).mono fun e W' ⟨he,bel⟩=>?_
  subst he
  exact⟨_,rfl,_,_,_,[],_,[],hW',trodAll_mk1 (shut_bool Tryz.underlying4 _),(trodAll_cons_mk (Below.trod laidOut (by kernel_rfl) (of_decide_eq_true (by kernel_rfl)) h0 bel lt0) (trodAll_cons_mk (Below.trod laidOut (by kernel_rfl) (of_decide_eq_true (by kernel_rfl)) h1 bel lt1) (trodAll_cons_mk (Below.trod laidOut (by kernel_rfl) (of_decide_eq_true (by kernel_rfl)) h2 bel lt2) trodAll_mk0))),rfl,bel.frame _,fun h=>by cases h⟩

theorem EK:Rows.combatAttacksRow.holds Tryz.pinned (OpenSpec.ofChange Rows.combatAttacksSpec):=
 OpenClaim.holds_of_wide 3 Tryz.f3 rfl rfl rfl rfl rfl rfl rfl ⟨rfl,rfl,rfl,rfl,rfl⟩ rfl rfl rfl rfl rfl (by kernel_rfl) Tryz.func3 (by kernel_rfl)
  (of_decide_eq_true (by kernel_rfl)) (by unfold Func.isWrapper;first | (rw[if_pos (by decide +kernel)];kernel_rfl) | (rw[if_neg (by decide +kernel)];exact⟨rfl,rfl⟩))
  (fun os started H enc _=>aFY os started H enc)

theorem proved:Rows.CombatAttacksSaid:=EK

end
end Go.Proofs.YtnggbcblogpnfaaGreat.combatAttacks
