/-
  MetaHolds: one reckoning by the kernel, over contracts of functions and facts.
-/
import Derived.Test.YtmngplmblanhdaaRows
import Derived.Test.YtmngplmblanhdaaNat
import Derived.WalkKit
import Derived.ProofKit
import Derived.OpenShut
import Derived.ChangeOld
import Derived.Below
import Derived.KernelRfl
import Derived.Lib.SmallJoins
import Derived.Test.YtmngplmblanhdaaTheory
import Derived.Test.YtmngplmblanhdaaMetaHoldsPartd
namespace Go.Proofs.Ytmngplmblanhdaa.metaHolds
open Go.ChangeShapes Go.WideShapes Go.ChangeAt Go.RowKit
open Go.SX
set_option linter.unusedVariables false
set_option linter.unusedSimpArgs false
set_option maxRecDepth 100000
noncomputable section
abbrev Z0:E:=.var 0
abbrev Z1:E:=.var 1
abbrev Z2:E:=.cmp .eql (.var 6) (.fn 6 (.pr (.int 0) (.fn 9 (.pr Z1 (.int 3)))))
abbrev Z3:E:=.cmp .lss (.int 200) (.fn 9 (.pr Z1 (.int 3)))
abbrev Z4:E:=.not Z3
abbrev Z5:E:=.ar .sub .i64 (.fn 9 (.pr Z1 (.int 3))) (.int 1)
theorem loop2:LoopOk Try.prog (annL6 (some yL6)):=loop_of_bodies rfl (by kernel_rfl) (by
 intro τ hτ
 rcases List.mem_cons.1 hτ with rfl | hτ
 ·exact body2_0
 cases hτ)
def annsM:List Ann:=(annL0 (some yL0))::(annL2 (some yL2))::(annL6 (some yL6))::[]
theorem annsM_ok:∀ x∈annsM,LoopOk Try.prog x:=by
 intro x hx
 rcases List.mem_cons.1 hx with rfl | hx
 ·exact loop0
 rcases List.mem_cons.1 hx with rfl | hx
 ·exact loop1
 rcases List.mem_cons.1 hx with rfl | hx
 ·exact loop2
 cases hx
def F214:E:=(.imp (.and (.iff (.var 19) (.fn 134 (.pr (.var 13) (.var 16)))) (.and (.fn 121 (.pr (.var 16) (.pr (.var 10) (.pr Z0 Z0)))) (.and (.fn 121 (.pr (.var 13) (.pr (.var 8) (.pr Z0 Z0)))) (.and (.fn 118 (.pr (.var 10) (.pr Z1 Z0))) (.fn 118 (.pr (.var 8) (.pr Z1 Z0))))))) (.var 19))
theorem G214:Tr F214:=ii5 fun ρ p0 p1 p2 p3 p4=>by
 have:=@t118_top ρ _ _ _ _ _ _ _ _ p4 p3 p2 p1
 try simp only [smA,smW] at *
 grind
def F215:E:=(.imp (.and (.imp (.not (.fn 123 (.pr (.var 40) (.pr Z0 Z0)))) (.cmp .eql (.var 50) (.int 0))) (.and (.not (.cmp .lss (.var 43) (.int 3))) (.and (.var 46) (.and (.iff (.var 46) (.fn 129 (.pr (.var 40) (.pr (.var 42) (.var 43))))) (.and (.cmp .eql (.var 43) (.fn 0 (.var 42))) (.and (.fn 121 (.pr (.var 42) (.pr (.var 40) (.pr Z0 Z0)))) (.not (.cmp .lss Z0 (.int 2))))))))) (.cmp .eql (.var 50) (.int 0)))
theorem G215:Tr F215:=ii7 fun ρ p0 p1 p2 p3 p4 p5 p6=>by
 have:=fun e1 e2 e3 e4=>@t_cycle ρ _ _ _ (.var 43) p5 e1 e2 e3 e4
 try simp only [smA,smW] at *
 grind
def F216:E:=(.imp (.and (.cmp .eql (.var 2) (.fn 104 (.pr Z1 (.pr (.fn 9 (.pr Z1 (.int 3))) Z0)))) (.cmp .eql (.var 2) (.int 0))) (.not (.cmp .eql (.fn 104 (.pr Z1 (.pr (.fn 9 (.pr Z1 (.int 3))) Z0))) (.int 2))))
theorem G216:Tr F216:=ii2 fun ρ p0 p1=>by
 try simp only [smA,smW] at *
 grind
def F217:E:=(.imp Z2 (.not (.cmp .lss (.var 6) (.int 0))))
theorem G217:Tr F217:=ii1 fun ρ p0=>by
 have:=@rw3_nn ρ (.pr Z1 (.int 3))
 try simp only [smA,smW] at *
 grind
def F218:E:=(.imp (.and Z4 Z2) (.not (.cmp .lss (.int 1000) (.var 6))))
theorem G218:Tr F218:=ii2 fun ρ p0 p1=>by
 try simp only [smA,smW] at *
 grind
def F219:E:=(.imp (.and (.fn 116 (.pr (.var 3) Z0)) (.fn 103 (.pr (.var 5) (.pr (.var 3) (.pr Z1 (.pr (.fn 9 (.pr Z1 (.int 3))) Z0)))))) (.fn 118 (.pr (.var 5) (.pr Z1 Z0))))
theorem G219:Tr F219:=ii2 fun ρ p0 p1=>by
 have:=@t118_of ρ _ _ _ _ p1 p0
 try simp only [smA,smW] at *
 grind
def F220:E:=(.imp (.and (.fn 101 (.pr (.var 4) Z0)) (.and (.fn 116 (.pr (.var 4) Z0)) Z4)) (.fn 130 (.pr (.var 4) (.pr Z1 (.pr Z0 (.fn 6 (.pr Z5 (.int 1))))))))
theorem G220:Tr F220:=ii3 fun ρ p0 p1 p2=>by
 have:=@wrap_sub ρ (.fn 9 (.pr Z1 (.int 3))) (.int 1)
 have:=@rw3_nn ρ (.pr Z1 (.int 3))
 have:=@t130_zero ρ Z1 _ (.fn 6 (.pr Z5 (.int 1))) _ p1 p0
 try simp only [smA,smW] at *
 grind
def F221:E:=(.imp Z4 (.not (.cmp .lss Z5 (.int (-1)))))
theorem G221:Tr F221:=ii1 fun ρ p0=>by
 have:=@rw3_nn ρ (.pr Z1 (.int 3))
 try simp only [smA,smW] at *
 obtain ⟨a8,ea8,qa8⟩:=cs_i64 ((E.I ρ (.fn 9 (.pr Z1 (.int 3)))) - (1))
 try simp only [ea8] at *
 grind
def F222:E:=(.imp Z4 (.cmp .lss Z5 (.fn 9 (.pr Z1 (.int 3)))))
theorem G222:Tr F222:=ii1 fun ρ p0=>by
 have:=@rw3_nn ρ (.pr Z1 (.int 3))
 try simp only [smA,smW] at *
 obtain ⟨a8,ea8,qa8⟩:=cs_i64 ((E.I ρ (.fn 9 (.pr Z1 (.int 3)))) - (1))
 try simp only [ea8] at *
 grind
def F223:E:=(.imp Z4 (.cmp .eql (.fn 7 (.pr (.fn 7 (.pr (.fn 9 (.pr Z1 (.int 3))) (.int 1))) Z5)) (.int 0)))
theorem G223:Tr F223:=ii1 fun ρ p0=>by
 have:=@rw3_nn ρ (.pr Z1 (.int 3))
 try simp only [smA,smW] at *
 obtain ⟨a8,ea8,qa8⟩:=cs_i64 ((E.I ρ (.fn 9 (.pr Z1 (.int 3)))) - (1))
 try simp only [ea8] at *
 grind
def F224:E:=(.iff (.bool true) (.fn 129 (.pr (.var 24) (.pr (.var 28) (.int 0)))))
theorem G224:Tr F224:=fun ρ=>by
 unfold F224
 have:=@t129_zero ρ (.var 28) (.var 24) (.int 0)
 try simp only [smA,smW] at *
 grind
namespace m
def facts:List E:=[F214,F215,F216,F217,F218,F219,F220,F221,F222,F223,F224]
theorem facts_ok:∀ e∈facts,Tr e:=(ac G214 (ac G215 (ac G216 (ac G217 (ac G218 (ac G219 (ac G220 (ac G221 (ac G222 (ac G223 (ac G224 all_nil)))))))))))
end m
theorem reckoned:withTab Try.prog (fun tb=>checkAll outTrue (run Try.prog (tb.plus m.facts annsM natl13) 3000 (.call 4 args) .nil (varSt 2 pc0) SX.one))=true:=by kernel_rfl

theorem walk {H:Type} (W:World) (base:Nat) (enc:TypeId × Value→H) (v0:Value) (d0:DataW H) (p0:List MemPlace) (v1:Value) (d1:DataW H) (p1:List MemPlace)
  (o0:Value.okWide Try.prog W .any base 3 v0) (h0:DataW.Trod enc Try.prog W 0 (fun _=>true) true 3 v0 d0 p0)
  (o1:Value.okWide Try.prog W .any base 22 v1) (h1:DataW.Trod enc Try.prog W 0 (fun _=>true) true 22 v1 d1 p1) :
  Calls Try.prog 4 #[v0,v1] W fun e W'=>e=.returned (.bool true)∧Below W.heap.size W W':=by
 obtain ⟨x0,rfl,_,_,w0⟩:=open_int Try.underlying3 o0 h0
 have r0:=wf_i64 w0
 obtain ⟨x1,rfl,k1,w1⟩:=open_slc (n:=9) (ks:=[.int .i64,.int .i64,.int .i64]) Try.underlying22 (by kernel_rfl) o1 h1
 have q1:=typ_slc w1
 refine true_of_check2 good (facts:=m.facts) m.facts_ok (anns:=annsM) annsM_ok natl13_ok (vs:=[.int x0,x1]) (pc:=pc0) reckoned ?_ W ⟨trivial,⟨k1,trivial⟩⟩
 unfold pc0
 try simp only [u64R,i64R,List.cons_append,List.nil_append]
 repeat' (refine pc_cons ?_ ?_)
 all_goals first
  | exact pc_nil
  | (first | exact q1 | skip; done)
  | (simp only [eLe,eLt,eV,Env.of,sm_I_int,sm_I_var,sm_B_lss,sm_B_not,getD_cons_zero,getD_cons_succ,toI_int]; omega)

set_option maxRecDepth 100000 in
theorem lifted (os : Os) (started : os.Started) (H : Type) (enc : TypeId × Value → H) :
    ReturnsInHanded {} Try.checked os 4 .any (Rows.metaHoldsSpec.pre6 enc Try.prog Try.f4 Rows.metaHoldsRow.domain false) (Rows.metaHoldsSpec.post enc Try.prog Try.f4 false true false false) := by
  refine returnsInHanded_of_change (C := Try.checked) own started (by kernel_rfl) Try.func4
    (ChangeSpec.witness6 (enc := enc) (C := Try.checked) false ⟨#[], #[.int .i64 0, .slice none 0 0], []⟩ 8 (by kernel_rfl) (by kernel_rfl) (by kernel_rfl) (by kernel_rfl)) ?_
  intro W base args ds gs before hval0 hW hcnd _
  have hval : ∀ (j : Nat) t v, Try.f4.params[j]? = some t → args[j]? = some v → Value.okWide Try.prog W .any base t v := hval0
  have hW' := hW
  obtain ⟨p, q, hA0, hV, rfl, hfz, hnd⟩ := hW
  have hA : DataW.TrodAll enc Try.prog W 0 (fun _ => true) true Try.f4.params.toList args.toList ds p := hA0
  rw [Try.params4] at hA hval
  obtain ⟨v0, vs0, d0, ds0, p0, q0, hargs, rfl, rfl, h0, r0⟩ := trodAll_cons hA
  obtain ⟨v1, vs1, d1, ds1, p1, q1, rfl, rfl, rfl, h1, r1⟩ := trodAll_cons r0
  obtain ⟨rfl, rfl, rfl⟩ := trodAll_nil r1
  obtain rfl : args = #[v0, v1] := by cases args; simp_all
  obtain ⟨rfl, rfl⟩ := trodVars_none hV
  have lt0 : ∀ x ∈ p0, x.block < W.heap.size := by obtain ⟨m, hm⟩ := h0; exact DataW.trod_lt m _ _ _ hm
  have lt1 : ∀ x ∈ p1, x.block < W.heap.size := by obtain ⟨m, hm⟩ := h1; exact DataW.trod_lt m _ _ _ hm
  have o0 := hval 0 3 v0 rfl rfl
  have o1 := hval 1 22 v1 rfl rfl
  clear hA0 hval0
  refine (walk W base enc v0 d0 p0 v1 d1 p1 o0 h0 o1 h1).mono fun e W' ⟨he, bel⟩ => ?_
  subst he
  exact ⟨_, rfl, _, _, _, [], _, [], hW', trodAll_mk1 (shut_bool Try.underlying4 _), (trodAll_cons_mk (Below.trod laidOut (by kernel_rfl) (of_decide_eq_true (by kernel_rfl)) h0 bel lt0) (trodAll_cons_mk (Below.trod laidOut (by kernel_rfl) (of_decide_eq_true (by kernel_rfl)) h1 bel lt1) trodAll_mk0)), rfl, bel.frame _, fun h => by cases h⟩

theorem over:Rows.metaHoldsRow.holds Try.pinned (OpenSpec.ofChange Rows.metaHoldsSpec) :=
 OpenClaim.holds_of_wide 4 Try.f4 rfl rfl rfl rfl rfl rfl rfl ⟨rfl,rfl,rfl,rfl,rfl⟩ rfl rfl rfl rfl rfl (by kernel_rfl) Try.func4 (by kernel_rfl)
  (of_decide_eq_true (by kernel_rfl)) (by unfold Func.isWrapper; first | (rw [if_pos (by decide +kernel)]; kernel_rfl) | (rw [if_neg (by decide +kernel)]; exact ⟨rfl,rfl⟩))
  (fun os started H enc _=>lifted os started H enc)

theorem proved:Rows.MetaHoldsSaid:=over

end
end Go.Proofs.Ytmngplmblanhdaa.metaHolds
