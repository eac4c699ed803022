/-
  ZoneHolds: one reckoning by the kernel, over contracts of functions and facts.
-/
import Derived.Test.YtfifefjbckmfeaaRows
import Derived.Test.YtfifefjbckmfeaaNat
import Derived.WalkKit
import Derived.ProofKit
import Derived.OpenShut
import Derived.ChangeOld
import Derived.Below
import Derived.KernelRfl
import Derived.Lib.SmallJoins
import Derived.Test.YtfifefjbckmfeaaTheory
import Derived.Test.YtfifefjbckmfeaaZoneHoldsPartd
namespace Go.Proofs.Ytfifefjbckmfeaa.zoneHolds
open Go.ChangeShapes Go.WideShapes Go.ChangeAt Go.RowKit
open Go.SX
set_option linter.unusedVariables false
set_option linter.unusedSimpArgs false
set_option maxRecDepth 100000
noncomputable section
theorem loop4:LoopOk Try.prog (annG (some yG)):=loop_of_bodies rfl (by kernel_rfl) (by
 intro τ hτ
 rcases List.mem_cons.1 hτ with rfl | hτ
 ·exact body4_0
 cases hτ)
def annsM:List Ann:=(annG (some yG))::[]
theorem annsM_ok:∀ x∈annsM,LoopOk Try.prog x:=by
 intro x hx
 rcases List.mem_cons.1 hx with rfl | hx
 ·exact loop4
 cases hx
def F244:E:=(.fn 106 (.pr (.fn 5 (.pr (.var 0) (.fn 30 (.int 0)))) (.fn 10 (.int 0))))
theorem G244:Tr F244:=fun ρ=>by
 unfold F244
 have:=@t106_new ρ (.int 0) (.int 0) (.var 0)
 try simp only [smA,smW] at *
 grind
def F245:E:=(.not (.cmp .lss (.int 0) (.fn 109 (.fn 5 (.pr (.var 0) (.fn 30 (.int 0)))))))
theorem G245:Tr F245:=fun ρ=>by
 unfold F245
 have:=@t106_new ρ (.int 0) (.int 0) (.var 0)
 try simp only [smA,smW] at *
 grind
namespace m
def facts:List E:=[F244,F210,F245]
theorem facts_ok:∀ e∈facts,Tr e:=(ac G244 (ac G210 (ac G245 all_nil)))
end m
theorem reckoned:withTab Try.prog (fun tb=>checkAll outTrue (run Try.prog (tb.plus m.facts annsM natl17) 3000 (.call 5 args) .nil (varSt 2 pc0) SX.one))=true:=by kernel_rfl

theorem walk {H:Type} (W:World) (base:Nat) (enc:TypeId × Value→H) (v0:Value) (d0:DataW H) (p0:List MemPlace) (v1:Value) (d1:DataW H) (p1:List MemPlace)
  (o0:Value.okWide Try.prog W .any base 3 v0) (h0:DataW.Trod enc Try.prog W 0 (fun _=>true) true 3 v0 d0 p0)
  (o1:Value.okWide Try.prog W .any base 40 v1) (h1:DataW.Trod enc Try.prog W 0 (fun _=>true) true 40 v1 d1 p1) :
  Calls Try.prog 5 #[v0,v1] W fun e W'=>e=.returned (.bool true)∧Below W.heap.size W W':=by
 obtain ⟨x0,rfl,_,_,w0⟩:=open_int Try.underlying3 o0 h0
 have r0:=wf_i64 w0
 obtain ⟨x1,rfl,k1,w1⟩:=open_slc (n:=9) (ks:=[.int .i64,.int .i64,.int .i64,.slc [.int .i64]]) Try.underlying40 (by kernel_rfl) o1 h1
 have q1:=typ_slc w1
 refine true_of_check2 good (facts:=m.facts) m.facts_ok (anns:=annsM) annsM_ok natl17_ok (vs:=[.int x0,x1]) (pc:=pc0) reckoned ?_ W ⟨trivial,⟨k1,trivial⟩⟩
 unfold pc0
 try simp only [u64R,i64R,List.cons_append,List.nil_append]
 repeat' (refine pc_cons ?_ ?_)
 all_goals first
  | exact pc_nil
  | (first | exact q1 | skip; done)
  | (simp only [eLe,eLt,eV,Env.of,sm_I_int,sm_I_var,sm_B_lss,sm_B_not,getD_cons_zero,getD_cons_succ,toI_int]; omega)

set_option maxRecDepth 100000 in
theorem lifted (os : Os) (started : os.Started) (H : Type) (enc : TypeId × Value → H) :
    ReturnsInHanded {} Try.checked os 5 .any (Rows.zoneHoldsSpec.pre6 enc Try.prog Try.f5 Rows.zoneHoldsRow.domain false) (Rows.zoneHoldsSpec.post enc Try.prog Try.f5 false true false false) := by
  refine returnsInHanded_of_change (C := Try.checked) own started (by kernel_rfl) Try.func5
    (ChangeSpec.witness6 (enc := enc) (C := Try.checked) false ⟨#[], #[.int .i64 0, .slice none 0 0], []⟩ 8 (by kernel_rfl) (by kernel_rfl) (by kernel_rfl) (by kernel_rfl)) ?_
  intro W base args ds gs before hval0 hW hcnd _
  have hval : ∀ (j : Nat) t v, Try.f5.params[j]? = some t → args[j]? = some v → Value.okWide Try.prog W .any base t v := hval0
  have hW' := hW
  obtain ⟨p, q, hA0, hV, rfl, hfz, hnd⟩ := hW
  have hA : DataW.TrodAll enc Try.prog W 0 (fun _ => true) true Try.f5.params.toList args.toList ds p := hA0
  rw [Try.params5] at hA hval
  obtain ⟨v0, vs0, d0, ds0, p0, q0, hargs, rfl, rfl, h0, r0⟩ := trodAll_cons hA
  obtain ⟨v1, vs1, d1, ds1, p1, q1, rfl, rfl, rfl, h1, r1⟩ := trodAll_cons r0
  obtain ⟨rfl, rfl, rfl⟩ := trodAll_nil r1
  obtain rfl : args = #[v0, v1] := by cases args; simp_all
  obtain ⟨rfl, rfl⟩ := trodVars_none hV
  have lt0 : ∀ x ∈ p0, x.block < W.heap.size := by obtain ⟨m, hm⟩ := h0; exact DataW.trod_lt m _ _ _ hm
  have lt1 : ∀ x ∈ p1, x.block < W.heap.size := by obtain ⟨m, hm⟩ := h1; exact DataW.trod_lt m _ _ _ hm
  have o0 := hval 0 3 v0 rfl rfl
  have o1 := hval 1 40 v1 rfl rfl
  clear hA0 hval0
  refine (walk W base enc v0 d0 p0 v1 d1 p1 o0 h0 o1 h1).mono fun e W' ⟨he, bel⟩ => ?_
  subst he
  exact ⟨_, rfl, _, _, _, [], _, [], hW', trodAll_mk1 (shut_bool Try.underlying4 _), (trodAll_cons_mk (Below.trod laidOut (by kernel_rfl) (of_decide_eq_true (by kernel_rfl)) h0 bel lt0) (trodAll_cons_mk (Below.trod laidOut (by kernel_rfl) (of_decide_eq_true (by kernel_rfl)) h1 bel lt1) trodAll_mk0)), rfl, bel.frame _, fun h => by cases h⟩

theorem over:Rows.zoneHoldsRow.holds Try.pinned (OpenSpec.ofChange Rows.zoneHoldsSpec) :=
 OpenClaim.holds_of_wide 5 Try.f5 rfl rfl rfl rfl rfl rfl rfl ⟨rfl,rfl,rfl,rfl,rfl⟩ rfl rfl rfl rfl rfl (by kernel_rfl) Try.func5 (by kernel_rfl)
  (of_decide_eq_true (by kernel_rfl)) (by unfold Func.isWrapper; first | (rw [if_pos (by decide +kernel)]; kernel_rfl) | (rw [if_neg (by decide +kernel)]; exact ⟨rfl,rfl⟩))
  (fun os started H enc _=>lifted os started H enc)

theorem proved:Rows.ZoneHoldsSaid:=over

end
end Go.Proofs.Ytfifefjbckmfeaa.zoneHolds
