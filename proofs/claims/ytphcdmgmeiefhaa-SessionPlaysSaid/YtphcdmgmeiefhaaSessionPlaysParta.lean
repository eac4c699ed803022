/-
  SessionPlays: contracts of functions, part 1.
-/
import Derived.Test.YtphcdmgmeiefhaaRows
import Derived.Test.YtphcdmgmeiefhaaTheory
import Derived.WalkKit
import Derived.ProofKit
import Derived.OpenShut
import Derived.ChangeOld
import Derived.Below
import Derived.KernelRfl
import Derived.Lib.SmallJoins
namespace Go.Proofs.Ytphcdmgmeiefhaa.sessionPlays
open Go.ChangeShapes Go.WideShapes Go.ChangeAt Go.RowKit
open Go.SX
set_option linter.unusedVariables false
set_option linter.unusedSimpArgs false
set_option maxRecDepth 100000
theorem own : ownKnob Try.prog.godebug = none := by kernel_rfl
theorem laidOut : laidOutB Try.prog = true := by kernel_rfl
theorem good : progOk Try.prog = true := by kernel_rfl


noncomputable def ii (e : E) : SV := .int .i64 e
noncomputable def gone : Blk := ⟨true, .gone⟩
noncomputable def nn : E := .fn 9 (.pr (.var 2) (.int 4))
noncomputable def ks : List CK := [.int .i64, .int .i64, .int .i64, .str]
noncomputable def lst : SV := .bsl ks (.var 2)
noncomputable def typ (i : Nat) : E := .fn 27 (.pr (mkList [.int 3, .int 3, .int 3, .int 9]) (.var i))
noncomputable def pc0 : List E := [typ 2]
noncomputable def args : List SV := [.str (.var 0), .str (.var 1), lst]
noncomputable def nnF : E := .fn 9 (.pr (.var 0) (.int 4))
noncomputable def few : Pact := ⟨16, [.bsl ks (.var 0)], ⟨1, 0, .nil, [typ 0]⟩, [(.bool (eLe nnF (.int 80)), ⟨1, 0, .nil, []⟩), (.bool (.bool false), ⟨1, 0, .nil, []⟩)]⟩
noncomputable def tfew : Tmpl := ⟨tmSlots 24 [(0, .bsl ks (.var 0)), (3, ii (eV 1))], ⟨2, 0, .nil, [typ 0, eLe (.int 0) (eV 1), eLe (eV 1) nnF]⟩, .fn 7 (.pr nnF (eV 1))⟩
noncomputable def annfew : Ann := ⟨16, 0, [tfew], none⟩
/-- connections of the reference; the reference -/
noncomputable def connB (r n c : Nat) : Blk := ⟨true, .flat [.bool, .int .i64] (eV r) (eV n) (eV c) 76⟩
noncomputable def tabv (b n c : Nat) : SV := .agg [.str (eV 0), .str (eV 1), .nslice b (eV n) (eV c)]
noncomputable def rows (r : Nat) : E := .fn 9 (.pr (eV r) (.int 2))
noncomputable def connPc : List E := [eLe (eV 3) (.int 1000), .cmp .eql (eV 3) (rows 2), eLe (.int 0) (eV 5), eLe (eV 5) (.int 1)]
noncomputable def connP : Pact := ⟨31, [tabv 0 3 4, ii (eV 5)], ⟨6, 1, heapL [connB 2 3 4], connPc⟩, [(ii (eV 6), ⟨7, 1, heapL [connB 2 3 4], [.cmp .eql (eV 6) (.fn 100 (.pr (eV 2) (eV 5)))]⟩)]⟩
noncomputable def tconn : Tmpl := ⟨tmSlots 34 [(1, ii (eV 5)), (2, .ptr 1 ⟨0, 0, .int 0⟩), (5, ii (eV 6))], ⟨7, 2, heapL [connB 2 3 4, ⟨true, .cells [.str (eV 0), .str (eV 1), .nslice 0 (eV 3) (eV 4)] (.int 3) 32⟩],
  connPc ++ [eLe (.int 0) (eV 6), eLe (eV 6) (eV 3), .fn 101 (.pr (eV 2) (.pr (eV 5) (eV 6)))]⟩, .fn 7 (.pr (eV 3) (eV 6))⟩
noncomputable def annconn : Ann := ⟨31, 0, [tconn], none⟩
noncomputable def intB (l n c : Nat) : Blk := ⟨true, .flat [.int .i64] (eV l) (eV n) (eV c) 3⟩
noncomputable def numsPc : List E := [eLe (eV 3) (.int 1000), .cmp .eql (eV 3) (rows 2)]
noncomputable def nil : E := .fn 10 (.int 0)
noncomputable def numsP : Pact := ⟨30, [tabv 0 3 4], ⟨5, 1, heapL [connB 2 3 4], numsPc⟩, [(.nils, ⟨5, 1, heapL [connB 2 3 4], [.fn 103 (.pr (eV 2) (.pr (eV 3) nil))]⟩),
  (.nslice 1 (eV 6) (eV 7), ⟨8, 2, heapL [connB 2 3 4, intB 5 6 7], [.fn 103 (.pr (eV 2) (.pr (eV 3) (eV 5))), .cmp .eql (eV 6) (.fn 0 (eV 5))]⟩)]⟩
noncomputable def tnums (out : SV) (nv nb : Nat) (o : E) (bs : List Blk) (pc : List E) : Tmpl := ⟨tmSlots 23 [(1, .ptr 1 ⟨0, 0, .int 0⟩), (3, out), (4, ii (eV 5))], ⟨nv, nb, heapL ([connB 2 3 4, ⟨true, .cells [.str (eV 0), .str (eV 1), .nslice 0 (eV 3) (eV 4)] (.int 3) 32⟩] ++ bs),
  numsPc ++ [eLe (.int 0) (eV 5), eLe (eV 5) (eV 3), .fn 103 (.pr (eV 2) (.pr (eV 5) o))] ++ pc⟩, .fn 7 (.pr (eV 3) (eV 5))⟩
noncomputable def annnums : Ann := ⟨30, 0, [tnums .nils 6 2 nil [] [], tnums (.nslice 2 (eV 7) (eV 8)) 9 3 (eV 6) [intB 6 7 8] [.cmp .eql (eV 7) (.fn 0 (eV 6)), eLe (.int 0) (eV 7), eLe (eV 7) (eV 5), eLe (.int 0) (eV 8)]], none⟩
noncomputable def intsPc : List E := [eLe (eV 1) (.int 1000), .cmp .eql (eV 1) (.fn 0 (eV 0)), .cmp .eql (eV 4) (.fn 0 (eV 3)), .fn 104 (.pr (eV 0) (eV 3))]
noncomputable def intsP : Pact := ⟨29, [.nslice 0 (eV 1) (eV 2), .nslice 1 (eV 4) (eV 5)], ⟨6, 2, heapL [intB 0 1 2, intB 3 4 5], intsPc⟩, [(.bool (.bool true), ⟨6, 2, heapL [intB 0 1 2, intB 3 4 5], []⟩)]⟩
noncomputable def tints : Tmpl := ⟨tmSlots 26 [(0, .nslice 0 (eV 1) (eV 2)), (1, .nslice 1 (eV 4) (eV 5)), (5, ii (eV 6))], ⟨7, 2, heapL [intB 0 1 2, intB 3 4 5], intsPc ++ [eLe (.int 0) (eV 6), eLe (eV 6) (eV 1)]⟩, .fn 7 (.pr (eV 1) (eV 6))⟩
noncomputable def annints : Ann := ⟨29, 0, [tints], none⟩
noncomputable def rel (m r c0 c1 made : Nat) : E := .fn 110 (.pr (eV m) (.pr (eV r) (.pr (eV c0) (.pr (eV c1) (eV made)))))
noncomputable def at0 (b : Nat) : SV := .ptr b ⟨0, 0, .int 0⟩
/-- sessions, from variable v on: the map, the connections, their number, room, the two, how many were made -/
noncomputable def tabB (v m : Nat) : Blk := ⟨true, .cells [.str (eV 0), .str (eV 1), .map m, ii (eV (v + 4)), ii (eV (v + 5)), ii (eV (v + 6))] (.int 6) 65⟩
noncomputable def mapB (v : Nat) : Blk := ⟨true, .mapl .i64 (.int .i64) (eV v)⟩
noncomputable def relPc (v : Nat) : List E := [rel v (v + 1) (v + 4) (v + 5) (v + 6), .cmp .eql (eV (v + 2)) (eV (v + 6)), eLe (.int 0) (eV (v + 3)), eLe (eV (v + 6)) (.int 80), eLe (.int 1) (eV (v + 2))]
noncomputable def looksP : Pact := ⟨11, [at0 0, tabv 2 4 5], ⟨9, 3, heapL [tabB 2 1, mapB 2, connB 3 4 5], relPc 2⟩, [(.bool (.bool true), ⟨9, 3, heapL [tabB 2 1, mapB 2, connB 3 4 5], []⟩)]⟩
noncomputable def tlooks : Tmpl := ⟨tmSlots 60 [(0, at0 0), (3, at0 3), (5, ii (eV 9))], ⟨10, 4, heapL [tabB 2 1, mapB 2, connB 3 4 5, ⟨true, .cells [.str (eV 0), .str (eV 1), .nslice 2 (eV 4) (eV 5)] (.int 3) 32⟩], relPc 2 ++ [eLe (.int (-1)) (eV 9), eLe (eV 9) (.int 20)]⟩, .fn 7 (.pr (.int 20) (eV 9))⟩
noncomputable def annlooks : Ann := ⟨11, 0, [tlooks], none⟩
/-- tokens that are allowed -/
noncomputable def valid : List E := [.not (.seq (eV 0) (eV 1)), .not (eLt (.int 32) (.fn 13 (eV 1))), .not (eLt (.fn 13 (eV 1)) (.int 4)), .not (eLt (.int 32) (.fn 13 (eV 0))), .not (eLt (.fn 13 (eV 0)) (.int 4)), eLe nn (.int 80)]
noncomputable def toks : Blk := ⟨true, .cells [.str (eV 0), .str (eV 1)] (.int 2) 27⟩
noncomputable def slots : List (Nat × SV) := [(1, .str (eV 1)), (2, lst), (7, at0 0), (8, at0 6), (10, at0 4), (11, ii (eV 3))]
noncomputable def loopPc : List E := [eLe (.int 0) (eV 3), eLe (eV 3) (.int 80), eLe (eV 3) nn] ++ valid ++ pc0
noncomputable def t0 : Tmpl := ⟨tmSlots 155 slots, ⟨4, 7, heapL [toks, gone, gone, gone, ⟨true, .cells [.str (eV 0), .str (eV 1), .nils] (.int 3) 32⟩, ⟨true, .map [] (.int 0)⟩, ⟨true, .cells [.str (eV 0), .str (eV 1), .map 5, ii (.int (-1)), ii (.int (-1)), ii (.int 0)] (.int 6) 65⟩], loopPc⟩, .fn 7 (.pr nn (eV 3))⟩
noncomputable def t1 : Tmpl := ⟨tmSlots 155 slots, ⟨11, 8, heapL [toks, gone, gone, gone, ⟨true, .cells [.str (eV 0), .str (eV 1), .nslice 7 (eV 6) (eV 7)] (.int 3) 32⟩, mapB 4, tabB 4 5, connB 5 6 7], relPc 4 ++ [eLe (eV 10) (eV 3)] ++ loopPc⟩, .fn 7 (.pr nn (eV 3))⟩
noncomputable def ts : List Tmpl := [t0, t1]
noncomputable def ann1 (y : Option LoopX) : Ann := ⟨6, 0, ts, y⟩
noncomputable def y1 : LoopX := ⟨3, 5, [⟨.exit 0, tmSlots 155 [], ⟨3, 5, .nil, []⟩⟩]⟩
noncomputable def what (k : Int) : E := .cmp .eql (.fn 1 (.pr (.var 2) (.fn 6 (.pr (.fn 8 (.pr (.var 3) (.int 4))) (.int 0))))) (.int k)
/-- equality of strings: both ways -/
noncomputable def tokA : E := .fn 1 (.pr (.var 2) (.fn 6 (.pr (.fn 8 (.pr (.var 3) (.int 4))) (.int 3))))
noncomputable def strHints : List E := [.seq (eV 0) (eV 0), .seq (eV 1) (eV 1), .imp (.not (.seq (eV 0) (eV 1))) (.not (.seq (eV 1) (eV 0))),
  .imp (.seq (eV 0) tokA) (.seq tokA (eV 0)), .imp (.seq (eV 1) tokA) (.seq tokA (eV 1)), .imp (.not (.seq (eV 0) tokA)) (.not (.seq tokA (eV 0))), .imp (.not (.seq (eV 1) tokA)) (.not (.seq tokA (eV 1))),
  .imp (.seq tokA (eV 0)) (.seq (eV 0) tokA), .imp (.seq tokA (eV 1)) (.seq (eV 1) tokA), .imp (.not (.seq tokA (eV 0))) (.not (.seq (eV 0) tokA)), .imp (.not (.seq tokA (eV 1))) (.not (.seq (eV 1) tokA)),
  .imp (.and (.seq (eV 0) tokA) (.not (.seq (eV 0) (eV 1)))) (.not (.seq (eV 1) tokA)), .imp (.and (.seq (eV 1) tokA) (.not (.seq (eV 0) (eV 1)))) (.not (.seq (eV 0) tokA)),
  .imp (.and (.seq tokA (eV 0)) (.not (.seq (eV 0) (eV 1)))) (.not (.seq tokA (eV 1))), .imp (.and (.seq tokA (eV 1)) (.not (.seq (eV 0) (eV 1)))) (.not (.seq tokA (eV 0)))]

noncomputable def natl0 : List Nat1 := nats
theorem natl0_ok : ∀ x ∈ natl0, NatOk Try.prog x := nats_ok

set_option maxRecDepth 100000 in
theorem reckoned0 : withTab Try.prog (fun tb => checkAll outTrue (run Try.prog (tb.plus [] [] natl0) 3000 (.call 8 []) .nil (varSt 0 []) SX.one)) = true := by kernel_rfl
noncomputable def natl1 : List Nat1 := closedNat 8 :: natl0
theorem natl1_ok : ∀ x ∈ natl1, NatOk Try.prog x := by
  intro x hx
  rcases List.mem_cons.1 hx with rfl | hx
  · exact closed_of_check good (facts := []) all_nil (anns := []) (plainAnns_ok [] rfl) (nats := natl0) natl0_ok reckoned0
  · exact natl0_ok x hx

namespace p0
noncomputable def f0 : E := (.imp (.and (.cmp .lss (.var 1) (.int 81)) (.and (.not (.cmp .lss (.fn 9 (.pr (.var 0) (.int 4))) (.var 1))) (.not (.cmp .lss (.var 1) (.int 0))))) (.not (.cmp .lss (.ar .add .i64 (.var 1) (.int 1)) (.int 0))))
theorem fact0 (ρ : Env) : E.B ρ f0 = true := by
  unfold f0
  simp only [sm_I_int, sm_I_mn, sm_I_mx, sm_I_add_u64, sm_I_sub_u64, sm_I_add_i64, sm_I_sub_i64, sm_I_mul_i64, sm_I_fn6, sm_I_fn7, sm_I_fn8, sm_B_bool, sm_B_eql, sm_B_lss, sm_B_not, sm_B_and, sm_B_imp, sm_B_iff]
  rintro ⟨p0, p1, p2⟩
  try generalize E.I ρ (.var 1) = x0 at *
  try generalize E.I ρ (.fn 9 (.pr (.var 0) (.int 4))) = x1 at *
  obtain ⟨y0, e0, q0, h0⟩ := cs_i64 (x0 + 1)
  try simp only [e0] at *
  omega
noncomputable def f1 : E := (.imp (.and (.cmp .lss (.var 1) (.fn 9 (.pr (.var 0) (.int 4)))) (.and (.cmp .lss (.var 1) (.int 81)) (.and (.not (.cmp .lss (.fn 9 (.pr (.var 0) (.int 4))) (.var 1))) (.not (.cmp .lss (.var 1) (.int 0)))))) (.not (.cmp .lss (.fn 9 (.pr (.var 0) (.int 4))) (.ar .add .i64 (.var 1) (.int 1)))))
theorem fact1 (ρ : Env) : E.B ρ f1 = true := by
  unfold f1
  simp only [sm_I_int, sm_I_mn, sm_I_mx, sm_I_add_u64, sm_I_sub_u64, sm_I_add_i64, sm_I_sub_i64, sm_I_mul_i64, sm_I_fn6, sm_I_fn7, sm_I_fn8, sm_B_bool, sm_B_eql, sm_B_lss, sm_B_not, sm_B_and, sm_B_imp, sm_B_iff]
  rintro ⟨p0, p1, p2, p3⟩
  try generalize E.I ρ (.var 1) = x0 at *
  try generalize E.I ρ (.fn 9 (.pr (.var 0) (.int 4))) = x1 at *
  obtain ⟨y0, e0, q0, h0⟩ := cs_i64 (x0 + 1)
  try simp only [e0] at *
  omega
noncomputable def f2 : E := (.imp (.and (.cmp .lss (.var 1) (.int 81)) (.and (.not (.cmp .lss (.fn 9 (.pr (.var 0) (.int 4))) (.var 1))) (.not (.cmp .lss (.var 1) (.int 0))))) (.cmp .lss (.fn 7 (.pr (.fn 9 (.pr (.var 0) (.int 4))) (.ar .add .i64 (.var 1) (.int 1)))) (.fn 7 (.pr (.fn 9 (.pr (.var 0) (.int 4))) (.var 1)))))
theorem fact2 (ρ : Env) : E.B ρ f2 = true := by
  unfold f2
  simp only [sm_I_int, sm_I_mn, sm_I_mx, sm_I_add_u64, sm_I_sub_u64, sm_I_add_i64, sm_I_sub_i64, sm_I_mul_i64, sm_I_fn6, sm_I_fn7, sm_I_fn8, sm_B_bool, sm_B_eql, sm_B_lss, sm_B_not, sm_B_and, sm_B_imp, sm_B_iff]
  rintro ⟨p0, p1, p2⟩
  try generalize E.I ρ (.var 1) = x0 at *
  try generalize E.I ρ (.fn 9 (.pr (.var 0) (.int 4))) = x1 at *
  obtain ⟨y0, e0, q0, h0⟩ := cs_i64 (x0 + 1)
  try simp only [e0] at *
  omega
noncomputable def f3 : E := (.imp (.and (.cmp .lss (.var 1) (.fn 9 (.pr (.var 0) (.int 4)))) (.and (.cmp .lss (.var 1) (.int 81)) (.and (.not (.cmp .lss (.fn 9 (.pr (.var 0) (.int 4))) (.var 1))) (.not (.cmp .lss (.var 1) (.int 0)))))) (.not (.cmp .lss (.fn 7 (.pr (.fn 9 (.pr (.var 0) (.int 4))) (.ar .add .i64 (.var 1) (.int 1)))) (.int 0))))
theorem fact3 (ρ : Env) : E.B ρ f3 = true := by
  unfold f3
  simp only [sm_I_int, sm_I_mn, sm_I_mx, sm_I_add_u64, sm_I_sub_u64, sm_I_add_i64, sm_I_sub_i64, sm_I_mul_i64, sm_I_fn6, sm_I_fn7, sm_I_fn8, sm_B_bool, sm_B_eql, sm_B_lss, sm_B_not, sm_B_and, sm_B_imp, sm_B_iff]
  rintro ⟨p0, p1, p2, p3⟩
  try generalize E.I ρ (.var 1) = x0 at *
  try generalize E.I ρ (.fn 9 (.pr (.var 0) (.int 4))) = x1 at *
  obtain ⟨y0, e0, q0, h0⟩ := cs_i64 (x0 + 1)
  try simp only [e0] at *
  omega
noncomputable def facts : List E := [f0, f1, f2, f3]
theorem facts_ok : ∀ e ∈ facts, ∀ ρ : Env, E.B ρ e = true := (all_cons fact0 (all_cons fact1 (all_cons fact2 (all_cons fact3 all_nil))))
end p0
set_option maxRecDepth 100000 in
theorem spec0_0 : NatOk Try.prog (specNat (few)) :=
  spec_of_check good (facts := p0.facts) p0.facts_ok (anns := [annfew]) (plainAnns_ok _ (by kernel_rfl)) (nats := natl1) natl1_ok (n := 3000) (by kernel_rfl)
noncomputable def natl2 : List Nat1 := specNat (few) :: natl1
theorem natl2_ok : ∀ x ∈ natl2, NatOk Try.prog x := by
  intro x hx
  rcases List.mem_cons.1 hx with rfl | hx
  · exact spec0_0
  exact natl1_ok x hx

namespace p1
noncomputable def f0 : E := (.imp (.and (.cmp .eql (.var 3) (.fn 9 (.pr (.var 2) (.int 2)))) (.not (.cmp .lss (.int 1000) (.var 3)))) (.not (.cmp .lss (.var 3) (.int 0))))
theorem fact0 (ρ : Env) : E.B ρ f0 = true := by
  unfold f0
  simp only [sm_I_int, sm_I_fn6, sm_I_fn7, sm_I_fn8, sm_B_bool, sm_B_eql, sm_B_lss, sm_B_not, sm_B_and, sm_B_imp, sm_I_add_i64, sm_I_sub_i64, d110, d33, d32, dop, dpl, dL34, dL35, dL2, dL3, dL23, dL10, dd_int, dd_bool, d100, d101, d103, d104, d36, d39, d0, d9, List.map_nil, List.map_cons, List.map_append, List.length_nil]
  rintro ⟨p0, p1⟩
  omega
noncomputable def f1 : E := (.imp (.and (.not (.cmp .lss (.int 1) (.var 5))) (.and (.not (.cmp .lss (.var 5) (.int 0))) (.and (.cmp .eql (.var 3) (.fn 9 (.pr (.var 2) (.int 2)))) (.not (.cmp .lss (.int 1000) (.var 3)))))) (.fn 101 (.pr (.var 2) (.pr (.var 5) (.int 0)))))
theorem fact1 (ρ : Env) : E.B ρ f1 = true := by
  unfold f1
  simp only [sm_I_int, sm_I_fn6, sm_I_fn7, sm_I_fn8, sm_B_bool, sm_B_eql, sm_B_lss, sm_B_not, sm_B_and, sm_B_imp, sm_I_add_i64, sm_I_sub_i64, d110, d33, d32, dop, dpl, dL34, dL35, dL2, dL3, dL23, dL10, dd_int, dd_bool, d100, d101, d103, d104, d36, d39, d0, d9, List.map_nil, List.map_cons, List.map_append, List.length_nil]
  rintro ⟨p0, p1, p2, p3⟩
  exact bef_zero p2
noncomputable def f2 : E := (.imp (.and (.cmp .lss (.var 6) (.var 3)) (.and (.fn 1 (.pr (.var 2) (.fn 6 (.pr (.fn 8 (.pr (.var 6) (.int 2))) (.int 0))))) (.and (.cmp .eql (.fn 1 (.pr (.var 2) (.fn 6 (.pr (.fn 8 (.pr (.var 6) (.int 2))) (.int 1))))) (.var 5)) (.and (.fn 101 (.pr (.var 2) (.pr (.var 5) (.var 6)))) (.and (.not (.cmp .lss (.var 3) (.var 6))) (.and (.not (.cmp .lss (.var 6) (.int 0))) (.and (.not (.cmp .lss (.int 1) (.var 5))) (.and (.not (.cmp .lss (.var 5) (.int 0))) (.and (.cmp .eql (.var 3) (.fn 9 (.pr (.var 2) (.int 2)))) (.not (.cmp .lss (.int 1000) (.var 3)))))))))))) (.cmp .eql (.var 6) (.fn 100 (.pr (.var 2) (.var 5)))))
theorem fact2 (ρ : Env) : E.B ρ f2 = true := by
  unfold f2
  simp only [sm_I_int, sm_I_fn6, sm_I_fn7, sm_I_fn8, sm_B_bool, sm_B_eql, sm_B_lss, sm_B_not, sm_B_and, sm_B_imp, sm_I_add_i64, sm_I_sub_i64, d110, d33, d32, dop, dpl, dL34, dL35, dL2, dL3, dL23, dL10, dd_int, dd_bool, d100, d101, d103, d104, d36, d39, d0, d9, List.map_nil, List.map_cons, List.map_append, List.length_nil]
  rintro ⟨p0, p1, p2, p3, p4, p5, p6, p7, p8, p9⟩
  exact conn_found p8 p3 (by omega) (by omega) (by assumption) (by assumption)
noncomputable def f3 : E := (.imp (.and (.not (.cmp .lss (.var 3) (.var 6))) (.and (.not (.cmp .lss (.var 6) (.int 0))) (.and (.cmp .eql (.var 3) (.fn 9 (.pr (.var 2) (.int 2)))) (.not (.cmp .lss (.int 1000) (.var 3)))))) (.not (.cmp .lss (.ar .add .i64 (.var 6) (.int 1)) (.int 0))))
theorem fact3 (ρ : Env) : E.B ρ f3 = true := by
  unfold f3
  simp only [sm_I_int, sm_I_fn6, sm_I_fn7, sm_I_fn8, sm_B_bool, sm_B_eql, sm_B_lss, sm_B_not, sm_B_and, sm_B_imp, sm_I_add_i64, sm_I_sub_i64, d110, d33, d32, dop, dpl, dL34, dL35, dL2, dL3, dL23, dL10, dd_int, dd_bool, d100, d101, d103, d104, d36, d39, d0, d9, List.map_nil, List.map_cons, List.map_append, List.length_nil]
  rintro ⟨p0, p1, p2, p3⟩
  obtain ⟨y0, e0, q0, h0⟩ := cs_i64 (E.I ρ (.var 6) + 1)
  try simp only [e0] at *
  omega
noncomputable def f4 : E := (.imp (.and (.not (.cmp .lss (.var 6) (.var 3))) (.and (.fn 101 (.pr (.var 2) (.pr (.var 5) (.var 6)))) (.and (.not (.cmp .lss (.var 3) (.var 6))) (.and (.not (.cmp .lss (.var 6) (.int 0))) (.and (.not (.cmp .lss (.int 1) (.var 5))) (.and (.not (.cmp .lss (.var 5) (.int 0))) (.and (.cmp .eql (.var 3) (.fn 9 (.pr (.var 2) (.int 2)))) (.not (.cmp .lss (.int 1000) (.var 3)))))))))) (.cmp .eql (.fn 100 (.pr (.var 2) (.var 5))) (.int (-1))))
theorem fact4 (ρ : Env) : E.B ρ f4 = true := by
  unfold f4
  simp only [sm_I_int, sm_I_fn6, sm_I_fn7, sm_I_fn8, sm_B_bool, sm_B_eql, sm_B_lss, sm_B_not, sm_B_and, sm_B_imp, sm_I_add_i64, sm_I_sub_i64, d110, d33, d32, dop, dpl, dL34, dL35, dL2, dL3, dL23, dL10, dd_int, dd_bool, d100, d101, d103, d104, d36, d39, d0, d9, List.map_nil, List.map_cons, List.map_append, List.length_nil]
  rintro ⟨p0, p1, p2, p3, p4, p5, p6, p7⟩
  exact conn_none p6 p1 (by omega)
noncomputable def f5 : E := (.imp (.and (.cmp .lss (.var 6) (.var 3)) (.and (.not (.cmp .lss (.var 3) (.var 6))) (.and (.not (.cmp .lss (.var 6) (.int 0))) (.and (.cmp .eql (.var 3) (.fn 9 (.pr (.var 2) (.int 2)))) (.not (.cmp .lss (.int 1000) (.var 3))))))) (.not (.cmp .lss (.var 3) (.ar .add .i64 (.var 6) (.int 1)))))
theorem fact5 (ρ : Env) : E.B ρ f5 = true := by
  unfold f5
  simp only [sm_I_int, sm_I_fn6, sm_I_fn7, sm_I_fn8, sm_B_bool, sm_B_eql, sm_B_lss, sm_B_not, sm_B_and, sm_B_imp, sm_I_add_i64, sm_I_sub_i64, d110, d33, d32, dop, dpl, dL34, dL35, dL2, dL3, dL23, dL10, dd_int, dd_bool, d100, d101, d103, d104, d36, d39, d0, d9, List.map_nil, List.map_cons, List.map_append, List.length_nil]
  rintro ⟨p0, p1, p2, p3, p4⟩
  obtain ⟨y0, e0, q0, h0⟩ := cs_i64 (E.I ρ (.var 6) + 1)
  try simp only [e0] at *
  omega
noncomputable def f6 : E := (.imp (.and (.cmp .lss (.var 6) (.var 3)) (.and (.fn 1 (.pr (.var 2) (.fn 6 (.pr (.fn 8 (.pr (.var 6) (.int 2))) (.int 0))))) (.and (.not (.cmp .eql (.fn 1 (.pr (.var 2) (.fn 6 (.pr (.fn 8 (.pr (.var 6) (.int 2))) (.int 1))))) (.var 5))) (.and (.fn 101 (.pr (.var 2) (.pr (.var 5) (.var 6)))) (.and (.not (.cmp .lss (.var 3) (.var 6))) (.and (.not (.cmp .lss (.var 6) (.int 0))) (.and (.not (.cmp .lss (.int 1) (.var 5))) (.and (.not (.cmp .lss (.var 5) (.int 0))) (.and (.cmp .eql (.var 3) (.fn 9 (.pr (.var 2) (.int 2)))) (.not (.cmp .lss (.int 1000) (.var 3)))))))))))) (.fn 101 (.pr (.var 2) (.pr (.var 5) (.ar .add .i64 (.var 6) (.int 1))))))
theorem fact6 (ρ : Env) : E.B ρ f6 = true := by
  unfold f6
  simp only [sm_I_int, sm_I_fn6, sm_I_fn7, sm_I_fn8, sm_B_bool, sm_B_eql, sm_B_lss, sm_B_not, sm_B_and, sm_B_imp, sm_I_add_i64, sm_I_sub_i64, d110, d33, d32, dop, dpl, dL34, dL35, dL2, dL3, dL23, dL10, dd_int, dd_bool, d100, d101, d103, d104, d36, d39, d0, d9, List.map_nil, List.map_cons, List.map_append, List.length_nil]
  rintro ⟨p0, p1, p2, p3, p4, p5, p6, p7, p8, p9⟩
  obtain ⟨y, e, _, hy⟩ := cs_i64 (E.I ρ (.var 6) + 1)
  rw [e, hy (by omega) (by omega)]
  refine bef_step p8 p3 ?_
  rintro ⟨a, b⟩
  first
    | omega
    | (simp_all; done)
noncomputable def f7 : E := (.imp (.and (.cmp .lss (.var 6) (.var 3)) (.and (.not (.fn 1 (.pr (.var 2) (.fn 6 (.pr (.fn 8 (.pr (.var 6) (.int 2))) (.int 0)))))) (.and (.fn 101 (.pr (.var 2) (.pr (.var 5) (.var 6)))) (.and (.not (.cmp .lss (.var 3) (.var 6))) (.and (.not (.cmp .lss (.var 6) (.int 0))) (.and (.not (.cmp .lss (.int 1) (.var 5))) (.and (.not (.cmp .lss (.var 5) (.int 0))) (.and (.cmp .eql (.var 3) (.fn 9 (.pr (.var 2) (.int 2)))) (.not (.cmp .lss (.int 1000) (.var 3))))))))))) (.fn 101 (.pr (.var 2) (.pr (.var 5) (.ar .add .i64 (.var 6) (.int 1))))))
theorem fact7 (ρ : Env) : E.B ρ f7 = true := by
  unfold f7
  simp only [sm_I_int, sm_I_fn6, sm_I_fn7, sm_I_fn8, sm_B_bool, sm_B_eql, sm_B_lss, sm_B_not, sm_B_and, sm_B_imp, sm_I_add_i64, sm_I_sub_i64, d110, d33, d32, dop, dpl, dL34, dL35, dL2, dL3, dL23, dL10, dd_int, dd_bool, d100, d101, d103, d104, d36, d39, d0, d9, List.map_nil, List.map_cons, List.map_append, List.length_nil]
  rintro ⟨p0, p1, p2, p3, p4, p5, p6, p7, p8⟩
  obtain ⟨y, e, _, hy⟩ := cs_i64 (E.I ρ (.var 6) + 1)
  rw [e, hy (by omega) (by omega)]
  refine bef_step p7 p2 ?_
  rintro ⟨a, b⟩
  first
    | omega
    | (simp_all; done)
noncomputable def f8 : E := (.imp (.and (.not (.cmp .lss (.var 3) (.var 6))) (.and (.not (.cmp .lss (.var 6) (.int 0))) (.and (.cmp .eql (.var 3) (.fn 9 (.pr (.var 2) (.int 2)))) (.not (.cmp .lss (.int 1000) (.var 3)))))) (.cmp .lss (.fn 7 (.pr (.var 3) (.ar .add .i64 (.var 6) (.int 1)))) (.fn 7 (.pr (.var 3) (.var 6)))))
theorem fact8 (ρ : Env) : E.B ρ f8 = true := by
  unfold f8
  simp only [sm_I_int, sm_I_fn6, sm_I_fn7, sm_I_fn8, sm_B_bool, sm_B_eql, sm_B_lss, sm_B_not, sm_B_and, sm_B_imp, sm_I_add_i64, sm_I_sub_i64, d110, d33, d32, dop, dpl, dL34, dL35, dL2, dL3, dL23, dL10, dd_int, dd_bool, d100, d101, d103, d104, d36, d39, d0, d9, List.map_nil, List.map_cons, List.map_append, List.length_nil]
  rintro ⟨p0, p1, p2, p3⟩
  obtain ⟨y0, e0, q0, h0⟩ := cs_i64 (E.I ρ (.var 6) + 1)
  try simp only [e0] at *
  omega
noncomputable def f9 : E := (.imp (.and (.cmp .lss (.var 6) (.var 3)) (.and (.not (.cmp .lss (.var 3) (.var 6))) (.and (.not (.cmp .lss (.var 6) (.int 0))) (.and (.cmp .eql (.var 3) (.fn 9 (.pr (.var 2) (.int 2)))) (.not (.cmp .lss (.int 1000) (.var 3))))))) (.not (.cmp .lss (.fn 7 (.pr (.var 3) (.ar .add .i64 (.var 6) (.int 1)))) (.int 0))))
theorem fact9 (ρ : Env) : E.B ρ f9 = true := by
  unfold f9
  simp only [sm_I_int, sm_I_fn6, sm_I_fn7, sm_I_fn8, sm_B_bool, sm_B_eql, sm_B_lss, sm_B_not, sm_B_and, sm_B_imp, sm_I_add_i64, sm_I_sub_i64, d110, d33, d32, dop, dpl, dL34, dL35, dL2, dL3, dL23, dL10, dd_int, dd_bool, d100, d101, d103, d104, d36, d39, d0, d9, List.map_nil, List.map_cons, List.map_append, List.length_nil]
  rintro ⟨p0, p1, p2, p3, p4⟩
  obtain ⟨y0, e0, q0, h0⟩ := cs_i64 (E.I ρ (.var 6) + 1)
  try simp only [e0] at *
  omega
noncomputable def facts : List E := [f0, f1, f2, f3, f4, f5, f6, f7, f8, f9]
theorem facts_ok : ∀ e ∈ facts, ∀ ρ : Env, E.B ρ e = true := (all_cons fact0 (all_cons fact1 (all_cons fact2 (all_cons fact3 (all_cons fact4 (all_cons fact5 (all_cons fact6 (all_cons fact7 (all_cons fact8 (all_cons fact9 all_nil))))))))))
end p1
set_option maxRecDepth 100000 in
theorem spec1_0 : NatOk Try.prog (specNat (connP)) :=
  spec_of_check good (facts := p1.facts) p1.facts_ok (anns := [annconn]) (plainAnns_ok _ (by kernel_rfl)) (nats := natl2) natl2_ok (n := 3000) (by kernel_rfl)
noncomputable def natl3 : List Nat1 := specNat (connP) :: natl2
theorem natl3_ok : ∀ x ∈ natl3, NatOk Try.prog x := by
  intro x hx
  rcases List.mem_cons.1 hx with rfl | hx
  · exact spec1_0
  exact natl2_ok x hx

namespace p2
noncomputable def f0 : E := (.imp (.and (.cmp .eql (.var 3) (.fn 9 (.pr (.var 2) (.int 2)))) (.and (.not (.cmp .lss (.int 1000) (.var 3))) (.and (.cmp .eql (.var 3) (.fn 9 (.pr (.var 2) (.int 2)))) (.not (.cmp .lss (.int 1000) (.var 3)))))) (.not (.cmp .lss (.var 3) (.int 0))))
theorem fact0 (ρ : Env) : E.B ρ f0 = true := by
  unfold f0
  simp only [sm_I_int, sm_I_fn6, sm_I_fn7, sm_I_fn8, sm_B_bool, sm_B_eql, sm_B_lss, sm_B_not, sm_B_and, sm_B_imp, sm_I_add_i64, sm_I_sub_i64, d110, d33, d32, dop, dpl, dL34, dL35, dL2, dL3, dL23, dL10, dd_int, dd_bool, d100, d101, d103, d104, d36, d39, d0, d9, List.map_nil, List.map_cons, List.map_append, List.length_nil]
  rintro ⟨p0, p1, p2, p3⟩
  omega
noncomputable def f1 : E := (.imp (.and (.cmp .eql (.var 3) (.fn 9 (.pr (.var 2) (.int 2)))) (.and (.not (.cmp .lss (.int 1000) (.var 3))) (.and (.cmp .eql (.var 3) (.fn 9 (.pr (.var 2) (.int 2)))) (.not (.cmp .lss (.int 1000) (.var 3)))))) (.fn 103 (.pr (.var 2) (.pr (.int 0) (.fn 10 (.int 0))))))
theorem fact1 (ρ : Env) : E.B ρ f1 = true := by
  unfold f1
  simp only [sm_I_int, sm_I_fn6, sm_I_fn7, sm_I_fn8, sm_B_bool, sm_B_eql, sm_B_lss, sm_B_not, sm_B_and, sm_B_imp, sm_I_add_i64, sm_I_sub_i64, d110, d33, d32, dop, dpl, dL34, dL35, dL2, dL3, dL23, dL10, dd_int, dd_bool, d100, d101, d103, d104, d36, d39, d0, d9, List.map_nil, List.map_cons, List.map_append, List.length_nil]
  rintro ⟨p0, p1, p2, p3⟩
  exact nums_zero p0
noncomputable def f2 : E := (.imp (.and (.not (.cmp .lss (.var 3) (.var 5))) (.and (.not (.cmp .lss (.var 5) (.int 0))) (.and (.cmp .eql (.var 3) (.fn 9 (.pr (.var 2) (.int 2)))) (.and (.not (.cmp .lss (.int 1000) (.var 3))) (.and (.not (.cmp .lss (.var 3) (.var 5))) (.and (.not (.cmp .lss (.var 5) (.int 0))) (.and (.cmp .eql (.var 3) (.fn 9 (.pr (.var 2) (.int 2)))) (.not (.cmp .lss (.int 1000) (.var 3)))))))))) (.not (.cmp .lss (.ar .add .i64 (.var 5) (.int 1)) (.int 0))))
theorem fact2 (ρ : Env) : E.B ρ f2 = true := by
  unfold f2
  simp only [sm_I_int, sm_I_fn6, sm_I_fn7, sm_I_fn8, sm_B_bool, sm_B_eql, sm_B_lss, sm_B_not, sm_B_and, sm_B_imp, sm_I_add_i64, sm_I_sub_i64, d110, d33, d32, dop, dpl, dL34, dL35, dL2, dL3, dL23, dL10, dd_int, dd_bool, d100, d101, d103, d104, d36, d39, d0, d9, List.map_nil, List.map_cons, List.map_append, List.length_nil]
  rintro ⟨p0, p1, p2, p3, p4, p5, p6, p7⟩
  obtain ⟨y0, e0, q0, h0⟩ := cs_i64 (E.I ρ (.var 5) + 1)
  try simp only [e0] at *
  omega
noncomputable def f3 : E := (.imp (.and (.not (.cmp .lss (.var 5) (.var 3))) (.and (.not (.cmp .lss (.var 3) (.var 5))) (.and (.not (.cmp .lss (.var 5) (.int 0))) (.and (.cmp .eql (.var 3) (.fn 9 (.pr (.var 2) (.int 2)))) (.and (.not (.cmp .lss (.int 1000) (.var 3))) (.and (.fn 103 (.pr (.var 2) (.pr (.var 5) (.fn 10 (.int 0))))) (.and (.not (.cmp .lss (.var 3) (.var 5))) (.and (.not (.cmp .lss (.var 5) (.int 0))) (.and (.cmp .eql (.var 3) (.fn 9 (.pr (.var 2) (.int 2)))) (.not (.cmp .lss (.int 1000) (.var 3)))))))))))) (.fn 103 (.pr (.var 2) (.pr (.var 3) (.fn 10 (.int 0))))))
theorem fact3 (ρ : Env) : E.B ρ f3 = true := by
  unfold f3
  simp only [sm_I_int, sm_I_fn6, sm_I_fn7, sm_I_fn8, sm_B_bool, sm_B_eql, sm_B_lss, sm_B_not, sm_B_and, sm_B_imp, sm_I_add_i64, sm_I_sub_i64, d110, d33, d32, dop, dpl, dL34, dL35, dL2, dL3, dL23, dL10, dd_int, dd_bool, d100, d101, d103, d104, d36, d39, d0, d9, List.map_nil, List.map_cons, List.map_append, List.length_nil]
  rintro ⟨p0, p1, p2, p3, p4, p5, p6, p7, p8, p9⟩
  have hi : E.I ρ (.var 5) = E.I ρ (.var 3) := by omega
  rw [← hi]; exact p5
noncomputable def f4 : E := (.imp (.and (.not (.cmp .lss (.var 5) (.var 7))) (.and (.not (.cmp .lss (.var 7) (.int 0))) (.and (.cmp .eql (.var 7) (.fn 0 (.var 6))) (.and (.not (.cmp .lss (.var 3) (.var 5))) (.and (.not (.cmp .lss (.var 5) (.int 0))) (.and (.cmp .eql (.var 3) (.fn 9 (.pr (.var 2) (.int 2)))) (.and (.not (.cmp .lss (.int 1000) (.var 3))) (.and (.not (.cmp .lss (.var 3) (.var 5))) (.and (.not (.cmp .lss (.var 5) (.int 0))) (.and (.cmp .eql (.var 3) (.fn 9 (.pr (.var 2) (.int 2)))) (.not (.cmp .lss (.int 1000) (.var 3))))))))))))) (.not (.cmp .lss (.int 2147483648) (.fn 6 (.pr (.var 7) (.int 1))))))
theorem fact4 (ρ : Env) : E.B ρ f4 = true := by
  unfold f4
  simp only [sm_I_int, sm_I_fn6, sm_I_fn7, sm_I_fn8, sm_B_bool, sm_B_eql, sm_B_lss, sm_B_not, sm_B_and, sm_B_imp, sm_I_add_i64, sm_I_sub_i64, d110, d33, d32, dop, dpl, dL34, dL35, dL2, dL3, dL23, dL10, dd_int, dd_bool, d100, d101, d103, d104, d36, d39, d0, d9, List.map_nil, List.map_cons, List.map_append, List.length_nil]
  rintro ⟨p0, p1, p2, p3, p4, p5, p6, p7, p8, p9, p10⟩
  omega
noncomputable def f5 : E := (.imp (.and (.not (.cmp .lss (.var 5) (.var 3))) (.and (.not (.cmp .lss (.var 8) (.int 0))) (.and (.not (.cmp .lss (.var 5) (.var 7))) (.and (.not (.cmp .lss (.var 7) (.int 0))) (.and (.cmp .eql (.var 7) (.fn 0 (.var 6))) (.and (.fn 103 (.pr (.var 2) (.pr (.var 5) (.var 6)))) (.and (.not (.cmp .lss (.var 3) (.var 5))) (.and (.not (.cmp .lss (.var 5) (.int 0))) (.and (.cmp .eql (.var 3) (.fn 9 (.pr (.var 2) (.int 2)))) (.and (.not (.cmp .lss (.int 1000) (.var 3))) (.and (.not (.cmp .lss (.var 3) (.var 5))) (.and (.not (.cmp .lss (.var 5) (.int 0))) (.and (.cmp .eql (.var 3) (.fn 9 (.pr (.var 2) (.int 2)))) (.not (.cmp .lss (.int 1000) (.var 3)))))))))))))))) (.fn 103 (.pr (.var 2) (.pr (.var 3) (.var 6)))))
theorem fact5 (ρ : Env) : E.B ρ f5 = true := by
  unfold f5
  simp only [sm_I_int, sm_I_fn6, sm_I_fn7, sm_I_fn8, sm_B_bool, sm_B_eql, sm_B_lss, sm_B_not, sm_B_and, sm_B_imp, sm_I_add_i64, sm_I_sub_i64, d110, d33, d32, dop, dpl, dL34, dL35, dL2, dL3, dL23, dL10, dd_int, dd_bool, d100, d101, d103, d104, d36, d39, d0, d9, List.map_nil, List.map_cons, List.map_append, List.length_nil]
  rintro ⟨p0, p1, p2, p3, p4, p5, p6, p7, p8, p9, p10, p11, p12, p13⟩
  have hi : E.I ρ (.var 5) = E.I ρ (.var 3) := by omega
  rw [← hi]; exact p5
noncomputable def f6 : E := (.imp (.and (.cmp .lss (.var 5) (.var 3)) (.and (.not (.cmp .lss (.var 3) (.var 5))) (.and (.not (.cmp .lss (.var 5) (.int 0))) (.and (.cmp .eql (.var 3) (.fn 9 (.pr (.var 2) (.int 2)))) (.and (.not (.cmp .lss (.int 1000) (.var 3))) (.and (.not (.cmp .lss (.var 3) (.var 5))) (.and (.not (.cmp .lss (.var 5) (.int 0))) (.and (.cmp .eql (.var 3) (.fn 9 (.pr (.var 2) (.int 2)))) (.not (.cmp .lss (.int 1000) (.var 3))))))))))) (.not (.cmp .lss (.var 3) (.ar .add .i64 (.var 5) (.int 1)))))
theorem fact6 (ρ : Env) : E.B ρ f6 = true := by
  unfold f6
  simp only [sm_I_int, sm_I_fn6, sm_I_fn7, sm_I_fn8, sm_B_bool, sm_B_eql, sm_B_lss, sm_B_not, sm_B_and, sm_B_imp, sm_I_add_i64, sm_I_sub_i64, d110, d33, d32, dop, dpl, dL34, dL35, dL2, dL3, dL23, dL10, dd_int, dd_bool, d100, d101, d103, d104, d36, d39, d0, d9, List.map_nil, List.map_cons, List.map_append, List.length_nil]
  rintro ⟨p0, p1, p2, p3, p4, p5, p6, p7, p8⟩
  obtain ⟨y0, e0, q0, h0⟩ := cs_i64 (E.I ρ (.var 5) + 1)
  try simp only [e0] at *
  omega
noncomputable def f7 : E := (.imp (.and (.cmp .lss (.var 5) (.var 3)) (.and (.fn 1 (.pr (.var 2) (.fn 6 (.pr (.fn 8 (.pr (.var 5) (.int 2))) (.int 0))))) (.and (.not (.cmp .lss (.var 6) (.int 0))) (.and (.not (.cmp .lss (.var 6) (.int 1))) (.and (.not (.cmp .lss (.var 3) (.var 5))) (.and (.not (.cmp .lss (.var 5) (.int 0))) (.and (.cmp .eql (.var 3) (.fn 9 (.pr (.var 2) (.int 2)))) (.and (.not (.cmp .lss (.int 1000) (.var 3))) (.and (.fn 103 (.pr (.var 2) (.pr (.var 5) (.fn 10 (.int 0))))) (.and (.not (.cmp .lss (.var 3) (.var 5))) (.and (.not (.cmp .lss (.var 5) (.int 0))) (.and (.cmp .eql (.var 3) (.fn 9 (.pr (.var 2) (.int 2)))) (.not (.cmp .lss (.int 1000) (.var 3))))))))))))))) (.fn 103 (.pr (.var 2) (.pr (.ar .add .i64 (.var 5) (.int 1)) (.fn 23 (.pr (.var 5) (.fn 10 (.int 0))))))))
theorem fact7 (ρ : Env) : E.B ρ f7 = true := by
  unfold f7
  simp only [sm_I_int, sm_I_fn6, sm_I_fn7, sm_I_fn8, sm_B_bool, sm_B_eql, sm_B_lss, sm_B_not, sm_B_and, sm_B_imp, sm_I_add_i64, sm_I_sub_i64, d110, d33, d32, dop, dpl, dL34, dL35, dL2, dL3, dL23, dL10, dd_int, dd_bool, d100, d101, d103, d104, d36, d39, d0, d9, List.map_nil, List.map_cons, List.map_append, List.length_nil]
  rintro ⟨p0, p1, p2, p3, p4, p5, p6, p7, p8, p9, p10, p11, p12⟩
  obtain ⟨y, e, _, hy⟩ := cs_i64 (E.I ρ (.var 5) + 1)
  have hy2 := hy (by omega) (by omega)
  simp only [e, hy2]
  have hst := nums_step (i := E.I ρ (.var 5)) p6 (by omega) (by omega)
  rw [p8] at hst
  rw [hst]
  rw [if_pos p1]
  rfl
noncomputable def f8 : E := (.imp (.and (.cmp .lss (.var 5) (.var 3)) (.and (.not (.fn 1 (.pr (.var 2) (.fn 6 (.pr (.fn 8 (.pr (.var 5) (.int 2))) (.int 0)))))) (.and (.not (.cmp .lss (.var 3) (.var 5))) (.and (.not (.cmp .lss (.var 5) (.int 0))) (.and (.cmp .eql (.var 3) (.fn 9 (.pr (.var 2) (.int 2)))) (.and (.not (.cmp .lss (.int 1000) (.var 3))) (.and (.fn 103 (.pr (.var 2) (.pr (.var 5) (.fn 10 (.int 0))))) (.and (.not (.cmp .lss (.var 3) (.var 5))) (.and (.not (.cmp .lss (.var 5) (.int 0))) (.and (.cmp .eql (.var 3) (.fn 9 (.pr (.var 2) (.int 2)))) (.not (.cmp .lss (.int 1000) (.var 3))))))))))))) (.fn 103 (.pr (.var 2) (.pr (.ar .add .i64 (.var 5) (.int 1)) (.fn 10 (.int 0))))))
theorem fact8 (ρ : Env) : E.B ρ f8 = true := by
  unfold f8
  simp only [sm_I_int, sm_I_fn6, sm_I_fn7, sm_I_fn8, sm_B_bool, sm_B_eql, sm_B_lss, sm_B_not, sm_B_and, sm_B_imp, sm_I_add_i64, sm_I_sub_i64, d110, d33, d32, dop, dpl, dL34, dL35, dL2, dL3, dL23, dL10, dd_int, dd_bool, d100, d101, d103, d104, d36, d39, d0, d9, List.map_nil, List.map_cons, List.map_append, List.length_nil]
  rintro ⟨p0, p1, p2, p3, p4, p5, p6, p7, p8, p9, p10⟩
  obtain ⟨y, e, _, hy⟩ := cs_i64 (E.I ρ (.var 5) + 1)
  have hy2 := hy (by omega) (by omega)
  simp only [e, hy2]
  have hst := nums_step (i := E.I ρ (.var 5)) p4 (by omega) (by omega)
  rw [p6] at hst
  rw [hst]
  rw [if_neg p1]
  simp
noncomputable def f9 : E := (.imp (.and (.cmp .lss (.var 5) (.var 3)) (.and (.fn 1 (.pr (.var 2) (.fn 6 (.pr (.fn 8 (.pr (.var 5) (.int 2))) (.int 0))))) (.and (.not (.cmp .lss (.var 9) (.int 0))) (.and (.not (.cmp .lss (.var 9) (.fn 6 (.pr (.var 7) (.int 1))))) (.and (.not (.cmp .lss (.var 8) (.int 0))) (.and (.not (.cmp .lss (.var 5) (.var 7))) (.and (.not (.cmp .lss (.var 7) (.int 0))) (.and (.cmp .eql (.var 7) (.fn 0 (.var 6))) (.and (.fn 103 (.pr (.var 2) (.pr (.var 5) (.var 6)))) (.and (.not (.cmp .lss (.var 3) (.var 5))) (.and (.not (.cmp .lss (.var 5) (.int 0))) (.and (.cmp .eql (.var 3) (.fn 9 (.pr (.var 2) (.int 2)))) (.and (.not (.cmp .lss (.int 1000) (.var 3))) (.and (.not (.cmp .lss (.var 3) (.var 5))) (.and (.not (.cmp .lss (.var 5) (.int 0))) (.and (.cmp .eql (.var 3) (.fn 9 (.pr (.var 2) (.int 2)))) (.not (.cmp .lss (.int 1000) (.var 3))))))))))))))))))) (.fn 103 (.pr (.var 2) (.pr (.ar .add .i64 (.var 5) (.int 1)) (.fn 3 (.pr (.var 6) (.fn 23 (.pr (.var 5) (.fn 10 (.int 0))))))))))
theorem fact9 (ρ : Env) : E.B ρ f9 = true := by
  unfold f9
  simp only [sm_I_int, sm_I_fn6, sm_I_fn7, sm_I_fn8, sm_B_bool, sm_B_eql, sm_B_lss, sm_B_not, sm_B_and, sm_B_imp, sm_I_add_i64, sm_I_sub_i64, d110, d33, d32, dop, dpl, dL34, dL35, dL2, dL3, dL23, dL10, dd_int, dd_bool, d100, d101, d103, d104, d36, d39, d0, d9, List.map_nil, List.map_cons, List.map_append, List.length_nil]
  rintro ⟨p0, p1, p2, p3, p4, p5, p6, p7, p8, p9, p10, p11, p12, p13, p14, p15, p16⟩
  obtain ⟨y, e, _, hy⟩ := cs_i64 (E.I ρ (.var 5) + 1)
  have hy2 := hy (by omega) (by omega)
  simp only [e, hy2]
  have hst := nums_step (i := E.I ρ (.var 5)) p11 (by omega) (by omega)
  rw [p8] at hst
  rw [hst]
  rw [if_pos p1]
  rfl
noncomputable def f10 : E := (.imp (.and (.cmp .lss (.var 5) (.var 3)) (.and (.not (.fn 1 (.pr (.var 2) (.fn 6 (.pr (.fn 8 (.pr (.var 5) (.int 2))) (.int 0)))))) (.and (.not (.cmp .lss (.var 8) (.int 0))) (.and (.not (.cmp .lss (.var 5) (.var 7))) (.and (.not (.cmp .lss (.var 7) (.int 0))) (.and (.cmp .eql (.var 7) (.fn 0 (.var 6))) (.and (.fn 103 (.pr (.var 2) (.pr (.var 5) (.var 6)))) (.and (.not (.cmp .lss (.var 3) (.var 5))) (.and (.not (.cmp .lss (.var 5) (.int 0))) (.and (.cmp .eql (.var 3) (.fn 9 (.pr (.var 2) (.int 2)))) (.and (.not (.cmp .lss (.int 1000) (.var 3))) (.and (.not (.cmp .lss (.var 3) (.var 5))) (.and (.not (.cmp .lss (.var 5) (.int 0))) (.and (.cmp .eql (.var 3) (.fn 9 (.pr (.var 2) (.int 2)))) (.not (.cmp .lss (.int 1000) (.var 3))))))))))))))))) (.fn 103 (.pr (.var 2) (.pr (.ar .add .i64 (.var 5) (.int 1)) (.var 6)))))
theorem fact10 (ρ : Env) : E.B ρ f10 = true := by
  unfold f10
  simp only [sm_I_int, sm_I_fn6, sm_I_fn7, sm_I_fn8, sm_B_bool, sm_B_eql, sm_B_lss, sm_B_not, sm_B_and, sm_B_imp, sm_I_add_i64, sm_I_sub_i64, d110, d33, d32, dop, dpl, dL34, dL35, dL2, dL3, dL23, dL10, dd_int, dd_bool, d100, d101, d103, d104, d36, d39, d0, d9, List.map_nil, List.map_cons, List.map_append, List.length_nil]
  rintro ⟨p0, p1, p2, p3, p4, p5, p6, p7, p8, p9, p10, p11, p12, p13, p14⟩
  obtain ⟨y, e, _, hy⟩ := cs_i64 (E.I ρ (.var 5) + 1)
  have hy2 := hy (by omega) (by omega)
  simp only [e, hy2]
  have hst := nums_step (i := E.I ρ (.var 5)) p9 (by omega) (by omega)
  rw [p6] at hst
  rw [hst]
  rw [if_neg p1]
  simp
noncomputable def f11 : E := (.imp (.and (.not (.cmp .lss (.var 3) (.var 5))) (.and (.not (.cmp .lss (.var 5) (.int 0))) (.and (.cmp .eql (.var 3) (.fn 9 (.pr (.var 2) (.int 2)))) (.and (.not (.cmp .lss (.int 1000) (.var 3))) (.and (.not (.cmp .lss (.var 3) (.var 5))) (.and (.not (.cmp .lss (.var 5) (.int 0))) (.and (.cmp .eql (.var 3) (.fn 9 (.pr (.var 2) (.int 2)))) (.not (.cmp .lss (.int 1000) (.var 3)))))))))) (.not (.cmp .lss (.ar .add .i64 (.var 5) (.int 1)) (.int 1))))
theorem fact11 (ρ : Env) : E.B ρ f11 = true := by
  unfold f11
  simp only [sm_I_int, sm_I_fn6, sm_I_fn7, sm_I_fn8, sm_B_bool, sm_B_eql, sm_B_lss, sm_B_not, sm_B_and, sm_B_imp, sm_I_add_i64, sm_I_sub_i64, d110, d33, d32, dop, dpl, dL34, dL35, dL2, dL3, dL23, dL10, dd_int, dd_bool, d100, d101, d103, d104, d36, d39, d0, d9, List.map_nil, List.map_cons, List.map_append, List.length_nil]
  rintro ⟨p0, p1, p2, p3, p4, p5, p6, p7⟩
  obtain ⟨y0, e0, q0, h0⟩ := cs_i64 (E.I ρ (.var 5) + 1)
  try simp only [e0] at *
  omega
noncomputable def f12 : E := (.imp (.and (.not (.cmp .lss (.var 3) (.var 5))) (.and (.not (.cmp .lss (.var 5) (.int 0))) (.and (.cmp .eql (.var 3) (.fn 9 (.pr (.var 2) (.int 2)))) (.and (.not (.cmp .lss (.int 1000) (.var 3))) (.and (.not (.cmp .lss (.var 3) (.var 5))) (.and (.not (.cmp .lss (.var 5) (.int 0))) (.and (.cmp .eql (.var 3) (.fn 9 (.pr (.var 2) (.int 2)))) (.not (.cmp .lss (.int 1000) (.var 3)))))))))) (.cmp .lss (.fn 7 (.pr (.var 3) (.ar .add .i64 (.var 5) (.int 1)))) (.fn 7 (.pr (.var 3) (.var 5)))))
theorem fact12 (ρ : Env) : E.B ρ f12 = true := by
  unfold f12
  simp only [sm_I_int, sm_I_fn6, sm_I_fn7, sm_I_fn8, sm_B_bool, sm_B_eql, sm_B_lss, sm_B_not, sm_B_and, sm_B_imp, sm_I_add_i64, sm_I_sub_i64, d110, d33, d32, dop, dpl, dL34, dL35, dL2, dL3, dL23, dL10, dd_int, dd_bool, d100, d101, d103, d104, d36, d39, d0, d9, List.map_nil, List.map_cons, List.map_append, List.length_nil]
  rintro ⟨p0, p1, p2, p3, p4, p5, p6, p7⟩
  obtain ⟨y0, e0, q0, h0⟩ := cs_i64 (E.I ρ (.var 5) + 1)
  try simp only [e0] at *
  omega
noncomputable def f13 : E := (.imp (.and (.not (.cmp .lss (.var 5) (.var 7))) (.and (.not (.cmp .lss (.var 7) (.int 0))) (.and (.cmp .eql (.var 7) (.fn 0 (.var 6))) (.and (.not (.cmp .lss (.var 3) (.var 5))) (.and (.not (.cmp .lss (.var 5) (.int 0))) (.and (.cmp .eql (.var 3) (.fn 9 (.pr (.var 2) (.int 2)))) (.and (.not (.cmp .lss (.int 1000) (.var 3))) (.and (.not (.cmp .lss (.var 3) (.var 5))) (.and (.not (.cmp .lss (.var 5) (.int 0))) (.and (.cmp .eql (.var 3) (.fn 9 (.pr (.var 2) (.int 2)))) (.not (.cmp .lss (.int 1000) (.var 3))))))))))))) (.cmp .eql (.fn 6 (.pr (.var 7) (.int 1))) (.fn 6 (.pr (.fn 0 (.var 6)) (.int 1)))))
theorem fact13 (ρ : Env) : E.B ρ f13 = true := by
  unfold f13
  simp only [sm_I_int, sm_I_fn6, sm_I_fn7, sm_I_fn8, sm_B_bool, sm_B_eql, sm_B_lss, sm_B_not, sm_B_and, sm_B_imp, sm_I_add_i64, sm_I_sub_i64, d110, d33, d32, dop, dpl, dL34, dL35, dL2, dL3, dL23, dL10, dd_int, dd_bool, d100, d101, d103, d104, d36, d39, d0, d9, List.map_nil, List.map_cons, List.map_append, List.length_nil]
  rintro ⟨p0, p1, p2, p3, p4, p5, p6, p7, p8, p9, p10⟩
  omega
noncomputable def f14 : E := (.imp (.and (.not (.cmp .lss (.var 5) (.var 7))) (.and (.not (.cmp .lss (.var 7) (.int 0))) (.and (.cmp .eql (.var 7) (.fn 0 (.var 6))) (.and (.not (.cmp .lss (.var 3) (.var 5))) (.and (.not (.cmp .lss (.var 5) (.int 0))) (.and (.cmp .eql (.var 3) (.fn 9 (.pr (.var 2) (.int 2)))) (.and (.not (.cmp .lss (.int 1000) (.var 3))) (.and (.not (.cmp .lss (.var 3) (.var 5))) (.and (.not (.cmp .lss (.var 5) (.int 0))) (.and (.cmp .eql (.var 3) (.fn 9 (.pr (.var 2) (.int 2)))) (.not (.cmp .lss (.int 1000) (.var 3))))))))))))) (.not (.cmp .lss (.ar .add .i64 (.var 5) (.int 1)) (.var 7))))
theorem fact14 (ρ : Env) : E.B ρ f14 = true := by
  unfold f14
  simp only [sm_I_int, sm_I_fn6, sm_I_fn7, sm_I_fn8, sm_B_bool, sm_B_eql, sm_B_lss, sm_B_not, sm_B_and, sm_B_imp, sm_I_add_i64, sm_I_sub_i64, d110, d33, d32, dop, dpl, dL34, dL35, dL2, dL3, dL23, dL10, dd_int, dd_bool, d100, d101, d103, d104, d36, d39, d0, d9, List.map_nil, List.map_cons, List.map_append, List.length_nil]
  rintro ⟨p0, p1, p2, p3, p4, p5, p6, p7, p8, p9, p10⟩
  obtain ⟨y0, e0, q0, h0⟩ := cs_i64 (E.I ρ (.var 5) + 1)
  try simp only [e0] at *
  omega
noncomputable def f15 : E := (.imp (.and (.cmp .lss (.var 5) (.var 3)) (.and (.not (.cmp .lss (.var 3) (.var 5))) (.and (.not (.cmp .lss (.var 5) (.int 0))) (.and (.cmp .eql (.var 3) (.fn 9 (.pr (.var 2) (.int 2)))) (.and (.not (.cmp .lss (.int 1000) (.var 3))) (.and (.not (.cmp .lss (.var 3) (.var 5))) (.and (.not (.cmp .lss (.var 5) (.int 0))) (.and (.cmp .eql (.var 3) (.fn 9 (.pr (.var 2) (.int 2)))) (.not (.cmp .lss (.int 1000) (.var 3))))))))))) (.not (.cmp .lss (.fn 7 (.pr (.var 3) (.ar .add .i64 (.var 5) (.int 1)))) (.int 0))))
theorem fact15 (ρ : Env) : E.B ρ f15 = true := by
  unfold f15
  simp only [sm_I_int, sm_I_fn6, sm_I_fn7, sm_I_fn8, sm_B_bool, sm_B_eql, sm_B_lss, sm_B_not, sm_B_and, sm_B_imp, sm_I_add_i64, sm_I_sub_i64, d110, d33, d32, dop, dpl, dL34, dL35, dL2, dL3, dL23, dL10, dd_int, dd_bool, d100, d101, d103, d104, d36, d39, d0, d9, List.map_nil, List.map_cons, List.map_append, List.length_nil]
  rintro ⟨p0, p1, p2, p3, p4, p5, p6, p7, p8⟩
  obtain ⟨y0, e0, q0, h0⟩ := cs_i64 (E.I ρ (.var 5) + 1)
  try simp only [e0] at *
  omega
noncomputable def f16 : E := (.imp (.and (.not (.cmp .lss (.var 5) (.var 7))) (.and (.not (.cmp .lss (.var 7) (.int 0))) (.and (.cmp .eql (.var 7) (.fn 0 (.var 6))) (.and (.not (.cmp .lss (.var 3) (.var 5))) (.and (.not (.cmp .lss (.var 5) (.int 0))) (.and (.cmp .eql (.var 3) (.fn 9 (.pr (.var 2) (.int 2)))) (.and (.not (.cmp .lss (.int 1000) (.var 3))) (.and (.not (.cmp .lss (.var 3) (.var 5))) (.and (.not (.cmp .lss (.var 5) (.int 0))) (.and (.cmp .eql (.var 3) (.fn 9 (.pr (.var 2) (.int 2)))) (.not (.cmp .lss (.int 1000) (.var 3))))))))))))) (.not (.cmp .lss (.ar .add .i64 (.var 5) (.int 1)) (.fn 6 (.pr (.var 7) (.int 1))))))
theorem fact16 (ρ : Env) : E.B ρ f16 = true := by
  unfold f16
  simp only [sm_I_int, sm_I_fn6, sm_I_fn7, sm_I_fn8, sm_B_bool, sm_B_eql, sm_B_lss, sm_B_not, sm_B_and, sm_B_imp, sm_I_add_i64, sm_I_sub_i64, d110, d33, d32, dop, dpl, dL34, dL35, dL2, dL3, dL23, dL10, dd_int, dd_bool, d100, d101, d103, d104, d36, d39, d0, d9, List.map_nil, List.map_cons, List.map_append, List.length_nil]
  rintro ⟨p0, p1, p2, p3, p4, p5, p6, p7, p8, p9, p10⟩
  obtain ⟨y0, e0, q0, h0⟩ := cs_i64 (E.I ρ (.var 5) + 1)
  try simp only [e0] at *
  omega
noncomputable def facts : List E := [f0, f1, f2, f3, f4, f5, f6, f7, f8, f9, f10, f11, f12, f13, f14, f15, f16]
theorem facts_ok : ∀ e ∈ facts, ∀ ρ : Env, E.B ρ e = true := (all_cons fact0 (all_cons fact1 (all_cons fact2 (all_cons fact3 (all_cons fact4 (all_cons fact5 (all_cons fact6 (all_cons fact7 (all_cons fact8 (all_cons fact9 (all_cons fact10 (all_cons fact11 (all_cons fact12 (all_cons fact13 (all_cons fact14 (all_cons fact15 (all_cons fact16 all_nil)))))))))))))))))
end p2
set_option maxRecDepth 100000 in
theorem spec2_0 : NatOk Try.prog (specNat (numsP)) :=
  spec_of_check good (facts := p2.facts) p2.facts_ok (anns := [annnums]) (plainAnns_ok _ (by kernel_rfl)) (nats := natl3) natl3_ok (n := 3000) (by kernel_rfl)
noncomputable def natl4 : List Nat1 := specNat (numsP) :: natl3
theorem natl4_ok : ∀ x ∈ natl4, NatOk Try.prog x := by
  intro x hx
  rcases List.mem_cons.1 hx with rfl | hx
  · exact spec2_0
  exact natl3_ok x hx

namespace p3
noncomputable def f0 : E := (.imp (.and (.fn 104 (.pr (.var 0) (.var 3))) (.and (.cmp .eql (.var 4) (.fn 0 (.var 3))) (.and (.cmp .eql (.var 1) (.fn 0 (.var 0))) (.not (.cmp .lss (.int 1000) (.var 1)))))) (.cmp .eql (.var 1) (.var 4)))
theorem fact0 (ρ : Env) : E.B ρ f0 = true := by
  unfold f0
  simp only [sm_I_int, sm_I_fn6, sm_I_fn7, sm_I_fn8, sm_B_bool, sm_B_eql, sm_B_lss, sm_B_not, sm_B_and, sm_B_imp, sm_I_add_i64, sm_I_sub_i64, d110, d33, d32, dop, dpl, dL34, dL35, dL2, dL3, dL23, dL10, dd_int, dd_bool, d100, d101, d103, d104, d36, d39, d0, d9, List.map_nil, List.map_cons, List.map_append, List.length_nil]
  rintro ⟨p0, p1, p2, p3⟩
  have gl := congrArg List.length p0
  simp only [List.length_map] at gl
  try simp only [sm_I_int] at *
  omega
noncomputable def f1 : E := (.imp (.and (.cmp .lss (.var 6) (.var 1)) (.and (.fn 104 (.pr (.var 0) (.var 3))) (.and (.cmp .eql (.var 4) (.fn 0 (.var 3))) (.and (.cmp .eql (.var 1) (.fn 0 (.var 0))) (.not (.cmp .lss (.int 1000) (.var 1))))))) (.cmp .lss (.var 6) (.var 4)))
theorem fact1 (ρ : Env) : E.B ρ f1 = true := by
  unfold f1
  simp only [sm_I_int, sm_I_fn6, sm_I_fn7, sm_I_fn8, sm_B_bool, sm_B_eql, sm_B_lss, sm_B_not, sm_B_and, sm_B_imp, sm_I_add_i64, sm_I_sub_i64, d110, d33, d32, dop, dpl, dL34, dL35, dL2, dL3, dL23, dL10, dd_int, dd_bool, d100, d101, d103, d104, d36, d39, d0, d9, List.map_nil, List.map_cons, List.map_append, List.length_nil]
  rintro ⟨p0, p1, p2, p3, p4⟩
  have gl := congrArg List.length p1
  simp only [List.length_map] at gl
  try simp only [sm_I_int] at *
  omega
noncomputable def f2 : E := (.imp (.and (.cmp .eql (.var 1) (.fn 0 (.var 0))) (.not (.cmp .lss (.int 1000) (.var 1)))) (.not (.cmp .lss (.var 1) (.int 0))))
theorem fact2 (ρ : Env) : E.B ρ f2 = true := by
  unfold f2
  simp only [sm_I_int, sm_I_fn6, sm_I_fn7, sm_I_fn8, sm_B_bool, sm_B_eql, sm_B_lss, sm_B_not, sm_B_and, sm_B_imp, sm_I_add_i64, sm_I_sub_i64, d110, d33, d32, dop, dpl, dL34, dL35, dL2, dL3, dL23, dL10, dd_int, dd_bool, d100, d101, d103, d104, d36, d39, d0, d9, List.map_nil, List.map_cons, List.map_append, List.length_nil]
  rintro ⟨p0, p1⟩
  omega
noncomputable def f3 : E := (.imp (.cmp .eql (.var 4) (.fn 0 (.var 3))) (.not (.cmp .lss (.var 4) (.int 0))))
theorem fact3 (ρ : Env) : E.B ρ f3 = true := by
  unfold f3
  simp only [sm_I_int, sm_I_fn6, sm_I_fn7, sm_I_fn8, sm_B_bool, sm_B_eql, sm_B_lss, sm_B_not, sm_B_and, sm_B_imp, sm_I_add_i64, sm_I_sub_i64, d110, d33, d32, dop, dpl, dL34, dL35, dL2, dL3, dL23, dL10, dd_int, dd_bool, d100, d101, d103, d104, d36, d39, d0, d9, List.map_nil, List.map_cons, List.map_append, List.length_nil]
  intro p0
  omega
noncomputable def f4 : E := (.imp (.and (.fn 104 (.pr (.var 0) (.var 3))) (.and (.cmp .lss (.var 6) (.var 1)) (.and (.not (.cmp .lss (.var 1) (.var 6))) (.and (.not (.cmp .lss (.var 6) (.int 0))) (.and (.cmp .eql (.var 4) (.fn 0 (.var 3))) (.and (.cmp .eql (.var 1) (.fn 0 (.var 0))) (.not (.cmp .lss (.int 1000) (.var 1))))))))) (.cmp .eql (.fn 1 (.pr (.var 0) (.var 6))) (.fn 1 (.pr (.var 3) (.var 6)))))
theorem fact4 (ρ : Env) : E.B ρ f4 = true := by
  unfold f4
  simp only [sm_I_int, sm_I_fn6, sm_I_fn7, sm_I_fn8, sm_B_bool, sm_B_eql, sm_B_lss, sm_B_not, sm_B_and, sm_B_imp, sm_I_add_i64, sm_I_sub_i64, d110, d33, d32, dop, dpl, dL34, dL35, dL2, dL3, dL23, dL10, dd_int, dd_bool, d100, d101, d103, d104, d36, d39, d0, d9, List.map_nil, List.map_cons, List.map_append, List.length_nil]
  rintro ⟨p0, p1, p2, p3, p4, p5, p6⟩
  have gl := congrArg List.length p0
  simp only [List.length_map] at gl
  exact same_at p0 _
noncomputable def f5 : E := (.imp (.and (.not (.cmp .lss (.var 1) (.var 6))) (.and (.not (.cmp .lss (.var 6) (.int 0))) (.and (.cmp .eql (.var 1) (.fn 0 (.var 0))) (.not (.cmp .lss (.int 1000) (.var 1)))))) (.not (.cmp .lss (.ar .add .i64 (.var 6) (.int 1)) (.int 0))))
theorem fact5 (ρ : Env) : E.B ρ f5 = true := by
  unfold f5
  simp only [sm_I_int, sm_I_fn6, sm_I_fn7, sm_I_fn8, sm_B_bool, sm_B_eql, sm_B_lss, sm_B_not, sm_B_and, sm_B_imp, sm_I_add_i64, sm_I_sub_i64, d110, d33, d32, dop, dpl, dL34, dL35, dL2, dL3, dL23, dL10, dd_int, dd_bool, d100, d101, d103, d104, d36, d39, d0, d9, List.map_nil, List.map_cons, List.map_append, List.length_nil]
  rintro ⟨p0, p1, p2, p3⟩
  obtain ⟨y0, e0, q0, h0⟩ := cs_i64 (E.I ρ (.var 6) + 1)
  try simp only [e0] at *
  omega
noncomputable def f6 : E := (.imp (.and (.cmp .lss (.var 6) (.var 1)) (.and (.not (.cmp .lss (.var 1) (.var 6))) (.and (.not (.cmp .lss (.var 6) (.int 0))) (.and (.cmp .eql (.var 1) (.fn 0 (.var 0))) (.not (.cmp .lss (.int 1000) (.var 1))))))) (.not (.cmp .lss (.var 1) (.ar .add .i64 (.var 6) (.int 1)))))
theorem fact6 (ρ : Env) : E.B ρ f6 = true := by
  unfold f6
  simp only [sm_I_int, sm_I_fn6, sm_I_fn7, sm_I_fn8, sm_B_bool, sm_B_eql, sm_B_lss, sm_B_not, sm_B_and, sm_B_imp, sm_I_add_i64, sm_I_sub_i64, d110, d33, d32, dop, dpl, dL34, dL35, dL2, dL3, dL23, dL10, dd_int, dd_bool, d100, d101, d103, d104, d36, d39, d0, d9, List.map_nil, List.map_cons, List.map_append, List.length_nil]
  rintro ⟨p0, p1, p2, p3, p4⟩
  obtain ⟨y0, e0, q0, h0⟩ := cs_i64 (E.I ρ (.var 6) + 1)
  try simp only [e0] at *
  omega
noncomputable def f7 : E := (.imp (.and (.not (.cmp .lss (.var 1) (.var 6))) (.and (.not (.cmp .lss (.var 6) (.int 0))) (.and (.cmp .eql (.var 1) (.fn 0 (.var 0))) (.not (.cmp .lss (.int 1000) (.var 1)))))) (.cmp .lss (.fn 7 (.pr (.var 1) (.ar .add .i64 (.var 6) (.int 1)))) (.fn 7 (.pr (.var 1) (.var 6)))))
theorem fact7 (ρ : Env) : E.B ρ f7 = true := by
  unfold f7
  simp only [sm_I_int, sm_I_fn6, sm_I_fn7, sm_I_fn8, sm_B_bool, sm_B_eql, sm_B_lss, sm_B_not, sm_B_and, sm_B_imp, sm_I_add_i64, sm_I_sub_i64, d110, d33, d32, dop, dpl, dL34, dL35, dL2, dL3, dL23, dL10, dd_int, dd_bool, d100, d101, d103, d104, d36, d39, d0, d9, List.map_nil, List.map_cons, List.map_append, List.length_nil]
  rintro ⟨p0, p1, p2, p3⟩
  obtain ⟨y0, e0, q0, h0⟩ := cs_i64 (E.I ρ (.var 6) + 1)
  try simp only [e0] at *
  omega
noncomputable def f8 : E := (.imp (.and (.cmp .lss (.var 6) (.var 1)) (.and (.not (.cmp .lss (.var 1) (.var 6))) (.and (.not (.cmp .lss (.var 6) (.int 0))) (.and (.cmp .eql (.var 1) (.fn 0 (.var 0))) (.not (.cmp .lss (.int 1000) (.var 1))))))) (.not (.cmp .lss (.fn 7 (.pr (.var 1) (.ar .add .i64 (.var 6) (.int 1)))) (.int 0))))
theorem fact8 (ρ : Env) : E.B ρ f8 = true := by
  unfold f8
  simp only [sm_I_int, sm_I_fn6, sm_I_fn7, sm_I_fn8, sm_B_bool, sm_B_eql, sm_B_lss, sm_B_not, sm_B_and, sm_B_imp, sm_I_add_i64, sm_I_sub_i64, d110, d33, d32, dop, dpl, dL34, dL35, dL2, dL3, dL23, dL10, dd_int, dd_bool, d100, d101, d103, d104, d36, d39, d0, d9, List.map_nil, List.map_cons, List.map_append, List.length_nil]
  rintro ⟨p0, p1, p2, p3, p4⟩
  obtain ⟨y0, e0, q0, h0⟩ := cs_i64 (E.I ρ (.var 6) + 1)
  try simp only [e0] at *
  omega
noncomputable def facts : List E := [f0, f1, f2, f3, f4, f5, f6, f7, f8]
theorem facts_ok : ∀ e ∈ facts, ∀ ρ : Env, E.B ρ e = true := (all_cons fact0 (all_cons fact1 (all_cons fact2 (all_cons fact3 (all_cons fact4 (all_cons fact5 (all_cons fact6 (all_cons fact7 (all_cons fact8 all_nil)))))))))
end p3
set_option maxRecDepth 100000 in
theorem spec3_0 : NatOk Try.prog (specNat (intsP)) :=
  spec_of_check good (facts := p3.facts) p3.facts_ok (anns := [annints]) (plainAnns_ok _ (by kernel_rfl)) (nats := natl4) natl4_ok (n := 3000) (by kernel_rfl)
noncomputable def natl5 : List Nat1 := specNat (intsP) :: natl4
theorem natl5_ok : ∀ x ∈ natl5, NatOk Try.prog x := by
  intro x hx
  rcases List.mem_cons.1 hx with rfl | hx
  · exact spec3_0
  exact natl4_ok x hx

namespace p4
noncomputable def f0 : E := (.imp (.and (.fn 103 (.pr (.var 3) (.pr (.var 4) (.fn 10 (.int 0))))) (.and (.not (.cmp .lss (.var 4) (.int 1))) (.and (.not (.cmp .lss (.int 80) (.var 8))) (.and (.not (.cmp .lss (.var 5) (.int 0))) (.and (.cmp .eql (.var 4) (.var 8)) (.fn 110 (.pr (.var 2) (.pr (.var 3) (.pr (.var 6) (.pr (.var 7) (.var 8))))))))))) (.not (.cmp .lss (.int 0) (.fn 0 (.fn 36 (.var 2))))))
theorem fact0 (ρ : Env) : E.B ρ f0 = true := by
  unfold f0
  simp only [sm_I_int, sm_I_fn6, sm_I_fn7, sm_I_fn8, sm_B_bool, sm_B_eql, sm_B_lss, sm_B_not, sm_B_and, sm_B_imp, sm_I_add_i64, sm_I_sub_i64, d110, d33, d32, dop, dpl, dL34, dL35, dL2, dL3, dL23, dL10, dd_int, dd_bool, d100, d101, d103, d104, d36, d39, d0, d9, List.map_nil, List.map_cons, List.map_append, List.length_nil]
  rintro ⟨p0, p1, p2, p3, p4, p5⟩
  have hl := rel_keysLen p5
  have hn : E.I ρ (.var 4) = E.I ρ (.var 8) := by omega
  rw [hn] at p0
  have hs := rel_nums p5 p0
  rw [hs]; simp
noncomputable def f1 : E := (.imp (.and (.not (.cmp .lss (.var 9) (.var 4))) (.and (.not (.cmp .lss (.int 20) (.var 9))) (.and (.not (.cmp .lss (.var 9) (.int (-1)))) (.and (.not (.cmp .lss (.var 4) (.int 1))) (.and (.not (.cmp .lss (.int 80) (.var 8))) (.cmp .eql (.var 4) (.var 8))))))) (.not (.cmp .lss (.var 9) (.var 8))))
theorem fact1 (ρ : Env) : E.B ρ f1 = true := by
  unfold f1
  simp only [sm_I_int, sm_I_mn, sm_I_mx, sm_I_add_u64, sm_I_sub_u64, sm_I_add_i64, sm_I_sub_i64, sm_I_mul_i64, sm_I_fn6, sm_I_fn7, sm_I_fn8, sm_B_bool, sm_B_eql, sm_B_lss, sm_B_not, sm_B_and, sm_B_imp, sm_B_iff]
  rintro ⟨p0, p1, p2, p3, p4, p5⟩
  try generalize E.I ρ (.var 9) = x0 at *
  try generalize E.I ρ (.var 4) = x1 at *
  try generalize E.I ρ (.var 8) = x2 at *
  omega
noncomputable def f2 : E := (.imp (.and (.not (.cmp .lss (.int 20) (.var 9))) (.not (.cmp .lss (.var 9) (.int (-1))))) (.not (.cmp .lss (.ar .add .i64 (.var 9) (.int 1)) (.int (-1)))))
theorem fact2 (ρ : Env) : E.B ρ f2 = true := by
  unfold f2
  simp only [sm_I_int, sm_I_mn, sm_I_mx, sm_I_add_u64, sm_I_sub_u64, sm_I_add_i64, sm_I_sub_i64, sm_I_mul_i64, sm_I_fn6, sm_I_fn7, sm_I_fn8, sm_B_bool, sm_B_eql, sm_B_lss, sm_B_not, sm_B_and, sm_B_imp, sm_B_iff]
  rintro ⟨p0, p1⟩
  try generalize E.I ρ (.var 9) = x0 at *
  obtain ⟨y0, e0, q0, h0⟩ := cs_i64 (x0 + 1)
  try simp only [e0] at *
  omega
noncomputable def f3 : E := (.imp (.and (.cmp .lss (.var 9) (.var 4)) (.and (.not (.cmp .lss (.int 20) (.var 9))) (.and (.not (.cmp .lss (.var 9) (.int (-1)))) (.and (.not (.cmp .lss (.var 4) (.int 1))) (.and (.not (.cmp .lss (.int 80) (.var 8))) (.cmp .eql (.var 4) (.var 8))))))) (.cmp .lss (.var 9) (.var 8)))
theorem fact3 (ρ : Env) : E.B ρ f3 = true := by
  unfold f3
  simp only [sm_I_int, sm_I_mn, sm_I_mx, sm_I_add_u64, sm_I_sub_u64, sm_I_add_i64, sm_I_sub_i64, sm_I_mul_i64, sm_I_fn6, sm_I_fn7, sm_I_fn8, sm_B_bool, sm_B_eql, sm_B_lss, sm_B_not, sm_B_and, sm_B_imp, sm_B_iff]
  rintro ⟨p0, p1, p2, p3, p4, p5⟩
  try generalize E.I ρ (.var 9) = x0 at *
  try generalize E.I ρ (.var 4) = x1 at *
  try generalize E.I ρ (.var 8) = x2 at *
  omega
noncomputable def f4 : E := (.imp (.and (.cmp .lss (.var 9) (.int 20)) (.and (.not (.cmp .lss (.int 20) (.var 9))) (.not (.cmp .lss (.var 9) (.int (-1)))))) (.not (.cmp .lss (.int 20) (.ar .add .i64 (.var 9) (.int 1)))))
theorem fact4 (ρ : Env) : E.B ρ f4 = true := by
  unfold f4
  simp only [sm_I_int, sm_I_mn, sm_I_mx, sm_I_add_u64, sm_I_sub_u64, sm_I_add_i64, sm_I_sub_i64, sm_I_mul_i64, sm_I_fn6, sm_I_fn7, sm_I_fn8, sm_B_bool, sm_B_eql, sm_B_lss, sm_B_not, sm_B_and, sm_B_imp, sm_B_iff]
  rintro ⟨p0, p1, p2⟩
  try generalize E.I ρ (.var 9) = x0 at *
  obtain ⟨y0, e0, q0, h0⟩ := cs_i64 (x0 + 1)
  try simp only [e0] at *
  omega
noncomputable def f5 : E := (.imp (.and (.not (.cmp .lss (.var 4) (.var 9))) (.and (.cmp .lss (.var 9) (.int 20)) (.and (.not (.cmp .lss (.var 9) (.int 0))) (.and (.not (.cmp .lss (.var 9) (.var 4))) (.and (.not (.cmp .lss (.int 20) (.var 9))) (.and (.not (.cmp .lss (.var 9) (.int (-1)))) (.and (.not (.cmp .lss (.var 4) (.int 1))) (.and (.not (.cmp .lss (.int 80) (.var 8))) (.and (.not (.cmp .lss (.var 5) (.int 0))) (.and (.cmp .eql (.var 4) (.var 8)) (.fn 110 (.pr (.var 2) (.pr (.var 3) (.pr (.var 6) (.pr (.var 7) (.var 8)))))))))))))))) (.not (.fn 33 (.pr (.var 2) (.var 9)))))
theorem fact5 (ρ : Env) : E.B ρ f5 = true := by
  unfold f5
  simp only [sm_I_int, sm_I_fn6, sm_I_fn7, sm_I_fn8, sm_B_bool, sm_B_eql, sm_B_lss, sm_B_not, sm_B_and, sm_B_imp, sm_I_add_i64, sm_I_sub_i64, d110, d33, d32, dop, dpl, dL34, dL35, dL2, dL3, dL23, dL10, dd_int, dd_bool, d100, d101, d103, d104, d36, d39, d0, d9, List.map_nil, List.map_cons, List.map_append, List.length_nil]
  rintro ⟨p0, p1, p2, p3, p4, p5, p6, p7, p8, p9, p10⟩
  rcases rel_look p10 (E.I ρ (.var 9)) with ⟨hn, hh⟩ | ⟨v, hn, h1, h2, h3, h4, h5, h6⟩
  all_goals simp only [hn, Option.isSome_none, Option.isSome_some, Option.getD_none, Option.getD_some, U.toI] at *
  all_goals first
    | omega
    | (exfalso; exact hh (by omega) (by omega) (by assumption))
    | (simp_all; done)
    | (simp_all; omega)
    | (intro hq; simp_all; omega)
noncomputable def f6 : E := (.imp (.and (.not (.cmp .lss (.var 4) (.var 9))) (.and (.cmp .lss (.var 9) (.int 20)) (.and (.not (.cmp .lss (.var 9) (.int 0))) (.and (.cmp .lss (.var 9) (.var 4)) (.and (.not (.fn 1 (.pr (.var 3) (.fn 6 (.pr (.fn 8 (.pr (.var 9) (.int 2))) (.int 0)))))) (.and (.not (.cmp .lss (.int 20) (.var 9))) (.and (.not (.cmp .lss (.var 9) (.int (-1)))) (.and (.not (.cmp .lss (.var 4) (.int 1))) (.and (.not (.cmp .lss (.int 80) (.var 8))) (.and (.not (.cmp .lss (.var 5) (.int 0))) (.and (.cmp .eql (.var 4) (.var 8)) (.fn 110 (.pr (.var 2) (.pr (.var 3) (.pr (.var 6) (.pr (.var 7) (.var 8))))))))))))))))) (.not (.fn 33 (.pr (.var 2) (.var 9)))))
theorem fact6 (ρ : Env) : E.B ρ f6 = true := by
  unfold f6
  simp only [sm_I_int, sm_I_fn6, sm_I_fn7, sm_I_fn8, sm_B_bool, sm_B_eql, sm_B_lss, sm_B_not, sm_B_and, sm_B_imp, sm_I_add_i64, sm_I_sub_i64, d110, d33, d32, dop, dpl, dL34, dL35, dL2, dL3, dL23, dL10, dd_int, dd_bool, d100, d101, d103, d104, d36, d39, d0, d9, List.map_nil, List.map_cons, List.map_append, List.length_nil]
  rintro ⟨p0, p1, p2, p3, p4, p5, p6, p7, p8, p9, p10, p11⟩
  rcases rel_look p11 (E.I ρ (.var 9)) with ⟨hn, hh⟩ | ⟨v, hn, h1, h2, h3, h4, h5, h6⟩
  all_goals simp only [hn, Option.isSome_none, Option.isSome_some, Option.getD_none, Option.getD_some, U.toI] at *
  all_goals first
    | omega
    | (exfalso; exact hh (by omega) (by omega) (by assumption))
    | (simp_all; done)
    | (simp_all; omega)
    | (intro hq; simp_all; omega)
noncomputable def f7 : E := (.imp (.and (.not (.cmp .lss (.var 4) (.var 9))) (.and (.cmp .lss (.var 9) (.int 20)) (.and (.not (.cmp .lss (.var 9) (.int 0))) (.and (.cmp .lss (.var 9) (.var 4)) (.and (.fn 1 (.pr (.var 3) (.fn 6 (.pr (.fn 8 (.pr (.var 9) (.int 2))) (.int 0))))) (.and (.not (.cmp .lss (.fn 1 (.pr (.var 3) (.fn 6 (.pr (.fn 8 (.pr (.var 9) (.int 2))) (.int 1))))) (.int 0))) (.and (.not (.cmp .lss (.int 20) (.var 9))) (.and (.not (.cmp .lss (.var 9) (.int (-1)))) (.and (.not (.cmp .lss (.var 4) (.int 1))) (.and (.not (.cmp .lss (.int 80) (.var 8))) (.and (.not (.cmp .lss (.var 5) (.int 0))) (.and (.cmp .eql (.var 4) (.var 8)) (.fn 110 (.pr (.var 2) (.pr (.var 3) (.pr (.var 6) (.pr (.var 7) (.var 8)))))))))))))))))) (.fn 33 (.pr (.var 2) (.var 9))))
theorem fact7 (ρ : Env) : E.B ρ f7 = true := by
  unfold f7
  simp only [sm_I_int, sm_I_fn6, sm_I_fn7, sm_I_fn8, sm_B_bool, sm_B_eql, sm_B_lss, sm_B_not, sm_B_and, sm_B_imp, sm_I_add_i64, sm_I_sub_i64, d110, d33, d32, dop, dpl, dL34, dL35, dL2, dL3, dL23, dL10, dd_int, dd_bool, d100, d101, d103, d104, d36, d39, d0, d9, List.map_nil, List.map_cons, List.map_append, List.length_nil]
  rintro ⟨p0, p1, p2, p3, p4, p5, p6, p7, p8, p9, p10, p11, p12⟩
  rcases rel_look p12 (E.I ρ (.var 9)) with ⟨hn, hh⟩ | ⟨v, hn, h1, h2, h3, h4, h5, h6⟩
  all_goals simp only [hn, Option.isSome_none, Option.isSome_some, Option.getD_none, Option.getD_some, U.toI] at *
  all_goals first
    | omega
    | (exfalso; exact hh (by omega) (by omega) (by assumption))
    | (simp_all; done)
    | (simp_all; omega)
    | (intro hq; simp_all; omega)
noncomputable def f8 : E := (.imp (.and (.not (.cmp .lss (.var 4) (.var 9))) (.and (.cmp .lss (.var 9) (.int 20)) (.and (.not (.cmp .lss (.var 9) (.int 0))) (.and (.cmp .lss (.var 9) (.var 4)) (.and (.fn 1 (.pr (.var 3) (.fn 6 (.pr (.fn 8 (.pr (.var 9) (.int 2))) (.int 0))))) (.and (.cmp .lss (.fn 1 (.pr (.var 3) (.fn 6 (.pr (.fn 8 (.pr (.var 9) (.int 2))) (.int 1))))) (.int 0)) (.and (.not (.cmp .lss (.int 20) (.var 9))) (.and (.not (.cmp .lss (.var 9) (.int (-1)))) (.and (.not (.cmp .lss (.var 4) (.int 1))) (.and (.not (.cmp .lss (.int 80) (.var 8))) (.and (.not (.cmp .lss (.var 5) (.int 0))) (.and (.cmp .eql (.var 4) (.var 8)) (.fn 110 (.pr (.var 2) (.pr (.var 3) (.pr (.var 6) (.pr (.var 7) (.var 8)))))))))))))))))) (.fn 33 (.pr (.var 2) (.var 9))))
theorem fact8 (ρ : Env) : E.B ρ f8 = true := by
  unfold f8
  simp only [sm_I_int, sm_I_fn6, sm_I_fn7, sm_I_fn8, sm_B_bool, sm_B_eql, sm_B_lss, sm_B_not, sm_B_and, sm_B_imp, sm_I_add_i64, sm_I_sub_i64, d110, d33, d32, dop, dpl, dL34, dL35, dL2, dL3, dL23, dL10, dd_int, dd_bool, d100, d101, d103, d104, d36, d39, d0, d9, List.map_nil, List.map_cons, List.map_append, List.length_nil]
  rintro ⟨p0, p1, p2, p3, p4, p5, p6, p7, p8, p9, p10, p11, p12⟩
  rcases rel_look p12 (E.I ρ (.var 9)) with ⟨hn, hh⟩ | ⟨v, hn, h1, h2, h3, h4, h5, h6⟩
  all_goals simp only [hn, Option.isSome_none, Option.isSome_some, Option.getD_none, Option.getD_some, U.toI] at *
  all_goals first
    | omega
    | (exfalso; exact hh (by omega) (by omega) (by assumption))
    | (simp_all; done)
    | (simp_all; omega)
    | (intro hq; simp_all; omega)
noncomputable def f9 : E := (.imp (.and (.not (.cmp .lss (.int 20) (.var 9))) (.not (.cmp .lss (.var 9) (.int (-1))))) (.cmp .lss (.fn 7 (.pr (.int 20) (.ar .add .i64 (.var 9) (.int 1)))) (.fn 7 (.pr (.int 20) (.var 9)))))
theorem fact9 (ρ : Env) : E.B ρ f9 = true := by
  unfold f9
  simp only [sm_I_int, sm_I_mn, sm_I_mx, sm_I_add_u64, sm_I_sub_u64, sm_I_add_i64, sm_I_sub_i64, sm_I_mul_i64, sm_I_fn6, sm_I_fn7, sm_I_fn8, sm_B_bool, sm_B_eql, sm_B_lss, sm_B_not, sm_B_and, sm_B_imp, sm_B_iff]
  rintro ⟨p0, p1⟩
  try generalize E.I ρ (.var 9) = x0 at *
  obtain ⟨y0, e0, q0, h0⟩ := cs_i64 (x0 + 1)
  try simp only [e0] at *
  omega
noncomputable def f10 : E := (.imp (.and (.not (.cmp .lss (.var 4) (.var 9))) (.and (.cmp .lss (.var 9) (.int 20)) (.and (.not (.cmp .lss (.var 9) (.int 0))) (.and (.cmp .lss (.var 9) (.var 4)) (.and (.fn 1 (.pr (.var 3) (.fn 6 (.pr (.fn 8 (.pr (.var 9) (.int 2))) (.int 0))))) (.and (.cmp .lss (.fn 1 (.pr (.var 3) (.fn 6 (.pr (.fn 8 (.pr (.var 9) (.int 2))) (.int 1))))) (.int 0)) (.and (.not (.cmp .lss (.int 20) (.var 9))) (.and (.not (.cmp .lss (.var 9) (.int (-1)))) (.and (.not (.cmp .lss (.var 4) (.int 1))) (.and (.not (.cmp .lss (.int 80) (.var 8))) (.and (.not (.cmp .lss (.var 5) (.int 0))) (.and (.cmp .eql (.var 4) (.var 8)) (.fn 110 (.pr (.var 2) (.pr (.var 3) (.pr (.var 6) (.pr (.var 7) (.var 8)))))))))))))))))) (.cmp .eql (.fn 32 (.pr (.var 2) (.pr (.var 9) (.int 0)))) (.int (-1))))
theorem fact10 (ρ : Env) : E.B ρ f10 = true := by
  unfold f10
  simp only [sm_I_int, sm_I_fn6, sm_I_fn7, sm_I_fn8, sm_B_bool, sm_B_eql, sm_B_lss, sm_B_not, sm_B_and, sm_B_imp, sm_I_add_i64, sm_I_sub_i64, d110, d33, d32, dop, dpl, dL34, dL35, dL2, dL3, dL23, dL10, dd_int, dd_bool, d100, d101, d103, d104, d36, d39, d0, d9, List.map_nil, List.map_cons, List.map_append, List.length_nil]
  rintro ⟨p0, p1, p2, p3, p4, p5, p6, p7, p8, p9, p10, p11, p12⟩
  rcases rel_look p12 (E.I ρ (.var 9)) with ⟨hn, hh⟩ | ⟨v, hn, h1, h2, h3, h4, h5, h6⟩
  all_goals simp only [hn, Option.isSome_none, Option.isSome_some, Option.getD_none, Option.getD_some, U.toI] at *
  all_goals first
    | omega
    | (exfalso; exact hh (by omega) (by omega) (by assumption))
    | (simp_all; done)
    | (simp_all; omega)
    | (intro hq; simp_all; omega)
noncomputable def f11 : E := (.imp (.and (.not (.cmp .lss (.var 4) (.var 9))) (.and (.cmp .lss (.var 9) (.int 20)) (.and (.cmp .lss (.var 9) (.int 0)) (.and (.not (.cmp .lss (.int 20) (.var 9))) (.and (.not (.cmp .lss (.var 9) (.int (-1)))) (.and (.not (.cmp .lss (.var 4) (.int 1))) (.and (.not (.cmp .lss (.int 80) (.var 8))) (.and (.not (.cmp .lss (.var 5) (.int 0))) (.and (.cmp .eql (.var 4) (.var 8)) (.fn 110 (.pr (.var 2) (.pr (.var 3) (.pr (.var 6) (.pr (.var 7) (.var 8))))))))))))))) (.not (.fn 33 (.pr (.var 2) (.var 9)))))
theorem fact11 (ρ : Env) : E.B ρ f11 = true := by
  unfold f11
  simp only [sm_I_int, sm_I_fn6, sm_I_fn7, sm_I_fn8, sm_B_bool, sm_B_eql, sm_B_lss, sm_B_not, sm_B_and, sm_B_imp, sm_I_add_i64, sm_I_sub_i64, d110, d33, d32, dop, dpl, dL34, dL35, dL2, dL3, dL23, dL10, dd_int, dd_bool, d100, d101, d103, d104, d36, d39, d0, d9, List.map_nil, List.map_cons, List.map_append, List.length_nil]
  rintro ⟨p0, p1, p2, p3, p4, p5, p6, p7, p8, p9⟩
  rcases rel_look p9 (E.I ρ (.var 9)) with ⟨hn, hh⟩ | ⟨v, hn, h1, h2, h3, h4, h5, h6⟩
  all_goals simp only [hn, Option.isSome_none, Option.isSome_some, Option.getD_none, Option.getD_some, U.toI] at *
  all_goals first
    | omega
    | (exfalso; exact hh (by omega) (by omega) (by assumption))
    | (simp_all; done)
    | (simp_all; omega)
    | (intro hq; simp_all; omega)
noncomputable def f12 : E := (.imp (.and (.not (.cmp .lss (.var 4) (.var 9))) (.and (.not (.cmp .lss (.var 9) (.int 20))) (.and (.not (.cmp .lss (.int 20) (.var 9))) (.and (.not (.cmp .lss (.var 9) (.int (-1)))) (.and (.not (.cmp .lss (.var 4) (.int 1))) (.and (.not (.cmp .lss (.int 80) (.var 8))) (.and (.not (.cmp .lss (.var 5) (.int 0))) (.and (.cmp .eql (.var 4) (.var 8)) (.fn 110 (.pr (.var 2) (.pr (.var 3) (.pr (.var 6) (.pr (.var 7) (.var 8)))))))))))))) (.fn 39 (.var 2)))
theorem fact12 (ρ : Env) : E.B ρ f12 = true := by
  unfold f12
  simp only [sm_I_int, sm_I_fn6, sm_I_fn7, sm_I_fn8, sm_B_bool, sm_B_eql, sm_B_lss, sm_B_not, sm_B_and, sm_B_imp, sm_I_add_i64, sm_I_sub_i64, d110, d33, d32, dop, dpl, dL34, dL35, dL2, dL3, dL23, dL10, dd_int, dd_bool, d100, d101, d103, d104, d36, d39, d0, d9, List.map_nil, List.map_cons, List.map_append, List.length_nil]
  rintro ⟨p0, p1, p2, p3, p4, p5, p6, p7, p8⟩
  exact rel_keysOk p8 (by omega)
noncomputable def f13 : E := (.imp (.and (.cmp .lss (.var 4) (.var 9)) (.and (.not (.cmp .lss (.int 20) (.var 9))) (.and (.not (.cmp .lss (.var 9) (.int (-1)))) (.and (.not (.cmp .lss (.var 4) (.int 1))) (.and (.not (.cmp .lss (.int 80) (.var 8))) (.and (.not (.cmp .lss (.var 5) (.int 0))) (.and (.cmp .eql (.var 4) (.var 8)) (.fn 110 (.pr (.var 2) (.pr (.var 3) (.pr (.var 6) (.pr (.var 7) (.var 8))))))))))))) (.fn 39 (.var 2)))
theorem fact13 (ρ : Env) : E.B ρ f13 = true := by
  unfold f13
  simp only [sm_I_int, sm_I_fn6, sm_I_fn7, sm_I_fn8, sm_B_bool, sm_B_eql, sm_B_lss, sm_B_not, sm_B_and, sm_B_imp, sm_I_add_i64, sm_I_sub_i64, d110, d33, d32, dop, dpl, dL34, dL35, dL2, dL3, dL23, dL10, dd_int, dd_bool, d100, d101, d103, d104, d36, d39, d0, d9, List.map_nil, List.map_cons, List.map_append, List.length_nil]
  rintro ⟨p0, p1, p2, p3, p4, p5, p6, p7⟩
  exact rel_keysOk p7 (by omega)
noncomputable def f14 : E := (.imp (.and (.cmp .lss (.var 9) (.int 20)) (.and (.not (.cmp .lss (.int 20) (.var 9))) (.not (.cmp .lss (.var 9) (.int (-1)))))) (.not (.cmp .lss (.fn 7 (.pr (.int 20) (.ar .add .i64 (.var 9) (.int 1)))) (.int 0))))
theorem fact14 (ρ : Env) : E.B ρ f14 = true := by
  unfold f14
  simp only [sm_I_int, sm_I_mn, sm_I_mx, sm_I_add_u64, sm_I_sub_u64, sm_I_add_i64, sm_I_sub_i64, sm_I_mul_i64, sm_I_fn6, sm_I_fn7, sm_I_fn8, sm_B_bool, sm_B_eql, sm_B_lss, sm_B_not, sm_B_and, sm_B_imp, sm_B_iff]
  rintro ⟨p0, p1, p2⟩
  try generalize E.I ρ (.var 9) = x0 at *
  obtain ⟨y0, e0, q0, h0⟩ := cs_i64 (x0 + 1)
  try simp only [e0] at *
  omega
noncomputable def f15 : E := (.imp (.and (.not (.cmp .lss (.var 4) (.var 9))) (.and (.cmp .lss (.var 9) (.int 20)) (.and (.not (.cmp .lss (.var 9) (.int 0))) (.and (.cmp .lss (.var 9) (.var 4)) (.and (.fn 1 (.pr (.var 3) (.fn 6 (.pr (.fn 8 (.pr (.var 9) (.int 2))) (.int 0))))) (.and (.not (.cmp .lss (.fn 1 (.pr (.var 3) (.fn 6 (.pr (.fn 8 (.pr (.var 9) (.int 2))) (.int 1))))) (.int 0))) (.and (.not (.cmp .lss (.int 20) (.var 9))) (.and (.not (.cmp .lss (.var 9) (.int (-1)))) (.and (.not (.cmp .lss (.var 4) (.int 1))) (.and (.not (.cmp .lss (.int 80) (.var 8))) (.and (.not (.cmp .lss (.var 5) (.int 0))) (.and (.cmp .eql (.var 4) (.var 8)) (.fn 110 (.pr (.var 2) (.pr (.var 3) (.pr (.var 6) (.pr (.var 7) (.var 8)))))))))))))))))) (.not (.cmp .eql (.fn 32 (.pr (.var 2) (.pr (.var 9) (.int 0)))) (.int (-1)))))
theorem fact15 (ρ : Env) : E.B ρ f15 = true := by
  unfold f15
  simp only [sm_I_int, sm_I_fn6, sm_I_fn7, sm_I_fn8, sm_B_bool, sm_B_eql, sm_B_lss, sm_B_not, sm_B_and, sm_B_imp, sm_I_add_i64, sm_I_sub_i64, d110, d33, d32, dop, dpl, dL34, dL35, dL2, dL3, dL23, dL10, dd_int, dd_bool, d100, d101, d103, d104, d36, d39, d0, d9, List.map_nil, List.map_cons, List.map_append, List.length_nil]
  rintro ⟨p0, p1, p2, p3, p4, p5, p6, p7, p8, p9, p10, p11, p12⟩
  rcases rel_look p12 (E.I ρ (.var 9)) with ⟨hn, hh⟩ | ⟨v, hn, h1, h2, h3, h4, h5, h6⟩
  all_goals simp only [hn, Option.isSome_none, Option.isSome_some, Option.getD_none, Option.getD_some, U.toI] at *
  all_goals first
    | omega
    | (exfalso; exact hh (by omega) (by omega) (by assumption))
    | (simp_all; done)
    | (simp_all; omega)
    | (intro hq; simp_all; omega)
noncomputable def f16 : E := (.imp (.and (.not (.cmp .lss (.var 4) (.int 1))) (.and (.not (.cmp .lss (.int 80) (.var 8))) (.cmp .eql (.var 4) (.var 8)))) (.not (.cmp .lss (.int 1000) (.var 4))))
theorem fact16 (ρ : Env) : E.B ρ f16 = true := by
  unfold f16
  simp only [sm_I_int, sm_I_mn, sm_I_mx, sm_I_add_u64, sm_I_sub_u64, sm_I_add_i64, sm_I_sub_i64, sm_I_mul_i64, sm_I_fn6, sm_I_fn7, sm_I_fn8, sm_B_bool, sm_B_eql, sm_B_lss, sm_B_not, sm_B_and, sm_B_imp, sm_B_iff]
  rintro ⟨p0, p1, p2⟩
  try generalize E.I ρ (.var 4) = x0 at *
  try generalize E.I ρ (.var 8) = x1 at *
  omega
noncomputable def f17 : E := (.imp (.and (.not (.cmp .lss (.var 4) (.var 9))) (.and (.cmp .lss (.var 9) (.int 20)) (.and (.not (.cmp .lss (.var 9) (.int 0))) (.and (.cmp .lss (.var 9) (.var 4)) (.and (.fn 1 (.pr (.var 3) (.fn 6 (.pr (.fn 8 (.pr (.var 9) (.int 2))) (.int 0))))) (.and (.not (.cmp .lss (.fn 1 (.pr (.var 3) (.fn 6 (.pr (.fn 8 (.pr (.var 9) (.int 2))) (.int 1))))) (.int 0))) (.and (.not (.cmp .lss (.int 20) (.var 9))) (.and (.not (.cmp .lss (.var 9) (.int (-1)))) (.and (.not (.cmp .lss (.var 4) (.int 1))) (.and (.not (.cmp .lss (.int 80) (.var 8))) (.and (.not (.cmp .lss (.var 5) (.int 0))) (.and (.cmp .eql (.var 4) (.var 8)) (.fn 110 (.pr (.var 2) (.pr (.var 3) (.pr (.var 6) (.pr (.var 7) (.var 8)))))))))))))))))) (.cmp .eql (.fn 32 (.pr (.var 2) (.pr (.var 9) (.int 0)))) (.fn 1 (.pr (.var 3) (.fn 6 (.pr (.fn 8 (.pr (.var 9) (.int 2))) (.int 1)))))))
theorem fact17 (ρ : Env) : E.B ρ f17 = true := by
  unfold f17
  simp only [sm_I_int, sm_I_fn6, sm_I_fn7, sm_I_fn8, sm_B_bool, sm_B_eql, sm_B_lss, sm_B_not, sm_B_and, sm_B_imp, sm_I_add_i64, sm_I_sub_i64, d110, d33, d32, dop, dpl, dL34, dL35, dL2, dL3, dL23, dL10, dd_int, dd_bool, d100, d101, d103, d104, d36, d39, d0, d9, List.map_nil, List.map_cons, List.map_append, List.length_nil]
  rintro ⟨p0, p1, p2, p3, p4, p5, p6, p7, p8, p9, p10, p11, p12⟩
  rcases rel_look p12 (E.I ρ (.var 9)) with ⟨hn, hh⟩ | ⟨v, hn, h1, h2, h3, h4, h5, h6⟩
  all_goals simp only [hn, Option.isSome_none, Option.isSome_some, Option.getD_none, Option.getD_some, U.toI] at *
  all_goals first
    | omega
    | (exfalso; exact hh (by omega) (by omega) (by assumption))
    | (simp_all; done)
    | (simp_all; omega)
    | (intro hq; simp_all; omega)
noncomputable def f18 : E := (.imp (.and (.not (.cmp .lss (.int 20) (.var 9))) (.and (.not (.cmp .lss (.var 9) (.int (-1)))) (.and (.not (.cmp .lss (.var 5) (.int 0))) (.and (.fn 110 (.pr (.var 2) (.pr (.var 3) (.pr (.var 6) (.pr (.var 7) (.var 8)))))) (.and (.not (.cmp .lss (.var 4) (.var 9))) (.and (.not (.cmp .lss (.var 9) (.int 20))) (.and (.not (.cmp .lss (.var 10) (.fn 0 (.fn 36 (.var 2))))) (.and (.not (.cmp .lss (.var 4) (.int 1))) (.and (.not (.cmp .lss (.int 80) (.var 8))) (.cmp .eql (.var 4) (.var 8))))))))))) (.cmp .eql (.var 4) (.fn 9 (.pr (.var 3) (.int 2)))))
theorem fact18 (ρ : Env) : E.B ρ f18 = true := by
  unfold f18
  simp only [sm_I_int, sm_I_fn6, sm_I_fn7, sm_I_fn8, sm_B_bool, sm_B_eql, sm_B_lss, sm_B_not, sm_B_and, sm_B_imp, sm_I_add_i64, sm_I_sub_i64, d110, d33, d32, dop, dpl, dL34, dL35, dL2, dL3, dL23, dL10, dd_int, dd_bool, d100, d101, d103, d104, d36, d39, d0, d9, List.map_nil, List.map_cons, List.map_append, List.length_nil]
  rintro ⟨p0, p1, p2, p3, p4, p5, p6, p7, p8, p9⟩
  have g0 := rel_c0 p3
  have g1 := rel_c1 p3
  have g2 := rel_rows p3
  try simp only [sm_I_int] at *
  omega
noncomputable def f19 : E := (.imp (.and (.not (.cmp .lss (.int 20) (.var 9))) (.and (.not (.cmp .lss (.var 9) (.int (-1)))) (.and (.not (.cmp .lss (.var 5) (.int 0))) (.and (.fn 110 (.pr (.var 2) (.pr (.var 3) (.pr (.var 6) (.pr (.var 7) (.var 8)))))) (.and (.cmp .lss (.var 4) (.var 9)) (.and (.not (.cmp .lss (.var 10) (.fn 0 (.fn 36 (.var 2))))) (.and (.not (.cmp .lss (.var 4) (.int 1))) (.and (.not (.cmp .lss (.int 80) (.var 8))) (.cmp .eql (.var 4) (.var 8)))))))))) (.cmp .eql (.var 4) (.fn 9 (.pr (.var 3) (.int 2)))))
theorem fact19 (ρ : Env) : E.B ρ f19 = true := by
  unfold f19
  simp only [sm_I_int, sm_I_fn6, sm_I_fn7, sm_I_fn8, sm_B_bool, sm_B_eql, sm_B_lss, sm_B_not, sm_B_and, sm_B_imp, sm_I_add_i64, sm_I_sub_i64, d110, d33, d32, dop, dpl, dL34, dL35, dL2, dL3, dL23, dL10, dd_int, dd_bool, d100, d101, d103, d104, d36, d39, d0, d9, List.map_nil, List.map_cons, List.map_append, List.length_nil]
  rintro ⟨p0, p1, p2, p3, p4, p5, p6, p7, p8⟩
  have g0 := rel_c0 p3
  have g1 := rel_c1 p3
  have g2 := rel_rows p3
  try simp only [sm_I_int] at *
  omega
noncomputable def f20 : E := (.imp (.and (.not (.cmp .lss (.var 4) (.var 9))) (.and (.not (.cmp .lss (.var 9) (.int 20))) (.and (.not (.cmp .lss (.var 10) (.fn 0 (.fn 36 (.var 2))))) (.and (.cmp .eql (.var 12) (.fn 0 (.var 11))) (.and (.fn 103 (.pr (.var 3) (.pr (.var 4) (.var 11)))) (.and (.not (.cmp .lss (.int 20) (.var 9))) (.and (.not (.cmp .lss (.var 9) (.int (-1)))) (.and (.not (.cmp .lss (.var 4) (.int 1))) (.and (.not (.cmp .lss (.int 80) (.var 8))) (.and (.not (.cmp .lss (.var 5) (.int 0))) (.and (.cmp .eql (.var 4) (.var 8)) (.fn 110 (.pr (.var 2) (.pr (.var 3) (.pr (.var 6) (.pr (.var 7) (.var 8))))))))))))))))) (.not (.cmp .lss (.int 1000) (.fn 0 (.fn 36 (.var 2))))))
theorem fact20 (ρ : Env) : E.B ρ f20 = true := by
  unfold f20
  simp only [sm_I_int, sm_I_fn6, sm_I_fn7, sm_I_fn8, sm_B_bool, sm_B_eql, sm_B_lss, sm_B_not, sm_B_and, sm_B_imp, sm_I_add_i64, sm_I_sub_i64, d110, d33, d32, dop, dpl, dL34, dL35, dL2, dL3, dL23, dL10, dd_int, dd_bool, d100, d101, d103, d104, d36, d39, d0, d9, List.map_nil, List.map_cons, List.map_append, List.length_nil]
  rintro ⟨p0, p1, p2, p3, p4, p5, p6, p7, p8, p9, p10, p11⟩
  have hl := rel_keysLen p11
  omega
noncomputable def f21 : E := (.imp (.and (.cmp .lss (.var 4) (.var 9)) (.and (.not (.cmp .lss (.var 10) (.fn 0 (.fn 36 (.var 2))))) (.and (.cmp .eql (.var 12) (.fn 0 (.var 11))) (.and (.fn 103 (.pr (.var 3) (.pr (.var 4) (.var 11)))) (.and (.not (.cmp .lss (.int 20) (.var 9))) (.and (.not (.cmp .lss (.var 9) (.int (-1)))) (.and (.not (.cmp .lss (.var 4) (.int 1))) (.and (.not (.cmp .lss (.int 80) (.var 8))) (.and (.not (.cmp .lss (.var 5) (.int 0))) (.and (.cmp .eql (.var 4) (.var 8)) (.fn 110 (.pr (.var 2) (.pr (.var 3) (.pr (.var 6) (.pr (.var 7) (.var 8)))))))))))))))) (.not (.cmp .lss (.int 1000) (.fn 0 (.fn 36 (.var 2))))))
theorem fact21 (ρ : Env) : E.B ρ f21 = true := by
  unfold f21
  simp only [sm_I_int, sm_I_fn6, sm_I_fn7, sm_I_fn8, sm_B_bool, sm_B_eql, sm_B_lss, sm_B_not, sm_B_and, sm_B_imp, sm_I_add_i64, sm_I_sub_i64, d110, d33, d32, dop, dpl, dL34, dL35, dL2, dL3, dL23, dL10, dd_int, dd_bool, d100, d101, d103, d104, d36, d39, d0, d9, List.map_nil, List.map_cons, List.map_append, List.length_nil]
  rintro ⟨p0, p1, p2, p3, p4, p5, p6, p7, p8, p9, p10⟩
  have hl := rel_keysLen p10
  omega
noncomputable def f22 : E := (.imp (.and (.not (.cmp .lss (.var 4) (.var 9))) (.and (.not (.cmp .lss (.var 9) (.int 20))) (.and (.not (.cmp .lss (.var 10) (.fn 0 (.fn 36 (.var 2))))) (.and (.cmp .eql (.var 12) (.fn 0 (.var 11))) (.and (.fn 103 (.pr (.var 3) (.pr (.var 4) (.var 11)))) (.and (.not (.cmp .lss (.int 20) (.var 9))) (.and (.not (.cmp .lss (.var 9) (.int (-1)))) (.and (.not (.cmp .lss (.var 4) (.int 1))) (.and (.not (.cmp .lss (.int 80) (.var 8))) (.and (.not (.cmp .lss (.var 5) (.int 0))) (.and (.cmp .eql (.var 4) (.var 8)) (.fn 110 (.pr (.var 2) (.pr (.var 3) (.pr (.var 6) (.pr (.var 7) (.var 8))))))))))))))))) (.fn 104 (.pr (.fn 36 (.var 2)) (.var 11))))
theorem fact22 (ρ : Env) : E.B ρ f22 = true := by
  unfold f22
  simp only [sm_I_int, sm_I_fn6, sm_I_fn7, sm_I_fn8, sm_B_bool, sm_B_eql, sm_B_lss, sm_B_not, sm_B_and, sm_B_imp, sm_I_add_i64, sm_I_sub_i64, d110, d33, d32, dop, dpl, dL34, dL35, dL2, dL3, dL23, dL10, dd_int, dd_bool, d100, d101, d103, d104, d36, d39, d0, d9, List.map_nil, List.map_cons, List.map_append, List.length_nil]
  rintro ⟨p0, p1, p2, p3, p4, p5, p6, p7, p8, p9, p10, p11⟩
  have hn : E.I ρ (.var 4) = E.I ρ (.var 8) := by omega
  rw [hn] at p4
  rw [map_int_toI]; exact rel_nums p11 p4
noncomputable def f23 : E := (.imp (.and (.cmp .lss (.var 4) (.var 9)) (.and (.not (.cmp .lss (.var 10) (.fn 0 (.fn 36 (.var 2))))) (.and (.cmp .eql (.var 12) (.fn 0 (.var 11))) (.and (.fn 103 (.pr (.var 3) (.pr (.var 4) (.var 11)))) (.and (.not (.cmp .lss (.int 20) (.var 9))) (.and (.not (.cmp .lss (.var 9) (.int (-1)))) (.and (.not (.cmp .lss (.var 4) (.int 1))) (.and (.not (.cmp .lss (.int 80) (.var 8))) (.and (.not (.cmp .lss (.var 5) (.int 0))) (.and (.cmp .eql (.var 4) (.var 8)) (.fn 110 (.pr (.var 2) (.pr (.var 3) (.pr (.var 6) (.pr (.var 7) (.var 8)))))))))))))))) (.fn 104 (.pr (.fn 36 (.var 2)) (.var 11))))
theorem fact23 (ρ : Env) : E.B ρ f23 = true := by
  unfold f23
  simp only [sm_I_int, sm_I_fn6, sm_I_fn7, sm_I_fn8, sm_B_bool, sm_B_eql, sm_B_lss, sm_B_not, sm_B_and, sm_B_imp, sm_I_add_i64, sm_I_sub_i64, d110, d33, d32, dop, dpl, dL34, dL35, dL2, dL3, dL23, dL10, dd_int, dd_bool, d100, d101, d103, d104, d36, d39, d0, d9, List.map_nil, List.map_cons, List.map_append, List.length_nil]
  rintro ⟨p0, p1, p2, p3, p4, p5, p6, p7, p8, p9, p10⟩
  have hn : E.I ρ (.var 4) = E.I ρ (.var 8) := by omega
  rw [hn] at p3
  rw [map_int_toI]; exact rel_nums p10 p3
noncomputable def f24 : E := (.imp (.and (.not (.cmp .lss (.var 4) (.var 9))) (.and (.not (.cmp .lss (.var 9) (.int 20))) (.and (.not (.cmp .lss (.var 10) (.fn 0 (.fn 36 (.var 2))))) (.and (.fn 103 (.pr (.var 3) (.pr (.var 4) (.fn 10 (.int 0))))) (.and (.not (.cmp .lss (.int 20) (.var 9))) (.and (.not (.cmp .lss (.var 9) (.int (-1)))) (.and (.not (.cmp .lss (.var 4) (.int 1))) (.and (.not (.cmp .lss (.int 80) (.var 8))) (.and (.not (.cmp .lss (.var 5) (.int 0))) (.and (.cmp .eql (.var 4) (.var 8)) (.fn 110 (.pr (.var 2) (.pr (.var 3) (.pr (.var 6) (.pr (.var 7) (.var 8)))))))))))))))) (.cmp .eql (.fn 0 (.fn 36 (.var 2))) (.int 0)))
theorem fact24 (ρ : Env) : E.B ρ f24 = true := by
  unfold f24
  simp only [sm_I_int, sm_I_fn6, sm_I_fn7, sm_I_fn8, sm_B_bool, sm_B_eql, sm_B_lss, sm_B_not, sm_B_and, sm_B_imp, sm_I_add_i64, sm_I_sub_i64, d110, d33, d32, dop, dpl, dL34, dL35, dL2, dL3, dL23, dL10, dd_int, dd_bool, d100, d101, d103, d104, d36, d39, d0, d9, List.map_nil, List.map_cons, List.map_append, List.length_nil]
  rintro ⟨p0, p1, p2, p3, p4, p5, p6, p7, p8, p9, p10⟩
  have hl := rel_keysLen p10
  have hn : E.I ρ (.var 4) = E.I ρ (.var 8) := by omega
  rw [hn] at p3
  have hs := rel_nums p10 p3
  rw [hs]; simp
noncomputable def f25 : E := (.imp (.and (.not (.cmp .lss (.var 4) (.var 9))) (.and (.not (.cmp .lss (.var 9) (.int 20))) (.and (.not (.cmp .lss (.var 10) (.fn 0 (.fn 36 (.var 2))))) (.and (.cmp .eql (.var 12) (.fn 0 (.var 11))) (.and (.fn 103 (.pr (.var 3) (.pr (.var 4) (.var 11)))) (.and (.cmp .eql (.var 14) (.fn 100 (.pr (.var 3) (.int 0)))) (.and (.not (.cmp .lss (.int 20) (.var 9))) (.and (.not (.cmp .lss (.var 9) (.int (-1)))) (.and (.not (.cmp .lss (.var 4) (.int 1))) (.and (.not (.cmp .lss (.int 80) (.var 8))) (.and (.not (.cmp .lss (.var 5) (.int 0))) (.and (.cmp .eql (.var 4) (.var 8)) (.fn 110 (.pr (.var 2) (.pr (.var 3) (.pr (.var 6) (.pr (.var 7) (.var 8)))))))))))))))))) (.cmp .eql (.var 6) (.var 14)))
theorem fact25 (ρ : Env) : E.B ρ f25 = true := by
  unfold f25
  simp only [sm_I_int, sm_I_fn6, sm_I_fn7, sm_I_fn8, sm_B_bool, sm_B_eql, sm_B_lss, sm_B_not, sm_B_and, sm_B_imp, sm_I_add_i64, sm_I_sub_i64, d110, d33, d32, dop, dpl, dL34, dL35, dL2, dL3, dL23, dL10, dd_int, dd_bool, d100, d101, d103, d104, d36, d39, d0, d9, List.map_nil, List.map_cons, List.map_append, List.length_nil]
  rintro ⟨p0, p1, p2, p3, p4, p5, p6, p7, p8, p9, p10, p11, p12⟩
  have g0 := rel_c0 p12
  have g1 := rel_c1 p12
  have g2 := rel_rows p12
  try simp only [sm_I_int] at *
  omega
noncomputable def f26 : E := (.imp (.and (.cmp .lss (.var 4) (.var 9)) (.and (.not (.cmp .lss (.var 10) (.fn 0 (.fn 36 (.var 2))))) (.and (.fn 103 (.pr (.var 3) (.pr (.var 4) (.fn 10 (.int 0))))) (.and (.not (.cmp .lss (.int 20) (.var 9))) (.and (.not (.cmp .lss (.var 9) (.int (-1)))) (.and (.not (.cmp .lss (.var 4) (.int 1))) (.and (.not (.cmp .lss (.int 80) (.var 8))) (.and (.not (.cmp .lss (.var 5) (.int 0))) (.and (.cmp .eql (.var 4) (.var 8)) (.fn 110 (.pr (.var 2) (.pr (.var 3) (.pr (.var 6) (.pr (.var 7) (.var 8))))))))))))))) (.cmp .eql (.fn 0 (.fn 36 (.var 2))) (.int 0)))
theorem fact26 (ρ : Env) : E.B ρ f26 = true := by
  unfold f26
  simp only [sm_I_int, sm_I_fn6, sm_I_fn7, sm_I_fn8, sm_B_bool, sm_B_eql, sm_B_lss, sm_B_not, sm_B_and, sm_B_imp, sm_I_add_i64, sm_I_sub_i64, d110, d33, d32, dop, dpl, dL34, dL35, dL2, dL3, dL23, dL10, dd_int, dd_bool, d100, d101, d103, d104, d36, d39, d0, d9, List.map_nil, List.map_cons, List.map_append, List.length_nil]
  rintro ⟨p0, p1, p2, p3, p4, p5, p6, p7, p8, p9⟩
  have hl := rel_keysLen p9
  have hn : E.I ρ (.var 4) = E.I ρ (.var 8) := by omega
  rw [hn] at p2
  have hs := rel_nums p9 p2
  rw [hs]; simp
noncomputable def f27 : E := (.imp (.and (.cmp .lss (.var 4) (.var 9)) (.and (.not (.cmp .lss (.var 10) (.fn 0 (.fn 36 (.var 2))))) (.and (.cmp .eql (.var 12) (.fn 0 (.var 11))) (.and (.fn 103 (.pr (.var 3) (.pr (.var 4) (.var 11)))) (.and (.cmp .eql (.var 14) (.fn 100 (.pr (.var 3) (.int 0)))) (.and (.not (.cmp .lss (.int 20) (.var 9))) (.and (.not (.cmp .lss (.var 9) (.int (-1)))) (.and (.not (.cmp .lss (.var 4) (.int 1))) (.and (.not (.cmp .lss (.int 80) (.var 8))) (.and (.not (.cmp .lss (.var 5) (.int 0))) (.and (.cmp .eql (.var 4) (.var 8)) (.fn 110 (.pr (.var 2) (.pr (.var 3) (.pr (.var 6) (.pr (.var 7) (.var 8))))))))))))))))) (.cmp .eql (.var 6) (.var 14)))
theorem fact27 (ρ : Env) : E.B ρ f27 = true := by
  unfold f27
  simp only [sm_I_int, sm_I_fn6, sm_I_fn7, sm_I_fn8, sm_B_bool, sm_B_eql, sm_B_lss, sm_B_not, sm_B_and, sm_B_imp, sm_I_add_i64, sm_I_sub_i64, d110, d33, d32, dop, dpl, dL34, dL35, dL2, dL3, dL23, dL10, dd_int, dd_bool, d100, d101, d103, d104, d36, d39, d0, d9, List.map_nil, List.map_cons, List.map_append, List.length_nil]
  rintro ⟨p0, p1, p2, p3, p4, p5, p6, p7, p8, p9, p10, p11⟩
  have g0 := rel_c0 p11
  have g1 := rel_c1 p11
  have g2 := rel_rows p11
  try simp only [sm_I_int] at *
  omega
noncomputable def f28 : E := (.imp (.and (.not (.cmp .lss (.var 4) (.var 9))) (.and (.not (.cmp .lss (.var 9) (.int 20))) (.and (.not (.cmp .lss (.var 10) (.fn 0 (.fn 36 (.var 2))))) (.and (.fn 103 (.pr (.var 3) (.pr (.var 4) (.fn 10 (.int 0))))) (.and (.cmp .eql (.var 11) (.fn 100 (.pr (.var 3) (.int 0)))) (.and (.not (.cmp .lss (.int 20) (.var 9))) (.and (.not (.cmp .lss (.var 9) (.int (-1)))) (.and (.not (.cmp .lss (.var 4) (.int 1))) (.and (.not (.cmp .lss (.int 80) (.var 8))) (.and (.not (.cmp .lss (.var 5) (.int 0))) (.and (.cmp .eql (.var 4) (.var 8)) (.fn 110 (.pr (.var 2) (.pr (.var 3) (.pr (.var 6) (.pr (.var 7) (.var 8))))))))))))))))) (.cmp .eql (.var 6) (.var 11)))
theorem fact28 (ρ : Env) : E.B ρ f28 = true := by
  unfold f28
  simp only [sm_I_int, sm_I_fn6, sm_I_fn7, sm_I_fn8, sm_B_bool, sm_B_eql, sm_B_lss, sm_B_not, sm_B_and, sm_B_imp, sm_I_add_i64, sm_I_sub_i64, d110, d33, d32, dop, dpl, dL34, dL35, dL2, dL3, dL23, dL10, dd_int, dd_bool, d100, d101, d103, d104, d36, d39, d0, d9, List.map_nil, List.map_cons, List.map_append, List.length_nil]
  rintro ⟨p0, p1, p2, p3, p4, p5, p6, p7, p8, p9, p10, p11⟩
  have g0 := rel_c0 p11
  have g1 := rel_c1 p11
  have g2 := rel_rows p11
  try simp only [sm_I_int] at *
  omega
noncomputable def f29 : E := (.imp (.and (.not (.cmp .lss (.var 4) (.var 9))) (.and (.not (.cmp .lss (.var 9) (.int 20))) (.and (.not (.cmp .lss (.var 10) (.fn 0 (.fn 36 (.var 2))))) (.and (.cmp .eql (.var 12) (.fn 0 (.var 11))) (.and (.fn 103 (.pr (.var 3) (.pr (.var 4) (.var 11)))) (.and (.cmp .eql (.var 14) (.fn 100 (.pr (.var 3) (.int 0)))) (.and (.cmp .eql (.var 15) (.fn 100 (.pr (.var 3) (.int 1)))) (.and (.not (.cmp .lss (.int 20) (.var 9))) (.and (.not (.cmp .lss (.var 9) (.int (-1)))) (.and (.not (.cmp .lss (.var 4) (.int 1))) (.and (.not (.cmp .lss (.int 80) (.var 8))) (.and (.not (.cmp .lss (.var 5) (.int 0))) (.and (.cmp .eql (.var 4) (.var 8)) (.fn 110 (.pr (.var 2) (.pr (.var 3) (.pr (.var 6) (.pr (.var 7) (.var 8))))))))))))))))))) (.cmp .eql (.var 7) (.var 15)))
theorem fact29 (ρ : Env) : E.B ρ f29 = true := by
  unfold f29
  simp only [sm_I_int, sm_I_fn6, sm_I_fn7, sm_I_fn8, sm_B_bool, sm_B_eql, sm_B_lss, sm_B_not, sm_B_and, sm_B_imp, sm_I_add_i64, sm_I_sub_i64, d110, d33, d32, dop, dpl, dL34, dL35, dL2, dL3, dL23, dL10, dd_int, dd_bool, d100, d101, d103, d104, d36, d39, d0, d9, List.map_nil, List.map_cons, List.map_append, List.length_nil]
  rintro ⟨p0, p1, p2, p3, p4, p5, p6, p7, p8, p9, p10, p11, p12, p13⟩
  have g0 := rel_c0 p13
  have g1 := rel_c1 p13
  have g2 := rel_rows p13
  try simp only [sm_I_int] at *
  omega
noncomputable def f30 : E := (.imp (.and (.cmp .lss (.var 4) (.var 9)) (.and (.not (.cmp .lss (.var 10) (.fn 0 (.fn 36 (.var 2))))) (.and (.fn 103 (.pr (.var 3) (.pr (.var 4) (.fn 10 (.int 0))))) (.and (.cmp .eql (.var 11) (.fn 100 (.pr (.var 3) (.int 0)))) (.and (.not (.cmp .lss (.int 20) (.var 9))) (.and (.not (.cmp .lss (.var 9) (.int (-1)))) (.and (.not (.cmp .lss (.var 4) (.int 1))) (.and (.not (.cmp .lss (.int 80) (.var 8))) (.and (.not (.cmp .lss (.var 5) (.int 0))) (.and (.cmp .eql (.var 4) (.var 8)) (.fn 110 (.pr (.var 2) (.pr (.var 3) (.pr (.var 6) (.pr (.var 7) (.var 8)))))))))))))))) (.cmp .eql (.var 6) (.var 11)))
theorem fact30 (ρ : Env) : E.B ρ f30 = true := by
  unfold f30
  simp only [sm_I_int, sm_I_fn6, sm_I_fn7, sm_I_fn8, sm_B_bool, sm_B_eql, sm_B_lss, sm_B_not, sm_B_and, sm_B_imp, sm_I_add_i64, sm_I_sub_i64, d110, d33, d32, dop, dpl, dL34, dL35, dL2, dL3, dL23, dL10, dd_int, dd_bool, d100, d101, d103, d104, d36, d39, d0, d9, List.map_nil, List.map_cons, List.map_append, List.length_nil]
  rintro ⟨p0, p1, p2, p3, p4, p5, p6, p7, p8, p9, p10⟩
  have g0 := rel_c0 p10
  have g1 := rel_c1 p10
  have g2 := rel_rows p10
  try simp only [sm_I_int] at *
  omega
noncomputable def f31 : E := (.imp (.and (.cmp .lss (.var 4) (.var 9)) (.and (.not (.cmp .lss (.var 10) (.fn 0 (.fn 36 (.var 2))))) (.and (.cmp .eql (.var 12) (.fn 0 (.var 11))) (.and (.fn 103 (.pr (.var 3) (.pr (.var 4) (.var 11)))) (.and (.cmp .eql (.var 14) (.fn 100 (.pr (.var 3) (.int 0)))) (.and (.cmp .eql (.var 15) (.fn 100 (.pr (.var 3) (.int 1)))) (.and (.not (.cmp .lss (.int 20) (.var 9))) (.and (.not (.cmp .lss (.var 9) (.int (-1)))) (.and (.not (.cmp .lss (.var 4) (.int 1))) (.and (.not (.cmp .lss (.int 80) (.var 8))) (.and (.not (.cmp .lss (.var 5) (.int 0))) (.and (.cmp .eql (.var 4) (.var 8)) (.fn 110 (.pr (.var 2) (.pr (.var 3) (.pr (.var 6) (.pr (.var 7) (.var 8)))))))))))))))))) (.cmp .eql (.var 7) (.var 15)))
theorem fact31 (ρ : Env) : E.B ρ f31 = true := by
  unfold f31
  simp only [sm_I_int, sm_I_fn6, sm_I_fn7, sm_I_fn8, sm_B_bool, sm_B_eql, sm_B_lss, sm_B_not, sm_B_and, sm_B_imp, sm_I_add_i64, sm_I_sub_i64, d110, d33, d32, dop, dpl, dL34, dL35, dL2, dL3, dL23, dL10, dd_int, dd_bool, d100, d101, d103, d104, d36, d39, d0, d9, List.map_nil, List.map_cons, List.map_append, List.length_nil]
  rintro ⟨p0, p1, p2, p3, p4, p5, p6, p7, p8, p9, p10, p11, p12⟩
  have g0 := rel_c0 p12
  have g1 := rel_c1 p12
  have g2 := rel_rows p12
  try simp only [sm_I_int] at *
  omega
noncomputable def f32 : E := (.imp (.and (.not (.cmp .lss (.var 4) (.var 9))) (.and (.not (.cmp .lss (.var 9) (.int 20))) (.and (.not (.cmp .lss (.var 10) (.fn 0 (.fn 36 (.var 2))))) (.and (.fn 103 (.pr (.var 3) (.pr (.var 4) (.fn 10 (.int 0))))) (.and (.cmp .eql (.var 11) (.fn 100 (.pr (.var 3) (.int 0)))) (.and (.cmp .eql (.var 12) (.fn 100 (.pr (.var 3) (.int 1)))) (.and (.not (.cmp .lss (.int 20) (.var 9))) (.and (.not (.cmp .lss (.var 9) (.int (-1)))) (.and (.not (.cmp .lss (.var 4) (.int 1))) (.and (.not (.cmp .lss (.int 80) (.var 8))) (.and (.not (.cmp .lss (.var 5) (.int 0))) (.and (.cmp .eql (.var 4) (.var 8)) (.fn 110 (.pr (.var 2) (.pr (.var 3) (.pr (.var 6) (.pr (.var 7) (.var 8)))))))))))))))))) (.cmp .eql (.var 7) (.var 12)))
theorem fact32 (ρ : Env) : E.B ρ f32 = true := by
  unfold f32
  simp only [sm_I_int, sm_I_fn6, sm_I_fn7, sm_I_fn8, sm_B_bool, sm_B_eql, sm_B_lss, sm_B_not, sm_B_and, sm_B_imp, sm_I_add_i64, sm_I_sub_i64, d110, d33, d32, dop, dpl, dL34, dL35, dL2, dL3, dL23, dL10, dd_int, dd_bool, d100, d101, d103, d104, d36, d39, d0, d9, List.map_nil, List.map_cons, List.map_append, List.length_nil]
  rintro ⟨p0, p1, p2, p3, p4, p5, p6, p7, p8, p9, p10, p11, p12⟩
  have g0 := rel_c0 p12
  have g1 := rel_c1 p12
  have g2 := rel_rows p12
  try simp only [sm_I_int] at *
  omega
noncomputable def f33 : E := (.imp (.and (.cmp .lss (.var 4) (.var 9)) (.and (.not (.cmp .lss (.var 10) (.fn 0 (.fn 36 (.var 2))))) (.and (.fn 103 (.pr (.var 3) (.pr (.var 4) (.fn 10 (.int 0))))) (.and (.cmp .eql (.var 11) (.fn 100 (.pr (.var 3) (.int 0)))) (.and (.cmp .eql (.var 12) (.fn 100 (.pr (.var 3) (.int 1)))) (.and (.not (.cmp .lss (.int 20) (.var 9))) (.and (.not (.cmp .lss (.var 9) (.int (-1)))) (.and (.not (.cmp .lss (.var 4) (.int 1))) (.and (.not (.cmp .lss (.int 80) (.var 8))) (.and (.not (.cmp .lss (.var 5) (.int 0))) (.and (.cmp .eql (.var 4) (.var 8)) (.fn 110 (.pr (.var 2) (.pr (.var 3) (.pr (.var 6) (.pr (.var 7) (.var 8))))))))))))))))) (.cmp .eql (.var 7) (.var 12)))
theorem fact33 (ρ : Env) : E.B ρ f33 = true := by
  unfold f33
  simp only [sm_I_int, sm_I_fn6, sm_I_fn7, sm_I_fn8, sm_B_bool, sm_B_eql, sm_B_lss, sm_B_not, sm_B_and, sm_B_imp, sm_I_add_i64, sm_I_sub_i64, d110, d33, d32, dop, dpl, dL34, dL35, dL2, dL3, dL23, dL10, dd_int, dd_bool, d100, d101, d103, d104, d36, d39, d0, d9, List.map_nil, List.map_cons, List.map_append, List.length_nil]
  rintro ⟨p0, p1, p2, p3, p4, p5, p6, p7, p8, p9, p10, p11⟩
  have g0 := rel_c0 p11
  have g1 := rel_c1 p11
  have g2 := rel_rows p11
  try simp only [sm_I_int] at *
  omega
noncomputable def facts : List E := [f0, f1, f2, f3, f4, f5, f6, f7, f8, f9, f10, f11, f12, f13, f14, f15, f16, f17, f18, f19, f20, f21, f22, f23, f24, f25, f26, f27, f28, f29, f30, f31, f32, f33]
theorem facts_ok : ∀ e ∈ facts, ∀ ρ : Env, E.B ρ e = true := (all_cons fact0 (all_cons fact1 (all_cons fact2 (all_cons fact3 (all_cons fact4 (all_cons fact5 (all_cons fact6 (all_cons fact7 (all_cons fact8 (all_cons fact9 (all_cons fact10 (all_cons fact11 (all_cons fact12 (all_cons fact13 (all_cons fact14 (all_cons fact15 (all_cons fact16 (all_cons fact17 (all_cons fact18 (all_cons fact19 (all_cons fact20 (all_cons fact21 (all_cons fact22 (all_cons fact23 (all_cons fact24 (all_cons fact25 (all_cons fact26 (all_cons fact27 (all_cons fact28 (all_cons fact29 (all_cons fact30 (all_cons fact31 (all_cons fact32 (all_cons fact33 all_nil))))))))))))))))))))))))))))))))))
end p4
set_option maxRecDepth 100000 in
theorem spec4_0 : NatOk Try.prog (specNat (looksP)) :=
  spec_of_check good (facts := p4.facts) p4.facts_ok (anns := [annlooks]) (plainAnns_ok _ (by kernel_rfl)) (nats := natl5) natl5_ok (n := 3000) (by kernel_rfl)
noncomputable def natl6 : List Nat1 := specNat (looksP) :: natl5
theorem natl6_ok : ∀ x ∈ natl6, NatOk Try.prog x := by
  intro x hx
  rcases List.mem_cons.1 hx with rfl | hx
  · exact spec4_0
  exact natl5_ok x hx

end Go.Proofs.Ytphcdmgmeiefhaa.sessionPlays
