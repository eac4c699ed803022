/-
  Functions of Go's library in this program: slices.Sort.
-/
import Derived.Test.YtmngplmblanhdaaProg
import Derived.Test.YtmngplmblanhdaaTheory
import Derived.Shelf.SortM.Plain
import Derived.Shelf.SortM.SortNone
import Derived.KernelRfl
namespace Go.Proofs.Ytmngplmblanhdaa
open Go.RowKit Go.Maps Go.Sort Go.Shelf Go.Proofs Go.SX
def Try.sortA_ren : Go.Shelf.Ren := ⟨fun | 5 => 41 | 8 => 47 | 7 => 46 | 19 => 57 | 20 => 58 | 10 => 48 | 11 => 49 | 12 => 50 | 13 => 51 | 14 => 52 | 15 => 53 | 16 => 54 | 17 => 55 | 18 => 56 | 30 => 59 | 31 => 60 | 32 => 61 | 33 => 62 | 34 => 63 | 35 => 64 | 40 => 65 | n => n, fun | 23 => 23 | 25 => 3 | 3 => 3 | 32 => 80 | 22 => 23 | 0 => 0 | 44 => 90 | 46 => 92 | 4 => 4 | 36 => 83 | 35 => 82 | 41 => 87 | 5 => 5 | 9 => 9 | 53 => 93 | 57 => 97 | 63 => 99 | 64 => 100 | n => n, fun  | n => n⟩
theorem Try.sortA : SlLaysM.n5 Try.prog Try.sortA_ren := {
  mixed := by kernel_rfl,
  f5 := ⟨Try.f41.name, by decide, Try.func41.trans (congrArg some (by kernel_rfl))⟩,
  f7 := ⟨Try.f46.name, by decide, Try.func46.trans (congrArg some (by kernel_rfl))⟩,
  f10 := ⟨Try.f48.name, by decide, Try.func48.trans (congrArg some (by kernel_rfl))⟩,
  f11 := ⟨Try.f49.name, by decide, Try.func49.trans (congrArg some (by kernel_rfl))⟩,
  f12 := ⟨Try.f50.name, by decide, Try.func50.trans (congrArg some (by kernel_rfl))⟩,
  f13 := ⟨Try.f51.name, by decide, Try.func51.trans (congrArg some (by kernel_rfl))⟩,
  f14 := ⟨Try.f52.name, by decide, Try.func52.trans (congrArg some (by kernel_rfl))⟩,
  f15 := ⟨Try.f53.name, by decide, Try.func53.trans (congrArg some (by kernel_rfl))⟩,
  f16 := ⟨Try.f54.name, by decide, Try.func54.trans (congrArg some (by kernel_rfl))⟩,
  f17 := ⟨Try.f55.name, by decide, Try.func55.trans (congrArg some (by kernel_rfl))⟩,
  f18 := ⟨Try.f56.name, by decide, Try.func56.trans (congrArg some (by kernel_rfl))⟩,
  f30 := ⟨Try.f59.name, by decide, Try.func59.trans (congrArg some (by kernel_rfl))⟩,
  f33 := ⟨Try.f62.name, by decide, Try.func62.trans (congrArg some (by kernel_rfl))⟩,
  f34 := ⟨Try.f63.name, by decide, Try.func63.trans (congrArg some (by kernel_rfl))⟩,
  f35 := ⟨Try.f64.name, by decide, Try.func64.trans (congrArg some (by kernel_rfl))⟩,
  f40 := ⟨Try.f65.name, by decide, Try.func65.trans (congrArg some (by kernel_rfl))⟩,
  t0 := Try.underlying0,
  a0 := Try.isAgg0,
  z0 := Try.sizeOf0,
  v0 := Try.zeroValue0,
  t3 := Try.underlying3,
  a3 := Try.isAgg3,
  z3 := Try.sizeOf3,
  v3 := Try.zeroValue3,
  t4 := Try.underlying4,
  a4 := Try.isAgg4,
  z4 := Try.sizeOf4,
  v4 := Try.zeroValue4,
  t5 := Try.underlying5,
  a5 := Try.isAgg5,
  z5 := Try.sizeOf5,
  v5 := Try.zeroValue5,
  t9 := Try.underlying9,
  a9 := Try.isAgg9,
  z9 := Try.sizeOf9,
  v9 := Try.zeroValue9,
  t22 := Try.underlying23,
  a22 := Try.isAgg23,
  z22 := Try.sizeOf23,
  v22 := Try.zeroValue23,
  t23 := Try.underlying23,
  a23 := Try.isAgg23,
  z23 := Try.sizeOf23,
  v23 := Try.zeroValue23,
  t25 := Try.underlying3,
  a25 := Try.isAgg3,
  z25 := Try.sizeOf3,
  v25 := Try.zeroValue3,
  t32 := Try.underlying80,
  a32 := Try.isAgg80,
  z32 := Try.sizeOf80,
  v32 := Try.zeroValue80,
  t35 := Try.underlying82,
  a35 := Try.isAgg82,
  z35 := Try.sizeOf82,
  v35 := Try.zeroValue82,
  t36 := Try.underlying83,
  a36 := Try.isAgg83,
  z36 := Try.sizeOf83,
  v36 := Try.zeroValue83,
  t41 := Try.underlying87,
  a41 := Try.isAgg87,
  z41 := Try.sizeOf87,
  v41 := Try.zeroValue87,
  t44 := Try.underlying90,
  a44 := Try.isAgg90,
  z44 := Try.sizeOf90,
  v44 := Try.zeroValue90,
  t46 := Try.underlying92,
  a46 := Try.isAgg92,
  z46 := Try.sizeOf92,
  v46 := Try.zeroValue92,
  t53 := Try.underlying93,
  a53 := Try.isAgg93,
  z53 := Try.sizeOf93,
  v53 := Try.zeroValue93,
  t57 := Try.underlying97,
  a57 := Try.isAgg97,
  z57 := Try.sizeOf97,
  v57 := Try.zeroValue97,
  t63 := Try.underlying99,
  a63 := Try.isAgg99,
  z63 := Try.sizeOf99,
  v63 := Try.zeroValue99,
  t64 := Try.underlying100,
  a64 := Try.isAgg100,
  z64 := Try.sizeOf100,
  v64 := Try.zeroValue100,
  f8 := Try.func47.trans (congrArg some (by kernel_rfl)),
  f19 := Try.func57.trans (congrArg some (by kernel_rfl)),
  f20 := Try.func58.trans (congrArg some (by kernel_rfl)),
  f31 := Try.func60.trans (congrArg some (by kernel_rfl)),
  f32 := Try.func61.trans (congrArg some (by kernel_rfl)) }

theorem Try.sortOk : SortAt Try.prog 41 :=
  ⟨fun blk off cap zs w hH hblk hsz => AnyM.slices_Sort_int Try.sortA blk off cap zs w hH hblk hsz, fun p cap w => AnyM.slices_Sort_int_none Try.sortA p cap w⟩
noncomputable def nats : List Nat1 := [sortNat 41]
theorem nats_ok : ∀ x ∈ nats, NatOk Try.prog x := by
  intro x hx
  simp only [nats, List.mem_cons, List.not_mem_nil, or_false] at hx
  rcases hx with rfl
  exact sortNat_ok Try.sortOk
end Go.Proofs.Ytmngplmblanhdaa
