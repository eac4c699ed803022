/-
  Functions of Go's library in this program: slices.Sort.
-/
import Derived.Test.YtmcifbikfjmmfaaProg
import Derived.Test.YtmcifbikfjmmfaaTheory
import Derived.Shelf.SortM.Plain
import Derived.Shelf.SortM.SortNone
import Derived.KernelRfl
namespace Go.Proofs.Ytmcifbikfjmmfaa
open Go.RowKit Go.Maps Go.Sort Go.Shelf Go.Proofs Go.SX
def Try.sortA_ren : Go.Shelf.Ren := ⟨fun | 5 => 33 | 8 => 36 | 7 => 35 | 19 => 46 | 20 => 47 | 10 => 37 | 11 => 38 | 12 => 39 | 13 => 40 | 14 => 41 | 15 => 42 | 16 => 43 | 17 => 44 | 18 => 45 | 30 => 48 | 31 => 49 | 32 => 50 | 33 => 51 | 34 => 52 | 35 => 53 | 40 => 54 | n => n, fun | 23 => 24 | 25 => 3 | 3 => 3 | 32 => 76 | 22 => 24 | 0 => 0 | 44 => 86 | 46 => 22 | 4 => 4 | 36 => 79 | 35 => 78 | 41 => 83 | 5 => 5 | 9 => 9 | 53 => 88 | 57 => 92 | 63 => 95 | 64 => 96 | n => n, fun  | n => n⟩
theorem Try.sortA : SlLaysM.n5 Try.prog Try.sortA_ren := {
  mixed := by kernel_rfl,
  f5 := ⟨Try.f33.name, by decide, Try.func33.trans (congrArg some (by kernel_rfl))⟩,
  f7 := ⟨Try.f35.name, by decide, Try.func35.trans (congrArg some (by kernel_rfl))⟩,
  f10 := ⟨Try.f37.name, by decide, Try.func37.trans (congrArg some (by kernel_rfl))⟩,
  f11 := ⟨Try.f38.name, by decide, Try.func38.trans (congrArg some (by kernel_rfl))⟩,
  f12 := ⟨Try.f39.name, by decide, Try.func39.trans (congrArg some (by kernel_rfl))⟩,
  f13 := ⟨Try.f40.name, by decide, Try.func40.trans (congrArg some (by kernel_rfl))⟩,
  f14 := ⟨Try.f41.name, by decide, Try.func41.trans (congrArg some (by kernel_rfl))⟩,
  f15 := ⟨Try.f42.name, by decide, Try.func42.trans (congrArg some (by kernel_rfl))⟩,
  f16 := ⟨Try.f43.name, by decide, Try.func43.trans (congrArg some (by kernel_rfl))⟩,
  f17 := ⟨Try.f44.name, by decide, Try.func44.trans (congrArg some (by kernel_rfl))⟩,
  f18 := ⟨Try.f45.name, by decide, Try.func45.trans (congrArg some (by kernel_rfl))⟩,
  f30 := ⟨Try.f48.name, by decide, Try.func48.trans (congrArg some (by kernel_rfl))⟩,
  f33 := ⟨Try.f51.name, by decide, Try.func51.trans (congrArg some (by kernel_rfl))⟩,
  f34 := ⟨Try.f52.name, by decide, Try.func52.trans (congrArg some (by kernel_rfl))⟩,
  f35 := ⟨Try.f53.name, by decide, Try.func53.trans (congrArg some (by kernel_rfl))⟩,
  f40 := ⟨Try.f54.name, by decide, Try.func54.trans (congrArg some (by kernel_rfl))⟩,
  t0 := Try.underlying0,
  a0 := Try.isAgg0,
  z0 := Try.sizeOf0,
  v0 := Try.zeroValue0,
  t3 := Try.underlying3,
  a3 := Try.isAgg3,
  z3 := Try.sizeOf3,
  v3 := Try.zeroValue3,
  t4 := Try.underlying4,
  a4 := Try.isAgg4,
  z4 := Try.sizeOf4,
  v4 := Try.zeroValue4,
  t5 := Try.underlying5,
  a5 := Try.isAgg5,
  z5 := Try.sizeOf5,
  v5 := Try.zeroValue5,
  t9 := Try.underlying9,
  a9 := Try.isAgg9,
  z9 := Try.sizeOf9,
  v9 := Try.zeroValue9,
  t22 := Try.underlying24,
  a22 := Try.isAgg24,
  z22 := Try.sizeOf24,
  v22 := Try.zeroValue24,
  t23 := Try.underlying24,
  a23 := Try.isAgg24,
  z23 := Try.sizeOf24,
  v23 := Try.zeroValue24,
  t25 := Try.underlying3,
  a25 := Try.isAgg3,
  z25 := Try.sizeOf3,
  v25 := Try.zeroValue3,
  t32 := Try.underlying76,
  a32 := Try.isAgg76,
  z32 := Try.sizeOf76,
  v32 := Try.zeroValue76,
  t35 := Try.underlying78,
  a35 := Try.isAgg78,
  z35 := Try.sizeOf78,
  v35 := Try.zeroValue78,
  t36 := Try.underlying79,
  a36 := Try.isAgg79,
  z36 := Try.sizeOf79,
  v36 := Try.zeroValue79,
  t41 := Try.underlying83,
  a41 := Try.isAgg83,
  z41 := Try.sizeOf83,
  v41 := Try.zeroValue83,
  t44 := Try.underlying86,
  a44 := Try.isAgg86,
  z44 := Try.sizeOf86,
  v44 := Try.zeroValue86,
  t46 := Try.underlying22,
  a46 := Try.isAgg22,
  z46 := Try.sizeOf22,
  v46 := Try.zeroValue22,
  t53 := Try.underlying88,
  a53 := Try.isAgg88,
  z53 := Try.sizeOf88,
  v53 := Try.zeroValue88,
  t57 := Try.underlying92,
  a57 := Try.isAgg92,
  z57 := Try.sizeOf92,
  v57 := Try.zeroValue92,
  t63 := Try.underlying95,
  a63 := Try.isAgg95,
  z63 := Try.sizeOf95,
  v63 := Try.zeroValue95,
  t64 := Try.underlying96,
  a64 := Try.isAgg96,
  z64 := Try.sizeOf96,
  v64 := Try.zeroValue96,
  f8 := Try.func36.trans (congrArg some (by kernel_rfl)),
  f19 := Try.func46.trans (congrArg some (by kernel_rfl)),
  f20 := Try.func47.trans (congrArg some (by kernel_rfl)),
  f31 := Try.func49.trans (congrArg some (by kernel_rfl)),
  f32 := Try.func50.trans (congrArg some (by kernel_rfl)) }

theorem Try.sortOk : SortAt Try.prog 33 :=
  ⟨fun blk off cap zs w hH hblk hsz => AnyM.slices_Sort_int Try.sortA blk off cap zs w hH hblk hsz, fun p cap w => AnyM.slices_Sort_int_none Try.sortA p cap w⟩
noncomputable def nats : List Nat1 := [sortNat 33]
theorem nats_ok : ∀ x ∈ nats, NatOk Try.prog x := by
  intro x hx
  simp only [nats, List.mem_cons, List.not_mem_nil, or_false] at hx
  rcases hx with rfl
  exact sortNat_ok Try.sortOk
end Go.Proofs.Ytmcifbikfjmmfaa
