/-
  Functions of Go's library in this program: slices.Sort.
-/
import Derived.Test.YtoicbojdnjcmiaaProg
import Derived.Test.YtoicbojdnjcmiaaTheory
import Derived.Shelf.SortM.Plain
import Derived.Shelf.SortM.SortNone
import Derived.KernelRfl
namespace Go.Proofs.Ytoicbojdnjcmiaa
open Go.RowKit Go.Maps Go.Sort Go.Shelf Go.Proofs Go.SX
def Try.sortA_ren : Go.Shelf.Ren := ⟨fun | 5 => 51 | 8 => 85 | 7 => 84 | 19 => 117 | 20 => 118 | 10 => 108 | 11 => 109 | 12 => 110 | 13 => 111 | 14 => 112 | 15 => 113 | 16 => 114 | 17 => 115 | 18 => 116 | 30 => 121 | 31 => 122 | 32 => 123 | 33 => 124 | 34 => 125 | 35 => 126 | 40 => 127 | n => n, fun | 23 => 25 | 25 => 3 | 3 => 3 | 32 => 141 | 22 => 25 | 0 => 0 | 44 => 178 | 46 => 148 | 4 => 4 | 36 => 172 | 35 => 171 | 41 => 163 | 5 => 5 | 9 => 9 | 53 => 183 | 57 => 111 | 63 => 188 | 64 => 189 | n => n, fun  | n => n⟩
theorem Try.sortA : SlLaysM.n5 Try.prog Try.sortA_ren := {
  mixed := by kernel_rfl,
  f5 := ⟨Try.f51.name, by decide, Try.func51.trans (congrArg some (by kernel_rfl))⟩,
  f7 := ⟨Try.f84.name, by decide, Try.func84.trans (congrArg some (by kernel_rfl))⟩,
  f10 := ⟨Try.f108.name, by decide, Try.func108.trans (congrArg some (by kernel_rfl))⟩,
  f11 := ⟨Try.f109.name, by decide, Try.func109.trans (congrArg some (by kernel_rfl))⟩,
  f12 := ⟨Try.f110.name, by decide, Try.func110.trans (congrArg some (by kernel_rfl))⟩,
  f13 := ⟨Try.f111.name, by decide, Try.func111.trans (congrArg some (by kernel_rfl))⟩,
  f14 := ⟨Try.f112.name, by decide, Try.func112.trans (congrArg some (by kernel_rfl))⟩,
  f15 := ⟨Try.f113.name, by decide, Try.func113.trans (congrArg some (by kernel_rfl))⟩,
  f16 := ⟨Try.f114.name, by decide, Try.func114.trans (congrArg some (by kernel_rfl))⟩,
  f17 := ⟨Try.f115.name, by decide, Try.func115.trans (congrArg some (by kernel_rfl))⟩,
  f18 := ⟨Try.f116.name, by decide, Try.func116.trans (congrArg some (by kernel_rfl))⟩,
  f30 := ⟨Try.f121.name, by decide, Try.func121.trans (congrArg some (by kernel_rfl))⟩,
  f33 := ⟨Try.f124.name, by decide, Try.func124.trans (congrArg some (by kernel_rfl))⟩,
  f34 := ⟨Try.f125.name, by decide, Try.func125.trans (congrArg some (by kernel_rfl))⟩,
  f35 := ⟨Try.f126.name, by decide, Try.func126.trans (congrArg some (by kernel_rfl))⟩,
  f40 := ⟨Try.f127.name, by decide, Try.func127.trans (congrArg some (by kernel_rfl))⟩,
  t0 := Try.underlying0,
  a0 := Try.isAgg0,
  z0 := Try.sizeOf0,
  v0 := Try.zeroValue0,
  t3 := Try.underlying3,
  a3 := Try.isAgg3,
  z3 := Try.sizeOf3,
  v3 := Try.zeroValue3,
  t4 := Try.underlying4,
  a4 := Try.isAgg4,
  z4 := Try.sizeOf4,
  v4 := Try.zeroValue4,
  t5 := Try.underlying5,
  a5 := Try.isAgg5,
  z5 := Try.sizeOf5,
  v5 := Try.zeroValue5,
  t9 := Try.underlying9,
  a9 := Try.isAgg9,
  z9 := Try.sizeOf9,
  v9 := Try.zeroValue9,
  t22 := Try.underlying25,
  a22 := Try.isAgg25,
  z22 := Try.sizeOf25,
  v22 := Try.zeroValue25,
  t23 := Try.underlying25,
  a23 := Try.isAgg25,
  z23 := Try.sizeOf25,
  v23 := Try.zeroValue25,
  t25 := Try.underlying3,
  a25 := Try.isAgg3,
  z25 := Try.sizeOf3,
  v25 := Try.zeroValue3,
  t32 := Try.underlying141,
  a32 := Try.isAgg141,
  z32 := Try.sizeOf141,
  v32 := Try.zeroValue141,
  t35 := Try.underlying171,
  a35 := Try.isAgg171,
  z35 := Try.sizeOf171,
  v35 := Try.zeroValue171,
  t36 := Try.underlying172,
  a36 := Try.isAgg172,
  z36 := Try.sizeOf172,
  v36 := Try.zeroValue172,
  t41 := Try.underlying163,
  a41 := Try.isAgg163,
  z41 := Try.sizeOf163,
  v41 := Try.zeroValue163,
  t44 := Try.underlying178,
  a44 := Try.isAgg178,
  z44 := Try.sizeOf178,
  v44 := Try.zeroValue178,
  t46 := Try.underlying148,
  a46 := Try.isAgg148,
  z46 := Try.sizeOf148,
  v46 := Try.zeroValue148,
  t53 := Try.underlying183,
  a53 := Try.isAgg183,
  z53 := Try.sizeOf183,
  v53 := Try.zeroValue183,
  t57 := Try.underlying111,
  a57 := Try.isAgg111,
  z57 := Try.sizeOf111,
  v57 := Try.zeroValue111,
  t63 := Try.underlying188,
  a63 := Try.isAgg188,
  z63 := Try.sizeOf188,
  v63 := Try.zeroValue188,
  t64 := Try.underlying189,
  a64 := Try.isAgg189,
  z64 := Try.sizeOf189,
  v64 := Try.zeroValue189,
  f8 := Try.func85.trans (congrArg some (by kernel_rfl)),
  f19 := Try.func117.trans (congrArg some (by kernel_rfl)),
  f20 := Try.func118.trans (congrArg some (by kernel_rfl)),
  f31 := Try.func122.trans (congrArg some (by kernel_rfl)),
  f32 := Try.func123.trans (congrArg some (by kernel_rfl)) }

theorem Try.sortOk : SortAt Try.prog 51 :=
  ⟨fun blk off cap zs w hH hblk hsz => AnyM.slices_Sort_int Try.sortA blk off cap zs w hH hblk hsz, fun p cap w => AnyM.slices_Sort_int_none Try.sortA p cap w⟩
noncomputable def nats : List Nat1 := [sortNat 51]
theorem nats_ok : ∀ x ∈ nats, NatOk Try.prog x := by
  intro x hx
  simp only [nats, List.mem_cons, List.not_mem_nil, or_false] at hx
  rcases hx with rfl
  exact sortNat_ok Try.sortOk
end Go.Proofs.Ytoicbojdnjcmiaa
