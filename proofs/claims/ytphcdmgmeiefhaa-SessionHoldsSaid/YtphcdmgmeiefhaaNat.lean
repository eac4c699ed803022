/-
  slices.Sorted over maps.Keys, in this program: a new slice of the sorted keys.
-/
import Derived.Test.YtphcdmgmeiefhaaProg
import Derived.Test.YtphcdmgmeiefhaaSXe
import Derived.Shelf.SortM.Plain
import Derived.Shelf.SlMaps.Clone
import Derived.Shelf.SortM.SortNone
import Derived.KernelRfl
namespace Go.Proofs.Ytphcdmgmeiefhaa
open Go.RowKit Go.Maps Go.Sort Go.Shelf Go.Proofs Go.SX
def Try.keysA_ren : Go.Shelf.Ren := ⟨fun | 7 => 34 | 10 => 42 | n => n, fun | 23 => 63 | 26 => 3 | 3 => 3 | 28 => 71 | 0 => 0 | 27 => 70 | 33 => 39 | 4 => 4 | n => n, fun  | n => n⟩
theorem Try.keysA : SlLaysZI.n7 Try.prog Try.keysA_ren := {
  mixed := by kernel_rfl,
  f7 := ⟨Try.f34.name, by decide, Try.func34.trans (congrArg some (by kernel_rfl))⟩,
  f10 := ⟨Try.f42.name, by decide, Try.func42.trans (congrArg some (by kernel_rfl))⟩,
  t0 := Try.underlying0,
  a0 := Try.isAgg0,
  z0 := Try.sizeOf0,
  v0 := Try.zeroValue0,
  t4 := Try.underlying4,
  a4 := Try.isAgg4,
  z4 := Try.sizeOf4,
  v4 := Try.zeroValue4,
  t23 := Try.underlying63,
  a23 := Try.isAgg63,
  z23 := Try.sizeOf63,
  v23 := Try.zeroValue63,
  t26 := Try.underlying3,
  a26 := Try.isAgg3,
  z26 := Try.sizeOf3,
  v26 := Try.zeroValue3,
  t27 := Try.underlying70,
  a27 := Try.isAgg70,
  z27 := Try.sizeOf70,
  v27 := Try.zeroValue70,
  t28 := Try.underlying71,
  a28 := Try.isAgg71,
  z28 := Try.sizeOf71,
  v28 := Try.zeroValue71,
  t33 := Try.underlying39,
  a33 := Try.isAgg39,
  z33 := Try.sizeOf39,
  v33 := Try.zeroValue39 }
def Try.sortedA_ren : Go.Shelf.Ren := ⟨fun | 6 => 33 | 8 => 40 | 9 => 41 | 11 => 44 | 13 => 46 | 12 => 45 | 23 => 56 | 24 => 57 | 14 => 47 | 15 => 48 | 16 => 49 | 17 => 50 | 18 => 51 | 19 => 52 | 20 => 53 | 21 => 54 | 22 => 55 | 25 => 58 | 26 => 59 | 27 => 60 | 28 => 61 | 29 => 62 | 30 => 63 | 31 => 64 | n => n, fun | 26 => 3 | 28 => 71 | 24 => 37 | 0 => 0 | 3 => 3 | 37 => 85 | 48 => 95 | 50 => 97 | 4 => 4 | 40 => 88 | 39 => 87 | 45 => 80 | 5 => 5 | 9 => 9 | 51 => 98 | 55 => 102 | 57 => 104 | 58 => 60 | 33 => 39 | n => n, fun  | n => n⟩
theorem Try.sortedA : SlLaysZI.n6 Try.prog Try.sortedA_ren := {
  mixed := by kernel_rfl,
  f6 := ⟨Try.f33.name, by decide, Try.func33.trans (congrArg some (by kernel_rfl))⟩,
  f8 := ⟨Try.f40.name, by decide, Try.func40.trans (congrArg some (by kernel_rfl))⟩,
  f11 := ⟨Try.f44.name, by decide, Try.func44.trans (congrArg some (by kernel_rfl))⟩,
  t0 := Try.underlying0,
  a0 := Try.isAgg0,
  z0 := Try.sizeOf0,
  v0 := Try.zeroValue0,
  t24 := Try.underlying37,
  a24 := Try.isAgg37,
  z24 := Try.sizeOf37,
  v24 := Try.zeroValue37,
  t26 := Try.underlying3,
  a26 := Try.isAgg3,
  z26 := Try.sizeOf3,
  v26 := Try.zeroValue3,
  t28 := Try.underlying71,
  a28 := Try.isAgg71,
  z28 := Try.sizeOf71,
  v28 := Try.zeroValue71,
  i26 := by kernel_rfl }
def Try.sortA_ren : Go.Shelf.Ren := ⟨fun | 5 => 41 | 8 => 46 | 7 => 45 | 19 => 56 | 20 => 57 | 10 => 47 | 11 => 48 | 12 => 49 | 13 => 50 | 14 => 51 | 15 => 52 | 16 => 53 | 17 => 54 | 18 => 55 | 30 => 58 | 31 => 59 | 32 => 60 | 33 => 61 | 34 => 62 | 35 => 63 | 40 => 64 | n => n, fun | 23 => 37 | 25 => 3 | 3 => 3 | 32 => 85 | 22 => 37 | 0 => 0 | 44 => 95 | 46 => 97 | 4 => 4 | 36 => 88 | 35 => 87 | 41 => 80 | 5 => 5 | 9 => 9 | 53 => 98 | 57 => 102 | 63 => 104 | 64 => 60 | n => n, fun  | n => n⟩
theorem Try.sortA : SlLaysM.n5 Try.prog Try.sortA_ren := {
  mixed := by kernel_rfl,
  f5 := ⟨Try.f41.name, by decide, Try.func41.trans (congrArg some (by kernel_rfl))⟩,
  f7 := ⟨Try.f45.name, by decide, Try.func45.trans (congrArg some (by kernel_rfl))⟩,
  f10 := ⟨Try.f47.name, by decide, Try.func47.trans (congrArg some (by kernel_rfl))⟩,
  f11 := ⟨Try.f48.name, by decide, Try.func48.trans (congrArg some (by kernel_rfl))⟩,
  f12 := ⟨Try.f49.name, by decide, Try.func49.trans (congrArg some (by kernel_rfl))⟩,
  f13 := ⟨Try.f50.name, by decide, Try.func50.trans (congrArg some (by kernel_rfl))⟩,
  f14 := ⟨Try.f51.name, by decide, Try.func51.trans (congrArg some (by kernel_rfl))⟩,
  f15 := ⟨Try.f52.name, by decide, Try.func52.trans (congrArg some (by kernel_rfl))⟩,
  f16 := ⟨Try.f53.name, by decide, Try.func53.trans (congrArg some (by kernel_rfl))⟩,
  f17 := ⟨Try.f54.name, by decide, Try.func54.trans (congrArg some (by kernel_rfl))⟩,
  f18 := ⟨Try.f55.name, by decide, Try.func55.trans (congrArg some (by kernel_rfl))⟩,
  f30 := ⟨Try.f58.name, by decide, Try.func58.trans (congrArg some (by kernel_rfl))⟩,
  f33 := ⟨Try.f61.name, by decide, Try.func61.trans (congrArg some (by kernel_rfl))⟩,
  f34 := ⟨Try.f62.name, by decide, Try.func62.trans (congrArg some (by kernel_rfl))⟩,
  f35 := ⟨Try.f63.name, by decide, Try.func63.trans (congrArg some (by kernel_rfl))⟩,
  f40 := ⟨Try.f64.name, by decide, Try.func64.trans (congrArg some (by kernel_rfl))⟩,
  t0 := Try.underlying0,
  a0 := Try.isAgg0,
  z0 := Try.sizeOf0,
  v0 := Try.zeroValue0,
  t3 := Try.underlying3,
  a3 := Try.isAgg3,
  z3 := Try.sizeOf3,
  v3 := Try.zeroValue3,
  t4 := Try.underlying4,
  a4 := Try.isAgg4,
  z4 := Try.sizeOf4,
  v4 := Try.zeroValue4,
  t5 := Try.underlying5,
  a5 := Try.isAgg5,
  z5 := Try.sizeOf5,
  v5 := Try.zeroValue5,
  t9 := Try.underlying9,
  a9 := Try.isAgg9,
  z9 := Try.sizeOf9,
  v9 := Try.zeroValue9,
  t22 := Try.underlying37,
  a22 := Try.isAgg37,
  z22 := Try.sizeOf37,
  v22 := Try.zeroValue37,
  t23 := Try.underlying37,
  a23 := Try.isAgg37,
  z23 := Try.sizeOf37,
  v23 := Try.zeroValue37,
  t25 := Try.underlying3,
  a25 := Try.isAgg3,
  z25 := Try.sizeOf3,
  v25 := Try.zeroValue3,
  t32 := Try.underlying85,
  a32 := Try.isAgg85,
  z32 := Try.sizeOf85,
  v32 := Try.zeroValue85,
  t35 := Try.underlying87,
  a35 := Try.isAgg87,
  z35 := Try.sizeOf87,
  v35 := Try.zeroValue87,
  t36 := Try.underlying88,
  a36 := Try.isAgg88,
  z36 := Try.sizeOf88,
  v36 := Try.zeroValue88,
  t41 := Try.underlying80,
  a41 := Try.isAgg80,
  z41 := Try.sizeOf80,
  v41 := Try.zeroValue80,
  t44 := Try.underlying95,
  a44 := Try.isAgg95,
  z44 := Try.sizeOf95,
  v44 := Try.zeroValue95,
  t46 := Try.underlying97,
  a46 := Try.isAgg97,
  z46 := Try.sizeOf97,
  v46 := Try.zeroValue97,
  t53 := Try.underlying98,
  a53 := Try.isAgg98,
  z53 := Try.sizeOf98,
  v53 := Try.zeroValue98,
  t57 := Try.underlying102,
  a57 := Try.isAgg102,
  z57 := Try.sizeOf102,
  v57 := Try.zeroValue102,
  t63 := Try.underlying104,
  a63 := Try.isAgg104,
  z63 := Try.sizeOf104,
  v63 := Try.zeroValue104,
  t64 := Try.underlying60,
  a64 := Try.isAgg60,
  z64 := Try.sizeOf60,
  v64 := Try.zeroValue60,
  f8 := Try.func46.trans (congrArg some (by kernel_rfl)),
  f19 := Try.func56.trans (congrArg some (by kernel_rfl)),
  f20 := Try.func57.trans (congrArg some (by kernel_rfl)),
  f31 := Try.func59.trans (congrArg some (by kernel_rfl)),
  f32 := Try.func60.trans (congrArg some (by kernel_rfl)) }

theorem Try.sorts (m : Nat) : AnyZI.SortsIn Try.prog Try.sortedA_ren Fence.wide m :=
  ⟨fun blk off cap ss W hH hblk hsz => callsIn_wide.2 (AnyM.slices_Sort_int Try.sortA blk off cap ss W hH hblk hsz),
   fun p cap W => callsIn_wide.2 (AnyM.slices_Sort_int_none Try.sortA p cap W)⟩
theorem Try.natA : NatOk Try.prog (sortedKeysNat 33 42 3) :=
  sortedKeysNat_ok
    (sortedKeysAt_of (ρk := Try.keysA_ren) { Try.keysA with } Try.sortedA Try.sorts (enters_of Try.func41 (by kernel_rfl) rfl) (enters_of Try.func42 (by kernel_rfl) rfl) Try.underlying3)
    (sortedNilAt_of (ρk := Try.keysA_ren) { Try.keysA with } Try.sortedA Try.sorts (enters_of Try.func41 (by kernel_rfl) rfl) (enters_of Try.func42 (by kernel_rfl) rfl))
def Try.cloneA_ren : Go.Shelf.Ren := ⟨fun | 5 => 39 | 7 => 43 | n => n, fun | 23 => 63 | 25 => 3 | 3 => 3 | 4 => 4 | 20 => 20 | n => n, fun  | n => n⟩
theorem Try.cloneA : SlLaysW.n5 Try.prog Try.cloneA_ren := {
  mixed := by kernel_rfl,
  f5 := ⟨Try.f39.name, by decide, Try.func39.trans (congrArg some (by kernel_rfl))⟩,
  t4 := Try.underlying4,
  a4 := Try.isAgg4,
  z4 := Try.sizeOf4,
  v4 := Try.zeroValue4,
  t20 := Try.underlying20,
  a20 := Try.isAgg20,
  z20 := Try.sizeOf20,
  v20 := Try.zeroValue20,
  t23 := Try.underlying63,
  a23 := Try.isAgg63,
  z23 := Try.sizeOf63,
  v23 := Try.zeroValue63,
  f7 := Try.func43.trans (congrArg some (by kernel_rfl)) }
theorem Try.natC : NatOk Try.prog (cloneNat 39) :=
  cloneNat_ok ⟨fun w b es clock h => AnyW.maps_Clone (ρ := Try.cloneA_ren) Try.cloneA b es clock w h, fun w => AnyW.maps_Clone_nil (ρ := Try.cloneA_ren) Try.cloneA w⟩
theorem Try.natL : NatOk Try.prog (sortedLNat 33 42 3) :=
  sortedLNat_ok
    (sortedKeysAt_of (ρk := Try.keysA_ren) { Try.keysA with } Try.sortedA Try.sorts (enters_of Try.func41 (by kernel_rfl) rfl) (enters_of Try.func42 (by kernel_rfl) rfl) Try.underlying3)
noncomputable def nats : List Nat1 := [sortedKeysNat 33 42 3, sortedLNat 33 42 3, cloneNat 39]
theorem nats_ok : ∀ x ∈ nats, NatOk Try.prog x := by
  intro x hx
  simp only [nats, List.mem_cons, List.not_mem_nil, or_false] at hx
  rcases hx with rfl | rfl | rfl
  · exact Try.natA
  · exact Try.natL
  · exact Try.natC
end Go.Proofs.Ytphcdmgmeiefhaa
