/-
  Functions of Go's library in this program: slices.AppendSeq over slices.Values, slices.Sort, maps.Clone.
-/
import Derived.Test.YtfifefjbckmfeaaVals
import Derived.Test.YtfifefjbckmfeaaSXe
import Derived.Shelf.SortM.Plain
import Derived.Shelf.SlMaps.Clone
import Derived.Shelf.SortM.SortNone
import Derived.KernelRfl
namespace Go.Proofs.Ytfifefjbckmfeaa
open Go.RowKit Go.Maps Go.Sort Go.Shelf Go.Proofs Go.SX
def Try.sortA_ren : Go.Shelf.Ren := ⟨fun | 5 => 39 | 8 => 44 | 7 => 43 | 19 => 54 | 20 => 55 | 10 => 45 | 11 => 46 | 12 => 47 | 13 => 48 | 14 => 49 | 15 => 50 | 16 => 51 | 17 => 52 | 18 => 53 | 30 => 56 | 31 => 57 | 32 => 58 | 33 => 59 | 34 => 60 | 35 => 61 | 40 => 62 | n => n, fun | 23 => 35 | 25 => 3 | 3 => 3 | 32 => 73 | 22 => 35 | 0 => 0 | 44 => 82 | 46 => 84 | 4 => 4 | 36 => 76 | 35 => 75 | 41 => 67 | 5 => 5 | 9 => 9 | 53 => 85 | 57 => 89 | 63 => 91 | 64 => 92 | n => n, fun  | n => n⟩
theorem Try.sortA : SlLaysM.n5 Try.prog Try.sortA_ren := {
  mixed := by kernel_rfl,
  f5 := ⟨Try.f39.name, by decide, Try.func39.trans (congrArg some (by kernel_rfl))⟩,
  f7 := ⟨Try.f43.name, by decide, Try.func43.trans (congrArg some (by kernel_rfl))⟩,
  f10 := ⟨Try.f45.name, by decide, Try.func45.trans (congrArg some (by kernel_rfl))⟩,
  f11 := ⟨Try.f46.name, by decide, Try.func46.trans (congrArg some (by kernel_rfl))⟩,
  f12 := ⟨Try.f47.name, by decide, Try.func47.trans (congrArg some (by kernel_rfl))⟩,
  f13 := ⟨Try.f48.name, by decide, Try.func48.trans (congrArg some (by kernel_rfl))⟩,
  f14 := ⟨Try.f49.name, by decide, Try.func49.trans (congrArg some (by kernel_rfl))⟩,
  f15 := ⟨Try.f50.name, by decide, Try.func50.trans (congrArg some (by kernel_rfl))⟩,
  f16 := ⟨Try.f51.name, by decide, Try.func51.trans (congrArg some (by kernel_rfl))⟩,
  f17 := ⟨Try.f52.name, by decide, Try.func52.trans (congrArg some (by kernel_rfl))⟩,
  f18 := ⟨Try.f53.name, by decide, Try.func53.trans (congrArg some (by kernel_rfl))⟩,
  f30 := ⟨Try.f56.name, by decide, Try.func56.trans (congrArg some (by kernel_rfl))⟩,
  f33 := ⟨Try.f59.name, by decide, Try.func59.trans (congrArg some (by kernel_rfl))⟩,
  f34 := ⟨Try.f60.name, by decide, Try.func60.trans (congrArg some (by kernel_rfl))⟩,
  f35 := ⟨Try.f61.name, by decide, Try.func61.trans (congrArg some (by kernel_rfl))⟩,
  f40 := ⟨Try.f62.name, by decide, Try.func62.trans (congrArg some (by kernel_rfl))⟩,
  t0 := Try.underlying0,
  a0 := Try.isAgg0,
  z0 := Try.sizeOf0,
  v0 := Try.zeroValue0,
  t3 := Try.underlying3,
  a3 := Try.isAgg3,
  z3 := Try.sizeOf3,
  v3 := Try.zeroValue3,
  t4 := Try.underlying4,
  a4 := Try.isAgg4,
  z4 := Try.sizeOf4,
  v4 := Try.zeroValue4,
  t5 := Try.underlying5,
  a5 := Try.isAgg5,
  z5 := Try.sizeOf5,
  v5 := Try.zeroValue5,
  t9 := Try.underlying9,
  a9 := Try.isAgg9,
  z9 := Try.sizeOf9,
  v9 := Try.zeroValue9,
  t22 := Try.underlying35,
  a22 := Try.isAgg35,
  z22 := Try.sizeOf35,
  v22 := Try.zeroValue35,
  t23 := Try.underlying35,
  a23 := Try.isAgg35,
  z23 := Try.sizeOf35,
  v23 := Try.zeroValue35,
  t25 := Try.underlying3,
  a25 := Try.isAgg3,
  z25 := Try.sizeOf3,
  v25 := Try.zeroValue3,
  t32 := Try.underlying73,
  a32 := Try.isAgg73,
  z32 := Try.sizeOf73,
  v32 := Try.zeroValue73,
  t35 := Try.underlying75,
  a35 := Try.isAgg75,
  z35 := Try.sizeOf75,
  v35 := Try.zeroValue75,
  t36 := Try.underlying76,
  a36 := Try.isAgg76,
  z36 := Try.sizeOf76,
  v36 := Try.zeroValue76,
  t41 := Try.underlying67,
  a41 := Try.isAgg67,
  z41 := Try.sizeOf67,
  v41 := Try.zeroValue67,
  t44 := Try.underlying82,
  a44 := Try.isAgg82,
  z44 := Try.sizeOf82,
  v44 := Try.zeroValue82,
  t46 := Try.underlying84,
  a46 := Try.isAgg84,
  z46 := Try.sizeOf84,
  v46 := Try.zeroValue84,
  t53 := Try.underlying85,
  a53 := Try.isAgg85,
  z53 := Try.sizeOf85,
  v53 := Try.zeroValue85,
  t57 := Try.underlying89,
  a57 := Try.isAgg89,
  z57 := Try.sizeOf89,
  v57 := Try.zeroValue89,
  t63 := Try.underlying91,
  a63 := Try.isAgg91,
  z63 := Try.sizeOf91,
  v63 := Try.zeroValue91,
  t64 := Try.underlying92,
  a64 := Try.isAgg92,
  z64 := Try.sizeOf92,
  v64 := Try.zeroValue92,
  f8 := Try.func44.trans (congrArg some (by kernel_rfl)),
  f19 := Try.func54.trans (congrArg some (by kernel_rfl)),
  f20 := Try.func55.trans (congrArg some (by kernel_rfl)),
  f31 := Try.func57.trans (congrArg some (by kernel_rfl)),
  f32 := Try.func58.trans (congrArg some (by kernel_rfl)) }
def Try.cloneA_ren : Go.Shelf.Ren := ⟨fun | 5 => 36 | 7 => 41 | n => n, fun | 23 => 51 | 25 => 3 | 3 => 3 | 4 => 4 | 20 => 20 | n => n, fun  | n => n⟩
theorem Try.cloneA : SlLaysW.n5 Try.prog Try.cloneA_ren := {
  mixed := by kernel_rfl,
  f5 := ⟨Try.f36.name, by decide, Try.func36.trans (congrArg some (by kernel_rfl))⟩,
  t4 := Try.underlying4,
  a4 := Try.isAgg4,
  z4 := Try.sizeOf4,
  v4 := Try.zeroValue4,
  t20 := Try.underlying20,
  a20 := Try.isAgg20,
  z20 := Try.sizeOf20,
  v20 := Try.zeroValue20,
  t23 := Try.underlying51,
  a23 := Try.isAgg51,
  z23 := Try.sizeOf51,
  v23 := Try.zeroValue51,
  f7 := Try.func41.trans (congrArg some (by kernel_rfl)) }

theorem Try.sortOk : SortAt Try.prog 39 :=
  ⟨fun blk off cap zs w hH hblk hsz => AnyM.slices_Sort_int Try.sortA blk off cap zs w hH hblk hsz, fun p cap w => AnyM.slices_Sort_int_none Try.sortA p cap w⟩
theorem Try.valuesOk : ValuesAt Try.prog 42 40 3 := by
  intro w Bs sv zs hlen hBs hc hI
  refine (callsIn_wide (n := 5)).1 ?_
  refine appendSeq_in Fence.wide 5 trivial trivial rfl (by omega) Bs sv zs (Nat.le_trans hlen (by decide)) (by omega) w hBs hc ?_
  rcases hI with h | h
  · exact .inl h
  · exact .inr h
noncomputable def nats : List Nat1 := [appendSeqNat 42 40 3, sortNat 39, cloneNat 36]
theorem nats_ok : ∀ x ∈ nats, NatOk Try.prog x := by
  intro x hx
  simp only [nats, List.mem_cons, List.not_mem_nil, or_false] at hx
  rcases hx with rfl | rfl | rfl
  · exact appendSeqNat_ok Try.valuesOk
  · exact sortNat_ok Try.sortOk
  · exact cloneNat_ok ⟨fun w b es clock h => AnyW.maps_Clone (ρ := Try.cloneA_ren) Try.cloneA b es clock w h, fun w => AnyW.maps_Clone_nil (ρ := Try.cloneA_ren) Try.cloneA w⟩
end Go.Proofs.Ytfifefjbckmfeaa
