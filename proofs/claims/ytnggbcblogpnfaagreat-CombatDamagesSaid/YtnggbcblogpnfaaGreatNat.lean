/-
  Functions of Go's library in this program: slices.AppendSeq E3 slices.Values, slices.Sort.
-/
import Derived.Test.YtnggbcblogpnfaaGreatVals
import Derived.Test.YtnggbcblogpnfaaGreatTheory
import Derived.Shelf.SortM.Plain
import Derived.Shelf.SortM.SortNone
import Derived.KernelRfl
namespace Go.Proofs.YtnggbcblogpnfaaGreat
open Go.RowKit Go.Maps Go.Sort Go.Shelf Go.Proofs Go.SX
def Tryz.sortA_ren:Go.Shelf.Ren:=⟨fun | 5=>88 | 8=>118 | 7=>117 | 19=>133 | 20=>134 | 10=>124 | 11=>125 | 12=>126 | 13=>127 | 14=>128 | 15=>129 | 16=>130 | 17=>131 | 18=>132 | 30=>135 | 31=>136 | 32=>137 | 33=>138 | 34=>139 | 35=>140 | 40=>141 | n=>n,fun | 23=>26 | 25=>3 | 3=>3 | 32=>163 | 22=>26 | 0=>0 | 44=>176 | 46=>178 | 4=>4 | 36=>170 | 35=>169 | 41=>154 | 5=>5 | 9=>9 | 53=>179 | 57=>183 | 63=>185 | 64=>142 | n=>n,fun | n=>n⟩
theorem Tryz.sortA:SlLaysM.n5 Tryz.prog Tryz.sortA_ren:= {
  mixed:=by kernel_rfl,
  f5:=⟨Tryz.f88.name,by decide,Tryz.func88.trans (congrArg some (by kernel_rfl))⟩,
  f7:=⟨Tryz.f117.name,by decide,Tryz.func117.trans (congrArg some (by kernel_rfl))⟩,
  f10:=⟨Tryz.f124.name,by decide,Tryz.func124.trans (congrArg some (by kernel_rfl))⟩,
  f11:=⟨Tryz.f125.name,by decide,Tryz.func125.trans (congrArg some (by kernel_rfl))⟩,
  f12:=⟨Tryz.f126.name,by decide,Tryz.func126.trans (congrArg some (by kernel_rfl))⟩,
  f13:=⟨Tryz.f127.name,by decide,Tryz.func127.trans (congrArg some (by kernel_rfl))⟩,
  f14:=⟨Tryz.f128.name,by decide,Tryz.func128.trans (congrArg some (by kernel_rfl))⟩,
  f15:=⟨Tryz.f129.name,by decide,Tryz.func129.trans (congrArg some (by kernel_rfl))⟩,
  f16:=⟨Tryz.f130.name,by decide,Tryz.func130.trans (congrArg some (by kernel_rfl))⟩,
  f17:=⟨Tryz.f131.name,by decide,Tryz.func131.trans (congrArg some (by kernel_rfl))⟩,
  f18:=⟨Tryz.f132.name,by decide,Tryz.func132.trans (congrArg some (by kernel_rfl))⟩,
  f30:=⟨Tryz.f135.name,by decide,Tryz.func135.trans (congrArg some (by kernel_rfl))⟩,
  f33:=⟨Tryz.f138.name,by decide,Tryz.func138.trans (congrArg some (by kernel_rfl))⟩,
  f34:=⟨Tryz.f139.name,by decide,Tryz.func139.trans (congrArg some (by kernel_rfl))⟩,
  f35:=⟨Tryz.f140.name,by decide,Tryz.func140.trans (congrArg some (by kernel_rfl))⟩,
  f40:=⟨Tryz.f141.name,by decide,Tryz.func141.trans (congrArg some (by kernel_rfl))⟩,
  t0:=Tryz.underlying0,
  a0:=Tryz.isAgg0,
  z0:=Tryz.sizeOf0,
  v0:=Tryz.zeroValue0,
  t3:=Tryz.underlying3,
  a3:=Tryz.isAgg3,
  z3:=Tryz.sizeOf3,
  v3:=Tryz.zeroValue3,
  t4:=Tryz.underlying4,
  a4:=Tryz.isAgg4,
  z4:=Tryz.sizeOf4,
  v4:=Tryz.zeroValue4,
  t5:=Tryz.underlying5,
  a5:=Tryz.isAgg5,
  z5:=Tryz.sizeOf5,
  v5:=Tryz.zeroValue5,
  t9:=Tryz.underlying9,
  a9:=Tryz.isAgg9,
  z9:=Tryz.sizeOf9,
  v9:=Tryz.zeroValue9,
  t22:=Tryz.underlying26,
  a22:=Tryz.isAgg26,
  z22:=Tryz.sizeOf26,
  v22:=Tryz.zeroValue26,
  t23:=Tryz.underlying26,
  a23:=Tryz.isAgg26,
  z23:=Tryz.sizeOf26,
  v23:=Tryz.zeroValue26,
  t25:=Tryz.underlying3,
  a25:=Tryz.isAgg3,
  z25:=Tryz.sizeOf3,
  v25:=Tryz.zeroValue3,
  t32:=Tryz.underlying163,
  a32:=Tryz.isAgg163,
  z32:=Tryz.sizeOf163,
  v32:=Tryz.zeroValue163,
  t35:=Tryz.underlying169,
  a35:=Tryz.isAgg169,
  z35:=Tryz.sizeOf169,
  v35:=Tryz.zeroValue169,
  t36:=Tryz.underlying170,
  a36:=Tryz.isAgg170,
  z36:=Tryz.sizeOf170,
  v36:=Tryz.zeroValue170,
  t41:=Tryz.underlying154,
  a41:=Tryz.isAgg154,
  z41:=Tryz.sizeOf154,
  v41:=Tryz.zeroValue154,
  t44:=Tryz.underlying176,
  a44:=Tryz.isAgg176,
  z44:=Tryz.sizeOf176,
  v44:=Tryz.zeroValue176,
  t46:=Tryz.underlying178,
  a46:=Tryz.isAgg178,
  z46:=Tryz.sizeOf178,
  v46:=Tryz.zeroValue178,
  t53:=Tryz.underlying179,
  a53:=Tryz.isAgg179,
  z53:=Tryz.sizeOf179,
  v53:=Tryz.zeroValue179,
  t57:=Tryz.underlying183,
  a57:=Tryz.isAgg183,
  z57:=Tryz.sizeOf183,
  v57:=Tryz.zeroValue183,
  t63:=Tryz.underlying185,
  a63:=Tryz.isAgg185,
  z63:=Tryz.sizeOf185,
  v63:=Tryz.zeroValue185,
  t64:=Tryz.underlying142,
  a64:=Tryz.isAgg142,
  z64:=Tryz.sizeOf142,
  v64:=Tryz.zeroValue142,
  f8:=Tryz.func118.trans (congrArg some (by kernel_rfl)),
  f19:=Tryz.func133.trans (congrArg some (by kernel_rfl)),
  f20:=Tryz.func134.trans (congrArg some (by kernel_rfl)),
  f31:=Tryz.func136.trans (congrArg some (by kernel_rfl)),
  f32:=Tryz.func137.trans (congrArg some (by kernel_rfl))}

theorem Tryz.sortOk:BB Tryz.prog 88:=
  ⟨fun blk off cap zs w hH hblk hsz=>AnyM.slices_Sort_int Tryz.sortA blk off cap zs w hH hblk hsz,fun p cap w=>AnyM.slices_Sort_int_none Tryz.sortA p cap w⟩
theorem Tryz.valuesOk:VG Tryz.prog 116 89 3:=by
  intro w Bs sv zs hlen hBs hc hI
  refine(callsIn_wide (n:=5)).1 ?_
  refine appendSeq_in Fence.wide 5 trivial trivial rfl (by omega) Bs sv zs (Nat.le_trans hlen (by decide)) (by omega) w hBs hc ?_;rcases hI with h|h
  · exact .inl h
  · exact .inr h
noncomputable def nats:List Nat1:=[Yy 116 89 3,aeP 88]
theorem nats_ok:∀x∈nats,aV Tryz.prog x:=by
  intro x hx;simp only[nats,List.mem_cons,List.not_mem_nil,or_false]at hx;rcases hx with rfl|rfl
  · exact aBz Tryz.valuesOk
  · exact aGb Tryz.sortOk
end Go.Proofs.YtnggbcblogpnfaaGreat
