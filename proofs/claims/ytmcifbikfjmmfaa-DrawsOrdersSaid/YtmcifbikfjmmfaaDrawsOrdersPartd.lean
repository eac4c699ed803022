/-
  DrawsOrders: each order of at most five elements comes by some draws, and each by only one of those below the bounds; reckoned by the kernel round by round.
-/
import Derived.Test.YtmcifbikfjmmfaaRows
import Derived.Test.YtmcifbikfjmmfaaSXd
import Derived.WalkKit
import Derived.ProofKit
import Derived.OpenShut
import Derived.ChangeOld
import Derived.Below
import Derived.KernelRfl
import Derived.Lib.SmallJoins
import Derived.Test.YtmcifbikfjmmfaaDrawsOrdersPartc
namespace Go.Proofs.Ytmcifbikfjmmfaa.drawsOrders
open Go.ChangeShapes Go.WideShapes Go.ChangeAt Go.RowKit
open Go.SX
set_option linter.unusedVariables false
set_option linter.unusedSimpArgs false
set_option maxRecDepth 100000
set_option maxRecDepth 100000 in
theorem body5_80 : BodyOk Try.prog ann5 y5 (t5 80 (ents5.take 80) 40).less (t5 80 (ents5.take 80) 40).tmps (t5 80 (ents5.take 80) 40).st :=
  body_of_check good (facts := facts) facts_ok (anns := []) (plainAnns_ok _ rfl) (nats := natl) natl_ok (n := 20000) (by kernel_rfl) rfl
set_option maxRecDepth 100000 in
theorem body5_81 : BodyOk Try.prog ann5 y5 (t5 81 (ents5.take 81) 39).less (t5 81 (ents5.take 81) 39).tmps (t5 81 (ents5.take 81) 39).st :=
  body_of_check good (facts := facts) facts_ok (anns := []) (plainAnns_ok _ rfl) (nats := natl) natl_ok (n := 20000) (by kernel_rfl) rfl
set_option maxRecDepth 100000 in
theorem body5_82 : BodyOk Try.prog ann5 y5 (t5 82 (ents5.take 82) 38).less (t5 82 (ents5.take 82) 38).tmps (t5 82 (ents5.take 82) 38).st :=
  body_of_check good (facts := facts) facts_ok (anns := []) (plainAnns_ok _ rfl) (nats := natl) natl_ok (n := 20000) (by kernel_rfl) rfl
set_option maxRecDepth 100000 in
theorem body5_83 : BodyOk Try.prog ann5 y5 (t5 83 (ents5.take 83) 37).less (t5 83 (ents5.take 83) 37).tmps (t5 83 (ents5.take 83) 37).st :=
  body_of_check good (facts := facts) facts_ok (anns := []) (plainAnns_ok _ rfl) (nats := natl) natl_ok (n := 20000) (by kernel_rfl) rfl
set_option maxRecDepth 100000 in
theorem body5_84 : BodyOk Try.prog ann5 y5 (t5 84 (ents5.take 84) 36).less (t5 84 (ents5.take 84) 36).tmps (t5 84 (ents5.take 84) 36).st :=
  body_of_check good (facts := facts) facts_ok (anns := []) (plainAnns_ok _ rfl) (nats := natl) natl_ok (n := 20000) (by kernel_rfl) rfl
set_option maxRecDepth 100000 in
theorem body5_85 : BodyOk Try.prog ann5 y5 (t5 85 (ents5.take 85) 35).less (t5 85 (ents5.take 85) 35).tmps (t5 85 (ents5.take 85) 35).st :=
  body_of_check good (facts := facts) facts_ok (anns := []) (plainAnns_ok _ rfl) (nats := natl) natl_ok (n := 20000) (by kernel_rfl) rfl
set_option maxRecDepth 100000 in
theorem body5_86 : BodyOk Try.prog ann5 y5 (t5 86 (ents5.take 86) 34).less (t5 86 (ents5.take 86) 34).tmps (t5 86 (ents5.take 86) 34).st :=
  body_of_check good (facts := facts) facts_ok (anns := []) (plainAnns_ok _ rfl) (nats := natl) natl_ok (n := 20000) (by kernel_rfl) rfl
set_option maxRecDepth 100000 in
theorem body5_87 : BodyOk Try.prog ann5 y5 (t5 87 (ents5.take 87) 33).less (t5 87 (ents5.take 87) 33).tmps (t5 87 (ents5.take 87) 33).st :=
  body_of_check good (facts := facts) facts_ok (anns := []) (plainAnns_ok _ rfl) (nats := natl) natl_ok (n := 20000) (by kernel_rfl) rfl
set_option maxRecDepth 100000 in
theorem body5_88 : BodyOk Try.prog ann5 y5 (t5 88 (ents5.take 88) 32).less (t5 88 (ents5.take 88) 32).tmps (t5 88 (ents5.take 88) 32).st :=
  body_of_check good (facts := facts) facts_ok (anns := []) (plainAnns_ok _ rfl) (nats := natl) natl_ok (n := 20000) (by kernel_rfl) rfl
set_option maxRecDepth 100000 in
theorem body5_89 : BodyOk Try.prog ann5 y5 (t5 89 (ents5.take 89) 31).less (t5 89 (ents5.take 89) 31).tmps (t5 89 (ents5.take 89) 31).st :=
  body_of_check good (facts := facts) facts_ok (anns := []) (plainAnns_ok _ rfl) (nats := natl) natl_ok (n := 20000) (by kernel_rfl) rfl
set_option maxRecDepth 100000 in
theorem body5_90 : BodyOk Try.prog ann5 y5 (t5 90 (ents5.take 90) 30).less (t5 90 (ents5.take 90) 30).tmps (t5 90 (ents5.take 90) 30).st :=
  body_of_check good (facts := facts) facts_ok (anns := []) (plainAnns_ok _ rfl) (nats := natl) natl_ok (n := 20000) (by kernel_rfl) rfl
set_option maxRecDepth 100000 in
theorem body5_91 : BodyOk Try.prog ann5 y5 (t5 91 (ents5.take 91) 29).less (t5 91 (ents5.take 91) 29).tmps (t5 91 (ents5.take 91) 29).st :=
  body_of_check good (facts := facts) facts_ok (anns := []) (plainAnns_ok _ rfl) (nats := natl) natl_ok (n := 20000) (by kernel_rfl) rfl
set_option maxRecDepth 100000 in
theorem body5_92 : BodyOk Try.prog ann5 y5 (t5 92 (ents5.take 92) 28).less (t5 92 (ents5.take 92) 28).tmps (t5 92 (ents5.take 92) 28).st :=
  body_of_check good (facts := facts) facts_ok (anns := []) (plainAnns_ok _ rfl) (nats := natl) natl_ok (n := 20000) (by kernel_rfl) rfl
set_option maxRecDepth 100000 in
theorem body5_93 : BodyOk Try.prog ann5 y5 (t5 93 (ents5.take 93) 27).less (t5 93 (ents5.take 93) 27).tmps (t5 93 (ents5.take 93) 27).st :=
  body_of_check good (facts := facts) facts_ok (anns := []) (plainAnns_ok _ rfl) (nats := natl) natl_ok (n := 20000) (by kernel_rfl) rfl
set_option maxRecDepth 100000 in
theorem body5_94 : BodyOk Try.prog ann5 y5 (t5 94 (ents5.take 94) 26).less (t5 94 (ents5.take 94) 26).tmps (t5 94 (ents5.take 94) 26).st :=
  body_of_check good (facts := facts) facts_ok (anns := []) (plainAnns_ok _ rfl) (nats := natl) natl_ok (n := 20000) (by kernel_rfl) rfl
set_option maxRecDepth 100000 in
theorem body5_95 : BodyOk Try.prog ann5 y5 (t5 95 (ents5.take 95) 25).less (t5 95 (ents5.take 95) 25).tmps (t5 95 (ents5.take 95) 25).st :=
  body_of_check good (facts := facts) facts_ok (anns := []) (plainAnns_ok _ rfl) (nats := natl) natl_ok (n := 20000) (by kernel_rfl) rfl
set_option maxRecDepth 100000 in
theorem body5_96 : BodyOk Try.prog ann5 y5 (t5 96 (ents5.take 96) 24).less (t5 96 (ents5.take 96) 24).tmps (t5 96 (ents5.take 96) 24).st :=
  body_of_check good (facts := facts) facts_ok (anns := []) (plainAnns_ok _ rfl) (nats := natl) natl_ok (n := 20000) (by kernel_rfl) rfl
set_option maxRecDepth 100000 in
theorem body5_97 : BodyOk Try.prog ann5 y5 (t5 97 (ents5.take 97) 23).less (t5 97 (ents5.take 97) 23).tmps (t5 97 (ents5.take 97) 23).st :=
  body_of_check good (facts := facts) facts_ok (anns := []) (plainAnns_ok _ rfl) (nats := natl) natl_ok (n := 20000) (by kernel_rfl) rfl
set_option maxRecDepth 100000 in
theorem body5_98 : BodyOk Try.prog ann5 y5 (t5 98 (ents5.take 98) 22).less (t5 98 (ents5.take 98) 22).tmps (t5 98 (ents5.take 98) 22).st :=
  body_of_check good (facts := facts) facts_ok (anns := []) (plainAnns_ok _ rfl) (nats := natl) natl_ok (n := 20000) (by kernel_rfl) rfl
set_option maxRecDepth 100000 in
theorem body5_99 : BodyOk Try.prog ann5 y5 (t5 99 (ents5.take 99) 21).less (t5 99 (ents5.take 99) 21).tmps (t5 99 (ents5.take 99) 21).st :=
  body_of_check good (facts := facts) facts_ok (anns := []) (plainAnns_ok _ rfl) (nats := natl) natl_ok (n := 20000) (by kernel_rfl) rfl
set_option maxRecDepth 100000 in
theorem body5_100 : BodyOk Try.prog ann5 y5 (t5 100 (ents5.take 100) 20).less (t5 100 (ents5.take 100) 20).tmps (t5 100 (ents5.take 100) 20).st :=
  body_of_check good (facts := facts) facts_ok (anns := []) (plainAnns_ok _ rfl) (nats := natl) natl_ok (n := 20000) (by kernel_rfl) rfl
set_option maxRecDepth 100000 in
theorem body5_101 : BodyOk Try.prog ann5 y5 (t5 101 (ents5.take 101) 19).less (t5 101 (ents5.take 101) 19).tmps (t5 101 (ents5.take 101) 19).st :=
  body_of_check good (facts := facts) facts_ok (anns := []) (plainAnns_ok _ rfl) (nats := natl) natl_ok (n := 20000) (by kernel_rfl) rfl
set_option maxRecDepth 100000 in
theorem body5_102 : BodyOk Try.prog ann5 y5 (t5 102 (ents5.take 102) 18).less (t5 102 (ents5.take 102) 18).tmps (t5 102 (ents5.take 102) 18).st :=
  body_of_check good (facts := facts) facts_ok (anns := []) (plainAnns_ok _ rfl) (nats := natl) natl_ok (n := 20000) (by kernel_rfl) rfl
set_option maxRecDepth 100000 in
theorem body5_103 : BodyOk Try.prog ann5 y5 (t5 103 (ents5.take 103) 17).less (t5 103 (ents5.take 103) 17).tmps (t5 103 (ents5.take 103) 17).st :=
  body_of_check good (facts := facts) facts_ok (anns := []) (plainAnns_ok _ rfl) (nats := natl) natl_ok (n := 20000) (by kernel_rfl) rfl
set_option maxRecDepth 100000 in
theorem body5_104 : BodyOk Try.prog ann5 y5 (t5 104 (ents5.take 104) 16).less (t5 104 (ents5.take 104) 16).tmps (t5 104 (ents5.take 104) 16).st :=
  body_of_check good (facts := facts) facts_ok (anns := []) (plainAnns_ok _ rfl) (nats := natl) natl_ok (n := 20000) (by kernel_rfl) rfl
set_option maxRecDepth 100000 in
theorem body5_105 : BodyOk Try.prog ann5 y5 (t5 105 (ents5.take 105) 15).less (t5 105 (ents5.take 105) 15).tmps (t5 105 (ents5.take 105) 15).st :=
  body_of_check good (facts := facts) facts_ok (anns := []) (plainAnns_ok _ rfl) (nats := natl) natl_ok (n := 20000) (by kernel_rfl) rfl
set_option maxRecDepth 100000 in
theorem body5_106 : BodyOk Try.prog ann5 y5 (t5 106 (ents5.take 106) 14).less (t5 106 (ents5.take 106) 14).tmps (t5 106 (ents5.take 106) 14).st :=
  body_of_check good (facts := facts) facts_ok (anns := []) (plainAnns_ok _ rfl) (nats := natl) natl_ok (n := 20000) (by kernel_rfl) rfl
set_option maxRecDepth 100000 in
theorem body5_107 : BodyOk Try.prog ann5 y5 (t5 107 (ents5.take 107) 13).less (t5 107 (ents5.take 107) 13).tmps (t5 107 (ents5.take 107) 13).st :=
  body_of_check good (facts := facts) facts_ok (anns := []) (plainAnns_ok _ rfl) (nats := natl) natl_ok (n := 20000) (by kernel_rfl) rfl
set_option maxRecDepth 100000 in
theorem body5_108 : BodyOk Try.prog ann5 y5 (t5 108 (ents5.take 108) 12).less (t5 108 (ents5.take 108) 12).tmps (t5 108 (ents5.take 108) 12).st :=
  body_of_check good (facts := facts) facts_ok (anns := []) (plainAnns_ok _ rfl) (nats := natl) natl_ok (n := 20000) (by kernel_rfl) rfl
set_option maxRecDepth 100000 in
theorem body5_109 : BodyOk Try.prog ann5 y5 (t5 109 (ents5.take 109) 11).less (t5 109 (ents5.take 109) 11).tmps (t5 109 (ents5.take 109) 11).st :=
  body_of_check good (facts := facts) facts_ok (anns := []) (plainAnns_ok _ rfl) (nats := natl) natl_ok (n := 20000) (by kernel_rfl) rfl
set_option maxRecDepth 100000 in
theorem body5_110 : BodyOk Try.prog ann5 y5 (t5 110 (ents5.take 110) 10).less (t5 110 (ents5.take 110) 10).tmps (t5 110 (ents5.take 110) 10).st :=
  body_of_check good (facts := facts) facts_ok (anns := []) (plainAnns_ok _ rfl) (nats := natl) natl_ok (n := 20000) (by kernel_rfl) rfl
set_option maxRecDepth 100000 in
theorem body5_111 : BodyOk Try.prog ann5 y5 (t5 111 (ents5.take 111) 9).less (t5 111 (ents5.take 111) 9).tmps (t5 111 (ents5.take 111) 9).st :=
  body_of_check good (facts := facts) facts_ok (anns := []) (plainAnns_ok _ rfl) (nats := natl) natl_ok (n := 20000) (by kernel_rfl) rfl
set_option maxRecDepth 100000 in
theorem body5_112 : BodyOk Try.prog ann5 y5 (t5 112 (ents5.take 112) 8).less (t5 112 (ents5.take 112) 8).tmps (t5 112 (ents5.take 112) 8).st :=
  body_of_check good (facts := facts) facts_ok (anns := []) (plainAnns_ok _ rfl) (nats := natl) natl_ok (n := 20000) (by kernel_rfl) rfl
set_option maxRecDepth 100000 in
theorem body5_113 : BodyOk Try.prog ann5 y5 (t5 113 (ents5.take 113) 7).less (t5 113 (ents5.take 113) 7).tmps (t5 113 (ents5.take 113) 7).st :=
  body_of_check good (facts := facts) facts_ok (anns := []) (plainAnns_ok _ rfl) (nats := natl) natl_ok (n := 20000) (by kernel_rfl) rfl
set_option maxRecDepth 100000 in
theorem body5_114 : BodyOk Try.prog ann5 y5 (t5 114 (ents5.take 114) 6).less (t5 114 (ents5.take 114) 6).tmps (t5 114 (ents5.take 114) 6).st :=
  body_of_check good (facts := facts) facts_ok (anns := []) (plainAnns_ok _ rfl) (nats := natl) natl_ok (n := 20000) (by kernel_rfl) rfl
set_option maxRecDepth 100000 in
theorem body5_115 : BodyOk Try.prog ann5 y5 (t5 115 (ents5.take 115) 5).less (t5 115 (ents5.take 115) 5).tmps (t5 115 (ents5.take 115) 5).st :=
  body_of_check good (facts := facts) facts_ok (anns := []) (plainAnns_ok _ rfl) (nats := natl) natl_ok (n := 20000) (by kernel_rfl) rfl
set_option maxRecDepth 100000 in
theorem body5_116 : BodyOk Try.prog ann5 y5 (t5 116 (ents5.take 116) 4).less (t5 116 (ents5.take 116) 4).tmps (t5 116 (ents5.take 116) 4).st :=
  body_of_check good (facts := facts) facts_ok (anns := []) (plainAnns_ok _ rfl) (nats := natl) natl_ok (n := 20000) (by kernel_rfl) rfl
set_option maxRecDepth 100000 in
theorem body5_117 : BodyOk Try.prog ann5 y5 (t5 117 (ents5.take 117) 3).less (t5 117 (ents5.take 117) 3).tmps (t5 117 (ents5.take 117) 3).st :=
  body_of_check good (facts := facts) facts_ok (anns := []) (plainAnns_ok _ rfl) (nats := natl) natl_ok (n := 20000) (by kernel_rfl) rfl
set_option maxRecDepth 100000 in
theorem body5_118 : BodyOk Try.prog ann5 y5 (t5 118 (ents5.take 118) 2).less (t5 118 (ents5.take 118) 2).tmps (t5 118 (ents5.take 118) 2).st :=
  body_of_check good (facts := facts) facts_ok (anns := []) (plainAnns_ok _ rfl) (nats := natl) natl_ok (n := 20000) (by kernel_rfl) rfl
set_option maxRecDepth 100000 in
theorem body5_119 : BodyOk Try.prog ann5 y5 (t5 119 (ents5.take 119) 1).less (t5 119 (ents5.take 119) 1).tmps (t5 119 (ents5.take 119) 1).st :=
  body_of_check good (facts := facts) facts_ok (anns := []) (plainAnns_ok _ rfl) (nats := natl) natl_ok (n := 20000) (by kernel_rfl) rfl
set_option maxRecDepth 100000 in
theorem body5_120 : BodyOk Try.prog ann5 y5 (t5 120 (ents5.take 120) 0).less (t5 120 (ents5.take 120) 0).tmps (t5 120 (ents5.take 120) 0).st :=
  body_of_check good (facts := facts) facts_ok (anns := []) (plainAnns_ok _ rfl) (nats := natl) natl_ok (n := 20000) (by kernel_rfl) rfl
theorem mem5 {p : Tmpl → Prop} (h : ∀ n, n ≤ 120 → p (t5 n (ents5.take n) (.ofNat (120 - n)))) : ∀ τ ∈ ts5, p τ := by
  have key : ∀ (k n : Nat), n + k = 121 → ∀ τ ∈ tsGo5 k n, p τ := by
    intro k
    induction k with
    | zero => intro n _ τ hτ; cases hτ
    | succ k ih =>
      intro n hn τ hτ
      rcases List.mem_cons.1 hτ with rfl | hτ
      · have := h n (by omega)
        rwa [show 120 - n = k from by omega] at this
      · exact ih (n + 1) (by omega) τ hτ
  exact key 121 0 rfl
theorem loop5 : LoopOk Try.prog ann5 := loop_of_bodies rfl rfl (mem5 (fun n hn => by
  match n, hn with
  | 0, _ => exact body5_0
  | 1, _ => exact body5_1
  | 2, _ => exact body5_2
  | 3, _ => exact body5_3
  | 4, _ => exact body5_4
  | 5, _ => exact body5_5
  | 6, _ => exact body5_6
  | 7, _ => exact body5_7
  | 8, _ => exact body5_8
  | 9, _ => exact body5_9
  | 10, _ => exact body5_10
  | 11, _ => exact body5_11
  | 12, _ => exact body5_12
  | 13, _ => exact body5_13
  | 14, _ => exact body5_14
  | 15, _ => exact body5_15
  | 16, _ => exact body5_16
  | 17, _ => exact body5_17
  | 18, _ => exact body5_18
  | 19, _ => exact body5_19
  | 20, _ => exact body5_20
  | 21, _ => exact body5_21
  | 22, _ => exact body5_22
  | 23, _ => exact body5_23
  | 24, _ => exact body5_24
  | 25, _ => exact body5_25
  | 26, _ => exact body5_26
  | 27, _ => exact body5_27
  | 28, _ => exact body5_28
  | 29, _ => exact body5_29
  | 30, _ => exact body5_30
  | 31, _ => exact body5_31
  | 32, _ => exact body5_32
  | 33, _ => exact body5_33
  | 34, _ => exact body5_34
  | 35, _ => exact body5_35
  | 36, _ => exact body5_36
  | 37, _ => exact body5_37
  | 38, _ => exact body5_38
  | 39, _ => exact body5_39
  | 40, _ => exact body5_40
  | 41, _ => exact body5_41
  | 42, _ => exact body5_42
  | 43, _ => exact body5_43
  | 44, _ => exact body5_44
  | 45, _ => exact body5_45
  | 46, _ => exact body5_46
  | 47, _ => exact body5_47
  | 48, _ => exact body5_48
  | 49, _ => exact body5_49
  | 50, _ => exact body5_50
  | 51, _ => exact body5_51
  | 52, _ => exact body5_52
  | 53, _ => exact body5_53
  | 54, _ => exact body5_54
  | 55, _ => exact body5_55
  | 56, _ => exact body5_56
  | 57, _ => exact body5_57
  | 58, _ => exact body5_58
  | 59, _ => exact body5_59
  | 60, _ => exact body5_60
  | 61, _ => exact body5_61
  | 62, _ => exact body5_62
  | 63, _ => exact body5_63
  | 64, _ => exact body5_64
  | 65, _ => exact body5_65
  | 66, _ => exact body5_66
  | 67, _ => exact body5_67
  | 68, _ => exact body5_68
  | 69, _ => exact body5_69
  | 70, _ => exact body5_70
  | 71, _ => exact body5_71
  | 72, _ => exact body5_72
  | 73, _ => exact body5_73
  | 74, _ => exact body5_74
  | 75, _ => exact body5_75
  | 76, _ => exact body5_76
  | 77, _ => exact body5_77
  | 78, _ => exact body5_78
  | 79, _ => exact body5_79
  | 80, _ => exact body5_80
  | 81, _ => exact body5_81
  | 82, _ => exact body5_82
  | 83, _ => exact body5_83
  | 84, _ => exact body5_84
  | 85, _ => exact body5_85
  | 86, _ => exact body5_86
  | 87, _ => exact body5_87
  | 88, _ => exact body5_88
  | 89, _ => exact body5_89
  | 90, _ => exact body5_90
  | 91, _ => exact body5_91
  | 92, _ => exact body5_92
  | 93, _ => exact body5_93
  | 94, _ => exact body5_94
  | 95, _ => exact body5_95
  | 96, _ => exact body5_96
  | 97, _ => exact body5_97
  | 98, _ => exact body5_98
  | 99, _ => exact body5_99
  | 100, _ => exact body5_100
  | 101, _ => exact body5_101
  | 102, _ => exact body5_102
  | 103, _ => exact body5_103
  | 104, _ => exact body5_104
  | 105, _ => exact body5_105
  | 106, _ => exact body5_106
  | 107, _ => exact body5_107
  | 108, _ => exact body5_108
  | 109, _ => exact body5_109
  | 110, _ => exact body5_110
  | 111, _ => exact body5_111
  | 112, _ => exact body5_112
  | 113, _ => exact body5_113
  | 114, _ => exact body5_114
  | 115, _ => exact body5_115
  | 116, _ => exact body5_116
  | 117, _ => exact body5_117
  | 118, _ => exact body5_118
  | 119, _ => exact body5_119
  | 120, _ => exact body5_120
  | n + 121, hn => exact absurd hn (by omega)))

end Go.Proofs.Ytmcifbikfjmmfaa.drawsOrders
