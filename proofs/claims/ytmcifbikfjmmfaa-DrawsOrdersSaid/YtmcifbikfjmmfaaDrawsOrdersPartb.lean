/-
  DrawsOrders: each order of at most five elements comes by some draws, and each by only one of those below the bounds; reckoned by the kernel round by round.
-/
import Derived.Test.YtmcifbikfjmmfaaRows
import Derived.Test.YtmcifbikfjmmfaaSXd
import Derived.WalkKit
import Derived.ProofKit
import Derived.OpenShut
import Derived.ChangeOld
import Derived.Below
import Derived.KernelRfl
import Derived.Lib.SmallJoins
import Derived.Test.YtmcifbikfjmmfaaDrawsOrdersParta
namespace Go.Proofs.Ytmcifbikfjmmfaa.drawsOrders
open Go.ChangeShapes Go.WideShapes Go.ChangeAt Go.RowKit
open Go.SX
set_option linter.unusedVariables false
set_option linter.unusedSimpArgs false
set_option maxRecDepth 100000

noncomputable def ents5 : List Ent := [ent 0 1 2 3 4 0, ent 1 4 2 3 0 1, ent 2 1 4 3 0 2, ent 3 1 2 4 0 3, ent 4 1 2 3 0 4, ent 5 3 2 4 1 0, ent 6 3 2 0 4 1, ent 7 3 4 0 1 2, ent 8 4 2 0 1 3, ent 9 3 2 0 1 4, ent 10 1 3 4 2 0, ent 11 4 3 0 2 1, ent 12 1 3 0 4 2, ent 13 1 4 0 2 3, ent 14 1 3 0 2 4, ent 15 1 2 4 3 0, ent 16 4 2 0 3 1, ent 17 1 4 0 3 2, ent 18 1 2 0 4 3, ent 19 1 2 0 3 4, ent 20 2 3 1 4 0, ent 21 2 3 4 0 1, ent 22 4 3 1 0 2, ent 23 2 4 1 0 3, ent 24 2 3 1 0 4, ent 25 2 4 3 1 0, ent 26 2 0 3 4 1, ent 27 4 0 3 1 2, ent 28 2 0 4 1 3, ent 29 2 0 3 1 4, ent 30 3 4 1 2 0, ent 31 3 0 4 2 1, ent 32 3 0 1 4 2, ent 33 4 0 1 2 3, ent 34 3 0 1 2 4, ent 35 2 4 1 3 0, ent 36 2 0 4 3 1, ent 37 4 0 1 3 2, ent 38 2 0 1 4 3, ent 39 2 0 1 3 4, ent 40 1 3 2 4 0, ent 41 4 3 2 0 1, ent 42 1 3 4 0 2, ent 43 1 4 2 0 3, ent 44 1 3 2 0 4, ent 45 3 4 2 1 0, ent 46 3 0 2 4 1, ent 47 3 0 4 1 2, ent 48 4 0 2 1 3, ent 49 3 0 2 1 4, ent 50 1 4 3 2 0, ent 51 4 0 3 2 1, ent 52 1 0 3 4 2, ent 53 1 0 4 2 3, ent 54 1 0 3 2 4, ent 55 1 4 2 3 0, ent 56 4 0 2 3 1, ent 57 1 0 4 3 2, ent 58 1 0 2 4 3, ent 59 1 0 2 3 4, ent 60 2 1 3 4 0, ent 61 2 4 3 0 1, ent 62 4 1 3 0 2, ent 63 2 1 4 0 3, ent 64 2 1 3 0 4, ent 65 2 3 4 1 0, ent 66 2 3 0 4 1, ent 67 4 3 0 1 2, ent 68 2 4 0 1 3, ent 69 2 3 0 1 4, ent 70 3 1 4 2 0, ent 71 3 4 0 2 1, ent 72 3 1 0 4 2, ent 73 4 1 0 2 3, ent 74 3 1 0 2 4, ent 75 2 1 4 3 0, ent 76 2 4 0 3 1, ent 77 4 1 0 3 2, ent 78 2 1 0 4 3, ent 79 2 1 0 3 4, ent 80 3 2 1 4 0, ent 81 3 2 4 0 1, ent 82 3 4 1 0 2, ent 83 4 2 1 0 3, ent 84 3 2 1 0 4, ent 85 4 2 3 1 0, ent 86 0 2 3 4 1, ent 87 0 4 3 1 2, ent 88 0 2 4 1 3, ent 89 0 2 3 1 4, ent 90 4 3 1 2 0, ent 91 0 3 4 2 1, ent 92 0 3 1 4 2, ent 93 0 4 1 2 3, ent 94 0 3 1 2 4, ent 95 4 2 1 3 0, ent 96 0 2 4 3 1, ent 97 0 4 1 3 2, ent 98 0 2 1 4 3, ent 99 0 2 1 3 4, ent 100 3 1 2 4 0, ent 101 3 4 2 0 1, ent 102 3 1 4 0 2, ent 103 4 1 2 0 3, ent 104 3 1 2 0 4, ent 105 4 3 2 1 0, ent 106 0 3 2 4 1, ent 107 0 3 4 1 2, ent 108 0 4 2 1 3, ent 109 0 3 2 1 4, ent 110 4 1 3 2 0, ent 111 0 4 3 2 1, ent 112 0 1 3 4 2, ent 113 0 1 4 2 3, ent 114 0 1 3 2 4, ent 115 4 1 2 3 0, ent 116 0 4 2 3 1, ent 117 0 1 4 3 2, ent 118 0 1 2 4 3, ent 119 0 1 2 3 4]
noncomputable def t5 (n : Nat) (es : List Ent) (left : Int) : Tmpl := ⟨tmSlots 104 [(0, ii 5), (1, .int .u64 (eV 0)), (5, .nslice 9 (.int 5) (eV 5)), (6, ii 120), (8, .map 10), (9, .int .i64 (.int (.ofNat n)))],
  ⟨6, 11, heapL [gone, gone, gone, gone, gone, gone, gone, gone, gone, ⟨true, .cells [ii 0, ii 1, ii 2, ii 3, ii 4] (eV 5) 3⟩, ⟨true, .map es (.int (.ofNat n))⟩], pc1 ++ [eLe (.int 5) (eV 5)]⟩, .int left⟩
noncomputable def tsGo5 : Nat → Nat → List Tmpl
  | 0, _ => []
  | k + 1, n => t5 n (ents5.take n) (.ofNat k) :: tsGo5 k (n + 1)
noncomputable def ts5 : List Tmpl := tsGo5 121 0
noncomputable def y5 : LoopX := ⟨6, 11, [⟨.exit 2, tmSlots 104 [], ⟨6, 11, heapL [gone, gone, gone, gone, gone, gone, gone, gone, gone, gone, gone], []⟩⟩]⟩
noncomputable def ann5 : Ann := ⟨3, 2, ts5, some y5⟩
set_option maxRecDepth 100000 in
theorem body5_0 : BodyOk Try.prog ann5 y5 (t5 0 (ents5.take 0) 120).less (t5 0 (ents5.take 0) 120).tmps (t5 0 (ents5.take 0) 120).st :=
  body_of_check good (facts := facts) facts_ok (anns := []) (plainAnns_ok _ rfl) (nats := natl) natl_ok (n := 20000) (by kernel_rfl) rfl
set_option maxRecDepth 100000 in
theorem body5_1 : BodyOk Try.prog ann5 y5 (t5 1 (ents5.take 1) 119).less (t5 1 (ents5.take 1) 119).tmps (t5 1 (ents5.take 1) 119).st :=
  body_of_check good (facts := facts) facts_ok (anns := []) (plainAnns_ok _ rfl) (nats := natl) natl_ok (n := 20000) (by kernel_rfl) rfl
set_option maxRecDepth 100000 in
theorem body5_2 : BodyOk Try.prog ann5 y5 (t5 2 (ents5.take 2) 118).less (t5 2 (ents5.take 2) 118).tmps (t5 2 (ents5.take 2) 118).st :=
  body_of_check good (facts := facts) facts_ok (anns := []) (plainAnns_ok _ rfl) (nats := natl) natl_ok (n := 20000) (by kernel_rfl) rfl
set_option maxRecDepth 100000 in
theorem body5_3 : BodyOk Try.prog ann5 y5 (t5 3 (ents5.take 3) 117).less (t5 3 (ents5.take 3) 117).tmps (t5 3 (ents5.take 3) 117).st :=
  body_of_check good (facts := facts) facts_ok (anns := []) (plainAnns_ok _ rfl) (nats := natl) natl_ok (n := 20000) (by kernel_rfl) rfl
set_option maxRecDepth 100000 in
theorem body5_4 : BodyOk Try.prog ann5 y5 (t5 4 (ents5.take 4) 116).less (t5 4 (ents5.take 4) 116).tmps (t5 4 (ents5.take 4) 116).st :=
  body_of_check good (facts := facts) facts_ok (anns := []) (plainAnns_ok _ rfl) (nats := natl) natl_ok (n := 20000) (by kernel_rfl) rfl
set_option maxRecDepth 100000 in
theorem body5_5 : BodyOk Try.prog ann5 y5 (t5 5 (ents5.take 5) 115).less (t5 5 (ents5.take 5) 115).tmps (t5 5 (ents5.take 5) 115).st :=
  body_of_check good (facts := facts) facts_ok (anns := []) (plainAnns_ok _ rfl) (nats := natl) natl_ok (n := 20000) (by kernel_rfl) rfl
set_option maxRecDepth 100000 in
theorem body5_6 : BodyOk Try.prog ann5 y5 (t5 6 (ents5.take 6) 114).less (t5 6 (ents5.take 6) 114).tmps (t5 6 (ents5.take 6) 114).st :=
  body_of_check good (facts := facts) facts_ok (anns := []) (plainAnns_ok _ rfl) (nats := natl) natl_ok (n := 20000) (by kernel_rfl) rfl
set_option maxRecDepth 100000 in
theorem body5_7 : BodyOk Try.prog ann5 y5 (t5 7 (ents5.take 7) 113).less (t5 7 (ents5.take 7) 113).tmps (t5 7 (ents5.take 7) 113).st :=
  body_of_check good (facts := facts) facts_ok (anns := []) (plainAnns_ok _ rfl) (nats := natl) natl_ok (n := 20000) (by kernel_rfl) rfl
set_option maxRecDepth 100000 in
theorem body5_8 : BodyOk Try.prog ann5 y5 (t5 8 (ents5.take 8) 112).less (t5 8 (ents5.take 8) 112).tmps (t5 8 (ents5.take 8) 112).st :=
  body_of_check good (facts := facts) facts_ok (anns := []) (plainAnns_ok _ rfl) (nats := natl) natl_ok (n := 20000) (by kernel_rfl) rfl
set_option maxRecDepth 100000 in
theorem body5_9 : BodyOk Try.prog ann5 y5 (t5 9 (ents5.take 9) 111).less (t5 9 (ents5.take 9) 111).tmps (t5 9 (ents5.take 9) 111).st :=
  body_of_check good (facts := facts) facts_ok (anns := []) (plainAnns_ok _ rfl) (nats := natl) natl_ok (n := 20000) (by kernel_rfl) rfl
set_option maxRecDepth 100000 in
theorem body5_10 : BodyOk Try.prog ann5 y5 (t5 10 (ents5.take 10) 110).less (t5 10 (ents5.take 10) 110).tmps (t5 10 (ents5.take 10) 110).st :=
  body_of_check good (facts := facts) facts_ok (anns := []) (plainAnns_ok _ rfl) (nats := natl) natl_ok (n := 20000) (by kernel_rfl) rfl
set_option maxRecDepth 100000 in
theorem body5_11 : BodyOk Try.prog ann5 y5 (t5 11 (ents5.take 11) 109).less (t5 11 (ents5.take 11) 109).tmps (t5 11 (ents5.take 11) 109).st :=
  body_of_check good (facts := facts) facts_ok (anns := []) (plainAnns_ok _ rfl) (nats := natl) natl_ok (n := 20000) (by kernel_rfl) rfl
set_option maxRecDepth 100000 in
theorem body5_12 : BodyOk Try.prog ann5 y5 (t5 12 (ents5.take 12) 108).less (t5 12 (ents5.take 12) 108).tmps (t5 12 (ents5.take 12) 108).st :=
  body_of_check good (facts := facts) facts_ok (anns := []) (plainAnns_ok _ rfl) (nats := natl) natl_ok (n := 20000) (by kernel_rfl) rfl
set_option maxRecDepth 100000 in
theorem body5_13 : BodyOk Try.prog ann5 y5 (t5 13 (ents5.take 13) 107).less (t5 13 (ents5.take 13) 107).tmps (t5 13 (ents5.take 13) 107).st :=
  body_of_check good (facts := facts) facts_ok (anns := []) (plainAnns_ok _ rfl) (nats := natl) natl_ok (n := 20000) (by kernel_rfl) rfl
set_option maxRecDepth 100000 in
theorem body5_14 : BodyOk Try.prog ann5 y5 (t5 14 (ents5.take 14) 106).less (t5 14 (ents5.take 14) 106).tmps (t5 14 (ents5.take 14) 106).st :=
  body_of_check good (facts := facts) facts_ok (anns := []) (plainAnns_ok _ rfl) (nats := natl) natl_ok (n := 20000) (by kernel_rfl) rfl
set_option maxRecDepth 100000 in
theorem body5_15 : BodyOk Try.prog ann5 y5 (t5 15 (ents5.take 15) 105).less (t5 15 (ents5.take 15) 105).tmps (t5 15 (ents5.take 15) 105).st :=
  body_of_check good (facts := facts) facts_ok (anns := []) (plainAnns_ok _ rfl) (nats := natl) natl_ok (n := 20000) (by kernel_rfl) rfl
set_option maxRecDepth 100000 in
theorem body5_16 : BodyOk Try.prog ann5 y5 (t5 16 (ents5.take 16) 104).less (t5 16 (ents5.take 16) 104).tmps (t5 16 (ents5.take 16) 104).st :=
  body_of_check good (facts := facts) facts_ok (anns := []) (plainAnns_ok _ rfl) (nats := natl) natl_ok (n := 20000) (by kernel_rfl) rfl
set_option maxRecDepth 100000 in
theorem body5_17 : BodyOk Try.prog ann5 y5 (t5 17 (ents5.take 17) 103).less (t5 17 (ents5.take 17) 103).tmps (t5 17 (ents5.take 17) 103).st :=
  body_of_check good (facts := facts) facts_ok (anns := []) (plainAnns_ok _ rfl) (nats := natl) natl_ok (n := 20000) (by kernel_rfl) rfl
set_option maxRecDepth 100000 in
theorem body5_18 : BodyOk Try.prog ann5 y5 (t5 18 (ents5.take 18) 102).less (t5 18 (ents5.take 18) 102).tmps (t5 18 (ents5.take 18) 102).st :=
  body_of_check good (facts := facts) facts_ok (anns := []) (plainAnns_ok _ rfl) (nats := natl) natl_ok (n := 20000) (by kernel_rfl) rfl
set_option maxRecDepth 100000 in
theorem body5_19 : BodyOk Try.prog ann5 y5 (t5 19 (ents5.take 19) 101).less (t5 19 (ents5.take 19) 101).tmps (t5 19 (ents5.take 19) 101).st :=
  body_of_check good (facts := facts) facts_ok (anns := []) (plainAnns_ok _ rfl) (nats := natl) natl_ok (n := 20000) (by kernel_rfl) rfl
set_option maxRecDepth 100000 in
theorem body5_20 : BodyOk Try.prog ann5 y5 (t5 20 (ents5.take 20) 100).less (t5 20 (ents5.take 20) 100).tmps (t5 20 (ents5.take 20) 100).st :=
  body_of_check good (facts := facts) facts_ok (anns := []) (plainAnns_ok _ rfl) (nats := natl) natl_ok (n := 20000) (by kernel_rfl) rfl
set_option maxRecDepth 100000 in
theorem body5_21 : BodyOk Try.prog ann5 y5 (t5 21 (ents5.take 21) 99).less (t5 21 (ents5.take 21) 99).tmps (t5 21 (ents5.take 21) 99).st :=
  body_of_check good (facts := facts) facts_ok (anns := []) (plainAnns_ok _ rfl) (nats := natl) natl_ok (n := 20000) (by kernel_rfl) rfl
set_option maxRecDepth 100000 in
theorem body5_22 : BodyOk Try.prog ann5 y5 (t5 22 (ents5.take 22) 98).less (t5 22 (ents5.take 22) 98).tmps (t5 22 (ents5.take 22) 98).st :=
  body_of_check good (facts := facts) facts_ok (anns := []) (plainAnns_ok _ rfl) (nats := natl) natl_ok (n := 20000) (by kernel_rfl) rfl
set_option maxRecDepth 100000 in
theorem body5_23 : BodyOk Try.prog ann5 y5 (t5 23 (ents5.take 23) 97).less (t5 23 (ents5.take 23) 97).tmps (t5 23 (ents5.take 23) 97).st :=
  body_of_check good (facts := facts) facts_ok (anns := []) (plainAnns_ok _ rfl) (nats := natl) natl_ok (n := 20000) (by kernel_rfl) rfl
set_option maxRecDepth 100000 in
theorem body5_24 : BodyOk Try.prog ann5 y5 (t5 24 (ents5.take 24) 96).less (t5 24 (ents5.take 24) 96).tmps (t5 24 (ents5.take 24) 96).st :=
  body_of_check good (facts := facts) facts_ok (anns := []) (plainAnns_ok _ rfl) (nats := natl) natl_ok (n := 20000) (by kernel_rfl) rfl
set_option maxRecDepth 100000 in
theorem body5_25 : BodyOk Try.prog ann5 y5 (t5 25 (ents5.take 25) 95).less (t5 25 (ents5.take 25) 95).tmps (t5 25 (ents5.take 25) 95).st :=
  body_of_check good (facts := facts) facts_ok (anns := []) (plainAnns_ok _ rfl) (nats := natl) natl_ok (n := 20000) (by kernel_rfl) rfl
set_option maxRecDepth 100000 in
theorem body5_26 : BodyOk Try.prog ann5 y5 (t5 26 (ents5.take 26) 94).less (t5 26 (ents5.take 26) 94).tmps (t5 26 (ents5.take 26) 94).st :=
  body_of_check good (facts := facts) facts_ok (anns := []) (plainAnns_ok _ rfl) (nats := natl) natl_ok (n := 20000) (by kernel_rfl) rfl
set_option maxRecDepth 100000 in
theorem body5_27 : BodyOk Try.prog ann5 y5 (t5 27 (ents5.take 27) 93).less (t5 27 (ents5.take 27) 93).tmps (t5 27 (ents5.take 27) 93).st :=
  body_of_check good (facts := facts) facts_ok (anns := []) (plainAnns_ok _ rfl) (nats := natl) natl_ok (n := 20000) (by kernel_rfl) rfl
set_option maxRecDepth 100000 in
theorem body5_28 : BodyOk Try.prog ann5 y5 (t5 28 (ents5.take 28) 92).less (t5 28 (ents5.take 28) 92).tmps (t5 28 (ents5.take 28) 92).st :=
  body_of_check good (facts := facts) facts_ok (anns := []) (plainAnns_ok _ rfl) (nats := natl) natl_ok (n := 20000) (by kernel_rfl) rfl
set_option maxRecDepth 100000 in
theorem body5_29 : BodyOk Try.prog ann5 y5 (t5 29 (ents5.take 29) 91).less (t5 29 (ents5.take 29) 91).tmps (t5 29 (ents5.take 29) 91).st :=
  body_of_check good (facts := facts) facts_ok (anns := []) (plainAnns_ok _ rfl) (nats := natl) natl_ok (n := 20000) (by kernel_rfl) rfl
set_option maxRecDepth 100000 in
theorem body5_30 : BodyOk Try.prog ann5 y5 (t5 30 (ents5.take 30) 90).less (t5 30 (ents5.take 30) 90).tmps (t5 30 (ents5.take 30) 90).st :=
  body_of_check good (facts := facts) facts_ok (anns := []) (plainAnns_ok _ rfl) (nats := natl) natl_ok (n := 20000) (by kernel_rfl) rfl
set_option maxRecDepth 100000 in
theorem body5_31 : BodyOk Try.prog ann5 y5 (t5 31 (ents5.take 31) 89).less (t5 31 (ents5.take 31) 89).tmps (t5 31 (ents5.take 31) 89).st :=
  body_of_check good (facts := facts) facts_ok (anns := []) (plainAnns_ok _ rfl) (nats := natl) natl_ok (n := 20000) (by kernel_rfl) rfl
set_option maxRecDepth 100000 in
theorem body5_32 : BodyOk Try.prog ann5 y5 (t5 32 (ents5.take 32) 88).less (t5 32 (ents5.take 32) 88).tmps (t5 32 (ents5.take 32) 88).st :=
  body_of_check good (facts := facts) facts_ok (anns := []) (plainAnns_ok _ rfl) (nats := natl) natl_ok (n := 20000) (by kernel_rfl) rfl
set_option maxRecDepth 100000 in
theorem body5_33 : BodyOk Try.prog ann5 y5 (t5 33 (ents5.take 33) 87).less (t5 33 (ents5.take 33) 87).tmps (t5 33 (ents5.take 33) 87).st :=
  body_of_check good (facts := facts) facts_ok (anns := []) (plainAnns_ok _ rfl) (nats := natl) natl_ok (n := 20000) (by kernel_rfl) rfl
set_option maxRecDepth 100000 in
theorem body5_34 : BodyOk Try.prog ann5 y5 (t5 34 (ents5.take 34) 86).less (t5 34 (ents5.take 34) 86).tmps (t5 34 (ents5.take 34) 86).st :=
  body_of_check good (facts := facts) facts_ok (anns := []) (plainAnns_ok _ rfl) (nats := natl) natl_ok (n := 20000) (by kernel_rfl) rfl
set_option maxRecDepth 100000 in
theorem body5_35 : BodyOk Try.prog ann5 y5 (t5 35 (ents5.take 35) 85).less (t5 35 (ents5.take 35) 85).tmps (t5 35 (ents5.take 35) 85).st :=
  body_of_check good (facts := facts) facts_ok (anns := []) (plainAnns_ok _ rfl) (nats := natl) natl_ok (n := 20000) (by kernel_rfl) rfl
set_option maxRecDepth 100000 in
theorem body5_36 : BodyOk Try.prog ann5 y5 (t5 36 (ents5.take 36) 84).less (t5 36 (ents5.take 36) 84).tmps (t5 36 (ents5.take 36) 84).st :=
  body_of_check good (facts := facts) facts_ok (anns := []) (plainAnns_ok _ rfl) (nats := natl) natl_ok (n := 20000) (by kernel_rfl) rfl
set_option maxRecDepth 100000 in
theorem body5_37 : BodyOk Try.prog ann5 y5 (t5 37 (ents5.take 37) 83).less (t5 37 (ents5.take 37) 83).tmps (t5 37 (ents5.take 37) 83).st :=
  body_of_check good (facts := facts) facts_ok (anns := []) (plainAnns_ok _ rfl) (nats := natl) natl_ok (n := 20000) (by kernel_rfl) rfl
set_option maxRecDepth 100000 in
theorem body5_38 : BodyOk Try.prog ann5 y5 (t5 38 (ents5.take 38) 82).less (t5 38 (ents5.take 38) 82).tmps (t5 38 (ents5.take 38) 82).st :=
  body_of_check good (facts := facts) facts_ok (anns := []) (plainAnns_ok _ rfl) (nats := natl) natl_ok (n := 20000) (by kernel_rfl) rfl
set_option maxRecDepth 100000 in
theorem body5_39 : BodyOk Try.prog ann5 y5 (t5 39 (ents5.take 39) 81).less (t5 39 (ents5.take 39) 81).tmps (t5 39 (ents5.take 39) 81).st :=
  body_of_check good (facts := facts) facts_ok (anns := []) (plainAnns_ok _ rfl) (nats := natl) natl_ok (n := 20000) (by kernel_rfl) rfl

end Go.Proofs.Ytmcifbikfjmmfaa.drawsOrders
