/-
  DrawsOrders: each order of at most five elements comes by some draws, and each by only one of those below the bounds; reckoned by the kernel round by round.
-/
import Derived.Test.YtmcifbikfjmmfaaRows
import Derived.Test.YtmcifbikfjmmfaaSXd
import Derived.WalkKit
import Derived.ProofKit
import Derived.OpenShut
import Derived.ChangeOld
import Derived.Below
import Derived.KernelRfl
import Derived.Lib.SmallJoins
import Derived.Test.YtmcifbikfjmmfaaDrawsOrdersPartb
namespace Go.Proofs.Ytmcifbikfjmmfaa.drawsOrders
open Go.ChangeShapes Go.WideShapes Go.ChangeAt Go.RowKit
open Go.SX
set_option linter.unusedVariables false
set_option linter.unusedSimpArgs false
set_option maxRecDepth 100000
set_option maxRecDepth 100000 in
theorem body5_40 : BodyOk Try.prog ann5 y5 (t5 40 (ents5.take 40) 80).less (t5 40 (ents5.take 40) 80).tmps (t5 40 (ents5.take 40) 80).st :=
  body_of_check good (facts := facts) facts_ok (anns := []) (plainAnns_ok _ rfl) (nats := natl) natl_ok (n := 20000) (by kernel_rfl) rfl
set_option maxRecDepth 100000 in
theorem body5_41 : BodyOk Try.prog ann5 y5 (t5 41 (ents5.take 41) 79).less (t5 41 (ents5.take 41) 79).tmps (t5 41 (ents5.take 41) 79).st :=
  body_of_check good (facts := facts) facts_ok (anns := []) (plainAnns_ok _ rfl) (nats := natl) natl_ok (n := 20000) (by kernel_rfl) rfl
set_option maxRecDepth 100000 in
theorem body5_42 : BodyOk Try.prog ann5 y5 (t5 42 (ents5.take 42) 78).less (t5 42 (ents5.take 42) 78).tmps (t5 42 (ents5.take 42) 78).st :=
  body_of_check good (facts := facts) facts_ok (anns := []) (plainAnns_ok _ rfl) (nats := natl) natl_ok (n := 20000) (by kernel_rfl) rfl
set_option maxRecDepth 100000 in
theorem body5_43 : BodyOk Try.prog ann5 y5 (t5 43 (ents5.take 43) 77).less (t5 43 (ents5.take 43) 77).tmps (t5 43 (ents5.take 43) 77).st :=
  body_of_check good (facts := facts) facts_ok (anns := []) (plainAnns_ok _ rfl) (nats := natl) natl_ok (n := 20000) (by kernel_rfl) rfl
set_option maxRecDepth 100000 in
theorem body5_44 : BodyOk Try.prog ann5 y5 (t5 44 (ents5.take 44) 76).less (t5 44 (ents5.take 44) 76).tmps (t5 44 (ents5.take 44) 76).st :=
  body_of_check good (facts := facts) facts_ok (anns := []) (plainAnns_ok _ rfl) (nats := natl) natl_ok (n := 20000) (by kernel_rfl) rfl
set_option maxRecDepth 100000 in
theorem body5_45 : BodyOk Try.prog ann5 y5 (t5 45 (ents5.take 45) 75).less (t5 45 (ents5.take 45) 75).tmps (t5 45 (ents5.take 45) 75).st :=
  body_of_check good (facts := facts) facts_ok (anns := []) (plainAnns_ok _ rfl) (nats := natl) natl_ok (n := 20000) (by kernel_rfl) rfl
set_option maxRecDepth 100000 in
theorem body5_46 : BodyOk Try.prog ann5 y5 (t5 46 (ents5.take 46) 74).less (t5 46 (ents5.take 46) 74).tmps (t5 46 (ents5.take 46) 74).st :=
  body_of_check good (facts := facts) facts_ok (anns := []) (plainAnns_ok _ rfl) (nats := natl) natl_ok (n := 20000) (by kernel_rfl) rfl
set_option maxRecDepth 100000 in
theorem body5_47 : BodyOk Try.prog ann5 y5 (t5 47 (ents5.take 47) 73).less (t5 47 (ents5.take 47) 73).tmps (t5 47 (ents5.take 47) 73).st :=
  body_of_check good (facts := facts) facts_ok (anns := []) (plainAnns_ok _ rfl) (nats := natl) natl_ok (n := 20000) (by kernel_rfl) rfl
set_option maxRecDepth 100000 in
theorem body5_48 : BodyOk Try.prog ann5 y5 (t5 48 (ents5.take 48) 72).less (t5 48 (ents5.take 48) 72).tmps (t5 48 (ents5.take 48) 72).st :=
  body_of_check good (facts := facts) facts_ok (anns := []) (plainAnns_ok _ rfl) (nats := natl) natl_ok (n := 20000) (by kernel_rfl) rfl
set_option maxRecDepth 100000 in
theorem body5_49 : BodyOk Try.prog ann5 y5 (t5 49 (ents5.take 49) 71).less (t5 49 (ents5.take 49) 71).tmps (t5 49 (ents5.take 49) 71).st :=
  body_of_check good (facts := facts) facts_ok (anns := []) (plainAnns_ok _ rfl) (nats := natl) natl_ok (n := 20000) (by kernel_rfl) rfl
set_option maxRecDepth 100000 in
theorem body5_50 : BodyOk Try.prog ann5 y5 (t5 50 (ents5.take 50) 70).less (t5 50 (ents5.take 50) 70).tmps (t5 50 (ents5.take 50) 70).st :=
  body_of_check good (facts := facts) facts_ok (anns := []) (plainAnns_ok _ rfl) (nats := natl) natl_ok (n := 20000) (by kernel_rfl) rfl
set_option maxRecDepth 100000 in
theorem body5_51 : BodyOk Try.prog ann5 y5 (t5 51 (ents5.take 51) 69).less (t5 51 (ents5.take 51) 69).tmps (t5 51 (ents5.take 51) 69).st :=
  body_of_check good (facts := facts) facts_ok (anns := []) (plainAnns_ok _ rfl) (nats := natl) natl_ok (n := 20000) (by kernel_rfl) rfl
set_option maxRecDepth 100000 in
theorem body5_52 : BodyOk Try.prog ann5 y5 (t5 52 (ents5.take 52) 68).less (t5 52 (ents5.take 52) 68).tmps (t5 52 (ents5.take 52) 68).st :=
  body_of_check good (facts := facts) facts_ok (anns := []) (plainAnns_ok _ rfl) (nats := natl) natl_ok (n := 20000) (by kernel_rfl) rfl
set_option maxRecDepth 100000 in
theorem body5_53 : BodyOk Try.prog ann5 y5 (t5 53 (ents5.take 53) 67).less (t5 53 (ents5.take 53) 67).tmps (t5 53 (ents5.take 53) 67).st :=
  body_of_check good (facts := facts) facts_ok (anns := []) (plainAnns_ok _ rfl) (nats := natl) natl_ok (n := 20000) (by kernel_rfl) rfl
set_option maxRecDepth 100000 in
theorem body5_54 : BodyOk Try.prog ann5 y5 (t5 54 (ents5.take 54) 66).less (t5 54 (ents5.take 54) 66).tmps (t5 54 (ents5.take 54) 66).st :=
  body_of_check good (facts := facts) facts_ok (anns := []) (plainAnns_ok _ rfl) (nats := natl) natl_ok (n := 20000) (by kernel_rfl) rfl
set_option maxRecDepth 100000 in
theorem body5_55 : BodyOk Try.prog ann5 y5 (t5 55 (ents5.take 55) 65).less (t5 55 (ents5.take 55) 65).tmps (t5 55 (ents5.take 55) 65).st :=
  body_of_check good (facts := facts) facts_ok (anns := []) (plainAnns_ok _ rfl) (nats := natl) natl_ok (n := 20000) (by kernel_rfl) rfl
set_option maxRecDepth 100000 in
theorem body5_56 : BodyOk Try.prog ann5 y5 (t5 56 (ents5.take 56) 64).less (t5 56 (ents5.take 56) 64).tmps (t5 56 (ents5.take 56) 64).st :=
  body_of_check good (facts := facts) facts_ok (anns := []) (plainAnns_ok _ rfl) (nats := natl) natl_ok (n := 20000) (by kernel_rfl) rfl
set_option maxRecDepth 100000 in
theorem body5_57 : BodyOk Try.prog ann5 y5 (t5 57 (ents5.take 57) 63).less (t5 57 (ents5.take 57) 63).tmps (t5 57 (ents5.take 57) 63).st :=
  body_of_check good (facts := facts) facts_ok (anns := []) (plainAnns_ok _ rfl) (nats := natl) natl_ok (n := 20000) (by kernel_rfl) rfl
set_option maxRecDepth 100000 in
theorem body5_58 : BodyOk Try.prog ann5 y5 (t5 58 (ents5.take 58) 62).less (t5 58 (ents5.take 58) 62).tmps (t5 58 (ents5.take 58) 62).st :=
  body_of_check good (facts := facts) facts_ok (anns := []) (plainAnns_ok _ rfl) (nats := natl) natl_ok (n := 20000) (by kernel_rfl) rfl
set_option maxRecDepth 100000 in
theorem body5_59 : BodyOk Try.prog ann5 y5 (t5 59 (ents5.take 59) 61).less (t5 59 (ents5.take 59) 61).tmps (t5 59 (ents5.take 59) 61).st :=
  body_of_check good (facts := facts) facts_ok (anns := []) (plainAnns_ok _ rfl) (nats := natl) natl_ok (n := 20000) (by kernel_rfl) rfl
set_option maxRecDepth 100000 in
theorem body5_60 : BodyOk Try.prog ann5 y5 (t5 60 (ents5.take 60) 60).less (t5 60 (ents5.take 60) 60).tmps (t5 60 (ents5.take 60) 60).st :=
  body_of_check good (facts := facts) facts_ok (anns := []) (plainAnns_ok _ rfl) (nats := natl) natl_ok (n := 20000) (by kernel_rfl) rfl
set_option maxRecDepth 100000 in
theorem body5_61 : BodyOk Try.prog ann5 y5 (t5 61 (ents5.take 61) 59).less (t5 61 (ents5.take 61) 59).tmps (t5 61 (ents5.take 61) 59).st :=
  body_of_check good (facts := facts) facts_ok (anns := []) (plainAnns_ok _ rfl) (nats := natl) natl_ok (n := 20000) (by kernel_rfl) rfl
set_option maxRecDepth 100000 in
theorem body5_62 : BodyOk Try.prog ann5 y5 (t5 62 (ents5.take 62) 58).less (t5 62 (ents5.take 62) 58).tmps (t5 62 (ents5.take 62) 58).st :=
  body_of_check good (facts := facts) facts_ok (anns := []) (plainAnns_ok _ rfl) (nats := natl) natl_ok (n := 20000) (by kernel_rfl) rfl
set_option maxRecDepth 100000 in
theorem body5_63 : BodyOk Try.prog ann5 y5 (t5 63 (ents5.take 63) 57).less (t5 63 (ents5.take 63) 57).tmps (t5 63 (ents5.take 63) 57).st :=
  body_of_check good (facts := facts) facts_ok (anns := []) (plainAnns_ok _ rfl) (nats := natl) natl_ok (n := 20000) (by kernel_rfl) rfl
set_option maxRecDepth 100000 in
theorem body5_64 : BodyOk Try.prog ann5 y5 (t5 64 (ents5.take 64) 56).less (t5 64 (ents5.take 64) 56).tmps (t5 64 (ents5.take 64) 56).st :=
  body_of_check good (facts := facts) facts_ok (anns := []) (plainAnns_ok _ rfl) (nats := natl) natl_ok (n := 20000) (by kernel_rfl) rfl
set_option maxRecDepth 100000 in
theorem body5_65 : BodyOk Try.prog ann5 y5 (t5 65 (ents5.take 65) 55).less (t5 65 (ents5.take 65) 55).tmps (t5 65 (ents5.take 65) 55).st :=
  body_of_check good (facts := facts) facts_ok (anns := []) (plainAnns_ok _ rfl) (nats := natl) natl_ok (n := 20000) (by kernel_rfl) rfl
set_option maxRecDepth 100000 in
theorem body5_66 : BodyOk Try.prog ann5 y5 (t5 66 (ents5.take 66) 54).less (t5 66 (ents5.take 66) 54).tmps (t5 66 (ents5.take 66) 54).st :=
  body_of_check good (facts := facts) facts_ok (anns := []) (plainAnns_ok _ rfl) (nats := natl) natl_ok (n := 20000) (by kernel_rfl) rfl
set_option maxRecDepth 100000 in
theorem body5_67 : BodyOk Try.prog ann5 y5 (t5 67 (ents5.take 67) 53).less (t5 67 (ents5.take 67) 53).tmps (t5 67 (ents5.take 67) 53).st :=
  body_of_check good (facts := facts) facts_ok (anns := []) (plainAnns_ok _ rfl) (nats := natl) natl_ok (n := 20000) (by kernel_rfl) rfl
set_option maxRecDepth 100000 in
theorem body5_68 : BodyOk Try.prog ann5 y5 (t5 68 (ents5.take 68) 52).less (t5 68 (ents5.take 68) 52).tmps (t5 68 (ents5.take 68) 52).st :=
  body_of_check good (facts := facts) facts_ok (anns := []) (plainAnns_ok _ rfl) (nats := natl) natl_ok (n := 20000) (by kernel_rfl) rfl
set_option maxRecDepth 100000 in
theorem body5_69 : BodyOk Try.prog ann5 y5 (t5 69 (ents5.take 69) 51).less (t5 69 (ents5.take 69) 51).tmps (t5 69 (ents5.take 69) 51).st :=
  body_of_check good (facts := facts) facts_ok (anns := []) (plainAnns_ok _ rfl) (nats := natl) natl_ok (n := 20000) (by kernel_rfl) rfl
set_option maxRecDepth 100000 in
theorem body5_70 : BodyOk Try.prog ann5 y5 (t5 70 (ents5.take 70) 50).less (t5 70 (ents5.take 70) 50).tmps (t5 70 (ents5.take 70) 50).st :=
  body_of_check good (facts := facts) facts_ok (anns := []) (plainAnns_ok _ rfl) (nats := natl) natl_ok (n := 20000) (by kernel_rfl) rfl
set_option maxRecDepth 100000 in
theorem body5_71 : BodyOk Try.prog ann5 y5 (t5 71 (ents5.take 71) 49).less (t5 71 (ents5.take 71) 49).tmps (t5 71 (ents5.take 71) 49).st :=
  body_of_check good (facts := facts) facts_ok (anns := []) (plainAnns_ok _ rfl) (nats := natl) natl_ok (n := 20000) (by kernel_rfl) rfl
set_option maxRecDepth 100000 in
theorem body5_72 : BodyOk Try.prog ann5 y5 (t5 72 (ents5.take 72) 48).less (t5 72 (ents5.take 72) 48).tmps (t5 72 (ents5.take 72) 48).st :=
  body_of_check good (facts := facts) facts_ok (anns := []) (plainAnns_ok _ rfl) (nats := natl) natl_ok (n := 20000) (by kernel_rfl) rfl
set_option maxRecDepth 100000 in
theorem body5_73 : BodyOk Try.prog ann5 y5 (t5 73 (ents5.take 73) 47).less (t5 73 (ents5.take 73) 47).tmps (t5 73 (ents5.take 73) 47).st :=
  body_of_check good (facts := facts) facts_ok (anns := []) (plainAnns_ok _ rfl) (nats := natl) natl_ok (n := 20000) (by kernel_rfl) rfl
set_option maxRecDepth 100000 in
theorem body5_74 : BodyOk Try.prog ann5 y5 (t5 74 (ents5.take 74) 46).less (t5 74 (ents5.take 74) 46).tmps (t5 74 (ents5.take 74) 46).st :=
  body_of_check good (facts := facts) facts_ok (anns := []) (plainAnns_ok _ rfl) (nats := natl) natl_ok (n := 20000) (by kernel_rfl) rfl
set_option maxRecDepth 100000 in
theorem body5_75 : BodyOk Try.prog ann5 y5 (t5 75 (ents5.take 75) 45).less (t5 75 (ents5.take 75) 45).tmps (t5 75 (ents5.take 75) 45).st :=
  body_of_check good (facts := facts) facts_ok (anns := []) (plainAnns_ok _ rfl) (nats := natl) natl_ok (n := 20000) (by kernel_rfl) rfl
set_option maxRecDepth 100000 in
theorem body5_76 : BodyOk Try.prog ann5 y5 (t5 76 (ents5.take 76) 44).less (t5 76 (ents5.take 76) 44).tmps (t5 76 (ents5.take 76) 44).st :=
  body_of_check good (facts := facts) facts_ok (anns := []) (plainAnns_ok _ rfl) (nats := natl) natl_ok (n := 20000) (by kernel_rfl) rfl
set_option maxRecDepth 100000 in
theorem body5_77 : BodyOk Try.prog ann5 y5 (t5 77 (ents5.take 77) 43).less (t5 77 (ents5.take 77) 43).tmps (t5 77 (ents5.take 77) 43).st :=
  body_of_check good (facts := facts) facts_ok (anns := []) (plainAnns_ok _ rfl) (nats := natl) natl_ok (n := 20000) (by kernel_rfl) rfl
set_option maxRecDepth 100000 in
theorem body5_78 : BodyOk Try.prog ann5 y5 (t5 78 (ents5.take 78) 42).less (t5 78 (ents5.take 78) 42).tmps (t5 78 (ents5.take 78) 42).st :=
  body_of_check good (facts := facts) facts_ok (anns := []) (plainAnns_ok _ rfl) (nats := natl) natl_ok (n := 20000) (by kernel_rfl) rfl
set_option maxRecDepth 100000 in
theorem body5_79 : BodyOk Try.prog ann5 y5 (t5 79 (ents5.take 79) 41).less (t5 79 (ents5.take 79) 41).tmps (t5 79 (ents5.take 79) 41).st :=
  body_of_check good (facts := facts) facts_ok (anns := []) (plainAnns_ok _ rfl) (nats := natl) natl_ok (n := 20000) (by kernel_rfl) rfl

end Go.Proofs.Ytmcifbikfjmmfaa.drawsOrders
