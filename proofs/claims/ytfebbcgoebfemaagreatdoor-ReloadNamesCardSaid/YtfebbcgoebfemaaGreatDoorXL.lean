/- ReloadNames returns true: the tied card of its statement. Conditions: those of the given statement alone. -/
import Derived.Test.YtfebbcgoebfemaaGreatDoorXP00
import Derived.Test.YtfebbcgoebfemaaGreatDoorXP01
import Derived.Test.YtfebbcgoebfemaaGreatDoorXP02
import Derived.Test.YtfebbcgoebfemaaGreatDoorXP03
import Derived.Test.YtfebbcgoebfemaaGreatDoorXP04
import Derived.Test.YtfebbcgoebfemaaGreatDoorXP05
import Derived.Test.YtfebbcgoebfemaaGreatDoorXP06
import Derived.Test.YtfebbcgoebfemaaGreatDoorXP07
import Derived.Test.YtfebbcgoebfemaaGreatDoorXP08
import Derived.Test.YtfebbcgoebfemaaGreatDoorXP09
import Derived.Test.YtfebbcgoebfemaaGreatDoorXP10
import Derived.Test.YtfebbcgoebfemaaGreatDoorXP11
import Derived.Test.YtfebbcgoebfemaaGreatDoorCards
import Derived.WalkKit
import Derived.ProofKit
import Derived.OpenShut
import Derived.Deep.DeepHandedRow
import Derived.Lib.LaidTab
set_option linter.unusedVariables false
set_option linter.unusedSimpArgs false
namespace Go.Proofs.YtfebbcgoebfemaaGreatDoor.K
open Go Go.X Go.Proofs
theorem all0 : ∀ x ∈ E0, EntOK Tryz.prog H0 x := fun x hx => nomatch hx
theorem all1 : ∀ x ∈ E1, EntOK Tryz.prog H0 x := ents_cons (entry_ok (K := KK E0) (kokK E0) all0 k0) all0
theorem all2 : ∀ x ∈ E2, EntOK Tryz.prog H0 x := ents_cons (entry_ok (K := KK E1) (kokK E1) all1 k1) all1
theorem all3 : ∀ x ∈ E3, EntOK Tryz.prog H0 x := ents_cons (entry_ok (K := KK E2) (kokK E2) all2 k2) all2
theorem all4 : ∀ x ∈ E4, EntOK Tryz.prog H0 x := ents_cons (entry_ok (K := KK E3) (kokK E3) all3 k3) all3
theorem all5 : ∀ x ∈ E5, EntOK Tryz.prog H0 x := ents_cons (entry_ok (K := KK E4) (kokK E4) all4 k4) all4
theorem all6 : ∀ x ∈ E6, EntOK Tryz.prog H0 x := ents_cons (entry_ok (K := KK E5) (kokK E5) all5 k5) all5
theorem all7 : ∀ x ∈ E7, EntOK Tryz.prog H0 x := ents_cons (entry_ok (K := KK E6) (kokK E6) all6 k6) all6
theorem all8 : ∀ x ∈ E8, EntOK Tryz.prog H0 x := ents_cons (entry_ok (K := KK E7) (kokK E7) all7 k7) all7
theorem all9 : ∀ x ∈ E9, EntOK Tryz.prog H0 x := ents_cons (entry_ok (K := KK E8) (kokK E8) all8 k8) all8
theorem all10 : ∀ x ∈ E10, EntOK Tryz.prog H0 x := ents_cons (entry_ok (K := KK E9) (kokK E9) all9 k9) all9
theorem all11 : ∀ x ∈ E11, EntOK Tryz.prog H0 x := ents_cons (entry_ok (K := KK E10) (kokK E10) all10 k10) all10
theorem all12 : ∀ x ∈ E12, EntOK Tryz.prog H0 x := ents_cons (entry_ok (K := KK E11) (kokK E11) all11 k11) all11
theorem all13 : ∀ x ∈ E13, EntOK Tryz.prog H0 x := ents_cons (entry_ok (K := KK E12) (kokK E12) all12 k12) all12
theorem all14 : ∀ x ∈ E14, EntOK Tryz.prog H0 x := ents_cons (entry_ok (K := KK E13) (kokK E13) all13 k13) all13
theorem all15 : ∀ x ∈ E15, EntOK Tryz.prog H0 x := ents_cons (entry_ok (K := KK E14) (kokK E14) all14 k14) all14
theorem all16 : ∀ x ∈ E16, EntOK Tryz.prog H0 x := ents_cons (entry_ok (K := KK E15) (kokK E15) all15 k15) all15
theorem all17 : ∀ x ∈ E17, EntOK Tryz.prog H0 x := ents_cons (entry_ok (K := KK E16) (kokK E16) all16 k16) all16
theorem all18 : ∀ x ∈ E18, EntOK Tryz.prog H0 x := ents_cons (entry_ok (K := KK E17) (kokK E17) all17 k17) all17
theorem all19 : ∀ x ∈ E19, EntOK Tryz.prog H0 x := ents_cons (entry_ok (K := KK E18) (kokK E18) all18 k18) all18
theorem all20 : ∀ x ∈ E20, EntOK Tryz.prog H0 x := ents_cons (entry_ok (K := KK E19) (kokK E19) all19 k19) all19
theorem all21 : ∀ x ∈ E21, EntOK Tryz.prog H0 x := ents_cons (entry_ok (K := KK E20) (kokK E20) all20 k20) all20
theorem all22 : ∀ x ∈ E22, EntOK Tryz.prog H0 x := ents_cons (entry_ok (K := KK E21) (kokK E21) all21 k21) all21
theorem all23 : ∀ x ∈ E23, EntOK Tryz.prog H0 x := ents_cons (entry_ok (K := KK E22) (kokK E22) all22 k22) all22
theorem all24 : ∀ x ∈ E24, EntOK Tryz.prog H0 x := ents_cons (entry_ok (K := KK E23) (kokK E23) all23 k23) all23
theorem all25 : ∀ x ∈ E25, EntOK Tryz.prog H0 x := ents_cons (entry_ok (K := KK E24) (kokK E24) all24 k24) all24
theorem all26 : ∀ x ∈ E26, EntOK Tryz.prog H0 x := ents_cons (entry_ok (K := KK E25) (kokK E25) all25 k25) all25
theorem all27 : ∀ x ∈ E27, EntOK Tryz.prog H0 x := ents_cons (entry_ok (K := KK E26) (kokK E26) all26 k26) all26
theorem all28 : ∀ x ∈ E28, EntOK Tryz.prog H0 x := ents_cons (entry_ok (K := KK E27) (kokK E27) all27 k27) all27
theorem all29 : ∀ x ∈ E29, EntOK Tryz.prog H0 x := ents_cons (entry_ok (K := KK E28) (kokK E28) all28 k28) all28
theorem all30 : ∀ x ∈ E30, EntOK Tryz.prog H0 x := ents_cons (entry_ok (K := KK E29) (kokK E29) all29 k29) all29
theorem all31 : ∀ x ∈ E31, EntOK Tryz.prog H0 x := ents_cons (entry_ok (K := KK E30) (kokK E30) all30 k30) all30
theorem all32 : ∀ x ∈ E32, EntOK Tryz.prog H0 x := ents_cons (entry_ok (K := KK E31) (kokK E31) all31 k31) all31
theorem all33 : ∀ x ∈ E33, EntOK Tryz.prog H0 x := ents_cons (entry_ok (K := KK E32) (kokK E32) all32 k32) all32
theorem all34 : ∀ x ∈ E34, EntOK Tryz.prog H0 x := ents_cons (entry_ok (K := KK E33) (kokK E33) all33 k33) all33
theorem all35 : ∀ x ∈ E35, EntOK Tryz.prog H0 x := ents_cons (entry_ok (K := KK E34) (kokK E34) all34 k34) all34
theorem all36 : ∀ x ∈ E36, EntOK Tryz.prog H0 x := ents_cons (entry_ok (K := KK E35) (kokK E35) all35 k35) all35
theorem all37 : ∀ x ∈ E37, EntOK Tryz.prog H0 x := ents_cons (entry_ok (K := KK E36) (kokK E36) all36 k36) all36
theorem all38 : ∀ x ∈ E38, EntOK Tryz.prog H0 x := ents_cons (entry_ok (K := KK E37) (kokK E37) all37 k37) all37
theorem all39 : ∀ x ∈ E39, EntOK Tryz.prog H0 x := ents_cons (entry_ok (K := KK E38) (kokK E38) all38 k38) all38
theorem all40 : ∀ x ∈ E40, EntOK Tryz.prog H0 x := ents_cons (entry_ok (K := KK E39) (kokK E39) all39 k39) all39
theorem all41 : ∀ x ∈ E41, EntOK Tryz.prog H0 x := ents_cons (entry_ok (K := KK E40) (kokK E40) all40 k40) all40
theorem all42 : ∀ x ∈ E42, EntOK Tryz.prog H0 x := ents_cons (entry_ok (K := KK E41) (kokK E41) all41 k41) all41
theorem all43 : ∀ x ∈ E43, EntOK Tryz.prog H0 x := ents_cons (entry_ok (K := KK E42) (kokK E42) all42 k42) all42
theorem all44 : ∀ x ∈ E44, EntOK Tryz.prog H0 x := ents_cons (entry_ok (K := KK E43) (kokK E43) all43 k43) all43
theorem all45 : ∀ x ∈ E45, EntOK Tryz.prog H0 x := ents_cons (entry_ok (K := KK E44) (kokK E44) all44 k44) all44
theorem all46 : ∀ x ∈ E46, EntOK Tryz.prog H0 x := ents_cons (entry_ok (K := KK E45) (kokK E45) all45 k45) all45
theorem all47 : ∀ x ∈ E47, EntOK Tryz.prog H0 x := ents_cons (entry_ok (K := KK E46) (kokK E46) all46 k46) all46
theorem all48 : ∀ x ∈ E48, EntOK Tryz.prog H0 x := ents_cons (entry_ok (K := KK E47) (kokK E47) all47 k47) all47
theorem all49 : ∀ x ∈ E49, EntOK Tryz.prog H0 x := ents_cons (entry_ok (K := KK E48) (kokK E48) all48 k48) all48
theorem all50 : ∀ x ∈ E50, EntOK Tryz.prog H0 x := ents_cons (entry_ok (K := KK E49) (kokK E49) all49 k49) all49
theorem all51 : ∀ x ∈ E51, EntOK Tryz.prog H0 x := ents_cons (entry_ok (K := KK E50) (kokK E50) all50 k50) all50
theorem all52 : ∀ x ∈ E52, EntOK Tryz.prog H0 x := ents_cons (entry_ok (K := KK E51) (kokK E51) all51 k51) all51
theorem all53 : ∀ x ∈ E53, EntOK Tryz.prog H0 x := ents_cons (entry_ok (K := KK E52) (kokK E52) all52 k52) all52
theorem all54 : ∀ x ∈ E54, EntOK Tryz.prog H0 x := ents_cons (entry_ok (K := KK E53) (kokK E53) all53 k53) all53
theorem all55 : ∀ x ∈ E55, EntOK Tryz.prog H0 x := ents_cons (entry_ok (K := KK E54) (kokK E54) all54 k54) all54
theorem all56 : ∀ x ∈ E56, EntOK Tryz.prog H0 x := ents_cons (entry_ok (K := KK E55) (kokK E55) all55 k55) all55
theorem all57 : ∀ x ∈ E57, EntOK Tryz.prog H0 x := ents_cons (entry_ok (K := KK E56) (kokK E56) all56 k56) all56
theorem all58 : ∀ x ∈ E58, EntOK Tryz.prog H0 x := ents_cons (entry_ok (K := KK E57) (kokK E57) all57 k57) all57
theorem all59 : ∀ x ∈ E59, EntOK Tryz.prog H0 x := ents_cons (entry_ok (K := KK E58) (kokK E58) all58 k58) all58
theorem all60 : ∀ x ∈ E60, EntOK Tryz.prog H0 x := ents_cons (entry_ok (K := KK E59) (kokK E59) all59 k59) all59
theorem all61 : ∀ x ∈ E61, EntOK Tryz.prog H0 x := ents_cons (entry_ok (K := KK E60) (kokK E60) all60 k60) all60
theorem all62 : ∀ x ∈ E62, EntOK Tryz.prog H0 x := ents_cons (entry_ok (K := KK E61) (kokK E61) all61 k61) all61
theorem all63 : ∀ x ∈ E63, EntOK Tryz.prog H0 x := ents_cons (entry_ok (K := KK E62) (kokK E62) all62 k62) all62
theorem all64 : ∀ x ∈ E64, EntOK Tryz.prog H0 x := ents_cons (entry_ok (K := KK E63) (kokK E63) all63 k63) all63
theorem all65 : ∀ x ∈ E65, EntOK Tryz.prog H0 x := ents_cons (entry_ok (K := KK E64) (kokK E64) all64 k64) all64
theorem all66 : ∀ x ∈ E66, EntOK Tryz.prog H0 x := ents_cons (entry_ok (K := KK E65) (kokK E65) all65 k65) all65
theorem all67 : ∀ x ∈ E67, EntOK Tryz.prog H0 x := ents_cons (entry_ok (K := KK E66) (kokK E66) all66 k66) all66
theorem all68 : ∀ x ∈ E68, EntOK Tryz.prog H0 x := ents_cons (entry_ok (K := KK E67) (kokK E67) all67 k67) all67
theorem all69 : ∀ x ∈ E69, EntOK Tryz.prog H0 x := ents_cons (entry_ok (K := KK E68) (kokK E68) all68 k68) all68
theorem all70 : ∀ x ∈ E70, EntOK Tryz.prog H0 x := ents_cons (entry_ok (K := KK E69) (kokK E69) all69 k69) all69
theorem all71 : ∀ x ∈ E71, EntOK Tryz.prog H0 x := ents_cons (entry_ok (K := KK E70) (kokK E70) all70 k70) all70
theorem all72 : ∀ x ∈ E72, EntOK Tryz.prog H0 x := ents_cons (entry_ok (K := KK E71) (kokK E71) all71 k71) all71
theorem all73 : ∀ x ∈ E73, EntOK Tryz.prog H0 x := ents_cons (entry_ok (K := KK E72) (kokK E72) all72 k72) all72
theorem all74 : ∀ x ∈ E74, EntOK Tryz.prog H0 x := ents_cons (entry_ok (K := KK E73) (kokK E73) all73 k73) all73
theorem all75 : ∀ x ∈ E75, EntOK Tryz.prog H0 x := ents_cons (entry_ok (K := KK E74) (kokK E74) all74 k74) all74
theorem all76 : ∀ x ∈ E76, EntOK Tryz.prog H0 x := ents_cons (entry_ok (K := KK E75) (kokK E75) all75 k75) all75
theorem all77 : ∀ x ∈ E77, EntOK Tryz.prog H0 x := ents_cons (entry_ok (K := KK E76) (kokK E76) all76 k76) all76
theorem all78 : ∀ x ∈ E78, EntOK Tryz.prog H0 x := ents_cons (entry_ok (K := KK E77) (kokK E77) all77 k77) all77
theorem all79 : ∀ x ∈ E79, EntOK Tryz.prog H0 x := ents_cons (entry_ok (K := KK E78) (kokK E78) all78 k78) all78
theorem all80 : ∀ x ∈ E80, EntOK Tryz.prog H0 x := ents_cons (entry_ok (K := KK E79) (kokK E79) all79 k79) all79
theorem all81 : ∀ x ∈ E81, EntOK Tryz.prog H0 x := ents_cons (entry_ok (K := KK E80) (kokK E80) all80 k80) all80
theorem all82 : ∀ x ∈ E82, EntOK Tryz.prog H0 x := ents_cons (entry_ok (K := KK E81) (kokK E81) all81 k81) all81
theorem all83 : ∀ x ∈ E83, EntOK Tryz.prog H0 x := ents_cons (entry_ok (K := KK E82) (kokK E82) all82 k82) all82
theorem all84 : ∀ x ∈ E84, EntOK Tryz.prog H0 x := ents_cons (entry_ok (K := KK E83) (kokK E83) all83 k83) all83
theorem all85 : ∀ x ∈ E85, EntOK Tryz.prog H0 x := ents_cons (entry_ok (K := KK E84) (kokK E84) all84 k84) all84
theorem all86 : ∀ x ∈ E86, EntOK Tryz.prog H0 x := ents_cons (entry_ok (K := KK E85) (kokK E85) all85 k85) all85
theorem all87 : ∀ x ∈ E87, EntOK Tryz.prog H0 x := ents_cons (entry_ok (K := KK E86) (kokK E86) all86 k86) all86
theorem all88 : ∀ x ∈ E88, EntOK Tryz.prog H0 x := ents_cons (entry_ok (K := KK E87) (kokK E87) all87 k87) all87
theorem all89 : ∀ x ∈ E89, EntOK Tryz.prog H0 x := ents_cons (entry_ok (K := KK E88) (kokK E88) all88 k88) all88
theorem all90 : ∀ x ∈ E90, EntOK Tryz.prog H0 x := ents_cons (entry_ok (K := KK E89) (kokK E89) all89 k89) all89
theorem all91 : ∀ x ∈ E91, EntOK Tryz.prog H0 x := ents_cons (entry_ok (K := KK E90) (kokK E90) all90 k90) all90
theorem all92 : ∀ x ∈ E92, EntOK Tryz.prog H0 x := ents_cons (entry_ok (K := KK E91) (kokK E91) all91 k91) all91
theorem all93 : ∀ x ∈ E93, EntOK Tryz.prog H0 x := ents_cons (entry_ok (K := KK E92) (kokK E92) all92 k92) all92
theorem all94 : ∀ x ∈ E94, EntOK Tryz.prog H0 x := ents_cons (entry_ok (K := KK E93) (kokK E93) all93 k93) all93
theorem all95 : ∀ x ∈ E95, EntOK Tryz.prog H0 x := ents_cons (entry_ok (K := KK E94) (kokK E94) all94 k94) all94
theorem all96 : ∀ x ∈ E96, EntOK Tryz.prog H0 x := ents_cons (entry_ok (K := KK E95) (kokK E95) all95 k95) all95
theorem all97 : ∀ x ∈ E97, EntOK Tryz.prog H0 x := ents_cons (entry_ok (K := KK E96) (kokK E96) all96 k96) all96
theorem all98 : ∀ x ∈ E98, EntOK Tryz.prog H0 x := ents_cons (entry_ok (K := KK E97) (kokK E97) all97 k97) all97
theorem all99 : ∀ x ∈ E99, EntOK Tryz.prog H0 x := ents_cons (entry_ok (K := KK E98) (kokK E98) all98 k98) all98
theorem all100 : ∀ x ∈ E100, EntOK Tryz.prog H0 x := ents_cons (entry_ok (K := KK E99) (kokK E99) all99 k99) all99
theorem all101 : ∀ x ∈ E101, EntOK Tryz.prog H0 x := ents_cons (entry_ok (K := KK E100) (kokK E100) all100 k100) all100
theorem all102 : ∀ x ∈ E102, EntOK Tryz.prog H0 x := ents_cons (entry_ok (K := KK E101) (kokK E101) all101 k101) all101
theorem all103 : ∀ x ∈ E103, EntOK Tryz.prog H0 x := ents_cons (entry_ok (K := KK E102) (kokK E102) all102 k102) all102
theorem all104 : ∀ x ∈ E104, EntOK Tryz.prog H0 x := ents_cons (entry_ok (K := KK E103) (kokK E103) all103 k103) all103
theorem all105 : ∀ x ∈ E105, EntOK Tryz.prog H0 x := ents_cons (entry_ok (K := KK E104) (kokK E104) all104 k104) all104
theorem all106 : ∀ x ∈ E106, EntOK Tryz.prog H0 x := ents_cons (entry_ok (K := KK E105) (kokK E105) all105 k105) all105
theorem all107 : ∀ x ∈ E107, EntOK Tryz.prog H0 x := ents_cons (entry_ok (K := KK E106) (kokK E106) all106 k106) all106
theorem all108 : ∀ x ∈ E108, EntOK Tryz.prog H0 x := ents_cons (entry_ok (K := KK E107) (kokK E107) all107 k107) all107
theorem all109 : ∀ x ∈ E109, EntOK Tryz.prog H0 x := ents_cons (entry_ok (K := KK E108) (kokK E108) all108 k108) all108
theorem all110 : ∀ x ∈ E110, EntOK Tryz.prog H0 x := ents_cons (entry_ok (K := KK E109) (kokK E109) all109 k109) all109
theorem all111 : ∀ x ∈ E111, EntOK Tryz.prog H0 x := ents_cons (entry_ok (K := KK E110) (kokK E110) all110 k110) all110
theorem all112 : ∀ x ∈ E112, EntOK Tryz.prog H0 x := ents_cons (entry_ok (K := KK E111) (kokK E111) all111 k111) all111
theorem all113 : ∀ x ∈ E113, EntOK Tryz.prog H0 x := ents_cons (entry_ok (K := KK E112) (kokK E112) all112 k112) all112
theorem all114 : ∀ x ∈ E114, EntOK Tryz.prog H0 x := ents_cons (entry_ok (K := KK E113) (kokK E113) all113 k113) all113
theorem all115 : ∀ x ∈ E115, EntOK Tryz.prog H0 x := ents_cons (entry_ok (K := KK E114) (kokK E114) all114 k114) all114
theorem all116 : ∀ x ∈ E116, EntOK Tryz.prog H0 x := ents_cons (entry_ok (K := KK E115) (kokK E115) all115 k115) all115
theorem all117 : ∀ x ∈ E117, EntOK Tryz.prog H0 x := ents_cons (entry_ok (K := KK E116) (kokK E116) all116 k116) all116
theorem all118 : ∀ x ∈ E118, EntOK Tryz.prog H0 x := ents_cons (entry_ok (K := KK E117) (kokK E117) all117 k117) all117
theorem all119 : ∀ x ∈ E119, EntOK Tryz.prog H0 x := ents_cons (entry_ok (K := KK E118) (kokK E118) all118 k118) all118
theorem all120 : ∀ x ∈ E120, EntOK Tryz.prog H0 x := ents_cons (entry_ok (K := KK E119) (kokK E119) all119 k119) all119
theorem all121 : ∀ x ∈ E121, EntOK Tryz.prog H0 x := ents_cons (entry_ok (K := KK E120) (kokK E120) all120 k120) all120
theorem all122 : ∀ x ∈ E122, EntOK Tryz.prog H0 x := ents_cons (entry_ok (K := KK E121) (kokK E121) all121 k121) all121
theorem all123 : ∀ x ∈ E123, EntOK Tryz.prog H0 x := ents_cons (entry_ok (K := KK E122) (kokK E122) all122 k122) all122
theorem all124 : ∀ x ∈ E124, EntOK Tryz.prog H0 x := ents_cons (entry_ok (K := KK E123) (kokK E123) all123 k123) all123
theorem all125 : ∀ x ∈ E125, EntOK Tryz.prog H0 x := ents_cons (entry_ok (K := KK E124) (kokK E124) all124 k124) all124
theorem all126 : ∀ x ∈ E126, EntOK Tryz.prog H0 x := ents_cons (entry_ok (K := KK E125) (kokK E125) all125 k125) all125
theorem all127 : ∀ x ∈ E127, EntOK Tryz.prog H0 x := ents_cons (entry_ok (K := KK E126) (kokK E126) all126 k126) all126
theorem all128 : ∀ x ∈ E128, EntOK Tryz.prog H0 x := ents_cons (entry_ok (K := KK E127) (kokK E127) all127 k127) all127
theorem all129 : ∀ x ∈ E129, EntOK Tryz.prog H0 x := ents_cons (entry_ok (K := KK E128) (kokK E128) all128 k128) all128
theorem all130 : ∀ x ∈ E130, EntOK Tryz.prog H0 x := ents_cons (entry_ok (K := KK E129) (kokK E129) all129 k129) all129
theorem all131 : ∀ x ∈ E131, EntOK Tryz.prog H0 x := ents_cons (entry_ok (K := KK E130) (kokK E130) all130 k130) all130
theorem all132 : ∀ x ∈ E132, EntOK Tryz.prog H0 x := ents_cons (entry_ok (K := KK E131) (kokK E131) all131 k131) all131
theorem all133 : ∀ x ∈ E133, EntOK Tryz.prog H0 x := ents_cons (entry_ok (K := KK E132) (kokK E132) all132 k132) all132
theorem all134 : ∀ x ∈ E134, EntOK Tryz.prog H0 x := ents_cons (entry_ok (K := KK E133) (kokK E133) all133 k133) all133
theorem all135 : ∀ x ∈ E135, EntOK Tryz.prog H0 x := ents_cons (entry_ok (K := KK E134) (kokK E134) all134 k134) all134
theorem all136 : ∀ x ∈ E136, EntOK Tryz.prog H0 x := ents_cons (entry_ok (K := KK E135) (kokK E135) all135 k135) all135
theorem all137 : ∀ x ∈ E137, EntOK Tryz.prog H0 x := ents_cons (entry_ok (K := KK E136) (kokK E136) all136 k136) all136
theorem all138 : ∀ x ∈ E138, EntOK Tryz.prog H0 x := ents_cons (entry_ok (K := KK E137) (kokK E137) all137 k137) all137
theorem all139 : ∀ x ∈ E139, EntOK Tryz.prog H0 x := ents_cons (entry_ok (K := KK E138) (kokK E138) all138 k138) all138
theorem all140 : ∀ x ∈ E140, EntOK Tryz.prog H0 x := ents_cons (entry_ok (K := KK E139) (kokK E139) all139 k139) all139
theorem all141 : ∀ x ∈ E141, EntOK Tryz.prog H0 x := ents_cons (entry_ok (K := KK E140) (kokK E140) all140 k140) all140
theorem all142 : ∀ x ∈ E142, EntOK Tryz.prog H0 x := ents_cons (entry_ok (K := KK E141) (kokK E141) all141 k141) all141
theorem all143 : ∀ x ∈ E143, EntOK Tryz.prog H0 x := ents_cons (entry_ok (K := KK E142) (kokK E142) all142 k142) all142
theorem all144 : ∀ x ∈ E144, EntOK Tryz.prog H0 x := ents_cons (entry_ok (K := KK E143) (kokK E143) all143 k143) all143
theorem all145 : ∀ x ∈ E145, EntOK Tryz.prog H0 x := ents_cons (entry_ok (K := KK E144) (kokK E144) all144 k144) all144
theorem all146 : ∀ x ∈ E146, EntOK Tryz.prog H0 x := ents_cons (entry_ok (K := KK E145) (kokK E145) all145 k145) all145
theorem all147 : ∀ x ∈ E147, EntOK Tryz.prog H0 x := ents_cons (entry_ok (K := KK E146) (kokK E146) all146 k146) all146
theorem all148 : ∀ x ∈ E148, EntOK Tryz.prog H0 x := ents_cons (entry_ok (K := KK E147) (kokK E147) all147 k147) all147
theorem all149 : ∀ x ∈ E149, EntOK Tryz.prog H0 x := ents_cons (entry_ok (K := KK E148) (kokK E148) all148 k148) all148
theorem all150 : ∀ x ∈ E150, EntOK Tryz.prog H0 x := ents_cons (entry_ok (K := KK E149) (kokK E149) all149 k149) all149
theorem all151 : ∀ x ∈ E151, EntOK Tryz.prog H0 x := ents_cons (entry_ok (K := KK E150) (kokK E150) all150 k150) all150
theorem all152 : ∀ x ∈ E152, EntOK Tryz.prog H0 x := ents_cons (entry_ok (K := KK E151) (kokK E151) all151 k151) all151
theorem all153 : ∀ x ∈ E153, EntOK Tryz.prog H0 x := ents_cons (entry_ok (K := KK E152) (kokK E152) all152 k152) all152
theorem all154 : ∀ x ∈ E154, EntOK Tryz.prog H0 x := ents_cons (entry_ok (K := KK E153) (kokK E153) all153 k153) all153
theorem all155 : ∀ x ∈ E155, EntOK Tryz.prog H0 x := ents_cons (entry_ok (K := KK E154) (kokK E154) all154 k154) all154
theorem all156 : ∀ x ∈ E156, EntOK Tryz.prog H0 x := ents_cons (entry_ok (K := KK E155) (kokK E155) all155 k155) all155
theorem all157 : ∀ x ∈ E157, EntOK Tryz.prog H0 x := ents_cons (entry_ok (K := KK E156) (kokK E156) all156 k156) all156
theorem all158 : ∀ x ∈ E158, EntOK Tryz.prog H0 x := ents_cons (entry_ok (K := KK E157) (kokK E157) all157 k157) all157
theorem all159 : ∀ x ∈ E159, EntOK Tryz.prog H0 x := ents_cons (entry_ok (K := KK E158) (kokK E158) all158 k158) all158
theorem all160 : ∀ x ∈ E160, EntOK Tryz.prog H0 x := ents_cons (entry_ok (K := KK E159) (kokK E159) all159 k159) all159
theorem all161 : ∀ x ∈ E161, EntOK Tryz.prog H0 x := ents_cons (entry_ok (K := KK E160) (kokK E160) all160 k160) all160
theorem all162 : ∀ x ∈ E162, EntOK Tryz.prog H0 x := ents_cons (entry_ok (K := KK E161) (kokK E161) all161 k161) all161
theorem all163 : ∀ x ∈ E163, EntOK Tryz.prog H0 x := ents_cons (entry_ok (K := KK E162) (kokK E162) all162 k162) all162
theorem all164 : ∀ x ∈ E164, EntOK Tryz.prog H0 x := ents_cons (entry_ok (K := KK E163) (kokK E163) all163 k163) all163
theorem all165 : ∀ x ∈ E165, EntOK Tryz.prog H0 x := ents_cons (entry_ok (K := KK E164) (kokK E164) all164 k164) all164
theorem all166 : ∀ x ∈ E166, EntOK Tryz.prog H0 x := ents_cons (entry_ok (K := KK E165) (kokK E165) all165 k165) all165
theorem all167 : ∀ x ∈ E167, EntOK Tryz.prog H0 x := ents_cons (entry_ok (K := KK E166) (kokK E166) all166 k166) all166
theorem all168 : ∀ x ∈ E168, EntOK Tryz.prog H0 x := ents_cons (entry_ok (K := KK E167) (kokK E167) all167 k167) all167
theorem all169 : ∀ x ∈ E169, EntOK Tryz.prog H0 x := ents_cons (entry_ok (K := KK E168) (kokK E168) all168 k168) all168
theorem all170 : ∀ x ∈ E170, EntOK Tryz.prog H0 x := ents_cons (entry_ok (K := KK E169) (kokK E169) all169 k169) all169
theorem all171 : ∀ x ∈ E171, EntOK Tryz.prog H0 x := ents_cons (entry_ok (K := KK E170) (kokK E170) all170 k170) all170
theorem all172 : ∀ x ∈ E172, EntOK Tryz.prog H0 x := ents_cons (entry_ok (K := KK E171) (kokK E171) all171 k171) all171
theorem all173 : ∀ x ∈ E173, EntOK Tryz.prog H0 x := ents_cons (entry_ok (K := KK E172) (kokK E172) all172 k172) all172
theorem all174 : ∀ x ∈ E174, EntOK Tryz.prog H0 x := ents_cons (entry_ok (K := KK E173) (kokK E173) all173 k173) all173
theorem all175 : ∀ x ∈ E175, EntOK Tryz.prog H0 x := ents_cons (entry_ok (K := KK E174) (kokK E174) all174 k174) all174
theorem all176 : ∀ x ∈ E176, EntOK Tryz.prog H0 x := ents_cons (entry_ok (K := KK E175) (kokK E175) all175 k175) all175
theorem all177 : ∀ x ∈ E177, EntOK Tryz.prog H0 x := ents_cons (entry_ok (K := KK E176) (kokK E176) all176 k176) all176
theorem all178 : ∀ x ∈ E178, EntOK Tryz.prog H0 x := ents_cons (entry_ok (K := KK E177) (kokK E177) all177 k177) all177
theorem all179 : ∀ x ∈ E179, EntOK Tryz.prog H0 x := ents_cons (entry_ok (K := KK E178) (kokK E178) all178 k178) all178
theorem all180 : ∀ x ∈ E180, EntOK Tryz.prog H0 x := ents_cons (entry_ok (K := KK E179) (kokK E179) all179 k179) all179
theorem all181 : ∀ x ∈ E181, EntOK Tryz.prog H0 x := ents_cons (entry_ok (K := KK E180) (kokK E180) all180 k180) all180
theorem all182 : ∀ x ∈ E182, EntOK Tryz.prog H0 x := ents_cons (entry_ok (K := KK E181) (kokK E181) all181 k181) all181
theorem all183 : ∀ x ∈ E183, EntOK Tryz.prog H0 x := ents_cons (entry_ok (K := KK E182) (kokK E182) all182 k182) all182
theorem theLaw : EntOK Tryz.prog H0 (3, [], .sc (.bool true)) := entry_ok (K := KK E183) (kokK E183) all183 k183
theorem base {W : World} (hL : laidMetH Tryz.prog Rows.reloadNamesRow.laid W) : Base H0 W := by
  have h : laidMet Tryz.prog Rows.reloadNamesRow.laid W := hL
  obtain ⟨ha, hb⟩ := laid_two h
  obtain ⟨t0, fr0, w0⟩ := bools_heap (g := 0) (t := 295) (e := 219) (n := 23) (m := 6) (rows := tabZ0) (l := tab0) (by kernel_rfl) (by kernel_rfl) (by kernel_rfl) (by kernel_rfl) (by kernel_rfl) (by kernel_rfl) (by kernel_rfl) (by decide) hb tabC0
  obtain ⟨t1, fr1, w1⟩ := ints_heap (g := 1) (t := 356) (e := 5) (n := 64) (k := .u8) (zs := tabZ1) (l := tab1) (by kernel_rfl) (by kernel_rfl) (by kernel_rfl) (by kernel_rfl) (by kernel_rfl) (by kernel_rfl) ha tabC1
  exact tab_base tabS0 tabS1 w0 w1
end Go.Proofs.YtfebbcgoebfemaaGreatDoor.K
