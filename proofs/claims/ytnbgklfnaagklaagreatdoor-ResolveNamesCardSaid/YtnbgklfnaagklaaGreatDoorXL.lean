/- ResolveNames returns true: the tied card of its statement. Conditions: those of the given statement alone. -/
import Derived.Test.YtnbgklfnaagklaaGreatDoorXP00
import Derived.Test.YtnbgklfnaagklaaGreatDoorXP01
import Derived.Test.YtnbgklfnaagklaaGreatDoorXP02
import Derived.Test.YtnbgklfnaagklaaGreatDoorXP03
import Derived.Test.YtnbgklfnaagklaaGreatDoorXP04
import Derived.Test.YtnbgklfnaagklaaGreatDoorXP05
import Derived.Test.YtnbgklfnaagklaaGreatDoorXP06
import Derived.Test.YtnbgklfnaagklaaGreatDoorXP07
import Derived.Test.YtnbgklfnaagklaaGreatDoorXP08
import Derived.Test.YtnbgklfnaagklaaGreatDoorXP09
import Derived.Test.YtnbgklfnaagklaaGreatDoorXP10
import Derived.Test.YtnbgklfnaagklaaGreatDoorXP11
import Derived.Test.YtnbgklfnaagklaaGreatDoorXP12
import Derived.Test.YtnbgklfnaagklaaGreatDoorXP13
import Derived.Test.YtnbgklfnaagklaaGreatDoorXP14
import Derived.Test.YtnbgklfnaagklaaGreatDoorXP15
import Derived.Test.YtnbgklfnaagklaaGreatDoorCards
import Derived.WalkKit
import Derived.ProofKit
import Derived.OpenShut
import Derived.Deep.DeepHandedRow
import Derived.Lib.LaidTab
set_option linter.unusedVariables false
set_option linter.unusedSimpArgs false
namespace Go.Proofs.YtnbgklfnaagklaaGreatDoor.K
open Go Go.X Go.Proofs
theorem all0 : ∀ x ∈ E0, EntOK Tryz.prog H0 x := fun x hx => nomatch hx
theorem all1 : ∀ x ∈ E1, EntOK Tryz.prog H0 x := ents_cons (entry_ok (K := KK E0) (kokK E0) all0 k0) all0
theorem all2 : ∀ x ∈ E2, EntOK Tryz.prog H0 x := ents_cons (entry_ok (K := KK E1) (kokK E1) all1 k1) all1
theorem all3 : ∀ x ∈ E3, EntOK Tryz.prog H0 x := ents_cons (entry_ok (K := KK E2) (kokK E2) all2 k2) all2
theorem all4 : ∀ x ∈ E4, EntOK Tryz.prog H0 x := ents_cons (entry_ok (K := KK E3) (kokK E3) all3 k3) all3
theorem all5 : ∀ x ∈ E5, EntOK Tryz.prog H0 x := ents_cons (entry_ok (K := KK E4) (kokK E4) all4 k4) all4
theorem all6 : ∀ x ∈ E6, EntOK Tryz.prog H0 x := ents_cons (entry_ok (K := KK E5) (kokK E5) all5 k5) all5
theorem all7 : ∀ x ∈ E7, EntOK Tryz.prog H0 x := ents_cons (entry_ok (K := KK E6) (kokK E6) all6 k6) all6
theorem all8 : ∀ x ∈ E8, EntOK Tryz.prog H0 x := ents_cons (entry_ok (K := KK E7) (kokK E7) all7 k7) all7
theorem all9 : ∀ x ∈ E9, EntOK Tryz.prog H0 x := ents_cons (entry_ok (K := KK E8) (kokK E8) all8 k8) all8
theorem all10 : ∀ x ∈ E10, EntOK Tryz.prog H0 x := ents_cons (entry_ok (K := KK E9) (kokK E9) all9 k9) all9
theorem all11 : ∀ x ∈ E11, EntOK Tryz.prog H0 x := ents_cons (entry_ok (K := KK E10) (kokK E10) all10 k10) all10
theorem all12 : ∀ x ∈ E12, EntOK Tryz.prog H0 x := ents_cons (entry_ok (K := KK E11) (kokK E11) all11 k11) all11
theorem all13 : ∀ x ∈ E13, EntOK Tryz.prog H0 x := ents_cons (entry_ok (K := KK E12) (kokK E12) all12 k12) all12
theorem all14 : ∀ x ∈ E14, EntOK Tryz.prog H0 x := ents_cons (entry_ok (K := KK E13) (kokK E13) all13 k13) all13
theorem all15 : ∀ x ∈ E15, EntOK Tryz.prog H0 x := ents_cons (entry_ok (K := KK E14) (kokK E14) all14 k14) all14
theorem all16 : ∀ x ∈ E16, EntOK Tryz.prog H0 x := ents_cons (entry_ok (K := KK E15) (kokK E15) all15 k15) all15
theorem all17 : ∀ x ∈ E17, EntOK Tryz.prog H0 x := ents_cons (entry_ok (K := KK E16) (kokK E16) all16 k16) all16
theorem all18 : ∀ x ∈ E18, EntOK Tryz.prog H0 x := ents_cons (entry_ok (K := KK E17) (kokK E17) all17 k17) all17
theorem all19 : ∀ x ∈ E19, EntOK Tryz.prog H0 x := ents_cons (entry_ok (K := KK E18) (kokK E18) all18 k18) all18
theorem all20 : ∀ x ∈ E20, EntOK Tryz.prog H0 x := ents_cons (entry_ok (K := KK E19) (kokK E19) all19 k19) all19
theorem all21 : ∀ x ∈ E21, EntOK Tryz.prog H0 x := ents_cons (entry_ok (K := KK E20) (kokK E20) all20 k20) all20
theorem all22 : ∀ x ∈ E22, EntOK Tryz.prog H0 x := ents_cons (entry_ok (K := KK E21) (kokK E21) all21 k21) all21
theorem all23 : ∀ x ∈ E23, EntOK Tryz.prog H0 x := ents_cons (entry_ok (K := KK E22) (kokK E22) all22 k22) all22
theorem all24 : ∀ x ∈ E24, EntOK Tryz.prog H0 x := ents_cons (entry_ok (K := KK E23) (kokK E23) all23 k23) all23
theorem all25 : ∀ x ∈ E25, EntOK Tryz.prog H0 x := ents_cons (entry_ok (K := KK E24) (kokK E24) all24 k24) all24
theorem all26 : ∀ x ∈ E26, EntOK Tryz.prog H0 x := ents_cons (entry_ok (K := KK E25) (kokK E25) all25 k25) all25
theorem all27 : ∀ x ∈ E27, EntOK Tryz.prog H0 x := ents_cons (entry_ok (K := KK E26) (kokK E26) all26 k26) all26
theorem all28 : ∀ x ∈ E28, EntOK Tryz.prog H0 x := ents_cons (entry_ok (K := KK E27) (kokK E27) all27 k27) all27
theorem all29 : ∀ x ∈ E29, EntOK Tryz.prog H0 x := ents_cons (entry_ok (K := KK E28) (kokK E28) all28 k28) all28
theorem all30 : ∀ x ∈ E30, EntOK Tryz.prog H0 x := ents_cons (entry_ok (K := KK E29) (kokK E29) all29 k29) all29
theorem all31 : ∀ x ∈ E31, EntOK Tryz.prog H0 x := ents_cons (entry_ok (K := KK E30) (kokK E30) all30 k30) all30
theorem all32 : ∀ x ∈ E32, EntOK Tryz.prog H0 x := ents_cons (entry_ok (K := KK E31) (kokK E31) all31 k31) all31
theorem all33 : ∀ x ∈ E33, EntOK Tryz.prog H0 x := ents_cons (entry_ok (K := KK E32) (kokK E32) all32 k32) all32
theorem all34 : ∀ x ∈ E34, EntOK Tryz.prog H0 x := ents_cons (entry_ok (K := KK E33) (kokK E33) all33 k33) all33
theorem all35 : ∀ x ∈ E35, EntOK Tryz.prog H0 x := ents_cons (entry_ok (K := KK E34) (kokK E34) all34 k34) all34
theorem all36 : ∀ x ∈ E36, EntOK Tryz.prog H0 x := ents_cons (entry_ok (K := KK E35) (kokK E35) all35 k35) all35
theorem all37 : ∀ x ∈ E37, EntOK Tryz.prog H0 x := ents_cons (entry_ok (K := KK E36) (kokK E36) all36 k36) all36
theorem all38 : ∀ x ∈ E38, EntOK Tryz.prog H0 x := ents_cons (entry_ok (K := KK E37) (kokK E37) all37 k37) all37
theorem all39 : ∀ x ∈ E39, EntOK Tryz.prog H0 x := ents_cons (entry_ok (K := KK E38) (kokK E38) all38 k38) all38
theorem all40 : ∀ x ∈ E40, EntOK Tryz.prog H0 x := ents_cons (entry_ok (K := KK E39) (kokK E39) all39 k39) all39
theorem k40 : ∀ p, AP [(6, 46), (5, 46)] p → callOKP (KK E40) H0 1413858 e40.1 e40.2.1 e40.2.2 p = true :=
  paths2 (P := fun p => callOKP (KK E40) H0 1413858 e40.1 e40.2.1 e40.2.2 p = true) fun a h b h2 => match a, b, h, h2 with
    | 0, 0, _, _ => k40_0_0
    | 0, 1, _, _ => k40_0_1
    | 0, 2, _, _ => k40_0_2
    | 0, 3, _, _ => k40_0_3
    | 0, 4, _, _ => k40_0_4
    | 1, 0, _, _ => k40_1_0
    | 1, 1, _, _ => k40_1_1
    | 1, 2, _, _ => k40_1_2
    | 1, 3, _, _ => k40_1_3
    | 1, 4, _, _ => k40_1_4
    | 2, 0, _, _ => k40_2_0
    | 2, 1, _, _ => k40_2_1
    | 2, 2, _, _ => k40_2_2
    | 2, 3, _, _ => k40_2_3
    | 2, 4, _, _ => k40_2_4
    | 3, 0, _, _ => k40_3_0
    | 3, 1, _, _ => k40_3_1
    | 3, 2, _, _ => k40_3_2
    | 3, 3, _, _ => k40_3_3
    | 3, 4, _, _ => k40_3_4
    | 4, 0, _, _ => k40_4_0
    | 4, 1, _, _ => k40_4_1
    | 4, 2, _, _ => k40_4_2
    | 4, 3, _, _ => k40_4_3
    | 4, 4, _, _ => k40_4_4
    | 5, 0, _, _ => k40_5_0
    | 5, 1, _, _ => k40_5_1
    | 5, 2, _, _ => k40_5_2
    | 5, 3, _, _ => k40_5_3
    | 5, 4, _, _ => k40_5_4
    | 0, b + 5, _, h => absurd (show b + 5 < 5 from h) (by omega)
    | 1, b + 5, _, h => absurd (show b + 5 < 5 from h) (by omega)
    | 2, b + 5, _, h => absurd (show b + 5 < 5 from h) (by omega)
    | 3, b + 5, _, h => absurd (show b + 5 < 5 from h) (by omega)
    | 4, b + 5, _, h => absurd (show b + 5 < 5 from h) (by omega)
    | 5, b + 5, _, h => absurd (show b + 5 < 5 from h) (by omega)
    | a + 6, _, h, _ => absurd (show a + 6 < 6 from h) (by omega)
theorem all41 : ∀ x ∈ E41, EntOK Tryz.prog H0 x := ents_cons (entryP_ok (K := KK E40) (kokK E40) all40 [(6, 46), (5, 46)] (by decide) k40) all40
theorem all42 : ∀ x ∈ E42, EntOK Tryz.prog H0 x := ents_cons (entry_ok (K := KK E41) (kokK E41) all41 k41) all41
theorem all43 : ∀ x ∈ E43, EntOK Tryz.prog H0 x := ents_cons (entry_ok (K := KK E42) (kokK E42) all42 k42) all42
theorem all44 : ∀ x ∈ E44, EntOK Tryz.prog H0 x := ents_cons (entry_ok (K := KK E43) (kokK E43) all43 k43) all43
theorem all45 : ∀ x ∈ E45, EntOK Tryz.prog H0 x := ents_cons (entry_ok (K := KK E44) (kokK E44) all44 k44) all44
theorem all46 : ∀ x ∈ E46, EntOK Tryz.prog H0 x := ents_cons (entry_ok (K := KK E45) (kokK E45) all45 k45) all45
theorem all47 : ∀ x ∈ E47, EntOK Tryz.prog H0 x := ents_cons (entry_ok (K := KK E46) (kokK E46) all46 k46) all46
theorem all48 : ∀ x ∈ E48, EntOK Tryz.prog H0 x := ents_cons (entry_ok (K := KK E47) (kokK E47) all47 k47) all47
theorem all49 : ∀ x ∈ E49, EntOK Tryz.prog H0 x := ents_cons (entry_ok (K := KK E48) (kokK E48) all48 k48) all48
theorem all50 : ∀ x ∈ E50, EntOK Tryz.prog H0 x := ents_cons (entry_ok (K := KK E49) (kokK E49) all49 k49) all49
theorem all51 : ∀ x ∈ E51, EntOK Tryz.prog H0 x := ents_cons (entry_ok (K := KK E50) (kokK E50) all50 k50) all50
theorem all52 : ∀ x ∈ E52, EntOK Tryz.prog H0 x := ents_cons (entry_ok (K := KK E51) (kokK E51) all51 k51) all51
theorem all53 : ∀ x ∈ E53, EntOK Tryz.prog H0 x := ents_cons (entry_ok (K := KK E52) (kokK E52) all52 k52) all52
theorem all54 : ∀ x ∈ E54, EntOK Tryz.prog H0 x := ents_cons (entry_ok (K := KK E53) (kokK E53) all53 k53) all53
theorem all55 : ∀ x ∈ E55, EntOK Tryz.prog H0 x := ents_cons (entry_ok (K := KK E54) (kokK E54) all54 k54) all54
theorem all56 : ∀ x ∈ E56, EntOK Tryz.prog H0 x := ents_cons (entry_ok (K := KK E55) (kokK E55) all55 k55) all55
theorem all57 : ∀ x ∈ E57, EntOK Tryz.prog H0 x := ents_cons (entry_ok (K := KK E56) (kokK E56) all56 k56) all56
theorem all58 : ∀ x ∈ E58, EntOK Tryz.prog H0 x := ents_cons (entry_ok (K := KK E57) (kokK E57) all57 k57) all57
theorem all59 : ∀ x ∈ E59, EntOK Tryz.prog H0 x := ents_cons (entry_ok (K := KK E58) (kokK E58) all58 k58) all58
theorem all60 : ∀ x ∈ E60, EntOK Tryz.prog H0 x := ents_cons (entry_ok (K := KK E59) (kokK E59) all59 k59) all59
theorem all61 : ∀ x ∈ E61, EntOK Tryz.prog H0 x := ents_cons (entry_ok (K := KK E60) (kokK E60) all60 k60) all60
theorem all62 : ∀ x ∈ E62, EntOK Tryz.prog H0 x := ents_cons (entry_ok (K := KK E61) (kokK E61) all61 k61) all61
theorem all63 : ∀ x ∈ E63, EntOK Tryz.prog H0 x := ents_cons (entry_ok (K := KK E62) (kokK E62) all62 k62) all62
theorem all64 : ∀ x ∈ E64, EntOK Tryz.prog H0 x := ents_cons (entry_ok (K := KK E63) (kokK E63) all63 k63) all63
theorem all65 : ∀ x ∈ E65, EntOK Tryz.prog H0 x := ents_cons (entry_ok (K := KK E64) (kokK E64) all64 k64) all64
theorem all66 : ∀ x ∈ E66, EntOK Tryz.prog H0 x := ents_cons (entry_ok (K := KK E65) (kokK E65) all65 k65) all65
theorem all67 : ∀ x ∈ E67, EntOK Tryz.prog H0 x := ents_cons (entry_ok (K := KK E66) (kokK E66) all66 k66) all66
theorem all68 : ∀ x ∈ E68, EntOK Tryz.prog H0 x := ents_cons (entry_ok (K := KK E67) (kokK E67) all67 k67) all67
theorem all69 : ∀ x ∈ E69, EntOK Tryz.prog H0 x := ents_cons (entry_ok (K := KK E68) (kokK E68) all68 k68) all68
theorem all70 : ∀ x ∈ E70, EntOK Tryz.prog H0 x := ents_cons (entry_ok (K := KK E69) (kokK E69) all69 k69) all69
theorem all71 : ∀ x ∈ E71, EntOK Tryz.prog H0 x := ents_cons (entry_ok (K := KK E70) (kokK E70) all70 k70) all70
theorem all72 : ∀ x ∈ E72, EntOK Tryz.prog H0 x := ents_cons (entry_ok (K := KK E71) (kokK E71) all71 k71) all71
theorem all73 : ∀ x ∈ E73, EntOK Tryz.prog H0 x := ents_cons (entry_ok (K := KK E72) (kokK E72) all72 k72) all72
theorem all74 : ∀ x ∈ E74, EntOK Tryz.prog H0 x := ents_cons (entry_ok (K := KK E73) (kokK E73) all73 k73) all73
theorem all75 : ∀ x ∈ E75, EntOK Tryz.prog H0 x := ents_cons (entry_ok (K := KK E74) (kokK E74) all74 k74) all74
theorem all76 : ∀ x ∈ E76, EntOK Tryz.prog H0 x := ents_cons (entry_ok (K := KK E75) (kokK E75) all75 k75) all75
theorem all77 : ∀ x ∈ E77, EntOK Tryz.prog H0 x := ents_cons (entry_ok (K := KK E76) (kokK E76) all76 k76) all76
theorem all78 : ∀ x ∈ E78, EntOK Tryz.prog H0 x := ents_cons (entry_ok (K := KK E77) (kokK E77) all77 k77) all77
theorem all79 : ∀ x ∈ E79, EntOK Tryz.prog H0 x := ents_cons (entry_ok (K := KK E78) (kokK E78) all78 k78) all78
theorem all80 : ∀ x ∈ E80, EntOK Tryz.prog H0 x := ents_cons (entry_ok (K := KK E79) (kokK E79) all79 k79) all79
theorem all81 : ∀ x ∈ E81, EntOK Tryz.prog H0 x := ents_cons (entry_ok (K := KK E80) (kokK E80) all80 k80) all80
theorem all82 : ∀ x ∈ E82, EntOK Tryz.prog H0 x := ents_cons (entry_ok (K := KK E81) (kokK E81) all81 k81) all81
theorem all83 : ∀ x ∈ E83, EntOK Tryz.prog H0 x := ents_cons (entry_ok (K := KK E82) (kokK E82) all82 k82) all82
theorem theLaw : EntOK Tryz.prog H0 (3, [], .sc (.bool true)) := entry_ok (K := KK E83) (kokK E83) all83 k83
theorem base {W : World} (hL : laidMetH Tryz.prog Rows.resolveNamesRow.laid W) : Base H0 W := by
  have h : laidMet Tryz.prog Rows.resolveNamesRow.laid W := hL
  obtain ⟨ha, hb⟩ := laid_two h
  obtain ⟨t0, fr0, w0⟩ := ints_heap (g := 0) (t := 269) (e := 5) (n := 64) (k := .u8) (zs := tabZ0) (l := tab0) (by kernel_rfl) (by kernel_rfl) (by kernel_rfl) (by kernel_rfl) (by kernel_rfl) (by kernel_rfl) ha tabC0
  obtain ⟨t1, fr1, w1⟩ := bools_heap (g := 1) (t := 280) (e := 221) (n := 23) (m := 6) (rows := tabZ1) (l := tab1) (by kernel_rfl) (by kernel_rfl) (by kernel_rfl) (by kernel_rfl) (by kernel_rfl) (by kernel_rfl) (by kernel_rfl) (by decide) hb tabC1
  exact tab_base tabS0 tabS1 w0 w1
end Go.Proofs.YtnbgklfnaagklaaGreatDoor.K
