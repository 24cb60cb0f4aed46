/- The told functions are those of the program, and each computes what is said of it. -/
import Derived.Test.YtbmkofeahjmkgacT1
import Derived.Test.YtbmkofeahjmkgacProg
import Derived.KernelRfl
import Derived.Test.YtbmkofeahjmkgacW2
section
set_option maxRecDepth 100000
open Go Go.VC
namespace Go.Proofs.Ytbmkofeahjmkgac
theorem mixed : true = true → Try.prog.follows .mixedOrders = true := fun _ => by kernel_rfl
def k43 : FuncId → Bool := fun _ => false
theorem c43 : fnB Try.prog k43 true Try.f43 d43 = true := by kernel_rfl
def k27 : FuncId → Bool := fun _ => false
theorem c27 : fnB Try.prog k27 true Try.f27 d27 = true := by kernel_rfl
def k51 : FuncId → Bool := fun _ => false
theorem c51 : fnB Try.prog k51 true Try.f51 d51 = true := by kernel_rfl
def k36 : FuncId → Bool := fun _ => false
theorem c36 : fnB Try.prog k36 true Try.f36 d36 = true := by kernel_rfl
def k54 : FuncId → Bool := fun _ => false
theorem c54 : fnB Try.prog k54 true Try.f54 d54 = true := by kernel_rfl
def k55 : FuncId → Bool := fun _ => false
theorem c55 : fnB Try.prog k55 true Try.f55 d55 = true := by kernel_rfl
def k50 : FuncId → Bool := fun f => f == 55
theorem c50 : fnB Try.prog k50 true Try.f50 d50 = true := by kernel_rfl
def k25 : FuncId → Bool := fun _ => false
theorem c25 : fnB Try.prog k25 true Try.f25 d25 = true := by kernel_rfl
def k34 : FuncId → Bool := fun _ => false
theorem c34 : fnB Try.prog k34 true Try.f34 d34 = true := by kernel_rfl
def k47 : FuncId → Bool := fun _ => false
theorem c47 : fnB Try.prog k47 true Try.f47 d47 = true := by kernel_rfl
def k33 : FuncId → Bool := fun f => f == 43
theorem c33 : fnB Try.prog k33 true Try.f33 d33 = true := by kernel_rfl
def k14 : FuncId → Bool := fun f => f == 27
theorem c14 : fnB Try.prog k14 true Try.f14 d14 = true := by kernel_rfl
def k7 : FuncId → Bool := fun _ => false
theorem c7 : fnB Try.prog k7 true Try.f7 d7 = true := by kernel_rfl
def k20 : FuncId → Bool := fun _ => false
theorem c20 : fnB Try.prog k20 true Try.f20 d20 = true := by kernel_rfl
def k26 : FuncId → Bool := fun _ => false
theorem c26 : fnB Try.prog k26 true Try.f26 d26 = true := by kernel_rfl
def k46 : FuncId → Bool := fun _ => false
theorem c46 : fnB Try.prog k46 true Try.f46 d46 = true := by kernel_rfl
def k24 : FuncId → Bool := fun _ => false
theorem c24 : fnB Try.prog k24 true Try.f24 d24 = true := by kernel_rfl
def k19 : FuncId → Bool := fun _ => false
theorem c19 : fnB Try.prog k19 true Try.f19 d19 = true := by kernel_rfl
def k8 : FuncId → Bool := fun _ => false
theorem c8 : fnB Try.prog k8 true Try.f8 d8 = true := by kernel_rfl
def k9 : FuncId → Bool := fun f => f == 20
theorem c9 : fnB Try.prog k9 true Try.f9 d9 = true := by kernel_rfl
def k5 : FuncId → Bool := fun _ => false
theorem c5 : fnB Try.prog k5 true Try.f5 d5 = true := by kernel_rfl
def k4 : FuncId → Bool := fun _ => false
theorem c4 : fnB Try.prog k4 true Try.f4 d4 = true := by kernel_rfl
def k12 : FuncId → Bool := fun _ => false
theorem c12 : fnB Try.prog k12 true Try.f12 d12 = true := by kernel_rfl
def k13 : FuncId → Bool := fun f => f == 26
theorem c13 : fnB Try.prog k13 true Try.f13 d13 = true := by kernel_rfl
def k11 : FuncId → Bool := fun _ => false
theorem c11 : fnB Try.prog k11 true Try.f11 d11 = true := by kernel_rfl
def k52 : FuncId → Bool := fun f => f == 43
theorem c52 : fnB Try.prog k52 true Try.f52 d52 = true := by kernel_rfl
def k48 : FuncId → Bool := fun f => f == 27
theorem c48 : fnB Try.prog k48 true Try.f48 d48 = true := by kernel_rfl
def k44 : FuncId → Bool := fun f => f == 43 || f == 52
theorem c44 : fnB Try.prog k44 true Try.f44 d44 = true := by kernel_rfl
def k39 : FuncId → Bool := fun f => f == 27 || f == 48
theorem c39 : fnB Try.prog k39 true Try.f39 d39 = true := by kernel_rfl
def k28 : FuncId → Bool := fun f => f == 27
theorem c28 : fnB Try.prog k28 true Try.f28 d28 = true := by kernel_rfl
def k42 : FuncId → Bool := fun f => f == 51
theorem c42 : fnB Try.prog k42 true Try.f42 d42 = true := by kernel_rfl
def k32 : FuncId → Bool := fun f => f == 42
theorem c32 : fnB Try.prog k32 true Try.f32 d32 = true := by kernel_rfl
def k21 : FuncId → Bool := fun f => f == 32
theorem c21 : fnB Try.prog k21 true Try.f21 d21 = true := by kernel_rfl
def k15 : FuncId → Bool := fun f => f == 28
theorem c15 : fnB Try.prog k15 true Try.f15 d15 = true := by kernel_rfl
def k35 : FuncId → Bool := fun f => f == 36 || f == 43
theorem c35 : fnB Try.prog k35 true Try.f35 d35 = true := by kernel_rfl
def k16 : FuncId → Bool := fun f => f == 27
theorem c16 : fnB Try.prog k16 true Try.f16 d16 = true := by kernel_rfl
def k41 : FuncId → Bool := fun f => f == 27
theorem c41 : fnB Try.prog k41 true Try.f41 d41 = true := by kernel_rfl
def k31 : FuncId → Bool := fun f => f == 41
theorem c31 : fnB Try.prog k31 true Try.f31 d31 = true := by kernel_rfl
def k18 : FuncId → Bool := fun f => f == 31
theorem c18 : fnB Try.prog k18 true Try.f18 d18 = true := by kernel_rfl
def k38 : FuncId → Bool := fun f => f == 46 || f == 47
theorem c38 : fnB Try.prog k38 true Try.f38 d38 = true := by kernel_rfl
def k29 : FuncId → Bool := fun f => f == 14 || f == 15 || f == 16 || f == 38
theorem c29 : fnB Try.prog k29 true Try.f29 d29 = true := by kernel_rfl
def k22 : FuncId → Bool := fun f => f == 21 || f == 33 || f == 34 || f == 35
theorem c22 : fnB Try.prog k22 true Try.f22 d22 = true := by kernel_rfl
def k49 : FuncId → Bool := fun f => f == 50 || f == 54
theorem c49 : fnB Try.prog k49 true Try.f49 d49 = true := by kernel_rfl
def k53 : FuncId → Bool := fun f => f == 25
theorem c53 : fnB Try.prog k53 true Try.f53 d53 = true := by kernel_rfl
def k45 : FuncId → Bool := fun f => f == 25 || f == 53
theorem c45 : fnB Try.prog k45 true Try.f45 d45 = true := by kernel_rfl
def k40 : FuncId → Bool := fun f => f == 49 || f == 50
theorem c40 : fnB Try.prog k40 true Try.f40 d40 = true := by kernel_rfl
def k37 : FuncId → Bool := fun f => f == 44 || f == 45
theorem c37 : fnB Try.prog k37 true Try.f37 d37 = true := by kernel_rfl
def k30 : FuncId → Bool := fun f => f == 39 || f == 40
theorem c30 : fnB Try.prog k30 true Try.f30 d30 = true := by kernel_rfl
def k23 : FuncId → Bool := fun f => f == 22 || f == 24 || f == 35 || f == 36 || f == 37
theorem c23 : fnB Try.prog k23 true Try.f23 d23 = true := by kernel_rfl
def k17 : FuncId → Bool := fun f => f == 16 || f == 19 || f == 27 || f == 29 || f == 30
theorem c17 : fnB Try.prog k17 true Try.f17 d17 = true := by kernel_rfl
def k10 : FuncId → Bool := fun f => f == 21 || f == 22 || f == 23 || f == 24 || f == 25
theorem c10 : fnB Try.prog k10 true Try.f10 d10 = true := by kernel_rfl
def k6 : FuncId → Bool := fun f => f == 14 || f == 15 || f == 16 || f == 17 || f == 18 || f == 19
theorem c6 : fnB Try.prog k6 true Try.f6 d6 = true := by kernel_rfl
def k3 : FuncId → Bool := fun f => f == 4 || f == 5 || f == 6 || f == 7 || f == 8 || f == 9 || f == 10 || f == 11 || f == 12 || f == 13
theorem c3 : fnB Try.prog k3 true Try.f3 d3 = true := by kernel_rfl
end Go.Proofs.Ytbmkofeahjmkgac
end

section
set_option maxRecDepth 100000
set_option maxHeartbeats 2000000
set_option linter.unusedVariables false
set_option linter.unusedSimpArgs false
open Go Go.VC
namespace Go.Proofs.Ytbmkofeahjmkgac
theorem ok43 : FnOk Try.prog 43 sIn := fn_mk (C := conOf []) Try.func43 c43 mixed (by intro g h; cases h) (by rintro ⟨n, lo, hi⟩ hp; simp [d43, boxIx]) sIn_inj w43
theorem ok27 : FnOk Try.prog 27 sIn := fn_mk (C := conOf []) Try.func27 c27 mixed (by intro g h; cases h) (by rintro ⟨n, lo, hi⟩ hp; simp [d27, boxIx]) sIn_inj w27
theorem ok51 : FnOk Try.prog 51 sStage := fn_mk (C := conOf []) Try.func51 c51 mixed (by intro g h; cases h) (by rintro n hp; simp [d51, boxIx]) sStage_inj w51
theorem ok36 : FnOk Try.prog 36 sBell := fn_mk (C := conOf []) Try.func36 c36 mixed (by intro g h; cases h) (by rintro ⟨n, b⟩ hp; simp [d36, boxIx]) sBell_inj w36
theorem ok54 : FnOk Try.prog 54 sLeast := fn_mk (C := conOf []) Try.func54 c54 mixed (by intro g h; cases h) (by rintro ⟨a, b⟩ hp; simp [d54, boxIx]) sLeast_inj w54
theorem ok55 : FnOk Try.prog 55 sMost := fn_mk (C := conOf []) Try.func55 c55 mixed (by intro g h; cases h) (by rintro ⟨a, b⟩ hp; simp [d55, boxIx]) sMost_inj w55
theorem ok50 : FnOk Try.prog 50 sFar := fn_mk (C := conOf [(55, sMost)]) Try.func50 c50 mixed (by intro g h; simp [k50] at h; subst h; exact ok55) (by rintro ⟨a, b⟩ hp; simp [d50, boxIx]) sFar_inj w50
theorem ok25 : FnOk Try.prog 25 sAbs := fn_mk (C := conOf []) Try.func25 c25 mixed (by intro g h; cases h) (by rintro x hp; simp [d25, boxIx]) sAbs_inj w25
theorem ok34 : FnOk Try.prog 34 sBlow := fn_mk (C := conOf []) Try.func34 c34 mixed (by intro g h; cases h) (by rintro ⟨s, g, h, n, row, place⟩ hp; simp [d34, boxIx]) sBlow_inj w34
theorem ok47 : FnOk Try.prog 47 sBlow := fn_mk (C := conOf []) Try.func47 c47 mixed (by intro g h; cases h) (by rintro ⟨s, g, h, n, row, place⟩ hp; simp [d47, boxIx]) sBlow_inj w47
theorem ok33 : FnOk Try.prog 33 sBeat := fn_mk (C := conOf [(43, sIn)]) Try.func33 c33 mixed (by intro g h; simp [k33] at h; subst h; exact ok43) (by rintro ⟨s, g, h⟩ hp; simp [d33, boxIx]) sBeat_inj w33
theorem ok14 : FnOk Try.prog 14 sBeat := fn_mk (C := conOf [(27, sIn)]) Try.func14 c14 mixed (by intro g h; simp [k14] at h; subst h; exact ok27) (by rintro ⟨s, g, h⟩ hp; simp [d14, boxIx]) sBeat_inj w14
theorem ok7 : FnOk Try.prog 7 sToBeat := fn_mk (C := conOf []) Try.func7 c7 mixed (by intro g h; cases h) (by rintro ⟨s, g, h⟩ hp; simp [d7, boxIx]) sToBeat_inj w7
theorem ok20 : FnOk Try.prog 20 sToStrike := fn_mk (C := conOf []) Try.func20 c20 mixed (by intro g h; cases h) (by rintro ⟨p, q⟩ hp; simp [d20, boxIx]) sToStrike_inj w20
theorem ok26 : FnOk Try.prog 26 sEqSk := fn_mk (C := conOf []) Try.func26 c26 mixed (by intro g h; cases h) (by rintro ⟨p, q, r, t⟩ hp; simp [d26, boxIx]) sEqSk_inj w26
theorem ok46 : FnOk Try.prog 46 sAt := fn_mk (C := conOf []) Try.func46 c46 mixed (by intro g h; cases h) (by rintro ⟨r, p⟩ hp; simp [d46, boxIx]) sAt_inj w46
theorem ok24 : FnOk Try.prog 24 sOf := fn_mk (C := conOf []) Try.func24 c24 mixed (by intro g h; cases h) (by rintro ⟨l, b⟩ hp; simp [d24, boxIx]) sOf_inj w24
theorem ok19 : FnOk Try.prog 19 sOf := fn_mk (C := conOf []) Try.func19 c19 mixed (by intro g h; cases h) (by rintro ⟨l, b⟩ hp; simp [d19, boxIx]) sOf_inj w19
theorem ok8 : FnOk Try.prog 8 sToT := fn_mk (C := conOf []) Try.func8 c8 mixed (by intro g h; cases h) (by rintro a hp; simp [d8, boxIx]) sToT_inj w8
theorem ok9 : FnOk Try.prog 9 sToK := fn_mk (C := conOf [(20, sToStrike)]) Try.func9 c9 mixed (by intro g h; simp [k9] at h; subst h; exact ok20) (by rintro a hp; simp [d9, boxIx]) sToK_inj w9
theorem ok5 : FnOk Try.prog 5 sSzK := fn_mk (C := conOf []) Try.func5 c5 mixed (by intro g h; cases h) (by rintro ⟨a, b⟩ hp; simp [d5, boxIx]) sSzK_inj w5
theorem ok4 : FnOk Try.prog 4 sSzT := fn_mk (C := conOf []) Try.func4 c4 mixed (by intro g h; cases h) (by rintro ⟨a, b⟩ hp; simp [d4, boxIx]) sSzT_inj w4
theorem ok12 : FnOk Try.prog 12 sEqT := fn_mk (C := conOf []) Try.func12 c12 mixed (by intro g h; cases h) (by rintro ⟨a, b⟩ hp; simp [d12, boxIx]) sEqT_inj w12
theorem ok13 : FnOk Try.prog 13 sEqKs := fn_mk (C := conOf [(26, sEqSk)]) Try.func13 c13 mixed (by intro g h; simp [k13] at h; subst h; exact ok26) (by rintro ⟨a, b⟩ hp; simp [d13, boxIx]) sEqKs_inj w13
theorem ok11 : FnOk Try.prog 11 sEqJd := fn_mk (C := conOf []) Try.func11 c11 mixed (by intro g h; cases h) (by rintro ⟨a, b, c, d, a1, b1, c1, d1⟩ hp; simp [d11, boxIx]) sEqJd_inj w11
theorem ok52 : FnOk Try.prog 52 sTimes := fn_mk (C := conOf [(43, sIn)]) Try.func52 c52 mixed (by intro g h; simp [k52] at h; subst h; exact ok43) (by rintro l hp; simp [d52, boxIx]) sTimes_inj w52
theorem ok48 : FnOk Try.prog 48 sTimes := fn_mk (C := conOf [(27, sIn)]) Try.func48 c48 mixed (by intro g h; simp [k48] at h; subst h; exact ok27) (by rintro l hp; simp [d48, boxIx]) sTimes_inj w48
theorem ok44 : FnOk Try.prog 44 sAsked := fn_mk (C := conOf [(43, sIn), (52, sTimes)]) Try.func44 c44 mixed (by intro g h; simp [k44, or_assoc] at h; rcases h with rfl | rfl; exact ok43; exact ok52) (by rintro ⟨a, b, c⟩ hp; simp [d44, boxIx]) sAsked_inj w44
theorem ok39 : FnOk Try.prog 39 sAsked := fn_mk (C := conOf [(27, sIn), (48, sTimes)]) Try.func39 c39 mixed (by intro g h; simp [k39, or_assoc] at h; rcases h with rfl | rfl; exact ok27; exact ok48) (by rintro ⟨a, b, c⟩ hp; simp [d39, boxIx]) sAsked_inj w39
theorem ok28 : FnOk Try.prog 28 sRow := fn_mk (C := conOf [(27, sIn)]) Try.func28 c28 mixed (by intro g h; simp [k28] at h; subst h; exact ok27) (by rintro r hp; simp [d28, boxIx]) sRow_inj w28
theorem ok42 : FnOk Try.prog 42 sRow := fn_mk (C := conOf [(51, sStage)]) Try.func42 c42 mixed (by intro g h; simp [k42] at h; subst h; exact ok51) (by rintro r hp; simp [d42, boxIx]) sRow_inj w42
theorem ok32 : FnOk Try.prog 32 sRowOf := fn_mk (C := conOf [(42, sRow)]) Try.func32 c32 mixed (by intro g h; simp [k32] at h; subst h; exact ok42) (by rintro ⟨n, r⟩ hp; simp [d32, boxIx]) sRowOf_inj w32
theorem ok21 : FnOk Try.prog 21 sRows := fn_mk (C := conOf [(32, sRowOf)]) Try.func21 c21 mixed (by intro g h; simp [k21] at h; subst h; exact ok32) (by rintro l hp; simp [d21, boxIx]) sRows_inj w21
theorem ok15 : FnOk Try.prog 15 sRows := fn_mk (C := conOf [(28, sRow)]) Try.func15 c15 mixed (by intro g h; simp [k15] at h; subst h; exact ok28) (by rintro l hp; simp [d15, boxIx]) sRows_inj w15
theorem ok35 : FnOk Try.prog 35 sStrikes := fn_mk (C := conOf [(36, sBell), (43, sIn)]) Try.func35 c35 mixed (by intro g h; simp [k35, or_assoc] at h; rcases h with rfl | rfl; exact ok36; exact ok43) (by rintro l hp; simp [d35, boxIx]) sStrikes_inj w35
theorem ok16 : FnOk Try.prog 16 sStrikes := fn_mk (C := conOf [(27, sIn)]) Try.func16 c16 mixed (by intro g h; simp [k16] at h; subst h; exact ok27) (by rintro l hp; simp [d16, boxIx]) sStrikes_inj w16
theorem ok41 : FnOk Try.prog 41 sAll := fn_mk (C := conOf [(27, sIn)]) Try.func41 c41 mixed (by intro g h; simp [k41] at h; subst h; exact ok27) (by rintro ⟨l, lo, up⟩ hp; simp [d41, boxIx]) sAll_inj w41
theorem ok31 : FnOk Try.prog 31 sOfM := fn_mk (C := conOf [(41, sAll)]) Try.func31 c31 mixed (by intro g h; simp [k31] at h; subst h; exact ok41) (by rintro ⟨l, c, most⟩ hp; simp [d31, boxIx]) sOfM_inj w31
theorem ok18 : FnOk Try.prog 18 sMissed := fn_mk (C := conOf [(31, sOfM)]) Try.func18 c18 mixed (by intro g h; simp [k18] at h; subst h; exact ok31) (by rintro ⟨l, c⟩ hp; simp [d18, boxIx]) sMissed_inj w18
theorem ok38 : FnOk Try.prog 38 sIdealL := fn_mk (C := conOf [(46, sAt), (47, sBlow)]) Try.func38 c38 mixed (by intro g h; simp [k38, or_assoc] at h; rcases h with rfl | rfl; exact ok46; exact ok47) (by rintro ⟨s, g, a, rows⟩ hp; simp [d38, boxIx]) sIdealL_inj w38
theorem ok29 : FnOk Try.prog 29 sIdeal := fn_mk (C := conOf [(14, sBeat), (15, sRows), (16, sStrikes), (38, sIdealL)]) Try.func29 c29 mixed (by intro g h; simp [k29, or_assoc] at h; rcases h with rfl | rfl | rfl | rfl; exact ok14; exact ok15; exact ok16; exact ok38) (by rintro ⟨s, g, a, rows⟩ hp; simp [d29, boxIx]) sIdeal_inj w29
theorem ok22 : FnOk Try.prog 22 sIdeal := fn_mk (C := conOf [(21, sRows), (33, sBeat), (34, sBlow), (35, sStrikes)]) Try.func22 c22 mixed (by intro g h; simp [k22, or_assoc] at h; rcases h with rfl | rfl | rfl | rfl; exact ok21; exact ok33; exact ok34; exact ok35) (by rintro ⟨s, g, a, rows⟩ hp; simp [d22, boxIx]) sIdeal_inj w22
theorem ok49 : FnOk Try.prog 49 sPrices := fn_mk (C := conOf [(50, sFar), (54, sLeast)]) Try.func49 c49 mixed (by intro g h; simp [k49, or_assoc] at h; rcases h with rfl | rfl; exact ok50; exact ok54) (by rintro ⟨a, b, skip⟩ hp; simp [d49, boxIx]) sPrices_inj w49
theorem ok53 : FnOk Try.prog 53 sPrices := fn_mk (C := conOf [(25, sAbs)]) Try.func53 c53 mixed (by intro g h; simp [k53] at h; subst h; exact ok25) (by rintro ⟨a, b, skip⟩ hp; simp [d53, boxIx]) sPrices_inj w53
theorem ok45 : FnOk Try.prog 45 sBestM := fn_mk (C := conOf [(25, sAbs), (53, sPrices)]) Try.func45 c45 mixed (by intro g h; simp [k45, or_assoc] at h; rcases h with rfl | rfl; exact ok25; exact ok53) (by rintro ⟨a, b, skip⟩ hp; simp [d45, boxIx]) sBestM_inj w45
theorem ok40 : FnOk Try.prog 40 sBestM := fn_mk (C := conOf [(49, sPrices), (50, sFar)]) Try.func40 c40 mixed (by intro g h; simp [k40, or_assoc] at h; rcases h with rfl | rfl; exact ok49; exact ok50) (by rintro ⟨a, b, skip⟩ hp; simp [d40, boxIx]) sBestM_inj w40
theorem ok37 : FnOk Try.prog 37 sBest := fn_mk (C := conOf [(44, sAsked), (45, sBestM)]) Try.func37 c37 mixed (by intro g h; simp [k37, or_assoc] at h; rcases h with rfl | rfl; exact ok44; exact ok45) (by rintro ⟨a, b, skip⟩ hp; simp [d37, boxIx]) sBest_inj w37
theorem ok30 : FnOk Try.prog 30 sBest := fn_mk (C := conOf [(39, sAsked), (40, sBestM)]) Try.func30 c30 mixed (by intro g h; simp [k30, or_assoc] at h; rcases h with rfl | rfl; exact ok39; exact ok40) (by rintro ⟨a, b, skip⟩ hp; simp [d30, boxIx]) sBest_inj w30
theorem ok23 : FnOk Try.prog 23 sMatchB := fn_mk (C := conOf [(22, sIdeal), (24, sOf), (35, sStrikes), (36, sBell), (37, sBest)]) Try.func23 c23 mixed (by intro g h; simp [k23, or_assoc] at h; rcases h with rfl | rfl | rfl | rfl | rfl; exact ok22; exact ok24; exact ok35; exact ok36; exact ok37) (by rintro ⟨s, g, a, rows, l, bell, skip⟩ hp; simp [d23, boxIx]) sMatchB_inj w23
theorem ok17 : FnOk Try.prog 17 sMatchB := fn_mk (C := conOf [(16, sStrikes), (19, sOf), (27, sIn), (29, sIdeal), (30, sBest)]) Try.func17 c17 mixed (by intro g h; simp [k17, or_assoc] at h; rcases h with rfl | rfl | rfl | rfl | rfl; exact ok16; exact ok19; exact ok27; exact ok29; exact ok30) (by rintro ⟨s, g, a, rows, l, bell, skip⟩ hp; simp [d17, boxIx]) sMatchB_inj w17
theorem ok10 : FnOk Try.prog 10 sJudge := fn_mk (C := conOf [(21, sRows), (22, sIdeal), (23, sMatchB), (24, sOf), (25, sAbs)]) Try.func10 c10 mixed (by intro g h; simp [k10, or_assoc] at h; rcases h with rfl | rfl | rfl | rfl | rfl; exact ok21; exact ok22; exact ok23; exact ok24; exact ok25) (by rintro ⟨s, g, a, rows, l, skip⟩ hp; simp [d10, boxIx]) sJudge_inj w10
theorem ok6 : FnOk Try.prog 6 sJudge := fn_mk (C := conOf [(14, sBeat), (15, sRows), (16, sStrikes), (17, sMatchB), (18, sMissed), (19, sOf)]) Try.func6 c6 mixed (by intro g h; simp [k6, or_assoc] at h; rcases h with rfl | rfl | rfl | rfl | rfl | rfl; exact ok14; exact ok15; exact ok16; exact ok17; exact ok18; exact ok19) (by rintro ⟨s, g, a, rows, l, skip⟩ hp; simp [d6, boxIx]) sJudge_inj w6
theorem ok3 : FnOk Try.prog 3 sLaw := fn_mk (C := conOf [(4, sSzT), (5, sSzK), (6, sJudge), (7, sToBeat), (8, sToT), (9, sToK), (10, sJudge), (11, sEqJd), (12, sEqT), (13, sEqKs)]) Try.func3 c3 mixed (by intro g h; simp [k3, or_assoc] at h; rcases h with rfl | rfl | rfl | rfl | rfl | rfl | rfl | rfl | rfl | rfl; exact ok4; exact ok5; exact ok6; exact ok7; exact ok8; exact ok9; exact ok10; exact ok11; exact ok12; exact ok13) (by rintro ⟨s, g, a, rows, l, skip⟩ hp; simp [d3, boxIx]) sLaw_inj w3
end Go.Proofs.Ytbmkofeahjmkgac
end
