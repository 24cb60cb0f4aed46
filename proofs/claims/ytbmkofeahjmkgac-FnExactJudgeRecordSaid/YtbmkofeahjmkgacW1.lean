/- What the told functions compute, each function once. -/
import Derived.Test.YtbmkofeahjmkgacT1
section
set_option maxRecDepth 100000
set_option maxHeartbeats 2000000
set_option linter.unusedVariables false
set_option linter.unusedSimpArgs false
open Go Go.VC
namespace Go.Proofs.Ytbmkofeahjmkgac
def within (n lo hi : Int) : Bool := decide (lo ≤ n) && decide (n ≤ hi)
theorem within_iff {n lo hi : Int} : within n lo hi = true ↔ lo ≤ n ∧ n ≤ hi := by simp [within]
theorem within_no {n lo hi : Int} : within n lo hi = false ↔ n < lo ∨ hi < n := by simp [within]; omega
abbrev R {α : Type} (e : TypeId) (f : α → D) (l : List α) : D := .nd (.row false e ()) (l.map f)
abbrev Wr {α : Type} (e : TypeId) (f : α → D) (l : List α) : D := .nd (.row true e ()) (l.map f)
abbrev sIn_A : Int × Int × Int → List D := fun (n, lo, hi) => [i64 n, i64 lo, i64 hi]
theorem sIn_inj : ∀ x y, sIn_A x = sIn_A y → x = y := by
  rintro ⟨n, lo, hi⟩ ⟨n', lo', hi'⟩ h; simpa [Prod.ext_iff, and_assoc] using h
def sIn : List D → VC.Spec := mk sIn_A (fun _ : Int × Int × Int => True) (fun (n, lo, hi) rs fin => rs = [dBool (within n lo hi)] ∧ fin = [])
theorem sIn_pre {n : Int} {lo : Int} {hi : Int} : (sIn [i64 n, i64 lo, i64 hi]).pre = (True) := mk_preI sIn_inj (n, lo, hi)
theorem sIn_post {n : Int} {lo : Int} {hi : Int} {rs fin : List D} : (sIn [i64 n, i64 lo, i64 hi]).post rs fin = (rs = [dBool (within n lo hi)] ∧ fin = []) := mk_postI sIn_inj (n, lo, hi) trivial
theorem w43 : WalkOk [] sIn_A (fun _ : Int × Int × Int => True) (fun (n, lo, hi) rs fin => rs = [dBool (within n lo hi)] ∧ fin = []) d43 := by
  rintro ⟨n, lo, hi⟩ hp hf
  replace hf : Tr.factsL [i64 n, i64 lo, i64 hi] := hf
  simp +contextual [CondK, gN_any, gS_any, d43, m43, sIn_A, boxIx, within] <;> intros <;> omega
theorem w27 : WalkOk [] sIn_A (fun _ : Int × Int × Int => True) (fun (n, lo, hi) rs fin => rs = [dBool (within n lo hi)] ∧ fin = []) d27 := by
  rintro ⟨n, lo, hi⟩ hp hf
  replace hf : Tr.factsL [i64 n, i64 lo, i64 hi] := hf
  simp +contextual [CondK, gN_any, gS_any, d27, m27, sIn_A, boxIx, within] <;> intros <;> omega
abbrev sStage_A : Int → List D := fun n => [i64 n]
theorem sStage_inj : ∀ x y, sStage_A x = sStage_A y → x = y := by
  intro x y h; simpa [Prod.ext_iff, and_assoc] using h
def sStage : List D → VC.Spec := mk sStage_A (fun _ : Int => True) (fun n rs fin => rs = [dBool (within n 3 8)] ∧ fin = [])
theorem sStage_pre {n : Int} : (sStage [i64 n]).pre = (True) := mk_preI sStage_inj (n)
theorem sStage_post {n : Int} {rs fin : List D} : (sStage [i64 n]).post rs fin = (rs = [dBool (within n 3 8)] ∧ fin = []) := mk_postI sStage_inj (n) trivial
theorem w51 : WalkOk [] sStage_A (fun _ : Int => True) (fun n rs fin => rs = [dBool (within n 3 8)] ∧ fin = []) d51 := by
  rintro n hp hf
  replace hf : Tr.factsL [i64 n] := hf
  simp +contextual [CondK, gN_any, gS_any, d51, m51, sStage_A, boxIx, within] <;> intros <;> omega
abbrev sBell_A : Int × Int → List D := fun (n, b) => [i64 n, i64 b]
theorem sBell_inj : ∀ x y, sBell_A x = sBell_A y → x = y := by
  rintro ⟨n, b⟩ ⟨n', b'⟩ h; simpa [Prod.ext_iff, and_assoc] using h
def sBell : List D → VC.Spec := mk sBell_A (fun _ : Int × Int => True) (fun (n, b) rs fin => rs = [dBool (within b 1 n)] ∧ fin = [])
theorem sBell_pre {n : Int} {b : Int} : (sBell [i64 n, i64 b]).pre = (True) := mk_preI sBell_inj (n, b)
theorem sBell_post {n : Int} {b : Int} {rs fin : List D} : (sBell [i64 n, i64 b]).post rs fin = (rs = [dBool (within b 1 n)] ∧ fin = []) := mk_postI sBell_inj (n, b) trivial
theorem w36 : WalkOk [] sBell_A (fun _ : Int × Int => True) (fun (n, b) rs fin => rs = [dBool (within b 1 n)] ∧ fin = []) d36 := by
  rintro ⟨n, b⟩ hp hf
  replace hf : Tr.factsL [i64 n, i64 b] := hf
  simp +contextual [CondK, gN_any, gS_any, d36, m36, sBell_A, boxIx, within] <;> intros <;> omega
abbrev sLeast_A : Int × Int → List D := fun (a, b) => [i64 a, i64 b]
theorem sLeast_inj : ∀ x y, sLeast_A x = sLeast_A y → x = y := by
  rintro ⟨a, b⟩ ⟨a', b'⟩ h; simpa [Prod.ext_iff, and_assoc] using h
def sLeast : List D → VC.Spec := mk sLeast_A (fun _ : Int × Int => True) (fun (a, b) rs fin => rs = [i64 (min a b)] ∧ fin = [])
theorem sLeast_pre {a : Int} {b : Int} : (sLeast [i64 a, i64 b]).pre = (True) := mk_preI sLeast_inj (a, b)
theorem sLeast_post {a : Int} {b : Int} {rs fin : List D} : (sLeast [i64 a, i64 b]).post rs fin = (rs = [i64 (min a b)] ∧ fin = []) := mk_postI sLeast_inj (a, b) trivial
theorem w54 : WalkOk [] sLeast_A (fun _ : Int × Int => True) (fun (a, b) rs fin => rs = [i64 (min a b)] ∧ fin = []) d54 := by
  rintro ⟨a, b⟩ hp hf
  replace hf : Tr.factsL [i64 a, i64 b] := hf
  simp +contextual [CondK, gN_any, gS_any, d54, m54, sLeast_A, boxIx]; omega
abbrev sMost_A : Int × Int → List D := fun (a, b) => [i64 a, i64 b]
theorem sMost_inj : ∀ x y, sMost_A x = sMost_A y → x = y := by
  rintro ⟨a, b⟩ ⟨a', b'⟩ h; simpa [Prod.ext_iff, and_assoc] using h
def sMost : List D → VC.Spec := mk sMost_A (fun _ : Int × Int => True) (fun (a, b) rs fin => rs = [i64 (max a b)] ∧ fin = [])
theorem sMost_pre {a : Int} {b : Int} : (sMost [i64 a, i64 b]).pre = (True) := mk_preI sMost_inj (a, b)
theorem sMost_post {a : Int} {b : Int} {rs fin : List D} : (sMost [i64 a, i64 b]).post rs fin = (rs = [i64 (max a b)] ∧ fin = []) := mk_postI sMost_inj (a, b) trivial
theorem w55 : WalkOk [] sMost_A (fun _ : Int × Int => True) (fun (a, b) rs fin => rs = [i64 (max a b)] ∧ fin = []) d55 := by
  rintro ⟨a, b⟩ hp hf
  replace hf : Tr.factsL [i64 a, i64 b] := hf
  simp +contextual [CondK, gN_any, gS_any, d55, m55, sMost_A, boxIx]; omega
def far (a b : Int) : Int := max (a - b) (b - a)
abbrev sFar_A : Int × Int → List D := fun (a, b) => [i64 a, i64 b]
theorem sFar_inj : ∀ x y, sFar_A x = sFar_A y → x = y := by
  rintro ⟨a, b⟩ ⟨a', b'⟩ h; simpa [Prod.ext_iff, and_assoc] using h
def sFar : List D → VC.Spec := mk sFar_A (fun (a, b) => far a b ≤ 9223372036854775807) (fun (a, b) rs fin => rs = [i64 (far a b)] ∧ fin = [])
theorem sFar_pre {a : Int} {b : Int} : (sFar [i64 a, i64 b]).pre = (far a b ≤ 9223372036854775807) := mk_preI sFar_inj (a, b)
theorem sFar_post {a : Int} {b : Int} {rs fin : List D} (h : far a b ≤ 9223372036854775807) : (sFar [i64 a, i64 b]).post rs fin = (rs = [i64 (far a b)] ∧ fin = []) := mk_postI sFar_inj (a, b) h
theorem w50 : WalkOk [(55, sMost)] sFar_A (fun (a, b) => far a b ≤ 9223372036854775807) (fun (a, b) rs fin => rs = [i64 (far a b)] ∧ fin = []) d50 := by
  rintro ⟨a, b⟩ hp hf
  replace hf : Tr.factsL [i64 a, i64 b] := hf
  replace hp : far a b ≤ 9223372036854775807 := hp
  simp only [far] at hp
  have h1 : IntKind.i64.wrap (a - b) = a - b := wrap64 (by omega) (by omega)
  have h2 : IntKind.i64.wrap (b - a) = b - a := wrap64 (by omega) (by omega)
  simp +contextual [CondK, gN_any, gS_any, d50, m50, sFar_A, boxIx, conOf_cons, sMost_pre, sMost_post, h1, h2, far]
abbrev sAbs_A : Int → List D := fun x => [i64 x]
theorem sAbs_inj : ∀ x y, sAbs_A x = sAbs_A y → x = y := by
  intro x y h; simpa [Prod.ext_iff, and_assoc] using h
def sAbs : List D → VC.Spec := mk sAbs_A (fun x : Int => -9223372036854775807 ≤ x) (fun x rs fin => rs = [i64 (max x (-x))] ∧ fin = [])
theorem sAbs_pre {x : Int} : (sAbs [i64 x]).pre = (-9223372036854775807 ≤ x) := mk_preI sAbs_inj (x)
theorem sAbs_post {x : Int} {rs fin : List D} (h : -9223372036854775807 ≤ x) : (sAbs [i64 x]).post rs fin = (rs = [i64 (max x (-x))] ∧ fin = []) := mk_postI sAbs_inj (x) h
theorem w25 : WalkOk [] sAbs_A (fun x : Int => -9223372036854775807 ≤ x) (fun x rs fin => rs = [i64 (max x (-x))] ∧ fin = []) d25 := by
  rintro x hp hf
  replace hf : Tr.factsL [i64 x] := hf
  replace hp : -9223372036854775807 ≤ x := hp
  simp at hf
  have h1 : IntKind.i64.wrap (-x) = -x := wrap64 (by simp only [hiOf, loOf] at hf; omega) (by omega)
  simp +contextual [CondK, gN_any, gS_any, d25, m25, sAbs_A, boxIx, h1, Int.max_def]
  split <;> split <;> omega
end Go.Proofs.Ytbmkofeahjmkgac
end

section
set_option maxRecDepth 100000
set_option maxHeartbeats 2000000
set_option linter.unusedVariables false
set_option linter.unusedSimpArgs false
open Go Go.VC
namespace Go.Proofs.Ytbmkofeahjmkgac
/-! strikes and beats -/
abbrev W := IntKind.i64.wrap
abbrev Beat := Int × Int × Int
abbrev bt (b : Beat) : D := .nd .agg [i64 b.1, i64 b.2.1, i64 b.2.2]
abbrev Strike := Int × Int
abbrev sk (s : Strike) : D := .nd .agg [i64 s.1, i64 s.2]
@[simp] theorem sk_inj {l l' : List Strike} : (l.map sk = l'.map sk) = (l = l') := map_inj fun x y h => by obtain ⟨a, b⟩ := x; obtain ⟨c, d⟩ := y; simpa using h
@[simp] theorem plains_sk (l : List Strike) : Tr.plains (l.map sk) = true := plains_map fun _ => rfl
@[simp] theorem roizes_sk (l : List Strike) : Tr.roizes (l.map sk) = l.map sk := roizes_mapD fun _ => rfl
@[simp] theorem noRds_sk (l : List Strike) : Tr.noRds (l.map sk) = true := noRds_map fun _ => rfl
def blow (b : Beat) (n row place : Int) : Int := W (W (b.1 + W (b.2.1 * W (W (W (n * row) + place) - 1))) + W (b.2.2 * W (row.tdiv 2)))
abbrev sBlow_A : Int × Int × Int × Int × Int × Int → List D := fun (s, g, h, n, row, place) => [.nd .agg [i64 s, i64 g, i64 h], i64 n, i64 row, i64 place]
theorem sBlow_inj : ∀ x y, sBlow_A x = sBlow_A y → x = y := by
  rintro ⟨s, g, h, n, row, place⟩ ⟨s', g', h', n', row', place'⟩ h; simpa [Prod.ext_iff, and_assoc] using h
def sBlow : List D → VC.Spec := mk sBlow_A (fun _ : Int × Int × Int × Int × Int × Int => True) (fun (s, g, h, n, row, place) rs fin => rs = [i64 (blow (s, g, h) n row place)] ∧ fin = [])
theorem sBlow_pre {s : Int} {g : Int} {h : Int} {n : Int} {row : Int} {place : Int} : (sBlow [.nd .agg [i64 s, i64 g, i64 h], i64 n, i64 row, i64 place]).pre = (True) := mk_preI sBlow_inj (s, g, h, n, row, place)
theorem sBlow_post {s : Int} {g : Int} {h : Int} {n : Int} {row : Int} {place : Int} {rs fin : List D} : (sBlow [.nd .agg [i64 s, i64 g, i64 h], i64 n, i64 row, i64 place]).post rs fin = (rs = [i64 (blow (s, g, h) n row place)] ∧ fin = []) := mk_postI sBlow_inj (s, g, h, n, row, place) trivial
theorem w34 : WalkOk [] sBlow_A (fun _ : Int × Int × Int × Int × Int × Int => True) (fun (s, g, h, n, row, place) rs fin => rs = [i64 (blow (s, g, h) n row place)] ∧ fin = []) d34 := by
  rintro ⟨s, g, h, n, row, place⟩ hp hf
  replace hf : Tr.factsL [.nd .agg [i64 s, i64 g, i64 h], i64 n, i64 row, i64 place] := hf
  simp [d34, m34, sBlow_A, boxIx, blow]
theorem w47 : WalkOk [] sBlow_A (fun _ : Int × Int × Int × Int × Int × Int => True) (fun (s, g, h, n, row, place) rs fin => rs = [i64 (blow (s, g, h) n row place)] ∧ fin = []) d47 := by
  rintro ⟨s, g, h, n, row, place⟩ hp hf
  replace hf : Tr.factsL [.nd .agg [i64 s, i64 g, i64 h], i64 n, i64 row, i64 place] := hf
  simp [d47, m47, sBlow_A, boxIx, blow]
def goodBeat (b : Beat) : Bool := within b.1 0 1000000 && within b.2.1 1 2000 && within b.2.2 0 2000
abbrev sBeat_A : Int × Int × Int → List D := fun (s, g, h) => [.nd .agg [i64 s, i64 g, i64 h]]
theorem sBeat_inj : ∀ x y, sBeat_A x = sBeat_A y → x = y := by
  rintro ⟨s, g, h⟩ ⟨s', g', h'⟩ h; simpa [Prod.ext_iff, and_assoc] using h
def sBeat : List D → VC.Spec := mk sBeat_A (fun _ : Int × Int × Int => True) (fun (s, g, h) rs fin => rs = [dBool (goodBeat (s, g, h))] ∧ fin = [])
theorem sBeat_pre {s : Int} {g : Int} {h : Int} : (sBeat [.nd .agg [i64 s, i64 g, i64 h]]).pre = (True) := mk_preI sBeat_inj (s, g, h)
theorem sBeat_post {s : Int} {g : Int} {h : Int} {rs fin : List D} : (sBeat [.nd .agg [i64 s, i64 g, i64 h]]).post rs fin = (rs = [dBool (goodBeat (s, g, h))] ∧ fin = []) := mk_postI sBeat_inj (s, g, h) trivial
theorem w33 : WalkOk [(43, sIn)] sBeat_A (fun _ : Int × Int × Int => True) (fun (s, g, h) rs fin => rs = [dBool (goodBeat (s, g, h))] ∧ fin = []) d33 := by
  rintro ⟨s, g, h⟩ hp hf
  replace hf : Tr.factsL [.nd .agg [i64 s, i64 g, i64 h]] := hf
  simp +contextual [CondK, gN_any, gS_any, d33, m33, sBeat_A, boxIx, conOf_cons, sIn_pre, sIn_post, goodBeat]
theorem w14 : WalkOk [(27, sIn)] sBeat_A (fun _ : Int × Int × Int => True) (fun (s, g, h) rs fin => rs = [dBool (goodBeat (s, g, h))] ∧ fin = []) d14 := by
  rintro ⟨s, g, h⟩ hp hf
  replace hf : Tr.factsL [.nd .agg [i64 s, i64 g, i64 h]] := hf
  simp +contextual [CondK, gN_any, gS_any, d14, m14, sBeat_A, boxIx, conOf_cons, sIn_pre, sIn_post, goodBeat]
abbrev sToBeat_A : Int × Int × Int → List D := fun (s, g, h) => [.nd .agg [i64 s, i64 g, i64 h]]
theorem sToBeat_inj : ∀ x y, sToBeat_A x = sToBeat_A y → x = y := by
  rintro ⟨s, g, h⟩ ⟨s', g', h'⟩ h; simpa [Prod.ext_iff, and_assoc] using h
def sToBeat : List D → VC.Spec := mk sToBeat_A (fun _ : Int × Int × Int => True) (fun (s, g, h) rs fin => rs = [bt (s, g, h)] ∧ fin = [])
theorem sToBeat_pre {s : Int} {g : Int} {h : Int} : (sToBeat [.nd .agg [i64 s, i64 g, i64 h]]).pre = (True) := mk_preI sToBeat_inj (s, g, h)
theorem sToBeat_post {s : Int} {g : Int} {h : Int} {rs fin : List D} : (sToBeat [.nd .agg [i64 s, i64 g, i64 h]]).post rs fin = (rs = [bt (s, g, h)] ∧ fin = []) := mk_postI sToBeat_inj (s, g, h) trivial
theorem w7 : WalkOk [] sToBeat_A (fun _ : Int × Int × Int => True) (fun (s, g, h) rs fin => rs = [bt (s, g, h)] ∧ fin = []) d7 := by
  rintro ⟨s, g, h⟩ hp hf
  replace hf : Tr.factsL [.nd .agg [i64 s, i64 g, i64 h]] := hf
  simp [d7, m7, sToBeat_A, boxIx]
abbrev sToStrike_A : Int × Int → List D := fun (p, q) => [.nd .agg [i64 p, i64 q]]
theorem sToStrike_inj : ∀ x y, sToStrike_A x = sToStrike_A y → x = y := by
  rintro ⟨p, q⟩ ⟨p', q'⟩ h; simpa [Prod.ext_iff, and_assoc] using h
def sToStrike : List D → VC.Spec := mk sToStrike_A (fun _ : Int × Int => True) (fun (p, q) rs fin => rs = [sk (p, q)] ∧ fin = [])
theorem sToStrike_pre {p : Int} {q : Int} : (sToStrike [.nd .agg [i64 p, i64 q]]).pre = (True) := mk_preI sToStrike_inj (p, q)
theorem sToStrike_post {p : Int} {q : Int} {rs fin : List D} : (sToStrike [.nd .agg [i64 p, i64 q]]).post rs fin = (rs = [sk (p, q)] ∧ fin = []) := mk_postI sToStrike_inj (p, q) trivial
theorem w20 : WalkOk [] sToStrike_A (fun _ : Int × Int => True) (fun (p, q) rs fin => rs = [sk (p, q)] ∧ fin = []) d20 := by
  rintro ⟨p, q⟩ hp hf
  replace hf : Tr.factsL [.nd .agg [i64 p, i64 q]] := hf
  simp [d20, m20, sToStrike_A, boxIx]
abbrev sEqSk_A : Int × Int × Int × Int → List D := fun (p, q, r, t) => [.nd .agg [i64 p, i64 q], .nd .agg [i64 r, i64 t]]
theorem sEqSk_inj : ∀ x y, sEqSk_A x = sEqSk_A y → x = y := by
  rintro ⟨p, q, r, t⟩ ⟨p', q', r', t'⟩ h; simpa [Prod.ext_iff, and_assoc] using h
def sEqSk : List D → VC.Spec := mk sEqSk_A (fun _ : Int × Int × Int × Int => True) (fun (p, q, r, t) rs fin => rs = [dBool (decide (p = r) && decide (q = t))] ∧ fin = [])
theorem sEqSk_pre {p : Int} {q : Int} {r : Int} {t : Int} : (sEqSk [.nd .agg [i64 p, i64 q], .nd .agg [i64 r, i64 t]]).pre = (True) := mk_preI sEqSk_inj (p, q, r, t)
theorem sEqSk_post {p : Int} {q : Int} {r : Int} {t : Int} {rs fin : List D} : (sEqSk [.nd .agg [i64 p, i64 q], .nd .agg [i64 r, i64 t]]).post rs fin = (rs = [dBool (decide (p = r) && decide (q = t))] ∧ fin = []) := mk_postI sEqSk_inj (p, q, r, t) trivial
theorem w26 : WalkOk [] sEqSk_A (fun _ : Int × Int × Int × Int => True) (fun (p, q, r, t) rs fin => rs = [dBool (decide (p = r) && decide (q = t))] ∧ fin = []) d26 := by
  rintro ⟨p, q, r, t⟩ hp hf
  replace hf : Tr.factsL [.nd .agg [i64 p, i64 q], .nd .agg [i64 r, i64 t]] := hf
  simp +contextual [CondK, gN_any, gS_any, d26, m26, sEqSk_A, boxIx, Prod.ext_iff]
/-- the digit at a place -/
def at_ (r : ByteArray) (place : Int) : Int := IntKind.u8.wrap (byteAt r (place - 1) - 48)
theorem u8_i64 (n : Int) : IntKind.i64.wrap (IntKind.u8.wrap n) = IntKind.u8.wrap n := by
  have := wrap_in .u8 n
  simp only [loOf, hiOf] at this
  exact wrap64 (by omega) (by omega)
abbrev sAt_A : ByteArray × Int → List D := fun (r, p) => [dStr r, i64 p]
theorem sAt_inj : ∀ x y, sAt_A x = sAt_A y → x = y := by
  rintro ⟨r, p⟩ ⟨r', p'⟩ h; simpa [Prod.ext_iff, and_assoc] using h
def sAt : List D → VC.Spec := mk sAt_A (fun (r, p) => 1 ≤ p ∧ p ≤ r.size) (fun (r, p) rs fin => rs = [i64 (at_ r p)] ∧ fin = [])
theorem sAt_pre {r : ByteArray} {p : Int} : (sAt [dStr r, i64 p]).pre = (1 ≤ p ∧ p ≤ r.size) := mk_preI sAt_inj (r, p)
theorem sAt_post {r : ByteArray} {p : Int} {rs fin : List D} (h : 1 ≤ p ∧ p ≤ r.size) : (sAt [dStr r, i64 p]).post rs fin = (rs = [i64 (at_ r p)] ∧ fin = []) := mk_postI sAt_inj (r, p) h
theorem w46 : WalkOk [] sAt_A (fun (r, p) => 1 ≤ p ∧ p ≤ r.size) (fun (r, p) rs fin => rs = [i64 (at_ r p)] ∧ fin = []) d46 := by
  rintro ⟨r, p⟩ hp hf
  replace hf : Tr.factsL [dStr r, i64 p] := hf
  replace hp : 1 ≤ p ∧ p ≤ r.size := hp
  obtain ⟨h1, h2⟩ := hp
  simp at hf h1 h2
  have e : IntKind.i64.wrap (p - 1) = p - 1 := wrap64 (by omega) (by omega)
  simp +contextual [CondK, gN_any, gS_any, d46, m46, sAt_A, boxIx, e, at_, u8_i64]
  omega
def ofBell (l : List Strike) (bell : Int) : List Int := (l.filter fun s => s.1 == bell).map (·.2)
theorem ofBell_succ {l : List Strike} {i : Nat} {x : Strike} (h : l[i]? = some x) (b : Int) : ofBell (l.take (i + 1)) b = ofBell (l.take i) b ++ if x.1 = b then [x.2] else [] := by
  rw [take_succ' h]; unfold ofBell; rw [List.filter_append, List.map_append]
  by_cases hx : x.1 = b <;> simp [hx]
theorem ofBell_le (l : List Strike) (b : Int) : (ofBell l b).length ≤ l.length := by simp only [ofBell, List.length_map]; exact List.length_filter_le _ _
abbrev sOf_A : List Strike × Int → List D := fun (l, b) => [R 53 sk l, i64 b]
theorem sOf_inj : ∀ x y, sOf_A x = sOf_A y → x = y := by
  rintro ⟨l, b⟩ ⟨l', b'⟩ h; simpa [Prod.ext_iff, and_assoc] using h
def sOf : List D → VC.Spec := mk sOf_A (fun (l, b) => (l.length : Int) * 8 ≤ 140737488355328) (fun (l, b) rs fin => rs = [Wr 3 i64 (ofBell l b)] ∧ fin = [])
theorem sOf_pre {l : List Strike} {b : Int} : (sOf [R 53 sk l, i64 b]).pre = ((l.length : Int) * 8 ≤ 140737488355328) := mk_preI sOf_inj (l, b)
theorem sOf_post {l : List Strike} {b : Int} {rs fin : List D} (h : (l.length : Int) * 8 ≤ 140737488355328) : (sOf [R 53 sk l, i64 b]).post rs fin = (rs = [Wr 3 i64 (ofBell l b)] ∧ fin = []) := mk_postI sOf_inj (l, b) h
theorem w24 : WalkOk [] sOf_A (fun (l, b) => (l.length : Int) * 8 ≤ 140737488355328) (fun (l, b) rs fin => rs = [Wr 3 i64 (ofBell l b)] ∧ fin = []) d24 := by
  rintro ⟨l, b⟩ hp hf
  replace hf : Tr.factsL [R 53 sk l, i64 b] := hf
  replace hp : (l.length : Int) * 8 ≤ 140737488355328 := hp
  simp [d24, m24, sOf_A, boxIx]
  refine forK l.length (fun i => [(9, .own (R 53 sk l)), (10, .own (i64 l.length)), (11, .own (i64 i)), (5, .own (Wr 3 i64 (ofBell (l.take i) b))), (1, .own (i64 b))]) (fun _ => True) trivial (sub_of (by simp [ofBell])) ?_
  intro i hi _
  simp
  refine condK (fun h => ?_) (fun h => ?_)
  · have hlt : i < l.length := by simpa using h
    have e := wrapS (n := i) (by omega)
    have hs := ofBell_succ (List.getElem?_eq_getElem hlt) b
    have hle := ofBell_le (l.take i) b
    simp at hle
    simp [hlt]
    refine condK (fun h1 => ?_) (fun h1 => ?_)
    · simp
      refine ⟨by omega, next hlt trivial (sub_of ?_)⟩
      simp at h1
      simp [hs, e, h1]
    · simp at h1
      simp
      exact next hlt trivial (sub_of (by simp [hs, e, h1]))
  · have hge : i = l.length := by simp at h; omega
    subst hge
    simp
theorem w19 : WalkOk [] sOf_A (fun (l, b) => (l.length : Int) * 8 ≤ 140737488355328) (fun (l, b) rs fin => rs = [Wr 3 i64 (ofBell l b)] ∧ fin = []) d19 := by
  rintro ⟨l, b⟩ hp hf
  replace hf : Tr.factsL [R 53 sk l, i64 b] := hf
  replace hp : (l.length : Int) * 8 ≤ 140737488355328 := hp
  simp [d19, m19, sOf_A, boxIx]
  refine forK l.length (fun i => [(8, .own (R 53 sk l)), (9, .own (i64 l.length)), (10, .own (i64 i)), (5, .own (Wr 3 i64 (ofBell (l.take i) b))), (1, .own (i64 b))]) (fun _ => True) trivial (sub_of (by simp [ofBell])) ?_
  intro i hi _
  simp
  refine condK (fun h => ?_) (fun h => ?_)
  · have hlt : i < l.length := by simpa using h
    have e := wrapS (n := i) (by omega)
    have hs := ofBell_succ (List.getElem?_eq_getElem hlt) b
    have hle := ofBell_le (l.take i) b
    simp at hle
    simp [hlt]
    refine condK (fun h1 => ?_) (fun h1 => ?_)
    · simp
      refine ⟨by omega, next hlt trivial (sub_of ?_)⟩
      simp at h1
      simp [hs, e, h1]
    · simp at h1
      simp
      exact next hlt trivial (sub_of (by simp [hs, e, h1]))
  · have hge : i = l.length := by simp at h; omega
    subst hge
    simp
end Go.Proofs.Ytbmkofeahjmkgac
end

section
set_option maxRecDepth 100000
set_option maxHeartbeats 2000000
set_option linter.unusedVariables false
set_option linter.unusedSimpArgs false
open Go Go.VC
namespace Go.Proofs.Ytbmkofeahjmkgac
/-! lists of strikes, strings: sizes, copies, equality -/
theorem modify_setD {α : Type} {f : α → α} : ∀ {cs : List α} {i : Nat} {x : α}, cs[i]? = some x → cs.modify i f = cs.set i (f x) := fun h => modify_set h
/-- a row that is being filled -/
def fill {α : Type} (f : α → D) (z : D) (a : List α) (i : Nat) : List D := (a.take i).map f ++ List.replicate (a.length - i) z
theorem fill_zero {α : Type} {f : α → D} {z : D} {a : List α} : fill f z a 0 = List.replicate a.length z := by simp [fill]
theorem fill_all {α : Type} {f : α → D} {z : D} {a : List α} : fill f z a a.length = a.map f := by simp [fill]
theorem fill_length {α : Type} {f : α → D} {z : D} {a : List α} {i : Nat} (h : i ≤ a.length) : (fill f z a i).length = a.length := by simp [fill]; omega
theorem fill_get {α : Type} {f : α → D} {z : D} {a : List α} {i : Nat} (h : i < a.length) : (fill f z a i)[i]? = some z := by
  unfold fill
  rw [List.getElem?_append_right (by simp; omega)]
  simp [List.getElem?_replicate]; omega
theorem fill_getElem {α : Type} {f : α → D} {z : D} {a : List α} {i : Nat} (h : i < a.length) (h' : i < (fill f z a i).length) : (fill f z a i)[i]'h' = z := by
  have := fill_get (f := f) (z := z) h
  rw [List.getElem?_eq_getElem h'] at this
  exact Option.some.inj this
theorem fill_step {α : Type} {f : α → D} {z : D} {a : List α} {i : Nat} (h : i < a.length) (g : D → D) (hg : g z = f a[i]) : (fill f z a i).modify i g = fill f z a (i + 1) := by
  rw [modify_setD (fill_get h), hg]
  unfold fill
  rw [take_succ' (List.getElem?_eq_getElem h), List.set_append_right _ _ (by simp; omega)]
  have e : a.length - i = (a.length - (i + 1)) + 1 := by omega
  have e2 : i - (List.map f (List.take i a)).length = 0 := by simp; omega
  rw [e2, e, List.replicate_succ, List.map_append]
  simp only [List.set_cons_zero, List.map_cons, List.map_nil, List.append_assoc, List.singleton_append]
abbrev sToT_A : List ByteArray → List D := fun a => [R 9 dStr a]
theorem sToT_inj : ∀ x y, sToT_A x = sToT_A y → x = y := by
  intro x y h; simpa [Prod.ext_iff, and_assoc] using h
def sToT : List D → VC.Spec := mk sToT_A (fun a : List ByteArray => a.length ≤ 1048576) (fun a rs fin => rs = [Wr 9 dStr a] ∧ fin = [])
theorem sToT_pre {a : List ByteArray} : (sToT [R 9 dStr a]).pre = (a.length ≤ 1048576) := mk_preI sToT_inj (a)
theorem sToT_post {a : List ByteArray} {rs fin : List D} (h : a.length ≤ 1048576) : (sToT [R 9 dStr a]).post rs fin = (rs = [Wr 9 dStr a] ∧ fin = []) := mk_postI sToT_inj (a) h
theorem w8 : WalkOk [] sToT_A (fun a : List ByteArray => a.length ≤ 1048576) (fun a rs fin => rs = [Wr 9 dStr a] ∧ fin = []) d8 := by
  rintro a hp hf
  replace hf : Tr.factsL [R 9 dStr a] := hf
  replace hp : a.length ≤ 1048576 := hp
  simp at hf
  simp [d8, m8, sToT_A, boxIx]
  refine ⟨by omega, ?_⟩
  refine forK a.length (fun i => [(4, .own (i64 i)), (3, .own (.nd (.row true 9 ()) (fill dStr S0 a i))), (0, .own (R 9 dStr a))]) (fun _ => True) trivial (sub_of (by simp [fill_zero])) ?_
  intro i hi _
  simp
  refine condK (fun h => ?_) (fun h => ?_)
  · have hlt : i < a.length := by simpa using h
    have e := wrapS (n := i) (by omega)
    simp [hlt, fill_length hi, fill_getElem hlt]
    refine next hlt trivial (sub_of ?_)
    simp [e]
    exact fill_step hlt _ rfl
  · have hge : i = a.length := by simp at h; omega
    subst hge
    simp [fill_all]
abbrev sToK_A : List Strike → List D := fun a => [R 55 sk a]
theorem sToK_inj : ∀ x y, sToK_A x = sToK_A y → x = y := by
  intro x y h; simpa [Prod.ext_iff, and_assoc] using h
def sToK : List D → VC.Spec := mk sToK_A (fun a : List Strike => a.length ≤ 1048576) (fun a rs fin => rs = [Wr 53 sk a] ∧ fin = [])
theorem sToK_pre {a : List Strike} : (sToK [R 55 sk a]).pre = (a.length ≤ 1048576) := mk_preI sToK_inj (a)
theorem sToK_post {a : List Strike} {rs fin : List D} (h : a.length ≤ 1048576) : (sToK [R 55 sk a]).post rs fin = (rs = [Wr 53 sk a] ∧ fin = []) := mk_postI sToK_inj (a) h
theorem w9 : WalkOk [(20, sToStrike)] sToK_A (fun a : List Strike => a.length ≤ 1048576) (fun a rs fin => rs = [Wr 53 sk a] ∧ fin = []) d9 := by
  rintro a hp hf
  replace hf : Tr.factsL [R 55 sk a] := hf
  replace hp : a.length ≤ 1048576 := hp
  simp at hf
  simp [d9, m9, sToK_A, boxIx]
  refine ⟨by omega, ?_⟩
  refine forK a.length (fun i => [(4, .own (i64 i)), (3, .own (.nd (.row true 53 ()) (fill sk (A [i64 0, i64 0]) a i))), (0, .own (R 55 sk a))]) (fun _ => True) trivial (sub_of (by simp [fill_zero])) ?_
  intro i hi _
  simp
  refine condK (fun h => ?_) (fun h => ?_)
  · have hlt : i < a.length := by simpa using h
    have e := wrapS (n := i) (by omega)
    simp [hlt, fill_length hi, fill_getElem hlt, conOf_cons, sToStrike_pre, sToStrike_post]
    refine next hlt trivial (sub_of ?_)
    simp [e]
    exact fill_step hlt _ rfl
  · have hge : i = a.length := by simp at h; omega
    subst hge
    simp [fill_all]
def left (n left : Int) : Int := if left - n < 0 then -1 else left - n
abbrev sSzK_A : List Strike × Int → List D := fun (a, b) => [R 55 sk a, i64 b]
theorem sSzK_inj : ∀ x y, sSzK_A x = sSzK_A y → x = y := by
  rintro ⟨a, b⟩ ⟨a', b'⟩ h; simpa [Prod.ext_iff, and_assoc] using h
def sSzK : List D → VC.Spec := mk sSzK_A (fun (a, b) => 0 ≤ b) (fun (a, b) rs fin => rs = [i64 (left a.length b)] ∧ fin = [])
theorem sSzK_pre {a : List Strike} {b : Int} : (sSzK [R 55 sk a, i64 b]).pre = (0 ≤ b) := mk_preI sSzK_inj (a, b)
theorem sSzK_post {a : List Strike} {b : Int} {rs fin : List D} (h : 0 ≤ b) : (sSzK [R 55 sk a, i64 b]).post rs fin = (rs = [i64 (left a.length b)] ∧ fin = []) := mk_postI sSzK_inj (a, b) h
theorem w5 : WalkOk [] sSzK_A (fun (a, b) => 0 ≤ b) (fun (a, b) rs fin => rs = [i64 (left a.length b)] ∧ fin = []) d5 := by
  rintro ⟨a, b⟩ hp hf
  replace hf : Tr.factsL [R 55 sk a, i64 b] := hf
  replace hp : 0 ≤ b := hp
  simp [loOf, hiOf] at hf
  have e : IntKind.i64.wrap (b - a.length) = b - a.length := wrap64 (by omega) (by omega)
  simp [d5, m5, sSzK_A, boxIx, e, left, CondK]
  constructor <;> intro h <;> omega
def sizes (a : List ByteArray) : Nat := (a.map (·.size)).sum
theorem sizes_take {a : List ByteArray} {i : Nat} {x : ByteArray} (h : a[i]? = some x) : sizes (a.take (i + 1)) = sizes (a.take i) + x.size := by
  rw [take_succ' h]; simp [sizes]
theorem sizes_le (a : List ByteArray) (i : Nat) : sizes (a.take i) ≤ sizes a := by
  have : sizes a = sizes (a.take i) + sizes (a.drop i) := by
    unfold sizes; rw [← List.sum_append, ← List.map_append, List.take_append_drop]
  omega
def szT (a : List ByteArray) (l : Int) : Int := if l - a.length - sizes a < 0 then -1 else l - a.length - sizes a
abbrev sSzT_A : List ByteArray × Int → List D := fun (a, b) => [R 9 dStr a, i64 b]
theorem sSzT_inj : ∀ x y, sSzT_A x = sSzT_A y → x = y := by
  rintro ⟨a, b⟩ ⟨a', b'⟩ h; simpa [Prod.ext_iff, and_assoc] using h
def sSzT : List D → VC.Spec := mk sSzT_A (fun (a, b) => 0 ≤ b) (fun (a, b) rs fin => rs = [i64 (szT a b)] ∧ fin = [])
theorem sSzT_pre {a : List ByteArray} {b : Int} : (sSzT [R 9 dStr a, i64 b]).pre = (0 ≤ b) := mk_preI sSzT_inj (a, b)
theorem sSzT_post {a : List ByteArray} {b : Int} {rs fin : List D} (h : 0 ≤ b) : (sSzT [R 9 dStr a, i64 b]).post rs fin = (rs = [i64 (szT a b)] ∧ fin = []) := mk_postI sSzT_inj (a, b) h
theorem w4 : WalkOk [] sSzT_A (fun (a, b) => 0 ≤ b) (fun (a, b) rs fin => rs = [i64 (szT a b)] ∧ fin = []) d4 := by
  rintro ⟨a, b⟩ hp hf
  replace hf : Tr.factsL [R 9 dStr a, i64 b] := hf
  replace hp : 0 ≤ b := hp
  simp [factsL_iff] at hf
  obtain ⟨⟨hf1, hf2⟩, hf3⟩ := hf
  simp only [hiOf, loOf] at hf3
  have e : IntKind.i64.wrap (b - a.length) = b - a.length := wrap64 (by omega) (by omega)
  simp [d4, m4, sSzT_A, boxIx, e]
  refine condK (fun h => ?_) (fun h => ?_)
  · simp at h
    have : szT a b = -1 := by unfold szT; rw [if_pos]; omega
    simp [this]
  · simp at h
    simp
    refine forK a.length (fun i => [(5, .own (i64 i)), (0, .own (R 9 dStr a)), (1, .own (i64 (b - a.length - sizes (a.take i))))]) (fun i => 0 ≤ b - a.length - sizes (a.take i)) (by simp [sizes]; omega) (sub_of (by simp [sizes])) ?_
    intro i hi hpos
    simp
    refine condK (fun h => ?_) (fun h => ?_)
    · have hlt : i < a.length := by simpa using h
      have hx := List.getElem?_eq_getElem hlt
      have hxs : (a[i].size : Int) ≤ 9223372036854775807 := by
        have := hf2 _ (List.mem_of_getElem? hx); simpa using this
      have hst := sizes_take hx
      have hsl := sizes_le a (i + 1)
      have e1 := wrapS (n := i) (by omega)
      have e2 : IntKind.i64.wrap (b - a.length - sizes (a.take i) - a[i].size) = b - a.length - sizes (a.take (i + 1)) := by
        rw [wrap64 (by omega) (by omega)]; omega
      simp [hlt, e2]
      refine condK (fun h1 => ?_) (fun h1 => ?_)
      · simp at h1
        have : szT a b = -1 := by unfold szT; rw [if_pos]; omega
        simp [this]
      · simp at h1
        simp [e1]
        exact next hlt (by omega) (sub_of (by simp))
    · have hge : i = a.length := by simp at h; omega
      subst hge
      rw [List.take_length] at hpos
      have : szT a b = b - a.length - sizes a := by unfold szT; rw [if_neg]; omega
      simp [this]
theorem take_next {α : Type} {a b : List α} {i : Nat} (h : a.take i = b.take i) (ha : i < a.length) (hb : i < b.length) (he : a[i] = b[i]) : a.take (i + 1) = b.take (i + 1) := by
  rw [take_succ' (List.getElem?_eq_getElem ha), take_succ' (List.getElem?_eq_getElem hb), h, he]
abbrev sEqT_A : List ByteArray × List ByteArray → List D := fun (a, b) => [R 9 dStr a, R 9 dStr b]
theorem sEqT_inj : ∀ x y, sEqT_A x = sEqT_A y → x = y := by
  rintro ⟨a, b⟩ ⟨a', b'⟩ h; simpa [Prod.ext_iff, and_assoc] using h
def sEqT : List D → VC.Spec := mk sEqT_A (fun _ : List ByteArray × List ByteArray => True) (fun (a, b) rs fin => rs = [dBool (decide (a = b))] ∧ fin = [])
theorem sEqT_pre {a : List ByteArray} {b : List ByteArray} : (sEqT [R 9 dStr a, R 9 dStr b]).pre = (True) := mk_preI sEqT_inj (a, b)
theorem sEqT_post {a : List ByteArray} {b : List ByteArray} {rs fin : List D} : (sEqT [R 9 dStr a, R 9 dStr b]).post rs fin = (rs = [dBool (decide (a = b))] ∧ fin = []) := mk_postI sEqT_inj (a, b) trivial
theorem w12 : WalkOk [] sEqT_A (fun _ : List ByteArray × List ByteArray => True) (fun (a, b) rs fin => rs = [dBool (decide (a = b))] ∧ fin = []) d12 := by
  rintro ⟨a, b⟩ hp hf
  replace hf : Tr.factsL [R 9 dStr a, R 9 dStr b] := hf
  simp at hf
  simp [d12, m12, sEqT_A, boxIx]
  refine condK (fun h => ?_) (fun h => ?_)
  · have hne : ¬ a = b := by rintro rfl; simp at h
    simp [hne]
  · simp at h
    have hl : a.length = b.length := by omega
    simp
    refine forK a.length (fun i => [(0, .own (R 9 dStr a)), (1, .own (R 9 dStr b)), (5, .own (i64 i))]) (fun i => a.take i = b.take i) rfl (sub_of (by simp)) ?_
    intro i hi hall
    simp
    refine condK (fun h => ?_) (fun h => ?_)
    · have hlt : i < a.length := by simpa using h
      have hlt' : i < b.length := by omega
      have e := wrapS (n := i) (by omega)
      simp [hlt, hlt']
      refine condK (fun h1 => ?_) (fun h1 => ?_)
      · have hne : ¬ a = b := by rintro rfl; simp at h1
        simp [hne]
      · have he : a[i] = b[i] := by
          simpa using h1
        simp
        exact next hlt (take_next hall hlt hlt' he) (sub_of (by simp [e]))
    · have hge : i = a.length := by simp at h; omega
      subst hge
      have : a = b := by rw [List.take_length, hl, List.take_length] at hall; exact hall
      simp [this]
abbrev sEqKs_A : List Strike × List Strike → List D := fun (a, b) => [R 53 sk a, R 53 sk b]
theorem sEqKs_inj : ∀ x y, sEqKs_A x = sEqKs_A y → x = y := by
  rintro ⟨a, b⟩ ⟨a', b'⟩ h; simpa [Prod.ext_iff, and_assoc] using h
def sEqKs : List D → VC.Spec := mk sEqKs_A (fun _ : List Strike × List Strike => True) (fun (a, b) rs fin => rs = [dBool (decide (a = b))] ∧ fin = [])
theorem sEqKs_pre {a : List Strike} {b : List Strike} : (sEqKs [R 53 sk a, R 53 sk b]).pre = (True) := mk_preI sEqKs_inj (a, b)
theorem sEqKs_post {a : List Strike} {b : List Strike} {rs fin : List D} : (sEqKs [R 53 sk a, R 53 sk b]).post rs fin = (rs = [dBool (decide (a = b))] ∧ fin = []) := mk_postI sEqKs_inj (a, b) trivial
theorem w13 : WalkOk [(26, sEqSk)] sEqKs_A (fun _ : List Strike × List Strike => True) (fun (a, b) rs fin => rs = [dBool (decide (a = b))] ∧ fin = []) d13 := by
  rintro ⟨a, b⟩ hp hf
  replace hf : Tr.factsL [R 53 sk a, R 53 sk b] := hf
  simp at hf
  simp [d13, m13, sEqKs_A, boxIx]
  refine condK (fun h => ?_) (fun h => ?_)
  · have hne : ¬ a = b := by rintro rfl; simp at h
    simp [hne]
  · simp at h
    have hl : a.length = b.length := by omega
    simp
    refine forK a.length (fun i => [(0, .own (R 53 sk a)), (1, .own (R 53 sk b)), (5, .own (i64 i))]) (fun i => a.take i = b.take i) rfl (sub_of (by simp)) ?_
    intro i hi hall
    simp
    refine condK (fun h => ?_) (fun h => ?_)
    · have hlt : i < a.length := by simpa using h
      have hlt' : i < b.length := by omega
      have e := wrapS (n := i) (by omega)
      simp [hlt, hlt', conOf_cons, sEqSk_pre, sEqSk_post]
      refine condK (fun h1 => ?_) (fun h1 => ?_)
      · have hne : ¬ a = b := by rintro rfl; simp at h1
        simp [hne]
      · have he : a[i] = b[i] := by
          simp at h1; exact Prod.ext h1.1 h1.2
        simp
        exact next hlt (take_next hall hlt hlt' he) (sub_of (by simp [e]))
    · have hge : i = a.length := by simp at h; omega
      subst hge
      have : a = b := by rw [List.take_length, hl, List.take_length] at hall; exact hall
      simp [this]
abbrev Jd := Int × Int × Int × Int
abbrev jd (x : Jd) : D := .nd .agg [i64 x.1, i64 x.2.1, i64 x.2.2.1, i64 x.2.2.2]
abbrev sEqJd_A : Int × Int × Int × Int × Int × Int × Int × Int → List D := fun (a, b, c, d, a1, b1, c1, d1) => [.nd .agg [i64 a, i64 b, i64 c, i64 d], .nd .agg [i64 a1, i64 b1, i64 c1, i64 d1]]
theorem sEqJd_inj : ∀ x y, sEqJd_A x = sEqJd_A y → x = y := by
  rintro ⟨a, b, c, d, a1, b1, c1, d1⟩ ⟨a', b', c', d', a1', b1', c1', d1'⟩ h; simpa [Prod.ext_iff, and_assoc] using h
def sEqJd : List D → VC.Spec := mk sEqJd_A (fun _ : Int × Int × Int × Int × Int × Int × Int × Int => True) (fun (a, b, c, d, a1, b1, c1, d1) rs fin => rs = [dBool (decide ((a, b, c, d) = (a1, b1, c1, d1)))] ∧ fin = [])
theorem sEqJd_pre {a : Int} {b : Int} {c : Int} {d : Int} {a1 : Int} {b1 : Int} {c1 : Int} {d1 : Int} : (sEqJd [.nd .agg [i64 a, i64 b, i64 c, i64 d], .nd .agg [i64 a1, i64 b1, i64 c1, i64 d1]]).pre = (True) := mk_preI sEqJd_inj (a, b, c, d, a1, b1, c1, d1)
theorem sEqJd_post {a : Int} {b : Int} {c : Int} {d : Int} {a1 : Int} {b1 : Int} {c1 : Int} {d1 : Int} {rs fin : List D} : (sEqJd [.nd .agg [i64 a, i64 b, i64 c, i64 d], .nd .agg [i64 a1, i64 b1, i64 c1, i64 d1]]).post rs fin = (rs = [dBool (decide ((a, b, c, d) = (a1, b1, c1, d1)))] ∧ fin = []) := mk_postI sEqJd_inj (a, b, c, d, a1, b1, c1, d1) trivial
theorem w11 : WalkOk [] sEqJd_A (fun _ : Int × Int × Int × Int × Int × Int × Int × Int => True) (fun (a, b, c, d, a1, b1, c1, d1) rs fin => rs = [dBool (decide ((a, b, c, d) = (a1, b1, c1, d1)))] ∧ fin = []) d11 := by
  rintro ⟨a, b, c, d, a1, b1, c1, d1⟩ hp hf
  replace hf : Tr.factsL [.nd .agg [i64 a, i64 b, i64 c, i64 d], .nd .agg [i64 a1, i64 b1, i64 c1, i64 d1]] := hf
  clear hf
  by_cases h1 : a = a1
  · by_cases h2 : b = b1
    · by_cases h3 : c = c1
      · by_cases h4 : d = d1
        · simp [d11, m11, sEqJd_A, boxIx, h1, h2, h3, h4]
        · simp [d11, m11, sEqJd_A, boxIx, h1, h2, h3, h4]
      · simp [d11, m11, sEqJd_A, boxIx, h1, h2, h3]
    · simp [d11, m11, sEqJd_A, boxIx, h1, h2]
  · simp [d11, m11, sEqJd_A, boxIx, h1]
end Go.Proofs.Ytbmkofeahjmkgac
end

section
set_option maxRecDepth 100000
set_option maxHeartbeats 2000000
set_option linter.unusedVariables false
set_option linter.unusedSimpArgs false
open Go Go.VC
namespace Go.Proofs.Ytbmkofeahjmkgac
/-! times -/
theorem all_range_false {f : Nat → Bool} {n i : Nat} (h : i < n) (hf : f i = false) : (List.range n).all f = false := by
  rw [Bool.eq_false_iff]; intro h2
  have := List.all_eq_true.1 h2 i (by simpa using h)
  rw [hf] at this; cases this
theorem all_range_succ {f : Nat → Bool} {i : Nat} (h : ∀ k, k < i → f k = true) (hf : f i = true) : ∀ k, k < i + 1 → f k = true := by
  intro k hk
  rcases Nat.lt_succ_iff_lt_or_eq.1 hk with h1 | rfl
  · exact h k h1
  · exact hf
theorem all_range_iff {f : Nat → Bool} {n : Nat} (h : ∀ k, k < n → f k = true) : (List.range n).all f = true := List.all_eq_true.2 fun k hk => h k (by simpa using hk)
def timeOk (l : List Int) (k : Nat) : Bool := within (l.getD k 0) 0 1000000 && (k == 0 || decide (l.getD (k - 1) 0 ≤ l.getD k 0))
def goodTimes (l : List Int) : Bool := (List.range l.length).all (timeOk l) && decide (l.length ≤ 60)
abbrev sTimes_A : List Int → List D := fun l => [R 3 i64 l]
theorem sTimes_inj : ∀ x y, sTimes_A x = sTimes_A y → x = y := by
  intro x y h; simpa [Prod.ext_iff, and_assoc] using h
def sTimes : List D → VC.Spec := mk sTimes_A (fun _ : List Int => True) (fun l rs fin => rs = [dBool (goodTimes l)] ∧ fin = [])
theorem sTimes_pre {l : List Int} : (sTimes [R 3 i64 l]).pre = (True) := mk_preI sTimes_inj (l)
theorem sTimes_post {l : List Int} {rs fin : List D} : (sTimes [R 3 i64 l]).post rs fin = (rs = [dBool (goodTimes l)] ∧ fin = []) := mk_postI sTimes_inj (l) trivial
theorem w52 : WalkOk [(43, sIn)] sTimes_A (fun _ : List Int => True) (fun l rs fin => rs = [dBool (goodTimes l)] ∧ fin = []) d52 := by
  rintro l hp hf
  replace hf : Tr.factsL [R 3 i64 l] := hf
  simp at hf
  simp [d52, m52, sTimes_A, boxIx]
  refine forK l.length (fun i => [(5, .own (R 3 i64 l)), (6, .own (i64 l.length)), (7, .own (i64 i)), (0, .own (R 3 i64 l))]) (fun i => ∀ k, k < i → timeOk l k = true) (fun k hk => by omega) (sub_of (by simp)) ?_
  intro i hi hall
  simp
  refine condK (fun h => ?_) (fun h => ?_)
  · have hlt : i < l.length := by simpa using h
    obtain ⟨x, hx⟩ : ∃ x, l[i]? = some x := ⟨_, List.getElem?_eq_getElem hlt⟩
    have e := wrapS (n := i) (by omega)
    have hxe : l[i] = x := getE hx hlt
    have hxd : l.getD i 0 = x := by rw [List.getD_eq_getElem?_getD, hx]; rfl
    cases hw : within x 0 1000000 with
    | false =>
      have hno : goodTimes l = false := by
        simp only [goodTimes, all_range_false hlt (show timeOk l i = false by simp only [timeOk, hxd, hw, Bool.false_and]), Bool.false_and]
      simp [hlt, hxe, conOf_cons, sIn_pre, sIn_post, hw, hno]
    | true =>
      cases i with
      | zero =>
        have hok : timeOk l 0 = true := by simp only [timeOk, hxd, hw]; rfl
        simp at e
        simp [hlt, hxe, conOf_cons, sIn_pre, sIn_post, hw]
        exact next hlt (all_range_succ (fun k hk => by omega) hok) (sub_of (by simp [e]))
      | succ j =>
        have hj : j < l.length := by omega
        obtain ⟨y, hy⟩ : ∃ y, l[j]? = some y := ⟨_, List.getElem?_eq_getElem hj⟩
        have hye : l[j] = y := getE hy hj
        have hyd : l.getD j 0 = y := by rw [List.getD_eq_getElem?_getD, hy]; rfl
        have e2 : IntKind.i64.wrap (j : Int) = j := wrap64 (by omega) (by omega)
        have h0 : (0 : Int) ≤ (j : Int) + 1 := by omega
        have h1 : (j : Int) + 1 < (l.length : Int) := by omega
        have hpos : (0 : Int) < (j : Int) + 1 := by omega
        have hok : timeOk l (j + 1) = decide (y ≤ x) := by simp [timeOk, hxd, hw, hyd, -List.getD_eq_getElem?_getD]
        push_cast at e
        cases hyx : decide (y ≤ x) with
        | false =>
          have hno : goodTimes l = false := by
            simp only [goodTimes, all_range_false hlt (hok.trans hyx), Bool.false_and]
          simp at hyx
          simp [hlt, hxe, conOf_cons, sIn_pre, sIn_post, hw, hno, e2, hpos, h0, h1, hj, hye, hyx]
        | true =>
          have hall2 := all_range_succ hall (hok.trans hyx)
          simp at hyx
          have hyx' : ¬ (x < y) := by omega
          simp [hlt, hxe, conOf_cons, sIn_pre, sIn_post, hw, e2, hpos, h0, h1, hj, hye, hyx']
          exact next hlt hall2 (sub_of (by simp [e]))
  · have hge : i = l.length := by simp at h; omega
    subst hge
    have hg : goodTimes l = decide (l.length ≤ 60) := by simp only [goodTimes, all_range_iff hall, Bool.true_and]
    simp [hg]
    omega
theorem w48 : WalkOk [(27, sIn)] sTimes_A (fun _ : List Int => True) (fun l rs fin => rs = [dBool (goodTimes l)] ∧ fin = []) d48 := by
  rintro l hp hf
  replace hf : Tr.factsL [R 3 i64 l] := hf
  simp at hf
  simp [d48, m48, sTimes_A, boxIx]
  refine forK l.length (fun i => [(5, .own (R 3 i64 l)), (6, .own (i64 l.length)), (7, .own (i64 i)), (0, .own (R 3 i64 l))]) (fun i => ∀ k, k < i → timeOk l k = true) (fun k hk => by omega) (sub_of (by simp)) ?_
  intro i hi hall
  simp
  refine condK (fun h => ?_) (fun h => ?_)
  · have hlt : i < l.length := by simpa using h
    obtain ⟨x, hx⟩ : ∃ x, l[i]? = some x := ⟨_, List.getElem?_eq_getElem hlt⟩
    have e := wrapS (n := i) (by omega)
    have hxe : l[i] = x := getE hx hlt
    have hxd : l.getD i 0 = x := by rw [List.getD_eq_getElem?_getD, hx]; rfl
    cases hw : within x 0 1000000 with
    | false =>
      have hno : goodTimes l = false := by
        simp only [goodTimes, all_range_false hlt (show timeOk l i = false by simp only [timeOk, hxd, hw, Bool.false_and]), Bool.false_and]
      simp [hlt, hxe, conOf_cons, sIn_pre, sIn_post, hw, hno]
    | true =>
      cases i with
      | zero =>
        have hok : timeOk l 0 = true := by simp only [timeOk, hxd, hw]; rfl
        simp at e
        simp [hlt, hxe, conOf_cons, sIn_pre, sIn_post, hw]
        exact next hlt (all_range_succ (fun k hk => by omega) hok) (sub_of (by simp [e]))
      | succ j =>
        have hj : j < l.length := by omega
        obtain ⟨y, hy⟩ : ∃ y, l[j]? = some y := ⟨_, List.getElem?_eq_getElem hj⟩
        have hye : l[j] = y := getE hy hj
        have hyd : l.getD j 0 = y := by rw [List.getD_eq_getElem?_getD, hy]; rfl
        have e2 : IntKind.i64.wrap (j : Int) = j := wrap64 (by omega) (by omega)
        have h0 : (0 : Int) ≤ (j : Int) + 1 := by omega
        have h1 : (j : Int) + 1 < (l.length : Int) := by omega
        have hpos : (0 : Int) < (j : Int) + 1 := by omega
        have hok : timeOk l (j + 1) = decide (y ≤ x) := by simp [timeOk, hxd, hw, hyd, -List.getD_eq_getElem?_getD]
        push_cast at e
        cases hyx : decide (y ≤ x) with
        | false =>
          have hno : goodTimes l = false := by
            simp only [goodTimes, all_range_false hlt (hok.trans hyx), Bool.false_and]
          simp at hyx
          simp [hlt, hxe, conOf_cons, sIn_pre, sIn_post, hw, hno, e2, hpos, h0, h1, hj, hye, hyx]
        | true =>
          have hall2 := all_range_succ hall (hok.trans hyx)
          simp at hyx
          have hyx' : ¬ (x < y) := by omega
          simp [hlt, hxe, conOf_cons, sIn_pre, sIn_post, hw, e2, hpos, h0, h1, hj, hye, hyx']
          exact next hlt hall2 (sub_of (by simp [e]))
  · have hge : i = l.length := by simp at h; omega
    subst hge
    have hg : goodTimes l = decide (l.length ≤ 60) := by simp only [goodTimes, all_range_iff hall, Bool.true_and]
    simp [hg]
    omega
def asked (ideal struck : List Int) (skip : Int) : Bool := goodTimes ideal && goodTimes struck && within skip 0 10000
abbrev sAsked_A : List Int × List Int × Int → List D := fun (a, b, c) => [R 3 i64 a, R 3 i64 b, i64 c]
theorem sAsked_inj : ∀ x y, sAsked_A x = sAsked_A y → x = y := by
  rintro ⟨a, b, c⟩ ⟨a', b', c'⟩ h; simpa [Prod.ext_iff, and_assoc] using h
def sAsked : List D → VC.Spec := mk sAsked_A (fun _ : List Int × List Int × Int => True) (fun (a, b, c) rs fin => rs = [dBool (asked a b c)] ∧ fin = [])
theorem sAsked_pre {a : List Int} {b : List Int} {c : Int} : (sAsked [R 3 i64 a, R 3 i64 b, i64 c]).pre = (True) := mk_preI sAsked_inj (a, b, c)
theorem sAsked_post {a : List Int} {b : List Int} {c : Int} {rs fin : List D} : (sAsked [R 3 i64 a, R 3 i64 b, i64 c]).post rs fin = (rs = [dBool (asked a b c)] ∧ fin = []) := mk_postI sAsked_inj (a, b, c) trivial
theorem w44 : WalkOk [(43, sIn), (52, sTimes)] sAsked_A (fun _ : List Int × List Int × Int => True) (fun (a, b, c) rs fin => rs = [dBool (asked a b c)] ∧ fin = []) d44 := by
  rintro ⟨a, b, c⟩ hp hf
  replace hf : Tr.factsL [R 3 i64 a, R 3 i64 b, i64 c] := hf
  simp +contextual [CondK, gN_any, gS_any, d44, m44, sAsked_A, boxIx, conOf_cons, sIn_pre, sIn_post, sTimes_pre, sTimes_post, asked]
theorem w39 : WalkOk [(27, sIn), (48, sTimes)] sAsked_A (fun _ : List Int × List Int × Int => True) (fun (a, b, c) rs fin => rs = [dBool (asked a b c)] ∧ fin = []) d39 := by
  rintro ⟨a, b, c⟩ hp hf
  replace hf : Tr.factsL [R 3 i64 a, R 3 i64 b, i64 c] := hf
  simp +contextual [CondK, gN_any, gS_any, d39, m39, sAsked_A, boxIx, conOf_cons, sIn_pre, sIn_post, sTimes_pre, sTimes_post, asked]
end Go.Proofs.Ytbmkofeahjmkgac
end

section
set_option maxRecDepth 100000
set_option maxHeartbeats 2000000
set_option linter.unusedVariables false
set_option linter.unusedSimpArgs false
open Go Go.VC
namespace Go.Proofs.Ytbmkofeahjmkgac
/-! rows -/
def rowNe (r : ByteArray) (i k : Nat) : Bool := byteAt r k != byteAt r i
def rowAtOk (r : ByteArray) (i : Nat) : Bool := decide (49 ≤ byteAt r i) && decide (byteAt r i - 48 ≤ r.size) && (List.range i).all (rowNe r i)
def goodRow (r : ByteArray) : Bool := within r.size 3 8 && (List.range r.size).all (rowAtOk r)
abbrev sRow_A : ByteArray → List D := fun r => [dStr r]
theorem sRow_inj : ∀ x y, sRow_A x = sRow_A y → x = y := by
  intro x y h; simpa [Prod.ext_iff, and_assoc] using h
def sRow : List D → VC.Spec := mk sRow_A (fun _ : ByteArray => True) (fun r rs fin => rs = [dBool (goodRow r)] ∧ fin = [])
theorem sRow_pre {r : ByteArray} : (sRow [dStr r]).pre = (True) := mk_preI sRow_inj (r)
theorem sRow_post {r : ByteArray} {rs fin : List D} : (sRow [dStr r]).post rs fin = (rs = [dBool (goodRow r)] ∧ fin = []) := mk_postI sRow_inj (r) trivial
theorem w28 : WalkOk [(27, sIn)] sRow_A (fun _ : ByteArray => True) (fun r rs fin => rs = [dBool (goodRow r)] ∧ fin = []) d28 := by
  rintro r hp hf
  replace hf : Tr.factsL [dStr r] := hf
  simp at hf
  cases hw : within r.size 3 8 with
  | false => simp [d28, m28, sRow_A, boxIx, conOf_cons, sIn_pre, sIn_post, hw, goodRow]
  | true =>
  have hn := within_iff.1 hw
  have hg : ∀ i, i < r.size → rowAtOk r i = false → goodRow r = false := fun i hi h => by simp only [goodRow, all_range_false hi h, Bool.and_false]
  simp [d28, m28, sRow_A, boxIx, conOf_cons, sIn_pre, sIn_post, hw]
  refine forK r.size (fun i => [(0, .own (dStr r)), (3, .own (i64 i))]) (fun i => ∀ k, k < i → rowAtOk r k = true) (fun k hk => by omega) (sub_of (by simp)) ?_
  intro i hi hall
  simp
  refine condK (fun h => ?_) (fun h => ?_)
  · have hlt : i < r.size := by simpa using h
    have e := wrapS (n := i) (by omega)
    have hb := by_range r i
    simp [hlt]
    by_cases h1 : 49 ≤ byteAt r i
    · have h1' : ¬ byteAt r i < 49 := by omega
      have h8 : IntKind.u8.wrap (byteAt r i - 48) = byteAt r i - 48 := wrapU8 (by omega) (by omega)
      have h9 : IntKind.i64.wrap (byteAt r i - 48) = byteAt r i - 48 := wrap64 (by omega) (by omega)
      by_cases h2 : byteAt r i - 48 ≤ r.size
      · have h2' : ¬ (r.size : Int) < byteAt r i - 48 := by omega
        simp [h1, h1', hlt, h8, h9, h2']
        refine forK i (fun k => [(0, .own (dStr r)), (3, .own (i64 i)), (4, .own (i64 k))]) (fun k => ∀ m, m < k → rowNe r i m = true) (fun k hk => by omega) (sub_of (by simp)) ?_
        intro k hk hne
        simp
        refine condK (fun h => ?_) (fun h => ?_)
        · have hki : k < i := by simpa using h
          have e1 := wrapS (n := k) (by omega)
          simp [hlt, show k < r.size by omega]
          refine condK (fun h3 => ?_) (fun h3 => ?_)
          · have : rowAtOk r i = false := by
              simp only [rowAtOk, all_range_false hki (show rowNe r i k = false by simpa [rowNe] using h3), Bool.and_false]
            simp [hg i hlt this]
          · simp
            exact next hki (all_range_succ hne (by simpa [rowNe] using h3)) (sub_of (by simp [e1]))
        · have hge : k = i := by simp at h; omega
          subst hge
          simp
          have : rowAtOk r k = true := by simp only [rowAtOk, all_range_iff hne, Bool.and_true, Bool.and_eq_true, decide_eq_true_eq]; omega
          exact next hlt (all_range_succ hall this) (sub_of (by simp [e]))
      · have h2' : (r.size : Int) < byteAt r i - 48 := by omega
        have : rowAtOk r i = false := by simp [rowAtOk, h2]
        simp [h1, h1', hlt, h8, h9, h2', hg i hlt this]
    · have h1' : byteAt r i < 49 := by omega
      have : rowAtOk r i = false := by simp [rowAtOk, h1]
      simp [h1', hg i hlt this]
  · have hge : i = r.size := by simp at h; omega
    subst hge
    have : goodRow r = true := by simp only [goodRow, all_range_iff hall, hw]; rfl
    simp [this]
end Go.Proofs.Ytbmkofeahjmkgac
end

section
set_option maxRecDepth 100000
set_option maxHeartbeats 2000000
set_option linter.unusedVariables false
set_option linter.unusedSimpArgs false
open Go Go.VC
namespace Go.Proofs.Ytbmkofeahjmkgac
def bitOf (r : ByteArray) (k : Nat) : Nat := (byteAt r k - 49).toNat
/-- the bells seen in the first i places, as bits -/
def mask (r : ByteArray) : Nat → Nat
  | 0 => 0
  | i + 1 => mask r i ||| 1 <<< bitOf r i
theorem mask_bit (r : ByteArray) (b : Nat) : ∀ i, (mask r i).testBit b = true ↔ ∃ k, k < i ∧ bitOf r k = b
  | 0 => by simp [mask]
  | i + 1 => by
    simp only [mask, Nat.testBit_or, Bool.or_eq_true, mask_bit r b i, Nat.shiftLeft_eq, Nat.one_mul, Nat.testBit_two_pow, decide_eq_true_eq]
    constructor
    · rintro (⟨k, h1, h2⟩ | h)
      · exact ⟨k, by omega, h2⟩
      · exact ⟨i, by omega, h⟩
    · rintro ⟨k, h1, h2⟩
      by_cases h : k = i
      · subst h; exact .inr h2
      · exact .inl ⟨k, by omega, h2⟩
theorem mask_lt (r : ByteArray) : ∀ i, (∀ k, k < i → bitOf r k < 8) → mask r i < 2 ^ 8
  | 0, _ => by simp [mask]
  | i + 1, h => by
    have h1 := mask_lt r i fun k hk => h k (by omega)
    have h2 := h i (by omega)
    have h3 : 1 <<< bitOf r i < 2 ^ 8 := by rw [Nat.shiftLeft_eq, Nat.one_mul]; exact Nat.pow_lt_pow_right (by omega) h2
    exact Nat.or_lt_two_pow h1 h3
theorem bitOf_lt {r : ByteArray} {k : Nat} (hn : r.size ≤ 8) (h : rowAtOk r k = true) : bitOf r k < 8 := by
  simp only [rowAtOk, Bool.and_eq_true, decide_eq_true_eq] at h
  unfold bitOf; omega
theorem w42 : WalkOk [(51, sStage)] sRow_A (fun _ : ByteArray => True) (fun r rs fin => rs = [dBool (goodRow r)] ∧ fin = []) d42 := by
  rintro r hp hf
  replace hf : Tr.factsL [dStr r] := hf
  simp at hf
  cases hw : within r.size 3 8 with
  | false => simp [d42, m42, sRow_A, boxIx, conOf_cons, sStage_pre, sStage_post, hw, goodRow]
  | true =>
  have hn := within_iff.1 hw
  have hg : ∀ i, i < r.size → rowAtOk r i = false → goodRow r = false := fun i hi h => by simp only [goodRow, all_range_false hi h, Bool.and_false]
  simp [d42, m42, sRow_A, boxIx, conOf_cons, sStage_pre, sStage_post, hw]
  refine forK r.size (fun i => [(0, .own (dStr r)), (3, .own (i64 (mask r i : Nat))), (11, .own (i64 r.size)), (12, .own (i64 i))]) (fun i => ∀ k, k < i → rowAtOk r k = true) (fun k hk => by omega) (sub_of (by simp [mask])) ?_
  intro i hi hall
  simp
  refine condK (fun h => ?_) (fun h => ?_)
  · have hlt : i < r.size := by simpa using h
    have e := wrapS (n := i) (by omega)
    have hb := by_range r i
    obtain ⟨v, hv⟩ : ∃ v : Int, v = byteAt r i - 49 := ⟨_, rfl⟩
    have h9 : IntKind.i64.wrap (byteAt r i - 49) = v := by rw [wrap64 (by omega) (by omega), hv]
    by_cases h1 : v < 0
    · have : rowAtOk r i = false := by simp [rowAtOk]; omega
      simp [hlt, h9, h1, hg i hlt this]
    · by_cases h2 : (r.size : Int) ≤ v
      · have : rowAtOk r i = false := by simp [rowAtOk]; omega
        simp [hlt, h9, h1, h2, hg i hlt this]
      · obtain ⟨b, hb0⟩ : ∃ b : Nat, b = bitOf r i := ⟨_, rfl⟩
        obtain ⟨m, hm⟩ : ∃ m : Nat, m = mask r i := ⟨_, rfl⟩
        have hvb : v = (b : Nat) := by rw [hb0]; unfold bitOf; omega
        have hb8 : b < 8 := by omega
        have hml := mask_lt r i fun k hk => bitOf_lt (by omega) (hall k hk)
        rw [← hm] at hml
        obtain ⟨q, hq⟩ : ∃ q : Nat, q = m >>> b := ⟨_, rfl⟩
        obtain ⟨u, hu⟩ : ∃ u : Nat, u = 1 <<< b := ⟨_, rfl⟩
        obtain ⟨t, ht⟩ : ∃ t : Nat, t = q &&& 1 := ⟨_, rfl⟩
        obtain ⟨o, ho⟩ : ∃ o : Nat, o = m ||| u := ⟨_, rfl⟩
        have hql : q ≤ m := by rw [hq, Nat.shiftRight_eq_div_pow]; exact Nat.div_le_self _ _
        have hul : u < 2 ^ 8 := by rw [hu, Nat.shiftLeft_eq, Nat.one_mul]; exact Nat.pow_lt_pow_right (by omega) hb8
        have hsh : shrI .i64 (m : Int) v = q := by rw [hvb, shr64 (by omega), ← hq]
        have han : andI .i64 (q : Int) 1 = t := by rw [ht]; exact and64 (y := 1) (by omega)
        have hsl : shlI .i64 1 v = u := by rw [hvb, shl64 (by omega), ← hu]
        have hor : orI .i64 (m : Int) u = o := by rw [or64 (by omega) (by omega), ← ho]
        have h0v : 0 ≤ v := by omega
        have htb := mask_bit r b i
        rw [← hm, ← bit_one, ← hq, ← ht] at htb
        have hno : ∀ k, k < i → (bitOf r k = b) = (byteAt r k = byteAt r i) := by
          intro k hk
          have h7 := hall k hk
          simp only [rowAtOk, Bool.and_eq_true, decide_eq_true_eq] at h7
          rw [hb0]; unfold bitOf; apply propext; omega
        simp [hlt, h9, h1, h2, h0v, ← hm, hsh, han]
        refine condK (fun h3 => ?_) (fun h3 => ?_)
        · have h3' : t = 1 := by simp at h3; omega
          obtain ⟨k, hk, hkb⟩ := htb.1 h3'
          rw [hno k hk] at hkb
          have : rowAtOk r i = false := by
            simp only [rowAtOk, all_range_false hk (show rowNe r i k = false by simp [rowNe, hkb]), Bool.and_false]
          simp [hg i hlt this]
        · have h3' : ¬ t = 1 := by simp at h3; omega
          have hr : rowAtOk r i = true := by
            simp only [rowAtOk, Bool.and_eq_true, decide_eq_true_eq]
            refine ⟨by omega, all_range_iff fun k hk => ?_⟩
            simp only [rowNe, bne_iff_ne, ne_eq]
            intro hk2
            exact h3' (htb.2 ⟨k, hk, by rw [hno k hk]; exact hk2⟩)
          simp [h0v, hsl, hor]
          refine next hlt (all_range_succ hall hr) (sub_of ?_)
          simp [e, mask, ← hm, ← hb0, ← hu, ho]
  · have hge : i = r.size := by simp at h; omega
    subst hge
    have : goodRow r = true := by simp only [goodRow, all_range_iff hall, hw]; rfl
    simp [this]
end Go.Proofs.Ytbmkofeahjmkgac
end

section
set_option maxRecDepth 100000
set_option maxHeartbeats 2000000
set_option linter.unusedVariables false
set_option linter.unusedSimpArgs false
open Go Go.VC
namespace Go.Proofs.Ytbmkofeahjmkgac
def isRowOf (n : Int) (r : ByteArray) : Bool := decide ((r.size : Int) = n) && goodRow r
abbrev sRowOf_A : Int × ByteArray → List D := fun (n, r) => [i64 n, dStr r]
theorem sRowOf_inj : ∀ x y, sRowOf_A x = sRowOf_A y → x = y := by
  rintro ⟨n, r⟩ ⟨n', r'⟩ h; simpa [Prod.ext_iff, and_assoc] using h
def sRowOf : List D → VC.Spec := mk sRowOf_A (fun _ : Int × ByteArray => True) (fun (n, r) rs fin => rs = [dBool (isRowOf n r)] ∧ fin = [])
theorem sRowOf_pre {n : Int} {r : ByteArray} : (sRowOf [i64 n, dStr r]).pre = (True) := mk_preI sRowOf_inj (n, r)
theorem sRowOf_post {n : Int} {r : ByteArray} {rs fin : List D} : (sRowOf [i64 n, dStr r]).post rs fin = (rs = [dBool (isRowOf n r)] ∧ fin = []) := mk_postI sRowOf_inj (n, r) trivial
theorem w32 : WalkOk [(42, sRow)] sRowOf_A (fun _ : Int × ByteArray => True) (fun (n, r) rs fin => rs = [dBool (isRowOf n r)] ∧ fin = []) d32 := by
  rintro ⟨n, r⟩ hp hf
  replace hf : Tr.factsL [i64 n, dStr r] := hf
  simp +contextual [CondK, gN_any, gS_any, d32, m32, sRowOf_A, boxIx, conOf_cons, sRow_pre, sRow_post, isRowOf]
theorem goodRow_size {r : ByteArray} (h : goodRow r = true) : 3 ≤ r.size ∧ r.size ≤ 8 := by
  simp only [goodRow, Bool.and_eq_true, within_iff] at h; omega
/-- the length of the first row -/
def sz0 (l : List ByteArray) : Int := ((l[0]?.getD (⟨#[]⟩ : ByteArray)).size : Int)
theorem sz0_get {l : List ByteArray} (h : 0 < l.length) : sz0 l = l[0].size := by simp [sz0, List.getElem?_eq_getElem h]
def goodRows (l : List ByteArray) : Bool := decide (l.length ≤ 800) && l.all (isRowOf (sz0 l))
theorem goodRows_no {l : List ByteArray} {i : Nat} (h : i < l.length) (hf : isRowOf (sz0 l) l[i] = false) : goodRows l = false := by
  have : l.all (isRowOf (sz0 l)) = false := by
    rw [Bool.eq_false_iff]; intro h2
    have := List.all_eq_true.1 h2 l[i] (List.getElem_mem h)
    rw [hf] at this; cases this
  simp only [goodRows, this, Bool.and_false]
theorem goodRows_yes {l : List ByteArray} (h : ∀ k (hk : k < l.length), isRowOf (sz0 l) l[k] = true) (h8 : l.length ≤ 800) : goodRows l = true := by
  simp only [goodRows, Bool.and_eq_true, decide_eq_true_eq]
  refine ⟨h8, List.all_eq_true.2 fun x hx => ?_⟩
  obtain ⟨k, hk, rfl⟩ := List.getElem_of_mem hx
  exact h k hk
def rowAt (l : List ByteArray) (k : Nat) : Prop := ∀ hk : k < l.length, isRowOf (sz0 l) l[k] = true
theorem rowAt_succ {l : List ByteArray} {i : Nat} (h : ∀ k, k < i → rowAt l k) (hf : ∀ hi : i < l.length, isRowOf (sz0 l) l[i] = true) : ∀ k, k < i + 1 → rowAt l k := by
  intro k hk hl
  rcases Nat.lt_succ_iff_lt_or_eq.1 hk with h1 | rfl
  · exact h k h1 hl
  · exact hf hl
abbrev sRows_A : List ByteArray → List D := fun l => [R 9 dStr l]
theorem sRows_inj : ∀ x y, sRows_A x = sRows_A y → x = y := by
  intro x y h; simpa [Prod.ext_iff, and_assoc] using h
def sRows : List D → VC.Spec := mk sRows_A (fun _ : List ByteArray => True) (fun l rs fin => rs = [dBool (goodRows l)] ∧ fin = [])
theorem sRows_pre {l : List ByteArray} : (sRows [R 9 dStr l]).pre = (True) := mk_preI sRows_inj (l)
theorem sRows_post {l : List ByteArray} {rs fin : List D} : (sRows [R 9 dStr l]).post rs fin = (rs = [dBool (goodRows l)] ∧ fin = []) := mk_postI sRows_inj (l) trivial
theorem w21 : WalkOk [(32, sRowOf)] sRows_A (fun _ : List ByteArray => True) (fun l rs fin => rs = [dBool (goodRows l)] ∧ fin = []) d21 := by
  rintro l hp hf
  replace hf : Tr.factsL [R 9 dStr l] := hf
  simp at hf
  simp [d21, m21, sRows_A, boxIx]
  refine condK (fun h => ?_) (fun h => ?_)
  · simp at h
    have : goodRows l = false := by simp only [goodRows]; rw [decide_eq_false (by omega)]; rfl
    simp [this]
  simp at h
  simp
  refine forK l.length (fun i => [(0, .own (R 9 dStr l)), (8, .own (R 9 dStr l)), (9, .own (i64 l.length)), (10, .own (i64 i))]) (fun i => ∀ k, k < i → rowAt l k) (fun k hk => by omega) (sub_of (by simp)) ?_
  intro i hi hall
  simp
  refine condK (fun h => ?_) (fun h => ?_)
  · have hlt : i < l.length := by simpa using h
    have h0 : 0 < l.length := by omega
    have e := wrapS (n := i) (by omega)
    have hs := sz0_get h0
    simp [hlt, h0, conOf_cons, sRowOf_pre, sRowOf_post, ← hs]
    cases hr : isRowOf (sz0 l) l[i] with
    | false => simp [hr, goodRows_no hlt hr]
    | true =>
      simp [hr]
      exact next hlt (rowAt_succ hall fun _ => hr) (sub_of (by simp [e]))
  · have hge : i = l.length := by simp at h; omega
    subst hge
    have : goodRows l = true := goodRows_yes (fun k hk => hall k hk hk) (by omega)
    simp [this]
theorem w15 : WalkOk [(28, sRow)] sRows_A (fun _ : List ByteArray => True) (fun l rs fin => rs = [dBool (goodRows l)] ∧ fin = []) d15 := by
  rintro l hp hf
  replace hf : Tr.factsL [R 9 dStr l] := hf
  simp at hf
  simp [d15, m15, sRows_A, boxIx]
  refine forK l.length (fun i => [(0, .own (R 9 dStr l)), (5, .own (R 9 dStr l)), (6, .own (i64 l.length)), (7, .own (i64 i))]) (fun i => ∀ k, k < i → rowAt l k) (fun k hk => by omega) (sub_of (by simp)) ?_
  intro i hi hall
  simp
  refine condK (fun h => ?_) (fun h => ?_)
  · have hlt : i < l.length := by simpa using h
    have h0 : 0 < l.length := by omega
    have e := wrapS (n := i) (by omega)
    have hs := sz0_get h0
    cases hr : goodRow l[i] with
    | false =>
      have : isRowOf (sz0 l) l[i] = false := by simp [isRowOf, hr]
      simp [hlt, h0, conOf_cons, sRow_pre, sRow_post, hr, goodRows_no hlt this]
    | true =>
      by_cases hz : l[i].size = l[0].size
      · have hrow : isRowOf (sz0 l) l[i] = true := by simp [isRowOf, hr, hs, hz]
        simp [hlt, h0, conOf_cons, sRow_pre, sRow_post, hr, hz]
        exact next hlt (rowAt_succ hall fun _ => hrow) (sub_of (by simp [e]))
      · have hz' : ¬ ((l[i].size : Int) = l[0].size) := by omega
        have hrow : isRowOf (sz0 l) l[i] = false := by simp [isRowOf, hr, hs, hz']
        simp [hlt, h0, conOf_cons, sRow_pre, sRow_post, hr, hz', goodRows_no hlt hrow]
  · have hge : i = l.length := by simp at h; omega
    subst hge
    have : goodRows l = decide (l.length ≤ 800) := by
      by_cases h8 : l.length ≤ 800
      · rw [goodRows_yes (fun k hk => hall k hk hk) h8]; simp [h8]
      · simp [goodRows, h8]
    simp [this]
    omega
end Go.Proofs.Ytbmkofeahjmkgac
end

section
set_option maxRecDepth 100000
set_option maxHeartbeats 2000000
set_option linter.unusedVariables false
set_option linter.unusedSimpArgs false
open Go Go.VC
namespace Go.Proofs.Ytbmkofeahjmkgac
def stk (l : List Strike) (k : Nat) : Strike := l.getD k (0, 0)
theorem stk_get {l : List Strike} {k : Nat} (h : k < l.length) : stk l k = l[k] := by unfold stk; rw [List.getD_eq_getElem?_getD, List.getElem?_eq_getElem h]; rfl
def strikeOk (l : List Strike) (k : Nat) : Bool := within (stk l k).1 1 8 && within (stk l k).2 0 1000000 && (k == 0 || decide ((stk l (k - 1)).2 ≤ (stk l k).2))
def goodStrikes (l : List Strike) : Bool := (List.range l.length).all (strikeOk l) && decide (l.length ≤ 2000)
abbrev sStrikes_A : List Strike → List D := fun l => [R 53 sk l]
theorem sStrikes_inj : ∀ x y, sStrikes_A x = sStrikes_A y → x = y := by
  intro x y h; simpa [Prod.ext_iff, and_assoc] using h
def sStrikes : List D → VC.Spec := mk sStrikes_A (fun _ : List Strike => True) (fun l rs fin => rs = [dBool (goodStrikes l)] ∧ fin = [])
theorem sStrikes_pre {l : List Strike} : (sStrikes [R 53 sk l]).pre = (True) := mk_preI sStrikes_inj (l)
theorem sStrikes_post {l : List Strike} {rs fin : List D} : (sStrikes [R 53 sk l]).post rs fin = (rs = [dBool (goodStrikes l)] ∧ fin = []) := mk_postI sStrikes_inj (l) trivial
theorem w35 : WalkOk [(36, sBell), (43, sIn)] sStrikes_A (fun _ : List Strike => True) (fun l rs fin => rs = [dBool (goodStrikes l)] ∧ fin = []) d35 := by
  rintro l hp hf
  replace hf : Tr.factsL [R 53 sk l] := hf
  simp at hf
  simp [d35, m35, sStrikes_A, boxIx]
  refine forK l.length (fun i => [(5, .own (R 53 sk l)), (6, .own (i64 l.length)), (7, .own (i64 i)), (0, .own (R 53 sk l))]) (fun i => ∀ k, k < i → strikeOk l k = true) (fun k hk => by omega) (sub_of (by simp)) ?_
  intro i hi hall
  simp
  refine condK (fun h => ?_) (fun h => ?_)
  · have hlt : i < l.length := by simpa using h
    obtain ⟨x, y, hx⟩ : ∃ x y, l[i] = (x, y) := ⟨_, _, rfl⟩
    have e := wrapS (n := i) (by omega)
    have hxd : stk l i = (x, y) := by rw [stk_get hlt, hx]
    have hno : strikeOk l i = false → goodStrikes l = false := fun h => by simp only [goodStrikes, all_range_false hlt h, Bool.false_and]
    cases hw : within x 1 8 with
    | false =>
      have hg := hno (by simp only [strikeOk, hxd, hw, Bool.false_and])
      simp [hlt, hx, conOf_cons, sBell_pre, sBell_post, sIn_pre, sIn_post, hw, hg]
    | true =>
      cases hw2 : within y 0 1000000 with
      | false =>
        have hg := hno (by simp only [strikeOk, hxd, hw, hw2, Bool.false_and, Bool.and_false])
        simp [hlt, hx, conOf_cons, sBell_pre, sBell_post, sIn_pre, sIn_post, hw, hw2, hg]
      | true =>
        cases i with
        | zero =>
          have hok : strikeOk l 0 = true := by simp only [strikeOk, hxd, hw, hw2]; rfl
          simp at e
          simp [hlt, hx, conOf_cons, sBell_pre, sBell_post, sIn_pre, sIn_post, hw, hw2]
          exact next hlt (all_range_succ (fun k hk => by omega) hok) (sub_of (by simp [e]))
        | succ j =>
          have hj : j < l.length := by omega
          obtain ⟨z, t, hy⟩ : ∃ z t, l[j] = (z, t) := ⟨_, _, rfl⟩
          have hyd : stk l j = (z, t) := by rw [stk_get hj, hy]
          have e2 : IntKind.i64.wrap (j : Int) = j := wrap64 (by omega) (by omega)
          have h0 : (0 : Int) ≤ (j : Int) + 1 := by omega
          have h1 : (j : Int) + 1 < (l.length : Int) := by omega
          have hpos : (0 : Int) < (j : Int) + 1 := by omega
          have hok : strikeOk l (j + 1) = decide (t ≤ y) := by
            simp only [strikeOk, hxd, hw, hw2, Nat.add_sub_cancel, hyd, Bool.true_and]; simp
          push_cast at e
          cases hyx : decide (t ≤ y) with
          | false =>
            have hg := hno (hok.trans hyx)
            simp at hyx
            simp [hlt, hx, conOf_cons, sBell_pre, sBell_post, sIn_pre, sIn_post, hw, hw2, hg, e2, hpos, h0, h1, hj, hy, hyx]
          | true =>
            have hall2 := all_range_succ hall (hok.trans hyx)
            simp at hyx
            have hyx' : ¬ (y < t) := by omega
            simp [hlt, hx, conOf_cons, sBell_pre, sBell_post, sIn_pre, sIn_post, hw, hw2, e2, hpos, h0, h1, hj, hy, hyx']
            exact next hlt hall2 (sub_of (by simp [e]))
  · have hge : i = l.length := by simp at h; omega
    subst hge
    have hg : goodStrikes l = decide (l.length ≤ 2000) := by simp only [goodStrikes, all_range_iff hall, Bool.true_and]
    simp [hg]
    omega
theorem w16 : WalkOk [(27, sIn)] sStrikes_A (fun _ : List Strike => True) (fun l rs fin => rs = [dBool (goodStrikes l)] ∧ fin = []) d16 := by
  rintro l hp hf
  replace hf : Tr.factsL [R 53 sk l] := hf
  simp at hf
  simp [d16, m16, sStrikes_A, boxIx]
  refine forK l.length (fun i => [(5, .own (R 53 sk l)), (6, .own (i64 l.length)), (7, .own (i64 i)), (0, .own (R 53 sk l))]) (fun i => ∀ k, k < i → strikeOk l k = true) (fun k hk => by omega) (sub_of (by simp)) ?_
  intro i hi hall
  simp
  refine condK (fun h => ?_) (fun h => ?_)
  · have hlt : i < l.length := by simpa using h
    obtain ⟨x, y, hx⟩ : ∃ x y, l[i] = (x, y) := ⟨_, _, rfl⟩
    have e := wrapS (n := i) (by omega)
    have hxd : stk l i = (x, y) := by rw [stk_get hlt, hx]
    have hno : strikeOk l i = false → goodStrikes l = false := fun h => by simp only [goodStrikes, all_range_false hlt h, Bool.false_and]
    cases hw : within x 1 8 with
    | false =>
      have hg := hno (by simp only [strikeOk, hxd, hw, Bool.false_and])
      simp [hlt, hx, conOf_cons, sIn_pre, sIn_post, hw, hg]
    | true =>
      cases hw2 : within y 0 1000000 with
      | false =>
        have hg := hno (by simp only [strikeOk, hxd, hw, hw2, Bool.false_and, Bool.and_false])
        simp [hlt, hx, conOf_cons, sIn_pre, sIn_post, hw, hw2, hg]
      | true =>
        cases i with
        | zero =>
          have hok : strikeOk l 0 = true := by simp only [strikeOk, hxd, hw, hw2]; rfl
          simp at e
          simp [hlt, hx, conOf_cons, sIn_pre, sIn_post, hw, hw2]
          exact next hlt (all_range_succ (fun k hk => by omega) hok) (sub_of (by simp [e]))
        | succ j =>
          have hj : j < l.length := by omega
          obtain ⟨z, t, hy⟩ : ∃ z t, l[j] = (z, t) := ⟨_, _, rfl⟩
          have hyd : stk l j = (z, t) := by rw [stk_get hj, hy]
          have e2 : IntKind.i64.wrap (j : Int) = j := wrap64 (by omega) (by omega)
          have h0 : (0 : Int) ≤ (j : Int) + 1 := by omega
          have h1 : (j : Int) + 1 < (l.length : Int) := by omega
          have hpos : (0 : Int) < (j : Int) + 1 := by omega
          have hok : strikeOk l (j + 1) = decide (t ≤ y) := by
            simp only [strikeOk, hxd, hw, hw2, Nat.add_sub_cancel, hyd, Bool.true_and]; simp
          push_cast at e
          cases hyx : decide (t ≤ y) with
          | false =>
            have hg := hno (hok.trans hyx)
            simp at hyx
            simp [hlt, hx, conOf_cons, sIn_pre, sIn_post, hw, hw2, hg, e2, hpos, h0, h1, hj, hy, hyx]
          | true =>
            have hall2 := all_range_succ hall (hok.trans hyx)
            simp at hyx
            have hyx' : ¬ (y < t) := by omega
            simp [hlt, hx, conOf_cons, sIn_pre, sIn_post, hw, hw2, e2, hpos, h0, h1, hj, hy, hyx']
            exact next hlt hall2 (sub_of (by simp [e]))
  · have hge : i = l.length := by simp at h; omega
    subst hge
    have hg : goodStrikes l = decide (l.length ≤ 2000) := by simp only [goodStrikes, all_range_iff hall, Bool.true_and]
    simp [hg]
    omega
end Go.Proofs.Ytbmkofeahjmkgac
end

section
set_option maxRecDepth 100000
set_option maxHeartbeats 2000000
set_option linter.unusedVariables false
set_option linter.unusedSimpArgs false
open Go Go.VC
namespace Go.Proofs.Ytbmkofeahjmkgac
/-! matches: which lists are good; the missed ones -/
def allIn (l : List Int) (lo hi : Int) : Bool := l.all fun x => within x lo hi
theorem allIn_no {l : List Int} {lo hi : Int} {i : Nat} (h : i < l.length) (hf : within l[i] lo hi = false) : allIn l lo hi = false := by
  unfold allIn
  rw [Bool.eq_false_iff]; intro h2
  have := List.all_eq_true.1 h2 l[i] (List.getElem_mem h)
  rw [hf] at this; cases this
def inAt (l : List Int) (lo hi : Int) (k : Nat) : Prop := ∀ hk : k < l.length, within l[k] lo hi = true
theorem inAt_succ {l : List Int} {lo hi : Int} {i : Nat} (h : ∀ k, k < i → inAt l lo hi k) (hf : ∀ hi' : i < l.length, within l[i] lo hi = true) : ∀ k, k < i + 1 → inAt l lo hi k := by
  intro k hk hl
  rcases Nat.lt_succ_iff_lt_or_eq.1 hk with h1 | rfl
  · exact h k h1 hl
  · exact hf hl
theorem allIn_yes {l : List Int} {lo hi : Int} (h : ∀ k, k < l.length → inAt l lo hi k) : allIn l lo hi = true := by
  refine List.all_eq_true.2 fun x hx => ?_
  obtain ⟨k, hk, rfl⟩ := List.getElem_of_mem hx
  exact h k hk hk
abbrev sAll_A : List Int × Int × Int → List D := fun (l, lo, up) => [R 3 i64 l, i64 lo, i64 up]
theorem sAll_inj : ∀ x y, sAll_A x = sAll_A y → x = y := by
  rintro ⟨l, lo, up⟩ ⟨l', lo', up'⟩ h; simpa [Prod.ext_iff, and_assoc] using h
def sAll : List D → VC.Spec := mk sAll_A (fun _ : List Int × Int × Int => True) (fun (l, lo, up) rs fin => rs = [dBool (allIn l lo up)] ∧ fin = [])
theorem sAll_pre {l : List Int} {lo : Int} {up : Int} : (sAll [R 3 i64 l, i64 lo, i64 up]).pre = (True) := mk_preI sAll_inj (l, lo, up)
theorem sAll_post {l : List Int} {lo : Int} {up : Int} {rs fin : List D} : (sAll [R 3 i64 l, i64 lo, i64 up]).post rs fin = (rs = [dBool (allIn l lo up)] ∧ fin = []) := mk_postI sAll_inj (l, lo, up) trivial
theorem w41 : WalkOk [(27, sIn)] sAll_A (fun _ : List Int × Int × Int => True) (fun (l, lo, up) rs fin => rs = [dBool (allIn l lo up)] ∧ fin = []) d41 := by
  rintro ⟨l, lo, up⟩ hp hf
  replace hf : Tr.factsL [R 3 i64 l, i64 lo, i64 up] := hf
  simp at hf
  simp [d41, m41, sAll_A, boxIx]
  refine forK l.length (fun i => [(1, .own (i64 lo)), (2, .own (i64 up)), (9, .own (R 3 i64 l)), (10, .own (i64 l.length)), (11, .own (i64 i))]) (fun i => ∀ k, k < i → inAt l lo up k) (fun k hk => by omega) (sub_of (by simp)) ?_
  intro i hi hall
  simp
  refine condK (fun h => ?_) (fun h => ?_)
  · have hlt : i < l.length := by simpa using h
    have e := wrapS (n := i) (by omega)
    cases hw : within l[i] lo up with
    | false => simp [hlt, conOf_cons, sIn_pre, sIn_post, hw, allIn_no hlt hw]
    | true =>
      simp [hlt, conOf_cons, sIn_pre, sIn_post, hw]
      exact next hlt (inAt_succ hall fun _ => hw) (sub_of (by simp [e]))
  · have hge : i = l.length := by simp at h; omega
    subst hge
    simp [allIn_yes hall]
def goodOf (l : List Int) (most : Int) : Bool := decide (l.length ≤ 60) && allIn l (-1) most
abbrev sOfM_A : List Int × Int × Int → List D := fun (l, c, most) => [.nd .agg [R 3 i64 l, i64 c], i64 most]
theorem sOfM_inj : ∀ x y, sOfM_A x = sOfM_A y → x = y := by
  rintro ⟨l, c, most⟩ ⟨l', c', most'⟩ h; simpa [Prod.ext_iff, and_assoc] using h
def sOfM : List D → VC.Spec := mk sOfM_A (fun _ : List Int × Int × Int => True) (fun (l, c, most) rs fin => rs = [dBool (goodOf l most)] ∧ fin = [])
theorem sOfM_pre {l : List Int} {c : Int} {most : Int} : (sOfM [.nd .agg [R 3 i64 l, i64 c], i64 most]).pre = (True) := mk_preI sOfM_inj (l, c, most)
theorem sOfM_post {l : List Int} {c : Int} {most : Int} {rs fin : List D} : (sOfM [.nd .agg [R 3 i64 l, i64 c], i64 most]).post rs fin = (rs = [dBool (goodOf l most)] ∧ fin = []) := mk_postI sOfM_inj (l, c, most) trivial
theorem w31 : WalkOk [(41, sAll)] sOfM_A (fun _ : List Int × Int × Int => True) (fun (l, c, most) rs fin => rs = [dBool (goodOf l most)] ∧ fin = []) d31 := by
  rintro ⟨l, c, most⟩ hp hf
  replace hf : Tr.factsL [.nd .agg [R 3 i64 l, i64 c], i64 most] := hf
  simp at hf
  by_cases h : (l.length : Int) ≤ 60
  · have h' : l.length ≤ 60 := by omega
    simp [d31, m31, sOfM_A, boxIx, conOf_cons, sAll_pre, sAll_post, h, h', goodOf]
  · have h' : ¬ l.length ≤ 60 := by omega
    simp [d31, m31, sOfM_A, boxIx, conOf_cons, sAll_pre, sAll_post, h, h', goodOf]
/-- the places with -1 among the first i -/
def missedIn (l : List Int) (i : Nat) : List Int := ((List.range i).filter fun k => l.getD k 0 == -1).map fun (k : Nat) => (k : Int)
theorem missedIn_succ {l : List Int} {i : Nat} (h : i < l.length) : missedIn l (i + 1) = missedIn l i ++ if l[i] = -1 then [(i : Int)] else [] := by
  unfold missedIn
  rw [List.range_succ, List.filter_append, List.map_append]
  have : l.getD i 0 = l[i] := by rw [List.getD_eq_getElem?_getD, List.getElem?_eq_getElem h]; rfl
  by_cases hx : l[i] = -1 <;> simp [List.filter_cons, h, hx]
theorem missedIn_le (l : List Int) (i : Nat) : (missedIn l i).length ≤ i := by
  simp only [missedIn, List.length_map]; exact Nat.le_trans (List.length_filter_le _ _) (by simp)
abbrev sMissed_A : List Int × Int → List D := fun (l, c) => [.nd .agg [R 3 i64 l, i64 c]]
theorem sMissed_inj : ∀ x y, sMissed_A x = sMissed_A y → x = y := by
  rintro ⟨l, c⟩ ⟨l', c'⟩ h; simpa [Prod.ext_iff, and_assoc] using h
def sMissed : List D → VC.Spec := mk sMissed_A (fun (l, c) => goodOf l 60 = true) (fun (l, c) rs fin => rs = [Wr 3 i64 (missedIn l l.length), dBool true] ∧ fin = [])
theorem sMissed_pre {l : List Int} {c : Int} : (sMissed [.nd .agg [R 3 i64 l, i64 c]]).pre = (goodOf l 60 = true) := mk_preI sMissed_inj (l, c)
theorem sMissed_post {l : List Int} {c : Int} {rs fin : List D} (h : goodOf l 60 = true) : (sMissed [.nd .agg [R 3 i64 l, i64 c]]).post rs fin = (rs = [Wr 3 i64 (missedIn l l.length), dBool true] ∧ fin = []) := mk_postI sMissed_inj (l, c) h
theorem w18 : WalkOk [(31, sOfM)] sMissed_A (fun (l, c) => goodOf l 60 = true) (fun (l, c) rs fin => rs = [Wr 3 i64 (missedIn l l.length), dBool true] ∧ fin = []) d18 := by
  rintro ⟨l, c⟩ hp hf
  replace hf : Tr.factsL [.nd .agg [R 3 i64 l, i64 c]] := hf
  replace hp : goodOf l 60 = true := hp
  simp at hf
  have hl : l.length ≤ 60 := by simp only [goodOf, Bool.and_eq_true, decide_eq_true_eq] at hp; exact hp.1
  simp [d18, m18, sMissed_A, boxIx, conOf_cons, sOfM_pre, sOfM_post, hp]
  refine forK l.length (fun i => [(4, .own (Wr 3 i64 (missedIn l i))), (11, .own (R 3 i64 l)), (12, .own (i64 l.length)), (13, .own (i64 i))]) (fun _ => True) trivial (sub_of (by simp [missedIn])) ?_
  intro i hi _
  simp
  refine condK (fun h => ?_) (fun h => ?_)
  · have hlt : i < l.length := by simpa using h
    have e := wrapS (n := i) (by omega)
    have hm := missedIn_succ hlt
    have hle := missedIn_le l i
    simp [hlt]
    refine condK (fun h1 => ?_) (fun h1 => ?_)
    · simp at h1
      simp
      refine ⟨by omega, next hlt trivial (sub_of (by simp [e, hm, h1]))⟩
    · simp at h1
      simp
      exact next hlt trivial (sub_of (by simp [e, hm, h1]))
  · have hge : i = l.length := by simp at h; omega
    subst hge
    simp
end Go.Proofs.Ytbmkofeahjmkgac
end

section
set_option maxRecDepth 100000
set_option maxHeartbeats 2000000
set_option linter.unusedVariables false
set_option linter.unusedSimpArgs false
open Go Go.VC
namespace Go.Proofs.Ytbmkofeahjmkgac
/-! ideal strikes -/
def noText : ByteArray := ⟨#[]⟩
def rowN (rows : List ByteArray) (k : Nat) : ByteArray := rows.getD k noText
theorem rowN_get {rows : List ByteArray} {k : Nat} (h : k < rows.length) : rowN rows k = rows[k] := by unfold rowN; rw [List.getD_eq_getElem?_getD, List.getElem?_eq_getElem h]; rfl
def digit (r : ByteArray) (p : Nat) : Int := IntKind.u8.wrap (byteAt r p - 48)
def rowStrikes (b : Beat) (r : ByteArray) (k m : Nat) : List Strike := (List.range m).map fun p => (digit r p, blow b r.size k ((p : Int) + 1))
theorem rowStrikes_succ (b : Beat) (r : ByteArray) (k m : Nat) : rowStrikes b r k (m + 1) = rowStrikes b r k m ++ [(digit r m, blow b r.size k ((m : Int) + 1))] := by simp [rowStrikes, List.range_succ]
theorem rowStrikes_len (b : Beat) (r : ByteArray) (k m : Nat) : (rowStrikes b r k m).length = m := by simp [rowStrikes]
/-- the strikes of the first i rows -/
def idealN (b : Beat) (rows : List ByteArray) : Nat → List Strike
  | 0 => []
  | i + 1 => idealN b rows i ++ rowStrikes b (rowN rows i) i (rowN rows i).size
def ideal (b : Beat) (rows : List ByteArray) : List Strike := idealN b rows rows.length
theorem goodRows_len {rows : List ByteArray} (h : goodRows rows = true) : rows.length ≤ 800 := by
  simp only [goodRows, Bool.and_eq_true, decide_eq_true_eq] at h; exact h.1
theorem goodRows_row {rows : List ByteArray} (h : goodRows rows = true) {k : Nat} (hk : k < rows.length) : isRowOf (sz0 rows) rows[k] = true := by
  simp only [goodRows, Bool.and_eq_true] at h
  exact List.all_eq_true.1 h.2 _ (List.getElem_mem hk)
theorem goodRows_size {rows : List ByteArray} (h : goodRows rows = true) {k : Nat} (hk : k < rows.length) : rows[k].size ≤ 8 := by
  have := goodRows_row h hk
  simp only [isRowOf, Bool.and_eq_true] at this
  exact (goodRow_size this.2).2
theorem idealN_len (b : Beat) {rows : List ByteArray} (h : goodRows rows = true) : ∀ i, i ≤ rows.length → (idealN b rows i).length ≤ 8 * i
  | 0, _ => by simp [idealN]
  | i + 1, hi => by
    have h1 := idealN_len b h i (by omega)
    have h2 := goodRows_size h (show i < rows.length by omega)
    have h3 := rowN_get (show i < rows.length by omega)
    simp only [idealN, List.length_append, rowStrikes_len, h3]; omega
abbrev sIdealL_A : Int × Int × Int × List ByteArray → List D := fun (s, g, a, rows) => [.nd .agg [i64 s, i64 g, i64 a], R 9 dStr rows]
theorem sIdealL_inj : ∀ x y, sIdealL_A x = sIdealL_A y → x = y := by
  rintro ⟨s, g, a, rows⟩ ⟨s', g', a', rows'⟩ h; simpa [Prod.ext_iff, and_assoc] using h
def sIdealL : List D → VC.Spec := mk sIdealL_A (fun (s, g, a, rows) => goodRows rows = true) (fun (s, g, a, rows) rs fin => rs = [Wr 53 sk (ideal (s, g, a) rows)] ∧ fin = [])
theorem sIdealL_pre {s : Int} {g : Int} {a : Int} {rows : List ByteArray} : (sIdealL [.nd .agg [i64 s, i64 g, i64 a], R 9 dStr rows]).pre = (goodRows rows = true) := mk_preI sIdealL_inj (s, g, a, rows)
theorem sIdealL_post {s : Int} {g : Int} {a : Int} {rows : List ByteArray} {rs fin : List D} (h : goodRows rows = true) : (sIdealL [.nd .agg [i64 s, i64 g, i64 a], R 9 dStr rows]).post rs fin = (rs = [Wr 53 sk (ideal (s, g, a) rows)] ∧ fin = []) := mk_postI sIdealL_inj (s, g, a, rows) h
theorem w38 : WalkOk [(46, sAt), (47, sBlow)] sIdealL_A (fun (s, g, a, rows) => goodRows rows = true) (fun (s, g, a, rows) rs fin => rs = [Wr 53 sk (ideal (s, g, a) rows)] ∧ fin = []) d38 := by
  rintro ⟨s, g, a, rows⟩ hp hf
  replace hf : Tr.factsL [.nd .agg [i64 s, i64 g, i64 a], R 9 dStr rows] := hf
  replace hp : goodRows rows = true := hp
  simp at hf
  have hl := goodRows_len hp
  obtain ⟨b, hb⟩ : ∃ b : Beat, b = (s, g, a) := ⟨_, rfl⟩
  simp [d38, m38, sIdealL_A, boxIx]
  refine forK rows.length (fun i => [(2, .own (.nd (.box 32 ()) [bt (s, g, a)])), (5, .own (Wr 53 sk (idealN b rows i))), (9, .own (R 9 dStr rows)), (10, .own (i64 rows.length)), (11, .own (i64 i))]) (fun _ => True) trivial (sub_of (by simp [idealN])) ?_
  intro i hi _
  simp
  refine condK (fun h1 => ?_) (fun h1 => ?_)
  · have hlt : i < rows.length := by simpa using h1
    have e := wrapS (n := i) (by omega)
    have h8 := goodRows_size hp hlt
    have hN := idealN_len b hp i hi
    have hr := rowN_get hlt
    obtain ⟨r, hr0⟩ : ∃ r, r = rows[i] := ⟨_, rfl⟩
    rw [← hr0] at h8 hr
    simp [hlt, ← hr0]
    refine forK r.size (fun m => [(2, .own (.nd (.box 32 ()) [bt (s, g, a)])), (5, .own (Wr 53 sk (idealN b rows i ++ rowStrikes b r i m))), (6, .own (i64 i)), (7, .own (dStr r)), (8, .own (i64 ((m : Int) + 1))), (9, .own (R 9 dStr rows)), (10, .own (i64 rows.length)), (11, .own (i64 i))]) (fun _ => True) trivial (sub_of (by simp [rowStrikes])) ?_
    intro m hm _
    simp
    refine condK (fun h2 => ?_) (fun h2 => ?_)
    · have hmt : m < r.size := by simp at h2; omega
      have e1 : IntKind.i64.wrap ((m : Int) + 1 + 1) = (m : Int) + 1 + 1 := wrap64 (by omega) (by omega)
      have ha : at_ r ((m : Int) + 1) = digit r m := by simp [at_, digit]
      have hS := rowStrikes_succ b r i m
      have hSl := rowStrikes_len b r i m
      simp [conOf_cons, sAt_pre, sAt_post, sBlow_pre, sBlow_post, ha, ← hb, show (m : Int) + 1 ≤ r.size by omega, show (1 : Int) ≤ (m : Int) + 1 by omega]
      refine ⟨by omega, next hmt trivial (sub_of ?_)⟩
      simp [e1, hS]
    · have hge : m = r.size := by simp at h2; omega
      subst hge
      simp
      refine next hlt trivial (sub_of ?_)
      simp [e, idealN, hr]
  · have hge : i = rows.length := by simp at h1; omega
    subst hge
    simp [ideal, hb]

def idealOk (b : Beat) (rows : List ByteArray) : Bool := goodBeat b && goodRows rows && goodStrikes (ideal b rows)
def idealR (b : Beat) (rows : List ByteArray) : List Strike := bif idealOk b rows then ideal b rows else []
abbrev sIdeal_A : Int × Int × Int × List ByteArray → List D := fun (s, g, a, rows) => [.nd .agg [i64 s, i64 g, i64 a], R 9 dStr rows]
theorem sIdeal_inj : ∀ x y, sIdeal_A x = sIdeal_A y → x = y := by
  rintro ⟨s, g, a, rows⟩ ⟨s', g', a', rows'⟩ h; simpa [Prod.ext_iff, and_assoc] using h
def sIdeal : List D → VC.Spec := mk sIdeal_A (fun _ : Int × Int × Int × List ByteArray => True) (fun (s, g, a, rows) rs fin => rs = [Wr 53 sk (idealR (s, g, a) rows), dBool (idealOk (s, g, a) rows)] ∧ fin = [])
theorem sIdeal_pre {s : Int} {g : Int} {a : Int} {rows : List ByteArray} : (sIdeal [.nd .agg [i64 s, i64 g, i64 a], R 9 dStr rows]).pre = (True) := mk_preI sIdeal_inj (s, g, a, rows)
theorem sIdeal_post {s : Int} {g : Int} {a : Int} {rows : List ByteArray} {rs fin : List D} : (sIdeal [.nd .agg [i64 s, i64 g, i64 a], R 9 dStr rows]).post rs fin = (rs = [Wr 53 sk (idealR (s, g, a) rows), dBool (idealOk (s, g, a) rows)] ∧ fin = []) := mk_postI sIdeal_inj (s, g, a, rows) trivial
theorem w29 : WalkOk [(14, sBeat), (15, sRows), (16, sStrikes), (38, sIdealL)] sIdeal_A (fun _ : Int × Int × Int × List ByteArray => True) (fun (s, g, a, rows) rs fin => rs = [Wr 53 sk (idealR (s, g, a) rows), dBool (idealOk (s, g, a) rows)] ∧ fin = []) d29 := by
  rintro ⟨s, g, a, rows⟩ hp hf
  replace hf : Tr.factsL [.nd .agg [i64 s, i64 g, i64 a], R 9 dStr rows] := hf
  obtain ⟨b, hb⟩ : ∃ b : Beat, b = (s, g, a) := ⟨_, rfl⟩
  cases h1 : goodBeat (s, g, a) with
  | false => simp [d29, m29, sIdeal_A, boxIx, conOf_cons, sBeat_pre, sBeat_post, sRows_pre, sRows_post, sStrikes_pre, sStrikes_post, sIdealL_pre, sIdealL_post, h1, idealR, idealOk]
  | true =>
  cases h2 : goodRows rows with
  | false => simp [d29, m29, sIdeal_A, boxIx, conOf_cons, sBeat_pre, sBeat_post, sRows_pre, sRows_post, sStrikes_pre, sStrikes_post, sIdealL_pre, sIdealL_post, h1, h2, idealR, idealOk]
  | true =>
  cases h3 : goodStrikes (ideal (s, g, a) rows) with
  | false => simp [d29, m29, sIdeal_A, boxIx, conOf_cons, sBeat_pre, sBeat_post, sRows_pre, sRows_post, sStrikes_pre, sStrikes_post, sIdealL_pre, sIdealL_post, h1, h2, h3, idealR, idealOk]
  | true => simp [d29, m29, sIdeal_A, boxIx, conOf_cons, sBeat_pre, sBeat_post, sRows_pre, sRows_post, sStrikes_pre, sStrikes_post, sIdealL_pre, sIdealL_post, h1, h2, h3, idealR, idealOk]
theorem w22 : WalkOk [(21, sRows), (33, sBeat), (34, sBlow), (35, sStrikes)] sIdeal_A (fun _ : Int × Int × Int × List ByteArray => True) (fun (s, g, a, rows) rs fin => rs = [Wr 53 sk (idealR (s, g, a) rows), dBool (idealOk (s, g, a) rows)] ∧ fin = []) d22 := by
  rintro ⟨s, g, a, rows⟩ hp hf
  replace hf : Tr.factsL [.nd .agg [i64 s, i64 g, i64 a], R 9 dStr rows] := hf
  simp at hf
  cases hgb : goodBeat (s, g, a) with
  | false => simp [d22, m22, sIdeal_A, boxIx, conOf_cons, sRows_pre, sRows_post, sBeat_pre, sBeat_post, sBlow_pre, sBlow_post, sStrikes_pre, sStrikes_post, hgb, idealR, idealOk]
  | true =>
  cases h2 : goodRows rows with
  | false => simp [d22, m22, sIdeal_A, boxIx, conOf_cons, sRows_pre, sRows_post, sBeat_pre, sBeat_post, sBlow_pre, sBlow_post, sStrikes_pre, sStrikes_post, hgb, h2, idealR, idealOk]
  | true =>
  have hl := goodRows_len h2
  obtain ⟨b, hb⟩ : ∃ b : Beat, b = (s, g, a) := ⟨_, rfl⟩
  simp [d22, m22, sIdeal_A, boxIx, conOf_cons, sRows_pre, sRows_post, sBeat_pre, sBeat_post, sBlow_pre, sBlow_post, sStrikes_pre, sStrikes_post, hgb, h2]
  refine forK rows.length (fun i => [(2, .own (.nd (.box 32 ()) [bt (s, g, a)])), (6, .own (Wr 53 sk (idealN b rows i))), (19, .own (R 9 dStr rows)), (20, .own (i64 rows.length)), (21, .own (i64 i))]) (fun _ => True) trivial (sub_of (by simp [idealN])) ?_
  intro i hi _
  simp
  refine condK (fun h1 => ?_) (fun h1 => ?_)
  · have hlt : i < rows.length := by simpa using h1
    have e := wrapS (n := i) (by omega)
    have h8 := goodRows_size h2 hlt
    have hN := idealN_len b h2 i hi
    have hr := rowN_get hlt
    obtain ⟨r, hr0⟩ : ∃ r, r = rows[i] := ⟨_, rfl⟩
    rw [← hr0] at h8 hr
    simp [hlt, ← hr0]
    refine forK r.size (fun m => [(2, .own (.nd (.box 32 ()) [bt (s, g, a)])), (6, .own (Wr 53 sk (idealN b rows i ++ rowStrikes b r i m))), (7, .own (i64 i)), (8, .own (dStr r)), (27, .own (i64 r.size)), (28, .own (i64 m)), (19, .own (R 9 dStr rows)), (20, .own (i64 rows.length)), (21, .own (i64 i))]) (fun _ => True) trivial (sub_of (by simp [rowStrikes])) ?_
    intro m hm _
    simp
    refine condK (fun h2 => ?_) (fun h2 => ?_)
    · have hmt : m < r.size := by simp at h2; omega
      have e1 := wrapS (n := m) (by omega)
      have hS := rowStrikes_succ b r i m
      have hSl := rowStrikes_len b r i m
      simp [conOf_cons, sRows_pre, sRows_post, sBeat_pre, sBeat_post, sBlow_pre, sBlow_post, sStrikes_pre, sStrikes_post, u8_i64, ← hb, e1, hmt]
      refine ⟨by omega, next hmt trivial (sub_of ?_)⟩
      simp [e1, hS, digit]
    · have hge : m = r.size := by simp at h2; omega
      subst hge
      simp
      refine next hlt trivial (sub_of ?_)
      simp [e, idealN, hr]
  · have hge : i = rows.length := by simp at h1; omega
    subst hge
    have hid : idealN b rows rows.length = ideal (s, g, a) rows := by rw [hb]; rfl
    cases h3 : goodStrikes (ideal (s, g, a) rows) with
    | false => simp [conOf_cons, sRows_pre, sRows_post, sBeat_pre, sBeat_post, sBlow_pre, sBlow_post, sStrikes_pre, sStrikes_post, hid, h3, hgb, h2, idealR, idealOk]
    | true => simp [conOf_cons, sRows_pre, sRows_post, sBeat_pre, sBeat_post, sBlow_pre, sBlow_post, sStrikes_pre, sStrikes_post, hid, h3, hgb, h2, idealR, idealOk]
end Go.Proofs.Ytbmkofeahjmkgac
end

section
set_option maxRecDepth 100000
set_option maxHeartbeats 2000000
set_option linter.unusedVariables false
set_option linter.unusedSimpArgs false
open Go Go.VC
namespace Go.Proofs.Ytbmkofeahjmkgac
/-! the cost of a best alignment, of two lists of times -/
def pr (skip : Int) : List Int → List Int → Int
  | [], bs => skip * bs.length
  | _ :: as, [] => skip * (as.length + 1)
  | a :: as, b :: bs => min (min (skip + pr skip as (b :: bs)) (skip + pr skip (a :: as) bs)) (far a b + pr skip as bs)
  termination_by as bs => as.length + bs.length
section
variable (I S : List Int) (skip : Int)
def P (i j : Nat) : Int := pr skip (I.drop i) (S.drop j)
variable {I S skip}
theorem drop_at {l : List Int} {i : Nat} (h : i < l.length) : l.drop i = l.getD i 0 :: l.drop (i + 1) := by
  rw [List.drop_eq_getElem_cons h, List.getD_eq_getElem?_getD, List.getElem?_eq_getElem h]; rfl
theorem P_n {j : Nat} (h : j ≤ S.length) : P I S skip I.length j = skip * ((S.length : Int) - j) := by
  unfold P; rw [List.drop_length, pr, List.length_drop]; congr 1; omega
theorem pr_nil {l : List Int} : pr skip l [] = skip * l.length := by
  cases l with
  | nil => rw [pr]
  | cons a l => rw [pr]; simp
theorem P_m {i : Nat} (h : i ≤ I.length) : P I S skip i S.length = skip * ((I.length : Int) - i) := by
  unfold P; rw [List.drop_length, pr_nil, List.length_drop]; congr 1; omega
theorem P_in {i j : Nat} (hi : i < I.length) (hj : j < S.length) :
    P I S skip i j = min (min (skip + P I S skip (i + 1) j) (skip + P I S skip i (j + 1))) (far (I.getD i 0) (S.getD j 0) + P I S skip (i + 1) (j + 1)) := by
  unfold P
  rw [drop_at hi, drop_at hj, pr, ← drop_at hi, ← drop_at hj]
theorem P_nj {j : Nat} (h : j < S.length) : P I S skip I.length j = skip + P I S skip I.length (j + 1) := by
  rw [P_n (by omega), P_n (by omega)]
  have : (S.length : Int) - j = 1 + (S.length - (j + 1 : Nat)) := by omega
  rw [this, Int.mul_add, Int.mul_one]
theorem P_im {i : Nat} (h : i < I.length) : P I S skip i S.length = skip + P I S skip (i + 1) S.length := by
  rw [P_m (by omega), P_m (by omega)]
  have : (I.length : Int) - i = 1 + (I.length - (i + 1 : Nat)) := by omega
  rw [this, Int.mul_add, Int.mul_one]
theorem P_le_i {i j : Nat} (hi : i < I.length) (hj : j ≤ S.length) : P I S skip i j ≤ skip + P I S skip (i + 1) j := by
  by_cases h : j < S.length
  · rw [P_in hi h]; omega
  · have : j = S.length := by omega
    subst this; rw [P_im hi]; omega
theorem P_le_j {i j : Nat} (hi : i ≤ I.length) (hj : j < S.length) : P I S skip i j ≤ skip + P I S skip i (j + 1) := by
  by_cases h : i < I.length
  · rw [P_in h hj]; omega
  · have : i = I.length := by omega
    subst this; rw [P_nj hj]; omega
theorem far_nonneg (a b : Int) : 0 ≤ far a b := by unfold far; omega
theorem far_le {a b : Int} {M : Int} (ha : 0 ≤ a) (ha' : a ≤ M) (hb : 0 ≤ b) (hb' : b ≤ M) : far a b ≤ M := by unfold far; omega
theorem far_abs (a b : Int) : max (a - b) (-(a - b)) = far a b := by unfold far; omega
theorem P_bound (hs : 0 ≤ skip) : ∀ (n i j : Nat), (I.length - i) + (S.length - j) = n → i ≤ I.length → j ≤ S.length → 0 ≤ P I S skip i j ∧ P I S skip i j ≤ skip * n := by
  intro n
  induction n with
  | zero =>
    intro i j h hi hj
    have : i = I.length := by omega
    subst this
    rw [P_n hj]
    have : (S.length : Int) - j = 0 := by omega
    rw [this]; simp
  | succ n ih =>
    intro i j h hi hj
    have e : skip * ((n + 1 : Nat) : Int) = skip + skip * n := by rw [Int.natCast_add, Int.mul_add]; simp; omega
    rw [e]
    by_cases h1 : i < I.length
    · obtain ⟨a1, a2⟩ := ih (i + 1) j (by omega) (by omega) hj
      by_cases h2 : j < S.length
      · obtain ⟨b1, b2⟩ := ih i (j + 1) (by omega) (by omega) (by omega)
        have hlo : ∀ k, k ≤ I.length → 0 ≤ P I S skip (i + 1) (j + 1) := by
          intro k _
          by_cases h3 : n = 0
          · omega
          · have : (I.length - (i + 1)) + (S.length - (j + 1)) = n - 1 := by omega
            have h4 : P I S skip (i + 1) j ≤ skip + P I S skip (i + 1) (j + 1) := P_le_j (by omega) h2
            have h5 : pr skip (I.drop (i + 1)) (S.drop (j + 1)) = P I S skip (i + 1) (j + 1) := rfl
            -- the lower bound by itself
            have low : ∀ (as bs : List Int), 0 ≤ pr skip as bs := by
              intro as bs
              induction as, bs using pr.induct with
              | case1 bs => rw [pr]; exact Int.mul_nonneg hs (by omega)
              | case2 a as => rw [pr]; exact Int.mul_nonneg hs (by omega)
              | case3 a as b bs h1 h2 h3 => rw [pr]; have := far_nonneg a b; omega
            rw [← h5]; exact low _ _
        have h3 := hlo 0 (by omega)
        have h4 := far_nonneg (I.getD i 0) (S.getD j 0)
        rw [P_in h1 h2]; omega
      · have : j = S.length := by omega
        subst this; rw [P_im h1]; omega
    · have : i = I.length := by omega
      subst this
      have h2 : j < S.length := by omega
      obtain ⟨b1, b2⟩ := ih I.length (j + 1) (by omega) (by omega) (by omega)
      rw [P_nj h2]; omega
variable (I S skip)
/-- does ideal time i fit struck time n -/
def fits (i j n : Nat) : Bool := decide (P I S skip i j = skip * ((n : Int) - j) + far (I.getD i 0) (S.getD n 0) + P I S skip (i + 1) (n + 1))
def skips (i j : Nat) : Bool := decide (P I S skip i j = skip + P I S skip (i + 1) j)
variable {I S skip}
theorem fit_ex {i : Nat} (hi : i < I.length) : ∀ (d j : Nat), S.length - j = d → j ≤ S.length → skips I S skip i j = false → ∃ n, j ≤ n ∧ n < S.length ∧ fits I S skip i j n = true := by
  intro d
  induction d with
  | zero =>
    intro j hd hj hs
    have : j = S.length := by omega
    subst this
    simp [skips, P_im hi] at hs
  | succ d ih =>
    intro j hd hj hs
    have hjS : j < S.length := by omega
    simp only [skips, decide_eq_false_iff_not] at hs
    have h1 := P_in (skip := skip) hi hjS
    have h2 := P_le_i (skip := skip) hi hj
    have h3 := P_le_j (I := I) (skip := skip) (i := i + 1) (by omega) hjS
    by_cases h4 : P I S skip i j = far (I.getD i 0) (S.getD j 0) + P I S skip (i + 1) (j + 1)
    · refine ⟨j, Nat.le_refl _, hjS, ?_⟩
      simp only [fits, decide_eq_true_eq]
      rw [h4]; simp
    · have h5 : P I S skip i j = skip + P I S skip i (j + 1) := by omega
      have h6 : skips I S skip i (j + 1) = false := by
        simp only [skips, decide_eq_false_iff_not]
        intro h7; omega
      obtain ⟨n, n1, n2, n3⟩ := ih (j + 1) (by omega) (by omega) h6
      refine ⟨n, by omega, n2, ?_⟩
      simp only [fits, decide_eq_true_eq] at n3 ⊢
      rw [h5, n3]
      have : skip * ((n : Int) - j) = skip + skip * ((n : Int) - (j + 1 : Nat)) := by
        have : (n : Int) - j = 1 + ((n : Int) - (j + 1 : Nat)) := by omega
        rw [this, Int.mul_add, Int.mul_one]
      omega
variable (I S skip)
def firstFit (i j : Nat) : Nat := ((List.range S.length).find? fun n => decide (j ≤ n) && fits I S skip i j n).getD S.length
variable {I S skip}
theorem firstFit_eq {i j n : Nat} (h1 : j ≤ n) (h2 : n < S.length) (h3 : fits I S skip i j n = true) (h4 : ∀ k, j ≤ k → k < n → fits I S skip i j k = false) : firstFit I S skip i j = n := by
  unfold firstFit
  have : (List.range S.length).find? (fun n => decide (j ≤ n) && fits I S skip i j n) = some n := by
    rw [List.find?_range_eq_some]
    refine ⟨by simp [h1, h3], by simpa using h2, fun k hk => ?_⟩
    by_cases hjk : j ≤ k
    · simp [hjk, h4 k hjk hk]
    · simp [hjk]
  rw [this]; rfl
theorem firstFit_spec {i j : Nat} (hi : i < I.length) (hj : j ≤ S.length) (hs : skips I S skip i j = false) :
    j ≤ firstFit I S skip i j ∧ firstFit I S skip i j < S.length ∧ fits I S skip i j (firstFit I S skip i j) = true ∧ ∀ k, j ≤ k → k < firstFit I S skip i j → fits I S skip i j k = false := by
  obtain ⟨n, n1, n2, n3⟩ := fit_ex hi _ j rfl hj hs
  have hex : ∃ n, n < S.length ∧ j ≤ n ∧ fits I S skip i j n = true ∧ ∀ k, j ≤ k → k < n → fits I S skip i j k = false := by
    have : ∀ d, ∀ n, n - j = d → j ≤ n → n < S.length → fits I S skip i j n = true → ∃ n, n < S.length ∧ j ≤ n ∧ fits I S skip i j n = true ∧ ∀ k, j ≤ k → k < n → fits I S skip i j k = false := by
      intro d
      induction d using Nat.strongRecOn with
      | ind d ih =>
        intro n hd h1 h2 h3
        by_cases hk : ∃ k, j ≤ k ∧ k < n ∧ fits I S skip i j k = true
        · obtain ⟨k, k1, k2, k3⟩ := hk
          exact ih (k - j) (by omega) k rfl k1 (by omega) k3
        · refine ⟨n, h2, h1, h3, fun k hk1 hk2 => ?_⟩
          rw [Bool.eq_false_iff]; intro h; exact hk ⟨k, hk1, hk2, h⟩
    exact this _ n rfl n1 n2 n3
  obtain ⟨n, a1, a2, a3, a4⟩ := hex
  rw [firstFit_eq a2 a1 a3 a4]
  exact ⟨a2, a1, a3, a4⟩
variable (I S skip)
/-- after i ideal times: the next struck time, what was matched -/
def bm : Nat → Nat × List Int
  | 0 => (0, [])
  | i + 1 => bif skips I S skip i (bm i).1 then ((bm i).1, (bm i).2 ++ [-1]) else (firstFit I S skip i (bm i).1 + 1, (bm i).2 ++ [(firstFit I S skip i (bm i).1 : Int)])
variable {I S skip}
theorem bm_le : ∀ i, i ≤ I.length → (bm I S skip i).1 ≤ S.length
  | 0, _ => by simp [bm]
  | i + 1, hi => by
    have h := bm_le i (by omega)
    simp only [bm]
    cases hs : skips I S skip i (bm I S skip i).1 with
    | true => simpa using h
    | false =>
      have := firstFit_spec (by omega) h hs
      simp only [cond_false]; omega
theorem bm_len : ∀ i, (bm I S skip i).2.length = i
  | 0 => by simp [bm]
  | i + 1 => by
    simp only [bm]
    cases skips I S skip i (bm I S skip i).1 <;> simp [bm_len i]
theorem bm_get : ∀ i k, k < i → (bm I S skip i).2[k]? = some (bif skips I S skip k (bm I S skip k).1 then -1 else (firstFit I S skip k (bm I S skip k).1 : Int))
  | 0, k, h => by omega
  | i + 1, k, h => by
    have hl := bm_len (I := I) (S := S) (skip := skip) i
    by_cases hk : k < i
    · have := bm_get i k hk
      simp only [bm]
      cases skips I S skip i (bm I S skip i).1 <;> simp only [cond_true, cond_false] <;> rw [List.getElem?_append_left (by omega)] <;> exact this
    · have : k = i := by omega
      subst this
      simp only [bm]
      cases skips I S skip k (bm I S skip k).1 <;> simp only [cond_true, cond_false] <;> rw [List.getElem?_append_right (by omega)] <;> simp [hl]
def best (I S : List Int) (skip : Int) : List Int := (bm I S skip I.length).2
end
end Go.Proofs.Ytbmkofeahjmkgac
end
