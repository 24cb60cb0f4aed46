/- What the told functions compute, each function once. -/
import Derived.Test.YtbmkofeahjmkgacW1
section
set_option maxRecDepth 100000
set_option maxHeartbeats 2000000
set_option linter.unusedVariables false
set_option linter.unusedSimpArgs false
open Go Go.VC
namespace Go.Proofs.Ytbmkofeahjmkgac
/-! tables -/
def tabl {α : Type} (n : Nat) (f : Nat → α) : List α := (List.range n).map f
@[simp] theorem tabl_length {α : Type} (n : Nat) (f : Nat → α) : (tabl n f).length = n := by simp [tabl]
theorem tabl_get {α : Type} {n : Nat} {f : Nat → α} {i : Nat} (h : i < n) (h' : i < (tabl n f).length) : (tabl n f)[i]'h' = f i := by simp [tabl]
@[simp] theorem tabl_getE {α : Type} {n : Nat} {f : Nat → α} {i : Nat} (h' : i < (tabl n f).length) : (tabl n f)[i]'h' = f i := by simp [tabl]
@[simp] theorem tabl_get? {α : Type} {n : Nat} {f : Nat → α} {i : Nat} (h : i < n) : (tabl n f)[i]? = some (f i) := by simp [tabl, h]
theorem tabl_modify {α : Type} {n : Nat} {f g : Nat → α} {i : Nat} {u : α → α} (h : i < n) (hi : u (f i) = g i) (ho : ∀ k, k < n → k ≠ i → f k = g k) : (tabl n f).modify i u = tabl n g := by
  apply List.ext_getElem
  · simp [tabl]
  · intro k h1 h2
    simp only [tabl_length] at h2
    rw [List.getElem_modify, tabl_get (by simpa [tabl] using h2)]
    split
    · rename_i e; subst e; rw [tabl_get h]; exact hi
    · rename_i e; rw [tabl_get (by simpa [tabl] using h2)]; exact ho k (by simpa [tabl] using h2) (Ne.symm e)
theorem tabl_congr {α : Type} {n : Nat} {f g : Nat → α} (h : ∀ k, k < n → f k = g k) : tabl n f = tabl n g := by
  unfold tabl; exact List.map_congr_left fun k hk => h k (by simpa using hk)
theorem replicate_tabl {α : Type} (n : Nat) (z : α) : List.replicate n z = tabl n fun _ => z := by
  apply List.ext_getElem
  · simp [tabl]
  · intro k h1 h2; simp [tabl]
/-- a row of the table whose entries from j on are done -/
def rowF (I S : List Int) (skip : Int) (i j c : Nat) : D := i64 (if j ≤ c then P I S skip i c else 0)
def prow (I S : List Int) (skip : Int) (i j : Nat) : D := .nd (.row true 3 ()) (tabl (S.length + 1) (rowF I S skip i j))
/-- the table: row i's entries from j on are done, and the rows behind it -/
def tabF (I S : List Int) (skip : Int) (i j r : Nat) : D := if r = i then prow I S skip i j else if i ≤ r then prow I S skip r 0 else N 3
def ptab2 (I S : List Int) (skip : Int) (i j : Nat) : D := .nd (.row true 44 ()) (tabl (I.length + 1) (tabF I S skip i j))
/-- the rows from i on are done -/
def tabG (I S : List Int) (skip : Int) (i r : Nat) : D := if i ≤ r then prow I S skip r 0 else N 3
def ptab (I S : List Int) (skip : Int) (i : Nat) : D := .nd (.row true 44 ()) (tabl (I.length + 1) (tabG I S skip i))
section
variable {I S : List Int} {skip : Int} {i j c : Nat}
theorem rowF_done (h : j ≤ c) : rowF I S skip i j c = i64 (P I S skip i c) := by unfold rowF; rw [if_pos h]
theorem tab_i : tabF I S skip i j i = .nd (.row true 3 ()) (tabl (S.length + 1) (rowF I S skip i j)) := by unfold tabF; rw [if_pos rfl]; rfl
theorem tab_i1 : tabF I S skip i j (i + 1) = .nd (.row true 3 ()) (tabl (S.length + 1) (rowF I S skip (i + 1) 0)) := by unfold tabF; rw [if_neg (by omega), if_pos (by omega)]; rfl
theorem tabG_at (h' : i ≤ c) : tabG I S skip i c = .nd (.row true 3 ()) (tabl (S.length + 1) (rowF I S skip c 0)) := by unfold tabG; rw [if_pos h']; rfl
theorem tabG_no (h' : c < i) : tabG I S skip i c = N 3 := by unfold tabG; rw [if_neg (by omega)]
theorem row_z : rowF I S skip i (j + 1) j = i64 0 := by unfold rowF; rw [if_neg (by omega)]
theorem row_0 : rowF I S skip i 0 j = i64 (P I S skip i j) := rowF_done (Nat.zero_le _)
theorem row_s : rowF I S skip i j j = i64 (P I S skip i j) := rowF_done (Nat.le_refl _)
theorem prow_new : .nd (.row true 3 ()) (List.replicate (S.length + 1) (i64 0)) = prow I S skip i (S.length + 1) := by
  unfold prow; rw [replicate_tabl]
  congr 1
  exact tabl_congr fun k hk => by unfold rowF; rw [if_neg (by omega)]
theorem ptab_0 : ptab I S skip (I.length + 1) = .nd (.row true 44 ()) (List.replicate (I.length + 1) (N 3)) := by
  unfold ptab; rw [replicate_tabl]
  congr 1
  exact tabl_congr fun k hk => by unfold tabG; rw [if_neg (by omega)]
theorem ptab_2 : ptab2 I S skip i 0 = ptab I S skip i := by
  unfold ptab ptab2
  congr 1
  exact tabl_congr fun k hk => by
    unfold tabF tabG
    split
    · rename_i e; subst e; rw [if_pos (by omega)]
    · rfl
/-- one entry more -/
theorem row_put (h : j < S.length + 1) {v : D} (hv : v = i64 (P I S skip i j)) {u : D → D} (hu : ∀ n, u (i64 n) = v) : (tabl (S.length + 1) (rowF I S skip i (j + 1))).modify j u = tabl (S.length + 1) (rowF I S skip i j) := by
  refine tabl_modify h ?_ fun k hk hne => ?_
  · rw [show rowF I S skip i (j + 1) j = i64 0 by unfold rowF; rw [if_neg (by omega)], hu, hv, rowF_done (Nat.le_refl _)]
  · unfold rowF
    by_cases hjk : j + 1 ≤ k
    · rw [if_pos hjk, if_pos (by omega)]
    · rw [if_neg hjk, if_neg (by omega)]
theorem tab_put (h : i < I.length + 1) {j' : Nat} {u : D → D} (hu : u (prow I S skip i j) = prow I S skip i j') : (tabl (I.length + 1) (tabF I S skip i j)).modify i u = tabl (I.length + 1) (tabF I S skip i j') := by
  refine tabl_modify h ?_ fun k hk hne => ?_
  · unfold tabF; rw [if_pos rfl, if_pos rfl]; exact hu
  · unfold tabF; rw [if_neg hne, if_neg hne]
theorem tab_new (h : i < I.length + 1) {u : D → D} (hu : u (N 3) = prow I S skip i (S.length + 1)) : (tabl (I.length + 1) (tabG I S skip (i + 1))).modify i u = tabl (I.length + 1) (tabF I S skip i (S.length + 1)) := by
  refine tabl_modify h ?_ fun k hk hne => ?_
  · unfold tabF tabG; rw [if_pos rfl, if_neg (by omega)]; exact hu
  · unfold tabF tabG; rw [if_neg hne]
    by_cases hik : i ≤ k
    · rw [if_pos hik, if_pos (by omega)]
    · rw [if_neg hik, if_neg (by omega)]
end
theorem noRd_prow {I S : List Int} {skip : Int} {i j : Nat} : (prow I S skip i j).noRd = true := by
  unfold prow
  rw [Tr.noRd, noRds_iff]
  · intro t ht
    obtain ⟨k, _, rfl⟩ := List.mem_map.1 ht
    rfl
  · intro e x c cs h _; cases h
theorem noRd_ptab {I S : List Int} {skip : Int} {i : Nat} : Tr.noRds (tabl (I.length + 1) (tabG I S skip i)) = true := by
  rw [noRds_iff]
  intro t ht
  obtain ⟨k, _, rfl⟩ := List.mem_map.1 ht
  unfold tabG
  split
  · exact noRd_prow
  · rfl
theorem asked_bounds {I S : List Int} {skip : Int} (h : asked I S skip = true) : I.length ≤ 60 ∧ S.length ≤ 60 ∧ 0 ≤ skip ∧ skip ≤ 10000 ∧ (∀ k, k < I.length → 0 ≤ I.getD k 0 ∧ I.getD k 0 ≤ 1000000) ∧ ∀ k, k < S.length → 0 ≤ S.getD k 0 ∧ S.getD k 0 ≤ 1000000 := by
  simp only [asked, goodTimes, Bool.and_eq_true, decide_eq_true_eq, within_iff] at h
  have ht : ∀ (l : List Int), (List.range l.length).all (timeOk l) = true → ∀ k, k < l.length → 0 ≤ l.getD k 0 ∧ l.getD k 0 ≤ 1000000 := by
    intro l hl k hk
    have := List.all_eq_true.1 hl k (by simpa using hk)
    simp only [timeOk, Bool.and_eq_true, within_iff] at this
    exact this.1
  exact ⟨h.1.1.2, h.1.2.2, h.2.1, h.2.2, ht _ h.1.1.1, ht _ h.1.2.1⟩
theorem P_ok {I S : List Int} {skip : Int} (h : asked I S skip = true) {i j : Nat} (hi : i ≤ I.length) (hj : j ≤ S.length) : 0 ≤ P I S skip i j ∧ P I S skip i j ≤ 1200000 := by
  obtain ⟨h1, h2, h3, h4, _, _⟩ := asked_bounds h
  obtain ⟨b1, b2⟩ := P_bound (I := I) (S := S) h3 _ i j rfl hi hj
  refine ⟨b1, Int.le_trans b2 ?_⟩
  have : skip * (((I.length - i) + (S.length - j) : Nat) : Int) ≤ 10000 * 120 := Int.mul_le_mul h4 (by omega) (by omega) (by omega)
  omega
theorem dn_skip {i : Nat} (h : i ≤ 60) : IntKind.i64.wrap ((i : Int) - 1) = (i : Int) - 1 := wrap64 (by omega) (by omega)
abbrev sPrices_A : List Int × List Int × Int → List D := fun (a, b, skip) => [R 3 i64 a, R 3 i64 b, i64 skip]
theorem sPrices_inj : ∀ x y, sPrices_A x = sPrices_A y → x = y := by
  rintro ⟨a, b, skip⟩ ⟨a', b', skip'⟩ h; simpa [Prod.ext_iff, and_assoc] using h
def sPrices : List D → VC.Spec := mk sPrices_A (fun (a, b, skip) => asked a b skip = true) (fun (a, b, skip) rs fin => rs = [ptab a b skip 0] ∧ fin = [])
theorem sPrices_pre {a : List Int} {b : List Int} {skip : Int} : (sPrices [R 3 i64 a, R 3 i64 b, i64 skip]).pre = (asked a b skip = true) := mk_preI sPrices_inj (a, b, skip)
theorem sPrices_post {a : List Int} {b : List Int} {skip : Int} {rs fin : List D} (h : asked a b skip = true) : (sPrices [R 3 i64 a, R 3 i64 b, i64 skip]).post rs fin = (rs = [ptab a b skip 0] ∧ fin = []) := mk_postI sPrices_inj (a, b, skip) h
theorem w49 : WalkOk [(50, sFar), (54, sLeast)] sPrices_A (fun (a, b, skip) => asked a b skip = true) (fun (a, b, skip) rs fin => rs = [ptab a b skip 0] ∧ fin = []) d49 := by
  rintro ⟨a, b, skip⟩ hp hf
  replace hf : Tr.factsL [R 3 i64 a, R 3 i64 b, i64 skip] := hf
  replace hp : asked a b skip = true := hp
  simp at hf
  obtain ⟨hl1, hl2, hs1, hs2, ht1, ht2⟩ := asked_bounds hp
  have e1 := wrapS (n := a.length) (by omega)
  have e2 := wrapS (n := b.length) (by omega)
  simp [d49, m49, sPrices_A, boxIx, e1]
  refine ⟨by omega, ?_⟩
  refine forK (a.length + 1) (fun c => [(0, .own (R 3 i64 a)), (1, .own (R 3 i64 b)), (2, .own (i64 skip)), (7, .own (ptab a b skip (a.length + 1 - c))), (8, .own (i64 ((a.length : Int) - c)))]) (fun _ => True) trivial (sub_of ?_) ?_
  · simp [ptab_0]
  intro c hc _
  simp
  refine condK (fun h1 => ?_) (fun h1 => ?_)
  · have hca : c ≤ a.length := by simp at h1; omega
    obtain ⟨i, hi⟩ : ∃ i, i = a.length - c := ⟨_, rfl⟩
    have hia : i ≤ a.length := by omega
    have hz : (a.length : Int) - c = i := by omega
    have e3 := dn_skip (i := i) (by omega)
    have h4 : a.length + 1 - c = i + 1 := by omega
    have k0 : i < a.length + 1 := by omega
    simp [hz, h4, ptab, e2, k0, hia, tabG_no]
    refine ⟨⟨by omega, by omega⟩, by omega, ?_⟩
    refine forK (b.length + 1) (fun d => [(0, .own (R 3 i64 a)), (1, .own (R 3 i64 b)), (2, .own (i64 skip)), (7, .own (ptab2 a b skip i (b.length + 1 - d))), (8, .own (i64 i)), (9, .own (i64 ((b.length : Int) - d)))]) (fun _ => True) trivial (sub_of ?_) ?_
    · simp [ptab2]
      exact tab_new (by omega) prow_new
    intro d hd _
    simp
    refine condK (fun h2 => ?_) (fun h2 => ?_)
    · have hdb : d ≤ b.length := by simp at h2; omega
      obtain ⟨j, hj⟩ : ∃ j, j = b.length - d := ⟨_, rfl⟩
      have hjb : j ≤ b.length := by omega
      have hzj : (b.length : Int) - d = j := by omega
      have e4 := dn_skip (i := j) (by omega)
      have h5 : b.length + 1 - d = j + 1 := by omega
      have h5' : b.length + 1 - (d + 1) = j := by omega
      have hz' : (b.length : Int) - ((d : Int) + 1) = (j : Int) - 1 := by omega
      have hbd := P_ok hp hia hjb
      have k1 : (i : Int) < (a.length : Int) + 1 := by omega
      have k2 : (j : Int) < (b.length : Int) + 1 := by omega
      have k3 : j < b.length + 1 := by omega
      by_cases hin : i = a.length
      · have hin' : (i : Int) = a.length := by omega
        have hv : P a b skip i j = skip * ((b.length : Int) - j) := by rw [hin]; exact P_n hjb
        have w1 : IntKind.i64.wrap ((b.length : Int) - j) = (b.length : Int) - j := wrap64 (by omega) (by omega)
        have w2 : IntKind.i64.wrap (skip * ((b.length : Int) - j)) = P a b skip i j := by rw [← hv]; exact wrap64 (by omega) (by omega)
        simp [hzj, h5, ptab2, tab_i, row_z, w1, w2, k0, k1, k2, k3, eq_true hin']
        refine next (by omega) trivial (sub_of ?_)
        simp [e4, h5', hz']
        exact tab_put k0 (congrArg (Tr.nd (.row true 3 ())) (row_put k3 rfl fun n => rfl))
      · have hin' : ¬ ((i : Int) = a.length) := by omega
        have hi1 : i < a.length := by omega
        by_cases hjm : j = b.length
        · have hjm' : (j : Int) = b.length := by omega
          have hv : P a b skip i j = skip * ((a.length : Int) - i) := by rw [hjm]; exact P_m hia
          have w1 : IntKind.i64.wrap ((a.length : Int) - i) = (a.length : Int) - i := wrap64 (by omega) (by omega)
          have w2 : IntKind.i64.wrap (skip * ((a.length : Int) - i)) = P a b skip i j := by rw [← hv]; exact wrap64 (by omega) (by omega)
          simp [hzj, h5, ptab2, tab_i, row_z, w1, w2, k0, k1, k2, k3, eq_false hin', eq_true hjm']
          refine next (by omega) trivial (sub_of ?_)
          simp [e4, h5', hz']
          exact tab_put k0 (congrArg (Tr.nd (.row true 3 ())) (row_put k3 rfl fun n => rfl))
        · have hjm' : ¬ ((j : Int) = b.length) := by omega
          have hj1 : j < b.length := by omega
          have hv := P_in (skip := skip) hi1 hj1
          have b1 := P_ok hp (show i + 1 ≤ a.length by omega) hjb
          have b2 := P_ok hp hia (show j + 1 ≤ b.length by omega)
          have b3 := P_ok hp (show i + 1 ≤ a.length by omega) (show j + 1 ≤ b.length by omega)
          have hta := ht1 i hi1
          have htb := ht2 j hj1
          have ga : a.getD i 0 = a[i] := by rw [List.getD_eq_getElem?_getD, List.getElem?_eq_getElem hi1]; rfl
          have gb : b.getD j 0 = b[j] := by rw [List.getD_eq_getElem?_getD, List.getElem?_eq_getElem hj1]; rfl
          rw [ga, gb] at hv
          rw [ga] at hta
          rw [gb] at htb
          have f1 := far_nonneg a[i] b[j]
          have f2 := far_le hta.1 hta.2 htb.1 htb.2
          have w1 := wrapS (n := i) (by omega)
          have w2 := wrapS (n := j) (by omega)
          have w3 : IntKind.i64.wrap (skip + P a b skip (i + 1) j) = skip + P a b skip (i + 1) j := wrap64 (by omega) (by omega)
          have w4 : IntKind.i64.wrap (skip + P a b skip i (j + 1)) = skip + P a b skip i (j + 1) := wrap64 (by omega) (by omega)
          have w5 : IntKind.i64.wrap (far a[i] b[j] + P a b skip (i + 1) (j + 1)) = far a[i] b[j] + P a b skip (i + 1) (j + 1) := wrap64 (by omega) (by omega)
          have k4 : i + 1 < a.length + 1 := by omega
          have k5 : j + 1 < b.length + 1 := by omega
          have k6 : (i : Int) + 1 < (a.length : Int) + 1 := by omega
          have k7 : (j : Int) + 1 < (b.length : Int) + 1 := by omega
          have k8 : (0 : Int) ≤ (i : Int) + 1 := by omega
          have k9 : (0 : Int) ≤ (j : Int) + 1 := by omega
          have f3 : far a[i] b[j] ≤ 9223372036854775807 := by omega
          simp [hzj, h5, ptab2, tab_i, tab_i1, row_z, row_0, row_s, w1, w2, w3, w4, w5, k0, k1, k2, k3, k4, k5, k6, k7, k8, k9, eq_false hin', eq_false hjm', conOf_cons, sFar_pre, sFar_post, sLeast_pre, sLeast_post, f3, hi1, hj1]
          have hv2 : min (skip + min (P a b skip (i + 1) j) (P a b skip i (j + 1))) (far a[i] b[j] + P a b skip (i + 1) (j + 1)) = P a b skip i j := by omega
          refine next (by omega) trivial (sub_of ?_)
          simp [e4, h5', hz', hv2]
          exact tab_put k0 (congrArg (Tr.nd (.row true 3 ())) (row_put k3 rfl fun n => rfl))
    · have hdd : d = b.length + 1 := by simp at h2; omega
      subst hdd
      simp
      refine next (by omega) trivial (sub_of ?_)
      simp [e3, ptab_2]
      exact ⟨by rw [show a.length - c = i by omega]; rfl, by omega⟩
  · have hcc : c = a.length + 1 := by simp at h1; omega
    subst hcc
    simp [ptab, noRd_ptab]
end Go.Proofs.Ytbmkofeahjmkgac
end

section
set_option maxRecDepth 100000
set_option maxHeartbeats 2000000
set_option linter.unusedVariables false
set_option linter.unusedSimpArgs false
open Go Go.VC
namespace Go.Proofs.Ytbmkofeahjmkgac
/-! the program's table: the least of at most three options -/
def mins (o : List Int) : Nat → Int
  | 0 => 0
  | 1 => o.getD 0 0
  | k + 2 => min (mins o (k + 1)) (o.getD (k + 1) 0)
/-- entry j of row i is being reckoned: it holds v -/
def rowV (I S : List Int) (skip : Int) (i j : Nat) (v : Int) (c : Nat) : D := if c = j then i64 v else rowF I S skip i (j + 1) c
def tabV (I S : List Int) (skip : Int) (i j : Nat) (v : Int) (r : Nat) : D := if r = i then .nd (.row true 3 ()) (tabl (S.length + 1) (rowV I S skip i j v)) else tabF I S skip i (j + 1) r
def ptab3 (I S : List Int) (skip : Int) (i j : Nat) (v : Int) : D := .nd (.row true 44 ()) (tabl (I.length + 1) (tabV I S skip i j v))
section
variable {I S : List Int} {skip : Int} {i j c : Nat} {v : Int}
theorem rowV_j : rowV I S skip i j v j = i64 v := by unfold rowV; rw [if_pos rfl]
theorem tabV_i : tabV I S skip i j v i = .nd (.row true 3 ()) (tabl (S.length + 1) (rowV I S skip i j v)) := by unfold tabV; rw [if_pos rfl]
theorem ptab3_0 : ptab3 I S skip i j 0 = ptab2 I S skip i (j + 1) := by
  unfold ptab3 ptab2
  congr 1
  refine tabl_congr fun k hk => ?_
  unfold tabV
  split
  · rename_i e; subst e
    unfold tabF; rw [if_pos rfl]; unfold prow
    congr 1
    refine tabl_congr fun c hc => ?_
    unfold rowV
    split
    · rename_i e; subst e; exact row_z.symm
    · rfl
  · rfl
theorem ptab3_P : ptab3 I S skip i j (P I S skip i j) = ptab2 I S skip i j := by
  unfold ptab3 ptab2
  congr 1
  refine tabl_congr fun k hk => ?_
  unfold tabV tabF
  split
  · rename_i e; subst e
    unfold prow
    congr 1
    refine tabl_congr fun c hc => ?_
    unfold rowV
    split
    · rename_i e; subst e; exact row_s.symm
    · unfold rowF
      by_cases h : j + 1 ≤ c
      · rw [if_pos h, if_pos (by omega)]
      · rw [if_neg h, if_neg (by omega)]
  · rfl
theorem rowV_put (h : j < S.length + 1) {w : Int} {u : D → D} (hu : ∀ n, u (i64 n) = i64 w) : (tabl (S.length + 1) (rowV I S skip i j v)).modify j u = tabl (S.length + 1) (rowV I S skip i j w) := by
  refine tabl_modify h ?_ fun k hk hne => ?_
  · rw [rowV_j, hu, rowV_j]
  · unfold rowV; rw [if_neg hne, if_neg hne]
theorem tabV_put (h : i < I.length + 1) {w : Int} {u : D → D} (hu : u (.nd (.row true 3 ()) (tabl (S.length + 1) (rowV I S skip i j v))) = .nd (.row true 3 ()) (tabl (S.length + 1) (rowV I S skip i j w))) : (tabl (I.length + 1) (tabV I S skip i j v)).modify i u = tabl (I.length + 1) (tabV I S skip i j w) := by
  refine tabl_modify h ?_ fun k hk hne => ?_
  · rw [tabV_i, tabV_i]; exact hu
  · unfold tabV; rw [if_neg hne, if_neg hne]
end
theorem w53 : WalkOk [(25, sAbs)] sPrices_A (fun (a, b, skip) => asked a b skip = true) (fun (a, b, skip) rs fin => rs = [ptab a b skip 0] ∧ fin = []) d53 := by
  rintro ⟨a, b, skip⟩ hp hf
  replace hf : Tr.factsL [R 3 i64 a, R 3 i64 b, i64 skip] := hf
  replace hp : asked a b skip = true := hp
  simp at hf
  obtain ⟨hl1, hl2, hs1, hs2, ht1, ht2⟩ := asked_bounds hp
  have e1 := wrapS (n := a.length) (by omega)
  have e2 := wrapS (n := b.length) (by omega)
  simp [d53, m53, sPrices_A, boxIx, e1]
  refine ⟨by omega, ?_⟩
  refine forK (a.length + 1) (fun c => [(0, .own (R 3 i64 a)), (1, .own (R 3 i64 b)), (2, .own (i64 skip)), (7, .own (ptab a b skip (a.length + 1 - c))), (8, .own (i64 ((a.length : Int) - c)))]) (fun _ => True) trivial (sub_of ?_) ?_
  · simp [ptab_0]
  intro c hc _
  simp
  refine condK (fun h1 => ?_) (fun h1 => ?_)
  · have hca : c ≤ a.length := by simp at h1; omega
    obtain ⟨i, hi⟩ : ∃ i, i = a.length - c := ⟨_, rfl⟩
    have hia : i ≤ a.length := by omega
    have hz : (a.length : Int) - c = i := by omega
    have e3 := dn_skip (i := i) (by omega)
    have h4 : a.length + 1 - c = i + 1 := by omega
    have k0 : i < a.length + 1 := by omega
    simp [hz, h4, ptab, e2, k0, hia, tabG_no]
    refine ⟨⟨by omega, by omega⟩, by omega, ?_⟩
    refine forK (b.length + 1) (fun d => [(0, .own (R 3 i64 a)), (1, .own (R 3 i64 b)), (2, .own (i64 skip)), (7, .own (ptab2 a b skip i (b.length + 1 - d))), (8, .own (i64 i)), (9, .own (i64 ((b.length : Int) - d)))]) (fun _ => True) trivial (sub_of ?_) ?_
    · simp [ptab2]
      exact tab_new (by omega) prow_new
    intro d hd _
    simp
    refine condK (fun h2 => ?_) (fun h2 => ?_)
    · have hdb : d ≤ b.length := by simp at h2; omega
      obtain ⟨j, hj⟩ : ∃ j, j = b.length - d := ⟨_, rfl⟩
      have hjb : j ≤ b.length := by omega
      have hzj : (b.length : Int) - d = j := by omega
      have e4 := dn_skip (i := j) (by omega)
      have h5 : b.length + 1 - d = j + 1 := by omega
      have h5' : b.length + 1 - (d + 1) = j := by omega
      have hz' : (b.length : Int) - ((d : Int) + 1) = (j : Int) - 1 := by omega
      have hbd := P_ok hp hia hjb
      have k1 : (i : Int) < (a.length : Int) + 1 := by omega
      have k2 : (j : Int) < (b.length : Int) + 1 := by omega
      have k3 : j < b.length + 1 := by omega
      have k4 : i + 1 < a.length + 1 ↔ i < a.length := by omega
      have k8 : (0 : Int) ≤ (i : Int) + 1 := by omega
      have k9 : (0 : Int) ≤ (j : Int) + 1 := by omega
      by_cases hi1 : i < a.length
      · have k4 : i + 1 < a.length + 1 := by omega
        have k6 : (i : Int) + 1 < (a.length : Int) + 1 := by omega
        have w1 := wrapS (n := i) (by omega)
        have b1 := P_ok hp (show i + 1 ≤ a.length by omega) hjb
        have w3 : IntKind.i64.wrap (skip + P a b skip (i + 1) j) = skip + P a b skip (i + 1) j := wrap64 (by omega) (by omega)
        by_cases hj1 : j < b.length
        · have hv := P_in (skip := skip) hi1 hj1
          have b2 := P_ok hp hia (show j + 1 ≤ b.length by omega)
          have b3 := P_ok hp (show i + 1 ≤ a.length by omega) (show j + 1 ≤ b.length by omega)
          have hta := ht1 i hi1
          have htb := ht2 j hj1
          have ga : a.getD i 0 = a[i] := by rw [List.getD_eq_getElem?_getD, List.getElem?_eq_getElem hi1]; rfl
          have gb : b.getD j 0 = b[j] := by rw [List.getD_eq_getElem?_getD, List.getElem?_eq_getElem hj1]; rfl
          rw [ga, gb] at hv
          rw [ga] at hta
          rw [gb] at htb
          have f1 := far_nonneg a[i] b[j]
          have f2 := far_le hta.1 hta.2 htb.1 htb.2
          have w2 := wrapS (n := j) (by omega)
          have w4 : IntKind.i64.wrap (skip + P a b skip i (j + 1)) = skip + P a b skip i (j + 1) := wrap64 (by omega) (by omega)
          have w5 : IntKind.i64.wrap (far a[i] b[j] + P a b skip (i + 1) (j + 1)) = far a[i] b[j] + P a b skip (i + 1) (j + 1) := wrap64 (by omega) (by omega)
          have w6 : IntKind.i64.wrap (a[i] - b[j]) = a[i] - b[j] := wrap64 (by omega) (by omega)
          have w7 := far_abs a[i] b[j]
          have k5 : j + 1 < b.length + 1 := by omega
          have k7 : (j : Int) + 1 < (b.length : Int) + 1 := by omega
          have f3 : -9223372036854775807 ≤ a[i] - b[j] := by omega
          simp [hzj, h5, ptab2, tab_i, tab_i1, row_z, row_0, row_s, w1, w2, w3, w4, w5, w6, w7, k0, k1, k2, k3, k4, k5, k6, k7, k8, k9, conOf_cons, sAbs_pre, sAbs_post, f3, hi1, hj1]
          obtain ⟨o, ho⟩ : ∃ o : List Int, o = [skip + P a b skip (i + 1) j, skip + P a b skip i (j + 1), far a[i] b[j] + P a b skip (i + 1) (j + 1)] := ⟨_, rfl⟩
          have hol : o.length ≤ 3 := by rw [ho]; simp
          have hom : mins o o.length = P a b skip i j := by rw [ho]; simp [mins]; omega
          refine forK o.length (fun k => [(104, .ref 10 []), (10, .own (Wr 3 i64 o)), (0, .own (R 3 i64 a)), (1, .own (R 3 i64 b)), (2, .own (i64 skip)), (7, .own (ptab3 a b skip i j (mins o k))), (8, .own (i64 i)), (9, .own (i64 j)), (105, .own (i64 o.length)), (106, .own (i64 k))]) (fun _ => True) trivial (sub_of (by simp [ho, ptab3_0, ptab2, mins])) ?_
          intro k hk _
          simp
          refine condK (fun g1 => ?_) (fun g1 => ?_)
          · have hkt : k < o.length := by simpa using g1
            have ek := wrapS (n := k) (by omega)
            have hoD : o.getD k 0 = o[k] := by rw [List.getD_eq_getElem?_getD, List.getElem?_eq_getElem hkt]; rfl
            cases k with
            | zero =>
              have hm : mins o 1 = o[0] := hoD
              simp [hkt, ptab3, tabV_i, rowV_j, k0, k1, k2, k3]
              refine next hkt trivial (sub_of ?_)
              simp at ek
              simp [ek, hm, ptab3]
              exact tabV_put k0 (congrArg (Tr.nd (.row true 3 ())) (rowV_put k3 fun n => rfl))
            | succ k' =>
              have hm : mins o (k' + 2) = min (mins o (k' + 1)) o[k' + 1] := by rw [← hoD]; rfl
              have hk0 : ¬ ((k' : Int) + 1 = 0) := by omega
              push_cast at ek
              by_cases hlt : o[k' + 1] < mins o (k' + 1)
              · have hm' : mins o (k' + 2) = o[k' + 1] := by omega
                simp [hkt, ptab3, tabV_i, rowV_j, k0, k1, k2, k3, eq_false hk0, hlt]
                refine ⟨⟨by omega, by omega⟩, next hkt trivial (sub_of ?_)⟩
                simp [ek, hm', ptab3]
                exact tabV_put k0 (congrArg (Tr.nd (.row true 3 ())) (rowV_put k3 fun n => rfl))
              · have hm' : mins o (k' + 2) = mins o (k' + 1) := by omega
                simp [hkt, ptab3, tabV_i, rowV_j, k0, k1, k2, k3, eq_false hk0, hlt]
                refine ⟨⟨by omega, by omega⟩, next hkt trivial (sub_of ?_)⟩
                simp [ek, hm', ptab3]
          · have hge : k = o.length := by simp at g1; omega
            subst hge
            simp
            refine next (by omega) trivial (sub_of ?_)
            simp [e4, h5', hz', hom, ptab3_P]
            rfl
        · have hjm : j = b.length := by omega
          have hv : P a b skip i j = skip + P a b skip (i + 1) j := by rw [hjm]; exact P_im hi1
          simp [hzj, h5, ptab2, tab_i, tab_i1, row_z, row_0, row_s, w1, w3, k0, k1, k2, k3, k4, k6, k8, k9, conOf_cons, sAbs_pre, sAbs_post, hi1, hj1]
          obtain ⟨o, ho⟩ : ∃ o : List Int, o = [skip + P a b skip (i + 1) j] := ⟨_, rfl⟩
          have hol : o.length ≤ 3 := by rw [ho]; simp
          have hom : mins o o.length = P a b skip i j := by rw [ho]; simp [mins]; omega
          refine forK o.length (fun k => [(104, .ref 10 []), (10, .own (Wr 3 i64 o)), (0, .own (R 3 i64 a)), (1, .own (R 3 i64 b)), (2, .own (i64 skip)), (7, .own (ptab3 a b skip i j (mins o k))), (8, .own (i64 i)), (9, .own (i64 j)), (105, .own (i64 o.length)), (106, .own (i64 k))]) (fun _ => True) trivial (sub_of (by simp [ho, ptab3_0, ptab2, mins])) ?_
          intro k hk _
          simp
          refine condK (fun g1 => ?_) (fun g1 => ?_)
          · have hkt : k < o.length := by simpa using g1
            have ek := wrapS (n := k) (by omega)
            have hoD : o.getD k 0 = o[k] := by rw [List.getD_eq_getElem?_getD, List.getElem?_eq_getElem hkt]; rfl
            cases k with
            | zero =>
              have hm : mins o 1 = o[0] := hoD
              simp [hkt, ptab3, tabV_i, rowV_j, k0, k1, k2, k3]
              refine next hkt trivial (sub_of ?_)
              simp at ek
              simp [ek, hm, ptab3]
              exact tabV_put k0 (congrArg (Tr.nd (.row true 3 ())) (rowV_put k3 fun n => rfl))
            | succ k' =>
              have hm : mins o (k' + 2) = min (mins o (k' + 1)) o[k' + 1] := by rw [← hoD]; rfl
              have hk0 : ¬ ((k' : Int) + 1 = 0) := by omega
              push_cast at ek
              by_cases hlt : o[k' + 1] < mins o (k' + 1)
              · have hm' : mins o (k' + 2) = o[k' + 1] := by omega
                simp [hkt, ptab3, tabV_i, rowV_j, k0, k1, k2, k3, eq_false hk0, hlt]
                refine ⟨⟨by omega, by omega⟩, next hkt trivial (sub_of ?_)⟩
                simp [ek, hm', ptab3]
                exact tabV_put k0 (congrArg (Tr.nd (.row true 3 ())) (rowV_put k3 fun n => rfl))
              · have hm' : mins o (k' + 2) = mins o (k' + 1) := by omega
                simp [hkt, ptab3, tabV_i, rowV_j, k0, k1, k2, k3, eq_false hk0, hlt]
                refine ⟨⟨by omega, by omega⟩, next hkt trivial (sub_of ?_)⟩
                simp [ek, hm', ptab3]
          · have hge : k = o.length := by simp at g1; omega
            subst hge
            simp
            refine next (by omega) trivial (sub_of ?_)
            simp [e4, h5', hz', hom, ptab3_P]
            rfl
      · have hin : i = a.length := by omega
        by_cases hj1 : j < b.length
        · have hv : P a b skip i j = skip + P a b skip i (j + 1) := by rw [hin]; exact P_nj hj1
          have b2 := P_ok hp hia (show j + 1 ≤ b.length by omega)
          have w2 := wrapS (n := j) (by omega)
          have w4 : IntKind.i64.wrap (skip + P a b skip i (j + 1)) = skip + P a b skip i (j + 1) := wrap64 (by omega) (by omega)
          have k5 : j + 1 < b.length + 1 := by omega
          have k7 : (j : Int) + 1 < (b.length : Int) + 1 := by omega
          simp [hzj, h5, ptab2, tab_i, row_z, row_0, row_s, w2, w4, k0, k1, k2, k3, k5, k7, k8, k9, conOf_cons, sAbs_pre, sAbs_post, hi1, hj1]
          obtain ⟨o, ho⟩ : ∃ o : List Int, o = [skip + P a b skip i (j + 1)] := ⟨_, rfl⟩
          have hol : o.length ≤ 3 := by rw [ho]; simp
          have hom : mins o o.length = P a b skip i j := by rw [ho]; simp [mins]; omega
          refine forK o.length (fun k => [(104, .ref 10 []), (10, .own (Wr 3 i64 o)), (0, .own (R 3 i64 a)), (1, .own (R 3 i64 b)), (2, .own (i64 skip)), (7, .own (ptab3 a b skip i j (mins o k))), (8, .own (i64 i)), (9, .own (i64 j)), (105, .own (i64 o.length)), (106, .own (i64 k))]) (fun _ => True) trivial (sub_of (by simp [ho, ptab3_0, ptab2, mins])) ?_
          intro k hk _
          simp
          refine condK (fun g1 => ?_) (fun g1 => ?_)
          · have hkt : k < o.length := by simpa using g1
            have ek := wrapS (n := k) (by omega)
            have hoD : o.getD k 0 = o[k] := by rw [List.getD_eq_getElem?_getD, List.getElem?_eq_getElem hkt]; rfl
            cases k with
            | zero =>
              have hm : mins o 1 = o[0] := hoD
              simp [hkt, ptab3, tabV_i, rowV_j, k0, k1, k2, k3]
              refine next hkt trivial (sub_of ?_)
              simp at ek
              simp [ek, hm, ptab3]
              exact tabV_put k0 (congrArg (Tr.nd (.row true 3 ())) (rowV_put k3 fun n => rfl))
            | succ k' =>
              have hm : mins o (k' + 2) = min (mins o (k' + 1)) o[k' + 1] := by rw [← hoD]; rfl
              have hk0 : ¬ ((k' : Int) + 1 = 0) := by omega
              push_cast at ek
              by_cases hlt : o[k' + 1] < mins o (k' + 1)
              · have hm' : mins o (k' + 2) = o[k' + 1] := by omega
                simp [hkt, ptab3, tabV_i, rowV_j, k0, k1, k2, k3, eq_false hk0, hlt]
                refine ⟨⟨by omega, by omega⟩, next hkt trivial (sub_of ?_)⟩
                simp [ek, hm', ptab3]
                exact tabV_put k0 (congrArg (Tr.nd (.row true 3 ())) (rowV_put k3 fun n => rfl))
              · have hm' : mins o (k' + 2) = mins o (k' + 1) := by omega
                simp [hkt, ptab3, tabV_i, rowV_j, k0, k1, k2, k3, eq_false hk0, hlt]
                refine ⟨⟨by omega, by omega⟩, next hkt trivial (sub_of ?_)⟩
                simp [ek, hm', ptab3]
          · have hge : k = o.length := by simp at g1; omega
            subst hge
            simp
            refine next (by omega) trivial (sub_of ?_)
            simp [e4, h5', hz', hom, ptab3_P]
            rfl
        · have hjm : j = b.length := by omega
          have hv : P a b skip i j = 0 := by rw [hin, P_n (by omega), hjm]; simp
          simp [hzj, h5, ptab2, tab_i, row_z, row_0, row_s, k0, k1, k2, k3, k8, k9, conOf_cons, sAbs_pre, sAbs_post, hi1, hj1]
          obtain ⟨o, ho⟩ : ∃ o : List Int, o = [] := ⟨_, rfl⟩
          have hol : o.length ≤ 3 := by rw [ho]; simp
          have hom : mins o o.length = P a b skip i j := by rw [ho]; simp [mins]; omega
          refine forK o.length (fun k => [(104, .ref 10 []), (10, .own (Wr 3 i64 o)), (0, .own (R 3 i64 a)), (1, .own (R 3 i64 b)), (2, .own (i64 skip)), (7, .own (ptab3 a b skip i j (mins o k))), (8, .own (i64 i)), (9, .own (i64 j)), (105, .own (i64 o.length)), (106, .own (i64 k))]) (fun _ => True) trivial (sub_of (by simp [ho, ptab3_0, ptab2, mins])) ?_
          intro k hk _
          simp
          refine condK (fun g1 => ?_) (fun g1 => ?_)
          · have hkt : k < o.length := by simpa using g1
            have ek := wrapS (n := k) (by omega)
            have hoD : o.getD k 0 = o[k] := by rw [List.getD_eq_getElem?_getD, List.getElem?_eq_getElem hkt]; rfl
            cases k with
            | zero =>
              have hm : mins o 1 = o[0] := hoD
              simp [hkt, ptab3, tabV_i, rowV_j, k0, k1, k2, k3]
              refine next hkt trivial (sub_of ?_)
              simp at ek
              simp [ek, hm, ptab3]
              exact tabV_put k0 (congrArg (Tr.nd (.row true 3 ())) (rowV_put k3 fun n => rfl))
            | succ k' =>
              have hm : mins o (k' + 2) = min (mins o (k' + 1)) o[k' + 1] := by rw [← hoD]; rfl
              have hk0 : ¬ ((k' : Int) + 1 = 0) := by omega
              push_cast at ek
              by_cases hlt : o[k' + 1] < mins o (k' + 1)
              · have hm' : mins o (k' + 2) = o[k' + 1] := by omega
                simp [hkt, ptab3, tabV_i, rowV_j, k0, k1, k2, k3, eq_false hk0, hlt]
                refine ⟨⟨by omega, by omega⟩, next hkt trivial (sub_of ?_)⟩
                simp [ek, hm', ptab3]
                exact tabV_put k0 (congrArg (Tr.nd (.row true 3 ())) (rowV_put k3 fun n => rfl))
              · have hm' : mins o (k' + 2) = mins o (k' + 1) := by omega
                simp [hkt, ptab3, tabV_i, rowV_j, k0, k1, k2, k3, eq_false hk0, hlt]
                refine ⟨⟨by omega, by omega⟩, next hkt trivial (sub_of ?_)⟩
                simp [ek, hm', ptab3]
          · have hge : k = o.length := by simp at g1; omega
            subst hge
            simp
            refine next (by omega) trivial (sub_of ?_)
            simp [e4, h5', hz', hom, ptab3_P]
            rfl
    · have hdd : d = b.length + 1 := by simp at h2; omega
      subst hdd
      simp
      refine next (by omega) trivial (sub_of ?_)
      simp [e3, ptab_2]
      exact ⟨by rw [show a.length - c = i by omega]; rfl, by omega⟩
  · have hcc : c = a.length + 1 := by simp at h1; omega
    subst hcc
    simp [ptab, noRd_ptab]
end Go.Proofs.Ytbmkofeahjmkgac
end

section
set_option maxRecDepth 100000
set_option maxHeartbeats 2000000
set_option linter.unusedVariables false
set_option linter.unusedSimpArgs false
open Go Go.VC
namespace Go.Proofs.Ytbmkofeahjmkgac
/-! the best match -/
abbrev mt (x : List Int × Int) : D := .nd .agg [Wr 3 i64 x.1, i64 x.2]
theorem bm_succ_skip {I S : List Int} {skip : Int} {i : Nat} (h : skips I S skip i (bm I S skip i).1 = true) : bm I S skip (i + 1) = ((bm I S skip i).1, (bm I S skip i).2 ++ [-1]) := by simp [bm, h]
theorem bm_succ_fit {I S : List Int} {skip : Int} {i : Nat} (h : skips I S skip i (bm I S skip i).1 = false) : bm I S skip (i + 1) = (firstFit I S skip i (bm I S skip i).1 + 1, (bm I S skip i).2 ++ [(firstFit I S skip i (bm I S skip i).1 : Int)]) := by simp [bm, h]
abbrev sBestM_A : List Int × List Int × Int → List D := fun (a, b, skip) => [R 3 i64 a, R 3 i64 b, i64 skip]
theorem sBestM_inj : ∀ x y, sBestM_A x = sBestM_A y → x = y := by
  rintro ⟨a, b, skip⟩ ⟨a', b', skip'⟩ h; simpa [Prod.ext_iff, and_assoc] using h
def sBestM : List D → VC.Spec := mk sBestM_A (fun (a, b, skip) => asked a b skip = true) (fun (a, b, skip) rs fin => rs = [mt (best a b skip, P a b skip 0 0)] ∧ fin = [])
theorem sBestM_pre {a : List Int} {b : List Int} {skip : Int} : (sBestM [R 3 i64 a, R 3 i64 b, i64 skip]).pre = (asked a b skip = true) := mk_preI sBestM_inj (a, b, skip)
theorem sBestM_post {a : List Int} {b : List Int} {skip : Int} {rs fin : List D} (h : asked a b skip = true) : (sBestM [R 3 i64 a, R 3 i64 b, i64 skip]).post rs fin = (rs = [mt (best a b skip, P a b skip 0 0)] ∧ fin = []) := mk_postI sBestM_inj (a, b, skip) h
theorem w45 : WalkOk [(25, sAbs), (53, sPrices)] sBestM_A (fun (a, b, skip) => asked a b skip = true) (fun (a, b, skip) rs fin => rs = [mt (best a b skip, P a b skip 0 0)] ∧ fin = []) d45 := by
  rintro ⟨a, b, skip⟩ hp hf
  replace hf : Tr.factsL [R 3 i64 a, R 3 i64 b, i64 skip] := hf
  replace hp : asked a b skip = true := hp
  simp at hf
  obtain ⟨hl1, hl2, hs1, hs2, ht1, ht2⟩ := asked_bounds hp
  have z1 : (0 : Int) < (a.length : Int) + 1 := by omega
  have z2 : (0 : Int) < (b.length : Int) + 1 := by omega
  have z3 : 0 < a.length + 1 := by omega
  have z4 : 0 < b.length + 1 := by omega
  have zt : tabG a b skip 0 0 = .nd (.row true 3 ()) (tabl (b.length + 1) (rowF a b skip 0 0)) := tabG_at (Nat.le_refl _)
  simp [d45, m45, sBestM_A, boxIx, conOf_cons, sAbs_pre, sAbs_post, sPrices_pre, sPrices_post, hp, ptab]
  refine forK a.length (fun i => [(0, .own (R 3 i64 a)), (1, .own (R 3 i64 b)), (2, .own (i64 skip)), (6, .own (.nd (.box 46 ()) [A [N 3, i64 0]])), (7, .own (ptab a b skip 0)), (8, .own (Wr 3 i64 (bm a b skip i).2)), (9, .own (i64 (bm a b skip i).1)), (18, .own (i64 a.length)), (19, .own (i64 i))]) (fun _ => True) trivial (sub_of (by simp [bm, ptab])) ?_
  intro i hi _
  simp
  refine condK (fun h1 => ?_) (fun h1 => ?_)
  · skip
    have hlt : i < a.length := by simp at h1; omega
    have e := wrapS (n := i) (by omega)
    obtain ⟨j, hj⟩ : ∃ j, j = (bm a b skip i).1 := ⟨_, rfl⟩
    obtain ⟨of, hof⟩ : ∃ of, of = (bm a b skip i).2 := ⟨_, rfl⟩
    have hjb : j ≤ b.length := by rw [hj]; exact bm_le i hi
    have hofl : of.length = i := by rw [hof]; exact bm_len i
    have b0 := P_ok hp hi hjb
    have b1 := P_ok hp (show i + 1 ≤ a.length by omega) hjb
    have k1 : (i : Int) < (a.length : Int) + 1 := by omega
    have k2 : (j : Int) < (b.length : Int) + 1 := by omega
    have k3 : j < b.length + 1 := by omega
    have k0 : i < a.length + 1 := by omega
    have k4 : i + 1 < a.length + 1 := by omega
    have k6 : (i : Int) + 1 < (a.length : Int) + 1 := by omega
    have k8 : (0 : Int) ≤ (i : Int) + 1 := by omega
    have g1 : tabG a b skip 0 i = .nd (.row true 3 ()) (tabl (b.length + 1) (rowF a b skip i 0)) := tabG_at (Nat.zero_le _)
    have g2 : tabG a b skip 0 (i + 1) = .nd (.row true 3 ()) (tabl (b.length + 1) (rowF a b skip (i + 1) 0)) := tabG_at (Nat.zero_le _)
    have w3 : IntKind.i64.wrap (skip + P a b skip (i + 1) j) = skip + P a b skip (i + 1) j := wrap64 (by omega) (by omega)
    simp only [← hj, ← hof]
    cases hsk : skips a b skip i j with
    | true =>
      have hb := bm_succ_skip (i := i) (by rw [← hj]; exact hsk)
      simp only [skips, decide_eq_true_eq] at hsk
      simp [ptab, e, g1, g2, row_0, w3, k0, k1, k2, k3, k4, k6, k8, eq_true hsk.symm]
      refine ⟨by omega, next hlt trivial (sub_of ?_)⟩
      simp [e, hb, ← hj, ← hof, ptab]
    | false =>
      have hb := bm_succ_fit (i := i) (by rw [← hj]; exact hsk)
      obtain ⟨F, hF⟩ : ∃ F, F = firstFit a b skip i j := ⟨_, rfl⟩
      obtain ⟨c1, c2, c3, c4⟩ := firstFit_spec hlt hjb hsk
      rw [← hF] at c1 c2 c3 c4
      rw [← hj, ← hof, ← hF] at hb
      simp only [skips, decide_eq_false_iff_not] at hsk
      have hsk' : ¬ (skip + P a b skip (i + 1) j = P a b skip i j) := fun e => hsk e.symm
      simp [ptab, e, g1, g2, row_0, w3, k0, k1, k2, k3, k4, k6, k8, eq_false hsk']
      refine forK (F - j) (fun d => [(0, .own (R 3 i64 a)), (1, .own (R 3 i64 b)), (2, .own (i64 skip)), (6, .own (.nd (.box 46 ()) [A [N 3, i64 0]])), (7, .own (ptab a b skip 0)), (8, .own (Wr 3 i64 of)), (9, .own (i64 j)), (10, .own (i64 i)), (11, .own (i64 ((j + d : Nat) : Int))), (18, .own (i64 a.length)), (19, .own (i64 i))]) (fun _ => True) trivial (sub_of (by simp [ptab])) ?_
      intro d hd _
      obtain ⟨n, hn⟩ : ∃ n, n = j + d := ⟨_, rfl⟩
      simp only [← hn]
      have hnb : n < b.length := by omega
      have hta := ht1 i hlt
      have htb := ht2 n hnb
      have ga : a.getD i 0 = a[i] := by rw [List.getD_eq_getElem?_getD, List.getElem?_eq_getElem hlt]; rfl
      have gb : b.getD n 0 = b[n] := by rw [List.getD_eq_getElem?_getD, List.getElem?_eq_getElem hnb]; rfl
      have hfit : fits a b skip i j n = decide (P a b skip i j = skip * ((n : Int) - j) + far a[i] b[n] + P a b skip (i + 1) (n + 1)) := by unfold fits; rw [ga, gb]
      rw [ga] at hta
      rw [gb] at htb
      have f1 := far_nonneg a[i] b[n]
      have f2 := far_le hta.1 hta.2 htb.1 htb.2
      have b3 := P_ok hp (show i + 1 ≤ a.length by omega) (show n + 1 ≤ b.length by omega)
      have q1 : 0 ≤ skip * ((n : Int) - j) := Int.mul_nonneg hs1 (by omega)
      have q2 : skip * ((n : Int) - j) ≤ 10000 * 60 := Int.mul_le_mul hs2 (by omega) (by omega) (by omega)
      have v1 : IntKind.i64.wrap ((n : Int) - j) = (n : Int) - j := wrap64 (by omega) (by omega)
      have v2 : IntKind.i64.wrap (skip * ((n : Int) - j)) = skip * ((n : Int) - j) := wrap64 (by omega) (by omega)
      have v3 : IntKind.i64.wrap (a[i] - b[n]) = a[i] - b[n] := wrap64 (by omega) (by omega)
      have v4 := far_abs a[i] b[n]
      have v5 : IntKind.i64.wrap (skip * ((n : Int) - j) + far a[i] b[n]) = skip * ((n : Int) - j) + far a[i] b[n] := wrap64 (by omega) (by omega)
      have v6 : IntKind.i64.wrap (skip * ((n : Int) - j) + far a[i] b[n] + P a b skip (i + 1) (n + 1)) = skip * ((n : Int) - j) + far a[i] b[n] + P a b skip (i + 1) (n + 1) := wrap64 (by omega) (by omega)
      have v7 := wrapS (n := n) (by omega)
      have k5 : n + 1 < b.length + 1 := by omega
      have k7 : (n : Int) + 1 < (b.length : Int) + 1 := by omega
      have k9 : (0 : Int) ≤ (n : Int) + 1 := by omega
      have f3 : -9223372036854775807 ≤ a[i] - b[n] := by omega
      have f4 : far a[i] b[n] ≤ 9223372036854775807 := by omega
      by_cases hdF : d = F - j
      · have hnF : n = F := by omega
        rw [← hnF, hfit] at c3
        simp only [decide_eq_true_eq] at c3
        rw [← hnF] at hb
        simp [ptab, e, g1, g2, row_0, v1, v2, v3, v4, v5, v6, v7, k0, k1, k2, k3, k4, k5, k6, k7, k8, k9, conOf_cons, sAbs_pre, sAbs_post, sPrices_pre, sPrices_post, f3, hlt, hnb, eq_true c3.symm]
        refine ⟨by omega, next hlt trivial (sub_of ?_)⟩
        simp [e, v7, hb, ptab]
      · have c5 := c4 n (by omega) (by omega)
        rw [hfit] at c5
        simp only [decide_eq_false_iff_not] at c5
        have c5' : ¬ (skip * ((n : Int) - j) + far a[i] b[n] + P a b skip (i + 1) (n + 1) = P a b skip i j) := fun e => c5 e.symm
        simp [ptab, e, g1, g2, row_0, v1, v2, v3, v4, v5, v6, v7, k0, k1, k2, k3, k4, k5, k6, k7, k8, k9, conOf_cons, sAbs_pre, sAbs_post, sPrices_pre, sPrices_post, f3, hlt, hnb, eq_false c5']
        refine next (by omega) trivial (sub_of ?_)
        simp [ptab, v7]
        omega
  · have hge : i = a.length := by simp at h1; omega
    subst hge
    simp [ptab, zt, z1, z2, z3, z4, row_0, best]
theorem w40 : WalkOk [(49, sPrices), (50, sFar)] sBestM_A (fun (a, b, skip) => asked a b skip = true) (fun (a, b, skip) rs fin => rs = [mt (best a b skip, P a b skip 0 0)] ∧ fin = []) d40 := by
  rintro ⟨a, b, skip⟩ hp hf
  replace hf : Tr.factsL [R 3 i64 a, R 3 i64 b, i64 skip] := hf
  replace hp : asked a b skip = true := hp
  simp at hf
  obtain ⟨hl1, hl2, hs1, hs2, ht1, ht2⟩ := asked_bounds hp
  have z1 : (0 : Int) < (a.length : Int) + 1 := by omega
  have z2 : (0 : Int) < (b.length : Int) + 1 := by omega
  have z3 : 0 < a.length + 1 := by omega
  have z4 : 0 < b.length + 1 := by omega
  have zt : tabG a b skip 0 0 = .nd (.row true 3 ()) (tabl (b.length + 1) (rowF a b skip 0 0)) := tabG_at (Nat.le_refl _)
  simp [d40, m40, sBestM_A, boxIx, conOf_cons, sPrices_pre, sPrices_post, sFar_pre, sFar_post, hp, ptab, zt, z1, z2, z3, z4, row_0]
  refine forK a.length (fun i => [(0, .own (R 3 i64 a)), (1, .own (R 3 i64 b)), (2, .own (i64 skip)), (6, .own (.nd (.box 46 ()) [A [N 3, i64 0]])), (7, .own (ptab a b skip 0)), (8, .own (.nd (.box 46 ()) [mt ((bm a b skip i).2, P a b skip 0 0)])), (9, .own (i64 (bm a b skip i).1)), (23, .own (i64 a.length)), (24, .own (i64 i))]) (fun _ => True) trivial (sub_of (by simp [bm, ptab])) ?_
  intro i hi _
  simp
  refine condK (fun h1 => ?_) (fun h1 => ?_)
  · skip
    have hlt : i < a.length := by simp at h1; omega
    have e := wrapS (n := i) (by omega)
    obtain ⟨j, hj⟩ : ∃ j, j = (bm a b skip i).1 := ⟨_, rfl⟩
    obtain ⟨of, hof⟩ : ∃ of, of = (bm a b skip i).2 := ⟨_, rfl⟩
    have hjb : j ≤ b.length := by rw [hj]; exact bm_le i hi
    have hofl : of.length = i := by rw [hof]; exact bm_len i
    have b0 := P_ok hp hi hjb
    have b1 := P_ok hp (show i + 1 ≤ a.length by omega) hjb
    have k1 : (i : Int) < (a.length : Int) + 1 := by omega
    have k2 : (j : Int) < (b.length : Int) + 1 := by omega
    have k3 : j < b.length + 1 := by omega
    have k0 : i < a.length + 1 := by omega
    have k4 : i + 1 < a.length + 1 := by omega
    have k6 : (i : Int) + 1 < (a.length : Int) + 1 := by omega
    have k8 : (0 : Int) ≤ (i : Int) + 1 := by omega
    have g1 : tabG a b skip 0 i = .nd (.row true 3 ()) (tabl (b.length + 1) (rowF a b skip i 0)) := tabG_at (Nat.zero_le _)
    have g2 : tabG a b skip 0 (i + 1) = .nd (.row true 3 ()) (tabl (b.length + 1) (rowF a b skip (i + 1) 0)) := tabG_at (Nat.zero_le _)
    have w3 : IntKind.i64.wrap (skip + P a b skip (i + 1) j) = skip + P a b skip (i + 1) j := wrap64 (by omega) (by omega)
    simp only [← hj, ← hof]
    cases hsk : skips a b skip i j with
    | true =>
      have hb := bm_succ_skip (i := i) (by rw [← hj]; exact hsk)
      simp only [skips, decide_eq_true_eq] at hsk
      simp [ptab, e, g1, g2, row_0, w3, k0, k1, k2, k3, k4, k6, k8, eq_true hsk]
      refine ⟨by omega, next hlt trivial (sub_of ?_)⟩
      simp [e, hb, ← hj, ← hof, ptab]
    | false =>
      have hb := bm_succ_fit (i := i) (by rw [← hj]; exact hsk)
      obtain ⟨F, hF⟩ : ∃ F, F = firstFit a b skip i j := ⟨_, rfl⟩
      obtain ⟨c1, c2, c3, c4⟩ := firstFit_spec hlt hjb hsk
      rw [← hF] at c1 c2 c3 c4
      rw [← hj, ← hof, ← hF] at hb
      simp only [skips, decide_eq_false_iff_not] at hsk
      simp [ptab, e, g1, g2, row_0, w3, k0, k1, k2, k3, k4, k6, k8, eq_false hsk]
      refine forK (F - j) (fun d => [(0, .own (R 3 i64 a)), (1, .own (R 3 i64 b)), (2, .own (i64 skip)), (6, .own (.nd (.box 46 ()) [A [N 3, i64 0]])), (7, .own (ptab a b skip 0)), (8, .own (.nd (.box 46 ()) [mt (of, P a b skip 0 0)])), (9, .own (i64 j)), (10, .own (i64 i)), (11, .own (i64 ((j + d : Nat) : Int))), (23, .own (i64 a.length)), (24, .own (i64 i))]) (fun _ => True) trivial (sub_of (by simp [ptab])) ?_
      intro d hd _
      obtain ⟨n, hn⟩ : ∃ n, n = j + d := ⟨_, rfl⟩
      simp only [← hn]
      have hnb : n < b.length := by omega
      have hta := ht1 i hlt
      have htb := ht2 n hnb
      have ga : a.getD i 0 = a[i] := by rw [List.getD_eq_getElem?_getD, List.getElem?_eq_getElem hlt]; rfl
      have gb : b.getD n 0 = b[n] := by rw [List.getD_eq_getElem?_getD, List.getElem?_eq_getElem hnb]; rfl
      have hfit : fits a b skip i j n = decide (P a b skip i j = skip * ((n : Int) - j) + far a[i] b[n] + P a b skip (i + 1) (n + 1)) := by unfold fits; rw [ga, gb]
      rw [ga] at hta
      rw [gb] at htb
      have f1 := far_nonneg a[i] b[n]
      have f2 := far_le hta.1 hta.2 htb.1 htb.2
      have b3 := P_ok hp (show i + 1 ≤ a.length by omega) (show n + 1 ≤ b.length by omega)
      have q1 : 0 ≤ skip * ((n : Int) - j) := Int.mul_nonneg hs1 (by omega)
      have q2 : skip * ((n : Int) - j) ≤ 10000 * 60 := Int.mul_le_mul hs2 (by omega) (by omega) (by omega)
      have v1 : IntKind.i64.wrap ((n : Int) - j) = (n : Int) - j := wrap64 (by omega) (by omega)
      have v2 : IntKind.i64.wrap (skip * ((n : Int) - j)) = skip * ((n : Int) - j) := wrap64 (by omega) (by omega)
      have v3 : IntKind.i64.wrap (a[i] - b[n]) = a[i] - b[n] := wrap64 (by omega) (by omega)
      have v4 := far_abs a[i] b[n]
      have v5 : IntKind.i64.wrap (skip * ((n : Int) - j) + far a[i] b[n]) = skip * ((n : Int) - j) + far a[i] b[n] := wrap64 (by omega) (by omega)
      have v6 : IntKind.i64.wrap (skip * ((n : Int) - j) + far a[i] b[n] + P a b skip (i + 1) (n + 1)) = skip * ((n : Int) - j) + far a[i] b[n] + P a b skip (i + 1) (n + 1) := wrap64 (by omega) (by omega)
      have v7 := wrapS (n := n) (by omega)
      have k5 : n + 1 < b.length + 1 := by omega
      have k7 : (n : Int) + 1 < (b.length : Int) + 1 := by omega
      have k9 : (0 : Int) ≤ (n : Int) + 1 := by omega
      have f3 : -9223372036854775807 ≤ a[i] - b[n] := by omega
      have f4 : far a[i] b[n] ≤ 9223372036854775807 := by omega
      by_cases hdF : d = F - j
      · have hnF : n = F := by omega
        rw [← hnF, hfit] at c3
        simp only [decide_eq_true_eq] at c3
        rw [← hnF] at hb
        simp [ptab, e, g1, g2, row_0, v1, v2, v3, v4, v5, v6, v7, k0, k1, k2, k3, k4, k5, k6, k7, k8, k9, conOf_cons, sPrices_pre, sPrices_post, sFar_pre, sFar_post, f3, f4, hlt, hnb, eq_true c3]
        refine ⟨by omega, next hlt trivial (sub_of ?_)⟩
        simp [e, v7, hb, ptab]
      · have c5 := c4 n (by omega) (by omega)
        rw [hfit] at c5
        simp only [decide_eq_false_iff_not] at c5
        simp [ptab, e, g1, g2, row_0, v1, v2, v3, v4, v5, v6, v7, k0, k1, k2, k3, k4, k5, k6, k7, k8, k9, conOf_cons, sPrices_pre, sPrices_post, sFar_pre, sFar_post, f3, f4, hlt, hnb, eq_false c5]
        refine next (by omega) trivial (sub_of ?_)
        simp [ptab, v7]
        omega
  · have hge : i = a.length := by simp at h1; omega
    subst hge
    simp [best]
end Go.Proofs.Ytbmkofeahjmkgac
end

section
set_option maxRecDepth 100000
set_option maxHeartbeats 2000000
set_option linter.unusedVariables false
set_option linter.unusedSimpArgs false
open Go Go.VC
namespace Go.Proofs.Ytbmkofeahjmkgac
/-! matches of bells; the judgement -/
def bestR (a b : List Int) (skip : Int) : List Int × Int := bif asked a b skip then (best a b skip, P a b skip 0 0) else ([], 0)
abbrev sBest_A : List Int × List Int × Int → List D := fun (a, b, skip) => [R 3 i64 a, R 3 i64 b, i64 skip]
theorem sBest_inj : ∀ x y, sBest_A x = sBest_A y → x = y := by
  rintro ⟨a, b, skip⟩ ⟨a', b', skip'⟩ h; simpa [Prod.ext_iff, and_assoc] using h
def sBest : List D → VC.Spec := mk sBest_A (fun _ : List Int × List Int × Int => True) (fun (a, b, skip) rs fin => rs = [mt (bestR a b skip), dBool (asked a b skip)] ∧ fin = [])
theorem sBest_pre {a : List Int} {b : List Int} {skip : Int} : (sBest [R 3 i64 a, R 3 i64 b, i64 skip]).pre = (True) := mk_preI sBest_inj (a, b, skip)
theorem sBest_post {a : List Int} {b : List Int} {skip : Int} {rs fin : List D} : (sBest [R 3 i64 a, R 3 i64 b, i64 skip]).post rs fin = (rs = [mt (bestR a b skip), dBool (asked a b skip)] ∧ fin = []) := mk_postI sBest_inj (a, b, skip) trivial
theorem w37 : WalkOk [(44, sAsked), (45, sBestM)] sBest_A (fun _ : List Int × List Int × Int => True) (fun (a, b, skip) rs fin => rs = [mt (bestR a b skip), dBool (asked a b skip)] ∧ fin = []) d37 := by
  rintro ⟨a, b, skip⟩ hp hf
  replace hf : Tr.factsL [R 3 i64 a, R 3 i64 b, i64 skip] := hf
  cases h : asked a b skip with
  | false => simp [d37, m37, sBest_A, boxIx, conOf_cons, sAsked_pre, sAsked_post, sBestM_pre, sBestM_post, h, bestR]
  | true => simp [d37, m37, sBest_A, boxIx, conOf_cons, sAsked_pre, sAsked_post, sBestM_pre, sBestM_post, h, bestR]
theorem w30 : WalkOk [(39, sAsked), (40, sBestM)] sBest_A (fun _ : List Int × List Int × Int => True) (fun (a, b, skip) rs fin => rs = [mt (bestR a b skip), dBool (asked a b skip)] ∧ fin = []) d30 := by
  rintro ⟨a, b, skip⟩ hp hf
  replace hf : Tr.factsL [R 3 i64 a, R 3 i64 b, i64 skip] := hf
  cases h : asked a b skip with
  | false => simp [d30, m30, sBest_A, boxIx, conOf_cons, sAsked_pre, sAsked_post, sBestM_pre, sBestM_post, h, bestR]
  | true => simp [d30, m30, sBest_A, boxIx, conOf_cons, sAsked_pre, sAsked_post, sBestM_pre, sBestM_post, h, bestR]
theorem goodStrikes_len {l : List Strike} (h : goodStrikes l = true) : l.length ≤ 2000 := by
  simp only [goodStrikes, Bool.and_eq_true, decide_eq_true_eq] at h; exact h.2
def mbPre (b : Beat) (rows : List ByteArray) (l : List Strike) (bell : Int) : Bool := idealOk b rows && goodStrikes l && decide (0 < rows.length) && within bell 1 (sz0 rows)
def bellI (b : Beat) (rows : List ByteArray) (bell : Int) : List Int := ofBell (ideal b rows) bell
def mbOk (b : Beat) (rows : List ByteArray) (l : List Strike) (bell skip : Int) : Bool := mbPre b rows l bell && asked (bellI b rows bell) (ofBell l bell) skip
def mbR (b : Beat) (rows : List ByteArray) (l : List Strike) (bell skip : Int) : List Int × Int := bif mbPre b rows l bell then bestR (bellI b rows bell) (ofBell l bell) skip else ([], 0)
abbrev sMatchB_A : Int × Int × Int × List ByteArray × List Strike × Int × Int → List D := fun (s, g, a, rows, l, bell, skip) => [.nd .agg [i64 s, i64 g, i64 a], R 9 dStr rows, R 53 sk l, i64 bell, i64 skip]
theorem sMatchB_inj : ∀ x y, sMatchB_A x = sMatchB_A y → x = y := by
  rintro ⟨s, g, a, rows, l, bell, skip⟩ ⟨s', g', a', rows', l', bell', skip'⟩ h; simpa [Prod.ext_iff, and_assoc] using h
def sMatchB : List D → VC.Spec := mk sMatchB_A (fun _ : Int × Int × Int × List ByteArray × List Strike × Int × Int => True) (fun (s, g, a, rows, l, bell, skip) rs fin => rs = [mt (mbR (s, g, a) rows l bell skip), dBool (mbOk (s, g, a) rows l bell skip)] ∧ fin = [])
theorem sMatchB_pre {s : Int} {g : Int} {a : Int} {rows : List ByteArray} {l : List Strike} {bell : Int} {skip : Int} : (sMatchB [.nd .agg [i64 s, i64 g, i64 a], R 9 dStr rows, R 53 sk l, i64 bell, i64 skip]).pre = (True) := mk_preI sMatchB_inj (s, g, a, rows, l, bell, skip)
theorem sMatchB_post {s : Int} {g : Int} {a : Int} {rows : List ByteArray} {l : List Strike} {bell : Int} {skip : Int} {rs fin : List D} : (sMatchB [.nd .agg [i64 s, i64 g, i64 a], R 9 dStr rows, R 53 sk l, i64 bell, i64 skip]).post rs fin = (rs = [mt (mbR (s, g, a) rows l bell skip), dBool (mbOk (s, g, a) rows l bell skip)] ∧ fin = []) := mk_postI sMatchB_inj (s, g, a, rows, l, bell, skip) trivial
theorem w23 : WalkOk [(22, sIdeal), (24, sOf), (35, sStrikes), (36, sBell), (37, sBest)] sMatchB_A (fun _ : Int × Int × Int × List ByteArray × List Strike × Int × Int => True) (fun (s, g, a, rows, l, bell, skip) rs fin => rs = [mt (mbR (s, g, a) rows l bell skip), dBool (mbOk (s, g, a) rows l bell skip)] ∧ fin = []) d23 := by
  rintro ⟨s, g, a, rows, l, bell, skip⟩ hp hf
  replace hf : Tr.factsL [.nd .agg [i64 s, i64 g, i64 a], R 9 dStr rows, R 53 sk l, i64 bell, i64 skip] := hf
  simp at hf
  cases h1 : idealOk (s, g, a) rows with
  | false => simp [d23, m23, sMatchB_A, boxIx, conOf_cons, sIdeal_pre, sIdeal_post, sOf_pre, sOf_post, sStrikes_pre, sStrikes_post, sBell_pre, sBell_post, sBest_pre, sBest_post, h1, mbR, mbOk, mbPre]
  | true =>
  cases h2 : goodStrikes l with
  | false => simp [d23, m23, sMatchB_A, boxIx, conOf_cons, sIdeal_pre, sIdeal_post, sOf_pre, sOf_post, sStrikes_pre, sStrikes_post, sBell_pre, sBell_post, sBest_pre, sBest_post, h1, h2, mbR, mbOk, mbPre]
  | true =>
  by_cases h3 : 0 < rows.length
  · have h3' : ¬ rows.length = 0 := by omega
    have h3i : ¬ ((rows.length : Int) = 0) := by omega
    have hs := sz0_get h3
    have hne : rows ≠ [] := by intro e; subst e; simp at h3
    cases h4 : within bell 1 (sz0 rows) with
    | false =>
      have hmp : mbPre (s, g, a) rows l bell = false := by simp only [mbPre, h4, Bool.and_false]
      rw [hs] at h4
      simp [d23, m23, sMatchB_A, boxIx, conOf_cons, sIdeal_pre, sIdeal_post, sOf_pre, sOf_post, sStrikes_pre, sStrikes_post, sBell_pre, sBell_post, sBest_pre, sBest_post, h1, h2, h3, h3', h3i, hne, h4, mbR, mbOk, hmp]
    | true =>
      have hmp : mbPre (s, g, a) rows l bell = true := by simp only [mbPre, h1, h2, h4, decide_eq_true h3]; rfl
      rw [hs] at h4
      have hl2 := goodStrikes_len h2
      have hid : goodStrikes (ideal (s, g, a) rows) = true := by simp only [idealOk, Bool.and_eq_true] at h1; exact h1.2
      have hl1 := goodStrikes_len hid
      have hr : idealR (s, g, a) rows = ideal (s, g, a) rows := by simp only [idealR, h1, cond_true]
      have p1 : ((ideal (s, g, a) rows).length : Int) * 8 ≤ 140737488355328 := by omega
      have p2 : (l.length : Int) * 8 ≤ 140737488355328 := by omega
      simp [d23, m23, sMatchB_A, boxIx, conOf_cons, sIdeal_pre, sIdeal_post, sOf_pre, sOf_post, sStrikes_pre, sStrikes_post, sBell_pre, sBell_post, sBest_pre, sBest_post, h1, h2, h3, h3', h3i, hne, h4, hr, p1, p2, mbR, mbOk, hmp, bellI]
  · have h3' : rows.length = 0 := by omega
    have h3i : (rows.length : Int) = 0 := by omega
    have hne : rows = [] := List.length_eq_zero_iff.1 h3'
    have hmp : mbPre (s, g, a) rows l bell = false := by simp only [mbPre, decide_eq_false h3, Bool.and_false, Bool.false_and]
    simp [d23, m23, sMatchB_A, boxIx, conOf_cons, sIdeal_pre, sIdeal_post, sOf_pre, sOf_post, sStrikes_pre, sStrikes_post, sBell_pre, sBell_post, sBest_pre, sBest_post, h1, h2, eq_true h3i, eq_true hne, mbR, mbOk, hmp]
theorem w17 : WalkOk [(16, sStrikes), (19, sOf), (27, sIn), (29, sIdeal), (30, sBest)] sMatchB_A (fun _ : Int × Int × Int × List ByteArray × List Strike × Int × Int => True) (fun (s, g, a, rows, l, bell, skip) rs fin => rs = [mt (mbR (s, g, a) rows l bell skip), dBool (mbOk (s, g, a) rows l bell skip)] ∧ fin = []) d17 := by
  rintro ⟨s, g, a, rows, l, bell, skip⟩ hp hf
  replace hf : Tr.factsL [.nd .agg [i64 s, i64 g, i64 a], R 9 dStr rows, R 53 sk l, i64 bell, i64 skip] := hf
  simp at hf
  cases h1 : idealOk (s, g, a) rows with
  | false => simp [d17, m17, sMatchB_A, boxIx, conOf_cons, sStrikes_pre, sStrikes_post, sOf_pre, sOf_post, sIn_pre, sIn_post, sIdeal_pre, sIdeal_post, sBest_pre, sBest_post, h1, mbR, mbOk, mbPre]
  | true =>
  cases h2 : goodStrikes l with
  | false => simp [d17, m17, sMatchB_A, boxIx, conOf_cons, sStrikes_pre, sStrikes_post, sOf_pre, sOf_post, sIn_pre, sIn_post, sIdeal_pre, sIdeal_post, sBest_pre, sBest_post, h1, h2, mbR, mbOk, mbPre]
  | true =>
  by_cases h3 : 0 < rows.length
  · have h3' : ¬ rows.length = 0 := by omega
    have h3i : ¬ ((rows.length : Int) = 0) := by omega
    have hs := sz0_get h3
    have hne : rows ≠ [] := by intro e; subst e; simp at h3
    cases h4 : within bell 1 (sz0 rows) with
    | false =>
      have hmp : mbPre (s, g, a) rows l bell = false := by simp only [mbPre, h4, Bool.and_false]
      rw [hs] at h4
      simp [d17, m17, sMatchB_A, boxIx, conOf_cons, sStrikes_pre, sStrikes_post, sOf_pre, sOf_post, sIn_pre, sIn_post, sIdeal_pre, sIdeal_post, sBest_pre, sBest_post, h1, h2, h3, h3', h3i, hne, h4, mbR, mbOk, hmp]
    | true =>
      have hmp : mbPre (s, g, a) rows l bell = true := by simp only [mbPre, h1, h2, h4, decide_eq_true h3]; rfl
      rw [hs] at h4
      have hl2 := goodStrikes_len h2
      have hid : goodStrikes (ideal (s, g, a) rows) = true := by simp only [idealOk, Bool.and_eq_true] at h1; exact h1.2
      have hl1 := goodStrikes_len hid
      have hr : idealR (s, g, a) rows = ideal (s, g, a) rows := by simp only [idealR, h1, cond_true]
      have p1 : ((ideal (s, g, a) rows).length : Int) * 8 ≤ 140737488355328 := by omega
      have p2 : (l.length : Int) * 8 ≤ 140737488355328 := by omega
      simp [d17, m17, sMatchB_A, boxIx, conOf_cons, sStrikes_pre, sStrikes_post, sOf_pre, sOf_post, sIn_pre, sIn_post, sIdeal_pre, sIdeal_post, sBest_pre, sBest_post, h1, h2, h3, h3', h3i, hne, h4, hr, p1, p2, mbR, mbOk, hmp, bellI]
  · have h3' : rows.length = 0 := by omega
    have h3i : (rows.length : Int) = 0 := by omega
    have hne : rows = [] := List.length_eq_zero_iff.1 h3'
    have hmp : mbPre (s, g, a) rows l bell = false := by simp only [mbPre, decide_eq_false h3, Bool.and_false, Bool.false_and]
    simp [d17, m17, sMatchB_A, boxIx, conOf_cons, sStrikes_pre, sStrikes_post, sOf_pre, sOf_post, sIn_pre, sIn_post, sIdeal_pre, sIdeal_post, sBest_pre, sBest_post, h1, h2, eq_true h3i, eq_true hne, mbR, mbOk, hmp]
section
variable (I S : List Int) (skip : Int)
def missN (i : Nat) : Nat := (missedIn (best I S skip) i).length
def farN : Nat → Int
  | 0 => 0
  | i + 1 => farN i + bif skips I S skip i (bm I S skip i).1 then 0 else far (I.getD i 0) (S.getD (firstFit I S skip i (bm I S skip i).1) 0)
variable {I S skip}
theorem best_len : (best I S skip).length = I.length := bm_len _
theorem best_at {i : Nat} (h : i < I.length) (h' : i < (best I S skip).length) : (best I S skip)[i]'h' = bif skips I S skip i (bm I S skip i).1 then -1 else (firstFit I S skip i (bm I S skip i).1 : Int) := by
  have := bm_get (I := I) (S := S) (skip := skip) I.length i h
  rw [show (bm I S skip I.length).2 = best I S skip from rfl, List.getElem?_eq_getElem h'] at this
  exact Option.some.inj this
theorem missN_succ {i : Nat} (h : i < I.length) : missN I S skip (i + 1) = missN I S skip i + bif skips I S skip i (bm I S skip i).1 then 1 else 0 := by
  unfold missN
  rw [missedIn_succ (by rw [best_len]; exact h), best_at h (by rw [best_len]; exact h)]
  cases skips I S skip i (bm I S skip i).1 with
  | true => simp
  | false =>
    simp only [cond_false]
    rw [if_neg (by omega)]; simp
theorem missN_le (i : Nat) : missN I S skip i ≤ i := missedIn_le _ _
theorem cost_at : ∀ i, i ≤ I.length → P I S skip 0 0 = farN I S skip i + skip * ((missN I S skip i : Int) + ((bm I S skip i).1 - (i - missN I S skip i))) + P I S skip i (bm I S skip i).1
  | 0, _ => by simp [farN, missN, missedIn, bm]
  | i + 1, hi => by
    have h := cost_at i (by omega)
    obtain ⟨X, hX⟩ : ∃ X : Int, X = (missN I S skip i : Int) + ((bm I S skip i).1 - (i - missN I S skip i)) := ⟨_, rfl⟩
    rw [← hX] at h
    have hle := bm_le (S := S) (skip := skip) i (show i ≤ I.length by omega)
    rw [missN_succ (by omega)]
    cases hs : skips I S skip i (bm I S skip i).1 with
    | true =>
      rw [bm_succ_skip hs]
      simp only [skips, decide_eq_true_eq] at hs
      simp only [farN, hs, skips, decide_true, cond_true, Int.add_zero]
      rw [h, hs]
      have e : ((missN I S skip i + 1 : Nat) : Int) + (((bm I S skip i).1 : Int) - (((i + 1 : Nat) : Int) - ((missN I S skip i + 1 : Nat) : Int))) = 1 + X := by rw [hX]; push_cast; omega
      have e2 : skip * (1 + X) = skip + skip * X := by rw [Int.mul_add, Int.mul_one]
      rw [e, e2]; omega
    | false =>
      obtain ⟨c1, c2, c3, _⟩ := firstFit_spec (by omega) hle hs
      simp only [fits, decide_eq_true_eq] at c3
      rw [bm_succ_fit hs]
      simp only [farN, hs, cond_false, Nat.add_zero]
      rw [h, c3]
      have e : (missN I S skip i : Int) + (((firstFit I S skip i (bm I S skip i).1 + 1 : Nat) : Int) - (((i + 1 : Nat) : Int) - (missN I S skip i : Int))) = ((firstFit I S skip i (bm I S skip i).1 : Int) - (bm I S skip i).1) + X := by rw [hX]; push_cast; omega
      rw [e, Int.mul_add]; omega
/-- what a best match costs: how far the blows lie off, and the skips -/
theorem cost_all : P I S skip 0 0 = farN I S skip I.length + skip * ((missN I S skip I.length : Int) + (S.length - (I.length - missN I S skip I.length))) := by
  have h := cost_at (S := S) (skip := skip) I.length (Nat.le_refl _)
  rw [P_n (bm_le _ (Nat.le_refl _))] at h
  rw [h, Int.add_assoc, ← Int.mul_add]
  congr 2; omega
end
end Go.Proofs.Ytbmkofeahjmkgac
end

section
set_option maxRecDepth 100000
set_option maxHeartbeats 2000000
set_option linter.unusedVariables false
set_option linter.unusedSimpArgs false
open Go Go.VC
namespace Go.Proofs.Ytbmkofeahjmkgac
/-! the judgement of a record -/
def jI (b : Beat) (rows : List ByteArray) (k : Nat) : List Int := bellI b rows ((k : Int) + 1)
def jS (l : List Strike) (k : Nat) : List Int := ofBell l ((k : Int) + 1)
section
variable (b : Beat) (rows : List ByteArray) (l : List Strike) (skip : Int)
def jOk (k : Nat) : Bool := mbOk b rows l ((k : Int) + 1) skip
def jM (k : Nat) : Int := missN (jI b rows k) (jS l k) skip (jI b rows k).length
def jE (k : Nat) : Int := ((jS l k).length : Int) - ((jI b rows k).length - missN (jI b rows k) (jS l k) skip (jI b rows k).length)
def jF (k : Nat) : Int := farN (jI b rows k) (jS l k) skip (jI b rows k).length
def jC (k : Nat) : Int := P (jI b rows k) (jS l k) skip 0 0
/-- after k bells: the judgement, and the worst cost -/
def jst : Nat → Jd × Int
  | 0 => ((0, 0, 0, 0), -1)
  | k + 1 => (((jst k).1.1 + jM b rows l skip k, (jst k).1.2.1 + jE b rows l skip k, (jst k).1.2.2.1 + jF b rows l skip k, if (jst k).2 < jC b rows l skip k then (k : Int) + 1 else (jst k).1.2.2.2),
      if (jst k).2 < jC b rows l skip k then jC b rows l skip k else (jst k).2)
def jN (rows : List ByteArray) : Nat := (sz0 rows).toNat
def judgeOk : Bool := goodRows rows && decide (0 < rows.length) && (List.range (jN rows)).all (jOk b rows l skip)
def judgeR : Jd := bif judgeOk b rows l skip then (jst b rows l skip (jN rows)).1 else (0, 0, 0, 0)
variable {b rows l skip}
theorem jOk_parts {k : Nat} (h : jOk b rows l skip k = true) : idealOk b rows = true ∧ goodStrikes l = true ∧ asked (jI b rows k) (jS l k) skip = true ∧ mbPre b rows l ((k : Int) + 1) = true := by
  simp only [jOk, mbOk, Bool.and_eq_true] at h
  have h1 := h.1
  simp only [mbPre, Bool.and_eq_true] at h1
  exact ⟨h1.1.1.1, h1.1.1.2, h.2, h.1⟩
theorem farN_bound {I S : List Int} {skip : Int} (h : asked I S skip = true) : ∀ i, i ≤ I.length → 0 ≤ farN I S skip i ∧ farN I S skip i ≤ 1000000 * i
  | 0, _ => by simp [farN]
  | i + 1, hi => by
    obtain ⟨h1, h2, h3, h4, h5, h6⟩ := asked_bounds h
    have ih := farN_bound h i (by omega)
    have hle := bm_le (S := S) (skip := skip) i (show i ≤ I.length by omega)
    simp only [farN]
    cases hs : skips I S skip i (bm I S skip i).1 with
    | true => simp only [cond_true]; push_cast; omega
    | false =>
      obtain ⟨c1, c2, _, _⟩ := firstFit_spec (by omega) hle hs
      have ha := h5 i (by omega)
      have hb := h6 _ c2
      have f1 := far_nonneg (I.getD i 0) (S.getD (firstFit I S skip i (bm I S skip i).1) 0)
      have f2 := far_le ha.1 ha.2 hb.1 hb.2
      simp only [cond_false]; push_cast; omega
theorem j_bound {k : Nat} (h : jOk b rows l skip k = true) : 0 ≤ jM b rows l skip k ∧ jM b rows l skip k ≤ 60 ∧ -60 ≤ jE b rows l skip k ∧ jE b rows l skip k ≤ 120 ∧ 0 ≤ jF b rows l skip k ∧ jF b rows l skip k ≤ 60000000 ∧ 0 ≤ jC b rows l skip k ∧ jC b rows l skip k ≤ 1200000 := by
  obtain ⟨_, _, ha, _⟩ := jOk_parts h
  obtain ⟨h1, h2, h3, h4, h5, h6⟩ := asked_bounds ha
  have hm := missN_le (I := jI b rows k) (S := jS l k) (skip := skip) (jI b rows k).length
  have hf := farN_bound ha _ (Nat.le_refl _)
  have hP := P_ok ha (Nat.zero_le _) (Nat.zero_le _)
  simp only [jM, jE, jF, jC]
  omega
theorem jst_bound : ∀ k, k ≤ 8 → (∀ m, m < k → jOk b rows l skip m = true) → 0 ≤ (jst b rows l skip k).1.1 ∧ (jst b rows l skip k).1.1 ≤ 60 * k ∧ -60 * k ≤ (jst b rows l skip k).1.2.1 ∧ (jst b rows l skip k).1.2.1 ≤ 120 * k ∧ 0 ≤ (jst b rows l skip k).1.2.2.1 ∧ (jst b rows l skip k).1.2.2.1 ≤ 60000000 * k
  | 0, _, _ => by simp [jst]
  | k + 1, hk, h => by
    have ih := jst_bound k (by omega) fun m hm => h m (by omega)
    have hb := j_bound (h k (by omega))
    simp only [jst]; push_cast; omega
theorem jN_eq (h : 0 < rows.length) : jN rows = rows[0].size := by simp [jN, sz0_get h]
theorem goodRows_first (h : goodRows rows = true) (h0 : 0 < rows.length) : 3 ≤ rows[0].size ∧ rows[0].size ≤ 8 := by
  have := goodRows_row h h0
  simp only [isRowOf, Bool.and_eq_true] at this
  exact goodRow_size this.2
theorem judge_no (h0 : 0 < rows.length) {k : Nat} (hk : k < jN rows) (h : jOk b rows l skip k = false) : judgeOk b rows l skip = false := by
  simp only [judgeOk, all_range_false hk h, Bool.and_false]
theorem judge_yes (hg : goodRows rows = true) (h0 : 0 < rows.length) (h : ∀ k, k < jN rows → jOk b rows l skip k = true) : judgeOk b rows l skip = true := by
  simp only [judgeOk, hg, decide_eq_true h0, all_range_iff h]; rfl
/-- the fitting of ideal time i -/
theorem best_get {I S : List Int} {skip : Int} {i : Nat} (h : i < I.length) : (best I S skip)[i]? = some (bif skips I S skip i (bm I S skip i).1 then -1 else (firstFit I S skip i (bm I S skip i).1 : Int)) := by
  rw [List.getElem?_eq_getElem (by rw [best_len]; exact h), best_at h (by rw [best_len]; exact h)]
end
abbrev sJudge_A : Int × Int × Int × List ByteArray × List Strike × Int → List D := fun (s, g, a, rows, l, skip) => [.nd .agg [i64 s, i64 g, i64 a], R 9 dStr rows, R 53 sk l, i64 skip]
theorem sJudge_inj : ∀ x y, sJudge_A x = sJudge_A y → x = y := by
  rintro ⟨s, g, a, rows, l, skip⟩ ⟨s', g', a', rows', l', skip'⟩ h; simpa [Prod.ext_iff, and_assoc] using h
def sJudge : List D → VC.Spec := mk sJudge_A (fun _ : Int × Int × Int × List ByteArray × List Strike × Int => True) (fun (s, g, a, rows, l, skip) rs fin => rs = [jd (judgeR (s, g, a) rows l skip), dBool (judgeOk (s, g, a) rows l skip)] ∧ fin = [])
theorem sJudge_pre {s : Int} {g : Int} {a : Int} {rows : List ByteArray} {l : List Strike} {skip : Int} : (sJudge [.nd .agg [i64 s, i64 g, i64 a], R 9 dStr rows, R 53 sk l, i64 skip]).pre = (True) := mk_preI sJudge_inj (s, g, a, rows, l, skip)
theorem sJudge_post {s : Int} {g : Int} {a : Int} {rows : List ByteArray} {l : List Strike} {skip : Int} {rs fin : List D} : (sJudge [.nd .agg [i64 s, i64 g, i64 a], R 9 dStr rows, R 53 sk l, i64 skip]).post rs fin = (rs = [jd (judgeR (s, g, a) rows l skip), dBool (judgeOk (s, g, a) rows l skip)] ∧ fin = []) := mk_postI sJudge_inj (s, g, a, rows, l, skip) trivial
theorem w10 : WalkOk [(21, sRows), (22, sIdeal), (23, sMatchB), (24, sOf), (25, sAbs)] sJudge_A (fun _ : Int × Int × Int × List ByteArray × List Strike × Int => True) (fun (s, g, a, rows, l, skip) rs fin => rs = [jd (judgeR (s, g, a) rows l skip), dBool (judgeOk (s, g, a) rows l skip)] ∧ fin = []) d10 := by
  rintro ⟨s, g, a, rows, l, skip⟩ hp hf
  replace hf : Tr.factsL [.nd .agg [i64 s, i64 g, i64 a], R 9 dStr rows, R 53 sk l, i64 skip] := hf
  simp at hf
  obtain ⟨b, hb⟩ : ∃ b : Beat, b = (s, g, a) := ⟨_, rfl⟩
  cases hg : goodRows rows with
  | false =>
    have hno : judgeOk (s, g, a) rows l skip = false := by simp only [judgeOk, hg, Bool.false_and]
    simp [d10, m10, sJudge_A, boxIx, conOf_cons, sRows_pre, sRows_post, sIdeal_pre, sIdeal_post, sMatchB_pre, sMatchB_post, sOf_pre, sOf_post, sAbs_pre, sAbs_post, hg, judgeR, hno]
  | true =>
  by_cases h0 : 0 < rows.length
  · have h0i : ¬ ((rows.length : Int) = 0) := by omega
    have hne : rows ≠ [] := by intro e; subst e; simp at h0
    have h38 := goodRows_first hg h0
    have hN := jN_eq h0
    simp [d10, m10, sJudge_A, boxIx, conOf_cons, sRows_pre, sRows_post, sIdeal_pre, sIdeal_post, sMatchB_pre, sMatchB_post, sOf_pre, sOf_post, sAbs_pre, sAbs_post, hg, h0i, hne]
    refine forK rows[0].size (fun k => [(1, .own (R 9 dStr rows)), (2, .own (R 53 sk l)), (3, .own (i64 skip)), (4, .own (.nd (.box 32 ()) [bt (s, g, a)])), (8, .own (.nd (.box 29 ()) [jd (0, 0, 0, 0)])), (10, .own (Wr 53 sk (idealR (s, g, a) rows))), (12, .own (.nd (.box 29 ()) [jd (jst (s, g, a) rows l skip k).1])), (13, .own (i64 (jst (s, g, a) rows l skip k).2)), (14, .own (i64 ((k : Int) + 1)))]) (fun k => ∀ m, m < k → jOk (s, g, a) rows l skip m = true) (fun m hm => by omega) (sub_of (by simp [jst])) ?_
    intro k hk hall
    simp [h0, hne]
    refine condK (fun h1 => ?_) (fun h1 => ?_)
    · have hkt : k < rows[0].size := by simp at h1; omega
      have e := wrapS (n := k) (by omega)
      have e' : IntKind.i64.wrap ((k : Int) + 1 + 1) = (k : Int) + 1 + 1 := wrap64 (by omega) (by omega)
      cases hok : jOk (s, g, a) rows l skip k with
      | false =>
        have hno := judge_no h0 (by rw [hN]; exact hkt) hok
        simp only [jOk] at hok
        simp [conOf_cons, sRows_pre, sRows_post, sIdeal_pre, sIdeal_post, sMatchB_pre, sMatchB_post, sOf_pre, sOf_post, sAbs_pre, sAbs_post, hok, judgeR, hno]
      | true =>
        obtain ⟨p1, p2, p3, p4⟩ := jOk_parts hok
        have hok' := hok
        simp only [jOk] at hok'
        obtain ⟨I, hI⟩ : ∃ I, I = jI (s, g, a) rows k := ⟨_, rfl⟩
        obtain ⟨S, hS⟩ : ∃ S, S = jS l k := ⟨_, rfl⟩
        rw [← hI, ← hS] at p3
        have hR : mbR (s, g, a) rows l ((k : Int) + 1) skip = (best I S skip, P I S skip 0 0) := by
          have h1 : asked (bellI (s, g, a) rows ((k : Int) + 1)) (ofBell l ((k : Int) + 1)) skip = true := by rw [hI, hS] at p3; exact p3
          simp only [mbR, p4, cond_true, bestR, h1]
          rw [hI, hS]; rfl
        have hid : goodStrikes (ideal (s, g, a) rows) = true := by simp only [idealOk, Bool.and_eq_true] at p1; exact p1.2
        have hl1 := goodStrikes_len hid
        have hl2 := goodStrikes_len p2
        have hr : idealR (s, g, a) rows = ideal (s, g, a) rows := by simp only [idealR, p1, cond_true]
        have q1 : ((ideal (s, g, a) rows).length : Int) * 8 ≤ 140737488355328 := by omega
        have q2 : (l.length : Int) * 8 ≤ 140737488355328 := by omega
        have hIe : ofBell (ideal (s, g, a) rows) ((k : Int) + 1) = I := by rw [hI]; rfl
        have hSe : ofBell l ((k : Int) + 1) = S := by rw [hS]; rfl
        obtain ⟨M, E, F, W, C, hJ⟩ : ∃ M E F W C, jst (s, g, a) rows l skip k = ((M, E, F, W), C) := ⟨_, _, _, _, _, rfl⟩
        have hB := jst_bound (b := (s, g, a)) (rows := rows) (l := l) (skip := skip) k (by omega) hall
        rw [hJ] at hB
        simp only at hB
        obtain ⟨hl3, hl4, hs1, hs2, ht1, ht2⟩ := asked_bounds p3
        have v1 : IntKind.i64.wrap (E + S.length) = E + S.length := wrap64 (by omega) (by omega)
        have hbl := best_len (I := I) (S := S) (skip := skip)
        simp [conOf_cons, sRows_pre, sRows_post, sIdeal_pre, sIdeal_post, sMatchB_pre, sMatchB_post, sOf_pre, sOf_post, sAbs_pre, sAbs_post, hok', hR, hr, q1, q2, hIe, hSe, hJ, v1]
        have hfb := fun j => farN_bound p3 j
        refine forK I.length (fun j => [(70, .ref 15 [(0, 0)]), (1, .own (R 9 dStr rows)), (2, .own (R 53 sk l)), (3, .own (i64 skip)), (4, .own (.nd (.box 32 ()) [bt (s, g, a)])), (8, .own (.nd (.box 29 ()) [jd (0, 0, 0, 0)])), (10, .own (Wr 53 sk (ideal (s, g, a) rows))), (12, .own (.nd (.box 29 ()) [jd (M + missN I S skip j, E + S.length - (j - missN I S skip j), F + farN I S skip j, W)])), (13, .own (i64 C)), (14, .own (i64 ((k : Int) + 1))), (15, .own (.nd (.box 46 ()) [mt (best I S skip, P I S skip 0 0)])), (17, .own (Wr 3 i64 I)), (18, .own (Wr 3 i64 S)), (71, .own (i64 I.length)), (72, .own (i64 j))]) (fun _ => True) trivial (sub_of (by simp [hbl, missN, missedIn, farN])) ?_
        intro j hj _
        simp
        refine condK (fun g1 => ?_) (fun g1 => ?_)
        · have hjt : j < I.length := by simpa using g1
          have ej := wrapS (n := j) (by omega)
          have hle := bm_le (S := S) (skip := skip) j hj
          have hmj := missN_le (I := I) (S := S) (skip := skip) j
          have hfj := hfb j hj
          have hms := missN_succ (S := S) (skip := skip) hjt
          have hbg := best_at (S := S) (skip := skip) hjt (by rw [best_len]; exact hjt)
          have hjb : j < (best I S skip).length := by omega
          cases hsk : skips I S skip j (bm I S skip j).1 with
          | true =>
            rw [hsk] at hms hbg
            simp only [cond_true] at hms hbg
            have hfs : farN I S skip (j + 1) = farN I S skip j := by simp [farN, hsk]
            have v2 : IntKind.i64.wrap (M + missN I S skip j + 1) = M + missN I S skip j + 1 := wrap64 (by omega) (by omega)
            simp [hjt, hjb, hbl, hbg, v2]
            refine next hjt trivial (sub_of ?_)
            simp [ej, hms, hfs]
            omega
          | false =>
            obtain ⟨c1, c2, c3, c4⟩ := firstFit_spec hjt hle hsk
            rw [hsk] at hms hbg
            simp only [cond_false, Nat.add_zero] at hms hbg
            obtain ⟨n, hn⟩ : ∃ n, n = firstFit I S skip j (bm I S skip j).1 := ⟨_, rfl⟩
            have hfs : farN I S skip (j + 1) = farN I S skip j + far (I.getD j 0) (S.getD n 0) := by simp [farN, hsk, hn]
            rw [← hn] at c1 c2 hbg
            have hta := ht1 j hjt
            have htb := ht2 n c2
            have ga : I.getD j 0 = I[j] := by rw [List.getD_eq_getElem?_getD, List.getElem?_eq_getElem hjt]; rfl
            have gb : S.getD n 0 = S[n] := by rw [List.getD_eq_getElem?_getD, List.getElem?_eq_getElem c2]; rfl
            rw [ga, gb] at hfs
            rw [ga] at hta
            rw [gb] at htb
            have f1 := far_nonneg I[j] S[n]
            have f2 := far_le hta.1 hta.2 htb.1 htb.2
            have v2 : IntKind.i64.wrap (E + S.length - (j - missN I S skip j) - 1) = E + S.length - (j - missN I S skip j) - 1 := wrap64 (by omega) (by omega)
            have v3 : IntKind.i64.wrap (I[j] - S[n]) = I[j] - S[n] := wrap64 (by omega) (by omega)
            have v4 := far_abs I[j] S[n]
            have v5 : IntKind.i64.wrap (F + farN I S skip j + far I[j] S[n]) = F + farN I S skip j + far I[j] S[n] := wrap64 (by omega) (by omega)
            have f3 : -9223372036854775807 ≤ I[j] - S[n] := by omega
            have f4 : ¬ ((n : Int) < 0) := by omega
            simp [hjt, hjb, hbl, hbg, v2, v3, v4, v5, f3, f4, c2, conOf_cons, sRows_pre, sRows_post, sIdeal_pre, sIdeal_post, sMatchB_pre, sMatchB_post, sOf_pre, sOf_post, sAbs_pre, sAbs_post]
            refine next hjt trivial (sub_of ?_)
            simp [ej, hms, hfs]
            omega
        · have hge : j = I.length := by simp at g1; omega
          subst hge
          have hcost := P_ok p3 (Nat.zero_le _) (Nat.zero_le _)
          have hjs : jst (s, g, a) rows l skip (k + 1) = ((M + missN I S skip I.length, E + (S.length - (I.length - missN I S skip I.length)), F + farN I S skip I.length, if C < P I S skip 0 0 then (k : Int) + 1 else W), if C < P I S skip 0 0 then P I S skip 0 0 else C) := by
            rw [jst, hJ]; simp only [jM, jE, jF, jC, ← hI, ← hS]
          by_cases hC : C < P I S skip 0 0
          · simp [hC]
            refine next hkt (all_range_succ hall hok) (sub_of ?_)
            simp [e', hjs, hC]
            omega
          · simp [hC]
            refine next hkt (all_range_succ hall hok) (sub_of ?_)
            simp [e', hjs, hC]
            omega
    · have hge : k = rows[0].size := by simp at h1; omega
      subst hge
      have hyes : judgeOk (s, g, a) rows l skip = true := judge_yes hg h0 (by rw [hN]; exact hall)
      simp [judgeR, hyes, hN]
  · have hne : rows = [] := List.length_eq_zero_iff.1 (by omega)
    have hno : judgeOk (s, g, a) rows l skip = false := by simp only [judgeOk, decide_eq_false h0, Bool.and_false, Bool.false_and]
    have h0i : (rows.length : Int) = 0 := by omega
    simp [d10, m10, sJudge_A, boxIx, conOf_cons, sRows_pre, sRows_post, sIdeal_pre, sIdeal_post, sMatchB_pre, sMatchB_post, sOf_pre, sOf_post, sAbs_pre, sAbs_post, hg, eq_true h0i, eq_true hne, judgeR, hno]
theorem best_good {I S : List Int} {skip : Int} (h : asked I S skip = true) : goodOf (best I S skip) 60 = true := by
  obtain ⟨h1, h2, _⟩ := asked_bounds h
  have hl := best_len (I := I) (S := S) (skip := skip)
  simp only [goodOf, Bool.and_eq_true, decide_eq_true_eq]
  refine ⟨by omega, List.all_eq_true.2 fun x hx => ?_⟩
  obtain ⟨i, hi, rfl⟩ := List.getElem_of_mem hx
  rw [hl] at hi
  rw [best_at hi]
  cases hs : skips I S skip i (bm I S skip i).1 with
  | true => rfl
  | false =>
    obtain ⟨c1, c2, _, _⟩ := firstFit_spec hi (bm_le _ (by omega)) hs
    simp only [cond_false, within_iff]; omega
theorem w6 : WalkOk [(14, sBeat), (15, sRows), (16, sStrikes), (17, sMatchB), (18, sMissed), (19, sOf)] sJudge_A (fun _ : Int × Int × Int × List ByteArray × List Strike × Int => True) (fun (s, g, a, rows, l, skip) rs fin => rs = [jd (judgeR (s, g, a) rows l skip), dBool (judgeOk (s, g, a) rows l skip)] ∧ fin = []) d6 := by
  rintro ⟨s, g, a, rows, l, skip⟩ hp hf
  replace hf : Tr.factsL [.nd .agg [i64 s, i64 g, i64 a], R 9 dStr rows, R 53 sk l, i64 skip] := hf
  simp at hf
  have hno0 : ∀ (h : goodRows rows = true), 0 < rows.length → mbPre (s, g, a) rows l ((0 : Nat) + 1 : Int) = false → judgeOk (s, g, a) rows l skip = false := by
    intro h h0 hm
    refine judge_no h0 (k := 0) ?_ ?_
    · rw [jN_eq h0]; have := goodRows_first h h0; omega
    · simp only [jOk, mbOk, hm, Bool.false_and]
  cases hbt : goodBeat (s, g, a) with
  | false =>
    have hno : judgeOk (s, g, a) rows l skip = false := by
      cases hg : goodRows rows with
      | false => simp only [judgeOk, hg, Bool.false_and]
      | true =>
        by_cases h0 : 0 < rows.length
        · exact hno0 hg h0 (by simp only [mbPre, idealOk, hbt, Bool.false_and])
        · simp only [judgeOk, decide_eq_false h0, Bool.and_false, Bool.false_and]
    simp [d6, m6, sJudge_A, boxIx, conOf_cons, sBeat_pre, sBeat_post, sRows_pre, sRows_post, sStrikes_pre, sStrikes_post, sMatchB_pre, sMatchB_post, sMissed_pre, sMissed_post, sOf_pre, sOf_post, hbt, judgeR, hno]
  | true =>
  cases hg : goodRows rows with
  | false =>
    have hno : judgeOk (s, g, a) rows l skip = false := by simp only [judgeOk, hg, Bool.false_and]
    simp [d6, m6, sJudge_A, boxIx, conOf_cons, sBeat_pre, sBeat_post, sRows_pre, sRows_post, sStrikes_pre, sStrikes_post, sMatchB_pre, sMatchB_post, sMissed_pre, sMissed_post, sOf_pre, sOf_post, hbt, hg, judgeR, hno]
  | true =>
  by_cases h0 : 0 < rows.length
  · have h0i : ¬ ((rows.length : Int) = 0) := by omega
    have hne : rows ≠ [] := by intro e; subst e; simp at h0
    have h38 := goodRows_first hg h0
    have hN := jN_eq h0
    cases hgs : goodStrikes l with
    | false =>
      have hno := hno0 hg h0 (by simp only [mbPre, hgs, Bool.false_and, Bool.and_false])
      simp [d6, m6, sJudge_A, boxIx, conOf_cons, sBeat_pre, sBeat_post, sRows_pre, sRows_post, sStrikes_pre, sStrikes_post, sMatchB_pre, sMatchB_post, sMissed_pre, sMissed_post, sOf_pre, sOf_post, hbt, hg, h0i, hne, hgs, judgeR, hno]
    | true =>
    simp [d6, m6, sJudge_A, boxIx, conOf_cons, sBeat_pre, sBeat_post, sRows_pre, sRows_post, sStrikes_pre, sStrikes_post, sMatchB_pre, sMatchB_post, sMissed_pre, sMissed_post, sOf_pre, sOf_post, hbt, hg, h0i, hne, hgs]
    refine forK rows[0].size (fun k => [(1, .own (R 9 dStr rows)), (2, .own (R 53 sk l)), (3, .own (i64 skip)), (4, .own (.nd (.box 32 ()) [bt (s, g, a)])), (8, .own (.nd (.box 29 ()) [jd (0, 0, 0, 0)])), (10, .own (.nd (.box 29 ()) [jd (jst (s, g, a) rows l skip k).1])), (11, .own (i64 (jst (s, g, a) rows l skip k).2)), (12, .own (i64 ((k : Int) + 1)))]) (fun k => ∀ m, m < k → jOk (s, g, a) rows l skip m = true) (fun m hm => by omega) (sub_of (by simp [jst])) ?_
    intro k hk hall
    simp [h0, hne]
    refine condK (fun h1 => ?_) (fun h1 => ?_)
    · have hkt : k < rows[0].size := by simp at h1; omega
      have e' : IntKind.i64.wrap ((k : Int) + 1 + 1) = (k : Int) + 1 + 1 := wrap64 (by omega) (by omega)
      cases hok : jOk (s, g, a) rows l skip k with
      | false =>
        have hno := judge_no h0 (by rw [hN]; exact hkt) hok
        simp only [jOk] at hok
        simp [conOf_cons, sBeat_pre, sBeat_post, sRows_pre, sRows_post, sStrikes_pre, sStrikes_post, sMatchB_pre, sMatchB_post, sMissed_pre, sMissed_post, sOf_pre, sOf_post, hok, judgeR, hno]
      | true =>
        obtain ⟨p1, p2, p3, p4⟩ := jOk_parts hok
        have hok' := hok
        simp only [jOk] at hok'
        obtain ⟨I, hI⟩ : ∃ I, I = jI (s, g, a) rows k := ⟨_, rfl⟩
        obtain ⟨S, hS⟩ : ∃ S, S = jS l k := ⟨_, rfl⟩
        rw [← hI, ← hS] at p3
        have hR : mbR (s, g, a) rows l ((k : Int) + 1) skip = (best I S skip, P I S skip 0 0) := by
          have h1 : asked (bellI (s, g, a) rows ((k : Int) + 1)) (ofBell l ((k : Int) + 1)) skip = true := by rw [hI, hS] at p3; exact p3
          simp only [mbR, p4, cond_true, bestR, h1]
          rw [hI, hS]; rfl
        have hl2 := goodStrikes_len p2
        have q2 : (l.length : Int) * 8 ≤ 140737488355328 := by omega
        have hSe : ofBell l ((k : Int) + 1) = S := by rw [hS]; rfl
        obtain ⟨M, E, F, W, C, hJ⟩ : ∃ M E F W C, jst (s, g, a) rows l skip k = ((M, E, F, W), C) := ⟨_, _, _, _, _, rfl⟩
        have hB := jst_bound (b := (s, g, a)) (rows := rows) (l := l) (skip := skip) k (by omega) hall
        rw [hJ] at hB
        simp only at hB
        obtain ⟨hl3, hl4, hs1, hs2, ht1, ht2⟩ := asked_bounds p3
        have hbl := best_len (I := I) (S := S) (skip := skip)
        have hgo := best_good p3
        have hml : (missedIn (best I S skip) (best I S skip).length).length = missN I S skip I.length := by rw [hbl]; rfl
        have hmj := missN_le (I := I) (S := S) (skip := skip) I.length
        have hfb := farN_bound p3 I.length (Nat.le_refl _)
        have hcost := P_ok p3 (Nat.zero_le _) (Nat.zero_le _)
        have hall2 := cost_all (I := I) (S := S) (skip := skip)
        have hjs : jst (s, g, a) rows l skip (k + 1) = ((M + missN I S skip I.length, E + (S.length - (I.length - missN I S skip I.length)), F + farN I S skip I.length, if C < P I S skip 0 0 then (k : Int) + 1 else W), if C < P I S skip 0 0 then P I S skip 0 0 else C) := by
          rw [jst, hJ]; simp only [jM, jE, jF, jC, ← hI, ← hS]
        obtain ⟨X, hX⟩ : ∃ X : Int, X = missN I S skip I.length := ⟨_, rfl⟩
        obtain ⟨Y, hY⟩ : ∃ Y : Int, Y = (S.length : Int) - (I.length - X) := ⟨_, rfl⟩
        rw [← hX] at hall2 hjs
        rw [← hY] at hall2 hjs
        have hmX : (((missedIn (best I S skip) (best I S skip).length).length : Nat) : Int) = X := by rw [hml, hX]
        have hbX : (((best I S skip).length : Nat) : Int) = I.length := by rw [hbl]
        have v1 : IntKind.i64.wrap ((I.length : Int) - X) = (I.length : Int) - X := wrap64 (by omega) (by omega)
        have v2 : IntKind.i64.wrap ((S.length : Int) - (I.length - X)) = Y := by rw [hY]; exact wrap64 (by omega) (by omega)
        have v3 : IntKind.i64.wrap (M + X) = M + X := wrap64 (by omega) (by omega)
        have v4 : IntKind.i64.wrap (E + Y) = E + Y := wrap64 (by omega) (by omega)
        have v5 : IntKind.i64.wrap (X + Y) = X + Y := wrap64 (by omega) (by omega)
        have v6 : IntKind.i64.wrap (skip * (X + Y)) = skip * (X + Y) := wrap64 (by omega) (by omega)
        have v7 : IntKind.i64.wrap (P I S skip 0 0 - skip * (X + Y)) = farN I S skip I.length := by rw [wrap64 (by omega) (by omega)]; omega
        have v8 : IntKind.i64.wrap (F + farN I S skip I.length) = F + farN I S skip I.length := wrap64 (by omega) (by omega)
        by_cases hC : C < P I S skip 0 0
        · simp [conOf_cons, sBeat_pre, sBeat_post, sRows_pre, sRows_post, sStrikes_pre, sStrikes_post, sMatchB_pre, sMatchB_post, sMissed_pre, sMissed_post, sOf_pre, sOf_post, hok', hR, q2, hSe, hJ, hgo, hmX, hbX, v1, v2, v3, v4, v5, v6, v7, v8, hC]
          refine next hkt (all_range_succ hall hok) (sub_of ?_)
          simp [e', hjs, hC]
        · simp [conOf_cons, sBeat_pre, sBeat_post, sRows_pre, sRows_post, sStrikes_pre, sStrikes_post, sMatchB_pre, sMatchB_post, sMissed_pre, sMissed_post, sOf_pre, sOf_post, hok', hR, q2, hSe, hJ, hgo, hmX, hbX, v1, v2, v3, v4, v5, v6, v7, v8, hC]
          refine next hkt (all_range_succ hall hok) (sub_of ?_)
          simp [e', hjs, hC]
    · have hge : k = rows[0].size := by simp at h1; omega
      subst hge
      have hyes : judgeOk (s, g, a) rows l skip = true := judge_yes hg h0 (by rw [hN]; exact hall)
      simp [judgeR, hyes, hN]
  · have hne : rows = [] := List.length_eq_zero_iff.1 (by omega)
    have hno : judgeOk (s, g, a) rows l skip = false := by simp only [judgeOk, decide_eq_false h0, Bool.and_false, Bool.false_and]
    have h0i : (rows.length : Int) = 0 := by omega
    simp [d6, m6, sJudge_A, boxIx, conOf_cons, sBeat_pre, sBeat_post, sRows_pre, sRows_post, sStrikes_pre, sStrikes_post, sMatchB_pre, sMatchB_post, sMissed_pre, sMissed_post, sOf_pre, sOf_post, hbt, hg, eq_true h0i, eq_true hne, judgeR, hno]
end Go.Proofs.Ytbmkofeahjmkgac
end

section
set_option maxRecDepth 100000
set_option maxHeartbeats 2000000
set_option linter.unusedVariables false
set_option linter.unusedSimpArgs false
open Go Go.VC
namespace Go.Proofs.Ytbmkofeahjmkgac
/-! the law -/
abbrev sLaw_A : Int × Int × Int × List ByteArray × List Strike × Int → List D := fun (s, g, a, rows, l, skip) => [.nd .agg [i64 s, i64 g, i64 a], R 9 dStr rows, R 55 sk l, i64 skip]
theorem sLaw_inj : ∀ x y, sLaw_A x = sLaw_A y → x = y := by
  rintro ⟨s, g, a, rows, l, skip⟩ ⟨s', g', a', rows', l', skip'⟩ h; simpa [Prod.ext_iff, and_assoc] using h
def sLaw : List D → VC.Spec := mk sLaw_A (fun _ : Int × Int × Int × List ByteArray × List Strike × Int => True) (fun (s, g, a, rows, l, skip) rs fin => rs = [dBool true] ∧ fin = [])
theorem sLaw_pre {s : Int} {g : Int} {a : Int} {rows : List ByteArray} {l : List Strike} {skip : Int} : (sLaw [.nd .agg [i64 s, i64 g, i64 a], R 9 dStr rows, R 55 sk l, i64 skip]).pre = (True) := mk_preI sLaw_inj (s, g, a, rows, l, skip)
theorem sLaw_post {s : Int} {g : Int} {a : Int} {rows : List ByteArray} {l : List Strike} {skip : Int} {rs fin : List D} : (sLaw [.nd .agg [i64 s, i64 g, i64 a], R 9 dStr rows, R 55 sk l, i64 skip]).post rs fin = (rs = [dBool true] ∧ fin = []) := mk_postI sLaw_inj (s, g, a, rows, l, skip) trivial
theorem w3 : WalkOk [(4, sSzT), (5, sSzK), (6, sJudge), (7, sToBeat), (8, sToT), (9, sToK), (10, sJudge), (11, sEqJd), (12, sEqT), (13, sEqKs)] sLaw_A (fun _ : Int × Int × Int × List ByteArray × List Strike × Int => True) (fun (s, g, a, rows, l, skip) rs fin => rs = [dBool true] ∧ fin = []) d3 := by
  rintro ⟨s, g, a, rows, l, skip⟩ hp hf
  replace hf : Tr.factsL [.nd .agg [i64 s, i64 g, i64 a], R 9 dStr rows, R 55 sk l, i64 skip] := hf
  simp at hf
  by_cases h1 : szT rows 1048576 < 0
  · simp [d3, m3, sLaw_A, boxIx, conOf_cons, sSzT_pre, sSzT_post, sSzK_pre, sSzK_post, sJudge_pre, sJudge_post, sToBeat_pre, sToBeat_post, sToT_pre, sToT_post, sToK_pre, sToK_post, sEqJd_pre, sEqJd_post, sEqT_pre, sEqT_post, sEqKs_pre, sEqKs_post, h1]
  · have h1' : 0 ≤ szT rows 1048576 := by omega
    have hr : rows.length ≤ 1048576 := by
      unfold szT at h1'
      split at h1'
      · omega
      · omega
    have hs : szT rows 1048576 ≤ 1048576 := by
      unfold szT
      split <;> omega
    by_cases h2 : left l.length (szT rows 1048576) < 0
    · simp [d3, m3, sLaw_A, boxIx, conOf_cons, sSzT_pre, sSzT_post, sSzK_pre, sSzK_post, sJudge_pre, sJudge_post, sToBeat_pre, sToBeat_post, sToT_pre, sToT_post, sToK_pre, sToK_post, sEqJd_pre, sEqJd_post, sEqT_pre, sEqT_post, sEqKs_pre, sEqKs_post, h1, h1', h2]
    · have hl : l.length ≤ 1048576 := by
        unfold left at h2
        split at h2
        · omega
        · omega
      simp [d3, m3, sLaw_A, boxIx, conOf_cons, sSzT_pre, sSzT_post, sSzK_pre, sSzK_post, sJudge_pre, sJudge_post, sToBeat_pre, sToBeat_post, sToT_pre, sToT_post, sToK_pre, sToK_post, sEqJd_pre, sEqJd_post, sEqT_pre, sEqT_post, sEqKs_pre, sEqKs_post, h1, h1', h2, hr, hl]
end Go.Proofs.Ytbmkofeahjmkgac
end
