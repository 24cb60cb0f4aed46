/- A library of symbolic evaluation for programs of the model: what is told of a program text is checked against the text, and what the told text computes is shown by evaluation. No condition. -/
import Derived.Test.YtbmkofeahjmkgacL5
import Derived.Deep.SlicePairs
import Derived.Deep.Strs
import Derived.Lib.SmallJoins
import Derived.ProofKit
section
set_option linter.unusedVariables false
set_option linter.unusedSimpArgs false
namespace Go.VC
variable {P : Program} {C : Con}

/-- where a result lies -/
inductive RV | tm (t : Nat) | ce (t : Nat) (ag : Bool) (m : Nat)
def RV.slot : RV → Nat | .tm t => t | .ce t _ _ => t
def consO {α : Type} : Option α → Option (List α) → Option (List α)
  | some x, some xs => some (x :: xs)
  | _, _ => none
def resT : SV Unit → Option D
  | .own r => some r
  | _ => none
def ceK (ag : Bool) (m : Nat) (r : D) : Option D := bif r.isAgg == ag && r.cells.length == m then some r else none
def resC (ag : Bool) (m : Nat) : SV Unit → Option D
  | .own (.nd (.box _ _) [r]) => ceK ag m r
  | _ => none
def RV.get (L : AL) : RV → Option D
  | .tm t => resT (VC.get L t)
  | .ce t ag m => resC ag m (VC.get L t)
def resOf (L : AL) : List RV → Option (List D)
  | [] => some []
  | v :: vs => consO (v.get L) (resOf L vs)
def boxT : SV Unit → Option D
  | .own (.nd (.box t x) cs) => some (.nd (.box t x) cs)
  | _ => none
def finOf (L : AL) : List Nat → Option (List D)
  | [] => some []
  | s :: ss => consO (boxT (get L s)) (finOf L ss)
def boxIx (k : Nat) : List D → List Nat
  | [] => []
  | d :: ds => bif d.isBox then k :: boxIx (k + 1) ds else boxIx (k + 1) ds
def initL (k : Nat) : List D → AL
  | [] => []
  | d :: ds => (k, .own d) :: initL (k + 1) ds
mutual
def Tr.noRd {α : Type} : Tr α → Bool
  | .nd (.row false _ _) (_ :: _) => false
  | .nd _ cs => Tr.noRds cs
def Tr.noRds {α : Type} : List (Tr α) → Bool
  | [] => true
  | t :: ts => t.noRd && Tr.noRds ts
end
mutual
/-- what always holds of a value -/
def Tr.facts : D → Prop
  | .nd (.int k n) _ => loOf k ≤ n ∧ n ≤ hiOf k
  | .nd (.str s) _ => (s.size : Int) ≤ 9223372036854775807
  | .nd (.row _ _ _) cs => (cs.length : Int) ≤ 9223372036854775807 ∧ Tr.factsL cs
  | .nd _ cs => Tr.factsL cs
def Tr.factsL : List D → Prop
  | [] => True
  | t :: ts => t.facts ∧ Tr.factsL ts
end
theorem factsL_iff : ∀ ts : List D, Tr.factsL ts ↔ ∀ t ∈ ts, t.facts
  | [] => by simp [Tr.factsL]
  | t :: ts => by simp [Tr.factsL, factsL_iff ts]
theorem noRds_iff {α : Type} : ∀ ts : List (Tr α), Tr.noRds ts = true ↔ ∀ t ∈ ts, t.noRd = true
  | [] => by simp [Tr.noRds]
  | t :: ts => by simp [Tr.noRds, noRds_iff ts]
theorem ok_facts {w : World} {t : L} (h : t.Ok P w) : t.erase.facts := by
  induction t using Tr.ind with
  | h hd cs ih =>
    simp only [Tr.Ok, Tr.Oks_iff] at h
    have hk : Tr.factsL (cs.map Tr.erase) := by
      rw [factsL_iff]; intro u hu; obtain ⟨v, hv, rfl⟩ := List.mem_map.1 hu; exact ih v hv (h.2 v hv)
    cases hd with
    | int k m => exact (wrap_iff k m).1 h.1.2
    | str s => have := h.1.2; simp only [Tr.erase, Hd.erase, Tr.facts]; have h9 : s.size ≤ 9223372036854775807 := this; omega
    | row o e x =>
      obtain ⟨a, c⟩ := x
      have h1 := h.1.1
      have h2 : c ≤ 9223372036854775807 := h.1.2.1
      simp only [Tr.erase, Hd.erase, Tr.facts, Tr.erases_map, List.length_map]
      exact ⟨by omega, hk⟩
    | _ => simp only [Tr.erase, Hd.erase, Tr.facts, Tr.erases_map]; first | exact hk | trivial
theorem noRd_rdb {t : L} (h : t.erase.noRd = true) : t.rdb = [] := by
  induction t using Tr.ind with
  | h hd cs ih =>
    have main : (∀ t ∈ cs, t.erase.noRd = true) → hd.rdb cs = [] → (Tr.nd hd cs).rdb = [] := by
      intro h1 h2
      rw [rdb_nd, h2, List.nil_append, List.flatMap_eq_nil_iff]
      exact fun t ht => ih t ht (h1 t ht)
    have ks : Tr.noRds (cs.map Tr.erase) = true → ∀ t ∈ cs, t.erase.noRd = true := fun h t ht => (noRds_iff _).1 h _ (List.mem_map.2 ⟨t, ht, rfl⟩)
    cases hd with
    | row o e x =>
      obtain ⟨a, c⟩ := x
      cases o with
      | false =>
        cases cs with
        | nil => simp [rdb_nd, Hd.rdb]
        | cons c cs => simp [Tr.erase, Hd.erase, Tr.erases, Tr.noRd] at h
      | true =>
        refine main (ks ?_) (by cases a <;> rfl)
        simp only [Tr.erase, Hd.erase, Tr.erases_map] at h
        cases hcs : cs.map Tr.erase <;> rw [hcs] at h <;> simpa [Tr.noRd] using h
    | _ =>
      refine main (ks ?_) rfl
      simp only [Tr.erase, Hd.erase, Tr.erases_map] at h
      cases hcs : cs.map Tr.erase <;> rw [hcs] at h <;> simpa [Tr.noRd] using h

def RVs (P : Program) : List ResultVar → List RV → Prop
  | [], [] => True
  | .tmp t :: xs, .tm t' :: ys => t = t' ∧ RVs P xs ys
  | .cell a ty :: xs, .ce a' ag m :: ys => (a = a' ∧ (∃ u, P.underlying ty = some u ∧ aggOf u = ag) ∧ szOf P ty = m ∧ m ≠ 0) ∧ RVs P xs ys
  | _, _ => False

theorem get_initL : ∀ (ds : List D) (k s : Nat), get (initL k ds) s = if k ≤ s then (match ds[s - k]? with | some d => .own d | none => .undef) else .undef
  | [], k, s => by simp [initL, get, getA_nil]
  | d :: ds, k, s => by
    have hc : chkR [k] (get (initL (k + 1) ds) s) (get (initL (k + 1) ds) s).root? = get (initL (k + 1) ds) s := by
      rw [get_initL ds (k + 1) s]
      split
      · cases ds[s - (k + 1)]? <;> rfl
      · rfl
    rw [initL, get_hd, hc, get_initL ds (k + 1) s]
    by_cases h : s = k
    · subst h; simp
    · have : (s == k) = false := by simpa using h
      rw [this, cond_false]
      by_cases hk : k ≤ s
      · rw [if_pos hk, if_pos (by omega)]
        rw [show s - k = (s - (k + 1)) + 1 by omega, List.getElem?_cons_succ]
      · rw [if_neg hk, if_neg (by omega)]
theorem boxIx_spec : ∀ (ds : List D) (k : Nat), (boxIx k ds).Pairwise (· < ·) ∧ ∀ i ∈ boxIx k ds, k ≤ i ∧ ∃ d, ds[i - k]? = some d ∧ d.isBox = true
  | [], k => by simp [boxIx]
  | d :: ds, k => by
    obtain ⟨h1, h2⟩ := boxIx_spec ds (k + 1)
    have h3 : ∀ i ∈ boxIx (k + 1) ds, k ≤ i ∧ ∃ d', (d :: ds)[i - k]? = some d' ∧ d'.isBox = true := by
      intro i hi
      obtain ⟨g1, d', g2, g3⟩ := h2 i hi
      refine ⟨by omega, d', ?_, g3⟩
      rw [show i - k = (i - (k + 1)) + 1 by omega, List.getElem?_cons_succ]; exact g2
    unfold boxIx
    cases hb : d.isBox with
    | false => exact ⟨h1, h3⟩
    | true =>
      refine ⟨List.pairwise_cons.2 ⟨fun i hi => by have := (h2 i hi).1; omega, h1⟩, fun i hi => ?_⟩
      rcases List.mem_cons.1 hi with rfl | hi
      · exact ⟨Nat.le_refl _, d, by simp, hb⟩
      · exact h3 i hi
end Go.VC
end

section
set_option linter.unusedVariables false
set_option linter.unusedSimpArgs false
namespace Go.VC
variable {P : Program} {C : Con}

/-- trees that are taken out of slots -/
structure Out (P : Program) (τ : St Phys) (w : World) (s : Nat) (t : L) : Prop where
  ok : t.Ok P w
  nod : t.foot.Nodup
  sub : ∀ b ∈ t.foot, b ∈ (τ s).foot
  hb : ∀ b ∈ t.foot, b < w.heap.size

theorem outs_nodup {n : Nat} {lent : List Nat} {w0 w : World} {τ : St Phys} {a : Act} (hi : Inv P n lent w0 τ a w) : ∀ {ps : List (Nat × L)}, (ps.map (·.1)).Nodup → (∀ p ∈ ps, Out P τ w p.1 p.2) → (ps.flatMap fun p => p.2.foot).Nodup
  | [], _, _ => by simp
  | p :: ps, hn, h => by
    simp only [List.map_cons, List.nodup_cons] at hn
    simp only [List.flatMap_cons]
    refine List.nodup_append.2 ⟨(h p (by simp)).nod, outs_nodup hi hn.2 fun q hq => h q (by simp [hq]), fun b hb c hc e => ?_⟩
    subst e
    obtain ⟨q, hq, hbq⟩ := List.mem_flatMap.1 hc
    refine hi.sep p.1 q.1 (fun e => hn.1 (e ▸ List.mem_map.2 ⟨q, hq, rfl⟩)) b ((h p (by simp)).sub b hb) ((h q (by simp [hq])).sub b hbq)

theorem consO_some {α : Type} {x : Option α} {xs : Option (List α)} {l : List α} (h : consO x xs = some l) : ∃ y ys, x = some y ∧ xs = some ys ∧ l = y :: ys := by
  cases x <;> cases xs <;> simp [consO] at h
  exact ⟨_, _, rfl, rfl, h.symm⟩

/-- the value of a result -/
def rvVal (a : Act) (τ : St Phys) : ResultVar → Value
  | .tmp t => a.tmps.getD t Go.undef
  | .cell x _ => match τ x with
    | .own (.nd _ [r]) => r.val
    | _ => Go.undef

theorem box_out {n : Nat} {lent : List Nat} {w0 w : World} {τ : St Phys} {a : Act} (hi : Inv P n lent w0 τ a w) {s : Nat} {e : TypeId} {x : Phys} {r : L} (h : τ s = .own (.nd (.box e x) [r])) : Out P τ w s r := by
  have hok := hi.ok s (.nd (.box e x) [r]) (by rw [h]; simp [SV.trees])
  simp only [Tr.Ok, Tr.Oks_iff] at hok
  have hsub : ∀ b ∈ r.foot, b ∈ (τ s).foot := fun b hb => by
    rw [h]; simp only [SV.foot, SV.trees, List.flatMap_cons, List.flatMap_nil, List.append_nil]
    rw [foot_nd]; exact List.mem_append.2 (.inr (by simpa using hb))
  refine ⟨hok.2 r (by simp), ?_, hsub, fun b hb => hi.lt (.inl (hsub b hb))⟩
  have := hi.nod s
  rw [h] at this
  simp only [SV.foot, SV.trees, List.flatMap_cons, List.flatMap_nil, List.append_nil] at this
  rw [foot_nd] at this
  simpa using (List.nodup_append.1 this).2.1

theorem own_out {n : Nat} {lent : List Nat} {w0 w : World} {τ : St Phys} {a : Act} (hi : Inv P n lent w0 τ a w) {s : Nat} {r : L} (h : τ s = .own r) : Out P τ w s r := by
  have hsub : ∀ b ∈ r.foot, b ∈ (τ s).foot := fun b hb => by rw [h]; simpa [SV.foot, SV.trees] using hb
  refine ⟨hi.ok s r (by rw [h]; simp [SV.trees]), ?_, hsub, fun b hb => hi.lt (.inl (hsub b hb))⟩
  have := hi.nod s
  rw [h] at this
  simpa [SV.foot, SV.trees] using this

/-- the results, as trees -/
theorem res_spec {n : Nat} {lent : List Nat} {w0 w : World} {τ : St Phys} {a : Act} {L : AL} (hi : Inv P n lent w0 τ a w) (he : St.erase τ = get L) : ∀ {xs : List ResultVar} {vs : List RV} {rs : List D}, RVs P xs vs → resOf L vs = some rs →
    ∃ ps : List (Nat × Tr Phys), ps.map (·.1) = vs.map RV.slot ∧ ps.map (fun p => p.2.erase) = rs ∧ ps.map (fun p => p.2.val) = xs.map (rvVal a τ) ∧ (∀ p ∈ ps, Out P τ w p.1 p.2) ∧
      ∀ x ∈ xs, (match x with | .tmp t => pure (a.tmps.getD t Go.undef) | .cell b t => do loadVar t (← asAddr (a.tmps.getD b Go.undef)) : Sem Value).run P w = .ok (rvVal a τ x) w
  | [], [], rs, _, h => by simp [resOf] at h; subst h; exact ⟨[], rfl, rfl, rfl, by simp, by simp⟩
  | [], _ :: _, _, h, _ => by cases h
  | .tmp _ :: _, [], _, h, _ => by cases h
  | .cell _ _ :: _, [], _, h, _ => by cases h
  | .tmp t :: xs, .tm t' :: vs, rs, hv, h => by
    obtain ⟨rfl, hv⟩ := hv
    obtain ⟨y, ys, h1, h2, rfl⟩ := consO_some h
    obtain ⟨ps, g1, g2, g3, g4, g5⟩ := res_spec hi he hv h2
    have ht : (τ t).erase = get L t := congrFun he t
    simp only [RV.get] at h1
    cases hg : get L t with
    | own r =>
      rw [hg] at h1 ht
      simp only [resT, Option.some.injEq] at h1
      subst h1
      obtain ⟨tl, k1, k2⟩ := erase_own ht
      have hden := hi.den t
      rw [k1] at hden
      refine ⟨(t, tl) :: ps, by simp [g1, RV.slot], by simp [g2, k2], ?_, ?_, ?_⟩
      · simp only [List.map_cons, g3, rvVal]; rw [show a.tmps.getD t Go.undef = tl.val from hden]
      · intro p hp
        rcases List.mem_cons.1 hp with rfl | hp
        · exact own_out hi k1
        · exact g4 p hp
      · intro x hx
        rcases List.mem_cons.1 hx with rfl | hx
        · simp [rvVal]
        · exact g5 x hx
    | _ => rw [hg] at h1; simp [resT] at h1
  | .cell b ty :: xs, .ce b' ag m :: vs, rs, hv, h => by
    obtain ⟨⟨rfl, ⟨u, hu1, hu2⟩, hm, hm0⟩, hv⟩ := hv
    obtain ⟨y, ys, h1, h2, rfl⟩ := consO_some h
    obtain ⟨ps, g1, g2, g3, g4, g5⟩ := res_spec hi he hv h2
    have ht : (τ b).erase = get L b := congrFun he b
    simp only [RV.get] at h1
    unfold resC at h1
    split at h1
    · rename_i e0 x0 r0 hg
      rw [hg] at ht
      obtain ⟨tl, k1, k2⟩ := erase_own ht
      obtain ⟨x, cs, rfl, hcs⟩ := erase_box k2
      have hr0 : ∃ r, cs = [r] ∧ r.erase = r0 := by
        cases cs with
        | nil => simp at hcs
        | cons r cs => cases cs with
          | nil => simp at hcs; exact ⟨r, rfl, hcs⟩
          | cons _ _ => simp at hcs
      obtain ⟨r, rfl, rfl⟩ := hr0
      unfold ceK at h1
      obtain ⟨hc, h1⟩ := bif_some h1
      cases h1
      simp only [Bool.and_eq_true, beq_iff_eq, isAgg_erase, cells_erase, List.length_map] at hc
      obtain ⟨hag, hlen⟩ := hc
      have hden := hi.den b
      rw [k1] at hden
      have hok := hi.ok b (.nd (.box e0 x) [r]) (by rw [k1]; simp [SV.trees])
      simp only [Tr.Ok, Tr.Oks_iff] at hok
      obtain ⟨⟨g, c, d, q1, q2, q3, q4⟩, q5⟩ := hok
      simp only [List.cons.injEq, and_true] at q2
      subst q2
      obtain ⟨pa, pn⟩ := x
      simp only at q1
      subst q1
      have hav : a.tmps.getD b Go.undef = .pointer (some ⟨g, 0, none⟩) := hden
      have hcell : ∀ (k : Nat) (v : Value), (r.cells.map Tr.cval)[k]? = some v → w.cell? ((⟨g, 0, none⟩ : Addr).add k) = some v := by
        intro k v hk
        rw [Addr.add_at]
        simp only [World.cell?, q3, Nat.zero_add]
        rw [← Array.getElem?_toList, q4]; exact hk
      have hload : (loadVar ty ⟨g, 0, none⟩).run P w = .ok r.val w := by
        unfold loadVar
        rw [run_bind (run_isAgg hu1), hu2, ← hag]
        obtain ⟨rh, rc⟩ := r
        cases rh with
        | agg =>
          simp only [Tr.isAgg, if_true]
          rw [run_bind (run_sizeOf (by rw [hm]; exact hm0))]
          have hl := run_loadFrom (P := P) (w := w) (a := ⟨g, 0, none⟩) (szOf P ty) 0 #[] (rc.map Tr.cval) (by rw [hm]; simpa [Tr.cells] using hlen) (by
            intro k v hk; rw [Nat.zero_add]; exact hcell k v hk)
          unfold loadCells
          rw [run_bind hl]
          simp [Tr.val]
        | _ =>
          simp only [Tr.isAgg, Bool.false_eq_true, if_false]
          have h0 := hcell 0 _ (by simp [Tr.cells]; rfl)
          rw [Addr.add_at] at h0
          simp only [load, Sem.run, h0]
          rfl
      refine ⟨(b, r) :: ps, by simp [g1, RV.slot], by simp [g2], ?_, ?_, ?_⟩
      · simp only [List.map_cons, g3, rvVal, k1]
      · intro p hp
        rcases List.mem_cons.1 hp with rfl | hp
        · exact box_out hi k1
        · exact g4 p hp
      · intro x hx
        rcases List.mem_cons.1 hx with rfl | hx
        · simp only [hav, asAddr, pure_bind, rvVal, k1]; exact hload
        · exact g5 x hx
    · cases h1
  | .tmp _ :: _, .ce _ _ _ :: _, _, h, _ => by cases h
  | .cell _ _ :: _, .tm _ :: _, _, h, _ => by cases h

theorem fin_spec {n : Nat} {lent : List Nat} {w0 w : World} {τ : St Phys} {a : Act} {L : AL} (hi : Inv P n lent w0 τ a w) (he : St.erase τ = get L) : ∀ {ss : List Nat} {fs : List D}, finOf L ss = some fs →
    ∃ ps : List (Nat × Tr Phys), ps.map (·.1) = ss ∧ ps.map (fun p => p.2.erase) = fs ∧ (∀ p ∈ ps, Out P τ w p.1 p.2 ∧ τ p.1 = .own p.2)
  | [], fs, h => by simp [finOf] at h; subst h; exact ⟨[], rfl, rfl, by simp⟩
  | s :: ss, fs, h => by
    obtain ⟨y, ys, h1, h2, rfl⟩ := consO_some h
    obtain ⟨ps, g1, g2, g3⟩ := fin_spec hi he h2
    have ht : (τ s).erase = get L s := congrFun he s
    unfold boxT at h1
    split at h1
    · rename_i hg
      cases h1
      rw [hg] at ht
      obtain ⟨tl, k1, k2⟩ := erase_own ht
      refine ⟨(s, tl) :: ps, by simp [g1], by simp [g2, k2], ?_⟩
      intro p hp
      rcases List.mem_cons.1 hp with rfl | hp
      · exact ⟨own_out hi k1, k1⟩
      · exact g3 p hp
    · cases h1
end Go.VC
end

section
set_option linter.unusedVariables false
set_option linter.unusedSimpArgs false
namespace Go.VC
variable {P : Program} {C : Con}

def PostK (S : Spec) (rvs : List RV) (bs : List Nat) (L : AL) : Prop := match resOf L rvs, finOf L bs with
  | some rs, some fin => Tr.noRds rs = true ∧ Tr.noRds fin = true ∧ S.post rs fin
  | _, _ => False

theorem filterMap_congr' {α β : Type} {f g : α → Option β} : ∀ {l : List α}, (∀ x ∈ l, f x = g x) → l.filterMap f = l.filterMap g
  | [], _ => rfl
  | x :: l, h => by
    have ih := filterMap_congr' (f := f) (g := g) (l := l) fun y hy => h y (by simp [hy])
    simp only [List.filterMap_cons, h x (by simp), ih]
theorem boxes_val : ∀ (ts : List L) (k : Nat), (boxIx k (ts.map Tr.erase)).filterMap (fun i => ts[i - k]?) = ts.filter Tr.isBox
  | [], k => by simp [boxIx]
  | t :: ts, k => by
    have ih := boxes_val ts (k + 1)
    have e : (boxIx (k + 1) (ts.map Tr.erase)).filterMap (fun i => (t :: ts)[i - k]?) = ts.filter Tr.isBox := by
      rw [← ih]
      refine filterMap_congr' fun i hi => ?_
      have := ((boxIx_spec (ts.map Tr.erase) (k + 1)).2 i hi).1
      rw [show i - k = (i - (k + 1)) + 1 by omega, List.getElem?_cons_succ]
    simp only [List.map_cons, boxIx, isBox_erase]
    cases hb : t.isBox with
    | false => simp only [cond_false, List.filter_cons, hb, Bool.false_eq_true, if_false]; exact e
    | true =>
      simp only [cond_true, List.filterMap_cons, Nat.sub_self, List.getElem?_cons_zero, List.filter_cons, hb, if_true]
      rw [e]

/-- a function does what is said of it, when the walk through its body shows so -/
theorem fnOk {f : FuncId} {fn : Func} {c : Code} {m : MC} {S : List D → Spec} {rvs : List RV} {np : Nat} {ps : List Nat}
    (hf : P.funcs[f]? = some fn) (hname : (fn.name == "runtime.NumGoroutine") = false) (hb : fn.body = some c) (hres : RVs P fn.results.toList rvs) (hsl : nodupB (rvs.map RV.slot ++ ps) = true) (hnp : np ≤ fn.ntmps)
    (hcm : ∀ lent (pins : Pins), (∀ p ∈ pins, p.1 ∈ ps) → CM P fn.ntmps lent C pins m c)
    (hS : ∀ ds, (S ds).pre → ds.length = np ∧ ∀ i ∈ boxIx 0 ds, i ∈ ps)
    (hrun : ∀ ds, (S ds).pre → Tr.factsL ds → Run C (PostK (S ds) rvs (boxIx 0 ds)) [.code m] (initL 0 ds)) : FnOk P f S := by
  refine ⟨⟨fn, hf, hname, by rw [hb]; rfl⟩, fun ts w hp hts hnd hlt hrd => ?_⟩
  refine calls_of_wp hf hb ?_
  obtain ⟨hlen, hbox⟩ := hS _ hp
  have hl : ts.length = np := by simpa using hlen
  let τ0 : St Phys := fun s => match ts[s]? with
    | some t => .own t
    | none => .undef
  let a0 : Act := { tmps := (ts.map Tr.val).toArray ++ Array.replicate (fn.ntmps - (ts.map Tr.val).toArray.size) undef, defers := [] }
  have hget : ∀ (s : Nat) (t : L), ts[s]? = some t → a0.tmps.getD s Go.undef = t.val := by
    intro s t h
    have hs := (List.getElem?_eq_some_iff.1 h).1
    simp only [a0, Array.getD_eq_getD_getElem?]
    rw [Array.getElem?_append_left (by simpa using hs)]
    simp [h]
  let pins : Pins := (boxIx 0 (ts.map Tr.erase)).filterMap fun i => (ts[i]?).map fun t => (i, t.val)
  have hpins : ∀ p ∈ pins, ∃ t, ts[p.1]? = some t ∧ p.2 = t.val ∧ p.1 ∈ boxIx 0 (ts.map Tr.erase) := by
    intro p hp
    obtain ⟨i, hi, h⟩ := List.mem_filterMap.1 hp
    cases ht : ts[i]? with
    | none => rw [ht] at h; cases h
    | some t => rw [ht] at h; cases h; exact ⟨t, ht, rfl, hi⟩
  have hfoot0 : ∀ s, ∀ b ∈ (τ0 s).foot, ∃ t, ts[s]? = some t ∧ b ∈ t.foot := by
    intro s b hb
    simp only [τ0] at hb
    cases ht : ts[s]? with
    | none => rw [ht] at hb; simp [SV.foot, SV.trees] at hb
    | some t => rw [ht] at hb; exact ⟨t, rfl, by simpa [SV.foot, SV.trees] using hb⟩
  have hrdb0 : ∀ s, ∀ b ∈ (τ0 s).rdb, b ∈ ts.flatMap Tr.rdb := by
    intro s b hb
    simp only [τ0] at hb
    cases ht : ts[s]? with
    | none => rw [ht] at hb; simp [SV.rdb, SV.trees] at hb
    | some t => rw [ht] at hb; exact List.mem_flatMap.2 ⟨t, List.mem_of_getElem? ht, by simpa [SV.rdb, SV.trees] using hb⟩
  have hft : ∀ s, ∀ b ∈ (τ0 s).foot, b ∈ ts.flatMap Tr.foot := fun s b hb => by
    obtain ⟨t, ht, hbt⟩ := hfoot0 s b hb; exact List.mem_flatMap.2 ⟨t, List.mem_of_getElem? ht, hbt⟩
  have hJ : J P fn.ntmps (ts.flatMap Tr.foot) pins w τ0 a0 w := by
    refine ⟨⟨⟨rfl, rfl, rfl, Nat.le_refl _, fun _ _ _ => rfl⟩, ?_, rfl, fun s => ?_, fun s t ht => ?_, fun s => ?_, fun s b hb => ?_, fun s s' hne b hb hb' => ?_, fun s s' b hb hb' => ?_, fun s b hb => ?_⟩, fun p hp => ?_⟩
    · simp [a0]; omega
    · show Den P τ0 (τ0 s) _
      cases ht : ts[s]? with
      | none => have : τ0 s = .undef := by simp [τ0, ht]
                rw [this]; trivial
      | some t => have : τ0 s = .own t := by simp [τ0, ht]
                  rw [this]; exact hget s t ht
    · simp only [τ0] at ht
      cases hs : ts[s]? with
      | none => rw [hs] at ht; simp [SV.trees] at ht
      | some t' => rw [hs] at ht; simp [SV.trees] at ht; subst ht; exact (hts _ (List.mem_of_getElem? hs)).1
    · cases hs : ts[s]? with
      | none => simp [τ0, hs, SV.foot, SV.trees]
      | some t =>
        obtain ⟨B, p1, _⟩ := flat_split Tr.foot hs
        have := (List.nodup_append.1 (p1.nodup_iff.1 hnd)).1
        simpa [τ0, hs, SV.foot, SV.trees] using this
    · exact ⟨.inr (hft s b hb), hlt b (hft s b hb)⟩
    · obtain ⟨t, ht, hbt⟩ := hfoot0 s b hb
      obtain ⟨t', ht', hbt'⟩ := hfoot0 s' b hb'
      exact flat_disj hnd hne ht ht' b hbt hbt'
    · exact (hrd b (hrdb0 s b hb)).1 (hft s' b hb')
    · exact (hrd b (hrdb0 s b hb)).2
    · obtain ⟨t, ht, e, _⟩ := hpins p hp
      rw [e]; exact hget _ t ht
  have he : St.erase τ0 = get (initL 0 (ts.map Tr.erase)) := by
    funext s
    rw [get_initL]
    simp only [Nat.zero_le, if_true, Nat.sub_zero, List.getElem?_map, St.erase, τ0]
    cases ts[s]? <;> rfl
  have hfacts : Tr.factsL (ts.map Tr.erase) := by
    rw [factsL_iff]; intro d hd; obtain ⟨t, ht, rfl⟩ := List.mem_map.1 hd; exact ok_facts (hts t ht).1
  have hw := run_sound m c (hcm (ts.flatMap Tr.foot) pins fun p hp => hbox _ (by obtain ⟨t, _, _, h⟩ := hpins p hp; exact h)) (hrun _ hp hfacts) he hJ
  refine Code.wp_mono (fun e a' w' hq => ?_) hw
  -- the end
  have hend : ∀ (L2 : AL) (τ : St Phys), PostK (S (ts.map Tr.erase)) rvs (boxIx 0 (ts.map Tr.erase)) L2 → St.erase τ = get L2 → J P fn.ntmps (ts.flatMap Tr.foot) pins w τ a' w' → a'.defers = [] ∧ ∃ v, (results fn a'.tmps).run P w' = .ok v w' ∧
      ∃ rs fin : List (Tr Phys), Ending.returned v = .returned (packV (rs.map Tr.val)) ∧ (S (ts.map Tr.erase)).post (rs.map Tr.erase) (fin.map Tr.erase) ∧
      Keep (ts.flatMap Tr.foot) w w' ∧ fin.map Tr.val = (ts.filter Tr.isBox).map Tr.val ∧ (∀ t ∈ rs ++ fin, t.Ok P w' ∧ t.rdb = []) ∧ ((rs ++ fin).flatMap Tr.foot).Nodup ∧
      ∀ b ∈ (rs ++ fin).flatMap Tr.foot, b < w'.heap.size ∧ (w.heap.size ≤ b ∨ b ∈ ts.flatMap Tr.foot) := by
    intro L2 τ hP he' hj
    unfold PostK at hP
    split at hP
    rotate_left
    · exact hP.elim
    rename_i rs0 fin0 hr0 hf0
    obtain ⟨n1, n2, hpost⟩ := hP
    obtain ⟨pr, r1, r2, r3, r4, r5⟩ := res_spec hj.inv he' hres hr0
    obtain ⟨pf, f1, f2, f3⟩ := fin_spec hj.inv he' hf0
    refine ⟨hj.inv.dfr, packV (pr.map fun p => p.2.val), ?_, pr.map (·.2), pf.map (·.2), ?_, ?_, hj.inv.frame, ?_, ?_, ?_, ?_⟩
    · have hm : (fn.results.mapM fun x => (match x with | .tmp t => pure (a'.tmps.getD t Go.undef) | .cell b t => do loadVar t (← asAddr (a'.tmps.getD b Go.undef)) : Sem Value)).run P w' = .ok (fn.results.map (rvVal a' τ)) w' :=
        run_mapMA fn.results fun x hx => r5 x (by simpa using hx)
      unfold results
      refine (run_bind hm).trans ?_
      simp only [Sem.run_pure]
      congr 1
      have hv : (fn.results.map (rvVal a' τ)).toList = pr.map fun p => p.2.val := by rw [Array.toList_map, ← r3]
      rw [← hv]
      generalize fn.results.map (rvVal a' τ) = vs
      obtain ⟨l⟩ := vs
      match l with
      | [] => rfl
      | [v] => rfl
      | v :: u :: l => simp [packV]
    · simp [List.map_map, Function.comp_def]
    · simp only [List.map_map, Function.comp_def, r2, f2]; exact hpost
    · -- the boxes lie where they lay
      have hpf : pf = (boxIx 0 (ts.map Tr.erase)).filterMap fun i => match τ i with | .own t => some (i, t) | _ => none := by
        rw [← f1]
        clear f1 f2 hf0
        induction pf with
        | nil => rfl
        | cons p pf ih =>
          obtain ⟨_, k⟩ := f3 p (by simp)
          simp only [List.map_cons, List.filterMap_cons, k]
          rw [← ih fun q hq => f3 q (by simp [hq])]
      have hval : ∀ p ∈ pf, ∃ t, ts[p.1]? = some t ∧ p.2.val = t.val := by
        intro p hp
        obtain ⟨_, k⟩ := f3 p hp
        have hi : p.1 ∈ boxIx 0 (ts.map Tr.erase) := by rw [← f1]; exact List.mem_map.2 ⟨p, hp, rfl⟩
        obtain ⟨_, d, hd, _⟩ := (boxIx_spec (ts.map Tr.erase) 0).2 p.1 hi
        simp only [Nat.sub_zero, List.getElem?_map] at hd
        cases ht : ts[p.1]? with
        | none => rw [ht] at hd; cases hd
        | some t =>
          refine ⟨t, rfl, ?_⟩
          have hpin := hj.pin (p.1, t.val) (List.mem_filterMap.2 ⟨p.1, hi, by rw [ht]; rfl⟩)
          have hden := hj.inv.den p.1
          rw [k] at hden
          exact (show a'.tmps.getD p.1 Go.undef = p.2.val from hden).symm.trans hpin
      have hbv := boxes_val ts 0
      simp only [Nat.sub_zero] at hbv
      rw [← hbv, ← f1]
      clear f1 f2 f3 hf0 hpf hbv
      induction pf with
      | nil => rfl
      | cons p pf ih =>
        obtain ⟨t, h1, h2⟩ := hval p (by simp)
        simp only [List.map_cons, List.filterMap_cons, h1]
        rw [h2]
        rw [ih fun q hq => hval q (by simp [hq])]
    · intro t ht
      rcases List.mem_append.1 ht with ht | ht
      · obtain ⟨p, hp, rfl⟩ := List.mem_map.1 ht
        exact ⟨(r4 p hp).ok, noRd_rdb ((noRds_iff _).1 n1 _ (by rw [← r2]; exact List.mem_map.2 ⟨p, hp, rfl⟩))⟩
      · obtain ⟨p, hp, rfl⟩ := List.mem_map.1 ht
        exact ⟨(f3 p hp).1.ok, noRd_rdb ((noRds_iff _).1 n2 _ (by rw [← f2]; exact List.mem_map.2 ⟨p, hp, rfl⟩))⟩
    · have hkeys : ((pr ++ pf).map (·.1)).Nodup := by
        rw [List.map_append, r1, f1]
        have hs := nodupB_nodup hsl
        obtain ⟨s1, s2, s3⟩ := List.nodup_append.1 hs
        refine List.nodup_append.2 ⟨s1, ?_, fun x hx y hy e => s3 x hx y (hbox y hy) e⟩
        exact List.Pairwise.imp (fun h e => by omega) (boxIx_spec (ts.map Tr.erase) 0).1
      have := outs_nodup hj.inv hkeys (fun p hp => by
        rcases List.mem_append.1 hp with h | h
        · exact r4 p h
        · exact (f3 p h).1)
      simpa [List.flatMap_append, List.flatMap_map] using this
    · intro b hb
      have : ∃ p : Nat × Tr Phys, Out P τ w' p.1 p.2 ∧ b ∈ p.2.foot := by
        simp only [List.flatMap_append, List.flatMap_map, List.mem_append, List.mem_flatMap] at hb
        rcases hb with ⟨p, hp, h⟩ | ⟨p, hp, h⟩
        · exact ⟨p, r4 p hp, h⟩
        · exact ⟨p, (f3 p hp).1, h⟩
      obtain ⟨p, ho, h⟩ := this
      exact ⟨ho.hb b h, (hj.inv.fre p.1 b (ho.sub b h)).1⟩
  cases e with
  | normal =>
    obtain ⟨L, τ, h1, h2, h3⟩ := hq
    rw [run_nil] at h1
    exact hend L τ h1 h2 h3
  | ret => obtain ⟨L, τ, h1, h2, h3⟩ := hq; exact hend L τ h1 h2 h3
  | exit id =>
    obtain ⟨L, τ, h1, h2, h3⟩ := hq
    simp only [dropTo] at h1
    rw [run_goal] at h1
    exact h1.elim
  | _ => exact hq.elim
end Go.VC
end

section
set_option linter.unusedVariables false
set_option linter.unusedSimpArgs false
namespace Go.VC
variable {P : Program} {n : Nat} {lent : List Nat} {o : Oper} {C : Con}

/-! ### the check that what is told is the code -/
def constB (v : Value) (d : D) : Bool := match v, d with
  | .int k n, .nd (.int k' n') [] => k == k' && n == n' && k.wrap n == n
  | .bool b, .nd (.bool b') [] => b == b'
  | .string s, .nd (.str s') [] => s.data.toList == s'.data.toList && decide (s.size ≤ maxL)
  | .slice none l c, .nd (.row true _ _) [] => l == 0 && c == 0
  | _, _ => false
def opdB (x : Operand) (ox : Opd) : Bool := match x, ox with
  | .tmp t, .t t' => t == t'
  | .const v, .c d => constB v d
  | _, _ => false
theorem constB_spec {v : Value} {d : D} (h : constB v d = true) : ∃ e, constD e v = some d := by
  unfold constB at h
  split at h
  · simp only [Bool.and_eq_true, beq_iff_eq] at h
    obtain ⟨⟨rfl, rfl⟩, h⟩ := h
    exact ⟨0, by simp [constD, h]⟩
  · simp only [beq_iff_eq] at h; subst h; exact ⟨0, rfl⟩
  · simp only [Bool.and_eq_true, beq_iff_eq, decide_eq_true_eq] at h
    obtain ⟨h1, h2⟩ := h
    rename_i s s'
    have : s = s' := by
      obtain ⟨⟨l⟩⟩ := s; obtain ⟨⟨l'⟩⟩ := s'; simp at h1; subst h1; rfl
    subst this
    refine ⟨0, ?_⟩
    show (if s.size ≤ maxL then _ else _) = _
    rw [if_pos h2]
  · simp only [Bool.and_eq_true, beq_iff_eq] at h
    obtain ⟨rfl, rfl⟩ := h
    exact ⟨_, rfl⟩
  · cases h
theorem opdB_spec {x : Operand} {ox : Opd} (h : opdB x ox = true) : ∃ e, opd e x = some ox := by
  unfold opdB at h
  split at h
  · simp only [beq_iff_eq] at h; subst h; exact ⟨0, rfl⟩
  · obtain ⟨e, he⟩ := constB_spec h; exact ⟨e, by simp [opd, he]⟩
  · cases h
def all2 {α β : Type} (f : α → β → Bool) : List α → List β → Bool
  | [], [] => true
  | x :: xs, y :: ys => f x y && all2 f xs ys
  | _, _ => false
theorem opdsB_spec : ∀ {xs : List Operand} {os : List Opd}, all2 opdB xs os = true → ∃ zs : List (TypeId × Operand), zs.map (fun x => opd x.1 x.2) = os.map some ∧ xs = zs.map (·.2)
  | [], [], _ => ⟨[], rfl, rfl⟩
  | [], _ :: _, h => by cases h
  | _ :: _, [], h => by cases h
  | x :: xs, o :: os, h => by
    simp only [all2, Bool.and_eq_true] at h
    obtain ⟨e, he⟩ := opdB_spec h.1
    obtain ⟨zs, h1, h2⟩ := opdsB_spec h.2
    exact ⟨(e, x) :: zs, by simp [he, h1], by simp [h2]⟩

theorem constD_all {e : TypeId} {v : Value} {d : D} (h : constD e v = some d) :
    ∃ t : L, t.erase = d ∧ t.val = v ∧ t.cval = v ∧ t.isAgg = false ∧ t.foot = [] ∧ t.rdb = [] ∧ ∀ (P : Program) (w : World), t.Ok P w := by
  unfold constD at h
  split at h
  · split at h
    · rename_i k n hk; cases h; exact ⟨.nd (.int k n) [], rfl, rfl, rfl, rfl, rfl, rfl, fun _ _ => ⟨⟨rfl, hk⟩, trivial⟩⟩
    · cases h
  · rename_i b; cases h; exact ⟨.nd (.bool b) [], rfl, rfl, rfl, rfl, rfl, rfl, fun _ _ => ⟨rfl, trivial⟩⟩
  · split at h
    · rename_i s hs; cases h; exact ⟨.nd (.str s) [], rfl, rfl, rfl, rfl, rfl, rfl, fun _ _ => ⟨⟨rfl, hs⟩, trivial⟩⟩
    · cases h
  · cases h; exact ⟨.nd (.row true e (none, 0)) [], rfl, rfl, rfl, rfl, rfl, rfl, fun _ _ => ⟨⟨Nat.le_refl _, by decide, by simp, rfl, rfl⟩, trivial⟩⟩
  · cases h
theorem cells_noAgg {α : Type} {t : Tr α} (h : t.isAgg = false) : t.cells = [t] := by
  obtain ⟨h1, c1⟩ := t
  cases h1 <;> first | (simp [Tr.isAgg] at h; done) | rfl

def zeroB (P : Program) (e : TypeId) (z : D) : Bool := match (P.info? e).bind (·.zero) with
  | some (.agg vs) => (match z with
    | .nd .agg cs => all2 constB vs.toList cs && cs.length == szOf P e
    | _ => false)
  | some v => constB v z && szOf P e == 1
  | none => false
theorem zeros_spec : ∀ {vs : List Value} {cs : List D}, all2 constB vs cs = true → ∃ ts : List L, ts.map Tr.erase = cs ∧ ts.map Tr.cval = vs ∧ ∀ t ∈ ts, t.isAgg = false ∧ t.foot = [] ∧ t.rdb = [] ∧ ∀ (P : Program) (w : World), t.Ok P w
  | [], [], _ => ⟨[], rfl, rfl, by simp⟩
  | [], _ :: _, h => by cases h
  | _ :: _, [], h => by cases h
  | v :: vs, c :: cs, h => by
    simp only [all2, Bool.and_eq_true] at h
    obtain ⟨e, he⟩ := constB_spec h.1
    obtain ⟨t, h1, _, h3, h4, h5, h6, h7⟩ := constD_all he
    obtain ⟨ts, g1, g2, g3⟩ := zeros_spec h.2
    refine ⟨t :: ts, by simp [h1, g1], by simp [h3, g2], fun u hu => ?_⟩
    rcases List.mem_cons.1 hu with rfl | hu
    · exact ⟨h4, h5, h6, h7⟩
    · exact g3 u hu
theorem zeroB_spec {e : TypeId} {z : D} (h : zeroB P e z = true) : zeroOk P e z := by
  unfold zeroB at h
  split at h
  · rename_i vs hv
    split at h
    · rename_i cs
      simp only [Bool.and_eq_true, beq_iff_eq] at h
      obtain ⟨ts, g1, g2, g3⟩ := zeros_spec h.1
      refine ⟨.nd .agg ts, by simp [Tr.erase, Hd.erase, Tr.erases_map, g1], by rw [hv]; simp [Tr.val, g2], ?_, ?_, ?_, fun w => ?_⟩
      · rw [foot_nd]; simp only [Hd.own, List.nil_append, List.flatMap_eq_nil_iff]; exact fun t ht => (g3 t ht).2.1
      · rw [rdb_nd]; simp only [Hd.rdb, List.nil_append, List.flatMap_eq_nil_iff]; exact fun t ht => (g3 t ht).2.2.1
      · simp only [Tr.cells]; rw [← h.2, ← g1]; simp
      · simp only [Tr.Ok, Tr.Oks_iff]; exact ⟨fun t ht => (g3 t ht).1, fun t ht => (g3 t ht).2.2.2 P w⟩
    · cases h
  · rename_i v hna hv
    simp only [Bool.and_eq_true, beq_iff_eq] at h
    obtain ⟨e', he⟩ := constB_spec h.1
    obtain ⟨t, h1, h2, h3, h4, h5, h6, h7⟩ := constD_all he
    exact ⟨t, h1, by rw [hv, h2], h5, h6, by rw [cells_noAgg h4, h.2]; rfl, fun w => h7 P w⟩
  · cases h

def isBoolD : Option TypeDesc → Bool | some .bool => true | _ => false
theorem isBoolD_spec {u : Option TypeDesc} (h : isBoolD u = true) : u = some .bool := by unfold isBoolD at h; split at h <;> first | rfl | cases h
def isStrD : Option TypeDesc → Bool | some .string => true | _ => false
def isSlD (e : TypeId) : Option TypeDesc → Bool | some (.slice e') => e' == e | _ => false
def isKD (k : IntKind) : Option TypeDesc → Bool | some (.int k') => k' == k | _ => false
def anySlD : Option TypeDesc → Bool | some (.slice _) => true | _ => false
def fldsD : Option TypeDesc → Option (Array Field) | some (.struct fs) => some fs | _ => none
theorem isStrD_spec {u : Option TypeDesc} (h : isStrD u = true) : u = some .string := by unfold isStrD at h; split at h <;> first | rfl | cases h
theorem isSlD_spec {u : Option TypeDesc} {e : TypeId} (h : isSlD e u = true) : u = some (.slice e) := by unfold isSlD at h; split at h <;> first | (simp at h; rw [h]) | cases h
theorem isKD_spec {u : Option TypeDesc} {k : IntKind} (h : isKD k u = true) : u = some (.int k) := by unfold isKD at h; split at h <;> first | (simp at h; rw [h]) | cases h
theorem anySlD_spec {u : Option TypeDesc} (h : anySlD u = true) : ∃ e, u = some (.slice e) := by unfold anySlD at h; split at h <;> first | exact ⟨_, rfl⟩ | cases h
theorem fldsD_spec {u : Option TypeDesc} {fs : Array Field} (h : fldsD u = some fs) : u = some (.struct fs) := by unfold fldsD at h; split at h <;> first | (cases h; rfl) | cases h

def optB : Option Operand → Option Opd → Bool
  | none, none => true
  | some x, some y => opdB x y
  | _, _ => false
theorem optB_spec {x : Option Operand} {y : Option Opd} (h : optB x y = true) : optOpd x y := by
  cases x <;> cases y <;> first | trivial | (cases h; done) | exact opdB_spec h
def partB (sz : Nat) (p : Nat × Operand) (q : Nat × Nat × Opd) : Bool := p.1 == q.1 && q.2.1 == sz && opdB p.2 q.2.2
def fldB (P : Program) (fs : Array Field) (zl : Nat) (p : Nat × Operand) (q : Nat × Nat × Opd) : Bool := (match fs[p.1]? with
  | some f => f.offset == q.1 && szOf P f.type == q.2.1
  | none => false) && opdB p.2 q.2.2 && decide (q.1 + q.2.1 ≤ zl)

/-- built-in functions -/
def biB (P : Program) (m : MO) (b : Builtin) (args : List Operand) (ts : List TypeId) : Bool := match m, b, args, ts with
  | .pure .lenS [ox], .len, [x], [t] => opdB x ox && isStrD (P.underlying t)
  | .pure .lenR [ox], .len, [x], [t] => opdB x ox && anySlD (P.underlying t)
  | .pure .mx [ox, oy], .max, [x, y], _ => opdB x ox && opdB y oy
  | .pure .mn [ox, oy], .min, [x, y], _ => opdB x ox && opdB y oy
  | .app e bytes sb ox oy, .append, [x, y], [t1, t2] => opdB x ox && opdB y oy && isSlD e (P.underlying t1) && (match P.underlying t2 with
      | some u => !isIntD u
      | none => false) && szOf P e != 0 && (match P.info? e with
      | some i => i.bytes == bytes && decide (0 < i.bytes) && (match i.zero with
        | some z => z.cells.size == szOf P e
        | none => false)
      | none => false) && (!sb || szOf P e == 1)
  | _, _, _, _ => false
def opB (P : Program) (known : FuncId → Bool) (m : MO) (o : Op) : Bool := match m, o with
  | .pure (.bin op) [ox, oy], .binOp op' _ x y _ => op == op' && opdB x ox && opdB y oy
  | .pure .not [ox], .unOp .not _ x => opdB x ox
  | .pure .neg [ox], .unOp .neg _ x => opdB x ox
  | .pure (.cv k) [ox], .convert s t x => opdB x ox && (P.underlying s).isSome && isKD k (P.underlying t)
  | .pure .ix [ox, oy], .index t x y => opdB x ox && opdB y oy && isStrD (P.underlying t)
  | .mv ox, .move x => opdB x ox
  | .mv ox, .assign x => opdB x ox
  | .asg ox, .move x => opdB x ox
  | .asg ox, .assign x => opdB x ox
  | .pick oc ox oy, .pick c x y => opdB c oc && opdB x ox && opdB y oy
  | .alloc t z, .alloc t' => t == t' && zeroB P t z
  | .box t ox, .box t' x => t == t' && opdB x ox
  | .ld ag m ox, .load t x => opdB x ox && (match P.underlying t with
      | some u => aggOf u == ag
      | none => false) && szOf P t == m && m != 0
  | .ldt m ox, .load t x => opdB x ox && (match P.underlying t with
      | some u => aggOf u
      | none => false) && szOf P t == m && m != 0
  | .pure (.eqB ng) [ox, oy], .binOp op' xt x y _ => op' == (bif ng then .neq else .eql) && opdB x ox && opdB y oy && isBoolD (P.underlying xt)
  | .st m oa ov, .store t x y => opdB x oa && opdB y ov && szOf P t == m && m != 0
  | .mks e z b ol oc, .makeSlice st l c => opdB l ol && opdB c oc && isSlD e (P.underlying st) && zeroB P e z && szOf P e != 0 && (match P.info? e with
      | some i => i.bytes == b && decide (0 < i.bytes)
      | none => false)
  | .slR e ox ol oh, .slice st x lo hi none => opdB x ox && optB lo ol && optB hi oh && isSlD e (P.underlying st) && szOf P e != 0
  | .fa ox off, .fieldAddr st x fi => opdB x ox && (match fldsD (P.underlying st) with
      | some fs => (match fs[fi]? with
        | some f => f.offset == off && szOf P f.type != 0
        | none => false)
      | none => false)
  | .ia e ox oi, .indexAddr st x i => opdB x ox && opdB i oi && isSlD e (P.underlying st) && szOf P e != 0
  | .ext ox i, .extract x i' => i == i' && opdB x ox
  | .bsl e z len ps, .buildSlice st len' parts => len == len' && isSlD e (P.underlying st) && zeroB P e z && szOf P e != 0 && decide (len * szOf P e ≤ 2 ^ 24) && all2 (partB (szOf P e)) parts.toList ps && (ps.all fun q => decide (q.1 < len)) && nodupB (ps.map (·.1))
  | .build z ps, .build t parts => (match fldsD (P.underlying t) with
      | some fs => zeroB P t (.nd .agg z) && (fs.all fun f => (P.info? f.type).isSome) && all2 (fldB P fs z.length) parts.toList ps
      | none => false)
  | .call f os, .call { callee := .value (.func f'), args := args, .. } => f == f' && known f && all2 opdB args.toList os
  | m, .call { callee := .builtin b, args := args, argTypes := ts } => biB P m b args.toList ts.toList
  | _, _ => false
end Go.VC
end

section
set_option linter.unusedVariables false
set_option linter.unusedSimpArgs false
namespace Go.VC
variable {P : Program} {n : Nat} {lent : List Nat} {o : Oper} {C : Con}

def SndC (P : Program) (n : Nat) (lent : List Nat) (C : Con) (m : MO) (d : Option Nat) (o : Oper) : Prop :=
  ∀ (w0 : World) (τ : St Phys) (a : Act) (w : World) (F : MEff) (K : Act → World → Prop) (Q : Exit → Act → World → Prop), Inv P n lent w0 τ a w → effC C m d (St.erase τ) = some F → F.pre →
    (∀ ws τ' a' w', F.ch ws → St.erase τ' = puts ws (St.erase τ) → Inv P n lent w0 τ' a' w' → K a' w') → o.wp P a w K Q
theorem SndC.of {m : MO} {d : Option Nat} (hm : ∀ f xs, m ≠ .call f xs) (h : Snd P n lent o (fun σ => m.eff d σ)) : SndC P n lent C m d o := by
  intro w0 τ a w F K Q hi hF hp hk
  rw [effC_op hm] at hF
  cases he : m.eff d (St.erase τ) with
  | none => rw [he] at hF; cases hF
  | some E =>
    rw [he] at hF
    cases hF
    exact h w0 τ a w E K Q hi he hp (fun τ' a' w' e hi' => hk E.ws τ' a' w' rfl e hi')

theorem parts_spec {sz : Nat} : ∀ {parts : List (Nat × Operand)} {ps : List (Nat × Nat × Opd)}, all2 (partB sz) parts ps = true → ∃ xs : List (Nat × Nat × TypeId × Operand), xs.map (fun x => (opd x.2.2.1 x.2.2.2).map fun y => (x.1, x.2.1, y)) = ps.map some ∧ parts = xs.map (fun x => (x.1, x.2.2.2)) ∧
    (∀ x ∈ xs, x.2.1 = sz) ∧ xs.map (·.1) = ps.map (·.1)
  | [], [], _ => ⟨[], rfl, rfl, by simp, rfl⟩
  | [], _ :: _, h => by cases h
  | _ :: _, [], h => by cases h
  | p :: parts, q :: ps, h => by
    simp only [all2, partB, Bool.and_eq_true, beq_iff_eq] at h
    obtain ⟨⟨⟨h1, h2⟩, h3⟩, h4⟩ := h
    obtain ⟨e, he⟩ := opdB_spec h3
    obtain ⟨xs, g1, g2, g3, g4⟩ := parts_spec h4
    obtain ⟨p1, p2⟩ := p
    obtain ⟨q1, q2, q3⟩ := q
    simp only at h1 h2 he
    subst h1 h2
    refine ⟨(p1, q2, e, p2) :: xs, by simp [he, g1], by simp [g2], fun x hx => ?_, by simp [g4]⟩
    rcases List.mem_cons.1 hx with rfl | hx
    · rfl
    · exact g3 x hx
theorem flds_spec {fs : Array Field} {zl : Nat} : ∀ {parts : List (Nat × Operand)} {ps : List (Nat × Nat × Opd)}, all2 (fldB P fs zl) parts ps = true → ∃ xs : List (Nat × Nat × TypeId × Operand), xs.map (fun x => (opd x.2.2.1 x.2.2.2).map fun y => (x.1, x.2.1, y)) = ps.map some ∧ parts.map (·.2) = xs.map (fun x => x.2.2.2) ∧
    parts.map (fun p => (fs[p.1]?).map fun f => (f.offset, szOf P f.type)) = xs.map (fun x => some (x.1, x.2.1)) ∧ ∀ x ∈ xs, x.1 + x.2.1 ≤ zl
  | [], [], _ => ⟨[], rfl, rfl, rfl, by simp⟩
  | [], _ :: _, h => by cases h
  | _ :: _, [], h => by cases h
  | p :: parts, q :: ps, h => by
    simp only [all2, fldB, Bool.and_eq_true, decide_eq_true_eq] at h
    obtain ⟨⟨⟨h1, h2⟩, h3⟩, h4⟩ := h
    obtain ⟨e, he⟩ := opdB_spec h2
    obtain ⟨xs, g1, g2, g3, g4⟩ := flds_spec h4
    obtain ⟨p1, p2⟩ := p
    obtain ⟨q1, q2, q3⟩ := q
    simp only at h1 he h3
    cases hf : fs[p1]? with
    | none => rw [hf] at h1; cases h1
    | some f =>
      rw [hf] at h1
      simp only [Bool.and_eq_true, beq_iff_eq] at h1
      obtain ⟨rfl, rfl⟩ := h1
      refine ⟨(f.offset, szOf P f.type, e, p2) :: xs, by simp [he, g1], by simp [g2], by simp [g3, hf], fun x hx => ?_⟩
      rcases List.mem_cons.1 hx with rfl | hx
      · exact h3
      · exact g4 x hx

theorem biB_sound {m : MO} {b : Builtin} {args : Array Operand} {ts : Array TypeId} {d : Option Nat} (hd : o.dst = d) (hn : ∀ s, d = some s → s < n) (ho : o.op = .call { callee := .builtin b, args := args, argTypes := ts }) (h : biB P m b args.toList ts.toList = true) (hsome : d.isSome = true) :
    SndC P n lent C m d o := by
  obtain ⟨s, rfl⟩ := Option.isSome_iff_exists.1 hsome
  have hs := hn s rfl
  obtain ⟨al⟩ := args
  obtain ⟨tl⟩ := ts
  simp only at h
  unfold biB at h
  split at h
  · simp only [Bool.and_eq_true] at h
    obtain ⟨e1, h1⟩ := opdB_spec h.1
    exact SndC.of (by intros; simp) (snd_lenS hd hs ho (isStrD_spec h.2) h1)
  · simp only [Bool.and_eq_true] at h
    obtain ⟨e1, h1⟩ := opdB_spec h.1
    obtain ⟨e, he⟩ := anySlD_spec h.2
    exact SndC.of (by intros; simp) (snd_lenR hd hs ho he h1)
  · simp only [Bool.and_eq_true] at h
    obtain ⟨e1, h1⟩ := opdB_spec h.1
    obtain ⟨e2, h2⟩ := opdB_spec h.2
    exact SndC.of (by intros; simp) (snd_mx hd hs ho h1 h2)
  · simp only [Bool.and_eq_true] at h
    obtain ⟨e1, h1⟩ := opdB_spec h.1
    obtain ⟨e2, h2⟩ := opdB_spec h.2
    exact SndC.of (by intros; simp) (snd_mn hd hs ho h1 h2)
  · simp only [Bool.and_eq_true, bne_iff_ne, ne_eq] at h
    obtain ⟨⟨⟨⟨⟨⟨h1, h2⟩, h3⟩, h4⟩, h5⟩, h6⟩, h7⟩ := h
    obtain ⟨e1, h1⟩ := opdB_spec h1
    obtain ⟨e2, h2⟩ := opdB_spec h2
    split at h4
    · rename_i u hu
      split at h6
      · rename_i i hi
        simp only [Bool.and_eq_true, beq_iff_eq, decide_eq_true_eq] at h6
        obtain ⟨⟨rfl, h8⟩, h9⟩ := h6
        split at h9
        · rename_i z hz
          simp only [beq_iff_eq] at h9
          refine SndC.of (by intros; simp) (snd_appA hd hs ho (isSlD_spec h3) hu (by simpa using h4) h5 hi hz h9 h8 ?_ h1 h2)
          intro hsb
          rw [hsb] at h7
          simpa using h7
        · cases h9
      · cases h6
    · cases h4
  · cases h
end Go.VC
end

section
set_option linter.unusedVariables false
set_option linter.unusedSimpArgs false
namespace Go.VC
variable {P : Program} {n : Nat} {lent : List Nat} {o : Oper} {C : Con}

theorem opB_call {known : FuncId → Bool} {f : FuncId} {xs : List Opd} {op : Op} (h : opB P known (.call f xs) op = true) : ∃ args ats, op = .call { callee := .value (.func f), args := args, argTypes := ats } ∧ known f = true ∧ all2 opdB args.toList xs = true := by
  cases op with
  | call c =>
    obtain ⟨callee, args, ats⟩ := c
    cases callee with
    | value x =>
      cases x with
      | func g =>
        have h' : (f == g && known f && all2 opdB args.toList xs) = true := h
        simp only [Bool.and_eq_true, beq_iff_eq] at h'
        obtain ⟨⟨rfl, h2⟩, h3⟩ := h'
        exact ⟨args, ats, rfl, h2, h3⟩
      | _ => cases (h : false = true)
    | invoke r m => cases (h : false = true)
    | builtin b => cases (h : false = true)
  | slice t x lo hi mx => cases mx <;> cases (h : false = true)
  | unOp u t x => cases u <;> cases (h : false = true)
  | _ => cases (h : false = true)
theorem opB_st {known : FuncId → Bool} {k : Nat} {oa ov : Opd} {op : Op} (h : opB P known (.st k oa ov) op = true) : ∃ t x y, op = .store t x y ∧ opdB x oa = true ∧ opdB y ov = true ∧ szOf P t = k ∧ szOf P t ≠ 0 := by
  cases op with
  | store t x y =>
    have h' : (opdB x oa && opdB y ov && szOf P t == k && k != 0) = true := h
    simp only [Bool.and_eq_true, beq_iff_eq, bne_iff_ne, ne_eq] at h'
    obtain ⟨⟨⟨h1, h2⟩, rfl⟩, h4⟩ := h'
    exact ⟨t, x, y, rfl, h1, h2, rfl, h4⟩
  | call c =>
    obtain ⟨callee, args, ats⟩ := c
    cases callee with
    | value x => cases x <;> cases (h : false = true)
    | invoke r m => cases (h : false = true)
    | builtin b => cases (h : false = true)
  | slice t x lo hi mx => cases mx <;> cases (h : false = true)
  | unOp u t x => cases u <;> cases (h : false = true)
  | _ => cases (h : false = true)

theorem opB_sound {known : FuncId → Bool} (hC : ∀ f, known f = true → FnOk P f (C f)) {m : MO} {d : Option Nat} (hd : o.dst = d) (hn : ∀ s, d = some s → s < n) (h : opB P known m o.op = true) : SndC P n lent C m d o := by
  by_cases hsome : d.isSome = true
  · obtain ⟨s, rfl⟩ := Option.isSome_iff_exists.1 hsome
    have hs := hn s rfl
    obtain ⟨dst, op, ty, pos, after, guard⟩ := o
    simp only at hd h
    subst hd
    unfold opB at h
    split at h
    · simp only [Bool.and_eq_true, beq_iff_eq] at h
      obtain ⟨⟨rfl, h1⟩, h2⟩ := h
      obtain ⟨e1, h1⟩ := opdB_spec h1
      obtain ⟨e2, h2⟩ := opdB_spec h2
      exact SndC.of (by intros; simp) (snd_bin rfl hs rfl h1 h2)
    · obtain ⟨e1, h1⟩ := opdB_spec h
      exact SndC.of (by intros; simp) (snd_not rfl hs rfl h1)
    · obtain ⟨e1, h1⟩ := opdB_spec h
      exact SndC.of (by intros; simp) (snd_neg rfl hs rfl h1)
    · simp only [Bool.and_eq_true] at h
      obtain ⟨⟨h1, h2⟩, h3⟩ := h
      obtain ⟨e1, h1⟩ := opdB_spec h1
      obtain ⟨u, hu⟩ := Option.isSome_iff_exists.1 h2
      exact SndC.of (by intros; simp) (snd_cv rfl hs rfl hu (isKD_spec h3) h1)
    · simp only [Bool.and_eq_true] at h
      obtain ⟨⟨h1, h2⟩, h3⟩ := h
      obtain ⟨e1, h1⟩ := opdB_spec h1
      obtain ⟨e2, h2⟩ := opdB_spec h2
      exact SndC.of (by intros; simp) (snd_ix rfl hs rfl (isStrD_spec h3) h1 h2)
    · obtain ⟨e1, h1⟩ := opdB_spec h
      exact SndC.of (by intros; simp) (snd_mv rfl hs (.inl rfl) h1)
    · obtain ⟨e1, h1⟩ := opdB_spec h
      exact SndC.of (by intros; simp) (snd_mv rfl hs (.inr rfl) h1)
    · obtain ⟨e1, h1⟩ := opdB_spec h
      exact SndC.of (by intros; simp) (snd_asg rfl hs (.inl rfl) h1)
    · obtain ⟨e1, h1⟩ := opdB_spec h
      exact SndC.of (by intros; simp) (snd_asg rfl hs (.inr rfl) h1)
    · simp only [Bool.and_eq_true] at h
      obtain ⟨⟨h1, h2⟩, h3⟩ := h
      obtain ⟨e1, h1⟩ := opdB_spec h1
      obtain ⟨e2, h2⟩ := opdB_spec h2
      obtain ⟨e3, h3⟩ := opdB_spec h3
      exact SndC.of (by intros; simp) (snd_pick rfl hs rfl h1 h2 h3)
    · simp only [Bool.and_eq_true, beq_iff_eq] at h
      obtain ⟨rfl, h2⟩ := h
      exact SndC.of (by intros; simp) (snd_alloc rfl hs rfl (zeroB_spec h2))
    · simp only [Bool.and_eq_true, beq_iff_eq] at h
      obtain ⟨rfl, h2⟩ := h
      obtain ⟨e1, h1⟩ := opdB_spec h2
      exact SndC.of (by intros; simp) (snd_box rfl hs rfl h1)
    · simp only [Bool.and_eq_true, beq_iff_eq, bne_iff_ne, ne_eq] at h
      obtain ⟨⟨⟨h1, h2⟩, rfl⟩, h4⟩ := h
      obtain ⟨e1, h1⟩ := opdB_spec h1
      split at h2
      · rename_i u hu
        simp only [beq_iff_eq] at h2
        subst h2
        exact SndC.of (by intros; simp) (snd_ldE rfl hs rfl hu h4 h1)
      · cases h2
    · simp only [Bool.and_eq_true, beq_iff_eq, bne_iff_ne, ne_eq] at h
      obtain ⟨⟨⟨h1, h2⟩, rfl⟩, h4⟩ := h
      obtain ⟨e1, h1⟩ := opdB_spec h1
      split at h2
      · rename_i u hu
        exact SndC.of (by intros; simp) (snd_ldt rfl hs rfl hu h2 h4 h1)
      · cases h2
    · simp only [Bool.and_eq_true, beq_iff_eq] at h
      obtain ⟨⟨⟨rfl, h1⟩, h2⟩, h3⟩ := h
      obtain ⟨e1, h1⟩ := opdB_spec h1
      obtain ⟨e2, h2⟩ := opdB_spec h2
      exact SndC.of (by intros; simp) (snd_eqB rfl hs rfl (isBoolD_spec h3) h1 h2)
    · -- a store has no destination
      intro w0 τ a w F K Q hi hF hp hk
      simp only [effC, MO.eff, effE] at hF
      cases hF
    · simp only [Bool.and_eq_true, bne_iff_ne, ne_eq] at h
      obtain ⟨⟨⟨⟨⟨h1, h2⟩, h3⟩, h4⟩, h5⟩, h6⟩ := h
      obtain ⟨e1, h1⟩ := opdB_spec h1
      obtain ⟨e2, h2⟩ := opdB_spec h2
      split at h6
      · rename_i i hi
        simp only [Bool.and_eq_true, beq_iff_eq, decide_eq_true_eq] at h6
        obtain ⟨rfl, h7⟩ := h6
        exact SndC.of (by intros; simp) (snd_mks rfl hs rfl (isSlD_spec h3) (zeroB_spec h4) h5 hi h7 h1 h2)
      · cases h6
    · simp only [Bool.and_eq_true, bne_iff_ne, ne_eq] at h
      obtain ⟨⟨⟨⟨h1, h2⟩, h3⟩, h4⟩, h5⟩ := h
      obtain ⟨e1, h1⟩ := opdB_spec h1
      exact SndC.of (by intros; simp) (snd_slR rfl hs rfl (isSlD_spec h4) h5 h1 (optB_spec h2) (optB_spec h3))
    · simp only [Bool.and_eq_true] at h
      obtain ⟨h1, h2⟩ := h
      obtain ⟨e1, h1⟩ := opdB_spec h1
      split at h2
      · rename_i fs hfs
        split at h2
        · rename_i f hf
          simp only [Bool.and_eq_true, beq_iff_eq, bne_iff_ne, ne_eq] at h2
          obtain ⟨rfl, h3⟩ := h2
          exact SndC.of (by intros; simp) (snd_fa rfl hs rfl (fldsD_spec hfs) hf h3 h1)
        · cases h2
      · cases h2
    · simp only [Bool.and_eq_true, bne_iff_ne, ne_eq] at h
      obtain ⟨⟨⟨h1, h2⟩, h3⟩, h4⟩ := h
      obtain ⟨e1, h1⟩ := opdB_spec h1
      obtain ⟨e2, h2⟩ := opdB_spec h2
      exact SndC.of (by intros; simp) (snd_ia rfl hs rfl (isSlD_spec h3) h4 h1 h2)
    · simp only [Bool.and_eq_true, beq_iff_eq] at h
      obtain ⟨rfl, h1⟩ := h
      obtain ⟨e1, h1⟩ := opdB_spec h1
      exact SndC.of (by intros; simp) (snd_ext rfl hs rfl h1)
    · simp only [Bool.and_eq_true, beq_iff_eq, bne_iff_ne, ne_eq, decide_eq_true_eq] at h
      obtain ⟨⟨⟨⟨⟨⟨⟨rfl, h2⟩, h3⟩, h4⟩, h5⟩, h6⟩, h7⟩, h8⟩ := h
      obtain ⟨xs, g1, g2, g3, g4⟩ := parts_spec h6
      refine SndC.of (by intros; simp) (snd_bsl rfl hs rfl (isSlD_spec h2) (zeroB_spec h3) h4 h5 g1 g2 (fun x hx => ⟨?_, g3 x hx⟩) (by rw [g4]; exact nodupB_nodup h8))
      have : x.1 ∈ xs.map (·.1) := List.mem_map.2 ⟨x, hx, rfl⟩
      rw [g4] at this
      obtain ⟨q, hq, e⟩ := List.mem_map.1 this
      have := List.all_eq_true.1 h7 q hq
      rw [← e]; simpa using this
    · split at h
      · rename_i fs hfs
        simp only [Bool.and_eq_true] at h
        obtain ⟨⟨h1, h2⟩, h3⟩ := h
        obtain ⟨xs, g1, g2, g3, g4⟩ := flds_spec h3
        rw [Array.all_eq_true'] at h2
        exact SndC.of (by intros; simp) (snd_build rfl hs rfl (fldsD_spec hfs) h2 (zeroB_spec h1) g1 g2 g3 g4)
      · cases h
    · simp only [Bool.and_eq_true, beq_iff_eq] at h
      obtain ⟨⟨rfl, h2⟩, h3⟩ := h
      obtain ⟨zs, g1, g2⟩ := opdsB_spec h3
      intro w0 τ a w F K Q hi hF hp hk
      simp only [effC] at hF
      unfold callE at hF
      split at hF
      · cases hF
      · rename_i as ss has
        obtain ⟨hok, hF⟩ := bif_some hF
        cases hF
        exact snd_call (hC _ h2) (fun d hd => by cases hd; exact hs) g1 g2 rfl hi has hok hp (fun rs fin τ' a' w' p1 p2 p3 p4 => hk _ τ' a' w' ⟨rs, fin, p1, p2, rfl⟩ p3 p4)
    · exact biB_sound rfl hn rfl h rfl
    · cases h
  · have hnone : d = none := by cases d <;> simp_all
    subst hnone
    obtain ⟨dst, op, ty, pos, after, guard⟩ := o
    simp only at hd h
    subst hd
    by_cases hcall : ∃ f xs, m = .call f xs
    · obtain ⟨f, xs, rfl⟩ := hcall
      obtain ⟨args, ats, rfl, h2, h3⟩ := opB_call h
      obtain ⟨zs, g1, g2⟩ := opdsB_spec h3
      intro w0 τ a w F K Q hi hF hp hk
      simp only [effC] at hF
      unfold callE at hF
      split at hF
      · cases hF
      · rename_i as ss has
        obtain ⟨hok, hF⟩ := bif_some hF
        cases hF
        exact snd_call (hC _ h2) (fun d hd => by cases hd) g1 g2 rfl hi has hok hp (fun rs fin τ' a' w' p1 p2 p3 p4 => hk _ τ' a' w' ⟨rs, fin, p1, p2, rfl⟩ p3 p4)
    · by_cases hst : ∃ k oa ov, m = .st k oa ov
      · obtain ⟨k, oa, ov, rfl⟩ := hst
        obtain ⟨t, x, y, rfl, h1, h2, rfl, h4⟩ := opB_st h
        obtain ⟨e1, h1⟩ := opdB_spec h1
        obtain ⟨e2, h2⟩ := opdB_spec h2
        exact SndC.of (by intros; simp) (snd_st rfl rfl h4 h1 h2)
      · intro w0 τ a w F K Q hi hF hp hk
        exfalso
        rw [effC_op (fun f xs e => hcall ⟨f, xs, e⟩)] at hF
        have : m.eff none (St.erase τ) = none := by
          cases m <;> first | rfl | exact absurd ⟨_, _, _, rfl⟩ hst
        rw [this] at hF; cases hF
end Go.VC
end

section
set_option linter.unusedVariables false
set_option linter.unusedSimpArgs false
namespace Go.VC
variable {P : Program} {n : Nat} {lent : List Nat} {C : Con}

def guardB (os : Array Oper) (m : MOp) (o : Oper) : Bool := match m.g, o.guard with
  | none, none => true
  | some (s, b), some (j, b') => b == b' && (match os[j]? with
    | some o' => o'.dst == some s
    | none => false)
  | _, _ => false
def dstB (n : Nat) (ps : List Nat) : Option Nat → Bool
  | some d => decide (d < n) && !ps.contains d
  | none => true
def mopB (P : Program) (known : FuncId → Bool) (n : Nat) (ps : List Nat) (os : Array Oper) (m : MOp) (o : Oper) : Bool :=
  o.dst == m.d && dstB n ps m.d && guardB os m o && opB P known m.op o.op
def cmB (P : Program) (known : FuncId → Bool) (mix : Bool) (n : Nat) (ps : List Nat) : MC → Code → Bool
  | .sk, .skip => true
  | .rg ms, .region _ ops false => all2 (mopB P known n ps ops) ms ops.toList
  | .dr m ms q, .region _ ops true => mix && drawA q m ms ops && all2 (mopB P known n ps ops) ms ops.toList
  | .sq a b, .seq x y => cmB P known mix n ps a x && cmB P known mix n ps b y
  | .cd x a b, .cond c y z => opdB c x && cmB P known mix n ps a y && cmB P known mix n ps b z
  | .bl i a, .block j x => i == j && cmB P known mix n ps a x
  | .lp a, .loop x => cmB P known mix n ps a x
  | .ex i, .exit j => i == j
  | .rt, .ret => true
  | _, _ => false

theorem mopB_sound {known : FuncId → Bool} (hC : ∀ f, known f = true → FnOk P f (C f)) {ps : List Nat} {os : Array Oper} {m : MOp} {o : Oper} (h : mopB P known n ps os m o = true) {pins : Pins} (hp : ∀ p ∈ pins, p.1 ∈ ps) :
    SndOp P n lent C m os o ∧ ∀ p ∈ pins, m.d ≠ some p.1 := by
  simp only [mopB, Bool.and_eq_true, beq_iff_eq] at h
  obtain ⟨⟨⟨h1, h2⟩, h3⟩, h4⟩ := h
  have hlt : ∀ d, m.d = some d → d < n ∧ d ∉ ps := by
    intro d hd
    rw [hd] at h2
    simpa [dstB] using h2
  refine ⟨⟨h1, fun d hd => (hlt d hd).1, ?_, opB_sound hC h1 (fun d hd => (hlt d hd).1) h4⟩, fun p hpm e => (hlt p.1 e).2 (hp p hpm)⟩
  unfold guardB at h3
  split at h3
  · rename_i e1 e2; rw [e1, e2]; trivial
  · rename_i s b j b' e1 e2
    rw [e1, e2]
    simp only [Bool.and_eq_true, beq_iff_eq] at h3
    obtain ⟨rfl, h5⟩ := h3
    refine ⟨rfl, ?_⟩
    split at h5
    · rename_i o' ho; rw [ho]; simpa using h5
    · cases h5
  · cases h3
theorem mops_sound {known : FuncId → Bool} (hC : ∀ f, known f = true → FnOk P f (C f)) {ps : List Nat} {ops : Array Oper} {pins : Pins} (hp : ∀ p ∈ pins, p.1 ∈ ps) : ∀ {ms : List MOp} {os : List Oper}, all2 (mopB P known n ps ops) ms os = true → MOs P n lent C ops pins ms os
  | [], [], _ => trivial
  | [], _ :: _, h => by cases h
  | _ :: _, [], h => by cases h
  | m :: ms, o :: os, h => by
    simp only [all2, Bool.and_eq_true] at h
    exact ⟨mopB_sound hC h.1 hp, mops_sound hC hp h.2⟩

theorem cmB_sound {known : FuncId → Bool} (hC : ∀ f, known f = true → FnOk P f (C f)) {mix : Bool} (hmix : mix = true → P.follows .mixedOrders = true) {ps : List Nat} {pins : Pins} (hp : ∀ p ∈ pins, p.1 ∈ ps) :
    ∀ (m : MC) (c : Code), cmB P known mix n ps m c = true → CM P n lent C pins m c := by
  intro m
  induction m with
  | sk => intro c h; cases c <;> first | trivial | cases h
  | rt => intro c h; cases c <;> first | trivial | cases h
  | ex i => intro c h; cases c <;> first | (cases h; done) | skip
            simpa [cmB, CM] using h
  | rg ms =>
    intro c h
    cases c <;> first | (cases h; done) | skip
    rename_i id ops dr
    cases dr with
    | true => cases h
    | false => exact mops_sound hC hp h
  | dr m ms q =>
    intro c h
    cases c <;> first | (cases h; done) | skip
    rename_i id ops dr
    cases dr with
    | false => cases h
    | true =>
      simp only [cmB, Bool.and_eq_true] at h
      exact ⟨hmix h.1.1, h.1.2, mops_sound hC hp h.2⟩
  | sq a b iha ihb =>
    intro c h
    cases c <;> first | (cases h; done) | skip
    simp only [cmB, Bool.and_eq_true] at h
    exact ⟨iha _ h.1, ihb _ h.2⟩
  | cd x a b iha ihb =>
    intro c h
    cases c <;> first | (cases h; done) | skip
    simp only [cmB, Bool.and_eq_true] at h
    exact ⟨opdB_spec h.1.1, iha _ h.1.2, ihb _ h.2⟩
  | bl i a ih =>
    intro c h
    cases c <;> first | (cases h; done) | skip
    simp only [cmB, Bool.and_eq_true, beq_iff_eq] at h
    exact ⟨h.1, ih _ h.2⟩
  | lp a ih =>
    intro c h
    cases c <;> first | (cases h; done) | skip
    exact ih _ h

def rvB (P : Program) : ResultVar → RV → Bool
  | .tmp t, .tm t' => t == t'
  | .cell a ty, .ce a' ag m => a == a' && (match P.underlying ty with
    | some u => aggOf u == ag
    | none => false) && szOf P ty == m && m != 0
  | _, _ => false
theorem rvsB_sound : ∀ {xs : List ResultVar} {ys : List RV}, all2 (rvB P) xs ys = true → RVs P xs ys
  | [], [], _ => trivial
  | [], _ :: _, h => by cases h
  | _ :: _, [], h => by cases h
  | x :: xs, y :: ys, h => by
    simp only [all2, Bool.and_eq_true] at h
    have ih := rvsB_sound h.2
    have h := h.1
    unfold rvB at h
    split at h
    · simp only [beq_iff_eq] at h; exact ⟨h, ih⟩
    · simp only [Bool.and_eq_true, beq_iff_eq, bne_iff_ne, ne_eq] at h
      obtain ⟨⟨⟨h1, h2⟩, h3⟩, h4⟩ := h
      split at h2
      · rename_i u hu
        exact ⟨⟨h1, ⟨u, hu, by simpa using h2⟩, h3, h4⟩, ih⟩
      · cases h2
    · cases h
structure FD where
  m : MC
  rvs : List RV
  ps : List Nat
  np : Nat
def fnB (P : Program) (known : FuncId → Bool) (mix : Bool) (fn : Func) (fd : FD) : Bool :=
  (match fn.body with
  | some c => cmB P known mix fn.ntmps fd.ps fd.m c
  | none => false) && !(fn.name == "runtime.NumGoroutine") && all2 (rvB P) fn.results.toList fd.rvs && nodupB (fd.rvs.map RV.slot ++ fd.ps) && decide (fd.np ≤ fn.ntmps)

/-- a function does what is said of it -/
theorem fn_ok {f : FuncId} {fn : Func} {fd : FD} {known : FuncId → Bool} {mix : Bool} {S : List D → Spec} (hf : P.funcs[f]? = some fn) (hB : fnB P known mix fn fd = true) (hmix : mix = true → P.follows .mixedOrders = true)
    (hC : ∀ g, known g = true → FnOk P g (C g)) (hS : ∀ ds, (S ds).pre → ds.length = fd.np ∧ ∀ i ∈ boxIx 0 ds, i ∈ fd.ps)
    (hrun : ∀ ds, (S ds).pre → Tr.factsL ds → Run C (PostK (S ds) fd.rvs (boxIx 0 ds)) [.code fd.m] (initL 0 ds)) : FnOk P f S := by
  simp only [fnB, Bool.and_eq_true, Bool.not_eq_true', decide_eq_true_eq] at hB
  obtain ⟨⟨⟨⟨h1, h2⟩, h3⟩, h4⟩, h5⟩ := hB
  split at h1
  · rename_i c hc
    exact fnOk hf h2 hc (rvsB_sound h3) h4 h5 (fun lent pins hp => cmB_sound hC hmix hp fd.m c h1) hS hrun
  · cases h1
end Go.VC
end

section
set_option linter.unusedVariables false
set_option linter.unusedSimpArgs false
namespace Go.VC
def andI (k : IntKind) (a b : Int) : Int := k.wrap (BitVec.ofInt k.bits a &&& BitVec.ofInt k.bits b).toNat
def orI (k : IntKind) (a b : Int) : Int := k.wrap (BitVec.ofInt k.bits a ||| BitVec.ofInt k.bits b).toNat
def xorI (k : IntKind) (a b : Int) : Int := k.wrap (BitVec.ofInt k.bits a ^^^ BitVec.ofInt k.bits b).toNat
def andNotI (k : IntKind) (a b : Int) : Int := k.wrap (BitVec.ofInt k.bits a &&& ~~~BitVec.ofInt k.bits b).toNat
def shlI (k : IntKind) (a b : Int) : Int := k.wrap (a * 2 ^ (min b.toNat k.bits))
def shrI (k : IntKind) (a b : Int) : Int := a.fdiv (2 ^ (min b.toNat k.bits))
section
variable {k : IntKind} {a b : Int}
@[simp] theorem bi_add : binInt .add k a b = some (True, dInt k (k.wrap (a + b))) := rfl
@[simp] theorem bi_sub : binInt .sub k a b = some (True, dInt k (k.wrap (a - b))) := rfl
@[simp] theorem bi_mul : binInt .mul k a b = some (True, dInt k (k.wrap (a * b))) := rfl
@[simp] theorem bi_quo : binInt .quo k a b = some (b ≠ 0, dInt k (k.wrap (a.tdiv b))) := rfl
@[simp] theorem bi_rem : binInt .rem k a b = some (b ≠ 0, dInt k (a.tmod b)) := rfl
@[simp] theorem bi_and : binInt .and k a b = some (True, dInt k (andI k a b)) := rfl
@[simp] theorem bi_or : binInt .or k a b = some (True, dInt k (orI k a b)) := rfl
@[simp] theorem bi_xor : binInt .xor k a b = some (True, dInt k (xorI k a b)) := rfl
@[simp] theorem bi_andNot : binInt .andNot k a b = some (True, dInt k (andNotI k a b)) := rfl
@[simp] theorem bi_eql : binInt .eql k a b = some (True, dBool (decide (a = b))) := rfl
@[simp] theorem bi_neq : binInt .neq k a b = some (True, dBool (!decide (a = b))) := rfl
@[simp] theorem bi_lss : binInt .lss k a b = some (True, dBool (a < b)) := rfl
@[simp] theorem bi_leq : binInt .leq k a b = some (True, dBool (a ≤ b)) := rfl
@[simp] theorem bi_gtr : binInt .gtr k a b = some (True, dBool (b < a)) := rfl
@[simp] theorem bi_geq : binInt .geq k a b = some (True, dBool (b ≤ a)) := rfl
@[simp] theorem si_shl : shInt .shl k a b = some (0 ≤ b, dInt k (shlI k a b)) := rfl
@[simp] theorem si_shr : shInt .shr k a b = some (0 ≤ b, dInt k (shrI k a b)) := rfl
end
attribute [simp] run_nil run_goal run_blk run_sk run_sq run_bl run_ex run_rt run_cd run_lp run_rg run_dr run_ops0 runN_g runD_gF gN gD run_call rund_callF
attribute [simp] run_pure run_mv run_asg run_pick run_alloc run_box run_build run_bsl run_ld run_ldt run_st run_mks run_slR run_fa run_ia run_ext run_app effK_some effK_none
attribute [simp] rund_pureF rund_mvF rund_asgF rund_pickF rund_allocF rund_boxF rund_buildF rund_bslF rund_ldF rund_ldtF rund_stF rund_mksF rund_slRF rund_faF rund_iaF rund_extF rund_appF effD_some effD_none
attribute [simp] view_t view_c mkView MO.eff View.rd View.tree get getA_nil getA_cons chkR memB fresh ret1 refTo tkOwn tkRef tkSub tk tkRow tkPath apart apS tkA adOwn adRef adPtr lookO addr rwOwn rwRef rwSub rowAt movOwn movTup movEff asgOwn asgRef asgSub asgEff plainIf plainOf pick2 pickK pickEff frzK ldB ldT ldE ldtB ldtK ldAgg ldCell ldCellO ldK stTree stK intOf bound slV slO slS slK rwLen iaK extP extK extEff appSrcT appSrcP appSrc byteD appK tkCons tkAll fillAgg fillRow buildK bslK boxK faK mksK okKeys keys nodupB
attribute [simp] isUndef setL putL pureK rdAll pureEff pureRes det isShift argOf agPlain agRd agOwn agRef argCons argsOf lentOf backW dstW skipW skipL okCall Tr.roize Tr.roizes Tr.plain Tr.plains Hd.plain Hd.noFn Hd.ownB SV.root? dropTo Tr.cells Tr.kids Tr.hd Tr.look Tr.modify Tr.putCells Tr.isCont putAt callK_none callK_some grd_and neB wsB_none slotsB_none
attribute [simp] runs_call runs_pure runs_mv runs_asg runs_pick runs_alloc runs_box runs_build runs_bsl runs_ld runs_ldt runs_st runs_mks runs_slR runs_fa runs_ia runs_ext runs_app effS_some effS_none oneB wsB_st runS_g gS rootB rootsA
attribute [simp] slots0 wsQ slotsB wsB DrI.slot DrI.rel DrI.before DrI.root rootOk rootsB MOp.slots MO.opds View.slots
attribute [simp] condK_true condK_false gTN_tt gTN_tf gTN_ft gTN_ff gTD_tt gTD_tf gTD_ft gTD_ff gTS_tt gTS_tf gTS_ft gTS_ff PostK resOf finOf consO RV.get resT resC ceK boxT boxIx initL Tr.isBox Tr.isAgg Tr.noRd Tr.noRds Tr.facts Tr.factsL RV.slot
end Go.VC
end

section
set_option linter.unusedVariables false
set_option linter.unusedSimpArgs false
namespace Go.VC
/-! ### contracts by name -/
abbrev Kn := List (FuncId × (List D → Spec))
def noSpec : List D → Spec := fun _ => ⟨False, fun _ _ => False⟩
def conOf (K : Kn) : Con := fun f => match K.lookup f with
  | some S => S
  | none => noSpec
def knownOf (K : Kn) (f : FuncId) : Bool := (K.lookup f).isSome
def AllOk (P : Program) (K : Kn) : Prop := ∀ f S, (f, S) ∈ K → FnOk P f S
theorem AllOk.con {P : Program} {K : Kn} (h : AllOk P K) : ∀ g, knownOf K g = true → FnOk P g (conOf K g) := by
  intro g hg
  unfold knownOf at hg
  unfold conOf
  cases hl : K.lookup g with
  | none => rw [hl] at hg; cases hg
  | some S =>
    refine h g S ?_
    clear hg h
    induction K with
    | nil => simp at hl
    | cons x l ih =>
      obtain ⟨a, b⟩ := x
      simp only [List.lookup_cons] at hl
      cases hsa : (g == a) with
      | true => have : g = a := by simpa using hsa
                subst this; rw [hsa] at hl; simp at hl; simp [hl]
      | false => rw [hsa] at hl; exact List.mem_cons_of_mem _ (ih hl)
theorem AllOk.nil {P : Program} : AllOk P [] := by intro f S h; cases h
theorem AllOk.cons {P : Program} {K : Kn} {f : FuncId} {S : List D → Spec} (h : FnOk P f S) (hk : AllOk P K) : AllOk P ((f, S) :: K) := by
  intro g T hm
  rcases List.mem_cons.1 hm with e | hm
  · cases e; exact h
  · exact hk g T hm
abbrev i64 (n : Int) : D := .nd (.int .i64 n) []
def Tr.toI : D → Int | .nd (.int _ n) _ => n | _ => 0
def Tr.toS : D → ByteArray | .nd (.str s) _ => s | _ => ⟨#[]⟩
def ints (cs : List D) : List Int := cs.map Tr.toI
def strs (cs : List D) : List ByteArray := cs.map Tr.toS
@[simp] theorem ints_map (l : List Int) : ints (l.map i64) = l := by simp [ints, Function.comp_def, Tr.toI]
@[simp] theorem strs_map (l : List ByteArray) : strs (l.map dStr) = l := by simp [strs, Function.comp_def, Tr.toS]
theorem plains_map {α : Type} {f : α → D} {l : List α} (h : ∀ x, (f x).plain = true) : Tr.plains (l.map f) = true := by
  rw [Tr.plains_iff]; intro t ht; obtain ⟨x, _, rfl⟩ := List.mem_map.1 ht; exact h x
theorem roizes_mapD {α : Type} {f : α → D} {l : List α} (h : ∀ x, (f x).roize = f x) : Tr.roizes (l.map f) = l.map f := by
  rw [roizes_map, List.map_map]; exact List.map_congr_left fun x _ => h x
theorem noRds_map {α : Type} {f : α → D} {l : List α} (h : ∀ x, (f x).noRd = true) : Tr.noRds (l.map f) = true := by
  rw [noRds_iff]; intro t ht; obtain ⟨x, _, rfl⟩ := List.mem_map.1 ht; exact h x
@[simp] theorem plains_ints (l : List Int) : Tr.plains (l.map i64) = true := plains_map fun _ => rfl
@[simp] theorem plains_strs (l : List ByteArray) : Tr.plains (l.map dStr) = true := plains_map fun _ => rfl
@[simp] theorem roizes_ints (l : List Int) : Tr.roizes (l.map i64) = l.map i64 := roizes_mapD fun _ => rfl
@[simp] theorem roizes_strs (l : List ByteArray) : Tr.roizes (l.map dStr) = l.map dStr := roizes_mapD fun _ => rfl
@[simp] theorem noRds_ints (l : List Int) : Tr.noRds (l.map i64) = true := noRds_map fun _ => rfl
@[simp] theorem noRds_strs (l : List ByteArray) : Tr.noRds (l.map dStr) = true := noRds_map fun _ => rfl
theorem wrap64 {n : Int} (h : -9223372036854775808 ≤ n) (h' : n ≤ 9223372036854775807) : IntKind.i64.wrap n = n := (wrap_iff _ _).2 ⟨h, h'⟩

/-- a contract: arguments made of x, under a condition; the results by x -/
def mk {α : Type} (A : α → List D) (pre : α → Prop) (post : α → List D → List D → Prop) : List D → Spec := fun ds => ⟨∃ x, ds = A x ∧ pre x, fun rs fin => ∀ x, ds = A x → pre x → post x rs fin⟩
theorem mk_pre {α : Type} {A : α → List D} {pre : α → Prop} {post : α → List D → List D → Prop} {ds : List D} : (mk A pre post ds).pre = ∃ x, ds = A x ∧ pre x := rfl
theorem mk_post {α : Type} {A : α → List D} {pre : α → Prop} {post : α → List D → List D → Prop} {ds rs fin : List D} : (mk A pre post ds).post rs fin = ∀ x, ds = A x → pre x → post x rs fin := rfl
theorem fn_mk {P : Program} {C : Con} {α : Type} {A : α → List D} {pre : α → Prop} {post : α → List D → List D → Prop} {f : FuncId} {fn : Func} {fd : FD} {known : FuncId → Bool} {mix : Bool} (hf : P.funcs[f]? = some fn) (hB : fnB P known mix fn fd = true) (hmix : mix = true → P.follows .mixedOrders = true)
    (hC : ∀ g, known g = true → FnOk P g (C g)) (hS : ∀ x, pre x → (A x).length = fd.np ∧ ∀ i ∈ boxIx 0 (A x), i ∈ fd.ps) (hinj : ∀ x y, A x = A y → x = y)
    (hrun : ∀ x, pre x → Tr.factsL (A x) → Run C (PostK ⟨True, post x⟩ fd.rvs (boxIx 0 (A x))) [.code fd.m] (initL 0 (A x))) : FnOk P f (mk A pre post) := by
  refine fn_ok hf hB hmix hC (fun ds h => ?_) (fun ds h hfa => ?_)
  · obtain ⟨x, rfl, hp⟩ := h; exact hS x hp
  · obtain ⟨x, rfl, hp⟩ := h
    have e : PostK (mk A pre post (A x)) fd.rvs (boxIx 0 (A x)) = PostK ⟨True, post x⟩ fd.rvs (boxIx 0 (A x)) := by
      funext L
      unfold PostK
      split
      · refine propext (and_congr_right fun _ => and_congr_right fun _ => ?_)
        exact ⟨fun h => h x rfl hp, fun h y hy _ => hinj x y hy ▸ h⟩
      · rfl
    rw [e]; exact hrun x hp hfa
theorem map_inj {α : Type} {f : α → D} (hf : ∀ x y, f x = f y → x = y) {l l' : List α} : (l.map f = l'.map f) = (l = l') := by
  refine propext ⟨fun h => ?_, fun h => h ▸ rfl⟩
  induction l generalizing l' with
  | nil => cases l' with
    | nil => rfl
    | cons y l' => simp at h
  | cons x l ih => cases l' with
    | nil => simp at h
    | cons y l' => simp only [List.map_cons, List.cons.injEq] at h; rw [hf x y h.1, ih h.2]
@[simp] theorem map_i64_inj {l l' : List Int} : (l.map i64 = l'.map i64) = (l = l') := map_inj fun x y h => by simpa using h
@[simp] theorem map_str_inj {l l' : List ByteArray} : (l.map dStr = l'.map dStr) = (l = l') := map_inj fun x y h => by simpa using h
end Go.VC
end

section
set_option linter.unusedVariables false
set_option linter.unusedSimpArgs false
namespace Go.VC
theorem sub_of {L0 L : AL} (h : ∀ p ∈ L0, get L p.1 = p.2 ∧ ∀ r, p.2.root? = some r → get L0 r ≠ .undef) : Sub L0 L := fun s hs => h _ (get_mem hs)
theorem getD_map {α β : Type} {f : α → β} {l : List α} {i : Nat} {d : β} {x : α} (h : l[i]? = some x) : (l.map f).getD i d = f x := by
  rw [List.getD_eq_getElem?_getD, List.getElem?_map, h]; rfl
theorem take_succ' {α : Type} {l : List α} {i : Nat} {x : α} (h : l[i]? = some x) : l.take (i + 1) = l.take i ++ [x] := by
  rw [List.take_add_one, h]; rfl
theorem conOf_cons {g f : FuncId} {S : List D → Spec} {K : Kn} : conOf ((g, S) :: K) f = bif f == g then S else conOf K f := by
  unfold conOf
  rw [List.lookup_cons]
  cases f == g <;> rfl
theorem toList_loop (a : ByteArray) : ∀ (n i : Nat) (r : List UInt8), a.size - i = n → ByteArray.toList.loop a i r = r.reverse ++ a.data.toList.drop i := by
  intro n
  induction n with
  | zero =>
    intro i r h
    unfold ByteArray.toList.loop
    rw [if_neg (by omega), List.drop_eq_nil_of_le (by show a.data.toList.length ≤ i; rw [Array.length_toList]; show a.size ≤ i; omega), List.append_nil]
  | succ n ih =>
    intro i r h
    unfold ByteArray.toList.loop
    have hlt : i < a.size := by omega
    have hl : i < a.data.toList.length := by rw [Array.length_toList]; exact hlt
    rw [if_pos hlt, ih (i + 1) _ (by omega), List.drop_eq_getElem_cons hl]
    simp only [List.reverse_cons, List.append_assoc, List.singleton_append, List.cons.injEq]
    congr 2
    simp [ByteArray.get!, hlt]
theorem toList_data (a : ByteArray) : a.toList = a.data.toList := by
  show ByteArray.toList.loop a 0 [] = _
  rw [toList_loop a _ 0 [] rfl]; rfl
theorem toList_inj {a b : ByteArray} : (a.toList = b.toList) ↔ a = b := by
  rw [toList_data, toList_data]
  constructor
  · intro h
    obtain ⟨⟨l⟩⟩ := a; obtain ⟨⟨l'⟩⟩ := b; simp at h; subst h; rfl
  · rintro rfl; rfl
theorem beq_list {a b : ByteArray} : (a.toList == b.toList) = decide (a = b) := by
  rw [Bool.eq_iff_iff]; simp [toList_inj]
section
variable {a b : ByteArray}
@[simp] theorem bs_add : binStr .add a b = some (a.size + b.size ≤ maxL, dStr (a ++ b)) := rfl
@[simp] theorem bs_eql : binStr .eql a b = some (True, dBool (decide (a = b))) := by simp [binStr, beq_list]
@[simp] theorem bs_neq : binStr .neq a b = some (True, dBool (!decide (a = b))) := by simp [binStr, beq_list]
@[simp] theorem bs_lss : binStr .lss a b = some (True, dBool (Op.bytesLess a.toList b.toList)) := rfl
@[simp] theorem bs_leq : binStr .leq a b = some (True, dBool (Op.bytesLess a.toList b.toList || decide (a = b))) := by simp [binStr, beq_list]
@[simp] theorem bs_gtr : binStr .gtr a b = some (True, dBool (!(Op.bytesLess a.toList b.toList || decide (a = b)))) := by simp [binStr, beq_list]
@[simp] theorem bs_geq : binStr .geq a b = some (True, dBool (!Op.bytesLess a.toList b.toList)) := rfl
end
end Go.VC
end

section
set_option linter.unusedVariables false
set_option linter.unusedSimpArgs false
namespace Go.VC
section
variable {α : Type} {A : α → List D} {pre : α → Prop} {post : α → List D → List D → Prop}
theorem mk_preI (inj : ∀ x y, A x = A y → x = y) (x : α) : (mk A pre post (A x)).pre = pre x := by
  rw [mk_pre]
  exact propext ⟨fun ⟨y, h, hp⟩ => inj _ _ h ▸ hp, fun h => ⟨x, rfl, h⟩⟩
theorem mk_postI (inj : ∀ x y, A x = A y → x = y) (x : α) (h : pre x) {rs fin : List D} : (mk A pre post (A x)).post rs fin = post x rs fin := by
  rw [mk_post]
  refine propext ⟨fun g => g x rfl h, fun g y hy _ => ?_⟩
  cases inj _ _ hy; exact g
end
/-- the walk of a function, its callees' contracts K -/
abbrev WalkOk (K : Kn) {α : Type} (A : α → List D) (pre : α → Prop) (post : α → List D → List D → Prop) (fd : FD) : Prop :=
  ∀ x, pre x → Tr.factsL (A x) → Run (conOf K) (PostK ⟨True, post x⟩ fd.rvs (boxIx 0 (A x))) [.code fd.m] (initL 0 (A x))
/-- the state of a loop with a counter: it has been round i times -/
def ForI (N : Nat) (σ : Nat → AL) (F : Nat → Prop) (n : Nat) (L : AL) : Prop := ∃ i, i ≤ N ∧ n = N - i ∧ F i ∧ L = σ i
def Next (N : Nat) (σ : Nat → AL) (F : Nat → Prop) (i : Nat) (L2 : AL) : Prop := ∃ m' L0, m' < N - i ∧ ForI N σ F m' L0 ∧ Sub L0 L2
section
variable {C : Con} {Post : AL → Prop} {k : List It} {L : AL}
theorem forK {a : MC} (N : Nat) (σ : Nat → AL) (F : Nat → Prop) (h0 : F 0) (hs : Sub (σ 0) L)
    (h : ∀ i, i ≤ N → F i → Run C Post (.code a :: .goal (Next N σ F i) :: k) (σ i)) : LoopK C Post a k L := by
  refine loopK (ForI N σ F) N _ ⟨0, by omega, rfl, h0, rfl⟩ hs ?_
  rintro m L' ⟨i, hi, rfl, hF, rfl⟩
  exact h i hi hF
theorem next {N : Nat} {σ : Nat → AL} {F : Nat → Prop} {i : Nat} {L2 : AL} (hi : i < N) (hF : F (i + 1)) (hs : Sub (σ (i + 1)) L2) : Next N σ F i L2 :=
  ⟨N - (i + 1), σ (i + 1), by omega, ⟨i + 1, hi, rfl, hF, rfl⟩, hs⟩
end
theorem getE {α : Type} {l : List α} {i : Nat} {x : α} (h : l[i]? = some x) (h' : i < l.length) : l[i] = x := by
  rw [List.getElem?_eq_getElem h'] at h; exact Option.some.inj h
theorem by_range (r : ByteArray) (i : Int) : 0 ≤ byteAt r i ∧ byteAt r i ≤ 255 := by
  unfold byteAt
  have := (r.data.toList.getD i.toNat 0).toNat_lt
  omega
theorem wrapU8 {n : Int} (h : 0 ≤ n) (h' : n ≤ 255) : IntKind.u8.wrap n = n := (wrap_iff _ _).2 ⟨h, h'⟩
@[simp] theorem wrap_byte (r : ByteArray) (i : Int) : IntKind.i64.wrap (byteAt r i) = byteAt r i := by
  have := by_range r i
  exact wrap64 (by omega) (by omega)
theorem wrapN {n : Nat} (h : n ≤ 9223372036854775807) : IntKind.i64.wrap (n : Int) = n := wrap64 (by omega) (by omega)
theorem wrapS {n : Nat} (h : n < 9223372036854775807) : IntKind.i64.wrap ((n : Int) + 1) = (n : Int) + 1 := wrap64 (by omega) (by omega)
end Go.VC
end

section
set_option linter.unusedVariables false
set_option linter.unusedSimpArgs false
namespace Go.VC
theorem ofInt_nat (n x : Nat) : BitVec.ofInt n (x : Int) = BitVec.ofNat n x := by
  apply BitVec.eq_of_toNat_eq; simp [BitVec.toNat_ofInt]
theorem and64 {x y : Nat} (hx : x < 9223372036854775808) : andI .i64 x y = ((x &&& y : Nat) : Int) := by
  show IntKind.i64.wrap ((BitVec.ofInt 64 (x : Int) &&& BitVec.ofInt 64 (y : Int)).toNat : Nat) = _
  rw [ofInt_nat, ofInt_nat]
  have e : (BitVec.ofNat 64 x &&& BitVec.ofNat 64 y).toNat = x &&& y := by
    rw [BitVec.toNat_and, BitVec.toNat_ofNat, BitVec.toNat_ofNat]
    apply Nat.eq_of_testBit_eq
    intro i
    simp only [Nat.testBit_and, Nat.testBit_mod_two_pow]
    by_cases hi : i < 64
    · simp [hi]
    · have : x.testBit i = false := Nat.testBit_lt_two_pow (Nat.lt_of_lt_of_le hx (Nat.le_trans (show 9223372036854775808 ≤ 2 ^ 64 by decide) (Nat.pow_le_pow_right (by omega) (by omega))))
      simp [this]
  rw [e]
  have : x &&& y ≤ x := Nat.and_le_left
  exact wrapN (by omega)
theorem or64 {x y : Nat} (hx : x < 9223372036854775808) (hy : y < 9223372036854775808) : orI .i64 x y = ((x ||| y : Nat) : Int) := by
  show IntKind.i64.wrap ((BitVec.ofInt 64 (x : Int) ||| BitVec.ofInt 64 (y : Int)).toNat : Nat) = _
  rw [ofInt_nat, ofInt_nat]
  have e : (BitVec.ofNat 64 x ||| BitVec.ofNat 64 y).toNat = x ||| y := by
    rw [BitVec.toNat_or, BitVec.toNat_ofNat, BitVec.toNat_ofNat, Nat.mod_eq_of_lt (by omega), Nat.mod_eq_of_lt (by omega)]
  rw [e]
  have : x ||| y < 2 ^ 63 := Nat.or_lt_two_pow (by omega) (by omega)
  exact wrapN (by omega)
theorem shr64 {x b : Nat} (hb : b ≤ 64) : shrI .i64 x b = ((x >>> b : Nat) : Int) := by
  have e : min ((b : Int).toNat) IntKind.i64.bits = b := Nat.min_eq_left hb
  unfold shrI; rw [e, Nat.shiftRight_eq_div_pow, Int.fdiv_eq_ediv_of_nonneg _ (Int.pow_nonneg (by decide))]
  push_cast; rfl
theorem shl64 {b : Nat} (hb : b ≤ 62) : shlI .i64 1 b = ((1 <<< b : Nat) : Int) := by
  have e : min ((b : Int).toNat) IntKind.i64.bits = b := Nat.min_eq_left (show b ≤ 64 by omega)
  have h : 2 ^ b ≤ 2 ^ 62 := Nat.pow_le_pow_right (by omega) hb
  have h2 : (1 * 2 ^ b : Int) = ((2 ^ b : Nat) : Int) := by push_cast; omega
  unfold shlI; rw [e, h2, Nat.shiftLeft_eq, Nat.one_mul]
  exact wrapN (by omega)
theorem bit_one (m b : Nat) : ((m >>> b) &&& 1 = 1) ↔ m.testBit b = true := by
  rw [Nat.testBit, Nat.and_comm 1, Nat.and_one_is_mod]
  have := Nat.mod_two_eq_zero_or_one (m >>> b)
  rcases this with h | h <;> simp [h]
end Go.VC
end

section
/-! What comes in from without: arguments that are read only. -/
open Go.ChangeShapes Go.WideShapes Go.ChangeAt Go.RowKit
namespace Go.VC
/-- a tree that stands for a value that is only read -/
structure RdOk (P : Program) (W : World) (t : L) : Prop where
  ok : t.Ok P W
  plain : t.plain = true
  foot : t.foot = []
  rdb : ∀ b ∈ t.rdb, b < W.heap.size
def Arg (P : Program) (W : World) (v : Value) (d : D) : Prop := ∃ t : L, t.val = v ∧ t.erase = d ∧ RdOk P W t
theorem RdOk.int {P : Program} {W : World} {k : IntKind} {n : Int} (h : k.wrap n = n) : RdOk P W (.nd (.int k n) []) :=
  ⟨⟨⟨rfl, h⟩, trivial⟩, rfl, rfl, by intro b hb; cases hb⟩
theorem RdOk.bool {P : Program} {W : World} {b : Bool} : RdOk P W (.nd (.bool b) []) := ⟨⟨rfl, trivial⟩, rfl, rfl, by intro b hb; cases hb⟩
theorem RdOk.str {P : Program} {W : World} {s : ByteArray} (h : s.size ≤ maxL) : RdOk P W (.nd (.str s) []) := ⟨⟨⟨rfl, h⟩, trivial⟩, rfl, rfl, by intro b hb; cases hb⟩
theorem rdL {P : Program} {W : World} : ∀ {ts : List L}, (∀ t ∈ ts, RdOk P W t) → Tr.Oks P W ts ∧ Tr.plains ts = true ∧ Tr.foots ts = [] ∧ ∀ b ∈ Tr.rdbs ts, b < W.heap.size
  | [], _ => ⟨trivial, rfl, rfl, by intro b hb; cases hb⟩
  | t :: ts, h => by
    obtain ⟨h1, h2, h3, h4⟩ := rdL (ts := ts) fun x hx => h x (List.mem_cons_of_mem _ hx)
    obtain ⟨a1, a2, a3, a4⟩ := h t (List.mem_cons_self ..)
    refine ⟨⟨a1, h1⟩, by simp [Tr.plains, a2, h2], by simp [Tr.foots, a3, h3], fun b hb => ?_⟩
    simp only [Tr.rdbs, List.mem_append] at hb
    exact hb.elim (a4 b) (h4 b)
theorem RdOk.agg {P : Program} {W : World} {ts : List L} (h : ∀ t ∈ ts, RdOk P W t) (ha : ∀ t ∈ ts, t.isAgg = false) : RdOk P W (.nd .agg ts) := by
  obtain ⟨h1, h2, h3, h4⟩ := rdL h
  refine ⟨⟨ha, h1⟩, by simp [Tr.plain, Hd.plain, h2], by simp [Tr.foot, Hd.own, h3], fun b hb => ?_⟩
  simp only [Tr.rdb, Hd.rdb, List.nil_append] at hb
  exact h4 b hb
theorem RdOk.nil {P : Program} {W : World} {e : TypeId} : RdOk P W (.nd (.row false e (none, 0)) []) :=
  ⟨⟨⟨Nat.le_refl _, Nat.zero_le _, (fun d hd => by cases hd), rfl, rfl⟩, trivial⟩, rfl, rfl, by intro b hb; simp [Tr.rdb, Hd.rdb, Tr.rdbs] at hb⟩
theorem vals_range {V : Nat → L} {k : Nat} : ∀ len, (∀ i, i < len → (V i).cells.length = k) → (vals ((List.range len).map V)).length = len * k ∧
    ∀ (n : Nat) (v : Value), (vals ((List.range len).map V))[n]? = some v → ∃ i j, i < len ∧ n = i * k + j ∧ ((V i).cells.map Tr.cval)[j]? = some v
  | 0, _ => ⟨by simp [vals], by intro n v h; simp [vals] at h⟩
  | len + 1, h => by
    obtain ⟨h1, h2⟩ := vals_range len fun i hi => h i (by omega)
    have e : vals ((List.range (len + 1)).map V) = vals ((List.range len).map V) ++ (V len).cells.map Tr.cval := by simp [vals, List.range_succ]
    refine ⟨by rw [e, List.length_append, h1, List.length_map, h len (by omega), Nat.succ_mul], fun n v hv => ?_⟩
    rw [e, List.getElem?_append] at hv
    split at hv
    · obtain ⟨i, j, a, b, c⟩ := h2 n v hv; exact ⟨i, j, by omega, b, c⟩
    · rename_i hn; rw [h1] at hv hn; exact ⟨len, n - len * k, by omega, by omega, hv⟩
theorem cell_lt {w : World} {a : Addr} {v : Value} (h : w.cell? a = some v) : a.block < w.heap.size := by
  by_cases hb : a.block < w.heap.size
  · exact hb
  · rw [World.cell?, Array.getElem?_eq_none (by omega)] at h; cases h
theorem add_cell {w : World} {a : Addr} {n : Nat} {v : Value} (h : w.cell? (a.add n) = some v) : w.cell? ⟨a.block, a.off + n, none⟩ = some v ∧ (n = 0 → a.spot = none) := by
  by_cases hn : n = 0
  · subst hn
    have hs := World.cell?_spot h
    obtain ⟨b, o, s⟩ := a
    simp [Addr.add] at hs h ⊢
    subst hs; exact ⟨h, rfl⟩
  · simp [Addr.add, hn] at h; exact ⟨h, fun e => (hn e).elim⟩
/-- a row that is only read -/
theorem RdOk.row {P : Program} {W : World} {e : TypeId} {k : Nat} {a : Addr} {len cap : Nat} {V : Nat → L} (hk : szOf P e = k) (hl : len ≤ cap) (hm : cap ≤ maxL) (hs : 0 < cap → a.spot = none)
    (hV : ∀ i, i < len → RdOk P W (V i)) (hc : ∀ i, i < len → (V i).cells.length = k) (h0 : 0 < k)
    (hw : ∀ i, i < len → ∀ j v, ((V i).cells.map Tr.cval)[j]? = some v → W.cell? ⟨a.block, a.off + (i * k + j), none⟩ = some v) :
    RdOk P W (.nd (.row false e (some a, cap)) ((List.range len).map V)) := by
  obtain ⟨h1, h2, h3, h4⟩ := rdL (P := P) (W := W) (ts := (List.range len).map V) (by
    intro t ht; simp only [List.mem_map, List.mem_range] at ht; obtain ⟨i, hi, rfl⟩ := ht; exact hV i hi)
  refine ⟨⟨⟨by simpa using hl, hm, ?_, hs, ?_⟩, h1⟩, by simp [Tr.plain, Hd.plain, h2], by simp [Tr.foot, Hd.own, h3], fun b hb => ?_⟩
  · intro d hd; simp only [List.mem_map, List.mem_range] at hd; obtain ⟨i, hi, rfl⟩ := hd; rw [hk]; exact hc i hi
  · intro n v hv
    obtain ⟨i, j, hi, rfl, hj⟩ := (vals_range len hc).2 n v hv
    exact hw i hi j v hj
  · simp only [Tr.rdb, List.mem_append] at hb
    rcases hb with hb | hb
    · cases len with
      | zero => simp [Hd.rdb] at hb
      | succ len =>
        obtain ⟨v, hv⟩ : ∃ v, ((V 0).cells.map Tr.cval)[0]? = some v := by
          have := hc 0 (by omega)
          exact ⟨_, List.getElem?_eq_getElem (by rw [List.length_map]; omega)⟩
        have := cell_lt (hw 0 (by omega) 0 v hv)
        simp [Hd.rdb, List.range_succ_eq_map] at hb
        subst hb; exact this
    · exact h4 b hb
theorem wf_wrap {k : IntKind} {n : Int} (h : (Lit.int k n).wf = true) : k.wrap n = n := by
  simp only [Lit.wf, Bool.and_eq_true, decide_eq_true_eq] at h
  refine (wrap_iff k n).2 ?_
  cases k <;> simp [loOf, hiOf, IntKind.min, IntKind.max, IntKind.signed, IntKind.bits] at h ⊢ <;> exact h
section
variable {H : Type} {enc : TypeId × Value → H} {P : Program} {W : World}
theorem arg_int {k : IntKind} {n : Int} (h : (Lit.int k n).wf = true) : Arg P W (.int k n) (.nd (.int k n) []) := ⟨.nd (.int k n) [], rfl, rfl, RdOk.int (wf_wrap h)⟩
theorem arg_bool {b : Bool} : Arg P W (.bool b) (.nd (.bool b) []) := ⟨.nd (.bool b) [], rfl, rfl, RdOk.bool⟩
theorem arg_ints3 {k : IntKind} {a b c : Int} (ha : (Lit.int k a).wf = true) (hb : (Lit.int k b).wf = true) (hc : (Lit.int k c).wf = true) :
    Arg P W (.agg #[.int k a, .int k b, .int k c]) (.nd .agg [.nd (.int k a) [], .nd (.int k b) [], .nd (.int k c) []]) :=
  ⟨.nd .agg [.nd (.int k a) [], .nd (.int k b) [], .nd (.int k c) []], rfl, rfl, RdOk.agg (by
    intro t ht; simp at ht; rcases ht with rfl | rfl | rfl
    · exact RdOk.int (wf_wrap ha)
    · exact RdOk.int (wf_wrap hb)
    · exact RdOk.int (wf_wrap hc)) (by intro t ht; simp at ht; rcases ht with rfl | rfl | rfl <;> rfl)⟩
theorem arg_strs {t e : TypeId} {fuel : Nat} {v : Value} {x : DataW H × List MemPlace} (ht : P.underlying t = some (.slice e)) (he : P.underlying e = some .string) (hc : P.cellsOf e = 1) (hk : szOf P e = 1)
    (h : DataW.trod enc P W 0 (fun _ => true) true fuel t [v] = some x) : ∃ l : List ByteArray, Arg P W v (.nd (.row false e ()) (l.map fun s => .nd (.str s) [])) := by
  rcases Go.Deep.open_strs ht he hc h with ⟨h1, _⟩ | ⟨a, len, cap, m, S, h1, _, hl, hm, hmm, _, hx⟩
  · simp at h1; subst h1; exact ⟨[], .nd (.row false e (none, 0)) [], rfl, rfl, RdOk.nil⟩
  · simp at h1 hmm; subst h1; subst hmm
    refine ⟨(List.range len).map S, .nd (.row false e (some a, m)) ((List.range len).map fun i => .nd (.str (S i)) []), ?_, ?_, RdOk.row (V := fun i => .nd (.str (S i)) []) hk hl (by simpa [maxLen] using hm) ?_ ?_ ?_ (by omega) ?_⟩
    · simp [Tr.val, Tr.cval, Tr.val0]
    · simp [Tr.erase, Hd.erase, Tr.erases_map, Tr.erases]
    · intro h0; have := (add_cell (hx 0 h0).1).2 rfl; exact this
    · intro i hi; exact RdOk.str (by have := (hx i (by omega)).2; simpa [maxLen] using this)
    · intro i hi; rfl
    · intro i hi j v hv
      have := (add_cell (hx i (by omega)).1).1
      cases j with
      | zero => simp [Tr.cells, Tr.cval, Tr.val0] at hv; subst hv; simpa using this
      | succ j => simp [Tr.cells] at hv
theorem arg_pairs {t e : TypeId} {k : IntKind} {f0 f1 : Field} {fuel : Nat} {v : Value} {x : DataW H × List MemPlace} (ht : P.underlying t = some (.slice e)) (he : P.underlying e = some (.struct #[f0, f1]))
    (ce : P.cellsOf e = 2) (o0 : f0.offset = 0) (o1 : f1.offset = 1) (c0 : P.cellsOf f0.type = 1) (c1 : P.cellsOf f1.type = 1) (t0 : P.underlying f0.type = some (.int k)) (t1 : P.underlying f1.type = some (.int k)) (hk : szOf P e = 2)
    (h : DataW.trod enc P W 0 (fun _ => true) true fuel t [v] = some x) : ∃ l : List (Int × Int), Arg P W v (.nd (.row false e ()) (l.map fun p => .nd .agg [.nd (.int k p.1) [], .nd (.int k p.2) []])) := by
  rcases Go.Deep.open_slice_pairs ht he ce o0 o1 c0 c1 h with ⟨h1, _⟩ | ⟨a, len, cap, m, n, V0, V1, D0, D1, P0, P1, h1, _, hl, hm, hmm, _, hx⟩
  · simp at h1; subst h1; exact ⟨[], .nd (.row false e (none, 0)) [], rfl, rfl, RdOk.nil⟩
  · simp at h1 hmm; subst h1; subst hmm
    have hy : ∀ i, ∃ p : Int × Int, i < m → V0 i = .int k p.1 ∧ V1 i = .int k p.2 ∧ k.wrap p.1 = p.1 ∧ k.wrap p.2 = p.2 := by
      intro i
      by_cases hi : i < m
      · obtain ⟨_, _, q0, q1⟩ := hx i hi
        obtain ⟨x, e0, _, w0⟩ := DataW.trod_int t0 q0
        obtain ⟨y, e1, _, w1⟩ := DataW.trod_int t1 q1
        simp at e0 e1
        exact ⟨(x, y), fun _ => ⟨e0, e1, wf_wrap w0, wf_wrap w1⟩⟩
      · exact ⟨(0, 0), fun h => (hi h).elim⟩
    obtain ⟨p, hp⟩ := Classical.axiomOfChoice hy
    refine ⟨(List.range len).map p, .nd (.row false e (some a, m)) ((List.range len).map fun i => .nd .agg [.nd (.int k (p i).1) [], .nd (.int k (p i).2) []]), ?_, ?_, RdOk.row (V := fun i => .nd .agg [.nd (.int k (p i).1) [], .nd (.int k (p i).2) []]) hk hl (by simpa [maxLen] using hm) ?_ ?_ ?_ (by omega) ?_⟩
    · simp [Tr.val, Tr.cval, Tr.val0]
    · simp [Tr.erase, Hd.erase, Tr.erases_map, Tr.erases]
    · intro h0; have := (hx 0 h0).1; exact (add_cell this).2 (by omega)
    · intro i hi
      obtain ⟨_, _, w0, w1⟩ := hp i (by omega)
      exact RdOk.agg (by intro t ht; simp at ht; rcases ht with rfl | rfl; exact RdOk.int w0; exact RdOk.int w1) (by intro t ht; simp at ht; rcases ht with rfl | rfl <;> rfl)
    · intro i hi; rfl
    · intro i hi j v hv
      obtain ⟨v0, v1, _, _⟩ := hp i (by omega)
      obtain ⟨q0, q1, _, _⟩ := hx i (by omega)
      rw [v0] at q0; rw [v1] at q1
      replace q0 := (add_cell q0).1
      replace q1 := (add_cell q1).1
      match j with
      | 0 => simp [Tr.cells, Tr.cval, Tr.val0] at hv; subst hv; simpa using q0
      | 1 => simp [Tr.cells, Tr.cval, Tr.val0] at hv; subst hv; simpa [Nat.add_assoc] using q1
      | j + 2 => simp [Tr.cells] at hv
end
/-- the call, of arguments that are only read -/
theorem FnOk.call {P : Program} {f : FuncId} {S : List D → Spec} (h : FnOk P f S) {W : World} {ts : List L} {d : D} (hpre : (S (ts.map Tr.erase)).pre) (hok : ∀ t ∈ ts, RdOk P W t)
    (hpost : ∀ rs fin, (S (ts.map Tr.erase)).post rs fin → rs = [d]) {v : Value} (hd : ∀ t : L, t.erase = d → t.val = v) :
    Calls P f (ts.map Tr.val).toArray W fun e w' => e = .returned v ∧ Below W.heap.size W w' := by
  have hft : ts.flatMap Tr.foot = [] := by
    simp only [List.flatMap_eq_nil_iff]; exact fun t ht => (hok t ht).foot
  refine (h.2 ts W hpre (fun t ht => ⟨(hok t ht).ok, .inl (hok t ht).plain⟩) (by rw [hft]; exact List.nodup_nil) (by rw [hft]; intro b hb; cases hb) (fun b hb => ?_)).mono fun e w' ⟨rs, fin, he, hp, hk, _⟩ => ?_
  · rw [hft]; obtain ⟨t, ht, hb⟩ := List.mem_flatMap.1 hb; exact ⟨by simp, (hok t ht).rdb b hb⟩
  · have := hpost _ _ hp
    rw [hft] at hk
    refine ⟨?_, ⟨hk.os, hk.tape, hk.output, hk.size, fun b hb => hk.block b hb (by simp)⟩⟩
    match rs, this with
    | [r], this =>
      simp at this
      rw [he, ← hd r this]; rfl
theorem val_bool {b : Bool} : ∀ t : L, t.erase = .nd (.bool b) [] → t.val = .bool b
  | .nd h cs, e => by
    cases h <;> simp [Tr.erase, Hd.erase] at e
    obtain ⟨rfl, _⟩ := e; rfl
end Go.VC
end
