/- A library of symbolic evaluation for programs of the model: what is told of a program text is checked against the text, and what the told text computes is shown by evaluation. No condition. -/
import Derived.Test.YtbmkofeahjmkgacL4
import Derived.LoopN
section
set_option linter.unusedVariables false
set_option linter.unusedSimpArgs false
namespace Go.VC
variable {P : Program} {n : Nat} {lent : List Nat} {o : Oper} {d : Nat}
theorem puts_cg {α : Type} {A B : Ws α} (h : ∀ s, A.lookup s = B.lookup s) (σ : St α) : puts A σ = puts B σ := by
  funext s; unfold puts; simp only [h]
theorem agg_cells {α : Type} {y : Tr α} (h : y.isAgg = true) : .nd .agg y.cells = y := by
  obtain ⟨hd, cs⟩ := y
  cases hd <;> first | rfl | (simp [Tr.isAgg] at h)
theorem box_of_erase {t : L} {b : TypeId} {y : D} (h : t.erase = .nd (.box b ()) [y]) : ∃ q yl, t = .nd (.box b q) [yl] ∧ yl.erase = y := by
  obtain ⟨hd, cs⟩ := t
  cases hd with
  | box t' q =>
    simp only [Tr.erase, Hd.erase, Tr.erases_map, Tr.nd.injEq, Hd.box.injEq] at h
    obtain ⟨⟨rfl, _⟩, h⟩ := h
    match cs, h with
    | [yl], h => simp at h; exact ⟨q, yl, rfl, h⟩
  | _ => simp [Tr.erase, Hd.erase] at h
/-- the rows of a struct in a box become read-only: nothing of memory changes -/
theorem Inv.freeze {w0 w : World} {τ : St Phys} {a : Act} (hi : Inv P n lent w0 τ a w) {r : Nat} {t : TypeId} {q : Phys} {y : L} (hr : τ r = .own (.nd (.box t q) [y])) (hpl : y.roize.plain = true) :
    Inv P n lent w0 (puts [(r, .own (.nd (.box t q) [y.roize]), false)] τ) a w := by
  have hok := hi.ok r (.nd (.box t q) [y]) (by simp [hr, SV.trees])
  have hnod := hi.nod r
  rw [hr] at hnod
  simp only [SV.foot, SV.trees, List.flatMap_cons, List.flatMap_nil, List.append_nil, foot_nd] at hnod
  have hft : ∀ b, (b ∈ Hd.own (.box t q) ∨ b ∈ y.foot) → b ∈ (τ r).foot := fun b hb => by
    rw [hr]; simp only [SV.foot, SV.trees, List.flatMap_cons, List.flatMap_nil, List.append_nil, foot_nd, List.mem_append]; exact hb
  have hrd : ∀ b ∈ y.rdb, b ∈ (τ r).rdb := fun b hb => by
    rw [hr]; simp only [SV.rdb, SV.trees, List.flatMap_cons, List.flatMap_nil, List.append_nil, rdb_nd, List.mem_append]; exact .inr hb
  have hdr := hi.den r
  rw [hr] at hdr
  have hf0 : (Tr.nd (.box t q) [y.roize] : L).foot = Hd.own (.box t q) := by
    rw [foot_nd]; simp [plain_foot hpl]
  have hr0 : (Tr.nd (.box t q) [y.roize] : L).rdb = y.roize.rdb := by
    rw [rdb_nd]; simp [Hd.rdb]
  have hin : ∀ u v k, List.lookup u [(r, SV.own (.nd (.box t q) [y.roize]), false)] = some (v, k) → u = r ∧ v = .own (.nd (.box t q) [y.roize]) ∧ k = false := by
    intro u v k h
    simp only [List.lookup_cons, List.lookup_nil] at h
    cases h1 : (u == r) with
    | true => rw [h1] at h; simp at h; exact ⟨by simpa using h1, h.1.symm, h.2⟩
    | false => rw [h1] at h; cases h
  have hrl : List.lookup r [(r, SV.own (.nd (.box t q) [y.roize]), false)] ≠ none := by simp
  have hrr : ∀ b ∈ y.roize.rdb, (b ∈ (τ r).rdb ∨ b ∈ (τ r).foot) ∧ b ∉ Hd.own (.box t q) := fun b hb => by
    rcases roize_rdb y b hb with h | h
    · exact ⟨.inl (hrd b h), fun h2 => hi.ros r r b (hrd b h) (hft b (.inl h2))⟩
    · exact ⟨.inr (hft b (.inr h)), fun h2 => (List.nodup_append.1 hnod).2.2 b h2 b h rfl⟩
  refine hi.upd _ hi.tsz hi.dfr ?_ ?_ (fun _ _ => rfl) ⟨rfl, rfl, rfl, Nat.le_refl _⟩ (fun _ _ _ => rfl) ?_ ?_ ?_ ?_ ?_
  · intro u v k h
    obtain ⟨rfl, rfl, rfl⟩ := hin u v k h
    obtain ⟨q1, q2⟩ := q
    exact hdr
  · intro u v h; have := (hin u v true h).2.2; cases this
  · intro u v k h t' ht
    obtain ⟨rfl, rfl, rfl⟩ := hin u v k h
    simp only [SV.trees, List.mem_singleton] at ht; subst ht
    simp only [Tr.Ok, Tr.Oks] at hok ⊢
    obtain ⟨⟨g, c, d', k1, k2, k3, k4⟩, k5, _⟩ := hok
    simp only [List.cons.injEq, and_true] at k2
    subst k2
    exact ⟨⟨g, c, y.roize, k1, rfl, k3, by rw [roize_cells]; exact k4⟩, roize_ok k5, trivial⟩
  · intro u v k h
    obtain ⟨rfl, rfl, rfl⟩ := hin u v k h
    simp only [SV.foot, SV.trees, List.flatMap_cons, List.flatMap_nil, List.append_nil, hf0]
    exact (List.nodup_append.1 hnod).1
  · intro u v k h b hb
    obtain ⟨rfl, rfl, rfl⟩ := hin u v k h
    simp only [SV.foot, SV.trees, List.flatMap_cons, List.flatMap_nil, List.append_nil, hf0] at hb
    exact ⟨.inl ⟨u, hrl, hft b (.inl hb)⟩, (hi.fre u b (hft b (.inl hb))).2⟩
  · intro u v k u' v' k' hne h h'
    obtain ⟨rfl, rfl, rfl⟩ := hin u v k h
    obtain ⟨rfl, rfl, rfl⟩ := hin u' v' k' h'
    exact absurd rfl hne
  · intro u v k h b hb
    obtain ⟨rfl, rfl, rfl⟩ := hin u v k h
    simp only [SV.rdb, SV.trees, List.flatMap_cons, List.flatMap_nil, List.append_nil, hr0] at hb
    obtain ⟨h1, h2⟩ := hrr b hb
    refine ⟨h1.elim (hi.rlt u b) fun h => (hi.fre u b h).2, ?_, fun u' v' k' h' => ?_⟩
    · exact h1.imp (fun h => ⟨u, h⟩) fun h => ⟨u, hrl, h⟩
    · obtain ⟨rfl, rfl, rfl⟩ := hin u' v' k' h'
      simp only [SV.foot, SV.trees, List.flatMap_cons, List.flatMap_nil, List.append_nil, hf0]
      exact h2

theorem snd_ldE (hd : o.dst = some d) (hn : d < n) {t : TypeId} {u : TypeDesc} {x : Operand} (ho : o.op = .load t x) (ht : P.underlying t = some u) (hsz : szOf P t ≠ 0) {e1 : TypeId} {ox : Opd} (hx : opd e1 x = some ox) :
    Snd P n lent o (fun σ => ldE d (szOf P t) (view σ ox) (aggOf u)) := by
  intro w0 τ a w E K Q hi he hp hk
  change ldE d (szOf P t) (view (St.erase τ) ox) (aggOf u) = some E at he
  by_cases hc : aggOf u = true ∧ ∃ r b y, ox = .t r ∧ St.erase τ r = .own (.nd (.box b ()) [y]) ∧ y.plain = false
  · obtain ⟨hu, r, b, y, rfl, hr, hnp⟩ := hc
    have hv : view (St.erase τ) (.t r) = ⟨.own (.nd (.box b ()) [y]), some r, none⟩ := by simp [view, hr, SV.root?]
    rw [hv, hu] at he
    simp only [ldE, ldT, hnp, ldB] at he
    cases hg : (y.isAgg && y.roize.plain) with
    | false => rw [hg] at he; simp [frzK] at he
    | true =>
    rw [hg] at he
    simp only [frzK] at he
    obtain ⟨hb, he⟩ : (r == d || !(y.cells.length == szOf P t)) = false ∧ some _ = some E := by
      cases hb : (r == d || !(y.cells.length == szOf P t)) with
      | true => rw [hb] at he; cases he
      | false => rw [hb] at he; exact ⟨rfl, he⟩
    simp only [Bool.or_eq_false_iff, Bool.not_eq_false', beq_iff_eq, beq_eq_false_iff_ne] at hb
    simp only [Bool.and_eq_true] at hg
    obtain ⟨hb1, hb2⟩ := hb
    have hr' : ∃ T, τ r = .own T ∧ T.erase = .nd (.box b ()) [y] := erase_own (by simpa [St.erase] using hr)
    obtain ⟨T, hT, hTe⟩ := hr'
    obtain ⟨q, yl, rfl, rfl⟩ := box_of_erase hTe
    have hpl : yl.roize.plain = true := by rw [← plain_erase, roize_erase]; exact hg.2
    have hi1 := hi.freeze hT hpl
    have her1 : St.erase (puts [(r, SV.own (.nd (.box b q) [yl.roize]), false)] τ) = puts [(r, .own (.nd (.box b ()) [yl.erase.roize]), false)] (St.erase τ) := by
      rw [puts_erase]
      simp only [Ws.erase, List.map_cons, List.map_nil, SV.erase, Tr.erase, Hd.erase, Tr.erases, roize_erase]
    have hs1 : St.erase (puts [(r, SV.own (.nd (.box b q) [yl.roize]), false)] τ) r = .own (.nd (.box b ()) [yl.erase.roize]) := by rw [her1]; exact puts_in (k := false) (by simp)
    have hag : yl.erase.roize.isAgg = true := by rw [roize_isAgg]; exact hg.1
    have hcl : yl.erase.roize.cells.length = szOf P t := by
      rw [← roize_erase, cells_erase, List.length_map, roize_ncells, ← hb2, cells_erase, List.length_map]
    have hpls : Tr.plains yl.erase.roize.cells = true := by
      have h1 := hg.2
      rw [← agg_cells hag] at h1
      simpa [Tr.plain, Hd.plain] using h1
    have he1 : ldK d (szOf P t) (aggOf u) (addr (view (St.erase (puts [(r, SV.own (.nd (.box b q) [yl.roize]), false)] τ)) (.t r))) = some ⟨True, [(d, .own yl.erase.roize, false)]⟩ := by
      have hv1 : addr (view (St.erase (puts [(r, SV.own (.nd (.box b q) [yl.roize]), false)] τ)) (.t r)) = some (r, [], 0, 0, .nd (.box b ()) [yl.erase.roize]) := by
        simp [addr, view, hs1, adOwn]
      rw [hv1, hu]
      simp only [ldK, Tr.kids, List.getD_cons_zero, Nat.zero_add, hcl, Nat.le_refl, decide_true, cond_true, List.drop_zero]
      rw [← hcl, List.take_length, hpls, agg_cells hag]
      rfl
    cases he
    refine snd_ld hd hn ho ht hsz (e1 := e1) (ox := .t r) hx w0 _ a w _ K Q hi1 he1 trivial fun τ' a' w' g1 g2 => hk τ' a' w' ?_ g2
    rw [g1, her1]
    have h1 := puts_cons (s := r) (v := .own (.nd (.box b ()) [yl.erase.roize])) (k := false) (W := [(d, .own yl.erase.roize, false)]) (two_good (by simpa using Ne.symm hb1) rfl rfl) (St.erase τ)
    rw [h1]
    refine puts_cg (fun s => ?_) _
    simp only [List.lookup_cons, List.lookup_nil]
    cases h2 : (s == r) with
    | true =>
      have : s = r := by simpa using h2
      subst this
      simp [beq_eq_false_iff_ne.2 hb1]
    | false => cases s == d <;> rfl
  · have hld : ldE d (szOf P t) (view (St.erase τ) ox) (aggOf u) = ldK d (szOf P t) (aggOf u) (addr (view (St.erase τ) ox)) := by
      cases hu : aggOf u with
      | false => rfl
      | true =>
        simp only [ldE]
        unfold ldT
        split
        · rename_i b' x' y r hsv hsl
          cases hyp : y.plain with
          | true => rfl
          | false =>
            exfalso
            refine hc ⟨hu, r, b', y, ?_⟩
            cases ox with
            | c dd => cases hsl
            | t s =>
              have hs : s = r := by simpa [view] using hsl
              subst hs
              exact ⟨rfl, hsv, hyp⟩
        · rfl
    rw [hld] at he
    exact snd_ld hd hn ho ht hsz hx w0 τ a w E K Q hi he hp hk

/-- a struct is loaded from a box that is not used any more: what it owns comes along -/
theorem snd_ldt (hd : o.dst = some d) (hn : d < n) {t : TypeId} {u : TypeDesc} {x : Operand} (ho : o.op = .load t x) (ht : P.underlying t = some u) (hu : aggOf u = true) (hsz : szOf P t ≠ 0) {e1 : TypeId} {ox : Opd} (hx : opd e1 x = some ox) :
    Snd P n lent o (fun σ => ldtK d (szOf P t) (view σ ox).sv (view σ ox).slot) := by
  intro w0 τ a w E K Q hi he hp hk
  change ldtK d (szOf P t) (view (St.erase τ) ox).sv (view (St.erase τ) ox).slot = some E at he
  cases ox with
  | c dd =>
    unfold ldtK at he
    split at he
    · rename_i hsl; cases hsl
    · cases he
  | t r =>
  by_cases hc : ∃ b y, St.erase τ r = .own (.nd (.box b ()) [y])
  · obtain ⟨b, y, hr⟩ := hc
    have hv1 : (view (St.erase τ) (.t r)).sv = .own (.nd (.box b ()) [y]) := hr
    have hv2 : (view (St.erase τ) (.t r)).slot = some r := rfl
    rw [hv1, hv2] at he
    simp only [ldtK] at he
    cases hg : (y.isAgg && (y.cells.length == szOf P t)) with
    | false => rw [hg] at he; simp [ldtB] at he
    | true =>
    rw [hg] at he
    simp only [ldtB] at he
    obtain ⟨hb, he⟩ : (r == d) = false ∧ some _ = some E := by
      cases hb : (r == d) with
      | true => rw [hb] at he; cases he
      | false => rw [hb] at he; exact ⟨rfl, he⟩
    simp only [Bool.and_eq_true, beq_iff_eq, beq_eq_false_iff_ne] at hg hb
    obtain ⟨T, hT, hTe⟩ := erase_own (show (τ r).erase = .own (.nd (.box b ()) [y]) from hr)
    obtain ⟨q, yl, rfl, rfl⟩ := box_of_erase hTe
    have hok := hi.ok r (.nd (.box b q) [yl]) (by simp [hT, SV.trees])
    have hnod := hi.nod r
    rw [hT] at hnod
    simp only [SV.foot, SV.trees, List.flatMap_cons, List.flatMap_nil, List.append_nil, foot_nd] at hnod
    have hden := hi.den r
    rw [hT] at hden
    have hok0 := hok
    simp only [Tr.Ok, Tr.Oks] at hok
    obtain ⟨⟨g, c, d', k1, k2, k3, k4⟩, k5, _⟩ := hok
    simp only [List.cons.injEq, and_true] at k2
    subst k2
    obtain ⟨q1, q2⟩ := q
    simp only at k1
    subst k1
    have hpl : (Tr.nd (.box b (some ⟨g, 0, none⟩, q2)) [yl] : L).place P 0 0 = some ⟨g, 0, none⟩ := rfl
    obtain ⟨xl, hxl, hxok, hfn, hcell⟩ := place_elem hok0 hpl
    simp only [Tr.kids, List.getElem?_cons_zero, Option.some.injEq] at hxl
    subst hxl
    obtain ⟨ee, rfl⟩ : ∃ ee, x = .tmp r := by
      cases x with
      | tmp s => simp [opd] at hx; exact ⟨e1, by rw [hx]⟩
      | const v => simp [opd] at hx
      | _ => simp [opd] at hx
    have hev : a.eval (.tmp r) = .pointer (some ⟨g, 0, none⟩) := hden
    have hag : yl.isAgg = true := by rw [← isAgg_erase]; exact hg.1
    have hlen : yl.cells.length = szOf P t := by rw [← hg.2, cells_erase, List.length_map]
    have hrun : (execOp a.eval o).run P w = .ok (.value yl.val) w := by
      unfold execOp; rw [ho]; simp only [hev]
      refine run_value ?_
      simp only [Instr.loadAt, Instr.sureAddr, pure_bind]
      unfold loadVar
      rw [run_bind (run_isAgg ht)]
      simp only [hu, if_true]
      rw [run_bind (run_sizeOf hsz)]
      have hl := run_loadFrom (P := P) (w := w) (a := ⟨g, 0, none⟩) (szOf P t) 0 #[] (yl.cells.map Tr.cval) (by simp [hlen]) (by
        intro k v hk
        rw [Nat.zero_add, Addr.add_at]
        rw [List.getElem?_map] at hk
        cases hy : yl.cells[k]? with
        | none => simp [hy] at hk
        | some y => simp [hy] at hk; subst hk; exact hcell k y (by simpa using hy))
      unfold loadCells
      rw [run_bind hl]
      conv => rhs; rw [← agg_cells hag]
      simp [Tr.val]
    refine wp_value hrun ?_
    rw [hd]
    cases he
    have hft : ∀ b' ∈ yl.foot, b' ∈ (τ r).foot := fun b' hb' => by
      rw [hT]; simp only [SV.foot, SV.trees, List.flatMap_cons, List.flatMap_nil, List.append_nil, foot_nd, List.mem_append]; exact .inr hb'
    refine hk _ _ _ ?_ (hi.make hn [r] (by simpa using Ne.symm hb) (T := yl) rfl ⟨rfl, rfl, rfl, Nat.le_refl _⟩ (fun _ _ _ => rfl) k5 (List.nodup_append.1 hnod).2.1
      (fun b' hb' => ⟨(hi.fre r b' (hft b' hb')).2, .inr ⟨r, by simp, hft b' hb'⟩⟩) (fun b' hb' => ⟨r, by
        rw [hT]; simp only [SV.rdb, SV.trees, List.flatMap_cons, List.flatMap_nil, List.append_nil, rdb_nd, List.mem_append]; exact .inr hb'⟩))
    rw [puts_erase]
    rfl
  · exfalso
    unfold ldtK at he
    split at he
    · rename_i b' x' y r' hsv hsl
      cases hsl
      exact hc ⟨b', y, hsv⟩
    · cases he
end Go.VC
end

section
set_option linter.unusedVariables false
set_option linter.unusedSimpArgs false
namespace Go.VC
variable {P : Program} {n : Nat} {lent : List Nat} {o : Oper} {d : Nat}

theorem box_plain {α : Type} {t : Tr α} (h : t.isBox = true) : t.plain = false := by
  obtain ⟨h1, c1⟩ := t
  cases h1 <;> first | (simp [Tr.isBox] at h; done) | rfl
theorem isBox_erase (t : L) : t.erase.isBox = t.isBox := by
  obtain ⟨h1, c1⟩ := t
  cases h1 <;> rfl

theorem agRd_some {q : Option D} {t : D} {r : Option Nat} (h : agRd q = some (t, r)) : r = none ∧ ∃ u, q = some u ∧ t = u.roize ∧ t.plain = true := by
  cases q with
  | none => cases h
  | some u =>
    simp only [agRd] at h
    cases hp : u.roize.plain with
    | false => rw [hp] at h; cases h
    | true => rw [hp] at h; simp only [agPlain, Option.some.injEq, Prod.mk.injEq] at h; exact ⟨h.2.symm, u, rfl, h.1.symm, h.1 ▸ hp⟩

theorem argOf_cases {v : View} {t : D} {r : Option Nat} (h : argOf v = some (t, r)) :
    (r = none ∧ ∃ u, v.rd = some u ∧ t = u.roize ∧ t.plain = true) ∨
    (∃ s, r = some s ∧ t.isBox = true ∧ ((v.sv = .own t ∧ v.slot = some s) ∨ (v.sv = .ref s [] ∧ v.tree = some t))) := by
  unfold argOf at h
  split at h
  · rename_i u hu
    unfold agOwn at h
    split at h
    · cases h; exact .inr ⟨_, rfl, rfl, .inl ⟨hu, by assumption⟩⟩
    · cases h
    · obtain ⟨h1, u', h2, h3⟩ := agRd_some h
      exact .inl ⟨h1, u', by simp only [View.rd, hu]; exact h2, h3⟩
  · rename_i r' hu
    unfold agRef at h
    split at h
    · rename_i he
      cases h; exact .inr ⟨_, rfl, rfl, .inr ⟨hu, he⟩⟩
    · obtain ⟨h1, u', h2, h3⟩ := agRd_some h
      refine .inl ⟨h1, u', ?_, h3⟩
      simp only [View.rd, hu, h2, Option.bind_some, Tr.look]
  · obtain ⟨h1, u', h2, h3⟩ := agRd_some h
    exact .inl ⟨h1, u', h2, h3⟩

/-- one argument -/
theorem arg_spec {w0 w : World} {τ : St Phys} {a : Act} (hi : Inv P n lent w0 τ a w) {e : TypeId} {x : Operand} {ox : Opd} (hx : opd e x = some ox) {t : D} {r : Option Nat}
    (h : argOf (view (St.erase τ) ox) = some (t, r)) :
    ∃ tl : L, tl.erase = t ∧ tl.val = a.eval x ∧ tl.Ok P w ∧
      match r with
      | none => tl.plain = true ∧ ∀ b ∈ tl.rdb, (∃ s, b ∈ (τ s).rdb) ∨ ∃ s ∈ (view (St.erase τ) ox).slots, b ∈ (τ s).foot
      | some s => tl.isBox = true ∧ τ s = .own tl := by
  rcases argOf_cases h with ⟨rfl, u, h1, rfl, h2⟩ | ⟨s, rfl, hb, h1⟩
  · obtain ⟨tl, g1, g2, g3, g4, g5, _⟩ := readK hi hx h1
    refine ⟨tl.roize, by rw [roize_erase, g1], by rw [roize_val, g2], roize_ok g3, ?_, ?_⟩
    · rw [← plain_erase, roize_erase, g1]; exact h2
    · intro b hb
      rcases roize_rdb tl b hb with h | h
      · exact (g5 b h).imp id fun h => h.1
      · exact .inr (g4 b h)
  · rcases view_cases (τ := τ) hx with ⟨s', rfl, rfl, hsv, hsl, htr⟩ | ⟨v, dd, rfl, rfl, hc⟩
    · have hev : a.eval (.tmp s') = a.tmps.getD s' Go.undef := rfl
      have hden := hi.den s'
      rcases h1 with ⟨h1, h2⟩ | ⟨h1, h2⟩
      · rw [hsl] at h2; cases h2
        rw [hsv] at h1
        obtain ⟨tl, k1, k2⟩ := erase_own h1
        rw [k1] at hden
        exact ⟨tl, k2, hden.symm, hi.ok s tl (by simp [k1, SV.trees]), by rw [← isBox_erase, k2]; exact hb, k1⟩
      · rw [hsv] at h1
        cases hs : τ s' with
        | ref r' p' =>
          rw [hs] at h1 hden
          simp only [SV.erase, SV.ref.injEq] at h1
          obtain ⟨rfl, rfl⟩ := h1
          obtain ⟨tl, c, e1, e2, e3, e4⟩ := hden
          simp only [Tr.look, Option.some.injEq] at e2; subst e2
          rw [htr, hs] at h2
          simp only [SV.root?, e1, Option.some.injEq] at h2
          exact ⟨tl, h2, e4.symm, hi.ok r' tl (by simp [e1, SV.trees]), by rw [← isBox_erase, h2]; exact hb, e1⟩
        | _ => rw [hs] at h1; simp [SV.erase] at h1
    · rcases h1 with ⟨h1, h2⟩ | ⟨h1, h2⟩ <;> simp [view] at h1 h2

def argFacts (P : Program) (w : World) (τ : St Phys) (ss : List Nat) (p : L × Option Nat) : Prop := p.1.Ok P w ∧
  match p.2 with
  | none => p.1.plain = true ∧ ∀ b ∈ p.1.rdb, (∃ s, b ∈ (τ s).rdb) ∨ ∃ s ∈ ss, b ∈ (τ s).foot
  | some s => p.1.isBox = true ∧ τ s = .own p.1

theorem args_spec {w0 w : World} {τ : St Phys} {a : Act} (hi : Inv P n lent w0 τ a w) : ∀ {os : List Opd} {xs : List (TypeId × Operand)} (hx : xs.map (fun x => opd x.1 x.2) = os.map some) {as : List (D × Option Nat)} {ss : List Nat}
    (h : argsOf (os.map (view (St.erase τ))) = some (as, ss)),
    ∃ tl : List (L × Option Nat), tl.map (fun p => (p.1.erase, p.2)) = as ∧ tl.map (fun p => p.1.val) = xs.map (fun x => a.eval x.2) ∧ ∀ p ∈ tl, argFacts P w τ ss p
  | [], xs, hx, as, ss, h => by
    simp at hx; subst hx
    simp [argsOf] at h
    obtain ⟨rfl, rfl⟩ := h
    exact ⟨[], rfl, rfl, by simp⟩
  | ox :: os, [], hx, as, ss, h => by simp at hx
  | ox :: os, (e, x) :: xs, hx, as, ss, h => by
    simp only [List.map_cons, List.cons.injEq] at hx
    simp only [List.map_cons, argsOf] at h
    cases h1 : argOf (view (St.erase τ) ox) with
    | none => rw [h1] at h; cases h2 : argsOf (os.map (view (St.erase τ))) <;> simp [h2, argCons] at h
    | some y =>
      obtain ⟨t, r⟩ := y
      cases h2 : argsOf (os.map (view (St.erase τ))) with
      | none => rw [h1, h2] at h; cases r <;> simp [argCons] at h
      | some z =>
        obtain ⟨as', ss'⟩ := z
        rw [h1, h2] at h
        obtain ⟨tl, g1, g2, g3⟩ := args_spec hi hx.2 h2
        obtain ⟨t1, k1, k2, k3, k4⟩ := arg_spec hi hx.1 h1
        cases r with
        | none =>
          simp only [argCons, Option.some.injEq, Prod.mk.injEq] at h
          obtain ⟨rfl, rfl⟩ := h
          refine ⟨(t1, none) :: tl, by simp [k1, g1], by simp [k2, g2], ?_⟩
          intro p hp
          rcases List.mem_cons.1 hp with rfl | hp
          · exact ⟨k3, k4.1, fun b hb => (k4.2 b hb).imp id fun ⟨s, hs, h⟩ => ⟨s, List.mem_append.2 (.inl hs), h⟩⟩
          · obtain ⟨q1, q2⟩ := g3 p hp
            refine ⟨q1, ?_⟩
            obtain ⟨p1, p2⟩ := p
            cases p2 with
            | none => exact ⟨q2.1, fun b hb => (q2.2 b hb).imp id fun ⟨s, hs, h⟩ => ⟨s, List.mem_append.2 (.inr hs), h⟩⟩
            | some s => exact q2
        | some s =>
          simp only [argCons, Option.some.injEq, Prod.mk.injEq] at h
          obtain ⟨rfl, rfl⟩ := h
          refine ⟨(t1, some s) :: tl, by simp [k1, g1], by simp [k2, g2], ?_⟩
          intro p hp
          rcases List.mem_cons.1 hp with rfl | hp
          · exact ⟨k3, k4⟩
          · exact g3 p hp

/-- the blocks of what is lent -/
theorem args_foot {w0 w : World} {τ : St Phys} {a : Act} (hi : Inv P n lent w0 τ a w) {ss : List Nat} : ∀ (tl : List (L × Option Nat)), (∀ p ∈ tl, argFacts P w τ ss p) → (tl.filterMap (·.2)).Nodup →
    (tl.flatMap fun p => p.1.foot).Nodup ∧ ∀ b ∈ tl.flatMap (fun p => p.1.foot), ∃ s ∈ tl.filterMap (·.2), b ∈ (τ s).foot
  | [], _, _ => by simp
  | (t, none) :: tl, h, hn => by
    have h1 := (h (t, none) (by simp)).2.1
    have := args_foot hi tl (fun p hp => h p (by simp [hp])) (by simpa using hn)
    simpa [plain_foot h1] using this
  | (t, some s) :: tl, h, hn => by
    obtain ⟨h1, h2, h3⟩ := h (t, some s) (by simp)
    simp only [List.filterMap_cons, List.nodup_cons] at hn
    obtain ⟨g1, g2⟩ := args_foot hi tl (fun p hp => h p (by simp [hp])) hn.2
    have hf : t.foot = (τ s).foot := by simp [h3, SV.foot, SV.trees]
    simp only [List.flatMap_cons, List.filterMap_cons]
    refine ⟨List.nodup_append.2 ⟨by rw [hf]; exact hi.nod s, g1, fun b hb c hc e => ?_⟩, fun b hb => ?_⟩
    · subst e
      obtain ⟨s', hs', hbs'⟩ := g2 b hc
      exact hi.sep s s' (fun e => hn.1 (e ▸ hs')) b (hf ▸ hb) hbs'
    · rcases List.mem_append.1 hb with hb | hb
      · exact ⟨s, by simp, hf ▸ hb⟩
      · obtain ⟨s', hs', h⟩ := g2 b hb; exact ⟨s', by simp [hs'], h⟩

theorem lentOf_map (tl : List (L × Option Nat)) : lentOf (tl.map fun p => (p.1.erase, p.2)) = tl.filterMap (·.2) := by
  induction tl with
  | nil => rfl
  | cons p tl ih => obtain ⟨t, r⟩ := p; cases r <;> simp [lentOf, ih]
theorem filter_box {w : World} {τ : St Phys} {ss : List Nat} : ∀ (tl : List (L × Option Nat)), (∀ p ∈ tl, argFacts P w τ ss p) → (tl.map (·.1)).filter Tr.isBox = (tl.filterMap fun p => p.2.map fun _ => p.1)
  | [], _ => rfl
  | (t, none) :: tl, h => by
    have h1 := (h (t, none) (by simp)).2.1
    have : t.isBox = false := by cases hb : t.isBox with | false => rfl | true => rw [box_plain hb] at h1; cases h1
    simp only [List.map_cons, List.filterMap_cons, Option.map_none, List.filter_cons, this]
    simpa using filter_box tl fun p hp => h p (by simp [hp])
  | (t, some s) :: tl, h => by
    have h1 := (h (t, some s) (by simp)).2.1
    simp only [List.map_cons, List.filterMap_cons, Option.map_some, List.filter_cons, h1, if_true]
    rw [filter_box tl fun p hp => h p (by simp [hp])]
end Go.VC
end

section
set_option linter.unusedVariables false
set_option linter.unusedSimpArgs false
namespace Go.VC
variable {P : Program} {n : Nat} {lent : List Nat} {o : Oper} {d : Nat}

def backP : List Nat → List L → Ws Phys
  | r :: rs, t :: ts => (r, .own t, false) :: backP rs ts
  | _, _ => []
def dstP : Option Nat → List L → Ws Phys
  | none, _ => []
  | some d, [t] => [(d, .own t, false)]
  | some d, ts => [(d, .tup (ts.map some), false)]
theorem backP_erase : ∀ (rs : List Nat) (ts : List L), Ws.erase (backP rs ts) = backW rs (ts.map Tr.erase)
  | [], [] => rfl
  | [], _ :: _ => rfl
  | _ :: _, [] => rfl
  | r :: rs, t :: ts => by
    have := backP_erase rs ts
    simp only [backP, List.map_cons, backW, ← this]; rfl
theorem dstP_erase (d : Option Nat) (ts : List L) : Ws.erase (dstP d ts) = dstW d (ts.map Tr.erase) := by
  cases d with
  | none => rfl
  | some d =>
    match ts with
    | [] => rfl
    | [t] => rfl
    | t :: u :: ts => simp [dstP, dstW, Ws.erase, SV.erase, List.map_map, Function.comp_def]
theorem ws_append_erase (a b : Ws Phys) : Ws.erase (a ++ b) = Ws.erase a ++ Ws.erase b := by simp [Ws.erase]
theorem backP_mem {s : Nat} {v : SV Phys} {k : Bool} : ∀ {rs : List Nat} {ts : List L}, (s, v, k) ∈ backP rs ts → k = false ∧ s ∈ rs ∧ ∃ (i : Nat) (t : L), rs[i]? = some s ∧ ts[i]? = some t ∧ v = .own t
  | [], _, h => by cases h
  | _ :: _, [], h => by cases h
  | r :: rs, t :: ts, h => by
    simp only [backP, List.mem_cons] at h
    rcases h with h | h
    · cases h; exact ⟨rfl, by simp, 0, t, rfl, rfl, rfl⟩
    · obtain ⟨h1, h2, i, u, h3, h4, h5⟩ := backP_mem h
      exact ⟨h1, by simp [h2], i + 1, u, by simpa using h3, by simpa using h4, h5⟩
theorem backP_keys : ∀ {rs : List Nat} {ts : List L}, rs.length = ts.length → (backP rs ts).map (·.1) = rs
  | [], [], _ => rfl
  | [], _ :: _, h => by simp at h
  | _ :: _, [], h => by simp at h
  | r :: rs, t :: ts, h => by simp only [backP, List.map_cons, backP_keys (show rs.length = ts.length by simpa using h)]
theorem dstP_keys (d : Option Nat) (ts : List L) : (dstP d ts).map (·.1) = d.toList := by
  cases d with
  | none => rfl
  | some d => match ts with
    | [] => rfl
    | [t] => rfl
    | t :: u :: ts => rfl
theorem lookup_mem' {α : Type} {s : Nat} {v : SV α} {k : Bool} : ∀ {ws : Ws α}, ws.lookup s = some (v, k) → (s, v, k) ∈ ws
  | (a, b) :: l, h => by
    simp only [List.lookup_cons] at h
    cases hsa : (s == a) with
    | true => have : s = a := by simpa using hsa
              subst this; rw [hsa] at h; simp at h; simp [h]
    | false => rw [hsa] at h; exact List.mem_cons_of_mem _ (lookup_mem' h)
theorem mem_lookup {α : Type} {s : Nat} : ∀ {ws : Ws α}, s ∈ ws.map (·.1) → ws.lookup s ≠ none
  | (a, b) :: l, h => by
    simp only [List.lookup_cons]
    cases hsa : (s == a) with
    | true => simp
    | false =>
      simp only [List.map_cons, List.mem_cons] at h
      rcases h with h | h
      · simp [h] at hsa
      · exact mem_lookup h
theorem get_lent {w : World} {τ : St Phys} {ss : List Nat} : ∀ {tl : List (L × Option Nat)}, (∀ p ∈ tl, argFacts P w τ ss p) → ∀ {i s : Nat}, (tl.filterMap (·.2))[i]? = some s → ∃ t, (tl.filterMap fun p => p.2.map fun _ => p.1)[i]? = some t ∧ τ s = .own t
  | [], _, i, s, h => by simp at h
  | (t, none) :: tl, hf, i, s, h => by
    simp only [List.filterMap_cons, Option.map_none] at h ⊢
    exact get_lent (fun p hp => hf p (by simp [hp])) h
  | (t, some r) :: tl, hf, i, s, h => by
    simp only [List.filterMap_cons, Option.map_some] at h ⊢
    cases i with
    | zero => simp at h; subst h; exact ⟨t, rfl, (hf _ (List.mem_cons_self ..)).2.2⟩
    | succ i => simp only [List.getElem?_cons_succ] at h ⊢; exact get_lent (fun p hp => hf p (by simp [hp])) h

theorem flat_disj {α β : Type} {f : α → List β} : ∀ {l : List α}, (l.flatMap f).Nodup → ∀ {i j : Nat}, i ≠ j → ∀ {x y : α}, l[i]? = some x → l[j]? = some y → ∀ b ∈ f x, b ∈ f y → False
  | [], _, i, j, _, x, y, h, _, _, _, _ => by simp at h
  | z :: l, hn, i, j, hij, x, y, hx, hy, b, hb, hb' => by
    simp only [List.flatMap_cons] at hn
    obtain ⟨n1, n2, n3⟩ := List.nodup_append.1 hn
    cases i with
    | zero =>
      cases j with
      | zero => exact hij rfl
      | succ j =>
        simp only [List.getElem?_cons_zero, Option.some.injEq, List.getElem?_cons_succ] at hx hy
        subst hx
        exact n3 b hb b (List.mem_flatMap.2 ⟨y, List.mem_of_getElem? hy, hb'⟩) rfl
    | succ i =>
      cases j with
      | zero =>
        simp only [List.getElem?_cons_zero, Option.some.injEq, List.getElem?_cons_succ] at hx hy
        subst hy
        exact n3 b hb' b (List.mem_flatMap.2 ⟨x, List.mem_of_getElem? hx, hb⟩) rfl
      | succ j =>
        simp only [List.getElem?_cons_succ] at hx hy
        exact flat_disj n2 (fun e => hij (by omega)) hx hy b hb hb'

theorem run_callFunc_in {f : FuncId} {fn : Func} {vs : Array Value} {w : World} (h1 : P.funcs[f]? = some fn) (h2 : (fn.name == "runtime.NumGoroutine") = false) (h3 : fn.body.isNone = false) : (callFunc f vs).run P w = .ok (.enter f vs) w := by
  unfold callFunc
  have hp : (program).run P w = .ok P w := by simp
  rw [run_bind hp, h1]
  simp only
  rw [h2, h3]
  simp

theorem snd_call {S : List D → Spec} {f : FuncId} (hf : FnOk P f S) (hd : ∀ d, o.dst = some d → d < n) {xs : List (TypeId × Operand)} {os : List Opd} (hx : xs.map (fun x => opd x.1 x.2) = os.map some) {ats : Array TypeId} {args : Array Operand} (hargs : args.toList = xs.map (·.2))
    (ho : o.op = .call { callee := .value (.func f), args := args, argTypes := ats })
    {w0 w : World} {τ : St Phys} {a : Act} {as : List (D × Option Nat)} {ss : List Nat} {K : Act → World → Prop} {Q : Exit → Act → World → Prop} (hi : Inv P n lent w0 τ a w)
    (has : argsOf (os.map (view (St.erase τ))) = some (as, ss)) (hok : okCall o.dst (lentOf as) ss = true) (hp : (S (as.map (·.1))).pre)
    (hk : ∀ rs fin τ' a' w', (S (as.map (·.1))).post rs fin → fin.length = (lentOf as).length → St.erase τ' = puts (dstW o.dst rs ++ backW (lentOf as) fin) (St.erase τ) → Inv P n lent w0 τ' a' w' → K a' w') : o.wp P a w K Q := by
  obtain ⟨hent, hf⟩ := hf
  obtain ⟨tl, t1, t2, t3⟩ := args_spec hi hx has
  subst t1
  rw [lentOf_map] at hok hk
  simp only [List.map_map, Function.comp_def] at hp hk
  have hmm : tl.map (fun p => p.1.erase) = (tl.map (·.1)).map Tr.erase := by simp
  rw [hmm] at hp hk
  simp only [okCall, Bool.and_eq_true] at hok
  obtain ⟨hnd, hsrc⟩ := hok
  have hnd' : (o.dst.toList ++ tl.filterMap (·.2)).Nodup := by
    have : ∀ l : List Nat, nodupB l = true → l.Nodup := by
      intro l
      induction l with
      | nil => simp
      | cons x l ih => intro hl; simp [nodupB] at hl; simp [hl.1, ih hl.2]
    exact this _ hnd
  have hln : (tl.filterMap (·.2)).Nodup := (List.nodup_append.1 hnd').2.1
  have hdl : ∀ d, o.dst = some d → d ∉ tl.filterMap (·.2) := fun d hd hm => (List.nodup_append.1 hnd').2.2 d (by simp [hd]) d hm rfl
  obtain ⟨f1, f2⟩ := args_foot hi tl t3 hln
  let ts : List L := tl.map (·.1)
  have hfoot : ts.flatMap Tr.foot = tl.flatMap fun p => p.1.foot := by simp [ts, List.flatMap_map]
  have hsrc' : ∀ s ∈ ss, s ∉ tl.filterMap (·.2) := by
    intro s hs hm
    have := List.all_eq_true.1 hsrc s hs
    simp only [Bool.not_eq_true', List.contains_eq_mem, decide_eq_false_iff_not] at this
    exact this hm
  have hr : ∀ b ∈ ts.flatMap Tr.rdb, b ∉ ts.flatMap Tr.foot ∧ b < w.heap.size := by
    intro b hb
    obtain ⟨t, ht, hbt⟩ := List.mem_flatMap.1 hb
    obtain ⟨p, hp1, rfl⟩ := List.mem_map.1 ht
    obtain ⟨q1, q2⟩ := t3 p hp1
    have hcase : (∃ s, b ∈ (τ s).rdb) ∨ ∃ s ∈ ss, b ∈ (τ s).foot := by
      obtain ⟨p1, p2⟩ := p
      cases p2 with
      | none => exact q2.2 b hbt
      | some s => exact .inl ⟨s, by simpa [q2.2, SV.rdb, SV.trees] using hbt⟩
    rw [hfoot]
    refine ⟨fun hm => ?_, ?_⟩
    · obtain ⟨s', hs', hbs'⟩ := f2 b hm
      rcases hcase with ⟨s, hs⟩ | ⟨s, hs, hbs⟩
      · exact hi.ros s s' b hs hbs'
      · exact hi.sep s s' (fun e => hsrc' s hs (e ▸ hs')) b hbs hbs'
    · rcases hcase with ⟨s, hs⟩ | ⟨s, hs, hbs⟩
      · exact hi.lt (.inr hs)
      · exact hi.lt (.inl hbs)
  have hcalls := hf ts w hp (fun t ht => by
      obtain ⟨p, hp1, rfl⟩ := List.mem_map.1 ht
      obtain ⟨q1, q2⟩ := t3 p hp1
      refine ⟨q1, ?_⟩
      obtain ⟨p1, p2⟩ := p
      cases p2 with
      | none => exact .inl q2.1
      | some s => exact .inr q2.1) (by rw [hfoot]; exact f1) (by rw [hfoot]; intro b hb; obtain ⟨s, _, hs⟩ := f2 b hb; exact hi.lt (.inl hs)) hr
  -- the operation enters the function
  have hvals : args.map a.eval = (ts.map Tr.val).toArray := by
    apply Array.ext'
    rw [Array.toList_map, hargs]
    simp only [ts, List.map_map, Function.comp_def]
    exact t2.symm
  have hrun : (execOp a.eval o).run P w = .ok (.enter f (ts.map Tr.val).toArray) w := by
    obtain ⟨fn, e1, e2, e3⟩ := hent
    unfold execOp; rw [ho]
    have hev : a.eval (.func f) = .func (.func f) #[] #[] := rfl
    simp only [resolve, hev, Deferred.ofValue, pure_bind, invoke, hvals]
    have e0 : (#[] ++ (ts.map Tr.val).toArray ++ #[] : Array Value) = (ts.map Tr.val).toArray := by simp
    rw [e0]
    exact run_callFunc_in e1 e2 e3
  unfold Oper.wp
  rw [hrun, Oper.upon_enter]
  refine hcalls.mono ?_
  rintro e w' ⟨rs, fin, rfl, hpost, hkeep, hfv, hro, hrn, hrl⟩
  simp only
  have hfl : fin.length = (tl.filterMap (·.2)).length := by
    have := congrArg List.length hfv
    rw [filter_box tl t3] at this
    simp only [List.length_map] at this
    rw [this]
    clear this hfv hpost hp hk hcalls hrun hvals t2 hnd hsrc hnd' hln hdl f1 f2 hfoot hsrc' hr t3 hro hrn hrl hkeep has hmm ts
    induction tl with
    | nil => rfl
    | cons p tl ih => obtain ⟨p1, p2⟩ := p; cases p2 <;> simp [ih]
  let ws : Ws Phys := dstP o.dst rs ++ backP (tl.filterMap (·.2)) fin
  have hkeys : ws.map (·.1) = o.dst.toList ++ tl.filterMap (·.2) := by
    simp only [ws, List.map_append, dstP_keys, backP_keys hfl.symm]
  have hmem : ∀ {s v k}, ws.lookup s = some (v, k) → k = false ∧ ((o.dst = some s ∧ (s, v, k) ∈ dstP o.dst rs) ∨ (s, v, k) ∈ backP (tl.filterMap (·.2)) fin) := by
    intro s v k h
    have hm := lookup_mem' h
    rcases List.mem_append.1 hm with h1 | h1
    · have hk : k = false ∧ o.dst = some s := by
        cases hdd : o.dst with
        | none => rw [hdd] at h1; cases h1
        | some d =>
          rw [hdd] at h1
          match rs, h1 with
          | [], h1 => simp [dstP] at h1; exact ⟨h1.2.2, by rw [h1.1]⟩
          | [t], h1 => simp [dstP] at h1; exact ⟨h1.2.2, by rw [h1.1]⟩
          | t :: u :: ts, h1 => simp [dstP] at h1; exact ⟨h1.2.2, by rw [h1.1]⟩
      exact ⟨hk.1, .inl ⟨hk.2, h1⟩⟩
    · exact ⟨(backP_mem h1).1, .inr h1⟩
  -- what the trees of an entry are
  have htrees : ∀ {s v k}, ws.lookup s = some (v, k) → (o.dst = some s ∧ v.trees = rs) ∨ (∃ (i : Nat) (t : L), (tl.filterMap (·.2))[i]? = some s ∧ fin[i]? = some t ∧ v = .own t) := by
    intro s v k h
    rcases (hmem h).2 with ⟨h1, h2⟩ | h1
    · left
      refine ⟨h1, ?_⟩
      rw [h1] at h2
      match rs, h2 with
      | [], h2 => simp [dstP] at h2; rw [h2.1]; rfl
      | [t], h2 => simp [dstP] at h2; rw [h2.1]; rfl
      | t :: u :: ts, h2 => simp [dstP] at h2; rw [h2.1]; simp [SV.trees, List.filterMap_map]
    · obtain ⟨_, _, i, t, q1, q2, q3⟩ := backP_mem h1
      exact .inr ⟨i, t, q1, q2, q3⟩
  have hlentb : ∀ b ∈ ts.flatMap Tr.foot, ∃ s', ws.lookup s' ≠ none ∧ b ∈ (τ s').foot := by
    intro b hb
    rw [hfoot] at hb
    obtain ⟨s, hs, h⟩ := f2 b hb
    exact ⟨s, mem_lookup (by rw [hkeys]; exact List.mem_append.2 (.inr hs)), h⟩
  have hrf : ∀ {s v k}, ws.lookup s = some (v, k) → ∀ t ∈ v.trees, t ∈ rs ++ fin := by
    intro s v k h t ht
    rcases htrees h with ⟨_, h2⟩ | ⟨i, t', _, h3, rfl⟩
    · rw [h2] at ht; exact List.mem_append.2 (.inl ht)
    · simp [SV.trees] at ht; subst ht; exact List.mem_append.2 (.inr (List.mem_of_getElem? h3))
  have hd' : ∀ d, o.dst = some d → d < a.tmps.size := fun d h => by rw [hi.tsz]; exact hd d h
  have hput : ∀ (s : Nat) (v : Value), o.dst ≠ some s → (a.put o.dst v).tmps.getD s Go.undef = a.tmps.getD s Go.undef := by
    intro s v hs
    cases hdd : o.dst with
    | none => rfl
    | some d => rw [put_tmps (hd' d hdd), if_neg]; rintro rfl; exact hs hdd
  refine hk (rs.map Tr.erase) (fin.map Tr.erase) (puts ws τ) _ _ hpost (by simpa using hfl) ?_ (hi.upd ws ?_ ?_ ?_ ?_ ?_ ?_ ?_ ?_ ?_ ?_ ?_ ?_)
  · rw [puts_erase, ws_append_erase, dstP_erase, backP_erase]
  · cases hdd : o.dst <;> simp [Act.put, hi.tsz]
  · cases hdd : o.dst <;> simpa [Act.put] using hi.dfr
  · intro s v k h
    rcases (hmem h).2 with ⟨h1, h2⟩ | h1
    · rw [h1] at h2 ⊢
      rw [put_tmps (hd' s h1), if_pos rfl]
      match rs, h2 with
      | [], h2 => simp [dstP] at h2; rw [h2.1]; exact ⟨[], rfl, rfl, by simp⟩
      | [t], h2 => simp [dstP] at h2; rw [h2.1]; rfl
      | t :: u :: ts, h2 =>
        simp [dstP] at h2; rw [h2.1]
        refine ⟨(t :: u :: ts).map Tr.val, rfl, by simp, fun i x hx => ?_⟩
        rw [← List.map_cons, ← List.map_cons, List.getElem?_map] at hx
        cases hg : (t :: u :: ts)[i]? with
        | none => rw [hg] at hx; simp at hx
        | some y => rw [hg] at hx; simp at hx; subst hx; rw [List.getElem?_map, hg]; rfl
    · obtain ⟨_, q0, i, t, q1, q2, rfl⟩ := backP_mem h1
      have hne : o.dst ≠ some s := fun e => hdl s e q0
      rw [hput s _ hne]
      obtain ⟨tb, k1, k2⟩ := get_lent t3 q1
      have hden := hi.den s
      rw [k2] at hden
      have hval : t.val = tb.val := by
        have e1 : (fin.map Tr.val)[i]? = some t.val := by rw [List.getElem?_map, q2]; rfl
        rw [hfv, filter_box tl t3, List.getElem?_map, k1] at e1
        simp only [Option.map_some, Option.some.injEq] at e1
        exact e1.symm
      show a.tmps.getD s Go.undef = t.val
      rw [hval]; exact hden
  · intro s v h; have := (hmem h).1; cases this
  · intro s hs
    refine hput s _ fun e => ?_
    exact mem_lookup (by rw [hkeys, e]; simp) hs
  · exact ⟨hkeep.os, hkeep.tape, hkeep.output, hkeep.size⟩
  · intro b hb hbs
    refine hkeep.block b hb fun hm => ?_
    obtain ⟨s', h1, h2⟩ := hlentb b hm
    exact hbs s' h1 h2
  · intro s v k h t ht; exact (hro t (hrf h t ht)).1
  · intro s v k h
    have h2 := List.nodup_append.1 (by rw [List.flatMap_append] at hrn; exact hrn : (rs.flatMap Tr.foot ++ fin.flatMap Tr.foot).Nodup)
    rcases htrees h with ⟨_, h1⟩ | ⟨i, t, _, h3, rfl⟩
    · simp only [SV.foot, h1]; exact h2.1
    · simp only [SV.foot, SV.trees, List.flatMap_cons, List.flatMap_nil, List.append_nil]
      obtain ⟨B, p1, _⟩ := flat_split Tr.foot h3
      exact (List.nodup_append.1 (p1.nodup_iff.1 h2.2.1)).1
  · intro s v k h b hb
    obtain ⟨t, ht, hbt⟩ := List.mem_flatMap.1 hb
    obtain ⟨q1, q2⟩ := hrl b (List.mem_flatMap.2 ⟨t, hrf h t ht, hbt⟩)
    exact ⟨q2.elim .inr fun h => .inl (hlentb b h), q1⟩
  · intro s v k s' v' k' hne h h' b hb hb'
    rw [List.flatMap_append] at hrn
    obtain ⟨m1, m2, m3⟩ := List.nodup_append.1 hrn
    have back : ∀ {s : Nat} {v : SV Phys}, (∃ (i : Nat) (t : L), (tl.filterMap (·.2))[i]? = some s ∧ fin[i]? = some t ∧ v = SV.own t) → ∀ b ∈ v.foot, b ∈ fin.flatMap Tr.foot := by
      rintro s v ⟨i, t, _, h3, rfl⟩ b hb
      simp only [SV.foot, SV.trees, List.flatMap_cons, List.flatMap_nil, List.append_nil] at hb
      exact List.mem_flatMap.2 ⟨t, List.mem_of_getElem? h3, hb⟩
    rcases htrees h with ⟨e1, h1⟩ | h1 <;> rcases htrees h' with ⟨e2, h2⟩ | h2
    · rw [e1] at e2; exact hne (by simpa using e2)
    · simp only [SV.foot, h1] at hb
      exact m3 b hb b (back h2 b hb') rfl
    · simp only [SV.foot, h2] at hb'
      exact m3 b hb' b (back h1 b hb) rfl
    · obtain ⟨i, t, g1, g2, rfl⟩ := h1
      obtain ⟨i', t', g3, g4, rfl⟩ := h2
      simp only [SV.foot, SV.trees, List.flatMap_cons, List.flatMap_nil, List.append_nil] at hb hb'
      have hii : i ≠ i' := by rintro rfl; rw [g1] at g3; exact hne (by simpa using g3)
      exact flat_disj m2 hii g2 g4 b hb hb'
  · intro s v k h b hb
    obtain ⟨t, ht, hbt⟩ := List.mem_flatMap.1 hb
    rw [(hro t (hrf h t ht)).2] at hbt; cases hbt
end Go.VC
end

section
set_option linter.unusedVariables false
set_option linter.unusedSimpArgs false
namespace Go.VC
variable {P : Program} {n : Nat} {lent : List Nat} {o : Oper} {d : Nat}

structure MEff where
  pre : Prop
  ch : Ws Unit → Prop
def callE (C : Con) (d : Option Nat) (f : FuncId) : Ags → Option MEff
  | none => none
  | some (as, ss) => bif okCall d (lentOf as) ss then some ⟨(C f (as.map (·.1))).pre, fun ws => ∃ rs fin, (C f (as.map (·.1))).post rs fin ∧ fin.length = (lentOf as).length ∧ ws = dstW d rs ++ backW (lentOf as) fin⟩ else none
def effE : Option Eff → Option MEff
  | none => none
  | some E => some ⟨E.pre, fun ws => ws = E.ws⟩
def effC (C : Con) (op : MO) (d : Option Nat) (σ : St Unit) : Option MEff := match op with
  | .call f xs => callE C d f (argsOf (xs.map (view σ)))
  | op => effE (op.eff d σ)
def effM (C : Con) (m : MOp) (σ : St Unit) : Option MEff := match m.g with
  | none => effC C m.op m.d σ
  | some (s, b) => match σ s with
    | .own (.nd (.bool t) []) => if t = b then effC C m.op m.d σ else some ⟨True, fun ws => ws = skipW m.d⟩
    | .tup [] => some ⟨True, fun ws => ws = skipW m.d⟩
    | _ => none

/-- an operation of the code, and what is told of it -/
structure SndOp (P : Program) (n : Nat) (lent : List Nat) (C : Con) (m : MOp) (ops : Array Oper) (o : Oper) : Prop where
  dst : o.dst = m.d
  lt : ∀ d, m.d = some d → d < n
  guard : match m.g, o.guard with
    | none, none => True
    | some (s, b), some (j, b') => b = b' ∧ (ops[j]?).bind (·.dst) = some s
    | _, _ => False
  sound : ∀ (w0 : World) (τ : St Phys) (a : Act) (w : World) (F : MEff) (K : Act → World → Prop) (Q : Exit → Act → World → Prop), Inv P n lent w0 τ a w → effC C m.op m.d (St.erase τ) = some F → F.pre →
    (∀ ws τ' a' w', F.ch ws → St.erase τ' = puts ws (St.erase τ) → Inv P n lent w0 τ' a' w' → K a' w') → o.wp P a w K Q

theorem puts_nil {α : Type} (σ : St α) : puts [] σ = σ := by
  funext s
  unfold puts
  simp only [List.lookup_nil]
  cases (σ s).root? <;> rfl

/-- what an operation leaves of the other slots -/
theorem wp_frame {a : Act} {w : World} {K : Act → World → Prop} {Q : Exit → Act → World → Prop} (h : o.wp P a w K Q) :
    o.wp P a w (fun a' w' => K a' w' ∧ ∀ s, o.dst ≠ some s → a'.tmps.getD s Go.undef = a.tmps.getD s Go.undef) Q := by
  have hput : ∀ (a' : Act), a'.tmps = a.tmps → ∀ (v : Value) (s : Nat), o.dst ≠ some s → (a'.put o.dst v).tmps.getD s Go.undef = a.tmps.getD s Go.undef := by
    intro a' ha v s hs
    cases hd : o.dst with
    | none => simp [Act.put, ha]
    | some d =>
      have hne : d ≠ s := by rintro rfl; exact hs hd
      simp only [Act.put, ha, Array.getD_eq_getD_getElem?, Array.getElem?_setIfInBounds_ne hne]
  unfold Oper.wp at *
  generalize (execOp a.eval o).run P w = r at *
  cases r with
  | ok nx w' =>
    cases nx <;> simp only [Oper.upon] at h ⊢ <;>
      first
        | exact ⟨h, hput _ (by rfl) _⟩
        | exact Calls.mono h (fun e w'' he => by cases e <;> first | exact ⟨he, hput _ (by rfl) _⟩ | exact he)
        | exact Rows.mono h (fun _ _ he => ⟨he, hput _ (by rfl) _⟩)
  | halt x w' => cases x <;> simp only [Oper.upon] at h ⊢ <;> exact h

abbrev Pins := List (Nat × Value)
structure J (P : Program) (n : Nat) (lent : List Nat) (pins : Pins) (w0 : World) (τ : St Phys) (a : Act) (w : World) : Prop where
  inv : Inv P n lent w0 τ a w
  pin : ∀ p ∈ pins, a.tmps.getD p.1 Go.undef = p.2

theorem wanted_none {ops : Array Oper} {a : Act} (h : o.guard = none) : Region.wanted o (yielded ops a.tmps) = true := by
  unfold Region.wanted; rw [h]
theorem wanted_some {ops : Array Oper} {a : Act} {j s : Nat} {b : Bool} (h : o.guard = some (j, b)) (hs : (ops[j]?).bind (·.dst) = some s) :
    (∀ t, a.tmps.getD s Go.undef = .bool t → Region.wanted o (yielded ops a.tmps) = (t == b)) ∧ (a.tmps.getD s Go.undef = .tuple #[] → Region.wanted o (yielded ops a.tmps) = false) := by
  constructor
  · intro t ht
    have hg : a.tmps[s]? = some (.bool t) := by
      rw [Array.getD_eq_getD_getElem?] at ht
      cases hx : a.tmps[s]? with
      | none => rw [hx] at ht; simp [Go.undef] at ht
      | some v => rw [hx] at ht; simpa using ht
    simp only [Region.wanted, h, yielded, hs, Option.bind_some, hg]
    cases t <;> cases b <;> rfl
  · intro ht
    have hg : a.tmps[s]? = some (.tuple #[]) ∨ a.tmps[s]? = none := by
      rw [Array.getD_eq_getD_getElem?] at ht
      cases hx : a.tmps[s]? with
      | none => exact .inr rfl
      | some v => rw [hx] at ht; left; simpa using ht
    simp only [Region.wanted, h, yielded, hs, Option.bind_some]
    rcases hg with hg | hg <;> rw [hg] <;> rfl

/-- one operation of a region -/
theorem SndOp.step {C : Con} {m : MOp} {ops : Array Oper} (h : SndOp P n lent C m ops o) {pins : Pins} (hpin : ∀ p ∈ pins, m.d ≠ some p.1) {w0 w : World} {τ : St Phys} {a : Act} (hj : J P n lent pins w0 τ a w)
    {F : MEff} (hF : effM C m (St.erase τ) = some F) (hp : F.pre) {K : Act → World → Prop} {Q : Exit → Act → World → Prop}
    (hk : ∀ ws τ' a' w', F.ch ws → St.erase τ' = puts ws (St.erase τ) → J P n lent pins w0 τ' a' w' → K a' w') :
    if Region.wanted o (yielded ops a.tmps) then o.wp P a w K Q ∨ (o.asks P a w ∧ LetsOut Q) else K (a.put o.dst Go.undef) w := by
  have hrun : ∀ F, effC C m.op m.d (St.erase τ) = some F → F.pre → (∀ ws τ' a' w', F.ch ws → St.erase τ' = puts ws (St.erase τ) → J P n lent pins w0 τ' a' w' → K a' w') → o.wp P a w K Q := by
    intro F hF hp hk
    have h1 := h.sound w0 τ a w F (fun a' w' => (∀ s, o.dst ≠ some s → a'.tmps.getD s Go.undef = a.tmps.getD s Go.undef) → K a' w') Q hj.inv hF hp (fun ws τ' a' w' h1 h2 h3 h4 => hk ws τ' a' w' h1 h2 ⟨h3, fun p hp => by
      rw [h4 p.1 (by rw [h.dst]; exact hpin p hp)]; exact hj.pin p hp⟩)
    exact Oper.wp_mono (fun a' w' hh => hh.1 hh.2) (wp_frame h1)
  have hskip : F = ⟨True, fun ws => ws = skipW m.d⟩ → K (a.put o.dst Go.undef) w := by
    rintro rfl
    cases hd : m.d with
    | none =>
      rw [hd] at hk
      refine hk [] τ _ _ rfl (puts_nil _).symm ?_
      rw [h.dst, hd]; exact hj
    | some d =>
      rw [hd] at hk
      have hdn : d < n := h.lt d hd
      refine hk _ (puts [(d, .tup [], false)] τ) _ _ rfl (by rw [puts_erase]; rfl) ?_
      rw [h.dst, hd]
      refine ⟨hj.inv.put hdn ?_ ?_ ?_ ?_, fun p hp => ?_⟩
      · exact ⟨[], rfl, rfl, by simp⟩
      · simp [SV.foot, SV.trees]
      · simp [SV.trees]
      · simp [SV.rdb, SV.trees]
      · rw [put_tmps (by rw [hj.inv.tsz]; exact hdn), if_neg]
        · exact hj.pin p hp
        · rintro rfl; exact hpin p hp hd
  have hg := h.guard
  cases hmg : m.g with
  | none =>
    rw [hmg] at hg
    cases hog : o.guard with
    | some x => rw [hog] at hg; exact hg.elim
    | none =>
      rw [wanted_none hog, if_pos rfl]
      simp only [effM, hmg] at hF
      exact .inl (hrun F hF hp hk)
  | some g =>
    obtain ⟨s, b⟩ := g
    rw [hmg] at hg
    cases hog : o.guard with
    | none => rw [hog] at hg; exact hg.elim
    | some x =>
      obtain ⟨j, b'⟩ := x
      rw [hog] at hg
      obtain ⟨rfl, hs⟩ := hg
      obtain ⟨w1, w2⟩ := wanted_some (a := a) hog hs
      have hden := hj.inv.den s
      simp only [effM, hmg] at hF
      split at hF
      · rename_i t ht
        have htv : a.tmps.getD s Go.undef = .bool t := by
          obtain ⟨t', k1, k2⟩ := erase_own (show (τ s).erase = _ from ht)
          have := erase_bool k2
          subst this
          rw [k1] at hden; exact hden
        rw [w1 t htv]
        split at hF
        · rename_i e
          subst e
          simp only [beq_self_eq_true, if_true]
          exact .inl (hrun F hF hp hk)
        · rename_i e
          have : (t == b) = false := by simpa using e
          rw [this]
          simp only [Bool.false_eq_true, if_false]
          exact hskip (by cases hF; rfl)
      · rename_i ht
        have htv : a.tmps.getD s Go.undef = .tuple #[] := by
          have ht' : (τ s).erase = .tup [] := ht
          cases hτ : τ s with
          | tup ts =>
            rw [hτ] at ht' hden
            simp only [SV.erase, SV.tup.injEq, List.map_eq_nil_iff] at ht'
            subst ht'
            obtain ⟨vs, e1, e2, _⟩ := hden
            have : vs = [] := by simpa using e2
            subst this
            exact e1
          | _ => rw [hτ] at ht'; simp [SV.erase] at ht'
        rw [w2 htv]
        simp only [Bool.false_eq_true, if_false]
        exact hskip (by cases hF; rfl)
      · cases hF
end Go.VC
end

section
set_option linter.unusedVariables false
set_option linter.unusedSimpArgs false
namespace Go.VC
variable {P : Program} {n : Nat} {lent : List Nat} {o : Oper} {d : Nat} {C : Con} {Post : AL → Prop} {k : List It}

theorem dstW_keys (d : Option Nat) (ts : List D) : keys (dstW d ts) = d.toList := by
  cases d with
  | none => rfl
  | some d => match ts with
    | [] => rfl
    | [t] => rfl
    | t :: u :: ts => rfl
theorem backW_keys : ∀ {rs : List Nat} {ts : List D}, ts.length = rs.length → keys (backW rs ts) = rs
  | [], [], _ => rfl
  | [], _ :: _, h => by simp at h
  | _ :: _, [], h => by simp at h
  | r :: rs, t :: ts, h => by
    have := backW_keys (show ts.length = rs.length by simpa using h)
    simp only [backW, keys, List.map_cons] at this ⊢; rw [this]
theorem dstW_un (d : Option Nat) (ts : List D) : Uns (dstW d ts) := by
  cases d with
  | none => exact uns_nil
  | some d => match ts with
    | [] => intro e h; simp [dstW] at h; subst h; rfl
    | [t] => intro e h; simp [dstW] at h; subst h; rfl
    | t :: u :: ts => intro e h; simp [dstW] at h; subst h; rfl
theorem backW_un : ∀ {rs : List Nat} {ts : List D}, Uns (backW rs ts)
  | [], _ => uns_nil
  | _ :: _, [] => uns_nil
  | r :: rs, t :: ts => by
    intro e h
    rcases List.mem_cons.1 h with rfl | h
    · rfl
    · exact backW_un e h
theorem nodupB_nodup : ∀ {l : List Nat}, nodupB l = true → l.Nodup
  | [], _ => List.nodup_nil
  | x :: l, h => by simp [nodupB] at h; simp [h.1, nodupB_nodup h.2]
theorem skip_good (d : Option Nat) : Good (skipW d) := by
  cases d with
  | none => exact good_nil
  | some d => exact good_one
theorem effC_op {op : MO} {d : Option Nat} {σ : St Unit} (h : ∀ f xs, op ≠ .call f xs) : effC C op d σ = effE (op.eff d σ) := by
  cases op with
  | call f xs => exact absurd rfl (h f xs)
  | _ => rfl

theorem exec_eff {q : Option DrI} {j : Nat} {m : MOp} {L : AL} {X : AL → Prop} (h : exec C q j m L X) :
    ∃ F, effC C m.op m.d (get L) = some F ∧ F.pre ∧ (q ≠ none → ∃ ws, F.ch ws) ∧ ∀ ws, F.ch ws → Good ws ∧ wsB q j ws = true ∧ X (putL ws L) := by
  obtain ⟨md, mg, op⟩ := m
  by_cases hc : ∃ f xs, op = .call f xs
  · obtain ⟨f, xs, rfl⟩ := hc
    unfold exec at h
    simp only at h
    simp only [effC]
    cases ha : argsOf (xs.map (view (get L))) with
    | none => rw [ha] at h; exact h.elim
    | some y =>
      obtain ⟨as, ss⟩ := y
      rw [ha] at h
      simp only at h
      obtain ⟨h1, h2, h3⟩ := h
      obtain ⟨h4, h5⟩ := h3 h2
      refine ⟨⟨_, _⟩, by simp only [callE, h1, cond_true]; rfl, h2, fun hq => ?_, fun ws hws => ?_⟩
      · cases q with
        | none => exact absurd rfl hq
        | some q => obtain ⟨rs, fin, a1, a2⟩ := h4; exact ⟨_, rs, fin, a1, a2, rfl⟩
      · obtain ⟨rs, fin, a1, a2, rfl⟩ := hws
        obtain ⟨b1, b2⟩ := h5 rs fin a1 a2
        refine ⟨good_nodup ?_ (uns_app (dstW_un _ _) backW_un), b1, b2⟩
        have : keys (dstW md rs ++ backW (lentOf as) fin) = md.toList ++ lentOf as := by
          have h7 := backW_keys a2
          have h8 := dstW_keys md rs
          simp only [keys, List.map_append] at h7 h8 ⊢
          rw [h7, h8]
        rw [this]
        simp only [okCall, Bool.and_eq_true] at h1
        exact nodupB_nodup h1.1
  · have hc' : ∀ f xs, op ≠ .call f xs := fun f xs e => hc ⟨f, xs, e⟩
    rw [exec_op hc'] at h
    rw [effC_op hc']
    cases he : op.eff md (get L) with
    | none => simp only [he] at h
    | some E =>
      simp only [he] at h
      exact ⟨_, rfl, h.1, fun _ => ⟨_, rfl⟩, fun ws hws => by cases hws; exact ⟨eff_good he, h.2.1, h.2.2 h.1⟩⟩

theorem run_eff {q : Option DrI} {j : Nat} {m : MOp} {l : List MOp} {L : AL} (h : Run C Post (.ops q j (m :: l) :: k) L) :
    slotsB q j (m.slots L) = true ∧ ∃ F, effM C m (get L) = some F ∧ F.pre ∧ (q ≠ none → ∃ ws, F.ch ws) ∧ ∀ ws, F.ch ws → Good ws ∧ wsB q j ws = true ∧ Run C Post (.ops q (j + 1) l :: k) (putL ws L) := by
  rw [run_ops] at h
  refine ⟨h.1, ?_⟩
  have h := h.2
  cases hg : m.g with
  | none =>
    rw [hg] at h
    simp only [effM, hg]
    exact exec_eff h
  | some g =>
    obtain ⟨s, b⟩ := g
    rw [hg] at h
    simp only [effM, hg]
    simp only [gK] at h
    split at h
    · rename_i t ht
      simp only [ht]
      by_cases e : t = b
      · rw [if_pos e]
        exact exec_eff (h.1 e)
      · rw [if_neg e]
        obtain ⟨h1, h2⟩ := h.2 e
        exact ⟨_, rfl, trivial, fun _ => ⟨_, rfl⟩, fun ws hws => by cases hws; exact ⟨skip_good _, h1, h2⟩⟩
    · rename_i ht
      simp only [ht]
      exact ⟨_, rfl, trivial, fun _ => ⟨_, rfl⟩, fun ws hws => by cases hws; exact ⟨skip_good _, h.1, h.2⟩⟩
    · exact h.elim

def MOs (P : Program) (n : Nat) (lent : List Nat) (C : Con) (ops : Array Oper) (pins : Pins) : List MOp → List Oper → Prop
  | [], [] => True
  | m :: ms, o :: os => (SndOp P n lent C m ops o ∧ ∀ p ∈ pins, m.d ≠ some p.1) ∧ MOs P n lent C ops pins ms os
  | _, _ => False

/-- a region whose order is told -/
theorem ops_wp {ops : Array Oper} {pins : Pins} {w0 : World} {Q : Exit → Act → World → Prop} (hQ : ∀ L τ a w, Run C Post k L → St.erase τ = get L → J P n lent pins w0 τ a w → Q .normal a w) :
    ∀ {ms : List MOp} {os : List Oper} {j : Nat} {L : AL} {τ : St Phys} {a : Act} {w : World}, MOs P n lent C ops pins ms os → Run C Post (.ops none j ms :: k) L → St.erase τ = get L → J P n lent pins w0 τ a w → wpList P ops Q os a w
  | [], [], j, L, τ, a, w, _, h, he, hj => by rw [run_ops0] at h; exact hQ L τ a w h he hj
  | [], _ :: _, _, _, _, _, _, hm, _, _, _ => hm.elim
  | _ :: _, [], _, _, _, _, _, hm, _, _, _ => hm.elim
  | m :: ms, o :: os, j, L, τ, a, w, hm, h, he, hj => by
    obtain ⟨_, F, h1, h2, _, h3⟩ := run_eff h
    have := hm.1.1.step hm.1.2 hj (he ▸ h1) h2 (K := wpList P ops Q os) (Q := Q) (fun ws τ' a' w' hw e' j' => by
      obtain ⟨g1, _, g2⟩ := h3 ws hw
      exact ops_wp hQ hm.2 g2 (by rw [e', he, get_putL g1]) j')
    exact this
end Go.VC
end

section
set_option linter.unusedVariables false
set_option linter.unusedSimpArgs false
namespace Go.VC
variable {P : Program} {n : Nat} {lent : List Nat} {C : Con} {q : DrI}

def mslots (m : MOp) (σ : St Unit) : List Nat := (m.op.opds.map fun x => (view σ x).slots).flatten ++ (m.g.map (·.1)).toList
theorem mslots_get (m : MOp) (L : AL) : m.slots L = mslots m (get L) := rfl

theorem view_local {σ σ' : St Unit} {x : Opd} (h : ∀ s ∈ (view σ x).slots, σ' s = σ s) : view σ' x = view σ x := by
  cases x with
  | c d => rfl
  | t n =>
    have h1 : σ' n = σ n := h n (by simp [view, View.slots])
    simp only [view, h1]
    cases hr : (σ n).root? with
    | none => rfl
    | some r =>
      have h2 : σ' r = σ r := h r (by simp [view, View.slots, hr])
      simp [h2]

theorem eff_local {σ σ' : St Unit} {op : MO} {d : Option Nat} (h : ∀ x ∈ op.opds, view σ' x = view σ x) : effC C op d σ' = effC C op d σ := by
  have hm : ∀ (f : Opd → Opd) (xs : List Opd), True := fun _ _ => trivial
  have hl : ∀ xs : List Opd, (∀ x ∈ xs, view σ' x = view σ x) → xs.map (view σ') = xs.map (view σ) := fun xs hx => List.map_congr_left hx
  have ho : ∀ x : Option Opd, (∀ y ∈ x.toList, view σ' y = view σ y) → x.map (view σ') = x.map (view σ) := fun x hx => by cases x <;> simp_all
  cases op with
  | call f xs => simp only [effC]; rw [hl xs h]
  | pure po xs => cases d <;> simp only [effC, MO.eff, hl xs h]
  | build z ps =>
    have : ps.map (fun p => (p.1, p.2.1, view σ' p.2.2)) = ps.map (fun p => (p.1, p.2.1, view σ p.2.2)) := List.map_congr_left fun p hp => by rw [h p.2.2 (List.mem_map.2 ⟨p, hp, rfl⟩)]
    cases d <;> simp only [effC, MO.eff, this]
  | bsl e z n ps =>
    have : ps.map (fun p => (p.1, p.2.1, view σ' p.2.2)) = ps.map (fun p => (p.1, p.2.1, view σ p.2.2)) := List.map_congr_left fun p hp => by rw [h p.2.2 (List.mem_map.2 ⟨p, hp, rfl⟩)]
    cases d <;> simp only [effC, MO.eff, this]
  | slR e x lo hi =>
    simp only [MO.opds, List.mem_cons, List.mem_append] at h
    have h1 := h x (.inl rfl)
    have h2 := ho lo fun y hy => h y (.inr (.inl hy))
    have h3 := ho hi fun y hy => h y (.inr (.inr hy))
    cases d <;> simp only [effC, MO.eff, h1, h2, h3]
  | _ => cases d <;> simp only [MO.opds, List.mem_cons, List.not_mem_nil, or_false, forall_eq_or_imp, forall_eq] at h <;> simp only [effC, MO.eff, h]

theorem effM_local {σ σ' : St Unit} {m : MOp} (h : ∀ s ∈ mslots m σ, σ' s = σ s) : effM C m σ' = effM C m σ ∧ mslots m σ' = mslots m σ := by
  have hv : ∀ x ∈ m.op.opds, view σ' x = view σ x := fun x hx => view_local fun s hs => h s (by
    simp only [mslots, List.mem_append, List.mem_flatten, List.mem_map]; exact .inl ⟨_, ⟨x, hx, rfl⟩, hs⟩)
  constructor
  · unfold effM
    cases hg : m.g with
    | none => exact eff_local hv
    | some g =>
      obtain ⟨s, b⟩ := g
      have : σ' s = σ s := h s (by simp [mslots, hg])
      simp only [this, eff_local hv]
  · unfold mslots
    congr 2
    exact List.map_congr_left fun x hx => by rw [hv x hx]

/-- the walk along a list of operations, with what the order's freedom asks for (of the first N operations) -/
def V (C : Con) (q : DrI) (N : Nat) (ops : Nat → Option MOp) (X : St Unit → Prop) : List Nat → St Unit → Prop
  | [], σ => X σ
  | j :: l, σ => ∃ m, ops j = some m ∧ (j < N → slots0 q j (mslots m σ) = true) ∧ ∃ F, effM C m σ = some F ∧ F.pre ∧ (j < N → ∃ ws, F.ch ws) ∧
      ∀ ws, F.ch ws → (j < N → wsQ q j ws = true) ∧ V C q N ops X l (puts ws σ)
def Cl (q : DrI) (l : List Nat) (σ : St Unit) : Prop := ∀ s r, (σ s).root? = some r → ∀ e ∈ q.wr, e.2.2 = false → e.1 = r → e.2.1 ∉ l

theorem rel_comm (i j : Nat) : q.rel i j = q.rel j i := by
  unfold DrI.rel
  rw [show (i == j) = (j == i) from Bool.beq_comm]
  cases (j == i) <;> cases q.before i j <;> cases q.before j i <;> rfl
theorem slot_spec {j s : Nat} (h : q.slot j s = true) : ∀ i kp, (s, i, kp) ∈ q.wr → q.rel i j = true := by
  intro i kp hm
  have := List.all_eq_true.1 h _ hm
  simpa using this
theorem slots_spec {j : Nat} {ss : List Nat} (h : slots0 q j ss = true) {s : Nat} (hs : s ∈ ss) : q.slot j s = true := List.all_eq_true.1 h s hs
theorem ws_spec {j : Nat} {ws : Ws Unit} (h : wsQ q j ws = true) {s : Nat} {v : SV Unit} {k : Bool} (hs : ws.lookup s = some (v, k)) :
    q.slot j s = true ∧ (s, j, k) ∈ q.wr ∧ ∀ r, v.root? = some r → q.slot j r = true ∧ q.root j r = true := by
  have hm := lookup_mem' hs
  have := List.all_eq_true.1 h _ hm
  simp only [Bool.and_eq_true, List.contains_eq_mem, decide_eq_true_eq] at this
  refine ⟨this.1.1, this.1.2, fun r hr => ?_⟩
  have h2 := this.2
  rw [hr] at h2
  simpa [rootOk] using h2

/-- what operation i writes is none of what j looks at -/
theorem keep_slots {i j : Nat} (hr : q.rel i j = false) {ws : Ws Unit} (hw : wsQ q i ws = true) {σ : St Unit} {l : List Nat} (hc : Cl q l σ) (hi : i ∈ l) {s : Nat} (hs : q.slot j s = true) : puts ws σ s = σ s := by
  have hn : ws.lookup s = none := by
    cases h : ws.lookup s with
    | none => rfl
    | some x =>
      obtain ⟨v, k⟩ := x
      have := slot_spec hs i k (ws_spec hw h).2.1
      rw [hr] at this; cases this
  rw [puts_none hn]
  cases hro : (σ s).root? with
  | none => rfl
  | some r =>
    simp only
    cases h : ws.lookup r with
    | none => rfl
    | some x =>
      obtain ⟨v, k⟩ := x
      cases k with
      | true => rfl
      | false => exact absurd hi (hc s r hro _ (ws_spec hw h).2.1 rfl rfl)

theorem puts_swap {i j : Nat} (hr : q.rel i j = false) {A B : Ws Unit} (hA : wsQ q i A = true) (hB : wsQ q j B = true) {σ : St Unit} {l : List Nat} (hc : Cl q l σ) (hi : i ∈ l) (hj : j ∈ l) :
    puts A (puts B σ) = puts B (puts A σ) := by
  have hr' : q.rel j i = false := by rw [rel_comm]; exact hr
  -- one of the two writes the slot
  have one : ∀ {i j : Nat} (hr : q.rel i j = false) {A B : Ws Unit} (hA : wsQ q i A = true) (hB : wsQ q j B = true) {s : Nat} {v : SV Unit} {k : Bool} (hs : A.lookup s = some (v, k)), puts B (puts A σ) s = v := by
    intro i j hr A B hA hB s v k hs
    have hr' : q.rel j i = false := by rw [rel_comm]; exact hr
    obtain ⟨a1, a2, a3⟩ := ws_spec hA hs
    have hn : B.lookup s = none := by
      cases h : B.lookup s with
      | none => rfl
      | some x =>
        obtain ⟨v', k'⟩ := x
        have := slot_spec (ws_spec hB h).1 i k a2
        rw [hr] at this; cases this
    have hp : puts A σ s = v := puts_in hs
    rw [puts_none hn, hp]
    cases hro : v.root? with
    | none => rfl
    | some r =>
      simp only
      cases h : B.lookup r with
      | none => rfl
      | some x =>
        obtain ⟨v', k'⟩ := x
        cases k' with
        | true => rfl
        | false =>
          have := slot_spec (a3 r hro).1 j false (ws_spec hB h).2.1
          rw [hr'] at this; cases this
  have two : ∀ {i : Nat} (hi : i ∈ l) {A : Ws Unit} (hA : wsQ q i A = true) {s : Nat} (hs : A.lookup s = none), puts A σ s = σ s := by
    intro i hi A hA s hs
    rw [puts_none hs]
    cases hro : (σ s).root? with
    | none => rfl
    | some r =>
      simp only
      cases h : A.lookup r with
      | none => rfl
      | some x =>
        obtain ⟨v', k'⟩ := x
        cases k' with
        | true => rfl
        | false => exact absurd hi (hc s r hro _ (ws_spec hA h).2.1 rfl rfl)
  have three : ∀ {i j : Nat} (hi : i ∈ l) {A B : Ws Unit} (hA : wsQ q i A = true) {s : Nat} (h1 : A.lookup s = none) (h2 : puts B σ s = σ s), puts A (puts B σ) s = σ s := by
    intro i j hi A B hA s h1 h2
    rw [puts_none h1, h2]
    cases hro : (σ s).root? with
    | none => rfl
    | some r =>
      simp only
      cases h : A.lookup r with
      | none => rfl
      | some x =>
        obtain ⟨v', k'⟩ := x
        cases k' with
        | true => rfl
        | false => exact absurd hi (hc s r hro _ (ws_spec hA h).2.1 rfl rfl)
  funext s
  cases hA1 : A.lookup s with
  | some x =>
    obtain ⟨v, k⟩ := x
    rw [one hr hA hB hA1, puts_in hA1]
  | none =>
    cases hB1 : B.lookup s with
    | some x =>
      obtain ⟨v, k⟩ := x
      rw [one hr' hB hA hB1, puts_in hB1]
    | none =>
      rw [three (j := j) hi hA hA1 (two hj hB hB1), three (j := i) hj hB hB1 (two hi hA hA1)]

variable {N : Nat} {ops : Nat → Option MOp} {X : St Unit → Prop}

theorem V_swap {i j : Nat} {l : List Nat} {σ : St Unit} (hiN : i < N) (hjN : j < N) (hr : q.rel i j = false) (hc : Cl q (i :: j :: l) σ) (h : V C q N ops X (i :: j :: l) σ) : V C q N ops X (j :: i :: l) σ := by
  have hr' : q.rel j i = false := by rw [rel_comm]; exact hr
  have mi : i ∈ i :: j :: l := by simp
  have mj : j ∈ i :: j :: l := by simp
  obtain ⟨m, h1, h2, F, h3, h4, h5, h6⟩ := h
  obtain ⟨ws0, hw0⟩ := h5 hiN
  obtain ⟨hb0, m', k1, k2, F', k3, k4, k5, k6⟩ := h6 ws0 hw0
  have hA0 := hb0 hiN
  have hloc := effM_local (C := C) (m := m') (σ := puts ws0 σ) (σ' := σ) fun s hs => (keep_slots hr hA0 hc mi (slots_spec (k2 hjN) hs)).symm
  -- whatever the first one chose
  have hany : ∀ ws, F.ch ws → wsQ q i ws = true ∧ ∀ ws', F'.ch ws' → wsQ q j ws' = true ∧ V C q N ops X l (puts ws' (puts ws σ)) := by
    intro ws hw
    obtain ⟨hb, m2, g1, g2, F2, g3, g4, g5, g6⟩ := h6 ws hw
    rw [k1] at g1; cases g1
    have hA := hb hiN
    have hl2 := effM_local (C := C) (m := m') (σ := puts ws σ) (σ' := σ) fun s hs => (keep_slots hr hA hc mi (slots_spec (g2 hjN) hs)).symm
    have : F2 = F' := by rw [← hl2.1, hloc.1, k3] at g3; exact (Option.some.inj g3).symm
    subst this
    exact ⟨hA, fun ws' hw' => ⟨(g6 ws' hw').1 hjN, (g6 ws' hw').2⟩⟩
  refine ⟨m', k1, fun _ => by rw [hloc.2]; exact k2 hjN, F', by rw [hloc.1]; exact k3, k4, fun _ => k5 hjN, fun ws' hw' => ?_⟩
  have hB := ((hany ws0 hw0).2 ws' hw').1
  refine ⟨fun _ => hB, m, h1, ?_⟩
  have hl := effM_local (C := C) (m := m) (σ := σ) (σ' := puts ws' σ) fun s hs => keep_slots hr' hB hc mj (slots_spec (h2 hiN) hs)
  refine ⟨fun _ => by rw [hl.2]; exact h2 hiN, F, by rw [hl.1]; exact h3, h4, fun _ => ⟨ws0, hw0⟩, fun ws hw => ?_⟩
  obtain ⟨hA, hV⟩ := hany ws hw
  refine ⟨fun _ => hA, ?_⟩
  rw [puts_swap hr hA hB hc mi mj]
  exact (hV ws' hw').2

theorem Cl_step {j : Nat} {l : List Nat} {σ : St Unit} (hw : ∀ e ∈ q.wr, e.2.1 < N) (hc : Cl q (j :: l) σ) (hb : ∀ k ∈ l, k < N → q.before k j = false ∧ j < N) {ws : Ws Unit} (h : j < N → wsQ q j ws = true) : Cl q l (puts ws σ) := by
  intro s r hr e he hk hs hm
  have hb' := hb e.2.1 hm (hw e he)
  have h := h hb'.2
  cases hl : ws.lookup s with
  | some x =>
    obtain ⟨v, k⟩ := x
    rw [puts_in hl] at hr
    have h2 := ((ws_spec h hl).2.2 r hr).2
    have := List.all_eq_true.1 h2 e he
    simp only [hk, Bool.false_or, Bool.or_eq_true, bne_iff_ne, ne_eq] at this
    rcases this with h3 | h3
    · exact h3 hs
    · rw [hb'.1] at h3; cases h3
  | none =>
    rw [puts_none hl] at hr
    cases hro : (σ s).root? with
    | none => rw [hro] at hr; simp only at hr; rw [hro] at hr; cases hr
    | some r' =>
      rw [hro] at hr
      simp only at hr
      split at hr
      · cases hr
      · rw [hro] at hr; cases hr
        exact hc s r hro e he hk hs (List.mem_cons_of_mem _ hm)

theorem V_pull {j : Nat} (hw : ∀ e ∈ q.wr, e.2.1 < N) (hj : j < N) : ∀ (l1 l2 : List Nat) (σ : St Unit), (∀ i ∈ l1, i < N ∧ q.rel i j = false) → (l1 ++ j :: l2).Pairwise (fun a b => b < N → q.before b a = false ∧ a < N) → Cl q (l1 ++ j :: l2) σ →
    V C q N ops X (l1 ++ j :: l2) σ → V C q N ops X (j :: (l1 ++ l2)) σ
  | [], l2, σ, _, _, _, h => h
  | i :: l1, l2, σ, hi, hp, hc, h => by
    simp only [List.cons_append, List.pairwise_cons] at hp
    have h' : V C q N ops X (i :: j :: (l1 ++ l2)) σ := by
      obtain ⟨m, h1, h2, F, h3, h4, h5, h6⟩ := h
      refine ⟨m, h1, h2, F, h3, h4, h5, fun ws hws => ?_⟩
      obtain ⟨g1, g2⟩ := h6 ws hws
      refine ⟨g1, V_pull hw hj l1 l2 _ (fun i hi' => hi i (by simp [hi'])) hp.2 (Cl_step hw hc (fun k hk hkN => hp.1 k hk hkN) g1) g2⟩
    refine V_swap (l := l1 ++ l2) (hi i (by simp)).1 hj (hi i (by simp)).2 ?_ h'
    intro s r hr e he hk hs hm
    refine hc s r hr e he hk hs ?_
    simp only [List.cons_append, List.mem_cons, List.mem_append] at hm ⊢
    rcases hm with h | h | h | h
    · exact .inl h
    · exact .inr (.inr (.inl h))
    · exact .inr (.inl h)
    · exact .inr (.inr (.inr h))
end Go.VC
end

section
set_option linter.unusedVariables false
set_option linter.unusedSimpArgs false
namespace Go.VC
variable {C : Con} {q : DrI} {n : Nat}
def Safe (q : DrI) (j r : Nat) : Prop := ∀ e ∈ q.wr, e.1 = r → e.2.1 ∈ q.bef.getD j []
/-- what a region with a plain description keeps -/
def RI (q : DrI) (σ : St Unit) : Prop := ∀ s r, (σ s).root? = some r → (∀ e ∈ q.wr, e.1 ≠ r) ∨ ∃ i, (s, i, false) ∈ q.wr ∧ Safe q i r
structure StatR (q : DrI) (n : Nat) : Prop where
  keep : ∀ e ∈ q.wr, e.2.2 = false
  trans : ∀ j, j < n → ∀ i ∈ q.bef.getD j [], ∀ i' ∈ q.bef.getD i [], i' ∈ q.bef.getD j []
theorem statB_spec {ops : List MOp} (h : statB q n ops = true) : StatR q n ∧ statOps q 0 (ops.take n) = true := by
  simp only [statB, Bool.and_eq_true] at h
  refine ⟨⟨fun e he => by simpa using List.all_eq_true.1 h.1.1 e he, fun j hj i hi i' hi' => ?_⟩, h.2⟩
  have h1 := List.all_eq_true.1 h.1.2 j (by simpa using hj)
  have h2 := List.all_eq_true.1 h1 i hi
  have h3 := List.all_eq_true.1 h2 i' hi'
  simpa using h3
theorem safeB_spec {j r : Nat} (h : safeB q j r = true) : Safe q j r := by
  intro e he hr
  have := List.all_eq_true.1 h e he
  simpa [hr] using this
theorem safe_slot {j r : Nat} (h : Safe q j r) : q.slot j r = true := by
  refine List.all_eq_true.2 fun e he => ?_
  by_cases hr : e.1 = r
  · have := h e he hr
    simp only [DrI.rel, DrI.before, List.contains_eq_mem, this, decide_true, Bool.or_true, Bool.true_or]
  · simp [hr]
theorem safe_root {j r : Nat} (h : Safe q j r) : q.root j r = true := by
  refine List.all_eq_true.2 fun e he => ?_
  by_cases hr : e.1 = r
  · have := h e he hr
    simp only [DrI.before, List.contains_eq_mem, this, decide_true, Bool.or_true]
  · simp [hr]
theorem stat_slots (hs : StatR q n) {j : Nat} (hj : j < n) {m : MOp} (hm : statOp q j m = true) {σ : St Unit} (hR : RI q σ) : ∀ s ∈ mslots m σ, Safe q j s := by
  unfold statOp at hm
  split at hm
  · cases hm
  · rename_i d hd
    simp only [Bool.and_eq_true] at hm
    intro s hs'
    simp only [mslots, List.mem_append, List.mem_flatten, List.mem_map] at hs'
    rcases hs' with ⟨l, ⟨x, hx, rfl⟩, hs'⟩ | hg
    · have hsx := List.all_eq_true.1 hm.1.2 x hx
      cases x with
      | c d => simp [view, View.slots] at hs'
      | t a =>
        have ha : Safe q j a := safeB_spec hsx
        simp only [view, View.slots, Option.toList_some, List.mem_append, List.mem_singleton] at hs'
        rcases hs' with rfl | hs'
        · exact ha
        · cases hr : (σ a).root? with
          | none => simp [hr] at hs'
          | some r =>
            simp [hr] at hs'
            subst hs'
            intro e he hes
            rcases hR a _ hr with h1 | ⟨i, h1, h2⟩
            · exact absurd hes (h1 e he)
            · exact hs.trans j hj i (ha _ h1 rfl) _ (h2 e he hes)
    · cases hmg : m.g with
      | none => simp [hmg] at hg
      | some g =>
        obtain ⟨t, b⟩ := g
        simp [hmg] at hg
        subst hg
        have := hm.2
        rw [hmg] at this
        exact safeB_spec this
theorem oneB_spec {ws : Ws Unit} (h : oneB ws = true) : ∃ s v, ws = [(s, v, false)] := by
  unfold oneB at h
  split at h
  · exact ⟨_, _, rfl⟩
  · cases h
/-- what one such operation writes -/
theorem stat_ch {m : MOp} {d : Nat} (hd : m.d = some d) {σ : St Unit} {F : MEff} (hF : effM C m σ = some F) {ws : Ws Unit} (hw : F.ch ws) (h1 : oneB ws = true) :
    ∃ v, ws = [(d, v, false)] ∧ ∀ r, v.root? = some r → r ∈ mslots m σ := by
  obtain ⟨s, v, rfl⟩ := oneB_spec h1
  have hC : ∀ F, effC C m.op m.d σ = some F → F.ch [(s, v, false)] → s = d ∧ ∀ r, v.root? = some r → r ∈ mslots m σ := by
    intro F hF hw
    by_cases hc : ∃ f xs, m.op = .call f xs
    · obtain ⟨f, xs, e⟩ := hc
      rw [e, hd] at hF
      simp only [effC] at hF
      unfold callE at hF
      split at hF
      · cases hF
      · obtain ⟨_, hF⟩ := bif_some hF
        cases hF
        obtain ⟨rs, fin, _, _, hw⟩ := hw
        have key : ∃ u, dstW (some d) rs = [(d, u, false)] ∧ un u := by
          match rs with
          | [] => exact ⟨_, rfl, rfl⟩
          | [t] => exact ⟨_, rfl, rfl⟩
          | t :: u :: ts => exact ⟨_, rfl, rfl⟩
        obtain ⟨u, hu, hun⟩ := key
        rw [hu] at hw
        simp only [List.singleton_append, List.cons.injEq, Prod.mk.injEq] at hw
        obtain ⟨⟨rfl, rfl, _⟩, _⟩ := hw
        refine ⟨rfl, fun r hr => ?_⟩
        unfold un at hun
        rw [hun] at hr; cases hr
    · have hc' : ∀ f xs, m.op ≠ .call f xs := fun f xs e => hc ⟨f, xs, e⟩
      rw [effC_op hc', hd] at hF
      unfold effE at hF
      split at hF
      · cases hF
      · rename_i E hE
        cases hF
        obtain ⟨v', k', W, e1, e2⟩ := eff_fst hE
        have hw' : [(s, v, false)] = E.ws := hw
        rw [e1] at hw'
        simp only [List.cons.injEq, Prod.mk.injEq] at hw'
        obtain ⟨⟨rfl, rfl, _⟩, _⟩ := hw'
        exact ⟨rfl, fun r hr => List.mem_append.2 (.inl (e2 r hr))⟩
  have hall : s = d ∧ ∀ r, v.root? = some r → r ∈ mslots m σ := by
    unfold effM at hF
    split at hF
    · exact hC F hF hw
    · split at hF
      · split at hF
        · exact hC F hF hw
        · cases hF
          have hw' : [(s, v, false)] = skipW m.d := hw
          rw [hd] at hw'
          simp only [skipW, List.cons.injEq, Prod.mk.injEq, and_true] at hw'
          obtain ⟨rfl, rfl⟩ := hw'
          exact ⟨rfl, fun r hr => by cases hr⟩
      · cases hF
        have hw' : [(s, v, false)] = skipW m.d := hw
        rw [hd] at hw'
        simp only [skipW, List.cons.injEq, Prod.mk.injEq, and_true] at hw'
        obtain ⟨rfl, rfl⟩ := hw'
        exact ⟨rfl, fun r hr => by cases hr⟩
      · cases hF
  obtain ⟨rfl, h2⟩ := hall
  exact ⟨v, rfl, h2⟩
theorem stat_step (hs : StatR q n) {j : Nat} (hj : j < n) {m : MOp} (hm : statOp q j m = true) {σ : St Unit} (hR : RI q σ) :
    slots0 q j (mslots m σ) = true ∧ ∀ F ws, effM C m σ = some F → F.ch ws → oneB ws = true → wsQ q j ws = true ∧ RI q (puts ws σ) := by
  have hsl := stat_slots hs hj hm hR
  refine ⟨List.all_eq_true.2 fun s h => safe_slot (hsl s h), fun F ws hF hw h1 => ?_⟩
  cases hd : m.d with
  | none => unfold statOp at hm; rw [hd] at hm; cases hm
  | some d =>
    obtain ⟨v, rfl, hv⟩ := stat_ch hd hF hw h1
    unfold statOp at hm
    rw [hd] at hm
    simp only [Bool.and_eq_true] at hm
    have hdw : (d, j, false) ∈ q.wr := by simpa using hm.1.1.1
    have hdj : ∀ e ∈ q.wr, e.1 = d → e.2.1 = j := by
      intro e he hed
      have := List.all_eq_true.1 hm.1.1.2 e he
      simpa [hed] using this
    refine ⟨?_, ?_⟩
    · simp only [wsQ, List.all_cons, List.all_nil, Bool.and_true, Bool.and_eq_true]
      refine ⟨⟨List.all_eq_true.2 fun e he => ?_, by simpa using hdw⟩, ?_⟩
      · by_cases hed : e.1 = d
        · simp [DrI.rel, hdj e he hed]
        · simp [hed]
      · cases hr : v.root? with
        | none => rfl
        | some r => simp [rootOk, safe_slot (hsl r (hv r hr)), safe_root (hsl r (hv r hr))]
    · intro s r hr
      by_cases hsd : s = d
      · subst hsd
        rw [puts_in (v := v) (k := false) (by simp)] at hr
        exact .inr ⟨j, hdw, hsl r (hv r hr)⟩
      · have hn : List.lookup s [(d, v, false)] = none := by simp [List.lookup_cons, beq_eq_false_iff_ne.2 hsd]
        rw [puts_none hn] at hr
        cases hro : (σ s).root? with
        | none => rw [hro] at hr; simp only [hro] at hr; cases hr
        | some r' =>
          rw [hro] at hr
          simp only at hr
          split at hr
          · cases hr
          · rw [hro] at hr; cases hr; exact hR s r hro
end Go.VC
end

section
set_option linter.unusedVariables false
set_option linter.unusedSimpArgs false
namespace Go.VC
variable {P : Program} {n : Nat} {lent : List Nat} {C : Con} {q : DrI} {Post : AL → Prop} {k : List It} {N : Nat} {ops : Nat → Option MOp} {X : St Unit → Prop}

/-- what the walk of a region carries: nothing, or the description is a plain one -/
def Mode (q : DrI) (N : Nat) (q' : Option DrI) (ms : List MOp) (j c : Nat) (σ : St Unit) : Prop :=
  (q' = some q ∧ j = c ∧ (q.st = false ∨ (StatR q N ∧ c + ms.length ≤ N ∧ statOps q c ms = true ∧ RI q σ))) ∨ q' = none ∧ N ≤ c
theorem run_V {q' : Option DrI} {k' : List It} {rest : List Nat} : ∀ (ms : List MOp) (j c : Nat) (L : AL), Mode q N q' ms j c (get L) → (∀ i m, ms[i]? = some m → ops (c + i) = some m) → Run C Post (.ops q' j ms :: k') L →
    (∀ L', Run C Post k' L' → V C q N ops X rest (get L')) → V C q N ops X (List.range' c ms.length ++ rest) (get L)
  | [], j, c, L, _, _, h, hk => by rw [run_ops0] at h; exact hk L h
  | m :: ms, j, c, L, hq, ho, h, hk => by
    obtain ⟨h1, F, h2, h3, h4, h5⟩ := run_eff h
    simp only [List.length_cons, List.range'_succ, List.cons_append]
    have hnext : ∀ (L' : AL), Mode q N q' ms (j + 1) (c + 1) (get L') → Run C Post (.ops q' (j + 1) ms :: k') L' → V C q N ops X (List.range' (c + 1) ms.length ++ rest) (get L') := fun L' hm hr =>
      run_V ms (j + 1) (c + 1) L' hm (fun i m' hm' => by
        have := ho (i + 1) m' (by simpa using hm')
        rwa [show c + 1 + i = c + (i + 1) by omega]) hr hk
    rcases hq with ⟨rfl, rfl, hst⟩ | ⟨rfl, hN⟩
    · cases hs : q.st with
      | false =>
        refine ⟨m, by simpa using ho 0 m rfl, fun _ => ?_, F, h2, h3, fun _ => h4 (by simp), fun ws hws => ?_⟩
        · have h1' : slots0 q j (m.slots L) = true := by simpa only [slotsB, hs, cond_false] using h1
          exact h1'
        · obtain ⟨g1, g0, g2⟩ := h5 ws hws
          refine ⟨fun _ => by simpa only [wsB, hs, cond_false] using g0, ?_⟩
          rw [← get_putL g1]
          exact hnext _ (.inl ⟨rfl, rfl, .inl hs⟩) g2
      | true =>
        rcases hst with hst | ⟨hS, hl, ho', hR⟩
        · rw [hs] at hst; cases hst
        · simp only [statOps, Bool.and_eq_true] at ho'
          simp only [List.length_cons] at hl
          obtain ⟨k1, k2⟩ := stat_step (C := C) hS (show j < N by omega) ho'.1 hR
          refine ⟨m, by simpa using ho 0 m rfl, fun _ => k1, F, h2, h3, fun _ => h4 (by simp), fun ws hws => ?_⟩
          obtain ⟨g1, g0, g2⟩ := h5 ws hws
          have g0' : oneB ws = true := by simpa only [wsB, hs, cond_true] using g0
          obtain ⟨k3, k4⟩ := k2 F ws h2 hws g0'
          refine ⟨fun _ => k3, ?_⟩
          rw [← get_putL g1] at k4 ⊢
          exact hnext _ (.inl ⟨rfl, rfl, .inr ⟨hS, by omega, ho'.2, k4⟩⟩) g2
    · refine ⟨m, by simpa using ho 0 m rfl, fun h => by omega, F, h2, h3, fun h => by omega, fun ws hws => ⟨fun h => by omega, ?_⟩⟩
      obtain ⟨g1, _, g2⟩ := h5 ws hws
      rw [← get_putL g1]
      exact hnext _ (.inr ⟨rfl, by omega⟩) g2

def bf (q : DrI) (n i : Nat) : List Nat := if i < n then q.bef.getD i [] else List.range i
/-- the region's description is the code's -/
def drawB (q : DrI) (n : Nat) (os : Array Oper) : Bool :=
  ((List.range os.size).all fun i => match os[i]? with
    | none => false
    | some o => (o.after.all fun e => !Region.binds .any e || decide (e.on < i)) &&
      (bf q n i).all fun k => decide (k < i) && o.after.any fun e => Region.binds .any e && (e.on == k || (bf q n e.on).contains k)) &&
  (q.wr.all fun e => decide (e.2.1 < n)) && decide (n ≤ os.size)
structure Draw (q : DrI) (n : Nat) (os : Array Oper) : Prop where
  edge : ∀ (i : Nat) (o : Oper), os[i]? = some o → ∀ e ∈ o.after, Region.binds .any e = true → e.on < i
  bef : ∀ (i : Nat) (o : Oper), os[i]? = some o → ∀ k ∈ bf q n i, k < i ∧ ∃ e ∈ o.after, Region.binds .any e = true ∧ (e.on = k ∨ k ∈ bf q n e.on)
  wr : ∀ e ∈ q.wr, e.2.1 < n
  le : n ≤ os.size
theorem drawB_spec {os : Array Oper} (h : drawB q n os = true) : Draw q n os := by
  simp only [drawB, Bool.and_eq_true, decide_eq_true_eq] at h
  obtain ⟨⟨h1, h2⟩, h3⟩ := h
  have hi : ∀ (i : Nat) (o : Oper), os[i]? = some o → (o.after.all fun e => !Region.binds .any e || decide (e.on < i)) = true ∧ ((bf q n i).all fun k => decide (k < i) && o.after.any fun e => Region.binds .any e && (e.on == k || (bf q n e.on).contains k)) = true := by
    intro i o ho
    have := List.all_eq_true.1 h1 i (by simp; exact (Array.getElem?_eq_some_iff.1 ho).1)
    rw [ho] at this
    simpa only [Bool.and_eq_true] using this
  refine ⟨fun i o ho e he hb => ?_, fun i o ho k hk => ?_, fun e he => ?_, h3⟩
  · have := (hi i o ho).1
    rw [Array.all_eq_true'] at this
    have := this e he
    simpa [hb] using this
  · have := List.all_eq_true.1 (hi i o ho).2 k hk
    simp only [Bool.and_eq_true, decide_eq_true_eq, Array.any_eq_true'] at this
    obtain ⟨g1, e, he, hb, hor⟩ := this
    refine ⟨g1, e, he, hb, ?_⟩
    simp only [Bool.or_eq_true, beq_iff_eq, List.contains_eq_mem, decide_eq_true_eq] at hor
    exact hor
  · simpa using List.all_eq_true.1 h2 e he

def pend (N : Nat) (listed : Array Bool) : List Nat := (List.range N).filter fun i => !listed.getD i true

theorem pend_set {N : Nat} {listed : Array Bool} {i : Nat} {l1 l2 : List Nat} (hs : listed.size = N) (h : pend N listed = l1 ++ i :: l2) : pend N (listed.setIfInBounds i true) = l1 ++ l2 := by
  have hi : i ∈ pend N listed := by rw [h]; simp
  have hnd : (pend N listed).Nodup := List.Nodup.sublist List.filter_sublist List.nodup_range
  have e : pend N (listed.setIfInBounds i true) = (pend N listed).filter (· != i) := by
    unfold pend
    rw [List.filter_filter]
    refine List.filter_congr fun x hx => ?_
    by_cases hxi : x = i
    · subst hxi
      have : x < listed.size := by rw [hs]; simpa using hx
      simp [Array.getD_eq_getD_getElem?, this]
    · have : (x != i) = true := by simpa using hxi
      rw [this]
      simp only [Array.getD_eq_getD_getElem?, Array.getElem?_setIfInBounds_ne (Ne.symm hxi), Bool.true_and]
  rw [e, h]
  rw [h] at hnd
  have h1 := List.nodup_append.1 hnd
  have h2 := List.nodup_cons.1 h1.2.1
  rw [List.filter_append, List.filter_cons]
  simp only [bne_self_eq_false, Bool.false_eq_true, if_false]
  congr 1
  · exact List.filter_eq_self.2 fun x hx => by simp; rintro rfl; exact h1.2.2 x hx x (by simp) rfl
  · exact List.filter_eq_self.2 fun x hx => by simp; rintro rfl; exact h2.1 hx

theorem draw_wp {os : Array Oper} {pins : Pins} {w0 : World} {Q : Exit → Act → World → Prop} (hd : Draw q n os) {nt : Nat}
    (hm : ∀ (i : Nat) (o : Oper), os[i]? = some o → ∃ m, ops i = some m ∧ SndOp P nt lent C m os o ∧ ∀ p ∈ pins, m.d ≠ some p.1)
    (hQ : ∀ τ a w, X (St.erase τ) → J P nt lent pins w0 τ a w → Q .normal a w) :
    ∀ (fuel : Nat) (listed : Array Bool) (τ : St Phys) (a : Act) (w : World), listed.size = os.size → (∀ i, i < os.size → listed.getD i true = true → ∀ k ∈ bf q n i, listed.getD k true = true) → (pend os.size listed).length ≤ fuel →
      V C q n ops X (pend os.size listed) (St.erase τ) → Cl q (pend os.size listed) (St.erase τ) → J P nt lent pins w0 τ a w → wpAny P .any os Q fuel listed a w := by
  -- the least operation that is left is ready
  have hready : ∀ (listed : Array Bool), listed.size = os.size → Region.ready .any os listed = [] → pend os.size listed = [] := by
    intro listed hs hr
    cases hp : pend os.size listed with
    | nil => rfl
    | cons i l =>
      exfalso
      have hmem : i ∈ pend os.size listed := by rw [hp]; simp
      have hsort : (pend os.size listed).Pairwise (· < ·) := List.Pairwise.sublist List.filter_sublist List.pairwise_lt_range
      have hmin : ∀ j, j < i → listed.getD j true = true := by
        intro j hj
        cases hl : listed.getD j true with
        | true => rfl
        | false =>
          have hi : i < os.size := by have := (List.mem_filter.1 hmem).1; simpa using this
          have : j ∈ pend os.size listed := List.mem_filter.2 ⟨by simp; omega, by simp [hl]⟩
          rw [hp] at this hsort
          rcases List.mem_cons.1 this with rfl | h
          · omega
          · have := (List.pairwise_cons.1 hsort).1 j h; omega
      have hi : i < os.size := by have := (List.mem_filter.1 hmem).1; simpa using this
      have : i ∈ Region.ready .any os listed := by
        refine List.mem_filter.2 ⟨by simpa using hi, ?_⟩
        have h1 := (List.mem_filter.1 hmem).2
        have ho : os[i]? = some os[i] := Array.getElem?_eq_getElem hi
        simp only [h1, ho, Option.map_some, Option.getD_some, Bool.true_and, Array.all_eq_true']
        intro e he
        cases hb : Region.binds .any e with
        | false => rfl
        | true =>
          have hlt := hd.edge i _ ho e he hb
          have := hmin e.on hlt
          simp only [Bool.not_true, Bool.false_or]
          have hes : e.on < listed.size := by omega
          simpa [Array.getD_eq_getD_getElem?, hes] using this
      rw [hr] at this; cases this
  intro fuel
  induction fuel with
  | zero =>
    intro listed τ a w hs hc hl hV hCl hj
    have hp : pend os.size listed = [] := List.length_eq_zero_iff.1 (by omega)
    refine ⟨?_, hQ τ a w (by rw [hp] at hV; exact hV) hj⟩
    refine List.filter_eq_nil_iff.2 fun i hi => ?_
    have : i ∉ pend os.size listed := by rw [hp]; simp
    simp only [pend, List.mem_filter, not_and] at this
    have := this hi
    simp only [Bool.not_eq_true] at this
    rw [this]; simp
  | succ fuel ih =>
    intro listed τ a w hs hc hl hV hCl hj
    refine ⟨fun hr => ?_, fun i hi => ?_⟩
    · have hp := hready listed hs hr
      rw [hp] at hV; exact hQ τ a w hV hj
    · obtain ⟨hi1, hi2⟩ := List.mem_filter.1 hi
      have hio : i < os.size := by simpa using hi1
      have ho : os[i]? = some os[i] := Array.getElem?_eq_getElem hio
      simp only [ho, Option.map_some, Option.getD_some, Bool.and_eq_true, Array.all_eq_true'] at hi2
      obtain ⟨hi3, hi4⟩ := hi2
      have hbl : ∀ k ∈ bf q n i, listed.getD k true = true := by
        intro k hk
        obtain ⟨hki, e, he, hb, hor⟩ := hd.bef i _ ho k hk
        have h5 := hi4 e he
        have hlt := hd.edge i _ ho e he hb
        have h6 : listed.getD e.on true = true := by
          simp only [hb, Bool.not_true, Bool.false_or] at h5
          have hes : e.on < listed.size := by omega
          simpa [Array.getD_eq_getD_getElem?, hes] using h5
        rcases hor with rfl | hor
        · exact h6
        · exact hc e.on (by omega) h6 k hor
      have himem : i ∈ pend os.size listed := List.mem_filter.2 ⟨hi1, hi3⟩
      obtain ⟨l1, l2, hp⟩ := List.append_of_mem himem
      have hsort : (l1 ++ i :: l2).Pairwise (· < ·) := by rw [← hp]; exact List.Pairwise.sublist List.filter_sublist List.pairwise_lt_range
      have hpn : ∀ k ∈ pend os.size listed, listed.getD k true = false := fun k hk => by simpa using (List.mem_filter.1 hk).2
      have hlt1 : ∀ k ∈ l1, k < i := fun k hk => (List.pairwise_append.1 hsort).2.2 k hk i (by simp)
      -- what lies before i is listed: so i may come first
      have hV' : V C q n ops X (i :: (l1 ++ l2)) (St.erase τ) := by
        by_cases hin : i < n
        · refine V_pull hd.wr hin l1 l2 _ (fun k hk => ?_) ?_ (hp ▸ hCl) (hp ▸ hV)
          · have hki := hlt1 k hk
            refine ⟨by omega, ?_⟩
            have h1 : (k == i) = false := by simp; omega
            have h2 : q.before k i = false := by
              cases hb : q.before k i with
              | false => rfl
              | true =>
                have hmem : k ∈ bf q n i := by
                  simp only [DrI.before, List.contains_eq_mem, decide_eq_true_eq] at hb
                  simpa [bf, hin] using hb
                have := hbl k hmem
                rw [hpn k (by rw [hp]; simp [hk])] at this; cases this
            have h3 : q.before i k = false := by
              cases hb : q.before i k with
              | false => rfl
              | true =>
                have hko : k < os.size := by omega
                have hmem : i ∈ bf q n k := by
                  simp only [DrI.before, List.contains_eq_mem, decide_eq_true_eq] at hb
                  simpa [bf, show k < n by omega] using hb
                have := (hd.bef k _ (Array.getElem?_eq_getElem hko) i hmem).1
                omega
            simp [DrI.rel, h1, h2, h3]
          · refine List.Pairwise.imp_of_mem (fun {x y} hx hy hxy hyn => ?_) hsort
            have hyo : y < os.size := by have := hd.le; omega
            refine ⟨?_, by omega⟩
            cases hb : q.before y x with
            | false => rfl
            | true =>
              have hxo : x < os.size := by omega
              have hmem : y ∈ bf q n x := by
                simp only [DrI.before, List.contains_eq_mem, decide_eq_true_eq] at hb
                simpa [bf, show x < n by omega] using hb
              have := (hd.bef x _ (Array.getElem?_eq_getElem hxo) y hmem).1
              omega
        · have h0 : l1 = [] := by
            cases l1 with
            | nil => rfl
            | cons k l1 =>
              exfalso
              have hk : k < i := hlt1 k (by simp)
              have hmem : k ∈ bf q n i := by simp [bf, hin, hk]
              have := hbl k hmem
              rw [hpn k (by rw [hp]; simp)] at this; cases this
          subst h0
          rw [hp] at hV; exact hV
      obtain ⟨m, hm1, hm2, hm3⟩ := hm i _ ho
      obtain ⟨m', v1, v2, F, v3, v4, v5, v6⟩ := hV'
      rw [hm1] at v1; cases v1
      unfold wpOp
      rw [ho]
      simp only
      refine hm2.step hm3 hj v3 v4 (fun ws τ' a' w' hw he hj' => ?_)
      have hpend : pend os.size (listed.setIfInBounds i true) = l1 ++ l2 := pend_set hs hp
      refine ih _ τ' a' w' (by simpa using hs) ?_ ?_ ?_ ?_ hj'
      · intro x hx hxl k hk
        have hkx : k < x := (hd.bef x _ (Array.getElem?_eq_getElem hx) k hk).1
        by_cases hxi : x = i
        · subst hxi
          have := hbl k hk
          by_cases hki : k = x
          · omega
          · simpa [Array.getD_eq_getD_getElem?, Array.getElem?_setIfInBounds_ne (Ne.symm hki)] using this
        · have hxl' : listed.getD x true = true := by simpa [Array.getD_eq_getD_getElem?, Array.getElem?_setIfInBounds_ne (Ne.symm hxi)] using hxl
          have := hc x hx hxl' k hk
          by_cases hki : k = i
          · subst hki
            have : k < listed.size := by omega
            simp [Array.getD_eq_getD_getElem?, this]
          · simpa [Array.getD_eq_getD_getElem?, Array.getElem?_setIfInBounds_ne (Ne.symm hki)] using this
      · rw [hpend]
        rw [hp] at hl
        simp at hl ⊢; omega
      · rw [hpend, he]; exact (v6 ws hw).2
      · rw [hpend, he]
        refine Cl_step (N := n) (j := i) hd.wr ?_ (fun k hk hkn => ?_) (v6 ws hw).1
        · intro s r hr e he' hke hes hmm
          refine hCl s r hr e he' hke hes ?_
          rw [hp]
          simp only [List.mem_cons, List.mem_append] at hmm ⊢
          rcases hmm with h | h | h
          · exact .inr (.inl h)
          · exact .inl h
          · exact .inr (.inr h)
        · have hkp : k ∈ pend os.size listed := by
            rw [hp]; simp only [List.mem_append, List.mem_cons] at hk ⊢
            exact hk.elim .inl fun h => .inr (.inr h)
          have hin : i < n := by
            refine Classical.byContradiction fun hin => ?_
            have hmem : k ∈ bf q n i := by simp only [bf, hin, if_false, List.mem_range]; omega
            have := hbl k hmem
            rw [hpn k hkp] at this; cases this
          refine ⟨?_, hin⟩
          cases hb : q.before k i with
          | false => rfl
          | true =>
            have hmem : k ∈ bf q n i := by
              simp only [DrI.before, List.contains_eq_mem, decide_eq_true_eq] at hb
              simpa [bf, hin] using hb
            have := hbl k hmem
            rw [hpn k hkp] at this; cases this
def drawA (q : DrI) (n : Nat) (ms : List MOp) (os : Array Oper) : Bool := drawB q n os && q.ok n ms
end Go.VC
end

section
set_option linter.unusedVariables false
set_option linter.unusedSimpArgs false
namespace Go.VC
variable {P : Program} {n : Nat} {lent : List Nat} {C : Con} {Post : AL → Prop} {pins : Pins} {w0 : World}

theorem isUndef_iff {v : SV Unit} : isUndef v = true ↔ v = .undef := by cases v <;> simp [isUndef]
/-- what is told may be forgotten -/
theorem Inv.weaken {τ : St Phys} {a : Act} {w : World} {L0 L : AL} (h : J P n lent pins w0 τ a w) (he : St.erase τ = get L) (hs : Sub L0 L) : ∃ τ0, St.erase τ0 = get L0 ∧ J P n lent pins w0 τ0 a w := by
  let τ0 : St Phys := fun s => if isUndef (get L0 s) then .undef else τ s
  have hin : ∀ s, τ0 s = .undef ∨ τ0 s = τ s := fun s => by simp only [τ0]; split <;> simp
  have hmem : ∀ s, ∀ t ∈ (τ0 s).trees, t ∈ (τ s).trees := fun s t ht => by rcases hin s with e | e <;> rw [e] at ht <;> first | exact ht | (simp [SV.trees] at ht)
  have hfo : ∀ s, ∀ b ∈ (τ0 s).foot, b ∈ (τ s).foot := fun s b hb => by rcases hin s with e | e <;> rw [e] at hb <;> first | exact hb | (simp [SV.foot, SV.trees] at hb)
  have hrd : ∀ s, ∀ b ∈ (τ0 s).rdb, b ∈ (τ s).rdb := fun s b hb => by rcases hin s with e | e <;> rw [e] at hb <;> first | exact hb | (simp [SV.rdb, SV.trees] at hb)
  have her : ∀ s, (τ s).erase = get L s := fun s => congrFun he s
  refine ⟨τ0, ?_, ⟨⟨h.inv.frame, h.inv.tsz, h.inv.dfr, fun s => ?_, fun s t ht => h.inv.ok s t (hmem s t ht), fun s => ?_, fun s b hb => h.inv.fre s b (hfo s b hb), fun s s' hne b hb hb' => h.inv.sep s s' hne b (hfo s b hb) (hfo s' b hb'), fun s s' b hb hb' => h.inv.ros s s' b (hrd s b hb) (hfo s' b hb'), fun s b hb => h.inv.rlt s b (hrd s b hb)⟩, h.pin⟩⟩
  · funext s
    show (τ0 s).erase = get L0 s
    simp only [τ0]
    split
    · rename_i hu; rw [isUndef_iff.1 hu]; rfl
    · rename_i hu
      rw [her s]
      exact (hs s fun e => hu (isUndef_iff.2 e)).1
  · by_cases hu : isUndef (get L0 s) = true
    · have : τ0 s = .undef := by simp [τ0, hu]
      rw [this]; trivial
    · have e : τ0 s = τ s := by simp [τ0, hu]
      rw [e]
      refine (h.inv.den s).mono fun r hr t ht => ?_
      have h1 := hs s fun e => hu (isUndef_iff.2 e)
      have h2 : (get L0 s).root? = some r := by rw [← h1.1, ← her s, SV.root?_erase]; exact hr
      have h3 := h1.2 r h2
      have : τ0 r = τ r := by simp only [τ0]; rw [if_neg]; exact fun e => h3 (isUndef_iff.1 e)
      rw [this]; exact ht
  · rcases hin s with e | e <;> rw [e]
    · simp [SV.foot, SV.trees]
    · exact h.inv.nod s

theorem chkR_ne {a : List Nat} {v : SV Unit} (h : chkR a v v.root? ≠ .undef) : chkR a v v.root? = v := by
  cases hr : v.root? with
  | none => rfl
  | some r =>
    rw [hr] at h
    simp only [chkR] at h ⊢
    cases hm : memB r a with
    | true => rw [hm] at h; exact absurd rfl h
    | false => rfl
theorem get_mem {L : AL} {s : Nat} (h : get L s ≠ .undef) : (s, get L s) ∈ L := by
  induction L with
  | nil => exact absurd rfl h
  | cons e L ih =>
    obtain ⟨t, v⟩ := e
    rw [get_hd] at h ⊢
    cases hst : (s == t) with
    | true => have : s = t := by simpa using hst
              subst this; simp
    | false =>
      rw [hst] at h; simp only [cond_false] at h ⊢
      have e := chkR_ne h
      rw [e] at h ⊢
      exact List.mem_cons_of_mem _ (ih h)
theorem rootsA_spec {lo : Nat} {wr : List (Nat × Nat × Bool)} (hlo : ∀ e ∈ wr, e.2.2 = true ∨ lo ≤ e.1) : ∀ {L : AL}, rootsA lo wr L = true → ∀ p ∈ L, ∀ r, p.2.root? = some r → ∀ e ∈ wr, e.2.2 = false → e.1 ≠ r
  | [], _, p, hp, _, _, _, _, _ => by cases hp
  | (t, v) :: L, h, p, hp, r, hr, e, he, hk => by
    simp only [rootsA, Bool.and_eq_true] at h
    rcases List.mem_cons.1 hp with rfl | hp
    · have h1 := h.1
      simp only at hr
      rw [hr] at h1
      simp only [rootB, Bool.or_eq_true, decide_eq_true_eq] at h1
      rcases h1 with h1 | h1
      · rcases hlo e he with h2 | h2
        · rw [hk] at h2; cases h2
        · omega
      · have := List.all_eq_true.1 h1 e he
        simpa [hk] using this
    · exact rootsA_spec hlo h.2 p hp r hr e he hk

def CM (P : Program) (n : Nat) (lent : List Nat) (C : Con) (pins : Pins) : MC → Code → Prop
  | .sk, .skip => True
  | .rg ms, .region _ ops false => MOs P n lent C ops pins ms ops.toList
  | .dr m ms q, .region _ ops true => P.follows .mixedOrders = true ∧ drawA q m ms ops = true ∧ MOs P n lent C ops pins ms ops.toList
  | .sq a b, .seq x y => CM P n lent C pins a x ∧ CM P n lent C pins b y
  | .cd x a b, .cond c y z => (∃ e, opd e c = some x) ∧ CM P n lent C pins a y ∧ CM P n lent C pins b z
  | .bl i a, .block j x => i = j ∧ CM P n lent C pins a x
  | .lp a, .loop x => CM P n lent C pins a x
  | .ex i, .exit j => i = j
  | .rt, .ret => True
  | _, _ => False

theorem MOs_get {ops : Array Oper} : ∀ {ms : List MOp} {os : List Oper}, MOs P n lent C ops pins ms os → ms.length = os.length ∧ ∀ (i : Nat) (o : Oper), os[i]? = some o → ∃ m, ms[i]? = some m ∧ SndOp P n lent C m ops o ∧ ∀ p ∈ pins, m.d ≠ some p.1
  | [], [], _ => ⟨rfl, by simp⟩
  | [], _ :: _, h => h.elim
  | _ :: _, [], h => h.elim
  | m :: ms, o :: os, h => by
    obtain ⟨h1, h2⟩ := MOs_get h.2
    refine ⟨by simp [h1], fun i o' ho => ?_⟩
    cases i with
    | zero => simp at ho; subst ho; exact ⟨m, rfl, h.1⟩
    | succ i => simpa using h2 i o' (by simpa using ho)

/-- what holds where the code is left -/
def KQ (P : Program) (n : Nat) (lent : List Nat) (C : Con) (Post : AL → Prop) (pins : Pins) (w0 : World) (k : List It) : Exit → Act → World → Prop
  | .normal, a, w => ∃ L τ, Run C Post k L ∧ St.erase τ = get L ∧ J P n lent pins w0 τ a w
  | .exit id, a, w => ∃ L τ, Run C Post (dropTo id k) L ∧ St.erase τ = get L ∧ J P n lent pins w0 τ a w
  | .ret, a, w => ∃ L τ, Post L ∧ St.erase τ = get L ∧ J P n lent pins w0 τ a w
  | _, _, _ => False

theorem J.drawn {τ : St Phys} {a : Act} {w : World} (h : J P n lent pins w0 τ a w) : J P n lent pins w0 τ a { w with drawn := w.drawn + 1 } :=
  ⟨h.inv.drawn rfl rfl rfl rfl, h.pin⟩

theorem draw_sound {id m : Nat} {ms : List MOp} {q : DrI} {ops : Array Oper} (hf : P.follows .mixedOrders = true) (hd : drawA q m ms ops = true) (hm : MOs P n lent C ops pins ms ops.toList) {k : List It} {L : AL} {τ : St Phys} {a : Act} {w : World}
    (h : Run C Post (.code (.dr m ms q) :: k) L) (he : St.erase τ = get L) (hj : J P n lent pins w0 τ a w) : (Code.region id ops true).wp P (KQ P n lent C Post pins w0 k) a w := by
  rw [run_dr] at h
  obtain ⟨h2, h3⟩ := h
  simp only [drawA, Bool.and_eq_true] at hd
  obtain ⟨hd, hok⟩ := hd
  simp only [DrI.ok, Bool.and_eq_true, Bool.or_eq_true, Bool.not_eq_true'] at hok
  obtain ⟨⟨_, hlo⟩, hst⟩ := hok
  have hroot : ∀ s r, (get L s).root? = some r → ∀ e ∈ q.wr, e.2.2 = false → e.1 ≠ r := by
    intro s r hr e he hk
    have hne : get L s ≠ .undef := by intro h; rw [h] at hr; cases hr
    refine rootsA_spec (fun e he => ?_) h2 _ (get_mem hne) r hr e he hk
    have := List.all_eq_true.1 hlo e he
    simpa using this
  have hdr := drawB_spec hd
  obtain ⟨hl, hg⟩ := MOs_get hm
  have hle : m ≤ ms.length := by rw [hl]; simpa using hdr.le
  refine wp_region_any hf ?_
  let X : St Unit → Prop := fun σ => ∃ L', get L' = σ ∧ Run C Post k L'
  have hpend : pend ops.size (Array.replicate ops.size false) = List.range ops.size := by
    unfold pend
    refine List.filter_eq_self.2 fun x hx => ?_
    have : x < ops.size := by simpa using hx
    simp [Array.getD_eq_getD_getElem?, this]
  have hV : V C q m (fun i => ms[i]?) X (List.range ops.size) (get L) := by
    have h1 := run_V (q := q) (N := m) (X := X) (ops := fun i => ms[i]?) (rest := List.range' m (ms.drop m).length ++ []) (ms.take m) 0 0 L (.inl ⟨rfl, rfl, by
        rcases hst with hst | hst
        · exact .inl hst
        · obtain ⟨k1, k2⟩ := statB_spec hst
          exact .inr ⟨k1, by simp; omega, k2, fun s r hr => .inl fun e he => hroot s r hr e he (k1.keep e he)⟩⟩) (fun i x hx => by
        rw [List.getElem?_take] at hx
        split at hx
        · simpa using hx
        · cases hx) h3 (fun L' h' => run_V (ms.drop m) 0 m L' (.inr ⟨rfl, Nat.le_refl _⟩) (fun i x hx => by rwa [List.getElem?_drop] at hx) h' fun L2 h2 => ⟨L2, rfl, h2⟩)
    have hlen : ms.length = ops.size := by rw [hl]; simp
    have e : List.range' 0 (ms.take m).length ++ (List.range' m (ms.drop m).length ++ []) = List.range ops.size := by
      rw [List.append_nil, List.length_take, List.length_drop, Nat.min_eq_left hle, List.range_eq_range']
      have := List.range'_append (s := 0) (m := m) (n := ms.length - m) (step := 1)
      simp only [Nat.one_mul, Nat.zero_add] at this
      rw [this]
      congr 1; omega
    rwa [e] at h1
  refine draw_wp (X := X) (ops := fun i => ms[i]?) (C := C) hdr (fun i o ho => ?_) (fun τ a w hX hj => ?_) ops.size _ τ a _ (by simp) ?_ ?_ ?_ ?_ hj.drawn
  · exact hg i o (by simpa using ho)
  · obtain ⟨L', e, hr⟩ := hX
    exact ⟨L', τ, hr, e.symm, hj⟩
  · intro i hi hl
    simp [Array.getD_eq_getD_getElem?, hi] at hl
  · rw [hpend]; simp
  · rw [hpend, he]; exact hV
  · rw [he]
    intro s r hr e he' hk hs hm
    exact hroot s r hr e he' hk hs

/-- the walk is sound -/
theorem run_sound : ∀ (m : MC) (c : Code), CM P n lent C pins m c → ∀ {k : List It} {L : AL} {τ : St Phys} {a : Act} {w : World}, Run C Post (.code m :: k) L → St.erase τ = get L → J P n lent pins w0 τ a w → c.wp P (KQ P n lent C Post pins w0 k) a w := by
  intro m
  induction m with
  | sk => intro c hc; cases c <;> first | exact hc.elim | skip
          intro k L τ a w h he hj; rw [run_sk] at h; exact wp_skip ⟨L, τ, h, he, hj⟩
  | rt => intro c hc; cases c <;> first | exact hc.elim | skip
          intro k L τ a w h he hj; rw [run_rt] at h; exact wp_ret ⟨L, τ, h, he, hj⟩
  | ex i => intro c hc; cases c <;> first | exact hc.elim | skip
            cases hc
            intro k L τ a w h he hj; rw [run_ex] at h; exact wp_exit ⟨L, τ, h, he, hj⟩
  | rg ms =>
    intro c hc
    cases c <;> first | exact hc.elim | skip
    rename_i id ops dr
    cases dr with
    | true => exact hc.elim
    | false =>
      intro k L τ a w h he hj
      rw [run_rg] at h
      exact wp_region_list (ops_wp (fun L τ a w h he hj => ⟨L, τ, h, he, hj⟩) hc h he hj)
  | dr m ms q =>
    intro c hc
    cases c <;> first | exact hc.elim | skip
    rename_i id ops dr
    cases dr with
    | false => exact hc.elim
    | true => intro k L τ a w h he hj; exact draw_sound hc.1 hc.2.1 hc.2.2 h he hj
  | sq x y ihx ihy =>
    intro c hc
    cases c <;> first | exact hc.elim | skip
    rename_i cx cy
    intro k L τ a w h he hj
    rw [run_sq] at h
    refine wp_seq (Code.wp_mono (fun e a w q => ?_) (ihx cx hc.1 h he hj))
    cases e with
    | normal => obtain ⟨L, τ, h, he, hj⟩ := q; exact ihy cy hc.2 h he hj
    | exit id => exact q
    | ret => exact q
    | _ => exact q.elim
  | cd x y z ihy ihz =>
    intro c hc
    cases c <;> first | exact hc.elim | skip
    rename_i cc cy cz
    intro k L τ a w h he hj
    obtain ⟨⟨ty, ho⟩, h1, h2⟩ := hc
    rw [run_cd] at h
    unfold CondK at h
    split at h
    · rename_i t ht
      rw [← he] at ht
      obtain ⟨tl, e1, e2, _⟩ := Go.VC.read hj.inv ho ht
      have := erase_bool e1
      subst this
      refine wp_cond_split (t := t) e2.symm (fun e => ihy cy h1 (h.1 e) he hj) (fun e => ihz cz h2 (h.2 e) he hj)
    · exact h.elim
  | bl i x ih =>
    intro c hc
    cases c <;> first | exact hc.elim | skip
    rename_i id cx
    obtain ⟨rfl, hc⟩ := hc
    intro k L τ a w h he hj
    rw [run_bl] at h
    refine wp_block (Code.wp_mono (fun e a w q => ?_) (ih cx hc h he hj))
    cases e with
    | normal => obtain ⟨L, τ, h, he, hj⟩ := q; rw [run_blk] at h; exact ⟨L, τ, h, he, hj⟩
    | exit id' =>
      obtain ⟨L, τ, h, he, hj⟩ := q
      simp only [dropTo] at h
      simp only [Exit.inBlock]
      split at h
      · rename_i e; rw [if_pos e.symm]; exact ⟨L, τ, h, he, hj⟩
      · rename_i e; rw [if_neg (Ne.symm e)]; exact ⟨L, τ, h, he, hj⟩
    | ret => exact q
    | _ => exact q.elim
  | lp x ih =>
    intro c hc
    cases c <;> first | exact hc.elim | skip
    rename_i cx
    intro k L τ a w h he hj
    unfold Run at h
    obtain ⟨I, n0, ⟨L0, h1, h2⟩, h3⟩ := h
    have key : ∀ (b m : Nat), m < b → ∀ (L0 : AL) (τ : St Phys) (a : Act) (w : World), I m L0 → St.erase τ = get L0 → J P n lent pins w0 τ a w → Code.rounds P cx (KQ P n lent C Post pins w0 k) b a w := by
      intro b
      induction b with
      | zero => intro m hm; omega
      | succ b ihb =>
        intro m hm L0 τ a w hI he hj
        rw [rounds_succ]
        refine Code.wp_mono (fun e a w q => ?_) (ih cx hc (h3 m L0 hI) he hj)
        cases e with
        | normal =>
          obtain ⟨L, τ, h, he, hj⟩ := q
          rw [run_goal] at h
          obtain ⟨m', L0', hlt, hI', hs'⟩ := h
          obtain ⟨τ0, he0, hj0⟩ := Inv.weaken hj he hs'
          exact ihb m' (by omega) L0' τ0 a w hI' he0 hj0
        | exit id => exact q
        | ret => exact q
        | _ => exact q.elim
    obtain ⟨τ0, he0, hj0⟩ := Inv.weaken hj he h2
    exact wp_loop_rounds (n0 + 1) (key (n0 + 1) n0 (by omega) L0 τ0 a w h1 he0 hj0)
end Go.VC
end
