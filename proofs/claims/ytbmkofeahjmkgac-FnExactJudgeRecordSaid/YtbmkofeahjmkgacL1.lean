/- A library of symbolic evaluation for programs of the model: what is told of a program text is checked against the text, and what the told text computes is shown by evaluation. No condition. -/
import Derived.Calls
import Derived.Orders
import Derived.Tactics
import Derived.Below
section
namespace Go.VC

inductive Hd (α : Type) where
  | int (k : IntKind) (n : Int)
  | bool (b : Bool)
  | str (s : ByteArray)
  | fn (f : FuncId)
  | row (own : Bool) (e : TypeId) (x : α)
  | box (t : TypeId) (x : α)
  | gone (e : TypeId) (x : α)
  | agg

inductive Tr (α : Type) where
  | nd (h : Hd α) (cs : List (Tr α))

abbrev Phys := Option Addr × Nat
abbrev L := Tr Phys
abbrev D := Tr Unit

def Hd.erase : Hd Phys → Hd Unit
  | .int k n => .int k n
  | .bool b => .bool b
  | .str s => .str s
  | .fn f => .fn f
  | .row o e _ => .row o e ()
  | .box t _ => .box t ()
  | .gone e _ => .gone e ()
  | .agg => .agg

mutual
def Tr.erase : L → D
  | .nd h cs => .nd h.erase (Tr.erases cs)
def Tr.erases : List L → List D
  | [] => []
  | t :: ts => t.erase :: Tr.erases ts
end
theorem Tr.erases_map : ∀ ts : List L, Tr.erases ts = ts.map Tr.erase
  | [] => rfl
  | t :: ts => by simp [Tr.erases, Tr.erases_map ts]

section
variable {α : Type}
def Tr.hd : Tr α → Hd α | .nd h _ => h
def Tr.kids : Tr α → List (Tr α) | .nd _ cs => cs
/-- the cells of a value as it lies in memory -/
def Tr.cells : Tr α → List (Tr α)
  | .nd .agg cs => cs
  | d => [d]
abbrev Path := List (Nat × Nat)
def Hd.noFn : Hd α → Bool | .fn _ => false | _ => true
def Tr.look : Tr α → Path → Option (Tr α)
  | t, [] => some t
  | t, (i, j) :: p => match (bif t.hd.noFn then t.kids[i]? else none) with
    | none => none
    | some d => match d.cells[j]? with
      | none => none
      | some c => c.look p
/-- new cells from cell j on -/
def Tr.putCells (d : Tr α) (j : Nat) (vs : List (Tr α)) : Tr α :=
  match d with
  | .nd .agg cs => .nd .agg (cs.take j ++ vs ++ cs.drop (j + vs.length))
  | d => match vs with
    | [v] => v
    | _ => d
def Tr.modify : Tr α → Path → (Tr α → Tr α) → Tr α
  | t, [], f => f t
  | .nd h cs, (i, j) :: p, f => .nd h (cs.modify i fun d => match d.cells[j]? with
    | none => d
    | some c => d.putCells j [c.modify p f])
def Tr.isAgg : Tr α → Bool | .nd .agg _ => true | _ => false
/-- a row or a box: what refs may name -/
def Tr.isCont : Tr α → Bool | .nd (.row ..) _ => true | .nd (.box ..) _ => true | _ => false
end

def Hd.plain {α : Type} : Hd α → Bool
  | .row true _ _ => false
  | .box _ _ => false
  | _ => true
mutual
def Tr.plain {α : Type} : Tr α → Bool
  | .nd h cs => h.plain && Tr.plains cs
def Tr.plains {α : Type} : List (Tr α) → Bool
  | [] => true
  | t :: ts => t.plain && Tr.plains ts
end
/-- the value of one cell -/
def Tr.val0 : L → Value
  | .nd (.int k n) _ => .int k n
  | .nd (.bool b) _ => .bool b
  | .nd (.str s) _ => .string s
  | .nd (.row _ _ (a, c)) cs => .slice a cs.length c
  | .nd (.box _ (a, _)) _ => .pointer a
  | .nd (.gone _ (a, c)) cs => .slice a cs.length c
  | .nd (.fn _) _ => undef
  | .nd .agg _ => undef
def Tr.cval : L → Value
  | .nd (.fn f) cs => .func (.func f) #[] (cs.map Tr.val0).toArray
  | t => t.val0
def Tr.val : L → Value
  | .nd .agg cs => .agg (cs.map Tr.cval).toArray
  | t => t.cval
/-- the cells' values of many values -/
def vals (ds : List L) : List Value := ds.flatMap fun d => d.cells.map Tr.cval

def Hd.own : Hd Phys → List Nat
  | .row true _ (some a, _) => [a.block]
  | .box _ (some a, _) => [a.block]
  | _ => []
def Hd.rdb : Hd Phys → List L → List Nat
  | .row false _ (some a, _), _ :: _ => [a.block]
  | _, _ => []
mutual
def Tr.foot : L → List Nat
  | .nd h cs => h.own ++ Tr.foots cs
def Tr.foots : List L → List Nat
  | [] => []
  | t :: ts => t.foot ++ Tr.foots ts
end
mutual
def Tr.rdb : L → List Nat
  | .nd h cs => h.rdb cs ++ Tr.rdbs cs
def Tr.rdbs : List L → List Nat
  | [] => []
  | t :: ts => t.rdb ++ Tr.rdbs ts
end
theorem Tr.foots_eq : ∀ ts : List L, Tr.foots ts = ts.flatMap Tr.foot
  | [] => rfl
  | t :: ts => by simp [Tr.foots, Tr.foots_eq ts]
theorem Tr.rdbs_eq : ∀ ts : List L, Tr.rdbs ts = ts.flatMap Tr.rdb
  | [] => rfl
  | t :: ts => by simp [Tr.rdbs, Tr.rdbs_eq ts]

def szOf (P : Program) (e : TypeId) : Nat := ((P.info? e).map (·.size)).getD 0
abbrev maxL : Nat := 9223372036854775807

def HdOk (P : Program) (w : World) : Hd Phys → List L → Prop
  | .int k n, cs => cs = [] ∧ k.wrap n = n
  | .bool _, cs => cs = []
  | .str s, cs => cs = [] ∧ s.size ≤ maxL
  | .fn _, cs => ∀ d ∈ cs, d.cval = d.val0 ∧ d.isAgg = false
  | .agg, cs => ∀ d ∈ cs, d.isAgg = false
  | .gone _ _, _ => True
  | .box t x, cs => ∃ g c d, x.1 = some ⟨g, 0, none⟩ ∧ cs = [d] ∧ w.heap[g]? = some (.cells c t (0, 0)) ∧ c.toList = d.cells.map Tr.cval
  | .row own e (a, cap), cs => cs.length ≤ cap ∧ cap ≤ maxL ∧ (∀ d ∈ cs, d.cells.length = szOf P e) ∧
    match a, own with
    | none, _ => cs = [] ∧ cap = 0
    | some ad, true => ad.spot = none ∧ ∃ c, w.heap[ad.block]? = some (.cells c e (0, 0)) ∧ ad.off + cap * szOf P e ≤ c.size ∧
        ∀ (i : Nat) (v : Value), (vals cs)[i]? = some v → c[ad.off + i]? = some v
    | some ad, false => (0 < cap → ad.spot = none) ∧ ∀ (i : Nat) (v : Value), (vals cs)[i]? = some v → w.cell? ⟨ad.block, ad.off + i, none⟩ = some v
mutual
def Tr.Ok (P : Program) (w : World) : L → Prop
  | .nd h cs => HdOk P w h cs ∧ Tr.Oks P w cs
def Tr.Oks (P : Program) (w : World) : List L → Prop
  | [] => True
  | t :: ts => t.Ok P w ∧ Tr.Oks P w ts
end
theorem Tr.Oks_iff (P : Program) (w : World) : ∀ ts : List L, Tr.Oks P w ts ↔ ∀ t ∈ ts, t.Ok P w
  | [] => by simp [Tr.Oks]
  | t :: ts => by simp [Tr.Oks, Tr.Oks_iff P w ts]

theorem Tr.ind {α : Type} {p : Tr α → Prop} (h : ∀ hd cs, (∀ t ∈ cs, p t) → p (.nd hd cs)) : ∀ t, p t := by
  intro t
  induction t using Tr.rec (motive_2 := fun ts => ∀ t ∈ ts, p t) with
  | nd hd cs ih => exact h hd cs ih
  | nil => rename_i hx; cases hx
  | cons t ts ih1 ih2 =>
    rename_i x hx
    rcases List.mem_cons.1 hx with rfl | hx
    · exact ih1
    · exact ih2 x hx

/-- what holds of a tree holds in each world in which its blocks are as they were -/
theorem HdOk.move {P : Program} {w w' : World} {h : Hd Phys} {cs : List L} (hk : HdOk P w h cs)
    (hb : ∀ b, b ∈ h.own ∨ b ∈ h.rdb cs → w'.heap[b]? = w.heap[b]?) : HdOk P w' h cs := by
  cases h with
  | box t x =>
    obtain ⟨g, c, d, hx, rfl, hg, hc⟩ := hk
    refine ⟨g, c, d, hx, rfl, ?_, hc⟩
    rw [hb g (.inl ?_), hg]
    obtain ⟨a, n⟩ := x; simp at hx; subst hx; simp [Hd.own]
  | row own e x =>
    obtain ⟨a, cap⟩ := x
    obtain ⟨h1, h2, h3, h4⟩ := hk
    refine ⟨h1, h2, h3, ?_⟩
    cases a with
    | none => exact h4
    | some ad =>
      cases own with
      | true =>
        obtain ⟨hs, c, hc, hsz, hv⟩ := h4
        exact ⟨hs, c, by rw [hb _ (.inl (by simp [Hd.own])), hc], hsz, hv⟩
      | false =>
        obtain ⟨hs, hv⟩ := h4
        refine ⟨hs, fun i v hi => ?_⟩
        have := hv i v hi
        cases cs with
        | nil => simp [vals] at hi
        | cons d ds =>
          have e := hb ad.block (.inr (by simp [Hd.rdb]))
          simpa [World.cell?, e] using this
  | int k n => exact hk
  | bool b => exact hk
  | str s => exact hk
  | fn f => exact hk
  | agg => exact hk
  | gone e x => trivial

theorem Tr.Ok.move {P : Program} {w w' : World} : ∀ {t : L}, t.Ok P w → (∀ b, b ∈ t.foot ∨ b ∈ t.rdb → w'.heap[b]? = w.heap[b]?) → t.Ok P w' := by
  intro t
  induction t using Tr.ind with
  | h hd cs ih =>
    intro hk hb
    simp only [Tr.Ok, Tr.Oks_iff] at hk ⊢
    refine ⟨hk.1.move fun b h => hb b ?_, fun t ht => ih t ht (hk.2 t ht) fun b h => hb b ?_⟩
    · rcases h with h | h <;> simp [Tr.foot, Tr.rdb, h]
    · rcases h with h | h
      · left; simp [Tr.foot, Tr.foots_eq]; exact .inr ⟨t, ht, h⟩
      · right; simp [Tr.rdb, Tr.rdbs_eq]; exact .inr ⟨t, ht, h⟩
end Go.VC
end

section
namespace Go.VC
open Go.RowKit (Below)

inductive SV (α : Type) where
  | own (t : Tr α)
  | tup (ts : List (Option (Tr α)))
  | ref (r : Nat) (p : Path)
  | ptr (r : Nat) (p : Path) (i j : Nat)
  | sub (r : Nat) (p : Path) (lo n : Nat)
  | undef
section
variable {α : Type}
def SV.trees : SV α → List (Tr α)
  | .own t => [t]
  | .tup ts => ts.filterMap id
  | _ => []
def SV.root? : SV α → Option Nat
  | .ref r _ | .ptr r _ _ _ | .sub r _ _ _ => some r
  | _ => none
abbrev St (α : Type) := Nat → SV α
abbrev Ws (α : Type) := List (Nat × SV α × Bool)
/-- all at once: what refers to a slot that is written anew is forgotten (unless 'keep') -/
def puts (ws : Ws α) (σ : St α) : St α := fun s =>
  match ws.lookup s with
  | some (v, _) => v
  | none => match (σ s).root? with
    | none => σ s
    | some r => match ws.lookup r with
      | some (_, false) => .undef
      | _ => σ s
end
def SV.foot (v : SV Phys) : List Nat := v.trees.flatMap Tr.foot
def SV.rdb (v : SV Phys) : List Nat := v.trees.flatMap Tr.rdb

/-- where cell j of element i of a container lies -/
def Tr.place (P : Program) : L → Nat → Nat → Option Addr
  | .nd (.row _ e (some ad, _)) cs, i, j => if i < cs.length then some ⟨ad.block, ad.off + i * szOf P e + j, none⟩ else none
  | .nd (.box _ (some ad, _)) _, 0, j => some ⟨ad.block, j, none⟩
  | _, _, _ => none

/-- a container with blocks of its own: what refs may name inside a tree -/
def Tr.held {α : Type} (t : Tr α) : Bool := t.isCont && !t.plain
/-- where an empty rest of a row lies -/
def TailOk (sz : Nat) (a : Option Addr) (cap : Nat) (a' : Option Addr) : Prop := a' = a ∨ ∃ b off', a = some b ∧ a' = some ⟨b.block, off', none⟩ ∧ off' ≤ b.off + cap * sz
def Den (P : Program) (σ : St Phys) : SV Phys → Value → Prop
  | .own t, v => v = t.val
  | .tup ts, v => ∃ vs : List Value, v = .tuple vs.toArray ∧ vs.length = ts.length ∧ ∀ (i : Nat) (t : L), ts[i]? = some (some t) → vs[i]? = some t.val
  | .ref r p, v => ∃ t c, σ r = .own t ∧ t.look p = some c ∧ (p = [] ∨ c.held = true) ∧ v = c.val
  | .ptr r p i j, v => ∃ t c ad, σ r = .own t ∧ t.look p = some c ∧ (p = [] ∨ c.held = true) ∧ c.place P i j = some ad ∧ v = .pointer (some ad)
  | .sub r p lo n, v => ∃ t o e a cap cs a', σ r = .own t ∧ t.look p = some (.nd (.row o e (a, cap)) cs) ∧ (p = [] ∨ (Tr.nd (.row o e (a, cap)) cs : L).held = true) ∧ lo + n ≤ cs.length ∧
      v = .slice a' n (cap - lo) ∧ (lo < cap → ∃ ad, a = some ad ∧ a' = some ⟨ad.block, ad.off + lo * szOf P e, none⟩) ∧ (cap ≤ lo → TailOk (szOf P e) a cap a')
  | .undef, _ => True

/-- what a store into a tree leaves: each container lies where it lay -/
def Keeps (t t' : L) : Prop := ∀ p c, t.look p = some c → (p = [] ∨ c.held = true) →
  ∃ c', t'.look p = some c' ∧ c'.val = c.val ∧ c'.hd = c.hd ∧ c'.kids.length = c.kids.length ∧ c'.plain = c.plain

theorem isCont_hd {α : Type} {c c' : Tr α} (h : c'.hd = c.hd) : c'.isCont = c.isCont := by
  obtain ⟨a, b⟩ := c
  obtain ⟨a', b'⟩ := c'
  simp only [Tr.hd] at h
  subst h
  cases a' <;> rfl
theorem place_cont {P : Program} {c : L} {i j : Nat} {ad : Addr} (h : c.place P i j = some ad) : c.isCont = true := by
  obtain ⟨a, b⟩ := c
  cases a <;> first | rfl | (simp [Tr.place] at h)
theorem place_hd {P : Program} {c c' : L} (h : c'.hd = c.hd) (hl : c'.kids.length = c.kids.length) (i j : Nat) : c'.place P i j = c.place P i j := by
  obtain ⟨a, b⟩ := c
  obtain ⟨a', b'⟩ := c'
  simp only [Tr.hd, Tr.kids] at h hl
  subst h
  cases a' with
  | row o e x => obtain ⟨q, n⟩ := x; cases q <;> simp [Tr.place, hl]
  | box t x => obtain ⟨q, n⟩ := x; cases q <;> cases i <;> simp [Tr.place]
  | _ => simp [Tr.place]

theorem held_eq {c c' : L} (h : c'.hd = c.hd) (hp : c'.plain = c.plain) : c'.held = c.held := by
  unfold Tr.held; rw [isCont_hd h, hp]
structure Keep (lent : List Nat) (w w' : World) : Prop where
  os : w'.os = w.os
  tape : w'.tape = w.tape
  output : w'.output = w.output
  size : w.heap.size ≤ w'.heap.size
  block : ∀ b, b < w.heap.size → b ∉ lent → w'.heap[b]? = w.heap[b]?

structure Inv (P : Program) (n : Nat) (lent : List Nat) (w0 : World) (σ : St Phys) (a : Act) (w : World) : Prop where
  frame : Keep lent w0 w
  tsz : a.tmps.size = n
  dfr : a.defers = []
  den : ∀ s, Den P σ (σ s) (a.tmps.getD s Go.undef)
  ok : ∀ s, ∀ t ∈ (σ s).trees, t.Ok P w
  nod : ∀ s, (σ s).foot.Nodup
  fre : ∀ s, ∀ b ∈ (σ s).foot, (w0.heap.size ≤ b ∨ b ∈ lent) ∧ b < w.heap.size
  sep : ∀ s s', s ≠ s' → ∀ b ∈ (σ s).foot, b ∉ (σ s').foot
  ros : ∀ s s', ∀ b ∈ (σ s).rdb, b ∉ (σ s').foot
  rlt : ∀ s, ∀ b ∈ (σ s).rdb, b < w.heap.size

theorem trees_root {α : Type} {v : SV α} {r : Nat} (h : v.root? = some r) : v.trees = [] := by cases v <;> simp_all [SV.root?, SV.trees]
theorem foot_root {v : SV Phys} {r : Nat} (h : v.root? = some r) : v.foot = [] := by simp [SV.foot, trees_root h]
theorem rdb_root {v : SV Phys} {r : Nat} (h : v.root? = some r) : v.rdb = [] := by simp [SV.rdb, trees_root h]

theorem puts_none {α : Type} {ws : Ws α} {σ : St α} {s : Nat} (h : ws.lookup s = none) : puts ws σ s = match (σ s).root? with
    | none => σ s
    | some r => match ws.lookup r with
      | some (_, false) => .undef
      | _ => σ s := by unfold puts; simp only [h]
theorem Den.indep {P : Program} {σ σ' : St Phys} {v : SV Phys} {x : Value} (hr : v.root? = none) (h : Den P σ v x) : Den P σ' v x := by
  cases v <;> first | exact h | cases hr

theorem puts_trees {α : Type} {ws : Ws α} {σ : St α} {s : Nat} (h : ws.lookup s = none) : (puts ws σ s).trees = (σ s).trees := by
  unfold puts
  rw [h]
  cases hr : (σ s).root? with
  | none => rfl
  | some r =>
    simp only
    split
    · rw [trees_root hr]; rfl
    · rfl
theorem puts_in {α : Type} {ws : Ws α} {σ : St α} {s : Nat} {v : SV α} {k : Bool} (h : ws.lookup s = some (v, k)) : puts ws σ s = v := by
  unfold puts; rw [h]

theorem Inv.upd {P : Program} {n : Nat} {lent : List Nat} {w0 w w' : World} {σ : St Phys} {a a' : Act} (h : Inv P n lent w0 σ a w) (ws : Ws Phys)
    (htsz : a'.tmps.size = n) (hdfr : a'.defers = [])
    (hden : ∀ s v k, ws.lookup s = some (v, k) → Den P (puts ws σ) v (a'.tmps.getD s Go.undef))
    (hkeep : ∀ s v, ws.lookup s = some (v, true) → ∃ t t', σ s = .own t ∧ v = .own t' ∧ Keeps t t')
    (hact : ∀ s, ws.lookup s = none → a'.tmps.getD s Go.undef = a.tmps.getD s Go.undef)
    (hos : w'.os = w.os ∧ w'.tape = w.tape ∧ w'.output = w.output ∧ w.heap.size ≤ w'.heap.size)
    (hblk : ∀ b, b < w.heap.size → (∀ s, ws.lookup s ≠ none → b ∉ (σ s).foot) → w'.heap[b]? = w.heap[b]?)
    (hok : ∀ s v k, ws.lookup s = some (v, k) → ∀ t ∈ v.trees, t.Ok P w')
    (hnod : ∀ s v k, ws.lookup s = some (v, k) → v.foot.Nodup)
    (hfoot : ∀ s v k, ws.lookup s = some (v, k) → ∀ b ∈ v.foot, ((∃ s', ws.lookup s' ≠ none ∧ b ∈ (σ s').foot) ∨ w.heap.size ≤ b) ∧ b < w'.heap.size)
    (hsep : ∀ s v k s' v' k', s ≠ s' → ws.lookup s = some (v, k) → ws.lookup s' = some (v', k') → ∀ b ∈ v.foot, b ∉ v'.foot)
    (hro : ∀ s v k, ws.lookup s = some (v, k) → ∀ b ∈ v.rdb, b < w'.heap.size ∧ ((∃ s', b ∈ (σ s').rdb) ∨ (∃ s', ws.lookup s' ≠ none ∧ b ∈ (σ s').foot)) ∧
      ∀ s' v' k', ws.lookup s' = some (v', k') → b ∉ v'.foot) :
    Inv P n lent w0 (puts ws σ) a' w' := by
  have hout : ∀ s, ws.lookup s = none → (puts ws σ s).trees = (σ s).trees := fun s => puts_trees
  have hfo : ∀ s, ws.lookup s = none → (puts ws σ s).foot = (σ s).foot := fun s hs => by simp [SV.foot, hout s hs]
  have hrd : ∀ s, ws.lookup s = none → (puts ws σ s).rdb = (σ s).rdb := fun s hs => by simp [SV.rdb, hout s hs]
  have hkept : ∀ s, ws.lookup s = none → ∀ b ∈ (σ s).foot, w'.heap[b]? = w.heap[b]? := fun s hs b hb =>
    hblk b (h.fre s b hb).2 fun s' hs' hb' => h.sep s s' (fun e => hs' (e ▸ hs)) b hb hb'
  have hkeptr : ∀ s, ws.lookup s = none → ∀ b ∈ (σ s).rdb, w'.heap[b]? = w.heap[b]? := fun s hs b hb =>
    hblk b (h.rlt s b hb) fun s' _ hb' => h.ros s s' b hb hb'
  refine ⟨⟨hos.1.trans h.frame.os, hos.2.1.trans h.frame.tape, hos.2.2.1.trans h.frame.output, Nat.le_trans h.frame.size hos.2.2.2, ?_⟩, htsz, hdfr, ?_, ?_, ?_, ?_, ?_, ?_, ?_⟩
  · intro b hb hl
    rw [hblk b (Nat.lt_of_lt_of_le hb h.frame.size) fun s _ hf => by
      rcases (h.fre s b hf).1 with h1 | h1
      · omega
      · exact hl h1, h.frame.block b hb hl]
  · intro s
    cases hl : ws.lookup s with
    | some x => obtain ⟨v, k⟩ := x; rw [puts_in hl]; exact hden s v k hl
    | none =>
      rw [hact s hl]
      have hd := h.den s
      rw [puts_none hl]
      cases hr : (σ s).root? with
      | none =>
        exact hd.indep hr
      | some r =>
        have key : ∀ t, σ r = .own t → (ws.lookup r = none ∨ ∃ v, ws.lookup r = some (v, true)) →
            ∃ t', puts ws σ r = .own t' ∧ ∀ p c, t.look p = some c → (p = [] ∨ c.held = true) → ∃ c', t'.look p = some c' ∧ c'.val = c.val ∧ c'.hd = c.hd ∧ c'.kids.length = c.kids.length ∧ c'.plain = c.plain := by
          intro t ht hq
          rcases hq with hq | ⟨v, hq⟩
          · refine ⟨t, ?_, fun p c hc _ => ⟨c, hc, rfl, rfl, rfl, rfl⟩⟩
            rw [puts_none hq, ht]
            rfl
          · obtain ⟨t1, t', e1, e2, hk⟩ := hkeep r v hq
            rw [ht] at e1
            cases e1
            exact ⟨t', by rw [puts_in hq, e2], hk⟩
        have body : (ws.lookup r = none ∨ ∃ v, ws.lookup r = some (v, true)) → Den P (puts ws σ) (σ s) (a.tmps.getD s Go.undef) := by
          intro hq
          cases hs : σ s with
          | own t => simp [hs, SV.root?] at hr
          | tup ts => simp [hs, SV.root?] at hr
          | undef => simp [hs, SV.root?] at hr
          | ref r' p =>
            simp [hs, SV.root?] at hr; subst hr
            rw [hs] at hd
            obtain ⟨t, c, e1, e2, e3, e4⟩ := hd
            obtain ⟨t', f1, f2⟩ := key t e1 hq
            obtain ⟨c', g1, g2, g3, g4, g5⟩ := f2 p c e2 e3
            refine ⟨t', c', f1, g1, ?_, by rw [e4, g2]⟩
            exact e3.imp id fun e => (held_eq g3 g5).trans e
          | ptr r' p i j =>
            simp [hs, SV.root?] at hr; subst hr
            rw [hs] at hd
            obtain ⟨t, c, ad, e1, e2, e0, e3, e4⟩ := hd
            obtain ⟨t', f1, f2⟩ := key t e1 hq
            obtain ⟨c', g1, g2, g3, g4, g5⟩ := f2 p c e2 e0
            exact ⟨t', c', ad, f1, g1, e0.imp id fun e => (held_eq g3 g5).trans e, (place_hd g3 g4 i j).trans e3, e4⟩
          | sub r' p lo m =>
            simp [hs, SV.root?] at hr; subst hr
            rw [hs] at hd
            obtain ⟨t, o, e, q, cap, cs, a', e1, e2, e0, e3, e4⟩ := hd
            obtain ⟨t', f1, f2⟩ := key t e1 hq
            obtain ⟨c2, g1, g2, g3, g4, g5⟩ := f2 p _ e2 e0
            obtain ⟨h2, k2⟩ := c2
            have g3' := g3
            simp [Tr.hd] at g3; subst g3
            simp [Tr.kids] at g4
            exact ⟨t', o, e, q, cap, k2, a', f1, g1, e0.imp id fun e => (held_eq g3' g5).trans e, by omega, e4⟩
        cases hq : ws.lookup r with
        | none => simp only [hq]; exact body (.inl hq)
        | some x =>
          obtain ⟨v, k⟩ := x
          cases k with
          | false => simp only [hq]; trivial
          | true => simp only [hq]; exact body (.inr ⟨v, hq⟩)
  · intro s t ht
    cases hl : ws.lookup s with
    | some x => obtain ⟨v, k⟩ := x; rw [puts_in hl] at ht; exact hok s v k hl t ht
    | none =>
      rw [hout s hl] at ht
      refine (h.ok s t ht).move fun b hb => ?_
      rcases hb with hb | hb
      · exact hkept s hl b (by simp only [SV.foot, List.mem_flatMap]; exact ⟨t, ht, hb⟩)
      · exact hkeptr s hl b (by simp only [SV.rdb, List.mem_flatMap]; exact ⟨t, ht, hb⟩)
  · intro s
    cases hl : ws.lookup s with
    | some x => obtain ⟨v, k⟩ := x; rw [puts_in hl]; exact hnod s v k hl
    | none => rw [hfo s hl]; exact h.nod s
  · intro s b hb
    cases hl : ws.lookup s with
    | some x =>
      obtain ⟨v, k⟩ := x; rw [puts_in hl] at hb
      obtain ⟨h1, h2⟩ := hfoot s v k hl b hb
      refine ⟨?_, h2⟩
      rcases h1 with ⟨s', _, h1⟩ | h1
      · exact (h.fre s' b h1).1
      · exact .inl (Nat.le_trans h.frame.size h1)
    | none => rw [hfo s hl] at hb; exact ⟨(h.fre s b hb).1, Nat.lt_of_lt_of_le (h.fre s b hb).2 hos.2.2.2⟩
  · intro s s' hne b hb hb'
    cases hl : ws.lookup s with
    | some x =>
      obtain ⟨v, k⟩ := x; rw [puts_in hl] at hb
      cases hl' : ws.lookup s' with
      | some x' => obtain ⟨v', k'⟩ := x'; rw [puts_in hl'] at hb'; exact hsep s v k s' v' k' hne hl hl' b hb hb'
      | none =>
        rw [hfo s' hl'] at hb'
        rcases (hfoot s v k hl b hb).1 with ⟨u, hu, hbu⟩ | h1
        · exact h.sep u s' (fun e => hu (e ▸ hl')) b hbu hb'
        · have := (h.fre s' b hb').2; omega
    | none =>
      rw [hfo s hl] at hb
      cases hl' : ws.lookup s' with
      | some x' =>
        obtain ⟨v', k'⟩ := x'; rw [puts_in hl'] at hb'
        rcases (hfoot s' v' k' hl' b hb').1 with ⟨u, hu, hbu⟩ | h1
        · exact h.sep u s (fun e => hu (e ▸ hl)) b hbu hb
        · have := (h.fre s b hb).2; omega
      | none => rw [hfo s' hl'] at hb'; exact h.sep s s' hne b hb hb'
  · intro s s' b hb hb'
    cases hl : ws.lookup s with
    | some x =>
      obtain ⟨v, k⟩ := x; rw [puts_in hl] at hb
      obtain ⟨h1, h2, h3⟩ := hro s v k hl b hb
      cases hl' : ws.lookup s' with
      | some x' => obtain ⟨v', k'⟩ := x'; rw [puts_in hl'] at hb'; exact h3 s' v' k' hl' hb'
      | none =>
        rw [hfo s' hl'] at hb'
        rcases h2 with ⟨u, hu⟩ | ⟨u, hu, hbu⟩
        · exact h.ros u s' b hu hb'
        · exact h.sep u s' (fun e => hu (e ▸ hl')) b hbu hb'
    | none =>
      rw [hrd s hl] at hb
      cases hl' : ws.lookup s' with
      | some x' =>
        obtain ⟨v', k'⟩ := x'; rw [puts_in hl'] at hb'
        rcases (hfoot s' v' k' hl' b hb').1 with ⟨u, hu, hbu⟩ | h1
        · exact h.ros s u b hb hbu
        · have := h.rlt s b hb; omega
      | none => rw [hfo s' hl'] at hb'; exact h.ros s s' b hb hb'
  · intro s b hb
    cases hl : ws.lookup s with
    | some x => obtain ⟨v, k⟩ := x; rw [puts_in hl] at hb; exact (hro s v k hl b hb).1
    | none => rw [hrd s hl] at hb; exact Nat.lt_of_lt_of_le (h.rlt s b hb) hos.2.2.2
end Go.VC
end

section
namespace Go.VC

/-! ### values without blocks of their own -/
theorem Tr.plains_iff {α : Type} : ∀ ts : List (Tr α), Tr.plains ts = true ↔ ∀ t ∈ ts, t.plain = true
  | [] => by simp [Tr.plains]
  | t :: ts => by simp [Tr.plains, Tr.plains_iff ts]
theorem plain_foot : ∀ {t : L}, t.plain = true → t.foot = [] := by
  intro t
  induction t using Tr.ind with
  | h hd cs ih =>
    intro h
    simp only [Tr.plain, Bool.and_eq_true, Tr.plains_iff] at h
    simp only [Tr.foot, Tr.foots_eq, List.append_eq_nil_iff, List.flatMap_eq_nil_iff]
    refine ⟨?_, fun t ht => ih t ht (h.2 t ht)⟩
    have := h.1
    cases hd with
    | row o e x => cases o <;> simp_all [Hd.plain, Hd.own]
    | box t x => simp_all [Hd.plain]
    | _ => rfl
theorem plain_erase : ∀ t : L, t.erase.plain = t.plain := by
  intro t
  induction t using Tr.ind with
  | h hd cs ih =>
    have : Tr.plains (Tr.erases cs) = Tr.plains cs := by
      rw [Tr.erases_map, Bool.eq_iff_iff, Tr.plains_iff, Tr.plains_iff]
      simp only [List.mem_map, forall_exists_index, and_imp, forall_apply_eq_imp_iff₂]
      exact ⟨fun h t ht => by rw [← ih t ht]; exact h t ht, fun h t ht => by rw [ih t ht]; exact h t ht⟩
    simp only [Tr.erase, Tr.plain, this]
    cases hd with
    | row o e x => cases o <;> rfl
    | _ => rfl

/-! ### the state without addresses -/
def SV.erase : SV Phys → SV Unit
  | .own t => .own t.erase
  | .tup ts => .tup (ts.map (·.map Tr.erase))
  | .ref r p => .ref r p
  | .ptr r p i j => .ptr r p i j
  | .sub r p lo n => .sub r p lo n
  | .undef => .undef
def Ws.erase (ws : Ws Phys) : Ws Unit := ws.map fun (s, v, k) => (s, v.erase, k)
def St.erase (σ : St Phys) : St Unit := fun s => (σ s).erase
theorem Ws.lookup_erase : ∀ (ws : Ws Phys) (s : Nat), (Ws.erase ws).lookup s = (ws.lookup s).map fun (v, k) => (v.erase, k)
  | [], s => rfl
  | (t, v, k) :: ws, s => by
    simp only [Ws.erase, List.map_cons, List.lookup_cons]
    by_cases h : s == t
    · simp [h]
    · simp only [h]; exact Ws.lookup_erase ws s
theorem SV.root?_erase (v : SV Phys) : v.erase.root? = v.root? := by cases v <;> rfl
theorem puts_erase (ws : Ws Phys) (σ : St Phys) : St.erase (puts ws σ) = puts (Ws.erase ws) (St.erase σ) := by
  funext s
  simp only [St.erase, puts, Ws.lookup_erase, SV.root?_erase]
  cases ws.lookup s with
  | some x => rfl
  | none =>
    simp only [Option.map_none]
    cases (σ s).root? with
    | none => rfl
    | some r =>
      simp only
      cases ws.lookup r with
      | none => rfl
      | some x => obtain ⟨v, k⟩ := x; cases k <;> rfl

/-- the state as it is told: what the walk knows -/
def Stat (P : Program) (n : Nat) (lent : List Nat) (w0 : World) (σ : St Unit) (a : Act) (w : World) : Prop :=
  ∃ τ : St Phys, St.erase τ = σ ∧ Inv P n lent w0 τ a w

/-! ### inversions -/
theorem erase_own {v : SV Phys} {t : D} (h : v.erase = .own t) : ∃ t', v = .own t' ∧ t'.erase = t := by cases v <;> simp_all [SV.erase]
theorem erase_nd {t : L} {h : Hd Unit} {cs : List D} (e : t.erase = .nd h cs) : ∃ h' cs', t = .nd h' cs' ∧ h'.erase = h ∧ cs'.map Tr.erase = cs := by
  obtain ⟨h', cs'⟩ := t
  simp only [Tr.erase, Tr.nd.injEq, Tr.erases_map] at e
  exact ⟨h', cs', rfl, e⟩
theorem erase_leaf {t : L} {h : Hd Unit} (e : t.erase = .nd h []) : ∃ h', t = .nd h' [] ∧ h'.erase = h := by
  obtain ⟨h', cs', rfl, e1, e2⟩ := erase_nd e
  simp at e2; subst e2; exact ⟨h', rfl, e1⟩
theorem erase_int {t : L} {k : IntKind} {n : Int} (e : t.erase = .nd (.int k n) []) : t = .nd (.int k n) [] := by
  obtain ⟨h', rfl, e⟩ := erase_leaf e; cases h' <;> simp_all [Hd.erase]
theorem erase_bool {t : L} {b : Bool} (e : t.erase = .nd (.bool b) []) : t = .nd (.bool b) [] := by
  obtain ⟨h', rfl, e⟩ := erase_leaf e; cases h' <;> simp_all [Hd.erase]
theorem erase_str {t : L} {s : ByteArray} (e : t.erase = .nd (.str s) []) : t = .nd (.str s) [] := by
  obtain ⟨h', rfl, e⟩ := erase_leaf e; cases h' <;> simp_all [Hd.erase]
theorem erase_row {t : L} {o : Bool} {e : TypeId} {cs : List D} (h : t.erase = .nd (.row o e ()) cs) :
    ∃ x cs', t = .nd (.row o e x) cs' ∧ cs'.map Tr.erase = cs := by
  obtain ⟨h', cs', rfl, e1, e2⟩ := erase_nd h
  cases h' <;> simp [Hd.erase] at e1
  obtain ⟨rfl, rfl⟩ := e1
  exact ⟨_, _, rfl, e2⟩
theorem erase_box {t : L} {e : TypeId} {cs : List D} (h : t.erase = .nd (.box e ()) cs) :
    ∃ x cs', t = .nd (.box e x) cs' ∧ cs'.map Tr.erase = cs := by
  obtain ⟨h', cs', rfl, e1, e2⟩ := erase_nd h
  cases h' <;> simp [Hd.erase] at e1
  subst e1
  exact ⟨_, _, rfl, e2⟩
theorem erase_agg {t : L} {cs : List D} (h : t.erase = .nd .agg cs) : ∃ cs', t = .nd .agg cs' ∧ cs'.map Tr.erase = cs := by
  obtain ⟨h', cs', rfl, e1, e2⟩ := erase_nd h
  cases h' <;> simp_all [Hd.erase]
theorem cells_erase (t : L) : t.erase.cells = t.cells.map Tr.erase := by
  obtain ⟨h, cs⟩ := t
  cases h <;> simp [Tr.erase, Tr.cells, Tr.erases_map, Hd.erase]
theorem kids_erase (t : L) : t.erase.kids = t.kids.map Tr.erase := by
  obtain ⟨h, cs⟩ := t
  simp [Tr.erase, Tr.kids, Tr.erases_map]
theorem look_erase : ∀ (p : Path) (t : L), t.erase.look p = (t.look p).map Tr.erase
  | [], t => by simp [Tr.look]
  | (i, j) :: p, t => by
    have hn : t.erase.hd.noFn = t.hd.noFn := by obtain ⟨h, cs⟩ := t; cases h <;> rfl
    simp only [Tr.look, kids_erase, List.getElem?_map, hn]
    cases t.hd.noFn with
    | false => rfl
    | true =>
    simp only [cond_true]
    cases t.kids[i]? with
    | none => rfl
    | some d =>
      simp only [Option.map_some, cells_erase, List.getElem?_map]
      cases d.cells[j]? with
      | none => rfl
      | some c => simpa using look_erase p c
theorem isAgg_erase (t : L) : t.erase.isAgg = t.isAgg := by
  obtain ⟨h, cs⟩ := t
  cases h <;> rfl
theorem isCont_erase (t : L) : t.erase.isCont = t.isCont := by
  obtain ⟨h, cs⟩ := t
  cases h <;> rfl

/-! ### one slot is written; the blocks are as they were -/
theorem put_tmps {a : Act} {d s : Nat} {v : Value} (hd : d < a.tmps.size) : (a.put (some d) v).tmps.getD s Go.undef = if s = d then v else a.tmps.getD s Go.undef := by
  simp only [Act.put, Array.getD_eq_getD_getElem?, Array.getElem?_setIfInBounds]
  by_cases h : d = s
  · subst h; simp [hd]
  · simp [h, Ne.symm h]

theorem Inv.put {P : Program} {n : Nat} {lent : List Nat} {w0 w : World} {σ : St Phys} {a : Act} (h : Inv P n lent w0 σ a w) {d : Nat} (hd : d < n) {sv : SV Phys} {v : Value}
    (hden : Den P (puts [(d, sv, false)] σ) sv v) (hf : sv.foot = []) (hok : ∀ t ∈ sv.trees, t.Ok P w)
    (hr : ∀ b ∈ sv.rdb, ∃ s, b ∈ (σ s).rdb) : Inv P n lent w0 (puts [(d, sv, false)] σ) (a.put (some d) v) w := by
  have hl : ∀ s x, ([(d, sv, false)] : Ws Phys).lookup s = some x → s = d ∧ x = (sv, false) := by
    intro s x hx
    simp only [List.lookup_cons, List.lookup_nil] at hx
    split at hx
    · rename_i e; simp at e; exact ⟨e, by simpa using hx.symm⟩
    · cases hx
  have hn : ∀ s, ([(d, sv, false)] : Ws Phys).lookup s = none → s ≠ d := by
    intro s hx e; subst e; simp at hx
  have hsz : d < a.tmps.size := by rw [h.tsz]; exact hd
  refine h.upd _ (by simp [Act.put, h.tsz]) (by simpa [Act.put] using h.dfr) ?_ ?_ ?_ ⟨rfl, rfl, rfl, Nat.le_refl _⟩ (fun _ _ _ => rfl) ?_ ?_ ?_ ?_ ?_
  · intro s v' k hs; obtain ⟨rfl, e⟩ := hl _ _ hs; cases e; rw [put_tmps hsz]; simpa using hden
  · intro s v' hs; obtain ⟨_, e⟩ := hl _ _ hs; cases e
  · intro s hs; rw [put_tmps hsz, if_neg (hn s hs)]
  · intro s v' k hs; obtain ⟨rfl, e⟩ := hl _ _ hs; cases e; exact hok
  · intro s v' k hs; obtain ⟨rfl, e⟩ := hl _ _ hs; cases e; rw [hf]; exact List.nodup_nil
  · intro s v' k hs; obtain ⟨rfl, e⟩ := hl _ _ hs; cases e; rw [hf]; simp
  · intro s v' k s' v'' k' hne hs; obtain ⟨rfl, e⟩ := hl _ _ hs; cases e; rw [hf]; simp
  · intro s v' k hs b hb
    obtain ⟨rfl, e⟩ := hl _ _ hs; cases e
    obtain ⟨s', hs'⟩ := hr b hb
    refine ⟨h.rlt s' b hs', .inl ⟨s', hs'⟩, ?_⟩
    intro s'' v'' k'' h2; obtain ⟨rfl, e⟩ := hl _ _ h2; cases e; rw [hf]; simp

theorem Inv.drawn {P : Program} {n : Nat} {lent : List Nat} {w0 w w' : World} {σ : St Phys} {a : Act} (h : Inv P n lent w0 σ a w) (hh : w'.heap = w.heap) (ho : w'.os = w.os) (ht : w'.tape = w.tape) (hu : w'.output = w.output) :
    Inv P n lent w0 σ a w' :=
  ⟨⟨ho.trans h.frame.os, ht.trans h.frame.tape, hu.trans h.frame.output, by rw [hh]; exact h.frame.size, fun b hb hl => by rw [hh]; exact h.frame.block b hb hl⟩, h.tsz, h.dfr, h.den,
    fun s t ht => (h.ok s t ht).move fun b _ => by rw [hh], h.nod, by rw [hh]; exact h.fre, h.sep, h.ros, by rw [hh]; exact h.rlt⟩

/-- a value without a block of its own, made of what is there -/
theorem Inv.put_plain {P : Program} {n : Nat} {lent : List Nat} {w0 w : World} {σ : St Phys} {a : Act} (h : Inv P n lent w0 σ a w) {d : Nat} (hd : d < n) {t : L}
    (hp : t.plain = true) (hok : t.Ok P w) (hr : ∀ b ∈ t.rdb, ∃ s, b ∈ (σ s).rdb) : Inv P n lent w0 (puts [(d, .own t, false)] σ) (a.put (some d) t.val) w :=
  h.put hd rfl (by simp [SV.foot, SV.trees, plain_foot hp]) (by simpa [SV.trees] using hok) (by simpa [SV.rdb, SV.trees] using hr)
theorem Inv.put_int {P : Program} {n : Nat} {lent : List Nat} {w0 w : World} {σ : St Phys} {a : Act} (h : Inv P n lent w0 σ a w) {d : Nat} (hd : d < n) {k : IntKind} {x : Int} (hx : k.wrap x = x) :
    Inv P n lent w0 (puts [(d, .own (.nd (.int k x) []), false)] σ) (a.put (some d) (.int k x)) w :=
  h.put_plain hd (t := .nd (.int k x) []) rfl ⟨⟨rfl, hx⟩, trivial⟩ (by simp [Tr.rdb, Tr.rdbs, Hd.rdb])
theorem Inv.put_bool {P : Program} {n : Nat} {lent : List Nat} {w0 w : World} {σ : St Phys} {a : Act} (h : Inv P n lent w0 σ a w) {d : Nat} (hd : d < n) (b : Bool) :
    Inv P n lent w0 (puts [(d, .own (.nd (.bool b) []), false)] σ) (a.put (some d) (.bool b)) w :=
  h.put_plain hd (t := .nd (.bool b) []) rfl ⟨rfl, trivial⟩ (by simp [Tr.rdb, Tr.rdbs, Hd.rdb])
theorem Inv.put_str {P : Program} {n : Nat} {lent : List Nat} {w0 w : World} {σ : St Phys} {a : Act} (h : Inv P n lent w0 σ a w) {d : Nat} (hd : d < n) {s : ByteArray} (hs : s.size ≤ maxL) :
    Inv P n lent w0 (puts [(d, .own (.nd (.str s) []), false)] σ) (a.put (some d) (.string s)) w :=
  h.put_plain hd (t := .nd (.str s) []) rfl ⟨⟨rfl, hs⟩, trivial⟩ (by simp [Tr.rdb, Tr.rdbs, Hd.rdb])
end Go.VC
end

section
namespace Go.VC

/-! ### what an operand tells -/
inductive Opd | t (n : Nat) | c (d : D)
structure View where
  sv : SV Unit
  slot : Option Nat
  root : Option (Nat × SV Unit)
def view (σ : St Unit) : Opd → View
  | .t n => ⟨σ n, some n, (σ n).root?.map fun r => (r, σ r)⟩
  | .c d => ⟨.own d, none, none⟩
def View.slots (v : View) : List Nat := v.slot.toList ++ (v.root.map (·.1)).toList
def View.tree (v : View) : Option D := match v.root with
  | some (_, .own t) => some t
  | _ => none
/-- the tree that can be read there -/
def View.rd (v : View) : Option D := match v.sv with
  | .own t => some t
  | .ref _ p => v.tree.bind (·.look p)
  | .sub _ p lo n => match v.tree.bind (·.look p) with
    | some (.nd (.row _ e _) cs) => some (.nd (.row false e ()) ((cs.drop lo).take n))
    | _ => none
  | _ => none

def Lf (h : Hd Unit) : D := .nd h []
@[reducible] def dInt (k : IntKind) (n : Int) : D := .nd (.int k n) []
@[reducible] def dBool (b : Bool) : D := .nd (.bool b) []
@[reducible] def dStr (s : ByteArray) : D := .nd (.str s) []

def constD (e : TypeId) : Value → Option D
  | .int k n => if k.wrap n = n then some (dInt k n) else none
  | .bool b => some (dBool b)
  | .string s => if s.size ≤ maxL then some (dStr s) else none
  | .slice none 0 0 => some (.nd (.row true e ()) [])
  | _ => none
def opd (e : TypeId) : Operand → Option Opd
  | .tmp t => some (.t t)
  | .const v => (constD e v).map .c
  | _ => none

theorem constD_some {P : Program} {w : World} {e : TypeId} {v : Value} {d : D} (h : constD e v = some d) :
    ∃ t : L, t.erase = d ∧ t.val = v ∧ t.Ok P w ∧ t.foot = [] ∧ t.rdb = [] := by
  unfold constD at h
  split at h
  · split at h
    · rename_i k n hk; cases h; exact ⟨.nd (.int k n) [], rfl, rfl, ⟨⟨rfl, hk⟩, trivial⟩, rfl, rfl⟩
    · cases h
  · rename_i b; cases h; exact ⟨.nd (.bool b) [], rfl, rfl, ⟨rfl, trivial⟩, rfl, rfl⟩
  · split at h
    · rename_i s hs; cases h; exact ⟨.nd (.str s) [], rfl, rfl, ⟨⟨rfl, hs⟩, trivial⟩, rfl, rfl⟩
    · cases h
  · cases h; exact ⟨.nd (.row true e (none, 0)) [], rfl, rfl, ⟨⟨Nat.le_refl _, by decide, by simp, rfl, rfl⟩, trivial⟩, rfl, rfl⟩
  · cases h

theorem Tr.look_ok {P : Program} {w : World} : ∀ {p : Path} {t c : L}, t.Ok P w → t.look p = some c → c.Ok P w ∧ (∀ b ∈ c.foot, b ∈ t.foot) ∧ (∀ b ∈ c.rdb, b ∈ t.rdb)
  | [], t, c, hk, h => by simp [Tr.look] at h; subst h; exact ⟨hk, fun _ h => h, fun _ h => h⟩
  | (i, j) :: p, .nd hd cs, c, hk, h => by
    simp only [Tr.look, Tr.kids, Tr.hd] at h
    cases hnf : hd.noFn with
    | false => simp [hnf] at h
    | true =>
    simp only [hnf, cond_true] at h
    cases hi : cs[i]? with
    | none => simp [hi] at h
    | some d =>
      simp only [hi] at h
      cases hj : d.cells[j]? with
      | none => simp [hj] at h
      | some x =>
        simp only [hj] at h
        simp only [Tr.Ok, Tr.Oks_iff] at hk
        have hd' := hk.2 d (List.mem_of_getElem? hi)
        have hx : x.Ok P w ∧ (∀ b ∈ x.foot, b ∈ d.foot) ∧ (∀ b ∈ x.rdb, b ∈ d.rdb) := by
          obtain ⟨h1, c1⟩ := d
          cases h1 with
          | agg =>
            simp only [Tr.cells] at hj
            have hm := List.mem_of_getElem? hj
            simp only [Tr.Ok, Tr.Oks_iff] at hd'
            refine ⟨hd'.2 x hm, fun b hb => ?_, fun b hb => ?_⟩
            · simp [Tr.foot, Tr.foots_eq]; exact .inr ⟨x, hm, hb⟩
            · simp [Tr.rdb, Tr.rdbs_eq]; exact .inr ⟨x, hm, hb⟩
          | _ =>
            simp only [Tr.cells] at hj
            cases j with
            | zero => simp at hj; subst hj; exact ⟨hd', fun _ h => h, fun _ h => h⟩
            | succ j => simp at hj
        obtain ⟨h1, h2, h3⟩ := Tr.look_ok hx.1 h
        have hm := List.mem_of_getElem? hi
        refine ⟨h1, fun b hb => ?_, fun b hb => ?_⟩
        · simp only [Tr.foot, Tr.foots_eq, List.mem_append, List.mem_flatMap]; exact .inr ⟨d, hm, hx.2.1 b (h2 b hb)⟩
        · simp only [Tr.rdb, Tr.rdbs_eq, List.mem_append, List.mem_flatMap]; exact .inr ⟨d, hm, hx.2.2 b (h3 b hb)⟩

theorem vals_drop {cs : List L} {m : Nat} (hs : ∀ d ∈ cs, d.cells.length = m) (lo : Nat) : vals (cs.drop lo) = (vals cs).drop (lo * m) := by
  induction lo generalizing cs with
  | zero => simp
  | succ lo ih =>
    cases cs with
    | nil => simp [vals]
    | cons d ds =>
      have hd : (d.cells.map Tr.cval).length = m := by simpa using hs d (by simp)
      have : vals (d :: ds) = d.cells.map Tr.cval ++ vals ds := by simp [vals]
      rw [List.drop_succ_cons, ih (fun x hx => hs x (by simp [hx])), this, Nat.add_mul, Nat.one_mul, Nat.add_comm, ← hd, List.drop_append]
      simp
theorem vals_take_get {cs : List L} {n i : Nat} {v : Value} (h : (vals (cs.take n))[i]? = some v) : (vals cs)[i]? = some v := by
  have : vals cs = vals (cs.take n) ++ vals (cs.drop n) := by
    unfold vals
    rw [← List.flatMap_append, List.take_append_drop]
  rw [this, List.getElem?_append_left, h]
  exact (List.getElem?_eq_some_iff.1 h).1
theorem vals_length {cs : List L} {m : Nat} (hs : ∀ d ∈ cs, d.cells.length = m) : (vals cs).length = cs.length * m := by
  induction cs with
  | nil => simp [vals]
  | cons d ds ih =>
    have : vals (d :: ds) = d.cells.map Tr.cval ++ vals ds := by simp [vals]
    rw [this, List.length_append, ih fun x hx => hs x (by simp [hx])]
    simp [hs d (by simp), Nat.add_mul, Nat.add_comm]

/-- a part of a row, to be read -/
theorem ok_part {P : Program} {w : World} {o : Bool} {e : TypeId} {a a' : Option Addr} {cap lo n : Nat} {cs : List L}
    (h : (Tr.nd (.row o e (a, cap)) cs).Ok P w) (hl : lo + n ≤ cs.length)
    (ha : lo < cap → ∃ ad, a = some ad ∧ a' = some ⟨ad.block, ad.off + lo * szOf P e, none⟩) (hz : cap ≤ lo → TailOk (szOf P e) a cap a') :
    (Tr.nd (.row false e (a', cap - lo)) ((cs.drop lo).take n)).Ok P w := by
  simp only [Tr.Ok, Tr.Oks_iff] at h ⊢
  obtain ⟨⟨h1, h2, h3, h4⟩, h5⟩ := h
  have hmem : ∀ d, d ∈ (cs.drop lo).take n → d ∈ cs := fun d hd => List.drop_subset _ _ (List.take_subset _ _ hd)
  have hlen : ((cs.drop lo).take n).length = n := by simp; omega
  refine ⟨⟨by omega, by omega, fun d hd => h3 d (hmem d hd), ?_⟩, fun d hd => h5 d (hmem d hd)⟩
  by_cases hlo : lo < cap
  · obtain ⟨ad, rfl, rfl⟩ := ha hlo
    refine ⟨fun _ => rfl, fun i v hi => ?_⟩
    have hv := vals_take_get hi
    rw [vals_drop h3, List.getElem?_drop] at hv
    cases o with
    | true =>
      obtain ⟨_, c, hc1, hsz, hcv⟩ := h4
      have := hcv _ _ hv
      simp only [World.cell?, hc1]
      simpa [Nat.add_assoc] using this
    | false =>
      have := h4.2 _ _ hv
      simpa [Nat.add_assoc] using this
  · have h0 : n = 0 := by omega
    subst h0
    cases a' with
    | none => exact ⟨by simp, by omega⟩
    | some ad => exact ⟨fun h => by omega, fun i v hi => by simp [vals] at hi⟩

def Tr.isRow {α : Type} : Tr α → Bool | .nd (.row ..) _ => true | _ => false
/-- what is read at an operand: a tree with the operand's value -/
theorem readK {P : Program} {n : Nat} {lent : List Nat} {w0 w : World} {τ : St Phys} {a : Act} (h : Inv P n lent w0 τ a w) {e : TypeId} {x : Operand} {o : Opd} (hx : opd e x = some o) {d : D}
    (hr : (view (St.erase τ) o).rd = some d) :
    ∃ t : L, t.erase = d ∧ t.val = a.eval x ∧ t.Ok P w ∧ (∀ b ∈ t.foot, ∃ s ∈ (view (St.erase τ) o).slots, b ∈ (τ s).foot) ∧
      (∀ b ∈ t.rdb, (∃ s, b ∈ (τ s).rdb) ∨ ((∃ s ∈ (view (St.erase τ) o).slots, b ∈ (τ s).foot) ∧ t.isRow = true)) ∧
      ∀ b ∈ Tr.rdbs t.kids, ∃ s, b ∈ (τ s).rdb := by
  unfold opd at hx
  split at hx
  · rename_i s
    cases hx
    have hd := h.den s
    have hev : a.eval (.tmp s) = a.tmps.getD s Go.undef := rfl
    rw [hev]
    simp only [view, View.rd, St.erase] at hr
    cases hs : τ s with
    | own t =>
      rw [hs] at hd hr
      simp [SV.erase] at hr
      refine ⟨t, hr, hd.symm, h.ok s t (by simp [hs, SV.trees]), fun b hb => ⟨s, by simp [view, View.slots], ?_⟩, fun b hb => .inl ⟨s, ?_⟩, fun b hb => ⟨s, ?_⟩⟩
      · simpa [hs, SV.foot, SV.trees] using hb
      · simpa [hs, SV.rdb, SV.trees] using hb
      · simp only [hs, SV.rdb, SV.trees, List.flatMap_cons, List.flatMap_nil, List.append_nil]; obtain ⟨h1, k1⟩ := t; simp only [Tr.rdb, List.mem_append]; exact .inr hb
    | tup ts => rw [hs] at hr; simp [SV.erase] at hr
    | undef => rw [hs] at hr; simp [SV.erase] at hr
    | ptr r p i j => rw [hs] at hr; simp [SV.erase] at hr
    | ref r p =>
      have hrs : r ∈ (view (St.erase τ) (.t s)).slots := by simp [view, View.slots, St.erase, hs, SV.erase, SV.root?]
      rw [hs] at hd hr
      obtain ⟨t, c, e1, e2, e3, e4⟩ := hd
      simp [SV.erase, SV.root?, View.tree, e1, look_erase, e2] at hr
      have hk := h.ok r t (by simp [e1, SV.trees])
      obtain ⟨f1, f2, f3⟩ := Tr.look_ok hk e2
      refine ⟨c, hr, e4.symm, f1, fun b hb => ⟨r, hrs, ?_⟩, fun b hb => .inl ⟨r, ?_⟩, fun b hb => ⟨r, ?_⟩⟩
      · simpa [e1, SV.foot, SV.trees] using f2 b hb
      · simpa [e1, SV.rdb, SV.trees] using f3 b hb
      · have := f3 b (by obtain ⟨h1, k1⟩ := c; simp only [Tr.rdb, List.mem_append]; exact .inr hb)
        simpa [e1, SV.rdb, SV.trees] using this
    | sub r p lo m =>
      have hrs : r ∈ (view (St.erase τ) (.t s)).slots := by simp [view, View.slots, St.erase, hs, SV.erase, SV.root?]
      rw [hs] at hd hr
      obtain ⟨t, ow, ee, q, cap, cs, a', e1, e2, e0, e3, e4, e5, e6⟩ := hd
      simp [SV.erase, SV.root?, View.tree, e1, look_erase, e2, Tr.erase, Hd.erase] at hr
      have hk := h.ok r t (by simp [e1, SV.trees])
      obtain ⟨f1, f2, f3⟩ := Tr.look_ok hk e2
      have hsub : ∀ d, d ∈ (cs.drop lo).take m → d ∈ cs := fun d hd => List.drop_subset _ _ (List.take_subset _ _ hd)
      refine ⟨.nd (.row false ee (a', cap - lo)) ((cs.drop lo).take m), ?_, ?_, ok_part f1 e3 e5 e6, fun b hb => ⟨r, hrs, ?_⟩, fun b hb => ?_, fun b hb => ?_⟩
      · rw [← hr]; simp [Tr.erase, Hd.erase, Tr.erases_map]
      · rw [e4]; simp only [Tr.val, Tr.cval, Tr.val0, Value.slice.injEq, true_and, and_true]; simp; omega
      · simp only [e1, SV.foot, SV.trees, List.flatMap_cons, List.flatMap_nil, List.append_nil]
        apply f2
        simp only [Tr.foot, Hd.own, List.nil_append, Tr.foots_eq, List.mem_flatMap] at hb
        obtain ⟨d, hd, hb⟩ := hb
        simp only [Tr.foot, Tr.foots_eq, List.mem_append, List.mem_flatMap]
        exact .inr ⟨d, hsub d hd, hb⟩
      · simp only [Tr.rdb, Tr.rdbs_eq, List.mem_append, List.mem_flatMap] at hb
        rcases hb with hb | ⟨d, hd, hb⟩
        · cases hcs : (cs.drop lo).take m with
          | nil => rw [hcs] at hb; cases a' <;> simp [Hd.rdb] at hb
          | cons d ds =>
            have hm : 0 < m := by cases m with | zero => simp at hcs | succ m => omega
            have hcap := f1.1.1
            obtain ⟨ad, rfl, rfl⟩ := e5 (by omega)
            rw [hcs] at hb
            simp [Hd.rdb] at hb
            subst hb
            cases ow with
            | true => right; refine ⟨⟨r, hrs, ?_⟩, rfl⟩; simp only [e1, SV.foot, SV.trees, List.flatMap_cons, List.flatMap_nil, List.append_nil]; apply f2; simp [Tr.foot, Hd.own]
            | false =>
              left; refine ⟨r, ?_⟩; simp only [e1, SV.rdb, SV.trees, List.flatMap_cons, List.flatMap_nil, List.append_nil]; apply f3
              cases cs with
              | nil => simp at hcs
              | cons y ys => simp [Tr.rdb, Hd.rdb]
        · left; refine ⟨r, ?_⟩; simp only [e1, SV.rdb, SV.trees, List.flatMap_cons, List.flatMap_nil, List.append_nil]; apply f3
          simp only [Tr.rdb, Tr.rdbs_eq, List.mem_append, List.mem_flatMap]
          exact .inr ⟨d, hsub d hd, hb⟩
      · simp only [Tr.kids, Tr.rdbs_eq, List.mem_flatMap] at hb
        obtain ⟨d, hd, hb⟩ := hb
        refine ⟨r, ?_⟩; simp only [e1, SV.rdb, SV.trees, List.flatMap_cons, List.flatMap_nil, List.append_nil]; apply f3
        simp only [Tr.rdb, Tr.rdbs_eq, List.mem_append, List.mem_flatMap]
        exact .inr ⟨d, hsub d hd, hb⟩
  · rename_i v
    cases hc : constD e v with
    | none => simp [hc] at hx
    | some d' =>
      simp [hc] at hx; subst hx
      simp [view, View.rd] at hr; subst hr
      obtain ⟨t, h1, h2, h3, h4, h5⟩ := constD_some (P := P) (w := w) hc
      exact ⟨t, h1, h2, h3, fun b hb => by simp [h4] at hb, fun b hb => by simp [h5] at hb, fun b hb => by obtain ⟨q1, q2⟩ := t; simp only [Tr.rdb, List.append_eq_nil_iff] at h5; simp only [Tr.kids] at hb; rw [h5.2] at hb; cases hb⟩
  · cases hx
theorem read {P : Program} {n : Nat} {lent : List Nat} {w0 w : World} {τ : St Phys} {a : Act} (h : Inv P n lent w0 τ a w) {e : TypeId} {x : Operand} {o : Opd} (hx : opd e x = some o) {d : D}
    (hr : (view (St.erase τ) o).rd = some d) :
    ∃ t : L, t.erase = d ∧ t.val = a.eval x ∧ t.Ok P w ∧ (∀ b ∈ t.foot, ∃ s, b ∈ (τ s).foot) ∧
      ∀ b ∈ t.rdb, (∃ s, b ∈ (τ s).rdb) ∨ ((∃ s, b ∈ (τ s).foot) ∧ t.isRow = true) := by
  obtain ⟨t, h1, h2, h3, h4, h5, _⟩ := readK h hx hr
  exact ⟨t, h1, h2, h3, fun b hb => (h4 b hb).imp fun _ h => h.2, fun b hb => (h5 b hb).imp id fun h => ⟨h.1.imp fun _ h => h.2, h.2⟩⟩
end Go.VC
end

section
namespace Go.VC

structure Eff where
  pre : Prop
  ws : Ws Unit

inductive PO
  | bin (op : BinOp) | not | neg | cv (k : IntKind) | ix | lenS | lenR | slS (lo hi : Bool) | pick | mx | mn
  | fld (off n : Nat) (agg : Bool)
  | eqB (ng : Bool)
  deriving DecidableEq

def loOf : IntKind → Int
  | .i8 => -128 | .i16 => -32768 | .i32 => -2147483648 | .i64 => -9223372036854775808 | _ => 0
def hiOf : IntKind → Int
  | .i8 => 127 | .i16 => 32767 | .i32 => 2147483647 | .i64 => 9223372036854775807
  | .u8 => 255 | .u16 => 65535 | .u32 => 4294967295 | .u64 => 18446744073709551615
theorem wrap_iff (k : IntKind) (n : Int) : k.wrap n = n ↔ loOf k ≤ n ∧ n ≤ hiOf k := by
  cases k <;> simp [IntKind.wrap, IntKind.bits, IntKind.signed, loOf, hiOf] <;> (try split) <;> omega
theorem wrap_in (k : IntKind) (n : Int) : loOf k ≤ k.wrap n ∧ k.wrap n ≤ hiOf k := by
  cases k <;> simp [IntKind.wrap, IntKind.bits, IntKind.signed, loOf, hiOf] <;> (try split) <;> omega
theorem wrap_wrap (k : IntKind) (n : Int) : k.wrap (k.wrap n) = k.wrap n := (wrap_iff k _).2 (wrap_in k n)

/-- the binary operations on whole numbers -/
def binInt (op : BinOp) (k : IntKind) (a b : Int) : Option (Prop × D) :=
  match op with
  | .add => some (True, dInt k (k.wrap (a + b)))
  | .sub => some (True, dInt k (k.wrap (a - b)))
  | .mul => some (True, dInt k (k.wrap (a * b)))
  | .quo => some (b ≠ 0, dInt k (k.wrap (a.tdiv b)))
  | .rem => some (b ≠ 0, dInt k (a.tmod b))
  | .and => some (True, dInt k (k.wrap (BitVec.ofInt k.bits a &&& BitVec.ofInt k.bits b).toNat))
  | .or => some (True, dInt k (k.wrap (BitVec.ofInt k.bits a ||| BitVec.ofInt k.bits b).toNat))
  | .xor => some (True, dInt k (k.wrap (BitVec.ofInt k.bits a ^^^ BitVec.ofInt k.bits b).toNat))
  | .andNot => some (True, dInt k (k.wrap (BitVec.ofInt k.bits a &&& ~~~BitVec.ofInt k.bits b).toNat))
  | .eql => some (True, dBool (a == b))
  | .neq => some (True, dBool (a != b))
  | .lss => some (True, dBool (a < b))
  | .leq => some (True, dBool (a ≤ b))
  | .gtr => some (True, dBool (a > b))
  | .geq => some (True, dBool (a ≥ b))
  | _ => none
def shInt (op : BinOp) (k : IntKind) (a b : Int) : Option (Prop × D) :=
  match op with
  | .shl => some (0 ≤ b, dInt k (k.wrap (a * 2 ^ (min b.toNat k.bits))))
  | .shr => some (0 ≤ b, dInt k (a.fdiv (2 ^ (min b.toNat k.bits))))
  | _ => none
def binStr (op : BinOp) (a b : ByteArray) : Option (Prop × D) :=
  match op with
  | .add => some (a.size + b.size ≤ maxL, dStr (a ++ b))
  | .eql => some (True, dBool (a.toList == b.toList))
  | .neq => some (True, dBool (!(a.toList == b.toList)))
  | .lss => some (True, dBool (Op.bytesLess a.toList b.toList))
  | .leq => some (True, dBool (Op.bytesLess a.toList b.toList || a.toList == b.toList))
  | .gtr => some (True, dBool (!(Op.bytesLess a.toList b.toList || a.toList == b.toList)))
  | .geq => some (True, dBool (!Op.bytesLess a.toList b.toList))
  | _ => none
def isShift : BinOp → Bool | .shl | .shr => true | _ => false

def byteAt (s : ByteArray) (i : Int) : Int := ((s.data.toList.getD i.toNat 0).toNat : Int)

def det (x : Option (Prop × D)) : Option (Prop × D × Prop) := x.map fun (p, d) => (p, d, True)
def pureRes : PO → List D → Option (Prop × D × Prop)
  | .bin op, [.nd (.int k a) [], .nd (.int k' b) []] => if isShift op then det (shInt op k a b) else if k = k' then det (binInt op k a b) else none
  | .bin op, [.nd (.str a) [], .nd (.str b) []] => det (binStr op a b)
  | .not, [.nd (.bool b) []] => some (True, dBool (!b), True)
  | .neg, [.nd (.int k a) []] => some (True, dInt k (k.wrap (0 - a)), True)
  | .cv k, [.nd (.int _ a) []] => some (True, dInt k (k.wrap a), True)
  | .ix, [.nd (.str s) [], .nd (.int _ i) []] => some (0 ≤ i ∧ i < s.size, dInt .u8 (byteAt s i), True)
  | .lenS, [.nd (.str s) []] => some (True, dInt .i64 s.size, (s.size : Int) ≤ 9223372036854775807)
  | .lenR, [.nd (.row _ _ _) cs] => some (True, dInt .i64 cs.length, (cs.length : Int) ≤ 9223372036854775807)
  | .slS false false, [.nd (.str s) []] => some (True, dStr s, True)
  | .slS true false, [.nd (.str s) [], .nd (.int _ i) []] => some (0 ≤ i ∧ i ≤ s.size, dStr (s.extract i.toNat s.size), True)
  | .slS false true, [.nd (.str s) [], .nd (.int _ j) []] => some (0 ≤ j ∧ j ≤ s.size, dStr (s.extract 0 j.toNat), True)
  | .slS true true, [.nd (.str s) [], .nd (.int _ i) [], .nd (.int _ j) []] => some (0 ≤ i ∧ i ≤ j ∧ j ≤ s.size, dStr (s.extract i.toNat j.toNat), True)
  | .mx, [.nd (.int k a) [], .nd (.int k' b) []] => if k = k' then some (True, dInt k (if b > a then b else a), True) else none
  | .mn, [.nd (.int k a) [], .nd (.int k' b) []] => if k = k' then some (True, dInt k (if b < a then b else a), True) else none
  | .eqB ng, [.nd (.bool a) [], .nd (.bool b) []] => some (True, dBool (bif ng then !decide (a = b) else decide (a = b)), True)
  | .fld off n agg, [.nd .agg cs] => if agg then (if off + n ≤ cs.length then some (True, .nd .agg ((cs.drop off).take n), True) else none)
      else match cs[off]? with
        | some c => some (True, c, True)
        | none => none
  | _, _ => none

def pureK : Nat → Option (Prop × D × Prop) → Option Eff
  | d, some (pre, r, _) => some ⟨pre, [(d, .own r, false)]⟩
  | _, none => none
def rdAll : List View → Option (List D)
  | [] => some []
  | v :: vs => match v.rd, rdAll vs with
    | some d, some ds => some (d :: ds)
    | _, _ => none
def pureEff (d : Nat) (po : PO) : Option (List D) → Option Eff
  | some ds => pureK d (pureRes po ds)
  | none => none

/-- an operation told as 'F' -/
def Snd (P : Program) (n : Nat) (lent : List Nat) (o : Oper) (F : St Unit → Option Eff) : Prop :=
  ∀ (w0 : World) (τ : St Phys) (a : Act) (w : World) (E : Eff) (K : Act → World → Prop) (Q : Exit → Act → World → Prop), Inv P n lent w0 τ a w → F (St.erase τ) = some E → E.pre →
    (∀ τ' a' w', St.erase τ' = puts E.ws (St.erase τ) → Inv P n lent w0 τ' a' w' → K a' w') → o.wp P a w K Q

theorem wp_value {P : Program} {o : Oper} {a : Act} {w w' : World} {K : Act → World → Prop} {Q : Exit → Act → World → Prop} {v : Value}
    (hr : (execOp a.eval o).run P w = .ok (.value v) w') (h : K (a.put o.dst v) w') : o.wp P a w K Q := by
  unfold Oper.wp; rw [hr]; exact h
theorem run_value {P : Program} {s : Sem Value} {w w' : World} {v : Value} (h : s.run P w = .ok v w') :
    (do pure (Next.value (← s)) : Sem Next).run P w = .ok (.value v) w' := by
  simp [h]

/-- an operation whose result is a plain value made of what is read -/
theorem snd_pure {P : Program} {n : Nat} {lent : List Nat} {o : Oper} {d : Nat} (hd : o.dst = some d) (hn : d < n) {xs : List (TypeId × Operand)} {os : List Opd} (hx : xs.map (fun x => opd x.1 x.2) = os.map some)
    {po : PO}
    (h : ∀ (a : Act) (w : World) (ts : List L) (pre : Prop) (res : D) (fact : Prop), ts.map Tr.val = xs.map (fun x => a.eval x.2) → (∀ t ∈ ts, t.Ok P w) → pureRes po (ts.map Tr.erase) = some (pre, res, fact) → pre →
      ∃ t : L, t.erase = res ∧ fact ∧ t.plain = true ∧ t.Ok P w ∧ (∀ b ∈ t.rdb, ∃ u ∈ ts, b ∈ u.rdb ∧ u.isRow = false) ∧ (execOp a.eval o).run P w = .ok (.value t.val) w) :
    Snd P n lent o (fun σ => pureEff d po (rdAll (os.map (view σ)))) := by
  intro w0 τ a w E K Q hi he hp hk
  cases hrd : rdAll (os.map (view (St.erase τ))) with
  | none => simp [hrd, pureEff] at he
  | some ds =>
  simp only [hrd, pureEff] at he
  have hts : ∃ ts : List L, ts.map Tr.erase = ds ∧ ts.map Tr.val = xs.map (fun x => a.eval x.2) ∧ (∀ t ∈ ts, t.Ok P w ∧ ∀ b ∈ t.rdb, (∃ s, b ∈ (τ s).rdb) ∨ ((∃ s, b ∈ (τ s).foot) ∧ t.isRow = true)) := by
    clear he h
    induction os generalizing xs ds with
    | nil =>
      simp at hx; subst hx
      simp [rdAll] at hrd; subst hrd
      exact ⟨[], rfl, rfl, by simp⟩
    | cons o os ih =>
      cases xs with
      | nil => simp at hx
      | cons x xs =>
        simp only [List.map_cons, List.cons.injEq] at hx
        simp only [List.map_cons, rdAll] at hrd
        cases h1 : (view (St.erase τ) o).rd with
        | none => simp [h1] at hrd
        | some d1 =>
          cases h2 : rdAll (os.map (view (St.erase τ))) with
          | none => simp [h1, h2] at hrd
          | some ds' =>
            simp [h1, h2] at hrd
            subst hrd
            obtain ⟨t, e1, e2, e3, _, e4⟩ := read hi hx.1 h1
            obtain ⟨ts, f1, f2, f3⟩ := ih hx.2 ds' h2
            refine ⟨t :: ts, by simp [e1, f1], by simp [e2, f2], ?_⟩
            intro u hu
            rcases List.mem_cons.1 hu with rfl | hu
            · exact ⟨e3, e4⟩
            · exact f3 u hu
  obtain ⟨ts, rfl, ht2, ht3⟩ := hts
  cases hR : pureRes po (ts.map Tr.erase) with
  | none => simp [hR, pureK] at he
  | some x =>
    obtain ⟨pre, res, fact⟩ := x
    simp only [hR, pureK, Option.some.injEq] at he
    subst he
    obtain ⟨t, g1, g0, g2, g3, g4, g5⟩ := h a w ts pre res fact ht2 (fun t ht => (ht3 t ht).1) hR hp
    refine wp_value g5 (hk (puts [(d, .own t, false)] τ) _ _ (by rw [puts_erase, ← g1]; rfl) ?_)
    rw [hd]
    refine hi.put_plain hn g2 g3 fun b hb => ?_
    obtain ⟨u, hu, hbu, hpu⟩ := g4 b hb
    rcases (ht3 u hu).2 b hbu with hs | hs
    · exact hs
    · rw [hpu] at hs; cases hs.2
end Go.VC
end

section
namespace Go.VC

theorem run_bind {α β : Type} {P : Program} {s : Sem α} {f : α → Sem β} {w w' : World} {x : α} (h : s.run P w = .ok x w') : (s >>= f).run P w = (f x).run P w' := by
  simp [h]
theorem eqGuard_int {P : Program} {w : World} (op : BinOp) (t : TypeId) (x y : Operand) (k k' : IntKind) (a b : Int) : (eqGuard op t x y (.int k a) (.int k' b)).run P w = .ok () w := by
  unfold eqGuard; cases op <;> simp
theorem eqGuard_str {P : Program} {w : World} (op : BinOp) (t : TypeId) (x y : Operand) (a b : ByteArray) : (eqGuard op t x y (.string a) (.string b)).run P w = .ok () w := by
  unfold eqGuard; cases op <;> simp

theorem emod_le' {a : Int} (b : Int) (h : 0 ≤ a) : a % b ≤ a := by
  have h1 : 0 ≤ b * (a / b) := by
    by_cases hb : 0 ≤ b
    · exact Int.mul_nonneg hb (Int.ediv_nonneg h hb)
    · have := Int.ediv_nonpos_of_nonneg_of_nonpos h (show b ≤ 0 by omega)
      exact Int.mul_nonneg_of_nonpos_of_nonpos (by omega) this
  have := Int.mul_ediv_add_emod a b
  omega
theorem tmod_in {k : IntKind} {a b : Int} (h : k.wrap a = a) : k.wrap (a.tmod b) = a.tmod b := by
  rw [wrap_iff] at h ⊢
  have h1 : a.tmod b = a - b * a.tdiv b := by have := Int.mul_tdiv_add_tmod a b; omega
  by_cases h0 : 0 ≤ a
  · have h2 := Int.tmod_nonneg b h0
    have h3 : a.tmod b ≤ a := by
      by_cases hb : b = 0
      · subst hb; simp
      · rw [Int.tmod_eq_emod_of_nonneg h0]
        exact emod_le' _ h0
    constructor <;> (cases k <;> simp [loOf, hiOf] at * <;> omega)
  · have e : a.tmod b = -((-a).tmod b) := by rw [Int.neg_tmod]; omega
    have h2 := Int.tmod_nonneg b (show 0 ≤ -a by omega)
    have h3 : (-a).tmod b ≤ -a := by
      rw [Int.tmod_eq_emod_of_nonneg (by omega)]
      exact emod_le' _ (by omega)
    constructor <;> (cases k <;> simp [loOf, hiOf] at * <;> omega)
theorem fdiv_in {k : IntKind} {a : Int} (m : Nat) (h : k.wrap a = a) : k.wrap (a.fdiv (2 ^ m)) = a.fdiv (2 ^ m) := by
  rw [wrap_iff] at h ⊢
  have hp : (0 : Int) < 2 ^ m := Int.pow_pos (by omega)
  rw [Int.fdiv_eq_ediv_of_nonneg _ (Int.le_of_lt hp)]
  by_cases h0 : 0 ≤ a
  · have h1 := Int.ediv_nonneg h0 (Int.le_of_lt hp)
    have h2 : a / 2 ^ m ≤ a := Int.ediv_le_self _ h0
    constructor <;> (cases k <;> simp [loOf, hiOf] at * <;> omega)
  · have h1 : a / 2 ^ m < 0 := Int.ediv_neg_of_neg_of_pos (by omega) hp
    have h2 : a ≤ a / 2 ^ m := by
      rw [Int.le_ediv_iff_mul_le hp]
      have : a * 2 ^ m ≤ a * 1 := Int.mul_le_mul_of_nonpos_left (by omega) (by omega)
      omega
    constructor <;> (cases k <;> simp [loOf, hiOf] at * <;> omega)
theorem byteAt_in (s : ByteArray) (i : Int) : IntKind.u8.wrap (byteAt s i) = byteAt s i := by
  rw [wrap_iff]
  unfold byteAt
  have := (s.data.toList.getD i.toNat 0).toNat_lt
  generalize (s.data.toList.getD i.toNat 0).toNat = x at *
  simp [loOf, hiOf]; omega
end Go.VC
end

section
namespace Go.VC
variable {P : Program} {n : Nat} {lent : List Nat} {o : Oper} {d : Nat}

theorem two {ts : List L} {v1 v2 : Value} (h : ts.map Tr.val = [v1, v2]) : ∃ t1 t2, ts = [t1, t2] ∧ t1.val = v1 ∧ t2.val = v2 := by
  match ts, h with
  | [t1, t2], h => exact ⟨t1, t2, rfl, by simpa using h⟩
theorem one {ts : List L} {v1 : Value} (h : ts.map Tr.val = [v1]) : ∃ t1, ts = [t1] ∧ t1.val = v1 := by
  match ts, h with
  | [t1], h => exact ⟨t1, rfl, by simpa using h⟩
theorem int_ok {w : World} {k : IntKind} {x : Int} (h : k.wrap x = x) : (Tr.nd (Hd.int k x) [] : L).Ok P w := ⟨⟨rfl, h⟩, trivial⟩
theorem bool_ok {w : World} {b : Bool} : (Tr.nd (Hd.bool b) [] : L).Ok P w := ⟨rfl, trivial⟩
theorem str_ok {w : World} {s : ByteArray} (h : s.size ≤ maxL) : (Tr.nd (Hd.str s) [] : L).Ok P w := ⟨⟨rfl, h⟩, trivial⟩
theorem int_rdb {k : IntKind} {x : Int} : (Tr.nd (Hd.int k x) [] : L).rdb = [] := rfl
theorem bool_rdb {x : Bool} : (Tr.nd (Hd.bool x) [] : L).rdb = [] := rfl
theorem str_rdb {x : ByteArray} : (Tr.nd (Hd.str x) [] : L).rdb = [] := rfl

theorem run_binInt {w : World} {op : BinOp} {k : IntKind} {a b : Int} (xt : TypeId) (hk : k.wrap a = a) {pre : Prop} {r : D} (h : binInt op k a b = some (pre, r)) (hp : pre) :
    ∃ t : L, t.erase = r ∧ t.plain = true ∧ t.Ok P w ∧ t.rdb = [] ∧ (binOp op xt (.int k a) (.int k b)).run P w = .ok t.val w := by
  cases op <;> simp only [binInt, Option.some.injEq, Prod.mk.injEq, reduceCtorEq] at h <;> obtain ⟨rfl, rfl⟩ := h
  case add => exact ⟨.nd (.int k _) [], rfl, rfl, int_ok (wrap_wrap _ _), rfl, by simp [binOp, Op.intArith, Tr.val, Tr.cval, Tr.val0]⟩
  case sub => exact ⟨.nd (.int k _) [], rfl, rfl, int_ok (wrap_wrap _ _), rfl, by simp [binOp, Op.intArith, Tr.val, Tr.cval, Tr.val0]⟩
  case mul => exact ⟨.nd (.int k _) [], rfl, rfl, int_ok (wrap_wrap _ _), rfl, by simp [binOp, Op.intArith, Tr.val, Tr.cval, Tr.val0]⟩
  case quo => exact ⟨.nd (.int k _) [], rfl, rfl, int_ok (wrap_wrap _ _), rfl, by simp [binOp, Op.intDiv, hp, Tr.val, Tr.cval, Tr.val0]⟩
  case rem => exact ⟨.nd (.int k _) [], rfl, rfl, int_ok (tmod_in hk), rfl, by simp [binOp, Op.intDiv, hp, Tr.val, Tr.cval, Tr.val0]⟩
  case and => exact ⟨.nd (.int k _) [], rfl, rfl, int_ok (wrap_wrap _ _), rfl, by simp [binOp, Op.intBits, Tr.val, Tr.cval, Tr.val0]⟩
  case or => exact ⟨.nd (.int k _) [], rfl, rfl, int_ok (wrap_wrap _ _), rfl, by simp [binOp, Op.intBits, Tr.val, Tr.cval, Tr.val0]⟩
  case xor => exact ⟨.nd (.int k _) [], rfl, rfl, int_ok (wrap_wrap _ _), rfl, by simp [binOp, Op.intBits, Tr.val, Tr.cval, Tr.val0]⟩
  case andNot => exact ⟨.nd (.int k _) [], rfl, rfl, int_ok (wrap_wrap _ _), rfl, by simp [binOp, Op.intBits, Tr.val, Tr.cval, Tr.val0]⟩
  all_goals exact ⟨.nd (.bool _) [], rfl, rfl, bool_ok, rfl, by simp [binOp, Op.intCmp, Tr.val, Tr.cval, Tr.val0]⟩

theorem run_shInt {w : World} {op : BinOp} {k k' : IntKind} {a b : Int} (xt : TypeId) (hk : k.wrap a = a) {pre : Prop} {r : D} (h : shInt op k a b = some (pre, r)) (hp : pre) :
    ∃ t : L, t.erase = r ∧ t.plain = true ∧ t.Ok P w ∧ t.rdb = [] ∧ (binOp op xt (.int k a) (.int k' b)).run P w = .ok t.val w := by
  cases op <;> simp only [shInt, Option.some.injEq, Prod.mk.injEq, reduceCtorEq] at h <;> obtain ⟨rfl, rfl⟩ := h
  case shl => exact ⟨.nd (.int k _) [], rfl, rfl, int_ok (wrap_wrap _ _), rfl, by simp only [binOp, Op.shift]; rw [if_neg (by omega)]; rfl⟩
  case shr => exact ⟨.nd (.int k _) [], rfl, rfl, int_ok (fdiv_in _ hk), rfl, by simp only [binOp, Op.shift]; rw [if_neg (by omega)]; rfl⟩

theorem run_binStr {w : World} {op : BinOp} {a b : ByteArray} (xt : TypeId) {pre : Prop} {r : D} (h : binStr op a b = some (pre, r)) (hp : pre) :
    ∃ t : L, t.erase = r ∧ t.plain = true ∧ t.Ok P w ∧ t.rdb = [] ∧ (binOp op xt (.string a) (.string b)).run P w = .ok t.val w := by
  cases op <;> simp only [binStr, Option.some.injEq, Prod.mk.injEq, reduceCtorEq] at h <;> obtain ⟨rfl, rfl⟩ := h
  case add =>
    refine ⟨.nd (.str _) [], rfl, rfl, str_ok (by rw [ByteArray.size_append]; exact hp), rfl, ?_⟩
    have : ¬ (((a.size + b.size : Nat) : Int) > IntKind.i64.max) := by
      have hp' : a.size + b.size ≤ 9223372036854775807 := hp
      simp only [IntKind.max, IntKind.signed, IntKind.bits]; simp; omega
    simp only [binOp, Op.stringOp, this, if_false]
    rfl
  all_goals exact ⟨.nd (.bool _) [], rfl, rfl, bool_ok, rfl, rfl⟩

theorem det_some {x : Option (Prop × D)} {pre : Prop} {res : D} {fact : Prop} (h : det x = some (pre, res, fact)) : x = some (pre, res) ∧ fact := by
  cases x with
  | none => simp [det] at h
  | some y => obtain ⟨p, r⟩ := y; simp only [det, Option.map_some, Option.some.injEq, Prod.mk.injEq] at h; obtain ⟨rfl, rfl, rfl⟩ := h; exact ⟨rfl, trivial⟩

theorem snd_bin (hd : o.dst = some d) (hn : d < n) {op : BinOp} {xt yt : TypeId} {x y : Operand} (ho : o.op = .binOp op xt x y yt) {e1 e2 : TypeId} {ox oy : Opd} (h1 : opd e1 x = some ox) (h2 : opd e2 y = some oy) :
    Snd P n lent o (fun σ => pureEff d (.bin op) (rdAll ([ox, oy].map (view σ)))) := by
  refine snd_pure hd hn (xs := [(e1, x), (e2, y)]) (by simp [h1, h2]) ?_
  intro a w ts pre res fact hv hok hR hp
  obtain ⟨t1, t2, rfl, v1, v2⟩ := two hv
  simp only [List.map_cons, List.map_nil] at hR
  unfold pureRes at hR
  split at hR
  · rename_i op' k p k' q heq hl
    simp only [PO.bin.injEq] at heq; subst heq
    simp only [List.cons.injEq, and_true] at hl
    obtain ⟨rfl, rfl⟩ := (⟨erase_int hl.1, erase_int hl.2⟩ : t1 = _ ∧ t2 = _)
    have hk := (hok _ (List.mem_cons_self ..)).1.2
    have e1' : a.eval x = .int k p := v1.symm
    have e2' : a.eval y = .int k' q := v2.symm
    split at hR
    · obtain ⟨hr, hfact⟩ := det_some hR
      obtain ⟨t, g1, g2, g3, g4, g5⟩ := run_shInt (P := P) (w := w) (k' := k') xt hk hr hp
      refine ⟨t, g1, hfact, g2, g3, by simp [g4], ?_⟩
      unfold execOp; rw [ho]; simp only [e1', e2']
      refine run_value ?_
      rw [run_bind (eqGuard_int _ _ _ _ _ _ _ _)]; exact g5
    · split at hR
      · rename_i hkk; subst hkk
        obtain ⟨hr, hfact⟩ := det_some hR
        obtain ⟨t, g1, g2, g3, g4, g5⟩ := run_binInt (P := P) (w := w) xt hk hr hp
        refine ⟨t, g1, hfact, g2, g3, by simp [g4], ?_⟩
        unfold execOp; rw [ho]; simp only [e1', e2']
        refine run_value ?_
        rw [run_bind (eqGuard_int _ _ _ _ _ _ _ _)]; exact g5
      · cases hR
  · rename_i op' p q heq hl
    simp only [PO.bin.injEq] at heq; subst heq
    simp only [List.cons.injEq, and_true] at hl
    obtain ⟨rfl, rfl⟩ := (⟨erase_str hl.1, erase_str hl.2⟩ : t1 = _ ∧ t2 = _)
    have e1' : a.eval x = .string p := v1.symm
    have e2' : a.eval y = .string q := v2.symm
    obtain ⟨hr, hfact⟩ := det_some hR
    obtain ⟨t, g1, g2, g3, g4, g5⟩ := run_binStr (P := P) (w := w) xt hr hp
    refine ⟨t, g1, hfact, g2, g3, by simp [g4], ?_⟩
    unfold execOp; rw [ho]; simp only [e1', e2']
    refine run_value ?_
    rw [run_bind (eqGuard_str _ _ _ _ _ _)]; exact g5
  all_goals first | (rename_i heq _; cases heq; done) | (rename_i heq; cases heq; done) | cases hR

theorem snd_not (hd : o.dst = some d) (hn : d < n) {xt : TypeId} {x : Operand} (ho : o.op = .unOp .not xt x) {e1 : TypeId} {ox : Opd} (h1 : opd e1 x = some ox) :
    Snd P n lent o (fun σ => pureEff d .not (rdAll ([ox].map (view σ)))) := by
  refine snd_pure hd hn (xs := [(e1, x)]) (by simp [h1]) ?_
  intro a w ts pre res fact hv hok hR hp
  obtain ⟨t1, rfl, v1⟩ := one hv
  simp only [List.map_cons, List.map_nil] at hR
  unfold pureRes at hR
  split at hR
  case h_3 b heq hl =>
    simp only [List.cons.injEq, and_true] at hl
    obtain rfl := erase_bool hl
    cases hR
    exact ⟨.nd (.bool (!b)) [], rfl, trivial, rfl, bool_ok, by simp [bool_rdb], by
      have e1' : a.eval x = .bool b := v1.symm
      unfold execOp; rw [ho]; simp only [e1']; exact run_value (by simp [Op.unary, Tr.val, Tr.cval, Tr.val0])⟩
  all_goals first | (rename_i heq _; cases heq; done) | (rename_i heq; cases heq; done) | cases hR
theorem snd_neg (hd : o.dst = some d) (hn : d < n) {xt : TypeId} {x : Operand} (ho : o.op = .unOp .neg xt x) {e1 : TypeId} {ox : Opd} (h1 : opd e1 x = some ox) :
    Snd P n lent o (fun σ => pureEff d .neg (rdAll ([ox].map (view σ)))) := by
  refine snd_pure hd hn (xs := [(e1, x)]) (by simp [h1]) ?_
  intro a w ts pre res fact hv hok hR hp
  obtain ⟨t1, rfl, v1⟩ := one hv
  simp only [List.map_cons, List.map_nil] at hR
  unfold pureRes at hR
  split at hR
  case h_4 k b heq hl =>
    simp only [List.cons.injEq, and_true] at hl
    obtain rfl := erase_int hl
    cases hR
    exact ⟨.nd (.int k (k.wrap (0 - b))) [], rfl, trivial, rfl, int_ok (wrap_wrap _ _), by simp [int_rdb], by
      have e1' : a.eval x = .int k b := v1.symm
      unfold execOp; rw [ho]; simp only [e1']; exact run_value (by simp [Op.unary, Op.intArith, Tr.val, Tr.cval, Tr.val0])⟩
  all_goals first | (rename_i heq _; cases heq; done) | (rename_i heq; cases heq; done) | cases hR
theorem run_underlying' {t : TypeId} {u : TypeDesc} {w : World} (h : P.underlying t = some u) : (underlying t).run P w = .ok u w := by
  simp [underlying, h]
theorem snd_cv (hd : o.dst = some d) (hn : d < n) {s t : TypeId} {su : TypeDesc} {k : IntKind} {x : Operand} (ho : o.op = .convert s t x) (hs : P.underlying s = some su) (ht : P.underlying t = some (.int k)) {e1 : TypeId} {ox : Opd} (h1 : opd e1 x = some ox) :
    Snd P n lent o (fun σ => pureEff d (.cv k) (rdAll ([ox].map (view σ)))) := by
  refine snd_pure hd hn (xs := [(e1, x)]) (by simp [h1]) ?_
  intro a w ts pre res fact hv hok hR hp
  obtain ⟨t1, rfl, v1⟩ := one hv
  simp only [List.map_cons, List.map_nil] at hR
  unfold pureRes at hR
  split at hR
  case h_5 k' k2 b heq hl =>
    simp only [PO.cv.injEq] at heq; subst heq
    simp only [List.cons.injEq, and_true] at hl
    obtain rfl := erase_int hl
    cases hR
    exact ⟨.nd (.int k (k.wrap b)) [], rfl, trivial, rfl, int_ok (wrap_wrap _ _), by simp [int_rdb], by
      have e1' : a.eval x = .int k2 b := v1.symm
      unfold execOp; rw [ho]; simp only [e1']; refine run_value ?_
      unfold convert
      rw [run_bind (run_underlying' hs), run_bind (run_underlying' ht)]
      simp [Conv.intToInt, Tr.val, Tr.cval, Tr.val0]⟩
  all_goals first | (rename_i heq _; cases heq; done) | (rename_i heq; cases heq; done) | cases hR
theorem eqGuard_bool {w : World} (op : BinOp) (t : TypeId) (x y : Operand) (a b : Bool) : (eqGuard op t x y (.bool a) (.bool b)).run P w = .ok () w := by
  unfold eqGuard; cases op <;> simp
theorem equalIn_bool {w : World} {a b : Bool} {xt : TypeId} (h : P.underlying xt = some .bool) (k : Nat) : (Op.equalIn (k + 1) xt (.bool a) (.bool b)).run P w = .ok (a == b) w := by
  unfold Op.equalIn
  rw [run_bind (run_underlying' h)]
  rfl
theorem run_eqB {w : World} {ng a b : Bool} {xt : TypeId} (h : P.underlying xt = some .bool) : (binOp (bif ng then .neq else .eql) xt (.bool a) (.bool b)).run P w = .ok (.bool (bif ng then !decide (a = b) else decide (a = b))) w := by
  have h1 : (Op.equal xt (.bool a) (.bool b)).run P w = .ok (a == b) w := equalIn_bool h 9999
  have h2 : (a == b) = decide (a = b) := by cases a <;> cases b <;> rfl
  cases ng with
  | true =>
    show (do pure (Value.bool (!(← Op.equal xt (.bool a) (.bool b)))) : Sem Value).run P w = _
    rw [run_bind h1, h2]; rfl
  | false =>
    show (do pure (Value.bool (← Op.equal xt (.bool a) (.bool b))) : Sem Value).run P w = _
    rw [run_bind h1, h2]; rfl
theorem snd_eqB (hd : o.dst = some d) (hn : d < n) {ng : Bool} {xt yt : TypeId} {x y : Operand} (ho : o.op = .binOp (bif ng then .neq else .eql) xt x y yt) (ht : P.underlying xt = some .bool) {e1 e2 : TypeId} {ox oy : Opd} (h1 : opd e1 x = some ox) (h2 : opd e2 y = some oy) :
    Snd P n lent o (fun σ => pureEff d (.eqB ng) (rdAll ([ox, oy].map (view σ)))) := by
  refine snd_pure hd hn (xs := [(e1, x), (e2, y)]) (by simp [h1, h2]) ?_
  intro a w ts pre res fact hv hok hR hp
  obtain ⟨t1, t2, rfl, v1, v2⟩ := two hv
  simp only [List.map_cons, List.map_nil] at hR
  have hb : ∀ t : L, (∃ b, t.erase = .nd (.bool b) []) ∨ ∀ b, t.erase ≠ .nd (.bool b) [] := fun t => by
    by_cases h : ∃ b, t.erase = .nd (.bool b) []
    · exact .inl h
    · exact .inr fun b e => h ⟨b, e⟩
  rcases hb t1 with ⟨p, hp1⟩ | hp1
  · rcases hb t2 with ⟨q, hq1⟩ | hq1
    · rw [hp1, hq1] at hR
      obtain rfl := erase_bool hp1
      obtain rfl := erase_bool hq1
      cases hR
      refine ⟨.nd (.bool _) [], rfl, trivial, rfl, bool_ok, by simp [bool_rdb], ?_⟩
      have e1' : a.eval x = .bool p := v1.symm
      have e2' : a.eval y = .bool q := v2.symm
      unfold execOp; rw [ho]; simp only [e1', e2']
      refine run_value ?_
      rw [run_bind (eqGuard_bool _ _ _ _ _ _)]
      exact run_eqB ht
    · exfalso
      unfold pureRes at hR
      split at hR <;> simp_all
  · exfalso
    unfold pureRes at hR
    split at hR <;> simp_all
end Go.VC
end

section
set_option linter.unusedVariables false
set_option linter.unusedSimpArgs false
namespace Go.VC
variable {P : Program} {n : Nat} {lent : List Nat} {o : Oper} {d : Nat}

theorem three {ts : List L} {v1 v2 v3 : Value} (h : ts.map Tr.val = [v1, v2, v3]) : ∃ t1 t2 t3, ts = [t1, t2, t3] ∧ t1.val = v1 ∧ t2.val = v2 ∧ t3.val = v3 := by
  match ts, h with
  | [t1, t2, t3], h => exact ⟨t1, t2, t3, rfl, by simpa using h⟩

theorem snd_ix (hd : o.dst = some d) (hn : d < n) {xt : TypeId} {x y : Operand} (ho : o.op = .index xt x y) (ht : P.underlying xt = some .string) {e1 e2 : TypeId} {ox oy : Opd} (h1 : opd e1 x = some ox) (h2 : opd e2 y = some oy) :
    Snd P n lent o (fun σ => pureEff d .ix (rdAll ([ox, oy].map (view σ)))) := by
  refine snd_pure hd hn (xs := [(e1, x), (e2, y)]) (by simp [h1, h2]) ?_
  intro a w ts pre res fact hv hok hR hp
  obtain ⟨t1, t2, rfl, v1, v2⟩ := two hv
  simp only [List.map_cons, List.map_nil] at hR
  unfold pureRes at hR
  split at hR
  case h_6 s k i heq hl =>
    simp only [List.cons.injEq, and_true] at hl
    obtain ⟨rfl, rfl⟩ := (⟨erase_str hl.1, erase_int hl.2⟩ : t1 = _ ∧ t2 = _)
    cases hR
    have e1' : a.eval x = .string s := v1.symm
    have e2' : a.eval y = .int k i := v2.symm
    refine ⟨.nd (.int .u8 (byteAt s i)) [], rfl, trivial, rfl, int_ok (byteAt_in s i), by simp [int_rdb], ?_⟩
    unfold execOp; rw [ho]; simp only [e1', e2']
    refine run_value ?_
    unfold Instr.index
    have hlt : i.toNat < s.size := by have := hp.1; have := hp.2; omega
    have hb : s[i.toNat]? = some (s[i.toNat]'hlt) := by simp [hlt]
    have hby : ((s[i.toNat]'hlt).toNat : Int) = byteAt s i := by
      unfold byteAt
      have hlt' : i.toNat < s.data.toList.length := by simpa using hlt
      simp [List.getD_eq_getElem?_getD, hlt']
      rw [Array.getElem?_eq_getElem (by simpa using hlt)]
      rfl
    simp only [asIntOf, Sem.run_pure, run_bind, run_underlying' ht, pure_bind]
    rw [run_bind (run_underlying' ht)]
    simp only [if_pos hp.1, hb]
    simp [Tr.val, Tr.cval, Tr.val0, ← hby]
  all_goals first | (rename_i heq _; cases heq; done) | (rename_i heq; cases heq; done) | cases hR

theorem run_builtin {w : World} {b : Builtin} {xs : Array Operand} {ts : Array TypeId} {a : Act} (ho : o.op = .call { callee := .builtin b, args := xs, argTypes := ts }) {f : Array TypeId → TypeId → Array Value → Sem Value}
    (hb : ∀ cs, builtin b ts o.type cs (xs.map a.eval) = (do pure (.value (← f ts o.type (xs.map a.eval))))) {v : Value} {w' : World}
    (hf : (f ts o.type (xs.map a.eval)).run P w = .ok v w') : (execOp a.eval o).run P w = .ok (.value v) w' := by
  unfold execOp; rw [ho]
  simp only [resolve, pure_bind, invoke]
  rw [hb]
  exact run_value hf

theorem snd_lenS (hd : o.dst = some d) (hn : d < n) {xt : TypeId} {x : Operand} (ho : o.op = .call { callee := .builtin .len, args := #[x], argTypes := #[xt] }) (ht : P.underlying xt = some .string) {e1 : TypeId} {ox : Opd} (h1 : opd e1 x = some ox) :
    Snd P n lent o (fun σ => pureEff d .lenS (rdAll ([ox].map (view σ)))) := by
  refine snd_pure hd hn (xs := [(e1, x)]) (by simp [h1]) ?_
  intro a w ts pre res fact hv hok hR hp
  obtain ⟨t1, rfl, v1⟩ := one hv
  simp only [List.map_cons, List.map_nil] at hR
  unfold pureRes at hR
  split at hR
  case h_7 s heq hl =>
    simp only [List.cons.injEq, and_true] at hl
    obtain rfl := erase_str hl
    cases hR
    have e1' : a.eval x = .string s := v1.symm
    have hs : s.size ≤ 9223372036854775807 := (hok _ (List.mem_cons_self ..)).1.2
    refine ⟨.nd (.int .i64 s.size) [], rfl, by omega, rfl, int_ok ((wrap_iff _ _).2 ⟨by simp only [loOf]; omega, by simp only [hiOf]; omega⟩), by simp [int_rdb], ?_⟩
    refine run_builtin ho (f := Builtin.len_) (fun _ => rfl) ?_
    simp only [Builtin.len_, e1', List.map_toArray, List.map_cons, List.map_nil]
    simp [run_underlying' ht, goInt, Tr.val, Tr.cval, Tr.val0]
  all_goals first | (rename_i heq _; cases heq; done) | (rename_i heq; cases heq; done) | cases hR
theorem snd_lenR (hd : o.dst = some d) (hn : d < n) {xt e : TypeId} {x : Operand} (ho : o.op = .call { callee := .builtin .len, args := #[x], argTypes := #[xt] }) (ht : P.underlying xt = some (.slice e)) {e1 : TypeId} {ox : Opd} (h1 : opd e1 x = some ox) :
    Snd P n lent o (fun σ => pureEff d .lenR (rdAll ([ox].map (view σ)))) := by
  refine snd_pure hd hn (xs := [(e1, x)]) (by simp [h1]) ?_
  intro a w ts pre res fact hv hok hR hp
  obtain ⟨t1, rfl, v1⟩ := one hv
  simp only [List.map_cons, List.map_nil] at hR
  unfold pureRes at hR
  split at hR
  case h_8 ow e' x' cs heq hl =>
    simp only [List.cons.injEq, and_true] at hl
    obtain ⟨⟨ad, cap⟩, cs', rfl, rfl⟩ := erase_row hl
    cases hR
    have e1' : a.eval x = .slice ad cs'.length cap := v1.symm
    have hs := (hok _ (List.mem_cons_self ..)).1.1
    have hs2 := (hok _ (List.mem_cons_self ..)).1.2.1
    have hs3 : cs'.length ≤ 9223372036854775807 := Nat.le_trans hs hs2
    refine ⟨.nd (.int .i64 cs'.length) [], by simp [Tr.erase, Tr.erases, Hd.erase], by simp only [List.length_map]; omega, rfl, int_ok ((wrap_iff _ _).2 ⟨by simp only [loOf]; omega, by simp only [hiOf]; omega⟩), by simp [int_rdb], ?_⟩
    refine run_builtin ho (f := Builtin.len_) (fun _ => rfl) ?_
    simp only [Builtin.len_, e1', List.map_toArray, List.map_cons, List.map_nil]
    simp [run_underlying' ht, goInt, Tr.val, Tr.cval, Tr.val0]
  all_goals first | (rename_i heq _; cases heq; done) | (rename_i heq; cases heq; done) | cases hR
theorem snd_mx (hd : o.dst = some d) (hn : d < n) {xts : Array TypeId} {x y : Operand} (ho : o.op = .call { callee := .builtin .max, args := #[x, y], argTypes := xts }) {e1 e2 : TypeId} {ox oy : Opd} (h1 : opd e1 x = some ox) (h2 : opd e2 y = some oy) :
    Snd P n lent o (fun σ => pureEff d .mx (rdAll ([ox, oy].map (view σ)))) := by
  refine snd_pure hd hn (xs := [(e1, x), (e2, y)]) (by simp [h1, h2]) ?_
  intro a w ts pre res fact hv hok hR hp
  obtain ⟨t1, t2, rfl, v1, v2⟩ := two hv
  simp only [List.map_cons, List.map_nil] at hR
  unfold pureRes at hR
  split at hR
  case h_13 k p k' q heq hl =>
    simp only [List.cons.injEq, and_true] at hl
    obtain ⟨rfl, rfl⟩ := (⟨erase_int hl.1, erase_int hl.2⟩ : t1 = _ ∧ t2 = _)
    split at hR
    · rename_i hkk; subst hkk
      cases hR
      have e1' : a.eval x = .int k p := v1.symm
      have e2' : a.eval y = .int k q := v2.symm
      refine ⟨.nd (.int k (if q > p then q else p)) [], rfl, trivial, rfl, int_ok ?_, by simp [int_rdb], ?_⟩
      · split
        · exact (hok (.nd (.int k q) []) (by simp)).1.2
        · exact (hok _ (List.mem_cons_self ..)).1.2
      · refine run_builtin ho (f := Builtin.max_) (fun _ => rfl) ?_
        simp [Builtin.max_, e1', e2', Builtin.max2, Tr.val, Tr.cval, Tr.val0]
    · cases hR
  all_goals first | (rename_i heq _; cases heq; done) | (rename_i heq; cases heq; done) | cases hR
theorem snd_mn (hd : o.dst = some d) (hn : d < n) {xts : Array TypeId} {x y : Operand} (ho : o.op = .call { callee := .builtin .min, args := #[x, y], argTypes := xts }) {e1 e2 : TypeId} {ox oy : Opd} (h1 : opd e1 x = some ox) (h2 : opd e2 y = some oy) :
    Snd P n lent o (fun σ => pureEff d .mn (rdAll ([ox, oy].map (view σ)))) := by
  refine snd_pure hd hn (xs := [(e1, x), (e2, y)]) (by simp [h1, h2]) ?_
  intro a w ts pre res fact hv hok hR hp
  obtain ⟨t1, t2, rfl, v1, v2⟩ := two hv
  simp only [List.map_cons, List.map_nil] at hR
  unfold pureRes at hR
  split at hR
  case h_14 k p k' q heq hl =>
    simp only [List.cons.injEq, and_true] at hl
    obtain ⟨rfl, rfl⟩ := (⟨erase_int hl.1, erase_int hl.2⟩ : t1 = _ ∧ t2 = _)
    split at hR
    · rename_i hkk; subst hkk
      cases hR
      have e1' : a.eval x = .int k p := v1.symm
      have e2' : a.eval y = .int k q := v2.symm
      refine ⟨.nd (.int k (if q < p then q else p)) [], rfl, trivial, rfl, int_ok ?_, by simp [int_rdb], ?_⟩
      · split
        · exact (hok (.nd (.int k q) []) (by simp)).1.2
        · exact (hok _ (List.mem_cons_self ..)).1.2
      · refine run_builtin ho (f := Builtin.min_) (fun _ => rfl) ?_
        simp [Builtin.min_, e1', e2', Builtin.min2, Tr.val, Tr.cval, Tr.val0]
    · cases hR
  all_goals first | (rename_i heq _; cases heq; done) | (rename_i heq; cases heq; done) | cases hR
end Go.VC
end

section
set_option linter.unusedVariables false
set_option linter.unusedSimpArgs false
namespace Go.VC
variable {P : Program} {n : Nat} {lent : List Nat} {o : Oper} {d : Nat}

/-! ### several slots at once, the world as it was -/
theorem Den.mono {σ σ' : St Phys} {v : SV Phys} {x : Value} (h : Den P σ v x) (hr : ∀ r, v.root? = some r → ∀ t, σ r = .own t → σ' r = .own t) : Den P σ' v x := by
  cases v with
  | own t => exact h
  | tup ts => exact h
  | undef => trivial
  | ref r p => obtain ⟨t, c, e1, e2⟩ := h; exact ⟨t, c, hr r rfl t e1, e2⟩
  | ptr r p i j => obtain ⟨t, c, ad, e1, e2⟩ := h; exact ⟨t, c, ad, hr r rfl t e1, e2⟩
  | sub r p lo m => obtain ⟨t, o, e, q, cap, cs, a', e1, e2⟩ := h; exact ⟨t, o, e, q, cap, cs, a', hr r rfl t e1, e2⟩
theorem puts_own {α : Type} {ws : Ws α} {σ : St α} {s : Nat} {t : Tr α} (h : ws.lookup s = none) (ht : σ s = .own t) : puts ws σ s = .own t := by
  rw [puts_none h, ht]; rfl

theorem Inv.put_ref {w0 w : World} {σ : St Phys} {a : Act} (h : Inv P n lent w0 σ a w) (hd : d < n) {sv : SV Phys} {v : Value} {r : Nat} (hr : sv.root? = some r) (hne : r ≠ d) (hden : Den P σ sv v) :
    Inv P n lent w0 (puts [(d, sv, false)] σ) (a.put (some d) v) w := by
  refine h.put hd (hden.mono fun r' hr' t ht => ?_) (foot_root hr) (by simp [trees_root hr]) (by simp [rdb_root hr])
  rw [hr] at hr'; cases hr'
  exact puts_own (by simp [List.lookup_cons, beq_eq_false_iff_ne.2 hne]) ht

/-- a tree goes from slot r to slot d; what its former place (and slot s) then hold is undefined or refers to d -/
theorem Inv.move {w0 w : World} {σ : St Phys} {a a' : Act} (h : Inv P n lent w0 σ a w) (hd : d < n) {r s : Nat} {t t' : L} (ht : σ r = .own t) {vr vs : SV Phys} {v : Value}
    (hs : s = r ∨ σ s = .ref r [] ∨ (∃ p lo m, σ s = .sub r p lo m) ∨ (σ s).trees = [])
    (ha : a' = a.put (some d) v) (hv : v = t'.val)
    (hok : t'.Ok P w) (hft : ∀ b ∈ t'.foot, b ∈ t.foot) (hnd : t'.foot.Nodup) (hrd : ∀ b ∈ t'.rdb, b ∈ t.rdb ∨ (b ∈ t.foot ∧ b ∉ t'.foot))
    (hvr : vr = .undef ∨ (vr = .ref d [] ∧ t.val = t'.val)) (hvs : vs = .undef ∨ (vs = .ref d [] ∧ a.tmps.getD s Go.undef = t'.val)) (hds : d ≠ s) :
    Inv P n lent w0 (puts [(d, .own t', false), (r, vr, false), (s, vs, false)] σ) a' w := by
  subst ha
  have hsz : d < a.tmps.size := by rw [h.tsz]; exact hd
  have htr : ∀ v : SV Phys, (v = .undef ∨ ∃ x, v = .ref x []) → v.trees = [] := by rintro v (rfl | ⟨x, rfl⟩) <;> rfl
  have h1 : vr.trees = [] := htr _ (hvr.imp id fun h => ⟨d, h.1⟩)
  have h2 : vs.trees = [] := htr _ (hvs.imp id fun h => ⟨d, h.1⟩)
  have hl : ∀ u v k, ([(d, .own t', false), (r, vr, false), (s, vs, false)] : Ws Phys).lookup u = some (v, k) →
      (u = d ∧ v = .own t' ∧ k = false) ∨ (u ≠ d ∧ u = r ∧ v = vr ∧ k = false) ∨ (u ≠ d ∧ u ≠ r ∧ u = s ∧ v = vs ∧ k = false) := by
    intro u v k hu
    simp only [List.lookup_cons, List.lookup_nil] at hu
    by_cases e1 : u = d
    · subst e1; simp at hu; exact .inl ⟨rfl, hu.1.symm, hu.2⟩
    · rw [beq_eq_false_iff_ne.2 e1] at hu
      by_cases e2 : u = r
      · subst e2; simp at hu; exact .inr (.inl ⟨e1, rfl, hu.1.symm, hu.2⟩)
      · rw [beq_eq_false_iff_ne.2 e2] at hu
        by_cases e3 : u = s
        · subst e3; simp at hu; exact .inr (.inr ⟨e1, e2, rfl, hu.1.symm, hu.2⟩)
        · rw [beq_eq_false_iff_ne.2 e3] at hu; cases hu
  have hin : ([(d, .own t', false), (r, vr, false), (s, vs, false)] : Ws Phys).lookup r ≠ none := by
    simp only [List.lookup_cons, List.lookup_nil]
    by_cases e1 : r = d
    · simp [e1]
    · simp [beq_eq_false_iff_ne.2 e1]
  have hputd : puts [(d, .own t', false), (r, vr, false), (s, vs, false)] σ d = .own t' := puts_in (k := false) (by simp)
  have hfr : ∀ b, b ∈ t.foot → b ∈ (σ r).foot := fun b hb => by simpa [ht, SV.foot, SV.trees] using hb
  refine h.upd _ (by simp [Act.put, h.tsz]) (by simpa [Act.put] using h.dfr) ?_ ?_ ?_ ⟨rfl, rfl, rfl, Nat.le_refl _⟩ (fun _ _ _ => rfl) ?_ ?_ ?_ ?_ ?_
  · intro u x k hu
    rcases hl u x k hu with ⟨rfl, rfl, _⟩ | ⟨hne, rfl, rfl, _⟩ | ⟨hne, hne2, rfl, rfl, _⟩
    · rw [put_tmps hsz]; simpa [Den] using hv
    · rw [put_tmps hsz, if_neg hne]
      rcases hvr with rfl | ⟨rfl, e⟩
      · trivial
      · have := h.den u; rw [ht] at this
        exact ⟨t', t', hputd, rfl, .inl rfl, by rw [← e]; exact this⟩
    · rw [put_tmps hsz, if_neg hne]
      rcases hvs with rfl | ⟨rfl, e⟩
      · trivial
      · exact ⟨t', t', hputd, rfl, .inl rfl, e⟩
  · intro u x hu; rcases hl u x true hu with ⟨_, _, e⟩ | ⟨_, _, _, e⟩ | ⟨_, _, _, _, e⟩ <;> cases e
  · intro u hu
    rw [put_tmps hsz, if_neg]
    rintro rfl; simp at hu
  · intro u x k hu t1 ht1
    rcases hl u x k hu with ⟨rfl, rfl, _⟩ | ⟨hne, rfl, rfl, _⟩ | ⟨hne, hne2, rfl, rfl, _⟩
    · simp [SV.trees] at ht1; subst ht1; exact hok
    · rw [h1] at ht1; cases ht1
    · rw [h2] at ht1; cases ht1
  · intro u x k hu
    rcases hl u x k hu with ⟨rfl, rfl, _⟩ | ⟨hne, rfl, rfl, _⟩ | ⟨hne, hne2, rfl, rfl, _⟩
    · simpa [SV.foot, SV.trees] using hnd
    · simp [SV.foot, h1]
    · simp [SV.foot, h2]
  · intro u x k hu b hb
    rcases hl u x k hu with ⟨rfl, rfl, _⟩ | ⟨hne, rfl, rfl, _⟩ | ⟨hne, hne2, rfl, rfl, _⟩
    · have hb' : b ∈ t'.foot := by simpa [SV.foot, SV.trees] using hb
      exact ⟨.inl ⟨r, hin, hfr b (hft b hb')⟩, (h.fre r b (hfr b (hft b hb'))).2⟩
    · simp [SV.foot, h1] at hb
    · simp [SV.foot, h2] at hb
  · intro u x k u' x' k' hne hu hu' b hb hb'
    rcases hl u x k hu with ⟨rfl, rfl, _⟩ | ⟨_, rfl, rfl, _⟩ | ⟨_, _, rfl, rfl, _⟩
    · rcases hl u' x' k' hu' with ⟨rfl, rfl, _⟩ | ⟨_, rfl, rfl, _⟩ | ⟨_, _, rfl, rfl, _⟩
      · exact hne rfl
      · simp [SV.foot, h1] at hb'
      · simp [SV.foot, h2] at hb'
    · simp [SV.foot, h1] at hb
    · simp [SV.foot, h2] at hb
  · intro u x k hu b hb
    rcases hl u x k hu with ⟨rfl, rfl, _⟩ | ⟨_, rfl, rfl, _⟩ | ⟨_, _, rfl, rfl, _⟩
    · have hb' : b ∈ t'.rdb := by simpa [SV.rdb, SV.trees] using hb
      have hnot : ∀ s' v' k', ([(u, .own t', false), (r, vr, false), (s, vs, false)] : Ws Phys).lookup s' = some (v', k') → b ∉ v'.foot := by
        intro s' v' k' hu' hbb
        rcases hl s' v' k' hu' with ⟨rfl, rfl, _⟩ | ⟨_, rfl, rfl, _⟩ | ⟨_, _, rfl, rfl, _⟩
        · have hbb' : b ∈ t'.foot := by simpa [SV.foot, SV.trees] using hbb
          rcases hrd b hb' with h3 | h3
          · exact h.ros r r b (by simpa [ht, SV.rdb, SV.trees] using h3) (hfr b (hft b hbb'))
          · exact h3.2 hbb'
        · simp [SV.foot, h1] at hbb
        · simp [SV.foot, h2] at hbb
      rcases hrd b hb' with h3 | h3
      · have h4 : b ∈ (σ r).rdb := by simpa [ht, SV.rdb, SV.trees] using h3
        exact ⟨h.rlt r b h4, .inl ⟨r, h4⟩, hnot⟩
      · exact ⟨(h.fre r b (hfr b h3.1)).2, .inr ⟨r, hin, hfr b h3.1⟩, hnot⟩
    · simp [SV.rdb, h1] at hb
    · simp [SV.rdb, h2] at hb
end Go.VC
end

section
set_option linter.unusedVariables false
set_option linter.unusedSimpArgs false
namespace Go.VC

inductive MO
  | pure (po : PO) (xs : List Opd)
  | mv (x : Opd) | asg (x : Opd) | pick (c a b : Opd)
  | alloc (t : TypeId) (z : D) | box (t : TypeId) (x : Opd)
  | build (z : List D) (ps : List (Nat × Nat × Opd))
  | bsl (e : TypeId) (z : D) (n : Nat) (ps : List (Nat × Nat × Opd))
  | ldt (m : Nat) (x : Opd)
  | ld (ag : Bool) (m : Nat) (x : Opd) | st (m : Nat) (a v : Opd)
  | mks (e : TypeId) (z : D) (bytes : Nat) (l c : Opd)
  | slR (e : TypeId) (x : Opd) (lo hi : Option Opd)
  | fa (x : Opd) (off : Nat) | ia (e : TypeId) (x i : Opd)
  | ext (x : Opd) (i : Nat)
  | call (f : FuncId) (xs : List Opd)
  | app (e : TypeId) (bytes : Nat) (str : Bool) (x y : Opd)
def MO.opds : MO → List Opd
  | .pure _ xs => xs
  | .mv x | .asg x | .box _ x | .ldt _ x | .ld _ _ x | .fa x _ | .ext x _ => [x]
  | .pick c a b => [c, a, b]
  | .alloc _ _ => []
  | .build _ ps | .bsl _ _ _ ps => ps.map (·.2.2)
  | .st _ a v => [a, v]
  | .mks _ _ _ l c => [l, c]
  | .slR _ x lo hi => x :: (lo.toList ++ hi.toList)
  | .ia _ x i => [x, i]
  | .call _ xs => xs
  | .app _ _ _ x y => [x, y]

def dz : D := dBool false
def keys {α : Type} (ws : Ws α) : List Nat := ws.map (·.1)
def nodupB : List Nat → Bool
  | [] => true
  | x :: xs => !xs.contains x && nodupB xs
/-- the keys of what is written are distinct and none is d -/
def okKeys (d : Nat) (us : Ws Unit) : Bool := !(keys us).contains d && nodupB (keys us)
def fresh (p : Prop) (d : Nat) (sv : SV Unit) (us : Ws Unit) : Option Eff := bif okKeys d us then some ⟨p, (d, sv, false) :: us⟩ else none
def ret1 (d : Nat) (sv : SV Unit) : Option Eff := some ⟨True, [(d, sv, false)]⟩
/-- a reference to what slot r owns, in slot d -/
def refTo (d r : Nat) (pre : Prop) (sv : SV Unit) : Option Eff := bif r == d then none else some ⟨pre, [(d, sv, false)]⟩

abbrev Tk := Option (D × Ws Unit)
def tkOwn (t : D) : Bool → Option Nat → Tk
  | true, _ => some (t, [])
  | false, some s => some (t, [(s, .undef, false)])
  | false, none => some (t, [])
def tkRef (r : Nat) : Option D → Option Nat → Tk
  | some t, some s => some (t, [(r, .undef, false), (s, .undef, false)])
  | _, _ => none
def tkSub (r lo m : Nat) : Option D → Option Nat → Tk
  | some (.nd (.row true e _) cs), some s => some (.nd (.row true e ()) ((cs.drop lo).take m), [(r, .undef, false), (s, .undef, false)])
  | _, _ => none
/-- a value on its way to another place: the tree, and what becomes of where it was -/
def tk (v : View) : Tk := match v.sv with
  | .own t => tkOwn t t.plain v.slot
  | .ref r [] => tkRef r v.tree v.slot
  | .sub r [] lo m => tkSub r lo m v.tree v.slot
  | _ => none

/-- a row that lies in another container is taken: a header without a row stays there -/
def tkRow (r : Nat) (p : Path) (T : D) (s : Nat) : Option D → Tk
  | some (.nd (.row true e x) cs) => some (.nd (.row true e x) cs, [(r, .own (T.modify p fun _ => .nd (.gone e ()) (List.replicate cs.length dz)), false), (s, .undef, false)])
  | _ => none
def tkPath (r : Nat) (p : Path) : Option D → Option Nat → Tk
  | some T, some s => tkRow r p T s (T.look p)
  | _, _ => none
def apS (l : List Nat) : Option Nat → Bool
  | none => true
  | some s => !l.contains s
def apart (r : Nat) (s : Option Nat) (l : List Nat) : Bool := !l.contains r && apS l s
def tkA (v y : View) : Tk := match v.sv with
  | .ref r (x :: p) => bif apart r v.slot y.slots then tkPath r (x :: p) v.tree v.slot else none
  | _ => tk v
abbrev Ad := Option (Nat × Path × Nat × Nat × D)
def adOwn : D → Option Nat → Ad
  | .nd (.box t _) cs, some s => some (s, [], 0, 0, .nd (.box t ()) cs)
  | _, _ => none
def adRef (r : Nat) (p : Path) : Option D → Ad
  | some (.nd (.box t _) cs) => some (r, p, 0, 0, .nd (.box t ()) cs)
  | _ => none
def adPtr (r : Nat) (p : Path) (i j : Nat) : Option D → Ad
  | some c => some (r, p, i, j, c)
  | none => none
def lookO (p : Path) : Option D → Option D
  | some t => t.look p
  | none => none
/-- the place that an address names: root, container's path, element, cell, the container -/
def addr (v : View) : Ad := match v.sv with
  | .own t => adOwn t v.slot
  | .ref r p => adRef r p (lookO p v.tree)
  | .ptr r p i j => adPtr r p i j (lookO p v.tree)
  | _ => none
abbrev Rw := Option (Nat × Path × Nat × Nat × TypeId)
def rwOwn : D → Option Nat → Rw
  | .nd (.row _ e _) cs, some s => some (s, [], 0, cs.length, e)
  | _, _ => none
def rwRef (r : Nat) (p : Path) : Option D → Rw
  | some (.nd (.row _ e _) cs) => some (r, p, 0, cs.length, e)
  | _ => none
def rwSub (r : Nat) (p : Path) (lo m : Nat) : Option D → Rw
  | some (.nd (.row _ e _) _) => some (r, p, lo, m, e)
  | _ => none
/-- the row that a value names: root, path, first element, how many, its elements' type -/
def rowAt (v : View) : Rw := match v.sv with
  | .own t => rwOwn t v.slot
  | .ref r p => rwRef r p (lookO p v.tree)
  | .sub r p lo m => rwSub r p lo m (lookO p v.tree)
  | _ => none

def movOwn (d : Nat) (t : D) : Bool → Option Nat → Option Eff
  | true, _ => ret1 d (.own t)
  | false, some s => refTo d s True (.ref s [])
  | false, none => none
def movTup (d : Nat) (ts : List (Option D)) : Option Nat → Option Eff
  | some s => bif s == d then none else some ⟨True, [(d, .tup ts, false), (s, .undef, false)]⟩
  | none => none
def movEff (d : Nat) (v : View) : Option Eff := match v.sv with
  | .own t => movOwn d t t.plain v.slot
  | .ref r p => refTo d r True (.ref r p)
  | .ptr r p i j => refTo d r True (.ptr r p i j)
  | .sub r p lo m => refTo d r True (.sub r p lo m)
  | .tup ts => movTup d ts v.slot
  | .undef => none
def asgOwn (d : Nat) (t : D) : Bool → Option Nat → Option Eff
  | true, _ => ret1 d (.own t)
  | false, some s => bif s == d then none else some ⟨True, [(d, .own t, false), (s, .undef, false)]⟩
  | false, none => ret1 d (.own t)
def asgRef (d r : Nat) : Option D → Option Nat → Option Eff
  | some t, some s => bif r == d || s == d || r == s then none else some ⟨True, [(d, .own t, false), (r, .ref d [], false), (s, .undef, false)]⟩
  | _, _ => none
def asgSub (d r lo m : Nat) : Option D → Option Nat → Option Eff
  | some (.nd (.row true e _) cs), some s => bif s == d || s == r then none else bif r == d then some ⟨True, [(d, .own (.nd (.row true e ()) ((cs.drop lo).take m)), false), (s, .undef, false)]⟩ else some ⟨True, [(d, .own (.nd (.row true e ()) ((cs.drop lo).take m)), false), (r, .undef, false), (s, .undef, false)]⟩
  | _, _ => none
def asgEff (d : Nat) (v : View) : Option Eff := match v.sv with
  | .own t => asgOwn d t t.plain v.slot
  | .ref r [] => asgRef d r v.tree v.slot
  | .ref r (x :: p) => refTo d r True (.ref r (x :: p))
  | .ptr r p i j => refTo d r True (.ptr r p i j)
  | .sub r [] lo m => asgSub d r lo m v.tree v.slot
  | .sub r (x :: p) lo m => refTo d r True (.sub r (x :: p) lo m)
  | .tup _ => none
  | .undef => none
def plainIf (x : D) : Bool → Option D
  | true => some x
  | false => none
def plainOf (v : View) : Option D := match v.sv with
  | .own x => plainIf x x.plain
  | _ => none
def pick2 (t : Bool) : D → D → D
  | .nd (.bool p) [], .nd (.bool q) [] => dBool (bif t then p else q)
  | x, y => bif t then x else y
def pickK (d : Nat) (t : Bool) : Option D → Option D → Option Eff
  | some x, some y => ret1 d (.own (pick2 t x y))
  | some x, none => some ⟨t = true, [(d, .own x, false)]⟩
  | none, some y => some ⟨t = false, [(d, .own y, false)]⟩
  | none, none => none
def pickEff (d : Nat) (c a b : View) : Option Eff := match c.rd with
  | some (.nd (.bool t) []) => pickK d t (plainOf a) (plainOf b)
  | _ => none
def ldAgg (d : Nat) (y : D) : Bool → Option Eff
  | true => ret1 d (.own y)
  | false => none
def ldCell (d r : Nat) (p : Path) (y : D) : Bool → Option Eff
  | true => ret1 d (.own y)
  | false => bif y.isCont then refTo d r True (.ref r p) else none
def ldCellO (d r : Nat) (p : Path) : Option D → Option Eff
  | some y => ldCell d r p y y.plain
  | none => none
def ldK (d m : Nat) : Bool → Ad → Option Eff
  | true, some (r, p, i, j, c) => bif decide (j + m ≤ (c.kids.getD i dz).cells.length) then
      ldAgg d (.nd .agg (((c.kids.getD i dz).cells.drop j).take m)) (Tr.plains (((c.kids.getD i dz).cells.drop j).take m)) else none
  | false, some (r, p, i, j, c) => ldCellO d r (p ++ [(i, j)]) ((c.kids.getD i dz).cells[j]?)
  | _, none => none
mutual
def Tr.roize {α : Type} : Tr α → Tr α
  | .nd (.row _ e x) cs => .nd (.row false e x) (Tr.roizes cs)
  | .nd h cs => .nd h (Tr.roizes cs)
def Tr.roizes {α : Type} : List (Tr α) → List (Tr α)
  | [] => []
  | t :: ts => t.roize :: Tr.roizes ts
end
/-- a struct that owns rows is loaded: its rows are read-only from now on -/
def frzK (d r : Nat) (t : TypeId) (y : D) (m : Nat) : Bool → Option Eff
  | true => bif r == d || !(y.cells.length == m) then none else some ⟨True, [(d, .own y.roize, false), (r, .own (.nd (.box t ()) [y.roize]), false)]⟩
  | false => none
def ldB (d m : Nat) (v : View) (r : Nat) (t : TypeId) (y : D) : Bool → Option Eff
  | true => ldK d m true (addr v)
  | false => frzK d r t y m (y.isAgg && y.roize.plain)
def ldT (d m : Nat) (v : View) : SV Unit → Option Nat → Option Eff
  | .own (.nd (.box t _) [y]), some r => ldB d m v r t y y.plain
  | _, _ => ldK d m true (addr v)
def ldE (d m : Nat) (v : View) : Bool → Option Eff
  | true => ldT d m v v.sv v.slot
  | false => ldK d m false (addr v)
/-- .. or handed over: where it lay is not used any more -/
def ldtB (d r : Nat) (y : D) : Bool → Option Eff
  | true => bif r == d then none else some ⟨True, [(d, .own y, false), (r, .undef, false)]⟩
  | false => none
def ldtK (d m : Nat) : SV Unit → Option Nat → Option Eff
  | .own (.nd (.box _ _) [y]), some r => ldtB d r y (y.isAgg && (y.cells.length == m))
  | _, _ => none
def Hd.ownB {α : Type} : Hd α → Bool | .row true _ _ => true | .box _ _ => true | _ => false
def stTree (a : View) : Option D := match a.sv with
  | .own T => some T
  | _ => a.tree
def stK (m : Nat) : Ad → Option D → Tk → Option Eff
  | some (r, p, i, j, c), some T, some (t, us) =>
    bif c.hd.ownB && decide (t.cells.length = m) && decide (j + m ≤ (c.kids.getD i dz).cells.length) && okKeys r us then
      some ⟨True, (r, .own (T.modify p fun _ => .nd c.hd (c.kids.modify i fun y => y.putCells j t.cells)), t.plain && Tr.plains (((c.kids.getD i dz).cells.drop j).take m)) :: us⟩
    else none
  | _, _, _ => none
def intOf : Option D → Option Int
  | some (.nd (.int _ k) []) => some k
  | _ => none
def bound (z : Int) : Option View → Option Int
  | none => some z
  | some v => intOf v.rd
def slV (d : Nat) (r : Nat) (p : Path) (lo0 m : Nat) (l h : Int) (cs : List D) (e : TypeId) : Bool → Option Eff
  | true => some ⟨0 ≤ l ∧ l ≤ h ∧ h ≤ m, [(d, .own (.nd (.row false e ()) ((cs.drop l.toNat).take (h - l).toNat)), false)]⟩
  | false => refTo d r (0 ≤ l ∧ l ≤ h ∧ h ≤ m) (.sub r p (lo0 + l.toNat) (h - l).toNat)
def slO (d : Nat) (r : Nat) (p : Path) (lo0 m : Nat) (l h : Int) : D → Option Eff
  | .nd (.row false e _) cs => slV d r p lo0 m l h cs e (Tr.plains cs)
  | _ => refTo d r (0 ≤ l ∧ l ≤ h ∧ h ≤ m) (.sub r p (lo0 + l.toNat) (h - l).toNat)
def slS (d : Nat) (r : Nat) (p : Path) (lo0 m : Nat) (l h : Int) : SV Unit → Option Eff
  | .own t => slO d r p lo0 m l h t
  | _ => refTo d r (0 ≤ l ∧ l ≤ h ∧ h ≤ m) (.sub r p (lo0 + l.toNat) (h - l).toNat)
def slK (d : Nat) (e : TypeId) (v : View) : Rw → Option Int → Option Int → Option Eff
  | some (r, p, lo0, m, e'), some l, some h => bif e' == e then slS d r p lo0 m l h v.sv else none
  | _, _, _ => none
def rwLen : Rw → Int
  | some (_, _, _, m, _) => m
  | none => 0
def iaK (d : Nat) (e : TypeId) : Rw → Option Int → Option Eff
  | some (r, p, lo, m, e'), some k => bif e' == e then refTo d r (0 ≤ k ∧ k < m) (.ptr r p (lo + k.toNat) 0) else none
  | _, _ => none
def extP (d s : Nat) (ts : List (Option D)) (i : Nat) (t : D) : Bool → Option Eff
  | true => ret1 d (.own t)
  | false => bif s == d then none else some ⟨True, [(d, .own t, false), (s, .tup (ts.set i none), false)]⟩
def extK (d : Nat) (ts : List (Option D)) (i : Nat) : Option Nat → Option (Option D) → Option Eff
  | some s, some (some t) => extP d s ts i t t.plain
  | _, _ => none
def extEff (d : Nat) (v : View) (i : Nat) : Option Eff := match v.sv with
  | .tup ts => extK d ts i v.slot ts[i]?
  | _ => none
def appSrcT (e : TypeId) : Tk → Option (List D × Ws Unit)
  | some (.nd (.row true e' _) ys, us) => bif e' == e then some (ys, us) else none
  | _ => none
def appSrcP (e : TypeId) (v : View) (ys : List D) : Bool → Option (List D × Ws Unit)
  | true => some (ys, [])
  | false => appSrcT e (tk v)
def byteD (s : ByteArray) : List D := s.data.toList.map fun (b : UInt8) => dInt .u8 b.toNat
def appSrc (e : TypeId) (v : View) : Bool → Option (List D × Ws Unit)
  | false => match v.rd with
    | some (.nd (.row _ e' _) ys) => bif e' == e then appSrcP e v ys (Tr.plains ys) else none
    | _ => none
  | true => match v.rd with
    | some (.nd (.str s) []) => some (byteD s, [])
    | _ => none
def appK (d : Nat) (e : TypeId) (bytes : Nat) : Tk → Option (List D × Ws Unit) → Option Eff
  | some (.nd (.row true e' _) cs, us), some (ys, us') => bif e' == e then
      fresh ((cs.length + ys.length) * bytes ≤ 140737488355328) d (.own (.nd (.row true e ()) (cs ++ ys))) (us ++ us') else none
  | _, _ => none
def putAt {β : Type} (z : List β) (off : Nat) (cs : List β) : List β := z.take off ++ cs ++ z.drop (off + cs.length)
def tkCons (i sz : Nat) : Tk → Option (List (Nat × D) × Ws Unit) → Option (List (Nat × D) × Ws Unit)
  | some (t, us), some (ts, us') => bif t.cells.length == sz then some ((i, t) :: ts, us ++ us') else none
  | _, _ => none
def tkAll : List (Nat × Nat × View) → Option (List (Nat × D) × Ws Unit)
  | [] => some ([], [])
  | (i, sz, v) :: vs => tkCons i sz (tk v) (tkAll vs)
def fillAgg {α : Type} (z : List (Tr α)) : List (Nat × Tr α) → List (Tr α)
  | [] => z
  | (i, t) :: ts => fillAgg (putAt z i t.cells) ts
def fillRow {α : Type} (z : List (Tr α)) : List (Nat × Tr α) → List (Tr α)
  | [] => z
  | (i, t) :: ts => fillRow (z.set i t) ts
def buildK (d : Nat) (z : List D) : Option (List (Nat × D) × Ws Unit) → Option Eff
  | some (ts, us) => fresh True d (.own (.nd .agg (fillAgg z ts))) us
  | none => none
def bslK (d : Nat) (e : TypeId) (z : D) (n : Nat) : Option (List (Nat × D) × Ws Unit) → Option Eff
  | some (ts, us) => fresh True d (.own (.nd (.row true e ()) (fillRow (List.replicate n z) ts))) us
  | none => none
def boxK (d : Nat) (t : TypeId) : Tk → Option Eff
  | some (y, us) => fresh True d (.own (.nd (.box t ()) [y])) us
  | none => none
def faK (d off : Nat) : Ad → Option Eff
  | some (r, p, i, j, _) => refTo d r True (.ptr r p i (j + off))
  | none => none
def mksK (d : Nat) (e : TypeId) (z : D) (bytes : Nat) : Option Int → Option Int → Option Eff
  | some x, some y => some ⟨0 ≤ x ∧ x = y ∧ x * bytes ≤ 140737488355328, [(d, .own (.nd (.row true e ()) (List.replicate x.toNat z)), false)]⟩
  | _, _ => none

def MO.eff (op : MO) (d : Option Nat) (σ : St Unit) : Option Eff := match op, d with
  | .pure po xs, some d => pureEff d po (rdAll (xs.map (view σ)))
  | .mv x, some d => movEff d (view σ x)
  | .asg x, some d => asgEff d (view σ x)
  | .pick c a b, some d => pickEff d (view σ c) (view σ a) (view σ b)
  | .alloc t z, some d => ret1 d (.own (.nd (.box t ()) [z]))
  | .box t x, some d => boxK d t (tk (view σ x))
  | .build z ps, some d => buildK d z (tkAll (ps.map fun p => (p.1, p.2.1, view σ p.2.2)))
  | .bsl e z n ps, some d => bslK d e z n (tkAll (ps.map fun p => (p.1, p.2.1, view σ p.2.2)))
  | .ld ag m x, some d => ldE d m (view σ x) ag
  | .ldt m x, some d => ldtK d m (view σ x).sv (view σ x).slot
  | .st m a v, none => stK m (addr (view σ a)) (stTree (view σ a)) (tk (view σ v))
  | .mks e z bytes l c, some d => mksK d e z bytes (intOf (view σ l).rd) (intOf (view σ c).rd)
  | .slR e x lo hi, some d => slK d e (view σ x) (rowAt (view σ x)) (bound 0 (lo.map (view σ))) (bound (rwLen (rowAt (view σ x))) (hi.map (view σ)))
  | .fa x off, some d => faK d off (addr (view σ x))
  | .ia e x i, some d => iaK d e (rowAt (view σ x)) (intOf (view σ i).rd)
  | .ext x i, some d => extEff d (view σ x) i
  | .app e bytes sb x y, some d => appK d e bytes (tkA (view σ x) (view σ y)) (appSrc e (view σ y) sb)
  | _, _ => none

structure MOp where
  d : Option Nat
  g : Option (Nat × Bool)
  op : MO
/-- a region whose order is drawn: what comes before each operation, and who writes what (slot, operation, whether what refers to it stays) -/
structure DrI where
  bef : List (List Nat)
  wr : List (Nat × Nat × Bool)
  lo : Nat
  st : Bool
inductive MC
  | sk | rg (ops : List MOp) | dr (n : Nat) (ops : List MOp) (q : DrI) | sq (a b : MC) | cd (x : Opd) (a b : MC)
  | bl (id : Nat) (a : MC) | lp (a : MC) | ex (id : Nat) | rt

abbrev AL := List (Nat × SV Unit)
def memB (r : Nat) : List Nat → Bool
  | [] => false
  | x :: xs => bif r == x then true else memB r xs
/-- what refers to a slot that was written since is forgotten -/
def chkR (seen : List Nat) (v : SV Unit) : Option Nat → SV Unit
  | none => v
  | some r => bif memB r seen then .undef else v
def getA (seen : List Nat) (L : AL) (s : Nat) : SV Unit := match L with
  | [] => .undef
  | (t, v) :: L => bif s == t then chkR seen v v.root? else getA (t :: seen) L s
def get (L : AL) (s : Nat) : SV Unit := getA [] L s
theorem getA_nil (seen : List Nat) (s : Nat) : getA seen [] s = .undef := rfl
theorem getA_cons (seen : List Nat) (t : Nat) (v : SV Unit) (L : AL) (s : Nat) : getA seen ((t, v) :: L) s = bif s == t then chkR seen v v.root? else getA (t :: seen) L s := rfl
def isUndef : SV Unit → Bool | .undef => true | _ => false
/-- a store: the slot keeps its place, what refers to it stays -/
def setL (r : Nat) (v : SV Unit) : AL → AL
  | [] => [(r, v)]
  | (s, w) :: L => bif s == r then (s, v) :: L else (s, w) :: setL r v L
def putL : Ws Unit → AL → AL
  | [], L => L
  | (s, v, false) :: W, L => putL W ((s, v) :: L)
  | (s, v, true) :: W, L => putL W (setL s v L)
end Go.VC
end
