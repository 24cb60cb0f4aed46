/- A library of symbolic evaluation for programs of the model: what is told of a program text is checked against the text, and what the told text computes is shown by evaluation. No condition. -/
import Derived.Test.YtbmkofeahjmkgacL1
section
set_option linter.unusedVariables false
set_option linter.unusedSimpArgs false
namespace Go.VC

/-- what is still to do -/
inductive It
  | code (m : MC) | blk (id : Nat) | goal (X : AL → Prop) | ops (q : Option DrI) (j : Nat) (l : List MOp)

def MC.sz : MC → Nat
  | .sk => 1 | .rg ops => ops.length + 2 | .dr _ ops _ => 2 * ops.length + 5 | .sq a b => a.sz + b.sz + 1 | .cd _ a b => a.sz + b.sz + 1
  | .bl _ a => a.sz + 2 | .lp a => a.sz + 2 | .ex _ => 2 | .rt => 1
def It.sz : It → Nat | .code m => m.sz | .blk _ => 1 | .goal _ => 1 | .ops _ _ l => l.length + 1
def szs (k : List It) : Nat := (k.map It.sz).sum
def dropTo (id : Nat) : List It → List It
  | .blk i :: k => if i = id then k else dropTo id k
  | _ :: k => dropTo id k
  | [] => [.goal fun _ => False]
theorem dropTo_le (id : Nat) : ∀ k, szs (dropTo id k) ≤ szs k + 1
  | [] => Nat.le_refl _
  | .blk i :: k => by
    simp only [dropTo]
    split
    · simp only [szs, List.map_cons, List.sum_cons, It.sz]; omega
    · have := dropTo_le id k; simp only [szs, List.map_cons, List.sum_cons, It.sz] at *; omega
  | .code m :: k => by have := dropTo_le id k; simp only [dropTo, szs, List.map_cons, List.sum_cons] at *; omega
  | .goal X :: k => by have := dropTo_le id k; simp only [dropTo, szs, List.map_cons, List.sum_cons] at *; omega
  | .ops _ _ _ :: k => by have := dropTo_le id k; simp only [dropTo, szs, List.map_cons, List.sum_cons] at *; omega

/-- a smaller state: what it tells the other tells, too -/
def Sub (L0 L : AL) : Prop := ∀ s, get L0 s ≠ .undef → get L s = get L0 s ∧ ∀ r, (get L0 s).root? = some r → get L0 r ≠ .undef

/-- how an argument is handed over: a tree to be read, or a box that is lent (and whose it is) -/
abbrev Ag := Option (D × Option Nat)
def agPlain (t : D) : Bool → Ag
  | true => some (t, none)
  | false => none
def agRd : Option D → Ag
  | some t => agPlain t.roize t.roize.plain
  | none => none
def agOwn : D → Option Nat → Ag
  | .nd (.box t x) cs, some s => some (.nd (.box t x) cs, some s)
  | .nd (.box _ _) _, none => none
  | t, _ => agRd (some t)
def agRef (r : Nat) : Option D → Ag
  | some (.nd (.box t x) cs) => some (.nd (.box t x) cs, some r)
  | t => agRd t
def argOf (v : View) : Ag := match v.sv with
  | .own t => agOwn t v.slot
  | .ref r [] => agRef r v.tree
  | _ => agRd v.rd
abbrev Ags := Option (List (D × Option Nat) × List Nat)
def argCons (v : View) : Ag → Ags → Ags
  | some (t, none), some (as, ss) => some ((t, none) :: as, v.slots ++ ss)
  | some (t, some r), some (as, ss) => some ((t, some r) :: as, ss)
  | _, _ => none
/-- the arguments; the slots that the arguments to be read come from -/
def argsOf : List View → Ags
  | [] => some ([], [])
  | v :: vs => argCons v (argOf v) (argsOf vs)
def lentOf : List (D × Option Nat) → List Nat
  | [] => []
  | (_, some r) :: as => r :: lentOf as
  | (_, none) :: as => lentOf as
def backW : List Nat → List D → Ws Unit
  | r :: rs, t :: ts => (r, .own t, false) :: backW rs ts
  | _, _ => []
def dstW : Option Nat → List D → Ws Unit
  | none, _ => []
  | some d, [t] => [(d, .own t, false)]
  | some d, ts => [(d, .tup (ts.map some), false)]
/-- what is known of a function: what its arguments must be; the results, what the lent boxes hold then -/
structure Spec where
  pre : Prop
  post : List D → List D → Prop
abbrev Con := FuncId → List D → Spec
def okCall (d : Option Nat) (lent ss : List Nat) : Bool := nodupB (d.toList ++ lent) && ss.all fun s => !lent.contains s

def DrI.before (q : DrI) (i j : Nat) : Bool := (q.bef.getD j []).contains i
def DrI.rel (q : DrI) (i j : Nat) : Bool := i == j || q.before i j || q.before j i
/-- operation j may look at slot s -/
def DrI.slot (q : DrI) (j s : Nat) : Bool := q.wr.all fun e => e.1 != s || q.rel e.2.1 j
/-- operation j may make a reference to slot r -/
def DrI.root (q : DrI) (j r : Nat) : Bool := q.wr.all fun e => e.2.2 || e.1 != r || q.before e.2.1 j
def rootOk (q : DrI) (j : Nat) : Option Nat → Bool
  | none => true
  | some r => q.slot j r && q.root j r
def slots0 (q : DrI) (j : Nat) (ss : List Nat) : Bool := ss.all (q.slot j)
def slotsB : Option DrI → Nat → List Nat → Bool
  | none, _, _ => true
  | some q, j, ss => bif q.st then true else slots0 q j ss
def wsQ (q : DrI) (j : Nat) (ws : Ws Unit) : Bool := ws.all fun e => q.slot j e.1 && q.wr.contains (e.1, j, e.2.2) && rootOk q j e.2.1.root?
def oneB : Ws Unit → Bool
  | [(_, _, false)] => true
  | _ => false
def wsB : Option DrI → Nat → Ws Unit → Bool
  | none, _, _ => true
  | some q, j, ws => bif q.st then oneB ws else wsQ q j ws
def rootB (lo : Nat) (wr : List (Nat × Nat × Bool)) : Option Nat → Bool
  | none => true
  | some r => decide (r < lo) || wr.all fun x => x.2.2 || x.1 != r
def rootsA (lo : Nat) (wr : List (Nat × Nat × Bool)) : AL → Bool
  | [] => true
  | (_, v) :: L => rootB lo wr v.root? && rootsA lo wr L
def rootsB (q : DrI) (L : AL) : Bool := rootsA q.lo q.wr L
/-- a region whose operations each write their own slot alone, and look at what is before them -/
def safeB (q : DrI) (j r : Nat) : Bool := q.wr.all fun e => e.1 != r || (q.bef.getD j []).contains e.2.1
def safeO (q : DrI) (j : Nat) : Opd → Bool
  | .t a => safeB q j a
  | .c _ => true
def safeG (q : DrI) (j : Nat) : Option (Nat × Bool) → Bool
  | none => true
  | some (s, _) => safeB q j s
def statOp (q : DrI) (j : Nat) (m : MOp) : Bool := match m.d with
  | none => false
  | some d => q.wr.contains (d, j, false) && (q.wr.all fun e => e.1 != d || e.2.1 == j) && m.op.opds.all (safeO q j) && safeG q j m.g
def statOps (q : DrI) : Nat → List MOp → Bool
  | _, [] => true
  | j, m :: ms => statOp q j m && statOps q (j + 1) ms
def statB (q : DrI) (n : Nat) (ops : List MOp) : Bool :=
  (q.wr.all fun e => !e.2.2) && ((List.range n).all fun j => (q.bef.getD j []).all fun i => (q.bef.getD i []).all fun i' => (q.bef.getD j []).contains i') && statOps q 0 (ops.take n)
/-- the region's description is in order: n operations -/
def DrI.ok (q : DrI) (n : Nat) (ops : List MOp) : Bool := ((List.range n).all fun j => (q.bef.getD j []).all fun i => decide (i < j)) && (q.wr.all fun e => e.2.2 || decide (q.lo ≤ e.1)) && (!q.st || statB q n ops)
def MOp.slots (m : MOp) (L : AL) : List Nat := (m.op.opds.map fun x => (view (get L) x).slots).flatten ++ (m.g.map (·.1)).toList

def neB : Option DrI → (List D → List D → Prop) → Nat → Prop
  | none, _, _ => True
  | some _, R, n => ∃ rs fin, R rs fin ∧ fin.length = n
def exec (C : Con) (q : Option DrI) (j : Nat) (m : MOp) (L : AL) (X : AL → Prop) : Prop := match m.op with
  | .call f xs => match argsOf (xs.map (view (get L))) with
    | none => False
    | some (as, ss) => okCall m.d (lentOf as) ss = true ∧ (C f (as.map (·.1))).pre ∧ ((C f (as.map (·.1))).pre → neB q (C f (as.map (·.1))).post (lentOf as).length ∧
        ∀ rs fin, (C f (as.map (·.1))).post rs fin → fin.length = (lentOf as).length →
          wsB q j (dstW m.d rs ++ backW (lentOf as) fin) = true ∧ X (putL (dstW m.d rs ++ backW (lentOf as) fin) L))
  | op => match op.eff m.d (get L) with
    | none => False
    | some E => E.pre ∧ wsB q j E.ws = true ∧ (E.pre → X (putL E.ws L))
def skipW : Option Nat → Ws Unit
  | some d => [(d, .tup [], false)]
  | none => []
def skipL (d : Option Nat) (L : AL) : AL := putL (skipW d) L

/-- the walk: what is to be shown of the state 'L', the items 'k' still to do -/
def Run (C : Con) (Post : AL → Prop) (k : List It) (L : AL) : Prop := match k with
  | [] => Post L
  | .goal X :: _ => X L
  | .blk _ :: k => Run C Post k L
  | .code .sk :: k => Run C Post k L
  | .code (.sq a b) :: k => Run C Post (.code a :: .code b :: k) L
  | .code (.bl id a) :: k => Run C Post (.code a :: .blk id :: k) L
  | .code (.ex id) :: k => Run C Post (dropTo id k) L
  | .code .rt :: _ => Post L
  | .code (.cd x a b) :: k => match (view (get L) x).rd with
    | some (.nd (.bool t) []) => (t = true → Run C Post (.code a :: k) L) ∧ (t = false → Run C Post (.code b :: k) L)
    | _ => False
  | .code (.lp a) :: k => ∃ (I : Nat → AL → Prop) (n0 : Nat), (∃ L0, I n0 L0 ∧ Sub L0 L) ∧
      ∀ m L', I m L' → Run C Post (.code a :: .goal (fun L2 => ∃ m' L0, m' < m ∧ I m' L0 ∧ Sub L0 L2) :: k) L'
  | .code (.rg ops) :: k => Run C Post (.ops none 0 ops :: k) L
  | .code (.dr n ops q) :: k => rootsB q L = true ∧ Run C Post (.ops (some q) 0 (ops.take n) :: .ops none 0 (ops.drop n) :: k) L
  | .ops q j [] :: k => Run C Post k L
  | .ops q j (m :: ops) :: k => slotsB q j (m.slots L) = true ∧ match m.g with
    | some (s, b) => match get L s with
      | .own (.nd (.bool t) []) =>
        (t = b → exec C q j m L fun L' => Run C Post (.ops q (j + 1) ops :: k) L') ∧
        (t ≠ b → wsB q j (skipW m.d) = true ∧ Run C Post (.ops q (j + 1) ops :: k) (skipL m.d L))
      | .tup [] => wsB q j (skipW m.d) = true ∧ Run C Post (.ops q (j + 1) ops :: k) (skipL m.d L)
      | _ => False
    | none => exec C q j m L fun L' => Run C Post (.ops q (j + 1) ops :: k) L'
  termination_by szs k
  decreasing_by all_goals first
  | (refine Nat.lt_of_le_of_lt (dropTo_le _ _) ?_; simp only [szs, List.map_cons, List.sum_cons, It.sz, MC.sz]; omega)
  | (simp only [szs, List.map_cons, List.sum_cons, It.sz, MC.sz, List.length_cons, List.length_take, List.length_drop]; omega)
end Go.VC
end

section
set_option linter.unusedVariables false
set_option linter.unusedSimpArgs false
namespace Go.VC

abbrev I (k : IntKind) (n : Int) : D := .nd (.int k n) []
abbrev B (b : Bool) : D := .nd (.bool b) []
abbrev S (l : List UInt8) : D := .nd (.str ⟨l.toArray⟩) []
abbrev S0 : D := .nd (.str ⟨#[]⟩) []
abbrev N (e : TypeId) : D := .nd (.row true e ()) []
abbrev A (l : List D) : D := .nd .agg l

section
variable {C : Con} {Post : AL → Prop} {k : List It} {L : AL} {ops : List MOp} {q : DrI} {j : Nat}
/-- an operation with a condition -/
def Grd (C : Con) (Post : AL → Prop) (pre : Prop) (q : Option DrI) (j : Nat) (ops : List MOp) (k : List It) (L : AL) : Prop := pre ∧ (pre → Run C Post (.ops q (j + 1) ops :: k) L)
theorem grd {pre : Prop} {q : Option DrI} (h : pre) (h' : pre → Run C Post (.ops q (j + 1) ops :: k) L) : Grd C Post pre q j ops k L := ⟨h, h'⟩
@[simp] theorem grd_true {q : Option DrI} : Grd C Post True q j ops k L = Run C Post (.ops q (j + 1) ops :: k) L := by simp [Grd]
theorem grd_and {pre : Prop} {q : Option DrI} : Grd C Post pre q j ops k L = (pre ∧ Run C Post (.ops q (j + 1) ops :: k) L) := propext ⟨fun h => ⟨h.1, h.2 h.1⟩, fun h => ⟨h.1, fun _ => h.2⟩⟩
def effK (C : Con) (Post : AL → Prop) (E : Option Eff) (j : Nat) (ops : List MOp) (k : List It) (L : AL) : Prop := match E with
  | none => False
  | some E => Grd C Post E.pre none j ops k (putL E.ws L)
theorem effK_some {pre : Prop} {ws : Ws Unit} : effK C Post (some ⟨pre, ws⟩) j ops k L = Grd C Post pre none j ops k (putL ws L) := rfl
theorem effK_none : effK C Post none j ops k L = False := rfl
def effD (C : Con) (Post : AL → Prop) (q : DrI) (E : Option Eff) (j : Nat) (ops : List MOp) (k : List It) (L : AL) : Prop := match E with
  | none => False
  | some E => wsB (some q) j E.ws = true ∧ Grd C Post E.pre (some q) j ops k (putL E.ws L)
theorem effD_some {pre : Prop} {ws : Ws Unit} : effD C Post q (some ⟨pre, ws⟩) j ops k L = (wsB (some q) j ws = true ∧ Grd C Post pre (some q) j ops k (putL ws L)) := rfl
theorem effD_none : effD C Post q none j ops k L = False := rfl
def SplitK (C : Con) (Post : AL → Prop) (q : Option DrI) (t b : Bool) (m : MOp) (j : Nat) (ops : List MOp) (k : List It) (L : AL) : Prop :=
  (t = b → exec C q j m L fun L' => Run C Post (.ops q (j + 1) ops :: k) L') ∧ (t ≠ b → wsB q j (skipW m.d) = true ∧ Run C Post (.ops q (j + 1) ops :: k) (skipL m.d L))
def gK (C : Con) (Post : AL → Prop) (q : Option DrI) (v : SV Unit) (b : Bool) (m : MOp) (j : Nat) (ops : List MOp) (k : List It) (L : AL) : Prop := match v with
  | .own (.nd (.bool t) []) => SplitK C Post q t b m j ops k L
  | .tup [] => wsB q j (skipW m.d) = true ∧ Run C Post (.ops q (j + 1) ops :: k) (skipL m.d L)
  | _ => False
def CallK (C : Con) (Post : AL → Prop) (q : Option DrI) (d : Option Nat) (f : FuncId) : Ags → Nat → List MOp → List It → AL → Prop
  | none, _, _, _, _ => False
  | some (as, ss), j, ops, k, L => okCall d (lentOf as) ss = true ∧ (C f (as.map (·.1))).pre ∧ ((C f (as.map (·.1))).pre → neB q (C f (as.map (·.1))).post (lentOf as).length ∧ ∀ rs fin, (C f (as.map (·.1))).post rs fin → fin.length = (lentOf as).length →
        wsB q j (dstW d rs ++ backW (lentOf as) fin) = true ∧ Run C Post (.ops q (j + 1) ops :: k) (putL (dstW d rs ++ backW (lentOf as) fin) L))
theorem callK_none {q : Option DrI} {d : Option Nat} {f : FuncId} : CallK C Post q d f none j ops k L = False := rfl
theorem callK_some {q : Option DrI} {d : Option Nat} {f : FuncId} {as : List (D × Option Nat)} {ss : List Nat} : CallK C Post q d f (some (as, ss)) j ops k L = (okCall d (lentOf as) ss = true ∧ (C f (as.map (·.1))).pre ∧ neB q (C f (as.map (·.1))).post (lentOf as).length ∧ ∀ rs fin, (C f (as.map (·.1))).post rs fin → fin.length = (lentOf as).length →
        wsB q j (dstW d rs ++ backW (lentOf as) fin) = true ∧ Run C Post (.ops q (j + 1) ops :: k) (putL (dstW d rs ++ backW (lentOf as) fin) L)) :=
  propext ⟨fun h => ⟨h.1, h.2.1, h.2.2 h.2.1⟩, fun h => ⟨h.1, h.2.1, fun _ => h.2.2⟩⟩
def CondK (C : Con) (Post : AL → Prop) (t : Option D) (a b : MC) (k : List It) (L : AL) : Prop := match t with
  | some (.nd (.bool t) []) => (t = true → Run C Post (.code a :: k) L) ∧ (t = false → Run C Post (.code b :: k) L)
  | _ => False
theorem condK {t : Bool} {a b : MC} (h : t = true → Run C Post (.code a :: k) L) (h' : t = false → Run C Post (.code b :: k) L) : CondK C Post (some (.nd (.bool t) [])) a b k L := ⟨h, h'⟩
def LoopK (C : Con) (Post : AL → Prop) (a : MC) (k : List It) (L : AL) : Prop := Run C Post (.code (.lp a) :: k) L
theorem loopK {a : MC} (I : Nat → AL → Prop) (n0 : Nat) (L0 : AL) (h0 : I n0 L0) (hs : Sub L0 L)
    (h : ∀ m L', I m L' → Run C Post (.code a :: .goal (fun L2 => ∃ m' L0, m' < m ∧ I m' L0 ∧ Sub L0 L2) :: k) L') : LoopK C Post a k L := by
  unfold LoopK Run; exact ⟨I, n0, ⟨L0, h0, hs⟩, h⟩
theorem condK_true {a b : MC} : CondK C Post (some (.nd (.bool true) [])) a b k L = Run C Post (.code a :: k) L := by simp [CondK]
theorem condK_false {a b : MC} : CondK C Post (some (.nd (.bool false) [])) a b k L = Run C Post (.code b :: k) L := by simp [CondK]
theorem run_nil : Run C Post [] L = Post L := by unfold Run; rfl
theorem run_goal {X : AL → Prop} : Run C Post (.goal X :: k) L = X L := by unfold Run; rfl
theorem run_blk {id : Nat} : Run C Post (.blk id :: k) L = Run C Post k L := by rw [Run]
theorem run_sk : Run C Post (.code .sk :: k) L = Run C Post k L := by rw [Run]
theorem run_sq {a b : MC} : Run C Post (.code (.sq a b) :: k) L = Run C Post (.code a :: .code b :: k) L := by rw [Run]
theorem run_bl {id : Nat} {a : MC} : Run C Post (.code (.bl id a) :: k) L = Run C Post (.code a :: .blk id :: k) L := by rw [Run]
theorem run_ex {id : Nat} : Run C Post (.code (.ex id) :: k) L = Run C Post (dropTo id k) L := by rw [Run]
theorem run_rt : Run C Post (.code .rt :: k) L = Post L := by rw [Run]
theorem run_cd {x : Opd} {a b : MC} : Run C Post (.code (.cd x a b) :: k) L = CondK C Post (view (get L) x).rd a b k L := by rw [Run]; rfl
theorem run_lp {a : MC} : Run C Post (.code (.lp a) :: k) L = LoopK C Post a k L := rfl
theorem run_rg : Run C Post (.code (.rg ops) :: k) L = Run C Post (.ops none 0 ops :: k) L := by rw [Run]
theorem run_dr {n : Nat} : Run C Post (.code (.dr n ops q) :: k) L = (rootsB q L = true ∧ Run C Post (.ops (some q) 0 (ops.take n) :: .ops none 0 (ops.drop n) :: k) L) := by rw [Run]
theorem run_ops0 {q : Option DrI} : Run C Post (.ops q j [] :: k) L = Run C Post k L := by rw [Run]
theorem slotsB_none {ss : List Nat} : slotsB none j ss = true := rfl
theorem wsB_none {ws : Ws Unit} : wsB none j ws = true := rfl
theorem run_ops {q : Option DrI} {m : MOp} : Run C Post (.ops q j (m :: ops) :: k) L = (slotsB q j (m.slots L) = true ∧ match m.g with
    | some (s, b) => gK C Post q (get L s) b m j ops k L
    | none => exec C q j m L fun L' => Run C Post (.ops q (j + 1) ops :: k) L') := by
  rw [Run]
  rfl
theorem run_g {d : Option Nat} {s : Nat} {b : Bool} {op : MO} : Run C Post (.ops none j (⟨d, some (s, b), op⟩ :: ops) :: k) L = gK C Post none (get L s) b ⟨d, some (s, b), op⟩ j ops k L := by
  rw [run_ops]; simp [slotsB_none]
theorem rund_g {d : Option Nat} {s : Nat} {b : Bool} {op : MO} : Run C Post (.ops (some q) j (⟨d, some (s, b), op⟩ :: ops) :: k) L = (slotsB (some q) j (MOp.slots ⟨d, some (s, b), op⟩ L) = true ∧ gK C Post (some q) (get L s) b ⟨d, some (s, b), op⟩ j ops k L) := by
  rw [run_ops]
theorem run_call {d : Option Nat} {f : FuncId} {xs : List Opd} : Run C Post (.ops none j (⟨d, none, .call f xs⟩ :: ops) :: k) L = CallK C Post none d f (argsOf (xs.map (view (get L)))) j ops k L := by
  rw [run_ops]; simp only [slotsB_none, true_and]; unfold exec CallK; dsimp only; cases argsOf (xs.map (view (get L))) <;> rfl
theorem rund_call {d : Option Nat} {f : FuncId} {xs : List Opd} : Run C Post (.ops (some q) j (⟨d, none, .call f xs⟩ :: ops) :: k) L = (slotsB (some q) j (MOp.slots ⟨d, none, .call f xs⟩ L) = true ∧ CallK C Post (some q) d f (argsOf (xs.map (view (get L)))) j ops k L) := by
  rw [run_ops]; congr 1; dsimp only; unfold exec CallK; dsimp only; cases argsOf (xs.map (view (get L))) <;> rfl
theorem exec_op {q : Option DrI} {d : Option Nat} {g : Option (Nat × Bool)} {op : MO} {X : AL → Prop} (h : ∀ f xs, op ≠ .call f xs) : exec C q j ⟨d, g, op⟩ L X = (match op.eff d (get L) with
    | none => False
    | some E => E.pre ∧ wsB q j E.ws = true ∧ (E.pre → X (putL E.ws L))) := by
  cases op with
  | call f xs => exact absurd rfl (h f xs)
  | _ => rfl
theorem run_op {d : Option Nat} {op : MO} (h : ∀ f xs, op ≠ .call f xs) : Run C Post (.ops none j (⟨d, none, op⟩ :: ops) :: k) L = effK C Post (op.eff d (get L)) j ops k L := by
  rw [run_ops]; simp only [slotsB_none, true_and]; rw [exec_op h]
  cases op.eff d (get L) <;> simp [effK, Grd, wsB_none]
theorem rund_op {d : Option Nat} {op : MO} (h : ∀ f xs, op ≠ .call f xs) : Run C Post (.ops (some q) j (⟨d, none, op⟩ :: ops) :: k) L = (slotsB (some q) j (MOp.slots ⟨d, none, op⟩ L) = true ∧ effD C Post q (op.eff d (get L)) j ops k L) := by
  rw [run_ops]; congr 1; dsimp only; rw [exec_op h]
  cases op.eff d (get L) with
  | none => rfl
  | some E => simp only [effD, Grd]; apply propext; exact ⟨fun h => ⟨h.2.1, h.1, h.2.2⟩, fun h => ⟨h.2.1, h.1, h.2.2⟩⟩
/-- behind a guard: as without one -/
theorem exec_none {m : MOp} : (exec C none j m L fun L' => Run C Post (.ops none (j + 1) ops :: k) L') = Run C Post (.ops none j ({ m with g := none } :: ops) :: k) L := by
  rw [run_ops]; simp only [slotsB_none, true_and]; rfl
theorem exec_some {m : MOp} (h : slotsB (some q) j (({ m with g := none } : MOp).slots L) = true) : (exec C (some q) j m L fun L' => Run C Post (.ops (some q) (j + 1) ops :: k) L') = Run C Post (.ops (some q) j ({ m with g := none } :: ops) :: k) L := by
  rw [run_ops, h]; simp only [true_and]; rfl
def gTN (C : Con) (Post : AL → Prop) (t b : Bool) (m : MOp) (j : Nat) (ops : List MOp) (k : List It) (L : AL) : Prop :=
  (t = b → Run C Post (.ops none j ({ m with g := none } :: ops) :: k) L) ∧ (t = !b → Run C Post (.ops none (j + 1) ops :: k) (skipL m.d L))
def gN (C : Con) (Post : AL → Prop) (v : SV Unit) (b : Bool) (m : MOp) (j : Nat) (ops : List MOp) (k : List It) (L : AL) : Prop := match v with
  | .own (.nd (.bool t) []) => gTN C Post t b m j ops k L
  | .tup [] => Run C Post (.ops none (j + 1) ops :: k) (skipL m.d L)
  | _ => False
def gTD (C : Con) (Post : AL → Prop) (q : DrI) (t b : Bool) (m : MOp) (j : Nat) (ops : List MOp) (k : List It) (L : AL) : Prop :=
  (t = b → Run C Post (.ops (some q) j ({ m with g := none } :: ops) :: k) L) ∧ (t = !b → wsB (some q) j (skipW m.d) = true ∧ Run C Post (.ops (some q) (j + 1) ops :: k) (skipL m.d L))
def gD (C : Con) (Post : AL → Prop) (q : DrI) (v : SV Unit) (b : Bool) (m : MOp) (j : Nat) (ops : List MOp) (k : List It) (L : AL) : Prop := match v with
  | .own (.nd (.bool t) []) => gTD C Post q t b m j ops k L
  | .tup [] => wsB (some q) j (skipW m.d) = true ∧ Run C Post (.ops (some q) (j + 1) ops :: k) (skipL m.d L)
  | _ => False
section
variable {d : Option Nat} {g : Option (Nat × Bool)} {op : MO}
theorem gTN_tt : gTN C Post true true ⟨d, g, op⟩ j ops k L = Run C Post (.ops none j (⟨d, none, op⟩ :: ops) :: k) L := by simp [gTN]
theorem gTN_ff : gTN C Post false false ⟨d, g, op⟩ j ops k L = Run C Post (.ops none j (⟨d, none, op⟩ :: ops) :: k) L := by simp [gTN]
theorem gTN_tf : gTN C Post true false ⟨d, g, op⟩ j ops k L = Run C Post (.ops none (j + 1) ops :: k) (skipL d L) := by simp [gTN]
theorem gTN_ft : gTN C Post false true ⟨d, g, op⟩ j ops k L = Run C Post (.ops none (j + 1) ops :: k) (skipL d L) := by simp [gTN]
theorem gTD_tt : gTD C Post q true true ⟨d, g, op⟩ j ops k L = Run C Post (.ops (some q) j (⟨d, none, op⟩ :: ops) :: k) L := by simp [gTD]
theorem gTD_ff : gTD C Post q false false ⟨d, g, op⟩ j ops k L = Run C Post (.ops (some q) j (⟨d, none, op⟩ :: ops) :: k) L := by simp [gTD]
theorem gTD_tf : gTD C Post q true false ⟨d, g, op⟩ j ops k L = (wsB (some q) j (skipW d) = true ∧ Run C Post (.ops (some q) (j + 1) ops :: k) (skipL d L)) := by simp [gTD]
theorem gTD_ft : gTD C Post q false true ⟨d, g, op⟩ j ops k L = (wsB (some q) j (skipW d) = true ∧ Run C Post (.ops (some q) (j + 1) ops :: k) (skipL d L)) := by simp [gTD]
/-- a guard whose bool is not decided -/
theorem gN_any {t b : Bool} : gTN C Post t b ⟨d, g, op⟩ j ops k L = ((t = b → Run C Post (.ops none j (⟨d, none, op⟩ :: ops) :: k) L) ∧ (t = !b → Run C Post (.ops none (j + 1) ops :: k) (skipL d L))) := rfl
theorem gD_any {t b : Bool} : gTD C Post q t b ⟨d, g, op⟩ j ops k L = ((t = b → Run C Post (.ops (some q) j (⟨d, none, op⟩ :: ops) :: k) L) ∧ (t = !b → wsB (some q) j (skipW d) = true ∧ Run C Post (.ops (some q) (j + 1) ops :: k) (skipL d L))) := rfl
end
theorem ne_not {t b : Bool} : (t ≠ b) = (t = !b) := by cases t <;> cases b <;> simp
theorem runN_g {d : Option Nat} {s : Nat} {b : Bool} {op : MO} : Run C Post (.ops none j (⟨d, some (s, b), op⟩ :: ops) :: k) L = gN C Post (get L s) b ⟨d, some (s, b), op⟩ j ops k L := by
  rw [run_g]
  unfold gK gN SplitK gTN
  split <;> simp only [ne_not, wsB_none, true_and]
  rw [exec_none]
theorem runD_g {d : Option Nat} {s : Nat} {b : Bool} {op : MO} : Run C Post (.ops (some q) j (⟨d, some (s, b), op⟩ :: ops) :: k) L = (slotsB (some q) j (MOp.slots ⟨d, some (s, b), op⟩ L) = true ∧ gD C Post q (get L s) b ⟨d, some (s, b), op⟩ j ops k L) := by
  rw [rund_g]
  refine propext (and_congr_right fun hs => ?_)
  have h0 : slotsB (some q) j (MOp.slots ⟨d, none, op⟩ L) = true := by
    simp only [slotsB] at hs ⊢
    cases hq : q.st with
    | true => rfl
    | false =>
      rw [hq] at hs
      simp only [cond_false, slots0, MOp.slots, List.all_append, Bool.and_eq_true] at hs ⊢
      exact ⟨hs.1, rfl⟩
  unfold gK gD SplitK gTD
  split <;> simp only [ne_not]
  rw [exec_some (m := ⟨d, some (s, b), op⟩) h0]
theorem run_pure {d : Option Nat} {po : PO} {xs : List Opd} : Run C Post (.ops none j (⟨d, none, .pure po xs⟩ :: ops) :: k) L = effK C Post (MO.eff (.pure po xs) d (get L)) j ops k L := run_op (by intros; simp)
theorem rund_pure {d : Option Nat} {po : PO} {xs : List Opd} : Run C Post (.ops (some q) j (⟨d, none, .pure po xs⟩ :: ops) :: k) L = (slotsB (some q) j (MOp.slots ⟨d, none, .pure po xs⟩ L) = true ∧ effD C Post q (MO.eff (.pure po xs) d (get L)) j ops k L) := rund_op (by intros; simp)
theorem run_mv {d : Option Nat} {x : Opd} : Run C Post (.ops none j (⟨d, none, .mv x⟩ :: ops) :: k) L = effK C Post (MO.eff (.mv x) d (get L)) j ops k L := run_op (by intros; simp)
theorem rund_mv {d : Option Nat} {x : Opd} : Run C Post (.ops (some q) j (⟨d, none, .mv x⟩ :: ops) :: k) L = (slotsB (some q) j (MOp.slots ⟨d, none, .mv x⟩ L) = true ∧ effD C Post q (MO.eff (.mv x) d (get L)) j ops k L) := rund_op (by intros; simp)
theorem run_asg {d : Option Nat} {x : Opd} : Run C Post (.ops none j (⟨d, none, .asg x⟩ :: ops) :: k) L = effK C Post (MO.eff (.asg x) d (get L)) j ops k L := run_op (by intros; simp)
theorem rund_asg {d : Option Nat} {x : Opd} : Run C Post (.ops (some q) j (⟨d, none, .asg x⟩ :: ops) :: k) L = (slotsB (some q) j (MOp.slots ⟨d, none, .asg x⟩ L) = true ∧ effD C Post q (MO.eff (.asg x) d (get L)) j ops k L) := rund_op (by intros; simp)
theorem run_pick {d : Option Nat} {c a b : Opd} : Run C Post (.ops none j (⟨d, none, .pick c a b⟩ :: ops) :: k) L = effK C Post (MO.eff (.pick c a b) d (get L)) j ops k L := run_op (by intros; simp)
theorem rund_pick {d : Option Nat} {c a b : Opd} : Run C Post (.ops (some q) j (⟨d, none, .pick c a b⟩ :: ops) :: k) L = (slotsB (some q) j (MOp.slots ⟨d, none, .pick c a b⟩ L) = true ∧ effD C Post q (MO.eff (.pick c a b) d (get L)) j ops k L) := rund_op (by intros; simp)
theorem run_alloc {d : Option Nat} {t : TypeId} {z : D} : Run C Post (.ops none j (⟨d, none, .alloc t z⟩ :: ops) :: k) L = effK C Post (MO.eff (.alloc t z) d (get L)) j ops k L := run_op (by intros; simp)
theorem rund_alloc {d : Option Nat} {t : TypeId} {z : D} : Run C Post (.ops (some q) j (⟨d, none, .alloc t z⟩ :: ops) :: k) L = (slotsB (some q) j (MOp.slots ⟨d, none, .alloc t z⟩ L) = true ∧ effD C Post q (MO.eff (.alloc t z) d (get L)) j ops k L) := rund_op (by intros; simp)
theorem run_box {d : Option Nat} {t : TypeId} {x : Opd} : Run C Post (.ops none j (⟨d, none, .box t x⟩ :: ops) :: k) L = effK C Post (MO.eff (.box t x) d (get L)) j ops k L := run_op (by intros; simp)
theorem rund_box {d : Option Nat} {t : TypeId} {x : Opd} : Run C Post (.ops (some q) j (⟨d, none, .box t x⟩ :: ops) :: k) L = (slotsB (some q) j (MOp.slots ⟨d, none, .box t x⟩ L) = true ∧ effD C Post q (MO.eff (.box t x) d (get L)) j ops k L) := rund_op (by intros; simp)
theorem run_build {d : Option Nat} {z : List D} {ps : List (Nat × Nat × Opd)} : Run C Post (.ops none j (⟨d, none, .build z ps⟩ :: ops) :: k) L = effK C Post (MO.eff (.build z ps) d (get L)) j ops k L := run_op (by intros; simp)
theorem rund_build {d : Option Nat} {z : List D} {ps : List (Nat × Nat × Opd)} : Run C Post (.ops (some q) j (⟨d, none, .build z ps⟩ :: ops) :: k) L = (slotsB (some q) j (MOp.slots ⟨d, none, .build z ps⟩ L) = true ∧ effD C Post q (MO.eff (.build z ps) d (get L)) j ops k L) := rund_op (by intros; simp)
theorem run_bsl {d : Option Nat} {e : TypeId} {z : D} {n : Nat} {ps : List (Nat × Nat × Opd)} : Run C Post (.ops none j (⟨d, none, .bsl e z n ps⟩ :: ops) :: k) L = effK C Post (MO.eff (.bsl e z n ps) d (get L)) j ops k L := run_op (by intros; simp)
theorem rund_bsl {d : Option Nat} {e : TypeId} {z : D} {n : Nat} {ps : List (Nat × Nat × Opd)} : Run C Post (.ops (some q) j (⟨d, none, .bsl e z n ps⟩ :: ops) :: k) L = (slotsB (some q) j (MOp.slots ⟨d, none, .bsl e z n ps⟩ L) = true ∧ effD C Post q (MO.eff (.bsl e z n ps) d (get L)) j ops k L) := rund_op (by intros; simp)
theorem run_ld {d : Option Nat} {ag : Bool} {m : Nat} {x : Opd} : Run C Post (.ops none j (⟨d, none, .ld ag m x⟩ :: ops) :: k) L = effK C Post (MO.eff (.ld ag m x) d (get L)) j ops k L := run_op (by intros; simp)
theorem run_ldt {d : Option Nat} {m : Nat} {x : Opd} : Run C Post (.ops none j (⟨d, none, .ldt m x⟩ :: ops) :: k) L = effK C Post (MO.eff (.ldt m x) d (get L)) j ops k L := run_op (by intros; simp)
theorem rund_ld {d : Option Nat} {ag : Bool} {m : Nat} {x : Opd} : Run C Post (.ops (some q) j (⟨d, none, .ld ag m x⟩ :: ops) :: k) L = (slotsB (some q) j (MOp.slots ⟨d, none, .ld ag m x⟩ L) = true ∧ effD C Post q (MO.eff (.ld ag m x) d (get L)) j ops k L) := rund_op (by intros; simp)
theorem rund_ldt {d : Option Nat} {m : Nat} {x : Opd} : Run C Post (.ops (some q) j (⟨d, none, .ldt m x⟩ :: ops) :: k) L = (slotsB (some q) j (MOp.slots ⟨d, none, .ldt m x⟩ L) = true ∧ effD C Post q (MO.eff (.ldt m x) d (get L)) j ops k L) := rund_op (by intros; simp)
theorem run_st {d : Option Nat} {m : Nat} {a v : Opd} : Run C Post (.ops none j (⟨d, none, .st m a v⟩ :: ops) :: k) L = effK C Post (MO.eff (.st m a v) d (get L)) j ops k L := run_op (by intros; simp)
theorem rund_st {d : Option Nat} {m : Nat} {a v : Opd} : Run C Post (.ops (some q) j (⟨d, none, .st m a v⟩ :: ops) :: k) L = (slotsB (some q) j (MOp.slots ⟨d, none, .st m a v⟩ L) = true ∧ effD C Post q (MO.eff (.st m a v) d (get L)) j ops k L) := rund_op (by intros; simp)
theorem run_mks {d : Option Nat} {e : TypeId} {z : D} {b : Nat} {l c : Opd} : Run C Post (.ops none j (⟨d, none, .mks e z b l c⟩ :: ops) :: k) L = effK C Post (MO.eff (.mks e z b l c) d (get L)) j ops k L := run_op (by intros; simp)
theorem rund_mks {d : Option Nat} {e : TypeId} {z : D} {b : Nat} {l c : Opd} : Run C Post (.ops (some q) j (⟨d, none, .mks e z b l c⟩ :: ops) :: k) L = (slotsB (some q) j (MOp.slots ⟨d, none, .mks e z b l c⟩ L) = true ∧ effD C Post q (MO.eff (.mks e z b l c) d (get L)) j ops k L) := rund_op (by intros; simp)
theorem run_slR {d : Option Nat} {e : TypeId} {x : Opd} {lo hi : Option Opd} : Run C Post (.ops none j (⟨d, none, .slR e x lo hi⟩ :: ops) :: k) L = effK C Post (MO.eff (.slR e x lo hi) d (get L)) j ops k L := run_op (by intros; simp)
theorem rund_slR {d : Option Nat} {e : TypeId} {x : Opd} {lo hi : Option Opd} : Run C Post (.ops (some q) j (⟨d, none, .slR e x lo hi⟩ :: ops) :: k) L = (slotsB (some q) j (MOp.slots ⟨d, none, .slR e x lo hi⟩ L) = true ∧ effD C Post q (MO.eff (.slR e x lo hi) d (get L)) j ops k L) := rund_op (by intros; simp)
theorem run_fa {d : Option Nat} {x : Opd} {off : Nat} : Run C Post (.ops none j (⟨d, none, .fa x off⟩ :: ops) :: k) L = effK C Post (MO.eff (.fa x off) d (get L)) j ops k L := run_op (by intros; simp)
theorem rund_fa {d : Option Nat} {x : Opd} {off : Nat} : Run C Post (.ops (some q) j (⟨d, none, .fa x off⟩ :: ops) :: k) L = (slotsB (some q) j (MOp.slots ⟨d, none, .fa x off⟩ L) = true ∧ effD C Post q (MO.eff (.fa x off) d (get L)) j ops k L) := rund_op (by intros; simp)
theorem run_ia {d : Option Nat} {e : TypeId} {x i : Opd} : Run C Post (.ops none j (⟨d, none, .ia e x i⟩ :: ops) :: k) L = effK C Post (MO.eff (.ia e x i) d (get L)) j ops k L := run_op (by intros; simp)
theorem rund_ia {d : Option Nat} {e : TypeId} {x i : Opd} : Run C Post (.ops (some q) j (⟨d, none, .ia e x i⟩ :: ops) :: k) L = (slotsB (some q) j (MOp.slots ⟨d, none, .ia e x i⟩ L) = true ∧ effD C Post q (MO.eff (.ia e x i) d (get L)) j ops k L) := rund_op (by intros; simp)
theorem run_ext {d : Option Nat} {x : Opd} {i : Nat} : Run C Post (.ops none j (⟨d, none, .ext x i⟩ :: ops) :: k) L = effK C Post (MO.eff (.ext x i) d (get L)) j ops k L := run_op (by intros; simp)
theorem rund_ext {d : Option Nat} {x : Opd} {i : Nat} : Run C Post (.ops (some q) j (⟨d, none, .ext x i⟩ :: ops) :: k) L = (slotsB (some q) j (MOp.slots ⟨d, none, .ext x i⟩ L) = true ∧ effD C Post q (MO.eff (.ext x i) d (get L)) j ops k L) := rund_op (by intros; simp)
theorem run_app {d : Option Nat} {e b : Nat} {sb : Bool} {x y : Opd} : Run C Post (.ops none j (⟨d, none, .app e b sb x y⟩ :: ops) :: k) L = effK C Post (MO.eff (.app e b sb x y) d (get L)) j ops k L := run_op (by intros; simp)
theorem rund_app {d : Option Nat} {e b : Nat} {sb : Bool} {x y : Opd} : Run C Post (.ops (some q) j (⟨d, none, .app e b sb x y⟩ :: ops) :: k) L = (slotsB (some q) j (MOp.slots ⟨d, none, .app e b sb x y⟩ L) = true ∧ effD C Post q (MO.eff (.app e b sb x y) d (get L)) j ops k L) := rund_op (by intros; simp)
def mkView (L : AL) (n : Nat) : SV Unit → View
  | .own t => ⟨.own t, some n, none⟩
  | .tup ts => ⟨.tup ts, some n, none⟩
  | .undef => ⟨.undef, some n, none⟩
  | .ref r p => ⟨.ref r p, some n, some (r, get L r)⟩
  | .ptr r p i j => ⟨.ptr r p i j, some n, some (r, get L r)⟩
  | .sub r p i j => ⟨.sub r p i j, some n, some (r, get L r)⟩
theorem view_t {n : Nat} : view (get L) (.t n) = mkView L n (get L n) := by
  show View.mk (get L n) (some n) ((get L n).root?.map fun r => (r, get L r)) = _
  generalize get L n = v
  cases v <;> rfl
theorem view_c {σ : St Unit} {d : D} : view σ (.c d) = ⟨.own d, none, none⟩ := rfl
section
variable {b0 : List (List Nat)} {w0 : List (Nat × Nat × Bool)} {l0 : Nat}
theorem rund_gF {d : Option Nat} {s : Nat} {b : Bool} {op : MO} : Run C Post (.ops (some ⟨b0, w0, l0, false⟩) j (⟨d, some (s, b), op⟩ :: ops) :: k) L = (slotsB (some ⟨b0, w0, l0, false⟩) j (MOp.slots ⟨d, some (s, b), op⟩ L) = true ∧ gK C Post (some ⟨b0, w0, l0, false⟩) (get L s) b ⟨d, some (s, b), op⟩ j ops k L) := rund_g
theorem rund_callF {d : Option Nat} {f : FuncId} {xs : List Opd} : Run C Post (.ops (some ⟨b0, w0, l0, false⟩) j (⟨d, none, .call f xs⟩ :: ops) :: k) L = (slotsB (some ⟨b0, w0, l0, false⟩) j (MOp.slots ⟨d, none, .call f xs⟩ L) = true ∧ CallK C Post (some ⟨b0, w0, l0, false⟩) d f (argsOf (xs.map (view (get L)))) j ops k L) := rund_call
theorem runD_gF {d : Option Nat} {s : Nat} {b : Bool} {op : MO} : Run C Post (.ops (some ⟨b0, w0, l0, false⟩) j (⟨d, some (s, b), op⟩ :: ops) :: k) L = (slotsB (some ⟨b0, w0, l0, false⟩) j (MOp.slots ⟨d, some (s, b), op⟩ L) = true ∧ gD C Post ⟨b0, w0, l0, false⟩ (get L s) b ⟨d, some (s, b), op⟩ j ops k L) := runD_g
theorem rund_pureF {d : Option Nat} {po : PO} {xs : List Opd} : Run C Post (.ops (some ⟨b0, w0, l0, false⟩) j (⟨d, none, .pure po xs⟩ :: ops) :: k) L = (slotsB (some ⟨b0, w0, l0, false⟩) j (MOp.slots ⟨d, none, .pure po xs⟩ L) = true ∧ effD C Post ⟨b0, w0, l0, false⟩ (MO.eff (.pure po xs) d (get L)) j ops k L) := rund_pure
theorem rund_mvF {d : Option Nat} {x : Opd} : Run C Post (.ops (some ⟨b0, w0, l0, false⟩) j (⟨d, none, .mv x⟩ :: ops) :: k) L = (slotsB (some ⟨b0, w0, l0, false⟩) j (MOp.slots ⟨d, none, .mv x⟩ L) = true ∧ effD C Post ⟨b0, w0, l0, false⟩ (MO.eff (.mv x) d (get L)) j ops k L) := rund_mv
theorem rund_asgF {d : Option Nat} {x : Opd} : Run C Post (.ops (some ⟨b0, w0, l0, false⟩) j (⟨d, none, .asg x⟩ :: ops) :: k) L = (slotsB (some ⟨b0, w0, l0, false⟩) j (MOp.slots ⟨d, none, .asg x⟩ L) = true ∧ effD C Post ⟨b0, w0, l0, false⟩ (MO.eff (.asg x) d (get L)) j ops k L) := rund_asg
theorem rund_pickF {d : Option Nat} {c a b : Opd} : Run C Post (.ops (some ⟨b0, w0, l0, false⟩) j (⟨d, none, .pick c a b⟩ :: ops) :: k) L = (slotsB (some ⟨b0, w0, l0, false⟩) j (MOp.slots ⟨d, none, .pick c a b⟩ L) = true ∧ effD C Post ⟨b0, w0, l0, false⟩ (MO.eff (.pick c a b) d (get L)) j ops k L) := rund_pick
theorem rund_allocF {d : Option Nat} {t : TypeId} {z : D} : Run C Post (.ops (some ⟨b0, w0, l0, false⟩) j (⟨d, none, .alloc t z⟩ :: ops) :: k) L = (slotsB (some ⟨b0, w0, l0, false⟩) j (MOp.slots ⟨d, none, .alloc t z⟩ L) = true ∧ effD C Post ⟨b0, w0, l0, false⟩ (MO.eff (.alloc t z) d (get L)) j ops k L) := rund_alloc
theorem rund_boxF {d : Option Nat} {t : TypeId} {x : Opd} : Run C Post (.ops (some ⟨b0, w0, l0, false⟩) j (⟨d, none, .box t x⟩ :: ops) :: k) L = (slotsB (some ⟨b0, w0, l0, false⟩) j (MOp.slots ⟨d, none, .box t x⟩ L) = true ∧ effD C Post ⟨b0, w0, l0, false⟩ (MO.eff (.box t x) d (get L)) j ops k L) := rund_box
theorem rund_buildF {d : Option Nat} {z : List D} {ps : List (Nat × Nat × Opd)} : Run C Post (.ops (some ⟨b0, w0, l0, false⟩) j (⟨d, none, .build z ps⟩ :: ops) :: k) L = (slotsB (some ⟨b0, w0, l0, false⟩) j (MOp.slots ⟨d, none, .build z ps⟩ L) = true ∧ effD C Post ⟨b0, w0, l0, false⟩ (MO.eff (.build z ps) d (get L)) j ops k L) := rund_build
theorem rund_bslF {d : Option Nat} {e : TypeId} {z : D} {n : Nat} {ps : List (Nat × Nat × Opd)} : Run C Post (.ops (some ⟨b0, w0, l0, false⟩) j (⟨d, none, .bsl e z n ps⟩ :: ops) :: k) L = (slotsB (some ⟨b0, w0, l0, false⟩) j (MOp.slots ⟨d, none, .bsl e z n ps⟩ L) = true ∧ effD C Post ⟨b0, w0, l0, false⟩ (MO.eff (.bsl e z n ps) d (get L)) j ops k L) := rund_bsl
theorem rund_ldF {d : Option Nat} {ag : Bool} {m : Nat} {x : Opd} : Run C Post (.ops (some ⟨b0, w0, l0, false⟩) j (⟨d, none, .ld ag m x⟩ :: ops) :: k) L = (slotsB (some ⟨b0, w0, l0, false⟩) j (MOp.slots ⟨d, none, .ld ag m x⟩ L) = true ∧ effD C Post ⟨b0, w0, l0, false⟩ (MO.eff (.ld ag m x) d (get L)) j ops k L) := rund_ld
theorem rund_ldtF {d : Option Nat} {m : Nat} {x : Opd} : Run C Post (.ops (some ⟨b0, w0, l0, false⟩) j (⟨d, none, .ldt m x⟩ :: ops) :: k) L = (slotsB (some ⟨b0, w0, l0, false⟩) j (MOp.slots ⟨d, none, .ldt m x⟩ L) = true ∧ effD C Post ⟨b0, w0, l0, false⟩ (MO.eff (.ldt m x) d (get L)) j ops k L) := rund_ldt
theorem rund_stF {d : Option Nat} {m : Nat} {a v : Opd} : Run C Post (.ops (some ⟨b0, w0, l0, false⟩) j (⟨d, none, .st m a v⟩ :: ops) :: k) L = (slotsB (some ⟨b0, w0, l0, false⟩) j (MOp.slots ⟨d, none, .st m a v⟩ L) = true ∧ effD C Post ⟨b0, w0, l0, false⟩ (MO.eff (.st m a v) d (get L)) j ops k L) := rund_st
theorem rund_mksF {d : Option Nat} {e : TypeId} {z : D} {b : Nat} {l c : Opd} : Run C Post (.ops (some ⟨b0, w0, l0, false⟩) j (⟨d, none, .mks e z b l c⟩ :: ops) :: k) L = (slotsB (some ⟨b0, w0, l0, false⟩) j (MOp.slots ⟨d, none, .mks e z b l c⟩ L) = true ∧ effD C Post ⟨b0, w0, l0, false⟩ (MO.eff (.mks e z b l c) d (get L)) j ops k L) := rund_mks
theorem rund_slRF {d : Option Nat} {e : TypeId} {x : Opd} {lo hi : Option Opd} : Run C Post (.ops (some ⟨b0, w0, l0, false⟩) j (⟨d, none, .slR e x lo hi⟩ :: ops) :: k) L = (slotsB (some ⟨b0, w0, l0, false⟩) j (MOp.slots ⟨d, none, .slR e x lo hi⟩ L) = true ∧ effD C Post ⟨b0, w0, l0, false⟩ (MO.eff (.slR e x lo hi) d (get L)) j ops k L) := rund_slR
theorem rund_faF {d : Option Nat} {x : Opd} {off : Nat} : Run C Post (.ops (some ⟨b0, w0, l0, false⟩) j (⟨d, none, .fa x off⟩ :: ops) :: k) L = (slotsB (some ⟨b0, w0, l0, false⟩) j (MOp.slots ⟨d, none, .fa x off⟩ L) = true ∧ effD C Post ⟨b0, w0, l0, false⟩ (MO.eff (.fa x off) d (get L)) j ops k L) := rund_fa
theorem rund_iaF {d : Option Nat} {e : TypeId} {x i : Opd} : Run C Post (.ops (some ⟨b0, w0, l0, false⟩) j (⟨d, none, .ia e x i⟩ :: ops) :: k) L = (slotsB (some ⟨b0, w0, l0, false⟩) j (MOp.slots ⟨d, none, .ia e x i⟩ L) = true ∧ effD C Post ⟨b0, w0, l0, false⟩ (MO.eff (.ia e x i) d (get L)) j ops k L) := rund_ia
theorem rund_extF {d : Option Nat} {x : Opd} {i : Nat} : Run C Post (.ops (some ⟨b0, w0, l0, false⟩) j (⟨d, none, .ext x i⟩ :: ops) :: k) L = (slotsB (some ⟨b0, w0, l0, false⟩) j (MOp.slots ⟨d, none, .ext x i⟩ L) = true ∧ effD C Post ⟨b0, w0, l0, false⟩ (MO.eff (.ext x i) d (get L)) j ops k L) := rund_ext
theorem rund_appF {d : Option Nat} {e b : Nat} {sb : Bool} {x y : Opd} : Run C Post (.ops (some ⟨b0, w0, l0, false⟩) j (⟨d, none, .app e b sb x y⟩ :: ops) :: k) L = (slotsB (some ⟨b0, w0, l0, false⟩) j (MOp.slots ⟨d, none, .app e b sb x y⟩ L) = true ∧ effD C Post ⟨b0, w0, l0, false⟩ (MO.eff (.app e b sb x y) d (get L)) j ops k L) := rund_app
theorem slotsB_st {ss : List Nat} : slotsB (some ⟨b0, w0, l0, true⟩) j ss = true := rfl
theorem wsB_st {ws : Ws Unit} : wsB (some ⟨b0, w0, l0, true⟩) j ws = oneB ws := rfl
def gTS (C : Con) (Post : AL → Prop) (q : DrI) (t b : Bool) (m : MOp) (j : Nat) (ops : List MOp) (k : List It) (L : AL) : Prop :=
  (t = b → Run C Post (.ops (some q) j ({ m with g := none } :: ops) :: k) L) ∧ (t = !b → oneB (skipW m.d) = true ∧ Run C Post (.ops (some q) (j + 1) ops :: k) (skipL m.d L))
def gS (C : Con) (Post : AL → Prop) (q : DrI) (v : SV Unit) (b : Bool) (m : MOp) (j : Nat) (ops : List MOp) (k : List It) (L : AL) : Prop := match v with
  | .own (.nd (.bool t) []) => gTS C Post q t b m j ops k L
  | .tup [] => oneB (skipW m.d) = true ∧ Run C Post (.ops (some q) (j + 1) ops :: k) (skipL m.d L)
  | _ => False
section
variable {d : Nat} {g : Option (Nat × Bool)} {op : MO}
theorem gTS_tt : gTS C Post q true true ⟨some d, g, op⟩ j ops k L = Run C Post (.ops (some q) j (⟨some d, none, op⟩ :: ops) :: k) L := by simp [gTS]
theorem gTS_ff : gTS C Post q false false ⟨some d, g, op⟩ j ops k L = Run C Post (.ops (some q) j (⟨some d, none, op⟩ :: ops) :: k) L := by simp [gTS]
theorem gTS_tf : gTS C Post q true false ⟨some d, g, op⟩ j ops k L = Run C Post (.ops (some q) (j + 1) ops :: k) (skipL (some d) L) := by simp [gTS, oneB, skipW]
theorem gTS_ft : gTS C Post q false true ⟨some d, g, op⟩ j ops k L = Run C Post (.ops (some q) (j + 1) ops :: k) (skipL (some d) L) := by simp [gTS, oneB, skipW]
theorem gS_any {t b : Bool} : gTS C Post q t b ⟨some d, g, op⟩ j ops k L = ((t = b → Run C Post (.ops (some q) j (⟨some d, none, op⟩ :: ops) :: k) L) ∧ (t = !b → Run C Post (.ops (some q) (j + 1) ops :: k) (skipL (some d) L))) := by simp [gTS, oneB, skipW]
end
theorem runS_g {d : Option Nat} {s : Nat} {b : Bool} {op : MO} : Run C Post (.ops (some ⟨b0, w0, l0, true⟩) j (⟨d, some (s, b), op⟩ :: ops) :: k) L = gS C Post ⟨b0, w0, l0, true⟩ (get L s) b ⟨d, some (s, b), op⟩ j ops k L := by
  rw [runD_g]; simp only [slotsB_st, true_and]; rfl
def effS (C : Con) (Post : AL → Prop) (q : DrI) (E : Option Eff) (j : Nat) (ops : List MOp) (k : List It) (L : AL) : Prop := match E with
  | none => False
  | some E => oneB E.ws = true ∧ Grd C Post E.pre (some q) j ops k (putL E.ws L)
theorem effS_some {q : DrI} {pre : Prop} {ws : Ws Unit} : effS C Post q (some ⟨pre, ws⟩) j ops k L = (oneB ws = true ∧ Grd C Post pre (some q) j ops k (putL ws L)) := rfl
theorem effS_none {q : DrI} : effS C Post q none j ops k L = False := rfl
theorem runs_call {d : Option Nat} {f : FuncId} {xs : List Opd} : Run C Post (.ops (some ⟨b0, w0, l0, true⟩) j (⟨d, none, .call f xs⟩ :: ops) :: k) L = CallK C Post (some ⟨b0, w0, l0, true⟩) d f (argsOf (xs.map (view (get L)))) j ops k L := by
  rw [rund_call]; simp only [slotsB_st, true_and]
theorem runs_op {d : Option Nat} {op : MO} (h : ∀ f xs, op ≠ .call f xs) : Run C Post (.ops (some ⟨b0, w0, l0, true⟩) j (⟨d, none, op⟩ :: ops) :: k) L = effS C Post ⟨b0, w0, l0, true⟩ (op.eff d (get L)) j ops k L := by
  rw [rund_op h]; simp only [slotsB_st, true_and]; rfl
theorem runs_pure {d : Option Nat} {po : PO} {xs : List Opd} : Run C Post (.ops (some ⟨b0, w0, l0, true⟩) j (⟨d, none, .pure po xs⟩ :: ops) :: k) L = effS C Post ⟨b0, w0, l0, true⟩ (MO.eff (.pure po xs) d (get L)) j ops k L := runs_op (by intros; simp)
theorem runs_mv {d : Option Nat} {x : Opd} : Run C Post (.ops (some ⟨b0, w0, l0, true⟩) j (⟨d, none, .mv x⟩ :: ops) :: k) L = effS C Post ⟨b0, w0, l0, true⟩ (MO.eff (.mv x) d (get L)) j ops k L := runs_op (by intros; simp)
theorem runs_asg {d : Option Nat} {x : Opd} : Run C Post (.ops (some ⟨b0, w0, l0, true⟩) j (⟨d, none, .asg x⟩ :: ops) :: k) L = effS C Post ⟨b0, w0, l0, true⟩ (MO.eff (.asg x) d (get L)) j ops k L := runs_op (by intros; simp)
theorem runs_pick {d : Option Nat} {c a b : Opd} : Run C Post (.ops (some ⟨b0, w0, l0, true⟩) j (⟨d, none, .pick c a b⟩ :: ops) :: k) L = effS C Post ⟨b0, w0, l0, true⟩ (MO.eff (.pick c a b) d (get L)) j ops k L := runs_op (by intros; simp)
theorem runs_alloc {d : Option Nat} {t : TypeId} {z : D} : Run C Post (.ops (some ⟨b0, w0, l0, true⟩) j (⟨d, none, .alloc t z⟩ :: ops) :: k) L = effS C Post ⟨b0, w0, l0, true⟩ (MO.eff (.alloc t z) d (get L)) j ops k L := runs_op (by intros; simp)
theorem runs_box {d : Option Nat} {t : TypeId} {x : Opd} : Run C Post (.ops (some ⟨b0, w0, l0, true⟩) j (⟨d, none, .box t x⟩ :: ops) :: k) L = effS C Post ⟨b0, w0, l0, true⟩ (MO.eff (.box t x) d (get L)) j ops k L := runs_op (by intros; simp)
theorem runs_build {d : Option Nat} {z : List D} {ps : List (Nat × Nat × Opd)} : Run C Post (.ops (some ⟨b0, w0, l0, true⟩) j (⟨d, none, .build z ps⟩ :: ops) :: k) L = effS C Post ⟨b0, w0, l0, true⟩ (MO.eff (.build z ps) d (get L)) j ops k L := runs_op (by intros; simp)
theorem runs_bsl {d : Option Nat} {e : TypeId} {z : D} {n : Nat} {ps : List (Nat × Nat × Opd)} : Run C Post (.ops (some ⟨b0, w0, l0, true⟩) j (⟨d, none, .bsl e z n ps⟩ :: ops) :: k) L = effS C Post ⟨b0, w0, l0, true⟩ (MO.eff (.bsl e z n ps) d (get L)) j ops k L := runs_op (by intros; simp)
theorem runs_ld {d : Option Nat} {ag : Bool} {m : Nat} {x : Opd} : Run C Post (.ops (some ⟨b0, w0, l0, true⟩) j (⟨d, none, .ld ag m x⟩ :: ops) :: k) L = effS C Post ⟨b0, w0, l0, true⟩ (MO.eff (.ld ag m x) d (get L)) j ops k L := runs_op (by intros; simp)
theorem runs_ldt {d : Option Nat} {m : Nat} {x : Opd} : Run C Post (.ops (some ⟨b0, w0, l0, true⟩) j (⟨d, none, .ldt m x⟩ :: ops) :: k) L = effS C Post ⟨b0, w0, l0, true⟩ (MO.eff (.ldt m x) d (get L)) j ops k L := runs_op (by intros; simp)
theorem runs_st {d : Option Nat} {m : Nat} {a v : Opd} : Run C Post (.ops (some ⟨b0, w0, l0, true⟩) j (⟨d, none, .st m a v⟩ :: ops) :: k) L = effS C Post ⟨b0, w0, l0, true⟩ (MO.eff (.st m a v) d (get L)) j ops k L := runs_op (by intros; simp)
theorem runs_mks {d : Option Nat} {e : TypeId} {z : D} {b : Nat} {l c : Opd} : Run C Post (.ops (some ⟨b0, w0, l0, true⟩) j (⟨d, none, .mks e z b l c⟩ :: ops) :: k) L = effS C Post ⟨b0, w0, l0, true⟩ (MO.eff (.mks e z b l c) d (get L)) j ops k L := runs_op (by intros; simp)
theorem runs_slR {d : Option Nat} {e : TypeId} {x : Opd} {lo hi : Option Opd} : Run C Post (.ops (some ⟨b0, w0, l0, true⟩) j (⟨d, none, .slR e x lo hi⟩ :: ops) :: k) L = effS C Post ⟨b0, w0, l0, true⟩ (MO.eff (.slR e x lo hi) d (get L)) j ops k L := runs_op (by intros; simp)
theorem runs_fa {d : Option Nat} {x : Opd} {off : Nat} : Run C Post (.ops (some ⟨b0, w0, l0, true⟩) j (⟨d, none, .fa x off⟩ :: ops) :: k) L = effS C Post ⟨b0, w0, l0, true⟩ (MO.eff (.fa x off) d (get L)) j ops k L := runs_op (by intros; simp)
theorem runs_ia {d : Option Nat} {e : TypeId} {x i : Opd} : Run C Post (.ops (some ⟨b0, w0, l0, true⟩) j (⟨d, none, .ia e x i⟩ :: ops) :: k) L = effS C Post ⟨b0, w0, l0, true⟩ (MO.eff (.ia e x i) d (get L)) j ops k L := runs_op (by intros; simp)
theorem runs_ext {d : Option Nat} {x : Opd} {i : Nat} : Run C Post (.ops (some ⟨b0, w0, l0, true⟩) j (⟨d, none, .ext x i⟩ :: ops) :: k) L = effS C Post ⟨b0, w0, l0, true⟩ (MO.eff (.ext x i) d (get L)) j ops k L := runs_op (by intros; simp)
theorem runs_app {d : Option Nat} {e b : Nat} {sb : Bool} {x y : Opd} : Run C Post (.ops (some ⟨b0, w0, l0, true⟩) j (⟨d, none, .app e b sb x y⟩ :: ops) :: k) L = effS C Post ⟨b0, w0, l0, true⟩ (MO.eff (.app e b sb x y) d (get L)) j ops k L := runs_op (by intros; simp)
end
end
end Go.VC
end

section
set_option linter.unusedVariables false
set_option linter.unusedSimpArgs false
namespace Go.VC
variable {P : Program} {n : Nat} {lent : List Nat} {o : Oper} {d : Nat}

theorem refTo_some {d r : Nat} {p : Prop} {sv : SV Unit} {E : Eff} (h : refTo d r p sv = some E) : r ≠ d ∧ E = ⟨p, [(d, sv, false)]⟩ := by
  unfold refTo at h
  cases hb : (r == d) with
  | true => simp [hb] at h
  | false => simp [hb] at h; exact ⟨by simpa using hb, h.symm⟩

/-- an operand's slot, without addresses and with them -/
theorem view_cases {τ : St Phys} {e : TypeId} {x : Operand} {ox : Opd} (hx : opd e x = some ox) :
    (∃ s, ox = .t s ∧ x = .tmp s ∧ (view (St.erase τ) ox).sv = (τ s).erase ∧ (view (St.erase τ) ox).slot = some s ∧
      (view (St.erase τ) ox).tree = (match (τ s).root? with | some r => (match τ r with | .own t => some t.erase | _ => none) | none => none)) ∨
    (∃ v dd, ox = .c dd ∧ x = .const v ∧ constD e v = some dd) := by
  unfold opd at hx
  split at hx
  · rename_i s
    cases hx
    refine .inl ⟨s, rfl, rfl, rfl, rfl, ?_⟩
    simp only [view, View.tree, St.erase, SV.root?_erase]
    cases (τ s).root? with
    | none => rfl
    | some r => simp only [Option.map_some]; cases τ r <;> rfl
  · rename_i v
    cases hc : constD e v with
    | none => simp [hc] at hx
    | some dd => simp [hc] at hx; exact .inr ⟨v, dd, hx.symm, rfl, hc⟩
  · cases hx

theorem run_move {x : Operand} {a : Act} {w : World} (ho : o.op = .move x ∨ o.op = .assign x) : (execOp a.eval o).run P w = .ok (.value (a.eval x)) w := by
  unfold execOp
  rcases ho with ho | ho <;> rw [ho] <;> simp

theorem put_erase1 {d : Nat} {v : SV Phys} : Ws.erase [(d, v, false)] = [(d, v.erase, false)] := rfl

theorem const_put {w0 w : World} {τ : St Phys} {a : Act} (hi : Inv P n lent w0 τ a w) (hn : d < n) {e : TypeId} {v : Value} {dd : D} (hc : constD e v = some dd) :
    ∃ t : L, t.erase = dd ∧ Inv P n lent w0 (puts [(d, .own t, false)] τ) (a.put (some d) v) w := by
  obtain ⟨t, h1, h2, h3, h4, h5⟩ := constD_some (P := P) (w := w) hc
  refine ⟨t, h1, ?_⟩
  rw [← h2]
  exact hi.put hn rfl (by simp [SV.foot, SV.trees, h4]) (by simpa [SV.trees] using h3) (by simp [SV.rdb, SV.trees, h5])

theorem snd_mv (hd : o.dst = some d) (hn : d < n) {x : Operand} (ho : o.op = .move x ∨ o.op = .assign x) {e : TypeId} {ox : Opd} (hx : opd e x = some ox) :
    Snd P n lent o (fun σ => movEff d (view σ ox)) := by
  intro w0 τ a w E K Q hi he hp hk
  refine wp_value (run_move ho) ?_
  rw [hd]
  rcases view_cases (τ := τ) hx with ⟨s, rfl, rfl, hsv, hsl, htr⟩ | ⟨v, dd, rfl, rfl, hc⟩
  · have hev : a.eval (.tmp s) = a.tmps.getD s Go.undef := rfl
    have hden := hi.den s
    rw [hev]
    simp only [movEff, hsv, hsl] at he
    cases hs : τ s with
    | own t =>
      rw [hs] at he hden
      simp only [SV.erase, plain_erase] at he
      cases hpl : t.plain with
      | true =>
        rw [hpl] at he; cases he
        rw [show a.tmps.getD s Go.undef = t.val from hden]
        refine hk _ _ _ (puts_erase [(d, .own t, false)] τ) (hi.put_plain hn hpl (hi.ok s t (by simp [hs, SV.trees])) fun b hb => ⟨s, by simpa [hs, SV.rdb, SV.trees] using hb⟩)
      | false =>
        rw [hpl] at he
        obtain ⟨hne, rfl⟩ := refTo_some he
        exact hk _ _ _ (puts_erase [(d, .ref s [], false)] τ) (hi.put_ref hn rfl hne ⟨t, t, hs, rfl, .inl rfl, hden⟩)
    | tup ts =>
      rw [hs] at he hden
      simp only [SV.erase, movTup] at he
      cases hsd : (s == d) with
      | true => rw [hsd] at he; cases he
      | false =>
      rw [hsd] at he
      cases he
      have hne : s ≠ d := by simpa using hsd
      have hsz : d < a.tmps.size := by rw [hi.tsz]; exact hn
      have htr' : ∀ t ∈ (SV.tup ts : SV Phys).trees, t ∈ (τ s).trees := fun t ht => by rw [hs]; exact ht
      have hfo : ∀ b ∈ (SV.tup ts : SV Phys).foot, b ∈ (τ s).foot := fun b hb => by rw [hs]; exact hb
      have hl : ∀ u v k, ([(d, .tup ts, false), (s, .undef, false)] : Ws Phys).lookup u = some (v, k) → (u = d ∧ v = .tup ts ∧ k = false) ∨ (u ≠ d ∧ u = s ∧ v = .undef ∧ k = false) := by
        intro u v k hu
        simp only [List.lookup_cons, List.lookup_nil] at hu
        by_cases e1 : u = d
        · subst e1; simp at hu; exact .inl ⟨rfl, hu.1.symm, hu.2⟩
        · rw [beq_eq_false_iff_ne.2 e1] at hu
          by_cases e2 : u = s
          · subst e2; simp at hu; exact .inr ⟨e1, rfl, hu.1.symm, hu.2⟩
          · rw [beq_eq_false_iff_ne.2 e2] at hu; cases hu
      have hin : ([(d, .tup ts, false), (s, .undef, false)] : Ws Phys).lookup s ≠ none := by simp [List.lookup_cons, hsd]
      refine hk (puts [(d, .tup ts, false), (s, .undef, false)] τ) _ _ (by rw [puts_erase]; rfl) (hi.upd _ (by simp [Act.put, hi.tsz]) (by simpa [Act.put] using hi.dfr) ?_ ?_ ?_ ⟨rfl, rfl, rfl, Nat.le_refl _⟩ (fun _ _ _ => rfl) ?_ ?_ ?_ ?_ ?_)
      · intro u v k hu
        rcases hl u v k hu with ⟨rfl, rfl, rfl⟩ | ⟨_, rfl, rfl, rfl⟩
        · rw [put_tmps hsz, if_pos rfl]; exact hden
        · trivial
      · intro u v hu; rcases hl u v true hu with ⟨_, _, e⟩ | ⟨_, _, _, e⟩ <;> cases e
      · intro u hu
        rw [put_tmps hsz, if_neg]
        rintro rfl; simp at hu
      · intro u v k hu t ht
        rcases hl u v k hu with ⟨rfl, rfl, rfl⟩ | ⟨_, rfl, rfl, rfl⟩
        · exact hi.ok s t (htr' t ht)
        · simp [SV.trees] at ht
      · intro u v k hu
        rcases hl u v k hu with ⟨rfl, rfl, rfl⟩ | ⟨_, rfl, rfl, rfl⟩
        · have := hi.nod s; rw [hs] at this; exact this
        · simp [SV.foot, SV.trees]
      · intro u v k hu b hb
        rcases hl u v k hu with ⟨rfl, rfl, rfl⟩ | ⟨_, rfl, rfl, rfl⟩
        · exact ⟨.inl ⟨s, hin, hfo b hb⟩, (hi.fre s b (hfo b hb)).2⟩
        · simp [SV.foot, SV.trees] at hb
      · intro u v k u' v' k' hne' hu hu' b hb hb'
        rcases hl u v k hu with ⟨rfl, rfl, rfl⟩ | ⟨_, rfl, rfl, rfl⟩
        · rcases hl u' v' k' hu' with ⟨rfl, rfl, rfl⟩ | ⟨_, rfl, rfl, rfl⟩
          · exact hne' rfl
          · simp [SV.foot, SV.trees] at hb'
        · simp [SV.foot, SV.trees] at hb
      · intro u v k hu b hb
        rcases hl u v k hu with ⟨rfl, rfl, rfl⟩ | ⟨_, rfl, rfl, rfl⟩
        · have hb' : b ∈ (τ s).rdb := by rw [hs]; exact hb
          refine ⟨hi.rlt s b hb', .inl ⟨s, hb'⟩, fun u' v' k' hu' hbb => ?_⟩
          rcases hl u' v' k' hu' with ⟨rfl, rfl, rfl⟩ | ⟨_, rfl, rfl, rfl⟩
          · exact hi.ros s s b hb' (hfo b hbb)
          · simp [SV.foot, SV.trees] at hbb
        · simp [SV.rdb, SV.trees] at hb
    | undef => rw [hs] at he; cases he
    | ref r p => rw [hs] at he hden; obtain ⟨hne, rfl⟩ := refTo_some he; exact hk _ _ _ (puts_erase [(d, .ref r p, false)] τ) (hi.put_ref hn rfl hne hden)
    | ptr r p i j => rw [hs] at he hden; obtain ⟨hne, rfl⟩ := refTo_some he; exact hk _ _ _ (puts_erase [(d, .ptr r p i j, false)] τ) (hi.put_ref hn rfl hne hden)
    | sub r p lo m => rw [hs] at he hden; obtain ⟨hne, rfl⟩ := refTo_some he; exact hk _ _ _ (puts_erase [(d, .sub r p lo m, false)] τ) (hi.put_ref hn rfl hne hden)
  · obtain ⟨t, h1, h2⟩ := const_put hi hn hc
    simp only [movEff, view] at he
    cases hpl : dd.plain with
    | true =>
      rw [hpl] at he; cases he
      exact hk _ _ _ (by rw [puts_erase, put_erase1, SV.erase, h1]) h2
    | false => rw [hpl] at he; cases he

theorem part_own_ok {w : World} {e : TypeId} {ad : Option Addr} {cap lo m : Nat} {cs : List L} (h : (Tr.nd (.row true e (ad, cap)) cs).Ok P w) (hl : lo + m ≤ cs.length) {ad' : Option Addr}
    (h1 : lo < cap → ∃ b, ad = some b ∧ ad' = some ⟨b.block, b.off + lo * szOf P e, none⟩) (h2 : cap ≤ lo → TailOk (szOf P e) ad cap ad') :
    (Tr.nd (.row true e (ad', cap - lo)) ((cs.drop lo).take m)).Ok P w ∧ (∀ b ∈ (Tr.nd (.row true e (ad', cap - lo)) ((cs.drop lo).take m)).foot, b ∈ (Tr.nd (.row true e (ad, cap)) cs).foot) ∧
      ((Tr.nd (.row true e (ad, cap)) cs).foot.Nodup → (Tr.nd (.row true e (ad', cap - lo)) ((cs.drop lo).take m)).foot.Nodup) ∧
      ∀ b ∈ (Tr.nd (.row true e (ad', cap - lo)) ((cs.drop lo).take m)).rdb, b ∈ (Tr.nd (.row true e (ad, cap)) cs).rdb := by
  have hsub : ((cs.drop lo).take m).Sublist cs := (List.take_sublist _ _).trans (List.drop_sublist _ _)
  have hfs : ((cs.drop lo).take m).flatMap Tr.foot |>.Sublist (cs.flatMap Tr.foot) := by
    have h3 : ∀ l1 l2 : List L, l1.Sublist l2 → (l1.flatMap Tr.foot).Sublist (l2.flatMap Tr.foot) := by
      intro l1 l2 hs
      induction hs with
      | slnil => exact List.Sublist.refl _
      | cons x _ ih => simp only [List.flatMap_cons]; exact ih.trans (List.sublist_append_right _ _)
      | cons_cons x _ ih => simp only [List.flatMap_cons]; exact (List.Sublist.refl _).append ih
    exact h3 _ _ hsub
  have hnod1 : Hd.own (.row true e (ad', cap - lo)) = Hd.own (.row true e (ad, cap)) := by
    by_cases hlo : lo < cap
    · obtain ⟨c, rfl, rfl⟩ := h1 hlo; simp [Hd.own]
    · rcases h2 (by omega) with rfl | ⟨b, off', rfl, rfl, _⟩
      · cases ad' <;> simp [Hd.own]
      · simp [Hd.own]
  have hown : ∀ b, b ∈ (Hd.own (.row true e (ad', cap - lo))) → b ∈ Hd.own (.row true e (ad, cap)) := fun b hb => hnod1 ▸ hb
  refine ⟨?_, ?_, ?_, ?_⟩
  · simp only [Tr.Ok, Tr.Oks_iff] at h ⊢
    obtain ⟨⟨g1, g2, g3, g4⟩, g5⟩ := h
    refine ⟨⟨by simp; omega, by omega, fun x hx => g3 x (hsub.subset hx), ?_⟩, fun x hx => g5 x (hsub.subset hx)⟩
    by_cases hlo : lo < cap
    · obtain ⟨c, rfl, rfl⟩ := h1 hlo
      obtain ⟨k1, cc, k2, k3, k4⟩ := g4
      refine ⟨rfl, cc, k2, ?_, fun i v hi => ?_⟩
      · have : lo * szOf P e + (cap - lo) * szOf P e = cap * szOf P e := by rw [← Nat.add_mul]; congr 1; omega
        simp only; omega
      · have hv := vals_take_get hi
        rw [vals_drop g3, List.getElem?_drop] at hv
        have := k4 _ _ hv
        simpa [Nat.add_assoc] using this
    · have hm : m = 0 := by omega
      subst hm
      rcases h2 (by omega) with rfl | ⟨b, off', rfl, rfl, hoff⟩
      · cases ad' with
        | none => exact ⟨by simp, by omega⟩
        | some c =>
          obtain ⟨k1, cc, k2, k3, k4⟩ := g4
          refine ⟨k1, cc, k2, ?_, fun i v hi => by simp [vals] at hi⟩
          have : (cap - lo) * szOf P e ≤ cap * szOf P e := Nat.mul_le_mul_right _ (by omega)
          omega
      · obtain ⟨k1, cc, k2, k3, k4⟩ := g4
        refine ⟨rfl, cc, k2, ?_, fun i v hi => by simp [vals] at hi⟩
        have : (cap - lo) * szOf P e = 0 := by rw [show cap - lo = 0 by omega, Nat.zero_mul]
        simp only; omega
  · intro b hb
    simp only [Tr.foot, List.mem_append, Tr.foots_eq] at hb ⊢
    exact hb.imp (hown b) fun h => hfs.subset h
  · intro hnd
    simp only [Tr.foot, Tr.foots_eq, hnod1] at hnd ⊢
    exact hnd.sublist ((List.Sublist.refl _).append hfs)
  · intro b hb
    simp only [Tr.rdb, Tr.rdbs_eq, List.mem_append, List.mem_flatMap] at hb ⊢
    rcases hb with hb | ⟨x, hx, hb⟩
    · cases hcs : (cs.drop lo).take m <;> rw [hcs] at hb <;> cases ad' <;> simp [Hd.rdb] at hb
    · exact .inr ⟨x, hsub.subset hx, hb⟩

theorem puts_congr {α : Type} {ws ws' : Ws α} (σ : St α) (h : ∀ s, ws.lookup s = ws'.lookup s) : puts ws σ = puts ws' σ := by
  funext s
  unfold puts
  rw [h s]
  cases ws'.lookup s with
  | some x => rfl
  | none =>
    cases (σ s).root? with
    | none => rfl
    | some r => simp only [h r]
theorem puts_dup {α : Type} (σ : St α) (a : Nat × SV α × Bool) (b : Nat × SV α × Bool) : puts [a, b, b] σ = puts [a, b] σ := by
  obtain ⟨a1, a2⟩ := a
  obtain ⟨b1, b2⟩ := b
  refine puts_congr σ fun s => ?_
  simp only [List.lookup_cons, List.lookup_nil]
  cases s == a1 <;> simp
  cases s == b1 <;> simp

theorem snd_asg (hd : o.dst = some d) (hn : d < n) {x : Operand} (ho : o.op = .move x ∨ o.op = .assign x) {e : TypeId} {ox : Opd} (hx : opd e x = some ox) :
    Snd P n lent o (fun σ => asgEff d (view σ ox)) := by
  intro w0 τ a w E K Q hi he hp hk
  refine wp_value (run_move ho) ?_
  rw [hd]
  rcases view_cases (τ := τ) hx with ⟨s, rfl, rfl, hsv, hsl, htr⟩ | ⟨v, dd, rfl, rfl, hc⟩
  · have hev : a.eval (.tmp s) = a.tmps.getD s Go.undef := rfl
    have hden := hi.den s
    rw [hev]
    simp only [asgEff, hsv, hsl, htr] at he
    cases hs : τ s with
    | own t =>
      rw [hs] at he hden
      simp only [SV.erase, plain_erase] at he
      have hv : a.tmps.getD s Go.undef = t.val := hden
      have hok := hi.ok s t (by simp [hs, SV.trees])
      cases hpl : t.plain with
      | true =>
        rw [hpl] at he; cases he
        rw [hv]
        exact hk _ _ _ (puts_erase [(d, .own t, false)] τ) (hi.put_plain hn hpl hok fun b hb => ⟨s, by simpa [hs, SV.rdb, SV.trees] using hb⟩)
      | false =>
        rw [hpl] at he
        simp only [asgOwn] at he
        cases hb : (s == d) with
        | true => simp [hb] at he
        | false =>
          simp [hb] at he
          subst he
          have hnod : t.foot.Nodup := by simpa [hs, SV.foot, SV.trees] using hi.nod s
          refine hk (puts [(d, .own t, false), (s, .undef, false), (s, .undef, false)] τ) _ _ ?_ (hi.move hn hs (s := s) (t' := t) (.inl rfl) rfl hv hok (fun _ h => h) hnod (fun _ h => .inl h) (.inl rfl) (.inl rfl) (fun e => by simp [e] at hb))
          rw [puts_dup, puts_erase]; rfl
    | tup ts => rw [hs] at he; cases he
    | undef => rw [hs] at he; cases he
    | ref r p =>
      rw [hs] at he hden
      cases p with
      | cons x p =>
        simp only [SV.erase] at he
        obtain ⟨hne, rfl⟩ := refTo_some he; exact hk _ _ _ (puts_erase [(d, .ref r (x :: p), false)] τ) (hi.put_ref hn rfl hne hden)
      | nil =>
        obtain ⟨t, c, e1, e2, e3, e4⟩ := hden
        simp only [Tr.look, Option.some.injEq] at e2; subst e2
        simp only [SV.erase, SV.root?, e1, asgRef] at he
        cases hb : (r == d || s == d) with
        | true => simp [hb] at he
        | false =>
          have hrs : (r == s) = false := by rw [beq_eq_false_iff_ne]; rintro rfl; rw [hs] at e1; cases e1
          simp [hb, hrs] at he
          subst he
          simp only [Bool.or_eq_false_iff, beq_eq_false_iff_ne] at hb
          have hnod : t.foot.Nodup := by simpa [e1, SV.foot, SV.trees] using hi.nod r
          refine hk _ _ _ (puts_erase [(d, .own t, false), (r, .ref d [], false), (s, .undef, false)] τ) ?_
          exact hi.move hn e1 (s := s) (t' := t) (.inr (.inl hs)) rfl e4 (hi.ok r t (by simp [e1, SV.trees])) (fun _ h => h) hnod (fun _ h => .inl h) (.inr ⟨rfl, rfl⟩) (.inl rfl) (fun e => hb.2 e.symm)
    | ptr r p i j => rw [hs] at he hden; obtain ⟨hne, rfl⟩ := refTo_some he; exact hk _ _ _ (puts_erase [(d, .ptr r p i j, false)] τ) (hi.put_ref hn rfl hne hden)
    | sub r p lo m =>
      rw [hs] at he hden
      cases p with
      | cons x p =>
        simp only [SV.erase] at he
        obtain ⟨hne, rfl⟩ := refTo_some he; exact hk _ _ _ (puts_erase [(d, .sub r (x :: p) lo m, false)] τ) (hi.put_ref hn rfl hne hden)
      | nil =>
        obtain ⟨t, ow, ee, q, cap, cs, a', e1, e2, e0, e3, e4, e5, e6⟩ := hden
        simp only [Tr.look, Option.some.injEq] at e2; subst e2
        simp only [SV.erase, SV.root?, e1, Tr.erase, Hd.erase] at he
        cases ow with
        | false => cases he
        | true =>
          simp only [asgSub] at he
          have hsr : (s == r) = false := by rw [beq_eq_false_iff_ne]; rintro rfl; rw [hs] at e1; cases e1
          cases hb : (s == d) with
          | true => simp [hb] at he
          | false =>
            simp only [hb, hsr, Bool.or_self, cond_false] at he
            have hE : E.pre = True ∧ ∀ σ : St Unit, puts E.ws σ = puts [(d, .own (.nd (.row true ee ()) ((Tr.erases cs).drop lo |>.take m)), false), (r, .undef, false), (s, .undef, false)] σ := by
              cases hrd : (r == d) with
              | true =>
                have : r = d := by simpa using hrd
                subst this
                simp only [hrd, cond_true, Option.some.injEq] at he
                subst he
                refine ⟨rfl, fun σ => puts_congr σ fun u => ?_⟩
                simp only [List.lookup_cons]
                cases (u == r) <;> rfl
              | false =>
                simp only [hrd, cond_false, Option.some.injEq] at he
                subst he
                exact ⟨rfl, fun σ => rfl⟩
            have hnod : (Tr.nd (.row true ee (q, cap)) cs).foot.Nodup := by simpa [e1, SV.foot, SV.trees] using hi.nod r
            obtain ⟨f1, f2, f3, f4⟩ := part_own_ok (hi.ok r _ (by simp [e1, SV.trees])) e3 e5 e6
            refine hk (puts [(d, .own (.nd (.row true ee (a', cap - lo)) ((cs.drop lo).take m)), false), (r, .undef, false), (s, .undef, false)] τ) _ _ ?_
              (hi.move hn e1 (s := s) (.inr (.inr (.inl ⟨_, _, _, hs⟩))) rfl ?_ f1 f2 (f3 hnod) (fun b h => .inl (f4 b h)) (.inl rfl) (.inl rfl) (fun e => by simp [e] at hb))
            · rw [hE.2, puts_erase]; simp [Ws.erase, SV.erase, Tr.erase, Hd.erase, Tr.erases_map]
            · rw [e4]; simp [Tr.val, Tr.cval, Tr.val0]; omega
  · obtain ⟨t, h1, h2⟩ := const_put hi hn hc
    simp only [asgEff, view] at he
    have he' : E = ⟨True, [(d, .own dd, false)]⟩ := by
      cases hpl : dd.plain with
      | true => rw [hpl] at he; cases he; rfl
      | false => rw [hpl] at he; cases he; rfl
    subst he'
    exact hk _ _ _ (by rw [puts_erase, put_erase1, SV.erase, h1]) h2

theorem plainOf_cases {w0 w : World} {τ : St Phys} {a : Act} (hi : Inv P n lent w0 τ a w) {e : TypeId} {x : Operand} {ox : Opd} (hx : opd e x = some ox) {dd : D} (h : plainOf (view (St.erase τ) ox) = some dd) :
    ∃ t : L, t.erase = dd ∧ t.val = a.eval x ∧ t.plain = true ∧ t.Ok P w ∧ ∀ b ∈ t.rdb, ∃ s, b ∈ (τ s).rdb := by
  have hrd : (view (St.erase τ) ox).rd = some dd ∧ dd.plain = true := by
    unfold plainOf at h
    split at h
    · rename_i t hsv
      unfold plainIf at h
      split at h
      · rename_i h2; cases h; exact ⟨by simp [View.rd, hsv], h2⟩
      · cases h
    · cases h
  rcases view_cases (τ := τ) hx with ⟨s, rfl, rfl, hsv, hsl, htr⟩ | ⟨v, d2, rfl, rfl, hc⟩
  · cases hs : τ s with
    | own t =>
      rw [hs] at hsv
      have : t.erase = dd := by have := hrd.1; simp [View.rd, hsv, SV.erase] at this; exact this
      refine ⟨t, this, ?_, by rw [← plain_erase, this]; exact hrd.2, hi.ok s t (by simp [hs, SV.trees]), fun b hb => ⟨s, by simpa [hs, SV.rdb, SV.trees] using hb⟩⟩
      have := hi.den s; rw [hs] at this; exact this.symm
    | _ => rw [hs] at hsv; simp [plainOf, hsv, SV.erase] at h
  · obtain ⟨t, h1, h2, h3, h4, h5⟩ := constD_some (P := P) (w := w) hc
    have : d2 = dd := by have := hrd.1; simpa [view, View.rd] using this
    subst this
    exact ⟨t, h1, h2, by rw [← plain_erase, h1]; exact hrd.2, h3, fun b hb => by simp [h5] at hb⟩

theorem snd_pick (hd : o.dst = some d) (hn : d < n) {c x y : Operand} (ho : o.op = .pick c x y) {e1 e2 e3 : TypeId} {oc ox oy : Opd} (hc : opd e1 c = some oc) (hx : opd e2 x = some ox) (hy : opd e3 y = some oy) :
    Snd P n lent o (fun σ => pickEff d (view σ oc) (view σ ox) (view σ oy)) := by
  intro w0 τ a w E K Q hi he hp hk
  change pickEff d (view (St.erase τ) oc) (view (St.erase τ) ox) (view (St.erase τ) oy) = some E at he
  unfold pickEff at he
  split at he
  · rename_i t hrd
    obtain ⟨tc, f1, f2, _⟩ := read hi hc hrd
    have hcv : a.eval c = .bool t := by rw [← f2, erase_bool f1]; rfl
    have hrun : (execOp a.eval o).run P w = .ok (.value (if t then a.eval x else a.eval y)) w := by
      unfold execOp; rw [ho]; simp [hcv, asBool]
    refine wp_value hrun ?_
    rw [hd]
    have fin : ∀ u : L, E.ws = [(d, .own u.erase, false)] → u.val = (if t then a.eval x else a.eval y) → u.plain = true → u.Ok P w → (∀ b ∈ u.rdb, ∃ s, b ∈ (τ s).rdb) → K (a.put (some d) (if t then a.eval x else a.eval y)) w := by
      intro u g1 g2 g3 g4 g5
      rw [← g2]
      exact hk _ _ _ (by rw [puts_erase, g1]; rfl) (hi.put_plain hn g3 g4 g5)
    cases h1 : plainOf (view (St.erase τ) ox) with
    | none =>
      cases h2 : plainOf (view (St.erase τ) oy) with
      | none => simp [h1, h2, pickK] at he
      | some v =>
        simp [h1, h2, pickK] at he; subst he
        simp at hp; subst hp
        obtain ⟨u, g1, g2, g3, g4, g5⟩ := plainOf_cases hi hy h2
        exact fin u (by rw [g1]) (by simpa using g2) g3 g4 g5
    | some u' =>
      obtain ⟨u, g1, g2, g3, g4, g5⟩ := plainOf_cases hi hx h1
      cases h2 : plainOf (view (St.erase τ) oy) with
      | none =>
        simp [h1, h2, pickK] at he; subst he
        simp at hp; subst hp
        exact fin u (by rw [g1]) (by simpa using g2) g3 g4 g5
      | some v' =>
        obtain ⟨v, k1, k2, k3, k4, k5⟩ := plainOf_cases hi hy h2
        simp [h1, h2, pickK, ret1] at he; subst he
        have hpick : ∀ (p q : D), pick2 t p q = bif t then p else q := by
          intro p q
          unfold pick2
          split
          · cases t <;> rfl
          · rfl
        cases t with
        | true => exact fin u (by simp [hpick, g1]) (by simpa using g2) g3 g4 g5
        | false => exact fin v (by simp [hpick, k1]) (by simpa using k2) k3 k4 k5
  · cases he
end Go.VC
end

section
set_option linter.unusedVariables false
set_option linter.unusedSimpArgs false
namespace Go.VC
variable {P : Program} {n : Nat} {lent : List Nat} {o : Oper} {d : Nat}

def clr {α : Type} (S : List Nat) : Ws α := S.map fun s => (s, .undef, false)
theorem clr_erase (S : List Nat) : Ws.erase (clr S) = clr S := by simp [Ws.erase, clr, SV.erase]
theorem cons_erase (d : Nat) (T : L) (S : List Nat) : Ws.erase ((d, .own T, false) :: clr S) = (d, .own T.erase, false) :: clr S := by
  show (d, SV.own T.erase, false) :: Ws.erase (clr S) = _
  rw [clr_erase]
theorem clr_lookup {α : Type} (S : List Nat) (s : Nat) : (clr S : Ws α).lookup s = if s ∈ S then some (.undef, false) else none := by
  induction S with
  | nil => simp [clr]
  | cons x S ih =>
    simp only [clr, List.map_cons, List.lookup_cons] at ih ⊢
    by_cases h : s = x
    · subst h; simp
    · rw [beq_eq_false_iff_ne.2 h]; simp only [List.mem_cons, h, false_or]; exact ih

/-- a new tree in slot d, made of new blocks and of trees that are taken from the slots S -/
theorem Inv.make {w0 w w' : World} {τ : St Phys} {a : Act} (h : Inv P n lent w0 τ a w) (hd : d < n) (S : List Nat) (hS : d ∉ S) {T : L} {v : Value} (hv : v = T.val)
    (hos : w'.os = w.os ∧ w'.tape = w.tape ∧ w'.output = w.output ∧ w.heap.size ≤ w'.heap.size)
    (hblk : ∀ b, b < w.heap.size → (∀ s ∈ S, b ∉ (τ s).foot) → w'.heap[b]? = w.heap[b]?)
    (hok : T.Ok P w') (hnd : T.foot.Nodup) (hfoot : ∀ b ∈ T.foot, b < w'.heap.size ∧ (w.heap.size ≤ b ∨ ∃ s ∈ S, b ∈ (τ s).foot))
    (hrd : ∀ b ∈ T.rdb, ∃ s, b ∈ (τ s).rdb) :
    Inv P n lent w0 (puts ((d, .own T, false) :: clr S) τ) (a.put (some d) v) w' := by
  subst hv
  have hsz : d < a.tmps.size := by rw [h.tsz]; exact hd
  have hl : ∀ u x k, ((d, .own T, false) :: clr S : Ws Phys).lookup u = some (x, k) → (u = d ∧ x = .own T ∧ k = false) ∨ (u ≠ d ∧ u ∈ S ∧ x = .undef ∧ k = false) := by
    intro u x k hu
    simp only [List.lookup_cons] at hu
    by_cases e1 : u = d
    · subst e1; simp at hu; exact .inl ⟨rfl, hu.1.symm, hu.2⟩
    · rw [beq_eq_false_iff_ne.2 e1] at hu
      simp only [clr_lookup] at hu
      split at hu
      · rename_i e2; simp at hu; exact .inr ⟨e1, e2, hu.1.symm, hu.2⟩
      · cases hu
  have hin : ∀ s ∈ S, ((d, .own T, false) :: clr S : Ws Phys).lookup s ≠ none := by
    intro s hs
    simp only [List.lookup_cons]
    cases s == d <;> simp [clr_lookup, hs]
  have hnf : ∀ b ∈ T.rdb, b ∉ T.foot := by
    intro b hb hf
    obtain ⟨s, hs⟩ := hrd b hb
    rcases (hfoot b hf).2 with h1 | ⟨s', _, h1⟩
    · have := h.rlt s b hs; omega
    · exact h.ros s s' b hs h1
  refine h.upd _ (by simp [Act.put, h.tsz]) (by simpa [Act.put] using h.dfr) ?_ ?_ ?_ hos ?_ ?_ ?_ ?_ ?_ ?_
  · intro u x k hu
    rcases hl u x k hu with ⟨rfl, rfl, _⟩ | ⟨hne, _, rfl, _⟩
    · rw [put_tmps hsz]; simp [Den]
    · trivial
  · intro u x hu; rcases hl u x true hu with ⟨_, _, e⟩ | ⟨_, _, _, e⟩ <;> cases e
  · intro u hu
    rw [put_tmps hsz, if_neg]
    rintro rfl; simp at hu
  · intro b hb hbs; exact hblk b hb fun s hs => hbs s (hin s hs)
  · intro u x k hu t1 ht1
    rcases hl u x k hu with ⟨rfl, rfl, _⟩ | ⟨hne, _, rfl, _⟩
    · simp [SV.trees] at ht1; subst ht1; exact hok
    · simp [SV.trees] at ht1
  · intro u x k hu
    rcases hl u x k hu with ⟨rfl, rfl, _⟩ | ⟨hne, _, rfl, _⟩
    · simpa [SV.foot, SV.trees] using hnd
    · simp [SV.foot, SV.trees]
  · intro u x k hu b hb
    rcases hl u x k hu with ⟨rfl, rfl, _⟩ | ⟨hne, _, rfl, _⟩
    · have hb' : b ∈ T.foot := by simpa [SV.foot, SV.trees] using hb
      obtain ⟨h1, h2⟩ := hfoot b hb'
      exact ⟨h2.elim .inr fun ⟨s, hs, hbs⟩ => .inl ⟨s, hin s hs, hbs⟩, h1⟩
    · simp [SV.foot, SV.trees] at hb
  · intro u x k u' x' k' hne hu hu' b hb hb'
    rcases hl u x k hu with ⟨rfl, rfl, _⟩ | ⟨_, _, rfl, _⟩
    · rcases hl u' x' k' hu' with ⟨rfl, rfl, _⟩ | ⟨_, _, rfl, _⟩
      · exact hne rfl
      · simp [SV.foot, SV.trees] at hb'
    · simp [SV.foot, SV.trees] at hb
  · intro u x k hu b hb
    rcases hl u x k hu with ⟨rfl, rfl, _⟩ | ⟨_, _, rfl, _⟩
    · have hb' : b ∈ T.rdb := by simpa [SV.rdb, SV.trees] using hb
      obtain ⟨s, hs⟩ := hrd b hb'
      refine ⟨Nat.lt_of_lt_of_le (h.rlt s b hs) hos.2.2.2, .inl ⟨s, hs⟩, ?_⟩
      intro s' v' k' hu' hbb
      rcases hl s' v' k' hu' with ⟨rfl, rfl, _⟩ | ⟨_, _, rfl, _⟩
      · exact hnf b hb' (by simpa [SV.foot, SV.trees] using hbb)
      · simp [SV.foot, SV.trees] at hbb
    · simp [SV.rdb, SV.trees] at hb

/-- what is taken at an operand -/
theorem tk_spec {w0 w : World} {τ : St Phys} {a : Act} (hi : Inv P n lent w0 τ a w) {e : TypeId} {x : Operand} {ox : Opd} (hx : opd e x = some ox) {t : D} {us : Ws Unit}
    (h : tk (view (St.erase τ) ox) = some (t, us)) :
    ∃ (tl : L) (S : List Nat), us = clr S ∧ tl.erase = t ∧ tl.val = a.eval x ∧ tl.Ok P w ∧ tl.foot.Nodup ∧ (∀ b ∈ tl.foot, ∃ s ∈ S, b ∈ (τ s).foot) ∧ ∀ b ∈ tl.rdb, ∃ s, b ∈ (τ s).rdb := by
  rcases view_cases (τ := τ) hx with ⟨s, rfl, rfl, hsv, hsl, htr⟩ | ⟨v, dd, rfl, rfl, hc⟩
  · have hev : a.eval (.tmp s) = a.tmps.getD s Go.undef := rfl
    have hden := hi.den s
    rw [hev]
    simp only [tk, hsv, hsl, htr] at h
    cases hs : τ s with
    | own tl =>
      rw [hs] at h hden
      have hok := hi.ok s tl (by simp [hs, SV.trees])
      have hrd : ∀ b ∈ tl.rdb, ∃ s, b ∈ (τ s).rdb := fun b hb => ⟨s, by simpa [hs, SV.rdb, SV.trees] using hb⟩
      simp only [SV.erase, plain_erase] at h
      cases hpl : tl.plain with
      | true =>
        rw [hpl] at h; simp only [tkOwn, Option.some.injEq, Prod.mk.injEq] at h
        exact ⟨tl, [], h.2.symm, h.1, hden.symm, hok, by rw [plain_foot hpl]; exact List.nodup_nil, by simp [plain_foot hpl], hrd⟩
      | false =>
        rw [hpl] at h; simp only [tkOwn, Option.some.injEq, Prod.mk.injEq] at h
        exact ⟨tl, [s], h.2.symm, h.1, hden.symm, hok, by simpa [hs, SV.foot, SV.trees] using hi.nod s, fun b hb => ⟨s, by simp, by simpa [hs, SV.foot, SV.trees] using hb⟩, hrd⟩
    | tup ts => rw [hs] at h; simp [SV.erase] at h
    | undef => rw [hs] at h; simp [SV.erase] at h
    | ptr r p i j => rw [hs] at h; simp [SV.erase] at h
    | ref r p =>
      rw [hs] at h hden
      cases p with
      | cons y p => simp [SV.erase] at h
      | nil =>
        obtain ⟨tl, c, e1, e2, e3, e4⟩ := hden
        simp only [Tr.look, Option.some.injEq] at e2; subst e2
        simp only [SV.erase, SV.root?, e1, tkRef, Option.some.injEq, Prod.mk.injEq] at h
        exact ⟨tl, [r, s], h.2.symm, h.1, e4.symm, hi.ok r tl (by simp [e1, SV.trees]), by simpa [e1, SV.foot, SV.trees] using hi.nod r,
          fun b hb => ⟨r, by simp, by simpa [e1, SV.foot, SV.trees] using hb⟩, fun b hb => ⟨r, by simpa [e1, SV.rdb, SV.trees] using hb⟩⟩
    | sub r p lo m =>
      rw [hs] at h hden
      cases p with
      | cons y p => simp [SV.erase] at h
      | nil =>
        obtain ⟨tl, ow, ee, q, cap, cs, a', e1, e2, e0, e3, e4, e5, e6⟩ := hden
        simp only [Tr.look, Option.some.injEq] at e2; subst e2
        simp only [SV.erase, SV.root?, e1, Tr.erase, Hd.erase] at h
        cases ow with
        | false => cases h
        | true =>
          simp only [tkSub, Option.some.injEq, Prod.mk.injEq] at h
          have hnod : (Tr.nd (.row true ee (q, cap)) cs).foot.Nodup := by simpa [e1, SV.foot, SV.trees] using hi.nod r
          obtain ⟨f1, f2, f3, f4⟩ := part_own_ok (hi.ok r _ (by simp [e1, SV.trees])) e3 e5 e6
          refine ⟨_, [r, s], h.2.symm, ?_, ?_, f1, f3 hnod, fun b hb => ⟨r, by simp, by simpa [e1, SV.foot, SV.trees] using f2 b hb⟩, fun b hb => ⟨r, by simpa [e1, SV.rdb, SV.trees] using f4 b hb⟩⟩
          · rw [← h.1]; simp [Tr.erase, Hd.erase, Tr.erases_map]
          · rw [e4]; simp only [Tr.val, Tr.cval, Tr.val0, Value.slice.injEq, true_and, and_true]; simp; omega
  · obtain ⟨tl, h1, h2, h3, h4, h5⟩ := constD_some (P := P) (w := w) hc
    have : t = dd ∧ us = [] := by
      simp only [tk, view] at h
      cases hpl : dd.plain <;> rw [hpl] at h <;> simp [tkOwn] at h <;> exact ⟨h.1.symm, h.2⟩
    obtain ⟨rfl, rfl⟩ := this
    exact ⟨tl, [], rfl, h1, h2, h3, by simp [h4], by simp [h4], by simp [h5]⟩

theorem keys_clr (S : List Nat) : keys (clr S : Ws Unit) = S := by simp [keys, clr, Function.comp_def]
theorem okKeys_spec {d : Nat} {us : Ws Unit} (h : okKeys d us = true) : d ∉ keys us ∧ (keys us).Nodup := by
  unfold okKeys at h
  simp only [Bool.and_eq_true, Bool.not_eq_true', List.contains_eq_mem, decide_eq_false_iff_not] at h
  refine ⟨h.1, ?_⟩
  have : ∀ l : List Nat, nodupB l = true → l.Nodup := by
    intro l
    induction l with
    | nil => simp
    | cons x l ih => intro hl; simp [nodupB] at hl; simp [hl.1, ih hl.2]
  exact this _ h.2
theorem fresh_some {p : Prop} {d : Nat} {sv : SV Unit} {us : Ws Unit} {E : Eff} (h : fresh p d sv us = some E) : d ∉ keys us ∧ (keys us).Nodup ∧ E = ⟨p, (d, sv, false) :: us⟩ := by
  unfold fresh at h
  cases hk : okKeys d us with
  | false => simp [hk] at h
  | true => simp [hk] at h; exact ⟨(okKeys_spec hk).1, (okKeys_spec hk).2, h.symm⟩

theorem val_cells {w : World} {t : L} (h : t.Ok P w) : t.val.cells.toList = t.cells.map Tr.cval := by
  obtain ⟨hd, cs⟩ := t
  cases hd <;> simp [Tr.val, Tr.cells, Value.cells, Tr.cval, Tr.val0]
  all_goals rfl

theorem alloc_heap_lt {w : World} {ob : Obj} {b : Nat} (h : b < w.heap.size) : (w.alloc ob).heap[b]? = w.heap[b]? := Go.RowKit.Below.heap_alloc w ob b h
theorem alloc_heap_new {w : World} {ob : Obj} : (w.alloc ob).heap[w.heap.size]? = some ob := by show (w.heap.push ob)[w.heap.size]? = _; simp
theorem alloc_size {w : World} {ob : Obj} : (w.alloc ob).heap.size = w.heap.size + 1 := by show (w.heap.push ob).size = _; simp

theorem run_newRow {w : World} {e : TypeId} {c : Array Value} : (newRow e c).run P w = .ok ⟨w.heap.size, 0, none⟩ (w.alloc (.cells c e)) := by
  unfold newRow newObj; rfl

theorem Tr.Ok.alloc {w : World} {t : L} (h : t.Ok P w) (hf : ∀ b, b ∈ t.foot ∨ b ∈ t.rdb → b < w.heap.size) (ob : Obj) : t.Ok P (w.alloc ob) :=
  h.move fun b hb => alloc_heap_lt (hf b hb)

/-- a new box -/
theorem box_ok {w : World} {e : TypeId} {c : Array Value} {t : L} (ht : t.Ok P w) (hf : ∀ b, b ∈ t.foot ∨ b ∈ t.rdb → b < w.heap.size) (hc : c.toList = t.cells.map Tr.cval) :
    (Tr.nd (.box e (some ⟨w.heap.size, 0, none⟩, 0)) [t]).Ok P (w.alloc (.cells c e)) := by
  refine ⟨⟨w.heap.size, c, t, rfl, rfl, alloc_heap_new, hc⟩, ht.alloc hf _, trivial⟩

theorem Inv.lt {w0 w : World} {τ : St Phys} {a : Act} (h : Inv P n lent w0 τ a w) {s b : Nat} (hb : b ∈ (τ s).foot ∨ b ∈ (τ s).rdb) : b < w.heap.size :=
  hb.elim (fun h1 => (h.fre s b h1).2) (h.rlt s b)

theorem snd_box (hd : o.dst = some d) (hn : d < n) {e e' : TypeId} {x : Operand} (ho : o.op = .box e x) {ox : Opd} (hx : opd e' x = some ox) :
    Snd P n lent o (fun σ => boxK d e (tk (view σ ox))) := by
  intro w0 τ a w E K Q hi he hp hk
  cases htk : tk (view (St.erase τ) ox) with
  | none => simp [htk, boxK] at he
  | some y =>
    obtain ⟨t, us⟩ := y
    simp only [htk, boxK] at he
    obtain ⟨h1, h2, rfl⟩ := fresh_some he
    obtain ⟨tl, S, rfl, e1, e2, e3, e4, e5, e6⟩ := tk_spec hi hx htk
    rw [keys_clr] at h1 h2
    have hlt : ∀ b, b ∈ tl.foot ∨ b ∈ tl.rdb → b < w.heap.size := fun b hb => hb.elim (fun h => by obtain ⟨s, _, hs⟩ := e5 b h; exact hi.lt (.inl hs)) (fun h => by obtain ⟨s, hs⟩ := e6 b h; exact hi.lt (.inr hs))
    have hrun : (execOp a.eval o).run P w = .ok (.value (.pointer (some ⟨w.heap.size, 0, none⟩))) (w.alloc (.cells (a.eval x).cells e)) := by
      unfold execOp; rw [ho]
      refine run_value ?_
      simp [Instr.box, newVar, run_newRow]
    refine wp_value hrun ?_
    rw [hd]
    refine hk _ _ _ ?_ (hi.make hn S h1 (T := .nd (.box e (some ⟨w.heap.size, 0, none⟩, 0)) [tl]) rfl ⟨rfl, rfl, rfl, by rw [alloc_size]; omega⟩ (fun b hb _ => alloc_heap_lt hb)
      (box_ok e3 hlt (by rw [← e2]; exact val_cells e3)) ?_ ?_ ?_)
    · rw [puts_erase, cons_erase, ← e1]; rfl
    · simp only [Tr.foot, Hd.own, Tr.foots, List.append_nil, List.singleton_append, List.nodup_cons]
      exact ⟨fun hb => by have := hlt _ (.inl hb); omega, e4⟩
    · intro b hb
      simp only [Tr.foot, Hd.own, Tr.foots, List.append_nil, List.singleton_append, List.mem_cons] at hb
      rw [alloc_size]
      rcases hb with rfl | hb
      · exact ⟨by omega, .inl (Nat.le_refl _)⟩
      · exact ⟨by have := hlt b (.inl hb); omega, .inr (e5 b hb)⟩
    · intro b hb
      simp only [Tr.rdb, Hd.rdb, Tr.rdbs, List.append_nil, List.nil_append] at hb
      exact e6 b hb

/-- a zero value as it is told -/
def zeroOk (P : Program) (e : TypeId) (z : D) : Prop := ∃ zl : L, zl.erase = z ∧ (P.info? e).bind (·.zero) = some zl.val ∧ zl.foot = [] ∧ zl.rdb = [] ∧ zl.cells.length = szOf P e ∧ ∀ w : World, zl.Ok P w

theorem run_zero {e : TypeId} {v : Value} {w : World} (h : (P.info? e).bind (·.zero) = some v) : (zeroValue e).run P w = .ok v w := by
  cases hi : P.info? e with
  | none => simp [hi] at h
  | some i =>
    simp [hi] at h
    simp [zeroValue, typeInfo, hi, h]

theorem snd_alloc (hd : o.dst = some d) (hn : d < n) {e : TypeId} (ho : o.op = .alloc e) {z : D} (hz : zeroOk P e z) :
    Snd P n lent o (fun σ => ret1 d (.own (.nd (.box e ()) [z]))) := by
  intro w0 τ a w E K Q hi he hp hk
  obtain ⟨zl, rfl, z1, z2, z3, _, z4⟩ := hz
  cases he
  have hrun : (execOp a.eval o).run P w = .ok (.value (.pointer (some ⟨w.heap.size, 0, none⟩))) (w.alloc (.cells zl.val.cells e)) := by
    unfold execOp; rw [ho]
    refine run_value ?_
    unfold Instr.alloc
    rw [run_bind (run_zero z1)]
    simp [newVar, run_newRow]
  refine wp_value hrun ?_
  rw [hd]
  have hm := hi.make hn [] (by simp) (T := .nd (.box e (some ⟨w.heap.size, 0, none⟩, 0)) [zl]) (v := .pointer (some ⟨w.heap.size, 0, none⟩)) (w' := w.alloc (.cells zl.val.cells e)) rfl ⟨rfl, rfl, rfl, by rw [alloc_size]; omega⟩ (fun b hb _ => alloc_heap_lt hb)
    (box_ok (z4 w) (by simp [z2, z3]) (val_cells (z4 w))) (by simp [Tr.foot, Hd.own, Tr.foots, z2]) (by intro b hb; simp [Tr.foot, Hd.own, Tr.foots, z2] at hb; rw [alloc_size]; omega) (by simp [Tr.rdb, Hd.rdb, Tr.rdbs, z3])
  exact hk _ _ _ (by rw [puts_erase]; rfl) hm
end Go.VC
end

section
set_option linter.unusedVariables false
set_option linter.unusedSimpArgs false
namespace Go.VC
variable {P : Program} {n : Nat} {lent : List Nat} {o : Oper} {d : Nat}

theorem fold_set (off : Nat) : ∀ (l : List Value) (k : Nat) (c : Array Value), off + k + l.length ≤ c.size →
    ((l.zipIdx k).foldl (fun cs (x : Value × Nat) => cs.setIfInBounds (off + x.2) x.1) c).toList = c.toList.take (off + k) ++ l ++ c.toList.drop (off + k + l.length)
  | [], k, c, h => by simp
  | x :: l, k, c, h => by
    simp only [List.zipIdx_cons, List.foldl_cons, List.length_cons] at h ⊢
    rw [fold_set off l (k + 1) _ (by simp; omega)]
    have hlt : off + k < c.toList.length := by simp; omega
    have e1 : (c.toList.set (off + k) x).take (off + k + 1) = c.toList.take (off + k) ++ [x] := by
      rw [List.set_eq_take_append_cons_drop, if_pos hlt, List.take_append, List.take_take]
      simp only [List.length_take, Nat.min_eq_left (Nat.le_of_lt hlt)]
      rw [Nat.min_eq_right (by omega), show off + k + 1 - (off + k) = 1 by omega]
      rfl
    have e2 : (c.toList.set (off + k) x).drop (off + (k + 1) + l.length) = c.toList.drop (off + k + (l.length + 1)) := by
      rw [List.drop_set_of_lt (by omega)]
      congr 1; omega
    simp only [Array.toList_setIfInBounds]
    rw [show off + (k + 1) = off + k + 1 by omega] at e2 ⊢
    rw [e1, e2]
    simp

theorem fill_some {place : Nat → Option (Nat × Nat)} {i off size : Nat} {v : Value} {rest : List (Nat × Value)} {c : Array Value} (hp : place i = some (off, size)) (hs : v.cells.size = size) (hl : off + size ≤ c.size) :
    ∃ c' : Array Value, Instr.fill place c ((i, v) :: rest) = Instr.fill place c' rest ∧ c'.toList = c.toList.take off ++ v.cells.toList ++ c.toList.drop (off + size) ∧ c'.size = c.size := by
  refine ⟨v.cells.zipIdx.foldl (fun cs (x : Value × Nat) => cs.setIfInBounds (off + x.2) x.1) c, ?_, ?_, ?_⟩
  · simp only [Instr.fill, hp]
    rw [if_neg (by simp [hs]; omega)]
  · rw [← Array.foldl_toList]
    have := fold_set off v.cells.toList 0 c (by simp [hs]; omega)
    simp only [Nat.add_zero, Array.length_toList, hs] at this
    rw [← this]
    simp
  · rw [← Array.length_toList, ← Array.foldl_toList]
    have := fold_set off v.cells.toList 0 c (by simp [hs]; omega)
    simp only [Nat.add_zero, Array.length_toList, hs] at this
    simp only [Array.toList_zipIdx]
    rw [this]
    simp [hs]; omega

theorem rangeMod (z : Array Value) (hz : 0 < z.size) (m : Nat) : ((Array.range (m * z.size)).map (fun i => z[i % z.size]!)).toList = (List.replicate m z.toList).flatten := by
  rw [Array.toList_map, Array.toList_range]
  induction m with
  | zero => simp
  | succ m ih =>
    rw [Nat.add_mul, Nat.one_mul, Nat.add_comm, List.range_add, List.map_append, List.replicate_succ, List.flatten_cons, ← ih]
    congr 1
    · refine List.ext_getElem (by simp) fun i h1 h2 => ?_
      simp at h1 h2
      simp [Nat.mod_eq_of_lt h1, h1]
    · rw [List.map_map]
      refine List.map_congr_left fun i _ => ?_
      simp

theorem vals_append (a b : List L) : vals (a ++ b) = vals a ++ vals b := by simp [vals]
theorem vals_set {cs : List L} {m : Nat} (hs : ∀ d ∈ cs, d.cells.length = m) {i : Nat} (hi : i < cs.length) (t : L) :
    vals (cs.set i t) = (vals cs).take (i * m) ++ t.cells.map Tr.cval ++ (vals cs).drop ((i + 1) * m) := by
  have hd : vals (cs.drop (i + 1)) = (vals cs).drop ((i + 1) * m) := vals_drop hs (i + 1)
  have ht : vals (cs.take i) = (vals cs).take (i * m) := by
    have h1 : vals cs = vals (cs.take i) ++ vals (cs.drop i) := by rw [← vals_append, List.take_append_drop]
    have h2 : (vals (cs.take i)).length = i * m := by
      rw [vals_length (fun d hd => hs d (List.take_subset _ _ hd)), List.length_take, Nat.min_eq_left (Nat.le_of_lt hi)]
    rw [h1, ← h2, List.take_left]
  rw [List.set_eq_take_append_cons_drop, if_pos hi, ← hd, ← ht]
  simp [vals]

/-- parts that are taken: as values -/
theorem tkAll_spec {w0 w : World} {τ : St Phys} {a : Act} (hi : Inv P n lent w0 τ a w) {xs : List (Nat × Nat × TypeId × Operand)} {ps : List (Nat × Nat × Opd)}
    (hx : xs.map (fun x => (opd x.2.2.1 x.2.2.2).map fun y => (x.1, x.2.1, y)) = ps.map some) {ts : List (Nat × D)} {us : Ws Unit}
    (h : tkAll (ps.map fun p => (p.1, p.2.1, view (St.erase τ) p.2.2)) = some (ts, us)) (hk : (keys us).Nodup) :
    ∃ (tl : List (Nat × L)) (S : List Nat), us = clr S ∧ tl.map (fun p => (p.1, p.2.erase)) = ts ∧ tl.map (fun p => (p.1, p.2.val)) = xs.map (fun x => (x.1, a.eval x.2.2.2)) ∧
      (∀ p ∈ tl, p.2.Ok P w ∧ ∀ b ∈ p.2.rdb, ∃ s, b ∈ (τ s).rdb) ∧ (∀ b ∈ tl.flatMap (fun p => p.2.foot), ∃ s ∈ S, b ∈ (τ s).foot) ∧ (tl.flatMap fun p => p.2.foot).Nodup ∧
      tl.map (fun p => p.2.cells.length) = xs.map (fun x => x.2.1) := by
  induction ps generalizing xs ts us with
  | nil =>
    simp at hx; subst hx
    simp [tkAll] at h
    obtain ⟨rfl, rfl⟩ := h
    exact ⟨[], [], rfl, rfl, rfl, by simp, by simp, by simp, rfl⟩
  | cons p ps ih =>
    cases xs with
    | nil => simp at hx
    | cons x xs =>
      simp only [List.map_cons, List.cons.injEq] at hx
      obtain ⟨hx1, hx2⟩ := hx
      cases ho : opd x.2.2.1 x.2.2.2 with
      | none => simp [ho] at hx1
      | some ox =>
        simp only [ho, Option.map_some, Option.some.injEq] at hx1
        subst hx1
        simp only [List.map_cons, tkAll] at h
        cases h1 : tk (view (St.erase τ) ox) with
        | none => simp [h1, tkCons] at h
        | some y =>
          obtain ⟨t, us1⟩ := y
          cases h2 : tkAll (ps.map fun p => (p.1, p.2.1, view (St.erase τ) p.2.2)) with
          | none => simp [h1, h2, tkCons] at h
          | some z =>
            obtain ⟨ts2, us2⟩ := z
            simp only [h1, h2, tkCons] at h
            cases hl : (t.cells.length == x.2.1) with
            | false => simp [hl] at h
            | true =>
              simp only [hl, cond_true, Option.some.injEq, Prod.mk.injEq] at h
              obtain ⟨rfl, rfl⟩ := h
              have hk' : (keys us1 ++ keys us2).Nodup := by simpa [keys] using hk
              obtain ⟨t1, S1, rfl, e1, e2, e3, e4, e5, e6⟩ := tk_spec hi ho h1
              obtain ⟨tl, S2, rfl, f1, f2, f3, f4, f5, f6⟩ := ih hx2 h2 (List.nodup_append.1 hk').2.1
              rw [keys_clr, keys_clr] at hk'
              refine ⟨(x.1, t1) :: tl, S1 ++ S2, by simp [clr], by simp [e1, f1], by simp [e2, f2], ?_, ?_, ?_, ?_⟩
              · intro p hp
                rcases List.mem_cons.1 hp with rfl | hp
                · exact ⟨e3, e6⟩
                · exact f3 p hp
              · intro b hb
                simp only [List.flatMap_cons, List.mem_append] at hb
                rcases hb with hb | hb
                · obtain ⟨s, hs, hbs⟩ := e5 b hb; exact ⟨s, by simp [hs], hbs⟩
                · obtain ⟨s, hs, hbs⟩ := f4 b hb; exact ⟨s, by simp [hs], hbs⟩
              · simp only [List.flatMap_cons]
                refine List.nodup_append.2 ⟨e4, f5, fun b hb c hc e => ?_⟩
                subst e
                obtain ⟨s, hs, hbs⟩ := e5 b hb
                obtain ⟨s', hs', hbs'⟩ := f4 b hc
                have hne : s ≠ s' := fun e => (List.nodup_append.1 hk').2.2 s hs s' hs' e
                exact hi.sep s s' hne b hbs hbs'
              · have : t1.cells.length = x.2.1 := by
                  have h3 : t.cells.length = x.2.1 := by simpa using hl
                  rw [← h3, ← e1, cells_erase, List.length_map]
                simp [this, f6]

theorem fillRow_erase : ∀ (tl : List (Nat × L)) (z : List L), (fillRow z tl).map Tr.erase = fillRow (z.map Tr.erase) (tl.map fun p => (p.1, p.2.erase))
  | [], z => rfl
  | (i, t) :: tl, z => by simp only [fillRow, List.map_cons]; rw [fillRow_erase tl, List.map_set]
theorem fillAgg_erase : ∀ (tl : List (Nat × L)) (z : List L), (fillAgg z tl).map Tr.erase = fillAgg (z.map Tr.erase) (tl.map fun p => (p.1, p.2.erase))
  | [], z => rfl
  | (i, t) :: tl, z => by
    simp only [fillAgg, List.map_cons]
    rw [fillAgg_erase tl]
    congr 1
    simp [putAt, cells_erase, List.map_take, List.map_drop]
theorem fillRow_mem : ∀ (tl : List (Nat × L)) (z : List L) (t : L), t ∈ fillRow z tl → t ∈ z ∨ ∃ p ∈ tl, t = p.2
  | [], z, t, h => .inl h
  | (i, u) :: tl, z, t, h => by
    simp only [fillRow] at h
    rcases fillRow_mem tl _ t h with h | ⟨p, hp, rfl⟩
    · rcases List.mem_or_eq_of_mem_set h with h | rfl
      · exact .inl h
      · exact .inr ⟨(i, t), by simp, rfl⟩
    · exact .inr ⟨p, by simp [hp], rfl⟩
theorem fillRow_length : ∀ (tl : List (Nat × L)) (z : List L), (fillRow z tl).length = z.length
  | [], z => rfl
  | (i, u) :: tl, z => by simp [fillRow, fillRow_length tl]
theorem perm_set {z : List (List Nat)} {i : Nat} {t : List Nat} (h : z[i]? = some []) : (z.set i t).flatten.Perm (t ++ z.flatten) := by
  induction z generalizing i with
  | nil => simp at h
  | cons x z ih =>
    cases i with
    | zero => simp at h; subst h; simp
    | succ i =>
      simp only [List.getElem?_cons_succ] at h
      simp only [List.set_cons_succ, List.flatten_cons]
      exact ((List.Perm.refl x).append (ih h)).trans (by rw [← List.append_assoc, ← List.append_assoc]; exact (List.perm_append_comm).append_right _)

/-- the blocks of a filled row are those of its parts -/
theorem fillRow_foot : ∀ (tl : List (Nat × L)) (z : List L), (tl.map (·.1)).Nodup → (∀ p ∈ tl, ∃ u, z[p.1]? = some u ∧ u.foot = []) → ((fillRow z tl).flatMap Tr.foot).Perm (tl.flatMap (fun p => p.2.foot) ++ z.flatMap Tr.foot)
  | [], z, _, _ => by simp [fillRow]
  | (i, t) :: tl, z, hn, h => by
    simp only [List.map_cons, List.nodup_cons] at hn
    obtain ⟨u, hu, hf⟩ := h (i, t) (by simp)
    have h2 : ∀ p ∈ tl, ∃ u, (z.set i t)[p.1]? = some u ∧ u.foot = [] := by
      intro p hp
      obtain ⟨u, hu, hf⟩ := h p (by simp [hp])
      refine ⟨u, ?_, hf⟩
      rw [List.getElem?_set_ne, hu]
      intro e; apply hn.1; rw [e]; exact List.mem_map.2 ⟨p, hp, rfl⟩
    have := fillRow_foot tl (z.set i t) hn.2 h2
    simp only [fillRow, List.flatMap_cons]
    refine this.trans ?_
    have h3 : ((z.set i t).flatMap Tr.foot).Perm (t.foot ++ z.flatMap Tr.foot) := by
      rw [List.flatMap_def, List.flatMap_def, List.map_set]
      exact perm_set (by rw [List.getElem?_map, hu]; simp [hf])
    refine ((List.Perm.refl _).append h3).trans ?_
    rw [← List.append_assoc]
    exact (List.perm_append_comm).append_right _

/-- what 'fill' leaves, for a row's parts -/
theorem fill_row {m : Nat} : ∀ (tl : List (Nat × L)) (es : List L) (c : Array Value), (∀ t ∈ es, t.cells.length = m) → c.toList = vals es →
    (∀ p ∈ tl, p.1 < es.length ∧ p.2.cells.length = m ∧ p.2.val.cells.toList = p.2.cells.map Tr.cval) →
    ∃ c', Instr.fill (fun i => some (i * m, m)) c (tl.map fun p => (p.1, p.2.val)) = some c' ∧ c'.toList = vals (fillRow es tl)
  | [], es, c, _, hc, _ => ⟨c, rfl, hc⟩
  | (i, t) :: tl, es, c, hes, hc, h => by
    obtain ⟨h1, h2, h3⟩ := h (i, t) (by simp)
    simp only at h1 h2 h3
    have hsz : c.size = es.length * m := by rw [← Array.length_toList, hc, vals_length hes]
    have hle : i * m + m ≤ c.size := by
      rw [hsz, show i * m + m = (i + 1) * m by rw [Nat.add_mul, Nat.one_mul]]
      exact Nat.mul_le_mul_right _ h1
    have hvs : t.val.cells.size = m := by rw [← Array.length_toList, h3, List.length_map, h2]
    obtain ⟨c', g1, g2, g3⟩ := fill_some (place := fun i => some (i * m, m)) (i := i) (v := t.val) (rest := tl.map fun p => (p.1, p.2.val)) rfl hvs hle
    obtain ⟨c2, k1, k2⟩ := fill_row tl (es.set i t) c' (by
      intro u hu
      rcases List.mem_or_eq_of_mem_set hu with hu | rfl
      · exact hes u hu
      · exact h2) (by rw [g2, hc, h3, vals_set hes h1, Nat.add_mul, Nat.one_mul]) (fun p hp => by
        have := h p (by simp [hp]); simpa using this)
    exact ⟨c2, by rw [List.map_cons, g1, k1], by simpa [fillRow] using k2⟩

theorem row_foot {o : Bool} {e : TypeId} {x : Phys} {cs : List L} : (Tr.nd (.row o e x) cs).foot = Hd.own (.row o e x) ++ cs.flatMap Tr.foot := by simp [Tr.foot, Tr.foots_eq]
theorem own_rdb {e : TypeId} {x : Phys} {cs : List L} : (Tr.nd (.row true e x) cs).rdb = cs.flatMap Tr.rdb := by
  obtain ⟨a, b⟩ := x
  cases a <;> cases cs <;> simp [Tr.rdb, Tr.rdbs_eq, Hd.rdb]

/-- a new row of the call's own -/
theorem newrow_ok {w : World} {e : TypeId} {c : Array Value} {es : List L} {cap : Nat} (hes : ∀ t ∈ es, t.Ok P w ∧ ∀ b, b ∈ t.foot ∨ b ∈ t.rdb → b < w.heap.size) (hl : es.length ≤ cap) (hm : cap ≤ maxL)
    (hsz : ∀ t ∈ es, t.cells.length = szOf P e) (hc : cap * szOf P e ≤ c.size) (hv : ∀ (i : Nat) (v : Value), (vals es)[i]? = some v → c[i]? = some v) :
    (Tr.nd (.row true e (some ⟨w.heap.size, 0, none⟩, cap)) es).Ok P (w.alloc (.cells c e)) := by
  simp only [Tr.Ok, Tr.Oks_iff]
  refine ⟨⟨hl, hm, hsz, rfl, c, alloc_heap_new, by simpa using hc, fun i v hi => by simpa using hv i v hi⟩, fun t ht => (hes t ht).1.alloc (hes t ht).2 _⟩

theorem szOf_info {e : TypeId} (hz : szOf P e ≠ 0) : ∃ i, P.info? e = some i ∧ i.size = szOf P e := by
  unfold szOf at *
  cases h : P.info? e with
  | none => simp [h] at hz
  | some i => exact ⟨i, rfl, by simp⟩
theorem run_sizeOf {e : TypeId} {w : World} (hz : szOf P e ≠ 0) : (sizeOf e).run P w = .ok (szOf P e) w := by
  obtain ⟨i, h1, h2⟩ := szOf_info hz
  simp [sizeOf, typeInfo, h1, h2]

theorem snd_bsl (hd : o.dst = some d) (hn : d < n) {st e : TypeId} {len : Nat} {parts : Array (Nat × Operand)} (ho : o.op = .buildSlice st len parts) (hst : P.underlying st = some (.slice e)) {z : D} (hz : zeroOk P e z) (hsz : szOf P e ≠ 0) (hle : len * szOf P e ≤ 2 ^ 24)
    {xs : List (Nat × Nat × TypeId × Operand)} {ps : List (Nat × Nat × Opd)} (hx : xs.map (fun x => (opd x.2.2.1 x.2.2.2).map fun y => (x.1, x.2.1, y)) = ps.map some)
    (hpx : parts.toList = xs.map fun x => (x.1, x.2.2.2)) (hxs : ∀ x ∈ xs, x.1 < len ∧ x.2.1 = szOf P e) (hnx : (xs.map (·.1)).Nodup) :
    Snd P n lent o (fun σ => bslK d e z len (tkAll (ps.map fun p => (p.1, p.2.1, view σ p.2.2)))) := by
  intro w0 τ a w E K Q hi he hp hk
  cases htk : tkAll (ps.map fun p => (p.1, p.2.1, view (St.erase τ) p.2.2)) with
  | none => simp [htk, bslK] at he
  | some y =>
    obtain ⟨ts, us⟩ := y
    simp only [htk, bslK] at he
    obtain ⟨h1, h2, rfl⟩ := fresh_some he
    obtain ⟨tl, S, rfl, e1, e2, e3, e4, e5, e6⟩ := tkAll_spec hi hx htk h2
    rw [keys_clr] at h1 h2
    obtain ⟨zl, rfl, z1, z2, z3, z5, z4⟩ := hz
    have hparts : parts.map (fun (i, x) => (i, a.eval x)) = (tl.map fun p => (p.1, p.2.val)).toArray := by
      apply Array.toList_inj.1
      rw [Array.toList_map, hpx, e2, List.map_map]
      rfl
    have htl : ∀ p ∈ tl, p.1 < len ∧ p.2.cells.length = szOf P e := by
      intro p hp
      have m1 : (p.1, p.2.val) ∈ xs.map fun x => (x.1, a.eval x.2.2.2) := e2 ▸ List.mem_map.2 ⟨p, hp, rfl⟩
      have m2 : p.2.cells.length ∈ xs.map fun x => x.2.1 := e6 ▸ List.mem_map.2 ⟨p, hp, rfl⟩
      obtain ⟨x, hx1, hx2⟩ := List.mem_map.1 m1
      obtain ⟨x', hx1', hx2'⟩ := List.mem_map.1 m2
      simp only [Prod.mk.injEq] at hx2
      exact ⟨hx2.1 ▸ (hxs x hx1).1, hx2' ▸ (hxs x' hx1').2⟩
    have hzc : zl.val.cells.size = szOf P e := by rw [← Array.length_toList, val_cells (z4 w), List.length_map, z5]
    -- the row's first cells
    let es0 : List L := List.replicate len zl
    have hes0 : ∀ t ∈ es0, t.cells.length = szOf P e := fun t ht => by rw [List.eq_of_mem_replicate ht]; exact z5
    have hv0 : ∀ zc : Array Value, (0 < len → zc = zl.val.cells) → ((Array.range (len * szOf P e)).map (fun i => zc[i % zc.size]!)).toList = vals es0 := by
      intro zc hzz
      by_cases h0 : len = 0
      · subst h0; simp [es0, vals]
      · rw [hzz (by omega), ← hzc, rangeMod _ (by omega)]
        simp only [vals, es0, List.flatMap_def, List.map_replicate, val_cells (z4 w)]
    have hfill : ∀ zc : Array Value, (0 < len → zc = zl.val.cells) → ∃ c', Instr.fill (fun i => some (i * szOf P e, szOf P e)) ((Array.range (len * szOf P e)).map (fun i => zc[i % zc.size]!)) (tl.map fun p => (p.1, p.2.val)) = some c' ∧ c'.toList = vals (fillRow es0 tl) := by
      intro zc hzz
      exact fill_row tl es0 _ hes0 (hv0 zc hzz) fun p hp => ⟨by simpa [es0] using (htl p hp).1, (htl p hp).2, val_cells (e3 p hp).1⟩
    have hlen : (fillRow es0 tl).length = len := by rw [fillRow_length]; simp [es0]
    have hesz : ∀ t ∈ fillRow es0 tl, t.cells.length = szOf P e := by
      intro t ht
      rcases fillRow_mem tl es0 t ht with h | ⟨p, hp, rfl⟩
      · exact hes0 t h
      · exact (htl p hp).2
    obtain ⟨c', hc1, hc2⟩ : ∃ c' : Array Value, (Instr.buildSlice st len (tl.map fun p => (p.1, p.2.val)).toArray).run P w = .ok (.slice (some ⟨w.heap.size, 0, none⟩) len len) (w.alloc (.cells c' e)) ∧ c'.toList = vals (fillRow es0 tl) := by
      unfold Instr.buildSlice
      rw [run_bind (run_underlying' hst)]
      simp only
      rw [run_bind (run_sizeOf hsz)]
      rw [if_neg (by omega)]
      by_cases h0 : len = 0
      · obtain ⟨c', g1, g2⟩ := hfill #[] (fun h => by omega)
        refine ⟨c', ?_, g2⟩
        subst h0
        simp at g1
        simp [g1, run_newRow]
      · obtain ⟨c', g1, g2⟩ := hfill zl.val.cells (fun _ => rfl)
        refine ⟨c', ?_, g2⟩
        have hne : ¬ len * szOf P e = 0 := Nat.mul_ne_zero h0 hsz
        have rz : (zeroValue e).run P w = .ok zl.val w := run_zero z1
        clear hk he hfill
        rw [if_neg hne]
        simp only [rz, g1, run_newRow, Sem.run_bind, Sem.run_pure, Result.andThen, bind_assoc, pure_bind]

    have hrun : (execOp a.eval o).run P w = .ok (.value (.slice (some ⟨w.heap.size, 0, none⟩) len len)) (w.alloc (.cells c' e)) := by
      unfold execOp; rw [ho]
      refine run_value ?_
      simp only [hparts]
      exact hc1
    refine wp_value hrun ?_
    rw [hd]
    have hmem : ∀ t ∈ fillRow es0 tl, t.Ok P w ∧ (∀ b ∈ t.rdb, ∃ s, b ∈ (τ s).rdb) := by
      intro t ht
      rcases fillRow_mem tl es0 t ht with h | ⟨p, hp, rfl⟩
      · rw [List.eq_of_mem_replicate h]; exact ⟨z4 w, by simp [z3]⟩
      · exact e3 p hp
    have hperm := fillRow_foot tl es0 (by
      have : tl.map (·.1) = xs.map (·.1) := by
        have := congrArg (List.map (·.1)) e2; simpa [Function.comp_def] using this
      rw [this]; exact hnx) (fun p hp => ⟨zl, by simp [es0, (htl p hp).1], z2⟩)
    have hz0 : es0.flatMap Tr.foot = [] := by
      simp only [List.flatMap_eq_nil_iff]; intro t ht; rw [List.eq_of_mem_replicate ht]; exact z2
    rw [hz0, List.append_nil] at hperm
    have hfm : ∀ b, b ∈ (fillRow es0 tl).flatMap Tr.foot → ∃ s ∈ S, b ∈ (τ s).foot := fun b hb => e4 b (hperm.subset hb)
    have hlt : ∀ t ∈ fillRow es0 tl, ∀ b, b ∈ t.foot ∨ b ∈ t.rdb → b < w.heap.size := by
      intro t ht b hb
      rcases hb with hb | hb
      · obtain ⟨s, _, hs⟩ := hfm b (List.mem_flatMap.2 ⟨t, ht, hb⟩); exact hi.lt (.inl hs)
      · obtain ⟨s, hs⟩ := (hmem t ht).2 b hb; exact hi.lt (.inr hs)
    have hcs : c'.size = len * szOf P e := by rw [← Array.length_toList, hc2, vals_length hesz, hlen]
    refine hk _ _ _ ?_ (hi.make hn S h1 (T := .nd (.row true e (some ⟨w.heap.size, 0, none⟩, len)) (fillRow es0 tl)) (by simp [Tr.val, Tr.cval, Tr.val0, hlen]) ⟨rfl, rfl, rfl, by rw [alloc_size]; omega⟩ (fun b hb _ => alloc_heap_lt hb)
      (newrow_ok (fun t ht => ⟨(hmem t ht).1, hlt t ht⟩) (by omega) (by
        have h3 : len ≤ len * szOf P e := Nat.le_mul_of_pos_right _ (by omega)
        show len ≤ 9223372036854775807
        omega) hesz (by omega) (fun i v hi' => by rw [← hc2] at hi'; simpa using hi')) ?_ ?_ ?_)
    · rw [puts_erase]
      rw [cons_erase]
      simp only [Tr.erase, Tr.erases_map, Hd.erase, fillRow_erase, e1]
      have q1 : es0.map Tr.erase = List.replicate len zl.erase := List.map_replicate
      rw [q1]
    · rw [row_foot]
      simp only [Hd.own, List.singleton_append, List.nodup_cons]
      refine ⟨fun hb => ?_, hperm.nodup_iff.2 e5⟩
      obtain ⟨s, _, hs⟩ := hfm _ hb
      have := hi.lt (.inl hs); omega
    · intro b hb
      rw [row_foot] at hb
      simp only [Hd.own, List.singleton_append, List.mem_cons] at hb
      rw [alloc_size]
      rcases hb with rfl | hb
      · exact ⟨by omega, .inl (Nat.le_refl _)⟩
      · obtain ⟨s, hs, hbs⟩ := hfm b hb
        exact ⟨by have := hi.lt (.inl hbs); omega, .inr ⟨s, hs, hbs⟩⟩
    · intro b hb
      rw [own_rdb] at hb
      obtain ⟨t, ht, hb⟩ := List.mem_flatMap.1 hb
      exact (hmem t ht).2 b hb
end Go.VC
end
