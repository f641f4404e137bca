/- The abstract machine of this claim: what a step of a program comes to where rows are lists, with its proofs; part 0. -/
import Derived.Orders
import Derived.Laws.Rows
import Derived.KernelRfl
import Derived.Laws.AppendOwn
import Derived.Calls
import Derived.Laws.Cells
import Derived.Laws.Append
import Derived.Laws.CopyRow
namespace Go.Proofs.YtnceiegngfpmkaaAm
set_option linter.unusedVariables false

/-- A tree whose nodes bear data and a list of trees. -/
inductive Rose (α : Type) where
  | node (x : α) (ks : List (Rose α))
def Rose.val {α : Type} : Rose α → α | .node x _ => x
def Rose.kids {α : Type} : Rose α → List (Rose α) | .node _ ks => ks

inductive Ty where
  | int (k : IntKind) | bool | str | sl (a : Ty) | unit | pair (a b : Ty) | rose (a : Ty)
  deriving DecidableEq
def Ty.size : Ty → Nat
  | .unit => 0
  | .pair a b => a.size + b.size
  | .rose a => a.size + 1
  | .int _ => 1 | .bool => 1 | .str => 1 | .sl _ => 1
@[reducible] def Interp : Ty → Type
  | .int _ => Int
  | .bool => Bool
  | .str => ByteArray
  | .sl a => List (Interp a)
  | .unit => Unit
  | .pair a b => Interp a × Interp b
  | .rose a => Rose (Interp a)
def dflt : (τ : Ty) → Interp τ
  | .int _ => (0 : Int)
  | .bool => false
  | .str => ByteArray.empty
  | .sl _ => []
  | .unit => ()
  | .pair a b => (dflt a, dflt b)
  | .rose a => .node (dflt a) []

/-- Who may write a row: nobody any more (sh), the holder of it and of all below (full), or of it alone and below as told. -/
inductive Mode where
  | sh | full | own (n : Mode)
  deriving DecidableEq
def Mode.next : Mode → Mode
  | .sh => .sh
  | .full => .full
  | .own n => n
def Mode.isOwn : Mode → Bool
  | .sh => false
  | _ => true
/-- A row of the first mode may stand where one of the second is asked for. -/
def Mode.covers : Mode → Mode → Bool
  | _, .sh => true
  | .full, _ => true
  | .own a, .own b => a.covers b
  | .own _, .full => false
  | .sh, .full => false
  | .sh, .own _ => false
theorem Mode.covers_refl (m : Mode) : m.covers m = true := by induction m <;> simp_all [Mode.covers]
theorem Mode.covers_next {a b : Mode} (h : a.covers b = true) : a.next.covers b.next = true := by
  cases a <;> cases b <;> simp_all [Mode.covers, Mode.next]
  all_goals (rename_i n; cases n <;> simp [Mode.covers])
theorem Mode.covers_own {a b : Mode} (h : a.covers b = true) (hb : b.isOwn = true) : a.isOwn = true := by
  cases a <;> cases b <;> simp_all [Mode.covers, Mode.isOwn]
theorem Mode.next_own {a : Mode} (h : a.next.isOwn = true) : a.isOwn = true := by cases a <;> simp_all [Mode.next, Mode.isOwn]

/-- A cell's place: a root's cell, or a cell of an element of the row that lies at a place. -/
inductive Pl where
  | cell (r o : Nat)
  | sub (q : Pl) (i o : Nat)
  deriving DecidableEq

/-- What a temporary's cell holds: a value without an address; the row that lies at a place, or a part of it; nil; the address of a place; a function with the addresses of variables. -/
inductive AC where
  | lit (v : Value)
  | sl (q : Pl) (pt : Option (Nat × Nat))
  | nil (a : Ty)
  | ptr (q : Pl)
  | clo (f : FuncId) (caps : List (Nat × Nat))
  | dead
/-- What a cell of memory holds. -/
inductive Cell where
  | v (x : Value)
  | rows (m : Mode) (τ : Ty) (l : List (Interp τ))
  | ref (c : AC)
  | dead

def castL {a b : Ty} (h : a = b) (l : List (Interp a)) : List (Interp b) := h ▸ l
@[simp] theorem castL_rfl {a : Ty} (h : a = a) (l : List (Interp a)) : castL h l = l := rfl

def toCells (m : Mode) : (τ : Ty) → Interp τ → List Cell
  | .int k, n => [.v (.int k n)]
  | .bool, b => [.v (.bool b)]
  | .str, s => [.v (.string s)]
  | .sl a, l => [.rows m a l]
  | .unit, _ => []
  | .pair a b, x => toCells m a x.1 ++ toCells m b x.2
  | .rose a, t => toCells m a t.val ++ [.rows m (.rose a) t.kids]
def oneRow (m : Mode) (a : Ty) : List Cell → Option (List (Interp a))
  | [.rows m' a' l] => if h : a' = a then (if m'.covers m then some (castL h l) else none) else none
  | _ => none
def oneInt (k : IntKind) : List Cell → Option Int
  | [.v (.int k' n)] => if k' = k then some n else none
  | _ => none
def oneBool : List Cell → Option Bool
  | [.v (.bool b)] => some b
  | _ => none
def oneStr : List Cell → Option ByteArray
  | [.v (.string s)] => some s
  | _ => none
def noCell : List Cell → Option Unit
  | [] => some ()
  | _ => none
def ofCells (m : Mode) : (τ : Ty) → List Cell → Option (Interp τ)
  | .int k, cs => oneInt k cs
  | .bool, cs => oneBool cs
  | .str, cs => oneStr cs
  | .sl a, cs => oneRow m a cs
  | .unit, cs => noCell cs
  | .pair a b, cs => (ofCells m a (cs.take a.size)).bind fun x => (ofCells m b (cs.drop a.size)).bind fun y => some (x, y)
  | .rose a, cs => (ofCells m a (cs.take a.size)).bind fun x => (oneRow m (.rose a) (cs.drop a.size)).bind fun ks => some (.node x ks)
def ptLo : Option (Nat × Nat) → Nat
  | none => 0
  | some x => x.1
def ptLen : Option (Nat × Nat) → Nat → Nat
  | none, n => n
  | some x, _ => x.2
def cutL {α : Type} : Option (Nat × Nat) → List α → List α
  | none, l => l
  | some x, l => (l.drop x.1).take x.2
theorem cutL_eq {α : Type} (pt : Option (Nat × Nat)) (l : List α) : cutL pt l = (l.drop (ptLo pt)).take (ptLen pt l.length) := by
  cases pt <;> simp [cutL, ptLo, ptLen]
def Cell.reMode (m : Mode) : Cell → Cell
  | .rows _ τ l => .rows m τ l
  | c => c
def Cell.fits (m : Mode) : Cell → Bool
  | .rows m' _ _ => m'.covers m
  | .v _ => true
  | _ => false

theorem toCells_length (m : Mode) : ∀ (τ : Ty) (x : Interp τ), (toCells m τ x).length = τ.size
  | .int _, _ | .bool, _ | .str, _ | .sl _, _ | .unit, _ => by simp [toCells, Ty.size]
  | .pair a b, x => by simp [toCells, Ty.size, toCells_length m a, toCells_length m b]
  | .rose a, t => by simp [toCells, Ty.size, toCells_length m a]
theorem toCells_reMode (m m' : Mode) : ∀ (τ : Ty) (x : Interp τ), (toCells m τ x).map (Cell.reMode m') = toCells m' τ x
  | .int _, _ | .bool, _ | .str, _ | .sl _, _ | .unit, _ => by simp [toCells, Cell.reMode]
  | .pair a b, x => by simp [toCells, toCells_reMode m m' a, toCells_reMode m m' b]
  | .rose a, t => by simp [toCells, toCells_reMode m m' a, Cell.reMode]
theorem oneRow_spec {m : Mode} {a : Ty} {cs : List Cell} {l : List (Interp a)} (h : oneRow m a cs = some l) : ∃ m', cs = [.rows m' a l] ∧ m'.covers m = true := by
  unfold oneRow at h
  split at h
  · rename_i m' a' l'
    split at h
    · rename_i ha
      subst ha
      split at h
      · rename_i hm; cases h; exact ⟨m', rfl, hm⟩
      · cases h
    · cases h
  · cases h
theorem oneInt_spec {k : IntKind} {cs : List Cell} {n : Int} (h : oneInt k cs = some n) : cs = [.v (.int k n)] := by
  unfold oneInt at h
  split at h
  · split at h
    · rename_i hk; subst hk; cases h; rfl
    · cases h
  · cases h
theorem oneBool_spec {cs : List Cell} {n : Bool} (h : oneBool cs = some n) : cs = [.v (.bool n)] := by
  unfold oneBool at h; split at h <;> cases h; rfl
theorem oneStr_spec {cs : List Cell} {n : ByteArray} (h : oneStr cs = some n) : cs = [.v (.string n)] := by
  unfold oneStr at h; split at h <;> cases h; rfl
theorem noCell_spec {cs : List Cell} {n : Unit} (h : noCell cs = some n) : cs = [] := by
  unfold noCell at h; split at h <;> cases h; rfl
theorem ofCells_spec (m : Mode) : ∀ (τ : Ty) (cs : List Cell) (x : Interp τ), ofCells m τ cs = some x →
    cs.length = τ.size ∧ toCells m τ x = cs.map (Cell.reMode m) ∧ ∀ c ∈ cs, c.fits m = true := by
  intro τ
  induction τ with
  | int k => intro cs x h; rw [oneInt_spec h]; simp [toCells, Ty.size, Cell.reMode, Cell.fits]
  | bool => intro cs x h; rw [oneBool_spec h]; simp [toCells, Ty.size, Cell.reMode, Cell.fits]
  | str => intro cs x h; rw [oneStr_spec h]; simp [toCells, Ty.size, Cell.reMode, Cell.fits]
  | unit => intro cs x h; rw [noCell_spec h]; simp [toCells, Ty.size]
  | sl a ih =>
    intro cs x h
    obtain ⟨m', rfl, hm⟩ := oneRow_spec h
    simp [toCells, Ty.size, Cell.reMode, Cell.fits, hm]
  | pair a b iha ihb =>
    intro cs x h
    simp only [ofCells, Option.bind_eq_some_iff] at h
    obtain ⟨y, hy, z, hz, hx⟩ := h
    obtain ⟨h1, h2, h3⟩ := iha _ _ hy
    obtain ⟨g1, g2, g3⟩ := ihb _ _ hz
    cases hx
    simp only [List.length_take, List.length_drop] at h1 g1
    refine ⟨by simp only [Ty.size]; omega, ?_, fun c hc => ?_⟩
    · simp only [toCells]
      rw [h2, g2, ← List.map_append, List.take_append_drop]
    · rw [← List.take_append_drop a.size cs] at hc
      rcases List.mem_append.1 hc with hc | hc
      · exact h3 _ hc
      · exact g3 _ hc
  | rose a iha =>
    intro cs x h
    simp only [ofCells, Option.bind_eq_some_iff] at h
    obtain ⟨y, hy, ks, hk, hx⟩ := h
    obtain ⟨h1, h2, h3⟩ := iha _ _ hy
    obtain ⟨m', heq, hm⟩ := oneRow_spec hk
    cases hx
    have hl : (cs.drop a.size).length = 1 := by rw [heq]; rfl
    simp only [List.length_take, List.length_drop] at h1 hl
    refine ⟨by simp only [Ty.size]; omega, ?_, fun c hc => ?_⟩
    · simp only [toCells, Rose.val, Rose.kids]
      rw [h2]
      conv => rhs; rw [← List.take_append_drop a.size cs, heq]
      simp [Cell.reMode]
    · rw [← List.take_append_drop a.size cs, heq] at hc
      rcases List.mem_append.1 hc with hc | hc
      · exact h3 _ hc
      · simp only [List.mem_singleton] at hc; subst hc; exact hm
theorem ofCells_toCells (m : Mode) : ∀ (τ : Ty) (x : Interp τ), ofCells m τ (toCells m τ x) = some x := by
  intro τ
  induction τ with
  | int k => intro x; simp [toCells, ofCells, oneInt]
  | bool => intro x; simp [toCells, ofCells, oneBool]
  | str => intro x; simp [toCells, ofCells, oneStr]
  | unit => intro x; simp [toCells, ofCells, noCell]
  | sl a ih => intro x; simp [toCells, ofCells, oneRow, Mode.covers_refl]
  | pair a b iha ihb =>
    intro x
    have ha : (toCells m a x.1).length = a.size := toCells_length m a x.1
    simp only [toCells, ofCells]
    rw [← ha, List.take_left, List.drop_left, iha, ihb]
    rfl
  | rose a iha =>
    intro t
    have ha : (toCells m a t.val).length = a.size := toCells_length m a t.val
    simp only [toCells, ofCells]
    rw [← ha, List.take_left, List.drop_left, iha]
    cases t
    simp [oneRow, Mode.covers_refl, Rose.val, Rose.kids]
end Go.Proofs.YtnceiegngfpmkaaAm
namespace Go.Proofs.YtnceiegngfpmkaaAm
set_option linter.unusedVariables false

/-- A root: a variable of memory (mem), or cells that lie in a temporary. -/
structure Root where
  mem : Bool
  cs : List Cell
abbrev Forest := List (Nat × Option Root)
def Forest.get : Forest → Nat → Option Root
  | [], _ => none
  | (k, R) :: F, r => if r = k then R else Forest.get F r
def Forest.put (F : Forest) (r : Nat) (R : Option Root) : Forest := (r, R) :: F
@[simp] theorem Forest.get_put (F : Forest) (r r' : Nat) (R : Option Root) : (F.put r R).get r' = if r' = r then R else F.get r' := rfl

def Cell.len : Cell → Nat
  | .rows _ _ l => l.length
  | _ => 0
def Cell.sz : Cell → Nat
  | .rows _ τ _ => τ.size
  | _ => 0
def Cell.mode : Cell → Mode
  | .rows m _ _ => m
  | _ => .sh
def Cell.sub : Cell → Nat → Nat → Option Cell
  | .rows m τ l, i, o => (toCells m.next τ (l.getD i (dflt τ)))[o]?
  | _, _, _ => none
def Cell.setSub : Cell → Nat → Nat → Cell → Option Cell
  | .rows m τ l, i, o, c => (ofCells m.next τ ((toCells m.next τ (l.getD i (dflt τ))).set o c)).bind fun x => some (.rows m τ (l.set i x))
  | _, _, _, _ => none

/-- The same but for what lies inside. -/
def Like (c c2 : Cell) : Prop := c2 = c ∨ ∃ m τ l l2, c = .rows m τ l ∧ c2 = .rows m τ l2 ∧ l2.length = l.length
theorem Like.refl (c : Cell) : Like c c := .inl rfl
theorem Like.len {c c2 : Cell} (h : Like c c2) : c2.len = c.len := by
  rcases h with rfl | ⟨m, τ, l, l2, rfl, rfl, h⟩
  · rfl
  · exact h
theorem Like.sz {c c2 : Cell} (h : Like c c2) : c2.sz = c.sz := by
  rcases h with rfl | ⟨m, τ, l, l2, rfl, rfl, h⟩ <;> rfl
theorem Like.mode {c c2 : Cell} (h : Like c c2) : c2.mode = c.mode := by
  rcases h with rfl | ⟨m, τ, l, l2, rfl, rfl, h⟩ <;> rfl

theorem setSub_spec {c c' c2 : Cell} {i o : Nat} (h : c.setSub i o c' = some c2) (hi : i < c.len) (ho : o < c.sz) :
    Like c c2 ∧ c'.fits c.mode.next = true ∧ c2.sub i o = some (c'.reMode c.mode.next) ∧ ∀ i' o', ¬ (i' = i ∧ o' = o) → c2.sub i' o' = c.sub i' o' := by
  cases c with
  | rows m τ l =>
    simp only [Cell.setSub, Option.bind_eq_some_iff] at h
    obtain ⟨x, hx, h⟩ := h
    cases h
    obtain ⟨h1, h2, h3⟩ := ofCells_spec _ _ _ _ hx
    have hl : (toCells m.next τ (l.getD i (dflt τ))).length = τ.size := toCells_length _ _ _
    simp only [Cell.len] at hi
    simp only [Cell.sz] at ho
    refine ⟨.inr ⟨m, τ, l, _, rfl, rfl, by simp⟩, h3 c' (List.mem_iff_getElem?.2 ⟨o, List.getElem?_set_self (by rw [hl]; exact ho)⟩), ?_, fun i' o' hne => ?_⟩
    · simp only [Cell.sub, Cell.mode]
      have : (l.set i x).getD i (dflt τ) = x := by simp [List.getD, hi]
      rw [this, h2, List.getElem?_map, List.getElem?_set_self (by rw [hl]; exact ho)]
      rfl
    · simp only [Cell.sub]
      by_cases hii : i' = i
      · subst hii
        have : (l.set i' x).getD i' (dflt τ) = x := by simp [List.getD, hi]
        rw [this, h2]
        have hoo : o ≠ o' := fun e => hne ⟨rfl, e.symm⟩
        rw [List.getElem?_map, List.getElem?_set_ne hoo, ← List.getElem?_map, toCells_reMode]
      · have : (l.set i x).getD i' (dflt τ) = l.getD i' (dflt τ) := by
          simp only [List.getD]
          rw [List.getElem?_set_ne (Ne.symm hii)]
        rw [this]
  | v x => simp [Cell.setSub] at h
  | ref x => simp [Cell.setSub] at h
  | dead => simp [Cell.setSub] at h

/-! ### Positions -/
def Pl.app : Pl → List (Nat × Nat) → Pl
  | q, [] => q
  | q, (i, o) :: p => (q.sub i o).app p
theorem Pl.app_append (q : Pl) (p p' : List (Nat × Nat)) : q.app (p ++ p') = (q.app p).app p' := by
  induction p generalizing q with
  | nil => rfl
  | cons x p ih => obtain ⟨i, o⟩ := x; exact ih _
def Pl.root : Pl → Nat
  | .cell r _ => r
  | .sub q _ _ => q.root
theorem Pl.root_app (q : Pl) (p : List (Nat × Nat)) : (q.app p).root = q.root := by
  induction p generalizing q with
  | nil => rfl
  | cons x p ih => obtain ⟨i, o⟩ := x; exact ih _
def Pl.height : Pl → Nat
  | .cell _ _ => 0
  | .sub q _ _ => q.height + 1
theorem Pl.height_app (q : Pl) (p : List (Nat × Nat)) : (q.app p).height = q.height + p.length := by
  induction p generalizing q with
  | nil => rfl
  | cons x p ih => obtain ⟨i, o⟩ := x; simp only [Pl.app, ih, Pl.height, List.length_cons]; omega
theorem Pl.app_inj {q q' : Pl} {p p' : List (Nat × Nat)} (hl : p.length = p'.length) (h : q.app p = q'.app p') : q = q' ∧ p = p' := by
  induction p generalizing q q' p' with
  | nil => cases p' with
    | nil => exact ⟨h, rfl⟩
    | cons x p' => simp at hl
  | cons x p ih =>
    cases p' with
    | nil => simp at hl
    | cons y p' =>
      obtain ⟨i, o⟩ := x
      obtain ⟨j, o'⟩ := y
      obtain ⟨h1, h2⟩ := ih (q := q.sub i o) (q' := q'.sub j o') (p' := p') (by simpa using hl) h
      cases h1
      subst h2
      exact ⟨rfl, rfl⟩
theorem Pl.app_self {q : Pl} {p p' : List (Nat × Nat)} (h : q.app p = q.app p') : p = p' := by
  have := congrArg Pl.height h
  simp only [Pl.height_app] at this
  exact (Pl.app_inj (by omega) h).2
theorem Pl.sub_app_last (q q' : Pl) (i o : Nat) (p : List (Nat × Nat)) (h : q'.sub i o = q.app p) : (p = [] ∧ q = q'.sub i o) ∨ ∃ p', p = p' ++ [(i, o)] ∧ q' = q.app p' := by
  rcases List.eq_nil_or_concat p with rfl | ⟨p', ⟨i', o'⟩, rfl⟩
  · exact .inl ⟨rfl, h.symm⟩
  · rw [List.concat_eq_append, Pl.app_append] at h
    simp only [Pl.app] at h
    injection h with h1 h2 h3
    subst h1; subst h2; subst h3
    exact .inr ⟨p', by simp, rfl⟩
def Pl.Under (q q2 : Pl) : Prop := ∃ p, q2 = q.app p

def nav (F : Forest) : Pl → Option Cell
  | .cell r o => (F.get r).bind fun R => R.cs[o]?
  | .sub q i o => (nav F q).bind fun c => c.sub i o
def setAt (F : Forest) : Pl → Cell → Option Forest
  | .cell r o, c' => (F.get r).bind fun R => some (F.put r (some ⟨R.mem, R.cs.set o c'⟩))
  | .sub q i o, c' => (nav F q).bind fun c => (c.setSub i o c').bind fun c2 => setAt F q c2

/-- At this place, all indexes being in range, lies this cell. -/
def At (F : Forest) : Pl → Cell → Prop
  | .cell r o, c => ∃ R, F.get r = some R ∧ R.cs[o]? = some c
  | .sub q i o, c => ∃ c0, At F q c0 ∧ i < c0.len ∧ c0.sub i o = some c
def AtC : Cell → List (Nat × Nat) → Cell → Prop
  | c, [], c2 => c2 = c
  | c, (i, o) :: p, c2 => ∃ c1, i < c.len ∧ c.sub i o = some c1 ∧ AtC c1 p c2
theorem At.nav {F : Forest} : ∀ {q : Pl} {c : Cell}, At F q c → nav F q = some c
  | .cell r o, c, ⟨R, h1, h2⟩ => by simp [Go.Proofs.YtnceiegngfpmkaaAm.nav, h1, h2]
  | .sub q i o, c, ⟨c0, h0, _, h2⟩ => by simp [Go.Proofs.YtnceiegngfpmkaaAm.nav, At.nav h0, h2]
theorem At.uniq {F : Forest} {q : Pl} {c c' : Cell} (h : At F q c) (h' : At F q c') : c = c' := Option.some.inj (h.nav.symm.trans h'.nav)
theorem at_app {F : Forest} {q : Pl} {p : List (Nat × Nat)} {c2 : Cell} : At F (q.app p) c2 ↔ ∃ c, At F q c ∧ AtC c p c2 := by
  induction p generalizing q with
  | nil => exact ⟨fun h => ⟨c2, h, rfl⟩, fun ⟨c, h, e⟩ => e ▸ h⟩
  | cons x p ih =>
    obtain ⟨i, o⟩ := x
    simp only [Pl.app]
    rw [ih]
    constructor
    · rintro ⟨c, ⟨c0, h0, hi, hs⟩, h⟩
      exact ⟨c0, h0, c, hi, hs, h⟩
    · rintro ⟨c0, h0, c, hi, hs, h⟩
      exact ⟨c, ⟨c0, h0, hi, hs⟩, h⟩
theorem sub_lt {c s : Cell} {i o : Nat} (h : c.sub i o = some s) : o < c.sz := by
  cases c with
  | rows m τ l =>
    simp only [Cell.sub] at h
    have := (List.getElem?_eq_some_iff.1 h).1
    rwa [toCells_length] at this
  | v x => simp [Cell.sub] at h
  | ref x => simp [Cell.sub] at h
  | dead => simp [Cell.sub] at h
theorem sub_mode {c s : Cell} {i o : Nat} (h : c.sub i o = some s) : (∃ x, s = .v x) ∨ ∃ τ l, s = .rows c.mode.next τ l := by
  cases c with
  | rows m τ l =>
    simp only [Cell.sub, Cell.mode] at h ⊢
    have key : ∀ (m : Mode) (τ : Ty) (x : Interp τ) (s : Cell), s ∈ toCells m τ x → (∃ x, s = .v x) ∨ ∃ τ l, s = .rows m τ l := by
      intro m τ
      induction τ with
      | int k => intro x s hs; simp [toCells] at hs; exact .inl ⟨_, hs⟩
      | bool => intro x s hs; simp [toCells] at hs; exact .inl ⟨_, hs⟩
      | str => intro x s hs; simp [toCells] at hs; exact .inl ⟨_, hs⟩
      | unit => intro x s hs; simp [toCells] at hs
      | sl a _ => intro x s hs; simp [toCells] at hs; exact .inr ⟨_, _, hs⟩
      | pair a b iha ihb =>
        intro x s hs
        simp only [toCells] at hs
        rcases List.mem_append.1 hs with hs | hs
        · exact iha _ _ hs
        · exact ihb _ _ hs
      | rose a iha =>
        intro x s hs
        simp only [toCells] at hs
        rcases List.mem_append.1 hs with hs | hs
        · exact iha _ _ hs
        · simp only [List.mem_singleton] at hs; exact .inr ⟨_, _, hs⟩
    exact key _ _ _ _ (List.mem_of_getElem? h)
  | v x => simp [Cell.sub] at h
  | ref x => simp [Cell.sub] at h
  | dead => simp [Cell.sub] at h

/-- What is found at a place where a cell was put. -/
def Pl.eff (F : Forest) : Pl → Cell → Cell
  | .cell _ _, c' => c'
  | .sub q _ _, c' => match nav F q with
    | some c => c'.reMode c.mode.next
    | none => c'

theorem setAt_spec {F : Forest} : ∀ {q : Pl} {c' s : Cell} {F2 : Forest}, setAt F q c' = some F2 → At F q s →
    (∀ p c2, At F2 (q.app p) c2 ↔ AtC (q.eff F c') p c2) ∧
    (∀ q2, ¬ q.Under q2 → (∀ c2, At F2 q2 c2 → ∃ c, At F q2 c ∧ Like c c2) ∧ (∀ c, At F q2 c → ∃ c2, At F2 q2 c2 ∧ Like c c2)) ∧
    (∀ r, F2.get r = F.get r ∨ (r = q.root ∧ ∃ R R2, F.get r = some R ∧ F2.get r = some R2 ∧ R2.mem = R.mem ∧ R2.cs.length = R.cs.length)) ∧
    (∀ q0 i o, q = q0.sub i o → ∃ c0, nav F q0 = some c0 ∧ c'.fits c0.mode.next = true)
  | .cell r o, c', s, F2, h, hv => by
    obtain ⟨R, hR, hc⟩ := hv
    simp only [setAt, hR, Option.bind_some, Option.some.injEq] at h
    subst h
    have hlt : o < R.cs.length := (List.getElem?_eq_some_iff.1 hc).1
    refine ⟨fun p c2 => ?_, fun q2 hu => ?_, fun r' => ?_, fun q0 i o' e => by cases e⟩
    · rw [at_app]
      simp only [Pl.eff]
      constructor
      · rintro ⟨c, ⟨R', h1, h2⟩, h⟩
        simp only [Forest.get_put, if_true, Option.some.injEq] at h1
        subst h1
        simp only [List.getElem?_set_self hlt, Option.some.injEq] at h2
        exact h2 ▸ h
      · intro h
        exact ⟨c', ⟨_, by simp only [Forest.get_put, if_true]; rfl, by simp [List.getElem?_set_self hlt]⟩, h⟩
    · have key : ∀ q2 : Pl, ¬ (Pl.cell r o).Under q2 → ∀ c, At (F.put r (some ⟨R.mem, R.cs.set o c'⟩)) q2 c ↔ At F q2 c := by
        intro q2
        induction q2 with
        | cell r2 o2 =>
          intro hu c
          by_cases hr : r2 = r
          · subst hr
            have ho : o ≠ o2 := fun e => hu ⟨[], by subst e; rfl⟩
            constructor
            · rintro ⟨R', h1, h2⟩
              simp only [Forest.get_put, if_true, Option.some.injEq] at h1
              subst h1
              rw [List.getElem?_set_ne ho] at h2
              exact ⟨R, hR, h2⟩
            · rintro ⟨R', h1, h2⟩
              rw [hR] at h1
              cases h1
              exact ⟨_, by simp only [Forest.get_put, if_true]; rfl, by simp only; rw [List.getElem?_set_ne ho]; exact h2⟩
          · constructor
            · rintro ⟨R', h1, h2⟩
              rw [Forest.get_put, if_neg hr] at h1
              exact ⟨R', h1, h2⟩
            · rintro ⟨R', h1, h2⟩
              exact ⟨R', by rw [Forest.get_put, if_neg hr]; exact h1, h2⟩
        | sub q3 i o3 ih =>
          intro hu c
          have := ih (fun ⟨p, e⟩ => hu ⟨p ++ [(i, o3)], by rw [Pl.app_append, ← e]; rfl⟩)
          constructor
          · rintro ⟨c0, h0, h1⟩; exact ⟨c0, (this c0).1 h0, h1⟩
          · rintro ⟨c0, h0, h1⟩; exact ⟨c0, (this c0).2 h0, h1⟩
      exact ⟨fun c2 h2 => ⟨c2, (key q2 hu c2).1 h2, .refl _⟩, fun c h2 => ⟨c, (key q2 hu c).2 h2, .refl _⟩⟩
    · by_cases hr : r' = r
      · subst hr
        exact .inr ⟨rfl, R, ⟨R.mem, R.cs.set o c'⟩, hR, by simp, rfl, by simp⟩
      · exact .inl (by simp [hr])
  | .sub q i o, c', s, F2, h, hv => by
    obtain ⟨c0, h0, hi, hs⟩ := hv
    simp only [setAt, h0.nav, Option.bind_some, Option.bind_eq_some_iff] at h
    obtain ⟨c2', hset, h⟩ := h
    have ho : o < c0.sz := sub_lt hs
    obtain ⟨g1, g2, g3, g4⟩ := setSub_spec hset hi ho
    obtain ⟨f1, f2, f3, f4⟩ := setAt_spec h h0
    have heff : q.eff F c2' = c2' := by
      cases q with
      | cell r o => rfl
      | sub q' i' o' =>
        obtain ⟨c1, h1, _, hs1⟩ := h0
        simp only [Pl.eff, h1.nav]
        have hm := g1.mode
        rcases sub_mode hs1 with ⟨x, rfl⟩ | ⟨τ, l, rfl⟩
        · simp [Cell.sz] at ho
        · rcases g1 with rfl | ⟨m, τ', l', l2, e1, rfl, _⟩
          · rfl
          · cases e1; rfl
    rw [heff] at f1
    have hlen := g1.len
    refine ⟨fun p c2 => ?_, fun q2 hu => ?_, fun r => ?_, fun q0 i' o' e => ?_⟩
    · have := f1 ((i, o) :: p) c2
      simp only [Pl.app] at this
      rw [this]
      simp only [AtC, g3, hlen, hi, true_and, Pl.eff, h0.nav]
      constructor
      · rintro ⟨c1, e, h⟩
        cases e
        exact h
      · intro h
        exact ⟨_, rfl, h⟩
    · by_cases hq : q.Under q2
      · obtain ⟨p, rfl⟩ := hq
        cases p with
        | nil =>
          have := f1 [] c2'
          simp only [AtC, Pl.app] at this
          simp only [Pl.app]
          exact ⟨fun c2 h2 => ⟨c0, h0, by have := (f1 [] c2).1 h2; simp only [AtC] at this; exact this ▸ g1⟩, fun c hc => ⟨c2', this.2 trivial, hc.uniq h0 ▸ g1⟩⟩
        | cons x p =>
          obtain ⟨i', o'⟩ := x
          have hne : ¬ (i' = i ∧ o' = o) := by
            rintro ⟨rfl, rfl⟩
            exact hu ⟨p, rfl⟩
          have same : ∀ c2, At F2 (q.app ((i', o') :: p)) c2 ↔ At F (q.app ((i', o') :: p)) c2 := by
            intro c2
            rw [f1, at_app]
            constructor
            · rintro ⟨c1, hl, hs1, h1⟩
              rw [g4 _ _ hne] at hs1
              exact ⟨c0, h0, c1, hlen ▸ hl, hs1, h1⟩
            · rintro ⟨c, hc, c1, hl, hs1, h1⟩
              obtain rfl := hc.uniq h0
              exact ⟨c1, hlen.symm ▸ hl, (g4 _ _ hne).symm ▸ hs1, h1⟩
          exact ⟨fun c2 h2 => ⟨c2, (same c2).1 h2, .refl _⟩, fun c hc => ⟨c, (same c).2 hc, .refl _⟩⟩
      · exact f2 q2 hq
    · rcases f3 r with h3 | ⟨h3, h4⟩
      · exact .inl h3
      · exact .inr ⟨h3, h4⟩
    · cases e
      exact ⟨c0, h0.nav, g2⟩
end Go.Proofs.YtnceiegngfpmkaaAm
namespace Go.Proofs.YtnceiegngfpmkaaAm
set_option linter.unusedVariables false

/-- Where a row lies: its block, its first cell, how many elements there is room for from there on, an element's cells. -/
structure Lay where
  b : Nat
  base : Nat
  cap : Nat
  sz : Nat
abbrev Layout := Pl → Lay
def Pl.addr (βv : Nat → Nat) (β : Layout) : Pl → Addr
  | .cell r o => ⟨βv r, o, none⟩
  | .sub q i o => ⟨(β q).b, (β q).base + i * (β q).sz + o, none⟩

/-- What is not behind the hole. -/
def AtN (F : Forest) (h : Option Pl) (q : Pl) (c : Cell) : Prop := At F q c ∧ ∀ q0, h = some q0 → ¬ q0.Under q
def InMem (F : Forest) : Pl → Prop
  | .cell r _ => ∃ R, F.get r = some R ∧ R.mem = true
  | .sub _ _ _ => True
/-- A slice of this row: elements lo, lo+1, .. -/
def SlRel (L : Lay) (lo len : Nat) (v : Value) : Prop := ∃ A c, v = .slice A len c ∧ c + lo = L.cap ∧ (c = 0 ∨ A = some ⟨L.b, L.base + lo * L.sz, none⟩)
def PtrOk (F : Forest) (h : Option Pl) : Pl → Prop
  | .cell r o => ∃ R, F.get r = some R ∧ R.mem = true ∧ o < R.cs.length
  | .sub q i o => ∃ m τ l, AtN F h q (.rows m τ l) ∧ i < l.length ∧ o < τ.size
def AcRel (F : Forest) (h : Option Pl) (βv : Nat → Nat) (β : Layout) : AC → Value → Prop
  | .lit u, v => v = u
  | .sl q pt, v => ∃ m τ l, AtN F h q (.rows m τ l) ∧ ptLo pt + ptLen pt l.length ≤ l.length ∧ SlRel (β q) (ptLo pt) (ptLen pt l.length) v
  | .nil _, v => v = .slice none 0 0
  | .ptr q, v => PtrOk F h q ∧ v = .pointer (some (q.addr βv β))
  | .clo f caps, v => (∀ x ∈ caps, PtrOk F h (.cell x.1 x.2)) ∧ v = .func (.func f) #[] (caps.map fun x => Value.pointer (some ⟨βv x.1, x.2, none⟩)).toArray
  | .dead, _ => True
/-- Only addresses of variables lie in memory as such. -/
def AC.inCell : AC → Bool
  | .ptr (.cell _ _) => true
  | .clo _ _ => true
  | _ => false
def CellRel (F : Forest) (βv : Nat → Nat) (β : Layout) : Cell → Lay → Value → Prop
  | .v x, _, u => u = x ∧ x.oneCell' = true
  | .rows _ _ l, L, u => SlRel L 0 l.length u
  | .ref c, _, u => c.inCell = true ∧ AcRel F none βv β c u
  | .dead, _, u => u.oneCell' = true
def OwnB (F : Forest) (h : Option Pl) (βv : Nat → Nat) (β : Layout) (b : Nat) : Prop :=
  (∃ r R, F.get r = some R ∧ R.mem = true ∧ βv r = b) ∨ ∃ q m τ l, AtN F h q (.rows m τ l) ∧ m.isOwn = true ∧ (β q).cap ≠ 0 ∧ (β q).b = b
def ShB (F : Forest) (h : Option Pl) (β : Layout) (b : Nat) : Prop := ∃ q m τ l, AtN F h q (.rows m τ l) ∧ m.isOwn = false ∧ (l ≠ [] ∧ τ.size ≠ 0) ∧ (β q).b = b
structure Lays (F : Forest) (h : Option Pl) (βv : Nat → Nat) (β : Layout) (w : World) : Prop where
  cells : ∀ q c, AtN F h q c → InMem F q → ∃ u, w.cell? (q.addr βv β) = some u ∧ CellRel F βv β c (β q) u
  rows : ∀ q m τ l, AtN F h q (.rows m τ l) → (β q).sz = τ.size ∧ l.length ≤ (β q).cap
  ownb : ∀ q m τ l, AtN F h q (.rows m τ l) → m.isOwn = true → (β q).cap ≠ 0 → ∃ cs e, w.heap[(β q).b]? = some (.cells cs e (0, 0)) ∧ (β q).base + (β q).cap * (β q).sz ≤ cs.size
  vars : ∀ r R, F.get r = some R → R.mem = true → ∃ cs e, w.heap[βv r]? = some (.cells cs e (0, 0)) ∧ cs.size = R.cs.length
  vv : ∀ r r' R R', F.get r = some R → R.mem = true → F.get r' = some R' → R'.mem = true → βv r = βv r' → r = r'
  rr : ∀ q q' m m' τ τ' l l', AtN F h q (.rows m τ l) → m.isOwn = true → (β q).cap ≠ 0 → AtN F h q' (.rows m' τ' l') → m'.isOwn = true → (β q').cap ≠ 0 → (β q).b = (β q').b → q = q'
  vr : ∀ r R q m τ l, F.get r = some R → R.mem = true → AtN F h q (.rows m τ l) → m.isOwn = true → (β q).cap ≠ 0 → βv r ≠ (β q).b
  sh : ∀ b, ShB F h β b → ¬ OwnB F h βv β b

theorem under_refl (q : Pl) : q.Under q := ⟨[], rfl⟩
theorem under_trans {q q1 q2 : Pl} (h : q.Under q1) (h1 : q1.Under q2) : q.Under q2 := by
  obtain ⟨p, rfl⟩ := h
  obtain ⟨p', rfl⟩ := h1
  exact ⟨p ++ p', (Pl.app_append _ _ _).symm⟩
theorem under_sub (q : Pl) (i o : Nat) : q.Under (q.sub i o) := ⟨[(i, o)], rfl⟩
theorem under_of_sub {q q2 : Pl} {i o : Nat} (h : q.Under (q2.sub i o)) : q = q2.sub i o ∨ q.Under q2 := by
  obtain ⟨p, e⟩ := h
  rcases Pl.sub_app_last _ _ _ _ _ e with ⟨_, h⟩ | ⟨p', _, h⟩
  · exact .inl h
  · exact .inr ⟨p', h⟩
/-- Where the cell is, the row around it is. -/
theorem AtN.up {F : Forest} {h : Option Pl} {q : Pl} {i o : Nat} {c : Cell} (ha : AtN F h (q.sub i o) c) :
    ∃ m τ l, AtN F h q (.rows m τ l) ∧ i < l.length ∧ o < τ.size ∧ (toCells m.next τ (l.getD i (dflt τ)))[o]? = some c := by
  obtain ⟨⟨c0, h0, hi, hs⟩, hn⟩ := ha
  have ho := sub_lt hs
  cases c0 with
  | rows m τ l => exact ⟨m, τ, l, ⟨h0, fun q0 e hu => hn q0 e (under_trans hu (under_sub _ _ _))⟩, hi, ho, hs⟩
  | v x => simp [Cell.sub] at hs
  | ref x => simp [Cell.sub] at hs
  | dead => simp [Cell.sub] at hs
theorem AtN.uniq {F : Forest} {h : Option Pl} {q : Pl} {c c' : Cell} (a : AtN F h q c) (a' : AtN F h q c') : c = c' := a.1.uniq a'.1
theorem AtN.hole {F : Forest} {q q2 : Pl} {c : Cell} (a : AtN F (some q) q2 c) : AtN F none q2 c := ⟨a.1, fun _ e => by cases e⟩
theorem AtN.mk_hole {F : Forest} {q q2 : Pl} {c : Cell} (a : At F q2 c) (hu : ¬ q.Under q2) : AtN F (some q) q2 c := ⟨a, fun q0 e => by cases e; exact hu⟩
theorem PtrOk.of_at {F : Forest} {h : Option Pl} {q : Pl} {c : Cell} (a : AtN F h q c) (hm : InMem F q) : PtrOk F h q := by
  cases q with
  | cell r o =>
    obtain ⟨⟨R, h1, h2⟩, _⟩ := a
    obtain ⟨R', h3, h4⟩ := hm
    rw [h1] at h3
    cases h3
    exact ⟨R, h1, h4, (List.getElem?_eq_some_iff.1 h2).1⟩
  | sub q i o =>
    obtain ⟨m, τ, l, h1, h2, h3, _⟩ := a.up
    exact ⟨m, τ, l, h1, h2, h3⟩
theorem PtrOk.at_ {F : Forest} {q : Pl} (h : PtrOk F none q) : (∃ c, AtN F none q c) ∧ InMem F q := by
  cases q with
  | cell r o =>
    obtain ⟨R, h1, h2, h3⟩ := h
    exact ⟨⟨_, ⟨R, h1, List.getElem?_eq_getElem h3⟩, fun _ e => by cases e⟩, R, h1, h2⟩
  | sub q i o =>
    obtain ⟨m, τ, l, h1, h2, h3⟩ := h
    have hl : o < (toCells m.next τ (l.getD i (dflt τ))).length := by rw [toCells_length]; exact h3
    exact ⟨⟨_, ⟨_, h1.1, h2, List.getElem?_eq_getElem hl⟩, fun _ e => by cases e⟩, trivial⟩
theorem AcRel.cell_any {F F2 : Forest} {βv : Nat → Nat} {β β2 : Layout} (hv : ∀ r R, F.get r = some R → R.mem = true → ∃ R2, F2.get r = some R2 ∧ R2.mem = true ∧ R2.cs.length = R.cs.length) {c : AC} {u : Value} (hc : c.inCell = true) (h : AcRel F none βv β c u) : AcRel F2 none βv β2 c u := by
  cases c with
  | ptr q =>
    cases q with
    | cell r o =>
      obtain ⟨⟨R, h1, h2, h3⟩, rfl⟩ := h
      obtain ⟨R2, g1, g2, g3⟩ := hv r R h1 h2
      exact ⟨⟨R2, g1, g2, by omega⟩, rfl⟩
    | sub q i o => simp [AC.inCell] at hc
  | clo f caps =>
    obtain ⟨h1, rfl⟩ := h
    refine ⟨fun x hx => ?_, rfl⟩
    obtain ⟨R, g1, g2, g3⟩ := h1 x hx
    obtain ⟨R2, k1, k2, k3⟩ := hv _ R g1 g2
    exact ⟨R2, k1, k2, by omega⟩
  | _ => simp [AC.inCell] at hc
theorem CellRel.any {F F2 : Forest} {βv : Nat → Nat} {β β2 : Layout} (hv : ∀ r R, F.get r = some R → R.mem = true → ∃ R2, F2.get r = some R2 ∧ R2.mem = true ∧ R2.cs.length = R.cs.length) {c : Cell} {L : Lay} {u : Value} (h : CellRel F βv β c L u) : CellRel F2 βv β2 c L u := by
  cases c with
  | ref c => exact ⟨h.1, AcRel.cell_any hv h.1 h.2⟩
  | v x => exact h
  | rows m τ l => exact h
  | dead => exact h
theorem CellRel.like {F : Forest} {βv : Nat → Nat} {β : Layout} {c c2 : Cell} {L : Lay} {u : Value} (hl : Like c c2) (h : CellRel F βv β c L u) : CellRel F βv β c2 L u := by
  rcases hl with rfl | ⟨m, τ, l, l2, rfl, rfl, hl⟩
  · exact h
  · simp only [CellRel] at h ⊢; rw [hl]; exact h
end Go.Proofs.YtnceiegngfpmkaaAm
namespace Go.Proofs.YtnceiegngfpmkaaAm
set_option linter.unusedVariables false

theorem Lays.toHole {F : Forest} {βv : Nat → Nat} {β : Layout} {w : World} (hL : Lays F none βv β w) (q : Pl) : Lays F (some q) βv β w := by
  have hO : ∀ b, OwnB F (some q) βv β b → OwnB F none βv β b := by
    rintro b (h | ⟨q', m, τ, l, h1, h2⟩)
    · exact .inl h
    · exact .inr ⟨q', m, τ, l, h1.hole, h2⟩
  have hS : ∀ b, ShB F (some q) β b → ShB F none β b := by
    rintro b ⟨q', m, τ, l, h1, h2⟩
    exact ⟨q', m, τ, l, h1.hole, h2⟩
  exact {
    cells := fun q' c h => hL.cells q' c h.hole
    rows := fun q' m τ l h => hL.rows q' m τ l h.hole
    ownb := fun q' m τ l h => hL.ownb q' m τ l h.hole
    vars := hL.vars
    vv := hL.vv
    rr := fun q1 q2 m m' τ τ' l l' h1 h2 h3 h4 => hL.rr q1 q2 m m' τ τ' l l' h1.hole h2 h3 h4.hole
    vr := fun r R q1 m τ l h1 h2 h3 => hL.vr r R q1 m τ l h1 h2 h3.hole
    sh := fun b hb ho => hL.sh b (hS b hb) (hO b ho) }

/-- The block of a cell of memory is used. -/
theorem Lays.used {F : Forest} {h : Option Pl} {βv : Nat → Nat} {β : Layout} {w : World} (hL : Lays F h βv β w) {q : Pl} {c : Cell} (ha : AtN F h q c) (hm : InMem F q) :
    OwnB F h βv β (q.addr βv β).block ∨ ShB F h β (q.addr βv β).block := by
  cases q with
  | cell r o => obtain ⟨R, h1, h2⟩ := hm; exact .inl (.inl ⟨r, R, h1, h2, rfl⟩)
  | sub q i o =>
    obtain ⟨m, τ, l, h1, h2, h3, _⟩ := ha.up
    cases hmo : m.isOwn with
    | true =>
      have := (hL.rows _ _ _ _ h1).2
      exact .inl (.inr ⟨q, m, τ, l, h1, hmo, by omega, rfl⟩)
    | false => exact .inr ⟨q, m, τ, l, h1, hmo, ⟨by rintro rfl; simp at h2, by omega⟩, rfl⟩
theorem cell?_heap {w w' : World} {a : Addr} (h : w'.heap[a.block]? = w.heap[a.block]?) : w'.cell? a = w.cell? a := by simp [World.cell?, h]

theorem Lays.frame {F : Forest} {h : Option Pl} {βv : Nat → Nat} {β : Layout} {w w' : World} (hL : Lays F h βv β w)
    (hf : ∀ b, OwnB F h βv β b ∨ ShB F h β b → w'.heap[b]? = w.heap[b]?) : Lays F h βv β w' where
  cells := fun q c ha hm => by
    obtain ⟨u, h1, h2⟩ := hL.cells q c ha hm
    exact ⟨u, (cell?_heap (hf _ (hL.used ha hm))).trans h1, h2⟩
  rows := hL.rows
  ownb := fun q m τ l ha hm hc => by
    rw [hf _ (.inl (.inr ⟨q, m, τ, l, ha, hm, hc, rfl⟩))]
    exact hL.ownb q m τ l ha hm hc
  vars := fun r R h1 h2 => by
    rw [hf _ (.inl (.inl ⟨r, R, h1, h2, rfl⟩))]
    exact hL.vars r R h1 h2
  vv := hL.vv
  rr := hL.rr
  vr := hL.vr
  sh := hL.sh

/-- The row around a cell may be written. -/
def ContOwn (F : Forest) : Pl → Prop
  | .cell _ _ => True
  | .sub q _ _ => ∃ m τ l, At F q (.rows m τ l) ∧ m.isOwn = true
theorem Lays.addr_ne {F : Forest} {h : Option Pl} {βv : Nat → Nat} {β : Layout} {w : World} (hL : Lays F h βv β w) {q q2 : Pl} (hp : PtrOk F h q) (ho : ContOwn F q) {c2 : Cell} (h2 : AtN F h q2 c2) (hm2 : InMem F q2) (hne : q2 ≠ q) :
    q2.addr βv β ≠ q.addr βv β := by
  intro e
  cases q with
  | cell r o =>
    obtain ⟨R, g1, g2, g3⟩ := hp
    cases q2 with
    | cell r2 o2 =>
      obtain ⟨R2, k1, k2⟩ := hm2
      simp only [Pl.addr, Addr.mk.injEq] at e
      have := hL.vv r2 r R2 R k1 k2 g1 g2 e.1
      subst this
      exact hne (by rw [e.2.1])
    | sub q3 i o2 =>
      obtain ⟨m, τ, l, a1, a2, a3, _⟩ := h2.up
      simp only [Pl.addr, Addr.mk.injEq] at e
      cases hmo : m.isOwn with
      | true =>
        have := (hL.rows _ _ _ _ a1).2
        exact hL.vr r R q3 m τ l g1 g2 a1 hmo (by omega) e.1.symm
      | false => exact hL.sh _ ⟨q3, m, τ, l, a1, hmo, ⟨by rintro rfl; simp at a2, by omega⟩, rfl⟩ (.inl ⟨r, R, g1, g2, e.1.symm⟩)
  | sub q0 i o =>
    obtain ⟨m, τ, l, b1, b2, b3⟩ := hp
    obtain ⟨m', τ', l', d1, d2⟩ := ho
    have := b1.1.uniq d1
    cases this
    have hcap := (hL.rows _ _ _ _ b1)
    have hc0 : (β q0).cap ≠ 0 := by omega
    cases q2 with
    | cell r2 o2 =>
      obtain ⟨R2, k1, k2⟩ := hm2
      simp only [Pl.addr, Addr.mk.injEq] at e
      exact hL.vr r2 R2 q0 m τ l k1 k2 b1 d2 hc0 e.1
    | sub q3 i2 o2 =>
      obtain ⟨m3, τ3, l3, a1, a2, a3, _⟩ := h2.up
      simp only [Pl.addr, Addr.mk.injEq] at e
      cases hmo : m3.isOwn with
      | true =>
        have h3 := (hL.rows _ _ _ _ a1)
        have hqq := hL.rr q3 q0 m3 m τ3 τ l3 l a1 hmo (by omega) b1 d2 hc0 e.1
        subst hqq
        have e2 := e.2.1
        have := a1.uniq b1
        cases this
        rw [hcap.1] at e2
        have e3 : i2 * τ.size + o2 = i * τ.size + o := by omega
        have hi : i2 = i := by
          rcases Nat.lt_trichotomy i2 i with hlt | heq | hgt
          · have := Nat.mul_le_mul_right τ.size (show i2 + 1 ≤ i by omega)
            rw [Nat.add_mul] at this
            omega
          · exact heq
          · have := Nat.mul_le_mul_right τ.size (show i + 1 ≤ i2 by omega)
            rw [Nat.add_mul] at this
            omega
        subst hi
        exact hne (by rw [show o2 = o by omega])
      | false => exact hL.sh _ ⟨q3, m3, τ3, l3, a1, hmo, ⟨by rintro rfl; simp at a2, by omega⟩, rfl⟩ (.inr ⟨q0, m, τ, l, b1, d2, hc0, e.1.symm⟩)

/-- One root, one cell: a tree by itself. -/
def solo (c : Cell) : Forest := [(0, some ⟨false, [c]⟩)]
theorem solo_get (c : Cell) (r : Nat) : (solo c).get r = if r = 0 then some ⟨false, [c]⟩ else none := rfl
theorem solo_at {c : Cell} {q : Pl} {c2 : Cell} : At (solo c) q c2 ↔ ∃ p, q = (Pl.cell 0 0).app p ∧ AtC c p c2 := by
  constructor
  · intro h
    have : ∀ q c2, At (solo c) q c2 → (Pl.cell 0 0).Under q := by
      intro q
      induction q with
      | cell r o =>
        rintro c2 ⟨R, h1, h2⟩
        rw [solo_get] at h1
        split at h1
        · rename_i hr; subst hr
          cases h1
          have : o = 0 := by
            have := (List.getElem?_eq_some_iff.1 h2).1
            simp at this
            exact this
          subst this
          exact under_refl _
        · cases h1
      | sub q i o ih =>
        rintro c2 ⟨c0, h0, _⟩
        exact under_trans (ih c0 h0) (under_sub _ _ _)
    obtain ⟨p, rfl⟩ := this q c2 h
    refine ⟨p, rfl, ?_⟩
    obtain ⟨c1, ⟨R, h1, h2⟩, h3⟩ := at_app.1 h
    rw [solo_get, if_pos rfl] at h1
    cases h1
    simp only [List.getElem?_cons_zero, Option.some.injEq] at h2
    exact h2 ▸ h3
  · rintro ⟨p, rfl, h⟩
    exact at_app.2 ⟨c, ⟨_, by rw [solo_get, if_pos rfl], rfl⟩, h⟩
theorem solo_atN {c : Cell} {p : List (Nat × Nat)} {c2 : Cell} (h : AtC c p c2) : AtN (solo c) none ((Pl.cell 0 0).app p) c2 := ⟨solo_at.2 ⟨p, rfl, h⟩, fun _ e => by cases e⟩
theorem solo_inMem (c : Cell) (p : List (Nat × Nat)) (hp : p ≠ []) : InMem (solo c) ((Pl.cell 0 0).app p) := by
  rcases List.eq_nil_or_concat p with rfl | ⟨p', ⟨i, o⟩, rfl⟩
  · exact absurd rfl hp
  · rw [List.concat_eq_append, Pl.app_append]; trivial
theorem solo_noVar {c : Cell} {r : Nat} {R : Root} (h : (solo c).get r = some R) : R.mem = false := by
  rw [solo_get] at h; split at h
  · cases h; rfl
  · cases h
end Go.Proofs.YtnceiegngfpmkaaAm
namespace Go.Proofs.YtnceiegngfpmkaaAm
set_option linter.unusedVariables false

/-- The worlds differ in the one cell at most. -/
structure OneCell (w w' : World) (a : Addr) : Prop where
  other : ∀ b, b ≠ a.block → w'.heap[b]? = w.heap[b]?
  cell : ∀ x : Addr, x ≠ a → w'.cell? x = w.cell? x
  here : ∀ cs e, w.heap[a.block]? = some (.cells cs e (0, 0)) → ∃ cs', w'.heap[a.block]? = some (.cells cs' e (0, 0)) ∧ cs'.size = cs.size
theorem OneCell.refl (w : World) (a : Addr) : OneCell w w a := ⟨fun _ _ => rfl, fun _ _ => rfl, fun cs e h => ⟨cs, h, rfl⟩⟩
theorem OneCell.set (w : World) (b o : Nat) (v : Value) : OneCell w (w.setCell ⟨b, o, none⟩ v) ⟨b, o, none⟩ where
  other := fun b' hb => by simp [World.setCell, Array.getElem?_modify, Ne.symm hb]
  cell := fun x hx => World.cell?_setCell_other _ _ _ _ (Ne.symm hx)
  here := fun cs e h => ⟨cs.setIfInBounds o v, by simp [World.setCell, Array.getElem?_modify, h], by simp⟩

section
variable {F F2 : Forest} {βv : Nat → Nat} {β β2 γ : Layout} {w w' : World} {q : Pl} {c' s : Cell} {u : Value}
/-- What holds of the roots where a tree is put at a place. -/
theorem Lays.graft (hL : Lays F (some q) βv β w) (hq : At F q s) (hset : setAt F q c' = some F2)
    (hG : Lays (solo (q.eff F c')) none βv γ w)
    (hd1 : ∀ b, OwnB (solo (q.eff F c')) none βv γ b → ¬ OwnB F (some q) βv β b ∧ ¬ ShB F (some q) β b)
    (hd2 : ∀ b, ShB (solo (q.eff F c')) none γ b → ¬ OwnB F (some q) βv β b)
    (hcase : (PtrOk F (some q) q ∧ ContOwn F q ∧ OneCell w w' (q.addr βv β) ∧ w'.cell? (q.addr βv β) = some u ∧ CellRel F βv β (q.eff F c') (γ (.cell 0 0)) u) ∨ (¬ InMem F q ∧ w' = w))
    (hβ1 : ∀ q2, ¬ q.Under q2 → β2 q2 = β q2) (hβ2 : ∀ p, β2 (q.app p) = γ ((Pl.cell 0 0).app p)) : Lays F2 none βv β2 w' ∧
    (∀ b, OwnB F2 none βv β2 b → OwnB F (some q) βv β b ∨ OwnB (solo (q.eff F c')) none βv γ b) ∧ (∀ b, ShB F2 none β2 b → ShB F (some q) β b ∨ ShB (solo (q.eff F c')) none γ b) := by
  obtain ⟨f1, f2, f3, f4⟩ := setAt_spec hset hq
  have hvar : ∀ r R, F.get r = some R → R.mem = true → ∃ R2, F2.get r = some R2 ∧ R2.mem = true ∧ R2.cs.length = R.cs.length := by
    intro r R h1 h2
    rcases f3 r with h3 | ⟨_, R1, R2, g1, g2, g3, g4⟩
    · exact ⟨R, h3.trans h1, h2, rfl⟩
    · rw [h1] at g1; cases g1; exact ⟨R2, g2, g3.trans h2, g4⟩
  have hvar' : ∀ r R, F2.get r = some R → R.mem = true → ∃ R1, F.get r = some R1 ∧ R1.mem = true ∧ R.cs.length = R1.cs.length := by
    intro r R h1 h2
    rcases f3 r with h3 | ⟨_, R1, R2, g1, g2, g3, g4⟩
    · exact ⟨R, h3.symm.trans h1, h2, rfl⟩
    · rw [h1] at g2; cases g2; exact ⟨R1, g1, g3.symm.trans h2, g4⟩
  -- what is not behind the place
  have old : ∀ {q2 c2}, AtN F2 none q2 c2 → ¬ q.Under q2 → ∃ c, AtN F (some q) q2 c ∧ Like c c2 := fun {q2 c2} h2 hn => by
    obtain ⟨c, g1, g2⟩ := (f2 q2 hn).1 c2 h2.1
    exact ⟨c, .mk_hole g1 hn, g2⟩
  have oldR : ∀ {q2 m τ l}, AtN F2 none q2 (.rows m τ l) → ¬ q.Under q2 → ∃ l0, AtN F (some q) q2 (.rows m τ l0) ∧ l.length = l0.length := fun {q2 m τ l} h2 hn => by
    obtain ⟨c, g1, g2⟩ := old h2 hn
    rcases g2 with rfl | ⟨m', τ', l', l2, rfl, e, h⟩
    · exact ⟨l, g1, rfl⟩
    · cases e; exact ⟨l', g1, h⟩
  have new : ∀ {p c2}, AtN F2 none (q.app p) c2 → AtN (solo (q.eff F c')) none ((Pl.cell 0 0).app p) c2 := fun {p c2} h2 => solo_atN ((f1 p c2).1 h2.1)
  have hO : ∀ b, OwnB F2 none βv β2 b → OwnB F (some q) βv β b ∨ OwnB (solo (q.eff F c')) none βv γ b := by
    rintro b (⟨r, R, h1, h2, h3⟩ | ⟨q2, m, τ, l, h1, h2, h3, h4⟩)
    · obtain ⟨R1, g1, g2, _⟩ := hvar' r R h1 h2
      exact .inl (.inl ⟨r, R1, g1, g2, h3⟩)
    · by_cases hn : q.Under q2
      · obtain ⟨p, rfl⟩ := hn
        rw [hβ2] at h3 h4
        exact .inr (.inr ⟨_, m, τ, l, new h1, h2, h3, h4⟩)
      · obtain ⟨l0, g1, g2⟩ := oldR h1 hn
        rw [hβ1 _ hn] at h3 h4
        exact .inl (.inr ⟨q2, m, τ, l0, g1, h2, h3, h4⟩)
  have hS : ∀ b, ShB F2 none β2 b → ShB F (some q) β b ∨ ShB (solo (q.eff F c')) none γ b := by
    rintro b ⟨q2, m, τ, l, h1, h2, h3, h4⟩
    by_cases hn : q.Under q2
    · obtain ⟨p, rfl⟩ := hn
      rw [hβ2] at h4
      exact .inr ⟨_, m, τ, l, new h1, h2, h3, h4⟩
    · obtain ⟨l0, g1, g2⟩ := oldR h1 hn
      rw [hβ1 _ hn] at h4
      refine .inl ⟨q2, m, τ, l0, g1, h2, ⟨fun e => h3.1 ?_, h3.2⟩, h4⟩
      subst e
      exact List.eq_nil_of_length_eq_zero (by simpa using g2)
  -- the block that is written
  have hblk : PtrOk F (some q) q → ContOwn F q → OwnB F (some q) βv β (q.addr βv β).block := by
    intro hp hown
    cases q with
    | cell r o => obtain ⟨R, g1, g2, g3⟩ := hp; exact .inl ⟨r, R, g1, g2, rfl⟩
    | sub q0 i o =>
      obtain ⟨m, τ, l, b1, b2, b3⟩ := hp
      obtain ⟨m', τ', l', d1, d2⟩ := hown
      have e := b1.1.uniq d1
      cases e
      have := (hL.rows _ _ _ _ b1).2
      exact .inr ⟨q0, m, τ, l, b1, d2, by omega, rfl⟩
  have keepB : ∀ (b : Nat) (cs : Array Value) (e : TypeId), w.heap[b]? = some (.cells cs e (0, 0)) → ∃ cs', w'.heap[b]? = some (.cells cs' e (0, 0)) ∧ cs'.size = cs.size := fun b cs e h => by
    rcases hcase with ⟨_, _, hw, _⟩ | ⟨_, rfl⟩
    · by_cases hb : b = (q.addr βv β).block
      · subst hb; exact hw.here cs e h
      · exact ⟨cs, (hw.other b hb).trans h, rfl⟩
    · exact ⟨cs, h, rfl⟩
  have cellG : ∀ (x : Addr), (OwnB (solo (q.eff F c')) none βv γ x.block ∨ ShB (solo (q.eff F c')) none γ x.block) → w'.cell? x = w.cell? x := fun x hub => by
    rcases hcase with ⟨hp, hown, hw, _⟩ | ⟨_, rfl⟩
    · refine cell?_heap (hw.other _ fun e => ?_)
      rcases hub with hub | hub
      · exact (hd1 _ hub).1 (e ▸ hblk hp hown)
      · exact hd2 _ hub (e ▸ hblk hp hown)
    · rfl
  have cellO : ∀ {q2 : Pl} {c2 : Cell}, AtN F (some q) q2 c2 → InMem F q2 → q2 ≠ q → w'.cell? (q2.addr βv β) = w.cell? (q2.addr βv β) := fun {q2 c2} h2 hm hne => by
    rcases hcase with ⟨hp, hown, hw, _⟩ | ⟨_, rfl⟩
    · exact hw.cell _ (hL.addr_ne hp hown h2 hm hne)
    · rfl
  have notUnderCell : ∀ {q2 : Pl} {i o : Nat}, ¬ q.Under (q2.sub i o) → ¬ q.Under q2 := fun hn hu => hn (under_trans hu (under_sub _ _ _))
  refine ⟨?_, hO, hS⟩
  exact {
    cells := fun q2 c2 h2 hm => by
      by_cases hn : q.Under q2
      · obtain ⟨p, rfl⟩ := hn
        rcases List.eq_nil_or_concat p with rfl | ⟨p', ⟨i, o⟩, rfl⟩
        · have h3 := (f1 [] c2).1 h2.1
          simp only [AtC] at h3
          subst h3
          have hmF : InMem F q := by
            cases q with
            | cell r o =>
              obtain ⟨R, k1, k2⟩ := hm
              obtain ⟨R1, k3, k4, _⟩ := hvar' r R k1 k2
              exact ⟨R1, k3, k4⟩
            | sub q3 i o => trivial
          obtain ⟨hp, hown, hw, hu, hrel⟩ : PtrOk F (some q) q ∧ ContOwn F q ∧ OneCell w w' (q.addr βv β) ∧ w'.cell? (q.addr βv β) = some u ∧ CellRel F βv β (q.eff F c') (γ (.cell 0 0)) u := by
            rcases hcase with h | ⟨h, _⟩
            · exact h
            · exact absurd hmF h
          refine ⟨u, ?_, ?_⟩
          · have hadd : q.addr βv β2 = q.addr βv β := by
              cases q with
              | cell r o => rfl
              | sub q0 i o =>
                have hnu : ¬ (q0.sub i o).Under q0 := fun ⟨p, e⟩ => by
                  have := congrArg Pl.height e
                  rw [Pl.height_app] at this
                  simp only [Pl.height] at this
                  omega
                simp only [Pl.addr, hβ1 _ hnu]
            simp only [Pl.app]
            rw [hadd]
            exact hu
          · have := hβ2 []
            simp only [Pl.app] at this ⊢
            rw [this]
            exact hrel.any hvar
        · simp only [List.concat_eq_append] at h2 ⊢
          have hne : p' ++ [(i, o)] ≠ [] := by simp
          obtain ⟨v, g1, g2⟩ := hG.cells _ c2 (new h2) (solo_inMem _ _ hne)
          have hub := hG.used (new h2) (solo_inMem _ _ hne)
          have hadd : (q.app (p' ++ [(i, o)])).addr βv β2 = ((Pl.cell 0 0).app (p' ++ [(i, o)])).addr βv γ := by
            rw [Pl.app_append, Pl.app_append]
            simp only [Pl.app, Pl.addr, hβ2]
          refine ⟨v, ?_, ?_⟩
          · rw [hadd, cellG _ hub]; exact g1
          · rw [hβ2]
            exact g2.any (fun r R h1 h2 => by rw [solo_noVar h1] at h2; cases h2)
      · obtain ⟨c, g1, g2⟩ := old h2 hn
        have hm' : InMem F q2 := by
          cases q2 with
          | cell r o =>
            obtain ⟨R, k1, k2⟩ := hm
            obtain ⟨R1, k3, k4, _⟩ := hvar' r R k1 k2
            exact ⟨R1, k3, k4⟩
          | sub q3 i o => trivial
        obtain ⟨v, g3, g4⟩ := hL.cells q2 c g1 hm'
        have hadd : q2.addr βv β2 = q2.addr βv β := by
          cases q2 with
          | cell r o => rfl
          | sub q3 i o => simp only [Pl.addr, hβ1 _ (notUnderCell hn)]
        refine ⟨v, ?_, ?_⟩
        · rw [hadd, cellO g1 hm' (fun e => hn (e ▸ under_refl _))]; exact g3
        · rw [hβ1 _ hn]; exact (g4.like g2).any hvar
    rows := fun q2 m τ l h2 => by
      by_cases hn : q.Under q2
      · obtain ⟨p, rfl⟩ := hn; rw [hβ2]; exact hG.rows _ m τ l (new h2)
      · obtain ⟨l0, g1, g2⟩ := oldR h2 hn
        rw [hβ1 _ hn, g2]; exact hL.rows q2 m τ l0 g1
    ownb := fun q2 m τ l h2 hm hc => by
      by_cases hn : q.Under q2
      · obtain ⟨p, rfl⟩ := hn
        rw [hβ2] at hc ⊢
        obtain ⟨cs, e, k1, k2⟩ := hG.ownb _ m τ l (new h2) hm hc
        obtain ⟨cs', k3, k4⟩ := keepB _ cs e k1
        exact ⟨cs', e, k3, by rw [k4]; exact k2⟩
      · obtain ⟨l0, g1, g2⟩ := oldR h2 hn
        rw [hβ1 _ hn] at hc ⊢
        obtain ⟨cs, e, k1, k2⟩ := hL.ownb q2 m τ l0 g1 hm hc
        obtain ⟨cs', k3, k4⟩ := keepB _ cs e k1
        exact ⟨cs', e, k3, by rw [k4]; exact k2⟩
    vars := fun r R h1 h2 => by
      obtain ⟨R1, g1, g2, g3⟩ := hvar' r R h1 h2
      obtain ⟨cs, e, k1, k2⟩ := hL.vars r R1 g1 g2
      obtain ⟨cs', k3, k4⟩ := keepB _ cs e k1
      exact ⟨cs', e, k3, by rw [k4, k2, g3]⟩
    vv := fun r r' R R' h1 h2 h3 h4 e => by
      obtain ⟨R1, g1, g2, _⟩ := hvar' r R h1 h2
      obtain ⟨R1', g3, g4, _⟩ := hvar' r' R' h3 h4
      exact hL.vv r r' R1 R1' g1 g2 g3 g4 e
    rr := fun q1 q2 m m' τ τ' l l' h1 o1 k1 h2 o2 k2 e => by
      by_cases n1 : q.Under q1 <;> by_cases n2 : q.Under q2
      · obtain ⟨p1, rfl⟩ := n1
        obtain ⟨p2, rfl⟩ := n2
        rw [hβ2] at k1 k2
        rw [hβ2, hβ2] at e
        have := hG.rr _ _ m m' τ τ' l l' (new h1) o1 k1 (new h2) o2 k2 e
        rw [Pl.app_self this]
      · obtain ⟨p1, rfl⟩ := n1
        obtain ⟨l0, g1, g2⟩ := oldR h2 n2
        rw [hβ2] at k1
        rw [hβ1 _ n2] at k2
        rw [hβ2, hβ1 _ n2] at e
        exact absurd (.inr ⟨q2, m', τ', l0, g1, o2, k2, e.symm⟩) (hd1 _ (.inr ⟨_, m, τ, l, new h1, o1, k1, rfl⟩)).1
      · obtain ⟨p2, rfl⟩ := n2
        obtain ⟨l0, g1, g2⟩ := oldR h1 n1
        rw [hβ2] at k2
        rw [hβ1 _ n1] at k1
        rw [hβ2, hβ1 _ n1] at e
        exact absurd (.inr ⟨q1, m, τ, l0, g1, o1, k1, e⟩) (hd1 _ (.inr ⟨_, m', τ', l', new h2, o2, k2, rfl⟩)).1
      · obtain ⟨l0, g1, _⟩ := oldR h1 n1
        obtain ⟨l0', g2, _⟩ := oldR h2 n2
        rw [hβ1 _ n1] at k1
        rw [hβ1 _ n2] at k2
        rw [hβ1 _ n1, hβ1 _ n2] at e
        exact hL.rr q1 q2 m m' τ τ' l0 l0' g1 o1 k1 g2 o2 k2 e
    vr := fun r R q2 m τ l h1 h2 h3 h4 h5 e => by
      obtain ⟨R1, g1, g2, _⟩ := hvar' r R h1 h2
      by_cases hn : q.Under q2
      · obtain ⟨p, rfl⟩ := hn
        rw [hβ2] at h5 e
        exact (hd1 _ (.inr ⟨_, m, τ, l, new h3, h4, h5, rfl⟩)).1 (.inl ⟨r, R1, g1, g2, e⟩)
      · obtain ⟨l0, k1, _⟩ := oldR h3 hn
        rw [hβ1 _ hn] at h5 e
        exact hL.vr r R1 q2 m τ l0 g1 g2 k1 h4 h5 e
    sh := fun b hs ho => by
      rcases hS b hs with hs | hs <;> rcases hO b ho with ho | ho
      · exact hL.sh b hs ho
      · exact (hd1 b ho).2 hs
      · exact hd2 b hs ho
      · exact hG.sh b hs ho }
end
end Go.Proofs.YtnceiegngfpmkaaAm
namespace Go.Proofs.YtnceiegngfpmkaaAm
set_option linter.unusedVariables false

theorem atC_snoc {c c2 : Cell} {p : List (Nat × Nat)} {i o : Nat} : AtC c (p ++ [(i, o)]) c2 ↔ ∃ c1, AtC c p c1 ∧ i < c1.len ∧ c1.sub i o = some c2 := by
  induction p generalizing c with
  | nil =>
    simp only [List.nil_append, AtC]
    constructor
    · rintro ⟨c1, h1, h2, rfl⟩; exact ⟨c, rfl, h1, h2⟩
    · rintro ⟨c1, rfl, h1, h2⟩; exact ⟨c2, h1, h2, rfl⟩
  | cons x p ih =>
    obtain ⟨j, o'⟩ := x
    simp only [List.cons_append, AtC, ih]
    constructor
    · rintro ⟨c1, h1, h2, c3, h3, h4, h5⟩; exact ⟨c3, ⟨c1, h1, h2, h3⟩, h4, h5⟩
    · rintro ⟨c3, ⟨c1, h1, h2, h3⟩, h4, h5⟩; exact ⟨c1, h1, h2, c3, h3, h4, h5⟩
/-- Below the top there are plain values and rows. -/
theorem atC_plain {c c2 : Cell} {p : List (Nat × Nat)} (hp : p ≠ []) (h : AtC c p c2) : (∃ x, c2 = .v x) ∨ ∃ m τ l, c2 = .rows m τ l := by
  rcases List.eq_nil_or_concat p with rfl | ⟨p', ⟨i, o⟩, rfl⟩
  · exact absurd rfl hp
  · rw [List.concat_eq_append] at h
    obtain ⟨c1, _, _, hs⟩ := atC_snoc.1 h
    rcases sub_mode hs with ⟨x, rfl⟩ | ⟨τ, l, rfl⟩
    · exact .inl ⟨x, rfl⟩
    · exact .inr ⟨_, τ, l, rfl⟩
theorem CellRel.plain {F F2 : Forest} {βv βv2 : Nat → Nat} {β β2 : Layout} {c : Cell} {L : Lay} {u : Value} (hc : (∃ x, c = .v x) ∨ ∃ m τ l, c = .rows m τ l) (h : CellRel F βv β c L u) : CellRel F2 βv2 β2 c L u := by
  rcases hc with ⟨x, rfl⟩ | ⟨m, τ, l, rfl⟩
  · exact h
  · exact h
theorem addr_app {βv βv2 : Nat → Nat} {β γ : Layout} {q q' : Pl} {p : List (Nat × Nat)} {i o : Nat} (h : γ (q'.app p) = β (q.app p)) :
    (q'.app (p ++ [(i, o)])).addr βv2 γ = (q.app (p ++ [(i, o)])).addr βv β := by
  rw [Pl.app_append, Pl.app_append]
  simp only [Pl.app, Pl.addr, h]

section
variable {F : Forest} {h : Option Pl} {βv : Nat → Nat} {β γ : Layout} {w : World} {q : Pl} {c : Cell}
theorem atN_app (hh : ∀ q0, h = some q0 → q0.root ≠ q.root) {p : List (Nat × Nat)} {c2 : Cell} (hq : AtN F h q c) (hc : AtC c p c2) : AtN F h (q.app p) c2 :=
  ⟨at_app.2 ⟨c, hq.1, hc⟩, fun q0 e hu => hh q0 e (by obtain ⟨p', e'⟩ := hu; have := congrArg Pl.root e'; rw [Pl.root_app, Pl.root_app] at this; exact this.symm)⟩
theorem Lays.tree (hL : Lays F h βv β w) (hq : AtN F h q c) (hh : ∀ q0, h = some q0 → q0.root ≠ q.root) (hγ : ∀ p, γ ((Pl.cell 0 0).app p) = β (q.app p)) : Lays (solo c) none βv γ w := by
  have up : ∀ {q2 c2}, AtN (solo c) none q2 c2 → ∃ p, q2 = (Pl.cell 0 0).app p ∧ AtC c p c2 ∧ AtN F h (q.app p) c2 := fun {q2 c2} h2 => by
    obtain ⟨p, e, h3⟩ := solo_at.1 h2.1
    exact ⟨p, e, h3, atN_app hh hq h3⟩
  have hO : ∀ b, OwnB (solo c) none βv γ b → OwnB F h βv β b := by
    rintro b (⟨r, R, h1, h2, h3⟩ | ⟨q2, m, τ, l, h1, h2, h3, h4⟩)
    · rw [solo_noVar h1] at h2; cases h2
    · obtain ⟨p, rfl, _, h5⟩ := up h1
      rw [hγ] at h3 h4
      exact .inr ⟨_, m, τ, l, h5, h2, h3, h4⟩
  have hS : ∀ b, ShB (solo c) none γ b → ShB F h β b := by
    rintro b ⟨q2, m, τ, l, h1, h2, h3, h4⟩
    obtain ⟨p, rfl, _, h5⟩ := up h1
    rw [hγ] at h4
    exact ⟨_, m, τ, l, h5, h2, h3, h4⟩
  exact {
    cells := fun q2 c2 h2 hm => by
      obtain ⟨p, rfl, h3, h4⟩ := up h2
      rcases List.eq_nil_or_concat p with rfl | ⟨p', ⟨i, o⟩, rfl⟩
      · obtain ⟨R, k1, k2⟩ := hm
        rw [solo_noVar k1] at k2; cases k2
      · simp only [List.concat_eq_append] at h3 h4 ⊢
        obtain ⟨u, g1, g2⟩ := hL.cells _ _ h4 (by rw [Pl.app_append]; trivial)
        refine ⟨u, ?_, ?_⟩
        · rw [addr_app (hγ p')]; exact g1
        · rw [hγ]; exact g2.plain (atC_plain (by simp) h3)
    rows := fun q2 m τ l h2 => by
      obtain ⟨p, rfl, h3, h4⟩ := up h2
      rw [hγ]; exact hL.rows _ m τ l h4
    ownb := fun q2 m τ l h2 hm hc => by
      obtain ⟨p, rfl, h3, h4⟩ := up h2
      rw [hγ] at hc ⊢; exact hL.ownb _ m τ l h4 hm hc
    vars := fun r R h1 h2 => by rw [solo_noVar h1] at h2; cases h2
    vv := fun r r' R R' h1 h2 => by rw [solo_noVar h1] at h2; cases h2
    rr := fun q1 q2 m m' τ τ' l l' h1 o1 k1 h2 o2 k2 e => by
      obtain ⟨p1, rfl, _, h5⟩ := up h1
      obtain ⟨p2, rfl, _, h6⟩ := up h2
      rw [hγ] at k1 k2
      rw [hγ, hγ] at e
      rw [Pl.app_self (hL.rr _ _ m m' τ τ' l l' h5 o1 k1 h6 o2 k2 e)]
    vr := fun r R q2 m τ l h1 h2 => by rw [solo_noVar h1] at h2; cases h2
    sh := fun b hs ho => hL.sh b (hS b hs) (hO b ho) }
/-- The tree at a place and what is not behind that place are apart. -/
theorem Lays.tree_own (hL : Lays F none βv β w) (hq : AtN F none q c) (hγ : ∀ p, γ ((Pl.cell 0 0).app p) = β (q.app p)) {b : Nat} (hb : OwnB (solo c) none βv γ b) : ¬ OwnB F (some q) βv β b ∧ ¬ ShB F (some q) β b := by
  rcases hb with ⟨r, R, h1, h2, _⟩ | ⟨q2, m, τ, l, h1, h2, h3, rfl⟩
  · rw [solo_noVar h1] at h2; cases h2
  · obtain ⟨p, rfl, h4⟩ := solo_at.1 h1.1
    have h5 := atN_app (h := none) (fun _ e => by cases e) hq h4
    rw [hγ] at h3 ⊢
    constructor
    · rintro (⟨r, R, k1, k2, k3⟩ | ⟨q3, m3, τ3, l3, k1, k2, k3, k4⟩)
      · exact hL.vr r R _ m τ l k1 k2 h5 h2 h3 k3
      · have := hL.rr _ _ m3 m τ3 τ l3 l k1.hole k2 k3 h5 h2 h3 k4
        subst this
        exact k1.2 q rfl ⟨p, rfl⟩
    · rintro ⟨q3, m3, τ3, l3, k1, k2, k3, k4⟩
      exact hL.sh _ ⟨q3, m3, τ3, l3, k1.hole, k2, k3, k4⟩ (.inr ⟨_, m, τ, l, h5, h2, h3, rfl⟩)
theorem Lays.tree_sh (hL : Lays F none βv β w) (hq : AtN F none q c) (hγ : ∀ p, γ ((Pl.cell 0 0).app p) = β (q.app p)) {b : Nat} (hb : ShB (solo c) none γ b) : ¬ OwnB F (some q) βv β b := by
  rcases hb with ⟨q2, m, τ, l, h1, h2, h3, rfl⟩
  obtain ⟨p, rfl, h4⟩ := solo_at.1 h1.1
  have h5 := atN_app (h := none) (fun _ e => by cases e) hq h4
  rw [hγ]
  intro ho
  refine hL.sh _ ⟨_, m, τ, l, h5, h2, h3, rfl⟩ ?_
  rcases ho with ho | ⟨q3, m3, τ3, l3, k1, k2⟩
  · exact .inl ho
  · exact .inr ⟨q3, m3, τ3, l3, k1.hole, k2⟩
theorem Lays.tree_used (hL : Lays F h βv β w) (hq : AtN F h q c) (hh : ∀ q0, h = some q0 → q0.root ≠ q.root) (hγ : ∀ p, γ ((Pl.cell 0 0).app p) = β (q.app p)) {b : Nat} :
    (OwnB (solo c) none βv γ b → OwnB F h βv β b) ∧ (ShB (solo c) none γ b → ShB F h β b) := by
  constructor
  · rintro (⟨r, R, h1, h2, _⟩ | ⟨q2, m, τ, l, h1, h2, h3, rfl⟩)
    · rw [solo_noVar h1] at h2; cases h2
    · obtain ⟨p, rfl, h4⟩ := solo_at.1 h1.1
      rw [hγ] at h3 ⊢
      exact .inr ⟨_, m, τ, l, atN_app hh hq h4, h2, h3, rfl⟩
  · rintro ⟨q2, m, τ, l, h1, h2, h3, rfl⟩
    obtain ⟨p, rfl, h4⟩ := solo_at.1 h1.1
    rw [hγ]
    exact ⟨_, m, τ, l, atN_app hh hq h4, h2, h3, rfl⟩

/-! ### Roots that come and go -/
def uni (r : Nat) (R : Root) : Forest := [(r, some R)]
theorem uni_get (r : Nat) (R : Root) (r' : Nat) : (uni r R).get r' = if r' = r then some R else none := rfl
theorem at_root {F : Forest} : ∀ {q : Pl} {c : Cell}, At F q c → ∃ R, F.get q.root = some R
  | .cell r o, c, ⟨R, h, _⟩ => ⟨R, h⟩
  | .sub q i o, c, ⟨c0, h, _⟩ => at_root (q := q) h
theorem at_get {F F2 : Forest} : ∀ {q : Pl} {c : Cell}, F2.get q.root = F.get q.root → (At F2 q c ↔ At F q c)
  | .cell r o, c, h => by simp only [Pl.root] at h; simp only [At, h]
  | .sub q i o, c, h => by simp only [At, at_get (q := q) h]
theorem inMem_get {F F2 : Forest} {q : Pl} (h : F2.get q.root = F.get q.root) : InMem F2 q ↔ InMem F q := by
  cases q with
  | cell r o => simp only [Pl.root] at h; simp only [InMem, h]
  | sub q i o => exact Iff.rfl
theorem ptrOk_get {F F2 : Forest} {h : Option Pl} {q : Pl} (e : F2.get q.root = F.get q.root) : PtrOk F2 h q ↔ PtrOk F h q := by
  cases q with
  | cell r o => simp only [Pl.root] at e; simp only [PtrOk, e]
  | sub q i o => simp only [PtrOk, AtN, at_get (q := q) e]

/-- The variables whose addresses are held. -/
def AC.vars : AC → List Nat
  | .ptr (.cell r _) => [r]
  | .clo _ caps => caps.map (·.1)
  | _ => []
theorem AcRel.cell_vars {F F2 : Forest} {βv βv2 : Nat → Nat} {β2 : Layout} {c : AC} {u : Value} (hc : c.inCell = true) (hv : ∀ r ∈ c.vars, F2.get r = F.get r ∧ βv2 r = βv r) (h : AcRel F none βv β c u) : AcRel F2 none βv2 β2 c u := by
  cases c with
  | ptr q =>
    cases q with
    | cell r o =>
      obtain ⟨⟨R, h1, h2⟩, rfl⟩ := h
      obtain ⟨e1, e2⟩ := hv r (by simp [AC.vars])
      exact ⟨⟨R, e1.trans h1, h2⟩, by simp [Pl.addr, e2]⟩
    | sub q i o => simp [AC.inCell] at hc
  | clo f caps =>
    obtain ⟨h1, rfl⟩ := h
    refine ⟨fun x hx => ?_, ?_⟩
    · obtain ⟨R, g1, g2⟩ := h1 x hx
      exact ⟨R, (hv x.1 (by simp only [AC.vars, List.mem_map]; exact ⟨x, hx, rfl⟩)).1.trans g1, g2⟩
    · congr 2
      refine List.map_congr_left fun x hx => ?_
      rw [(hv x.1 (by simp only [AC.vars, List.mem_map]; exact ⟨x, hx, rfl⟩)).2]
  | _ => simp [AC.inCell] at hc
theorem CellRel.vars {F F2 : Forest} {βv βv2 : Nat → Nat} {β2 : Layout} {c : Cell} {L : Lay} {u : Value} (hv : ∀ x, c = .ref x → ∀ r ∈ x.vars, F2.get r = F.get r ∧ βv2 r = βv r) (h : CellRel F βv β c L u) : CellRel F2 βv2 β2 c L u := by
  cases c with
  | ref c => exact ⟨h.1, AcRel.cell_vars h.1 (hv c rfl) h.2⟩
  | v x => exact h
  | rows m τ l => exact h
  | dead => exact h
theorem at_ref {F : Forest} {q : Pl} {c : AC} (ha : At F q (.ref c)) : ∃ r o, q = .cell r o := by
  cases q with
  | cell r o => exact ⟨r, o, rfl⟩
  | sub q i o =>
    obtain ⟨c0, _, _, hs⟩ := ha
    rcases sub_mode hs with ⟨x, e⟩ | ⟨τ, l, e⟩ <;> cases e
/-- Fewer roots. -/
theorem Lays.fewer {F F2 : Forest} (hL : Lays F h βv β w) (hf : ∀ r, F2.get r = F.get r ∨ F2.get r = none)
    (hk : ∀ (r : Nat) (R : Root) (o : Nat) (c : AC), F2.get r = some R → R.mem = true → R.cs[o]? = some (Cell.ref c) → (∀ q0, h = some q0 → ¬ q0.Under (.cell r o)) → ∀ r' ∈ c.vars, F2.get r' = F.get r') : Lays F2 h βv β w := by
  have up : ∀ {q c}, AtN F2 h q c → AtN F h q c := fun {q c} ha => by
    obtain ⟨R, hR⟩ := at_root ha.1
    rcases hf q.root with e | e
    · exact ⟨(at_get e).1 ha.1, ha.2⟩
    · rw [e] at hR; cases hR
  have upv : ∀ {r R}, F2.get r = some R → F.get r = some R := fun {r R} e => by
    rcases hf r with k | k
    · exact k.symm.trans e
    · rw [k] at e; cases e
  have hO : ∀ b, OwnB F2 h βv β b → OwnB F h βv β b := by
    rintro b (⟨r, R, h1, h2, h3⟩ | ⟨q2, m, τ, l, h1, h2⟩)
    · exact .inl ⟨r, R, upv h1, h2, h3⟩
    · exact .inr ⟨q2, m, τ, l, up h1, h2⟩
  exact {
    cells := fun q c ha hm => by
      obtain ⟨R, hR⟩ := at_root ha.1
      have e : F2.get q.root = F.get q.root := by
        rcases hf q.root with k | k
        · exact k
        · rw [k] at hR; cases hR
      obtain ⟨u, h1, h2⟩ := hL.cells q c (up ha) ((inMem_get e).1 hm)
      refine ⟨u, h1, h2.vars fun x ex r hr => ⟨?_, rfl⟩⟩
      subst ex
      obtain ⟨r0, o, rfl⟩ := at_ref ha.1
      obtain ⟨R0, k1, k2⟩ := ha.1
      obtain ⟨R1, k3, k4⟩ := hm
      rw [k1] at k3
      cases k3
      exact hk r0 R0 o x k1 k4 k2 ha.2 r hr
    rows := fun q m τ l ha => hL.rows q m τ l (up ha)
    ownb := fun q m τ l ha => hL.ownb q m τ l (up ha)
    vars := fun r R e => hL.vars r R (upv e)
    vv := fun r r' R R' h1 h2 h3 => hL.vv r r' R R' (upv h1) h2 (upv h3)
    rr := fun q q' m m' τ τ' l l' h1 h2 h3 h4 => hL.rr q q' m m' τ τ' l l' (up h1) h2 h3 (up h4)
    vr := fun r R q m τ l h1 h2 h3 => hL.vr r R q m τ l (upv h1) h2 (up h3)
    sh := fun b hs ho => by
      obtain ⟨q, m, τ, l, h1, h2⟩ := hs
      exact hL.sh b ⟨q, m, τ, l, up h1, h2⟩ (hO b ho) }

/-- One root more, with nothing in its cells yet. -/
theorem Lays.more {F : Forest} {r n : Nat} {mem : Bool} {b : Nat} {βv2 : Nat → Nat} (hL : Lays F h βv β w) (hr : F.get r = none) (hβ : ∀ x, x ≠ r → βv2 x = βv x)
    (hm : mem = true → βv2 r = b ∧ (∃ cs e, w.heap[b]? = some (.cells cs e (0, 0)) ∧ cs.size = n ∧ ∀ o (ho : o < cs.size), cs[o].oneCell' = true) ∧ ¬ OwnB F h βv β b ∧ ¬ ShB F h β b) :
    Lays (F.put r (some ⟨mem, List.replicate n .dead⟩)) h βv2 β w := by
  have back : ∀ {q c}, AtN (F.put r (some ⟨mem, List.replicate n .dead⟩)) h q c → AtN F h q c ∧ q.root ≠ r ∨ (q.root = r ∧ c = .dead ∧ ∃ o, q = .cell r o ∧ o < n) := fun {q c} ha => by
    by_cases hq : q.root = r
    · refine .inr ⟨hq, ?_⟩
      obtain ⟨ha, hx⟩ := ha
      clear hx
      induction q generalizing c with
      | cell r' o =>
        simp only [Pl.root] at hq
        subst hq
        obtain ⟨R, h1, h2⟩ := ha
        simp only [Forest.get_put, if_true, Option.some.injEq] at h1
        subst h1
        have hlt := (List.getElem?_eq_some_iff.1 h2).1
        simp only [List.length_replicate] at hlt
        simp only [List.getElem?_replicate, hlt, if_true, Option.some.injEq] at h2
        exact ⟨h2.symm, o, rfl, hlt⟩
      | sub q i o ih =>
        obtain ⟨c0, h0, hi, _⟩ := ha
        obtain ⟨rfl, _⟩ := ih hq h0
        simp [Cell.len] at hi
    · exact .inl ⟨⟨(at_get (by simp [hq])).1 ha.1, ha.2⟩, hq⟩
  have rowsR : ∀ {q m τ l}, AtN (F.put r (some ⟨mem, List.replicate n .dead⟩)) h q (.rows m τ l) → AtN F h q (.rows m τ l) := fun {q m τ l} ha => by
    rcases back ha with ⟨h1, _⟩ | ⟨_, h1, _⟩
    · exact h1
    · cases h1
  have varB : ∀ {r' R}, (F.put r (some ⟨mem, List.replicate n .dead⟩)).get r' = some R → R.mem = true → (r' ≠ r ∧ F.get r' = some R) ∨ (r' = r ∧ mem = true ∧ R.cs.length = n) := fun {r' R} h1 h2 => by
    by_cases hq : r' = r
    · subst hq
      simp only [Forest.get_put, if_true, Option.some.injEq] at h1
      subst h1
      exact .inr ⟨rfl, h2, by simp⟩
    · rw [Forest.get_put, if_neg hq] at h1
      exact .inl ⟨hq, h1⟩
  have hO : ∀ b', OwnB (F.put r (some ⟨mem, List.replicate n .dead⟩)) h βv2 β b' → OwnB F h βv β b' ∨ (mem = true ∧ b' = βv2 r) := by
    rintro b' (⟨r', R, h1, h2, h3⟩ | ⟨q2, m, τ, l, h1, h2⟩)
    · rcases varB h1 h2 with ⟨k1, k2⟩ | ⟨rfl, k2, _⟩
      · rw [hβ _ k1] at h3; exact .inl (.inl ⟨r', R, k2, h2, h3⟩)
      · exact .inr ⟨k2, h3.symm⟩
    · exact .inl (.inr ⟨q2, m, τ, l, rowsR h1, h2⟩)
  exact {
    cells := fun q c ha hmq => by
      rcases back ha with ⟨h1, h2⟩ | ⟨h1, rfl, o, rfl, ho⟩
      · obtain ⟨u, g1, g2⟩ := hL.cells q c h1 ((inMem_get (by simp [h2])).1 hmq)
        refine ⟨u, ?_, g2.vars fun x ex r' hr' => ?_⟩
        · have : q.addr βv2 β = q.addr βv β := by
            cases q with
            | cell r' o => simp only [Pl.root] at h2; simp only [Pl.addr, hβ _ h2]
            | sub q i o => rfl
          rw [this]; exact g1
        · subst ex
          have hne : r' ≠ r := by
            rintro rfl
            have := g2.2
            cases x with
            | ptr q' =>
              cases q' with
              | cell r2 o2 =>
                obtain ⟨⟨R, k1, _⟩, _⟩ := this
                simp only [AC.vars, List.mem_singleton] at hr'
                subst hr'
                rw [hr] at k1; cases k1
              | sub q' i o => simp [AC.vars] at hr'
            | clo f caps =>
              simp only [AC.vars, List.mem_map] at hr'
              obtain ⟨y, hy, rfl⟩ := hr'
              obtain ⟨R, k1, _⟩ := this.1 y hy
              rw [hr] at k1; cases k1
            | _ => simp [AC.vars] at hr'
          exact ⟨by rw [Forest.get_put, if_neg hne], hβ _ hne⟩
      · obtain ⟨R, k1, k2⟩ := hmq
        rcases varB k1 k2 with ⟨k3, _⟩ | ⟨_, k4, _⟩
        · exact absurd rfl k3
        · obtain ⟨e1, ⟨cs, e, e2, e3, e4⟩, _⟩ := hm k4
          have ho' : o < cs.size := by omega
          refine ⟨cs[o], ?_, e4 o ho'⟩
          simp only [Pl.addr, e1]
          rw [cell_of_row w b o cs e (0, 0) e2]
          exact Array.getElem?_eq_getElem ho'
    rows := fun q m τ l ha => hL.rows q m τ l (rowsR ha)
    ownb := fun q m τ l ha => hL.ownb q m τ l (rowsR ha)
    vars := fun r' R h1 h2 => by
      rcases varB h1 h2 with ⟨k1, k2⟩ | ⟨rfl, k2, k3⟩
      · rw [hβ _ k1]; exact hL.vars r' R k2 h2
      · obtain ⟨e1, ⟨cs, e, e2, e3, _⟩, _⟩ := hm k2
        rw [e1]
        exact ⟨cs, e, e2, by omega⟩
    vv := fun r1 r2 R1 R2 h1 m1 h2 m2 e => by
      rcases varB h1 m1 with ⟨k1, k2⟩ | ⟨rfl, k2, k3⟩ <;> rcases varB h2 m2 with ⟨j1, j2⟩ | ⟨rfl, j2, j3⟩
      · rw [hβ _ k1, hβ _ j1] at e; exact hL.vv r1 r2 R1 R2 k2 m1 j2 m2 e
      · obtain ⟨e1, _, e3, _⟩ := hm j2
        rw [hβ _ k1, e1] at e
        exact absurd (.inl ⟨r1, R1, k2, m1, e⟩) e3
      · obtain ⟨e1, _, e3, _⟩ := hm k2
        rw [hβ _ j1, e1] at e
        exact absurd (.inl ⟨r2, R2, j2, m2, e.symm⟩) e3
      · rfl
    rr := fun q q' m m' τ τ' l l' h1 h2 h3 h4 => hL.rr q q' m m' τ τ' l l' (rowsR h1) h2 h3 (rowsR h4)
    vr := fun r' R q m τ l h1 h2 h3 h4 h5 e => by
      rcases varB h1 h2 with ⟨k1, k2⟩ | ⟨rfl, k2, k3⟩
      · rw [hβ _ k1] at e; exact hL.vr r' R q m τ l k2 h2 (rowsR h3) h4 h5 e
      · obtain ⟨e1, _, e3, _⟩ := hm k2
        rw [e1] at e
        exact e3 (.inr ⟨q, m, τ, l, rowsR h3, h4, h5, e.symm⟩)
    sh := fun b' hs ho => by
      obtain ⟨q, m, τ, l, h1, h2, h3, h4⟩ := hs
      rcases hO b' ho with ho | ⟨k1, k2⟩
      · exact hL.sh b' ⟨q, m, τ, l, rowsR h1, h2, h3, h4⟩ ho
      · obtain ⟨e1, _, _, e4⟩ := hm k1
        exact e4 ⟨q, m, τ, l, rowsR h1, h2, h3, h4.trans (k2.trans e1)⟩ }
end
end Go.Proofs.YtnceiegngfpmkaaAm
namespace Go.Proofs.YtnceiegngfpmkaaAm
set_option linter.unusedVariables false

section
variable {βv : Nat → Nat} {γ γ' : Layout} {w : World}
abbrev top : Pl := .cell 0 0
/-- A tree without rows that matter. -/
theorem Lays.bare {c : Cell} (hc : c.len = 0) (hr : ∀ m τ l, c = .rows m τ l → (γ top).sz = τ.size ∧ (γ top).cap = 0) : Lays (solo c) none βv γ w := by
  have one : ∀ {q c2}, AtN (solo c) none q c2 → q = top ∧ c2 = c := fun {q c2} h => by
    obtain ⟨p, rfl, h2⟩ := solo_at.1 h.1
    cases p with
    | nil => exact ⟨rfl, h2⟩
    | cons x p => obtain ⟨i, o⟩ := x; obtain ⟨c1, h3, _⟩ := h2; omega
  exact {
    cells := fun q c2 h hm => by
      obtain ⟨rfl, rfl⟩ := one h
      obtain ⟨R, h1, h2⟩ := hm
      rw [solo_noVar h1] at h2; cases h2
    rows := fun q m τ l h => by
      obtain ⟨rfl, rfl⟩ := one h
      simp only [Cell.len] at hc
      exact ⟨(hr _ _ _ rfl).1, by omega⟩
    ownb := fun q m τ l h _ h2 => by obtain ⟨rfl, rfl⟩ := one h; exact absurd (hr _ _ _ rfl).2 h2
    vars := fun r R h1 h2 => by rw [solo_noVar h1] at h2; cases h2
    vv := fun r r' R R' h1 h2 => by rw [solo_noVar h1] at h2; cases h2
    rr := fun q1 q2 m m' τ τ' l l' h1 _ h2 => by obtain ⟨rfl, rfl⟩ := one h1; exact absurd (hr _ _ _ rfl).2 h2
    vr := fun r R q2 m τ l h1 h2 => by rw [solo_noVar h1] at h2; cases h2
    sh := fun b hs => by
      obtain ⟨q, m, τ, l, h1, _, h2, _⟩ := hs
      obtain ⟨rfl, rfl⟩ := one h1
      simp only [Cell.len] at hc
      exact absurd (List.eq_nil_of_length_eq_zero hc) h2.1 }
theorem bare_own {c : Cell} (hc : c.len = 0) (hr : ∀ m τ l, c = .rows m τ l → (γ top).cap = 0) (b : Nat) : ¬ OwnB (solo c) none βv γ b ∧ ¬ ShB (solo c) none γ b := by
  have one : ∀ {q c2}, AtN (solo c) none q c2 → q = top ∧ c2 = c := fun {q c2} h => by
    obtain ⟨p, rfl, h2⟩ := solo_at.1 h.1
    cases p with
    | nil => exact ⟨rfl, h2⟩
    | cons x p => obtain ⟨i, o⟩ := x; obtain ⟨c1, h3, _⟩ := h2; omega
  constructor
  · rintro (⟨r, R, h1, h2, _⟩ | ⟨q2, m, τ, l, h1, h2, h3, rfl⟩)
    · rw [solo_noVar h1] at h2; cases h2
    · obtain ⟨rfl, rfl⟩ := one h1; exact h3 (hr _ _ _ rfl)
  · rintro ⟨q, m, τ, l, h1, _, h2, _⟩
    obtain ⟨rfl, rfl⟩ := one h1
    simp only [Cell.len] at hc
    exact absurd (List.eq_nil_of_length_eq_zero hc) h2.1

/-- Two trees: what the second has, the first has, at another place. -/
theorem Lays.embed {c c' : Cell} (hL : Lays (solo c) none βv γ w) (φ : List (Nat × Nat) → List (Nat × Nat)) (hφ : ∀ p p', φ p = φ p' → p = p')
    (hsnoc : ∀ p i o, ∃ i', φ (p ++ [(i, o)]) = φ p ++ [(i', o)] ∧ (γ' (top.app p)).base + i * (γ' (top.app p)).sz = (γ (top.app (φ p))).base + i' * (γ (top.app (φ p))).sz)
    (hat : ∀ p c2, AtC c' p c2 → ∃ c1, AtC c (φ p) c1 ∧ (∀ m' τ l', c2 = .rows m' τ l' → ∃ m l, c1 = .rows m τ l ∧ (m'.isOwn = true → m.isOwn = true) ∧ l'.length + (γ (top.app (φ p))).cap ≤ l.length + (γ' (top.app p)).cap ∧ (l' ≠ [] → l ≠ []) ∧ (p ≠ [] → l'.length = l.length)) ∧ (∀ x, c2 = .v x → c1 = .v x))
    (hlay : ∀ p, (γ' (top.app p)).b = (γ (top.app (φ p))).b ∧ (γ' (top.app p)).sz = (γ (top.app (φ p))).sz ∧ ((γ' (top.app p)).cap ≠ 0 → (γ (top.app (φ p))).cap ≠ 0 ∧
      (γ' (top.app p)).base + (γ' (top.app p)).cap * (γ' (top.app p)).sz ≤ (γ (top.app (φ p))).base + (γ (top.app (φ p))).cap * (γ (top.app (φ p))).sz) ∧ (p ≠ [] → γ' (top.app p) = γ (top.app (φ p)))) :
    Lays (solo c') none βv γ' w ∧ (∀ b, OwnB (solo c') none βv γ' b → OwnB (solo c) none βv γ b) ∧ (∀ b, ShB (solo c') none γ' b → OwnB (solo c) none βv γ b ∨ ShB (solo c) none γ b) := by
  have up : ∀ {q c2}, AtN (solo c') none q c2 → ∃ p, q = top.app p ∧ AtC c' p c2 := fun {q c2} h => solo_at.1 h.1
  have rowUp : ∀ {p m' τ l'}, AtC c' p (.rows m' τ l') → ∃ m l, AtN (solo c) none (top.app (φ p)) (.rows m τ l) ∧ (m'.isOwn = true → m.isOwn = true) ∧ l'.length + (γ (top.app (φ p))).cap ≤ l.length + (γ' (top.app p)).cap ∧ (l' ≠ [] → l ≠ []) := fun {p m' τ l'} h => by
    obtain ⟨c1, h1, h2, _⟩ := hat p _ h
    obtain ⟨m, l, rfl, h3, h4, h5, _⟩ := h2 _ _ _ rfl
    exact ⟨m, l, solo_atN h1, h3, h4, h5⟩
  have hO : ∀ b, OwnB (solo c') none βv γ' b → OwnB (solo c) none βv γ b := by
    rintro b (⟨r, R, h1, h2, _⟩ | ⟨q2, m, τ, l, h1, h2, h3, rfl⟩)
    · rw [solo_noVar h1] at h2; cases h2
    · obtain ⟨p, rfl, h4⟩ := up h1
      obtain ⟨m0, l0, k1, k2, k3, k4⟩ := rowUp h4
      exact .inr ⟨_, m0, τ, l0, k1, k2 h2, ((hlay p).2.2.1 h3).1, (hlay p).1.symm⟩
  have hS : ∀ b, ShB (solo c') none γ' b → OwnB (solo c) none βv γ b ∨ ShB (solo c) none γ b := by
    rintro b ⟨q2, m, τ, l, h1, h2, h3, rfl⟩
    obtain ⟨p, rfl, h4⟩ := up h1
    obtain ⟨m0, l0, k1, k2, k3, k4⟩ := rowUp h4
    cases hm : m0.isOwn with
    | false => exact .inr ⟨_, m0, τ, l0, k1, hm, ⟨k4 h3.1, h3.2⟩, (hlay p).1.symm⟩
    | true =>
      have h5 := (hL.rows _ _ _ _ k1).2
      have h6 : l0.length ≠ 0 := fun e => k4 h3.1 (List.eq_nil_of_length_eq_zero e)
      exact .inl (.inr ⟨_, m0, τ, l0, k1, hm, by omega, (hlay p).1.symm⟩)
  refine ⟨?_, hO, hS⟩
  exact {
    cells := fun q c2 h hm => by
      obtain ⟨p, rfl, h2⟩ := up h
      rcases List.eq_nil_or_concat p with rfl | ⟨p', ⟨i, o⟩, rfl⟩
      · obtain ⟨R, h1, h2⟩ := hm
        rw [solo_noVar h1] at h2; cases h2
      · simp only [List.concat_eq_append] at h2 hm ⊢
        obtain ⟨c1, h3, h4, h5⟩ := hat _ _ h2
        have hne : φ (p' ++ [(i, o)]) ≠ [] := by
          obtain ⟨i', e, _⟩ := hsnoc p' i o
          rw [e]; simp
        obtain ⟨u, g1, g2⟩ := hL.cells _ _ (solo_atN h3) (solo_inMem _ _ hne)
        refine ⟨u, ?_, ?_⟩
        · obtain ⟨i', e, e2⟩ := hsnoc p' i o
          rw [e] at g1
          rw [Pl.app_append] at g1 ⊢
          simp only [Pl.app, Pl.addr] at g1 ⊢
          rw [e2, (hlay p').1]
          exact g1
        · rw [(hlay _).2.2.2 (by simp)]
          rcases atC_plain (by simp) h2 with ⟨x, rfl⟩ | ⟨m', τ, l', rfl⟩
          · rw [h5 x rfl] at g2; exact g2
          · obtain ⟨m, l, rfl, _, _, _, h6⟩ := h4 _ _ _ rfl
            simp only [CellRel] at g2 ⊢
            rw [h6 (by simp)]; exact g2
    rows := fun q m τ l h => by
      obtain ⟨p, rfl, h2⟩ := up h
      obtain ⟨m0, l0, k1, k2, k3, k4⟩ := rowUp h2
      obtain ⟨g1, g2⟩ := hL.rows _ _ _ _ k1
      exact ⟨(hlay p).2.1.trans g1, by omega⟩
    ownb := fun q m τ l h hm hc => by
      obtain ⟨p, rfl, h2⟩ := up h
      obtain ⟨m0, l0, k1, k2, k3, k4⟩ := rowUp h2
      obtain ⟨j1, j2⟩ := (hlay p).2.2.1 hc
      obtain ⟨cs, e, g1, g2⟩ := hL.ownb _ _ _ _ k1 (k2 hm) j1
      exact ⟨cs, e, by rw [(hlay p).1]; exact g1, by omega⟩
    vars := fun r R h1 h2 => by rw [solo_noVar h1] at h2; cases h2
    vv := fun r r' R R' h1 h2 => by rw [solo_noVar h1] at h2; cases h2
    rr := fun q1 q2 m m' τ τ' l l' h1 o1 k1 h2 o2 k2 e => by
      obtain ⟨p1, rfl, a1⟩ := up h1
      obtain ⟨p2, rfl, a2⟩ := up h2
      obtain ⟨m1, l1, b1, b2, _⟩ := rowUp a1
      obtain ⟨m2, l2, d1, d2, _⟩ := rowUp a2
      rw [(hlay p1).1, (hlay p2).1] at e
      have := hL.rr _ _ m1 m2 τ τ' l1 l2 b1 (b2 o1) ((hlay p1).2.2.1 k1).1 d1 (d2 o2) ((hlay p2).2.2.1 k2).1 e
      rw [hφ _ _ (Pl.app_self this)]
    vr := fun r R q2 m τ l h1 h2 => by rw [solo_noVar h1] at h2; cases h2
    sh := fun b hs ho => by
      obtain ⟨q2, m, τ, l, h1, h2, h3, rfl⟩ := hs
      obtain ⟨p, rfl, h4⟩ := up h1
      obtain ⟨m0, l0, k1, k2, k3, k4⟩ := rowUp h4
      cases hm : m0.isOwn with
      | false => exact hL.sh _ ⟨_, m0, τ, l0, k1, hm, ⟨k4 h3.1, h3.2⟩, (hlay p).1.symm⟩ (hO _ ho)
      | true =>
        have h5 := (hL.rows _ _ _ _ k1).2
        have h6 : l0.length ≠ 0 := fun e => k4 h3.1 (List.eq_nil_of_length_eq_zero e)
        rcases ho with ⟨r, R, g1, g2, _⟩ | ⟨q3, m3, τ3, l3, g1, g2, g3, g4⟩
        · rw [solo_noVar g1] at g2; cases g2
        · obtain ⟨p3, rfl, a3⟩ := up g1
          obtain ⟨m4, l4, b1, b2, _⟩ := rowUp a3
          rw [(hlay p3).1, (hlay p).1] at g4
          have := hL.rr _ _ m4 m0 τ3 τ l4 l0 b1 (b2 g2) ((hlay p3).2.2.1 g3).1 k1 hm (by omega) g4
          have := hφ _ _ (Pl.app_self this)
          subst this
          have := atC_uniq a3 h4
          cases this
          rw [g2] at h2; cases h2 }
where
  atC_uniq {c c1 c2 : Cell} {p : List (Nat × Nat)} (h1 : AtC c p c1) (h2 : AtC c p c2) : c1 = c2 := (solo_atN h1).uniq (solo_atN h2)
end
end Go.Proofs.YtnceiegngfpmkaaAm
namespace Go.Proofs.YtnceiegngfpmkaaAm
set_option linter.unusedVariables false
section
variable {βv : Nat → Nat} {γ γ' : Layout} {w : World}
theorem cut_getD {α : Type} (l : List α) (lo len i : Nat) (d : α) (h : i < len) : ((l.drop lo).take len).getD i d = l.getD (lo + i) d := by
  simp [List.getD, h]
/-- A part of a row. -/
theorem Lays.cut {m : Mode} {τ : Ty} {l : List (Interp τ)} {lo len : Nat} (hL : Lays (solo (.rows m τ l)) none βv γ w) (hlen : lo + len ≤ l.length)
    (h0 : γ' top = { γ top with base := (γ top).base + lo * (γ top).sz, cap := (γ top).cap - lo }) (h1 : ∀ i o p, γ' (top.app ((i, o) :: p)) = γ (top.app ((lo + i, o) :: p))) :
    Lays (solo (.rows m τ ((l.drop lo).take len))) none βv γ' w ∧ (∀ b, OwnB (solo (.rows m τ ((l.drop lo).take len))) none βv γ' b → OwnB (solo (.rows m τ l)) none βv γ b) ∧
      (∀ b, ShB (solo (.rows m τ ((l.drop lo).take len))) none γ' b → ShB (solo (.rows m τ l)) none γ b) := by
  have hrow := hL.rows top m τ l (solo_atN (p := []) rfl)
  have key : ∀ p c2, AtC (.rows m τ ((l.drop lo).take len)) p c2 → (p = [] ∧ c2 = .rows m τ ((l.drop lo).take len)) ∨ ∃ i o p', p = (i, o) :: p' ∧ AtC (.rows m τ l) ((lo + i, o) :: p') c2 := by
    intro p c2 h
    cases p with
    | nil => exact .inl ⟨rfl, h⟩
    | cons x p =>
      obtain ⟨i, o⟩ := x
      obtain ⟨c1, h2, h3, h4⟩ := h
      simp only [Cell.len, List.length_take, List.length_drop] at h2
      refine .inr ⟨i, o, p, rfl, c1, by simp only [Cell.len]; omega, ?_, h4⟩
      simp only [Cell.sub] at h3 ⊢
      rwa [cut_getD _ _ _ _ _ (by omega)] at h3
  have := Lays.embed (c' := .rows m τ ((l.drop lo).take len)) (γ' := γ') hL (fun p => match p with | [] => [] | (i, o) :: p => (lo + i, o) :: p)
    (by
      intro p p' e
      cases p with
      | nil => cases p' with
        | nil => rfl
        | cons y p' => obtain ⟨j, o'⟩ := y; cases e
      | cons x p =>
        obtain ⟨i, o⟩ := x
        cases p' with
        | nil => cases e
        | cons y p' =>
          obtain ⟨j, o'⟩ := y
          simp only [List.cons.injEq, Prod.mk.injEq] at e
          obtain ⟨⟨e1, e2⟩, e3⟩ := e
          rw [show i = j by omega, e2, e3])
    (by
      intro p i o
      cases p with
      | nil =>
        refine ⟨lo + i, rfl, ?_⟩
        simp only [Pl.app]
        rw [h0, Nat.add_mul, Nat.add_assoc]
      | cons x p =>
        obtain ⟨j, o'⟩ := x
        refine ⟨i, rfl, ?_⟩
        rw [h1])
    (by
      intro p c2 h
      rcases key p c2 h with ⟨rfl, rfl⟩ | ⟨i, o, p', rfl, h2⟩
      · refine ⟨_, rfl, fun m' τ' l' e => ?_, fun x e => by cases e⟩
        cases e
        refine ⟨m, l, rfl, fun h => h, ?_, fun hne e => ?_, fun hne => absurd rfl hne⟩
        · simp only [Pl.app]
          rw [h0]
          simp only [List.length_take, List.length_drop]
          omega
        · subst e; exact hne (by simp)
      · refine ⟨c2, h2, fun m' τ' l' e => ?_, fun x e => e⟩
        subst e
        refine ⟨m', l', rfl, fun h => h, ?_, fun h => h, fun _ => rfl⟩
        rw [h1]
        exact Nat.le_refl _)
    (by
      intro p
      cases p with
      | nil =>
        simp only [Pl.app]
        rw [h0]
        refine ⟨rfl, rfl, fun hc => ⟨?_, ?_⟩, fun hne => absurd rfl hne⟩
        · simp only at hc; omega
        · simp only at hc ⊢
          rw [Nat.sub_mul]
          have := Nat.mul_le_mul_right (γ top).sz (show lo ≤ (γ top).cap by omega)
          omega
      | cons x p =>
        obtain ⟨i, o⟩ := x
        have e := h1 i o p
        exact ⟨by rw [e], by rw [e], fun hc => ⟨by rw [e] at hc; exact hc, by rw [e]; exact Nat.le_refl _⟩, fun _ => e⟩)
  refine ⟨this.1, this.2.1, fun b hs => ?_⟩
  obtain ⟨q2, m', τ', l', h2, h3, h4, rfl⟩ := hs
  obtain ⟨p, rfl, h5⟩ := solo_at.1 h2.1
  rcases key p _ h5 with ⟨rfl, e⟩ | ⟨i, o, p', rfl, h6⟩
  · cases e
    refine ⟨top, m, τ, l, solo_atN (p := []) rfl, h3, ⟨fun e => h4.1 (by subst e; simp), h4.2⟩, ?_⟩
    simp only [Pl.app]
    rw [h0]
  · rw [h1]
    exact ⟨_, m', τ', l', solo_atN h6, h3, h4, rfl⟩

theorem reMode_atC : ∀ {p : List (Nat × Nat)} {c c2 : Cell} {m : Mode}, AtC (c.reMode m) p c2 → c.fits m = true → ∃ c1 m', AtC c p c1 ∧ c2 = c1.reMode m' ∧ c1.fits m' = true
  | [], c, c2, m, h, hf => ⟨c, m, rfl, h, hf⟩
  | (i, o) :: p, c, c2, m, h, hf => by
    obtain ⟨c1, h1, h2, h3⟩ := h
    cases c with
    | rows m0 τ l =>
      simp only [Cell.reMode, Cell.len, Cell.sub, Cell.fits] at h1 h2 hf
      rw [← toCells_reMode m0.next m.next, List.getElem?_map] at h2
      obtain ⟨c0, g1, rfl⟩ := Option.map_eq_some_iff.1 h2
      have hf0 : c0.fits m.next = true := by
        rcases sub_mode (c := .rows m0 τ l) (i := i) (o := o) (s := c0) g1 with ⟨x, rfl⟩ | ⟨τ', l', rfl⟩
        · rfl
        · exact Mode.covers_next hf
      obtain ⟨c3, m', k1, k2, k3⟩ := reMode_atC h3 hf0
      exact ⟨c3, m', ⟨c0, h1, g1, k1⟩, k2, k3⟩
    | v x => simp [Cell.reMode, Cell.len] at h1
    | ref x => simp [Cell.reMode, Cell.len] at h1
    | dead => simp [Cell.reMode, Cell.len] at h1
/-- A tree that is held with fewer rights. -/
theorem Lays.weaken {c : Cell} {m : Mode} (hL : Lays (solo c) none βv γ w) (hf : c.fits m = true) :
    Lays (solo (c.reMode m)) none βv γ w ∧ (∀ b, OwnB (solo (c.reMode m)) none βv γ b → OwnB (solo c) none βv γ b) ∧ (∀ b, ShB (solo (c.reMode m)) none γ b → OwnB (solo c) none βv γ b ∨ ShB (solo c) none γ b) :=
  Lays.embed hL (fun p => p) (fun _ _ e => e) (fun p i o => ⟨i, rfl, rfl⟩)
    (fun p c2 h => by
      obtain ⟨c1, m', h1, rfl, h3⟩ := reMode_atC h hf
      refine ⟨c1, h1, fun m2 τ l e => ?_, fun x e => ?_⟩
      · cases c1 with
        | rows m1 τ1 l1 =>
          simp only [Cell.reMode] at e
          cases e
          exact ⟨m1, _, rfl, fun ho => Mode.covers_own h3 ho, Nat.le_refl _, fun h => h, fun _ => rfl⟩
        | v x => cases e
        | ref x => cases e
        | dead => cases e
      · cases c1 with
        | rows m1 τ1 l1 => cases e
        | v y => exact e
        | ref y => cases e
        | dead => cases e)
    (fun p => ⟨rfl, rfl, fun h => ⟨h, Nat.le_refl _⟩, fun _ => rfl⟩)

/-- A row put together out of trees. -/
theorem Lays.build {m : Mode} {τ : Ty} {l : List (Interp τ)} {γio : Nat → Nat → Layout}
    (hsz : (γ top).sz = τ.size) (hcap : l.length ≤ (γ top).cap)
    (hown : m.isOwn = true → (γ top).cap ≠ 0 → ∃ cs e, w.heap[(γ top).b]? = some (.cells cs e (0, 0)) ∧ (γ top).base + (γ top).cap * (γ top).sz ≤ cs.size)
    (hcells : ∀ i o c, i < l.length → (Cell.rows m τ l).sub i o = some c → ∃ u, w.cell? ⟨(γ top).b, (γ top).base + i * (γ top).sz + o, none⟩ = some u ∧ CellRel [] βv γ c (γio i o top) u)
    (htree : ∀ i o c, i < l.length → (Cell.rows m τ l).sub i o = some c → Lays (solo c) none βv (γio i o) w)
    (hγ : ∀ i o p, γ (top.app ((i, o) :: p)) = γio i o (top.app p))
    (hoo : ∀ i o c i' o' c' b, i < l.length → (Cell.rows m τ l).sub i o = some c → i' < l.length → (Cell.rows m τ l).sub i' o' = some c' → OwnB (solo c) none βv (γio i o) b → OwnB (solo c') none βv (γio i' o') b → i = i' ∧ o = o')
    (hso : ∀ i o c i' o' c' b, i < l.length → (Cell.rows m τ l).sub i o = some c → i' < l.length → (Cell.rows m τ l).sub i' o' = some c' → ShB (solo c) none (γio i o) b → ¬ OwnB (solo c') none βv (γio i' o') b)
    (hto : (γ top).cap ≠ 0 → ∀ i o c, i < l.length → (Cell.rows m τ l).sub i o = some c → ¬ OwnB (solo c) none βv (γio i o) (γ top).b)
    (hts : m.isOwn = true → (γ top).cap ≠ 0 → ∀ i o c, i < l.length → (Cell.rows m τ l).sub i o = some c → ¬ ShB (solo c) none (γio i o) (γ top).b) :
    Lays (solo (.rows m τ l)) none βv γ w ∧
    (∀ b, OwnB (solo (.rows m τ l)) none βv γ b → (m.isOwn = true ∧ (γ top).cap ≠ 0 ∧ b = (γ top).b) ∨ ∃ i o c, i < l.length ∧ (Cell.rows m τ l).sub i o = some c ∧ OwnB (solo c) none βv (γio i o) b) ∧
    (∀ b, ShB (solo (.rows m τ l)) none γ b → (m.isOwn = false ∧ (l ≠ [] ∧ τ.size ≠ 0) ∧ b = (γ top).b) ∨ ∃ i o c, i < l.length ∧ (Cell.rows m τ l).sub i o = some c ∧ ShB (solo c) none (γio i o) b) := by
  have up : ∀ {q c2}, AtN (solo (.rows m τ l)) none q c2 → (q = top ∧ c2 = .rows m τ l) ∨ ∃ i o p c, q = top.app ((i, o) :: p) ∧ i < l.length ∧ (Cell.rows m τ l).sub i o = some c ∧ AtC c p c2 := fun {q c2} h => by
    obtain ⟨p, rfl, h2⟩ := solo_at.1 h.1
    cases p with
    | nil => exact .inl ⟨rfl, h2⟩
    | cons x p => obtain ⟨i, o⟩ := x; obtain ⟨c, h3, h4, h5⟩ := h2; exact .inr ⟨i, o, p, c, rfl, h3, h4, h5⟩
  have hO : ∀ b, OwnB (solo (.rows m τ l)) none βv γ b → (m.isOwn = true ∧ (γ top).cap ≠ 0 ∧ b = (γ top).b) ∨ ∃ i o c, i < l.length ∧ (Cell.rows m τ l).sub i o = some c ∧ OwnB (solo c) none βv (γio i o) b := by
    rintro b (⟨r, R, h1, h2, _⟩ | ⟨q2, m2, τ2, l2, h1, h2, h3, rfl⟩)
    · rw [solo_noVar h1] at h2; cases h2
    · rcases up h1 with ⟨rfl, e⟩ | ⟨i, o, p, c, rfl, g1, g2, g3⟩
      · cases e; exact .inl ⟨h2, h3, rfl⟩
      · rw [hγ] at h3 ⊢
        exact .inr ⟨i, o, c, g1, g2, .inr ⟨_, m2, τ2, l2, solo_atN g3, h2, h3, rfl⟩⟩
  have hS : ∀ b, ShB (solo (.rows m τ l)) none γ b → (m.isOwn = false ∧ (l ≠ [] ∧ τ.size ≠ 0) ∧ b = (γ top).b) ∨ ∃ i o c, i < l.length ∧ (Cell.rows m τ l).sub i o = some c ∧ ShB (solo c) none (γio i o) b := by
    rintro b ⟨q2, m2, τ2, l2, h1, h2, h3, rfl⟩
    rcases up h1 with ⟨rfl, e⟩ | ⟨i, o, p, c, rfl, g1, g2, g3⟩
    · cases e; exact .inl ⟨h2, h3, rfl⟩
    · rw [hγ]
      exact .inr ⟨i, o, c, g1, g2, ⟨_, m2, τ2, l2, solo_atN g3, h2, h3, rfl⟩⟩
  refine ⟨?_, hO, hS⟩
  exact {
    cells := fun q c2 h hm => by
      rcases up h with ⟨rfl, rfl⟩ | ⟨i, o, p, c, rfl, g1, g2, g3⟩
      · obtain ⟨R, h1, h2⟩ := hm
        rw [solo_noVar h1] at h2; cases h2
      · rcases List.eq_nil_or_concat p with rfl | ⟨p', ⟨i', o'⟩, rfl⟩
        · simp only [AtC] at g3
          subst g3
          obtain ⟨u, k1, k2⟩ := hcells i o _ g1 g2
          refine ⟨u, k1, ?_⟩
          rw [hγ]
          refine k2.plain ?_
          rcases sub_mode g2 with ⟨x, e⟩ | ⟨τ', l', e⟩
          · exact .inl ⟨x, e⟩
          · exact .inr ⟨_, τ', l', e⟩
        · simp only [List.concat_eq_append] at g3 hm ⊢
          obtain ⟨u, k1, k2⟩ := (htree i o c g1 g2).cells _ _ (solo_atN g3) (solo_inMem _ _ (by simp))
          refine ⟨u, ?_, ?_⟩
          · have e1 : top.app ((i, o) :: (p' ++ [(i', o')])) = (top.app ((i, o) :: p')).sub i' o' := by
              rw [← List.cons_append, Pl.app_append]; rfl
            have e2 : top.app (p' ++ [(i', o')]) = (top.app p').sub i' o' := by rw [Pl.app_append]; rfl
            rw [e2] at k1
            rw [e1]
            simp only [Pl.addr] at k1 ⊢
            rw [hγ]
            exact k1
          · rw [hγ]
            exact k2.plain (atC_plain (by simp) g3)
    rows := fun q m2 τ2 l2 h => by
      rcases up h with ⟨rfl, e⟩ | ⟨i, o, p, c, rfl, g1, g2, g3⟩
      · cases e; exact ⟨hsz, hcap⟩
      · rw [hγ]; exact (htree i o c g1 g2).rows _ _ _ _ (solo_atN g3)
    ownb := fun q m2 τ2 l2 h hm hc => by
      rcases up h with ⟨rfl, e⟩ | ⟨i, o, p, c, rfl, g1, g2, g3⟩
      · cases e; exact hown hm hc
      · rw [hγ] at hc ⊢; exact (htree i o c g1 g2).ownb _ _ _ _ (solo_atN g3) hm hc
    vars := fun r R h1 h2 => by rw [solo_noVar h1] at h2; cases h2
    vv := fun r r' R R' h1 h2 => by rw [solo_noVar h1] at h2; cases h2
    rr := fun q1 q2 m1 m2 τ1 τ2 l1 l2 h1 o1 k1 h2 o2 k2 e => by
      rcases up h1 with ⟨rfl, e1⟩ | ⟨i, o, p, c, rfl, g1, g2, g3⟩ <;> rcases up h2 with ⟨rfl, e2⟩ | ⟨i', o', p', c', rfl, j1, j2, j3⟩
      · rfl
      · rw [hγ] at k2 e
        exact absurd (.inr ⟨_, m2, τ2, l2, solo_atN j3, o2, k2, e.symm⟩) (hto k1 i' o' c' j1 j2)
      · rw [hγ] at k1 e
        exact absurd (.inr ⟨_, m1, τ1, l1, solo_atN g3, o1, k1, e⟩) (hto k2 i o c g1 g2)
      · rw [hγ] at k1 k2
        rw [hγ, hγ] at e
        obtain ⟨rfl, rfl⟩ := hoo i o c i' o' c' _ g1 g2 j1 j2 (.inr ⟨_, m1, τ1, l1, solo_atN g3, o1, k1, rfl⟩) (.inr ⟨_, m2, τ2, l2, solo_atN j3, o2, k2, e.symm⟩)
        have e3 : c = c' := Option.some.inj (g2.symm.trans j2)
        subst e3
        have := (htree i o c g1 g2).rr _ _ m1 m2 τ1 τ2 l1 l2 (solo_atN g3) o1 k1 (solo_atN j3) o2 k2 e
        rw [Pl.app_self this]
    vr := fun r R q2 m τ l h1 h2 => by rw [solo_noVar h1] at h2; cases h2
    sh := fun b hs ho => by
      rcases hS b hs with ⟨k1, k2, rfl⟩ | ⟨i, o, c, g1, g2, g3⟩ <;> rcases hO _ ho with ⟨n1, n2, n3⟩ | ⟨i', o', c', j1, j2, j3⟩
      · rw [k1] at n1; cases n1
      · have : l.length ≠ 0 := fun e => k2.1 (List.eq_nil_of_length_eq_zero e)
        exact hto (by omega) i' o' c' j1 j2 j3
      · subst n3; exact hts n1 n2 i o c g1 g2 g3
      · exact hso i o c i' o' c' b g1 g2 j1 j2 g3 j3 }
end
end Go.Proofs.YtnceiegngfpmkaaAm
namespace Go.Proofs.YtnceiegngfpmkaaAm
set_option linter.unusedVariables false

/-- What a temporary holds: one cell's worth, a struct's or an array's cells, several results; one cell's worth, or a struct's cells, whose value has a name. (aux: values on their way into cells.) -/
inductive AV where
  | c (x : AC)
  | agg (cs : List AC)
  | tup (vs : List (Bool × List AC))
  | pin (v : Value) (x : AC)
  | pinA (v : Value) (cs : List AC)
structure St where
  env : List (Nat × AV)
  F : Forest
  hole : Option Pl
  aux : List AC

/-- The same way down, whatever the indexes. -/
def Pl.like : Pl → Pl → Bool
  | .cell r o, .cell r' o' => r == r' && o == o'
  | .sub q _ o, .sub q' _ o' => o == o' && q.like q'
  | _, _ => false
def Pl.mayUnder (q : Pl) : Pl → Bool
  | .cell r o => q.like (.cell r o)
  | .sub q' i o => q.like (.sub q' i o) || q.mayUnder q'
theorem Pl.like_refl (q : Pl) : q.like q = true := by induction q <;> simp_all [Pl.like]
theorem Pl.mayUnder_refl (q : Pl) : q.mayUnder q = true := by cases q <;> simp [Pl.mayUnder, Pl.like_refl]
theorem Pl.mayUnder_of {q q' : Pl} (h : q.Under q') : q.mayUnder q' = true := by
  obtain ⟨p, rfl⟩ := h
  have : ∀ (p : List (Nat × Nat)) (q1 : Pl), q.mayUnder q1 = true → q.mayUnder (q1.app p) = true := by
    intro p
    induction p with
    | nil => intro q1 h; exact h
    | cons x p ih => obtain ⟨i, o⟩ := x; intro q1 h; exact ih _ (by simp [Pl.mayUnder, h])
  exact this p q (Pl.mayUnder_refl q)
def AC.kill (q : Pl) : AC → AC
  | .sl q' pt => if q.mayUnder q' then .dead else .sl q' pt
  | .ptr (.sub q' i o) => if q.mayUnder q' then .dead else .ptr (.sub q' i o)
  | x => x
def AV.map (f : AC → AC) : AV → AV
  | .c x => .c (f x)
  | .agg cs => .agg (cs.map f)
  | .tup vs => .tup (vs.map fun v => (v.1, v.2.map f))
  | .pin v x => .pin v (f x)
  | .pinA v cs => .pinA v (cs.map f)
def AV.unpin : AV → AV
  | .pin _ x => .c x
  | .pinA _ cs => .agg cs
  | v => v
def mapEnv (f : AC → AC) (env : List (Nat × AV)) : List (Nat × AV) := env.map fun e => (e.1, e.2.map f)
def look : List (Nat × AV) → Nat → Option AV
  | [], _ => none
  | (k, v) :: env, t => if t = k then some v else look env t
theorem look_map (f : AC → AC) (env : List (Nat × AV)) (t : Nat) : look (mapEnv f env) t = (look env t).map (AV.map f) := by
  induction env with
  | nil => rfl
  | cons x env ih =>
    obtain ⟨k, v⟩ := x
    simp only [mapEnv, List.map_cons, look]
    split
    · rfl
    · exact ih

/-! ### What the temporaries say of the machine's -/
inductive Acs (R : AC → Value → Prop) : List AC → List Value → Prop where
  | nil : Acs R [] []
  | cons {x : AC} {v : Value} {xs : List AC} {vs : List Value} (h : R x v) (t : Acs R xs vs) : Acs R (x :: xs) (v :: vs)
theorem Acs.length {R : AC → Value → Prop} {xs : List AC} {vs : List Value} (h : Acs R xs vs) : xs.length = vs.length := by
  induction h with
  | nil => rfl
  | cons _ _ ih => simp [ih]
theorem Acs.map {R R' : AC → Value → Prop} {f : AC → AC} (hf : ∀ x v, R x v → R' (f x) v) {xs : List AC} {vs : List Value} (h : Acs R xs vs) : Acs R' (xs.map f) vs := by
  induction h with
  | nil => exact .nil
  | cons h _ ih => exact .cons (hf _ _ h) ih
theorem Acs.get {R : AC → Value → Prop} {xs : List AC} {vs : List Value} (h : Acs R xs vs) : ∀ {i : Nat} {x : AC}, xs[i]? = some x → ∃ v, vs[i]? = some v ∧ R x v := by
  induction h with
  | nil => intro i x e; simp at e
  | cons h _ ih =>
    intro i x e
    cases i with
    | zero => simp only [List.getElem?_cons_zero, Option.some.injEq] at e; exact ⟨_, rfl, e ▸ h⟩
    | succ i => simp only [List.getElem?_cons_succ] at e ⊢; exact ih e
/-- A part of a tuple. -/
def PartRel (R : AC → Value → Prop) (b : Bool) (cs : List AC) (v : Value) : Prop :=
  if b then ∃ vs, v = .agg vs.toArray ∧ Acs R cs vs else ∃ x, cs = [x] ∧ R x v
inductive Parts (R : AC → Value → Prop) : List (Bool × List AC) → List Value → Prop where
  | nil : Parts R [] []
  | cons {x : Bool × List AC} {v : Value} {xs : List (Bool × List AC)} {vs : List Value} (h : PartRel R x.1 x.2 v) (t : Parts R xs vs) : Parts R (x :: xs) (v :: vs)
def AvRel (R : AC → Value → Prop) : AV → Value → Prop
  | .c x, v => R x v
  | .agg cs, v => ∃ vs, v = .agg vs.toArray ∧ Acs R cs vs
  | .tup ps, v => ∃ vs, v = .tuple vs.toArray ∧ Parts R ps vs
  | .pin u x, v => v = u ∧ R x v
  | .pinA u cs, v => v = u ∧ ∃ vs, v = .agg vs.toArray ∧ Acs R cs vs
theorem AvRel.unpin {R : AC → Value → Prop} {a : AV} {v : Value} (h : AvRel R a v) : AvRel R a.unpin v := by
  cases a with
  | pin u x => exact h.2
  | pinA u x => exact h.2
  | _ => exact h
theorem PartRel.map {R R' : AC → Value → Prop} {f : AC → AC} (hf : ∀ x v, R x v → R' (f x) v) {b : Bool} {cs : List AC} {v : Value} (h : PartRel R b cs v) : PartRel R' b (cs.map f) v := by
  unfold PartRel at *
  split
  · rename_i hb; rw [if_pos hb] at h; obtain ⟨vs, h1, h2⟩ := h; exact ⟨vs, h1, h2.map hf⟩
  · rename_i hb; rw [if_neg hb] at h; obtain ⟨x, rfl, h2⟩ := h; exact ⟨_, rfl, hf _ _ h2⟩
theorem Parts.map {R R' : AC → Value → Prop} {f : AC → AC} (hf : ∀ x v, R x v → R' (f x) v) {ps : List (Bool × List AC)} {vs : List Value} (h : Parts R ps vs) : Parts R' (ps.map fun v => (v.1, v.2.map f)) vs := by
  induction h with
  | nil => exact .nil
  | cons h _ ih => exact .cons (PartRel.map hf h) ih
theorem AvRel.map {R R' : AC → Value → Prop} {f : AC → AC} (hf : ∀ x v, R x v → R' (f x) v) {a : AV} {v : Value} (h : AvRel R a v) : AvRel R' (a.map f) v := by
  cases a with
  | c x => exact hf _ _ h
  | agg cs => obtain ⟨vs, h1, h2⟩ := h; exact ⟨vs, h1, h2.map hf⟩
  | tup ps => obtain ⟨vs, h1, h2⟩ := h; exact ⟨vs, h1, h2.map hf⟩
  | pin u x => exact ⟨h.1, hf _ _ h.2⟩
  | pinA u cs => obtain ⟨h0, vs, h1, h2⟩ := h; exact ⟨h0, vs, h1, h2.map hf⟩
def EnvRel (R : AC → Value → Prop) (env : List (Nat × AV)) (tmps : Array Value) : Prop := ∀ t av, look env t = some av → AvRel R av (tmps.getD t undef)
theorem EnvRel.map {R R' : AC → Value → Prop} {f : AC → AC} (hf : ∀ x v, R x v → R' (f x) v) {env : List (Nat × AV)} {tmps : Array Value} (h : EnvRel R env tmps) : EnvRel R' (mapEnv f env) tmps := by
  intro t av e
  rw [look_map] at e
  obtain ⟨av0, h1, rfl⟩ := Option.map_eq_some_iff.1 e
  exact (h t av0 h1).map hf
theorem map_id_AV (a : AV) : a.map (fun x => x) = a := by
  cases a with
  | c x => rfl
  | agg cs => simp [AV.map]
  | tup vs => simp [AV.map]
  | pin u x => rfl
  | pinA u cs => simp [AV.map]
theorem AvRel.mono {R R' : AC → Value → Prop} (hf : ∀ x v, R x v → R' x v) {a : AV} {v : Value} (h : AvRel R a v) : AvRel R' a v := by
  have := AvRel.map (f := fun x => x) hf h
  rwa [map_id_AV] at this
theorem EnvRel.mono {R R' : AC → Value → Prop} (hf : ∀ x v, R x v → R' x v) {env : List (Nat × AV)} {tmps : Array Value} (h : EnvRel R env tmps) : EnvRel R' env tmps :=
  fun t av e => (h t av e).mono hf

/-- What is not behind q, nor was, is as it was. -/
structure Keeps (q : Pl) (F F2 : Forest) (h h2 : Option Pl) (β β2 : Layout) : Prop where
  row : ∀ q' m τ l, ¬ q.Under q' → AtN F h q' (.rows m τ l) → ∃ m2 l2, AtN F2 h2 q' (.rows m2 τ l2) ∧ l2.length = l.length ∧ β2 q' = β q'
  var : ∀ r R, F.get r = some R → R.mem = true → ∃ R2, F2.get r = some R2 ∧ R2.mem = true ∧ R2.cs.length = R.cs.length
theorem AcRel.kill {q : Pl} {F F2 : Forest} {h h2 : Option Pl} {βv : Nat → Nat} {β β2 : Layout} (hk : Keeps q F F2 h h2 β β2) (x : AC) (v : Value) (hr : AcRel F h βv β x v) : AcRel F2 h2 βv β2 (x.kill q) v := by
  cases x with
  | lit u => exact hr
  | nil a => exact hr
  | sl q' pt =>
    simp only [AC.kill]
    split
    · trivial
    · rename_i hn
      obtain ⟨m, τ, l, h1, h3, h4⟩ := hr
      obtain ⟨m2, l2, g1, g2, g3⟩ := hk.row q' m τ l (fun hu => hn (Pl.mayUnder_of hu)) h1
      exact ⟨m2, τ, l2, g1, by rw [g2]; exact h3, by rw [g2, g3]; exact h4⟩
  | ptr q' =>
    cases q' with
    | cell r o =>
      obtain ⟨⟨R, h1, h3, h4⟩, h5⟩ := hr
      obtain ⟨R2, g1, g2, g3⟩ := hk.var r R h1 h3
      exact ⟨⟨R2, g1, g2, by omega⟩, h5⟩
    | sub q' i o =>
      simp only [AC.kill]
      split
      · trivial
      · rename_i hn
        obtain ⟨⟨m, τ, l, h1, h3, h4⟩, h5⟩ := hr
        obtain ⟨m2, l2, g1, g2, g3⟩ := hk.row q' m τ l (fun hu => hn (Pl.mayUnder_of hu)) h1
        refine ⟨⟨m2, τ, l2, g1, by omega, h4⟩, ?_⟩
        rw [h5]
        simp only [Pl.addr, g3]
  | clo f caps =>
    obtain ⟨h1, h3⟩ := hr
    refine ⟨fun y hy => ?_, h3⟩
    obtain ⟨R, g1, g2, g3⟩ := h1 y hy
    obtain ⟨R2, k1, k2, k3⟩ := hk.var _ R g1 g2
    exact ⟨R2, k1, k2, by omega⟩
  | dead => trivial
theorem Keeps.hole {F : Forest} {β : Layout} (q : Pl) : Keeps q F F none (some q) β β :=
  ⟨fun q' m τ l hu h => ⟨m, l, .mk_hole h.1 hu, rfl, rfl⟩, fun r R h1 h2 => ⟨R, h1, h2, rfl⟩⟩
theorem Keeps.set {F F2 : Forest} {β β2 : Layout} {q : Pl} {c' s : Cell} {h : Option Pl} (hset : setAt F q c' = some F2) (hq : At F q s) (hβ : ∀ q2, ¬ q.Under q2 → β2 q2 = β q2) : Keeps q F F2 h none β β2 := by
  obtain ⟨f1, f2, f3, f4⟩ := setAt_spec hset hq
  constructor
  · intro q' m τ l hu h1
    obtain ⟨c2, g1, g2⟩ := (f2 q' hu).2 _ h1.1
    rcases g2 with rfl | ⟨m', τ', l', l2, e, rfl, g3⟩
    · exact ⟨m, l, ⟨g1, fun _ e => by cases e⟩, rfl, hβ _ hu⟩
    · cases e; exact ⟨m, l2, ⟨g1, fun _ e => by cases e⟩, g3, hβ _ hu⟩
  · intro r R h1 h2
    rcases f3 r with h3 | ⟨_, R1, R2, g1, g2, g3, g4⟩
    · exact ⟨R, h3.trans h1, h2, rfl⟩
    · rw [h1] at g1; cases g1; exact ⟨R2, g2, g3.trans h2, g4⟩
end Go.Proofs.YtnceiegngfpmkaaAm
namespace Go.Proofs.YtnceiegngfpmkaaAm
set_option linter.unusedVariables false
open Classical in
noncomputable def graftLay (q : Pl) (β γ : Layout) : Layout := fun q2 => if h : q.Under q2 then γ (top.app h.choose) else β q2
theorem graftLay_app (q : Pl) (β γ : Layout) (p : List (Nat × Nat)) : graftLay q β γ (q.app p) = γ (top.app p) := by
  unfold graftLay
  have h : q.Under (q.app p) := ⟨p, rfl⟩
  rw [dif_pos h]
  have := h.choose_spec
  rw [← Pl.app_self this]
theorem graftLay_other (q : Pl) (β γ : Layout) (q2 : Pl) (h : ¬ q.Under q2) : graftLay q β γ q2 = β q2 := by
  unfold graftLay; rw [dif_neg h]
theorem Cell.eff_cases {F : Forest} {q : Pl} {c' : Cell} (hf : ∀ q0 i o, q = q0.sub i o → ∃ c0, nav F q0 = some c0 ∧ c'.fits c0.mode.next = true) : q.eff F c' = c' ∨ ∃ m, q.eff F c' = c'.reMode m ∧ c'.fits m = true := by
  cases q with
  | cell r o => exact .inl rfl
  | sub q0 i o =>
    obtain ⟨c0, h1, h2⟩ := hf q0 i o rfl
    exact .inr ⟨c0.mode.next, by simp [Pl.eff, h1], h2⟩
theorem CellRel.reMode {F : Forest} {βv : Nat → Nat} {β : Layout} {c : Cell} {m : Mode} {L : Lay} {u : Value} (h : CellRel F βv β c L u) : CellRel F βv β (c.reMode m) L u := by
  cases c <;> exact h

section
variable {F F2 : Forest} {βv : Nat → Nat} {β γ : Layout} {w w' : World} {q : Pl} {c' s : Cell} {u : Value}
/-- A tree is put at a place that was cleared. -/
theorem Lays.place (hL : Lays F (some q) βv β w) (hq : At F q s) (hset : setAt F q c' = some F2) (hG : Lays (solo c') none βv γ w)
    (hd1 : ∀ b, OwnB (solo c') none βv γ b → ¬ OwnB F (some q) βv β b ∧ ¬ ShB F (some q) β b) (hd2 : ∀ b, ShB (solo c') none γ b → ¬ OwnB F (some q) βv β b)
    (hcase : (PtrOk F (some q) q ∧ ContOwn F q ∧ OneCell w w' (q.addr βv β) ∧ w'.cell? (q.addr βv β) = some u ∧ CellRel F βv β c' (γ top) u) ∨ (¬ InMem F q ∧ w' = w)) :
    ∃ β2, Lays F2 none βv β2 w' ∧ Keeps q F F2 (some q) none β β2 ∧ (∀ b, OwnB F2 none βv β2 b → OwnB F (some q) βv β b ∨ OwnB (solo c') none βv γ b) ∧
      (∀ b, ShB F2 none β2 b → ShB F (some q) β b ∨ ShB (solo c') none γ b ∨ OwnB (solo c') none βv γ b) ∧ (∀ p, β2 (q.app p) = γ (top.app p)) ∧ (∀ q2, ¬ q.Under q2 → β2 q2 = β q2) := by
  obtain ⟨f1, f2, f3, f4⟩ := setAt_spec hset hq
  obtain ⟨g1, g2, g3⟩ : Lays (solo (q.eff F c')) none βv γ w ∧ (∀ b, OwnB (solo (q.eff F c')) none βv γ b → OwnB (solo c') none βv γ b) ∧ (∀ b, ShB (solo (q.eff F c')) none γ b → OwnB (solo c') none βv γ b ∨ ShB (solo c') none γ b) := by
    rcases Cell.eff_cases f4 with e | ⟨m, e, hf⟩
    · rw [e]; exact ⟨hG, fun _ h => h, fun _ h => .inr h⟩
    · rw [e]; exact hG.weaken hf
  have hrel : ∀ u, CellRel F βv β c' (γ top) u → CellRel F βv β (q.eff F c') (γ top) u := fun u h => by
    rcases Cell.eff_cases f4 with e | ⟨m, e, hf⟩
    · rw [e]; exact h
    · rw [e]; exact h.reMode
  obtain ⟨k1, k2, k3⟩ := hL.graft (β2 := graftLay q β γ) (u := u) hq hset g1 (fun b hb => hd1 b (g2 b hb)) (fun b hb => by
      rcases g3 b hb with h | h
      · exact (hd1 b h).1
      · exact hd2 b h)
    (by
      rcases hcase with ⟨a1, a2, a3, a4, a5⟩ | h
      · exact .inl ⟨a1, a2, a3, a4, hrel _ a5⟩
      · exact .inr h)
    (fun q2 h => graftLay_other q β γ q2 h) (fun p => graftLay_app q β γ p)
  refine ⟨_, k1, Keeps.set hset hq (fun q2 h => graftLay_other q β γ q2 h), fun b hb => ?_, fun b hb => ?_, fun p => graftLay_app q β γ p, fun q2 h => graftLay_other q β γ q2 h⟩
  · rcases k2 b hb with h | h
    · exact .inl h
    · exact .inr (g2 b h)
  · rcases k3 b hb with h | h
    · exact .inl h
    · rcases g3 b h with h | h
      · exact .inr (.inr h)
      · exact .inr (.inl h)
theorem solo_bare {c : Cell} (hc : c.len = 0) (hr : ∀ m τ l, c = .rows m τ l → False) (βv : Nat → Nat) (w : World) : Lays (solo c) none βv (fun _ => ⟨0, 0, 0, 0⟩) w ∧ ∀ b, ¬ OwnB (solo c) none βv (fun _ => ⟨0, 0, 0, 0⟩) b ∧ ¬ ShB (solo c) none (fun _ => ⟨0, 0, 0, 0⟩) b :=
  ⟨Lays.bare hc (fun m τ l e => (hr m τ l e).elim), fun b => bare_own hc (fun _ _ _ _ => rfl) b⟩
theorem solo_nil (m : Mode) (τ : Ty) (βv : Nat → Nat) (w : World) : Lays (solo (.rows m τ [])) none βv (fun _ => ⟨0, 0, 0, τ.size⟩) w ∧ ∀ b, ¬ OwnB (solo (.rows m τ [])) none βv (fun _ => ⟨0, 0, 0, τ.size⟩) b ∧ ¬ ShB (solo (.rows m τ [])) none (fun _ => ⟨0, 0, 0, τ.size⟩) b :=
  ⟨Lays.bare rfl (fun m' τ' l' e => by cases e; exact ⟨rfl, rfl⟩), fun b => bare_own rfl (fun _ _ _ _ => rfl) b⟩
end

/-! ### Putting -/
def contOwn (F : Forest) : Pl → Bool
  | .cell _ _ => true
  | .sub q _ _ => match nav F q with
    | some (.rows m _ _) => m.isOwn
    | _ => false
/-- The cell at the place is another now; what temporaries held of the row that was there falls away. -/
def St.set (S : St) (q : Pl) (c' : Cell) : Option St :=
  if contOwn S.F q then (setAt S.F q c').bind fun F2 => some ⟨mapEnv (AC.kill q) S.env, F2, none, S.aux.map (AC.kill q)⟩ else none
/-- What temporaries held of a whole row that moves from a place to another. -/
def AC.redir (r o : Nat) (q : Pl) : AC → AC
  | .sl (.cell r' o') pt => if r' = r ∧ o' = o then .sl q pt else ((AC.sl (.cell r' o') pt).kill (.cell r o)).kill q
  | x => (x.kill (.cell r o)).kill q
def redirEnv (S : St) (r o : Nat) (q : Pl) (pt : Option (Nat × Nat)) (S2 : St) : St := match pt with
  | none => ⟨mapEnv (AC.redir r o q) S.env, S2.F, S2.hole, S2.aux⟩
  | some _ => S2
def St.put (S : St) (q : Pl) : AC → Option St
  | .lit v => if v.oneCell' && S.hole.isNone then S.set q (.v v) else none
  | .nil τ => if S.hole.isNone then S.set q (.rows .full τ []) else none
  | .ptr (.cell r o) => match q with
    | .cell _ _ => if S.hole.isNone then S.set q (.ref (.ptr (.cell r o))) else none
    | _ => none
  | .clo f caps => match q with
    | .cell _ _ => if S.hole.isNone then S.set q (.ref (.clo f caps)) else none
    | _ => none
  | .sl q' pt => match nav S.F q' with
    | some (.rows m τ l) =>
      if m.isOwn then
        if S.hole.isNone then
          if q' = q then S.set q (.rows m τ (cutL pt l))
          else match q' with
            | .cell r o => if (Pl.cell r o).mayUnder q then none else ((S.set (.cell r o) .dead).bind fun S1 => S1.set q (.rows m τ (cutL pt l))).bind fun S2 => some (redirEnv S r o q pt S2)
            | .sub _ _ _ => none
        else none
      else if S.hole.isNone then S.set q (.rows m τ (cutL pt l)) else none
    | _ => none
  | _ => none
/-- A row made out of the one that lay at the place comes back to it. -/
def St.fill (S : St) (q : Pl) : AC → Option St
  | .sl (.cell r 0) none => if S.hole = some q ∧ q.root ≠ r then match S.F.get r with
    | some ⟨false, [.rows m τ l]⟩ => St.set ⟨mapEnv (AC.kill (.cell r 0)) S.env, S.F.put r none, S.hole, S.aux.map (AC.kill (.cell r 0))⟩ q (.rows m τ l)
    | _ => none
    else none
  | _ => none
theorem contOwn_spec {F : Forest} {q : Pl} {c : Cell} (h : contOwn F q = true) (hq : At F q c) : ContOwn F q := by
  cases q with
  | cell r o => trivial
  | sub q i o =>
    obtain ⟨c0, h0, hi, hs⟩ := hq
    simp only [contOwn, h0.nav] at h
    cases c0 with
    | rows m τ l => exact ⟨m, τ, l, h0, h⟩
    | _ => simp at h

/-- All that is said of a state: where its roots lie, what temporaries hold; which blocks are its own. -/
structure Holds (S : St) (βv : Nat → Nat) (β : Layout) (tmps : Array Value) (xs : List Value) (w : World) : Prop where
  lays : Lays S.F S.hole βv β w
  env : EnvRel (AcRel S.F S.hole βv β) S.env tmps
  aux : Acs (AcRel S.F S.hole βv β) S.aux xs
/-- The own blocks of the second are of the first. -/
def Owns (S S2 : St) (βv : Nat → Nat) (β β2 : Layout) : Prop := ∀ b, OwnB S2.F S2.hole βv β2 b → OwnB S.F S.hole βv β b

section
variable {S S' : St} {βv : Nat → Nat} {β γ : Layout} {w w' : World} {q : Pl} {c' s : Cell} {u : Value} {tmps : Array Value} {xs : List Value}
theorem St.set_holds (hH : Holds S βv β tmps xs w) (hh : S.hole = none ∨ S.hole = some q) (hset : S.set q c' = some S') (hq : At S.F q s) (hG : Lays (solo c') none βv γ w)
    (hd1 : ∀ b, OwnB (solo c') none βv γ b → ¬ OwnB S.F (some q) βv β b ∧ ¬ ShB S.F (some q) β b) (hd2 : ∀ b, ShB (solo c') none γ b → ¬ OwnB S.F (some q) βv β b)
    (hcase : (PtrOk S.F S.hole q ∧ OneCell w w' (q.addr βv β) ∧ w'.cell? (q.addr βv β) = some u ∧ CellRel S.F βv β c' (γ top) u) ∨ (¬ InMem S.F q ∧ w' = w)) :
    ∃ β2, Holds S' βv β2 tmps xs w' ∧ (∀ b, OwnB S'.F S'.hole βv β2 b → OwnB S.F (some q) βv β b ∨ OwnB (solo c') none βv γ b) ∧ S'.hole = none ∧
      (∀ b, ShB S'.F none β2 b → ShB S.F (some q) β b ∨ ShB (solo c') none γ b ∨ OwnB (solo c') none βv γ b) ∧ (∀ p, β2 (q.app p) = γ (top.app p)) ∧ (∀ q2, ¬ q.Under q2 → β2 q2 = β q2) := by
  unfold St.set at hset
  split at hset
  · rename_i hco
    obtain ⟨F2, hF2, e⟩ := Option.bind_eq_some_iff.1 hset
    cases e
    have hL : Lays S.F (some q) βv β w := by
      rcases hh with e | e
      · have := hH.lays; rw [e] at this; exact this.toHole q
      · have := hH.lays; rw [e] at this; exact this
    have hp : PtrOk S.F S.hole q → PtrOk S.F (some q) q := fun hp => by
      rcases hh with e | e
      · rw [e] at hp
        cases q with
        | cell r o => exact hp
        | sub q0 i o =>
          obtain ⟨m, τ, l, h1, h2, h3⟩ := hp
          refine ⟨m, τ, l, .mk_hole h1.1 ?_, h2, h3⟩
          rintro ⟨p, e⟩
          have := congrArg Pl.height e
          rw [Pl.height_app] at this
          simp only [Pl.height] at this
          omega
      · rw [e] at hp; exact hp
    obtain ⟨β2, k1, k2, k3, k4, k5, k6⟩ := hL.place (w' := w') (u := u) hq hF2 hG hd1 hd2 (by
      rcases hcase with ⟨a1, a2, a3, a4⟩ | h
      · exact .inl ⟨hp a1, contOwn_spec hco hq, a2, a3, a4⟩
      · exact .inr h)
    have hk : Keeps q S.F F2 S.hole none β β2 := ⟨fun q' m τ l hu h1 => k2.row q' m τ l hu (.mk_hole h1.1 hu), fun r R h1 h2 => k2.var r R h1 h2⟩
    exact ⟨β2, ⟨k1, EnvRel.map (fun x v hr => AcRel.kill hk x v hr) hH.env, Acs.map (fun x v hr => AcRel.kill hk x v hr) hH.aux⟩, k3, rfl, k4, k5, k6⟩
  · cases hset

/-- What is asked of the cell in memory: that the value comes into it, or that it is none. -/
def Written (S : St) (βv : Nat → Nat) (β : Layout) (w w' : World) (q : Pl) (u : Value) : Prop :=
  (PtrOk S.F S.hole q ∧ OneCell w w' (q.addr βv β) ∧ w'.cell? (q.addr βv β) = some u) ∨ (¬ InMem S.F q ∧ w' = w)
theorem Written.with {c' : Cell} {L : Lay} (h : Written S βv β w w' q u) (hc : CellRel S.F βv β c' L u) :
    (PtrOk S.F S.hole q ∧ OneCell w w' (q.addr βv β) ∧ w'.cell? (q.addr βv β) = some u ∧ CellRel S.F βv β c' L u) ∨ (¬ InMem S.F q ∧ w' = w) := by
  rcases h with ⟨a, b, c⟩ | h
  · exact .inl ⟨a, b, c, hc⟩
  · exact .inr h
theorem hole_own {F : Forest} {q : Pl} {b : Nat} (h : OwnB F (some q) βv β b) : OwnB F none βv β b := by
  rcases h with h | ⟨q2, m, τ, l, h1, h2⟩
  · exact .inl h
  · exact .inr ⟨q2, m, τ, l, h1.hole, h2⟩
theorem hole_sh {F : Forest} {q : Pl} {b : Nat} (h : ShB F (some q) β b) : ShB F none β b := by
  obtain ⟨q2, m, τ, l, h1, h2⟩ := h
  exact ⟨q2, m, τ, l, h1.hole, h2⟩
end
open Classical in
/-- The layout of the tree at a place. -/
noncomputable def treeLay (q : Pl) (β : Layout) : Layout := fun q2 => if h : top.Under q2 then β (q.app h.choose) else β q2
theorem treeLay_app (q : Pl) (β : Layout) (p : List (Nat × Nat)) : treeLay q β (top.app p) = β (q.app p) := by
  unfold treeLay
  have h : top.Under (top.app p) := ⟨p, rfl⟩
  rw [dif_pos h, ← Pl.app_self h.choose_spec]
def cutAt (lo : Nat) (γ : Layout) : List (Nat × Nat) → Lay
  | [] => { γ top with base := (γ top).base + lo * (γ top).sz, cap := (γ top).cap - lo }
  | (i, o) :: p => γ (top.app ((lo + i, o) :: p))
open Classical in
/-- The layout of a part of a row. -/
noncomputable def cutLay (lo : Nat) (γ : Layout) : Layout := fun q2 => if h : top.Under q2 then cutAt lo γ h.choose else γ q2
theorem cutLay_app (lo : Nat) (γ : Layout) (p : List (Nat × Nat)) : cutLay lo γ (top.app p) = cutAt lo γ p := by
  unfold cutLay
  have h : top.Under (top.app p) := ⟨p, rfl⟩
  rw [dif_pos h, ← Pl.app_self h.choose_spec]

section
variable {S S' : St} {βv : Nat → Nat} {β γ : Layout} {w w' : World} {q : Pl} {c' s : Cell} {u : Value} {tmps : Array Value} {xs : List Value}
/-- A slice's tree: laid as the row is, from where the slice begins. -/
theorem slice_tree' {F : Forest} {h : Option Pl} {q' : Pl} {pt : Option (Nat × Nat)} {m : Mode} {τ : Ty} {l : List (Interp τ)} (hL : Lays F h βv β w) (ha : AtN F h q' (.rows m τ l)) (hh : ∀ q0, h = some q0 → q0.root ≠ q'.root)
    (hlen : ptLo pt + ptLen pt l.length ≤ l.length) (hv : SlRel (β q') (ptLo pt) (ptLen pt l.length) u) :
    ∃ γ, Lays (solo (.rows m τ (cutL pt l))) none βv γ w ∧ (∀ b, OwnB (solo (.rows m τ (cutL pt l))) none βv γ b → OwnB (solo (.rows m τ l)) none βv (treeLay q' β) b) ∧
      (∀ b, ShB (solo (.rows m τ (cutL pt l))) none γ b → ShB (solo (.rows m τ l)) none (treeLay q' β) b) ∧ SlRel (γ top) 0 (cutL pt l).length u ∧ u.oneCell' = true ∧ (pt = none → γ top = β q') := by
  have hG := hL.tree (γ := treeLay q' β) ha hh (fun p => treeLay_app q' β p)
  have h0 : treeLay q' β top = β q' := treeLay_app q' β []
  have := hG.cut (γ' := cutLay (ptLo pt) (treeLay q' β)) (lo := ptLo pt) (len := ptLen pt l.length) hlen (cutLay_app _ _ []) (fun i o p => cutLay_app _ _ ((i, o) :: p))
  rw [← cutL_eq] at this
  refine ⟨_, this.1, this.2.1, this.2.2, ?_, ?_, ?_⟩
  · obtain ⟨A, c, rfl, h2, h3⟩ := hv
    have e : cutLay (ptLo pt) (treeLay q' β) top = { β q' with base := (β q').base + ptLo pt * (β q').sz, cap := (β q').cap - ptLo pt } := by
      have := cutLay_app (ptLo pt) (treeLay q' β) []
      simp only [Pl.app, cutAt] at this
      rw [this, h0]
    rw [e]
    refine ⟨A, c, ?_, ?_, ?_⟩
    · rw [cutL_eq]; simp; omega
    · simp only; omega
    · rcases h3 with h3 | h3
      · exact .inl h3
      · exact .inr (by simp [h3])
  · obtain ⟨A, c, rfl, _⟩ := hv; rfl
  · rintro rfl
    have := cutLay_app 0 (treeLay q' β) []
    simp only [Pl.app, cutAt] at this
    show cutLay 0 (treeLay q' β) top = β q'
    rw [this, h0]
    simp
theorem slice_tree {F : Forest} {h : Option Pl} {q' : Pl} {pt : Option (Nat × Nat)} {m : Mode} {τ : Ty} {l : List (Interp τ)} (hL : Lays F h βv β w) (ha : AtN F h q' (.rows m τ l)) (hh : ∀ q0, h = some q0 → q0.root ≠ q'.root)
    (hlen : ptLo pt + ptLen pt l.length ≤ l.length) (hv : SlRel (β q') (ptLo pt) (ptLen pt l.length) u) :
    ∃ γ, Lays (solo (.rows m τ (cutL pt l))) none βv γ w ∧ (∀ b, OwnB (solo (.rows m τ (cutL pt l))) none βv γ b → OwnB (solo (.rows m τ l)) none βv (treeLay q' β) b) ∧
      (∀ b, ShB (solo (.rows m τ (cutL pt l))) none γ b → ShB (solo (.rows m τ l)) none (treeLay q' β) b) ∧ SlRel (γ top) 0 (cutL pt l).length u ∧ u.oneCell' = true := by
  obtain ⟨γ, a, b, c, d, e, _⟩ := slice_tree' hL ha hh hlen hv
  exact ⟨γ, a, b, c, d, e⟩

theorem atC_own : ∀ {p : List (Nat × Nat)} {c : Cell} {m : Mode} {τ : Ty} {l : List (Interp τ)}, AtC c p (.rows m τ l) → m.isOwn = true → c.mode.isOwn = true
  | [], c, m, τ, l, h, hm => by simp only [AtC] at h; subst h; exact hm
  | (i, o) :: p, c, m, τ, l, h, hm => by
    obtain ⟨c1, h1, h2, h3⟩ := h
    have h4 := atC_own h3 hm
    rcases sub_mode h2 with ⟨x, rfl⟩ | ⟨τ', l', rfl⟩
    · cases h4
    · exact Mode.next_own h4
theorem at_cell_mem {F : Forest} {r o : Nat} {c : Cell} (ha : At F (.cell r o) c) : InMem F (.cell r o) ∨ ¬ InMem F (.cell r o) := Classical.em _

theorem AvRel.two {R0 R1 R2 : AC → Value → Prop} {f g : AC → AC} (h : ∀ x v, R0 x v → R1 (f x) v → R2 (g x) v) {a : AV} {v : Value} (h0 : AvRel R0 a v) (h1 : AvRel R1 (a.map f) v) : AvRel R2 (a.map g) v := by
  have acs : ∀ {cs : List AC} {vs : List Value}, Acs R0 cs vs → Acs R1 (cs.map f) vs → Acs R2 (cs.map g) vs := by
    intro cs
    induction cs with
    | nil => intro vs a b; cases a; exact .nil
    | cons x cs ih =>
      intro vs a b
      cases a with
      | cons a1 a2 => cases b with
        | cons b1 b2 => exact .cons (h _ _ a1 b1) (ih a2 b2)
  have agg : ∀ {cs : List AC} {v : Value}, (∃ vs, v = .agg vs.toArray ∧ Acs R0 cs vs) → (∃ vs, v = .agg vs.toArray ∧ Acs R1 (cs.map f) vs) → ∃ vs, v = .agg vs.toArray ∧ Acs R2 (cs.map g) vs := by
    rintro cs v ⟨vs, rfl, a⟩ ⟨us, e, b⟩
    simp only [Value.agg.injEq] at e
    have : us = vs := by simpa using e.symm
    subst this
    exact ⟨_, rfl, acs a b⟩
  cases a with
  | c x => exact h _ _ h0 h1
  | pin u x => exact ⟨h0.1, h _ _ h0.2 h1.2⟩
  | agg cs => exact agg h0 h1
  | pinA u cs => exact ⟨h0.1, agg h0.2 h1.2⟩
  | tup ps =>
    obtain ⟨vs, rfl, a⟩ := h0
    obtain ⟨us, e, b⟩ := h1
    simp only [Value.tuple.injEq] at e
    have : us = vs := by simpa using e.symm
    subst this
    refine ⟨_, rfl, ?_⟩
    clear e
    induction ps generalizing us with
    | nil => cases a; exact .nil
    | cons y ys ih =>
      cases a with
      | cons p t => cases b with
       | cons b1 b2 =>
        refine .cons ?_ (ih _ b2 t)
        unfold PartRel at p b1 ⊢
        split
        · rename_i hb
          rw [if_pos hb] at p b1
          exact agg p b1
        · rename_i hb
          rw [if_neg hb] at p b1
          obtain ⟨x, e1, p1⟩ := p
          obtain ⟨x2, e2, p2⟩ := b1
          simp only [e1, List.map_cons, List.map_nil, List.cons.injEq, and_true] at e2 ⊢
          subst e2
          exact ⟨_, rfl, h _ _ p1 p2⟩
theorem EnvRel.two {R0 R1 R2 : AC → Value → Prop} {f g : AC → AC} (h : ∀ x v, R0 x v → R1 (f x) v → R2 (g x) v) {env : List (Nat × AV)} {tmps : Array Value} (h0 : EnvRel R0 env tmps) (h1 : EnvRel R1 (mapEnv f env) tmps) : EnvRel R2 (mapEnv g env) tmps := by
  intro t av e
  rw [look_map] at e
  obtain ⟨av0, e1, rfl⟩ := Option.map_eq_some_iff.1 e
  exact (h0 t av0 e1).two h (h1 t _ (by rw [look_map, e1]; rfl))
theorem mapEnv_map (f g : AC → AC) (env : List (Nat × AV)) : mapEnv g (mapEnv f env) = mapEnv (fun x => g (f x)) env := by
  have : ∀ a : AV, (a.map f).map g = a.map (fun x => g (f x)) := fun a => by cases a <;> simp [AV.map]
  simp [mapEnv, List.map_map, Function.comp_def, this]
/-- What is said of a whole row goes along with it. -/
theorem redir_rel {F F2 : Forest} {βv : Nat → Nat} {β β2 : Layout} {r o : Nat} {q : Pl} {m m2 : Mode} {τ : Ty} {l : List (Interp τ)} (ha : AtN F none (.cell r o) (.rows m τ l)) (ha2 : AtN F2 none q (.rows m2 τ l)) (hβ : β2 q = β (.cell r o)) (x : AC) (v : Value) (h0 : AcRel F none βv β x v) (h1 : AcRel F2 none βv β2 ((x.kill (.cell r o)).kill q) v) : AcRel F2 none βv β2 (x.redir r o q) v := by
  unfold AC.redir
  split
  · rename_i r' o' pt
    split
    · rename_i e
      obtain ⟨rfl, rfl⟩ := e
      obtain ⟨m1, τ1, l1, b1, b2, b3⟩ := h0
      cases ha.uniq b1
      exact ⟨_, _, _, ha2, b2, by rw [hβ]; exact b3⟩
    · exact h1
  · exact h1
theorem St.put_holds {x : AC} (hH : Holds S βv β tmps xs w) (hput : S.put q x = some S') (hx : AcRel S.F S.hole βv β x u) (hq : At S.F q s) (hcase : Written S βv β w w' q u) :
    ∃ β2, Holds S' βv β2 tmps xs w' ∧ (∀ b, OwnB S'.F S'.hole βv β2 b → OwnB S.F S.hole βv β b) ∧ S'.hole = none ∧ ∀ b, ShB S'.F S'.hole β2 b → ShB S.F S.hole β b ∨ OwnB S.F S.hole βv β b := by
  have bareCase : ∀ {c' : Cell}, c'.len = 0 → (∀ m τ l, c' = .rows m τ l → False) → CellRel S.F βv β c' ⟨0, 0, 0, 0⟩ u → S.hole = none → S.set q c' = some S' →
      ∃ β2, Holds S' βv β2 tmps xs w' ∧ (∀ b, OwnB S'.F S'.hole βv β2 b → OwnB S.F S.hole βv β b) ∧ S'.hole = none ∧ ∀ b, ShB S'.F S'.hole β2 b → ShB S.F S.hole β b ∨ OwnB S.F S.hole βv β b := by
    intro c' h1 h2 h3 h4 h5
    obtain ⟨hG, hb⟩ := solo_bare h1 h2 βv w
    obtain ⟨β2, k1, k2, k3, k4, _⟩ := St.set_holds (w' := w') (u := u) hH (.inl h4) h5 hq hG (fun b hb' => absurd hb' (hb b).1) (fun b hb' => absurd hb' (hb b).2) (hcase.with h3)
    refine ⟨β2, k1, fun b hb' => ?_, k3, fun b hb' => ?_⟩
    · rw [h4]
      rcases k2 b hb' with h | h
      · exact hole_own h
      · exact absurd h (hb b).1
    · rw [h4]
      rw [k3] at hb'
      rcases k4 b hb' with h | h | h
      · exact .inl (hole_sh h)
      · exact absurd h (hb b).2
      · exact absurd h (hb b).1
  unfold St.put at hput
  cases x with
  | lit v =>
    simp only at hput
    split at hput
    · rename_i hc
      simp only [Bool.and_eq_true, Option.isNone_iff_eq_none] at hc
      exact bareCase (c' := .v v) rfl (by simp) ⟨hx, hc.1⟩ hc.2 hput
    · cases hput
  | nil τ =>
    simp only at hput
    split at hput
    · rename_i hc
      simp only [Option.isNone_iff_eq_none] at hc
      obtain ⟨hG, hb⟩ := solo_nil .full τ βv w
      obtain ⟨β2, k1, k2, k3, k4, _⟩ := St.set_holds (w' := w') (u := u) hH (.inl hc) hput hq hG (fun b hb' => absurd hb' (hb b).1) (fun b hb' => absurd hb' (hb b).2)
        (hcase.with ⟨none, 0, hx, rfl, .inl rfl⟩)
      refine ⟨β2, k1, fun b hb' => ?_, k3, fun b hb' => ?_⟩
      · rw [hc]
        rcases k2 b hb' with h | h
        · exact hole_own h
        · exact absurd h (hb b).1
      · rw [hc]
        rw [k3] at hb'
        rcases k4 b hb' with h | h | h
        · exact .inl (hole_sh h)
        · exact absurd h (hb b).2
        · exact absurd h (hb b).1
    · cases hput
  | ptr q' =>
    cases q' with
    | cell r o =>
      cases q with
      | cell r' o' =>
        simp only at hput
        split at hput
        · rename_i hc
          simp only [Option.isNone_iff_eq_none] at hc
          rw [hc] at hx
          exact bareCase (c' := .ref (.ptr (.cell r o))) rfl (by simp) ⟨rfl, hx⟩ hc hput
        · cases hput
      | sub q' i o' => cases hput
    | sub q' i o => cases hput
  | clo f caps =>
    cases q with
    | cell r' o' =>
      simp only at hput
      split at hput
      · rename_i hc
        simp only [Option.isNone_iff_eq_none] at hc
        rw [hc] at hx
        exact bareCase (c' := .ref (.clo f caps)) rfl (by simp) ⟨rfl, hx⟩ hc hput
      · cases hput
    | sub q' i o' => cases hput
  | dead => cases hput
  | sl q' pt =>
    obtain ⟨m, τ, l, ha, hlen, hv⟩ := hx
    simp only [ha.1.nav] at hput
    by_cases hc : S.hole = none
    · have ha' := ha
      rw [hc] at ha'
      have hlays := hH.lays
      rw [hc] at hlays
      obtain ⟨γ, g1, g2, g3, g4, g5, gtop⟩ := slice_tree' hlays ha' (fun _ e => by cases e) hlen hv
      have tu1 : ∀ b, OwnB (solo (.rows m τ l)) none βv (treeLay q' β) b → OwnB S.F none βv β b := fun b => (hlays.tree_used (γ := treeLay q' β) ha' (fun _ e => by cases e) (fun p => treeLay_app _ β p)).1
      have tu2 : ∀ b, ShB (solo (.rows m τ l)) none (treeLay q' β) b → ShB S.F none β b := fun b => (hlays.tree_used (γ := treeLay q' β) ha' (fun _ e => by cases e) (fun p => treeLay_app _ β p)).2
      split at hput
      · rename_i hm
        rw [if_pos (by simp [hc])] at hput
        split at hput
        · rename_i hqq
          subst hqq
          obtain ⟨β2, k1, k2, k3, k4, _⟩ := St.set_holds (w' := w') (u := u) hH (.inl hc) hput hq g1 (fun b hb => hlays.tree_own ha' (fun p => treeLay_app _ β p) (g2 b hb)) (fun b hb => hlays.tree_sh ha' (fun p => treeLay_app _ β p) (g3 b hb)) (hcase.with g4)
          refine ⟨β2, k1, fun b hb => ?_, k3, fun b hb => ?_⟩
          · rw [hc]
            rcases k2 b hb with h | h
            · exact hole_own h
            · exact tu1 b (g2 b h)
          · rw [hc]
            rw [k3] at hb
            rcases k4 b hb with h | h | h
            · exact .inl (hole_sh h)
            · exact .inl (tu2 b (g3 b h))
            · exact .inr (tu1 b (g2 b h))
        · rename_i hqq
          cases q' with
          | sub q0 i o => cases hput
          | cell r o =>
            simp only at hput
            split at hput
            · cases hput
            · rename_i hmu
              have hnu : ¬ (Pl.cell r o).Under q := fun h => hmu (Pl.mayUnder_of h)
              obtain ⟨S2', hput2, hfin⟩ := Option.bind_eq_some_iff.1 hput
              cases hfin
              obtain ⟨S1, hS1, hset⟩ := Option.bind_eq_some_iff.1 hput2
              obtain ⟨hB, hb⟩ := solo_bare (c := .dead) rfl (by simp) βv w
              obtain ⟨β1, k1, k2, k3, k4, k5, k6⟩ := St.set_holds (w' := w) (u := (w.cell? ((Pl.cell r o).addr βv β)).getD undef) hH (.inl hc) hS1 ha.1 hB (fun b hb' => absurd hb' (hb b).1) (fun b hb' => absurd hb' (hb b).2)
                (by
                  by_cases hmem : InMem S.F (.cell r o)
                  · obtain ⟨u0, e1, e2⟩ := hlays.cells _ _ ha' hmem
                    refine .inl ⟨PtrOk.of_at ha hmem, .refl _ _, by rw [e1]; rfl, ?_⟩
                    rw [e1]
                    obtain ⟨A, c, rfl, _⟩ := e2
                    rfl
                  · exact .inr ⟨hmem, rfl⟩)
              have own1 : ∀ b, OwnB S1.F none βv β1 b → OwnB S.F (some (.cell r o)) βv β b := fun b hb' => by
                rw [k3] at k2
                rcases k2 b hb' with h | h
                · exact h
                · exact absurd h (hb b).1
              have sh1 : ∀ b, ShB S1.F none β1 b → ShB S.F (some (.cell r o)) β b := fun b hb' => by
                rcases k4 b hb' with h | h | h
                · exact h
                · exact absurd h (hb b).2
                · exact absurd h (hb b).1
              obtain ⟨F1, hF1, eF1⟩ : ∃ F1, setAt S.F (.cell r o) .dead = some F1 ∧ S1.F = F1 := by
                unfold St.set at hS1
                split at hS1
                · obtain ⟨F1, e1, e2⟩ := Option.bind_eq_some_iff.1 hS1
                  cases e2; exact ⟨F1, e1, rfl⟩
                · cases hS1
              have hkeep : Keeps (.cell r o) S.F S1.F none none β β1 := by rw [eF1]; exact Keeps.set hF1 ha.1 k6
              obtain ⟨f1, f2, f3, f4⟩ := setAt_spec hF1 ha.1
              obtain ⟨s1, hs1⟩ : ∃ s1, At S1.F q s1 := by
                rw [eF1]
                obtain ⟨c2, h2, _⟩ := (f2 q hnu).2 s hq
                exact ⟨c2, h2⟩
              have hadd : q.addr βv β1 = q.addr βv β := by
                cases q with
                | cell r2 o2 => rfl
                | sub q0 i o2 => simp only [Pl.addr]; rw [k6 q0 (fun hu => hnu (under_trans hu (under_sub _ _ _)))]
              have hw1 : Written S1 βv β1 w w' q u := by
                rcases hcase with ⟨a1, a2, a3⟩ | ⟨a1, a2⟩
                · rw [hc] at a1
                  refine .inl ⟨?_, by rw [hadd]; exact a2, by rw [hadd]; exact a3⟩
                  rw [k3]
                  cases q with
                  | cell r2 o2 =>
                    obtain ⟨R, h1, h2, h3⟩ := a1
                    obtain ⟨R2, j1, j2, j3⟩ := hkeep.var r2 R h1 h2
                    exact ⟨R2, j1, j2, by omega⟩
                  | sub q0 i o2 =>
                    obtain ⟨m', τ', l', h1, h2, h3⟩ := a1
                    obtain ⟨m2, l2, j1, j2, _⟩ := hkeep.row q0 m' τ' l' (fun hu => hnu (under_trans hu (under_sub _ _ _))) h1
                    exact ⟨m2, τ', l2, j1, by omega, h3⟩
                · refine .inr ⟨fun hm1 => a1 ?_, a2⟩
                  cases q with
                  | cell r2 o2 =>
                    obtain ⟨R, h1, h2⟩ := hm1
                    rw [eF1] at h1
                    rcases f3 r2 with e | ⟨_, R1, R2, j1, j2, j3, _⟩
                    · exact ⟨R, e.symm.trans h1, h2⟩
                    · rw [j2] at h1; cases h1; exact ⟨R1, j1, j3.symm.trans h2⟩
                  | sub q0 i o2 => trivial
              obtain ⟨β2, n1, n2, n3, n4, n5, _⟩ := St.set_holds (w' := w') (u := u) k1 (.inl k3) hset hs1 g1
                (fun b hb => by
                  obtain ⟨t1, t2⟩ := hlays.tree_own ha' (fun p => treeLay_app _ β p) (g2 b hb)
                  exact ⟨fun h => t1 (own1 b (hole_own h)), fun h => t2 (sh1 b (hole_sh h))⟩)
                (fun b hb h => hlays.tree_sh ha' (fun p => treeLay_app _ β p) (g3 b hb) (own1 b (hole_own h))) (hw1.with g4)
              have hH2 : Holds (redirEnv S r o q pt S2') βv β2 tmps xs w' := by
                cases pt with
                | some x => exact n1
                | none =>
                  refine ⟨n1.lays, ?_, n1.aux⟩
                  have e1 : S1.env = mapEnv (AC.kill (.cell r o)) S.env := by
                    unfold St.set at hS1
                    split at hS1
                    · obtain ⟨F1, _, e2⟩ := Option.bind_eq_some_iff.1 hS1
                      cases e2; rfl
                    · cases hS1
                  obtain ⟨F2, hF2, e2, e3⟩ : ∃ F2, setAt S1.F q (.rows m τ l) = some F2 ∧ S2'.F = F2 ∧ S2'.env = mapEnv (AC.kill q) S1.env := by
                    unfold St.set at hset
                    split at hset
                    · obtain ⟨F2, a1, a2⟩ := Option.bind_eq_some_iff.1 hset
                      cases a2; exact ⟨F2, a1, rfl, rfl⟩
                    · cases hset
                  have henv := n1.env
                  rw [e3, e1, mapEnv_map] at henv
                  have hE := hH.env
                  rw [hc] at hE
                  rw [n3] at henv
                  show EnvRel (AcRel S2'.F S2'.hole βv β2) (mapEnv (AC.redir r o q) S.env) tmps
                  rw [n3]
                  obtain ⟨m2, hm2⟩ : ∃ m2, q.eff S1.F (.rows m τ l) = .rows m2 τ l := by
                    cases q with
                    | cell r2 o2 => exact ⟨m, rfl⟩
                    | sub q0 i o2 =>
                      simp only [Pl.eff]
                      split
                      · exact ⟨_, rfl⟩
                      · exact ⟨m, rfl⟩
                  refine EnvRel.two (fun x v h0 h1 => redir_rel (m2 := m2) ha' ⟨?_, fun _ e => by cases e⟩ ?_ x v h0 h1) hE henv
                  · rw [e2]
                    have := ((setAt_spec hF2 hs1).1 [] (.rows m2 τ l)).2 (by rw [hm2]; rfl)
                    simpa [Pl.app] using this
                  · have := n5 []
                    simp only [Pl.app] at this
                    rw [this]
                    exact gtop rfl
              refine ⟨β2, hH2, fun b hb => ?_, by cases pt <;> exact n3, fun b hb => ?_⟩
              · rw [hc]
                have hb : OwnB S2'.F S2'.hole βv β2 b := by cases pt <;> exact hb
                rcases n2 b hb with h | h
                · exact hole_own (own1 b (hole_own h))
                · exact tu1 b (g2 b h)
              · rw [hc]
                have hb : ShB S2'.F S2'.hole β2 b := by cases pt <;> exact hb
                rw [n3] at hb
                rcases n4 b hb with h | h | h
                · exact .inl (hole_sh (sh1 b (hole_sh h)))
                · exact .inl (tu2 b (g3 b h))
                · exact .inr (tu1 b (g2 b h))
      · rename_i hm
        rw [if_pos (by simp [hc])] at hput
        have noown : ∀ b, ¬ OwnB (solo (.rows m τ l)) none βv (treeLay q' β) b := by
          rintro b (⟨r, R, h1, h2, _⟩ | ⟨q2, m2, τ2, l2, h1, h2, _⟩)
          · rw [solo_noVar h1] at h2; cases h2
          · obtain ⟨p, rfl, h4⟩ := solo_at.1 h1.1
            exact hm (atC_own h4 h2)
        obtain ⟨β2, k1, k2, k3, k4, _⟩ := St.set_holds (w' := w') (u := u) hH (.inl hc) hput hq g1 (fun b hb => absurd (g2 b hb) (noown b)) (fun b hb h => hlays.sh b (tu2 b (g3 b hb)) (hole_own h)) (hcase.with g4)
        refine ⟨β2, k1, fun b hb => ?_, k3, fun b hb => ?_⟩
        · rw [hc]
          rcases k2 b hb with h | h
          · exact hole_own h
          · exact absurd (g2 b h) (noown b)
        · rw [hc]
          rw [k3] at hb
          rcases k4 b hb with h | h | h
          · exact .inl (hole_sh h)
          · exact .inl (tu2 b (g3 b h))
          · exact absurd (g2 b h) (noown b)
    · exfalso
      have hn : S.hole.isNone = false := by
        cases h : S.hole with
        | none => exact absurd h hc
        | some x => rfl
      simp only [hn, Bool.false_eq_true, if_false] at hput
      split at hput <;> cases hput
end
end Go.Proofs.YtnceiegngfpmkaaAm
namespace Go.Proofs.YtnceiegngfpmkaaAm
set_option linter.unusedVariables false

/-- What is known of a type. -/
structure TI where
  size : Nat
  bytes : Nat
  agg : Bool
  zero : List AC
  ty : Option Ty
structure Ctx where
  P : Program
  U : TypeId → Option TypeDesc
  I : TypeId → Option TI
def zeroVal : AC → Option Value
  | .lit v => some v
  | .nil _ => some (.slice none 0 0)
  | _ => none
/-- The cells of a kind of data's zero value. -/
def zeroAC : Ty → List AC
  | .int k => [.lit (.int k 0)]
  | .bool => [.lit (.bool false)]
  | .str => [.lit (.string ByteArray.empty)]
  | .sl a => [.nil a]
  | .unit => []
  | .pair a b => zeroAC a ++ zeroAC b
  | .rose a => zeroAC a ++ [.nil (.rose a)]
structure Ctx.Ok (G : Ctx) : Prop where
  u : ∀ t d, G.U t = some d → G.P.underlying t = some d
  i : ∀ t i, G.I t = some i → ∃ x v, G.P.info? t = some x ∧ x.size = i.size ∧ x.bytes = i.bytes ∧ x.zero = some v ∧ v.cells.toList.map some = i.zero.map zeroVal ∧ v.cells.size = i.size ∧
    (∀ c ∈ v.cells, c.oneCell' = true) ∧ (i.agg = true ↔ ∃ d, G.P.underlying t = some d ∧ ((∃ f, d = .struct f) ∨ ∃ n e, d = .array n e)) ∧ (∃ d, G.P.underlying t = some d) ∧
    ∀ τ, i.ty = some τ → i.zero = zeroAC τ ∧ i.size = τ.size ∧ 0 < τ.size
  any : G.P.follows .mixedOrders = true

/-- Blocks that were handed to a call: its own; those that it may read. -/
structure Own0 where
  blk : Nat → Prop
  sh : Nat → Prop
instance : CoeFun Own0 (fun _ => Nat → Prop) := ⟨Own0.blk⟩
/-- The walk's state is one of the machine's: w0, O0: the world in which the call began and the blocks that were handed to it; n: the number of temporaries. -/
structure Sim (w0 : World) (O0 : Own0) (n : Nat) (S : St) (a : Act) (w : World) : Prop where
  holds : ∃ βv β, Holds S βv β a.tmps [] w ∧ (∀ b, OwnB S.F S.hole βv β b → O0 b ∨ w0.heap.size ≤ b) ∧ ∀ b, ShB S.F S.hole β b → O0.sh b ∨ O0 b ∨ w0.heap.size ≤ b
  frame : ∀ b, b < w0.heap.size → ¬ O0 b → w.heap[b]? = w0.heap[b]?
  size : w0.heap.size ≤ w.heap.size
  os : w.os = w0.os
  tape : w.tape = w0.tape
  output : w.output = w0.output
  defers : a.defers = []
  tmps : a.tmps.size = n

def constAV : Value → AV
  | .agg cs => .agg (cs.toList.map AC.lit)
  | v => .c (.lit v)
def St.ev (S : St) : Operand → Option AV
  | .tmp t => (look S.env t).map AV.unpin
  | .const v => some (constAV v)
  | .func f => some (.c (.clo f []))
  | .global _ => none
def St.bind (S : St) (n : Nat) (dst : Option Tmp) (v : AV) : Option St :=
  match dst with
  | some d => if d < n then some { S with env := (d, v) :: S.env } else none
  | none => some S

theorem acs_lit {R : AC → Value → Prop} (hR : ∀ v, R (.lit v) v) (vs : List Value) : Acs R (vs.map AC.lit) vs := by
  induction vs with
  | nil => exact .nil
  | cons v vs ih => exact .cons (hR v) ih
theorem constAV_rel {R : AC → Value → Prop} (hR : ∀ v, R (.lit v) v) (v : Value) : AvRel R (constAV v) v := by
  unfold constAV
  split
  · rename_i cs; exact ⟨cs.toList, by simp, acs_lit hR _⟩
  · exact hR v
section
variable {w0 : World} {O0 : Own0} {n : Nat} {S S' : St} {a : Act} {w : World} {βv : Nat → Nat} {β : Layout}
theorem ev_rel (he : EnvRel (AcRel S.F S.hole βv β) S.env a.tmps) {x : Operand} {av : AV} (h : S.ev x = some av) : AvRel (AcRel S.F S.hole βv β) av (a.eval x) := by
  cases x with
  | tmp t =>
    obtain ⟨av0, h1, rfl⟩ := Option.map_eq_some_iff.1 h
    exact (he t av0 h1).unpin
  | const v => simp only [St.ev, Option.some.injEq] at h; subst h; exact constAV_rel (fun v => rfl) v
  | func f => simp only [St.ev, Option.some.injEq] at h; subst h; exact ⟨fun x hx => by simp at hx, rfl⟩
  | global g => cases h
theorem put_env {F : Forest} {hole : Option Pl} {env : List (Nat × AV)} (he : EnvRel (AcRel F hole βv β) env a.tmps) (hn : a.tmps.size = n) {dst : Option Tmp} {av : AV} {v : Value} (hv : AvRel (AcRel F hole βv β) av v)
    {S' : St} {aux : List AC} (hb : St.bind ⟨env, F, hole, aux⟩ n dst av = some S') : EnvRel (AcRel F hole βv β) S'.env (a.put dst v).tmps ∧ S'.F = F ∧ S'.hole = hole ∧ S'.aux = aux ∧ (a.put dst v).tmps.size = n ∧ (a.put dst v).defers = a.defers := by
  cases dst with
  | none => cases hb; exact ⟨he, rfl, rfl, rfl, hn, rfl⟩
  | some d =>
    simp only [St.bind] at hb
    split at hb
    · rename_i hd
      cases hb
      refine ⟨fun t av' e => ?_, rfl, rfl, rfl, by simp [Act.put, hn], rfl⟩
      simp only [look] at e
      split at e
      · rename_i ht
        subst ht
        cases e
        have : (a.put (some t) v).tmps.getD t undef = v := by simp [Act.put, hn, hd]
        rw [this]
        exact hv
      · rename_i ht
        have : (a.put (some d) v).tmps.getD t undef = a.tmps.getD t undef := by
          simp only [Act.put, Array.getD_eq_getD_getElem?]
          rw [Array.getElem?_setIfInBounds_ne (Ne.symm ht)]
        rw [this]
        exact he t av' e
    · cases hb
/-- A value comes into a temporary; roots and memory stay. -/
theorem Sim.value (hS : Sim w0 O0 n S a w) {dst : Option Tmp} {av : AV} {v : Value} (hv : ∀ βv β, Holds S βv β a.tmps [] w → AvRel (AcRel S.F S.hole βv β) av v) (hb : S.bind n dst av = some S') :
    Sim w0 O0 n S' (a.put dst v) w := by
  obtain ⟨βv, β, hH, hO, hT⟩ := hS.holds
  obtain ⟨h1, h2, h3, h6, h4, h5⟩ := put_env (S' := S') hH.env hS.tmps (hv βv β hH) (by simpa using hb)
  refine ⟨⟨βv, β, ⟨?_, ?_, ?_⟩, ?_, ?_⟩, hS.frame, hS.size, hS.os, hS.tape, hS.output, h5.trans hS.defers, h4⟩
  · rw [h2, h3]; exact hH.lays
  · rw [h2, h3]; exact h1
  · rw [h2, h3, h6]; exact hH.aux
  · rw [h2, h3]; exact hO
  · rw [h2, h3]; exact hT
end

/-! ### Operations on values alone -/
/-- A value without an address. -/
def litOf : AV → Option Value
  | .c (.lit v) => some v
  | .c (.nil _) => some (.slice none 0 0)
  | .agg cs => (lits cs).bind fun vs => some (.agg vs.toArray)
  | _ => none
where
  lits : List AC → Option (List Value)
    | [] => some []
    | .lit v :: cs => (lits cs).bind fun vs => some (v :: vs)
    | .nil _ :: cs => (lits cs).bind fun vs => some (.slice none 0 0 :: vs)
    | _ => none
theorem lits_rel {F : Forest} {h : Option Pl} {βv : Nat → Nat} {β : Layout} : ∀ {cs : List AC} {vs us : List Value}, litOf.lits cs = some vs → Acs (AcRel F h βv β) cs us → us = vs
  | [], vs, us, h, r => by cases r; simp only [litOf.lits, Option.some.injEq] at h; exact h
  | .lit v :: cs, vs, us, h, r => by
    cases r with
    | cons h1 h2 =>
      simp only [litOf.lits, Option.bind_eq_some_iff] at h
      obtain ⟨vs', h3, h4⟩ := h
      cases h4
      rw [lits_rel h3 h2, show _ = v from h1]
  | .nil _ :: cs, vs, us, h, r => by
    cases r with
    | cons h1 h2 =>
      simp only [litOf.lits, Option.bind_eq_some_iff] at h
      obtain ⟨vs', h3, h4⟩ := h
      cases h4
      rw [lits_rel h3 h2, show _ = Value.slice none 0 0 from h1]
  | .sl _ _ :: _, _, _, h, _ | .ptr _ :: _, _, _, h, _ | .clo _ _ :: _, _, _, h, _ | .dead :: _, _, _, h, _ => by simp [litOf.lits] at h
theorem litOf_rel {F : Forest} {h : Option Pl} {βv : Nat → Nat} {β : Layout} {av : AV} {v u : Value} (hl : litOf av = some v) (hr : AvRel (AcRel F h βv β) av u) : u = v := by
  cases av with
  | c x =>
    cases x with
    | lit v' => simp only [litOf, Option.some.injEq] at hl; subst hl; exact hr
    | nil τ => simp only [litOf, Option.some.injEq] at hl; subst hl; exact hr
    | _ => simp [litOf] at hl
  | agg cs =>
    simp only [litOf, Option.bind_eq_some_iff] at hl
    obtain ⟨vs, h1, h2⟩ := hl
    cases h2
    obtain ⟨us, rfl, h3⟩ := hr
    rw [lits_rel h1 h3]
  | tup ps => simp [litOf] at hl
  | pin u x => simp [litOf] at hl
  | pinA u x => simp [litOf] at hl
def St.lit (S : St) (x : Operand) : Option Value := (S.ev x).bind litOf
/-- The run of what asks for nothing but the program. -/
def pureV {α : Type} (P : Program) : Sem α → Option α
  | .pure a => some a
  | .program k => pureV P (k P)
  | _ => none
theorem pureV_run {α : Type} {P : Program} {s : Sem α} {x : α} (h : pureV P s = some x) (w : World) : s.run P w = .ok x w := by
  induction s with
  | pure a => simp only [pureV, Option.some.injEq] at h; subst h; rfl
  | program k ih => simp only [pureV] at h; simp only [Sem.run]; exact ih P h
  | _ => simp [pureV] at h
/-- An operation all of whose operands are plain. -/
def stepLit (G : Ctx) (n : Nat) (o : Oper) (S : St) : Option St :=
  if o.op.operands.toList.all (fun x => (S.lit x).isSome) && noSelect o then
    match pureV G.P (execOp (fun x => (S.lit x).getD undef) o) with
    | some (.value v) => S.bind n o.dst (constAV v)
    | _ => none
  else none
where
  noSelect (o : Oper) : Bool := match o.op with | .select _ _ => false | _ => true
end Go.Proofs.YtnceiegngfpmkaaAm
namespace Go.Proofs.YtnceiegngfpmkaaAm
set_option linter.unusedVariables false

/-- The operation does what the step says. -/
def OpOk (G : Ctx) (w0 : World) (O0 : Own0) (n : Nat) (o : Oper) (S S' : St) : Prop :=
  ∀ (a : Act) (w : World) (K : Act → World → Prop) (Q : Exit → Act → World → Prop), Sim w0 O0 n S a w → (∀ a' w', Sim w0 O0 n S' a' w' → K a' w') → o.wp G.P a w K Q

section
variable {G : Ctx} {w0 : World} {O0 : Own0} {n : Nat} {S S' : St} {o : Oper}
theorem OpOk.ofRun (h : ∀ a w, Sim w0 O0 n S a w → ∃ v w', (execOp a.eval o).run G.P w = .ok (.value v) w' ∧ Sim w0 O0 n S' (a.put o.dst v) w') : OpOk G w0 O0 n o S S' := by
  intro a w K Q hS hK
  obtain ⟨v, w', h1, h2⟩ := h a w hS
  unfold Oper.wp
  rw [h1]
  exact hK _ _ h2
theorem OpOk.ofSkip (h : ∀ a w, Sim w0 O0 n S a w → ∃ w', (execOp a.eval o).run G.P w = .ok .skip w' ∧ Sim w0 O0 n S' (a.put o.dst undef) w') : OpOk G w0 O0 n o S S' := by
  intro a w K Q hS hK
  obtain ⟨w', h1, h2⟩ := h a w hS
  unfold Oper.wp
  rw [h1]
  exact hK _ _ h2
/-- The operation gives a value and leaves the world alone. -/
def ValOk (G : Ctx) (w0 : World) (O0 : Own0) (n : Nat) (o : Oper) (S S' : St) : Prop :=
  ∀ (a : Act) (w : World), Sim w0 O0 n S a w → ∃ v, (execOp a.eval o).run G.P w = .ok (.value v) w ∧ Sim w0 O0 n S' (a.put o.dst v) w
theorem ValOk.of (h : ∀ a w, Sim w0 O0 n S a w → ∃ v, (execOp a.eval o).run G.P w = .ok (.value v) w ∧ Sim w0 O0 n S' (a.put o.dst v) w) : ValOk G w0 O0 n o S S' := h
theorem ValOk.op (h : ValOk G w0 O0 n o S S') : OpOk G w0 O0 n o S S' := .ofRun fun a w hS => by
  obtain ⟨v, h1, h2⟩ := h a w hS
  exact ⟨v, w, h1, h2⟩
theorem Sim.lit {a : Act} {w : World} (hS : Sim w0 O0 n S a w) {x : Operand} {v : Value} (h : S.lit x = some v) : a.eval x = v := by
  obtain ⟨βv, β, hH, _⟩ := hS.holds
  obtain ⟨av, h1, h2⟩ := Option.bind_eq_some_iff.1 h
  exact litOf_rel h2 (ev_rel hH.env h1)
theorem stepLit_ok (h : stepLit G n o S = some S') : ValOk G w0 O0 n o S S' := by
  unfold stepLit at h
  split at h
  · rename_i hc
    simp only [Bool.and_eq_true, List.all_eq_true] at hc
    split at h
    · rename_i v hv
      refine .of fun a w hS => ⟨v, ?_, hS.value (fun βv β hH => constAV_rel (fun v => rfl) v) h⟩
      rw [execOp_congr (ρ' := fun x => (S.lit x).getD undef) o ?_ ?_]
      · exact pureV_run hv w
      · intro cs b e
        have := hc.2
        simp [stepLit.noSelect, e] at this
      · intro x hx
        have := hc.1 x (by simpa using hx)
        obtain ⟨v', hv'⟩ := Option.isSome_iff_exists.1 this
        rw [hv']
        exact hS.lit hv'
    · cases h
  · cases h

/-! ### moving values about -/
def stepMove (n : Nat) (o : Oper) (S : St) : Option St :=
  match o.op with
  | .move x | .assign x => (S.ev x).bind fun av => S.bind n o.dst av
  | .pick c x y => match S.lit c with
    | some (.bool b) => (S.ev (if b then x else y)).bind fun av => S.bind n o.dst av
    | _ => none
  | .extract x i => match S.ev x with
    | some (.tup ps) => match ps[i]? with
      | some (true, cs) => S.bind n o.dst (.agg cs)
      | some (false, [c]) => S.bind n o.dst (.c c)
      | _ => none
    | _ => none
  | .nilCheck x => match S.ev x with
    | some (.c (.ptr q)) => S.bind n o.dst (.c (.ptr q))
    | some (.c (.clo f caps)) => S.bind n o.dst (.c (.clo f caps))
    | _ => none
  | .makeFunc (.func f) first caps => if first.size = 0 then match pvs S caps.toList with
    | some l => S.bind n o.dst (.c (.clo f l))
    | none => none
    else none
  | _ => none
where
  pvs (S : St) : List Operand → Option (List (Nat × Nat))
    | [] => some []
    | x :: xs => match S.ev x with
      | some (.c (.ptr (.cell r o))) => (pvs S xs).bind fun l => some ((r, o) :: l)
      | _ => none
theorem Parts.get {R : AC → Value → Prop} {ps : List (Bool × List AC)} {vs : List Value} (h : Parts R ps vs) : ∀ {i : Nat} {x : Bool × List AC}, ps[i]? = some x → ∃ v, vs[i]? = some v ∧ PartRel R x.1 x.2 v := by
  induction h with
  | nil => intro i x e; simp at e
  | cons h _ ih =>
    intro i x e
    cases i with
    | zero => simp only [List.getElem?_cons_zero, Option.some.injEq] at e; exact ⟨_, rfl, e ▸ h⟩
    | succ i => simp only [List.getElem?_cons_succ] at e ⊢; exact ih e
theorem pvs_spec {a : Act} {w : World} {βv : Nat → Nat} {β : Layout} (hH : Holds S βv β a.tmps [] w) : ∀ {xs : List Operand} {l : List (Nat × Nat)}, stepMove.pvs S xs = some l →
    (∀ x ∈ l, PtrOk S.F S.hole (.cell x.1 x.2)) ∧ xs.map a.eval = l.map fun x => Value.pointer (some ⟨βv x.1, x.2, none⟩)
  | [], l, h => by simp only [stepMove.pvs, Option.some.injEq] at h; subst h; simp
  | x :: xs, l, h => by
    simp only [stepMove.pvs] at h
    split at h
    · rename_i r o hx
      obtain ⟨l', h1, h2⟩ := Option.bind_eq_some_iff.1 h
      cases h2
      obtain ⟨k1, k2⟩ := pvs_spec hH h1
      have := ev_rel hH.env hx
      obtain ⟨j1, j2⟩ := this
      refine ⟨fun y hy => ?_, ?_⟩
      · rcases List.mem_cons.1 hy with rfl | hy
        · exact j1
        · exact k1 y hy
      · simp only [List.map_cons, k2, j2, Pl.addr]
    · cases h
theorem stepMove_ok (h : stepMove n o S = some S') : ValOk G w0 O0 n o S S' := by
  have mv : ∀ x, (execOp · o) = (fun ρ => pure (.value (ρ x))) → ((S.ev x).bind fun av => S.bind n o.dst av) = some S' → ValOk G w0 O0 n o S S' := by
    intro x hop h
    obtain ⟨av, h1, h2⟩ := Option.bind_eq_some_iff.1 h
    refine .of fun a w hS => ⟨a.eval x, ?_, hS.value (fun βv β hH => ev_rel hH.env h1) h2⟩
    have := congrFun hop a.eval
    rw [this]
    rfl
  unfold stepMove at h
  split at h
  · rename_i x hop; exact mv x (by funext ρ; simp [execOp, hop]) h
  · rename_i x hop; exact mv x (by funext ρ; simp [execOp, hop]) h
  · rename_i c x y hop
    split at h
    · rename_i b hb
      obtain ⟨av, h1, h2⟩ := Option.bind_eq_some_iff.1 h
      refine .of fun a w hS => ⟨a.eval (if b then x else y), ?_, hS.value (fun βv β hH => ev_rel hH.env h1) h2⟩
      have := hS.lit hb
      simp only [execOp, hop, this, asBool]
      cases b <;> rfl
    · cases h
  · rename_i x i hop
    split at h
    · rename_i ps hx
      have key : ∀ (b : Bool) (cs : List AC) (av : AV), ps[i]? = some (b, cs) → (∀ (R : AC → Value → Prop) v, PartRel R b cs v → AvRel R av v) → S.bind n o.dst av = some S' → ValOk G w0 O0 n o S S' := by
        intro b cs av hi hav hb
        refine .of fun a w hS => ?_
        obtain ⟨βv, β, hH, _⟩ := hS.holds
        obtain ⟨vs, e1, e2⟩ := ev_rel hH.env hx
        obtain ⟨v, e3, e4⟩ := e2.get hi
        refine ⟨v, ?_, hS.value (fun βv' β' hH' => ?_) hb⟩
        · simp only [execOp, hop, e1, Instr.extract]
          simp [e3]
        · obtain ⟨vs', f1, f2⟩ := ev_rel hH'.env hx
          obtain ⟨v', f3, f4⟩ := f2.get hi
          rw [e1] at f1
          have : vs = vs' := by simpa using f1
          subst this
          rw [e3] at f3
          cases f3
          exact hav _ _ f4
      split at h
      · rename_i cs hi; exact key true cs _ hi (fun R v hp => by simpa [PartRel, AvRel] using hp) h
      · rename_i c hi; exact key false [c] _ hi (fun R v hp => by simpa [PartRel, AvRel] using hp) h
      · cases h
    · cases h
  · rename_i x hop
    split at h
    · rename_i q hx
      refine .of fun a w hS => ?_
      obtain ⟨βv, β, hH, _⟩ := hS.holds
      have e := ev_rel hH.env hx
      refine ⟨a.eval x, ?_, hS.value (fun βv' β' hH' => ev_rel hH'.env hx) h⟩
      obtain ⟨_, e2⟩ := e
      simp only [execOp, hop, e2]
      rfl
    · rename_i f caps hx
      refine .of fun a w hS => ?_
      obtain ⟨βv, β, hH, _⟩ := hS.holds
      have e := ev_rel hH.env hx
      refine ⟨a.eval x, ?_, hS.value (fun βv' β' hH' => ev_rel hH'.env hx) h⟩
      obtain ⟨_, e2⟩ := e
      simp only [execOp, hop, e2]
      rfl
    · cases h
  · rename_i f first caps hop
    split at h
    · rename_i hf
      have hf : first = #[] := Array.eq_empty_of_size_eq_zero hf
      subst hf
      split at h
      · rename_i l hl
        refine .of fun a w hS => ?_
        obtain ⟨βv, β, hH, _⟩ := hS.holds
        refine ⟨.func (.func f) #[] (caps.map a.eval), ?_, hS.value (fun βv' β' hH' => ?_) h⟩
        · simp [execOp, hop, Instr.makeFunc]
        · obtain ⟨k1, k2⟩ := pvs_spec hH' hl
          refine ⟨k1, ?_⟩
          have : (caps.map a.eval) = (l.map fun x => Value.pointer (some ⟨βv' x.1, x.2, none⟩)).toArray := by
            apply Array.toList_inj.1
            simp [k2]
          rw [this]
      · cases h
    · cases h
  · cases h

/-! ### addresses -/
def Pl.shift : Pl → Nat → Pl
  | .cell r o, k => .cell r (o + k)
  | .sub q i o, k => .sub q i (o + k)
/-- A cell of the same variable or of the same element. -/
def inside (F : Forest) : Pl → Bool
  | .cell r o => match F.get r with
    | some R => R.mem && o < R.cs.length
    | none => false
  | .sub q i o => match nav F q with
    | some (.rows m τ l) => o < τ.size
    | _ => false
theorem Pl.addr_shift (βv : Nat → Nat) (β : Layout) (q : Pl) (k : Nat) : (q.shift k).addr βv β = (q.addr βv β).add k := by
  cases q with
  | cell r o => simp only [Pl.shift, Pl.addr, Addr.add]; split <;> simp_all
  | sub q i o => simp only [Pl.shift, Pl.addr, Addr.add]; split <;> simp_all [Nat.add_assoc]
theorem ptrOk_shift {h : Option Pl} {q : Pl} {k : Nat} (hp : PtrOk S.F h q) (hi : inside S.F (q.shift k) = true) : PtrOk S.F h (q.shift k) := by
  cases q with
  | cell r o =>
    obtain ⟨R, h1, h2, h3⟩ := hp
    simp only [Pl.shift, inside, h1, Bool.and_eq_true, decide_eq_true_eq] at hi
    exact ⟨R, h1, h2, hi.2⟩
  | sub q i o =>
    obtain ⟨m, τ, l, h1, h2, h3⟩ := hp
    simp only [Pl.shift, inside, h1.1.nav, decide_eq_true_eq] at hi
    exact ⟨m, τ, l, h1, h2, hi⟩
def stepField (G : Ctx) (n : Nat) (o : Oper) (S : St) : Option St :=
  match o.op with
  | .fieldAddr t x f => match S.ev x, G.U t with
    | some (.c (.ptr q)), some (.struct fs) => match fs[f]? with
      | some fd => match G.I fd.type with
        | some ti => if ti.size ≠ 0 ∧ inside S.F (q.shift fd.offset) then S.bind n o.dst (.c (.ptr (q.shift fd.offset))) else none
        | none => none
      | none => none
    | _, _ => none
  | _ => none
theorem stepField_ok (hG : G.Ok) (h : stepField G n o S = some S') : ValOk G w0 O0 n o S S' := by
  unfold stepField at h
  split at h
  · rename_i t x f hop
    split at h
    · rename_i q fs hx hU
      split at h
      · rename_i fd hfd
        split at h
        · rename_i ti hI
          split at h
          · rename_i hc
            refine .of fun a w hS => ?_
            obtain ⟨βv, β, hH, _⟩ := hS.holds
            obtain ⟨e1, e2⟩ := ev_rel hH.env hx
            obtain ⟨info, v, i1, i2, _⟩ := hG.i _ _ hI
            refine ⟨.pointer (some ((q.addr βv β).add fd.offset)), ?_, hS.value (fun βv' β' hH' => ?_) h⟩
            · have hne : ¬ info.size = 0 := by rw [i2]; exact hc.1
              simp only [execOp, hop, Instr.fieldAt, e2, Sem.run_bind]
              rw [run_underlying (hG.u _ _ hU)]
              simp [hfd, Instr.sureAddr, fieldPlace, sizeOf, typeInfo, i1, hne]
            · obtain ⟨f1, f2⟩ := ev_rel hH'.env hx
              refine ⟨ptrOk_shift f1 hc.2, ?_⟩
              rw [Pl.addr_shift]
              rw [e2] at f2
              simp only [Value.pointer.injEq, Option.some.injEq] at f2
              rw [f2]
          · cases h
        · cases h
      · cases h
    · cases h
  · cases h
end
end Go.Proofs.YtnceiegngfpmkaaAm
namespace Go.Proofs.YtnceiegngfpmkaaAm
set_option linter.unusedVariables false
section
variable {S S' : St} {βv : Nat → Nat} {β γ : Layout} {w w' : World} {q : Pl} {c' s : Cell} {u : Value} {tmps : Array Value} {xs : List Value}
/-- What is taken out of a root of its own, that root gone, is apart from the rest. -/
theorem St.fill_holds {x : AC} (hH : Holds S βv β tmps xs w) (hput : S.fill q x = some S') (hx : AcRel S.F S.hole βv β x u) (hq : At S.F q s) (hcase : Written S βv β w w' q u) :
    ∃ β2, Holds S' βv β2 tmps xs w' ∧ (∀ b, OwnB S'.F S'.hole βv β2 b → OwnB S.F S.hole βv β b) ∧ S'.hole = none ∧ ∀ b, ShB S'.F S'.hole β2 b → ShB S.F S.hole β b ∨ OwnB S.F S.hole βv β b := by
  unfold St.fill at hput
  split at hput
  · rename_i r
    split at hput
    · rename_i hc
      obtain ⟨hc, hne⟩ := hc
      split at hput
      · rename_i m τ l hR
        have hat : AtN S.F S.hole (.cell r 0) (.rows m τ l) := by
          refine ⟨⟨_, hR, rfl⟩, fun q0 e hu => ?_⟩
          rw [hc] at e
          cases e
          obtain ⟨p, e⟩ := hu
          have := congrArg Pl.root e
          rw [Pl.root_app] at this
          exact hne this.symm
        have hh : ∀ q0, S.hole = some q0 → q0.root ≠ (Pl.cell r 0).root := fun q0 e => by rw [hc] at e; cases e; exact hne
        obtain ⟨m', τ', l', ha, hlen, hv⟩ := hx
        have e := ha.uniq hat
        cases e
        obtain ⟨γ, g1, g2, g3, g4, g5⟩ := slice_tree hH.lays hat hh hlen hv
        simp only [cutL] at g1 g2 g3 g4
        have rootNe : ∀ {q2 : Pl} {c : Cell}, At (S.F.put r none) q2 c → q2.root ≠ r := fun {q2 c} h e => by
          obtain ⟨R, hR2⟩ := at_root h
          rw [e] at hR2
          simp at hR2
        have down : ∀ {h : Option Pl} {q2 : Pl} {c : Cell}, AtN (S.F.put r none) h q2 c → AtN S.F h q2 c := fun {h q2 c} ha2 => ⟨(at_get (by simp [rootNe ha2.1])).1 ha2.1, ha2.2⟩
        have upR : ∀ {h : Option Pl} {q2 : Pl} {c : Cell}, q2.root ≠ r → AtN S.F h q2 c → AtN (S.F.put r none) h q2 c := fun {h q2 c} hr ha2 => ⟨(at_get (by simp [hr])).2 ha2.1, ha2.2⟩
        have noRef : ∀ (r0 : Nat) (R : Root) (o : Nat) (c : AC), S.F.get r0 = some R → R.mem = true → R.cs[o]? = some (Cell.ref c) → (∀ q0, S.hole = some q0 → ¬ q0.Under (.cell r0 o)) → r ∉ c.vars := fun r0 R o c k1 k2 k3 kh hr => by
          have hatc : AtN S.F S.hole (.cell r0 o) (.ref c) := ⟨⟨R, k1, k3⟩, kh⟩
          obtain ⟨u0, e1, e2, e3⟩ := hH.lays.cells _ _ hatc ⟨R, k1, k2⟩
          cases c with
          | ptr q' =>
            cases q' with
            | cell r2 o2 =>
              obtain ⟨⟨R2, j1, j2, _⟩, _⟩ := e3
              simp only [AC.vars, List.mem_singleton] at hr
              subst hr
              rw [hR] at j1; cases j1; cases j2
            | sub q' i o => simp [AC.vars] at hr
          | clo f caps =>
            simp only [AC.vars, List.mem_map] at hr
            obtain ⟨y, hy, rfl⟩ := hr
            obtain ⟨R2, j1, j2, _⟩ := e3.1 y hy
            rw [hR] at j1; cases j1; cases j2
          | _ => simp [AC.vars] at hr
        have hL1 : Lays (S.F.put r none) S.hole βv β w := hH.lays.fewer (fun r' => by
            by_cases e : r' = r
            · subst e; exact .inr (by simp)
            · exact .inl (by simp [e])) (fun r0 R o c k1 k2 k3 kh r' hr => by
            have hr0 : r0 ≠ r := by rintro rfl; simp at k1
            rw [Forest.get_put, if_neg hr0] at k1
            have : r' ≠ r := by rintro rfl; exact noRef r0 R o c k1 k2 k3 kh hr
            simp [this])
        have hk : Keeps (.cell r 0) S.F (S.F.put r none) S.hole S.hole β β := by
          refine ⟨fun q' m2 τ2 l2 hu h1 => ⟨m2, l2, upR (fun e => hu ?_) h1, rfl, rfl⟩, fun r' R h1 h2 => ⟨R, ?_, h2, rfl⟩⟩
          · have : ∀ (q' : Pl) (c : Cell), At S.F q' c → q'.root = r → (Pl.cell r 0).Under q' := by
              intro q'
              induction q' with
              | cell r2 o =>
                rintro c ⟨R, k1, k2⟩ e
                simp only [Pl.root] at e
                subst e
                rw [hR] at k1; cases k1
                have := (List.getElem?_eq_some_iff.1 k2).1
                simp at this
                subst this
                exact under_refl _
              | sub q2 i o ih =>
                rintro c ⟨c0, h0, _⟩ e
                exact under_trans (ih c0 h0 e) (under_sub _ _ _)
            exact this q' _ h1.1 e
          · have : r' ≠ r := by rintro rfl; rw [hR] at h1; cases h1; cases h2
            simp [this, h1]
        have hH1 : Holds ⟨mapEnv (AC.kill (.cell r 0)) S.env, S.F.put r none, S.hole, S.aux.map (AC.kill (.cell r 0))⟩ βv β tmps xs w :=
          ⟨hL1, EnvRel.map (fun x v hr => AcRel.kill hk x v hr) hH.env, Acs.map (fun x v hr => AcRel.kill hk x v hr) hH.aux⟩
        have hq1 : At (S.F.put r none) q s := (at_get (by simp [hne])).2 hq
        have hw1 : Written ⟨mapEnv (AC.kill (.cell r 0)) S.env, S.F.put r none, S.hole, S.aux.map (AC.kill (.cell r 0))⟩ βv β w w' q u := by
          rcases hcase with ⟨a1, a2, a3⟩ | ⟨a1, a2⟩
          · exact .inl ⟨(ptrOk_get (by simp [hne])).2 a1, a2, a3⟩
          · exact .inr ⟨fun h => a1 ((inMem_get (by simp [hne])).1 h), a2⟩
        have disj : ∀ b, OwnB (solo (.rows m τ l)) none βv γ b → ∃ p m2 τ2 l2, AtN S.F S.hole ((Pl.cell r 0).app p) (.rows m2 τ2 l2) ∧ m2.isOwn = true ∧ (β ((Pl.cell r 0).app p)).cap ≠ 0 ∧ (β ((Pl.cell r 0).app p)).b = b := fun b hb => by
          rcases g2 b hb with ⟨r2, R2, h1, h2, _⟩ | ⟨q2, m2, τ2, l2, h1, h2, h3, rfl⟩
          · rw [solo_noVar h1] at h2; cases h2
          · obtain ⟨p, rfl, h4⟩ := solo_at.1 h1.1
            rw [treeLay_app] at h3 ⊢
            exact ⟨p, m2, τ2, l2, atN_app hh hat h4, h2, h3, rfl⟩
        have disjS : ∀ b, ShB (solo (.rows m τ l)) none γ b → ShB S.F S.hole β b := fun b hb => (hH.lays.tree_used (γ := treeLay (.cell r 0) β) hat hh (fun p => treeLay_app _ β p)).2 (g3 b hb)
        have ownDown : ∀ b, OwnB (S.F.put r none) (some q) βv β b → OwnB S.F S.hole βv β b := fun b hb => by
          rw [hc]
          rcases hb with ⟨r2, R2, h1, h2, h3⟩ | ⟨q3, m3, τ3, l3, k1, k2⟩
          · have : r2 ≠ r := by rintro rfl; simp at h1
            rw [Forest.get_put, if_neg this] at h1
            exact .inl ⟨r2, R2, h1, h2, h3⟩
          · exact .inr ⟨q3, m3, τ3, l3, down k1, k2⟩
        obtain ⟨β2, n1, n2, n3, n4, _⟩ := St.set_holds (w' := w') (u := u) hH1 (.inr hc) hput hq1 g1
          (fun b hb => by
            obtain ⟨p, m2, τ2, l2, d1, d2, d3, rfl⟩ := disj b hb
            constructor
            · rintro (⟨r2, R2, h1, h2, h3⟩ | ⟨q3, m3, τ3, l3, k1, k2, k3, k4⟩)
              · have : r2 ≠ r := by rintro rfl; simp at h1
                simp only [Forest.get_put, if_neg this] at h1
                exact hH.lays.vr r2 R2 _ m2 τ2 l2 h1 h2 d1 d2 d3 h3
              · have k1' : AtN (S.F.put r none) (some q) q3 (.rows m3 τ3 l3) := k1
                have hd := down k1'
                rw [← hc] at hd
                have := hH.lays.rr _ _ m3 m2 τ3 τ2 l3 l2 hd k2 k3 d1 d2 d3 k4
                refine rootNe k1'.1 ?_
                rw [this, Pl.root_app]; rfl
            · rintro ⟨q3, m3, τ3, l3, k1, k2, k3, k4⟩
              have k1' : AtN (S.F.put r none) (some q) q3 (.rows m3 τ3 l3) := k1
              have hd := down k1'
              rw [← hc] at hd
              exact hH.lays.sh _ ⟨q3, m3, τ3, l3, hd, k2, k3, k4⟩ (.inr ⟨_, m2, τ2, l2, d1, d2, d3, rfl⟩))
          (fun b hb h => hH.lays.sh b (disjS b hb) (ownDown b h)) (hw1.with g4)
        refine ⟨β2, n1, fun b hb => ?_, n3, fun b hb => ?_⟩
        · rcases n2 b hb with h | h
          · exact ownDown b h
          · obtain ⟨p, m2, τ2, l2, d1, d2, d3, rfl⟩ := disj b h
            exact .inr ⟨_, m2, τ2, l2, d1, d2, d3, rfl⟩
        · rw [n3] at hb
          rcases n4 b hb with h | h | h
          · obtain ⟨q3, m3, τ3, l3, k1, k2⟩ := h
            have k1' : AtN (S.F.put r none) (some q) q3 (.rows m3 τ3 l3) := k1
            have hd := down k1'
            rw [← hc] at hd
            exact .inl ⟨q3, m3, τ3, l3, hd, k2⟩
          · exact .inl (disjS b h)
          · obtain ⟨p, m2, τ2, l2, d1, d2, d3, rfl⟩ := disj b h
            exact .inr (.inr ⟨_, m2, τ2, l2, d1, d2, d3, rfl⟩)
      · cases hput
    · cases hput
  · cases hput
end

/-! ### Loads -/
def St.readable (S : St) (q : Pl) : Bool := match S.hole with
  | none => true
  | some h => !h.mayUnder q
def St.loadCell (S : St) (q : Pl) : Option AC :=
  if S.readable q then match nav S.F q with
    | some (.v x) => some (.lit x)
    | some (.rows _ _ _) => some (.sl q none)
    | some (.ref c) => some c
    | _ => none
  else none
def St.loadCells (S : St) (q : Pl) : Nat → Nat → Option (List AC)
  | _, 0 => some []
  | k, n + 1 => if inside S.F (q.shift k) then (S.loadCell (q.shift k)).bind fun c => (S.loadCells q (k + 1) n).bind fun cs => some (c :: cs) else none
section
variable {S S' : St} {βv : Nat → Nat} {β : Layout} {w w' : World} {q : Pl} {u : Value}
theorem ptrOk_at (hp : PtrOk S.F S.hole q) : (∃ c, At S.F q c) ∧ InMem S.F q := by
  cases q with
  | cell r o => obtain ⟨R, h1, h2, h3⟩ := hp; exact ⟨⟨_, R, h1, List.getElem?_eq_getElem h3⟩, R, h1, h2⟩
  | sub q i o =>
    obtain ⟨m, τ, l, h1, h2, h3⟩ := hp
    have hl : o < (toCells m.next τ (l.getD i (dflt τ))).length := by rw [toCells_length]; exact h3
    exact ⟨⟨_, _, h1.1, h2, List.getElem?_eq_getElem hl⟩, trivial⟩
theorem readable_spec (h : S.readable q = true) : ∀ q0, S.hole = some q0 → ¬ q0.Under q := by
  intro q0 e hu
  simp only [St.readable, e, Bool.not_eq_true'] at h
  rw [Pl.mayUnder_of hu] at h
  cases h
theorem loadCell_rel (hL : Lays S.F S.hole βv β w) (hp : PtrOk S.F S.hole q) {c : AC} (h : S.loadCell q = some c) : ∃ u, w.cell? (q.addr βv β) = some u ∧ AcRel S.F S.hole βv β c u := by
  unfold St.loadCell at h
  split at h
  · rename_i hr
    obtain ⟨⟨c0, h0⟩, hm⟩ := ptrOk_at hp
    have ha : AtN S.F S.hole q c0 := ⟨h0, readable_spec hr⟩
    obtain ⟨u, h1, h2⟩ := hL.cells q c0 ha hm
    simp only [h0.nav] at h
    refine ⟨u, h1, ?_⟩
    cases c0 with
    | v x => simp only [Option.some.injEq] at h; subst h; exact h2.1
    | rows m τ l => simp only [Option.some.injEq] at h; subst h; exact ⟨m, τ, l, ha, by simp [ptLo, ptLen], h2⟩
    | ref x =>
      simp only [Option.some.injEq] at h
      subst h
      obtain ⟨h3, h4⟩ := h2
      cases x with
      | ptr q' =>
        cases q' with
        | cell r o => exact h4
        | sub q' i o => simp [AC.inCell] at h3
      | clo f caps => exact h4
      | _ => simp [AC.inCell] at h3
    | dead => cases h
  · cases h
theorem loadCells_rel (hL : Lays S.F S.hole βv β w) (hp : PtrOk S.F S.hole q) : ∀ {n k : Nat} {cs : List AC}, S.loadCells q k n = some cs →
    ∃ us, us.length = n ∧ (∀ j v, us[j]? = some v → w.cell? ((q.addr βv β).add (k + j)) = some v) ∧ Acs (AcRel S.F S.hole βv β) cs us
  | 0, k, cs, h => by
    simp only [St.loadCells, Option.some.injEq] at h
    subst h
    exact ⟨[], rfl, fun j v e => by simp at e, .nil⟩
  | n + 1, k, cs, h => by
    simp only [St.loadCells] at h
    split at h
    · rename_i hi
      obtain ⟨c, h1, h⟩ := Option.bind_eq_some_iff.1 h
      obtain ⟨cs', h2, h⟩ := Option.bind_eq_some_iff.1 h
      cases h
      obtain ⟨u, g1, g2⟩ := loadCell_rel hL (ptrOk_shift hp hi) h1
      obtain ⟨us, k1, k2, k3⟩ := loadCells_rel hL hp h2
      rw [Pl.addr_shift] at g1
      refine ⟨u :: us, by simp [k1], fun j v e => ?_, .cons g2 k3⟩
      cases j with
      | zero => simp only [List.getElem?_cons_zero, Option.some.injEq] at e; subst e; exact g1
      | succ j =>
        simp only [List.getElem?_cons_succ] at e
        have := k2 j v e
        rwa [Nat.add_assoc, Nat.add_comm 1 j] at this
    · cases h
end
def stepLoad (G : Ctx) (n : Nat) (o : Oper) (S : St) : Option St :=
  match o.op with
  | .load t x => match S.ev x, G.I t with
    | some (.c (.ptr q)), some ti =>
      if ti.agg then (S.loadCells q 0 ti.size).bind fun cs => S.bind n o.dst (.agg cs)
      else (S.loadCell q).bind fun c => S.bind n o.dst (.c c)
    | _, _ => none
  | _ => none
theorem run_isAgg {G : Ctx} (hG : G.Ok) {t : TypeId} {ti : TI} (h : G.I t = some ti) (w : World) : (isAgg t).run G.P w = .ok ti.agg w := by
  obtain ⟨x, v, _, _, _, _, _, _, _, h8, ⟨d, h9⟩, _⟩ := hG.i t ti h
  unfold isAgg
  rw [Sem.run_bind, run_underlying h9]
  cases ha : ti.agg with
  | true =>
    obtain ⟨d', h1, h2⟩ := h8.1 ha
    rw [h9] at h1
    cases h1
    rcases h2 with ⟨f, rfl⟩ | ⟨k, e, rfl⟩ <;> rfl
  | false =>
    have : ¬ ((∃ f, d = .struct f) ∨ ∃ n e, d = .array n e) := fun h => by
      have := h8.2 ⟨d, h9, h⟩
      rw [ha] at this; cases this
    cases d <;> first | rfl | exact absurd (.inl ⟨_, rfl⟩) this | exact absurd (.inr ⟨_, _, rfl⟩) this
section
variable {G : Ctx} {w0 : World} {O0 : Own0} {n : Nat} {S S' : St} {o : Oper}
theorem stepLoad_ok (hG : G.Ok) (h : stepLoad G n o S = some S') : ValOk G w0 O0 n o S S' := by
  unfold stepLoad at h
  split at h
  · rename_i t x hop
    split at h
    · rename_i q ti hx hI
      split at h
      · rename_i hagg
        obtain ⟨cs, h1, h2⟩ := Option.bind_eq_some_iff.1 h
        refine .of fun a w hS => ?_
        obtain ⟨βv, β, hH, _⟩ := hS.holds
        obtain ⟨e1, e2⟩ := ev_rel hH.env hx
        obtain ⟨us, k1, k2, k3⟩ := loadCells_rel hH.lays e1 h1
        obtain ⟨info, v, i1, i2, _⟩ := hG.i _ _ hI
        have hrun := run_loadCells_list (P := G.P) w (q.addr βv β) us (fun j v e => by simpa using k2 j v e)
        refine ⟨.agg us.toArray, ?_, hS.value (fun βv' β' hH' => ?_) h2⟩
        · simp only [execOp, hop, Instr.loadAt, e2, Instr.sureAddr, loadVar, Sem.run_bind, Sem.run_pure, Result.andThen_ok]
          rw [run_isAgg hG hI]
          simp only [hagg, Result.andThen_ok, if_true, Sem.run_bind, sizeOf, typeInfo, i1, program, Sem.run, Sem.run_pure, i2]
          rw [← k1, hrun]
          rfl
        · obtain ⟨f1, f2⟩ := ev_rel hH'.env hx
          obtain ⟨us', j1, j2, j3⟩ := loadCells_rel hH'.lays f1 h1
          rw [e2] at f2
          simp only [Value.pointer.injEq, Option.some.injEq] at f2
          have : us = us' := by
            apply List.ext_getElem?
            intro j
            by_cases hj : j < us.length
            · have a1 := k2 j _ (List.getElem?_eq_getElem hj)
              have hj' : j < us'.length := by omega
              have a2 := j2 j _ (List.getElem?_eq_getElem hj')
              rw [f2, a2] at a1
              rw [List.getElem?_eq_getElem hj, List.getElem?_eq_getElem hj']
              exact a1.symm
            · rw [List.getElem?_eq_none (by omega), List.getElem?_eq_none (by omega)]
          subst this
          exact ⟨us, rfl, j3⟩
      · rename_i hagg
        obtain ⟨c, h1, h2⟩ := Option.bind_eq_some_iff.1 h
        refine .of fun a w hS => ?_
        obtain ⟨βv, β, hH, _⟩ := hS.holds
        obtain ⟨e1, e2⟩ := ev_rel hH.env hx
        obtain ⟨u, k1, k2⟩ := loadCell_rel hH.lays e1 h1
        refine ⟨u, ?_, hS.value (fun βv' β' hH' => ?_) h2⟩
        · simp only [execOp, hop, Instr.loadAt, e2, Instr.sureAddr, loadVar, Sem.run_bind, Sem.run_pure, Result.andThen_ok]
          rw [run_isAgg hG hI]
          simp [hagg, load, Sem.run, k1]
        · obtain ⟨f1, f2⟩ := ev_rel hH'.env hx
          obtain ⟨u', j1, j2⟩ := loadCell_rel hH'.lays f1 h1
          rw [e2] at f2
          simp only [Value.pointer.injEq, Option.some.injEq] at f2
          rw [f2, j1] at k1
          cases k1
          exact j2
    · cases h
  · cases h
end
end Go.Proofs.YtnceiegngfpmkaaAm
namespace Go.Proofs.YtnceiegngfpmkaaAm
set_option linter.unusedVariables false

def St.put1 (S : St) (q : Pl) (x : AC) : Option St := if S.hole.isSome then S.fill q x else S.put q x
/-- The values on their way (aux: the address, then the cells) into the cells k, k + 1, .. -/
def St.puts : Nat → Nat → St → Option St
  | _, 0, S => match S.aux with
    | [.ptr _] => some { S with aux := [] }
    | _ => none
  | k, n + 1, S => match S.aux with
    | .ptr q :: x :: rest => if inside S.F (q.shift k) && contOwn S.F (q.shift k) then (St.put1 { S with aux := .ptr q :: rest } (q.shift k) x).bind (St.puts (k + 1) n) else none
    | _ => none
def isNil : Value → Bool
  | .slice none 0 0 => true
  | _ => false
/-- A nil slice, where a row may lie. -/
def normAC : AC → AC → AC
  | .nil τ, .lit v => if isNil v then .nil τ else .lit v
  | .nil τ, .nil _ => .nil τ
  | _, c => c
def acsOf : AV → Option (List AC)
  | .c (.lit v) => if v.oneCell' then some [.lit v] else none
  | .c x => some [x]
  | .agg cs => some cs
  | .tup _ => none
  | .pin _ _ => none
  | .pinA _ _ => none
def stepStore (G : Ctx) (n : Nat) (o : Oper) (S : St) : Option St :=
  match o.op with
  | .store t x v => match S.ev x, (S.ev v).bind acsOf, G.I t with
    | some (.c (.ptr q)), some cs, some ti => if cs.length = ti.size ∧ o.dst = none ∧ S.aux = [] then St.puts 0 ti.size { S with aux := .ptr q :: List.zipWith normAC ti.zero cs } else none
    | _, _, _ => none
  | _ => none

section
variable {S S' : St} {βv : Nat → Nat} {β : Layout} {w w' : World} {q : Pl} {s : Cell} {u : Value} {tmps : Array Value} {xs : List Value} {x : AC}
theorem put1_holds (hH : Holds S βv β tmps xs w) (hput : S.put1 q x = some S') (hx : AcRel S.F S.hole βv β x u) (hq : At S.F q s) (hcase : Written S βv β w w' q u) :
    ∃ β2, Holds S' βv β2 tmps xs w' ∧ (∀ b, OwnB S'.F S'.hole βv β2 b → OwnB S.F S.hole βv β b) ∧ S'.hole = none ∧ ∀ b, ShB S'.F S'.hole β2 b → ShB S.F S.hole β b ∨ OwnB S.F S.hole βv β b := by
  unfold St.put1 at hput
  split at hput
  · exact St.fill_holds hH hput hx hq hcase
  · exact St.put_holds hH hput hx hq hcase
/-- The cell is there, and may be written. -/
theorem cell_there (hL : Lays S.F S.hole βv β w) (hp : PtrOk S.F S.hole q) (ho : contOwn S.F q = true) :
    OwnB S.F S.hole βv β (q.addr βv β).block ∧ ∃ cs e, w.heap[(q.addr βv β).block]? = some (.cells cs e (0, 0)) ∧ (q.addr βv β).off < cs.size ∧ (q.addr βv β).spot = none := by
  cases q with
  | cell r o =>
    obtain ⟨R, h1, h2, h3⟩ := hp
    obtain ⟨cs, e, k1, k2⟩ := hL.vars r R h1 h2
    exact ⟨.inl ⟨r, R, h1, h2, rfl⟩, cs, e, k1, by simp only [Pl.addr]; omega, rfl⟩
  | sub q i o =>
    obtain ⟨m, τ, l, h1, h2, h3⟩ := hp
    simp only [contOwn, h1.1.nav] at ho
    obtain ⟨r1, r2⟩ := hL.rows _ _ _ _ h1
    have hc : (β q).cap ≠ 0 := by omega
    obtain ⟨cs, e, k1, k2⟩ := hL.ownb _ _ _ _ h1 ho hc
    refine ⟨.inr ⟨q, m, τ, l, h1, ho, hc, rfl⟩, cs, e, k1, ?_, rfl⟩
    simp only [Pl.addr]
    have := Nat.mul_le_mul_right (β q).sz (show i + 1 ≤ (β q).cap by omega)
    rw [Nat.add_mul] at this
    omega
/-- What a step leaves: memory but for own blocks. -/
structure Away (B : Nat → Prop) (w w' : World) : Prop where
  heap : ∀ b, ¬ B b → w'.heap[b]? = w.heap[b]?
  size : w'.heap.size = w.heap.size
  os : w'.os = w.os
  tape : w'.tape = w.tape
  output : w'.output = w.output
theorem Away.refl (B : Nat → Prop) (w : World) : Away B w w := ⟨fun _ _ => rfl, rfl, rfl, rfl, rfl⟩
theorem Away.trans {B B' : Nat → Prop} {w w1 w2 : World} (h : Away B w w1) (h' : Away B' w1 w2) (hB : ∀ b, B' b → B b) : Away B w w2 :=
  ⟨fun b hb => (h'.heap b (fun x => hb (hB b x))).trans (h.heap b hb), h'.size.trans h.size, h'.os.trans h.os, h'.tape.trans h.tape, h'.output.trans h.output⟩
theorem Away.set {B : Nat → Prop} (w : World) (a : Addr) (v : Value) (hB : B a.block) : Away B w (w.setCell a v) where
  heap := fun b hb => by
    have : a.block ≠ b := fun e => hb (e ▸ hB)
    simp [World.setCell, Array.getElem?_modify, this]
  size := by simp [World.setCell]
  os := rfl
  tape := rfl
  output := rfl
theorem one_of_rel {F : Forest} {h : Option Pl} {x : AC} {u : Value} (hx : AcRel F h βv β x u) (hd : x ≠ .dead) (hl : ∀ v, x = .lit v → v.oneCell' = true) : u.oneCell' = true := by
  cases x with
  | lit v => rw [show u = v from hx]; exact hl v rfl
  | sl q pt => obtain ⟨m, τ, l, _, _, A, c, rfl, _⟩ := hx; rfl
  | nil τ => rw [show u = _ from hx]; rfl
  | ptr q => rw [hx.2]; rfl
  | clo f caps => rw [hx.2]; rfl
  | dead => exact absurd rfl hd
theorem put1_one {S' : St} (hput : S.put1 q x = some S') : x ≠ .dead ∧ ∀ v, x = .lit v → v.oneCell' = true := by
  constructor
  · rintro rfl
    unfold St.put1 at hput
    split at hput
    · simp [St.fill] at hput
    · simp [St.put] at hput
  · rintro v rfl
    unfold St.put1 at hput
    split at hput
    · simp [St.fill] at hput
    · simp only [St.put] at hput
      split at hput
      · rename_i h; simp only [Bool.and_eq_true] at h; exact h.1
      · cases hput
/-- The machine's stores, cell by cell. -/
theorem puts_store {P : Program} {pv : Addr} : ∀ {n k : Nat} {S S' : St} {w : World} {β : Layout} {vs : List Value}, S.puts k n = some S' → Holds S βv β tmps (.pointer (some pv) :: vs) w →
    vs.length = n ∧ ∃ w' β', (storeCells pv vs k).run P w = .ok () w' ∧ Holds S' βv β' tmps [] w' ∧ (∀ b, OwnB S'.F S'.hole βv β' b → OwnB S.F S.hole βv β b) ∧ Away (OwnB S.F S.hole βv β) w w' ∧ (∀ b, ShB S'.F S'.hole β' b → ShB S.F S.hole β b ∨ OwnB S.F S.hole βv β b)
  | 0, k, S, S', w, β, vs, h, hH => by
    simp only [St.puts] at h
    split at h
    · rename_i q hq
      cases h
      have ha := hH.aux
      rw [hq] at ha
      cases ha with
      | cons h1 h2 =>
        cases h2
        exact ⟨rfl, w, β, rfl, ⟨hH.lays, hH.env, .nil⟩, fun _ h => h, Away.refl _ _, fun _ h => .inl h⟩
    · cases h
  | n + 1, k, S, S', w, β, vs, h, hH => by
    simp only [St.puts] at h
    split at h
    · rename_i q x rest hq
      split at h
      · rename_i hc
        simp only [Bool.and_eq_true] at hc
        obtain ⟨S1, hS1, h⟩ := Option.bind_eq_some_iff.1 h
        have ha := hH.aux
        rw [hq] at ha
        cases ha with
        | cons h1 h2 =>
          cases h2 with
          | cons h3 h4 =>
            rename_i u vs
            obtain ⟨p1, p2⟩ := h1
            simp only [Value.pointer.injEq, Option.some.injEq] at p2
            have hp := ptrOk_shift p1 hc.1
            obtain ⟨ob, cs, e, k1, k2, k3⟩ := cell_there hH.lays hp hc.2
            obtain ⟨⟨s, hs⟩, hm⟩ := ptrOk_at hp
            obtain ⟨o1, o2⟩ := put1_one hS1
            have hone := one_of_rel h3 o1 o2
            have hadd : pv.add k = (q.shift k).addr βv β := by rw [Pl.addr_shift, p2]
            have haddr : (q.shift k).addr βv β = ⟨((q.shift k).addr βv β).block, ((q.shift k).addr βv β).off, none⟩ := by rw [← k3]
            have hcell : w.cell? ((q.shift k).addr βv β) = some cs[((q.shift k).addr βv β).off] := by
              simp only [World.cell?, k1, k3]
              simp [k2]
            have hfro : w.frozen? ((q.shift k).addr βv β) = false := by simp [World.frozen?, k1]
            have hst : (store (pv.add k) u).run P w = .ok () (w.setCell ((q.shift k).addr βv β) u) := by
              rw [hadd, run_store P w _ u _ hone, hcell]
              simp [hfro]
            have hH0 : Holds { S with aux := .ptr q :: rest } βv β tmps (.pointer (some pv) :: vs) w := ⟨hH.lays, hH.env, .cons ⟨p1, by rw [p2]⟩ h4⟩
            obtain ⟨β1, n1, n2, n3, n4⟩ := put1_holds (w' := w.setCell ((q.shift k).addr βv β) u) hH0 hS1 h3 hs (.inl ⟨hp, by
                rw [haddr]; exact OneCell.set w _ _ u, World.cell?_setCell_same _ _ _ hcell⟩)
            obtain ⟨l1, w', β', m1, m2, m3, m4, m5⟩ := puts_store h n1
            refine ⟨by simp [l1], w', β', ?_, m2, fun b hb => n2 b (m3 b hb), ?_, fun b hb => by
              rcases m5 b hb with h | h
              · exact n4 b h
              · exact .inr (n2 b h)⟩
            · simp only [storeCells, Sem.run_bind, hst, Result.andThen_ok]
              exact m1
            · exact (Away.set w _ u ob).trans m4 n2
      · cases h
    · cases h
end
section
variable {G : Ctx} {w0 : World} {O0 : Own0} {n : Nat} {S S' : St} {o : Oper}
theorem normAC_rel {F : Forest} {h : Option Pl} {βv : Nat → Nat} {β : Layout} {z c : AC} {v : Value} (hr : AcRel F h βv β c v) : AcRel F h βv β (normAC z c) v := by
  unfold normAC
  split
  · rename_i τ u
    split
    · rename_i hn
      rw [show v = u from hr]
      unfold isNil at hn
      split at hn
      · rfl
      · cases hn
    · exact hr
  · exact hr
  · exact hr
theorem zip_norm {F : Forest} {h : Option Pl} {βv : Nat → Nat} {β : Layout} : ∀ {zs cs : List AC} {vs : List Value}, zs.length = cs.length → Acs (AcRel F h βv β) cs vs → Acs (AcRel F h βv β) (List.zipWith normAC zs cs) vs
  | [], [], vs, _, hr => hr
  | z :: zs, c :: cs, vs, hl, hr => by
    cases hr with
    | cons h1 h2 => exact .cons (normAC_rel h1) (zip_norm (by simpa using hl) h2)
  | [], c :: cs, _, hl, _ => by simp at hl
  | z :: zs, [], _, hl, _ => by simp at hl
theorem cells_one {v : Value} (h : v.oneCell' = true) : v.cells.toList = [v] := by cases v <;> simp_all [Value.cells, Value.oneCell']
theorem acsOf_rel {F : Forest} {h : Option Pl} {βv : Nat → Nat} {β : Layout} {av : AV} {cs : List AC} {v : Value} (ha : acsOf av = some cs) (hd : cs ≠ [.dead]) (hr : AvRel (AcRel F h βv β) av v) : Acs (AcRel F h βv β) cs v.cells.toList := by
  cases av with
  | c x =>
    have one : cs = [x] → v.oneCell' = true → Acs (AcRel F h βv β) cs v.cells.toList := fun e h1 => by
      rw [e, cells_one h1]
      exact .cons hr .nil
    cases x with
    | lit u =>
      simp only [acsOf] at ha
      split at ha
      · rename_i hu
        cases ha
        exact one rfl (by rw [show v = u from hr]; exact hu)
      · cases ha
    | dead => cases ha; exact absurd rfl hd
    | sl q pt => cases ha; exact one rfl (one_of_rel (x := (.sl q pt)) (F := F) (h := h) (βv := βv) (β := β) hr (by simp) (by simp))
    | nil τ => cases ha; exact one rfl (one_of_rel (x := (.nil τ)) (F := F) (h := h) (βv := βv) (β := β) hr (by simp) (by simp))
    | ptr q => cases ha; exact one rfl (one_of_rel (x := (.ptr q)) (F := F) (h := h) (βv := βv) (β := β) hr (by simp) (by simp))
    | clo f caps => cases ha; exact one rfl (one_of_rel (x := (.clo f caps)) (F := F) (h := h) (βv := βv) (β := β) hr (by simp) (by simp))
  | agg cs' =>
    cases ha
    obtain ⟨vs, rfl, h2⟩ := hr
    simpa [Value.cells] using h2
  | tup ps => cases ha
  | pin u x => cases ha
  | pinA u x => cases ha
theorem aux_nil {R : AC → Value → Prop} {cs : List AC} (h : Acs R cs []) : cs = [] := by cases h; rfl
theorem stepStore_ok (hG : G.Ok) (h : stepStore G n o S = some S') : OpOk G w0 O0 n o S S' := by
  unfold stepStore at h
  split at h
  · rename_i t x v hop
    split at h
    · rename_i q cs ti hx hv hI
      split at h
      · rename_i hc
        obtain ⟨hl, hdst, haux⟩ := hc
        obtain ⟨av, hv1, hv2⟩ := Option.bind_eq_some_iff.1 hv
        refine .ofSkip fun a w hS => ?_
        obtain ⟨βv, β, hH, hO, hT⟩ := hS.holds
        obtain ⟨e1, e2⟩ := ev_rel hH.env hx
        obtain ⟨info, z, i1, i2, i3, i4, i5, i6, _⟩ := hG.i _ _ hI
        have hzl : ti.zero.length = ti.size := by
          have := congrArg List.length i5
          simp at this
          omega
        have hdead : cs ≠ [.dead] := by
          rintro rfl
          simp only [List.length_singleton] at hl
          rw [← hl] at h
          cases hz : ti.zero with
          | nil => rw [hz] at hzl; simp at hzl; omega
          | cons z zs =>
            rw [hz] at h
            simp only [St.puts, List.zipWith_cons_cons] at h
            split at h
            · obtain ⟨S1, h1, _⟩ := Option.bind_eq_some_iff.1 h
              refine (put1_one h1).1 ?_
              cases z <;> rfl
            · cases h
        have hcs := zip_norm (zs := ti.zero) (by omega) (acsOf_rel hv2 hdead (ev_rel hH.env hv1))
        have hH0 : Holds { S with aux := .ptr q :: List.zipWith normAC ti.zero cs } βv β a.tmps (.pointer (some (q.addr βv β)) :: (a.eval v).cells.toList) w := ⟨hH.lays, hH.env, .cons ⟨e1, rfl⟩ hcs⟩
        obtain ⟨l1, w', β', m1, m2, m3, m4, m5⟩ := puts_store (P := G.P) h hH0
        have hsz : (a.eval v).cells.size = ti.size := by simpa using l1
        refine ⟨w', ?_, ?_⟩
        · simp only [execOp, hop, Instr.storeAt, e2, Instr.sureAddr, storeVar, Sem.run_bind, Sem.run_pure, Result.andThen_ok, sizeOf, typeInfo, program, Sem.run, i1, i2, hsz]
          simp only [ne_eq, not_true_eq_false, if_false, Sem.run_pure, Result.andThen_ok, Sem.run_bind]
          rw [m1]
          rfl
        · rw [hdst]
          refine ⟨⟨βv, β', m2, fun b hb => hO b (m3 b hb), fun b hb => by
            rcases m5 b hb with h | h
            · exact hT b h
            · exact .inr (hO b h)⟩, fun b hb hn => ?_, by rw [m4.size]; exact hS.size, m4.os.trans hS.os, m4.tape.trans hS.tape, m4.output.trans hS.output, hS.defers, hS.tmps⟩
          rw [m4.heap b (fun ho => ?_)]
          · exact hS.frame b hb hn
          · rcases hO b ho with h1 | h1
            · exact hn h1
            · omega
      · cases h
    · cases h
  · cases h
end
end Go.Proofs.YtnceiegngfpmkaaAm
namespace Go.Proofs.YtnceiegngfpmkaaAm
set_option linter.unusedVariables false

section
variable {F : Forest} {h : Option Pl} {βv : Nat → Nat} {β : Layout} {w w' : World}
theorem Lays.lt (hL : Lays F none βv β w) {b : Nat} (hb : OwnB F none βv β b ∨ ShB F none β b) : b < w.heap.size := by
  rcases hb with (⟨r, R, h1, h2, rfl⟩ | ⟨q, m, τ, l, h1, h2, h3, rfl⟩) | ⟨q, m, τ, l, h1, h2, ⟨h3, h4⟩, rfl⟩
  · obtain ⟨cs, e, k1, _⟩ := hL.vars r R h1 h2
    exact (Array.getElem?_eq_some_iff.1 k1).1
  · obtain ⟨cs, e, k1, _⟩ := hL.ownb q m τ l h1 h2 h3
    exact (Array.getElem?_eq_some_iff.1 k1).1
  · have hl : 0 < l.length := by
      rcases Nat.eq_zero_or_pos l.length with e | e
      · exact absurd (List.eq_nil_of_length_eq_zero e) h3
      · exact e
    have ho : 0 < (toCells m.next τ (l.getD 0 (dflt τ))).length := by rw [toCells_length]; omega
    obtain ⟨u, k1, _⟩ := hL.cells (q.sub 0 0) _ ⟨⟨_, h1.1, hl, List.getElem?_eq_getElem ho⟩, fun _ e => by cases e⟩ trivial
    exact World.block_lt_of_cell? w _ k1
theorem Lays.alloc (hL : Lays F none βv β w) (o : Obj) : Lays F none βv β (w.alloc o) :=
  hL.frame fun b hb => heap_alloc_old w o b (hL.lt hb)
theorem AcRel.more {r : Nat} {R : Option Root} {βv2 : Nat → Nat} (hr : F.get r = none) (hβ : ∀ x, x ≠ r → βv2 x = βv x) {x : AC} {v : Value} (hx : AcRel F h βv β x v) : AcRel (F.put r R) h βv2 β x v := by
  have var : ∀ {r' o}, PtrOk F h (.cell r' o) → r' ≠ r ∧ PtrOk (F.put r R) h (.cell r' o) := fun {r' o} hp => by
    obtain ⟨R1, h1, h2⟩ := hp
    have hne : r' ≠ r := by rintro rfl; rw [hr] at h1; cases h1
    exact ⟨hne, R1, by rw [Forest.get_put, if_neg hne]; exact h1, h2⟩
  have row : ∀ {q c}, AtN F h q c → AtN (F.put r R) h q c := fun {q c} ha => by
    obtain ⟨R1, h1⟩ := at_root ha.1
    have hne : q.root ≠ r := by intro e; rw [e, hr] at h1; cases h1
    exact ⟨(at_get (by simp [hne])).2 ha.1, ha.2⟩
  cases x with
  | lit u => exact hx
  | nil τ => exact hx
  | dead => trivial
  | sl q pt => obtain ⟨m, τ, l, h1, h2⟩ := hx; exact ⟨m, τ, l, row h1, h2⟩
  | ptr q =>
    obtain ⟨h1, h2⟩ := hx
    cases q with
    | cell r' o =>
      obtain ⟨k1, k2⟩ := var h1
      exact ⟨k2, by rw [h2]; simp only [Pl.addr, hβ _ k1]⟩
    | sub q i o =>
      obtain ⟨m, τ, l, k1, k2⟩ := h1
      exact ⟨⟨m, τ, l, row k1, k2⟩, h2⟩
  | clo f caps =>
    obtain ⟨h1, h2⟩ := hx
    refine ⟨fun y hy => (var (h1 y hy)).2, ?_⟩
    rw [h2]
    congr 2
    refine List.map_congr_left fun y hy => ?_
    rw [hβ _ (var (h1 y hy)).1]
end
/-- Values on their way into cells that hold them already. -/
theorem puts_still {βv : Nat → Nat} {tmps : Array Value} {pv : Addr} {w : World} : ∀ {n k : Nat} {S S' : St} {β : Layout} {vs : List Value}, S.puts k n = some S' → Holds S βv β tmps (.pointer (some pv) :: vs) w →
    (∀ j v, vs[j]? = some v → w.cell? (pv.add (k + j)) = some v) →
    vs.length = n ∧ ∃ β', Holds S' βv β' tmps [] w ∧ (∀ b, OwnB S'.F S'.hole βv β' b → OwnB S.F S.hole βv β b) ∧ (∀ b, ShB S'.F S'.hole β' b → ShB S.F S.hole β b ∨ OwnB S.F S.hole βv β b)
  | 0, k, S, S', β, vs, h, hH, hv => by
    simp only [St.puts] at h
    split at h
    · rename_i q hq
      cases h
      have ha := hH.aux
      rw [hq] at ha
      cases ha with
      | cons h1 h2 =>
        cases h2
        exact ⟨rfl, β, ⟨hH.lays, hH.env, .nil⟩, fun _ h => h, fun _ h => .inl h⟩
    · cases h
  | n + 1, k, S, S', β, vs, h, hH, hv => by
    simp only [St.puts] at h
    split at h
    · rename_i q x rest hq
      split at h
      · rename_i hc
        simp only [Bool.and_eq_true] at hc
        obtain ⟨S1, hS1, h⟩ := Option.bind_eq_some_iff.1 h
        have ha := hH.aux
        rw [hq] at ha
        cases ha with
        | cons h1 h2 =>
          cases h2 with
          | cons h3 h4 =>
            rename_i u vs
            obtain ⟨p1, p2⟩ := h1
            simp only [Value.pointer.injEq, Option.some.injEq] at p2
            have hp := ptrOk_shift p1 hc.1
            obtain ⟨⟨s, hs⟩, hm⟩ := ptrOk_at hp
            have hadd : pv.add k = (q.shift k).addr βv β := by rw [Pl.addr_shift, p2]
            have h0 := hv 0 u rfl
            rw [Nat.add_zero, hadd] at h0
            have hH0 : Holds { S with aux := .ptr q :: rest } βv β tmps (.pointer (some pv) :: vs) w := ⟨hH.lays, hH.env, .cons ⟨p1, by rw [p2]⟩ h4⟩
            obtain ⟨β1, n1, n2, n3, n4⟩ := put1_holds (w' := w) hH0 hS1 h3 hs (.inl ⟨hp, OneCell.refl _ _, h0⟩)
            obtain ⟨l1, β', m2, m3, m5⟩ := puts_still h n1 (fun j v e => by
              have := hv (j + 1) v (by simpa using e)
              rwa [← Nat.add_assoc, Nat.add_right_comm] at this)
            exact ⟨by simp [l1], β', m2, fun b hb => n2 b (m3 b hb), fun b hb => by
              rcases m5 b hb with h | h
              · exact n4 b h
              · exact .inr (n2 b h)⟩
      · cases h
    · cases h

/-- A new variable r with these cells. -/
def St.newVar (S : St) (n r size : Nat) (dst : Option Tmp) (cs : List AC) : Option St :=
  if S.hole = none ∧ S.aux = [] ∧ (S.F.get r).isNone ∧ 0 < size ∧ cs.length = size then
    (St.puts 0 size ⟨S.env, S.F.put r (some ⟨true, List.replicate size .dead⟩), none, .ptr (.cell r 0) :: cs⟩).bind fun S2 =>
      if inside S2.F (.cell r 0) then S2.bind n dst (.c (.ptr (.cell r 0))) else none
  else none
def okAC : AC → Bool
  | .dead => false
  | .lit v => v.oneCell'
  | _ => true
def stepAlloc (G : Ctx) (n r : Nat) (o : Oper) (S : St) : Option St :=
  match o.op with
  | .alloc t => match G.I t with
    | some ti => S.newVar n r ti.size o.dst ti.zero
    | none => none
  | .box t x => match G.I t, (S.ev x).bind acsOf with
    | some ti, some cs => if cs.length = ti.size ∧ cs.all okAC = true then S.newVar n r ti.size o.dst (List.zipWith normAC ti.zero cs) else none
    | _, _ => none
  | _ => none
section
variable {G : Ctx} {w0 : World} {O0 : Own0} {n r : Nat} {S S' : St} {o : Oper}
theorem newVar_sim {size : Nat} {dst : Option Tmp} {cs : List AC} {vs : List Value} {t : TypeId} {a : Act} {w : World} (h : S.newVar n r size dst cs = some S') (hS : Sim w0 O0 n S a w)
    (hcs : ∀ βv β, Holds S βv β a.tmps [] w → Acs (AcRel S.F S.hole βv β) cs vs) (h1 : ∀ v ∈ vs, v.oneCell' = true) :
    Sim w0 O0 n S' (a.put dst (.pointer (some ⟨w.heap.size, 0, none⟩))) (w.alloc (.cells vs.toArray t)) := by
  unfold St.newVar at h
  split at h
  · rename_i hc
    obtain ⟨c1, c2, c3, c4, c5⟩ := hc
    simp only [Option.isNone_iff_eq_none] at c3
    obtain ⟨S2, h2, h⟩ := Option.bind_eq_some_iff.1 h
    split at h
    · rename_i hin
      obtain ⟨βv, β, hH, hO, hT⟩ := hS.holds
      have hlen : vs.length = size := by have := (hcs βv β hH).length; omega
      have hL := hH.lays
      rw [c1] at hL
      have hnew := heap_alloc_new w (.cells vs.toArray t)
      let βv2 : Nat → Nat := fun x => if x = r then w.heap.size else βv x
      have hβ : ∀ x, x ≠ r → βv2 x = βv x := fun x hx => by simp [βv2, hx]
      have hL2 : Lays (S.F.put r (some ⟨true, List.replicate size .dead⟩)) none βv2 β (w.alloc (.cells vs.toArray t)) := by
        refine (hL.alloc _).more c3 hβ (b := w.heap.size) fun _ => ⟨by simp [βv2], ⟨vs.toArray, t, hnew, by simp [hlen], fun o ho => ?_⟩, fun hb => ?_, fun hb => ?_⟩
        · exact h1 _ (by simp)
        · exact absurd (hL.lt (.inl hb)) (Nat.lt_irrefl _)
        · exact absurd (hL.lt (.inr hb)) (Nat.lt_irrefl _)
      have hmore : ∀ x v, AcRel S.F S.hole βv β x v → AcRel (S.F.put r (some ⟨true, List.replicate size .dead⟩)) none βv2 β x v := fun x v hx => by
        rw [c1] at hx
        exact AcRel.more c3 hβ hx
      have hp : PtrOk (S.F.put r (some ⟨true, List.replicate size .dead⟩)) none (.cell r 0) := ⟨⟨true, List.replicate size .dead⟩, by simp, rfl, by simpa using c4⟩
      have hH1 : Holds ⟨S.env, S.F.put r (some ⟨true, List.replicate size .dead⟩), none, .ptr (.cell r 0) :: cs⟩ βv2 β a.tmps (.pointer (some ⟨w.heap.size, 0, none⟩) :: vs) (w.alloc (.cells vs.toArray t)) :=
        ⟨hL2, hH.env.mono hmore, .cons ⟨hp, by simp [Pl.addr, βv2]⟩ (by
          have := Acs.map (f := fun x => x) hmore (hcs βv β hH)
          simpa using this)⟩
      obtain ⟨_, β', m1, m2, m5⟩ := puts_still h2 hH1 (fun j v e => by
        rw [Addr.add_lit, Nat.zero_add, Nat.zero_add, cell_of_row _ _ _ _ _ _ hnew]
        simpa using e)
      have hpv : AcRel S2.F S2.hole βv2 β' (.ptr (.cell r 0)) (.pointer (some ⟨w.heap.size, 0, none⟩)) := by
        simp only [inside] at hin
        split at hin
        · rename_i R hR
          simp only [Bool.and_eq_true, decide_eq_true_eq] at hin
          exact ⟨⟨R, hR, hin.1, hin.2⟩, by simp [Pl.addr, βv2]⟩
        · cases hin
      have hobj : (w.alloc (.cells vs.toArray t)).heap.size = w.heap.size + 1 := by simp
      have rowBack : ∀ {q2 m τ l}, AtN (S.F.put r (some ⟨true, List.replicate size .dead⟩)) none q2 (.rows m τ l) → AtN S.F S.hole q2 (.rows m τ l) := fun {q2 m τ l} k1' => by
        have hne : q2.root ≠ r := by
          intro e
          have : ∀ (q : Pl) (c : Cell), At (S.F.put r (some ⟨true, List.replicate size .dead⟩)) q c → q.root = r → c = .dead := by
            intro q
            induction q with
            | cell r' o =>
              rintro c ⟨R, j1, j2⟩ e
              simp only [Pl.root] at e
              subst e
              simp only [Forest.get_put, if_true, Option.some.injEq] at j1
              subst j1
              exact List.eq_of_mem_replicate (List.mem_of_getElem? j2)
            | sub q i o ih =>
              rintro c ⟨c0, j0, j1, _⟩ e
              rw [ih c0 j0 e] at j1
              simp [Cell.len] at j1
          have := this q2 _ k1'.1 e
          cases this
        rw [c1]
        exact ⟨(at_get (by simp [hne])).1 k1'.1, fun _ e => by cases e⟩
      have hOwn : ∀ b, (OwnB (S.F.put r (some ⟨true, List.replicate size .dead⟩)) none βv2 β b) → O0 b ∨ w0.heap.size ≤ b := fun b hb => by
        rcases hb with ⟨r', R', k1, k2, k3⟩ | ⟨q2, m, τ, l, k1, k2⟩
        · by_cases e : r' = r
          · subst e
            right
            have : βv2 r' = w.heap.size := by simp [βv2]
            rw [← k3, this]
            exact hS.size
          · have k1' : S.F.get r' = some R' := by
              have : (S.F.put r (some ⟨true, List.replicate size .dead⟩)).get r' = some R' := k1
              rwa [Forest.get_put, if_neg e] at this
            rw [hβ _ e] at k3
            exact hO b (.inl ⟨r', R', k1', k2, k3⟩)
        · exact hO b (.inr ⟨q2, m, τ, l, rowBack k1, k2⟩)
      obtain ⟨h3, h4, h5, h8, h6, h7⟩ := put_env (S' := S') (av := .c (.ptr (.cell r 0))) m1.env hS.tmps hpv (dst := dst) (by simpa using h)
      refine ⟨⟨βv2, β', ⟨?_, ?_, ?_⟩, ?_, ?_⟩, fun b hb hn => ?_, ?_, hS.os, hS.tape, hS.output, h7.trans hS.defers, h6⟩
      · rw [h4, h5]; exact m1.lays
      · rw [h4, h5]; exact h3
      · rw [h4, h5, h8]; exact m1.aux
      · rw [h4, h5]; exact fun b hb => hOwn b (m2 b hb)
      · rw [h4, h5]
        intro b hb
        rcases m5 b hb with ⟨q2, m, τ, l, k1, k2⟩ | h
        · exact hT b ⟨q2, m, τ, l, rowBack k1, k2⟩
        · exact .inr (hOwn b h)
      · rw [heap_alloc_old w _ b (by have := hS.size; omega)]
        exact hS.frame b hb hn
      · rw [hobj]; have := hS.size; omega
    · cases h
  · cases h
theorem zero_rel {F : Forest} {h : Option Pl} {βv : Nat → Nat} {β : Layout} : ∀ {zs : List AC} {vs : List Value}, vs.map some = zs.map zeroVal → Acs (AcRel F h βv β) zs vs
  | [], [], _ => .nil
  | [], v :: vs, e => by simp at e
  | z :: zs, [], e => by simp at e
  | z :: zs, v :: vs, e => by
    simp only [List.map_cons, List.cons.injEq] at e
    refine .cons ?_ (zero_rel e.2)
    cases z with
    | lit u => simp only [zeroVal, Option.some.injEq] at e; exact e.1
    | nil τ => simp only [zeroVal, Option.some.injEq] at e; exact e.1
    | _ => simp [zeroVal] at e
theorem stepAlloc_ok (hG : G.Ok) (h : stepAlloc G n r o S = some S') : OpOk G w0 O0 n o S S' := by
  unfold stepAlloc at h
  split at h
  · rename_i t hop
    split at h
    · rename_i ti hI
      refine .ofRun fun a w hS => ?_
      obtain ⟨info, z, i1, i2, i3, i4, i5, i6, i7, _⟩ := hG.i _ _ hI
      have := newVar_sim (vs := z.cells.toList) (t := t) (w := w) h hS (fun βv β hH => zero_rel i5) (fun v hv => i7 v (by simpa using hv))
      refine ⟨_, _, ?_, this⟩
      simp [execOp, hop, Instr.alloc, zeroValue, typeInfo, program, Sem.run, i1, i4, newVar, newRow, newObj, World.alloc_eq]
    · cases h
  · rename_i t x hop
    split at h
    · rename_i ti cs hI hx
      split at h
      · rename_i hc
        refine .ofRun fun a w hS => ?_
        obtain ⟨hl, hok⟩ := hc
        obtain ⟨av, hv1, hv2⟩ := Option.bind_eq_some_iff.1 hx
        obtain ⟨info, z, i1, i2, i3, i4, i5, i6, _⟩ := hG.i _ _ hI
        have hzl : ti.zero.length = ti.size := by
          have := congrArg List.length i5
          simp at this
          omega
        have hd : cs ≠ [.dead] := by rintro rfl; simp [okAC] at hok
        have hrel : ∀ βv β, Holds S βv β a.tmps [] w → Acs (AcRel S.F S.hole βv β) cs (a.eval x).cells.toList := fun βv β hH => acsOf_rel hv2 hd (ev_rel hH.env hv1)
        obtain ⟨βv, β, hH, _⟩ := hS.holds
        have h1 : ∀ v ∈ (a.eval x).cells.toList, v.oneCell' = true := fun v hv => by
          obtain ⟨i, hi⟩ := List.mem_iff_getElem?.1 hv
          have hlen := (hrel βv β hH).length
          have hi2 : i < cs.length := by have := (List.getElem?_eq_some_iff.1 hi).1; omega
          obtain ⟨v', e1, e2⟩ := (hrel βv β hH).get (List.getElem?_eq_getElem hi2)
          rw [hi] at e1
          cases e1
          have hk := List.all_eq_true.1 hok cs[i] (List.getElem_mem hi2)
          refine one_of_rel e2 ?_ ?_
          · intro e; rw [e] at hk; simp [okAC] at hk
          · intro u e; rw [e] at hk; exact hk
        have := newVar_sim (t := t) (w := w) h hS (fun βv β hH => zip_norm (by omega) (hrel βv β hH)) h1
        refine ⟨_, _, ?_, this⟩
        simp [execOp, hop, Instr.box, newVar, newRow, newObj, Sem.run]
      · cases h
    · cases h
  · cases h
end
end Go.Proofs.YtnceiegngfpmkaaAm
namespace Go.Proofs.YtnceiegngfpmkaaAm
set_option linter.unusedVariables false

/-- The row that a slice value is of. -/
def St.row (S : St) (q : Pl) : Option ((m : Mode) × (τ : Ty) × List (Interp τ)) := match nav S.F q with
  | some (.rows m τ l) => some ⟨m, τ, l⟩
  | _ => none
theorem row_of_at {S : St} {h : Option Pl} {q : Pl} {m : Mode} {τ : Ty} {l : List (Interp τ)} (ha : AtN S.F h q (.rows m τ l)) : S.row q = some ⟨m, τ, l⟩ := by simp [St.row, ha.1.nav]
theorem at_of_row {S : St} {F : Forest} {h : Option Pl} {βv : Nat → Nat} {β : Layout} {q : Pl} {pt : Option (Nat × Nat)} {m : Mode} {τ : Ty} {l : List (Interp τ)} {v : Value} (hr : S.row q = some ⟨m, τ, l⟩) (hx : AcRel S.F h βv β (.sl q pt) v) :
    AtN S.F h q (.rows m τ l) ∧ ptLo pt + ptLen pt l.length ≤ l.length ∧ SlRel (β q) (ptLo pt) (ptLen pt l.length) v := by
  obtain ⟨m', τ', l', h1, h2, h3⟩ := hx
  rw [row_of_at h1] at hr
  cases hr
  exact ⟨h1, h2, h3⟩
def stepIndex (G : Ctx) (n : Nat) (o : Oper) (S : St) : Option St :=
  match o.op with
  | .indexAddr t x ix => match S.ev x, S.lit ix, G.U t with
    | some (.c (.sl q pt)), some (.int _ i), some (.slice e) => match S.row q, G.I e with
      | some ⟨m, τ, l⟩, some ti => if ti.ty = some τ then (if 0 ≤ i ∧ i < (ptLen pt l.length : Nat) then S.bind n o.dst (.c (.ptr (q.sub (ptLo pt + i.toNat) 0))) else none) else none
      | _, _ => none
    | some (.c (.ptr q)), some (.int _ i), some (.array len e) => match G.I e with
      | some ti => if 0 ≤ i ∧ i < (len : Nat) then (if inside S.F (q.shift (i.toNat * ti.size)) then S.bind n o.dst (.c (.ptr (q.shift (i.toNat * ti.size)))) else none) else none
      | none => none
    | _, _, _ => none
  | _ => none
def stepLen (G : Ctx) (n : Nat) (o : Oper) (S : St) : Option St :=
  match o.op with
  | .call c => match c.callee, c.args.toList, c.argTypes.toList with
    | .builtin .len, [x], [t] => match S.ev x, G.U t with
      | some (.c (.sl q pt)), some (.slice _) => match S.row q with
        | some ⟨_, _, l⟩ => S.bind n o.dst (.c (.lit (.int .i64 (ptLen pt l.length))))
        | none => none
      | _, _ => none
    | _, _, _ => none
  | _ => none
/-- A bound of a part: what is written, or what stands where nothing is. -/
def bound (S : St) (d : Nat) : Option Operand → Option Int
  | none => some d
  | some x => match S.lit x with
    | some (.int _ i) => some i
    | _ => none
def stepCut (G : Ctx) (n : Nat) (o : Oper) (S : St) : Option St :=
  match o.op with
  | .slice t x lo hi mx => match S.ev x, G.U t, mx with
    | some (.c (.sl q pt)), some (.slice e), none => match S.row q, G.I e with
      | some ⟨m, τ, l⟩, some ti => match bound S 0 lo, bound S (ptLen pt l.length) hi with
        | some i, some j => if ti.ty = some τ then (if 0 ≤ i ∧ i ≤ j ∧ j ≤ (ptLen pt l.length : Nat) then S.bind n o.dst (.c (.sl q (some (ptLo pt + i.toNat, j.toNat - i.toNat)))) else none) else none
        | _, _ => none
      | _, _ => none
    | _, _, _ => none
  | _ => none
section
variable {G : Ctx} {w0 : World} {O0 : Own0} {n : Nat} {S S' : St} {o : Oper}
theorem stepIndex_ok (hG : G.Ok) (h : stepIndex G n o S = some S') : ValOk G w0 O0 n o S S' := by
  unfold stepIndex at h
  split at h
  · rename_i t x ix hop
    split at h
    · rename_i q pt k i e hx hi hU
      split at h
      · rename_i m τ l ti hrow hI
        split at h
        · rename_i hty
          split at h
          · rename_i hc
            obtain ⟨info, z, i1, i2, _, _, _, _, _, _, _, i6⟩ := hG.i _ _ hI
            obtain ⟨_, i7, i8⟩ := i6 τ hty
            refine .of fun a w hS => ?_
            have hix := hS.lit hi
            have key : ∀ βv β, Holds S βv β a.tmps [] w → ∃ A c, a.eval x = .slice A (ptLen pt l.length) c ∧ A = some ⟨(β q).b, (β q).base + ptLo pt * (β q).sz, none⟩ ∧ (β q).sz = τ.size ∧ PtrOk S.F S.hole (q.sub (ptLo pt + i.toNat) 0) := fun βv β hH => by
              obtain ⟨ha, hlen, A, c, e1, e2, e3⟩ := at_of_row (F := S.F) (βv := βv) hrow (ev_rel hH.env hx)
              have hcap := hH.lays.rows _ _ _ _ ha
              refine ⟨A, c, e1, ?_, hcap.1, m, τ, l, ha, by omega, i8⟩
              rcases e3 with e3 | e3
              · omega
              · exact e3
            obtain ⟨βv, β, hH, _⟩ := hS.holds
            obtain ⟨A, c, e1, e2, e3, e4⟩ := key βv β hH
            refine ⟨.pointer (some (⟨(β q).b, (β q).base + ptLo pt * (β q).sz + i.toNat * ti.size, none⟩)), ?_, hS.value (fun βv' β' hH' => ?_) h⟩
            · simp only [execOp, hop, Instr.indexAt, e1, e2, hix, asIntOf, Sem.run_bind, Sem.run_pure, Result.andThen_ok]
              rw [run_underlying (hG.u _ _ hU)]
              simp [hc, sizeOf, typeInfo, i1, i2, Addr.add_lit, run_underlying (hG.u _ _ hU), Nat.add_assoc]
            · obtain ⟨A', c', f1, f2, f3, f4⟩ := key βv' β' hH'
              refine ⟨f4, ?_⟩
              rw [e1] at f1
              simp only [Value.slice.injEq] at f1
              rw [e2, f2] at f1
              simp only [Option.some.injEq, Addr.mk.injEq] at f1
              obtain ⟨⟨g1, g2, _⟩, _⟩ := f1
              simp only [Pl.addr, g1, f3]
              rw [g2, f3, i7, Nat.add_mul]
              congr 3
              omega
          · cases h
        · cases h
      · cases h
    · rename_i q k i len e hx hi hU
      split at h
      · rename_i ti hI
        split at h
        · rename_i hc
          split at h
          · rename_i hin
            obtain ⟨info, z, i1, i2, _⟩ := hG.i _ _ hI
            refine .of fun a w hS => ?_
            have hix := hS.lit hi
            obtain ⟨βv, β, hH, _⟩ := hS.holds
            obtain ⟨e1, e2⟩ := ev_rel hH.env hx
            refine ⟨.pointer (some ((q.addr βv β).add (i.toNat * ti.size))), ?_, hS.value (fun βv' β' hH' => ?_) h⟩
            · simp only [execOp, hop, Instr.indexAt, e2, hix, asIntOf, Sem.run_bind, Sem.run_pure, Result.andThen_ok]
              rw [run_underlying (hG.u _ _ hU)]
              simp [hc, sizeOf, typeInfo, i1, i2, run_underlying (hG.u _ _ hU), Instr.sureAddr]
            · obtain ⟨f1, f2⟩ := ev_rel hH'.env hx
              refine ⟨ptrOk_shift f1 hin, ?_⟩
              rw [Pl.addr_shift]
              rw [e2] at f2
              simp only [Value.pointer.injEq, Option.some.injEq] at f2
              rw [f2]
          · cases h
        · cases h
      · cases h
    · cases h
  · cases h
theorem toList_one {α : Type} {a : Array α} {x : α} (h : a.toList = [x]) : a = #[x] := by rw [← Array.toArray_toList (xs := a), h]
theorem stepLen_ok (hG : G.Ok) (h : stepLen G n o S = some S') : ValOk G w0 O0 n o S S' := by
  unfold stepLen at h
  split at h
  · rename_i c hop
    split at h
    · rename_i x t hcal hargs htys
      split at h
      · rename_i q pt e hx hU
        split at h
        · rename_i m τ l hrow
          refine .of fun a w hS => ?_
          obtain ⟨βv, β, hH, _⟩ := hS.holds
          obtain ⟨ha, hlen, A, c', e1, e2, e3⟩ := at_of_row (F := S.F) (βv := βv) hrow (ev_rel hH.env hx)
          refine ⟨.int .i64 (ptLen pt l.length), ?_, hS.value (av := .c (.lit (.int .i64 (ptLen pt l.length)))) (fun βv' β' hH' => rfl) h⟩
          have h1 := toList_one hargs
          have h2 := toList_one htys
          simp [execOp, hop, resolve, hcal, h1, h2, invoke, builtin, Builtin.len_, run_underlying (hG.u _ _ hU), e1, goInt]
        · cases h
      · cases h
    · cases h
  · cases h
theorem bound_spec {d : Nat} {x : Option Operand} {i : Int} (h : bound S d x = some i) {a : Act} {w : World} (hS : Sim w0 O0 n S a w) : (x = none ∧ i = d) ∨ ∃ y k, x = some y ∧ a.eval y = .int k i := by
  unfold bound at h
  split at h
  · simp only [Option.some.injEq] at h; exact .inl ⟨rfl, h.symm⟩
  · rename_i y
    split at h
    · rename_i k j hy
      simp only [Option.some.injEq] at h
      subst h
      exact .inr ⟨y, k, rfl, hS.lit hy⟩
    · cases h
theorem run_sliceBound {P : Program} {k : IntKind} {i : Int} {y : Nat} {code : BoundsCode} {w : World} (h : 0 ≤ i ∧ i ≤ (y : Int)) : (Instr.sliceBound (.int k i) y code).run P w = .ok i.toNat w := by
  simp [Instr.sliceBound, asIntOf, h]
theorem run_bounds {P : Program} {len cap : Nat} {lo hi : Option Value} {i j : Int} {w : World} (h1 : (lo = none ∧ i = (0 : Nat)) ∨ ∃ k, lo = some (.int k i)) (h2 : (hi = none ∧ j = (len : Nat)) ∨ ∃ k, hi = some (.int k j))
    (h : 0 ≤ i ∧ i ≤ j ∧ j ≤ (len : Nat)) (hc : len ≤ cap) : (Instr.sliceBounds true len cap lo hi none).run P w = .ok (i.toNat, j.toNat, cap) w := by
  have hj : 0 ≤ j ∧ j ≤ (cap : Int) := by omega
  have hi' : 0 ≤ i ∧ i ≤ ((j.toNat : Nat) : Int) := by omega
  rcases h1 with ⟨rfl, rfl⟩ | ⟨k, rfl⟩ <;> rcases h2 with ⟨rfl, rfl⟩ | ⟨k', rfl⟩
  · simp [Instr.sliceBounds]
  · simp [Instr.sliceBounds, run_sliceBound hj]
  · simp only [Int.toNat_natCast] at hi'
    simp [Instr.sliceBounds, run_sliceBound hi']
  · simp [Instr.sliceBounds, run_sliceBound hj, run_sliceBound hi']
theorem stepCut_ok (hG : G.Ok) (h : stepCut G n o S = some S') : ValOk G w0 O0 n o S S' := by
  unfold stepCut at h
  split at h
  · rename_i t x lo hi mx hop
    split at h
    · rename_i q pt e hx hU
      split at h
      · rename_i m τ l ti hrow hI
        split at h
        · rename_i i j hi1 hj1
          split at h
          · rename_i hty
            split at h
            · rename_i hc
              obtain ⟨info, z, i1, i2, _, _, _, _, _, _, _, i6⟩ := hG.i _ _ hI
              obtain ⟨_, i7, i8⟩ := i6 τ hty
              refine .of fun a w hS => ?_
              obtain ⟨βv, β, hH, _⟩ := hS.holds
              obtain ⟨ha, hlen, A, c, e1, e2, e3⟩ := at_of_row (F := S.F) (βv := βv) hrow (ev_rel hH.env hx)
              have hcap := hH.lays.rows _ _ _ _ ha
              have b1 : (lo.map a.eval = none ∧ i = (0 : Nat)) ∨ ∃ k, lo.map a.eval = some (.int k i) := by
                rcases bound_spec hi1 hS with ⟨rfl, rfl⟩ | ⟨y, k, rfl, hy⟩
                · exact .inl ⟨rfl, rfl⟩
                · exact .inr ⟨k, by simp [hy]⟩
              have b2 : (hi.map a.eval = none ∧ j = (ptLen pt l.length : Nat)) ∨ ∃ k, hi.map a.eval = some (.int k j) := by
                rcases bound_spec hj1 hS with ⟨rfl, rfl⟩ | ⟨y, k, rfl, hy⟩
                · exact .inl ⟨rfl, rfl⟩
                · exact .inr ⟨k, by simp [hy]⟩
              have hb := run_bounds (P := G.P) (cap := c) (w := w) b1 b2 hc (by omega)
              refine ⟨.slice (if c = i.toNat then A else A.map (·.add (i.toNat * info.size))) (j.toNat - i.toNat) (c - i.toNat), ?_, hS.value (fun βv' β' hH' => ?_) h⟩
              · simp only [execOp, hop, Instr.sliceAt, Instr.slice, Sem.run_bind, e1]
                rw [run_underlying (hG.u _ _ hU)]
                simp only [Result.andThen_ok, Sem.run_bind]
                rw [run_underlying (hG.u _ _ hU)]
                simp only [Result.andThen_ok, Sem.run_bind, Option.map_none]
                rw [hb]
                simp [sizeOf, typeInfo, i1]
              · obtain ⟨ha', hlen', A', c', f1, f2, f3⟩ := at_of_row (F := S.F) (βv := βv') hrow (ev_rel hH'.env hx)
                have hcap' := hH'.lays.rows _ _ _ _ ha'
                rw [e1] at f1
                simp only [Value.slice.injEq, true_and] at f1
                obtain ⟨rfl, rfl⟩ := f1
                refine ⟨m, τ, l, ha', by show ptLo pt + i.toNat + (j.toNat - i.toNat) ≤ l.length; omega, _, _, rfl, by show c - i.toNat + (ptLo pt + i.toNat) = (β' q).cap; omega, ?_⟩
                by_cases hz : c = i.toNat
                · exact .inl (by omega)
                · refine .inr ?_
                  rcases f3 with f3 | f3
                  · omega
                  · show _ = some (⟨(β' q).b, (β' q).base + (ptLo pt + i.toNat) * (β' q).sz, none⟩ : Addr)
                    rw [if_neg hz, f3]
                    simp only [Option.map_some, Addr.add_lit, i2, i7, hcap'.1]
                    rw [Nat.add_mul, Nat.add_assoc]
            · cases h
          · cases h
        · cases h
      · cases h
    · cases h
  · cases h
end
end Go.Proofs.YtnceiegngfpmkaaAm
namespace Go.Proofs.YtnceiegngfpmkaaAm
set_option linter.unusedVariables false

/-- What append leaves: the row (b', base', c') and memory. b: the row's block that was, if there was room in it. -/
structure AppRes (w w' : World) (sz n m c b base : Nat) (olds news : List Value) (v' : Value) (b' base' c' : Nat) : Prop where
  val : ∃ A, v' = .slice A (n + m) c' ∧ (c' = 0 ∨ A = some ⟨b', base', none⟩)
  le : n + m ≤ c'
  blk : c' ≠ 0 → ∃ cs e, w'.heap[b']? = some (.cells cs e (0, 0)) ∧ base' + c' * sz ≤ cs.size
  cells : ∀ j v, (olds ++ news)[j]? = some v → w'.cell? ⟨b', base' + j, none⟩ = some v
  heap : ∀ k, k < w.heap.size → (c ≠ 0 → k ≠ b) → w'.heap[k]? = w.heap[k]?
  size : w.heap.size ≤ w'.heap.size
  os : w'.os = w.os
  tape : w'.tape = w.tape
  output : w'.output = w.output
  here : c' ≠ 0 → (c ≠ 0 ∧ b' = b) ∨ (b' = w.heap.size ∧ b' < w'.heap.size)

section
variable {P : Program} (w : World)
theorem run_append_room_at (t ty e t0 : TypeId) (i : TypeInfo) (ht : P.underlying t = some (.slice e)) (hi : P.info? e = some i)
    (g base sLen sCap : Nat) (cur : Array Value) (hg : w.heap[g]? = some (.cells cur t0 (0, 0)))
    (a : Addr) (m c : Nat) (news : List Value) (hl : news.length = m * i.size) (hnews : ∀ j u, news[j]? = some u → w.cell? (a.add j) = some u) (h1 : ∀ u ∈ news, u.oneCell' = true)
    (hroom : sLen + m ≤ sCap) (hfit : base + sLen * i.size + news.length ≤ cur.size) :
    (Builtin.append_ #[t, t] ty #[.slice (some ⟨g, base, none⟩) sLen sCap, .slice (some a) m c]).run P w =
      .ok (.slice (some ⟨g, base, none⟩) (sLen + m) sCap) (w.setRow g (cur.toList.take (base + sLen * i.size) ++ news ++ cur.toList.drop (base + sLen * i.size + news.length)).toArray) := by
  have hf := run_firstCells_some (P := P) w i.size m a m c news hl hnews
  have hst := run_storeCells_at P g (base + sLen * i.size) t0 news 0 cur w hg (by simpa using hfit) h1
  simp only [Nat.add_zero] at hst
  simp [Builtin.append_, run_underlying ht, sizeOf, typeInfo, hi, Builtin.lenOf, hroom, hf, Addr.add_lit, hst]
theorem run_append_zero (t ty e : TypeId) (i : TypeInfo) (ht : P.underlying t = some (.slice e)) (hi : P.info? e = some i) (A B : Option Addr) (n c c2 : Nat) (hn : n ≤ c) :
    (Builtin.append_ #[t, t] ty #[.slice A n c, .slice B 0 c2]).run P w = .ok (.slice A n c) w := by
  have hf : (Builtin.firstCells i.size 0 (.slice B 0 c2)).run P w = .ok #[] w := by
    cases B with
    | none => simp [Builtin.firstCells]
    | some b => simp [Builtin.firstCells, loadCells, loadCellsFrom]
  cases A <;> simp [Builtin.append_, run_underlying ht, sizeOf, typeInfo, hi, Builtin.lenOf, hn, hf, storeCells]
theorem zeroCells_size (z : Array Value) (n : Nat) : (Builtin.zeroCells z n).size = n * z.size := by simp [Builtin.zeroCells]
theorem run_append_any (t ty e : TypeId) (i : TypeInfo) (z : Value) (ht : P.underlying t = some (.slice e)) (hi : P.info? e = some i) (hz : i.zero = some z) (hzs : z.cells.size = i.size)
    (A : Option Addr) (n c b base : Nat) (hn : n ≤ c) (hA : c = 0 ∨ A = some ⟨b, base, none⟩)
    (hblk : c ≠ 0 → ∃ cs e0, w.heap[b]? = some (.cells cs e0 (0, 0)) ∧ base + c * i.size ≤ cs.size)
    (olds : List Value) (hlo : olds.length = n * i.size) (holds : ∀ j v, olds[j]? = some v → w.cell? ⟨b, base + j, none⟩ = some v)
    (B : Option Addr) (m c2 : Nat) (news : List Value) (hl : news.length = m * i.size) (hB : m = 0 ∨ ∃ a, B = some a ∧ ∀ j u, news[j]? = some u → w.cell? (a.add j) = some u) (h1 : ∀ u ∈ news, u.oneCell' = true)
    (h63 : n + m ≤ 9223372036854775807) (hbytes : (n + m) * i.bytes ≤ 140737488355328) (hnil : A = none → n = 0 ∧ c = 0) :
    ∃ v' w' b' base' c', (Builtin.append_ #[t, t] ty #[.slice A n c, .slice B m c2]).run P w = .ok v' w' ∧ AppRes w w' i.size n m c b base olds news v' b' base' c' := by
  by_cases hm : m = 0
  · subst hm
    have hnews : news = [] := List.eq_nil_of_length_eq_zero (by simpa using hl)
    subst hnews
    refine ⟨.slice A n c, w, b, base, c, run_append_zero w t ty e i ht hi A B n c c2 hn, ⟨A, rfl, hA⟩, hn, hblk, fun j v h => ?_, fun _ _ _ => rfl, Nat.le_refl _, rfl, rfl, rfl, fun hc => .inl ⟨hc, rfl⟩⟩
    exact holds j v (by simpa using h)
  · obtain ⟨a, rfl, hnews⟩ := hB.resolve_left hm
    by_cases hroom : n + m ≤ c
    · have hc : c ≠ 0 := by omega
      obtain ⟨cur, e0, hg, hfit⟩ := hblk hc
      obtain rfl := hA.resolve_left hc
      have hle : base + n * i.size + news.length ≤ cur.size := by
        have := Nat.mul_le_mul_right i.size hroom
        rw [Nat.add_mul] at this
        omega
      have hr := run_append_room_at (P := P) w t ty e e0 i ht hi b base n c cur hg a m c2 news hl hnews h1 hroom hle
      have hg' := setRow_heap w b cur (cur.toList.take (base + n * i.size) ++ news ++ cur.toList.drop (base + n * i.size + news.length)).toArray e0 (0, 0) hg
      have hlen : (cur.toList.take (base + n * i.size)).length = base + n * i.size := by simp; omega
      refine ⟨_, _, b, base, c, hr, ⟨_, rfl, .inr rfl⟩, hroom, fun _ => ⟨_, e0, hg', ?_⟩, fun j v h => ?_, fun k _ hk => setRow_other w b k _ (hk hc), by simp, rfl, rfl, rfl, fun _ => .inl ⟨hc, rfl⟩⟩
      · simp only [List.size_toArray, List.length_append, List.length_drop, hlen, Array.length_toList]
        omega
      · rw [cell_of_row _ _ _ _ _ _ hg']
        simp only [List.getElem?_toArray]
        by_cases hj : j < olds.length
        · rw [List.getElem?_append_left hj] at h
          have h2 := holds j v h
          rw [cell_of_row w b _ cur e0 (0, 0) hg] at h2
          rw [List.append_assoc, List.getElem?_append_left (by rw [hlen]; omega), List.getElem?_take]
          rw [if_pos (by omega)]
          simpa using h2
        · rw [List.getElem?_append_right (by omega)] at h
          have hj2 := (List.getElem?_eq_some_iff.1 h).1
          rw [List.append_assoc, List.getElem?_append_right (by rw [hlen]; omega), hlen, List.getElem?_append_left (by omega)]
          rw [← h]
          congr 1
          omega
    · have res : ∀ (cap : Nat) (cs : Array Value), n + m ≤ cap → cs = olds.toArray ++ news.toArray ++ Builtin.zeroCells z.cells (cap - (n + m)) →
          AppRes w (w.drew.alloc (.cells cs e)) i.size n m c b base olds news (.slice (some ⟨w.heap.size, 0, none⟩) (n + m) cap) w.heap.size 0 cap := by
        intro cap cs hcap hcs
        have hnew : (w.drew.alloc (.cells cs e)).heap[w.heap.size]? = some (.cells cs e (0, 0)) := heap_alloc_new w.drew _
        refine ⟨⟨_, rfl, .inr rfl⟩, hcap, fun _ => ⟨cs, e, hnew, ?_⟩, fun j v h => ?_, fun k hk _ => heap_alloc_old w.drew _ k hk, by simp, rfl, rfl, rfl, fun _ => .inr ⟨rfl, by simp⟩⟩
        · subst hcs
          simp only [Array.size_append, List.size_toArray, zeroCells_size, hzs, hlo, hl, ← Nat.add_mul]
          rw [Nat.zero_add]
          exact Nat.mul_le_mul_right _ (by omega)
        · rw [cell_of_row _ _ _ _ _ _ hnew, Nat.zero_add]
          subst hcs
          have hj := (List.getElem?_eq_some_iff.1 h).1
          have e1 : (olds.toArray ++ news.toArray ++ Builtin.zeroCells z.cells (cap - (n + m)))[j]? = (olds ++ news)[j]? := by
            rw [Array.getElem?_append_left (by simpa using hj)]
            simp
          rw [e1]; exact h
      cases A with
      | none =>
        obtain ⟨rfl, rfl⟩ := hnil rfl
        have holds0 : olds = [] := List.eq_nil_of_length_eq_zero (by simpa using hlo)
        subst holds0
        have hr := run_append_nil (P := P) w t ty e i z ht hi hz a m c2 news hl hnews (by omega) (by omega) (by simp only [Nat.zero_add] at hbytes; omega)
        have := res (grownCap w m 0 e) _ (by simpa using grownCap_ge w m 0 e) rfl
        simp only [Nat.zero_add] at this ⊢
        refine ⟨_, _, w.heap.size, 0, grownCap w m 0 e, hr, ?_⟩
        rw [show #[] ++ news.toArray = news.toArray from by simp] at this
        exact this
      | some ad =>
        have holds' : ∀ j v, olds[j]? = some v → w.cell? (ad.add j) = some v := fun j v h => by
          rcases hA with hc | hA
          · have : n = 0 := by omega
            subst this
            have : olds = [] := List.eq_nil_of_length_eq_zero (by simpa using hlo)
            subst this
            simp at h
          · cases hA
            rw [Addr.add_lit]
            exact holds j v h
        have hr := run_append_grow (P := P) w t ty e i z ht hi hz ad n c olds hlo holds' a m c2 news hl hnews (by omega) (by omega) (growslice_fits (by omega) hbytes)
        exact ⟨_, _, _, _, _, hr, res _ _ (grownCap_ge w (n + m) c e) rfl⟩
end
end Go.Proofs.YtnceiegngfpmkaaAm
namespace Go.Proofs.YtnceiegngfpmkaaAm
set_option linter.unusedVariables false
open Classical in
/-- The layout with a tree more, at root r. -/
noncomputable def addLay (r : Nat) (β γ : Layout) : Layout := fun q2 => if h : (Pl.cell r 0).Under q2 then γ (top.app h.choose) else β q2
theorem addLay_app (r : Nat) (β γ : Layout) (p : List (Nat × Nat)) : addLay r β γ ((Pl.cell r 0).app p) = γ (top.app p) := graftLay_app (.cell r 0) β γ p
theorem addLay_other (r : Nat) (β γ : Layout) (q2 : Pl) (h : q2.root ≠ r) : addLay r β γ q2 = β q2 :=
  graftLay_other (.cell r 0) β γ q2 (fun ⟨p, e⟩ => h (by rw [e, Pl.root_app]; rfl))
section
variable {F : Forest} {h : Option Pl} {βv : Nat → Nat} {β γ : Layout} {w : World} {r : Nat} {c : Cell}
theorem at_add {q : Pl} {c2 : Cell} (ha : At (F.put r (some ⟨false, [c]⟩)) q c2) : (q.root = r ∧ ∃ p, q = (Pl.cell r 0).app p ∧ AtC c p c2) ∨ (q.root ≠ r ∧ At F q c2) := by
  by_cases hq : q.root = r
  · refine .inl ⟨hq, ?_⟩
    have : (Pl.cell r 0).Under q := by
      have : ∀ (q : Pl) (c2 : Cell), At (F.put r (some ⟨false, [c]⟩)) q c2 → q.root = r → (Pl.cell r 0).Under q := by
        intro q
        induction q with
        | cell r2 o =>
          rintro c2 ⟨R, k1, k2⟩ e
          simp only [Pl.root] at e
          subst e
          simp only [Forest.get_put, if_true, Option.some.injEq] at k1
          subst k1
          have := (List.getElem?_eq_some_iff.1 k2).1
          simp at this
          subst this
          exact under_refl _
        | sub q2 i o ih =>
          rintro c2 ⟨c0, h0, _⟩ e
          exact under_trans (ih c0 h0 e) (under_sub _ _ _)
      exact this q c2 ha hq
    obtain ⟨p, rfl⟩ := this
    refine ⟨p, rfl, ?_⟩
    obtain ⟨c1, ⟨R, k1, k2⟩, h3⟩ := at_app.1 ha
    simp only [Forest.get_put, if_true, Option.some.injEq] at k1
    subst k1
    simp only [List.getElem?_cons_zero, Option.some.injEq] at k2
    exact k2 ▸ h3
  · exact .inr ⟨hq, (at_get (by simp [hq])).1 ha⟩
theorem at_add_new {p : List (Nat × Nat)} {c2 : Cell} (ha : AtC c p c2) : At (F.put r (some ⟨false, [c]⟩)) ((Pl.cell r 0).app p) c2 :=
  at_app.2 ⟨c, ⟨_, by simp only [Forest.get_put, if_true]; rfl, rfl⟩, ha⟩
theorem Lays.addTree (hL : Lays F h βv β w) (hr : F.get r = none) (hG : Lays (solo c) none βv γ w) (hc : (∃ x, c = .v x) ∨ ∃ m τ l, c = .rows m τ l)
    (hd1 : ∀ b, OwnB (solo c) none βv γ b → ¬ OwnB F h βv β b ∧ ¬ ShB F h β b) (hd2 : ∀ b, ShB (solo c) none γ b → ¬ OwnB F h βv β b) :
    Lays (F.put r (some ⟨false, [c]⟩)) h βv (addLay r β γ) w ∧ (∀ b, OwnB (F.put r (some ⟨false, [c]⟩)) h βv (addLay r β γ) b → OwnB F h βv β b ∨ OwnB (solo c) none βv γ b) ∧ ∀ b, ShB (F.put r (some ⟨false, [c]⟩)) h (addLay r β γ) b → ShB F h β b ∨ ShB (solo c) none γ b := by
  have ne_of : ∀ {r' R}, F.get r' = some R → r' ≠ r := fun {r' R} e k => by subst k; rw [hr] at e; cases e
  have varB : ∀ {r' R}, (F.put r (some ⟨false, [c]⟩)).get r' = some R → R.mem = true → r' ≠ r ∧ F.get r' = some R := fun {r' R} h1 h2 => by
    by_cases hq : r' = r
    · subst hq
      simp only [Forest.get_put, if_true, Option.some.injEq] at h1
      subst h1; cases h2
    · rw [Forest.get_put, if_neg hq] at h1; exact ⟨hq, h1⟩
  have back : ∀ {q c2}, AtN (F.put r (some ⟨false, [c]⟩)) h q c2 → (∃ p, q = (Pl.cell r 0).app p ∧ AtC c p c2) ∨ (q.root ≠ r ∧ AtN F h q c2) := fun {q c2} ha => by
    rcases at_add ha.1 with ⟨_, h1⟩ | ⟨h1, h2⟩
    · exact .inl h1
    · exact .inr ⟨h1, h2, ha.2⟩
  have hO : ∀ b, OwnB (F.put r (some ⟨false, [c]⟩)) h βv (addLay r β γ) b → OwnB F h βv β b ∨ OwnB (solo c) none βv γ b := by
    rintro b (⟨r', R, h1, h2, h3⟩ | ⟨q2, m, τ, l, h1, h2, h3, rfl⟩)
    · exact .inl (.inl ⟨r', R, (varB h1 h2).2, h2, h3⟩)
    · rcases back h1 with ⟨p, rfl, k⟩ | ⟨k1, k2⟩
      · rw [addLay_app] at h3 ⊢
        exact .inr (.inr ⟨_, m, τ, l, solo_atN k, h2, h3, rfl⟩)
      · rw [addLay_other _ _ _ _ k1] at h3 ⊢
        exact .inl (.inr ⟨q2, m, τ, l, k2, h2, h3, rfl⟩)
  have hS : ∀ b, ShB (F.put r (some ⟨false, [c]⟩)) h (addLay r β γ) b → ShB F h β b ∨ ShB (solo c) none γ b := by
    rintro b ⟨q2, m, τ, l, h1, h2, h3, rfl⟩
    rcases back h1 with ⟨p, rfl, k⟩ | ⟨k1, k2⟩
    · rw [addLay_app]
      exact .inr ⟨_, m, τ, l, solo_atN k, h2, h3, rfl⟩
    · rw [addLay_other _ _ _ _ k1]
      exact .inl ⟨q2, m, τ, l, k2, h2, h3, rfl⟩
  refine ⟨?_, hO, hS⟩
  exact {
    cells := fun q c2 ha hm => by
      rcases back ha with ⟨p, rfl, k⟩ | ⟨k1, k2⟩
      · rcases List.eq_nil_or_concat p with rfl | ⟨p', ⟨i, o⟩, rfl⟩
        · obtain ⟨R, j1, j2⟩ := hm
          exact absurd rfl (varB j1 j2).1
        · simp only [List.concat_eq_append] at k ⊢
          obtain ⟨u, g1, g2⟩ := hG.cells _ _ (solo_atN k) (solo_inMem _ _ (by simp))
          refine ⟨u, ?_, ?_⟩
          · rw [addr_app (βv2 := βv) (βv := βv) (q := top) (β := γ) (addLay_app r β γ p')]; exact g1
          · rw [addLay_app]; exact g2.plain (atC_plain (by simp) k)
      · obtain ⟨u, g1, g2⟩ := hL.cells q c2 k2 ((inMem_get (by simp [k1])).1 hm)
        have hadd : q.addr βv (addLay r β γ) = q.addr βv β := by
          cases q with
          | cell r' o => rfl
          | sub q i o => simp only [Pl.addr]; rw [addLay_other _ _ _ q k1]
        refine ⟨u, by rw [hadd]; exact g1, ?_⟩
        rw [addLay_other _ _ _ q k1]
        exact g2.any (fun r' R h1 h2 => ⟨R, by rw [Forest.get_put, if_neg (ne_of h1)]; exact h1, h2, rfl⟩)
    rows := fun q m τ l ha => by
      rcases back ha with ⟨p, rfl, k⟩ | ⟨k1, k2⟩
      · rw [addLay_app]; exact hG.rows _ m τ l (solo_atN k)
      · rw [addLay_other _ _ _ _ k1]; exact hL.rows q m τ l k2
    ownb := fun q m τ l ha hm hcap => by
      rcases back ha with ⟨p, rfl, k⟩ | ⟨k1, k2⟩
      · rw [addLay_app] at hcap ⊢; exact hG.ownb _ m τ l (solo_atN k) hm hcap
      · rw [addLay_other _ _ _ _ k1] at hcap ⊢; exact hL.ownb q m τ l k2 hm hcap
    vars := fun r' R h1 h2 => hL.vars r' R (varB h1 h2).2 h2
    vv := fun r1 r2 R1 R2 h1 m1 h2 m2 => hL.vv r1 r2 R1 R2 (varB h1 m1).2 m1 (varB h2 m2).2 m2
    rr := fun q1 q2 m m' τ τ' l l' h1 o1 k1 h2 o2 k2 e => by
      rcases back h1 with ⟨p1, rfl, a1⟩ | ⟨a1, b1⟩ <;> rcases back h2 with ⟨p2, rfl, a2⟩ | ⟨a2, b2⟩
      · rw [addLay_app] at k1 k2
        rw [addLay_app, addLay_app] at e
        rw [Pl.app_self (hG.rr _ _ m m' τ τ' l l' (solo_atN a1) o1 k1 (solo_atN a2) o2 k2 e)]
      · rw [addLay_app] at k1
        rw [addLay_other _ _ _ _ a2] at k2
        rw [addLay_app, addLay_other _ _ _ _ a2] at e
        exact absurd (.inr ⟨q2, m', τ', l', b2, o2, k2, e.symm⟩) (hd1 _ (.inr ⟨_, m, τ, l, solo_atN a1, o1, k1, rfl⟩)).1
      · rw [addLay_other _ _ _ _ a1] at k1
        rw [addLay_app] at k2
        rw [addLay_other _ _ _ _ a1, addLay_app] at e
        exact absurd (.inr ⟨q1, m, τ, l, b1, o1, k1, e⟩) (hd1 _ (.inr ⟨_, m', τ', l', solo_atN a2, o2, k2, rfl⟩)).1
      · rw [addLay_other _ _ _ _ a1] at k1
        rw [addLay_other _ _ _ _ a2] at k2
        rw [addLay_other _ _ _ _ a1, addLay_other _ _ _ _ a2] at e
        exact hL.rr q1 q2 m m' τ τ' l l' b1 o1 k1 b2 o2 k2 e
    vr := fun r' R q2 m τ l h1 h2 h3 h4 h5 e => by
      rcases back h3 with ⟨p2, rfl, a2⟩ | ⟨a2, b2⟩
      · rw [addLay_app] at h5 e
        exact (hd1 _ (.inr ⟨_, m, τ, l, solo_atN a2, h4, h5, rfl⟩)).1 (.inl ⟨r', R, (varB h1 h2).2, h2, e⟩)
      · rw [addLay_other _ _ _ _ a2] at h5 e
        exact hL.vr r' R q2 m τ l (varB h1 h2).2 h2 b2 h4 h5 e
    sh := fun b hs ho => by
      rcases hS b hs with hs | hs <;> rcases hO b ho with ho | ho
      · exact hL.sh b hs ho
      · exact (hd1 b ho).2 hs
      · exact hd2 b hs ho
      · exact hG.sh b hs ho }
theorem AcRel.add {x : AC} {v : Value} (hr : F.get r = none) (hx : AcRel F h βv β x v) : AcRel (F.put r (some ⟨false, [c]⟩)) h βv (addLay r β γ) x v := by
  have row : ∀ {q m τ l}, AtN F h q (.rows m τ l) → q.root ≠ r ∧ AtN (F.put r (some ⟨false, [c]⟩)) h q (.rows m τ l) := fun {q m τ l} ha => by
    obtain ⟨R1, h1⟩ := at_root ha.1
    have hne : q.root ≠ r := by intro e; rw [e, hr] at h1; cases h1
    exact ⟨hne, (at_get (by simp [hne])).2 ha.1, ha.2⟩
  have h0 := AcRel.more (R := some ⟨false, [c]⟩) (βv2 := βv) hr (fun _ _ => rfl) hx
  cases x with
  | lit u => exact hx
  | nil τ => exact hx
  | dead => trivial
  | clo f caps => exact h0
  | sl q pt =>
    obtain ⟨m, τ, l, h1, h2, h3⟩ := hx
    obtain ⟨k1, k2⟩ := row h1
    exact ⟨m, τ, l, k2, h2, by rw [addLay_other _ _ _ _ k1]; exact h3⟩
  | ptr q =>
    cases q with
    | cell r' o => exact h0
    | sub q i o =>
      obtain ⟨⟨m, τ, l, h1, h2⟩, h3⟩ := hx
      obtain ⟨k1, k2⟩ := row h1
      refine ⟨⟨m, τ, l, k2, h2⟩, ?_⟩
      rw [h3]
      simp only [Pl.addr, addLay_other _ _ _ _ k1]
end

/-- A root of its own for a row; the temporary holds it. -/
def St.newRow (S : St) (n r : Nat) (dst : Option Tmp) (m : Mode) (τ : Ty) (l : List (Interp τ)) : Option St :=
  if S.aux = [] ∧ (S.F.get r).isNone then St.bind { S with F := S.F.put r (some ⟨false, [.rows m τ l]⟩) } n dst (.c (.sl (.cell r 0) none)) else none
section
variable {n r : Nat} {S S' : St} {βv : Nat → Nat} {β γ : Layout} {w : World} {a : Act}
theorem newRow_holds {dst : Option Tmp} {m : Mode} {τ : Ty} {l : List (Interp τ)} {u : Value} (hH : Holds S βv β a.tmps [] w) (hn : a.tmps.size = n) (h : S.newRow n r dst m τ l = some S') (hG : Lays (solo (.rows m τ l)) none βv γ w)
    (hd1 : ∀ b, OwnB (solo (.rows m τ l)) none βv γ b → ¬ OwnB S.F S.hole βv β b ∧ ¬ ShB S.F S.hole β b) (hd2 : ∀ b, ShB (solo (.rows m τ l)) none γ b → ¬ OwnB S.F S.hole βv β b)
    (hu : SlRel (γ top) 0 l.length u) (hh : ∀ q0, S.hole = some q0 → q0.root ≠ r) :
    ∃ β2, Holds S' βv β2 (a.put dst u).tmps [] w ∧ (∀ b, OwnB S'.F S'.hole βv β2 b → OwnB S.F S.hole βv β b ∨ OwnB (solo (.rows m τ l)) none βv γ b) ∧ (a.put dst u).tmps.size = n ∧ (a.put dst u).defers = a.defers ∧ ∀ b, ShB S'.F S'.hole β2 b → ShB S.F S.hole β b ∨ ShB (solo (.rows m τ l)) none γ b := by
  unfold St.newRow at h
  split at h
  · rename_i hc
    obtain ⟨c1, c2⟩ := hc
    simp only [Option.isNone_iff_eq_none] at c2
    obtain ⟨k1, k2, k3⟩ := hH.lays.addTree c2 hG (.inr ⟨m, τ, l, rfl⟩) hd1 hd2
    have henv := hH.env.mono (fun x v hx => AcRel.add (γ := γ) (c := .rows m τ l) c2 hx)
    have hval : AcRel (S.F.put r (some ⟨false, [.rows m τ l]⟩)) S.hole βv (addLay r β γ) (.sl (.cell r 0) none) u := by
      refine ⟨m, τ, l, ⟨at_add_new (p := []) rfl, fun q0 e hu => hh q0 e ?_⟩, by simp [ptLo, ptLen], ?_⟩
      · obtain ⟨p, e⟩ := hu
        have := congrArg Pl.root e
        rw [Pl.root_app] at this
        exact this.symm
      · have := addLay_app r β γ []
        simp only [Pl.app] at this
        rw [this]
        exact hu
    obtain ⟨h3, h4, h5, h8, h6, h7⟩ := put_env (S' := S') (av := .c (.sl (.cell r 0) none)) henv hn hval (dst := dst) (by simpa using h)
    refine ⟨addLay r β γ, ⟨?_, ?_, ?_⟩, ?_, h6, h7, ?_⟩
    · rw [h4, h5]; exact k1
    · rw [h4, h5]; exact h3
    · rw [h8, c1]; exact .nil
    · rw [h4, h5]; exact k2
    · rw [h4, h5]; exact k3
  · cases h
end
end Go.Proofs.YtnceiegngfpmkaaAm
namespace Go.Proofs.YtnceiegngfpmkaaAm
set_option linter.unusedVariables false

/-- Elements and the values of their cells; what lies behind them in memory. -/
structure Elems (βv : Nat → Nat) (w : World) (m : Mode) (τ : Ty) (l : List (Interp τ)) (vs : List Value) (γ : Nat → Nat → Layout) : Prop where
  len : vs.length = l.length * τ.size
  one : ∀ v ∈ vs, v.oneCell' = true
  cell : ∀ i o c, i < l.length → (Cell.rows m τ l).sub i o = some c → ∃ u, vs[i * τ.size + o]? = some u ∧ CellRel [] βv (γ i o) c (γ i o top) u
  tree : ∀ i o c, i < l.length → (Cell.rows m τ l).sub i o = some c → Lays (solo c) none βv (γ i o) w
  oo : ∀ i o c i' o' c' b, i < l.length → (Cell.rows m τ l).sub i o = some c → i' < l.length → (Cell.rows m τ l).sub i' o' = some c' → OwnB (solo c) none βv (γ i o) b → OwnB (solo c') none βv (γ i' o') b → i = i' ∧ o = o'
  so : ∀ i o c i' o' c' b, i < l.length → (Cell.rows m τ l).sub i o = some c → i' < l.length → (Cell.rows m τ l).sub i' o' = some c' → ShB (solo c) none (γ i o) b → ¬ OwnB (solo c') none βv (γ i' o') b
/-- Blocks behind elements: own, shared. -/
def OwnE (βv : Nat → Nat) (m : Mode) (τ : Ty) (l : List (Interp τ)) (γ : Nat → Nat → Layout) (b : Nat) : Prop := ∃ i o c, i < l.length ∧ (Cell.rows m τ l).sub i o = some c ∧ OwnB (solo c) none βv (γ i o) b
def ShE (m : Mode) (τ : Ty) (l : List (Interp τ)) (γ : Nat → Nat → Layout) (b : Nat) : Prop := ∃ i o c, i < l.length ∧ (Cell.rows m τ l).sub i o = some c ∧ ShB (solo c) none (γ i o) b
section
variable {βv : Nat → Nat} {w w' : World} {m m1 m2 : Mode} {τ : Ty} {l l1 l2 : List (Interp τ)} {vs vs1 vs2 : List Value} {γ : Layout} {γe γ1 γ2 : Nat → Nat → Layout}
theorem solo_sub_at {i o : Nat} {c : Cell} (hi : i < l.length) (hs : (Cell.rows m τ l).sub i o = some c) : AtN (solo (.rows m τ l)) none (top.sub i o) c :=
  solo_atN (p := [(i, o)]) ⟨c, hi, hs, rfl⟩
/-- The elements of a tree. -/
theorem Elems.of_tree (hL : Lays (solo (.rows m τ l)) none βv γ w) : ∃ vs, Elems βv w m τ l vs (fun i o => treeLay (top.sub i o) γ) ∧
    (∀ j v, vs[j]? = some v → w.cell? ⟨(γ top).b, (γ top).base + j, none⟩ = some v) ∧
    (∀ b, OwnE βv m τ l (fun i o => treeLay (top.sub i o) γ) b → OwnB (solo (.rows m τ l)) none βv γ b ∧ ((γ top).cap ≠ 0 → m.isOwn = true → b ≠ (γ top).b)) ∧ (∀ b, ShE m τ l (fun i o => treeLay (top.sub i o) γ) b → ShB (solo (.rows m τ l)) none γ b) := by
  have hrow := hL.rows top m τ l (solo_atN (p := []) rfl)
  have hcell : ∀ i o c, i < l.length → (Cell.rows m τ l).sub i o = some c → ∃ u, w.cell? ⟨(γ top).b, (γ top).base + (i * τ.size + o), none⟩ = some u ∧ CellRel (solo (.rows m τ l)) βv γ c (γ (top.sub i o)) u := fun i o c hi hs => by
    obtain ⟨u, g1, g2⟩ := hL.cells _ _ (solo_sub_at hi hs) trivial
    refine ⟨u, ?_, g2⟩
    simp only [Pl.addr, hrow.1, Nat.add_assoc] at g1
    exact g1
  have hsub : ∀ i o, i < l.length → o < τ.size → ∃ c, (Cell.rows m τ l).sub i o = some c := fun i o hi ho => by
    have : o < (toCells m.next τ (l.getD i (dflt τ))).length := by rw [toCells_length]; exact ho
    exact ⟨_, List.getElem?_eq_getElem this⟩
  let vs : List Value := (List.range (l.length * τ.size)).map fun j => (w.cell? ⟨(γ top).b, (γ top).base + j, none⟩).getD undef
  have hvs : ∀ j, j < l.length * τ.size → ∃ i o c, i < l.length ∧ j = i * τ.size + o ∧ (Cell.rows m τ l).sub i o = some c ∧ ∃ u, vs[j]? = some u ∧ w.cell? ⟨(γ top).b, (γ top).base + j, none⟩ = some u ∧ CellRel (solo (.rows m τ l)) βv γ c (γ (top.sub i o)) u := fun j hj => by
    have hsz : 0 < τ.size := by
      rcases Nat.eq_zero_or_pos τ.size with e | e
      · rw [e] at hj; omega
      · exact e
    have hi : j / τ.size < l.length := Nat.div_lt_of_lt_mul (by rw [Nat.mul_comm]; exact hj)
    have ho : j % τ.size < τ.size := Nat.mod_lt _ hsz
    have hje : j = j / τ.size * τ.size + j % τ.size := by have := Nat.div_add_mod j τ.size; rw [Nat.mul_comm] at this; omega
    obtain ⟨c, hc⟩ := hsub _ _ hi ho
    obtain ⟨u, g1, g2⟩ := hcell _ _ _ hi hc
    rw [← hje] at g1
    exact ⟨_, _, c, hi, hje, hc, u, by simp [vs, hj, g1], g1, g2⟩
  have ownUp : ∀ b, OwnE βv m τ l (fun i o => treeLay (top.sub i o) γ) b → OwnB (solo (.rows m τ l)) none βv γ b := by
    rintro b ⟨i, o, c, h1, h2, h3⟩
    exact (hL.tree_used (γ := treeLay (top.sub i o) γ) (solo_sub_at h1 h2) (fun _ e => by cases e) (fun p => treeLay_app _ γ p)).1 h3
  have shUp : ∀ b, ShE m τ l (fun i o => treeLay (top.sub i o) γ) b → ShB (solo (.rows m τ l)) none γ b := by
    rintro b ⟨i, o, c, h1, h2, h3⟩
    exact (hL.tree_used (γ := treeLay (top.sub i o) γ) (βv := βv) (solo_sub_at h1 h2) (fun _ e => by cases e) (fun p => treeLay_app _ γ p)).2 h3
  refine ⟨vs, ⟨by simp [vs], fun v hv => ?_, fun i o c hi hs => ?_, fun i o c hi hs => ?_, fun i o c i' o' c' b hi hs hi' hs' hb hb' => ?_, fun i o c i' o' c' b hi hs hi' hs' hb hb' => ?_⟩, fun j v hj => ?_, fun b hb => ⟨ownUp b hb, fun hc hm e => ?_⟩, shUp⟩
  · obtain ⟨j, hj⟩ := List.mem_iff_getElem?.1 hv
    have hlt : j < l.length * τ.size := by have := (List.getElem?_eq_some_iff.1 hj).1; simpa [vs] using this
    obtain ⟨i, o, c, h1, h2, h3, u, h4, h5, h6⟩ := hvs j hlt
    rw [hj] at h4
    cases h4
    rcases sub_mode h3 with ⟨x, rfl⟩ | ⟨τ', l', rfl⟩
    · rw [h6.1]; exact h6.2
    · obtain ⟨A, c, rfl, _⟩ := h6; rfl
  · have ho := sub_lt hs
    simp only [Cell.sz] at ho
    have hlt : i * τ.size + o < l.length * τ.size := by
      have := Nat.mul_le_mul_right τ.size (show i + 1 ≤ l.length by omega)
      rw [Nat.add_mul] at this; omega
    obtain ⟨u, g1, g2⟩ := hcell i o c hi hs
    refine ⟨u, by simp [vs, hlt, g1], ?_⟩
    have e := treeLay_app (top.sub i o) γ []
    simp only [Pl.app] at e
    rw [e]
    exact g2.plain (by
      rcases sub_mode hs with ⟨x, rfl⟩ | ⟨τ', l', rfl⟩
      · exact .inl ⟨x, rfl⟩
      · exact .inr ⟨_, τ', l', rfl⟩)
  · exact hL.tree (solo_sub_at hi hs) (fun _ e => by cases e) (fun p => treeLay_app _ γ p)
  · rcases hb with ⟨r, R, h1, h2, _⟩ | ⟨q2, m2, τ2, l2, h1, h2, h3, rfl⟩
    · rw [solo_noVar h1] at h2; cases h2
    · rcases hb' with ⟨r, R, k1, k2, _⟩ | ⟨q3, m3, τ3, l3, k1, k2, k3, k4⟩
      · rw [solo_noVar k1] at k2; cases k2
      · obtain ⟨p, rfl, h5⟩ := solo_at.1 h1.1
        obtain ⟨p', rfl, k5⟩ := solo_at.1 k1.1
        rw [treeLay_app] at h3 k3
        rw [treeLay_app, treeLay_app] at k4
        have a1 := atN_app (h := none) (fun _ e => by cases e) (solo_sub_at hi hs) h5
        have a2 := atN_app (h := none) (fun _ e => by cases e) (solo_sub_at hi' hs') k5
        have := hL.rr _ _ m3 m2 τ3 τ2 l3 l2 a2 k2 k3 a1 h2 h3 k4
        have e : top.app ((i', o') :: p') = top.app ((i, o) :: p) := this
        have := Pl.app_self e
        simp only [List.cons.injEq, Prod.mk.injEq] at this
        exact ⟨this.1.1.symm, this.1.2.symm⟩
  · exact hL.sh b (shUp b ⟨i, o, c, hi, hs, hb⟩) (ownUp b ⟨i', o', c', hi', hs', hb'⟩)
  · have hlt : j < l.length * τ.size := by have := (List.getElem?_eq_some_iff.1 hj).1; simpa [vs] using this
    obtain ⟨i, o, c, h1, h2, h3, u, h4, h5, h6⟩ := hvs j hlt
    rw [hj] at h4
    cases h4
    exact h5
  · obtain ⟨i, o, c, h1, h2, h3⟩ := hb
    rcases h3 with ⟨r, R, k1, k2, _⟩ | ⟨q2, m2, τ2, l2, k1, k2, k3, k4⟩
    · rw [solo_noVar k1] at k2; cases k2
    · obtain ⟨p, rfl, k5⟩ := solo_at.1 k1.1
      dsimp only at k3 k4
      rw [treeLay_app] at k3 k4
      have a1 := atN_app (h := none) (fun _ e => by cases e) (solo_sub_at h1 h2) k5
      have := hL.rr _ _ m2 m τ2 τ l2 l a1 k2 k3 (solo_atN (p := []) rfl) hm hc (k4.trans e)
      have e : top.app ((i, o) :: p) = top.app [] := this
      have := Pl.app_self e
      cases this
theorem Elems.frame (h : Elems βv w m τ l vs γe) (hf : ∀ b, OwnE βv m τ l γe b ∨ ShE m τ l γe b → w'.heap[b]? = w.heap[b]?) : Elems βv w' m τ l vs γe where
  len := h.len
  one := h.one
  cell := h.cell
  tree := fun i o c hi hs => (h.tree i o c hi hs).frame fun b hb => hf b (by
    rcases hb with hb | hb
    · exact .inl ⟨i, o, c, hi, hs, hb⟩
    · exact .inr ⟨i, o, c, hi, hs, hb⟩)
  oo := h.oo
  so := h.so
/-- The same elements with fewer rights. -/
theorem Elems.weaken (h : Elems βv w m1 τ l vs γe) (hc : m1.next.covers m2.next = true) : Elems βv w m2 τ l vs γe ∧ (∀ b, OwnE βv m2 τ l γe b → OwnE βv m1 τ l γe b) ∧ (∀ b, ShE m2 τ l γe b → OwnE βv m1 τ l γe b ∨ ShE m1 τ l γe b) := by
  have back : ∀ {i o c}, (Cell.rows m2 τ l).sub i o = some c → ∃ c0, (Cell.rows m1 τ l).sub i o = some c0 ∧ c = c0.reMode m2.next ∧ c0.fits m2.next = true := fun {i o c} hs => by
    simp only [Cell.sub] at hs ⊢
    rw [← toCells_reMode m1.next m2.next, List.getElem?_map] at hs
    obtain ⟨c0, h1, h2⟩ := Option.map_eq_some_iff.1 hs
    refine ⟨c0, h1, h2.symm, ?_⟩
    rcases sub_mode (c := .rows m1 τ l) (i := i) (o := o) (s := c0) h1 with ⟨x, rfl⟩ | ⟨τ', l', rfl⟩
    · rfl
    · exact hc
  have hO : ∀ {i o c b}, i < l.length → (Cell.rows m2 τ l).sub i o = some c → OwnB (solo c) none βv (γe i o) b → ∃ c0, (Cell.rows m1 τ l).sub i o = some c0 ∧ OwnB (solo c0) none βv (γe i o) b := fun {i o c b} hi hs hb => by
    obtain ⟨c0, h1, rfl, h3⟩ := back hs
    exact ⟨c0, h1, ((h.tree i o c0 hi h1).weaken h3).2.1 b hb⟩
  have hS : ∀ {i o c b}, i < l.length → (Cell.rows m2 τ l).sub i o = some c → ShB (solo c) none (γe i o) b → ∃ c0, (Cell.rows m1 τ l).sub i o = some c0 ∧ (OwnB (solo c0) none βv (γe i o) b ∨ ShB (solo c0) none (γe i o) b) := fun {i o c b} hi hs hb => by
    obtain ⟨c0, h1, rfl, h3⟩ := back hs
    exact ⟨c0, h1, ((h.tree i o c0 hi h1).weaken h3).2.2 b hb⟩
  refine ⟨⟨h.len, h.one, fun i o c hi hs => ?_, fun i o c hi hs => ?_, fun i o c i' o' c' b hi hs hi' hs' hb hb' => ?_, fun i o c i' o' c' b hi hs hi' hs' hb hb' => ?_⟩, ?_, ?_⟩
  · obtain ⟨c0, h1, rfl, h3⟩ := back hs
    obtain ⟨u, g1, g2⟩ := h.cell i o c0 hi h1
    exact ⟨u, g1, g2.reMode⟩
  · obtain ⟨c0, h1, rfl, h3⟩ := back hs
    exact ((h.tree i o c0 hi h1).weaken h3).1
  · obtain ⟨c0, h1, h2⟩ := hO hi hs hb
    obtain ⟨c0', h1', h2'⟩ := hO hi' hs' hb'
    exact h.oo i o c0 i' o' c0' b hi h1 hi' h1' h2 h2'
  · obtain ⟨c0', h1', h2'⟩ := hO hi' hs' hb'
    -- a block that is shared now, and own in the elder sense, is this very place's
    obtain ⟨c0, h1, h2⟩ := hS hi hs hb
    rcases h2 with h2 | h2
    · obtain ⟨rfl, rfl⟩ := h.oo i o c0 i' o' c0' b hi h1 hi' h1' h2 h2'
      rw [hs] at hs'
      cases hs'
      obtain ⟨c1, k1, rfl, k3⟩ := back hs
      exact ((h.tree i o c1 hi k1).weaken k3).1.sh b hb hb'
    · exact h.so i o c0 i' o' c0' b hi h1 hi' h1' h2 h2'
  · rintro b ⟨i, o, c, hi, hs, hb⟩
    obtain ⟨c0, h1, h2⟩ := hO hi hs hb
    exact ⟨i, o, c0, hi, h1, h2⟩
  · rintro b ⟨i, o, c, hi, hs, hb⟩
    obtain ⟨c0, h1, h2⟩ := hS hi hs hb
    rcases h2 with h2 | h2
    · exact .inl ⟨i, o, c0, hi, h1, h2⟩
    · exact .inr ⟨i, o, c0, hi, h1, h2⟩
def catLay {α : Type} (l1 : List α) (γ1 γ2 : Nat → Nat → Layout) : Nat → Nat → Layout := fun i o => if i < l1.length then γ1 i o else γ2 (i - l1.length) o
theorem sub_append_left {i o : Nat} (hi : i < l1.length) : (Cell.rows m τ (l1 ++ l2)).sub i o = (Cell.rows m τ l1).sub i o := by
  simp only [Cell.sub, List.getD, List.getElem?_append_left hi]
theorem sub_append_right {i o : Nat} (hi : ¬ i < l1.length) : (Cell.rows m τ (l1 ++ l2)).sub i o = (Cell.rows m τ l2).sub (i - l1.length) o := by
  simp only [Cell.sub, List.getD, List.getElem?_append_right (Nat.le_of_not_lt hi)]
/-- Two rows' elements, one after the other. -/
theorem Elems.append (h1 : Elems βv w m τ l1 vs1 γ1) (h2 : Elems βv w m τ l2 vs2 γ2) (hoo : ∀ b, OwnE βv m τ l1 γ1 b → ¬ OwnE βv m τ l2 γ2 b) (hso1 : ∀ b, ShE m τ l1 γ1 b → ¬ OwnE βv m τ l2 γ2 b) (hso2 : ∀ b, ShE m τ l2 γ2 b → ¬ OwnE βv m τ l1 γ1 b) :
    Elems βv w m τ (l1 ++ l2) (vs1 ++ vs2) (catLay l1 γ1 γ2) ∧ (∀ b, OwnE βv m τ (l1 ++ l2) (catLay l1 γ1 γ2) b → OwnE βv m τ l1 γ1 b ∨ OwnE βv m τ l2 γ2 b) ∧ (∀ b, ShE m τ (l1 ++ l2) (catLay l1 γ1 γ2) b → ShE m τ l1 γ1 b ∨ ShE m τ l2 γ2 b) := by
  have key : ∀ {i o c}, i < (l1 ++ l2).length → (Cell.rows m τ (l1 ++ l2)).sub i o = some c → (i < l1.length ∧ (Cell.rows m τ l1).sub i o = some c ∧ catLay l1 γ1 γ2 i o = γ1 i o) ∨
      (¬ i < l1.length ∧ i - l1.length < l2.length ∧ (Cell.rows m τ l2).sub (i - l1.length) o = some c ∧ catLay l1 γ1 γ2 i o = γ2 (i - l1.length) o) := fun {i o c} hi hs => by
    by_cases h : i < l1.length
    · exact .inl ⟨h, by rw [← sub_append_left (l2 := l2) h]; exact hs, by simp [catLay, h]⟩
    · exact .inr ⟨h, by simp at hi; omega, by rw [← sub_append_right (l2 := l2) h]; exact hs, by simp [catLay, h]⟩
  refine ⟨⟨by simp [h1.len, h2.len, Nat.add_mul], fun v hv => ?_, fun i o c hi hs => ?_, fun i o c hi hs => ?_, fun i o c i' o' c' b hi hs hi' hs' hb hb' => ?_, fun i o c i' o' c' b hi hs hi' hs' hb hb' => ?_⟩, ?_, ?_⟩
  · rcases List.mem_append.1 hv with hv | hv
    · exact h1.one v hv
    · exact h2.one v hv
  · have ho := sub_lt hs
    simp only [Cell.sz] at ho
    rcases key hi hs with ⟨k1, k2, k3⟩ | ⟨k1, k2, k3, k4⟩
    · rw [k3]
      obtain ⟨u, g1, g2⟩ := h1.cell i o c k1 k2
      refine ⟨u, ?_, g2⟩
      rw [List.getElem?_append_left (List.getElem?_eq_some_iff.1 g1).1]
      exact g1
    · rw [k4]
      obtain ⟨u, g1, g2⟩ := h2.cell _ o c k2 k3
      refine ⟨u, ?_, g2⟩
      have := Nat.mul_le_mul_right τ.size (Nat.le_of_not_lt k1)
      have e : i * τ.size = (i - l1.length) * τ.size + l1.length * τ.size := by rw [← Nat.add_mul]; congr 1; omega
      rw [List.getElem?_append_right (by rw [h1.len]; omega), h1.len]
      rw [← g1]
      congr 1
      omega
  · rcases key hi hs with ⟨k1, k2, k3⟩ | ⟨k1, k2, k3, k4⟩
    · rw [k3]; exact h1.tree i o c k1 k2
    · rw [k4]; exact h2.tree _ o c k2 k3
  · rcases key hi hs with ⟨k1, k2, k3⟩ | ⟨k1, k2, k3, k4⟩ <;> rcases key hi' hs' with ⟨j1, j2, j3⟩ | ⟨j1, j2, j3, j4⟩
    · rw [k3] at hb; rw [j3] at hb'; exact h1.oo i o c i' o' c' b k1 k2 j1 j2 hb hb'
    · rw [k3] at hb; rw [j4] at hb'; exact absurd ⟨_, o', c', j2, j3, hb'⟩ (hoo b ⟨i, o, c, k1, k2, hb⟩)
    · rw [k4] at hb; rw [j3] at hb'; exact absurd ⟨_, o, c, k2, k3, hb⟩ (hoo b ⟨i', o', c', j1, j2, hb'⟩)
    · rw [k4] at hb; rw [j4] at hb'
      obtain ⟨e1, e2⟩ := h2.oo _ o c _ o' c' b k2 k3 j2 j3 hb hb'
      exact ⟨by omega, e2⟩
  · rcases key hi hs with ⟨k1, k2, k3⟩ | ⟨k1, k2, k3, k4⟩ <;> rcases key hi' hs' with ⟨j1, j2, j3⟩ | ⟨j1, j2, j3, j4⟩
    · rw [k3] at hb; rw [j3] at hb'; exact h1.so i o c i' o' c' b k1 k2 j1 j2 hb hb'
    · rw [k3] at hb; rw [j4] at hb'; exact hso1 b ⟨i, o, c, k1, k2, hb⟩ ⟨_, o', c', j2, j3, hb'⟩
    · rw [k4] at hb; rw [j3] at hb'; exact hso2 b ⟨_, o, c, k2, k3, hb⟩ ⟨i', o', c', j1, j2, hb'⟩
    · rw [k4] at hb; rw [j4] at hb'; exact h2.so _ o c _ o' c' b k2 k3 j2 j3 hb hb'
  · rintro b ⟨i, o, c, hi, hs, hb⟩
    rcases key hi hs with ⟨k1, k2, k3⟩ | ⟨k1, k2, k3, k4⟩
    · rw [k3] at hb; exact .inl ⟨i, o, c, k1, k2, hb⟩
    · rw [k4] at hb; exact .inr ⟨_, o, c, k2, k3, hb⟩
  · rintro b ⟨i, o, c, hi, hs, hb⟩
    rcases key hi hs with ⟨k1, k2, k3⟩ | ⟨k1, k2, k3, k4⟩
    · rw [k3] at hb; exact .inl ⟨i, o, c, k1, k2, hb⟩
    · rw [k4] at hb; exact .inr ⟨_, o, c, k2, k3, hb⟩
open Classical in
/-- The layout of a row with these elements. -/
noncomputable def rowLay (L : Lay) (γe : Nat → Nat → Layout) : Layout := fun q2 => if h : top.Under q2 then (match h.choose with | [] => L | (i, o) :: p => γe i o (top.app p)) else L
theorem rowLay_app (L : Lay) (γe : Nat → Nat → Layout) (p : List (Nat × Nat)) : rowLay L γe (top.app p) = match p with | [] => L | (i, o) :: p => γe i o (top.app p) := by
  unfold rowLay
  have h : top.Under (top.app p) := ⟨p, rfl⟩
  rw [dif_pos h, ← Pl.app_self h.choose_spec]
/-- Elements that lie in a block are a row. -/
theorem Elems.row {L : Lay} (h : Elems βv w m τ l vs γe) (hsz : L.sz = τ.size) (hcap : l.length ≤ L.cap) (hblk : m.isOwn = true → L.cap ≠ 0 → ∃ cs e, w.heap[L.b]? = some (.cells cs e (0, 0)) ∧ L.base + L.cap * L.sz ≤ cs.size)
    (hcells : ∀ j v, vs[j]? = some v → w.cell? ⟨L.b, L.base + j, none⟩ = some v) (hto : L.cap ≠ 0 → ¬ OwnE βv m τ l γe L.b) (hts : m.isOwn = true → L.cap ≠ 0 → ¬ ShE m τ l γe L.b) :
    Lays (solo (.rows m τ l)) none βv (rowLay L γe) w ∧ (∀ b, OwnB (solo (.rows m τ l)) none βv (rowLay L γe) b → (m.isOwn = true ∧ L.cap ≠ 0 ∧ b = L.b) ∨ OwnE βv m τ l γe b) ∧
      (∀ b, ShB (solo (.rows m τ l)) none (rowLay L γe) b → (m.isOwn = false ∧ b = L.b) ∨ ShE m τ l γe b) := by
  have h0 : rowLay L γe top = L := rowLay_app L γe []
  have := Lays.build (βv := βv) (w := w) (m := m) (τ := τ) (l := l) (γ := rowLay L γe) (γio := γe) (by rw [h0]; exact hsz) (by rw [h0]; exact hcap) (by rw [h0]; exact hblk)
    (fun i o c hi hs => by
      obtain ⟨u, g1, g2⟩ := h.cell i o c hi hs
      refine ⟨u, ?_, g2.plain ?_⟩
      · rw [h0, hsz, Nat.add_assoc]; exact hcells _ u g1
      · rcases sub_mode hs with ⟨x, rfl⟩ | ⟨τ', l', rfl⟩
        · exact .inl ⟨x, rfl⟩
        · exact .inr ⟨_, τ', l', rfl⟩)
    h.tree (fun i o p => rowLay_app L γe ((i, o) :: p)) h.oo h.so (by rw [h0]; exact fun hc i o c hi hs hb => hto hc ⟨i, o, c, hi, hs, hb⟩) (by rw [h0]; exact fun hm hc i o c hi hs hb => hts hm hc ⟨i, o, c, hi, hs, hb⟩)
  rw [h0] at this
  refine ⟨this.1, fun b hb => ?_, fun b hb => ?_⟩
  · rcases this.2.1 b hb with h | ⟨i, o, c, h1, h2, h3⟩
    · exact .inl h
    · exact .inr ⟨i, o, c, h1, h2, h3⟩
  · rcases this.2.2 b hb with h | ⟨i, o, c, h1, h2, h3⟩
    · exact .inl ⟨h.1, h.2.2⟩
    · exact .inr ⟨i, o, c, h1, h2, h3⟩
end
end Go.Proofs.YtnceiegngfpmkaaAm
namespace Go.Proofs.YtnceiegngfpmkaaAm
set_option linter.unusedVariables false

/-- The row at the place is taken away: the cell is dead, or (inside a row) the place is open until a row comes back. -/
def St.take (S : St) : Pl → Option St
  | .cell r o => if S.hole.isNone then S.set (.cell r o) .dead else none
  | .sub q i o => if S.hole.isNone && contOwn S.F (.sub q i o) then some ⟨mapEnv (AC.kill (.sub q i o)) S.env, S.F, some (.sub q i o), S.aux.map (AC.kill (.sub q i o))⟩ else none
/-- A root of its own, gone with all that it holds. -/
def St.drop (S : St) (r : Nat) : St := ⟨mapEnv (AC.kill (.cell r 0)) S.env, S.F.put r none, S.hole, S.aux.map (AC.kill (.cell r 0))⟩
structure Taken (S S1 : St) (βv : Nat → Nat) (β β1 : Layout) (tmps : Array Value) (xs : List Value) (w : World) (c : Cell) (γ : Layout) : Prop where
  holds : Holds S1 βv β1 tmps xs w
  own : ∀ b, OwnB S1.F S1.hole βv β1 b → OwnB S.F S.hole βv β b
  sh : ∀ b, ShB S1.F S1.hole β1 b → ShB S.F S.hole β b
  d1 : ∀ b, OwnB (solo c) none βv γ b → OwnB S.F S.hole βv β b ∧ ¬ OwnB S1.F S1.hole βv β1 b ∧ ¬ ShB S1.F S1.hole β1 b
  d2 : ∀ b, ShB (solo c) none γ b → ShB S.F S.hole β b ∧ ¬ OwnB S1.F S1.hole βv β1 b
section
variable {S S1 : St} {βv : Nat → Nat} {β : Layout} {w : World} {q : Pl} {tmps : Array Value} {xs : List Value} {m : Mode} {τ : Ty} {l : List (Interp τ)}
theorem take_taken (hH : Holds S βv β tmps xs w) (ha : AtN S.F S.hole q (.rows m τ l)) (h : S.take q = some S1) : ∃ β1, Taken S S1 βv β β1 tmps xs w (.rows m τ l) (treeLay q β) := by
  have hole : S.hole = none := by
    cases q with
    | cell r o => simp only [St.take] at h; split at h; · rename_i hc; simpa using hc
                  · cases h
    | sub q i o => simp only [St.take] at h; split at h; · rename_i hc; simp only [Bool.and_eq_true, Option.isNone_iff_eq_none] at hc; exact hc.1
                   · cases h
  have hlays := hH.lays
  rw [hole] at hlays ha
  have tu : ∀ b, (OwnB (solo (.rows m τ l)) none βv (treeLay q β) b → OwnB S.F none βv β b) ∧ (ShB (solo (.rows m τ l)) none (treeLay q β) b → ShB S.F none β b) := fun b => hlays.tree_used ha (fun _ e => by cases e) (fun p => treeLay_app _ β p)
  have tO : ∀ b, OwnB (solo (.rows m τ l)) none βv (treeLay q β) b → ¬ OwnB S.F (some q) βv β b ∧ ¬ ShB S.F (some q) β b := fun b hb => hlays.tree_own ha (fun p => treeLay_app _ β p) hb
  have tS : ∀ b, ShB (solo (.rows m τ l)) none (treeLay q β) b → ¬ OwnB S.F (some q) βv β b := fun b hb => hlays.tree_sh ha (fun p => treeLay_app _ β p) hb
  cases q with
  | cell r o =>
    simp only [St.take, hole, Option.isNone_none, if_true] at h
    obtain ⟨hB, hb⟩ := solo_bare (c := .dead) rfl (by simp) βv w
    obtain ⟨β1, k1, k2, k3, k4, k5, k6⟩ := St.set_holds (w' := w) (u := (w.cell? ((Pl.cell r o).addr βv β)).getD undef) hH (.inl hole) h ha.1 hB (fun b hb' => absurd hb' (hb b).1) (fun b hb' => absurd hb' (hb b).2)
      (by
        by_cases hmem : InMem S.F (.cell r o)
        · obtain ⟨u0, e1, e2⟩ := hlays.cells _ _ ha hmem
          refine .inl ⟨?_, .refl _ _, by rw [e1]; rfl, ?_⟩
          · rw [hole]; exact PtrOk.of_at ha hmem
          · rw [e1]
            obtain ⟨A, c, rfl, _⟩ := e2
            rfl
        · exact .inr ⟨hmem, rfl⟩)
    have own1 : ∀ b, OwnB S1.F S1.hole βv β1 b → OwnB S.F (some (.cell r o)) βv β b := fun b hb' => by
      rcases k2 b hb' with h | h
      · exact h
      · exact absurd h (hb b).1
    have sh1 : ∀ b, ShB S1.F S1.hole β1 b → ShB S.F (some (.cell r o)) β b := fun b hb' => by
      rw [k3] at hb'
      rcases k4 b hb' with h | h | h
      · exact h
      · exact absurd h (hb b).2
      · exact absurd h (hb b).1
    refine ⟨β1, k1, fun b hb' => ?_, fun b hb' => ?_, fun b hb' => ?_, fun b hb' => ?_⟩
    · rw [hole]; exact hole_own (own1 b hb')
    · rw [hole]; exact hole_sh (sh1 b hb')
    · rw [hole]; exact ⟨(tu b).1 hb', fun h => (tO b hb').1 (own1 b h), fun h => (tO b hb').2 (sh1 b h)⟩
    · rw [hole]; exact ⟨(tu b).2 hb', fun h => tS b hb' (own1 b h)⟩
  | sub q i o =>
    simp only [St.take, hole, Option.isNone_none, Bool.true_and] at h
    split at h
    · cases h
      have hk : Keeps (q.sub i o) S.F S.F S.hole (some (q.sub i o)) β β := by rw [hole]; exact Keeps.hole _
      refine ⟨β, ⟨hlays.toHole _, EnvRel.map (fun x v hr => AcRel.kill hk x v hr) hH.env, Acs.map (fun x v hr => AcRel.kill hk x v hr) hH.aux⟩, fun b hb' => ?_, fun b hb' => ?_, fun b hb' => ?_, fun b hb' => ?_⟩
      · rw [hole]; exact hole_own hb'
      · rw [hole]; exact hole_sh hb'
      · rw [hole]; exact ⟨(tu b).1 hb', (tO b hb').1, (tO b hb').2⟩
      · rw [hole]; exact ⟨(tu b).2 hb', tS b hb'⟩
    · cases h
theorem drop_taken {r : Nat} (hH : Holds S βv β tmps xs w) (hR : S.F.get r = some ⟨false, [.rows m τ l]⟩) (hh : ∀ q0, S.hole = some q0 → q0.root ≠ r) :
    Taken S (S.drop r) βv β β tmps xs w (.rows m τ l) (treeLay (.cell r 0) β) := by
  have hat : AtN S.F S.hole (.cell r 0) (.rows m τ l) := by
    refine ⟨⟨_, hR, rfl⟩, fun q0 e hu => ?_⟩
    obtain ⟨p, e'⟩ := hu
    have := congrArg Pl.root e'
    rw [Pl.root_app] at this
    exact hh q0 e this.symm
  have rootNe : ∀ {q2 : Pl} {c : Cell}, At (S.F.put r none) q2 c → q2.root ≠ r := fun {q2 c} h e => by
    obtain ⟨R, hR2⟩ := at_root h
    rw [e] at hR2
    simp at hR2
  have down : ∀ {q2 : Pl} {c : Cell}, AtN (S.F.put r none) S.hole q2 c → AtN S.F S.hole q2 c := fun {q2 c} ha2 => ⟨(at_get (by simp [rootNe ha2.1])).1 ha2.1, ha2.2⟩
  have upR : ∀ {q2 : Pl} {c : Cell}, q2.root ≠ r → AtN S.F S.hole q2 c → AtN (S.F.put r none) S.hole q2 c := fun {q2 c} hr ha2 => ⟨(at_get (by simp [hr])).2 ha2.1, ha2.2⟩
  have noRef : ∀ (r0 : Nat) (R : Root) (o : Nat) (c : AC), S.F.get r0 = some R → R.mem = true → R.cs[o]? = some (Cell.ref c) → (∀ q0, S.hole = some q0 → ¬ q0.Under (.cell r0 o)) → r ∉ c.vars := fun r0 R o c k1 k2 k3 kh hr => by
    have hatc : AtN S.F S.hole (.cell r0 o) (.ref c) := ⟨⟨R, k1, k3⟩, kh⟩
    obtain ⟨u0, e1, e2, e3⟩ := hH.lays.cells _ _ hatc ⟨R, k1, k2⟩
    cases c with
    | ptr q' =>
      cases q' with
      | cell r2 o2 =>
        obtain ⟨⟨R2, j1, j2, _⟩, _⟩ := e3
        simp only [AC.vars, List.mem_singleton] at hr
        subst hr
        rw [hR] at j1; cases j1; cases j2
      | sub q' i o => simp [AC.vars] at hr
    | clo f caps =>
      simp only [AC.vars, List.mem_map] at hr
      obtain ⟨y, hy, rfl⟩ := hr
      obtain ⟨R2, j1, j2, _⟩ := e3.1 y hy
      rw [hR] at j1; cases j1; cases j2
    | _ => simp [AC.vars] at hr
  have hL1 : Lays (S.F.put r none) S.hole βv β w := hH.lays.fewer (fun r' => by
      by_cases e : r' = r
      · subst e; exact .inr (by simp)
      · exact .inl (by simp [e])) (fun r0 R o c k1 k2 k3 kh r' hr => by
      have hr0 : r0 ≠ r := by rintro rfl; simp at k1
      rw [Forest.get_put, if_neg hr0] at k1
      have : r' ≠ r := by rintro rfl; exact noRef r0 R o c k1 k2 k3 kh hr
      simp [this])
  have hk : Keeps (.cell r 0) S.F (S.F.put r none) S.hole S.hole β β := by
    refine ⟨fun q' m2 τ2 l2 hu h1 => ⟨m2, l2, upR (fun e => hu ?_) h1, rfl, rfl⟩, fun r' R h1 h2 => ⟨R, ?_, h2, rfl⟩⟩
    · have : ∀ (q' : Pl) (c : Cell), At S.F q' c → q'.root = r → (Pl.cell r 0).Under q' := by
        intro q'
        induction q' with
        | cell r2 o =>
          rintro c ⟨R, k1, k2⟩ e
          simp only [Pl.root] at e
          subst e
          rw [hR] at k1; cases k1
          have := (List.getElem?_eq_some_iff.1 k2).1
          simp at this
          subst this
          exact under_refl _
        | sub q2 i o ih =>
          rintro c ⟨c0, h0, _⟩ e
          exact under_trans (ih c0 h0 e) (under_sub _ _ _)
      exact this q' _ h1.1 e
    · have : r' ≠ r := by rintro rfl; rw [hR] at h1; cases h1; cases h2
      simp [this, h1]
  have ownDown : ∀ b, OwnB (S.F.put r none) S.hole βv β b → OwnB S.F S.hole βv β b := fun b hb => by
    rcases hb with ⟨r2, R2, h1, h2, h3⟩ | ⟨q3, m3, τ3, l3, k1, k2⟩
    · have : r2 ≠ r := by rintro rfl; simp at h1
      rw [Forest.get_put, if_neg this] at h1
      exact .inl ⟨r2, R2, h1, h2, h3⟩
    · exact .inr ⟨q3, m3, τ3, l3, down k1, k2⟩
  have shDown : ∀ b, ShB (S.F.put r none) S.hole β b → ShB S.F S.hole β b := fun b hb => by
    obtain ⟨q3, m3, τ3, l3, k1, k2⟩ := hb
    exact ⟨q3, m3, τ3, l3, down k1, k2⟩
  have tu : ∀ b, (OwnB (solo (.rows m τ l)) none βv (treeLay (.cell r 0) β) b → OwnB S.F S.hole βv β b) ∧ (ShB (solo (.rows m τ l)) none (treeLay (.cell r 0) β) b → ShB S.F S.hole β b) := fun b => hH.lays.tree_used hat (fun q0 e => hh q0 e) (fun p => treeLay_app _ β p)
  have disj : ∀ b, OwnB (solo (.rows m τ l)) none βv (treeLay (.cell r 0) β) b → ∃ p m2 τ2 l2, AtN S.F S.hole ((Pl.cell r 0).app p) (.rows m2 τ2 l2) ∧ m2.isOwn = true ∧ (β ((Pl.cell r 0).app p)).cap ≠ 0 ∧ (β ((Pl.cell r 0).app p)).b = b := fun b hb => by
    rcases hb with ⟨r2, R2, h1, h2, _⟩ | ⟨q2, m2, τ2, l2, h1, h2, h3, rfl⟩
    · rw [solo_noVar h1] at h2; cases h2
    · obtain ⟨p, rfl, h4⟩ := solo_at.1 h1.1
      rw [treeLay_app] at h3 ⊢
      exact ⟨p, m2, τ2, l2, atN_app (q := .cell r 0) (fun q0 e => hh q0 e) hat h4, h2, h3, rfl⟩
  refine ⟨⟨hL1, EnvRel.map (fun x v hr => AcRel.kill hk x v hr) hH.env, Acs.map (fun x v hr => AcRel.kill hk x v hr) hH.aux⟩, ownDown, shDown, fun b hb => ⟨(tu b).1 hb, ?_, ?_⟩, fun b hb => ⟨(tu b).2 hb, fun h => hH.lays.sh b ((tu b).2 hb) (ownDown b h)⟩⟩
  · obtain ⟨p, m2, τ2, l2, d1, d2, d3, rfl⟩ := disj b hb
    rintro (⟨r2, R2, h1, h2, h3⟩ | ⟨q3, m3, τ3, l3, k1, k2, k3, k4⟩)
    · have : r2 ≠ r := by rintro rfl; simp [St.drop] at h1
      simp only [St.drop, Forest.get_put, if_neg this] at h1
      exact hH.lays.vr r2 R2 _ m2 τ2 l2 h1 h2 d1 d2 d3 h3
    · have k1' : AtN (S.F.put r none) S.hole q3 (.rows m3 τ3 l3) := k1
      have := hH.lays.rr _ _ m3 m2 τ3 τ2 l3 l2 (down k1') k2 k3 d1 d2 d3 k4
      refine rootNe k1'.1 ?_
      rw [this, Pl.root_app]; rfl
  · obtain ⟨p, m2, τ2, l2, d1, d2, d3, rfl⟩ := disj b hb
    rintro ⟨q3, m3, τ3, l3, k1, k2, k3, k4⟩
    have k1' : AtN (S.F.put r none) S.hole q3 (.rows m3 τ3 l3) := k1
    exact hH.lays.sh _ ⟨q3, m3, τ3, l3, down k1', k2, k3, k4⟩ (.inr ⟨_, m2, τ2, l2, d1, d2, d3, rfl⟩)
end
end Go.Proofs.YtnceiegngfpmkaaAm
namespace Go.Proofs.YtnceiegngfpmkaaAm
set_option linter.unusedVariables false

/-- Data without rows. -/
def Ty.flat : Ty → Bool
  | .int _ => true | .bool => true | .str => true | .unit => true
  | .pair a b => a.flat && b.flat
  | .sl _ => false | .rose _ => false
theorem toCells_flat : ∀ (τ : Ty), τ.flat = true → ∀ (m m' : Mode) (x : Interp τ), toCells m τ x = toCells m' τ x
  | .int _, _, _, _, _ | .bool, _, _, _, _ | .str, _, _, _, _ | .unit, _, _, _, _ => by simp [toCells]
  | .pair a b, h, m, m', x => by
    simp only [Ty.flat, Bool.and_eq_true] at h
    simp only [toCells, toCells_flat a h.1 m m', toCells_flat b h.2 m m']
  | .sl _, h, _, _, _ | .rose _, h, _, _, _ => by simp [Ty.flat] at h
theorem toCells_flat_v : ∀ (τ : Ty), τ.flat = true → ∀ (m : Mode) (x : Interp τ) (c : Cell), c ∈ toCells m τ x → ∃ v, c = .v v
  | .int _, _, _, _, c, h | .bool, _, _, _, c, h | .str, _, _, _, c, h => by simp [toCells] at h; exact ⟨_, h⟩
  | .unit, _, _, _, c, h => by simp [toCells] at h
  | .pair a b, hf, m, x, c, h => by
    simp only [Ty.flat, Bool.and_eq_true] at hf
    simp only [toCells] at h
    rcases List.mem_append.1 h with h | h
    · exact toCells_flat_v a hf.1 m _ c h
    · exact toCells_flat_v b hf.2 m _ c h
  | .sl _, h, _, _, _, _ | .rose _, h, _, _, _, _ => by simp [Ty.flat] at h
/-- What is appended: the state behind, whose rows lie behind the elements, the elements. -/
def St.src (S : St) (τ : Ty) (x : Operand) : Option (St × Mode × List (Interp τ)) :=
  match S.ev x with
  | some (.c (.nil _)) => some (S, .full, [])
  | some (.c (.lit v)) => if isNil v then some (S, .full, []) else none
  | some (.c (.sl q pt)) => match S.row q with
    | some ⟨m, τ', l⟩ => if h : τ' = τ then
        (if τ.flat ∨ m.next = .sh then (if S.hole.all (fun q0 => q0.root != q.root) then some (S, (if τ.flat then .full else .sh), cutL pt (castL h l)) else none)
        else match q, pt with
          | .cell r 0, none => match S.F.get r with
            | some ⟨false, [_]⟩ => if S.hole.all (fun q0 => q0.root != r) then some (S.drop r, m.next, castL h l) else none
            | _ => none
          | _, _ => none)
        else none
    | none => none
  | _ => none
/-- What is appended to. -/
def St.dest (S : St) (τ : Ty) (x : Operand) : Option (St × Mode × List (Interp τ)) :=
  match S.ev x with
  | some (.c (.nil _)) => some (S, .full, [])
  | some (.c (.lit v)) => if isNil v then some (S, .full, []) else none
  | some (.c (.sl q pt)) => match S.row q with
    | some ⟨m, τ', l⟩ => if h : τ' = τ then (if m.isOwn ∧ ptLo pt + ptLen pt l.length = l.length then (S.take q).bind fun S1 => some (S1, m.next, cutL pt (castL h l)) else none) else none
    | none => none
  | _ => none
def meet (τ : Ty) (m1 m2 : Mode) : Mode := if τ.flat then .full else if m1 = m2 then m1 else .sh
def ofNext (m : Mode) : Mode := if m = .full then .full else .own m
def stepAppend (G : Ctx) (n r : Nat) (o : Oper) (S : St) : Option St :=
  match o.op with
  | .call c => match c.callee, c.args.toList, c.argTypes.toList with
    | .builtin .append, [s, x], [t, t'] => if t' = t ∧ S.hole = none ∧ S.aux = [] then match G.U t with
      | some (.slice e) => match G.I e with
        | some ti => match ti.ty with
          | some τ => (S.dest τ s).bind fun d => (d.1.src τ x).bind fun y =>
              if (d.2.2.length + y.2.2.length) * ti.bytes ≤ 140737488355328 ∧ d.2.2.length + y.2.2.length ≤ 9223372036854775807 ∧ y.1.hole.all (fun q0 => q0.root != r) then
                y.1.newRow n r o.dst (ofNext (meet τ d.2.1 y.2.1)) τ (d.2.2 ++ y.2.2) else none
          | none => none
        | none => none
      | _ => none
      else none
    | _, _, _ => none
  | _ => none
section
variable {S S1 S2 : St} {βv : Nat → Nat} {β β1 β2 : Layout} {w : World} {tmps : Array Value} {m : Mode} {τ : Ty} {l : List (Interp τ)} {x : Operand} {v : Value}
theorem sub_next {m m' : Mode} (h : m.next = m'.next) (i o : Nat) : (Cell.rows m τ l).sub i o = (Cell.rows m' τ l).sub i o := by simp [Cell.sub, h]
theorem sub_flat (hf : τ.flat = true) {m m' : Mode} (i o : Nat) : (Cell.rows m τ l).sub i o = (Cell.rows m' τ l).sub i o := by simp only [Cell.sub, toCells_flat τ hf m.next m'.next]
theorem Elems.congr {m m' : Mode} {vs : List Value} {γ : Nat → Nat → Layout} (hs : ∀ i o, (Cell.rows m' τ l).sub i o = (Cell.rows m τ l).sub i o) (h : Elems βv w m τ l vs γ) : Elems βv w m' τ l vs γ where
  len := h.len
  one := h.one
  cell := fun i o c hi e => h.cell i o c hi (by rwa [hs] at e)
  tree := fun i o c hi e => h.tree i o c hi (by rwa [hs] at e)
  oo := fun i o c i' o' c' b hi e hi' e' => h.oo i o c i' o' c' b hi (by rwa [hs] at e) hi' (by rwa [hs] at e')
  so := fun i o c i' o' c' b hi e hi' e' => h.so i o c i' o' c' b hi (by rwa [hs] at e) hi' (by rwa [hs] at e')
theorem ownE_congr {m m' : Mode} {γ : Nat → Nat → Layout} {b : Nat} (hs : ∀ i o, (Cell.rows m' τ l).sub i o = (Cell.rows m τ l).sub i o) : (OwnE βv m' τ l γ b ↔ OwnE βv m τ l γ b) ∧ (ShE m' τ l γ b ↔ ShE m τ l γ b) := by simp only [OwnE, ShE, hs, and_self]
/-- Plain elements have nothing behind them. -/
theorem flat_none (hf : τ.flat = true) {γ : Nat → Nat → Layout} (b : Nat) : ¬ OwnE βv m τ l γ b ∧ ¬ ShE m τ l γ b := by
  have key : ∀ {i o c}, (Cell.rows m τ l).sub i o = some c → ∃ v, c = .v v := fun {i o c} hs => toCells_flat_v τ hf _ _ _ (List.mem_of_getElem? hs)
  constructor
  · rintro ⟨i, o, c, hi, hs, hb⟩
    obtain ⟨v, rfl⟩ := key hs
    exact (bare_own (c := .v v) rfl (fun _ _ _ e => by cases e) b).1 hb
  · rintro ⟨i, o, c, hi, hs, hb⟩
    obtain ⟨v, rfl⟩ := key hs
    exact (bare_own (βv := βv) (c := .v v) rfl (fun _ _ _ e => by cases e) b).2 hb
theorem nil_elems (βv : Nat → Nat) (w : World) (m : Mode) (τ : Ty) (γ : Nat → Nat → Layout) : Elems βv w m τ [] [] γ :=
  ⟨by simp, by simp, fun i o c hi => by simp at hi, fun i o c hi => by simp at hi, fun i o c i' o' c' b hi => by simp at hi, fun i o c i' o' c' b hi => by simp at hi⟩
theorem nil_own (βv : Nat → Nat) (m : Mode) (τ : Ty) (γ : Nat → Nat → Layout) (b : Nat) : ¬ OwnE βv m τ [] γ b ∧ ¬ ShE m τ [] γ b :=
  ⟨fun ⟨i, o, c, hi, _⟩ => by simp at hi, fun ⟨i, o, c, hi, _⟩ => by simp at hi⟩

/-- What is known of what is appended. -/
structure Src (S1 S2 : St) (βv : Nat → Nat) (β1 : Layout) (w : World) (tmps : Array Value) (v : Value) (m : Mode) (τ : Ty) (l : List (Interp τ)) : Prop where
  ex : ∃ β2 B c vs γ, v = .slice B l.length c ∧ (l.length = 0 ∨ ∃ a, B = some a ∧ ∀ j u, vs[j]? = some u → w.cell? (a.add j) = some u) ∧ Elems βv w (.own m) τ l vs γ ∧ Holds S2 βv β2 tmps [] w ∧
    (∀ b, OwnB S2.F S2.hole βv β2 b → OwnB S1.F S1.hole βv β1 b) ∧ (∀ b, ShB S2.F S2.hole β2 b → ShB S1.F S1.hole β1 b) ∧
    (∀ b, OwnE βv (.own m) τ l γ b → OwnB S1.F S1.hole βv β1 b ∧ ¬ OwnB S2.F S2.hole βv β2 b ∧ ¬ ShB S2.F S2.hole β2 b) ∧ (∀ b, ShE (.own m) τ l γ b → ShB S1.F S1.hole β1 b ∧ ¬ OwnB S2.F S2.hole βv β2 b)
theorem slice_top {pt : Option (Nat × Nat)} {γ : Layout} {A : Option Addr} {k c : Nat} (h : SlRel (γ top) 0 k (.slice A k c)) (hk : k ≠ 0) (hc : k ≤ (γ top).cap) : ∃ a, A = some a ∧ a = ⟨(γ top).b, (γ top).base, none⟩ := by
  obtain ⟨A', c', e1, e2, e3⟩ := h
  simp only [Value.slice.injEq, true_and] at e1
  obtain ⟨rfl, rfl⟩ := e1
  rcases e3 with e3 | e3
  · omega
  · exact ⟨_, e3, by simp⟩
theorem src_spec {a : Act} {y : St × Mode × List (Interp τ)} (hH : Holds S1 βv β1 a.tmps [] w) (h : S1.src τ x = some y) : Src S1 y.1 βv β1 w a.tmps (a.eval x) y.2.1 τ y.2.2 := by
  have nilCase : a.eval x = .slice none 0 0 → y = (S1, .full, []) → Src S1 y.1 βv β1 w a.tmps (a.eval x) y.2.1 τ y.2.2 := by
    rintro hv rfl
    exact ⟨β1, none, 0, [], fun _ _ _ => ⟨0, 0, 0, 0⟩, by rw [hv]; rfl, .inl rfl, nil_elems _ _ _ _ _, hH, fun _ h => h, fun _ h => h, fun b hb => absurd hb (nil_own _ _ _ _ b).1, fun b hb => absurd hb (nil_own βv _ _ _ b).2⟩
  unfold St.src at h
  split at h
  · rename_i hx
    simp only [Option.some.injEq] at h
    exact nilCase (ev_rel hH.env hx) h.symm
  · rename_i u hx
    split at h
    · rename_i hn
      simp only [Option.some.injEq] at h
      refine nilCase ?_ h.symm
      have := ev_rel hH.env hx
      rw [show a.eval x = u from this]
      unfold isNil at hn
      split at hn
      · rfl
      · cases hn
    · cases h
  · rename_i q pt hx
    split at h
    · rename_i m τ' l hrow
      split at h
      · rename_i hτ
        subst hτ
        simp only [castL_rfl] at h
        obtain ⟨ha, hlen, hv⟩ := at_of_row (F := S1.F) (βv := βv) hrow (ev_rel hH.env hx)
        split at h
        · rename_i hfs
          split at h
          · rename_i hho
            simp only [Option.some.injEq] at h
            subst h
            have hh : ∀ q0, S1.hole = some q0 → q0.root ≠ q.root := fun q0 e => by rw [e] at hho; simpa using hho
            obtain ⟨γ, g1, g2, g3, g4, g5⟩ := slice_tree hH.lays ha hh hlen hv
            obtain ⟨vs, e1, e2, e3, e4⟩ := Elems.of_tree g1
            obtain ⟨A, c, hve, hcap, hA⟩ := g4
            have hrow2 := g1.rows top _ _ _ (solo_atN (p := []) rfl)
            have hs : ∀ i o, (Cell.rows (.own (if τ'.flat = true then Mode.full else Mode.sh)) τ' (cutL pt l)).sub i o = (Cell.rows m τ' (cutL pt l)).sub i o := fun i o => by
              by_cases hf : τ'.flat = true
              · exact sub_flat hf i o
              · rw [if_neg hf]
                rcases hfs with h | h
                · exact absurd h hf
                · exact sub_next (m := .own .sh) (m' := m) (show Mode.sh = m.next from h.symm) i o
            have tu : ∀ b, ShB (solo (.rows m τ' l)) none (treeLay q β1) b → ShB S1.F S1.hole β1 b := fun b => (hH.lays.tree_used (γ := treeLay q β1) ha hh (fun p => treeLay_app _ β1 p)).2
            refine ⟨β1, A, c, vs, _, hve, ?_, e1.congr hs, hH, fun _ h => h, fun _ h => h, fun b hb => ?_, fun b hb => ?_⟩
            · by_cases hz : (cutL pt l).length = 0
              · exact .inl hz
              · refine .inr ?_
                rcases hA with hA | hA
                · omega
                · refine ⟨_, hA, fun j u hj => ?_⟩
                  rw [Addr.add_lit]
                  simpa using e2 j u hj
            · rw [(ownE_congr hs).1] at hb
              exfalso
              by_cases hf : τ'.flat = true
              · exact (flat_none hf b).1 hb
              · have hsh : m.next = .sh := by
                  rcases hfs with h | h
                  · exact absurd h hf
                  · exact h
                obtain ⟨i, o, c0, hi, hsub, hb⟩ := hb
                rcases hb with ⟨r, R, k1, k2, _⟩ | ⟨q2, m2, τ2, l2, k1, k2, _⟩
                · rw [solo_noVar k1] at k2; cases k2
                · obtain ⟨p, rfl, k5⟩ := solo_at.1 k1.1
                  have := atC_own k5 k2
                  rcases sub_mode hsub with ⟨z, rfl⟩ | ⟨τ3, l3, rfl⟩
                  · cases this
                  · simp only [Cell.mode, hsh] at this; cases this
            · rw [(ownE_congr (βv := βv) hs).2] at hb
              have h1 := tu b (g3 b (e4 b hb))
              exact ⟨h1, fun h => hH.lays.sh b h1 h⟩
          · cases h
        · split at h
          · rename_i r
            split at h
            · rename_i c0 hR
              split at h
              · rename_i hho
                simp only [Option.some.injEq] at h
                subst h
                have hh : ∀ q0, S1.hole = some q0 → q0.root ≠ r := fun q0 e => by rw [e] at hho; simpa using hho
                have hc0 : c0 = .rows m τ' l := by
                  obtain ⟨R, k1, k2⟩ := ha.1
                  rw [hR] at k1
                  cases k1
                  simpa using k2
                subst hc0
                have T := drop_taken hH hR hh
                obtain ⟨γ, g1, g2, g3, g4, g5⟩ := slice_tree hH.lays ha hh hlen hv
                simp only [cutL] at g1 g2 g3 g4
                obtain ⟨vs, e1, e2, e3, e4⟩ := Elems.of_tree g1
                obtain ⟨A, c, hve, hcap, hA⟩ := g4
                have hrow2 := g1.rows top _ _ _ (solo_atN (p := []) rfl)
                have hs : ∀ i o, (Cell.rows (.own m.next) τ' l).sub i o = (Cell.rows m τ' l).sub i o := fun i o => sub_next rfl i o
                refine ⟨β1, A, c, vs, _, hve, ?_, e1.congr hs, T.holds, T.own, T.sh, fun b hb => ?_, fun b hb => ?_⟩
                · by_cases hz : l.length = 0
                  · exact .inl hz
                  · refine .inr ?_
                    rcases hA with hA | hA
                    · omega
                    · refine ⟨_, hA, fun j u hj => ?_⟩
                      rw [Addr.add_lit]
                      simpa using e2 j u hj
                · rw [(ownE_congr hs).1] at hb
                  exact T.d1 b (g2 b (e3 b hb).1)
                · rw [(ownE_congr (βv := βv) hs).2] at hb
                  exact T.d2 b (g3 b (e4 b hb))
              · cases h
            · cases h
          · cases h
      · cases h
    · cases h
  · cases h

/-- What is known of what is appended to. -/
structure Dest (S S1 : St) (βv : Nat → Nat) (β : Layout) (w : World) (tmps : Array Value) (v : Value) (m : Mode) (τ : Ty) (l : List (Interp τ)) : Prop where
  ex : ∃ β1 A c b base vs γ, v = .slice A l.length c ∧ l.length ≤ c ∧ (c = 0 ∨ A = some ⟨b, base, none⟩) ∧ (A = none → l.length = 0 ∧ c = 0) ∧
    (c ≠ 0 → ∃ cs e0, w.heap[b]? = some (.cells cs e0 (0, 0)) ∧ base + c * τ.size ≤ cs.size) ∧ (∀ j u, vs[j]? = some u → w.cell? ⟨b, base + j, none⟩ = some u) ∧
    Elems βv w (.own m) τ l vs γ ∧ Holds S1 βv β1 tmps [] w ∧ (∀ b, OwnB S1.F S1.hole βv β1 b → OwnB S.F S.hole βv β b) ∧ (∀ b, ShB S1.F S1.hole β1 b → ShB S.F S.hole β b) ∧
    (c ≠ 0 → OwnB S.F S.hole βv β b ∧ ¬ OwnB S1.F S1.hole βv β1 b ∧ ¬ ShB S1.F S1.hole β1 b ∧ ¬ OwnE βv (.own m) τ l γ b ∧ ¬ ShE (.own m) τ l γ b) ∧
    (∀ b, OwnE βv (.own m) τ l γ b → OwnB S.F S.hole βv β b ∧ ¬ OwnB S1.F S1.hole βv β1 b ∧ ¬ ShB S1.F S1.hole β1 b) ∧ (∀ b, ShE (.own m) τ l γ b → ShB S.F S.hole β b ∧ ¬ OwnB S1.F S1.hole βv β1 b)
theorem dest_spec {a : Act} {y : St × Mode × List (Interp τ)} (hH : Holds S βv β a.tmps [] w) (hole : S.hole = none) (h : S.dest τ x = some y) : Dest S y.1 βv β w a.tmps (a.eval x) y.2.1 τ y.2.2 := by
  have nilCase : a.eval x = .slice none 0 0 → y = (S, .full, []) → Dest S y.1 βv β w a.tmps (a.eval x) y.2.1 τ y.2.2 := by
    rintro hv rfl
    exact ⟨β, none, 0, 0, 0, [], fun _ _ _ => ⟨0, 0, 0, 0⟩, by rw [hv]; rfl, by simp, .inl rfl, fun _ => ⟨rfl, rfl⟩, fun h => absurd rfl h, fun j u hj => by simp at hj, nil_elems _ _ _ _ _, hH, fun _ h => h, fun _ h => h, fun h => absurd rfl h,
      fun b hb => absurd hb (nil_own _ _ _ _ b).1, fun b hb => absurd hb (nil_own βv _ _ _ b).2⟩
  unfold St.dest at h
  split at h
  · rename_i hx
    simp only [Option.some.injEq] at h
    exact nilCase (ev_rel hH.env hx) h.symm
  · rename_i u hx
    split at h
    · rename_i hn
      simp only [Option.some.injEq] at h
      refine nilCase ?_ h.symm
      have := ev_rel hH.env hx
      rw [show a.eval x = u from this]
      unfold isNil at hn
      split at hn
      · rfl
      · cases hn
    · cases h
  · rename_i q pt hx
    split at h
    · rename_i m τ' l hrow
      split at h
      · rename_i hτ
        subst hτ
        simp only [castL_rfl] at h
        split at h
        · rename_i hc
          obtain ⟨hm, hend⟩ := hc
          obtain ⟨S1, hS1, e⟩ := Option.bind_eq_some_iff.1 h
          cases e
          obtain ⟨ha, hlen, hv⟩ := at_of_row (F := S.F) (βv := βv) hrow (ev_rel hH.env hx)
          obtain ⟨β1, T⟩ := take_taken hH ha hS1
          have hh : ∀ q0, S.hole = some q0 → q0.root ≠ q.root := fun q0 e => by rw [hole] at e; cases e
          obtain ⟨γ, g1, g2, g3, g4, g5⟩ := slice_tree hH.lays ha hh hlen hv
          obtain ⟨vs, e1, e2, e3, e4⟩ := Elems.of_tree g1
          obtain ⟨A, c, hve, hcap, hA⟩ := g4
          have hrow2 := g1.rows top _ _ _ (solo_atN (p := []) rfl)
          have hs : ∀ i o, (Cell.rows (.own m.next) τ' (cutL pt l)).sub i o = (Cell.rows m τ' (cutL pt l)).sub i o := fun i o => sub_next rfl i o
          have hcc : c = (γ top).cap := by omega
          have own0 : c ≠ 0 → OwnB (solo (.rows m τ' (cutL pt l))) none βv γ (γ top).b := fun hc => .inr ⟨top, m, τ', _, solo_atN (p := []) rfl, hm, by omega, rfl⟩
          refine ⟨β1, A, c, (γ top).b, (γ top).base, vs, _, hve, (show (cutL pt l).length ≤ c by omega), by simpa using hA, ?_, fun hc => ?_, e2, e1.congr hs, T.holds, T.own, T.sh, fun hc => ?_, fun b hb => ?_, fun b hb => ?_⟩
          · intro hAn
            rcases hA with hA | hA
            · exact ⟨(show (cutL pt l).length = 0 by omega), hA⟩
            · rw [hAn] at hA; cases hA
          · obtain ⟨cs, e0, k1, k2⟩ := g1.ownb top m τ' _ (solo_atN (p := []) rfl) hm (by omega)
            exact ⟨cs, e0, k1, by rw [hcc, ← hrow2.1]; exact k2⟩
          · obtain ⟨d1, d2, d3⟩ := T.d1 _ (g2 _ (own0 hc))
            refine ⟨d1, d2, d3, fun hb => ?_, fun hb => ?_⟩
            · rw [(ownE_congr hs).1] at hb
              exact (e3 _ hb).2 (by omega) hm rfl
            · rw [(ownE_congr (βv := βv) hs).2] at hb
              exact g1.sh _ (e4 _ hb) (own0 hc)
          · rw [(ownE_congr hs).1] at hb
            exact T.d1 b (g2 b (e3 b hb).1)
          · rw [(ownE_congr (βv := βv) hs).2] at hb
            exact T.d2 b (g3 b (e4 b hb))
        · cases h
      · cases h
    · cases h
  · cases h
end
end Go.Proofs.YtnceiegngfpmkaaAm
