/- The row of FnExactCubicRun: for every input the law returns true and leaves what came in as it was; over the law's walk. -/
import Derived.Test.YtjfbeakmpmjadaaRows
import Derived.Test.YtjfbeakmpmjadaaWalkRun
import Derived.WalkKit
import Derived.ProofKit
import Derived.OpenShut
import Derived.ShutString
import Derived.ChangeOld
import Derived.Below
import Derived.SizedLaws
namespace Go.Proofs.Ytjfbeakmpmjadaa.fnExactCubicRun
open Go.ChangeShapes Go.WideShapes Go.ChangeAt Go.RowKit Go.Proofs.YtjfbeakmpmjadaaW.PrintWords
open Go.ChangeMaps (open_string shut_string)
set_option linter.unusedVariables false
set_option linter.unusedSimpArgs false
theorem own : ownKnob Try.prog.godebug = none := by kernel_rfl
theorem laidOut : laidOutB Try.prog = true := by kernel_rfl
/-! From the reader of data to the kinds of the words: what an argument reads as. -/
def TK (P : Program) (t : TypeId) {α : Type} (d : Kd α) (ok : α → Prop) : Prop :=
  ∀ {H : Type} (enc : TypeId × Value → H) (W : World) (fuel : Nat) (cs : List Value) (x : DataW H × List MemPlace),
    DataW.trod enc P W 0 (fun _ => true) true fuel t cs = some x → ∃ y : α, d.K W y cs ∧ ok y
theorem TK.int {P : Program} {t : TypeId} {k : IntKind} (hu : P.underlying t = some (.int k)) : TK P t (Kd.int k) (fun n => (Lit.int k n).wf = true) := by
  intro H enc W fuel cs x h
  obtain ⟨n, rfl, _, hw⟩ := DataW.trod_int hu h
  exact ⟨n, rfl, hw⟩
theorem TK.bool {P : Program} {t : TypeId} (hu : P.underlying t = some .bool) : TK P t Kd.bool (fun _ => True) := by
  intro H enc W fuel cs x h
  obtain ⟨n, rfl, _⟩ := DataW.trod_bool hu h
  exact ⟨n, rfl, trivial⟩
theorem TK.string {P : Program} {t : TypeId} (hu : P.underlying t = some .string) : TK P t Kd.string (fun s => s.size ≤ maxLen) := by
  intro H enc W fuel cs x h
  obtain ⟨n, rfl, _, hw⟩ := DataW.trod_string hu h
  exact ⟨n, rfl, hw⟩
theorem TK.weaken {P : Program} {t : TypeId} {α : Type} {d : Kd α} {ok ok' : α → Prop} (h : TK P t d ok) (hw : ∀ y, ok y → ok' y) : TK P t d ok' := by
  intro H enc W fuel cs x hx
  obtain ⟨y, hy, ho⟩ := h enc W fuel cs x hx
  exact ⟨y, hy, hw y ho⟩
theorem addr_add_add (a : Addr) (m i : Nat) : (a.add m).add i = a.add (m + i) := by
  unfold Addr.add
  by_cases hm : m = 0
  · subst hm; simp
  · by_cases hi : i = 0
    · subst hi; simp
    · simp [hm, hi, Nat.add_assoc]
theorem choose_list {α : Type} (R : Nat → α → Prop) (n : Nat) (h : ∀ i, i < n → ∃ y, R i y) : ∃ ys : List α, ys.length = n ∧ ∀ i y, ys[i]? = some y → R i y := by
  induction n with
  | zero => exact ⟨[], rfl, fun i y hy => by simp at hy⟩
  | succ n ih =>
    obtain ⟨ys, hl, hr⟩ := ih (fun i hi => h i (by omega))
    obtain ⟨y, hy⟩ := h n (by omega)
    refine ⟨ys ++ [y], by simp [hl], fun i z hz => ?_⟩
    by_cases hi : i < ys.length
    · rw [List.getElem?_append_left hi] at hz
      exact hr i z hz
    · rw [List.getElem?_append_right (by omega)] at hz
      have : i - ys.length = 0 := by
        have := (List.getElem?_eq_some_iff.1 hz).1
        simp at this
        omega
      rw [this] at hz
      simp at hz
      subst hz
      have : i = n := by omega
      subst this
      exact hy
theorem TK.slice {P : Program} {t e : TypeId} {α : Type} {d : Kd α} {ok : α → Prop} (hu : P.underlying t = some (.slice e)) (hc : P.cellsOf e = d.sz) (h : TK P e d ok) :
    TK P t (Kd.slice e d) (fun ys => ys.length ≤ maxLen ∧ ∀ y ∈ ys, ok y) := by
  intro H enc W fuel cs x hx
  rcases DataW.trod_slice hu hx with ⟨rfl, _⟩ | ⟨a, len, cap, elems, rest, n, _, rfl, _, _, hl, hm, hlen, hel, _, _⟩
  · exact ⟨[], ⟨none, 0, rfl, Nat.le_refl _, rfl, by simp, fun h => absurd h (by simp)⟩, by simp [maxLen], by simp⟩
  · have each : ∀ i, i < len → ∃ y, ok y ∧ ∃ c, c.length = d.sz ∧ d.K W y c ∧ ∀ j u, c[j]? = some u → W.cell? (a.add (i * d.sz + j)) = some u := by
      intro i hi
      have h1 := hel i hi
      obtain ⟨el, he⟩ : ∃ el, elems[i]? = some el := ⟨_, List.getElem?_eq_getElem (by omega)⟩
      rw [he] at h1
      obtain ⟨c, hc1, hc2⟩ := Option.bind_eq_some_iff.1 h1
      obtain ⟨y, hy, ho⟩ := h enc W n c el hc2
      obtain ⟨_, hcl, hcc⟩ := World.cells?_some hc1
      rw [hc] at hcl hcc
      refine ⟨y, ho, c, hcl, hy, fun j u hju => ?_⟩
      have hj : j < d.sz := by
        have := (List.getElem?_eq_some_iff.1 hju).1
        omega
      rw [← addr_add_add, hcc j hj, hju]
    obtain ⟨ys, hyl, hyr⟩ := choose_list (fun i y => ok y ∧ ∃ c, c.length = d.sz ∧ d.K W y c ∧ ∀ j u, c[j]? = some u → W.cell? (a.add (i * d.sz + j)) = some u) len each
    refine ⟨ys, ⟨some a, cap, by rw [hyl], by omega, rfl, ?_, fun _ => ⟨a, rfl, fun j p hj => (hyr j p hj).2⟩⟩, ?_, ?_⟩
    · unfold maxLen at hm; omega
    · unfold maxLen at hm ⊢; omega
    · intro y hy
      obtain ⟨i, hi, rfl⟩ := List.getElem_of_mem hy
      exact (hyr i _ (List.getElem?_eq_getElem hi)).1
/-- The fields of a struct, one behind the other, as a nest of pairs. -/
inductive TKs (P : Program) : (fs : List Field) → (off : Nat) → {α : Type} → (d : Kd α) → (ok : α → Prop) → Prop
  | one {f : Field} {off : Nat} {α : Type} {d : Kd α} {ok : α → Prop} (ho : f.offset = off) (hc : P.cellsOf f.type = d.sz) (h : TK P f.type d ok) : TKs P [f] off d ok
  | cons {f : Field} {fs : List Field} {off : Nat} {α β : Type} {d : Kd α} {d' : Kd β} {ok : α → Prop} {ok' : β → Prop} (ho : f.offset = off) (hc : P.cellsOf f.type = d.sz) (h : TK P f.type d ok) (hs : TKs P fs (off + d.sz) d' ok') :
      TKs P (f :: fs) off (Kd.pair d d') (fun y => ok y.1 ∧ ok' y.2)
theorem TKs.read {P : Program} {fs : List Field} {off : Nat} {α : Type} {d : Kd α} {ok : α → Prop} (h : TKs P fs off d ok) {H : Type} (enc : TypeId × Value → H) (W : World) (n : Nat) (cs : List Value)
    (hlen : cs.length = off + d.sz) (hf : ∀ (i : Nat) (f : Field), fs[i]? = some f → ∃ x, DataW.trod enc P W 0 (fun _ => true) true n f.type ((cs.drop f.offset).take (P.cellsOf f.type)) = some x) : ∃ y, d.K W y (cs.drop off) ∧ ok y := by
  induction h with
  | one ho hc h =>
    obtain ⟨x, hx⟩ := hf 0 _ rfl
    obtain ⟨y, hy, hk⟩ := h enc W n _ x hx
    refine ⟨y, ?_, hk⟩
    rw [ho, hc, List.take_of_length_le (by rw [List.length_drop]; omega)] at hy
    exact hy
  | @cons f fs off α β d d' ok ok' ho hc h hs ih =>
    obtain ⟨x, hx⟩ := hf 0 _ rfl
    obtain ⟨y, hy, hk⟩ := h enc W n _ x hx
    have hlen' : cs.length = off + d.sz + d'.sz := by rw [hlen]; exact (Nat.add_assoc _ _ _).symm
    obtain ⟨z, hz, hkz⟩ := ih hlen' (fun i g hg => hf (i + 1) g hg)
    refine ⟨(y, z), ⟨(cs.drop off).take d.sz, cs.drop (off + d.sz), ?_, ?_, hz⟩, hk, hkz⟩
    · rw [← List.drop_drop, List.take_append_drop]
    · rw [ho, hc] at hy; exact hy
theorem TK.struct {P : Program} {t : TypeId} {fs : Array Field} {α β : Type} {d : Kd α} {ok : α → Prop} (f : β → α) (hf : ∀ y, ∃ x, f x = y) (hu : P.underlying t = some (.struct fs)) (hc : P.cellsOf t = d.sz) (h : TKs P fs.toList 0 d ok) :
    TK P t (Kd.iso d f) (fun x => ok (f x)) := by
  intro H enc W fuel cs x hx
  obtain ⟨xs, n, _, _, hl, hxl, hfs⟩ := DataW.trod_struct hu hx
  obtain ⟨y, hy, hk⟩ := h.read enc W n cs (by rw [hl, hc, Nat.zero_add]) (fun i g hg => by
    have hg' : fs[i]? = some g := by rw [← Array.getElem?_toList]; exact hg
    have := hfs i g hg'
    have hi : i < xs.length := by
      have := (Array.getElem?_eq_some_iff.1 hg').1
      omega
    exact ⟨xs[i], by rw [this, List.getElem?_eq_getElem hi]⟩)
  obtain ⟨z, rfl⟩ := hf y
  rw [List.drop_zero] at hy
  exact ⟨z, hy, hk⟩

theorem tk25 : TK Try.prog 25 PWin.k25 (fun x => ((Lit.int .i64 x.f0).wf = true ∧ (Lit.int .i64 x.f1).wf = true)) :=
  TK.struct (fun x : PWin.S25 => (x.f0, x.f1)) (fun y => ⟨⟨y.1, y.2⟩, rfl⟩) Try.underlying25 (by kernel_rfl) (TKs.cons rfl (by kernel_rfl) (TK.int Try.underlying3) (TKs.one rfl (by kernel_rfl) (TK.int Try.underlying3)))
set_option maxRecDepth 100000 in
theorem lifted (os : Os) (started : os.Started) (H : Type) (enc : TypeId × Value → H) :
    ReturnsInHanded {} Try.checked os 4 .any (Rows.fnExactCubicRunSpec.pre6 enc Try.prog Try.f4 Rows.fnExactCubicRunRow.domain false) (Rows.fnExactCubicRunSpec.post enc Try.prog Try.f4 false true false false) := by
  refine returnsInHanded_of_change_sized (C := Try.checked) own started (by kernel_rfl) Try.func4
    (ChangeSpec.witness6 (enc := enc) (C := Try.checked) false ⟨#[], #[.slice none 0 0], []⟩ 8 (by kernel_rfl) (by kernel_rfl) (by kernel_rfl) (by kernel_rfl)) ?_
  intro W base args ds gs before hval0 hW hcnd hsz0 _
  have hval : ∀ (j : Nat) t v, Try.f4.params[j]? = some t → args[j]? = some v → Value.okWide Try.prog W .any base t v := hval0
  have hW' := hW
  obtain ⟨p, q, hA0, hV, rfl, hfz, hnd⟩ := hW
  have hA : DataW.TrodAll enc Try.prog W 0 (fun _ => true) true Try.f4.params.toList args.toList ds p := hA0
  rw [Try.params4] at hA hval
  obtain ⟨v0, vs0, d0, ds0, p0, q0, hargs, rfl, rfl, h0, r0⟩ := trodAll_cons hA
  obtain ⟨rfl, rfl, rfl⟩ := trodAll_nil r0
  obtain rfl : args = #[v0] := by cases args; simp_all
  obtain ⟨rfl, rfl⟩ := trodVars_none hV
  have k0 := h0
  have lt0 : ∀ x ∈ p0, x.block < W.heap.size := by obtain ⟨m, hm⟩ := k0; exact DataW.trod_lt m _ _ _ hm
  clear hA0 hval0 hsz0 hA
  obtain ⟨y0, hk0, ok0⟩ : ∃ y : List (PWin.S25), (Kd.slice 25 PWin.k25).K W y v0.cells.toList ∧ (y.length ≤ maxLen ∧ ∀ q0 ∈ y, ((Lit.int .i64 q0.f0).wf = true ∧ (Lit.int .i64 q0.f1).wf = true)) := by
    obtain ⟨fuel, hf⟩ := h0
    exact (TK.slice Try.underlying34 (by kernel_rfl) tk25) enc W fuel _ _ hf
  obtain ⟨a0, len0, cap0, rfl⟩ := okWide_slice Try.underlying34 (hval 0 34 v0 rfl rfl)
  obtain ⟨A0, c0, hE0, hc0, hr0⟩ := hk0
  simp only [Value.cells, List.cons.injEq, Value.slice.injEq, and_true] at hE0
  obtain ⟨rfl, rfl, rfl⟩ := hE0
  refine (PWin.walk_FnExactCubicRun W a0 cap0 y0 hr0 hc0 ok0).mono fun e W' ⟨he, bel⟩ => ?_
  subst he
  exact ⟨_, rfl, _, _, _, [], _, [], hW', trodAll_mk1 (shut_bool Try.underlying4 _), (trodAll_cons_mk (Below.trod laidOut (by kernel_rfl) (of_decide_eq_true (by kernel_rfl)) k0 bel lt0) trodAll_mk0), rfl, bel.frame _, fun h => by cases h⟩
theorem over : Rows.fnExactCubicRunRow.holds Try.pinned (OpenSpec.ofChange Rows.fnExactCubicRunSpec) :=
  OpenClaim.holds_of_wide 4 Try.f4 rfl rfl rfl rfl rfl rfl rfl ⟨rfl, rfl, rfl, rfl, rfl⟩ rfl rfl rfl rfl rfl (by kernel_rfl) Try.func4 (by kernel_rfl)
    (of_decide_eq_true (by kernel_rfl)) (by unfold Func.isWrapper; first | (rw [if_pos (by decide +kernel)]; kernel_rfl) | (rw [if_neg (by decide +kernel)]; exact ⟨rfl, rfl⟩))
    (fun os started H enc _ => lifted os started H enc)
theorem proved : Rows.FnExactCubicRunSaid := over
#print axioms proved
end Go.Proofs.Ytjfbeakmpmjadaa.fnExactCubicRun
namespace Go.Proofs.Ytjfbeakmpmjadaa
/-- The row, under a short name, for the claim. -/
theorem fnExactCubicRun_holds : Rows.FnExactCubicRunSaid := fnExactCubicRun.proved
end Go.Proofs.Ytjfbeakmpmjadaa
