/- The abstract machine of this claim: what a step of a program comes to where rows are lists, with its proofs; part 1. -/
import Derived.Test.YtnceiegngfpmkaaAm0
import Derived.Laws.Tables
import Derived.Great.BuildSlice
import Derived.Laws.MakeOwn
import Derived.StillTail
namespace Go.Proofs.YtnceiegngfpmkaaAm
set_option linter.unusedVariables false
section
variable {G : Ctx} {w0 : World} {O0 : Own0} {n r : Nat} {S S' : St} {o : Oper}
theorem toList_two {α : Type} {a : Array α} {x y : α} (h : a.toList = [x, y]) : a = #[x, y] := by rw [← Array.toArray_toList (xs := a), h]
theorem ofNext_next (m : Mode) : (ofNext m).next = m := by
  unfold ofNext
  split
  · rename_i h; rw [h]; rfl
  · rfl
theorem ofNext_own (m : Mode) : (ofNext m).isOwn = true := by unfold ofNext; split <;> rfl
/-- Elements seen with the rights that both sides have. -/
theorem Elems.meet {βv : Nat → Nat} {w : World} {τ : Ty} {l : List (Interp τ)} {vs : List Value} {γ : Nat → Nat → Layout} {m nn : Mode} (h : Elems βv w (.own m) τ l vs γ) (hc : τ.flat = true ∨ m.covers nn = true) :
    Elems βv w (ofNext nn) τ l vs γ ∧ (∀ b, OwnE βv (ofNext nn) τ l γ b → OwnE βv (.own m) τ l γ b) ∧ (∀ b, ShE (ofNext nn) τ l γ b → OwnE βv (.own m) τ l γ b ∨ ShE (.own m) τ l γ b) := by
  by_cases hf : τ.flat = true
  · refine ⟨h.congr (fun i o => sub_flat hf i o), fun b hb => absurd hb (flat_none hf b).1, fun b hb => absurd hb (flat_none (βv := βv) hf b).2⟩
  · have hc := hc.resolve_left hf
    exact h.weaken (by rw [ofNext_next]; exact hc)
theorem meet_covers (τ : Ty) (m1 m2 : Mode) : (τ.flat = true ∨ m1.covers (meet τ m1 m2) = true) ∧ (τ.flat = true ∨ m2.covers (meet τ m1 m2) = true) := by
  unfold Go.Proofs.YtnceiegngfpmkaaAm.meet
  by_cases hf : τ.flat = true
  · exact ⟨.inl hf, .inl hf⟩
  · rw [if_neg hf]
    split
    · rename_i e; subst e; exact ⟨.inr (Mode.covers_refl _), .inr (Mode.covers_refl _)⟩
    · refine ⟨.inr ?_, .inr ?_⟩
      · cases m1 <;> rfl
      · cases m2 <;> rfl
theorem stepAppend_ok (hG : G.Ok) (h : stepAppend G n r o S = some S') : OpOk G w0 O0 n o S S' := by
  unfold stepAppend at h
  split at h
  · rename_i c hop
    split at h
    · rename_i s x t t' hcal hargs htys
      split at h
      · rename_i hc
        obtain ⟨rfl, hole, haux⟩ := hc
        split at h
        · rename_i e hU
          split at h
          · rename_i ti hI
            split at h
            · rename_i τ hty
              obtain ⟨d, hd, h⟩ := Option.bind_eq_some_iff.1 h
              obtain ⟨y, hy, h⟩ := Option.bind_eq_some_iff.1 h
              split at h
              · rename_i hb
                obtain ⟨hb1, hb2, hb3⟩ := hb
                obtain ⟨info, z, i1, i2, i3, i4, i5, i6, i7, _, _, i8⟩ := hG.i _ _ hI
                obtain ⟨_, i9, i10⟩ := i8 τ hty
                have isz : info.size = τ.size := i2.trans i9
                refine .ofRun fun a w hS => ?_
                obtain ⟨βv, β, hH, hO, hT⟩ := hS.holds
                obtain ⟨β1, A, cc, b, base, vs1, γ1, v1, v2, v3, v4, v5, v6, E1, H1, o1, s1, top1, oe1, se1⟩ := (dest_spec hH hole hd).ex
                obtain ⟨β2, B, c2, vs2, γ2, x1, x2, E2, H2, o2, s2, oe2, se2⟩ := (src_spec H1 hy).ex
                have hlt0 : ∀ b, OwnB S.F S.hole βv β b ∨ ShB S.F S.hole β b → b < w.heap.size := fun b hb => by
                  have hl := hH.lays
                  rw [hole] at hl hb
                  exact hl.lt hb
                have hsz0 : 0 < info.size := by omega
                have hz5 : z.cells.size = info.size := by omega
                obtain ⟨v', w', b', base', c', hrun, R⟩ := run_append_any (P := G.P) w t' o.type e info z (hG.u _ _ hU) i1 i4 hz5 A d.2.2.length cc b base v2 v3 (by rw [isz]; exact v5) vs1 (by rw [E1.len, isz]) v6
                  B y.2.2.length c2 vs2 (by rw [E2.len, isz]) x2 E2.one hb2 (by rw [i3]; exact hb1) v4
                rw [isz] at R
                -- the blocks that are used by what is left are as they were
                have keep : ∀ k, k < w.heap.size → (cc ≠ 0 → k ≠ b) → w'.heap[k]? = w.heap[k]? := R.heap
                have used2 : ∀ k, OwnB y.1.F y.1.hole βv β2 k ∨ ShB y.1.F y.1.hole β2 k → k < w.heap.size ∧ (cc ≠ 0 → k ≠ b) := fun k hk => by
                  have h1 : OwnB d.1.F d.1.hole βv β1 k ∨ ShB d.1.F d.1.hole β1 k := hk.imp (o2 k) (s2 k)
                  refine ⟨hlt0 k (h1.imp (o1 k) (s1 k)), fun hc e => ?_⟩
                  subst e
                  obtain ⟨_, t2, t3, _⟩ := top1 hc
                  rcases h1 with h1 | h1
                  · exact t2 h1
                  · exact t3 h1
                have e1frame : ∀ k, OwnE βv (.own d.2.1) τ d.2.2 γ1 k ∨ ShE (.own d.2.1) τ d.2.2 γ1 k → k < w.heap.size ∧ (cc ≠ 0 → k ≠ b) := fun k hk => by
                  refine ⟨?_, fun hc e => ?_⟩
                  · rcases hk with hk | hk
                    · exact hlt0 k (.inl (oe1 k hk).1)
                    · exact hlt0 k (.inr (se1 k hk).1)
                  · subst e
                    obtain ⟨_, _, _, t4, t5⟩ := top1 hc
                    rcases hk with hk | hk
                    · exact t4 hk
                    · exact t5 hk
                have e2frame : ∀ k, OwnE βv (.own y.2.1) τ y.2.2 γ2 k ∨ ShE (.own y.2.1) τ y.2.2 γ2 k → k < w.heap.size ∧ (cc ≠ 0 → k ≠ b) := fun k hk => by
                  have h1 : OwnB d.1.F d.1.hole βv β1 k ∨ ShB d.1.F d.1.hole β1 k := hk.imp (fun h => (oe2 k h).1) (fun h => (se2 k h).1)
                  refine ⟨hlt0 k (h1.imp (o1 k) (s1 k)), fun hc e => ?_⟩
                  subst e
                  obtain ⟨_, t2, t3, _⟩ := top1 hc
                  rcases h1 with h1 | h1
                  · exact t2 h1
                  · exact t3 h1
                have H2' : Holds y.1 βv β2 a.tmps [] w' := ⟨H2.lays.frame fun k hk => keep k (used2 k hk).1 (used2 k hk).2, H2.env, H2.aux⟩
                obtain ⟨M1, mo1, ms1⟩ := (E1.frame (w' := w') fun k hk => keep k (e1frame k hk).1 (e1frame k hk).2).meet (nn := meet τ d.2.1 y.2.1) (meet_covers τ d.2.1 y.2.1).1
                obtain ⟨M2, mo2, ms2⟩ := (E2.frame (w' := w') fun k hk => keep k (e2frame k hk).1 (e2frame k hk).2).meet (nn := meet τ d.2.1 y.2.1) (meet_covers τ d.2.1 y.2.1).2
                -- both sides' blocks are apart
                have ap : ∀ k, (OwnE βv (.own d.2.1) τ d.2.2 γ1 k → ¬ (OwnE βv (.own y.2.1) τ y.2.2 γ2 k ∨ ShE (.own y.2.1) τ y.2.2 γ2 k)) ∧ (ShE (.own d.2.1) τ d.2.2 γ1 k → ¬ OwnE βv (.own y.2.1) τ y.2.2 γ2 k) := fun k =>
                  ⟨fun h1 h2 => by
                    obtain ⟨_, g2, g3⟩ := oe1 k h1
                    rcases h2 with h2 | h2
                    · exact g2 (oe2 k h2).1
                    · exact g3 (se2 k h2).1,
                   fun h1 h2 => (se1 k h1).2 (oe2 k h2).1⟩
                obtain ⟨M, mo, ms⟩ := M1.append M2 (fun k h1 h2 => (ap k).1 (mo1 k h1) (.inl (mo2 k h2)))
                  (fun k h1 h2 => by
                    rcases ms1 k h1 with h1 | h1
                    · exact (ap k).1 h1 (.inl (mo2 k h2))
                    · exact (ap k).2 h1 (mo2 k h2))
                  (fun k h1 h2 => (ap k).1 (mo1 k h2) (ms2 k h1))
                obtain ⟨A', hA'⟩ := R.val
                have lenEq : (d.2.2 ++ y.2.2).length = d.2.2.length + y.2.2.length := by simp
                have ownM : ∀ k, OwnE βv (ofNext (meet τ d.2.1 y.2.1)) τ (d.2.2 ++ y.2.2) (catLay d.2.2 γ1 γ2) k → OwnE βv (.own d.2.1) τ d.2.2 γ1 k ∨ OwnE βv (.own y.2.1) τ y.2.2 γ2 k := fun k hk => (mo k hk).imp (mo1 k) (mo2 k)
                have shM : ∀ k, ShE (ofNext (meet τ d.2.1 y.2.1)) τ (d.2.2 ++ y.2.2) (catLay d.2.2 γ1 γ2) k → (OwnE βv (.own d.2.1) τ d.2.2 γ1 k ∨ ShE (.own d.2.1) τ d.2.2 γ1 k) ∨ (OwnE βv (.own y.2.1) τ y.2.2 γ2 k ∨ ShE (.own y.2.1) τ y.2.2 γ2 k) := fun k hk => (ms k hk).imp (ms1 k) (ms2 k)
                have notHere : ∀ k, k < w.heap.size ∧ (cc ≠ 0 → k ≠ b) → c' ≠ 0 → k ≠ b' := fun k hk hc e => by
                  rcases R.here hc with ⟨h1, h2⟩ | ⟨h1, h2⟩
                  · exact hk.2 h1 (e.trans h2)
                  · have := hk.1; omega
                obtain ⟨g1, g2, g3⟩ := M.row (L := ⟨b', base', c', τ.size⟩) rfl (by rw [lenEq]; exact R.le) (fun _ hc => R.blk hc) R.cells
                  (fun hc hk => by
                    rcases ownM _ hk with hk | hk
                    · exact notHere _ (e1frame _ (.inl hk)) hc rfl
                    · exact notHere _ (e2frame _ (.inl hk)) hc rfl)
                  (fun _ hc hk => by
                    rcases shM _ hk with hk | hk
                    · exact notHere _ (e1frame _ hk) hc rfl
                    · exact notHere _ (e2frame _ hk) hc rfl)
                have hu : SlRel (rowLay ⟨b', base', c', τ.size⟩ (catLay d.2.2 γ1 γ2) top) 0 (d.2.2 ++ y.2.2).length v' := by
                  have e0 := rowLay_app ⟨b', base', c', τ.size⟩ (catLay d.2.2 γ1 γ2) []
                  simp only [Pl.app] at e0
                  rw [e0]
                  exact ⟨A', c', by rw [hA'.1, lenEq], rfl, by simpa using hA'.2⟩
                obtain ⟨β', k1, k2, k3, k4, k5⟩ := newRow_holds H2' hS.tmps h g1
                  (fun k hk => by
                    rcases g2 k hk with ⟨_, hc, rfl⟩ | hk
                    · exact ⟨fun h => notHere _ (used2 _ (.inl h)) hc rfl, fun h => notHere _ (used2 _ (.inr h)) hc rfl⟩
                    · rcases ownM _ hk with hk | hk
                      · obtain ⟨_, q2, q3⟩ := oe1 k hk
                        exact ⟨fun h => q2 (o2 k h), fun h => q3 (s2 k h)⟩
                      · exact (oe2 k hk).2)
                  (fun k hk h => by
                    rcases g3 k hk with ⟨hm, _⟩ | hk
                    · rw [ofNext_own] at hm; cases hm
                    · rcases shM _ hk with (hk | hk) | hk | hk
                      · exact (oe1 k hk).2.1 (o2 k h)
                      · exact (se1 k hk).2 (o2 k h)
                      · exact (oe2 k hk).2.1 h
                      · exact (se2 k hk).2 h)
                  hu (fun q0 e => by rw [e] at hb3; simpa using hb3)
                refine ⟨v', w', ?_, ⟨⟨βv, β', k1, fun k hk => ?_, fun k hk => ?_⟩, fun k hk hn => ?_, by have := hS.size; have := R.size; omega, R.os.trans hS.os, R.tape.trans hS.tape, R.output.trans hS.output, k4.trans hS.defers, k3⟩⟩
                · have h1 := toList_two hargs
                  have h2 := toList_two htys
                  simp only [execOp, hop, resolve, hcal, h1, h2, invoke, builtin, Sem.run_bind, Sem.run_pure, Result.andThen_ok, List.map_toArray, List.map_cons, List.map_nil, v1, x1, hrun]
                · rcases k2 k hk with hk | hk
                  · exact hO k (o1 k (o2 k hk))
                  · rcases g2 k hk with ⟨_, hc, rfl⟩ | hk
                    · rcases R.here hc with ⟨h1, h2⟩ | ⟨h1, h2⟩
                      · rw [h2]; exact hO b (top1 h1).1
                      · right; have := hS.size; omega
                    · rcases ownM _ hk with hk | hk
                      · exact hO k (oe1 k hk).1
                      · exact hO k (o1 k (oe2 k hk).1)
                · rcases k5 k hk with hk | hk
                  · exact hT k (s1 k (s2 k hk))
                  · rcases g3 k hk with ⟨hm, _⟩ | hk
                    · rw [ofNext_own] at hm; cases hm
                    · rcases shM _ hk with (hk | hk) | hk | hk
                      · exact .inr (hO k (oe1 k hk).1)
                      · exact hT k (se1 k hk).1
                      · exact .inr (hO k (o1 k (oe2 k hk).1))
                      · exact hT k (s1 k (se2 k hk).1)
                · have hlt : k < w.heap.size := by have := hS.size; omega
                  rw [keep k hlt (fun hc e => ?_)]
                  · exact hS.frame k hk hn
                  · subst e
                    rcases hO _ (top1 hc).1 with h1 | h1
                    · exact hn h1
                    · omega
              · cases h
            · cases h
          · cases h
        · cases h
      · cases h
    · cases h
  · cases h
end
end Go.Proofs.YtnceiegngfpmkaaAm
namespace Go.Proofs.YtnceiegngfpmkaaAm
set_option linter.unusedVariables false

def AC.killRoot (r : Nat) : AC → AC
  | .sl q pt => if q.root = r then .dead else .sl q pt
  | .ptr q => if q.root = r then .dead else .ptr q
  | .clo f caps => if caps.any (fun x => x.1 == r) then .dead else .clo f caps
  | x => x
/-- No variable holds the root's address. -/
def noRefs (F : Forest) (r : Nat) : Bool := F.all fun e => match e.2 with
  | some R => R.cs.all fun c => match c with
    | .ref x => !x.vars.contains r
    | _ => true
  | none => true
def St.dropRoot (S : St) (r : Nat) : St := ⟨mapEnv (AC.killRoot r) S.env, S.F.put r none, S.hole, S.aux.map (AC.killRoot r)⟩
theorem noRefs_spec : ∀ {F : Forest} {r : Nat}, noRefs F r = true → ∀ {r0 : Nat} {R : Root} {o : Nat} {c : AC}, F.get r0 = some R → R.cs[o]? = some (.ref c) → r ∉ c.vars
  | [], r, _, r0, R, o, c, h, _ => by cases h
  | (k, R') :: F, r, hn, r0, R, o, c, h, hc => by
    simp only [noRefs, List.all_cons, Bool.and_eq_true] at hn
    simp only [Forest.get] at h
    split at h
    · subst h
      have := List.all_eq_true.1 hn.1 _ (List.mem_of_getElem? hc)
      simpa using this
    · exact noRefs_spec (F := F) (r := r) hn.2 h hc
section
variable {S S1 : St} {βv : Nat → Nat} {β : Layout} {w : World} {tmps : Array Value} {xs : List Value} {r : Nat}
theorem dropRoot_holds (hH : Holds S βv β tmps xs w) (hn : noRefs S.F r = true) (hh : ∀ q0, S.hole = some q0 → q0.root ≠ r) :
    Holds (S.dropRoot r) βv β tmps xs w ∧ (∀ b, OwnB (S.dropRoot r).F S.hole βv β b → OwnB S.F S.hole βv β b) ∧ (∀ b, ShB (S.dropRoot r).F S.hole β b → ShB S.F S.hole β b) := by
  have rootNe : ∀ {q2 : Pl} {c : Cell}, At (S.F.put r none) q2 c → q2.root ≠ r := fun {q2 c} h e => by
    obtain ⟨R, hR2⟩ := at_root h
    rw [e] at hR2
    simp at hR2
  have down : ∀ {q2 : Pl} {c : Cell}, AtN (S.F.put r none) S.hole q2 c → AtN S.F S.hole q2 c := fun {q2 c} ha2 => ⟨(at_get (by simp [rootNe ha2.1])).1 ha2.1, ha2.2⟩
  have upR : ∀ {q2 : Pl} {c : Cell}, q2.root ≠ r → AtN S.F S.hole q2 c → AtN (S.F.put r none) S.hole q2 c := fun {q2 c} hr ha2 => ⟨(at_get (by simp [hr])).2 ha2.1, ha2.2⟩
  have hL1 : Lays (S.F.put r none) S.hole βv β w := hH.lays.fewer (fun r' => by
      by_cases e : r' = r
      · subst e; exact .inr (by simp)
      · exact .inl (by simp [e])) (fun r0 R o c k1 k2 k3 kh r' hr => by
      have hr0 : r0 ≠ r := by rintro rfl; simp at k1
      rw [Forest.get_put, if_neg hr0] at k1
      have : r' ≠ r := by rintro rfl; exact noRefs_spec hn k1 k3 hr
      simp [this])
  have hk : ∀ x v, AcRel S.F S.hole βv β x v → AcRel (S.F.put r none) S.hole βv β (x.killRoot r) v := fun x v hx => by
    have pc : ∀ {r' o'}, r' ≠ r → PtrOk S.F S.hole (.cell r' o') → PtrOk (S.F.put r none) S.hole (.cell r' o') := fun {r' o'} hne hp => (ptrOk_get (by simp [Pl.root, hne])).2 hp
    cases x with
    | lit u => exact hx
    | nil τ => exact hx
    | dead => trivial
    | sl q pt =>
      simp only [AC.killRoot]
      split
      · trivial
      · rename_i hne
        obtain ⟨m, τ, l, h1, h2⟩ := hx
        exact ⟨m, τ, l, upR hne h1, h2⟩
    | ptr q =>
      simp only [AC.killRoot]
      split
      · trivial
      · rename_i hne
        exact ⟨(ptrOk_get (by simp [hne])).2 hx.1, hx.2⟩
    | clo f caps =>
      simp only [AC.killRoot]
      split
      · trivial
      · rename_i hne
        refine ⟨fun y hy => pc (fun e => hne ?_) (hx.1 y hy), hx.2⟩
        simp only [List.any_eq_true, beq_iff_eq]
        exact ⟨y, hy, e⟩
  refine ⟨⟨hL1, EnvRel.map hk hH.env, Acs.map hk hH.aux⟩, fun b hb => ?_, fun b hb => ?_⟩
  · rcases hb with ⟨r2, R2, h1, h2, h3⟩ | ⟨q3, m3, τ3, l3, k1, k2⟩
    · have : r2 ≠ r := by rintro rfl; simp [St.dropRoot] at h1
      simp only [St.dropRoot, Forest.get_put, if_neg this] at h1
      exact .inl ⟨r2, R2, h1, h2, h3⟩
    · have k1' : AtN (S.F.put r none) S.hole q3 (.rows m3 τ3 l3) := k1
      exact .inr ⟨q3, m3, τ3, l3, down k1', k2⟩
  · obtain ⟨q3, m3, τ3, l3, k1, k2⟩ := hb
    have k1' : AtN (S.F.put r none) S.hole q3 (.rows m3 τ3 l3) := k1
    exact ⟨q3, m3, τ3, l3, down k1', k2⟩

/-- A variable's cells, element by element. -/
def rowsOf (m : Mode) (τ : Ty) : Nat → List Cell → Option (List (Interp τ))
  | 0, [] => some []
  | 0, _ :: _ => none
  | n + 1, cs => (ofCells m.next τ (cs.take τ.size)).bind fun x => (rowsOf m τ n (cs.drop τ.size)).bind fun l => some (x :: l)
theorem rowsOf_spec {m : Mode} {τ : Ty} : ∀ {n : Nat} {cs : List Cell} {l : List (Interp τ)}, rowsOf m τ n cs = some l → l.length = n ∧ cs.length = n * τ.size ∧
    ∀ i o c, i < l.length → (Cell.rows m τ l).sub i o = some c → ∃ c0, cs[i * τ.size + o]? = some c0 ∧ c = c0.reMode m.next ∧ c0.fits m.next = true
  | 0, [], l, h => by simp only [rowsOf, Option.some.injEq] at h; subst h; exact ⟨rfl, by simp, fun i o c hi => by simp at hi⟩
  | 0, _ :: _, l, h => by simp [rowsOf] at h
  | n + 1, cs, l, h => by
    simp only [rowsOf, Option.bind_eq_some_iff] at h
    obtain ⟨x, hx, l', hl, e⟩ := h
    cases e
    obtain ⟨h1, h2, h3⟩ := ofCells_spec _ _ _ _ hx
    obtain ⟨k1, k2, k3⟩ := rowsOf_spec hl
    simp only [List.length_take, List.length_drop] at h1 k2
    refine ⟨by simp [k1], by rw [Nat.add_mul]; omega, fun i o c hi hs => ?_⟩
    have ho := sub_lt hs
    simp only [Cell.sz] at ho
    cases i with
    | zero =>
      simp only [Cell.sub, List.getD_cons_zero, h2, List.getElem?_map] at hs
      obtain ⟨c0, e1, e2⟩ := Option.map_eq_some_iff.1 hs
      refine ⟨c0, ?_, e2.symm, h3 c0 (List.mem_of_getElem? e1)⟩
      rw [List.getElem?_take, if_pos ho] at e1
      simpa using e1
    | succ i =>
      have hs' : (Cell.rows m τ l').sub i o = some c := by
        simp only [Cell.sub, List.getD_cons_succ] at hs ⊢
        exact hs
      obtain ⟨c0, e1, e2, e3⟩ := k3 i o c (by simpa using hi) hs'
      refine ⟨c0, ?_, e2, e3⟩
      rw [List.getElem?_drop] at e1
      rw [← e1]
      congr 1
      rw [Nat.add_mul]
      omega
theorem cell_atN {r o : Nat} {cs : List Cell} {c : Cell} (hR : S.F.get r = some ⟨true, cs⟩) (hc : cs[o]? = some c) : AtN S.F none (.cell r o) c := ⟨⟨_, hR, hc⟩, fun _ e => by cases e⟩
/-- A variable's cells are a row's. -/
theorem rowOfVar {m : Mode} {τ : Ty} {n : Nat} {cs : List Cell} {l : List (Interp τ)} (hH : Holds S βv β tmps xs w) (hole : S.hole = none) (hR : S.F.get r = some ⟨true, cs⟩) (hl : rowsOf m τ n cs = some l) (hm : m.isOwn = true) (hn : noRefs S.F r = true) (h0 : 0 < n) (hz : 0 < τ.size)
    (hx : ∀ (j : Nat) (m' : Mode) (τ' : Ty) (l' : List (Interp τ')), cs[j]? = some (Cell.rows m' τ' l') → m' = m.next) :
    ∃ γ, Taken S (S.dropRoot r) βv β β tmps xs w (.rows m τ l) γ ∧ Lays (solo (.rows m τ l)) none βv γ w ∧ γ top = ⟨βv r, 0, n, τ.size⟩ := by
  obtain ⟨D1, D2, D3⟩ := dropRoot_holds hH hn (fun q0 e => by rw [hole] at e; cases e)
  obtain ⟨e1, e2, e3⟩ := rowsOf_spec hl
  have hlays := hH.lays
  rw [hole] at hlays
  have down : ∀ {q2 : Pl} {c : Cell}, At (S.F.put r none) q2 c → q2.root ≠ r ∧ At S.F q2 c := fun {q2 c} h => by
    have hne : q2.root ≠ r := fun e => by
      obtain ⟨R, hR2⟩ := at_root h
      rw [e] at hR2
      simp at hR2
    exact ⟨hne, (at_get (by simp [hne])).1 h⟩
  let γe : Nat → Nat → Layout := fun i o => treeLay (.cell r (i * τ.size + o)) β
  have tree0 : ∀ {j c0}, cs[j]? = some c0 → Lays (solo c0) none βv (treeLay (.cell r j) β) w := fun {j c0} hj => hlays.tree (cell_atN hR hj) (fun _ e => by cases e) (fun p => treeLay_app _ β p)
  have ownUp : ∀ {j c0 b}, cs[j]? = some c0 → OwnB (solo c0) none βv (treeLay (.cell r j) β) b → ∃ p m2 τ2 l2, AtN S.F none ((Pl.cell r j).app p) (.rows m2 τ2 l2) ∧ m2.isOwn = true ∧ (β ((Pl.cell r j).app p)).cap ≠ 0 ∧ (β ((Pl.cell r j).app p)).b = b := fun {j c0 b} hj hb => by
    rcases hb with ⟨r2, R2, h1, h2, _⟩ | ⟨q2, m2, τ2, l2, h1, h2, h3, rfl⟩
    · rw [solo_noVar h1] at h2; cases h2
    · obtain ⟨p, rfl, h4⟩ := solo_at.1 h1.1
      rw [treeLay_app] at h3 ⊢
      exact ⟨p, m2, τ2, l2, atN_app (h := none) (fun _ e => by cases e) (cell_atN hR hj) h4, h2, h3, rfl⟩
  have shUp : ∀ {j c0 b}, cs[j]? = some c0 → ShB (solo c0) none (treeLay (.cell r j) β) b → ShB S.F none β b := fun {j c0 b} hj hb => (hlays.tree_used (γ := treeLay (.cell r j) β) (cell_atN hR hj) (fun _ e => by cases e) (fun p => treeLay_app _ β p)).2 hb
  have memR : InMem S.F (.cell r 0) := ⟨_, hR, rfl⟩
  have back : ∀ {i o c}, i < l.length → (Cell.rows m τ l).sub i o = some c → ∃ c0, cs[i * τ.size + o]? = some c0 ∧ c = c0.reMode m.next ∧ c0.fits m.next = true := fun {i o c} hi hs => e3 i o c hi hs
  have ownB : ∀ {i o c b}, i < l.length → (Cell.rows m τ l).sub i o = some c → OwnB (solo c) none βv (γe i o) b → ∃ c0, cs[i * τ.size + o]? = some c0 ∧ OwnB (solo c0) none βv (treeLay (.cell r (i * τ.size + o)) β) b := fun {i o c b} hi hs hb => by
    obtain ⟨c0, h1, rfl, h3⟩ := back hi hs
    exact ⟨c0, h1, ((tree0 h1).weaken h3).2.1 b hb⟩
  have shB : ∀ {i o c b}, i < l.length → (Cell.rows m τ l).sub i o = some c → ShB (solo c) none (γe i o) b → ∃ c0, cs[i * τ.size + o]? = some c0 ∧ (OwnB (solo c0) none βv (treeLay (.cell r (i * τ.size + o)) β) b ∨ ShB (solo c0) none (treeLay (.cell r (i * τ.size + o)) β) b) := fun {i o c b} hi hs hb => by
    obtain ⟨c0, h1, rfl, h3⟩ := back hi hs
    exact ⟨c0, h1, ((tree0 h1).weaken h3).2.2 b hb⟩
  have shB' : ∀ {i o c b}, i < l.length → (Cell.rows m τ l).sub i o = some c → ShB (solo c) none (γe i o) b → ∃ c0, cs[i * τ.size + o]? = some c0 ∧ ShB (solo c0) none (treeLay (.cell r (i * τ.size + o)) β) b := fun {i o c b} hi hs hb => by
    obtain ⟨c0, h1, rfl, h3⟩ := back hi hs
    refine ⟨c0, h1, ?_⟩
    have : c0.reMode m.next = c0 := by
      cases c0 with
      | rows m' τ' l' => simp only [Cell.reMode]; rw [hx _ m' τ' l' h1]
      | _ => rfl
    rw [this] at hb
    exact hb
  have idx : ∀ {i o i' o' : Nat}, o < τ.size → o' < τ.size → i * τ.size + o = i' * τ.size + o' → i = i' ∧ o = o' := fun {i o i' o'} h1 h2 h => by
    have hi : i = i' := by
      rcases Nat.lt_trichotomy i i' with hlt | heq | hgt
      · have := Nat.mul_le_mul_right τ.size (show i + 1 ≤ i' by omega)
        rw [Nat.add_mul] at this; omega
      · exact heq
      · have := Nat.mul_le_mul_right τ.size (show i' + 1 ≤ i by omega)
        rw [Nat.add_mul] at this; omega
    subst hi
    exact ⟨rfl, by omega⟩
  let vs : List Value := (List.range (n * τ.size)).map fun j => (w.cell? ⟨βv r, j, none⟩).getD undef
  have cellAt : ∀ {j c0}, cs[j]? = some c0 → ∃ u, w.cell? ⟨βv r, j, none⟩ = some u ∧ CellRel S.F βv β c0 (β (.cell r j)) u := fun {j c0} hj => hlays.cells _ _ (cell_atN hR hj) ⟨_, hR, rfl⟩
  have hvs : ∀ {j c0}, cs[j]? = some c0 → ∃ u, vs[j]? = some u ∧ w.cell? ⟨βv r, j, none⟩ = some u ∧ CellRel S.F βv β c0 (β (.cell r j)) u := fun {j c0} hj => by
    obtain ⟨u, h1, h2⟩ := cellAt hj
    have hlt : j < n * τ.size := by have := (List.getElem?_eq_some_iff.1 hj).1; omega
    exact ⟨u, by simp [vs, hlt, h1], h1, h2⟩
  have plainC : ∀ {i o : Nat} {c c0 : Cell}, i < l.length → (Cell.rows m τ l).sub i o = some c → c = c0.reMode m.next → c0.fits m.next = true → (∃ x, c0 = .v x) ∨ ∃ m' τ' l', c0 = .rows m' τ' l' := fun {i o c c0} hi hs e hf => by
    cases c0 with
    | v x => exact .inl ⟨x, rfl⟩
    | rows m' τ' l' => exact .inr ⟨m', τ', l', rfl⟩
    | ref x => cases hf
    | dead => cases hf
  have allPlain : ∀ j, j < n * τ.size → ∃ c0, cs[j]? = some c0 ∧ ((∃ x, c0 = .v x) ∨ ∃ m' τ' l', c0 = .rows m' τ' l') := fun j hj => by
    have hi : j / τ.size < l.length := by rw [e1]; exact Nat.div_lt_of_lt_mul (by rw [Nat.mul_comm]; exact hj)
    have ho : j % τ.size < τ.size := Nat.mod_lt _ hz
    have hje : j / τ.size * τ.size + j % τ.size = j := by have := Nat.div_add_mod j τ.size; rw [Nat.mul_comm] at this; omega
    have hlen : j % τ.size < (toCells m.next τ (l.getD (j / τ.size) (dflt τ))).length := by rw [toCells_length]; exact ho
    have hs : (Cell.rows m τ l).sub (j / τ.size) (j % τ.size) = some _ := List.getElem?_eq_getElem hlen
    obtain ⟨c0, h1, h2, h3⟩ := back hi hs
    rw [hje] at h1
    exact ⟨c0, h1, plainC hi hs h2 h3⟩
  have E : Elems βv w m τ l vs γe := by
    refine ⟨by simp [vs, e1], fun v hv => ?_, fun i o c hi hs => ?_, fun i o c hi hs => ?_, fun i o c i' o' c' b hi hs hi' hs' hb hb' => ?_, fun i o c i' o' c' b hi hs hi' hs' hb hb' => ?_⟩
    · obtain ⟨j, hj⟩ := List.mem_iff_getElem?.1 hv
      have hlt : j < n * τ.size := by have := (List.getElem?_eq_some_iff.1 hj).1; simpa [vs] using this
      obtain ⟨c0, h1, h2⟩ := allPlain j hlt
      obtain ⟨u, g1, g2, g3⟩ := hvs h1
      rw [hj] at g1
      cases g1
      rcases h2 with ⟨x, rfl⟩ | ⟨m', τ', l', rfl⟩
      · rw [g3.1]; exact g3.2
      · obtain ⟨A, c, rfl, _⟩ := g3; rfl
    · obtain ⟨c0, h1, h2, h3⟩ := back hi hs
      obtain ⟨u, g1, g2, g3⟩ := hvs h1
      refine ⟨u, g1, ?_⟩
      rw [h2]
      have et := treeLay_app (.cell r (i * τ.size + o)) β []
      simp only [Pl.app] at et
      show CellRel [] βv _ _ (treeLay (.cell r (i * τ.size + o)) β top) u
      rw [et]
      exact (g3.plain (plainC hi hs h2 h3)).reMode
    · obtain ⟨c0, h1, h2, h3⟩ := back hi hs
      rw [h2]
      exact ((tree0 h1).weaken h3).1
    · obtain ⟨c0, h1, h2⟩ := ownB hi hs hb
      obtain ⟨c0', h1', h2'⟩ := ownB hi' hs' hb'
      obtain ⟨p, m2, τ2, l2, a1, a2, a3, a4⟩ := ownUp h1 h2
      obtain ⟨p', m3, τ3, l3, b1, b2, b3, b4⟩ := ownUp h1' h2'
      have := hlays.rr _ _ m2 m3 τ2 τ3 l2 l3 a1 a2 a3 b1 b2 b3 (a4.trans b4.symm)
      have ho := sub_lt hs
      have ho' := sub_lt hs'
      simp only [Cell.sz] at ho ho'
      have hp : p = p' ∧ i * τ.size + o = i' * τ.size + o' := by
        have hh := congrArg Pl.height this
        simp only [Pl.height_app, Pl.height] at hh
        obtain ⟨g1, g2⟩ := Pl.app_inj (by omega) this
        exact ⟨g2, by injection g1⟩
      exact idx ho ho' hp.2
    · obtain ⟨c0', h1', h2'⟩ := ownB hi' hs' hb'
      obtain ⟨p', m3, τ3, l3, b1, b2, b3, b4⟩ := ownUp h1' h2'
      obtain ⟨c0, h1, h2⟩ := shB hi hs hb
      rcases h2 with h2 | h2
      · obtain ⟨p, m2, τ2, l2, a1, a2, a3, a4⟩ := ownUp h1 h2
        have := hlays.rr _ _ m2 m3 τ2 τ3 l2 l3 a1 a2 a3 b1 b2 b3 (a4.trans b4.symm)
        have ho := sub_lt hs
        have ho' := sub_lt hs'
        simp only [Cell.sz] at ho ho'
        have hp : i * τ.size + o = i' * τ.size + o' := by
          have hh := congrArg Pl.height this
          simp only [Pl.height_app, Pl.height] at hh
          obtain ⟨g1, g2⟩ := Pl.app_inj (by omega) this
          injection g1
        obtain ⟨rfl, rfl⟩ := idx ho ho' hp
        rw [hs] at hs'
        cases hs'
        obtain ⟨c1, k1, rfl, k3⟩ := back hi hs
        exact ((tree0 k1).weaken k3).1.sh b hb hb'
      · exact hlays.sh b (shUp h1 h2) (.inr ⟨_, m3, τ3, l3, b1, b2, b3, b4⟩)
  have hvar := hlays.vars r _ hR rfl
  obtain ⟨hcs, he, hv1, hv2⟩ := hvar
  have ownE : ∀ b, OwnE βv m τ l γe b → OwnB S.F none βv β b ∧ b ≠ βv r ∧ ∀ q m' τ' l', q.root ≠ r → AtN S.F none q (.rows m' τ' l') → m'.isOwn = true → (β q).cap ≠ 0 → (β q).b ≠ b := by
    rintro b ⟨i, o, c, hi, hs, hb⟩
    obtain ⟨c0, h1, h2⟩ := ownB hi hs hb
    obtain ⟨p, m2, τ2, l2, a1, a2, a3, rfl⟩ := ownUp h1 h2
    refine ⟨.inr ⟨_, m2, τ2, l2, a1, a2, a3, rfl⟩, fun e => hlays.vr r _ _ m2 τ2 l2 hR rfl a1 a2 a3 e.symm, fun q m' τ' l' hq k1 k2 k3 e => ?_⟩
    have := hlays.rr _ _ m' m2 τ' τ2 l' l2 k1 k2 k3 a1 a2 a3 e
    refine hq ?_
    rw [this, Pl.root_app]; rfl
  have shE : ∀ b, ShE m τ l γe b → OwnE βv m τ l γe b ∨ (∃ i o c0, cs[i * τ.size + o]? = some c0 ∧ OwnB (solo c0) none βv (treeLay (.cell r (i * τ.size + o)) β) b) ∨ ShB S.F none β b := by
    rintro b ⟨i, o, c, hi, hs, hb⟩
    obtain ⟨c0, h1, h2⟩ := shB hi hs hb
    rcases h2 with h2 | h2
    · exact .inr (.inl ⟨i, o, c0, h1, h2⟩)
    · exact .inr (.inr (shUp h1 h2))
  have ownC : ∀ {j c0 b}, cs[j]? = some c0 → OwnB (solo c0) none βv (treeLay (.cell r j) β) b → OwnB S.F none βv β b ∧ b ≠ βv r ∧ (∀ q m' τ' l', q.root ≠ r → AtN S.F none q (.rows m' τ' l') → m'.isOwn = true → (β q).cap ≠ 0 → (β q).b ≠ b) := fun {j c0 b} h1 h2 => by
    obtain ⟨p, m2, τ2, l2, a1, a2, a3, rfl⟩ := ownUp h1 h2
    refine ⟨.inr ⟨_, m2, τ2, l2, a1, a2, a3, rfl⟩, fun e => hlays.vr r _ _ m2 τ2 l2 hR rfl a1 a2 a3 e.symm, fun q m' τ' l' hq k1 k2 k3 e => ?_⟩
    have := hlays.rr _ _ m' m2 τ' τ2 l' l2 k1 k2 k3 a1 a2 a3 e
    refine hq ?_
    rw [this, Pl.root_app]; rfl
  have notDropped : ∀ {b}, (b = βv r ∨ (OwnB S.F none βv β b ∧ b ≠ βv r ∧ (∀ q m' τ' l', q.root ≠ r → AtN S.F none q (.rows m' τ' l') → m'.isOwn = true → (β q).cap ≠ 0 → (β q).b ≠ b) ∧ (∀ r' R', r' ≠ r → S.F.get r' = some R' → R'.mem = true → βv r' ≠ b))) → ¬ OwnB (S.dropRoot r).F S.hole βv β b := by
    intro b hb ho
    rw [hole] at ho
    rcases ho with ⟨r2, R2, h1, h2, h3⟩ | ⟨q3, m3, τ3, l3, k1, k2, k3, k4⟩
    · have hne : r2 ≠ r := by rintro rfl; simp [St.dropRoot] at h1
      simp only [St.dropRoot, Forest.get_put, if_neg hne] at h1
      rcases hb with rfl | ⟨_, _, _, hb⟩
      · exact hne (hlays.vv r2 r R2 _ h1 h2 hR rfl h3)
      · exact hb r2 R2 hne h1 h2 h3
    · have k1' : At (S.F.put r none) q3 (.rows m3 τ3 l3) := k1.1
      obtain ⟨d1, d2⟩ := down k1'
      have d3 : AtN S.F none q3 (.rows m3 τ3 l3) := ⟨d2, fun _ e => by cases e⟩
      rcases hb with rfl | ⟨_, _, hb, _⟩
      · exact hlays.vr r _ q3 m3 τ3 l3 hR rfl d3 k2 k3 k4.symm
      · exact hb q3 m3 τ3 l3 d1 d3 k2 k3 k4
  have notSh : ∀ {b}, OwnB S.F none βv β b → ¬ ShB (S.dropRoot r).F S.hole β b := fun {b} ho hs => by
    have := D3 b hs
    rw [hole] at this
    exact hlays.sh b this ho
  have varNe : ∀ {j c0 b}, cs[j]? = some c0 → OwnB (solo c0) none βv (treeLay (.cell r j) β) b → ∀ r' R', r' ≠ r → S.F.get r' = some R' → R'.mem = true → βv r' ≠ b := fun {j c0 b} h1 h2 r' R' hne k1 k2 e => by
    obtain ⟨p, m2, τ2, l2, a1, a2, a3, rfl⟩ := ownUp h1 h2
    exact hlays.vr r' R' _ m2 τ2 l2 k1 k2 a1 a2 a3 e
  obtain ⟨g1, g2, g3⟩ := E.row (L := ⟨βv r, 0, n, τ.size⟩) rfl (by rw [e1]; exact Nat.le_refl _) (fun _ _ => ⟨hcs, he, hv1, by rw [hv2, e2]; simp⟩)
    (fun j v hj => by
      have hlt : j < n * τ.size := by have := (List.getElem?_eq_some_iff.1 hj).1; simpa [vs] using this
      obtain ⟨c0, h1, _⟩ := allPlain j hlt
      obtain ⟨u, g1, g2, _⟩ := hvs h1
      rw [hj] at g1
      cases g1
      rw [Nat.zero_add]; exact g2)
    (fun _ hb => (ownE _ hb).2.1 rfl)
    (fun _ _ hb => by
      rcases shE _ hb with h | ⟨i, o, c0, h1, h2⟩ | h
      · exact (ownE _ h).2.1 rfl
      · exact (ownC h1 h2).2.1 rfl
      · exact hlays.sh _ h (.inl ⟨r, _, hR, rfl, rfl⟩))
  have nd : ∀ {b}, (b = βv r ∨ (OwnB S.F none βv β b ∧ b ≠ βv r ∧ (∀ q m' τ' l', q.root ≠ r → AtN S.F none q (.rows m' τ' l') → m'.isOwn = true → (β q).cap ≠ 0 → (β q).b ≠ b) ∧ (∀ r' R', r' ≠ r → S.F.get r' = some R' → R'.mem = true → βv r' ≠ b))) → ¬ OwnB (S.dropRoot r).F (S.dropRoot r).hole βv β b := notDropped
  have ns : ∀ {b}, OwnB S.F none βv β b → ¬ ShB (S.dropRoot r).F (S.dropRoot r).hole β b := notSh
  have dd : ∀ b, OwnB (S.dropRoot r).F (S.dropRoot r).hole βv β b → OwnB S.F none βv β b := fun b h => by have := D2 b h; rwa [hole] at this
  refine ⟨_, ⟨D1, D2, D3, fun b hb => ?_, fun b hb => ?_⟩, g1, rowLay_app _ _ []⟩
  · rw [hole]
    rcases g2 b hb with ⟨_, _, rfl⟩ | hb
    · have ho : OwnB S.F none βv β (βv r) := .inl ⟨r, _, hR, rfl, rfl⟩
      exact ⟨ho, nd (.inl rfl), ns ho⟩
    · obtain ⟨i, o, c, hi, hs, hb'⟩ := hb
      obtain ⟨c0, h1, h2⟩ := ownB hi hs hb'
      obtain ⟨o1, o2, o3⟩ := ownC h1 h2
      exact ⟨o1, nd (.inr ⟨o1, o2, o3, varNe h1 h2⟩), ns o1⟩
  · rw [hole]
    rcases g3 b hb with ⟨hm', _⟩ | hb
    · rw [hm] at hm'; cases hm'
    · obtain ⟨i, o, c, hi, hs, hb'⟩ := hb
      obtain ⟨c0, h1, h2⟩ := shB' hi hs hb'
      have h3 := shUp h1 h2
      exact ⟨h3, fun ho => hlays.sh b h3 (dd b ho)⟩
end
end Go.Proofs.YtnceiegngfpmkaaAm
namespace Go.Proofs.YtnceiegngfpmkaaAm
set_option linter.unusedVariables false
set_option linter.unusedSimpArgs false

def setSeg {α : Type} (xs : List α) (o : Nat) (ys : List α) : List α := xs.take o ++ ys ++ xs.drop (o + ys.length)
theorem setSeg_length {α : Type} {xs ys : List α} {o : Nat} (h : o + ys.length ≤ xs.length) : (setSeg xs o ys).length = xs.length := by simp [setSeg]; omega
theorem Acs.take {R : AC → Value → Prop} {xs : List AC} {vs : List Value} (h : Acs R xs vs) : ∀ n, Acs R (xs.take n) (vs.take n) := by
  induction h with
  | nil => intro n; simp; exact .nil
  | cons h _ ih =>
    intro n
    cases n with
    | zero => exact .nil
    | succ n => exact .cons h (ih n)
theorem Acs.drop {R : AC → Value → Prop} {xs : List AC} {vs : List Value} (h : Acs R xs vs) : ∀ n, Acs R (xs.drop n) (vs.drop n) := by
  induction h with
  | nil => intro n; simp; exact .nil
  | cons h t ih =>
    intro n
    cases n with
    | zero => exact .cons h t
    | succ n => exact ih n
theorem Acs.app {R : AC → Value → Prop} {xs ys : List AC} {vs us : List Value} (h : Acs R xs vs) (h2 : Acs R ys us) : Acs R (xs ++ ys) (vs ++ us) := by
  induction h with
  | nil => exact h2
  | cons h _ ih => exact .cons h ih
theorem Acs.setSeg {R : AC → Value → Prop} {xs ys : List AC} {vs us : List Value} {o : Nat} (h : Acs R xs vs) (h2 : Acs R ys us) : Acs R (Go.Proofs.YtnceiegngfpmkaaAm.setSeg xs o ys) (Go.Proofs.YtnceiegngfpmkaaAm.setSeg vs o us) := by
  unfold Go.Proofs.YtnceiegngfpmkaaAm.setSeg
  rw [h2.length]
  exact ((h.take o).app h2).app (h.drop _)
/-- The machine's fold over a part's cells is the segment put in. -/
theorem fold_seg (ys : List Value) : ∀ (k off : Nat) (cs : Array Value), off + k + ys.length ≤ cs.size →
    (ys.zipIdx k).foldl (fun cs (p : Value × Nat) => cs.setIfInBounds (off + p.2) p.1) cs = (setSeg cs.toList (off + k) ys).toArray := by
  induction ys with
  | nil => intro k off cs h; simp [setSeg]
  | cons y ys ih =>
    intro k off cs h
    simp only [List.length_cons] at h
    simp only [List.zipIdx_cons, List.foldl_cons]
    rw [ih (k + 1) off _ (by simp; omega)]
    congr 1
    unfold setSeg
    have e := Go.list_seg_step cs.toList (off + k) y ys (by simp; omega)
    simp only [Array.toList_setIfInBounds]
    have e1 : off + (k + 1) = off + k + 1 := by omega
    have e2 : off + k + (y :: ys).length = off + k + 1 + ys.length := by simp; omega
    have e3 : off + k + (ys.length + 1) = off + k + 1 + ys.length := by omega
    rw [e1, e2]
    simp only [List.append_assoc, List.cons_append, List.nil_append, List.length_cons, e3] at e ⊢
    exact e
def fillAC (place : Nat → Option (Nat × Nat)) (cells : List AC) : List (Nat × List AC) → Option (List AC)
  | [] => some cells
  | (i, acs) :: rest => match place i with
    | none => none
    | some (off, size) => if acs.length ≠ size ∨ off + acs.length > cells.length then none else fillAC place (setSeg cells off acs) rest
inductive PartsRel (R : AC → Value → Prop) : List (Nat × List AC) → List (Nat × Value) → Prop where
  | nil : PartsRel R [] []
  | cons {i : Nat} {acs : List AC} {v : Value} {ps : List (Nat × List AC)} {vs : List (Nat × Value)} (h : Acs R acs v.cells.toList) (t : PartsRel R ps vs) : PartsRel R ((i, acs) :: ps) ((i, v) :: vs)
theorem fillAC_rel {R : AC → Value → Prop} {place : Nat → Option (Nat × Nat)} {ps : List (Nat × List AC)} {pv : List (Nat × Value)} (hp : PartsRel R ps pv) : ∀ {cells out : List AC} {cs : Array Value}, Acs R cells cs.toList → fillAC place cells ps = some out →
    ∃ outv, Instr.fill place cs pv = some outv ∧ Acs R out outv.toList ∧ outv.size = cs.size := by
  induction hp with
  | nil => intro cells out cs h e; simp only [fillAC, Option.some.injEq] at e; subst e; exact ⟨cs, rfl, h, rfl⟩
  | @cons i acs v ps vs h t ih =>
    intro cells out cs hc e
    simp only [fillAC] at e
    split at e
    · cases e
    · rename_i off size hpl
      split at e
      · cases e
      · rename_i hn
        have hn : acs.length = size ∧ off + acs.length ≤ cells.length := by omega
        have l1 := h.length
        have l2 := hc.length
        simp only [Array.length_toList] at l1 l2
        have hf := fold_seg v.cells.toList 0 off cs (by simp; omega)
        have hf' : (v.cells.zipIdx.foldl (fun cs (p : Value × Nat) => cs.setIfInBounds (off + p.2) p.1) cs) = (setSeg cs.toList off v.cells.toList).toArray := by
          rw [← Array.foldl_toList]
          simpa using hf
        obtain ⟨outv, g1, g2, g3⟩ := ih (cs := (setSeg cs.toList off v.cells.toList).toArray) (by simpa using hc.setSeg h) e
        refine ⟨outv, ?_, g2, ?_⟩
        · simp only [Instr.fill, hpl]
          have hc1 : (decide (v.cells.size ≠ size) || decide (off + v.cells.size > cs.size)) = false := by
            simp only [Bool.or_eq_false_iff, decide_eq_false_iff_not]; omega
          rw [hc1, hf']
          exact g1
        · rw [g3]
          simp only [List.size_toArray]
          have h2 : off + v.cells.toList.length ≤ cs.toList.length := by simp only [Array.length_toList]; omega
          rw [setSeg_length h2]
          simp
/-- The parts' cells. -/
def St.parts (S : St) : List (Nat × Operand) → Option (List (Nat × List AC))
  | [] => some []
  | (i, x) :: ps => ((S.ev x).bind acsOf).bind fun cs => if cs.all okAC then (S.parts ps).bind fun l => some ((i, cs) :: l) else none
section
variable {G : Ctx} {w0 : World} {O0 : Own0} {n r : Nat} {S S' : St} {o : Oper}
theorem parts_rel {a : Act} {w : World} {βv : Nat → Nat} {β : Layout} (hH : Holds S βv β a.tmps [] w) : ∀ {ps : List (Nat × Operand)} {l : List (Nat × List AC)}, S.parts ps = some l → PartsRel (AcRel S.F S.hole βv β) l (ps.map fun p => (p.1, a.eval p.2))
  | [], l, h => by simp only [St.parts, Option.some.injEq] at h; subst h; exact .nil
  | (i, x) :: ps, l, h => by
    simp only [St.parts] at h
    obtain ⟨cs, h1, h⟩ := Option.bind_eq_some_iff.1 h
    split at h
    · rename_i hok
      obtain ⟨l', h2, h⟩ := Option.bind_eq_some_iff.1 h
      cases h
      obtain ⟨av, e1, e2⟩ := Option.bind_eq_some_iff.1 h1
      have hd : cs ≠ [.dead] := by rintro rfl; simp [okAC] at hok
      exact .cons (acsOf_rel e2 hd (ev_rel hH.env e1)) (parts_rel hH h2)
    · cases h
/-- A struct or an array, written out; a field of a struct that is no variable. -/
def stepStruct (G : Ctx) (n : Nat) (o : Oper) (S : St) : Option St :=
  match o.op with
  | .build t parts => match G.I t, G.U t, S.parts parts.toList with
    | some ti, some (.struct fs), some ps => match places G fs.toList with
      | some pl => (fillAC (fun i => pl[i]?) ti.zero (ps.map fun p => (p.1, normP pl ti.zero p.1 p.2))).bind fun cs => S.bind n o.dst (.agg cs)
      | none => none
    | _, _, _ => none
  | _ => none
where
  places (G : Ctx) : List Field → Option (List (Nat × Nat))
    | [] => some []
    | f :: fs => (G.I f.type).bind fun ti => (places G fs).bind fun l => some ((f.offset, ti.size) :: l)
  normP (pl : List (Nat × Nat)) (zero : List AC) (i : Nat) (cs : List AC) : List AC := match pl[i]? with
    | some (off, _) => if cs.length ≤ (zero.drop off).length then List.zipWith normAC (zero.drop off) cs else cs
    | none => cs
theorem places_run (hG : G.Ok) : ∀ {fs : List Field} {l : List (Nat × Nat)}, stepStruct.places G fs = some l → fs.mapM (fun f => (G.P.info? f.type).map fun i => (f.offset, i.size)) = some l
  | [], l, h => by simp only [stepStruct.places, Option.some.injEq] at h; subst h; rfl
  | f :: fs, l, h => by
    simp only [stepStruct.places] at h
    obtain ⟨ti, h1, h⟩ := Option.bind_eq_some_iff.1 h
    obtain ⟨l', h2, h⟩ := Option.bind_eq_some_iff.1 h
    cases h
    obtain ⟨info, z, i1, i2, _⟩ := hG.i _ _ h1
    simp [List.mapM_cons, i1, i2, places_run hG h2]
theorem zip_norm_any {F : Forest} {h : Option Pl} {βv : Nat → Nat} {β : Layout} : ∀ {zs cs : List AC} {vs : List Value}, cs.length ≤ zs.length → Acs (AcRel F h βv β) cs vs → Acs (AcRel F h βv β) (List.zipWith normAC zs cs) vs
  | _, [], vs, _, hr => by cases hr; simp; exact .nil
  | z :: zs, c :: cs, vs, hl, hr => by
    cases hr with
    | cons h1 h2 => exact .cons (normAC_rel h1) (zip_norm_any (by simpa using hl) h2)
  | [], c :: cs, _, hl, _ => by simp at hl
theorem normP_rel {F : Forest} {h : Option Pl} {βv : Nat → Nat} {β : Layout} {pl : List (Nat × Nat)} {zero : List AC} : ∀ {ps : List (Nat × List AC)} {vs : List (Nat × Value)}, PartsRel (AcRel F h βv β) ps vs →
    PartsRel (AcRel F h βv β) (ps.map fun p => (p.1, stepStruct.normP pl zero p.1 p.2)) vs
  | _, _, .nil => .nil
  | _, _, .cons h1 t => by
    refine .cons ?_ (normP_rel t)
    unfold stepStruct.normP
    split
    · split
      · rename_i hl; exact zip_norm_any hl h1
      · exact h1
    · exact h1
theorem stepStruct_ok (hG : G.Ok) (h : stepStruct G n o S = some S') : ValOk G w0 O0 n o S S' := by
  unfold stepStruct at h
  split at h
  · rename_i t parts hop
    split at h
    · rename_i ti fs ps hI hU hps
      split at h
      · rename_i pl hpl
        obtain ⟨cs, h1, h2⟩ := Option.bind_eq_some_iff.1 h
        refine .of fun a w hS => ?_
        obtain ⟨info, z, i1, i2, i3, i4, i5, _⟩ := hG.i _ _ hI
        have hz : ∀ βv β, Holds S βv β a.tmps [] w → ∃ outv, Instr.fill (fun i => pl[i]?) z.cells (parts.toList.map fun p => (p.1, a.eval p.2)) = some outv ∧ Acs (AcRel S.F S.hole βv β) cs outv.toList := fun βv β hH => by
          obtain ⟨outv, g1, g2, _⟩ := fillAC_rel (normP_rel (pl := pl) (zero := ti.zero) (parts_rel hH hps)) (zero_rel i5) h1
          exact ⟨outv, g1, g2⟩
        obtain ⟨βv, β, hH, _⟩ := hS.holds
        obtain ⟨outv, g1, g2⟩ := hz βv β hH
        refine ⟨.agg outv, ?_, hS.value (av := .agg cs) (fun βv' β' hH' => ?_) h2⟩
        · have hb : G.P.built t (parts.map fun (i, x) => (i, a.eval x)).toList = some outv := by
            simp only [Program.built, i1, hG.u _ _ hU, i4, places_run hG hpl]
            simpa using g1
          simp only [execOp, hop, Sem.run_bind, run_build w t _ outv hb, Result.andThen_ok]
          rfl
        · obtain ⟨outv', g3, g4⟩ := hz βv' β' hH'
          rw [g1] at g3
          cases g3
          exact ⟨outv.toList, by simp, g4⟩
      · cases h
    · cases h
  · cases h
end
end Go.Proofs.YtnceiegngfpmkaaAm
namespace Go.Proofs.YtnceiegngfpmkaaAm
set_option linter.unusedVariables false
set_option linter.unusedSimpArgs false

def modeOf : List Cell → Mode
  | [] => .full
  | .rows .full _ _ :: _ => .full
  | .rows m _ _ :: _ => .own m
  | _ :: cs => modeOf cs
theorem modeOf_own : ∀ cs, (modeOf cs).isOwn = true
  | [] => rfl
  | .rows .full _ _ :: _ => rfl
  | .rows .sh _ _ :: _ => rfl
  | .rows (.own _) _ _ :: _ => rfl
  | .v _ :: cs => modeOf_own cs
  | .ref _ :: cs => modeOf_own cs
  | .dead :: cs => modeOf_own cs
def modesOk (m : Mode) (cs : List Cell) : Bool := cs.all fun c => match c with
  | .rows m' _ _ => decide (m' = m.next)
  | _ => true
/-- The variable r is a row now. -/
def St.varRow (S : St) (n r : Nat) (dst : Option Tmp) (τ : Ty) (k : Nat) : Option St :=
  match S.F.get r with
  | some ⟨true, cs⟩ => if S.hole = none ∧ noRefs S.F r = true ∧ 0 < k ∧ 0 < τ.size ∧ modesOk (modeOf cs) cs = true then (rowsOf (modeOf cs) τ k cs).bind fun l => (S.dropRoot r).newRow n r dst (modeOf cs) τ l else none
  | _ => none
theorem put_put (a : Act) (d : Tmp) (u v : Value) : (a.put (some d) u).put (some d) v = a.put (some d) v := by
  simp only [Act.put, Array.setIfInBounds_setIfInBounds]
section
variable {G : Ctx} {w0 : World} {O0 : Own0} {n r : Nat} {S S1 S' : St} {o : Oper}
theorem varRow_sim {a : Act} {w : World} {d : Tmp} {τ : Ty} {k : Nat} {b : Nat} (hS : Sim w0 O0 n S (a.put (some d) (.pointer (some ⟨b, 0, none⟩))) w) (hd : look S.env d = some (.c (.ptr (.cell r 0)))) (hdn : d < n) (hn : a.tmps.size = n)
    (h : S.varRow n r (some d) τ k = some S') : Sim w0 O0 n S' (a.put (some d) (.slice (some ⟨b, 0, none⟩) k k)) w := by
  unfold St.varRow at h
  split at h
  · rename_i cs hR
    split at h
    · rename_i hc
      obtain ⟨c1, c2, c3, c4, c5⟩ := hc
      obtain ⟨l, hl, h⟩ := Option.bind_eq_some_iff.1 h
      obtain ⟨βv, β, hH, hO, hT⟩ := hS.holds
      have hb : βv r = b := by
        have := hH.env d _ hd
        obtain ⟨_, e⟩ := this
        have e2 : (a.put (some d) (.pointer (some ⟨b, 0, none⟩))).tmps.getD d undef = .pointer (some ⟨b, 0, none⟩) := by simp [Act.put, hn, hdn]
        rw [e2] at e
        simp only [Value.pointer.injEq, Option.some.injEq, Pl.addr, Addr.mk.injEq] at e
        exact e.1.symm
      obtain ⟨γ, T, hG, ht⟩ := rowOfVar hH c1 hR hl (modeOf_own cs) c2 c3 c4 (fun j m' τ' l' hj => by
        have := List.all_eq_true.1 c5 _ (List.mem_of_getElem? hj)
        simpa using this)
      have hlen := (rowsOf_spec hl).1
      obtain ⟨β', k1, k2, k3, k4, k5⟩ := newRow_holds (u := .slice (some ⟨b, 0, none⟩) k k) T.holds hS.tmps h hG (fun b hb => (T.d1 b hb).2) (fun b hb => (T.d2 b hb).2)
        (by rw [ht, hb, hlen]; exact ⟨_, k, rfl, by simp, by simp⟩) (fun q0 e => by simp only [St.dropRoot, c1] at e; cases e)
      rw [put_put] at k1 k3 k4
      refine ⟨⟨βv, β', k1, fun b hb => ?_, fun b hb => ?_⟩, hS.frame, hS.size, hS.os, hS.tape, hS.output, k4.trans hS.defers, k3⟩
      · rcases k2 b hb with hb | hb
        · exact hO b (T.own b hb)
        · exact hO b (T.d1 b hb).1
      · rcases k5 b hb with hb | hb
        · exact hT b (T.sh b hb)
        · exact hT b (T.d2 b hb).1
    · cases h
  · cases h
theorem range_rep {α : Type} [Inhabited α] (zs : List α) : ∀ k, (List.range (k * zs.length)).map (fun j => zs[j % zs.length]!) = (List.replicate k zs).flatten
  | 0 => by simp
  | k + 1 => by
    rw [Nat.add_mul, Nat.one_mul, List.range_add, List.map_append, range_rep zs k, List.replicate_succ', List.flatten_append]
    congr 1
    apply List.ext_getElem
    · simp
    · intro j h1 h2
      simp only [List.length_map, List.length_range] at h1
      simp only [List.getElem_map, List.getElem_range, List.flatten_cons, List.flatten_nil, List.append_nil]
      rw [Nat.add_comm, Nat.add_mul_mod_self_right, Nat.mod_eq_of_lt h1]
      simp [h1]
theorem acs_rep {R : AC → Value → Prop} {zs : List AC} {vs : List Value} (h : Acs R zs vs) : ∀ k, Acs R (List.replicate k zs).flatten (List.replicate k vs).flatten
  | 0 => .nil
  | k + 1 => by
    simp only [List.replicate_succ, List.flatten_cons]
    exact h.app (acs_rep h k)
theorem ok_one {F : Forest} {hh : Option Pl} {βv : Nat → Nat} {β : Layout} {cs : List AC} {vs : List Value} (h : Acs (AcRel F hh βv β) cs vs) (hok : cs.all okAC = true) : ∀ v ∈ vs, v.oneCell' = true := fun v hv => by
  obtain ⟨i, hi⟩ := List.mem_iff_getElem?.1 hv
  have hlen := h.length
  have hi2 : i < cs.length := by have := (List.getElem?_eq_some_iff.1 hi).1; omega
  obtain ⟨v', e1, e2⟩ := h.get (List.getElem?_eq_getElem hi2)
  rw [hi] at e1
  cases e1
  have hk := List.all_eq_true.1 hok cs[i] (List.getElem_mem hi2)
  refine one_of_rel e2 ?_ ?_
  · intro e; rw [e] at hk; simp [okAC] at hk
  · intro u e; rw [e] at hk; exact hk
/-- A slice that is written out. -/
def stepSlit (G : Ctx) (n r : Nat) (o : Oper) (S : St) : Option St :=
  match o.op, o.dst with
  | .buildSlice t len parts, some d => match G.U t with
    | some (.slice e) => match G.I e with
      | some ti => match ti.ty with
        | some τ => if d < n ∧ len * ti.size ≤ 16777216 ∧ 0 < len * ti.size then
            (S.parts parts.toList).bind fun ps => (fillAC (fun i => some (i * ti.size, ti.size)) (List.replicate len ti.zero).flatten (ps.map fun p => (p.1, List.zipWith normAC ti.zero p.2))).bind fun cs =>
              if cs.all okAC = true ∧ ps.all (fun p => decide (p.2.length ≤ ti.zero.length)) = true then (S.newVar n r (len * ti.size) (some d) cs).bind fun S1 => S1.varRow n r (some d) τ len else none
          else none
        | none => none
      | none => none
    | _ => none
  | _, _ => none
theorem zipParts_rel {F : Forest} {hh : Option Pl} {βv : Nat → Nat} {β : Layout} {zero : List AC} : ∀ {ps : List (Nat × List AC)} {vs : List (Nat × Value)}, ps.all (fun p => decide (p.2.length ≤ zero.length)) = true → PartsRel (AcRel F hh βv β) ps vs →
    PartsRel (AcRel F hh βv β) (ps.map fun p => (p.1, List.zipWith normAC zero p.2)) vs
  | _, _, _, .nil => .nil
  | (i, acs) :: ps, _, hl, .cons h1 t => by
    simp only [List.all_cons, Bool.and_eq_true, decide_eq_true_eq] at hl
    exact .cons (zip_norm_any hl.1 h1) (zipParts_rel hl.2 t)
theorem newVar_ptr {size d : Nat} {cs : List AC} (h : S.newVar n r size (some d) cs = some S') : look S'.env d = some (.c (.ptr (.cell r 0))) := by
  unfold St.newVar at h
  split at h
  · obtain ⟨S2, h2, h⟩ := Option.bind_eq_some_iff.1 h
    split at h
    · simp only [St.bind] at h
      split at h
      · cases h; simp [look]
      · cases h
    · cases h
  · cases h
theorem stepSlit_ok (hG : G.Ok) (h : stepSlit G n r o S = some S') : OpOk G w0 O0 n o S S' := by
  unfold stepSlit at h
  split at h
  · rename_i t len parts d hop hdst
    split at h
    · rename_i e hU
      split at h
      · rename_i ti hI
        split at h
        · rename_i τ hty
          split at h
          · rename_i hc
            obtain ⟨c1, c2, c3⟩ := hc
            obtain ⟨ps, hps, h⟩ := Option.bind_eq_some_iff.1 h
            obtain ⟨cs, hcs, h⟩ := Option.bind_eq_some_iff.1 h
            split at h
            · rename_i hok
              obtain ⟨hok, hps2⟩ := hok
              obtain ⟨S1, hS1, h⟩ := Option.bind_eq_some_iff.1 h
              refine .ofRun fun a w hS => ?_
              obtain ⟨info, z, i1, i2, i3, i4, i5, i6, _, _, _, i9⟩ := hG.i _ _ hI
              have hzs : (((Array.range (len * info.size)).map (z.cells[· % z.cells.size]!))).toList = (List.replicate len z.cells.toList).flatten := by
                have := range_rep z.cells.toList len
                rw [← this]
                simp only [Array.toList_map, Array.toList_range, Array.length_toList, i6, i2]
                congr 1
                funext j
                rw [← i6]
                exact Array.getElem!_toList.symm
              have hz : ∀ βv β, Holds S βv β a.tmps [] w → ∃ outv, Instr.fill (fun i => some (i * info.size, info.size)) ((Array.range (len * info.size)).map (z.cells[· % z.cells.size]!)) (parts.toList.map fun p => (p.1, a.eval p.2)) = some outv ∧ Acs (AcRel S.F S.hole βv β) cs outv.toList := fun βv β hH => by
                obtain ⟨outv, g1, g2, _⟩ := fillAC_rel (cs := (Array.range (len * info.size)).map (z.cells[· % z.cells.size]!)) (zipParts_rel hps2 (parts_rel hH hps)) (by rw [hzs]; exact acs_rep (zero_rel i5) len) hcs
                rw [← i2] at g1
                exact ⟨outv, g1, g2⟩
              obtain ⟨βv, β, hH, _⟩ := hS.holds
              obtain ⟨outv, g1, g2⟩ := hz βv β hH
              have hrun := run_buildSlice (P := G.P) w t e len (parts.map fun (i, x) => (i, a.eval x)) outv info z (hG.u _ _ hU) i1 i4 (by rw [i2]; omega) (by rw [i2]; omega) (by simpa using g1)
              have s1 := newVar_sim (t := e) (w := w) hS1 hS (fun βv' β' hH' => by
                obtain ⟨outv', g3, g4⟩ := hz βv' β' hH'
                rw [g1] at g3
                cases g3
                exact g4) (ok_one g2 hok)
              refine ⟨_, _, ?_, by rw [hdst]; exact varRow_sim s1 (newVar_ptr hS1) c1 hS.tmps h⟩
              simp only [execOp, hop, Sem.run_bind, hrun, Result.andThen_ok]
              rfl
            · cases h
          · cases h
        · cases h
      · cases h
    · cases h
  · cases h
end
end Go.Proofs.YtnceiegngfpmkaaAm
namespace Go.Proofs.YtnceiegngfpmkaaAm
set_option linter.unusedVariables false
set_option linter.unusedSimpArgs false

theorem zero_cell (m : Mode) : ∀ (τ : Ty) (o : Nat) (c : Cell), (toCells m τ (dflt τ))[o]? = some c → ∃ x, (zeroAC τ)[o]? = some x ∧ ((∃ v, x = .lit v ∧ c = .v v) ∨ ∃ a, x = .nil a ∧ c = .rows m a [])
  | .int k, o, c, h => by
    simp only [toCells, zeroAC, dflt] at h ⊢
    cases o with
    | zero => simp only [List.getElem?_cons_zero, Option.some.injEq] at h ⊢; exact ⟨_, rfl, .inl ⟨_, rfl, h.symm⟩⟩
    | succ o => simp at h
  | .bool, o, c, h => by
    simp only [toCells, zeroAC, dflt] at h ⊢
    cases o with
    | zero => simp only [List.getElem?_cons_zero, Option.some.injEq] at h ⊢; exact ⟨_, rfl, .inl ⟨_, rfl, h.symm⟩⟩
    | succ o => simp at h
  | .str, o, c, h => by
    simp only [toCells, zeroAC, dflt] at h ⊢
    cases o with
    | zero => simp only [List.getElem?_cons_zero, Option.some.injEq] at h ⊢; exact ⟨_, rfl, .inl ⟨_, rfl, h.symm⟩⟩
    | succ o => simp at h
  | .sl a, o, c, h => by
    simp only [toCells, zeroAC, dflt] at h ⊢
    cases o with
    | zero => simp only [List.getElem?_cons_zero, Option.some.injEq] at h ⊢; exact ⟨_, rfl, .inr ⟨_, rfl, h.symm⟩⟩
    | succ o => simp at h
  | .unit, o, c, h => by simp [toCells] at h
  | .pair a b, o, c, h => by
    have la : (toCells m a (dflt a)).length = a.size := toCells_length m a _
    have lz : (zeroAC a).length = a.size := zlen a
    simp only [toCells, zeroAC, dflt] at h ⊢
    by_cases ho : o < a.size
    · rw [List.getElem?_append_left (by omega)] at h ⊢
      exact zero_cell m a o c h
    · rw [List.getElem?_append_right (by omega)] at h ⊢
      rw [la] at h
      rw [lz]
      exact zero_cell m b _ c h
  | .rose a, o, c, h => by
    have la : (toCells m a (dflt a)).length = a.size := toCells_length m a _
    have lz : (zeroAC a).length = a.size := zlen a
    simp only [toCells, zeroAC, dflt, Rose.val, Rose.kids] at h ⊢
    by_cases ho : o < a.size
    · rw [List.getElem?_append_left (by omega)] at h ⊢
      exact zero_cell m a o c h
    · rw [List.getElem?_append_right (by omega)] at h ⊢
      rw [la] at h
      rw [lz]
      generalize o - a.size = k at h ⊢
      cases k with
      | zero => simp only [List.getElem?_cons_zero, Option.some.injEq] at h ⊢; exact ⟨_, rfl, .inr ⟨_, rfl, h.symm⟩⟩
      | succ o => simp at h
where
  zlen : ∀ τ : Ty, (zeroAC τ).length = τ.size
    | .int _ | .bool | .str | .sl _ | .unit => rfl
    | .pair a b => by simp [zeroAC, Ty.size, zlen a, zlen b]
    | .rose a => by simp [zeroAC, Ty.size, zlen a]
/-- The layout behind an element that is zero. -/
def zeroLay (τ : Ty) (o : Nat) : Layout := fun _ => ⟨0, 0, 0, match (toCells .full τ (dflt τ))[o]? with | some (.rows _ a _) => a.size | _ => 0⟩
theorem flat_get {α : Type} (zs : List α) : ∀ (k i o : Nat), i < k → o < zs.length → (List.replicate k zs).flatten[i * zs.length + o]? = zs[o]?
  | 0, i, o, hi, _ => by omega
  | k + 1, 0, o, _, ho => by
    simp only [List.replicate_succ, List.flatten_cons, Nat.zero_mul, Nat.zero_add]
    rw [List.getElem?_append_left ho]
  | k + 1, i + 1, o, hi, ho => by
    simp only [List.replicate_succ, List.flatten_cons]
    rw [List.getElem?_append_right (by rw [Nat.add_mul]; omega)]
    rw [← flat_get zs k i o (by omega) ho]
    congr 1
    rw [Nat.add_mul]; omega
theorem zero_elems {G : Ctx} (hG : G.Ok) {e : TypeId} {ti : TI} {τ : Ty} (hI : G.I e = some ti) (hty : ti.ty = some τ) {info : TypeInfo} {z : Value} (i1 : G.P.info? e = some info) (i4 : info.zero = some z) (βv : Nat → Nat) (w : World) (k : Nat) :
    Elems βv w .full τ (List.replicate k (dflt τ)) (List.replicate k z.cells.toList).flatten (fun _ o => zeroLay τ o) ∧ ∀ o c b, (toCells .full τ (dflt τ))[o]? = some c → ¬ OwnB (solo c) none βv (zeroLay τ o) b ∧ ¬ ShB (solo c) none (zeroLay τ o) b := by
  obtain ⟨info', z', j1, i2, i3, j4, i5, i6, i7, _, _, i9⟩ := hG.i _ _ hI
  rw [i1] at j1; cases j1
  rw [i4] at j4; cases j4
  obtain ⟨t1, t2, t3⟩ := i9 τ hty
  have hzl : z.cells.toList.length = τ.size := by rw [Array.length_toList, i6, t2]
  have sub : ∀ {i o c}, i < (List.replicate k (dflt τ)).length → (Cell.rows .full τ (List.replicate k (dflt τ))).sub i o = some c → (toCells .full τ (dflt τ))[o]? = some c := fun {i o c} hi hs => by
    simp only [List.length_replicate] at hi
    have : (List.replicate k (dflt τ)).getD i (dflt τ) = dflt τ := by simp [List.getD_eq_getElem?_getD, List.getElem?_replicate, hi]
    simp only [Cell.sub, this] at hs
    exact hs
  have cellv : ∀ {o c}, (toCells .full τ (dflt τ))[o]? = some c → ∃ u, z.cells.toList[o]? = some u ∧ ((c = Cell.v u ∧ Value.oneCell' u = true) ∨ ∃ a, c = Cell.rows .full a [] ∧ u = Value.slice none 0 0) := fun {o c} h => by
    obtain ⟨x, hx, hc⟩ := zero_cell .full τ o c h
    have e1 := congrArg (fun l : List (Option Value) => l[o]?) i5
    simp only [List.getElem?_map, t1, hx, Option.map_some] at e1
    obtain ⟨u, hu, e2⟩ := Option.map_eq_some_iff.1 e1
    refine ⟨u, hu, ?_⟩
    rcases hc with ⟨v, rfl, rfl⟩ | ⟨a, rfl, rfl⟩
    · simp only [zeroVal, Option.some.injEq] at e2
      subst e2
      exact .inl ⟨rfl, i7 _ (by simpa using List.mem_of_getElem? hu)⟩
    · simp only [zeroVal, Option.some.injEq] at e2
      exact .inr ⟨a, rfl, e2⟩
  have solos : ∀ {o c}, (toCells .full τ (dflt τ))[o]? = some c → Lays (solo c) none βv (zeroLay τ o) w ∧ ∀ b, ¬ OwnB (solo c) none βv (zeroLay τ o) b ∧ ¬ ShB (solo c) none (zeroLay τ o) b := fun {o c} h => by
    obtain ⟨u, _, hc⟩ := cellv h
    rcases hc with ⟨rfl, _⟩ | ⟨a, rfl, _⟩
    · have : zeroLay τ o = fun _ => ⟨0, 0, 0, 0⟩ := by unfold zeroLay; rw [h]
      rw [this]
      exact solo_bare rfl (fun _ _ _ e => by cases e) βv w
    · have : zeroLay τ o = fun _ => ⟨0, 0, 0, a.size⟩ := by unfold zeroLay; rw [h]
      rw [this]
      exact solo_nil .full a βv w
  refine ⟨⟨by rw [List.length_flatten, List.map_replicate, List.sum_replicate_nat, List.length_replicate, hzl], fun v hv => ?_, fun i o c hi hs => ?_, fun i o c hi hs => (solos (sub hi hs)).1, fun i o c i' o' c' b hi hs hi' hs' hb _ => ((solos (sub hi hs)).2 b).1 hb |>.elim, fun i o c i' o' c' b hi hs hi' hs' hb _ => ((solos (sub hi hs)).2 b).2 hb |>.elim⟩, fun o c b h => (solos h).2 b⟩
  · obtain ⟨l, hl, hv⟩ := List.mem_flatten.1 hv
    rw [List.eq_of_mem_replicate hl] at hv
    exact i7 v (by simpa using hv)
  · have h := sub hi hs
    obtain ⟨u, hu, hc⟩ := cellv h
    simp only [List.length_replicate] at hi
    refine ⟨u, ?_, ?_⟩
    · rw [← hzl, flat_get _ _ _ _ hi (List.getElem?_eq_some_iff.1 hu).1]; exact hu
    · rcases hc with ⟨rfl, h1⟩ | ⟨a, rfl, rfl⟩
      · exact ⟨rfl, h1⟩
      · have : zeroLay τ o top = ⟨0, 0, 0, a.size⟩ := by unfold zeroLay; rw [h]
        rw [this]
        exact ⟨none, 0, rfl, rfl, .inl rfl⟩
/-- A slice that is made. -/
def stepMake (G : Ctx) (n r : Nat) (o : Oper) (S : St) : Option St :=
  match o.op with
  | .makeSlice t len cap => match G.U t with
    | some (.slice e) => match G.I e with
      | some ti => match ti.ty with
        | some τ => match S.lit len, S.lit cap with
          | some (.int _ l), some (.int _ c) =>
            if S.hole = none ∧ 0 ≤ l ∧ l ≤ c ∧ c.toNat * ti.size ≤ 16777216 ∧ (ti.bytes : Int) * c ≤ 281474976710656 ∧ c ≤ 9223372036854775807 then S.newRow n r o.dst .full τ (List.replicate l.toNat (dflt τ)) else none
          | _, _ => none
        | none => none
      | none => none
    | _ => none
  | _ => none
section
variable {G : Ctx} {w0 : World} {O0 : Own0} {n r : Nat} {S S1 S' : St} {o : Oper}
theorem stepMake_ok (hG : G.Ok) (h : stepMake G n r o S = some S') : OpOk G w0 O0 n o S S' := by
  unfold stepMake at h
  split at h
  · rename_i t len cap hop
    split at h
    · rename_i e hU
      split at h
      · rename_i ti hI
        split at h
        · rename_i τ hty
          split at h
          · rename_i kl l kc c hl hc
            split at h
            · rename_i hcond
              obtain ⟨c0, c1, c2, c3, c4, c5⟩ := hcond
              refine .ofRun fun a w hS => ?_
              obtain ⟨info, z, i1, i2, i3, i4, i5, i6, i7, _, _, i9⟩ := hG.i _ _ hI
              obtain ⟨t1, t2, t3⟩ := i9 τ hty
              have hrun := run_makeSlice (P := G.P) (w := w) t e info z (hG.u _ _ hU) i1 i4 kl kc l c c1 c2 (by rw [i2]; exact c3) (by rw [i3]; exact c4) c5
              have el := hS.lit hl
              have ec := hS.lit hc
              obtain ⟨βv, β, hH, hO, hT⟩ := hS.holds
              have hL := hH.lays
              rw [c0] at hL
              have hlt : ∀ {b}, OwnB S.F S.hole βv β b ∨ ShB S.F S.hole β b → b < w.heap.size := fun {b} hb => by
                rw [c0] at hb
                exact hL.lt hb
              have hzl : z.cells.toList.length = τ.size := by rw [Array.length_toList, i6, t2]
              have isz : info.size = τ.size := by rw [i2, t2]
              let w' := w.alloc (.cells (madeCells z.cells (c.toNat * info.size)) e)
              have hnew : w'.heap[w.heap.size]? = some (.cells (madeCells z.cells (c.toNat * info.size)) e (0, 0)) := heap_alloc_new w (.cells (madeCells z.cells (c.toNat * info.size)) e)
              have hH' : Holds S βv β a.tmps [] w' := ⟨by rw [c0]; exact hL.alloc _, hH.env, hH.aux⟩
              obtain ⟨E, hno⟩ := zero_elems hG hI hty i1 i4 βv w' l.toNat
              have sub : ∀ {i o c}, i < (List.replicate l.toNat (dflt τ)).length → (Cell.rows .full τ (List.replicate l.toNat (dflt τ))).sub i o = some c → (toCells .full τ (dflt τ))[o]? = some c := fun {i o c} hi hs => by
                simp only [List.length_replicate] at hi
                have : (List.replicate l.toNat (dflt τ)).getD i (dflt τ) = dflt τ := by simp [List.getD_eq_getElem?_getD, List.getElem?_replicate, hi]
                simp only [Cell.sub, this] at hs
                exact hs
              have noO : ∀ b, ¬ OwnE βv .full τ (List.replicate l.toNat (dflt τ)) (fun _ o => zeroLay τ o) b := fun b ⟨i, o, c, hi, hs, hb⟩ => (hno o c b (sub hi hs)).1 hb
              have noS : ∀ b, ¬ ShE .full τ (List.replicate l.toNat (dflt τ)) (fun _ o => zeroLay τ o) b := fun b ⟨i, o, c, hi, hs, hb⟩ => (hno o c b (sub hi hs)).2 hb
              have hmc : (madeCells z.cells (c.toNat * info.size)).toList = (List.replicate c.toNat z.cells.toList).flatten := by
                have := range_rep z.cells.toList c.toNat
                rw [← this]
                simp only [madeCells, Array.toList_map, Array.toList_range, Array.length_toList, i6, i2]
                congr 1
                funext j
                rw [← i6]
                exact Array.getElem!_toList.symm
              have hle : l.toNat ≤ c.toNat := by omega
              have hpre : (List.replicate c.toNat z.cells.toList).flatten = (List.replicate l.toNat z.cells.toList).flatten ++ (List.replicate (c.toNat - l.toNat) z.cells.toList).flatten := by
                rw [← List.flatten_append, List.replicate_append_replicate]
                congr 2
                omega
              obtain ⟨g1, g2, g3⟩ := E.row (L := ⟨w.heap.size, 0, c.toNat, τ.size⟩) rfl (by simpa using hle) (fun _ _ => ⟨_, e, hnew, by rw [size_madeCells, isz]; simp⟩)
                (fun j v hj => by
                  rw [Nat.zero_add, cell_of_row _ _ _ _ _ _ hnew, ← Array.getElem?_toList, hmc, hpre]
                  rw [List.getElem?_append_left (List.getElem?_eq_some_iff.1 hj).1]
                  exact hj)
                (fun _ => noO _) (fun _ _ => noS _)
              have own1 : ∀ b, OwnB (solo (.rows .full τ (List.replicate l.toNat (dflt τ)))) none βv (rowLay ⟨w.heap.size, 0, c.toNat, τ.size⟩ (fun _ o => zeroLay τ o)) b → b = w.heap.size := fun b hb => by
                rcases g2 b hb with ⟨_, _, e⟩ | hb
                · exact e
                · exact absurd hb (noO b)
              obtain ⟨β', k1, k2, k3, k4, k5⟩ := newRow_holds (u := .slice (some ⟨w.heap.size, 0, none⟩) l.toNat c.toNat) hH' hS.tmps h g1
                (fun b hb => by
                  rw [own1 b hb]
                  exact ⟨fun h => absurd (hlt (.inl h)) (Nat.lt_irrefl _), fun h => absurd (hlt (.inr h)) (Nat.lt_irrefl _)⟩)
                (fun b hb => by
                  rcases g3 b hb with ⟨hm, _⟩ | hb
                  · cases hm
                  · exact absurd hb (noS b))
                (by
                  have e0 := rowLay_app ⟨w.heap.size, 0, c.toNat, τ.size⟩ (fun _ o => zeroLay τ o) []
                  simp only [Pl.app] at e0
                  rw [e0]
                  exact ⟨some ⟨w.heap.size, 0, none⟩, c.toNat, by rw [List.length_replicate], rfl, .inr (by simp)⟩)
                (fun q0 e => by rw [c0] at e; cases e)
              have h1 : w0.heap.size ≤ w'.heap.size := by
                have h1 : w'.heap.size = w.heap.size + 1 := by simp [w']
                have := hS.size
                omega
              refine ⟨.slice (some ⟨w.heap.size, 0, none⟩) l.toNat c.toNat, w', ?_, ⟨⟨βv, β', k1, fun b hb => ?_, fun b hb => ?_⟩, fun b hb hn => ?_, h1, hS.os, hS.tape, hS.output, k4.trans hS.defers, k3⟩⟩
              · simp only [execOp, hop, Sem.run_bind, el, ec, hrun, Result.andThen_ok]
                rfl
              · rcases k2 b hb with hb | hb
                · exact hO b hb
                · rw [own1 b hb]; exact .inr hS.size
              · rcases k5 b hb with hb | hb
                · exact hT b hb
                · rcases g3 b hb with ⟨hm, _⟩ | hb
                  · cases hm
                  · exact absurd hb (noS b)
              · rw [heap_alloc_old w _ b (by have := hS.size; omega)]
                exact hS.frame b hb hn
            · cases h
          · cases h
        · cases h
      · cases h
    · cases h
  · cases h
end
end Go.Proofs.YtnceiegngfpmkaaAm
namespace Go.Proofs.YtnceiegngfpmkaaAm
set_option linter.unusedVariables false
set_option linter.unusedSimpArgs false

def stepEmpty (G : Ctx) (n r : Nat) (o : Oper) (S : St) : Option St :=
  match o.op with
  | .buildSlice t 0 parts => match G.U t with
    | some (.slice e) => match G.I e with
      | some ti => match ti.ty with
        | some τ => if parts.toList.isEmpty ∧ S.hole = none then S.newRow n r o.dst .full τ [] else none
        | none => none
      | none => none
    | _ => none
  | _ => none
section
variable {G : Ctx} {w0 : World} {O0 : Own0} {n r : Nat} {S S1 S' : St} {o : Oper}
theorem stepEmpty_ok (hG : G.Ok) (h : stepEmpty G n r o S = some S') : OpOk G w0 O0 n o S S' := by
  unfold stepEmpty at h
  split at h
  · rename_i t parts hop
    split at h
    · rename_i e hU
      split at h
      · rename_i ti hI
        split at h
        · rename_i τ hty
          split at h
          · rename_i hc
            obtain ⟨hp, c0⟩ := hc
            have hp : parts = #[] := by simpa using hp
            subst hp
            refine .ofRun fun a w hS => ?_
            obtain ⟨info, z, i1, i2, i3, i4, i5, i6, i7, _, _, i9⟩ := hG.i _ _ hI
            have hrun : (Instr.buildSlice t 0 #[]).run G.P w = .ok (.slice (some ⟨w.heap.size, 0, none⟩) 0 0) (w.alloc (.cells #[] e)) := by
              simp [Instr.buildSlice, run_underlying (hG.u _ _ hU), sizeOf, typeInfo, i1, newRow, Instr.fill, Array.range_zero']
            obtain ⟨βv, β, hH, hO, hT⟩ := hS.holds
            have hL := hH.lays
            rw [c0] at hL
            have hH' : Holds S βv β a.tmps [] (w.alloc (.cells #[] e)) := ⟨by rw [c0]; exact hL.alloc _, hH.env, hH.aux⟩
            obtain ⟨g1, g2⟩ := solo_nil .full τ βv (w.alloc (.cells #[] e))
            obtain ⟨β', k1, k2, k3, k4, k5⟩ := newRow_holds (u := .slice (some ⟨w.heap.size, 0, none⟩) 0 0) hH' hS.tmps h g1 (fun b hb => absurd hb (g2 b).1) (fun b hb => absurd hb (g2 b).2)
              ⟨some ⟨w.heap.size, 0, none⟩, 0, rfl, rfl, .inl rfl⟩ (fun q0 e => by rw [c0] at e; cases e)
            have h1 : w0.heap.size ≤ (w.alloc (.cells #[] e)).heap.size := by
              have h1 : (w.alloc (.cells #[] e)).heap.size = w.heap.size + 1 := by simp
              have := hS.size
              omega
            refine ⟨.slice (some ⟨w.heap.size, 0, none⟩) 0 0, _, ?_, ⟨⟨βv, β', k1, fun b hb => ?_, fun b hb => ?_⟩, fun b hb hn => ?_, h1, hS.os, hS.tape, hS.output, k4.trans hS.defers, k3⟩⟩
            · have e0 : (Array.map (fun x : Nat × Operand => (x.1, a.eval x.2)) #[]) = #[] := by simp
              simp only [execOp, hop, Sem.run_bind, e0, hrun, Result.andThen_ok]
              rfl
            · rcases k2 b hb with hb | hb
              · exact hO b hb
              · exact absurd hb (g2 b).1
            · rcases k5 b hb with hb | hb
              · exact hT b hb
              · exact absurd hb (g2 b).2
            · rw [heap_alloc_old w _ b (by have := hS.size; omega)]
              exact hS.frame b hb hn
          · cases h
        · cases h
      · cases h
    · cases h
  · cases h

def first : List (Option St) → Option St
  | [] => none
  | some S :: _ => some S
  | none :: l => first l
theorem first_ok {P : St → Prop} : ∀ {l : List (Option St)}, first l = some S' → (∀ x ∈ l, x = some S' → P S') → P S'
  | [], h, _ => by cases h
  | some S1 :: l, h, hp => by simp only [first, Option.some.injEq] at h; subst h; exact hp _ (by simp) rfl
  | none :: l, h, hp => first_ok (l := l) h fun x hx => hp x (by simp [hx])
/-- Operations that leave memory as it is. -/
def stepVal (G : Ctx) (n : Nat) (o : Oper) (S : St) : Option St :=
  match o.op with
  | .move _ | .assign _ | .pick _ _ _ | .extract _ _ | .nilCheck _ | .makeFunc _ _ _ => stepMove n o S
  | .fieldAddr _ _ _ => stepField G n o S
  | .load _ _ => stepLoad G n o S
  | .build _ _ => stepStruct G n o S
  | .indexAddr _ _ _ => stepIndex G n o S
  | .slice _ _ _ _ _ => first [stepCut G n o S, stepLit G n o S]
  | .call c => match c.callee with
    | .builtin .len => first [stepLen G n o S, stepLit G n o S]
    | .builtin .append => none
    | .builtin _ => stepLit G n o S
    | _ => none
  | _ => stepLit G n o S
/-- One operation; r: the number of a root that it may make. -/
def stepOp (G : Ctx) (n r : Nat) (o : Oper) (S : St) : Option St :=
  match o.op with
  | .store _ _ _ => stepStore G n o S
  | .alloc _ | .box _ _ => stepAlloc G n r o S
  | .buildSlice _ 0 _ => stepEmpty G n r o S
  | .buildSlice _ _ _ => stepSlit G n r o S
  | .makeSlice _ _ _ => stepMake G n r o S
  | .call c => match c.callee with
    | .builtin .append => stepAppend G n r o S
    | _ => stepVal G n o S
  | _ => stepVal G n o S
theorem stepVal_ok (hG : G.Ok) (h : stepVal G n o S = some S') : ValOk G w0 O0 n o S S' := by
  unfold stepVal at h
  split at h
  all_goals first
    | exact stepMove_ok h
    | exact stepField_ok hG h
    | exact stepLoad_ok hG h
    | exact stepStruct_ok hG h
    | exact stepIndex_ok hG h
    | exact stepLit_ok h
    | exact first_ok h fun x hx e => by
        simp only [List.mem_cons, List.not_mem_nil, or_false] at hx
        rcases hx with rfl | rfl
        · exact stepCut_ok hG e
        · exact stepLit_ok e
    | (split at h <;> first
        | exact stepLit_ok h
        | cases h; done
        | exact first_ok h fun x hx e => by
            simp only [List.mem_cons, List.not_mem_nil, or_false] at hx
            rcases hx with rfl | rfl
            · exact stepLen_ok hG e
            · exact stepLit_ok e)
theorem stepOp_ok (hG : G.Ok) (h : stepOp G n r o S = some S') : OpOk G w0 O0 n o S S' := by
  unfold stepOp at h
  split at h
  all_goals first
    | exact stepStore_ok hG h
    | exact stepAlloc_ok hG h
    | exact stepEmpty_ok hG h
    | exact stepSlit_ok hG h
    | exact stepMake_ok hG h
    | exact (stepVal_ok hG h).op
    | (split at h <;> first
        | exact stepAppend_ok hG h
        | exact (stepVal_ok hG h).op)
end
end Go.Proofs.YtnceiegngfpmkaaAm
namespace Go.Proofs.YtnceiegngfpmkaaAm
set_option linter.unusedVariables false

/-- What is read of an operation that guards others. -/
def boolOf : Value → Option Bool
  | .bool b => some b
  | _ => none
/-- Is the operation wanted? none: it is not known. -/
def guardOf (ops : Array Oper) (n : Nat) (S : St) : Option (Nat × Bool) → Option Bool
  | none => some true
  | some (j, want) => match (ops[j]?).bind (·.dst) with
    | none => some false
    | some d => if d < n then match look S.env d with
      | some (.c (.lit v)) => some (boolOf v == some want)
      | _ => none
      else none
/-- The operations, one behind the other. -/
def runList (n : Nat) (step : Nat → Oper → St → Option St) (ops : Array Oper) : Nat → List Oper → St → Option St
  | _, [], S => some S
  | r, o :: l, S => match guardOf ops n S o.guard with
    | some true => (step r o S).bind (runList n step ops (r + 1) l)
    | some false => (S.bind n o.dst (.c (.lit undef))).bind (runList n step ops (r + 1) l)
    | none => none
def runVal (G : Ctx) (n : Nat) (ops : Array Oper) : List Oper → St → Option St
  | [], S => some S
  | o :: l, S => match guardOf ops n S o.guard with
    | some true => (stepVal G n o S).bind (runVal G n ops l)
    | some false => (S.bind n o.dst (.c (.lit undef))).bind (runVal G n ops l)
    | none => none
/-- A step that does what the operations do. -/
def StepOk (G : Ctx) (n : Nat) (step : Nat → Oper → St → Option St) : Prop := ∀ w0 O0 r o S S', step r o S = some S' → OpOk G w0 O0 n o S S'
section
variable {G : Ctx} {w0 : World} {O0 : Own0} {n r : Nat} {S S1 S' : St} {o : Oper} {ops : Array Oper} {step : Nat → Oper → St → Option St}
theorem guardOf_ok {a : Act} {w : World} (hS : Sim w0 O0 n S a w) {g : Option (Nat × Bool)} {b : Bool} (h : guardOf ops n S g = some b) (o : Oper) (hg : o.guard = g) : Region.wanted o (yielded ops a.tmps) = b := by
  unfold Region.wanted
  rw [hg]
  cases g with
  | none => simp only [guardOf, Option.some.injEq] at h; exact h
  | some x =>
    obtain ⟨j, want⟩ := x
    simp only [guardOf] at h
    show (yielded ops a.tmps j == some want) = b
    unfold yielded
    split at h
    · rename_i hd
      simp only [Option.some.injEq] at h
      subst h
      rw [hd]; rfl
    · rename_i d hd
      split at h
      · rename_i hdn
        split at h
        · rename_i v hv
          simp only [Option.some.injEq] at h
          subst h
          obtain ⟨βv, β, hH, _⟩ := hS.holds
          have e := hH.env d _ hv
          have e : a.tmps.getD d undef = v := e
          rw [hd]
          have hlt : d < a.tmps.size := by rw [hS.tmps]; exact hdn
          have e2 : a.tmps[d]? = some v := by
            rw [Array.getElem?_eq_getElem hlt]
            simp only [Array.getD, hlt, dite_true] at e
            exact congrArg some e
          simp only [Option.bind_some, e2]
          cases v <;> rfl
        · cases h
      · cases h
theorem skip_sim {a : Act} {w : World} (hS : Sim w0 O0 n S a w) (h : S.bind n o.dst (.c (.lit undef)) = some S') : Sim w0 O0 n S' (a.put o.dst undef) w :=
  hS.value (av := .c (.lit undef)) (fun βv β hH => rfl) h
theorem runList_ok (hst : StepOk G n step) {Q : Exit → Act → World → Prop} : ∀ {l : List Oper} {r : Nat} {S S' : St} {a : Act} {w : World}, runList n step ops r l S = some S' → Sim w0 O0 n S a w → (∀ a' w', Sim w0 O0 n S' a' w' → Q .normal a' w') → wpList G.P ops Q l a w
  | [], r, S, S', a, w, h, hS, hQ => by simp only [runList, Option.some.injEq] at h; subst h; exact hQ _ _ hS
  | o :: l, r, S, S', a, w, h, hS, hQ => by
    simp only [runList] at h
    refine wpList_step fun K hK => ?_
    split at h
    · rename_i hg
      rw [guardOf_ok hS hg o rfl]
      obtain ⟨S1, h1, h2⟩ := Option.bind_eq_some_iff.1 h
      simp only [if_true]
      exact hst w0 O0 r o S S1 h1 a w K Q hS fun a' w' hS' => hK _ _ (runList_ok hst h2 hS' hQ)
    · rename_i hg
      rw [guardOf_ok hS hg o rfl]
      obtain ⟨S1, h1, h2⟩ := Option.bind_eq_some_iff.1 h
      simp only [Bool.false_eq_true, if_false]
      exact hK _ _ (runList_ok hst h2 (skip_sim hS h1) hQ)
    · cases h
theorem runVal_ok (hG : G.Ok) {Q : Act → Prop} : ∀ {l : List Oper} {S S' : St} {a : Act} {w : World}, runVal G n ops l S = some S' → Sim w0 O0 n S a w → (∀ a', Sim w0 O0 n S' a' w → Q a') → wpStill G.P ops w Q l a
  | [], S, S', a, w, h, hS, hQ => by simp only [runVal, Option.some.injEq] at h; subst h; exact hQ _ hS
  | o :: l, S, S', a, w, h, hS, hQ => by
    simp only [runVal] at h
    refine wpStill_step fun K hK => ?_
    split at h
    · rename_i hg
      rw [guardOf_ok hS hg o rfl]
      obtain ⟨S1, h1, h2⟩ := Option.bind_eq_some_iff.1 h
      simp only [if_true]
      obtain ⟨v, g1, g2⟩ := stepVal_ok hG h1 a w hS
      unfold Oper.still
      rw [g1, Oper.stillUpon_value]
      exact hK _ (runVal_ok hG h2 g2 hQ)
    · rename_i hg
      rw [guardOf_ok hS hg o rfl]
      obtain ⟨S1, h1, h2⟩ := Option.bind_eq_some_iff.1 h
      simp only [Bool.false_eq_true, if_false]
      exact hK _ (runVal_ok hG h2 (skip_sim hS h1) hQ)
    · cases h
theorem Sim.drew {a : Act} {w : World} (hS : Sim w0 O0 n S a w) (d : Nat) : Sim w0 O0 n S a { w with drawn := d } := by
  obtain ⟨⟨βv, β, hH, hO, hT⟩, h2, h3, h4, h5, h6, h7, h8⟩ := hS
  exact ⟨⟨βv, β, ⟨hH.lays.frame (fun b _ => rfl), hH.env, hH.aux⟩, hO, hT⟩, h2, h3, h4, h5, h6, h7, h8⟩
end

/-- How a region is gone through. -/
inductive Plan where
  | list | still | tail (k : Nat)
/-- The roots' numbers of a region. -/
def runRegion (G : Ctx) (n : Nat) (step : Nat → Oper → St → Option St) (ops : Array Oper) (r : Nat) : Plan → St → Option St
  | .list, S => runList n step ops r ops.toList S
  | .still, S => runVal G n ops ops.toList S
  | .tail k, S => (runVal G n ops (ops.toList.take k) S).bind (runList n step ops (r + k) (ops.toList.drop k))
def Plan.fits (ops : Array Oper) (draw : Bool) : Plan → Bool
  | .list => !draw
  | .still => draw && Region.lexB .any ops
  | .tail k => draw && Region.lexTailB .any ops k
theorem runRegion_ok {G : Ctx} (hG : G.Ok) {n : Nat} {step : Nat → Oper → St → Option St} (hst : StepOk G n step) {id r : Nat} {ops : Array Oper} {draw : Bool} {p : Plan} (hp : p.fits ops draw = true) {S S' : St} (h : runRegion G n step ops r p S = some S')
    {w0 : World} {O0 : Own0} {a : Act} {w : World} {Q : Exit → Act → World → Prop} (hS : Sim w0 O0 n S a w) (hQ : ∀ a' w', Sim w0 O0 n S' a' w' → Q .normal a' w') : (Code.region id ops draw).wp G.P Q a w := by
  cases p with
  | list =>
    simp only [Plan.fits, Bool.not_eq_true'] at hp
    subst hp
    exact wp_region_list (runList_ok hst h hS hQ)
  | still =>
    simp only [Plan.fits, Bool.and_eq_true] at hp
    obtain ⟨rfl, hB⟩ := hp
    exact wp_region_still hG.any hB (runVal_ok hG h (hS.drew _) fun a' hS' => hQ _ _ hS')
  | tail k =>
    simp only [Plan.fits, Bool.and_eq_true] at hp
    obtain ⟨rfl, hB⟩ := hp
    obtain ⟨S1, h1, h2⟩ := Option.bind_eq_some_iff.1 h
    have := wp_region_still_tail (P := G.P) (id := id) (Q := Q) (a := a) (w := w) (l := ops.toList) k hG.any (by simpa using hB) (by
      refine runVal_ok (ops := ops.toList.toArray) hG (by simpa using h1) (hS.drew _) fun a' hS' => ?_
      exact runList_ok (ops := ops.toList.toArray) hst (by simpa using h2) hS' hQ)
    simpa using this
end Go.Proofs.YtnceiegngfpmkaaAm
namespace Go.Proofs.YtnceiegngfpmkaaAm
set_option linter.unusedVariables false

inductive Out where
  | norm | exit (id : Nat) | ret
def Out.at : Out → Exit
  | .norm => .normal
  | .exit id => .exit id
  | .ret => .ret
/-- What is said of the first state holds of the second. -/
def Weak (n : Nat) (S S' : St) : Prop := ∀ w0 O0 a w, Sim w0 O0 n S a w → Sim w0 O0 n S' a w
theorem Weak.refl {n : Nat} {S : St} : Weak n S S := fun _ _ _ _ h => h
theorem Weak.trans {n : Nat} {S S1 S2 : St} (h : Weak n S S1) (h2 : Weak n S1 S2) : Weak n S S2 := fun _ _ _ _ hS => h2 _ _ _ _ (h _ _ _ _ hS)
/-- The code, with what the walk has to know beside it. -/
inductive ACode where
  | skip
  | region (id : Nat) (ops : Array Oper) (draw : Bool) (p : Plan) (r : Nat)
  | seq (a b : ACode)
  | cond (c : Operand) (thn els : ACode)
  | block (id : Nat) (body : ACode)
  | exit (id : Nat)
  | ret
  | loop (body : ACode) (run : St → Option (Out × St))
  | tidy (f : St → Option St) (body : ACode)
def ACode.erase : ACode → Code
  | .skip => .skip
  | .region id ops draw _ _ => .region id ops draw
  | .seq a b => .seq a.erase b.erase
  | .cond c x y => .cond c x.erase y.erase
  | .block id b => .block id b.erase
  | .exit id => .exit id
  | .ret => .ret
  | .loop b _ => .loop b.erase
  | .tidy _ b => b.erase
def leaveBlock (id : Nat) (r : Out × St) : Out × St :=
  match r.1 with
  | .exit i => if i = id then (.norm, r.2) else r
  | _ => r
def exec (G : Ctx) (n : Nat) (step : Nat → Oper → St → Option St) : ACode → St → Option (Out × St)
  | .skip, S => some (.norm, S)
  | .region _ ops _ p r, S => (runRegion G n step ops r p S).bind fun S1 => some (.norm, S1)
  | .seq x y, S => (exec G n step x S).bind fun r => match r.1 with
    | .norm => exec G n step y r.2
    | _ => some r
  | .cond c x y, S => match S.lit c with
    | some (.bool true) => exec G n step x S
    | some (.bool false) => exec G n step y S
    | _ => none
  | .block id b, S => (exec G n step b S).bind fun r => some (leaveBlock id r)
  | .exit id, S => some (.exit id, S)
  | .ret, S => some (.ret, S)
  | .loop _ run, S => run S
  | .tidy f b, S => (f S).bind fun S1 => exec G n step b S1
def CodeOk (G : Ctx) (n : Nat) (c : Code) (S : St) (r : Out × St) : Prop :=
  ∀ (w0 : World) (O0 : Own0) (a : Act) (w : World) (Q : Exit → Act → World → Prop), Sim w0 O0 n S a w → (∀ a' w', Sim w0 O0 n r.2 a' w' → Q r.1.at a' w') → c.wp G.P Q a w
def ACode.Ok (G : Ctx) (n : Nat) : ACode → Prop
  | .region _ ops draw p _ => p.fits ops draw = true
  | .seq a b => a.Ok G n ∧ b.Ok G n
  | .cond _ x y => x.Ok G n ∧ y.Ok G n
  | .block _ b => b.Ok G n
  | .loop b run => ∀ S r, run S = some r → CodeOk G n (.loop b.erase) S r
  | .tidy f b => (∀ S S', f S = some S' → Weak n S S') ∧ b.Ok G n
  | _ => True
section
variable {G : Ctx} {n : Nat} {step : Nat → Oper → St → Option St}
theorem exec_ok (hG : G.Ok) (hst : StepOk G n step) : ∀ {c : ACode} {S : St} {r : Out × St}, c.Ok G n → exec G n step c S = some r → CodeOk G n c.erase S r
  | .skip, S, r, _, h => by
    simp only [exec, Option.some.injEq] at h; subst h
    exact fun w0 O0 a w Q hS hQ => wp_skip (hQ a w hS)
  | .region id ops draw p r0, S, r, hc, h => by
    obtain ⟨S1, h1, h2⟩ := Option.bind_eq_some_iff.1 h
    cases h2
    exact fun w0 O0 a w Q hS hQ => runRegion_ok hG hst hc h1 hS hQ
  | .seq x y, S, r, hc, h => by
    obtain ⟨r1, h1, h2⟩ := Option.bind_eq_some_iff.1 h
    intro w0 O0 a w Q hS hQ
    refine wp_seq (exec_ok hG hst hc.1 h1 w0 O0 a w _ hS fun a' w' hS' => ?_)
    obtain ⟨o1, S1⟩ := r1
    cases o1 with
    | norm => exact exec_ok hG hst hc.2 h2 w0 O0 a' w' Q hS' hQ
    | exit id => cases h2; exact hQ a' w' hS'
    | ret => cases h2; exact hQ a' w' hS'
  | .cond c x y, S, r, hc, h => by
    simp only [exec] at h
    intro w0 O0 a w Q hS hQ
    split at h
    · rename_i hl; exact wp_cond_true (hS.lit hl) (exec_ok hG hst hc.1 h w0 O0 a w Q hS hQ)
    · rename_i hl; exact wp_cond_false (hS.lit hl) (exec_ok hG hst hc.2 h w0 O0 a w Q hS hQ)
    · cases h
  | .block id b, S, r, hc, h => by
    obtain ⟨⟨o1, S1⟩, h1, h2⟩ := Option.bind_eq_some_iff.1 h
    cases h2
    intro w0 O0 a w Q hS hQ
    refine wp_block (exec_ok (c := b) hG hst hc h1 w0 O0 a w _ hS fun a' w' hS' => ?_)
    cases o1 with
    | norm => exact hQ a' w' hS'
    | exit i =>
      by_cases hi : i = id
      · have e : leaveBlock id (Out.exit i, S1) = (.norm, S1) := by simp [leaveBlock, hi]
        rw [e] at hQ
        subst hi
        simpa [Exit.inBlock, Out.at] using hQ a' w' hS'
      · have e : leaveBlock id (Out.exit i, S1) = (.exit i, S1) := by simp [leaveBlock, hi]
        rw [e] at hQ
        simpa [Exit.inBlock, Out.at, hi] using hQ a' w' hS'
    | ret => exact hQ a' w' hS'
  | .exit id, S, r, _, h => by
    simp only [exec, Option.some.injEq] at h; subst h
    exact fun w0 O0 a w Q hS hQ => wp_exit (hQ a w hS)
  | .ret, S, r, _, h => by
    simp only [exec, Option.some.injEq] at h; subst h
    exact fun w0 O0 a w Q hS hQ => wp_ret (hQ a w hS)
  | .loop b run, S, r, hc, h => hc S r h
  | .tidy f b, S, r, hc, h => by
    obtain ⟨S1, h1, h2⟩ := Option.bind_eq_some_iff.1 h
    exact fun w0 O0 a w Q hS hQ => exec_ok hG hst hc.2 h2 w0 O0 a w Q (hc.1 S S1 h1 _ _ _ _ hS) hQ

/-! ### Loops -/
theorem least_of {p : Nat → Prop} (h : ∃ k, p k) : ∃ k, p k ∧ ∀ j, p j → k ≤ j := by
  obtain ⟨k, hk⟩ := h
  induction k using Nat.strongRecOn with
  | _ k ih =>
    by_cases hj : ∃ j, j < k ∧ p j
    · obtain ⟨j, h1, h2⟩ := hj
      exact ih j h1 h2
    · exact ⟨k, hk, fun j h2 => Nat.le_of_not_lt fun h1 => hj ⟨j, h1, h2⟩⟩
/-- The rounds of a loop: data at its head, what is left behind it. -/
def loopRun {D E : Type} (f : D → Option (D ⊕ E)) : Nat → D → Option E
  | 0, _ => none
  | k + 1, d => match f d with
    | some (.inl d') => loopRun f k d'
    | some (.inr e) => some e
    | none => none
/-- One round. -/
def round {D E : Type} (G : Ctx) (n : Nat) (step : Nat → Oper → St → Option St) (b : ACode) (σ : D → St) (enter : St → Option D) (leave : Out × St → Option E) (d : D) : Option (D ⊕ E) :=
  (exec G n step b (σ d)).bind fun r => match r.1 with
    | .norm => (enter r.2).bind fun d' => some (.inl d')
    | _ => (leave r).bind fun e => some (.inr e)
def loopOf {D E : Type} (f : D → Option (D ⊕ E)) (enter : St → Option D) (back : E → Out × St) (fuel : D → Nat) (S : St) : Option (Out × St) :=
  (enter S).bind fun d => (loopRun f (fuel d) d).bind fun e => some (back e)
theorem loop_ok {D E : Type} (hG : G.Ok) (hst : StepOk G n step) {b : ACode} (hb : b.Ok G n) {σ : D → St} {enter : St → Option D} {leave : Out × St → Option E} {back : E → Out × St} {fuel : D → Nat} {f : D → Option (D ⊕ E)}
    (hf : ∀ d, f d = round G n step b σ enter leave d) (he : ∀ S d, enter S = some d → Weak n S (σ d)) (hl : ∀ r e, leave r = some e → (back e).1 = r.1 ∧ Weak n r.2 (back e).2) :
    ∀ S r, loopOf f enter back fuel S = some r → CodeOk G n (.loop b.erase) S r := by
  intro S r h
  obtain ⟨d0, h1, h2⟩ := Option.bind_eq_some_iff.1 h
  obtain ⟨e0, h3, h4⟩ := Option.bind_eq_some_iff.1 h2
  cases h4
  intro w0 O0 a w Q hS hQ
  classical
  let Pk : Act → World → Nat → Prop := fun a w k => ∃ d, Sim w0 O0 n (σ d) a w ∧ loopRun f k d = some e0
  let μ : Act → World → Nat := fun a w => if h : ∃ k, Pk a w k then Classical.choose (least_of h) else 0
  refine wp_loop (fun a w => ∃ k, Pk a w k) μ ⟨fuel d0, d0, he _ _ h1 _ _ _ _ hS, h3⟩ fun a w hI => ?_
  have hμ : μ a w = Classical.choose (least_of hI) := by simp only [μ, dif_pos hI]
  obtain ⟨d, hd, hk⟩ := (Classical.choose_spec (least_of hI)).1
  rw [hμ]
  generalize Classical.choose (least_of hI) = k at hk
  cases k with
  | zero => cases hk
  | succ k =>
    simp only [loopRun, hf] at hk
    unfold round at hk
    cases hx : exec G n step b (σ d) with
    | none => rw [hx] at hk; cases hk
    | some r1 =>
      rw [hx] at hk
      simp only [Option.bind_some] at hk
      refine exec_ok hG hst hb hx w0 O0 a w _ hd fun a' w' hS' => ?_
      obtain ⟨o1, S1⟩ := r1
      have other : ∀ {o1 : Out} (hne : o1 ≠ .norm) (hS' : Sim w0 O0 n S1 a' w'), (match ((leave (o1, S1)).bind fun e => some (.inr e) : Option (D ⊕ E)) with | some (.inl d') => loopRun f k d' | some (.inr e) => some e | none => none) = some e0 → Q o1.at a' w' := fun {o1} hne hS' hk => by
        cases hle : leave (o1, S1) with
        | none => rw [hle] at hk; cases hk
        | some e =>
          rw [hle] at hk
          simp only [Option.bind_some, Option.some.injEq] at hk
          subst hk
          obtain ⟨g1, g2⟩ := hl _ _ hle
          have := hQ a' w' (g2 _ _ _ _ hS')
          rw [g1] at this
          exact this
      cases o1 with
      | norm =>
        cases hen : enter S1 with
        | none => simp only [hen] at hk; cases hk
        | some d' =>
          simp only [hen, Option.bind_some] at hk
          have hP : Pk a' w' k := ⟨d', he _ _ hen _ _ _ _ hS', hk⟩
          refine ⟨⟨k, hP⟩, ?_⟩
          have : μ a' w' ≤ k := by
            simp only [μ, dif_pos (⟨k, hP⟩ : ∃ k, Pk a' w' k)]
            exact (Classical.choose_spec (least_of ⟨k, hP⟩)).2 _ hP
          omega
      | exit id => exact other (by simp) hS' hk
      | ret => exact other (by simp) hS' hk
end
end Go.Proofs.YtnceiegngfpmkaaAm
namespace Go.Proofs.YtnceiegngfpmkaaAm
set_option linter.unusedVariables false

def joinV (F1 : Forest) (βv1 βv2 : Nat → Nat) : Nat → Nat := fun r => if (F1.get r).isSome then βv1 r else βv2 r
def joinL (F1 : Forest) (β1 β2 : Layout) : Layout := fun q => if (F1.get q.root).isSome then β1 q else β2 q
structure Joint (F F1 F2 : Forest) : Prop where
  get : ∀ r, F.get r = (F1.get r).or (F2.get r)
  apart : ∀ r, F1.get r = none ∨ F2.get r = none
section
variable {F F1 F2 : Forest} {βv1 βv2 : Nat → Nat} {β1 β2 : Layout} {w : World}
theorem Joint.left (hJ : Joint F F1 F2) {r : Nat} {R : Root} (h : F1.get r = some R) : F.get r = F1.get r := by rw [hJ.get, h]; rfl
theorem Joint.right (hJ : Joint F F1 F2) {r : Nat} {R : Root} (h : F2.get r = some R) : F.get r = F2.get r ∧ F1.get r = none := by
  rcases hJ.apart r with e | e
  · rw [hJ.get, e]; exact ⟨rfl, rfl⟩
  · rw [e] at h; cases h
theorem Joint.cases (hJ : Joint F F1 F2) {r : Nat} {R : Root} (h : F.get r = some R) : F1.get r = some R ∨ (F1.get r = none ∧ F2.get r = some R) := by
  rw [hJ.get] at h
  cases h1 : F1.get r with
  | some R1 => rw [h1] at h; exact .inl (by simpa using h)
  | none => rw [h1] at h; exact .inr ⟨rfl, by simpa using h⟩
theorem joinL_left {q : Pl} {R : Root} (h : F1.get q.root = some R) : joinL F1 β1 β2 q = β1 q := by simp [joinL, h]
theorem joinL_right {q : Pl} (h : F1.get q.root = none) : joinL F1 β1 β2 q = β2 q := by simp [joinL, h]
theorem joinV_left {r : Nat} {R : Root} (h : F1.get r = some R) : joinV F1 βv1 βv2 r = βv1 r := by simp [joinV, h]
theorem joinV_right {r : Nat} (h : F1.get r = none) : joinV F1 βv1 βv2 r = βv2 r := by simp [joinV, h]
theorem addr_left {q : Pl} {R : Root} (h : F1.get q.root = some R) : q.addr (joinV F1 βv1 βv2) (joinL F1 β1 β2) = q.addr βv1 β1 := by
  cases q with
  | cell r o => simp only [Pl.root] at h; simp only [Pl.addr, joinV_left h]
  | sub q i o => simp only [Pl.root] at h; simp only [Pl.addr, joinL_left h]
theorem addr_right {q : Pl} (h : F1.get q.root = none) : q.addr (joinV F1 βv1 βv2) (joinL F1 β1 β2) = q.addr βv2 β2 := by
  cases q with
  | cell r o => simp only [Pl.root] at h; simp only [Pl.addr, joinV_right h]
  | sub q i o => simp only [Pl.root] at h; simp only [Pl.addr, joinL_right h]
theorem AcRel.left (hJ : Joint F F1 F2) {x : AC} {v : Value} (hx : AcRel F1 none βv1 β1 x v) : AcRel F none (joinV F1 βv1 βv2) (joinL F1 β1 β2) x v := by
  have pc : ∀ {r o}, PtrOk F1 none (.cell r o) → PtrOk F none (.cell r o) ∧ joinV F1 βv1 βv2 r = βv1 r := fun {r o} hp => by
    obtain ⟨R, h1, h2⟩ := hp
    exact ⟨⟨R, by rw [hJ.left h1]; exact h1, h2⟩, joinV_left h1⟩
  cases x with
  | lit u => exact hx
  | nil τ => exact hx
  | dead => trivial
  | sl q pt =>
    obtain ⟨m, τ, l, h1, h2, h3⟩ := hx
    obtain ⟨R, hR⟩ := at_root h1.1
    exact ⟨m, τ, l, ⟨(at_get (hJ.left hR)).2 h1.1, h1.2⟩, h2, by rw [joinL_left hR]; exact h3⟩
  | ptr q =>
    obtain ⟨h1, h2⟩ := hx
    have hR : ∃ R, F1.get q.root = some R := by
      cases q with
      | cell r o => obtain ⟨R, k, _⟩ := h1; exact ⟨R, k⟩
      | sub q i o => obtain ⟨m, τ, l, k, _⟩ := h1; exact at_root (q := q) k.1
    obtain ⟨R, hR⟩ := hR
    exact ⟨(ptrOk_get (hJ.left hR)).2 h1, by rw [addr_left hR]; exact h2⟩
  | clo f caps =>
    obtain ⟨h1, h2⟩ := hx
    refine ⟨fun y hy => (pc (h1 y hy)).1, ?_⟩
    rw [h2]
    congr 2
    exact List.map_congr_left fun y hy => by rw [(pc (h1 y hy)).2]
theorem AcRel.right (hJ : Joint F F1 F2) {x : AC} {v : Value} (hx : AcRel F2 none βv2 β2 x v) : AcRel F none (joinV F1 βv1 βv2) (joinL F1 β1 β2) x v := by
  have pc : ∀ {r o}, PtrOk F2 none (.cell r o) → PtrOk F none (.cell r o) ∧ joinV F1 βv1 βv2 r = βv2 r := fun {r o} hp => by
    obtain ⟨R, h1, h2⟩ := hp
    obtain ⟨e1, e2⟩ := hJ.right h1
    exact ⟨⟨R, by rw [e1]; exact h1, h2⟩, joinV_right e2⟩
  cases x with
  | lit u => exact hx
  | nil τ => exact hx
  | dead => trivial
  | sl q pt =>
    obtain ⟨m, τ, l, h1, h2, h3⟩ := hx
    obtain ⟨R, hR⟩ := at_root h1.1
    obtain ⟨e1, e2⟩ := hJ.right hR
    exact ⟨m, τ, l, ⟨(at_get e1).2 h1.1, h1.2⟩, h2, by rw [joinL_right e2]; exact h3⟩
  | ptr q =>
    obtain ⟨h1, h2⟩ := hx
    have hR : ∃ R, F2.get q.root = some R := by
      cases q with
      | cell r o => obtain ⟨R, k, _⟩ := h1; exact ⟨R, k⟩
      | sub q i o => obtain ⟨m, τ, l, k, _⟩ := h1; exact at_root (q := q) k.1
    obtain ⟨R, hR⟩ := hR
    obtain ⟨e1, e2⟩ := hJ.right hR
    exact ⟨(ptrOk_get e1).2 h1, by rw [addr_right e2]; exact h2⟩
  | clo f caps =>
    obtain ⟨h1, h2⟩ := hx
    refine ⟨fun y hy => (pc (h1 y hy)).1, ?_⟩
    rw [h2]
    congr 2
    exact List.map_congr_left fun y hy => by rw [(pc (h1 y hy)).2]
theorem CellRel.left (hJ : Joint F F1 F2) {c : Cell} {L : Lay} {u : Value} (h : CellRel F1 βv1 β1 c L u) : CellRel F (joinV F1 βv1 βv2) (joinL F1 β1 β2) c L u := by
  cases c with
  | ref x => exact ⟨h.1, h.2.left hJ⟩
  | v x => exact h
  | rows m τ l => exact h
  | dead => exact h
theorem CellRel.right (hJ : Joint F F1 F2) {c : Cell} {L : Lay} {u : Value} (h : CellRel F2 βv2 β2 c L u) : CellRel F (joinV F1 βv1 βv2) (joinL F1 β1 β2) c L u := by
  cases c with
  | ref x => exact ⟨h.1, h.2.right hJ⟩
  | v x => exact h
  | rows m τ l => exact h
  | dead => exact h
theorem Lays.join (hJ : Joint F F1 F2) (h1 : Lays F1 none βv1 β1 w) (h2 : Lays F2 none βv2 β2 w) (hd1 : ∀ b, OwnB F1 none βv1 β1 b → ¬ OwnB F2 none βv2 β2 b ∧ ¬ ShB F2 none β2 b) (hd2 : ∀ b, ShB F1 none β1 b → ¬ OwnB F2 none βv2 β2 b) :
    Lays F none (joinV F1 βv1 βv2) (joinL F1 β1 β2) w ∧ (∀ b, OwnB F none (joinV F1 βv1 βv2) (joinL F1 β1 β2) b → OwnB F1 none βv1 β1 b ∨ OwnB F2 none βv2 β2 b) := by
  have back : ∀ {q c}, AtN F none q c → (∃ R, F1.get q.root = some R ∧ AtN F1 none q c) ∨ (F1.get q.root = none ∧ (∃ R, F2.get q.root = some R) ∧ AtN F2 none q c) := fun {q c} ha => by
    obtain ⟨R, hR⟩ := at_root ha.1
    rcases hJ.cases hR with e | ⟨e1, e2⟩
    · exact .inl ⟨R, e, (at_get (hJ.left e)).1 ha.1, ha.2⟩
    · exact .inr ⟨e1, ⟨R, e2⟩, (at_get (hJ.right e2).1).1 ha.1, ha.2⟩
  have hO : ∀ b, OwnB F none (joinV F1 βv1 βv2) (joinL F1 β1 β2) b → OwnB F1 none βv1 β1 b ∨ OwnB F2 none βv2 β2 b := by
    rintro b (⟨r, R, k1, k2, k3⟩ | ⟨q, m, τ, l, k1, k2, k3, rfl⟩)
    · rcases hJ.cases k1 with e | ⟨e1, e2⟩
      · rw [joinV_left e] at k3; exact .inl (.inl ⟨r, R, e, k2, k3⟩)
      · rw [joinV_right e1] at k3; exact .inr (.inl ⟨r, R, e2, k2, k3⟩)
    · rcases back k1 with ⟨R, e, ha⟩ | ⟨e, _, ha⟩
      · rw [joinL_left e] at k3 ⊢; exact .inl (.inr ⟨q, m, τ, l, ha, k2, k3, rfl⟩)
      · rw [joinL_right e] at k3 ⊢; exact .inr (.inr ⟨q, m, τ, l, ha, k2, k3, rfl⟩)
  have hS : ∀ b, ShB F none (joinL F1 β1 β2) b → ShB F1 none β1 b ∨ ShB F2 none β2 b := by
    rintro b ⟨q, m, τ, l, k1, k2, k3, rfl⟩
    rcases back k1 with ⟨R, e, ha⟩ | ⟨e, _, ha⟩
    · rw [joinL_left e]; exact .inl ⟨q, m, τ, l, ha, k2, k3, rfl⟩
    · rw [joinL_right e]; exact .inr ⟨q, m, τ, l, ha, k2, k3, rfl⟩
  refine ⟨?_, hO⟩
  exact {
    cells := fun q c ha hm => by
      rcases back ha with ⟨R, e, k⟩ | ⟨e, ⟨R, e2⟩, k⟩
      · obtain ⟨u, g1, g2⟩ := h1.cells q c k ((inMem_get (hJ.left e)).1 hm)
        exact ⟨u, by rw [addr_left e]; exact g1, by rw [joinL_left e]; exact g2.left hJ⟩
      · obtain ⟨u, g1, g2⟩ := h2.cells q c k ((inMem_get (hJ.right e2).1).1 hm)
        exact ⟨u, by rw [addr_right e]; exact g1, by rw [joinL_right e]; exact g2.right hJ⟩
    rows := fun q m τ l ha => by
      rcases back ha with ⟨R, e, k⟩ | ⟨e, _, k⟩
      · rw [joinL_left e]; exact h1.rows q m τ l k
      · rw [joinL_right e]; exact h2.rows q m τ l k
    ownb := fun q m τ l ha hm hcap => by
      rcases back ha with ⟨R, e, k⟩ | ⟨e, _, k⟩
      · rw [joinL_left e] at hcap ⊢; exact h1.ownb q m τ l k hm hcap
      · rw [joinL_right e] at hcap ⊢; exact h2.ownb q m τ l k hm hcap
    vars := fun r R k1 k2 => by
      rcases hJ.cases k1 with e | ⟨e1, e2⟩
      · rw [joinV_left e]; exact h1.vars r R e k2
      · rw [joinV_right e1]; exact h2.vars r R e2 k2
    vv := fun r r' R R' k1 m1 k2 m2 hb => by
      rcases hJ.cases k1 with a | ⟨a1, a2⟩ <;> rcases hJ.cases k2 with b | ⟨b1, b2⟩
      · rw [joinV_left a, joinV_left b] at hb; exact h1.vv r r' R R' a m1 b m2 hb
      · rw [joinV_left a, joinV_right b1] at hb
        exact absurd (.inl ⟨r', R', b2, m2, hb.symm⟩) (hd1 _ (.inl ⟨r, R, a, m1, rfl⟩)).1
      · rw [joinV_right a1, joinV_left b] at hb
        exact absurd (.inl ⟨r, R, a2, m1, hb⟩) (hd1 _ (.inl ⟨r', R', b, m2, rfl⟩)).1
      · rw [joinV_right a1, joinV_right b1] at hb; exact h2.vv r r' R R' a2 m1 b2 m2 hb
    rr := fun q q' m m' τ τ' l l' k1 o1 c1 k2 o2 c2 hb => by
      rcases back k1 with ⟨R, e, a⟩ | ⟨e, _, a⟩ <;> rcases back k2 with ⟨R', e', a'⟩ | ⟨e', _, a'⟩
      · rw [joinL_left e] at c1 hb; rw [joinL_left e'] at c2 hb
        exact h1.rr q q' m m' τ τ' l l' a o1 c1 a' o2 c2 hb
      · rw [joinL_left e] at c1 hb; rw [joinL_right e'] at c2 hb
        exact absurd (.inr ⟨q', m', τ', l', a', o2, c2, hb.symm⟩) (hd1 _ (.inr ⟨q, m, τ, l, a, o1, c1, rfl⟩)).1
      · rw [joinL_right e] at c1 hb; rw [joinL_left e'] at c2 hb
        exact absurd (.inr ⟨q, m, τ, l, a, o1, c1, hb⟩) (hd1 _ (.inr ⟨q', m', τ', l', a', o2, c2, rfl⟩)).1
      · rw [joinL_right e] at c1 hb; rw [joinL_right e'] at c2 hb
        exact h2.rr q q' m m' τ τ' l l' a o1 c1 a' o2 c2 hb
    vr := fun r R q m τ l k1 m1 k2 o2 c2 hb => by
      rcases hJ.cases k1 with a | ⟨a1, a2⟩ <;> rcases back k2 with ⟨R', e', a'⟩ | ⟨e', _, a'⟩
      · rw [joinV_left a, joinL_left e'] at hb; rw [joinL_left e'] at c2; exact h1.vr r R q m τ l a m1 a' o2 c2 hb
      · rw [joinV_left a, joinL_right e'] at hb; rw [joinL_right e'] at c2
        exact absurd (.inr ⟨q, m, τ, l, a', o2, c2, hb.symm⟩) (hd1 _ (.inl ⟨r, R, a, m1, rfl⟩)).1
      · rw [joinV_right a1, joinL_left e'] at hb; rw [joinL_left e'] at c2
        exact absurd (.inl ⟨r, R, a2, m1, hb⟩) (hd1 _ (.inr ⟨q, m, τ, l, a', o2, c2, rfl⟩)).1
      · rw [joinV_right a1, joinL_right e'] at hb; rw [joinL_right e'] at c2; exact h2.vr r R q m τ l a2 m1 a' o2 c2 hb
    sh := fun b hs ho => by
      rcases hS b hs with hs | hs <;> rcases hO b ho with ho | ho
      · exact h1.sh b hs ho
      · exact hd2 b hs ho
      · exact (hd1 b ho).2 hs
      · exact h2.sh b hs ho }
end
end Go.Proofs.YtnceiegngfpmkaaAm
namespace Go.Proofs.YtnceiegngfpmkaaAm
set_option linter.unusedVariables false

/-- Only these temporaries are kept. -/
def St.prune (S : St) (ks : List Nat) : St := ⟨ks.filterMap (fun t => (look S.env t).map fun av => (t, av)), S.F, S.hole, S.aux⟩
theorem look_prune {env : List (Nat × AV)} : ∀ {ks : List Nat} {t : Nat} {av : AV}, look (ks.filterMap (fun t => (look env t).map fun av => (t, av))) t = some av → look env t = some av
  | [], t, av, h => by simp [look] at h
  | k :: ks, t, av, h => by
    simp only [List.filterMap_cons] at h
    cases hk : look env k with
    | none => rw [hk] at h; exact look_prune (ks := ks) h
    | some v =>
      rw [hk] at h
      simp only [Option.map_some, look] at h
      split at h
      · rename_i e
        cases h
        subst e
        exact hk
      · exact look_prune (ks := ks) h
theorem prune_weak {n : Nat} {S : St} (ks : List Nat) : Weak n S (S.prune ks) := fun w0 O0 a w hS => by
  obtain ⟨βv, β, hH, hO, hT⟩ := hS.holds
  exact ⟨⟨βv, β, ⟨hH.lays, fun t av h => hH.env t av (look_prune h), hH.aux⟩, hO, hT⟩, hS.frame, hS.size, hS.os, hS.tape, hS.output, hS.defers, hS.tmps⟩
/-- Roots that nobody needs go. -/
def dropAll : List Nat → St → Option St
  | [], S => some S
  | r :: rs, S => if S.hole.isNone && noRefs S.F r then dropAll rs (S.dropRoot r) else none
theorem dropRoot_weak {n r : Nat} {S : St} (hh : S.hole = none) (hn : noRefs S.F r = true) : Weak n S (S.dropRoot r) := fun w0 O0 a w hS => by
  obtain ⟨βv, β, hH, hO, hT⟩ := hS.holds
  obtain ⟨h1, h2, h3⟩ := dropRoot_holds hH hn (fun q0 e => by rw [hh] at e; cases e)
  exact ⟨⟨βv, β, h1, fun b hb => hO b (h2 b hb), fun b hb => hT b (h3 b hb)⟩, hS.frame, hS.size, hS.os, hS.tape, hS.output, hS.defers, hS.tmps⟩
theorem dropAll_weak {n : Nat} : ∀ {rs : List Nat} {S S' : St}, dropAll rs S = some S' → Weak n S S'
  | [], S, S', h => by simp only [dropAll, Option.some.injEq] at h; subst h; exact .refl
  | r :: rs, S, S', h => by
    simp only [dropAll] at h
    split at h
    · rename_i hc
      simp only [Bool.and_eq_true, Option.isNone_iff_eq_none] at hc
      exact (dropRoot_weak hc.1 hc.2).trans (dropAll_weak h)
    · cases h
theorem put_self {a : Act} {t : Nat} (h : t < a.tmps.size) : a.put (some t) (a.tmps.getD t undef) = a := by
  cases a with
  | mk tmps defers =>
    simp only at h
    simp only [Act.put, Act.mk.injEq, and_true]
    apply Array.ext_getElem?
    intro i
    by_cases e : t = i
    · subst e
      simp [Array.getD, h]
    · rw [Array.getElem?_setIfInBounds_ne e]
/-- A temporary's row comes to a root of its own. -/
def St.toRow (S : St) (n r t : Nat) (m : Mode) (τ : Ty) : Option St :=
  if S.hole.isNone then match look S.env t with
    | some (.c (.nil _)) => S.newRow n r (some t) m τ []
    | some (.c (.lit v)) => if isNil v then S.newRow n r (some t) m τ [] else none
    | some (.c (.sl q none)) => match S.row q with
      | some ⟨m', τ', l⟩ => if h : τ' = τ then (if m'.covers m then (S.take q).bind fun S1 => if S1.hole.isNone then S1.newRow n r (some t) m τ (castL h l) else none else none) else none
      | none => none
    | _ => none
  else none
theorem newRow_lt {S S' : St} {n r t : Nat} {m : Mode} {τ : Ty} {l : List (Interp τ)} (h : S.newRow n r (some t) m τ l = some S') : t < n := by
  unfold St.newRow at h
  split at h
  · simp only [St.bind] at h
    split at h
    · assumption
    · cases h
  · cases h
theorem isNil_eq {v : Value} (h : isNil v = true) : v = .slice none 0 0 := by
  unfold isNil at h
  split at h
  · rfl
  · cases h
theorem toRow_weak {n r t : Nat} {m : Mode} {τ : Ty} {S S' : St} (h : S.toRow n r t m τ = some S') : Weak n S S' := fun w0 O0 a w hS => by
  obtain ⟨βv, β, hH, hO, hT⟩ := hS.holds
  have nilCase : ∀ x, look S.env t = some (.c x) → (∀ v, AcRel S.F S.hole βv β x v → v = .slice none 0 0) → S.hole = none → S.newRow n r (some t) m τ [] = some S' → Sim w0 O0 n S' a w := fun x hx hv hh h => by
    have hval := hv _ (hH.env t _ hx)
    obtain ⟨g1, g2⟩ := solo_nil m τ βv w
    obtain ⟨β', k1, k2, k3, k4, k5⟩ := newRow_holds (u := .slice none 0 0) hH hS.tmps h g1 (fun b hb => absurd hb (g2 b).1) (fun b hb => absurd hb (g2 b).2) ⟨none, 0, rfl, rfl, .inl rfl⟩ (fun q0 e => by rw [hh] at e; cases e)
    rw [← hval, put_self (by rw [hS.tmps]; exact newRow_lt h)] at k1
    exact ⟨⟨βv, β', k1, fun b hb => by
      rcases k2 b hb with hb | hb
      · exact hO b hb
      · exact absurd hb (g2 b).1, fun b hb => by
      rcases k5 b hb with hb | hb
      · exact hT b hb
      · exact absurd hb (g2 b).2⟩, hS.frame, hS.size, hS.os, hS.tape, hS.output, hS.defers, hS.tmps⟩
  unfold St.toRow at h
  split at h
  · rename_i hh
    simp only [Option.isNone_iff_eq_none] at hh
    split at h
    · rename_i x hx; exact nilCase _ hx (fun v hv => hv) hh h
    · rename_i u hx
      split at h
      · rename_i hn; exact nilCase _ hx (fun v hv => by rw [← isNil_eq hn]; exact hv) hh h
      · cases h
    · rename_i q hx
      split at h
      · rename_i m' τ' l hrow
        split at h
        · rename_i hτ
          subst hτ
          split at h
          · rename_i hcov
            obtain ⟨S1, h1, h⟩ := Option.bind_eq_some_iff.1 h
            split at h
            · rename_i hh1
              simp only [Option.isNone_iff_eq_none] at hh1
              obtain ⟨hat, _, hsl⟩ := at_of_row (F := S.F) (βv := βv) hrow (hH.env t _ hx)
              obtain ⟨β1, T⟩ := take_taken hH hat h1
              have hlays := hH.lays
              rw [hh] at hlays hat
              have htree := hlays.tree hat (fun _ e => by cases e) (fun p => treeLay_app q β p)
              obtain ⟨w1, w2, w3⟩ := htree.weaken (m := m) hcov
              have top0 : treeLay q β top = β q := treeLay_app q β []
              obtain ⟨β', k1, k2, k3, k4, k5⟩ := newRow_holds (u := a.tmps.getD t undef) (l := l) T.holds hS.tmps h w1 (fun b hb => (T.d1 b (w2 b hb)).2)
                (fun b hb => by
                  rcases w3 b hb with hb | hb
                  · exact (T.d1 b hb).2.1
                  · exact (T.d2 b hb).2)
                (by rw [top0]; simpa [ptLo, ptLen] using hsl) (fun q0 e => by rw [hh1] at e; cases e)
              rw [put_self (by rw [hS.tmps]; exact newRow_lt h)] at k1
              exact ⟨⟨βv, β', k1, fun b hb => by
                rcases k2 b hb with hb | hb
                · exact hO b (T.own b hb)
                · exact hO b (T.d1 b (w2 b hb)).1, fun b hb => by
                rcases k5 b hb with hb | hb
                · exact hT b (T.sh b hb)
                · rcases w3 b hb with hb | hb
                  · exact .inr (hO b (T.d1 b hb).1)
                  · exact hT b (T.d2 b hb).1⟩, hS.frame, hS.size, hS.os, hS.tape, hS.output, hS.defers, hS.tmps⟩
            · cases h
          · cases h
        · cases h
      · cases h
    · cases h
  · cases h
end Go.Proofs.YtnceiegngfpmkaaAm
namespace Go.Proofs.YtnceiegngfpmkaaAm
set_option linter.unusedVariables false

section
variable {n r : Nat} {S S' : St} {βv : Nat → Nat} {β γ : Layout} {w : World} {a : Act}
/-- As newRow_holds, with what is known of the row's address. -/
theorem newRow_rel {m : Mode} {τ : Ty} {l : List (Interp τ)} {u : Value} (hH : Holds S βv β a.tmps [] w) (h : S.newRow n r none m τ l = some S') (hG : Lays (solo (.rows m τ l)) none βv γ w)
    (hd1 : ∀ b, OwnB (solo (.rows m τ l)) none βv γ b → ¬ OwnB S.F S.hole βv β b ∧ ¬ ShB S.F S.hole β b) (hd2 : ∀ b, ShB (solo (.rows m τ l)) none γ b → ¬ OwnB S.F S.hole βv β b)
    (hu : SlRel (γ top) 0 l.length u) (hh : ∀ q0, S.hole = some q0 → q0.root ≠ r) :
    S'.env = S.env ∧ ∃ β2, Holds S' βv β2 a.tmps [] w ∧ (∀ b, OwnB S'.F S'.hole βv β2 b → OwnB S.F S.hole βv β b ∨ OwnB (solo (.rows m τ l)) none βv γ b) ∧ (∀ b, ShB S'.F S'.hole β2 b → ShB S.F S.hole β b ∨ ShB (solo (.rows m τ l)) none γ b) ∧ AcRel S'.F S'.hole βv β2 (.sl (.cell r 0) none) u ∧ S'.hole = S.hole ∧ At S'.F (.cell r 0) (.rows m τ l) ∧ β2 (.cell r 0) = γ top := by
  unfold St.newRow at h
  split at h
  · rename_i hc
    obtain ⟨c1, c2⟩ := hc
    simp only [Option.isNone_iff_eq_none] at c2
    cases h
    obtain ⟨k1, k2, k3⟩ := hH.lays.addTree c2 hG (.inr ⟨m, τ, l, rfl⟩) hd1 hd2
    have henv := hH.env.mono (fun x v hx => AcRel.add (γ := γ) (c := .rows m τ l) c2 hx)
    have hval : AcRel (S.F.put r (some ⟨false, [.rows m τ l]⟩)) S.hole βv (addLay r β γ) (.sl (.cell r 0) none) u := by
      refine ⟨m, τ, l, ⟨at_add_new (p := []) rfl, fun q0 e hu => hh q0 e ?_⟩, by simp [ptLo, ptLen], ?_⟩
      · obtain ⟨p, e⟩ := hu
        have := congrArg Pl.root e
        rw [Pl.root_app] at this
        exact this.symm
      · have := addLay_app r β γ []
        simp only [Pl.app] at this
        rw [this]
        exact hu
    exact ⟨rfl, addLay r β γ, ⟨k1, henv, by show Acs _ S.aux []; rw [c1]; exact .nil⟩, k2, k3, hval, rfl, at_add_new (p := []) rfl, addLay_app r β γ []⟩
  · cases h
end
/-- A cell of a temporary. -/
def AV.at? : AV → Nat → Option AC
  | .c x, 0 => some x
  | .agg cs, j => cs[j]?
  | _, _ => none
def AV.setAt : AV → Nat → AC → AV
  | .c _, 0, x => .c x
  | .agg cs, j, x => .agg (cs.set j x)
  | a, _, _ => a
/-- The temporary's form. -/
def AV.form : AV → Nat × Nat
  | .c _ => (0, 0)
  | .agg cs => (1, cs.length)
  | .tup _ => (2, 0)
  | .pin _ _ => (2, 0)
  | .pinA _ _ => (2, 0)
theorem Acs.set {R : AC → Value → Prop} : ∀ {xs : List AC} {vs : List Value} {j : Nat} {x : AC} {v : Value}, Acs R xs vs → vs[j]? = some v → R x v → Acs R (xs.set j x) vs
  | _, _, j, x, v, .nil, h, _ => by simp at h
  | _, _, 0, x, v, .cons h t, hv, hx => by
    simp only [List.getElem?_cons_zero, Option.some.injEq] at hv
    subst hv
    exact .cons hx t
  | _, _, j + 1, x, v, .cons h t, hv, hx => .cons h (Acs.set t (by simpa using hv) hx)
/-- The value of a temporary's cell. -/
def Value.cellAt : Value → AV → Nat → Value
  | v, .c _, _ => v
  | .agg vs, _, j => vs.getD j undef
  | v, _, _ => v
theorem AvRel.at_ {R : AC → Value → Prop} {av : AV} {j : Nat} {x : AC} {v : Value} (h : AvRel R av v) (ha : av.at? j = some x) : R x (Value.cellAt v av j) := by
  cases av with
  | c y =>
    cases j with
    | zero => cases ha; exact h
    | succ j => cases ha
  | agg cs =>
    obtain ⟨vs, rfl, h2⟩ := h
    obtain ⟨u, h3, h4⟩ := h2.get (show cs[j]? = some x from ha)
    have : Value.cellAt (.agg vs.toArray) (.agg cs) j = u := by
      show vs.toArray.getD j undef = u
      simp [Array.getD_eq_getD_getElem?, h3]
    rw [this]
    exact h4
  | _ => cases ha
theorem AvRel.setAt {R : AC → Value → Prop} {av av0 : AV} {j : Nat} {x y : AC} {v : Value} (h : AvRel R av v) (ha : av0.at? j = some y) (hl : av.form = av0.form) (hx : R x (Value.cellAt v av0 j)) : AvRel R (av.setAt j x) v := by
  cases av0 with
  | c y0 =>
    cases j with
    | succ j => cases ha
    | zero => 
      cases av with
      | c z => exact hx
      | _ => cases hl
  | agg cs0 =>
    cases av with
    | agg cs =>
      obtain ⟨vs, rfl, h2⟩ := h
      refine ⟨vs, rfl, ?_⟩
      have hj : j < vs.length := by
        have : j < cs0.length := (List.getElem?_eq_some_iff.1 (show cs0[j]? = some y from ha)).1
        have := h2.length
        simp only [AV.form, Prod.mk.injEq] at hl
        omega
      refine Acs.set h2 (List.getElem?_eq_getElem hj) ?_
      have : Value.cellAt (.agg vs.toArray) (.agg cs0) j = vs[j] := by
        show vs.toArray.getD j undef = vs[j]
        simp [Array.getD_eq_getD_getElem?, hj]
      rw [this] at hx
      exact hx
    | _ => cases hl
  | _ => cases ha
/-- The row of a variable's cell, or of a root, comes to a root of its own; temporaries go along. -/
def St.mv (S : St) (n r o R : Nat) (m : Mode) : Option St :=
  if S.hole.isNone then match S.row (.cell r o) with
    | some ⟨m', τ, l⟩ => if m'.covers m then (S.take (.cell r o)).bind fun S1 => if S1.hole.isNone then (S1.newRow n R none m τ l).bind fun S2 => some ⟨mapEnv (AC.redir r o (.cell R 0)) S.env, S2.F, S2.hole, S2.aux⟩ else none else none
    | none => none
  else none
theorem AcRel.dies {F : Forest} {h : Option Pl} {βv : Nat → Nat} {β : Layout} {x : AC} {v : Value} (q : Pl) (hx : AcRel F h βv β x v) : AcRel F h βv β (x.kill q) v := by
  unfold AC.kill
  split
  · split
    · trivial
    · exact hx
  · split
    · trivial
    · exact hx
  · exact hx
theorem at_of_row0 {S : St} {r o : Nat} {m : Mode} {τ : Ty} {l : List (Interp τ)} (h : S.row (.cell r o) = some ⟨m, τ, l⟩) : At S.F (.cell r o) (.rows m τ l) := by
  unfold St.row at h
  split at h
  · rename_i m' τ' l' hn
    cases h
    simp only [nav, Option.bind_eq_some_iff] at hn
    obtain ⟨R, h1, h2⟩ := hn
    exact ⟨R, h1, h2⟩
  · cases h
theorem mv_weak {n r o R : Nat} {m : Mode} {S S' : St} (h : S.mv n r o R m = some S') : Weak n S S' := fun w0 O0 a w hS => by
  obtain ⟨βv, β, hH, hO, hT⟩ := hS.holds
  unfold St.mv at h
  split at h
  · rename_i hh
    simp only [Option.isNone_iff_eq_none] at hh
    split at h
    · rename_i m' τ l hrow
      split at h
      · rename_i hcov
        obtain ⟨S1, h1, h⟩ := Option.bind_eq_some_iff.1 h
        split at h
        · rename_i hh1
          simp only [Option.isNone_iff_eq_none] at hh1
          obtain ⟨S2, h2, h3⟩ := Option.bind_eq_some_iff.1 h
          cases h3
          have hat : AtN S.F none (.cell r o) (.rows m' τ l) := ⟨at_of_row0 hrow, fun _ e => by cases e⟩
          obtain ⟨β1, T⟩ := take_taken hH (by rw [hh]; exact hat) h1
          have hlays := hH.lays
          rw [hh] at hlays
          have htree := hlays.tree hat (fun _ e => by cases e) (fun p => treeLay_app (.cell r o) β p)
          obtain ⟨w1, w2, w3⟩ := htree.weaken (m := m) hcov
          have top0 : treeLay (.cell r o) β top = β (.cell r o) := treeLay_app (.cell r o) β []
          -- a value of the row's
          obtain ⟨u, hu⟩ : ∃ u, SlRel (treeLay (.cell r o) β top) 0 l.length u := by
            rw [top0]
            refine ⟨.slice (some ⟨(β (.cell r o)).b, (β (.cell r o)).base + 0 * (β (.cell r o)).sz, none⟩) l.length (β (.cell r o)).cap, _, _, rfl, by simp, .inr rfl⟩
          obtain ⟨e, β2, k1, k2, k3, k4, k5, k6, k7⟩ := newRow_rel T.holds h2 w1 (fun b hb => (T.d1 b (w2 b hb)).2)
            (fun b hb => by
              rcases w3 b hb with hb | hb
              · exact (T.d1 b hb).2.1
              · exact (T.d2 b hb).2)
            hu (fun q0 e => by rw [hh1] at e; cases e)
          have e1 : S1.env = mapEnv (AC.kill (.cell r o)) S.env := by
            simp only [St.take, hh, Option.isNone_none, if_true] at h1
            unfold St.set at h1
            split at h1
            · obtain ⟨F1, _, e2⟩ := Option.bind_eq_some_iff.1 h1
              cases e2; rfl
            · cases h1
          have hE := hH.env
          rw [hh] at hE
          have hE1 := k1.env
          rw [e, e1, k5, hh1] at hE1
          refine ⟨⟨βv, β2, ⟨k1.lays, ?_, k1.aux⟩, fun b hb => ?_, fun b hb => ?_⟩, hS.frame, hS.size, hS.os, hS.tape, hS.output, hS.defers, hS.tmps⟩
          · show EnvRel (AcRel S2.F S2.hole βv β2) (mapEnv (AC.redir r o (.cell R 0)) S.env) a.tmps
            rw [k5, hh1]
            exact EnvRel.two (fun x v h0 h1 => redir_rel (m2 := m) hat ⟨k6, fun _ e => by cases e⟩ (by rw [k7, top0]) x v h0 (h1.dies _)) hE hE1
          · rcases k2 b hb with hb | hb
            · exact hO b (T.own b hb)
            · exact hO b (T.d1 b (w2 b hb)).1
          · rcases k3 b hb with hb | hb
            · exact hT b (T.sh b hb)
            · rcases w3 b hb with hb | hb
              · exact .inr (hO b (T.d1 b hb).1)
              · exact hT b (T.d2 b hb).1
        · cases h
      · cases h
    · cases h
  · cases h
/-- Nothing is said any more of a temporary's plain cells. -/
def AC.blur : AC → AC
  | .lit _ => .dead
  | .nil _ => .dead
  | x => x
def St.blur (S : St) (t : Nat) : Option St := match look S.env t with
  | some av => some ⟨(t, av.map AC.blur) :: S.env, S.F, S.hole, S.aux⟩
  | none => none
theorem blur_weak {n t : Nat} {S S' : St} (h : S.blur t = some S') : Weak n S S' := fun w0 O0 a w hS => by
  unfold St.blur at h
  split at h
  · rename_i av hav
    cases h
    obtain ⟨βv, β, hH, hO, hT⟩ := hS.holds
    refine ⟨⟨βv, β, ⟨hH.lays, fun t' av' e => ?_, hH.aux⟩, hO, hT⟩, hS.frame, hS.size, hS.os, hS.tape, hS.output, hS.defers, hS.tmps⟩
    simp only [look] at e
    split at e
    · rename_i ht
      subst ht
      cases e
      exact AvRel.map (fun x v hx => by cases x <;> first | exact hx | trivial) (hH.env t' av hav)
    · exact hH.env t' av' e
  · cases h
def St.rowAt (S : St) (n r t j : Nat) (m : Mode) (τ : Ty) (l : List (Interp τ)) (av : AV) : Option St :=
  match look S.env t with
  | some av1 => if av1.form = av.form then (S.newRow n r none m τ l).bind fun S2 => some ⟨(t, av1.setAt j (.sl (.cell r 0) none)) :: S2.env, S2.F, S2.hole, S2.aux⟩ else none
  | none => none
/-- The row of a temporary's cell comes to a root of its own. -/
def St.toRowAt (S : St) (n r t j : Nat) (m : Mode) (τ : Ty) : Option St :=
  if S.hole.isNone then match look S.env t with
    | some av => match av.at? j with
      | some (.nil _) => S.rowAt n r t j m τ [] av
      | some (.lit v) => if isNil v then S.rowAt n r t j m τ [] av else none
      | some (.sl q none) => match S.row q with
        | some ⟨m', τ', l⟩ => if h : τ' = τ then (if m'.covers m then (S.take q).bind fun S1 => if S1.hole.isNone then S1.rowAt n r t j m τ (castL h l) av else none else none) else none
        | none => none
      | _ => none
    | none => none
  else none
theorem rowAt_holds {n r t j : Nat} {m : Mode} {τ : Ty} {l : List (Interp τ)} {S S' : St} {av : AV} {y : AC} {βv : Nat → Nat} {β γ : Layout} {w : World} {a : Act} (h : S.rowAt n r t j m τ l av = some S') (hy : av.at? j = some y) (hH : Holds S βv β a.tmps [] w) (hG : Lays (solo (.rows m τ l)) none βv γ w)
    (hd1 : ∀ b, OwnB (solo (.rows m τ l)) none βv γ b → ¬ OwnB S.F S.hole βv β b ∧ ¬ ShB S.F S.hole β b) (hd2 : ∀ b, ShB (solo (.rows m τ l)) none γ b → ¬ OwnB S.F S.hole βv β b)
    (hu : SlRel (γ top) 0 l.length (Value.cellAt (a.tmps.getD t undef) av j)) (hh : ∀ q0, S.hole = some q0 → q0.root ≠ r) :
    ∃ β2, Holds S' βv β2 a.tmps [] w ∧ (∀ b, OwnB S'.F S'.hole βv β2 b → OwnB S.F S.hole βv β b ∨ OwnB (solo (.rows m τ l)) none βv γ b) ∧ ∀ b, ShB S'.F S'.hole β2 b → ShB S.F S.hole β b ∨ ShB (solo (.rows m τ l)) none γ b := by
  unfold St.rowAt at h
  split at h
  · rename_i av1 h1
    split at h
    · rename_i hf
      obtain ⟨S2, h2, h3⟩ := Option.bind_eq_some_iff.1 h
      cases h3
      obtain ⟨e, β2, k1, k2, k3, k4, _⟩ := newRow_rel hH h2 hG hd1 hd2 hu hh
      refine ⟨β2, ⟨k1.lays, fun t' av' e' => ?_, k1.aux⟩, k2, k3⟩
      simp only [look] at e'
      split at e'
      · rename_i ht
        subst ht
        cases e'
        exact (k1.env t' av1 (by rw [e]; exact h1)).setAt hy hf k4
      · exact k1.env t' av' e'
    · cases h
  · cases h
theorem toRowAt_weak {n r t j : Nat} {m : Mode} {τ : Ty} {S S' : St} (h : S.toRowAt n r t j m τ = some S') : Weak n S S' := fun w0 O0 a w hS => by
  obtain ⟨βv, β, hH, hO, hT⟩ := hS.holds
  have nilCase : ∀ av x, look S.env t = some av → av.at? j = some x → (∀ v, AcRel S.F S.hole βv β x v → v = .slice none 0 0) → S.hole = none → S.rowAt n r t j m τ [] av = some S' → Sim w0 O0 n S' a w := fun av x hav hx hv hh h => by
    have hval := hv _ ((hH.env t _ hav).at_ hx)
    obtain ⟨g1, g2⟩ := solo_nil m τ βv w
    obtain ⟨β', k1, k2, k5⟩ := rowAt_holds h hx hH g1 (fun b hb => absurd hb (g2 b).1) (fun b hb => absurd hb (g2 b).2) (by rw [hval]; exact ⟨none, 0, rfl, rfl, .inl rfl⟩) (fun q0 e => by rw [hh] at e; cases e)
    exact ⟨⟨βv, β', k1, fun b hb => by
      rcases k2 b hb with hb | hb
      · exact hO b hb
      · exact absurd hb (g2 b).1, fun b hb => by
      rcases k5 b hb with hb | hb
      · exact hT b hb
      · exact absurd hb (g2 b).2⟩, hS.frame, hS.size, hS.os, hS.tape, hS.output, hS.defers, hS.tmps⟩
  unfold St.toRowAt at h
  split at h
  · rename_i hh
    simp only [Option.isNone_iff_eq_none] at hh
    split at h
    · rename_i av hav
      split at h
      · rename_i x hx; exact nilCase _ _ hav hx (fun v hv => hv) hh h
      · rename_i u hx
        split at h
        · rename_i hn; exact nilCase _ _ hav hx (fun v hv => by rw [← isNil_eq hn]; exact hv) hh h
        · cases h
      · rename_i q hx
        split at h
        · rename_i m' τ' l hrow
          split at h
          · rename_i hτ
            subst hτ
            split at h
            · rename_i hcov
              obtain ⟨S1, h1, h⟩ := Option.bind_eq_some_iff.1 h
              split at h
              · rename_i hh1
                simp only [Option.isNone_iff_eq_none] at hh1
                obtain ⟨hat, _, hsl⟩ := at_of_row (F := S.F) (βv := βv) hrow ((hH.env t _ hav).at_ hx)
                obtain ⟨β1, T⟩ := take_taken hH hat h1
                have hlays := hH.lays
                rw [hh] at hlays hat
                have htree := hlays.tree hat (fun _ e => by cases e) (fun p => treeLay_app q β p)
                obtain ⟨w1, w2, w3⟩ := htree.weaken (m := m) hcov
                have top0 : treeLay q β top = β q := treeLay_app q β []
                obtain ⟨β', k1, k2, k5⟩ := rowAt_holds (l := l) h hx T.holds w1 (fun b hb => (T.d1 b (w2 b hb)).2)
                  (fun b hb => by
                    rcases w3 b hb with hb | hb
                    · exact (T.d1 b hb).2.1
                    · exact (T.d2 b hb).2)
                  (by rw [top0]; simpa [ptLo, ptLen] using hsl) (fun q0 e => by rw [hh1] at e; cases e)
                exact ⟨⟨βv, β', k1, fun b hb => by
                  rcases k2 b hb with hb | hb
                  · exact hO b (T.own b hb)
                  · exact hO b (T.d1 b (w2 b hb)).1, fun b hb => by
                  rcases k5 b hb with hb | hb
                  · exact hT b (T.sh b hb)
                  · rcases w3 b hb with hb | hb
                    · exact .inr (hO b (T.d1 b hb).1)
                    · exact hT b (T.d2 b hb).1⟩, hS.frame, hS.size, hS.os, hS.tape, hS.output, hS.defers, hS.tmps⟩
              · cases h
            · cases h
          · cases h
        · cases h
      · cases h
    · cases h
  · cases h
end Go.Proofs.YtnceiegngfpmkaaAm
namespace Go.Proofs.YtnceiegngfpmkaaAm
set_option linter.unusedVariables false

def resVal (tmps : Array Value) : List Tmp → Value
  | [t] => tmps.getD t undef
  | ts => .tuple (ts.map (tmps.getD · undef)).toArray
theorem results_run {P : Program} {fnc : Func} (ts : List Tmp) (hl : ts.length ≤ 5) (h : fnc.results = (ts.map ResultVar.tmp).toArray) (tmps : Array Value) (w : World) :
    (results fnc tmps).run P w = .ok (resVal tmps ts) w := by
  match ts, hl with
  | [], _ => simp [results, h, resVal]
  | [a], _ => simp [results, h, resVal]
  | [a, b], _ => simp [results, h, resVal]
  | [a, b, c], _ => simp [results, h, resVal]
  | [a, b, c, d], _ => simp [results, h, resVal]
  | [a, b, c, d, e], _ => simp [results, h, resVal]
  | _ :: _ :: _ :: _ :: _ :: _ :: _, hl => simp at hl
/-- The values of several temporaries. -/
def St.partsOf (S : St) : List Tmp → Option (List (Bool × List AC))
  | [] => some []
  | t :: ts => match look S.env t with
    | some (.c x) => (S.partsOf ts).bind fun l => some ((false, [x]) :: l)
    | some (.agg cs) => (S.partsOf ts).bind fun l => some ((true, cs) :: l)
    | _ => none
def St.resAV (S : St) : List Tmp → Option AV
  | [t] => look S.env t
  | ts => (S.partsOf ts).bind fun l => some (.tup l)
theorem partsOf_rel {R : AC → Value → Prop} {S : St} {tmps : Array Value} (he : EnvRel R S.env tmps) : ∀ {ts : List Tmp} {l : List (Bool × List AC)}, S.partsOf ts = some l → Parts R l (ts.map (tmps.getD · undef))
  | [], l, h => by simp only [St.partsOf, Option.some.injEq] at h; subst h; exact .nil
  | t :: ts, l, h => by
    simp only [St.partsOf] at h
    split at h
    · rename_i x hx
      obtain ⟨l', h1, h2⟩ := Option.bind_eq_some_iff.1 h
      cases h2
      exact .cons ⟨x, rfl, he t _ hx⟩ (partsOf_rel he h1)
    · rename_i cs hx
      obtain ⟨l', h1, h2⟩ := Option.bind_eq_some_iff.1 h
      cases h2
      exact .cons (he t _ hx) (partsOf_rel he h1)
    · cases h
theorem resAV_rel {R : AC → Value → Prop} {S : St} {tmps : Array Value} (he : EnvRel R S.env tmps) : ∀ {ts : List Tmp} {av : AV}, S.resAV ts = some av → AvRel R av (resVal tmps ts)
  | [], av, h => by
    have h : ((S.partsOf []).bind fun l => some (.tup l)) = some av := h
    obtain ⟨l, h1, h2⟩ := Option.bind_eq_some_iff.1 h
    cases h2
    exact ⟨_, rfl, partsOf_rel he h1⟩
  | [t], av, h => he _ _ h
  | a :: b :: ts, av, h => by
    have h : ((S.partsOf (a :: b :: ts)).bind fun l => some (.tup l)) = some av := h
    obtain ⟨l, h1, h2⟩ := Option.bind_eq_some_iff.1 h
    cases h2
    exact ⟨_, rfl, partsOf_rel he h1⟩
/-- The temporaries behind the arguments are not spoken of. -/
def envBelow (env : List (Nat × AV)) (k : Nat) : Bool := env.all fun e => decide (e.1 < k)
theorem look_below {k : Nat} : ∀ {env : List (Nat × AV)} {t : Nat} {av : AV}, envBelow env k = true → look env t = some av → t < k
  | [], t, av, _, h => by simp [look] at h
  | (t', v) :: env, t, av, hb, h => by
    simp only [envBelow, List.all_cons, Bool.and_eq_true, decide_eq_true_eq] at hb
    simp only [look] at h
    split at h
    · rename_i e; omega
    · exact look_below (env := env) hb.2 h
end Go.Proofs.YtnceiegngfpmkaaAm
namespace Go.Proofs.YtnceiegngfpmkaaAm
set_option linter.unusedVariables false

def Forest.only (F : Forest) (A : List Nat) : Forest := A.map fun r => (r, F.get r)
theorem get_only (F : Forest) (r : Nat) : ∀ A : List Nat, (F.only A).get r = if r ∈ A then F.get r else none
  | [] => rfl
  | x :: A => by
    have ih := get_only F r A
    simp only [Forest.only, List.map_cons, Forest.get] at ih ⊢
    by_cases e : r = x
    · subst e; simp
    · rw [if_neg e, ih]; simp [e]
theorem get_none {r : Nat} : ∀ {F : Forest}, r ∉ F.map (·.1) → F.get r = none
  | [], _ => rfl
  | (k, R) :: F, h => by
    simp only [List.map_cons, List.mem_cons, not_or] at h
    simp only [Forest.get, if_neg h.1]
    exact get_none h.2
def Forest.rest (F : Forest) (A : List Nat) : Forest := F.only ((F.map (·.1)).filter fun r => !A.contains r)
theorem get_rest (F : Forest) (A : List Nat) (r : Nat) : (F.rest A).get r = if r ∈ A then none else F.get r := by
  rw [Forest.rest, get_only]
  by_cases h : r ∈ A
  · simp [h]
  · simp only [h, if_false]
    by_cases hk : r ∈ F.map (·.1)
    · rw [if_pos (by simp only [List.mem_filter, hk, true_and]; simpa using h)]
    · rw [if_neg (by simp only [List.mem_filter]; exact fun x => hk x.1), get_none hk]
/-- The addresses in memory are of such variables. -/
def refsIn (F : Forest) (p : Nat → Bool) : Bool := F.all fun e => match e.2 with
  | some R => R.cs.all fun c => match c with
    | .ref x => x.vars.all p
    | _ => true
  | none => true
theorem refsIn_spec : ∀ {F : Forest} {p : Nat → Bool}, refsIn F p = true → ∀ {r0 : Nat} {R : Root} {o : Nat} {c : AC}, F.get r0 = some R → R.cs[o]? = some (.ref c) → ∀ x ∈ c.vars, p x = true
  | [], p, _, r0, R, o, c, h, _ => by cases h
  | (k, R') :: F, p, hn, r0, R, o, c, h, hc => by
    simp only [refsIn, List.all_cons, Bool.and_eq_true] at hn
    simp only [Forest.get] at h
    split at h
    · subst h
      have := List.all_eq_true.1 hn.1 _ (List.mem_of_getElem? hc)
      exact fun x hx => List.all_eq_true.1 this x hx
    · exact refsIn_spec (F := F) hn.2 h hc
def AC.keep (p : Nat → Bool) : AC → AC
  | .sl q pt => if p q.root then .sl q pt else .dead
  | .ptr q => if p q.root then .ptr q else .dead
  | .clo f caps => if caps.all (fun x => p x.1) then .clo f caps else .dead
  | x => x
section
variable {F F2 : Forest} {βv : Nat → Nat} {β : Layout} {w : World}
theorem AcRel.keep {p : Nat → Bool} (hp : ∀ r, p r = true → F2.get r = F.get r) {x : AC} {v : Value} (h : AcRel F none βv β x v) : AcRel F2 none βv β (x.keep p) v := by
  cases x with
  | lit u => exact h
  | nil τ => exact h
  | dead => trivial
  | sl q pt =>
    simp only [AC.keep]
    split
    · rename_i hq
      obtain ⟨m, τ, l, h1, h2⟩ := h
      exact ⟨m, τ, l, ⟨(at_get (hp _ hq)).2 h1.1, h1.2⟩, h2⟩
    · trivial
  | ptr q =>
    simp only [AC.keep]
    split
    · rename_i hq
      exact ⟨(ptrOk_get (hp _ hq)).2 h.1, h.2⟩
    · trivial
  | clo f caps =>
    simp only [AC.keep]
    split
    · rename_i hq
      refine ⟨fun y hy => (ptrOk_get (hp _ ?_)).2 (h.1 y hy), h.2⟩
      exact List.all_eq_true.1 hq y hy
    · trivial
structure Parted (FA FR : Forest) (βv : Nat → Nat) (β : Layout) (w : World) : Prop where
  a : Lays FA none βv β w
  r : Lays FR none βv β w
  d1 : ∀ b, OwnB FA none βv β b → ¬ OwnB FR none βv β b ∧ ¬ ShB FR none β b
  d2 : ∀ b, ShB FA none β b → ¬ OwnB FR none βv β b
theorem Lays.part (hL : Lays F none βv β w) (A : List Nat) (h1 : refsIn (F.only A) (fun r => A.contains r) = true) (h2 : refsIn (F.rest A) (fun r => !A.contains r) = true) : Parted (F.only A) (F.rest A) βv β w := by
  have ga : ∀ r, (F.only A).get r = F.get r ∨ (F.only A).get r = none := fun r => by
    rw [get_only]; split
    · exact .inl rfl
    · exact .inr rfl
  have gr : ∀ r, (F.rest A).get r = F.get r ∨ (F.rest A).get r = none := fun r => by
    rw [get_rest]; split
    · exact .inr rfl
    · exact .inl rfl
  have inA : ∀ {r R}, (F.only A).get r = some R → r ∈ A ∧ F.get r = some R := fun {r R} h => by
    rw [get_only] at h
    split at h
    · rename_i hr; exact ⟨hr, h⟩
    · cases h
  have inR : ∀ {r R}, (F.rest A).get r = some R → r ∉ A ∧ F.get r = some R := fun {r R} h => by
    rw [get_rest] at h
    split at h
    · cases h
    · rename_i hr; exact ⟨hr, h⟩
  have la : Lays (F.only A) none βv β w := hL.fewer ga fun r R o c k1 _ k3 _ r' hr => by
    have := refsIn_spec h1 k1 k3 r' hr
    rw [get_only, if_pos (by simpa using this)]
  have lr : Lays (F.rest A) none βv β w := hL.fewer gr fun r R o c k1 _ k3 _ r' hr => by
    have := refsIn_spec h2 k1 k3 r' hr
    rw [get_rest, if_neg (by simpa using this)]
  have atA : ∀ {q c}, AtN (F.only A) none q c → q.root ∈ A ∧ AtN F none q c := fun {q c} h => by
    obtain ⟨R, hR⟩ := at_root h.1
    obtain ⟨k1, k2⟩ := inA hR
    exact ⟨k1, (at_get (by rw [get_only, if_pos k1])).1 h.1, h.2⟩
  have atR : ∀ {q c}, AtN (F.rest A) none q c → q.root ∉ A ∧ AtN F none q c := fun {q c} h => by
    obtain ⟨R, hR⟩ := at_root h.1
    obtain ⟨k1, k2⟩ := inR hR
    exact ⟨k1, (at_get (by rw [get_rest, if_neg k1])).1 h.1, h.2⟩
  have oA : ∀ b, OwnB (F.only A) none βv β b → OwnB F none βv β b := by
    rintro b (⟨r, R, k1, k2, k3⟩ | ⟨q, m, τ, l, k1, k2⟩)
    · exact .inl ⟨r, R, (inA k1).2, k2, k3⟩
    · exact .inr ⟨q, m, τ, l, (atA k1).2, k2⟩
  have oR : ∀ b, OwnB (F.rest A) none βv β b → OwnB F none βv β b := by
    rintro b (⟨r, R, k1, k2, k3⟩ | ⟨q, m, τ, l, k1, k2⟩)
    · exact .inl ⟨r, R, (inR k1).2, k2, k3⟩
    · exact .inr ⟨q, m, τ, l, (atR k1).2, k2⟩
  refine ⟨la, lr, fun b hb => ⟨fun hr => ?_, fun hs => ?_⟩, fun b hs hr => ?_⟩
  · rcases hb with ⟨r, R, k1, k2, k3⟩ | ⟨q, m, τ, l, k1, k2, k3, k4⟩ <;> rcases hr with ⟨r', R', j1, j2, j3⟩ | ⟨q', m', τ', l', j1, j2, j3, j4⟩
    · have := hL.vv r r' R R' (inA k1).2 k2 (inR j1).2 j2 (k3.trans j3.symm)
      exact (inR j1).1 (this ▸ (inA k1).1)
    · exact hL.vr r R q' m' τ' l' (inA k1).2 k2 (atR j1).2 j2 j3 (k3.trans j4.symm)
    · exact hL.vr r' R' q m τ l (inR j1).2 j2 (atA k1).2 k2 k3 (j3.trans k4.symm)
    · have := hL.rr q q' m m' τ τ' l l' (atA k1).2 k2 k3 (atR j1).2 j2 j3 (k4.trans j4.symm)
      exact (atR j1).1 (this ▸ (atA k1).1)
  · obtain ⟨q, m, τ, l, k1, k2⟩ := hs
    exact hL.sh b ⟨q, m, τ, l, (atR k1).2, k2⟩ (oA b hb)
  · obtain ⟨q, m, τ, l, k1, k2⟩ := hs
    exact hL.sh b ⟨q, m, τ, l, (atA k1).2, k2⟩ (oR b hr)
end
end Go.Proofs.YtnceiegngfpmkaaAm
namespace Go.Proofs.YtnceiegngfpmkaaAm
set_option linter.unusedVariables false

/-- All rows are of one mode. -/
def uniB (F : Forest) (m : Mode) : Bool := F.all fun e => match e.2 with
  | some R => R.cs.all fun c => match c with
    | .rows m' _ _ => decide (m' = m)
    | _ => true
  | none => true
theorem uni_spec : ∀ {F : Forest} {m : Mode}, uniB F m = true → ∀ {r0 : Nat} {R : Root} {o : Nat} {m' : Mode} {τ : Ty} {l : List (Interp τ)}, F.get r0 = some R → R.cs[o]? = some (.rows m' τ l) → m' = m
  | [], m, _, r0, R, o, m', τ, l, h, _ => by cases h
  | (k, R') :: F, m, hn, r0, R, o, m', τ, l, h, hc => by
    simp only [uniB, List.all_cons, Bool.and_eq_true] at hn
    simp only [Forest.get] at h
    split at h
    · subst h
      have := List.all_eq_true.1 hn.1 _ (List.mem_of_getElem? hc)
      simpa using this
    · exact uni_spec (F := F) hn.2 h hc
theorem uni_at {F : Forest} {m : Mode} (hu : uniB F m = true) (hm : m.next = m) : ∀ {q : Pl} {m' : Mode} {τ : Ty} {l : List (Interp τ)}, At F q (.rows m' τ l) → m' = m
  | .cell r o, m', τ, l, ⟨R, h1, h2⟩ => uni_spec hu h1 h2
  | .sub q i o, m', τ, l, ⟨c0, h0, hi, hs⟩ => by
    cases c0 with
    | rows m0 τ0 l0 =>
      have e := uni_at hu hm (q := q) h0
      rcases sub_mode hs with ⟨x, e2⟩ | ⟨τ', l', e2⟩
      · cases e2
      · cases e2; simp only [Cell.mode, e, hm]
    | _ => simp [Cell.sub] at hs
/-- What is handed (FA), what stays (FR). -/
structure Handed (FA FR : Forest) (βv : Nat → Nat) (βA β : Layout) (w : World) : Prop where
  a : Lays FA none βv βA w
  r : Lays FR none βv β w
  d1 : ∀ b, OwnB FA none βv βA b → ¬ OwnB FR none βv β b ∧ ¬ ShB FR none β b
section
variable {FA FR F' F2 : Forest} {βv βv' : Nat → Nat} {βA β β' : Layout} {w w' : World}
theorem Parted.handed (h : Parted FA FR βv β w) : Handed FA FR βv β β w := ⟨h.a, h.r, h.d1⟩
/-- A row that stays is read by the function as well. -/
theorem Handed.share (h : Handed FA FR βv βA β w) {i : Nat} (hi : FA.get i = none) {q : Pl} {pt : Option (Nat × Nat)} {m : Mode} {τ : Ty} {l : List (Interp τ)} {u : Value} (ha : AtN FR none q (.rows m τ l))
    (hlen : ptLo pt + ptLen pt l.length ≤ l.length) (hv : SlRel (β q) (ptLo pt) (ptLen pt l.length) u) :
    ∃ βA', Handed (FA.put i (some ⟨false, [.rows .sh τ (cutL pt l)]⟩)) FR βv βA' β w ∧ AcRel (FA.put i (some ⟨false, [.rows .sh τ (cutL pt l)]⟩)) none βv βA' (.sl (.cell i 0) none) u ∧
      (∀ b, OwnB (FA.put i (some ⟨false, [.rows .sh τ (cutL pt l)]⟩)) none βv βA' b → OwnB FA none βv βA b) ∧ (∀ x v, AcRel FA none βv βA x v → AcRel (FA.put i (some ⟨false, [.rows .sh τ (cutL pt l)]⟩)) none βv βA' x v) ∧
      (∀ b, ShB (FA.put i (some ⟨false, [.rows .sh τ (cutL pt l)]⟩)) none βA' b → ShB FA none βA b ∨ ShB FR none β b ∨ (OwnB FR none βv β b ∧ m ≠ .sh)) := by
  obtain ⟨γ, g1, g2, g3, g4, g5⟩ := slice_tree h.r ha (fun _ e => by cases e) hlen hv
  have hcov : (Cell.rows m τ (cutL pt l)).fits .sh = true := by cases m <;> rfl
  obtain ⟨k1, k2, k3⟩ := g1.weaken (m := .sh) hcov
  have tu : ∀ b, (OwnB (solo (.rows m τ l)) none βv (treeLay q β) b → OwnB FR none βv β b) ∧ (ShB (solo (.rows m τ l)) none (treeLay q β) b → ShB FR none β b) := fun b => h.r.tree_used ha (fun _ e => by cases e) (fun p => treeLay_app _ β p)
  have noOwn : ∀ b, ¬ OwnB (solo (.rows .sh τ (cutL pt l))) none βv γ b := by
    rintro b (⟨r, R, h1, h2, _⟩ | ⟨q2, m2, τ2, l2, h1, h2, _⟩)
    · rw [solo_noVar h1] at h2; cases h2
    · have : m2 = .sh := uni_at (m := .sh) (by simp [uniB, solo]) rfl h1.1
      subst this
      cases h2
  have shUsed : ∀ b, ShB (solo (.rows .sh τ (cutL pt l))) none γ b → OwnB FR none βv β b ∨ ShB FR none β b := fun b hb => by
    rcases k3 b hb with hb | hb
    · exact .inl ((tu b).1 (g2 b hb))
    · exact .inr ((tu b).2 (g3 b hb))
  obtain ⟨j1, j2, j3⟩ := h.a.addTree hi k1 (.inr ⟨_, _, _, rfl⟩) (fun b hb => absurd hb (noOwn b)) (fun b hb ho => by
    rcases shUsed b hb with h1 | h1
    · exact (h.d1 b ho).1 h1
    · exact (h.d1 b ho).2 h1)
  have own : ∀ b, OwnB (FA.put i (some ⟨false, [.rows .sh τ (cutL pt l)]⟩)) none βv (addLay i βA γ) b → OwnB FA none βv βA b := fun b hb => by
    rcases j2 b hb with hb | hb
    · exact hb
    · exact absurd hb (noOwn b)
  refine ⟨addLay i βA γ, ⟨j1, h.r, fun b hb => h.d1 b (own b hb)⟩, ⟨.sh, τ, cutL pt l, ⟨at_add_new (p := []) rfl, fun _ e => by cases e⟩, by simp [ptLo, ptLen], ?_⟩, own, fun x v hx => AcRel.add hi hx, fun b hb => ?_⟩
  · have := addLay_app i βA γ []
    simp only [Pl.app] at this
    rw [this]
    simpa [ptLo, ptLen] using g4
  · rcases j3 b hb with hb | hb
    · exact .inl hb
    · rcases k3 b hb with hb | hb
      · refine .inr (.inr ⟨(tu b).1 (g2 b hb), fun e => ?_⟩)
        subst e
        have h1 := g2 b hb
        rcases h1 with ⟨r, R, h1, h2, _⟩ | ⟨q2, m2, τ2, l2, h1, h2, _⟩
        · rw [solo_noVar h1] at h2; cases h2
        · have : m2 = .sh := uni_at (m := .sh) (by simp [uniB, solo]) rfl h1.1
          subst this
          cases h2
      · exact .inr (.inl ((tu b).2 (g3 b hb)))
/-- What comes back stands beside what stayed. -/
theorem Handed.back (h : Handed FA FR βv βA β w) (hL : Lays F' none βv' β' w') (hu : ∀ b, ShB F' none β' b → ¬ OwnB FR none βv β b) (hO : ∀ b, OwnB F' none βv' β' b → OwnB FA none βv βA b ∨ w.heap.size ≤ b)
    (hf : ∀ b, b < w.heap.size → ¬ OwnB FA none βv βA b → w'.heap[b]? = w.heap[b]?) (hJ : Joint F2 F' FR) :
    Lays F2 none (joinV F' βv' βv) (joinL F' β' β) w' ∧ (∀ b, OwnB F2 none (joinV F' βv' βv) (joinL F' β' β) b → OwnB F' none βv' β' b ∨ OwnB FR none βv β b) := by
  have lt : ∀ {b}, OwnB FR none βv β b ∨ ShB FR none β b → b < w.heap.size := fun {b} hb => h.r.lt hb
  have hr : Lays FR none βv β w' := h.r.frame fun b hb => hf b (lt hb) fun ho => by
    rcases hb with hb | hb
    · exact (h.d1 b ho).1 hb
    · exact (h.d1 b ho).2 hb
  refine hL.join hJ hr (fun b hb => ?_) (fun b hb => ?_)
  · rcases hO b hb with hb | hb
    · exact h.d1 b hb
    · exact ⟨fun h1 => by have := lt (.inl h1); omega, fun h1 => by have := lt (.inr h1); omega⟩
  · exact hu b hb
theorem uni_noSh (hu : uniB F' .full = true) (b : Nat) : ¬ ShB F' none β' b := by
  rintro ⟨q, m, τ, l, h1, h2, _⟩
  have := uni_at hu rfl h1.1
  subst this
  cases h2
end
end Go.Proofs.YtnceiegngfpmkaaAm
namespace Go.Proofs.YtnceiegngfpmkaaAm
set_option linter.unusedVariables false

inductive Avs (R : AC → Value → Prop) : List AV → List Value → Prop where
  | nil : Avs R [] []
  | cons {x : AV} {v : Value} {xs : List AV} {vs : List Value} (h : AvRel R x v) (t : Avs R xs vs) : Avs R (x :: xs) (v :: vs)
theorem Avs.length {R : AC → Value → Prop} {xs : List AV} {vs : List Value} (h : Avs R xs vs) : xs.length = vs.length := by
  induction h with
  | nil => rfl
  | cons _ _ ih => simp [ih]
theorem Avs.get {R : AC → Value → Prop} {xs : List AV} {vs : List Value} (h : Avs R xs vs) : ∀ {i : Nat} {x : AV}, xs[i]? = some x → ∃ v, vs[i]? = some v ∧ AvRel R x v := by
  induction h with
  | nil => intro i x e; simp at e
  | cons h _ ih =>
    intro i x e
    cases i with
    | zero => simp only [List.getElem?_cons_zero, Option.some.injEq] at e; exact ⟨_, rfl, e ▸ h⟩
    | succ i => simp only [List.getElem?_cons_succ] at e ⊢; exact ih e
def St.evs (S : St) : List Operand → Option (List AV)
  | [] => some []
  | x :: xs => (S.ev x).bind fun v => (S.evs xs).bind fun l => some (v :: l)
theorem evs_rel {S : St} {βv : Nat → Nat} {β : Layout} {a : Act} (he : EnvRel (AcRel S.F S.hole βv β) S.env a.tmps) : ∀ {xs : List Operand} {l : List AV}, S.evs xs = some l → Avs (AcRel S.F S.hole βv β) l (xs.map a.eval)
  | [], l, h => by simp only [St.evs, Option.some.injEq] at h; subst h; exact .nil
  | x :: xs, l, h => by
    obtain ⟨v, h1, h⟩ := Option.bind_eq_some_iff.1 h
    obtain ⟨l', h2, h⟩ := Option.bind_eq_some_iff.1 h
    cases h
    exact .cons (ev_rel he h1) (evs_rel he h2)
def handCell (FR : Forest) (A : List Nat) : Nat → Forest → AC → Option (Nat × Forest × AC)
  | i, FA, .lit v => some (i, FA, .lit v)
  | i, FA, .nil τ => some (i, FA, .nil τ)
  | i, FA, .sl q pt => if A.contains q.root then some (i, FA, .sl q pt) else match nav FR q with
    | some (.rows _ τ l) => if (FA.get i).isNone then some (i + 1, FA.put i (some ⟨false, [.rows .sh τ (cutL pt l)]⟩), .sl (.cell i 0) none) else none
    | _ => none
  | i, FA, .ptr q => if A.contains q.root then some (i, FA, .ptr q) else none
  | i, FA, .clo f caps => if caps.all (fun x => A.contains x.1) then some (i, FA, .clo f caps) else none
  | _, _, _ => none
def handCells (FR : Forest) (A : List Nat) : Nat → Forest → List AC → Option (Nat × Forest × List AC)
  | i, FA, [] => some (i, FA, [])
  | i, FA, x :: xs => (handCell FR A i FA x).bind fun y => (handCells FR A y.1 y.2.1 xs).bind fun z => some (z.1, z.2.1, y.2.2 :: z.2.2)
def handAVs (FR : Forest) (A : List Nat) : Nat → Forest → List AV → Option (Nat × Forest × List AV)
  | i, FA, [] => some (i, FA, [])
  | i, FA, .c x :: xs => (handCell FR A i FA x).bind fun y => (handAVs FR A y.1 y.2.1 xs).bind fun z => some (z.1, z.2.1, .c y.2.2 :: z.2.2)
  | i, FA, .agg cs :: xs => (handCells FR A i FA cs).bind fun y => (handAVs FR A y.1 y.2.1 xs).bind fun z => some (z.1, z.2.1, .agg y.2.2 :: z.2.2)
  | _, _, .tup _ :: _ => none
  | _, _, .pin _ _ :: _ => none
  | _, _, .pinA _ _ :: _ => none
section
variable {F FA FR : Forest} {A : List Nat} {βv : Nat → Nat} {βA β : Layout} {w : World}
theorem rest_sh {F : Forest} {A : List Nat} {β : Layout} {b : Nat} (hb : ShB (F.rest A) none β b) : ShB F none β b := by
  obtain ⟨q, m, τ, l, k1, k2⟩ := hb
  obtain ⟨R, hR⟩ := at_root k1.1
  have : F.get q.root = some R := by
    rw [get_rest] at hR
    split at hR
    · cases hR
    · exact hR
  exact ⟨q, m, τ, l, ⟨(at_get (by rw [hR, this])).1 k1.1, k1.2⟩, k2⟩
theorem rest_own {F : Forest} {A : List Nat} {βv : Nat → Nat} {β : Layout} {b : Nat} (hb : OwnB (F.rest A) none βv β b) : OwnB F none βv β b := by
  have up : ∀ {r R}, (F.rest A).get r = some R → F.get r = some R := fun {r R} hR => by
    rw [get_rest] at hR
    split at hR
    · cases hR
    · exact hR
  rcases hb with ⟨r, R, k1, k2⟩ | ⟨q, m, τ, l, k1, k2⟩
  · exact .inl ⟨r, R, up k1, k2⟩
  · obtain ⟨R, hR⟩ := at_root k1.1
    exact .inr ⟨q, m, τ, l, ⟨(at_get (by rw [hR, up hR])).1 k1.1, k1.2⟩, k2⟩
/-- What is known on the way. -/
structure Way (F : Forest) (A : List Nat) (FA : Forest) (βv : Nat → Nat) (βA β : Layout) (w : World) (O : Nat → Prop) (LS : Prop) : Prop where
  h : Handed FA (F.rest A) βv βA β w
  t : ∀ x v, AcRel (F.only A) none βv β x v → AcRel FA none βv βA x v
  o : ∀ b, OwnB FA none βv βA b → O b
  s : ∀ b, ShB FA none βA b → ShB F none β b ∨ (OwnB F none βv β b ∧ ¬ LS)
/-- From one stop to the next. -/
def Goes (F : Forest) (A : List Nat) (FA FA2 : Forest) (βv : Nat → Nat) (βA β : Layout) (w : World) (O : Nat → Prop) (LS : Prop) (P : Layout → Prop) : Prop :=
  ∃ βA2, Way F A FA2 βv βA2 β w O LS ∧ (∀ x v, AcRel FA none βv βA x v → AcRel FA2 none βv βA2 x v) ∧ P βA2
/-- The rows that are lent are nobody's own. -/
def lentSh (FR : Forest) (A : List Nat) : AC → Bool
  | .sl q _ => A.contains q.root || match nav FR q with
    | some (.rows m _ _) => decide (m = .sh)
    | _ => true
  | _ => true
def lentShs (FR : Forest) (A : List Nat) : AV → Bool
  | .c x => lentSh FR A x
  | .agg cs => cs.all (lentSh FR A)
  | _ => true
theorem handCell_ok {O : Nat → Prop} {LS : Prop} (hW : Way F A FA βv βA β w O LS) {i : Nat} {x : AC} (hLS : LS → lentSh (F.rest A) A x = true) {v : Value} {y : Nat × Forest × AC} (h : handCell (F.rest A) A i FA x = some y) (hx : AcRel F none βv β x v) :
    Goes F A FA y.2.1 βv βA β w O LS (fun βA2 => AcRel y.2.1 none βv βA2 y.2.2 v) := by
  cases x with
  | lit u => cases h; exact ⟨βA, hW, fun _ _ h => h, hx⟩
  | nil τ => cases h; exact ⟨βA, hW, fun _ _ h => h, hx⟩
  | sl q pt =>
    simp only [handCell] at h
    split at h
    · rename_i hq
      cases h
      refine ⟨βA, hW, fun _ _ h => h, hW.t _ _ ?_⟩
      have := AcRel.keep (F2 := F.only A) (p := fun r => A.contains r) (fun r hr => by rw [get_only, if_pos (by simpa using hr)]) hx
      simp only [AC.keep, hq, if_true] at this
      exact this
    · rename_i hq
      split at h
      · rename_i m τ l hnav
        split at h
        · rename_i hi
          cases h
          simp only [Option.isNone_iff_eq_none] at hi
          obtain ⟨m', τ', l', h1, h2, h3⟩ := hx
          have hg : (F.rest A).get q.root = F.get q.root := by rw [get_rest, if_neg (by simpa using hq)]
          have h1' : AtN (F.rest A) none q (.rows m' τ' l') := ⟨(at_get hg).2 h1.1, h1.2⟩
          have := h1'.1.nav
          rw [hnav] at this
          cases this
          obtain ⟨βA2, g1, g2, g3, g4, g5⟩ := hW.h.share hi h1' h2 h3
          refine ⟨βA2, ⟨g1, fun x v hx => g4 x v (hW.t x v hx), fun b hb => hW.o b (g3 b hb), fun b hb => ?_⟩, g4, g2⟩
          rcases g5 b hb with hb | hb | ⟨hb, hm⟩
          · exact hW.s b hb
          · exact .inl (rest_sh hb)
          · refine .inr ⟨rest_own hb, fun hls => hm ?_⟩
            have h6 := hLS hls
            simp only [lentSh, hnav, Bool.or_eq_true] at h6
            rcases h6 with h6 | h6
            · exact absurd h6 hq
            · simpa using h6
        · cases h
      · cases h
  | ptr q =>
    simp only [handCell] at h
    split at h
    · rename_i hq
      cases h
      refine ⟨βA, hW, fun _ _ h => h, hW.t _ _ ?_⟩
      have := AcRel.keep (F2 := F.only A) (p := fun r => A.contains r) (fun r hr => by rw [get_only, if_pos (by simpa using hr)]) hx
      simp only [AC.keep, hq, if_true] at this
      exact this
    · cases h
  | clo f caps =>
    simp only [handCell] at h
    split at h
    · rename_i hq
      cases h
      refine ⟨βA, hW, fun _ _ h => h, hW.t _ _ ?_⟩
      have := AcRel.keep (F2 := F.only A) (p := fun r => A.contains r) (fun r hr => by rw [get_only, if_pos (by simpa using hr)]) hx
      simp only [AC.keep, hq, if_true] at this
      exact this
    · cases h
  | dead => cases h
theorem handCells_ok {O : Nat → Prop} {LS : Prop} : ∀ {xs : List AC} {FA : Forest} {βA : Layout} {i : Nat} {vs : List Value} {y : Nat × Forest × List AC}, Way F A FA βv βA β w O LS → (LS → xs.all (lentSh (F.rest A) A) = true) → handCells (F.rest A) A i FA xs = some y → Acs (AcRel F none βv β) xs vs →
    Goes F A FA y.2.1 βv βA β w O LS (fun βA2 => Acs (AcRel y.2.1 none βv βA2) y.2.2 vs)
  | [], FA, βA, i, vs, y, hW, hLS, h, hr => by
    cases h; cases hr
    exact ⟨βA, hW, fun _ _ h => h, .nil⟩
  | x :: xs, FA, βA, i, vs, y, hW, hLS, h, hr => by
    have l1 : LS → lentSh (F.rest A) A x = true := fun e => by have := hLS e; simp only [List.all_cons, Bool.and_eq_true] at this; exact this.1
    have l2 : LS → xs.all (lentSh (F.rest A) A) = true := fun e => by have := hLS e; simp only [List.all_cons, Bool.and_eq_true] at this; exact this.2
    obtain ⟨y1, h1, h⟩ := Option.bind_eq_some_iff.1 h
    obtain ⟨z, h2, h⟩ := Option.bind_eq_some_iff.1 h
    cases h
    cases hr with
    | cons a b =>
      obtain ⟨β1, w1, t1, p1⟩ := handCell_ok hW l1 h1 a
      obtain ⟨β2, w2, t2, p2⟩ := handCells_ok w1 l2 h2 b
      exact ⟨β2, w2, fun x v h => t2 x v (t1 x v h), .cons (t2 _ _ p1) p2⟩
theorem handAVs_ok {O : Nat → Prop} {LS : Prop} : ∀ {xs : List AV} {FA : Forest} {βA : Layout} {i : Nat} {vs : List Value} {y : Nat × Forest × List AV}, Way F A FA βv βA β w O LS → (LS → xs.all (lentShs (F.rest A) A) = true) → handAVs (F.rest A) A i FA xs = some y → Avs (AcRel F none βv β) xs vs →
    Goes F A FA y.2.1 βv βA β w O LS (fun βA2 => Avs (AcRel y.2.1 none βv βA2) y.2.2 vs)
  | [], FA, βA, i, vs, y, hW, hLS, h, hr => by
    cases h; cases hr
    exact ⟨βA, hW, fun _ _ h => h, .nil⟩
  | .c x :: xs, FA, βA, i, vs, y, hW, hLS, h, hr => by
    have l1 : LS → lentSh (F.rest A) A x = true := fun e => by have := hLS e; simp only [List.all_cons, Bool.and_eq_true] at this; exact this.1
    have l2 : LS → xs.all (lentShs (F.rest A) A) = true := fun e => by have := hLS e; simp only [List.all_cons, Bool.and_eq_true] at this; exact this.2
    obtain ⟨y1, h1, h⟩ := Option.bind_eq_some_iff.1 h
    obtain ⟨z, h2, h⟩ := Option.bind_eq_some_iff.1 h
    cases h
    cases hr with
    | cons a b =>
      obtain ⟨β1, w1, t1, p1⟩ := handCell_ok hW l1 h1 a
      obtain ⟨β2, w2, t2, p2⟩ := handAVs_ok w1 l2 h2 b
      exact ⟨β2, w2, fun x v h => t2 x v (t1 x v h), .cons (x := .c _) (t2 _ _ p1) p2⟩
  | .agg cs :: xs, FA, βA, i, vs, y, hW, hLS, h, hr => by
    have l1 : LS → cs.all (lentSh (F.rest A) A) = true := fun e => by have := hLS e; simp only [List.all_cons, Bool.and_eq_true] at this; exact this.1
    have l2 : LS → xs.all (lentShs (F.rest A) A) = true := fun e => by have := hLS e; simp only [List.all_cons, Bool.and_eq_true] at this; exact this.2
    obtain ⟨y1, h1, h⟩ := Option.bind_eq_some_iff.1 h
    obtain ⟨z, h2, h⟩ := Option.bind_eq_some_iff.1 h
    cases h
    cases hr with
    | cons a b =>
      obtain ⟨us, rfl, a⟩ := a
      obtain ⟨β1, w1, t1, p1⟩ := handCells_ok hW l1 h1 a
      obtain ⟨β2, w2, t2, p2⟩ := handAVs_ok w1 l2 h2 b
      refine ⟨β2, w2, fun x v h => t2 x v (t1 x v h), .cons (x := .agg _) ⟨us, rfl, ?_⟩ p2⟩
      have := Acs.map (f := fun x => x) t2 p1
      simpa using this
  | .tup _ :: _, _, _, _, _, _, _, _, h, _ => by cases h
  | .pin _ _ :: _, _, _, _, _, _, _, _, h, _ => by cases h
  | .pinA _ _ :: _, _, _, _, _, _, _, _, h, _ => by cases h
end
end Go.Proofs.YtnceiegngfpmkaaAm
namespace Go.Proofs.YtnceiegngfpmkaaAm
set_option linter.unusedVariables false

def Forest.over (F' FR : Forest) : Forest := (F'.map (·.1)).foldr (fun r F => F.put r ((F'.get r).or (FR.get r))) FR
theorem get_over (F' FR : Forest) (r : Nat) : (F'.over FR).get r = (F'.get r).or (FR.get r) := by
  have key : ∀ K : List Nat, Forest.get (K.foldr (fun r F => F.put r ((F'.get r).or (FR.get r))) FR) r = if r ∈ K then (F'.get r).or (FR.get r) else FR.get r := by
    intro K
    induction K with
    | nil => simp
    | cons k K ih =>
      simp only [List.foldr_cons, Forest.get_put, ih]
      by_cases e : r = k
      · subst e; simp
      · simp [e]
  rw [Forest.over, key]
  split
  · rfl
  · rename_i h
    rw [get_none h]; simp
def apartB (F' FR : Forest) : Bool := (F'.map (·.1)).all fun r => (F'.get r).isNone || (FR.get r).isNone
theorem joint_over {F' FR : Forest} (h : apartB F' FR = true) : Joint (F'.over FR) F' FR := by
  refine ⟨get_over F' FR, fun r => ?_⟩
  by_cases hk : r ∈ F'.map (·.1)
  · have := List.all_eq_true.1 h r hk
    simp only [Bool.or_eq_true, Option.isNone_iff_eq_none] at this
    exact this
  · exact .inl (get_none hk)
def envFrom : Nat → List AV → List (Nat × AV)
  | _, [] => []
  | i, v :: vs => (i, v) :: envFrom (i + 1) vs
theorem look_from : ∀ {vs : List AV} {i t : Nat} {av : AV}, look (envFrom i vs) t = some av → i ≤ t ∧ vs[t - i]? = some av
  | [], i, t, av, h => by simp [envFrom, look] at h
  | v :: vs, i, t, av, h => by
    simp only [envFrom, look] at h
    split at h
    · rename_i e
      cases h
      subst e
      simp
    · rename_i e
      obtain ⟨h1, h2⟩ := look_from (vs := vs) h
      refine ⟨by omega, ?_⟩
      rw [show t - i = (t - (i + 1)) + 1 by omega]
      exact h2
theorem own_sub {F F2 : Forest} {βv : Nat → Nat} {β : Layout} (h : ∀ r R, F2.get r = some R → F.get r = some R) {b : Nat} (hb : OwnB F2 none βv β b) : OwnB F none βv β b := by
  rcases hb with ⟨r, R, k1, k2⟩ | ⟨q, m, τ, l, k1, k2⟩
  · exact .inl ⟨r, R, h _ _ k1, k2⟩
  · obtain ⟨R, hR⟩ := at_root k1.1
    exact .inr ⟨q, m, τ, l, ⟨(at_get (by rw [hR, h _ _ hR])).1 k1.1, k1.2⟩, k2⟩
end Go.Proofs.YtnceiegngfpmkaaAm
namespace Go.Proofs.YtnceiegngfpmkaaAm
set_option linter.unusedVariables false

def isCall (o : Oper) : Bool := match o.op with
  | .call c => match c.callee with
    | .value (.func _) => true
    | _ => false
  | _ => false
end Go.Proofs.YtnceiegngfpmkaaAm
namespace Go.Proofs.YtnceiegngfpmkaaAm
set_option linter.unusedVariables false

def eqZ : Value → AC → Bool
  | .int k n, .lit (.int k' n') => decide (k = k') && decide (n = n')
  | .bool b, .lit (.bool b') => b == b'
  | .string s, .lit (.string s') => decide (s = s')
  | .slice none 0 0, .nil _ => true
  | _, _ => false
theorem eqZ_spec {v : Value} {c : AC} (h : eqZ v c = true) : some v = zeroVal c := by
  unfold eqZ at h
  split at h
  · simp only [Bool.and_eq_true, decide_eq_true_eq] at h; obtain ⟨rfl, rfl⟩ := h; rfl
  · simp only [beq_iff_eq] at h; subst h; rfl
  · simp only [decide_eq_true_eq] at h; subst h; rfl
  · rfl
  · cases h
def eqZs : List Value → List AC → Bool
  | [], [] => true
  | v :: vs, c :: cs => eqZ v c && eqZs vs cs
  | _, _ => false
theorem eqZs_spec : ∀ {vs : List Value} {cs : List AC}, eqZs vs cs = true → vs.map some = cs.map zeroVal
  | [], [], _ => rfl
  | v :: vs, c :: cs, h => by
    simp only [eqZs, Bool.and_eq_true] at h
    simp only [List.map_cons, eqZ_spec h.1, eqZs_spec h.2]
  | [], _ :: _, h => by simp [eqZs] at h
  | _ :: _, [], h => by simp [eqZs] at h
/-- A type of plain data. -/
structure Row where
  t : TypeId
  bytes : Nat
  agg : Bool
  ty : Ty
def Row.ti (r : Row) : TI := ⟨r.ty.size, r.bytes, r.agg, zeroAC r.ty, some r.ty⟩
def isAggD : TypeDesc → Bool
  | .struct _ | .array _ _ => true
  | _ => false
def Row.fits (P : Program) (r : Row) : Bool :=
  decide (0 < r.ty.size) && match P.info? r.t with
  | some x => decide (x.size = r.ty.size) && decide (x.bytes = r.bytes) && match x.zero with
    | some v => eqZs v.cells.toList (zeroAC r.ty) && decide (v.cells.size = r.ty.size) && v.cells.toList.all (·.oneCell') && match P.underlying r.t with
      | some d => isAggD d == r.agg
      | none => false
    | none => false
  | none => false
def findRow : List Row → TypeId → Option TI
  | [], _ => none
  | r :: rs, t => if t = r.t then some r.ti else findRow rs t
theorem findRow_spec {P : Program} : ∀ {rs : List Row} {t : TypeId} {i : TI}, rs.all (·.fits P) = true → findRow rs t = some i → ∃ r ∈ rs, r.t = t ∧ r.ti = i ∧ r.fits P = true
  | r :: rs, t, i, hf, h => by
    simp only [List.all_cons, Bool.and_eq_true] at hf
    simp only [findRow] at h
    split at h
    · rename_i e
      cases h
      exact ⟨r, by simp, e.symm, rfl, hf.1⟩
    · obtain ⟨r', h1, h2⟩ := findRow_spec hf.2 h
      exact ⟨r', by simp [h1], h2⟩
def ctxOf (P : Program) (rs : List Row) : Ctx := ⟨P, P.underlying, findRow rs⟩
theorem ctxOf_ok {P : Program} {rs : List Row} (hf : rs.all (·.fits P) = true) (ha : P.follows .mixedOrders = true) : (ctxOf P rs).Ok := by
  refine ⟨fun t d h => h, fun t i h => ?_, ha⟩
  obtain ⟨r, _, rfl, rfl, hr⟩ := findRow_spec hf h
  clear h
  have h := hr
  clear hr
  unfold Row.fits at h
  rw [Bool.and_eq_true, decide_eq_true_eq] at h
  obtain ⟨h0, h⟩ := h
  split at h
  · rename_i x hx
    simp only [Bool.and_eq_true, decide_eq_true_eq] at h
    obtain ⟨⟨h1, h2⟩, h⟩ := h
    split at h
    · rename_i v hv
      simp only [Bool.and_eq_true, decide_eq_true_eq] at h
      obtain ⟨⟨⟨h3, h4⟩, h5⟩, h⟩ := h
      split at h
      · rename_i d hd
        simp only [beq_iff_eq] at h
        refine ⟨x, v, hx, h1, h2, hv, eqZs_spec h3, h4, fun c hc => List.all_eq_true.1 h5 c (by simpa using hc), ⟨fun hag => ⟨d, hd, ?_⟩, fun ⟨d', e1, e2⟩ => ?_⟩, ⟨d, hd⟩, fun τ hτ => ?_⟩
        · have hag : r.agg = true := hag
          rw [hag] at h
          cases d with
          | struct f => exact .inl ⟨f, rfl⟩
          | array n e => exact .inr ⟨n, e, rfl⟩
          | _ => simp [isAggD] at h
        · have e1 : P.underlying r.t = some d' := e1
          rw [hd] at e1
          cases e1
          show r.agg = true
          rw [← h]
          rcases e2 with ⟨f, rfl⟩ | ⟨n, e, rfl⟩ <;> rfl
        · cases hτ
          exact ⟨rfl, rfl, h0⟩
      · cases h
    · cases h
  · cases h
end Go.Proofs.YtnceiegngfpmkaaAm
namespace Go.Proofs.YtnceiegngfpmkaaAm
set_option linter.unusedVariables false

/-- The first region's number. -/
def firstId : Code → Nat
  | .region id _ _ => id
  | .seq .skip b => firstId b
  | .seq a _ => firstId a
  | .block _ b => firstId b
  | .loop b => firstId b
  | .cond _ x _ => firstId x
  | _ => 0
/-- Loops and their walks, by the first region of the body; regions that are drawn, and how they are gone through. -/
def toA (L : Nat → St → Option (Out × St)) (P : Nat → Plan) : Code → ACode
  | .skip => .skip
  | .region id ops d => .region id ops d (if d then P id else .list) (1000 * (id + 1))
  | .seq a b => .seq (toA L P a) (toA L P b)
  | .cond c x y => .cond c (toA L P x) (toA L P y)
  | .block id b => .block id (toA L P b)
  | .exit id => .exit id
  | .ret => .ret
  | .loop b => .loop (toA L P b) (L (firstId b))
  | _ => .ret
def goodC : Code → Bool
  | .skip | .region _ _ _ | .exit _ | .ret => true
  | .seq a b => goodC a && goodC b
  | .cond _ x y => goodC x && goodC y
  | .block _ b => goodC b
  | .loop b => goodC b
  | _ => false
theorem erase_toA {L : Nat → St → Option (Out × St)} {P : Nat → Plan} : ∀ {c : Code}, goodC c = true → (toA L P c).erase = c
  | .skip, _ => rfl
  | .region _ _ _, _ => rfl
  | .exit _, _ => rfl
  | .ret, _ => rfl
  | .seq a b, h => by
    simp only [goodC, Bool.and_eq_true] at h
    simp only [toA, ACode.erase, erase_toA h.1, erase_toA h.2]
  | .cond c x y, h => by
    simp only [goodC, Bool.and_eq_true] at h
    simp only [toA, ACode.erase, erase_toA h.1, erase_toA h.2]
  | .block id b, h => by
    simp only [toA, ACode.erase, erase_toA (c := b) h]
  | .loop b, h => by
    simp only [toA, ACode.erase, erase_toA (c := b) h]
/-- What is to be shown of the code: its drawn regions' plans fit. -/
def fitsC (P : Nat → Plan) : Code → Bool
  | .region id ops d => (if d then P id else Plan.list).fits ops d
  | .seq a b => fitsC P a && fitsC P b
  | .cond _ x y => fitsC P x && fitsC P y
  | .block _ b => fitsC P b
  | .loop b => fitsC P b
  | _ => true
/-- The loops in the code. -/
def loopsC : Code → List Code
  | .seq a b => loopsC a ++ loopsC b
  | .cond _ x y => loopsC x ++ loopsC y
  | .block _ b => loopsC b
  | .loop b => b :: loopsC b
  | _ => []
theorem toA_ok {G : Ctx} {n : Nat} {L : Nat → St → Option (Out × St)} {P : Nat → Plan} : ∀ {c : Code}, goodC c = true → fitsC P c = true →
    (∀ b ∈ loopsC c, ∀ S r, L (firstId b) S = some r → CodeOk G n (.loop b) S r) → (toA L P c).Ok G n
  | .skip, _, _, _ => trivial
  | .region _ _ _, _, h, _ => h
  | .exit _, _, _, _ => trivial
  | .ret, _, _, _ => trivial
  | .seq a b, hg, h, hl => by
    simp only [goodC, fitsC, Bool.and_eq_true] at hg h
    exact ⟨toA_ok hg.1 h.1 fun x hx => hl x (by simp [loopsC, hx]), toA_ok hg.2 h.2 fun x hx => hl x (by simp [loopsC, hx])⟩
  | .cond c x y, hg, h, hl => by
    simp only [goodC, fitsC, Bool.and_eq_true] at hg h
    exact ⟨toA_ok hg.1 h.1 fun x hx => hl x (by simp [loopsC, hx]), toA_ok hg.2 h.2 fun x hx => hl x (by simp [loopsC, hx])⟩
  | .block id b, hg, h, hl => toA_ok (c := b) hg h fun x hx => hl x (by simp [loopsC, hx])
  | .loop b, hg, h, hl => fun S r hr => by
    rw [erase_toA (c := b) hg]
    exact hl b (by simp [loopsC]) S r hr
end Go.Proofs.YtnceiegngfpmkaaAm
namespace Go.Proofs.YtnceiegngfpmkaaAm
set_option linter.unusedVariables false
set_option linter.unusedSimpArgs false

def All : List Prop → Prop
  | [] => True
  | p :: ps => p ∧ All ps
theorem All.app : ∀ {ps qs : List Prop}, All (ps ++ qs) → All ps ∧ All qs
  | [], qs, h => ⟨trivial, h⟩
  | p :: ps, qs, h => ⟨⟨h.1, (All.app (ps := ps) h.2).1⟩, (All.app (ps := ps) h.2).2⟩
/-- What is to be shown; what comes of it. -/
abbrev Lg (α : Type) := Option (List Prop × α)
def Lg.bind {α β : Type} (x : Lg α) (f : α → Lg β) : Lg β := Option.bind x fun y => Option.bind (f y.2) fun z => some (y.1 ++ z.1, z.2)
def Lg.of {α : Type} (x : Option α) : Lg α := Option.bind x fun y => some ([], y)
def Lg.say {α : Type} (ps : List Prop) (x : Option α) : Lg α := Option.bind x fun y => some (ps, y)
theorem Lg.bind_spec {α β : Type} {x : Lg α} {f : α → Lg β} {z : List Prop × β} (h : Lg.bind x f = some z) : ∃ ps y qs, x = some (ps, y) ∧ f y = some (qs, z.2) ∧ (All z.1 → All ps ∧ All qs) := by
  unfold Lg.bind at h
  obtain ⟨y, h1, h2⟩ := Option.bind_eq_some_iff.1 h
  obtain ⟨z', h3, h4⟩ := Option.bind_eq_some_iff.1 h2
  cases h4
  exact ⟨y.1, y.2, z'.1, h1, h3, fun h => All.app h⟩
theorem Lg.of_spec {α : Type} {x : Option α} {z : List Prop × α} (h : Lg.of x = some z) : x = some z.2 := by
  obtain ⟨y, h1, h2⟩ := Option.bind_eq_some_iff.1 h
  cases h2
  exact h1
theorem Lg.say_spec {α : Type} {ps : List Prop} {x : Option α} {z : List Prop × α} (h : Lg.say ps x = some z) : x = some z.2 ∧ z.1 = ps := by
  obtain ⟨y, h1, h2⟩ := Option.bind_eq_some_iff.1 h
  cases h2
  exact ⟨h1, rfl⟩

def indexL (G : Ctx) (n : Nat) (o : Oper) (S : St) : Lg St :=
  match o.op with
  | .indexAddr t x ix => match S.ev x, S.lit ix, G.U t with
    | some (.c (.sl q pt)), some (.int _ i), some (.slice e) => match S.row q, G.I e with
      | some ⟨m, τ, l⟩, some ti => if ti.ty = some τ then Lg.say [0 ≤ i ∧ i < (ptLen pt l.length : Nat)] (S.bind n o.dst (.c (.ptr (q.sub (ptLo pt + i.toNat) 0)))) else none
      | _, _ => none
    | some (.c (.ptr q)), some (.int _ i), some (.array len e) => match G.I e with
      | some ti => Lg.say [0 ≤ i ∧ i < (len : Nat), inside S.F (q.shift (i.toNat * ti.size)) = true] (S.bind n o.dst (.c (.ptr (q.shift (i.toNat * ti.size)))))
      | none => none
    | _, _, _ => none
  | _ => none
def cutLg (G : Ctx) (n : Nat) (o : Oper) (S : St) : Lg St :=
  match o.op with
  | .slice t x lo hi mx => match S.ev x, G.U t, mx with
    | some (.c (.sl q pt)), some (.slice e), none => match S.row q, G.I e with
      | some ⟨m, τ, l⟩, some ti => match bound S 0 lo, bound S (ptLen pt l.length) hi with
        | some i, some j => if ti.ty = some τ then Lg.say [0 ≤ i ∧ i ≤ j ∧ j ≤ (ptLen pt l.length : Nat)] (S.bind n o.dst (.c (.sl q (some (ptLo pt + i.toNat, j.toNat - i.toNat))))) else none
        | _, _ => none
      | _, _ => none
    | _, _, _ => none
  | _ => none
def destL (S : St) (τ : Ty) (x : Operand) : Lg (St × Mode × List (Interp τ)) :=
  match S.ev x with
  | some (.c (.nil _)) => some ([], S, .full, [])
  | some (.c (.lit v)) => if isNil v then some ([], S, .full, []) else none
  | some (.c (.sl q pt)) => match S.row q with
    | some ⟨m, τ', l⟩ => if h : τ' = τ then (if m.isOwn = true then Lg.say [ptLo pt + ptLen pt l.length = l.length] ((S.take q).bind fun S1 => some (S1, m.next, cutL pt (castL h l))) else none) else none
    | none => none
  | _ => none
def appendL (G : Ctx) (n r : Nat) (o : Oper) (S : St) : Lg St :=
  match o.op with
  | .call c => match c.callee, c.args.toList, c.argTypes.toList with
    | .builtin .append, [s, x], [t, t'] => if t' = t ∧ S.hole = none ∧ S.aux = [] then match G.U t with
      | some (.slice e) => match G.I e with
        | some ti => match ti.ty with
          | some τ => Lg.bind (destL S τ s) fun d => Option.bind (d.1.src τ x) fun y =>
              if y.1.hole.all (fun q0 => q0.root != r) = true then
                Lg.say [(d.2.2.length + y.2.2.length) * ti.bytes ≤ 140737488355328 ∧ d.2.2.length + y.2.2.length ≤ 9223372036854775807] (y.1.newRow n r o.dst (ofNext (meet τ d.2.1 y.2.1)) τ (d.2.2 ++ y.2.2)) else none
          | none => none
        | none => none
      | _ => none
      else none
    | _, _, _ => none
  | _ => none
def makeL (G : Ctx) (n r : Nat) (o : Oper) (S : St) : Lg St :=
  match o.op with
  | .makeSlice t len cap => match G.U t with
    | some (.slice e) => match G.I e with
      | some ti => match ti.ty with
        | some τ => match S.lit len, S.lit cap with
          | some (.int _ l), some (.int _ c) =>
            if S.hole = none then Lg.say [0 ≤ l ∧ l ≤ c ∧ c.toNat * ti.size ≤ 16777216 ∧ (ti.bytes : Int) * c ≤ 281474976710656 ∧ c ≤ 9223372036854775807] (S.newRow n r o.dst .full τ (List.replicate l.toNat (dflt τ))) else none
          | _, _ => none
        | none => none
      | none => none
    | _ => none
  | _ => none
def eqPl : Pl → Pl → List Prop × Bool
  | .cell r o, .cell r' o' => ([], decide (r = r') && decide (o = o'))
  | .sub q i o, .sub q' i' o' => if (Pl.sub q i o).like (.sub q' i' o') then ([Pl.sub q i o = .sub q' i' o'], true) else ([], false)
  | _, _ => ([], false)
def putL (S : St) (q : Pl) : AC → Lg St
  | .sl q' pt => match nav S.F q' with
    | some (.rows m τ l) =>
      if m.isOwn = true then
        if S.hole.isNone = true then
          match eqPl q' q with
          | (ps, true) => Lg.say ps (S.set q (.rows m τ (cutL pt l)))
          | (_, false) => match q' with
            | .cell r o => if (Pl.cell r o).mayUnder q then none else Lg.of (((S.set (.cell r o) .dead).bind fun S1 => S1.set q (.rows m τ (cutL pt l))).bind fun S2 => some (redirEnv S r o q pt S2))
            | .sub _ _ _ => none
        else none
      else if S.hole.isNone = true then Lg.of (S.set q (.rows m τ (cutL pt l))) else none
    | _ => none
  | x => Lg.of (S.put q x)
def fillL (S : St) (q : Pl) : AC → Lg St
  | .sl (.cell r 0) none => if q.root ≠ r then match S.F.get r with
    | some ⟨false, [.rows m τ l]⟩ => Lg.say [S.hole = some q] (St.set ⟨mapEnv (AC.kill (.cell r 0)) S.env, S.F.put r none, S.hole, S.aux.map (AC.kill (.cell r 0))⟩ q (.rows m τ l))
    | _ => none
    else none
  | _ => none
def put1L (S : St) (q : Pl) (x : AC) : Lg St := if S.hole.isSome = true then fillL S q x else putL S q x
def putsL : Nat → Nat → St → Lg St
  | _, 0, S => match S.aux with
    | [.ptr _] => some ([], { S with aux := [] })
    | _ => none
  | k, n + 1, S => match S.aux with
    | .ptr q :: x :: rest => if (inside S.F (q.shift k) && contOwn S.F (q.shift k)) = true then Lg.bind (put1L { S with aux := .ptr q :: rest } (q.shift k) x) (putsL (k + 1) n) else none
    | _ => none
def storeL (G : Ctx) (n : Nat) (o : Oper) (S : St) : Lg St :=
  match o.op with
  | .store t x v => match S.ev x, (S.ev v).bind acsOf, G.I t with
    | some (.c (.ptr q)), some cs, some ti => if cs.length = ti.size ∧ o.dst = none ∧ S.aux = [] then putsL 0 ti.size { S with aux := .ptr q :: List.zipWith normAC ti.zero cs } else none
    | _, _, _ => none
  | _ => none

/-- Divisions, shifts, a string's byte. -/
def arithL (G : Ctx) (n : Nat) (o : Oper) (S : St) : Lg St :=
  match o.op with
  | .binOp op _ x y _ => match S.lit x, S.lit y with
    | some (.int k a), some (.int k' b) => match op with
      | .quo => if k = k' then Lg.say [b ≠ 0] (S.bind n o.dst (.c (.lit (.int k (k.wrap (a.tdiv b)))))) else none
      | .rem => if k = k' then Lg.say [b ≠ 0] (S.bind n o.dst (.c (.lit (.int k (a.tmod b))))) else none
      | .shl => Lg.say [0 ≤ b] (S.bind n o.dst (.c (.lit (.int k (k.wrap (a * 2 ^ (min b.toNat k.bits)))))))
      | .shr => Lg.say [0 ≤ b] (S.bind n o.dst (.c (.lit (.int k (a.fdiv (2 ^ (min b.toNat k.bits)))))))
      | _ => none
    | _, _ => none
  | .index t x ix => match S.lit x, S.lit ix, G.U t with
    | some (.string s), some (.int _ i), some .string => Lg.say [0 ≤ i ∧ i < (s.size : Nat)] (S.bind n o.dst (.c (.lit (.int .u8 ((s[i.toNat]?).getD 0).toNat))))
    | _, _, _ => none
  | _ => none
section
variable {G : Ctx} {w0 : World} {O0 : Own0} {n r : Nat} {S S1 S' : St} {o : Oper} {ps : List Prop} {q : Pl}
theorem arithL_ok (hG : G.Ok) (h : arithL G n o S = some (ps, S')) (hp : All ps) : ValOk G w0 O0 n o S S' := by
  unfold arithL at h
  split at h
  · rename_i op t x y u hop
    split at h
    · rename_i k a k' b hx hy
      have noEq : ∀ (w : World), op ≠ .eql → op ≠ .neq → (eqGuard op t x y (.int k a) (.int k' b)).run G.P w = .ok () w := fun w h1 h2 => by
        unfold eqGuard
        cases op <;> first | rfl | exact absurd rfl h1 | exact absurd rfl h2
      split at h
      · split at h
        · rename_i hk
          subst hk
          obtain ⟨g1, g2⟩ := Lg.say_spec h
          cases g2
          refine .of fun a' w hS => ⟨.int k (k.wrap (a.tdiv b)), ?_, hS.value (av := .c (.lit (.int k (k.wrap (a.tdiv b))))) (fun βv β hH => rfl) g1⟩
          have hb : ¬ b = 0 := hp.1
          have := noEq w (by simp) (by simp)
          simp [execOp, hop, hS.lit hx, hS.lit hy, this, binOp, Op.intDiv, hb]
        · cases h
      · split at h
        · rename_i hk
          subst hk
          obtain ⟨g1, g2⟩ := Lg.say_spec h
          cases g2
          refine .of fun a' w hS => ⟨.int k (a.tmod b), ?_, hS.value (av := .c (.lit (.int k (a.tmod b)))) (fun βv β hH => rfl) g1⟩
          have hb : ¬ b = 0 := hp.1
          have := noEq w (by simp) (by simp)
          simp [execOp, hop, hS.lit hx, hS.lit hy, this, binOp, Op.intDiv, hb]
        · cases h
      · obtain ⟨g1, g2⟩ := Lg.say_spec h
        cases g2
        refine .of fun a' w hS => ⟨.int k (k.wrap (a * 2 ^ (min b.toNat k.bits))), ?_, hS.value (av := .c (.lit (.int k (k.wrap (a * 2 ^ (min b.toNat k.bits)))))) (fun βv β hH => rfl) g1⟩
        have hb : ¬ b < 0 := by have := hp.1; omega
        have := noEq w (by simp) (by simp)
        simp [execOp, hop, hS.lit hx, hS.lit hy, this, binOp, Op.shift, hb]
      · obtain ⟨g1, g2⟩ := Lg.say_spec h
        cases g2
        refine .of fun a' w hS => ⟨.int k (a.fdiv (2 ^ (min b.toNat k.bits))), ?_, hS.value (av := .c (.lit (.int k (a.fdiv (2 ^ (min b.toNat k.bits)))))) (fun βv β hH => rfl) g1⟩
        have hb : ¬ b < 0 := by have := hp.1; omega
        have := noEq w (by simp) (by simp)
        simp [execOp, hop, hS.lit hx, hS.lit hy, this, binOp, Op.shift, hb]
      · cases h
    · cases h
  · rename_i t x ix hop
    split at h
    · rename_i s k i hx hi hU
      obtain ⟨g1, g2⟩ := Lg.say_spec h
      cases g2
      refine .of fun a' w hS => ⟨.int .u8 ((s[i.toNat]?).getD 0).toNat, ?_, hS.value (av := .c (.lit (.int .u8 ((s[i.toNat]?).getD 0).toNat))) (fun βv β hH => rfl) g1⟩
      obtain ⟨h0, h1⟩ := hp.1
      have hlt : i.toNat < s.size := by omega
      simp [execOp, hop, hS.lit hx, hS.lit hi, Instr.index, asIntOf, run_underlying (hG.u _ _ hU), h0, hlt]
    · cases h
  · cases h
theorem indexL_ok (h : indexL G n o S = some (ps, S')) (hp : All ps) : stepIndex G n o S = some S' := by
  unfold indexL at h
  unfold stepIndex
  split at h
  · rename_i t x ix hop
    simp only [hop]
    split at h
    · rename_i q pt k i e h1 h2 h3
      simp only [h1, h2, h3]
      split at h
      · rename_i m τ l ti h4 h5
        simp only [h4, h5]
        split at h
        · rename_i hty
          obtain ⟨g1, g2⟩ := Lg.say_spec h
          cases g2
          rw [if_pos hty, if_pos hp.1]
          exact g1
        · cases h
      · cases h
    · rename_i q k i len e h1 h2 h3
      simp only [h1, h2, h3]
      split at h
      · rename_i ti h5
        simp only [h5]
        obtain ⟨g1, g2⟩ := Lg.say_spec h
        cases g2
        rw [if_pos hp.1, if_pos hp.2.1]
        exact g1
      · cases h
    · cases h
  · cases h
theorem cutLg_ok (h : cutLg G n o S = some (ps, S')) (hp : All ps) : stepCut G n o S = some S' := by
  unfold cutLg at h
  unfold stepCut
  split at h
  · rename_i t x lo hi mx hop
    simp only [hop]
    split at h
    · rename_i q pt e h1 h2
      simp only [h1, h2]
      split at h
      · rename_i m τ l ti h4 h5
        simp only [h4, h5]
        split at h
        · rename_i i j h6 h7
          simp only [h6, h7]
          split at h
          · rename_i hty
            obtain ⟨g1, g2⟩ := Lg.say_spec h
            cases g2
            rw [if_pos hty, if_pos hp.1]
            exact g1
          · cases h
        · cases h
      · cases h
    · cases h
  · cases h
theorem destL_ok {τ : Ty} {x : Operand} {d : St × Mode × List (Interp τ)} (h : destL S τ x = some (ps, d)) (hp : All ps) : S.dest τ x = some d := by
  unfold destL at h
  unfold St.dest
  split at h
  · rename_i h1
    simp only [h1]
    cases h; rfl
  · rename_i v h1
    simp only [h1]
    split at h
    · rename_i hn; rw [if_pos hn]; cases h; rfl
    · cases h
  · rename_i q pt h1
    simp only [h1]
    split at h
    · rename_i m τ' l h2
      simp only [h2]
      split at h
      · rename_i hτ
        rw [dif_pos hτ]
        split at h
        · rename_i hm
          obtain ⟨g1, g2⟩ := Lg.say_spec h
          cases g2
          rw [if_pos ⟨hm, hp.1⟩]
          exact g1
        · cases h
      · cases h
    · cases h
  · cases h
theorem appendL_ok (h : appendL G n r o S = some (ps, S')) (hp : All ps) : stepAppend G n r o S = some S' := by
  unfold appendL at h
  unfold stepAppend
  split at h
  · rename_i c hop
    simp only [hop]
    split at h
    · rename_i s x t t' h1 h2 h3
      simp only [h1, h2, h3]
      split at h
      · rename_i hc
        rw [if_pos hc]
        split at h
        · rename_i e hU
          simp only [hU]
          split at h
          · rename_i ti hI
            simp only [hI]
            split at h
            · rename_i τ hty
              simp only [hty]
              obtain ⟨ps1, d, ps2, g1, g2, g3⟩ := Lg.bind_spec h
              obtain ⟨a1, a2⟩ := g3 hp
              simp only [destL_ok g1 a1, Option.bind_some]
              obtain ⟨y, k1, k2⟩ := Option.bind_eq_some_iff.1 g2
              simp only [k1, Option.bind_some]
              split at k2
              · rename_i hh
                obtain ⟨b1, b2⟩ := Lg.say_spec k2
                cases b2
                rw [if_pos ⟨a2.1.1, a2.1.2, hh⟩]
                exact b1
              · cases k2
            · cases h
          · cases h
        · cases h
      · cases h
    · cases h
  · cases h
theorem makeL_ok (h : makeL G n r o S = some (ps, S')) (hp : All ps) : stepMake G n r o S = some S' := by
  unfold makeL at h
  unfold stepMake
  split at h
  · rename_i t len cap hop
    try simp only [hop]
    split at h
    · rename_i e hU
      try simp only [hU]
      split at h
      · rename_i ti hI
        try simp only [hI]
        split at h
        · rename_i τ hty
          split at h
          · rename_i k l k' c h1 h2
            try simp only [hty, h1, h2]
            split at h
            · rename_i hh
              obtain ⟨b1, b2⟩ := Lg.say_spec h
              cases b2
              rw [if_pos ⟨hh, hp.1⟩]
              exact b1
            · cases h
          · cases h
        · cases h
      · cases h
    · cases h
  · cases h
theorem eqPl_true : ∀ {q q' : Pl}, eqPl q q' = (ps, true) → All ps → q = q'
  | .cell r o, .cell r' o', h, hp => by
    simp only [eqPl, Prod.mk.injEq, Bool.and_eq_true, decide_eq_true_eq] at h
    obtain ⟨_, rfl, rfl⟩ := h
    rfl
  | .sub q i o, .sub q' i' o', h, hp => by
    simp only [eqPl] at h
    split at h
    · cases h; exact hp.1
    · cases h
  | .sub q i o, .cell r' o', h, hp => by cases h
  | .cell r o, .sub q' i' o', h, hp => by cases h
theorem eqPl_false : ∀ {q q' : Pl}, eqPl q q' = (ps, false) → q ≠ q'
  | .cell r o, .cell r' o', h, e => by
    cases e
    simp [eqPl] at h
  | .sub q i o, .sub q' i' o', h, e => by
    cases e
    simp [eqPl, Pl.like_refl] at h
  | .sub q i o, .cell r' o', h, e => by cases e
  | .cell r o, .sub q' i' o', h, e => by cases e
theorem putL_ok {x : AC} (h : putL S q x = some (ps, S')) (hp : All ps) : S.put q x = some S' := by
  unfold putL at h
  split at h
  · rename_i q' pt
    simp only [St.put]
    split at h
    · rename_i m τ l h1
      simp only [h1]
      split at h
      · rename_i hm
        rw [if_pos hm]
        split at h
        · rename_i hn
          rw [if_pos hn]
          split at h
          · rename_i ps' he
            obtain ⟨b1, b2⟩ := Lg.say_spec h
            cases b2
            rw [if_pos (eqPl_true he hp)]
            exact b1
          · rename_i ps' he
            rw [if_neg (eqPl_false he)]
            split at h
            · split at h
              · cases h
              · rename_i hu
                simp only [if_neg hu]
                exact Lg.of_spec h
            · cases h
        · cases h
      · rename_i hm
        rw [if_neg hm]
        split at h
        · rename_i hn
          rw [if_pos hn]
          exact Lg.of_spec h
        · cases h
    · cases h
  · exact Lg.of_spec h
theorem fillL_ok {x : AC} (h : fillL S q x = some (ps, S')) (hp : All ps) : S.fill q x = some S' := by
  unfold fillL at h
  split at h
  · rename_i r'
    simp only [St.fill]
    split at h
    · rename_i hr
      split at h
      · rename_i m τ l hg
        obtain ⟨b1, b2⟩ := Lg.say_spec h
        cases b2
        rw [if_pos ⟨hp.1, hr⟩]
        simp only [hg]
        exact b1
      · cases h
    · cases h
  · cases h
theorem put1L_ok {x : AC} (h : put1L S q x = some (ps, S')) (hp : All ps) : S.put1 q x = some S' := by
  unfold put1L at h
  unfold St.put1
  split at h
  · rename_i hh; rw [if_pos hh]; exact fillL_ok h hp
  · rename_i hh; rw [if_neg hh]; exact putL_ok h hp
theorem putsL_ok : ∀ {m k : Nat} {S S' : St} {ps : List Prop}, putsL k m S = some (ps, S') → All ps → St.puts k m S = some S'
  | 0, k, S, S', ps, h, hp => by
    simp only [putsL] at h
    simp only [St.puts]
    split at h
    · rename_i q ha
      cases h; rw [ha]
    · cases h
  | m + 1, k, S, S', ps, h, hp => by
    simp only [putsL] at h
    simp only [St.puts]
    split at h
    · rename_i q x rest ha
      split at h
      · rename_i hi
        obtain ⟨ps1, d, ps2, g1, g2, g3⟩ := Lg.bind_spec h
        obtain ⟨a1, a2⟩ := g3 hp
        simp only [ha]
        rw [if_pos hi, put1L_ok g1 a1]
        exact putsL_ok g2 a2
      · cases h
    · cases h
theorem storeL_ok (h : storeL G n o S = some (ps, S')) (hp : All ps) : stepStore G n o S = some S' := by
  unfold storeL at h
  unfold stepStore
  split at h
  · rename_i t x v hop
    simp only [hop]
    split at h
    · rename_i q cs ti h1 h2 h3
      simp only [h1, h2, h3]
      split at h
      · rename_i hc
        rw [if_pos hc]
        exact putsL_ok h hp
      · cases h
    · cases h
  · cases h

/-! ### One operation -/
/-- A choice that is not known: what is told beforehand is to be shown. -/
def askL (b : Bool) : List Bool → Option (List Prop × List Bool × Bool)
  | [] => none
  | a :: ans => some ([b = a], ans, a)
abbrev La := Option (List Prop × List Bool × St)
def La.of (ans : List Bool) (x : Lg St) : La := Option.bind x fun y => some (y.1, ans, y.2)
def isArith : BinOp → Bool
  | .quo | .rem | .shl | .shr => true
  | _ => false
def valL (G : Ctx) (n : Nat) (o : Oper) (S : St) (ans : List Bool) : La :=
  match o.op with
  | .pick c x y => match S.lit c with
    | some (.bool b) => Option.bind (askL b ans) fun z => Option.bind (S.ev (if z.2.2 then x else y)) fun av => Option.bind (S.bind n o.dst av) fun S' => some (z.1, z.2.1, S')
    | _ => none
  | .indexAddr _ _ _ => La.of ans (indexL G n o S)
  | .binOp op _ x y _ => match isArith op, S.lit x with
    | true, some (.int _ _) => La.of ans (arithL G n o S)
    | _, _ => La.of ans (Lg.of (stepVal G n o S))
  | .index _ x _ => match S.lit x with
    | some (.string _) => La.of ans (arithL G n o S)
    | _ => La.of ans (Lg.of (stepVal G n o S))
  | .slice _ x _ _ _ => match S.ev x with
    | some (.c (.sl _ _)) => La.of ans (cutLg G n o S)
    | _ => La.of ans (Lg.of (stepVal G n o S))
  | _ => La.of ans (Lg.of (stepVal G n o S))
def opL (G : Ctx) (n r : Nat) (o : Oper) (S : St) (ans : List Bool) : La :=
  match o.op with
  | .store _ _ _ => La.of ans (storeL G n o S)
  | .alloc _ | .box _ _ => La.of ans (Lg.of (stepAlloc G n r o S))
  | .buildSlice _ 0 _ => La.of ans (Lg.of (stepEmpty G n r o S))
  | .buildSlice _ _ _ => La.of ans (Lg.of (stepSlit G n r o S))
  | .makeSlice _ _ _ => La.of ans (makeL G n r o S)
  | .call c => match c.callee with
    | .builtin .append => La.of ans (appendL G n r o S)
    | _ => valL G n o S ans
  | _ => valL G n o S ans
theorem La.of_spec {ans ans' : List Bool} {x : Lg St} (h : La.of ans x = some (ps, ans', S')) : x = some (ps, S') := by
  obtain ⟨y, h1, h2⟩ := Option.bind_eq_some_iff.1 h
  cases h2
  exact h1
theorem valL_ok (hG : G.Ok) {ans ans' : List Bool} (h : valL G n o S ans = some (ps, ans', S')) (hp : All ps) : ValOk G w0 O0 n o S S' := by
  unfold valL at h
  split at h
  · rename_i c x y hop
    split at h
    · rename_i b hb
      obtain ⟨z, h1, h2⟩ := Option.bind_eq_some_iff.1 h
      obtain ⟨av, h3, h4⟩ := Option.bind_eq_some_iff.1 h2
      obtain ⟨S2, h5, h6⟩ := Option.bind_eq_some_iff.1 h4
      cases h6
      cases ans with
      | nil => cases h1
      | cons a ans =>
        cases h1
        refine stepMove_ok ?_
        unfold stepMove
        have e : b = a := hp.1
        simp only [hop, hb, e, h3, Option.bind_some, h5]
    · cases h
  · exact stepIndex_ok hG (indexL_ok (La.of_spec h) hp)
  · split at h
    · exact arithL_ok hG (La.of_spec h) hp
    · exact stepVal_ok hG (Lg.of_spec (La.of_spec h))
  · split at h
    · exact arithL_ok hG (La.of_spec h) hp
    · exact stepVal_ok hG (Lg.of_spec (La.of_spec h))
  · split at h
    · exact stepCut_ok hG (cutLg_ok (La.of_spec h) hp)
    · exact stepVal_ok hG (Lg.of_spec (La.of_spec h))
  · exact stepVal_ok hG (Lg.of_spec (La.of_spec h))
theorem opL_ok (hG : G.Ok) {ans ans' : List Bool} (h : opL G n r o S ans = some (ps, ans', S')) (hp : All ps) : OpOk G w0 O0 n o S S' := by
  unfold opL at h
  split at h
  · exact stepStore_ok hG (storeL_ok (La.of_spec h) hp)
  · exact stepAlloc_ok hG (Lg.of_spec (La.of_spec h))
  · exact stepAlloc_ok hG (Lg.of_spec (La.of_spec h))
  · exact stepEmpty_ok hG (Lg.of_spec (La.of_spec h))
  · exact stepSlit_ok hG (Lg.of_spec (La.of_spec h))
  · exact stepMake_ok hG (makeL_ok (La.of_spec h) hp)
  · split at h
    · exact stepAppend_ok hG (appendL_ok (La.of_spec h) hp)
    · exact (valL_ok hG h hp).op
  · exact (valL_ok hG h hp).op
end
end Go.Proofs.YtnceiegngfpmkaaAm
namespace Go.Proofs.YtnceiegngfpmkaaAm
set_option linter.unusedVariables false
set_option linter.unusedSimpArgs false

def Pl.ren (ρ : Nat → Nat) : Pl → Pl
  | .cell r o => .cell (ρ r) o
  | .sub q i o => .sub (q.ren ρ) i o
def AC.ren (ρ : Nat → Nat) : AC → AC
  | .sl q pt => .sl (q.ren ρ) pt
  | .ptr q => .ptr (q.ren ρ)
  | .clo f caps => .clo f (caps.map fun x => (ρ x.1, x.2))
  | x => x
def Cell.ren (ρ : Nat → Nat) : Cell → Cell
  | .ref c => .ref (c.ren ρ)
  | c => c
def Root.ren (ρ : Nat → Nat) (R : Root) : Root := ⟨R.mem, R.cs.map (Cell.ren ρ)⟩
def Forest.ren (ρ : Nat → Nat) (F : Forest) : Forest := F.map fun x => (ρ x.1, x.2.map (Root.ren ρ))
structure Renamed (ρ σ : Nat → Nat) (F F2 : Forest) : Prop where
  get : ∀ r, F2.get (ρ r) = (F.get r).map (Root.ren ρ)
  left : ∀ r, σ (ρ r) = r
  right : ∀ r, ρ (σ r) = r
section
variable {ρ σ : Nat → Nat} {F F2 : Forest} {h : Option Pl} {βv : Nat → Nat} {β : Layout} {w : World}
theorem Pl.ren_ren (hl : ∀ r, σ (ρ r) = r) : ∀ q : Pl, (q.ren ρ).ren σ = q
  | .cell r o => by simp [Pl.ren, hl]
  | .sub q i o => by simp [Pl.ren, Pl.ren_ren hl q]
theorem AC.ren_ren (hl : ∀ r, σ (ρ r) = r) (x : AC) : (x.ren ρ).ren σ = x := by
  cases x with
  | clo f caps =>
    simp only [AC.ren, List.map_map]
    congr 1
    conv => rhs; rw [← List.map_id caps]
    apply List.map_congr_left
    intro x _
    simp [hl]
  | _ => simp [AC.ren, Pl.ren_ren hl]
theorem Cell.ren_ren (hl : ∀ r, σ (ρ r) = r) (x : Cell) : (x.ren ρ).ren σ = x := by
  cases x <;> simp [Cell.ren, AC.ren_ren hl]
theorem Root.ren_ren (hl : ∀ r, σ (ρ r) = r) (R : Root) : (R.ren ρ).ren σ = R := by
  cases R with
  | mk m cs =>
    simp only [Root.ren, List.map_map, Root.mk.injEq, true_and]
    conv => rhs; rw [← List.map_id cs]
    apply List.map_congr_left
    intro x _
    simp [Cell.ren_ren hl]
theorem Renamed.symm (hR : Renamed ρ σ F F2) : Renamed σ ρ F2 F := by
  refine ⟨fun r => ?_, hR.right, hR.left⟩
  have := hR.get (σ r)
  rw [hR.right] at this
  rw [this]
  cases F.get (σ r) with
  | none => rfl
  | some R => simp [Root.ren_ren hR.left]
theorem Renamed.refl (h : ∀ r, F2.get r = F.get r) : Renamed id id F F2 := by
  have e : ∀ R : Root, R.ren id = R := fun R => by
    have := Root.ren_ren (ρ := id) (σ := id) (fun _ => rfl) R
    have e1 : ∀ q : Pl, q.ren id = q := fun q => by induction q <;> simp_all [Pl.ren]
    have e2 : ∀ x : AC, x.ren id = x := fun x => by cases x <;> simp [AC.ren, e1]
    have e3 : ∀ x : Cell, x.ren id = x := fun x => by cases x <;> simp [Cell.ren, e2]
    cases R with
    | mk m cs =>
      simp only [Root.ren, Root.mk.injEq, true_and]
      conv => rhs; rw [← List.map_id cs]
      exact List.map_congr_left fun x _ => by simp [e3]
  refine ⟨fun r => ?_, fun _ => rfl, fun _ => rfl⟩
  rw [id, h]
  cases F.get r <;> simp [e]
theorem Pl.ren_id (q : Pl) : q.ren id = q := by induction q <;> simp_all [Pl.ren]
theorem AC.ren_id (x : AC) : x.ren id = x := by cases x <;> simp [AC.ren, Pl.ren_id]
theorem Cell.ren_len (c : Cell) : (c.ren ρ).len = c.len := by cases c <;> rfl
theorem Cell.ren_sub (c : Cell) (i o : Nat) : (c.ren ρ).sub i o = c.sub i o := by cases c <;> rfl
theorem sub_ren {c c' : Cell} {i o : Nat} (h : c.sub i o = some c') : c'.ren ρ = c' := by
  rcases sub_mode h with ⟨x, rfl⟩ | ⟨τ, l, rfl⟩ <;> rfl
theorem at_ren (hR : Renamed ρ σ F F2) : ∀ {q : Pl} {c : Cell}, At F q c → At F2 (q.ren ρ) (c.ren ρ)
  | .cell r o, c, ⟨R, h1, h2⟩ => ⟨R.ren ρ, by rw [hR.get, h1]; rfl, by simp [Root.ren, h2]⟩
  | .sub q i o, c, ⟨c0, h1, h2, h3⟩ => ⟨c0.ren ρ, at_ren hR h1, by rw [Cell.ren_len]; exact h2, by rw [Cell.ren_sub, sub_ren h3]; exact h3⟩
theorem Pl.app_ren : ∀ (p : List (Nat × Nat)) (q : Pl), (q.app p).ren ρ = (q.ren ρ).app p
  | [], q => rfl
  | (i, o) :: p, q => by simp only [Pl.app]; rw [Pl.app_ren p]; rfl
theorem under_ren {q q2 : Pl} (h : q.Under q2) : (q.ren ρ).Under (q2.ren ρ) := by
  obtain ⟨p, rfl⟩ := h
  exact ⟨p, Pl.app_ren p q⟩
theorem atN_ren (hR : Renamed ρ σ F F2) {q : Pl} {c : Cell} (ha : AtN F h q c) : AtN F2 (h.map (Pl.ren ρ)) (q.ren ρ) (c.ren ρ) := by
  refine ⟨at_ren hR ha.1, fun q0 e hu => ?_⟩
  obtain ⟨q1, e1, rfl⟩ := Option.map_eq_some_iff.1 e
  have := under_ren (ρ := σ) hu
  rw [Pl.ren_ren hR.left, Pl.ren_ren hR.left] at this
  exact ha.2 q1 e1 this
theorem atN_back (hR : Renamed ρ σ F F2) {q : Pl} {c : Cell} (ha : AtN F2 (h.map (Pl.ren ρ)) q c) : AtN F h (q.ren σ) (c.ren σ) := by
  have := atN_ren hR.symm ha
  have e : (h.map (Pl.ren ρ)).map (Pl.ren σ) = h := by cases h <;> simp [Pl.ren_ren hR.left]
  rwa [e] at this
def renL (σ : Nat → Nat) (β : Layout) : Layout := fun q => β (q.ren σ)
def renV (σ : Nat → Nat) (βv : Nat → Nat) : Nat → Nat := fun r => βv (σ r)
theorem addr_ren (hl : ∀ r, σ (ρ r) = r) (q : Pl) : (q.ren ρ).addr (renV σ βv) (renL σ β) = q.addr βv β := by
  cases q with
  | cell r o => simp [Pl.ren, Pl.addr, renV, hl]
  | sub q i o => simp [Pl.ren, Pl.addr, renL, Pl.ren_ren hl]
theorem ptrOk_ren (hR : Renamed ρ σ F F2) {q : Pl} (hp : PtrOk F h q) : PtrOk F2 (h.map (Pl.ren ρ)) (q.ren ρ) := by
  cases q with
  | cell r o =>
    obtain ⟨R, h1, h2, h3⟩ := hp
    exact ⟨R.ren ρ, by rw [hR.get, h1]; rfl, h2, by simpa [Root.ren] using h3⟩
  | sub q i o =>
    obtain ⟨m, τ, l, h1, h2⟩ := hp
    exact ⟨m, τ, l, atN_ren hR h1, h2⟩
theorem acRel_ren (hR : Renamed ρ σ F F2) {x : AC} {v : Value} (hx : AcRel F h βv β x v) : AcRel F2 (h.map (Pl.ren ρ)) (renV σ βv) (renL σ β) (x.ren ρ) v := by
  cases x with
  | lit u => exact hx
  | nil τ => exact hx
  | dead => trivial
  | sl q pt =>
    obtain ⟨m, τ, l, h1, h2, h3⟩ := hx
    refine ⟨m, τ, l, atN_ren hR h1, h2, ?_⟩
    simp only [renL, Pl.ren_ren hR.left]
    exact h3
  | ptr q => exact ⟨ptrOk_ren hR hx.1, by rw [addr_ren hR.left]; exact hx.2⟩
  | clo f caps =>
    refine ⟨fun y hy => ?_, ?_⟩
    · obtain ⟨x, hx1, rfl⟩ := List.mem_map.1 hy
      exact ptrOk_ren hR (hx.1 x hx1)
    · rw [hx.2]
      simp [AC.ren, renV, hR.left, Function.comp_def]
theorem inCell_ren (x : AC) : (x.ren ρ).inCell = x.inCell := by
  cases x with
  | ptr q => cases q <;> rfl
  | _ => rfl
theorem cellRel_ren (hR : Renamed ρ σ F F2) {c : Cell} {L : Lay} {u : Value} (hx : CellRel F βv β c L u) : CellRel F2 (renV σ βv) (renL σ β) (c.ren ρ) L u := by
  cases c with
  | v x => exact hx
  | rows m τ l => exact hx
  | dead => exact hx
  | ref c => exact ⟨by rw [inCell_ren]; exact hx.1, acRel_ren hR hx.2⟩
theorem inMem_ren (hR : Renamed ρ σ F F2) {q : Pl} (hq : InMem F q) : InMem F2 (q.ren ρ) := by
  cases q with
  | cell r o =>
    obtain ⟨R, h1, h2⟩ := hq
    exact ⟨R.ren ρ, by rw [hR.get, h1]; rfl, h2⟩
  | sub q i o => trivial
theorem get_back (hR : Renamed ρ σ F F2) {r : Nat} {R : Root} (hr : F2.get r = some R) : F.get (σ r) = some (R.ren σ) := by
  have := hR.symm.get r
  rw [hr] at this
  exact this
theorem ownB_back (hR : Renamed ρ σ F F2) {b : Nat} (hb : OwnB F2 (h.map (Pl.ren ρ)) (renV σ βv) (renL σ β) b) : OwnB F h βv β b := by
  rcases hb with ⟨r, R, h1, h2, h3⟩ | ⟨q, m, τ, l, h1, h2, h3, h4⟩
  · exact .inl ⟨σ r, R.ren σ, get_back hR h1, h2, h3⟩
  · exact .inr ⟨q.ren σ, m, τ, l, atN_back hR h1, h2, h3, h4⟩
theorem ownB_ren (hR : Renamed ρ σ F F2) {b : Nat} (hb : OwnB F h βv β b) : OwnB F2 (h.map (Pl.ren ρ)) (renV σ βv) (renL σ β) b := by
  rcases hb with ⟨r, R, h1, h2, h3⟩ | ⟨q, m, τ, l, h1, h2, h3, h4⟩
  · exact .inl ⟨ρ r, R.ren ρ, by rw [hR.get, h1]; rfl, h2, by simp [renV, hR.left, h3]⟩
  · exact .inr ⟨q.ren ρ, m, τ, l, atN_ren hR h1, h2, by simpa [renL, Pl.ren_ren hR.left] using h3, by simpa [renL, Pl.ren_ren hR.left] using h4⟩
theorem shB_back (hR : Renamed ρ σ F F2) {b : Nat} (hb : ShB F2 (h.map (Pl.ren ρ)) (renL σ β) b) : ShB F h β b := by
  obtain ⟨q, m, τ, l, h1, h2, h3, h4⟩ := hb
  exact ⟨q.ren σ, m, τ, l, atN_back hR h1, h2, h3, h4⟩
theorem ren_inj (hl : ∀ r, σ (ρ r) = r) {q q' : Pl} (e : q.ren ρ = q'.ren ρ) : q = q' := by
  have := congrArg (Pl.ren σ) e
  rwa [Pl.ren_ren hl, Pl.ren_ren hl] at this
theorem Lays.ren (hR : Renamed ρ σ F F2) (hL : Lays F h βv β w) : Lays F2 (h.map (Pl.ren ρ)) (renV σ βv) (renL σ β) w := by
  have inj : ∀ {q q' : Pl}, q.ren σ = q'.ren σ → q = q' := fun e => ren_inj hR.right e
  constructor
  · intro q c ha hm
    obtain ⟨u, h1, h2⟩ := hL.cells (q.ren σ) (c.ren σ) (atN_back hR ha) (inMem_ren hR.symm hm)
    refine ⟨u, ?_, ?_⟩
    · rw [← addr_ren hR.left (q.ren σ), Pl.ren_ren hR.right] at h1
      exact h1
    · have := cellRel_ren hR h2
      rw [Cell.ren_ren hR.right] at this
      exact this
  · exact fun q m τ l ha => hL.rows _ m τ l (atN_back hR ha)
  · exact fun q m τ l ha => hL.ownb _ m τ l (atN_back hR ha)
  · intro r R h1 h2
    obtain ⟨cs, e, h3, h4⟩ := hL.vars (σ r) (R.ren σ) (get_back hR h1) h2
    exact ⟨cs, e, h3, by simpa [Root.ren] using h4⟩
  · intro r r' R R' h1 h2 h3 h4 e
    have := hL.vv (σ r) (σ r') (R.ren σ) (R'.ren σ) (get_back hR h1) h2 (get_back hR h3) h4 e
    rw [← hR.right r, ← hR.right r', this]
  · exact fun q q' m m' τ τ' l l' h1 h2 h3 h4 h5 h6 e => inj (hL.rr _ _ m m' τ τ' l l' (atN_back hR h1) h2 h3 (atN_back hR h4) h5 h6 e)
  · exact fun r R q m τ l h1 h2 h3 h4 h5 => hL.vr (σ r) (R.ren σ) _ m τ l (get_back hR h1) h2 (atN_back hR h3) h4 h5
  · exact fun b hb ho => hL.sh b (shB_back hR hb) (ownB_back hR ho)
end
/-! ### The same roots in another list -/
theorem Lays.same {F F2 : Forest} {h : Option Pl} {βv : Nat → Nat} {β : Layout} {w : World} (hg : ∀ r, F2.get r = F.get r) (hL : Lays F h βv β w) : Lays F2 h βv β w := by
  have := hL.ren (Renamed.refl hg)
  have e : h.map (Pl.ren id) = h := by cases h <;> simp [Pl.ren_id]
  have e2 : renL id β = β := by funext q; simp [renL, Pl.ren_id]
  rw [e, e2] at this
  exact this
theorem AcRel.same {F F2 : Forest} {h : Option Pl} {βv : Nat → Nat} {β : Layout} {x : AC} {v : Value} (hg : ∀ r, F2.get r = F.get r) (hx : AcRel F h βv β x v) : AcRel F2 h βv β x v := by
  have := acRel_ren (Renamed.refl hg) hx
  have e : h.map (Pl.ren id) = h := by cases h <;> simp [Pl.ren_id]
  have e2 : renL id β = β := by funext q; simp [renL, Pl.ren_id]
  rw [e, e2, AC.ren_id] at this
  exact this
theorem ownB_same {F F2 : Forest} {h : Option Pl} {βv : Nat → Nat} {β : Layout} {b : Nat} (hg : ∀ r, F2.get r = F.get r) (hb : OwnB F2 h βv β b) : OwnB F h βv β b := by
  have e : h.map (Pl.ren id) = h := by cases h <;> simp [Pl.ren_id]
  have e2 : renL id β = β := by funext q; simp [renL, Pl.ren_id]
  refine ownB_back (Renamed.refl hg) ?_
  rw [e, e2]
  exact hb
theorem shB_same {F F2 : Forest} {h : Option Pl} {β : Layout} {b : Nat} (hg : ∀ r, F2.get r = F.get r) (hb : ShB F2 h β b) : ShB F h β b := by
  have e : h.map (Pl.ren id) = h := by cases h <;> simp [Pl.ren_id]
  have e2 : renL id β = β := by funext q; simp [renL, Pl.ren_id]
  refine shB_back (Renamed.refl hg) ?_
  rw [e, e2]
  exact hb
theorem Acs.mono {R R' : AC → Value → Prop} (hf : ∀ x v, R x v → R' x v) {xs : List AC} {vs : List Value} (h : Acs R xs vs) : Acs R' xs vs := by
  induction h with
  | nil => exact .nil
  | cons h _ ih => exact .cons (hf _ _ h) ih
theorem Holds.same {S S2 : St} {βv : Nat → Nat} {β : Layout} {tmps : Array Value} {xs : List Value} {w : World} (hg : ∀ r, S2.F.get r = S.F.get r) (he : ∀ t av, look S2.env t = some av → look S.env t = some av) (hh : S2.hole = S.hole) (ha : S2.aux = S.aux) (hH : Holds S βv β tmps xs w) : Holds S2 βv β tmps xs w := by
  refine ⟨?_, fun t av h => ?_, ?_⟩
  · rw [hh]; exact hH.lays.same hg
  · rw [hh]; exact (hH.env t av (he t av h)).mono fun x v => AcRel.same hg
  · rw [hh, ha]; exact Acs.mono (fun x v => AcRel.same hg) hH.aux
end Go.Proofs.YtnceiegngfpmkaaAm
namespace Go.Proofs.YtnceiegngfpmkaaAm
set_option linter.unusedVariables false
set_option linter.unusedSimpArgs false

def isMem (o : Oper) : Bool := match o.op with
  | .store _ _ _ | .alloc _ | .box _ _ | .buildSlice _ _ _ | .makeSlice _ _ _ => true
  | .call c => match c.callee with
    | .builtin .append => true
    | .builtin _ => false
    | _ => true
  | _ => false
/-- What must not be thought of before it comes up: what changes memory, or writes a temporary anew. -/
def isMover (o : Oper) : Bool := isMem o || match o.op with
  | .assign _ => true
  | _ => false
def prs (ops : Array Oper) (i : Nat) : List Nat := match ops[i]? with
  | some o => o.after.toList.filterMap fun e => if Region.binds .any e then some e.on else none
  | none => []
def ancL (ops : Array Oper) : List (List Nat) :=
  (List.range ops.size).foldl (fun L i => L ++ [((prs ops i).flatMap fun p => p :: L.getD p []).eraseDups]) []
def anc (L : List (List Nat)) (i : Nat) : List Nat := L.getD i []
def ancOk (ops : Array Oper) (L : List (List Nat)) : Bool :=
  (List.range ops.size).all fun i => (prs ops i).all (fun p => decide (p < i)) && (anc L i).all fun p => (prs ops i).contains p || (prs ops i).any fun q => (anc L q).contains p
/-- What is read was written before, or not at all. -/
def tempsOk (ops : Array Oper) (L : List (List Nat)) : Bool :=
  (List.range ops.size).all fun i => match ops[i]? with
    | some o => (o.looksAt ops).all fun t => (List.range ops.size).all fun j => match ops[j]? with
      | some o' => o'.dst != some t || isMover o' || (anc L i).contains j
      | none => true
    | none => true
def dstsOk (ops : Array Oper) : Bool :=
  (List.range ops.size).all fun i => (List.range ops.size).all fun j => i == j || match (ops[i]?).bind (·.dst) with
    | some d => (ops[j]?).bind (·.dst) != some d
    | none => true
def moversOf (ops : Array Oper) : List Nat := (List.range ops.size).filter fun i => (ops[i]?).any isMover
def fltOk (ops : Array Oper) (L : List (List Nat)) : Bool := Region.noSelect ops && ancOk ops L && tempsOk ops L && dstsOk ops
/-- All before it that change memory have come up. -/
def doneB (ms : List Nat) (L : List (List Nat)) (I : List Nat) (i : Nat) : Bool := ms.all fun m => !(anc L i).contains m || I.contains m
/-- May this one, that changes nothing, come up when those of I have? -/
def openAt (ms : List Nat) (L : List (List Nat)) (I : List Nat) (i : Nat) : Bool :=
  !ms.contains i && doneB ms L I i && I.all fun m => !(anc L m).contains i
/-- Has it become possible by the last one? -/
def newAt (ms : List Nat) (L : List (List Nat)) (I : List Nat) (last : Option Nat) (i : Nat) : Bool :=
  !ms.contains i && doneB ms L I i && match last with
    | none => true
    | some m => (anc L i).contains m
/-- Which of those that change memory may come up. -/
def readyM (ms : List Nat) (L : List (List Nat)) (I : List Nat) : List Nat := ms.filter fun m => !I.contains m && doneB ms L I m

section
variable {ops : Array Oper} {L : List (List Nat)} {P : Program}
/-- The listed ones agree with what is thought of. -/
structure Agr (ops : Array Oper) (I : List Nat) (listed : Array Bool) (a b : Act) : Prop where
  size : listed.size = ops.size
  tsz : a.tmps.size = b.tmps.size
  defs : a.defers = b.defers
  down : ∀ i, listed.getD i false = true → ∀ p ∈ prs ops i, listed.getD p false = true
  mov : ∀ m, m ∈ moversOf ops → listed.getD m false = I.contains m
  tmps : ∀ t, (∀ j o, ops[j]? = some o → o.dst = some t → isMover o = false → listed.getD j false = true) → a.tmps[t]? = b.tmps[t]?
def unl (ops : Array Oper) (listed : Array Bool) : Nat := ((List.range ops.size).filter fun i => !listed.getD i false).length
def Flt (P : Program) (ops : Array Oper) (I : List Nat) (Q : Exit → Act → World → Prop) (b : Act) (w : World) : Prop :=
  ∀ fuel listed a, Agr ops I listed a b → unl ops listed ≤ fuel → wpAny P .any ops Q fuel listed a w
/-- The same, where what depends on the last one that came up has not come up yet. -/
def FltE (P : Program) (ops : Array Oper) (L : List (List Nat)) (I : List Nat) (last : Option Nat) (Q : Exit → Act → World → Prop) (b : Act) (w : World) : Prop :=
  ∀ fuel listed a, Agr ops I listed a b → (∀ i, newAt (moversOf ops) L I last i = true → listed.getD i false = false) → unl ops listed ≤ fuel → wpAny P .any ops Q fuel listed a w
theorem filter_le {p p' : Nat → Bool} : ∀ l : List Nat, (∀ x ∈ l, p' x = true → p x = true) → (l.filter p').length ≤ (l.filter p).length
  | [], _ => Nat.le_refl _
  | x :: l, h => by
    have ih := filter_le l (fun y hy => h y (by simp [hy]))
    have hx := h x (by simp)
    simp only [List.filter_cons]
    cases h1 : p' x <;> cases h2 : p x <;> simp_all <;> omega
theorem filter_lt {p p' : Nat → Bool} {i : Nat} : ∀ l : List Nat, (∀ x ∈ l, p' x = true → p x = true) → i ∈ l → p i = true → p' i = false → (l.filter p').length < (l.filter p).length
  | x :: l, h, hi, h1, h2 => by
    have hx := h x (by simp)
    have hle := filter_le l (fun y hy => h y (by simp [hy]))
    simp only [List.filter_cons]
    rcases List.mem_cons.1 hi with rfl | hi
    · simp [h1, h2]; omega
    · have ih := filter_lt l (fun y hy => h y (by simp [hy])) hi h1 h2
      cases h3 : p' x <;> cases h4 : p x <;> simp_all <;> omega
theorem getD_set {listed : Array Bool} {i j : Nat} (h : i < listed.size) : (listed.setIfInBounds i true).getD j false = if i = j then true else listed.getD j false := by
  simp only [Array.getD_eq_getD_getElem?, Array.getElem?_setIfInBounds]
  split
  · rename_i e; subst e; simp [h]
  · rfl
theorem anc_listed (hA : ancOk ops L = true) {listed : Array Bool} (hd : ∀ i, listed.getD i false = true → ∀ p ∈ prs ops i, listed.getD p false = true) (hs : listed.size = ops.size) :
    ∀ i, (∀ p ∈ prs ops i, listed.getD p false = true) → i < ops.size → ∀ p ∈ anc L i, listed.getD p false = true := by
  intro i
  induction i using Nat.strongRecOn with
  | _ i ih =>
    intro hi hlt p hp
    have h := List.all_eq_true.1 hA i (List.mem_range.2 hlt)
    simp only [Bool.and_eq_true, List.all_eq_true, decide_eq_true_eq, Bool.or_eq_true, List.contains_iff_mem, List.any_eq_true] at h
    rcases h.2 p hp with h1 | ⟨q, h1, h2⟩
    · exact hi p h1
    · have hq := h.1 q h1
      exact ih q hq (hd q (hi q h1)) (by omega) p h2
theorem set_agr {M : List Nat} {listed : Array Bool} {a b : Act} {i : Nat} {o : Oper} {v : Value} (h : Agr ops M listed a b) (hd : dstsOk ops = true) (ho : ops[i]? = some o) (hr : ∀ p ∈ prs ops i, listed.getD p false = true) (M' : List Nat)
    (hm : ∀ m, m ∈ moversOf ops → (if i = m then true else listed.getD m false) = M'.contains m) : Agr ops M' (listed.setIfInBounds i true) (a.put o.dst v) (b.put o.dst v) := by
  have hi : i < listed.size := by
    rw [h.size]
    exact (Array.getElem?_eq_some_iff.1 ho).1
  refine ⟨by simp [h.size], ?_, ?_, fun k hk p hp => ?_, fun j hj => ?_, fun t ht => ?_⟩
  · unfold Act.put; cases o.dst <;> simp [h.tsz]
  · unfold Act.put; cases o.dst <;> simp [h.defs]
  · rw [getD_set hi] at hk ⊢
    split
    · rfl
    · split at hk
      · rename_i e; subst e; exact hr p hp
      · exact h.down k hk p hp
  · rw [getD_set hi]; exact hm j hj
  · by_cases e : o.dst = some t
    · simp only [Act.put, e, Array.getElem?_setIfInBounds_self, h.tsz]
    · have e2 : ∀ x : Act, (x.put o.dst v).tmps[t]? = x.tmps[t]? := fun x => by
        unfold Act.put
        cases hdst : o.dst with
        | none => rfl
        | some d =>
          have : d ≠ t := fun e' => e (by rw [hdst, e'])
          simp [Array.getElem?_setIfInBounds_ne this]
      rw [e2, e2]
      refine h.tmps t fun j o' hj hdj hmv => ?_
      have := ht j o' hj hdj hmv
      rw [getD_set hi] at this
      split at this
      · rename_i e'
        subst e'
        rw [ho] at hj
        cases hj
        exact absurd hdj e
      · exact this
theorem upon_swap {o : Oper} {a b : Act} {J K : Act → World → Prop} {Q : Exit → Act → World → Prop} {r : Result Next} (hd : ∀ d w, J ({ b with defers := d :: b.defers }.put o.dst undef) w → False)
    (hK : ∀ v w, J (b.put o.dst v) w → K (a.put o.dst v) w) (h : o.upon P b J (fun _ _ _ => False) r) : o.upon P a K Q r := by
  cases r with
  | ok nx w =>
    cases nx with
    | value v => exact hK _ _ h
    | skip => exact hK _ _ h
    | defer d => exact (hd _ _ h).elim
    | enter f args =>
      refine Calls.mono h fun e w' he => ?_
      cases e with
      | returned v => exact hK _ _ he
      | panicked c => exact he.elim
      | outgrown => obtain ⟨_, _, h⟩ := he; exact h.elim
    | row row args => exact Rows.mono h fun v w' he => hK _ _ he
    | _ => exact h.elim
  | halt x w =>
    cases x with
    | panic v => exact h.elim
    | _ => exact h.elim
/-- It may come up at any time, and nothing changes. -/
def Stay (G : Ctx) (n : Nat) (ops : Array Oper) (V : St) (o : Oper) : Prop :=
  ∀ w0 O0 b w, Sim w0 O0 n V b w → if Region.wanted o (yielded ops b.tmps) then ∃ v, (execOp b.eval o).run G.P w = .ok (.value v) w ∧ Sim w0 O0 n V (b.put o.dst v) w else Sim w0 O0 n V (b.put o.dst undef) w
theorem movers_mem {i : Nat} (h : i ∈ moversOf ops) : i < ops.size := by
  simp only [moversOf, List.mem_filter, List.mem_range] at h
  exact h.1
theorem agr_eval {M : List Nat} {listed : Array Bool} {a b : Act} (h : Agr ops M listed a b) (hT : tempsOk ops L = true) (hA : ancOk ops L = true) {i : Nat} {o : Oper} (ho : ops[i]? = some o)
    (hr : ∀ p ∈ prs ops i, listed.getD p false = true) : (∀ x ∈ o.op.operands, a.eval x = b.eval x) ∧ Region.wanted o (yielded ops a.tmps) = Region.wanted o (yielded ops b.tmps) := by
  have hi : i < ops.size := (Array.getElem?_eq_some_iff.1 ho).1
  have hanc := anc_listed hA h.down h.size i hr hi
  have key : ∀ t ∈ o.looksAt ops, a.tmps[t]? = b.tmps[t]? := fun t ht => by
    refine h.tmps t fun j o' hj hd hmv => hanc j ?_
    have hjl : j < ops.size := (Array.getElem?_eq_some_iff.1 hj).1
    have := List.all_eq_true.1 hT i (List.mem_range.2 hi)
    simp only [ho, List.all_eq_true] at this
    have := this t ht j (List.mem_range.2 hjl)
    simp only [hj, hd, hmv, bne_self_eq_false, Bool.false_or, List.contains_iff_mem] at this
    exact this
  constructor
  · intro x hx
    cases x with
    | tmp t =>
      have := key t (by simp only [Oper.looksAt, List.mem_append]; exact .inl (List.mem_filterMap.2 ⟨.tmp t, by simpa using hx, rfl⟩))
      simp only [Act.eval, Array.getD_eq_getD_getElem?, this]
    | _ => rfl
  · unfold Region.wanted
    cases hg : o.guard with
    | none => rfl
    | some g =>
      obtain ⟨j, want⟩ := g
      have : yielded ops a.tmps j = yielded ops b.tmps j := by
        unfold yielded
        cases hd : (ops[j]?).bind (·.dst) with
        | none => rfl
        | some d =>
          have := key d (by simp only [Oper.looksAt, List.mem_append]; right; simp [hg, hd])
          simp only [Option.bind_some, this]
      simp only [this]
theorem ready_set {M : List Nat} {listed : Array Bool} {a b : Act} (h : Agr ops M listed a b) {i : Nat} (hi : i ∈ Region.ready .any ops listed) : i < ops.size ∧ listed.getD i false = false ∧ ∀ p ∈ prs ops i, listed.getD p false = true := by
  rw [mem_ready] at hi
  obtain ⟨h0, o, ho, hall⟩ := hi
  have hlt : i < ops.size := (Array.getElem?_eq_some_iff.1 ho).1
  refine ⟨hlt, ?_, fun p hp => ?_⟩
  · have hl : i < listed.size := by rw [h.size]; exact hlt
    simp only [Array.getD, hl, dite_true] at h0 ⊢
    exact h0
  · simp only [prs, ho, List.mem_filterMap] at hp
    obtain ⟨e, he, h1⟩ := hp
    split at h1
    · rename_i hb
      cases h1
      exact hall e (by simpa using he) hb
    · cases h1
theorem not_ready {M : List Nat} {listed : Array Bool} {a b : Act} (h : Agr ops M listed a b) (hA : ancOk ops L = true) (hr : Region.ready .any ops listed = []) : ∀ i, i < ops.size → listed.getD i false = true := by
  intro i
  induction i using Nat.strongRecOn with
  | _ i ih =>
    intro hi
    cases hl : listed.getD i false with
    | true => rfl
    | false =>
      exfalso
      have : i ∈ Region.ready .any ops listed := by
        rw [mem_ready]
        have ho : ops[i]? = some ops[i] := Array.getElem?_eq_getElem hi
        refine ⟨?_, ops[i], ho, fun e he hb => ?_⟩
        · have hl' : i < listed.size := by rw [h.size]; exact hi
          simp only [Array.getD, hl', dite_true] at hl ⊢
          exact hl
        · have hp : e.on ∈ prs ops i := by
            simp only [prs, ho, List.mem_filterMap]
            exact ⟨e, by simpa using he, by simp [hb]⟩
          have := List.all_eq_true.1 hA i (List.mem_range.2 hi)
          simp only [Bool.and_eq_true, List.all_eq_true, decide_eq_true_eq] at this
          have hlt := this.1 _ hp
          exact ih _ hlt (by omega)
      rw [hr] at this
      cases this
theorem unl_set {listed : Array Bool} {i : Nat} (hi : i < listed.size) (hs : listed.size = ops.size) (h : listed.getD i false = false) : unl ops (listed.setIfInBounds i true) < unl ops listed := by
  refine filter_lt (i := i) _ (fun x _ hx => ?_) (List.mem_range.2 (by omega)) (by simp [h]) (by rw [getD_set hi]; simp)
  rw [getD_set hi] at hx
  split at hx
  · simp at hx
  · exact hx
theorem unl_pos {listed : Array Bool} {i : Nat} (hi : i < ops.size) (h : listed.getD i false = false) : 0 < unl ops listed := by
  unfold unl
  exact List.length_pos_of_mem (List.mem_filter.2 ⟨List.mem_range.2 hi, by simp [h]⟩)
theorem flt_main {G : Ctx} {n : Nat} {w0 : World} {O0 : Own0} {V : St} {M : List Nat} {Q : Exit → Act → World → Prop} (hok : fltOk ops L = true)
    (hE : ∀ i o, ops[i]? = some o → openAt (moversOf ops) L M i = true → Stay G n ops V o)
    (hm : ∀ i o, i ∈ readyM (moversOf ops) L M → ops[i]? = some o → ∀ b w, Sim w0 O0 n V b w → if Region.wanted o (yielded ops b.tmps) then o.wp G.P b w (fun b' w' => FltE G.P ops L (i :: M) (some i) Q b' w' ∧ b'.defers = []) (fun _ _ _ => False) else FltE G.P ops L (i :: M) (some i) Q (b.put o.dst undef) w)
    (hMs : ∀ m ∈ M, m ∈ moversOf ops) (hend : (∀ m ∈ moversOf ops, m ∈ M) → ∀ b w, Sim w0 O0 n V b w → Q .normal b w) :
    ∀ {b : Act} {w : World}, Sim w0 O0 n V b w → Flt G.P ops M Q b w := by
  simp only [fltOk, Bool.and_eq_true] at hok
  obtain ⟨⟨⟨hsel, hA⟩, hT⟩, hD⟩ := hok
  have done : ∀ {listed : Array Bool} {a b : Act} {w : World}, Agr ops M listed a b → Region.ready .any ops listed = [] → Sim w0 O0 n V b w → Q .normal a w := fun {listed a b w} hag hr hS => by
    have hall := not_ready hag hA hr
    have hMe : ∀ m ∈ moversOf ops, m ∈ M := fun m hm => by
      have h1 := hag.mov m hm
      rw [hall m (movers_mem hm)] at h1
      simpa using h1.symm
    have : a = b := by
      have h1 : a.tmps = b.tmps := by
        apply Array.ext_getElem?
        intro t
        exact hag.tmps t fun j o hj _ _ => hall j (Array.getElem?_eq_some_iff.1 hj).1
      have h2 := hag.defs
      cases a; cases b
      simp only at h1 h2
      rw [h1, h2]
    subst this
    exact hend hMe a w hS
  have key : ∀ fuel {b : Act} {w : World} listed a, Sim w0 O0 n V b w → Agr ops M listed a b → unl ops listed ≤ fuel → wpAny G.P .any ops Q fuel listed a w := by
    intro fuel
    induction fuel with
    | zero =>
      intro b w listed a hS hag hu
      have hr : Region.ready .any ops listed = [] := by
        rcases List.eq_nil_or_concat (Region.ready .any ops listed) with h | ⟨l, i, h⟩
        · exact h
        · exfalso
          obtain ⟨h1, h2, _⟩ := ready_set hag (i := i) (by rw [h]; simp)
          have := unl_pos h1 h2
          omega
      exact ⟨hr, done hag hr hS⟩
    | succ fuel ih =>
      intro b w listed a hS hag hu
      refine ⟨fun hr => done hag hr hS, fun i hi => ?_⟩
      obtain ⟨hlt, hun, hpre⟩ := ready_set hag hi
      have ho : ops[i]? = some ops[i] := Array.getElem?_eq_getElem hlt
      generalize ops[i] = o at ho
      have hsz : i < listed.size := by rw [hag.size]; exact hlt
      have hu' := unl_set (ops := ops) hsz hag.size hun
      obtain ⟨e1, e2⟩ := agr_eval hag hT hA ho hpre
      have hanc := anc_listed hA hag.down hag.size i hpre hlt
      have hex : execOp a.eval o = execOp b.eval o := execOp_congr o (fun cs bb e => Region.noSelect_spec hsel i o cs bb ho e) e1
      unfold wpOp
      simp only [ho]
      rw [e2]
      by_cases hmv : i ∈ moversOf ops
      · -- one that changes memory
        have hni : i ∉ M := by
          have h1 := hag.mov i hmv
          rw [hun] at h1
          simpa using h1.symm
        have hrd : i ∈ readyM (moversOf ops) L M := by
          refine List.mem_filter.2 ⟨hmv, ?_⟩
          simp only [Bool.and_eq_true, Bool.not_eq_true', doneB, List.all_eq_true, Bool.or_eq_true]
          refine ⟨by simpa using hni, fun m hm' => ?_⟩
          by_cases hc : (anc L i).contains m = true
          · right
            rw [List.contains_iff_mem] at hc
            have h1 := hanc m hc
            rw [hag.mov m hm'] at h1
            exact h1
          · left; simpa using hc
        have hset : ∀ v, Agr ops (i :: M) (listed.setIfInBounds i true) (a.put o.dst v) (b.put o.dst v) := fun v => set_agr hag hD ho hpre (i :: M) fun m hm' => by
          by_cases e : i = m
          · subst e; simp
          · rw [if_neg e, hag.mov m hm']
            have : ¬ m = i := fun h => e h.symm
            simp [this]
        have hnew : ∀ i', newAt (moversOf ops) L (i :: M) (some i) i' = true → (listed.setIfInBounds i true).getD i' false = false := fun i' hnw => by
          simp only [newAt, Bool.and_eq_true, Bool.not_eq_true'] at hnw
          obtain ⟨⟨hn1, _⟩, hn3⟩ := hnw
          rw [getD_set hsz]
          split
          · rename_i e; subst e
            rw [List.contains_eq_mem] at hn1
            exact absurd hmv (by simpa using hn1)
          · cases hli : listed.getD i' false with
            | false => rfl
            | true =>
              exfalso
              have hlt' : i' < ops.size := by
                rw [← hag.size]
                by_cases h : i' < listed.size
                · exact h
                · simp [Array.getD, h] at hli
              have := anc_listed hA hag.down hag.size i' (hag.down i' hli) hlt' i (by rw [List.contains_iff_mem] at hn3; exact hn3)
              rw [hun] at this
              cases this
        have := hm i o hrd ho b w hS
        split
        · rename_i hw
          rw [if_pos hw] at this
          left
          unfold Oper.wp at this ⊢
          rw [hex]
          refine upon_swap (fun d w' h => ?_) (fun v w' h => h.1 _ _ _ (hset v) hnew (by omega)) this
          have h2 := h.2
          unfold Act.put at h2
          cases hdd : o.dst <;> rw [hdd] at h2 <;> cases h2
        · rename_i hw
          rw [if_neg hw] at this
          exact this _ _ _ (hset undef) hnew (by omega)
      · -- one that does not
        have hopen : openAt (moversOf ops) L M i = true := by
          unfold openAt
          simp only [Bool.and_eq_true, Bool.not_eq_true', doneB, List.all_eq_true, Bool.or_eq_true]
          refine ⟨⟨by simpa using hmv, fun m hm' => ?_⟩, fun m hm' => ?_⟩
          · by_cases hc : (anc L i).contains m = true
            · right
              rw [List.contains_iff_mem] at hc
              have h1 := hanc m hc
              rw [hag.mov m hm'] at h1
              exact h1
            · left; simpa using hc
          · rw [← Bool.not_eq_true, List.contains_iff_mem]
            intro hc
            by_cases hmm : m ∈ moversOf ops
            · have hlm : listed.getD m false = true := by rw [hag.mov m hmm]; simpa using hm'
              have := anc_listed hA hag.down hag.size m (hag.down m hlm) (movers_mem hmm) i hc
              rw [hun] at this
              cases this
            · exact hmm (hMs m hm')
        have hset : ∀ v, Agr ops M (listed.setIfInBounds i true) (a.put o.dst v) (b.put o.dst v) := fun v => set_agr hag hD ho hpre M fun m hm' => by
          have : ¬ i = m := fun e' => hmv (e' ▸ hm')
          rw [if_neg this, hag.mov m hm']
        have := hE i o ho hopen w0 O0 b w hS
        split
        · rename_i hw
          rw [if_pos hw] at this
          obtain ⟨v, h1, h2⟩ := this
          left
          unfold Oper.wp
          rw [hex, h1]
          exact ih _ _ h2 (hset v) (by omega)
        · rename_i hw
          rw [if_neg hw] at this
          exact ih _ _ this (hset undef) (by omega)
  intro b w hS fuel listed a hag hu
  exact key fuel listed a hS hag hu
end
end Go.Proofs.YtnceiegngfpmkaaAm
namespace Go.Proofs.YtnceiegngfpmkaaAm
set_option linter.unusedVariables false
set_option linter.unusedSimpArgs false

inductive Frm where
  | seq (y : Code)
  | blk (id : Nat)
def KK (P : Program) : List Frm → (Exit → Act → World → Prop) → Exit → Act → World → Prop
  | [], Q => Q
  | .seq y :: fs, Q => Exit.then (y.wp P (KK P fs Q)) (KK P fs Q)
  | .blk id :: fs, Q => Exit.inBlock id (KK P fs Q)
inductive Pos where
  | code (c : Code)
  | ops (all : Array Oper) (r : Nat) (l : List Oper)
  | now (all : Array Oper) (r : Nat) (o : Oper) (l : List Oper)
  | fin (o : Out)
  | flt (all : Array Oper) (r : Nat) (I : List Nat) (last : Option Nat)
  | fnow (all : Array Oper) (r : Nat) (I : List Nat) (i : Nat) (o : Oper)
  | mix (all : Array Oper) (r : Nat) (I : List Nat)
  | pick (all : Array Oper) (r : Nat) (I : List Nat) (i : Nat)
/-- One of those that may change memory comes up. -/
def PickWp (P : Program) (all : Array Oper) (I : List Nat) (i : Nat) (Q : Exit → Act → World → Prop) (b : Act) (w : World) : Prop :=
  ∀ o, all[i]? = some o → if Region.wanted o (yielded all b.tmps) then o.wp P b w (fun b' w' => FltE P all (ancL all) (i :: I) (some i) Q b' w' ∧ b'.defers = []) (fun _ _ _ => False) else FltE P all (ancL all) (i :: I) (some i) Q (b.put o.dst undef) w
def Pos.wp (P : Program) : Pos → (Exit → Act → World → Prop) → Act → World → Prop
  | .code c, Q => c.wp P Q
  | .ops all r l, Q => wpList P all Q l
  | .now all r o l, Q => fun a w => ∀ K : Act → World → Prop, (∀ a w, wpList P all Q l a w → K a w) → o.wp P a w K Q
  | .fin o, Q => Q o.at
  | .flt all r I last, Q => FltE P all (ancL all) I last Q
  | .fnow all r I i o, Q => fun b w => o.wp P b w (fun b' w' => FltE P all (ancL all) (i :: I) (some i) Q b' w' ∧ b'.defers = []) (fun _ _ _ => False)
  | .mix all r I, Q => fun b w => ∀ i ∈ readyM (moversOf all) (ancL all) I, PickWp P all I i Q b w
  | .pick all r I i, Q => PickWp P all I i Q
structure Cfg where
  fs : List Frm
  p : Pos
  S : St
/-- From here the walk comes to this end. -/
def Seg (G : Ctx) (n : Nat) (c : Cfg) (r : Out × St) : Prop :=
  ∀ (w0 : World) (O0 : Own0) (a : Act) (w : World) (Q : Exit → Act → World → Prop), Sim w0 O0 n c.S a w → (∀ a' w', Sim w0 O0 n r.2 a' w' → Q r.1.at a' w') → c.p.wp G.P (KK G.P c.fs Q) a w

def guardL (ops : Array Oper) (n : Nat) (S : St) (g : Option (Nat × Bool)) (ans : List Bool) : Option (List Prop × List Bool × Bool) :=
  match g with
  | none => some ([], ans, true)
  | some (j, want) => match (ops[j]?).bind (·.dst) with
    | none => some ([], ans, false)
    | some d => if d < n then match look S.env d with
      | some (.c (.lit v)) => match v with
        | .bool b => Option.bind (askL b ans) fun z => some (z.1, z.2.1, z.2.2 == want)
        | _ => some ([], ans, boolOf v == some want)
      | _ => none
      else none
def valsL (G : Ctx) (n : Nat) (ops : Array Oper) : List Oper → St → List Bool → La
  | [], S, ans => some ([], ans, S)
  | o :: l, S, ans => Option.bind (guardL ops n S o.guard ans) fun g => match g.2.2 with
    | true => Option.bind (valL G n o S g.2.1) fun y => Option.bind (valsL G n ops l y.2.2 y.2.1) fun z => some (g.1 ++ (y.1 ++ z.1), z.2)
    | false => Option.bind (S.bind n o.dst (.c (.lit undef))) fun S1 => Option.bind (valsL G n ops l S1 g.2.1) fun z => some (g.1 ++ z.1, z.2)
def planOf (ops : Array Oper) : Plan :=
  if (!ops.any isMem && Region.lexB .any ops) = true then .still else match (List.range ops.size).find? (fun k => !(ops.toList.take k).any isMem && Region.lexTailB .any ops k) with
    | some k => .tail k
    | none => .list
/-- What may come up now or later changes nothing. -/
def staysL (G : Ctx) (n : Nat) (ops : Array Oper) (V : St) : List Oper → List Bool → Option (List Prop × List Bool)
  | [], ans => some ([], ans)
  | o :: l, ans => Option.bind (guardL ops n V o.guard ans) fun g => Option.bind (match g.2.2 with
      | true => valL G n o V g.2.1
      | false => Option.bind (V.bind n o.dst (.c (.lit undef))) fun S1 => some ([], g.2.1, S1)) fun y =>
    Option.bind (staysL G n ops V l y.2.1) fun z => some (g.1 ++ (y.1 ++ ((match o.dst with
      | some d => [look V.env d = look y.2.2.env d]
      | none => []) ++ z.1)), z.2)
def opsAt (ops : Array Oper) (l : List Nat) : List Oper := l.filterMap (ops[·]?)
def eagerAt (ops : Array Oper) (I : List Nat) (last : Option Nat) : List Nat := (List.range ops.size).filter fun i => newAt (moversOf ops) (ancL ops) I last i
def opensAt (ops : Array Oper) (I : List Nat) : List Nat := (List.range ops.size).filter fun i => openAt (moversOf ops) (ancL ops) I i
abbrev Nx := Option (List Prop × List Bool × Cfg)
def next (G : Ctx) (n : Nat) (c : Cfg) (ans : List Bool) : Nx :=
  match c with
  | ⟨fs, .fin o, S⟩ => match fs with
    | [] => none
    | .seq y :: fs => match o with
      | .norm => some ([], ans, ⟨fs, .code y, S⟩)
      | o => some ([], ans, ⟨fs, .fin o, S⟩)
    | .blk id :: fs => match o with
      | .exit i => if i = id then some ([], ans, ⟨fs, .fin .norm, S⟩) else some ([], ans, ⟨fs, .fin (.exit i), S⟩)
      | o => some ([], ans, ⟨fs, .fin o, S⟩)
  | ⟨fs, .code c, S⟩ => match c with
    | .skip => some ([], ans, ⟨fs, .fin .norm, S⟩)
    | .seq a b => some ([], ans, ⟨.seq b :: fs, .code a, S⟩)
    | .block id b => some ([], ans, ⟨.blk id :: fs, .code b, S⟩)
    | .exit id => some ([], ans, ⟨fs, .fin (.exit id), S⟩)
    | .ret => some ([], ans, ⟨fs, .fin .ret, S⟩)
    | .cond c x y => match S.lit c with
      | some (.bool b) => Option.bind (askL b ans) fun z => some (z.1, z.2.1, ⟨fs, .code (match z.2.2 with | true => x | false => y), S⟩)
      | _ => none
    | .region id ops draw => match draw with
      | false => some ([], ans, ⟨fs, .ops ops (1000 * (id + 1)) ops.toList, S⟩)
      | true => match planOf ops with
        | .still => Option.bind (valsL G n ops ops.toList S ans) fun y => some (y.1, y.2.1, ⟨fs, .fin .norm, y.2.2⟩)
        | .tail k => Option.bind (valsL G n ops (ops.toList.take k) S ans) fun y => some (y.1, y.2.1, ⟨fs, .ops ops (1000 * (id + 1) + k) (ops.toList.drop k), y.2.2⟩)
        | .list => if fltOk ops (ancL ops) = true then some ([], ans, ⟨fs, .flt ops (1000 * (id + 1)) [] none, S⟩) else none
    | _ => none
  | ⟨fs, .flt all r I last, S⟩ => if fltOk all (ancL all) = true ∧ I.all (moversOf all).contains = true then
      Option.bind (valsL G n all (opsAt all (eagerAt all I last)) S ans) fun y => Option.bind (staysL G n all y.2.2 (opsAt all (opensAt all I)) y.2.1) fun z =>
        match readyM (moversOf all) (ancL all) I with
        | [] => if (moversOf all).all I.contains = true then some (y.1 ++ z.1, z.2, ⟨fs, .fin .norm, y.2.2⟩) else none
        | [i] => if (moversOf all).all I.contains = true then none else some (y.1 ++ z.1, z.2, ⟨fs, .pick all r I i, y.2.2⟩)
        | _ => if (moversOf all).all I.contains = true then none else some (y.1 ++ z.1, z.2, ⟨fs, .mix all r I, y.2.2⟩)
    else none
  | ⟨fs, .mix all r I, S⟩ => none
  | ⟨fs, .pick all r I i, S⟩ => match all[i]? with
    | some o => Option.bind (guardL all n S o.guard ans) fun g => match g.2.2 with
      | true => some (g.1, g.2.1, ⟨fs, .fnow all r I i o, S⟩)
      | false => Option.bind (S.bind n o.dst (.c (.lit undef))) fun S1 => some (g.1, g.2.1, ⟨fs, .flt all r (i :: I) (some i), S1⟩)
    | none => none
  | ⟨fs, .fnow all r I i o, S⟩ => match isCall o with
    | true => none
    | false => Option.bind (opL G n (r + i) o S ans) fun y => some (y.1, y.2.1, ⟨fs, .flt all r (i :: I) (some i), y.2.2⟩)
  | ⟨fs, .ops all r l, S⟩ => match l with
    | [] => some ([], ans, ⟨fs, .fin .norm, S⟩)
    | o :: l => Option.bind (guardL all n S o.guard ans) fun g => match g.2.2 with
      | true => some (g.1, g.2.1, ⟨fs, .now all r o l, S⟩)
      | false => Option.bind (S.bind n o.dst (.c (.lit undef))) fun S1 => some (g.1, g.2.1, ⟨fs, .ops all (r + 1) l, S1⟩)
  | ⟨fs, .now all r o l, S⟩ => match isCall o with
    | true => none
    | false => Option.bind (opL G n r o S ans) fun y => some (y.1, y.2.1, ⟨fs, .ops all (r + 1) l, y.2.2⟩)
def steps (G : Ctx) (n : Nat) : Nat → Cfg → List Bool → Nx
  | 0, c, ans => some ([], ans, c)
  | k + 1, c, ans => Option.bind (next G n c ans) fun y => Option.bind (steps G n k y.2.2 y.2.1) fun z => some (y.1 ++ z.1, z.2)

section
variable {G : Ctx} {w0 : World} {O0 : Own0} {n r : Nat} {S S1 S' : St} {o : Oper} {ps : List Prop} {ops : Array Oper} {ans ans' : List Bool}
theorem guardL_ok {g : Option (Nat × Bool)} {b : Bool} (h : guardL ops n S g ans = some (ps, ans', b)) (hp : All ps) : guardOf ops n S g = some b := by
  unfold guardL at h
  unfold guardOf
  split at h
  · cases h; rfl
  · rename_i j want
    split at h
    · rename_i hd
      cases h
      try simp only [hd]
    · rename_i d hd
      try simp only [hd]
      split at h
      · rename_i hdn
        rw [if_pos hdn]
        split at h
        · rename_i v hv
          try simp only [hv]
          split at h
          · rename_i b'
            obtain ⟨z, h1, h2⟩ := Option.bind_eq_some_iff.1 h
            cases ans with
            | nil => cases h1
            | cons a ans =>
              cases h1
              cases h2
              have e : b' = a := hp.1
              subst e
              cases b' <;> cases want <;> rfl
          · cases h; rfl
        · cases h
      · cases h
theorem valsL_ok (hG : G.Ok) {Q : Act → Prop} : ∀ {l : List Oper} {S S' : St} {ps : List Prop} {ans ans' : List Bool} {a : Act} {w : World}, valsL G n ops l S ans = some (ps, ans', S') → All ps → Sim w0 O0 n S a w → (∀ a', Sim w0 O0 n S' a' w → Q a') → wpStill G.P ops w Q l a
  | [], S, S', ps, ans, ans', a, w, h, hp, hS, hQ => by cases h; exact hQ _ hS
  | o :: l, S, S', ps, ans, ans', a, w, h, hp, hS, hQ => by
    simp only [valsL] at h
    obtain ⟨g, hg, h⟩ := Option.bind_eq_some_iff.1 h
    obtain ⟨gp, ga, gb⟩ := g
    refine wpStill_step fun K hK => ?_
    cases gb with
    | true =>
      simp only at h
      obtain ⟨y, h1, h2⟩ := Option.bind_eq_some_iff.1 h
      obtain ⟨⟨z1, z2, z3⟩, h3, h4⟩ := Option.bind_eq_some_iff.1 h2
      cases h4
      obtain ⟨a1, a2⟩ := All.app hp
      obtain ⟨a3, a4⟩ := All.app a2
      rw [guardOf_ok hS (guardL_ok hg a1) o rfl]
      simp only [if_true]
      obtain ⟨v, g1, g2⟩ := valL_ok hG h1 a3 a w hS
      unfold Oper.still
      rw [g1, Oper.stillUpon_value]
      exact hK _ (valsL_ok hG h3 a4 g2 hQ)
    | false =>
      simp only at h
      obtain ⟨S1, h1, h2⟩ := Option.bind_eq_some_iff.1 h
      obtain ⟨⟨z1, z2, z3⟩, h3, h4⟩ := Option.bind_eq_some_iff.1 h2
      cases h4
      obtain ⟨a1, a2⟩ := All.app hp
      rw [guardOf_ok hS (guardL_ok hg a1) o rfl]
      simp only [Bool.false_eq_true, if_false]
      exact hK _ (valsL_ok hG h3 a2 (skip_sim hS h1) hQ)
theorem planOf_still (h : planOf ops = .still) : Region.lexB .any ops = true := by
  unfold planOf at h
  split at h
  · rename_i hc; exact (Bool.and_eq_true _ _ ▸ hc).2
  · split at h <;> cases h
theorem planOf_tail {k : Nat} (h : planOf ops = .tail k) : Region.lexTailB .any ops k = true := by
  unfold planOf at h
  split at h
  · cases h
  · split at h
    · rename_i hf
      cases h
      have := List.find?_some hf
      rw [Bool.and_eq_true] at this
      exact this.2
    · cases h
theorem ghost_vals (hG : G.Ok) : ∀ {l : List Oper} {S S' : St} {ps : List Prop} {ans ans' : List Bool} {b : Act} {w : World}, valsL G n ops l S ans = some (ps, ans', S') → All ps → Sim w0 O0 n S b w →
    ∃ b', Sim w0 O0 n S' b' w ∧ b'.tmps.size = b.tmps.size ∧ b'.defers = b.defers ∧ ∀ t, (∀ o ∈ l, o.dst ≠ some t) → b'.tmps[t]? = b.tmps[t]?
  | [], S, S', ps, ans, ans', b, w, h, hp, hS => by cases h; exact ⟨b, hS, rfl, rfl, fun _ _ => rfl⟩
  | o :: l, S, S', ps, ans, ans', b, w, h, hp, hS => by
    have put0 : ∀ (v : Value), (b.put o.dst v).tmps.size = b.tmps.size ∧ (b.put o.dst v).defers = b.defers ∧ ∀ t, o.dst ≠ some t → (b.put o.dst v).tmps[t]? = b.tmps[t]? := fun v => by
      unfold Act.put
      cases hd : o.dst with
      | none => exact ⟨rfl, rfl, fun _ _ => rfl⟩
      | some d => exact ⟨by simp, rfl, fun t ht => by have : d ≠ t := fun e => ht (by rw [e]); simp [Array.getElem?_setIfInBounds_ne this]⟩
    simp only [valsL] at h
    obtain ⟨⟨gp, ga, gb⟩, hg, h⟩ := Option.bind_eq_some_iff.1 h
    cases gb with
    | true =>
      simp only at h
      obtain ⟨y, h1, h2⟩ := Option.bind_eq_some_iff.1 h
      obtain ⟨⟨z1, z2, z3⟩, h3, h4⟩ := Option.bind_eq_some_iff.1 h2
      cases h4
      obtain ⟨a1, a2⟩ := All.app hp
      obtain ⟨a3, a4⟩ := All.app a2
      obtain ⟨v, g1, g2⟩ := valL_ok hG h1 a3 b w hS
      obtain ⟨p1, p2, p3⟩ := put0 v
      obtain ⟨b', k1, k2, k3, k4⟩ := ghost_vals hG h3 a4 g2
      exact ⟨b', k1, k2.trans p1, k3.trans p2, fun t ht => (k4 t fun o' ho' => ht o' (by simp [ho'])).trans (p3 t (ht o (by simp)))⟩
    | false =>
      simp only at h
      obtain ⟨S1, h1, h2⟩ := Option.bind_eq_some_iff.1 h
      obtain ⟨⟨z1, z2, z3⟩, h3, h4⟩ := Option.bind_eq_some_iff.1 h2
      cases h4
      obtain ⟨a1, a2⟩ := All.app hp
      obtain ⟨p1, p2, p3⟩ := put0 undef
      obtain ⟨b', k1, k2, k3, k4⟩ := ghost_vals hG h3 a2 (skip_sim hS h1)
      exact ⟨b', k1, k2.trans p1, k3.trans p2, fun t ht => (k4 t fun o' ho' => ht o' (by simp [ho'])).trans (p3 t (ht o (by simp)))⟩
theorem bind_shape {dst : Option Tmp} {av : AV} (h : S.bind n dst av = some S') : S'.F = S.F ∧ S'.hole = S.hole ∧ S'.aux = S.aux ∧ ((dst = none ∧ S' = S) ∨ ∃ d, dst = some d ∧ S'.env = (d, av) :: S.env) := by
  unfold St.bind at h
  split at h
  · rename_i d
    split at h
    · cases h; exact ⟨rfl, rfl, rfl, .inr ⟨d, rfl, rfl⟩⟩
    · cases h
  · cases h; exact ⟨rfl, rfl, rfl, .inl ⟨rfl, rfl⟩⟩
theorem stepVal_shape (h : stepVal G n o S = some S') : ∃ av, S.bind n o.dst av = some S' := by
  have lit : ∀ {S'}, stepLit G n o S = some S' → ∃ av, S.bind n o.dst av = some S' := fun h => by
    unfold stepLit at h
    split at h
    · split at h
      · exact ⟨_, h⟩
      · cases h
    · cases h
  unfold stepVal at h
  split at h
  case h_7 => 
    unfold stepField at h
    repeat' (split at h)
    all_goals first | exact ⟨_, h⟩ | cases h
  case h_8 =>
    unfold stepLoad at h
    split at h
    · split at h
      · split at h
        · obtain ⟨_, _, h⟩ := Option.bind_eq_some_iff.1 h; exact ⟨_, h⟩
        · obtain ⟨_, _, h⟩ := Option.bind_eq_some_iff.1 h; exact ⟨_, h⟩
      · cases h
    · cases h
  case h_9 =>
    unfold stepStruct at h
    split at h
    · split at h
      · split at h
        · obtain ⟨_, _, h⟩ := Option.bind_eq_some_iff.1 h; exact ⟨_, h⟩
        · cases h
      · cases h
    · cases h
  case h_10 =>
    unfold stepIndex at h
    repeat' (split at h)
    all_goals first | exact ⟨_, h⟩ | cases h
  all_goals first
    | exact lit h
    | (unfold stepMove at h
       repeat' (split at h)
       all_goals first
         | (obtain ⟨_, _, h⟩ := Option.bind_eq_some_iff.1 h; exact ⟨_, h⟩)
         | exact ⟨_, h⟩
         | cases h)
    | skip
  · -- a part of a slice, or of a string
    refine first_ok (P := fun S' => ∃ av, S.bind n o.dst av = some S') h fun x hx e => ?_
    simp only [List.mem_cons, List.not_mem_nil, or_false] at hx
    rcases hx with rfl | rfl
    · unfold stepCut at e
      repeat' (split at e)
      all_goals first | exact ⟨_, e⟩ | cases e
    · exact lit e
  · split at h
    · refine first_ok (P := fun S' => ∃ av, S.bind n o.dst av = some S') h fun x hx e => ?_
      simp only [List.mem_cons, List.not_mem_nil, or_false] at hx
      rcases hx with rfl | rfl
      · unfold stepLen at e
        repeat' (split at e)
        all_goals first | exact ⟨_, e⟩ | cases e
      · exact lit e
    · cases h
    · exact lit h
    · cases h
theorem valL_shape (h : valL G n o S ans = some (ps, ans', S')) : ∃ av, S.bind n o.dst av = some S' := by
  unfold valL at h
  split at h
  · split at h
    · obtain ⟨z, h1, h2⟩ := Option.bind_eq_some_iff.1 h
      obtain ⟨av, h3, h4⟩ := Option.bind_eq_some_iff.1 h2
      obtain ⟨S2, h5, h6⟩ := Option.bind_eq_some_iff.1 h4
      cases h6
      exact ⟨_, h5⟩
    · cases h
  · have h := La.of_spec h
    unfold indexL at h
    repeat' (split at h)
    all_goals first | exact ⟨_, (Lg.say_spec h).1⟩ | cases h
  · split at h
    · have h := La.of_spec h
      unfold arithL at h
      repeat' (split at h)
      all_goals first | exact ⟨_, (Lg.say_spec h).1⟩ | cases h
    · exact stepVal_shape (Lg.of_spec (La.of_spec h))
  · split at h
    · have h := La.of_spec h
      unfold arithL at h
      repeat' (split at h)
      all_goals first | exact ⟨_, (Lg.say_spec h).1⟩ | cases h
    · exact stepVal_shape (Lg.of_spec (La.of_spec h))
  · split at h
    · have h := La.of_spec h
      unfold cutLg at h
      repeat' (split at h)
      all_goals first | exact ⟨_, (Lg.say_spec h).1⟩ | cases h
    · exact stepVal_shape (Lg.of_spec (La.of_spec h))
  · exact stepVal_shape (Lg.of_spec (La.of_spec h))
theorem back_weak {V : St} {av : AV} {dst : Option Tmp} (h : V.bind n dst av = some S1) (hd : ∀ d, dst = some d → look V.env d = look S1.env d) {b : Act} {w : World} (hS : Sim w0 O0 n S1 b w) : Sim w0 O0 n V b w := by
  obtain ⟨h1, h2, h3, h4⟩ := bind_shape h
  rcases h4 with ⟨_, rfl⟩ | ⟨d, rfl, h4⟩
  · exact hS
  · obtain ⟨⟨βv, β, hH, hO, hT⟩, k2, k3, k4, k5, k6, k7, k8⟩ := hS
    refine ⟨⟨βv, β, hH.same (fun r => by rw [h1]) (fun t av' ht => ?_) h2.symm h3.symm, fun bb hb => hO bb (by rw [h1, h2]; exact hb), fun bb hb => hT bb (by rw [h1, h2]; exact hb)⟩, k2, k3, k4, k5, k6, k7, k8⟩
    have e := hd d rfl
    by_cases et : t = d
    · subst et; rw [← e]; exact ht
    · rw [h4]; simp only [look, if_neg et]; exact ht
theorem staysL_ok (hG : G.Ok) {V : St} : ∀ {l : List Oper} {ps : List Prop} {ans ans' : List Bool}, staysL G n ops V l ans = some (ps, ans') → All ps → ∀ o ∈ l, Stay G n ops V o
  | [], ps, ans, ans', h, hp, o, ho => by cases ho
  | o :: l, ps, ans, ans', h, hp, o', ho' => by
    simp only [staysL] at h
    obtain ⟨⟨gp, ga, gb⟩, hg, h⟩ := Option.bind_eq_some_iff.1 h
    obtain ⟨⟨y1, y2, y3⟩, hy, h⟩ := Option.bind_eq_some_iff.1 h
    obtain ⟨⟨z1, z2⟩, hz, h⟩ := Option.bind_eq_some_iff.1 h
    cases h
    obtain ⟨a1, a2⟩ := All.app hp
    obtain ⟨a3, a4⟩ := All.app a2
    obtain ⟨a5, a6⟩ := All.app a4
    rcases List.mem_cons.1 ho' with rfl | ho'
    · intro w0 O0 b w hS
      have hd : ∀ d, o'.dst = some d → look V.env d = look y3.env d := fun d e => by rw [e] at a5; exact a5.1
      rw [guardOf_ok hS (guardL_ok hg a1) o' rfl]
      cases gb with
      | true =>
        simp only [if_true]
        obtain ⟨v, g1, g2⟩ := valL_ok hG hy a3 b w hS
        obtain ⟨av, hb⟩ := valL_shape hy
        exact ⟨v, g1, back_weak hb hd g2⟩
      | false =>
        simp only [Bool.false_eq_true, if_false]
        obtain ⟨S1, h1, h2⟩ := Option.bind_eq_some_iff.1 hy
        cases h2
        exact back_weak h1 hd (skip_sim hS h1)
    · exact staysL_ok hG hz a6 o' ho'
theorem mem_opsAt {ops : Array Oper} {l : List Nat} {i : Nat} {o : Oper} (hi : i ∈ l) (ho : ops[i]? = some o) : o ∈ opsAt ops l := List.mem_filterMap.2 ⟨i, hi, ho⟩
theorem agr_refl (ops : Array Oper) (a : Act) : Agr ops [] (Array.replicate ops.size false) a a := by
  have hf : ∀ i, (Array.replicate ops.size false).getD i false = false := fun i => by
    simp only [Array.getD_eq_getD_getElem?, Array.getElem?_replicate]
    split <;> rfl
  refine ⟨by simp, rfl, rfl, fun i hi => ?_, fun j _ => by rw [hf]; simp, fun t _ => rfl⟩
  rw [hf] at hi
  cases hi
/-- What one step of the machine says. -/
def Step1 (G : Ctx) (n : Nat) (c c' : Cfg) : Prop :=
  ∀ (w0 : World) (O0 : Own0) (Q : Exit → Act → World → Prop), (∀ a w, Sim w0 O0 n c'.S a w → c'.p.wp G.P (KK G.P c'.fs Q) a w) → ∀ a w, Sim w0 O0 n c.S a w → c.p.wp G.P (KK G.P c.fs Q) a w
theorem next_ok (hG : G.Ok) {c c' : Cfg} (h : next G n c ans = some (ps, ans', c')) (hp : All ps) : Step1 G n c c' := by
  obtain ⟨fs, p, S⟩ := c
  intro w0 O0 Q hc a w hS
  cases p with
  | fin o =>
    cases fs with
    | nil => cases h
    | cons f fs =>
      cases f with
      | seq y =>
        cases o with
        | norm => cases h; exact hc a w hS
        | exit i => cases h; exact hc a w hS
        | ret => cases h; exact hc a w hS
      | blk id =>
        cases o with
        | norm => cases h; exact hc a w hS
        | exit i =>
          simp only [next] at h
          show Exit.inBlock id (KK G.P fs Q) (Out.exit i).at a w
          split at h
          · rename_i hi
            cases h
            simp only [Out.at, Exit.inBlock, hi, if_true]
            exact hc a w hS
          · rename_i hi
            cases h
            simp only [Out.at, Exit.inBlock, hi, if_false]
            exact hc a w hS
        | ret => cases h; exact hc a w hS
  | code c =>
    cases c with
    | skip => cases h; exact wp_skip (hc a w hS)
    | seq x y => cases h; exact wp_seq (hc a w hS)
    | block id b => cases h; exact wp_block (hc a w hS)
    | exit id => cases h; exact wp_exit (hc a w hS)
    | ret => cases h; exact wp_ret (hc a w hS)
    | cond c x y =>
      simp only [next] at h
      split at h
      · rename_i b hb
        obtain ⟨z, h1, h2⟩ := Option.bind_eq_some_iff.1 h
        cases ans with
        | nil => cases h1
        | cons an ans =>
          cases h1
          cases h2
          have e : b = an := hp.1
          subst e
          have hl := hS.lit hb
          cases b with
          | true => exact wp_cond_true hl (hc a w hS)
          | false => exact wp_cond_false hl (hc a w hS)
      · cases h
    | region id ops draw =>
      simp only [next] at h
      cases draw with
      | false => cases h; exact wp_region_list (hc a w hS)
      | true =>
        simp only at h
        split at h
        · rename_i hpl
          obtain ⟨y, h1, h2⟩ := Option.bind_eq_some_iff.1 h
          cases h2
          exact wp_region_still hG.any (planOf_still hpl) (valsL_ok hG h1 hp (hS.drew _) fun a' hS' => hc _ _ hS')
        · rename_i k hpl
          obtain ⟨y, h1, h2⟩ := Option.bind_eq_some_iff.1 h
          cases h2
          have hB := planOf_tail hpl
          have := wp_region_still_tail (P := G.P) (id := id) (Q := KK G.P fs Q) (a := a) (w := w) (l := ops.toList) k hG.any (by simpa using hB) (by
            refine valsL_ok (ops := ops.toList.toArray) hG (by simpa using h1) hp (hS.drew _) fun a' hS' => ?_
            have : wpList G.P ops (KK G.P fs Q) (ops.toList.drop k) a' { w with drawn := w.drawn + 1 } := hc _ _ hS'
            simpa using this)
          show (Code.region id ops true).wp G.P (KK G.P fs Q) a w
          simpa using this
        · split at h
          · cases h
            refine wp_region_any hG.any ?_
            have := hc a { w with drawn := w.drawn + 1 } (hS.drew _)
            refine this ops.size _ a (agr_refl ops a) (fun i _ => ?_) ?_
            · simp only [Array.getD_eq_getD_getElem?, Array.getElem?_replicate]
              split <;> rfl
            · unfold unl
              exact Nat.le_trans (List.length_filter_le _ _) (by simp)
          · cases h
    | _ => cases h
  | ops all r l =>
    cases l with
    | nil => cases h; exact hc a w hS
    | cons o l =>
      simp only [next] at h
      obtain ⟨⟨gp, ga, gb⟩, hg, h⟩ := Option.bind_eq_some_iff.1 h
      refine wpList_step fun K hK => ?_
      cases gb with
      | true =>
        cases h
        rw [guardOf_ok hS (guardL_ok hg hp) o rfl]
        simp only [if_true]
        exact hc a w hS K hK
      | false =>
        simp only at h
        obtain ⟨S1, h1, h2⟩ := Option.bind_eq_some_iff.1 h
        cases h2
        rw [guardOf_ok hS (guardL_ok hg hp) o rfl]
        simp only [Bool.false_eq_true, if_false]
        exact hK _ _ (hc _ _ (skip_sim hS h1))
  | now all r o l =>
    simp only [next] at h
    cases hi : isCall o with
    | true => rw [hi] at h; cases h
    | false =>
      rw [hi] at h
      simp only at h
      obtain ⟨y, h1, h2⟩ := Option.bind_eq_some_iff.1 h
      cases h2
      intro K hK
      exact opL_ok hG h1 hp a w K _ hS fun a' w' hS' => hK _ _ (hc _ _ hS')
  | flt all r I last =>
    simp only [next] at h
    split at h
    · rename_i hcond
      obtain ⟨hok, hI⟩ := hcond
      have hMs : ∀ m ∈ I, m ∈ moversOf all := fun m hm => by
        have := List.all_eq_true.1 hI m hm
        simpa using this
      obtain ⟨⟨y1, y2, V⟩, hy, h⟩ := Option.bind_eq_some_iff.1 h
      obtain ⟨⟨z1, z2⟩, hz, h⟩ := Option.bind_eq_some_iff.1 h
      have main : ∀ (hall : All y1 ∧ All z1), ((∀ m ∈ moversOf all, m ∈ I) → ∀ b w, Sim w0 O0 n V b w → KK G.P fs Q .normal b w) →
          (∀ i o, i ∈ readyM (moversOf all) (ancL all) I → all[i]? = some o → ∀ b w, Sim w0 O0 n V b w → if Region.wanted o (yielded all b.tmps) then o.wp G.P b w (fun b' w' => FltE G.P all (ancL all) (i :: I) (some i) (KK G.P fs Q) b' w' ∧ b'.defers = []) (fun _ _ _ => False) else FltE G.P all (ancL all) (i :: I) (some i) (KK G.P fs Q) (b.put o.dst undef) w) →
          FltE G.P all (ancL all) I last (KK G.P fs Q) a w := fun hall hend hm => by
        obtain ⟨b', k1, k2, k3, k4⟩ := ghost_vals hG hy hall.1 hS
        have hE : ∀ i o, all[i]? = some o → openAt (moversOf all) (ancL all) I i = true → Stay G n all V o := fun i o ho hop => by
          refine staysL_ok hG hz hall.2 o (mem_opsAt (i := i) (List.mem_filter.2 ⟨List.mem_range.2 (Array.getElem?_eq_some_iff.1 ho).1, hop⟩) ho)
        have hF := flt_main (w0 := w0) (O0 := O0) (Q := KK G.P fs Q) hok hE hm hMs hend k1
        intro fuel listed a' hag hnew hu
        refine hF fuel listed a' ⟨hag.size, hag.tsz.trans k2.symm, hag.defs.trans k3.symm, hag.down, hag.mov, fun t ht => ?_⟩ hu
        rw [hag.tmps t ht]
        refine (k4 t fun o ho e => ?_).symm
        obtain ⟨i, hi, hio⟩ := List.mem_filterMap.1 ho
        simp only [eagerAt, List.mem_filter, List.mem_range] at hi
        have hnm : isMover o = false := by
          have h2 := hi.2
          simp only [newAt, Bool.and_eq_true, Bool.not_eq_true'] at h2
          have h3 := h2.1.1
          rw [List.contains_eq_mem] at h3
          cases hm : isMover o with
          | false => rfl
          | true =>
            exfalso
            have : i ∈ moversOf all := List.mem_filter.2 ⟨List.mem_range.2 hi.1, by simp [hio, hm]⟩
            simp [this] at h3
        have h1 := ht i o hio e hnm
        rw [hnew i hi.2] at h1
        cases h1
      have notEnd : ¬ (moversOf all).all I.contains = true → (∀ m ∈ moversOf all, m ∈ I) → False := fun hn hh => hn (List.all_eq_true.2 fun m hm => by simpa using hh m hm)
      simp only at h
      split at h
      · rename_i hnone
        split at h
        · cases h
          obtain ⟨a1, a2⟩ := All.app hp
          exact main ⟨a1, a2⟩ (fun _ b w hS' => hc b w hS') (fun i o hi => by rw [hnone] at hi; cases hi)
        · cases h
      · rename_i i hi
        split at h
        · cases h
        · rename_i hne
          cases h
          obtain ⟨a1, a2⟩ := All.app hp
          refine main ⟨a1, a2⟩ (fun hh => (notEnd hne hh).elim) fun i' o' hi' ho' b w hS' => ?_
          rw [hi, List.mem_singleton] at hi'
          subst hi'
          exact hc b w hS' o' ho'
      · split at h
        · cases h
        · rename_i hne
          cases h
          obtain ⟨a1, a2⟩ := All.app hp
          exact main ⟨a1, a2⟩ (fun hh => (notEnd hne hh).elim) fun i' o' hi' ho' b w hS' => hc b w hS' i' hi' o' ho'
    · cases h
  | mix all r I => cases h
  | pick all r I i =>
    simp only [next] at h
    split at h
    · rename_i o ho
      obtain ⟨⟨gp, ga, gb⟩, hg, h⟩ := Option.bind_eq_some_iff.1 h
      intro o' ho'
      rw [ho] at ho'
      cases ho'
      cases gb with
      | true =>
        simp only at h
        cases h
        rw [guardOf_ok hS (guardL_ok hg hp) o rfl]
        simp only [if_true]
        exact hc a w hS
      | false =>
        simp only at h
        obtain ⟨S1, h1, h2⟩ := Option.bind_eq_some_iff.1 h
        cases h2
        rw [guardOf_ok hS (guardL_ok hg hp) o rfl]
        simp only [Bool.false_eq_true, if_false]
        exact hc _ _ (skip_sim hS h1)
    · cases h
  | fnow all r I i o =>
    simp only [next] at h
    cases hi : isCall o with
    | true => rw [hi] at h; cases h
    | false =>
      rw [hi] at h
      simp only at h
      obtain ⟨y, h1, h2⟩ := Option.bind_eq_some_iff.1 h
      cases h2
      exact opL_ok hG h1 hp a w _ _ hS fun a' w' hS' => ⟨hc _ _ hS', hS'.defers⟩
theorem steps_ok (hG : G.Ok) : ∀ {k : Nat} {c c' : Cfg} {ps : List Prop} {ans ans' : List Bool}, steps G n k c ans = some (ps, ans', c') → All ps → Step1 G n c c'
  | 0, c, c', ps, ans, ans', h, hp => by cases h; exact fun w0 O0 Q hc => hc
  | k + 1, c, c', ps, ans, ans', h, hp => by
    simp only [steps] at h
    obtain ⟨y, h1, h2⟩ := Option.bind_eq_some_iff.1 h
    obtain ⟨⟨z1, z2, z3⟩, h3, h4⟩ := Option.bind_eq_some_iff.1 h2
    cases h4
    obtain ⟨a1, a2⟩ := All.app hp
    have e1 := next_ok hG h1 a1
    have e2 := steps_ok hG h3 a2
    exact fun w0 O0 Q hc => e1 w0 O0 Q (e2 w0 O0 Q hc)
/-! ### Places in the code -/
def kidC : Nat → Code → Code
  | 0, .seq a _ => a
  | _, .seq _ b => b
  | 0, .cond _ x _ => x
  | _, .cond _ _ y => y
  | _, .block _ b => b
  | _, .loop b => b
  | _, c => c
def Frm.of : Nat → Code → List Frm
  | 0, .seq _ b => [.seq b]
  | _, .block id _ => [.blk id]
  | _, _ => []
/-- The place that a path leads to; what is left to do behind it. -/
def place : List Nat → List Frm → Code → List Frm × Code
  | [], fs, c => (fs, c)
  | i :: p, fs, c => place p (Frm.of i c ++ fs) (kidC i c)
def regOps : Code → Nat × Array Oper
  | .region id ops _ => (id, ops)
  | _ => (0, #[])
def atCode (c : Code) (p : List Nat) (S : St) : Cfg := ⟨(place p [] c).1, .code (place p [] c).2, S⟩
def atFin (c : Code) (p : List Nat) (o : Out) (S : St) : Cfg := ⟨(place p [] c).1, .fin o, S⟩
def atOps (c : Code) (p : List Nat) (k : Nat) (S : St) : Cfg := ⟨(place p [] c).1, .ops (regOps (place p [] c).2).2 (1000 * ((regOps (place p [] c).2).1 + 1) + k) ((regOps (place p [] c).2).2.toList.drop k), S⟩
def nowOf (c : List Frm × Code) (k : Nat) (S : St) : Cfg := match (regOps c.2).2[k]? with
  | some o => ⟨c.1, .now (regOps c.2).2 (1000 * ((regOps c.2).1 + 1) + k) o ((regOps c.2).2.toList.drop (k + 1)), S⟩
  | none => ⟨c.1, .fin .norm, S⟩
def atFlt (c : Code) (p : List Nat) (I : List Nat) (last : Option Nat) (S : St) : Cfg := ⟨(place p [] c).1, .flt (regOps (place p [] c).2).2 (1000 * ((regOps (place p [] c).2).1 + 1)) I last, S⟩
def atMix (c : Code) (p : List Nat) (I : List Nat) (S : St) : Cfg := ⟨(place p [] c).1, .mix (regOps (place p [] c).2).2 (1000 * ((regOps (place p [] c).2).1 + 1)) I, S⟩
def atPick (c : Code) (p : List Nat) (I : List Nat) (i : Nat) (S : St) : Cfg := ⟨(place p [] c).1, .pick (regOps (place p [] c).2).2 (1000 * ((regOps (place p [] c).2).1 + 1)) I i, S⟩
def fnowOf (c : List Frm × Code) (I : List Nat) (i : Nat) (S : St) : Cfg := match (regOps c.2).2[i]? with
  | some o => ⟨c.1, .fnow (regOps c.2).2 (1000 * ((regOps c.2).1 + 1)) I i o, S⟩
  | none => ⟨c.1, .fin .norm, S⟩
def atFnow (c : Code) (p : List Nat) (I : List Nat) (i : Nat) (S : St) : Cfg := fnowOf (place p [] c) I i S
def atNow (c : Code) (p : List Nat) (k : Nat) (S : St) : Cfg := nowOf (place p [] c) k S
/-! ### What is said in other words -/
inductive Td where
  | row (r t : Nat) (m : Mode) (τ : Ty)
  | whole (t : Nat)
  | drop (r : Nat)
  | part (r t j : Nat) (m : Mode) (τ : Ty)
  | mv (r o R : Nat) (m : Mode)
  | blur (t : Nat)
def St.whole (S : St) (t : Nat) : Option St := match look S.env t with
  | some (.c (.sl q none)) => match S.row q with
    | some ⟨_, _, l⟩ => some { S with env := (t, .c (.sl q (some (0, l.length)))) :: S.env }
    | none => none
  | some (.c (.sl q (some x))) => some S
  | _ => none
def doTd (n : Nat) : List Td → St → Option St
  | [], S => some S
  | .row r t m τ :: l, S => (S.toRow n r t m τ).bind (doTd n l)
  | .whole t :: l, S => (S.whole t).bind (doTd n l)
  | .drop r :: l, S => (dropAll [r] S).bind (doTd n l)
  | .part r t j m τ :: l, S => (S.toRowAt n r t j m τ).bind (doTd n l)
  | .mv r o R m :: l, S => (S.mv n r o R m).bind (doTd n l)
  | .blur t :: l, S => (S.blur t).bind (doTd n l)
/-- The roots, in the order of the list. -/
def St.tight (rs : List Nat) (S : St) : Option St :=
  if S.F.all (fun e => rs.contains e.1 || (S.F.get e.1).isNone) = true then some ⟨S.env, rs.filterMap (fun r => (S.F.get r).map fun R => (r, some R)), S.hole, S.aux⟩ else none
def St.tidy (n : Nat) (td : List Td) (ks ds rs : List Nat) (S : St) : Option St :=
  (doTd n td S).bind fun S1 => (dropAll ds (S1.prune ks)).bind fun S2 => S2.tight rs
def stepsT (G : Ctx) (n k : Nat) (td : List Td) (ks ds rs : List Nat) (c : Cfg) (ans : List Bool) : Nx :=
  Option.bind (steps G n k c ans) fun z => Option.bind (z.2.2.S.tidy n td ks ds rs) fun S' => some (z.1, z.2.1, ⟨z.2.2.fs, z.2.2.p, S'⟩)
section
variable {n : Nat} {S S' : St}
theorem Weak.same (hg : ∀ r, S'.F.get r = S.F.get r) (he : ∀ t av, look S'.env t = some av → look S.env t = some av) (hh : S'.hole = S.hole) (ha : S'.aux = S.aux) : Weak n S S' := fun w0 O0 a w hS => by
  obtain ⟨⟨βv, β, hH, hO, hT⟩, h2, h3, h4, h5, h6, h7, h8⟩ := hS
  exact ⟨⟨βv, β, hH.same hg he hh ha, fun b hb => hO b (by rw [hh] at hb; exact ownB_same hg hb), fun b hb => hT b (by rw [hh] at hb; exact shB_same hg hb)⟩, h2, h3, h4, h5, h6, h7, h8⟩
theorem get_pick {F : Forest} {rs : List Nat} {r : Nat} : Forest.get (rs.filterMap (fun r => (F.get r).map fun R => (r, some R))) r = if r ∈ rs then F.get r else none := by
  induction rs with
  | nil => simp [Forest.get]
  | cons k rs ih =>
    simp only [List.filterMap_cons]
    cases hk : F.get k with
    | none =>
      simp only [Option.map_none]
      rw [ih]
      by_cases e : r = k
      · subst e; simp [hk]
      · simp [e]
    | some R =>
      simp only [Option.map_some, Forest.get]
      by_cases e : r = k
      · subst e; simp [hk]
      · simp [e, ih]
theorem tight_weak {rs : List Nat} (h : S.tight rs = some S') : Weak n S S' := by
  unfold St.tight at h
  split at h
  · rename_i hc
    cases h
    refine Weak.same (fun r => ?_) (fun _ _ h => h) rfl rfl
    show Forest.get (rs.filterMap (fun r => (S.F.get r).map fun R => (r, some R))) r = S.F.get r
    rw [get_pick]
    split
    · rfl
    · rename_i hr
      cases hg : S.F.get r with
      | none => rfl
      | some R =>
        exfalso
        by_cases hk : r ∈ S.F.map (·.1)
        · obtain ⟨x, hx, rfl⟩ := List.mem_map.1 hk
          have := List.all_eq_true.1 hc x hx
          simp only [Bool.or_eq_true, hg, Option.isNone_some, Bool.false_eq_true, or_false, List.contains_iff_mem] at this
          exact hr this
        · rw [get_none hk] at hg; cases hg
  · cases h
theorem whole_weak {t : Nat} (h : S.whole t = some S') : Weak n S S' := by
  unfold St.whole at h
  split at h
  · rename_i q ht
    split at h
    · rename_i m τ l hrow
      cases h
      intro w0 O0 a w hS
      obtain ⟨⟨βv, β, hH, hO, hT⟩, h2, h3, h4, h5, h6, h7, h8⟩ := hS
      refine ⟨⟨βv, β, ⟨hH.lays, fun t' av hl => ?_, hH.aux⟩, hO, hT⟩, h2, h3, h4, h5, h6, h7, h8⟩
      simp only [look] at hl
      split at hl
      · rename_i e
        cases hl
        subst e
        have hx := hH.env t' _ ht
        obtain ⟨m', τ', l', g1, g2, g3⟩ := hx
        have : nav S.F q = some (.rows m' τ' l') := g1.1.nav
        simp only [St.row, this, Option.some.injEq, Sigma.mk.injEq] at hrow
        obtain ⟨rfl, hrow⟩ := hrow
        obtain ⟨rfl, hrow⟩ := Sigma.mk.inj (eq_of_heq hrow)
        have hrow := eq_of_heq hrow
        subst hrow
        exact ⟨m', τ', l', g1, by simp [ptLo, ptLen], by simpa [ptLo, ptLen] using g3⟩
      · exact hH.env t' av hl
    · cases h
  · cases h; exact .refl
  · cases h
theorem doTd_weak : ∀ {l : List Td} {S S' : St}, doTd n l S = some S' → Weak n S S'
  | [], S, S', h => by cases h; exact .refl
  | .row r t m τ :: l, S, S', h => by
    obtain ⟨S1, h1, h2⟩ := Option.bind_eq_some_iff.1 h
    exact (toRow_weak h1).trans (doTd_weak h2)
  | .whole t :: l, S, S', h => by
    obtain ⟨S1, h1, h2⟩ := Option.bind_eq_some_iff.1 h
    exact (whole_weak h1).trans (doTd_weak h2)
  | .drop r :: l, S, S', h => by
    obtain ⟨S1, h1, h2⟩ := Option.bind_eq_some_iff.1 h
    exact (dropAll_weak h1).trans (doTd_weak h2)
  | .part r t j m τ :: l, S, S', h => by
    obtain ⟨S1, h1, h2⟩ := Option.bind_eq_some_iff.1 h
    exact (toRowAt_weak h1).trans (doTd_weak h2)
  | .mv r o R m :: l, S, S', h => by
    obtain ⟨S1, h1, h2⟩ := Option.bind_eq_some_iff.1 h
    exact (mv_weak h1).trans (doTd_weak h2)
  | .blur t :: l, S, S', h => by
    obtain ⟨S1, h1, h2⟩ := Option.bind_eq_some_iff.1 h
    exact (blur_weak h1).trans (doTd_weak h2)
theorem tidy_weak {td : List Td} {ks ds rs : List Nat} (h : S.tidy n td ks ds rs = some S') : Weak n S S' := by
  obtain ⟨S1, h1, h2⟩ := Option.bind_eq_some_iff.1 h
  obtain ⟨S2, h3, h4⟩ := Option.bind_eq_some_iff.1 h2
  exact (doTd_weak h1).trans ((prune_weak ks).trans ((dropAll_weak h3).trans (tight_weak h4)))
end
/-! ### Rules -/
theorem Seg.steps {c c' : Cfg} {x : Out × St} (hG : G.Ok) (k : Nat) (ans : List Bool) (h : steps G n k c ans = some (ps, [], c')) (hp : All ps) (hs : Seg G n c' x) : Seg G n c x :=
  fun w0 O0 a w Q hS hQ => steps_ok hG h hp w0 O0 Q (fun a w hS => hs w0 O0 a w Q hS hQ) a w hS
theorem Seg.go {c c' : Cfg} {x : Out × St} (hG : G.Ok) (k : Nat) (ans : List Bool) (td : List Td) (ks ds rs : List Nat) (h : stepsT G n k td ks ds rs c ans = some (ps, [], c')) (hp : All ps) (hs : Seg G n c' x) : Seg G n c x := by
  obtain ⟨⟨z1, z2, z3⟩, h1, h2⟩ := Option.bind_eq_some_iff.1 h
  obtain ⟨S', h3, h4⟩ := Option.bind_eq_some_iff.1 h2
  cases h4
  exact Seg.steps hG k ans h1 hp (fun w0 O0 a w Q hS hQ => hs w0 O0 a w Q (tidy_weak h3 _ _ _ _ hS) hQ)
theorem Seg.done {out : Out} : Seg G n ⟨[], .fin out, S⟩ (out, S) := fun w0 O0 a w Q hS hQ => hQ a w hS
/-- Several may come up next: each is walked. -/
theorem Seg.mixAt {c : Code} {p : List Nat} {I : List Nat} {x : Out × St} (l : List Nat) (hl : readyM (moversOf (regOps (place p [] c).2).2) (ancL (regOps (place p [] c).2).2) I = l) (h : ∀ i ∈ l, Seg G n (atPick c p I i S) x) : Seg G n (atMix c p I S) x :=
  fun w0 O0 a w Q hS hQ i hi => h i (hl ▸ hi) w0 O0 a w Q hS hQ
theorem Seg.weak {fs : List Frm} {p : Pos} {x : Out × St} (h : Weak n S S1) (hs : Seg G n ⟨fs, p, S1⟩ x) : Seg G n ⟨fs, p, S⟩ x :=
  fun w0 O0 a w Q hS hQ => hs w0 O0 a w Q (h _ _ _ _ hS) hQ
theorem KK_at {P : Program} {fs : List Frm} {Q : Exit → Act → World → Prop} {e : Exit} {a : Act} {w : World} : KK P fs Q e a w = KK P fs Q e a w := rfl
/-- A loop that is shown by itself. -/
theorem Seg.loop {fs : List Frm} {b : Code} {y x : Out × St} (h : CodeOk G n (.loop b) S y) (hs : Seg G n ⟨fs, .fin y.1, y.2⟩ x) : Seg G n ⟨fs, .code (.loop b), S⟩ x :=
  fun w0 O0 a w Q hS hQ => h w0 O0 a w _ hS fun a' w' hS' => hs w0 O0 a' w' Q hS' hQ
theorem Seg.code {b : Code} {x : Out × St} (h : Seg G n ⟨[], .code b, S⟩ x) : CodeOk G n b S x := h
/-- A loop: one round is a stretch. -/
theorem loop_seg {D E : Type} {b : Code} {σ : D → St} {τ : E → Out × St} {f : D → Option (D ⊕ E)} (hτ : ∀ e, (τ e).1 ≠ .norm)
    (hf : ∀ d x, f d = some x → Seg G n ⟨[], .code b, σ d⟩ (match x with | .inl d' => (.norm, σ d') | .inr e => τ e)) :
    ∀ {k : Nat} {d : D} {e : E}, loopRun f k d = some e → CodeOk G n (.loop b) (σ d) (τ e) := by
  intro k0 d0 e0 h3 w0 O0 a w Q hS hQ
  classical
  let Pk : Act → World → Nat → Prop := fun a w k => ∃ d, Sim w0 O0 n (σ d) a w ∧ loopRun f k d = some e0
  let μ : Act → World → Nat := fun a w => if h : ∃ k, Pk a w k then Classical.choose (least_of h) else 0
  refine wp_loop (fun a w => ∃ k, Pk a w k) μ ⟨k0, d0, hS, h3⟩ fun a w hI => ?_
  have hμ : μ a w = Classical.choose (least_of hI) := by simp only [μ, dif_pos hI]
  obtain ⟨d, hd, hk⟩ := (Classical.choose_spec (least_of hI)).1
  rw [hμ]
  generalize Classical.choose (least_of hI) = k at hk
  cases k with
  | zero => cases hk
  | succ k =>
    simp only [loopRun] at hk
    cases hx : f d with
    | none => rw [hx] at hk; cases hk
    | some x =>
      rw [hx] at hk
      have hseg := hf d x hx
      cases x with
      | inl d' =>
        refine hseg w0 O0 a w _ hd fun a' w' hS' => ?_
        have hP : Pk a' w' k := ⟨d', hS', hk⟩
        refine ⟨⟨k, hP⟩, ?_⟩
        have : μ a' w' ≤ k := by
          simp only [μ, dif_pos (⟨k, hP⟩ : ∃ k, Pk a' w' k)]
          exact (Classical.choose_spec (least_of ⟨k, hP⟩)).2 _ hP
        omega
      | inr e =>
        cases hk
        refine hseg w0 O0 a w _ hd fun a' w' hS' => ?_
        have := hQ a' w' hS'
        have hne := hτ e0
        revert this hne
        generalize (τ e0).1 = o1
        intro this hne
        cases o1 with
        | norm => exact absurd rfl hne
        | exit id => exact this
        | ret => exact this
end
end Go.Proofs.YtnceiegngfpmkaaAm
namespace Go.Proofs.YtnceiegngfpmkaaAm
set_option linter.unusedVariables false

def resOne (tmps : Array Value) : ResultVar → Sem Value
  | .tmp t => pure (tmps.getD t undef)
  | .cell a t => do loadVar t (← asAddr (tmps.getD a undef))
def oneVal : List Value → Value
  | [v] => v
  | vs => .tuple vs.toArray
inductive Runs (P : Program) (tmps : Array Value) (w : World) : List ResultVar → List Value → Prop where
  | nil : Runs P tmps w [] []
  | cons {r : ResultVar} {v : Value} {rs : List ResultVar} {vs : List Value} (h : (resOne tmps r).run P w = .ok v w) (t : Runs P tmps w rs vs) : Runs P tmps w (r :: rs) (v :: vs)
theorem results_eq (fnc : Func) (tmps : Array Value) : results fnc tmps = (do let vs ← fnc.results.mapM (resOne tmps); pure (if h : vs.size = 1 then vs[0] else .tuple vs)) := by
  unfold results
  congr 1
theorem results_runs {P : Program} {fnc : Func} {tmps : Array Value} {w : World} {rs : List ResultVar} {vs : List Value} (hl : rs.length ≤ 5) (h : fnc.results = rs.toArray) (hv : Runs P tmps w rs vs) : (results fnc tmps).run P w = .ok (oneVal vs) w := by
  rw [results_eq]
  match rs, hl with
  | [], _ => cases hv; simp [h, oneVal]
  | [a], _ => cases hv with | cons h1 t => cases t; simp [h, oneVal, h1]
  | [a, b], _ => cases hv with | cons h1 t => cases t with | cons h2 t => cases t; simp [h, oneVal, h1, h2]
  | [a, b, c], _ => cases hv with | cons h1 t => cases t with | cons h2 t => cases t with | cons h3 t => cases t; simp [h, oneVal, h1, h2, h3]
  | [a, b, c, d], _ => cases hv with | cons h1 t => cases t with | cons h2 t => cases t with | cons h3 t => cases t with | cons h4 t => cases t; simp [h, oneVal, h1, h2, h3, h4]
  | [a, b, c, d, e], _ => cases hv with | cons h1 t => cases t with | cons h2 t => cases t with | cons h3 t => cases t with | cons h4 t => cases t with | cons h5 t => cases t; simp [h, oneVal, h1, h2, h3, h4, h5]
  | _ :: _ :: _ :: _ :: _ :: _ :: _, hl => simp at hl
def St.resOne (G : Ctx) (S : St) : ResultVar → Option (Bool × List AC)
  | .tmp t => match look S.env t with
    | some (.c x) => some (false, [x])
    | some (.agg cs) => some (true, cs)
    | _ => none
  | .cell a t => match look S.env a, G.I t with
    | some (.c (.ptr q)), some ti => if ti.agg then (S.loadCells q 0 ti.size).bind fun cs => some (true, cs) else (S.loadCell q).bind fun c => some (false, [c])
    | _, _ => none
def St.resAll (G : Ctx) (S : St) : List ResultVar → Option (List (Bool × List AC))
  | [] => some []
  | r :: rs => (S.resOne G r).bind fun x => (S.resAll G rs).bind fun l => some (x :: l)
def oneAV : List (Bool × List AC) → Option AV
  | [(false, [x])] => some (.c x)
  | [(true, cs)] => some (.agg cs)
  | [_] => none
  | l => some (.tup l)
def St.resAVs (G : Ctx) (S : St) (rs : List ResultVar) : Option AV := (S.resAll G rs).bind oneAV
section
variable {G : Ctx} {S : St} {βv : Nat → Nat} {β : Layout} {tmps : Array Value} {w : World}
theorem resOne_ok (hG : G.Ok) (hL : Lays S.F S.hole βv β w) (hE : EnvRel (AcRel S.F S.hole βv β) S.env tmps) {r : ResultVar} {x : Bool × List AC} (h : S.resOne G r = some x) :
    ∃ v, (Go.Proofs.YtnceiegngfpmkaaAm.resOne tmps r).run G.P w = .ok v w ∧ PartRel (AcRel S.F S.hole βv β) x.1 x.2 v := by
  cases r with
  | tmp t =>
    simp only [St.resOne] at h
    split at h
    · rename_i y hy
      cases h
      exact ⟨tmps.getD t undef, rfl, ⟨y, rfl, hE t _ hy⟩⟩
    · rename_i cs hy
      cases h
      exact ⟨tmps.getD t undef, rfl, hE t _ hy⟩
    · cases h
  | cell a t =>
    simp only [St.resOne] at h
    split at h
    · rename_i q ti hx hI
      obtain ⟨e1, e2⟩ := hE a _ hx
      obtain ⟨info, v, i1, i2, _⟩ := hG.i _ _ hI
      split at h
      · rename_i hagg
        obtain ⟨cs, h1, h2⟩ := Option.bind_eq_some_iff.1 h
        cases h2
        obtain ⟨us, k1, k2, k3⟩ := loadCells_rel hL e1 h1
        have hrun := run_loadCells_list (P := G.P) w (q.addr βv β) us (fun j v e => by simpa using k2 j v e)
        refine ⟨.agg us.toArray, ?_, ⟨us, rfl, k3⟩⟩
        simp only [Go.Proofs.YtnceiegngfpmkaaAm.resOne, e2, asAddr, loadVar, Sem.run_bind, Sem.run_pure, Result.andThen_ok]
        rw [run_isAgg hG hI]
        simp only [hagg, Result.andThen_ok, if_true, Sem.run_bind, sizeOf, typeInfo, i1, program, Sem.run, Sem.run_pure, i2]
        rw [← k1, hrun]
        rfl
      · rename_i hagg
        obtain ⟨c, h1, h2⟩ := Option.bind_eq_some_iff.1 h
        cases h2
        obtain ⟨u, k1, k2⟩ := loadCell_rel hL e1 h1
        refine ⟨u, ?_, ⟨c, rfl, k2⟩⟩
        simp only [Go.Proofs.YtnceiegngfpmkaaAm.resOne, e2, asAddr, loadVar, Sem.run_bind, Sem.run_pure, Result.andThen_ok]
        rw [run_isAgg hG hI]
        simp [hagg, load, Sem.run, k1]
    · cases h
theorem resAll_ok (hG : G.Ok) (hL : Lays S.F S.hole βv β w) (hE : EnvRel (AcRel S.F S.hole βv β) S.env tmps) : ∀ {rs : List ResultVar} {l : List (Bool × List AC)}, S.resAll G rs = some l →
    ∃ vs, Runs G.P tmps w rs vs ∧ Parts (AcRel S.F S.hole βv β) l vs
  | [], l, h => by cases h; exact ⟨[], .nil, .nil⟩
  | r :: rs, l, h => by
    obtain ⟨x, h1, h2⟩ := Option.bind_eq_some_iff.1 h
    obtain ⟨l', h3, h4⟩ := Option.bind_eq_some_iff.1 h2
    cases h4
    obtain ⟨v, g1, g2⟩ := resOne_ok hG hL hE h1
    obtain ⟨vs, k1, k2⟩ := resAll_ok hG hL hE h3
    exact ⟨v :: vs, .cons g1 k1, .cons g2 k2⟩
theorem resAVs_ok (hG : G.Ok) (hL : Lays S.F S.hole βv β w) (hE : EnvRel (AcRel S.F S.hole βv β) S.env tmps) {rs : List ResultVar} {av : AV} (h : S.resAVs G rs = some av) :
    ∃ vs, Runs G.P tmps w rs vs ∧ AvRel (AcRel S.F S.hole βv β) av (oneVal vs) := by
  obtain ⟨l, h1, h2⟩ := Option.bind_eq_some_iff.1 h
  obtain ⟨vs, g1, g2⟩ := resAll_ok hG hL hE h1
  refine ⟨vs, g1, ?_⟩
  unfold oneAV at h2
  split at h2
  · cases h2
    cases g2 with
    | cons p t => cases t; obtain ⟨y, e, hy⟩ := p; cases e; exact hy
  · cases h2
    cases g2 with
    | cons p t => cases t; exact p
  · cases h2
  · rename_i hn1
    cases h2
    have : oneVal vs = .tuple vs.toArray := by
      cases g2 with
      | nil => rfl
      | cons p t =>
        cases t with
        | nil => simp_all
        | cons p t => rfl
    rw [this]
    exact ⟨vs, rfl, g2⟩
end
end Go.Proofs.YtnceiegngfpmkaaAm
