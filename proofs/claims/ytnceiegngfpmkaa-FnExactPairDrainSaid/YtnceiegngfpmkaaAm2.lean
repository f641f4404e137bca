/- The abstract machine of this claim: what a step of a program comes to where rows are lists, with its proofs; part 2. -/
import Derived.Test.YtnceiegngfpmkaaAm1
import Derived.Below
import Derived.ChangeArms
import Derived.ShutString
import Derived.WalkKit
import Derived.DataReads
namespace Go.Proofs.YtnceiegngfpmkaaAm
set_option linter.unusedVariables false

/-! ### What a plain function says -/
theorem bif_case {α : Type} {b : Bool} {A B : Option α} {x : α} {C : Prop} (h : (bif b then A else B) = some x) (t : b = true → A = some x → C) (f : b = false → B = some x → C) : C := by
  cases b with
  | true => exact t rfl h
  | false => exact f rfl h
theorem chk_case {α : Type} {p : Prop} [Decidable p] {A : Option α} {x : α} {C : Prop} (h : (if p then A else none) = some x) (t : p → A = some x → C) : C := by
  split at h
  · exact t ‹_› h
  · cases h
theorem bind_case {α β : Type} {o : Option β} {f : β → Option α} {x : α} {C : Prop} (h : o.bind f = some x) (t : ∀ r, o = some r → f r = some x → C) : C := by
  obtain ⟨r, h1, h2⟩ := Option.bind_eq_some_iff.1 h
  exact t r h1 h2
theorem sum_case {α β γ : Type} {e : β ⊕ γ} {f : β → Option α} {g : γ → Option α} {x : α} {C : Prop} (h : Sum.elim f g e = some x) (t : ∀ r, e = .inl r → f r = some x → C) (t2 : ∀ r, e = .inr r → g r = some x → C) : C := by
  cases e with
  | inl r => exact t r rfl h
  | inr r => exact t2 r rfl h
/-! ### Loops -/
open Classical in
/-- What a loop leaves, if it ends. -/
noncomputable def loopD {D E : Type} (f : D → Option (D ⊕ E)) (d : D) : Option E :=
  if h : ∃ e, ∃ k, loopRun f k d = some e then some h.choose else none
theorem loopRun_mono {D E : Type} {f : D → Option (D ⊕ E)} : ∀ {k j : Nat} {d : D} {e : E}, loopRun f k d = some e → k ≤ j → loopRun f j d = some e
  | 0, _, _, _, h, _ => by cases h
  | k + 1, 0, _, _, _, hj => by omega
  | k + 1, j + 1, d, e, h, hj => by
    simp only [loopRun] at h ⊢
    split at h
    · exact loopRun_mono h (by omega)
    · exact h
    · cases h
theorem loopD_run {D E : Type} {f : D → Option (D ⊕ E)} {d : D} {e : E} (h : loopD f d = some e) : ∃ k, loopRun f k d = some e := by
  unfold loopD at h
  split at h
  · rename_i hx
    cases h
    exact hx.choose_spec
  · cases h
theorem loopD_of {D E : Type} {f : D → Option (D ⊕ E)} {d : D} {e : E} {k : Nat} (h : loopRun f k d = some e) : loopD f d = some e := by
  have hx : ∃ e, ∃ k, loopRun f k d = some e := ⟨e, k, h⟩
  unfold loopD
  rw [dif_pos hx]
  obtain ⟨j, hj⟩ := hx.choose_spec
  have h1 := loopRun_mono h (Nat.le_max_left k j)
  have h2 := loopRun_mono hj (Nat.le_max_right k j)
  rw [h1] at h2
  exact h2.symm
theorem loopD_next {D E : Type} {f : D → Option (D ⊕ E)} {d d' : D} (h : f d = some (.inl d')) : loopD f d = loopD f d' := by
  cases h2 : loopD f d' with
  | some e =>
    obtain ⟨k, hk⟩ := loopD_run h2
    exact loopD_of (k := k + 1) (by simp only [loopRun, h]; exact hk)
  | none =>
    cases h3 : loopD f d with
    | none => rfl
    | some e =>
      obtain ⟨k, hk⟩ := loopD_run h3
      cases k with
      | zero => cases hk
      | succ k =>
        simp only [loopRun, h] at hk
        rw [loopD_of hk] at h2
        cases h2
theorem loopD_end {D E : Type} {f : D → Option (D ⊕ E)} {d : D} {e : E} (h : f d = some (.inr e)) : loopD f d = some e :=
  loopD_of (k := 1) (by simp only [loopRun, h])

section
variable {G : Ctx} {n : Nat} {S S' : St} {x : Out × St}
theorem loopD_ok {D E : Type} {b : Code} {σ : D → St} {τ : E → Out × St} {f : D → Option (D ⊕ E)} (hτ : ∀ e, (τ e).1 ≠ .norm)
    (hf : ∀ d x, f d = some x → Seg G n (atCode b [] (σ d)) (Sum.elim (fun d' => (.norm, σ d')) τ x)) {d : D} {e : E} (h : loopD f d = some e) : CodeOk G n (.loop b) (σ d) (τ e) := by
  obtain ⟨k, hk⟩ := loopD_run h
  refine loop_seg hτ (fun d x hx => ?_) hk
  have := hf d x hx
  cases x <;> exact this
theorem Seg.loopAt {c : Code} {p : List Nat} {b : Code} {y : Out × St} (hb : (place p [] c).2 = .loop b) (h : CodeOk G n (.loop b) S y) (hs : Seg G n (atFin c p y.1 y.2) x) : Seg G n (atCode c p S) x := by
  unfold atCode
  rw [hb]
  exact Seg.loop h hs
theorem Seg.fin {R : Type} {L : R → Out × St} {y x : R} {out : Out} (h : some y = some x) (e : L y = (out, S)) : Seg G n ⟨[], .fin out, S⟩ (L x) := by
  cases h
  rw [e]
  exact Seg.done
/-! ### Calls -/
/-- What is called; the variables that come along with a function value. -/
def calleeOf (S : St) (c : Call) : Option (FuncId × List AV) :=
  match c.callee with
  | .value (.func f) => some (f, [])
  | .value (.tmp t) => match S.ev (.tmp t) with
    | some (.c (.clo f caps)) => some (f, caps.map fun x => .c (.ptr (.cell x.1 x.2)))
    | _ => none
  | _ => none
def callAVs (o : Oper) (S : St) : Option (FuncId × List AV) :=
  match o.op with
  | .call c => (calleeOf S c).bind fun y => (S.evs c.args.toList).bind fun avs => some (y.1, avs ++ y.2)
  | _ => none
theorem Avs.append {R : AC → Value → Prop} {xs : List AV} {vs : List Value} (h : Avs R xs vs) {ys : List AV} {us : List Value} (h' : Avs R ys us) : Avs R (xs ++ ys) (vs ++ us) := by
  induction h with
  | nil => exact h'
  | cons a _ ih => exact .cons a ih
theorem callAVs_spec {P : Program} {S : St} {βv : Nat → Nat} {β : Layout} {a : Act} {o : Oper} {f : FuncId} {avs : List AV} (he : EnvRel (AcRel S.F S.hole βv β) S.env a.tmps) (h : callAVs o S = some (f, avs)) :
    ∃ vals : Array Value, Avs (AcRel S.F S.hole βv β) avs vals.toList ∧ ∀ (fn : Func) (w : World), P.funcs[f]? = some fn → fn.name ≠ "runtime.NumGoroutine" → fn.body ≠ none → (execOp a.eval o).run P w = .ok (.enter f vals) w := by
  unfold callAVs at h
  split at h
  · rename_i c hop
    obtain ⟨⟨f', ext⟩, h1, h⟩ := Option.bind_eq_some_iff.1 h
    obtain ⟨l, h2, h⟩ := Option.bind_eq_some_iff.1 h
    cases h
    have hl := evs_rel he h2
    unfold calleeOf at h1
    split at h1
    · rename_i f0 hcal
      cases h1
      refine ⟨c.args.map a.eval, by rw [Array.toList_map, List.append_nil]; exact hl, fun fn w f1 f2 f3 => ?_⟩
      simp [execOp, hop, resolve, hcal, Act.eval, Deferred.ofValue, invoke, callFunc, program, Sem.run, f1, f2, f3]
    · rename_i t hcal
      split at h1
      · rename_i f0 caps hev
        cases h1
        have hv := ev_rel he hev
        obtain ⟨hp, hv⟩ := hv
        refine ⟨c.args.map a.eval ++ (caps.map fun x => Value.pointer (some ⟨βv x.1, x.2, none⟩)).toArray, ?_, fun fn w f1 f2 f3 => ?_⟩
        · rw [Array.toList_append, Array.toList_map]
          refine hl.append ?_
          have : ∀ (l : List (Nat × Nat)), (∀ x ∈ l, PtrOk S.F S.hole (.cell x.1 x.2)) → Avs (AcRel S.F S.hole βv β) (l.map fun x => AV.c (.ptr (.cell x.1 x.2))) (l.map fun x => Value.pointer (some ⟨βv x.1, x.2, none⟩)) := by
            intro l
            induction l with
            | nil => intro _; exact .nil
            | cons x l ih => intro h; exact .cons (x := .c _) ⟨h x (by simp), rfl⟩ (ih fun y hy => h y (by simp [hy]))
          exact this caps hp
        · simp only [Act.eval] at hv
          simp [execOp, hop, resolve, hcal, Act.eval, hv, Deferred.ofValue, invoke, callFunc, program, Sem.run, f1, f2, f3]
      · cases h1
    · cases h1
  · cases h
def callIn (A : List Nat) (base k : Nat) (o : Oper) (S : St) : Option (FuncId × St) :=
  (callAVs o S).bind fun x => if S.hole = none ∧ S.aux = [] ∧ x.2.length = k then
    if refsIn (S.F.only A) (fun r => A.contains r) = true ∧ refsIn (S.F.rest A) (fun r => !A.contains r) = true then
      (handAVs (S.F.rest A) A base (S.F.only A) x.2).bind fun y => some (x.1, ⟨envFrom 0 y.2.2, y.2.1, none, []⟩)
    else none
  else none
def callOut (n : Nat) (A : List Nat) (o : Oper) (S : St) (av : AV) (F : Forest) : Option St :=
  if uniB F .full = true ∧ apartB F (S.F.rest A) = true then St.bind ⟨mapEnv (AC.keep (fun r => !A.contains r)) S.env, F.over (S.F.rest A), none, []⟩ n o.dst av else none
def opAt (c : Code) (p : List Nat) (k : Nat) : Option Oper := (regOps (place p [] c).2).2[k]?
def fnFacts (P : Program) (f : FuncId) : Bool := match P.funcs[f]? with
  | some fn => !(fn.name == "runtime.NumGoroutine") && !fn.body.isNone
  | none => false
/-- What a call does; what is known of its arguments behind it. -/
def CallP (G : Ctx) (f : FuncId) (k : Nat) (S : St) (pins : List (Nat × AV)) (av : AV) (F : Forest) : Prop :=
  ∀ (w : World) (args : Array Value) (βv : Nat → Nat) (β : Layout), args.size = k → Holds S βv β args [] w → Calls G.P f args w fun x w' => ∃ v βv' β', x = .returned v ∧ Lays F none βv' β' w' ∧ AvRel (AcRel F none βv' β') av v ∧
    (∀ p ∈ pins, AvRel (AcRel F none βv' β') p.2 (args.getD p.1 undef)) ∧ (∀ b, ShB F none β' b → ShB S.F none β b ∨ OwnB S.F none βv β b ∨ w.heap.size ≤ b) ∧
    (∀ b, OwnB F none βv' β' b → OwnB S.F none βv β b ∨ w.heap.size ≤ b) ∧ (∀ b, b < w.heap.size → ¬ OwnB S.F none βv β b → w'.heap[b]? = w.heap[b]?) ∧ w.heap.size ≤ w'.heap.size ∧ w'.os = w.os ∧ w'.tape = w.tape ∧ w'.output = w.output
theorem CallP.same {G : Ctx} {f : FuncId} {m : Nat} {S S' : St} {pins : List (Nat × AV)} {av : AV} {F : Forest} (hg : ∀ r, S'.F.get r = S.F.get r) (he : S'.env = S.env) (ha : S'.aux = S.aux) (hh : S'.hole = S.hole) (h : CallP G f m S pins av F) : CallP G f m S' pins av F := by
  intro w args βv β hk hH
  have back : ∀ b, OwnB S.F none βv β b → OwnB S'.F none βv β b := fun b hb => ownB_same (fun r => (hg r).symm) hb
  have there : ∀ b, OwnB S'.F none βv β b → OwnB S.F none βv β b := fun b hb => ownB_same hg hb
  refine Calls.mono (h w args βv β hk (hH.same (fun r => (hg r).symm) (fun t av ht => by rw [he]; exact ht) hh.symm ha.symm)) fun x w' hx => ?_
  obtain ⟨v, βv', β', e, g1, g2, gp, gs, g3, g4, g5⟩ := hx
  exact ⟨v, βv', β', e, g1, g2, gp, fun b hb => (gs b hb).imp (fun h => shB_same (fun r => (hg r).symm) h) (fun h => h.imp (back b) id), fun b hb => (g3 b hb).imp (back b) id, fun b hb hn => g4 b hb (fun ho => hn (back b ho)), g5⟩
/-! Roots change their numbers. -/
def swp (l : List (Nat × Nat)) (r : Nat) : Nat := l.foldl (fun r x => if r = x.1 then x.2 else if r = x.2 then x.1 else r) r
theorem swp_back : ∀ (l : List (Nat × Nat)) (r : Nat), swp l.reverse (swp l r) = r
  | [], r => rfl
  | x :: l, r => by
    show swp (x :: l).reverse (swp l (if r = x.1 then x.2 else if r = x.2 then x.1 else r)) = r
    rw [List.reverse_cons]
    have e : ∀ y, swp (l.reverse ++ [x]) y = (fun r => if r = x.1 then x.2 else if r = x.2 then x.1 else r) (swp l.reverse y) := fun y => by
      simp only [swp, List.foldl_append, List.foldl_cons, List.foldl_nil]
      rfl
    rw [e, swp_back l]
    by_cases h1 : r = x.1
    · subst h1
      by_cases h3 : x.2 = x.1
      · simp [h3]
      · simp [h3]
    · by_cases h2 : r = x.2
      · subst h2; simp [h1]
      · simp [h1, h2]
theorem swp_there (l : List (Nat × Nat)) (r : Nat) : swp l (swp l.reverse r) = r := by
  have := swp_back l.reverse r
  rwa [List.reverse_reverse] at this
theorem get_ren {ρ σ : Nat → Nat} (hl : ∀ r, σ (ρ r) = r) (F : Forest) (r : Nat) : (F.ren ρ).get (ρ r) = (F.get r).map (Root.ren ρ) := by
  induction F with
  | nil => rfl
  | cons x F ih =>
    obtain ⟨k, R⟩ := x
    show (if ρ r = ρ k then R.map (Root.ren ρ) else Forest.get (Forest.ren ρ F) (ρ r)) = _
    by_cases e : r = k
    · subst e; simp [Forest.get]
    · have : ¬ ρ r = ρ k := fun h => e (by rw [← hl r, ← hl k, h])
      simp only [this, if_false, Forest.get, e]
      exact ih
theorem renamed_of (l : List (Nat × Nat)) (F : Forest) : Renamed (swp l) (swp l.reverse) F (F.ren (swp l)) :=
  ⟨fun r => get_ren (swp_back l) F r, swp_back l, swp_there l⟩
def St.ren (ρ : Nat → Nat) (S : St) : St := ⟨mapEnv (AC.ren ρ) S.env, S.F.ren ρ, none, []⟩
def AV.ren (ρ : Nat → Nat) (a : AV) : AV := a.map (AC.ren ρ)
theorem form_ren (ρ : Nat → Nat) (a : AV) : (a.ren ρ).form = a.form := by cases a <;> simp [AV.ren, AV.map, AV.form]
theorem tight_spec {S S' : St} {rs : List Nat} (h : S.tight rs = some S') : (∀ r, S'.F.get r = S.F.get r) ∧ S'.env = S.env ∧ S'.hole = S.hole ∧ S'.aux = S.aux := by
  unfold St.tight at h
  split at h
  · rename_i hc
    cases h
    refine ⟨fun r => ?_, rfl, rfl, rfl⟩
    show Forest.get (rs.filterMap (fun r => (S.F.get r).map fun R => (r, some R))) r = S.F.get r
    rw [get_pick]
    split
    · rfl
    · rename_i hr
      cases hg : S.F.get r with
      | none => rfl
      | some R =>
        exfalso
        by_cases hk : r ∈ S.F.map (·.1)
        · obtain ⟨x, hx, rfl⟩ := List.mem_map.1 hk
          have := List.all_eq_true.1 hc x hx
          simp only [Bool.or_eq_true, hg, Option.isNone_some, Bool.false_eq_true, or_false, List.contains_iff_mem] at this
          exact hr this
        · rw [get_none hk] at hg; cases hg
  · cases h
def callInT (A : List Nat) (base k : Nat) (ρ : List (Nat × Nat)) (rs : List Nat) (o : Oper) (S : St) : Option (FuncId × St) :=
  (callIn A base k o S).bind fun y => ((y.2.ren (swp ρ.reverse)).tight rs).bind fun s => some (y.1, s)
/-- Rows that were lent out and lie where they lay. -/
def sameRow (F F' : Forest) (r : Nat) : Bool := match F.get r, F'.get r with
  | some ⟨false, [.rows _ τ _]⟩, some ⟨false, [.rows _ τ' _]⟩ => decide (τ = τ')
  | _, _ => false
/-- Addresses of variables, and of rows, that were lent out are good again. -/
def keepPin (A P Q : List Nat) (F0 F : Forest) : AC → AC
  | .ptr (.cell r o) => if A.contains r then (if P.contains r && (match F.get r with
      | some R => R.mem && decide (o < R.cs.length)
      | none => false) then .ptr (.cell r o) else .dead) else .ptr (.cell r o)
  | .sl (.cell r o) pt => if A.contains r then (if Q.contains r && (decide (o = 0) && sameRow F0 F r) then .sl (.cell r o) pt else .dead) else .sl (.cell r o) pt
  | .clo f caps => if caps.all (fun x => !A.contains x.1 || (P.contains x.1 && (match F.get x.1 with
      | some R => R.mem && decide (x.2 < R.cs.length)
      | none => false))) then .clo f caps else .dead
  | x => AC.keep (fun r => !A.contains r) x
/-- A row that lay there lies there. -/
def Lies (F F' : Forest) (βv βv' : Nat → Nat) (β β' : Layout) (r : Nat) : Prop := ∃ v, AcRel F none βv β (.sl (.cell r 0) none) v ∧ AcRel F' none βv' β' (.sl (.cell r 0) none) v
theorem sameRow_spec {F F' : Forest} {r : Nat} (h : sameRow F F' r = true) : ∃ m m' τ l l', F.get r = some ⟨false, [.rows m τ l]⟩ ∧ F'.get r = some ⟨false, [.rows m' τ l']⟩ := by
  unfold sameRow at h
  split at h
  · rename_i m τ l m' τ' l' h1 h2
    simp only [decide_eq_true_eq] at h
    subst h
    exact ⟨m, m', τ, l, l', h1, h2⟩
  · cases h
theorem Lies.sl {F F' : Forest} {βv βv' : Nat → Nat} {β β' : Layout} {w w' : World} {r : Nat} (hL : Lays F none βv β w) (hL' : Lays F' none βv' β' w') (h : Lies F F' βv βv' β β' r) (hs : sameRow F F' r = true) {pt : Option (Nat × Nat)} {u : Value} (hx : AcRel F none βv β (.sl (.cell r 0) pt) u) :
    AcRel F' none βv' β' (.sl (.cell r 0) pt) u := by
  obtain ⟨m, m', τ, l, l', e1, e2⟩ := sameRow_spec hs
  have a1 : AtN F none (.cell r 0) (.rows m τ l) := ⟨⟨_, e1, rfl⟩, fun _ e => by cases e⟩
  have a2 : AtN F' none (.cell r 0) (.rows m' τ l') := ⟨⟨_, e2, rfl⟩, fun _ e => by cases e⟩
  obtain ⟨v, ⟨m1, τ1, l1, b1, _, s1⟩, ⟨m2, τ2, l2, b2, _, s2⟩⟩ := h
  cases a1.uniq b1
  cases a2.uniq b2
  obtain ⟨m3, τ3, l3, b3, c3, s3⟩ := hx
  cases a1.uniq b3
  obtain ⟨A1, c1, rfl, d1, f1⟩ := s1
  obtain ⟨A2, c2, e, d2, f2⟩ := s2
  simp only [ptLen, Value.slice.injEq] at e
  obtain ⟨rfl, el, rfl⟩ := e
  obtain ⟨A3, c4, rfl, d3, f3⟩ := s3
  refine ⟨m', τ, l', a2, by rw [← el]; exact c3, A3, c4, by rw [← el], ?_, ?_⟩
  · simp only [ptLo] at d1 d2; omega
  · rcases f3 with f3 | f3
    · exact .inl f3
    · rcases f1 with f1 | f1
      · left
        simp only [ptLo] at d1 d2; omega
      · rcases f2 with f2 | f2
        · left
          simp only [ptLo] at d1 d2; omega
        · right
          rw [f1] at f2
          simp only [ptLo, Nat.zero_mul, Nat.add_zero, Option.some.injEq, Addr.mk.injEq, and_true] at f2
          rw [f3, (hL'.rows _ _ _ _ a2).1, (hL.rows _ _ _ _ a1).1, f2.1, f2.2]
theorem keepPin_rel {A P Q : List Nat} {F F' FR Fo : Forest} {βv βv' : Nat → Nat} {β β' : Layout} {w w' : World} {x : AC} {v : Value} (hL : Lays F none βv β w) (hL' : Lays F' none βv' β' w') (hJ : Joint Fo F' FR) (hpin : ∀ r, P.contains r = true → βv' r = βv r) (hrow : ∀ r, Q.contains r = true → Lies F F' βv βv' β β' r) (hFR : ∀ r, A.contains r = false → FR.get r = F.get r) (hx : AcRel F none βv β x v)
    (old : AcRel Fo none (joinV F' βv' βv) (joinL F' β' β) (x.keep (fun r => !A.contains r)) v) : AcRel Fo none (joinV F' βv' βv) (joinL F' β' β) (keepPin A P Q F F' x) v := by
  cases x with
  | ptr q =>
    cases q with
    | sub q i o => exact old
    | cell r o =>
      by_cases hA : A.contains r = true
      · by_cases hc : (P.contains r && (match F'.get r with
          | some R => R.mem && decide (o < R.cs.length)
          | none => false)) = true
        · have e : keepPin A P Q F F' (.ptr (.cell r o)) = .ptr (.cell r o) := by
            show (if A.contains r = true then (if (P.contains r && (match F'.get r with
              | some R => R.mem && decide (o < R.cs.length)
              | none => false)) = true then AC.ptr (.cell r o) else .dead) else .ptr (.cell r o)) = _
            rw [if_pos hA, if_pos hc]
          rw [e]
          rw [Bool.and_eq_true] at hc
          obtain ⟨h1, h2⟩ := hc
          have hβ := hpin r h1
          cases hR : F'.get r with
          | none => rw [hR] at h2; cases h2
          | some R =>
            rw [hR] at h2
            simp only [Bool.and_eq_true, decide_eq_true_eq] at h2
            refine AcRel.left hJ ⟨⟨R, hR, h2.1, h2.2⟩, ?_⟩
            rw [hx.2]
            simp [Pl.addr, hβ]
        · have e : keepPin A P Q F F' (.ptr (.cell r o)) = .dead := by
            show (if A.contains r = true then (if (P.contains r && (match F'.get r with
              | some R => R.mem && decide (o < R.cs.length)
              | none => false)) = true then AC.ptr (.cell r o) else .dead) else .ptr (.cell r o)) = _
            rw [if_pos hA, if_neg hc]
          rw [e]
          trivial
      · have e : keepPin A P Q F F' (.ptr (.cell r o)) = .ptr (.cell r o) := by
          show (if A.contains r = true then _ else _) = _
          rw [if_neg hA]
        rw [e]
        have e2 : AC.keep (fun r => !A.contains r) (.ptr (.cell r o)) = .ptr (.cell r o) := by
          show (if (!A.contains r) = true then _ else _) = _
          exact if_pos (by simpa using hA)
        rw [e2] at old
        exact old
  | sl q pt =>
    cases q with
    | sub q i o => exact old
    | cell r o =>
      by_cases hA : A.contains r = true
      · by_cases hc : (Q.contains r && (decide (o = 0) && sameRow F F' r)) = true
        · have e : keepPin A P Q F F' (.sl (.cell r o) pt) = .sl (.cell r o) pt := by
            show (if A.contains r = true then (if (Q.contains r && (decide (o = 0) && sameRow F F' r)) = true then AC.sl (.cell r o) pt else .dead) else .sl (.cell r o) pt) = _
            rw [if_pos hA, if_pos hc]
          rw [e]
          simp only [Bool.and_eq_true, decide_eq_true_eq] at hc
          obtain ⟨h1, rfl, h2⟩ := hc
          exact AcRel.left hJ (Lies.sl hL hL' (hrow r h1) h2 hx)
        · have e : keepPin A P Q F F' (.sl (.cell r o) pt) = .dead := by
            show (if A.contains r = true then (if (Q.contains r && (decide (o = 0) && sameRow F F' r)) = true then AC.sl (.cell r o) pt else .dead) else .sl (.cell r o) pt) = _
            rw [if_pos hA, if_neg hc]
          rw [e]
          trivial
      · have e : keepPin A P Q F F' (.sl (.cell r o) pt) = .sl (.cell r o) pt := by
          show (if A.contains r = true then _ else _) = _
          rw [if_neg hA]
        rw [e]
        have e2 : AC.keep (fun r => !A.contains r) (.sl (.cell r o) pt) = .sl (.cell r o) pt := by
          show (if (!A.contains r) = true then _ else _) = _
          exact if_pos (by simpa using hA)
        rw [e2] at old
        exact old
  | clo f caps =>
    simp only [keepPin]
    split
    · rename_i hc
      obtain ⟨h1, h2⟩ := hx
      have one : ∀ x ∈ caps, PtrOk Fo none (.cell x.1 x.2) ∧ joinV F' βv' βv x.1 = βv x.1 := fun x hx => by
        have hc := List.all_eq_true.1 hc x hx
        by_cases hA : A.contains x.1 = true
        · simp only [hA, Bool.not_true, Bool.false_or, Bool.and_eq_true] at hc
          obtain ⟨k1, k2⟩ := hc
          cases hR : F'.get x.1 with
          | none => rw [hR] at k2; cases k2
          | some R =>
            rw [hR] at k2
            simp only [Bool.and_eq_true, decide_eq_true_eq] at k2
            have := AcRel.left (βv2 := βv) (β2 := β) hJ (show AcRel F' none βv' β' (.ptr (.cell x.1 x.2)) (.pointer (some ⟨βv' x.1, x.2, none⟩)) from ⟨⟨R, hR, k2.1, k2.2⟩, rfl⟩)
            obtain ⟨p1, p2⟩ := this
            refine ⟨p1, ?_⟩
            simp only [Pl.addr, Value.pointer.injEq, Option.some.injEq, Addr.mk.injEq, and_true] at p2
            rw [← p2, hpin _ k1]
        · have hk : AcRel FR none βv β (.ptr (.cell x.1 x.2)) (.pointer (some ⟨βv x.1, x.2, none⟩)) := ⟨(ptrOk_get (hFR (Pl.cell x.1 x.2).root (by simpa [Pl.root] using hA))).2 (h1 x hx), rfl⟩
          have := AcRel.right (βv1 := βv') (β1 := β') hJ hk
          obtain ⟨p1, p2⟩ := this
          refine ⟨p1, ?_⟩
          simp only [Pl.addr, Value.pointer.injEq, Option.some.injEq, Addr.mk.injEq, and_true] at p2
          exact p2.symm
      refine ⟨fun x hx => (one x hx).1, ?_⟩
      rw [h2]
      congr 2
      refine List.map_congr_left fun x hx => ?_
      rw [(one x hx).2]
    · trivial
  | _ => exact old
def AV.acs : AV → List AC
  | .c x => [x]
  | .agg cs => cs
  | _ => []
theorem acs_ren (ρ : Nat → Nat) (a : AV) : (a.ren ρ).acs = a.acs.map (AC.ren ρ) := by cases a <;> simp [AV.ren, AV.map, AV.acs]
/-- An argument's cells beside what is known of them behind the call. -/
def pinPairs (o : Oper) (S : St) (pins : List (Nat × AV)) : List (AC × AC) :=
  pins.flatMap fun p => match (callAVs o S).bind fun y => y.2[p.1]? with
    | some av => if av.form = p.2.form then av.acs.zip p.2.acs else []
    | none => []
def pinRoots (ρ : List (Nat × Nat)) (A : List Nat) (l : List (AC × AC)) : List Nat :=
  l.filterMap fun p => match p.1, p.2 with
    | .ptr (.cell r _), .ptr (.cell r' _) => if swp ρ r' = r ∧ A.contains r = true then some r else none
    | .clo _ [(r, _)], .clo _ [(r', _)] => if swp ρ r' = r ∧ A.contains r = true then some r else none
    | _, _ => none
def pinRows (ρ : List (Nat × Nat)) (A : List Nat) (l : List (AC × AC)) : List Nat :=
  l.filterMap fun p => match p.1, p.2 with
    | .sl (.cell r 0) none, .sl (.cell r' 0) none => if swp ρ r' = r ∧ A.contains r = true then some r else none
    | _, _ => none
theorem Acs.zip {R R' : AC → Value → Prop} : ∀ {xs ys : List AC} {vs : List Value}, Acs R xs vs → Acs R' ys vs → ∀ p ∈ xs.zip ys, ∃ v, R p.1 v ∧ R' p.2 v
  | _, _, _, .nil, .nil, p, h => by cases h
  | _, _, _, .cons a t, .cons b s, p, h => by
    simp only [List.zip_cons_cons, List.mem_cons] at h
    rcases h with rfl | h
    · exact ⟨_, a, b⟩
    · exact Acs.zip t s p h
theorem AvRel.zip {R R' : AC → Value → Prop} {a b : AV} {v : Value} (h : AvRel R a v) (h' : AvRel R' b v) (hf : a.form = b.form) : ∀ p ∈ a.acs.zip b.acs, ∃ v, R p.1 v ∧ R' p.2 v := by
  intro p hp
  cases a with
  | c x =>
    cases b with
    | c y =>
      simp only [AV.acs, List.zip_cons_cons, List.zip_nil_right, List.mem_singleton] at hp
      subst hp
      exact ⟨v, h, h'⟩
    | _ => simp [AV.form] at hf
  | agg cs =>
    cases b with
    | agg ds =>
      obtain ⟨vs, rfl, h1⟩ := h
      obtain ⟨us, e, h2⟩ := h'
      simp only [Value.agg.injEq] at e
      have : us = vs := by simpa using e.symm
      subst this
      exact Acs.zip h1 h2 p hp
    | _ => simp [AV.form] at hf
  | _ => simp [AV.acs] at hp
/-- The rows that are lent are nobody's own. -/
def argsSh (A : List Nat) (o : Oper) (S : St) : Bool := match callAVs o S with
  | some x => x.2.all (lentShs (S.F.rest A) A)
  | none => false
def callOutT (n : Nat) (A : List Nat) (ρ : List (Nat × Nat)) (pins : List (Nat × AV)) (o : Oper) (S : St) (av : AV) (F : Forest) : Option St :=
  if (uniB (F.ren (swp ρ)) .full || argsSh A o S) = true ∧ apartB (F.ren (swp ρ)) (S.F.rest A) = true then
    St.bind ⟨mapEnv (keepPin A (pinRoots ρ A (pinPairs o S pins)) (pinRows ρ A (pinPairs o S pins)) S.F (F.ren (swp ρ))) S.env, (F.ren (swp ρ)).over (S.F.rest A), none, []⟩ n o.dst (av.ren (swp ρ)) else none
theorem sh_sub {F F2 : Forest} {β : Layout} (h : ∀ r R, F2.get r = some R → F.get r = some R) {b : Nat} (hb : ShB F2 none β b) : ShB F none β b := by
  obtain ⟨q, m, τ, l, k1, k2⟩ := hb
  obtain ⟨R, hR⟩ := at_root k1.1
  exact ⟨q, m, τ, l, ⟨(at_get (by rw [hR, h _ _ hR])).1 k1.1, k1.2⟩, k2⟩
theorem sh_join {F F1 F2 : Forest} {β1 β2 : Layout} (hJ : Joint F F1 F2) {b : Nat} (hb : ShB F none (joinL F1 β1 β2) b) : ShB F1 none β1 b ∨ ShB F2 none β2 b := by
  obtain ⟨q, m, τ, l, k1, k2, k3, k4⟩ := hb
  obtain ⟨R, hR⟩ := at_root k1.1
  rcases hJ.cases hR with e | ⟨e1, e2⟩
  · rw [joinL_left e] at k4
    exact .inl ⟨q, m, τ, l, ⟨(at_get (by rw [hR, e])).1 k1.1, k1.2⟩, k2, k3, k4⟩
  · rw [joinL_right e1] at k4
    exact .inr ⟨q, m, τ, l, ⟨(at_get (by rw [hR, e2])).1 k1.1, k1.2⟩, k2, k3, k4⟩
theorem call_op {w0 : World} {O0 : Own0} {o : Oper} {f : FuncId} {m : Nat} {Sin0 : St} {pins : List (Nat × AV)} {av : AV} {F : Forest} (A : List Nat) (base : Nat) (ρ : List (Nat × Nat)) (rs : List Nat) (hfn : fnFacts G.P f = true)
    (h1 : callInT A base m ρ rs o S = some (f, Sin0)) (hc : CallP G f m Sin0 pins av F) (h2 : callOutT n A ρ pins o S av F = some S') : OpOk G w0 O0 n o S S' := by
  obtain ⟨⟨fx, Sin⟩, h1, h3⟩ := Option.bind_eq_some_iff.1 h1
  obtain ⟨S0, h4, h5⟩ := Option.bind_eq_some_iff.1 h3
  simp only [Option.some.injEq, Prod.mk.injEq] at h5
  have e1 : f = fx := h5.1.symm
  have e2 : Sin0 = S0 := h5.2.symm
  subst e1
  subst e2
  obtain ⟨t1, t2, t3, t4⟩ := tight_spec h4
  have hc := hc.same (S' := Sin.ren (swp ρ.reverse)) (fun r => (t1 r).symm) t2.symm t4.symm t3.symm
  have hrun : ∃ fn, G.P.funcs[f]? = some fn ∧ (fn.name == "runtime.NumGoroutine") = false ∧ fn.body.isNone = false := by
    unfold fnFacts at hfn
    split at hfn
    · rename_i fn hf
      simp only [Bool.and_eq_true, Bool.not_eq_true'] at hfn
      exact ⟨fn, hf, hfn.1, hfn.2⟩
    · cases hfn
  obtain ⟨fn, f1, f2, f3⟩ := hrun
  unfold callIn at h1
  obtain ⟨⟨f', avs⟩, hcall0, h1⟩ := Option.bind_eq_some_iff.1 h1
  split at h1
  · rename_i hcond
    obtain ⟨hole, haux, hk⟩ := hcond
    split at h1
    · rename_i hrefs
      · · obtain ⟨hr1, hr2⟩ := hrefs
          obtain ⟨y, hy, h1⟩ := Option.bind_eq_some_iff.1 h1
          cases h1
          unfold callOutT at h2
          split at h2
          · rename_i hfin
            obtain ⟨hu, hap⟩ := hfin
            generalize hpr : pinRoots ρ A (pinPairs o S pins) = PR at h2
            generalize hqr : pinRows ρ A (pinPairs o S pins) = QR at h2
            intro a w K Q hS hK
            obtain ⟨βv, β, hH, hO, hT⟩ := hS.holds
            have hL := hH.lays
            have hE := hH.env
            rw [hole] at hL hE hO hT
            have hP := hL.part A hr1 hr2
            have inA : ∀ r R, (S.F.only A).get r = some R → S.F.get r = some R := fun r R h => by
              rw [get_only] at h
              split at h
              · exact h
              · cases h
            have inR : ∀ r R, (S.F.rest A).get r = some R → S.F.get r = some R := fun r R h => by
              rw [get_rest] at h
              split at h
              · cases h
              · exact h
            have hW : Way S.F A (S.F.only A) βv β β w (OwnB S.F none βv β) (avs.all (lentShs (S.F.rest A) A) = true) := ⟨hP.handed, fun _ _ h => h, fun b hb => own_sub inA hb, fun b hb => .inl (sh_sub inA hb)⟩
            obtain ⟨vals, hrel, hexec⟩ := callAVs_spec (P := G.P) (a := a) hH.env hcall0
            rw [hole] at hrel
            obtain ⟨βA, hW2, _, hargs⟩ := handAVs_ok hW (fun e => e) hy hrel
            have hsz : vals.size = m := by rw [← hk, ← Array.length_toList]; exact hrel.length.symm
            have hHin : Holds ⟨envFrom 0 y.2.2, y.2.1, none, []⟩ βv βA vals [] w := by
              refine ⟨hW2.h.a, fun t av ht => ?_, .nil⟩
              obtain ⟨_, h2⟩ := look_from ht
              obtain ⟨v, h3, h4⟩ := hargs.get h2
              have : vals.getD t undef = v := by
                rw [Array.getD_eq_getD_getElem?, ← Array.getElem?_toList]
                rw [Nat.sub_zero] at h3
                rw [h3]; rfl
              rw [this]
              exact h4
            -- by the callee's numbers
            have hren := renamed_of ρ.reverse y.2.1
            rw [List.reverse_reverse] at hren
            have hHr : Holds (St.ren (swp ρ.reverse) ⟨envFrom 0 y.2.2, y.2.1, none, []⟩) (renV (swp ρ) βv) (renL (swp ρ) βA) vals [] w := by
              refine ⟨hHin.lays.ren hren, ?_, .nil⟩
              exact EnvRel.map (fun x v hx => acRel_ren hren hx) hHin.env
            have hcall := hc w _ _ _ hsz hHr
            have hex : (execOp a.eval o).run G.P w = .ok (.enter f' vals) w := by
              have f2' : ¬ fn.name = "runtime.NumGoroutine" := by simpa using f2
              have f3' : ¬ fn.body = none := fun e => by rw [e] at f3; cases f3
              exact hexec fn w f1 f2' f3'
            unfold Oper.wp
            rw [hex, Oper.upon_enter]
            refine Calls.mono hcall fun x w' hx => ?_
            obtain ⟨v, βv1, β1, rfl, g1, g2, gp, gs, g3, g4, g5, g6, g7, g8⟩ := hx
            have hrF := renamed_of ρ F
            have g1 := g1.ren hrF
            have g2 : AvRel (AcRel (F.ren (swp ρ)) none (renV (swp ρ.reverse) βv1) (renL (swp ρ.reverse) β1)) (av.ren (swp ρ)) v := AvRel.map (fun x v hx => acRel_ren hrF hx) g2
            have gp : ∀ p ∈ pins, AvRel (AcRel (F.ren (swp ρ)) none (renV (swp ρ.reverse) βv1) (renL (swp ρ.reverse) β1)) (p.2.ren (swp ρ)) (vals.getD p.1 undef) := fun p hp => AvRel.map (fun x v hx => acRel_ren hrF hx) (gp p hp)
            have g3 : ∀ b, OwnB (F.ren (swp ρ)) none (renV (swp ρ.reverse) βv1) (renL (swp ρ.reverse) β1) b → OwnB y.2.1 none βv βA b ∨ w.heap.size ≤ b := fun b hb => by
              rcases g3 b (ownB_back hrF hb) with h | h
              · exact .inl (ownB_back hren h)
              · exact .inr h
            have gs : ∀ b, ShB (F.ren (swp ρ)) none (renL (swp ρ.reverse) β1) b → ShB y.2.1 none βA b ∨ OwnB y.2.1 none βv βA b ∨ w.heap.size ≤ b := fun b hb => by
              rcases gs b (shB_back hrF hb) with h | h | h
              · exact .inl (shB_back hren h)
              · exact .inr (.inl (ownB_back hren h))
              · exact .inr (.inr h)
            have g4 : ∀ b, b < w.heap.size → ¬ OwnB y.2.1 none βv βA b → w'.heap[b]? = w.heap[b]? := fun b hb hn => g4 b hb fun h => hn (ownB_back hren h)
            generalize renV (swp ρ.reverse) βv1 = βv' at g1 g2 gp g3
            generalize renL (swp ρ.reverse) β1 = β' at g1 g2 gp g3 gs
            generalize F.ren (swp ρ) = F' at g1 g2 gp g3 gs h2 hu hap
            have g1 : Lays F' none βv' β' w' := g1
            have hJ := joint_over hap
            have hsep : ∀ b, ShB F' none β' b → ¬ OwnB (S.F.rest A) none βv β b := fun b hb ho => by
              rw [Bool.or_eq_true] at hu
              rcases hu with hu | hu
              · exact uni_noSh hu b hb
              · have hls : avs.all (lentShs (S.F.rest A) A) = true := by
                  simp only [argsSh, hcall0] at hu
                  exact hu
                rcases gs b hb with h | h | h
                · rcases hW2.s b h with h | ⟨_, h⟩
                  · exact hL.sh b h (rest_own ho)
                  · exact h hls
                · exact (hW2.h.d1 b h).1 ho
                · have := hL.lt (.inl (rest_own ho)); omega
            obtain ⟨j1, j2⟩ := hW2.h.back g1 hsep g3 g4 hJ
            refine hK _ _ ?_
            have hpairs : ∀ p ∈ pinPairs o S pins, ∃ v, AcRel S.F none βv β p.1 v ∧ AcRel F' none βv' β' (p.2.ren (swp ρ)) v := fun p hp => by
              simp only [pinPairs, List.mem_flatMap, hcall0, Option.bind_some] at hp
              obtain ⟨p0, hp0, hp⟩ := hp
              split at hp
              · rename_i av0 hev
                split at hp
                · rename_i hfm
                  obtain ⟨v0, hv0, hv⟩ := hrel.get hev
                  have e : vals.getD p0.1 undef = v0 := by
                    rw [Array.getD_eq_getD_getElem?, ← Array.getElem?_toList, hv0]; rfl
                  have hp2 := gp p0 hp0
                  rw [e] at hp2
                  have hfm2 : av0.form = (p0.2.ren (swp ρ)).form := by rw [hfm]; exact (form_ren _ _).symm
                  have hmem : (p.1, p.2.ren (swp ρ)) ∈ av0.acs.zip (p0.2.ren (swp ρ)).acs := by
                    rw [acs_ren, List.zip_map_right]
                    exact List.mem_map.2 ⟨p, hp, rfl⟩
                  exact AvRel.zip hv hp2 hfm2 _ hmem
                · cases hp
              · cases hp
            have hpin : ∀ r, PR.contains r = true → βv' r = βv r := fun r hr => by
              rw [← hpr] at hr
              simp only [List.contains_iff_mem, pinRoots, List.mem_filterMap] at hr
              obtain ⟨p, hp, hr⟩ := hr
              obtain ⟨v, hv1, hv2⟩ := hpairs p hp
              split at hr
              · rename_i r1 o1 r2 o2 hp1 hp2
                split at hr
                · rename_i hc2
                  cases hr
                  rw [hp1] at hv1
                  rw [hp2] at hv2
                  have hv1 := hv1.2
                  have hv2 := hv2.2
                  rw [hv1] at hv2
                  simp only [AC.ren, Pl.ren, Pl.addr, Value.pointer.injEq, Option.some.injEq, Addr.mk.injEq, hc2.1] at hv2
                  exact hv2.1.symm
                · cases hr
              · rename_i f1 r1 o1 f2 r2 o2 hp1 hp2
                split at hr
                · rename_i hc2
                  cases hr
                  rw [hp1] at hv1
                  rw [hp2] at hv2
                  have hv1 := hv1.2
                  have hv2 := hv2.2
                  rw [hv1] at hv2
                  simp [AC.ren, hc2.1] at hv2
                  exact hv2.2.1.symm
                · cases hr
              · cases hr
            have hrow : ∀ r, QR.contains r = true → Lies S.F F' βv βv' β β' r := fun r hr => by
              rw [← hqr] at hr
              simp only [List.contains_iff_mem, pinRows, List.mem_filterMap] at hr
              obtain ⟨p, hp, hr⟩ := hr
              obtain ⟨v, hv1, hv2⟩ := hpairs p hp
              split at hr
              · rename_i r1 r2 hp1 hp2
                split at hr
                · rename_i hc2
                  cases hr
                  rw [hp1] at hv1
                  rw [hp2] at hv2
                  refine ⟨v, hv1, ?_⟩
                  have := hv2
                  simp only [AC.ren, Pl.ren, hc2.1] at this
                  exact this
                · cases hr
              · cases hr
            have henv : EnvRel (AcRel (F'.over (S.F.rest A)) none (joinV F' βv' βv) (joinL F' β' β)) (mapEnv (keepPin A PR QR S.F F') S.env) a.tmps :=
              EnvRel.map (fun x v hx => by
                have old := AcRel.right (βv1 := βv') (β1 := β') hJ (AcRel.keep (p := fun r => !A.contains r) (F2 := S.F.rest A) (fun r hr => by rw [get_rest, if_neg (by simpa using hr)]) hx)
                exact keepPin_rel hL g1 hJ hpin hrow (fun r hr => by rw [get_rest, if_neg (by simpa using hr)]) hx old) hE
            obtain ⟨k1, k2, k3, k4, k5, k6⟩ := put_env (S' := S') henv hS.tmps (g2.mono fun x v hx => AcRel.left hJ hx) h2
            have own0 : ∀ b, OwnB (F'.over (S.F.rest A)) none (joinV F' βv' βv) (joinL F' β' β) b → O0 b ∨ w0.heap.size ≤ b := fun b hb => by
              rcases j2 b hb with hb | hb
              · rcases g3 b hb with hb | hb
                · exact hO b (hW2.o b hb)
                · right; have := hS.size; omega
              · exact hO b (own_sub inR hb)
            refine ⟨⟨joinV F' βv' βv, joinL F' β' β, ⟨?_, ?_, ?_⟩, ?_, ?_⟩, fun b hb hn => ?_, by have := hS.size; omega, g6.trans hS.os, g7.trans hS.tape, g8.trans hS.output, k6.trans hS.defers, k5⟩
            · rw [k2, k3]; exact j1
            · rw [k2, k3]; exact k1
            · rw [k4]; exact .nil
            · rw [k2, k3]; exact own0
            · rw [k2, k3]
              intro b hb
              rcases sh_join hJ hb with hb | hb
              · rcases gs b hb with h | h | h
                · rcases hW2.s b h with h | ⟨h, _⟩
                  · exact hT b h
                  · exact .inr (hO b h)
                · exact .inr (hO b (hW2.o b h))
                · right; right; have := hS.size; omega
              · exact hT b (rest_sh hb)
            · rw [g4 b (by have := hS.size; omega) fun ho => ?_]
              · exact hS.frame b hb hn
              · rcases hO b (hW2.o b ho) with h1 | h1
                · exact hn h1
                · omega
          · cases h2
    · cases h1
  · cases h1
theorem Seg.callAt {c : Code} {p : List Nat} {k : Nat} {f : FuncId} {m : Nat} {Sin0 : St} {pins : List (Nat × AV)} {av : AV} {F : Forest} (A : List Nat) (base : Nat) (ρ : List (Nat × Nat)) (rs : List Nat) (hfn : fnFacts G.P f = true)
    (h1 : (opAt c p k).bind (fun o => callInT A base m ρ rs o S) = some (f, Sin0)) (hc : CallP G f m Sin0 pins av F) (h2 : (opAt c p k).bind (fun o => callOutT n A ρ pins o S av F) = some S') (hs : Seg G n (atOps c p (k + 1) S') x) : Seg G n (atNow c p k S) x := by
  obtain ⟨o, ho, h1⟩ := Option.bind_eq_some_iff.1 h1
  rw [ho] at h2
  have h2 : callOutT n A ρ pins o S av F = some S' := h2
  have ho : (regOps (place p [] c).2).2[k]? = some o := ho
  unfold atNow nowOf
  rw [ho]
  intro w0 O0 a w Q hS hQ K hK
  exact call_op A base ρ rs hfn h1 hc h2 a w K _ hS fun a' w' hS' => hK _ _ (hs w0 O0 a' w' Q hS' hQ)
theorem Seg.callFlt {c : Code} {p : List Nat} {I : List Nat} {i : Nat} {f : FuncId} {m : Nat} {Sin0 : St} {pins : List (Nat × AV)} {av : AV} {F : Forest} (A : List Nat) (base : Nat) (ρ : List (Nat × Nat)) (rs : List Nat) (hfn : fnFacts G.P f = true)
    (h1 : (opAt c p i).bind (fun o => callInT A base m ρ rs o S) = some (f, Sin0)) (hc : CallP G f m Sin0 pins av F) (h2 : (opAt c p i).bind (fun o => callOutT n A ρ pins o S av F) = some S') (hs : Seg G n (atFlt c p (i :: I) (some i) S') x) : Seg G n (atFnow c p I i S) x := by
  obtain ⟨o, ho, h1⟩ := Option.bind_eq_some_iff.1 h1
  rw [ho] at h2
  have h2 : callOutT n A ρ pins o S av F = some S' := h2
  have ho : (regOps (place p [] c).2).2[i]? = some o := ho
  unfold atFnow fnowOf
  simp only [ho]
  intro w0 O0 a w Q hS hQ
  exact call_op A base ρ rs hfn h1 hc h2 a w _ _ hS fun a' w' hS' => ⟨hs w0 O0 a' w' Q hS' hQ, hS'.defers⟩
/-! ### Functions -/
def AV.pinned (v : Value) : AV → AV
  | .c x => .pin v x
  | .agg cs => .pinA v cs
  | a => a
def AV.canPin : AV → Bool
  | .c _ => true
  | .agg _ => true
  | _ => false
theorem AvRel.pinned {R : AC → Value → Prop} {a : AV} {v : Value} (h : AvRel R a v) : AvRel R (a.pinned v) v := by
  cases a with
  | c x => exact ⟨rfl, h⟩
  | agg cs => exact ⟨rfl, h⟩
  | _ => exact h
theorem AvRel.of_pinned {R : AC → Value → Prop} {a : AV} {v u : Value} (hc : a.canPin = true) (h : AvRel R (a.pinned u) v) : v = u ∧ AvRel R a v := by
  cases a with
  | c x => exact h
  | agg cs => exact h
  | _ => cases hc
def pinEnv (ts : List Nat) (val : Nat → Value) (env : List (Nat × AV)) : List (Nat × AV) := env.map fun e => if ts.contains e.1 then (e.1, e.2.pinned (val e.1)) else e
theorem look_pin {ts : List Nat} {val : Nat → Value} : ∀ {env : List (Nat × AV)} {t : Nat} {av : AV}, look (pinEnv ts val env) t = some av → ∃ av0, look env t = some av0 ∧ (av = av0 ∨ av = av0.pinned (val t))
  | [], t, av, h => by cases h
  | (k, v) :: env, t, av, h => by
    have hk : ∀ v', look ((k, v') :: pinEnv ts val env) t = some av → (v' = v ∨ v' = v.pinned (val k)) → ∃ av0, look ((k, v) :: env) t = some av0 ∧ (av = av0 ∨ av = av0.pinned (val t)) := fun v' h hv => by
      simp only [look] at h ⊢
      split at h
      · rename_i e
        cases h
        subst e
        rw [if_pos rfl]
        exact ⟨v, rfl, hv⟩
      · rename_i e
        rw [if_neg e]
        exact look_pin h
    simp only [pinEnv, List.map_cons] at h
    split at h
    · exact hk _ h (.inr rfl)
    · exact hk _ h (.inl rfl)
theorem fn_ok (hG : G.Ok) {f : FuncId} {fnc : Func} {c : Code} {k : Nat} (hf : G.P.funcs[f]? = some fnc) (hb : fnc.body = some c)
    {rs : List ResultVar} (hts : rs.length ≤ 5) (hres : fnc.results = rs.toArray)
    (hole : S.hole = none) (haux : S.aux = []) (henv : envBelow S.env k = true) (ts : List Nat) {r : (Nat → Value) → Out × St} {Sp : (Nat → Value) → St} (hSp : ∀ val, Sp val = ⟨pinEnv ts val S.env, S.F, none, []⟩) (hr : ∀ val, Seg G fnc.ntmps (atCode c [] (Sp val)) (r val)) (hout : ∀ val i, (r val).1 ≠ .exit i)
    (hole1 : ∀ val, (r val).2.hole = none) {av : AV} (hav : ∀ val, (r val).2.resAVs G rs = some av) {F : Forest} (hF : ∀ val r', F.get r' = (r val).2.F.get r') {pins : List (Nat × AV)} (hpins : ∀ val, pins.map (fun p => look (r val).2.env p.1) = pins.map (fun p => some (p.2.pinned (val p.1)))) (hcan : pins.all (fun p => p.2.canPin) = true)
    (hk : k ≤ fnc.ntmps) : CallP G f k S pins av F := by
  intro w args βv β hk' hH
  refine calls_of_wp hf hb ?_
  have hr := hr fun t => args.getD t undef
  rw [hSp] at hr
  have hout := hout fun t => args.getD t undef
  have hole1 := hole1 fun t => args.getD t undef
  have hav := hav fun t => args.getD t undef
  have hF := hF fun t => args.getD t undef
  have hpins := hpins fun t => args.getD t undef
  generalize (r fun t => args.getD t undef) = r at hr hout hole1 hav hF hpins
  have hS : Sim w ⟨OwnB S.F none βv β, ShB S.F none β⟩ fnc.ntmps ⟨pinEnv ts (fun t => args.getD t undef) S.env, S.F, none, []⟩ { tmps := args ++ Array.replicate (fnc.ntmps - args.size) undef, defers := [] } w := by
    refine ⟨⟨βv, β, ⟨by rw [← hole]; exact hH.lays, fun t av h => ?_, .nil⟩, fun b hb => .inl hb, fun b hb => .inl hb⟩, fun _ _ _ => rfl, Nat.le_refl _, rfl, rfl, rfl, rfl, by simp; omega⟩
    have h : look (pinEnv ts (fun t => args.getD t undef) S.env) t = some av := h
    obtain ⟨av0, h0, hcase⟩ := look_pin h
    have ht := look_below henv h0
    have this := hH.env t av0 h0
    rw [hole] at this
    have e : (args ++ Array.replicate (fnc.ntmps - args.size) undef).getD t undef = args.getD t undef := by
      simp only [Array.getD_eq_getD_getElem?]
      rw [Array.getElem?_append_left (by omega)]
    rw [e]
    rcases hcase with rfl | rfl
    · exact this
    · exact this.pinned
  have post : ∀ a' w', Sim w ⟨OwnB S.F none βv β, ShB S.F none β⟩ fnc.ntmps r.2 a' w' → a'.defers = [] ∧ ∃ v, (results fnc a'.tmps).run G.P w' = .ok v w' ∧ ∃ v' βv' β', Ending.returned v = .returned v' ∧ Lays F none βv' β' w' ∧ AvRel (AcRel F none βv' β') av v' ∧
      (∀ p ∈ pins, AvRel (AcRel F none βv' β') p.2 (args.getD p.1 undef)) ∧ (∀ b, ShB F none β' b → ShB S.F none β b ∨ OwnB S.F none βv β b ∨ w.heap.size ≤ b) ∧
      (∀ b, OwnB F none βv' β' b → OwnB S.F none βv β b ∨ w.heap.size ≤ b) ∧ (∀ b, b < w.heap.size → ¬ OwnB S.F none βv β b → w'.heap[b]? = w.heap[b]?) ∧ w.heap.size ≤ w'.heap.size ∧ w'.os = w.os ∧ w'.tape = w.tape ∧ w'.output = w.output := fun a' w' h1 => by
    obtain ⟨βv', β', hH', hO', hT'⟩ := h1.holds
    have hL := hH'.lays
    have hE := hH'.env
    obtain ⟨vs, k1, k2⟩ := resAVs_ok hG hL hE hav
    rw [hole1] at hL hE hO' hT' k2
    refine ⟨h1.defers, _, results_runs hts hres k1, _, βv', β', rfl, hL.same hF, k2.mono (fun x v => AcRel.same hF), fun p hp => ?_, fun b hb => hT' b (shB_same hF hb), fun b hb => hO' b (ownB_same hF hb), h1.frame, h1.size, h1.os, h1.tape, h1.output⟩
    have e : look r.2.env p.1 = some (p.2.pinned (args.getD p.1 undef)) := List.map_inj_left.1 hpins p hp
    obtain ⟨e1, e2⟩ := (hE p.1 _ e).of_pinned (List.all_eq_true.1 hcan p hp)
    have e2 := e2.mono (fun x v => AcRel.same hF)
    rw [e1] at e2
    exact e2
  refine hr w _ _ w _ hS fun a' w' hS' => ?_
  obtain ⟨o1, S2⟩ := r
  cases o1 with
  | norm => exact post a' w' hS'
  | ret => exact post a' w' hS'
  | exit i => exact absurd rfl (hout i)
end
end Go.Proofs.YtnceiegngfpmkaaAm
namespace Go.Proofs.YtnceiegngfpmkaaAm
set_option linter.unusedVariables false

/-- A row of numbers in memory. -/
structure NumRow (w : World) (k : IntKind) (z : List Int) (L : Lay) : Prop where
  sz : L.sz = 1
  cap : z.length ≤ L.cap
  cell : ∀ j, j < z.length → w.cell? ⟨L.b, L.base + j, none⟩ = some (.int k (z.getD j 0))
def rowsF (i : Nat) : List (IntKind × List Int) → Forest
  | [] => []
  | x :: rs => (i, some ⟨false, [.rows .sh (.int x.1) x.2]⟩) :: rowsF (i + 1) rs
theorem get_rowsF : ∀ {rs : List (IntKind × List Int)} {i r : Nat} {R : Root}, (rowsF i rs).get r = some R → ∃ x, i ≤ r ∧ rs[r - i]? = some x ∧ R = ⟨false, [.rows .sh (.int x.1) x.2]⟩
  | [], i, r, R, h => by cases h
  | x :: rs, i, r, R, h => by
    simp only [rowsF, Forest.get] at h
    split at h
    · rename_i e
      cases h
      subst e
      exact ⟨x, Nat.le_refl _, by simp, rfl⟩
    · rename_i e
      obtain ⟨y, h1, h2, h3⟩ := get_rowsF h
      refine ⟨y, by omega, ?_, h3⟩
      rw [show r - i = (r - (i + 1)) + 1 by omega]
      simpa using h2
section
variable {w : World} {rs : List (IntKind × List Int)} {L : Nat → Lay} {βv : Nat → Nat}
theorem rowsF_at : ∀ {q : Pl} {c : Cell}, At (rowsF 0 rs) q c → (∃ r x, q = .cell r 0 ∧ rs[r]? = some x ∧ c = .rows .sh (.int x.1) x.2) ∨ (∃ r x j, q = .sub (.cell r 0) j 0 ∧ rs[r]? = some x ∧ j < x.2.length ∧ c = .v (.int x.1 (x.2.getD j 0)))
  | .cell r o, c, ⟨R, h1, h2⟩ => by
    obtain ⟨x, _, h3, rfl⟩ := get_rowsF h1
    cases o with
    | zero => simp only [List.getElem?_cons_zero, Option.some.injEq] at h2; exact .inl ⟨r, x, rfl, h3, h2.symm⟩
    | succ o => simp at h2
  | .sub q j o, c, ⟨c0, h1, h2, h3⟩ => by
    rcases rowsF_at h1 with ⟨r, x, rfl, h4, rfl⟩ | ⟨r, x, j', rfl, h4, h5, rfl⟩
    · right
      simp only [Cell.sub, toCells] at h3
      cases o with
      | zero =>
        simp only [List.getElem?_cons_zero, Option.some.injEq] at h3
        refine ⟨r, x, j, rfl, h4, h2, ?_⟩
        rw [← h3]
        rfl
      | succ o => simp at h3
    · exact absurd h2 (by simp [Cell.len])
theorem rowsF_lays (h : ∀ r x, rs[r]? = some x → NumRow w x.1 x.2 (L r)) : Lays (rowsF 0 rs) none βv (fun q => L q.root) w := by
  have noOwn : ∀ q m τ l, AtN (rowsF 0 rs) none q (.rows m τ l) → m = .sh := fun q m τ l ha => by
    rcases rowsF_at ha.1 with ⟨r, x, _, _, e⟩ | ⟨r, x, j, _, _, _, e⟩
    · cases e; rfl
    · cases e
  have noMem : ∀ r R, (rowsF 0 rs).get r = some R → R.mem = false := fun r R hr => by
    obtain ⟨x, _, _, rfl⟩ := get_rowsF hr
    rfl
  constructor
  · intro q c ha hm
    rcases rowsF_at ha.1 with ⟨r, x, rfl, h1, rfl⟩ | ⟨r, x, j, rfl, h1, h2, rfl⟩
    · obtain ⟨R, h2, h3⟩ := hm
      rw [noMem r R h2] at h3
      cases h3
    · have hr := h r x h1
      refine ⟨.int x.1 (x.2.getD j 0), ?_, rfl, rfl⟩
      have := hr.cell j h2
      simpa [Pl.addr, Pl.root, hr.sz] using this
  · intro q m τ l ha
    rcases rowsF_at ha.1 with ⟨r, x, rfl, h1, e⟩ | ⟨r, x, j, _, _, _, e⟩
    · cases e
      have hr := h r x h1
      exact ⟨hr.sz, hr.cap⟩
    · cases e
  · intro q m τ l ha ho
    rw [noOwn q m τ l ha] at ho
    cases ho
  · intro r R h1 h2
    rw [noMem r R h1] at h2
    cases h2
  · intro r r' R R' h1 h2
    rw [noMem r R h1] at h2
    cases h2
  · intro q q' m m' τ τ' l l' ha ho
    rw [noOwn q m τ l ha] at ho
    cases ho
  · intro r R q m τ l h1 h2
    rw [noMem r R h1] at h2
    cases h2
  · rintro b _ (⟨r, R, h1, h2, _⟩ | ⟨q, m, τ, l, h1, h2, _⟩)
    · rw [noMem r R h1] at h2; cases h2
    · rw [noOwn q m τ l h1] at h2; cases h2
theorem rowsF_own (b : Nat) : ¬ OwnB (rowsF 0 rs) none βv (fun q => L q.root) b := by
  rintro (⟨r, R, h1, h2, _⟩ | ⟨q, m, τ, l, h1, h2, _⟩)
  · obtain ⟨x, _, _, rfl⟩ := get_rowsF h1
    cases h2
  · rcases rowsF_at h1.1 with ⟨r, x, _, _, e⟩ | ⟨r, x, j, _, _, _, e⟩
    · cases e; cases h2
    · cases e
end
/-- A slice whose numbers are known, as it comes into a law. -/
def SliceOf (k : IntKind) (w : World) (a : Option Addr) (len cap : Nat) (z : List Int) : Prop :=
  (a = none ∧ len = 0 ∧ cap = 0 ∧ z = []) ∨ ∃ x, a = some x ∧ len ≤ cap ∧ z.length = len ∧ (0 < cap → x.spot = none) ∧ ∀ j, j < z.length → w.cell? (x.add j) = some (.int k (z.getD j 0))
theorem SliceOf.row {k : IntKind} {w : World} {a : Option Addr} {len cap : Nat} {z : List Int} (h : SliceOf k w a len cap z) : ∃ L, NumRow w k z L ∧ SlRel L 0 z.length (.slice a len cap) := by
  rcases h with ⟨rfl, rfl, rfl, rfl⟩ | ⟨x, rfl, h1, h2, h3, h4⟩
  · exact ⟨⟨0, 0, 0, 1⟩, ⟨rfl, Nat.le_refl _, fun j hj => by simp at hj⟩, none, 0, rfl, rfl, .inl rfl⟩
  · refine ⟨⟨x.block, x.off, cap, 1⟩, ⟨rfl, by simp; omega, fun j hj => ?_⟩, some x, cap, by rw [h2], rfl, ?_⟩
    · have hs := h3 (by omega)
      have := h4 j hj
      rw [← this]
      congr 1
      unfold Addr.add
      split
      · rename_i e
        subst e
        cases x
        simp only at hs
        subst hs
        rfl
      · rfl
    · by_cases hc : cap = 0
      · exact .inl hc
      · right
        have hs := h3 (by omega)
        cases x
        simp only at hs
        subst hs
        simp
/-- A law of two rows of numbers. -/
theorem law2 {G : Ctx} {f : FuncId} {k0 k1 : IntKind} {z0 z1 : List Int} {S : St} {pins : List (Nat × AV)} {av : AV} {F : Forest} {v : Value} (hc : CallP G f 2 S pins av F)
    (hS : S = ⟨[(0, .c (.sl (.cell 0 0) none)), (1, .c (.sl (.cell 1 0) none))], rowsF 0 [(k0, z0), (k1, z1)], none, []⟩) (hav : av = .c (.lit v)) {w : World} {a0 a1 : Option Addr} {l0 c0 l1 c1 : Nat} (h0 : SliceOf k0 w a0 l0 c0 z0) (h1 : SliceOf k1 w a1 l1 c1 z1) :
    Calls G.P f #[.slice a0 l0 c0, .slice a1 l1 c1] w fun e w' => e = .returned v ∧ Go.RowKit.Below w.heap.size w w' := by
  subst hS
  subst hav
  obtain ⟨L0, n0, s0⟩ := h0.row
  obtain ⟨L1, n1, s1⟩ := h1.row
  let L : Nat → Lay := fun r => if r = 0 then L0 else L1
  have hrow : ∀ r x, [(k0, z0), (k1, z1)][r]? = some x → NumRow w x.1 x.2 (L r) := fun r x h => by
    match r, h with
    | 0, h => cases h; exact n0
    | 1, h => cases h; exact n1
  have hL := rowsF_lays (βv := fun _ => 0) (L := L) hrow
  refine Calls.mono (hc w #[.slice a0 l0 c0, .slice a1 l1 c1] (fun _ => 0) (fun q => L q.root) rfl ⟨hL, fun t av ht => ?_, .nil⟩) fun e w' he => ?_
  · simp only [look] at ht
    split at ht
    · rename_i e; cases ht; subst e
      exact ⟨.sh, .int k0, z0, ⟨⟨_, rfl, rfl⟩, fun _ e => by cases e⟩, by simp [ptLo, ptLen], by simpa [ptLo, ptLen, Pl.root, L] using s0⟩
    · split at ht
      · rename_i e; cases ht; subst e
        exact ⟨.sh, .int k1, z1, ⟨⟨_, rfl, rfl⟩, fun _ e => by cases e⟩, by simp [ptLo, ptLen], by simpa [ptLo, ptLen, Pl.root, L] using s1⟩
      · cases ht
  · obtain ⟨v', βv', β', rfl, _, g2, _, _, g3, g4, g5, g6, g7, g8⟩ := he
    have g2 : v' = v := g2
    exact ⟨by rw [g2], g6, g7, g8, g5, fun b hb => g4 b hb (rowsF_own b)⟩
end Go.Proofs.YtnceiegngfpmkaaAm
namespace Go.Proofs.YtnceiegngfpmkaaAm
set_option linter.unusedVariables false

theorem solo_atRow {m : Mode} {τ : Ty} {l : List (Interp τ)} {q : Pl} {c : Cell} (h : AtN (solo (.rows m τ l)) none q c) : ∀ x, c ≠ .ref x := by
  intro x e
  subst e
  cases q with
  | cell r o =>
    obtain ⟨R, h1, h2⟩ := h.1
    rw [solo_get] at h1
    split at h1
    · cases h1
      cases o with
      | zero => simp at h2
      | succ o => simp at h2
    · cases h1
  | sub q i o =>
    obtain ⟨m', τ', l', h1, h2, h3, h4⟩ := h.up
    have : ∀ (τ : Ty) (m : Mode) (x : Interp τ) (o : Nat) (y : AC), (toCells m τ x)[o]? ≠ some (.ref y) := by
      intro τ
      induction τ with
      | int k => intro m x o y; cases o <;> simp [toCells]
      | bool => intro m x o y; cases o <;> simp [toCells]
      | str => intro m x o y; cases o <;> simp [toCells]
      | unit => intro m x o y; simp [toCells]
      | sl a ih => intro m x o y; cases o <;> simp [toCells]
      | pair a b iha ihb =>
        intro m x o y
        simp only [toCells]
        rw [List.getElem?_append]
        split
        · exact iha _ _ _ _
        · exact ihb _ _ _ _
      | rose a iha =>
        intro m x o y
        simp only [toCells]
        rw [List.getElem?_append]
        split
        · exact iha _ _ _ _
        · generalize o - (toCells m a x.val).length = k
          cases k <;> simp
    exact this _ _ _ _ _ h4
def Pl.depth : Pl → Nat
  | .cell _ _ => 0
  | .sub q _ _ => q.depth + 1
theorem Pl.depth_app : ∀ (p : List (Nat × Nat)) (q : Pl), (q.app p).depth = q.depth + p.length
  | [], q => rfl
  | (i, o) :: p, q => by
    show ((q.sub i o).app p).depth = _
    rw [Pl.depth_app p]
    simp only [Pl.depth, List.length_cons]
    omega
/-- Where variables lie says nothing of a row alone. -/
theorem solo_var {m : Mode} {τ : Ty} {l : List (Interp τ)} {βv βv' : Nat → Nat} {β : Layout} {w : World} (h : Lays (solo (.rows m τ l)) none βv β w) :
    Lays (solo (.rows m τ l)) none βv' β w ∧ (∀ b, OwnB (solo (.rows m τ l)) none βv' β b → OwnB (solo (.rows m τ l)) none βv β b) := by
  have own : ∀ b, OwnB (solo (.rows m τ l)) none βv' β b → OwnB (solo (.rows m τ l)) none βv β b := by
    rintro b (⟨r, R, h1, h2, _⟩ | h1)
    · rw [solo_noVar h1] at h2; cases h2
    · exact .inr h1
  refine ⟨⟨fun q c ha hm => ?_, h.rows, h.ownb, fun r R h1 h2 => ?_, fun r r' R R' h1 h2 => ?_, h.rr, fun r R q m τ l h1 h2 => ?_, fun b hb ho => h.sh b hb (own b ho)⟩, own⟩
  · cases q with
    | cell r o =>
      obtain ⟨R, h1, h2⟩ := hm
      rw [solo_noVar h1] at h2; cases h2
    | sub q i o =>
      obtain ⟨u, h1, h2⟩ := h.cells _ _ ha hm
      refine ⟨u, h1, ?_⟩
      cases c with
      | ref x => exact absurd rfl (solo_atRow ha x)
      | v x => exact h2
      | rows m τ l => exact h2
      | dead => exact h2
  · rw [solo_noVar h1] at h2; cases h2
  · rw [solo_noVar h1] at h2; cases h2
  · rw [solo_noVar h1] at h2; cases h2
/-- The first argument is a row inside a row that may be written, the others are plain. -/
def lendIn (k : Nat) (o : Oper) (S : St) : Option (FuncId × Pl × ((τ : Ty) × List (Interp τ)) × List AV) :=
  match o.op with
  | .call c => match c.callee, c.args.toList with
    | .value (.func f), x :: xs => match S.ev x with
      | some (.c (.sl (.sub q i j) none)) => match S.row (.sub q i j) with
        | some ⟨.full, τ, l⟩ =>
          if S.hole = none ∧ S.aux = [] ∧ c.args.size = k ∧ contOwn S.F (.sub q i j) = true ∧ xs.all (fun y => (S.lit y).isSome) = true then (S.evs xs).bind fun avs => some (f, .sub q i j, ⟨τ, l⟩, avs) else none
        | _ => none
      | _ => none
    | _, _ => none
  | _ => none
def lendSt (q : Pl) (S : St) : St := ⟨mapEnv (AC.kill q) S.env, S.F, some q, []⟩
def lendOut (n : Nat) (o : Oper) (S : St) (q : Pl) (τ : Ty) (l : List (Interp τ)) (v : Value) : Option St :=
  ((lendSt q S).set q (.rows .full τ l)).bind fun S1 => S1.bind n o.dst (.c (.lit v))
theorem lit_any {R R' : AC → Value → Prop} {av : AV} {u : Value} (hR : ∀ x v, (∃ y, x = .lit y) ∨ (∃ a, x = .nil a) → R x v → R' x v) (h : (litOf av).isSome = true) (hr : AvRel R av u) : AvRel R' av u := by
  have lits : ∀ {cs : List AC} {vs : List Value}, (litOf.lits cs).isSome = true → Acs R cs vs → Acs R' cs vs := by
    intro cs
    induction cs with
    | nil => intro vs _ h; cases h; exact .nil
    | cons x cs ih =>
      intro vs hs h
      cases h with
      | cons a t =>
        cases x with
        | lit y =>
          simp only [litOf.lits, Option.isSome_bind, Option.any_eq_true] at hs
          obtain ⟨z, hz, _⟩ := hs
          exact .cons (hR _ _ (.inl ⟨_, rfl⟩) a) (ih (by rw [hz]; rfl) t)
        | nil y =>
          simp only [litOf.lits, Option.isSome_bind, Option.any_eq_true] at hs
          obtain ⟨z, hz, _⟩ := hs
          exact .cons (hR _ _ (.inr ⟨_, rfl⟩) a) (ih (by rw [hz]; rfl) t)
        | _ => simp [litOf.lits] at hs
  cases av with
  | c x =>
    cases x with
    | lit y => exact hR _ _ (.inl ⟨_, rfl⟩) hr
    | nil y => exact hR _ _ (.inr ⟨_, rfl⟩) hr
    | _ => simp [litOf] at h
  | agg cs =>
    obtain ⟨vs, rfl, h2⟩ := hr
    refine ⟨vs, rfl, lits ?_ h2⟩
    simp only [litOf, Option.isSome_bind, Option.any_eq_true] at h
    obtain ⟨z, hz, _⟩ := h
    rw [hz]; rfl
  | _ => simp [litOf] at h
section
variable {G : Ctx} {w0 : World} {O0 : Own0} {n m : Nat} {S S' : St} {o : Oper} {f : FuncId}
theorem evs_lits {S : St} {F' : Forest} {βv βv' : Nat → Nat} {β β' : Layout} {a : Act} (he : EnvRel (AcRel S.F none βv β) S.env a.tmps) (hh : S.hole = none) : ∀ {xs : List Operand} {l : List AV}, xs.all (fun y => (S.lit y).isSome) = true → S.evs xs = some l → Avs (AcRel F' none βv' β') l (xs.map a.eval)
  | [], l, _, h => by simp only [St.evs, Option.some.injEq] at h; subst h; exact .nil
  | x :: xs, l, hl, h => by
    simp only [List.all_cons, Bool.and_eq_true] at hl
    obtain ⟨v, h1, h⟩ := Option.bind_eq_some_iff.1 h
    obtain ⟨l', h2, h⟩ := Option.bind_eq_some_iff.1 h
    cases h
    refine .cons ?_ (evs_lits he hh hl.2 h2)
    have hr := ev_rel (S := S) (by rw [hh]; exact he) h1
    rw [hh] at hr
    refine lit_any (R' := AcRel F' none βv' β') (fun x v hx h => ?_) ?_ hr
    · rcases hx with ⟨y, rfl⟩ | ⟨y, rfl⟩ <;> exact h
    · have := hl.1
      simp only [St.lit, h1, Option.bind_some] at this
      exact this
theorem lend_op {q : Pl} {τ : Ty} {l l' : List (Interp τ)} {avs : List AV} {pins : List (Nat × AV)} {v : Value} (hfn : fnFacts G.P f = true)
    (h1 : lendIn m o S = some (f, q, ⟨τ, l⟩, avs)) (hc : CallP G f m ⟨envFrom 0 (.c (.sl (.cell 0 0) none) :: avs), solo (.rows .full τ l), none, []⟩ pins (.c (.lit v)) (solo (.rows .full τ l')))
    (hp : (pins.any fun p => match p with
      | (0, .c (.sl (.cell 0 0) none)) => true
      | _ => false) = true) (h2 : lendOut n o S q τ l' v = some S') : OpOk G w0 O0 n o S S' := by
  have hp : (0, AV.c (.sl (.cell 0 0) none)) ∈ pins := by
    obtain ⟨p, hp, hx⟩ := List.any_eq_true.1 hp
    split at hx
    · exact hp
    · cases hx
  have hrun : ∃ fn, G.P.funcs[f]? = some fn ∧ (fn.name == "runtime.NumGoroutine") = false ∧ fn.body.isNone = false := by
    unfold fnFacts at hfn
    split at hfn
    · rename_i fn hf
      simp only [Bool.and_eq_true, Bool.not_eq_true'] at hfn
      exact ⟨fn, hf, hfn.1, hfn.2⟩
    · cases hfn
  obtain ⟨fn, f1, f2, f3⟩ := hrun
  unfold lendIn at h1
  split at h1
  · rename_i c hop
    split at h1
    · rename_i f' x xs hcal hargs
      split at h1
      · rename_i q2 i j hx
        split at h1
        · rename_i τ2 l2 hrow
          split at h1
          · rename_i hcond
            obtain ⟨hole, haux, hk, hown, hlit⟩ := hcond
            obtain ⟨avs', havs, h1⟩ := Option.bind_eq_some_iff.1 h1
            simp only [Option.some.injEq, Prod.mk.injEq, Sigma.mk.injEq] at h1
            obtain ⟨rfl, rfl, ⟨rfl, hl2⟩, rfl⟩ := h1
            have hl2 := eq_of_heq hl2
            subst hl2
            intro a w K Q hS hK
            obtain ⟨βv, β, hH, hO, hT⟩ := hS.holds
            have hL := hH.lays
            have hE := hH.env
            rw [hole] at hL hE hO hT
            have hxv := ev_rel hH.env hx
            obtain ⟨hat, _, hsl⟩ := at_of_row (F := S.F) (βv := βv) hrow hxv
            rw [hole] at hat
            have hparent := contOwn_spec hown hat.1
            have htree := hL.tree hat (fun _ e => by cases e) (fun p => treeLay_app (q2.sub i j) β p)
            have top0 : treeLay (q2.sub i j) β top = β (q2.sub i j) := treeLay_app (q2.sub i j) β []
            have tO : ∀ b, OwnB (solo (.rows .full τ2 l2)) none βv (treeLay (q2.sub i j) β) b → ¬ OwnB S.F (some (q2.sub i j)) βv β b ∧ ¬ ShB S.F (some (q2.sub i j)) β b := fun b hb => hL.tree_own hat (fun p => treeLay_app _ β p) hb
            have tu := fun b => (hL.tree_used (b := b) hat (fun _ e => by cases e) (fun p => treeLay_app (q2.sub i j) β p)).1
            have hHole := hL.toHole (q2.sub i j)
            -- the arguments
            have hrest : Avs (AcRel (solo (.rows .full τ2 l2)) none βv (treeLay (q2.sub i j) β)) avs' (xs.map a.eval) := evs_lits hE hole hlit havs
            have hall : Avs (AcRel (solo (.rows .full τ2 l2)) none βv (treeLay (q2.sub i j) β)) (.c (.sl (.cell 0 0) none) :: avs') (a.eval x :: xs.map a.eval) := by
              refine .cons (x := .c _) ?_ hrest
              refine ⟨.full, τ2, l2, ⟨⟨_, rfl, rfl⟩, fun _ e => by cases e⟩, by simp [ptLo, ptLen], ?_⟩
              have e : treeLay (q2.sub i j) β (.cell 0 0) = β (q2.sub i j) := top0
              rw [e]
              simpa [ptLo, ptLen] using hsl
            have hsz : (c.args.map a.eval).size = m := by rw [Array.size_map]; exact hk
            have hlist : (c.args.map a.eval).toList = a.eval x :: xs.map a.eval := by rw [Array.toList_map, hargs]; rfl
            have hHin : Holds ⟨envFrom 0 (.c (.sl (.cell 0 0) none) :: avs'), solo (.rows .full τ2 l2), none, []⟩ βv (treeLay (q2.sub i j) β) (c.args.map a.eval) [] w := by
              refine ⟨htree, fun t av ht => ?_, .nil⟩
              obtain ⟨_, h2⟩ := look_from ht
              obtain ⟨v, h3, h4⟩ := hall.get h2
              have : (c.args.map a.eval).getD t undef = v := by
                rw [Array.getD_eq_getD_getElem?, ← Array.getElem?_toList, hlist]
                rw [Nat.sub_zero] at h3
                rw [h3]; rfl
              rw [this]
              exact h4
            have hcall := hc w _ _ _ hsz hHin
            have hex : (execOp a.eval o).run G.P w = .ok (.enter f' (c.args.map a.eval)) w := by
              have f2' : ¬ fn.name = "runtime.NumGoroutine" := by simpa using f2
              have f3' : ¬ fn.body = none := fun e => by rw [e] at f3; cases f3
              simp [execOp, hop, resolve, hcal, Act.eval, Deferred.ofValue, invoke, callFunc, program, Sem.run, f1, f2', f3']
            unfold Oper.wp
            rw [hex, Oper.upon_enter]
            refine Calls.mono hcall fun x' w' hx' => ?_
            obtain ⟨v', βv', β', rfl, g1, g2, gp, _, g3, g4, g5, g6, g7, g8⟩ := hx'
            have g2 : v' = v := g2
            subst g2
            have gpin : AcRel (solo (.rows .full τ2 l')) none βv' β' (.sl (.cell 0 0) none) (a.eval x) := by
              have := gp _ hp
              have e : (c.args.map a.eval).getD 0 undef = a.eval x := by
                rw [Array.getD_eq_getD_getElem?, ← Array.getElem?_toList, hlist]; rfl
              rw [e] at this
              exact this
            obtain ⟨g1, own1⟩ := solo_var (βv' := βv) g1
            have g3 : ∀ b, OwnB (solo (.rows .full τ2 l')) none βv β' b → OwnB (solo (.rows .full τ2 l2)) none βv (treeLay (q2.sub i j) β) b ∨ w.heap.size ≤ b := fun b hb => by
              refine g3 b ?_
              rcases hb with ⟨r, R, h1, h2, _⟩ | h1
              · rw [solo_noVar h1] at h2; cases h2
              · exact .inr h1
            -- what stays
            have hframe : ∀ b, OwnB S.F (some (q2.sub i j)) βv β b ∨ ShB S.F (some (q2.sub i j)) β b → w'.heap[b]? = w.heap[b]? := fun b hb => by
              refine g4 b (hL.lt (hb.imp hole_own hole_sh)) fun ho => ?_
              rcases hb with hb | hb
              · exact (tO b ho).1 hb
              · exact (tO b ho).2 hb
            have hk2 : Keeps (q2.sub i j) S.F S.F none (some (q2.sub i j)) β β := Keeps.hole _
            have hH1 : Holds (lendSt (q2.sub i j) S) βv β a.tmps [] w' := ⟨hHole.frame hframe, EnvRel.map (fun x v hr => AcRel.kill hk2 x v hr) hE, .nil⟩
            unfold lendOut at h2
            obtain ⟨S1, hset, hbind⟩ := Option.bind_eq_some_iff.1 h2
            -- the memory's cell
            obtain ⟨u, hu1, hu2⟩ := hL.cells _ _ hat trivial
            obtain ⟨mp, τp, lp, hpat, hpi, hpo, _⟩ := hat.up
            have hpatN : AtN S.F (some (q2.sub i j)) q2 (.rows mp τp lp) := .mk_hole hpat.1 fun hu => by
              obtain ⟨p, e⟩ := hu
              have := congrArg Pl.depth e
              rw [Pl.depth_app] at this
              simp only [Pl.depth] at this
              omega
            have hmp : mp.isOwn = true := by
              obtain ⟨m3, τ3, l3, k1, k2⟩ := hparent
              cases (AtN.uniq (F := S.F) (h := none) ⟨k1, fun _ e => by cases e⟩ hpat)
              exact k2
            have hcell : w'.cell? ((q2.sub i j).addr βv β) = some u := by
              rw [← hu1]
              refine cell?_heap (hframe _ (.inl (.inr ⟨q2, mp, τp, lp, hpatN, hmp, ?_, rfl⟩)))
              have := (hL.rows _ _ _ _ hpat).2
              omega
            have hrel : SlRel (β' top) 0 l'.length u := by
              have hx0 : SlRel (β (q2.sub i j)) 0 l2.length (a.eval x) := by simpa [ptLo, ptLen] using hsl
              obtain ⟨A1, c1, e1, d1, k1⟩ := hx0
              obtain ⟨m4, τ4, l4, p1, _, A2, c2, e2, d2, k2⟩ := gpin
              have p2 : AtN (solo (.rows .full τ2 l')) none (.cell 0 0) (.rows .full τ2 l') := ⟨⟨_, rfl, rfl⟩, fun _ e => by cases e⟩
              cases p1.uniq p2
              obtain ⟨A3, c3, rfl, d3, k3⟩ := hu2
              rw [e1] at e2
              simp only [ptLen, Value.slice.injEq] at e2
              obtain ⟨rfl, el, rfl⟩ := e2
              simp only [ptLo] at d2 k2
              refine ⟨A3, c3, by rw [el], ?_, ?_⟩
              · show c3 + 0 = (β' (.cell 0 0)).cap
                omega
              · rcases k3 with k3 | k3
                · exact .inl k3
                · rcases k1 with k1 | k1
                  · left; omega
                  · rcases k2 with k2 | k2
                    · left; omega
                    · right
                      rw [k1] at k2
                      simp only [Nat.zero_mul, Nat.add_zero, Option.some.injEq, Addr.mk.injEq, and_true] at k2
                      rw [k3]
                      simp only [Nat.zero_mul, Nat.add_zero, Option.some.injEq, Addr.mk.injEq, and_true]
                      exact k2
            have newOwn : ∀ b, OwnB (solo (.rows .full τ2 l')) none βv β' b → ¬ OwnB S.F (some (q2.sub i j)) βv β b ∧ ¬ ShB S.F (some (q2.sub i j)) β b := fun b hb => by
              rcases g3 b hb with hb | hb
              · exact tO b hb
              · exact ⟨fun h => by have := hL.lt (.inl (hole_own h)); omega, fun h => by have := hL.lt (.inr (hole_sh h)); omega⟩
            obtain ⟨β2, k1, k2, k3, k4, _, _⟩ := St.set_holds (S := lendSt (q2.sub i j) S) (w := w') (w' := w') (u := u) hH1 (.inr rfl) hset hat.1 g1 newOwn
              (fun b hb => absurd hb (uni_noSh (by simp [uniB, solo]) b))
              (.inl ⟨⟨mp, τp, lp, hpatN, hpi, hpo⟩, OneCell.refl _ _, hcell, hrel⟩)
            refine hK _ _ ?_
            have k1e := k1.env
            obtain ⟨j1, j2, j3, j4, j5, j6⟩ := put_env (S' := S') (F := S1.F) (hole := S1.hole) (env := S1.env) (aux := S1.aux) (av := .c (.lit v')) (v := v') k1e hS.tmps rfl (dst := o.dst) (by simpa using hbind)
            have aux1 : S1.aux = [] := by
              have := k1.aux
              generalize S1.aux = A at this
              cases this
              rfl
            have ownOld : ∀ b, OwnB S1.F S1.hole βv β2 b → OwnB S.F none βv β b ∨ w.heap.size ≤ b := fun b hb => by
              rcases k2 b hb with hb | hb
              · exact .inl (hole_own hb)
              · rcases g3 b hb with hb | hb
                · exact .inl (tu b hb)
                · exact .inr hb
            refine ⟨⟨βv, β2, ⟨?_, ?_, ?_⟩, ?_, ?_⟩, fun b hb hn => ?_, by have := hS.size; omega, g6.trans hS.os, g7.trans hS.tape, g8.trans hS.output, j6.trans hS.defers, j5⟩
            · rw [j2, j3]; exact k1.lays
            · rw [j2, j3]; exact j1
            · rw [j4, aux1]; exact .nil
            · rw [j2, j3]
              intro b hb
              rcases ownOld b hb with h | h
              · exact hO b h
              · right; have := hS.size; omega
            · rw [j2, j3, k3]
              intro b hb
              rcases k4 b hb with h | h | h
              · exact hT b (hole_sh h)
              · exact absurd h (uni_noSh (by simp [uniB, solo]) b)
              · rcases g3 b h with h | h
                · exact .inr (hO b (tu b h))
                · right; right; have := hS.size; omega
            · rw [g4 b (by have := hS.size; omega) fun ho => ?_]
              · exact hS.frame b hb hn
              · rcases hO b (tu b ho) with h1 | h1
                · exact hn h1
                · omega
          · cases h1
        · cases h1
      · cases h1
    · cases h1
  · cases h1
theorem Seg.lendAt {x : Out × St} {c : Code} {p : List Nat} {k : Nat} {q : Pl} {τ : Ty} {l l' : List (Interp τ)} {avs : List AV} {pins : List (Nat × AV)} {v : Value} (hfn : fnFacts G.P f = true)
    (h1 : (opAt c p k).bind (fun o => lendIn m o S) = some (f, q, ⟨τ, l⟩, avs)) (hc : CallP G f m ⟨envFrom 0 (.c (.sl (.cell 0 0) none) :: avs), solo (.rows .full τ l), none, []⟩ pins (.c (.lit v)) (solo (.rows .full τ l')))
    (hp : (pins.any fun p => match p with
      | (0, .c (.sl (.cell 0 0) none)) => true
      | _ => false) = true) (h2 : (opAt c p k).bind (fun o => lendOut n o S q τ l' v) = some S') (hs : Seg G n (atOps c p (k + 1) S') x) : Seg G n (atNow c p k S) x := by
  obtain ⟨o, ho, h1⟩ := Option.bind_eq_some_iff.1 h1
  rw [ho] at h2
  have h2 : lendOut n o S q τ l' v = some S' := h2
  have ho : (regOps (place p [] c).2).2[k]? = some o := ho
  unfold atNow nowOf
  rw [ho]
  intro w0 O0 a w Q hS hQ K hK
  exact lend_op hfn h1 hc hp h2 a w K _ hS fun a' w' hS' => hK _ _ (hs w0 O0 a' w' Q hS' hQ)
theorem Seg.lendFlt {x : Out × St} {c : Code} {p : List Nat} {I : List Nat} {i : Nat} {q : Pl} {τ : Ty} {l l' : List (Interp τ)} {avs : List AV} {pins : List (Nat × AV)} {v : Value} (hfn : fnFacts G.P f = true)
    (h1 : (opAt c p i).bind (fun o => lendIn m o S) = some (f, q, ⟨τ, l⟩, avs)) (hc : CallP G f m ⟨envFrom 0 (.c (.sl (.cell 0 0) none) :: avs), solo (.rows .full τ l), none, []⟩ pins (.c (.lit v)) (solo (.rows .full τ l')))
    (hp : (pins.any fun p => match p with
      | (0, .c (.sl (.cell 0 0) none)) => true
      | _ => false) = true) (h2 : (opAt c p i).bind (fun o => lendOut n o S q τ l' v) = some S') (hs : Seg G n (atFlt c p (i :: I) (some i) S') x) : Seg G n (atFnow c p I i S) x := by
  obtain ⟨o, ho, h1⟩ := Option.bind_eq_some_iff.1 h1
  rw [ho] at h2
  have h2 : lendOut n o S q τ l' v = some S' := h2
  have ho : (regOps (place p [] c).2).2[i]? = some o := ho
  unfold atFnow fnowOf
  simp only [ho]
  intro w0 O0 a w Q hS hQ
  exact lend_op hfn h1 hc hp h2 a w _ _ hS fun a' w' hS' => ⟨hs w0 O0 a' w' Q hS' hQ, hS'.defers⟩
end
end Go.Proofs.YtnceiegngfpmkaaAm
namespace Go.Proofs.YtnceiegngfpmkaaAm
set_option linter.unusedVariables false

/-- Two slices that are the same, or both without room. -/
def SameHead (c u : Value) : Prop := ∃ A A' len cap, c = .slice A len cap ∧ u = .slice A' len cap ∧ (cap = 0 ∨ A = A')
theorem SameHead.rel {c u : Value} (h : SameHead c u) {L : Lay} {lo len : Nat} (hu : SlRel L lo len u) (hlo : lo = 0) : SlRel L lo len c := by
  obtain ⟨A, A', n, cap, rfl, rfl, hc⟩ := h
  obtain ⟨B, k, e, h1, h2⟩ := hu
  simp only [Value.slice.injEq] at e
  obtain ⟨rfl, rfl, rfl⟩ := e
  refine ⟨A, cap, rfl, h1, ?_⟩
  rcases hc with hc | hc
  · exact .inl hc
  · rcases h2 with h2 | h2
    · exact .inl h2
    · exact .inr (hc.trans h2)
theorem SameHead.of {c u : Value} {L : Lay} {len : Nat} (hc : SlRel L 0 len c) (hu : SlRel L 0 len u) : SameHead c u := by
  obtain ⟨A, n, rfl, h1, h2⟩ := hc
  obtain ⟨B, k, rfl, h3, h4⟩ := hu
  have : n = k := by omega
  subst this
  refine ⟨A, B, len, n, rfl, rfl, ?_⟩
  rcases h2 with h2 | h2
  · exact .inl h2
  · rcases h4 with h4 | h4
    · exact .inl h4
    · exact .inr (h2.trans h4.symm)
/-- A cell of a value. -/
def cellOfV (U : Value) (j : Nat) : Value := match U with
  | .agg vs => vs.getD j undef
  | v => v
section
variable {G : Ctx} {n : Nat} {S S' : St}
/-- A temporary's value gets a name. -/
def St.name (S : St) (t : Nat) (U : Value) : Option St := match look S.env t with
  | some av => some ⟨(t, av.pinned U) :: S.env, S.F, S.hole, S.aux⟩
  | none => none
theorem Seg.name {fs : List Frm} {p : Pos} {x : Out × St} (t : Nat) (Sn : Value → St) (hn : ∀ U, S.name t U = some (Sn U)) (hs : ∀ U, Seg G n ⟨fs, p, Sn U⟩ x) : Seg G n ⟨fs, p, S⟩ x := by
  intro w0 O0 a w Q hS hQ
  have h1 := hn (a.tmps.getD t undef)
  refine hs (a.tmps.getD t undef) w0 O0 a w Q ?_ hQ
  unfold St.name at h1
  split at h1
  · rename_i av hav
    have h1 := Option.some.inj h1
    rw [← h1]
    obtain ⟨βv, β, hH, hO, hT⟩ := hS.holds
    refine ⟨⟨βv, β, ⟨hH.lays, fun t' av' e => ?_, hH.aux⟩, hO, hT⟩, hS.frame, hS.size, hS.os, hS.tape, hS.output, hS.defers, hS.tmps⟩
    simp only [look] at e
    split at e
    · rename_i ht
      subst ht
      cases e
      exact (hH.env t' av hav).pinned
    · exact hH.env t' av' e
  · cases h1
/-- A variable's row comes to a root; the variable's cell has a name now. -/
def St.openAt (S : St) (n t j r o R : Nat) (c : Value) : Option (Value × St) :=
  if S.hole.isNone then match look S.env t with
    | some (.pinA U cs) => match cs[j]?, S.row (.cell r o), S.F.get r with
      | some (.sl (.cell r' o') none), some ⟨.full, τ, l⟩, some R0 => if r' = r ∧ o' = o ∧ R0.mem = true then
          (S.set (.cell r o) (.v c)).bind fun S1 => (S1.newRow n R none .full τ l).bind fun S2 => some (cellOfV U j, ⟨mapEnv (AC.redir r o (.cell R 0)) S.env, S2.F, S2.hole, S2.aux⟩)
        else none
      | _, _, _ => none
    | _ => none
  else none
theorem Seg.openAt {fs : List Frm} {p : Pos} {x : Out × St} (t j r o R : Nat) (u : Value) (Sn : Value → St) (hn : ∀ c, S.openAt n t j r o R c = some (u, Sn c)) (hs : ∀ c, SameHead c u → Seg G n ⟨fs, p, Sn c⟩ x) : Seg G n ⟨fs, p, S⟩ x := by
  intro w0 O0 a w Q hS hQ
  obtain ⟨βv, β, hH, hO, hT⟩ := hS.holds
  have look0 := hn undef
  unfold St.openAt at look0
  split at look0
  · rename_i hh
    simp only [Option.isNone_iff_eq_none] at hh
    split at look0
    · rename_i U cs henv
      split at look0
      · rename_i r' o' τ l R0 hcs hrow hR0
        split at look0
        · rename_i hcond
          obtain ⟨e1, e2, hmem⟩ := hcond
          subst e1
          subst e2
          have hu : u = cellOfV U j := by
            obtain ⟨S1, _, k⟩ := Option.bind_eq_some_iff.1 look0
            obtain ⟨S2, _, k⟩ := Option.bind_eq_some_iff.1 k
            exact (Prod.mk.inj (Option.some.inj k)).1.symm
          clear look0
          have hat : AtN S.F none (.cell r' o') (.rows .full τ l) := ⟨at_of_row0 hrow, fun _ e => by cases e⟩
          have hlays := hH.lays
          rw [hh] at hlays
          obtain ⟨u0, m1, m2⟩ := hlays.cells _ _ hat ⟨R0, hR0, hmem⟩
          -- the name
          have hE := hH.env
          rw [hh] at hE
          obtain ⟨eU, vs, eV, hacs⟩ := hE t _ henv
          obtain ⟨vj, hvj, hrel⟩ := hacs.get hcs
          have hcell : cellOfV U j = vj := by
            rw [← eU, eV]
            show vs.toArray.getD j undef = vj
            simp [Array.getD_eq_getD_getElem?, hvj]
          have hsl : SlRel (β (.cell r' o')) 0 l.length vj := by
            obtain ⟨m', τ', l', g1, _, g3⟩ := hrel
            cases hat.uniq g1
            simpa [ptLo, ptLen] using g3
          have hsame : SameHead u0 u := by rw [hu, hcell]; exact .of m2 hsl
          have hone : u0.oneCell' = true := by obtain ⟨A, k, rfl, _⟩ := m2; rfl
          refine hs u0 hsame w0 O0 a w Q ?_ hQ
          have h1 := hn u0
          unfold St.openAt at h1
          rw [if_pos (by simp [hh])] at h1
          simp only [henv, hcs, hrow, hR0] at h1
          rw [if_pos ⟨trivial, trivial, hmem⟩] at h1
          obtain ⟨S1, h1, h⟩ := Option.bind_eq_some_iff.1 h1
          obtain ⟨S2, h2, h3⟩ := Option.bind_eq_some_iff.1 h
          have h3 := (Prod.mk.inj (Option.some.inj h3)).2
          rw [← h3]
          -- the cell
          obtain ⟨hB, hb⟩ := solo_bare (c := .v u0) rfl (by simp) βv w
          obtain ⟨β1, k1, k2, k3, k4, k5, k6⟩ := St.set_holds (w' := w) (u := u0) hH (.inl hh) h1 hat.1 hB (fun b hb' => absurd hb' (hb b).1) (fun b hb' => absurd hb' (hb b).2)
            (.inl ⟨by rw [hh]; exact PtrOk.of_at hat ⟨R0, hR0, hmem⟩, .refl _ _, m1, rfl, hone⟩)
          have own1 : ∀ b, OwnB S1.F S1.hole βv β1 b → OwnB S.F (some (.cell r' o')) βv β b := fun b hb' => by
            rcases k2 b hb' with h | h
            · exact h
            · exact absurd h (hb b).1
          have sh1 : ∀ b, ShB S1.F S1.hole β1 b → ShB S.F (some (.cell r' o')) β b := fun b hb' => by
            rw [k3] at hb'
            rcases k4 b hb' with h | h | h
            · exact h
            · exact absurd h (hb b).2
            · exact absurd h (hb b).1
          have htree := hlays.tree hat (fun _ e => by cases e) (fun p => treeLay_app (.cell r' o') β p)
          have top0 : treeLay (.cell r' o') β top = β (.cell r' o') := treeLay_app (.cell r' o') β []
          have tO : ∀ b, OwnB (solo (.rows .full τ l)) none βv (treeLay (.cell r' o') β) b → ¬ OwnB S.F (some (.cell r' o')) βv β b ∧ ¬ ShB S.F (some (.cell r' o')) β b := fun b hb => hlays.tree_own hat (fun p => treeLay_app _ β p) hb
          have tu := fun b => (hlays.tree_used (b := b) hat (fun _ e => by cases e) (fun p => treeLay_app (.cell r' o') β p)).1
          obtain ⟨e, β2, n1, n2, n3, n4, n5, n6, n7⟩ := newRow_rel k1 h2 htree (fun b hb => ⟨fun h => (tO b hb).1 (own1 b h), fun h => (tO b hb).2 (sh1 b h)⟩)
            (fun b hb => absurd hb (uni_noSh (by simp [uniB, solo]) b)) (u := vj) (by rw [top0]; exact hsl) (fun q0 e => by rw [k3] at e; cases e)
          have e1 : S1.env = mapEnv (AC.kill (.cell r' o')) S.env := by
            unfold St.set at h1
            split at h1
            · obtain ⟨F1, _, e2⟩ := Option.bind_eq_some_iff.1 h1
              cases e2; rfl
            · cases h1
          have hE1 := n1.env
          rw [e, e1, n5, k3] at hE1
          refine ⟨⟨βv, β2, ⟨n1.lays, ?_, n1.aux⟩, fun b hb => ?_, fun b hb => ?_⟩, hS.frame, hS.size, hS.os, hS.tape, hS.output, hS.defers, hS.tmps⟩
          · show EnvRel (AcRel S2.F S2.hole βv β2) (mapEnv (AC.redir r' o' (.cell R 0)) S.env) a.tmps
            rw [n5, k3]
            exact EnvRel.two (fun x v h0 h1 => redir_rel (m2 := .full) hat ⟨n6, fun _ e => by cases e⟩ (by rw [n7, top0]) x v h0 (h1.dies _)) hE hE1
          · rcases n2 b hb with hb | hb
            · exact hO b (by rw [hh]; exact hole_own (own1 b hb))
            · exact hO b (by rw [hh]; exact tu b hb)
          · rcases n3 b hb with hb | hb
            · exact hT b (by rw [hh]; exact hole_sh (sh1 b hb))
            · exact absurd hb (uni_noSh (by simp [uniB, solo]) b)
        · cases look0
      · cases look0
    · cases look0
  · cases look0
/-- The row comes back. -/
def St.closeAt (S : St) (t j r o R : Nat) (c : Value) : Option (Value × St) :=
  if S.hole.isNone then match look S.env t with
    | some (.pinA U cs) => match cs[j]?, S.F.get R, S.F.get r with
      | some (.sl (.cell R' 0) none), some ⟨false, [.rows .full τ l]⟩, some R0 => if R' = R ∧ r ≠ R ∧ R0.mem = true then match R0.cs[o]? with
          | some (.v _) => ((S.drop R).set (.cell r o) (.rows .full τ l)).bind fun S1 => some (cellOfV U j, S1)
          | _ => none
        else none
      | _, _, _ => none
    | _ => none
  else none
theorem Seg.closeAt {fs : List Frm} {p : Pos} {x : Out × St} (t j r o R : Nat) (c u : Value) (hv : ((S.F.get r).bind fun R0 => R0.cs[o]?) = some (.v c)) (hn : S.closeAt t j r o R c = some (u, S')) (hc : SameHead c u) (hs : Seg G n ⟨fs, p, S'⟩ x) : Seg G n ⟨fs, p, S⟩ x := by
  intro w0 O0 a w Q hS hQ
  refine hs w0 O0 a w Q ?_ hQ
  obtain ⟨βv, β, hH, hO, hT⟩ := hS.holds
  unfold St.closeAt at hn
  split at hn
  · rename_i hh
    simp only [Option.isNone_iff_eq_none] at hh
    split at hn
    · rename_i U cs henv
      split at hn
      · rename_i R' τ l R0 hcs hR hR0
        split at hn
        · rename_i hcond
          obtain ⟨e1, hne, hmem⟩ := hcond
          subst e1
          split at hn
          · rename_i c2 hcell2
            rw [hR0, Option.bind_some, hcell2] at hv
            cases hv
            obtain ⟨S1, hset, h3⟩ := Option.bind_eq_some_iff.1 hn
            have eS := (Prod.mk.inj (Option.some.inj h3)).2
            have eu := (Prod.mk.inj (Option.some.inj h3)).1
            rw [← eS]
            have hlays := hH.lays
            rw [hh] at hlays
            have hE := hH.env
            rw [hh] at hE
            obtain ⟨eU, vs, eV, hacs⟩ := hE t _ henv
            obtain ⟨vj, hvj, hrel⟩ := hacs.get hcs
            have hcellv : cellOfV U j = vj := by
              rw [← eU, eV]
              show vs.toArray.getD j undef = vj
              simp [Array.getD_eq_getD_getElem?, hvj]
            have hatR : AtN S.F none (.cell R' 0) (.rows .full τ l) := ⟨⟨_, hR, rfl⟩, fun _ e => by cases e⟩
            have hsl : SlRel (β (.cell R' 0)) 0 l.length vj := by
              obtain ⟨m', τ', l', g1, _, g3⟩ := hrel
              cases hatR.uniq g1
              simpa [ptLo, ptLen] using g3
            rw [← eu, hcellv] at hc
            have hcr := hc.rel hsl rfl
            have T := drop_taken (xs := []) hH hR (fun q0 e => by rw [hh] at e; cases e)
            have htree := hlays.tree hatR (fun _ e => by cases e) (fun p => treeLay_app (.cell R' 0) β p)
            have top0 : treeLay (.cell R' 0) β top = β (.cell R' 0) := treeLay_app (.cell R' 0) β []
            have hatc : AtN S.F none (.cell r o) (.v c) := ⟨⟨R0, hR0, hcell2⟩, fun _ e => by cases e⟩
            obtain ⟨u0, m1, m2⟩ := hlays.cells _ _ hatc ⟨R0, hR0, hmem⟩
            have m2 : u0 = c ∧ c.oneCell' = true := m2
            have hgr : (S.drop R').F.get r = some R0 := by
              show (S.F.put R' none).get r = some R0
              rw [Forest.get_put, if_neg hne]; exact hR0
            have dh : (S.drop R').hole = none := hh
            obtain ⟨β2, k1, k2, k3, k4, _, _⟩ := St.set_holds (S := S.drop R') (w' := w) (u := c) T.holds (.inl dh) hset (s := .v c) ⟨R0, hgr, hcell2⟩ htree
              (fun b hb => ⟨fun h => (T.d1 b hb).2.1 (by rw [dh]; exact hole_own h), fun h => (T.d1 b hb).2.2 (by rw [dh]; exact hole_sh h)⟩)
              (fun b hb => absurd hb (uni_noSh (by simp [uniB, solo]) b))
              (.inl ⟨by rw [dh]; exact ⟨R0, hgr, hmem, (List.getElem?_eq_some_iff.1 hcell2).1⟩, .refl _ _, by rw [m1, m2.1], by rw [top0]; exact hcr⟩)
            refine ⟨⟨βv, β2, k1, fun b hb => ?_, fun b hb => ?_⟩, hS.frame, hS.size, hS.os, hS.tape, hS.output, hS.defers, hS.tmps⟩
            · rcases k2 b hb with hb | hb
              · exact hO b (T.own b (by rw [dh]; exact hole_own hb))
              · exact hO b (T.d1 b hb).1
            · rw [k3] at hb
              rcases k4 b hb with hb | hb | hb
              · exact hT b (T.sh b (by rw [dh]; exact hole_sh hb))
              · exact absurd hb (uni_noSh (by simp [uniB, solo]) b)
              · exact .inr (hO b (T.d1 b hb).1)
          · cases hn
        · cases hn
      · cases hn
    · cases hn
  · cases hn
/-- A place in the code, whatever the state. -/
def Uni (mk : St → Cfg) : Prop := ∃ fs p, ∀ S, mk S = ⟨fs, p, S⟩
theorem uni_now {c : Code} {p : List Nat} {k : Nat} : Uni fun S => atNow c p k S := by
  unfold Uni atNow nowOf
  split
  · exact ⟨_, _, fun _ => rfl⟩
  · exact ⟨_, _, fun _ => rfl⟩
theorem uni_fnow {c : Code} {p : List Nat} {I : List Nat} {i : Nat} : Uni fun S => atFnow c p I i S := by
  unfold Uni atFnow fnowOf
  split
  · exact ⟨_, _, fun _ => rfl⟩
  · exact ⟨_, _, fun _ => rfl⟩
theorem uni_ops {c : Code} {p : List Nat} {k : Nat} : Uni fun S => atOps c p k S := ⟨_, _, fun _ => rfl⟩
theorem uni_flt {c : Code} {p : List Nat} {I : List Nat} {l : Option Nat} : Uni fun S => atFlt c p I l S := ⟨_, _, fun _ => rfl⟩
theorem Seg.nameU {mk : St → Cfg} (hmk : Uni mk) {x : Out × St} (t : Nat) (Sn : Value → St) (hn : ∀ U, S.name t U = some (Sn U)) (hs : ∀ U, Seg G n (mk (Sn U)) x) : Seg G n (mk S) x := by
  obtain ⟨fs, p, h⟩ := hmk
  rw [h]
  exact Seg.name t Sn hn fun U => by rw [← h]; exact hs U
theorem Seg.openU {mk : St → Cfg} (hmk : Uni mk) {x : Out × St} (t j r o R : Nat) (u : Value) (Sn : Value → St) (hn : ∀ c, S.openAt n t j r o R c = some (u, Sn c)) (hs : ∀ c, SameHead c u → Seg G n (mk (Sn c)) x) : Seg G n (mk S) x := by
  obtain ⟨fs, p, h⟩ := hmk
  rw [h]
  exact Seg.openAt t j r o R u Sn hn fun c hc => by rw [← h]; exact hs c hc
theorem Seg.closeU {mk : St → Cfg} (hmk : Uni mk) {x : Out × St} (t j r o R : Nat) (c u : Value) (hv : ((S.F.get r).bind fun R0 => R0.cs[o]?) = some (.v c)) (hn : S.closeAt t j r o R c = some (u, S')) (hc : SameHead c u) (hs : Seg G n (mk S') x) : Seg G n (mk S) x := by
  obtain ⟨fs, p, h⟩ := hmk
  rw [h]
  exact Seg.closeAt t j r o R c u hv hn hc (by rw [← h]; exact hs)
end
end Go.Proofs.YtnceiegngfpmkaaAm
namespace Go.Proofs.YtnceiegngfpmkaaAm
set_option linter.unusedVariables false

/-- What a value's cells say, as data. -/
def Shown (w : World) : (τ : Ty) → Interp τ → List Value → Prop
  | .int k, n, cs => cs = [.int k n]
  | .bool, b, cs => cs = [.bool b]
  | .str, s, cs => cs = [.string s]
  | .sl a, l, cs => ∃ A c, cs = [.slice A l.length c] ∧ 0 < a.size ∧ l.length ≤ c ∧ (0 < c → ∃ x, A = some x ∧ x.spot = none) ∧
      ∀ j (h : j < l.length), ∃ x es, A = some x ∧ es.length = a.size ∧ Shown w a l[j] es ∧ ∀ o u, es[o]? = some u → w.cell? (x.add (j * a.size + o)) = some u
  | .unit, _, cs => cs = []
  | .pair a b, x, cs => ∃ c1 c2, cs = c1 ++ c2 ∧ Shown w a x.1 c1 ∧ Shown w b x.2 c2
  | .rose _, _, _ => False
theorem Shown.length {w : World} : ∀ {τ : Ty} {x : Interp τ} {cs : List Value}, Shown w τ x cs → cs.length = τ.size
  | .int _, _, _, h => by rw [show _ = _ from h]; rfl
  | .bool, _, _, h => by rw [show _ = _ from h]; rfl
  | .str, _, _, h => by rw [show _ = _ from h]; rfl
  | .sl _, _, _, h => by obtain ⟨A, c, rfl, _⟩ := h; rfl
  | .unit, _, _, h => by rw [show _ = _ from h]; rfl
  | .pair a b, _, _, h => by
    obtain ⟨c1, c2, rfl, h1, h2⟩ := h
    rw [List.length_append, h1.length, h2.length]; rfl
  | .rose _, _, _, h => h.elim
theorem Shown.cell {w : World} : ∀ {τ : Ty} {x : Interp τ} {cs : List Value}, Shown w τ x cs → ∀ {o : Nat} {c : Cell}, (toCells .sh τ x)[o]? = some c →
    ∃ u, cs[o]? = some u ∧ ((∃ v, c = .v v ∧ u = v ∧ v.oneCell' = true) ∨ ∃ a l, c = .rows .sh a l ∧ Shown w (.sl a) l [u])
  | .int k, n, cs, h, o, c, hc => by
    rw [show cs = _ from h]
    cases o with
    | zero => simp only [toCells, List.getElem?_cons_zero, Option.some.injEq] at hc; exact ⟨_, rfl, .inl ⟨_, hc.symm, rfl, rfl⟩⟩
    | succ o => simp [toCells] at hc
  | .bool, n, cs, h, o, c, hc => by
    rw [show cs = _ from h]
    cases o with
    | zero => simp only [toCells, List.getElem?_cons_zero, Option.some.injEq] at hc; exact ⟨_, rfl, .inl ⟨_, hc.symm, rfl, rfl⟩⟩
    | succ o => simp [toCells] at hc
  | .str, n, cs, h, o, c, hc => by
    rw [show cs = _ from h]
    cases o with
    | zero => simp only [toCells, List.getElem?_cons_zero, Option.some.injEq] at hc; exact ⟨_, rfl, .inl ⟨_, hc.symm, rfl, rfl⟩⟩
    | succ o => simp [toCells] at hc
  | .sl a, l, cs, h, o, c, hc => by
    cases o with
    | zero =>
      simp only [toCells, List.getElem?_cons_zero, Option.some.injEq] at hc
      have h0 := h
      obtain ⟨A, k, rfl, _⟩ := h
      exact ⟨_, rfl, .inr ⟨a, l, hc.symm, h0⟩⟩
    | succ o => simp [toCells] at hc
  | .unit, _, cs, h, o, c, hc => by simp [toCells] at hc
  | .pair a b, x, cs, h, o, c, hc => by
    obtain ⟨c1, c2, rfl, h1, h2⟩ := h
    simp only [toCells] at hc
    have e1 := h1.length
    rw [List.getElem?_append] at hc
    split at hc
    · rename_i ho
      obtain ⟨u, g1, g2⟩ := h1.cell hc
      refine ⟨u, ?_, g2⟩
      rw [List.getElem?_append_left (by rw [toCells_length] at ho; omega)]
      exact g1
    · rename_i ho
      rw [toCells_length] at ho hc
      obtain ⟨u, g1, g2⟩ := h2.cell hc
      refine ⟨u, ?_, g2⟩
      rw [List.getElem?_append_right (by omega), e1]
      exact g1
  | .rose _, _, _, h, _, _, _ => h.elim

/-! ### Where what came in lies -/
def layOf (sz : Nat) : Option Value → Lay
  | some (.slice (some x) _ c) => ⟨x.block, x.off, c, sz⟩
  | some (.slice none _ c) => ⟨0, 0, c, sz⟩
  | _ => ⟨0, 0, 0, sz⟩
def sizeAt (F : Forest) (q : Pl) : Nat := match nav F q with
  | some (.rows _ τ _) => τ.size
  | _ => 0
noncomputable def inLay (F : Forest) (L : Nat → Lay) (w : World) : Pl → Lay
  | .cell r _ => L r
  | .sub q i o => layOf (sizeAt F (.sub q i o)) (w.cell? ⟨(inLay F L w q).b, (inLay F L w q).base + i * (inLay F L w q).sz + o, none⟩)
/-- Rows of what came in. -/
def RowIn (w : World) (L : Lay) (τ : Ty) (l : List (Interp τ)) : Prop :=
  L.sz = τ.size ∧ l.length ≤ L.cap ∧ ∀ j (h : j < l.length), ∃ es, es.length = τ.size ∧ Shown w τ l[j] es ∧ ∀ o u, es[o]? = some u → w.cell? ⟨L.b, L.base + j * L.sz + o, none⟩ = some u
theorem shown_row {w : World} {a : Ty} {l : List (Interp a)} {u : Value} (h : Shown w (.sl a) l [u]) : RowIn w (layOf a.size (some u)) a l ∧ SlRel (layOf a.size (some u)) 0 l.length u := by
  obtain ⟨A, c, hu, hs, h1, h2, h3⟩ := h
  simp only [List.cons.injEq, and_true] at hu
  subst hu
  cases A with
  | none =>
    refine ⟨⟨rfl, h1, fun j hj => ?_⟩, none, c, rfl, rfl, ?_⟩
    · obtain ⟨x, es, e, _⟩ := h3 j hj; cases e
    · left
      refine Classical.byContradiction fun hc => ?_
      obtain ⟨x, e, _⟩ := h2 (by omega)
      cases e
  | some x =>
    have hx : 0 < c → x.spot = none := fun h => by obtain ⟨y, e, hy⟩ := h2 h; cases e; exact hy
    refine ⟨⟨rfl, h1, fun j hj => ?_⟩, some x, c, rfl, rfl, ?_⟩
    · obtain ⟨y, es, e, g1, g2, g3⟩ := h3 j hj
      cases e
      refine ⟨es, g1, g2, fun o u hu => ?_⟩
      rw [← g3 o u hu]
      have hlt : o < a.size := by have := (List.getElem?_eq_some_iff.1 hu).1; omega
      have hsp := hx (by omega)
      congr 1
      unfold Addr.add
      simp only [layOf]
      split
      · rename_i e
        rw [show x.off + j * a.size + o = x.off by omega]
        cases x
        simp only at hsp
        subst hsp
        rfl
      · simp [Nat.add_assoc]
    · by_cases hc : c = 0
      · exact .inl hc
      · right
        have hsp := hx (by omega)
        cases x
        simp only at hsp
        subst hsp
        simp [layOf]
section
variable {w : World} {F : Forest} {L : Nat → Lay} {βv : Nat → Nat}
/-- All rows are read only and lie as they should. -/
structure In (w : World) (F : Forest) (L : Nat → Lay) : Prop where
  sh : uniB F .sh = true
  row : ∀ r R, F.get r = some R → R.mem = false ∧ ∃ a l, R.cs = [.rows .sh a l] ∧ RowIn w (L r) a l
theorem In.at_ (h : In w F L) : ∀ {q : Pl} {m : Mode} {τ : Ty} {l : List (Interp τ)}, At F q (.rows m τ l) → m = .sh ∧ RowIn w (inLay F L w q) τ l
  | .cell r o, m, τ, l, ha => by
    obtain ⟨R, h1, h2⟩ := ha
    obtain ⟨_, a, l', e, hr⟩ := h.row r R h1
    rw [e] at h2
    cases o with
    | zero => simp only [List.getElem?_cons_zero, Option.some.injEq] at h2; cases h2; exact ⟨rfl, hr⟩
    | succ o => simp at h2
  | .sub q i o, m, τ, l, ha => by
    have ha0 := ha
    obtain ⟨c0, h0, hi, hs⟩ := ha
    cases c0 with
    | rows m0 τ0 l0 =>
      obtain ⟨rfl, hsz, hcap, hel⟩ := h.at_ h0
      have hi : i < l0.length := hi
      obtain ⟨es, k1, k2, k3⟩ := hel i hi
      simp only [Cell.sub, Mode.next] at hs
      have hg : l0.getD i (dflt τ0) = l0[i] := by rw [List.getD_eq_getElem?_getD, List.getElem?_eq_getElem hi]; rfl
      rw [hg] at hs
      obtain ⟨u, g1, g2⟩ := k2.cell hs
      rcases g2 with ⟨v, e, _⟩ | ⟨a, l2, e, hsh⟩
      · cases e
      · cases e
        refine ⟨rfl, ?_⟩
        have hc := k3 o u g1
        have hsize : sizeAt F (.sub q i o) = τ.size := by simp [sizeAt, ha0.nav]
        show RowIn w (layOf (sizeAt F (.sub q i o)) (w.cell? _)) τ l
        rw [hc, hsize]
        exact (shown_row hsh).1
    | v x => simp [Cell.sub] at hs
    | ref x => simp [Cell.sub] at hs
    | dead => simp [Cell.sub] at hs
theorem In.noMem (h : In w F L) {r : Nat} {R : Root} (hr : F.get r = some R) : R.mem = false := (h.row r R hr).1
theorem In.lays (h : In w F L) : Lays F none βv (inLay F L w) w := by
  have noOwn : ∀ q m τ l, AtN F none q (.rows m τ l) → m.isOwn = false := fun q m τ l ha => by rw [(h.at_ ha.1).1]; rfl
  constructor
  · intro q c ha hm
    cases q with
    | cell r o =>
      obtain ⟨R, h1, h2⟩ := hm
      rw [h.noMem h1] at h2; cases h2
    | sub q i o =>
      obtain ⟨c0, h0, hi, hs⟩ := ha.1
      cases c0 with
      | rows m0 τ0 l0 =>
        obtain ⟨rfl, hsz, hcap, hel⟩ := h.at_ h0
        have hi : i < l0.length := hi
        obtain ⟨es, k1, k2, k3⟩ := hel i hi
        simp only [Cell.sub, Mode.next] at hs
        have hg : l0.getD i (dflt τ0) = l0[i] := by rw [List.getD_eq_getElem?_getD, List.getElem?_eq_getElem hi]; rfl
        rw [hg] at hs
        obtain ⟨u, g1, g2⟩ := k2.cell hs
        have hc := k3 o u g1
        refine ⟨u, hc, ?_⟩
        rcases g2 with ⟨v, rfl, rfl, e3⟩ | ⟨a, l2, rfl, hsh⟩
        · exact ⟨rfl, e3⟩
        · have hsize : sizeAt F (.sub q i o) = a.size := by simp [sizeAt, ha.1.nav]
          show SlRel (layOf (sizeAt F (.sub q i o)) (w.cell? _)) 0 l2.length u
          rw [hc, hsize]
          exact (shown_row hsh).2
      | v x => simp [Cell.sub] at hs
      | ref x => simp [Cell.sub] at hs
      | dead => simp [Cell.sub] at hs
  · intro q m τ l ha
    obtain ⟨_, h1, h2, _⟩ := h.at_ ha.1
    exact ⟨h1, h2⟩
  · intro q m τ l ha ho
    rw [noOwn q m τ l ha] at ho; cases ho
  · intro r R h1 h2
    rw [h.noMem h1] at h2; cases h2
  · intro r r' R R' h1 h2
    rw [h.noMem h1] at h2; cases h2
  · intro q q' m m' τ τ' l l' ha ho
    rw [noOwn q m τ l ha] at ho; cases ho
  · intro r R q m τ l h1 h2
    rw [h.noMem h1] at h2; cases h2
  · rintro b _ (⟨r, R, h1, h2, _⟩ | ⟨q, m, τ, l, h1, h2, _⟩)
    · rw [h.noMem h1] at h2; cases h2
    · rw [noOwn q m τ l h1] at h2; cases h2
theorem In.own (h : In w F L) (β : Layout) (b : Nat) : ¬ OwnB F none βv β b := by
  rintro (⟨r, R, h1, h2, _⟩ | ⟨q, m, τ, l, h1, h2, _⟩)
  · rw [h.noMem h1] at h2; cases h2
  · rw [(h.at_ h1.1).1] at h2; cases h2
end
/-! ### A law's arguments -/
abbrev RowD := (a : Ty) × List (Interp a)
def Ty.rowsIn : Ty → Nat
  | .sl _ => 1
  | .pair a b => a.rowsIn + b.rowsIn
  | _ => 0
theorem Acs.append {R : AC → Value → Prop} {xs : List AC} {vs : List Value} (h : Acs R xs vs) {ys : List AC} {us : List Value} (h' : Acs R ys us) : Acs R (xs ++ ys) (vs ++ us) := by
  induction h with
  | nil => exact h'
  | cons a _ ih => exact .cons a ih
/-- The cells of an argument; its rows, by their numbers. -/
def inAcs : (τ : Ty) → Interp τ → Nat → List AC
  | .int k, n, _ => [.lit (.int k n)]
  | .bool, b, _ => [.lit (.bool b)]
  | .str, s, _ => [.lit (.string s)]
  | .sl _, _, i => [.sl (.cell i 0) none]
  | .unit, _, _ => []
  | .pair a b, x, i => inAcs a x.1 i ++ inAcs b x.2 (i + a.rowsIn)
  | .rose _, _, _ => []
def inRows : (τ : Ty) → Interp τ → List (RowD)
  | .sl a, l => [⟨a, l⟩]
  | .pair a b, x => inRows a x.1 ++ inRows b x.2
  | _, _ => []
def inForest : Nat → List (RowD) → Forest
  | _, [] => []
  | i, x :: xs => (i, some ⟨false, [.rows .sh x.1 x.2]⟩) :: inForest (i + 1) xs
/-- A parameter: a struct? its kind, its data. -/
abbrev Par := Bool × (τ : Ty) × Interp τ
def inAVs : Nat → List Par → List AV
  | _, [] => []
  | i, p :: ps => (if p.1 then .agg (inAcs p.2.1 p.2.2 i) else .c ((inAcs p.2.1 p.2.2 i).headD .dead)) :: inAVs (i + p.2.1.rowsIn) ps
def lawInp (ps : List Par) : St := ⟨envFrom 0 (inAVs 0 ps), inForest 0 (ps.flatMap fun p => inRows p.2.1 p.2.2), none, []⟩
/-- The argument's value. -/
def ParIs (w : World) (p : Par) (v : Value) : Prop :=
  if p.1 then ∃ cs : Array Value, v = .agg cs ∧ Shown w p.2.1 p.2.2 cs.toList else Shown w p.2.1 p.2.2 [v]
inductive ParsAre (w : World) : List Par → List Value → Prop where
  | nil : ParsAre w [] []
  | cons {p : Par} {v : Value} {ps : List Par} {vs : List Value} (h : ParIs w p v) (t : ParsAre w ps vs) : ParsAre w (p :: ps) (v :: vs)
theorem inRows_length : ∀ (τ : Ty) (x : Interp τ), (inRows τ x).length = τ.rowsIn
  | .int _, _ | .bool, _ | .str, _ | .unit, _ | .rose _, _ | .sl _, _ => rfl
  | .pair a b, x => by simp [inRows, Ty.rowsIn, inRows_length a, inRows_length b]
/-- The slices in an argument's cells, in their order. -/
theorem shown_rows {w : World} : ∀ {τ : Ty} {x : Interp τ} {cs : List Value}, Shown w τ x cs → ∃ us : List Value, us.length = τ.rowsIn ∧ (∀ (k : Nat) (y : RowD), (inRows τ x)[k]? = some y → ∃ u, us[k]? = some u ∧ Shown w (.sl y.1) y.2 [u]) ∧
    ∀ (F : Forest) (βv : Nat → Nat) (β : Layout) (i : Nat), (∀ (k : Nat) (y : RowD) (u : Value), (inRows τ x)[k]? = some y → us[k]? = some u → AcRel F none βv β (.sl (.cell (i + k) 0) none) u) → Acs (AcRel F none βv β) (inAcs τ x i) cs
  | .int k, n, cs, h => by rw [show cs = _ from h]; exact ⟨[], rfl, fun k y hy => by simp [inRows] at hy, fun F βv β i _ => .cons rfl .nil⟩
  | .bool, n, cs, h => by rw [show cs = _ from h]; exact ⟨[], rfl, fun k y hy => by simp [inRows] at hy, fun F βv β i _ => .cons rfl .nil⟩
  | .str, n, cs, h => by rw [show cs = _ from h]; exact ⟨[], rfl, fun k y hy => by simp [inRows] at hy, fun F βv β i _ => .cons rfl .nil⟩
  | .unit, n, cs, h => by rw [show cs = _ from h]; exact ⟨[], rfl, fun k y hy => by simp [inRows] at hy, fun F βv β i _ => .nil⟩
  | .sl a, l, cs, h => by
    have h0 := h
    obtain ⟨A, c, rfl, _⟩ := h
    refine ⟨[.slice A l.length c], rfl, fun k y hy => ?_, fun F βv β i hr => .cons (hr 0 ⟨a, l⟩ _ rfl rfl) .nil⟩
    cases k with
    | zero => simp only [inRows, List.getElem?_cons_zero, Option.some.injEq] at hy; subst hy; exact ⟨_, rfl, h0⟩
    | succ k => simp [inRows] at hy
  | .pair a b, x, cs, h => by
    obtain ⟨c1, c2, rfl, h1, h2⟩ := h
    obtain ⟨u1, e1, f1, g1⟩ := shown_rows h1
    obtain ⟨u2, e2, f2, g2⟩ := shown_rows h2
    have l1 := inRows_length a x.1
    refine ⟨u1 ++ u2, by simp [Ty.rowsIn, e1, e2], fun k y hy => ?_, fun F βv β i hr => ?_⟩
    · simp only [inRows] at hy
      rw [List.getElem?_append] at hy ⊢
      by_cases hk : k < (inRows a x.1).length
      · rw [if_pos hk] at hy
        rw [if_pos (by omega)]
        exact f1 k y hy
      · rw [if_neg hk] at hy
        rw [if_neg (by omega)]
        rw [l1, ← e1] at hy
        exact f2 _ y hy
    · refine Acs.append (g1 F βv β i fun k y u hy hu => hr k y u ?_ ?_) (g2 F βv β (i + a.rowsIn) fun k y u hy hu => ?_)
      · have hk : k < (inRows a x.1).length := (List.getElem?_eq_some_iff.1 hy).1
        simp only [inRows]
        rw [List.getElem?_append_left hk]; exact hy
      · have hk : k < u1.length := (List.getElem?_eq_some_iff.1 hu).1
        rw [List.getElem?_append_left hk]; exact hu
      · have := hr (a.rowsIn + k) y u (by
          simp only [inRows]
          rw [List.getElem?_append_right (by omega), l1, Nat.add_sub_cancel_left]; exact hy) (by
          rw [List.getElem?_append_right (by omega), e1, Nat.add_sub_cancel_left]; exact hu)
        rw [← Nat.add_assoc] at this
        exact this
  | .rose _, _, _, h => h.elim
theorem pars_rows {w : World} {ps : List Par} {vs : List Value} (h : ParsAre w ps vs) : ∃ us : List Value, us.length = (ps.flatMap fun p => inRows p.2.1 p.2.2).length ∧
    (∀ (k : Nat) (y : RowD), (ps.flatMap fun p => inRows p.2.1 p.2.2)[k]? = some y → ∃ u, us[k]? = some u ∧ Shown w (.sl y.1) y.2 [u]) ∧
    ∀ (F : Forest) (βv : Nat → Nat) (β : Layout) (i : Nat), (∀ (k : Nat) (y : RowD) (u : Value), (ps.flatMap fun p => inRows p.2.1 p.2.2)[k]? = some y → us[k]? = some u → AcRel F none βv β (.sl (.cell (i + k) 0) none) u) → Avs (AcRel F none βv β) (inAVs i ps) vs := by
  induction h with
  | nil => exact ⟨[], rfl, fun k y hy => by simp at hy, fun F βv β i _ => .nil⟩
  | @cons p v ps vs h t ih =>
    obtain ⟨u2, e2, f2, g2⟩ := ih
    have one : ∃ us : List Value, us.length = p.2.1.rowsIn ∧ (∀ (k : Nat) (y : RowD), (inRows p.2.1 p.2.2)[k]? = some y → ∃ u, us[k]? = some u ∧ Shown w (.sl y.1) y.2 [u]) ∧
        ∀ (F : Forest) (βv : Nat → Nat) (β : Layout) (i : Nat), (∀ (k : Nat) (y : RowD) (u : Value), (inRows p.2.1 p.2.2)[k]? = some y → us[k]? = some u → AcRel F none βv β (.sl (.cell (i + k) 0) none) u) →
          AvRel (AcRel F none βv β) (if p.1 then .agg (inAcs p.2.1 p.2.2 i) else .c ((inAcs p.2.1 p.2.2 i).headD .dead)) v := by
      unfold ParIs at h
      split at h
      · rename_i hp
        obtain ⟨cs, rfl, h⟩ := h
        obtain ⟨us, e, f, g⟩ := shown_rows h
        exact ⟨us, e, f, fun F βv β i hr => by rw [if_pos hp]; exact ⟨cs.toList, by simp, g F βv β i hr⟩⟩
      · rename_i hp
        obtain ⟨us, e, f, g⟩ := shown_rows h
        refine ⟨us, e, f, fun F βv β i hr => ?_⟩
        rw [if_neg hp]
        have := g F βv β i hr
        generalize inAcs p.2.1 p.2.2 i = xs at this
        cases this with
        | cons a b => exact a
    obtain ⟨u1, e1, f1, g1⟩ := one
    have l1 := inRows_length p.2.1 p.2.2
    refine ⟨u1 ++ u2, by simp [e1, e2, l1], fun k y hy => ?_, fun F βv β i hr => ?_⟩
    · simp only [List.flatMap_cons] at hy
      rw [List.getElem?_append] at hy ⊢
      by_cases hk : k < (inRows p.2.1 p.2.2).length
      · rw [if_pos hk] at hy
        rw [if_pos (by omega)]
        exact f1 k y hy
      · rw [if_neg hk] at hy
        rw [if_neg (by omega)]
        rw [l1, ← e1] at hy
        exact f2 _ y hy
    · refine .cons (g1 F βv β i fun k y u hy hu => hr k y u ?_ ?_) (g2 F βv β (i + p.2.1.rowsIn) fun k y u hy hu => ?_)
      · have hk : k < (inRows p.2.1 p.2.2).length := (List.getElem?_eq_some_iff.1 hy).1
        simp only [List.flatMap_cons]
        rw [List.getElem?_append_left hk]; exact hy
      · have hk : k < u1.length := (List.getElem?_eq_some_iff.1 hu).1
        rw [List.getElem?_append_left hk]; exact hu
      · have := hr (p.2.1.rowsIn + k) y u (by
          simp only [List.flatMap_cons]
          rw [List.getElem?_append_right (by omega), l1, Nat.add_sub_cancel_left]; exact hy) (by
          rw [List.getElem?_append_right (by omega), e1, Nat.add_sub_cancel_left]; exact hu)
        rw [← Nat.add_assoc] at this
        exact this
theorem get_inForest : ∀ {rs : List RowD} {i r : Nat} {R : Root}, (inForest i rs).get r = some R → ∃ y, i ≤ r ∧ rs[r - i]? = some y ∧ R = ⟨false, [.rows .sh y.1 y.2]⟩
  | [], i, r, R, h => by cases h
  | x :: rs, i, r, R, h => by
    simp only [inForest, Forest.get] at h
    split at h
    · rename_i e
      cases h
      subst e
      exact ⟨x, Nat.le_refl _, by simp, rfl⟩
    · rename_i e
      obtain ⟨y, h1, h2, h3⟩ := get_inForest h
      refine ⟨y, by omega, ?_, h3⟩
      rw [show r - i = (r - (i + 1)) + 1 by omega]
      simpa using h2
theorem inForest_get : ∀ {rs : List RowD} {i k : Nat} {y : RowD}, rs[k]? = some y → (inForest i rs).get (i + k) = some ⟨false, [.rows .sh y.1 y.2]⟩
  | [], i, k, y, h => by simp at h
  | x :: rs, i, k, y, h => by
    cases k with
    | zero => simp only [List.getElem?_cons_zero, Option.some.injEq] at h; subst h; simp [inForest, Forest.get]
    | succ k =>
      have := inForest_get (i := i + 1) (k := k) (y := y) (by simpa using h)
      simp only [inForest, Forest.get]
      rw [if_neg (by omega), show i + (k + 1) = i + 1 + k by omega]
      exact this
theorem inForest_sh : ∀ (rs : List RowD) (i : Nat), uniB (inForest i rs) .sh = true
  | [], _ => rfl
  | x :: rs, i => by
    have := inForest_sh rs (i + 1)
    simp only [uniB, inForest, List.all_cons, Bool.and_eq_true] at this ⊢
    exact ⟨by simp, this⟩
theorem pars_holds {w : World} {ps : List Par} {args : Array Value} (h : ParsAre w ps args.toList) : ∃ βv β, Holds (lawInp ps) βv β args [] w ∧ ∀ b, ¬ OwnB (lawInp ps).F none βv β b := by
  obtain ⟨us, e, f, g⟩ := pars_rows h
  generalize hrs : (ps.flatMap fun p => inRows p.2.1 p.2.2) = rs at e f g
  let L : Nat → Lay := fun k => match rs[k]? with
    | some y => layOf y.1.size us[k]?
    | none => ⟨0, 0, 0, 0⟩
  have hL : ∀ {k : Nat} {y : RowD} {u : Value}, rs[k]? = some y → us[k]? = some u → L k = layOf y.1.size (some u) := fun {k y u} hy hu => by simp [L, hy, hu]
  have hin : In w (inForest 0 rs) L := by
    refine ⟨inForest_sh rs 0, fun r R hR => ?_⟩
    obtain ⟨y, _, h2, rfl⟩ := get_inForest hR
    obtain ⟨u, hu1, hu2⟩ := f _ _ h2
    refine ⟨rfl, y.1, y.2, rfl, ?_⟩
    rw [Nat.sub_zero] at h2 hu1
    rw [hL h2 hu1]
    exact (shown_row hu2).1
  refine ⟨fun _ => 0, inLay (inForest 0 rs) L w, ⟨?_, ?_, .nil⟩, ?_⟩
  · show Lays (inForest 0 (ps.flatMap fun p => inRows p.2.1 p.2.2)) none _ _ w
    rw [hrs]
    exact hin.lays
  · intro t av ht
    obtain ⟨_, h2⟩ := look_from ht
    have hav := g (inForest 0 rs) (fun _ => 0) (inLay (inForest 0 rs) L w) 0 (fun k y u hy hu => ?_)
    · obtain ⟨v, h3, h4⟩ := hav.get h2
      have : args.getD t undef = v := by
        rw [Array.getD_eq_getD_getElem?, ← Array.getElem?_toList]
        rw [Nat.sub_zero] at h3
        rw [h3]; rfl
      rw [this]
      show AvRel (AcRel (inForest 0 (ps.flatMap fun p => inRows p.2.1 p.2.2)) none _ _) av v
      rw [hrs]
      exact h4
    · obtain ⟨u', hu1, hu2⟩ := f k y hy
      rw [hu] at hu1
      cases hu1
      refine ⟨.sh, y.1, y.2, ⟨⟨_, inForest_get hy, rfl⟩, fun _ e => by cases e⟩, by simp [ptLo, ptLen], ?_⟩
      have := (shown_row hu2).2
      rw [Nat.zero_add]
      show SlRel (L k) _ _ _
      rw [hL hy hu]
      simpa [ptLo, ptLen] using this
  · show ∀ b, ¬ OwnB (inForest 0 (ps.flatMap fun p => inRows p.2.1 p.2.2)) none _ _ b
    rw [hrs]
    exact fun b => hin.own _ b
theorem law_calls {G : Ctx} {f : FuncId} {m : Nat} {ps : List Par} {S : St} {pins : List (Nat × AV)} {av : AV} {F : Forest} {v : Value} (hc : CallP G f m S pins av F) (hS : S = lawInp ps) (hav : av = .c (.lit v)) {w : World} {args : Array Value} (hm : args.size = m) (h : ParsAre w ps args.toList) :
    Calls G.P f args w fun e w' => e = .returned v ∧ Go.RowKit.Below w.heap.size w w' := by
  subst hS
  subst hav
  obtain ⟨βv, β, hH, hO⟩ := pars_holds h
  refine Calls.mono (hc w args βv β hm hH) fun e w' he => ?_
  obtain ⟨v', βv', β', rfl, _, g2, _, _, g3, g4, g5, g6, g7, g8⟩ := he
  have g2 : v' = v := g2
  exact ⟨by rw [g2], g6, g7, g8, g5, fun b hb => g4 b hb (hO b)⟩
end Go.Proofs.YtnceiegngfpmkaaAm
namespace Go.Proofs.YtnceiegngfpmkaaAm
set_option linter.unusedVariables false

/-- What is known of data that came in. -/
def Wf : (τ : Ty) → Interp τ → Prop
  | .int k, n => (Lit.int k n).wf = true
  | .bool, _ => True
  | .str, s => s.size ≤ maxLen
  | .sl a, l => l.length ≤ maxLen ∧ ∀ y ∈ l, Wf a y
  | .unit, _ => True
  | .pair a b, x => Wf a x.1 ∧ Wf b x.2
  | .rose _, _ => True
def TS (P : Program) (t : TypeId) (τ : Ty) : Prop :=
  ∀ {H : Type} (enc : TypeId × Value → H) (W : World) (fuel : Nat) (cs : List Value) (x : DataW H × List MemPlace),
    DataW.trod enc P W 0 (fun _ => true) true fuel t cs = some x → ∃ y : Interp τ, Shown W τ y cs ∧ Wf τ y
theorem add_add (a : Addr) (m i : Nat) : (a.add m).add i = a.add (m + i) := by
  unfold Addr.add
  by_cases hm : m = 0
  · subst hm; simp
  · by_cases hi : i = 0
    · subst hi; simp
    · simp [hm, hi, Nat.add_assoc]
theorem choose_row {α : Type} (R : Nat → α → Prop) (n : Nat) (h : ∀ i, i < n → ∃ y, R i y) : ∃ ys : List α, ys.length = n ∧ ∀ i y, ys[i]? = some y → R i y := by
  induction n with
  | zero => exact ⟨[], rfl, fun i y hy => by simp at hy⟩
  | succ n ih =>
    obtain ⟨ys, hl, hr⟩ := ih (fun i hi => h i (by omega))
    obtain ⟨y, hy⟩ := h n (by omega)
    refine ⟨ys ++ [y], by simp [hl], fun i z hz => ?_⟩
    by_cases hi : i < ys.length
    · rw [List.getElem?_append_left hi] at hz
      exact hr i z hz
    · rw [List.getElem?_append_right (by omega)] at hz
      have : i - ys.length = 0 := by
        have := (List.getElem?_eq_some_iff.1 hz).1
        simp at this
        omega
      rw [this] at hz
      simp at hz
      subst hz
      have : i = n := by omega
      subst this
      exact hy
theorem spot_none {w : World} {a : Addr} {v : Value} (h : w.cell? a = some v) : a.spot = none := by
  unfold World.cell? at h
  split at h
  · split at h
    · cases h
    · rename_i hs; simpa using hs
  · cases h
theorem TS.int {P : Program} {t : TypeId} {k : IntKind} (hu : P.underlying t = some (.int k)) : TS P t (.int k) := by
  intro H enc W fuel cs x h
  obtain ⟨n, rfl, _, hw⟩ := DataW.trod_int hu h
  exact ⟨n, rfl, hw⟩
theorem TS.bool {P : Program} {t : TypeId} (hu : P.underlying t = some .bool) : TS P t .bool := by
  intro H enc W fuel cs x h
  obtain ⟨n, rfl, _⟩ := DataW.trod_bool hu h
  exact ⟨n, rfl, trivial⟩
theorem TS.string {P : Program} {t : TypeId} (hu : P.underlying t = some .string) : TS P t .str := by
  intro H enc W fuel cs x h
  obtain ⟨n, rfl, _, hw⟩ := DataW.trod_string hu h
  exact ⟨n, rfl, hw⟩
theorem TS.slice {P : Program} {t e : TypeId} {a : Ty} (hu : P.underlying t = some (.slice e)) (hc : P.cellsOf e = a.size) (h0 : 0 < a.size) (h : TS P e a) : TS P t (.sl a) := by
  intro H enc W fuel cs x hx
  rcases DataW.trod_slice hu hx with ⟨rfl, _⟩ | ⟨ad, len, cap, elems, rest, n, _, rfl, _, _, hl, hm, hlen, hel, hspare, _⟩
  · exact ⟨[], ⟨none, 0, rfl, h0, Nat.le_refl _, fun h => absurd h (by simp), fun j hj => absurd hj (by simp)⟩, by simp [maxLen], by simp⟩
  · have each : ∀ i, i < len → ∃ y, Wf a y ∧ ∃ c, c.length = a.size ∧ Shown W a y c ∧ ∀ j u, c[j]? = some u → W.cell? (ad.add (i * a.size + j)) = some u := by
      intro i hi
      have h1 := hel i hi
      obtain ⟨el, he⟩ : ∃ el, elems[i]? = some el := ⟨_, List.getElem?_eq_getElem (by omega)⟩
      rw [he] at h1
      obtain ⟨c, hc1, hc2⟩ := Option.bind_eq_some_iff.1 h1
      obtain ⟨y, hy, ho⟩ := h enc W n c el hc2
      obtain ⟨_, hcl, hcc⟩ := World.cells?_some hc1
      rw [hc] at hcl hcc
      refine ⟨y, ho, c, hcl, hy, fun j u hju => ?_⟩
      have hj : j < a.size := by
        have := (List.getElem?_eq_some_iff.1 hju).1
        omega
      rw [← add_add, hcc j hj, hju]
    obtain ⟨ys, hyl, hyr⟩ := choose_row (fun i y => Wf a y ∧ ∃ c, c.length = a.size ∧ Shown W a y c ∧ ∀ j u, c[j]? = some u → W.cell? (ad.add (i * a.size + j)) = some u) len each
    have first : ∀ {b : Nat} {k : Nat}, k = 0 → (∃ c, W.cells? b (ad.add k) (P.cellsOf e) = some c) → ad.spot = none := by
      rintro b k rfl ⟨c, hc1⟩
      obtain ⟨_, hcl, hcc⟩ := World.cells?_some hc1
      have h1 := hcc 0 (by omega)
      have e1 : (ad.add 0).add 0 = ad := by simp [Addr.add]
      rw [e1, List.getElem?_eq_getElem (by omega)] at h1
      exact spot_none h1
    refine ⟨ys, ⟨some ad, cap, by rw [hyl], h0, by omega, fun hcap => ⟨ad, rfl, ?_⟩, fun j hj => ?_⟩, ?_, ?_⟩
    · by_cases hz : 0 < len
      · have h1 := hel 0 hz
        obtain ⟨el, he⟩ : ∃ el, elems[0]? = some el := ⟨_, List.getElem?_eq_getElem (by omega)⟩
        rw [he] at h1
        obtain ⟨c, hc1, _⟩ := Option.bind_eq_some_iff.1 h1
        exact first (by simp) ⟨c, hc1⟩
      · obtain ⟨hr, hs⟩ := hspare rfl
        have h1 := hs 0 (by omega)
        obtain ⟨el, he⟩ : ∃ el, rest[0]? = some el := ⟨_, List.getElem?_eq_getElem (by omega)⟩
        rw [he] at h1
        obtain ⟨c, hc1, _⟩ := Option.bind_eq_some_iff.1 h1
        exact first (by have : len = 0 := by omega
                        subst this; simp) ⟨c, hc1⟩
    · obtain ⟨_, c, g1, g2, g3⟩ := hyr j _ (List.getElem?_eq_getElem hj)
      exact ⟨ad, c, rfl, g1, g2, g3⟩
    · unfold maxLen at hm ⊢; omega
    · intro y hy
      obtain ⟨i, hi, rfl⟩ := List.getElem_of_mem hy
      exact (hyr i _ (List.getElem?_eq_getElem hi)).1
/-- The fields of a struct, one behind the other. -/
inductive TSs (P : Program) : List Field → Nat → Ty → Prop
  | one {f : Field} {off : Nat} {a : Ty} (ho : f.offset = off) (hc : P.cellsOf f.type = a.size) (h : TS P f.type a) : TSs P [f] off a
  | cons {f : Field} {fs : List Field} {off : Nat} {a b : Ty} (ho : f.offset = off) (hc : P.cellsOf f.type = a.size) (h : TS P f.type a) (hs : TSs P fs (off + a.size) b) : TSs P (f :: fs) off (.pair a b)
theorem TSs.read {P : Program} {fs : List Field} {off : Nat} {τ : Ty} (h : TSs P fs off τ) {H : Type} (enc : TypeId × Value → H) (W : World) (n : Nat) (cs : List Value)
    (hlen : cs.length = off + τ.size) (hf : ∀ (i : Nat) (f : Field), fs[i]? = some f → ∃ x, DataW.trod enc P W 0 (fun _ => true) true n f.type ((cs.drop f.offset).take (P.cellsOf f.type)) = some x) : ∃ y, Shown W τ y (cs.drop off) ∧ Wf τ y := by
  induction h with
  | one ho hc h =>
    obtain ⟨x, hx⟩ := hf 0 _ rfl
    obtain ⟨y, hy, hk⟩ := h enc W n _ x hx
    refine ⟨y, ?_, hk⟩
    rw [ho, hc, List.take_of_length_le (by rw [List.length_drop]; omega)] at hy
    exact hy
  | @cons f fs off a b ho hc h hs ih =>
    obtain ⟨x, hx⟩ := hf 0 _ rfl
    obtain ⟨y, hy, hk⟩ := h enc W n _ x hx
    have hlen' : cs.length = off + a.size + b.size := by rw [hlen]; exact (Nat.add_assoc _ _ _).symm
    obtain ⟨z, hz, hkz⟩ := ih hlen' (fun i g hg => hf (i + 1) g hg)
    refine ⟨(y, z), ⟨(cs.drop off).take a.size, cs.drop (off + a.size), ?_, ?_, hz⟩, hk, hkz⟩
    · rw [← List.drop_drop, List.take_append_drop]
    · rw [ho, hc] at hy; exact hy
theorem TS.struct {P : Program} {t : TypeId} {fs : Array Field} {τ : Ty} (hu : P.underlying t = some (.struct fs)) (hc : P.cellsOf t = τ.size) (h : TSs P fs.toList 0 τ) : TS P t τ := by
  intro H enc W fuel cs x hx
  obtain ⟨xs, n, _, _, hl, hxl, hfs⟩ := DataW.trod_struct hu hx
  obtain ⟨y, hy, hk⟩ := h.read enc W n cs (by rw [hl, hc, Nat.zero_add]) (fun i g hg => by
    have hg' : fs[i]? = some g := by rw [← Array.getElem?_toList]; exact hg
    have := hfs i g hg'
    have hi : i < xs.length := by
      have := (Array.getElem?_eq_some_iff.1 hg').1
      omega
    exact ⟨xs[i], by rw [this, List.getElem?_eq_getElem hi]⟩)
  rw [List.drop_zero] at hy
  exact ⟨y, hy, hk⟩
/-! ### By computation -/
def tsFields (P : Program) (ok : TypeId → Ty → Bool) : List Field → Nat → Ty → Bool
  | [], _, _ => false
  | [f], off, τ => decide (f.offset = off) && (decide (P.cellsOf f.type = τ.size) && ok f.type τ)
  | f :: fs, off, .pair a b => decide (f.offset = off) && (decide (P.cellsOf f.type = a.size) && (ok f.type a && tsFields P ok fs (off + a.size) b))
  | _ :: _, _, _ => false
def tsOk (P : Program) : Nat → TypeId → Ty → Bool
  | 0, _, _ => false
  | n + 1, t, τ => match P.underlying t with
    | some (.int k) => decide (τ = .int k)
    | some .bool => decide (τ = .bool)
    | some .string => decide (τ = .str)
    | some (.slice e) => match τ with
      | .sl a => decide (P.cellsOf e = a.size) && (decide (0 < a.size) && tsOk P n e a)
      | _ => false
    | some (.struct fs) => decide (P.cellsOf t = τ.size) && tsFields P (tsOk P n) fs.toList 0 τ
    | _ => false
theorem tsFields_ok {P : Program} {ok : TypeId → Ty → Bool} (hok : ∀ t τ, ok t τ = true → TS P t τ) : ∀ {fs : List Field} {off : Nat} {τ : Ty}, tsFields P ok fs off τ = true → TSs P fs off τ
  | [], _, _, h => by cases h
  | [f], off, τ, h => by
    simp only [tsFields, Bool.and_eq_true, decide_eq_true_eq] at h
    exact .one h.1 h.2.1 (hok _ _ h.2.2)
  | f :: g :: fs, off, τ, h => by
    cases τ with
    | pair a b =>
      simp only [tsFields, Bool.and_eq_true, decide_eq_true_eq] at h
      exact .cons h.1 h.2.1 (hok _ _ h.2.2.1) (tsFields_ok hok h.2.2.2)
    | _ => simp [tsFields] at h
theorem tsOk_ok {P : Program} : ∀ {n : Nat} {t : TypeId} {τ : Ty}, tsOk P n t τ = true → TS P t τ
  | 0, _, _, h => by cases h
  | n + 1, t, τ, h => by
    simp only [tsOk] at h
    split at h
    · rename_i k hu; simp only [decide_eq_true_eq] at h; subst h; exact TS.int hu
    · rename_i hu; simp only [decide_eq_true_eq] at h; subst h; exact TS.bool hu
    · rename_i hu; simp only [decide_eq_true_eq] at h; subst h; exact TS.string hu
    · rename_i e hu
      split at h
      · rename_i a
        simp only [Bool.and_eq_true, decide_eq_true_eq] at h
        exact TS.slice hu h.1 h.2.1 (tsOk_ok h.2.2)
      · cases h
    · rename_i fs hu
      simp only [Bool.and_eq_true, decide_eq_true_eq] at h
      exact TS.struct hu h.1 (tsFields_ok (fun t τ => tsOk_ok) h.2)
    · cases h
end Go.Proofs.YtnceiegngfpmkaaAm
namespace Go.Proofs.YtnceiegngfpmkaaAm
set_option linter.unusedVariables false

/-! ### Loops -/
theorem loopD_up {D E : Type} {f : D → Option (D ⊕ E)} {d : D} {e : E} (st : Nat → D) (n : Nat) (h0 : d = st 0) (hs : ∀ i, i < n → f (st i) = some (.inl (st (i + 1)))) (he : f (st n) = some (.inr e)) : loopD f d = some e := by
  subst h0
  have : ∀ k, k ≤ n → loopD f (st (n - k)) = some e := by
    intro k
    induction k with
    | zero => intro _; exact loopD_end he
    | succ k ih =>
      intro hk
      rw [loopD_next (hs (n - (k + 1)) (by omega))]
      rw [show n - (k + 1) + 1 = n - k by omega]
      exact ih (by omega)
  have := this n (Nat.le_refl n)
  rwa [Nat.sub_self] at this
/-- A loop whose measure falls. -/
theorem loopD_rec {D E : Type} {f : D → Option (D ⊕ E)} (P : D → E → Prop) (I : D → Prop) (μ : D → Nat)
    (h : ∀ d, I d → (∃ d', f d = some (.inl d') ∧ I d' ∧ μ d' < μ d ∧ ∀ e, P d' e → P d e) ∨ ∃ e, f d = some (.inr e) ∧ P d e) : ∀ {d : D}, I d → ∃ e, loopD f d = some e ∧ P d e := by
  intro d hd
  generalize hm : μ d = m
  induction m using Nat.strongRecOn generalizing d with
  | _ m ih =>
    rcases h d hd with ⟨d', h1, h2, h3, h4⟩ | ⟨e, h1, h2⟩
    · obtain ⟨e, h5, h6⟩ := ih (μ d') (by omega) h2 rfl
      exact ⟨e, by rw [loopD_next h1]; exact h5, h4 e h6⟩
    · exact ⟨e, loopD_end h1, h2⟩
/-! ### Numbers -/
theorem W_id {n : Int} (h1 : -9223372036854775808 ≤ n) (h2 : n ≤ 9223372036854775807) : IntKind.i64.wrap n = n := by
  have e : IntKind.i64.wrap n = if n % 18446744073709551616 ≥ 9223372036854775808 then n % 18446744073709551616 - 18446744073709551616 else n % 18446744073709551616 := by
    show (if (true && decide (n % 18446744073709551616 ≥ 9223372036854775808)) = true then n % 18446744073709551616 - 18446744073709551616 else n % 18446744073709551616) = _
    simp only [Bool.true_and, decide_eq_true_eq]
  rw [e]
  split <;> omega
/-! ### Rows that are copied -/
theorem take_set_map {α β : Type} (g : α → β) (y : List α) (out : List β) (i : Nat) (h : i < y.length) (hl : out.length = y.length) (hp : out.take i = (y.take i).map g) :
    (out.set i (g y[i])).take (i + 1) = (y.take (i + 1)).map g := by
  apply List.ext_getElem?
  intro j
  have hp' : ∀ j, j < i → out[j]? = (y[j]?).map g := fun j hj => by
    have := congrArg (fun l => l[j]?) hp
    simpa [List.getElem?_take, hj] using this
  simp only [List.getElem?_take, List.getElem?_map, List.getElem?_set]
  by_cases h1 : j < i + 1
  · rw [if_pos h1, if_pos h1]
    by_cases h2 : i = j
    · subst h2
      simp [hl, h]
    · rw [if_neg h2]
      exact hp' j (by omega)
  · rw [if_neg h1, if_neg h1]; rfl
theorem copy_loop {α β : Type} {f : Int × List β → Option ((Int × List β) ⊕ List β)} (y : List α) (g : α → β) (d0 : β)
    (hs : ∀ (i : Nat) (h : i < y.length) (out : List β), out.length = y.length → f ((i : Int), out) = some (.inl (((i + 1 : Nat) : Int), out.set i (g y[i]))))
    (he : ∀ out, f ((y.length : Int), out) = some (.inr out)) : loopD f (0, List.replicate y.length d0) = some (y.map g) := by
  obtain ⟨e, h1, h2⟩ := loopD_rec (f := f) (P := fun _ e => e = y.map g) (I := fun d => ∃ i : Nat, d.1 = (i : Int) ∧ i ≤ y.length ∧ d.2.length = y.length ∧ d.2.take i = (y.take i).map g) (μ := fun d => y.length - d.1.toNat)
    (fun d hd => by
      obtain ⟨i, h1, h2, h3, h4⟩ := hd
      obtain ⟨di, out⟩ := d
      simp only at h1 h3 h4
      subst h1
      by_cases hi : i < y.length
      · left
        refine ⟨_, hs i hi out h3, ⟨i + 1, rfl, hi, by simpa using h3, take_set_map g y out i hi h3 h4⟩, by simp; omega, fun e h => h⟩
      · right
        have : i = y.length := by omega
        subst this
        refine ⟨out, he out, ?_⟩
        rw [List.take_of_length_le (by omega), List.take_length] at h4
        exact h4) (d := (0, List.replicate y.length d0)) ⟨0, rfl, by omega, by simp, by simp⟩
  rw [h1, h2]
/-- A loop that looks for an element. -/
theorem find_loop {α E1 : Type} {f : Int → Option (Int ⊕ (E1 ⊕ Unit))} (y : List α) (p : α → Bool) (g : Nat → E1)
    (hs : ∀ (i : Nat) (h : i < y.length), f (i : Int) = some (if p y[i] then .inr (.inl (g i)) else .inl ((i + 1 : Nat) : Int)))
    (he : f (y.length : Int) = some (.inr (.inr ()))) : loopD f 0 = some (match y.findIdx? p with
      | some i => .inl (g i)
      | none => .inr ()) := by
  have : ∀ k i, i + k = y.length → loopD f (i : Int) = some (match (y.drop i).findIdx? p with
      | some j => .inl (g (i + j))
      | none => .inr ()) := by
    intro k
    induction k with
    | zero =>
      intro i hi
      have : i = y.length := by omega
      subst this
      rw [loopD_end he]
      simp
    | succ k ih =>
      intro i hi
      have hlt : i < y.length := by omega
      have h1 := hs i hlt
      rw [List.drop_eq_getElem_cons hlt, List.findIdx?_cons]
      by_cases hp : p y[i] = true
      · rw [if_pos hp] at h1
        rw [loopD_end h1, if_pos hp]
        simp
      · rw [if_neg hp] at h1
        rw [loopD_next h1, if_neg hp, ih (i + 1) (by omega)]
        cases (y.drop (i + 1)).findIdx? p with
        | none => rfl
        | some j =>
          show some (Sum.inl (g (i + 1 + j))) = some (Sum.inl (g (i + (j + 1))))
          rw [show i + 1 + j = i + (j + 1) by omega]
  have h := this y.length 0 (by omega)
  simpa using h
theorem find_loop_any {f : Int → Option (Int ⊕ (Bool ⊕ Unit))} {α : Type} (y : List α) (p : α → Bool)
    (hs : ∀ (i : Nat) (h : i < y.length), f (i : Int) = some (if p y[i] then .inr (.inl true) else .inl ((i + 1 : Nat) : Int)))
    (he : f (y.length : Int) = some (.inr (.inr ()))) : loopD f 0 = some (if y.any p then .inl true else .inr ()) := by
  rw [find_loop y p (fun _ => true) hs he]
  congr 1
  cases h : y.findIdx? p with
  | none =>
    have := List.findIdx?_eq_none_iff.1 h
    rw [if_neg (by simp only [List.any_eq_true, not_exists, not_and]; intro x hx; simp [this x hx])]
  | some i =>
    have := List.findIdx?_isSome (xs := y) (p := p)
    rw [h] at this
    have h2 : y.any p = true := this.symm
    rw [if_pos h2]
theorem getD_lt {α : Type} {l : List α} {i : Nat} (h : i < l.length) (d : α) : l.getD i d = l[i] := by
  rw [List.getD_eq_getElem?_getD, List.getElem?_eq_getElem h]; rfl
/-! ### Marks -/
def marksL {α : Type} (mk : α → Int → α) (sz : α → Int) : List α → Int → List α
  | [], _ => []
  | a :: l, k => mk a k :: marksL mk sz l (k + sz a)
def szL {α : Type} (sz : α → Int) : List α → Int
  | [] => 0
  | a :: l => sz a + szL sz l
theorem marksL_length {α : Type} (mk : α → Int → α) (sz : α → Int) : ∀ (l : List α) (k : Int), (marksL mk sz l k).length = l.length
  | [], _ => rfl
  | a :: l, k => by simp [marksL, marksL_length mk sz l]
theorem szL_nonneg {α : Type} {sz : α → Int} (h : ∀ a, 0 ≤ sz a) : ∀ l : List α, 0 ≤ szL sz l
  | [] => by simp [szL]
  | a :: l => by have := h a; have := szL_nonneg h l; simp [szL]; omega
/-- A loop that marks. -/
theorem mark_loop {α : Type} {f : Int × Int × List α → Option ((Int × Int × List α) ⊕ (Int × List α))} {mk : α → Int → α} {sz : α → Int} (hsz : ∀ a, 0 ≤ sz a) (B : Int) (l0 : List α)
    (hs : ∀ (k : Int) (i : Nat) (l : List α) (h : i < l.length), l.length = l0.length → l[i] ∈ l0 → 0 ≤ k → k + sz l[i] ≤ B → f (k, (i : Int), l) = some (.inl (k + sz l[i], ((i + 1 : Nat) : Int), l.set i (mk l[i] k))))
    (he : ∀ (k : Int) (l : List α), l.length = l0.length → f (k, (l.length : Int), l) = some (.inr (k, l))) {k : Int} (hk : 0 ≤ k) (hB : k + szL sz l0 ≤ B) : loopD f (k, 0, l0) = some (k + szL sz l0, marksL mk sz l0 k) := by
  have : ∀ (suf pre : List α) (k : Int), (pre ++ suf).length = l0.length → (∀ a ∈ suf, a ∈ l0) → 0 ≤ k → k + szL sz suf ≤ B → loopD f (k, (pre.length : Int), pre ++ suf) = some (k + szL sz suf, pre ++ marksL mk sz suf k) := by
    intro suf
    induction suf with
    | nil =>
      intro pre k hl _ hk hB
      simp only [List.append_nil, szL, marksL, Int.add_zero] at hl ⊢
      exact loopD_end (he k pre hl)
    | cons a suf ih =>
      intro pre k hl hm hk hB
      have h1 := hs k pre.length (pre ++ a :: suf) (by simp) hl (by simp only [List.getElem_append_right (Nat.le_refl _), Nat.sub_self, List.getElem_cons_zero]; exact hm a (by simp)) hk (by
        have := szL_nonneg hsz suf
        simp only [List.getElem_append_right (Nat.le_refl _), Nat.sub_self, List.getElem_cons_zero, szL] at hB ⊢
        omega)
      simp only [List.getElem_append_right (Nat.le_refl _), Nat.sub_self, List.getElem_cons_zero] at h1
      rw [loopD_next h1]
      have e : (pre ++ a :: suf).set pre.length (mk a k) = (pre ++ [mk a k]) ++ suf := by
        rw [List.set_append_right _ _ (Nat.le_refl _)]; simp
      rw [e, show ((pre.length + 1 : Nat) : Int) = ((pre ++ [mk a k]).length : Int) by simp]
      rw [ih (pre ++ [mk a k]) (k + sz a) (by rw [← hl]; simp) (fun b hb => hm b (by simp [hb])) (by have := hsz a; omega) (by simp only [szL] at hB; omega)]
      simp [szL, marksL, Int.add_assoc]
  have := this l0 [] k rfl (fun a h => h) hk hB
  simpa using this
/-- A loop that looks at the marks. -/
theorem held_loop {α : Type} {f : Int × Int → Option ((Int × Int) ⊕ (Int ⊕ Int))} {mk : α → Int → α} {sz : α → Int} (hsz : ∀ a, 0 ≤ sz a) (B : Int) {y : List α}
    (l : List α) (hs : ∀ (k : Int) (i : Nat) (h : i < y.length) (a : α), a ∈ l → 0 ≤ k → k + sz a ≤ B → y[i] = mk a k → f (k, (i : Int)) = some (.inl (k + sz a, ((i + 1 : Nat) : Int))))
    (he : ∀ (k : Int), f (k, (y.length : Int)) = some (.inr (.inr k))) {k : Int} (hk : 0 ≤ k) (hB : k + szL sz l ≤ B) (hy : y = marksL mk sz l k) : loopD f (k, 0) = some (.inr (k + szL sz l)) := by
  have : ∀ (suf : List α) (pre : List α) (k : Int), (∀ a ∈ suf, a ∈ l) → 0 ≤ k → k + szL sz suf ≤ B → y = pre ++ marksL mk sz suf k → loopD f (k, (pre.length : Int)) = some (.inr (k + szL sz suf)) := by
    intro suf
    induction suf with
    | nil =>
      intro pre k hm hk hB hy
      simp only [marksL, List.append_nil] at hy
      subst hy
      simp only [szL, Int.add_zero]
      exact loopD_end (he k)
    | cons a suf ih =>
      intro pre k hm hk hB hy
      have hlt : pre.length < y.length := by rw [hy]; simp [marksL]
      have hget : y[pre.length] = mk a k := by
        simp [hy, marksL]
      have h1 := hs k pre.length hlt a (hm a (by simp)) hk (by have := szL_nonneg hsz suf; simp only [szL] at hB; omega) hget
      rw [loopD_next h1, show ((pre.length + 1 : Nat) : Int) = ((pre ++ [mk a k]).length : Int) by simp]
      rw [ih (pre ++ [mk a k]) (k + sz a) (fun b hb => hm b (by simp [hb])) (by have := hsz a; omega) (by simp only [szL] at hB; omega) (by rw [hy]; simp [marksL])]
      simp [szL, Int.add_assoc]
  have := this l [] k (fun a h => h) hk hB (by simpa using hy)
  simpa using this
end Go.Proofs.YtnceiegngfpmkaaAm
