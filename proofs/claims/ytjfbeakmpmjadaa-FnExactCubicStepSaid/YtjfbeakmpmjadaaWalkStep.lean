/- The law FnExactCubicStep over what its arguments read as. -/
import Derived.Test.YtjfbeakmpmjadaaCub3
namespace Go.Proofs.Ytjfbeakmpmjadaa.PWin
open Go.RowKit Go.Proofs.YtjfbeakmpmjadaaW.PrintWords Go.Proofs.YtjfbeakmpmjadaaW.PrintLast Go.Proofs.YtjfbeakmpmjadaaW.PrintMore
structure S23 where
  f0 : Int
  f1 : Int
  f2 : Int
  f3 : Int
  f4 : Int
  f5 : Int
  f6 : Int
def k23 : Kd S23 := Kd.iso (Kd.pair (Kd.int .i64) (Kd.pair (Kd.int .i64) (Kd.pair (Kd.int .i64) (Kd.pair (Kd.int .i64) (Kd.pair (Kd.int .i64) (Kd.pair (Kd.int .i64) (Kd.int .i64))))))) (fun x : S23 => (x.f0, x.f1, x.f2, x.f3, x.f4, x.f5, x.f6))
theorem k23_open {w : World} {x : S23} {cs : List Value} (h : k23.K w x cs) : cs = [.int .i64 x.f0, .int .i64 x.f1, .int .i64 x.f2, .int .i64 x.f3, .int .i64 x.f4, .int .i64 x.f5, .int .i64 x.f6] := by
  obtain ⟨_, _, rfl, rfl, ⟨_, _, rfl, rfl, ⟨_, _, rfl, rfl, ⟨_, _, rfl, rfl, ⟨_, _, rfl, rfl, ⟨_, _, rfl, rfl, rfl⟩⟩⟩⟩⟩⟩ := h
  exact rfl

end Go.Proofs.Ytjfbeakmpmjadaa.PWin
namespace Go.Proofs.Ytjfbeakmpmjadaa
open Go.RowKit Go.Proofs.YtjfbeakmpmjadaaW.PrintWords
theorem PWin.walk_FnExactCubicStep (W : World) (cs0 : Array Value) (y0 : PWin.S23) (hK0 : PWin.k23.K W y0 cs0.toList) (ok0 : ((Lit.int .i64 y0.f0).wf = true ∧ (Lit.int .i64 y0.f1).wf = true ∧ (Lit.int .i64 y0.f2).wf = true ∧ (Lit.int .i64 y0.f3).wf = true ∧ (Lit.int .i64 y0.f4).wf = true ∧ (Lit.int .i64 y0.f5).wf = true ∧ (Lit.int .i64 y0.f6).wf = true)) (cs1 : Array Value) (y1 : PWin.S25) (hK1 : PWin.k25.K W y1 cs1.toList) (ok1 : ((Lit.int .i64 y1.f0).wf = true ∧ (Lit.int .i64 y1.f1).wf = true)) :
    Calls Try.prog 3 #[.agg cs0, .agg cs1] W fun e w' => e = .returned (.bool true) ∧ Below W.heap.size W w' := by
  obtain ⟨cs0, rfl⟩ : ∃ l : List Value, cs0 = l.toArray := ⟨cs0.toList, by simp⟩
  obtain ⟨cs1, rfl⟩ : ∃ l : List Value, cs1 = l.toArray := ⟨cs1.toList, by simp⟩
  obtain rfl := PWin.k23_open hK0
  obtain rfl := PWin.k25_open hK1
  exact PWin.laws_FnExactCubicStep.callsT 2001 _ _ _ _ _ _ _ _ _ W (Pure.stepLaw _ _ _ _ _ _ _ _ _)
end Go.Proofs.Ytjfbeakmpmjadaa
