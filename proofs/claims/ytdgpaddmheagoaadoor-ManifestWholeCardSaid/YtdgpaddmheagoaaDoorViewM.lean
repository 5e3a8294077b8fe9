/-
  What a manifest handed to a law holds, read off the form's own reading of it.
-/
import Derived.Test.YtdgpaddmheagoaaDoorView
import Derived.Test.YtdgpaddmheagoaaDoorMA
namespace Go.Proofs.YtdgpaddmheagoaaDoor
open Go.ChangeShapes Go.WideShapes Go.ChangeAt Go.RowKit Go.Deep

section
variable {H : Type} {enc : TypeId × Value → H} {W : World} {base : Nat} {sp : Nat → Bool} {held : Bool} {fuel : Nat} {cs : List Value} {x : DataW H × List MemPlace}

theorem list3 {α : Type} {l : List α} (h : l.length = 3) : ∃ a b c, l = [a, b, c] := by
  match l, h with
  | [a, b, c], _ => exact ⟨a, b, c, rfl⟩

theorem vMan (h : DataW.trod enc Tryd.prog W base sp held fuel 24 cs = some x) : ∃ (m : Man) (A : Option Addr) (c : Nat), cs = [.int .i64 m.gen, .int .i64 m.snap, .slice A m.segs.length c] ∧ ManIn W (OldB W) m A c := by
  have hC : Tryd.prog.cellsOf 24 = 3 := by kernel_rfl
  obtain ⟨xs, n, -, -, hlen, hxl, hg⟩ := DataW.trod_struct Tryd.underlying24 h
  rw [hC] at hlen
  obtain ⟨c0, c1, c2, rfl⟩ := list3 hlen
  obtain ⟨y0, h0⟩ := field_of (i := 0) hg hxl rfl rfl one_int rfl rfl
  obtain ⟨y1, h1⟩ := field_of (i := 1) hg hxl rfl rfl one_int rfl rfl
  obtain ⟨y2, h2⟩ := field_of (i := 2) hg hxl rfl rfl one_ints rfl rfl
  obtain ⟨a, e0, w0⟩ := vInt h0
  obtain ⟨b, e1, w1⟩ := vInt h1
  obtain ⟨A, n', c, l, e2, w2, r2, -, l2, m2, v2⟩ := vInts h2
  injection e0 with e0; injection e1 with e1; injection e2 with e2
  subst e0; subst e1; subst e2; subst w2
  exact ⟨⟨a, b, l⟩, A, c, rfl, ⟨w0.1, w0.2, w1.1, w1.2, r2, l2, m2, v2⟩⟩
end
end Go.Proofs.YtdgpaddmheagoaaDoor
