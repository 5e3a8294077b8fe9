/-
  Contracts: may an event be, by the document (newsstandref14.Check), kind by kind.
-/
import Derived.Test.YtjbifjgeheigoaaGreatGa13
import Derived.Deep.Cut
import Derived.Deep.CutRange
import Derived.Deep.DeepCutAuto
set_option linter.unusedVariables false
set_option linter.unusedSimpArgs false
namespace Go.Proofs.YtjbifjgeheigoaaGreat
open Go.RowKit Go.Lib

theorem evEqL (e e' : Ev) : decide (e = e') = (decide (e.kind = e'.kind) && (decide (e.a = e'.a) && (decide (e.b = e'.b) && (decide (e.n = e'.n) && (decide (e.s.toList = e'.s.toList) && (decide (e.t.toList = e'.t.toList) && decide (e.u.toList = e'.u.toList))))))) := by
  rw [evEq_iff]
  simp only [toList_inj]
theorem placeL (s : ByteArray) : placeOk s = (!s.toList.isEmpty && linkOk s) := by
  unfold placeOk
  by_cases h : s = eS
  · subst h
    simp [eS_list]
  · have := mt toList_nil.1 h
    simp [h, this]
theorem ev_cells2 {w W : World} {k a b n k' a' b' n' : Int} {s t u s' t' u' : ByteArray} (h : Frm Nix ((w.alloc (.cells #[.int .i64 k, .int .i64 a, .int .i64 b, .int .i64 n, .string s, .string t, .string u] 38)).alloc (.cells #[.int .i64 k', .int .i64 a', .int .i64 b', .int .i64 n', .string s', .string t', .string u'] 38)) W) :
    Blk W w.heap.size 38 #[.int .i64 k, .int .i64 a, .int .i64 b, .int .i64 n, .string s, .string t, .string u] ∧ Blk W (w.heap.size + 1) 38 #[.int .i64 k', .int .i64 a', .int .i64 b', .int .i64 n', .string s', .string t', .string u'] := by
  have hb1 := ((Blk.new w 38 #[.int .i64 k, .int .i64 a, .int .i64 b, .int .i64 n, .string s, .string t, .string u]).alloc (.cells #[.int .i64 k', .int .i64 a', .int .i64 b', .int .i64 n', .string s', .string t', .string u'] 38)).frm h id
  have hb2 := (Blk.new (w.alloc (.cells #[.int .i64 k, .int .i64 a, .int .i64 b, .int .i64 n, .string s, .string t, .string u] 38)) 38 #[.int .i64 k', .int .i64 a', .int .i64 b', .int .i64 n', .string s', .string t', .string u']).frm h id
  simp at hb2
  exact ⟨hb1, hb2⟩

set_option maxRecDepth 100000 in
set_option maxHeartbeats 8000000 in
theorem rCheck0_any (k a b n : Int) (s t u : ByteArray) (w : World) (hk : ¬ (1 ≤ k ∧ k ≤ 13)) : Calls Tryz.prog 89 #[evV ⟨k, a, b, n, s, t, u⟩] w fun r w' => r = .returned (.bool false) ∧ Frm Nix w w' := by
  have HF : Hid (Frm Nix w ((w.alloc (.cells #[.int .i64 k, .int .i64 a, .int .i64 b, .int .i64 n, .string s, .string t, .string u] 38)).alloc (.cells #[.int .i64 k, .int .i64 a, .int .i64 0, .int .i64 0, .string { data := #[] }, .string { data := #[] }, .string { data := #[] }] 38))) := ((Frm.refl Nix w).alloc _).alloc _
  have b1 : (k == 1) = false := by simp; omega
  have b2 : (k == 2) = false := by simp; omega
  have b3 : (k == 3) = false := by simp; omega
  have b4 : (k == 4) = false := by simp; omega
  have b5 : (k == 5) = false := by simp; omega
  have b6 : (k == 6) = false := by simp; omega
  have b7 : (k == 7) = false := by simp; omega
  have b8 : (k == 8) = false := by simp; omega
  have b9 : (k == 9) = false := by simp; omega
  have b10 : (k == 10) = false := by simp; omega
  have b11 : (k == 11) = false := by simp; omega
  have b12 : (k == 12) = false := by simp; omega
  have b13 : (k == 13) = false := by simp; omega
  clear hk
  unfold evV
  go_enter Tryz.func89, Tryz.ntmps89
  go_wp2_with (go_at_call 142; refine (rId_any _ _).mono ?_; rintro e w' ⟨rfl, rfl⟩)
  all_goals
    subst_vars
    go_ret
    exact ⟨rfl, HF.out⟩

end Go.Proofs.YtjbifjgeheigoaaGreat
