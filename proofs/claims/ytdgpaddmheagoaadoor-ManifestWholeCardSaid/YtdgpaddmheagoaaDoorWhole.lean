/-
  A power cut in the midst of a switch leaves the old manifest, or the new one, whole: ManifestWhole answers true for every input. Its card: the table of the sum by halves of bytes is tied to the program's text.
-/
import Derived.Test.YtdgpaddmheagoaaDoorMI
import Derived.Test.YtdgpaddmheagoaaDoorWholeM
import Derived.Test.YtdgpaddmheagoaaDoorViewM
import Derived.Test.YtdgpaddmheagoaaDoorTie
import Derived.Test.YtdgpaddmheagoaaDoorLaid
import Derived.Test.YtdgpaddmheagoaaDoorCards
import Derived.LaidMore
import Derived.OpenShut
import Derived.Lib.LaidTab
import Derived.SevenTiedAt
namespace Go.Proofs.YtdgpaddmheagoaaDoor
open Go.ChangeShapes Go.WideShapes Go.ChangeAt Go.RowKit
set_option linter.unusedVariables false
set_option linter.unusedSimpArgs false

namespace manifestWhole
/-- two manifests in memory of their own, behind a law's first step. -/
structure At (w W : World) (m o : Man) (A A' : Option Addr) (c c' : Nat) : Prop where
  f : Frm Nix w W
  a : Blk W w.heap.size 24 #[.int .i64 m.gen, .int .i64 m.snap, .slice A m.segs.length c]
  b : Blk W (w.heap.size + 1) 24 #[.int .i64 o.gen, .int .i64 o.snap, .slice A' o.segs.length c']
/-- and a disk. -/
structure DW (w W : World) (m o : Man) (A A' : Option Addr) (c c' : Nat) (g : Nat) (D : Dsk) (F : Nat → Prop) : Prop where
  t : At w W m o A A' c c'
  d : Dk W (w.heap.size + 2) g F D
section
variable {w W W1 : World} {m o : Man} {A A' : Option Addr} {c c' g : Nat} {D D1 : Dsk} {F F1 : Nat → Prop}
theorem At.nix (h : At w W m o A A' c c') (hf : Frm Nix W W1) : At w W1 m o A A' c c' :=
  ⟨h.f.trans hf, h.a.frm hf id, h.b.frm hf id⟩
theorem DW.nix (h : DW w W m o A A' c c' g D F) (hf : Frm Nix W W1) : DW w W1 m o A A' c c' g D F := ⟨h.t.nix hf, h.d.nix hf⟩
theorem DW.step (h : DW w W m o A A' c c' g D F) (hd : Dk W1 (w.heap.size + 2) g F1 D1) (hf : Frm F W W1) : DW w W1 m o A A' c c' g D1 F1 := by
  refine ⟨⟨h.t.f.next hf fun k hk => .inr ?_, h.t.a.frm hf fun hk => ?_, h.t.b.frm hf fun hk => ?_⟩, hd⟩
  · have := (h.d.lo k hk).1; omega
  · have := (h.d.lo _ hk).1; omega
  · have := (h.d.lo _ hk).1; omega
theorem DW.old (h : DW w W m o A A' c c' g D F) : ∀ k, OldB w k → ¬ F k := fun k hk hF => by
  have := (h.d.lo k hF).1
  unfold OldB at hk
  omega
theorem DW.glo (h : DW w W m o A A' c c' g D F) (ht : Tab w) : 0 < w.heap.size + 2 := by
  have := ht.lt
  omega
end

set_option maxRecDepth 100000 in
set_option maxHeartbeats 8000000 in
theorem walk (m : Man) (A : Option Addr) (c : Nat) (o : Man) (A' : Option Addr) (c' : Nat) (stop : Int) (kA : Option Addr) (kn kc : Nat) (kl : List Int) (w : World) (h : ManIn w (OldB w) m A c) (h' : ManIn w (OldB w) o A' c')
    (hs : -9223372036854775808 ≤ stop ∧ stop ≤ 9223372036854775807) (hk : kl.length = kn ∧ Rd w (OldB w) 1 kA kn (ivs kl) ∧ NilOk kA kn kc ∧ kn ≤ kc ∧ kc ≤ maxLen ∧ ∀ k ∈ kl, -9223372036854775808 ≤ k ∧ k ≤ 9223372036854775807) (ht : Tab w) :
    Calls Tryd.prog 5 #[manV m A c, manV o A' c', .int .i64 stop, .slice kA kn kc] w fun e w' => e = .returned (.bool true) ∧ Frm Nix w w' := by
  have HT := Lib.hid ht
  have hA0 : At w ((w.alloc (.cells #[.int .i64 m.gen, .int .i64 m.snap, .slice A m.segs.length c] 24)).alloc (.cells #[.int .i64 o.gen, .int .i64 o.snap, .slice A' o.segs.length c'] 24)) m o A A' c c' := by
    refine ⟨((Frm.refl Nix w).alloc _).alloc _, (Blk.new w _ _).alloc _, ?_⟩
    have := Blk.new (w.alloc (.cells #[.int .i64 m.gen, .int .i64 m.snap, .slice A m.segs.length c] 24)) 24 #[.int .i64 o.gen, .int .i64 o.snap, .slice A' o.segs.length c']
    simpa using this
  have H0 := Lib.hid hA0
  have HM := Lib.hid h
  have HO := Lib.hid h'
  have HK := Lib.hid hk
  have hkl : kc ≤ 9223372036854775807 := by have := hk.2.2.2.2.1; unfold maxLen at this; omega
  have hkn : kn ≤ kc := hk.2.2.2.1
  have KL : Hid (∀ W, Frm Nix w W → Calls Tryd.prog 6 #[] W fun e w' => e = .returned (.bool true) ∧ Frm Nix W w') := fun W hW => lives_any W (HT.out.nix hW)
  have KC1 : Hid (∀ W, Frm Nix w W → Calls Tryd.prog 10 #[.agg #[.int .i64 m.gen, .int .i64 m.snap, .slice A m.segs.length c]] W fun e w' => e = .returned (.bool (manOk m)) ∧ Frm Nix W w') := fun W hW => rCheck_any m A c _ W (HM.out.nix hW)
  have KC2 : Hid (∀ W, Frm Nix w W → Calls Tryd.prog 10 #[.agg #[.int .i64 o.gen, .int .i64 o.snap, .slice A' o.segs.length c']] W fun e w' => e = .returned (.bool (manOk o)) ∧ Frm Nix W w') := fun W hW => rCheck_any o A' c' _ W (HO.out.nix hW)
  clear h h' ht hA0 hk
  unfold manV
  cases hom : manOk m with
  | false =>
    rw [hom] at KC1
    clear hom
    go_enter Tryd.func5, Tryd.ntmps5
    go_wp2_with fail
    refine (KC1.out _ H0.out.f).mono ?_
    rintro e w1 ⟨rfl, hf1⟩
    have H1 := Lib.hid (H0.out.nix hf1)
    clear hf1
    go_wp2_with (go_at_call 6; refine (KL.out _ H1.out.f).mono ?_; rintro e w2 ⟨rfl, hf2⟩)
    go_ret
    exact ⟨rfl, H1.out.f.trans hf2⟩
  | true =>
  rw [hom] at KC1
  cases hoo : manOk o with
  | false =>
    rw [hoo] at KC2
    clear hom hoo
    go_enter Tryd.func5, Tryd.ntmps5
    go_wp2_with fail
    refine (KC1.out _ H0.out.f).mono ?_
    rintro e w1 ⟨rfl, hf1⟩
    have H1 := Lib.hid (H0.out.nix hf1)
    have y0 := H1.out.b.cell 0
    have y1 := H1.out.b.cell 1
    have y2 := H1.out.b.cell 2
    simp at y0 y1 y2
    clear hf1
    go_wp2_with fail
    refine (KC2.out _ H1.out.f).mono ?_
    rintro e w2 ⟨rfl, hf2⟩
    have H2 := Lib.hid (H1.out.nix hf2)
    clear hf2
    go_wp2_with (go_at_call 6; refine (KL.out _ H2.out.f).mono ?_; rintro e w3 ⟨rfl, hf3⟩)
    go_ret
    exact ⟨rfl, H2.out.f.trans hf3⟩
  | true =>
  rw [hoo] at KC2
  by_cases hst : stop < 0
  · have hl : decide (stop < 0) = true := decide_eq_true hst
    clear hom hoo
    go_enter Tryd.func5, Tryd.ntmps5
    go_wp2_with fail
    refine (KC1.out _ H0.out.f).mono ?_
    rintro e w1 ⟨rfl, hf1⟩
    have H1 := Lib.hid (H0.out.nix hf1)
    have y0 := H1.out.b.cell 0
    have y1 := H1.out.b.cell 1
    have y2 := H1.out.b.cell 2
    simp at y0 y1 y2
    clear hf1
    go_wp2_with fail
    refine (KC2.out _ H1.out.f).mono ?_
    rintro e w2 ⟨rfl, hf2⟩
    have H2 := Lib.hid (H1.out.nix hf2)
    clear hf2
    go_wp2_with (go_at_call 6; refine (KL.out _ H2.out.f).mono ?_; rintro e w3 ⟨rfl, hf3⟩)
    go_ret
    exact ⟨rfl, H2.out.f.trans hf3⟩
  have hl : decide (stop < 0) = false := decide_eq_false hst
  have hlm := manPut_len (manOk_parts hom).2.2.2.2.2.1
  have hlo := manPut_len (manOk_parts hoo).2.2.2.2.2.1
  obtain ⟨hcd, hdd, hrd⟩ := whole_read (manPut m) (manPut o) stop hlm hlo (by omega) kl
  have hgm := manGet_put hom
  have hgo := manGet_put hoo
  rw [hgm, hgo] at hrd
  have KN : Hid (∀ W, At w W m o A A' c c' → w.heap.size + 2 ≤ W.heap.size → Calls Tryd.prog 15 #[.int .i64 1048576] W fun e w' => ∃ g F, e = .returned (.tuple #[.pointer (some ⟨g, 0, none⟩), .int .i64 0]) ∧ DW w w' m o A A' c c' g (dsk0 1048576) F) := fun W hW hz =>
    (New_yes 1048576 W (w.heap.size + 2) hz (by decide) (by decide)).mono fun e w' ⟨g, F, he, hd, hf, _⟩ => ⟨g, F, he, hW.nix hf, hd⟩
  have KS1 : Hid (∀ W g F, DW w W m o A A' c c' g (dsk0 1048576) F → Calls Tryd.prog 16 #[.pointer (some ⟨g, 0, none⟩), .agg #[.int .i64 m.gen, .int .i64 m.snap, .slice A m.segs.length c]] W fun e w' => e = .returned (.int .i64 0) ∧ ∃ F', DW w w' m o A A' c c' g (dOne (manPut m) (-1)) F') := fun W g F hW => by
    refine (pSwitch_yes hW.d m A c _ (HM.out.nix hW.t.f) hom (HT.out.nix hW.t.f) (hW.glo HT.out) hW.old (by decide)).mono ?_
    rintro e w' ⟨he, F', h1, h2, -⟩
    rw [sw_first _ hlm] at he h1
    exact ⟨he, F', hW.step h1 h2⟩
  have KST : Hid (∀ W g F, DW w W m o A A' c c' g (dOne (manPut m) (-1)) F → Calls Tryd.prog 17 #[.pointer (some ⟨g, 0, none⟩), .int .i64 stop] W fun e w' => e = .returned (.int .i64 0) ∧ ∃ F', DW w w' m o A A' c c' g (dOne (manPut m) stop) F') := fun W g F hW => by
    refine (Stop_any _ g F _ stop W hW.d hs.2).mono ?_
    rintro e w' ⟨he, h1, h2⟩
    rw [show (dOne (manPut m) (-1)).stop stop = (dOne (manPut m) stop, 0) by simp [Dsk.stop, dOne, hst]] at he h1
    exact ⟨he, F, hW.step h1 h2⟩
  have KS2 : Hid (∀ W g F, DW w W m o A A' c c' g (dOne (manPut m) stop) F → Calls Tryd.prog 16 #[.pointer (some ⟨g, 0, none⟩), .agg #[.int .i64 o.gen, .int .i64 o.snap, .slice A' o.segs.length c']] W fun e w' => e = .returned (.int .i64 (if stop < 3 then 30 else 0)) ∧ ∃ F', DW w w' m o A A' c c' g (swDsk (dOne (manPut m) stop) (manPut o)).1 F') := fun W g F hW => by
    refine (pSwitch_yes hW.d o A' c' _ (HO.out.nix hW.t.f) hoo (HT.out.nix hW.t.f) (hW.glo HT.out) hW.old (by show 3 < 4611686018427387000; decide)).mono ?_
    rintro e w' ⟨he, F', h1, h2, -⟩
    rw [hcd] at he
    exact ⟨he, F', hW.step h1 h2⟩
  generalize (swDsk (dOne (manPut m) stop) (manPut o)).1 = Dx at *
  have KCR : Hid (∀ W g F, DW w W m o A A' c c' g Dx F → Calls Tryd.prog 18 #[.pointer (some ⟨g, 0, none⟩), .slice kA kn kc] W fun e w' => e = .returned (.tuple #[]) ∧ ∃ F', DW w w' m o A A' c c' g (Dx.crash kl) F') := fun W g F hW => by
    refine (Crash_any hW.d kA kn kc kl HK.out.1 (by omega) (OldB w) (HK.out.2.1.frm hW.t.f fun _ _ => id) hW.old).mono ?_
    rintro e w' ⟨he, F', h1, h2, -⟩
    exact ⟨he, F', hW.step h1 h2⟩
  obtain ⟨cd, r, hcr, hcase⟩ : ∃ cd r, (if stop < 3 then (30 : Int) else 0) = cd ∧ rdDsk (Dx.crash kl) = (r, 0) ∧ manOk r = true ∧ (cd = 0 ∧ r = o ∨ cd = 30 ∧ r = m ∨ cd = 30 ∧ r = o) := by
    by_cases h3 : stop < 3
    · rcases hrd with ⟨h, -⟩ | h
      · exact ⟨30, m, if_pos h3, h, hom, .inr (.inl ⟨rfl, rfl⟩)⟩
      · exact ⟨30, o, if_pos h3, h, hoo, .inr (.inr ⟨rfl, rfl⟩)⟩
    · rcases hrd with ⟨_, h⟩ | h
      · exact absurd h h3
      · exact ⟨0, o, if_neg h3, h, hoo, .inl ⟨rfl, rfl⟩⟩
  obtain ⟨hrr, hor, hcase⟩ := hcase
  have KRD : Hid (∀ W g F, DW w W m o A A' c c' g (Dx.crash kl) F → Calls Tryd.prog 19 #[.pointer (some ⟨g, 0, none⟩)] W fun e w' => ∃ A1 c1, e = .returned (.tuple #[.agg #[.int .i64 r.gen, .int .i64 r.snap, .slice A1 r.segs.length c1], .int .i64 0]) ∧ At w w' m o A A' c c' ∧ ManIn w' (fun k => (Value.slice A1 r.segs.length c1).ownBlock = some k) r A1 c1) := fun W g F hW => by
    refine (pRead_any hW.d (HT.out.nix hW.t.f)).mono ?_
    rintro e w' ⟨A1, c1, he, hr⟩
    rw [hrr] at he hr
    exact ⟨A1, c1, he, hW.t.nix hr.frm, hr.manIn hor⟩
  have KSM : Hid (∀ W A1 c1 G, Frm Nix w W → ManIn W G r A1 c1 → Calls Tryd.prog 9 #[.agg #[.int .i64 r.gen, .int .i64 r.snap, .slice A1 r.segs.length c1], .agg #[.int .i64 m.gen, .int .i64 m.snap, .slice A m.segs.length c]] W fun e w' => e = .returned (.bool (manEq r m)) ∧ Frm Nix W w') := fun W A1 c1 G hW hm =>
    rSame_any r m A1 A c1 c _ _ W hm (HM.out.nix hW) (by have := (manOk_parts hor).2.2.2.2.2.1; omega) (by have := (manOk_parts hom).2.2.2.2.2.1; omega)
  have KSO : Hid (∀ W A1 c1 G, Frm Nix w W → ManIn W G r A1 c1 → Calls Tryd.prog 9 #[.agg #[.int .i64 r.gen, .int .i64 r.snap, .slice A1 r.segs.length c1], .agg #[.int .i64 o.gen, .int .i64 o.snap, .slice A' o.segs.length c']] W fun e w' => e = .returned (.bool (manEq r o)) ∧ Frm Nix W w') := fun W A1 c1 G hW hm =>
    rSame_any r o A1 A' c1 c' _ _ W hm (HO.out.nix hW) (by have := (manOk_parts hor).2.2.2.2.2.1; omega) (by have := (manOk_parts hoo).2.2.2.2.2.1; omega)
  rw [hcr] at KS2
  have hEQ : (cd = 0 ∧ manEq r o = true) ∨ (cd = 30 ∧ manEq r m = true) ∨ (cd = 30 ∧ manEq r m = false ∧ manEq r o = true) := by
    rcases hcase with ⟨h1, h2⟩ | ⟨h1, h2⟩ | ⟨h1, h2⟩
    · exact .inl ⟨h1, (manEq_iff r o).2 h2⟩
    · exact .inr (.inl ⟨h1, (manEq_iff r m).2 h2⟩)
    · cases he : manEq r m with
      | true => exact .inr (.inl ⟨h1, rfl⟩)
      | false => exact .inr (.inr ⟨h1, rfl, (manEq_iff r o).2 h2⟩)
  have HZ0 : Hid (w.heap.size + 2 ≤ ((w.alloc (.cells #[.int .i64 m.gen, .int .i64 m.snap, .slice A m.segs.length c] 24)).alloc (.cells #[.int .i64 o.gen, .int .i64 o.snap, .slice A' o.segs.length c'] 24)).heap.size) := by
    unfold Hid
    simp
  generalize manEq r o = bo at *
  generalize manEq r m = bm at *
  clear hom hoo hcase hlm hlo hcd hdd hrd hgm hgo hcr hrr hor hkl hkn hst
  generalize dOne (manPut m) stop = D2 at *
  generalize dOne (manPut m) (-1) = D1 at *
  generalize Dx.crash kl = D4 at *
  generalize dsk0 1048576 = D0 at *
  go_enter Tryd.func5, Tryd.ntmps5
  go_wp2_with fail
  refine (KC1.out _ H0.out.f).mono ?_
  rintro e w1 ⟨rfl, hf1⟩
  have H1 := Lib.hid (H0.out.nix hf1)
  have HZ1 := Lib.hid (Nat.le_trans HZ0.out hf1.size)
  have y0 := H1.out.b.cell 0
  have y1 := H1.out.b.cell 1
  have y2 := H1.out.b.cell 2
  simp at y0 y1 y2
  clear hf1
  go_wp2_with fail
  refine (KC2.out _ H1.out.f).mono ?_
  rintro e w2 ⟨rfl, hf2⟩
  have H2 := Lib.hid (H1.out.nix hf2)
  have HZ2 := Lib.hid (Nat.le_trans HZ1.out hf2.size)
  clear hf2
  go_wp2_with fail
  refine (KN.out _ H2.out HZ2.out).mono ?_
  rintro e w3 ⟨g, F3, rfl, hd3⟩
  have H3 := Lib.hid hd3
  clear hd3
  go_wp2_with fail
  refine (KL.out _ H3.out.t.f).mono ?_
  rintro e w4 ⟨rfl, hf4⟩
  have H4 := Lib.hid (H3.out.nix hf4)
  have x0 := H4.out.t.a.cell 0
  have x1 := H4.out.t.a.cell 1
  have x2 := H4.out.t.a.cell 2
  simp at x0 x1 x2
  clear hf4
  go_wp2_with fail
  refine (KS1.out _ g _ H4.out).mono ?_
  rintro e w5 ⟨rfl, F5, hd5⟩
  have H5 := Lib.hid hd5
  clear hd5
  go_wp2_with fail
  refine (KST.out _ g _ H5.out).mono ?_
  rintro e w6 ⟨rfl, F6, hd6⟩
  have H6 := Lib.hid hd6
  have y0 := H6.out.t.b.cell 0
  have y1 := H6.out.t.b.cell 1
  have y2 := H6.out.t.b.cell 2
  simp at y0 y1 y2
  clear hd6
  go_wp2_with fail
  refine (KS2.out _ g _ H6.out).mono ?_
  rintro e w7 ⟨rfl, F7, hd7⟩
  have H7 := Lib.hid hd7
  clear hd7
  go_wp2_with fail
  refine (KCR.out _ g _ H7.out).mono ?_
  rintro e w8 ⟨rfl, F8, hd8⟩
  have H8 := Lib.hid hd8
  clear hd8
  go_wp2_with fail
  refine (KRD.out _ g _ H8.out).mono ?_
  rintro e w9 ⟨A9, c9, rfl, ht9, hm9⟩
  have hfa : Frm Nix w9 (w9.alloc (.cells #[.int .i64 r.gen, .int .i64 r.snap, .slice A9 r.segs.length c9] 24)) := (Frm.refl Nix w9).alloc _
  have H9 : Hid (∀ W, Frm Nix (w9.alloc (.cells #[.int .i64 r.gen, .int .i64 r.snap, .slice A9 r.segs.length c9] 24)) W → (W.cell? ⟨w.heap.size, 0, none⟩ = some (.int .i64 m.gen) ∧ W.cell? ⟨w.heap.size, 1, none⟩ = some (.int .i64 m.snap) ∧ W.cell? ⟨w.heap.size, 2, none⟩ = some (.slice A m.segs.length c)) ∧ (W.cell? ⟨w.heap.size + 1, 0, none⟩ = some (.int .i64 o.gen) ∧ W.cell? ⟨w.heap.size + 1, 1, none⟩ = some (.int .i64 o.snap) ∧ W.cell? ⟨w.heap.size + 1, 2, none⟩ = some (.slice A' o.segs.length c')) ∧
      (W.cell? ⟨w9.heap.size, 0, none⟩ = some (.int .i64 r.gen) ∧ W.cell? ⟨w9.heap.size, 1, none⟩ = some (.int .i64 r.snap) ∧ W.cell? ⟨w9.heap.size, 2, none⟩ = some (.slice A9 r.segs.length c9)) ∧ Frm Nix w W ∧ ManIn W (fun k => (Value.slice A9 r.segs.length c9).ownBlock = some k) r A9 c9) := fun W hW => by
    have hb := (Blk.new w9 24 #[.int .i64 r.gen, .int .i64 r.snap, .slice A9 r.segs.length c9]).frm hW id
    have hf := hfa.trans hW
    have ha := ht9.nix hf
    exact ⟨⟨ha.a.cell 0, ha.a.cell 1, ha.a.cell 2⟩, ⟨ha.b.cell 0, ha.b.cell 1, ha.b.cell 2⟩, ⟨hb.cell 0, hb.cell 1, hb.cell 2⟩, ha.f, hm9.nix hf⟩
  obtain ⟨w10, hw10⟩ : ∃ w10, w10 = w9.alloc (.cells #[.int .i64 r.gen, .int .i64 r.snap, .slice A9 r.segs.length c9] 24) := ⟨_, rfl⟩
  have HW10 := Lib.hid hw10
  obtain ⟨⟨x0, x1, x2⟩, ⟨y0, y1, y2⟩, ⟨z0, z1, z2⟩, -, -⟩ := H9.out _ (Frm.refl Nix _)
  clear ht9 hm9 hfa hw10
  rcases hEQ with ⟨rfl, rfl⟩ | ⟨rfl, rfl⟩ | ⟨rfl, rfl, rfl⟩
  · go_wp2_with fail
    obtain ⟨-, -, -, q1, q2⟩ := H9.out _ (Frm.refl Nix _)
    refine (KSO.out _ A9 c9 _ q1 q2).mono ?_
    rintro e w11 ⟨rfl, hf11⟩
    have H11 := Lib.hid (q1.trans hf11)
    clear q1 q2 hf11
    go_wp2
    go_ret
    exact ⟨rfl, H11.out⟩
  · go_wp2_with fail
    obtain ⟨-, -, -, q1, q2⟩ := H9.out _ (Frm.refl Nix _)
    refine (KSM.out _ A9 c9 _ q1 q2).mono ?_
    rintro e w11 ⟨rfl, hf11⟩
    have H11 := Lib.hid (q1.trans hf11)
    clear q1 q2 hf11
    go_wp2
    go_ret
    exact ⟨rfl, H11.out⟩
  · go_wp2_with fail
    obtain ⟨-, -, -, q1, q2⟩ := H9.out _ (Frm.refl Nix _)
    refine (KSM.out _ A9 c9 _ q1 q2).mono ?_
    rintro e w11 ⟨rfl, hf11⟩
    obtain ⟨-, ⟨y0, y1, y2⟩, ⟨z0, z1, z2⟩, q3, q4⟩ := H9.out _ hf11
    have HQ := Lib.hid (And.intro q3 q4)
    clear q1 q2 q3 q4 hf11
    go_wp2_with fail
    refine (KSO.out _ A9 c9 _ HQ.out.1 HQ.out.2).mono ?_
    rintro e w12 ⟨rfl, hf12⟩
    have H12 := Lib.hid (HQ.out.1.trans hf12)
    clear hf12
    go_wp2
    go_ret
    exact ⟨rfl, H12.out⟩

theorem own : ownKnob Tryd.prog.godebug = none := by kernel_rfl
theorem laidOut : laidOutB Tryd.prog = true := by kernel_rfl

set_option maxRecDepth 100000 in
theorem lifted (os : Os) (started : os.Started) (H : Type) (enc : TypeId × Value → H) :
    ReturnsInHanded {} Tryd.checked os 5 .any (fun w args => (Rows.manifestWholeSpec.pre enc Tryd.prog Tryd.f5 [] false w args ∧ laidMetH Tryd.prog laid1 w) ∧ sizedMet enc Tryd.prog Tryd.f5 (OpenSpec.ofChange Rows.manifestWholeSpec) false w args)
      (Rows.manifestWholeSpec.post enc Tryd.prog Tryd.f5 false true false false) := by
  refine returnsInHanded_of_change_and (C := Tryd.checked) (X := fun w _ => laidMetH Tryd.prog laid1 w) (fun _ _ _ hh h => h.of_heap hh) own started (by kernel_rfl) Tryd.func5
    (ChangeSpec.witness_shaped (enc := enc) (C := Tryd.checked) (os := os) (X := fun w _ => laidMetH Tryd.prog laid1 w) false (World.doorLaid Tryd.prog 400 os) #[.agg #[.int .i64 0, .int .i64 0, .slice none 0 0], .agg #[.int .i64 0, .int .i64 0, .slice none 0 0], .int .i64 0, .slice none 0 0] 8 rfl (World.shaped_of_RefB (by kernel_rfl) (by kernel_rfl)) (by kernel_rfl) (by kernel_rfl) (by kernel_rfl) (door_met os _)) ?_
  intro W base args ds gs before hval0 hW _ _ hL _
  have hval : ∀ (j : Nat) t v, Tryd.f5.params[j]? = some t → args[j]? = some v → Value.okWide Tryd.prog W .any base t v := hval0
  have hW' := hW
  obtain ⟨p, q, hA0, hV, rfl, hfz, hnd⟩ := hW
  have hA : DataW.TrodAll enc Tryd.prog W 0 (fun _ => true) true Tryd.f5.params.toList args.toList ds p := hA0
  rw [Tryd.params5] at hA hval
  obtain ⟨v0, vs0, d0, ds0, p0, q0, hargs, rfl, rfl, h0, r0⟩ := trodAll_cons hA
  obtain ⟨v1, vs1, d1, ds1, p1, q1, rfl, rfl, rfl, h1, r1⟩ := trodAll_cons r0
  obtain ⟨v2, vs2, d2, ds2, p2, q2, rfl, rfl, rfl, h2, r2⟩ := trodAll_cons r1
  obtain ⟨v3, vs3, d3, ds3, p3, q3, rfl, rfl, rfl, h3, r3⟩ := trodAll_cons r2
  obtain ⟨rfl, rfl, rfl⟩ := trodAll_nil r3
  obtain rfl : args = #[v0, v1, v2, v3] := by cases args; simp_all
  obtain ⟨rfl, rfl⟩ := trodVars_none hV
  have k0 := h0
  have lt0 : ∀ x ∈ p0, x.block < W.heap.size := by obtain ⟨m, hm⟩ := k0; exact DataW.trod_lt m _ _ _ hm
  obtain ⟨m0, a0, c0, rfl, wx0⟩ : ∃ m A c, v0 = manV m A c ∧ ManIn W (OldB W) m A c := by
    obtain ⟨cs, rfl, -⟩ := okWide_struct Tryd.underlying24 (hval 0 24 v0 rfl rfl)
    obtain ⟨fuel, hf⟩ := h0
    obtain ⟨m, A, c, ho, hk⟩ := vMan hf
    exact ⟨m, A, c, by unfold manV; rw [← ho]; rfl, hk⟩
  have k1 := h1
  have lt1 : ∀ x ∈ p1, x.block < W.heap.size := by obtain ⟨m, hm⟩ := k1; exact DataW.trod_lt m _ _ _ hm
  obtain ⟨m1, a1, c1, rfl, wx1⟩ : ∃ m A c, v1 = manV m A c ∧ ManIn W (OldB W) m A c := by
    obtain ⟨cs, rfl, -⟩ := okWide_struct Tryd.underlying24 (hval 1 24 v1 rfl rfl)
    obtain ⟨fuel, hf⟩ := h1
    obtain ⟨m, A, c, ho, hk⟩ := vMan hf
    exact ⟨m, A, c, by unfold manV; rw [← ho]; rfl, hk⟩
  have k2 := h2
  have lt2 : ∀ x ∈ p2, x.block < W.heap.size := by obtain ⟨m, hm⟩ := k2; exact DataW.trod_lt m _ _ _ hm
  obtain ⟨x2, rfl, rfl, rfl, wx2⟩ := open_int Tryd.underlying3 (hval 2 3 v2 rfl rfl) h2
  have k3 := h3
  have lt3 : ∀ x ∈ p3, x.block < W.heap.size := by obtain ⟨m, hm⟩ := k3; exact DataW.trod_lt m _ _ _ hm
  obtain ⟨a3, n3, c3, l3, rfl, wx3⟩ : ∃ a n c, ∃ l : List Int, v3 = .slice a n c ∧ l.length = n ∧ Rd W (OldB W) 1 a n (ivs l) ∧ NilOk a n c ∧ n ≤ c ∧ c ≤ maxLen ∧ ∀ k ∈ l, -9223372036854775808 ≤ k ∧ k ≤ 9223372036854775807 := by
    obtain ⟨a, n, c, rfl⟩ := okWide_slice Tryd.underlying22 (hval 3 22 v3 rfl rfl)
    obtain ⟨fuel, hf⟩ := h3
    obtain ⟨A, n', c', l, e, hk⟩ := vInts hf
    simp [Value.cells] at e
    obtain ⟨rfl, rfl, rfl⟩ := e
    exact ⟨_, _, _, l, rfl, hk⟩
  clear hA0 hval0
  refine (walk m0 a0 c0 m1 a1 c1 x2 a3 n3 c3 l3 W wx0 wx1 (wf_i64 wx2) wx3 (tab_of_laid hL)).mono fun e W' ⟨he, hfr⟩ => ?_
  have bel : Below W.heap.size W W' := hfr.below (fun _ h => absurd h id) (Nat.le_refl _)
  subst he
  exact ⟨_, rfl, _, _, _, [], _, [], hW', trodAll_mk1 (shut_bool Tryd.underlying4 _), (trodAll_cons_mk (Below.trod laidOut (by kernel_rfl) (of_decide_eq_true (by kernel_rfl)) k0 bel lt0) (trodAll_cons_mk (Below.trod laidOut (by kernel_rfl) (of_decide_eq_true (by kernel_rfl)) k1 bel lt1) (trodAll_cons_mk (Below.trod laidOut (by kernel_rfl) (of_decide_eq_true (by kernel_rfl)) k2 bel lt2) (trodAll_cons_mk (Below.trod laidOut (by kernel_rfl) (of_decide_eq_true (by kernel_rfl)) k3 bel lt3) trodAll_mk0)))), rfl, bel.frame _, fun h => by cases h⟩

theorem proved : Rows.ManifestWholeSaid :=
  OpenClaim.holds_of_wide 5 Tryd.f5 rfl rfl rfl rfl rfl rfl rfl ⟨rfl, rfl, rfl, rfl, rfl⟩ rfl rfl rfl rfl rfl (by kernel_rfl) Tryd.func5 (by kernel_rfl)
    (of_decide_eq_true (by kernel_rfl)) (by unfold Func.isWrapper; first | (rw [if_pos (by decide +kernel)]; kernel_rfl) | (rw [if_neg (by decide +kernel)]; exact ⟨rfl, rfl⟩))
    (fun os started H enc _ => lifted os started H enc)
#print axioms proved

theorem card : Rows.ManifestWholeCardSaid :=
  Claim7.holds_tied_plain_at .later [] [.data] true (true, "a414ffddb31cc5f763b9fc8611f6813be59f682ddef2834ddb7c0cc24705e4e3") false
    proved (fun _ h => by cases h) (by kernel_rfl) (fun _ h => by cases h) manifestWhole_row_tie rfl ⟨rfl, rfl⟩ (by kernel_rfl) rfl
    (fun f fn hf hfn => by
      obtain rfl : f = 5 := Option.some.inj ((show Tryd.prog.funcNamed "newsstand/newsstandlaw19.ManifestWhole" = some 5 by kernel_rfl).symm.trans hf) |>.symm
      obtain rfl : fn = Tryd.f5 := (Option.some.inj (Tryd.func5.symm.trans hfn)).symm
      exact ⟨by kernel_rfl, fun j t ht => by
        rw [Tryd.params5] at ht
        have hm : t ∈ [24, 24, 3, 22] := by simpa using Array.mem_of_getElem? ht
        have hall : ([24, 24, 3, 22].all fun u => !Tryd.prog.wantsStandIn u) = true := by kernel_rfl
        exact (show Tryd.prog.wantsStandIn t = false by simpa using List.all_eq_true.1 hall t hm)⟩)
    (by kernel_rfl)
#print axioms card
end manifestWhole
end Go.Proofs.YtdgpaddmheagoaaDoor
