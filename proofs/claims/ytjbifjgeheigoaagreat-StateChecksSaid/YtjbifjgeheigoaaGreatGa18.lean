/-
  Contracts: slices.Equal of folders, feeds, searches, tags.
-/
import Derived.Test.YtjbifjgeheigoaaGreatGa17
import Derived.Test.YtjbifjgeheigoaaGreatGa15
import Derived.BigQuiet
import Derived.Deep.QuietTactic
section
set_option linter.unusedVariables false
set_option linter.unusedSimpArgs false
namespace Go.Proofs.YtjbifjgeheigoaaGreat
open Go.RowKit Go.Lib

theorem take_ne {α : Type} {l l' : List α} {k : Nat} (h : k < l.length) (h' : k < l'.length) (hne : l[k] ≠ l'[k]) : l ≠ l' := fun e => hne (by subst e; rfl)
theorem take_eq {α : Type} {l l' : List α} {k : Nat} (h : k < l.length) (h' : k < l'.length) (ht : l.take k = l'.take k) (he : l[k] = l'[k]) : l.take (k + 1) = l'.take (k + 1) := by
  rw [List.take_succ_eq_append_getElem h, List.take_succ_eq_append_getElem h', ht, he]
theorem tags_eq {w : World} {G G' : Nat → Prop} {v v' : Sl} {l l' : List ByteArray} (h : SlIn w G 1 v l.length (l.map Value.string)) (h' : SlIn w G' 1 v' l'.length (l'.map Value.string)) (hn : l.length ≤ 1000000) (hn' : l'.length ≤ 1000000) :
    Calls Tryz.prog 141 #[.slice v.1 l.length v.2, .slice v'.1 l'.length v'.2] w fun e w' => e = .returned (.bool (decide (l = l'))) ∧ Frm Nix w w' := by
  by_cases hl : l.length = l'.length
  · rcases Nat.eq_zero_or_pos l.length with h0 | h0
    · have e1 : l = [] := List.eq_nil_of_length_eq_zero h0
      have e2 : l' = [] := List.eq_nil_of_length_eq_zero (by omega)
      subst e1
      subst e2
      refine (Tryz.slices_Equal_string_empty v.1 v'.1 v.2 0 v'.2 w (by omega)).mono ?_
      rintro e w' ⟨rfl, rfl⟩
      exact ⟨rfl, Frm.refl _ _⟩
    · have fm : ∀ l : List ByteArray, l.map Value.string = l.flatMap fun i => [Value.string i] := fun l => by
        induction l with
        | nil => rfl
        | cons a l ih => rw [List.map_cons, ih, List.flatMap_cons]; rfl
      rw [fm] at h h'
      obtain ⟨b, off, e, -, -, hc⟩ := h.at_ (f := fun i => [Value.string i]) (fun _ => rfl) (by decide) h0
      obtain ⟨b', off', e', -, -, hc'⟩ := h'.at_ (f := fun i => [Value.string i]) (fun _ => rfl) (by decide) (by omega)
      rw [e, e']
      have := Tryz.slices_Equal_string b off l.length v.2 b' off' l'.length v'.2 l l' w (Nat.le_refl _) (Nat.le_refl _) (by omega) (by omega) (fun j hj => by
        have := hc j hj 0 _ rfl
        rw [Nat.mul_one, Nat.add_zero] at this
        rw [this, List.getD_eq_getElem?_getD, List.getElem?_eq_getElem hj]
        rfl) (fun j hj => by
        have := hc' j hj 0 _ rfl
        rw [Nat.mul_one, Nat.add_zero] at this
        rw [this, List.getD_eq_getElem?_getD, List.getElem?_eq_getElem hj]
        rfl)
      rw [List.take_length, List.take_length] at this
      refine this.mono ?_
      rintro e w' ⟨rfl, q, rfl⟩
      exact ⟨rfl, (Frm.refl Nix w).drewN q⟩
  · have hne : l ≠ l' := fun e => hl (by rw [e])
    rw [decide_eq_false hne]
    refine (Tryz.slices_Equal_string_lens v.1 v'.1 l.length v.2 l'.length v'.2 w hl).mono ?_
    rintro e w' ⟨rfl, rfl⟩
    exact ⟨rfl, Frm.refl _ _⟩

theorem Foleq_iff (e e' : Fol) : decide (e = e') = (decide (e.id = e'.id) && (decide (e.inn = e'.inn) && decide (e.name = e'.name))) := by
  rw [Bool.eq_iff_iff]
  simp only [Bool.and_eq_true, decide_eq_true_eq]
  constructor
  · rintro rfl; simp
  · rintro ⟨h0, h1, h2⟩
    cases e
    cases e'
    simp_all
set_option maxRecDepth 100000 in
set_option maxHeartbeats 4000000 in
theorem eqInFol (e e' : Fol) (w : World) : (Op.equalIn 10000 58 (folV e) (folV e')).run Tryz.prog w = .ok (decide (e = e')) w := by
  have u3 := Tryz.underlying3
  have a3 := Tryz.isAgg3
  have z3 := Tryz.sizeOf3
  have u9 := Tryz.underlying9
  have a9 := Tryz.isAgg9
  have z9 := Tryz.sizeOf9
  have hS : Tryz.prog.underlying 58 = some (.struct (Tryz.prog.fieldsOf 58)) := by kernel_rfl
  unfold folV
  rw [show (10000 : Nat) = 9999 + 1 from rfl, run_equalIn_agg w 9999 58 _ _ hS (by kernel_rfl)]
  simp only [Program.fieldsOf, Tryz.underlying58]
  rw [Foleq_iff]
  go_simp
  simp only [toList_inj]
  repeat' split
  all_goals simp [*]
theorem neqFol_run (e e' : Fol) (w : World) : (binOp .neq 58 (folV e) (folV e')).run Tryz.prog w = .ok (.bool (!decide (e = e'))) w := by
  unfold folV
  rw [run_neq_struct]
  have := eqInFol e e' w
  unfold folV at this
  rw [this]
  rfl
theorem Folcs {w : World} {b off : Nat} {e : Fol} (h : ∀ (j : Nat) (u : Value), e.cells[j]? = some u → w.cell? ⟨b, off + j, none⟩ = some u) :
    w.cell? ⟨b, off, none⟩ = some (.int .i64 e.id) ∧ w.cell? ⟨b, off + 1, none⟩ = some (.int .i64 e.inn) ∧ w.cell? ⟨b, off + 2, none⟩ = some (.string e.name) :=
  ⟨h 0 _ rfl, h 1 _ rfl, h 2 _ rfl⟩
set_option maxRecDepth 100000 in
set_option maxHeartbeats 4000000 in
theorem EqualFol_any {w : World} {G G' : Nat → Prop} {v v' : Sl} (l l' : List Fol) (hv : SlIn w G 3 v l.length (l.flatMap Fol.cells)) (hv' : SlIn w G' 3 v' l'.length (l'.flatMap Fol.cells)) (hn : l.length ≤ 1000000) (hn' : l'.length ≤ 1000000) :
    Calls Tryz.prog 84 #[.slice v.1 l.length v.2, .slice v'.1 l'.length v'.2] w fun e w' => e = .returned (.bool (decide (l = l'))) ∧ Frm Nix w w' := by
  obtain ⟨A, c⟩ := v
  obtain ⟨A', c'⟩ := v'
  dsimp only
  by_cases hll : l.length = l'.length
  · rw [← hll]
    obtain ⟨n, hln⟩ : ∃ n, l.length = n := ⟨_, rfl⟩
    have HL := Lib.hid hln
    have HLL := Lib.hid hll
    have HV := Lib.hid hv
    have HV' := Lib.hid hv'
    rw [hln] at hn ⊢
    clear hv hv' hll hln hn'
    go_enter Tryz.func84, Tryz.ntmps84
    go_wp2
    go_loopw [13] (fun kv wr => ∃ k : Nat, k ≤ n ∧ kv = .int .i64 k ∧ l.take k = l'.take k ∧ Frm Nix w wr) (fun kv _ => n - (intOf kv).toNat)
    case atStart => exact ⟨0, by omega, rfl, by simp, Frm.refl _ _⟩
    case round =>
      obtain ⟨k, hk, rfl, ht, hf⟩ := hrel
      have HT := Lib.hid ht
      have HF := Lib.hid hf
      clear ht hf
      by_cases hlt : k < n
      · have hkl : k < l.length := by rw [HL.out]; exact hlt
        have hkl' : k < l'.length := by rw [← HLL.out]; exact hkl
        obtain ⟨b, off, hA, -, hbl, hcell⟩ := (HV.out.nix HF.out).at_ Fol.clen (by decide) (by omega)
        obtain ⟨b', off', hA', -, hbl', hcell'⟩ := (HV'.out.nix HF.out).at_ Fol.clen (by decide) (by omega)
        dsimp only at hA hA'
        subst hA
        subst hA'
        obtain ⟨x0, x1, x2⟩ := Folcs (w := wr) (b := b) (off := off + k * 3) (e := l[k]) (hcell k hkl)
        obtain ⟨y0, y1, y2⟩ := Folcs (w := wr) (b := b') (off := off' + k * 3) (e := l'[k]) (hcell' k hkl')
        have hq := fun W => neqFol_run l[k] l'[k] W
        have hg : Tryz.prog.eqGuardType Tryz.prog.depth 58 = false := by kernel_rfl
        unfold folV at hq
        have HNe := Lib.hid (take_ne hkl hkl')
        have HEq := Lib.hid (take_eq hkl hkl' HT.out)
        clear hcell hcell'
        generalize l[k] = p at *
        generalize l'[k] = q at *
        by_cases he : p = q
        · rw [decide_eq_true he] at hq
          have HE := Lib.hid he
          clear he
          go_wp2
          go_quiet (fail)
          go_wp2
          go_roundw
          case rel => exact ⟨k + 1, by omega, by go_num, HEq.out HE.out, HF.out.drewN _⟩
          case measure => simp [intOf]; omega
        · rw [decide_eq_false he] at hq
          have HE := Lib.hid he
          clear he
          go_wp2
          go_quiet (fail)
          go_wp2
          go_ret
          exact ⟨ret_bool (decide_eq_false (HNe.out HE.out)).symm, HF.out.drewN _⟩
      · obtain rfl : k = n := by omega
        have HE : Hid (l = l') := by
          have := HT.out
          rw [List.take_of_length_le (by rw [HL.out]; exact Nat.le_refl _), List.take_of_length_le (by rw [← HLL.out, HL.out]; exact Nat.le_refl _)] at this
          exact this
        go_wp2
        go_ret
        exact ⟨ret_bool (decide_eq_true HE.out).symm, HF.out⟩
  · have hne : decide ((l.length : Int) = (l'.length : Int)) = false := by simp; omega
    have HE : Hid (l ≠ l') := fun e => hll (by rw [e])
    clear hv hv'
    generalize hq1 : l.length = n1 at *
    generalize hq2 : l'.length = n2 at *
    clear hq1 hq2
    go_enter Tryz.func84, Tryz.ntmps84
    go_wp2
    go_ret
    exact ⟨ret_bool (decide_eq_false HE.out).symm, Frm.refl _ _⟩

theorem Feeeq_iff (e e' : Fee) : decide (e = e') = (decide (e.id = e'.id) && (decide (e.inn = e'.inn) && (decide (e.url = e'.url) && decide (e.title = e'.title)))) := by
  rw [Bool.eq_iff_iff]
  simp only [Bool.and_eq_true, decide_eq_true_eq]
  constructor
  · rintro rfl; simp
  · rintro ⟨h0, h1, h2, h3⟩
    cases e
    cases e'
    simp_all
set_option maxRecDepth 100000 in
set_option maxHeartbeats 4000000 in
theorem eqInFee (e e' : Fee) (w : World) : (Op.equalIn 10000 60 (feeV e) (feeV e')).run Tryz.prog w = .ok (decide (e = e')) w := by
  have u3 := Tryz.underlying3
  have a3 := Tryz.isAgg3
  have z3 := Tryz.sizeOf3
  have u9 := Tryz.underlying9
  have a9 := Tryz.isAgg9
  have z9 := Tryz.sizeOf9
  have hS : Tryz.prog.underlying 60 = some (.struct (Tryz.prog.fieldsOf 60)) := by kernel_rfl
  unfold feeV
  rw [show (10000 : Nat) = 9999 + 1 from rfl, run_equalIn_agg w 9999 60 _ _ hS (by kernel_rfl)]
  simp only [Program.fieldsOf, Tryz.underlying60]
  rw [Feeeq_iff]
  go_simp
  simp only [toList_inj]
  repeat' split
  all_goals simp [*]
theorem neqFee_run (e e' : Fee) (w : World) : (binOp .neq 60 (feeV e) (feeV e')).run Tryz.prog w = .ok (.bool (!decide (e = e'))) w := by
  unfold feeV
  rw [run_neq_struct]
  have := eqInFee e e' w
  unfold feeV at this
  rw [this]
  rfl
theorem Feecs {w : World} {b off : Nat} {e : Fee} (h : ∀ (j : Nat) (u : Value), e.cells[j]? = some u → w.cell? ⟨b, off + j, none⟩ = some u) :
    w.cell? ⟨b, off, none⟩ = some (.int .i64 e.id) ∧ w.cell? ⟨b, off + 1, none⟩ = some (.int .i64 e.inn) ∧ w.cell? ⟨b, off + 2, none⟩ = some (.string e.url) ∧ w.cell? ⟨b, off + 3, none⟩ = some (.string e.title) :=
  ⟨h 0 _ rfl, h 1 _ rfl, h 2 _ rfl, h 3 _ rfl⟩
set_option maxRecDepth 100000 in
set_option maxHeartbeats 4000000 in
theorem EqualFee_any {w : World} {G G' : Nat → Prop} {v v' : Sl} (l l' : List Fee) (hv : SlIn w G 4 v l.length (l.flatMap Fee.cells)) (hv' : SlIn w G' 4 v' l'.length (l'.flatMap Fee.cells)) (hn : l.length ≤ 1000000) (hn' : l'.length ≤ 1000000) :
    Calls Tryz.prog 85 #[.slice v.1 l.length v.2, .slice v'.1 l'.length v'.2] w fun e w' => e = .returned (.bool (decide (l = l'))) ∧ Frm Nix w w' := by
  obtain ⟨A, c⟩ := v
  obtain ⟨A', c'⟩ := v'
  dsimp only
  by_cases hll : l.length = l'.length
  · rw [← hll]
    obtain ⟨n, hln⟩ : ∃ n, l.length = n := ⟨_, rfl⟩
    have HL := Lib.hid hln
    have HLL := Lib.hid hll
    have HV := Lib.hid hv
    have HV' := Lib.hid hv'
    rw [hln] at hn ⊢
    clear hv hv' hll hln hn'
    go_enter Tryz.func85, Tryz.ntmps85
    go_wp2
    go_loopw [13] (fun kv wr => ∃ k : Nat, k ≤ n ∧ kv = .int .i64 k ∧ l.take k = l'.take k ∧ Frm Nix w wr) (fun kv _ => n - (intOf kv).toNat)
    case atStart => exact ⟨0, by omega, rfl, by simp, Frm.refl _ _⟩
    case round =>
      obtain ⟨k, hk, rfl, ht, hf⟩ := hrel
      have HT := Lib.hid ht
      have HF := Lib.hid hf
      clear ht hf
      by_cases hlt : k < n
      · have hkl : k < l.length := by rw [HL.out]; exact hlt
        have hkl' : k < l'.length := by rw [← HLL.out]; exact hkl
        obtain ⟨b, off, hA, -, hbl, hcell⟩ := (HV.out.nix HF.out).at_ Fee.clen (by decide) (by omega)
        obtain ⟨b', off', hA', -, hbl', hcell'⟩ := (HV'.out.nix HF.out).at_ Fee.clen (by decide) (by omega)
        dsimp only at hA hA'
        subst hA
        subst hA'
        obtain ⟨x0, x1, x2, x3⟩ := Feecs (w := wr) (b := b) (off := off + k * 4) (e := l[k]) (hcell k hkl)
        obtain ⟨y0, y1, y2, y3⟩ := Feecs (w := wr) (b := b') (off := off' + k * 4) (e := l'[k]) (hcell' k hkl')
        have hq := fun W => neqFee_run l[k] l'[k] W
        have hg : Tryz.prog.eqGuardType Tryz.prog.depth 60 = false := by kernel_rfl
        unfold feeV at hq
        have HNe := Lib.hid (take_ne hkl hkl')
        have HEq := Lib.hid (take_eq hkl hkl' HT.out)
        clear hcell hcell'
        generalize l[k] = p at *
        generalize l'[k] = q at *
        by_cases he : p = q
        · rw [decide_eq_true he] at hq
          have HE := Lib.hid he
          clear he
          go_wp2
          go_quiet (fail)
          go_wp2
          go_roundw
          case rel => exact ⟨k + 1, by omega, by go_num, HEq.out HE.out, HF.out.drewN _⟩
          case measure => simp [intOf]; omega
        · rw [decide_eq_false he] at hq
          have HE := Lib.hid he
          clear he
          go_wp2
          go_quiet (fail)
          go_wp2
          go_ret
          exact ⟨ret_bool (decide_eq_false (HNe.out HE.out)).symm, HF.out.drewN _⟩
      · obtain rfl : k = n := by omega
        have HE : Hid (l = l') := by
          have := HT.out
          rw [List.take_of_length_le (by rw [HL.out]; exact Nat.le_refl _), List.take_of_length_le (by rw [← HLL.out, HL.out]; exact Nat.le_refl _)] at this
          exact this
        go_wp2
        go_ret
        exact ⟨ret_bool (decide_eq_true HE.out).symm, HF.out⟩
  · have hne : decide ((l.length : Int) = (l'.length : Int)) = false := by simp; omega
    have HE : Hid (l ≠ l') := fun e => hll (by rw [e])
    clear hv hv'
    generalize hq1 : l.length = n1 at *
    generalize hq2 : l'.length = n2 at *
    clear hq1 hq2
    go_enter Tryz.func85, Tryz.ntmps85
    go_wp2
    go_ret
    exact ⟨ret_bool (decide_eq_false HE.out).symm, Frm.refl _ _⟩

theorem Seaeq_iff (e e' : Sea) : decide (e = e') = (decide (e.id = e'.id) && (decide (e.name = e'.name) && decide (e.query = e'.query))) := by
  rw [Bool.eq_iff_iff]
  simp only [Bool.and_eq_true, decide_eq_true_eq]
  constructor
  · rintro rfl; simp
  · rintro ⟨h0, h1, h2⟩
    cases e
    cases e'
    simp_all
set_option maxRecDepth 100000 in
set_option maxHeartbeats 4000000 in
theorem eqInSea (e e' : Sea) (w : World) : (Op.equalIn 10000 65 (seaV e) (seaV e')).run Tryz.prog w = .ok (decide (e = e')) w := by
  have u3 := Tryz.underlying3
  have a3 := Tryz.isAgg3
  have z3 := Tryz.sizeOf3
  have u9 := Tryz.underlying9
  have a9 := Tryz.isAgg9
  have z9 := Tryz.sizeOf9
  have hS : Tryz.prog.underlying 65 = some (.struct (Tryz.prog.fieldsOf 65)) := by kernel_rfl
  unfold seaV
  rw [show (10000 : Nat) = 9999 + 1 from rfl, run_equalIn_agg w 9999 65 _ _ hS (by kernel_rfl)]
  simp only [Program.fieldsOf, Tryz.underlying65]
  rw [Seaeq_iff]
  go_simp
  simp only [toList_inj]
  repeat' split
  all_goals simp [*]
theorem neqSea_run (e e' : Sea) (w : World) : (binOp .neq 65 (seaV e) (seaV e')).run Tryz.prog w = .ok (.bool (!decide (e = e'))) w := by
  unfold seaV
  rw [run_neq_struct]
  have := eqInSea e e' w
  unfold seaV at this
  rw [this]
  rfl
theorem Seacs {w : World} {b off : Nat} {e : Sea} (h : ∀ (j : Nat) (u : Value), e.cells[j]? = some u → w.cell? ⟨b, off + j, none⟩ = some u) :
    w.cell? ⟨b, off, none⟩ = some (.int .i64 e.id) ∧ w.cell? ⟨b, off + 1, none⟩ = some (.string e.name) ∧ w.cell? ⟨b, off + 2, none⟩ = some (.string e.query) :=
  ⟨h 0 _ rfl, h 1 _ rfl, h 2 _ rfl⟩
set_option maxRecDepth 100000 in
set_option maxHeartbeats 4000000 in
theorem EqualSea_any {w : World} {G G' : Nat → Prop} {v v' : Sl} (l l' : List Sea) (hv : SlIn w G 3 v l.length (l.flatMap Sea.cells)) (hv' : SlIn w G' 3 v' l'.length (l'.flatMap Sea.cells)) (hn : l.length ≤ 1000000) (hn' : l'.length ≤ 1000000) :
    Calls Tryz.prog 86 #[.slice v.1 l.length v.2, .slice v'.1 l'.length v'.2] w fun e w' => e = .returned (.bool (decide (l = l'))) ∧ Frm Nix w w' := by
  obtain ⟨A, c⟩ := v
  obtain ⟨A', c'⟩ := v'
  dsimp only
  by_cases hll : l.length = l'.length
  · rw [← hll]
    obtain ⟨n, hln⟩ : ∃ n, l.length = n := ⟨_, rfl⟩
    have HL := Lib.hid hln
    have HLL := Lib.hid hll
    have HV := Lib.hid hv
    have HV' := Lib.hid hv'
    rw [hln] at hn ⊢
    clear hv hv' hll hln hn'
    go_enter Tryz.func86, Tryz.ntmps86
    go_wp2
    go_loopw [13] (fun kv wr => ∃ k : Nat, k ≤ n ∧ kv = .int .i64 k ∧ l.take k = l'.take k ∧ Frm Nix w wr) (fun kv _ => n - (intOf kv).toNat)
    case atStart => exact ⟨0, by omega, rfl, by simp, Frm.refl _ _⟩
    case round =>
      obtain ⟨k, hk, rfl, ht, hf⟩ := hrel
      have HT := Lib.hid ht
      have HF := Lib.hid hf
      clear ht hf
      by_cases hlt : k < n
      · have hkl : k < l.length := by rw [HL.out]; exact hlt
        have hkl' : k < l'.length := by rw [← HLL.out]; exact hkl
        obtain ⟨b, off, hA, -, hbl, hcell⟩ := (HV.out.nix HF.out).at_ Sea.clen (by decide) (by omega)
        obtain ⟨b', off', hA', -, hbl', hcell'⟩ := (HV'.out.nix HF.out).at_ Sea.clen (by decide) (by omega)
        dsimp only at hA hA'
        subst hA
        subst hA'
        obtain ⟨x0, x1, x2⟩ := Seacs (w := wr) (b := b) (off := off + k * 3) (e := l[k]) (hcell k hkl)
        obtain ⟨y0, y1, y2⟩ := Seacs (w := wr) (b := b') (off := off' + k * 3) (e := l'[k]) (hcell' k hkl')
        have hq := fun W => neqSea_run l[k] l'[k] W
        have hg : Tryz.prog.eqGuardType Tryz.prog.depth 65 = false := by kernel_rfl
        unfold seaV at hq
        have HNe := Lib.hid (take_ne hkl hkl')
        have HEq := Lib.hid (take_eq hkl hkl' HT.out)
        clear hcell hcell'
        generalize l[k] = p at *
        generalize l'[k] = q at *
        by_cases he : p = q
        · rw [decide_eq_true he] at hq
          have HE := Lib.hid he
          clear he
          go_wp2
          go_quiet (fail)
          go_wp2
          go_roundw
          case rel => exact ⟨k + 1, by omega, by go_num, HEq.out HE.out, HF.out.drewN _⟩
          case measure => simp [intOf]; omega
        · rw [decide_eq_false he] at hq
          have HE := Lib.hid he
          clear he
          go_wp2
          go_quiet (fail)
          go_wp2
          go_ret
          exact ⟨ret_bool (decide_eq_false (HNe.out HE.out)).symm, HF.out.drewN _⟩
      · obtain rfl : k = n := by omega
        have HE : Hid (l = l') := by
          have := HT.out
          rw [List.take_of_length_le (by rw [HL.out]; exact Nat.le_refl _), List.take_of_length_le (by rw [← HLL.out, HL.out]; exact Nat.le_refl _)] at this
          exact this
        go_wp2
        go_ret
        exact ⟨ret_bool (decide_eq_true HE.out).symm, HF.out⟩
  · have hne : decide ((l.length : Int) = (l'.length : Int)) = false := by simp; omega
    have HE : Hid (l ≠ l') := fun e => hll (by rw [e])
    clear hv hv'
    generalize hq1 : l.length = n1 at *
    generalize hq2 : l'.length = n2 at *
    clear hq1 hq2
    go_enter Tryz.func86, Tryz.ntmps86
    go_wp2
    go_ret
    exact ⟨ret_bool (decide_eq_false HE.out).symm, Frm.refl _ _⟩
end Go.Proofs.YtjbifjgeheigoaaGreat
end
section
set_option linter.unusedVariables false
set_option linter.unusedSimpArgs false
namespace Go.Proofs.YtjbifjgeheigoaaGreat
open Go.RowKit Go.Lib

theorem itm_iff (t t' : Itm) : decide (t = t') = (decide (t.tags = t'.tags) && (decide (t.id = t'.id) && (decide (t.feed = t'.feed) && (decide (t.date = t'.date) && (decide (t.guid = t'.guid) && (decide (t.title = t'.title) && (decide (t.link = t'.link) && (decide (t.read = t'.read) && decide (t.star = t'.star))))))))) := by
  rw [Bool.eq_iff_iff]
  simp only [Bool.and_eq_true, decide_eq_true_eq]
  constructor
  · rintro rfl; simp
  · rintro ⟨h1, h2, h3, h4, h5, h6, h7, h8, h9⟩
    cases t
    cases t'
    simp_all
set_option maxRecDepth 100000 in
set_option maxHeartbeats 8000000 in
theorem sameItem_any {w : World} {G G' : Nat → Prop} {v v' : Sl} (t t' : Itm) (hv : SlIn w G 1 v t.tags.length (t.tags.map Value.string)) (hv' : SlIn w G' 1 v' t'.tags.length (t'.tags.map Value.string)) (hn : t.tags.length ≤ 1000000) (hn' : t'.tags.length ≤ 1000000) :
    Calls Tryz.prog 88 #[.agg #[.int .i64 t.id, .int .i64 t.feed, .int .i64 t.date, .string t.guid, .string t.title, .string t.link, .bool t.read, .bool t.star, .slice v.1 t.tags.length v.2], .agg #[.int .i64 t'.id, .int .i64 t'.feed, .int .i64 t'.date, .string t'.guid, .string t'.title, .string t'.link, .bool t'.read, .bool t'.star, .slice v'.1 t'.tags.length v'.2]] w fun e w' => e = .returned (.bool (decide (t = t'))) ∧ Frm Nix w w' := by
  obtain ⟨w0, hw0⟩ : ∃ w0, w0 = w.alloc (.cells #[.int .i64 t.id, .int .i64 t.feed, .int .i64 t.date, .string t.guid, .string t.title, .string t.link, .bool t.read, .bool t.star, .slice v.1 t.tags.length v.2] 63) := ⟨_, rfl⟩
  have f0 : Frm Nix w w0 := by rw [hw0]; exact (Frm.refl Nix w).alloc _
  have e0 : w0.heap.size = w.heap.size + 1 := by rw [hw0]; simp
  have hb0 : Blk w0 w.heap.size 63 #[.int .i64 t.id, .int .i64 t.feed, .int .i64 t.date, .string t.guid, .string t.title, .string t.link, .bool t.read, .bool t.star, .slice v.1 t.tags.length v.2] := by rw [hw0]; exact Blk.new w _ _
  obtain ⟨w1, hw1⟩ : ∃ w1, w1 = w0.alloc (.cells #[.int .i64 t'.id, .int .i64 t'.feed, .int .i64 t'.date, .string t'.guid, .string t'.title, .string t'.link, .bool t'.read, .bool t'.star, .slice v'.1 t'.tags.length v'.2] 63) := ⟨_, rfl⟩
  have f1 : Frm Nix w0 w1 := by rw [hw1]; exact (Frm.refl Nix w0).alloc _
  have hb1 := hb0.frm f1 id
  have hc1 : Blk w1 w0.heap.size 63 #[.int .i64 t'.id, .int .i64 t'.feed, .int .i64 t'.date, .string t'.guid, .string t'.title, .string t'.link, .bool t'.read, .bool t'.star, .slice v'.1 t'.tags.length v'.2] := by rw [hw1]; exact Blk.new w0 _ _
  rw [e0] at hc1
  have K := Lib.hid (tags_eq (hv.nix (f0.trans f1)) (hv'.nix (f0.trans f1)) hn hn')
  have HI := Lib.hid (itm_iff t t')
  have HF := Lib.hid (f0.trans f1)
  have HW0 := Lib.hid hw0
  have HW1 := Lib.hid hw1
  have HB := Lib.hid hb1
  have HC := Lib.hid hc1
  clear hv hv' f0 f1 hb0 hb1 hc1 hw0 hw1 e0
  generalize hbt : decide (t.tags = t'.tags) = bt at K HI
  clear hbt
  cases bt with
  | false =>
    go_enter Tryz.func88, Tryz.ntmps88
    go_wp2_with (go_at_call 141; rw [← HW0.out, ← HW1.out]; refine K.out.mono ?_; rintro r w2 ⟨rfl, hf2⟩)
    go_ret
    exact ⟨ret_bool (by rw [HI.out]; rfl), HF.out.trans hf2⟩
  | true =>
    go_enter Tryz.func88, Tryz.ntmps88
    go_wp2_with (go_at_call 141; rw [← HW0.out, ← HW1.out]; refine K.out.mono ?_; rintro r w2 ⟨rfl, hf2⟩; obtain ⟨x0, x1, x2, x3, x4, x5, x6, x7, x8⟩ := itm9 (HB.out.frm hf2 id); obtain ⟨y0, y1, y2, y3, y4, y5, y6, y7, y8⟩ := itm9 (HC.out.frm hf2 id); have HF2 := Lib.hid (HF.out.trans hf2); clear hf2)
    all_goals (go_ret; refine ⟨ret_bool ?_, HF2.out⟩; rw [HI.out]; (try simp only [toList_inj] at *); first | (simp [*]; done) | (simp [*]; cases t.star <;> cases t'.star <;> rfl))
end Go.Proofs.YtjbifjgeheigoaaGreat
end
