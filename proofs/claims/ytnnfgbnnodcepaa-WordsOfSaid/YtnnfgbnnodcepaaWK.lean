/-
  Contracts: newsstandref06.Has, Begins.
-/
import Derived.Test.YtnnfgbnnodcepaaWH
import Derived.Test.YtnnfgbnnodcepaaWJ
namespace Go.Proofs.Ytnnfgbnnodcepaa
open Go.RowKit Go.Lib

theorem any_step {l : List ByteArray} {p : ByteArray → Bool} {k : Nat} (h : k < l.length) (h1 : (l.take k).any p = false) (h2 : p l[k] = false) : (l.take (k + 1)).any p = false := by
  rw [List.take_succ_eq_append_getElem h, List.any_append, h1]
  simp [h2]
theorem any_hit {l : List ByteArray} {p : ByteArray → Bool} {k : Nat} (h : k < l.length) (h2 : p l[k] = true) : l.any p = true := List.any_eq_true.2 ⟨_, List.getElem_mem h, h2⟩
theorem any_all {l : List ByteArray} {p : ByteArray → Bool} (h1 : (l.take l.length).any p = false) : l.any p = false := by rwa [List.take_of_length_le (Nat.le_refl _)] at h1
theorem prefix_short {x f : ByteArray} (h : x.size < f.size) : (bys f).isPrefixOf (bys x) = false := by
  rw [Bool.eq_false_iff]
  intro e
  have := (List.isPrefixOf_iff_prefix.1 e).length_le
  rw [← size_bys, ← size_bys] at this
  omega
theorem prefix_cut {x f : ByteArray} (h : f.size ≤ x.size) : (bys f).isPrefixOf (bys x) = decide (x.extract 0 f.size = f) := by
  have e1 : bys (x.extract 0 f.size) = (bys x).take f.size := by
    show (x.extract 0 f.size).data.toList = _
    rw [extract_data]
    simp
  rw [Bool.eq_iff_iff, List.isPrefixOf_iff_prefix, decide_eq_true_eq]
  constructor
  · intro hp
    apply bys_inj
    rw [e1, size_bys]
    exact (List.prefix_iff_eq_take.1 hp).symm
  · intro e
    rw [List.prefix_iff_eq_take, ← size_bys, ← e1, e]

set_option maxRecDepth 100000 in
set_option maxHeartbeats 2000000 in
theorem rHas_any (s word : ByteArray) (w : World) (hs : s.size ≤ 200000) (hw : word.size ≤ 200000) :
    Calls Try.prog 15 #[.string s, .string word] w fun e w' => e = .returned (.bool (someB (fun x y => decide (x = y)) (wordsB s) (wordsB word))) ∧ Frm Nix w w' := by
  have K1 := Lib.hid (fun W => rWords_any s W hs)
  have K2 := Lib.hid (fun W => rWords_any word W hw)
  generalize wordsB s = l at *
  generalize wordsB word = ws at *
  go_enter Try.func15, Try.ntmps15
  go_wp2_with fail
  refine (K1.out _).mono ?_
  rintro e w1 ⟨A, c, rfl, hrow1⟩
  have H1 := Lib.hid hrow1
  clear hrow1
  go_wp2_with fail
  refine (K2.out _).mono ?_
  rintro e w2 ⟨A', c', rfl, hrow2⟩
  have H1' := Lib.hid (H1.out.more hrow2.frm)
  have HF := Lib.hid (H1.out.frm.trans hrow2.frm)
  have hl : l.length ≤ 9223372036854775807 := by
    obtain ⟨_, _, _, -, h1, h2, -⟩ := H1.out.shape
    unfold maxLen at h2
    omega
  rcases ws with _ | ⟨f, t⟩
  · clear hrow2 H1
    have d0 : decide ((0 : Int) < ((0 : Nat) : Int)) = false := by simp
    simp only [List.length_nil]
    go_wp2
    go_loopw [7] (fun i wr => ∃ k : Nat, k ≤ l.length ∧ i = .int .i64 k ∧ Frm Nix w2 wr) (fun i _ => l.length - (intOf i).toNat)
    case atStart => exact ⟨0, Nat.zero_le _, rfl, Frm.refl _ _⟩
    case round =>
      obtain ⟨k, hk, rfl, hfr⟩ := hrel
      have HR := Lib.hid hfr
      clear hfr
      by_cases hlt : k < l.length
      · go_wp2_with fail
        go_quiet (fail)
        go_wp2
        go_roundw
        case rel => exact ⟨k + 1, by omega, by go_num, HR.out.drewN _⟩
        case measure => simp [intOf]; omega
      · obtain rfl : k = l.length := by omega
        go_wp2
        go_ret
        exact ⟨rfl, HF.out.trans HR.out⟩
  · obtain ⟨ad, u, rfl, -, lw, hu, cw⟩ := hrow2.rd.at_ (k := 0) (by simp)
    simp at hu
    subst hu
    have cw0 : w2.cell? ad = some (.string f) := cw
    have lw0 : ad.block < w2.heap.size := lw
    clear hrow2 H1 cw
    have hn1 : (0 : Int) < ((t.length : Int) + 1) := by omega
    simp only [List.length_cons]
    have HS : Hid (someB (fun x y => decide (x = y)) l (f :: t) = l.any fun x => decide (x = f)) := rfl
    go_wp2
    go_loopw [7] (fun i wr => ∃ k : Nat, k ≤ l.length ∧ i = .int .i64 k ∧ Frm Nix w2 wr ∧ ((l.take k).any fun x => decide (x = f)) = false) (fun i _ => l.length - (intOf i).toNat)
    case atStart => exact ⟨0, Nat.zero_le _, rfl, Frm.refl _ _, by simp⟩
    case round =>
      obtain ⟨k, hk, rfl, hfr, hall⟩ := hrel
      have HR := Lib.hid hfr
      have HA := Lib.hid hall
      clear hfr hall
      by_cases hlt : k < l.length
      · obtain ⟨al, u, rfl, -, ll, hu, cl⟩ := H1'.out.rd.at_ hlt
        rw [List.getElem?_map, List.getElem?_eq_getElem hlt] at hu
        injection hu with hu
        subst hu
        have cx := (HR.out.cell (p := al.add k) (by rw [block_of_add]; exact ll) id).trans cl
        have cf := (HR.out.cell (p := ad) lw0 id).trans cw0
        have HStep := Lib.hid (any_step (p := fun x => decide (x = f)) hlt HA.out)
        have HHit := Lib.hid (any_hit (p := fun x => decide (x = f)) hlt)
        have hk0 : (0 : Int) ≤ (k : Int) := Int.natCast_nonneg _
        have hk1 : (k : Int) < (l.length : Int) := by omega
        clear cl
        obtain ⟨X, hX⟩ : ∃ X, l[k] = X := ⟨_, rfl⟩
        rw [hX] at cx HStep HHit
        clear hX
        by_cases hxf : X = f
        · have HE := Lib.hid (HHit.out (by simpa using hxf))
          subst hxf
          go_wp2_with fail
          go_quiet (fail)
          go_wp2
          go_ret
          exact ⟨ret_bool (by rw [HS.out, HE.out]), HF.out.trans (HR.out.drewN _)⟩
        · have HE := Lib.hid (HStep.out (by simpa using hxf))
          have hb := beq_of hxf
          go_wp2_with fail
          go_quiet (fail)
          go_wp2
          go_roundw
          case rel => exact ⟨k + 1, by omega, by go_num, HR.out.drewN _, HE.out⟩
          case measure => simp [intOf]; omega
      · obtain rfl : k = l.length := by omega
        go_wp2
        go_ret
        exact ⟨ret_bool (by rw [HS.out, any_all HA.out]), HF.out.trans HR.out⟩

set_option maxRecDepth 100000 in
set_option maxHeartbeats 2000000 in
theorem rBegins_any (s word : ByteArray) (w : World) (hs : s.size ≤ 200000) (hw : word.size ≤ 200000) :
    Calls Try.prog 17 #[.string s, .string word] w fun e w' => e = .returned (.bool (someB (fun x y => (bys y).isPrefixOf (bys x)) (wordsB s) (wordsB word))) ∧ Frm Nix w w' := by
  have K1 := Lib.hid (fun W => rWords_any s W hs)
  have K2 := Lib.hid (fun W => rWords_any word W hw)
  generalize wordsB s = l at *
  generalize wordsB word = ws at *
  obtain ⟨bb, hbb⟩ : ∃ bb, someB (fun x y => (bys y).isPrefixOf (bys x)) l ws = bb := ⟨_, rfl⟩
  rw [hbb]
  go_enter Try.func17, Try.ntmps17
  have HBB := Lib.hid hbb
  clear hbb
  go_wp2_with fail
  refine (K1.out _).mono ?_
  rintro e w1 ⟨A, c, rfl, hrow1⟩
  have H1 := Lib.hid hrow1
  clear hrow1
  go_wp2_with fail
  refine (K2.out _).mono ?_
  rintro e w2 ⟨A', c', rfl, hrow2⟩
  have H1' := Lib.hid (H1.out.more hrow2.frm)
  have HF := Lib.hid (H1.out.frm.trans hrow2.frm)
  have hl : l.length ≤ 9223372036854775807 := by
    obtain ⟨_, _, _, -, h1, h2, -⟩ := H1.out.shape
    unfold maxLen at h2
    omega
  rcases ws with _ | ⟨f, t⟩
  · clear hrow2 H1
    have d0 : decide ((0 : Int) < ((0 : Nat) : Int)) = false := by simp
    simp only [List.length_nil]
    go_wp2
    go_loopw [7] (fun i wr => ∃ k : Nat, k ≤ l.length ∧ i = .int .i64 k ∧ Frm Nix w2 wr) (fun i _ => l.length - (intOf i).toNat)
    case atStart => exact ⟨0, Nat.zero_le _, rfl, Frm.refl _ _⟩
    case round =>
      obtain ⟨k, hk, rfl, hfr⟩ := hrel
      have HR := Lib.hid hfr
      clear hfr
      by_cases hlt : k < l.length
      · go_wp2_with fail
        go_quiet (fail)
        go_wp2
        go_roundw
        case rel => exact ⟨k + 1, by omega, by go_num, HR.out.drewN _⟩
        case measure => simp [intOf]; omega
      · obtain rfl : k = l.length := by omega
        go_wp2
        go_ret
        exact ⟨ret_bool (by rw [← HBB.out]; rfl), HF.out.trans HR.out⟩
  · obtain ⟨ad, u, rfl, -, lw, hu, cw⟩ := hrow2.rd.at_ (k := 0) (by simp)
    simp at hu
    subst hu
    have cw0 : w2.cell? ad = some (.string f) := cw
    have lw0 : ad.block < w2.heap.size := lw
    clear hrow2 H1 cw
    have hn1 : (0 : Int) < ((t.length : Int) + 1) := by omega
    simp only [List.length_cons]
    have HS : Hid ((l.any fun x => (bys f).isPrefixOf (bys x)) = bb) := HBB.out
    obtain ⟨p, hp⟩ : ∃ p : ByteArray → Bool, (fun x => (bys f).isPrefixOf (bys x)) = p := ⟨_, rfl⟩
    have HP := Lib.hid hp
    rw [hp] at HS
    clear hp HBB
    have hf0 : (0 : Int) ≤ (f.size : Int) := Int.natCast_nonneg _
    go_wp2
    go_loopw [7] (fun i wr => ∃ k : Nat, k ≤ l.length ∧ i = .int .i64 k ∧ Frm Nix w2 wr ∧ (l.take k).any p = false) (fun i _ => l.length - (intOf i).toNat)
    case atStart => exact ⟨0, Nat.zero_le _, rfl, Frm.refl _ _, by simp⟩
    case round =>
      obtain ⟨k, hk, rfl, hfr, hall⟩ := hrel
      have HR := Lib.hid hfr
      have HA := Lib.hid hall
      clear hfr hall
      by_cases hlt : k < l.length
      · obtain ⟨al, u, rfl, -, ll, hu, cl⟩ := H1'.out.rd.at_ hlt
        rw [List.getElem?_map, List.getElem?_eq_getElem hlt] at hu
        injection hu with hu
        subst hu
        have cx := (HR.out.cell (p := al.add k) (by rw [block_of_add]; exact ll) id).trans cl
        have cf := (HR.out.cell (p := ad) lw0 id).trans cw0
        have HStep := Lib.hid (any_step (p := p) hlt HA.out)
        have HHit := Lib.hid (any_hit (p := p) hlt)
        have hk0 : (0 : Int) ≤ (k : Int) := Int.natCast_nonneg _
        have hk1 : (k : Int) < (l.length : Int) := by omega
        clear cl
        obtain ⟨X, hX⟩ : ∃ X, l[k] = X := ⟨_, rfl⟩
        rw [hX] at cx HStep HHit
        clear hX
        have hpx : p X = (bys f).isPrefixOf (bys X) := by rw [← HP.out]
        by_cases hsz : X.size < f.size
        · have HE := Lib.hid (HStep.out (by rw [hpx, prefix_short hsz]))
          have dsz : decide (f.size ≤ X.size) = false := by rw [decide_eq_false_iff_not]; omega
          clear hpx
          go_wp2_with fail
          go_quiet (fail)
          go_wp2
          go_roundw
          case rel => exact ⟨k + 1, by omega, by go_num, HR.out.drewN _, HE.out⟩
          case measure => simp [intOf]; omega
        · have dsz : (f.size : Int) ≤ (X.size : Int) := by omega
          have hpc : p X = decide (X.extract 0 f.size = f) := by rw [hpx, prefix_cut (by omega)]
          by_cases hxf : X.extract 0 f.size = f
          · have HE := Lib.hid (HHit.out (by rw [hpc, decide_eq_true hxf]))
            have hb : ((X.extract 0 f.size).toList == f.toList) = true := by rw [hxf]; simp
            clear hpx hpc hxf
            go_wp2_with fail
            go_quiet (fail)
            go_wp2
            go_ret
            exact ⟨ret_bool (by rw [← HS.out, HE.out]), HF.out.trans (HR.out.drewN _)⟩
          · have HE := Lib.hid (HStep.out (by rw [hpc, decide_eq_false hxf]))
            have hb := beq_of hxf
            clear hpx hpc hxf
            go_wp2_with fail
            go_quiet (fail)
            go_wp2
            go_roundw
            case rel => exact ⟨k + 1, by omega, by go_num, HR.out.drewN _, HE.out⟩
            case measure => simp [intOf]; omega
      · obtain rfl : k = l.length := by omega
        go_wp2
        go_ret
        exact ⟨ret_bool (by rw [← HS.out, any_all HA.out]), HF.out.trans HR.out⟩
end Go.Proofs.Ytnnfgbnnodcepaa
