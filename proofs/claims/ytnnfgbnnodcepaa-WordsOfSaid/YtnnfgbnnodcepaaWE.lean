/-
  Contracts: the words of a text (words.Words); whether it is one (words.Is); the first one (words.first).
-/
import Derived.Test.YtnnfgbnnodcepaaWD
namespace Go.Proofs.Ytnnfgbnnodcepaa
open Go.RowKit Go.Lib

theorem notLetter_runes (w : World) : PredAtRunes Try.prog 25 #[] (fun r => !letterR r) w := fun W r hr _ => by
  unfold FnGives
  go_enter Try.func25, Try.ntmps25
  go_wp2_with (go_at_call 26; refine (wletter_any r _ hr).mono ?_; rintro e w' ⟨rfl, rfl⟩)
  go_ret
  exact ⟨rfl, 0, rfl⟩

/-- the row when k fields have been cut. -/
def mixW (ws : List (List Nat)) (k : Nat) : List Value := ((ws.take k).map fun x => Value.string (ofB (enc (x.take 32)))) ++ (ws.drop k).map fun x => Value.string (ofB (enc x))
theorem mixW_len (ws : List (List Nat)) (k : Nat) (h : k ≤ ws.length) : (mixW ws k).length = ws.length := by
  simp [mixW]
  omega
theorem mixW_at (ws : List (List Nat)) (k : Nat) (h : k < ws.length) : (mixW ws k)[k]? = some (.string (ofB (enc ws[k]))) := by
  unfold mixW
  rw [List.getElem?_append_right (by simp; omega)]
  have : k - ((ws.take k).map fun x => Value.string (ofB (enc (x.take 32)))).length = 0 := by simp; omega
  rw [this, List.drop_eq_getElem_cons h]
  rfl
theorem mixW_set (ws : List (List Nat)) (k : Nat) (h : k < ws.length) : (mixW ws k).set k (.string (ofB (enc (ws[k].take 32)))) = mixW ws (k + 1) := by
  unfold mixW
  have hl : ((ws.take k).map fun x => Value.string (ofB (enc (x.take 32)))).length = k := by simp; omega
  rw [List.set_append_right _ _ (by omega), hl, Nat.sub_self, List.drop_eq_getElem_cons h, List.take_succ_eq_append_getElem h, List.map_cons, List.set_cons_zero, List.map_append, List.map_cons, List.map_nil, List.append_assoc, List.singleton_append]

/-- a new row of texts. -/
def StrsOut (w : World) (l : List ByteArray) (e : Ending) (w' : World) : Prop :=
  ∃ A c, e = .returned (.slice A l.length c) ∧ RowIn 9 w w' (.slice A l.length c) l.length (l.map Value.string)

theorem wordsB_eq (s : ByteArray) : wordsB s = (splitW [] (folds (bys s))).map fun x => ofB (enc (x.take 32)) := by
  simp [wordsB, wordsL, wordsR, List.map_map, Function.comp_def, ofB]

set_option maxRecDepth 100000 in
set_option maxHeartbeats 2000000 in
theorem Words_any (s : ByteArray) (w : World) (hs : s.size ≤ 1000000) :
    Calls Try.prog 10 #[.string s] w (StrsOut w (wordsB s)) := by
  have hfl := enc_len (folds (bys s))
  have hrl := runesD_len (bys s)
  have hsz : (ofB (foldS (bys s))).size ≤ 4000000 := by
    rw [size_bys, bys_ofB]
    have : (folds (bys s)).length = (runesD (bys s)).length := by simp [folds]
    rw [← size_bys] at hrl
    unfold foldS
    omega
  have hfe := fields_enc (folds (bys s)) (folds_valid _)
  have hwb := wordsB_eq s
  have hval : ∀ x ∈ splitW [] (folds (bys s)), ∀ r ∈ x, Vr r := fun x hx r hr => by
    rcases splitW_mem _ _ x hx r hr with h | h
    · cases h
    · exact folds_valid _ r h
  have eg : ∀ args w, (callFunc 25 args).run Try.prog w = .ok (.enter 25 args) w := enters_of Try.func25 (by kernel_rfl) rfl
  have KF := fun W => Try.strings_FieldsFunc_runes 25 #[] eg (fun r => !letterR r) (ofB (foldS (bys s))) W (by omega) (notLetter_runes W)
  rw [show ofB (foldS (bys s)) = ofB (enc (folds (bys s))) from rfl] at KF hsz
  rw [hfe] at KF
  have KU := uFold_any s w hs
  rw [show ofB (foldS (bys s)) = ofB (enc (folds (bys s))) from rfl] at KU
  generalize splitW [] (folds (bys s)) = ws at *
  have HW := Lib.hid hwb
  have HV := Lib.hid hval
  have HKF := Lib.hid KF
  have HKU := Lib.hid KU
  generalize ofB (enc (folds (bys s))) = S at *
  clear hfl hrl hfe hwb hval eg KF KU
  go_enter Try.func10, Try.ntmps10
  go_wp2_with fail
  refine HKU.out.mono ?_
  rintro e w1 ⟨rfl, f1⟩
  go_wp2_with fail
  refine (HKF.out w1).mono ?_
  rintro e w2 ⟨A, rfl, hA, hown, hbel⟩
  rw [List.length_map, List.map_map] at hown
  have hr0 : RowIn 9 w w2 (.slice (some ⟨A, 0, none⟩) ws.length ws.length) ws.length (mixW ws 0) := (⟨by
    have : mixW ws 0 = ws.map (Value.string ∘ fun w => ofB (enc w)) := by simp [mixW, Function.comp_def]
    rw [this]
    exact hown, Frm.of_below hbel⟩ : RowIn 9 w1 w2 (.slice (some ⟨A, 0, none⟩) ws.length ws.length) ws.length (mixW ws 0)).since f1
  have hm : ws.length ≤ 9223372036854775807 := by
    obtain ⟨_, c0, e0, -, h1, h2, -⟩ := hr0.shape
    unfold maxLen at h2
    omega
  have HR := Lib.hid hr0
  rw [List.length_map]
  clear hown hbel hr0 f1
  go_wp2
  go_loopw [11] (fun i wr => ∃ k : Nat, k ≤ ws.length ∧ i = .int .i64 k ∧ RowIn 9 w wr (.slice (some ⟨A, 0, none⟩) ws.length ws.length) ws.length (mixW ws k)) (fun i _ => ws.length - (intOf i).toNat)
  case atStart => exact ⟨0, Nat.zero_le _, rfl, HR.out⟩
  case round =>
    obtain ⟨k, hk, rfl, hrow⟩ := hrel
    have HRow := Lib.hid hrow
    by_cases hlt : k < ws.length
    · obtain ⟨g, hg, hcell, -, -, -, -⟩ := hrow.set_ k hlt undef
      injection hg with hg
      injection hg with hg
      subst hg
      rw [mixW_at ws k hlt] at hcell
      have hx := HV.out ws[k] (List.getElem_mem hlt)
      have KS := Lib.hid (short_any ws[k] hx wr)
      have HSet := Lib.hid (mixW_set ws k hlt)
      have hk0 : (0 : Int) ≤ (k : Int) := Int.natCast_nonneg _
      have hk1 : (k : Int) < (ws.length : Int) := by omega
      clear hrow hx
      go_wp2_with fail
      refine KS.out.mono ?_
      rintro e w3 ⟨rfl, f3⟩
      obtain ⟨g, hg, hcell3, hfz3, hrow3, -, hgl⟩ := (HRow.out.more f3).set_ k hlt (.string (ofB (enc (ws[k].take 32))))
      injection hg with hg
      injection hg with hg
      subst hg
      rw [mixW_at ws k hlt] at hcell3
      rw [HSet.out] at hrow3
      have HR3 := Lib.hid hrow3
      clear hrow3 hcell f3
      generalize ofB (enc (ws[k].take 32)) = T at *
      go_wp2
      go_roundw
      case rel => exact ⟨k + 1, by omega, by go_num, HR3.out⟩
      case measure => simp [intOf]; omega
    · obtain rfl : k = ws.length := by omega
      clear hrow
      go_wp2
      go_ret
      refine ⟨some ⟨A, 0, none⟩, ws.length, ?_, ?_⟩
      · rw [HW.out, List.length_map]; rfl
      · rw [HW.out, List.length_map, List.map_map]
        have : mixW ws ws.length = ws.map (Value.string ∘ fun x => ofB (enc (x.take 32))) := by simp [mixW, Function.comp_def]
        rw [← this]
        exact HRow.out
end Go.Proofs.Ytnnfgbnnodcepaa
