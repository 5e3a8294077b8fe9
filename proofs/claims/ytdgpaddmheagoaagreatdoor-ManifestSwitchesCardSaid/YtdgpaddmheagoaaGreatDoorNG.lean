/-
  Contracts: what was sealed, opened, by the program and by the document.
-/
import Derived.Test.YtdgpaddmheagoaaGreatDoorNF
import Derived.Deep.RegionHeld3
namespace Go.Proofs.YtdgpaddmheagoaaGreatDoor
open Go.RowKit
set_option linter.unusedVariables false

def OpenOut (w : World) (l : List UInt8) (e : Ending) (w' : World) : Prop :=
  match openB l with
  | some x => BytesOkOut w x 0 e w'
  | none => e = .returned (.tuple #[.slice none 0 0, .int .i64 20]) ∧ Frm Nix w w'

theorem openB_short {l : List UInt8} (h : l.length < 4) : openB l = none := by unfold openB; rw [if_neg (by omega)]
theorem openB_iff {l : List UInt8} (h : 4 ≤ l.length) : openB l = if wordN (l.drop (l.length - 4)) = sumN (l.take (l.length - 4)) then some (l.take (l.length - 4)) else none := by
  have hd : (l.drop (l.length - 4)).length = 4 := by rw [List.length_drop]; omega
  have hw := wordN_word hd (sumN_lt (l.take (l.length - 4)))
  have hs : sealB (l.take (l.length - 4)) = l ↔ wordB (sumN (l.take (l.length - 4))) = l.drop (l.length - 4) := by
    unfold sealB
    constructor
    · intro e
      have := congrArg (List.drop (l.length - 4)) e
      rw [List.drop_append_of_le_length (by rw [List.length_take]; omega), List.drop_of_length_le (by rw [List.length_take]; omega)] at this
      simpa using this
    · intro e
      rw [e, List.take_append_drop]
  unfold openB
  by_cases hx : wordN (l.drop (l.length - 4)) = sumN (l.take (l.length - 4))
  · rw [if_pos hx, if_pos ⟨h, hs.2 (hw.2 hx)⟩]
  · rw [if_neg hx, if_neg (fun k => hx (hw.1 (hs.1 k.2)))]

set_option maxRecDepth 100000 in
set_option maxHeartbeats 1000000 in
theorem Open_any (A : Option Addr) (n c : Nat) (l : List UInt8) (G : Nat → Prop) (w : World) (hl : l.length = n) (hr : Rd w G 1 A n (bvs l)) (hn : n ≤ 35184372088832) (hc : n ≤ c) (hm : c ≤ maxLen) (hnil : NilOk A n c) (ht : Tab w) :
    Calls Tryz.prog 48 #[.slice A n c] w (OpenOut w l) := by
  by_cases h4 : n < 4
  · have HE : Hid (∀ j, OpenOut w l (.returned (.tuple #[.slice none 0 0, .int .i64 20])) (w.drewN j)) := by
      intro j
      unfold OpenOut
      rw [openB_short (by omega)]
      exact ⟨rfl, (Frm.refl _ w).drewN j⟩
    clear hl hr ht hnil
    have h5 : decide ((n : Int) - 4 < 0) = true := by simp; omega
    unfold maxLen at hm
    go_enter Tryz.func48, Tryz.ntmps48
    go_wp2
    go_quiet (fail)
    go_wp2
    go_ret2
    exact HE.out _
  · obtain ⟨k, rfl⟩ : ∃ k, n = k + 4 := ⟨n - 4, by omega⟩
    unfold maxLen at hm
    obtain ⟨ad, rfl, hG, hlt, hcell⟩ := hr.2 (by omega)
    clear hG hlt hcell
    have e0 : l.length - 4 = k := by omega
    have hd := hr.cut (k := k) (cap := c) (by omega) hc
    rw [if_neg (by omega), Nat.mul_one] at hd
    have htk := hr.take (k := k) (by omega)
    rw [Nat.mul_one] at htk
    have e4 : (l.drop k).length = 4 := by rw [List.length_drop]; omega
    have e5 : (l.take k).length = k := by rw [List.length_take]; omega
    have e6 : k + 4 - k = 4 := by omega
    rw [e6] at hd
    have hck : ¬ c = k := by omega
    have hk0 : decide ((k : Int) < 0) = false := by simp
    have hk1 : (0 : Int) ≤ (k : Int) := by omega
    have hk2 : (k : Int) ≤ (c : Int) := by omega
    have hk3 : (k : Int) ≤ (k : Int) + 4 := by omega
    have KF : Hid (∀ W, Frm Nix w W → Calls Tryz.prog 49 #[.slice (some (ad.add k)) 4 (c - k)] W (FromOut W (l.drop k))) :=
      fun W hW => From_any (some (ad.add k)) 4 (c - k) (l.drop k) (fun _ => True) W e4 (by rw [bvs_drop]; exact (hd.frm hW fun _ _ => id).mono fun _ _ => trivial) (by omega) (fun h => by cases h)
    have KS : Hid (∀ W, Frm Nix w W → Calls Tryz.prog 77 #[.slice (some ad) k c] W fun e w' => e = .returned (.int .u32 (sumN (l.take k) : Nat)) ∧ W = w') :=
      fun W hW => Sum_any (some ad) k c (l.take k) (fun _ => True) W e5 (by rw [bvs_take]; exact (htk.frm hW fun _ _ => id).mono fun _ _ => trivial) (by omega) (ht.nix hW)
    have KC : Hid (∀ W, Frm Nix w W → Calls Tryz.prog 66 #[.slice (some ad) k c] W fun e w' => ∃ v, e = .returned v ∧ w'.ownsRow W.heap.size 5 1 v k (bvs (l.take k)) ∧ Frm Nix W w') :=
      fun W hW => CloneB_any (some ad) k c (bvs (l.take k)) (fun _ => True) W (by rw [bvs_take]; exact (htk.frm hW fun _ _ => id).mono fun _ _ => trivial) (bvs_one _) (by omega) (fun h => by cases h)
    have hsl := sumN_lt (l.take k)
    have hwl : wordN ((l.drop k).take 4) < 4294967296 := by
      have := wordN_lt ((l.drop k).take 4)
      rw [List.length_take, e4] at this
      exact this
    have HO : Hid (openB l = if wordN ((l.drop k).take 4) = sumN (l.take k) then some (l.take k) else none) := by
      unfold Hid
      rw [openB_iff (by omega), e0, List.take_of_length_le (l := l.drop k) (by omega)]
    have KWD : Hid (∀ (W : World) (g : Nat) (G : Nat → Prop), RdrAt W tRdr g G (l.drop k) false → Calls Tryz.prog 78 #[.pointer (some ⟨g, 0, none⟩)] W fun e w' => e = .returned (.int .u32 (wordN ((l.drop k).take 4) : Nat)) ∧ Frm (· = g) W w') :=
      fun W g G h => (WordRd_yes h (by omega)).mono fun _ _ h => ⟨h.1, h.2.2⟩
    have H5 := Lib.hid e5
    clear e4 e5 e6 hd htk hr ht hnil hl e0
    generalize wordN ((l.drop k).take 4) = wv at *
    generalize sumN (l.take k) = sv at *
    have HW : Hid (∀ (W1 W2 : World) (g1 : Nat), Frm Nix w.drew W1 → Frm (· = g1) W1 W2 → w.drew.heap.size ≤ g1 → Frm Nix w W2) :=
      fun W1 W2 g1 a b c => ((Frm.refl Nix w).drew.trans a).next b fun i hi => .inr (by subst hi; exact c)
    by_cases hx : wv = sv
    · subst hx
      rw [if_pos rfl] at HO
      have hb : ((wv : Int) != (wv : Int)) = false := by simp
      go_enter Tryz.func48, Tryz.ntmps48
      go_wp2
      go_region_held3 (fun w' => True) (first | go_keep | trivial)
        (first
          | (go_at_call 49; refine (KF.out _ ?_).mono ?_; exact (Frm.refl Nix w).drew; rintro e w1 ⟨g1, G1, rfl, hrd1, hf1, hg1, hG1⟩)
          | (go_at_call 78; refine (KWD.out _ _ _ (by assumption)).mono ?_; rintro e w2 ⟨rfl, hf2⟩)
          | (go_at_call 77; refine (KS.out _ ?_).mono ?_; exact (((Frm.refl Nix w).drew.trans (by assumption)).next (by assumption) (fun i hi => .inr (by subst hi; assumption))); rintro e w3 ⟨rfl, rfl⟩))
      have HF := Lib.hid (HW.out _ _ _ hf1 hf2 hg1)
      clear hrd1 hf1 hf2 hg1 hG1
      go_wp2_with fail
      refine (KC.out _ HF.out).mono ?_
      rintro e w3 ⟨v, rfl, hown, hf3⟩
      have HV := Lib.hid hown
      have HF3 := Lib.hid hf3
      clear hown hf3
      go_wp2
      go_ret2
      have hown := HV.out
      obtain ⟨A3, c3, rfl, -⟩ := own_shape hown
      unfold OpenOut
      rw [HO.out]
      have h5 := H5.out
      refine ⟨A3, c3, by rw [h5]; rfl, ?_⟩
      rw [h5]
      exact ⟨own_base hown fun j hj => by have := (hown.lt j hj).1; have := HF.out.size; omega, HF.out.trans HF3.out⟩
    · rw [if_neg hx] at HO
      have hb : ((wv : Int) != (sv : Int)) = true := by simp; omega
      clear hx
      go_enter Tryz.func48, Tryz.ntmps48
      go_wp2
      go_region_held3 (fun w' => True) (first | go_keep | trivial)
        (first
          | (go_at_call 49; refine (KF.out _ ?_).mono ?_; exact (Frm.refl Nix w).drew; rintro e w1 ⟨g1, G1, rfl, hrd1, hf1, hg1, hG1⟩)
          | (go_at_call 78; refine (KWD.out _ _ _ (by assumption)).mono ?_; rintro e w2 ⟨rfl, hf2⟩)
          | (go_at_call 77; refine (KS.out _ ?_).mono ?_; exact (((Frm.refl Nix w).drew.trans (by assumption)).next (by assumption) (fun i hi => .inr (by subst hi; assumption))); rintro e w3 ⟨rfl, rfl⟩))
      have HF := Lib.hid (HW.out _ _ _ hf1 hf2 hg1)
      clear hrd1 hf1 hf2 hg1 hG1
      go_wp2
      go_ret2
      unfold OpenOut
      rw [HO.out]
      exact ⟨rfl, HF.out⟩

def OpenROut (w : World) (l : List UInt8) (A : Option Addr) (c : Nat) (e : Ending) (w' : World) : Prop :=
  (e = .returned (match openB l with | some x => .tuple #[.slice A x.length c, .bool true] | none => .tuple #[.slice none 0 0, .bool false])) ∧ Frm Nix w w'

set_option maxRecDepth 100000 in
set_option maxHeartbeats 4000000 in
theorem OpenR_any (A : Option Addr) (n c : Nat) (l : List UInt8) (G : Nat → Prop) (w : World) (hl : l.length = n) (hr : Rd w G 1 A n (bvs l)) (hn : n ≤ 35184372088832) (hc : n ≤ c) (hm : c ≤ maxLen) :
    Calls Tryz.prog 69 #[.slice A n c] w (OpenROut w l A c) := by
  by_cases h4 : n < 4
  · have HE : Hid (∀ j, OpenROut w l A c (.returned (.tuple #[.slice none 0 0, .bool false])) (w.drewN j)) := by
      intro j
      unfold OpenROut
      rw [openB_short (by omega)]
      exact ⟨rfl, (Frm.refl _ w).drewN j⟩
    clear hl hr
    have h5 : decide ((n : Int) - 4 < 0) = true := by simp; omega
    unfold maxLen at hm
    go_enter Tryz.func69, Tryz.ntmps69
    go_wp2
    go_quiet (fail)
    go_wp2
    go_ret2
    exact HE.out _
  · obtain ⟨k, rfl⟩ : ∃ k, n = k + 4 := ⟨n - 4, by omega⟩
    unfold maxLen at hm
    have e0 : l.length - 4 = k := by omega
    have e5 : (l.take k).length = k := by rw [List.length_take]; omega
    have htk := hr.take (k := k) (by omega)
    rw [Nat.mul_one] at htk
    have hk0 : decide ((k : Int) < 0) = false := by simp
    have hk1 : (0 : Int) ≤ (k : Int) := by omega
    have hk2 : (k : Int) ≤ (c : Int) := by omega
    have hk3 : (k : Int) ≤ (k : Int) + 4 := by omega
    have KS : Hid (∀ W, Frm Nix w W → Calls Tryz.prog 18 #[.slice A k c] W (BytesOut W (sealB (l.take k)))) :=
      fun W hW => SealR_any A k c (l.take k) (fun _ => True) W e5 (by rw [bvs_take]; exact (htk.frm hW fun _ _ => id).mono fun _ _ => trivial) (by omega)
    have KV : Hid (∀ W, Frm Nix w W → (convert 35 9 (.slice A (k + 4) c)).run Tryz.prog W = .ok (.string ⟨l.toArray⟩) W) := fun W hW => run_str_of (hr.frm hW fun _ _ => id)
    have HO : Hid (openB l = if sealB (l.take k) = l then some (l.take k) else none) := by
      unfold Hid openB
      rw [e0]
      by_cases hx : sealB (l.take k) = l
      · rw [if_pos hx, if_pos ⟨by omega, hx⟩]
      · rw [if_neg hx, if_neg fun h => hx h.2]
    have H5 := Lib.hid e5
    clear e5 htk hr hl e0
    generalize hsb : sealB (l.take k) = sb at *
    have HSB := Lib.hid hsb
    clear hsb
    have KX : Hid (∀ (w1 : World) (A1 : Option Addr) (c1 : Nat), RowIn 5 w.drew w1 (.slice A1 sb.length c1) sb.length (bvs sb) → Frm Nix w w1 ∧ (convert 35 9 (.slice A1 sb.length c1)).run Tryz.prog w1 = .ok (.string ⟨sb.toArray⟩) w1 ∧ (convert 35 9 (.slice A (k + 4) c)).run Tryz.prog w1 = .ok (.string ⟨l.toArray⟩) w1) :=
      fun w1 A1 c1 h => ⟨(Frm.refl Nix w).drew.trans h.frm, run_str_of h.rd, KV.out w1 ((Frm.refl Nix w).drew.trans h.frm)⟩
    have hv0 := KV.out _ (Frm.refl Nix w).drew
    by_cases hx : sb = l
    · rw [if_pos hx] at HO
      subst hx
      go_enter Tryz.func69, Tryz.ntmps69
      go_wp2
      go_region_with ((go_at_call 18; refine (KS.out _ ?_).mono ?_; exact (Frm.refl Nix w).drew; rintro e w1 ⟨A1, c1, rfl, hrow1⟩; obtain ⟨hf1, hv1, hv2⟩ := KX.out _ _ _ hrow1))
      all_goals
        have HF := Lib.hid hf1
        clear hf1 hv1 hv2 hrow1
        go_wp2
        go_ret2
        refine ⟨?_, HF.out⟩
        rw [HO.out]
        show Ending.returned _ = Ending.returned (.tuple #[.slice A (sb.take k).length c, .bool true])
        rw [H5.out]
        rfl
    · rw [if_neg hx] at HO
      have hne : ((⟨sb.toArray⟩ : ByteArray).toList == (⟨l.toArray⟩ : ByteArray).toList) = false := by
        rw [beq_eq_false_iff_ne]
        intro e
        rw [ByteArray.toList_eq, ByteArray.toList_eq] at e
        exact hx (by simpa using e)
      have hne2 : (sb == l) = false := beq_eq_false_iff_ne.2 hx
      clear hx
      go_enter Tryz.func69, Tryz.ntmps69
      go_wp2
      go_region_with ((go_at_call 18; refine (KS.out _ ?_).mono ?_; exact (Frm.refl Nix w).drew; rintro e w1 ⟨A1, c1, rfl, hrow1⟩; obtain ⟨hf1, hv1, hv2⟩ := KX.out _ _ _ hrow1))
      all_goals
        have HF := Lib.hid hf1
        clear hf1 hv1 hv2 hrow1
        go_wp2
        go_ret2
        refine ⟨?_, HF.out⟩
        rw [HO.out]
        rfl
end Go.Proofs.YtdgpaddmheagoaaGreatDoor
