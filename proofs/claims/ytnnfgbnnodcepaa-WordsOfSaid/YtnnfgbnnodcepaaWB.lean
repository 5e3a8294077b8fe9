/-
  Contracts: the first rune of a text (newsstandref05.First).
-/
import Derived.Test.YtnnfgbnnodcepaaWA
namespace Go.Proofs.Ytnnfgbnnodcepaa
open Go.RowKit Go.Lib

def FirstOut (w : World) (x : Nat × Nat) (e : Ending) (w' : World) : Prop := e = .returned (.tuple #[.int .i32 x.1, .int .i64 x.2]) ∧ w = w'
theorem bat_get (s : ByteArray) (k : Nat) (h : k < s.size) : (s[k]'h).toNat = bat (bys s) k := by
  unfold bat
  rw [List.getD_eq_getElem?_getD, List.getElem?_eq_getElem (by rw [← size_bys]; exact h)]
  rfl

set_option maxRecDepth 100000 in
set_option maxHeartbeats 1000000 in
theorem First2 (s : ByteArray) (w : World) (hs : s.size ≤ 1000000) (h0 : 0 < s.size) (hb : 192 ≤ bat (bys s) 0 ∧ bat (bys s) 0 < 224) :
    Calls Try.prog 34 #[.string s] w (FirstOut w (decodeL (bys s))) := by
  have HB := Lib.hid hb
  have hb0 := bat_get s 0 h0
  obtain ⟨C, hC⟩ : ∃ C, bat (bys s) 0 = C := ⟨_, rfl⟩
  rw [hC] at hb0 hb
  have HC := Lib.hid hC
  have b1 : (192 : Int) ≤ (C : Int) := by omega
  have b2 : (C : Int) < 224 := by omega
  clear hC hb
  by_cases hsz : s.size < 2
  · have hd : decide ((s.size : Int) < 2) = true := by simp; omega
    have HR : Hid (decodeL (bys s) = (65533, 1)) := by
      refine dec2_no HB.out 1 ⟨by omega, by omega⟩ fun ht => ?_
      have := tl_len ht
      rw [← size_bys] at this
      omega
    go_enter Try.func34, Try.ntmps34
    go_wp2
    go_ret2
    refine ⟨?_, rfl⟩
    rw [HR.out]
    rfl
  have hd : decide ((s.size : Int) < 2) = false := by simp; omega
  go_enter Try.func34, Try.ntmps34
  go_wp2
  go_loop [6, 8] (fun r i => ∃ k : Nat, 1 ≤ k ∧ k ≤ 2 ∧ i = .int .i64 k ∧ r = .int .i32 (accF (C - 192) (bys s) k) ∧ ∀ j, 1 ≤ j ∧ j < k → isTl (bys s) j) (fun _ i => 2 - (intOf i).toNat)
  case atStart => exact ⟨1, by omega, by omega, rfl, by rw [accF_one]; go_num, fun j hj => by omega⟩
  case round =>
    obtain ⟨k, hk1, hk2, rfl, rfl, hall⟩ := hrel
    have HA := Lib.hid hall
    clear hall
    by_cases hlt : k < 2
    · have hks : k < s.size := by omega
      have hbk := bat_get s k hks
      obtain ⟨T, hT⟩ : ∃ T, bat (bys s) k = T := ⟨_, rfl⟩
      have hT256 := bat_lt (bys s) k
      rw [hT] at hbk hT256
      by_cases ht : 128 ≤ T ∧ T < 192
      · have HS : Hid (accF (C - 192) (bys s) (k + 1) = accF (C - 192) (bys s) k * 64 + (T - 128)) := by unfold Hid; rw [accF_succ _ _ k hk1, hT]
        have hle := accF_le (C - 192) (bys s) (by omega) k (by omega)
        have HT : Hid (∀ j, 1 ≤ j ∧ j < k + 1 → isTl (bys s) j) := fun j hj => by
          by_cases e : j = k
          · subst e
            unfold isTl
            omega
          · exact HA.out j (by omega)
        have hdt : decide (128 ≤ (T : Int) ∧ (T : Int) < 192) = true := by simp; omega
        have t1 : (128 : Int) ≤ (T : Int) := by omega
        have KT := rtail_any (T : Int)
        rw [hdt] at KT
        clear hT ht hdt
        generalize accF (C - 192) (bys s) k = Acc at *
        go_wp2_with (go_at_call 46; refine (KT _).mono ?_; rintro e w' ⟨rfl, rfl⟩)
        go_round
        case rel => exact ⟨k + 1, by omega, by omega, by go_num, by rw [HS.out]; go_num, HT.out⟩
        case measure => simp [intOf]; omega
      · have HR : Hid (decodeL (bys s) = (65533, 1)) := dec2_no HB.out k ⟨hk1, hlt⟩ (by unfold isTl; omega)
        have hdt : decide (128 ≤ (T : Int) ∧ (T : Int) < 192) = false := by simp; omega
        have KT := rtail_any (T : Int)
        rw [hdt] at KT
        clear hT ht hdt
        go_wp2_with (go_at_call 46; refine (KT _).mono ?_; rintro e w' ⟨rfl, rfl⟩)
        go_ret2
        refine ⟨?_, rfl⟩
        rw [HR.out]
        rfl
    · obtain rfl : k = 2 := by omega
      have hdec := dec2_yes HB.out HA.out
      rw [HC.out] at hdec
      have hle := accF_le (C - 192) (bys s) (by omega) 2 (by omega)
      obtain ⟨Acc, hAcc⟩ : ∃ Acc, accF (C - 192) (bys s) 2 = Acc := ⟨_, rfl⟩
      rw [hAcc] at hdec hle
      have HD := Lib.hid hdec
      have HAcc := Lib.hid hAcc
      clear hdec
      by_cases hbad : Acc < 128 ∨ 1114111 < Acc ∨ (55296 ≤ Acc ∧ Acc ≤ 57343)
      · have HR : Hid (decodeL (bys s) = (65533, 1)) := by
          unfold Hid
          rw [HD.out, outOf, if_pos hbad]
        have HBad := Lib.hid hbad
        clear hbad
        go_wp2
        all_goals first
          | (go_ret2
             refine ⟨?_, rfl⟩
             rw [HR.out]
             rfl)
          | (exfalso; have := HBad.out; simp_all; done)
          | (exfalso; have := HBad.out; simp_all; omega)
      · have HR : Hid (decodeL (bys s) = (Acc, 2)) := by
          unfold Hid
          rw [HD.out, outOf, if_neg hbad]
        have d1 : decide ((Acc : Int) < 128) = false := by simp; omega
        have d2 : decide ((1114111 : Int) < (Acc : Int)) = false := by simp; omega
        have HBad := Lib.hid hbad
        clear hbad
        go_wp2
        all_goals first
          | (exfalso; have := HBad.out; simp_all; done)
          | (exfalso; have := HBad.out; simp_all; omega)
          | (go_ret2
             refine ⟨?_, rfl⟩
             rw [HR.out]
             rfl)

set_option maxRecDepth 100000 in
set_option maxHeartbeats 1000000 in
theorem First3 (s : ByteArray) (w : World) (hs : s.size ≤ 1000000) (h0 : 0 < s.size) (hb : 224 ≤ bat (bys s) 0 ∧ bat (bys s) 0 < 240) :
    Calls Try.prog 34 #[.string s] w (FirstOut w (decodeL (bys s))) := by
  have HB := Lib.hid hb
  have hb0 := bat_get s 0 h0
  obtain ⟨C, hC⟩ : ∃ C, bat (bys s) 0 = C := ⟨_, rfl⟩
  rw [hC] at hb0 hb
  have HC := Lib.hid hC
  have b1 : (224 : Int) ≤ (C : Int) := by omega
  have b2 : (C : Int) < 240 := by omega
  clear hC hb
  by_cases hsz : s.size < 3
  · have hd : decide ((s.size : Int) < 3) = true := by simp; omega
    have HR : Hid (decodeL (bys s) = (65533, 1)) := by
      refine dec3_no HB.out 2 ⟨by omega, by omega⟩ fun ht => ?_
      have := tl_len ht
      rw [← size_bys] at this
      omega
    go_enter Try.func34, Try.ntmps34
    go_wp2
    go_ret2
    refine ⟨?_, rfl⟩
    rw [HR.out]
    rfl
  have hd : decide ((s.size : Int) < 3) = false := by simp; omega
  go_enter Try.func34, Try.ntmps34
  go_wp2
  go_loop [6, 8] (fun r i => ∃ k : Nat, 1 ≤ k ∧ k ≤ 3 ∧ i = .int .i64 k ∧ r = .int .i32 (accF (C - 224) (bys s) k) ∧ ∀ j, 1 ≤ j ∧ j < k → isTl (bys s) j) (fun _ i => 3 - (intOf i).toNat)
  case atStart => exact ⟨1, by omega, by omega, rfl, by rw [accF_one]; go_num, fun j hj => by omega⟩
  case round =>
    obtain ⟨k, hk1, hk2, rfl, rfl, hall⟩ := hrel
    have HA := Lib.hid hall
    clear hall
    by_cases hlt : k < 3
    · have hks : k < s.size := by omega
      have hbk := bat_get s k hks
      obtain ⟨T, hT⟩ : ∃ T, bat (bys s) k = T := ⟨_, rfl⟩
      have hT256 := bat_lt (bys s) k
      rw [hT] at hbk hT256
      by_cases ht : 128 ≤ T ∧ T < 192
      · have HS : Hid (accF (C - 224) (bys s) (k + 1) = accF (C - 224) (bys s) k * 64 + (T - 128)) := by unfold Hid; rw [accF_succ _ _ k hk1, hT]
        have hle := accF_le (C - 224) (bys s) (by omega) k (by omega)
        have HT : Hid (∀ j, 1 ≤ j ∧ j < k + 1 → isTl (bys s) j) := fun j hj => by
          by_cases e : j = k
          · subst e
            unfold isTl
            omega
          · exact HA.out j (by omega)
        have hdt : decide (128 ≤ (T : Int) ∧ (T : Int) < 192) = true := by simp; omega
        have t1 : (128 : Int) ≤ (T : Int) := by omega
        have KT := rtail_any (T : Int)
        rw [hdt] at KT
        clear hT ht hdt
        generalize accF (C - 224) (bys s) k = Acc at *
        go_wp2_with (go_at_call 46; refine (KT _).mono ?_; rintro e w' ⟨rfl, rfl⟩)
        go_round
        case rel => exact ⟨k + 1, by omega, by omega, by go_num, by rw [HS.out]; go_num, HT.out⟩
        case measure => simp [intOf]; omega
      · have HR : Hid (decodeL (bys s) = (65533, 1)) := dec3_no HB.out k ⟨hk1, hlt⟩ (by unfold isTl; omega)
        have hdt : decide (128 ≤ (T : Int) ∧ (T : Int) < 192) = false := by simp; omega
        have KT := rtail_any (T : Int)
        rw [hdt] at KT
        clear hT ht hdt
        go_wp2_with (go_at_call 46; refine (KT _).mono ?_; rintro e w' ⟨rfl, rfl⟩)
        go_ret2
        refine ⟨?_, rfl⟩
        rw [HR.out]
        rfl
    · obtain rfl : k = 3 := by omega
      have hdec := dec3_yes HB.out HA.out
      rw [HC.out] at hdec
      have hle := accF_le (C - 224) (bys s) (by omega) 3 (by omega)
      obtain ⟨Acc, hAcc⟩ : ∃ Acc, accF (C - 224) (bys s) 3 = Acc := ⟨_, rfl⟩
      rw [hAcc] at hdec hle
      have HD := Lib.hid hdec
      have HAcc := Lib.hid hAcc
      clear hdec
      by_cases hbad : Acc < 2048 ∨ 1114111 < Acc ∨ (55296 ≤ Acc ∧ Acc ≤ 57343)
      · have HR : Hid (decodeL (bys s) = (65533, 1)) := by
          unfold Hid
          rw [HD.out, outOf, if_pos hbad]
        have HBad := Lib.hid hbad
        clear hbad
        go_wp2
        all_goals first
          | (go_ret2
             refine ⟨?_, rfl⟩
             rw [HR.out]
             rfl)
          | (exfalso; have := HBad.out; simp_all; done)
          | (exfalso; have := HBad.out; simp_all; omega)
      · have HR : Hid (decodeL (bys s) = (Acc, 3)) := by
          unfold Hid
          rw [HD.out, outOf, if_neg hbad]
        have d1 : decide ((Acc : Int) < 2048) = false := by simp; omega
        have d2 : decide ((1114111 : Int) < (Acc : Int)) = false := by simp; omega
        have HBad := Lib.hid hbad
        clear hbad
        go_wp2
        all_goals first
          | (exfalso; have := HBad.out; simp_all; done)
          | (exfalso; have := HBad.out; simp_all; omega)
          | (go_ret2
             refine ⟨?_, rfl⟩
             rw [HR.out]
             rfl)

set_option maxRecDepth 100000 in
set_option maxHeartbeats 1000000 in
theorem First4 (s : ByteArray) (w : World) (hs : s.size ≤ 1000000) (h0 : 0 < s.size) (hb : 240 ≤ bat (bys s) 0 ∧ bat (bys s) 0 < 248) :
    Calls Try.prog 34 #[.string s] w (FirstOut w (decodeL (bys s))) := by
  have HB := Lib.hid hb
  have hb0 := bat_get s 0 h0
  obtain ⟨C, hC⟩ : ∃ C, bat (bys s) 0 = C := ⟨_, rfl⟩
  rw [hC] at hb0 hb
  have HC := Lib.hid hC
  have b1 : (240 : Int) ≤ (C : Int) := by omega
  have b2 : (C : Int) < 248 := by omega
  clear hC hb
  by_cases hsz : s.size < 4
  · have hd : decide ((s.size : Int) < 4) = true := by simp; omega
    have HR : Hid (decodeL (bys s) = (65533, 1)) := by
      refine dec4_no HB.out 3 ⟨by omega, by omega⟩ fun ht => ?_
      have := tl_len ht
      rw [← size_bys] at this
      omega
    go_enter Try.func34, Try.ntmps34
    go_wp2
    go_ret2
    refine ⟨?_, rfl⟩
    rw [HR.out]
    rfl
  have hd : decide ((s.size : Int) < 4) = false := by simp; omega
  go_enter Try.func34, Try.ntmps34
  go_wp2
  go_loop [6, 8] (fun r i => ∃ k : Nat, 1 ≤ k ∧ k ≤ 4 ∧ i = .int .i64 k ∧ r = .int .i32 (accF (C - 240) (bys s) k) ∧ ∀ j, 1 ≤ j ∧ j < k → isTl (bys s) j) (fun _ i => 4 - (intOf i).toNat)
  case atStart => exact ⟨1, by omega, by omega, rfl, by rw [accF_one]; go_num, fun j hj => by omega⟩
  case round =>
    obtain ⟨k, hk1, hk2, rfl, rfl, hall⟩ := hrel
    have HA := Lib.hid hall
    clear hall
    by_cases hlt : k < 4
    · have hks : k < s.size := by omega
      have hbk := bat_get s k hks
      obtain ⟨T, hT⟩ : ∃ T, bat (bys s) k = T := ⟨_, rfl⟩
      have hT256 := bat_lt (bys s) k
      rw [hT] at hbk hT256
      by_cases ht : 128 ≤ T ∧ T < 192
      · have HS : Hid (accF (C - 240) (bys s) (k + 1) = accF (C - 240) (bys s) k * 64 + (T - 128)) := by unfold Hid; rw [accF_succ _ _ k hk1, hT]
        have hle := accF_le (C - 240) (bys s) (by omega) k (by omega)
        have HT : Hid (∀ j, 1 ≤ j ∧ j < k + 1 → isTl (bys s) j) := fun j hj => by
          by_cases e : j = k
          · subst e
            unfold isTl
            omega
          · exact HA.out j (by omega)
        have hdt : decide (128 ≤ (T : Int) ∧ (T : Int) < 192) = true := by simp; omega
        have t1 : (128 : Int) ≤ (T : Int) := by omega
        have KT := rtail_any (T : Int)
        rw [hdt] at KT
        clear hT ht hdt
        generalize accF (C - 240) (bys s) k = Acc at *
        go_wp2_with (go_at_call 46; refine (KT _).mono ?_; rintro e w' ⟨rfl, rfl⟩)
        go_round
        case rel => exact ⟨k + 1, by omega, by omega, by go_num, by rw [HS.out]; go_num, HT.out⟩
        case measure => simp [intOf]; omega
      · have HR : Hid (decodeL (bys s) = (65533, 1)) := dec4_no HB.out k ⟨hk1, hlt⟩ (by unfold isTl; omega)
        have hdt : decide (128 ≤ (T : Int) ∧ (T : Int) < 192) = false := by simp; omega
        have KT := rtail_any (T : Int)
        rw [hdt] at KT
        clear hT ht hdt
        go_wp2_with (go_at_call 46; refine (KT _).mono ?_; rintro e w' ⟨rfl, rfl⟩)
        go_ret2
        refine ⟨?_, rfl⟩
        rw [HR.out]
        rfl
    · obtain rfl : k = 4 := by omega
      have hdec := dec4_yes HB.out HA.out
      rw [HC.out] at hdec
      have hle := accF_le (C - 240) (bys s) (by omega) 4 (by omega)
      obtain ⟨Acc, hAcc⟩ : ∃ Acc, accF (C - 240) (bys s) 4 = Acc := ⟨_, rfl⟩
      rw [hAcc] at hdec hle
      have HD := Lib.hid hdec
      have HAcc := Lib.hid hAcc
      clear hdec
      by_cases hbad : Acc < 65536 ∨ 1114111 < Acc ∨ (55296 ≤ Acc ∧ Acc ≤ 57343)
      · have HR : Hid (decodeL (bys s) = (65533, 1)) := by
          unfold Hid
          rw [HD.out, outOf, if_pos hbad]
        have HBad := Lib.hid hbad
        clear hbad
        go_wp2
        all_goals first
          | (go_ret2
             refine ⟨?_, rfl⟩
             rw [HR.out]
             rfl)
          | (exfalso; have := HBad.out; simp_all; done)
          | (exfalso; have := HBad.out; simp_all; omega)
      · have HR : Hid (decodeL (bys s) = (Acc, 4)) := by
          unfold Hid
          rw [HD.out, outOf, if_neg hbad]
        have d0 : (65536 : Int) ≤ (Acc : Int) := by omega
        have d2 : (Acc : Int) ≤ 1114111 := by omega
        have d3 : ¬ (Acc : Int) ≤ 57343 := by omega
        clear hle
        have HBad := Lib.hid hbad
        clear hbad
        go_wp2
        all_goals first
          | (exfalso; have := HBad.out; simp_all; done)
          | (exfalso; have := HBad.out; simp_all; omega)
          | (go_ret2
             refine ⟨?_, rfl⟩
             rw [HR.out]
             rfl)

set_option maxRecDepth 100000 in
set_option maxHeartbeats 1000000 in
theorem First_any (s : ByteArray) (w : World) (hs : s.size ≤ 1000000) (h0 : 0 < s.size) :
    Calls Try.prog 34 #[.string s] w (FirstOut w (decodeL (bys s))) := by
  by_cases h2 : 192 ≤ bat (bys s) 0 ∧ bat (bys s) 0 < 224
  · exact First2 s w hs h0 h2
  by_cases h3 : 224 ≤ bat (bys s) 0 ∧ bat (bys s) 0 < 240
  · exact First3 s w hs h0 h3
  by_cases h4 : 240 ≤ bat (bys s) 0 ∧ bat (bys s) 0 < 248
  · exact First4 s w hs h0 h4
  have hb0 := bat_get s 0 h0
  by_cases h1 : bat (bys s) 0 < 128
  · have HR := Lib.hid (dec1 h1)
    generalize bat (bys s) 0 = C at *
    clear h2 h3 h4
    go_enter Try.func34, Try.ntmps34
    go_wp2
    all_goals first
      | (go_ret2
         refine ⟨?_, rfl⟩
         rw [HR.out]
         done)
      | (go_ret2
         refine ⟨?_, rfl⟩
         rw [HR.out]
         rfl)
      | (exfalso; omega)
  · have HR := Lib.hid (decBad (l := bys s) (by omega))
    generalize bat (bys s) 0 = C at *
    have HH : Hid ((128 ≤ C ∧ C < 192) ∨ 248 ≤ C) := by unfold Hid; omega
    clear h2 h3 h4
    go_enter Try.func34, Try.ntmps34
    go_wp2
    all_goals first
      | (go_ret2
         refine ⟨?_, rfl⟩
         rw [HR.out]
         rfl)
      | (exfalso; have := HH.out; simp_all; done)
      | (exfalso; have := HH.out; simp_all; omega)
end Go.Proofs.Ytnnfgbnnodcepaa
