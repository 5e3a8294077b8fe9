/-
  Contracts: the first rune of a text (newsstandref05.First).
-/
import Derived.Test.YtjbifjgeheigoaaGreatGa02
import Derived.Test.YtjbifjgeheigoaaGreatGa04
section
namespace Go.Proofs.YtjbifjgeheigoaaGreat
open Go.RowKit Go.Lib

def FirstOut (w : World) (x : Nat × Nat) (e : Ending) (w' : World) : Prop := e = .returned (.tuple #[.int .i32 x.1, .int .i64 x.2]) ∧ w = w'
theorem bat_get (s : ByteArray) (k : Nat) (h : k < s.size) : (s[k]'h).toNat = bat (bys s) k := by
  unfold bat
  rw [List.getD_eq_getElem?_getD, List.getElem?_eq_getElem (by rw [← size_bys]; exact h)]
  rfl

set_option maxRecDepth 100000 in
set_option maxHeartbeats 1000000 in
theorem First2 (s : ByteArray) (w : World) (hs : s.size ≤ 1000000) (h0 : 0 < s.size) (hb : 192 ≤ bat (bys s) 0 ∧ bat (bys s) 0 < 224) :
    Calls Tryz.prog 171 #[.string s] w (FirstOut w (decodeL (bys s))) := by
  have HB := Lib.hid hb
  have hb0 := bat_get s 0 h0
  obtain ⟨C, hC⟩ : ∃ C, bat (bys s) 0 = C := ⟨_, rfl⟩
  rw [hC] at hb0 hb
  have HC := Lib.hid hC
  have b1 : (192 : Int) ≤ (C : Int) := by omega
  have b2 : (C : Int) < 224 := by omega
  clear hC hb
  by_cases hsz : s.size < 2
  · have hd : decide ((s.size : Int) < 2) = true := by simp; omega
    have HR : Hid (decodeL (bys s) = (65533, 1)) := by
      refine dec2_no HB.out 1 ⟨by omega, by omega⟩ fun ht => ?_
      have := tl_len ht
      rw [← size_bys] at this
      omega
    go_enter Tryz.func171, Tryz.ntmps171
    go_wp2
    go_ret2
    refine ⟨?_, rfl⟩
    rw [HR.out]
    rfl
  have hd : decide ((s.size : Int) < 2) = false := by simp; omega
  go_enter Tryz.func171, Tryz.ntmps171
  go_wp2
  go_loop [6, 8] (fun r i => ∃ k : Nat, 1 ≤ k ∧ k ≤ 2 ∧ i = .int .i64 k ∧ r = .int .i32 (accF (C - 192) (bys s) k) ∧ ∀ j, 1 ≤ j ∧ j < k → isTl (bys s) j) (fun _ i => 2 - (intOf i).toNat)
  case atStart => exact ⟨1, by omega, by omega, rfl, by rw [accF_one]; go_num, fun j hj => by omega⟩
  case round =>
    obtain ⟨k, hk1, hk2, rfl, rfl, hall⟩ := hrel
    have HA := Lib.hid hall
    clear hall
    by_cases hlt : k < 2
    · have hks : k < s.size := by omega
      have hbk := bat_get s k hks
      obtain ⟨T, hT⟩ : ∃ T, bat (bys s) k = T := ⟨_, rfl⟩
      have hT256 := bat_lt (bys s) k
      rw [hT] at hbk hT256
      by_cases ht : 128 ≤ T ∧ T < 192
      · have HS : Hid (accF (C - 192) (bys s) (k + 1) = accF (C - 192) (bys s) k * 64 + (T - 128)) := by unfold Hid; rw [accF_succ _ _ k hk1, hT]
        have hle := accF_le (C - 192) (bys s) (by omega) k (by omega)
        have HT : Hid (∀ j, 1 ≤ j ∧ j < k + 1 → isTl (bys s) j) := fun j hj => by
          by_cases e : j = k
          · subst e
            unfold isTl
            omega
          · exact HA.out j (by omega)
        have hdt : decide (128 ≤ (T : Int) ∧ (T : Int) < 192) = true := by simp; omega
        have t1 : (128 : Int) ≤ (T : Int) := by omega
        have KT := rtail_any (T : Int)
        rw [hdt] at KT
        clear hT ht hdt
        generalize accF (C - 192) (bys s) k = Acc at *
        go_wp2_with (go_at_call 217; refine (KT _).mono ?_; rintro e w' ⟨rfl, rfl⟩)
        go_round
        case rel => exact ⟨k + 1, by omega, by omega, by go_num, by rw [HS.out]; go_num, HT.out⟩
        case measure => simp [intOf]; omega
      · have HR : Hid (decodeL (bys s) = (65533, 1)) := dec2_no HB.out k ⟨hk1, hlt⟩ (by unfold isTl; omega)
        have hdt : decide (128 ≤ (T : Int) ∧ (T : Int) < 192) = false := by simp; omega
        have KT := rtail_any (T : Int)
        rw [hdt] at KT
        clear hT ht hdt
        go_wp2_with (go_at_call 217; refine (KT _).mono ?_; rintro e w' ⟨rfl, rfl⟩)
        go_ret2
        refine ⟨?_, rfl⟩
        rw [HR.out]
        rfl
    · obtain rfl : k = 2 := by omega
      have hdec := dec2_yes HB.out HA.out
      rw [HC.out] at hdec
      have hle := accF_le (C - 192) (bys s) (by omega) 2 (by omega)
      obtain ⟨Acc, hAcc⟩ : ∃ Acc, accF (C - 192) (bys s) 2 = Acc := ⟨_, rfl⟩
      rw [hAcc] at hdec hle
      have HD := Lib.hid hdec
      have HAcc := Lib.hid hAcc
      clear hdec
      by_cases hbad : Acc < 128 ∨ 1114111 < Acc ∨ (55296 ≤ Acc ∧ Acc ≤ 57343)
      · have HR : Hid (decodeL (bys s) = (65533, 1)) := by
          unfold Hid
          rw [HD.out, outOf, if_pos hbad]
        have HBad := Lib.hid hbad
        clear hbad
        go_wp2
        all_goals first
          | (go_ret2
             refine ⟨?_, rfl⟩
             rw [HR.out]
             rfl)
          | (exfalso; have := HBad.out; simp_all; done)
          | (exfalso; have := HBad.out; simp_all; omega)
      · have HR : Hid (decodeL (bys s) = (Acc, 2)) := by
          unfold Hid
          rw [HD.out, outOf, if_neg hbad]
        have d1 : decide ((Acc : Int) < 128) = false := by simp; omega
        have d2 : decide ((1114111 : Int) < (Acc : Int)) = false := by simp; omega
        have HBad := Lib.hid hbad
        clear hbad
        go_wp2
        all_goals first
          | (exfalso; have := HBad.out; simp_all; done)
          | (exfalso; have := HBad.out; simp_all; omega)
          | (go_ret2
             refine ⟨?_, rfl⟩
             rw [HR.out]
             rfl)

set_option maxRecDepth 100000 in
set_option maxHeartbeats 1000000 in
theorem First3 (s : ByteArray) (w : World) (hs : s.size ≤ 1000000) (h0 : 0 < s.size) (hb : 224 ≤ bat (bys s) 0 ∧ bat (bys s) 0 < 240) :
    Calls Tryz.prog 171 #[.string s] w (FirstOut w (decodeL (bys s))) := by
  have HB := Lib.hid hb
  have hb0 := bat_get s 0 h0
  obtain ⟨C, hC⟩ : ∃ C, bat (bys s) 0 = C := ⟨_, rfl⟩
  rw [hC] at hb0 hb
  have HC := Lib.hid hC
  have b1 : (224 : Int) ≤ (C : Int) := by omega
  have b2 : (C : Int) < 240 := by omega
  clear hC hb
  by_cases hsz : s.size < 3
  · have hd : decide ((s.size : Int) < 3) = true := by simp; omega
    have HR : Hid (decodeL (bys s) = (65533, 1)) := by
      refine dec3_no HB.out 2 ⟨by omega, by omega⟩ fun ht => ?_
      have := tl_len ht
      rw [← size_bys] at this
      omega
    go_enter Tryz.func171, Tryz.ntmps171
    go_wp2
    go_ret2
    refine ⟨?_, rfl⟩
    rw [HR.out]
    rfl
  have hd : decide ((s.size : Int) < 3) = false := by simp; omega
  go_enter Tryz.func171, Tryz.ntmps171
  go_wp2
  go_loop [6, 8] (fun r i => ∃ k : Nat, 1 ≤ k ∧ k ≤ 3 ∧ i = .int .i64 k ∧ r = .int .i32 (accF (C - 224) (bys s) k) ∧ ∀ j, 1 ≤ j ∧ j < k → isTl (bys s) j) (fun _ i => 3 - (intOf i).toNat)
  case atStart => exact ⟨1, by omega, by omega, rfl, by rw [accF_one]; go_num, fun j hj => by omega⟩
  case round =>
    obtain ⟨k, hk1, hk2, rfl, rfl, hall⟩ := hrel
    have HA := Lib.hid hall
    clear hall
    by_cases hlt : k < 3
    · have hks : k < s.size := by omega
      have hbk := bat_get s k hks
      obtain ⟨T, hT⟩ : ∃ T, bat (bys s) k = T := ⟨_, rfl⟩
      have hT256 := bat_lt (bys s) k
      rw [hT] at hbk hT256
      by_cases ht : 128 ≤ T ∧ T < 192
      · have HS : Hid (accF (C - 224) (bys s) (k + 1) = accF (C - 224) (bys s) k * 64 + (T - 128)) := by unfold Hid; rw [accF_succ _ _ k hk1, hT]
        have hle := accF_le (C - 224) (bys s) (by omega) k (by omega)
        have HT : Hid (∀ j, 1 ≤ j ∧ j < k + 1 → isTl (bys s) j) := fun j hj => by
          by_cases e : j = k
          · subst e
            unfold isTl
            omega
          · exact HA.out j (by omega)
        have hdt : decide (128 ≤ (T : Int) ∧ (T : Int) < 192) = true := by simp; omega
        have t1 : (128 : Int) ≤ (T : Int) := by omega
        have KT := rtail_any (T : Int)
        rw [hdt] at KT
        clear hT ht hdt
        generalize accF (C - 224) (bys s) k = Acc at *
        go_wp2_with (go_at_call 217; refine (KT _).mono ?_; rintro e w' ⟨rfl, rfl⟩)
        go_round
        case rel => exact ⟨k + 1, by omega, by omega, by go_num, by rw [HS.out]; go_num, HT.out⟩
        case measure => simp [intOf]; omega
      · have HR : Hid (decodeL (bys s) = (65533, 1)) := dec3_no HB.out k ⟨hk1, hlt⟩ (by unfold isTl; omega)
        have hdt : decide (128 ≤ (T : Int) ∧ (T : Int) < 192) = false := by simp; omega
        have KT := rtail_any (T : Int)
        rw [hdt] at KT
        clear hT ht hdt
        go_wp2_with (go_at_call 217; refine (KT _).mono ?_; rintro e w' ⟨rfl, rfl⟩)
        go_ret2
        refine ⟨?_, rfl⟩
        rw [HR.out]
        rfl
    · obtain rfl : k = 3 := by omega
      have hdec := dec3_yes HB.out HA.out
      rw [HC.out] at hdec
      have hle := accF_le (C - 224) (bys s) (by omega) 3 (by omega)
      obtain ⟨Acc, hAcc⟩ : ∃ Acc, accF (C - 224) (bys s) 3 = Acc := ⟨_, rfl⟩
      rw [hAcc] at hdec hle
      have HD := Lib.hid hdec
      have HAcc := Lib.hid hAcc
      clear hdec
      by_cases hbad : Acc < 2048 ∨ 1114111 < Acc ∨ (55296 ≤ Acc ∧ Acc ≤ 57343)
      · have HR : Hid (decodeL (bys s) = (65533, 1)) := by
          unfold Hid
          rw [HD.out, outOf, if_pos hbad]
        have HBad := Lib.hid hbad
        clear hbad
        go_wp2
        all_goals first
          | (go_ret2
             refine ⟨?_, rfl⟩
             rw [HR.out]
             rfl)
          | (exfalso; have := HBad.out; simp_all; done)
          | (exfalso; have := HBad.out; simp_all; omega)
      · have HR : Hid (decodeL (bys s) = (Acc, 3)) := by
          unfold Hid
          rw [HD.out, outOf, if_neg hbad]
        have d1 : decide ((Acc : Int) < 2048) = false := by simp; omega
        have d2 : decide ((1114111 : Int) < (Acc : Int)) = false := by simp; omega
        have HBad := Lib.hid hbad
        clear hbad
        go_wp2
        all_goals first
          | (exfalso; have := HBad.out; simp_all; done)
          | (exfalso; have := HBad.out; simp_all; omega)
          | (go_ret2
             refine ⟨?_, rfl⟩
             rw [HR.out]
             rfl)

set_option maxRecDepth 100000 in
set_option maxHeartbeats 1000000 in
theorem First4 (s : ByteArray) (w : World) (hs : s.size ≤ 1000000) (h0 : 0 < s.size) (hb : 240 ≤ bat (bys s) 0 ∧ bat (bys s) 0 < 248) :
    Calls Tryz.prog 171 #[.string s] w (FirstOut w (decodeL (bys s))) := by
  have HB := Lib.hid hb
  have hb0 := bat_get s 0 h0
  obtain ⟨C, hC⟩ : ∃ C, bat (bys s) 0 = C := ⟨_, rfl⟩
  rw [hC] at hb0 hb
  have HC := Lib.hid hC
  have b1 : (240 : Int) ≤ (C : Int) := by omega
  have b2 : (C : Int) < 248 := by omega
  clear hC hb
  by_cases hsz : s.size < 4
  · have hd : decide ((s.size : Int) < 4) = true := by simp; omega
    have HR : Hid (decodeL (bys s) = (65533, 1)) := by
      refine dec4_no HB.out 3 ⟨by omega, by omega⟩ fun ht => ?_
      have := tl_len ht
      rw [← size_bys] at this
      omega
    go_enter Tryz.func171, Tryz.ntmps171
    go_wp2
    go_ret2
    refine ⟨?_, rfl⟩
    rw [HR.out]
    rfl
  have hd : decide ((s.size : Int) < 4) = false := by simp; omega
  go_enter Tryz.func171, Tryz.ntmps171
  go_wp2
  go_loop [6, 8] (fun r i => ∃ k : Nat, 1 ≤ k ∧ k ≤ 4 ∧ i = .int .i64 k ∧ r = .int .i32 (accF (C - 240) (bys s) k) ∧ ∀ j, 1 ≤ j ∧ j < k → isTl (bys s) j) (fun _ i => 4 - (intOf i).toNat)
  case atStart => exact ⟨1, by omega, by omega, rfl, by rw [accF_one]; go_num, fun j hj => by omega⟩
  case round =>
    obtain ⟨k, hk1, hk2, rfl, rfl, hall⟩ := hrel
    have HA := Lib.hid hall
    clear hall
    by_cases hlt : k < 4
    · have hks : k < s.size := by omega
      have hbk := bat_get s k hks
      obtain ⟨T, hT⟩ : ∃ T, bat (bys s) k = T := ⟨_, rfl⟩
      have hT256 := bat_lt (bys s) k
      rw [hT] at hbk hT256
      by_cases ht : 128 ≤ T ∧ T < 192
      · have HS : Hid (accF (C - 240) (bys s) (k + 1) = accF (C - 240) (bys s) k * 64 + (T - 128)) := by unfold Hid; rw [accF_succ _ _ k hk1, hT]
        have hle := accF_le (C - 240) (bys s) (by omega) k (by omega)
        have HT : Hid (∀ j, 1 ≤ j ∧ j < k + 1 → isTl (bys s) j) := fun j hj => by
          by_cases e : j = k
          · subst e
            unfold isTl
            omega
          · exact HA.out j (by omega)
        have hdt : decide (128 ≤ (T : Int) ∧ (T : Int) < 192) = true := by simp; omega
        have t1 : (128 : Int) ≤ (T : Int) := by omega
        have KT := rtail_any (T : Int)
        rw [hdt] at KT
        clear hT ht hdt
        generalize accF (C - 240) (bys s) k = Acc at *
        go_wp2_with (go_at_call 217; refine (KT _).mono ?_; rintro e w' ⟨rfl, rfl⟩)
        go_round
        case rel => exact ⟨k + 1, by omega, by omega, by go_num, by rw [HS.out]; go_num, HT.out⟩
        case measure => simp [intOf]; omega
      · have HR : Hid (decodeL (bys s) = (65533, 1)) := dec4_no HB.out k ⟨hk1, hlt⟩ (by unfold isTl; omega)
        have hdt : decide (128 ≤ (T : Int) ∧ (T : Int) < 192) = false := by simp; omega
        have KT := rtail_any (T : Int)
        rw [hdt] at KT
        clear hT ht hdt
        go_wp2_with (go_at_call 217; refine (KT _).mono ?_; rintro e w' ⟨rfl, rfl⟩)
        go_ret2
        refine ⟨?_, rfl⟩
        rw [HR.out]
        rfl
    · obtain rfl : k = 4 := by omega
      have hdec := dec4_yes HB.out HA.out
      rw [HC.out] at hdec
      have hle := accF_le (C - 240) (bys s) (by omega) 4 (by omega)
      obtain ⟨Acc, hAcc⟩ : ∃ Acc, accF (C - 240) (bys s) 4 = Acc := ⟨_, rfl⟩
      rw [hAcc] at hdec hle
      have HD := Lib.hid hdec
      have HAcc := Lib.hid hAcc
      clear hdec
      by_cases hbad : Acc < 65536 ∨ 1114111 < Acc ∨ (55296 ≤ Acc ∧ Acc ≤ 57343)
      · have HR : Hid (decodeL (bys s) = (65533, 1)) := by
          unfold Hid
          rw [HD.out, outOf, if_pos hbad]
        have HBad := Lib.hid hbad
        clear hbad
        go_wp2
        all_goals first
          | (go_ret2
             refine ⟨?_, rfl⟩
             rw [HR.out]
             rfl)
          | (exfalso; have := HBad.out; simp_all; done)
          | (exfalso; have := HBad.out; simp_all; omega)
      · have HR : Hid (decodeL (bys s) = (Acc, 4)) := by
          unfold Hid
          rw [HD.out, outOf, if_neg hbad]
        have d0 : (65536 : Int) ≤ (Acc : Int) := by omega
        have d2 : (Acc : Int) ≤ 1114111 := by omega
        have d3 : ¬ (Acc : Int) ≤ 57343 := by omega
        clear hle
        have HBad := Lib.hid hbad
        clear hbad
        go_wp2
        all_goals first
          | (exfalso; have := HBad.out; simp_all; done)
          | (exfalso; have := HBad.out; simp_all; omega)
          | (go_ret2
             refine ⟨?_, rfl⟩
             rw [HR.out]
             rfl)

set_option maxRecDepth 100000 in
set_option maxHeartbeats 1000000 in
theorem First_any (s : ByteArray) (w : World) (hs : s.size ≤ 1000000) (h0 : 0 < s.size) :
    Calls Tryz.prog 171 #[.string s] w (FirstOut w (decodeL (bys s))) := by
  by_cases h2 : 192 ≤ bat (bys s) 0 ∧ bat (bys s) 0 < 224
  · exact First2 s w hs h0 h2
  by_cases h3 : 224 ≤ bat (bys s) 0 ∧ bat (bys s) 0 < 240
  · exact First3 s w hs h0 h3
  by_cases h4 : 240 ≤ bat (bys s) 0 ∧ bat (bys s) 0 < 248
  · exact First4 s w hs h0 h4
  have hb0 := bat_get s 0 h0
  by_cases h1 : bat (bys s) 0 < 128
  · have HR := Lib.hid (dec1 h1)
    generalize bat (bys s) 0 = C at *
    clear h2 h3 h4
    go_enter Tryz.func171, Tryz.ntmps171
    go_wp2
    all_goals first
      | (go_ret2
         refine ⟨?_, rfl⟩
         rw [HR.out]
         done)
      | (go_ret2
         refine ⟨?_, rfl⟩
         rw [HR.out]
         rfl)
      | (exfalso; omega)
  · have HR := Lib.hid (decBad (l := bys s) (by omega))
    generalize bat (bys s) 0 = C at *
    have HH : Hid ((128 ≤ C ∧ C < 192) ∨ 248 ≤ C) := by unfold Hid; omega
    clear h2 h3 h4
    go_enter Tryz.func171, Tryz.ntmps171
    go_wp2
    all_goals first
      | (go_ret2
         refine ⟨?_, rfl⟩
         rw [HR.out]
         rfl)
      | (exfalso; have := HH.out; simp_all; done)
      | (exfalso; have := HH.out; simp_all; omega)
end Go.Proofs.YtjbifjgeheigoaaGreat
end
section
namespace Go.Proofs.YtjbifjgeheigoaaGreat
open Go.RowKit Go.Lib

def rvs (l : List Nat) : List Value := l.map fun (r : Nat) => Value.int .i32 (r : Int)
theorem rvs_len (l : List Nat) : (rvs l).length = l.length := by simp [rvs]
theorem rvs_append (a b : List Nat) : rvs (a ++ b) = rvs a ++ rvs b := by simp [rvs]
theorem rvs_at (l : List Nat) (k : Nat) (h : k < l.length) : (rvs l)[k]? = some (.int .i32 (l[k] : Int)) := by simp [rvs, List.getElem?_eq_getElem h]
theorem rvs_one (l : List Nat) : ∀ u ∈ rvs l, u.oneCell' = true := by
  intro u hu
  obtain ⟨x, -, rfl⟩ := List.mem_map.1 hu
  rfl
theorem elemR : ElemOk Tryz.prog 200 21 4 := ⟨Tryz.underlying200, ⟨.int .i32 0, by kernel_rfl, rfl⟩⟩
theorem elemB : ElemOk Tryz.prog 190 5 1 := ⟨Tryz.underlying190, ⟨.int .u8 0, by kernel_rfl, rfl⟩⟩
theorem elemS : ElemOk Tryz.prog 61 9 16 := ⟨Tryz.underlying61, ⟨.string ⟨#[]⟩, by kernel_rfl, rfl⟩⟩
theorem RowIn.ne_row {e e' : TypeId} {w0 w0' w1 : World} {v v' : Value} {n n' : Nat} {xs xs' : List Value} (h : RowIn e w0 w1 v n xs) (h' : RowIn e' w0' w1 v' n' xs') (hne : e ≠ e') {k : Nat} (hk : v.ownBlock = some k) : v'.ownBlock ≠ some k := by
  rcases h.own.2 with ⟨rfl, _⟩ | ⟨g, cap, cur, rfl, _, hh, _⟩
  · simp [Value.ownBlock] at hk
  · have : g = k := by simpa [Value.ownBlock] using hk
    subst this
    exact h'.ne_blk (t := e) (cs := cur) hh (Ne.symm hne)

def RunesOut (w : World) (l : List Nat) (e : Ending) (w' : World) : Prop :=
  ∃ A c, e = .returned (.slice A l.length c) ∧ RowIn 21 w w' (.slice A l.length c) l.length (rvs l)
def strLen : Value → Nat | .string s => s.size | _ => 0

theorem bys_cut (s : ByteArray) (k : Nat) : bys (s.extract k s.size) = (bys s).drop k := by
  show (s.extract k s.size).data.toList = _
  rw [extract_data]
  exact List.take_of_length_le (by rw [List.length_drop, size_bys]; exact Nat.le_refl _)

set_option maxRecDepth 100000 in
set_option maxHeartbeats 1000000 in
theorem Runes_any (s : ByteArray) (w : World) (hs : s.size ≤ 1000000) :
    Calls Tryz.prog 168 #[.string s] w (RunesOut w (runesD (bys s))) := by
  go_enter Tryz.func168, Tryz.ntmps168
  go_wp2
  go_loopw [0, 3] (fun sv v wr => ∃ (x : ByteArray) (done : List Nat), sv = .string x ∧ x.size + done.length ≤ s.size ∧ RowIn 21 w wr v done.length (rvs done) ∧ done ++ runesD (bys x) = runesD (bys s)) (fun sv _ _ => strLen sv)
  case atStart => exact ⟨s, [], rfl, by simp, RowIn.nil_ _ (Frm.refl _ _), rfl⟩
  case round =>
    obtain ⟨x, done, rfl, hx, hrow, hd⟩ := hrel
    have HD := Lib.hid hd
    have HR := Lib.hid hrow
    obtain ⟨A, c, rfl, -, -, -, -⟩ := hrow.shape
    clear hd hrow
    by_cases h0 : 0 < x.size
    · have hne : bys x ≠ [] := fun e => by
        have h1 : (bys x).length = 0 := by rw [e]; rfl
        rw [← size_bys] at h1
        omega
      have hle := decodeL_le _ hne
      have hw := decodeL_width (bys x)
      rw [← size_bys] at hle
      have hstep := runesD_step (bys x) hne
      have kf := First_any x wr (by omega) h0
      obtain ⟨R, K, hRK⟩ : ∃ R K, decodeL (bys x) = (R, K) := ⟨_, _, rfl⟩
      rw [hRK] at hle hw hstep kf
      simp only at hle hw hstep
      have HStep := Lib.hid hstep
      have KF := Lib.hid kf
      have HCut := Lib.hid (bys_cut x K)
      obtain ⟨v2, w2, hrun, hrow2, -, -⟩ := HR.out.push elemR (.int .i32 (R : Int)) rfl (by unfold maxLen; omega) (by omega)
      have HR2 := Lib.hid hrow2
      clear hrow2 hstep kf hRK
      have hk0 : (0 : Int) ≤ (K : Int) := Int.natCast_nonneg _
      have hk1 : (K : Int) ≤ (x.size : Int) := by omega
      have hx0 : decide ((0 : Int) < (x.size : Int)) = true := by simp; omega
      go_wp2_with (first
        | (go_at_call 171; refine KF.out.mono ?_; rintro e w' ⟨rfl, rfl⟩)
        | (at_builtin; refine wpList_append_run hrun rfl _ _ rfl rfl rfl ?_))
      go_roundw
      case rel =>
        refine ⟨x.extract K x.size, done ++ [R], rfl, ?_, ?_, ?_⟩
        · have : (x.extract K x.size).size = x.size - K := by rw [size_bys, HCut.out, List.length_drop, ← size_bys]
          rw [this, List.length_append, List.length_singleton]
          omega
        · rw [List.length_append, List.length_singleton, rvs_append]
          exact HR2.out
        · rw [HCut.out, ← HD.out, HStep.out]
          simp
      case measure =>
        have : (x.extract K x.size).size = x.size - K := by rw [size_bys, HCut.out, List.length_drop, ← size_bys]
        simp only [strLen, this]
        omega
    · have h1 : (bys x).length = 0 := by
        have := size_bys x
        omega
      have hz : bys x = [] := List.eq_nil_of_length_eq_zero h1
      have HE : Hid (done = runesD (bys s)) := by
        have := HD.out
        rw [hz, runesD_nil, List.append_nil] at this
        exact this
      have hx0 : decide ((0 : Int) < (x.size : Int)) = false := decide_eq_false (by omega)
      clear hz h1
      go_wp2
      go_ret
      rw [← HE.out]
      exact ⟨A, c, rfl, HR.out⟩

theorem encodeRuneZ_cells (r : Int) : runeCells r = (encodeRuneZ r).map fun x => Value.int .u8 x := rfl

set_option maxRecDepth 100000 in
set_option maxHeartbeats 1000000 in
theorem one_any (r : Nat) (hv : Vr r) (w : World) :
    Calls Tryz.prog 216 #[.int .i32 r] w fun e w' => e = .returned (.slice (some ⟨w.heap.size, 0, none⟩) (runeCells r).length (runeCells r).length) ∧ w' = w.alloc (.cells (runeCells r).toArray 5) := by
  unfold Vr at hv
  have d1 : ¬ (r : Int) < 0 := by omega
  have d2 : ¬ (1114111 : Int) < (r : Int) := by omega
  by_cases c1 : r ≤ 127
  · have e := encodeRuneZ_one (r := (r : Int)) (by omega) (by omega)
    rw [encodeRuneZ_cells, e]
    go_enter Tryz.func216, Tryz.ntmps216
    go_wp2
    go_ret
    exact ⟨rfl, rfl⟩
  by_cases c2 : r ≤ 2047
  · have e := encodeRuneZ_two (r := (r : Int)) (by omega) (by omega)
    rw [encodeRuneZ_cells, e]
    go_enter Tryz.func216, Tryz.ntmps216
    go_wp2
    go_ret
    exact ⟨rfl, rfl⟩
  by_cases c3 : r ≤ 65535
  · have e := encodeRuneZ_three (r := (r : Int)) (by omega)
    rw [encodeRuneZ_cells, e]
    have b1 : (2048 : Int) ≤ (r : Int) := by omega
    have b2 : (r : Int) ≤ 65535 := by omega
    have hs : (r : Int) < 55296 ∨ (57344 : Int) ≤ (r : Int) := by omega
    generalize (r : Int) = R at *
    obtain ⟨x, hx⟩ : ∃ x, R / 4096 = x := ⟨_, rfl⟩
    obtain ⟨Q, hQ⟩ : ∃ Q, R / 64 = Q := ⟨_, rfl⟩
    obtain ⟨y, hy⟩ : ∃ y, Q % 64 = y := ⟨_, rfl⟩
    obtain ⟨z, hz⟩ : ∃ z, R % 64 = z := ⟨_, rfl⟩
    rw [hx, hQ, hy, hz]
    have x0 : 0 ≤ x := by omega
    have x1 : x ≤ 15 := by omega
    have q0 : 0 ≤ Q := by omega
    have q1 : Q ≤ 1024 := by omega
    have y0 : 0 ≤ y := by omega
    have y1 : y ≤ 63 := by omega
    have z0 : 0 ≤ z := by omega
    have z1 : z ≤ 63 := by omega
    clear c1 c2 c3 hv e d2 d1
    rcases hs with b3 | b3
    · go_enter Tryz.func216, Tryz.ntmps216
      go_wp2
      go_ret
      exact ⟨rfl, rfl⟩
    · go_enter Tryz.func216, Tryz.ntmps216
      go_wp2
      go_ret
      exact ⟨rfl, rfl⟩
  · have e := encodeRuneZ_four (r := (r : Int)) (by omega) (by omega)
    rw [encodeRuneZ_cells, e]
    have d3 : (65536 : Int) ≤ (r : Int) := by omega
    have d4 : (r : Int) ≤ 1114111 := by omega
    generalize (r : Int) = R at *
    obtain ⟨x, hx⟩ : ∃ x, R / 262144 = x := ⟨_, rfl⟩
    obtain ⟨Q, hQ⟩ : ∃ Q, R / 64 = Q := ⟨_, rfl⟩
    obtain ⟨T, hT⟩ : ∃ T, R / 4096 = T := ⟨_, rfl⟩
    obtain ⟨y, hy⟩ : ∃ y, Q % 64 = y := ⟨_, rfl⟩
    obtain ⟨u, hu⟩ : ∃ u, T % 64 = u := ⟨_, rfl⟩
    obtain ⟨z, hz⟩ : ∃ z, R % 64 = z := ⟨_, rfl⟩
    rw [hx, hQ, hT, hy, hu, hz]
    have x0 : 0 ≤ x := by omega
    have x1 : x ≤ 4 := by omega
    have q0 : 0 ≤ Q := by omega
    have q1 : Q ≤ 20000 := by omega
    have t0 : 0 ≤ T := by omega
    have t1 : T ≤ 300 := by omega
    have y0 : 0 ≤ y := by omega
    have y1 : y ≤ 63 := by omega
    have u0 : 0 ≤ u := by omega
    have u1 : u ≤ 63 := by omega
    have z0 : 0 ≤ z := by omega
    have z1 : z ≤ 63 := by omega
    clear c1 c2 c3 hv e d2 d1
    go_enter Tryz.func216, Tryz.ntmps216
    go_wp2
    go_ret
    exact ⟨rfl, rfl⟩
end Go.Proofs.YtjbifjgeheigoaaGreat
end
