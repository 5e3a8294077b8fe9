/-
  Contracts: sums of bytes, by the program and by the document; words.
-/
import Derived.Test.YtdgpaddmheagoaaGreatDoorNA
namespace Go.Proofs.YtdgpaddmheagoaaGreatDoor
open Go.RowKit
set_option linter.unusedVariables false

/-- the table of the sum by halves of bytes is laid. -/
def Tab (w : World) : Prop := ∀ i, i < 16 → w.cell? ⟨0, i, none⟩ = some (.int .u32 (halvesL.getD i 0 : Nat))
theorem Tab.lt {w : World} (h : Tab w) : 0 < w.heap.size := World.block_lt_of_cell? w _ (h 0 (by omega))
theorem Tab.frm {w w1 : World} {F : Nat → Prop} (h : Tab w) (hf : Frm F w w1) (hn : ¬ F 0) : Tab w1 := fun i hi => (hf.cell (p := ⟨0, i, none⟩) h.lt hn).trans (h i hi)
theorem Tab.nix {w w1 : World} (h : Tab w) (hf : Frm Nix w w1) : Tab w1 := h.frm hf id

theorem u32x (a b : Nat) (ha : a < 4294967296) (hb : b < 4294967296) : bits .xor .u32 (a : Int) (b : Int) = ((a ^^^ b : Nat) : Int) := u32_xor_nat a b ha hb
theorem u32not (a : Nat) (ha : a < 4294967296) : bits .xor .u32 IntKind.u32.max (a : Int) = ((4294967295 ^^^ a : Nat) : Int) := u32_xor_nat 4294967295 a (by omega) ha
theorem u32not' (a : Nat) (ha : a < 4294967296) : bits .xor .u32 (a : Int) 4294967295 = ((4294967295 ^^^ a : Nat) : Int) := by
  rw [Nat.xor_comm]
  exact u32_xor_nat a 4294967295 ha (by omega)
theorem u32and15 (a : Nat) (ha : a < 4294967296) : bits .and .u32 (a : Int) 15 = (a : Int) % 16 := by
  have h := u32_and_nat a 15 ha (by omega)
  rw [show (15 : Int) = ((15 : Nat) : Int) from rfl, h, show a &&& 15 = a % 16 by have := Nat.and_two_pow_sub_one_eq_mod a 4; simpa using this]
  omega
theorem u32half (a : Nat) (ha : a < 4294967296) : bits .xor .u32 ((halvesL.getD (a % 16) 0 : Nat) : Int) ((a : Int) / 16) = ((halfB a : Nat) : Int) := by
  have hq : ∀ r, r < 16 → halvesL.getD r 0 < 4294967296 := by decide +kernel
  have := u32_xor_nat (halvesL.getD (a % 16) 0) (a / 16) (hq _ (Nat.mod_lt _ (by omega))) (by omega)
  rw [show (a : Int) / 16 = ((a / 16 : Nat) : Int) by omega, this]
  rfl
theorem u32feed (c : Nat) (b : UInt8) (hc : c < 4294967296) : bits .xor .u32 (c : Int) (b.toNat : Int) = ((c ^^^ b.toNat : Nat) : Int) := u32_xor_nat c b.toNat hc (by have := b.toNat_lt; omega)

set_option maxRecDepth 100000 in
set_option maxHeartbeats 2000000 in
theorem More_any (sum : Nat) (hs : sum < 4294967296) (A : Option Addr) (n c : Nat) (l : List UInt8) (G : Nat → Prop) (w : World) (hl : l.length = n) (hr : Rd w G 1 A n (bvs l)) (hm : n ≤ 9223372036854775807) (ht : Tab w) :
    Calls Tryz.prog 89 #[.int .u32 sum, .slice A n c] w fun e w' => e = .returned (.int .u32 (moreN sum l : Nat)) ∧ w = w' := by
  have HL := Lib.hid hl
  have HR := Lib.hid hr
  have HT := Lib.hid ht
  have hn := u32not sum hs
  have hlt0 : 4294967295 ^^^ sum < 4294967296 := xor_lt32 (by omega) hs
  have HM : Hid (moreN sum l = 4294967295 ^^^ l.foldl byteB (4294967295 ^^^ sum)) := rfl
  have HF := Lib.hid (foldB_lt l hlt0)
  generalize hC0 : 4294967295 ^^^ sum = c0 at *
  clear hl hr ht hC0
  go_enter Tryz.func89, Tryz.ntmps89
  go_wp2
  go_loop [5, 12] (fun cv iv => ∃ (k x : Nat), k ≤ n ∧ iv = .int .i64 k ∧ cv = .int .u32 x ∧ x < 4294967296 ∧ (l.drop k).foldl byteB x = l.foldl byteB c0) (fun _ iv => n - (intOf iv).toNat)
  case atStart => exact ⟨0, c0, by omega, rfl, rfl, hlt0, rfl⟩
  case round =>
    obtain ⟨k, x, hk, rfl, rfl, hx, hg⟩ := hrel
    have HG := Lib.hid hg
    clear hg
    by_cases hlt : k < n
    · obtain ⟨ad, u, rfl, -, hla, hu, hcu⟩ := HR.out.at_ (k := k) (by omega)
      have hkl : k < l.length := by rw [HL.out]; omega
      obtain rfl : u = bv l[k] := by simpa [bvs, List.getElem?_eq_getElem hkl] using hu.symm
      have HG2 : Hid ((l.drop (k + 1)).foldl byteB (byteB x l[k]) = l.foldl byteB c0) := by
        have := HG.out
        rw [List.drop_eq_getElem_cons hkl] at this
        exact this
      have HB : Hid (byteB x l[k] = halfB (halfB (x ^^^ l[k].toNat))) := rfl
      have hb := l[k].toNat_lt
      have e1 := u32feed x l[k] hx
      have l1 : x ^^^ l[k].toNat < 4294967296 := xor_lt32 hx (by omega)
      generalize x ^^^ l[k].toNat = c1 at *
      generalize byteB x l[k] = bb at *
      generalize l[k] = b at *
      have e2 := u32and15 c1 l1
      have e3 := u32half c1 l1
      have f1 := HT.out (c1 % 16) (Nat.mod_lt _ (by omega))
      have l2 := half_lt l1
      generalize halfB c1 = c2 at *
      have e4 := u32and15 c2 l2
      have e5 := u32half c2 l2
      have f2 := HT.out (c2 % 16) (Nat.mod_lt _ (by omega))
      have l3 := half_lt l2
      generalize halfB c2 = c3 at *
      generalize halvesL.getD (c1 % 16) 0 = t1 at *
      generalize halvesL.getD (c2 % 16) 0 = t2 at *
      clear HG hu
      go_wp2
      go_round
      case rel => exact ⟨k + 1, c3, by omega, by go_num, rfl, l3, by rw [← HB.out]; exact HG2.out⟩
      case measure => simp [intOf]; omega
    · have HE : Hid (bits .xor .u32 IntKind.u32.max (x : Int) = ((moreN sum l : Nat) : Int)) := by
        have h1 := HG.out
        rw [List.drop_of_length_le (by rw [HL.out]; omega)] at h1
        rw [HM.out, ← h1]
        exact u32not x hx
      go_wp2
      go_ret
      exact ⟨by rw [HE.out]; rfl, rfl⟩

set_option maxRecDepth 100000 in
theorem Sum_any (A : Option Addr) (n c : Nat) (l : List UInt8) (G : Nat → Prop) (w : World) (hl : l.length = n) (hr : Rd w G 1 A n (bvs l)) (hm : n ≤ 9223372036854775807) (ht : Tab w) :
    Calls Tryz.prog 77 #[.slice A n c] w fun e w' => e = .returned (.int .u32 (sumN l : Nat)) ∧ w = w' := by
  have K := Lib.hid (More_any 0 (by omega) A n c l G w hl hr hm ht)
  have HE : Hid (moreN 0 l = sumN l) := rfl
  clear hl hr ht
  go_enter Tryz.func77, Tryz.ntmps77
  go_wp2_with (go_at_call 89; refine K.out.mono ?_; rintro e w' ⟨rfl, rfl⟩)
  go_ret
  exact ⟨by rw [HE.out]; rfl, rfl⟩

def bitsN : Nat → Nat → Nat
  | 0, c => c
  | k + 1, c => bitsN k (bit1 c)

set_option maxRecDepth 100000 in
set_option maxHeartbeats 2000000 in
theorem MoreR_any (sum : Nat) (hs : sum < 4294967296) (A : Option Addr) (n c : Nat) (l : List UInt8) (G : Nat → Prop) (w : World) (hl : l.length = n) (hr : Rd w G 1 A n (bvs l)) (hm : n ≤ 9223372036854775807) :
    Calls Tryz.prog 81 #[.int .u32 sum, .slice A n c] w fun e w' => e = .returned (.int .u32 (moreN sum l : Nat)) ∧ w = w' := by
  have HL := Lib.hid hl
  have HR := Lib.hid hr
  have hn := u32not' sum hs
  have hlt0 : 4294967295 ^^^ sum < 4294967296 := xor_lt32 (by omega) hs
  have HM : Hid (moreN sum l = 4294967295 ^^^ l.foldl byteB (4294967295 ^^^ sum)) := rfl
  generalize hC0 : 4294967295 ^^^ sum = c0 at *
  clear hl hr hC0
  go_enter Tryz.func81, Tryz.ntmps81
  go_wp2
  go_loop [5, 6, 7, 8] (fun cv iv kv lv => ∃ (k x : Nat), k ≤ n ∧ iv = .int .i64 k ∧ cv = .int .u32 x ∧ x < 4294967296 ∧ (l.drop k).foldl byteB x = l.foldl byteB c0) (fun _ iv _ _ => n - (intOf iv).toNat)
  case atStart => exact ⟨0, c0, by omega, rfl, rfl, hlt0, rfl⟩
  case round =>
    obtain ⟨k, x, hk, rfl, rfl, hx, hg⟩ := hrel
    have HG := Lib.hid hg
    clear hg
    by_cases hlt : k < n
    · obtain ⟨ad, u, rfl, -, hla, hu, hcu⟩ := HR.out.at_ (k := k) (by omega)
      have hkl : k < l.length := by rw [HL.out]; omega
      obtain rfl : u = bv l[k] := by simpa [bvs, List.getElem?_eq_getElem hkl] using hu.symm
      have HG2 : Hid ((l.drop (k + 1)).foldl byteB (byteB x l[k]) = l.foldl byteB c0) := by
        have := HG.out
        rw [List.drop_eq_getElem_cons hkl] at this
        exact this
      have HB : Hid (byteB x l[k] = bitsN 8 (x ^^^ l[k].toNat)) := (byteR_eq x l[k]).symm
      have hb := l[k].toNat_lt
      have e1 := u32feed x l[k] hx
      have l1 : x ^^^ l[k].toNat < 4294967296 := xor_lt32 hx (by omega)
      generalize x ^^^ l[k].toNat = c1 at *
      generalize byteB x l[k] = bb at *
      generalize l[k] = b at *
      clear HG hu
      go_wp2
      go_loop [5, 7, 8] (fun cv kv lv => ∃ (j y : Nat), j ≤ 8 ∧ kv = .int .i64 j ∧ cv = .int .u32 y ∧ y < 4294967296 ∧ bitsN (8 - j) y = bb) (fun _ kv _ => 8 - (intOf kv).toNat)
      case atStart => exact ⟨0, c1, by omega, rfl, rfl, l1, HB.out.symm⟩
      case round =>
        obtain ⟨j, y, hj, rfl, rfl, hy, hgj⟩ := hrel
        have HJ := Lib.hid hgj
        clear hgj
        by_cases hj8 : j < 8
        · have HJ2 : Hid (bitsN (8 - (j + 1)) (bit1 y) = bb) := by
            have := HJ.out
            rw [show 8 - j = 8 - (j + 1) + 1 by omega] at this
            exact this
          have lb := bit1_lt hy
          rcases Nat.mod_two_eq_zero_or_one y with h2 | h2
          · have h3 : ((y : Int) % 2 == 1) = false := by rw [beq_eq_false_iff_ne]; omega
            have e6 : bit1 y = y / 2 := by unfold bit1; rw [if_neg (by omega)]
            rw [e6] at HJ2 lb
            clear e6 h2
            go_wp2
            go_round
            case rel => exact ⟨j + 1, y / 2, by omega, by go_num, by go_num, lb, HJ2.out⟩
            case measure => simp [intOf]; omega
          · have h3 : ((y : Int) % 2 == 1) = true := by rw [beq_iff_eq]; omega
            have e6 : bit1 y = (y / 2) ^^^ 3988292384 := by unfold bit1; rw [if_pos h2]
            have e7 : bits .xor .u32 ((y : Int) / 2) 3988292384 = ((bit1 y : Nat) : Int) := by
              rw [e6, show (y : Int) / 2 = ((y / 2 : Nat) : Int) by omega]
              exact u32_xor_nat (y / 2) 3988292384 (by omega) (by omega)
            generalize bit1 y = z at *
            clear e6 h2
            go_wp2
            go_round
            case rel => exact ⟨j + 1, z, by omega, by go_num, rfl, lb, HJ2.out⟩
            case measure => simp [intOf]; omega
        · obtain rfl : j = 8 := by omega
          have HJ2 : Hid (y = bb) := HJ.out
          clear HJ
          go_wp2
          go_round
          case rel => exact ⟨k + 1, y, by omega, by go_num, rfl, hy, by rw [HJ2.out]; exact HG2.out⟩
          case measure => simp [intOf]; omega
    · have HE : Hid (bits .xor .u32 (x : Int) 4294967295 = ((moreN sum l : Nat) : Int)) := by
        have h1 := HG.out
        rw [List.drop_of_length_le (by rw [HL.out]; omega)] at h1
        rw [HM.out, ← h1]
        exact u32not' x hx
      go_wp2
      go_ret
      exact ⟨by rw [HE.out]; rfl, rfl⟩

set_option maxRecDepth 100000 in
theorem SumR_any (A : Option Addr) (n c : Nat) (l : List UInt8) (G : Nat → Prop) (w : World) (hl : l.length = n) (hr : Rd w G 1 A n (bvs l)) (hm : n ≤ 9223372036854775807) :
    Calls Tryz.prog 54 #[.slice A n c] w fun e w' => e = .returned (.int .u32 (sumN l : Nat)) ∧ w = w' := by
  have K := Lib.hid (MoreR_any 0 (by omega) A n c l G w hl hr hm)
  have HE : Hid (moreN 0 l = sumN l) := rfl
  clear hl hr
  go_enter Tryz.func54, Tryz.ntmps54
  go_wp2_with (go_at_call 81; refine K.out.mono ?_; rintro e w' ⟨rfl, rfl⟩)
  go_ret
  exact ⟨by rw [HE.out]; rfl, rfl⟩

/-! ### words -/

theorem wordB_vals (x : Nat) (hx : x < 4294967296) : bvs (wordB x) = [.int .u8 ((x : Int) % 256), .int .u8 ((x : Int) / 256 % 256), .int .u8 ((x : Int) / 65536 % 256), .int .u8 ((x : Int) / 16777216)] := by
  simp only [wordB, bvs, List.map_cons, List.map_nil]
  rw [bv_ofNat _ (by omega), bv_ofNat _ (by omega), bv_ofNat _ (by omega), bv_ofNat _ (by omega)]
  rw [show ((x % 256 : Nat) : Int) = (x : Int) % 256 by omega, show ((x / 256 % 256 : Nat) : Int) = (x : Int) / 256 % 256 by omega, show ((x / 65536 % 256 : Nat) : Int) = (x : Int) / 65536 % 256 by omega, show ((x / 16777216 % 256 : Nat) : Int) = (x : Int) / 16777216 by omega]

set_option maxRecDepth 100000 in
theorem Word_any (x : Nat) (hx : x < 4294967296) (w : World) :
    Calls Tryz.prog 76 #[.int .u32 x] w fun e w' => e = .returned (.slice (some ⟨w.heap.size, 0, none⟩) 4 4) ∧ w' = w.alloc (.cells (bvs (wordB x)).toArray 5) := by
  rw [wordB_vals x hx]
  go_enter Tryz.func76, Tryz.ntmps76
  go_wp2
  go_ret
  exact ⟨rfl, rfl⟩

set_option maxRecDepth 100000 in
theorem WordR_any (x : Nat) (hx : x < 4294967296) (w : World) :
    Calls Tryz.prog 53 #[.int .u32 x] w fun e w' => e = .returned (.slice (some ⟨w.heap.size, 0, none⟩) 4 4) ∧ w' = w.alloc (.cells (bvs (wordB x)).toArray 5) := by
  rw [wordB_vals x hx]
  go_enter Tryz.func53, Tryz.ntmps53
  go_wp2
  go_ret
  exact ⟨rfl, rfl⟩
end Go.Proofs.YtdgpaddmheagoaaGreatDoor
