/-
  The law's own size test of calls: Large. No condition.
-/
import Derived.Test.YthhkblogocoeeaaView
namespace Go.Proofs.Ythhkblogocoeeaa
open Go.RowKit

def OpV.big (o : OpV) : Bool := decide (1000 < o.dn) || decide (100 < o.a.size) || decide (100 < o.b.size)
def largeB (l : List OpV) : Bool := decide (150 < l.length) || l.any OpV.big

theorem ops_at (l : List OpV) (i : Nat) (h : i < l.length) (j : Nat) (hj : j < 6) : (l.flatMap OpV.cells)[i * 6 + j]? = l[i].cells[j]? := by
  induction l generalizing i with
  | nil => simp at h
  | cons o l ih =>
    have h6 : o.cells.length = 6 := rfl
    rw [List.flatMap_cons]
    cases i with
    | zero =>
      rw [List.getElem?_append_left (by omega)]
      simp
    | succ i =>
      rw [List.getElem?_append_right (by omega), show (i + 1) * 6 + j - o.cells.length = i * 6 + j by omega, ih i (by simpa using h)]
      rfl

/-- a call of the list lies so in memory. -/
theorem rd_op {w : World} {G : Nat → Prop} {A : Option Addr} {n : Nat} {l : List OpV} (h : Rd w G 6 A n (l.flatMap OpV.cells)) (hl : l.length = n) {i : Nat} (hi : i < n) :
    ∃ ad, A = some ad ∧ G ad.block ∧ ad.block < w.heap.size ∧ ∀ j u, l[i].cells[j]? = some u → w.cell? ((ad.add (i * 6)).add j) = some u := by
  obtain ⟨ad, rfl, h1, h2, h3⟩ := h.2 (by omega)
  refine ⟨ad, rfl, h1, h2, fun j u hu => ?_⟩
  rw [add_of_add]
  refine h3 _ u ?_
  have hj : j < 6 := by
    have := (List.getElem?_eq_some_iff.1 hu).1
    simpa [OpV.cells] using this
  rw [ops_at l i (by omega) j hj, hu]

theorem any_take_succ {l : List OpV} {k : Nat} (h : k < l.length) (h1 : (l.take k).any OpV.big = false) (h2 : l[k].big = false) : (l.take (k + 1)).any OpV.big = false := by
  rw [List.take_succ_eq_append_getElem h, List.any_append, h1]
  simp [h2]
theorem any_at {l : List OpV} {k : Nat} (h : k < l.length) (h2 : l[k].big = true) : l.any OpV.big = true := by
  rw [List.any_eq_true]
  exact ⟨_, List.getElem_mem h, h2⟩

set_option maxRecDepth 100000 in
set_option maxHeartbeats 1000000 in
theorem Large_any (A : Option Addr) (n c : Nat) (l : List OpV) (G : Nat → Prop) (w : World) (hl : l.length = n) (hr : Rd w G 6 A n (l.flatMap OpV.cells)) (hnc : n ≤ maxLen)
    (ho : ∀ o ∈ l, o.dn ≤ maxLen ∧ o.a.size ≤ maxLen ∧ o.b.size ≤ maxLen) :
    Calls Try.prog 11 #[.slice A n c] w fun e w' => e = .returned (.bool (largeB l)) ∧ w = w' := by
  unfold maxLen at hnc ho
  have HL := Lib.hid hl
  have HR := Lib.hid hr
  have HO := Lib.hid ho
  by_cases h150 : 150 < n
  · have HB : Hid (largeB l = true) := by unfold Hid; simp [largeB, hl, h150]
    have hd : decide ((150 : Int) < (n : Int)) = true := by simp; omega
    clear hl hr ho
    go_enter Try.func11, Try.ntmps11
    go_wp2
    go_ret
    exact ⟨ret_bool HB.out.symm, rfl⟩
  have hd : decide ((150 : Int) < (n : Int)) = false := by simp; omega
  have HB : Hid (largeB l = l.any OpV.big) := by unfold Hid; simp [largeB, hl]; omega
  clear hl hr ho
  go_enter Try.func11, Try.ntmps11
  go_wp2
  go_loop [3] (fun i => ∃ k : Nat, k ≤ n ∧ i = .int .i64 k ∧ (l.take k).any OpV.big = false) (fun i => n - (intOf i).toNat)
  case atStart => exact ⟨0, Nat.zero_le _, rfl, by simp⟩
  case round =>
    obtain ⟨k, hk, rfl, hall⟩ := hrel
    have HA := Lib.hid hall
    clear hall
    by_cases hlt : k < n
    · have hkl : k < l.length := by rw [HL.out]; exact hlt
      obtain ⟨ad, rfl, -, -, hcell⟩ := rd_op HR.out HL.out hlt
      have hok := HO.out _ (List.getElem_mem hkl)
      have HT := Lib.hid (any_at hkl)
      have HF := Lib.hid (any_take_succ hkl HA.out)
      obtain ⟨o, ho⟩ : ∃ o, l[k] = o := ⟨_, rfl⟩
      rw [ho] at hok HT HF hcell
      have c1 : w.cell? ⟨(ad.add (k * 6)).block, (ad.add (k * 6)).off + 1, none⟩ = some (.string o.a) := hcell 1 _ rfl
      have c2 : w.cell? ⟨(ad.add (k * 6)).block, (ad.add (k * 6)).off + 2, none⟩ = some (.string o.b) := hcell 2 _ rfl
      have c4 : w.cell? ⟨(ad.add (k * 6)).block, (ad.add (k * 6)).off + 4, none⟩ = some (.slice o.dA o.dn o.dc) := hcell 4 _ rfl
      obtain ⟨m1, m2, m3⟩ := hok
      have HBig : Hid (o.big = (decide (1000 < o.dn) || decide (100 < o.a.size) || decide (100 < o.b.size))) := rfl
      clear hcell ho
      by_cases b1 : 1000 < o.dn
      · have d1 : decide ((1000 : Int) < (o.dn : Int)) = true := by simp; omega
        go_wp2
        go_ret
        exact ⟨ret_bool (by rw [HB.out, HT.out (by rw [HBig.out]; simp [b1])]), rfl⟩
      have d1 : decide ((1000 : Int) < (o.dn : Int)) = false := by simp; omega
      by_cases b2 : 100 < o.a.size
      · have d2 : decide ((100 : Int) < (o.a.size : Int)) = true := by simp; omega
        go_wp2
        go_ret
        exact ⟨ret_bool (by rw [HB.out, HT.out (by rw [HBig.out]; simp [b2])]), rfl⟩
      have d2 : decide ((100 : Int) < (o.a.size : Int)) = false := by simp; omega
      by_cases b3 : 100 < o.b.size
      · have d3 : decide ((100 : Int) < (o.b.size : Int)) = true := by simp; omega
        go_wp2
        go_ret
        exact ⟨ret_bool (by rw [HB.out, HT.out (by rw [HBig.out]; simp [b3])]), rfl⟩
      have d3 : decide ((100 : Int) < (o.b.size : Int)) = false := by simp; omega
      go_wp2
      go_round
      case rel => exact ⟨k + 1, by omega, by go_num, HF.out (by rw [HBig.out]; simp [b1, b2, b3])⟩
      case measure => simp [intOf]; omega
    · obtain rfl : k = n := by omega
      go_wp2
      go_ret
      refine ⟨ret_bool ?_, rfl⟩
      rw [HB.out, ← HA.out, List.take_of_length_le (by rw [HL.out]; exact Nat.le_refl _)]
end Go.Proofs.Ythhkblogocoeeaa
