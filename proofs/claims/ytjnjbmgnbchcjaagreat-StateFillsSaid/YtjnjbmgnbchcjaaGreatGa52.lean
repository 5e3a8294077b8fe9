/-
  Plain: things of one kind, one behind the other: as many fit as there may be, and no more. No program in sight.
-/
import Derived.Test.YtjnjbmgnbchcjaaGreatGa12
import Derived.Test.YtjnjbmgnbchcjaaGreatGa48
section
set_option linter.unusedVariables false
set_option linter.unusedSimpArgs false
namespace Go.Proofs.YtjnjbmgnbchcjaaGreat

/-- the digits of a number from 0 to 9999; a name. -/
def digB (n : Nat) : ByteArray := ⟨#[(48 + n / 1000).toUInt8, (48 + n / 100 % 10).toUInt8, (48 + n / 10 % 10).toUInt8, (48 + n % 10).toUInt8]⟩
def xd (n : Nat) : ByteArray := ⟨#[120, (48 + n / 1000).toUInt8, (48 + n / 100 % 10).toUInt8, (48 + n / 10 % 10).toUInt8, (48 + n % 10).toUInt8]⟩
def valX (s : ByteArray) : Nat := (s.data.getD 1 0).toNat * 1000 + (s.data.getD 2 0).toNat * 100 + (s.data.getD 3 0).toNat * 10 + (s.data.getD 4 0).toNat - 53328
def xdOk (i : Nat) : Bool := labelOk (xd i) && (placeOk (xd i) && (tagOk (xd i) && decide (valX (xd i) = i)))
def uB : ByteArray := ⟨#[117]⟩
def gB : ByteArray := ⟨#[103]⟩
def qB : ByteArray := ⟨#[113]⟩
theorem xd_all : (List.range 1101).all xdOk = true := by decide +kernel
theorem xd_ok {i : Nat} (h : i < 1101) : labelOk (xd i) = true ∧ placeOk (xd i) = true ∧ tagOk (xd i) = true ∧ valX (xd i) = i := by
  have := List.all_eq_true.1 xd_all i (List.mem_range.2 h)
  unfold xdOk at this
  simp only [Bool.and_eq_true, decide_eq_true_eq] at this
  exact this
theorem xd_inj {i j : Nat} (hi : i < 1101) (hj : j < 1101) (h : xd i = xd j) : i = j := by
  have h1 := (xd_ok hi).2.2.2
  have h2 := (xd_ok hj).2.2.2
  rw [h] at h1
  omega
theorem xd_size (i : Nat) : (xd i).size = 5 := rfl
theorem xd_ne {i : Nat} {s : ByteArray} (h : s.size = 1) : s ≠ xd i := fun e => by rw [e, xd_size] at h; omega

def fillE (k : Int) (i : Nat) : Ev :=
  if k = 7 then ⟨7, i, 1048576, 0, xd i, eS, eS⟩
  else if k = 10 then ⟨10, 1048576, 0, 1, xd i, eS, eS⟩
  else if k = 11 then ⟨11, i, 0, 0, xd i, qB, eS⟩
  else ⟨k, i, 0, 0, xd i, eS, eS⟩
def mostF (k : Int) : Nat := if k = 1 then 64 else if k = 3 then 63 else if k = 7 then 1023 else if k = 10 then 8 else 32
def fee0 : Fee := ⟨1048576, 0, uB, eS⟩
def itm0 : Itm := ⟨1048576, 1048576, 0, gB, eS, eS, false, false, []⟩
def fill0 : St := { st0 with fees := [fee0], itms := [itm0], tFee := 1048576, tItm := 1048576 }
theorem fill0_1 : applyS st0 ⟨3, 1048576, 0, 0, uB, eS, eS⟩ = ({ st0 with fees := [fee0], tFee := 1048576 }, true) := by decide +kernel
theorem fill0_2 : applyS { st0 with fees := [fee0], tFee := 1048576 } ⟨7, 1048576, 1048576, 0, gB, eS, eS⟩ = (fill0, true) := by decide +kernel

/-- j things of a kind are there. -/
def FillAt (k : Int) (x : St) (j : Nat) : Prop :=
  if k = 1 then x.fols.length = j ∧ ∀ f ∈ x.fols, ∃ i : Nat, 1 ≤ i ∧ i ≤ j ∧ f = ⟨i, 0, xd i⟩
  else if k = 3 then x.fees.length = j + 1 ∧ ∀ f ∈ x.fees, f = fee0 ∨ ∃ i : Nat, 1 ≤ i ∧ i ≤ j ∧ f = ⟨i, 0, xd i, eS⟩
  else if k = 7 then x.fees = [fee0] ∧ x.itms.length = j + 1 ∧ ∀ t ∈ x.itms, t = itm0 ∨ ∃ i : Nat, 1 ≤ i ∧ i ≤ j ∧ t.id = i ∧ t.guid = xd i
  else if k = 10 then ∃ g : List ByteArray, x.itms = [{ itm0 with tags := g }] ∧ g.length = j ∧ ∀ s ∈ g, ∃ i : Nat, 1 ≤ i ∧ i ≤ j ∧ s = xd i
  else x.seas.length = j ∧ ∀ f ∈ x.seas, ∃ i : Nat, 1 ≤ i ∧ i ≤ j ∧ f.id = i
def fillK (k : Int) : Prop := k = 1 ∨ k = 3 ∨ k = 7 ∨ k = 10 ∨ k = 11
theorem fill_start (k : Int) (hk : fillK k) : FillAt k fill0 0 := by
  rcases hk with rfl | rfl | rfl | rfl | rfl
  · exact ⟨rfl, fun f h => by cases h⟩
  · refine ⟨rfl, fun f h => .inl ?_⟩
    simpa [fill0] using h
  · refine ⟨rfl, rfl, fun f h => .inl ?_⟩
    simpa [fill0] using h
  · exact ⟨[], rfl, rfl, fun s h => by cases h⟩
  · exact ⟨rfl, fun f h => by cases h⟩
theorem idx {i : Nat} (h1 : 1 ≤ i) (h2 : i ≤ 1100) : idOk (i : Int) = true := idOk_iff.2 ⟨by omega, by omega⟩
theorem fill_fols {x : St} {j i : Nat} (h : FillAt 1 x j) (hi : 1 ≤ i ∧ i ≤ 1100) (hj : j = min (i - 1) 64) : fits x (fillE 1 i) = decide (i ≤ 64) ∧ FillAt 1 (applyS x (fillE 1 i)).1 (min i 64) := by
  have e : fillE 1 i = ⟨1, i, 0, 0, xd i, eS, eS⟩ := rfl
  obtain ⟨hl, hm⟩ : x.fols.length = j ∧ ∀ f ∈ x.fols, ∃ i : Nat, 1 ≤ i ∧ i ≤ j ∧ f = ⟨i, 0, xd i⟩ := h
  have ho : evOk ⟨1, i, 0, 0, xd i, eS, eS⟩ = true := by
    rw [ev1, idx hi.1 hi.2, (xd_ok (by omega)).1]
    rfl
  have hd : deepS x 0 = 0 := by
    have : isI Fol.id 0 x.fols = false := isI_false.2 fun f hf => by
      obtain ⟨i', h1, h2, rfl⟩ := hm f hf
      simp
      omega
    unfold deepS
    rw [this]
    rfl
  have hin : inS x 0 = true := by unfold inS; rfl
  have hf : fits x ⟨1, i, 0, 0, xd i, eS, eS⟩ = decide (i ≤ 64) := by
    rw [Bool.eq_iff_iff, fits1 rfl ho]
    simp only [decide_eq_true_eq, hl, hin, hd]
    constructor
    · rintro ⟨-, h2, -⟩
      omega
    · intro h
      refine ⟨fun f hf => ?_, by omega, trivial, by omega, fun f hf => ?_⟩
      · obtain ⟨i', h1, h2, rfl⟩ := hm f hf
        simp
        omega
      · obtain ⟨i', h1, h2, rfl⟩ := hm f hf
        rintro ⟨-, h3⟩
        have := xd_inj (by omega) (by omega) h3
        omega
  rw [e]
  refine ⟨hf, ?_⟩
  unfold applyS
  rw [hf]
  by_cases h : i ≤ 64
  · rw [decide_eq_true h, if_pos rfl, do1 rfl]
    refine ⟨?_, fun f hf => ?_⟩
    · rw [insI_len]
      omega
    · rcases mem_insI.1 hf with rfl | hf
      · exact ⟨i, by omega, by omega, rfl⟩
      · obtain ⟨i', h1, h2, rfl⟩ := hm f hf
        exact ⟨i', h1, by omega, rfl⟩
  · rw [decide_eq_false h, if_neg (by simp)]
    refine ⟨by rw [hl]; omega, fun f hf => ?_⟩
    obtain ⟨i', h1, h2, rfl⟩ := hm f hf
    exact ⟨i', h1, by omega, rfl⟩
theorem place_none {x : St} {s : ByteArray} (h : ∀ f ∈ x.fees, f.url ≠ s) : placeS x s = 0 := by
  unfold placeS
  rw [List.find?_eq_none.2 fun f hf => by simpa using h f hf]
theorem guid_none {x : St} {b : Int} {s : ByteArray} (h : ∀ t ∈ x.itms, t.guid ≠ s) : guidS x b s = 0 := by
  unfold guidS
  rw [List.find?_eq_none.2 fun t ht => by simp; intro _; exact h t ht]
theorem fill_fees {x : St} {j i : Nat} (h : FillAt 3 x j) (hi : 1 ≤ i ∧ i ≤ 1100) (hj : j = min (i - 1) 63) : fits x (fillE 3 i) = decide (i ≤ 63) ∧ FillAt 3 (applyS x (fillE 3 i)).1 (min i 63) := by
  have e : fillE 3 i = ⟨3, i, 0, 0, xd i, eS, eS⟩ := rfl
  obtain ⟨hl, hm⟩ : x.fees.length = j + 1 ∧ ∀ f ∈ x.fees, f = fee0 ∨ ∃ i : Nat, 1 ≤ i ∧ i ≤ j ∧ f = ⟨i, 0, xd i, eS⟩ := h
  have ho : evOk ⟨3, i, 0, 0, xd i, eS, eS⟩ = true := by
    rw [ev3, idx hi.1 hi.2, (xd_ok (by omega)).2.1]
    rfl
  have hin : inS x 0 = true := by unfold inS; rfl
  have hf : fits x ⟨3, i, 0, 0, xd i, eS, eS⟩ = decide (i ≤ 63) := by
    rw [Bool.eq_iff_iff, fits3 rfl ho]
    simp only [decide_eq_true_eq, hl, hin]
    constructor
    · rintro ⟨-, h2, -⟩
      omega
    · intro h
      refine ⟨fun f hf => ?_, by omega, trivial, place_none fun f hf => ?_⟩
      · rcases hm f hf with rfl | ⟨i', h1, h2, rfl⟩
        · simp [fee0]
          omega
        · simp
          omega
      · rcases hm f hf with rfl | ⟨i', h1, h2, rfl⟩
        · exact xd_ne rfl
        · intro h3
          have := xd_inj (by omega) (by omega) h3
          omega
  rw [e]
  refine ⟨hf, ?_⟩
  unfold applyS
  rw [hf]
  by_cases h : i ≤ 63
  · rw [decide_eq_true h, if_pos rfl, do3 rfl]
    refine ⟨?_, fun f hf => ?_⟩
    · rw [insI_len]
      omega
    · rcases mem_insI.1 hf with rfl | hf
      · exact .inr ⟨i, by omega, by omega, rfl⟩
      · rcases hm f hf with rfl | ⟨i', h1, h2, rfl⟩
        · exact .inl rfl
        · exact .inr ⟨i', h1, by omega, rfl⟩
  · rw [decide_eq_false h, if_neg (by simp)]
    refine ⟨by rw [hl]; omega, fun f hf => ?_⟩
    rcases hm f hf with rfl | ⟨i', h1, h2, rfl⟩
    · exact .inl rfl
    · exact .inr ⟨i', h1, by omega, rfl⟩
theorem fill_itms {x : St} {j i : Nat} (h : FillAt 7 x j) (hi : 1 ≤ i ∧ i ≤ 1100) (hj : j = min (i - 1) 1023) : fits x (fillE 7 i) = decide (i ≤ 1023) ∧ FillAt 7 (applyS x (fillE 7 i)).1 (min i 1023) := by
  have e : fillE 7 i = ⟨7, i, 1048576, 0, xd i, eS, eS⟩ := rfl
  obtain ⟨hfe, hl, hm⟩ : x.fees = [fee0] ∧ x.itms.length = j + 1 ∧ ∀ t ∈ x.itms, t = itm0 ∨ ∃ i : Nat, 1 ≤ i ∧ i ≤ j ∧ t.id = i ∧ t.guid = xd i := h
  have ho : evOk ⟨7, i, 1048576, 0, xd i, eS, eS⟩ = true := by
    rw [ev7, idx hi.1 hi.2, (xd_ok (by omega)).2.1]
    rfl
  have hf : fits x ⟨7, i, 1048576, 0, xd i, eS, eS⟩ = decide (i ≤ 1023) := by
    rw [Bool.eq_iff_iff, fits7 rfl ho]
    simp only [decide_eq_true_eq, hl]
    constructor
    · rintro ⟨-, h2, -⟩
      omega
    · intro h
      refine ⟨fun f hf => ?_, by omega, ⟨fee0, by rw [hfe]; simp, rfl⟩, guid_none fun f hf => ?_⟩
      · rcases hm f hf with rfl | ⟨i', h1, h2, h3, h4⟩
        · simp [itm0]
          omega
        · rw [h3]
          simp
          omega
      · rcases hm f hf with rfl | ⟨i', h1, h2, h3, h4⟩
        · exact xd_ne rfl
        · rw [h4]
          intro h3
          have := xd_inj (by omega) (by omega) h3
          omega
  rw [e]
  refine ⟨hf, ?_⟩
  unfold applyS
  rw [hf]
  by_cases h : i ≤ 1023
  · rw [decide_eq_true h, if_pos rfl, do7 rfl]
    refine ⟨hfe, ?_, fun f hf => ?_⟩
    · rw [insI_len]
      omega
    · rcases mem_insI.1 hf with rfl | hf
      · exact .inr ⟨i, by omega, by omega, rfl, rfl⟩
      · rcases hm f hf with rfl | ⟨i', h1, h2, h3⟩
        · exact .inl rfl
        · exact .inr ⟨i', h1, by omega, h3⟩
  · rw [decide_eq_false h, if_neg (by simp)]
    refine ⟨hfe, by rw [hl]; omega, fun f hf => ?_⟩
    rcases hm f hf with rfl | ⟨i', h1, h2, h3⟩
    · exact .inl rfl
    · exact .inr ⟨i', h1, by omega, h3⟩
theorem tagsG_new (t : ByteArray) : ∀ l : List ByteArray, t ∉ l → (tagsG t false l).length = l.length + 1 ∧ (tagsG t true l).length = l.length
  | [], _ => by simp [tagsG]
  | a :: l, h => by
    simp only [List.mem_cons, not_or] at h
    have ih := tagsG_new t l h.2
    have hne : ¬ a = t := fun e => h.1 e.symm
    unfold tagsG
    simp only [if_neg hne]
    constructor
    · split <;> simp [ih.1, ih.2]
    · simp [ih.2]
theorem tagsG_in (t : ByteArray) : ∀ (l : List ByteArray) (d : Bool), ∀ s ∈ tagsG t d l, s = t ∨ s ∈ l
  | [], d, s, h => by
    unfold tagsG at h
    split at h
    · cases h
    · simp at h
      exact .inl h
  | a :: l, d, s, h => by
    unfold tagsG at h
    have hr := fun d => tagsG_in t l d s
    have key : ∀ d, s ∈ (if a = t then tagsG t d l else a :: tagsG t d l) → s = t ∨ s ∈ a :: l := by
      intro d h
      split at h
      · rcases hr d h with h | h
        · exact .inl h
        · exact .inr (List.mem_cons_of_mem _ h)
      · rcases List.mem_cons.1 h with h | h
        · exact .inr (by rw [h]; exact List.mem_cons_self ..)
        · rcases hr d h with h | h
          · exact .inl h
          · exact .inr (List.mem_cons_of_mem _ h)
    split at h
    · rcases List.mem_cons.1 h with h | h
      · exact .inl h
      · exact key true h
    · exact key d h
theorem fill_tags {x : St} {j i : Nat} (h : FillAt 10 x j) (hi : 1 ≤ i ∧ i ≤ 1100) (hj : j = min (i - 1) 8) : fits x (fillE 10 i) = decide (i ≤ 8) ∧ FillAt 10 (applyS x (fillE 10 i)).1 (min i 8) := by
  have e : fillE 10 i = ⟨10, 1048576, 0, 1, xd i, eS, eS⟩ := rfl
  obtain ⟨g, hit, hl, hm⟩ : ∃ g : List ByteArray, x.itms = [{ itm0 with tags := g }] ∧ g.length = j ∧ ∀ s ∈ g, ∃ i : Nat, 1 ≤ i ∧ i ≤ j ∧ s = xd i := h
  have ho : evOk ⟨10, 1048576, 0, 1, xd i, eS, eS⟩ = true := by
    simp [evOk, evRight, evUsed, (xd_ok (i := i) (by omega)).2.2.1]
    exact ⟨rfl, rfl⟩
  have hat : atI Itm.id 1048576 x.itms = some { itm0 with tags := g } := by rw [hit]; rfl
  have hni : xd i ∉ g := fun hm' => by
    obtain ⟨i', h1, h2, h3⟩ := hm _ hm'
    have := xd_inj (by omega) (by omega) h3
    omega
  have hf : fits x ⟨10, 1048576, 0, 1, xd i, eS, eS⟩ = decide (i ≤ 8) := by
    rw [Bool.eq_iff_iff, fits10 rfl ho]
    simp only [decide_eq_true_eq, hat]
    constructor
    · rintro ⟨t, h1, h2⟩
      injection h1 with h1
      subst h1
      rcases h2 with h2 | h2 | h2
      · omega
      · exact absurd h2 hni
      · simp only at h2
        omega
    · intro h
      exact ⟨_, rfl, .inr (.inr (by simp only; omega))⟩
  rw [e]
  refine ⟨hf, ?_⟩
  unfold applyS
  rw [hf]
  by_cases h : i ≤ 8
  · rw [decide_eq_true h, if_pos rfl, do10 rfl]
    refine ⟨tagsS g (xd i) true, ?_, ?_, fun s hs => ?_⟩
    · show updI Itm.id 1048576 _ x.itms = _
      rw [hit]
      rfl
    · unfold tagsS
      rw [show (!true) = false from rfl, (tagsG_new (xd i) g hni).1]
      omega
    · rcases tagsG_in _ _ _ s hs with rfl | hs
      · exact ⟨i, by omega, by omega, rfl⟩
      · obtain ⟨i', h1, h2, h3⟩ := hm s hs
        exact ⟨i', h1, by omega, h3⟩
  · rw [decide_eq_false h, if_neg (by simp)]
    refine ⟨g, hit, by omega, fun s hs => ?_⟩
    obtain ⟨i', h1, h2, h3⟩ := hm s hs
    exact ⟨i', h1, by omega, h3⟩
theorem fill_seas {x : St} {j i : Nat} (h : FillAt 11 x j) (hi : 1 ≤ i ∧ i ≤ 1100) (hj : j = min (i - 1) 32) : fits x (fillE 11 i) = decide (i ≤ 32) ∧ FillAt 11 (applyS x (fillE 11 i)).1 (min i 32) := by
  have e : fillE 11 i = ⟨11, i, 0, 0, xd i, qB, eS⟩ := rfl
  obtain ⟨hl, hm⟩ : x.seas.length = j ∧ ∀ f ∈ x.seas, ∃ i : Nat, 1 ≤ i ∧ i ≤ j ∧ f.id = i := h
  have ho : evOk ⟨11, i, 0, 0, xd i, qB, eS⟩ = true := by
    rw [ev11, idx hi.1 hi.2, (xd_ok (by omega)).1]
    decide +kernel
  have hf : fits x ⟨11, i, 0, 0, xd i, qB, eS⟩ = decide (i ≤ 32) := by
    rw [Bool.eq_iff_iff, fits11 rfl ho]
    simp only [decide_eq_true_eq, hl]
    constructor
    · rintro ⟨-, h2⟩
      omega
    · intro h
      refine ⟨fun f hf => ?_, by omega⟩
      obtain ⟨i', h1, h2, h3⟩ := hm f hf
      rw [h3]
      simp
      omega
  rw [e]
  refine ⟨hf, ?_⟩
  unfold applyS
  rw [hf]
  by_cases h : i ≤ 32
  · rw [decide_eq_true h, if_pos rfl, do11 rfl]
    refine ⟨?_, fun f hf => ?_⟩
    · rw [insI_len]
      omega
    · rcases mem_insI.1 hf with rfl | hf
      · exact ⟨i, by omega, by omega, rfl⟩
      · obtain ⟨i', h1, h2, h3⟩ := hm f hf
        exact ⟨i', h1, by omega, h3⟩
  · rw [decide_eq_false h, if_neg (by simp)]
    refine ⟨by rw [hl]; omega, fun f hf => ?_⟩
    obtain ⟨i', h1, h2, h3⟩ := hm f hf
    exact ⟨i', h1, by omega, h3⟩
theorem fill_step {k : Int} (hk : fillK k) {x : St} {i : Nat} (hi : 1 ≤ i ∧ i ≤ 1100) (h : FillAt k x (min (i - 1) (mostF k))) : fits x (fillE k i) = decide (i ≤ mostF k) ∧ FillAt k (applyS x (fillE k i)).1 (min i (mostF k)) := by
  rcases hk with rfl | rfl | rfl | rfl | rfl
  · exact fill_fols h hi rfl
  · exact fill_fees h hi rfl
  · exact fill_itms h hi rfl
  · exact fill_tags h hi rfl
  · exact fill_seas h hi rfl
end Go.Proofs.YtjnjbmgnbchcjaaGreat
end
section
set_option linter.unusedVariables false
set_option linter.unusedSimpArgs false
namespace Go.Proofs.YtjnjbmgnbchcjaaGreat
open Go.RowKit Go.Lib

theorem dig_one : ∀ i : Nat, i < 10 → (⟨#[48, 49, 50, 51, 52, 53, 54, 55, 56, 57]⟩ : ByteArray).extract i (i + 1) = ⟨#[(48 + i).toUInt8]⟩ := by decide

set_option maxRecDepth 100000 in
set_option maxHeartbeats 16000000 in
theorem digits_any (n : Nat) (hn : n ≤ 1100) (w : World) : Calls Tryz.prog 32 #[.int .i64 n] w fun e w' => e = .returned (.string (digB n)) ∧ Frm Nix w w' := by
  have h1 : n / 1000 < 10 := by omega
  have h2 : n / 100 % 10 < 10 := by omega
  have h3 : n / 10 % 10 < 10 := by omega
  have h4 : n % 10 < 10 := by omega
  have HD : Hid (digB n = ((⟨#[(48 + n / 1000).toUInt8]⟩ : ByteArray) ++ ⟨#[(48 + n / 100 % 10).toUInt8]⟩ ++ ⟨#[(48 + n / 10 % 10).toUInt8]⟩ ++ ⟨#[(48 + n % 10).toUInt8]⟩)) := rfl
  have e1 := dig_one _ h1
  have e2 := dig_one _ h2
  have e3 := dig_one _ h3
  have e4 := dig_one _ h4
  rw [← e1, ← e2, ← e3, ← e4] at HD
  have t1 : (n : Int).tdiv 1000 = ((n / 1000 : Nat) : Int) := by rw [Int.tdiv_eq_ediv_of_nonneg (by omega)]; rfl
  have t2 : (n : Int).tdiv 100 = ((n / 100 : Nat) : Int) := by rw [Int.tdiv_eq_ediv_of_nonneg (by omega)]; rfl
  have t3 : (n : Int).tdiv 10 = ((n / 10 : Nat) : Int) := by rw [Int.tdiv_eq_ediv_of_nonneg (by omega)]; rfl
  have t4 : ((n / 100 : Nat) : Int).tmod 10 = ((n / 100 % 10 : Nat) : Int) := by rw [Int.tmod_eq_emod_of_nonneg (by omega)]; rfl
  have t5 : ((n / 10 : Nat) : Int).tmod 10 = ((n / 10 % 10 : Nat) : Int) := by rw [Int.tmod_eq_emod_of_nonneg (by omega)]; rfl
  have t6 : (n : Int).tmod 10 = ((n % 10 : Nat) : Int) := by rw [Int.tmod_eq_emod_of_nonneg (by omega)]; rfl
  have hq2 : n / 100 ≤ 1100 := by omega
  have hq3 : n / 10 ≤ 1100 := by omega
  clear e1 e2 e3 e4
  generalize digB n = D at *
  generalize n / 100 % 10 = b at *
  generalize n / 10 % 10 = c at *
  generalize n % 10 = d at *
  generalize n / 1000 = a at *
  generalize n / 100 = q2 at *
  generalize n / 10 = q3 at *
  go_enter Tryz.func32, Tryz.ntmps32
  go_wp2
  go_quiet (fail)
  go_wp2
  go_ret
  exact ⟨by rw [HD.out] <;> rfl, (Frm.refl Nix w).drewN _⟩

set_option maxRecDepth 100000 in
set_option maxHeartbeats 16000000 in
theorem fills_out (k n : Int) (w : World) (hn : n < 0 ∨ 1100 < n) : Calls Tryz.prog 8 #[.int .i64 k, .int .i64 n] w fun e w' => e = .returned (.bool true) ∧ Frm Nix w w' := by
  have KN := Lib.hid (New_any w)
  rcases hn with hn | hn
  · go_enter Tryz.func8, Tryz.ntmps8
    go_wp2_with (first
      | (go_at_call 16; have _q := Z2; refine (lives_any _).mono ?_; rintro e w3 ⟨rfl, hf⟩; have Z3 : Hid (Frm Nix w w3) := Z2.out.trans hf; clear hf)
      | (go_at_call 16; have _q := Z1; refine (lives_any _).mono ?_; rintro e w2 ⟨rfl, hf⟩; have Z2 : Hid (Frm Nix w w2) := Z1.out.trans hf; clear hf)
      | (go_at_call 15; refine KN.out.mono ?_; rintro e w1 ⟨g, M, rfl, hs, hf, hg⟩; have H1 := Lib.hid hs; have Z1 := Lib.hid hf; have HG := Lib.hid hg; clear hs hf hg))
    go_ret
    exact ⟨rfl, Z3.out⟩
  · have h0 : ¬ n < 0 := by omega
    go_enter Tryz.func8, Tryz.ntmps8
    go_wp2_with (first
      | (go_at_call 16; have _q := Z2; refine (lives_any _).mono ?_; rintro e w3 ⟨rfl, hf⟩; have Z3 : Hid (Frm Nix w w3) := Z2.out.trans hf; clear hf)
      | (go_at_call 16; have _q := Z1; refine (lives_any _).mono ?_; rintro e w2 ⟨rfl, hf⟩; have Z2 : Hid (Frm Nix w w2) := Z1.out.trans hf; clear hf)
      | (go_at_call 15; refine KN.out.mono ?_; rintro e w1 ⟨g, M, rfl, hs, hf, hg⟩; have H1 := Lib.hid hs; have Z1 := Lib.hid hf; have HG := Lib.hid hg; clear hs hf hg))
    go_ret
    exact ⟨rfl, Z3.out⟩

theorem fil1 {w : World} {g : Nat} {M : Ms} (h : StAt w g M st0) : Calls Tryz.prog 22 #[.pointer (some ⟨g, 0, none⟩), .agg #[.int .i64 3, .int .i64 1048576, .int .i64 0, .int .i64 0, .string ⟨#[117]⟩, .string ⟨#[]⟩, .string ⟨#[]⟩]] w fun e w' => e = .returned (.bool true) ∧ StAt w' g M { st0 with fees := [fee0], tFee := 1048576 } ∧ Frm (SF g M) w w' := by
  have := Apply_any h ⟨3, 1048576, 0, 0, uB, eS, eS⟩ ⟨by decide, by decide⟩ ⟨by decide, by decide⟩
  rw [fill0_1] at this
  exact this
theorem fil2 {w : World} {g : Nat} {M : Ms} (h : StAt w g M { st0 with fees := [fee0], tFee := 1048576 }) : Calls Tryz.prog 22 #[.pointer (some ⟨g, 0, none⟩), .agg #[.int .i64 7, .int .i64 1048576, .int .i64 1048576, .int .i64 0, .string ⟨#[103]⟩, .string ⟨#[]⟩, .string ⟨#[]⟩]] w fun e w' => e = .returned (.bool true) ∧ StAt w' g M fill0 ∧ Frm (SF g M) w w' := by
  have := Apply_any h ⟨7, 1048576, 1048576, 0, gB, eS, eS⟩ ⟨by decide, by decide⟩ ⟨by decide, by decide⟩
  rw [fill0_2] at this
  exact this

set_option maxRecDepth 100000 in
set_option maxHeartbeats 16000000 in
theorem fills_1 (n : Nat) (hn : n ≤ 1100) (w : World) : Calls Tryz.prog 8 #[.int .i64 1, .int .i64 n] w fun e w' => e = .returned (.bool true) ∧ Frm Nix w w' := by
  have KN := Lib.hid (New_any w)
  have h0 : ¬ (n : Int) < 0 := by omega
  have h1100 : ¬ (1100 : Int) < (n : Int) := by omega
  go_enter Tryz.func8, Tryz.ntmps8
  show Code.wp Tryz.prog (peel 0 (bodyOf Tryz.f8)) _ _ _
  have e1 : peel 0 (bodyOf Tryz.f8) = .seq (hdC (peel 0 (bodyOf Tryz.f8))) (peel 1 (bodyOf Tryz.f8)) := by kernel_rfl
  rw [e1]
  clear e1
  refine wp_seq_k fun K hK => ?_
  conv in hdC _ => whnf
  go_wp2
  have e1 : peel 1 (bodyOf Tryz.f8) = .seq (hdC (peel 1 (bodyOf Tryz.f8))) (peel 2 (bodyOf Tryz.f8)) := by kernel_rfl
  rw [e1]
  clear e1
  refine wp_seq_k fun K hK => ?_
  conv in hdC _ => whnf
  go_wp2_with (go_at_call 15; refine KN.out.mono ?_; rintro e w1 ⟨g, M, rfl, hs, hf, hg⟩; have H1 := Lib.hid hs; have Z1 := Lib.hid hf; have HG := Lib.hid hg; clear hs hf hg)
  have e1 : peel 2 (bodyOf Tryz.f8) = .seq (hdC (peel 2 (bodyOf Tryz.f8))) (peel 3 (bodyOf Tryz.f8)) := by kernel_rfl
  rw [e1]
  clear e1
  refine wp_seq_k fun K hK => ?_
  conv in hdC _ => whnf
  go_wp2_with (go_at_call 16; have _q := Z1; refine (lives_any _).mono ?_; rintro e w2 ⟨rfl, hf⟩; have H2 := Lib.hid (H1.out.nix hf); have Z2 : Hid (Frm Nix w w2) := Z1.out.trans hf; clear hf)
  have e1 : peel 3 (bodyOf Tryz.f8) = .seq (hdC (peel 3 (bodyOf Tryz.f8))) (peel 4 (bodyOf Tryz.f8)) := by kernel_rfl
  rw [e1]
  clear e1
  refine wp_seq_k fun K hK => ?_
  conv in hdC _ => whnf
  go_wp2
  have e1 : peel 4 (bodyOf Tryz.f8) = .seq (hdC (peel 4 (bodyOf Tryz.f8))) (peel 5 (bodyOf Tryz.f8)) := by kernel_rfl
  rw [e1]
  clear e1
  refine wp_seq_k fun K hK => ?_
  conv in hdC _ => whnf
  go_wp2_with (go_at_call 22; refine (fil1 H2.out).mono ?_; rintro e w3 ⟨rfl, hs, hf⟩; have H3 := Lib.hid hs; have Z3 : Hid (Frm Nix w w3) := frm_own Z2.out hf HG.out; clear hs hf)
  have e1 : peel 5 (bodyOf Tryz.f8) = .seq (hdC (peel 5 (bodyOf Tryz.f8))) (peel 6 (bodyOf Tryz.f8)) := by kernel_rfl
  rw [e1]
  clear e1
  refine wp_seq_k fun K hK => ?_
  conv in hdC _ => whnf
  go_wp2_with (go_at_call 22; refine (fil2 H3.out).mono ?_; rintro e w4 ⟨rfl, hs, hf⟩; have H4 := Lib.hid hs; have Z4 : Hid (Frm Nix w w4) := frm_own Z3.out hf HG.out; clear hs hf)
  have e1 : peel 6 (bodyOf Tryz.f8) = .seq (hdC (peel 6 (bodyOf Tryz.f8))) (peel 7 (bodyOf Tryz.f8)) := by kernel_rfl
  rw [e1]
  clear e1
  refine wp_seq_k fun K hK => ?_
  conv in hdC _ => whnf
  go_wp2
  go_loopw [7] (fun kv wr => ∃ i : Nat, (1 ≤ i ∧ i ≤ n + 1) ∧ kv = .int .i64 i ∧ (∃ x, StAt wr g M x ∧ FillAt 1 x (min (i - 1) (mostF 1))) ∧ Frm Nix w wr) (fun kv _ => n + 1 - (intOf kv).toNat)
  case atStart => exact ⟨1, by omega, rfl, ⟨fill0, H4.out, fill_start 1 (by unfold fillK; omega)⟩, Z4.out⟩
  case round =>
    obtain ⟨i, ⟨hi1, hi2⟩, rfl, ⟨x, hs, hx⟩, hf⟩ := hrel
    have H5 := Lib.hid hs
    have HX := Lib.hid hx
    have Z5 := Lib.hid hf
    clear hs hx hf
    by_cases hlt : i ≤ n
    · have hle : (i : Int) ≤ (n : Int) := by omega
      have HSt := Lib.hid (fill_step (k := 1) (by unfold fillK; omega) (i := i) ⟨hi1, by omega⟩ HX.out)
      have hI : I64 (fillE 1 i).a ∧ I64 (fillE 1 i).b := by constructor <;> (show I64 _; simp [fillE, I64] <;> omega)
      have KD : Hid (Calls Tryz.prog 32 #[.int .i64 i] wr fun e w' => e = .returned (.string (digB i)) ∧ Frm Nix wr w') := digits_any i (by omega) wr
      have hxd : (⟨#[120]⟩ : ByteArray) ++ digB i = xd i := rfl
      have KFi : Hid (∀ W, Frm Nix wr W → Calls Tryz.prog 21 #[.pointer (some ⟨g, 0, none⟩), .agg #[.int .i64 1, .int .i64 i, .int .i64 0, .int .i64 0, .string (xd i), .string ⟨#[]⟩, .string ⟨#[]⟩]] W fun r w' => r = .returned (.bool (decide (i ≤ 64))) ∧ Frm Nix wr w' ∧ Frm Nix W w') := fun W hW => by
        have := Fits_any (H5.out.nix hW) (fillE 1 i) hI.1 hI.2
        rw [HSt.out.1] at this
        exact this.mono fun r w' ⟨q1, q2⟩ => ⟨q1, hW.trans q2, q2⟩
      have KAp : Hid (∀ W, Frm Nix wr W → Calls Tryz.prog 22 #[.pointer (some ⟨g, 0, none⟩), .agg #[.int .i64 1, .int .i64 i, .int .i64 0, .int .i64 0, .string (xd i), .string ⟨#[]⟩, .string ⟨#[]⟩]] W fun r w' => r = .returned (.bool (decide (i ≤ 64))) ∧ StAt w' g M (applyS x (fillE 1 i)).1 ∧ Frm Nix w w') := fun W hW => by
        have := Apply_any (H5.out.nix hW) (fillE 1 i) hI.1 hI.2
        rw [show (applyS x (fillE 1 i)).2 = fits x (fillE 1 i) by unfold applyS; split <;> simp [*], HSt.out.1] at this
        exact this.mono fun r w' ⟨q1, q2, q3⟩ => ⟨q1, q2, frm_own (Z5.out.trans hW) q3 HG.out⟩
      have HSx : Hid (FillAt 1 (applyS x (fillE 1 i)).1 (min (i + 1 - 1) (mostF 1))) := HSt.out.2
      clear hI
      generalize (applyS x (fillE 1 i)).1 = y at *
      cases hm : decide (i ≤ 64) with
      | true =>
        have hm2 : (i : Int) ≤ 64 := by have := of_decide_eq_true hm; omega
        rw [hm] at KFi KAp
        clear hm
        go_wp2_with (first
          | (go_at_call 22; have _q := F7; refine (KAp.out _ F7.out).mono ?_; rintro r w8 ⟨rfl, hs, hf⟩; have H8 := Lib.hid hs; have Z8 := Lib.hid hf; clear hs hf)
          | (go_at_call 21; rw [← HWB.out]; refine (KFi.out _ HFb.out).mono ?_; rintro r w7 ⟨rfl, hf, hf2⟩; have F7 := Lib.hid hf; obtain ⟨y0, y1, y2, y3, y4, y5, y6⟩ := blk7 (HB.out.frm hf2 id); clear hf hf2)
          | (go_at_call 32; refine KD.out.mono ?_; rintro r w6 ⟨rfl, hf6⟩; obtain ⟨wb, hwb⟩ : ∃ wb, wb = w6.alloc (.cells #[.int .i64 1, .int .i64 i, .int .i64 0, .int .i64 0, .string (xd i), .string ⟨#[]⟩, .string ⟨#[]⟩] 38) := ⟨_, rfl⟩; have HWB := Lib.hid hwb; have HB : Hid (Blk wb w6.heap.size 38 #[.int .i64 1, .int .i64 i, .int .i64 0, .int .i64 0, .string (xd i), .string ⟨#[]⟩, .string ⟨#[]⟩]) := (by rw [hwb]; exact Blk.new _ _ _); have HFb : Hid (Frm Nix wr wb) := (by rw [hwb]; exact hf6.alloc _); clear hwb hf6))
        go_roundw
        case rel => exact ⟨i + 1, by omega, by go_num, ⟨y, H8.out, HSx.out⟩, Z8.out⟩
        case measure => simp [intOf]; omega
      | false =>
        have hm2 : ¬ (i : Int) ≤ 64 := by have := of_decide_eq_false hm; omega
        rw [hm] at KFi KAp
        clear hm
        go_wp2_with (first
          | (go_at_call 22; have _q := F7; refine (KAp.out _ F7.out).mono ?_; rintro r w8 ⟨rfl, hs, hf⟩; have H8 := Lib.hid hs; have Z8 := Lib.hid hf; clear hs hf)
          | (go_at_call 21; rw [← HWB.out]; refine (KFi.out _ HFb.out).mono ?_; rintro r w7 ⟨rfl, hf, hf2⟩; have F7 := Lib.hid hf; obtain ⟨y0, y1, y2, y3, y4, y5, y6⟩ := blk7 (HB.out.frm hf2 id); clear hf hf2)
          | (go_at_call 32; refine KD.out.mono ?_; rintro r w6 ⟨rfl, hf6⟩; obtain ⟨wb, hwb⟩ : ∃ wb, wb = w6.alloc (.cells #[.int .i64 1, .int .i64 i, .int .i64 0, .int .i64 0, .string (xd i), .string ⟨#[]⟩, .string ⟨#[]⟩] 38) := ⟨_, rfl⟩; have HWB := Lib.hid hwb; have HB : Hid (Blk wb w6.heap.size 38 #[.int .i64 1, .int .i64 i, .int .i64 0, .int .i64 0, .string (xd i), .string ⟨#[]⟩, .string ⟨#[]⟩]) := (by rw [hwb]; exact Blk.new _ _ _); have HFb : Hid (Frm Nix wr wb) := (by rw [hwb]; exact hf6.alloc _); clear hwb hf6))
        go_roundw
        case rel => exact ⟨i + 1, by omega, by go_num, ⟨y, H8.out, HSx.out⟩, Z8.out⟩
        case measure => simp [intOf]; omega
    · obtain rfl : i = n + 1 := by omega
      go_wp2
      simp only [peel, bodyOf, Tryz.f8]
      go_wp2
      go_ret
      exact ⟨rfl, Z5.out⟩

set_option maxRecDepth 100000 in
set_option maxHeartbeats 16000000 in
theorem fills_3 (n : Nat) (hn : n ≤ 1100) (w : World) : Calls Tryz.prog 8 #[.int .i64 3, .int .i64 n] w fun e w' => e = .returned (.bool true) ∧ Frm Nix w w' := by
  have KN := Lib.hid (New_any w)
  have h0 : ¬ (n : Int) < 0 := by omega
  have h1100 : ¬ (1100 : Int) < (n : Int) := by omega
  go_enter Tryz.func8, Tryz.ntmps8
  show Code.wp Tryz.prog (peel 0 (bodyOf Tryz.f8)) _ _ _
  have e1 : peel 0 (bodyOf Tryz.f8) = .seq (hdC (peel 0 (bodyOf Tryz.f8))) (peel 1 (bodyOf Tryz.f8)) := by kernel_rfl
  rw [e1]
  clear e1
  refine wp_seq_k fun K hK => ?_
  conv in hdC _ => whnf
  go_wp2
  have e1 : peel 1 (bodyOf Tryz.f8) = .seq (hdC (peel 1 (bodyOf Tryz.f8))) (peel 2 (bodyOf Tryz.f8)) := by kernel_rfl
  rw [e1]
  clear e1
  refine wp_seq_k fun K hK => ?_
  conv in hdC _ => whnf
  go_wp2_with (go_at_call 15; refine KN.out.mono ?_; rintro e w1 ⟨g, M, rfl, hs, hf, hg⟩; have H1 := Lib.hid hs; have Z1 := Lib.hid hf; have HG := Lib.hid hg; clear hs hf hg)
  have e1 : peel 2 (bodyOf Tryz.f8) = .seq (hdC (peel 2 (bodyOf Tryz.f8))) (peel 3 (bodyOf Tryz.f8)) := by kernel_rfl
  rw [e1]
  clear e1
  refine wp_seq_k fun K hK => ?_
  conv in hdC _ => whnf
  go_wp2_with (go_at_call 16; have _q := Z1; refine (lives_any _).mono ?_; rintro e w2 ⟨rfl, hf⟩; have H2 := Lib.hid (H1.out.nix hf); have Z2 : Hid (Frm Nix w w2) := Z1.out.trans hf; clear hf)
  have e1 : peel 3 (bodyOf Tryz.f8) = .seq (hdC (peel 3 (bodyOf Tryz.f8))) (peel 4 (bodyOf Tryz.f8)) := by kernel_rfl
  rw [e1]
  clear e1
  refine wp_seq_k fun K hK => ?_
  conv in hdC _ => whnf
  go_wp2
  have e1 : peel 4 (bodyOf Tryz.f8) = .seq (hdC (peel 4 (bodyOf Tryz.f8))) (peel 5 (bodyOf Tryz.f8)) := by kernel_rfl
  rw [e1]
  clear e1
  refine wp_seq_k fun K hK => ?_
  conv in hdC _ => whnf
  go_wp2_with (go_at_call 22; refine (fil1 H2.out).mono ?_; rintro e w3 ⟨rfl, hs, hf⟩; have H3 := Lib.hid hs; have Z3 : Hid (Frm Nix w w3) := frm_own Z2.out hf HG.out; clear hs hf)
  have e1 : peel 5 (bodyOf Tryz.f8) = .seq (hdC (peel 5 (bodyOf Tryz.f8))) (peel 6 (bodyOf Tryz.f8)) := by kernel_rfl
  rw [e1]
  clear e1
  refine wp_seq_k fun K hK => ?_
  conv in hdC _ => whnf
  go_wp2_with (go_at_call 22; refine (fil2 H3.out).mono ?_; rintro e w4 ⟨rfl, hs, hf⟩; have H4 := Lib.hid hs; have Z4 : Hid (Frm Nix w w4) := frm_own Z3.out hf HG.out; clear hs hf)
  have e1 : peel 6 (bodyOf Tryz.f8) = .seq (hdC (peel 6 (bodyOf Tryz.f8))) (peel 7 (bodyOf Tryz.f8)) := by kernel_rfl
  rw [e1]
  clear e1
  refine wp_seq_k fun K hK => ?_
  conv in hdC _ => whnf
  go_wp2
  go_loopw [7] (fun kv wr => ∃ i : Nat, (1 ≤ i ∧ i ≤ n + 1) ∧ kv = .int .i64 i ∧ (∃ x, StAt wr g M x ∧ FillAt 3 x (min (i - 1) (mostF 3))) ∧ Frm Nix w wr) (fun kv _ => n + 1 - (intOf kv).toNat)
  case atStart => exact ⟨1, by omega, rfl, ⟨fill0, H4.out, fill_start 3 (by unfold fillK; omega)⟩, Z4.out⟩
  case round =>
    obtain ⟨i, ⟨hi1, hi2⟩, rfl, ⟨x, hs, hx⟩, hf⟩ := hrel
    have H5 := Lib.hid hs
    have HX := Lib.hid hx
    have Z5 := Lib.hid hf
    clear hs hx hf
    by_cases hlt : i ≤ n
    · have hle : (i : Int) ≤ (n : Int) := by omega
      have HSt := Lib.hid (fill_step (k := 3) (by unfold fillK; omega) (i := i) ⟨hi1, by omega⟩ HX.out)
      have hI : I64 (fillE 3 i).a ∧ I64 (fillE 3 i).b := by constructor <;> (show I64 _; simp [fillE, I64] <;> omega)
      have KD : Hid (Calls Tryz.prog 32 #[.int .i64 i] wr fun e w' => e = .returned (.string (digB i)) ∧ Frm Nix wr w') := digits_any i (by omega) wr
      have hxd : (⟨#[120]⟩ : ByteArray) ++ digB i = xd i := rfl
      have KFi : Hid (∀ W, Frm Nix wr W → Calls Tryz.prog 21 #[.pointer (some ⟨g, 0, none⟩), .agg #[.int .i64 3, .int .i64 i, .int .i64 0, .int .i64 0, .string (xd i), .string ⟨#[]⟩, .string ⟨#[]⟩]] W fun r w' => r = .returned (.bool (decide (i ≤ 63))) ∧ Frm Nix wr w' ∧ Frm Nix W w') := fun W hW => by
        have := Fits_any (H5.out.nix hW) (fillE 3 i) hI.1 hI.2
        rw [HSt.out.1] at this
        exact this.mono fun r w' ⟨q1, q2⟩ => ⟨q1, hW.trans q2, q2⟩
      have KAp : Hid (∀ W, Frm Nix wr W → Calls Tryz.prog 22 #[.pointer (some ⟨g, 0, none⟩), .agg #[.int .i64 3, .int .i64 i, .int .i64 0, .int .i64 0, .string (xd i), .string ⟨#[]⟩, .string ⟨#[]⟩]] W fun r w' => r = .returned (.bool (decide (i ≤ 63))) ∧ StAt w' g M (applyS x (fillE 3 i)).1 ∧ Frm Nix w w') := fun W hW => by
        have := Apply_any (H5.out.nix hW) (fillE 3 i) hI.1 hI.2
        rw [show (applyS x (fillE 3 i)).2 = fits x (fillE 3 i) by unfold applyS; split <;> simp [*], HSt.out.1] at this
        exact this.mono fun r w' ⟨q1, q2, q3⟩ => ⟨q1, q2, frm_own (Z5.out.trans hW) q3 HG.out⟩
      have HSx : Hid (FillAt 3 (applyS x (fillE 3 i)).1 (min (i + 1 - 1) (mostF 3))) := HSt.out.2
      clear hI
      generalize (applyS x (fillE 3 i)).1 = y at *
      cases hm : decide (i ≤ 63) with
      | true =>
        have hm2 : (i : Int) ≤ 63 := by have := of_decide_eq_true hm; omega
        rw [hm] at KFi KAp
        clear hm
        go_wp2_with (first
          | (go_at_call 22; have _q := F7; refine (KAp.out _ F7.out).mono ?_; rintro r w8 ⟨rfl, hs, hf⟩; have H8 := Lib.hid hs; have Z8 := Lib.hid hf; clear hs hf)
          | (go_at_call 21; rw [← HWB.out]; refine (KFi.out _ HFb.out).mono ?_; rintro r w7 ⟨rfl, hf, hf2⟩; have F7 := Lib.hid hf; obtain ⟨y0, y1, y2, y3, y4, y5, y6⟩ := blk7 (HB.out.frm hf2 id); clear hf hf2)
          | (go_at_call 32; refine KD.out.mono ?_; rintro r w6 ⟨rfl, hf6⟩; obtain ⟨wb, hwb⟩ : ∃ wb, wb = w6.alloc (.cells #[.int .i64 3, .int .i64 i, .int .i64 0, .int .i64 0, .string (xd i), .string ⟨#[]⟩, .string ⟨#[]⟩] 38) := ⟨_, rfl⟩; have HWB := Lib.hid hwb; have HB : Hid (Blk wb w6.heap.size 38 #[.int .i64 3, .int .i64 i, .int .i64 0, .int .i64 0, .string (xd i), .string ⟨#[]⟩, .string ⟨#[]⟩]) := (by rw [hwb]; exact Blk.new _ _ _); have HFb : Hid (Frm Nix wr wb) := (by rw [hwb]; exact hf6.alloc _); clear hwb hf6))
        go_roundw
        case rel => exact ⟨i + 1, by omega, by go_num, ⟨y, H8.out, HSx.out⟩, Z8.out⟩
        case measure => simp [intOf]; omega
      | false =>
        have hm2 : ¬ (i : Int) ≤ 63 := by have := of_decide_eq_false hm; omega
        rw [hm] at KFi KAp
        clear hm
        go_wp2_with (first
          | (go_at_call 22; have _q := F7; refine (KAp.out _ F7.out).mono ?_; rintro r w8 ⟨rfl, hs, hf⟩; have H8 := Lib.hid hs; have Z8 := Lib.hid hf; clear hs hf)
          | (go_at_call 21; rw [← HWB.out]; refine (KFi.out _ HFb.out).mono ?_; rintro r w7 ⟨rfl, hf, hf2⟩; have F7 := Lib.hid hf; obtain ⟨y0, y1, y2, y3, y4, y5, y6⟩ := blk7 (HB.out.frm hf2 id); clear hf hf2)
          | (go_at_call 32; refine KD.out.mono ?_; rintro r w6 ⟨rfl, hf6⟩; obtain ⟨wb, hwb⟩ : ∃ wb, wb = w6.alloc (.cells #[.int .i64 3, .int .i64 i, .int .i64 0, .int .i64 0, .string (xd i), .string ⟨#[]⟩, .string ⟨#[]⟩] 38) := ⟨_, rfl⟩; have HWB := Lib.hid hwb; have HB : Hid (Blk wb w6.heap.size 38 #[.int .i64 3, .int .i64 i, .int .i64 0, .int .i64 0, .string (xd i), .string ⟨#[]⟩, .string ⟨#[]⟩]) := (by rw [hwb]; exact Blk.new _ _ _); have HFb : Hid (Frm Nix wr wb) := (by rw [hwb]; exact hf6.alloc _); clear hwb hf6))
        go_roundw
        case rel => exact ⟨i + 1, by omega, by go_num, ⟨y, H8.out, HSx.out⟩, Z8.out⟩
        case measure => simp [intOf]; omega
    · obtain rfl : i = n + 1 := by omega
      go_wp2
      simp only [peel, bodyOf, Tryz.f8]
      go_wp2
      go_ret
      exact ⟨rfl, Z5.out⟩

set_option maxRecDepth 100000 in
set_option maxHeartbeats 16000000 in
theorem fills_7 (n : Nat) (hn : n ≤ 1100) (w : World) : Calls Tryz.prog 8 #[.int .i64 7, .int .i64 n] w fun e w' => e = .returned (.bool true) ∧ Frm Nix w w' := by
  have KN := Lib.hid (New_any w)
  have h0 : ¬ (n : Int) < 0 := by omega
  have h1100 : ¬ (1100 : Int) < (n : Int) := by omega
  go_enter Tryz.func8, Tryz.ntmps8
  show Code.wp Tryz.prog (peel 0 (bodyOf Tryz.f8)) _ _ _
  have e1 : peel 0 (bodyOf Tryz.f8) = .seq (hdC (peel 0 (bodyOf Tryz.f8))) (peel 1 (bodyOf Tryz.f8)) := by kernel_rfl
  rw [e1]
  clear e1
  refine wp_seq_k fun K hK => ?_
  conv in hdC _ => whnf
  go_wp2
  have e1 : peel 1 (bodyOf Tryz.f8) = .seq (hdC (peel 1 (bodyOf Tryz.f8))) (peel 2 (bodyOf Tryz.f8)) := by kernel_rfl
  rw [e1]
  clear e1
  refine wp_seq_k fun K hK => ?_
  conv in hdC _ => whnf
  go_wp2_with (go_at_call 15; refine KN.out.mono ?_; rintro e w1 ⟨g, M, rfl, hs, hf, hg⟩; have H1 := Lib.hid hs; have Z1 := Lib.hid hf; have HG := Lib.hid hg; clear hs hf hg)
  have e1 : peel 2 (bodyOf Tryz.f8) = .seq (hdC (peel 2 (bodyOf Tryz.f8))) (peel 3 (bodyOf Tryz.f8)) := by kernel_rfl
  rw [e1]
  clear e1
  refine wp_seq_k fun K hK => ?_
  conv in hdC _ => whnf
  go_wp2_with (go_at_call 16; have _q := Z1; refine (lives_any _).mono ?_; rintro e w2 ⟨rfl, hf⟩; have H2 := Lib.hid (H1.out.nix hf); have Z2 : Hid (Frm Nix w w2) := Z1.out.trans hf; clear hf)
  have e1 : peel 3 (bodyOf Tryz.f8) = .seq (hdC (peel 3 (bodyOf Tryz.f8))) (peel 4 (bodyOf Tryz.f8)) := by kernel_rfl
  rw [e1]
  clear e1
  refine wp_seq_k fun K hK => ?_
  conv in hdC _ => whnf
  go_wp2
  have e1 : peel 4 (bodyOf Tryz.f8) = .seq (hdC (peel 4 (bodyOf Tryz.f8))) (peel 5 (bodyOf Tryz.f8)) := by kernel_rfl
  rw [e1]
  clear e1
  refine wp_seq_k fun K hK => ?_
  conv in hdC _ => whnf
  go_wp2_with (go_at_call 22; refine (fil1 H2.out).mono ?_; rintro e w3 ⟨rfl, hs, hf⟩; have H3 := Lib.hid hs; have Z3 : Hid (Frm Nix w w3) := frm_own Z2.out hf HG.out; clear hs hf)
  have e1 : peel 5 (bodyOf Tryz.f8) = .seq (hdC (peel 5 (bodyOf Tryz.f8))) (peel 6 (bodyOf Tryz.f8)) := by kernel_rfl
  rw [e1]
  clear e1
  refine wp_seq_k fun K hK => ?_
  conv in hdC _ => whnf
  go_wp2_with (go_at_call 22; refine (fil2 H3.out).mono ?_; rintro e w4 ⟨rfl, hs, hf⟩; have H4 := Lib.hid hs; have Z4 : Hid (Frm Nix w w4) := frm_own Z3.out hf HG.out; clear hs hf)
  have e1 : peel 6 (bodyOf Tryz.f8) = .seq (hdC (peel 6 (bodyOf Tryz.f8))) (peel 7 (bodyOf Tryz.f8)) := by kernel_rfl
  rw [e1]
  clear e1
  refine wp_seq_k fun K hK => ?_
  conv in hdC _ => whnf
  go_wp2
  go_loopw [7] (fun kv wr => ∃ i : Nat, (1 ≤ i ∧ i ≤ n + 1) ∧ kv = .int .i64 i ∧ (∃ x, StAt wr g M x ∧ FillAt 7 x (min (i - 1) (mostF 7))) ∧ Frm Nix w wr) (fun kv _ => n + 1 - (intOf kv).toNat)
  case atStart => exact ⟨1, by omega, rfl, ⟨fill0, H4.out, fill_start 7 (by unfold fillK; omega)⟩, Z4.out⟩
  case round =>
    obtain ⟨i, ⟨hi1, hi2⟩, rfl, ⟨x, hs, hx⟩, hf⟩ := hrel
    have H5 := Lib.hid hs
    have HX := Lib.hid hx
    have Z5 := Lib.hid hf
    clear hs hx hf
    by_cases hlt : i ≤ n
    · have hle : (i : Int) ≤ (n : Int) := by omega
      have HSt := Lib.hid (fill_step (k := 7) (by unfold fillK; omega) (i := i) ⟨hi1, by omega⟩ HX.out)
      have hI : I64 (fillE 7 i).a ∧ I64 (fillE 7 i).b := by constructor <;> (show I64 _; simp [fillE, I64] <;> omega)
      have KD : Hid (Calls Tryz.prog 32 #[.int .i64 i] wr fun e w' => e = .returned (.string (digB i)) ∧ Frm Nix wr w') := digits_any i (by omega) wr
      have hxd : (⟨#[120]⟩ : ByteArray) ++ digB i = xd i := rfl
      have KFi : Hid (∀ W, Frm Nix wr W → Calls Tryz.prog 21 #[.pointer (some ⟨g, 0, none⟩), .agg #[.int .i64 7, .int .i64 i, .int .i64 1048576, .int .i64 0, .string (xd i), .string ⟨#[]⟩, .string ⟨#[]⟩]] W fun r w' => r = .returned (.bool (decide (i ≤ 1023))) ∧ Frm Nix wr w' ∧ Frm Nix W w') := fun W hW => by
        have := Fits_any (H5.out.nix hW) (fillE 7 i) hI.1 hI.2
        rw [HSt.out.1] at this
        exact this.mono fun r w' ⟨q1, q2⟩ => ⟨q1, hW.trans q2, q2⟩
      have KAp : Hid (∀ W, Frm Nix wr W → Calls Tryz.prog 22 #[.pointer (some ⟨g, 0, none⟩), .agg #[.int .i64 7, .int .i64 i, .int .i64 1048576, .int .i64 0, .string (xd i), .string ⟨#[]⟩, .string ⟨#[]⟩]] W fun r w' => r = .returned (.bool (decide (i ≤ 1023))) ∧ StAt w' g M (applyS x (fillE 7 i)).1 ∧ Frm Nix w w') := fun W hW => by
        have := Apply_any (H5.out.nix hW) (fillE 7 i) hI.1 hI.2
        rw [show (applyS x (fillE 7 i)).2 = fits x (fillE 7 i) by unfold applyS; split <;> simp [*], HSt.out.1] at this
        exact this.mono fun r w' ⟨q1, q2, q3⟩ => ⟨q1, q2, frm_own (Z5.out.trans hW) q3 HG.out⟩
      have HSx : Hid (FillAt 7 (applyS x (fillE 7 i)).1 (min (i + 1 - 1) (mostF 7))) := HSt.out.2
      clear hI
      generalize (applyS x (fillE 7 i)).1 = y at *
      cases hm : decide (i ≤ 1023) with
      | true =>
        have hm2 : (i : Int) ≤ 1023 := by have := of_decide_eq_true hm; omega
        rw [hm] at KFi KAp
        clear hm
        go_wp2_with (first
          | (go_at_call 22; have _q := F7; refine (KAp.out _ F7.out).mono ?_; rintro r w8 ⟨rfl, hs, hf⟩; have H8 := Lib.hid hs; have Z8 := Lib.hid hf; clear hs hf)
          | (go_at_call 21; rw [← HWB.out]; refine (KFi.out _ HFb.out).mono ?_; rintro r w7 ⟨rfl, hf, hf2⟩; have F7 := Lib.hid hf; obtain ⟨y0, y1, y2, y3, y4, y5, y6⟩ := blk7 (HB.out.frm hf2 id); clear hf hf2)
          | (go_at_call 32; refine KD.out.mono ?_; rintro r w6 ⟨rfl, hf6⟩; obtain ⟨wb, hwb⟩ : ∃ wb, wb = w6.alloc (.cells #[.int .i64 7, .int .i64 i, .int .i64 1048576, .int .i64 0, .string (xd i), .string ⟨#[]⟩, .string ⟨#[]⟩] 38) := ⟨_, rfl⟩; have HWB := Lib.hid hwb; have HB : Hid (Blk wb w6.heap.size 38 #[.int .i64 7, .int .i64 i, .int .i64 1048576, .int .i64 0, .string (xd i), .string ⟨#[]⟩, .string ⟨#[]⟩]) := (by rw [hwb]; exact Blk.new _ _ _); have HFb : Hid (Frm Nix wr wb) := (by rw [hwb]; exact hf6.alloc _); clear hwb hf6))
        go_roundw
        case rel => exact ⟨i + 1, by omega, by go_num, ⟨y, H8.out, HSx.out⟩, Z8.out⟩
        case measure => simp [intOf]; omega
      | false =>
        have hm2 : ¬ (i : Int) ≤ 1023 := by have := of_decide_eq_false hm; omega
        rw [hm] at KFi KAp
        clear hm
        go_wp2_with (first
          | (go_at_call 22; have _q := F7; refine (KAp.out _ F7.out).mono ?_; rintro r w8 ⟨rfl, hs, hf⟩; have H8 := Lib.hid hs; have Z8 := Lib.hid hf; clear hs hf)
          | (go_at_call 21; rw [← HWB.out]; refine (KFi.out _ HFb.out).mono ?_; rintro r w7 ⟨rfl, hf, hf2⟩; have F7 := Lib.hid hf; obtain ⟨y0, y1, y2, y3, y4, y5, y6⟩ := blk7 (HB.out.frm hf2 id); clear hf hf2)
          | (go_at_call 32; refine KD.out.mono ?_; rintro r w6 ⟨rfl, hf6⟩; obtain ⟨wb, hwb⟩ : ∃ wb, wb = w6.alloc (.cells #[.int .i64 7, .int .i64 i, .int .i64 1048576, .int .i64 0, .string (xd i), .string ⟨#[]⟩, .string ⟨#[]⟩] 38) := ⟨_, rfl⟩; have HWB := Lib.hid hwb; have HB : Hid (Blk wb w6.heap.size 38 #[.int .i64 7, .int .i64 i, .int .i64 1048576, .int .i64 0, .string (xd i), .string ⟨#[]⟩, .string ⟨#[]⟩]) := (by rw [hwb]; exact Blk.new _ _ _); have HFb : Hid (Frm Nix wr wb) := (by rw [hwb]; exact hf6.alloc _); clear hwb hf6))
        go_roundw
        case rel => exact ⟨i + 1, by omega, by go_num, ⟨y, H8.out, HSx.out⟩, Z8.out⟩
        case measure => simp [intOf]; omega
    · obtain rfl : i = n + 1 := by omega
      go_wp2
      simp only [peel, bodyOf, Tryz.f8]
      go_wp2
      go_ret
      exact ⟨rfl, Z5.out⟩

set_option maxRecDepth 100000 in
set_option maxHeartbeats 16000000 in
theorem fills_10 (n : Nat) (hn : n ≤ 1100) (w : World) : Calls Tryz.prog 8 #[.int .i64 10, .int .i64 n] w fun e w' => e = .returned (.bool true) ∧ Frm Nix w w' := by
  have KN := Lib.hid (New_any w)
  have h0 : ¬ (n : Int) < 0 := by omega
  have h1100 : ¬ (1100 : Int) < (n : Int) := by omega
  go_enter Tryz.func8, Tryz.ntmps8
  show Code.wp Tryz.prog (peel 0 (bodyOf Tryz.f8)) _ _ _
  have e1 : peel 0 (bodyOf Tryz.f8) = .seq (hdC (peel 0 (bodyOf Tryz.f8))) (peel 1 (bodyOf Tryz.f8)) := by kernel_rfl
  rw [e1]
  clear e1
  refine wp_seq_k fun K hK => ?_
  conv in hdC _ => whnf
  go_wp2
  have e1 : peel 1 (bodyOf Tryz.f8) = .seq (hdC (peel 1 (bodyOf Tryz.f8))) (peel 2 (bodyOf Tryz.f8)) := by kernel_rfl
  rw [e1]
  clear e1
  refine wp_seq_k fun K hK => ?_
  conv in hdC _ => whnf
  go_wp2_with (go_at_call 15; refine KN.out.mono ?_; rintro e w1 ⟨g, M, rfl, hs, hf, hg⟩; have H1 := Lib.hid hs; have Z1 := Lib.hid hf; have HG := Lib.hid hg; clear hs hf hg)
  have e1 : peel 2 (bodyOf Tryz.f8) = .seq (hdC (peel 2 (bodyOf Tryz.f8))) (peel 3 (bodyOf Tryz.f8)) := by kernel_rfl
  rw [e1]
  clear e1
  refine wp_seq_k fun K hK => ?_
  conv in hdC _ => whnf
  go_wp2_with (go_at_call 16; have _q := Z1; refine (lives_any _).mono ?_; rintro e w2 ⟨rfl, hf⟩; have H2 := Lib.hid (H1.out.nix hf); have Z2 : Hid (Frm Nix w w2) := Z1.out.trans hf; clear hf)
  have e1 : peel 3 (bodyOf Tryz.f8) = .seq (hdC (peel 3 (bodyOf Tryz.f8))) (peel 4 (bodyOf Tryz.f8)) := by kernel_rfl
  rw [e1]
  clear e1
  refine wp_seq_k fun K hK => ?_
  conv in hdC _ => whnf
  go_wp2
  have e1 : peel 4 (bodyOf Tryz.f8) = .seq (hdC (peel 4 (bodyOf Tryz.f8))) (peel 5 (bodyOf Tryz.f8)) := by kernel_rfl
  rw [e1]
  clear e1
  refine wp_seq_k fun K hK => ?_
  conv in hdC _ => whnf
  go_wp2_with (go_at_call 22; refine (fil1 H2.out).mono ?_; rintro e w3 ⟨rfl, hs, hf⟩; have H3 := Lib.hid hs; have Z3 : Hid (Frm Nix w w3) := frm_own Z2.out hf HG.out; clear hs hf)
  have e1 : peel 5 (bodyOf Tryz.f8) = .seq (hdC (peel 5 (bodyOf Tryz.f8))) (peel 6 (bodyOf Tryz.f8)) := by kernel_rfl
  rw [e1]
  clear e1
  refine wp_seq_k fun K hK => ?_
  conv in hdC _ => whnf
  go_wp2_with (go_at_call 22; refine (fil2 H3.out).mono ?_; rintro e w4 ⟨rfl, hs, hf⟩; have H4 := Lib.hid hs; have Z4 : Hid (Frm Nix w w4) := frm_own Z3.out hf HG.out; clear hs hf)
  have e1 : peel 6 (bodyOf Tryz.f8) = .seq (hdC (peel 6 (bodyOf Tryz.f8))) (peel 7 (bodyOf Tryz.f8)) := by kernel_rfl
  rw [e1]
  clear e1
  refine wp_seq_k fun K hK => ?_
  conv in hdC _ => whnf
  go_wp2
  go_loopw [7] (fun kv wr => ∃ i : Nat, (1 ≤ i ∧ i ≤ n + 1) ∧ kv = .int .i64 i ∧ (∃ x, StAt wr g M x ∧ FillAt 10 x (min (i - 1) (mostF 10))) ∧ Frm Nix w wr) (fun kv _ => n + 1 - (intOf kv).toNat)
  case atStart => exact ⟨1, by omega, rfl, ⟨fill0, H4.out, fill_start 10 (by unfold fillK; omega)⟩, Z4.out⟩
  case round =>
    obtain ⟨i, ⟨hi1, hi2⟩, rfl, ⟨x, hs, hx⟩, hf⟩ := hrel
    have H5 := Lib.hid hs
    have HX := Lib.hid hx
    have Z5 := Lib.hid hf
    clear hs hx hf
    by_cases hlt : i ≤ n
    · have hle : (i : Int) ≤ (n : Int) := by omega
      have HSt := Lib.hid (fill_step (k := 10) (by unfold fillK; omega) (i := i) ⟨hi1, by omega⟩ HX.out)
      have hI : I64 (fillE 10 i).a ∧ I64 (fillE 10 i).b := by constructor <;> (show I64 _; simp [fillE, I64] <;> omega)
      have KD : Hid (Calls Tryz.prog 32 #[.int .i64 i] wr fun e w' => e = .returned (.string (digB i)) ∧ Frm Nix wr w') := digits_any i (by omega) wr
      have hxd : (⟨#[120]⟩ : ByteArray) ++ digB i = xd i := rfl
      have KFi : Hid (∀ W, Frm Nix wr W → Calls Tryz.prog 21 #[.pointer (some ⟨g, 0, none⟩), .agg #[.int .i64 10, .int .i64 1048576, .int .i64 0, .int .i64 1, .string (xd i), .string ⟨#[]⟩, .string ⟨#[]⟩]] W fun r w' => r = .returned (.bool (decide (i ≤ 8))) ∧ Frm Nix wr w' ∧ Frm Nix W w') := fun W hW => by
        have := Fits_any (H5.out.nix hW) (fillE 10 i) hI.1 hI.2
        rw [HSt.out.1] at this
        exact this.mono fun r w' ⟨q1, q2⟩ => ⟨q1, hW.trans q2, q2⟩
      have KAp : Hid (∀ W, Frm Nix wr W → Calls Tryz.prog 22 #[.pointer (some ⟨g, 0, none⟩), .agg #[.int .i64 10, .int .i64 1048576, .int .i64 0, .int .i64 1, .string (xd i), .string ⟨#[]⟩, .string ⟨#[]⟩]] W fun r w' => r = .returned (.bool (decide (i ≤ 8))) ∧ StAt w' g M (applyS x (fillE 10 i)).1 ∧ Frm Nix w w') := fun W hW => by
        have := Apply_any (H5.out.nix hW) (fillE 10 i) hI.1 hI.2
        rw [show (applyS x (fillE 10 i)).2 = fits x (fillE 10 i) by unfold applyS; split <;> simp [*], HSt.out.1] at this
        exact this.mono fun r w' ⟨q1, q2, q3⟩ => ⟨q1, q2, frm_own (Z5.out.trans hW) q3 HG.out⟩
      have HSx : Hid (FillAt 10 (applyS x (fillE 10 i)).1 (min (i + 1 - 1) (mostF 10))) := HSt.out.2
      clear hI
      generalize (applyS x (fillE 10 i)).1 = y at *
      cases hm : decide (i ≤ 8) with
      | true =>
        have hm2 : (i : Int) ≤ 8 := by have := of_decide_eq_true hm; omega
        rw [hm] at KFi KAp
        clear hm
        go_wp2_with (first
          | (go_at_call 22; have _q := F7; refine (KAp.out _ F7.out).mono ?_; rintro r w8 ⟨rfl, hs, hf⟩; have H8 := Lib.hid hs; have Z8 := Lib.hid hf; clear hs hf)
          | (go_at_call 21; rw [← HWB.out]; refine (KFi.out _ HFb.out).mono ?_; rintro r w7 ⟨rfl, hf, hf2⟩; have F7 := Lib.hid hf; obtain ⟨y0, y1, y2, y3, y4, y5, y6⟩ := blk7 (HB.out.frm hf2 id); clear hf hf2)
          | (go_at_call 32; refine KD.out.mono ?_; rintro r w6 ⟨rfl, hf6⟩; obtain ⟨wb, hwb⟩ : ∃ wb, wb = w6.alloc (.cells #[.int .i64 10, .int .i64 1048576, .int .i64 0, .int .i64 1, .string (xd i), .string ⟨#[]⟩, .string ⟨#[]⟩] 38) := ⟨_, rfl⟩; have HWB := Lib.hid hwb; have HB : Hid (Blk wb w6.heap.size 38 #[.int .i64 10, .int .i64 1048576, .int .i64 0, .int .i64 1, .string (xd i), .string ⟨#[]⟩, .string ⟨#[]⟩]) := (by rw [hwb]; exact Blk.new _ _ _); have HFb : Hid (Frm Nix wr wb) := (by rw [hwb]; exact hf6.alloc _); clear hwb hf6))
        go_roundw
        case rel => exact ⟨i + 1, by omega, by go_num, ⟨y, H8.out, HSx.out⟩, Z8.out⟩
        case measure => simp [intOf]; omega
      | false =>
        have hm2 : ¬ (i : Int) ≤ 8 := by have := of_decide_eq_false hm; omega
        rw [hm] at KFi KAp
        clear hm
        go_wp2_with (first
          | (go_at_call 22; have _q := F7; refine (KAp.out _ F7.out).mono ?_; rintro r w8 ⟨rfl, hs, hf⟩; have H8 := Lib.hid hs; have Z8 := Lib.hid hf; clear hs hf)
          | (go_at_call 21; rw [← HWB.out]; refine (KFi.out _ HFb.out).mono ?_; rintro r w7 ⟨rfl, hf, hf2⟩; have F7 := Lib.hid hf; obtain ⟨y0, y1, y2, y3, y4, y5, y6⟩ := blk7 (HB.out.frm hf2 id); clear hf hf2)
          | (go_at_call 32; refine KD.out.mono ?_; rintro r w6 ⟨rfl, hf6⟩; obtain ⟨wb, hwb⟩ : ∃ wb, wb = w6.alloc (.cells #[.int .i64 10, .int .i64 1048576, .int .i64 0, .int .i64 1, .string (xd i), .string ⟨#[]⟩, .string ⟨#[]⟩] 38) := ⟨_, rfl⟩; have HWB := Lib.hid hwb; have HB : Hid (Blk wb w6.heap.size 38 #[.int .i64 10, .int .i64 1048576, .int .i64 0, .int .i64 1, .string (xd i), .string ⟨#[]⟩, .string ⟨#[]⟩]) := (by rw [hwb]; exact Blk.new _ _ _); have HFb : Hid (Frm Nix wr wb) := (by rw [hwb]; exact hf6.alloc _); clear hwb hf6))
        go_roundw
        case rel => exact ⟨i + 1, by omega, by go_num, ⟨y, H8.out, HSx.out⟩, Z8.out⟩
        case measure => simp [intOf]; omega
    · obtain rfl : i = n + 1 := by omega
      go_wp2
      simp only [peel, bodyOf, Tryz.f8]
      go_wp2
      go_ret
      exact ⟨rfl, Z5.out⟩

set_option maxRecDepth 100000 in
set_option maxHeartbeats 16000000 in
theorem fills_11 (n : Nat) (hn : n ≤ 1100) (w : World) : Calls Tryz.prog 8 #[.int .i64 11, .int .i64 n] w fun e w' => e = .returned (.bool true) ∧ Frm Nix w w' := by
  have KN := Lib.hid (New_any w)
  have h0 : ¬ (n : Int) < 0 := by omega
  have h1100 : ¬ (1100 : Int) < (n : Int) := by omega
  go_enter Tryz.func8, Tryz.ntmps8
  show Code.wp Tryz.prog (peel 0 (bodyOf Tryz.f8)) _ _ _
  have e1 : peel 0 (bodyOf Tryz.f8) = .seq (hdC (peel 0 (bodyOf Tryz.f8))) (peel 1 (bodyOf Tryz.f8)) := by kernel_rfl
  rw [e1]
  clear e1
  refine wp_seq_k fun K hK => ?_
  conv in hdC _ => whnf
  go_wp2
  have e1 : peel 1 (bodyOf Tryz.f8) = .seq (hdC (peel 1 (bodyOf Tryz.f8))) (peel 2 (bodyOf Tryz.f8)) := by kernel_rfl
  rw [e1]
  clear e1
  refine wp_seq_k fun K hK => ?_
  conv in hdC _ => whnf
  go_wp2_with (go_at_call 15; refine KN.out.mono ?_; rintro e w1 ⟨g, M, rfl, hs, hf, hg⟩; have H1 := Lib.hid hs; have Z1 := Lib.hid hf; have HG := Lib.hid hg; clear hs hf hg)
  have e1 : peel 2 (bodyOf Tryz.f8) = .seq (hdC (peel 2 (bodyOf Tryz.f8))) (peel 3 (bodyOf Tryz.f8)) := by kernel_rfl
  rw [e1]
  clear e1
  refine wp_seq_k fun K hK => ?_
  conv in hdC _ => whnf
  go_wp2_with (go_at_call 16; have _q := Z1; refine (lives_any _).mono ?_; rintro e w2 ⟨rfl, hf⟩; have H2 := Lib.hid (H1.out.nix hf); have Z2 : Hid (Frm Nix w w2) := Z1.out.trans hf; clear hf)
  have e1 : peel 3 (bodyOf Tryz.f8) = .seq (hdC (peel 3 (bodyOf Tryz.f8))) (peel 4 (bodyOf Tryz.f8)) := by kernel_rfl
  rw [e1]
  clear e1
  refine wp_seq_k fun K hK => ?_
  conv in hdC _ => whnf
  go_wp2
  have e1 : peel 4 (bodyOf Tryz.f8) = .seq (hdC (peel 4 (bodyOf Tryz.f8))) (peel 5 (bodyOf Tryz.f8)) := by kernel_rfl
  rw [e1]
  clear e1
  refine wp_seq_k fun K hK => ?_
  conv in hdC _ => whnf
  go_wp2_with (go_at_call 22; refine (fil1 H2.out).mono ?_; rintro e w3 ⟨rfl, hs, hf⟩; have H3 := Lib.hid hs; have Z3 : Hid (Frm Nix w w3) := frm_own Z2.out hf HG.out; clear hs hf)
  have e1 : peel 5 (bodyOf Tryz.f8) = .seq (hdC (peel 5 (bodyOf Tryz.f8))) (peel 6 (bodyOf Tryz.f8)) := by kernel_rfl
  rw [e1]
  clear e1
  refine wp_seq_k fun K hK => ?_
  conv in hdC _ => whnf
  go_wp2_with (go_at_call 22; refine (fil2 H3.out).mono ?_; rintro e w4 ⟨rfl, hs, hf⟩; have H4 := Lib.hid hs; have Z4 : Hid (Frm Nix w w4) := frm_own Z3.out hf HG.out; clear hs hf)
  have e1 : peel 6 (bodyOf Tryz.f8) = .seq (hdC (peel 6 (bodyOf Tryz.f8))) (peel 7 (bodyOf Tryz.f8)) := by kernel_rfl
  rw [e1]
  clear e1
  refine wp_seq_k fun K hK => ?_
  conv in hdC _ => whnf
  go_wp2
  go_loopw [7] (fun kv wr => ∃ i : Nat, (1 ≤ i ∧ i ≤ n + 1) ∧ kv = .int .i64 i ∧ (∃ x, StAt wr g M x ∧ FillAt 11 x (min (i - 1) (mostF 11))) ∧ Frm Nix w wr) (fun kv _ => n + 1 - (intOf kv).toNat)
  case atStart => exact ⟨1, by omega, rfl, ⟨fill0, H4.out, fill_start 11 (by unfold fillK; omega)⟩, Z4.out⟩
  case round =>
    obtain ⟨i, ⟨hi1, hi2⟩, rfl, ⟨x, hs, hx⟩, hf⟩ := hrel
    have H5 := Lib.hid hs
    have HX := Lib.hid hx
    have Z5 := Lib.hid hf
    clear hs hx hf
    by_cases hlt : i ≤ n
    · have hle : (i : Int) ≤ (n : Int) := by omega
      have HSt := Lib.hid (fill_step (k := 11) (by unfold fillK; omega) (i := i) ⟨hi1, by omega⟩ HX.out)
      have hI : I64 (fillE 11 i).a ∧ I64 (fillE 11 i).b := by constructor <;> (show I64 _; simp [fillE, I64] <;> omega)
      have KD : Hid (Calls Tryz.prog 32 #[.int .i64 i] wr fun e w' => e = .returned (.string (digB i)) ∧ Frm Nix wr w') := digits_any i (by omega) wr
      have hxd : (⟨#[120]⟩ : ByteArray) ++ digB i = xd i := rfl
      have KFi : Hid (∀ W, Frm Nix wr W → Calls Tryz.prog 21 #[.pointer (some ⟨g, 0, none⟩), .agg #[.int .i64 11, .int .i64 i, .int .i64 0, .int .i64 0, .string (xd i), .string ⟨#[113]⟩, .string ⟨#[]⟩]] W fun r w' => r = .returned (.bool (decide (i ≤ 32))) ∧ Frm Nix wr w' ∧ Frm Nix W w') := fun W hW => by
        have := Fits_any (H5.out.nix hW) (fillE 11 i) hI.1 hI.2
        rw [HSt.out.1] at this
        exact this.mono fun r w' ⟨q1, q2⟩ => ⟨q1, hW.trans q2, q2⟩
      have KAp : Hid (∀ W, Frm Nix wr W → Calls Tryz.prog 22 #[.pointer (some ⟨g, 0, none⟩), .agg #[.int .i64 11, .int .i64 i, .int .i64 0, .int .i64 0, .string (xd i), .string ⟨#[113]⟩, .string ⟨#[]⟩]] W fun r w' => r = .returned (.bool (decide (i ≤ 32))) ∧ StAt w' g M (applyS x (fillE 11 i)).1 ∧ Frm Nix w w') := fun W hW => by
        have := Apply_any (H5.out.nix hW) (fillE 11 i) hI.1 hI.2
        rw [show (applyS x (fillE 11 i)).2 = fits x (fillE 11 i) by unfold applyS; split <;> simp [*], HSt.out.1] at this
        exact this.mono fun r w' ⟨q1, q2, q3⟩ => ⟨q1, q2, frm_own (Z5.out.trans hW) q3 HG.out⟩
      have HSx : Hid (FillAt 11 (applyS x (fillE 11 i)).1 (min (i + 1 - 1) (mostF 11))) := HSt.out.2
      clear hI
      generalize (applyS x (fillE 11 i)).1 = y at *
      cases hm : decide (i ≤ 32) with
      | true =>
        have hm2 : (i : Int) ≤ 32 := by have := of_decide_eq_true hm; omega
        rw [hm] at KFi KAp
        clear hm
        go_wp2_with (first
          | (go_at_call 22; have _q := F7; refine (KAp.out _ F7.out).mono ?_; rintro r w8 ⟨rfl, hs, hf⟩; have H8 := Lib.hid hs; have Z8 := Lib.hid hf; clear hs hf)
          | (go_at_call 21; rw [← HWB.out]; refine (KFi.out _ HFb.out).mono ?_; rintro r w7 ⟨rfl, hf, hf2⟩; have F7 := Lib.hid hf; obtain ⟨y0, y1, y2, y3, y4, y5, y6⟩ := blk7 (HB.out.frm hf2 id); clear hf hf2)
          | (go_at_call 32; refine KD.out.mono ?_; rintro r w6 ⟨rfl, hf6⟩; obtain ⟨wb, hwb⟩ : ∃ wb, wb = w6.alloc (.cells #[.int .i64 11, .int .i64 i, .int .i64 0, .int .i64 0, .string (xd i), .string ⟨#[113]⟩, .string ⟨#[]⟩] 38) := ⟨_, rfl⟩; have HWB := Lib.hid hwb; have HB : Hid (Blk wb w6.heap.size 38 #[.int .i64 11, .int .i64 i, .int .i64 0, .int .i64 0, .string (xd i), .string ⟨#[113]⟩, .string ⟨#[]⟩]) := (by rw [hwb]; exact Blk.new _ _ _); have HFb : Hid (Frm Nix wr wb) := (by rw [hwb]; exact hf6.alloc _); clear hwb hf6))
        go_roundw
        case rel => exact ⟨i + 1, by omega, by go_num, ⟨y, H8.out, HSx.out⟩, Z8.out⟩
        case measure => simp [intOf]; omega
      | false =>
        have hm2 : ¬ (i : Int) ≤ 32 := by have := of_decide_eq_false hm; omega
        rw [hm] at KFi KAp
        clear hm
        go_wp2_with (first
          | (go_at_call 22; have _q := F7; refine (KAp.out _ F7.out).mono ?_; rintro r w8 ⟨rfl, hs, hf⟩; have H8 := Lib.hid hs; have Z8 := Lib.hid hf; clear hs hf)
          | (go_at_call 21; rw [← HWB.out]; refine (KFi.out _ HFb.out).mono ?_; rintro r w7 ⟨rfl, hf, hf2⟩; have F7 := Lib.hid hf; obtain ⟨y0, y1, y2, y3, y4, y5, y6⟩ := blk7 (HB.out.frm hf2 id); clear hf hf2)
          | (go_at_call 32; refine KD.out.mono ?_; rintro r w6 ⟨rfl, hf6⟩; obtain ⟨wb, hwb⟩ : ∃ wb, wb = w6.alloc (.cells #[.int .i64 11, .int .i64 i, .int .i64 0, .int .i64 0, .string (xd i), .string ⟨#[113]⟩, .string ⟨#[]⟩] 38) := ⟨_, rfl⟩; have HWB := Lib.hid hwb; have HB : Hid (Blk wb w6.heap.size 38 #[.int .i64 11, .int .i64 i, .int .i64 0, .int .i64 0, .string (xd i), .string ⟨#[113]⟩, .string ⟨#[]⟩]) := (by rw [hwb]; exact Blk.new _ _ _); have HFb : Hid (Frm Nix wr wb) := (by rw [hwb]; exact hf6.alloc _); clear hwb hf6))
        go_roundw
        case rel => exact ⟨i + 1, by omega, by go_num, ⟨y, H8.out, HSx.out⟩, Z8.out⟩
        case measure => simp [intOf]; omega
    · obtain rfl : i = n + 1 := by omega
      go_wp2
      simp only [peel, bodyOf, Tryz.f8]
      go_wp2
      go_ret
      exact ⟨rfl, Z5.out⟩

set_option maxRecDepth 100000 in
set_option maxHeartbeats 16000000 in
theorem fills_other (k : Int) (n : Nat) (hn : n ≤ 1100) (hk : ¬ fillK k) (w : World) : Calls Tryz.prog 8 #[.int .i64 k, .int .i64 n] w fun e w' => e = .returned (.bool true) ∧ Frm Nix w w' := by
  have k1 : ¬ k = 1 := fun e => hk (.inl e)
  have k3 : ¬ k = 3 := fun e => hk (.inr (.inl e))
  have k7 : ¬ k = 7 := fun e => hk (.inr (.inr (.inl e)))
  have k10 : ¬ k = 10 := fun e => hk (.inr (.inr (.inr (.inl e))))
  have k11 : ¬ k = 11 := fun e => hk (.inr (.inr (.inr (.inr e))))
  clear hk
  have KN := Lib.hid (New_any w)
  have h0 : ¬ (n : Int) < 0 := by omega
  have h1100 : ¬ (1100 : Int) < (n : Int) := by omega
  go_enter Tryz.func8, Tryz.ntmps8
  show Code.wp Tryz.prog (peel 0 (bodyOf Tryz.f8)) _ _ _
  have e1 : peel 0 (bodyOf Tryz.f8) = .seq (hdC (peel 0 (bodyOf Tryz.f8))) (peel 1 (bodyOf Tryz.f8)) := by kernel_rfl
  rw [e1]
  clear e1
  refine wp_seq_k fun K hK => ?_
  conv in hdC _ => whnf
  go_wp2
  have e1 : peel 1 (bodyOf Tryz.f8) = .seq (hdC (peel 1 (bodyOf Tryz.f8))) (peel 2 (bodyOf Tryz.f8)) := by kernel_rfl
  rw [e1]
  clear e1
  refine wp_seq_k fun K hK => ?_
  conv in hdC _ => whnf
  go_wp2_with (go_at_call 15; refine KN.out.mono ?_; rintro e w1 ⟨g, M, rfl, hs, hf, hg⟩; have H1 := Lib.hid hs; have Z1 := Lib.hid hf; have HG := Lib.hid hg; clear hs hf hg)
  have e1 : peel 2 (bodyOf Tryz.f8) = .seq (hdC (peel 2 (bodyOf Tryz.f8))) (peel 3 (bodyOf Tryz.f8)) := by kernel_rfl
  rw [e1]
  clear e1
  refine wp_seq_k fun K hK => ?_
  conv in hdC _ => whnf
  go_wp2_with (go_at_call 16; have _q := Z1; refine (lives_any _).mono ?_; rintro e w2 ⟨rfl, hf⟩; have H2 := Lib.hid (H1.out.nix hf); have Z2 : Hid (Frm Nix w w2) := Z1.out.trans hf; clear hf)
  have e1 : peel 3 (bodyOf Tryz.f8) = .seq (hdC (peel 3 (bodyOf Tryz.f8))) (peel 4 (bodyOf Tryz.f8)) := by kernel_rfl
  rw [e1]
  clear e1
  refine wp_seq_k fun K hK => ?_
  conv in hdC _ => whnf
  go_wp2
  have e1 : peel 4 (bodyOf Tryz.f8) = .seq (hdC (peel 4 (bodyOf Tryz.f8))) (peel 5 (bodyOf Tryz.f8)) := by kernel_rfl
  rw [e1]
  clear e1
  refine wp_seq_k fun K hK => ?_
  conv in hdC _ => whnf
  go_wp2_with (go_at_call 22; refine (fil1 H2.out).mono ?_; rintro e w3 ⟨rfl, hs, hf⟩; have H3 := Lib.hid hs; have Z3 : Hid (Frm Nix w w3) := frm_own Z2.out hf HG.out; clear hs hf)
  have e1 : peel 5 (bodyOf Tryz.f8) = .seq (hdC (peel 5 (bodyOf Tryz.f8))) (peel 6 (bodyOf Tryz.f8)) := by kernel_rfl
  rw [e1]
  clear e1
  refine wp_seq_k fun K hK => ?_
  conv in hdC _ => whnf
  go_wp2_with (go_at_call 22; refine (fil2 H3.out).mono ?_; rintro e w4 ⟨rfl, hs, hf⟩; have H4 := Lib.hid hs; have Z4 : Hid (Frm Nix w w4) := frm_own Z3.out hf HG.out; clear hs hf)
  have e1 : peel 6 (bodyOf Tryz.f8) = .seq (hdC (peel 6 (bodyOf Tryz.f8))) (peel 7 (bodyOf Tryz.f8)) := by kernel_rfl
  rw [e1]
  clear e1
  refine wp_seq_k fun K hK => ?_
  conv in hdC _ => whnf
  go_wp2
  go_loopw [7] (fun kv wr => kv = .int .i64 1 ∧ Frm Nix w wr) (fun kv _ => 0)
  case atStart => exact ⟨rfl, Z4.out⟩
  case round =>
    obtain ⟨rfl, hf⟩ := hrel
    have Z5 := Lib.hid hf
    clear hf
    by_cases hlt : 1 ≤ n
    · have hle : (1 : Int) ≤ (n : Int) := by omega
      have KD : Hid (Calls Tryz.prog 32 #[.int .i64 1] wr fun e w' => e = .returned (.string (digB 1)) ∧ Frm Nix wr w') := digits_any 1 (by omega) wr
      go_wp2_with (go_at_call 32; refine KD.out.mono ?_; rintro r w6 ⟨rfl, hf6⟩; have Z6 : Hid (Frm Nix w w6) := Z5.out.trans hf6; clear hf6)
      go_ret
      exact ⟨rfl, Z6.out.alloc _⟩
    · have hle : ¬ (1 : Int) ≤ (n : Int) := by omega
      go_wp2
      simp only [peel, bodyOf, Tryz.f8]
      go_wp2
      go_ret
      exact ⟨rfl, Z5.out⟩

theorem fills_walk (k n : Int) (w : World) : Calls Tryz.prog 8 #[.int .i64 k, .int .i64 n] w fun e w' => e = .returned (.bool true) ∧ Frm Nix w w' := by
  by_cases hn : n < 0 ∨ 1100 < n
  · exact fills_out k n w hn
  · obtain ⟨m, rfl⟩ : ∃ m : Nat, n = m := ⟨n.toNat, by omega⟩
    by_cases hk : fillK k
    · rcases hk with rfl | rfl | rfl | rfl | rfl
      · exact fills_1 m (by omega) w
      · exact fills_3 m (by omega) w
      · exact fills_7 m (by omega) w
      · exact fills_10 m (by omega) w
      · exact fills_11 m (by omega) w
    · exact fills_other k m (by omega) hk w
end Go.Proofs.YtjnjbmgnbchcjaaGreat
end
