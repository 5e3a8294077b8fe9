/-
  Plain: the first of a list that is so; when a feed goes, so do just its items. No program in sight.
-/
import Derived.Test.YtjbifjgeheigoaaGreatGa12
import Derived.Test.YtjbifjgeheigoaaGreatGa35
import Derived.Test.YtjbifjgeheigoaaGreatGa45
import Derived.Test.YtjbifjgeheigoaaGreatGa51
import Derived.Test.YtjbifjgeheigoaaGreatGa56
import Derived.Deep.RegionHeld3
import Derived.Test.YtjbifjgeheigoaaGreatGa14
import Derived.Test.YtjbifjgeheigoaaGreatGa09
import Derived.ProofKit
import Derived.SliceStrings
import Derived.Deep.Slices
import Derived.Deep.Fields
section
set_option linter.unusedVariables false
set_option linter.unusedSimpArgs false
namespace Go.Proofs.YtjbifjgeheigoaaGreat

section
variable {α : Type} {p : α → Bool} {l : List α} {k : Nat}
theorem fst_step (h : k < l.length) (hn : (l.take k).any p = false) (he : p l[k] = false) : (l.take (k + 1)).any p = false := by
  rw [List.take_succ_eq_append_getElem h, List.any_append, hn]
  simp [he]
theorem fst_any (h : k < l.length) (he : p l[k] = true) : l.any p = true := List.any_eq_true.2 ⟨_, List.getElem_mem h, he⟩
theorem fst_find (h : k < l.length) (hn : (l.take k).any p = false) (he : p l[k] = true) : l.find? p = some l[k] := by
  have e : l = l.take k ++ l.drop k := (List.take_append_drop k l).symm
  rw [List.drop_eq_getElem_cons h] at e
  conv => lhs; rw [e]
  rw [List.find?_append, List.find?_eq_none.2 (by simpa using hn), List.find?_cons_of_pos (by simpa using he)]
  simp
theorem fst_idx (h : k < l.length) (hn : (l.take k).any p = false) (he : p l[k] = true) : l.findIdx p = k := by
  rw [List.findIdx_eq h]
  refine ⟨he, fun j hj => ?_⟩
  have := List.any_eq_false.1 hn l[j] (List.mem_take_iff_getElem.2 ⟨j, by omega, rfl⟩)
  simpa using this
theorem fst_none (hn : l.any p = false) : l.find? p = none := List.find?_eq_none.2 (by simpa using hn)
theorem fil_yes (h : k < l.length) (he : p l[k] = true) : ((l.take k).filter p).length < (l.filter p).length ∧ (l.filter p)[((l.take k).filter p).length]? = some l[k] := by
  have e : l = l.take k ++ l.drop k := (List.take_append_drop k l).symm
  rw [List.drop_eq_getElem_cons h] at e
  have e2 : l.filter p = (l.take k).filter p ++ l[k] :: (l.drop (k + 1)).filter p := by
    conv => lhs; rw [e]
    rw [List.filter_append, List.filter_cons_of_pos he]
  rw [e2]
  refine ⟨by simp, ?_⟩
  rw [List.getElem?_append_right (Nat.le_refl _)]
  simp
theorem fil_len_yes (h : k < l.length) (he : p l[k] = true) : ((l.take (k + 1)).filter p).length = ((l.take k).filter p).length + 1 := by
  rw [List.take_succ_eq_append_getElem h, List.filter_append]
  simp [he]
theorem fil_len_no (h : k < l.length) (he : p l[k] = false) : ((l.take (k + 1)).filter p).length = ((l.take k).filter p).length := by
  rw [List.take_succ_eq_append_getElem h, List.filter_append]
  simp [he]
end
/-- where a thing stands; -1: it is not there. -/
def posR {α : Type} (g : α → Int) (id : Int) (l : List α) : Int := if isI g id l = true then (posI g id l : Int) else -1
section
variable {α : Type} {g : α → Int} {id : Int} {l : List α} {k : Nat}
theorem posR_hit (h : k < l.length) (hn : isI g id (l.take k) = false) (he : g l[k] = id) : posR g id l = k := by
  have h1 : isI g id l = true := fst_any h (by simpa using he)
  have h2 : posI g id l = k := fst_idx h hn (by simpa using he)
  unfold posR
  rw [h1, if_pos rfl, h2]
theorem posR_end (hn : isI g id l = false) : posR g id l = -1 := by
  unfold posR
  rw [hn]
  rfl
theorem isI_step (h : k < l.length) (hn : isI g id (l.take k) = false) (he : ¬ g l[k] = id) : isI g id (l.take (k + 1)) = false := fst_step h hn (by simpa using he)
theorem posR_at (h : isI g id l = true) : ∃ (k : Nat) (hk : k < l.length), posR g id l = k ∧ g l[k] = id ∧ atI g id l = some l[k] ∧ posI g id l = k := by
  have hk : posI g id l < l.length := by
    unfold posI
    rw [List.findIdx_lt_length]
    simpa [isI] using h
  refine ⟨posI g id l, hk, by unfold posR; rw [if_pos h], ?_, ?_, rfl⟩
  · have := List.findIdx_getElem (xs := l) (p := fun x => decide (g x = id)) (w := hk)
    exact of_decide_eq_true this
  · have h1 := List.findIdx_getElem (xs := l) (p := fun x => decide (g x = id)) (w := hk)
    refine fst_find hk ?_ h1
    refine List.any_eq_false.2 fun a ha => ?_
    obtain ⟨j, hj, rfl⟩ := List.mem_take_iff_getElem.1 ha
    have := List.not_of_lt_findIdx (xs := l) (p := fun x => decide (g x = id)) (i := j) (by unfold posI at hj; omega)
    simpa using this
theorem posR_neg : decide (posR g id l < 0) = !isI g id l := by
  unfold posR
  cases isI g id l <;> simp
theorem posR_nonneg : decide (0 ≤ posR g id l) = isI g id l := by
  unfold posR
  cases isI g id l <;> simp
end

def unE (feed : Int) : Ev := ⟨4, feed, 0, 0, eS, eS, eS⟩
theorem unE_ok (feed : Int) : evOk (unE feed) = idOk feed := by simp [evOk, evRight, evUsed, unE]
theorem unE_fits {x : St} (h : StP x) (feed : Int) : fits x (unE feed) = isI Fee.id feed x.fees := by
  cases hi : isI Fee.id feed x.fees with
  | true =>
    obtain ⟨f, hf, he⟩ := isI_iff.1 hi
    have := h.eId hf
    exact (fits45 (e := unE feed) (.inl rfl) (by rw [unE_ok]; exact idOk_iff.2 (by omega))).2 ⟨f, hf, he⟩
  | false =>
    cases ho : idOk feed with
    | true =>
      refine Bool.eq_false_iff.2 fun hf => ?_
      obtain ⟨f, hf, he⟩ := (fits45 (e := unE feed) (.inl rfl) (by rw [unE_ok]; exact ho)).1 hf
      exact isI_false.1 hi f hf he
    | false =>
      unfold fits
      rw [unE_ok, ho]
      rfl
theorem unE_do (x : St) (feed : Int) : doS x (unE feed) = { x with fees := delI Fee.id feed x.fees, itms := x.itms.filter fun t => t.feed ≠ feed } := do4 rfl
theorem unE_fees {x : St} (h : StP x) {feed : Int} (hi : isI Fee.id feed x.fees = true) : isI Fee.id feed (delI Fee.id feed x.fees) = false ∧ (delI Fee.id feed x.fees).length = x.fees.length - 1 := by
  constructor
  · rw [delI_filter h.eR]
    refine isI_false.2 fun f hf => ?_
    have := (List.mem_filter.1 hf).2
    simpa using this
  · obtain ⟨f, hf, he⟩ := isI_iff.1 hi
    unfold delI
    exact List.length_eraseP_of_mem hf (by simpa using he)
end Go.Proofs.YtjbifjgeheigoaaGreat
end
section
set_option linter.unusedVariables false
set_option linter.unusedSimpArgs false
namespace Go.Proofs.YtjbifjgeheigoaaGreat
open Go.RowKit Go.Lib

section
variable {x : St} {k : Nat} {s : ByteArray} {b : Int}
theorem place_hit (h : k < x.fees.length) (hn : (x.fees.take k).any (fun f => decide (f.url = s)) = false) (he : x.fees[k].url = s) : placeS x s = x.fees[k].id := by
  unfold placeS
  rw [fst_find h hn (by simpa using he)]
theorem place_end (hn : x.fees.any (fun f => decide (f.url = s)) = false) : placeS x s = 0 := by
  unfold placeS
  rw [fst_none hn]
theorem guid_hit (h : k < x.itms.length) (hn : (x.itms.take k).any (fun t => decide (t.feed = b ∧ t.guid = s)) = false) (he : x.itms[k].feed = b ∧ x.itms[k].guid = s) : guidS x b s = x.itms[k].id := by
  unfold guidS
  rw [fst_find h hn (by simpa using he)]
theorem guid_end (hn : x.itms.any (fun t => decide (t.feed = b ∧ t.guid = s)) = false) : guidS x b s = 0 := by
  unfold guidS
  rw [fst_none hn]
theorem named_hit (h : k < x.fols.length) (he : x.fols[k].inn = b ∧ x.fols[k].name = s) : namedS x b s = true := fst_any (p := fun f : Fol => decide (f.inn = b ∧ f.name = s)) h (by simpa using he)
theorem named_end (hn : x.fols.any (fun f => decide (f.inn = b ∧ f.name = s)) = false) : namedS x b s = false := hn
theorem empty_hit1 (h : k < x.fols.length) (he : x.fols[k].inn = b) : emptyS x b = false := by
  unfold emptyS
  rw [fst_any (p := fun f : Fol => decide (f.inn = b)) h (by simpa using he)]
  rfl
theorem empty_hit2 (h : k < x.fees.length) (he : x.fees[k].inn = b) : emptyS x b = false := by
  unfold emptyS
  rw [fst_any (p := fun f : Fee => decide (f.inn = b)) h (by simpa using he)]
  simp
theorem empty_end (h1 : x.fols.any (fun f => decide (f.inn = b)) = false) (h2 : x.fees.any (fun f => decide (f.inn = b)) = false) : emptyS x b = true := by
  unfold emptyS
  rw [h1, h2]
  rfl
theorem itms_at {w : World} {G : Nat → Prop} {fo fe it se : Sl} {ts : List (Sl × Itm)} (h : StIn w G fo fe it se ts x) (hk : k < x.itms.length) : ∃ hk' : k < ts.length, (ts[k]'hk').2 = x.itms[k] := by
  have hk' : k < ts.length := by rw [h.len]; exact hk
  refine ⟨hk', ?_⟩
  have : (ts.map (·.2))[k]'(by simpa using hk') = (ts[k]'hk').2 := by simp
  rw [← this]
  congr 1
  exact h.same
end
theorem str_ne {a b : ByteArray} (h : ¬ a = b) : ¬ a.toList = b.toList ∧ (a.toList == b.toList) = false := by
  have hq : ¬ a.toList = b.toList := fun e => h (toList_inj.1 e)
  exact ⟨hq, by simp [hq]⟩

set_option maxRecDepth 100000 in
set_option maxHeartbeats 4000000 in
theorem rFolder_any {w : World} {fo fe it se : Sl} {ts : List (Sl × Itm)} {x : St} {G : Nat → Prop} (hS : StIn w G fo fe it se ts x) (hsm : StSmall x) (id : Int) :
    Calls Tryz.prog 40 #[stV fo fe it se x, .int .i64 id] w fun e w' => e = .returned (.int .i64 (posR Fol.id id x.fols)) ∧ Frm Nix w w' := by
  obtain ⟨w0, hw0, hf0, hb0⟩ := box_st w fo fe it se x
  have hcap := hsm.fols
  obtain ⟨x0, x1, x2, x3, x4, x5, x6, x7, x8⟩ := blk9 hb0
  have HS := Lib.hid (hS.nix hf0)
  have HB := Lib.hid hb0
  have HF0 := Lib.hid hf0
  have HW := Lib.hid hw0
  clear hS hsm hw0 hf0 hb0
  unfold stV
  obtain ⟨A, c⟩ := fo
  dsimp only at x1 x2 x3 x4 ⊢
  go_enter Tryz.func40, Tryz.ntmps40
  go_wp2
  rw [← HW.out]
  go_loopw [5] (fun kv wr => ∃ k : Nat, k ≤ x.fols.length ∧ kv = .int .i64 k ∧ isI Fol.id id (x.fols.take k) = false ∧ Frm Nix w0 wr) (fun kv _ => x.fols.length - (intOf kv).toNat)
  case atStart => exact ⟨0, by omega, rfl, by simp [isI], Frm.refl _ _⟩
  case round =>
    obtain ⟨k, hk, rfl, ht, hf⟩ := hrel
    have HT := Lib.hid ht
    have HF := Lib.hid hf
    have hbx := HB.out.frm hf (fun h => h)
    have xx := hbx.cell 1
    simp at xx
    clear ht hf hbx
    by_cases hlt : k < x.fols.length
    · obtain ⟨b, off, hA, -, hbl, hcell⟩ := (HS.out.fols.nix HF.out).at_ Fol.clen (by decide) (by omega)
      dsimp only at hA
      subst hA
      obtain ⟨p0, p1, p2⟩ := Folcs (w := wr) (b := b) (off := off + k * 3) (e := x.fols[k]) (hcell k hlt)
      have HHit := Lib.hid (fun he => posR_hit hlt HT.out he)
      have HStep := Lib.hid (fun he => isI_step hlt HT.out he)
      obtain ⟨q, hq⟩ : ∃ q, x.fols[k] = q := ⟨_, rfl⟩
      rw [hq] at p0 p1 p2 HHit HStep
      clear hcell hq
      generalize q.id = f0 at *
      generalize q.inn = f1 at *
      generalize q.name = f2 at *
      by_cases he0 : f0 = id
      case neg =>
        go_wp2
        go_roundw
        case rel => exact ⟨k + 1, by omega, by go_num, HStep.out (by exact he0), HF.out⟩
        case measure => simp [intOf]; omega
      subst he0
      have HH := Lib.hid (HHit.out rfl)
      clear HHit HStep
      go_wp2
      go_ret
      exact ⟨by rw [HH.out] <;> rfl, HF0.out.trans HF.out⟩
    · obtain rfl : k = x.fols.length := by omega
      have HE := Lib.hid (by have := HT.out; rw [List.take_length] at this; exact posR_end this)
      go_wp2
      go_ret
      exact ⟨by rw [HE.out] <;> rfl, HF0.out.trans HF.out⟩

set_option maxRecDepth 100000 in
set_option maxHeartbeats 4000000 in
theorem rFeed_any {w : World} {fo fe it se : Sl} {ts : List (Sl × Itm)} {x : St} {G : Nat → Prop} (hS : StIn w G fo fe it se ts x) (hsm : StSmall x) (id : Int) :
    Calls Tryz.prog 41 #[stV fo fe it se x, .int .i64 id] w fun e w' => e = .returned (.int .i64 (posR Fee.id id x.fees)) ∧ Frm Nix w w' := by
  obtain ⟨w0, hw0, hf0, hb0⟩ := box_st w fo fe it se x
  have hcap := hsm.fees
  obtain ⟨x0, x1, x2, x3, x4, x5, x6, x7, x8⟩ := blk9 hb0
  have HS := Lib.hid (hS.nix hf0)
  have HB := Lib.hid hb0
  have HF0 := Lib.hid hf0
  have HW := Lib.hid hw0
  clear hS hsm hw0 hf0 hb0
  unfold stV
  obtain ⟨A, c⟩ := fe
  dsimp only at x1 x2 x3 x4 ⊢
  go_enter Tryz.func41, Tryz.ntmps41
  go_wp2
  rw [← HW.out]
  go_loopw [5] (fun kv wr => ∃ k : Nat, k ≤ x.fees.length ∧ kv = .int .i64 k ∧ isI Fee.id id (x.fees.take k) = false ∧ Frm Nix w0 wr) (fun kv _ => x.fees.length - (intOf kv).toNat)
  case atStart => exact ⟨0, by omega, rfl, by simp [isI], Frm.refl _ _⟩
  case round =>
    obtain ⟨k, hk, rfl, ht, hf⟩ := hrel
    have HT := Lib.hid ht
    have HF := Lib.hid hf
    have hbx := HB.out.frm hf (fun h => h)
    have xx := hbx.cell 2
    simp at xx
    clear ht hf hbx
    by_cases hlt : k < x.fees.length
    · obtain ⟨b, off, hA, -, hbl, hcell⟩ := (HS.out.fees.nix HF.out).at_ Fee.clen (by decide) (by omega)
      dsimp only at hA
      subst hA
      obtain ⟨p0, p1, p2, p3⟩ := Feecs (w := wr) (b := b) (off := off + k * 4) (e := x.fees[k]) (hcell k hlt)
      have HHit := Lib.hid (fun he => posR_hit hlt HT.out he)
      have HStep := Lib.hid (fun he => isI_step hlt HT.out he)
      obtain ⟨q, hq⟩ : ∃ q, x.fees[k] = q := ⟨_, rfl⟩
      rw [hq] at p0 p1 p2 p3 HHit HStep
      clear hcell hq
      generalize q.id = f0 at *
      generalize q.inn = f1 at *
      generalize q.url = f2 at *
      generalize q.title = f3 at *
      by_cases he0 : f0 = id
      case neg =>
        go_wp2
        go_roundw
        case rel => exact ⟨k + 1, by omega, by go_num, HStep.out (by exact he0), HF.out⟩
        case measure => simp [intOf]; omega
      subst he0
      have HH := Lib.hid (HHit.out rfl)
      clear HHit HStep
      go_wp2
      go_ret
      exact ⟨by rw [HH.out] <;> rfl, HF0.out.trans HF.out⟩
    · obtain rfl : k = x.fees.length := by omega
      have HE := Lib.hid (by have := HT.out; rw [List.take_length] at this; exact posR_end this)
      go_wp2
      go_ret
      exact ⟨by rw [HE.out] <;> rfl, HF0.out.trans HF.out⟩

set_option maxRecDepth 100000 in
set_option maxHeartbeats 4000000 in
theorem rItem_any {w : World} {fo fe it se : Sl} {ts : List (Sl × Itm)} {x : St} {G : Nat → Prop} (hS : StIn w G fo fe it se ts x) (hsm : StSmall x) (id : Int) :
    Calls Tryz.prog 42 #[stV fo fe it se x, .int .i64 id] w fun e w' => e = .returned (.int .i64 (posR Itm.id id x.itms)) ∧ Frm Nix w w' := by
  obtain ⟨w0, hw0, hf0, hb0⟩ := box_st w fo fe it se x
  have hcap := hsm.itms
  obtain ⟨x0, x1, x2, x3, x4, x5, x6, x7, x8⟩ := blk9 hb0
  have HS := Lib.hid (hS.nix hf0)
  have HB := Lib.hid hb0
  have HF0 := Lib.hid hf0
  have HW := Lib.hid hw0
  clear hS hsm hw0 hf0 hb0
  unfold stV
  obtain ⟨A, c⟩ := it
  dsimp only at x1 x2 x3 x4 ⊢
  go_enter Tryz.func42, Tryz.ntmps42
  go_wp2
  rw [← HW.out]
  go_loopw [5] (fun kv wr => ∃ k : Nat, k ≤ x.itms.length ∧ kv = .int .i64 k ∧ isI Itm.id id (x.itms.take k) = false ∧ Frm Nix w0 wr) (fun kv _ => x.itms.length - (intOf kv).toNat)
  case atStart => exact ⟨0, by omega, rfl, by simp [isI], Frm.refl _ _⟩
  case round =>
    obtain ⟨k, hk, rfl, ht, hf⟩ := hrel
    have HT := Lib.hid ht
    have HF := Lib.hid hf
    have hbx := HB.out.frm hf (fun h => h)
    have xx := hbx.cell 3
    simp at xx
    clear ht hf hbx
    by_cases hlt : k < x.itms.length
    · obtain ⟨hkt, het⟩ := itms_at HS.out hlt
      obtain ⟨b, off, hA, -, hbl, hcell⟩ := (HS.out.itms.row.nix HF.out).at_ itmC_len (by decide) (by omega)
      dsimp only at hA
      subst hA
      have hc := hcell k hkt
      obtain ⟨tp, htp⟩ : ∃ tp, ts[k] = tp := ⟨_, rfl⟩
      rw [htp] at hc het
      obtain ⟨p0, p1, p2, p3, p4, p5, p6, p7, p8⟩ := itmcs (w := wr) (b := b) (off := off + k * 9) (p := tp) hc
      rw [het] at p0 p1 p2 p3 p4 p5 p6 p7 p8
      have HHit := Lib.hid (fun he => posR_hit hlt HT.out he)
      have HStep := Lib.hid (fun he => isI_step hlt HT.out he)
      obtain ⟨q, hq⟩ : ∃ q, x.itms[k] = q := ⟨_, rfl⟩
      rw [hq] at p0 p1 p2 p3 p4 p5 p6 p7 p8 HHit HStep
      clear hcell hq hc htp het
      generalize q.id = f0 at *
      generalize q.feed = f1 at *
      generalize q.date = f2 at *
      generalize q.guid = f3 at *
      generalize q.title = f4 at *
      generalize q.link = f5 at *
      generalize q.read = f6 at *
      generalize q.star = f7 at *
      by_cases he0 : f0 = id
      case neg =>
        go_wp2
        go_roundw
        case rel => exact ⟨k + 1, by omega, by go_num, HStep.out (by exact he0), HF.out⟩
        case measure => simp [intOf]; omega
      subst he0
      have HH := Lib.hid (HHit.out rfl)
      clear HHit HStep
      go_wp2
      go_ret
      exact ⟨by rw [HH.out] <;> rfl, HF0.out.trans HF.out⟩
    · obtain rfl : k = x.itms.length := by omega
      have HE := Lib.hid (by have := HT.out; rw [List.take_length] at this; exact posR_end this)
      go_wp2
      go_ret
      exact ⟨by rw [HE.out] <;> rfl, HF0.out.trans HF.out⟩

set_option maxRecDepth 100000 in
set_option maxHeartbeats 4000000 in
theorem rSearch_any {w : World} {fo fe it se : Sl} {ts : List (Sl × Itm)} {x : St} {G : Nat → Prop} (hS : StIn w G fo fe it se ts x) (hsm : StSmall x) (id : Int) :
    Calls Tryz.prog 43 #[stV fo fe it se x, .int .i64 id] w fun e w' => e = .returned (.int .i64 (posR Sea.id id x.seas)) ∧ Frm Nix w w' := by
  obtain ⟨w0, hw0, hf0, hb0⟩ := box_st w fo fe it se x
  have hcap := hsm.seas
  obtain ⟨x0, x1, x2, x3, x4, x5, x6, x7, x8⟩ := blk9 hb0
  have HS := Lib.hid (hS.nix hf0)
  have HB := Lib.hid hb0
  have HF0 := Lib.hid hf0
  have HW := Lib.hid hw0
  clear hS hsm hw0 hf0 hb0
  unfold stV
  obtain ⟨A, c⟩ := se
  dsimp only at x1 x2 x3 x4 ⊢
  go_enter Tryz.func43, Tryz.ntmps43
  go_wp2
  rw [← HW.out]
  go_loopw [5] (fun kv wr => ∃ k : Nat, k ≤ x.seas.length ∧ kv = .int .i64 k ∧ isI Sea.id id (x.seas.take k) = false ∧ Frm Nix w0 wr) (fun kv _ => x.seas.length - (intOf kv).toNat)
  case atStart => exact ⟨0, by omega, rfl, by simp [isI], Frm.refl _ _⟩
  case round =>
    obtain ⟨k, hk, rfl, ht, hf⟩ := hrel
    have HT := Lib.hid ht
    have HF := Lib.hid hf
    have hbx := HB.out.frm hf (fun h => h)
    have xx := hbx.cell 4
    simp at xx
    clear ht hf hbx
    by_cases hlt : k < x.seas.length
    · obtain ⟨b, off, hA, -, hbl, hcell⟩ := (HS.out.seas.nix HF.out).at_ Sea.clen (by decide) (by omega)
      dsimp only at hA
      subst hA
      obtain ⟨p0, p1, p2⟩ := Seacs (w := wr) (b := b) (off := off + k * 3) (e := x.seas[k]) (hcell k hlt)
      have HHit := Lib.hid (fun he => posR_hit hlt HT.out he)
      have HStep := Lib.hid (fun he => isI_step hlt HT.out he)
      obtain ⟨q, hq⟩ : ∃ q, x.seas[k] = q := ⟨_, rfl⟩
      rw [hq] at p0 p1 p2 HHit HStep
      clear hcell hq
      generalize q.id = f0 at *
      generalize q.name = f1 at *
      generalize q.query = f2 at *
      by_cases he0 : f0 = id
      case neg =>
        go_wp2
        go_roundw
        case rel => exact ⟨k + 1, by omega, by go_num, HStep.out (by exact he0), HF.out⟩
        case measure => simp [intOf]; omega
      subst he0
      have HH := Lib.hid (HHit.out rfl)
      clear HHit HStep
      go_wp2
      go_ret
      exact ⟨by rw [HH.out] <;> rfl, HF0.out.trans HF.out⟩
    · obtain rfl : k = x.seas.length := by omega
      have HE := Lib.hid (by have := HT.out; rw [List.take_length] at this; exact posR_end this)
      go_wp2
      go_ret
      exact ⟨by rw [HE.out] <;> rfl, HF0.out.trans HF.out⟩

end Go.Proofs.YtjbifjgeheigoaaGreat
end
section
set_option linter.unusedVariables false
set_option linter.unusedSimpArgs false
namespace Go.Proofs.YtjbifjgeheigoaaGreat
open Go.RowKit Go.Lib

theorem deepG_0 (l : List Fol) (k n : Nat) : deepG l k n 0 = n := by cases k <;> rfl
theorem deepG_no {l : List Fol} {k n : Nat} {i : Int} (h0 : i ≠ 0) (h : isI Fol.id i l = false) : deepG l k n i = 8 := by
  cases k with
  | zero => unfold deepG; rw [if_neg h0]
  | succ k =>
    unfold deepG
    rw [if_neg h0]
    have : atI Fol.id i l = none := by
      have := @atI_isI Fol Fol.id i l
      rw [h] at this
      cases ha : atI Fol.id i l with
      | none => rfl
      | some f => rw [ha] at this; cases this
    rw [this]
theorem deepG_end {l : List Fol} {n : Nat} {i : Int} (h0 : i ≠ 0) : deepG l 0 n i = 8 := by
  unfold deepG
  rw [if_neg h0]
theorem deepG_up {l : List Fol} {k n : Nat} {i : Int} {f : Fol} (h0 : i ≠ 0) (h : atI Fol.id i l = some f) : deepG l (k + 1) n i = deepG l k (n + 1) f.inn := by
  conv => lhs; unfold deepG
  rw [if_neg h0, h]

set_option maxRecDepth 100000 in
set_option maxHeartbeats 8000000 in
theorem rDeep_any {w : World} {fo fe it se : Sl} {ts : List (Sl × Itm)} {x : St} {G : Nat → Prop} (hS : StIn w G fo fe it se ts x) (hsm : StSmall x) (i0 : Int) :
    Calls Tryz.prog 37 #[stV fo fe it se x, .int .i64 i0] w fun e w' => e = .returned (.int .i64 (deepS x i0)) ∧ Frm Nix w w' := by
  obtain ⟨w0, hw0, hf0, hb0⟩ := box_st w fo fe it se x
  have hcap := hsm.fols
  obtain ⟨x0, x1, x2, x3, x4, x5, x6, x7, x8⟩ := blk9 hb0
  have KF : Hid (∀ W, Frm Nix w0 W → ∀ i, Calls Tryz.prog 40 #[.agg #[.int .i64 x.clock, .slice fo.1 x.fols.length fo.2, .slice fe.1 x.fees.length fe.2, .slice it.1 x.itms.length it.2, .slice se.1 x.seas.length se.2, .int .i64 x.tFol, .int .i64 x.tFee, .int .i64 x.tItm, .int .i64 x.tSea], .int .i64 i] W fun e w' => e = .returned (.int .i64 (posR Fol.id i x.fols)) ∧ Frm Nix w0 w' ∧ Frm Nix W w') := fun W hW i => (rFolder_any ((hS.nix hf0).nix hW) hsm i).mono fun e w' q => ⟨q.1, hW.trans q.2, q.2⟩
  have HS := Lib.hid (hS.nix hf0)
  have HB := Lib.hid hb0
  have HF0 := Lib.hid hf0
  have HW := Lib.hid hw0
  clear hS hsm hw0 hf0 hb0
  unfold stV
  obtain ⟨A, c⟩ := fo
  dsimp only at x1 x2 x3 x4 ⊢ KF
  cases his : isI Fol.id i0 x.fols with
  | false =>
    have hp := posR_end his
    have KF0 := Lib.hid (KF.out w0 (Frm.refl Nix w0) i0)
    rw [hp] at KF0
    have HD : Hid (deepS x i0 = 0) := by unfold Hid deepS; rw [his]; rfl
    go_enter Tryz.func37, Tryz.ntmps37
    go_wp2_with (go_at_call 40; rw [← HW.out]; refine KF0.out.mono ?_; rintro e w1 ⟨rfl, hf, -⟩; have Z1 := Lib.hid hf; clear hf)
    go_ret
    exact ⟨by rw [HD.out] <;> rfl, HF0.out.trans Z1.out⟩
  | true =>
    obtain ⟨p, hpl, hp, -⟩ := posR_at his
    have KF0 := Lib.hid (KF.out w0 (Frm.refl Nix w0) i0)
    rw [hp] at KF0
    have hp0 : ¬ (p : Int) < 0 := by omega
    have HD : Hid (deepS x i0 = deepG x.fols 7 0 i0) := by unfold Hid deepS; rw [his]; rfl
    have HD2 : Hid (deepG x.fols 7 0 i0 = deepS x i0) := HD.out.symm
    clear HD
    generalize deepS x i0 = D at *
    go_enter Tryz.func37, Tryz.ntmps37
    go_wp2_with (go_at_call 40; rw [← HW.out]; refine KF0.out.mono ?_; rintro e w1 ⟨rfl, hf, -⟩; have Z1 := Lib.hid hf; clear hf)
    go_loopw [1, 5] (fun iv nv wr => ∃ (i : Int) (m : Nat), iv = .int .i64 i ∧ nv = .int .i64 m ∧ m ≤ 7 ∧ deepG x.fols (7 - m) m i = D ∧ Frm Nix w0 wr) (fun _ nv _ => 7 - (intOf nv).toNat)
    case atStart => exact ⟨i0, 0, rfl, rfl, by omega, HD2.out, Z1.out⟩
    case round =>
      obtain ⟨i, m, rfl, rfl, hm, hd, hf⟩ := hrel
      have HDm := Lib.hid hd
      have HF := Lib.hid hf
      clear hd hf x0 x1 x2 x3 x4 x5 x6 x7 x8
      obtain ⟨y0, y1, y2, y3, y4, y5, y6, y7, y8⟩ := blk9 (HB.out.frm HF.out id)
      have KF1 := Lib.hid (KF.out wr HF.out i)
      by_cases h0 : i = 0
      · subst h0
        have HE : Hid (D = m) := by have := HDm.out; rw [deepG_0] at this; exact this.symm
        go_wp2
        go_ret
        exact ⟨by rw [HE.out] <;> rfl, HF0.out.trans HF.out⟩
      cases hi2 : isI Fol.id i x.fols with
      | false =>
        have HE : Hid (D = 8) := by have := HDm.out; rw [deepG_no h0 hi2] at this; exact this.symm
        rw [posR_end hi2] at KF1
        go_wp2_with (go_at_call 40; refine KF1.out.mono ?_; rintro e w2 ⟨rfl, hf, -⟩; have Z2 := Lib.hid hf; clear hf)
        go_ret
        exact ⟨by rw [HE.out] <;> rfl, HF0.out.trans Z2.out⟩
      | true =>
        obtain ⟨q, hql, hq, -, hat, -⟩ := posR_at hi2
        rw [hq] at KF1
        have hq0 : ¬ (q : Int) < 0 := by omega
        by_cases h7 : m = 7
        · subst h7
          have HE : Hid (D = 8) := by have := HDm.out; rw [show 7 - 7 = 0 from rfl, deepG_end h0] at this; exact this.symm
          go_wp2_with (go_at_call 40; refine KF1.out.mono ?_; rintro e w2 ⟨rfl, hf, -⟩; have Z2 := Lib.hid hf; clear hf)
          go_ret
          exact ⟨by rw [HE.out] <;> rfl, HF0.out.trans Z2.out⟩
        · have hm7 : ¬ (m : Int) = 7 := by omega
          have hm8 : ((m : Int) == 7) = false := by simp; omega
          have HE : Hid (deepG x.fols (7 - (m + 1)) (m + 1) (x.fols[q]'hql).inn = D) := by
            have := HDm.out
            rw [show 7 - m = (7 - (m + 1)) + 1 by omega, deepG_up h0 hat] at this
            exact this
          obtain ⟨b, off, hA, -, hbl, hcell⟩ := (HS.out.fols.nix HF.out).at_ Fol.clen (by decide) (by omega)
          dsimp only at hA
          subst hA
          obtain ⟨f, hfq⟩ : ∃ f, x.fols[q]'hql = f := ⟨_, rfl⟩
          have hc := hcell q hql
          rw [hfq] at hc HE
          have HC : Hid (∀ W, Frm Nix wr W → W.cell? ⟨b, off + q * 3 + 1, none⟩ = some (.int .i64 f.inn)) := fun W hW => (hW.cell (p := ⟨b, off + q * 3 + 1, none⟩) hbl id).trans (hc 1 _ rfl)
          clear hcell hc hfq hq hat
          have KF2 : Hid (Calls Tryz.prog 40 #[.agg #[.int .i64 x.clock, .slice (some ⟨b, off, none⟩) x.fols.length c, .slice fe.1 x.fees.length fe.2, .slice it.1 x.itms.length it.2, .slice se.1 x.seas.length se.2, .int .i64 x.tFol, .int .i64 x.tFee, .int .i64 x.tItm, .int .i64 x.tSea], .int .i64 i] wr fun e w' => e = .returned (.int .i64 q) ∧ Frm Nix w0 w' ∧ w'.cell? ⟨b, off + q * 3 + 1, none⟩ = some (.int .i64 f.inn)) := KF1.out.mono fun e w' h => ⟨h.1, h.2.1, HC.out _ h.2.2⟩
          go_wp2_with (go_at_call 40; refine KF2.out.mono ?_; rintro e w2 ⟨rfl, hf, hcx⟩; have Z2 := Lib.hid hf; have z1 := (HB.out.frm hf id).cell 1; simp at z1; clear hf)
          go_roundw
          case rel => exact ⟨f.inn, m + 1, rfl, by go_num, by omega, HE.out, Z2.out⟩
          case measure => simp [intOf]; omega

end Go.Proofs.YtjbifjgeheigoaaGreat
end
section
set_option linter.unusedVariables false
set_option linter.unusedSimpArgs false
namespace Go.Proofs.YtjbifjgeheigoaaGreat

def largeFol (f : Fol) : Bool := decide (1000 < (f.name.size : Int))
def largeFee (f : Fee) : Bool := decide (1000 < (f.url.size : Int)) || decide (1000 < (f.title.size : Int))
def largeTag (s : ByteArray) : Bool := decide (300 < (s.size : Int))
def largeItm (t : Itm) : Bool := (decide (1000 < (t.guid.size : Int)) || (decide (1000 < (t.title.size : Int)) || (decide (1000 < (t.link.size : Int)) || decide (20 < (t.tags.length : Int))))) || t.tags.any largeTag
def largeSea (s : Sea) : Bool := decide (1000 < (s.name.size : Int)) || decide (1000 < (s.query.size : Int))
def largeS (x : St) : Bool := (decide (70 < (x.fols.length : Int)) || (decide (70 < (x.fees.length : Int)) || (decide (120 < (x.itms.length : Int)) || decide (40 < (x.seas.length : Int))))) || (x.fols.any largeFol || (x.fees.any largeFee || (x.itms.any largeItm || x.seas.any largeSea)))
theorem large_itms {x : St} (h : largeS x = false) : x.fols.length ≤ 70 ∧ x.fees.length ≤ 70 ∧ x.itms.length ≤ 120 ∧ x.seas.length ≤ 40 ∧ ∀ t ∈ x.itms, t.tags.length ≤ 20 := by
  unfold largeS at h
  simp only [Bool.or_eq_false_iff, decide_eq_false_iff_not] at h
  obtain ⟨⟨h1, h2, h3, h4⟩, -, -, h7, -⟩ := h
  refine ⟨by omega, by omega, by omega, by omega, fun t ht => ?_⟩
  have := List.any_eq_false.1 h7 t ht
  simp only [Bool.not_eq_true] at this
  unfold largeItm at this
  simp only [Bool.or_eq_false_iff, decide_eq_false_iff_not] at this
  omega
theorem small_large {x : St} (h : largeS x = false) : StSmall x := by
  obtain ⟨h1, h2, h3, h4, h5⟩ := large_itms h
  exact ⟨by omega, by omega, by omega, by omega, fun t ht => by have := h5 t ht; omega⟩
theorem past_large {x : St} (h : largeS x = false) : (pastS x).length ≤ 900000 := by
  obtain ⟨h1, h2, h3, h4, h5⟩ := large_itms h
  have := past_len x 20 h5
  have : x.itms.length * (20 + 3) ≤ 120 * 23 := Nat.mul_le_mul_right _ h3
  omega

section
variable {α : Type} {p : List α → α → Bool} {l : List α} {k : Nat}
theorem allG_all : allG p [] l = true ↔ ∀ (j : Nat) (h : j < l.length), p (l.take j) l[j] = true := by
  rw [allG_iff]
  constructor
  · intro h j hj
    have := h (l.take j) l[j] (l.drop (j + 1)) (by rw [← List.drop_eq_getElem_cons hj, List.take_append_drop])
    simpa using this
  · intro h A a B e
    subst e
    have := h A.length (by simp)
    simpa using this
theorem allG_no (h : k < l.length) (hn : p (l.take k) l[k] = false) : allG p [] l = false := by
  refine Bool.eq_false_iff.2 fun ha => ?_
  rw [allG_all.1 ha k h] at hn
  cases hn
theorem allG_yes (h : ∀ (j : Nat) (hj : j < l.length), j < l.length → p (l.take j) l[j] = true) : allG p [] l = true := allG_all.2 fun j hj => h j hj hj
theorem take_any_ {q : α → Bool} {i : Nat} (hk : k < i) (hi : i ≤ l.length) (he : q (l[k]'(by omega)) = true) : (l.take i).any q = true :=
  List.any_eq_true.2 ⟨_, List.mem_take_iff_getElem.2 ⟨k, by omega, rfl⟩, he⟩
theorem rises_zero {g : α → Int} {a : α} : risesI g (l.take 0) a = true := by simp [risesI]
theorem rises_at {g : α → Int} {a : α} (h : k + 1 ≤ l.length) : risesI g (l.take (k + 1)) a = decide (g (l[k]'(by omega)) < g a) := by
  have hk : k < l.length := by omega
  have e : (l.take (k + 1)).getLast? = some l[k] := by
    rw [List.take_succ_eq_append_getElem hk]
    exact List.getLast?_concat
  unfold risesI
  rw [e]
end
/-- tags, one by one. -/
theorem tagsRise_all : ∀ l : List ByteArray, tagsRise l = true ↔ ∀ (j : Nat) (h : j < l.length), tagOk l[j] = true ∧ (j = 0 ∨ ∃ h0 : 0 < j, ltB (l[j - 1]'(by omega)) l[j])
  | [] => by simp [tagsRise]
  | [a] => by
    simp [tagsRise]
  | a :: b :: r => by
    rw [tagsRise, Bool.and_eq_true, Bool.and_eq_true, tagsRise_all (b :: r)]
    simp only [decide_eq_true_eq]
    constructor
    · rintro ⟨⟨h1, h2⟩, h3⟩ j hj
      cases j with
      | zero => exact ⟨h1, .inl rfl⟩
      | succ j =>
        have := h3 j (by simpa using hj)
        refine ⟨this.1, .inr ⟨by omega, ?_⟩⟩
        rcases this.2 with h0 | ⟨h0, hlt⟩
        · subst h0
          exact h2
        · obtain ⟨j, rfl⟩ : ∃ j', j = j' + 1 := ⟨j - 1, by omega⟩
          exact hlt
    · intro h
      refine ⟨⟨(h 0 (by simp)).1, ?_⟩, fun j hj => ?_⟩
      · rcases (h 1 (by simp)).2 with h1 | ⟨_, h1⟩
        · omega
        · exact h1
      · have := h (j + 1) (by simpa using hj)
        refine ⟨this.1, ?_⟩
        rcases this.2 with h1 | ⟨h0, hlt⟩
        · omega
        · cases j with
          | zero => exact .inl rfl
          | succ j => exact .inr ⟨by omega, hlt⟩
end Go.Proofs.YtjbifjgeheigoaaGreat
end
section
set_option linter.unusedVariables false
set_option linter.unusedSimpArgs false
namespace Go.Proofs.YtjbifjgeheigoaaGreat
open Go.RowKit Go.Lib

/-- a state's lists are not too long to be looked at one by one. -/
structure LargeAt (w wc : World) (b1 : Nat) (fo fe it se : Sl) (ts : List (Sl × Itm)) (x : St) (G : Nat → Prop) : Prop where
  st : StIn wc G fo fe it se ts x
  frm : Frm Nix w wc
  b1 : Blk wc b1 30 #[.int .i64 x.clock, .slice fo.1 x.fols.length fo.2, .slice fe.1 x.fees.length fe.2, .slice it.1 x.itms.length it.2, .slice se.1 x.seas.length se.2, .int .i64 x.tFol, .int .i64 x.tFee, .int .i64 x.tItm, .int .i64 x.tSea]
  fols : x.fols.length ≤ 70
  fees : x.fees.length ≤ 70
  itms : x.itms.length ≤ 120
  seas : x.seas.length ≤ 40
theorem LargeAt.nix {w wc w1 : World} {b1 : Nat} {fo fe it se : Sl} {ts : List (Sl × Itm)} {x : St} {G : Nat → Prop} (h : LargeAt w wc b1 fo fe it se ts x G) (hf : Frm Nix wc w1) : LargeAt w w1 b1 fo fe it se ts x G :=
  ⟨h.st.nix hf, h.frm.trans hf, h.b1.frm hf id, h.fols, h.fees, h.itms, h.seas⟩
theorem itms_at2 {x : St} {k : Nat} {w : World} {G : Nat → Prop} {fo fe it se : Sl} {ts : List (Sl × Itm)} (h : StIn w G fo fe it se ts x) (hk : k < x.itms.length) : ∃ hk' : k < ts.length, (ts[k]'hk').2 = x.itms[k] := by
  have hk' : k < ts.length := by rw [h.len]; exact hk
  refine ⟨hk', ?_⟩
  have : (ts.map (·.2))[k]'(by simpa using hk') = (ts[k]'hk').2 := by simp
  rw [← this]
  congr 1
  exact h.same

set_option maxRecDepth 100000 in
set_option maxHeartbeats 8000000 in
theorem RL5 {w wc : World} {b1 : Nat} {fo fe it se : Sl} {ts : List (Sl × Itm)} {x : St} {G : Nat → Prop} (h : LargeAt w wc b1 fo fe it se ts x G) {r : Bool} (hr : (x.seas.any largeSea) = r) {u0 u2 u3 u4 u5 u6 u7 u8 u9 u10 u11 u12 u13 u14 u15 u16 u17 u18 u19 u20 u21 u22 u23 u24 u25 u26 u27 u28 u29 u30 u31 u32 u33 u34 u35 u36 u37 u38 u39 u40 u41 u42 u43 u44 u45 u46 u47 u48 u49 u50 u51 u52 u53 u54 u55 u56 u57 u58 u59 u60 u61 u62 u63 u64 u65 u66 u67 u68 u69 u70 u71 u72 u73 u74 u75 u76 u77 u78 u79 u80 u81 u82 u83 u84 u85 u86 u87 u88 u89 u90 u91 u92 u93 u94 u95 u96 u97 u98 u99 u100 u101 u102 u103 u104 u105 u106 u107 u108 u109 u110 u111 u112 u113 u114 u115 u116 u117 u118 u119 u120 u121 u122 u123 u124 u125 u126 u127 u128 u129 u130 u131 u132 u133 u134 u135 u136 u137 u138 u139 u140 u141 u142 u143 u144 u145 u146 u147 u148 u149 u150 u151 u152 u153 u154 u155 u156 u157 u158 u159 u160 u161 : Value} :
    Code.wp Tryz.prog (peel 5 (bodyOf Tryz.f24)) (bodyPost Tryz.prog Tryz.f24 fun e w' => e = .returned (.bool r) ∧ Frm Nix w w') ⟨#[u0, .pointer (some ⟨b1, 0, none⟩), u2, u3, u4, u5, u6, u7, u8, u9, u10, u11, u12, u13, u14, u15, u16, u17, u18, u19, u20, u21, u22, u23, u24, u25, u26, u27, u28, u29, u30, u31, u32, u33, u34, u35, u36, u37, u38, u39, u40, u41, u42, u43, u44, u45, u46, u47, u48, u49, u50, u51, u52, u53, u54, u55, u56, u57, u58, u59, u60, u61, u62, u63, u64, u65, u66, u67, u68, u69, u70, u71, u72, u73, u74, u75, u76, u77, u78, u79, u80, u81, u82, u83, u84, u85, u86, u87, u88, u89, u90, u91, u92, u93, u94, u95, u96, u97, u98, u99, u100, u101, u102, u103, u104, u105, u106, u107, u108, u109, u110, u111, u112, u113, u114, u115, u116, u117, u118, u119, u120, u121, u122, u123, u124, u125, u126, u127, u128, u129, u130, u131, u132, u133, u134, u135, u136, u137, u138, u139, u140, u141, u142, u143, u144, u145, u146, u147, u148, u149, u150, u151, u152, u153, u154, u155, u156, u157, u158, u159, u160, u161], []⟩ wc := by
  have HS := Lib.hid h
  obtain ⟨x0, x1, x2, x3, x4, x5, x6, x7, x8⟩ := blk9 h.b1
  have hcap := h.seas
  have HY : Hid (x.seas.any largeSea = true → r = true) := fun h => by rw [← hr, h] <;> simp
  have HN : Hid (x.seas.any largeSea = false → (false) = r) := fun h => by rw [← hr, h] <;> simp
  clear hr
  obtain ⟨A, c⟩ := se
  dsimp only at x1 x2 x3 x4
  clear h
  simp only [peel, bodyOf, Tryz.f24]
  go_wp2
  go_loopw [7] (fun kv wr => ∃ k : Nat, k ≤ x.seas.length ∧ kv = .int .i64 k ∧ (x.seas.take k).any largeSea = false ∧ Frm Nix wc wr) (fun kv _ => x.seas.length - (intOf kv).toNat)
  case atStart => exact ⟨0, by omega, rfl, by simp, Frm.refl _ _⟩
  case round =>
    obtain ⟨k, hk, rfl, ht, hf⟩ := hrel
    have HT := Lib.hid ht
    have HF := Lib.hid hf
    have HR := Lib.hid (HS.out.nix hf)
    clear ht hf x0 x1 x2 x3 x4 x5 x6 x7 x8
    obtain ⟨x0, x1, x2, x3, x4, x5, x6, x7, x8⟩ := blk9 HR.out.b1
    dsimp only at x1 x2 x3 x4
    by_cases hlt : k < x.seas.length
    · obtain ⟨b, off, hA, -, hbl, hcell⟩ := HR.out.st.seas.at_ Sea.clen (by decide) (by omega)
      dsimp only at hA
      subst hA
      obtain ⟨p0, p1, p2⟩ := Seacs (w := wr) (b := b) (off := off + k * 3) (e := x.seas[k]) (hcell k hlt)
      have HHit := Lib.hid (fun he => HY.out (fst_any (p := largeSea) hlt he))
      have HStep := Lib.hid (fun he => fst_step (p := largeSea) hlt HT.out he)
      obtain ⟨q, hq⟩ : ∃ q, x.seas[k] = q := ⟨_, rfl⟩
      rw [hq] at p0 p1 p2 HHit HStep
      clear hcell hq
      by_cases he0 : 1000 < (q.name.size : Int)
      case pos =>
        have hy : largeSea q = true := by unfold largeSea; simp; omega
        have HE := Lib.hid (HHit.out hy)
        go_wp2
        go_ret
        exact ⟨by rw [HE.out] <;> rfl, HR.out.frm⟩
      by_cases he1 : 1000 < (q.query.size : Int)
      case pos =>
        have hy : largeSea q = true := by unfold largeSea; simp; omega
        have HE := Lib.hid (HHit.out hy)
        go_wp2
        go_ret
        exact ⟨by rw [HE.out] <;> rfl, HR.out.frm⟩
      have HQ : Hid (largeSea q = false) := by unfold Hid largeSea; simp; omega
      go_wp2
      go_roundw
      case rel => exact ⟨k + 1, by omega, by go_num, HStep.out HQ.out, HF.out⟩
      case measure => simp [intOf]; omega
    · obtain rfl : k = x.seas.length := by omega
      have HE : Hid (x.seas.any largeSea = false) := by have := HT.out; rw [List.take_length] at this; exact this
      go_wp2
      go_ret
      exact ⟨by rw [← HN.out HE.out] <;> rfl, HR.out.frm⟩

set_option maxRecDepth 100000 in
set_option maxHeartbeats 8000000 in
theorem RL4 {w wc : World} {b1 : Nat} {fo fe it se : Sl} {ts : List (Sl × Itm)} {x : St} {G : Nat → Prop} (h : LargeAt w wc b1 fo fe it se ts x G) {r : Bool} (hr : (x.itms.any largeItm || x.seas.any largeSea) = r) {u0 u2 u3 u4 u5 u6 u7 u8 u9 u10 u11 u12 u13 u14 u15 u16 u17 u18 u19 u20 u21 u22 u23 u24 u25 u26 u27 u28 u29 u30 u31 u32 u33 u34 u35 u36 u37 u38 u39 u40 u41 u42 u43 u44 u45 u46 u47 u48 u49 u50 u51 u52 u53 u54 u55 u56 u57 u58 u59 u60 u61 u62 u63 u64 u65 u66 u67 u68 u69 u70 u71 u72 u73 u74 u75 u76 u77 u78 u79 u80 u81 u82 u83 u84 u85 u86 u87 u88 u89 u90 u91 u92 u93 u94 u95 u96 u97 u98 u99 u100 u101 u102 u103 u104 u105 u106 u107 u108 u109 u110 u111 u112 u113 u114 u115 u116 u117 u118 u119 u120 u121 u122 u123 u124 u125 u126 u127 u128 u129 u130 u131 u132 u133 u134 u135 u136 u137 u138 u139 u140 u141 u142 u143 u144 u145 u146 u147 u148 u149 u150 u151 u152 u153 u154 u155 u156 u157 u158 u159 u160 u161 : Value} :
    Code.wp Tryz.prog (peel 4 (bodyOf Tryz.f24)) (bodyPost Tryz.prog Tryz.f24 fun e w' => e = .returned (.bool r) ∧ Frm Nix w w') ⟨#[u0, .pointer (some ⟨b1, 0, none⟩), u2, u3, u4, u5, u6, u7, u8, u9, u10, u11, u12, u13, u14, u15, u16, u17, u18, u19, u20, u21, u22, u23, u24, u25, u26, u27, u28, u29, u30, u31, u32, u33, u34, u35, u36, u37, u38, u39, u40, u41, u42, u43, u44, u45, u46, u47, u48, u49, u50, u51, u52, u53, u54, u55, u56, u57, u58, u59, u60, u61, u62, u63, u64, u65, u66, u67, u68, u69, u70, u71, u72, u73, u74, u75, u76, u77, u78, u79, u80, u81, u82, u83, u84, u85, u86, u87, u88, u89, u90, u91, u92, u93, u94, u95, u96, u97, u98, u99, u100, u101, u102, u103, u104, u105, u106, u107, u108, u109, u110, u111, u112, u113, u114, u115, u116, u117, u118, u119, u120, u121, u122, u123, u124, u125, u126, u127, u128, u129, u130, u131, u132, u133, u134, u135, u136, u137, u138, u139, u140, u141, u142, u143, u144, u145, u146, u147, u148, u149, u150, u151, u152, u153, u154, u155, u156, u157, u158, u159, u160, u161], []⟩ wc := by
  have HS := Lib.hid h
  obtain ⟨x0, x1, x2, x3, x4, x5, x6, x7, x8⟩ := blk9 h.b1
  have hcap := h.itms
  have HY : Hid (x.itms.any largeItm = true → r = true) := fun h => by rw [← hr, h] <;> simp
  have HN : Hid (x.itms.any largeItm = false → (x.seas.any largeSea) = r) := fun h => by rw [← hr, h] <;> simp
  clear hr
  obtain ⟨A, c⟩ := it
  dsimp only at x1 x2 x3 x4
  clear h
  have e1 : peel 4 (bodyOf Tryz.f24) = .seq (hdC (peel 4 (bodyOf Tryz.f24))) (peel 5 (bodyOf Tryz.f24)) := by kernel_rfl
  rw [e1]
  clear e1
  refine wp_seq_k fun K hK => ?_
  conv in hdC _ => whnf
  go_wp2
  go_loopw [5] (fun kv wr => ∃ k : Nat, k ≤ x.itms.length ∧ kv = .int .i64 k ∧ (x.itms.take k).any largeItm = false ∧ Frm Nix wc wr) (fun kv _ => x.itms.length - (intOf kv).toNat)
  case atStart => exact ⟨0, by omega, rfl, by simp, Frm.refl _ _⟩
  case round =>
    obtain ⟨k, hk, rfl, ht, hf⟩ := hrel
    have HT := Lib.hid ht
    have HF := Lib.hid hf
    have HR := Lib.hid (HS.out.nix hf)
    clear ht hf x0 x1 x2 x3 x4 x5 x6 x7 x8
    obtain ⟨x0, x1, x2, x3, x4, x5, x6, x7, x8⟩ := blk9 HR.out.b1
    dsimp only at x1 x2 x3 x4
    by_cases hlt : k < x.itms.length
    · obtain ⟨hkt, het⟩ := itms_at2 HR.out.st hlt
      obtain ⟨b, off, hA, -, hbl, hcell⟩ := HR.out.st.itms.row.at_ itmC_len (by decide) (by omega)
      dsimp only at hA
      subst hA
      have hc := hcell k hkt
      have htg := HR.out.st.itms.tags _ (List.getElem_mem hkt)
      obtain ⟨tp, htp⟩ : ∃ tp, ts[k] = tp := ⟨_, rfl⟩
      rw [htp] at hc het htg
      obtain ⟨p0, p1, p2, p3, p4, p5, p6, p7, p8⟩ := itmcs (w := wr) (b := b) (off := off + k * 9) (p := tp) hc
      have HHit := Lib.hid (fun he => HY.out (fst_any (p := largeItm) hlt he))
      have HStep := Lib.hid (fun he => fst_step (p := largeItm) hlt HT.out he)
      rw [← het] at HHit HStep
      clear hcell hc htp het
      obtain ⟨tv, q⟩ := tp
      dsimp only at *
      by_cases he0 : 1000 < (q.guid.size : Int)
      case pos =>
        have hy : largeItm q = true := by unfold largeItm; simp; omega
        have HE := Lib.hid (HHit.out hy)
        go_wp2
        go_ret
        exact ⟨by rw [HE.out] <;> rfl, HR.out.frm⟩
      by_cases he1 : 1000 < (q.title.size : Int)
      case pos =>
        have hy : largeItm q = true := by unfold largeItm; simp; omega
        have HE := Lib.hid (HHit.out hy)
        go_wp2
        go_ret
        exact ⟨by rw [HE.out] <;> rfl, HR.out.frm⟩
      by_cases he2 : 1000 < (q.link.size : Int)
      case pos =>
        have hy : largeItm q = true := by unfold largeItm; simp; omega
        have HE := Lib.hid (HHit.out hy)
        go_wp2
        go_ret
        exact ⟨by rw [HE.out] <;> rfl, HR.out.frm⟩
      by_cases he3 : 20 < (q.tags.length : Int)
      case pos =>
        have hy : largeItm q = true := by unfold largeItm; simp; omega
        have HE := Lib.hid (HHit.out hy)
        go_wp2
        go_ret
        exact ⟨by rw [HE.out] <;> rfl, HR.out.frm⟩
      have HQ : Hid (largeItm q = q.tags.any largeTag) := by unfold Hid largeItm; simp; omega
      have hcap2 : q.tags.length ≤ 20 := by omega
      have HTg := Lib.hid htg
      have hb1l := HR.out.b1.lt
      clear htg
      go_wp2
      go_loopw [6] (fun jv wv => ∃ j : Nat, j ≤ q.tags.length ∧ jv = .int .i64 j ∧ (q.tags.take j).any largeTag = false ∧ Frm Nix wr wv) (fun jv _ => q.tags.length - (intOf jv).toNat)
      case atStart => exact ⟨0, by omega, rfl, by simp, Frm.refl _ _⟩
      case round =>
        obtain ⟨j, hj, rfl, ht2, hf2⟩ := hrel
        have HT2 := Lib.hid ht2
        have HF2 := Lib.hid hf2
        have z3 := (hf2.cell (p := ⟨b1, 3, none⟩) hb1l id).trans x3
        have z8 := (hf2.cell (p := ⟨b, off + k * 9 + 8, none⟩) hbl id).trans p8
        clear ht2 hf2 x0 x1 x2 x3 x4 x5 x6 x7 x8 p0 p1 p2 p3 p4 p5 p6 p7 p8
        by_cases hjl : j < q.tags.length
        · have htg2 := HTg.out.nix HF2.out
          rw [str_flat] at htg2
          obtain ⟨b3, off3, hA3, -, hbl3, hcell3⟩ := htg2.at_ (f := fun i => [Value.string i]) (fun _ => rfl) (by decide) (by omega)
          obtain ⟨tA, tc⟩ := tv
          dsimp only at hA3 z8
          subst hA3
          have y0 := hcell3 j hjl 0 _ rfl
          rw [Nat.mul_one, Nat.add_zero] at y0
          have HHit2 := Lib.hid (fun he => fst_any (p := largeTag) hjl he)
          have HStep2 := Lib.hid (fun he => fst_step (p := largeTag) hjl HT2.out he)
          obtain ⟨tq, htq⟩ : ∃ tq, q.tags[j] = tq := ⟨_, rfl⟩
          rw [htq] at y0 HHit2 HStep2
          clear hcell3 htq htg2
          by_cases h300 : 300 < (tq.size : Int)
          case pos =>
            have HE := Lib.hid (HHit.out (HQ.out.trans (HHit2.out (by unfold largeTag; exact decide_eq_true h300))))
            go_wp2
            go_ret
            exact ⟨by rw [HE.out] <;> rfl, HR.out.frm.trans HF2.out⟩
          go_wp2
          go_roundw
          case rel => exact ⟨j + 1, by omega, by go_num, HStep2.out (by unfold largeTag; exact decide_eq_false h300), HF2.out⟩
          case measure => simp [intOf]; omega
        · obtain rfl : j = q.tags.length := by omega
          have HE2 : Hid (q.tags.any largeTag = false) := by have := HT2.out; rw [List.take_length] at this; exact this
          go_wp2
          go_roundw
          case rel => exact ⟨k + 1, by omega, by go_num, HStep.out (HQ.out.trans HE2.out), HF.out.trans HF2.out⟩
          case measure => simp [intOf]; omega
    · obtain rfl : k = x.itms.length := by omega
      have HE : Hid (x.itms.any largeItm = false) := by have := HT.out; rw [List.take_length] at this; exact this
      go_wp2
      exact RL5 HR.out (HN.out HE.out)

set_option maxRecDepth 100000 in
set_option maxHeartbeats 8000000 in
theorem RL3 {w wc : World} {b1 : Nat} {fo fe it se : Sl} {ts : List (Sl × Itm)} {x : St} {G : Nat → Prop} (h : LargeAt w wc b1 fo fe it se ts x G) {r : Bool} (hr : (x.fees.any largeFee || (x.itms.any largeItm || x.seas.any largeSea)) = r) {u0 u2 u3 u4 u5 u6 u7 u8 u9 u10 u11 u12 u13 u14 u15 u16 u17 u18 u19 u20 u21 u22 u23 u24 u25 u26 u27 u28 u29 u30 u31 u32 u33 u34 u35 u36 u37 u38 u39 u40 u41 u42 u43 u44 u45 u46 u47 u48 u49 u50 u51 u52 u53 u54 u55 u56 u57 u58 u59 u60 u61 u62 u63 u64 u65 u66 u67 u68 u69 u70 u71 u72 u73 u74 u75 u76 u77 u78 u79 u80 u81 u82 u83 u84 u85 u86 u87 u88 u89 u90 u91 u92 u93 u94 u95 u96 u97 u98 u99 u100 u101 u102 u103 u104 u105 u106 u107 u108 u109 u110 u111 u112 u113 u114 u115 u116 u117 u118 u119 u120 u121 u122 u123 u124 u125 u126 u127 u128 u129 u130 u131 u132 u133 u134 u135 u136 u137 u138 u139 u140 u141 u142 u143 u144 u145 u146 u147 u148 u149 u150 u151 u152 u153 u154 u155 u156 u157 u158 u159 u160 u161 : Value} :
    Code.wp Tryz.prog (peel 3 (bodyOf Tryz.f24)) (bodyPost Tryz.prog Tryz.f24 fun e w' => e = .returned (.bool r) ∧ Frm Nix w w') ⟨#[u0, .pointer (some ⟨b1, 0, none⟩), u2, u3, u4, u5, u6, u7, u8, u9, u10, u11, u12, u13, u14, u15, u16, u17, u18, u19, u20, u21, u22, u23, u24, u25, u26, u27, u28, u29, u30, u31, u32, u33, u34, u35, u36, u37, u38, u39, u40, u41, u42, u43, u44, u45, u46, u47, u48, u49, u50, u51, u52, u53, u54, u55, u56, u57, u58, u59, u60, u61, u62, u63, u64, u65, u66, u67, u68, u69, u70, u71, u72, u73, u74, u75, u76, u77, u78, u79, u80, u81, u82, u83, u84, u85, u86, u87, u88, u89, u90, u91, u92, u93, u94, u95, u96, u97, u98, u99, u100, u101, u102, u103, u104, u105, u106, u107, u108, u109, u110, u111, u112, u113, u114, u115, u116, u117, u118, u119, u120, u121, u122, u123, u124, u125, u126, u127, u128, u129, u130, u131, u132, u133, u134, u135, u136, u137, u138, u139, u140, u141, u142, u143, u144, u145, u146, u147, u148, u149, u150, u151, u152, u153, u154, u155, u156, u157, u158, u159, u160, u161], []⟩ wc := by
  have HS := Lib.hid h
  obtain ⟨x0, x1, x2, x3, x4, x5, x6, x7, x8⟩ := blk9 h.b1
  have hcap := h.fees
  have HY : Hid (x.fees.any largeFee = true → r = true) := fun h => by rw [← hr, h] <;> simp
  have HN : Hid (x.fees.any largeFee = false → (x.itms.any largeItm || x.seas.any largeSea) = r) := fun h => by rw [← hr, h] <;> simp
  clear hr
  obtain ⟨A, c⟩ := fe
  dsimp only at x1 x2 x3 x4
  clear h
  have e1 : peel 3 (bodyOf Tryz.f24) = .seq (hdC (peel 3 (bodyOf Tryz.f24))) (peel 4 (bodyOf Tryz.f24)) := by kernel_rfl
  rw [e1]
  clear e1
  refine wp_seq_k fun K hK => ?_
  conv in hdC _ => whnf
  go_wp2
  go_loopw [4] (fun kv wr => ∃ k : Nat, k ≤ x.fees.length ∧ kv = .int .i64 k ∧ (x.fees.take k).any largeFee = false ∧ Frm Nix wc wr) (fun kv _ => x.fees.length - (intOf kv).toNat)
  case atStart => exact ⟨0, by omega, rfl, by simp, Frm.refl _ _⟩
  case round =>
    obtain ⟨k, hk, rfl, ht, hf⟩ := hrel
    have HT := Lib.hid ht
    have HF := Lib.hid hf
    have HR := Lib.hid (HS.out.nix hf)
    clear ht hf x0 x1 x2 x3 x4 x5 x6 x7 x8
    obtain ⟨x0, x1, x2, x3, x4, x5, x6, x7, x8⟩ := blk9 HR.out.b1
    dsimp only at x1 x2 x3 x4
    by_cases hlt : k < x.fees.length
    · obtain ⟨b, off, hA, -, hbl, hcell⟩ := HR.out.st.fees.at_ Fee.clen (by decide) (by omega)
      dsimp only at hA
      subst hA
      obtain ⟨p0, p1, p2, p3⟩ := Feecs (w := wr) (b := b) (off := off + k * 4) (e := x.fees[k]) (hcell k hlt)
      have HHit := Lib.hid (fun he => HY.out (fst_any (p := largeFee) hlt he))
      have HStep := Lib.hid (fun he => fst_step (p := largeFee) hlt HT.out he)
      obtain ⟨q, hq⟩ : ∃ q, x.fees[k] = q := ⟨_, rfl⟩
      rw [hq] at p0 p1 p2 p3 HHit HStep
      clear hcell hq
      by_cases he0 : 1000 < (q.url.size : Int)
      case pos =>
        have hy : largeFee q = true := by unfold largeFee; simp; omega
        have HE := Lib.hid (HHit.out hy)
        go_wp2
        go_ret
        exact ⟨by rw [HE.out] <;> rfl, HR.out.frm⟩
      by_cases he1 : 1000 < (q.title.size : Int)
      case pos =>
        have hy : largeFee q = true := by unfold largeFee; simp; omega
        have HE := Lib.hid (HHit.out hy)
        go_wp2
        go_ret
        exact ⟨by rw [HE.out] <;> rfl, HR.out.frm⟩
      have HQ : Hid (largeFee q = false) := by unfold Hid largeFee; simp; omega
      go_wp2
      go_roundw
      case rel => exact ⟨k + 1, by omega, by go_num, HStep.out HQ.out, HF.out⟩
      case measure => simp [intOf]; omega
    · obtain rfl : k = x.fees.length := by omega
      have HE : Hid (x.fees.any largeFee = false) := by have := HT.out; rw [List.take_length] at this; exact this
      go_wp2
      exact RL4 HR.out (HN.out HE.out)

set_option maxRecDepth 100000 in
set_option maxHeartbeats 8000000 in
theorem RL2 {w wc : World} {b1 : Nat} {fo fe it se : Sl} {ts : List (Sl × Itm)} {x : St} {G : Nat → Prop} (h : LargeAt w wc b1 fo fe it se ts x G) {r : Bool} (hr : (x.fols.any largeFol || (x.fees.any largeFee || (x.itms.any largeItm || x.seas.any largeSea))) = r) {u0 u2 u3 u4 u5 u6 u7 u8 u9 u10 u11 u12 u13 u14 u15 u16 u17 u18 u19 u20 u21 u22 u23 u24 u25 u26 u27 u28 u29 u30 u31 u32 u33 u34 u35 u36 u37 u38 u39 u40 u41 u42 u43 u44 u45 u46 u47 u48 u49 u50 u51 u52 u53 u54 u55 u56 u57 u58 u59 u60 u61 u62 u63 u64 u65 u66 u67 u68 u69 u70 u71 u72 u73 u74 u75 u76 u77 u78 u79 u80 u81 u82 u83 u84 u85 u86 u87 u88 u89 u90 u91 u92 u93 u94 u95 u96 u97 u98 u99 u100 u101 u102 u103 u104 u105 u106 u107 u108 u109 u110 u111 u112 u113 u114 u115 u116 u117 u118 u119 u120 u121 u122 u123 u124 u125 u126 u127 u128 u129 u130 u131 u132 u133 u134 u135 u136 u137 u138 u139 u140 u141 u142 u143 u144 u145 u146 u147 u148 u149 u150 u151 u152 u153 u154 u155 u156 u157 u158 u159 u160 u161 : Value} :
    Code.wp Tryz.prog (peel 2 (bodyOf Tryz.f24)) (bodyPost Tryz.prog Tryz.f24 fun e w' => e = .returned (.bool r) ∧ Frm Nix w w') ⟨#[u0, .pointer (some ⟨b1, 0, none⟩), u2, u3, u4, u5, u6, u7, u8, u9, u10, u11, u12, u13, u14, u15, u16, u17, u18, u19, u20, u21, u22, u23, u24, u25, u26, u27, u28, u29, u30, u31, u32, u33, u34, u35, u36, u37, u38, u39, u40, u41, u42, u43, u44, u45, u46, u47, u48, u49, u50, u51, u52, u53, u54, u55, u56, u57, u58, u59, u60, u61, u62, u63, u64, u65, u66, u67, u68, u69, u70, u71, u72, u73, u74, u75, u76, u77, u78, u79, u80, u81, u82, u83, u84, u85, u86, u87, u88, u89, u90, u91, u92, u93, u94, u95, u96, u97, u98, u99, u100, u101, u102, u103, u104, u105, u106, u107, u108, u109, u110, u111, u112, u113, u114, u115, u116, u117, u118, u119, u120, u121, u122, u123, u124, u125, u126, u127, u128, u129, u130, u131, u132, u133, u134, u135, u136, u137, u138, u139, u140, u141, u142, u143, u144, u145, u146, u147, u148, u149, u150, u151, u152, u153, u154, u155, u156, u157, u158, u159, u160, u161], []⟩ wc := by
  have HS := Lib.hid h
  obtain ⟨x0, x1, x2, x3, x4, x5, x6, x7, x8⟩ := blk9 h.b1
  have hcap := h.fols
  have HY : Hid (x.fols.any largeFol = true → r = true) := fun h => by rw [← hr, h] <;> simp
  have HN : Hid (x.fols.any largeFol = false → (x.fees.any largeFee || (x.itms.any largeItm || x.seas.any largeSea)) = r) := fun h => by rw [← hr, h] <;> simp
  clear hr
  obtain ⟨A, c⟩ := fo
  dsimp only at x1 x2 x3 x4
  clear h
  have e1 : peel 2 (bodyOf Tryz.f24) = .seq (hdC (peel 2 (bodyOf Tryz.f24))) (peel 3 (bodyOf Tryz.f24)) := by kernel_rfl
  rw [e1]
  clear e1
  refine wp_seq_k fun K hK => ?_
  conv in hdC _ => whnf
  go_wp2
  go_loopw [3] (fun kv wr => ∃ k : Nat, k ≤ x.fols.length ∧ kv = .int .i64 k ∧ (x.fols.take k).any largeFol = false ∧ Frm Nix wc wr) (fun kv _ => x.fols.length - (intOf kv).toNat)
  case atStart => exact ⟨0, by omega, rfl, by simp, Frm.refl _ _⟩
  case round =>
    obtain ⟨k, hk, rfl, ht, hf⟩ := hrel
    have HT := Lib.hid ht
    have HF := Lib.hid hf
    have HR := Lib.hid (HS.out.nix hf)
    clear ht hf x0 x1 x2 x3 x4 x5 x6 x7 x8
    obtain ⟨x0, x1, x2, x3, x4, x5, x6, x7, x8⟩ := blk9 HR.out.b1
    dsimp only at x1 x2 x3 x4
    by_cases hlt : k < x.fols.length
    · obtain ⟨b, off, hA, -, hbl, hcell⟩ := HR.out.st.fols.at_ Fol.clen (by decide) (by omega)
      dsimp only at hA
      subst hA
      obtain ⟨p0, p1, p2⟩ := Folcs (w := wr) (b := b) (off := off + k * 3) (e := x.fols[k]) (hcell k hlt)
      have HHit := Lib.hid (fun he => HY.out (fst_any (p := largeFol) hlt he))
      have HStep := Lib.hid (fun he => fst_step (p := largeFol) hlt HT.out he)
      obtain ⟨q, hq⟩ : ∃ q, x.fols[k] = q := ⟨_, rfl⟩
      rw [hq] at p0 p1 p2 HHit HStep
      clear hcell hq
      by_cases he0 : 1000 < (q.name.size : Int)
      case pos =>
        have hy : largeFol q = true := by unfold largeFol; simp; omega
        have HE := Lib.hid (HHit.out hy)
        go_wp2
        go_ret
        exact ⟨by rw [HE.out] <;> rfl, HR.out.frm⟩
      have HQ : Hid (largeFol q = false) := by unfold Hid largeFol; simp; omega
      go_wp2
      go_roundw
      case rel => exact ⟨k + 1, by omega, by go_num, HStep.out HQ.out, HF.out⟩
      case measure => simp [intOf]; omega
    · obtain rfl : k = x.fols.length := by omega
      have HE : Hid (x.fols.any largeFol = false) := by have := HT.out; rw [List.take_length] at this; exact this
      go_wp2
      exact RL3 HR.out (HN.out HE.out)

set_option maxRecDepth 100000 in
set_option maxHeartbeats 8000000 in
theorem rLargeSt_any {w : World} {fo fe it se : Sl} {ts : List (Sl × Itm)} {x : St} {G : Nat → Prop} (hS : StIn w G fo fe it se ts x) :
    Calls Tryz.prog 24 #[stV fo fe it se x] w fun r w' => r = .returned (.bool (largeS x)) ∧ Frm Nix w w' := by
  obtain ⟨w0, hw0, hf0, hb0⟩ := box_st w fo fe it se x
  obtain ⟨x0, x1, x2, x3, x4, x5, x6, x7, x8⟩ := blk9 hb0
  have HS := Lib.hid (hS.nix hf0)
  have HB := Lib.hid hb0
  have HF := Lib.hid hf0
  have HW := Lib.hid hw0
  have HE : Hid (largeS x = ((decide (70 < (x.fols.length : Int)) || (decide (70 < (x.fees.length : Int)) || (decide (120 < (x.itms.length : Int)) || decide (40 < (x.seas.length : Int))))) || (x.fols.any largeFol || (x.fees.any largeFee || (x.itms.any largeItm || x.seas.any largeSea))))) := rfl
  rw [hw0] at x0 x1 x2 x3 x4 x5 x6 x7 x8
  clear hS hf0 hb0 hw0
  unfold stV
  by_cases h0 : 70 < (x.fols.length : Int)
  case pos =>
    have HY : Hid (largeS x = true) := by unfold Hid; rw [HE.out, decide_eq_true h0]; simp
    go_enter Tryz.func24, Tryz.ntmps24
    go_wp2
    rw [← HW.out]
    go_ret
    exact ⟨by rw [HY.out] <;> rfl, HF.out⟩
  by_cases h1 : 70 < (x.fees.length : Int)
  case pos =>
    have HY : Hid (largeS x = true) := by unfold Hid; rw [HE.out, decide_eq_true h1]; simp
    go_enter Tryz.func24, Tryz.ntmps24
    go_wp2
    rw [← HW.out]
    go_ret
    exact ⟨by rw [HY.out] <;> rfl, HF.out⟩
  by_cases h2 : 120 < (x.itms.length : Int)
  case pos =>
    have HY : Hid (largeS x = true) := by unfold Hid; rw [HE.out, decide_eq_true h2]; simp
    go_enter Tryz.func24, Tryz.ntmps24
    go_wp2
    rw [← HW.out]
    go_ret
    exact ⟨by rw [HY.out] <;> rfl, HF.out⟩
  by_cases h3 : 40 < (x.seas.length : Int)
  case pos =>
    have HY : Hid (largeS x = true) := by unfold Hid; rw [HE.out, decide_eq_true h3]; simp
    go_enter Tryz.func24, Tryz.ntmps24
    go_wp2
    rw [← HW.out]
    go_ret
    exact ⟨by rw [HY.out] <;> rfl, HF.out⟩
  have HY : Hid (largeS x = (x.fols.any largeFol || (x.fees.any largeFee || (x.itms.any largeItm || x.seas.any largeSea)))) := by unfold Hid; rw [HE.out, decide_eq_false h0, decide_eq_false h1, decide_eq_false h2, decide_eq_false h3]; rfl
  go_enter Tryz.func24, Tryz.ntmps24
  show Code.wp Tryz.prog (peel 0 (bodyOf Tryz.f24)) _ _ _
  have e1 : peel 0 (bodyOf Tryz.f24) = .seq (hdC (peel 0 (bodyOf Tryz.f24))) (peel 1 (bodyOf Tryz.f24)) := by kernel_rfl
  rw [e1]
  clear e1
  refine wp_seq_k fun K hK => ?_
  conv in hdC _ => whnf
  go_wp2
  have e1 : peel 1 (bodyOf Tryz.f24) = .seq (hdC (peel 1 (bodyOf Tryz.f24))) (peel 2 (bodyOf Tryz.f24)) := by kernel_rfl
  rw [e1]
  clear e1
  refine wp_seq_k fun K hK => ?_
  conv in hdC _ => whnf
  go_wp2
  rw [← HW.out]
  exact RL2 ⟨HS.out, HF.out, HB.out, by omega, by omega, by omega, by omega⟩ HY.out.symm
end Go.Proofs.YtjbifjgeheigoaaGreat
end
section
set_option linter.unusedVariables false
set_option linter.unusedSimpArgs false
namespace Go.Proofs.YtjbifjgeheigoaaGreat
open Go.RowKit Go.Lib

set_option maxRecDepth 100000 in
set_option maxHeartbeats 16000000 in
theorem rFolders_any {w : World} {fo fe it se : Sl} {ts : List (Sl × Itm)} {x : St} {G : Nat → Prop} (hS : StIn w G fo fe it se ts x) (hsm : StSmall x) :
    Calls Tryz.prog 90 #[stV fo fe it se x] w fun e w' => e = .returned (.bool (folsOk x)) ∧ Frm Nix w w' := by
  obtain ⟨w0, hw0, hf0, hb0⟩ := box_st w fo fe it se x
  have hcap := hsm.fols
  obtain ⟨x0, x1, x2, x3, x4, x5, x6, x7, x8⟩ := blk9 hb0
  have HS := Lib.hid (hS.nix hf0)
  have HSm := Lib.hid hsm
  have HB := Lib.hid hb0
  have HF0 := Lib.hid hf0
  have HW := Lib.hid hw0
  obtain ⟨P, hP⟩ : ∃ P : List Fol → Fol → Bool, P = (fun (pre : List Fol) (f : Fol) => evOk ⟨1, f.id, f.inn, 0, f.name, eS, eS⟩ && decide (f.id ≤ x.tFol) && risesI Fol.id pre f && decide (deepS x f.id ≤ 7) && !(pre.any fun g => g.inn = f.inn ∧ g.name = f.name)) := ⟨_, rfl⟩
  have HP : Hid (∀ pre f, P pre f = ((fun (pre : List Fol) (f : Fol) => evOk ⟨1, f.id, f.inn, 0, f.name, eS, eS⟩ && decide (f.id ≤ x.tFol) && risesI Fol.id pre f && decide (deepS x f.id ≤ 7) && !(pre.any fun g => g.inn = f.inn ∧ g.name = f.name)) pre f)) := by rw [hP]; exact fun _ _ => rfl
  have HNo0 : Hid (allG P [] x.fols = false → folsOk x = false) := fun h => by unfold folsOk; rw [← hP, h]; rfl
  have HYes0 : Hid (allG P [] x.fols = true → folsOk x = (decide (x.fols.length ≤ 64) && decide (0 ≤ x.tFol ∧ x.tFol ≤ 1048576))) := fun h => by unfold folsOk; rw [← hP, h]; simp
  clear hS hsm hw0 hf0 hb0 hP
  unfold stV
  obtain ⟨A, c⟩ := fo
  dsimp only at x1 x2 x3 x4 HS HB HW ⊢
  go_enter Tryz.func90, Tryz.ntmps90
  show Code.wp Tryz.prog (peel 0 (bodyOf Tryz.f90)) _ _ _
  have e1 : peel 0 (bodyOf Tryz.f90) = .seq (hdC (peel 0 (bodyOf Tryz.f90))) (peel 1 (bodyOf Tryz.f90)) := by kernel_rfl
  rw [e1]
  clear e1
  refine wp_seq_k fun K hK => ?_
  conv in hdC _ => whnf
  go_wp2
  rw [← HW.out]
  have e1 : peel 1 (bodyOf Tryz.f90) = .seq (hdC (peel 1 (bodyOf Tryz.f90))) (peel 2 (bodyOf Tryz.f90)) := by kernel_rfl
  rw [e1]
  clear e1
  refine wp_seq_k fun K hK => ?_
  conv in hdC _ => whnf
  go_wp2
  go_loopw [3] (fun kv wr => ∃ k : Nat, k ≤ x.fols.length ∧ kv = .int .i64 k ∧ (∀ (j : Nat) (hj : j < x.fols.length), j < k → P (x.fols.take j) (x.fols[j]'hj) = true) ∧ Frm Nix w0 wr) (fun kv _ => x.fols.length - (intOf kv).toNat)
  case atStart => exact ⟨0, by omega, rfl, fun j hj h => absurd h (by omega), Frm.refl _ _⟩
  case round =>
    obtain ⟨k, hk, rfl, ht, hf⟩ := hrel
    have HT := Lib.hid ht
    have HF := Lib.hid hf
    clear ht hf x0 x1 x2 x3 x4 x5 x6 x7 x8
    obtain ⟨x0, x1, x2, x3, x4, x5, x6, x7, x8⟩ := blk9 (HB.out.frm HF.out id)
    by_cases hlt : k < x.fols.length
    · obtain ⟨b, off, hA, -, hbl, hcell⟩ := (HS.out.fols.nix HF.out).at_ Fol.clen (by decide) (by omega)
      dsimp only at hA
      subst hA
      have HNo := Lib.hid (fun h => HNo0.out (allG_no (p := P) hlt h))
      have HStep : Hid (P (x.fols.take k) x.fols[k] = true → ∀ (j : Nat) (hj : j < x.fols.length), j < k + 1 → P (x.fols.take j) (x.fols[j]'hj) = true) := fun h j hj hjk => by
        by_cases e : j = k
        · subst e; exact h
        · exact HT.out j hj (by omega)
      have HCell : Hid (∀ W, Frm Nix wr W → ∀ (i : Nat) (hi : i < x.fols.length) (j : Nat) (u : Value), (Fol.cells x.fols[i])[j]? = some u → W.cell? ⟨b, off + i * 3 + j, none⟩ = some u) := fun W hW i hi j u hu => (hW.cell (p := ⟨b, off + i * 3 + j, none⟩) hbl id).trans (hcell i hi j u hu)
      obtain ⟨p0, p1, p2⟩ := Folcs (w := wr) (b := b) (off := off + k * 3) (e := x.fols[k]) (hcell k hlt)
      obtain ⟨q, hq⟩ : ∃ q, x.fols[k] = q := ⟨_, rfl⟩
      rw [hq] at p0 p1 p2 HNo HStep
      clear hcell hq
      have HPq := Lib.hid (HP.out (x.fols.take k) q)
      obtain ⟨w1, hw1⟩ : ∃ w1, w1 = wr.alloc (.cells #[.int .i64 q.id, .int .i64 q.inn, .string q.name] 58) := ⟨_, rfl⟩
      have f1 : Frm Nix wr w1 := by rw [hw1]; exact (Frm.refl Nix wr).alloc _
      have hb4 : Blk w1 wr.heap.size 58 #[.int .i64 q.id, .int .i64 q.inn, .string q.name] := by rw [hw1]; exact Blk.new _ _ _
      have HW1 := Lib.hid hw1
      have HF1 := Lib.hid f1
      have HB4 := Lib.hid hb4
      have hbx := (HB.out.frm HF.out id).frm f1 id
      have z := fun y : FW (Frm Nix w1) => blk9 (hbx.frm y.h id)
      have z0 := fun y => (z y).1
      have z1 := fun y => (z y).2.1
      have z2 := fun y => (z y).2.2.1
      have z3 := fun y => (z y).2.2.2.1
      have z4 := fun y => (z y).2.2.2.2.1
      have z5 := fun y => (z y).2.2.2.2.2.1
      have z6 := fun y => (z y).2.2.2.2.2.2.1
      have z7 := fun y => (z y).2.2.2.2.2.2.2.1
      have z8 := fun y => (z y).2.2.2.2.2.2.2.2
      have HBx := Lib.hid hbx
      have r0 := fun y : FW (Frm Nix w1) => (show y.w.cell? ⟨wr.heap.size, 0, none⟩ = some (.int .i64 q.id) from (hb4.frm y.h id).cell 0)
      have r1 := fun y : FW (Frm Nix w1) => (show y.w.cell? ⟨wr.heap.size, 1, none⟩ = some (.int .i64 q.inn) from (hb4.frm y.h id).cell 1)
      have r2 := fun y : FW (Frm Nix w1) => (show y.w.cell? ⟨wr.heap.size, 2, none⟩ = some (.string q.name) from (hb4.frm y.h id).cell 2)
      have KC := fun y : FW (Frm Nix w1) => (show Calls Tryz.prog 89 #[.agg #[.int .i64 1, .int .i64 q.id, .int .i64 q.inn, .int .i64 0, .string q.name, .string ⟨#[]⟩, .string ⟨#[]⟩]] y.w fun e w' => e = .returned (.bool (evOk ⟨1, q.id, q.inn, 0, q.name, eS, eS⟩)) ∧ Frm Nix y.w w' from rCheck_any ⟨1, q.id, q.inn, 0, q.name, eS, eS⟩ y.w)
      have KD := fun y : FW (Frm Nix w1) => (show Calls Tryz.prog 37 #[.agg #[.int .i64 x.clock, .slice (some ⟨b, off, none⟩) x.fols.length c, .slice fe.1 x.fees.length fe.2, .slice it.1 x.itms.length it.2, .slice se.1 x.seas.length se.2, .int .i64 x.tFol, .int .i64 x.tFee, .int .i64 x.tItm, .int .i64 x.tSea], .int .i64 q.id] y.w fun e w' => e = .returned (.int .i64 (deepS x q.id)) ∧ Frm Nix y.w w' from rDeep_any ((HS.out.nix (HF.out.trans f1)).nix y.h) HSm.out q.id)
      clear z hbx hb4 f1 hw1
      cases h0 : evOk ⟨1, q.id, q.inn, 0, q.name, eS, eS⟩ with
      | false =>
        rw [h0] at KC
        go_wp2_with fail
        rw [← HW1.out]
        refine wp_region_class (Frm Nix w1) ((Frm.refl Nix w1).drew) (by kernel_rfl) (by kernel_rfl) ?_
        repeat (go_big_quiet_step (first
          | (rename_i y; go_at_call 89; refine y.call (KC y) ?_; exact fun w' hf => y.h.trans hf)
          | (rename_i y; go_at_call 37; refine y.call (KD y) ?_; exact fun w' hf => y.h.trans hf)
          | fail))
        refine wpQuiet_nil ?_
        rintro w5 ⟨⟨_, hfw5⟩, rfl⟩
        go_wp2
        go_ret
        exact ⟨ret_bool (HNo.out (by rw [HPq.out, h0]; simp)).symm, HF0.out.trans (HF.out.trans (HF1.out.trans hfw5))⟩
      | true =>
        rw [h0] at KC
        by_cases h1 : x.tFol < q.id
        · have k1 : decide (x.tFol < q.id) = true := decide_eq_true h1
          go_wp2_with fail
          rw [← HW1.out]
          refine wp_region_class (Frm Nix w1) ((Frm.refl Nix w1).drew) (by kernel_rfl) (by kernel_rfl) ?_
          repeat (go_big_quiet_step (first
            | (rename_i y; go_at_call 89; refine y.call (KC y) ?_; exact fun w' hf => y.h.trans hf)
            | (rename_i y; go_at_call 37; refine y.call (KD y) ?_; exact fun w' hf => y.h.trans hf)
            | fail))
          refine wpQuiet_nil ?_
          rintro w5 ⟨⟨_, hfw5⟩, rfl⟩
          go_wp2
          go_ret
          exact ⟨ret_bool (HNo.out (by rw [HPq.out, decide_eq_false (show ¬ q.id ≤ x.tFol by omega)]; simp)).symm, HF0.out.trans (HF.out.trans (HF1.out.trans hfw5))⟩
        have k1 : decide (x.tFol < q.id) = false := decide_eq_false h1
        have hle : q.id ≤ x.tFol := by omega
        by_cases hk0 : 0 < k
        case neg =>
          have kA : decide ((0 : Int) < (k : Int)) = false := by first | (simp; done) | (simp; omega)
          have kB : decide (0 < k) = false := by first | (simp; done) | (simp; omega)
          have hr : risesI Fol.id (x.fols.take k) q = true := by rw [show k = 0 by omega]; exact rises_zero
          by_cases h3 : 7 < deepS x q.id
          · have k3 : decide ((7 : Int) < ((deepS x q.id : Nat) : Int)) = true := by first | (simp; done) | (simp; omega)
            have k4 : decide (7 < deepS x q.id) = true := by first | (simp; done) | (simp; omega)
            go_wp2_with fail
            rw [← HW1.out]
            refine wp_region_class (Frm Nix w1) ((Frm.refl Nix w1).drew) (by kernel_rfl) (by kernel_rfl) ?_
            repeat (go_big_quiet_step (first
              | (rename_i y; go_at_call 89; refine y.call (KC y) ?_; exact fun w' hf => y.h.trans hf)
              | (rename_i y; go_at_call 37; refine y.call (KD y) ?_; exact fun w' hf => y.h.trans hf)
              | fail))
            refine wpQuiet_nil ?_
            rintro w5 ⟨⟨_, hfw5⟩, rfl⟩
            go_wp2
            go_ret
            exact ⟨ret_bool (HNo.out (by rw [HPq.out, decide_eq_false (show ¬ deepS x q.id ≤ 7 by omega)]; simp)).symm, HF0.out.trans (HF.out.trans (HF1.out.trans hfw5))⟩
          have k3 : decide ((7 : Int) < ((deepS x q.id : Nat) : Int)) = false := by first | (simp; done) | (simp; omega)
          have k4 : decide (7 < deepS x q.id) = false := by first | (simp; done) | (simp; omega)
          have hd7 : deepS x q.id ≤ 7 := by omega
          go_wp2_with fail
          rw [← HW1.out]
          refine wp_region_class (Frm Nix w1) ((Frm.refl Nix w1).drew) (by kernel_rfl) (by kernel_rfl) ?_
          repeat (go_big_quiet_step (first
            | (rename_i y; go_at_call 89; refine y.call (KC y) ?_; exact fun w' hf => y.h.trans hf)
            | (rename_i y; go_at_call 37; refine y.call (KD y) ?_; exact fun w' hf => y.h.trans hf)
            | fail))
          refine wpQuiet_nil ?_
          rintro w5 ⟨⟨_, hfw5⟩, rfl⟩
          have HF5 := Lib.hid hfw5
          clear hfw5
          go_wp2
          go_loopw [5] (fun jv wv => ∃ j : Nat, j ≤ k ∧ jv = .int .i64 j ∧ (x.fols.take j).any (fun g => decide (g.inn = q.inn ∧ g.name = q.name)) = false ∧ Frm Nix w1 wv) (fun jv _ => k - (intOf jv).toNat)
          case atStart => exact ⟨0, by omega, rfl, by simp, HF5.out⟩
          case round =>
            obtain ⟨j, hj, rfl, ht2, hf2⟩ := hrel
            have HT2 := Lib.hid ht2
            have HF2 := Lib.hid hf2
            clear ht2 hf2
            by_cases hjk : j < k
            · exfalso
              omega
            · obtain rfl : j = k := by omega
              have HE := HT2
              go_wp2
              go_roundw
              case rel => exact ⟨j + 1, by omega, by go_num, HStep.out (by rw [HPq.out, h0, hr, decide_eq_true hle, decide_eq_true hd7, HE.out]; rfl), HF.out.trans (HF1.out.trans HF2.out)⟩
              case measure => simp [intOf]; omega
        obtain ⟨i, rfl⟩ : ∃ i, k = i + 1 := ⟨k - 1, by omega⟩
        have kA : decide ((0 : Int) < ((i + 1 : Nat) : Int)) = true := by first | (simp; done) | (simp; omega)
        have kA2 : decide ((0 : Int) < (i : Int) + 1) = true := by first | (simp; done) | (simp; omega)
        have hil : i < x.fols.length := by omega
        have hr0 := rises_at (g := Fol.id) (a := q) (l := x.fols) (k := i) (by omega)
        have zp := fun y : FW (Frm Nix w1) => HCell.out y.w (HF1.out.trans y.h) i hil 0 _ rfl
        obtain ⟨pr, hpr⟩ : ∃ pr, x.fols[i] = pr := ⟨_, rfl⟩
        rw [hpr] at zp hr0
        rw [Nat.add_zero] at zp
        clear hpr
        by_cases h2 : q.id ≤ pr.id
        · have k2 : decide (q.id ≤ pr.id) = true := decide_eq_true h2
          have hr : risesI Fol.id (x.fols.take (i + 1)) q = false := by rw [hr0]; exact decide_eq_false (by omega)
          go_wp2_with fail
          rw [← HW1.out]
          refine wp_region_class (Frm Nix w1) ((Frm.refl Nix w1).drew) (by kernel_rfl) (by kernel_rfl) ?_
          repeat (go_big_quiet_step (first
            | (rename_i y; go_at_call 89; refine y.call (KC y) ?_; exact fun w' hf => y.h.trans hf)
            | (rename_i y; go_at_call 37; refine y.call (KD y) ?_; exact fun w' hf => y.h.trans hf)
            | fail))
          refine wpQuiet_nil ?_
          rintro w5 ⟨⟨_, hfw5⟩, rfl⟩
          go_wp2
          go_ret
          exact ⟨ret_bool (HNo.out (by rw [HPq.out, hr]; simp)).symm, HF0.out.trans (HF.out.trans (HF1.out.trans hfw5))⟩
        have k2 : decide (q.id ≤ pr.id) = false := decide_eq_false h2
        have hr : risesI Fol.id (x.fols.take (i + 1)) q = true := by rw [hr0]; exact decide_eq_true (by omega)
        by_cases h3 : 7 < deepS x q.id
        · have k3 : decide ((7 : Int) < ((deepS x q.id : Nat) : Int)) = true := by first | (simp; done) | (simp; omega)
          have k4 : decide (7 < deepS x q.id) = true := by first | (simp; done) | (simp; omega)
          go_wp2_with fail
          rw [← HW1.out]
          refine wp_region_class (Frm Nix w1) ((Frm.refl Nix w1).drew) (by kernel_rfl) (by kernel_rfl) ?_
          repeat (go_big_quiet_step (first
            | (rename_i y; go_at_call 89; refine y.call (KC y) ?_; exact fun w' hf => y.h.trans hf)
            | (rename_i y; go_at_call 37; refine y.call (KD y) ?_; exact fun w' hf => y.h.trans hf)
            | fail))
          refine wpQuiet_nil ?_
          rintro w5 ⟨⟨_, hfw5⟩, rfl⟩
          go_wp2
          go_ret
          exact ⟨ret_bool (HNo.out (by rw [HPq.out, decide_eq_false (show ¬ deepS x q.id ≤ 7 by omega)]; simp)).symm, HF0.out.trans (HF.out.trans (HF1.out.trans hfw5))⟩
        have k3 : decide ((7 : Int) < ((deepS x q.id : Nat) : Int)) = false := by first | (simp; done) | (simp; omega)
        have k4 : decide (7 < deepS x q.id) = false := by first | (simp; done) | (simp; omega)
        have hd7 : deepS x q.id ≤ 7 := by omega
        go_wp2_with fail
        rw [← HW1.out]
        refine wp_region_class (Frm Nix w1) ((Frm.refl Nix w1).drew) (by kernel_rfl) (by kernel_rfl) ?_
        repeat (go_big_quiet_step (first
          | (rename_i y; go_at_call 89; refine y.call (KC y) ?_; exact fun w' hf => y.h.trans hf)
          | (rename_i y; go_at_call 37; refine y.call (KD y) ?_; exact fun w' hf => y.h.trans hf)
          | fail))
        refine wpQuiet_nil ?_
        rintro w5 ⟨⟨_, hfw5⟩, rfl⟩
        have HF5 := Lib.hid hfw5
        clear hfw5
        go_wp2
        go_loopw [5] (fun jv wv => ∃ j : Nat, j ≤ (i + 1) ∧ jv = .int .i64 j ∧ (x.fols.take j).any (fun g => decide (g.inn = q.inn ∧ g.name = q.name)) = false ∧ Frm Nix w1 wv) (fun jv _ => (i + 1) - (intOf jv).toNat)
        case atStart => exact ⟨0, by omega, rfl, by simp, HF5.out⟩
        case round =>
          obtain ⟨j, hj, rfl, ht2, hf2⟩ := hrel
          have HT2 := Lib.hid ht2
          have HF2 := Lib.hid hf2
          clear ht2 hf2
          by_cases hjk : j < (i + 1)
          · have hjl : j < x.fols.length := by omega
            have hkl : (i + 1) ≤ x.fols.length := by omega
            have hs1 := fun he => fst_step (p := fun g : Fol => decide (g.inn = q.inn ∧ g.name = q.name)) hjl HT2.out (decide_eq_false he)
            have hs2 := fun he => take_any_ (l := x.fols) (q := fun g : Fol => decide (g.inn = q.inn ∧ g.name = q.name)) (k := j) (i := (i + 1)) hjk hkl (decide_eq_true he)
            have hgc := fun y : FW (Frm Nix wr) => HCell.out y.w (HF1.out.trans (HF2.out.trans y.h)) j hjl
            obtain ⟨g, hg⟩ : ∃ g, x.fols[j] = g := ⟨_, rfl⟩
            rw [hg] at hs1 hs2 hgc
            have HS1 := Lib.hid hs1
            have HS2 := Lib.hid hs2
            have g0 := fun y : FW (Frm Nix wr) => hgc y 0 _ rfl
            have g1 := fun y : FW (Frm Nix wr) => hgc y 1 _ rfl
            have g2 := fun y : FW (Frm Nix wr) => hgc y 2 _ rfl
            have y0 := fun y : FW (Frm Nix wr) => r0 ⟨y.w, HF2.out.trans y.h⟩
            have y1 := fun y : FW (Frm Nix wr) => r1 ⟨y.w, HF2.out.trans y.h⟩
            have y2 := fun y : FW (Frm Nix wr) => r2 ⟨y.w, HF2.out.trans y.h⟩
            have v0 := fun y : FW (Frm Nix wr) => z0 ⟨y.w, HF2.out.trans y.h⟩
            have v1 := fun y : FW (Frm Nix wr) => z1 ⟨y.w, HF2.out.trans y.h⟩
            have v2 := fun y : FW (Frm Nix wr) => z2 ⟨y.w, HF2.out.trans y.h⟩
            have v3 := fun y : FW (Frm Nix wr) => z3 ⟨y.w, HF2.out.trans y.h⟩
            have v4 := fun y : FW (Frm Nix wr) => z4 ⟨y.w, HF2.out.trans y.h⟩
            have v5 := fun y : FW (Frm Nix wr) => z5 ⟨y.w, HF2.out.trans y.h⟩
            have v6 := fun y : FW (Frm Nix wr) => z6 ⟨y.w, HF2.out.trans y.h⟩
            have v7 := fun y : FW (Frm Nix wr) => z7 ⟨y.w, HF2.out.trans y.h⟩
            have v8 := fun y : FW (Frm Nix wr) => z8 ⟨y.w, HF2.out.trans y.h⟩
            dsimp only at g0 g1 g2 y0 y1 y2 v0 v1 v2 v3 v4 v5 v6 v7 v8
            rw [Nat.add_zero] at g0
            clear hg hgc hs1 hs2
            by_cases he0 : g.inn = q.inn
            case neg =>
              have hq2 : (g.inn == q.inn) = false := by simp [he0]
              go_wp2_with fail
              refine wp_region_class (Frm Nix wr) ((Frm.refl Nix wr).drew) (by kernel_rfl) (by kernel_rfl) ?_
              repeat (go_big_quiet_step (first
                | fail))
              refine wpQuiet_nil ?_
              rintro w7 ⟨⟨_, hfw7⟩, rfl⟩
              go_wp2
              go_roundw
              case rel => exact ⟨j + 1, by omega, by go_num, HS1.out (fun e => he0 e.1), HF2.out.trans hfw7⟩
              case measure => simp [intOf]; omega
            have hy0 : (g.inn == q.inn) = true := by rw [he0]; simp
            by_cases he1 : g.name = q.name
            case neg =>
              obtain ⟨hq1, hq2⟩ := str_ne he1
              go_wp2_with fail
              refine wp_region_class (Frm Nix wr) ((Frm.refl Nix wr).drew) (by kernel_rfl) (by kernel_rfl) ?_
              repeat (go_big_quiet_step (first
                | fail))
              refine wpQuiet_nil ?_
              rintro w7 ⟨⟨_, hfw7⟩, rfl⟩
              go_wp2
              go_roundw
              case rel => exact ⟨j + 1, by omega, by go_num, HS1.out (fun e => he1 e.2), HF2.out.trans hfw7⟩
              case measure => simp [intOf]; omega
            have hy1 : (g.name.toList == q.name.toList) = true := by rw [he1]; simp
            have HE := Lib.hid (HS2.out ⟨he0, he1⟩)
            go_wp2_with fail
            refine wp_region_class (Frm Nix wr) ((Frm.refl Nix wr).drew) (by kernel_rfl) (by kernel_rfl) ?_
            repeat (go_big_quiet_step (first
              | fail))
            refine wpQuiet_nil ?_
            rintro w7 ⟨⟨_, hfw7⟩, rfl⟩
            go_wp2
            go_ret
            exact ⟨ret_bool (HNo.out (by rw [HPq.out, HE.out]; simp)).symm, HF0.out.trans (HF.out.trans (HF1.out.trans (HF2.out.trans hfw7)))⟩
          · (have hji : j = i + 1 := (by omega)); subst hji
            have HE := HT2
            go_wp2
            go_roundw
            case rel => exact ⟨i + 1 + 1, by omega, by go_num, HStep.out (by rw [HPq.out, h0, hr, decide_eq_true hle, decide_eq_true hd7, HE.out]; rfl), HF.out.trans (HF1.out.trans HF2.out)⟩
            case measure => simp [intOf]; omega
    · obtain rfl : k = x.fols.length := by omega
      have HAll : Hid (allG P [] x.fols = true) := allG_yes fun j hj h => HT.out j hj h
      have HOk := Lib.hid (HYes0.out HAll.out)
      go_wp2
      simp only [peel, bodyOf, Tryz.f90]
      by_cases a1 : x.fols.length ≤ 64
      case neg =>
        have a2 : ¬ (x.fols.length : Int) ≤ 64 := by omega
        go_wp2
        go_ret
        exact ⟨ret_bool (by rw [HOk.out, decide_eq_false a1]; rfl), HF0.out.trans HF.out⟩
      have a2 : (x.fols.length : Int) ≤ 64 := by omega
      by_cases b1 : 0 ≤ x.tFol
      case neg =>
        go_wp2
        go_ret
        exact ⟨ret_bool (by rw [HOk.out, decide_eq_false (show ¬ (0 ≤ x.tFol ∧ x.tFol ≤ 1048576) by omega)]; simp), HF0.out.trans HF.out⟩
      by_cases b2 : x.tFol ≤ 1048576
      case neg =>
        go_wp2
        go_ret
        exact ⟨ret_bool (by rw [HOk.out, decide_eq_false (show ¬ (0 ≤ x.tFol ∧ x.tFol ≤ 1048576) by omega)]; simp), HF0.out.trans HF.out⟩
      go_wp2
      go_ret
      exact ⟨ret_bool (by rw [HOk.out, decide_eq_true a1, decide_eq_true (show (0 ≤ x.tFol ∧ x.tFol ≤ 1048576) by omega)]; rfl), HF0.out.trans HF.out⟩
end Go.Proofs.YtjbifjgeheigoaaGreat
end
section
namespace Go.Proofs.YtjbifjgeheigoaaGreat
open Go.ChangeShapes Go.WideShapes Go.ChangeAt Go.RowKit Go.Deep

theorem below_size_of_cell {w : World} {a : Addr} {v : Value} (h : w.cell? a = some v) : a.block < w.heap.size := World.block_lt_of_cell? w _ h
def NilOk (A : Option Addr) (n c : Nat) : Prop := A = none → n = 0 ∧ c = 0

section
variable {H : Type} {enc : TypeId × Value → H} {W : World} {base : Nat} {sp : Nat → Bool} {held : Bool} {fuel : Nat} {cs : List Value} {x : DataW H × List MemPlace}

theorem wf_i64 {n : Int} (h : (Lit.int .i64 n).wf = true) : -9223372036854775808 ≤ n ∧ n ≤ 9223372036854775807 := by
  simp [Lit.wf, IntKind.min, IntKind.max, IntKind.signed, IntKind.bits] at h
  omega
theorem vInt (h : DataW.trod enc Tryz.prog W base sp held fuel 3 cs = some x) : ∃ n, cs = [.int .i64 n] ∧ -9223372036854775808 ≤ n ∧ n ≤ 9223372036854775807 := by
  obtain ⟨n, h1, -, h3⟩ := DataW.trod_int Tryz.underlying3 h
  exact ⟨n, h1, wf_i64 h3⟩
theorem vStr (h : DataW.trod enc Tryz.prog W base sp held fuel 9 cs = some x) : ∃ s : ByteArray, cs = [.string s] ∧ s.size ≤ maxLen := by
  obtain ⟨s, h1, -, h3⟩ := DataW.trod_string Tryz.underlying9 h
  exact ⟨s, h1, h3⟩

def OldB (W : World) : Nat → Prop := fun k => k < W.heap.size

theorem rd_take {zs : List Int} {f : Int → Value} {a : Addr} {len : Nat} (hl : len ≤ zs.length) (hc : ∀ i, i < zs.length → W.cell? (a.add i) = some (f (zs.getD i 0))) : Rd W (OldB W) 1 (some a) len ((zs.take len).map f) := by
  refine ⟨by simp [Nat.min_eq_left hl], fun hn => ⟨a, rfl, ?_, ?_, fun j u hu => ?_⟩⟩
  · have := below_size_of_cell (hc 0 (by omega))
    rw [block_of_add] at this
    exact this
  · have := below_size_of_cell (hc 0 (by omega))
    rw [block_of_add] at this
    exact this
  · have hj : j < len := by
      have := (List.getElem?_eq_some_iff.1 hu).1
      simp at this
      omega
    rw [hc j (by omega), ← hu]
    simp only [List.getElem?_map, List.getElem?_take, hj, if_true, List.getD_eq_getElem?_getD]
    rw [List.getElem?_eq_getElem (by omega)]
    rfl

theorem rd_take_str {ss : List ByteArray} {a : Addr} {len : Nat} (hl : len ≤ ss.length) (hc : ∀ i, i < ss.length → W.cell? (a.add i) = some (.string (ss.getD i ByteArray.empty))) : Rd W (OldB W) 1 (some a) len ((ss.take len).map Value.string) := by
  refine ⟨by simp [Nat.min_eq_left hl], fun hn => ⟨a, rfl, ?_, ?_, fun j u hu => ?_⟩⟩
  · have := below_size_of_cell (hc 0 (by omega))
    rw [block_of_add] at this
    exact this
  · have := below_size_of_cell (hc 0 (by omega))
    rw [block_of_add] at this
    exact this
  · have hj : j < len := by
      have := (List.getElem?_eq_some_iff.1 hu).1
      simp at this
      omega
    rw [hc j (by omega), ← hu]
    simp only [List.getElem?_map, List.getElem?_take, hj, if_true, List.getD_eq_getElem?_getD]
    rw [List.getElem?_eq_getElem (by omega)]
    rfl

theorem vStrs (h : DataW.trod enc Tryz.prog W base sp held fuel 61 cs = some x) :
    ∃ A n c, ∃ l : List ByteArray, cs = [.slice A n c] ∧ l.length = n ∧ Rd W (OldB W) 1 A n (l.map Value.string) ∧ NilOk A n c ∧ n ≤ c ∧ c ≤ maxLen ∧ ∀ s ∈ l, s.size ≤ maxLen := by
  rcases open_strings Tryz.underlying61 Tryz.underlying9 (by kernel_rfl) h with ⟨rfl, -⟩ | ⟨a, len, cap, ss, rfl, -, hl, hm, hz, -, hc, hw⟩
  · exact ⟨none, 0, 0, [], rfl, rfl, Rd.none_, fun _ => ⟨rfl, rfl⟩, Nat.le_refl _, Nat.zero_le _, by simp⟩
  · have hzl : len ≤ ss.length := by rw [hz]; split <;> omega
    exact ⟨some a, len, cap, ss.take len, rfl, by simp [Nat.min_eq_left hzl], rd_take_str hzl hc, (fun e => by cases e), hl, hm, fun k hk => hw k (List.mem_of_mem_take hk)⟩

/-- what an event holds. -/
structure EvIs (e : Ev) : Prop where
  kind : -9223372036854775808 ≤ e.kind ∧ e.kind ≤ 9223372036854775807
  a : -9223372036854775808 ≤ e.a ∧ e.a ≤ 9223372036854775807
  b : -9223372036854775808 ≤ e.b ∧ e.b ≤ 9223372036854775807
  n : -9223372036854775808 ≤ e.n ∧ e.n ≤ 9223372036854775807
  s : e.s.size ≤ maxLen
  t : e.t.size ≤ maxLen
  u : e.u.size ≤ maxLen

theorem list7 {α : Type} {l : List α} (h : l.length = 7) : ∃ a b c d e f g, l = [a, b, c, d, e, f, g] := by
  match l, h with
  | [a, b, c, d, e, f, g], _ => exact ⟨a, b, c, d, e, f, g, rfl⟩

/-- one field of a struct that was read. -/
theorem field_of {n i t : Nat} {f : Field} {xs : List (DataW H × List MemPlace)} {fs : Array Field} (hg : ∀ (i : Nat) (f : Field), fs[i]? = some f → DataW.trod enc Tryz.prog W base sp held n f.type ((cs.drop f.offset).take (Tryz.prog.cellsOf f.type)) = xs[i]?) (hxl : xs.length = fs.size)
    (hi : fs[i]? = some f) (ht : f.type = t) (h1 : Tryz.prog.cellsOf t = 1) (ho : f.offset = i) {v : Value} (hv : (cs.drop i).take 1 = [v]) : ∃ y, DataW.trod enc Tryz.prog W base sp held n t [v] = some y := by
  have h := hg i f hi
  rw [ht, h1, ho, hv] at h
  have hlt : i < xs.length := by rw [hxl]; exact (Array.getElem?_eq_some_iff.1 hi).1
  exact ⟨xs[i], by rw [h, List.getElem?_eq_getElem hlt]⟩

theorem one_int : Tryz.prog.cellsOf 3 = 1 := by kernel_rfl
theorem one_string : Tryz.prog.cellsOf 9 = 1 := by kernel_rfl

theorem vEv (h : DataW.trod enc Tryz.prog W base sp held fuel 38 cs = some x) : ∃ o : Ev, cs = o.cells ∧ EvIs o := by
  have hC : Tryz.prog.cellsOf 38 = 7 := by kernel_rfl
  obtain ⟨xs, n, -, -, hlen, hxl, hg⟩ := DataW.trod_struct Tryz.underlying38 h
  rw [hC] at hlen
  obtain ⟨c0, c1, c2, c3, c4, c5, c6, rfl⟩ := list7 hlen
  obtain ⟨y0, h0⟩ := field_of (i := 0) hg hxl rfl rfl one_int rfl rfl
  obtain ⟨y1, h1⟩ := field_of (i := 1) hg hxl rfl rfl one_int rfl rfl
  obtain ⟨y2, h2⟩ := field_of (i := 2) hg hxl rfl rfl one_int rfl rfl
  obtain ⟨y3, h3⟩ := field_of (i := 3) hg hxl rfl rfl one_int rfl rfl
  obtain ⟨y4, h4⟩ := field_of (i := 4) hg hxl rfl rfl one_string rfl rfl
  obtain ⟨y5, h5⟩ := field_of (i := 5) hg hxl rfl rfl one_string rfl rfl
  obtain ⟨y6, h6⟩ := field_of (i := 6) hg hxl rfl rfl one_string rfl rfl
  obtain ⟨k, e0, w0⟩ := vInt h0
  obtain ⟨a, e1, w1⟩ := vInt h1
  obtain ⟨b, e2, w2⟩ := vInt h2
  obtain ⟨m, e3, w3⟩ := vInt h3
  obtain ⟨s, e4, w4⟩ := vStr h4
  obtain ⟨t, e5, w5⟩ := vStr h5
  obtain ⟨u, e6, w6⟩ := vStr h6
  injection e0 with e0; injection e1 with e1; injection e2 with e2; injection e3 with e3; injection e4 with e4; injection e5 with e5; injection e6 with e6
  subst e0; subst e1; subst e2; subst e3; subst e4; subst e5; subst e6
  exact ⟨⟨k, a, b, m, s, t, u⟩, rfl, ⟨w0, w1, w2, w3, w4, w5, w6⟩⟩

theorem evs_len (l : List Ev) : (l.flatMap Ev.cells).length = l.length * 7 := by
  induction l with
  | nil => rfl
  | cons o l ih =>
    rw [List.flatMap_cons, List.length_append, ih, List.length_cons]
    have : o.cells.length = 7 := rfl
    omega

theorem vEvs (h : DataW.trod enc Tryz.prog W base sp held fuel 22 cs = some x) :
    ∃ A n c, ∃ l : List Ev, cs = [.slice A n c] ∧ l.length = n ∧ Rd W (OldB W) 7 A n (l.flatMap Ev.cells) ∧ (∀ o ∈ l, EvIs o) ∧ NilOk A n c ∧ n ≤ c ∧ c ≤ maxLen := by
  have hC : Tryz.prog.cellsOf 38 = 7 := by kernel_rfl
  rcases open_slice Tryz.underlying22 h with ⟨rfl, -⟩ | ⟨a, len, cap, m, n, D, Pl, rfl, -, hl, hm, hmm, -, hi⟩
  · exact ⟨none, 0, 0, [], rfl, rfl, Rd.none_, by simp, fun _ => ⟨rfl, rfl⟩, Nat.le_refl _, Nat.zero_le _⟩
  · have hml : len ≤ m := by rw [hmm]; split <;> omega
    rw [hC] at hi
    have hex : ∀ i, i < len → ∃ o : Ev, EvIs o ∧ ∀ j u, o.cells[j]? = some u → W.cell? (a.add (i * 7 + j)) = some u := by
      intro i hlt
      obtain ⟨cs', hc, ht⟩ := hi i (by omega)
      obtain ⟨o, rfl, ho⟩ := vEv ht
      obtain ⟨-, -, hat⟩ := World.cells?_some hc
      refine ⟨o, ho, fun j u hu => ?_⟩
      have hj : j < 7 := by
        have := (List.getElem?_eq_some_iff.1 hu).1
        simpa [Ev.cells] using this
      rw [← add_of_add, hat j hj, hu]
    obtain ⟨l, hll, hlo⟩ : ∃ l : List Ev, l.length = len ∧ ∀ i (h : i < l.length), EvIs l[i] ∧ ∀ j u, l[i].cells[j]? = some u → W.cell? (a.add (i * 7 + j)) = some u := by
      clear hm hmm hi hl hml h
      induction len with
      | zero => exact ⟨[], rfl, fun i h => by simp at h⟩
      | succ len ih =>
        obtain ⟨l, h1, h2⟩ := ih fun i hi => hex i (by omega)
        obtain ⟨o, ho⟩ := hex len (by omega)
        refine ⟨l ++ [o], by simp [h1], fun i hi => ?_⟩
        by_cases e : i < l.length
        · rw [List.getElem_append_left e]
          exact h2 i e
        · have e2 : i = l.length := by simp at hi; omega
          subst e2
          rw [List.getElem_append_right (Nat.le_refl _)]
          simp only [Nat.sub_self, List.getElem_cons_zero]
          rw [h1]
          exact ho
    refine ⟨some a, len, cap, l, rfl, hll, ⟨by rw [evs_len, hll], fun hn => ⟨a, rfl, ?_, ?_, ?_⟩⟩, fun o ho => ?_, (fun e => by cases e), hl, hm⟩
    · have := below_size_of_cell ((hlo 0 (by omega)).2 0 _ rfl)
      rw [block_of_add] at this
      exact this
    · have := below_size_of_cell ((hlo 0 (by omega)).2 0 _ rfl)
      rw [block_of_add] at this
      exact this
    · intro j u hu
      have hsplit : ∀ (l : List Ev) (j : Nat) (u : Value), (l.flatMap Ev.cells)[j]? = some u → ∃ (i : Nat) (h : i < l.length) (r : Nat), j = i * 7 + r ∧ l[i].cells[r]? = some u := by
        intro l
        induction l with
        | nil => intro j u hu; simp at hu
        | cons o l ih =>
          intro j u hu
          rw [List.flatMap_cons] at hu
          have h7 : o.cells.length = 7 := rfl
          by_cases hj : j < 7
          · rw [List.getElem?_append_left (by omega)] at hu
            exact ⟨0, by simp, j, by omega, hu⟩
          · rw [List.getElem?_append_right (by omega), h7] at hu
            obtain ⟨i, hi, r, e, hr⟩ := ih _ _ hu
            exact ⟨i + 1, by simpa using hi, r, by omega, by simpa using hr⟩
      obtain ⟨i, hi, r, rfl, hr⟩ := hsplit l j u hu
      exact (hlo i hi).2 r u hr
    · obtain ⟨i, hi, rfl⟩ := List.mem_iff_getElem.1 ho
      exact (hlo i hi).1
end
end Go.Proofs.YtjbifjgeheigoaaGreat
end
section
set_option linter.unusedVariables false
set_option linter.unusedSimpArgs false
namespace Go.Proofs.YtjbifjgeheigoaaGreat
open Go.ChangeShapes Go.WideShapes Go.ChangeAt Go.RowKit Go.Deep

section
variable {H : Type} {enc : TypeId × Value → H} {W : World} {base : Nat} {sp : Nat → Bool} {held : Bool} {fuel : Nat} {cs : List Value} {x : DataW H × List MemPlace}

theorem slIn_of {s n c : Nat} {A : Option Addr} {xs : List Value} (h : Rd W (OldB W) s A n xs) (hn : NilOk A n c) (h1 : n ≤ c) (h2 : c ≤ maxLen) : SlIn W (OldB W) s (A, c) n xs := ⟨h, fun e => (hn e).2, h1, h2⟩
theorem vBool (h : DataW.trod enc Tryz.prog W base sp held fuel 4 cs = some x) : ∃ b : Bool, cs = [.bool b] := by
  obtain ⟨b, h1, -⟩ := DataW.trod_bool Tryz.underlying4 h
  exact ⟨b, h1⟩

/-- a slice of elements of s cells. -/
theorem vList {α : Type} {f : α → List Value} {OK : α → Prop} {s st et : Nat} (hs : ∀ a, (f a).length = s) (h0 : 0 < s) (hu : Tryz.prog.underlying st = some (.slice et)) (hC : Tryz.prog.cellsOf et = s)
    (hone : ∀ {fu : Nat} {cs : List Value} {x : DataW H × List MemPlace}, DataW.trod enc Tryz.prog W base sp held fu et cs = some x → ∃ o, cs = f o ∧ OK o) (h : DataW.trod enc Tryz.prog W base sp held fuel st cs = some x) :
    ∃ A n c, ∃ l : List α, cs = [.slice A n c] ∧ l.length = n ∧ SlIn W (OldB W) s (A, c) n (l.flatMap f) ∧ ∀ o ∈ l, OK o := by
  rcases open_slice hu h with ⟨rfl, -⟩ | ⟨a, len, cap, m, n, D, Pl, rfl, -, hl, hm, hmm, -, hi⟩
  · exact ⟨none, 0, 0, [], rfl, rfl, SlIn.none_ _ _ _, by simp⟩
  · have hml : len ≤ m := by rw [hmm]; split <;> omega
    rw [hC] at hi
    have hex : ∀ i, i < len → ∃ o : α, OK o ∧ ∀ j u, (f o)[j]? = some u → W.cell? (a.add (i * s + j)) = some u := by
      intro i hlt
      obtain ⟨cs', hc, ht⟩ := hi i (by omega)
      obtain ⟨o, rfl, ho⟩ := hone ht
      obtain ⟨-, -, hat⟩ := World.cells?_some hc
      refine ⟨o, ho, fun j u hu => ?_⟩
      have hj : j < s := by
        have := (List.getElem?_eq_some_iff.1 hu).1
        rwa [hs] at this
      rw [← add_of_add, hat j hj, hu]
    obtain ⟨l, hll, hlo⟩ : ∃ l : List α, l.length = len ∧ ∀ i (h : i < l.length), OK l[i] ∧ ∀ j u, (f l[i])[j]? = some u → W.cell? (a.add (i * s + j)) = some u := by
      clear hm hmm hi hl hml h
      induction len with
      | zero => exact ⟨[], rfl, fun i h => by simp at h⟩
      | succ len ih =>
        obtain ⟨l, h1, h2⟩ := ih fun i hi => hex i (by omega)
        obtain ⟨o, ho⟩ := hex len (by omega)
        refine ⟨l ++ [o], by simp [h1], fun i hi => ?_⟩
        by_cases e : i < l.length
        · rw [List.getElem_append_left e]
          exact h2 i e
        · have e2 : i = l.length := by simp at hi; omega
          subst e2
          rw [List.getElem_append_right (Nat.le_refl _)]
          simp only [Nat.sub_self, List.getElem_cons_zero]
          rw [h1]
          exact ho
    refine ⟨some a, len, cap, l, rfl, hll, ⟨⟨by rw [flat_len hs, hll], fun hn => ?_⟩, (fun e => by cases e), hl, hm⟩, fun o ho => ?_⟩
    · have hlt : 0 < (f (l[0]'(by omega))).length := by rw [hs]; exact h0
      have hb := below_size_of_cell ((hlo 0 (by omega)).2 0 _ (List.getElem?_eq_getElem hlt))
      rw [block_of_add] at hb
      refine ⟨a, rfl, hb, hb, ?_⟩
      intro j u hu
      have hj : j < l.length * s := by
        have := (List.getElem?_eq_some_iff.1 hu).1
        rwa [flat_len hs] at this
      have hq : j / s < l.length := Nat.div_lt_of_lt_mul (by rw [Nat.mul_comm]; exact hj)
      have hr : j % s < s := Nat.mod_lt _ h0
      have hjq : j / s * s + j % s = j := by rw [Nat.mul_comm]; exact Nat.div_add_mod j s
      rw [← hjq, flat_at hs l (j / s) hq (j % s) hr] at hu
      have := (hlo (j / s) hq).2 (j % s) u hu
      rwa [hjq] at this
    · obtain ⟨i, hi, rfl⟩ := List.mem_iff_getElem.1 ho
      exact (hlo i hi).1
theorem one_bool : Tryz.prog.cellsOf 4 = 1 := by kernel_rfl
theorem one_strs : Tryz.prog.cellsOf 61 = 1 := by kernel_rfl

theorem vlFol {α : Type} {l : List α} (h : l.length = 3) : ∃ c0 c1 c2, l = [c0, c1, c2] := by
  match l, h with
  | [c0, c1, c2], _ => exact ⟨c0, c1, c2, rfl⟩
theorem vFol (h : DataW.trod enc Tryz.prog W base sp held fuel 58 cs = some x) : ∃ o : Fol, cs = o.cells ∧ I64 o.id ∧ I64 o.inn := by
  have hC : Tryz.prog.cellsOf 58 = 3 := by kernel_rfl
  obtain ⟨xs, n, -, -, hlen, hxl, hg⟩ := DataW.trod_struct Tryz.underlying58 h
  rw [hC] at hlen
  obtain ⟨c0, c1, c2, rfl⟩ := vlFol hlen
  obtain ⟨y0, h0⟩ := field_of (i := 0) hg hxl rfl rfl one_int rfl rfl
  obtain ⟨y1, h1⟩ := field_of (i := 1) hg hxl rfl rfl one_int rfl rfl
  obtain ⟨y2, h2⟩ := field_of (i := 2) hg hxl rfl rfl one_string rfl rfl
  obtain ⟨a0, e0, w0⟩ := vInt h0
  obtain ⟨a1, e1, w1⟩ := vInt h1
  obtain ⟨a2, e2, w2⟩ := vStr h2
  injection e0 with e0
  subst e0
  injection e1 with e1
  subst e1
  injection e2 with e2
  subst e2
  exact ⟨⟨a0, a1, a2⟩, rfl, w0, w1⟩
theorem vlFee {α : Type} {l : List α} (h : l.length = 4) : ∃ c0 c1 c2 c3, l = [c0, c1, c2, c3] := by
  match l, h with
  | [c0, c1, c2, c3], _ => exact ⟨c0, c1, c2, c3, rfl⟩
theorem vFee (h : DataW.trod enc Tryz.prog W base sp held fuel 60 cs = some x) : ∃ o : Fee, cs = o.cells ∧ I64 o.id ∧ I64 o.inn := by
  have hC : Tryz.prog.cellsOf 60 = 4 := by kernel_rfl
  obtain ⟨xs, n, -, -, hlen, hxl, hg⟩ := DataW.trod_struct Tryz.underlying60 h
  rw [hC] at hlen
  obtain ⟨c0, c1, c2, c3, rfl⟩ := vlFee hlen
  obtain ⟨y0, h0⟩ := field_of (i := 0) hg hxl rfl rfl one_int rfl rfl
  obtain ⟨y1, h1⟩ := field_of (i := 1) hg hxl rfl rfl one_int rfl rfl
  obtain ⟨y2, h2⟩ := field_of (i := 2) hg hxl rfl rfl one_string rfl rfl
  obtain ⟨y3, h3⟩ := field_of (i := 3) hg hxl rfl rfl one_string rfl rfl
  obtain ⟨a0, e0, w0⟩ := vInt h0
  obtain ⟨a1, e1, w1⟩ := vInt h1
  obtain ⟨a2, e2, w2⟩ := vStr h2
  obtain ⟨a3, e3, w3⟩ := vStr h3
  injection e0 with e0
  subst e0
  injection e1 with e1
  subst e1
  injection e2 with e2
  subst e2
  injection e3 with e3
  subst e3
  exact ⟨⟨a0, a1, a2, a3⟩, rfl, w0, w1⟩
theorem vlSea {α : Type} {l : List α} (h : l.length = 3) : ∃ c0 c1 c2, l = [c0, c1, c2] := by
  match l, h with
  | [c0, c1, c2], _ => exact ⟨c0, c1, c2, rfl⟩
theorem vSea (h : DataW.trod enc Tryz.prog W base sp held fuel 65 cs = some x) : ∃ o : Sea, cs = o.cells ∧ I64 o.id := by
  have hC : Tryz.prog.cellsOf 65 = 3 := by kernel_rfl
  obtain ⟨xs, n, -, -, hlen, hxl, hg⟩ := DataW.trod_struct Tryz.underlying65 h
  rw [hC] at hlen
  obtain ⟨c0, c1, c2, rfl⟩ := vlSea hlen
  obtain ⟨y0, h0⟩ := field_of (i := 0) hg hxl rfl rfl one_int rfl rfl
  obtain ⟨y1, h1⟩ := field_of (i := 1) hg hxl rfl rfl one_string rfl rfl
  obtain ⟨y2, h2⟩ := field_of (i := 2) hg hxl rfl rfl one_string rfl rfl
  obtain ⟨a0, e0, w0⟩ := vInt h0
  obtain ⟨a1, e1, w1⟩ := vStr h1
  obtain ⟨a2, e2, w2⟩ := vStr h2
  injection e0 with e0
  subst e0
  injection e1 with e1
  subst e1
  injection e2 with e2
  subst e2
  exact ⟨⟨a0, a1, a2⟩, rfl, w0⟩
theorem vlItm {α : Type} {l : List α} (h : l.length = 9) : ∃ c0 c1 c2 c3 c4 c5 c6 c7 c8, l = [c0, c1, c2, c3, c4, c5, c6, c7, c8] := by
  match l, h with
  | [c0, c1, c2, c3, c4, c5, c6, c7, c8], _ => exact ⟨c0, c1, c2, c3, c4, c5, c6, c7, c8, rfl⟩
theorem vItm (h : DataW.trod enc Tryz.prog W base sp held fuel 63 cs = some x) : ∃ o : Sl × Itm, cs = itmC o ∧ (I64 o.2.id ∧ I64 o.2.feed) ∧ SlIn W (OldB W) 1 o.1 o.2.tags.length (o.2.tags.map Value.string) := by
  have hC : Tryz.prog.cellsOf 63 = 9 := by kernel_rfl
  obtain ⟨xs, n, -, -, hlen, hxl, hg⟩ := DataW.trod_struct Tryz.underlying63 h
  rw [hC] at hlen
  obtain ⟨c0, c1, c2, c3, c4, c5, c6, c7, c8, rfl⟩ := vlItm hlen
  obtain ⟨y0, h0⟩ := field_of (i := 0) hg hxl rfl rfl one_int rfl rfl
  obtain ⟨y1, h1⟩ := field_of (i := 1) hg hxl rfl rfl one_int rfl rfl
  obtain ⟨y2, h2⟩ := field_of (i := 2) hg hxl rfl rfl one_int rfl rfl
  obtain ⟨y3, h3⟩ := field_of (i := 3) hg hxl rfl rfl one_string rfl rfl
  obtain ⟨y4, h4⟩ := field_of (i := 4) hg hxl rfl rfl one_string rfl rfl
  obtain ⟨y5, h5⟩ := field_of (i := 5) hg hxl rfl rfl one_string rfl rfl
  obtain ⟨y6, h6⟩ := field_of (i := 6) hg hxl rfl rfl one_bool rfl rfl
  obtain ⟨y7, h7⟩ := field_of (i := 7) hg hxl rfl rfl one_bool rfl rfl
  obtain ⟨y8, h8⟩ := field_of (i := 8) hg hxl rfl rfl one_strs rfl rfl
  obtain ⟨a0, e0, w0⟩ := vInt h0
  obtain ⟨a1, e1, w1⟩ := vInt h1
  obtain ⟨a2, e2, w2⟩ := vInt h2
  obtain ⟨a3, e3, w3⟩ := vStr h3
  obtain ⟨a4, e4, w4⟩ := vStr h4
  obtain ⟨a5, e5, w5⟩ := vStr h5
  obtain ⟨a6, e6⟩ := vBool h6
  obtain ⟨a7, e7⟩ := vBool h7
  obtain ⟨A, nn, cc, a8, e8, hn, hr, hk, k1, k2, hw⟩ := vStrs h8
  injection e0 with e0
  subst e0
  injection e1 with e1
  subst e1
  injection e2 with e2
  subst e2
  injection e3 with e3
  subst e3
  injection e4 with e4
  subst e4
  injection e5 with e5
  subst e5
  injection e6 with e6
  subst e6
  injection e7 with e7
  subst e7
  injection e8 with e8
  subst e8
  subst hn
  exact ⟨⟨(A, cc), ⟨a0, a1, a2, a3, a4, a5, a6, a7, a8⟩⟩, rfl, ⟨w0, w1⟩, slIn_of hr hk k1 k2⟩
theorem vFols (h : DataW.trod enc Tryz.prog W base sp held fuel 25 cs = some x) : ∃ A n c, ∃ l : List Fol, cs = [.slice A n c] ∧ l.length = n ∧ SlIn W (OldB W) 3 (A, c) n (l.flatMap Fol.cells) ∧ ∀ o ∈ l, I64 o.id ∧ I64 o.inn :=
  vList Fol.clen (by decide) Tryz.underlying25 (by kernel_rfl) (fun h => vFol h) h
theorem vFees (h : DataW.trod enc Tryz.prog W base sp held fuel 26 cs = some x) : ∃ A n c, ∃ l : List Fee, cs = [.slice A n c] ∧ l.length = n ∧ SlIn W (OldB W) 4 (A, c) n (l.flatMap Fee.cells) ∧ ∀ o ∈ l, I64 o.id ∧ I64 o.inn :=
  vList Fee.clen (by decide) Tryz.underlying26 (by kernel_rfl) (fun h => vFee h) h
theorem vSeas (h : DataW.trod enc Tryz.prog W base sp held fuel 28 cs = some x) : ∃ A n c, ∃ l : List Sea, cs = [.slice A n c] ∧ l.length = n ∧ SlIn W (OldB W) 3 (A, c) n (l.flatMap Sea.cells) ∧ ∀ o ∈ l, I64 o.id :=
  vList Sea.clen (by decide) Tryz.underlying28 (by kernel_rfl) (fun h => vSea h) h
theorem vItms (h : DataW.trod enc Tryz.prog W base sp held fuel 27 cs = some x) : ∃ A n c, ∃ l : List (Sl × Itm), cs = [.slice A n c] ∧ l.length = n ∧ SlIn W (OldB W) 9 (A, c) n (l.flatMap itmC) ∧ ∀ o ∈ l, (I64 o.2.id ∧ I64 o.2.feed) ∧ SlIn W (OldB W) 1 o.1 o.2.tags.length (o.2.tags.map Value.string) :=
  vList itmC_len (by decide) Tryz.underlying27 (by kernel_rfl) (fun h => vItm h) h
theorem one_fols : Tryz.prog.cellsOf 25 = 1 := by kernel_rfl
theorem one_fees : Tryz.prog.cellsOf 26 = 1 := by kernel_rfl
theorem one_itms : Tryz.prog.cellsOf 27 = 1 := by kernel_rfl
theorem one_seas : Tryz.prog.cellsOf 28 = 1 := by kernel_rfl
/-- what a state as an argument holds. -/
structure StIs (W : World) (fo fe it se : Sl) (ts : List (Sl × Itm)) (x : St) : Prop where
  st : StIn W (OldB W) fo fe it se ts x
  nums : StNums x
theorem vSt (h : DataW.trod enc Tryz.prog W base sp held fuel 30 cs = some x) : ∃ fo fe it se : Sl, ∃ ts : List (Sl × Itm), ∃ s : St, Value.agg cs.toArray = stV fo fe it se s ∧ StIs W fo fe it se ts s := by
  have hC : Tryz.prog.cellsOf 30 = 9 := by kernel_rfl
  obtain ⟨xs, n, -, -, hlen, hxl, hg⟩ := DataW.trod_struct Tryz.underlying30 h
  rw [hC] at hlen
  obtain ⟨c0, c1, c2, c3, c4, c5, c6, c7, c8, rfl⟩ := vlItm hlen
  obtain ⟨y0, h0⟩ := field_of (i := 0) hg hxl rfl rfl one_int rfl rfl
  obtain ⟨y1, h1⟩ := field_of (i := 1) hg hxl rfl rfl one_fols rfl rfl
  obtain ⟨y2, h2⟩ := field_of (i := 2) hg hxl rfl rfl one_fees rfl rfl
  obtain ⟨y3, h3⟩ := field_of (i := 3) hg hxl rfl rfl one_itms rfl rfl
  obtain ⟨y4, h4⟩ := field_of (i := 4) hg hxl rfl rfl one_seas rfl rfl
  obtain ⟨y5, h5⟩ := field_of (i := 5) hg hxl rfl rfl one_int rfl rfl
  obtain ⟨y6, h6⟩ := field_of (i := 6) hg hxl rfl rfl one_int rfl rfl
  obtain ⟨y7, h7⟩ := field_of (i := 7) hg hxl rfl rfl one_int rfl rfl
  obtain ⟨y8, h8⟩ := field_of (i := 8) hg hxl rfl rfl one_int rfl rfl
  obtain ⟨a0, e0, w0⟩ := vInt h0
  obtain ⟨A1, n1, k1, l1, e1, hn1, hs1, ho1⟩ := vFols h1
  obtain ⟨A2, n2, k2, l2, e2, hn2, hs2, ho2⟩ := vFees h2
  obtain ⟨A3, n3, k3, l3, e3, hn3, hs3, ho3⟩ := vItms h3
  obtain ⟨A4, n4, k4, l4, e4, hn4, hs4, ho4⟩ := vSeas h4
  obtain ⟨a5, e5, w5⟩ := vInt h5
  obtain ⟨a6, e6, w6⟩ := vInt h6
  obtain ⟨a7, e7, w7⟩ := vInt h7
  obtain ⟨a8, e8, w8⟩ := vInt h8
  injection e0 with e0; injection e1 with e1; injection e2 with e2; injection e3 with e3; injection e4 with e4; injection e5 with e5; injection e6 with e6; injection e7 with e7; injection e8 with e8
  subst e0; subst e1; subst e2; subst e3; subst e4; subst e5; subst e6; subst e7; subst e8
  subst hn1; subst hn2; subst hn3; subst hn4
  refine ⟨(A1, k1), (A2, k2), (A3, k3), (A4, k4), l3, ⟨a0, l1, l2, l3.map (·.2), l4, a5, a6, a7, a8⟩, ?_, ⟨hs1, hs2, ⟨hs3, fun p hp => (ho3 p hp).2⟩, rfl, hs4⟩, ⟨ho1, ho2, fun t ht => ?_, ho4, w5, w6, w7, w8⟩⟩
  · unfold stV
    simp
  · obtain ⟨p, hp, rfl⟩ := List.mem_map.1 ht
    exact (ho3 p hp).1
end
end Go.Proofs.YtjbifjgeheigoaaGreat
end
