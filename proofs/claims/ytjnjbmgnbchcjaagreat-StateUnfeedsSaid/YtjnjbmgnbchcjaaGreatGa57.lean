/-
  Contracts: Folder, Feed, Search, Clock, Top of a state.
-/
import Derived.Test.YtjnjbmgnbchcjaaGreatGa49
import Derived.Test.YtjnjbmgnbchcjaaGreatGa12
import Derived.Test.YtjnjbmgnbchcjaaGreatGa51
section
set_option linter.unusedVariables false
set_option linter.unusedSimpArgs false
namespace Go.Proofs.YtjnjbmgnbchcjaaGreat
open Go.RowKit Go.Lib

theorem putL3 (a b c x y z : Value) : putL #[a, b, c] 0 [x, y, z] = #[x, y, z] := by simp [putL]
theorem putL4 (a b c d x y z u : Value) : putL #[a, b, c, d] 0 [x, y, z, u] = #[x, y, z, u] := by simp [putL]

set_option maxRecDepth 100000 in
set_option maxHeartbeats 4000000 in
theorem FolderS_any {w : World} {g : Nat} {M : Ms} {x : St} (h : StAt w g M x) {i : Int} (hi : I64 i) :
    Calls Tryz.prog 49 #[.pointer (some ⟨g, 0, none⟩), .int .i64 i] w fun e w' => e = .returned (.tuple #[.agg #[.int .i64 (folAt x i).id, .int .i64 (folAt x i).inn, .string (folAt x i).name], .bool (isI Fol.id i x.fols)]) ∧ Frm Nix w w' := by
  obtain ⟨w0, hw0⟩ : ∃ w0, w0 = w.alloc (.cells #[.int .i64 0, .int .i64 0, .string ⟨#[]⟩] 75) := ⟨_, rfl⟩
  have f0 : Frm Nix w w0 := by rw [hw0]; exact (Frm.refl Nix w).alloc _
  have hz0 : Blk w0 w.heap.size 75 #[.int .i64 0, .int .i64 0, .string ⟨#[]⟩] := by rw [hw0]; exact Blk.new w _ _
  have h0 := h.nix f0
  obtain ⟨c0, c1, c2, c3, c4, c5, c6, c7, c8, -⟩ := h0.cells
  have hl2 := h0.folLook2 hi
  generalize folAt x i = t at *
  generalize isI Fol.id i x.fols = bb at *
  obtain ⟨w1, hw1⟩ : ∃ w1, w1 = w0.alloc (.cells #[.int .i64 t.id, .int .i64 t.inn, .string t.name] 75) := ⟨_, rfl⟩
  have f1 : Frm Nix w0 w1 := by rw [hw1]; exact (Frm.refl Nix w0).alloc _
  have hz1 := hz0.frm f1 id
  have hb1 : Blk w1 w0.heap.size 75 #[.int .i64 t.id, .int .i64 t.inn, .string t.name] := by rw [hw1]; exact Blk.new w0 _ _
  have q0 := hb1.cell 0
  have q1 := hb1.cell 1
  have q2 := hb1.cell 2
  have g0 := hz1.frozen 0
  have g1 := hz1.frozen 1
  have g2 := hz1.frozen 2
  simp at q0 q1 q2
  have HW0 := Lib.hid hw0
  have HW1 := Lib.hid hw1
  have HZ := Lib.hid hz1
  have HF := Lib.hid (f0.trans f1)
  clear h h0 f0 f1 hz0 hz1 hb1
  rw [hw0] at c0 c1 c2 c3 c4 c5 c6 c7 c8 hl2
  rw [hw1, hw0] at q0 q1 q2 g0 g1 g2
  clear hw0 hw1
  go_enter Tryz.func49, Tryz.ntmps49
  go_wp2
  refine bodyPost_ret (Folder_nret ((Blk.new w 75 #[.int .i64 t.id, .int .i64 t.inn, .string t.name]).frm ((Frm.refl Nix _).alloc _) id) rfl rfl) rfl ?_
  exact ⟨rfl, ((Frm.refl Nix w).alloc _).alloc _⟩
set_option maxRecDepth 100000 in
set_option maxHeartbeats 4000000 in
theorem FeedS_any {w : World} {g : Nat} {M : Ms} {x : St} (h : StAt w g M x) {i : Int} (hi : I64 i) :
    Calls Tryz.prog 38 #[.pointer (some ⟨g, 0, none⟩), .int .i64 i] w fun e w' => e = .returned (.tuple #[.agg #[.int .i64 (feeAt x i).id, .int .i64 (feeAt x i).inn, .string (feeAt x i).url, .string (feeAt x i).title], .bool (isI Fee.id i x.fees)]) ∧ Frm Nix w w' := by
  obtain ⟨w0, hw0⟩ : ∃ w0, w0 = w.alloc (.cells #[.int .i64 0, .int .i64 0, .string ⟨#[]⟩, .string ⟨#[]⟩] 63) := ⟨_, rfl⟩
  have f0 : Frm Nix w w0 := by rw [hw0]; exact (Frm.refl Nix w).alloc _
  have hz0 : Blk w0 w.heap.size 63 #[.int .i64 0, .int .i64 0, .string ⟨#[]⟩, .string ⟨#[]⟩] := by rw [hw0]; exact Blk.new w _ _
  have h0 := h.nix f0
  obtain ⟨c0, c1, c2, c3, c4, c5, c6, c7, c8, -⟩ := h0.cells
  have hl2 := h0.feeLook2 hi
  generalize feeAt x i = t at *
  generalize isI Fee.id i x.fees = bb at *
  obtain ⟨w1, hw1⟩ : ∃ w1, w1 = w0.alloc (.cells #[.int .i64 t.id, .int .i64 t.inn, .string t.url, .string t.title] 63) := ⟨_, rfl⟩
  have f1 : Frm Nix w0 w1 := by rw [hw1]; exact (Frm.refl Nix w0).alloc _
  have hz1 := hz0.frm f1 id
  have hb1 : Blk w1 w0.heap.size 63 #[.int .i64 t.id, .int .i64 t.inn, .string t.url, .string t.title] := by rw [hw1]; exact Blk.new w0 _ _
  have q0 := hb1.cell 0
  have q1 := hb1.cell 1
  have q2 := hb1.cell 2
  have q3 := hb1.cell 3
  have g0 := hz1.frozen 0
  have g1 := hz1.frozen 1
  have g2 := hz1.frozen 2
  have g3 := hz1.frozen 3
  simp at q0 q1 q2 q3
  have HW0 := Lib.hid hw0
  have HW1 := Lib.hid hw1
  have HZ := Lib.hid hz1
  have HF := Lib.hid (f0.trans f1)
  clear h h0 f0 f1 hz0 hz1 hb1
  rw [hw0] at c0 c1 c2 c3 c4 c5 c6 c7 c8 hl2
  rw [hw1, hw0] at q0 q1 q2 q3 g0 g1 g2 g3
  clear hw0 hw1
  go_enter Tryz.func38, Tryz.ntmps38
  go_wp2
  refine bodyPost_ret (Feed_nret ((Blk.new w 63 #[.int .i64 t.id, .int .i64 t.inn, .string t.url, .string t.title]).frm ((Frm.refl Nix _).alloc _) id) rfl rfl) rfl ?_
  exact ⟨rfl, ((Frm.refl Nix w).alloc _).alloc _⟩
set_option maxRecDepth 100000 in
set_option maxHeartbeats 4000000 in
theorem SearchS_any {w : World} {g : Nat} {M : Ms} {x : St} (h : StAt w g M x) {i : Int} (hi : I64 i) :
    Calls Tryz.prog 51 #[.pointer (some ⟨g, 0, none⟩), .int .i64 i] w fun e w' => e = .returned (.tuple #[.agg #[.int .i64 (seaAt x i).id, .string (seaAt x i).name, .string (seaAt x i).query], .bool (isI Sea.id i x.seas)]) ∧ Frm Nix w w' := by
  obtain ⟨w0, hw0⟩ : ∃ w0, w0 = w.alloc (.cells #[.int .i64 0, .string ⟨#[]⟩, .string ⟨#[]⟩] 77) := ⟨_, rfl⟩
  have f0 : Frm Nix w w0 := by rw [hw0]; exact (Frm.refl Nix w).alloc _
  have hz0 : Blk w0 w.heap.size 77 #[.int .i64 0, .string ⟨#[]⟩, .string ⟨#[]⟩] := by rw [hw0]; exact Blk.new w _ _
  have h0 := h.nix f0
  obtain ⟨c0, c1, c2, c3, c4, c5, c6, c7, c8, -⟩ := h0.cells
  have hl2 := h0.seaLook2 hi
  generalize seaAt x i = t at *
  generalize isI Sea.id i x.seas = bb at *
  obtain ⟨w1, hw1⟩ : ∃ w1, w1 = w0.alloc (.cells #[.int .i64 t.id, .string t.name, .string t.query] 77) := ⟨_, rfl⟩
  have f1 : Frm Nix w0 w1 := by rw [hw1]; exact (Frm.refl Nix w0).alloc _
  have hz1 := hz0.frm f1 id
  have hb1 : Blk w1 w0.heap.size 77 #[.int .i64 t.id, .string t.name, .string t.query] := by rw [hw1]; exact Blk.new w0 _ _
  have q0 := hb1.cell 0
  have q1 := hb1.cell 1
  have q2 := hb1.cell 2
  have g0 := hz1.frozen 0
  have g1 := hz1.frozen 1
  have g2 := hz1.frozen 2
  simp at q0 q1 q2
  have HW0 := Lib.hid hw0
  have HW1 := Lib.hid hw1
  have HZ := Lib.hid hz1
  have HF := Lib.hid (f0.trans f1)
  clear h h0 f0 f1 hz0 hz1 hb1
  rw [hw0] at c0 c1 c2 c3 c4 c5 c6 c7 c8 hl2
  rw [hw1, hw0] at q0 q1 q2 g0 g1 g2
  clear hw0 hw1
  go_enter Tryz.func51, Tryz.ntmps51
  go_wp2
  refine bodyPost_ret (Search_nret ((Blk.new w 77 #[.int .i64 t.id, .string t.name, .string t.query]).frm ((Frm.refl Nix _).alloc _) id) rfl rfl) rfl ?_
  exact ⟨rfl, ((Frm.refl Nix w).alloc _).alloc _⟩
set_option maxRecDepth 100000 in
set_option maxHeartbeats 4000000 in
theorem Clock_any {w : World} {g : Nat} {M : Ms} {x : St} (h : StAt w g M x) : Calls Tryz.prog 40 #[.pointer (some ⟨g, 0, none⟩)] w fun e w' => e = .returned (.int .i64 x.clock) ∧ w = w' := by
  obtain ⟨c0, -⟩ := h.cells
  clear h
  go_enter Tryz.func40, Tryz.ntmps40
  go_wp2
  go_ret
  exact ⟨rfl, rfl⟩
/-- the greatest ID of what events of a kind make. -/
def topS (x : St) (k : Int) : Int := if k = 1 then x.tFol else if k = 3 then x.tFee else if k = 7 then x.tItm else if k = 11 then x.tSea else 0
set_option maxRecDepth 100000 in
set_option maxHeartbeats 4000000 in
theorem Top_any {w : World} {g : Nat} {M : Ms} {x : St} (h : StAt w g M x) (k : Int) : Calls Tryz.prog 43 #[.pointer (some ⟨g, 0, none⟩), .int .i64 k] w fun e w' => e = .returned (.int .i64 (topS x k)) ∧ w = w' := by
  obtain ⟨c0, c1, c2, c3, c4, c5, c6, c7, c8, c9, c10, c11, c12⟩ := h.cells
  have HT : Hid (topS x k = if k = 1 then x.tFol else if k = 3 then x.tFee else if k = 7 then x.tItm else if k = 11 then x.tSea else 0) := rfl
  clear h
  by_cases h1 : k = 1
  · rw [if_pos h1] at HT
    subst h1
    go_enter Tryz.func43, Tryz.ntmps43
    go_wp2
    go_ret
    exact ⟨by rw [HT.out] <;> rfl, rfl⟩
  rw [if_neg h1] at HT
  by_cases h2 : k = 3
  · rw [if_pos h2] at HT
    subst h2
    go_enter Tryz.func43, Tryz.ntmps43
    go_wp2
    go_ret
    exact ⟨by rw [HT.out] <;> rfl, rfl⟩
  rw [if_neg h2] at HT
  by_cases h3 : k = 7
  · rw [if_pos h3] at HT
    subst h3
    go_enter Tryz.func43, Tryz.ntmps43
    go_wp2
    go_ret
    exact ⟨by rw [HT.out] <;> rfl, rfl⟩
  rw [if_neg h3] at HT
  by_cases h4 : k = 11
  · rw [if_pos h4] at HT
    subst h4
    go_enter Tryz.func43, Tryz.ntmps43
    go_wp2
    go_ret
    exact ⟨by rw [HT.out] <;> rfl, rfl⟩
  rw [if_neg h4] at HT
  go_enter Tryz.func43, Tryz.ntmps43
  go_wp2
  go_ret
  exact ⟨by rw [HT.out] <;> rfl, rfl⟩
end Go.Proofs.YtjnjbmgnbchcjaaGreat
end
section
set_option linter.unusedVariables false
set_option linter.unusedSimpArgs false
namespace Go.Proofs.YtjnjbmgnbchcjaaGreat

section
variable {α : Type} {p : α → Bool} {l : List α} {k : Nat}
theorem fst_step (h : k < l.length) (hn : (l.take k).any p = false) (he : p l[k] = false) : (l.take (k + 1)).any p = false := by
  rw [List.take_succ_eq_append_getElem h, List.any_append, hn]
  simp [he]
theorem fst_any (h : k < l.length) (he : p l[k] = true) : l.any p = true := List.any_eq_true.2 ⟨_, List.getElem_mem h, he⟩
theorem fst_find (h : k < l.length) (hn : (l.take k).any p = false) (he : p l[k] = true) : l.find? p = some l[k] := by
  have e : l = l.take k ++ l.drop k := (List.take_append_drop k l).symm
  rw [List.drop_eq_getElem_cons h] at e
  conv => lhs; rw [e]
  rw [List.find?_append, List.find?_eq_none.2 (by simpa using hn), List.find?_cons_of_pos (by simpa using he)]
  simp
theorem fst_idx (h : k < l.length) (hn : (l.take k).any p = false) (he : p l[k] = true) : l.findIdx p = k := by
  rw [List.findIdx_eq h]
  refine ⟨he, fun j hj => ?_⟩
  have := List.any_eq_false.1 hn l[j] (List.mem_take_iff_getElem.2 ⟨j, by omega, rfl⟩)
  simpa using this
theorem fst_none (hn : l.any p = false) : l.find? p = none := List.find?_eq_none.2 (by simpa using hn)
theorem fil_yes (h : k < l.length) (he : p l[k] = true) : ((l.take k).filter p).length < (l.filter p).length ∧ (l.filter p)[((l.take k).filter p).length]? = some l[k] := by
  have e : l = l.take k ++ l.drop k := (List.take_append_drop k l).symm
  rw [List.drop_eq_getElem_cons h] at e
  have e2 : l.filter p = (l.take k).filter p ++ l[k] :: (l.drop (k + 1)).filter p := by
    conv => lhs; rw [e]
    rw [List.filter_append, List.filter_cons_of_pos he]
  rw [e2]
  refine ⟨by simp, ?_⟩
  rw [List.getElem?_append_right (Nat.le_refl _)]
  simp
theorem fil_len_yes (h : k < l.length) (he : p l[k] = true) : ((l.take (k + 1)).filter p).length = ((l.take k).filter p).length + 1 := by
  rw [List.take_succ_eq_append_getElem h, List.filter_append]
  simp [he]
theorem fil_len_no (h : k < l.length) (he : p l[k] = false) : ((l.take (k + 1)).filter p).length = ((l.take k).filter p).length := by
  rw [List.take_succ_eq_append_getElem h, List.filter_append]
  simp [he]
end
/-- where a thing stands; -1: it is not there. -/
def posR {α : Type} (g : α → Int) (id : Int) (l : List α) : Int := if isI g id l = true then (posI g id l : Int) else -1
section
variable {α : Type} {g : α → Int} {id : Int} {l : List α} {k : Nat}
theorem posR_hit (h : k < l.length) (hn : isI g id (l.take k) = false) (he : g l[k] = id) : posR g id l = k := by
  have h1 : isI g id l = true := fst_any h (by simpa using he)
  have h2 : posI g id l = k := fst_idx h hn (by simpa using he)
  unfold posR
  rw [h1, if_pos rfl, h2]
theorem posR_end (hn : isI g id l = false) : posR g id l = -1 := by
  unfold posR
  rw [hn]
  rfl
theorem isI_step (h : k < l.length) (hn : isI g id (l.take k) = false) (he : ¬ g l[k] = id) : isI g id (l.take (k + 1)) = false := fst_step h hn (by simpa using he)
theorem posR_at (h : isI g id l = true) : ∃ (k : Nat) (hk : k < l.length), posR g id l = k ∧ g l[k] = id ∧ atI g id l = some l[k] ∧ posI g id l = k := by
  have hk : posI g id l < l.length := by
    unfold posI
    rw [List.findIdx_lt_length]
    simpa [isI] using h
  refine ⟨posI g id l, hk, by unfold posR; rw [if_pos h], ?_, ?_, rfl⟩
  · have := List.findIdx_getElem (xs := l) (p := fun x => decide (g x = id)) (w := hk)
    exact of_decide_eq_true this
  · have h1 := List.findIdx_getElem (xs := l) (p := fun x => decide (g x = id)) (w := hk)
    refine fst_find hk ?_ h1
    refine List.any_eq_false.2 fun a ha => ?_
    obtain ⟨j, hj, rfl⟩ := List.mem_take_iff_getElem.1 ha
    have := List.not_of_lt_findIdx (xs := l) (p := fun x => decide (g x = id)) (i := j) (by unfold posI at hj; omega)
    simpa using this
theorem posR_neg : decide (posR g id l < 0) = !isI g id l := by
  unfold posR
  cases isI g id l <;> simp
theorem posR_nonneg : decide (0 ≤ posR g id l) = isI g id l := by
  unfold posR
  cases isI g id l <;> simp
end

def unE (feed : Int) : Ev := ⟨4, feed, 0, 0, eS, eS, eS⟩
theorem unE_ok (feed : Int) : evOk (unE feed) = idOk feed := by simp [evOk, evRight, evUsed, unE]
theorem unE_fits {x : St} (h : StP x) (feed : Int) : fits x (unE feed) = isI Fee.id feed x.fees := by
  cases hi : isI Fee.id feed x.fees with
  | true =>
    obtain ⟨f, hf, he⟩ := isI_iff.1 hi
    have := h.eId hf
    exact (fits45 (e := unE feed) (.inl rfl) (by rw [unE_ok]; exact idOk_iff.2 (by omega))).2 ⟨f, hf, he⟩
  | false =>
    cases ho : idOk feed with
    | true =>
      refine Bool.eq_false_iff.2 fun hf => ?_
      obtain ⟨f, hf, he⟩ := (fits45 (e := unE feed) (.inl rfl) (by rw [unE_ok]; exact ho)).1 hf
      exact isI_false.1 hi f hf he
    | false =>
      unfold fits
      rw [unE_ok, ho]
      rfl
theorem unE_do (x : St) (feed : Int) : doS x (unE feed) = { x with fees := delI Fee.id feed x.fees, itms := x.itms.filter fun t => t.feed ≠ feed } := do4 rfl
theorem unE_fees {x : St} (h : StP x) {feed : Int} (hi : isI Fee.id feed x.fees = true) : isI Fee.id feed (delI Fee.id feed x.fees) = false ∧ (delI Fee.id feed x.fees).length = x.fees.length - 1 := by
  constructor
  · rw [delI_filter h.eR]
    refine isI_false.2 fun f hf => ?_
    have := (List.mem_filter.1 hf).2
    simpa using this
  · obtain ⟨f, hf, he⟩ := isI_iff.1 hi
    unfold delI
    exact List.length_eraseP_of_mem hf (by simpa using he)
end Go.Proofs.YtjnjbmgnbchcjaaGreat
end
section
set_option linter.unusedVariables false
set_option linter.unusedSimpArgs false
namespace Go.Proofs.YtjnjbmgnbchcjaaGreat
open Go.RowKit Go.Lib

theorem itms_at3 {x : St} {k : Nat} {w : World} {G : Nat → Prop} {fo fe it se : Sl} {ts : List (Sl × Itm)} (h : StIn w G fo fe it se ts x) (hk : k < x.itms.length) : ∃ hk' : k < ts.length, (ts[k]'hk').2 = x.itms[k] := by
  have hk' : k < ts.length := by rw [h.len]; exact hk
  refine ⟨hk', ?_⟩
  have : (ts.map (·.2))[k]'(by simpa using hk') = (ts[k]'hk').2 := by simp
  rw [← this]
  congr 1
  exact h.same
theorem box_fee (w : World) (f : Fee) : ∃ w1, w1 = w.alloc (.cells #[.int .i64 f.id, .int .i64 f.inn, .string f.url, .string f.title] 63) ∧ Frm Nix w w1 := ⟨_, rfl, (Frm.refl Nix w).alloc _⟩

set_option maxRecDepth 100000 in
set_option maxHeartbeats 16000000 in
theorem unf_large {w : World} {G : Nat → Prop} {v : Sl} {l : List Ev} (hl : EvsIn w G v l) (feed : Int) (hfd : I64 feed) (hlg : largeEvs l = true) : Calls Tryz.prog 12 #[.slice v.1 l.length v.2, .int .i64 feed] w fun e w' => e = .returned (.bool true) ∧ Frm Nix w w' := by
  have HL := Lib.hid hl
  have HLG := Lib.hid hlg
  clear hl hlg
  obtain ⟨Av, cv⟩ := v
  have KL : Hid (∀ W, Frm Nix w W → Calls Tryz.prog 19 #[.slice Av l.length cv] W fun e w' => e = .returned (.bool (largeEvs l)) ∧ Frm Nix W w') := fun W hW => (HL.out.nix hW).large
  have KF : Hid (∀ W, Frm Nix w W → largeEvs l = false → Calls Tryz.prog 23 #[.slice Av l.length cv] W fun e w' => ∃ g M, e = .returned (.pointer (some ⟨g, 0, none⟩)) ∧ StAt w' g M (foldE st0 l) ∧ Frm Nix W w' ∧ ∀ k, SF g M k → W.heap.size ≤ k) := fun W hW => (HL.out.nix hW).fold
  dsimp only
  obtain ⟨n1, hn1⟩ : ∃ n1, l.length = n1 := ⟨_, rfl⟩
  rw [HLG.out, hn1] at KL
  rw [hn1]
  clear hn1
  go_enter Tryz.func12, Tryz.ntmps12
  go_wp2_with (first
    | (go_at_call 16; have _q := Z1; refine (lives_any _).mono ?_; rintro e w2 ⟨rfl, hf⟩; have Z2 : Hid (Frm Nix w w2) := Z1.out.trans hf; clear hf)
    | (go_at_call 19; refine (KL.out _ (Frm.refl Nix w)).mono ?_; rintro e w1 ⟨rfl, hf⟩; have Z1 := Lib.hid hf; clear hf))
  go_ret
  exact ⟨rfl, Z2.out⟩

set_option maxRecDepth 100000 in
set_option maxHeartbeats 16000000 in
theorem unf_walk0 {w : World} {G : Nat → Prop} {v : Sl} {l : List Ev} (hl : EvsIn w G v l) (feed : Int) (hfd : I64 feed) (hlg : largeEvs l = false) : Calls Tryz.prog 12 #[.slice v.1 l.length v.2, .int .i64 feed] w fun e w' => e = .returned (.bool true) ∧ Frm Nix w w' := by
  have HL := Lib.hid hl
  have HLG := Lib.hid hlg
  clear hl hlg
  obtain ⟨Av, cv⟩ := v
  have KL : Hid (∀ W, Frm Nix w W → Calls Tryz.prog 19 #[.slice Av l.length cv] W fun e w' => e = .returned (.bool (largeEvs l)) ∧ Frm Nix W w') := fun W hW => (HL.out.nix hW).large
  have KF : Hid (∀ W, Frm Nix w W → largeEvs l = false → Calls Tryz.prog 23 #[.slice Av l.length cv] W fun e w' => ∃ g M, e = .returned (.pointer (some ⟨g, 0, none⟩)) ∧ StAt w' g M (foldE st0 l) ∧ Frm Nix W w' ∧ ∀ k, SF g M k → W.heap.size ≤ k) := fun W hW => (HL.out.nix hW).fold
  dsimp only
  obtain ⟨x, hx⟩ : ∃ x, foldE st0 l = x := ⟨_, rfl⟩
  have HP : Hid (StP x) := by rw [← hx]; exact foldE_ok l st0_ok
  obtain ⟨n1, hn1⟩ : ∃ n1, l.length = n1 := ⟨_, rfl⟩
  rw [HLG.out, hn1] at KL
  have KF2 := Lib.hid (fun W hW => KF.out W hW HLG.out)
  rw [hn1, hx] at KF2
  rw [hn1]
  clear hn1 hx KF
  obtain ⟨y, hy⟩ : ∃ y, (applyS x (unE feed)).1 = y := ⟨_, rfl⟩
  have HY := Lib.hid hy
  obtain ⟨bi, hbi⟩ : ∃ bi, isI Fee.id feed x.fees = bi := ⟨_, rfl⟩
  have HBi := Lib.hid hbi
  have KA : Hid (∀ W g M, StAt W g M x → Calls Tryz.prog 22 #[.pointer (some ⟨g, 0, none⟩), .agg #[.int .i64 4, .int .i64 feed, .int .i64 0, .int .i64 0, .string ⟨#[]⟩, .string ⟨#[]⟩, .string ⟨#[]⟩]] W fun e w' => e = .returned (.bool bi) ∧ StAt w' g M y ∧ Frm (SF g M) W w') := fun W g M h => by
    have := Apply_any h (unE feed) hfd (by show I64 0; unfold I64; omega)
    rw [show (applyS x (unE feed)).2 = fits x (unE feed) by unfold applyS; split <;> simp [*], unE_fits HP.out, HBi.out, HY.out] at this
    exact this
  have KFe : Hid (∀ W g M, StAt W g M x → Calls Tryz.prog 38 #[.pointer (some ⟨g, 0, none⟩), .int .i64 feed] W fun e w' => ∃ f : Fee, e = .returned (.tuple #[.agg #[.int .i64 f.id, .int .i64 f.inn, .string f.url, .string f.title], .bool bi]) ∧ Frm Nix W w') := fun W g M h => by
    have := FeedS_any h hfd
    rw [HBi.out] at this
    exact this.mono fun e w' q => ⟨_, q⟩
  clear hy hbi
  go_enter Tryz.func12, Tryz.ntmps12
  show Code.wp Tryz.prog (peel 0 (bodyOf Tryz.f12)) _ _ _
  have e1 : peel 0 (bodyOf Tryz.f12) = .seq (hdC (peel 0 (bodyOf Tryz.f12))) (peel 1 (bodyOf Tryz.f12)) := by kernel_rfl
  rw [e1]
  clear e1
  refine wp_seq_k fun K hK => ?_
  conv in hdC _ => whnf
  go_wp2
  have e1 : peel 1 (bodyOf Tryz.f12) = .seq (hdC (peel 1 (bodyOf Tryz.f12))) (peel 2 (bodyOf Tryz.f12)) := by kernel_rfl
  rw [e1]
  clear e1
  refine wp_seq_k fun K hK => ?_
  conv in hdC _ => whnf
  go_wp2_with (go_at_call 19; refine (KL.out _ (Frm.refl Nix w)).mono ?_; rintro e w1 ⟨rfl, hf⟩; have Z1 := Lib.hid hf; clear hf)
  have e1 : peel 2 (bodyOf Tryz.f12) = .seq (hdC (peel 2 (bodyOf Tryz.f12))) (peel 3 (bodyOf Tryz.f12)) := by kernel_rfl
  rw [e1]
  clear e1
  refine wp_seq_k fun K hK => ?_
  conv in hdC _ => whnf
  go_wp2_with (go_at_call 23; refine (KF2.out _ Z1.out).mono ?_; rintro e w2 ⟨g, M, rfl, hs, hf, hg⟩; have HG : Hid (∀ k, SF g M k → w.heap.size ≤ k) := (fun k hk => Nat.le_trans Z1.out.size (hg k hk)); have H2 := Lib.hid hs; have Z2 : Hid (Frm Nix w w2) := Z1.out.trans hf; clear hs hf hg)
  have e1 : peel 3 (bodyOf Tryz.f12) = .seq (hdC (peel 3 (bodyOf Tryz.f12))) (peel 4 (bodyOf Tryz.f12)) := by kernel_rfl
  rw [e1]
  clear e1
  refine wp_seq_k fun K hK => ?_
  conv in hdC _ => whnf
  go_wp2_with (go_at_call 16; refine (lives_any _).mono ?_; rintro e w3 ⟨rfl, hf⟩; have H3 := Lib.hid (H2.out.nix hf); have Z3 : Hid (Frm Nix w w3) := Z2.out.trans hf; clear hf)
  have e1 : peel 4 (bodyOf Tryz.f12) = .seq (hdC (peel 4 (bodyOf Tryz.f12))) (peel 5 (bodyOf Tryz.f12)) := by kernel_rfl
  rw [e1]
  clear e1
  refine wp_seq_k fun K hK => ?_
  conv in hdC _ => whnf
  go_wp2_with (go_at_call 18; refine (Tell_any H3.out).mono ?_; rintro e w4 ⟨fo, fe, it, se, ts, rfl, hd, hf⟩; have D4 := Lib.hid hd; have H4 := Lib.hid (H3.out.nix hf); have Z4 : Hid (Frm Nix w w4) := Z3.out.trans hf; have HNew4 : Hid (∀ k, SF g M k → k < w3.heap.size) := H3.out.lt; have ZZ4 := Lib.hid hf; clear hd hf; unfold stV)
  obtain ⟨w5, hw5, hf5, hb5⟩ := box_st w4 fo fe it se x
  rw [← hw5]
  have B5 := Lib.hid hb5
  have D5 := Lib.hid (D4.out.nix hf5)
  have H5 := Lib.hid (H4.out.nix hf5)
  have Z5 : Hid (Frm Nix w w5) := Z4.out.trans hf5
  have HAp : Hid ((∀ k, w3.heap.size ≤ k → ¬ SF g M k) ∧ ¬ SF g M w4.heap.size) := ⟨fun k h1 h2 => by have := HNew4.out k h2; omega, fun h2 => by have := HNew4.out _ h2; have := ZZ4.out.size; omega⟩
  clear hw5 hf5 hb5 D4 H4 HNew4 ZZ4
  have e1 : peel 5 (bodyOf Tryz.f12) = .seq (hdC (peel 5 (bodyOf Tryz.f12))) (peel 6 (bodyOf Tryz.f12)) := by kernel_rfl
  rw [e1]
  clear e1
  refine wp_seq_k fun K hK => ?_
  conv in hdC _ => whnf
  go_wp2_with (go_at_call 38; refine (KFe.out _ _ _ H5.out).mono ?_; rintro e w6 ⟨f, rfl, hf⟩; have F6 := Lib.hid hf; clear hf)
  obtain ⟨w7, hw7, hf7⟩ := box_fee w6 f
  rw [← hw7]
  have B7 := Lib.hid (B5.out.frm (F6.out.trans hf7) id)
  have D7 := Lib.hid (D5.out.nix (F6.out.trans hf7))
  have H7 := Lib.hid (H5.out.nix (F6.out.trans hf7))
  have Z7 : Hid (Frm Nix w w7) := Z5.out.trans (F6.out.trans hf7)
  clear hw7 hf7 F6 B5 D5 H5
  have e1 : peel 6 (bodyOf Tryz.f12) = .seq (hdC (peel 6 (bodyOf Tryz.f12))) (peel 7 (bodyOf Tryz.f12)) := by kernel_rfl
  rw [e1]
  clear e1
  refine wp_seq_k fun K hK => ?_
  conv in hdC _ => whnf
  go_wp2_with (go_at_call 22; refine (KA.out _ _ _ H7.out).mono ?_; rintro e w8 ⟨rfl, hs, hf⟩; have H8 := Lib.hid hs; have Z8 : Hid (Frm Nix w w8) := frm_own Z7.out hf HG.out; have B8 := Lib.hid (B7.out.frm hf HAp.out.2); have D8 := Lib.hid (D7.out.frm hf (fun k hk => HAp.out.1 k hk)); clear hs hf B7 D7 H7)
  have e1 : peel 7 (bodyOf Tryz.f12) = .seq (hdC (peel 7 (bodyOf Tryz.f12))) (peel 8 (bodyOf Tryz.f12)) := by kernel_rfl
  rw [e1]
  clear e1
  refine wp_seq_k fun K hK => ?_
  conv in hdC _ => whnf
  go_wp2_with (go_at_call 18; refine (Tell_any H8.out).mono ?_; rintro e w9 ⟨fo', fe', it', se', ts', rfl, hd, hf⟩; have E9 := Lib.hid hd; have H9 := Lib.hid (H8.out.nix hf); have D9 := Lib.hid (D8.out.nix hf); have B9 := Lib.hid (B8.out.frm hf id); have Z9 : Hid (Frm Nix w w9) := Z8.out.trans hf; clear hd hf; unfold stV)
  obtain ⟨wa, hwa, hfa, hba⟩ := box_st w9 fo' fe' it' se' y
  rw [← hwa]
  have BY := Lib.hid hba
  have BX := Lib.hid (B9.out.frm hfa id)
  have DX := Lib.hid (D9.out.nix hfa)
  have DY := Lib.hid (E9.out.nix hfa)
  have HA := Lib.hid (H9.out.nix hfa)
  have ZA : Hid (Frm Nix w wa) := Z9.out.trans hfa
  clear hwa hfa hba B9 D9 E9 H9 B8 D8 H8
  obtain ⟨x0, x1, x2, x3, x4, x5, x6, x7, x8⟩ := blk9 BX.out
  obtain ⟨y0, y1, y2, y3, y4, y5, y6, y7, y8⟩ := blk9 BY.out
  cases bi with
  | false =>
    have HE : Hid (x = y) := by
      have := HY.out
      unfold applyS at this
      rw [unE_fits HP.out, HBi.out] at this
      exact this
    have KS : Hid (Calls Tryz.prog 26 #[.agg #[.int .i64 x.clock, .slice fo.1 x.fols.length fo.2, .slice fe.1 x.fees.length fe.2, .slice it.1 x.itms.length it.2, .slice se.1 x.seas.length se.2, .int .i64 x.tFol, .int .i64 x.tFee, .int .i64 x.tItm, .int .i64 x.tSea], .agg #[.int .i64 y.clock, .slice fo'.1 y.fols.length fo'.2, .slice fe'.1 y.fees.length fe'.2, .slice it'.1 y.itms.length it'.2, .slice se'.1 y.seas.length se'.2, .int .i64 y.tFol, .int .i64 y.tFee, .int .i64 y.tItm, .int .i64 y.tSea]] wa fun e w' => e = .returned (.bool true) ∧ Frm Nix wa w') := by
      have := Same_any DX.out DY.out HP.out.small (by rw [← HE.out]; exact HP.out.small)
      rw [decide_eq_true HE.out] at this
      exact this
    have e1 : peel 8 (bodyOf Tryz.f12) = .seq (hdC (peel 8 (bodyOf Tryz.f12))) (peel 9 (bodyOf Tryz.f12)) := by kernel_rfl
    rw [e1]
    clear e1
    refine wp_seq_k fun K hK => ?_
    conv in hdC _ => whnf
    go_wp2_with (go_at_call 26; refine KS.out.mono ?_; rintro e wb ⟨rfl, hf⟩; have ZB : Hid (Frm Nix w wb) := ZA.out.trans hf; clear hf)
    go_ret
    exact ⟨rfl, ZB.out⟩
  | true =>
    have HDo : Hid (y = { x with fees := delI Fee.id feed x.fees, itms := x.itms.filter fun t => t.feed ≠ feed }) := by
      have := HY.out
      unfold applyS at this
      rw [unE_fits HP.out, HBi.out, if_pos rfl] at this
      rw [← this]
      exact unE_do x feed
    have HIt : Hid (y.itms = x.itms.filter fun t => decide (t.feed ≠ feed)) := by unfold Hid; rw [HDo.out] <;> rfl
    have HPy : Hid (StP y) := HA.out.ok
    have HFe : Hid (isI Fee.id feed y.fees = false ∧ y.fees.length = x.fees.length - 1) := by rw [HDo.out]; exact unE_fees HP.out HBi.out
    have hfl : 1 ≤ x.fees.length := by
      obtain ⟨f, hf, -⟩ := isI_iff.1 HBi.out
      exact List.length_pos_of_mem hf
    have hil := HP.out.iL
    have hyl := HPy.out.iL
    have e1 : peel 8 (bodyOf Tryz.f12) = .seq (hdC (peel 8 (bodyOf Tryz.f12))) (peel 9 (bodyOf Tryz.f12)) := by kernel_rfl
    rw [e1]
    clear e1
    refine wp_seq_k fun K hK => ?_
    conv in hdC _ => whnf
    go_wp2
    have e1 : peel 9 (bodyOf Tryz.f12) = .seq (hdC (peel 9 (bodyOf Tryz.f12))) (peel 10 (bodyOf Tryz.f12)) := by kernel_rfl
    rw [e1]
    clear e1
    refine wp_seq_k fun K hK => ?_
    conv in hdC _ => whnf
    go_wp2
    have e1 : peel 10 (bodyOf Tryz.f12) = .seq (hdC (peel 10 (bodyOf Tryz.f12))) (peel 11 (bodyOf Tryz.f12)) := by kernel_rfl
    rw [e1]
    clear e1
    refine wp_seq_k fun K hK => ?_
    conv in hdC _ => whnf
    go_wp2
    obtain ⟨itA, itC⟩ := it
    obtain ⟨itB, itD⟩ := it'
    dsimp only at x3 y3
    go_loopw [10, 11] (fun kv iv wr => ∃ i : Nat, i ≤ x.itms.length ∧ iv = .int .i64 i ∧ kv = .int .i64 ((x.itms.take i).filter fun t => decide (t.feed ≠ feed)).length ∧ Frm Nix wa wr) (fun _ iv _ => x.itms.length - (intOf iv).toNat)
    case atStart => exact ⟨0, by omega, rfl, rfl, Frm.refl _ _⟩
    case round =>
      obtain ⟨i, hi, rfl, rfl, hf⟩ := hrel
      have HF := Lib.hid hf
      clear hf x0 x1 x2 x3 x4 x5 x6 x7 x8 y0 y1 y2 y3 y4 y5 y6 y7 y8
      obtain ⟨x0, x1, x2, x3, x4, x5, x6, x7, x8⟩ := blk9 (BX.out.frm HF.out id)
      obtain ⟨y0, y1, y2, y3, y4, y5, y6, y7, y8⟩ := blk9 (BY.out.frm HF.out id)
      dsimp only at x3 y3
      by_cases hlt : i < x.itms.length
      · obtain ⟨hkt, het⟩ := itms_at3 DX.out hlt
        obtain ⟨b, off, hA, -, hbl, hcell⟩ := (DX.out.itms.row.nix HF.out).at_ itmC_len (by decide) (by omega)
        dsimp only at hA
        subst hA
        have hc := hcell i hkt
        have htg := DX.out.itms.tags _ (List.getElem_mem hkt)
        obtain ⟨tp, htp⟩ : ∃ tp, ts[i] = tp := ⟨_, rfl⟩
        rw [htp] at hc het htg
        have hYes := fil_yes (p := fun t : Itm => decide (t.feed ≠ feed)) hlt
        have hLy := fil_len_yes (p := fun t : Itm => decide (t.feed ≠ feed)) hlt
        have hLn := fil_len_no (p := fun t : Itm => decide (t.feed ≠ feed)) hlt
        rw [← het] at hYes hLy hLn
        rw [← HIt.out] at hYes
        obtain ⟨p0, p1, p2, p3, p4, p5, p6, p7, p8⟩ := itmcs (w := wr) (b := b) (off := off + i * 9) (p := tp) hc
        obtain ⟨q, hq⟩ : ∃ q, ((x.itms.take i).filter fun t => decide (t.feed ≠ feed)).length = q := ⟨_, rfl⟩
        rw [hq] at hYes hLy hLn ⊢
        clear hcell het htp hq
        by_cases hfe : tp.2.feed = feed
        · have HL2 : Hid (((x.itms.take (i + 1)).filter fun t => decide (t.feed ≠ feed)).length = q) := hLn (by simp [hfe])
          clear hYes hLy hLn
          go_wp2
          go_roundw
          case rel => exact ⟨i + 1, by omega, by go_num, by rw [HL2.out], HF.out⟩
          case measure => simp [intOf]; omega
        · have HL2 : Hid (((x.itms.take (i + 1)).filter fun t => decide (t.feed ≠ feed)).length = q + 1) := hLy (by simp [hfe])
          obtain ⟨hqy, hat⟩ := hYes (by simp [hfe])
          clear hLy hLn
          rw [List.getElem?_eq_getElem hqy] at hat
          have hat2 := Option.some.inj hat
          obtain ⟨hkt', het'⟩ := itms_at3 DY.out hqy
          obtain ⟨b', off', hA', -, hbl', hcell'⟩ := (DY.out.itms.row.nix HF.out).at_ itmC_len (by decide) (by omega)
          dsimp only at hA'
          subst hA'
          have hc' := hcell' q hkt'
          have htg' := DY.out.itms.tags _ (List.getElem_mem hkt')
          obtain ⟨tp', htp'⟩ : ∃ tp', ts'[q] = tp' := ⟨_, rfl⟩
          rw [htp'] at hc' het' htg'
          have hE : tp.2 = tp'.2 := by rw [het', hat2]
          have h8 : tp.2.tags.length ≤ 1000000 := by
            have h1 := HPy.out.iE _ (List.getElem_mem hqy)
            rw [← het', ← hE] at h1
            have := h1.2.2.2.1
            omega
          obtain ⟨q0, q1, q2, q3, q4, q5, q6, q7, q8⟩ := itmcs (w := wr) (b := b') (off := off' + q * 9) (p := tp') hc'
          have K : Hid (∀ W, Frm Nix wr W → Calls Tryz.prog 39 #[.agg #[.int .i64 tp.2.id, .int .i64 tp.2.feed, .int .i64 tp.2.date, .string tp.2.guid, .string tp.2.title, .string tp.2.link, .bool tp.2.read, .bool tp.2.star, .slice tp.1.1 tp.2.tags.length tp.1.2], .agg #[.int .i64 tp'.2.id, .int .i64 tp'.2.feed, .int .i64 tp'.2.date, .string tp'.2.guid, .string tp'.2.title, .string tp'.2.link, .bool tp'.2.read, .bool tp'.2.star, .slice tp'.1.1 tp'.2.tags.length tp'.1.2]] W fun e w' => e = .returned (.bool true) ∧ Frm Nix wr w') := fun W hW => by
            have := rSameItem_any tp.2 tp'.2 (htg.nix (HF.out.trans hW)) (htg'.nix (HF.out.trans hW)) h8 (by rw [← hE]; exact h8)
            rw [decide_eq_true hE] at this
            exact this.mono fun e w' r => ⟨r.1, hW.trans r.2⟩
          have hb1 := (BX.out.frm HF.out id).lt
          have hb2 := (BY.out.frm HF.out id).lt
          have HC := Lib.hid (And.intro hc (And.intro hc' (And.intro hbl hbl')))
          have X3 := Lib.hid (And.intro x3 (And.intro y3 (And.intro hb1 hb2)))
          have hqi : ¬ ((y.itms.length : Int) ≤ (q : Int)) := by omega
          have hgd : decide (y.itms.length ≤ q) = false := decide_eq_false (by omega)
          have HMk : Hid (∀ W, Frm Nix wr W → (fun W => Frm Nix wr W ∧ W.cell? ⟨w4.heap.size, 3, none⟩ = some (.slice (some ⟨b, off, none⟩) x.itms.length itC) ∧ W.cell? ⟨w9.heap.size, 3, none⟩ = some (.slice (some ⟨b', off', none⟩) y.itms.length itD) ∧ (W.cell? ⟨b, off + i * 9, none⟩ = some (.int .i64 tp.2.id) ∧ W.cell? ⟨b, off + i * 9 + 1, none⟩ = some (.int .i64 tp.2.feed) ∧ W.cell? ⟨b, off + i * 9 + 2, none⟩ = some (.int .i64 tp.2.date) ∧ W.cell? ⟨b, off + i * 9 + 3, none⟩ = some (.string tp.2.guid) ∧ W.cell? ⟨b, off + i * 9 + 4, none⟩ = some (.string tp.2.title) ∧ W.cell? ⟨b, off + i * 9 + 5, none⟩ = some (.string tp.2.link) ∧ W.cell? ⟨b, off + i * 9 + 6, none⟩ = some (.bool tp.2.read) ∧ W.cell? ⟨b, off + i * 9 + 7, none⟩ = some (.bool tp.2.star) ∧ W.cell? ⟨b, off + i * 9 + 8, none⟩ = some (.slice tp.1.1 tp.2.tags.length tp.1.2)) ∧ (W.cell? ⟨b', off' + q * 9, none⟩ = some (.int .i64 tp'.2.id) ∧ W.cell? ⟨b', off' + q * 9 + 1, none⟩ = some (.int .i64 tp'.2.feed) ∧ W.cell? ⟨b', off' + q * 9 + 2, none⟩ = some (.int .i64 tp'.2.date) ∧ W.cell? ⟨b', off' + q * 9 + 3, none⟩ = some (.string tp'.2.guid) ∧ W.cell? ⟨b', off' + q * 9 + 4, none⟩ = some (.string tp'.2.title) ∧ W.cell? ⟨b', off' + q * 9 + 5, none⟩ = some (.string tp'.2.link) ∧ W.cell? ⟨b', off' + q * 9 + 6, none⟩ = some (.bool tp'.2.read) ∧ W.cell? ⟨b', off' + q * 9 + 7, none⟩ = some (.bool tp'.2.star) ∧ W.cell? ⟨b', off' + q * 9 + 8, none⟩ = some (.slice tp'.1.1 tp'.2.tags.length tp'.1.2))) W) := fun W hW => ⟨hW, (hW.cell (p := ⟨w4.heap.size, 3, none⟩) hb1 id).trans x3, (hW.cell (p := ⟨w9.heap.size, 3, none⟩) hb2 id).trans y3, itmcs (fun j u hu => (hW.cell (p := ⟨b, off + i * 9 + j, none⟩) hbl id).trans (hc j u hu)), itmcs (fun j u hu => (hW.cell (p := ⟨b', off' + q * 9 + j, none⟩) hbl' id).trans (hc' j u hu))⟩
          have hfb : (tp.2.feed == feed) = false := by simp [hfe]
          clear hcell' hc hc' hat hat2 het' htp' htg htg' hE h8 hkt hkt'
          go_wp2
          go_region_held3 (fun W => Frm Nix wr W ∧ W.cell? ⟨w4.heap.size, 3, none⟩ = some (.slice (some ⟨b, off, none⟩) x.itms.length itC) ∧ W.cell? ⟨w9.heap.size, 3, none⟩ = some (.slice (some ⟨b', off', none⟩) y.itms.length itD) ∧ (W.cell? ⟨b, off + i * 9, none⟩ = some (.int .i64 tp.2.id) ∧ W.cell? ⟨b, off + i * 9 + 1, none⟩ = some (.int .i64 tp.2.feed) ∧ W.cell? ⟨b, off + i * 9 + 2, none⟩ = some (.int .i64 tp.2.date) ∧ W.cell? ⟨b, off + i * 9 + 3, none⟩ = some (.string tp.2.guid) ∧ W.cell? ⟨b, off + i * 9 + 4, none⟩ = some (.string tp.2.title) ∧ W.cell? ⟨b, off + i * 9 + 5, none⟩ = some (.string tp.2.link) ∧ W.cell? ⟨b, off + i * 9 + 6, none⟩ = some (.bool tp.2.read) ∧ W.cell? ⟨b, off + i * 9 + 7, none⟩ = some (.bool tp.2.star) ∧ W.cell? ⟨b, off + i * 9 + 8, none⟩ = some (.slice tp.1.1 tp.2.tags.length tp.1.2)) ∧ (W.cell? ⟨b', off' + q * 9, none⟩ = some (.int .i64 tp'.2.id) ∧ W.cell? ⟨b', off' + q * 9 + 1, none⟩ = some (.int .i64 tp'.2.feed) ∧ W.cell? ⟨b', off' + q * 9 + 2, none⟩ = some (.int .i64 tp'.2.date) ∧ W.cell? ⟨b', off' + q * 9 + 3, none⟩ = some (.string tp'.2.guid) ∧ W.cell? ⟨b', off' + q * 9 + 4, none⟩ = some (.string tp'.2.title) ∧ W.cell? ⟨b', off' + q * 9 + 5, none⟩ = some (.string tp'.2.link) ∧ W.cell? ⟨b', off' + q * 9 + 6, none⟩ = some (.bool tp'.2.read) ∧ W.cell? ⟨b', off' + q * 9 + 7, none⟩ = some (.bool tp'.2.star) ∧ W.cell? ⟨b', off' + q * 9 + 8, none⟩ = some (.slice tp'.1.1 tp'.2.tags.length tp'.1.2))) ((refine HMk.out _ ?_; repeat' (first | with_reducible exact Frm.refl _ _ | with_reducible apply Frm.drew | with_reducible exact hz))) (first | (go_at_call 39; refine (K.out _ (by repeat' (first | with_reducible exact Frm.refl _ _ | with_reducible apply Frm.drew))).mono ?_; rintro r w2 ⟨rfl, hz⟩; have HZ := Lib.hid hz))
          all_goals
            go_wp2
            go_roundw
            case rel => exact ⟨i + 1, by omega, by go_num, by rw [HL2.out]; go_num, HF.out.trans HZ.out⟩
            case measure => simp [intOf]; omega
      · obtain rfl : i = x.itms.length := by omega
        have HTl : Hid (((x.itms.take x.itms.length).filter fun t => decide (t.feed ≠ feed)).length = y.itms.length) := by unfold Hid; rw [List.take_length, HIt.out]
        rw [HTl.out]
        have KFy : Hid (∀ W, Frm Nix wr W → Calls Tryz.prog 38 #[.pointer (some ⟨g, 0, none⟩), .int .i64 feed] W fun e w' => ∃ f : Fee, e = .returned (.tuple #[.agg #[.int .i64 f.id, .int .i64 f.inn, .string f.url, .string f.title], .bool false]) ∧ Frm Nix wr w') := fun W hW => by
          have := FeedS_any (HA.out.nix (HF.out.trans hW)) hfd
          rw [HFe.out.1] at this
          exact this.mono fun e w' q => ⟨_, q.1, hW.trans q.2⟩
        have hbe : (((y.fees.length : Nat) : Int) == (x.fees.length : Int) - 1) = true := by
          have := HFe.out.2
          simp
          omega
        have hfc := HP.out.eL
        go_wp2
        have e1 : peel 11 (bodyOf Tryz.f12) = .seq (hdC (peel 11 (bodyOf Tryz.f12))) (peel 12 (bodyOf Tryz.f12)) := by kernel_rfl
        rw [e1]
        clear e1
        refine wp_seq_k fun K hK => ?_
        conv in hdC _ => whnf
        go_wp2_with (go_at_call 38; refine (KFy.out _ (Frm.refl Nix _)).mono ?_; rintro e w2 ⟨f, rfl, hf⟩; have F2 := Lib.hid hf; clear hf)
        obtain ⟨wz, hwz, hfz⟩ := box_fee w2 f
        rw [← hwz]
        have ZZ := Lib.hid (HF.out.trans (F2.out.trans hfz))
        clear hwz hfz x0 x1 x2 x3 x4 x5 x6 x7 x8 y0 y1 y2 y3 y4 y5 y6 y7 y8
        obtain ⟨x0, x1, x2, x3, x4, x5, x6, x7, x8⟩ := blk9 (BX.out.frm ZZ.out id)
        obtain ⟨y0, y1, y2, y3, y4, y5, y6, y7, y8⟩ := blk9 (BY.out.frm ZZ.out id)
        simp only [peel, bodyOf, Tryz.f12]
        go_wp2
        go_ret
        exact ⟨rfl, ZA.out.trans ZZ.out⟩

theorem unf_walk {w : World} {G : Nat → Prop} {v : Sl} {l : List Ev} (hl : EvsIn w G v l) (feed : Int) (hfd : I64 feed) : Calls Tryz.prog 12 #[.slice v.1 l.length v.2, .int .i64 feed] w fun e w' => e = .returned (.bool true) ∧ Frm Nix w w' := by
  cases h1 : largeEvs l with
  | true => exact unf_large hl feed hfd h1
  | false => exact unf_walk0 hl feed hfd h1
end Go.Proofs.YtjnjbmgnbchcjaaGreat
end
