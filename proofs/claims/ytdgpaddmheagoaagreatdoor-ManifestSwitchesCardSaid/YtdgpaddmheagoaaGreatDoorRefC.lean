/-
  The reference's disk: put, drop.
-/
import Derived.Test.YtdgpaddmheagoaaGreatDoorView
import Derived.Deep.RegionHeld3
import Derived.Deep.RegionLaw
namespace Go.Proofs.YtdgpaddmheagoaaGreatDoor
open Go.RowKit

theorem bl_get (s : ByteArray) (k : Nat) (h : k < s.size) : (bl s)[k]'(by simpa using h) = s[k] := rfl

set_option maxRecDepth 100000 in
set_option maxHeartbeats 1000000 in
theorem Name_any (s : ByteArray) (w : World) (hs : s.size ≤ maxLen) : Calls Tryz.prog 61 #[.string s] w fun e w' => e = .returned (.bool (nameOk s)) ∧ w = w' := by
  unfold maxLen at hs
  go_enter Tryz.func61, Tryz.ntmps61
  go_wp2
  go_loop [3, 4] (fun i _ => ∃ k : Nat, k ≤ s.size ∧ i = .int .i64 k ∧ ((bl s).take k).all signB = true) (fun i _ => s.size - (intOf i).toNat)
  case atStart => exact ⟨0, Nat.zero_le _, rfl, by simp⟩
  case round =>
    obtain ⟨k, hk, rfl, hall⟩ := hrel
    have HA := Lib.hid hall
    clear hall
    by_cases hlt : k < s.size
    · have hbd := (s[k]'hlt).toNat_lt
      cases hsg : signB s[k] with
      | true =>
        have HN := Lib.hid (take_all_succ s k hlt HA.out hsg)
        have HS : Hid (signI ((s[k]'hlt).toNat : Int) = true) := by unfold Hid; rw [← signB_iff]; exact hsg
        clear hsg
        go_wp2
        all_goals first
          | (go_round
             case rel => exact ⟨k + 1, by omega, by go_num, HN.out⟩
             case measure => simp [intOf]; omega)
          | (exfalso; have hx := HS.out; simp [signI] at hx; simp_all; done)
          | (exfalso; have hx := HS.out; simp [signI] at hx; simp_all; omega)
      | false =>
        have HN := Lib.hid (all_false s k hlt hsg)
        have HS : Hid (signI ((s[k]'hlt).toNat : Int) = false) := by unfold Hid; rw [← signB_iff]; exact hsg
        clear hsg
        go_wp2
        all_goals first
          | (go_ret; exact ⟨ret_bool HN.out.symm, rfl⟩)
          | (exfalso; have hx := HS.out; simp [signI] at hx; simp_all; done)
          | (exfalso; have hx := HS.out; simp [signI] at hx; simp_all; omega)
    · obtain rfl : k = s.size := by omega
      go_wp2
      all_goals
        go_ret
        refine ⟨ret_bool ?_, rfl⟩
        rw [nameOk_end s HA.out, Bool.eq_iff_iff]
        first | (simp; done) | (simp; omega)
end Go.Proofs.YtdgpaddmheagoaaGreatDoor

namespace Go.Proofs.YtdgpaddmheagoaaGreatDoor
open Go.RowKit

/-- a file and the slice of its bytes. -/
abbrev RFil := Fil × Value
def RFil.cells (r : RFil) : List Value := [.string r.1.name, r.2, .int .i64 r.1.safe]
def rcells (V : List RFil) : List Value := V.flatMap RFil.cells
theorem rcells_length (V : List RFil) : (rcells V).length = V.length * 3 := by
  induction V with
  | nil => rfl
  | cons r V ih =>
    rw [rcells, List.flatMap_cons, List.length_append]
    have h1 : (RFil.cells r).length = 3 := rfl
    have h2 : (V.flatMap RFil.cells).length = V.length * 3 := ih
    rw [List.length_cons]
    omega
theorem rcells_append (V V' : List RFil) : rcells (V ++ V') = rcells V ++ rcells V' := by simp [rcells]
theorem rcells_take (V : List RFil) (i : Nat) : (rcells V).take (i * 3) = rcells (V.take i) := by
  induction V generalizing i with
  | nil => simp [rcells]
  | cons r V ih =>
    cases i with
    | zero => simp [rcells]
    | succ i =>
      have h1 : (RFil.cells r).length = 3 := rfl
      simp only [rcells, List.flatMap_cons, List.take_succ_cons] at ih ⊢
      rw [List.take_append, List.take_of_length_le (by omega), h1, show (i + 1) * 3 - 3 = i * 3 by omega, ih]
theorem rcells_drop (V : List RFil) (i : Nat) : (rcells V).drop (i * 3) = rcells (V.drop i) := by
  induction V generalizing i with
  | nil => simp [rcells]
  | cons r V ih =>
    cases i with
    | zero => simp [rcells]
    | succ i =>
      have h1 : (RFil.cells r).length = 3 := rfl
      simp only [rcells, List.flatMap_cons, List.drop_succ_cons] at ih ⊢
      rw [List.drop_append, List.drop_of_length_le (by omega), h1, show (i + 1) * 3 - 3 = i * 3 by omega, ih, List.nil_append]
theorem rcells_at (V : List RFil) (i : Nat) (h : i < V.length) (j : Nat) (hj : j < 3) : (rcells V)[i * 3 + j]? = (RFil.cells V[i])[j]? := by
  have h1 : (rcells V)[i * 3 + j]? = ((rcells V).drop (i * 3))[j]? := by rw [List.getElem?_drop]
  rw [h1, rcells_drop, List.drop_eq_getElem_cons h]
  simp only [rcells, List.flatMap_cons]
  rw [List.getElem?_append_left (by show j < 3; exact hj)]

structure RDiskAt (w : World) (B g : Nat) (D : Dsk) (A : Option Addr) (c : Nat) (V : List RFil) : Prop where
  gB : B ≤ g
  blk : Blk w g 57 #[.slice A D.L.length c, .int .i64 D.quota, .int .i64 D.left, .bool D.off, .int .i64 D.deeds]
  row : w.ownsRow B 73 3 (.slice A D.L.length c) D.L.length (rcells V)
  fils : V.map (·.1) = D.L
  own : ∀ r ∈ V, w.ownsRow B 5 1 r.2 r.1.b.length (bvs r.1.b)
  ok : D.Ok

def RFoot (g : Nat) (v : Value) : Nat → Prop := fun k => k = g ∨ v.ownBlock = some k

/-- The reference's disk D behind a pointer to block g, its memory F, from block B on. -/
def RDk (w : World) (B g : Nat) (F : Nat → Prop) (D : Dsk) : Prop := ∃ A c V, RDiskAt w B g D A c V ∧ F = RFoot g (.slice A D.L.length c)

section
variable {w w' : World} {B g : Nat} {D D' : Dsk} {A : Option Addr} {c : Nat} {V : List RFil} {F : Nat → Prop}
theorem RDiskAt.len (h : RDiskAt w B g D A c V) : V.length = D.L.length := by rw [← h.fils, List.length_map]
theorem ownBlock_slice (A : Option Addr) (n n' c c' : Nat) : (Value.slice A n c).ownBlock = (Value.slice A n' c').ownBlock := by cases A <;> rfl
/-- nothing that the disk reads has turned. -/
theorem RDiskAt.frm (h : RDiskAt w B g D A c V) (hf : Frm F w w') (h1 : ¬ F g) (h2 : ∀ k, (Value.slice A D.L.length c).ownBlock = some k → ¬ F k) (h3 : ∀ r ∈ V, ∀ k, r.2.ownBlock = some k → ¬ F k) : RDiskAt w' B g D A c V :=
  ⟨h.gB, h.blk.frm hf h1, own_frm h.row hf h2, h.fils, fun r hr => own_frm (h.own r hr) hf (h3 r hr), h.ok⟩
theorem RDiskAt.nix (h : RDiskAt w B g D A c V) (hf : Frm Nix w w') : RDiskAt w' B g D A c V := h.frm hf id (fun _ _ => id) fun _ _ _ _ => id
theorem RDk.nix (h : RDk w B g F D) (hf : Frm Nix w w') : RDk w' B g F D := by
  obtain ⟨A, c, V, h, rfl⟩ := h
  exact ⟨A, c, V, h.nix hf, rfl⟩
theorem own3_at {e n : Nat} {v : Value} {xs : List Value} {k size : Nat} (h : w.ownsRow B e size v n xs) (hk : v.ownBlock = some k) : ∃ cs, Blk w k e cs := by
  rcases h.2 with ⟨rfl, _⟩ | ⟨g, cap, cur, rfl, _, hh, _⟩
  · cases hk
  · cases hk
    exact ⟨cur, hh⟩
theorem RDiskAt.row_ne_g (h : RDiskAt w B g D A c V) {k : Nat} (hk : (Value.slice A D.L.length c).ownBlock = some k) : k ≠ g := by
  obtain ⟨cs, hb⟩ := own3_at h.row hk
  exact hb.ne_ h.blk (by decide)
theorem RDiskAt.b_ne_g (h : RDiskAt w B g D A c V) {r : RFil} (hr : r ∈ V) {k : Nat} (hk : r.2.ownBlock = some k) : k ≠ g := by
  obtain ⟨cs, hb⟩ := own3_at (h.own r hr) hk
  exact hb.ne_ h.blk (by decide)
theorem RDiskAt.b_ne_row (h : RDiskAt w B g D A c V) {r : RFil} (hr : r ∈ V) {k k' : Nat} (hk : r.2.ownBlock = some k) (hk' : (Value.slice A D.L.length c).ownBlock = some k') : k ≠ k' := by
  obtain ⟨cs, hb⟩ := own3_at (h.own r hr) hk
  obtain ⟨cs', hb'⟩ := own3_at h.row hk'
  exact hb.ne_ hb' (by decide)
theorem RDk.lo (h : RDk w B g F D) : ∀ k, F k → B ≤ k ∧ k < w.heap.size := by
  obtain ⟨A, c, V, h, rfl⟩ := h
  rintro k (rfl | hk)
  · exact ⟨h.gB, h.blk.lt⟩
  · exact h.row.lt k hk
/-- blocks of another make, or older, or newer: the disk is as it was. -/
theorem RDk.frm {F' : Nat → Prop} (h : RDk w B g F D) (hf : Frm F' w w') (hd : ∀ k, F k → ¬ F' k) (hb : ∀ k cs fr, w.heap[k]? = some (.cells cs 5 fr) → ¬ F' k) : RDk w' B g F D := by
  obtain ⟨A, c, V, h, rfl⟩ := h
  refine ⟨A, c, V, h.frm hf (hd g (.inl rfl)) (fun k hk => hd k (.inr hk)) (fun r hr k hk => ?_), rfl⟩
  obtain ⟨cs, hb'⟩ := own3_at (h.own r hr) hk
  exact hb k cs (0, 0) hb'
/-- the head is turned. -/
theorem RDiskAt.head (h : RDiskAt w B g D A c V) (hf : Frm (fun k => k = g) w w') (hL : D'.L = D.L)
    (hblk : Blk w' g 57 #[.slice A D.L.length c, .int .i64 D'.quota, .int .i64 D'.left, .bool D'.off, .int .i64 D'.deeds]) (hok : D'.Ok) : RDiskAt w' B g D' A c V := by
  refine ⟨h.gB, by rw [hL]; exact hblk, ?_, by rw [hL]; exact h.fils, fun r hr => own_frm (h.own r hr) hf (fun k hk e => h.b_ne_g hr hk e), hok⟩
  rw [hL]
  exact own_frm h.row hf (fun k hk e => h.row_ne_g hk e)
end

/-! ### New -/

set_option maxRecDepth 100000 in
theorem rNew_no (q : Int) (w : World) (h : q < 0 ∨ 16777216 < q) : Calls Tryz.prog 7 #[.int .i64 q] w fun e w' => e = .returned (.pointer none) ∧ w = w' := by
  rcases h with h | h
  · go_enter Tryz.func7, Tryz.ntmps7
    go_wp2
    go_ret
    exact ⟨rfl, rfl⟩
  · have h' : ¬ q < 0 := by omega
    go_enter Tryz.func7, Tryz.ntmps7
    go_wp2
    go_ret
    exact ⟨rfl, rfl⟩

set_option maxRecDepth 100000 in
theorem rNew_yes (q : Int) (w : World) (B : Nat) (hB : B ≤ w.heap.size) (h0 : 0 ≤ q) (h1 : q ≤ 16777216) :
    Calls Tryz.prog 7 #[.int .i64 q] w fun e w' => ∃ g F, e = .returned (.pointer (some ⟨g, 0, none⟩)) ∧ RDk w' B g F (dsk0 q) ∧ Frm Nix w w' ∧ ∀ k, F k → w.heap.size ≤ k := by
  go_enter Tryz.func7, Tryz.ntmps7
  go_wp2
  go_ret
  refine ⟨w.heap.size, RFoot w.heap.size (.slice none 0 0), rfl, ⟨none, 0, [], ⟨hB, Blk.new w _ _, World.ownsRow_nil _ _ _ _, rfl, by simp, ⟨by simp [dsk0, SortedF], by simp [dsk0], by simp [dsk0], h0, h1, by simpa [dsk0, usedL] using h0, by simp [dsk0], by simp [dsk0], by simp [dsk0]⟩⟩, rfl⟩, (Frm.refl _ w).alloc _, ?_⟩
  rintro k (rfl | hk)
  · exact Nat.le_refl _
  · cases hk

/-! ### deed -/
section
variable {w : World} {B g : Nat} {D : Dsk} {A : Option Addr} {c : Nat} {V : List RFil}
set_option maxRecDepth 100000 in
theorem rdeed_any (h : RDiskAt w B g D A c V) (hd : D.deeds < 4611686018427387904) :
    Calls Tryz.prog 62 #[.pointer (some ⟨g, 0, none⟩)] w fun e w' => e = .returned (.bool (D.deed.2 == 0)) ∧ RDiskAt w' B g D.deed.1 A c V ∧ Frm (fun k => k = g) w w' := by
  have hlo := h.ok.lo
  have hhi := h.ok.hi
  have c2 := h.blk.cell 2
  have c3 := h.blk.cell 3
  have c4 := h.blk.cell 4
  have f2 := h.blk.frozen 2
  have f3 := h.blk.frozen 3
  have f4 := h.blk.frozen 4
  simp at c2 c3 c4
  have HD := Lib.hid h
  clear h
  by_cases hl : D.left = 0
  · have e : D.deed = ({ D with off := true }, 30) := by simp [Dsk.deed, hl]
    rw [e]
    have hz : (D.left == 0) = true := by simp [hl]
    have HL := Lib.hid hl
    clear hl e
    go_enter Tryz.func62, Tryz.ntmps62
    go_wp2
    go_ret
    have hf : Frm (fun k => k = g) w (w.setCell ⟨g, 3, none⟩ (.bool true)) := (Frm.refl (fun k => k = g) w).setCell (.inl rfl) _
    have hok := HD.out.ok
    exact ⟨rfl, HD.out.head hf rfl (HD.out.blk.set_ 3 _) ⟨hok.sorted, hok.lo, hok.hi, hok.q0, hok.q1, hok.used, hok.safe, hok.cnt, hok.nm⟩, hf⟩
  · have e : D.deed = ({ D with left := max (D.left - 1) (-1), deeds := D.deeds + 1 }, 0) := by simp [Dsk.deed, hl]
    have hok' := HD.out.ok.deed
    rw [e] at hok' ⊢
    have HO := Lib.hid hok'
    have hz : (D.left == 0) = false := by simp [hl]
    clear e hok'
    by_cases hp : 0 < D.left
    · have hm : max (D.left - 1) (-1) = D.left - 1 := by omega
      rw [hm] at HO ⊢
      clear hm hl
      go_enter Tryz.func62, Tryz.ntmps62
      go_wp2
      go_ret
      have hf : Frm (fun k => k = g) w ((w.setCell ⟨g, 2, none⟩ (.int .i64 (D.left - 1))).setCell ⟨g, 4, none⟩ (.int .i64 (D.deeds + 1))) := ((Frm.refl (fun k => k = g) w).setCell (.inl rfl) _).setCell (.inl rfl) _
      refine ⟨rfl, HD.out.head hf rfl ?_ HO.out, hf⟩
      have := (HD.out.blk.set_ 2 (.int .i64 (D.left - 1))).set_ 4 (.int .i64 (D.deeds + 1))
      simpa using this
    · have hm : max (D.left - 1) (-1) = D.left := by omega
      rw [hm] at HO ⊢
      clear hm hl
      go_enter Tryz.func62, Tryz.ntmps62
      go_wp2
      go_ret
      have hf : Frm (fun k => k = g) w (w.setCell ⟨g, 4, none⟩ (.int .i64 (D.deeds + 1))) := (Frm.refl (fun k => k = g) w).setCell (.inl rfl) _
      refine ⟨rfl, HD.out.head hf rfl ?_ HO.out, hf⟩
      have := HD.out.blk.set_ 4 (.int .i64 (D.deeds + 1))
      simpa using this

/-- what stands at place i of the files. -/
theorem RDiskAt.at_ (h : RDiskAt w B g D A c V) {i : Nat} (hi : i < D.L.length) : ∃ gr fA fc, A = some ⟨gr, 0, none⟩ ∧ (∃ hv : i < V.length, V[i].1 = D.L[i] ∧ V[i].2 = .slice fA D.L[i].b.length fc) ∧
    w.cell? ⟨gr, i * 3, none⟩ = some (.string D.L[i].name) ∧ w.cell? ⟨gr, i * 3 + 1, none⟩ = some (.slice fA D.L[i].b.length fc) ∧ w.cell? ⟨gr, i * 3 + 2, none⟩ = some (.int .i64 D.L[i].safe) ∧
    D.L[i].b.length ≤ fc ∧ NilOk fA D.L[i].b.length fc ∧ w.ownsRow B 5 1 (.slice fA D.L[i].b.length fc) D.L[i].b.length (bvs D.L[i].b) ∧ D.L[i].b.length ≤ 16777216 ∧ gr < w.heap.size ∧ B ≤ gr := by
  obtain ⟨gr, rfl⟩ : ∃ gr, A = some ⟨gr, 0, none⟩ := by
    rcases h.row.2 with ⟨hv, h0⟩ | ⟨gn, cap, cur, hv, -⟩
    · omega
    · injection hv with hv1
      exact ⟨gn, hv1⟩
  have hlV : i < V.length := by rw [h.len]; exact hi
  have hfi : V[i].1 = D.L[i] := by
    have := congrArg (fun l => l[i]?) h.fils
    simp only [List.getElem?_map, List.getElem?_eq_getElem hlV, List.getElem?_eq_getElem hi, Option.map_some, Option.some.injEq] at this
    exact this
  have hown := h.own V[i] (List.getElem_mem hlV)
  rw [hfi] at hown
  obtain ⟨fA, fc, hv, -, hle, -⟩ := own_shape hown
  rw [hv] at hown
  have cell : ∀ j, j < 3 → w.cell? ⟨gr, i * 3 + j, none⟩ = (RFil.cells V[i])[j]? := fun j hj => by
    rw [h.row.cellAt (i * 3 + j) (by omega), rcells_at V i hlV j hj]
  have hlt := h.row.lt gr rfl
  have hnil : NilOk fA D.L[i].b.length fc := by
    intro hn
    rcases hown.2 with ⟨e, h0⟩ | ⟨g0, cap, cur, e, _⟩
    · injection e with _ _ e3
      exact ⟨h0, e3⟩
    · rw [hn] at e
      injection e with e1
      cases e1
  have hbl : D.L[i].b.length ≤ 16777216 := by
    have h1 := len_le_used (List.getElem_mem hi)
    have h2 := h.ok.used
    have h3 := h.ok.q1
    omega
  refine ⟨gr, fA, fc, rfl, ⟨hlV, hfi, hv⟩, ?_, ?_, ?_, hle, hnil, hown, hbl, hlt.2, hlt.1⟩
  · have := cell 0 (by omega)
    rw [Nat.add_zero] at this
    rw [this]
    simp [RFil.cells, hfi]
  · rw [cell 1 (by omega)]
    simp [RFil.cells, hv]
  · rw [cell 2 (by omega)]
    simp [RFil.cells, hfi]

theorem usedL_succ (L : List Fil) (i : Nat) (h : i < L.length) : usedL (L.take (i + 1)) = usedL (L.take i) + L[i].b.length := by
  rw [List.take_succ_eq_append_getElem h]
  simp only [usedL, List.map_append, List.sum_append, List.map_cons, List.map_nil, List.sum_cons, List.sum_nil]
  omega
theorem usedL_take_le (L : List Fil) (i : Nat) : usedL (L.take i) ≤ usedL L := by
  have := congrArg usedL (List.take_append_drop i L)
  simp only [usedL, List.map_append, List.sum_append] at this ⊢
  omega

set_option maxRecDepth 100000 in
set_option maxHeartbeats 1000000 in
theorem rUsed_any (h : RDiskAt w B g D A c V) : Calls Tryz.prog 43 #[.pointer (some ⟨g, 0, none⟩)] w fun e w' => e = .returned (.int .i64 (usedL D.L)) ∧ w = w' := by
  have c0 := h.blk.cell 0
  simp at c0
  have hcnt := h.ok.cnt
  have hq := h.ok.q1
  have hu := h.ok.used
  have HD := Lib.hid h
  clear h
  go_enter Tryz.func43, Tryz.ntmps43
  go_wp2
  go_loop [3, 4] (fun n i => ∃ k : Nat, k ≤ D.L.length ∧ i = .int .i64 k ∧ n = .int .i64 (usedL (D.L.take k))) (fun _ i => D.L.length - (intOf i).toNat)
  case atStart => exact ⟨0, Nat.zero_le _, rfl, rfl⟩
  case round =>
    obtain ⟨k, hk, rfl, rfl⟩ := hrel
    have hut := usedL_take_le D.L k
    by_cases hlt : k < D.L.length
    · obtain ⟨gr, fA, fc, rfl, -, -, c1, -, -, -, -, hbl, -⟩ := HD.out.at_ hlt
      have HS := Lib.hid (usedL_succ D.L k hlt)
      have hs2 := usedL_take_le D.L (k + 1)
      rw [HS.out] at hs2
      go_wp2
      go_round
      case rel => exact ⟨k + 1, by omega, by go_num, by rw [HS.out]; go_num⟩
      case measure => simp [intOf]; omega
    · obtain rfl : k = D.L.length := by omega
      go_wp2
      go_ret
      exact ⟨ret_int (by simp), rfl⟩

/-! ### find -/

/-- how many names stand ahead of a name. -/
def posF (s : ByteArray) : List Fil → Nat
  | [] => 0
  | f :: L => if ltN f.name s then posF s L + 1 else 0
theorem posF_le (s : ByteArray) : ∀ L : List Fil, posF s L ≤ L.length
  | [] => Nat.le_refl _
  | f :: L => by
    unfold posF
    split
    · have := posF_le s L
      simp only [List.length_cons]
      omega
    · exact Nat.zero_le _
theorem posF_ahead (s : ByteArray) : ∀ (L : List Fil) (i : Nat) (h : i < L.length), i < posF s L → ltN L[i].name s
  | [], i, h, _ => by simp at h
  | f :: L, i, h, hi => by
    unfold posF at hi
    split at hi
    · rename_i hlt
      cases i with
      | zero => exact hlt
      | succ i => exact posF_ahead s L i (by simpa using h) (by omega)
    · omega
theorem posF_at (s : ByteArray) : ∀ (L : List Fil) (h : posF s L < L.length), ¬ ltN L[posF s L].name s
  | [], h => by simp at h
  | f :: L, h => by
    by_cases hlt : ltN f.name s
    · have e : posF s (f :: L) = posF s L + 1 := by simp [posF, hlt]
      have h' : posF s L < L.length := by rw [e] at h; simpa using h
      have := posF_at s L h'
      simp only [e, List.getElem_cons_succ]
      exact this
    · have e : posF s (f :: L) = 0 := by simp [posF, hlt]
      simp only [e, List.getElem_cons_zero]
      exact hlt
/-- whether it is there. -/
def isF (s : ByteArray) (L : List Fil) : Bool := (findF s L).isSome
theorem isF_pos {s : ByteArray} {L : List Fil} (hs : SortedF L) : isF s L = match L[posF s L]? with | some f => decide (f.name = s) | none => false := by
  unfold isF
  induction L with
  | nil => simp [findF]
  | cons f L ih =>
    obtain ⟨h1, h2⟩ := List.pairwise_cons.1 hs
    by_cases hlt : ltN f.name s
    · have e : posF s (f :: L) = posF s L + 1 := by simp [posF, hlt]
      have hne : f.name ≠ s := fun e => ltN_irrefl _ (e ▸ hlt)
      rw [e, List.getElem?_cons_succ]
      unfold findF
      rw [if_neg hne]
      exact ih h2
    · have e : posF s (f :: L) = 0 := by simp [posF, hlt]
      rw [e, List.getElem?_cons_zero]
      unfold findF
      by_cases hn : f.name = s
      · simp [hn]
      · simp only [hn, if_false, decide_false]
        have : findF s L = none := findF_none.2 fun g hg e => hlt (e ▸ h1 g hg)
        simp [this]

theorem bytesLess_lt : ∀ a b : List UInt8, Op.bytesLess a b = decide (a < b)
  | [], [] => by simp [Op.bytesLess]
  | [], _ :: _ => by simp [Op.bytesLess]
  | _ :: _, [] => by simp [Op.bytesLess]
  | x :: a, y :: b => by
    rw [Bool.eq_iff_iff]
    simp only [Op.bytesLess, bytesLess_lt a b, Bool.or_eq_true, Bool.and_eq_true, beq_iff_eq, decide_eq_true_eq, List.cons_lt_cons_iff]
theorem less_of (a b : ByteArray) : Op.bytesLess a.toList b.toList = decide (ltN a b) := by
  rw [bytesLess_lt, ByteArray.toList_eq, ByteArray.toList_eq]
  rfl

set_option maxRecDepth 100000 in
set_option maxHeartbeats 1000000 in
theorem rfind_any (h : RDiskAt w B g D A c V) (s : ByteArray) :
    Calls Tryz.prog 60 #[.pointer (some ⟨g, 0, none⟩), .string s] w fun e w' => e = .returned (.tuple #[.int .i64 (posF s D.L), .bool (isF s D.L)]) ∧ ∃ n, w' = w.drewN n := by
  have c0 := h.blk.cell 0
  simp at c0
  have hcnt := h.ok.cnt
  have hso := h.ok.sorted
  have HSo := Lib.hid hso
  clear hso
  have HD := Lib.hid h
  clear h
  have hple := posF_le s D.L
  go_enter Tryz.func60, Tryz.ntmps60
  go_wp2
  go_loop [6] (fun i => ∃ k : Nat, k ≤ posF s D.L ∧ i = .int .i64 k) (fun i => posF s D.L - (intOf i).toNat)
  case atStart => exact ⟨0, Nat.zero_le _, rfl⟩
  case round =>
    obtain ⟨k, hk, rfl⟩ := hrel
    by_cases hlt : k < posF s D.L
    · have hkl : k < D.L.length := by omega
      obtain ⟨gr, fA, fc, rfl, -, c1, -⟩ := HD.out.at_ hkl
      have hb : Op.bytesLess D.L[k].name.toList s.toList = true := by rw [less_of]; exact decide_eq_true (posF_ahead s D.L k hkl hlt)
      generalize D.L[k].name = nm at c1 hb
      go_wp2
      go_round
      case rel => exact ⟨k + 1, by omega, by go_num⟩
      case measure => simp [intOf]; omega
    · obtain rfl : k = posF s D.L := by omega
      have hisf := isF_pos (s := s) HSo.out
      by_cases hkl : posF s D.L < D.L.length
      · obtain ⟨gr, fA, fc, rfl, -, c1, -⟩ := HD.out.at_ hkl
        have hb : Op.bytesLess D.L[posF s D.L].name.toList s.toList = false := by rw [less_of]; exact decide_eq_false (posF_at s D.L hkl)
        rw [List.getElem?_eq_getElem hkl] at hisf
        simp only at hisf
        have hi0 : (0 : Int) ≤ (posF s D.L : Int) := Int.natCast_nonneg _
        have hi1 : (posF s D.L : Int) < (D.L.length : Int) := by omega
        have hd : decide ((posF s D.L : Int) < (D.L.length : Int)) = true := by simp; omega
        have hb2 : (D.L[posF s D.L].name.toList == s.toList) = isF s D.L := by
          rw [hisf, Bool.eq_iff_iff]
          simp only [beq_iff_eq, decide_eq_true_eq, ByteArray.toList_eq]
          exact ⟨fun e => bl_inj e, fun e => by rw [e]⟩
        have HI := Lib.hid hisf
        clear hisf
        generalize D.L[posF s D.L].name = nm at c1 hb hb2
        go_wp2
        go_quiet (fail)
        go_wp2
        go_ret2
        exact ⟨rfl, _, rfl⟩
      · have hd : decide ((posF s D.L : Int) < (D.L.length : Int)) = false := by simp; omega
        rw [List.getElem?_eq_none (by omega)] at hisf
        simp only at hisf
        have HI := Lib.hid hisf
        clear hisf
        go_wp2
        go_quiet (fail)
        go_wp2
        go_ret2
        exact ⟨by rw [HI.out]; rfl, _, rfl⟩
end
end Go.Proofs.YtdgpaddmheagoaaGreatDoor

namespace Go.Proofs.YtdgpaddmheagoaaGreatDoor
open Go.RowKit

theorem info_file : (Tryz.prog.info? 73).map (fun i => (i.zero, i.size, i.bytes)) = some (some (.agg #[.string ByteArray.empty, .slice none 0 0, .int .i64 0]), 3, 48) := by kernel_rfl
theorem rcells_one (V : List RFil) (h : ∀ r ∈ V, ∃ A n c, r.2 = .slice A n c) : ∀ u ∈ rcells V, u.oneCell' = true := by
  intro u hu
  obtain ⟨r, hr, hu⟩ := List.mem_flatMap.1 hu
  obtain ⟨A, n, c, e⟩ := h r hr
  simp only [RFil.cells, e, List.mem_cons, List.not_mem_nil, or_false] at hu
  rcases hu with rfl | rfl | rfl <;> rfl

theorem own_cap {w : World} {base e size n c : Nat} {A : Option Addr} {xs : List Value} (h : w.ownsRow base e size (.slice A n c) n xs) : n ≤ c ∧ c ≤ maxLen := by
  rcases h.2 with ⟨hv, hn⟩ | ⟨g, cap, cur, hv, -, -, h1, h2, -⟩
  · injection hv with _ _ h3
    exact ⟨by omega, by omega⟩
  · injection hv with _ _ h3
    exact ⟨by omega, by omega⟩

section
variable {w w' : World} {B g : Nat} {D : Dsk} {A : Option Addr} {c : Nat} {V : List RFil}
theorem RDiskAt.one (h : RDiskAt w B g D A c V) : ∀ u ∈ rcells V, u.oneCell' = true := rcells_one V fun r hr => by
  obtain ⟨A, c, e, -⟩ := own_shape (h.own r hr)
  exact ⟨A, _, c, e⟩

/-- the files' slice is another one now. -/
theorem RDiskAt.relist {A' : Option Addr} {c' : Nat} {V' : List RFil} {L' : List Fil} {w2 : World} (h : RDiskAt w B g D A c V) (hf : Frm Nix w w2) (hfils : V'.map (·.1) = L') (hrow : w2.ownsRow B 73 3 (.slice A' L'.length c') L'.length (rcells V'))
    (hnew : ∀ k, (Value.slice A' L'.length c').ownBlock = some k → w.heap.size ≤ k) (hown : ∀ r ∈ V', w2.ownsRow B 5 1 r.2 r.1.b.length (bvs r.1.b)) (hok : ({ D with L := L' } : Dsk).Ok) :
    RDiskAt (w2.setCell ⟨g, 0, none⟩ (.slice A' L'.length c')) B g { D with L := L' } A' c' V' ∧ Frm (fun k => k = g) w (w2.setCell ⟨g, 0, none⟩ (.slice A' L'.length c')) := by
  have hb := h.blk.frm hf id
  have hfs : Frm (fun k => k = g) w2 (w2.setCell ⟨g, 0, none⟩ (.slice A' L'.length c')) := (Frm.refl (fun k => k = g) w2).setCell (.inl rfl) _
  have hglt := h.blk.lt
  refine ⟨⟨h.gB, hb.set_ 0 _, own_frm hrow hfs (fun k hk e => by have := hnew k hk; omega), hfils, fun r hr => own_frm (hown r hr) hfs (fun k hk e => ?_), hok⟩, (Frm.nix hf).trans hfs⟩
  obtain ⟨cs, hb'⟩ := own3_at (hown r hr) hk
  exact hb'.ne_ hb (by decide) e
end

def DropOut (w : World) (B g : Nat) (D' : Dsk) (V' : List RFil) (e : Ending) (w' : World) : Prop :=
  e = .returned (.tuple #[]) ∧ ∃ A' c', RDiskAt w' B g D' A' c' V' ∧ Frm (fun k => k = g) w w' ∧ ∀ k, (Value.slice A' D'.L.length c').ownBlock = some k → w.heap.size ≤ k

set_option maxRecDepth 100000 in
set_option maxHeartbeats 2000000 in
theorem rdrop_any {w : World} {B g : Nat} {D : Dsk} {A : Option Addr} {c : Nat} {V : List RFil} (h : RDiskAt w B g D A c V) (i : Nat) (hi : i < D.L.length) (hok : ({ D with L := D.L.take i ++ D.L.drop (i + 1) } : Dsk).Ok) :
    Calls Tryz.prog 65 #[.pointer (some ⟨g, 0, none⟩), .int .i64 i] w (DropOut w B g { D with L := D.L.take i ++ D.L.drop (i + 1) } (V.take i ++ V.drop (i + 1))) := by
  obtain ⟨i0, hi0, hz0, hz1, hz2⟩ := info_parts info_file
  have hcnt := h.ok.cnt
  have hlen := h.len
  obtain ⟨hnc, hcm⟩ := own_cap h.row
  have hB : B ≤ w.heap.size := Nat.le_trans h.gB (Nat.le_of_lt h.blk.lt)
  have hrd := Rd.of_own h.row
  -- the empty slice
  have hfa : Frm Nix w (w.alloc (.cells #[] 73)).drew := ((Frm.refl Nix w).alloc _).drew
  have hown0 : (w.alloc (.cells #[] 73)).drew.ownsRow B 73 3 (.slice (some ⟨w.heap.size, 0, none⟩) 0 0) 0 [] :=
    ⟨rfl, .inr ⟨_, 0, #[], rfl, hB, heap_alloc_new w _, Nat.le_refl _, Nat.zero_le _, rfl, rfl⟩⟩
  obtain ⟨v1, w1, hrun1, hown1, hg1, hat1⟩ := run_append_any (P := Tryz.prog) (w.alloc (.cells #[] 73)).drew B 55 73 i0 _ 3 48 Tryz.underlying55 hi0 hz0 hz1 hz2 rfl (by decide) _ 0 [] hown0
    _ A i c ((rcells V).take (i * 3)) ((hrd.take (Nat.le_of_lt hi)).frm hfa fun _ _ => id) (fun u hu => h.one u (List.mem_of_mem_take hu)) (by unfold maxLen; omega) (by omega) (by simp; omega)
  rw [Nat.zero_add, List.nil_append] at hown1
  have hb1 : ∀ k, v1.ownBlock = some k → w.heap.size ≤ k := fun k hk => by
    rcases hat1 with e | e
    · rw [e] at hk
      simp [Value.ownBlock] at hk
      omega
    · rw [e] at hk
      injection hk with hk
      simp at hk
      omega
  have hf1 : Frm Nix w w1 := hfa.grown hg1 (fun k hk => .inr (by simp [Value.ownBlock] at hk; omega))
  obtain ⟨v2, w2, hrun2, hown2, hg2, hat2⟩ := run_append_any (P := Tryz.prog) w1 B 55 73 i0 _ 3 48 Tryz.underlying55 hi0 hz0 hz1 hz2 rfl (by decide) v1 i _ hown1
    _ _ _ (c - (i + 1)) _ ((hrd.cut (k := i + 1) (by omega) hnc).frm hf1 fun _ _ => id) (fun u hu => h.one u (List.mem_of_mem_drop hu)) (by unfold maxLen; omega) (by omega) (Nat.le_trans hB hf1.size)
  have hf2 : Frm Nix w w2 := hf1.grown hg2 (fun k hk => .inr (hb1 k hk))
  obtain ⟨A', c', rfl, -⟩ := own_shape hown2
  have c0 := h.blk.cell 0
  have f0 := h.blk.frozen 0
  simp at c0
  have hgl := h.blk.lt
  have c01 := (hf1.cell (p := ⟨g, 0, none⟩) hgl id).trans c0
  have c02 := (hf2.cell (p := ⟨g, 0, none⟩) hgl id).trans c0
  have f02 := (hf2.frozen (p := ⟨g, 0, none⟩) hgl id).trans f0
  have hfils : (V.take i ++ V.drop (i + 1)).map (·.1) = D.L.take i ++ D.L.drop (i + 1) := by rw [List.map_append, List.map_take, List.map_drop, h.fils]
  have hll : (D.L.take i ++ D.L.drop (i + 1)).length = i + (D.L.length - (i + 1)) := by simp; omega
  have HF : Hid (RDiskAt (w2.setCell ⟨g, 0, none⟩ (.slice A' (i + (D.L.length - (i + 1))) c')) B g { D with L := D.L.take i ++ D.L.drop (i + 1) } A' c' (V.take i ++ V.drop (i + 1)) ∧ Frm (fun k => k = g) w (w2.setCell ⟨g, 0, none⟩ (.slice A' (i + (D.L.length - (i + 1))) c')) ∧ ∀ k, (Value.slice A' (i + (D.L.length - (i + 1))) c').ownBlock = some k → w.heap.size ≤ k) := by
    have hnew : ∀ k, (Value.slice A' (i + (D.L.length - (i + 1))) c').ownBlock = some k → w.heap.size ≤ k := fun k hk => by
      rcases hat2 with e | e
      · rw [e] at hk
        exact hb1 k hk
      · rw [e] at hk
        injection hk with hk
        have := hf1.size
        omega
    have := h.relist (L' := D.L.take i ++ D.L.drop (i + 1)) (A' := A') (c' := c') hf2 hfils (by
        rw [hll, rcells_append, ← rcells_take, ← rcells_drop]
        exact hown2) (by rw [hll]; exact hnew) (fun r hr => own_frm (h.own r (by
          rcases List.mem_append.1 hr with hr | hr
          · exact List.mem_of_mem_take hr
          · exact List.mem_of_mem_drop hr)) hf2 fun _ _ => id) hok
    rw [hll] at this
    exact ⟨this.1, this.2, hnew⟩
  have HLL := Lib.hid hll
  have hI0 : (0 : Int) ≤ (i : Int) := Int.natCast_nonneg _
  have hI1 : (i : Int) ≤ (c : Int) := by omega
  have hI2 : (i : Int) + 1 ≤ (D.L.length : Int) := by omega
  have hI3 : (0 : Int) ≤ (i : Int) + 1 := by omega
  have hw : IntKind.i64.wrap ((i : Int) + 1) = (i : Int) + 1 := IntWalk.i64_in _ (by omega)
  have hn1 := World.new_ne w ⟨g, 0, none⟩ c0
  clear hfa hown0 hown1 hg1 hat1 hb1 hf1 hown2 hg2 hat2 hf2 hfils hll hrd hok h hz0 hz1 hz2 hi0
  go_enter Tryz.func65, Tryz.ntmps65
  go_wp2
  go_region_law (first | (refine step_append_run hrun1 (by rfl) _ _ (by rfl) (by rfl) (by rfl) ?_) | (refine step_append_run hrun2 (by rfl) _ _ (by rfl) (by rfl) (by rfl) ?_))
  all_goals
    go_end0
    exact ⟨rfl, _, _, HF.out.1, HF.out.2.1, fun k hk => HF.out.2.2 k (by rw [← HLL.out]; exact hk)⟩
end Go.Proofs.YtdgpaddmheagoaaGreatDoor
