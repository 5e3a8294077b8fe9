/-
  The statements' own short run of a disk ('lives') comes out true, and turns nothing that was there.
-/
import Derived.Test.YtdgpaddmheagoaaGreatDoorDiskK
import Derived.Deep.RegionHeld3
import Derived.Lib.SlBytesConst
namespace Go.Proofs.YtdgpaddmheagoaaGreatDoor
open Go.RowKit

theorem inj_of_nodup {α β : Type} {f : α → β} : ∀ {l : List α}, (l.map f).Nodup → ∀ x ∈ l, ∀ y ∈ l, f x = f y → x = y
  | [], _, _, hx, _, _, _ => by cases hx
  | a :: l, h, x, hx, y, hy, e => by
    simp only [List.map_cons, List.nodup_cons] at h
    rcases List.mem_cons.1 hx with rfl | hx
    · rcases List.mem_cons.1 hy with rfl | hy
      · rfl
      · exact absurd (List.mem_map.2 ⟨y, hy, e.symm⟩) h.1
    · rcases List.mem_cons.1 hy with rfl | hy
      · exact absurd (List.mem_map.2 ⟨x, ‹x ∈ l›, e⟩) h.1
      · exact inj_of_nodup h.2 x ‹x ∈ l› y ‹y ∈ l› e
theorem filter_add {f : Fil} {p p' : Fil → Bool} (h0 : p f = false) (h1 : p' f = true) : ∀ {L : List Fil}, SortedF L → f ∈ L → (∀ x ∈ L, x.name ≠ f.name → p' x = p x) → (L.filter p').Perm (f :: L.filter p)
  | [], _, hf, _ => by cases hf
  | a :: L, hs, hf, h2 => by
    obtain ⟨s1, s2⟩ := List.pairwise_cons.1 hs
    rcases List.mem_cons.1 hf with rfl | hf
    · have : L.filter p' = L.filter p := List.filter_congr fun x hx => h2 x (by simp [hx]) (fun e => ltN_irrefl _ (e ▸ s1 x hx))
      rw [List.filter_cons_of_pos h1, List.filter_cons_of_neg (by simp [h0]), this]
    · have hne : a.name ≠ f.name := fun e => ltN_irrefl _ (e ▸ s1 f hf)
      have ih := filter_add h0 h1 s2 hf fun x hx => h2 x (by simp [hx])
      have ha := h2 a (by simp) hne
      by_cases hp : p a = true
      · rw [List.filter_cons_of_pos (by rw [ha]; exact hp), List.filter_cons_of_pos hp]
        exact (ih.cons a).trans (List.Perm.swap _ _ _)
      · rw [List.filter_cons_of_neg (by rw [ha]; exact hp), List.filter_cons_of_neg hp]
        exact ih

/-- the files that were gone over. -/
def goneB (seen : List Nat) (R : List Rep) (f : Fil) : Bool := match repOf f.name R with | some r => seen.contains r.born | none => false
def goneL (seen : List Nat) (R : List Rep) (L : List Fil) : List Fil := L.filter (goneB seen R)

section
variable {w w' : World} {B g m clock : Nat} {D : Dsk} {R : List Rep} {seen : List Nat}
theorem goneL_nil (L : List Fil) : goneL [] R L = [] := by
  refine List.filter_eq_nil_iff.2 fun f _ => ?_
  unfold goneB
  split <;> simp
theorem DiskAt.gone_mem (h : DiskAt w B g m D R clock) {r : Rep} (hr : r ∈ R) : goneB seen R r.fil = seen.contains r.born := by
  unfold goneB
  rw [repOf_mem h.names r hr]
theorem DiskAt.gone_all (h : DiskAt w B g m D R clock) (hl : leftE seen (R.map Rep.ent) = []) : goneL seen R D.L = D.L := by
  refine List.filter_eq_self.2 fun f hf => ?_
  obtain ⟨r, hr, rfl⟩ := List.mem_map.1 (h.perm.mem_iff.1 hf)
  rw [h.gone_mem hr]
  have := List.filter_eq_nil_iff.1 hl r.ent (List.mem_map.2 ⟨r, hr, rfl⟩)
  simpa [Rep.ent] using this
theorem DiskAt.gone_step (h : DiskAt w B g m D R clock) {r : Rep} (hr : r ∈ R) (hs : r.born ∉ seen) : goneL (seen ++ [r.born]) R D.L = putF r.fil (goneL seen R D.L) := by
  have hsl : SortedF (goneL seen R D.L) := h.ok.sorted.filter _
  refine sorted_perm_eq (h.ok.sorted.filter _) hsl.put ?_
  refine List.Perm.trans ?_ (putF_perm hsl).symm
  have hdel : delF r.fil.name (goneL seen R D.L) = goneL seen R D.L := by
    refine List.filter_eq_self.2 fun f hf => ?_
    obtain ⟨h1, h2⟩ := List.mem_filter.1 hf
    simp only [ne_eq, decide_eq_true_eq]
    intro e
    unfold goneB at h2
    rw [e, repOf_mem h.names r hr] at h2
    exact hs (by simpa using h2)
  rw [hdel]
  refine filter_add ?_ ?_ h.ok.sorted (h.filMem hr) fun x hx hne => ?_
  · rw [h.gone_mem hr]
    simpa using hs
  · rw [h.gone_mem hr]
    simp
  · obtain ⟨a, ha, rfl⟩ := List.mem_map.1 (h.perm.mem_iff.1 hx)
    rw [h.gone_mem ha, h.gone_mem ha]
    have : a.born ≠ r.born := fun e => hne (by rw [inj_of_nodup h.borns a ha r hr e])
    simp [this]

theorem used_filter (p : Fil → Bool) (L : List Fil) : usedL (L.filter p) ≤ usedL L := by
  induction L with
  | nil => exact Nat.le_refl _
  | cons a L ih =>
    simp only [usedL] at ih
    by_cases h : p a = true
    · rw [List.filter_cons_of_pos h]
      simp only [usedL, List.map_cons, List.sum_cons]
      omega
    · rw [List.filter_cons_of_neg h]
      simp only [usedL, List.map_cons, List.sum_cons]
      omega
theorem Dsk.Ok.gone (h : D.Ok) (seen : List Nat) (R : List Rep) : ({ D with L := goneL seen R D.L } : Dsk).Ok := by
  have h1 := used_filter (goneB seen R) D.L
  have h2 := List.length_filter_le (goneB seen R) D.L
  have h3 := h.used
  have h4 := h.cnt
  exact ⟨h.sorted.filter _, h.lo, h.hi, h.q0, h.q1, by simp only [goneL]; omega, fun f hf => h.safe f (List.mem_filter.1 hf).1, by simp only [goneL]; omega, fun f hf => h.nm f (List.mem_filter.1 hf).1⟩
end

def CloneOut (w : World) (B : Nat) (D : Dsk) (e : Ending) (w' : World) : Prop :=
  ∃ g' F', e = .returned (.pointer (some ⟨g', 0, none⟩)) ∧ Dk w' B g' F' D ∧ Frm Nix w w' ∧ ∀ k, F' k → w.heap.size ≤ k

end Go.Proofs.YtdgpaddmheagoaaGreatDoor
namespace Go.Proofs.YtdgpaddmheagoaaGreatDoor
open Go.RowKit

def sA : ByteArray := ⟨#[97]⟩
def sB : ByteArray := ⟨#[66]⟩
def sb : ByteArray := ⟨#[98]⟩
def sc : ByteArray := ⟨#[99]⟩
def sx : ByteArray := ⟨#[120]⟩
def sz : ByteArray := ⟨#[122]⟩
def dL1 : Dsk := ⟨[⟨sA, [97, 98, 99], 0⟩], 10, -1, false, 1⟩
def dL2 : Dsk := ⟨[⟨sA, [97, 98, 99], 3⟩], 10, -1, false, 2⟩
def dL3 : Dsk := ⟨[⟨sA, [97, 98, 99, 100, 101], 3⟩], 10, -1, false, 3⟩
def dL4 : Dsk := ⟨[⟨sA, [97, 98, 99, 100, 101], 3⟩], 10, 0, false, 3⟩
def dL5 : Dsk := ⟨[⟨sA, [97, 98, 99, 100, 101], 3⟩], 10, 0, true, 3⟩
def dL6 : Dsk := ⟨[⟨sA, [97, 98, 99, 100], 4⟩], 10, -1, false, 3⟩
def dL7 : Dsk := ⟨[⟨sz, [97, 98, 99, 100, 101], 3⟩], 10, -1, false, 4⟩
theorem live1 : (dsk0 10).append sA [97, 98, 99] = (dL1, 0) := by rfl
theorem live2 : dL1.append sB [] = (dL1, 31) := by rfl
theorem live3 : dL1.append sb [0, 0, 0, 0, 0, 0, 0, 0] = (dL1, 2) := by rfl
theorem live4 : dL1.sync sA = (dL2, 0) := by rfl
theorem live5 : dL2.append sA [100, 101] = (dL3, 0) := by rfl
theorem live6 : dL3.stop 0 = (dL4, 0) := by rfl
theorem live7 : dL4.rename sA sc = (dL5, 30) := by rfl
theorem live8 : dL5.crash [1] = dL6 := by rfl
theorem live9 : dL6.read sA = [97, 98, 99, 100] ∧ dL6.there sA = 0 := ⟨rfl, rfl⟩
theorem live10 : dL3.rename sA sz = (dL7, 0) := by rfl
theorem live11 : dL6.delete sx = (dL6, 4) := by rfl

theorem Dk.disj {w : World} {B g : Nat} {D : Dsk} {F F2 F' : Nat → Prop} (h : Dk w B g F D) (hs : ∀ k, F k → ¬ F2 k) (hk : ∀ k, F' k → F2 k ∨ w.heap.size ≤ k) : ∀ k, F k → ¬ F' k := fun k h1 h2 => by
  rcases hk k h2 with h3 | h3
  · exact hs k h1 h3
  · have := (h.lo k h1).2
    omega

/-- a call of a disk that was made behind w0. -/
theorem DkOut.step {w0 w w' : World} {g : Nat} {F : Nat → Prop} {D D' : Dsk} {n : Int} {e : Ending} (h : DkOut w w0.heap.size g F D' n e w') (hd : Dk w w0.heap.size g F D) (hf : Frm Nix w0 w) :
    e = .returned (.int .i64 n) ∧ ∃ F', Dk w' w0.heap.size g F' D' ∧ Frm Nix w0 w' ∧ (∀ k, F' k → F k ∨ w.heap.size ≤ k) ∧ Frm F w w' := by
  obtain ⟨he, F', h1, h2, h3⟩ := h
  exact ⟨he, F', h1, hf.next h2 fun k hk => .inr (hd.lo k hk).1, h3, h2⟩

theorem bvs_lit (l : List UInt8) : bvs l = l.map fun c => Value.int .u8 c.toNat := rfl

end Go.Proofs.YtdgpaddmheagoaaGreatDoor