/-
  The reference's disk: put, drop.
-/
import Derived.Test.YthhkblogocoeeaaRefB
import Derived.Deep.RegionLaw
namespace Go.Proofs.Ythhkblogocoeeaa
open Go.RowKit

theorem info_file : (Try.prog.info? 62).map (fun i => (i.zero, i.size, i.bytes)) = some (some (.agg #[.string ByteArray.empty, .slice none 0 0, .int .i64 0]), 3, 48) := by kernel_rfl
theorem rcells_one (V : List RFil) (h : ∀ r ∈ V, ∃ A n c, r.2 = .slice A n c) : ∀ u ∈ rcells V, u.oneCell' = true := by
  intro u hu
  obtain ⟨r, hr, hu⟩ := List.mem_flatMap.1 hu
  obtain ⟨A, n, c, e⟩ := h r hr
  simp only [RFil.cells, e, List.mem_cons, List.not_mem_nil, or_false] at hu
  rcases hu with rfl | rfl | rfl <;> rfl

theorem own_cap {w : World} {base e size n c : Nat} {A : Option Addr} {xs : List Value} (h : w.ownsRow base e size (.slice A n c) n xs) : n ≤ c ∧ c ≤ maxLen := by
  rcases h.2 with ⟨hv, hn⟩ | ⟨g, cap, cur, hv, -, -, h1, h2, -⟩
  · injection hv with _ _ h3
    exact ⟨by omega, by omega⟩
  · injection hv with _ _ h3
    exact ⟨by omega, by omega⟩

section
variable {w w' : World} {B g : Nat} {D : Dsk} {A : Option Addr} {c : Nat} {V : List RFil}
theorem RDiskAt.one (h : RDiskAt w B g D A c V) : ∀ u ∈ rcells V, u.oneCell' = true := rcells_one V fun r hr => by
  obtain ⟨A, c, e, -⟩ := own_shape (h.own r hr)
  exact ⟨A, _, c, e⟩

/-- the files' slice is another one now. -/
theorem RDiskAt.relist {A' : Option Addr} {c' : Nat} {V' : List RFil} {L' : List Fil} {w2 : World} (h : RDiskAt w B g D A c V) (hf : Frm Nix w w2) (hfils : V'.map (·.1) = L') (hrow : w2.ownsRow B 62 3 (.slice A' L'.length c') L'.length (rcells V'))
    (hnew : ∀ k, (Value.slice A' L'.length c').ownBlock = some k → w.heap.size ≤ k) (hown : ∀ r ∈ V', w2.ownsRow B 5 1 r.2 r.1.b.length (bvs r.1.b)) (hok : ({ D with L := L' } : Dsk).Ok) :
    RDiskAt (w2.setCell ⟨g, 0, none⟩ (.slice A' L'.length c')) B g { D with L := L' } A' c' V' ∧ Frm (fun k => k = g) w (w2.setCell ⟨g, 0, none⟩ (.slice A' L'.length c')) := by
  have hb := h.blk.frm hf id
  have hfs : Frm (fun k => k = g) w2 (w2.setCell ⟨g, 0, none⟩ (.slice A' L'.length c')) := (Frm.refl (fun k => k = g) w2).setCell (.inl rfl) _
  have hglt := h.blk.lt
  refine ⟨⟨h.gB, hb.set_ 0 _, own_frm hrow hfs (fun k hk e => by have := hnew k hk; omega), hfils, fun r hr => own_frm (hown r hr) hfs (fun k hk e => ?_), hok⟩, (Frm.nix hf).trans hfs⟩
  obtain ⟨cs, hb'⟩ := own3_at (hown r hr) hk
  exact hb'.ne_ hb (by decide) e
end

def DropOut (w : World) (B g : Nat) (D' : Dsk) (V' : List RFil) (e : Ending) (w' : World) : Prop :=
  e = .returned (.tuple #[]) ∧ ∃ A' c', RDiskAt w' B g D' A' c' V' ∧ Frm (fun k => k = g) w w' ∧ ∀ k, (Value.slice A' D'.L.length c').ownBlock = some k → w.heap.size ≤ k

set_option maxRecDepth 100000 in
set_option maxHeartbeats 2000000 in
theorem rdrop_any {w : World} {B g : Nat} {D : Dsk} {A : Option Addr} {c : Nat} {V : List RFil} (h : RDiskAt w B g D A c V) (i : Nat) (hi : i < D.L.length) (hok : ({ D with L := D.L.take i ++ D.L.drop (i + 1) } : Dsk).Ok) :
    Calls Try.prog 47 #[.pointer (some ⟨g, 0, none⟩), .int .i64 i] w (DropOut w B g { D with L := D.L.take i ++ D.L.drop (i + 1) } (V.take i ++ V.drop (i + 1))) := by
  obtain ⟨i0, hi0, hz0, hz1, hz2⟩ := info_parts info_file
  have hcnt := h.ok.cnt
  have hlen := h.len
  obtain ⟨hnc, hcm⟩ := own_cap h.row
  have hB : B ≤ w.heap.size := Nat.le_trans h.gB (Nat.le_of_lt h.blk.lt)
  have hrd := Rd.of_own h.row
  -- the empty slice
  have hfa : Frm Nix w (w.alloc (.cells #[] 62)).drew := ((Frm.refl Nix w).alloc _).drew
  have hown0 : (w.alloc (.cells #[] 62)).drew.ownsRow B 62 3 (.slice (some ⟨w.heap.size, 0, none⟩) 0 0) 0 [] :=
    ⟨rfl, .inr ⟨_, 0, #[], rfl, hB, heap_alloc_new w _, Nat.le_refl _, Nat.zero_le _, rfl, rfl⟩⟩
  obtain ⟨v1, w1, hrun1, hown1, hg1, hat1⟩ := run_append_any (P := Try.prog) (w.alloc (.cells #[] 62)).drew B 58 62 i0 _ 3 48 Try.underlying58 hi0 hz0 hz1 hz2 rfl (by decide) _ 0 [] hown0
    _ A i c ((rcells V).take (i * 3)) ((hrd.take (Nat.le_of_lt hi)).frm hfa fun _ _ => id) (fun u hu => h.one u (List.mem_of_mem_take hu)) (by unfold maxLen; omega) (by omega) (by simp; omega)
  rw [Nat.zero_add, List.nil_append] at hown1
  have hb1 : ∀ k, v1.ownBlock = some k → w.heap.size ≤ k := fun k hk => by
    rcases hat1 with e | e
    · rw [e] at hk
      simp [Value.ownBlock] at hk
      omega
    · rw [e] at hk
      injection hk with hk
      simp at hk
      omega
  have hf1 : Frm Nix w w1 := hfa.grown hg1 (fun k hk => .inr (by simp [Value.ownBlock] at hk; omega))
  obtain ⟨v2, w2, hrun2, hown2, hg2, hat2⟩ := run_append_any (P := Try.prog) w1 B 58 62 i0 _ 3 48 Try.underlying58 hi0 hz0 hz1 hz2 rfl (by decide) v1 i _ hown1
    _ _ _ (c - (i + 1)) _ ((hrd.cut (k := i + 1) (by omega) hnc).frm hf1 fun _ _ => id) (fun u hu => h.one u (List.mem_of_mem_drop hu)) (by unfold maxLen; omega) (by omega) (Nat.le_trans hB hf1.size)
  have hf2 : Frm Nix w w2 := hf1.grown hg2 (fun k hk => .inr (hb1 k hk))
  obtain ⟨A', c', rfl, -⟩ := own_shape hown2
  have c0 := h.blk.cell 0
  have f0 := h.blk.frozen 0
  simp at c0
  have hgl := h.blk.lt
  have c01 := (hf1.cell (p := ⟨g, 0, none⟩) hgl id).trans c0
  have c02 := (hf2.cell (p := ⟨g, 0, none⟩) hgl id).trans c0
  have f02 := (hf2.frozen (p := ⟨g, 0, none⟩) hgl id).trans f0
  have hfils : (V.take i ++ V.drop (i + 1)).map (·.1) = D.L.take i ++ D.L.drop (i + 1) := by rw [List.map_append, List.map_take, List.map_drop, h.fils]
  have hll : (D.L.take i ++ D.L.drop (i + 1)).length = i + (D.L.length - (i + 1)) := by simp; omega
  have HF : Hid (RDiskAt (w2.setCell ⟨g, 0, none⟩ (.slice A' (i + (D.L.length - (i + 1))) c')) B g { D with L := D.L.take i ++ D.L.drop (i + 1) } A' c' (V.take i ++ V.drop (i + 1)) ∧ Frm (fun k => k = g) w (w2.setCell ⟨g, 0, none⟩ (.slice A' (i + (D.L.length - (i + 1))) c')) ∧ ∀ k, (Value.slice A' (i + (D.L.length - (i + 1))) c').ownBlock = some k → w.heap.size ≤ k) := by
    have hnew : ∀ k, (Value.slice A' (i + (D.L.length - (i + 1))) c').ownBlock = some k → w.heap.size ≤ k := fun k hk => by
      rcases hat2 with e | e
      · rw [e] at hk
        exact hb1 k hk
      · rw [e] at hk
        injection hk with hk
        have := hf1.size
        omega
    have := h.relist (L' := D.L.take i ++ D.L.drop (i + 1)) (A' := A') (c' := c') hf2 hfils (by
        rw [hll, rcells_append, ← rcells_take, ← rcells_drop]
        exact hown2) (by rw [hll]; exact hnew) (fun r hr => own_frm (h.own r (by
          rcases List.mem_append.1 hr with hr | hr
          · exact List.mem_of_mem_take hr
          · exact List.mem_of_mem_drop hr)) hf2 fun _ _ => id) hok
    rw [hll] at this
    exact ⟨this.1, this.2, hnew⟩
  have HLL := Lib.hid hll
  have hI0 : (0 : Int) ≤ (i : Int) := Int.natCast_nonneg _
  have hI1 : (i : Int) ≤ (c : Int) := by omega
  have hI2 : (i : Int) + 1 ≤ (D.L.length : Int) := by omega
  have hI3 : (0 : Int) ≤ (i : Int) + 1 := by omega
  have hw : IntKind.i64.wrap ((i : Int) + 1) = (i : Int) + 1 := IntWalk.i64_in _ (by omega)
  have hn1 := World.new_ne w ⟨g, 0, none⟩ c0
  clear hfa hown0 hown1 hg1 hat1 hb1 hf1 hown2 hg2 hat2 hf2 hfils hll hrd hok h hz0 hz1 hz2 hi0
  go_enter Try.func47, Try.ntmps47
  go_wp2
  go_region_law (first | (refine step_append_run hrun1 (by rfl) _ _ (by rfl) (by rfl) (by rfl) ?_) | (refine step_append_run hrun2 (by rfl) _ _ (by rfl) (by rfl) (by rfl) ?_))
  all_goals
    go_end0
    exact ⟨rfl, _, _, HF.out.1, HF.out.2.1, fun k hk => HF.out.2.2 k (by rw [← HLL.out]; exact hk)⟩
end Go.Proofs.Ythhkblogocoeeaa
