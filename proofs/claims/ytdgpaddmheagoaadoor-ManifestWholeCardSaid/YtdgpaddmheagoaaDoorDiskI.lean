/-
  Contracts of the disk package: Names.
-/
import Derived.Test.YtdgpaddmheagoaaDoorDiskH
import Derived.Test.YtdgpaddmheagoaaDoorIter
namespace Go.Proofs.YtdgpaddmheagoaaDoor
open Go.RowKit Go.Maps Go.Sort

def RU : Value → Option (DataW Unit × List MemPlace) := fun _ => some (.nil, [])

section
variable {w : World} {B g m clock : Nat} {D : Dsk} {R : List Rep}
theorem size_of_ok {s : ByteArray} (h : nameOk s = true) : s.size ≤ 24 := by
  simp [nameOk] at h
  omega
theorem DiskAt.nameLe (h : DiskAt w B g m D R clock) {r : Rep} (hr : r ∈ R) : r.fil.name.size ≤ 24 := size_of_ok (h.ok.nm _ (h.filMem hr))
def litOf (r : Rep) : Lit × DataW Unit := (.string (bl r.fil.name), .nil)
theorem DiskAt.rd_ent (h : DiskAt w B g m D R clock) {r : Rep} (hr : r ∈ R) : WideElems.rd Tryd.prog 9 RU r.ent.me = some (litOf r) := by
  have := h.nameLe hr
  have hle : r.fil.name.size ≤ maxLen := by unfold maxLen; omega
  simp [WideElems.rd, keyOf, mapKey, Tryd.underlying9, Ent.me, Rep.ent, RU, litOf, hle]
theorem DiskAt.owns (h : DiskAt w B g m D R clock) : w.ownsMap Tryd.prog 9 RU m R.length (.map ((R.map litOf).foldr DataW.insert [])) := by
  have hcnt : R.length ≤ 64 := by
    have := h.ok.cnt
    rw [h.perm.length_eq, List.length_map] at this
    exact this
  refine ⟨_, clock, h.map, ⟨by unfold maxLen; simp; omega, ?_, ?_⟩, by simp, ?_⟩
  · rw [MapKept.stamped_iff]
    refine ⟨?_, ?_, ?_⟩
    · intro x hx
      simp only [List.map_map, List.mem_map] at hx
      obtain ⟨r, hr, rfl⟩ := hx
      exact h.born r hr
    · simpa [List.map_map, Function.comp_def, Ent.me, Rep.ent] using h.borns
    · simp only [List.map_map, List.pairwise_map]
      exact h.names.imp fun {a b} hab (e : Value.string a.fil.name = Value.string b.fil.name) => hab (by injection e)
  · intro x hx
    simp only [List.map_map, List.mem_map] at hx
    obtain ⟨r, hr, rfl⟩ := hx
    exact ⟨_, h.rd_ent hr⟩
  · congr 1
    congr 1
    simp only [List.map_map]
    refine List.map_congr_left fun r hr => ?_
    simp only [Function.comp_def, WideElems.rg, h.rd_ent hr]
    rfl

theorem keys_perm (R : List Rep) : (strKeys (.map ((R.map litOf).foldr DataW.insert []) : DataW Unit)).Perm (R.map fun r => bl r.fil.name) := by
  have h1 := (WideShapes.sorted_perm (R.map litOf)).map (fun p : Lit × DataW Unit => strOf p.1)
  rw [List.map_map] at h1
  exact h1

theorem mergeSort_names (h : DiskAt w B g m D R clock) {ss : List (List UInt8)} (hp : ss.Perm (R.map fun r => bl r.fil.name)) : ss.mergeSort (fun x y => decide (x ≤ y)) = D.L.map fun f => bl f.name := by
  have hp2 : ss.Perm (D.L.map fun f => bl f.name) := by
    refine hp.trans ?_
    have := (h.perm.map fun f => bl f.name).symm
    rw [List.map_map] at this
    exact this
  have hs : (D.L.map fun f => bl f.name).Pairwise fun x y => x ≤ y := by
    rw [List.pairwise_map]
    exact List.Pairwise.imp (fun {a b : Fil} (hab : bl a.name < bl b.name) => List.le_of_lt hab) h.ok.sorted
  have hm : (ss.mergeSort (fun x y => decide (x ≤ y))).Pairwise fun x y => decide (x ≤ y) = true :=
    List.pairwise_mergeSort (fun a b c h1 h2 => by simp only [decide_eq_true_eq] at *; exact List.le_trans h1 h2) (fun a b => by
      simp only [Bool.or_eq_true, decide_eq_true_eq]; exact List.le_total a b) ss
  have hm' : (ss.mergeSort (fun x y => decide (x ≤ y))).Pairwise fun x y => x ≤ y := hm.imp fun h => by simpa using h
  exact ((List.mergeSort_perm ss _).trans hp2).eq_of_pairwise (fun _ _ _ _ hab hba => List.le_antisymm hab hba) hm' hs
theorem encStr_bl (s : ByteArray) : encStr (bl s) = .string s := rfl
end

set_option maxRecDepth 100000 in
theorem Names_nil (w : World) : Calls Tryd.prog 42 #[.pointer none] w fun e w' => e = .returned (.slice none 0 0) ∧ w = w' := by
  go_enter Tryd.func42, Tryd.ntmps42
  go_wp2
  go_ret
  exact ⟨rfl, rfl⟩

def NamesOut (w : World) (L : List Fil) (e : Ending) (w' : World) : Prop :=
  ∃ v, e = .returned v ∧ w'.ownsRow w.heap.size 9 1 v L.length (L.map fun f => .string f.name) ∧ Frm Nix w w'

set_option maxRecDepth 100000 in
theorem Names_any {B g : Nat} {F : Nat → Prop} {D : Dsk} {w : World} (h : Dk w B g F D) :
    Calls Tryd.prog 42 #[.pointer (some ⟨g, 0, none⟩)] w (NamesOut w D.L) := by
  obtain ⟨m, R, clock, h, -⟩ := h
  have c0 := h.blk.cell 0
  simp at c0
  have hcnt : R.length ≤ 64 := by
    have := h.ok.cnt
    rw [h.perm.length_eq, List.length_map] at this
    exact this
  have hsize : Maps.size (.map ((R.map litOf).foldr DataW.insert []) : DataW Unit) = R.length := by
    show ((R.map litOf).foldr DataW.insert []).length = _
    rw [length_sorted, List.length_map]
  have HK := Lib.hid (callsIn_wide.1 (Tryd.maps_Keys_63 (some m) w))
  have HS := Lib.hid (callsIn_wide.1 (Tryd.slices_Sorted_keys_62_63 m R.length _ RU w h.owns (by rw [hsize]; unfold maxLen; omega) (by rw [hsize]; omega)))
  have HD := Lib.hid h
  clear h hsize
  go_enter Tryd.func42, Tryd.ntmps42
  go_wp2_with (first | (go_at_call 63; refine HK.out.mono ?_; rintro e w' ⟨rfl, rfl⟩) | (go_at_call 62; refine HS.out.mono ?_; rintro e w' ⟨v, ss, rfl, hp, hown, -, hb⟩))
  go_ret
  have hp2 := hp.trans (keys_perm R)
  have hlen : ss.length = D.L.length := by rw [hp2.length_eq, List.length_map, HD.out.perm.length_eq, List.length_map]
  rw [mergeSort_names HD.out hp2, List.map_map, hlen] at hown
  refine ⟨v, rfl, own_base hown fun k hk => ?_, ((Frm.refl Nix w).alloc _).more (Frm.of_below hb)⟩
  have := (hown.lt k hk).1
  simp at this
  omega
end Go.Proofs.YtdgpaddmheagoaaDoor
