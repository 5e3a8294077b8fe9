/-
  The law's own look at two disks: Alike. No condition.
-/
import Derived.Test.YthhkblogocoeeaaDo
namespace Go.Proofs.Ythhkblogocoeeaa
open Go.RowKit

theorem read_at {D : Dsk} (hok : D.Ok) {k : Nat} (hk : k < D.L.length) (ho : D.off = false) : D.read D.L[k].name = D.L[k].b ∧ D.there D.L[k].name = 0 := by
  have hf := findF_mem hok.sorted (List.getElem_mem hk)
  have h1 : D.there D.L[k].name = 0 := by simp [Dsk.there, ho, hf]
  exact ⟨by simp [Dsk.read, h1, hf], h1⟩
theorem read_off {D : Dsk} (s : ByteArray) (ho : D.off = true) : D.read s = [] ∧ D.there s = 30 := by
  have h1 : D.there s = 30 := by simp [Dsk.there, ho]
  exact ⟨by simp [Dsk.read, h1], h1⟩

set_option maxRecDepth 100000 in
set_option maxHeartbeats 4000000 in
theorem Alike_any {w : World} {B g B' g' : Nat} {F W F' : Nat → Prop} {D : Dsk} (h : Pair w B g F B' g' W F' D) :
    Calls Try.prog 13 #[.pointer (some ⟨g, 0, none⟩), .pointer (some ⟨g', 0, none⟩)] w fun e w' => e = .returned (.bool true) ∧ Frm Nix w w' := by
  obtain ⟨A, c, V, hx, -, -⟩ := h.x.at_
  have HP := Lib.hid h
  have hok := hx.ok
  have hcnt := hok.cnt
  have HO := Lib.hid hok
  clear h hok
  go_enter Try.func13, Try.ntmps13
  go_wp2_with fail
  refine (Names_any HP.out.d).mono ?_
  rintro e w1 ⟨v, rfl, own1, f1⟩
  obtain ⟨A1, q1, rfl, -, hq, hqm, -⟩ := own_shape own1
  have HN := Lib.hid (Rd.of_own own1)
  have HF1 := Lib.hid f1
  have hx1 := hx.nix f1
  have c0 := hx1.blk.cell 0
  have c3 := hx1.blk.cell 3
  have c4 := hx1.blk.cell 4
  simp at c0 c3 c4
  have hgl := hx1.blk.lt
  have HX := Lib.hid hx1
  unfold maxLen at hqm
  clear own1 f1 hx hx1
  have h0 : ∀ x : FW (Frm Nix w1), x.w.cell? ⟨g', 0, none⟩ = some (.slice A D.L.length c) := fun x => (x.h.cell hgl id).trans c0
  have h3 : ∀ x : FW (Frm Nix w1), x.w.cell? ⟨g', 3, none⟩ = some (.bool D.off) := fun x => (x.h.cell hgl id).trans c3
  have h4 : ∀ x : FW (Frm Nix w1), x.w.cell? ⟨g', 4, none⟩ = some (.int .i64 D.deeds) := fun x => (x.h.cell hgl id).trans c4
  have HD1 : Hid (∀ x : FW (Frm Nix w1), Dk x.w B g F D) := fun x => (HP.out.d.nix HF1.out).nix x.h
  have HX1 : Hid (∀ x : FW (Frm Nix w1), RDiskAt x.w B' g' D A c V) := fun x => HX.out.nix x.h
  have hd1 : decide ((D.L.length : Int) = (D.L.length : Int)) = true := by simp
  go_wp2_with fail
  refine wp_region_class (Frm Nix w1) ((Frm.refl Nix w1).drew) (by kernel_rfl) (by kernel_rfl) ?_
  repeat (go_big_quiet_step (first
    | (rename_i x; go_at_call 27; refine x.call (Used_any (HD1.out x)) ?_; exact fun w' hf => x.h.trans hf)
    | (rename_i x; go_at_call 35; refine x.call (rUsed_any (HX1.out x)) ?_; exact fun w' hf => hf ▸ x.h)
    | (rename_i x; go_at_call 22; refine x.call (Off_any _ _ _ _ _ (HD1.out x)) ?_; exact fun w' hf => hf ▸ x.h)
    | (rename_i x; go_at_call 23; refine x.call (Deeds_any _ _ _ _ _ (HD1.out x)) ?_; exact fun w' hf => hf ▸ x.h)))
  refine wpQuiet_nil ?_
  rintro w2 ⟨⟨_, hf2⟩, rfl⟩
  have HF2 := Lib.hid hf2
  clear hf2 h0 h3 h4 HD1 HX1 c0 c3 c4
  go_wp2
  go_loopw [6] (fun i wr => ∃ k : Nat, k ≤ D.L.length ∧ i = .int .i64 k ∧ Frm Nix w1 wr) (fun i _ => D.L.length - (intOf i).toNat)
  case atStart => exact ⟨0, Nat.zero_le _, rfl, HF2.out⟩
  case round =>
    obtain ⟨k, hk, rfl, hfr⟩ := hrel
    have HW := Lib.hid hfr
    clear hfr HF2
    by_cases hlt : k < D.L.length
    · obtain ⟨ad, u, rfl, -, hla, hu, hcu⟩ := (HN.out.frm HW.out fun _ _ => id).at_ hlt
      have hus : u = .string D.L[k].name := by
        simp only [List.getElem?_map, List.getElem?_eq_getElem hlt, Option.map_some, Option.some.injEq] at hu
        exact hu.symm
      subst hus
      have HRd := Lib.hid (Read_any ((HP.out.d.nix HF1.out).nix HW.out) D.L[k].name)
      have HX2 := Lib.hid (HX.out.nix HW.out)
      have hkx0 : (0 : Int) ≤ (k : Int) := Int.natCast_nonneg _
      have hkx1 : (k : Int) < (D.L.length : Int) := by omega
      clear hu
      cases hoff : D.off with
      | false =>
        obtain ⟨hr1, hr2⟩ := read_at HO.out hlt hoff
        rw [hr1, hr2] at HRd
        clear hr1 hr2
        go_wp2_with fail
        refine HRd.out.mono ?_
        rintro e w3 ⟨v3, rfl, own3, f3⟩
        obtain ⟨A3, q3, rfl, -⟩ := own_shape own3
        have hx3 := HX2.out.nix f3
        obtain ⟨gr, fA, fc, rfl, -, k0, k1, -, hle, -, hown, -, hgr, -⟩ := hx3.at_ (i := k) hlt
        have c0 := hx3.blk.cell 0
        have c3 := hx3.blk.cell 3
        simp at c0 c3
        rw [hoff] at c3
        have hgl := hx3.blk.lt
        have hcu3 := (f3.cell (by rw [block_of_add]; exact hla) id).trans hcu
        have g0 : ∀ x : FW (Frm Nix w3), x.w.cell? ⟨g', 0, none⟩ = some (.slice (some ⟨gr, 0, none⟩) D.L.length c) := fun x => (x.h.cell hgl id).trans c0
        have g3 : ∀ x : FW (Frm Nix w3), x.w.cell? ⟨g', 3, none⟩ = some (.bool false) := fun x => (x.h.cell hgl id).trans c3
        have gk0 : ∀ x : FW (Frm Nix w3), x.w.cell? ⟨gr, k * 3, none⟩ = some (.string D.L[k].name) := fun x => (x.h.cell hgr id).trans k0
        have gk1 : ∀ x : FW (Frm Nix w3), x.w.cell? ⟨gr, k * 3 + 1, none⟩ = some (.slice fA D.L[k].b.length fc) := fun x => (x.h.cell hgr id).trans k1
        have gl : ∀ x : FW (Frm Nix w3), x.w.cell? (ad.add k) = some (.string D.L[k].name) := fun x => (x.h.cell (by rw [block_of_add]; exact Nat.lt_of_lt_of_le hla f3.size) id).trans hcu3
        have s1 : ∀ x : FW (Frm Nix w3), (convert 32 9 (.slice A3 D.L[k].b.length q3)).run Try.prog x.w = .ok (.string ⟨D.L[k].b.toArray⟩) x.w := fun x => run_str_of ((Rd.of_own own3).frm x.h fun _ _ => id)
        have s2 : ∀ x : FW (Frm Nix w3), (convert 32 9 (.slice fA D.L[k].b.length fc)).run Try.prog x.w = .ok (.string ⟨D.L[k].b.toArray⟩) x.w := fun x => run_str_of ((Rd.of_own hown).frm x.h fun _ _ => id)
        have HW3 := Lib.hid (HW.out.trans f3)
        clear hx3 c0 c3 k0 k1 hcu hcu3 hown own3 f3 HRd
        go_wp2_with fail
        refine wp_region_class (Frm Nix w3) ((Frm.refl Nix w3).drew) (by kernel_rfl) (by kernel_rfl) ?_
        repeat (go_big_quiet_step (fail))
        refine wpQuiet_nil ?_
        rintro w4 ⟨⟨_, hf4⟩, rfl⟩
        have HW4 := Lib.hid (HW3.out.trans hf4)
        clear hf4 g0 g3 gk0 gk1 gl s1 s2
        go_wp2
        go_roundw
        case rel => exact ⟨k + 1, by omega, by go_num, HW4.out⟩
        case measure => simp [intOf]; omega
      | true =>
        obtain ⟨hr1, hr2⟩ := read_off (D := D) D.L[k].name hoff
        rw [hr1, hr2] at HRd
        clear hr1 hr2
        go_wp2_with fail
        refine HRd.out.mono ?_
        rintro e w3 ⟨v3, rfl, own3, f3⟩
        obtain ⟨A3, q3, rfl, -⟩ := own_shape own3
        have hx3 := HX2.out.nix f3
        obtain ⟨gr, fA, fc, rfl, -, k0, -, -, hle, -, hown, -, hgr, -⟩ := hx3.at_ (i := k) hlt
        have c0 := hx3.blk.cell 0
        have c3 := hx3.blk.cell 3
        simp at c0 c3
        rw [hoff] at c3
        have hgl := hx3.blk.lt
        have hcu3 := (f3.cell (by rw [block_of_add]; exact hla) id).trans hcu
        have g0 : ∀ x : FW (Frm Nix w3), x.w.cell? ⟨g', 0, none⟩ = some (.slice (some ⟨gr, 0, none⟩) D.L.length c) := fun x => (x.h.cell hgl id).trans c0
        have g3 : ∀ x : FW (Frm Nix w3), x.w.cell? ⟨g', 3, none⟩ = some (.bool true) := fun x => (x.h.cell hgl id).trans c3
        have gk0 : ∀ x : FW (Frm Nix w3), x.w.cell? ⟨gr, k * 3, none⟩ = some (.string D.L[k].name) := fun x => (x.h.cell hgr id).trans k0
        have gl : ∀ x : FW (Frm Nix w3), x.w.cell? (ad.add k) = some (.string D.L[k].name) := fun x => (x.h.cell (by rw [block_of_add]; exact Nat.lt_of_lt_of_le hla f3.size) id).trans hcu3
        have HW3 := Lib.hid (HW.out.trans f3)
        clear hx3 c0 c3 k0 hcu hcu3 hown own3 f3 HRd
        go_wp2_with fail
        refine wp_region_class (Frm Nix w3) ((Frm.refl Nix w3).drew) (by kernel_rfl) (by kernel_rfl) ?_
        repeat (go_big_quiet_step (fail))
        refine wpQuiet_nil ?_
        rintro w4 ⟨⟨_, hf4⟩, rfl⟩
        have HW4 := Lib.hid (HW3.out.trans hf4)
        clear hf4 g0 g3 gk0 gl
        go_wp2
        go_roundw
        case rel => exact ⟨k + 1, by omega, by go_num, HW4.out⟩
        case measure => simp [intOf]; omega
    · obtain rfl : k = D.L.length := by omega
      go_wp2
      go_ret
      exact ⟨rfl, HF1.out.trans HW.out⟩
end Go.Proofs.Ythhkblogocoeeaa
