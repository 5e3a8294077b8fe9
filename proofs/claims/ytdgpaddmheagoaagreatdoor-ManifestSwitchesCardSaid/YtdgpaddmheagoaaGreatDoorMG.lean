/-
  Contracts: a disk's manifest read and switched, by the program.
-/
import Derived.Test.YtdgpaddmheagoaaGreatDoorMF
import Derived.Test.YtdgpaddmheagoaaGreatDoorDiskN
namespace Go.Proofs.YtdgpaddmheagoaaGreatDoor
open Go.RowKit
set_option linter.unusedVariables false

def sNext : ByteArray := ⟨#[108, 105, 115, 116, 46, 110, 101, 120, 116]⟩
def sList : ByteArray := ⟨#[108, 105, 115, 116]⟩

/-! ### Read -/

/-- what a disk's manifest reads as. -/
def rdDsk (D : Dsk) : Man × Int := if D.there sList ≠ 0 then (⟨0, 0, []⟩, D.there sList) else match manGet (D.read sList) with | some m => (m, 0) | none => (⟨0, 0, []⟩, 190)
def ReadMOut (w : World) (m : Man) (n : Int) (e : Ending) (w' : World) : Prop :=
  ∃ A c, e = .returned (.tuple #[manV m A c, .int .i64 n]) ∧ RowIn 3 w w' (.slice A m.segs.length c) m.segs.length (ivs m.segs)

theorem pRead_ret {W : World} {g : Nat} {tmps : Array Value} {a b c ev : Value} (hb : Blk W g 25 #[a, b, c]) (h2 : tmps.getD 2 undef = .pointer (some ⟨g, 0, none⟩)) (h3 : tmps.getD 3 undef = ev) :
    (results Tryz.f12 tmps).run Tryz.prog W = .ok (.tuple #[.agg #[a, b, c], ev]) W := by
  have c0 := hb.cell 0
  have c1 := hb.cell 1
  have c2 := hb.cell 2
  simp at c0 c1 c2
  have h2' : tmps[2]?.getD undef = .pointer (some ⟨g, 0, none⟩) := by simpa using h2
  have h3' : tmps[3]?.getD undef = ev := by simpa using h3
  simp [results, Tryz.results12, h2', h3', go_sem, c0, c1, c2]

theorem read_len {D : Dsk} (h : D.Ok) (s : ByteArray) : (D.read s).length ≤ 16777216 := by
  unfold Dsk.read
  split
  · simp
  · split
    · rename_i f hf
      have h1 := len_le_used (findF_some hf).1
      have h2 := h.used
      have h3 := h.q1
      omega
    · simp
theorem Dk.ok {w : World} {B g : Nat} {F : Nat → Prop} {D : Dsk} (h : Dk w B g F D) : D.Ok := by
  obtain ⟨m, R, clock, h, -⟩ := h
  exact h.ok

set_option maxRecDepth 100000 in
set_option maxHeartbeats 2000000 in
theorem pRead_any {B g : Nat} {F : Nat → Prop} {D : Dsk} {w : World} (h : Dk w B g F D) (ht : Tab w) :
    Calls Tryz.prog 12 #[.pointer (some ⟨g, 0, none⟩)] w (ReadMOut w (rdDsk D).1 (rdDsk D).2) := by
  obtain ⟨w0, hw0⟩ : ∃ w0, w0 = w.alloc (.cells #[.int .i64 0, .int .i64 0, .slice none 0 0] 25) := ⟨_, rfl⟩
  have hf : Frm Nix w w0 := by rw [hw0]; exact (Frm.refl Nix w).alloc _
  have hb0 : Blk w0 w.heap.size 25 #[.int .i64 0, .int .i64 0, .slice none 0 0] := by rw [hw0]; exact Blk.new w _ _
  have HF : Hid (Frm Nix w w0 ∧ Blk w0 w.heap.size 25 #[.int .i64 0, .int .i64 0, .slice none 0 0] ∧ Tab w) := ⟨hf, hb0, ht⟩
  have KR := Lib.hid (Read_any (h.nix hf) sList)
  have HW := Lib.hid hw0
  have HL := Lib.hid (read_len h.ok sList)
  have HE : Hid (rdDsk D = if D.there sList ≠ 0 then (⟨0, 0, []⟩, D.there sList) else match manGet (D.read sList) with | some m => (m, 0) | none => (⟨0, 0, []⟩, 190)) := rfl
  clear hf hb0 ht h hw0
  generalize rdDsk D = out at *
  generalize D.there sList = th at *
  generalize D.read sList = l at *
  go_enter Tryz.func12, Tryz.ntmps12
  go_wp2_with fail
  rw [← HW.out]
  refine KR.out.mono ?_
  rintro e w1 ⟨v, rfl, hown, hf1⟩
  obtain ⟨A1, c1, rfl, hn1, hc1, hm1, -⟩ := own_shape hown
  have hb1 := HF.out.2.1.frm hf1 id
  have HF1 : Hid (Frm Nix w w1) := HF.out.1.trans hf1
  have hr0 := hb1.cell 0
  have hr1 := hb1.cell 1
  have hr2 := hb1.cell 2
  simp at hr0 hr1 hr2
  have hz0 := hb1.frozen 0
  have hz1 := hb1.frozen 1
  have hz2 := hb1.frozen 2
  have hrl := hb1.lt
  have HB1 := Lib.hid hb1
  by_cases hth : th = 0
  · subst hth
    have KG := Lib.hid (pGet_any A1 l.length c1 l _ w1 rfl (Rd.of_own hown) HL.out hc1 hm1 (fun e => by have := hn1 e; subst this; exact ⟨by omega, rfl⟩) (HF.out.2.2.nix HF1.out))
    clear hown hf1 hb1
    generalize l.length = ln at *
    cases hg : manGet l with
    | none =>
      have HO : Hid (out = (⟨0, 0, []⟩, 190)) := by
        unfold Hid
        rw [HE.out, hg]
        rfl
      have KG2 : Hid (Calls Tryz.prog 17 #[.slice A1 ln c1] w1 fun e w' => e = .returned (.tuple #[.agg #[.int .i64 0, .int .i64 0, .slice none 0 0], .int .i64 190]) ∧ Frm Nix w1 w') :=
        KG.out.mono fun e w' h => by unfold GetOut at h; rwa [hg] at h
      clear KG hg
      go_wp2_with (go_at_call 17; refine KG2.out.mono ?_; rintro e w2 ⟨rfl, hf2⟩; have hbb := HB1.out.frm hf2 id; have hr0 := hbb.cell 0; have hr1 := hbb.cell 1; have hr2 := hbb.cell 2; simp at hr0 hr1 hr2; have hz0 := hbb.frozen 0; have hz1 := hbb.frozen 1; have hz2 := hbb.frozen 2; have hrl := hbb.lt; have HB2 := Lib.hid hbb; have HF2 := Lib.hid hf2; clear hbb hf2)
      have hb2 := ((HB2.out.set_ 0 (.int .i64 0)).set_ 1 (.int .i64 0)).set_ 2 (.slice none 0 0)
      refine bodyPost_ret (pRead_ret (a := .int .i64 0) (b := .int .i64 0) (c := .slice none 0 0) (ev := .int .i64 190) hb2 rfl rfl) rfl ?_
      rw [HO.out]
      exact ⟨none, 0, rfl, RowIn.nil_ _ ((((HF1.out.trans HF2.out).setCell (.inr (Nat.le_refl _)) _).setCell (.inr (Nat.le_refl _)) _).setCell (.inr (Nat.le_refl _)) _)⟩
    | some m =>
      have HO : Hid (out = (m, 0)) := by
        unfold Hid
        rw [HE.out, hg]
        rfl
      have KG2 : Hid (Calls Tryz.prog 17 #[.slice A1 ln c1] w1 fun e w' => ∃ A c, e = .returned (.tuple #[.agg #[.int .i64 m.gen, .int .i64 m.snap, .slice A m.segs.length c], .int .i64 0]) ∧ RowIn 3 w1 w' (.slice A m.segs.length c) m.segs.length (ivs m.segs)) :=
        KG.out.mono fun e w' h => by unfold GetOut at h; rwa [hg] at h
      clear KG hg
      go_wp2_with (go_at_call 17; refine KG2.out.mono ?_; rintro e w2 ⟨A2, c2, rfl, hrow2⟩; have hbb := HB1.out.frm hrow2.frm id; have hr0 := hbb.cell 0; have hr1 := hbb.cell 1; have hr2 := hbb.cell 2; simp at hr0 hr1 hr2; have hz0 := hbb.frozen 0; have hz1 := hbb.frozen 1; have hz2 := hbb.frozen 2; have hrl := hbb.lt; have HB2 := Lib.hid hbb; have HF2 := Lib.hid hrow2; clear hbb hrow2)
      have hb2 := ((HB2.out.set_ 0 (.int .i64 m.gen)).set_ 1 (.int .i64 m.snap)).set_ 2 (.slice A2 m.segs.length c2)
      refine bodyPost_ret (pRead_ret (a := .int .i64 m.gen) (b := .int .i64 m.snap) (c := .slice A2 m.segs.length c2) (ev := .int .i64 0) hb2 rfl rfl) rfl ?_
      rw [HO.out]
      refine ⟨A2, c2, rfl, ?_⟩
      have hfs : Frm (· = w.heap.size) w2 (((w2.setCell ⟨w.heap.size, 0, none⟩ (.int .i64 m.gen)).setCell ⟨w.heap.size, 1, none⟩ (.int .i64 m.snap)).setCell ⟨w.heap.size, 2, none⟩ (.slice A2 m.segs.length c2)) :=
        (((Frm.refl (fun k => k = w.heap.size) w2).setCell (.inl rfl) _).setCell (.inl rfl) _).setCell (.inl rfl) _
      refine (HF2.out.since HF1.out).far hfs (fun k hk => by omega) fun k hk e => ?_
      have h1 := HF2.out.own.lt k hk
      have := HB1.out.lt
      omega
  · have HO : Hid (out = (⟨0, 0, []⟩, th)) := by
      unfold Hid
      rw [HE.out, if_pos hth]
    have hb : (th == 0) = false := beq_eq_false_iff_ne.2 hth
    have hb2 : (th != 0) = true := by rw [bne, hb]; rfl
    clear hown hf1 hb1 hth
    generalize l.length = ln at *
    go_wp2
    have hb2 := ((HB1.out.set_ 0 (.int .i64 0)).set_ 1 (.int .i64 0)).set_ 2 (.slice none 0 0)
    refine bodyPost_ret (pRead_ret (a := .int .i64 0) (b := .int .i64 0) (c := .slice none 0 0) (ev := .int .i64 th) hb2 rfl rfl) rfl ?_
    rw [HO.out]
    exact ⟨none, 0, rfl, RowIn.nil_ _ (((HF1.out.setCell (.inr (Nat.le_refl _)) _).setCell (.inr (Nat.le_refl _)) _).setCell (.inr (Nat.le_refl _)) _)⟩
end Go.Proofs.YtdgpaddmheagoaaGreatDoor
