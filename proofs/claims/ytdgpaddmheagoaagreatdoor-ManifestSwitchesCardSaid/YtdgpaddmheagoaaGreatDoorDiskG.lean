/-
  Contracts of the disk package: Append.
-/
import Derived.Test.YtdgpaddmheagoaaGreatDoorDiskF
namespace Go.Proofs.YtdgpaddmheagoaaGreatDoor
open Go.RowKit

theorem below_size_of_cell {w : World} {a : Addr} {v : Value} (h : w.cell? a = some v) : a.block < w.heap.size := World.block_lt_of_cell? w _ h

theorem putF_putF {f f0 : Fil} {L : List Fil} (h : SortedF L) (hn : f0.name = f.name) : putF f (putF f0 L) = putF f L := by
  refine sorted_perm_eq h.put.put h.put ?_
  refine (putF_perm h.put).trans (List.Perm.trans (List.Perm.cons _ ?_) (putF_perm h).symm)
  refine (delF_perm (putF_perm h)).trans ?_
  rw [hn]
  have : delF f.name (f0 :: delF f.name L) = delF f.name L := by
    simp [delF, hn, List.filter_filter]
  rw [this]

/-- a new file is put. -/
theorem Dsk.Ok.fresh {d : Dsk} {s : ByteArray} (h : d.Ok) (hf : findF s d.L = none) (hc : d.L.length < 64) (hnm : nameOk s = true) : ({ d with L := putF ⟨s, [], 0⟩ d.L } : Dsk).Ok := by
  have h1 := used_put (f := ⟨s, [], 0⟩) h.sorted
  have h2 := len_put (f := ⟨s, [], 0⟩) h.sorted
  have h3 := h.used
  simp only [delF_none hf, List.length_nil] at h1 h2
  refine ⟨h.sorted.put, h.lo, h.hi, h.q0, h.q1, by simp only; omega, fun g hg => ?_, by simp only; omega, fun g hg => ?_⟩
  · rcases mem_putF hg with rfl | hg
    · exact Nat.le_refl _
    · exact h.safe g hg
  · rcases mem_putF hg with rfl | hg
    · exact hnm
    · exact h.nm g hg

theorem findF_put {f : Fil} {L : List Fil} (h : SortedF L) : findF f.name (putF f L) = some f :=
  findF_mem h.put ((putF_perm h).mem_iff.2 (by simp))

set_option maxRecDepth 100000 in
theorem Append_nil (s : ByteArray) (A : Option Addr) (n c : Nat) (w : World) : Calls Tryz.prog 21 #[.pointer none, .string s, .slice A n c] w fun e w' => e = .returned (.int .i64 6) ∧ w = w' := by
  go_enter Tryz.func21, Tryz.ntmps21
  go_wp2_with (go_at_call 57; refine (ready_nil _).mono ?_; rintro e w' ⟨rfl, rfl⟩)
  go_ret
  exact ⟨rfl, rfl⟩

section
variable {w : World} {B g m clock : Nat} {D : Dsk} {R : List Rep}

set_option maxRecDepth 100000 in
theorem Append_off (h : DiskAt w B g m D R clock) (s : ByteArray) (A : Option Addr) (n c : Nat) (ho : D.off = true) :
    Calls Tryz.prog 21 #[.pointer (some ⟨g, 0, none⟩), .string s, .slice A n c] w (DkOut w B g (Foot g m R) D 30) := by
  have HD := Lib.hid h
  have hb := h.blk
  rw [ho] at hb
  have H := Lib.hid (ready_any g m _ _ _ true w hb)
  clear h ho hb
  go_enter Tryz.func21, Tryz.ntmps21
  go_wp2_with (go_at_call 57; refine H.out.mono ?_; rintro e w' ⟨rfl, rfl⟩)
  go_ret
  exact DkOut.same HD.out

set_option maxRecDepth 100000 in
theorem Append_bad (h : DiskAt w B g m D R clock) (s : ByteArray) (A : Option Addr) (n c : Nat) (ho : D.off = false) (hn : nameOk s = false) (hs : s.size ≤ maxLen) :
    Calls Tryz.prog 21 #[.pointer (some ⟨g, 0, none⟩), .string s, .slice A n c] w (DkOut w B g (Foot g m R) D 31) := by
  have HD := Lib.hid h
  have hb := h.blk
  rw [ho] at hb
  have H := Lib.hid (ready_any g m _ _ _ false w hb)
  have c0 := hb.cell 0
  simp at c0
  obtain ⟨p, hl⟩ : ∃ p, (Instr.lookup 52 (.map (some m)) (.string s) false).run Tryz.prog w = .ok (.pointer p) w := by
    rw [h.lookup s]
    cases repOf s R <;> exact ⟨_, rfl⟩
  have HN := Lib.hid (named_any s w hs)
  rw [hn] at HN
  clear h ho hb hn
  go_enter Tryz.func21, Tryz.ntmps21
  go_wp2_with (first | (go_at_call 57; refine H.out.mono ?_; rintro e w' ⟨rfl, rfl⟩) | (go_at_call 58; refine HN.out.mono ?_; rintro e w1 ⟨rfl, hf1⟩))
  go_ret
  exact DkOut.mk HD.out (HD.out.frm hf1 fun _ _ => id) hf1 (fun k hk => absurd hk id) fun k hk => .inl hk

set_option maxRecDepth 100000 in
set_option maxHeartbeats 1000000 in
/-- no room for one more file. -/
theorem Append_many (h : DiskAt w B g m D R clock) (s : ByteArray) (A : Option Addr) (n c : Nat) (hr : repOf s R = none) (ho : D.off = false) (hn : nameOk s = true) (hs : s.size ≤ maxLen) (hR : 64 ≤ R.length) (hR2 : R.length ≤ 64) :
    Calls Tryz.prog 21 #[.pointer (some ⟨g, 0, none⟩), .string s, .slice A n c] w (DkOut w B g (Foot g m R) D 2) := by
  have HD := Lib.hid h
  have hb := h.blk
  rw [ho] at hb
  have H := Lib.hid (ready_any g m _ _ _ false w hb)
  have c0 := hb.cell 0
  simp at c0
  have hl := h.lookup s
  rw [hr] at hl
  simp only at hl
  have HN := Lib.hid (named_any s w hs)
  rw [hn] at HN
  have hge : decide ((64 : Int) ≤ (R.length : Int)) = true := by simp; omega
  clear h hb hr ho hn
  go_enter Tryz.func21, Tryz.ntmps21
  go_wp2_with (first | (go_at_call 57; refine H.out.mono ?_; rintro e w' ⟨rfl, rfl⟩) | (go_at_call 58; refine HN.out.mono ?_; rintro e w1 ⟨rfl, hf1⟩))
  have h1 : DiskAt w1 B g m D R clock := HD.out.frm hf1 fun _ _ => id
  have H1 := Lib.hid h1
  have c1 := h1.blk.cell 0
  simp at c1
  clear h1
  have hcx : ∀ x : FW (Frm Nix w1), x.w.cell? ⟨g, 0, none⟩ = some (.map (some m)) := fun x => (x.h.cell (below_size_of_cell c1) id).trans c1
  have hlx : ∀ (x : FW (Frm Nix w1)) (ty : TypeId), (Builtin.len_ #[52] ty #[.map (some m)]).run Tryz.prog x.w = .ok (.int .i64 R.length) x.w := fun x ty => by
    have := ((H1.out.frm x.h fun _ _ => id).map.len (P := Tryz.prog) Tryz.underlying52 ty)
    simpa using this
  refine wp_region_class (Frm Nix w1) ((Frm.refl Nix w1).drew) (by kernel_rfl) (by kernel_rfl) ?_
  repeat (go_big_quiet_step (fail))
  refine wpQuiet_nil ?_
  rintro w2 ⟨⟨_, hf2⟩, rfl⟩
  go_wp2
  go_ret
  have hf : Frm Nix w w2 := hf1.trans hf2
  exact DkOut.mk HD.out (HD.out.frm hf fun _ _ => id) hf (fun k hk => absurd hk id) fun k hk => .inl hk

set_option maxRecDepth 100000 in
set_option maxHeartbeats 1000000 in
/-- the quota is passed: a file that is there. -/
theorem Append_full1 (h : DiskAt w B g m D R clock) (s : ByteArray) (A : Option Addr) (n c : Nat) (r : Rep) (hr : repOf s R = some r) (ho : D.off = false) (hn : nameOk s = true) (hs : s.size ≤ maxLen)
    (hfull : D.quota - usedL D.L < (n : Int)) :
    Calls Tryz.prog 21 #[.pointer (some ⟨g, 0, none⟩), .string s, .slice A n c] w (DkOut w B g (Foot g m R) D 2) := by
  have HD := Lib.hid h
  have hb := h.blk
  rw [ho] at hb
  have H := Lib.hid (ready_any g m _ _ _ false w hb)
  have c0 := hb.cell 0
  have c1 := hb.cell 1
  simp at c0 c1
  have hl := h.lookup s
  rw [hr] at hl
  simp only at hl
  have HN := Lib.hid (named_any s w hs)
  rw [hn] at HN
  have hq0 := h.ok.q0
  have hq1 := h.ok.q1
  have hu := h.ok.used
  clear h hb hr ho hn
  go_enter Tryz.func21, Tryz.ntmps21
  go_wp2_with (first | (go_at_call 57; refine H.out.mono ?_; rintro e w' ⟨rfl, rfl⟩) | (go_at_call 58; refine HN.out.mono ?_; rintro e w1 ⟨rfl, hf1⟩; have c11 := (hf1.cell (p := ⟨g, 1, none⟩) (below_size_of_cell c1) id).trans c1))
  have hcx : ∀ x : FW (Frm Nix w1), x.w.cell? ⟨g, 1, none⟩ = some (.int .i64 D.quota) := fun x => (x.h.cell (below_size_of_cell c11) id).trans c11
  refine wp_region_class (Frm Nix w1) ((Frm.refl Nix w1).drew) (by kernel_rfl) (by kernel_rfl) ?_
  repeat (go_big_quiet_step (first | (rename_i x; go_at_call 42; refine x.call (Used_any (B := B) (F := Foot g m R) (D := D) ⟨m, R, clock, (HD.out.frm hf1 (fun _ _ => id)).frm x.h (fun _ _ => id), rfl⟩) ?_; exact fun w' hf => x.h.trans hf)))
  refine wpQuiet_nil ?_
  rintro w2 ⟨⟨_, hf2⟩, rfl⟩
  go_wp2
  go_ret
  have hf : Frm Nix w w2 := hf1.trans hf2
  exact DkOut.mk HD.out (HD.out.frm hf fun _ _ => id) hf (fun k hk => absurd hk id) fun k hk => .inl hk

set_option maxRecDepth 100000 in
set_option maxHeartbeats 1000000 in
/-- the quota is passed: a new file. -/
theorem Append_full2 (h : DiskAt w B g m D R clock) (s : ByteArray) (A : Option Addr) (n c : Nat) (hr : repOf s R = none) (ho : D.off = false) (hn : nameOk s = true) (hs : s.size ≤ maxLen) (hR : R.length < 64)
    (hfull : D.quota - usedL D.L < (n : Int)) :
    Calls Tryz.prog 21 #[.pointer (some ⟨g, 0, none⟩), .string s, .slice A n c] w (DkOut w B g (Foot g m R) D 2) := by
  have HD := Lib.hid h
  have hb := h.blk
  rw [ho] at hb
  have H := Lib.hid (ready_any g m _ _ _ false w hb)
  have c0 := hb.cell 0
  have c1 := hb.cell 1
  simp at c0 c1
  have hl := h.lookup s
  rw [hr] at hl
  simp only at hl
  have HN := Lib.hid (named_any s w hs)
  rw [hn] at HN
  have hq0 := h.ok.q0
  have hq1 := h.ok.q1
  have hu := h.ok.used
  have hge : decide ((64 : Int) ≤ (R.length : Int)) = false := by simp; omega
  clear h hb hr ho hn
  go_enter Tryz.func21, Tryz.ntmps21
  go_wp2_with (first | (go_at_call 57; refine H.out.mono ?_; rintro e w' ⟨rfl, rfl⟩) | (go_at_call 58; refine HN.out.mono ?_; rintro e w1 ⟨rfl, hf1⟩; have c11 := (hf1.cell (p := ⟨g, 1, none⟩) (below_size_of_cell c1) id).trans c1; have c10 := (hf1.cell (p := ⟨g, 0, none⟩) (below_size_of_cell c0) id).trans c0))
  have hcx : ∀ x : FW (Frm Nix w1), x.w.cell? ⟨g, 1, none⟩ = some (.int .i64 D.quota) := fun x => (x.h.cell (below_size_of_cell c11) id).trans c11
  have hcy : ∀ x : FW (Frm Nix w1), x.w.cell? ⟨g, 0, none⟩ = some (.map (some m)) := fun x => (x.h.cell (below_size_of_cell c10) id).trans c10
  have hlx : ∀ (x : FW (Frm Nix w1)) (ty : TypeId), (Builtin.len_ #[52] ty #[.map (some m)]).run Tryz.prog x.w = .ok (.int .i64 R.length) x.w := fun x ty => by
    have := (((HD.out.frm hf1 fun _ _ => id).frm x.h fun _ _ => id).map.len (P := Tryz.prog) Tryz.underlying52 ty)
    simpa using this
  refine wp_region_class (Frm Nix w1) ((Frm.refl Nix w1).drew) (by kernel_rfl) (by kernel_rfl) ?_
  repeat (go_big_quiet_step (first | (rename_i x; go_at_call 42; refine x.call (Used_any (B := B) (F := Foot g m R) (D := D) ⟨m, R, clock, (HD.out.frm hf1 (fun _ _ => id)).frm x.h (fun _ _ => id), rfl⟩) ?_; exact fun w' hf => x.h.trans hf)))
  refine wpQuiet_nil ?_
  rintro w2 ⟨⟨_, hf2⟩, rfl⟩
  go_wp2
  go_ret
  have hf : Frm Nix w w2 := hf1.trans hf2
  exact DkOut.mk HD.out (HD.out.frm hf fun _ _ => id) hf (fun k hk => absurd hk id) fun k hk => .inl hk

set_option maxRecDepth 100000 in
set_option maxHeartbeats 1000000 in
/-- bytes behind those of a file that is there. -/
theorem Append_old (h : DiskAt w B g m D R clock) (s : ByteArray) (A : Option Addr) (n c : Nat) (r : Rep) (hr : repOf s R = some r) (ho : D.off = false) (hn : nameOk s = true) (hs : s.size ≤ maxLen)
    (hfull : ¬ D.quota - usedL D.L < (n : Int)) (l : List UInt8) (hl0 : l.length = n) (G : Nat → Prop) (hrd : Rd w G 1 A n (bvs l)) (hG : ∀ k, G k → ¬ Foot g m R k) (hd : D.deeds < 4611686018427387904) :
    Calls Tryz.prog 21 #[.pointer (some ⟨g, 0, none⟩), .string s, .slice A n c] w (DkOut w B g (Foot g m R) (D.appendTo s l).deed.1 (D.appendTo s l).deed.2) := by
  have HD := Lib.hid h
  have hb := h.blk
  rw [ho] at hb
  have H := Lib.hid (ready_any g m _ _ _ false w hb)
  have c0 := hb.cell 0
  have c1 := hb.cell 1
  simp at c0 c1
  have hl := h.lookup s
  rw [hr] at hl
  simp only at hl
  have HN := Lib.hid (named_any s w hs)
  rw [hn] at HN
  have hq0 := h.ok.q0
  have hq1 := h.ok.q1
  have hu := h.ok.used
  obtain ⟨hr1, hr2⟩ := repOf_some hr
  have hlen := h.lenLe hr1
  have hfind := h.find s
  rw [hr] at hfind
  simp only [Option.map_some] at hfind
  have HAp : Hid (D.appendTo s l = { D with L := putF { r.fil with b := r.fil.b ++ l } D.L }) := by unfold Hid Dsk.appendTo; rw [hfind]
  have HFi := Lib.hid hfind
  have HNm := Lib.hid hr2
  have HR := Lib.hid hr
  have HL := Lib.hid hl0
  have HRd := Lib.hid hrd
  have HG := Lib.hid hG
  clear h hb hr ho hn hfind hr2 hl0 hrd hG
  obtain ⟨i0, hi, hz0, hz1, hz2⟩ := info_parts info_u8
  have HI : Hid (Tryz.prog.info? 5 = some i0 ∧ i0.zero = some (.int .u8 0) ∧ i0.size = 1 ∧ i0.bytes = 1) := ⟨hi, hz0, hz1, hz2⟩
  clear hi hz0 hz1 hz2
  go_enter Tryz.func21, Tryz.ntmps21
  go_wp2_with (first | (go_at_call 57; refine H.out.mono ?_; rintro e w' ⟨rfl, rfl⟩) | (go_at_call 58; refine HN.out.mono ?_; rintro e w1 ⟨rfl, hf1⟩; have c11 := (hf1.cell (p := ⟨g, 1, none⟩) (below_size_of_cell c1) id).trans c1))
  have hcx : ∀ x : FW (Frm Nix w1), x.w.cell? ⟨g, 1, none⟩ = some (.int .i64 D.quota) := fun x => (x.h.cell (below_size_of_cell c11) id).trans c11
  refine wp_region_class (Frm Nix w1) ((Frm.refl Nix w1).drew) (by kernel_rfl) (by kernel_rfl) ?_
  repeat (go_big_quiet_step (first | (rename_i x; go_at_call 42; refine x.call (Used_any (B := B) (F := Foot g m R) (D := D) ⟨m, R, clock, (HD.out.frm hf1 (fun _ _ => id)).frm x.h (fun _ _ => id), rfl⟩) ?_; exact fun w' hf => x.h.trans hf)))
  refine wpQuiet_nil ?_
  rintro w2 ⟨⟨_, hf2⟩, rfl⟩
  clear hcx
  have hf : Frm Nix w w2 := hf1.trans hf2
  have h2 : DiskAt w2 B g m D R clock := HD.out.frm hf fun _ _ => id
  have hfl := h2.files r hr1
  have cf := hfl.blk.cell 0
  simp only [Rep.v] at cf
  simp at cf
  obtain ⟨v', w3, hrun, hown3, hg3, hat⟩ := run_append_any (P := Tryz.prog) w2 B 35 5 i0 (.int .u8 0) 1 1 Tryz.underlying35 HI.out.1 HI.out.2.1 HI.out.2.2.1 HI.out.2.2.2 rfl (by decide) r.v r.fil.b.length (bvs r.fil.b) hfl.own
    G A n c (bvs l) (HRd.out.frm hf fun _ _ => id) (bvs_one _) (by unfold maxLen; omega) (by omega) (Nat.le_trans h2.gB (Nat.le_of_lt h2.blk.lt))
  obtain ⟨A', c', rfl, -⟩ := own_shape hown3
  have hrow : ∀ k, r.v.ownBlock = some k → k ≠ r.fb := fun k hk => h2.row_ne_fb hr1 hr1 hk
  have hb3 : Blk w3 r.fb 86 #[r.v, .int .i64 r.fil.safe] := (hg3.block r.fb hfl.blk.lt (fun e => hrow _ e.symm rfl)).trans hfl.blk
  have cf3 := hb3.cell 0
  have ff3 := hb3.frozen 0
  simp only [Rep.v] at cf3
  simp at cf3
  have HW : Hid (w3.ownsRow B 5 1 (.slice A' (r.fil.b.length + n) c') (r.fil.b.length + n) (bvs r.fil.b ++ bvs l) ∧ w2.grownBy w3 r.v.ownBlock ∧ ((Value.slice A' (r.fil.b.length + n) c').ownBlock = r.v.ownBlock ∨ (Value.slice A' (r.fil.b.length + n) c').ownBlock = some w2.heap.size) ∧ Frm Nix w w2 ∧ Blk w3 r.fb 86 #[r.v, .int .i64 r.fil.safe]) := ⟨hown3, hg3, hat, hf, hb3⟩
  simp only [Rep.v] at hrun
  clear hown3 hg3 hat hf hb3 h2 hfl hf1 hf2 hrow c11
  have key : DiskAt (w3.setCell ⟨r.fb, 0, none⟩ (.slice A' (r.fil.b.length + n) c')) B g m (D.appendTo s l) (updR s { r with fil := { r.fil with b := r.fil.b ++ l }, A := A', cap := c' } R) clock ∧
      (∀ k, Foot g m (updR s { r with fil := { r.fil with b := r.fil.b ++ l }, A := A', cap := c' } R) k → Foot g m R k ∨ w.heap.size ≤ k) ∧ Frm (Foot g m R) w (w3.setCell ⟨r.fb, 0, none⟩ (.slice A' (r.fil.b.length + n) c')) := by
    obtain ⟨hown3, hg3, hat, hf, hb3⟩ := HW.out
    have h2 : DiskAt w2 B g m D R clock := HD.out.frm hf fun _ _ => id
    have hfl := h2.files r hr1
    have hlen2 : (r.fil.b ++ l).length = r.fil.b.length + n := by rw [List.length_append, HL.out]
    have hf3 : Frm (fun k => k = r.fb ∨ r.v.ownBlock = some k) w2 (w3.setCell ⟨r.fb, 0, none⟩ (.slice A' (r.fil.b.length + n) c')) :=
      ((Frm.refl _ w2).grown hg3 (fun k hk => .inl (.inr hk))).setCell (.inl (.inl rfl)) _
    have hfile : FileAt (w3.setCell ⟨r.fb, 0, none⟩ (.slice A' (r.fil.b.length + n) c')) B { r with fil := { r.fil with b := r.fil.b ++ l }, A := A', cap := c' } := by
      refine ⟨?_, hfl.fB, ?_⟩
      · have := hb3.set_ 0 (.slice A' (r.fil.b.length + n) c')
        simpa [Rep.v, hlen2, HL.out] using this
      · have hfr : Frm (fun k => k = r.fb) w3 (w3.setCell ⟨r.fb, 0, none⟩ (.slice A' (r.fil.b.length + n) c')) := (Frm.refl (fun k => k = r.fb) w3).setCell (.inl rfl) _
        have hne : ∀ k, (Value.slice A' (r.fil.b.length + n) c').ownBlock = some k → ¬ k = r.fb := by
          intro k hk e
          have := own_blk_ne hown3 hb3 (by decide)
          rw [hk, e] at this
          exact this rfl
        have := own_frm hown3 hfr hne
        simp only [Rep.v, hlen2, bvs_append]
        exact this
    have := h2.replace (D' := D.appendTo s l) (r' := { r with fil := { r.fil with b := r.fil.b ++ l }, A := A', cap := c' }) HR.out HNm.out rfl rfl hf3 (fun k hk => .inr hk) hfile
      (fun k hk => by
        have e : (Value.slice A' (r.fil.b ++ l).length c').ownBlock = (Value.slice A' (r.fil.b.length + n) c').ownBlock := by cases A' <;> rfl
        simp only [Rep.v, e] at hk
        rcases hat with h1 | h1
        · exact .inl (by rw [← h1]; exact hk)
        · rw [h1] at hk
          injection hk with hk
          exact .inr (by omega))
      (by rw [HAp.out]) (by rw [HAp.out]; exact h2.blk.frm hf3 (fun e => by
        rcases e with e | e
        · exact h2.fb_ne_g hr1 e.symm
        · exact h2.row_ne_g hr1 e rfl))
      (by
        rw [HAp.out]
        exact Dsk.Ok.turn (f := { r.fil with b := r.fil.b ++ l }) (f0 := r.fil) h2.ok (by simpa [HNm.out] using HFi.out) (by have := h2.ok.safe _ (h2.filMem hr1); simp; omega) (by simp only [hlen2]; omega))
    refine ⟨this.1, fun k hk => ?_, ?_⟩
    · rcases this.2 k hk with h | h
      · exact .inl h
      · exact .inr (Nat.le_trans hf.size h)
    · exact (Frm.nix hf).next hf3 fun k hk => by
        rcases hk with hk | hk
        · exact .inl (.inr (.inr (.inl ⟨r, hr1, hk⟩)))
        · exact .inl (.inr (.inr (.inr ⟨r, hr1, hk⟩)))
  have HK := Lib.hid key
  have hdd : (D.appendTo s l).deeds < 4611686018427387904 := by rw [HAp.out]; exact hd
  clear key
  go_wp2_with (first | (at_builtin; refine wpList_append_run hrun rfl _ _ rfl rfl rfl ?_) | (go_at_call 59; refine (deed_any HK.out.1 hdd).mono ?_; rintro e w5 ⟨rfl, h5, hf5⟩))
  go_ret
  exact DkOut.mk HD.out h5 (F := Foot g m R) (HK.out.2.2.trans (hf5.mono fun k hk => .inl hk)) (fun k hk => .inl hk) HK.out.2.1
end
end Go.Proofs.YtdgpaddmheagoaaGreatDoor
