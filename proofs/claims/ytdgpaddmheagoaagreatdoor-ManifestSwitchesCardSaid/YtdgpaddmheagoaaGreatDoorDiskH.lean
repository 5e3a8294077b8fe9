/-
  Contracts of the disk package: Append to a new file; Append, whole.
-/
import Derived.Test.YtdgpaddmheagoaaGreatDoorDiskG
namespace Go.Proofs.YtdgpaddmheagoaaGreatDoor
open Go.RowKit

section
variable {w : World} {B g m clock : Nat} {D : Dsk} {R : List Rep}

set_option maxRecDepth 100000 in
set_option maxHeartbeats 1000000 in
/-- bytes of a new file. -/
theorem Append_new (h : DiskAt w B g m D R clock) (s : ByteArray) (A : Option Addr) (n c : Nat) (hr : repOf s R = none) (ho : D.off = false) (hn : nameOk s = true) (hs : s.size ≤ maxLen) (hR : R.length < 64)
    (hfull : ¬ D.quota - usedL D.L < (n : Int)) (l : List UInt8) (hl0 : l.length = n) (G : Nat → Prop) (hrd : Rd w G 1 A n (bvs l)) (hG : ∀ k, G k → ¬ Foot g m R k) (hd : D.deeds < 4611686018427387904) :
    Calls Tryz.prog 21 #[.pointer (some ⟨g, 0, none⟩), .string s, .slice A n c] w (DkOut w B g (Foot g m R) (D.appendTo s l).deed.1 (D.appendTo s l).deed.2) := by
  have HD := Lib.hid h
  have hb := h.blk
  rw [ho] at hb
  have H := Lib.hid (ready_any g m _ _ _ false w hb)
  have c0 := hb.cell 0
  have c1 := hb.cell 1
  simp at c0 c1
  have hl := h.lookup s
  rw [hr] at hl
  simp only at hl
  have HN := Lib.hid (named_any s w hs)
  rw [hn] at HN
  have hq0 := h.ok.q0
  have hq1 := h.ok.q1
  have hu := h.ok.used
  have hge : decide ((64 : Int) ≤ (R.length : Int)) = false := by simp; omega
  have hfind := h.find s
  rw [hr] at hfind
  simp only [Option.map_none] at hfind
  have HAp : Hid (D.appendTo s l = { D with L := putF ⟨s, l, 0⟩ D.L }) := by unfold Hid Dsk.appendTo; rw [hfind]
  have HFi := Lib.hid hfind
  have HL := Lib.hid hl0
  have HRd := Lib.hid hrd
  have HG := Lib.hid hG
  have HOk := Lib.hid hn
  have hcnt : D.L.length < 64 := by rw [h.perm.length_eq, List.length_map]; exact hR
  clear h hb hr ho hn hfind hl0 hrd hG
  obtain ⟨i0, hi, hz0, hz1, hz2⟩ := info_parts info_u8
  have HI : Hid (Tryz.prog.info? 5 = some i0 ∧ i0.zero = some (.int .u8 0) ∧ i0.size = 1 ∧ i0.bytes = 1) := ⟨hi, hz0, hz1, hz2⟩
  clear hi hz0 hz1 hz2
  go_enter Tryz.func21, Tryz.ntmps21
  go_wp2_with (first | (go_at_call 57; refine H.out.mono ?_; rintro e w' ⟨rfl, rfl⟩) | (go_at_call 58; refine HN.out.mono ?_; rintro e w1 ⟨rfl, hf1⟩; have c11 := (hf1.cell (p := ⟨g, 1, none⟩) (below_size_of_cell c1) id).trans c1; have c10 := (hf1.cell (p := ⟨g, 0, none⟩) (below_size_of_cell c0) id).trans c0))
  have hcx : ∀ x : FW (Frm Nix w1), x.w.cell? ⟨g, 1, none⟩ = some (.int .i64 D.quota) := fun x => (x.h.cell (below_size_of_cell c11) id).trans c11
  have hcy : ∀ x : FW (Frm Nix w1), x.w.cell? ⟨g, 0, none⟩ = some (.map (some m)) := fun x => (x.h.cell (below_size_of_cell c10) id).trans c10
  have hlx : ∀ (x : FW (Frm Nix w1)) (ty : TypeId), (Builtin.len_ #[52] ty #[.map (some m)]).run Tryz.prog x.w = .ok (.int .i64 R.length) x.w := fun x ty => by
    have := (((HD.out.frm hf1 fun _ _ => id).frm x.h fun _ _ => id).map.len (P := Tryz.prog) Tryz.underlying52 ty)
    simpa using this
  refine wp_region_class (Frm Nix w1) ((Frm.refl Nix w1).drew) (by kernel_rfl) (by kernel_rfl) ?_
  repeat (go_big_quiet_step (first | (rename_i x; go_at_call 42; refine x.call (Used_any (B := B) (F := Foot g m R) (D := D) ⟨m, R, clock, (HD.out.frm hf1 (fun _ _ => id)).frm x.h (fun _ _ => id), rfl⟩) ?_; exact fun w' hf => x.h.trans hf)))
  refine wpQuiet_nil ?_
  rintro w2 ⟨⟨_, hf2⟩, rfl⟩
  clear hcx hcy hlx
  have hf : Frm Nix w w2 := hf1.trans hf2
  have h2 : DiskAt w2 B g m D R clock := HD.out.frm hf fun _ _ => id
  -- the new file's block
  have hfa : Frm Nix w2 (w2.alloc (.cells #[.slice none 0 0, .int .i64 0] 86)) := (Frm.refl Nix w2).alloc _
  have h3 : DiskAt (w2.alloc (.cells #[.slice none 0 0, .int .i64 0] 86)) B g m D R clock := h2.frm hfa fun _ _ => id
  have hB2 : B ≤ w2.heap.size := Nat.le_trans h2.gB (Nat.le_of_lt h2.blk.lt)
  have hfile0 : FileAt (w2.alloc (.cells #[.slice none 0 0, .int .i64 0] 86)) B ⟨⟨s, [], 0⟩, w2.heap.size, none, 0, 0⟩ :=
    ⟨Blk.new w2 _ _, hB2, World.ownsRow_nil _ _ _ _⟩
  obtain ⟨w4, hrun4, hm4, hf4⟩ := h3.map.update (P := Tryz.prog) Tryz.underlying52 Tryz.underlying9 s (.pointer (some ⟨w2.heap.size, 0, none⟩))
  obtain ⟨R', clock', h4, hR', b4, hr4⟩ := h3.attach (D' := { D with L := putF ⟨s, [], 0⟩ D.L }) (rn := ⟨⟨s, [], 0⟩, w2.heap.size, none, 0, 0⟩) hfile0
    (fun x hx _ => ⟨by have := (h2.files x hx).blk.lt; simp only; omega, fun k _ => by simp [Rep.v, Value.ownBlock]⟩) hf4 hm4 rfl rfl rfl rfl rfl (h2.ok.fresh HFi.out hcnt HOk.out)
  obtain ⟨hr41, -⟩ := repOf_some hr4
  have hfl := h4.files _ hr41
  have cf := hfl.blk.cell 0
  simp only [Rep.v] at cf
  simp at cf
  have hRd4 : Rd w4 G 1 A n (bvs l) := ((HRd.out.frm hf fun _ _ => id).frm hfa fun _ _ => id).frm hf4 fun k hk e => HG.out k hk (.inr (.inl e))
  obtain ⟨v', w5, hrun, hown5, hg5, hat⟩ := run_append_any (P := Tryz.prog) w4 B 35 5 i0 (.int .u8 0) 1 1 Tryz.underlying35 HI.out.1 HI.out.2.1 HI.out.2.2.1 HI.out.2.2.2 rfl (by decide) (.slice none 0 0) 0 [] (World.ownsRow_nil _ _ _ _)
    G A n c (bvs l) hRd4 (bvs_one _) (by unfold maxLen; omega) (by omega) (Nat.le_trans h4.gB (Nat.le_of_lt h4.blk.lt))
  rw [Nat.zero_add, List.nil_append] at hown5
  obtain ⟨A', c', rfl, -⟩ := own_shape hown5
  have hb5 : Blk w5 w2.heap.size 86 #[.slice none 0 0, .int .i64 0] := by
    have := hfl.blk
    simp only [Rep.v] at this
    exact (hg5.block w2.heap.size this.lt (by simp [Value.ownBlock])).trans this
  have cf5 := hb5.cell 0
  have ff5 := hb5.frozen 0
  simp at cf5
  have c03 := h3.blk.cell 0
  simp at c03
  have key : ∃ R2, DiskAt (w5.setCell ⟨w2.heap.size, 0, none⟩ (.slice A' n c')) B g m (D.appendTo s l) R2 clock' ∧
      (∀ k, Foot g m R2 k → Foot g m R k ∨ w.heap.size ≤ k) ∧ Frm (Foot g m R) w (w5.setCell ⟨w2.heap.size, 0, none⟩ (.slice A' n c')) := by
    have hsz : w.heap.size ≤ w2.heap.size := hf.size
    have hsz4 : w2.heap.size < w4.heap.size := by have := hf4.size; simp at this; omega
    have hf5 : Frm (fun k => k = w2.heap.size) w4 (w5.setCell ⟨w2.heap.size, 0, none⟩ (.slice A' n c')) :=
      ((Frm.refl (fun k => k = w2.heap.size) w4).grown hg5 (fun k hk => by simp [Value.ownBlock] at hk)).setCell (.inl rfl) _
    have hfile : FileAt (w5.setCell ⟨w2.heap.size, 0, none⟩ (.slice A' n c')) B ⟨⟨s, l, 0⟩, w2.heap.size, A', c', b4⟩ := by
      refine ⟨?_, hB2, ?_⟩
      · have := hb5.set_ 0 (.slice A' n c')
        simpa [Rep.v, HL.out] using this
      · have hfr : Frm (fun k => k = w2.heap.size) w5 (w5.setCell ⟨w2.heap.size, 0, none⟩ (.slice A' n c')) := (Frm.refl (fun k => k = w2.heap.size) w5).setCell (.inl rfl) _
        have hne : ∀ k, (Value.slice A' n c').ownBlock = some k → ¬ k = w2.heap.size := by
          intro k hk e
          have := own_blk_ne hown5 hb5 (by decide)
          rw [hk, e] at this
          exact this rfl
        have := own_frm hown5 hfr hne
        simp only [Rep.v, HL.out]
        exact this
    have := h4.replace (D' := D.appendTo s l) (r' := ⟨⟨s, l, 0⟩, w2.heap.size, A', c', b4⟩) hr4 rfl rfl rfl hf5 (fun k hk => .inr (.inl hk)) hfile
      (fun k hk => by
        have e : (Value.slice A' l.length c').ownBlock = (Value.slice A' n c').ownBlock := by cases A' <;> rfl
        simp only [Rep.v, e] at hk
        rcases hat with h1 | h1
        · rw [h1] at hk
          cases hk
        · rw [h1] at hk
          injection hk with hk
          exact .inr (by omega))
      (by rw [HAp.out]; exact (putF_putF (f := ⟨s, l, 0⟩) (f0 := ⟨s, [], 0⟩) h2.ok.sorted rfl).symm) (by rw [HAp.out]; exact h4.blk.frm hf5 (fun e => by have := h2.blk.lt; omega))
      (by
        have ht := Dsk.Ok.turn (f := ⟨s, l, 0⟩) (f0 := ⟨s, [], 0⟩) h4.ok (findF_put (f := ⟨s, [], 0⟩) h2.ok.sorted) (Nat.zero_le _) (by
          have h1 := used_put (f := ⟨s, [], 0⟩) h2.ok.sorted
          simp only [delF_none HFi.out, List.length_nil] at h1
          simp only [HL.out, List.length_nil]
          omega)
        rw [HAp.out]
        rw [putF_putF (f := ⟨s, l, 0⟩) (f0 := ⟨s, [], 0⟩) h2.ok.sorted rfl] at ht
        exact ht)
    refine ⟨_, this.1, fun k hk => ?_, ?_⟩
    · rcases this.2 k hk with h | h
      · rcases h with h | h | ⟨x, hx, h⟩ | ⟨x, hx, h⟩
        · exact .inl (.inl h)
        · exact .inl (.inr (.inl h))
        · rcases hR' x hx with ⟨hx, -⟩ | ⟨b, rfl⟩
          · exact .inl (.inr (.inr (.inl ⟨x, hx, h⟩)))
          · simp only at h
            exact .inr (by omega)
        · rcases hR' x hx with ⟨hx, -⟩ | ⟨b, rfl⟩
          · exact .inl (.inr (.inr (.inr ⟨x, hx, h⟩)))
          · simp [Rep.v, Value.ownBlock] at h
      · exact .inr (by omega)
    · refine ((Frm.nix hf).more hfa).next (hf4.mono (F' := fun k => k = m ∨ k = w2.heap.size) (fun k hk => .inl hk) |>.next hf5 (fun k hk => .inl (.inr hk))) fun k hk => ?_
      rcases hk with hk | hk
      · exact .inl (.inr (.inl hk))
      · exact .inr (by omega)
  obtain ⟨R2, key⟩ := key
  have HK := Lib.hid key
  have hdd : (D.appendTo s l).deeds < 4611686018427387904 := by rw [HAp.out]; exact hd
  clear key h4 hr4 hR' hr41 hfl hRd4 hown5 hg5 hat hb5 h3 hfile0 hm4 hf4 h2 hf hf1 hf2 hfa
  go_wp2_with (first | (at_mapUpdate; refine wpList_mapUpdate_run hrun4 rfl _ _ _ rfl rfl rfl rfl ?_) | (at_builtin; refine wpList_append_run hrun rfl _ _ rfl rfl rfl ?_) | (go_at_call 59; refine (deed_any HK.out.1 hdd).mono ?_; rintro e w6 ⟨rfl, h6, hf6⟩))
  go_ret
  exact DkOut.mk HD.out h6 (F := Foot g m R) (HK.out.2.2.trans (hf6.mono fun k hk => .inl hk)) (fun k hk => .inl hk) HK.out.2.1
end

theorem Append_any {B g : Nat} {F : Nat → Prop} {D : Dsk} {w : World} (h : Dk w B g F D) (s : ByteArray) (hs : s.size ≤ maxLen) (A : Option Addr) (n c : Nat) (l : List UInt8) (hl : l.length = n) (G : Nat → Prop) (hrd : Rd w G 1 A n (bvs l)) (hG : ∀ k, G k → ¬ F k) (hd : D.deeds < 4611686018427387904) :
    Calls Tryz.prog 21 #[.pointer (some ⟨g, 0, none⟩), .string s, .slice A n c] w (DkOut w B g F (D.append s l).1 (D.append s l).2) := by
  obtain ⟨m, R, clock, h, rfl⟩ := h
  have hfind := h.find s
  have hLR : D.L.length = R.length := by rw [h.perm.length_eq, List.length_map]
  have hcnt := h.ok.cnt
  cases ho : D.off with
  | true =>
    have e : D.append s l = (D, 30) := by simp [Dsk.append, ho]
    rw [e]
    exact Append_off h s A n c ho
  | false =>
    cases hn : nameOk s with
    | false =>
      have e : D.append s l = (D, 31) := by simp [Dsk.append, ho, hn]
      rw [e]
      exact Append_bad h s A n c ho hn hs
    | true =>
      by_cases hq : D.quota - usedL D.L < (n : Int)
      · have e : D.append s l = (D, 2) := by
          have : D.full s l = true := by simp [Dsk.full]; right; omega
          simp [Dsk.append, ho, hn, this]
        rw [e]
        cases hr : repOf s R with
        | some r => exact Append_full1 h s A n c r hr ho hn hs hq
        | none =>
          by_cases hR : R.length < 64
          · exact Append_full2 h s A n c hr ho hn hs hR hq
          · exact Append_many h s A n c hr ho hn hs (by omega) (by omega)
      · cases hr : repOf s R with
        | some r =>
          rw [hr] at hfind
          have e : D.append s l = (D.appendTo s l).deed := by
            have : D.full s l = false := by simp [Dsk.full, hfind]; omega
            simp [Dsk.append, ho, hn, this]
          rw [e]
          exact Append_old h s A n c r hr ho hn hs hq l hl G hrd hG hd
        | none =>
          rw [hr] at hfind
          by_cases hR : R.length < 64
          · have e : D.append s l = (D.appendTo s l).deed := by
              have : D.full s l = false := by simp [Dsk.full]; omega
              simp [Dsk.append, ho, hn, this]
            rw [e]
            exact Append_new h s A n c hr ho hn hs hR hq l hl G hrd hG hd
          · have e : D.append s l = (D, 2) := by
              have : D.full s l = true := by simp [Dsk.full]; left; exact ⟨hfind, by omega⟩
              simp [Dsk.append, ho, hn, this]
            rw [e]
            exact Append_many h s A n c hr ho hn hs (by omega) (by omega)
end Go.Proofs.YtdgpaddmheagoaaGreatDoor
