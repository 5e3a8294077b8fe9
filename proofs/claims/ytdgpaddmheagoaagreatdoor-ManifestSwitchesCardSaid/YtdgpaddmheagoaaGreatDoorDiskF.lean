/-
  Contracts of the disk package: Rename, Append.
-/
import Derived.Test.YtdgpaddmheagoaaGreatDoorDiskE
namespace Go.Proofs.YtdgpaddmheagoaaGreatDoor
open Go.RowKit

theorem Dsk.Ok.put_del {d : Dsk} {f f0 : Fil} {s : ByteArray} (h : d.Ok) (hf : findF s d.L = some f0) (hb : f.b = f0.b) (hs : f.safe = f0.safe) (hnm : nameOk f.name = true) : ({ d with L := putF f (delF s d.L) } : Dsk).Ok := by
  have h1 := used_put (f := f) (h.sorted.del s)
  have h2 := used_del h.sorted hf
  have h3 := len_put (f := f) (h.sorted.del s)
  have h4 := len_del h.sorted hf
  have h5 := h.cnt
  have h6 := used_del_le f.name (delF s d.L)
  have h7 := len_del_le f.name (delF s d.L)
  have h8 := h.used
  rw [hb] at h1
  refine ⟨(h.sorted.del s).put, h.lo, h.hi, h.q0, h.q1, by simp only; omega, fun g hg => ?_, by simp only; omega, fun g hg => ?_⟩
  · rcases mem_putF hg with rfl | hg
    · rw [hb, hs]
      exact h.safe f0 (findF_some hf).1
    · exact h.safe g (mem_delF hg)
  · rcases mem_putF hg with rfl | hg
    · exact hnm
    · exact h.nm g (mem_delF hg)

set_option maxRecDepth 100000 in
theorem Rename_nil (s t : ByteArray) (w : World) : Calls Tryz.prog 25 #[.pointer none, .string s, .string t] w fun e w' => e = .returned (.int .i64 6) ∧ w = w' := by
  go_enter Tryz.func25, Tryz.ntmps25
  go_wp2_with (go_at_call 57; refine (ready_nil _).mono ?_; rintro e w' ⟨rfl, rfl⟩)
  go_ret
  exact ⟨rfl, rfl⟩

set_option maxRecDepth 100000 in
set_option maxHeartbeats 400000 in
theorem Rename_any {B g : Nat} {F : Nat → Prop} {D : Dsk} {w : World} (h : Dk w B g F D) (s t : ByteArray) (hd : D.deeds < 4611686018427387904) (ht : t.size ≤ maxLen) :
    Calls Tryz.prog 25 #[.pointer (some ⟨g, 0, none⟩), .string s, .string t] w (DkOut w B g F (D.rename s t).1 (D.rename s t).2) := by
  obtain ⟨m, R, clock, h, rfl⟩ := h
  have hth := there_of h s
  have hb := h.blk
  have HD := Lib.hid h
  cases ho : D.off with
  | true =>
    have e : D.rename s t = (D, 30) := by simp [Dsk.rename, ho]
    rw [e]
    rw [ho] at hb
    have H := Lib.hid (ready_any g m _ _ _ true w hb)
    clear h ho hth e hb
    go_enter Tryz.func25, Tryz.ntmps25
    go_wp2_with (go_at_call 57; refine H.out.mono ?_; rintro e w' ⟨rfl, rfl⟩)
    go_ret
    exact DkOut.same HD.out
  | false =>
    rw [ho] at hb
    have H := Lib.hid (ready_any g m _ _ _ false w hb)
    clear hb
    cases hn : nameOk t with
    | false =>
      have e : D.rename s t = (D, 31) := by simp [Dsk.rename, ho, hn]
      rw [e]
      have HN := Lib.hid (named_any t w ht)
      rw [hn] at HN
      clear h ho hth e hn
      go_enter Tryz.func25, Tryz.ntmps25
      go_wp2_with (first | (go_at_call 57; refine H.out.mono ?_; rintro e w' ⟨rfl, rfl⟩) | (go_at_call 58; refine HN.out.mono ?_; rintro e w1 ⟨rfl, hf1⟩))
      go_ret
      exact DkOut.mk HD.out (HD.out.frm hf1 fun _ _ => id) hf1 (fun k hk => absurd hk id) fun k hk => .inl hk
    | true =>
      have HN := Lib.hid (named_any t w ht)
      rw [hn] at HN
      cases hr : repOf s R with
      | none =>
        have hth : D.there s = 4 := by rw [hth, ho, hr]; rfl
        have e : D.rename s t = (D, 4) := by simp [Dsk.rename, ho, hn, hth]
        rw [e]
        have HR : Hid (D.off = false ∧ repOf s R = none) := ⟨ho, hr⟩
        clear h ho hth e hn hr
        go_enter Tryz.func25, Tryz.ntmps25
        go_wp2_with (first | (go_at_call 57; refine H.out.mono ?_; rintro e w' ⟨rfl, rfl⟩) | (go_at_call 58; refine HN.out.mono ?_; rintro e w1 ⟨rfl, hf1⟩; have H1 := Lib.hid (HD.out.frm hf1 fun _ _ => id)) | (go_at_call 64; refine (there_no H1.out s HR.out.1 HR.out.2).mono ?_; rintro e w' ⟨rfl, rfl⟩))
        go_ret
        exact DkOut.mk HD.out H1.out hf1 (fun k hk => absurd hk id) fun k hk => .inl hk
      | some r =>
        have hth : D.there s = 0 := by rw [hth, ho, hr]; rfl
        obtain ⟨hr1, hr2⟩ := repOf_some hr
        have HR : Hid (D.off = false ∧ repOf s R = some r) := ⟨ho, hr⟩
        rcases deed_two D with hd2 | hd2
        · have e : D.rename s t = D.deed := by simp [Dsk.rename, ho, hn, hth, hd2]
          rw [e, hd2]
          have HE := Lib.hid hd2
          clear h ho hth e hn hr hr1 hr2 hd2
          go_enter Tryz.func25, Tryz.ntmps25
          go_wp2_with (first | (go_at_call 57; refine H.out.mono ?_; rintro e w' ⟨rfl, rfl⟩) | (go_at_call 58; refine HN.out.mono ?_; rintro e w1 ⟨rfl, hf1⟩; have H1 := Lib.hid (HD.out.frm hf1 fun _ _ => id)) | (go_at_call 64; refine (there_yes H1.out s HR.out.1 r HR.out.2).mono ?_; rintro e w' ⟨rfl, rfl⟩) | (go_at_call 59; refine (deed_any H1.out hd).mono ?_; rw [HE.out]; rintro e w2 ⟨rfl, h2, hf2⟩))
          go_ret
          exact DkOut.mk HD.out h2 (F := fun k => k = g) ((Frm.nix hf1).trans hf2) (fun k hk => .inl (.inl hk)) fun k hk => .inl hk
        · have hfind := h.find s
          rw [hr] at hfind
          simp only [Option.map_some] at hfind
          have e : D.rename s t = ({ D.deed.1 with L := putF { r.fil with name := t } (delF s D.L) }, 0) := by
            simp [Dsk.rename, ho, hn, hth, hd2, Dsk.renameTo, deed_L, hfind]
          rw [e]
          have HE := Lib.hid hd2
          have HFi := Lib.hid hfind
          have HNm := Lib.hid hr2
          have HOk := Lib.hid hn
          clear h ho hth e hn hr hd2 hfind hr2
          go_enter Tryz.func25, Tryz.ntmps25
          go_wp2_with (first | (go_at_call 57; refine H.out.mono ?_; rintro e w' ⟨rfl, rfl⟩) | (go_at_call 58; refine HN.out.mono ?_; rintro e w1 ⟨rfl, hf1⟩; have H1 := Lib.hid (HD.out.frm hf1 fun _ _ => id)) | (go_at_call 64; refine (there_yes H1.out s HR.out.1 r HR.out.2).mono ?_; rintro e w' ⟨rfl, rfl⟩) | (go_at_call 59; refine (deed_any H1.out hd).mono ?_; rw [HE.out]; rintro e w2 ⟨rfl, h2, hf2⟩; have c0 := h2.blk.cell 0; simp at c0; obtain ⟨w3, hrun, hm3, hf3⟩ := h2.map.delete (P := Tryz.prog) Tryz.underlying52 Tryz.underlying9 s 9; have c03 := (h2.blk.frm hf3 h2.g_ne_m).cell 0; simp at c03; obtain ⟨w4, hrun4, hm4, hf4⟩ := hm3.update (P := Tryz.prog) Tryz.underlying52 Tryz.underlying9 t (.pointer (some ⟨r.fb, 0, none⟩))) | (refine wpList_delete_run hrun rfl _ _ rfl rfl rfl ?_) | (at_mapUpdate; refine wpList_mapUpdate_run hrun4 rfl _ _ _ rfl rfl rfl rfl ?_))
          go_ret
          have h3 := h2.remove (D' := { D.deed.1 with L := delF s D.L }) s hf3 hm3 (by rw [deed_L]) rfl rfl rfl rfl (by have := h2.ok.del s; simpa [deed_L] using this)
          rw [delE_map s h2.names] at hm4
          have hfile : FileAt w3 B { r with fil := { r.fil with name := t } } := by
            have := (h2.files r hr1).frm hf3 (h2.fb_ne_m hr1) (fun _ hk e => h2.row_ne_m hr1 hk e)
            exact ⟨this.blk, this.fB, this.own⟩
          obtain ⟨R', clock', h4, hR', -⟩ := h3.attach (D' := { D.deed.1 with L := putF { r.fil with name := t } (delF s D.L) }) (rn := { r with fil := { r.fil with name := t } }) hfile
            (fun x hx _ => h2.apart x (mem_delR hx).1 r hr1 (by rw [HNm.out]; exact (mem_delR hx).2)) hf4 hm4 rfl rfl rfl rfl rfl
            (by have := Dsk.Ok.put_del (f := { r.fil with name := t }) (f0 := r.fil) h2.ok (by rw [deed_L]; exact HFi.out) rfl rfl HOk.out; simpa [deed_L] using this)
          refine DkOut.mk HD.out h4 (F := fun k => k = g ∨ k = m) (((Frm.nix hf1).trans (hf2.mono fun _ h => .inl h)).trans ((hf3.mono fun _ h => .inr h).trans (hf4.mono fun _ h => .inr h))) (fun k hk => .inl ?_) fun k hk => .inl ?_
          · rcases hk with hk | hk
            · exact .inl hk
            · exact .inr (.inl hk)
          · rcases hk with hk | hk | ⟨x, hx, hk⟩ | ⟨x, hx, hk⟩
            · exact .inl hk
            · exact .inr (.inl hk)
            · rcases hR' x hx with ⟨hx, -⟩ | ⟨b, rfl⟩
              · exact .inr (.inr (.inl ⟨x, (mem_delR hx).1, hk⟩))
              · exact .inr (.inr (.inl ⟨r, hr1, hk⟩))
            · rcases hR' x hx with ⟨hx, -⟩ | ⟨b, rfl⟩
              · exact .inr (.inr (.inr ⟨x, (mem_delR hx).1, hk⟩))
              · exact .inr (.inr (.inr ⟨r, hr1, hk⟩))
end Go.Proofs.YtdgpaddmheagoaaGreatDoor
