/-
  The reference's disk: Stop, Delete, Sync, Read.
-/
import Derived.Test.YthhkblogocoeeaaRefE2
namespace Go.Proofs.Ythhkblogocoeeaa
open Go.RowKit

section
variable {w w' : World} {B g : Nat} {W F : Nat → Prop} {D D' : Dsk} {A : Option Addr} {c : Nat} {V : List RFil}
theorem RD.nix (h : RD w B g W F D) (hf : Frm Nix w w') : RD w' B g W F D := h.frm hf fun _ _ => id
theorem RD.same (h : RD w B g W F D) (hf : Frm Nix w w') : RGo w B g W F D w' := ⟨W, F, h.nix hf, Frm.nix hf, fun _ => .inl, fun _ => .inl⟩
theorem RD.lt (h : RD w B g W F D) : B ≤ w.heap.size := by
  obtain ⟨A, c, V, h1, -⟩ := h.at_
  exact Nat.le_trans h1.gB (Nat.le_of_lt h1.blk.lt)
theorem RD.ok (h : RD w B g W F D) : D.Ok := by
  obtain ⟨A, c, V, h1, -⟩ := h.at_
  exact h1.ok
/-- the head alone is turned. -/
theorem RD.head (h : RD w B g W F D) (h2 : ∀ k, RFoot g (.slice A D.L.length c) k → W k) (h3 : ∀ r ∈ V, ∀ k, r.2.ownBlock = some k → F k) (h' : RDiskAt w' B g D' A c V) (hL : D'.L = D.L) (hf : Frm (fun k => k = g) w w') : RGo w B g W F D' w' :=
  h.go h.lt h2 h3 h' (hf.mono fun _ e => .inl e) (fun k hk => .inl (.inr (by rw [hL] at hk; exact hk))) (fun r hr k hk => .inl ⟨r, hr, hk⟩)
end

set_option maxRecDepth 100000 in
theorem rStop_any {w : World} {B g : Nat} {W F : Nat → Prop} {D : Dsk} (h : RD w B g W F D) (n : Int) (hn : n ≤ 9223372036854775807) :
    Calls Try.prog 33 #[.pointer (some ⟨g, 0, none⟩), .int .i64 n] w fun e w' => e = .returned (.int .i64 (D.stop n).2) ∧ RGo w B g W F (D.stop n).1 w' := by
  obtain ⟨A, c, V, h1, h2, h3⟩ := h.at_
  have c2 := h1.blk.cell 2
  have f2 := h1.blk.frozen 2
  simp at c2
  by_cases h0 : n < 0
  · have hs : D.stop n = (D, 1) := by simp [Dsk.stop, h0]
    rw [hs]
    have HH := Lib.hid (h.same (Frm.refl Nix w))
    go_enter Try.func33, Try.ntmps33
    go_wp2
    go_ret
    exact ⟨rfl, HH.out⟩
  · have hs : D.stop n = ({ D with left := n }, 0) := by simp [Dsk.stop, h0]
    rw [hs]
    have hf : Frm (fun k => k = g) w (w.setCell ⟨g, 2, none⟩ (.int .i64 n)) := (Frm.refl (fun k => k = g) w).setCell (.inl rfl) _
    have HH := Lib.hid (h.head (D' := { D with left := n }) h2 h3 (h1.head (D' := { D with left := n }) hf rfl (by simpa using h1.blk.set_ 2 (.int .i64 n)) { h1.ok with lo := by simp only; omega, hi := hn }) rfl hf)
    clear hf h h1 h2 h3 hs
    go_enter Try.func33, Try.ntmps33
    go_wp2
    go_ret
    exact ⟨rfl, HH.out⟩

set_option maxRecDepth 100000 in
set_option maxHeartbeats 1000000 in
theorem rDelete_any {w : World} {B g : Nat} {W F : Nat → Prop} {D : Dsk} (h : RD w B g W F D) (s : ByteArray) (hd : D.deeds < 4611686018427387904) :
    Calls Try.prog 31 #[.pointer (some ⟨g, 0, none⟩), .string s] w fun e w' => e = .returned (.int .i64 (D.delete s).2) ∧ RGo w B g W F (D.delete s).1 w' := by
  obtain ⟨A, c, V, h1, h2, h3⟩ := h.at_
  have c3 := h1.blk.cell 3
  simp at c3
  have HH := Lib.hid h
  have H1 := Lib.hid h1
  have H2 := Lib.hid h2
  have H3 := Lib.hid h3
  have HD := Lib.hid hd
  clear h h1 h2 h3 hd
  rcases hoff : D.off with _ | _
  · rcases hf : findF s D.L with _ | f
    · have hth : D.delete s = (D, 4) := by simp [Dsk.delete, Dsk.there, hoff, hf]
      have hisf : isF s D.L = false := by simp [isF, hf]
      have K := rfind_any H1.out s
      rw [hisf] at K
      rw [hth]
      rw [hoff] at c3
      clear hth hf hisf hoff
      go_enter Try.func31, Try.ntmps31
      go_wp2_with (go_at_call 44; refine K.mono ?_; rintro e w1 ⟨rfl, n, rfl⟩)
      go_ret
      exact ⟨rfl, HH.out.same ((Frm.refl Nix w).drewN _)⟩
    · have hisf : isF s D.L = true := by simp [isF, hf]
      have K := rfind_any H1.out s
      rw [hisf] at K
      rw [hoff] at c3
      rcases hb : D.deed.2 == 0 with _ | _
      · have hth : D.delete s = D.deed := by
          have : D.deed.2 ≠ 0 := by simpa using hb
          simp [Dsk.delete, Dsk.there, hoff, hf, this]
        have e30 : D.deed.2 = 30 := by
          rcases deed_two D with e | e
          · exact e
          · simp [e] at hb
        rw [hth, e30]
        have KD : ∀ n, Calls Try.prog 45 #[.pointer (some ⟨g, 0, none⟩)] (w.drewN n) fun e w' => e = .returned (.bool false) ∧ RDiskAt w' B g D.deed.1 A c V ∧ Frm (fun k => k = g) (w.drewN n) w' := fun n => by
          have := rdeed_any (H1.out.nix ((Frm.refl Nix w).drewN n)) HD.out
          rwa [hb] at this
        clear hth e30 hb hoff hf hisf
        go_enter Try.func31, Try.ntmps31
        go_wp2_with (first | (go_at_call 44; refine K.mono ?_; rintro e w1 ⟨rfl, n, rfl⟩) | (go_at_call 45; refine (KD _).mono ?_; rintro e w2 ⟨rfl, h5, hf5⟩))
        go_ret
        exact ⟨rfl, HH.out.head H2.out H3.out h5 (deed_L D) (Frm.trans (Frm.nix ((Frm.refl Nix w).drewN _)) hf5)⟩
      · have e0 : D.deed.2 = 0 := by simpa using hb
        have hth : D.delete s = (D.deed.1.deleteTo s, 0) := by simp [Dsk.delete, Dsk.there, hoff, hf, e0]
        rw [hth]
        obtain ⟨p1, p2, -⟩ := posF_some H1.out.ok.sorted hf
        obtain ⟨hpl, -⟩ := List.getElem?_eq_some_iff.1 p1
        have KD : ∀ n, Calls Try.prog 45 #[.pointer (some ⟨g, 0, none⟩)] (w.drewN n) fun e w' => e = .returned (.bool true) ∧ RDiskAt w' B g D.deed.1 A c V ∧ Frm (fun k => k = g) (w.drewN n) w' := fun n => by
          have := rdeed_any (H1.out.nix ((Frm.refl Nix w).drewN n)) HD.out
          rwa [hb] at this
        have KP : ∀ w2 : World, RDiskAt w2 B g D.deed.1 A c V → Calls Try.prog 47 #[.pointer (some ⟨g, 0, none⟩), .int .i64 (posF s D.L : Nat)] w2 (DropOut w2 B g (D.deed.1.deleteTo s) (V.take (posF s D.L) ++ V.drop (posF s D.L + 1))) := fun w2 h2 => by
          have := rdrop_any h2 (posF s D.L) (by rw [deed_L]; exact hpl) (by rw [deed_L, p2, ← deed_L D]; exact h2.ok.del s)
          rw [deed_L, p2] at this
          unfold Dsk.deleteTo
          rw [deed_L]
          exact this
        clear hth e0 hb hoff hf hisf p1 p2 hpl
        go_enter Try.func31, Try.ntmps31
        go_wp2_with (first | (go_at_call 44; refine K.mono ?_; rintro e w1 ⟨rfl, n, rfl⟩) | (go_at_call 45; refine (KD _).mono ?_; rintro e w2 ⟨rfl, h5, hf5⟩) | (go_at_call 47; refine (KP _ h5).mono ?_; rintro e w3 ⟨rfl, A6, c6, h6, hf6, hn6⟩))
        go_ret
        have hf7 : Frm (fun k => k = g) w w3 := ((Frm.nix ((Frm.refl Nix w).drewN _)).trans hf5).trans hf6
        have hs5 : w.heap.size ≤ w2.heap.size := hf5.size
        refine ⟨rfl, HH.out.go HH.out.lt H2.out H3.out h6 (hf7.mono fun _ e => .inl e) (fun k hk => .inr (Nat.le_trans hs5 (hn6 k hk))) (fun r hr k hk => .inl ⟨r, ?_, hk⟩)⟩
        rcases List.mem_append.1 hr with hr | hr
        · exact List.mem_of_mem_take hr
        · exact List.mem_of_mem_drop hr
  · have hth : D.delete s = (D, 30) := by simp [Dsk.delete, Dsk.there, hoff]
    rw [hth]
    rw [hoff] at c3
    have K := rfind_any H1.out s
    clear hth hoff
    go_enter Try.func31, Try.ntmps31
    go_wp2_with (go_at_call 44; refine K.mono ?_; rintro e w1 ⟨rfl, n, rfl⟩)
    go_ret
    exact ⟨rfl, HH.out.same ((Frm.refl Nix w).drewN _)⟩

set_option maxRecDepth 100000 in
set_option maxHeartbeats 1000000 in
theorem rSync_any {w : World} {B g : Nat} {W F : Nat → Prop} {D : Dsk} (h : RD w B g W F D) (s : ByteArray) (hd : D.deeds < 4611686018427387904) :
    Calls Try.prog 29 #[.pointer (some ⟨g, 0, none⟩), .string s] w fun e w' => e = .returned (.int .i64 (D.sync s).2) ∧ RGo w B g W F (D.sync s).1 w' := by
  obtain ⟨A, c, V, h1, h2, h3⟩ := h.at_
  have c3 := h1.blk.cell 3
  simp at c3
  have HH := Lib.hid h
  have H1 := Lib.hid h1
  have H2 := Lib.hid h2
  have H3 := Lib.hid h3
  have HD := Lib.hid hd
  clear h h1 h2 h3 hd
  rcases hoff : D.off with _ | _
  · rcases hf : findF s D.L with _ | f
    · have hth : D.sync s = (D, 4) := by simp [Dsk.sync, Dsk.there, hoff, hf]
      have hisf : isF s D.L = false := by simp [isF, hf]
      have K := rfind_any H1.out s
      rw [hisf] at K
      rw [hth]
      rw [hoff] at c3
      clear hth hf hisf hoff
      go_enter Try.func29, Try.ntmps29
      go_wp2_with (go_at_call 44; refine K.mono ?_; rintro e w1 ⟨rfl, n, rfl⟩)
      go_ret
      exact ⟨rfl, HH.out.same ((Frm.refl Nix w).drewN _)⟩
    · have hisf : isF s D.L = true := by simp [isF, hf]
      have K := rfind_any H1.out s
      rw [hisf] at K
      rw [hoff] at c3
      rcases hb : D.deed.2 == 0 with _ | _
      · have hth : D.sync s = D.deed := by
          have : D.deed.2 ≠ 0 := by simpa using hb
          simp [Dsk.sync, Dsk.there, hoff, hf, this]
        have e30 : D.deed.2 = 30 := by
          rcases deed_two D with e | e
          · exact e
          · simp [e] at hb
        rw [hth, e30]
        have KD : ∀ n, Calls Try.prog 45 #[.pointer (some ⟨g, 0, none⟩)] (w.drewN n) fun e w' => e = .returned (.bool false) ∧ RDiskAt w' B g D.deed.1 A c V ∧ Frm (fun k => k = g) (w.drewN n) w' := fun n => by
          have := rdeed_any (H1.out.nix ((Frm.refl Nix w).drewN n)) HD.out
          rwa [hb] at this
        clear hth e30 hb hoff hf hisf
        go_enter Try.func29, Try.ntmps29
        go_wp2_with (first | (go_at_call 44; refine K.mono ?_; rintro e w1 ⟨rfl, n, rfl⟩) | (go_at_call 45; refine (KD _).mono ?_; rintro e w2 ⟨rfl, h5, hf5⟩))
        go_ret
        exact ⟨rfl, HH.out.head H2.out H3.out h5 (deed_L D) (Frm.trans (Frm.nix ((Frm.refl Nix w).drewN _)) hf5)⟩
      · have e0 : D.deed.2 = 0 := by simpa using hb
        have hth : D.sync s = (D.deed.1.syncTo s, 0) := by simp [Dsk.sync, Dsk.there, hoff, hf, e0]
        rw [hth]
        obtain ⟨p1, -, p3⟩ := posF_some H1.out.ok.sorted hf
        have hnm := (findF_some hf).2
        have HT : Hid (D.deed.1.syncTo s = { D.deed.1 with L := D.L.set (posF s D.L) { f with safe := f.b.length } } ∧ ({ D.deed.1 with L := D.L.set (posF s D.L) { f with safe := f.b.length } } : Dsk).Ok) := by
          rw [p3 { f with safe := f.b.length } hnm]
          refine ⟨by simp only [Dsk.syncTo, deed_L, hf], ?_⟩
          have := Dsk.Ok.turn (f := { f with safe := f.b.length }) (f0 := f) H1.out.ok.deed (by rw [deed_L]; simpa [hnm] using hf) (Nat.le_refl _) (by
            have := H1.out.ok.deed.used
            rw [deed_L] at this ⊢
            simp only
            omega)
          rw [deed_L] at this
          exact this
        have KD : ∀ n, Calls Try.prog 45 #[.pointer (some ⟨g, 0, none⟩)] (w.drewN n) fun e w' => e = .returned (.bool true) ∧ RDiskAt w' B g D.deed.1 A c V ∧ Frm (fun k => k = g) (w.drewN n) w' := fun n => by
          have := rdeed_any (H1.out.nix ((Frm.refl Nix w).drewN n)) HD.out
          rwa [hb] at this
        clear hth e0 hb hoff hf hisf p3
        generalize posF s D.L = p at *
        obtain ⟨hpl, hpf⟩ := List.getElem?_eq_some_iff.1 p1
        have HL := Lib.hid (deed_L D)
        have HP := Lib.hid hpf
        have hp0 : (0 : Int) ≤ (p : Int) := Int.natCast_nonneg _
        have hp1 : (p : Int) < (D.L.length : Int) := by omega
        clear p1 hnm hpf
        go_enter Try.func29, Try.ntmps29
        go_wp2_with (first | (go_at_call 44; refine K.mono ?_; rintro e w1 ⟨rfl, n, rfl⟩) | (go_at_call 45; refine (KD _).mono ?_; rintro e w2 ⟨rfl, h5, hf5⟩))
        have hpl1 : p < D.deed.1.L.length := by rw [HL.out]; exact hpl
        have heq : D.deed.1.L[p] = f := by simp only [HL.out]; exact HP.out
        obtain ⟨gr, fA, fc, rfl, ⟨hv, e1, e2⟩, k0, k1, k2, -, -, hown, hbl, hgr, hgB⟩ := h5.at_ hpl1
        rw [heq] at e1 e2 k0 k1 k2 hown hbl
        have c0 := h5.blk.cell 0
        simp at c0
        rw [HL.out] at c0
        have fz := h5.rowFrozen (p * 3 + 2)
        have HC := Lib.hid (h5.cellSet hv (j := 2) (by decide) ({ f with safe := f.b.length }, .slice fA f.b.length fc) (.int .i64 f.b.length) (by
          simp only [RFil.cells, e1, e2]
          rfl) hown (by rw [HL.out]; exact HT.out.2))
        have hg0 : gr ≠ g := h5.row_ne_g (k := gr) rfl
        have H5 := Lib.hid h5
        have HF5 := Lib.hid hf5
        have HE := Lib.hid e2
        clear h5 hf5 e1 e2 heq hpl1 hown
        go_region
        go_wp2
        go_ret
        obtain ⟨h6, hf6⟩ := HC.out
        rw [HL.out] at h6
        have hfw : Frm (RFoot g (.slice (some ⟨gr, 0, none⟩) D.L.length c)) w w2 := ((Frm.nix ((Frm.refl Nix w).drewN _)).trans HF5.out).mono fun _ e => .inl e
        rw [HT.out.1]
        refine ⟨rfl, HH.out.go HH.out.lt H2.out H3.out (h6.nix ((Frm.refl Nix _).drew)) (hfw.trans ((hf6.mono fun k e => .inr (by rw [e]; rfl)).drew)) (fun k hk => .inl (.inr ?_)) (fun r hr k hk => .inl ?_)⟩
        · rw [← hk]
          exact ownBlock_slice _ _ _ _ _
        · rcases List.mem_or_eq_of_mem_set hr with hr | rfl
          · exact ⟨r, hr, hk⟩
          · exact ⟨V[p], List.getElem_mem hv, by rw [HE.out]; exact hk⟩
  · have hth : D.sync s = (D, 30) := by simp [Dsk.sync, Dsk.there, hoff]
    rw [hth]
    rw [hoff] at c3
    have K := rfind_any H1.out s
    clear hth hoff
    go_enter Try.func29, Try.ntmps29
    go_wp2_with (go_at_call 44; refine K.mono ?_; rintro e w1 ⟨rfl, n, rfl⟩)
    go_ret
    exact ⟨rfl, HH.out.same ((Frm.refl Nix w).drewN _)⟩
end Go.Proofs.Ythhkblogocoeeaa
