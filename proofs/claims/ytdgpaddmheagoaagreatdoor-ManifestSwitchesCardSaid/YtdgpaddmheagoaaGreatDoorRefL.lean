/-
  The reference's disk: Rename.
-/
import Derived.Test.YtdgpaddmheagoaaGreatDoorRefI
namespace Go.Proofs.YtdgpaddmheagoaaGreatDoor
open Go.RowKit

/-- a file at the place where one of its name was, or would be. -/
theorem put_at {L : List Fil} (hs : SortedF L) (f : Fil) : (if isF f.name L = true then L.take (posF f.name L) ++ L.drop (posF f.name L + 1) else L).take (posF f.name L) ++ f :: (if isF f.name L = true then L.take (posF f.name L) ++ L.drop (posF f.name L + 1) else L).drop (posF f.name L) = putF f L := by
  rcases hf : findF f.name L with _ | f0
  · have h0 : isF f.name L = false := by simp [isF, hf]
    simp only [h0, Bool.false_eq_true, if_false]
    exact posF_none f rfl hf
  · have h0 : isF f.name L = true := by simp [isF, hf]
    obtain ⟨p1, -, p3⟩ := posF_some hs hf
    obtain ⟨hpl, -⟩ := List.getElem?_eq_some_iff.1 p1
    rw [if_pos h0, ← p3 f rfl, set_take_drop _ _ hpl]
    have hl : (L.take (posF f.name L)).length = posF f.name L := by simp; omega
    rw [List.take_append_of_le_length (by omega), List.drop_append_of_le_length (by omega), List.take_of_length_le (by omega), List.drop_of_length_le (by omega), List.nil_append]

/-- a file of its own, and the bytes, are kept. -/
theorem ren_keep {w4 w7 : World} {B g c : Nat} {D : Dsk} {A fA : Option Addr} {V : List RFil} {fn fc : Nat} {xs : List Value} {t : ByteArray} {z : Value} (h4 : RDiskAt w4 B g D A c V) (hown : w4.ownsRow B 5 1 (.slice fA fn fc) fn xs)
    (hf : Frm (fun k => k = g) (w4.alloc (.cells #[.string t, .slice fA fn fc, z] 73)) w7) :
    w7.ownsRow B 5 1 (.slice fA fn fc) fn xs ∧ w7.cell? ⟨w4.heap.size, 0, none⟩ = some (.string t) ∧ w7.cell? ⟨w4.heap.size, 1, none⟩ = some (.slice fA fn fc) ∧ w7.cell? ⟨w4.heap.size, 2, none⟩ = some z := by
  have hg := h4.blk.lt
  have hb := (Blk.new w4 73 #[.string t, .slice fA fn fc, z]).frm hf (fun e => by omega)
  have k0 := hb.cell 0
  have k1 := hb.cell 1
  have k2 := hb.cell 2
  simp at k0 k1 k2
  refine ⟨own_frm (own_frm hown ((Frm.refl Nix w4).alloc _) fun _ _ => id) hf (fun k hk e => ?_), k0, k1, k2⟩
  obtain ⟨cs, hb'⟩ := own3_at hown hk
  exact hb'.ne_ h4.blk (by decide) e

section
variable {w : World} {B g : Nat} {W F : Nat → Prop} {D : Dsk}

set_option maxRecDepth 100000 in
set_option maxHeartbeats 1000000 in
theorem rRename_no (h : RD w B g W F D) (s t : ByteArray) (ht : t.size ≤ maxLen) (n : Int) (hno : (D.off = true ∧ n = 30) ∨ (D.off = false ∧ nameOk t = false ∧ n = 31) ∨ (D.off = false ∧ nameOk t = true ∧ findF s D.L = none ∧ n = 4)) :
    Calls Tryz.prog 26 #[.pointer (some ⟨g, 0, none⟩), .string s, .string t] w fun e w' => e = .returned (.int .i64 n) ∧ RGo w B g W F D w' := by
  obtain ⟨A, c, V, h1, h2, h3⟩ := h.at_
  have c3 := h1.blk.cell 3
  simp at c3
  have K := rfind_any h1 s
  have KN := fun w1 => Name_any t w1 ht
  have HH := Lib.hid h
  rcases hno with ⟨ho, rfl⟩ | ⟨ho, hn, rfl⟩ | ⟨ho, hn, hf, rfl⟩
  · rw [ho] at c3
    clear h h1 h2 h3 ho
    go_enter Tryz.func26, Tryz.ntmps26
    go_wp2_with (go_at_call 60; refine K.mono ?_; rintro e w1 ⟨rfl, n, rfl⟩)
    go_ret
    exact ⟨rfl, HH.out.same ((Frm.refl Nix w).drewN _)⟩
  · rw [ho] at c3
    rw [hn] at KN
    clear h h1 h2 h3 ho hn
    go_enter Tryz.func26, Tryz.ntmps26
    go_wp2_with (first | (go_at_call 60; refine K.mono ?_; rintro e w1 ⟨rfl, n, rfl⟩) | (go_at_call 61; refine (KN _).mono ?_; rintro e w2 ⟨rfl, rfl⟩))
    go_ret
    exact ⟨rfl, HH.out.same ((Frm.refl Nix w).drewN _)⟩
  · rw [ho] at c3
    rw [hn] at KN
    have hisf : isF s D.L = false := by simp [isF, hf]
    rw [hisf] at K
    clear h h1 h2 h3 ho hn hf hisf
    go_enter Tryz.func26, Tryz.ntmps26
    go_wp2_with (first | (go_at_call 60; refine K.mono ?_; rintro e w1 ⟨rfl, n, rfl⟩) | (go_at_call 61; refine (KN _).mono ?_; rintro e w2 ⟨rfl, rfl⟩))
    go_ret
    exact ⟨rfl, HH.out.same ((Frm.refl Nix w).drewN _)⟩

set_option maxRecDepth 100000 in
set_option maxHeartbeats 1000000 in
theorem rRename_off (h : RD w B g W F D) (s t : ByteArray) (ht : t.size ≤ maxLen) (ho : D.off = false) (hn : nameOk t = true) {f : Fil} (hf : findF s D.L = some f) (hd : D.deeds < 4611686018427387904) (hb : (D.deed.2 == 0) = false) :
    Calls Tryz.prog 26 #[.pointer (some ⟨g, 0, none⟩), .string s, .string t] w fun e w' => e = .returned (.int .i64 30) ∧ RGo w B g W F D.deed.1 w' := by
  obtain ⟨A, c, V, h1, h2, h3⟩ := h.at_
  have c3 := h1.blk.cell 3
  simp at c3
  have K := rfind_any h1 s
  have KN := fun w1 => Name_any t w1 ht
  have HH := Lib.hid h
  have H2 := Lib.hid h2
  have H3 := Lib.hid h3
  rw [ho] at c3
  rw [hn] at KN
  have hisf : isF s D.L = true := by simp [isF, hf]
  rw [hisf] at K
  have KD : ∀ n, Calls Tryz.prog 62 #[.pointer (some ⟨g, 0, none⟩)] (w.drewN n) fun e w' => e = .returned (.bool false) ∧ RDiskAt w' B g D.deed.1 A c V ∧ Frm (fun k => k = g) (w.drewN n) w' := fun n => by
    have := rdeed_any (h1.nix ((Frm.refl Nix w).drewN n)) hd
    rwa [hb] at this
  clear h h1 h2 h3 ho hn hf hisf hb hd
  go_enter Tryz.func26, Tryz.ntmps26
  go_wp2_with (first | (go_at_call 60; refine K.mono ?_; rintro e w1 ⟨rfl, n, rfl⟩) | (go_at_call 61; refine (KN _).mono ?_; rintro e w2 ⟨rfl, rfl⟩) | (go_at_call 62; refine (KD _).mono ?_; rintro e w2 ⟨rfl, h5, hf5⟩))
  go_ret
  exact ⟨rfl, HH.out.head H2.out H3.out h5 (deed_L D) (Frm.trans (Frm.nix ((Frm.refl Nix w).drewN _)) hf5)⟩

set_option maxRecDepth 100000 in
set_option maxHeartbeats 1000000 in
theorem rRename_do (h : RD w B g W F D) (s t : ByteArray) (ht : t.size ≤ maxLen) (ho : D.off = false) (hn : nameOk t = true) {f : Fil} (hf : findF s D.L = some f) (hd : D.deeds < 4611686018427387904) (hb : (D.deed.2 == 0) = true) :
    Calls Tryz.prog 26 #[.pointer (some ⟨g, 0, none⟩), .string s, .string t] w fun e w' => e = .returned (.int .i64 0) ∧ RGo w B g W F { D.deed.1 with L := putF { f with name := t } (delF s D.L) } w' := by
  obtain ⟨A, c, V, h1, h2, h3⟩ := h.at_
  have c3 := h1.blk.cell 3
  simp at c3
  have K := rfind_any h1 s
  have KN := fun w1 => Name_any t w1 ht
  have HH := Lib.hid h
  have H2 := Lib.hid h2
  have H3 := Lib.hid h3
  rw [ho] at c3
  rw [hn] at KN
  have hisf : isF s D.L = true := by simp [isF, hf]
  rw [hisf] at K
  have KD : ∀ n, Calls Tryz.prog 62 #[.pointer (some ⟨g, 0, none⟩)] (w.drewN n) fun e w' => e = .returned (.bool true) ∧ RDiskAt w' B g D.deed.1 A c V ∧ Frm (fun k => k = g) (w.drewN n) w' := fun n => by
    have := rdeed_any (h1.nix ((Frm.refl Nix w).drewN n)) hd
    rwa [hb] at this
  obtain ⟨p1, p2, -⟩ := posF_some h1.ok.sorted hf
  obtain ⟨hpl, hpf⟩ := List.getElem?_eq_some_iff.1 p1
  have hso5 : SortedF (delF s D.L) := h1.ok.sorted.del s
  -- the first drop
  have KP : Hid (∀ w4 : World, RDiskAt w4 B g D.deed.1 A c V → Calls Tryz.prog 65 #[.pointer (some ⟨g, 0, none⟩), .int .i64 (posF s D.L : Nat)] w4 (DropOut w4 B g { D.deed.1 with L := delF s D.L } (V.take (posF s D.L) ++ V.drop (posF s D.L + 1)))) := fun w4 h4 => by
    have := rdrop_any h4 (posF s D.L) (by rw [deed_L]; exact hpl) (by rw [deed_L, p2, ← deed_L D]; exact h4.ok.del s)
    rw [deed_L, p2] at this
    exact this
  generalize hV5 : V.take (posF s D.L) ++ V.drop (posF s D.L + 1) = V5 at *
  have hV5m : ∀ r ∈ V5, r ∈ V := fun r hr => by
    rw [← hV5] at hr
    rcases List.mem_append.1 hr with hr | hr
    · exact List.mem_of_mem_take hr
    · exact List.mem_of_mem_drop hr
  have hfm := (findF_some hf).1
  have hput : ({ D.deed.1 with L := putF { f with name := t } (delF s D.L) } : Dsk).Ok := by
    have := Dsk.Ok.put_del (f := { f with name := t }) (f0 := f) h1.ok.deed (by rw [deed_L]; exact hf) rfl rfl hn
    rw [deed_L] at this
    exact this
  have hpa := put_at hso5 { f with name := t }
  -- the file itself
  have HA : Hid (∀ w4, RDiskAt w4 B g D.deed.1 A c V → ∃ gr fA fc, A = some ⟨gr, 0, none⟩ ∧ w4.cell? ⟨g, 0, none⟩ = some (.slice (some ⟨gr, 0, none⟩) D.L.length c) ∧ w4.cell? ⟨gr, posF s D.L * 3, none⟩ = some (.string f.name) ∧ w4.cell? ⟨gr, posF s D.L * 3 + 1, none⟩ = some (.slice fA f.b.length fc) ∧ w4.cell? ⟨gr, posF s D.L * 3 + 2, none⟩ = some (.int .i64 f.safe) ∧
      w4.ownsRow B 5 1 (.slice fA f.b.length fc) f.b.length (bvs f.b) ∧ (∃ r ∈ V, r.2 = .slice fA f.b.length fc) ∧ g < w4.heap.size ∧ w4.heap.size ≠ g ∧ w4.heap.size ≠ gr) := fun w4 h4 => by
    have heq : ∀ hx, D.deed.1.L[posF s D.L]'hx = f := fun hx => by simp only [deed_L]; exact hpf
    obtain ⟨gr, fA, fc, rfl, ⟨hv, e1, e2⟩, k0, k1, k2, -, -, hown, hbl, hgr, hgB⟩ := h4.at_ (i := posF s D.L) (by rw [deed_L]; exact hpl)
    rw [heq] at e1 e2 k0 k1 k2 hown
    have c0 := h4.blk.cell 0
    simp at c0
    rw [deed_L] at c0
    have := h4.blk.lt
    exact ⟨gr, fA, fc, rfl, c0, k0, k1, k2, hown, ⟨_, List.getElem_mem hv, e2⟩, this, by omega, by omega⟩
  have hp0 : (0 : Int) ≤ (posF s D.L : Nat) := Int.natCast_nonneg _
  have hp1 : ((posF s D.L : Nat) : Int) < (D.L.length : Int) := by omega
  generalize hD5 : ({ D.deed.1 with L := delF s D.L } : Dsk) = D5 at *
  have hL5 : D5.L = delF s D.L := by rw [← hD5]
  have K2 : Hid (∀ w5 A5 c5, RDiskAt w5 B g D5 A5 c5 V5 → Calls Tryz.prog 60 #[.pointer (some ⟨g, 0, none⟩), .string t] w5 fun e w' => e = .returned (.tuple #[.int .i64 (posF t (delF s D.L) : Nat), .bool (isF t (delF s D.L))]) ∧ ∃ n, w' = w5.drewN n) := fun w5 A5 c5 h5 => by
    have := rfind_any h5 t
    rw [hL5] at this
    exact this
  generalize posF s D.L = p at *
  rcases hb2 : isF t (delF s D.L) with _ | _
  · simp only [hb2, Bool.false_eq_true, if_false] at hpa
    rw [hb2] at K2
    have KT : Hid (∀ w7 A6 c6 V6 fA fc, RDiskAt w7 B g D5 A6 c6 V6 → w7.ownsRow B 5 1 (.slice fA f.b.length fc) f.b.length (bvs f.b) → Calls Tryz.prog 63 #[.pointer (some ⟨g, 0, none⟩), .int .i64 (posF t (delF s D.L) : Nat), .agg #[.string t, .slice fA f.b.length fc, .int .i64 f.safe]] w7
        (DropOut w7 B g { D.deed.1 with L := putF { f with name := t } (delF s D.L) } (V6.take (posF t (delF s D.L)) ++ (({ f with name := t } : Fil), Value.slice fA f.b.length fc) :: V6.drop (posF t (delF s D.L))))) := fun w7 A6 c6 V6 fA fc h7 ho7 => by
      have e5 : ({ D5 with L := putF { f with name := t } (delF s D.L) } : Dsk) = { D.deed.1 with L := putF { f with name := t } (delF s D.L) } := by rw [← hD5]
      have := rput_any h7 (posF t (delF s D.L)) (by rw [hL5]; exact posF_le _ _) { f with name := t } fA fc ho7 (by rw [hL5, hpa, e5]; exact hput)
      rw [hL5, hpa, e5] at this
      exact this
    generalize posF t (delF s D.L) = q at *
    clear h h1 h2 h3 ho hn hf hisf hb hd p1 hpf hpl hpa hput hfm hso5 hL5 hb2
    have HV6 := Lib.hid hV5m
    clear hV5m
    go_enter Tryz.func26, Tryz.ntmps26
    go_wp2_with (first | (go_at_call 60; refine K.mono ?_; rintro e w1 ⟨rfl, n, rfl⟩; clear K) | (go_at_call 61; refine (KN _).mono ?_; rintro e w2 ⟨rfl, rfl⟩) | (go_at_call 62; refine (KD _).mono ?_; rintro e w4 ⟨rfl, h4, hf4⟩; obtain ⟨gr, fA, fc, rfl, c0, k0, k1, k2, hown, hmem, hgl, hn1, hn2⟩ := HA.out w4 h4) | (go_at_call 65; refine (KP.out _ (h4.nix ((Frm.refl Nix w4).alloc _))).mono ?_; rintro e w5 ⟨rfl, A5, c5, h5, hf5, hn5⟩; clear KP) | (go_at_call 60; refine (K2.out _ _ _ h5).mono ?_; rintro e w7 ⟨rfl, n2, hn2'⟩; have hfx : Frm (fun k => k = g) (w4.alloc _) w7 := by {rw [hn2']; exact hf5.trans (Frm.nix ((Frm.refl Nix w5).drewN _))}; have h6 : RDiskAt w7 B g D5 A5 c5 V5 := by {rw [hn2']; exact h5.nix ((Frm.refl Nix w5).drewN _)}; obtain ⟨hown7, x0, x1, x2⟩ := ren_keep h4 hown hfx; clear hn2' K2) | (go_at_call 63; refine (KT.out _ _ _ _ _ _ h6 hown7).mono ?_; rintro e w8 ⟨rfl, A8, c8, h8, hf8, hn8⟩))
    go_ret
    have hfw4 : Frm (fun k => k = g) w w4 := (Frm.nix ((Frm.refl Nix w).drewN _)).trans hf4
    have hfw7 : Frm (fun k => k = g) w w7 := (hfw4.trans (Frm.nix ((Frm.refl Nix w4).alloc _))).trans hfx
    have hfw8 := hfw7.trans hf8
    refine ⟨rfl, HH.out.go HH.out.lt H2.out H3.out h8 (hfw8.mono fun _ e => .inl e) (fun k hk => .inr (Nat.le_trans hfw7.size (hn8 k hk))) (fun r hr k hk => .inl ?_)⟩
    rcases List.mem_append.1 hr with hr | hr
    · exact ⟨r, HV6.out r (List.mem_of_mem_take hr), hk⟩
    · rcases List.mem_cons.1 hr with rfl | hr
      · obtain ⟨r', hr', e'⟩ := hmem
        exact ⟨r', hr', by rw [e']; exact hk⟩
      · exact ⟨r, HV6.out r (List.mem_of_mem_drop hr), hk⟩
  · have hKL : posF t (delF s D.L) < (delF s D.L).length := by
      rcases hf2 : findF t (delF s D.L) with _ | f2
      · simp [isF, hf2] at hb2
      · obtain ⟨q1, -⟩ := posF_some hso5 hf2
        exact (List.getElem?_eq_some_iff.1 q1).1
    have hdt : (delF s D.L).take (posF t (delF s D.L)) ++ (delF s D.L).drop (posF t (delF s D.L) + 1) = delF t (delF s D.L) := by
      rcases hf2 : findF t (delF s D.L) with _ | f2
      · simp [isF, hf2] at hb2
      · exact (posF_some hso5 hf2).2.1
    simp only [hb2, if_true, hdt] at hpa
    rw [hb2] at K2
    have hdl : (delF t (delF s D.L)).length + 1 = (delF s D.L).length := by
      rw [← hdt]
      simp
      omega
    have KP2 : Hid (∀ w6 A5 c5, RDiskAt w6 B g D5 A5 c5 V5 → Calls Tryz.prog 65 #[.pointer (some ⟨g, 0, none⟩), .int .i64 (posF t (delF s D.L) : Nat)] w6 (DropOut w6 B g { D5 with L := delF t (delF s D.L) } (V5.take (posF t (delF s D.L)) ++ V5.drop (posF t (delF s D.L) + 1)))) := fun w6 A5 c5 h6 => by
      have := rdrop_any h6 (posF t (delF s D.L)) (by rw [hL5]; exact hKL) (by rw [hL5, hdt, ← hL5]; exact h6.ok.del t)
      rw [hL5, hdt] at this
      exact this
    have KT : Hid (∀ w7 A6 c6 V6 fA fc, RDiskAt w7 B g { D5 with L := delF t (delF s D.L) } A6 c6 V6 → w7.ownsRow B 5 1 (.slice fA f.b.length fc) f.b.length (bvs f.b) → Calls Tryz.prog 63 #[.pointer (some ⟨g, 0, none⟩), .int .i64 (posF t (delF s D.L) : Nat), .agg #[.string t, .slice fA f.b.length fc, .int .i64 f.safe]] w7
        (DropOut w7 B g { D.deed.1 with L := putF { f with name := t } (delF s D.L) } (V6.take (posF t (delF s D.L)) ++ (({ f with name := t } : Fil), Value.slice fA f.b.length fc) :: V6.drop (posF t (delF s D.L))))) := fun w7 A6 c6 V6 fA fc h7 ho7 => by
      have e5 : ({ D5 with L := putF { f with name := t } (delF s D.L) } : Dsk) = { D.deed.1 with L := putF { f with name := t } (delF s D.L) } := by rw [← hD5]
      have := rput_any h7 (posF t (delF s D.L)) (by simp only; omega) { f with name := t } fA fc ho7 (by simp only [hpa]; rw [e5]; exact hput)
      simp only [hpa] at this
      rw [e5] at this
      exact this
    generalize posF t (delF s D.L) = q at *
    clear h h1 h2 h3 ho hn hf hisf hb hd p1 hpf hpl hpa hput hfm hso5 hL5 hb2 hKL hdt hdl
    have HV6 : ∀ r ∈ V5.take q ++ V5.drop (q + 1), r ∈ V := fun r hr => by
      rcases List.mem_append.1 hr with hr | hr
      · exact hV5m r (List.mem_of_mem_take hr)
      · exact hV5m r (List.mem_of_mem_drop hr)
    clear hV5m
    go_enter Tryz.func26, Tryz.ntmps26
    go_wp2_with (first | (go_at_call 60; refine K.mono ?_; rintro e w1 ⟨rfl, n, rfl⟩; clear K) | (go_at_call 61; refine (KN _).mono ?_; rintro e w2 ⟨rfl, rfl⟩) | (go_at_call 62; refine (KD _).mono ?_; rintro e w4 ⟨rfl, h4, hf4⟩; obtain ⟨gr, fA, fc, rfl, c0, k0, k1, k2, hown, hmem, hgl, hn1, hn2⟩ := HA.out w4 h4) | (go_at_call 65; refine (KP.out _ (h4.nix ((Frm.refl Nix w4).alloc _))).mono ?_; rintro e w5 ⟨rfl, A5, c5, h5, hf5, hn5⟩; clear KP) | (go_at_call 60; refine (K2.out _ _ _ h5).mono ?_; rintro e w6 ⟨rfl, n2, rfl⟩; clear K2) | (go_at_call 65; refine (KP2.out _ _ _ (h5.nix ((Frm.refl Nix w5).drewN _))).mono ?_; rintro e w7 ⟨rfl, A6, c6, h6, hf6, hn6⟩; have hfx : Frm (fun k => k = g) (w4.alloc _) w7 := (hf5.trans (Frm.nix ((Frm.refl Nix w5).drewN _))).trans hf6; obtain ⟨hown7, x0, x1, x2⟩ := ren_keep h4 hown hfx) | (go_at_call 63; refine (KT.out _ _ _ _ _ _ h6 hown7).mono ?_; rintro e w8 ⟨rfl, A8, c8, h8, hf8, hn8⟩))
    go_ret
    have hfw4 : Frm (fun k => k = g) w w4 := (Frm.nix ((Frm.refl Nix w).drewN _)).trans hf4
    have hfw7 : Frm (fun k => k = g) w w7 := (hfw4.trans (Frm.nix ((Frm.refl Nix w4).alloc _))).trans hfx
    have hfw8 := hfw7.trans hf8
    refine ⟨rfl, HH.out.go HH.out.lt H2.out H3.out h8 (hfw8.mono fun _ e => .inl e) (fun k hk => .inr (Nat.le_trans hfw7.size (hn8 k hk))) (fun r hr k hk => .inl ?_)⟩
    rcases List.mem_append.1 hr with hr | hr
    · exact ⟨r, HV6 r (List.mem_of_mem_take hr), hk⟩
    · rcases List.mem_cons.1 hr with rfl | hr
      · obtain ⟨r', hr', e'⟩ := hmem
        exact ⟨r', hr', by rw [e']; exact hk⟩
      · exact ⟨r, HV6 r (List.mem_of_mem_drop hr), hk⟩
end
end Go.Proofs.YtdgpaddmheagoaaGreatDoor
