/-
  The reference's disk: Stop, Delete, Sync, Read.
-/
import Derived.Test.YtdgpaddmheagoaaGreatDoorRefC
namespace Go.Proofs.YtdgpaddmheagoaaGreatDoor
open Go.RowKit

theorem posF_none {s : ByteArray} (f : Fil) (hf : f.name = s) : ∀ {L : List Fil}, findF s L = none → L.take (posF s L) ++ f :: L.drop (posF s L) = putF f L
  | [], _ => rfl
  | a :: r, h => by
    have hne : a.name ≠ s := findF_none.1 h a (by simp)
    have hr : findF s r = none := findF_none.2 fun g hg => findF_none.1 h g (by simp [hg])
    by_cases hlt : ltN a.name s
    · have e : posF s (a :: r) = posF s r + 1 := by simp [posF, hlt]
      have := posF_none f hf hr
      simp only [e, List.take_succ_cons, List.drop_succ_cons, List.cons_append, this, putF]
      rw [hf, if_pos hlt]
    · have e : posF s (a :: r) = 0 := by simp [posF, hlt]
      simp only [e, List.take_zero, List.drop_zero, List.nil_append, putF]
      rw [hf, if_neg hlt, if_neg hne]

theorem posF_some {s : ByteArray} {f : Fil} : ∀ {L : List Fil}, SortedF L → findF s L = some f → L[posF s L]? = some f ∧ L.take (posF s L) ++ L.drop (posF s L + 1) = delF s L ∧
    ∀ f' : Fil, f'.name = s → L.set (posF s L) f' = putF f' L
  | [], _, h => by simp [findF] at h
  | a :: r, hs, h => by
    obtain ⟨h1, h2⟩ := List.pairwise_cons.1 hs
    by_cases hlt : ltN a.name s
    · have e : posF s (a :: r) = posF s r + 1 := by simp [posF, hlt]
      have hne : a.name ≠ s := fun e => ltN_irrefl _ (e ▸ hlt)
      have hr : findF s r = some f := by
        unfold findF at h
        rwa [if_neg hne] at h
      obtain ⟨p1, p2, p3⟩ := posF_some h2 hr
      refine ⟨by rw [e]; simpa using p1, ?_, fun f' hf' => ?_⟩
      · simp only [e, List.take_succ_cons, List.drop_succ_cons, List.cons_append, p2]
        simp [delF, hne]
      · simp only [e, List.set_cons_succ, p3 f' hf', putF]
        rw [hf', if_pos hlt]
    · have e : posF s (a :: r) = 0 := by simp [posF, hlt]
      have he : a.name = s := by
        by_cases he : a.name = s
        · exact he
        · have := ltN_total hlt he
          obtain ⟨q1, q2⟩ := findF_some h
          rcases List.mem_cons.1 q1 with rfl | q1
          · exact q2
          · exact absurd (ltN_trans this (h1 f q1)) (by rw [q2]; exact ltN_irrefl _)
      have hf : f = a := by
        unfold findF at h
        rw [if_pos he] at h
        injection h with h
        exact h.symm
      subst hf
      refine ⟨by rw [e]; rfl, ?_, fun f' hf' => ?_⟩
      · simp only [e, List.take_zero, List.nil_append, List.drop_succ_cons, List.drop_zero, delF, List.filter_cons, he, ne_eq, not_true_eq_false, decide_false, Bool.false_eq_true, if_false]
        exact (List.filter_eq_self.2 fun g hg => by
            simp only [decide_eq_true_eq]
            exact fun e => ltN_irrefl _ (he ▸ e ▸ h1 g hg)).symm
      · simp only [e, List.set_cons_zero, putF]
        rw [hf', if_neg hlt, if_pos he]
theorem set_take_drop {α : Type} (L : List α) (i : Nat) (h : i < L.length) (x : α) : L.set i x = L.take i ++ x :: L.drop (i + 1) := by
  induction L generalizing i with
  | nil => cases h
  | cons a r ih =>
    cases i with
    | zero => rfl
    | succ i => simp at h; simp [ih i h]

/-- The reference's disk D behind a pointer to block g: it writes blocks of W alone, and reads blocks of F alone. -/
structure RD (w : World) (B g : Nat) (W F : Nat → Prop) (D : Dsk) : Prop where
  at_ : ∃ A c V, RDiskAt w B g D A c V ∧ (∀ k, RFoot g (.slice A D.L.length c) k → W k) ∧ ∀ r ∈ V, ∀ k, r.2.ownBlock = some k → F k
  wf : ∀ k, W k → F k
  lo : ∀ k, F k → B ≤ k ∧ k < w.heap.size

/-- a call of the reference's disk. -/
def RGo (w : World) (B g : Nat) (W F : Nat → Prop) (D' : Dsk) (w' : World) : Prop :=
  ∃ W' F', RD w' B g W' F' D' ∧ Frm W w w' ∧ (∀ k, W' k → W k ∨ w.heap.size ≤ k) ∧ ∀ k, F' k → F k ∨ w.heap.size ≤ k

theorem RD.frm {w w' : World} {B g : Nat} {W F F' : Nat → Prop} {D : Dsk} (h : RD w B g W F D) (hf : Frm F' w w') (hd : ∀ k, F k → ¬ F' k) : RD w' B g W F D := by
  obtain ⟨A, c, V, h1, h2, h3⟩ := h.at_
  exact ⟨⟨A, c, V, h1.frm hf (hd g (h.wf _ (h2 g (.inl rfl)))) (fun k hk => hd k (h.wf _ (h2 k (.inr hk)))) (fun r hr k hk => hd k (h3 r hr k hk)), h2, h3⟩, h.wf, fun k hk => ⟨(h.lo k hk).1, Nat.lt_of_lt_of_le (h.lo k hk).2 hf.size⟩⟩

/-- what a call gives: its writes lie in g, the row and new blocks; the row is the old one or a new one; the bytes are old ones or new ones. -/
theorem RD.go {w w' : World} {B g : Nat} {W F : Nat → Prop} {D D' : Dsk} {A A' : Option Addr} {c c' : Nat} {V V' : List RFil} (h : RD w B g W F D) (hB : B ≤ w.heap.size) (h2 : ∀ k, RFoot g (.slice A D.L.length c) k → W k) (h3 : ∀ r ∈ V, ∀ k, r.2.ownBlock = some k → F k)
    (h' : RDiskAt w' B g D' A' c' V') (hf : Frm (RFoot g (.slice A D.L.length c)) w w') (hrow : ∀ k, (Value.slice A' D'.L.length c').ownBlock = some k → RFoot g (.slice A D.L.length c) k ∨ w.heap.size ≤ k)
    (hV : ∀ r ∈ V', ∀ k, r.2.ownBlock = some k → (∃ r' ∈ V, r'.2.ownBlock = some k) ∨ w.heap.size ≤ k) : RGo w B g W F D' w' := by
  refine ⟨fun k => W k ∨ (w.heap.size ≤ k ∧ k < w'.heap.size), fun k => F k ∨ (w.heap.size ≤ k ∧ k < w'.heap.size), ⟨⟨A', c', V', h', ?_, ?_⟩, ?_, ?_⟩, hf.mono h2, ?_, ?_⟩
  · rintro k (rfl | hk)
    · exact .inl (h2 _ (.inl rfl))
    · rcases hrow k hk with e | e
      · exact .inl (h2 k e)
      · exact .inr ⟨e, (h'.row.lt k hk).2⟩
  · intro r hr k hk
    rcases hV r hr k hk with ⟨r', hr', e⟩ | e
    · exact .inl (h3 r' hr' k e)
    · exact .inr ⟨e, ((h'.own r hr).lt k hk).2⟩
  · rintro k (hk | hk)
    · exact .inl (h.wf k hk)
    · exact .inr hk
  · rintro k (hk | hk)
    · exact ⟨(h.lo k hk).1, Nat.lt_of_lt_of_le (h.lo k hk).2 hf.size⟩
    · exact ⟨by omega, hk.2⟩
  · rintro k (hk | hk)
    · exact .inl hk
    · exact .inr hk.1
  · rintro k (hk | hk)
    · exact .inl hk
    · exact .inr hk.1
end Go.Proofs.YtdgpaddmheagoaaGreatDoor

namespace Go.Proofs.YtdgpaddmheagoaaGreatDoor
open Go.RowKit

theorem rcells_set (V : List RFil) (i j : Nat) (hi : i < V.length) (hj : j < 3) (r : RFil) (u : Value) (h : RFil.cells r = (RFil.cells V[i]).set j u) : (rcells V).set (i * 3 + j) u = rcells (V.set i r) := by
  induction V generalizing i with
  | nil => cases hi
  | cons a V ih =>
    cases i with
    | zero =>
      simp only [List.getElem_cons_zero] at h
      simp only [rcells, List.flatMap_cons, List.set_cons_zero, h, Nat.zero_mul, Nat.zero_add]
      rw [List.set_append_left _ _ (by show j < 3; exact hj)]
    | succ i =>
      have h3 : (RFil.cells a).length = 3 := rfl
      simp only [List.getElem_cons_succ] at h
      have := ih i (by simpa using hi) h
      simp only [rcells, List.flatMap_cons, List.set_cons_succ] at this ⊢
      rw [List.set_append_right _ _ (by omega), h3, show (i + 1) * 3 + j - 3 = i * 3 + j by omega, this]

section
variable {w : World} {B g gr : Nat} {D : Dsk} {c : Nat} {V : List RFil}
theorem RDiskAt.rowFrozen (h : RDiskAt w B g D (some ⟨gr, 0, none⟩) c V) (i : Nat) : w.frozen? ⟨gr, i, none⟩ = false := by
  obtain ⟨cs, hb⟩ := own3_at h.row (k := gr) rfl
  exact hb.frozen i
theorem RDiskAt.cellSet (h : RDiskAt w B g D (some ⟨gr, 0, none⟩) c V) {i j : Nat} (hi : i < V.length) (hj : j < 3) (r : RFil) (u : Value) (hr : RFil.cells r = (RFil.cells V[i]).set j u)
    (hown : w.ownsRow B 5 1 r.2 r.1.b.length (bvs r.1.b)) (hok : ({ D with L := D.L.set i r.1 } : Dsk).Ok) :
    RDiskAt (w.setCell ⟨gr, i * 3 + j, none⟩ u) B g { D with L := D.L.set i r.1 } (some ⟨gr, 0, none⟩) c (V.set i r) ∧ Frm (fun k => k = gr) w (w.setCell ⟨gr, i * 3 + j, none⟩ u) := by
  have hf : Frm (fun k => k = gr) w (w.setCell ⟨gr, i * 3 + j, none⟩ u) := (Frm.refl (fun k => k = gr) w).setCell (.inl rfl) _
  have hg : gr ≠ g := h.row_ne_g (k := gr) rfl
  have hne : ∀ {v : Value} {n : Nat} {xs : List Value} {k : Nat}, w.ownsRow B 5 1 v n xs → v.ownBlock = some k → k ≠ gr := fun ho hk => by
    obtain ⟨cs, hb⟩ := own3_at ho hk
    obtain ⟨cs', hb'⟩ := own3_at h.row (k := gr) rfl
    exact hb.ne_ hb' (by decide)
  refine ⟨⟨h.gB, ?_, ?_, ?_, ?_, hok⟩, hf⟩
  · simp only [List.length_set]
    exact h.blk.frm hf (fun e => hg e.symm)
  · simp only [List.length_set]
    rw [← rcells_set V i j hi hj r u hr]
    have hlen := h.row.1
    rcases h.row.2 with ⟨hv, hn⟩ | ⟨g0, cap, cur, hv, hb, hh, h1, h2, h4, h5⟩
    · cases hv
    · injection hv with e1 e2 e3
      injection e1 with e1
      injection e1 with e1
      subst e1
      subst e3
      have hx := (show Blk w gr _ cur from hh).set_ (i * 3 + j) u
      refine ⟨by rw [List.length_set]; exact hlen, .inr ⟨gr, c, _, rfl, hb, hx, h1, h2, by simpa using h4, ?_⟩⟩
      rw [← h5]
      simp [List.take_set]
  · rw [List.map_set, h.fils]
  · intro r' hr'
    rcases List.mem_or_eq_of_mem_set hr' with hr' | rfl
    · exact own_frm (h.own r' hr') hf (fun k hk => hne (h.own r' hr') hk)
    · exact own_frm hown hf (fun k hk => hne hown hk)
end
end Go.Proofs.YtdgpaddmheagoaaGreatDoor

namespace Go.Proofs.YtdgpaddmheagoaaGreatDoor
open Go.RowKit

section
variable {w w' : World} {B g : Nat} {W F : Nat → Prop} {D D' : Dsk} {A : Option Addr} {c : Nat} {V : List RFil}
theorem RD.nix (h : RD w B g W F D) (hf : Frm Nix w w') : RD w' B g W F D := h.frm hf fun _ _ => id
theorem RD.same (h : RD w B g W F D) (hf : Frm Nix w w') : RGo w B g W F D w' := ⟨W, F, h.nix hf, Frm.nix hf, fun _ => .inl, fun _ => .inl⟩
theorem RD.lt (h : RD w B g W F D) : B ≤ w.heap.size := by
  obtain ⟨A, c, V, h1, -⟩ := h.at_
  exact Nat.le_trans h1.gB (Nat.le_of_lt h1.blk.lt)
theorem RD.ok (h : RD w B g W F D) : D.Ok := by
  obtain ⟨A, c, V, h1, -⟩ := h.at_
  exact h1.ok
/-- the head alone is turned. -/
theorem RD.head (h : RD w B g W F D) (h2 : ∀ k, RFoot g (.slice A D.L.length c) k → W k) (h3 : ∀ r ∈ V, ∀ k, r.2.ownBlock = some k → F k) (h' : RDiskAt w' B g D' A c V) (hL : D'.L = D.L) (hf : Frm (fun k => k = g) w w') : RGo w B g W F D' w' :=
  h.go h.lt h2 h3 h' (hf.mono fun _ e => .inl e) (fun k hk => .inl (.inr (by rw [hL] at hk; exact hk))) (fun r hr k hk => .inl ⟨r, hr, hk⟩)
end

set_option maxRecDepth 100000 in
theorem rStop_any {w : World} {B g : Nat} {W F : Nat → Prop} {D : Dsk} (h : RD w B g W F D) (n : Int) (hn : n ≤ 9223372036854775807) :
    Calls Tryz.prog 32 #[.pointer (some ⟨g, 0, none⟩), .int .i64 n] w fun e w' => e = .returned (.int .i64 (D.stop n).2) ∧ RGo w B g W F (D.stop n).1 w' := by
  obtain ⟨A, c, V, h1, h2, h3⟩ := h.at_
  have c2 := h1.blk.cell 2
  have f2 := h1.blk.frozen 2
  simp at c2
  by_cases h0 : n < 0
  · have hs : D.stop n = (D, 1) := by simp [Dsk.stop, h0]
    rw [hs]
    have HH := Lib.hid (h.same (Frm.refl Nix w))
    go_enter Tryz.func32, Tryz.ntmps32
    go_wp2
    go_ret
    exact ⟨rfl, HH.out⟩
  · have hs : D.stop n = ({ D with left := n }, 0) := by simp [Dsk.stop, h0]
    rw [hs]
    have hf : Frm (fun k => k = g) w (w.setCell ⟨g, 2, none⟩ (.int .i64 n)) := (Frm.refl (fun k => k = g) w).setCell (.inl rfl) _
    have HH := Lib.hid (h.head (D' := { D with left := n }) h2 h3 (h1.head (D' := { D with left := n }) hf rfl (by simpa using h1.blk.set_ 2 (.int .i64 n)) { h1.ok with lo := by simp only; omega, hi := hn }) rfl hf)
    clear hf h h1 h2 h3 hs
    go_enter Tryz.func32, Tryz.ntmps32
    go_wp2
    go_ret
    exact ⟨rfl, HH.out⟩

set_option maxRecDepth 100000 in
set_option maxHeartbeats 1000000 in
theorem rDelete_any {w : World} {B g : Nat} {W F : Nat → Prop} {D : Dsk} (h : RD w B g W F D) (s : ByteArray) (hd : D.deeds < 4611686018427387904) :
    Calls Tryz.prog 28 #[.pointer (some ⟨g, 0, none⟩), .string s] w fun e w' => e = .returned (.int .i64 (D.delete s).2) ∧ RGo w B g W F (D.delete s).1 w' := by
  obtain ⟨A, c, V, h1, h2, h3⟩ := h.at_
  have c3 := h1.blk.cell 3
  simp at c3
  have HH := Lib.hid h
  have H1 := Lib.hid h1
  have H2 := Lib.hid h2
  have H3 := Lib.hid h3
  have HD := Lib.hid hd
  clear h h1 h2 h3 hd
  rcases hoff : D.off with _ | _
  · rcases hf : findF s D.L with _ | f
    · have hth : D.delete s = (D, 4) := by simp [Dsk.delete, Dsk.there, hoff, hf]
      have hisf : isF s D.L = false := by simp [isF, hf]
      have K := rfind_any H1.out s
      rw [hisf] at K
      rw [hth]
      rw [hoff] at c3
      clear hth hf hisf hoff
      go_enter Tryz.func28, Tryz.ntmps28
      go_wp2_with (go_at_call 60; refine K.mono ?_; rintro e w1 ⟨rfl, n, rfl⟩)
      go_ret
      exact ⟨rfl, HH.out.same ((Frm.refl Nix w).drewN _)⟩
    · have hisf : isF s D.L = true := by simp [isF, hf]
      have K := rfind_any H1.out s
      rw [hisf] at K
      rw [hoff] at c3
      rcases hb : D.deed.2 == 0 with _ | _
      · have hth : D.delete s = D.deed := by
          have : D.deed.2 ≠ 0 := by simpa using hb
          simp [Dsk.delete, Dsk.there, hoff, hf, this]
        have e30 : D.deed.2 = 30 := by
          rcases deed_two D with e | e
          · exact e
          · simp [e] at hb
        rw [hth, e30]
        have KD : ∀ n, Calls Tryz.prog 62 #[.pointer (some ⟨g, 0, none⟩)] (w.drewN n) fun e w' => e = .returned (.bool false) ∧ RDiskAt w' B g D.deed.1 A c V ∧ Frm (fun k => k = g) (w.drewN n) w' := fun n => by
          have := rdeed_any (H1.out.nix ((Frm.refl Nix w).drewN n)) HD.out
          rwa [hb] at this
        clear hth e30 hb hoff hf hisf
        go_enter Tryz.func28, Tryz.ntmps28
        go_wp2_with (first | (go_at_call 60; refine K.mono ?_; rintro e w1 ⟨rfl, n, rfl⟩) | (go_at_call 62; refine (KD _).mono ?_; rintro e w2 ⟨rfl, h5, hf5⟩))
        go_ret
        exact ⟨rfl, HH.out.head H2.out H3.out h5 (deed_L D) (Frm.trans (Frm.nix ((Frm.refl Nix w).drewN _)) hf5)⟩
      · have e0 : D.deed.2 = 0 := by simpa using hb
        have hth : D.delete s = (D.deed.1.deleteTo s, 0) := by simp [Dsk.delete, Dsk.there, hoff, hf, e0]
        rw [hth]
        obtain ⟨p1, p2, -⟩ := posF_some H1.out.ok.sorted hf
        obtain ⟨hpl, -⟩ := List.getElem?_eq_some_iff.1 p1
        have KD : ∀ n, Calls Tryz.prog 62 #[.pointer (some ⟨g, 0, none⟩)] (w.drewN n) fun e w' => e = .returned (.bool true) ∧ RDiskAt w' B g D.deed.1 A c V ∧ Frm (fun k => k = g) (w.drewN n) w' := fun n => by
          have := rdeed_any (H1.out.nix ((Frm.refl Nix w).drewN n)) HD.out
          rwa [hb] at this
        have KP : ∀ w2 : World, RDiskAt w2 B g D.deed.1 A c V → Calls Tryz.prog 65 #[.pointer (some ⟨g, 0, none⟩), .int .i64 (posF s D.L : Nat)] w2 (DropOut w2 B g (D.deed.1.deleteTo s) (V.take (posF s D.L) ++ V.drop (posF s D.L + 1))) := fun w2 h2 => by
          have := rdrop_any h2 (posF s D.L) (by rw [deed_L]; exact hpl) (by rw [deed_L, p2, ← deed_L D]; exact h2.ok.del s)
          rw [deed_L, p2] at this
          unfold Dsk.deleteTo
          rw [deed_L]
          exact this
        clear hth e0 hb hoff hf hisf p1 p2 hpl
        go_enter Tryz.func28, Tryz.ntmps28
        go_wp2_with (first | (go_at_call 60; refine K.mono ?_; rintro e w1 ⟨rfl, n, rfl⟩) | (go_at_call 62; refine (KD _).mono ?_; rintro e w2 ⟨rfl, h5, hf5⟩) | (go_at_call 65; refine (KP _ h5).mono ?_; rintro e w3 ⟨rfl, A6, c6, h6, hf6, hn6⟩))
        go_ret
        have hf7 : Frm (fun k => k = g) w w3 := ((Frm.nix ((Frm.refl Nix w).drewN _)).trans hf5).trans hf6
        have hs5 : w.heap.size ≤ w2.heap.size := hf5.size
        refine ⟨rfl, HH.out.go HH.out.lt H2.out H3.out h6 (hf7.mono fun _ e => .inl e) (fun k hk => .inr (Nat.le_trans hs5 (hn6 k hk))) (fun r hr k hk => .inl ⟨r, ?_, hk⟩)⟩
        rcases List.mem_append.1 hr with hr | hr
        · exact List.mem_of_mem_take hr
        · exact List.mem_of_mem_drop hr
  · have hth : D.delete s = (D, 30) := by simp [Dsk.delete, Dsk.there, hoff]
    rw [hth]
    rw [hoff] at c3
    have K := rfind_any H1.out s
    clear hth hoff
    go_enter Tryz.func28, Tryz.ntmps28
    go_wp2_with (go_at_call 60; refine K.mono ?_; rintro e w1 ⟨rfl, n, rfl⟩)
    go_ret
    exact ⟨rfl, HH.out.same ((Frm.refl Nix w).drewN _)⟩

set_option maxRecDepth 100000 in
set_option maxHeartbeats 1000000 in
theorem rSync_any {w : World} {B g : Nat} {W F : Nat → Prop} {D : Dsk} (h : RD w B g W F D) (s : ByteArray) (hd : D.deeds < 4611686018427387904) :
    Calls Tryz.prog 24 #[.pointer (some ⟨g, 0, none⟩), .string s] w fun e w' => e = .returned (.int .i64 (D.sync s).2) ∧ RGo w B g W F (D.sync s).1 w' := by
  obtain ⟨A, c, V, h1, h2, h3⟩ := h.at_
  have c3 := h1.blk.cell 3
  simp at c3
  have HH := Lib.hid h
  have H1 := Lib.hid h1
  have H2 := Lib.hid h2
  have H3 := Lib.hid h3
  have HD := Lib.hid hd
  clear h h1 h2 h3 hd
  rcases hoff : D.off with _ | _
  · rcases hf : findF s D.L with _ | f
    · have hth : D.sync s = (D, 4) := by simp [Dsk.sync, Dsk.there, hoff, hf]
      have hisf : isF s D.L = false := by simp [isF, hf]
      have K := rfind_any H1.out s
      rw [hisf] at K
      rw [hth]
      rw [hoff] at c3
      clear hth hf hisf hoff
      go_enter Tryz.func24, Tryz.ntmps24
      go_wp2_with (go_at_call 60; refine K.mono ?_; rintro e w1 ⟨rfl, n, rfl⟩)
      go_ret
      exact ⟨rfl, HH.out.same ((Frm.refl Nix w).drewN _)⟩
    · have hisf : isF s D.L = true := by simp [isF, hf]
      have K := rfind_any H1.out s
      rw [hisf] at K
      rw [hoff] at c3
      rcases hb : D.deed.2 == 0 with _ | _
      · have hth : D.sync s = D.deed := by
          have : D.deed.2 ≠ 0 := by simpa using hb
          simp [Dsk.sync, Dsk.there, hoff, hf, this]
        have e30 : D.deed.2 = 30 := by
          rcases deed_two D with e | e
          · exact e
          · simp [e] at hb
        rw [hth, e30]
        have KD : ∀ n, Calls Tryz.prog 62 #[.pointer (some ⟨g, 0, none⟩)] (w.drewN n) fun e w' => e = .returned (.bool false) ∧ RDiskAt w' B g D.deed.1 A c V ∧ Frm (fun k => k = g) (w.drewN n) w' := fun n => by
          have := rdeed_any (H1.out.nix ((Frm.refl Nix w).drewN n)) HD.out
          rwa [hb] at this
        clear hth e30 hb hoff hf hisf
        go_enter Tryz.func24, Tryz.ntmps24
        go_wp2_with (first | (go_at_call 60; refine K.mono ?_; rintro e w1 ⟨rfl, n, rfl⟩) | (go_at_call 62; refine (KD _).mono ?_; rintro e w2 ⟨rfl, h5, hf5⟩))
        go_ret
        exact ⟨rfl, HH.out.head H2.out H3.out h5 (deed_L D) (Frm.trans (Frm.nix ((Frm.refl Nix w).drewN _)) hf5)⟩
      · have e0 : D.deed.2 = 0 := by simpa using hb
        have hth : D.sync s = (D.deed.1.syncTo s, 0) := by simp [Dsk.sync, Dsk.there, hoff, hf, e0]
        rw [hth]
        obtain ⟨p1, -, p3⟩ := posF_some H1.out.ok.sorted hf
        have hnm := (findF_some hf).2
        have HT : Hid (D.deed.1.syncTo s = { D.deed.1 with L := D.L.set (posF s D.L) { f with safe := f.b.length } } ∧ ({ D.deed.1 with L := D.L.set (posF s D.L) { f with safe := f.b.length } } : Dsk).Ok) := by
          rw [p3 { f with safe := f.b.length } hnm]
          refine ⟨by simp only [Dsk.syncTo, deed_L, hf], ?_⟩
          have := Dsk.Ok.turn (f := { f with safe := f.b.length }) (f0 := f) H1.out.ok.deed (by rw [deed_L]; simpa [hnm] using hf) (Nat.le_refl _) (by
            have := H1.out.ok.deed.used
            rw [deed_L] at this ⊢
            simp only
            omega)
          rw [deed_L] at this
          exact this
        have KD : ∀ n, Calls Tryz.prog 62 #[.pointer (some ⟨g, 0, none⟩)] (w.drewN n) fun e w' => e = .returned (.bool true) ∧ RDiskAt w' B g D.deed.1 A c V ∧ Frm (fun k => k = g) (w.drewN n) w' := fun n => by
          have := rdeed_any (H1.out.nix ((Frm.refl Nix w).drewN n)) HD.out
          rwa [hb] at this
        clear hth e0 hb hoff hf hisf p3
        generalize posF s D.L = p at *
        obtain ⟨hpl, hpf⟩ := List.getElem?_eq_some_iff.1 p1
        have HL := Lib.hid (deed_L D)
        have HP := Lib.hid hpf
        have hp0 : (0 : Int) ≤ (p : Int) := Int.natCast_nonneg _
        have hp1 : (p : Int) < (D.L.length : Int) := by omega
        clear p1 hnm hpf
        go_enter Tryz.func24, Tryz.ntmps24
        go_wp2_with (first | (go_at_call 60; refine K.mono ?_; rintro e w1 ⟨rfl, n, rfl⟩) | (go_at_call 62; refine (KD _).mono ?_; rintro e w2 ⟨rfl, h5, hf5⟩))
        have hpl1 : p < D.deed.1.L.length := by rw [HL.out]; exact hpl
        have heq : D.deed.1.L[p] = f := by simp only [HL.out]; exact HP.out
        obtain ⟨gr, fA, fc, rfl, ⟨hv, e1, e2⟩, k0, k1, k2, -, -, hown, hbl, hgr, hgB⟩ := h5.at_ hpl1
        rw [heq] at e1 e2 k0 k1 k2 hown hbl
        have c0 := h5.blk.cell 0
        simp at c0
        rw [HL.out] at c0
        have fz := h5.rowFrozen (p * 3 + 2)
        have HC := Lib.hid (h5.cellSet hv (j := 2) (by decide) ({ f with safe := f.b.length }, .slice fA f.b.length fc) (.int .i64 f.b.length) (by
          simp only [RFil.cells, e1, e2]
          rfl) hown (by rw [HL.out]; exact HT.out.2))
        have hg0 : gr ≠ g := h5.row_ne_g (k := gr) rfl
        have H5 := Lib.hid h5
        have HF5 := Lib.hid hf5
        have HE := Lib.hid e2
        clear h5 hf5 e1 e2 heq hpl1 hown
        go_region
        go_wp2
        go_ret
        obtain ⟨h6, hf6⟩ := HC.out
        rw [HL.out] at h6
        have hfw : Frm (RFoot g (.slice (some ⟨gr, 0, none⟩) D.L.length c)) w w2 := ((Frm.nix ((Frm.refl Nix w).drewN _)).trans HF5.out).mono fun _ e => .inl e
        rw [HT.out.1]
        refine ⟨rfl, HH.out.go HH.out.lt H2.out H3.out (h6.nix ((Frm.refl Nix _).drew)) (hfw.trans ((hf6.mono fun k e => .inr (by rw [e]; rfl)).drew)) (fun k hk => .inl (.inr ?_)) (fun r hr k hk => .inl ?_)⟩
        · rw [← hk]
          exact ownBlock_slice _ _ _ _ _
        · rcases List.mem_or_eq_of_mem_set hr with hr | rfl
          · exact ⟨r, hr, hk⟩
          · exact ⟨V[p], List.getElem_mem hv, by rw [HE.out]; exact hk⟩
  · have hth : D.sync s = (D, 30) := by simp [Dsk.sync, Dsk.there, hoff]
    rw [hth]
    rw [hoff] at c3
    have K := rfind_any H1.out s
    clear hth hoff
    go_enter Tryz.func24, Tryz.ntmps24
    go_wp2_with (go_at_call 60; refine K.mono ?_; rintro e w1 ⟨rfl, n, rfl⟩)
    go_ret
    exact ⟨rfl, HH.out.same ((Frm.refl Nix w).drewN _)⟩
end Go.Proofs.YtdgpaddmheagoaaGreatDoor
