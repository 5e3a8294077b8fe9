/-
  The reference's disk: put.
-/
import Derived.Test.YtdgpaddmheagoaaGreatDoorRefC
namespace Go.Proofs.YtdgpaddmheagoaaGreatDoor
open Go.RowKit

/-- a row of files that is new since w0. -/
def RowInF (w0 w1 : World) (B : Nat) (v : Value) (n : Nat) (xs : List Value) : Prop :=
  w1.ownsRow B 73 3 v n xs ∧ (∀ k, v.ownBlock = some k → w0.heap.size ≤ k) ∧ Frm Nix w0 w1 ∧ B ≤ w0.heap.size

section
variable {w0 w1 w2 : World} {B : Nat} {v : Value} {n : Nat} {xs : List Value}
theorem RowInF.app (h : RowInF w0 w1 B v n xs) {G : Nat → Prop} {A : Option Addr} {m : Nat} {ys : List Value} (c : Nat) (hr : Rd w1 G 3 A m ys) (h1 : ∀ u ∈ ys, u.oneCell' = true) (hn : n + m ≤ 1000) :
    ∃ v' w2, (∀ ty, (Builtin.append_ #[55, 55] ty #[v, .slice A m c]).run Tryz.prog w1 = .ok v' w2) ∧ RowInF w0 w2 B v' (n + m) (xs ++ ys) ∧ Frm (fun k => v.ownBlock = some k) w1 w2 := by
  obtain ⟨i0, hi0, hz0, hz1, hz2⟩ := info_parts info_file
  obtain ⟨v1, w2, hrun, hown, hg, hat⟩ := run_append_any (P := Tryz.prog) w1 B 55 73 i0 _ 3 48 Tryz.underlying55 hi0 hz0 hz1 hz2 rfl (by decide) v n xs h.1
    _ A m c ys hr h1 (by unfold maxLen; omega) (by omega) (Nat.le_trans h.2.2.2 h.2.2.1.size)
  refine ⟨v1, w2, hrun, ⟨hown, fun k hk => ?_, h.2.2.1.grown hg (fun k hk => .inr (h.2.1 k hk)), h.2.2.2⟩, (Frm.refl _ w1).grown hg fun k hk => .inl hk⟩
  rcases hat with e | e
  · rw [e] at hk
    exact h.2.1 k hk
  · rw [e] at hk
    injection hk with hk
    have := h.2.2.1.size
    omega
theorem RowInF.drew (h : RowInF w0 w1 B v n xs) : RowInF w0 w1.drew B v n xs := ⟨own_frm h.1 (Frm.refl Nix w1).drew (fun _ _ => id), h.2.1, h.2.2.1.drew, h.2.2.2⟩
theorem RowInF.alloc (h : RowInF w0 w1 B v n xs) (o : Obj) : RowInF w0 (w1.alloc o) B v n xs := ⟨own_frm h.1 ((Frm.refl Nix w1).alloc o) (fun _ _ => id), h.2.1, h.2.2.1.alloc o, h.2.2.2⟩
theorem RowInF.new_ (hB : B ≤ w0.heap.size) (hf : Frm Nix w0 w1) : RowInF w0 (w1.alloc (.cells #[] 73)) B (.slice (some ⟨w1.heap.size, 0, none⟩) 0 0) 0 [] :=
  ⟨⟨rfl, .inr ⟨_, 0, #[], rfl, Nat.le_trans hB hf.size, heap_alloc_new w1 _, Nat.le_refl _, Nat.zero_le _, rfl, rfl⟩⟩, fun k hk => by
    simp [Value.ownBlock] at hk
    have := hf.size
    omega, hf.alloc _, hB⟩
end

/-- one file more, then the rest. -/
theorem RowInF.two {w0 w1 : World} {B : Nat} {v : Value} {n : Nat} {xs : List Value} (h : RowInF w0 w1 B v n xs) {G G' : Nat → Prop} {A A' : Option Addr} {m m' : Nat} {ys ys' : List Value} (c c' : Nat)
    (hr : Rd w1 G 3 A m ys) (h1 : ∀ u ∈ ys, u.oneCell' = true) (hr' : Rd w0 G' 3 A' m' ys') (h1' : ∀ u ∈ ys', u.oneCell' = true) (hn : n + m + m' ≤ 1000) :
    ∃ v2 w2 A3 c3 w3, (∀ ty, (Builtin.append_ #[55, 55] ty #[v, .slice A m c]).run Tryz.prog w1 = .ok v2 w2) ∧
      (∀ ty, (Builtin.append_ #[55, 55] ty #[v2, .slice A' m' c']).run Tryz.prog w2 = .ok (.slice A3 (n + m + m') c3) w3) ∧ RowInF w0 w3 B (.slice A3 (n + m + m') c3) (n + m + m') (xs ++ ys ++ ys') := by
  obtain ⟨v2, w2, hrun2, R2, -⟩ := h.app c hr h1 (by omega)
  obtain ⟨v3, w3, hrun3, R3, -⟩ := R2.app c' (hr'.frm R2.2.2.1 fun _ _ => id) h1' hn
  obtain ⟨A3, c3, rfl, -⟩ := own_shape R3.1
  exact ⟨v2, w2, A3, c3, w3, hrun2, hrun3, R3⟩

theorem rput_fin {w w1 w3 : World} {B g : Nat} {D : Dsk} {A A3 : Option Addr} {c c3 i n : Nat} {V : List RFil} (h : RDiskAt w B g D A c V) (hi : i ≤ D.L.length) (f : Fil) (bv : Value) (hn : n = D.L.length + 1)
    (hfo : w.ownsRow B 5 1 bv f.b.length (bvs f.b)) (hok : ({ D with L := D.L.take i ++ f :: D.L.drop i } : Dsk).Ok) (hf : Frm Nix w w1)
    (R : RowInF w1 w3 B (.slice A3 n c3) n (rcells (V.take i ++ (f, bv) :: V.drop i))) (e : Ending) (he : e = .returned (.tuple #[])) :
    DropOut w B g { D with L := D.L.take i ++ f :: D.L.drop i } (V.take i ++ (f, bv) :: V.drop i) e (w3.setCell ⟨g, 0, none⟩ (.slice A3 n c3)) := by
  subst he
  have hl : (D.L.take i ++ f :: D.L.drop i).length = n := by simp; omega
  have hs := hf.size
  have hfils : (V.take i ++ (f, bv) :: V.drop i).map (·.1) = D.L.take i ++ f :: D.L.drop i := by rw [List.map_append, List.map_cons, List.map_take, List.map_drop, h.fils]
  have hf3 : Frm Nix w w3 := hf.trans R.2.2.1
  have := h.relist (L' := D.L.take i ++ f :: D.L.drop i) (A' := A3) (c' := c3) hf3 hfils (by rw [hl]; exact R.1) (by
      rw [hl]
      intro k hk
      have := R.2.1 k hk
      omega) (fun r hr => own_frm (by
        rcases List.mem_append.1 hr with hr | hr
        · exact h.own r (List.mem_of_mem_take hr)
        · rcases List.mem_cons.1 hr with rfl | hr
          · exact hfo
          · exact h.own r (List.mem_of_mem_drop hr)) hf3 fun _ _ => id) hok
  rw [hl] at this
  exact ⟨rfl, A3, c3, this.1, this.2, fun k hk => by
    have := R.2.1 k (by rw [← hl]; exact hk)
    omega⟩

set_option maxRecDepth 100000 in
set_option maxHeartbeats 4000000 in
theorem rput_any {w : World} {B g : Nat} {D : Dsk} {A : Option Addr} {c : Nat} {V : List RFil} (h : RDiskAt w B g D A c V) (i : Nat) (hi : i ≤ D.L.length) (f : Fil) (fA : Option Addr) (fc : Nat)
    (hfo : w.ownsRow B 5 1 (.slice fA f.b.length fc) f.b.length (bvs f.b)) (hok : ({ D with L := D.L.take i ++ f :: D.L.drop i } : Dsk).Ok) :
    Calls Tryz.prog 63 #[.pointer (some ⟨g, 0, none⟩), .int .i64 i, .agg #[.string f.name, .slice fA f.b.length fc, .int .i64 f.safe]] w (DropOut w B g { D with L := D.L.take i ++ f :: D.L.drop i } (V.take i ++ (f, .slice fA f.b.length fc) :: V.drop i)) := by
  have hcnt := h.ok.cnt
  have hlen := h.len
  obtain ⟨hnc, hcm⟩ := own_cap h.row
  have hB : B ≤ w.heap.size := Nat.le_trans h.gB (Nat.le_of_lt h.blk.lt)
  have hrd := Rd.of_own h.row
  have hgl := h.blk.lt
  have c0 := h.blk.cell 0
  have f0 := h.blk.frozen 0
  simp at c0
  have hone := h.one
  generalize hbx : (Obj.cells #[.string f.name, .slice fA f.b.length fc, .int .i64 f.safe] 73 : Obj) = bx at *
  have hfb : Frm Nix w (w.alloc bx) := (Frm.refl Nix w).alloc bx
  have hff : Frm Nix w ((w.alloc bx).alloc (.cells #[] 73)) := hfb.alloc _
  obtain ⟨v0, w1, hrun0, R0, F0⟩ := (RowInF.new_ hB hfb).app (c - i) ((hrd.cut (k := i) hi hnc).frm hff fun _ _ => id) (fun u hu => hone u (List.mem_of_mem_drop hu)) (by omega)
  rw [Nat.zero_add, List.nil_append] at R0
  obtain ⟨rA, rc, rfl, -⟩ := own_shape R0.1
  have hrr := Rd.of_own R0.1
  have hf1 := R0.2.2.1
  have hg1 : g < w1.heap.size := Nat.lt_of_lt_of_le hgl hf1.size
  have hB1 : B ≤ w1.heap.size := Nat.le_trans hB hf1.size
  have hrd1 := hrd.frm hf1 fun _ _ => id
  generalize hE : (Obj.cells #[] 73 : Obj) = E at *
  subst hE
  have hone1 : ∀ u ∈ RFil.cells (f, .slice fA f.b.length fc), u.oneCell' = true := by
    intro u hu
    simp only [RFil.cells, List.mem_cons, List.not_mem_nil, or_false] at hu
    rcases hu with rfl | rfl | rfl <;> rfl
  have hti : ∀ u ∈ (rcells V).take (i * 3), u.oneCell' = true := fun u hu => hone u (List.mem_of_mem_take hu)
  have hdi : ∀ u ∈ (rcells V).drop (i * 3), u.oneCell' = true := fun u hu => hone u (List.mem_of_mem_drop hu)
  have hr1 := Frm.refl Nix w1
  have htk := hrd1.take (k := i) hi
  -- the three orders
  have S1 : RowInF w1 ((w1.alloc (.cells #[] 73)).alloc bx).drew B (.slice (some ⟨w1.heap.size, 0, none⟩) 0 0) 0 [] := ((RowInF.new_ hB1 hr1).alloc bx).drew
  have S2 : RowInF w1 (w1.alloc (.cells #[] 73)).drew B (.slice (some ⟨w1.heap.size, 0, none⟩) 0 0) 0 [] := (RowInF.new_ hB1 hr1).drew
  have S3 : RowInF w1 ((w1.alloc bx).alloc (.cells #[] 73)).drew B (.slice (some ⟨(w1.alloc bx).heap.size, 0, none⟩) 0 0) 0 [] := (RowInF.new_ hB1 (hr1.alloc bx)).drew
  obtain ⟨v11, w11, hrun11, R11, F11⟩ := S1.app c (htk.frm S1.2.2.1 fun _ _ => id) hti (by omega)
  rw [Nat.zero_add, List.nil_append] at R11
  obtain ⟨v21, w21, hrun21, R21, F21⟩ := S2.app c (htk.frm S2.2.2.1 fun _ _ => id) hti (by omega)
  rw [Nat.zero_add, List.nil_append] at R21
  obtain ⟨v31, w31, hrun31, R31, F31⟩ := S3.app c (htk.frm S3.2.2.1 fun _ _ => id) hti (by omega)
  rw [Nat.zero_add, List.nil_append] at R31
  have hr21 := R21.alloc bx
  have esz1 : (w1.alloc bx).heap.size = w1.heap.size + 1 := by simp
  have esz2 : (w1.alloc (.cells #[] 73)).heap.size = w1.heap.size + 1 := by simp
  have G1 : Rd w11 (fun k => k = w1.heap.size + 1) 3 (some ⟨w1.heap.size + 1, 0, none⟩) 1 (RFil.cells (f, .slice fA f.b.length fc)) := by
    have : Rd ((w1.alloc (.cells #[] 73)).alloc bx).drew (fun k => k = w1.heap.size + 1) 3 (some ⟨w1.heap.size + 1, 0, none⟩) 1 (RFil.cells (f, .slice fA f.b.length fc)) :=
      Rd.of_obj (cs := #[.string f.name, .slice fA f.b.length fc, .int .i64 f.safe]) (t := 73) (fr := (0, 0)) (by
        have := heap_alloc_new (w1.alloc (.cells #[] 73)) bx
        rw [esz2, ← hbx] at this
        rw [← hbx]
        exact this) 1 rfl
    exact this.frm F11 (fun k hk e => by simp [Value.ownBlock] at e; omega)
  have G2 : Rd (w21.alloc bx) (fun k => k = w21.heap.size) 3 (some ⟨w21.heap.size, 0, none⟩) 1 (RFil.cells (f, .slice fA f.b.length fc)) :=
    Rd.of_obj (cs := #[.string f.name, .slice fA f.b.length fc, .int .i64 f.safe]) (t := 73) (fr := (0, 0)) (by
        have := heap_alloc_new w21 bx
        rw [← hbx] at this ⊢
        exact this) 1 rfl
  have G3 : Rd w31 (fun k => k = w1.heap.size) 3 (some ⟨w1.heap.size, 0, none⟩) 1 (RFil.cells (f, .slice fA f.b.length fc)) := by
    have : Rd ((w1.alloc bx).alloc (.cells #[] 73)).drew (fun k => k = w1.heap.size) 3 (some ⟨w1.heap.size, 0, none⟩) 1 (RFil.cells (f, .slice fA f.b.length fc)) :=
      Rd.of_obj (cs := #[.string f.name, .slice fA f.b.length fc, .int .i64 f.safe]) (t := 73) (fr := (0, 0)) (by
        have h0 := heap_alloc_new w1 bx
        rw [← hbx] at h0
        rw [← hbx]
        exact (((Frm.refl Nix (w1.alloc _)).alloc (.cells #[] 73)).block w1.heap.size (by simp) id).trans h0) 1 rfl
    exact this.frm F31 (fun k hk e => by rw [esz1] at e; simp [Value.ownBlock] at e; omega)
  obtain ⟨v12, w12, A13, c13, w13, hrun12, hrun13, R13⟩ := R11.two 1 rc G1 hone1 hrr hdi (by omega)
  obtain ⟨v22, w22, A23, c23, w23, hrun22, hrun23, R23⟩ := hr21.two 1 rc G2 hone1 hrr hdi (by omega)
  obtain ⟨v32, w32, A33, c33, w33, hrun32, hrun33, R33⟩ := R31.two 1 rc G3 hone1 hrr hdi (by omega)
  rw [esz1] at hrun31
  have hcs : (rcells V).take (i * 3) ++ RFil.cells (f, .slice fA f.b.length fc) ++ (rcells V).drop (i * 3) = rcells (V.take i ++ (f, .slice fA f.b.length fc) :: V.drop i) := by
    rw [rcells_take, rcells_drop, rcells_append, List.append_assoc]
    rfl
  rw [hcs] at R13 R23 R33
  have hnn : i + 1 + (D.L.length - i) = D.L.length + 1 := by omega
  have H1 := Lib.hid (rput_fin h hi f _ hnn hfo hok hf1 R13)
  have H2 := Lib.hid (rput_fin h hi f _ hnn hfo hok hf1 R23)
  have H3 := Lib.hid (rput_fin h hi f _ hnn hfo hok hf1 R33)
  have cc : ∀ {wx : World}, Frm Nix w1 wx → wx.cell? ⟨g, 0, none⟩ = some (.slice A D.L.length c) ∧ wx.frozen? ⟨g, 0, none⟩ = false := fun hx =>
    ⟨((hf1.trans hx).cell (p := ⟨g, 0, none⟩) hgl id).trans c0, ((hf1.trans hx).frozen (p := ⟨g, 0, none⟩) hgl id).trans f0⟩
  obtain ⟨c01, -⟩ := cc hr1
  obtain ⟨c13, f13⟩ := cc R13.2.2.1
  obtain ⟨c23, f23⟩ := cc R23.2.2.1
  obtain ⟨c33, f33⟩ := cc R33.2.2.1
  have esz : (w.alloc bx).heap.size = w.heap.size + 1 := by simp
  rw [esz] at hrun0 F0
  have hbl : w.heap.size < ((w.alloc bx).alloc (.cells #[] 73)).heap.size := by
    have : ((w.alloc bx).alloc (.cells #[] 73)).heap.size = w.heap.size + 2 := by simp
    omega
  have hb1 : w1.heap[w.heap.size]? = some bx := by
    have h0 := heap_alloc_new w bx
    have h1 := ((Frm.refl Nix (w.alloc bx)).alloc (.cells #[] 73)).block w.heap.size (by omega) id
    refine ((F0.block w.heap.size hbl ?_).trans h1).trans h0
    intro e
    simp [Value.ownBlock] at e
  have hb2 : w21.heap[w.heap.size]? = some bx := (R21.2.2.1.block w.heap.size (Nat.lt_of_lt_of_le hbl F0.size) id).trans hb1
  have hbc : ∀ {wx : World}, wx.heap[w.heap.size]? = some bx → wx.cell? ⟨w.heap.size, 0, none⟩ = some (.string f.name) ∧ wx.cell? ⟨w.heap.size, 1, none⟩ = some (.slice fA f.b.length fc) ∧ wx.cell? ⟨w.heap.size, 2, none⟩ = some (.int .i64 f.safe) := fun {wx} hx => by
    have hbk : Blk wx w.heap.size 73 #[.string f.name, .slice fA f.b.length fc, .int .i64 f.safe] := by
      rw [← hbx] at hx
      exact hx
    have k0 := hbk.cell 0
    have k1 := hbk.cell 1
    have k2 := hbk.cell 2
    simp at k0 k1 k2
    exact ⟨k0, k1, k2⟩
  obtain ⟨p0, p1, p2⟩ := hbc hb1
  obtain ⟨q0, q1, q2⟩ := hbc hb2
  obtain ⟨r0, r1, r2⟩ := hbc ((((hr1.alloc (.cells #[] 73)).block w.heap.size (Nat.lt_of_lt_of_le hbl F0.size) id)).trans hb1)
  have hA0 : A = none → c = 0 := fun e => by
    rcases h.row.2 with ⟨hv, hn⟩ | ⟨g, cap, cur, hv, -⟩
    · injection hv
    · injection hv with h1
      rw [e] at h1
      cases h1
  have hcase : (c = i) ∨ (¬ c = i ∧ ∃ ad, A = some ad) := by
    by_cases hci : c = i
    · exact .inl hci
    · rcases A with _ | ad
      · exact absurd (hA0 rfl) (by omega)
      · exact .inr ⟨hci, ad, rfl⟩
  have hn0 := World.new_ne w ⟨g, 0, none⟩ c0
  have hn1 := World.new_ne w1 ⟨g, 0, none⟩ c01
  have hI0 : (0 : Int) ≤ (i : Int) := Int.natCast_nonneg _
  have hI1 : (i : Int) ≤ (c : Int) := by omega
  have hI2 : (i : Int) ≤ (D.L.length : Int) := by omega
  clear hA0 hbc hb1 hb2 hbl esz F0 cc hnn R13 R23 R33 hcs R31 R21 R11 G1 G2 G3 esz1 esz2 hr21 F11 F21 F31 S1 S2 S3 htk hr1 hdi hti hone1 hone hrd1 hrd hrr R0 hf1 hff hfb hok hfo hlen h hcm
  subst hbx
  rcases hcase with rfl | ⟨hci, ad, rfl⟩
  · have e0 : D.L.length - c = 0 := by omega
    rw [e0] at hrun0 hrun13 hrun23 hrun33 H1 H2 H3
    simp only [if_true, Nat.sub_self] at hrun0
    clear e0
    go_enter Tryz.func63, Tryz.ntmps63
    go_wp2_with (at_builtin; refine wpList_append_run hrun0 rfl _ _ rfl rfl rfl ?_)
    go_region_law (first | (refine step_append_run hrun11 (by rfl) _ _ (by rfl) (by rfl) (by rfl) ?_) | (refine step_append_run hrun12 (by rfl) _ _ (by rfl) (by rfl) (by rfl) ?_) | (refine step_append_run hrun13 (by rfl) _ _ (by rfl) (by rfl) (by rfl) ?_) | (refine step_append_run hrun21 (by rfl) _ _ (by rfl) (by rfl) (by rfl) ?_) | (refine step_append_run hrun22 (by rfl) _ _ (by rfl) (by rfl) (by rfl) ?_) | (refine step_append_run hrun23 (by rfl) _ _ (by rfl) (by rfl) (by rfl) ?_) | (refine step_append_run hrun31 (by rfl) _ _ (by rfl) (by rfl) (by rfl) ?_) | (refine step_append_run hrun32 (by rfl) _ _ (by rfl) (by rfl) (by rfl) ?_) | (refine step_append_run hrun33 (by rfl) _ _ (by rfl) (by rfl) (by rfl) ?_))
    all_goals
      go_end0
      first | exact H1.out _ rfl | exact H2.out _ rfl | exact H3.out _ rfl
  · simp only [if_neg hci, Option.map_some] at hrun0
    go_enter Tryz.func63, Tryz.ntmps63
    go_wp2_with (at_builtin; refine wpList_append_run hrun0 rfl _ _ rfl rfl rfl ?_)
    go_region_law (first | (refine step_append_run hrun11 (by rfl) _ _ (by rfl) (by rfl) (by rfl) ?_) | (refine step_append_run hrun12 (by rfl) _ _ (by rfl) (by rfl) (by rfl) ?_) | (refine step_append_run hrun13 (by rfl) _ _ (by rfl) (by rfl) (by rfl) ?_) | (refine step_append_run hrun21 (by rfl) _ _ (by rfl) (by rfl) (by rfl) ?_) | (refine step_append_run hrun22 (by rfl) _ _ (by rfl) (by rfl) (by rfl) ?_) | (refine step_append_run hrun23 (by rfl) _ _ (by rfl) (by rfl) (by rfl) ?_) | (refine step_append_run hrun31 (by rfl) _ _ (by rfl) (by rfl) (by rfl) ?_) | (refine step_append_run hrun32 (by rfl) _ _ (by rfl) (by rfl) (by rfl) ?_) | (refine step_append_run hrun33 (by rfl) _ _ (by rfl) (by rfl) (by rfl) ?_))
    all_goals
      go_end0
      first | exact H1.out _ rfl | exact H2.out _ rfl | exact H3.out _ rfl
end Go.Proofs.YtdgpaddmheagoaaGreatDoor
