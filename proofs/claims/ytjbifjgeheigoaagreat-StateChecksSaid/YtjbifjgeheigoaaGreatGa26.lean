/-
  Contracts: make, kind by kind.
-/
import Derived.Test.YtjbifjgeheigoaaGreatGa25
import Derived.StillTailTactics
set_option linter.unusedVariables false
set_option linter.unusedSimpArgs false
namespace Go.Proofs.YtjbifjgeheigoaaGreat
open Go.RowKit Go.Lib

theorem cells13 {w : World} {g : Nat} {M : Ms} {c t0 t1 t2 t3 : Int} (h : Blk w g 110 (stCells c M (t0, t1, t2, t3))) : w.cell? ⟨g, 0, none⟩ = some (.int .i64 c) ∧ w.cell? ⟨g, 1, none⟩ = some (.map (some M.fo)) ∧ w.cell? ⟨g, 2, none⟩ = some (.map (some M.fe)) ∧ w.cell? ⟨g, 3, none⟩ = some (.map (some M.it)) ∧ w.cell? ⟨g, 4, none⟩ = some (.map (some M.se)) ∧
    w.cell? ⟨g, 5, none⟩ = some (.map (some M.na)) ∧ w.cell? ⟨g, 6, none⟩ = some (.map (some M.pl)) ∧ w.cell? ⟨g, 7, none⟩ = some (.map (some M.gu)) ∧ w.cell? ⟨g, 8, none⟩ = some (.map (some M.he)) := by
  have c0 := h.cell 0
  have c1 := h.cell 1
  have c2 := h.cell 2
  have c3 := h.cell 3
  have c4 := h.cell 4
  have c5 := h.cell 5
  have c6 := h.cell 6
  have c7 := h.cell 7
  have c8 := h.cell 8
  simp [stCells] at c0 c1 c2 c3 c4 c5 c6 c7 c8
  exact ⟨c0, c1, c2, c3, c4, c5, c6, c7, c8⟩
theorem StAt.stBlk {w : World} {g : Nat} {M : Ms} {x : St} (h : StAt w g M x) : Blk w g 110 (stCells x.clock M (x.tFol, x.tFee, x.tItm, x.tSea)) := h.blk
theorem StAt.held {w : World} {g : Nat} {M : Ms} {x : St} (h : StAt w g M x) : HeldIs w M.he (heldS x) := h.maps.he
theorem MsApart.ne {g : Nat} {M : Ms} (h : MsApart g M) : (g ≠ M.fo ∧ g ≠ M.fe ∧ g ≠ M.it ∧ g ≠ M.se ∧ g ≠ M.na ∧ g ≠ M.pl ∧ g ≠ M.gu ∧ g ≠ M.he) ∧ (M.fo ≠ M.fe ∧ M.fo ≠ M.it ∧ M.fo ≠ M.se ∧ M.fo ≠ M.na ∧ M.fo ≠ M.pl ∧ M.fo ≠ M.gu ∧ M.fo ≠ M.he) ∧ (M.fe ≠ M.it ∧ M.fe ≠ M.se ∧ M.fe ≠ M.na ∧ M.fe ≠ M.pl ∧ M.fe ≠ M.gu ∧ M.fe ≠ M.he) ∧
    (M.it ≠ M.se ∧ M.it ≠ M.na ∧ M.it ≠ M.pl ∧ M.it ≠ M.gu ∧ M.it ≠ M.he) ∧ (M.se ≠ M.na ∧ M.se ≠ M.pl ∧ M.se ≠ M.gu ∧ M.se ≠ M.he) ∧ (M.na ≠ M.pl ∧ M.na ≠ M.gu ∧ M.na ≠ M.he) ∧ (M.pl ≠ M.gu ∧ M.pl ≠ M.he) ∧ M.gu ≠ M.he := by
  have := h.nodup
  simp only [List.nodup_cons, List.mem_cons, not_or, List.not_mem_nil, not_false_eq_true, and_true, List.nodup_nil] at this
  simp only [ne_eq]
  exact this
theorem HeldIs.frm {w w1 : World} {F : Nat → Prop} {m : Nat} {c : Int → Int} (h : HeldIs w m c) (hf : Frm F w w1) (hn : ¬ F m) : HeldIs w1 m c := by
  obtain ⟨L, h1, h2⟩ := h
  exact ⟨L, h1.frm hf hn, h2⟩

theorem filter_ins {α : Type} {g : α → Int} (p : α → Bool) (y : α) (l : List α) : ((insI g y l).filter p).length = (l.filter p).length + if p y = true then 1 else 0 := by
  rw [((insI_perm g y l).filter p).length_eq, List.filter_cons]
  split <;> simp
theorem held_insFol (x : St) (f : Fol) (t : Int) (i : Int) : heldS { x with fols := insI Fol.id f x.fols, tFol := t } i = if i = f.inn then heldS x i + 1 else heldS x i := by
  unfold heldS
  rw [filter_ins]
  by_cases h : i = f.inn
  · simp [h]
    omega
  · have : ¬ f.inn = i := fun e => h e.symm
    simp [h, this]
theorem held_insFee (x : St) (f : Fee) (t : Int) (i : Int) : heldS { x with fees := insI Fee.id f x.fees, tFee := t } i = if i = f.inn then heldS x i + 1 else heldS x i := by
  unfold heldS
  rw [filter_ins]
  by_cases h : i = f.inn
  · simp [h]
    omega
  · have : ¬ f.inn = i := fun e => h e.symm
    simp [h, this]
theorem HeldIs.congr {w : World} {m : Nat} {c c' : Int → Int} (h : HeldIs w m c) (hc : ∀ i, c i = c' i) : HeldIs w m c' := by
  obtain ⟨L, h1, h2, h3⟩ := h
  exact ⟨L, h1, h2, fun i hi => (h3 i hi).trans (hc i)⟩

/-- the state behind a folder more. -/
theorem make1_mem {w0 w1 w2 w3 w4 : World} {g : Nat} {M : Ms} {x : St} {f : Fol} (h0 : StAt w0 g M x) (m1 : MapIs Tryz.prog 3 w1 M.fo ((kI f.id, folV f) :: x.fols.map fun f => (kI f.id, folV f))) (f1 : Frm (· = M.fo) w0 w1)
    (m2 : MapIs Tryz.prog 122 w2 M.na ((kP f.inn f.name, kI f.id) :: x.fols.map fun f => (kP f.inn f.name, kI f.id))) (f2 : Frm (· = M.na) w1 w2)
    (hh : HeldIs w3 M.he (fun i => if i = f.inn then heldS x i + 1 else heldS x i)) (f3 : Frm (· = M.he) w2 w3) (t : Int) (b4 : Blk w4 g 110 (stCells x.clock M (t, x.tFee, x.tItm, x.tSea))) (f4 : Frm (· = g) w3 w4)
    (hok : StP { x with fols := insI Fol.id f x.fols, tFol := t }) : StAt w4 g M { x with fols := insI Fol.id f x.fols, tFol := t } ∧ Frm (SF g M) w0 w4 := by
  obtain ⟨⟨g1, g2, g3, g4, g5, g6, g7, g8⟩, ⟨o1, o2, o3, o4, o5, o6, o7⟩, ⟨e1, e2, e3, e4, e5, e6⟩, ⟨i1, i2, i3, i4, i5⟩, ⟨s1, s2, s3, s4⟩, ⟨a1, a2, a3⟩, ⟨p1, p2⟩, u1⟩ := h0.apart.ne
  have f24 : Frm (fun k => k = M.he ∨ k = g) w2 w4 := (f3.mono fun k hk => .inl hk).trans (f4.mono fun k hk => .inr hk)
  have f14 : Frm (fun k => k = M.na ∨ k = M.he ∨ k = g) w1 w4 := (f2.mono fun k hk => .inl hk).trans (f24.mono fun k hk => .inr hk)
  have f04 : Frm (fun k => k = M.fo ∨ k = M.na ∨ k = M.he ∨ k = g) w0 w4 := (f1.mono fun k hk => .inl hk).trans (f14.mono fun k hk => .inr hk)
  have fS : Frm (SF g M) w0 w4 := f04.mono fun k hk => by
    unfold SF
    rcases hk with h | h | h | h <;> simp [h]
  obtain ⟨sl, hi, ht⟩ := h0.maps.it
  refine ⟨⟨b4, ⟨?_, ?_, ⟨sl, ?_, fun y hy => (ht y hy).frm fS (h0.str)⟩, ?_, ?_, ?_, ?_, ?_⟩, h0.apart, hok⟩, fS⟩
  · exact (m1.frm f14 (by simp [o4, o7, g1.symm])).perm ((insI_perm Fol.id f x.fols).map fun f : Fol => (kI f.id, folV f)).symm
  · exact h0.maps.fe.frm f04 (by simp [o1.symm, e3, e6, g2.symm])
  · exact hi.frm f04 (by simp [o2.symm, i2, i5, g3.symm])
  · exact h0.maps.se.frm f04 (by simp [o3.symm, s1, s4, g4.symm])
  · exact (m2.frm f24 (by simp [a3, g5.symm])).perm ((insI_perm Fol.id f x.fols).map fun f : Fol => (kP f.inn f.name, kI f.id)).symm
  · exact h0.maps.pl.frm f04 (by simp [o5.symm, a1.symm, p2, g6.symm])
  · exact h0.maps.gu.frm f04 (by simp [o6.symm, a2.symm, u1, g7.symm])
  · exact (hh.frm f4 g8.symm).congr fun i => (held_insFol x f t i).symm

/-- the state behind a feed more. -/
theorem make3_mem {w0 w1 w2 w3 w4 : World} {g : Nat} {M : Ms} {x : St} {f : Fee} (h0 : StAt w0 g M x) (m1 : MapIs Tryz.prog 3 w1 M.fe ((kI f.id, feeV f) :: x.fees.map fun f => (kI f.id, feeV f))) (f1 : Frm (· = M.fe) w0 w1)
    (m2 : MapIs Tryz.prog 9 w2 M.pl ((.string f.url, kI f.id) :: x.fees.map fun f => (.string f.url, kI f.id))) (f2 : Frm (· = M.pl) w1 w2)
    (hh : HeldIs w3 M.he (fun i => if i = f.inn then heldS x i + 1 else heldS x i)) (f3 : Frm (· = M.he) w2 w3) (t : Int) (b4 : Blk w4 g 110 (stCells x.clock M (x.tFol, t, x.tItm, x.tSea))) (f4 : Frm (· = g) w3 w4)
    (hok : StP { x with fees := insI Fee.id f x.fees, tFee := t }) : StAt w4 g M { x with fees := insI Fee.id f x.fees, tFee := t } ∧ Frm (SF g M) w0 w4 := by
  obtain ⟨⟨g1, g2, g3, g4, g5, g6, g7, g8⟩, ⟨o1, o2, o3, o4, o5, o6, o7⟩, ⟨e1, e2, e3, e4, e5, e6⟩, ⟨i1, i2, i3, i4, i5⟩, ⟨s1, s2, s3, s4⟩, ⟨a1, a2, a3⟩, ⟨p1, p2⟩, u1⟩ := h0.apart.ne
  have f24 : Frm (fun k => k = M.he ∨ k = g) w2 w4 := (f3.mono fun k hk => .inl hk).trans (f4.mono fun k hk => .inr hk)
  have f14 : Frm (fun k => k = M.pl ∨ k = M.he ∨ k = g) w1 w4 := (f2.mono fun k hk => .inl hk).trans (f24.mono fun k hk => .inr hk)
  have f04 : Frm (fun k => k = M.fe ∨ k = M.pl ∨ k = M.he ∨ k = g) w0 w4 := (f1.mono fun k hk => .inl hk).trans (f14.mono fun k hk => .inr hk)
  have fS : Frm (SF g M) w0 w4 := f04.mono fun k hk => by
    unfold SF
    rcases hk with h | h | h | h <;> simp [h]
  obtain ⟨sl, hi, ht⟩ := h0.maps.it
  refine ⟨⟨b4, ⟨?_, ?_, ⟨sl, ?_, fun y hy => (ht y hy).frm fS (h0.str)⟩, ?_, ?_, ?_, ?_, ?_⟩, h0.apart, hok⟩, fS⟩
  · exact h0.maps.fo.frm f04 (by simp [o1, o5, o7, g1.symm])
  · exact (m1.frm f14 (by simp [e4, e6, g2.symm])).perm ((insI_perm Fee.id f x.fees).map fun f : Fee => (kI f.id, feeV f)).symm
  · exact hi.frm f04 (by simp [e1.symm, i3, i5, g3.symm])
  · exact h0.maps.se.frm f04 (by simp [e2.symm, s2, s4, g4.symm])
  · exact h0.maps.na.frm f04 (by simp [e3.symm, a1, a3, g5.symm])
  · exact (m2.frm f24 (by simp [p2, g6.symm])).perm ((insI_perm Fee.id f x.fees).map fun f : Fee => ((.string f.url : Value), kI f.id)).symm
  · exact h0.maps.gu.frm f04 (by simp [e5.symm, p1.symm, u1, g7.symm])
  · exact (hh.frm f4 g8.symm).congr fun i => (held_insFee x f t i).symm
theorem held_itms (x : St) (l : List Itm) (t : Int) : heldS { x with itms := l, tItm := t } = heldS x := rfl
/-- the state behind an item more. -/
theorem make7_mem {w0 w1 w2 w4 : World} {g : Nat} {M : Ms} {x : St} {f : Itm} (h0 : StAt w0 g M x) (hn : ∀ y ∈ x.itms, y.id ≠ f.id) (hft : f.tags = []) {sl : Int → Sl} (ht : ∀ t ∈ x.itms, TagsIn w0 (sl t.id) t.tags)
    (m1 : MapIs Tryz.prog 3 w1 M.it ((kI f.id, itmV (none, 0) f) :: x.itms.map fun t => (kI t.id, itmV (sl t.id) t))) (f1 : Frm (· = M.it) w0 w1)
    (m2 : MapIs Tryz.prog 124 w2 M.gu ((kP f.feed f.guid, kI f.id) :: x.itms.map fun f => (kP f.feed f.guid, kI f.id))) (f2 : Frm (· = M.gu) w1 w2)
    (t : Int) (b4 : Blk w4 g 110 (stCells x.clock M (x.tFol, x.tFee, t, x.tSea))) (f4 : Frm (· = g) w2 w4)
    (hok : StP { x with itms := insI Itm.id f x.itms, tItm := t }) : StAt w4 g M { x with itms := insI Itm.id f x.itms, tItm := t } ∧ Frm (SF g M) w0 w4 := by
  obtain ⟨⟨g1, g2, g3, g4, g5, g6, g7, g8⟩, ⟨o1, o2, o3, o4, o5, o6, o7⟩, ⟨e1, e2, e3, e4, e5, e6⟩, ⟨i1, i2, i3, i4, i5⟩, ⟨s1, s2, s3, s4⟩, ⟨a1, a2, a3⟩, ⟨p1, p2⟩, u1⟩ := h0.apart.ne
  have f14 : Frm (fun k => k = M.gu ∨ k = g) w1 w4 := (f2.mono fun k hk => .inl hk).trans (f4.mono fun k hk => .inr hk)
  have f04 : Frm (fun k => k = M.it ∨ k = M.gu ∨ k = g) w0 w4 := (f1.mono fun k hk => .inl hk).trans (f14.mono fun k hk => .inr hk)
  have fS : Frm (SF g M) w0 w4 := f04.mono fun k hk => by
    unfold SF
    rcases hk with h | h | h <;> simp [h]
  have hmap : (x.itms.map fun t => (kI t.id, itmV (sl t.id) t)) = x.itms.map fun t => (kI t.id, itmV (if t.id = f.id then (none, 0) else sl t.id) t) := List.map_congr_left fun y hy => by rw [if_neg (hn y hy)]
  refine ⟨⟨b4, ⟨?_, ?_, ⟨fun i => if i = f.id then (none, 0) else sl i, ?_, fun y hy => ?_⟩, ?_, ?_, ?_, ?_, ?_⟩, h0.apart, hok⟩, fS⟩
  · exact h0.maps.fo.frm f04 (by simp [o2, o6, g1.symm])
  · exact h0.maps.fe.frm f04 (by simp [e1, e5, g2.symm])
  · rw [hmap] at m1
    have := ((insI_perm Itm.id f x.itms).map fun t : Itm => (kI t.id, itmV (if t.id = f.id then (none, 0) else sl t.id) t)).symm
    rw [List.map_cons, if_pos rfl] at this
    exact (m1.frm f14 (by simp [i4, g3.symm])).perm this
  · rcases mem_insI.1 hy with rfl | hy
    · simp only [if_pos]
      rw [hft]
      exact ⟨Rd.none_, fun _ => rfl, Nat.le_refl _, Nat.zero_le _⟩
    · simp only [if_neg (hn y hy)]
      exact (ht y hy).frm fS h0.str
  · exact h0.maps.se.frm f04 (by simp [i1.symm, s3, g4.symm])
  · exact h0.maps.na.frm f04 (by simp [i2.symm, a2, g5.symm])
  · exact h0.maps.pl.frm f04 (by simp [i3.symm, p1, g6.symm])
  · exact (m2.frm f4 g7.symm).perm ((insI_perm Itm.id f x.itms).map fun f : Itm => (kP f.feed f.guid, kI f.id)).symm
  · exact (h0.held.frm f04 (by simp [i5.symm, u1.symm, g8.symm]))
/-- the state behind a search more. -/
theorem make11_mem {w0 w1 w4 : World} {g : Nat} {M : Ms} {x : St} {f : Sea} (h0 : StAt w0 g M x)
    (m1 : MapIs Tryz.prog 3 w1 M.se ((kI f.id, seaV f) :: x.seas.map fun f => (kI f.id, seaV f))) (f1 : Frm (· = M.se) w0 w1)
    (t : Int) (b4 : Blk w4 g 110 (stCells x.clock M (x.tFol, x.tFee, x.tItm, t))) (f4 : Frm (· = g) w1 w4)
    (hok : StP { x with seas := insI Sea.id f x.seas, tSea := t }) : StAt w4 g M { x with seas := insI Sea.id f x.seas, tSea := t } ∧ Frm (SF g M) w0 w4 := by
  obtain ⟨⟨g1, g2, g3, g4, g5, g6, g7, g8⟩, ⟨o1, o2, o3, o4, o5, o6, o7⟩, ⟨e1, e2, e3, e4, e5, e6⟩, ⟨i1, i2, i3, i4, i5⟩, ⟨s1, s2, s3, s4⟩, ⟨a1, a2, a3⟩, ⟨p1, p2⟩, u1⟩ := h0.apart.ne
  have f04 : Frm (fun k => k = M.se ∨ k = g) w0 w4 := (f1.mono fun k hk => .inl hk).trans (f4.mono fun k hk => .inr hk)
  have fS : Frm (SF g M) w0 w4 := f04.mono fun k hk => by
    unfold SF
    rcases hk with h | h <;> simp [h]
  obtain ⟨sl, hi, ht⟩ := h0.maps.it
  refine ⟨⟨b4, ⟨?_, ?_, ⟨sl, ?_, fun y hy => (ht y hy).frm fS (h0.str)⟩, ?_, ?_, ?_, ?_, ?_⟩, h0.apart, hok⟩, fS⟩
  · exact h0.maps.fo.frm f04 (by simp [o3, g1.symm])
  · exact h0.maps.fe.frm f04 (by simp [e2, g2.symm])
  · exact hi.frm f04 (by simp [i1, g3.symm])
  · exact (m1.frm f4 g4.symm).perm ((insI_perm Sea.id f x.seas).map fun f : Sea => (kI f.id, seaV f)).symm
  · exact h0.maps.na.frm f04 (by simp [s1.symm, g5.symm])
  · exact h0.maps.pl.frm f04 (by simp [s2.symm, g6.symm])
  · exact h0.maps.gu.frm f04 (by simp [s3.symm, g7.symm])
  · exact (h0.held.frm f04 (by simp [s4.symm, g8.symm]))

set_option maxRecDepth 100000 in
set_option maxHeartbeats 4000000 in
theorem make1_any {w : World} {g : Nat} {M : Ms} {x : St} (h : StAt w g M x) (a b n : Int) (s t u : ByteArray) (hfit : fits x ⟨1, a, b, n, s, t, u⟩ = true) (ha : I64 a) (hb : I64 b) :
    Calls Tryz.prog 82 #[.pointer (some ⟨g, 0, none⟩), evV ⟨1, a, b, n, s, t, u⟩] w fun r w' => r = .returned (.tuple #[]) ∧ StAt w' g M (doS x ⟨1, a, b, n, s, t, u⟩) ∧ Frm (SF g M) w w' := by
  have he := fits_ev hfit
  have hsz : s.size ≤ maxLen := by
    have h1 := he
    rw [show (⟨1, a, b, n, s, t, u⟩ : Ev) = ⟨1, a, b, 0, s, eS, eS⟩ from ev1_of he rfl, ev1] at h1
    simp only [Bool.and_eq_true] at h1
    have := label_size h1.2
    have := maxLen_le
    omega
  have hok := doS_ok h.ok hfit
  obtain ⟨n1, n2, n3, n4, n5⟩ := (fits1 (x := x) rfl he).1 hfit
  simp only at n1 n5
  obtain ⟨⟨g1, g2, g3, g4, g5, g6, g7, g8⟩, ⟨o1, o2, o3, o4, o5, o6, o7⟩, ⟨e1, e2, e3, e4, e5, e6⟩, ⟨i1, i2, i3, i4, i5⟩, ⟨s1, s2, s3, s4⟩, ⟨a1, a2, a3⟩, ⟨p1, p2⟩, u1⟩ := h.apart.ne
  obtain ⟨w0, hw0⟩ : ∃ w0, w0 = w.alloc (.cells #[.int .i64 1, .int .i64 a, .int .i64 b, .int .i64 n, .string s, .string t, .string u] 38) := ⟨_, rfl⟩
  have f0 : Frm Nix w w0 := by rw [hw0]; exact (Frm.refl Nix w).alloc _
  have hbe : Blk w0 w.heap.size 38 #[.int .i64 1, .int .i64 a, .int .i64 b, .int .i64 n, .string s, .string t, .string u] := by rw [hw0]; exact Blk.new w _ _
  have h0 := h.nix f0
  have hlt := h.lt
  have hev : ∀ k, SF g M k → w.heap.size ≠ k := fun k hk e => by have := hlt k hk; omega
  obtain ⟨w1, r1, m1, f1⟩ := (h0.maps.fo.frm (Frm.refl Nix w0).drew id).update_new keyedI Tryz.underlying100 (isK_I ha) (fun p hp => by
    obtain ⟨y, hy, rfl⟩ := List.mem_map.1 hp
    exact fun e => n1 y hy (kI_inj.1 e)) (folV ⟨a, b, s⟩)
  have f1' : Frm (· = M.fo) w0 w1 := ((Frm.refl (· = M.fo) w0).drew).trans f1
  have b1 : Blk w1 g 110 _ := h0.stBlk.frm f1' g1
  have be1 := hbe.frm f1' (hev _ (by simp [SF]))
  have r1' : (Instr.mapUpdate 100 (.map (some M.fo)) (.int .i64 a) (.agg #[.int .i64 a, .int .i64 b, .string s])).run Tryz.prog w0.drew = .ok () w1 := r1
  obtain ⟨w2, r2, m2, f2⟩ := ((h0.maps.na.frm f1' o4.symm).frm (Frm.refl Nix w1).drew id).update_new keyedN Tryz.underlying104 (isK_N hb hsz) (fun p hp => by
    obtain ⟨y, hy, rfl⟩ := List.mem_map.1 hp
    exact fun e => n5 y hy (kP_inj.1 e)) (kI a)
  have f2' : Frm (· = M.na) w1 w2 := ((Frm.refl (· = M.na) w1).drew).trans f2
  have b2 := b1.frm f2' g5
  have be2 := be1.frm f2' (hev _ (by simp [SF]))
  have r2' : (Instr.mapUpdate 104 (.map (some M.na)) (.agg #[.int .i64 b, .string s]) (.int .i64 a)).run Tryz.prog w1.drew = .ok () w2 := r2
  have HB := Lib.hid b2
  have HE := Lib.hid be2
  have hh2 := (h0.held.frm f1' o7.symm).frm f2' a3.symm
  have HH := Lib.hid hh2
  have hbe8 := hev M.he (by simp [SF])
  have HL : Hid (-1000000 ≤ heldS x b ∧ heldS x b ≤ 1000000) := by have := heldS_le h.ok b; unfold Hid; omega
  obtain ⟨c0, c1, c2, c3, c4, c5, c6, c7, c8⟩ := cells13 h0.stBlk
  obtain ⟨d0, d1, d2, d3, d4, d5, d6⟩ := blk7 hbe
  obtain ⟨k0, k1, k2, k3, k4, k5, k6, k7, k8⟩ := cells13 b1
  obtain ⟨q0, q1, q2, q3, q4, q5, q6⟩ := blk7 be1
  obtain ⟨j0, j1, j2, j3, j4, j5, j6, j7, j8⟩ := cells13 b2
  obtain ⟨v0, v1, v2, v3, v4, v5, v6⟩ := blk7 be2
  have HW := Lib.hid hw0
  unfold evV
  clear r1 r2 hw0
  go_enter Tryz.func82, Tryz.ntmps82
  go_wp2
  rw [← HW.out]
  go_still_tail 13, (by kernel_rfl)
  change wpList _ _ _ _ _ w0.drew
  go_wp2_with (at_mapUpdate; refine wpList_mapUpdate_run r1' rfl _ _ _ rfl rfl rfl rfl ?_)
  clear r1' c0 c1 c2 c3 c4 c5 c6 c7 c8 d0 d1 d2 d3 d4 d5 d6
  go_still_tail 11, (by kernel_rfl)
  change wpList _ _ _ _ _ w1.drew
  clear k0 k1 k2 k3 k4 k5 k6 k7 k8 q0 q1 q2 q3 q4 q5 q6
  have KH := Lib.hid (hold_any (n := 1) j8 HH.out hb HL.out (by omega))
  go_wp2_with (first
    | (at_mapUpdate; refine wpList_mapUpdate_run r2' rfl _ _ _ rfl rfl rfl rfl ?_)
    | (go_at_call 79; refine KH.out.mono ?_; rintro r w3 ⟨rfl, hh3, f3⟩; have b3 := HB.out.frm f3 g8; obtain ⟨v0, v1, v2, v3, v4, v5, v6⟩ := blk7 (HE.out.frm f3 hbe8))
    | (go_at_call 139; refine (raise_any b3 0 (by omega) a).mono ?_; rintro r w4 ⟨rfl, b4, f4⟩))
  go_end0
  have hfin := make1_mem (f := ⟨a, b, s⟩) h0 m1 f1' m2 f2' hh3 f3 _ b4 f4 (by rw [do1 rfl] at hok; exact hok)
  rw [do1 rfl]
  exact ⟨rfl, hfin.1, (Frm.nix f0).trans hfin.2⟩

set_option maxRecDepth 100000 in
set_option maxHeartbeats 4000000 in
theorem make3_any {w : World} {g : Nat} {M : Ms} {x : St} (h : StAt w g M x) (a b n : Int) (s t u : ByteArray) (hfit : fits x ⟨3, a, b, n, s, t, u⟩ = true) (ha : I64 a) (hb : I64 b) :
    Calls Tryz.prog 82 #[.pointer (some ⟨g, 0, none⟩), evV ⟨3, a, b, n, s, t, u⟩] w fun r w' => r = .returned (.tuple #[]) ∧ StAt w' g M (doS x ⟨3, a, b, n, s, t, u⟩) ∧ Frm (SF g M) w w' := by
  have he := fits_ev hfit
  have hsz : s.size ≤ maxLen := by
    have h1 := he
    rw [show (⟨3, a, b, n, s, t, u⟩ : Ev) = ⟨3, a, b, 0, s, t, eS⟩ from ev3_of he rfl, ev3] at h1
    simp only [Bool.and_eq_true] at h1
    have := place_size h1.1.2
    have := maxLen_le
    omega
  have hok := doS_ok h.ok hfit
  obtain ⟨n1, n2, n3, n4⟩ := (fits3 (x := x) rfl he).1 hfit
  have n5 := (place_iff h.ok s).1 n4
  simp only at n1
  obtain ⟨⟨g1, g2, g3, g4, g5, g6, g7, g8⟩, ⟨o1, o2, o3, o4, o5, o6, o7⟩, ⟨e1, e2, e3, e4, e5, e6⟩, ⟨i1, i2, i3, i4, i5⟩, ⟨s1, s2, s3, s4⟩, ⟨a1, a2, a3⟩, ⟨p1, p2⟩, u1⟩ := h.apart.ne
  obtain ⟨w0, hw0⟩ : ∃ w0, w0 = w.alloc (.cells #[.int .i64 3, .int .i64 a, .int .i64 b, .int .i64 n, .string s, .string t, .string u] 38) := ⟨_, rfl⟩
  have f0 : Frm Nix w w0 := by rw [hw0]; exact (Frm.refl Nix w).alloc _
  have hbe : Blk w0 w.heap.size 38 #[.int .i64 3, .int .i64 a, .int .i64 b, .int .i64 n, .string s, .string t, .string u] := by rw [hw0]; exact Blk.new w _ _
  have h0 := h.nix f0
  have hlt := h.lt
  have hev : ∀ k, SF g M k → w.heap.size ≠ k := fun k hk e => by have := hlt k hk; omega
  obtain ⟨w1, r1, m1, f1⟩ := (h0.maps.fe.frm (Frm.refl Nix w0).drew id).update_new keyedI Tryz.underlying101 (isK_I ha) (fun p hp => by
    obtain ⟨y, hy, rfl⟩ := List.mem_map.1 hp
    exact fun e => n1 y hy (kI_inj.1 e)) (feeV ⟨a, b, s, t⟩)
  have f1' : Frm (· = M.fe) w0 w1 := ((Frm.refl (· = M.fe) w0).drew).trans f1
  have b1 : Blk w1 g 110 _ := h0.stBlk.frm f1' g2
  have be1 := hbe.frm f1' (hev _ (by simp [SF]))
  have r1' : (Instr.mapUpdate 101 (.map (some M.fe)) (.int .i64 a) (.agg #[.int .i64 a, .int .i64 b, .string s, .string t])).run Tryz.prog w0.drew = .ok () w1 := r1
  obtain ⟨w2, r2, m2, f2⟩ := ((h0.maps.pl.frm f1' e4.symm).frm (Frm.refl Nix w1).drew id).update_new keyedS Tryz.underlying105 (isK_S hsz) (fun p hp => by
    obtain ⟨y, hy, rfl⟩ := List.mem_map.1 hp
    exact fun e => n5 y hy (by simpa using e)) (kI a)
  have f2' : Frm (· = M.pl) w1 w2 := ((Frm.refl (· = M.pl) w1).drew).trans f2
  have b2 := b1.frm f2' g6
  have be2 := be1.frm f2' (hev _ (by simp [SF]))
  have r2' : (Instr.mapUpdate 105 (.map (some M.pl)) (.string s) (.int .i64 a)).run Tryz.prog w1.drew = .ok () w2 := r2
  have HB := Lib.hid b2
  have HE := Lib.hid be2
  have hh2 := (h0.held.frm f1' e6.symm).frm f2' p2.symm
  have HH := Lib.hid hh2
  have hbe8 := hev M.he (by simp [SF])
  have HL : Hid (-1000000 ≤ heldS x b ∧ heldS x b ≤ 1000000) := by have := heldS_le h.ok b; unfold Hid; omega
  obtain ⟨c0, c1, c2, c3, c4, c5, c6, c7, c8⟩ := cells13 h0.stBlk
  obtain ⟨d0, d1, d2, d3, d4, d5, d6⟩ := blk7 hbe
  obtain ⟨k0, k1, k2, k3, k4, k5, k6, k7, k8⟩ := cells13 b1
  obtain ⟨q0, q1, q2, q3, q4, q5, q6⟩ := blk7 be1
  obtain ⟨j0, j1, j2, j3, j4, j5, j6, j7, j8⟩ := cells13 b2
  obtain ⟨v0, v1, v2, v3, v4, v5, v6⟩ := blk7 be2
  have HW := Lib.hid hw0
  unfold evV
  clear r1 r2 hw0
  go_enter Tryz.func82, Tryz.ntmps82
  go_wp2
  rw [← HW.out]
  go_still_tail 15, (by kernel_rfl)
  change wpList _ _ _ _ _ w0.drew
  go_wp2_with (at_mapUpdate; refine wpList_mapUpdate_run r1' rfl _ _ _ rfl rfl rfl rfl ?_)
  clear r1' c0 c1 c2 c3 c4 c5 c6 c7 c8 d0 d1 d2 d3 d4 d5 d6
  go_still_tail 8, (by kernel_rfl)
  change wpList _ _ _ _ _ w1.drew
  clear k0 k1 k2 k3 k4 k5 k6 k7 k8 q0 q1 q2 q3 q4 q5 q6
  have KH := Lib.hid (hold_any (n := 1) j8 HH.out hb HL.out (by omega))
  go_wp2_with (first
    | (at_mapUpdate; refine wpList_mapUpdate_run r2' rfl _ _ _ rfl rfl rfl rfl ?_)
    | (go_at_call 79; refine KH.out.mono ?_; rintro r w3 ⟨rfl, hh3, f3⟩; have b3 := HB.out.frm f3 g8; obtain ⟨v0, v1, v2, v3, v4, v5, v6⟩ := blk7 (HE.out.frm f3 hbe8))
    | (go_at_call 139; refine (raise_any b3 1 (by omega) a).mono ?_; rintro r w4 ⟨rfl, b4, f4⟩))
  go_end0
  have hfin := make3_mem (f := ⟨a, b, s, t⟩) h0 m1 f1' m2 f2' hh3 f3 _ b4 f4 (by rw [do3 rfl] at hok; exact hok)
  rw [do3 rfl]
  exact ⟨rfl, hfin.1, (Frm.nix f0).trans hfin.2⟩

set_option maxRecDepth 100000 in
set_option maxHeartbeats 4000000 in
theorem make7_any {w : World} {g : Nat} {M : Ms} {x : St} (h : StAt w g M x) (a b n : Int) (s t u : ByteArray) (hfit : fits x ⟨7, a, b, n, s, t, u⟩ = true) (ha : I64 a) (hb : I64 b) :
    Calls Tryz.prog 82 #[.pointer (some ⟨g, 0, none⟩), evV ⟨7, a, b, n, s, t, u⟩] w fun r w' => r = .returned (.tuple #[]) ∧ StAt w' g M (doS x ⟨7, a, b, n, s, t, u⟩) ∧ Frm (SF g M) w w' := by
  have he := fits_ev hfit
  have hsz : s.size ≤ maxLen := by
    have h1 := he
    rw [ev7] at h1
    simp only [Bool.and_eq_true] at h1
    have := place_size h1.1.1.2
    have := maxLen_le
    omega
  have hok := doS_ok h.ok hfit
  obtain ⟨n1, n2, n3, n4⟩ := (fits7 (x := x) rfl he).1 hfit
  have n5 := (guid_iff h.ok b s).1 n4
  simp only at n1
  obtain ⟨⟨g1, g2, g3, g4, g5, g6, g7, g8⟩, ⟨o1, o2, o3, o4, o5, o6, o7⟩, ⟨e1, e2, e3, e4, e5, e6⟩, ⟨i1, i2, i3, i4, i5⟩, ⟨s1, s2, s3, s4⟩, ⟨a1, a2, a3⟩, ⟨p1, p2⟩, u1⟩ := h.apart.ne
  obtain ⟨w0, hw0⟩ : ∃ w0, w0 = w.alloc (.cells #[.int .i64 7, .int .i64 a, .int .i64 b, .int .i64 n, .string s, .string t, .string u] 38) := ⟨_, rfl⟩
  have f0 : Frm Nix w w0 := by rw [hw0]; exact (Frm.refl Nix w).alloc _
  have hbe : Blk w0 w.heap.size 38 #[.int .i64 7, .int .i64 a, .int .i64 b, .int .i64 n, .string s, .string t, .string u] := by rw [hw0]; exact Blk.new w _ _
  have h0 := h.nix f0
  have hlt := h.lt
  have hev : ∀ k, SF g M k → w.heap.size ≠ k := fun k hk e => by have := hlt k hk; omega
  obtain ⟨sl, hsl, htl⟩ := h0.maps.it
  obtain ⟨w1, r1, m1, f1⟩ := (hsl.frm (Frm.refl Nix w0).drew id).update_new keyedI Tryz.underlying102 (isK_I ha) (fun p hp => by
    obtain ⟨y, hy, rfl⟩ := List.mem_map.1 hp
    exact fun e => n1 y hy (kI_inj.1 e)) (itmV (none, 0) ⟨a, b, n, s, t, u, false, false, []⟩)
  have f1' : Frm (· = M.it) w0 w1 := ((Frm.refl (· = M.it) w0).drew).trans f1
  have b1 : Blk w1 g 110 _ := h0.stBlk.frm f1' g3
  have be1 := hbe.frm f1' (hev _ (by simp [SF]))
  have r1' : (Instr.mapUpdate 102 (.map (some M.it)) (.int .i64 a) (.agg #[.int .i64 a, .int .i64 b, .int .i64 n, .string s, .string t, .string u, .bool false, .bool false, .slice none 0 0])).run Tryz.prog w0.drew = .ok () w1 := r1
  obtain ⟨w2, r2, m2, f2⟩ := ((h0.maps.gu.frm f1' i4.symm).frm (Frm.refl Nix w1).drew id).update_new keyedG Tryz.underlying106 (isK_G hb hsz) (fun p hp => by
    obtain ⟨y, hy, rfl⟩ := List.mem_map.1 hp
    exact fun e => n5 y hy (kP_inj.1 e)) (kI a)
  have f2' : Frm (· = M.gu) w1 w2 := ((Frm.refl (· = M.gu) w1).drew).trans f2
  have b2 := b1.frm f2' g7
  have be2 := be1.frm f2' (hev _ (by simp [SF]))
  have r2' : (Instr.mapUpdate 106 (.map (some M.gu)) (.agg #[.int .i64 b, .string s]) (.int .i64 a)).run Tryz.prog w1.drew = .ok () w2 := r2
  have HB := Lib.hid b2
  have HE := Lib.hid be2
  obtain ⟨c0, c1, c2, c3, c4, c5, c6, c7, c8⟩ := cells13 h0.stBlk
  obtain ⟨d0, d1, d2, d3, d4, d5, d6⟩ := blk7 hbe
  obtain ⟨k0, k1, k2, k3, k4, k5, k6, k7, k8⟩ := cells13 b1
  obtain ⟨q0, q1, q2, q3, q4, q5, q6⟩ := blk7 be1
  obtain ⟨j0, j1, j2, j3, j4, j5, j6, j7, j8⟩ := cells13 b2
  obtain ⟨v0, v1, v2, v3, v4, v5, v6⟩ := blk7 be2
  have HW := Lib.hid hw0
  unfold evV
  clear r1 r2 hw0
  go_enter Tryz.func82, Tryz.ntmps82
  go_wp2
  rw [← HW.out]
  go_still_tail 19, (by kernel_rfl)
  change wpList _ _ _ _ _ w0.drew
  go_wp2_with (at_mapUpdate; refine wpList_mapUpdate_run r1' rfl _ _ _ rfl rfl rfl rfl ?_)
  clear r1' c0 c1 c2 c3 c4 c5 c6 c7 c8 d0 d1 d2 d3 d4 d5 d6
  go_still_tail 11, (by kernel_rfl)
  change wpList _ _ _ _ _ w1.drew
  clear k0 k1 k2 k3 k4 k5 k6 k7 k8 q0 q1 q2 q3 q4 q5 q6
  have KR := Lib.hid (raise_any HB.out 2 (by omega) a)
  go_wp2_with (first
    | (at_mapUpdate; refine wpList_mapUpdate_run r2' rfl _ _ _ rfl rfl rfl rfl ?_)
    | (go_at_call 139; refine KR.out.mono ?_; rintro r w4 ⟨rfl, b4, f4⟩))
  go_end0
  have hfin := make7_mem (f := ⟨a, b, n, s, t, u, false, false, []⟩) h0 n1 rfl htl m1 f1' m2 f2' _ b4 f4 (by rw [do7 rfl] at hok; exact hok)
  rw [do7 rfl]
  exact ⟨rfl, hfin.1, (Frm.nix f0).trans hfin.2⟩

set_option maxRecDepth 100000 in
set_option maxHeartbeats 4000000 in
theorem make11_any {w : World} {g : Nat} {M : Ms} {x : St} (h : StAt w g M x) (a b n : Int) (s t u : ByteArray) (hfit : fits x ⟨11, a, b, n, s, t, u⟩ = true) (ha : I64 a) (hb : I64 b) :
    Calls Tryz.prog 82 #[.pointer (some ⟨g, 0, none⟩), evV ⟨11, a, b, n, s, t, u⟩] w fun r w' => r = .returned (.tuple #[]) ∧ StAt w' g M (doS x ⟨11, a, b, n, s, t, u⟩) ∧ Frm (SF g M) w w' := by
  have he := fits_ev hfit
  have hok := doS_ok h.ok hfit
  obtain ⟨n1, n2⟩ := (fits11 (x := x) rfl he).1 hfit
  simp only at n1
  obtain ⟨⟨g1, g2, g3, g4, g5, g6, g7, g8⟩, ⟨o1, o2, o3, o4, o5, o6, o7⟩, ⟨e1, e2, e3, e4, e5, e6⟩, ⟨i1, i2, i3, i4, i5⟩, ⟨s1, s2, s3, s4⟩, ⟨a1, a2, a3⟩, ⟨p1, p2⟩, u1⟩ := h.apart.ne
  obtain ⟨w0, hw0⟩ : ∃ w0, w0 = w.alloc (.cells #[.int .i64 11, .int .i64 a, .int .i64 b, .int .i64 n, .string s, .string t, .string u] 38) := ⟨_, rfl⟩
  have f0 : Frm Nix w w0 := by rw [hw0]; exact (Frm.refl Nix w).alloc _
  have hbe : Blk w0 w.heap.size 38 #[.int .i64 11, .int .i64 a, .int .i64 b, .int .i64 n, .string s, .string t, .string u] := by rw [hw0]; exact Blk.new w _ _
  have h0 := h.nix f0
  have hlt := h.lt
  have hev : ∀ k, SF g M k → w.heap.size ≠ k := fun k hk e => by have := hlt k hk; omega
  obtain ⟨w1, r1, m1, f1⟩ := (h0.maps.se.frm (Frm.refl Nix w0).drew id).update_new keyedI Tryz.underlying103 (isK_I ha) (fun p hp => by
    obtain ⟨y, hy, rfl⟩ := List.mem_map.1 hp
    exact fun e => n1 y hy (kI_inj.1 e)) (seaV ⟨a, s, t⟩)
  have f1' : Frm (· = M.se) w0 w1 := ((Frm.refl (· = M.se) w0).drew).trans f1
  have b1 : Blk w1 g 110 _ := h0.stBlk.frm f1' g4
  have be1 := hbe.frm f1' (hev _ (by simp [SF]))
  have r1' : (Instr.mapUpdate 103 (.map (some M.se)) (.int .i64 a) (.agg #[.int .i64 a, .string s, .string t])).run Tryz.prog w0.drew = .ok () w1 := r1
  have HB := Lib.hid b1
  have HE := Lib.hid be1
  obtain ⟨c0, c1, c2, c3, c4, c5, c6, c7, c8⟩ := cells13 h0.stBlk
  obtain ⟨d0, d1, d2, d3, d4, d5, d6⟩ := blk7 hbe
  obtain ⟨k0, k1, k2, k3, k4, k5, k6, k7, k8⟩ := cells13 b1
  obtain ⟨q0, q1, q2, q3, q4, q5, q6⟩ := blk7 be1
  have HW := Lib.hid hw0
  unfold evV
  clear r1 hw0
  go_enter Tryz.func82, Tryz.ntmps82
  go_wp2
  rw [← HW.out]
  go_still_tail 13, (by kernel_rfl)
  change wpList _ _ _ _ _ w0.drew
  go_wp2_with (at_mapUpdate; refine wpList_mapUpdate_run r1' rfl _ _ _ rfl rfl rfl rfl ?_)
  have KR := Lib.hid (raise_any HB.out 3 (by omega) a)
  go_wp2_with (first
    | (go_at_call 139; refine KR.out.mono ?_; rintro r w4 ⟨rfl, b4, f4⟩))
  go_end0
  have hfin := make11_mem (f := ⟨a, s, t⟩) h0 m1 f1' _ b4 f4 (by rw [do11 rfl] at hok; exact hok)
  rw [do11 rfl]
  exact ⟨rfl, hfin.1, (Frm.nix f0).trans hfin.2⟩

end Go.Proofs.YtjbifjgeheigoaaGreat
