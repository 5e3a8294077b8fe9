/-
  Contract: unfeed: a feed goes, and its items, while their map is gone over.
-/
import Derived.Test.YtjbifjgeheigoaaGreatGa26
import Derived.Test.YtjbifjgeheigoaaGreatGa16
set_option linter.unusedVariables false
set_option linter.unusedSimpArgs false
namespace Go.Proofs.YtjbifjgeheigoaaGreat
open Go.RowKit Go.Lib
open Go.Maps (Keyed)

/-! ### an entry is deleted while its map is gone over -/

section
variable {P : Program} {w w1 : World} {m t k et : TypeId} {R : List GE} {clock : Nat}
theorem GMap.delete_e (K : Keyed P k) (h1 : GMap w m R clock) (h2 : GOk P k R clock) (ht : P.underlying t = some (.map k et)) {e : GE} (hm : e ∈ R) (t2 : TypeId) :
    ∃ w' R2, (∀ ty, (Builtin.delete_ #[t, t2] ty #[.map (some m), e.key]).run P w = .ok (.tuple #[]) w') ∧ GMap w' m R2 clock ∧ GOk P k R2 clock ∧ R.Perm (e :: R2) ∧ R2.Sublist R ∧ Frm (· = m) w w' := by
  have hx := h2.isK _ hm
  rcases h2.find K hx (w := w) with ⟨hf, hn⟩ | ⟨j, e', hf, hj, he⟩
  · exact absurd rfl (hn e hm)
  · have hjl : j < R.length := (List.getElem?_eq_some_iff.1 hj).1
    have hje : R[j] = e' := (List.getElem?_eq_some_iff.1 hj).2
    have hee : e' = e := by
      have h3 := h2.keys
      have hm' : e' ∈ R := hje ▸ List.getElem_mem hjl
      rw [List.nodup_iff_pairwise_ne, List.pairwise_map] at h3
      by_cases hc : e' = e
      · exact hc
      · exfalso
        obtain ⟨i, hi, hie⟩ := List.mem_iff_getElem.1 hm
        have hij : i ≠ j := by
          rintro rfl
          exact hc (by rw [← hje, hie])
        rcases Nat.lt_or_gt_of_ne hij with h | h
        · exact List.pairwise_iff_getElem.1 h3 i j hi hjl h (by rw [hie, hje, he])
        · exact List.pairwise_iff_getElem.1 h3 j i hjl hi h (by rw [hie, hje, he])
    subst hee
    have hsplit : R = R.take j ++ e' :: R.drop (j + 1) := by
      conv => lhs; rw [← List.take_append_drop j R, List.drop_eq_getElem_cons hjl, hje]
    obtain ⟨A, hA⟩ : ∃ A, A = R.take j := ⟨_, rfl⟩
    obtain ⟨B, hB⟩ : ∃ B, B = R.drop (j + 1) := ⟨_, rfl⟩
    rw [← hA, ← hB] at hsplit
    have hAl : A.length = j := by rw [hA, List.length_take]; omega
    have hers : (R.map GE.me).eraseIdx j = (A ++ B).map GE.me := by
      rw [hsplit, ← hAl, List.map_append, List.map_append, List.map_cons]
      have : A.length = (A.map GE.me).length := by simp
      rw [this, erase_app]
    have hsub : (A ++ B).Sublist R := by
      rw [hsplit]
      exact (List.Sublist.refl A).append (List.sublist_cons_self e' B)
    refine ⟨ChangeMaps.setBlock w m (.map ((A ++ B).map GE.me).toArray clock), A ++ B, fun ty => ?_, h1.put _ _, ?_, ?_, hsub, (Frm.refl (fun i => i = m) w).setBlock (.inl rfl) _⟩
    · rw [← hers]
      simp [Builtin.delete_, run_underlying ht, MapKept.run_getObj_map h1, check_run K hx, hf, MapKept.run_setObj_map _ h1, ChangeMaps.setBlock]
    · exact ⟨fun y hy => h2.born y (hsub.subset hy), (hsub.map _).nodup h2.borns, (hsub.map _).nodup h2.keys, fun y hy => h2.isK y (hsub.subset hy)⟩
    · rw [hsplit]
      exact List.perm_middle
end

/-! ### lists of things with IDs -/

section
variable {α : Type} {g : α → Int} {l : List α} {id : Int}
theorem delI_perm {a : α} (h : atI g id l = some a) : l.Perm (a :: delI g id l) := by
  induction l with
  | nil => cases h
  | cons y r ih =>
    unfold atI at h ih
    unfold delI at ih ⊢
    by_cases hy : g y = id
    · rw [List.find?_cons_of_pos (by simpa using hy)] at h
      injection h with h
      subst h
      rw [List.eraseP_cons_of_pos (by simpa using hy)]
    · rw [List.find?_cons_of_neg (by simpa using hy)] at h
      rw [List.eraseP_cons_of_neg (by simpa using hy)]
      exact ((ih h).cons y).trans (List.Perm.swap _ _ _)
theorem updI_perm {a : α} (f : α → α) (h : atI g id l = some a) : (updI g id f l).Perm (f a :: delI g id l) := by
  induction l with
  | nil => cases h
  | cons y r ih =>
    unfold atI at h ih
    unfold delI at ih ⊢
    by_cases hy : g y = id
    · rw [List.find?_cons_of_pos (by simpa using hy)] at h
      injection h with h
      subst h
      rw [List.eraseP_cons_of_pos (by simpa using hy), updI, if_pos hy]
    · rw [List.find?_cons_of_neg (by simpa using hy)] at h
      rw [List.eraseP_cons_of_neg (by simpa using hy), updI, if_neg hy]
      exact ((ih h).cons y).trans (List.Perm.swap _ _ _)
theorem filter_del {a : α} (p : α → Bool) (h : atI g id l = some a) : ((delI g id l).filter p).length = (l.filter p).length - if p a = true then 1 else 0 := by
  rw [((delI_perm h).filter p).length_eq, List.filter_cons]
  split <;> simp
theorem filter_pos {a : α} (p : α → Bool) (h : atI g id l = some a) (hp : p a = true) : 1 ≤ (l.filter p).length := by
  rw [((delI_perm h).filter p).length_eq, List.filter_cons, if_pos hp]
  simp
end
theorem held_delFol (x : St) {i : Int} {f : Fol} (h : atI Fol.id i x.fols = some f) (j : Int) : heldS { x with fols := delI Fol.id i x.fols } j = if j = f.inn then heldS x j + -1 else heldS x j := by
  unfold heldS
  simp only
  rw [filter_del _ h]
  by_cases hj : j = f.inn
  · have := filter_pos (fun f : Fol => decide (f.inn = j)) h (by simpa using hj.symm)
    simp [hj] at this ⊢
    omega
  · have : ¬ f.inn = j := fun e => hj e.symm
    simp [hj, this]
theorem held_delFee (x : St) {i : Int} {f : Fee} (l : List Itm) (h : atI Fee.id i x.fees = some f) (j : Int) : heldS { x with fees := delI Fee.id i x.fees, itms := l } j = if j = f.inn then heldS x j + -1 else heldS x j := by
  unfold heldS
  simp only
  rw [filter_del _ h]
  by_cases hj : j = f.inn
  · have := filter_pos (fun f : Fee => decide (f.inn = j)) h (by simpa using hj.symm)
    simp [hj] at this ⊢
    omega
  · have : ¬ f.inn = j := fun e => hj e.symm
    simp [hj, this]

/-! ### while the items are gone over -/

def feedNe (f : Int) (t : Itm) : Bool := decide (t.feed ≠ f)
structure UnfAt (w0 wr : World) (M : Ms) (x : St) (sl : Int → Sl) (fid : Int) (r clock : Nat) (R0 : List GE) (seen : List Nat) (R : List GE) (K : List Itm) : Prop where
  iter : IterG wr r M.it clock seen
  map : GMap wr M.it R clock
  ok : GOk Tryz.prog 3 R clock
  sub : R.Sublist R0
  kv : (R.map GE.kv).Perm (K.map fun t => (kI t.id, itmV (sl t.id) t))
  gu : MapIs Tryz.prog 124 wr M.gu (K.map fun t => (kP t.feed t.guid, kI t.id))
  ks : K.Sublist x.itms
  left : ∀ t ∈ x.itms, t.feed ≠ fid → t ∈ K
  done : ∀ e ∈ R, e.born ∈ seen → ∀ t ∈ x.itms, e.key = kI t.id → t.feed ≠ fid
  frm : Frm (fun k => k = M.it ∨ k = M.gu) w0 wr
  rsz : w0.heap.size ≤ r
section
variable {w0 wr w1 : World} {g : Nat} {M : Ms} {x : St} {sl : Int → Sl} {fid : Int} {r clock : Nat} {R0 : List GE} {seen : List Nat} {R : List GE} {K : List Itm}
theorem itm_uniq (hx : StP x) {a b : Itm} (ha : a ∈ x.itms) (hb : b ∈ x.itms) (h : a.id = b.id) : a = b := ids_inj hx.iR ha hb h
theorem UnfAt.over (h : UnfAt w0 wr M x sl fid r clock R0 seen R K) (hx : StP x) (hl : leftG seen R = []) : K = x.itms.filter fun t => decide (t.feed ≠ fid) := by
  have hall : ∀ t ∈ K, t.feed ≠ fid := by
    intro t ht
    obtain ⟨e, he, hek⟩ := List.mem_map.1 (h.kv.mem_iff.2 (List.mem_map.2 ⟨t, ht, rfl⟩))
    have hs : e.born ∈ seen := by
      have := List.filter_eq_nil_iff.1 hl e he
      simpa using this
    exact h.done e he hs t (h.ks.subset ht) (by unfold GE.kv at hek; injection hek)
  have h1 : K.filter (fun t => decide (t.feed ≠ fid)) = K := List.filter_eq_self.2 fun t ht => by simpa using hall t ht
  have h2 : K.Sublist (x.itms.filter fun t => decide (t.feed ≠ fid)) := by
    have := h.ks.filter (fun t : Itm => decide (t.feed ≠ fid))
    rwa [h1] at this
  have hnd : (x.itms.filter fun t => decide (t.feed ≠ fid)).Nodup := by
    have : x.itms.Nodup := hx.iR.imp fun {a b} hab e => by subst e; exact absurd hab (Int.lt_irrefl _)
    exact List.filter_sublist.nodup this
  have h3 : (x.itms.filter fun t => decide (t.feed ≠ fid)) ⊆ K := fun t ht => by
    obtain ⟨h4, h5⟩ := List.mem_filter.1 ht
    exact h.left t h4 (by simpa using h5)
  exact h2.eq_of_length_le (hnd.length_le_of_subset h3)
theorem UnfAt.item (h : UnfAt w0 wr M x sl fid r clock R0 seen R K) {e : GE} (he : e ∈ leftG seen R) : e ∈ R ∧ ∃ t ∈ K, e.key = kI t.id ∧ e.val = itmV (sl t.id) t := by
  have h1 := (List.mem_filter.1 he).1
  obtain ⟨t, ht, hk⟩ := List.mem_map.1 (h.kv.mem_iff.1 (List.mem_map.2 ⟨e, h1, rfl⟩))
  unfold GE.kv at hk
  injection hk with hk1 hk2
  exact ⟨h1, t, ht, hk1.symm, hk2.symm⟩
theorem UnfAt.skip (h : UnfAt w0 wr M x sl fid r clock R0 seen R K) (hx : StP x) {e : GE} {t : Itm} (ht : t ∈ K) (hk : e.key = kI t.id) (hne : t.feed ≠ fid) (hri : r ≠ M.it ∧ r ≠ M.gu) (hi : IterG w1 r M.it clock (seen ++ [e.born])) (hf : Frm (· = r) wr w1) (heR : e ∈ R) :
    UnfAt w0 w1 M x sl fid r clock R0 (seen ++ [e.born]) R K := by
  refine ⟨hi, h.map.frm hf hri.1.symm, h.ok, h.sub, h.kv, h.gu.frm hf hri.2.symm, h.ks, h.left, fun e' he' hs t' ht' hk' => ?_, h.frm.next hf (fun k hk => .inr (by have := h.rsz; omega)), h.rsz⟩
  rcases List.mem_append.1 hs with hs | hs
  · exact h.done e' he' hs t' ht' hk'
  · simp at hs
    have hee : e' = e := by
      have hb := h.ok.borns
      rw [List.nodup_iff_pairwise_ne, List.pairwise_map] at hb
      by_cases hc : e' = e
      · exact hc
      · exfalso
        obtain ⟨i, hi', rfl⟩ := List.mem_iff_getElem.1 he'
        obtain ⟨j, hj, rfl⟩ := List.mem_iff_getElem.1 heR
        have hij : i ≠ j := by rintro rfl; exact hc rfl
        rcases Nat.lt_or_gt_of_ne hij with hl | hl
        · exact List.pairwise_iff_getElem.1 hb i j hi' hj hl hs
        · exact List.pairwise_iff_getElem.1 hb j i hj hi' hl hs.symm
    subst hee
    rw [hk] at hk'
    have := itm_uniq hx (h.ks.subset ht) ht' (kI_inj.1 hk')
    exact this ▸ hne
theorem UnfAt.nix {w2 : World} (h : UnfAt w0 wr M x sl fid r clock R0 seen R K) (hf : Frm Nix wr w2) : UnfAt w0 w2 M x sl fid r clock R0 seen R K :=
  ⟨h.iter.frm hf id, h.map.frm hf id, h.ok, h.sub, h.kv, h.gu.frm hf id, h.ks, h.left, h.done, h.frm.trans hf.nix, h.rsz⟩
theorem UnfAt.guRun (h : UnfAt w0 wr M x sl fid r clock R0 seen R K) {W : World} (hf : Frm (· = r) wr W) (hri : r ≠ M.it ∧ r ≠ M.gu) {t : Itm} (ht : t ∈ K) :
    ∃ w2, (∀ ty, (Builtin.delete_ #[106, 124] ty #[.map (some M.gu), .agg #[.int .i64 t.feed, .string t.guid]]).run Tryz.prog W = .ok (.tuple #[]) w2) ∧ MapIs Tryz.prog 124 w2 M.gu ((K.erase t).map fun t => (kP t.feed t.guid, kI t.id)) ∧ Frm (· = M.gu) W w2 := by
  have hp := (List.perm_cons_erase ht).map fun t : Itm => (kP t.feed t.guid, kI t.id)
  exact (h.gu.frm hf hri.2.symm).delete_yes keyedG Tryz.underlying106 hp _
theorem UnfAt.itRun (h : UnfAt w0 wr M x sl fid r clock R0 seen R K) {W : World} (hW : GMap W M.it R clock) {e : GE} (heR : e ∈ R) :
    ∃ w3 R2, (∀ ty, (Builtin.delete_ #[102, 3] ty #[.map (some M.it), e.key]).run Tryz.prog W = .ok (.tuple #[]) w3) ∧ GMap w3 M.it R2 clock ∧ GOk Tryz.prog 3 R2 clock ∧ R.Perm (e :: R2) ∧ R2.Sublist R ∧ Frm (· = M.it) W w3 :=
  GMap.delete_e keyedI hW h.ok Tryz.underlying102 heR _
theorem UnfAt.del (h : UnfAt w0 wr M x sl fid r clock R0 seen R K) {e : GE} {t : Itm} (ht : t ∈ K) (hk : e.key = kI t.id) (hv : e.val = itmV (sl t.id) t) (hri : r ≠ M.it ∧ r ≠ M.gu) (hig : M.it ≠ M.gu) (heR : e ∈ R) (hfe : t.feed = fid)
    {w2 w3 : World} {R2 : List GE} (hi : IterG w1 r M.it clock (seen ++ [e.born])) (hf : Frm (· = r) wr w1) (hg : MapIs Tryz.prog 124 w2 M.gu ((K.erase t).map fun t => (kP t.feed t.guid, kI t.id))) (f2 : Frm (· = M.gu) w1 w2)
    (h3 : GMap w3 M.it R2 clock) (h3o : GOk Tryz.prog 3 R2 clock) (hp : R.Perm (e :: R2)) (hs : R2.Sublist R) (f3 : Frm (· = M.it) w2 w3) : UnfAt w0 w3 M x sl fid r clock R0 (seen ++ [e.born]) R2 (K.erase t) := by
  refine ⟨(hi.frm f2 hri.2).frm f3 hri.1, h3, h3o, hs.trans h.sub, ?_, hg.frm f3 (fun e => hig e.symm), List.erase_sublist.trans h.ks, fun t' ht' hne => ?_, fun e' he' hsn t' ht' hk' => ?_, ((h.frm.next hf (fun k hk => .inr (by have := h.rsz; omega))).trans (f2.mono fun k hk => .inr hk)).trans (f3.mono fun k hk => .inl hk), h.rsz⟩
  · have p1 := (hp.map GE.kv).symm.trans (h.kv.trans ((List.perm_cons_erase ht).map fun t : Itm => (kI t.id, itmV (sl t.id) t)))
    rw [List.map_cons, List.map_cons] at p1
    have : e.kv = (kI t.id, itmV (sl t.id) t) := by unfold GE.kv; rw [hk, hv]
    rw [this] at p1
    exact List.Perm.cons_inv p1
  · have hne' : t' ≠ t := by rintro rfl; exact hne hfe
    exact (List.mem_erase_of_ne hne').2 (h.left t' ht' hne)
  · rcases List.mem_append.1 hsn with hsn | hsn
    · exact h.done e' (hs.subset he') hsn t' ht' hk'
    · simp at hsn
      have hb := h.ok.borns
      rw [(hp.map (·.born)).nodup_iff, List.map_cons, List.nodup_cons] at hb
      exact absurd (List.mem_map.2 ⟨e', he', hsn⟩) hb.1
end

/-- the state behind a feed that went. -/
theorem unfeed_mem {w0 wr w1 w2 w3 : World} {g : Nat} {M : Ms} {x : St} {f : Fee} {sl : Int → Sl} {r clock : Nat} {R0 : List GE} {seen : List Nat} {R : List GE} {K : List Itm} (h0 : StAt w0 g M x) (htg : ∀ t ∈ x.itms, TagsIn w0 (sl t.id) t.tags) (hu : UnfAt w0 wr M x sl f.id r clock R0 seen R K) (hl : leftG seen R = []) (hf : atI Fee.id f.id x.fees = some f)
    (m1 : MapIs Tryz.prog 9 w1 M.pl ((delI Fee.id f.id x.fees).map fun f => (.string f.url, kI f.id))) (f1 : Frm (· = M.pl) wr w1)
    (m2 : MapIs Tryz.prog 3 w2 M.fe ((delI Fee.id f.id x.fees).map fun f => (kI f.id, feeV f))) (f2 : Frm (· = M.fe) w1 w2)
    (hh : HeldIs w3 M.he (fun i => if i = f.inn then heldS x i + -1 else heldS x i)) (f3 : Frm (· = M.he) w2 w3)
    (hok : StP { x with fees := delI Fee.id f.id x.fees, itms := x.itms.filter fun t => decide (t.feed ≠ f.id) }) :
    StAt w3 g M { x with fees := delI Fee.id f.id x.fees, itms := x.itms.filter fun t => decide (t.feed ≠ f.id) } ∧ Frm (SF g M) w0 w3 := by
  have hK := hu.over h0.ok hl
  subst hK
  obtain ⟨⟨g1, g2, g3, g4, g5, g6, g7, g8⟩, ⟨o1, o2, o3, o4, o5, o6, o7⟩, ⟨e1, e2, e3, e4, e5, e6⟩, ⟨i1, i2, i3, i4, i5⟩, ⟨s1, s2, s3, s4⟩, ⟨a1, a2, a3⟩, ⟨p1, p2⟩, u1⟩ := h0.apart.ne
  have f23 : Frm (fun k => k = M.fe ∨ k = M.he) w1 w3 := (f2.mono fun k hk => .inl hk).trans (f3.mono fun k hk => .inr hk)
  have fr3 : Frm (fun k => k = M.pl ∨ k = M.fe ∨ k = M.he) wr w3 := (f1.mono fun k hk => .inl hk).trans (f23.mono fun k hk => .inr hk)
  have f03 : Frm (fun k => (k = M.it ∨ k = M.gu) ∨ k = M.pl ∨ k = M.fe ∨ k = M.he) w0 w3 := (hu.frm.mono fun k hk => .inl hk).trans (fr3.mono fun k hk => .inr hk)
  have fS : Frm (SF g M) w0 w3 := f03.mono fun k hk => by
    unfold SF
    rcases hk with (h | h) | h | h | h <;> simp [h]
  refine ⟨⟨h0.blk.frm f03 (by simp [g3, g7, g6, g2, g8]), ⟨?_, ?_, ⟨sl, ?_, fun y hy => (htg y (List.mem_filter.1 hy).1).frm fS h0.str⟩, ?_, ?_, ?_, ?_, ?_⟩, h0.apart, hok⟩, fS⟩
  · exact h0.maps.fo.frm f03 (by simp [o2, o6, o5, o1, o7])
  · exact m2.frm f3 e6
  · exact MapIs.frm ⟨R, clock, hu.map, hu.ok, hu.kv⟩ fr3 (by simp [i3, e1.symm, i5])
  · exact h0.maps.se.frm f03 (by simp [i1.symm, s3, s2, e2.symm, s4])
  · exact h0.maps.na.frm f03 (by simp [i2.symm, a2, a1, e3.symm, a3])
  · exact m1.frm f23 (by simp [e4.symm, p2])
  · exact hu.gu.frm fr3 (by simp [p1.symm, e5.symm, u1])
  · exact hh.congr fun i => (held_delFee x _ hf i).symm

theorem fee_size {x : St} (h : StP x) {f : Fee} (hf : f ∈ x.fees) : f.url.size ≤ maxLen ∧ I64 f.inn ∧ I64 f.id := by
  have h1 := (h.eE f hf).1
  rw [ev3] at h1
  simp only [Bool.and_eq_true] at h1
  have h2 := place_size h1.1.2
  have := maxLen_le
  have h3 := h1.1.1.2
  have h4 := h.eId hf
  unfold I64
  simp [folderOk, idOk] at h3
  omega

set_option maxRecDepth 100000 in
set_option maxHeartbeats 4000000 in
theorem unfeed_any {w : World} {g : Nat} {M : Ms} {x : St} (h : StAt w g M x) {f : Fee} (hf : atI Fee.id f.id x.fees = some f) (hok : StP { x with fees := delI Fee.id f.id x.fees, itms := x.itms.filter fun t => decide (t.feed ≠ f.id) }) :
    Calls Tryz.prog 80 #[.pointer (some ⟨g, 0, none⟩), feeV f] w fun r w' => r = .returned (.tuple #[]) ∧ StAt w' g M { x with fees := delI Fee.id f.id x.fees, itms := x.itms.filter fun t => decide (t.feed ≠ f.id) } ∧ Frm (SF g M) w w' := by
  obtain ⟨hsz, hinn, hid⟩ := fee_size h.ok (atI_mem hf).1
  obtain ⟨⟨g1, g2, g3, g4, g5, g6, g7, g8⟩, ⟨o1, o2, o3, o4, o5, o6, o7⟩, ⟨e1, e2, e3, e4, e5, e6⟩, ⟨i1, i2, i3, i4, i5⟩, ⟨s1, s2, s3, s4⟩, ⟨a1, a2, a3⟩, ⟨p1, p2⟩, u1⟩ := h.apart.ne
  obtain ⟨w0, hw0⟩ : ∃ w0, w0 = w.alloc (.cells #[.int .i64 f.id, .int .i64 f.inn, .string f.url, .string f.title] 60) := ⟨_, rfl⟩
  have f0 : Frm Nix w w0 := by rw [hw0]; exact (Frm.refl Nix w).alloc _
  have hbf : Blk w0 w.heap.size 60 #[.int .i64 f.id, .int .i64 f.inn, .string f.url, .string f.title] := by rw [hw0]; exact Blk.new w _ _
  have h0 := h.nix f0
  have hsz0 : w0.heap.size = w.heap.size + 1 := by rw [hw0]; simp
  have hlt := h.lt
  obtain ⟨sl, ⟨R0, clock, hm0, hg0, hp0⟩, htg⟩ := h0.maps.it
  have hrg := hm0.range (P := Tryz.prog) Tryz.underlying102
  obtain ⟨c0, c1, c2, c3, c4, c5, c6, c7, c8, -⟩ := h0.cells
  have HS := Lib.hid h0
  have HB := Lib.hid hbf
  have HF := Lib.hid f0
  have HT := Lib.hid htg
  have HG := Lib.hid hg0
  have HI : Hid (UnfAt w0 (w0.alloc (.mapIter (some M.it) clock #[] clock)) M x sl f.id (w.heap.size + 1) clock R0 [] R0 x.itms) := by
    refine ⟨?_, hm0.frm ((Frm.refl Nix w0).alloc _) id, hg0, List.Sublist.refl _, hp0, h0.maps.gu.frm ((Frm.refl Nix w0).alloc _) id, List.Sublist.refl _, fun t ht _ => ht, fun e _ he => (by cases he), (Frm.refl _ w0).alloc _, by omega⟩
    have := heap_alloc_new w0 (.mapIter (some M.it) clock #[] clock)
    rw [hsz0] at this
    exact this
  have HW := Lib.hid hw0
  have hri : w.heap.size + 1 ≠ M.it ∧ w.heap.size + 1 ≠ M.gu := ⟨fun e => by have := hlt M.it (by simp [SF]); omega, fun e => by have := hlt M.gu (by simp [SF]); omega⟩
  have hbne : ∀ k, SF g M k → w.heap.size ≠ k := fun k hk e => by have := hlt k hk; omega
  rw [hsz0] at hrg
  rw [hw0] at c3 hrg
  have HZ := Lib.hid hsz0
  clear h f0 hbf h0 hm0 hp0 htg hw0 hlt c0 c1 c2 c4 c5 c6 c7 c8 hsz0
  unfold feeV
  go_enter Tryz.func80, Tryz.ntmps80
  go_wp2
  rw [← HW.out]
  clear c3 hrg
  go_loopw [4, 5] (fun _ _ wr => ∃ (seen : List Nat) (R : List GE) (K : List Itm), UnfAt w0 wr M x sl f.id (w.heap.size + 1) clock R0 seen R K) (fun _ _ wr => leftGN wr (w.heap.size + 1) R0)
  case atStart =>
    exact ⟨[], R0, x.itms, HI.out⟩
  case round =>
    obtain ⟨seen, R, K, hu⟩ := hrel
    by_cases hl : leftG seen R = []
    · have hn := hu.map.next_over (P := Tryz.prog) hu.iter hu.ok.born hl
      have h0 := HS.out
      have hst := h0.blk.frm hu.frm (by simp; exact ⟨g3, g7⟩)
      have k6 := hst.cell 6
      simp at k6
      have hbx := HB.out.frm hu.frm (by have := hbne M.it (by simp [SF]); have := hbne M.gu (by simp [SF]); simp; omega)
      have d0 := hbx.cell 0
      have d1 := hbx.cell 1
      have d2 := hbx.cell 2
      simp at d0 d1 d2
      have hperm := delI_perm hf
      obtain ⟨wa, ra, ma, fa⟩ := ((h0.maps.pl.frm hu.frm (by simp [p1, i3.symm])).frm (Frm.refl Nix wr).drew id).delete_yes keyedS Tryz.underlying105 (hperm.map fun f : Fee => ((.string f.url : Value), kI f.id)) 9
      have fa' : Frm (· = M.pl) wr wa := ((Frm.refl (· = M.pl) wr).drew).trans fa
      have ba := hst.frm fa' g6
      have bxa := hbx.frm fa' (hbne _ (by simp [SF]))
      have l2 := ba.cell 2
      simp at l2
      have y0 := bxa.cell 0
      simp at y0
      have f0a : Frm (fun k => (k = M.it ∨ k = M.gu) ∨ k = M.pl) w0 wa := (hu.frm.mono fun k hk => .inl hk).trans (fa'.mono fun k hk => .inr hk)
      obtain ⟨wc, rc, mc, fc⟩ := ((h0.maps.fe.frm f0a (by simp [e1, e4, e5])).frm (Frm.refl Nix wa).drew id).delete_yes keyedI Tryz.underlying101 (hperm.map fun f : Fee => (kI f.id, feeV f)) 3
      have fc' : Frm (· = M.fe) wa wc := ((Frm.refl (· = M.fe) wa).drew).trans fc
      have bc := ba.frm fc' g2
      have bxc := bxa.frm fc' (hbne _ (by simp [SF]))
      have z8 := bc.cell 8
      simp at z8
      have z1 := bxc.cell 1
      simp at z1
      have f0c : Frm (fun k => ((k = M.it ∨ k = M.gu) ∨ k = M.pl) ∨ k = M.fe) w0 wc := (f0a.mono fun k hk => .inl hk).trans (fc'.mono fun k hk => .inr hk)
      have hhe := h0.held.frm f0c (by simp [i5.symm, u1.symm, p2.symm, e6.symm])
      have hHL := heldS_le h0.ok f.inn
      have KH := Lib.hid (hold_any (n := -1) z8 hhe hinn (by omega) (by omega))
      have HFin : Hid (∀ w3, HeldIs w3 M.he (fun j => if j = f.inn then heldS x j + -1 else heldS x j) → Frm (· = M.he) wc w3 → StAt w3 g M { x with fees := delI Fee.id f.id x.fees, itms := x.itms.filter fun t => decide (t.feed ≠ f.id) } ∧ Frm (SF g M) w0 w3) :=
        fun w3 hh3 f3 => unfeed_mem h0 HT.out hu hl hf ma fa' mc fc' hh3 f3 hok
      have ra' : ∀ ty, (Builtin.delete_ #[105, 9] ty #[.map (some M.pl), .string f.url]).run Tryz.prog wr.drew = .ok (.tuple #[]) wa := ra
      have rc' : ∀ ty, (Builtin.delete_ #[101, 3] ty #[.map (some M.fe), .int .i64 f.id]).run Tryz.prog wa.drew = .ok (.tuple #[]) wc := rc
      clear hu h0 hst hbx hperm ra ma fa fa' ba bxa f0a rc mc fc fc' bc bxc f0c hhe hHL
      go_wp2
      go_still_tail 6, (by kernel_rfl)
      change wpList _ _ _ _ _ wr.drew
      go_wp2_with (refine wpList_delete_run ra' rfl _ _ rfl rfl rfl ?_)
      go_still_tail 6, (by kernel_rfl)
      change wpList _ _ _ _ _ wa.drew
      go_wp2_with (first
        | (refine wpList_delete_run rc' rfl _ _ rfl rfl rfl ?_)
        | (go_at_call 79; refine KH.out.mono ?_; rintro r w3 ⟨rfl, hh3, f3⟩))
      go_end0
      obtain ⟨k1, k2⟩ := HFin.out _ hh3 f3
      exact ⟨rfl, k1, (Frm.nix HF.out).trans k2⟩
    · obtain ⟨e, w1, he, hn, hi1, hf1⟩ := hu.map.next_some (P := Tryz.prog) hu.iter hu.ok.born hl
      obtain ⟨heR, t, ht, hk, hv⟩ := hu.item he
      have hm1 := hu.map.frm hf1 hri.1.symm
      have hen := hm1.entry (P := Tryz.prog) hi1 heR hu.ok.borns
      rw [hk, hv] at hn hen
      have HM : Hid (∀ W, IterG W (w.heap.size + 1) M.it clock (seen ++ [e.born]) → leftGN W (w.heap.size + 1) R0 < leftGN wr (w.heap.size + 1) R0) := by
        intro W hW
        have he0 : e ∈ leftG seen R0 := List.mem_filter.2 ⟨hu.sub.subset heR, (List.mem_filter.1 he).2⟩
        rw [hW.leftGN, hu.iter.leftGN, (leftG_step HG.out.borns he0).length_eq]
        simp
      unfold kI itmV slV at hn hen
      have HN := Lib.hid hu
      have HI1 := Lib.hid hi1
      have HF1 := Lib.hid hf1
      have hfw1 : Frm (fun k => k = M.it ∨ k = M.gu) w0 w1 := hu.frm.next hf1 (fun k hk => .inr (by have := hu.rsz; omega))
      have hbx := HB.out.frm hfw1 (by have := hbne M.it (by simp [SF]); have := hbne M.gu (by simp [SF]); simp; omega)
      have d0 := hbx.cell 0
      simp at d0
      have ld : w.heap.size < w1.heap.size := hbx.lt
      by_cases hfe : t.feed = f.id
      · have hst1 := HS.out.blk.frm hfw1 (by simp; exact ⟨g3, g7⟩)
        obtain ⟨wb, hwb⟩ : ∃ wb, wb = w1.alloc (.cells #[.int .i64 t.id, .int .i64 f.id, .int .i64 t.date, .string t.guid, .string t.title, .string t.link, .bool t.read, .bool t.star, .slice (sl t.id).1 t.tags.length (sl t.id).2] 63) := ⟨_, rfl⟩
        have hfb : Frm Nix w1 wb := by rw [hwb]; exact (Frm.refl Nix w1).alloc _
        have hbt : Blk wb w1.heap.size 63 #[.int .i64 t.id, .int .i64 f.id, .int .i64 t.date, .string t.guid, .string t.title, .string t.link, .bool t.read, .bool t.star, .slice (sl t.id).1 t.tags.length (sl t.id).2] := by rw [hwb]; exact Blk.new w1 _ _
        have q1 := hbt.cell 1
        have q3 := hbt.cell 3
        simp at q1 q3
        have hstb := hst1.frm hfb id
        have k7 := hstb.cell 7
        simp at k7
        obtain ⟨w2, r2, hg2, f2⟩ := hu.guRun (hf1.trans (hfb.drew.mono fun _ h => absurd h id)) hri ht
        have f2' : Frm (· = M.gu) w1 w2 := (Frm.nix hfb.drew).trans f2
        have k32 := (hst1.frm f2' g7).cell 3
        simp at k32
        have hmw2 : GMap w2 M.it R clock := hm1.frm f2' i4
        obtain ⟨w3, R2, r3, h3, h3o, hp3, hs3, f3⟩ := hu.itRun hmw2 heR
        rw [hk] at r3
        rw [hfe] at r2 hn hen
        unfold kI at r3
        have HU := Lib.hid (hu.del ht hk hv hri i4 heR hfe hi1 hf1 hg2 f2' h3 h3o hp3 hs3 f3)
        have HWB := Lib.hid hwb
        clear hu hi1 hf1 hm1 he hbx hfw1 hst1 hfb hbt hstb hg2 f2 f2' hmw2 h3 h3o hp3 hs3 f3 hwb hfe
        go_wp2
        rw [← HWB.out]
        go_still_tail 9, (by kernel_rfl)
        change wpList _ _ _ _ _ wb.drew
        go_wp2_with (first
          | (refine wpList_delete_run r2 rfl _ _ rfl rfl rfl ?_)
          | (refine wpList_delete_run r3 rfl _ _ rfl rfl rfl ?_))
        try go_wp2
        go_roundw
        case rel =>
          repeat apply Exists.intro
          exact ⟨⟨_, _, _, HU.out⟩, rfl⟩
        case measure => exact HM.out _ HU.out.iter
      · have HU := Lib.hid (hu.skip (w1 := w1) HS.out.ok ht hk hfe hri hi1 hf1 heR)
        clear hu hi1 hf1 hm1 he hbx hfw1
        go_wp2
        go_roundw
        case rel => exact ⟨_, _, _, HU.out.nix ((Frm.refl Nix w1).alloc _)⟩
        case measure => exact HM.out _ (HU.out.nix ((Frm.refl Nix w1).alloc _)).iter
end Go.Proofs.YtjbifjgeheigoaaGreat
