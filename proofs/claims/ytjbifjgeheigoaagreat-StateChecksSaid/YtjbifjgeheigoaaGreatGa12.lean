/-
  Plain: what an event that fits makes of a state that may be, may be: kind by kind. No program in sight.
-/
import Derived.Test.YtjbifjgeheigoaaGreatGa11
section
namespace Go.Proofs.YtjbifjgeheigoaaGreat

section
variable {x : St} {e : Ev}
theorem fits1 (hk : e.kind = 1) (ho : evOk e = true) : fits x e = true ↔ (∀ f ∈ x.fols, f.id ≠ e.a) ∧ x.fols.length < 64 ∧ inS x e.b = true ∧ deepS x e.b < 7 ∧ ∀ f ∈ x.fols, ¬ (f.inn = e.b ∧ f.name = e.s) := by
  unfold fits
  rw [if_neg (by simp [ho]), if_pos hk]
  simp only [Bool.and_eq_true, Bool.not_eq_true', isI_false, decide_eq_true_eq, and_assoc, namedS, List.any_eq_false]
theorem fits2 (hk : e.kind = 2) (ho : evOk e = true) : fits x e = true ↔ (∃ f ∈ x.fols, f.id = e.a) ∧ (∀ f ∈ x.fols, f.inn ≠ e.a) ∧ ∀ f ∈ x.fees, f.inn ≠ e.a := by
  unfold fits
  rw [if_neg (by simp [ho]), if_neg (by omega), if_pos hk]
  simp [isI_iff, emptyS]
theorem fits3 (hk : e.kind = 3) (ho : evOk e = true) : fits x e = true ↔ (∀ f ∈ x.fees, f.id ≠ e.a) ∧ x.fees.length < 64 ∧ inS x e.b = true ∧ placeS x e.s = 0 := by
  unfold fits
  rw [if_neg (by simp [ho]), if_neg (by omega), if_neg (by omega), if_pos hk]
  simp only [Bool.and_eq_true, Bool.not_eq_true', isI_false, decide_eq_true_eq, and_assoc]
theorem fits45 (hk : e.kind = 4 ∨ e.kind = 5) (ho : evOk e = true) : fits x e = true ↔ ∃ f ∈ x.fees, f.id = e.a := by
  unfold fits
  rw [if_neg (by simp [ho]), if_neg (by omega), if_neg (by omega), if_neg (by omega), if_pos hk, isI_iff]
theorem fits6 (hk : e.kind = 6) (ho : evOk e = true) : fits x e = true ↔ (∃ f ∈ x.fees, f.id = e.a) ∧ inS x e.b = true := by
  unfold fits
  rw [if_neg (by simp [ho]), if_neg (by omega), if_neg (by omega), if_neg (by omega), if_neg (by omega), if_pos hk, Bool.and_eq_true, isI_iff]
theorem fits7 (hk : e.kind = 7) (ho : evOk e = true) : fits x e = true ↔ (∀ t ∈ x.itms, t.id ≠ e.a) ∧ x.itms.length < 1024 ∧ (∃ f ∈ x.fees, f.id = e.b) ∧ guidS x e.b e.s = 0 := by
  unfold fits
  rw [if_neg (by simp [ho]), if_neg (by omega), if_neg (by omega), if_neg (by omega), if_neg (by omega), if_neg (by omega), if_pos hk]
  simp only [Bool.and_eq_true, Bool.not_eq_true', isI_false, isI_iff, decide_eq_true_eq, and_assoc]
theorem fits89 (hk : e.kind = 8 ∨ e.kind = 9) (ho : evOk e = true) : fits x e = true ↔ ∃ t ∈ x.itms, t.id = e.a := by
  unfold fits
  rw [if_neg (by simp [ho]), if_neg (by omega), if_neg (by omega), if_neg (by omega), if_neg (by omega), if_neg (by omega), if_neg (by omega), if_pos hk, isI_iff]
theorem fits10 (hk : e.kind = 10) (ho : evOk e = true) : fits x e = true ↔ ∃ t, atI Itm.id e.a x.itms = some t ∧ (e.n = 0 ∨ e.s ∈ t.tags ∨ t.tags.length < 8) := by
  unfold fits
  rw [if_neg (by simp [ho]), if_neg (by omega), if_neg (by omega), if_neg (by omega), if_neg (by omega), if_neg (by omega), if_neg (by omega), if_neg (by omega), if_pos hk]
  cases atI Itm.id e.a x.itms with
  | none => simp
  | some t => simp [or_assoc]
theorem fits11 (hk : e.kind = 11) (ho : evOk e = true) : fits x e = true ↔ (∀ t ∈ x.seas, t.id ≠ e.a) ∧ x.seas.length < 32 := by
  unfold fits
  rw [if_neg (by simp [ho]), if_neg (by omega), if_neg (by omega), if_neg (by omega), if_neg (by omega), if_neg (by omega), if_neg (by omega), if_neg (by omega), if_neg (by omega), if_pos hk]
  simp only [Bool.and_eq_true, Bool.not_eq_true', isI_false, decide_eq_true_eq]
theorem fits12 (hk : e.kind = 12) (ho : evOk e = true) : fits x e = true ↔ ∃ t ∈ x.seas, t.id = e.a := by
  unfold fits
  rw [if_neg (by simp [ho]), if_neg (by omega), if_neg (by omega), if_neg (by omega), if_neg (by omega), if_neg (by omega), if_neg (by omega), if_neg (by omega), if_neg (by omega), if_neg (by omega), if_pos hk, isI_iff]
theorem fits13 (hk : e.kind = 13) (ho : evOk e = true) : fits x e = true ↔ x.clock ≤ e.n := by
  unfold fits
  rw [if_neg (by simp [ho]), if_neg (by omega), if_neg (by omega), if_neg (by omega), if_neg (by omega), if_neg (by omega), if_neg (by omega), if_neg (by omega), if_neg (by omega), if_neg (by omega), if_neg (by omega), decide_eq_true_eq]

theorem do1 (hk : e.kind = 1) : doS x e = { x with fols := insI Fol.id ⟨e.a, e.b, e.s⟩ x.fols, tFol := max x.tFol e.a } := by simp [doS, madeS, hk]
theorem do2 (hk : e.kind = 2) : doS x e = { x with fols := delI Fol.id e.a x.fols } := by simp [doS, hk]
theorem do3 (hk : e.kind = 3) : doS x e = { x with fees := insI Fee.id ⟨e.a, e.b, e.s, e.t⟩ x.fees, tFee := max x.tFee e.a } := by simp [doS, madeS, hk]
theorem do4 (hk : e.kind = 4) : doS x e = { x with fees := delI Fee.id e.a x.fees, itms := x.itms.filter fun t => t.feed ≠ e.a } := by simp [doS, hk]
theorem do5 (hk : e.kind = 5) : doS x e = { x with fees := updI Fee.id e.a (fun f => { f with title := e.t }) x.fees } := by simp [doS, hk]
theorem do6 (hk : e.kind = 6) : doS x e = { x with fees := updI Fee.id e.a (fun f => { f with inn := e.b }) x.fees } := by simp [doS, hk]
theorem do7 (hk : e.kind = 7) : doS x e = { x with itms := insI Itm.id ⟨e.a, e.b, e.n, e.s, e.t, e.u, false, false, []⟩ x.itms, tItm := max x.tItm e.a } := by simp [doS, madeS, hk]
theorem do8 (hk : e.kind = 8) : doS x e = { x with itms := updI Itm.id e.a (fun t => { t with read := decide (e.n = 1) }) x.itms } := by simp [doS, hk]
theorem do9 (hk : e.kind = 9) : doS x e = { x with itms := updI Itm.id e.a (fun t => { t with star := decide (e.n = 1) }) x.itms } := by simp [doS, hk]
theorem do10 (hk : e.kind = 10) : doS x e = { x with itms := updI Itm.id e.a (fun t => { t with tags := tagsS t.tags e.s (decide (e.n = 1)) }) x.itms } := by simp [doS, hk]
theorem do11 (hk : e.kind = 11) : doS x e = { x with seas := insI Sea.id ⟨e.a, e.s, e.t⟩ x.seas, tSea := max x.tSea e.a } := by simp [doS, madeS, hk]
theorem do12 (hk : e.kind = 12) : doS x e = { x with seas := delI Sea.id e.a x.seas } := by simp [doS, hk]
theorem do13 (hk : e.kind = 13) : doS x e = { x with clock := e.n } := by simp [doS, hk]

theorem place_iff (h : StP x) (s : ByteArray) : placeS x s = 0 ↔ ∀ f ∈ x.fees, f.url ≠ s := by
  unfold placeS
  cases hf : x.fees.find? fun f => decide (f.url = s) with
  | none =>
    refine ⟨fun _ f hm => ?_, fun _ => rfl⟩
    have := List.find?_eq_none.1 hf f hm
    simpa using this
  | some f =>
    have hm := List.mem_of_find?_eq_some hf
    have hp := List.find?_some hf
    have := h.eId hm
    simp at hp
    refine ⟨fun h0 => ?_, fun hn => absurd hp (hn f hm)⟩
    simp only at h0
    omega
theorem guid_iff (h : StP x) (b : Int) (s : ByteArray) : guidS x b s = 0 ↔ ∀ t ∈ x.itms, ¬ (t.feed = b ∧ t.guid = s) := by
  unfold guidS
  cases hf : x.itms.find? fun t => decide (t.feed = b ∧ t.guid = s) with
  | none =>
    refine ⟨fun _ f hm => ?_, fun _ => rfl⟩
    have := List.find?_eq_none.1 hf f hm
    simpa using this
  | some t =>
    have hm := List.mem_of_find?_eq_some hf
    have hp := List.find?_some hf
    have := (h.iId hm).1
    simp only [decide_eq_true_eq] at hp
    refine ⟨fun h0 => ?_, fun hn => absurd hp (hn t hm)⟩
    simp only at h0
    omega

theorem ok1 (h : StP x) (hk : e.kind = 1) (hf : fits x e = true) : StP (doS x e) := by
  have ho := fits_ev hf
  obtain ⟨f1, f2, f3, f4, f5⟩ := (fits1 hk ho).1 hf
  have hE := ho
  rw [ev1_of ho hk] at hE
  have hid : 1 ≤ e.a ∧ e.a ≤ 1048576 := by
    rw [ev1] at hE
    simp only [Bool.and_eq_true] at hE
    exact idOk_iff.1 hE.1.1
  rw [do1 hk]
  have hs := insI_sorted (x := (⟨e.a, e.b, e.s⟩ : Fol)) h.fR f1
  have hkeep : ∀ i f, atI Fol.id i x.fols = some f → atI Fol.id i (insI Fol.id ⟨e.a, e.b, e.s⟩ x.fols) = some f := fun i f hi => atI_ins h.fR f1 hi
  exact { h with
    fE := fun f hm => by
      rcases mem_insI.1 hm with rfl | hm
      · exact ⟨hE, Int.le_max_right _ _⟩
      · exact ⟨(h.fE f hm).1, Int.le_trans (h.fE f hm).2 (Int.le_max_left _ _)⟩
    fD := fun f hm => by
      rcases mem_insI.1 hm with rfl | hm
      · obtain ⟨j, hj, hc, hd⟩ := h.deep e.b f3
        exact ⟨j + 1, by omega, by show e.a ≠ 0; omega, ⟨e.a, e.b, e.s⟩, atI_some hs (mem_insI.2 (.inl rfl)) rfl, chain_keep hkeep j e.b hc⟩
      · obtain ⟨j, hj, hc⟩ := h.fD f hm
        exact ⟨j, hj, chain_keep hkeep j f.id hc⟩
    fR := hs
    fN := pw_perm (fun a b hab hba => hab ⟨hba.1.symm, hba.2.symm⟩) (insI_perm Fol.id ⟨e.a, e.b, e.s⟩ x.fols).symm (List.pairwise_cons.2 ⟨fun f hm hn => f5 f hm ⟨hn.1.symm, hn.2.symm⟩, h.fN⟩)
    fL := by show (insI Fol.id _ x.fols).length ≤ 64; rw [insI_len]; omega
    fT := ⟨Int.le_trans h.fT.1 (Int.le_max_left _ _), Int.max_le.2 ⟨h.fT.2, hid.2⟩⟩
    eE := fun f hm => ⟨(h.eE f hm).1, (h.eE f hm).2.1, by
      rcases inS_iff.1 (h.eE f hm).2.2 with h0 | ⟨g, hg, he⟩
      · exact inS_iff.2 (.inl h0)
      · exact inS_iff.2 (.inr ⟨g, mem_insI.2 (.inr hg), he⟩)⟩ }

theorem ok2 (h : StP x) (hk : e.kind = 2) (hf : fits x e = true) : StP (doS x e) := by
  have ho := fits_ev hf
  obtain ⟨⟨f0, hf0, he0⟩, f2, f3⟩ := (fits2 hk ho).1 hf
  rw [do2 hk, delI_filter h.fR]
  have ha : e.a ≠ 0 := by have := h.fId hf0; omega
  have hkeep : ∀ i f, i ≠ e.a → atI Fol.id i x.fols = some f → atI Fol.id i (x.fols.filter fun y => y.id ≠ e.a) = some f := fun i f hi hq => atI_filter h.fR hq (by have := (atI_mem hq).2; simp; omega)
  exact { h with
    fE := fun f hm => h.fE f (List.mem_filter.1 hm).1
    fD := fun f hm => by
      obtain ⟨hm1, hm2⟩ := List.mem_filter.1 hm
      obtain ⟨j, hj, hc⟩ := h.fD f hm1
      exact ⟨j, hj, chain_del ha f2 hkeep j f.id (by simpa using hm2) hc⟩
    fR := sorted_filter _ h.fR
    fN := h.fN.sublist List.filter_sublist
    fL := Nat.le_trans (List.length_filter_le ..) h.fL
    eE := fun f hm => ⟨(h.eE f hm).1, (h.eE f hm).2.1, by
      rcases inS_iff.1 (h.eE f hm).2.2 with h0 | ⟨g, hg, he⟩
      · exact inS_iff.2 (.inl h0)
      · exact inS_iff.2 (.inr ⟨g, List.mem_filter.2 ⟨hg, by have := f3 f hm; simp; omega⟩, he⟩)⟩ }

theorem ok3 (h : StP x) (hk : e.kind = 3) (hf : fits x e = true) : StP (doS x e) := by
  have ho := fits_ev hf
  obtain ⟨f1, f2, f3, f4⟩ := (fits3 hk ho).1 hf
  have f4 := (place_iff h e.s).1 f4
  have hE := ho
  rw [ev3_of ho hk] at hE
  have hid : 1 ≤ e.a ∧ e.a ≤ 1048576 := by
    rw [ev3] at hE
    simp only [Bool.and_eq_true] at hE
    exact idOk_iff.1 hE.1.1.1
  rw [do3 hk]
  exact { h with
    eE := fun f hm => by
      rcases mem_insI.1 hm with rfl | hm
      · exact ⟨hE, Int.le_max_right _ _, f3⟩
      · exact ⟨(h.eE f hm).1, Int.le_trans (h.eE f hm).2.1 (Int.le_max_left _ _), (h.eE f hm).2.2⟩
    eR := insI_sorted h.eR f1
    eN := pw_perm (fun a b hab hba => hab hba.symm) (insI_perm Fee.id ⟨e.a, e.b, e.s, e.t⟩ x.fees).symm (List.pairwise_cons.2 ⟨fun f hm hn => f4 f hm hn.symm, h.eN⟩)
    eL := by show (insI Fee.id _ x.fees).length ≤ 64; rw [insI_len]; omega
    eT := ⟨Int.le_trans h.eT.1 (Int.le_max_left _ _), Int.max_le.2 ⟨h.eT.2, hid.2⟩⟩
    iE := fun t hm => ⟨(h.iE t hm).1, (h.iE t hm).2.1, by
      obtain ⟨g, hg, he⟩ := isI_iff.1 (h.iE t hm).2.2.1
      exact isI_iff.2 ⟨g, mem_insI.2 (.inr hg), he⟩, (h.iE t hm).2.2.2⟩
    iF := by
      rcases h.iF with h0 | h0
      · exact .inl h0
      · exact .inr (Int.lt_of_lt_of_le h0 (Int.le_max_left _ _)) }

theorem ok4 (h : StP x) (hk : e.kind = 4) : StP (doS x e) := by
  rw [do4 hk, delI_filter h.eR]
  exact { h with
    eE := fun f hm => h.eE f (List.mem_filter.1 hm).1
    eR := sorted_filter _ h.eR
    eN := h.eN.sublist List.filter_sublist
    eL := Nat.le_trans (List.length_filter_le ..) h.eL
    iE := fun t hm => by
      obtain ⟨h1, h2⟩ := List.mem_filter.1 hm
      obtain ⟨g, hg, he⟩ := isI_iff.1 (h.iE t h1).2.2.1
      exact ⟨(h.iE t h1).1, (h.iE t h1).2.1, isI_iff.2 ⟨g, List.mem_filter.2 ⟨hg, by simp at h2; simp; omega⟩, he⟩, (h.iE t h1).2.2.2⟩
    iR := sorted_filter _ h.iR
    iN := h.iN.sublist List.filter_sublist
    iL := Nat.le_trans (List.length_filter_le ..) h.iL }

theorem ok_fee (h : StP x) (f : Fee → Fee) (hid : ∀ a, (f a).id = a.id) (hurl : ∀ a, (f a).url = a.url) (hE : ∀ a ∈ x.fees, evOk ⟨3, (f a).id, (f a).inn, 0, (f a).url, (f a).title, eS⟩ = true ∧ inS x (f a).inn = true) (id : Int) :
    StP { x with fees := updI Fee.id id f x.fees } := by
  rw [updI_map f h.eR]
  exact { h with
    eE := fun g hm => by
      obtain ⟨a, ha, rfl⟩ := List.mem_map.1 hm
      split
      · exact ⟨(hE a ha).1, by rw [hid]; exact (h.eE a ha).2.1, (hE a ha).2⟩
      · exact h.eE a ha
    eR := map_sorted hid h.eR
    eN := by
      refine List.pairwise_map.2 (h.eN.imp ?_)
      intro a b hab
      have e : ∀ c : Fee, (if c.id = id then f c else c).url = c.url := fun c => by split <;> simp [hurl]
      rw [e, e]
      exact hab
    eL := by show (x.fees.map _).length ≤ 64; rw [List.length_map]; exact h.eL
    iE := fun t hm => ⟨(h.iE t hm).1, (h.iE t hm).2.1, by
      show isI Fee.id t.feed (x.fees.map _) = true
      rw [isI_map hid]
      exact (h.iE t hm).2.2.1, (h.iE t hm).2.2.2⟩ }
theorem ok5 (h : StP x) (hk : e.kind = 5) (hf : fits x e = true) : StP (doS x e) := by
  have ho := fits_ev hf
  have hr := evOk_right ho
  rw [do5 hk]
  refine ok_fee h (fun f => { f with title := e.t }) (fun _ => rfl) (fun _ => rfl) (fun a ha => ⟨?_, (h.eE a ha).2.2⟩) _
  have h1 := (h.eE a ha).1
  rw [ev3] at h1 ⊢
  simp only [Bool.and_eq_true] at h1 ⊢
  simp [evRight, hk] at hr
  exact ⟨h1.1, hr.2⟩
theorem ok6 (h : StP x) (hk : e.kind = 6) (hf : fits x e = true) : StP (doS x e) := by
  have ho := fits_ev hf
  have hr := evOk_right ho
  obtain ⟨-, hin⟩ := (fits6 hk ho).1 hf
  rw [do6 hk]
  refine ok_fee h (fun f => { f with inn := e.b }) (fun _ => rfl) (fun _ => rfl) (fun a ha => ⟨?_, hin⟩) _
  have h1 := (h.eE a ha).1
  rw [ev3] at h1 ⊢
  simp only [Bool.and_eq_true] at h1 ⊢
  simp [evRight, hk] at hr
  exact ⟨⟨⟨h1.1.1.1, hr.2⟩, h1.1.2⟩, h1.2⟩

theorem ok7 (h : StP x) (hk : e.kind = 7) (hf : fits x e = true) : StP (doS x e) := by
  have ho := fits_ev hf
  obtain ⟨f1, f2, ⟨g, hg, hge⟩, f4⟩ := (fits7 hk ho).1 hf
  have f4 := (guid_iff h e.b e.s).1 f4
  have hE := ho
  rw [ev7_of hk] at hE
  have hid : 1 ≤ e.a ∧ e.a ≤ 1048576 := by
    rw [ev7] at hE
    simp only [Bool.and_eq_true] at hE
    exact idOk_iff.1 hE.1.1.1.1.1
  rw [do7 hk]
  exact { h with
    iE := fun t hm => by
      rcases mem_insI.1 hm with rfl | hm
      · exact ⟨hE, Int.le_max_right _ _, isI_iff.2 ⟨g, hg, hge⟩, by simp, rfl⟩
      · exact ⟨(h.iE t hm).1, Int.le_trans (h.iE t hm).2.1 (Int.le_max_left _ _), (h.iE t hm).2.2⟩
    iR := insI_sorted h.iR f1
    iN := pw_perm (fun a b hab hba => hab ⟨hba.1.symm, hba.2.symm⟩) (insI_perm Itm.id _ x.itms).symm (List.pairwise_cons.2 ⟨fun f hm hn => f4 f hm ⟨hn.1.symm, hn.2.symm⟩, h.iN⟩)
    iL := by show (insI Itm.id _ x.itms).length ≤ 1024; rw [insI_len]; omega
    iT := ⟨Int.le_trans h.iT.1 (Int.le_max_left _ _), Int.max_le.2 ⟨h.iT.2, hid.2⟩⟩
    iF := .inr (by show 0 < x.tFee; have := (h.eE g hg).2.1; have := h.eId hg; omega) }

theorem ok_itm (h : StP x) (f : Itm → Itm) (hid : ∀ a, (f a).id = a.id) (hfe : ∀ a, (f a).feed = a.feed) (hg : ∀ a, (f a).guid = a.guid) (id : Int)
    (hE : ∀ a ∈ x.itms, a.id = id → evOk ⟨7, (f a).id, (f a).feed, (f a).date, (f a).guid, (f a).title, (f a).link⟩ = true ∧ (f a).tags.length ≤ 8 ∧ tagsRise (f a).tags = true) :
    StP { x with itms := updI Itm.id id f x.itms } := by
  rw [updI_map f h.iR]
  exact { h with
    iE := fun g hm => by
      obtain ⟨a, ha, rfl⟩ := List.mem_map.1 hm
      split
      · rename_i hai
        exact ⟨(hE a ha hai).1, by rw [hid]; exact (h.iE a ha).2.1, by rw [hfe]; exact (h.iE a ha).2.2.1, (hE a ha hai).2⟩
      · exact h.iE a ha
    iR := map_sorted hid h.iR
    iN := by
      refine List.pairwise_map.2 (h.iN.imp ?_)
      intro a b hab
      have e : ∀ c : Itm, (if c.id = id then f c else c).feed = c.feed := fun c => by split <;> simp [hfe]
      have e' : ∀ c : Itm, (if c.id = id then f c else c).guid = c.guid := fun c => by split <;> simp [hg]
      rw [e, e, e', e']
      exact hab
    iL := by show (x.itms.map _).length ≤ 1024; rw [List.length_map]; exact h.iL }
theorem ok8 (h : StP x) (hk : e.kind = 8) : StP (doS x e) := by
  rw [do8 hk]
  exact ok_itm h (fun t => { t with read := decide (e.n = 1) }) (fun _ => rfl) (fun _ => rfl) (fun _ => rfl) _ fun a ha _ => ⟨(h.iE a ha).1, (h.iE a ha).2.2.2⟩
theorem ok9 (h : StP x) (hk : e.kind = 9) : StP (doS x e) := by
  rw [do9 hk]
  exact ok_itm h (fun t => { t with star := decide (e.n = 1) }) (fun _ => rfl) (fun _ => rfl) (fun _ => rfl) _ fun a ha _ => ⟨(h.iE a ha).1, (h.iE a ha).2.2.2⟩
theorem flag_of (hk : e.kind = 10) (ho : evOk e = true) : (e.n = 0 ∨ e.n = 1) ∧ tagOk e.s = true := by
  have hr := evOk_right ho
  simp [evRight, hk, flagOk] at hr
  exact ⟨hr.1.2, hr.2⟩
theorem ok10 (h : StP x) (hk : e.kind = 10) (hf : fits x e = true) : StP (doS x e) := by
  have ho := fits_ev hf
  obtain ⟨t, ht, hc⟩ := (fits10 hk ho).1 hf
  obtain ⟨hn, hto⟩ := flag_of hk ho
  obtain ⟨hm, hid⟩ := atI_mem ht
  rw [do10 hk]
  refine ok_itm h (fun t => { t with tags := tagsS t.tags e.s (decide (e.n = 1)) }) (fun _ => rfl) (fun _ => rfl) (fun _ => rfl) _ fun a ha hai => ⟨(h.iE a ha).1, ?_, ?_⟩
  · obtain rfl := ids_inj h.iR ha hm (by omega)
    refine tagsS_len _ ((tagsRise_iff _).1 (h.iE a ha).2.2.2.2).2 (h.iE a ha).2.2.2.1 ?_
    rcases hc with hc | hc | hc
    · exact .inl (by simp [hc])
    · exact .inr (.inl hc)
    · exact .inr (.inr hc)
  · obtain ⟨t1, t2⟩ := (tagsRise_iff _).1 (h.iE a ha).2.2.2.2
    refine (tagsRise_iff _).2 ⟨fun y hy => ?_, tagsS_sorted _ t2⟩
    rcases tagsS_mem _ t2 hy with rfl | hy
    · exact hto
    · exact t1 y hy

theorem ok11 (h : StP x) (hk : e.kind = 11) (hf : fits x e = true) : StP (doS x e) := by
  have ho := fits_ev hf
  obtain ⟨f1, f2⟩ := (fits11 hk ho).1 hf
  have hE := ho
  rw [ev11_of ho hk] at hE
  have hid : 1 ≤ e.a ∧ e.a ≤ 1048576 := by
    rw [ev11] at hE
    simp only [Bool.and_eq_true] at hE
    exact idOk_iff.1 hE.1.1
  rw [do11 hk]
  exact { h with
    sE := fun f hm => by
      rcases mem_insI.1 hm with rfl | hm
      · exact ⟨hE, Int.le_max_right _ _⟩
      · exact ⟨(h.sE f hm).1, Int.le_trans (h.sE f hm).2 (Int.le_max_left _ _)⟩
    sR := insI_sorted h.sR f1
    sL := by show (insI Sea.id _ x.seas).length ≤ 32; rw [insI_len]; omega
    sT := ⟨Int.le_trans h.sT.1 (Int.le_max_left _ _), Int.max_le.2 ⟨h.sT.2, hid.2⟩⟩ }
theorem ok12 (h : StP x) (hk : e.kind = 12) : StP (doS x e) := by
  rw [do12 hk, delI_filter h.sR]
  exact { h with
    sE := fun f hm => h.sE f (List.mem_filter.1 hm).1
    sR := sorted_filter _ h.sR
    sL := Nat.le_trans (List.length_filter_le ..) h.sL }
theorem ok13 (h : StP x) (hk : e.kind = 13) (hf : fits x e = true) : StP (doS x e) := by
  have ho := fits_ev hf
  have hc := (fits13 hk ho).1 hf
  have hE := ho
  rw [ev13_of ho hk] at hE
  rw [do13 hk]
  exact { h with clk := ⟨Int.le_trans h.clk.1 hc, hE⟩ }

theorem doS_ok (h : StP x) (hf : fits x e = true) : StP (doS x e) := by
  rcases evKind (fits_ev hf) with k | k | k | k | k | k | k | k | k | k | k | k | k
  · exact ok1 h k hf
  · exact ok2 h k hf
  · exact ok3 h k hf
  · exact ok4 h k
  · exact ok5 h k hf
  · exact ok6 h k hf
  · exact ok7 h k hf
  · exact ok8 h k
  · exact ok9 h k
  · exact ok10 h k hf
  · exact ok11 h k hf
  · exact ok12 h k
  · exact ok13 h k hf
theorem applyS_ok (h : StP x) (e : Ev) : StP (applyS x e).1 := by
  unfold applyS
  split
  · rename_i hf
    exact doS_ok h hf
  · exact h
theorem foldE_ok (l : List Ev) : ∀ {x : St}, StP x → StP (foldE x l) := by
  induction l with
  | nil => exact fun h => h
  | cons e l ih => exact fun h => ih (applyS_ok h e)
end
end Go.Proofs.YtjbifjgeheigoaaGreat
end
section
namespace Go.Proofs.YtjbifjgeheigoaaGreat

def standB : ByteArray := ⟨#[120]⟩
def mkEv (kind a b n : Int) (s t u : ByteArray) : Ev := ⟨kind, a, b, n, s, t, u⟩
set_option linter.unusedSimpArgs false
def folEv (f : Fol) : Ev := ⟨1, f.id, f.inn, 0, f.name, eS, eS⟩
def feeEv (f : Fee) : Ev := ⟨3, f.id, f.inn, 0, f.url, f.title, eS⟩
def seaEv (s : Sea) : Ev := ⟨11, s.id, 0, 0, s.name, s.query, eS⟩
def itmEv (t : Itm) : Ev := ⟨7, t.id, t.feed, t.date, t.guid, t.title, t.link⟩
def itmEvs (t : Itm) : List Ev := itmEv t :: ((if t.read = true then [⟨8, t.id, 0, 1, eS, eS, eS⟩] else []) ++ (if t.star = true then [⟨9, t.id, 0, 1, eS, eS, eS⟩] else []) ++ t.tags.map fun g => ⟨10, t.id, 0, 1, g, eS, eS⟩)
/-- folders by how deep they are nested, from what stands above on. -/
def levelsG (l : List Fol) : Nat → List Int → List (List Fol)
  | 0, _ => []
  | k + 1, above => (l.filter fun f => above.contains f.inn) :: levelsG l k ((l.filter fun f => above.contains f.inn).map (·.id))
def levelsS (l : List Fol) : List (List Fol) := levelsG l 7 [0]
def topEvs (x : St) : List Ev :=
  (if 0 < x.tFol then [⟨1, x.tFol, 0, 0, standB, eS, eS⟩, ⟨2, x.tFol, 0, 0, eS, eS, eS⟩] else []) ++
  ((if 0 < x.tFee then ⟨3, x.tFee, 0, 0, standB, eS, eS⟩ :: ((if 0 < x.tItm then [⟨7, x.tItm, x.tFee, 0, standB, eS, eS⟩] else []) ++ [⟨4, x.tFee, 0, 0, eS, eS, eS⟩]) else []) ++
  (if 0 < x.tSea then [⟨11, x.tSea, 0, 0, standB, standB, eS⟩, ⟨12, x.tSea, 0, 0, eS, eS, eS⟩] else []))
def pastS (x : St) : List Ev :=
  topEvs x ++ ((levelsS x.fols).flatten.map folEv ++ (x.fees.map feeEv ++ (x.itms.flatMap itmEvs ++ (x.seas.map seaEv ++ if x.clock ≠ 0 then [⟨13, 0, 0, x.clock, eS, eS, eS⟩] else []))))

/-- events, of which each fits, lead from one state to another. -/
def Leads : St → List Ev → St → Prop
  | x, [], y => x = y
  | x, e :: l, y => fits x e = true ∧ Leads (doS x e) l y
theorem Leads.app : ∀ {l : List Ev} {x y z : St} {l' : List Ev}, Leads x l y → Leads y l' z → Leads x (l ++ l') z
  | [], _, _, _, _, h, h' => by obtain rfl := h; exact h'
  | _ :: _, _, _, _, _, h, h' => ⟨h.1, h.2.app h'⟩
theorem Leads.fold : ∀ {l : List Ev} {x y : St}, Leads x l y → foldE x l = y
  | [], _, _, h => h
  | e :: l, x, y, h => by
    have : (applyS x e).1 = doS x e := by simp [applyS, h.1]
    simp only [foldE, List.foldl_cons, this]
    exact h.2.fold
theorem Leads.ok : ∀ {l : List Ev} {x y : St}, StP x → Leads x l y → StP y
  | [], _, _, hx, h => by obtain rfl := h; exact hx
  | _ :: _, _, _, hx, h => Leads.ok (doS_ok hx h.1) h.2

/-! ### sorted lists are known by their members -/

section
variable {α : Type} {g : α → Int}
theorem sorted_eq : ∀ {l l' : List α}, (l.Pairwise fun a b => g a < g b) → (l'.Pairwise fun a b => g a < g b) → (∀ a, a ∈ l ↔ a ∈ l') → l = l'
  | [], [], _, _, _ => rfl
  | [], b :: r, _, _, h => absurd ((h b).2 (List.mem_cons_self ..)) (by simp)
  | a :: r, [], _, _, h => absurd ((h a).1 (List.mem_cons_self ..)) (by simp)
  | a :: r, b :: r', h, h', hm => by
    obtain ⟨h1, h2⟩ := List.pairwise_cons.1 h
    obtain ⟨h3, h4⟩ := List.pairwise_cons.1 h'
    have hab : a = b := by
      rcases List.mem_cons.1 ((hm a).1 (List.mem_cons_self ..)) with e | e
      · exact e
      · rcases List.mem_cons.1 ((hm b).2 (List.mem_cons_self ..)) with e' | e'
        · exact e'.symm
        · have := h3 a e
          have := h1 b e'
          omega
    subst hab
    congr 1
    refine sorted_eq h2 h4 fun z => ⟨fun hz => ?_, fun hz => ?_⟩
    · rcases List.mem_cons.1 ((hm z).1 (List.mem_cons_of_mem _ hz)) with e | e
      · subst e
        have := h1 z hz
        omega
      · exact e
    · rcases List.mem_cons.1 ((hm z).2 (List.mem_cons_of_mem _ hz)) with e | e
      · subst e
        have := h3 z hz
        omega
      · exact e
theorem sorted_nodup {l : List α} (h : l.Pairwise fun a b => g a < g b) : l.Nodup := h.imp fun {a b} hab e => by subst e; omega
theorem nodup_le : ∀ (l l' : List α), l.Nodup → (∀ a ∈ l, a ∈ l') → l.length ≤ l'.length
  | [], _, _, _ => Nat.zero_le _
  | a :: r, l', hn, hs => by
    obtain ⟨h1, h2⟩ := List.nodup_cons.1 hn
    obtain ⟨A, B, rfl⟩ := List.append_of_mem (hs a (List.mem_cons_self ..))
    have := nodup_le r (A ++ B) h2 fun z hz => by
      rcases List.mem_append.1 (hs z (List.mem_cons_of_mem _ hz)) with h | h
      · exact List.mem_append_left _ h
      · rcases List.mem_cons.1 h with rfl | h
        · exact absurd hz h1
        · exact List.mem_append_right _ h
    simp at this ⊢
    omega
/-- fewer: one of the greater list's is missing. -/
theorem sorted_lt {l l' : List α} (h : l.Pairwise fun a b => g a < g b) (hs : ∀ a ∈ l, a ∈ l') {b : α} (hb : b ∈ l') (hn : b ∉ l) : l.length < l'.length := by
  have hd : (b :: l).Nodup := List.nodup_cons.2 ⟨hn, sorted_nodup h⟩
  have := nodup_le (b :: l) l' hd (fun a ha => by
    rcases List.mem_cons.1 ha with rfl | ha
    · exact hb
    · exact hs a ha)
  simp at this
  omega
end

/-! ### the tops -/

theorem stand_label : labelOk standB = true := by decide +kernel
theorem stand_place : placeOk standB = true := by decide +kernel
theorem stand_query : queryOk standB = true := by decide +kernel
theorem none_title : titleOk eS = true := by decide +kernel
theorem none_link : linkOk eS = true := by decide +kernel
theorem idOk_of {n : Int} (h1 : 1 ≤ n) (h2 : n ≤ 1048576) : idOk n = true := idOk_iff.2 ⟨h1, h2⟩
theorem ev_id (k a : Int) (hk : k = 2 ∨ k = 4 ∨ k = 12) (ha : idOk a = true) : evOk ⟨k, a, 0, 0, eS, eS, eS⟩ = true := by
  rcases hk with rfl | rfl | rfl <;> simp [evOk, evRight, evUsed, ha]

theorem max_r {a : Int} (h : 0 ≤ a) : max 0 a = a := Int.max_eq_right h
theorem lead_top1 (a : Int) (h : 0 ≤ a ∧ a ≤ 1048576) : Leads st0 (if 0 < a then [⟨1, a, 0, 0, standB, eS, eS⟩, ⟨2, a, 0, 0, eS, eS, eS⟩] else []) { st0 with tFol := a } := by
  by_cases ha : 0 < a
  · rw [if_pos ha]
    have hid := idOk_of (n := a) (by omega) h.2
    have e1 : evOk ⟨1, a, 0, 0, standB, eS, eS⟩ = true := by rw [ev1]; simp [hid, folderOk, stand_label]
    have e2 := ev_id 2 a (by simp) hid
    refine ⟨?_, ?_, ?_⟩
    · rw [fits1 rfl e1]
      simp [st0, inS, deepS, isI]
    · rw [do1 rfl, fits2 rfl e2]
      simp [st0, insI]
      omega
    · rw [do2 rfl, do1 rfl]
      simp [st0, insI, delI, Leads, max_r (Int.le_of_lt ha)]
  · rw [if_neg ha]
    have : a = 0 := by omega
    subst this
    rfl
theorem lead_top2 (x : St) (hx : x.fees = [] ∧ x.itms = [] ∧ x.tFee = 0 ∧ x.tItm = 0) (a b : Int) (h : 0 ≤ a ∧ a ≤ 1048576) (h' : 0 ≤ b ∧ b ≤ 1048576) (hab : b = 0 ∨ 0 < a) :
    Leads x (if 0 < a then ⟨3, a, 0, 0, standB, eS, eS⟩ :: ((if 0 < b then [⟨7, b, a, 0, standB, eS, eS⟩] else []) ++ [⟨4, a, 0, 0, eS, eS, eS⟩]) else []) { x with tFee := a, tItm := b } := by
  obtain ⟨c, fols, fees, itms, seas, t1, t2, t3, t4⟩ := x
  simp only at hx
  obtain ⟨rfl, rfl, rfl, rfl⟩ := hx
  by_cases ha : 0 < a
  · rw [if_pos ha]
    have hid := idOk_of (n := a) (by omega) h.2
    have e1 : evOk ⟨3, a, 0, 0, standB, eS, eS⟩ = true := by rw [ev3]; simp [hid, folderOk, stand_place, none_title]
    have e2 := ev_id 4 a (by simp) hid
    have hmb : max 0 b = b := max_r h'.1
    by_cases hb : 0 < b
    · rw [if_pos hb]
      have hid' := idOk_of (n := b) (by omega) h'.2
      have e3 : evOk ⟨7, b, a, 0, standB, eS, eS⟩ = true := by rw [ev7]; simp [hid, hid', momentOk, stand_place, none_title, none_link]
      refine ⟨?_, ?_, ?_, ?_⟩
      · rw [fits3 rfl e1]
        simp [inS, placeS]
      · rw [do3 rfl, fits7 rfl e3]
        simp [insI, guidS]
      · rw [do7 rfl, do3 rfl, fits45 (.inl rfl) e2]
        simp [insI]
      · rw [do4 rfl, do7 rfl, do3 rfl]
        simp [insI, delI, Leads, max_r (Int.le_of_lt ha), hmb]
    · rw [if_neg hb]
      have : b = 0 := by omega
      subst this
      refine ⟨?_, ?_, ?_⟩
      · rw [fits3 rfl e1]
        simp [inS, placeS]
      · rw [do3 rfl, fits45 (.inl rfl) e2]
        simp [insI]
      · rw [do4 rfl, do3 rfl]
        simp [insI, delI, Leads, max_r (Int.le_of_lt ha), hmb]
  · rw [if_neg ha]
    have h1 : a = 0 := by omega
    have h2 : b = 0 := by omega
    subst h1 h2
    rfl
theorem lead_top3 (x : St) (hx : x.seas = [] ∧ x.tSea = 0) (a : Int) (h : 0 ≤ a ∧ a ≤ 1048576) : Leads x (if 0 < a then [⟨11, a, 0, 0, standB, standB, eS⟩, ⟨12, a, 0, 0, eS, eS, eS⟩] else []) { x with tSea := a } := by
  obtain ⟨c, fols, fees, itms, seas, t1, t2, t3, t4⟩ := x
  simp only at hx
  obtain ⟨rfl, rfl⟩ := hx
  by_cases ha : 0 < a
  · rw [if_pos ha]
    have hid := idOk_of (n := a) (by omega) h.2
    have e1 : evOk ⟨11, a, 0, 0, standB, standB, eS⟩ = true := by rw [ev11]; simp [hid, stand_label, stand_query]
    have e2 := ev_id 12 a (by simp) hid
    refine ⟨?_, ?_, ?_⟩
    · rw [fits11 rfl e1]
      simp
    · rw [do11 rfl, fits12 rfl e2]
      simp [insI]
    · rw [do12 rfl, do11 rfl]
      simp [insI, delI, Leads, max_r (Int.le_of_lt ha)]
  · rw [if_neg ha]
    have : a = 0 := by omega
    subst this
    rfl
theorem lead_tops (x : St) (h : StP x) : Leads st0 (topEvs x) ⟨0, [], [], [], [], x.tFol, x.tFee, x.tItm, x.tSea⟩ :=
  (lead_top1 x.tFol h.fT).app ((lead_top2 _ ⟨rfl, rfl, rfl, rfl⟩ x.tFee x.tItm h.eT h.iT h.iF).app (lead_top3 _ ⟨rfl, rfl⟩ x.tSea h.sT))

/-! ### the folders, level by level -/

theorem max_same {a b : Int} (h : b ≤ a) : max a b = a := Int.max_eq_left h

theorem lead_fols (x : St) (h : StP x) (rest : St) (hr : rest.tFol = x.tFol) : ∀ (todo : List Fol) (y : St), StP y → y.tFol = x.tFol → (∀ f ∈ y.fols, f ∈ x.fols) → (∀ f ∈ todo, f ∈ x.fols) →
    (∀ A f B, todo = A ++ f :: B → f ∉ y.fols ∧ f ∉ A ∧ (f.inn = 0 ∨ ∃ g, (g ∈ y.fols ∨ g ∈ A) ∧ g.id = f.inn)) →
    ∃ z, Leads y (todo.map folEv) z ∧ (∀ f, f ∈ z.fols ↔ f ∈ y.fols ∨ f ∈ todo) ∧ z = { y with fols := z.fols }
  | [], y, _, _, _, _, _ => ⟨y, rfl, by simp, rfl⟩
  | f :: r, y, hy, ht, hs, htd, hq => by
    have hfx := htd f (List.mem_cons_self ..)
    obtain ⟨q1, -, q3⟩ := hq [] f r rfl
    have hE := (h.fE f hfx).1
    have hin : inS y f.inn = true := by
      rcases q3 with q3 | ⟨g, hg, he⟩
      · exact inS_iff.2 (.inl q3)
      · rcases hg with hg | hg
        · exact inS_iff.2 (.inr ⟨g, hg, he⟩)
        · cases hg
    have hkeep : ∀ i f, atI Fol.id i y.fols = some f → atI Fol.id i x.fols = some f := fun i f' hi => atI_some h.fR (hs _ (atI_mem hi).1) (atI_mem hi).2
    have hfit : fits y (folEv f) = true := by
      refine (fits1 (x := y) (e := folEv f) rfl hE).2 ⟨fun g hg he => ?_, ?_, hin, ?_, fun g hg hn => ?_⟩
      · have := ids_inj h.fR (hs g hg) hfx he
        subst this
        exact q1 hg
      · have := sorted_lt hy.fR hs hfx q1
        have := h.fL
        omega
      · obtain ⟨j, hj, hc, hd⟩ := hy.deep f.inn hin
        obtain ⟨k, hk, hck⟩ := h.fD f hfx
        have hc' := chain_keep hkeep j f.inn hc
        have : chainF x.fols (j + 1) f.id := ⟨by have := (h.fId hfx).1; omega, f, atI_some h.fR hfx rfl, hc'⟩
        have := chain_uniq _ _ _ _ this hck
        show deepS y f.inn < 7
        omega
      · have hgx := hs g hg
        have hne : g ≠ f := fun e => by subst e; exact q1 hg
        have : ∀ (l : List Fol), l.Pairwise (fun a b => ¬ (a.inn = b.inn ∧ a.name = b.name)) → g ∈ l → f ∈ l → g ≠ f → ¬ (g.inn = f.inn ∧ g.name = f.name) := by
          intro l hl hgl hfl hne hn
          induction l with
          | nil => cases hgl
          | cons a l ih =>
            obtain ⟨l1, l2⟩ := List.pairwise_cons.1 hl
            rcases List.mem_cons.1 hgl with e1 | e1
            · rcases List.mem_cons.1 hfl with e2 | e2
              · exact hne (e1.trans e2.symm)
              · exact l1 f e2 (by rw [← e1]; exact hn)
            · rcases List.mem_cons.1 hfl with e2 | e2
              · exact l1 g e1 (by rw [← e2]; exact ⟨hn.1.symm, hn.2.symm⟩)
              · exact ih l2 e1 e2
        exact this x.fols h.fN hgx hfx hne hn
    have hdo : doS y (folEv f) = { y with fols := insI Fol.id f y.fols } := by
      rw [do1 (e := folEv f) rfl]
      show ({ y with fols := insI Fol.id f y.fols, tFol := max y.tFol f.id } : St) = _
      rw [max_same (by rw [ht]; exact (h.fE f hfx).2)]
    have hy' := doS_ok hy hfit
    rw [hdo] at hy'
    obtain ⟨z, hz1, hz2, hz3⟩ := lead_fols x h rest hr r { y with fols := insI Fol.id f y.fols } hy' ht (fun g hg => by
        rcases mem_insI.1 hg with rfl | hg
        · exact hfx
        · exact hs g hg) (fun g hg => htd g (List.mem_cons_of_mem _ hg)) (fun A g B e => by
        obtain ⟨p1, p2, p3⟩ := hq (f :: A) g B (by rw [e]; rfl)
        refine ⟨fun hg => ?_, fun hg => p2 (List.mem_cons_of_mem _ hg), ?_⟩
        · rcases mem_insI.1 hg with rfl | hg
          · exact p2 (List.mem_cons_self ..)
          · exact p1 hg
        · rcases p3 with p3 | ⟨k, hk, he⟩
          · exact .inl p3
          · refine .inr ⟨k, ?_, he⟩
            rcases hk with hk | hk
            · exact .inl (mem_insI.2 (.inr hk))
            · rcases List.mem_cons.1 hk with rfl | hk
              · exact .inl (mem_insI.2 (.inl rfl))
              · exact .inr hk)
    refine ⟨z, ⟨hfit, by rw [hdo]; exact hz1⟩, fun g => ?_, hz3⟩
    rw [hz2, mem_insI, List.mem_cons]
    constructor
    · rintro ((h | h) | h)
      · exact .inr (.inl h)
      · exact .inl h
      · exact .inr (.inr h)
    · rintro (h | h | h)
      · exact .inl (.inr h)
      · exact .inl (.inl h)
      · exact .inr h

/-- what is in the level k: the folders whose chain is that long. -/
theorem mem_levels (l : List Fol) (hR : l.Pairwise fun a b => a.id < b.id) (h0 : ∀ f ∈ l, f.id ≠ 0) : ∀ (k j : Nat) (above : List Int), (∀ i, i ∈ above ↔ chainF l j i) →
    ∀ f, f ∈ (levelsG l k above).flatten ↔ f ∈ l ∧ ∃ m, m < k ∧ chainF l (j + m + 1) f.id
  | 0, j, above, _, f => by simp [levelsG]
  | k + 1, j, above, ha, f => by
    have hlev : ∀ f, (f ∈ l.filter fun f => above.contains f.inn) ↔ f ∈ l ∧ chainF l (j + 1) f.id := by
      intro f
      rw [List.mem_filter]
      constructor
      · rintro ⟨h1, h2⟩
        exact ⟨h1, h0 f h1, f, atI_some hR h1 rfl, (ha _).1 (by simpa using h2)⟩
      · rintro ⟨h1, -, g, hg, hc⟩
        have := ids_inj hR (atI_mem hg).1 h1 (atI_mem hg).2
        subst this
        exact ⟨h1, by simpa using (ha _).2 hc⟩
    have hab : ∀ i, i ∈ (l.filter fun f => above.contains f.inn).map (·.id) ↔ chainF l (j + 1) i := by
      intro i
      rw [List.mem_map]
      constructor
      · rintro ⟨f, hf, rfl⟩
        exact ((hlev f).1 hf).2
      · intro hc
        obtain ⟨hi, f, hf, hc'⟩ := hc
        obtain ⟨h1, h2⟩ := atI_mem hf
        exact ⟨f, (hlev f).2 ⟨h1, by rw [h2]; exact ⟨hi, f, hf, hc'⟩⟩, h2⟩
    rw [levelsG, List.flatten_cons, List.mem_append, hlev, mem_levels l hR h0 k (j + 1) _ hab f]
    constructor
    · rintro (⟨h1, h2⟩ | ⟨h1, m, hm, h2⟩)
      · exact ⟨h1, 0, by omega, h2⟩
      · exact ⟨h1, m + 1, by omega, by rw [show j + (m + 1) + 1 = j + 1 + m + 1 by omega]; exact h2⟩
    · rintro ⟨h1, m, hm, h2⟩
      rcases m with _ | m
      · exact .inl ⟨h1, h2⟩
      · exact .inr ⟨h1, m, by omega, by rw [show j + 1 + m + 1 = j + (m + 1) + 1 by omega]; exact h2⟩

/-- each folder of the levels stands once, and behind what it is within. -/
theorem levels_order (l : List Fol) (hR : l.Pairwise fun a b => a.id < b.id) (h0 : ∀ f ∈ l, f.id ≠ 0) : ∀ (k j : Nat) (above : List Int), (∀ i, i ∈ above ↔ chainF l j i) →
    ∀ A f B, (levelsG l k above).flatten = A ++ f :: B → f ∉ A ∧ (f.inn ∈ above ∨ ∃ g ∈ A, g.id = f.inn)
  | 0, j, above, _, A, f, B, e => by simp [levelsG] at e
  | k + 1, j, above, ha, A, f, B, e => by
    have hlev : ∀ f, (f ∈ l.filter fun f => above.contains f.inn) ↔ f ∈ l ∧ chainF l (j + 1) f.id := by
      intro f
      rw [List.mem_filter]
      constructor
      · rintro ⟨h1, h2⟩
        exact ⟨h1, h0 f h1, f, atI_some hR h1 rfl, (ha _).1 (by simpa using h2)⟩
      · rintro ⟨h1, -, g, hg, hc⟩
        have := ids_inj hR (atI_mem hg).1 h1 (atI_mem hg).2
        subst this
        exact ⟨h1, by simpa using (ha _).2 hc⟩
    have hab : ∀ i, i ∈ (l.filter fun f => above.contains f.inn).map (·.id) ↔ chainF l (j + 1) i := by
      intro i
      rw [List.mem_map]
      constructor
      · rintro ⟨f, hf, rfl⟩
        exact ((hlev f).1 hf).2
      · intro hc
        obtain ⟨hi, f, hf, hc'⟩ := hc
        obtain ⟨h1, h2⟩ := atI_mem hf
        exact ⟨f, (hlev f).2 ⟨h1, by rw [h2]; exact ⟨hi, f, hf, hc'⟩⟩, h2⟩
    rw [levelsG, List.flatten_cons] at e
    rcases List.append_eq_append_iff.1 e with ⟨C, hC1, hC2⟩ | ⟨C, hC1, hC2⟩
    · -- the level ends ahead of f, or at it
      obtain ⟨i1, i2⟩ := levels_order l hR h0 k (j + 1) _ hab C f B hC2
      refine ⟨fun hf => ?_, ?_⟩
      · rw [hC1] at hf
        rcases List.mem_append.1 hf with hf | hf
        · have h1 := (hlev f).1 hf
          have h2 : f ∈ (levelsG l k ((l.filter fun f => above.contains f.inn).map (·.id))).flatten := by rw [hC2]; simp
          obtain ⟨-, m, -, h3⟩ := (mem_levels l hR h0 k (j + 1) _ hab f).1 h2
          have := chain_uniq l _ _ _ h1.2 h3
          omega
        · exact i1 hf
      · right
        rcases i2 with i2 | ⟨g, hg, he⟩
        · obtain ⟨g, hg, he⟩ := List.mem_map.1 i2
          exact ⟨g, by rw [hC1]; exact List.mem_append_left _ hg, he⟩
        · exact ⟨g, by rw [hC1]; exact List.mem_append_right _ hg, he⟩
    · rcases C with _ | ⟨c, C⟩
      · rw [List.append_nil] at hC1
        rw [List.nil_append] at hC2
        obtain ⟨i1, i2⟩ := levels_order l hR h0 k (j + 1) _ hab [] f B (by rw [List.nil_append]; exact hC2.symm)
        refine ⟨fun hf => ?_, ?_⟩
        · rw [← hC1] at hf
          have h1 := (hlev f).1 hf
          have h2 : f ∈ (levelsG l k ((l.filter fun f => above.contains f.inn).map (·.id))).flatten := by rw [← hC2]; simp
          obtain ⟨-, m, -, h3⟩ := (mem_levels l hR h0 k (j + 1) _ hab f).1 h2
          have := chain_uniq l _ _ _ h1.2 h3
          omega
        · right
          rcases i2 with i2 | ⟨g, hg, he⟩
          · obtain ⟨g, hg, he⟩ := List.mem_map.1 i2
            exact ⟨g, by rw [← hC1]; exact hg, he⟩
          · cases hg
      · rw [List.cons_append] at hC2
        injection hC2 with e1 e2
        subst e1
        have hnd : (A ++ f :: C).Nodup := by rw [← hC1]; exact sorted_nodup (sorted_filter _ hR)
        refine ⟨fun hf => ?_, .inl ?_⟩
        · exact (List.nodup_append.1 hnd).2.2 f hf f (List.mem_cons_self ..) rfl
        · have : f ∈ l.filter fun f => above.contains f.inn := by rw [hC1]; simp
          simpa using (List.mem_filter.1 this).2
theorem lead_levels (x : St) (h : StP x) : Leads ⟨0, [], [], [], [], x.tFol, x.tFee, x.tItm, x.tSea⟩ ((levelsS x.fols).flatten.map folEv) ⟨0, x.fols, [], [], [], x.tFol, x.tFee, x.tItm, x.tSea⟩ := by
  have h0 : ∀ f ∈ x.fols, f.id ≠ 0 := fun f hf => by have := h.fId hf; omega
  have ha : ∀ i, i ∈ [(0 : Int)] ↔ chainF x.fols 0 i := fun i => by simp [chainF]
  have hm := mem_levels x.fols h.fR h0 7 0 [0] ha
  have ho := levels_order x.fols h.fR h0 7 0 [0] ha
  have hy := (lead_tops x h).ok st0_ok
  obtain ⟨z, hz1, hz2, hz3⟩ := lead_fols x h x rfl (levelsS x.fols).flatten _ hy rfl (fun f hf => by cases hf) (fun f hf => ((hm f).1 hf).1) (fun A f B e => by
    obtain ⟨o1, o2⟩ := ho A f B e
    refine ⟨fun hf => (by cases hf), o1, ?_⟩
    rcases o2 with o2 | ⟨g, hg, he⟩
    · exact .inl (by simpa using o2)
    · exact .inr ⟨g, .inr hg, he⟩)
  have hzf : z.fols = x.fols := sorted_eq (hz1.ok hy).fR h.fR fun f => by
    rw [hz2]
    constructor
    · rintro (hf | hf)
      · cases hf
      · exact ((hm f).1 hf).1
    · intro hf
      obtain ⟨j, hj, hc⟩ := h.fD f hf
      rcases j with _ | j
      · exact absurd hc (h0 f hf)
      · exact .inr ((hm f).2 ⟨hf, j, by omega, by rw [Nat.zero_add]; exact hc⟩)
  rw [hzf] at hz3
  rw [hz3] at hz1
  exact hz1
end Go.Proofs.YtjbifjgeheigoaaGreat
end
section
namespace Go.Proofs.YtjbifjgeheigoaaGreat

theorem pw_two {α : Type} {q : α → α → Prop} (hs : ∀ a b, q a b → q b a) {l : List α} (h : l.Pairwise q) {a b : α} (ha : a ∈ l) (hb : b ∈ l) (hne : a ≠ b) : q a b := by
  induction l with
  | nil => cases ha
  | cons c l ih =>
    obtain ⟨h1, h2⟩ := List.pairwise_cons.1 h
    rcases List.mem_cons.1 ha with e1 | e1
    · rcases List.mem_cons.1 hb with e2 | e2
      · exact absurd (e1.trans e2.symm) hne
      · rw [e1]; exact h1 b e2
    · rcases List.mem_cons.1 hb with e2 | e2
      · rw [e2]; exact hs _ _ (h1 a e1)
      · exact ih h2 e1 e2
theorem insI_last {α : Type} {g : α → Int} {x : α} : ∀ {l : List α}, (∀ y ∈ l, g y < g x) → insI g x l = l ++ [x]
  | [], _ => rfl
  | y :: r, h => by
    rw [insI_cons, if_pos (h y (List.mem_cons_self ..)), insI_last fun z hz => h z (List.mem_cons_of_mem _ hz)]
    rfl

theorem lead_fees (x : St) (h : StP x) : ∀ (todo done : List Fee), x.fees = done ++ todo →
    Leads ⟨0, x.fols, done, [], [], x.tFol, x.tFee, x.tItm, x.tSea⟩ (todo.map feeEv) ⟨0, x.fols, x.fees, [], [], x.tFol, x.tFee, x.tItm, x.tSea⟩
  | [], done, e => by
    simp at e
    subst e
    rfl
  | f :: r, done, e => by
    have hfx : f ∈ x.fees := by rw [e]; simp
    have hR := h.eR
    have hN := h.eN
    have hL := h.eL
    rw [e] at hR hN hL
    have hlt : ∀ g ∈ done, g.id < f.id := fun g hg => (List.pairwise_append.1 hR).2.2 g hg f (List.mem_cons_self ..)
    have hE := h.eE f hfx
    have hsub : ∀ g ∈ done, g ∈ x.fees := fun g hg => by rw [e]; exact List.mem_append_left _ hg
    have hplace : placeS ⟨0, x.fols, done, [], [], x.tFol, x.tFee, x.tItm, x.tSea⟩ f.url = 0 := by
      unfold placeS
      cases hq : done.find? fun g => decide (g.url = f.url) with
      | none => rfl
      | some g =>
        have h1 := List.mem_of_find?_eq_some hq
        have h2 := List.find?_some hq
        simp at h2
        exact absurd h2 ((List.pairwise_append.1 hN).2.2 g h1 f (List.mem_cons_self ..))
    have hfit : fits ⟨0, x.fols, done, [], [], x.tFol, x.tFee, x.tItm, x.tSea⟩ (feeEv f) = true := by
      refine (fits3 (e := feeEv f) rfl hE.1).2 ⟨fun g hg he => ?_, ?_, hE.2.2, hplace⟩
      · have := hlt g hg
        have he' : g.id = f.id := he
        omega
      · simp at hL
        show done.length < 64
        omega
    refine ⟨hfit, ?_⟩
    have hdo : doS ⟨0, x.fols, done, [], [], x.tFol, x.tFee, x.tItm, x.tSea⟩ (feeEv f) = ⟨0, x.fols, done ++ [f], [], [], x.tFol, x.tFee, x.tItm, x.tSea⟩ := by
      rw [do3 (e := feeEv f) rfl]
      show (⟨0, x.fols, insI Fee.id f done, [], [], x.tFol, max x.tFee f.id, x.tItm, x.tSea⟩ : St) = _
      rw [insI_last hlt, max_same hE.2.1]
    rw [hdo]
    exact lead_fees x h r (done ++ [f]) (by rw [e]; simp)

theorem upd_last (f : Itm → Itm) (t : Itm) : ∀ (its : List Itm), (∀ y ∈ its, y.id < t.id) → updI Itm.id t.id f (its ++ [t]) = its ++ [f t]
  | [], _ => by simp [updI]
  | y :: its, h => by
    have hy := h y (List.mem_cons_self ..)
    simp only [List.cons_append, updI]
    rw [if_neg (by omega), upd_last f t its fun z hz => h z (List.mem_cons_of_mem _ hz)]

theorem st_itms {x : St} {fees : List Fee} {i i' : List Itm} {m m' : Int} (h : i = i') (hm : m = m') : (⟨0, x.fols, fees, i, [], x.tFol, x.tFee, m, x.tSea⟩ : St) = ⟨0, x.fols, fees, i', [], x.tFol, x.tFee, m', x.tSea⟩ := by rw [h, hm]

/-- the tags of an item, one by one. -/
theorem lead_tags (x : St) (h : StP x) (fees : List Fee) (items : List Itm) (t : Itm) (hlt : ∀ g ∈ items, g.id < t.id) (ht : t ∈ x.itms) : ∀ (todo done : List ByteArray), t.tags = done ++ todo →
    Leads ⟨0, x.fols, fees, items ++ [{ t with tags := done }], [], x.tFol, x.tFee, x.tItm, x.tSea⟩ (todo.map fun g => (⟨10, t.id, 0, 1, g, eS, eS⟩ : Ev)) ⟨0, x.fols, fees, items ++ [t], [], x.tFol, x.tFee, x.tItm, x.tSea⟩
  | [], done, e => by
    simp at e
    subst e
    rfl
  | g :: r, done, e => by
    obtain ⟨t1, t2⟩ := (tagsRise_iff _).1 (h.iE t ht).2.2.2.2
    have t3 := (h.iE t ht).2.2.2.1
    rw [e] at t1 t2 t3
    have hgo := t1 g (by simp)
    have hid := (h.iId ht).1
    have hE : evOk ⟨10, t.id, 0, 1, g, eS, eS⟩ = true := by simp [evOk, evRight, evUsed, idOk_of hid.1 hid.2, flagOk, hgo]
    have hat : ∀ q, atI Itm.id t.id (items ++ [{ t with tags := q }]) = some { t with tags := q } := fun q => by
      unfold atI
      rw [List.find?_append]
      have : items.find? (fun x => decide (x.id = t.id)) = none := List.find?_eq_none.2 fun y hy => by have := hlt y hy; simp; omega
      rw [this]
      simp
    have hfit : fits ⟨0, x.fols, fees, items ++ [{ t with tags := done }], [], x.tFol, x.tFee, x.tItm, x.tSea⟩ ⟨10, t.id, 0, 1, g, eS, eS⟩ = true := by
      refine (fits10 rfl hE).2 ⟨_, hat done, .inr (.inr ?_)⟩
      simp at t3
      show done.length < 8
      omega
    refine ⟨hfit, ?_⟩
    have hds : done.Pairwise ltB := (List.pairwise_append.1 t2).1
    have hdg : ∀ y ∈ done, ltB y g := fun y hy => (List.pairwise_append.1 t2).2.2 y hy g (List.mem_cons_self ..)
    have htg : tagsS done g true = done ++ [g] := by
      rw [tagsS_with hds]
      have e1 : done.takeWhile (fun y => decide (ltB y g)) = done := by
        clear e hat hfit t1 t2 t3 hds
        induction done with
        | nil => rfl
        | cons y d ih => rw [List.takeWhile_cons_of_pos (by simpa using hdg y (List.mem_cons_self ..)), ih fun z hz => hdg z (List.mem_cons_of_mem _ hz)]
      have e2 := List.takeWhile_append_dropWhile (p := fun y => decide (ltB y g)) (l := done)
      rw [e1] at e2
      have e3 : done.dropWhile (fun y => decide (ltB y g)) = [] := List.append_right_eq_self.1 e2
      rw [e1, e3]
      rfl
    have hdo : doS ⟨0, x.fols, fees, items ++ [{ t with tags := done }], [], x.tFol, x.tFee, x.tItm, x.tSea⟩ ⟨10, t.id, 0, 1, g, eS, eS⟩ = ⟨0, x.fols, fees, items ++ [{ t with tags := done ++ [g] }], [], x.tFol, x.tFee, x.tItm, x.tSea⟩ := by
      rw [do10 rfl]
      exact st_itms ((upd_last (fun u => { u with tags := tagsS u.tags g (decide ((1 : Int) = 1)) }) { t with tags := done } items hlt).trans (by simp [htg])) rfl
    rw [hdo]
    exact lead_tags x h fees items t hlt ht r (done ++ [g]) (by rw [e]; simp)

theorem lead_itm (x : St) (h : StP x) (items : List Itm) (t : Itm) (rest : List Itm) (e : x.itms = items ++ t :: rest) :
    Leads ⟨0, x.fols, x.fees, items, [], x.tFol, x.tFee, x.tItm, x.tSea⟩ (itmEvs t) ⟨0, x.fols, x.fees, items ++ [t], [], x.tFol, x.tFee, x.tItm, x.tSea⟩ := by
  have ht : t ∈ x.itms := by rw [e]; simp
  have hR := h.iR
  have hN := h.iN
  have hL := h.iL
  rw [e] at hR hN hL
  have hlt : ∀ g ∈ items, g.id < t.id := fun g hg => (List.pairwise_append.1 hR).2.2 g hg t (List.mem_cons_self ..)
  have hE := h.iE t ht
  have hid := (h.iId ht).1
  have hguid : guidS ⟨0, x.fols, x.fees, items, [], x.tFol, x.tFee, x.tItm, x.tSea⟩ t.feed t.guid = 0 := by
    unfold guidS
    cases hq : items.find? fun g => decide (g.feed = t.feed ∧ g.guid = t.guid) with
    | none => rfl
    | some g =>
      have h1 := List.mem_of_find?_eq_some hq
      have h2 := List.find?_some hq
      simp only [decide_eq_true_eq] at h2
      exact absurd h2 ((List.pairwise_append.1 hN).2.2 g h1 t (List.mem_cons_self ..))
  have hfit : fits ⟨0, x.fols, x.fees, items, [], x.tFol, x.tFee, x.tItm, x.tSea⟩ (itmEv t) = true := by
    refine (fits7 (e := itmEv t) rfl hE.1).2 ⟨fun g hg he => ?_, ?_, isI_iff.1 hE.2.2.1, hguid⟩
    · have := hlt g hg
      have he' : g.id = t.id := he
      omega
    · simp at hL
      show items.length < 1024
      omega
  have hdo : doS ⟨0, x.fols, x.fees, items, [], x.tFol, x.tFee, x.tItm, x.tSea⟩ (itmEv t) = ⟨0, x.fols, x.fees, items ++ [{ t with read := false, star := false, tags := [] }], [], x.tFol, x.tFee, x.tItm, x.tSea⟩ := by
    rw [do7 (e := itmEv t) rfl]
    exact st_itms (insI_last hlt) (max_same hE.2.1)
  refine ⟨hfit, ?_⟩
  rw [hdo]
  have hok : ∀ k : Int, k = 8 ∨ k = 9 → evOk ⟨k, t.id, 0, 1, eS, eS, eS⟩ = true := by
    intro k hk
    rcases hk with rfl | rfl <;> simp [evOk, evRight, evUsed, idOk_of hid.1 hid.2, flagOk]
  have hread : Leads ⟨0, x.fols, x.fees, items ++ [{ t with read := false, star := false, tags := [] }], [], x.tFol, x.tFee, x.tItm, x.tSea⟩ (if t.read = true then [⟨8, t.id, 0, 1, eS, eS, eS⟩] else []) ⟨0, x.fols, x.fees, items ++ [{ t with star := false, tags := [] }], [], x.tFol, x.tFee, x.tItm, x.tSea⟩ := by
    cases hr : t.read with
    | false => rfl
    | true =>
      refine ⟨(fits89 (.inl rfl) (hok 8 (.inl rfl))).2 ⟨{ t with read := false, star := false, tags := [] }, by simp, rfl⟩, ?_⟩
      rw [do8 rfl]
      exact st_itms ((upd_last (fun u => { u with read := decide ((1 : Int) = 1) }) { t with read := false, star := false, tags := [] } items hlt).trans (by simp)) rfl
  have hstar : Leads ⟨0, x.fols, x.fees, items ++ [{ t with star := false, tags := [] }], [], x.tFol, x.tFee, x.tItm, x.tSea⟩ (if t.star = true then [⟨9, t.id, 0, 1, eS, eS, eS⟩] else []) ⟨0, x.fols, x.fees, items ++ [{ t with tags := [] }], [], x.tFol, x.tFee, x.tItm, x.tSea⟩ := by
    cases hr : t.star with
    | false => rfl
    | true =>
      refine ⟨(fits89 (.inr rfl) (hok 9 (.inr rfl))).2 ⟨{ t with star := false, tags := [] }, by simp, rfl⟩, ?_⟩
      rw [do9 rfl]
      exact st_itms ((upd_last (fun u => { u with star := decide ((1 : Int) = 1) }) { t with star := false, tags := [] } items hlt).trans (by simp)) rfl
  exact (hread.app hstar).app (lead_tags x h x.fees items t hlt ht t.tags [] rfl)
theorem lead_itms (x : St) (h : StP x) : ∀ (todo done : List Itm), x.itms = done ++ todo →
    Leads ⟨0, x.fols, x.fees, done, [], x.tFol, x.tFee, x.tItm, x.tSea⟩ (todo.flatMap itmEvs) ⟨0, x.fols, x.fees, x.itms, [], x.tFol, x.tFee, x.tItm, x.tSea⟩
  | [], done, e => by
    simp at e
    subst e
    rfl
  | t :: r, done, e => by
    rw [List.flatMap_cons]
    exact (lead_itm x h done t r e).app (lead_itms x h r (done ++ [t]) (by rw [e]; simp))
theorem lead_seas (x : St) (h : StP x) : ∀ (todo done : List Sea), x.seas = done ++ todo →
    Leads ⟨0, x.fols, x.fees, x.itms, done, x.tFol, x.tFee, x.tItm, x.tSea⟩ (todo.map seaEv) ⟨0, x.fols, x.fees, x.itms, x.seas, x.tFol, x.tFee, x.tItm, x.tSea⟩
  | [], done, e => by
    simp at e
    subst e
    rfl
  | f :: r, done, e => by
    have hfx : f ∈ x.seas := by rw [e]; simp
    have hR := h.sR
    have hL := h.sL
    rw [e] at hR hL
    have hlt : ∀ g ∈ done, g.id < f.id := fun g hg => (List.pairwise_append.1 hR).2.2 g hg f (List.mem_cons_self ..)
    have hE := h.sE f hfx
    have hfit : fits ⟨0, x.fols, x.fees, x.itms, done, x.tFol, x.tFee, x.tItm, x.tSea⟩ (seaEv f) = true := by
      refine (fits11 (e := seaEv f) rfl hE.1).2 ⟨fun g hg he => ?_, ?_⟩
      · have := hlt g hg
        have he' : g.id = f.id := he
        omega
      · simp at hL
        show done.length < 32
        omega
    refine ⟨hfit, ?_⟩
    have hdo : doS ⟨0, x.fols, x.fees, x.itms, done, x.tFol, x.tFee, x.tItm, x.tSea⟩ (seaEv f) = ⟨0, x.fols, x.fees, x.itms, done ++ [f], x.tFol, x.tFee, x.tItm, x.tSea⟩ := by
      rw [do11 (e := seaEv f) rfl]
      show (⟨0, x.fols, x.fees, x.itms, insI Sea.id f done, x.tFol, x.tFee, x.tItm, max x.tSea f.id⟩ : St) = _
      rw [insI_last hlt, max_same hE.2]
    rw [hdo]
    exact lead_seas x h r (done ++ [f]) (by rw [e]; simp)
theorem lead_clock (x : St) (h : StP x) : Leads ⟨0, x.fols, x.fees, x.itms, x.seas, x.tFol, x.tFee, x.tItm, x.tSea⟩ (if x.clock ≠ 0 then [⟨13, 0, 0, x.clock, eS, eS, eS⟩] else []) x := by
  by_cases h0 : x.clock = 0
  · rw [if_neg (by simpa using h0)]
    rw [← h0]
    rfl
  · rw [if_pos h0]
    exact ⟨(fits13 rfl h.clk.2).2 h.clk.1, by rw [do13 rfl]; rfl⟩
/-- a state that may be is the fold of its history, of which each event fits. -/
theorem lead_past (x : St) (h : StP x) : Leads st0 (pastS x) x :=
  (lead_tops x h).app ((lead_levels x h).app ((lead_fees x h x.fees [] rfl).app ((lead_itms x h x.itms [] rfl).app ((lead_seas x h x.seas [] rfl).app (lead_clock x h)))))
theorem leads_iff_ok (x : St) : Leads st0 (pastS x) x ↔ stOk x = true :=
  ⟨fun h => (stOk_iff x).2 (h.ok st0_ok), fun h => lead_past x ((stOk_iff x).1 h)⟩
end Go.Proofs.YtjbifjgeheigoaaGreat
end
