/-
  What a call does to a disk's memory: one file is turned, put, or taken away.
-/
import Derived.Test.YtdgpaddmheagoaaGreatDoorDiskC
namespace Go.Proofs.YtdgpaddmheagoaaGreatDoor
open Go.RowKit

def updR (s : ByteArray) (r' : Rep) (R : List Rep) : List Rep := R.map fun x => if x.fil.name = s then r' else x
def delR (s : ByteArray) (R : List Rep) : List Rep := R.filter fun x => decide (x.fil.name ≠ s)

theorem mem_updR {s : ByteArray} {r' x : Rep} {R : List Rep} (h : x ∈ updR s r' R) : x = r' ∨ (x ∈ R ∧ x.fil.name ≠ s) := by
  obtain ⟨a, ha, rfl⟩ := List.mem_map.1 h
  by_cases he : a.fil.name = s
  · simp [he]
  · simp only [he, if_false]
    exact .inr ⟨ha, he⟩
theorem mem_delR {s : ByteArray} {x : Rep} {R : List Rep} (h : x ∈ delR s R) : x ∈ R ∧ x.fil.name ≠ s := by
  simpa [delR] using h
theorem delR_fil (s : ByteArray) (R : List Rep) : (delR s R).map (·.fil) = delF s (R.map (·.fil)) := by
  simp [delR, delF, List.filter_map, Function.comp_def]
theorem delF_perm {s : ByteArray} {L L' : List Fil} (h : L.Perm L') : (delF s L).Perm (delF s L') := h.filter _
theorem updR_none {s : ByteArray} {r' : Rep} {R : List Rep} (h : ∀ x ∈ R, x.fil.name ≠ s) : updR s r' R = R := by
  unfold updR
  conv => rhs; rw [← List.map_id R]
  exact List.map_congr_left fun x hx => by simp [h x hx]
theorem updR_perm {s : ByteArray} {r r' : Rep} : ∀ {R : List Rep}, (R.Pairwise fun a b => a.fil.name ≠ b.fil.name) → r ∈ R → r.fil.name = s → ((updR s r' R).map (·.fil)).Perm (r'.fil :: (delR s R).map (·.fil))
  | [], _, hr, _ => by cases hr
  | a :: R, h, hr, hs => by
    obtain ⟨h1, h2⟩ := List.pairwise_cons.1 h
    by_cases ha : a.fil.name = s
    · have hn : ∀ x ∈ R, x.fil.name ≠ s := fun x hx e => h1 x hx (ha.trans e.symm)
      have e1 : updR s r' (a :: R) = r' :: R := by
        show (if a.fil.name = s then r' else a) :: updR s r' R = _
        rw [if_pos ha, updR_none hn]
      have e2 : delR s (a :: R) = R := by
        simp only [delR, List.filter_cons, ha, ne_eq, not_true_eq_false, decide_false, Bool.false_eq_true, if_false]
        exact List.filter_eq_self.2 fun x hx => by simpa using hn x hx
      rw [e1, e2]
      exact List.Perm.refl _
    · have hr' : r ∈ R := by
        rcases List.mem_cons.1 hr with rfl | hr
        · exact absurd hs ha
        · exact hr
      have e1 : updR s r' (a :: R) = a :: updR s r' R := by
        show (if a.fil.name = s then r' else a) :: updR s r' R = _
        rw [if_neg ha]
      have e2 : delR s (a :: R) = a :: delR s R := by simp [delR, ha]
      rw [e1, e2]
      exact ((updR_perm h2 hr' hs).cons _).trans (List.Perm.swap _ _ _)

section
variable {w w' : World} {B g m clock : Nat} {D D' : Dsk} {R : List Rep} {s : ByteArray} {r r' : Rep} {F : Nat → Prop}

theorem own_at {B e n : Nat} {v : Value} {xs : List Value} {k : Nat} (h : w.ownsRow B e 1 v n xs) (hk : v.ownBlock = some k) : ∃ cs, Blk w k e cs := by
  rcases h.2 with ⟨rfl, _⟩ | ⟨g, cap, cur, rfl, _, hh, _⟩
  · cases hk
  · cases hk
    exact ⟨cur, hh⟩

/-- blocks of a disk's parts differ. -/
theorem DiskAt.fb_ne_g (h : DiskAt w B g m D R clock) (hr : r ∈ R) : r.fb ≠ g := (h.files r hr).blk.ne_ h.blk (by decide)
theorem DiskAt.fb_ne_m (h : DiskAt w B g m D R clock) (hr : r ∈ R) : r.fb ≠ m := h.map.ne_blk (h.files r hr).blk
theorem DiskAt.g_ne_m (h : DiskAt w B g m D R clock) : g ≠ m := h.map.ne_blk h.blk
theorem DiskAt.row_ne_g (h : DiskAt w B g m D R clock) (hr : r ∈ R) {k : Nat} (hk : r.v.ownBlock = some k) : k ≠ g := by
  obtain ⟨cs, hb⟩ := own_at (h.files r hr).own hk
  exact hb.ne_ h.blk (by decide)
theorem DiskAt.row_ne_m (h : DiskAt w B g m D R clock) (hr : r ∈ R) {k : Nat} (hk : r.v.ownBlock = some k) : k ≠ m := by
  obtain ⟨cs, hb⟩ := own_at (h.files r hr).own hk
  exact h.map.ne_blk hb
theorem DiskAt.row_ne_fb (h : DiskAt w B g m D R clock) (hr : r ∈ R) {r2 : Rep} (hr2 : r2 ∈ R) {k : Nat} (hk : r.v.ownBlock = some k) : k ≠ r2.fb := by
  obtain ⟨cs, hb⟩ := own_at (h.files r hr).own hk
  exact hb.ne_ (h.files r2 hr2).blk (by decide)
theorem DiskAt.row_lt (h : DiskAt w B g m D R clock) (hr : r ∈ R) {k : Nat} (hk : r.v.ownBlock = some k) : k < w.heap.size := ((h.files r hr).lt k hk).2

/-- another file is as it was. -/
theorem DiskAt.other (h : DiskAt w B g m D R clock) (hr : r ∈ R) (hf : Frm F w w') (hF : ∀ k, F k → k = g ∨ k = m ∨ k = r.fb ∨ r.v.ownBlock = some k) {x : Rep} (hx : x ∈ R) (hne : x.fil.name ≠ r.fil.name) : FileAt w' B x := by
  obtain ⟨a1, a2⟩ := h.apart x hx r hr hne
  refine (h.files x hx).frm hf (fun hf => ?_) (fun k hk hf => ?_)
  · rcases hF _ hf with e | e | e | e
    · exact h.fb_ne_g hx e
    · exact h.fb_ne_m hx e
    · exact a1 e
    · exact h.row_ne_fb hr hx e rfl
  · rcases hF _ hf with e | e | e | e
    · exact h.row_ne_g hx hk e
    · exact h.row_ne_m hx hk e
    · exact h.row_ne_fb hx hr hk e
    · exact a2 k hk e

/-- one file is turned. -/
theorem DiskAt.replace (h : DiskAt w B g m D R clock) (hr : repOf s R = some r) (hn : r'.fil.name = s) (hfb : r'.fb = r.fb) (hborn : r'.born = r.born)
    (hf : Frm F w w') (hF : ∀ k, F k → k = g ∨ k = r.fb ∨ r.v.ownBlock = some k) (hfile : FileAt w' B r') (hown : ∀ k, r'.v.ownBlock = some k → r.v.ownBlock = some k ∨ w.heap.size ≤ k)
    (hL : D'.L = putF r'.fil D.L) (hblk : Blk w' g 54 #[.map (some m), .int .i64 D'.quota, .int .i64 D'.left, .bool D'.off, .int .i64 D'.deeds]) (hok : D'.Ok) :
    DiskAt w' B g m D' (updR s r' R) clock ∧ ∀ k, Foot g m (updR s r' R) k → Foot g m R k ∨ w.heap.size ≤ k := by
  obtain ⟨hr1, hr2⟩ := repOf_some hr
  have hsame : ∀ x ∈ R, x.fil.name = s → x = r := fun x hx e => by
    have h1 := repOf_mem h.names x hx
    rw [e, hr] at h1
    injection h1 with h1
    exact h1.symm
  have hmap : ∀ {α : Type} (f : Rep → α), f r' = f r → (updR s r' R).map f = R.map f := by
    intro α f hff
    rw [updR, List.map_map]
    refine List.map_congr_left fun x hx => ?_
    simp only [Function.comp_def]
    by_cases e : x.fil.name = s
    · rw [if_pos e, hff, hsame x hx e]
    · rw [if_neg e]
  have hent : (updR s r' R).map Rep.ent = R.map Rep.ent := hmap _ (by simp [Rep.ent, hn, hfb, hborn, hr2])
  have hF' : ∀ k, F k → k = g ∨ k = m ∨ k = r.fb ∨ r.v.ownBlock = some k := fun k hk => by
    rcases hF k hk with e | e | e
    · exact .inl e
    · exact .inr (.inr (.inl e))
    · exact .inr (.inr (.inr e))
  refine ⟨⟨h.gB, h.mB, hblk, ?_, ?_, ?_, ?_, ?_, ?_, hok⟩, ?_⟩
  · rw [hent]
    refine h.map.frm hf fun hf => ?_
    rcases hF _ hf with e | e | e
    · exact h.g_ne_m e.symm
    · exact h.fb_ne_m hr1 e.symm
    · exact h.row_ne_m hr1 e rfl
  · intro x hx
    rcases mem_updR hx with rfl | ⟨hx, hne⟩
    · exact hfile
    · exact h.other hr1 hf hF' hx (by rw [hr2]; exact hne)
  · intro x hx
    rcases mem_updR hx with rfl | ⟨hx, hne⟩
    · rw [hborn]
      exact h.born r hr1
    · exact h.born x hx
  · rw [hmap (·.born) hborn]
    exact h.borns
  · intro a ha b hb hne
    rcases mem_updR ha with rfl | ⟨ha', hna⟩
    · rcases mem_updR hb with rfl | ⟨hb, hnb⟩
      · exact absurd rfl hne
      · obtain ⟨a1, a2⟩ := h.apart r hr1 b hb (by rw [hr2]; exact hnb.symm)
        refine ⟨by rw [hfb]; exact a1, fun k hk e => ?_⟩
        rcases hown k hk with h1 | h1
        · exact a2 k h1 e
        · have := h.row_lt hb e
          omega
    · rcases mem_updR hb with rfl | ⟨hb, hnb⟩
      · obtain ⟨a1, a2⟩ := h.apart a ha' r hr1 (by rw [hr2]; exact hna)
        refine ⟨by rw [hfb]; exact a1, fun k hk e => ?_⟩
        rcases hown k e with h1 | h1
        · exact a2 k hk h1
        · have := h.row_lt ha' hk
          omega
      · exact h.apart a ha' b hb hne
  · rw [hL]
    refine (putF_perm h.ok.sorted).trans ?_
    rw [hn]
    refine List.Perm.trans ?_ (updR_perm h.names hr1 hr2).symm
    rw [delR_fil]
    exact (delF_perm h.perm).cons _
  · rintro k (rfl | rfl | ⟨x, hx, rfl⟩ | ⟨x, hx, hk⟩)
    · exact .inl (.inl rfl)
    · exact .inl (.inr (.inl rfl))
    · rcases mem_updR hx with rfl | ⟨hx, hne⟩
      · exact .inl (.inr (.inr (.inl ⟨r, hr1, hfb⟩)))
      · exact .inl (.inr (.inr (.inl ⟨x, hx, rfl⟩)))
    · rcases mem_updR hx with rfl | ⟨hx, hne⟩
      · rcases hown k hk with h1 | h1
        · exact .inl (.inr (.inr (.inr ⟨r, hr1, h1⟩)))
        · exact .inr h1
      · exact .inl (.inr (.inr (.inr ⟨x, hx, hk⟩)))

/-- the head is turned. -/
theorem DiskAt.head (h : DiskAt w B g m D R clock) (hf : Frm (fun k => k = g) w w') (hL : D'.L = D.L)
    (hblk : Blk w' g 54 #[.map (some m), .int .i64 D'.quota, .int .i64 D'.left, .bool D'.off, .int .i64 D'.deeds]) (hok : D'.Ok) : DiskAt w' B g m D' R clock :=
  ⟨h.gB, h.mB, hblk, h.map.frm hf h.g_ne_m.symm, fun x hx => (h.files x hx).frm hf (h.fb_ne_g hx) (fun _ hk e => h.row_ne_g hx hk e), h.born, h.borns, h.apart, by rw [hL]; exact h.perm, hok⟩

theorem delE_map (s : ByteArray) : ∀ {R : List Rep}, (R.Pairwise fun a b => a.fil.name ≠ b.fil.name) → delE s (R.map Rep.ent) = (delR s R).map Rep.ent
  | [], _ => rfl
  | a :: R, h => by
    obtain ⟨h1, h2⟩ := List.pairwise_cons.1 h
    by_cases ha : a.fil.name = s
    · have e2 : delR s (a :: R) = R := by
        simp only [delR, List.filter_cons, ha, ne_eq, not_true_eq_false, decide_false, Bool.false_eq_true, if_false]
        exact List.filter_eq_self.2 fun x hx => by
          have : x.fil.name ≠ s := fun e => h1 x hx (ha.trans e.symm)
          simpa using this
      rw [e2]
      show (if a.fil.name = s then R.map Rep.ent else _) = _
      rw [if_pos ha]
    · have e2 : delR s (a :: R) = a :: delR s R := by simp [delR, ha]
      rw [e2]
      show (if a.fil.name = s then R.map Rep.ent else a.ent :: delE s (R.map Rep.ent)) = _
      rw [if_neg ha, delE_map s h2]
      rfl

/-- a file is taken away. -/
theorem DiskAt.remove (h : DiskAt w B g m D R clock) (s : ByteArray) (hf : Frm (fun k => k = m) w w') (hm : SMap w' m (delE s (R.map Rep.ent)) clock) (hL : D'.L = delF s D.L)
    (hq : D'.quota = D.quota) (hl : D'.left = D.left) (ho : D'.off = D.off) (hd : D'.deeds = D.deeds) (hok : D'.Ok) :
    DiskAt w' B g m D' (delR s R) clock := by
  refine ⟨h.gB, h.mB, ?_, by rw [← delE_map s h.names]; exact hm, ?_, fun x hx => h.born x (mem_delR hx).1, ?_, fun a ha b hb => h.apart a (mem_delR ha).1 b (mem_delR hb).1, ?_, hok⟩
  · rw [hq, hl, ho, hd]
    exact h.blk.frm hf h.g_ne_m
  · intro x hx
    have hx := (mem_delR hx).1
    exact (h.files x hx).frm hf (h.fb_ne_m hx) (fun _ hk e => h.row_ne_m hx hk e)
  · exact h.borns.sublist (List.filter_sublist.map _)
  · rw [hL, delR_fil]
    exact delF_perm h.perm
theorem foot_delR {s : ByteArray} {k : Nat} (h : Foot g m (delR s R) k) : Foot g m R k := by
  rcases h with h | h | ⟨x, hx, h⟩ | ⟨x, hx, h⟩
  · exact .inl h
  · exact .inr (.inl h)
  · exact .inr (.inr (.inl ⟨x, (mem_delR hx).1, h⟩))
  · exact .inr (.inr (.inr ⟨x, (mem_delR hx).1, h⟩))

theorem updE_map_some (s : ByteArray) {fb clock : Nat} {r rn : Rep} (hfb : rn.fb = fb) (hname : rn.fil.name = s) : ∀ {R : List Rep}, (R.Pairwise fun a b => a.fil.name ≠ b.fil.name) → repOf s R = some r →
    updE s (.pointer (some ⟨fb, 0, none⟩)) clock (R.map Rep.ent) = (updR s { rn with born := r.born } R).map Rep.ent
  | [], _, h => by simp [repOf] at h
  | a :: R, hp, h => by
    obtain ⟨h1, h2⟩ := List.pairwise_cons.1 hp
    unfold repOf at h
    by_cases ha : a.fil.name = s
    · rw [if_pos ha] at h
      injection h with h
      subst h
      have hn : ∀ x ∈ R, x.fil.name ≠ s := fun x hx e => h1 x hx (ha.trans e.symm)
      have e1 : updR s { rn with born := a.born } (a :: R) = { rn with born := a.born } :: R := by
        show (if a.fil.name = s then { rn with born := a.born } else a) :: updR s { rn with born := a.born } R = _
        rw [if_pos ha, updR_none hn]
      rw [e1]
      show (if a.fil.name = s then _ else _) = _
      rw [if_pos ha]
      simp [Rep.ent, hfb, hname]
    · rw [if_neg ha] at h
      have e1 : updR s { rn with born := r.born } (a :: R) = a :: updR s { rn with born := r.born } R := by
        show (if a.fil.name = s then { rn with born := r.born } else a) :: updR s { rn with born := r.born } R = _
        rw [if_neg ha]
      rw [e1]
      show (if a.fil.name = s then _ else a.ent :: updE s _ clock (R.map Rep.ent)) = _
      rw [if_neg ha, updE_map_some s hfb hname h2 h]
      rfl
theorem updE_map_none (s : ByteArray) {clock : Nat} {rn : Rep} (hname : rn.fil.name = s) {R : List Rep} (h : repOf s R = none) :
    updE s (.pointer (some ⟨rn.fb, 0, none⟩)) clock (R.map Rep.ent) = (R ++ [{ rn with born := clock }]).map Rep.ent := by
  rw [updE_none]
  · simp [Rep.ent, hname]
  · have := hasE_repOf s R
    rw [h, hasE_findIdx] at this
    simpa using this

/-- a file is put under its name. -/
theorem DiskAt.attach {rn : Rep} (h : DiskAt w B g m D R clock) (hfile : FileAt w B rn) (hap : ∀ x ∈ R, x.fil.name ≠ rn.fil.name → x.fb ≠ rn.fb ∧ ∀ k, x.v.ownBlock = some k → rn.v.ownBlock ≠ some k)
    (hf : Frm (fun k => k = m) w w') (hm : SMap w' m (updE rn.fil.name (.pointer (some ⟨rn.fb, 0, none⟩)) clock (R.map Rep.ent)) (if hasE rn.fil.name (R.map Rep.ent) then clock else clock + 1))
    (hL : D'.L = putF rn.fil D.L) (hq : D'.quota = D.quota) (hl : D'.left = D.left) (ho : D'.off = D.off) (hd : D'.deeds = D.deeds) (hok : D'.Ok) :
    ∃ R' clock', DiskAt w' B g m D' R' clock' ∧ (∀ x ∈ R', (x ∈ R ∧ x.fil.name ≠ rn.fil.name) ∨ ∃ b, x = { rn with born := b }) ∧ ∃ b, repOf rn.fil.name R' = some { rn with born := b } := by
  have hblk : Blk w' g 54 #[.map (some m), .int .i64 D'.quota, .int .i64 D'.left, .bool D'.off, .int .i64 D'.deeds] := by
    rw [hq, hl, ho, hd]
    exact h.blk.frm hf h.g_ne_m
  have hfm : rn.fb ≠ m := h.map.ne_blk hfile.blk
  have hfile' : ∀ b, FileAt w' B { rn with born := b } := fun b => by
    have : FileAt w' B rn := hfile.frm hf hfm (fun k hk e => by
      obtain ⟨cs, hb⟩ := own_at hfile.own hk
      exact h.map.ne_blk hb e)
    exact ⟨this.blk, this.fB, this.own⟩
  have hold : ∀ x ∈ R, FileAt w' B x := fun x hx => (h.files x hx).frm hf (h.fb_ne_m hx) (fun _ hk e => h.row_ne_m hx hk e)
  have hperm : D'.L.Perm (rn.fil :: (delR rn.fil.name R).map (·.fil)) := by
    rw [hL, delR_fil]
    exact (putF_perm h.ok.sorted).trans ((delF_perm h.perm).cons _)
  cases hr : repOf rn.fil.name R with
  | some r =>
    obtain ⟨hr1, hr2⟩ := repOf_some hr
    have hh : hasE rn.fil.name (R.map Rep.ent) = true := by rw [hasE_repOf, hr]; rfl
    rw [hh, updE_map_some rn.fil.name rfl rfl h.names hr] at hm
    have hsame : ∀ x ∈ R, x.fil.name = rn.fil.name → x = r := fun x hx e => by
      have h1 := repOf_mem h.names x hx
      rw [e, hr] at h1
      injection h1 with h1
      exact h1.symm
    have hdisk : DiskAt w' B g m D' (updR rn.fil.name { rn with born := r.born } R) clock := by
      refine ⟨h.gB, h.mB, hblk, hm, ?_, ?_, ?_, ?_, hperm.trans (updR_perm (r' := { rn with born := r.born }) h.names hr1 hr2).symm, hok⟩
      · intro x hx
        rcases mem_updR hx with rfl | ⟨hx, _⟩
        · exact hfile' _
        · exact hold x hx
      · intro x hx
        rcases mem_updR hx with rfl | ⟨hx, _⟩
        · exact h.born r hr1
        · exact h.born x hx
      · have : (updR rn.fil.name { rn with born := r.born } R).map (·.born) = R.map (·.born) := by
          rw [updR, List.map_map]
          refine List.map_congr_left fun x hx => ?_
          simp only [Function.comp_def]
          by_cases e : x.fil.name = rn.fil.name
          · rw [if_pos e, hsame x hx e]
          · rw [if_neg e]
        rw [this]
        exact h.borns
      · intro a ha b hb hne
        rcases mem_updR ha with rfl | ⟨ha', hna⟩
        · rcases mem_updR hb with rfl | ⟨hb, hnb⟩
          · exact absurd rfl hne
          · obtain ⟨a1, a2⟩ := hap b hb hnb
            exact ⟨a1.symm, fun k hk e => a2 k e hk⟩
        · rcases mem_updR hb with rfl | ⟨hb, hnb⟩
          · exact hap a ha' hna
          · exact h.apart a ha' b hb hne
    refine ⟨_, _, hdisk, fun x hx => ?_, r.born, ?_⟩
    · rcases mem_updR hx with rfl | hx
      · exact .inr ⟨_, rfl⟩
      · exact .inl hx
    · exact repOf_mem hdisk.names { rn with born := r.born } (List.mem_map.2 ⟨r, hr1, by rw [if_pos hr2]⟩)
  | none =>
    have hh : hasE rn.fil.name (R.map Rep.ent) = false := by rw [hasE_repOf, hr]; rfl
    rw [hh, updE_map_none rn.fil.name rfl hr] at hm
    have hnone := repOf_none.1 hr
    have hdel : delR rn.fil.name R = R := List.filter_eq_self.2 fun x hx => by simpa using hnone x hx
    have hdisk : DiskAt w' B g m D' (R ++ [{ rn with born := clock }]) (clock + 1) := by
      refine ⟨h.gB, h.mB, hblk, hm, ?_, ?_, ?_, ?_, ?_, hok⟩
      · intro x hx
        rcases List.mem_append.1 hx with hx | hx
        · exact hold x hx
        · obtain rfl := List.mem_singleton.1 hx
          exact hfile' _
      · intro x hx
        rcases List.mem_append.1 hx with hx | hx
        · have := h.born x hx
          omega
        · obtain rfl := List.mem_singleton.1 hx
          exact Nat.lt_succ_self _
      · rw [List.map_append, List.nodup_append]
        refine ⟨h.borns, by simp, fun a ha b hb e => ?_⟩
        obtain ⟨x, hx, rfl⟩ := List.mem_map.1 ha
        simp at hb
        have := h.born x hx
        omega
      · intro a ha b hb hne
        rcases List.mem_append.1 ha with ha | ha
        · rcases List.mem_append.1 hb with hb | hb
          · exact h.apart a ha b hb hne
          · obtain rfl := List.mem_singleton.1 hb
            exact hap a ha (hnone a ha)
        · obtain rfl := List.mem_singleton.1 ha
          rcases List.mem_append.1 hb with hb | hb
          · obtain ⟨a1, a2⟩ := hap b hb (hnone b hb)
            exact ⟨a1.symm, fun k hk e => a2 k e hk⟩
          · obtain rfl := List.mem_singleton.1 hb
            exact absurd rfl hne
      · rw [hdel] at hperm
        refine hperm.trans ?_
        rw [List.map_append]
        exact (List.perm_append_singleton _ _).symm
    refine ⟨_, _, hdisk, fun x hx => ?_, clock, ?_⟩
    · rcases List.mem_append.1 hx with hx | hx
      · exact .inl ⟨hx, hnone x hx⟩
      · obtain rfl := List.mem_singleton.1 hx
        exact .inr ⟨_, rfl⟩
    · exact repOf_mem hdisk.names { rn with born := clock } (by simp)
end
end Go.Proofs.YtdgpaddmheagoaaGreatDoor
