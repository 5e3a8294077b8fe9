/-
  Contracts of the disk package: Read, Sync, Delete, Rename.
-/
import Derived.Test.YtdgpaddmheagoaaGreatDoorDiskD
namespace Go.Proofs.YtdgpaddmheagoaaGreatDoor
open Go.RowKit

section
variable {w w' : World} {B g m clock : Nat} {D D' : Dsk} {R : List Rep} {s : ByteArray} {r r' : Rep} {F : Nat → Prop}
theorem len_le_used {f : Fil} : ∀ {L : List Fil}, f ∈ L → f.b.length ≤ usedL L
  | [], h => by cases h
  | a :: L, h => by
    simp only [usedL, List.map_cons, List.sum_cons]
    rcases List.mem_cons.1 h with rfl | h
    · omega
    · have := len_le_used h
      simp only [usedL] at this
      omega
theorem DiskAt.filMem (h : DiskAt w B g m D R clock) (hr : r ∈ R) : r.fil ∈ D.L := h.perm.mem_iff.2 (List.mem_map.2 ⟨r, hr, rfl⟩)
theorem DiskAt.lenLe (h : DiskAt w B g m D R clock) (hr : r ∈ R) : r.fil.b.length ≤ 16777216 := by
  have h1 := len_le_used (h.filMem hr)
  have h2 := h.ok.used
  have h3 := h.ok.q1
  omega
theorem there_of (h : DiskAt w B g m D R clock) (s : ByteArray) : D.there s = if D.off then 30 else match repOf s R with | some _ => 0 | none => 4 := by
  unfold Dsk.there
  rw [h.find s]
  cases repOf s R <;> simp
theorem read_of (h : DiskAt w B g m D R clock) (ho : D.off = false) (hr : repOf s R = some r) : D.read s = r.fil.b := by
  unfold Dsk.read
  rw [there_of h s, hr, h.find s, hr]
  simp [ho]
theorem read_none (hs : D.there s ≠ 0) : D.read s = [] := by simp [Dsk.read, hs]
end

set_option maxRecDepth 100000 in
theorem Read_nil (s : ByteArray) (w : World) : Calls Tryz.prog 29 #[.pointer none, .string s] w fun e w' => e = .returned (.tuple #[.slice none 0 0, .int .i64 6]) ∧ w = w' := by
  go_enter Tryz.func29, Tryz.ntmps29
  go_wp2_with (go_at_call 64; refine (there_nil _ _).mono ?_; rintro e w' ⟨rfl, rfl⟩)
  go_ret2
  exact ⟨rfl, rfl⟩

def ReadOut (w : World) (l : List UInt8) (n : Int) (e : Ending) (w' : World) : Prop :=
  ∃ v, e = .returned (.tuple #[v, .int .i64 n]) ∧ w'.ownsRow w.heap.size 5 1 v l.length (bvs l) ∧ Frm Nix w w'

set_option maxRecDepth 100000 in
theorem Read_any {B g : Nat} {F : Nat → Prop} {D : Dsk} {w : World} (h : Dk w B g F D) (s : ByteArray) :
    Calls Tryz.prog 29 #[.pointer (some ⟨g, 0, none⟩), .string s] w (ReadOut w (D.read s) (D.there s)) := by
  obtain ⟨m, R, clock, h, -⟩ := h
  have hth := there_of h s
  cases ho : D.off with
  | true =>
    have hth : D.there s = 30 := by rw [hth, ho]; rfl
    rw [read_none (by omega), hth]
    have H := Lib.hid (there_off h s ho)
    clear h ho hth
    go_enter Tryz.func29, Tryz.ntmps29
    go_wp2_with (go_at_call 64; refine H.out.mono ?_; rintro e w' ⟨rfl, rfl⟩)
    go_ret2
    exact ⟨_, rfl, World.ownsRow_nil _ _ _ _, Frm.refl _ _⟩
  | false =>
    cases hr : repOf s R with
    | none =>
      have hth : D.there s = 4 := by rw [hth, ho, hr]; rfl
      rw [read_none (by omega), hth]
      have H := Lib.hid (there_no h s ho hr)
      clear h ho hth hr
      go_enter Tryz.func29, Tryz.ntmps29
      go_wp2_with (go_at_call 64; refine H.out.mono ?_; rintro e w' ⟨rfl, rfl⟩)
      go_ret2
      exact ⟨_, rfl, World.ownsRow_nil _ _ _ _, Frm.refl _ _⟩
    | some r =>
      have hth : D.there s = 0 := by rw [hth, ho, hr]; rfl
      rw [read_of h ho hr, hth]
      have H := Lib.hid (there_yes h s ho r hr)
      obtain ⟨hr1, -⟩ := repOf_some hr
      have hfl := h.files r hr1
      have hlen := h.lenLe hr1
      have cf := hfl.blk.cell 0
      simp only [Rep.v] at cf
      simp at cf
      obtain ⟨A, c, hv, hA, -⟩ := own_shape hfl.own
      have hnil : NilOk r.A r.fil.b.length r.cap := by
        intro hn
        rcases hfl.own.2 with ⟨e, h0⟩ | ⟨g0, cap, cur, e, _⟩
        · unfold Rep.v at e
          injection e with _ _ e3
          exact ⟨h0, e3⟩
        · unfold Rep.v at e
          rw [hn] at e
          injection e with e1
          cases e1
      have HC := Lib.hid (CloneB_any r.A r.fil.b.length r.cap (bvs r.fil.b) _ w (Rd.of_own hfl.own) (bvs_one _) (by omega) hnil)
      clear h ho hth hr hfl hv hA hnil
      go_enter Tryz.func29, Tryz.ntmps29
      go_wp2_with (first | (go_at_call 64; refine H.out.mono ?_; rintro e w' ⟨rfl, rfl⟩) | (go_at_call 66; refine HC.out.mono ?_; rintro e w' ⟨v, rfl, hown, hfrm⟩))
      go_ret2
      exact ⟨v, rfl, hown, hfrm⟩

/-! ### what stays so -/
section
variable {d : Dsk} {L : List Fil} {f f0 : Fil} {s : ByteArray}
theorem used_put (h : SortedF L) : usedL (putF f L) = f.b.length + usedL (delF f.name L) := by
  rw [usedL_perm (putF_perm h)]
  simp [usedL]
theorem used_del_le (s : ByteArray) (L : List Fil) : usedL (delF s L) ≤ usedL L := by
  induction L with
  | nil => exact Nat.le_refl _
  | cons a L ih =>
    by_cases h : a.name = s
    · have : delF s (a :: L) = delF s L := by simp [delF, h]
      rw [this]
      simp only [usedL, List.map_cons, List.sum_cons] at ih ⊢
      omega
    · have : delF s (a :: L) = a :: delF s L := by simp [delF, h]
      rw [this]
      simp only [usedL, List.map_cons, List.sum_cons] at ih ⊢
      omega
theorem del_perm (h : SortedF L) (hf : findF s L = some f0) : L.Perm (f0 :: delF s L) := by
  induction L with
  | nil => simp [findF] at hf
  | cons a L ih =>
    obtain ⟨h1, h2⟩ := List.pairwise_cons.1 h
    unfold findF at hf
    by_cases ha : a.name = s
    · rw [if_pos ha] at hf
      injection hf with hf
      subst hf
      have : delF s (a :: L) = L := by
        simp only [delF, List.filter_cons, ha, ne_eq, not_true_eq_false, decide_false, Bool.false_eq_true, if_false]
        exact List.filter_eq_self.2 fun g hg => by
          have := h1 g hg
          simp only [ne_eq, decide_eq_true_eq]
          exact fun e => ltN_irrefl _ (ha ▸ e ▸ this)
      rw [this]
    · rw [if_neg ha] at hf
      have : delF s (a :: L) = a :: delF s L := by simp [delF, ha]
      rw [this]
      exact ((ih h2 hf).cons a).trans (List.Perm.swap _ _ _)
theorem used_del (h : SortedF L) (hf : findF s L = some f0) : usedL L = f0.b.length + usedL (delF s L) := by
  rw [usedL_perm (del_perm h hf)]
  simp [usedL]
theorem len_put (h : SortedF L) : (putF f L).length = (delF f.name L).length + 1 := by
  rw [(putF_perm h).length_eq, List.length_cons]
theorem len_del (h : SortedF L) (hf : findF s L = some f0) : L.length = (delF s L).length + 1 := by
  rw [(del_perm h hf).length_eq, List.length_cons]
theorem len_del_le (s : ByteArray) (L : List Fil) : (delF s L).length ≤ L.length := List.length_filter_le _ _
theorem mem_delF {g : Fil} (h : g ∈ delF s L) : g ∈ L := (List.mem_filter.1 h).1

theorem Dsk.Ok.deed (h : d.Ok) : d.deed.1.Ok := by
  have := h.lo
  have := h.hi
  unfold Dsk.deed
  split
  · exact ⟨h.sorted, h.lo, h.hi, h.q0, h.q1, h.used, h.safe, h.cnt, h.nm⟩
  · exact ⟨h.sorted, by simp only; omega, by simp only; omega, h.q0, h.q1, h.used, h.safe, h.cnt, h.nm⟩
/-- a file that is there is turned, and does not pass the quota. -/
theorem Dsk.Ok.turn (h : d.Ok) (hf : findF f.name d.L = some f0) (hs : f.safe ≤ f.b.length) (hu : (usedL d.L : Int) + f.b.length ≤ d.quota + f0.b.length) : ({ d with L := putF f d.L } : Dsk).Ok := by
  have h1 := used_put (f := f) h.sorted
  have h2 := used_del h.sorted hf
  have h3 := len_put (f := f) h.sorted
  have h4 := len_del h.sorted hf
  have h5 := h.cnt
  refine ⟨h.sorted.put, h.lo, h.hi, h.q0, h.q1, by simp only; omega, fun g hg => ?_, by simp only; omega, fun g hg => ?_⟩
  · rcases mem_putF hg with rfl | hg
    · exact hs
    · exact h.safe g hg
  · rcases mem_putF hg with rfl | hg
    · obtain ⟨h1, h2⟩ := findF_some hf
      rw [← h2]
      exact h.nm f0 h1
    · exact h.nm g hg
theorem Dsk.Ok.del (h : d.Ok) (s : ByteArray) : ({ d with L := delF s d.L } : Dsk).Ok := by
  have h1 := used_del_le s d.L
  have h2 := len_del_le s d.L
  have h3 := h.used
  have h4 := h.cnt
  exact ⟨h.sorted.del s, h.lo, h.hi, h.q0, h.q1, by simp only; omega, fun g hg => h.safe g (mem_delF hg), by simp only; omega, fun g hg => h.nm g (mem_delF hg)⟩
end

/-! ### deed, Sync, Delete -/
section
variable {w w' : World} {B g m clock : Nat} {D D' : Dsk} {R : List Rep} {s : ByteArray} {r r' : Rep} {F : Nat → Prop}

theorem deed_any (h : DiskAt w B g m D R clock) (hd : D.deeds < 4611686018427387904) :
    Calls Tryz.prog 59 #[.pointer (some ⟨g, 0, none⟩)] w fun e w' => e = .returned (.int .i64 D.deed.2) ∧ DiskAt w' B g m D.deed.1 R clock ∧ Frm (fun k => k = g) w w' := by
  by_cases hl : D.left = 0
  · have e : D.deed = ({ D with off := true }, 30) := by simp [Dsk.deed, hl]
    have hb := h.blk
    rw [hl] at hb
    refine (deed_stop g _ _ _ _ w hb).mono fun e1 w1 ⟨h1, h2, h3⟩ => ⟨by rw [h1, e], h.head h3 (by rw [e]) (by rw [e]; simpa [hl] using h2) h.ok.deed, h3⟩
  · have e : D.deed = ({ D with left := max (D.left - 1) (-1), deeds := D.deeds + 1 }, 0) := by simp [Dsk.deed, hl]
    refine (deed_go g _ _ _ _ _ w h.blk hl h.ok.lo h.ok.hi hd).mono fun e1 w1 ⟨h1, h2, h3⟩ => ⟨by rw [h1, e], h.head h3 (by rw [e]) (by rw [e]; simpa using h2) h.ok.deed, h3⟩

theorem deed_L (d : Dsk) : d.deed.1.L = d.L := by unfold Dsk.deed; split <;> rfl
theorem deed_quota (d : Dsk) : d.deed.1.quota = d.quota := by unfold Dsk.deed; split <;> rfl
theorem deed_two (d : Dsk) : d.deed.2 = 30 ∨ d.deed.2 = 0 := by unfold Dsk.deed; split <;> simp
end

/-- what a call that may turn the disk leaves. -/
def DkOut (w : World) (B g : Nat) (F : Nat → Prop) (D' : Dsk) (n : Int) (e : Ending) (w' : World) : Prop :=
  e = .returned (.int .i64 n) ∧ ∃ F', Dk w' B g F' D' ∧ Frm F w w' ∧ ∀ k, F' k → F k ∨ w.heap.size ≤ k
theorem DkOut.same {w : World} {B g m clock : Nat} {D : Dsk} {R : List Rep} {n : Int} (h : DiskAt w B g m D R clock) : DkOut w B g (Foot g m R) D n (.returned (.int .i64 n)) w :=
  ⟨rfl, _, ⟨m, R, clock, h, rfl⟩, Frm.refl _ _, fun _ hk => .inl hk⟩
theorem DkOut.mk {w w' : World} {B g m clock clock' : Nat} {D D' : Dsk} {R R' : List Rep} {n : Int} {F : Nat → Prop} (_h : DiskAt w B g m D R clock) (h' : DiskAt w' B g m D' R' clock') (hf : Frm F w w') (hF : ∀ k, F k → Foot g m R k ∨ w.heap.size ≤ k)
    (hk : ∀ k, Foot g m R' k → Foot g m R k ∨ w.heap.size ≤ k) : DkOut w B g (Foot g m R) D' n (.returned (.int .i64 n)) w' :=
  ⟨rfl, _, ⟨m, R', clock', h', rfl⟩, (Frm.refl _ w).next hf hF, hk⟩

set_option maxRecDepth 100000 in
theorem Sync_nil (s : ByteArray) (w : World) : Calls Tryz.prog 23 #[.pointer none, .string s] w fun e w' => e = .returned (.int .i64 6) ∧ w = w' := by
  go_enter Tryz.func23, Tryz.ntmps23
  go_wp2_with (go_at_call 64; refine (there_nil _ _).mono ?_; rintro e w' ⟨rfl, rfl⟩)
  go_ret
  exact ⟨rfl, rfl⟩

set_option maxRecDepth 100000 in
theorem Sync_any {B g : Nat} {F : Nat → Prop} {D : Dsk} {w : World} (h : Dk w B g F D) (s : ByteArray) (hd : D.deeds < 4611686018427387904) :
    Calls Tryz.prog 23 #[.pointer (some ⟨g, 0, none⟩), .string s] w (DkOut w B g F (D.sync s).1 (D.sync s).2) := by
  obtain ⟨m, R, clock, h, rfl⟩ := h
  have hth := there_of h s
  cases ho : D.off with
  | true =>
    have hth : D.there s = 30 := by rw [hth, ho]; rfl
    have e : D.sync s = (D, 30) := by simp [Dsk.sync, hth]
    rw [e]
    have H := Lib.hid (there_off h s ho)
    have HD := Lib.hid h
    clear h ho hth e
    go_enter Tryz.func23, Tryz.ntmps23
    go_wp2_with (go_at_call 64; refine H.out.mono ?_; rintro e w' ⟨rfl, rfl⟩)
    go_ret
    exact DkOut.same HD.out
  | false =>
    cases hr : repOf s R with
    | none =>
      have hth : D.there s = 4 := by rw [hth, ho, hr]; rfl
      have e : D.sync s = (D, 4) := by simp [Dsk.sync, hth]
      rw [e]
      have H := Lib.hid (there_no h s ho hr)
      have HD := Lib.hid h
      clear h ho hth e hr
      go_enter Tryz.func23, Tryz.ntmps23
      go_wp2_with (go_at_call 64; refine H.out.mono ?_; rintro e w' ⟨rfl, rfl⟩)
      go_ret
      exact DkOut.same HD.out
    | some r =>
      have hth : D.there s = 0 := by rw [hth, ho, hr]; rfl
      have H := Lib.hid (there_yes h s ho r hr)
      have HDe := Lib.hid (deed_any h hd)
      obtain ⟨hr1, hr2⟩ := repOf_some hr
      rcases deed_two D with hd2 | hd2
      · have e : D.sync s = D.deed := by simp [Dsk.sync, hth, hd2]
        rw [e]
        rw [hd2] at HDe ⊢
        have HD := Lib.hid h
        clear h ho hth e hr hr1 hr2 hd2 hd
        go_enter Tryz.func23, Tryz.ntmps23
        go_wp2_with (first | (go_at_call 64; refine H.out.mono ?_; rintro e w' ⟨rfl, rfl⟩) | (go_at_call 59; refine HDe.out.mono ?_; rintro e w1 ⟨rfl, h1, hf1⟩))
        go_ret
        exact DkOut.mk HD.out h1 hf1 (fun k hk => .inl (.inl hk)) fun k hk => .inl hk
      · have hfind := h.find s
        rw [hr] at hfind
        simp only [Option.map_some] at hfind
        have e : D.sync s = ({ D.deed.1 with L := putF { r.fil with safe := r.fil.b.length } D.L }, 0) := by
          simp [Dsk.sync, hth, hd2, Dsk.syncTo, deed_L, hfind]
        rw [e]
        rw [hd2] at HDe
        have HD := Lib.hid h
        have HR := Lib.hid hr
        have HF := Lib.hid hfind
        have HN := Lib.hid hr2
        have hlen := h.lenLe hr1
        have hfg := h.fb_ne_g hr1
        clear h ho hth e hr hd2 hd hfind hr2
        go_enter Tryz.func23, Tryz.ntmps23
        go_wp2_with (first | (go_at_call 64; refine H.out.mono ?_; rintro e w' ⟨rfl, rfl⟩) | (go_at_call 59; refine HDe.out.mono ?_; rintro e w1 ⟨rfl, h1, hf1⟩; have cf := (h1.files r hr1).blk.cell 0; have cs := (h1.files r hr1).blk.cell 1; have ff := (h1.files r hr1).blk.frozen 1; simp only [Rep.v] at cf; simp at cf cs))
        go_ret
        have hfl := h1.files r hr1
        have hf2 : Frm (fun k => k = r.fb) w1 (w1.setCell ⟨r.fb, 1, none⟩ (.int .i64 r.fil.b.length)) := (Frm.refl (fun k => k = r.fb) w1).setCell (.inl rfl) _
        have hfile : FileAt (w1.setCell ⟨r.fb, 1, none⟩ (.int .i64 r.fil.b.length)) B { r with fil := { r.fil with safe := r.fil.b.length } } :=
          ⟨hfl.blk.set_ 1 _, hfl.fB, own_frm hfl.own hf2 (fun k hk e => h1.row_ne_fb hr1 hr1 hk e)⟩
        obtain ⟨h2, hk2⟩ := h1.replace (D' := { D.deed.1 with L := putF { r.fil with safe := r.fil.b.length } D.L }) (r' := { r with fil := { r.fil with safe := r.fil.b.length } }) HR.out HN.out rfl rfl hf2 (fun k hk => .inr (.inl hk)) hfile (fun k hk => .inl hk) (by rw [deed_L]) (h1.blk.frm hf2 (Ne.symm hfg))
          (by
            have := h1.ok
            have hu := this.used
            rw [deed_L, deed_quota] at hu
            have ht := Dsk.Ok.turn (f := { r.fil with safe := r.fil.b.length }) (f0 := r.fil) this (by rw [deed_L]; simpa [HN.out] using HF.out) (Nat.le_refl _) (by rw [deed_L, deed_quota]; simp only; omega)
            simpa [deed_L] using ht)
        refine DkOut.mk HD.out h2 (F := fun k => k = g ∨ k = r.fb) ((hf1.mono fun _ h => .inl h).trans (hf2.mono fun _ h => .inr h)) (fun k hk => .inl ?_) fun k hk => ?_
        · rcases hk with hk | hk
          · exact .inl hk
          · exact .inr (.inr (.inl ⟨r, hr1, hk⟩))
        · rcases hk2 k hk with h | h
          · exact .inl h
          · exact .inr (Nat.le_trans hf1.size h)

/-! ### Delete -/

set_option maxRecDepth 100000 in
theorem Delete_nil (s : ByteArray) (w : World) : Calls Tryz.prog 27 #[.pointer none, .string s] w fun e w' => e = .returned (.int .i64 6) ∧ w = w' := by
  go_enter Tryz.func27, Tryz.ntmps27
  go_wp2_with (go_at_call 64; refine (there_nil _ _).mono ?_; rintro e w' ⟨rfl, rfl⟩)
  go_ret
  exact ⟨rfl, rfl⟩

set_option maxRecDepth 100000 in
theorem Delete_any {B g : Nat} {F : Nat → Prop} {D : Dsk} {w : World} (h : Dk w B g F D) (s : ByteArray) (hd : D.deeds < 4611686018427387904) :
    Calls Tryz.prog 27 #[.pointer (some ⟨g, 0, none⟩), .string s] w (DkOut w B g F (D.delete s).1 (D.delete s).2) := by
  obtain ⟨m, R, clock, h, rfl⟩ := h
  have hth := there_of h s
  cases ho : D.off with
  | true =>
    have hth : D.there s = 30 := by rw [hth, ho]; rfl
    have e : D.delete s = (D, 30) := by simp [Dsk.delete, hth]
    rw [e]
    have H := Lib.hid (there_off h s ho)
    have HD := Lib.hid h
    clear h ho hth e
    go_enter Tryz.func27, Tryz.ntmps27
    go_wp2_with (go_at_call 64; refine H.out.mono ?_; rintro e w' ⟨rfl, rfl⟩)
    go_ret
    exact DkOut.same HD.out
  | false =>
    cases hr : repOf s R with
    | none =>
      have hth : D.there s = 4 := by rw [hth, ho, hr]; rfl
      have e : D.delete s = (D, 4) := by simp [Dsk.delete, hth]
      rw [e]
      have H := Lib.hid (there_no h s ho hr)
      have HD := Lib.hid h
      clear h ho hth e hr
      go_enter Tryz.func27, Tryz.ntmps27
      go_wp2_with (go_at_call 64; refine H.out.mono ?_; rintro e w' ⟨rfl, rfl⟩)
      go_ret
      exact DkOut.same HD.out
    | some r =>
      have hth : D.there s = 0 := by rw [hth, ho, hr]; rfl
      have H := Lib.hid (there_yes h s ho r hr)
      have HDe := Lib.hid (deed_any h hd)
      rcases deed_two D with hd2 | hd2
      · have e : D.delete s = D.deed := by simp [Dsk.delete, hth, hd2]
        rw [e]
        rw [hd2] at HDe ⊢
        have HD := Lib.hid h
        clear h ho hth e hr hd2 hd
        go_enter Tryz.func27, Tryz.ntmps27
        go_wp2_with (first | (go_at_call 64; refine H.out.mono ?_; rintro e w' ⟨rfl, rfl⟩) | (go_at_call 59; refine HDe.out.mono ?_; rintro e w1 ⟨rfl, h1, hf1⟩))
        go_ret
        exact DkOut.mk HD.out h1 hf1 (fun k hk => .inl (.inl hk)) fun k hk => .inl hk
      · have e : D.delete s = ({ D.deed.1 with L := delF s D.L }, 0) := by
          simp [Dsk.delete, hth, hd2, Dsk.deleteTo, deed_L]
        rw [e]
        rw [hd2] at HDe
        have HD := Lib.hid h
        clear h ho hth e hr hd2 hd
        go_enter Tryz.func27, Tryz.ntmps27
        go_wp2_with (first | (go_at_call 64; refine H.out.mono ?_; rintro e w' ⟨rfl, rfl⟩) | (go_at_call 59; refine HDe.out.mono ?_; rintro e w1 ⟨rfl, h1, hf1⟩; have c0 := h1.blk.cell 0; simp at c0; obtain ⟨w2, hrun, hm2, hf2⟩ := h1.map.delete (P := Tryz.prog) Tryz.underlying52 Tryz.underlying9 s 9) | (refine wpList_delete_run hrun rfl _ _ rfl rfl rfl ?_))
        go_ret
        have hok := h1.ok.del s
        have h2 := h1.remove (D' := { D.deed.1 with L := delF s D.L }) s hf2 hm2 (by rw [deed_L]) rfl rfl rfl rfl (by simpa [deed_L] using hok)
        refine DkOut.mk HD.out h2 (F := fun k => k = g ∨ k = m) ((hf1.mono fun _ h => .inl h).trans (hf2.mono fun _ h => .inr h)) (fun k hk => .inl ?_) fun k hk => .inl (foot_delR hk)
        rcases hk with hk | hk
        · exact .inl hk
        · exact .inr (.inl hk)
end Go.Proofs.YtdgpaddmheagoaaGreatDoor
