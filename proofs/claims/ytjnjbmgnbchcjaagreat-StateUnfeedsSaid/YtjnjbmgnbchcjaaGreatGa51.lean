/-
  Plain: how long a state's history is, and its numbers; which events are looked at.
-/
import Derived.Test.YtjnjbmgnbchcjaaGreatGa12
import Derived.Test.YtjnjbmgnbchcjaaGreatGa13
import Derived.Test.YtjnjbmgnbchcjaaGreatGa19
import Derived.Test.YtjnjbmgnbchcjaaGreatGa32
import Derived.Test.YtjnjbmgnbchcjaaGreatGa48
import Derived.Test.YtjnjbmgnbchcjaaGreatGa45
import Derived.Deep.RegionHeld3
section
set_option linter.unusedVariables false
set_option linter.unusedSimpArgs false
namespace Go.Proofs.YtjnjbmgnbchcjaaGreat

theorem lvG_len (l : List Fol) : ∀ (k : Nat) (ab : List Int), (levelsG l k ab).flatten.length ≤ k * l.length
  | 0, _ => by simp [levelsG]
  | k + 1, ab => by
    have h1 := lvG_len l k ((l.filter fun f => ab.contains f.inn).map (·.id))
    have h2 := List.length_filter_le (fun f : Fol => ab.contains f.inn) l
    rw [levelsG, List.flatten_cons, List.length_append, Nat.succ_mul]
    omega
theorem lvG_mem (l : List Fol) : ∀ (k : Nat) (ab : List Int) (f : Fol), f ∈ (levelsG l k ab).flatten → f ∈ l
  | 0, _, _, h => by simp [levelsG] at h
  | k + 1, ab, f, h => by
    rw [levelsG, List.flatten_cons, List.mem_append] at h
    rcases h with h | h
    · exact (List.mem_filter.1 h).1
    · exact lvG_mem l k _ f h
theorem itmEvs_len (t : Itm) (n : Nat) (h : t.tags.length ≤ n) : (itmEvs t).length ≤ n + 3 := by
  unfold itmEvs
  simp only [List.length_cons, List.length_append, List.length_map]
  split <;> split <;> simp <;> omega
theorem flat_le_ {α β : Type} (f : α → List β) (n : Nat) : ∀ l : List α, (∀ a ∈ l, (f a).length ≤ n) → (l.flatMap f).length ≤ l.length * n
  | [], _ => by simp
  | a :: l, h => by
    have h1 := flat_le_ f n l fun b hb => h b (List.mem_cons_of_mem _ hb)
    have h2 := h a (List.mem_cons_self ..)
    rw [List.flatMap_cons, List.length_append, List.length_cons, Nat.succ_mul]
    omega
theorem topEvs_len (x : St) : (topEvs x).length ≤ 8 := by
  unfold topEvs
  simp only [List.length_append]
  split <;> split <;> split <;> first | (simp; done) | (split <;> simp)
theorem past_len (x : St) (n : Nat) (h : ∀ t ∈ x.itms, t.tags.length ≤ n) : (pastS x).length ≤ 9 + 7 * x.fols.length + x.fees.length + x.itms.length * (n + 3) + x.seas.length := by
  have h1 := topEvs_len x
  have h2 := lvG_len x.fols 7 [0]
  have h3 := flat_le_ itmEvs (n + 3) x.itms fun t ht => itmEvs_len t n (h t ht)
  have h4 : (if x.clock ≠ 0 then [(⟨13, 0, 0, x.clock, eS, eS, eS⟩ : Ev)] else []).length ≤ 1 := by split <;> simp
  unfold pastS levelsS
  simp only [List.length_append, List.length_map]
  omega
/-- a state's numbers fit. -/
structure StNums (x : St) : Prop where
  fols : ∀ f ∈ x.fols, I64 f.id ∧ I64 f.inn
  fees : ∀ f ∈ x.fees, I64 f.id ∧ I64 f.inn
  itms : ∀ t ∈ x.itms, I64 t.id ∧ I64 t.feed
  seas : ∀ f ∈ x.seas, I64 f.id
  tFol : I64 x.tFol
  tFee : I64 x.tFee
  tItm : I64 x.tItm
  tSea : I64 x.tSea
theorem i64_0 : I64 0 := by unfold I64; omega
theorem topEvs_nums {x : St} (h : StNums x) : ∀ e ∈ topEvs x, I64 e.a ∧ I64 e.b := by
  intro e he
  unfold topEvs at he
  simp only [List.mem_append] at he
  rcases he with he | he | he
  · split at he
    · simp at he
      rcases he with rfl | rfl <;> exact ⟨h.tFol, i64_0⟩
    · cases he
  · split at he
    · simp at he
      rcases he with rfl | ⟨-, rfl⟩ | rfl
      · exact ⟨h.tFee, i64_0⟩
      · exact ⟨h.tItm, h.tFee⟩
      · exact ⟨h.tFee, i64_0⟩
    · cases he
  · split at he
    · simp at he
      rcases he with rfl | rfl <;> exact ⟨h.tSea, i64_0⟩
    · cases he
theorem past_nums {x : St} (h : StNums x) : ∀ e ∈ pastS x, I64 e.a ∧ I64 e.b := by
  intro e he
  unfold pastS at he
  simp only [List.mem_append] at he
  rcases he with he | he | he | he | he | he
  · exact topEvs_nums h e he
  · obtain ⟨f, hf, rfl⟩ := List.mem_map.1 he
    exact h.fols f (lvG_mem x.fols 7 [0] f hf)
  · obtain ⟨f, hf, rfl⟩ := List.mem_map.1 he
    exact h.fees f hf
  · obtain ⟨t, ht, he⟩ := List.mem_flatMap.1 he
    have hi := h.itms t ht
    unfold itmEvs at he
    simp only [List.mem_cons, List.mem_append] at he
    rcases he with rfl | (he | he) | he
    · exact hi
    · split at he
      · simp at he
        subst he
        exact ⟨hi.1, i64_0⟩
      · cases he
    · split at he
      · simp at he
        subst he
        exact ⟨hi.1, i64_0⟩
      · cases he
    · obtain ⟨g, -, rfl⟩ := List.mem_map.1 he
      exact ⟨hi.1, i64_0⟩
  · obtain ⟨f, hf, rfl⟩ := List.mem_map.1 he
    exact ⟨h.seas f hf, i64_0⟩
  · split at he
    · simp at he
      subst he
      exact ⟨i64_0, i64_0⟩
    · cases he
theorem StP.inS64 {x : St} (h : StP x) {i : Int} (hi : inS x i = true) : I64 i := by
  rcases inS_iff.1 hi with rfl | ⟨f, hf, rfl⟩
  · exact i64_0
  · have := h.fId hf
    unfold I64
    omega
theorem folder64 {n : Int} (h : folderOk n = true) : I64 n := by
  unfold folderOk at h
  simp only [Bool.or_eq_true, decide_eq_true_eq] at h
  rcases h with h | h
  · rw [h]
    exact i64_0
  · have := idOk_iff.1 h
    unfold I64
    omega
theorem StP.nums {x : St} (h : StP x) : StNums x where
  fols f hf := by
    have h1 := h.fId hf
    have h2 := (h.fE f hf).1
    rw [ev1] at h2
    simp only [Bool.and_eq_true] at h2
    exact ⟨by unfold I64; omega, folder64 h2.1.2⟩
  fees f hf := by
    have h1 := h.eId hf
    have h2 := (h.eE f hf).1
    rw [ev3] at h2
    simp only [Bool.and_eq_true] at h2
    exact ⟨by unfold I64; omega, folder64 h2.1.1.2⟩
  itms t ht := by
    have h1 := h.iId ht
    exact ⟨by unfold I64; omega, by unfold I64; omega⟩
  seas f hf := by
    have h1 := h.sId hf
    unfold I64
    omega
  tFol := by have := h.fT; unfold I64; omega
  tFee := by have := h.eT; unfold I64; omega
  tItm := by have := h.iT; unfold I64; omega
  tSea := by have := h.sT; unfold I64; omega
theorem StP.pastLen {x : St} (h : StP x) : (pastS x).length ≤ 900000 := by
  have h1 := past_len x 8 fun t ht => (h.iE t ht).2.2.2.1
  have h2 := h.fL
  have h3 := h.eL
  have h4 := h.iL
  have h5 := h.sL
  omega
theorem StP.pastNums {x : St} (h : StP x) : ∀ e ∈ pastS x, I64 e.a ∧ I64 e.b := past_nums h.nums
theorem StP.stOk {x : St} (h : StP x) : stOk x = true := (stOk_iff x).2 h

/-- events too large to be looked at. -/
def largeEvs (l : List Ev) : Bool := decide (150 < l.length) || l.any evLarge
theorem largeEvs_take {l : List Ev} {k : Nat} (h : k < l.length) (h1 : (l.take k).any evLarge = false) (h2 : evLarge l[k] = false) : (l.take (k + 1)).any evLarge = false := by
  rw [List.take_succ_eq_append_getElem h, List.any_append, h1]
  simp [h2]
theorem largeEvs_at {l : List Ev} {k : Nat} (h : k < l.length) (h2 : evLarge l[k] = true) : l.any evLarge = true := by
  rw [List.any_eq_true]
  exact ⟨_, List.getElem_mem h, h2⟩
theorem largeEvs_len {l : List Ev} (h : largeEvs l = false) : l.length ≤ 150 := by
  unfold largeEvs at h
  simp only [Bool.or_eq_false_iff, decide_eq_false_iff_not] at h
  omega
end Go.Proofs.YtjnjbmgnbchcjaaGreat
end
section
set_option linter.unusedVariables false
set_option linter.unusedSimpArgs false
namespace Go.Proofs.YtjnjbmgnbchcjaaGreat
open Go.RowKit Go.Lib

theorem maxL : maxLen = 9223372036854775807 := by decide +kernel
set_option maxRecDepth 100000 in
set_option maxHeartbeats 8000000 in
theorem rLargeEvents_any {w : World} {v : Sl} {G : Nat → Prop} (l : List Ev) (hv : SlIn w G 7 v l.length (l.flatMap Ev.cells)) :
    Calls Tryz.prog 19 #[.slice v.1 l.length v.2] w fun e w' => e = .returned (.bool (largeEvs l)) ∧ Frm Nix w w' := by
  have hmx : l.length ≤ 9223372036854775807 := by
    have h1 := hv.cap
    have h2 := hv.max
    rw [maxL] at h2
    omega
  obtain ⟨Av, cv⟩ := v
  dsimp only
  obtain ⟨n, hln⟩ : ∃ n, l.length = n := ⟨_, rfl⟩
  have HL := Lib.hid hln
  have HV := Lib.hid hv
  have HE : Hid (largeEvs l = (decide (150 < n) || l.any evLarge)) := by
    unfold Hid largeEvs
    rw [hln]
  rw [hln] at hmx ⊢
  clear hv hln
  by_cases h150 : 150 < n
  · have h2 : (150 : Int) < (n : Int) := by omega
    go_enter Tryz.func19, Tryz.ntmps19
    go_wp2
    go_ret
    exact ⟨ret_bool (by rw [HE.out]; simp [h150]), Frm.refl _ _⟩
  have h2 : ¬ (150 : Int) < (n : Int) := by omega
  go_enter Tryz.func19, Tryz.ntmps19
  go_wp2
  go_loopw [3] (fun kv wr => ∃ k : Nat, k ≤ n ∧ kv = .int .i64 k ∧ (l.take k).any evLarge = false ∧ Frm Nix w wr) (fun kv _ => n - (intOf kv).toNat)
  case atStart => exact ⟨0, by omega, rfl, by simp, Frm.refl _ _⟩
  case round =>
    obtain ⟨k, hk, rfl, ht, hf⟩ := hrel
    have HT := Lib.hid ht
    have HF := Lib.hid hf
    clear ht hf
    by_cases hlt : k < n
    · have hkl : k < l.length := by rw [HL.out]; exact hlt
      obtain ⟨b, off, hA, -, hbl, hcell⟩ := (HV.out.nix HF.out).at_ Ev.clen (by decide) (by omega)
      dsimp only at hA
      subst hA
      have h7 := evc7 (w := wr) (b := b) (off := off + k * 7) (e := l[k]) (hcell k hkl)
      have HYes := Lib.hid (fun h => largeEvs_at hkl h)
      have HNo := Lib.hid (fun h => largeEvs_take hkl HT.out h)
      obtain ⟨ev, hev⟩ : ∃ ev, l[k] = ev := ⟨_, rfl⟩
      rw [hev] at h7 HYes HNo
      obtain ⟨x0, x1, x2, x3, x4, x5, x6⟩ := h7
      have KL : Hid (∀ W, Calls Tryz.prog 61 #[.agg #[.int .i64 ev.kind, .int .i64 ev.a, .int .i64 ev.b, .int .i64 ev.n, .string ev.s, .string ev.t, .string ev.u]] W fun r w' => r = .returned (.bool (evLarge ev)) ∧ Frm Nix W w') := fun W => rLarge_any ev W
      clear hcell hev
      cases hb : evLarge ev with
      | true =>
        rw [hb] at KL
        have HY := Lib.hid (HYes.out hb)
        clear hb
        go_wp2_with (go_at_call 61; refine (KL.out _).mono ?_; rintro r w2 ⟨rfl, hf2⟩; have HF2 := Lib.hid hf2; clear hf2)
        go_ret
        exact ⟨ret_bool (by rw [HE.out, HY.out]; simp), HF.out.trans HF2.out⟩
      | false =>
        rw [hb] at KL
        have HY := Lib.hid (HNo.out hb)
        clear hb
        go_wp2_with (go_at_call 61; refine (KL.out _).mono ?_; rintro r w2 ⟨rfl, hf2⟩; have HF2 := Lib.hid hf2; clear hf2)
        go_roundw
        case rel => exact ⟨k + 1, by omega, by go_num, HY.out, HF.out.trans HF2.out⟩
        case measure => simp [intOf]; omega
    · obtain rfl : k = n := by omega
      have HTk : Hid (l.any evLarge = false) := by
        have := HT.out
        rw [List.take_of_length_le (by rw [HL.out]; exact Nat.le_refl _)] at this
        exact this
      go_wp2
      go_ret
      exact ⟨ret_bool (by rw [HE.out, HTk.out]; simp; omega), HF.out⟩
end Go.Proofs.YtjnjbmgnbchcjaaGreat
end
section
set_option linter.unusedVariables false
set_option linter.unusedSimpArgs false
namespace Go.Proofs.YtjnjbmgnbchcjaaGreat
open Go.RowKit Go.Lib

/-- a list of events as an argument. -/
structure EvsIn (w : World) (G : Nat → Prop) (v : Sl) (l : List Ev) : Prop where
  sl : SlIn w G 7 v l.length (l.flatMap Ev.cells)
  num : ∀ e ∈ l, I64 e.a ∧ I64 e.b
section
variable {w w1 : World} {G F : Nat → Prop} {v : Sl} {l : List Ev}
theorem EvsIn.nix (h : EvsIn w G v l) (hf : Frm Nix w w1) : EvsIn w1 G v l := ⟨h.sl.nix hf, h.num⟩
theorem EvsIn.frm (h : EvsIn w G v l) (hf : Frm F w w1) (hd : ∀ k, G k → ¬ F k) : EvsIn w1 G v l := ⟨h.sl.frm hf hd, h.num⟩
theorem EvsIn.large (h : EvsIn w G v l) : Calls Tryz.prog 19 #[.slice v.1 l.length v.2] w fun e w' => e = .returned (.bool (largeEvs l)) ∧ Frm Nix w w' := rLargeEvents_any l h.sl
theorem EvsIn.fold (h : EvsIn w G v l) (hl : largeEvs l = false) : Calls Tryz.prog 23 #[.slice v.1 l.length v.2] w fun e w' => ∃ g M, e = .returned (.pointer (some ⟨g, 0, none⟩)) ∧ StAt w' g M (foldE st0 l) ∧ Frm Nix w w' ∧ ∀ k, SF g M k → w.heap.size ≤ k :=
  Fold_any l h.sl h.num (by have := largeEvs_len hl; omega)
end
theorem From_fold {w : World} {fo fe it se : Sl} {ts : List (Sl × Itm)} {x : St} {G : Nat → Prop} (hS : StIn w G fo fe it se ts x) (hx : StP x) :
    Calls Tryz.prog 25 #[stV fo fe it se x] w fun e w' => ∃ g M, e = .returned (.tuple #[.pointer (some ⟨g, 0, none⟩), .int .i64 0]) ∧ StAt w' g M x ∧ Frm Nix w w' ∧ ∀ k, SF g M k → w.heap.size ≤ k :=
  From_yes hS hx.small hx.pastLen hx.pastNums hx.stOk
theorem Check_fold {w : World} {fo fe it se : Sl} {ts : List (Sl × Itm)} {x : St} {G : Nat → Prop} (hS : StIn w G fo fe it se ts x) (hx : StP x) :
    Calls Tryz.prog 28 #[stV fo fe it se x] w fun e w' => e = .returned (.int .i64 0) ∧ Frm Nix w w' := by
  have := Check_any hS hx.small hx.pastLen hx.pastNums
  rw [hx.stOk] at this
  exact this

set_option maxRecDepth 100000 in
set_option maxHeartbeats 16000000 in
theorem may_large1 {w : World} {G G' : Nat → Prop} {v v' : Sl} {l m : List Ev} (hl : EvsIn w G v l) (hm : EvsIn w G' v' m) (hlg : largeEvs l = true) : Calls Tryz.prog 5 #[.slice v.1 l.length v.2, .slice v'.1 m.length v'.2] w fun e w' => e = .returned (.bool true) ∧ Frm Nix w w' := by
  have HL := Lib.hid hl
  have HM := Lib.hid hm
  have HLG := Lib.hid hlg
  clear hl hm hlg
  obtain ⟨Av, cv⟩ := v
  obtain ⟨Bv, dv⟩ := v'
  have KL : Hid (∀ W, Frm Nix w W → Calls Tryz.prog 19 #[.slice Av l.length cv] W fun e w' => e = .returned (.bool (largeEvs l)) ∧ Frm Nix W w') := fun W hW => (HL.out.nix hW).large
  have KM : Hid (∀ W, Frm Nix w W → Calls Tryz.prog 19 #[.slice Bv m.length dv] W fun e w' => e = .returned (.bool (largeEvs m)) ∧ Frm Nix W w') := fun W hW => (HM.out.nix hW).large
  have KF : Hid (∀ W, Frm Nix w W → largeEvs l = false → Calls Tryz.prog 23 #[.slice Av l.length cv] W fun e w' => ∃ g M, e = .returned (.pointer (some ⟨g, 0, none⟩)) ∧ StAt w' g M (foldE st0 l) ∧ Frm Nix W w' ∧ ∀ k, SF g M k → W.heap.size ≤ k) := fun W hW => (HL.out.nix hW).fold
  dsimp only
  obtain ⟨n1, hn1⟩ : ∃ n1, l.length = n1 := ⟨_, rfl⟩
  obtain ⟨n2, hn2⟩ : ∃ n2, m.length = n2 := ⟨_, rfl⟩
  rw [HLG.out, hn1] at KL
  rw [hn1, hn2]
  clear hn1 hn2
  go_enter Tryz.func5, Tryz.ntmps5
  go_wp2_with (first
    | (go_at_call 16; have _q := Z1; refine (lives_any _).mono ?_; rintro e w2 ⟨rfl, hf⟩; have Z2 : Hid (Frm Nix w w2) := Z1.out.trans hf; clear hf)
    | (go_at_call 19; refine (KL.out _ (Frm.refl Nix w)).mono ?_; rintro e w1 ⟨rfl, hf⟩; have Z1 := Lib.hid hf; clear hf))
  go_ret
  exact ⟨rfl, Z2.out⟩

set_option maxRecDepth 100000 in
set_option maxHeartbeats 16000000 in
theorem may_large2 {w : World} {G G' : Nat → Prop} {v v' : Sl} {l m : List Ev} (hl : EvsIn w G v l) (hm : EvsIn w G' v' m) (hlg : largeEvs l = false ∧ largeEvs m = true) : Calls Tryz.prog 5 #[.slice v.1 l.length v.2, .slice v'.1 m.length v'.2] w fun e w' => e = .returned (.bool true) ∧ Frm Nix w w' := by
  have HL := Lib.hid hl
  have HM := Lib.hid hm
  have HLG := Lib.hid hlg
  clear hl hm hlg
  obtain ⟨Av, cv⟩ := v
  obtain ⟨Bv, dv⟩ := v'
  have KL : Hid (∀ W, Frm Nix w W → Calls Tryz.prog 19 #[.slice Av l.length cv] W fun e w' => e = .returned (.bool (largeEvs l)) ∧ Frm Nix W w') := fun W hW => (HL.out.nix hW).large
  have KM : Hid (∀ W, Frm Nix w W → Calls Tryz.prog 19 #[.slice Bv m.length dv] W fun e w' => e = .returned (.bool (largeEvs m)) ∧ Frm Nix W w') := fun W hW => (HM.out.nix hW).large
  have KF : Hid (∀ W, Frm Nix w W → largeEvs l = false → Calls Tryz.prog 23 #[.slice Av l.length cv] W fun e w' => ∃ g M, e = .returned (.pointer (some ⟨g, 0, none⟩)) ∧ StAt w' g M (foldE st0 l) ∧ Frm Nix W w' ∧ ∀ k, SF g M k → W.heap.size ≤ k) := fun W hW => (HL.out.nix hW).fold
  dsimp only
  obtain ⟨n1, hn1⟩ : ∃ n1, l.length = n1 := ⟨_, rfl⟩
  obtain ⟨n2, hn2⟩ : ∃ n2, m.length = n2 := ⟨_, rfl⟩
  rw [HLG.out.1, hn1] at KL
  rw [HLG.out.2, hn2] at KM
  rw [hn1, hn2]
  clear hn1 hn2
  go_enter Tryz.func5, Tryz.ntmps5
  go_wp2_with (first
    | (go_at_call 16; have _q := Z2; refine (lives_any _).mono ?_; rintro e w3 ⟨rfl, hf⟩; have Z3 : Hid (Frm Nix w w3) := Z2.out.trans hf; clear hf)
    | (go_at_call 19; have _q := Z1; refine (KM.out _ Z1.out).mono ?_; rintro e w2 ⟨rfl, hf⟩; have Z2 : Hid (Frm Nix w w2) := Z1.out.trans hf; clear hf)
    | (go_at_call 19; refine (KL.out _ (Frm.refl Nix w)).mono ?_; rintro e w1 ⟨rfl, hf⟩; have Z1 := Lib.hid hf; clear hf))
  go_ret
  exact ⟨rfl, Z3.out⟩

set_option maxRecDepth 100000 in
set_option maxHeartbeats 16000000 in
theorem may_walk0 {w : World} {G G' : Nat → Prop} {v v' : Sl} {l m : List Ev} (hl : EvsIn w G v l) (hm : EvsIn w G' v' m) (hG : ∀ k, G' k → k < w.heap.size) (hlg : largeEvs l = false ∧ largeEvs m = false) : Calls Tryz.prog 5 #[.slice v.1 l.length v.2, .slice v'.1 m.length v'.2] w fun e w' => e = .returned (.bool true) ∧ Frm Nix w w' := by
  have HL := Lib.hid hl
  have HM := Lib.hid hm
  have HLG := Lib.hid hlg
  clear hl hm hlg
  obtain ⟨Av, cv⟩ := v
  obtain ⟨Bv, dv⟩ := v'
  have KL : Hid (∀ W, Frm Nix w W → Calls Tryz.prog 19 #[.slice Av l.length cv] W fun e w' => e = .returned (.bool (largeEvs l)) ∧ Frm Nix W w') := fun W hW => (HL.out.nix hW).large
  have KM : Hid (∀ W, Frm Nix w W → Calls Tryz.prog 19 #[.slice Bv m.length dv] W fun e w' => e = .returned (.bool (largeEvs m)) ∧ Frm Nix W w') := fun W hW => (HM.out.nix hW).large
  have KF : Hid (∀ W, Frm Nix w W → largeEvs l = false → Calls Tryz.prog 23 #[.slice Av l.length cv] W fun e w' => ∃ g M, e = .returned (.pointer (some ⟨g, 0, none⟩)) ∧ StAt w' g M (foldE st0 l) ∧ Frm Nix W w' ∧ ∀ k, SF g M k → W.heap.size ≤ k) := fun W hW => (HL.out.nix hW).fold
  dsimp only
  obtain ⟨x, hx⟩ : ∃ x, foldE st0 l = x := ⟨_, rfl⟩
  have HP : Hid (StP x) := by rw [← hx]; exact foldE_ok l st0_ok
  have HNum : Hid (∀ e ∈ m, I64 e.a ∧ I64 e.b) := HM.out.num
  obtain ⟨n1, hn1⟩ : ∃ n1, l.length = n1 := ⟨_, rfl⟩
  obtain ⟨n, hn⟩ : ∃ n, m.length = n := ⟨_, rfl⟩
  have HN := Lib.hid hn
  have hn150 := largeEvs_len HLG.out.2
  rw [HLG.out.1, hn1] at KL
  rw [HLG.out.2, hn] at KM
  have KF2 := Lib.hid (fun W hW => KF.out W hW HLG.out.1)
  rw [hn1, hx] at KF2
  rw [hn] at hn150
  rw [hn1, hn]
  clear hn1 hn hx KF
  go_enter Tryz.func5, Tryz.ntmps5
  show Code.wp Tryz.prog (peel 0 (bodyOf Tryz.f5)) _ _ _
  have e1 : peel 0 (bodyOf Tryz.f5) = .seq (hdC (peel 0 (bodyOf Tryz.f5))) (peel 1 (bodyOf Tryz.f5)) := by kernel_rfl
  rw [e1]
  clear e1
  refine wp_seq_k fun K hK => ?_
  conv in hdC _ => whnf
  go_wp2
  have e1 : peel 1 (bodyOf Tryz.f5) = .seq (hdC (peel 1 (bodyOf Tryz.f5))) (peel 2 (bodyOf Tryz.f5)) := by kernel_rfl
  rw [e1]
  clear e1
  refine wp_seq_k fun K hK => ?_
  conv in hdC _ => whnf
  go_wp2_with (first
    | (go_at_call 19; have _q := Z1; refine (KM.out _ Z1.out).mono ?_; rintro e w2 ⟨rfl, hf⟩; have Z2 : Hid (Frm Nix w w2) := Z1.out.trans hf; clear hf)
    | (go_at_call 19; refine (KL.out _ (Frm.refl Nix w)).mono ?_; rintro e w1 ⟨rfl, hf⟩; have Z1 := Lib.hid hf; clear hf))
  have e1 : peel 2 (bodyOf Tryz.f5) = .seq (hdC (peel 2 (bodyOf Tryz.f5))) (peel 3 (bodyOf Tryz.f5)) := by kernel_rfl
  rw [e1]
  clear e1
  refine wp_seq_k fun K hK => ?_
  conv in hdC _ => whnf
  go_wp2_with (go_at_call 23; refine (KF2.out _ Z2.out).mono ?_; rintro e w3 ⟨g, M, rfl, hs, hf, hg⟩; have HG : Hid (∀ k, SF g M k → w.heap.size ≤ k) := (fun k hk => Nat.le_trans Z2.out.size (hg k hk)); have H3 := Lib.hid hs; have Z3 : Hid (Frm Nix w w3) := Z2.out.trans hf; clear hs hf hg)
  have e1 : peel 3 (bodyOf Tryz.f5) = .seq (hdC (peel 3 (bodyOf Tryz.f5))) (peel 4 (bodyOf Tryz.f5)) := by kernel_rfl
  rw [e1]
  clear e1
  refine wp_seq_k fun K hK => ?_
  conv in hdC _ => whnf
  go_wp2_with (go_at_call 16; refine (lives_any _).mono ?_; rintro e w4 ⟨rfl, hf⟩; have H4 := Lib.hid (H3.out.nix hf); have Z4 : Hid (Frm Nix w w4) := Z3.out.trans hf; clear hf)
  have e1 : peel 4 (bodyOf Tryz.f5) = .seq (hdC (peel 4 (bodyOf Tryz.f5))) (peel 5 (bodyOf Tryz.f5)) := by kernel_rfl
  rw [e1]
  clear e1
  refine wp_seq_k fun K hK => ?_
  conv in hdC _ => whnf
  go_wp2_with (first
    | (go_at_call 25; have _q := D5; refine (From_fold D5.out HP.out).mono ?_; rintro e w6 ⟨g2, M2, rfl, hs, hf, hg⟩; have HG2 : Hid (∀ k, SF g2 M2 k → w.heap.size ≤ k) := (fun k hk => Nat.le_trans Z5.out.size (hg k hk)); have HA : Hid (∀ k, SF g M k → ¬ SF g2 M2 k) := (fun k h1 h2 => by have := H5.out.lt k h1; have := hg k h2; omega); have H6 := Lib.hid (H5.out.nix hf); have J6 := Lib.hid hs; have Z6 : Hid (Frm Nix w w6) := Z5.out.trans hf; clear hs hf hg)
    | (go_at_call 18; refine (Tell_any H4.out).mono ?_; rintro e w5 ⟨fo5, fe5, it5, se5, ts5, rfl, hd, hf⟩; have D5 := Lib.hid hd; have H5 := Lib.hid (H4.out.nix hf); have Z5 : Hid (Frm Nix w w5) := Z4.out.trans hf; clear hd hf))
  have e1 : peel 5 (bodyOf Tryz.f5) = .seq (hdC (peel 5 (bodyOf Tryz.f5))) (peel 6 (bodyOf Tryz.f5)) := by kernel_rfl
  rw [e1]
  clear e1
  refine wp_seq_k fun K hK => ?_
  conv in hdC _ => whnf
  go_wp2_with (first
    | (go_at_call 28; have _q := D7; refine (Check_fold D7.out HP.out).mono ?_; rintro e w8 ⟨rfl, hf⟩; have H8 := Lib.hid (H7.out.nix hf); have J8 := Lib.hid (J7.out.nix hf); have Z8 : Hid (Frm Nix w w8) := Z7.out.trans hf; clear hf)
    | (go_at_call 18; refine (Tell_any H6.out).mono ?_; rintro e w7 ⟨fo7, fe7, it7, se7, ts7, rfl, hd, hf⟩; have D7 := Lib.hid hd; have H7 := Lib.hid (H6.out.nix hf); have Z7 : Hid (Frm Nix w w7) := Z6.out.trans hf; have J7 := Lib.hid (J6.out.nix hf); clear hd hf))
  have e1 : peel 6 (bodyOf Tryz.f5) = .seq (hdC (peel 6 (bodyOf Tryz.f5))) (peel 7 (bodyOf Tryz.f5)) := by kernel_rfl
  rw [e1]
  clear e1
  refine wp_seq_k fun K hK => ?_
  conv in hdC _ => whnf
  go_wp2
  go_loopw [8] (fun kv wr => ∃ k : Nat, k ≤ n ∧ kv = .int .i64 k ∧ StAt wr g M (foldE x (m.take k)) ∧ StAt wr g2 M2 (foldE x (m.take k)) ∧ Frm Nix w wr) (fun kv _ => n - (intOf kv).toNat)
  case atStart => exact ⟨0, by omega, rfl, H8.out, J8.out, Z8.out⟩
  case round =>
    obtain ⟨k, hk, rfl, hs, hj, hf⟩ := hrel
    have H9 := Lib.hid hs
    have J9 := Lib.hid hj
    have Z9 := Lib.hid hf
    clear hs hj hf
    by_cases hlt : k < n
    · have hkl : k < m.length := by rw [HN.out]; exact hlt
      obtain ⟨b, off, hA, hgb, hbl, hcell⟩ := (HM.out.sl.nix Z9.out).at_ Ev.clen (by decide) (by omega)
      dsimp only at hA
      subst hA
      have hb9 := hG b hgb
      have HGb : Hid ((∀ k, SF g M k → b ≠ k) ∧ ∀ k, SF g2 M2 k → b ≠ k) := ⟨fun k hk => by have := HG.out k hk; omega, fun k hk => by have := HG2.out k hk; omega⟩
      have h7 := evc7 (w := wr) (b := b) (off := off + k * 7) (e := m[k]) (hcell k hkl)
      have hie := HNum.out m[k] (List.getElem_mem hkl)
      have HFT := Lib.hid (foldE_take (x := x) hkl)
      obtain ⟨ev, hev⟩ : ∃ ev, m[k] = ev := ⟨_, rfl⟩
      rw [hev] at h7 hie HFT
      obtain ⟨x0, x1, x2, x3, x4, x5, x6⟩ := h7
      have HC : Hid (∀ (F : Nat → Prop) W, (∀ k, F k → b ≠ k) → Frm F wr W → W.cell? ⟨b, off + k * 7, none⟩ = some (.int .i64 ev.kind) ∧ W.cell? ⟨b, off + k * 7 + 1, none⟩ = some (.int .i64 ev.a) ∧ W.cell? ⟨b, off + k * 7 + 2, none⟩ = some (.int .i64 ev.b) ∧ W.cell? ⟨b, off + k * 7 + 3, none⟩ = some (.int .i64 ev.n) ∧ W.cell? ⟨b, off + k * 7 + 4, none⟩ = some (.string ev.s) ∧ W.cell? ⟨b, off + k * 7 + 5, none⟩ = some (.string ev.t) ∧ W.cell? ⟨b, off + k * 7 + 6, none⟩ = some (.string ev.u)) := fun F W hF hW => by
        have hn' : ¬ F b := fun h => hF b h rfl
        exact ⟨(hW.cell (p := ⟨b, off + k * 7, none⟩) hbl hn').trans x0, (hW.cell (p := ⟨b, off + k * 7 + 1, none⟩) hbl hn').trans x1, (hW.cell (p := ⟨b, off + k * 7 + 2, none⟩) hbl hn').trans x2, (hW.cell (p := ⟨b, off + k * 7 + 3, none⟩) hbl hn').trans x3, (hW.cell (p := ⟨b, off + k * 7 + 4, none⟩) hbl hn').trans x4, (hW.cell (p := ⟨b, off + k * 7 + 5, none⟩) hbl hn').trans x5, (hW.cell (p := ⟨b, off + k * 7 + 6, none⟩) hbl hn').trans x6⟩
      have KA : Hid (∀ W, Frm Nix wr W → Calls Tryz.prog 22 #[.pointer (some ⟨g, 0, none⟩), .agg #[.int .i64 ev.kind, .int .i64 ev.a, .int .i64 ev.b, .int .i64 ev.n, .string ev.s, .string ev.t, .string ev.u]] W fun r w' => r = .returned (.bool (applyS (foldE x (m.take k)) ev).2) ∧ StAt w' g M (foldE x (m.take (k + 1))) ∧ StAt w' g2 M2 (foldE x (m.take k)) ∧ Frm Nix w w' ∧ Frm (SF g M) wr w') := fun W hW =>
        (Apply_any (H9.out.nix hW) ev hie.1 hie.2).mono fun r w' ⟨h1, h2, h3⟩ => ⟨h1, by rw [HFT.out]; exact h2, (J9.out.nix hW).frm h3 (fun k h1 h2 => HA.out k h2 h1) (H9.out.nix hW).str, frm_own (Z9.out.trans hW) h3 HG.out, hW.nix.trans h3⟩
      have KB : Hid (∀ W, StAt W g M (foldE x (m.take (k + 1))) ∧ StAt W g2 M2 (foldE x (m.take k)) ∧ Frm Nix w W ∧ Frm (SF g M) wr W → Calls Tryz.prog 22 #[.pointer (some ⟨g2, 0, none⟩), .agg #[.int .i64 ev.kind, .int .i64 ev.a, .int .i64 ev.b, .int .i64 ev.n, .string ev.s, .string ev.t, .string ev.u]] W fun r w' => r = .returned (.bool (applyS (foldE x (m.take k)) ev).2) ∧ StAt w' g M (foldE x (m.take (k + 1))) ∧ StAt w' g2 M2 (foldE x (m.take (k + 1))) ∧ Frm Nix w w' ∧ Frm (fun k => SF g M k ∨ SF g2 M2 k) wr w') := fun W ⟨q1, q2, q3, q4⟩ =>
        (Apply_any q2 ev hie.1 hie.2).mono fun r w' ⟨h1, h2, h3⟩ => ⟨h1, q1.frm h3 HA.out q2.str, by rw [HFT.out]; exact h2, frm_own q3 h3 HG2.out, (q4.mono fun k hk => .inl hk).trans (h3.mono fun k hk => .inr hk)⟩
      clear hcell hev hie
      generalize (applyS (foldE x (m.take k)) ev).2 = bb at *
      go_wp2
      go_region_held3 (fun W => W.cell? ⟨b, off + k * 7, none⟩ = some (.int .i64 ev.kind) ∧ W.cell? ⟨b, off + k * 7 + 1, none⟩ = some (.int .i64 ev.a) ∧ W.cell? ⟨b, off + k * 7 + 2, none⟩ = some (.int .i64 ev.b) ∧ W.cell? ⟨b, off + k * 7 + 3, none⟩ = some (.int .i64 ev.n) ∧ W.cell? ⟨b, off + k * 7 + 4, none⟩ = some (.string ev.s) ∧ W.cell? ⟨b, off + k * 7 + 5, none⟩ = some (.string ev.t) ∧ W.cell? ⟨b, off + k * 7 + 6, none⟩ = some (.string ev.u)) (first | go_keep | exact HC.out _ _ (fun k hk => HGb.out.1 k hk) HQ1.out.2.2.2 | exact HC.out _ _ (fun k hk => hk.elim (HGb.out.1 k) (HGb.out.2 k)) HQ2.out.2.2.2)
        (first
          | (go_at_call 22; have _q := HQ1; refine (KB.out _ HQ1.out).mono ?_; rintro r w11 ⟨rfl, hq⟩; have HQ2 := Lib.hid hq; clear hq)
          | (go_at_call 22; refine (KA.out _ (by first | exact (Frm.refl Nix _).drew | exact Frm.refl Nix _)).mono ?_; rintro r w10 ⟨rfl, hq⟩; have HQ1 := Lib.hid hq; clear hq))
      go_wp2
      go_roundw
      case rel => exact ⟨k + 1, by omega, by go_num, HQ2.out.1, HQ2.out.2.1, HQ2.out.2.2.1⟩
      case measure => simp [intOf]; omega
    · obtain rfl : k = n := by omega
      have HTk : Hid (m.take k = m) := List.take_of_length_le (by rw [HN.out]; exact Nat.le_refl _)
      have hs := H9.out
      have hj := J9.out
      rw [HTk.out] at hs hj
      have H10 := Lib.hid hs
      have J10 := Lib.hid hj
      clear hs hj
      obtain ⟨y, hy⟩ : ∃ y, foldE x m = y := ⟨_, rfl⟩
      rw [hy] at H10 J10
      have HPy : Hid (StP y) := H10.out.ok
      have KS : Hid (∀ W fo fe it se ts G fo' fe' it' se' ts' G', StIn W G fo fe it se ts y → StIn W G' fo' fe' it' se' ts' y → Calls Tryz.prog 26 #[stV fo fe it se y, stV fo' fe' it' se' y] W fun e w' => e = .returned (.bool true) ∧ Frm Nix W w') := fun W fo fe it se ts G fo' fe' it' se' ts' G' h h' => by
        have := Same_any h h' HPy.out.small HPy.out.small
        rw [decide_eq_true rfl] at this
        exact this
      clear hy
      go_wp2
      simp only [peel, bodyOf, Tryz.f5]
      go_wp2_with (first
        | (go_at_call 26; have _q := E12; refine (KS.out _ _ _ _ _ _ _ _ _ _ _ _ _ D12.out E12.out).mono ?_; rintro e w13 ⟨rfl, hf⟩; have Z13 : Hid (Frm Nix w w13) := Z12.out.trans hf; clear hf)
        | (go_at_call 18; have _q := D11; refine (Tell_any J11.out).mono ?_; rintro e w12 ⟨fo12, fe12, it12, se12, ts12, rfl, hd, hf⟩; have E12 := Lib.hid hd; have D12 := Lib.hid (D11.out.nix hf); have Z12 : Hid (Frm Nix w w12) := Z11.out.trans hf; clear hd hf)
        | (go_at_call 18; refine (Tell_any H10.out).mono ?_; rintro e w11 ⟨fo11, fe11, it11, se11, ts11, rfl, hd, hf⟩; have D11 := Lib.hid hd; have J11 := Lib.hid (J10.out.nix hf); have Z11 : Hid (Frm Nix w w11) := Z9.out.trans hf; clear hd hf))
      go_ret
      exact ⟨rfl, Z13.out⟩

theorem may_walk {w : World} {G G' : Nat → Prop} {v v' : Sl} {l m : List Ev} (hl : EvsIn w G v l) (hm : EvsIn w G' v' m) (hG : ∀ k, G' k → k < w.heap.size) : Calls Tryz.prog 5 #[.slice v.1 l.length v.2, .slice v'.1 m.length v'.2] w fun e w' => e = .returned (.bool true) ∧ Frm Nix w w' := by
  cases h1 : largeEvs l with
  | true => exact may_large1 hl hm h1
  | false =>
    cases h2 : largeEvs m with
    | true => exact may_large2 hl hm ⟨h1, h2⟩
    | false => exact may_walk0 hl hm hG ⟨h1, h2⟩
end Go.Proofs.YtjnjbmgnbchcjaaGreat
end
