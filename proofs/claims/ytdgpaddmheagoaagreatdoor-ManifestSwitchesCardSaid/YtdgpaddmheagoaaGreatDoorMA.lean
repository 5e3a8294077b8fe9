/-
  Contracts: which manifests may be, by the program and by the document.
-/
import Derived.Test.YtdgpaddmheagoaaGreatDoorManM
import Derived.Test.YtdgpaddmheagoaaGreatDoorDiskK
namespace Go.Proofs.YtdgpaddmheagoaaGreatDoor
open Go.RowKit
set_option linter.unusedVariables false

/-- a manifest as an argument. -/
def manV (m : Man) (A : Option Addr) (c : Nat) : Value := .agg #[.int .i64 m.gen, .int .i64 m.snap, .slice A m.segs.length c]
/-- .. its numbers are int's, its segments read so. -/
structure ManIn (w : World) (G : Nat → Prop) (m : Man) (A : Option Addr) (c : Nat) : Prop where
  g0 : -9223372036854775808 ≤ m.gen
  g1 : m.gen ≤ 9223372036854775807
  s0 : -9223372036854775808 ≤ m.snap
  s1 : m.snap ≤ 9223372036854775807
  rd : Rd w G 1 A m.segs.length (ivs m.segs)
  cap : m.segs.length ≤ c
  max : c ≤ maxLen
  vals : ∀ k ∈ m.segs, -9223372036854775808 ≤ k ∧ k ≤ 9223372036854775807
theorem ManIn.frm {w w1 : World} {G F : Nat → Prop} {m : Man} {A : Option Addr} {c : Nat} (h : ManIn w G m A c) (hf : Frm F w w1) (hd : ∀ k, G k → ¬ F k) : ManIn w1 G m A c := { h with rd := h.rd.frm hf hd }
theorem ManIn.nix {w w1 : World} {G : Nat → Prop} {m : Man} {A : Option Addr} {c : Nat} (h : ManIn w G m A c) (hf : Frm Nix w w1) : ManIn w1 G m A c := h.frm hf fun _ _ => id
theorem ivs_at (l : List Int) (k : Nat) (h : k < l.length) : (ivs l)[k]? = some (.int .i64 l[k]) := by simp [ivs, List.getElem?_eq_getElem h]

def risV (l : List Int) : Bool := decide (1 ≤ l.length) && decide (l.length ≤ 32) && risB 0 l

set_option maxRecDepth 100000 in
set_option maxHeartbeats 1000000 in
theorem rising_any (A : Option Addr) (n c : Nat) (l : List Int) (G : Nat → Prop) (w : World) (hl : l.length = n) (hr : Rd w G 1 A n (ivs l)) (hn : n ≤ 9223372036854775807) :
    Calls Tryz.prog 56 #[.slice A n c] w fun e w' => e = .returned (.bool (risV l)) ∧ w' = w := by
  have HL := Lib.hid hl
  have HR := Lib.hid hr
  clear hl hr
  go_enter Tryz.func56, Tryz.ntmps56
  go_wp2
  go_loop [3, 5, 8] (fun lv _ kv => ∃ (k : Nat) (last : Int), k ≤ n ∧ kv = .int .i64 k ∧ lv = .int .i64 last ∧ risB last (l.drop k) = risB 0 l) (fun _ _ kv => n - (intOf kv).toNat)
  case atStart => exact ⟨0, 0, by omega, rfl, rfl, rfl⟩
  case round =>
    obtain ⟨k, last, hk, rfl, rfl, hg⟩ := hrel
    have HG := Lib.hid hg
    clear hg
    by_cases hlt : k < n
    · obtain ⟨ad, u, rfl, -, hla, hu, hcu⟩ := HR.out.at_ (k := k) hlt
      have hkl : k < l.length := by rw [HL.out]; exact hlt
      rw [ivs_at l k hkl] at hu
      obtain rfl := Option.some.inj hu
      have HS : Hid ((decide (last < l[k]) && decide (l[k] ≤ 2048) && risB l[k] (l.drop (k + 1))) = risB 0 l) := by
        have := HG.out
        rw [List.drop_eq_getElem_cons hkl] at this
        exact this
      generalize l[k] = x at *
      clear hu
      by_cases h1 : last < x
      · by_cases h2 : x ≤ 2048
        · have d1 : decide (x ≤ last) = false := by simp; omega
          have d2 : decide (2048 < x) = false := by simp; omega
          go_wp2
          go_round
          case rel => exact ⟨k + 1, x, by omega, by go_num, rfl, by rw [← HS.out, decide_eq_true h1, decide_eq_true h2]; rfl⟩
          case measure => simp [intOf]; omega
        · have d1 : decide (x ≤ last) = false := by simp; omega
          have d2 : decide (2048 < x) = true := by simp; omega
          have HE : Hid (risV l = false) := by
            unfold Hid risV
            rw [← HS.out, decide_eq_false h2]
            simp
          go_wp2
          go_ret
          exact ⟨by rw [HE.out]; rfl, rfl⟩
      · have d1 : decide (x ≤ last) = true := by simp; omega
        have HE : Hid (risV l = false) := by
          unfold Hid risV
          rw [← HS.out, decide_eq_false h1]
          simp
        go_wp2
        go_ret
        exact ⟨by rw [HE.out]; rfl, rfl⟩
    · have HE : Hid (risV l = (decide (1 ≤ n) && decide (n ≤ 32))) := by
        have := HG.out
        rw [List.drop_of_length_le (by rw [HL.out]; omega)] at this
        unfold Hid risV
        rw [← this, HL.out]
        simp [risB]
      by_cases h1 : 1 ≤ n
      · by_cases h2 : n ≤ 32
        · have d1 : decide ((1 : Int) ≤ (n : Int)) = true := by simp; omega
          have d2 : decide ((n : Int) ≤ 32) = true := by simp; omega
          go_wp2
          go_ret
          exact ⟨by rw [HE.out, decide_eq_true h1, decide_eq_true h2]; rfl, rfl⟩
        · have d1 : decide ((1 : Int) ≤ (n : Int)) = true := by simp; omega
          have d2 : decide ((n : Int) ≤ 32) = false := by simp; omega
          go_wp2
          go_ret
          exact ⟨by rw [HE.out, decide_eq_true h1, decide_eq_false h2]; rfl, rfl⟩
      · have d1 : decide ((1 : Int) ≤ (n : Int)) = false := by simp; omega
        go_wp2
        go_ret
        exact ⟨by rw [HE.out, decide_eq_false h1]; rfl, rfl⟩

theorem headD_at (l : List Int) (h : 0 < l.length) : l[0] = l.headD 0 := by
  cases l with
  | nil => cases h
  | cons a l => rfl
def CheckOut (w : World) (n : Int) (e : Ending) (w' : World) : Prop := e = .returned (.int .i64 n) ∧ Frm Nix w w'
theorem manOk_bad {m : Man} (h : m.gen < 1 ∨ 9007199254740991 < m.gen ∨ m.snap < 0 ∨ 2048 < m.snap ∨ risV m.segs = false ∨ m.snap + 1 < m.segs.headD 0) : manOk m = false := by
  cases e : manOk m
  · rfl
  · obtain ⟨h1, h2, h3, h4, h5, h6, h7, h8⟩ := manOk_parts e
    rcases h with h | h | h | h | h | h
    · omega
    · omega
    · omega
    · omega
    · simp [risV, h5, h6, h7] at h
    · omega
theorem manOk_good {m : Man} (h1 : ¬ m.gen < 1) (h2 : ¬ 9007199254740991 < m.gen) (h3 : ¬ m.snap < 0) (h4 : ¬ 2048 < m.snap) (h5 : risV m.segs = true) (h6 : ¬ m.snap + 1 < m.segs.headD 0) : manOk m = true := by
  simp only [risV, Bool.and_eq_true, decide_eq_true_eq] at h5
  simp only [manOk, Bool.and_eq_true, decide_eq_true_eq, most]
  obtain ⟨⟨a, b⟩, c⟩ := h5
  exact ⟨⟨⟨⟨⟨⟨⟨by omega, decide_eq_true (by omega)⟩, by omega⟩, by omega⟩, a⟩, b⟩, c⟩, by omega⟩

set_option maxRecDepth 100000 in
set_option maxHeartbeats 4000000 in
theorem pCheck_any (m : Man) (A : Option Addr) (c : Nat) (G : Nat → Prop) (w : World) (h : ManIn w G m A c) :
    Calls Tryz.prog 20 #[manV m A c] w (CheckOut w (if manOk m then 0 else 1)) := by
  obtain ⟨g0, g1, s0, s1, hr, hc, hm, hv⟩ := h
  unfold maxLen at hm
  unfold manV
  have HF : Hid (∀ k, Frm Nix w ((w.alloc (.cells #[.int .i64 m.gen, .int .i64 m.snap, .slice A m.segs.length c] 25)).drewN k)) := fun k => ((Frm.refl Nix w).alloc _).drewN k
  by_cases c1 : m.gen < 1
  · have d1 : decide (m.gen < 1) = true := by simp [c1]
    rw [manOk_bad (.inl c1)]
    clear hr hv
    go_enter Tryz.func20, Tryz.ntmps20
    go_wp2
    go_quiet (fail)
    go_wp2
    go_ret
    exact ⟨rfl, HF.out _⟩
  have d1 : decide (m.gen < 1) = false := by simp [c1]
  by_cases c2 : 9007199254740991 < m.gen
  · have d2 : decide (9007199254740991 < m.gen) = true := by simp [c2]
    rw [manOk_bad (.inr (.inl c2))]
    clear hr hv
    go_enter Tryz.func20, Tryz.ntmps20
    go_wp2
    go_quiet (fail)
    go_wp2
    go_ret
    exact ⟨rfl, HF.out _⟩
  have d2 : decide (9007199254740991 < m.gen) = false := by simp [c2]
  by_cases c3 : m.snap < 0
  · have d3 : decide (m.snap < 0) = true := by simp [c3]
    rw [manOk_bad (.inr (.inr (.inl c3)))]
    clear hr hv
    go_enter Tryz.func20, Tryz.ntmps20
    go_wp2
    go_quiet (fail)
    go_wp2
    go_ret
    exact ⟨rfl, HF.out _⟩
  have d3 : decide (m.snap < 0) = false := by simp [c3]
  by_cases c4 : 2048 < m.snap
  · have d4 : decide (2048 < m.snap) = true := by simp [c4]
    rw [manOk_bad (.inr (.inr (.inr (.inl c4))))]
    clear hr hv
    go_enter Tryz.func20, Tryz.ntmps20
    go_wp2
    go_quiet (fail)
    go_wp2
    go_ret
    exact ⟨rfl, HF.out _⟩
  have d4 : decide (2048 < m.snap) = false := by simp [c4]
  have KR : Hid (∀ W, Frm Nix w W → Calls Tryz.prog 56 #[.slice A m.segs.length c] W fun e w' => e = .returned (.bool (risV m.segs)) ∧ w' = W) :=
    fun W hW => rising_any A m.segs.length c m.segs G W rfl (hr.frm hW fun _ _ => id) (by omega)
  cases c5 : risV m.segs
  · rw [manOk_bad (.inr (.inr (.inr (.inr (.inl c5)))))]
    rw [c5] at KR
    clear hr hv c5
    go_enter Tryz.func20, Tryz.ntmps20
    go_wp2
    go_quiet ((go_at_call 56; refine Calls.quiet_of_same (KR.out _ ?_); exact HF.out _))
    go_wp2
    go_ret
    exact ⟨rfl, HF.out _⟩
  · have hpos : 1 ≤ m.segs.length ∧ m.segs.length ≤ 32 := by
      simp only [risV, Bool.and_eq_true, decide_eq_true_eq] at c5
      exact c5.1
    obtain ⟨ad, u, rfl, -, hla, hu, hcu⟩ := hr.at_ (k := 0) (by omega)
    rw [ivs_at _ 0 (by omega)] at hu
    obtain rfl := Option.some.inj hu
    have hx0 := headD_at m.segs (by omega)
    have hcu' : ∀ k, ((w.alloc (.cells #[.int .i64 m.gen, .int .i64 m.snap, .slice (some ad) m.segs.length c] 25)).drewN k).cell? ad = some (.int .i64 (m.segs.headD 0)) := fun k => by
      rw [← hx0]
      have := (HF.out k).cell (p := ad.add 0) (by rw [block_of_add]; exact hla) id
      rw [hcu] at this
      simpa [Addr.add] using this
    have hcz : w.cell? ad = some (.int .i64 (m.segs.headD 0)) := by rw [← hx0]; simpa [Addr.add] using hcu
    have hz1 : (0 : Int) < (m.segs.length : Int) := by omega
    have hsum : IntKind.i64.wrap (m.snap + 1) = m.snap + 1 := IntWalk.i64_in _ (by omega)
    have HG := Lib.hid (manOk_good c1 c2 c3 c4 c5)
    have HB := Lib.hid (fun hh => manOk_bad (m := m) (.inr (.inr (.inr (.inr (.inr hh))))))
    rw [c5] at KR
    clear hr hv c5 hu hx0 hcu
    generalize m.segs.headD 0 = x at *
    generalize m.segs.length = n at *
    by_cases c6 : m.snap + 1 < x
    · have d6 : decide (m.snap + 1 < x) = true := by simp [c6]
      rw [HB.out c6]
      go_enter Tryz.func20, Tryz.ntmps20
      go_wp2
      go_quiet ((go_at_call 56; refine Calls.quiet_of_same (KR.out _ ?_); exact HF.out _))
      go_wp2
      go_ret
      exact ⟨rfl, HF.out _⟩
    · have d6 : decide (m.snap + 1 < x) = false := by simp [c6]
      rw [HG.out c6]
      go_enter Tryz.func20, Tryz.ntmps20
      go_wp2
      go_quiet ((go_at_call 56; refine Calls.quiet_of_same (KR.out _ ?_); exact HF.out _))
      go_wp2
      go_ret
      exact ⟨rfl, HF.out _⟩

set_option maxRecDepth 100000 in
set_option maxHeartbeats 4000000 in
theorem rCheck_any (m : Man) (A : Option Addr) (c : Nat) (G : Nat → Prop) (w : World) (h : ManIn w G m A c) :
    Calls Tryz.prog 10 #[manV m A c] w fun e w' => e = .returned (.bool (manOk m)) ∧ Frm Nix w w' := by
  obtain ⟨g0, g1, s0, s1, hr, hc, hm, hv⟩ := h
  unfold maxLen at hm
  unfold manV
  have HF : Hid (∀ k, Frm Nix w ((w.alloc (.cells #[.int .i64 m.gen, .int .i64 m.snap, .slice A m.segs.length c] 25)).drewN k)) := fun k => ((Frm.refl Nix w).alloc _).drewN k
  by_cases c1 : m.gen < 1
  · have d1 : decide (m.gen < 1) = true := by simp [c1]
    rw [manOk_bad (.inl c1)]
    clear hr hv
    go_enter Tryz.func10, Tryz.ntmps10
    go_wp2
    go_quiet (fail)
    go_wp2
    go_ret
    exact ⟨rfl, HF.out _⟩
  have d1 : decide (m.gen < 1) = false := by simp [c1]
  by_cases c2 : 9007199254740991 < m.gen
  · have d2 : decide (9007199254740991 < m.gen) = true := by simp [c2]
    rw [manOk_bad (.inr (.inl c2))]
    clear hr hv
    go_enter Tryz.func10, Tryz.ntmps10
    go_wp2
    go_quiet (fail)
    go_wp2
    go_ret
    exact ⟨rfl, HF.out _⟩
  have d2 : decide (9007199254740991 < m.gen) = false := by simp [c2]
  by_cases c3 : m.snap < 0
  · have d3 : decide (m.snap < 0) = true := by simp [c3]
    rw [manOk_bad (.inr (.inr (.inl c3)))]
    clear hr hv
    go_enter Tryz.func10, Tryz.ntmps10
    go_wp2
    go_quiet (fail)
    go_wp2
    go_ret
    exact ⟨rfl, HF.out _⟩
  have d3 : decide (m.snap < 0) = false := by simp [c3]
  by_cases c4 : 2048 < m.snap
  · have d4 : decide (2048 < m.snap) = true := by simp [c4]
    rw [manOk_bad (.inr (.inr (.inr (.inl c4))))]
    clear hr hv
    go_enter Tryz.func10, Tryz.ntmps10
    go_wp2
    go_quiet (fail)
    go_wp2
    go_ret
    exact ⟨rfl, HF.out _⟩
  have d4 : decide (2048 < m.snap) = false := by simp [c4]
  have HRis : ∀ P : Prop, (risV m.segs = false → P) → (1 ≤ m.segs.length → m.segs.length ≤ 32 → risB 0 m.segs = true → P) → P := fun P a b => by
    by_cases e : 1 ≤ m.segs.length ∧ m.segs.length ≤ 32 ∧ risB 0 m.segs = true
    · exact b e.1 e.2.1 e.2.2
    · refine a ?_
      unfold risV
      by_cases e1 : 1 ≤ m.segs.length
      · by_cases e2 : m.segs.length ≤ 32
        · have e3 : risB 0 m.segs = false := by
            cases e4 : risB 0 m.segs
            · rfl
            · exact absurd ⟨e1, e2, e4⟩ e
          rw [e3]
          simp
        · simp [e2]
      · simp [e1]
  by_cases c5 : m.segs.length < 1
  · have d5 : decide ((m.segs.length : Int) < 1) = true := by simp; omega
    rw [manOk_bad (.inr (.inr (.inr (.inr (.inl (HRis _ id fun h _ _ => by omega))))))]
    clear hr hv HRis
    generalize m.segs.length = n at *
    go_enter Tryz.func10, Tryz.ntmps10
    go_wp2
    go_quiet (fail)
    go_wp2
    go_ret
    exact ⟨rfl, HF.out _⟩
  have d5 : decide ((m.segs.length : Int) < 1) = false := by simp; omega
  by_cases c6 : 32 < m.segs.length
  · have d6 : decide ((32 : Int) < (m.segs.length : Int)) = true := by simp; omega
    rw [manOk_bad (.inr (.inr (.inr (.inr (.inl (HRis _ id fun _ h _ => by omega))))))]
    clear hr hv HRis
    generalize m.segs.length = n at *
    go_enter Tryz.func10, Tryz.ntmps10
    go_wp2
    go_quiet (fail)
    go_wp2
    go_ret
    exact ⟨rfl, HF.out _⟩
  have d6 : decide ((32 : Int) < (m.segs.length : Int)) = false := by simp; omega
  obtain ⟨ad, u, rfl, -, hla, hu, hcu⟩ := hr.at_ (k := 0) (by omega)
  rw [ivs_at _ 0 (by omega)] at hu
  obtain rfl := Option.some.inj hu
  have hx0 := headD_at m.segs (by omega)
  have hcz : w.cell? ad = some (.int .i64 (m.segs.headD 0)) := by rw [← hx0]; simpa [Addr.add] using hcu
  have hz1 : (0 : Int) < (m.segs.length : Int) := by omega
  have hvx := hv m.segs[0] (List.getElem_mem _)
  rw [hx0] at hvx
  have HR := Lib.hid hr
  have HV := Lib.hid hv
  have HB := Lib.hid (fun hh => manOk_bad (m := m) (.inr (.inr (.inr (.inr (.inr hh))))))
  have HB1 : Hid (risB 0 m.segs = false → manOk m = false) := fun hh => manOk_bad (.inr (.inr (.inr (.inr (.inl (by simp [risV, hh]))))))
  have HG : Hid (risB 0 m.segs = true → m.segs.headD 0 ≤ m.snap + 1 → manOk m = true) := fun hh h6 => manOk_good c1 c2 c3 c4 (by simp [risV, hh]; omega) (by omega)
  have HX0 : Hid (∃ r, m.segs = m.segs.headD 0 :: r) := by
    rcases hs : m.segs with _ | ⟨a, b⟩
    · rw [hs] at c5; simp at c5
    · exact ⟨b, rfl⟩
  clear hr hv hu hx0 hcu HRis
  generalize hN : m.segs.length = N at *
  have HN := Lib.hid hN
  clear hN
  generalize m.segs.headD 0 = x at *
  obtain ⟨hx1, hx2⟩ := hvx
  by_cases c7 : x < 1
  · have d7 : decide (x < 1) = true := by simp [c7]
    have HE : Hid (manOk m = false) := HB1.out (by
      obtain ⟨r, hr⟩ := HX0.out
      rw [hr]
      simp only [risB]
      rw [decide_eq_false (by omega)]
      rfl)
    rw [HE.out]
    go_enter Tryz.func10, Tryz.ntmps10
    go_wp2
    go_quiet (fail)
    go_wp2
    go_ret
    exact ⟨rfl, HF.out _⟩
  have d7 : decide (x < 1) = false := by simp [c7]
  have hsub : IntKind.i64.wrap (x - 1) = x - 1 := IntWalk.i64_in _ (by omega)
  by_cases c8 : m.snap < x - 1
  · have d8 : decide (m.snap < x - 1) = true := by simp [c8]
    rw [HB.out (by omega)]
    go_enter Tryz.func10, Tryz.ntmps10
    go_wp2
    go_quiet (fail)
    go_wp2
    go_ret
    exact ⟨rfl, HF.out _⟩
  have d8 : decide (m.snap < x - 1) = false := by simp [c8]
  go_enter Tryz.func10, Tryz.ntmps10
  go_wp2
  go_quiet (fail)
  go_wp2
  go_loopw [3] (fun kv wr => ∃ (k : Nat), k ≤ N ∧ kv = .int .i64 k ∧ (∃ j, wr = (w.alloc (.cells #[.int .i64 m.gen, .int .i64 m.snap, .slice (some ad) N c] 25)).drewN j) ∧ risB (if k = 0 then 0 else m.segs.getD (k - 1) 0) (m.segs.drop k) = risB 0 m.segs) (fun kv _ => N - (intOf kv).toNat)
  case atStart => exact ⟨0, by omega, rfl, ⟨_, rfl⟩, rfl⟩
  case round =>
    obtain ⟨k, hk, rfl, ⟨j, rfl⟩, hg⟩ := hrel
    have HG0 := Lib.hid hg
    clear hg
    by_cases hlt : k < N
    · obtain ⟨ad', u, e, -, hla', hu, hcu⟩ := HR.out.at_ (k := k) hlt
      injection e with e
      subst e
      have hkl : k < m.segs.length := by rw [HN.out]; exact hlt
      rw [ivs_at _ k hkl] at hu
      obtain rfl := Option.some.inj hu
      have hcu' : ∀ i, ((w.alloc (.cells #[.int .i64 m.gen, .int .i64 m.snap, .slice (some ad) N c] 25)).drewN i).cell? (ad.add k) = some (.int .i64 m.segs[k]) := fun i =>
        ((HF.out i).cell (p := ad.add k) (by rw [block_of_add]; exact hla) id).trans hcu
      have hSt : Hid ((decide ((if k = 0 then 0 else m.segs.getD (k - 1) 0) < m.segs[k]) && decide (m.segs[k] ≤ 2048) && risB m.segs[k] (m.segs.drop (k + 1))) = risB 0 m.segs) := by
        have := HG0.out
        rw [List.drop_eq_getElem_cons hkl] at this
        exact this
      have hgd : m.segs.getD k 0 = m.segs[k] := by simp [List.getD_eq_getElem?_getD, List.getElem?_eq_getElem hkl]
      have HGD := Lib.hid hgd
      obtain ⟨hv1, hv2⟩ := HV.out m.segs[k] (List.getElem_mem hkl)
      clear HG0 hu hgd
      generalize m.segs[k] = y at *
      by_cases h2 : y ≤ 2048
      · have e2 : decide (2048 < y) = false := by simp; omega
        by_cases hk0 : 0 < k
        · obtain ⟨ad2, u2, e, -, -, hu2, hcv⟩ := HR.out.at_ (k := k - 1) (by omega)
          injection e with e
          subst e
          have hkl2 : k - 1 < m.segs.length := by omega
          rw [ivs_at _ (k - 1) hkl2] at hu2
          obtain rfl := Option.some.inj hu2
          have hcv' : ∀ i, ((w.alloc (.cells #[.int .i64 m.gen, .int .i64 m.snap, .slice (some ad) N c] 25)).drewN i).cell? (ad.add (k - 1)) = some (.int .i64 m.segs[k - 1]) := fun i =>
            ((HF.out i).cell (p := ad.add (k - 1)) (by rw [block_of_add]; exact hla) id).trans hcv
          have hSt2 : Hid ((decide (m.segs[k - 1] < y) && decide (y ≤ 2048) && risB y (m.segs.drop (k + 1))) = risB 0 m.segs) := by
            have := hSt.out
            rw [if_neg (by omega)] at this
            have e3 : m.segs.getD (k - 1) 0 = m.segs[k - 1] := by simp [List.getD_eq_getElem?_getD, List.getElem?_eq_getElem hkl2]
            rwa [e3] at this
          obtain ⟨hv3, hv4⟩ := HV.out m.segs[k - 1] (List.getElem_mem hkl2)
          clear hSt hu2
          generalize m.segs[k - 1] = z at *
          obtain ⟨q, hq⟩ : ∃ q, k - 1 = q := ⟨_, rfl⟩
          rw [hq] at hcv hcv'
          have ez : IntKind.i64.wrap ((k : Int) - 1) = (q : Int) := by
            rw [IntWalk.i64_in ((k : Int) - 1) (by omega)]
            omega
          have ek0 : decide ((0 : Int) < (k : Int)) = true := by rw [decide_eq_true_eq]; omega
          have ek3 : (0 : Int) ≤ (q : Int) := by omega
          have ek4 : (q : Int) < (N : Int) := by omega
          have ek1 : (0 : Int) ≤ (k : Int) := by omega
          have ek2 : (k : Int) < (N : Int) := by omega
          clear hq
          by_cases h3 : z < y
          · have e3 : decide (y ≤ z) = false := by simp; omega
            go_wp2
            go_quiet (fail)
            go_wp2
            go_roundw
            case rel => exact ⟨k + 1, by omega, by go_num, ⟨_, rfl⟩, by rw [if_neg (by omega), Nat.add_sub_cancel, HGD.out, ← hSt2.out, decide_eq_true h3, decide_eq_true h2]; rfl⟩
            case measure => simp [intOf]; omega
          · have e3 : decide (y ≤ z) = true := by simp; omega
            have HE : Hid (manOk m = false) := HB1.out (by rw [← hSt2.out, decide_eq_false h3]; rfl)
            go_wp2
            go_quiet (fail)
            go_wp2
            go_ret
            exact ⟨by rw [HE.out]; rfl, (HF.out _).drewN _⟩
        · obtain rfl : k = 0 := by omega
          have e3 : decide ((0 : Int) < ((0 : Nat) : Int)) = false := by simp
          have hSt2 : Hid ((decide (0 < y) && decide (y ≤ 2048) && risB y (m.segs.drop (0 + 1))) = risB 0 m.segs) := hSt.out
          have HYX : Hid (1 ≤ y) := by
            have := hcu.symm.trans (by simpa [Addr.add] using hcz)
            injection this with this
            injection this with _ this
            unfold Hid
            omega
          clear hSt
          simp [Addr.add] at hcu hcu'
          by_cases h3 : 0 < y
          · go_wp2
            go_quiet (fail)
            go_wp2
            go_roundw
            case rel => exact ⟨0 + 1, by omega, by go_num, ⟨_, rfl⟩, by rw [if_neg (by omega), Nat.add_sub_cancel, HGD.out, ← hSt2.out, decide_eq_true h3, decide_eq_true h2]; rfl⟩
            case measure => simp [intOf]; omega
          · exact absurd h3 (by have := HYX.out; omega)
      · have e2 : decide (2048 < y) = true := by simp; omega
        have HE : Hid (manOk m = false) := HB1.out (by rw [← hSt.out, decide_eq_false h2]; simp)
        clear hSt
        by_cases hk0 : 0 < k
        · go_wp2
          go_quiet (fail)
          go_wp2
          go_ret
          exact ⟨by rw [HE.out]; rfl, (HF.out _).drewN _⟩
        · obtain rfl : k = 0 := by omega
          simp [Addr.add] at hcu hcu'
          go_wp2
          go_quiet (fail)
          go_wp2
          go_ret
          exact ⟨by rw [HE.out]; rfl, (HF.out _).drewN _⟩
    · have HE : Hid (manOk m = true) := by
        have := HG0.out
        rw [List.drop_of_length_le (by rw [HN.out]; omega)] at this
        exact HG.out this.symm (by omega)
      go_wp2
      go_ret
      exact ⟨by rw [HE.out]; rfl, HF.out _⟩
end Go.Proofs.YtdgpaddmheagoaaGreatDoor
