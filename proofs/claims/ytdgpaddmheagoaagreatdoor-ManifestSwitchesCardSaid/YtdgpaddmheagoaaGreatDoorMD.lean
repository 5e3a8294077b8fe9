/-
  The loop of a manifest's numbers, in plain Lean and in memory; appends onto a row that is new since some block; newsstandref19.Same.
-/
import Derived.Test.YtdgpaddmheagoaaGreatDoorMC
namespace Go.Proofs.YtdgpaddmheagoaaGreatDoor
open Go.RowKit
set_option linter.unusedVariables false

theorem own_push {P : Program} {t e : TypeId} {bytes : Nat} (E : ElemOk P t e bytes) {w1 : World} {B : Nat} {v : Value} {n : Nat} {xs : List Value} (h : w1.ownsRow B e 1 v n xs) (hB : B ≤ w1.heap.size) (x : Value) (h1 : x.oneCell' = true) (hn : n + 1 ≤ maxLen) (hb : (n + 1) * bytes ≤ 140737488355328) :
    ∃ v' w2, (∀ ty, (Builtin.append_ #[t, t] ty #[v, .slice (some ⟨w1.heap.size, 0, none⟩) 1 1]).run P (w1.alloc (.cells #[x] e)) = .ok v' w2) ∧ w2.ownsRow B e 1 v' (n + 1) (xs ++ [x]) ∧ Frm (fun k => v.ownBlock = some k) (w1.alloc (.cells #[x] e)) w2 ∧ (v'.ownBlock = v.ownBlock ∨ v'.ownBlock = some (w1.heap.size + 1)) := by
  obtain ⟨z, hi, hzs⟩ := E.i
  obtain ⟨i0, hi0, hz0, hz1, hz2⟩ := info_parts hi
  have hf : Frm Nix w1 (w1.alloc (.cells #[x] e)) := (Frm.refl Nix w1).alloc _
  obtain ⟨v1, w2, hrun, hown, hg, hat⟩ := run_append_any (P := P) (w1.alloc (.cells #[x] e)) B t e i0 z 1 bytes E.t hi0 hz0 hz1 hz2 hzs (by decide) v n xs (own_frm h hf fun _ _ => id) _ (some ⟨w1.heap.size, 0, none⟩) 1 1 [x]
    (Rd.of_obj (heap_alloc_new w1 (.cells #[x] e)) 1 rfl) (fun u hu => by simp at hu; subst hu; exact h1) hn hb (by simp; omega)
  exact ⟨v1, w2, hrun, hown, (Frm.refl _ _).grown hg fun k hk => .inl hk, by simpa using hat⟩

theorem rdNum_may (l : List UInt8) (bad : Bool) : mayN (rdNum l bad).1 = true := by
  unfold rdNum
  cases bad
  · simp only [Bool.false_eq_true, if_false]
    cases h : getN l with
    | none => rfl
    | some p =>
      obtain ⟨m, k⟩ := p
      exact (getN_len h).2.2.2
  · rfl
theorem may_bounds {n : Int} (h : mayN n = true) : -9007199254740991 ≤ n ∧ n ≤ 9007199254740991 := by
  obtain ⟨a, b⟩ : -most ≤ n ∧ n ≤ most := by simpa [mayN] using h
  unfold most at a b
  exact ⟨a, b⟩
theorem rdNum_len (l : List UInt8) (bad : Bool) : (rdNum l bad).2.1.length ≤ l.length ∧ ((rdNum l bad).2.2 = false → (rdNum l bad).2.1.length + 1 ≤ l.length) := by
  unfold rdNum
  cases bad
  · simp only [Bool.false_eq_true, if_false]
    cases h : getN l with
    | none => simp
    | some p =>
      obtain ⟨m, k⟩ := p
      have := getN_len h
      simp only [List.length_drop]
      omega
  · simp
/-- what holds at the head of the loop: j numbers are still to come. -/
def SegsAt (tot : List Int × List UInt8 × Bool) (N j : Nat) (acc : List Int) (l : List UInt8) (bad : Bool) : Prop :=
  (acc ++ (rdList j l bad).1, (rdList j l bad).2) = tot ∧ (bad = false → acc.length + l.length ≤ N) ∧ ∀ n ∈ acc, mayN n = true
theorem SegsAt.start (N j : Nat) (l : List UInt8) (bad : Bool) (h : l.length ≤ N) : SegsAt (rdList j l bad) N j [] l bad := ⟨by simp, fun _ => by simpa using h, by simp⟩
theorem SegsAt.step {tot : List Int × List UInt8 × Bool} {N j : Nat} {acc : List Int} {l : List UInt8} (h : SegsAt tot N (j + 1) acc l false) : SegsAt tot N j (acc ++ [(rdNum l false).1]) (rdNum l false).2.1 (rdNum l false).2.2 := by
  obtain ⟨h1, h2, h3⟩ := h
  refine ⟨?_, fun hb => ?_, fun n hn => ?_⟩
  · rw [← h1]
    simp [rdList]
  · have := (rdNum_len l false).2 hb
    have := h2 rfl
    rw [List.length_append, List.length_singleton]
    omega
  · rcases List.mem_append.1 hn with hn | hn
    · exact h3 n hn
    · rw [List.mem_singleton.1 hn]
      exact rdNum_may l false
theorem SegsAt.over {tot : List Int × List UInt8 × Bool} {N j : Nat} {acc : List Int} {l : List UInt8} {bad : Bool} (h : SegsAt tot N j acc l bad) (ho : j = 0 ∨ bad = true) : tot = (acc, l, bad) := by
  rw [← h.1]
  rcases ho with rfl | rfl
  · simp [rdList]
  · cases j <;> simp [rdList]

/-- what a Get has laid when it comes to its loop: its reader in block g (a struct of type T), the manifest in block gm, the result's in block gr. -/
structure GetAt (w wr : World) (T : TypeId) (G : Nat → Prop) (B g gm gr : Nat) (gen snap : Int) (A : Option Addr) (c : Nat) (acc : List Int) (l : List UInt8) (bad : Bool) : Prop where
  rd : RdrAt wr T g G l bad
  blk : Blk wr gm 25 #[.int .i64 gen, .int .i64 snap, .slice A acc.length c]
  res : Blk wr gr 25 #[.int .i64 0, .int .i64 0, .slice none 0 0]
  own : wr.ownsRow B 3 1 (.slice A acc.length c) acc.length (ivs acc)
  frm : Frm Nix w wr
  gB : w.heap.size ≤ g ∧ g < B
  gmB : w.heap.size ≤ gm ∧ gm < B
  grB : w.heap.size ≤ gr ∧ gr < B
  GB : ∀ k, G k → k < B ∧ k ≠ gm ∧ k ≠ gr
  BW : w.heap.size ≤ B ∧ B ≤ wr.heap.size
  ne1 : g ≠ gm
  ne2 : g ≠ gr
  ne3 : gm ≠ gr

theorem GetAt.num {w wr w1 : World} {T : TypeId} {G : Nat → Prop} {B g gm gr : Nat} {gen snap : Int} {A : Option Addr} {c : Nat} {acc : List Int} {l l1 : List UInt8} {bad bad1 : Bool} (h : GetAt w wr T G B g gm gr gen snap A c acc l bad)
    (h1 : RdrAt w1 T g G l1 bad1) (hf : Frm (· = g) wr w1) : GetAt w w1 T G B g gm gr gen snap A c acc l1 bad1 :=
  { h with
    rd := h1
    blk := h.blk.frm hf (Ne.symm h.ne1)
    res := h.res.frm hf (Ne.symm h.ne2)
    own := own_frm h.own hf fun k hk e => by have := (h.own.lt k hk).1; have := h.gB.2; omega
    frm := h.frm.next hf fun k hk => .inr (by subst hk; exact h.gB.1)
    BW := ⟨h.BW.1, Nat.le_trans h.BW.2 hf.size⟩ }
theorem GetAt.drewN {w wr : World} {T : TypeId} {G : Nat → Prop} {B g gm gr : Nat} {gen snap : Int} {A : Option Addr} {c : Nat} {acc : List Int} {l : List UInt8} {bad : Bool} (h : GetAt w wr T G B g gm gr gen snap A c acc l bad) (n : Nat) : GetAt w (wr.drewN n) T G B g gm gr gen snap A c acc l bad :=
  { h with
    rd := h.rd.nix ((Frm.refl Nix wr).drewN n)
    blk := h.blk.frm ((Frm.refl Nix wr).drewN n) id
    res := h.res.frm ((Frm.refl Nix wr).drewN n) id
    own := own_frm h.own ((Frm.refl Nix wr).drewN n) fun _ _ => id
    frm := h.frm.drewN n
    BW := h.BW }
/-- a number is put at the end. -/
theorem GetAt.push {w wr : World} {T : TypeId} {G : Nat → Prop} {B g gm gr : Nat} {gen snap : Int} {A : Option Addr} {c : Nat} {acc : List Int} {l : List UInt8} {bad : Bool} (h : GetAt w wr T G B g gm gr gen snap A c acc l bad) (x : Int) (hn : acc.length ≤ 16777216) :
    ∃ A' c' w2, (∀ ty, (Builtin.append_ #[23, 23] ty #[.slice A acc.length c, .slice (some ⟨wr.heap.size, 0, none⟩) 1 1]).run Tryz.prog (wr.alloc (.cells #[.int .i64 x] 3)) = .ok (.slice A' (acc.length + 1) c') w2) ∧
      w2.cell? ⟨gm, 2, none⟩ = some (.slice A acc.length c) ∧ w2.frozen? ⟨gm, 2, none⟩ = false ∧ GetAt w (w2.setCell ⟨gm, 2, none⟩ (.slice A' (acc.length + 1) c')) T G B g gm gr gen snap A' c' (acc ++ [x]) l bad := by
  obtain ⟨v', w2, hrun, hown, hf, hat⟩ := own_push (P := Tryz.prog) elemI h.own h.BW.2 (.int .i64 x) rfl (by unfold maxLen; omega) (by omega)
  obtain ⟨A', c', rfl, -⟩ := own_shape hown
  have hfa : Frm Nix wr (wr.alloc (.cells #[.int .i64 x] 3)) := (Frm.refl Nix wr).alloc _
  have hlo : ∀ k, (Value.slice A acc.length c).ownBlock = some k → B ≤ k := fun k hk => (h.own.lt k hk).1
  have hfr : Frm (fun k => B ≤ k) wr w2 := (hfa.nix).next hf fun k hk => .inl (hlo k hk)
  have hblk : Blk w2 gm 25 #[.int .i64 gen, .int .i64 snap, .slice A acc.length c] := h.blk.frm hfr (by have := h.gmB.2; omega)
  have hfs : Frm (· = gm) w2 (w2.setCell ⟨gm, 2, none⟩ (.slice A' (acc.length + 1) c')) := (Frm.refl (fun k => k = gm) w2).setCell (.inl rfl) _
  have el : (acc ++ [x]).length = acc.length + 1 := by simp
  refine ⟨A', c', w2, hrun, by simpa using hblk.cell 2, hblk.frozen 2, ?_⟩
  exact
  { h with
    rd := (h.rd.frm hfr (by have := h.gB.2; omega) fun k hk => by have := (h.GB k hk).1; omega).frm hfs h.ne1 fun k hk => (h.GB k hk).2.1
    blk := by rw [el]; exact hblk.set_ 2 _
    res := (h.res.frm hfr (by have := h.grB.2; omega)).frm hfs (Ne.symm h.ne3)
    own := by
      rw [el, ivs_append]
      exact own_frm hown hfs fun k hk e => by have := (hown.lt k hk).1; have := h.gmB.2; omega
    frm := ((h.frm.next hfr fun k hk => .inr (by have := h.BW.1; omega))).next hfs fun k hk => .inr (by subst hk; exact h.gmB.1)
    BW := ⟨h.BW.1, Nat.le_trans h.BW.2 (Nat.le_trans hfr.size hfs.size)⟩ }
theorem GetAt.manIn {w wr : World} {T : TypeId} {G : Nat → Prop} {B g gm gr : Nat} {gen snap : Int} {A : Option Addr} {c : Nat} {acc : List Int} {l : List UInt8} {bad : Bool} (h : GetAt w wr T G B g gm gr gen snap A c acc l bad)
    (h1 : mayN gen = true) (h2 : mayN snap = true) (h3 : ∀ n ∈ acc, mayN n = true) : ManIn wr (fun k => (Value.slice A acc.length c).ownBlock = some k) ⟨gen, snap, acc⟩ A c := by
  obtain ⟨_, _, e, -, hc, hm, -⟩ := own_shape h.own
  injection e with e1 e2 e3
  subst e1 e3
  have a := may_bounds h1
  have b := may_bounds h2
  exact ⟨by simp only; omega, by simp only; omega, by simp only; omega, by simp only; omega, Rd.of_own h.own, hc, hm, fun k hk => by have := may_bounds (h3 k hk); omega⟩
theorem GetAt.row {w wr : World} {T : TypeId} {G : Nat → Prop} {B g gm gr : Nat} {gen snap : Int} {A : Option Addr} {c : Nat} {acc : List Int} {l : List UInt8} {bad : Bool} (h : GetAt w wr T G B g gm gr gen snap A c acc l bad) : RowIn 3 w wr (.slice A acc.length c) acc.length (ivs acc) :=
  ⟨own_base h.own fun k hk => by have := (h.own.lt k hk).1; have := h.BW.1; omega, h.frm⟩

set_option maxRecDepth 100000 in
set_option maxHeartbeats 2000000 in
theorem rSame_any (m m' : Man) (A A' : Option Addr) (c c' : Nat) (G G' : Nat → Prop) (w : World) (h : ManIn w G m A c) (h' : ManIn w G' m' A' c') (hn : m.segs.length ≤ 4611686018427387904) (hn' : m'.segs.length ≤ 4611686018427387904) :
    Calls Tryz.prog 14 #[manV m A c, manV m' A' c'] w fun e w' => e = .returned (.bool (manEq m m')) ∧ Frm Nix w w' := by
  obtain ⟨w0, hw0⟩ : ∃ w0, w0 = (w.alloc (.cells #[.int .i64 m.gen, .int .i64 m.snap, .slice A m.segs.length c] 25)).alloc (.cells #[.int .i64 m'.gen, .int .i64 m'.snap, .slice A' m'.segs.length c'] 25) := ⟨_, rfl⟩
  have hf : Frm Nix w w0 := by rw [hw0]; exact ((Frm.refl Nix w).alloc _).alloc _
  have HX := Lib.hid (h.nix hf).rd
  have HY := Lib.hid (h'.nix hf).rd
  have HF := Lib.hid hf
  have hb1 : Blk w0 w.heap.size 25 #[.int .i64 m.gen, .int .i64 m.snap, .slice A m.segs.length c] := by rw [hw0]; exact (Blk.new w _ _).alloc _
  have hb2 : Blk w0 (w.heap.size + 1) 25 #[.int .i64 m'.gen, .int .i64 m'.snap, .slice A' m'.segs.length c'] := by
    rw [hw0]
    have := Blk.new (w.alloc (.cells #[.int .i64 m.gen, .int .i64 m.snap, .slice A m.segs.length c] 25)) 25 #[.int .i64 m'.gen, .int .i64 m'.snap, .slice A' m'.segs.length c']
    simpa using this
  have b1 := hb1.cell 2
  have b2 := hb2.cell 2
  simp at b1 b2
  obtain ⟨g, s, l⟩ := m
  obtain ⟨g', s', l'⟩ := m'
  unfold manV
  simp only at *
  have HW := Lib.hid hw0
  clear h h' hf hw0 hb1 hb2
  by_cases e1 : g = g'
  · subst e1
    by_cases e2 : s = s'
    · subst e2
      have HE : Hid (manEq ⟨g, s, l⟩ ⟨g, s, l'⟩ = decide (l = l')) := by simp [manEq, Hid]
      by_cases e3 : l.length = l'.length
      · have HYL : Hid (l'.length = l'.length) := rfl
        have hXL : l.length = l.length := rfl
        generalize hN : l.length = N at *
        have HXL := Lib.hid hN
        rw [← e3] at HY b2 HW hn' HYL
        have HYN : Hid (l'.length = N) := e3.symm
        rw [← e3]
        clear hN hXL HYL e3
        go_enter Tryz.func14, Tryz.ntmps14
        go_wp2
        rw [← HW.out]
        go_loopw [5] (fun i wr => ∃ k : Nat, k ≤ N ∧ i = .int .i64 k ∧ l.take k = l'.take k ∧ ∃ q, wr = w0.drewN q) (fun i _ => N - (intOf i).toNat)
        case atStart => exact ⟨0, Nat.zero_le _, rfl, rfl, 0, rfl⟩
        case round =>
          obtain ⟨k, hk, rfl, hall, q, rfl⟩ := hrel
          have HA := Lib.hid hall
          clear hall
          by_cases hlt : k < N
          · obtain ⟨ax, u, rfl, -, lx, hu, cx⟩ := HX.out.at_ hlt
            obtain ⟨ay, v, rfl, -, ly, hv, cy⟩ := HY.out.at_ hlt
            have kx : k < l.length := by rw [HXL.out]; exact hlt
            have ky : k < l'.length := by rw [HYN.out]; exact hlt
            rw [ivs_at _ k kx] at hu
            rw [ivs_at _ k ky] at hv
            obtain rfl := Option.some.inj hu
            obtain rfl := Option.some.inj hv
            have HT := Lib.hid (take_both kx ky HA.out)
            have HNE : Hid (l[k] ≠ l'[k] → l ≠ l') := fun h e => h (by subst e; rfl)
            clear hu hv
            generalize l[k] = X at *
            generalize l'[k] = Y at *
            have hk0 : (0 : Int) ≤ (k : Int) := Int.natCast_nonneg _
            have hk1 : (k : Int) < (N : Int) := by omega
            by_cases hxy : X = Y
            · have HE2 := Lib.hid (HT.out hxy)
              subst hxy
              go_wp2
              go_quiet (fail)
              go_wp2
              go_roundw
              case rel => exact ⟨k + 1, by omega, by go_num, HE2.out, _, by first | rfl | exact World.drewN_drewN _ _ _⟩
              case measure => simp [intOf]; omega
            · have HE2 := Lib.hid (HNE.out hxy)
              have hb : (X == Y) = false := beq_eq_false_iff_ne.2 hxy
              have hb2 : (X != Y) = true := by rw [bne, hb]; rfl
              go_wp2
              go_quiet (fail)
              go_wp2
              go_ret
              exact ⟨by rw [HE.out, decide_eq_false HE2.out]; rfl, (HF.out.drewN _).drewN _⟩
          · obtain rfl : k = N := by omega
            go_wp2
            go_ret
            have := HA.out
            rw [List.take_of_length_le (by rw [HXL.out]; exact Nat.le_refl _), List.take_of_length_le (by rw [HYN.out]; exact Nat.le_refl _)] at this
            exact ⟨by rw [HE.out, decide_eq_true this]; rfl, HF.out.drewN _⟩
      · have hb : ((l.length : Int) != (l'.length : Int)) = true := by simp; omega
        have hb2 : ((l.length : Int) == (l'.length : Int)) = false := by simp; omega
        have HE2 : Hid (l ≠ l') := fun e => e3 (by rw [e])
        clear e3
        generalize l.length = n1 at *
        generalize l'.length = n2 at *
        go_enter Tryz.func14, Tryz.ntmps14
        go_wp2
        go_ret
        exact ⟨by rw [HE.out, decide_eq_false HE2.out]; rfl, by rw [← HW.out]; exact HF.out⟩
    · have HE : Hid (manEq ⟨g, s, l⟩ ⟨g, s', l'⟩ = false) := by simp [manEq, Hid, e2]
      have hb : (s == s') = false := beq_eq_false_iff_ne.2 e2
      have hb2 : (s != s') = true := by rw [bne, hb]; rfl
      clear e2
      go_enter Tryz.func14, Tryz.ntmps14
      go_wp2
      go_ret
      exact ⟨by rw [HE.out]; rfl, by rw [← HW.out]; exact HF.out⟩
  · have HE : Hid (manEq ⟨g, s, l⟩ ⟨g', s', l'⟩ = false) := by simp [manEq, Hid, e1]
    have hb : (g == g') = false := beq_eq_false_iff_ne.2 e1
    have hb2 : (g != g') = true := by rw [bne, hb]; rfl
    clear e1
    go_enter Tryz.func14, Tryz.ntmps14
    go_wp2
    go_ret
    exact ⟨by rw [HE.out]; rfl, by rw [← HW.out]; exact HF.out⟩
end Go.Proofs.YtdgpaddmheagoaaGreatDoor
