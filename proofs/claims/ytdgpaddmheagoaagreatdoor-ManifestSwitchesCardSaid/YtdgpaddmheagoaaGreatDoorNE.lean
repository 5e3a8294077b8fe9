/-
  Contracts: readers of bytes, by the program (num.Reader) and by the document (newsstandref01.Reader).
-/
import Derived.Test.YtdgpaddmheagoaaGreatDoorND
import Derived.Test.YtdgpaddmheagoaaGreatDoorNC
import Derived.Test.YtdgpaddmheagoaaGreatDoorManM
namespace Go.Proofs.YtdgpaddmheagoaaGreatDoor
open Go.RowKit
set_option linter.unusedVariables false

/-- a reader (a struct of type T in block g): what is left, and whether it is bad. Its bytes lie in blocks of G. -/
structure RdrAt (w : World) (T : TypeId) (g : Nat) (G : Nat → Prop) (l : List UInt8) (bad : Bool) : Prop where
  at_ : ∃ A c, Blk w g T #[.slice A l.length c, .bool bad] ∧ Rd w G 1 A l.length (bvs l) ∧ l.length ≤ c ∧ c ≤ maxLen
  far : ¬ G g


theorem RdrAt.frm {w w1 : World} {T : TypeId} {g : Nat} {G F : Nat → Prop} {l : List UInt8} {bad : Bool} (h : RdrAt w T g G l bad) (hf : Frm F w w1) (h1 : ¬ F g) (h2 : ∀ k, G k → ¬ F k) : RdrAt w1 T g G l bad := by
  obtain ⟨⟨A, c, hb, hr, hc⟩, hg⟩ := h
  exact ⟨⟨A, c, hb.frm hf h1, hr.frm hf h2, hc⟩, hg⟩
theorem RdrAt.nix {w w1 : World} {T : TypeId} {g : Nat} {G : Nat → Prop} {l : List UInt8} {bad : Bool} (h : RdrAt w T g G l bad) (hf : Frm Nix w w1) : RdrAt w1 T g G l bad := h.frm hf id fun _ _ => id
theorem RdrAt.set {w : World} {T : TypeId} {g : Nat} {G : Nat → Prop} {l : List UInt8} {bad : Bool} (h : RdrAt w T g G l bad) (b : Bool) : RdrAt (w.setCell ⟨g, 1, none⟩ (.bool b)) T g G l b := by
  obtain ⟨⟨A, c, hb, hr, hc⟩, hg⟩ := h
  exact ⟨⟨A, c, hb.set_ 1 _, hr.frm ((Frm.refl (fun k => k = g) w).setCell (.inl rfl) _) fun k hk e => hg (e ▸ hk), hc⟩, hg⟩
theorem RdrAt.lt {w : World} {T : TypeId} {g : Nat} {G : Nat → Prop} {l : List UInt8} {bad : Bool} (h : RdrAt w T g G l bad) : g < w.heap.size := by
  obtain ⟨⟨A, c, hb, _⟩, -⟩ := h
  exact hb.lt
/-- the first k bytes are gone over: the slice of the rest. -/
theorem RdrAt.skip {w : World} {T : TypeId} {g : Nat} {G : Nat → Prop} {l : List UInt8} {A : Option Addr} {c k : Nat} (hb : Blk w g T #[.slice A l.length c, .bool false]) (hr : Rd w G 1 A l.length (bvs l)) (hc : l.length ≤ c) (hm : c ≤ maxLen) (hg : ¬ G g) (hk : k ≤ l.length) :
    RdrAt (w.setCell ⟨g, 0, none⟩ (.slice (if c = k then A else A.map (·.add k)) (l.length - k) (c - k))) T g G (l.drop k) false := by
  refine ⟨⟨_, c - k, by rw [List.length_drop]; exact hb.set_ 0 _, ?_, by rw [List.length_drop]; omega, by omega⟩, hg⟩
  have := (hr.cut (cap := c) hk hc).frm ((Frm.refl (fun k => k = g) w).setCell (p := ⟨g, 0, none⟩) (.inl rfl) (.slice (if c = k then A else A.map (·.add k)) (l.length - k) (c - k))) fun k hk e => hg (e ▸ hk)
  rw [List.length_drop]
  simpa [bvs, List.map_drop] using this
theorem bvs_take (l : List UInt8) (k : Nat) : bvs (l.take k) = (bvs l).take k := by simp [bvs, List.map_take]
theorem bvs_drop (l : List UInt8) (k : Nat) : bvs (l.drop k) = (bvs l).drop k := by simp [bvs, List.map_drop]

abbrev tRdr : TypeId := 110
abbrev tRdrR : TypeId := 99

def FromOut (w : World) (l : List UInt8) (e : Ending) (w' : World) : Prop :=
  ∃ g G, e = .returned (.pointer (some ⟨g, 0, none⟩)) ∧ RdrAt w' tRdr g G l false ∧ Frm Nix w w' ∧ w.heap.size ≤ g ∧ (∀ k, G k → w.heap.size ≤ k ∧ k < g)

set_option maxRecDepth 100000 in
theorem From_any (A : Option Addr) (n c : Nat) (l : List UInt8) (G : Nat → Prop) (w : World) (hl : l.length = n) (hr : Rd w G 1 A n (bvs l)) (hn : n ≤ 140737488355328) (hnil : NilOk A n c) :
    Calls Tryz.prog 49 #[.slice A n c] w (FromOut w l) := by
  have K := Lib.hid (CloneB_any A n c (bvs l) G w hr (bvs_one l) hn hnil)
  have HL := Lib.hid hl
  clear hr hl
  go_enter Tryz.func49, Tryz.ntmps49
  go_wp2_with fail
  refine K.out.mono ?_
  rintro e w1 ⟨v, rfl, hown, hf⟩
  obtain ⟨A1, c1, rfl, -, h1, h2, -⟩ := own_shape hown
  have HO := Lib.hid hown
  have HF := Lib.hid hf
  clear hown hf
  go_wp2
  go_ret
  have hw : w.heap.size ≤ w1.heap.size := HF.out.size
  have hnew : ∀ k, (Value.slice A1 n c1).ownBlock = some k → w.heap.size ≤ k ∧ k < w1.heap.size := fun k hk => HO.out.lt k hk
  refine ⟨w1.heap.size, fun k => (Value.slice A1 n c1).ownBlock = some k, rfl, ⟨⟨A1, c1, by rw [HL.out]; exact Blk.new w1 _ _, ?_, by rw [HL.out]; exact h1, h2⟩, fun hk => by have := (hnew _ hk).2; omega⟩, HF.out.alloc _, hw, hnew⟩
  rw [HL.out]
  exact (Rd.of_own HO.out).frm ((Frm.refl Nix w1).alloc _) fun _ _ => id

set_option maxRecDepth 100000 in
theorem Bad_any {w : World} {g : Nat} {G : Nat → Prop} {l : List UInt8} {bad : Bool} (h : RdrAt w tRdr g G l bad) :
    Calls Tryz.prog 51 #[.pointer (some ⟨g, 0, none⟩)] w fun e w' => e = .returned (.bool bad) ∧ w = w' := by
  obtain ⟨⟨A, c, hb, -⟩, -⟩ := h
  have c1 := hb.cell 1
  simp at c1
  clear hb
  go_enter Tryz.func51, Tryz.ntmps51
  go_wp2
  go_ret
  exact ⟨rfl, rfl⟩

set_option maxRecDepth 100000 in
theorem Left_any {w : World} {g : Nat} {G : Nat → Prop} {l : List UInt8} {bad : Bool} (h : RdrAt w tRdr g G l bad) :
    Calls Tryz.prog 52 #[.pointer (some ⟨g, 0, none⟩)] w fun e w' => e = .returned (.int .i64 (if bad then 0 else l.length : Nat)) ∧ w = w' := by
  have K := Lib.hid (Bad_any h)
  obtain ⟨⟨A, c, hb, -⟩, -⟩ := h
  have c0 := hb.cell 0
  simp at c0
  clear hb
  cases bad
  · go_enter Tryz.func52, Tryz.ntmps52
    go_wp2_with (go_at_call 51; refine K.out.mono ?_; rintro e w' ⟨rfl, rfl⟩)
    go_ret
    exact ⟨rfl, rfl⟩
  · go_enter Tryz.func52, Tryz.ntmps52
    go_wp2_with (go_at_call 51; refine K.out.mono ?_; rintro e w' ⟨rfl, rfl⟩)
    go_ret
    exact ⟨rfl, rfl⟩

set_option maxRecDepth 100000 in
theorem LeftR_any {w : World} {g : Nat} {G : Nat → Prop} {l : List UInt8} {bad : Bool} (h : RdrAt w tRdrR g G l bad) :
    Calls Tryz.prog 71 #[.pointer (some ⟨g, 0, none⟩)] w fun e w' => e = .returned (.int .i64 (if bad then 0 else l.length : Nat)) ∧ w = w' := by
  obtain ⟨⟨A, c, hb, -⟩, -⟩ := h
  have c0 := hb.cell 0
  have c1 := hb.cell 1
  simp at c0 c1
  clear hb
  cases bad
  · go_enter Tryz.func71, Tryz.ntmps71
    go_wp2
    go_ret
    exact ⟨rfl, rfl⟩
  · go_enter Tryz.func71, Tryz.ntmps71
    go_wp2
    go_ret
    exact ⟨rfl, rfl⟩

/-- so many bytes are taken. -/
def TakeYes (w : World) (g : Nat) (G : Nat → Prop) (l : List UInt8) (k : Nat) (e : Ending) (w' : World) : Prop :=
  ∃ A c, e = .returned (.slice A k c) ∧ RdrAt w' tRdr g G (l.drop k) false ∧ Rd w' G 1 A k (bvs (l.take k)) ∧ k ≤ c ∧ c ≤ maxLen ∧ Frm (· = g) w w'

set_option maxRecDepth 100000 in
set_option maxHeartbeats 1000000 in
theorem take_yes {w : World} {g : Nat} {G : Nat → Prop} {l : List UInt8} (h : RdrAt w tRdr g G l false) (k : Nat) (hk : k ≤ l.length) :
    Calls Tryz.prog 80 #[.pointer (some ⟨g, 0, none⟩), .int .i64 k] w (TakeYes w g G l k) := by
  obtain ⟨⟨A, c, hb, hr, hc, hm⟩, hg⟩ := h
  have c0 := hb.cell 0
  have c1 := hb.cell 1
  have f0 := hb.frozen 0
  simp at c0 c1
  have HB := Lib.hid hb
  have HR := Lib.hid hr
  have HE : Hid (∀ W, (∃ A' : Option Addr, W = w.setCell ⟨g, 0, none⟩ (.slice A' (l.length - k) (c - k)) ∧ A' = (if c = k then A else A.map (·.add k))) → TakeYes w g G l k (.returned (.slice A k c)) W) := by
    rintro W ⟨A', rfl, rfl⟩
    have hs := RdrAt.skip hb hr hc hm hg hk
    refine ⟨A, c, rfl, hs, ?_, by omega, hm, (Frm.refl (fun i => i = g) w).setCell (.inl rfl) _⟩
    rw [bvs_take]
    have := (hr.take hk).frm ((Frm.refl (fun k => k = g) w).setCell (p := ⟨g, 0, none⟩) (.inl rfl) (.slice (if c = k then A else A.map (·.add k)) (l.length - k) (c - k))) fun k hk e => hg (e ▸ hk)
    rw [Nat.mul_one] at this
    exact this
  unfold maxLen at hm
  clear hb hr
  generalize hL : l.length = n at *
  by_cases hck : c = k
  · obtain rfl : n = k := by omega
    subst hck
    go_enter Tryz.func80, Tryz.ntmps80
    go_wp2
    all_goals
      go_ret
      exact HE.out _ ⟨A, by simp, by simp⟩
  · rcases A with _ | ad
    · go_enter Tryz.func80, Tryz.ntmps80
      go_wp2
      all_goals
        go_ret
        exact HE.out _ ⟨none, by simp, by simp⟩
    · go_enter Tryz.func80, Tryz.ntmps80
      go_wp2
      all_goals
        go_ret
        exact HE.out _ ⟨some (ad.add k), by simp, by simp [hck]⟩

/-- there is not what is asked for. -/
def TakeNo (w : World) (g : Nat) (G : Nat → Prop) (l : List UInt8) (e : Ending) (w' : World) : Prop :=
  e = .returned (.slice none 0 0) ∧ RdrAt w' tRdr g G l true ∧ Frm (· = g) w w'

set_option maxRecDepth 100000 in
set_option maxHeartbeats 1000000 in
theorem take_no {w : World} {g : Nat} {G : Nat → Prop} {l : List UInt8} {bad : Bool} (h : RdrAt w tRdr g G l bad) (k : Int) (hk : bad = true ∨ k < 0 ∨ (l.length : Int) < k) :
    Calls Tryz.prog 80 #[.pointer (some ⟨g, 0, none⟩), .int .i64 k] w (TakeNo w g G l) := by
  have HS : Hid (TakeNo w g G l (.returned (.slice none 0 0)) (w.setCell ⟨g, 1, none⟩ (.bool true))) := ⟨rfl, h.set true, (Frm.refl (fun i => i = g) w).setCell (.inl rfl) _⟩
  obtain ⟨⟨A, c, hb, hr, hc, hm⟩, hg⟩ := h
  have c0 := hb.cell 0
  have c1 := hb.cell 1
  have f1 := hb.frozen 1
  simp at c0 c1
  clear hb hr
  cases bad
  · by_cases h0 : k < 0
    · go_enter Tryz.func80, Tryz.ntmps80
      go_wp2
      go_ret
      exact HS.out
    · have h1 : (l.length : Int) < k := by simpa [h0] using hk
      clear hk
      go_enter Tryz.func80, Tryz.ntmps80
      go_wp2
      go_ret
      exact HS.out
  · go_enter Tryz.func80, Tryz.ntmps80
    go_wp2
    go_ret
    exact HS.out

/-- the next number. -/
def NumOut (T : TypeId) (w : World) (g : Nat) (G : Nat → Prop) (l : List UInt8) (bad : Bool) (e : Ending) (w' : World) : Prop :=
  e = .returned (.int .i64 (rdNum l bad).1) ∧ RdrAt w' T g G (rdNum l bad).2.1 (rdNum l bad).2.2 ∧ Frm (· = g) w w'

set_option maxRecDepth 100000 in
set_option maxHeartbeats 1000000 in
theorem Num_any {w : World} {g : Nat} {G : Nat → Prop} {l : List UInt8} {bad : Bool} (h : RdrAt w tRdr g G l bad) :
    Calls Tryz.prog 50 #[.pointer (some ⟨g, 0, none⟩)] w (NumOut tRdr w g G l bad) := by
  have KB := Lib.hid (Bad_any h)
  have H := Lib.hid h
  have HS : Hid (RdrAt (w.setCell ⟨g, 1, none⟩ (.bool true)) tRdr g G l true ∧ Frm (· = g) w (w.setCell ⟨g, 1, none⟩ (.bool true))) := ⟨h.set true, (Frm.refl (fun i => i = g) w).setCell (.inl rfl) _⟩
  obtain ⟨⟨A, c, hb, hr, hc, hm⟩, hg⟩ := h
  have c0 := hb.cell 0
  have f1 := hb.frozen 1
  have c1 := hb.cell 1
  simp at c0 c1
  have KG := Lib.hid (Get_any A l.length c l G w rfl hr hc (by unfold maxLen at hm; exact hm))
  clear hb hr
  cases bad
  · have HT : Hid (∀ k : Nat, k ≤ l.length → Calls Tryz.prog 80 #[.pointer (some ⟨g, 0, none⟩), .int .i64 k] w (TakeYes w g G l k)) := fun k hk => take_yes H.out k hk
    cases hgn : getN l with
    | none =>
      have HE : Hid (NumOut tRdr w g G l false (.returned (.int .i64 0)) (w.setCell ⟨g, 1, none⟩ (.bool true))) := by
        have e : rdNum l false = (0, l, true) := by unfold rdNum; rw [hgn]; rfl
        unfold Hid NumOut
        rw [e]
        exact ⟨rfl, HS.out⟩
      rw [hgn] at KG
      clear hgn HS
      go_enter Tryz.func50, Tryz.ntmps50
      go_wp2_with (first
        | (go_at_call 51; refine KB.out.mono ?_; rintro e w' ⟨rfl, rfl⟩)
        | (go_at_call 79; refine KG.out.mono ?_; rintro e w' ⟨rfl, rfl⟩; simp only [getV]))
      go_ret
      exact HE.out
    | some p =>
      obtain ⟨m, k⟩ := p
      have hlen := getN_len hgn
      have HE : Hid (∀ W, TakeYes w g G l k (.returned (.slice none 0 0)) W ∨ RdrAt W tRdr g G (l.drop k) false ∧ Frm (· = g) w W → NumOut tRdr w g G l false (.returned (.int .i64 m)) W) := by
        intro W hW
        have e : rdNum l false = (m, l.drop k, false) := by unfold rdNum; rw [hgn]; rfl
        unfold NumOut
        rw [e]
        rcases hW with ⟨A, c, -, h1, -, -, -, h2⟩ | hW
        · exact ⟨rfl, h1, h2⟩
        · exact ⟨rfl, hW⟩
      rw [hgn] at KG
      have KT := Lib.hid (HT.out k (by omega))
      clear hgn HS HT hlen
      go_enter Tryz.func50, Tryz.ntmps50
      go_wp2_with (first
        | (go_at_call 51; refine KB.out.mono ?_; rintro e w' ⟨rfl, rfl⟩)
        | (go_at_call 79; refine KG.out.mono ?_; rintro e w' ⟨rfl, rfl⟩; simp only [getV])
        | (go_at_call 80; refine KT.out.mono ?_; rintro e w' ⟨A2, c2, rfl, hr2, -, -, -, hf2⟩; have HR2 := Lib.hid hr2; have HF2 := Lib.hid hf2; clear hr2 hf2))
      go_ret
      exact HE.out _ (.inr ⟨HR2.out, HF2.out⟩)
  · have HE : Hid (NumOut tRdr w g G l true (.returned (.int .i64 0)) w) := ⟨rfl, H.out, Frm.refl _ _⟩
    clear HS
    go_enter Tryz.func50, Tryz.ntmps50
    go_wp2_with (go_at_call 51; refine KB.out.mono ?_; rintro e w' ⟨rfl, rfl⟩)
    go_ret
    exact HE.out

set_option maxRecDepth 100000 in
set_option maxHeartbeats 1000000 in
theorem NumR_any {w : World} {g : Nat} {G : Nat → Prop} {l : List UInt8} {bad : Bool} (h : RdrAt w tRdrR g G l bad) :
    Calls Tryz.prog 70 #[.pointer (some ⟨g, 0, none⟩)] w (NumOut tRdrR w g G l bad) := by
  have HS : Hid (RdrAt (w.setCell ⟨g, 1, none⟩ (.bool true)) tRdrR g G l true ∧ Frm (· = g) w (w.setCell ⟨g, 1, none⟩ (.bool true))) := ⟨h.set true, (Frm.refl (fun i => i = g) w).setCell (.inl rfl) _⟩
  obtain ⟨⟨A, c, hb, hr, hc, hm⟩, hg⟩ := h
  have c0 := hb.cell 0
  have f0 := hb.frozen 0
  have f1 := hb.frozen 1
  have c1 := hb.cell 1
  simp at c0 c1
  have hm' := hm
  unfold maxLen at hm'
  have KG := Lib.hid (GetR_any A l.length c l G w rfl hr hc hm')
  have HB := Lib.hid hb
  have HR := Lib.hid hr
  clear hb hr
  cases bad
  · cases hgn : getN l with
    | none =>
      have HE : Hid (NumOut tRdrR w g G l false (.returned (.int .i64 0)) (w.setCell ⟨g, 1, none⟩ (.bool true))) := by
        have e : rdNum l false = (0, l, true) := by unfold rdNum; rw [hgn]; rfl
        unfold Hid NumOut
        rw [e]
        exact ⟨rfl, HS.out⟩
      rw [hgn] at KG
      clear hgn HS
      go_enter Tryz.func70, Tryz.ntmps70
      go_wp2_with (go_at_call 84; refine KG.out.mono ?_; rintro e w' ⟨rfl, rfl⟩; simp only [getRV])
      go_ret
      exact HE.out
    | some p =>
      obtain ⟨m, k⟩ := p
      obtain ⟨hk0, hkl, -, -⟩ := getN_len hgn
      have HE : Hid (NumOut tRdrR w g G l false (.returned (.int .i64 m)) (w.setCell ⟨g, 0, none⟩ (.slice (if c = k then A else A.map (·.add k)) (l.length - k) (c - k)))) := by
        have e : rdNum l false = (m, l.drop k, false) := by unfold rdNum; rw [hgn]; rfl
        unfold Hid NumOut
        rw [e]
        exact ⟨rfl, RdrAt.skip HB.out HR.out hc hm hg hkl, (Frm.refl (fun i => i = g) w).setCell (.inl rfl) _⟩
      rw [hgn] at KG
      clear hgn HS hm
      generalize l.length = n at *
      rcases A with _ | ad
      · exfalso
        obtain ⟨ad, e, -⟩ := HR.out.2 (by omega)
        cases e
      · by_cases hck : c = k
        · rw [if_pos hck] at HE
          obtain rfl : n = k := by omega
          subst hck
          go_enter Tryz.func70, Tryz.ntmps70
          go_wp2_with (go_at_call 84; refine KG.out.mono ?_; rintro e w' ⟨rfl, rfl⟩; simp only [getRV])
          go_ret
          simpa using HE.out
        · rw [if_neg hck] at HE
          go_enter Tryz.func70, Tryz.ntmps70
          go_wp2_with (go_at_call 84; refine KG.out.mono ?_; rintro e w' ⟨rfl, rfl⟩; simp only [getRV])
          go_ret
          exact HE.out
  · have HE : Hid (NumOut tRdrR w g G l true (.returned (.int .i64 0)) (w.setCell ⟨g, 1, none⟩ (.bool true))) := ⟨rfl, HS.out⟩
    clear HS
    have KG2 : Hid (∃ a b d, getRV (getN l) = .tuple #[.int .i64 a, .int .i64 b, .bool d]) := by
      cases getN l with
      | none => exact ⟨_, _, _, rfl⟩
      | some p => exact ⟨_, _, _, rfl⟩
    obtain ⟨a1, a2, a3, ea⟩ := KG2.out
    rw [ea] at KG
    clear ea KG2
    go_enter Tryz.func70, Tryz.ntmps70
    go_wp2_with (go_at_call 84; refine KG.out.mono ?_; rintro e w' ⟨rfl, rfl⟩)
    go_ret
    exact HE.out
end Go.Proofs.YtdgpaddmheagoaaGreatDoor
