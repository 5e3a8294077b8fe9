/-
  Contracts: seals (bytes with their sum behind them), by the program and by the document; a reader's word.
-/
import Derived.Test.YtdgpaddmheagoaaGreatDoorNE
import Derived.Lib.AppendZerosOnto
namespace Go.Proofs.YtdgpaddmheagoaaGreatDoor
open Go.RowKit
set_option linter.unusedVariables false

/-! ### slices.Grow of nothing, slices.Concat -/

set_option maxRecDepth 100000 in
theorem Grow_zero (w : World) : Calls Tryz.prog 88 #[.slice none 0 0, .int .i64 0] w fun e w' => e = .returned (.slice none 0 0) ∧ w = w' := by
  go_enter Tryz.func88, Tryz.ntmps88
  go_wp2
  go_ret
  exact ⟨rfl, rfl⟩

theorem zeroCells_u8 (n : Nat) : (Builtin.zeroCells (Value.int .u8 0).cells n).size = n := by simp [Builtin.zeroCells, Value.cells]

set_option maxRecDepth 100000 in
set_option maxHeartbeats 1000000 in
theorem Grow_some (n : Nat) (w : World) (h0 : 0 < n) (hn : n ≤ 70368744177664) :
    Calls Tryz.prog 88 #[.slice none 0 0, .int .i64 n] w fun e w' => ∃ v, e = .returned v ∧ RowIn 5 w w' v 0 [] := by
  obtain ⟨i0, hi, hz0, hz1, hz2⟩ := info_parts info_u8
  have hold : (Builtin.firstCells i0.size 0 (.slice none 0 0)).run Tryz.prog w.drew = .ok (([] : List Value).toArray) w.drew := run_firstCells_none w.drew i0.size 0 0 0
  have hcap : grownCap w (0 + n) 0 5 ≤ maxLen := grownCap_le_maxLen w (0 + n) 0 5 (by unfold maxLen; omega)
  have hge : 0 + n ≤ grownCap w (0 + n) 0 5 := grownCap_ge w _ _ _
  have hrz : ∀ ty, (Builtin.append_ #[35, 3] ty #[.slice none 0 0, .int .i64 (n : Int)]).run Tryz.prog w =
      .ok (.slice (some ⟨w.heap.size, 0, none⟩) (0 + n) (grownCap w (0 + n) 0 5)) (w.drew.alloc (.cells (([] : List Value).toArray ++ Builtin.zeroCells (Value.int .u8 0).cells n ++ Builtin.zeroCells (Value.int .u8 0).cells (grownCap w (0 + n) 0 5 - (0 + n))) 5)) := fun ty =>
    Lib.run_append_grow_zeros w 35 3 ty 5 i0 (.int .u8 0) .i64 .i64 Tryz.underlying35 Tryz.underlying3 hi hz0 none 0 0 [] hold n h0 (by omega) (by omega) (by omega)
      (by rw [hz2]; omega) (growslice_fits (by omega) (by rw [hz2]; omega))
  generalize hG : grownCap w (0 + n) 0 5 = cap at *
  have hf : Frm Nix w (w.drew.alloc (.cells (([] : List Value).toArray ++ Builtin.zeroCells (Value.int .u8 0).cells n ++ Builtin.zeroCells (Value.int .u8 0).cells (cap - (0 + n))) 5)) := ((Frm.refl Nix w).drew).alloc _
  have HE : Hid (RowIn 5 w (w.drew.alloc (.cells (([] : List Value).toArray ++ Builtin.zeroCells (Value.int .u8 0).cells n ++ Builtin.zeroCells (Value.int .u8 0).cells (cap - (0 + n))) 5)) (.slice (some ⟨w.heap.size, 0, none⟩) 0 cap) 0 []) := by
    refine ⟨⟨rfl, .inr ⟨w.heap.size, cap, _, rfl, Nat.le_refl _, heap_alloc_new w.drew _, Nat.zero_le _, hcap, ?_, by simp⟩⟩, hf⟩
    rw [Array.size_append, Array.size_append, zeroCells_u8, zeroCells_u8]
    simp
    omega
  generalize hO : Obj.cells (([] : List Value).toArray ++ Builtin.zeroCells (Value.int .u8 0).cells n ++ Builtin.zeroCells (Value.int .u8 0).cells (cap - (0 + n))) 5 = O at *
  clear hO hG hold hz0 hz1 hz2 hi hf
  unfold maxLen at hcap
  rw [Nat.zero_add] at hrz hge
  go_enter Tryz.func88, Tryz.ntmps88
  go_wp2_with (at_builtin; refine Lib.wpList_append_run _ rfl _ _ _ _ rfl _ _ rfl rfl _ _ (hrz _) ?_)
  go_ret
  exact ⟨_, rfl, HE.out⟩

/-- a slice of bytes among others. -/
structure Prt where
  A : Option Addr
  c : Nat
  l : List UInt8
def Prt.v (p : Prt) : Value := .slice p.A p.l.length p.c
def Prt.all (ps : List Prt) : List UInt8 := ps.flatMap (·.l)
theorem Prt.take_succ (ps : List Prt) (k : Nat) (h : k < ps.length) : Prt.all (ps.take (k + 1)) = Prt.all (ps.take k) ++ ps[k].l := by
  rw [Prt.all, List.take_succ_eq_append_getElem h, List.flatMap_append]
  congr 1
  simp
theorem Prt.le (ps : List Prt) (k : Nat) : (Prt.all (ps.take k)).length ≤ (Prt.all ps).length := by
  have : Prt.all ps = Prt.all (ps.take k) ++ Prt.all (ps.drop k) := by
    rw [Prt.all, Prt.all, Prt.all, ← List.flatMap_append, List.take_append_drop]
  rw [this, List.length_append]
  omega

set_option maxRecDepth 100000 in
set_option maxHeartbeats 1000000 in
theorem Concat_any (ps : List Prt) (ad : Addr) (m cap : Nat) (w : World) (hm : ps.length = m) (hm9 : m ≤ 9223372036854775807) (had : Rd w (fun _ => True) 1 (some ad) m (ps.map Prt.v)) (hps : ∀ p ∈ ps, Rd w (fun _ => True) 1 p.A p.l.length (bvs p.l)) (hlen : (Prt.all ps).length ≤ 70368744177664) :
    Calls Tryz.prog 75 #[.slice (some ad) m cap] w (BytesOut w (Prt.all ps)) := by
  have HA := Lib.hid had
  have HP := Lib.hid hps
  have HM := Lib.hid hm
  clear had hps hm
  have H0 : Hid (Prt.all (ps.take 0) = []) := by simp [Prt.all, Hid]
  have HN : Hid (Prt.all (ps.take m) = Prt.all ps) := by unfold Hid; rw [List.take_of_length_le (by rw [HM.out]; omega)]
  obtain ⟨N, hN⟩ : ∃ N, N = (Prt.all ps).length := ⟨_, rfl⟩
  have HNN := Lib.hid hN
  rw [← hN] at hlen
  clear hN
  go_enter Tryz.func75, Tryz.ntmps75
  go_wp2
  go_loop [3, 5, 11] (fun sv pv kv => ∃ (k s : Nat), k ≤ m ∧ kv = .int .i64 k ∧ sv = .int .i64 s ∧ s = (Prt.all (ps.take k)).length) (fun _ _ kv => m - (intOf kv).toNat)
  case atStart => exact ⟨0, 0, by omega, rfl, rfl, by rw [H0.out]; rfl⟩
  case round =>
    obtain ⟨k, s, hk, rfl, rfl, hs⟩ := hrel
    have HS := Lib.hid hs
    have hsN : s ≤ N := by rw [hs, HNN.out]; exact Prt.le ps k
    clear hs
    by_cases hlt : k < m
    · obtain ⟨ad', u, e, -, hla, hu, hcu⟩ := HA.out.at_ (k := k) hlt
      injection e with e
      subst e
      have hkl : k < ps.length := by rw [HM.out]; omega
      obtain rfl : u = ps[k].v := by simpa [List.getElem?_eq_getElem hkl] using hu.symm
      have hs1 : s + ps[k].l.length = (Prt.all (ps.take (k + 1))).length := by rw [Prt.take_succ ps k hkl, List.length_append, HS.out]
      have hs2 : s + ps[k].l.length ≤ N := by rw [hs1, HNN.out]; exact Prt.le ps (k + 1)
      have HS1 := Lib.hid hs1
      generalize ps[k] = p at *
      obtain ⟨pA, pc, pl⟩ := p
      simp only [Prt.v] at hcu HS1 hs2
      generalize pl.length = pn at *
      clear hu hs1
      go_wp2
      go_round
      case rel => exact ⟨k + 1, s + pn, by omega, by go_num, by go_num, HS1.out⟩
      case measure => simp [intOf]; omega
    · obtain rfl : k = m := by omega
      have hsn : s = N := by rw [HS.out, HN.out, HNN.out]
      subst hsn
      have K2 : Hid (Calls Tryz.prog 88 #[.slice none 0 0, .int .i64 s] w fun e w' => ∃ v, e = .returned v ∧ RowIn 5 w w' v 0 []) := by
        by_cases h0 : 0 < s
        · exact Grow_some s w h0 hlen
        · obtain rfl : s = 0 := by omega
          exact (Grow_zero w).mono fun e w' ⟨h1, h2⟩ => ⟨_, h1, by subst h2; exact RowIn.nil_ _ (Frm.refl _ _)⟩
      go_wp2_with (go_at_call 88; refine K2.out.mono ?_; rintro e w1 ⟨v1, rfl, hrow1⟩; have HR1 := Lib.hid hrow1; clear hrow1)
      go_loopw [6, 8, 27] (fun v _ kv wr => ∃ j : Nat, j ≤ k ∧ kv = .int .i64 j ∧ RowIn 5 w wr v (Prt.all (ps.take j)).length (bvs (Prt.all (ps.take j)))) (fun _ _ kv _ => k - (intOf kv).toNat)
      case atStart => exact ⟨0, by omega, rfl, by rw [H0.out]; exact HR1.out⟩
      case round =>
        obtain ⟨j, hj, rfl, hrow⟩ := hrel
        have HR := Lib.hid hrow
        obtain ⟨Av, cv, rfl, -, -, -, -⟩ := hrow.shape
        have hf : Frm Nix w wr := hrow.frm
        have HF := Lib.hid hf
        clear hrow hf
        by_cases hjk : j < k
        · obtain ⟨ad', u, e, -, hla, hu, hcu⟩ := (HA.out.frm HF.out fun _ _ => id).at_ (k := j) hjk
          injection e with e
          subst e
          have hkl : j < ps.length := by rw [HM.out]; omega
          obtain rfl : u = ps[j].v := by simpa [List.getElem?_eq_getElem hkl] using hu.symm
          have hs1 := Prt.take_succ ps j hkl
          have hs2 : (Prt.all (ps.take (j + 1))).length ≤ s := by rw [HNN.out]; exact Prt.le ps (j + 1)
          have hs3 : (Prt.all (ps.take (j + 1))).length = (Prt.all (ps.take j)).length + ps[j].l.length := by rw [hs1, List.length_append]
          obtain ⟨v2, w2, hrun, hrow2, -, -⟩ := HR.out.app elemB ps[j].c ((HP.out ps[j] (List.getElem_mem hkl)).frm HF.out fun _ _ => id) (bvs_one _) (by unfold maxLen; omega) (by omega)
          rw [← hs3, ← bvs_append, ← hs1] at hrow2
          have HR2 := Lib.hid hrow2
          generalize ps[j] = p at *
          obtain ⟨pA, pc, pl⟩ := p
          simp only [Prt.v] at hcu hrun
          clear hu hs1 hs2 hs3 hrow2
          generalize pl.length = pn at *
          generalize (Prt.all (ps.take j)).length = dn at *
          go_wp2_with (at_builtin; refine wpList_append_run hrun rfl _ _ rfl rfl rfl ?_)
          go_roundw
          case rel => exact ⟨j + 1, by omega, by go_num, HR2.out⟩
          case measure => simp [intOf]; omega
        · obtain rfl : j = k := by omega
          have HE : Hid (BytesOut w (Prt.all ps) (.returned (.slice Av (Prt.all (ps.take j)).length cv)) wr) := by
            have := HR.out
            rw [HN.out] at this
            unfold Hid
            rw [HN.out]
            exact ⟨Av, cv, rfl, this⟩
          generalize (Prt.all (ps.take j)).length = dn at *
          go_wp2
          go_ret
          exact HE.out

theorem BytesOut.since {w w1 w' : World} {l : List UInt8} {e : Ending} (h : BytesOut w1 l e w') (hf : Frm Nix w w1) : BytesOut w l e w' := by
  obtain ⟨A, c, he, hr⟩ := h
  exact ⟨A, c, he, hr.since hf⟩
/-- the two slices of a Concat lie in a new block. -/
theorem rd_pair (w : World) (t : TypeId) (u v : Value) : Rd (w.alloc (.cells #[u, v] t)) (fun _ => True) 1 (some ⟨w.heap.size, 0, none⟩) 2 [u, v] :=
  (Rd.of_obj (heap_alloc_new w (.cells #[u, v] t)) 2 rfl).mono fun _ _ => trivial

/-! ### seals -/

theorem sealB_small {l : List UInt8} (h : l.length ≤ 35184372088832) : (sealB l).length ≤ 35184372088836 := by rw [sealB_len]; omega

set_option maxRecDepth 100000 in
set_option maxHeartbeats 1000000 in
theorem Seal_any (A : Option Addr) (n c : Nat) (l : List UInt8) (G : Nat → Prop) (w : World) (hl : l.length = n) (hr : Rd w G 1 A n (bvs l)) (hn : n ≤ 35184372088832) (ht : Tab w) :
    Calls Tryz.prog 47 #[.slice A n c] w (BytesOut w (sealB l)) := by
  have KS := Lib.hid (Sum_any A n c l G w hl hr (by omega) ht)
  have KW := Lib.hid (Word_any (sumN l) (sumN_lt l) w)
  have HL := Lib.hid hl
  have HR := Lib.hid hr
  clear hl hr ht
  have hq := sumN_lt l
  generalize hS : sumN l = S at *
  have HS := Lib.hid hS
  clear hS
  go_enter Tryz.func47, Tryz.ntmps47
  go_wp2_with fail
  refine KS.out.mono ?_
  rintro e w1 ⟨rfl, rfl⟩
  go_wp2_with fail
  refine KW.out.mono ?_
  rintro e w2 ⟨rfl, rfl⟩
  go_wp2_with fail
  have hf1 : Frm Nix w (w.alloc (.cells (bvs (wordB S)).toArray 5)) := (Frm.refl _ w).alloc _
  have hf2 : Frm Nix w ((w.alloc (.cells (bvs (wordB S)).toArray 5)).alloc (.cells #[.slice A n c, .slice (some ⟨w.heap.size, 0, none⟩) 4 4] 35)) := hf1.alloc _
  have e2 : sealB l = Prt.all [⟨A, c, l⟩, ⟨some ⟨w.heap.size, 0, none⟩, 4, wordB S⟩] := by simp [Prt.all, sealB, HS.out]
  have K := Concat_any [⟨A, c, l⟩, ⟨some ⟨w.heap.size, 0, none⟩, 4, wordB S⟩] ⟨w.heap.size + 1, 0, none⟩ 2 2 ((w.alloc (.cells (bvs (wordB S)).toArray 5)).alloc (.cells #[.slice A n c, .slice (some ⟨w.heap.size, 0, none⟩) 4 4] 35)) rfl (by omega)
    (by
      have := rd_pair (w.alloc (.cells (bvs (wordB S)).toArray 5)) 35 (.slice A n c) (.slice (some ⟨w.heap.size, 0, none⟩) 4 4)
      have e3 : [Prt.mk A c l, ⟨some ⟨w.heap.size, 0, none⟩, 4, wordB S⟩].map Prt.v = [.slice A n c, .slice (some ⟨w.heap.size, 0, none⟩) 4 4] := by simp [Prt.v, HL.out, wordB_len]
      rw [e3]
      simpa using this)
    (by
      intro p hp
      rcases List.mem_cons.1 hp with rfl | hp
      · rw [HL.out]
        exact (HR.out.frm hf2 fun _ _ => id).mono fun _ _ => trivial
      · rcases List.mem_cons.1 hp with rfl | hp
        · exact ((Rd.of_obj (heap_alloc_new w (.cells (bvs (wordB S)).toArray 5)) 4 (by simp [wordB_len])).frm ((Frm.refl Nix _).alloc _) fun _ _ => id).mono fun _ _ => trivial
        · cases hp)
    (by rw [← e2, sealB_len, HL.out]; omega)
  rw [← e2] at K
  refine K.mono ?_
  intro e W hb
  obtain ⟨A', c', rfl, hrow⟩ := hb.since hf2
  have HB : Hid (BytesOut w (sealB l) (.returned (.slice A' (sealB l).length c')) W) := ⟨A', c', rfl, hrow⟩
  clear K hb hrow e2 hf1 hf2
  go_wp2
  go_ret
  exact HB.out

set_option maxRecDepth 100000 in
set_option maxHeartbeats 1000000 in
theorem SealR_any (A : Option Addr) (n c : Nat) (l : List UInt8) (G : Nat → Prop) (w : World) (hl : l.length = n) (hr : Rd w G 1 A n (bvs l)) (hn : n ≤ 35184372088832) :
    Calls Tryz.prog 18 #[.slice A n c] w (BytesOut w (sealB l)) := by
  have hq := sumN_lt l
  have hf0 : Frm Nix w (w.alloc (.cells #[] 5)) := (Frm.refl _ w).alloc _
  obtain ⟨v1, w1, hrun1, hrow1, -, -⟩ := (RowIn.empty (w0 := w) 5 (Frm.refl Nix w)).app (P := Tryz.prog) elemB c (hr.frm hf0 fun _ _ => id) (bvs_one l) (by unfold maxLen; omega) (by omega)
  rw [Nat.zero_add, List.nil_append] at hrow1
  obtain ⟨A1, c1, rfl, -, -, -, -⟩ := hrow1.shape
  have KS := Lib.hid (SumR_any A n c l G w1 hl (hr.frm hrow1.frm fun _ _ => id) (by omega))
  have KW := Lib.hid (WordR_any (sumN l) (sumN_lt l) w1)
  have hfw : Frm Nix w1 (w1.alloc (.cells (bvs (wordB (sumN l))).toArray 5)) := (Frm.refl _ w1).alloc _
  obtain ⟨v2, w2, hrun2, hrow2, -, -⟩ := (hrow1.more hfw).app (P := Tryz.prog) elemB 4 (Rd.of_obj (heap_alloc_new w1 (.cells (bvs (wordB (sumN l))).toArray 5)) 4 (by simp [wordB_len])) (by simpa using bvs_one _) (by unfold maxLen; omega) (by omega)
  have HE : Hid (BytesOut w (sealB l) (.returned v2) w2) := by
    obtain ⟨A2, c2, rfl, -⟩ := hrow2.shape
    have e1 : (sealB l).length = n + 4 := by rw [sealB_len, hl]
    refine ⟨A2, c2, by rw [e1], ?_⟩
    rw [e1, sealB, bvs_append]
    simpa using hrow2
  clear hl hr hrow1 hrow2 hf0 hfw
  generalize sumN l = S at *
  go_enter Tryz.func18, Tryz.ntmps18
  go_wp2_with (first
    | (go_at_call 54; refine KS.out.mono ?_; rintro e w' ⟨rfl, rfl⟩)
    | (go_at_call 53; refine KW.out.mono ?_; rintro e w' ⟨rfl, rfl⟩)
    | (at_builtin; refine wpList_append_run hrun1 rfl _ _ rfl rfl rfl ?_)
    | (at_builtin; refine wpList_append_run hrun2 rfl _ _ rfl rfl rfl ?_))
  go_ret
  exact HE.out

/-! ### a reader's word -/

def wordN : List UInt8 → Nat
  | [] => 0
  | b :: r => b.toNat + 256 * wordN r
theorem wordN_snoc : ∀ (l : List UInt8) (b : UInt8), wordN (l ++ [b]) = wordN l + b.toNat * 256 ^ l.length
  | [], b => by simp [wordN]
  | a :: l, b => by
    simp only [List.cons_append, wordN, List.length_cons, wordN_snoc l b, Nat.pow_succ]
    have : 256 * (b.toNat * 256 ^ l.length) = b.toNat * (256 ^ l.length * 256) := by rw [Nat.mul_comm, Nat.mul_assoc]
    omega
theorem wordN_lt : ∀ l : List UInt8, wordN l < 256 ^ l.length
  | [] => by simp [wordN]
  | a :: l => by
    have h := wordN_lt l
    have := a.toNat_lt
    simp only [wordN, List.length_cons, Nat.pow_succ]
    omega
theorem wordN_word {l : List UInt8} (h : l.length = 4) {n : Nat} (hn : n < 4294967296) : wordB n = l ↔ wordN l = n := by
  match l, h with
  | [a, b, c, d], _ =>
    rw [word_inj hn]
    simp only [unword, wordN]
    omega
theorem or_byte (x k : Nat) (b : UInt8) (hk : k < 4) (hx : x < 256 ^ k) :
    bits .or .u32 (x : Int) ((b.toNat : Int) * 2 ^ (8 * k) % 4294967296) = ((x + b.toNat * 256 ^ k : Nat) : Int) := by
  have hp : 2 ^ (8 * k) = 256 ^ k := by rw [Nat.pow_mul]
  have hb := b.toNat_lt
  have h1 : b.toNat * 256 ^ k ≤ 255 * 256 ^ k := Nat.mul_le_mul_right _ (by omega)
  have h2 : 256 ^ k ≤ 256 ^ 3 := Nat.pow_le_pow_right (by omega) (by omega)
  simp at h2
  have e0 : (b.toNat : Int) * 2 ^ (8 * k) = ((b.toNat * 256 ^ k : Nat) : Int) := by
    rw [← hp]
    push_cast
    rfl
  have e1 : ((b.toNat * 256 ^ k : Nat) : Int) % 4294967296 = ((b.toNat * 256 ^ k : Nat) : Int) := by omega
  rw [e0, e1, u32_or_nat _ _ (by omega) (by omega)]
  have := Nat.two_pow_add_eq_or_of_lt (i := 8 * k) (b := x) (by rw [hp]; exact hx) b.toNat
  rw [hp] at this
  rw [Nat.or_comm, Nat.mul_comm, ← this, Nat.mul_comm, Nat.add_comm]

def WordOut (w : World) (g : Nat) (G : Nat → Prop) (l : List UInt8) (e : Ending) (w' : World) : Prop :=
  e = .returned (.int .u32 (wordN (l.take 4) : Nat)) ∧ RdrAt w' tRdr g G (l.drop 4) false ∧ Frm (· = g) w w'

set_option maxRecDepth 100000 in
set_option maxHeartbeats 1000000 in
theorem WordRd_yes {w : World} {g : Nat} {G : Nat → Prop} {l : List UInt8} (h : RdrAt w tRdr g G l false) (hl : 4 ≤ l.length) :
    Calls Tryz.prog 78 #[.pointer (some ⟨g, 0, none⟩)] w (WordOut w g G l) := by
  have KT := Lib.hid (take_yes h 4 hl)
  have HL : Hid ((l.take 4).length = 4) := by unfold Hid; rw [List.length_take]; omega
  clear h
  go_enter Tryz.func78, Tryz.ntmps78
  go_wp2_with (go_at_call 80; refine KT.out.mono ?_; rintro e w1 ⟨A, c, rfl, hr1, hrd, hc, hm, hf1⟩; have H1 : Hid (RdrAt w1 tRdr g G (l.drop 4) false ∧ Rd w1 G 1 A 4 (bvs (l.take 4)) ∧ Frm (· = g) w w1) := ⟨hr1, hrd, hf1⟩; clear hr1 hrd hf1; unfold maxLen at hm)
  generalize hT : l.take 4 = t at *
  go_loop [3, 4, 5, 9] (fun nv _ _ kv => ∃ k x : Nat, k ≤ 4 ∧ kv = .int .i64 k ∧ nv = .int .u32 x ∧ x < 256 ^ k ∧ x = wordN (t.take k)) (fun _ _ _ kv => 4 - (intOf kv).toNat)
  case atStart => exact ⟨0, 0, by omega, rfl, rfl, by simp, rfl⟩
  case round =>
    obtain ⟨k, x, hk, rfl, rfl, hx, hg⟩ := hrel
    have HG := Lib.hid hg
    clear hg
    by_cases hlt : k < 4
    · obtain ⟨ad, u, rfl, -, hla, hu, hcu⟩ := H1.out.2.1.at_ (k := k) hlt
      have hkl : k < t.length := by rw [HL.out]; omega
      obtain rfl : u = bv t[k] := by simpa [bvs, List.getElem?_eq_getElem hkl] using hu.symm
      have eo := or_byte x k t[k] hlt hx
      have e1 : x + t[k].toNat * 256 ^ k = wordN (t.take (k + 1)) := by
        rw [List.take_succ_eq_append_getElem hkl, wordN_snoc, ← HG.out, List.length_take, Nat.min_eq_left (by omega)]
      have e2 : wordN (t.take (k + 1)) < 256 ^ (k + 1) := by
        have := wordN_lt (t.take (k + 1))
        rwa [List.length_take, Nat.min_eq_left (by omega)] at this
      rw [e1] at eo
      have e3 : 256 ^ (k + 1) ≤ 256 ^ 4 := Nat.pow_le_pow_right (by omega) (by omega)
      simp at e3
      have e4 : wordN (t.take (k + 1)) < 4294967296 := by omega
      obtain ⟨y, hy⟩ : ∃ y, y = wordN (t.take (k + 1)) := ⟨_, rfl⟩
      rw [← hy] at eo e2 e4
      have HY : Hid (y = wordN (t.take (k + 1)) ∧ y < 256 ^ (k + 1)) := ⟨hy, e2⟩
      have hx32 : x < 4294967296 := by
        have : 256 ^ k ≤ 256 ^ 4 := Nat.pow_le_pow_right (by omega) (by omega)
        simp at this
        omega
      have hb := t[k].toNat_lt
      generalize t[k] = b at *
      clear hy e1 e2 e3 hu hx
      go_wp2
      go_round
      case rel => exact ⟨k + 1, y, by omega, by go_num, rfl, HY.out.2, HY.out.1⟩
      case measure => simp [intOf]; omega
    · obtain rfl : k = 4 := by omega
      have HE : Hid (WordOut w g G l (.returned (.int .u32 (x : Nat))) w1) := by
        refine ⟨?_, H1.out.1, H1.out.2.2⟩
        rw [HG.out, ← hT, List.take_take]
        rfl
      clear hx hT
      go_wp2
      go_ret
      exact HE.out
end Go.Proofs.YtdgpaddmheagoaaGreatDoor
