/-
  Contracts of the disk package: whether a name may be; a file that is there; how many bytes are used.
-/
import Derived.Test.YtdgpaddmheagoaaGreatDoorDiskA
import Derived.Laws.RangeAny
namespace Go.Proofs.YtdgpaddmheagoaaGreatDoor
open Go.RowKit

def signI (c : Int) : Bool := decide (97 ≤ c ∧ c ≤ 122 ∨ 48 ≤ c ∧ c ≤ 57 ∨ c = 46 ∨ c = 45)

set_option maxRecDepth 100000 in
theorem sign_any (c : Int) (w : World) : Calls Tryz.prog 82 #[.int .i32 c] w fun e w' => e = .returned (.bool (signI c)) ∧ w = w' := by
  go_enter Tryz.func82, Tryz.ntmps82
  go_wp2
  all_goals
    go_ret
    refine ⟨ret_bool ?_, rfl⟩
    rw [Bool.eq_iff_iff]
    simp [signI]
    try omega

theorem signB_iff (c : UInt8) : signB c = signI c.toNat := by
  rw [Bool.eq_iff_iff]
  simp [signB, signI, UInt8.le_iff_toNat_le, ← UInt8.toNat_inj]
  omega
theorem signI_high {c : Nat} (h : 128 ≤ c) : signI c = false := by
  simp [signI]
  omega

def NamedAt (w : World) (b : Bool) (e : Ending) (w' : World) : Prop := e = .returned (.bool b) ∧ Frm Nix w w'
theorem frm_iter (w : World) (s : ByteArray) (p : Nat) : Frm Nix w (w.iter s p) := (Frm.refl Nix w).alloc _

theorem take_all_succ (s : ByteArray) (k : Nat) (h : k < s.size) (h1 : ((bl s).take k).all signB = true) (h2 : signB s[k] = true) : ((bl s).take (k + 1)).all signB = true := by
  have : (bl s).take (k + 1) = (bl s).take k ++ [s[k]] := by
    rw [List.take_succ_eq_append_getElem (by simpa using h)]; rfl
  rw [this]
  simp only [List.all_append, List.all_cons, List.all_nil, Bool.and_true, Bool.and_eq_true]
  exact ⟨h1, h2⟩
theorem all_false (s : ByteArray) (k : Nat) (h : k < s.size) (h2 : signB s[k] = false) : nameOk s = false := by
  have hm : s[k] ∈ bl s := by
    show s.data.toList[k]'(by simpa using h) ∈ _
    exact List.getElem_mem _
  have : (bl s).all signB = false := by
    rw [Bool.eq_false_iff]
    intro ha
    have := List.all_eq_true.1 ha _ hm
    rw [h2] at this
    cases this
  simp [nameOk, this]
theorem nameOk_end (s : ByteArray) (h1 : ((bl s).take s.size).all signB = true) : nameOk s = (decide (1 ≤ s.size) && decide (s.size ≤ 24)) := by
  have : (bl s).take s.size = bl s := List.take_of_length_le (by simp)
  rw [this] at h1
  unfold nameOk
  rw [h1, Bool.true_and]

set_option maxRecDepth 100000 in
set_option maxHeartbeats 1000000 in
theorem named_any (s : ByteArray) (w : World) (hs : s.size ≤ maxLen) : Calls Tryz.prog 58 #[.string s] w (NamedAt w (nameOk s)) := by
  unfold maxLen at hs
  go_enter Tryz.func58, Tryz.ntmps58
  go_wp2
  go_loopw [4] (fun _ wr => ∃ k : Nat, k ≤ s.size ∧ ((bl s).take k).all signB = true ∧ wr = w.iter s k) (fun _ wr => s.size - wr.iterPos w.heap.size)
  case atStart => exact ⟨0, Nat.zero_le _, by simp, rfl⟩
  case round =>
    obtain ⟨k, hk, hall, rfl⟩ := hrel
    have HA := Lib.hid hall
    clear hall
    by_cases hlt : k < s.size
    · by_cases hasc : (s[k]'hlt).toNat < 128
      · have hn := fun ty => run_next_ascii (P := Tryz.prog) w s k ty hlt hasc
        cases hsg : signB s[k] with
        | true =>
          have hsi : signI ((s[k]'hlt).toNat : Int) = true := by rw [← signB_iff]; exact hsg
          have HN := Lib.hid (take_all_succ s k hlt HA.out hsg)
          clear hsg
          go_wp2_with (go_at_call 82; refine (sign_any _ _).mono ?_; rintro e w' ⟨rfl, rfl⟩)
          go_roundw
          case rel => exact ⟨k + 1, by omega, HN.out, rfl⟩
          case measure => simp; omega
        | false =>
          have hsi : signI ((s[k]'hlt).toNat : Int) = false := by rw [← signB_iff]; exact hsg
          have HN := Lib.hid (all_false s k hlt hsg)
          clear hsg
          go_wp2_with (go_at_call 82; refine (sign_any _ _).mono ?_; rintro e w' ⟨rfl, rfl⟩)
          go_ret
          exact ⟨ret_bool HN.out.symm, frm_iter _ _ _⟩
      · have hn := fun ty => run_next_any (P := Tryz.prog) w s k ty hlt
        obtain ⟨h128, -⟩ := decode_high s k hlt (by omega)
        have hsg : signB s[k] = false := by rw [signB_iff]; exact signI_high (by omega)
        have HN := Lib.hid (all_false s k hlt hsg)
        clear hsg
        have hsi := signI_high h128
        go_wp2_with (go_at_call 82; refine (sign_any _ _).mono ?_; rintro e w' ⟨rfl, rfl⟩)
        go_ret
        exact ⟨ret_bool HN.out.symm, frm_iter _ _ _⟩
    · have hn := fun ty => run_next_end (P := Tryz.prog) w s k ty hlt
      obtain rfl : k = s.size := by omega
      go_wp2
      all_goals
        go_ret
        refine ⟨ret_bool ?_, frm_iter _ _ _⟩
        rw [nameOk_end s HA.out, Bool.eq_iff_iff]
        first | (simp; done) | (simp; omega)

/-! ### a file that is there -/

def repOf (s : ByteArray) : List Rep → Option Rep
  | [] => none
  | r :: R => if r.fil.name = s then some r else repOf s R
theorem repOf_some {s : ByteArray} {r : Rep} : ∀ {R : List Rep}, repOf s R = some r → r ∈ R ∧ r.fil.name = s
  | [], h => by simp [repOf] at h
  | a :: R, h => by
    unfold repOf at h
    split at h
    · rename_i he
      injection h with h
      subst h
      exact ⟨by simp, he⟩
    · obtain ⟨h1, h2⟩ := repOf_some h
      exact ⟨by simp [h1], h2⟩
theorem repOf_none {s : ByteArray} : ∀ {R : List Rep}, repOf s R = none ↔ ∀ r ∈ R, r.fil.name ≠ s
  | [] => by simp [repOf]
  | a :: R => by
    unfold repOf
    split
    · rename_i he
      simp [he]
    · rename_i he
      rw [repOf_none]
      simp [he]
theorem valE_repOf (s : ByteArray) (z : Value) : ∀ R : List Rep, valE s z (R.map Rep.ent) = match repOf s R with | some r => .pointer (some ⟨r.fb, 0, none⟩) | none => z
  | [] => rfl
  | a :: R => by
    simp only [List.map_cons, valE, repOf, Rep.ent]
    by_cases h : a.fil.name = s
    · simp [h]
    · simp only [h, if_false]
      exact valE_repOf s z R
theorem hasE_repOf (s : ByteArray) (R : List Rep) : hasE s (R.map Rep.ent) = (repOf s R).isSome := by
  induction R with
  | nil => rfl
  | cons a R ih =>
    simp only [hasE, List.map_cons, List.any_cons, repOf, Rep.ent] at ih ⊢
    by_cases h : a.fil.name = s
    · simp [h]
    · simp only [h, decide_false, Bool.false_or, if_false]
      exact ih

section
variable {w : World} {B g m clock : Nat} {D : Dsk} {R : List Rep}
theorem DiskAt.find (h : DiskAt w B g m D R clock) (s : ByteArray) : findF s D.L = (repOf s R).map (·.fil) := by
  cases hr : repOf s R with
  | none =>
    rw [Option.map_none, findF_none]
    intro f hf
    obtain ⟨r, hr', rfl⟩ := List.mem_map.1 (h.perm.mem_iff.1 hf)
    exact repOf_none.1 hr r hr'
  | some r =>
    obtain ⟨h1, h2⟩ := repOf_some hr
    rw [Option.map_some, ← h2]
    exact findF_mem h.ok.sorted (h.perm.mem_iff.2 (List.mem_map.2 ⟨r, h1, rfl⟩))
theorem zero_file (w : World) : (zeroValue 83).run Tryz.prog w = .ok (.pointer none) w := by kernel_rfl
theorem DiskAt.lookup (h : DiskAt w B g m D R clock) (s : ByteArray) :
    (Instr.lookup 52 (.map (some m)) (.string s) false).run Tryz.prog w = .ok (match repOf s R with | some r => .pointer (some ⟨r.fb, 0, none⟩) | none => .pointer none) w := by
  rw [h.map.lookup Tryz.underlying52 Tryz.underlying9 s (zero_file w), valE_repOf]
end

set_option maxRecDepth 100000 in
theorem there_nil (s : ByteArray) (w : World) : Calls Tryz.prog 64 #[.pointer none, .string s] w fun e w' => e = .returned (.tuple #[.pointer none, .int .i64 6]) ∧ w = w' := by
  go_enter Tryz.func64, Tryz.ntmps64
  go_wp2_with (go_at_call 57; refine (ready_nil _).mono ?_; rintro e w' ⟨rfl, rfl⟩)
  go_ret2
  exact ⟨rfl, rfl⟩

set_option maxRecDepth 100000 in
theorem there_off {w : World} {B g m clock : Nat} {D : Dsk} {R : List Rep} (h : DiskAt w B g m D R clock) (s : ByteArray) (ho : D.off = true) :
    Calls Tryz.prog 64 #[.pointer (some ⟨g, 0, none⟩), .string s] w fun e w' => e = .returned (.tuple #[.pointer none, .int .i64 30]) ∧ w = w' := by
  have hb := h.blk
  rw [ho] at hb
  clear h ho
  have H := Lib.hid hb
  clear hb
  go_enter Tryz.func64, Tryz.ntmps64
  go_wp2_with (go_at_call 57; refine (ready_any _ _ _ _ _ _ _ H.out).mono ?_; rintro e w' ⟨rfl, rfl⟩)
  go_ret2
  exact ⟨rfl, rfl⟩

set_option maxRecDepth 100000 in
theorem there_no {w : World} {B g m clock : Nat} {D : Dsk} {R : List Rep} (h : DiskAt w B g m D R clock) (s : ByteArray) (ho : D.off = false) (hr : repOf s R = none) :
    Calls Tryz.prog 64 #[.pointer (some ⟨g, 0, none⟩), .string s] w fun e w' => e = .returned (.tuple #[.pointer none, .int .i64 4]) ∧ w = w' := by
  have hb := h.blk
  rw [ho] at hb
  have hl := h.lookup s
  rw [hr] at hl
  clear h ho hr
  have c0 := hb.cell 0
  simp at c0 hl
  have H := Lib.hid hb
  clear hb
  go_enter Tryz.func64, Tryz.ntmps64
  go_wp2_with (go_at_call 57; refine (ready_any _ _ _ _ _ _ _ H.out).mono ?_; rintro e w' ⟨rfl, rfl⟩)
  go_ret2
  exact ⟨rfl, rfl⟩

set_option maxRecDepth 100000 in
theorem there_yes {w : World} {B g m clock : Nat} {D : Dsk} {R : List Rep} (h : DiskAt w B g m D R clock) (s : ByteArray) (ho : D.off = false) (r : Rep) (hr : repOf s R = some r) :
    Calls Tryz.prog 64 #[.pointer (some ⟨g, 0, none⟩), .string s] w fun e w' => e = .returned (.tuple #[.pointer (some ⟨r.fb, 0, none⟩), .int .i64 0]) ∧ w = w' := by
  have hb := h.blk
  rw [ho] at hb
  have hl := h.lookup s
  rw [hr] at hl
  clear h ho hr
  have c0 := hb.cell 0
  simp at c0 hl
  have H := Lib.hid hb
  clear hb
  go_enter Tryz.func64, Tryz.ntmps64
  go_wp2_with (go_at_call 57; refine (ready_any _ _ _ _ _ _ _ H.out).mono ?_; rintro e w' ⟨rfl, rfl⟩)
  go_ret2
  exact ⟨rfl, rfl⟩
end Go.Proofs.YtdgpaddmheagoaaGreatDoor
