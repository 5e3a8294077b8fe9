/-
  The reference's disk: Clone; the calls at once.
-/
import Derived.Test.YthhkblogocoeeaaRefL
import Derived.Test.YthhkblogocoeeaaRefJ
import Derived.Test.YthhkblogocoeeaaRefK
namespace Go.Proofs.Ythhkblogocoeeaa
open Go.RowKit

section
variable {w : World} {B g : Nat} {W F : Nat → Prop} {D : Dsk}
theorem rRename_any (h : RD w B g W F D) (s t : ByteArray) (ht : t.size ≤ maxLen) (hd : D.deeds < 4611686018427387904) :
    Calls Try.prog 30 #[.pointer (some ⟨g, 0, none⟩), .string s, .string t] w fun e w' => e = .returned (.int .i64 (D.rename s t).2) ∧ RGo w B g W F (D.rename s t).1 w' := by
  rcases ho : D.off with _ | _
  · rcases hn : nameOk t with _ | _
    · have e : D.rename s t = (D, 31) := by simp [Dsk.rename, ho, hn]
      rw [e]
      exact rRename_no h s t ht 31 (.inr (.inl ⟨ho, hn, rfl⟩))
    · rcases hf : findF s D.L with _ | f
      · have e : D.rename s t = (D, 4) := by simp [Dsk.rename, Dsk.there, ho, hn, hf]
        rw [e]
        exact rRename_no h s t ht 4 (.inr (.inr ⟨ho, hn, hf, rfl⟩))
      · rcases hb : D.deed.2 == 0 with _ | _
        · have hb' : D.deed.2 ≠ 0 := by simpa using hb
          have e30 : D.deed.2 = 30 := by
            rcases deed_two D with e | e
            · exact e
            · exact absurd e hb'
          have e : D.rename s t = D.deed := by simp [Dsk.rename, Dsk.there, ho, hn, hf, hb']
          rw [e, e30]
          exact rRename_off h s t ht ho hn hf hd hb
        · have hb' : D.deed.2 = 0 := by simpa using hb
          have e : D.rename s t = ({ D.deed.1 with L := putF { f with name := t } (delF s D.L) }, 0) := by simp [Dsk.rename, Dsk.there, ho, hn, hf, hb', Dsk.renameTo, deed_L]
          rw [e]
          exact rRename_do h s t ht ho hn hf hd hb
  · have e : D.rename s t = (D, 30) := by simp [Dsk.rename, ho]
    rw [e]
    exact rRename_no h s t ht 30 (.inl ⟨ho, rfl⟩)

theorem rAppend_any (h : RD w B g W F D) (s : ByteArray) (hs : s.size ≤ maxLen) (bA : Option Addr) (m bc : Nat) (l : List UInt8) (hl : l.length = m) (G : Nat → Prop) (hrd : Rd w G 1 bA m (bvs l)) (hG : ∀ k, G k → ¬ F k) (hm : m ≤ 140737488355328) (hd : D.deeds < 4611686018427387904) :
    Calls Try.prog 28 #[.pointer (some ⟨g, 0, none⟩), .string s, .slice bA m bc] w fun e w' => e = .returned (.int .i64 (D.append s l).2) ∧ RGo w B g W F (D.append s l).1 w' := by
  rcases ho : D.off with _ | _
  · rcases hn : nameOk s with _ | _
    · have e : D.append s l = (D, 31) := by simp [Dsk.append, ho, hn]
      rw [e]
      exact rAppend_bad h s bA m bc ho hn hs
    · by_cases hfull : D.quota < (usedL D.L : Int) + m
      · have e : D.append s l = (D, 2) := by simp [Dsk.append, Dsk.full, ho, hn, hl, hfull]
        rw [e]
        by_cases h64 : 64 ≤ D.L.length ∧ findF s D.L = none
        · exact rAppend_many h s bA m bc ho hn hs h64.2 h64.1
        · refine rAppend_full h s bA m bc ho hn hs ?_ hm hfull
          by_cases h1 : D.L.length < 64
          · exact .inr h1
          · refine .inl ?_
            rcases hf : findF s D.L with _ | f
            · exact absurd ⟨by omega, hf⟩ h64
            · simp [isF, hf]
      · rcases hf : findF s D.L with _ | f
        · by_cases h64 : 64 ≤ D.L.length
          · have e : D.append s l = (D, 2) := by simp [Dsk.append, Dsk.full, ho, hn, hf, h64]
            rw [e]
            exact rAppend_many h s bA m bc ho hn hs hf h64
          · have e : D.append s l = ({ D.deed.1 with L := putF ⟨s, l, 0⟩ D.L }, D.deed.2) := by
              have hx : ¬ D.quota < (usedL D.L : Int) + l.length := by rw [hl]; exact hfull
              simp [Dsk.append, Dsk.full, ho, hn, hf, h64, hx, Dsk.appendTo]
              rw [← ho]
              exact deed_with D _
            rw [e]
            exact rAppend_new h s ho hn hs hf (by omega) bc hrd hG hl (by omega) hd
        · have e : D.append s l = ({ D.deed.1 with L := putF { f with b := f.b ++ l } D.L }, D.deed.2) := by
            have hx : ¬ D.quota < (usedL D.L : Int) + l.length := by rw [hl]; exact hfull
            simp [Dsk.append, Dsk.full, ho, hn, hf, hx, Dsk.appendTo]
            rw [← ho]
            exact deed_with D _
          rw [e]
          exact rAppend_old h s ho hn hs hf bc hrd hG hl (by omega) hd
  · have e : D.append s l = (D, 30) := by simp [Dsk.append, ho]
    rw [e]
    exact rAppend_off h s bA m bc ho
end
end Go.Proofs.Ythhkblogocoeeaa
