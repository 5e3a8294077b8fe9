/-
  Manifests in plain Lean: which may be, their bytes, the manifest of bytes; what is put is got. No program in sight; no condition.
-/
import Derived.Test.YtdgpaddmheagoaaGreatDoorNum
namespace Go.Proofs.YtdgpaddmheagoaaGreatDoor

structure Man where
  gen : Int
  snap : Int
  segs : List Int

def risB : Int → List Int → Bool
  | _, [] => true
  | last, n :: r => decide (last < n) && decide (n ≤ 2048) && risB n r
def manOk (m : Man) : Bool :=
  decide (1 ≤ m.gen) && decide (m.gen ≤ most) && decide (0 ≤ m.snap) && decide (m.snap ≤ 2048) && decide (1 ≤ m.segs.length) && decide (m.segs.length ≤ 32) && risB 0 m.segs && decide (m.segs.headD 0 ≤ m.snap + 1)
def manBytes (m : Man) : List UInt8 := putN m.gen ++ (putN m.snap ++ (putN m.segs.length ++ m.segs.flatMap putN))
def manPut (m : Man) : List UInt8 := sealB (manBytes m)

/-- the next number of what is left; is it bad? -/
def rdNum (l : List UInt8) (bad : Bool) : Int × List UInt8 × Bool :=
  if bad then (0, l, true) else match getN l with | some (m, k) => (m, l.drop k, false) | none => (0, l, true)
def rdList : Nat → List UInt8 → Bool → List Int × List UInt8 × Bool
  | 0, l, bad => ([], l, bad)
  | k + 1, l, bad => if bad then ([], l, bad) else ((rdNum l bad).1 :: (rdList k (rdNum l bad).2.1 (rdNum l bad).2.2).1, (rdList k (rdNum l bad).2.1 (rdNum l bad).2.2).2)

structure RdM where
  m : Man
  l : List UInt8
  bad : Bool
def rdMan (x : List UInt8) : RdM :=
  let a := rdNum x false
  let b := rdNum a.2.1 a.2.2
  let c := rdNum b.2.1 b.2.2
  let d := rdList c.1.toNat c.2.1 c.2.2
  ⟨⟨a.1, b.1, d.1⟩, d.2.1, d.2.2⟩
def manOf (r : RdM) : Option Man := if r.bad = false ∧ r.l = [] ∧ manOk r.m = true then some r.m else none
def manGet (b : List UInt8) : Option Man := match openB b with | some x => manOf (rdMan x) | none => none

theorem rdNum_put (n : Int) (rest : List UInt8) (h : mayN n = true) : rdNum (putN n ++ rest) false = (n, rest, false) := by
  unfold rdNum
  rw [getN_putN n rest h]
  simp
theorem rdNum_put_nil (n : Int) (h : mayN n = true) : rdNum (putN n) false = (n, [], false) := by
  have := rdNum_put n [] h
  rwa [List.append_nil] at this

theorem risB_may : ∀ (l : List Int) (last : Int), 0 ≤ last → risB last l = true → ∀ n ∈ l, mayN n = true
  | [], _, _, _, n, hn => by cases hn
  | a :: l, last, h0, h, n, hn => by
    simp only [risB, Bool.and_eq_true, decide_eq_true_eq] at h
    rcases List.mem_cons.1 hn with rfl | hn
    · unfold mayN most
      simp
      omega
    · exact risB_may l a (by omega) h.2 n hn
theorem rdList_put : ∀ (l : List Int), (∀ n ∈ l, mayN n = true) → rdList l.length (l.flatMap putN) false = (l, [], false)
  | [], _ => rfl
  | a :: l, h => by
    have h1 := rdNum_put a (l.flatMap putN) (h a (by simp))
    simp only [List.length_cons, List.flatMap_cons, rdList, h1, Bool.false_eq_true, if_false]
    rw [rdList_put l fun n hn => h n (by simp [hn])]

theorem manOk_parts {m : Man} (h : manOk m = true) : 1 ≤ m.gen ∧ m.gen ≤ 9007199254740991 ∧ 0 ≤ m.snap ∧ m.snap ≤ 2048 ∧ 1 ≤ m.segs.length ∧ m.segs.length ≤ 32 ∧ risB 0 m.segs = true ∧ m.segs.headD 0 ≤ m.snap + 1 := by
  simp only [manOk, Bool.and_eq_true, decide_eq_true_eq, most] at h
  obtain ⟨⟨⟨⟨⟨⟨⟨h1, h2⟩, h3⟩, h4⟩, h5⟩, h6⟩, h7⟩, h8⟩ := h
  exact ⟨h1, of_decide_eq_true h2, h3, h4, h5, h6, h7, h8⟩

/-- WHAT IS PUT IS GOT. -/
theorem manGet_put {m : Man} (h : manOk m = true) : manGet (manPut m) = some m := by
  obtain ⟨h1, h2, h3, h4, h5, h6, h7, h8⟩ := manOk_parts h
  have may : ∀ n : Int, -9007199254740991 ≤ n → n ≤ 9007199254740991 → mayN n = true := fun n a b => by
    unfold mayN most
    rw [decide_eq_true a, decide_eq_true b]
    rfl
  unfold manGet manPut
  rw [openB_seal]
  have e : rdMan (manBytes m) = ⟨m, [], false⟩ := by
    unfold rdMan manBytes
    simp only [rdNum_put _ _ (may m.gen (by omega) h2), rdNum_put _ _ (may m.snap (by omega) (by omega)), rdNum_put _ _ (may (m.segs.length : Int) (by omega) (by omega)), Int.toNat_natCast]
    rw [rdList_put m.segs (risB_may m.segs 0 (by omega) h7)]
  simp [e, manOf, h]

theorem manBytes_len {m : Man} (h : m.segs.length ≤ 32) : (manBytes m).length ≤ 400 := by
  have h1 : ∀ l : List Int, (l.flatMap putN).length ≤ 9 * l.length := by
    intro l
    induction l with
    | nil => simp
    | cons a l ih =>
      have := putN_len a
      simp only [List.flatMap_cons, List.length_append, List.length_cons]
      omega
  have := h1 m.segs
  have := putN_len m.gen
  have := putN_len m.snap
  have := putN_len (m.segs.length : Int)
  simp only [manBytes, List.length_append]
  omega
theorem manPut_len {m : Man} (h : m.segs.length ≤ 32) : (manPut m).length ≤ 404 := by
  have := manBytes_len h
  unfold manPut
  rw [sealB_len]
  omega
end Go.Proofs.YtdgpaddmheagoaaGreatDoor
