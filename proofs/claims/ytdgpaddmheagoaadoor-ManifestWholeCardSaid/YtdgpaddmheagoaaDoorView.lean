/-
  What the statements' arguments hold, read off the form's own reading of them.
-/
import Derived.Test.YtdgpaddmheagoaaDoorDiskN
import Derived.ProofKit
import Derived.SliceStrings
import Derived.Deep.Slices
import Derived.Deep.Fields
namespace Go.Proofs.YtdgpaddmheagoaaDoor
open Go.ChangeShapes Go.WideShapes Go.ChangeAt Go.RowKit Go.Deep

section
variable {H : Type} {enc : TypeId × Value → H} {W : World} {base : Nat} {sp : Nat → Bool} {held : Bool} {fuel : Nat} {cs : List Value} {x : DataW H × List MemPlace}

theorem wf_i64 {n : Int} (h : (Lit.int .i64 n).wf = true) : -9223372036854775808 ≤ n ∧ n ≤ 9223372036854775807 := by
  simp [Lit.wf, IntKind.min, IntKind.max, IntKind.signed, IntKind.bits] at h
  omega
theorem wf_u8 {n : Int} (h : (Lit.int .u8 n).wf = true) : 0 ≤ n ∧ n ≤ 255 := by
  simp [Lit.wf, IntKind.min, IntKind.max, IntKind.signed, IntKind.bits] at h
  omega

theorem vInt (h : DataW.trod enc Tryd.prog W base sp held fuel 3 cs = some x) : ∃ n, cs = [.int .i64 n] ∧ -9223372036854775808 ≤ n ∧ n ≤ 9223372036854775807 := by
  obtain ⟨n, h1, -, h3⟩ := DataW.trod_int Tryd.underlying3 h
  exact ⟨n, h1, wf_i64 h3⟩
theorem vStr (h : DataW.trod enc Tryd.prog W base sp held fuel 9 cs = some x) : ∃ s : ByteArray, cs = [.string s] ∧ s.size ≤ maxLen := by
  obtain ⟨s, h1, -, h3⟩ := DataW.trod_string Tryd.underlying9 h
  exact ⟨s, h1, h3⟩

def OldB (W : World) : Nat → Prop := fun k => k < W.heap.size

theorem rd_take {zs : List Int} {f : Int → Value} {a : Addr} {len : Nat} (hl : len ≤ zs.length) (hc : ∀ i, i < zs.length → W.cell? (a.add i) = some (f (zs.getD i 0))) : Rd W (OldB W) 1 (some a) len ((zs.take len).map f) := by
  refine ⟨by simp [Nat.min_eq_left hl], fun hn => ⟨a, rfl, ?_, ?_, fun j u hu => ?_⟩⟩
  · have := below_size_of_cell (hc 0 (by omega))
    rw [block_of_add] at this
    exact this
  · have := below_size_of_cell (hc 0 (by omega))
    rw [block_of_add] at this
    exact this
  · have hj : j < len := by
      have := (List.getElem?_eq_some_iff.1 hu).1
      simp at this
      omega
    rw [hc j (by omega), ← hu]
    simp only [List.getElem?_map, List.getElem?_take, hj, if_true, List.getD_eq_getElem?_getD]
    rw [List.getElem?_eq_getElem (by omega)]
    rfl

theorem vInts (h : DataW.trod enc Tryd.prog W base sp held fuel 22 cs = some x) :
    ∃ A n c l, cs = [.slice A n c] ∧ l.length = n ∧ Rd W (OldB W) 1 A n (ivs l) ∧ NilOk A n c ∧ n ≤ c ∧ c ≤ maxLen ∧ ∀ k ∈ l, -9223372036854775808 ≤ k ∧ k ≤ 9223372036854775807 := by
  rcases open_ints Tryd.underlying22 Tryd.underlying3 (by kernel_rfl) h with ⟨rfl, -⟩ | ⟨a, len, cap, zs, rfl, -, hl, hm, hz, -, hc, hw⟩
  · exact ⟨none, 0, 0, [], rfl, rfl, Rd.none_, fun _ => ⟨rfl, rfl⟩, Nat.le_refl _, Nat.zero_le _, by simp⟩
  · have hzl : len ≤ zs.length := by rw [hz]; split <;> omega
    refine ⟨some a, len, cap, zs.take len, rfl, by simp [Nat.min_eq_left hzl], rd_take hzl hc, (fun e => by cases e), hl, hm, fun k hk => wf_i64 (hw k (List.mem_of_mem_take hk))⟩

theorem u8_back {n : Int} (h : 0 ≤ n ∧ n ≤ 255) : bv (UInt8.ofNat n.toNat) = .int .u8 n := by
  have : (UInt8.ofNat n.toNat).toNat = n.toNat := by
    rw [UInt8.toNat_ofNat']
    exact Nat.mod_eq_of_lt (by omega)
  simp only [bv, this]
  congr 1
  omega

theorem vBytes (h : DataW.trod enc Tryd.prog W base sp held fuel 26 cs = some x) :
    ∃ A n c l, cs = [.slice A n c] ∧ l.length = n ∧ Rd W (OldB W) 1 A n (bvs l) ∧ NilOk A n c ∧ n ≤ c ∧ c ≤ maxLen := by
  rcases open_ints Tryd.underlying26 Tryd.underlying5 (by kernel_rfl) h with ⟨rfl, -⟩ | ⟨a, len, cap, zs, rfl, -, hl, hm, hz, -, hc, hw⟩
  · exact ⟨none, 0, 0, [], rfl, rfl, Rd.none_, fun _ => ⟨rfl, rfl⟩, Nat.le_refl _, Nat.zero_le _⟩
  · have hzl : len ≤ zs.length := by rw [hz]; split <;> omega
    refine ⟨some a, len, cap, (zs.take len).map fun n => UInt8.ofNat n.toNat, rfl, by simp [Nat.min_eq_left hzl], ?_, (fun e => by cases e), hl, hm⟩
    have := rd_take (f := Value.int .u8) hzl hc
    have e : bvs ((zs.take len).map fun n => UInt8.ofNat n.toNat) = (zs.take len).map (Value.int .u8) := by
      rw [bvs, List.map_map]
      exact List.map_congr_left fun n hn => u8_back (wf_u8 (hw n (List.mem_of_mem_take hn)))
    rw [e]
    exact this

theorem rd_take_str {ss : List ByteArray} {a : Addr} {len : Nat} (hl : len ≤ ss.length) (hc : ∀ i, i < ss.length → W.cell? (a.add i) = some (.string (ss.getD i ByteArray.empty))) : Rd W (OldB W) 1 (some a) len ((ss.take len).map Value.string) := by
  refine ⟨by simp [Nat.min_eq_left hl], fun hn => ⟨a, rfl, ?_, ?_, fun j u hu => ?_⟩⟩
  · have := below_size_of_cell (hc 0 (by omega))
    rw [block_of_add] at this
    exact this
  · have := below_size_of_cell (hc 0 (by omega))
    rw [block_of_add] at this
    exact this
  · have hj : j < len := by
      have := (List.getElem?_eq_some_iff.1 hu).1
      simp at this
      omega
    rw [hc j (by omega), ← hu]
    simp only [List.getElem?_map, List.getElem?_take, hj, if_true, List.getD_eq_getElem?_getD]
    rw [List.getElem?_eq_getElem (by omega)]
    rfl

theorem vStrs (h : DataW.trod enc Tryd.prog W base sp held fuel 69 cs = some x) :
    ∃ A n c, ∃ l : List ByteArray, cs = [.slice A n c] ∧ l.length = n ∧ Rd W (OldB W) 1 A n (l.map Value.string) ∧ NilOk A n c ∧ n ≤ c ∧ c ≤ maxLen ∧ ∀ s ∈ l, s.size ≤ maxLen := by
  rcases open_strings Tryd.underlying69 Tryd.underlying9 (by kernel_rfl) h with ⟨rfl, -⟩ | ⟨a, len, cap, ss, rfl, -, hl, hm, hz, -, hc, hw⟩
  · exact ⟨none, 0, 0, [], rfl, rfl, Rd.none_, fun _ => ⟨rfl, rfl⟩, Nat.le_refl _, Nat.zero_le _, by simp⟩
  · have hzl : len ≤ ss.length := by rw [hz]; split <;> omega
    exact ⟨some a, len, cap, ss.take len, rfl, by simp [Nat.min_eq_left hzl], rd_take_str hzl hc, (fun e => by cases e), hl, hm, fun k hk => hw k (List.mem_of_mem_take hk)⟩

/-- one call, as the statements hold it. -/
structure OpV where
  kind : Int
  a : ByteArray
  b : ByteArray
  n : Int
  dA : Option Addr
  dn : Nat
  dc : Nat
  dl : List UInt8
  kA : Option Addr
  kn : Nat
  kc : Nat
  kl : List Int
def OpV.cells (o : OpV) : List Value := [.int .i64 o.kind, .string o.a, .string o.b, .int .i64 o.n, .slice o.dA o.dn o.dc, .slice o.kA o.kn o.kc]
structure OpV.Ok (W : World) (o : OpV) : Prop where
  kind : -9223372036854775808 ≤ o.kind ∧ o.kind ≤ 9223372036854775807
  a : o.a.size ≤ maxLen
  b : o.b.size ≤ maxLen
  n : -9223372036854775808 ≤ o.n ∧ o.n ≤ 9223372036854775807
  dl : o.dl.length = o.dn
  dr : Rd W (OldB W) 1 o.dA o.dn (bvs o.dl)
  dm : o.dn ≤ maxLen
  kl : o.kl.length = o.kn
  kr : Rd W (OldB W) 1 o.kA o.kn (ivs o.kl)
  km : o.kn ≤ maxLen

theorem list6 {α : Type} {l : List α} (h : l.length = 6) : ∃ a b c d e f, l = [a, b, c, d, e, f] := by
  match l, h with
  | [a, b, c, d, e, f], _ => exact ⟨a, b, c, d, e, f, rfl⟩

/-- one field of a struct that was read. -/
theorem field_of {n i t : Nat} {f : Field} {xs : List (DataW H × List MemPlace)} {fs : Array Field} (hg : ∀ (i : Nat) (f : Field), fs[i]? = some f → DataW.trod enc Tryd.prog W base sp held n f.type ((cs.drop f.offset).take (Tryd.prog.cellsOf f.type)) = xs[i]?) (hxl : xs.length = fs.size)
    (hi : fs[i]? = some f) (ht : f.type = t) (h1 : Tryd.prog.cellsOf t = 1) (ho : f.offset = i) {v : Value} (hv : (cs.drop i).take 1 = [v]) : ∃ y, DataW.trod enc Tryd.prog W base sp held n t [v] = some y := by
  have h := hg i f hi
  rw [ht, h1, ho, hv] at h
  have hlt : i < xs.length := by rw [hxl]; exact (Array.getElem?_eq_some_iff.1 hi).1
  exact ⟨xs[i], by rw [h, List.getElem?_eq_getElem hlt]⟩

theorem one_int : Tryd.prog.cellsOf 3 = 1 := by kernel_rfl
theorem one_string : Tryd.prog.cellsOf 9 = 1 := by kernel_rfl
theorem one_bytes : Tryd.prog.cellsOf 26 = 1 := by kernel_rfl
theorem one_ints : Tryd.prog.cellsOf 22 = 1 := by kernel_rfl

theorem ops_len (l : List OpV) : (l.flatMap OpV.cells).length = l.length * 6 := by
  induction l with
  | nil => rfl
  | cons o l ih =>
    rw [List.flatMap_cons, List.length_append, ih, List.length_cons]
    have : o.cells.length = 6 := rfl
    omega

end
end Go.Proofs.YtdgpaddmheagoaaDoor