/-
  Contracts: runes of a text, texts of runes, folding, by the document (newsstandref05).
-/
import Derived.Test.YtnnfgbnnodcepaaWB
import Derived.Test.YtnnfgbnnodcepaaWE
namespace Go.Proofs.Ytnnfgbnnodcepaa
open Go.RowKit Go.Lib

def rvs (l : List Nat) : List Value := l.map fun (r : Nat) => Value.int .i32 (r : Int)
theorem rvs_len (l : List Nat) : (rvs l).length = l.length := by simp [rvs]
theorem rvs_append (a b : List Nat) : rvs (a ++ b) = rvs a ++ rvs b := by simp [rvs]
theorem rvs_at (l : List Nat) (k : Nat) (h : k < l.length) : (rvs l)[k]? = some (.int .i32 (l[k] : Int)) := by simp [rvs, List.getElem?_eq_getElem h]
theorem rvs_one (l : List Nat) : ∀ u ∈ rvs l, u.oneCell' = true := by
  intro u hu
  obtain ⟨x, -, rfl⟩ := List.mem_map.1 hu
  rfl
theorem elemR : ElemOk Try.prog 28 21 4 := ⟨Try.underlying28, ⟨.int .i32 0, by kernel_rfl, rfl⟩⟩
theorem elemB : ElemOk Try.prog 40 5 1 := ⟨Try.underlying40, ⟨.int .u8 0, by kernel_rfl, rfl⟩⟩
theorem elemS : ElemOk Try.prog 23 9 16 := ⟨Try.underlying23, ⟨.string ⟨#[]⟩, by kernel_rfl, rfl⟩⟩
theorem RowIn.ne_row {e e' : TypeId} {w0 w0' w1 : World} {v v' : Value} {n n' : Nat} {xs xs' : List Value} (h : RowIn e w0 w1 v n xs) (h' : RowIn e' w0' w1 v' n' xs') (hne : e ≠ e') {k : Nat} (hk : v.ownBlock = some k) : v'.ownBlock ≠ some k := by
  rcases h.own.2 with ⟨rfl, _⟩ | ⟨g, cap, cur, rfl, _, hh, _⟩
  · simp [Value.ownBlock] at hk
  · have : g = k := by simpa [Value.ownBlock] using hk
    subst this
    exact h'.ne_blk (t := e) (cs := cur) hh (Ne.symm hne)

def RunesOut (w : World) (l : List Nat) (e : Ending) (w' : World) : Prop :=
  ∃ A c, e = .returned (.slice A l.length c) ∧ RowIn 21 w w' (.slice A l.length c) l.length (rvs l)
def strLen : Value → Nat | .string s => s.size | _ => 0

theorem bys_cut (s : ByteArray) (k : Nat) : bys (s.extract k s.size) = (bys s).drop k := by
  show (s.extract k s.size).data.toList = _
  rw [extract_data]
  exact List.take_of_length_le (by rw [List.length_drop, size_bys]; exact Nat.le_refl _)

set_option maxRecDepth 100000 in
set_option maxHeartbeats 1000000 in
theorem Runes_any (s : ByteArray) (w : World) (hs : s.size ≤ 1000000) :
    Calls Try.prog 19 #[.string s] w (RunesOut w (runesD (bys s))) := by
  go_enter Try.func19, Try.ntmps19
  go_wp2
  go_loopw [0, 3] (fun sv v wr => ∃ (x : ByteArray) (done : List Nat), sv = .string x ∧ x.size + done.length ≤ s.size ∧ RowIn 21 w wr v done.length (rvs done) ∧ done ++ runesD (bys x) = runesD (bys s)) (fun sv _ _ => strLen sv)
  case atStart => exact ⟨s, [], rfl, by simp, RowIn.nil_ _ (Frm.refl _ _), rfl⟩
  case round =>
    obtain ⟨x, done, rfl, hx, hrow, hd⟩ := hrel
    have HD := Lib.hid hd
    have HR := Lib.hid hrow
    obtain ⟨A, c, rfl, -, -, -, -⟩ := hrow.shape
    clear hd hrow
    by_cases h0 : 0 < x.size
    · have hne : bys x ≠ [] := fun e => by
        have h1 : (bys x).length = 0 := by rw [e]; rfl
        rw [← size_bys] at h1
        omega
      have hle := decodeL_le _ hne
      have hw := decodeL_width (bys x)
      rw [← size_bys] at hle
      have hstep := runesD_step (bys x) hne
      have kf := First_any x wr (by omega) h0
      obtain ⟨R, K, hRK⟩ : ∃ R K, decodeL (bys x) = (R, K) := ⟨_, _, rfl⟩
      rw [hRK] at hle hw hstep kf
      simp only at hle hw hstep
      have HStep := Lib.hid hstep
      have KF := Lib.hid kf
      have HCut := Lib.hid (bys_cut x K)
      obtain ⟨v2, w2, hrun, hrow2, -, -⟩ := HR.out.push elemR (.int .i32 (R : Int)) rfl (by unfold maxLen; omega) (by omega)
      have HR2 := Lib.hid hrow2
      clear hrow2 hstep kf hRK
      have hk0 : (0 : Int) ≤ (K : Int) := Int.natCast_nonneg _
      have hk1 : (K : Int) ≤ (x.size : Int) := by omega
      have hx0 : decide ((0 : Int) < (x.size : Int)) = true := by simp; omega
      go_wp2_with (first
        | (go_at_call 34; refine KF.out.mono ?_; rintro e w' ⟨rfl, rfl⟩)
        | (at_builtin; refine wpList_append_run hrun rfl _ _ rfl rfl rfl ?_))
      go_roundw
      case rel =>
        refine ⟨x.extract K x.size, done ++ [R], rfl, ?_, ?_, ?_⟩
        · have : (x.extract K x.size).size = x.size - K := by rw [size_bys, HCut.out, List.length_drop, ← size_bys]
          rw [this, List.length_append, List.length_singleton]
          omega
        · rw [List.length_append, List.length_singleton, rvs_append]
          exact HR2.out
        · rw [HCut.out, ← HD.out, HStep.out]
          simp
      case measure =>
        have : (x.extract K x.size).size = x.size - K := by rw [size_bys, HCut.out, List.length_drop, ← size_bys]
        simp only [strLen, this]
        omega
    · have h1 : (bys x).length = 0 := by
        have := size_bys x
        omega
      have hz : bys x = [] := List.eq_nil_of_length_eq_zero h1
      have HE : Hid (done = runesD (bys s)) := by
        have := HD.out
        rw [hz, runesD_nil, List.append_nil] at this
        exact this
      have hx0 : decide ((0 : Int) < (x.size : Int)) = false := decide_eq_false (by omega)
      clear hz h1
      go_wp2
      go_ret
      rw [← HE.out]
      exact ⟨A, c, rfl, HR.out⟩

theorem encodeRuneZ_cells (r : Int) : runeCells r = (encodeRuneZ r).map fun x => Value.int .u8 x := rfl

set_option maxRecDepth 100000 in
set_option maxHeartbeats 1000000 in
theorem one_any (r : Nat) (hv : Vr r) (w : World) :
    Calls Try.prog 36 #[.int .i32 r] w fun e w' => e = .returned (.slice (some ⟨w.heap.size, 0, none⟩) (runeCells r).length (runeCells r).length) ∧ w' = w.alloc (.cells (runeCells r).toArray 5) := by
  unfold Vr at hv
  have d1 : ¬ (r : Int) < 0 := by omega
  have d2 : ¬ (1114111 : Int) < (r : Int) := by omega
  by_cases c1 : r ≤ 127
  · have e := encodeRuneZ_one (r := (r : Int)) (by omega) (by omega)
    rw [encodeRuneZ_cells, e]
    go_enter Try.func36, Try.ntmps36
    go_wp2
    go_ret
    exact ⟨rfl, rfl⟩
  by_cases c2 : r ≤ 2047
  · have e := encodeRuneZ_two (r := (r : Int)) (by omega) (by omega)
    rw [encodeRuneZ_cells, e]
    go_enter Try.func36, Try.ntmps36
    go_wp2
    go_ret
    exact ⟨rfl, rfl⟩
  by_cases c3 : r ≤ 65535
  · have e := encodeRuneZ_three (r := (r : Int)) (by omega)
    rw [encodeRuneZ_cells, e]
    have b1 : (2048 : Int) ≤ (r : Int) := by omega
    have b2 : (r : Int) ≤ 65535 := by omega
    have hs : (r : Int) < 55296 ∨ (57344 : Int) ≤ (r : Int) := by omega
    generalize (r : Int) = R at *
    obtain ⟨x, hx⟩ : ∃ x, R / 4096 = x := ⟨_, rfl⟩
    obtain ⟨Q, hQ⟩ : ∃ Q, R / 64 = Q := ⟨_, rfl⟩
    obtain ⟨y, hy⟩ : ∃ y, Q % 64 = y := ⟨_, rfl⟩
    obtain ⟨z, hz⟩ : ∃ z, R % 64 = z := ⟨_, rfl⟩
    rw [hx, hQ, hy, hz]
    have x0 : 0 ≤ x := by omega
    have x1 : x ≤ 15 := by omega
    have q0 : 0 ≤ Q := by omega
    have q1 : Q ≤ 1024 := by omega
    have y0 : 0 ≤ y := by omega
    have y1 : y ≤ 63 := by omega
    have z0 : 0 ≤ z := by omega
    have z1 : z ≤ 63 := by omega
    clear c1 c2 c3 hv e d2 d1
    rcases hs with b3 | b3
    · go_enter Try.func36, Try.ntmps36
      go_wp2
      go_ret
      exact ⟨rfl, rfl⟩
    · go_enter Try.func36, Try.ntmps36
      go_wp2
      go_ret
      exact ⟨rfl, rfl⟩
  · have e := encodeRuneZ_four (r := (r : Int)) (by omega) (by omega)
    rw [encodeRuneZ_cells, e]
    have d3 : (65536 : Int) ≤ (r : Int) := by omega
    have d4 : (r : Int) ≤ 1114111 := by omega
    generalize (r : Int) = R at *
    obtain ⟨x, hx⟩ : ∃ x, R / 262144 = x := ⟨_, rfl⟩
    obtain ⟨Q, hQ⟩ : ∃ Q, R / 64 = Q := ⟨_, rfl⟩
    obtain ⟨T, hT⟩ : ∃ T, R / 4096 = T := ⟨_, rfl⟩
    obtain ⟨y, hy⟩ : ∃ y, Q % 64 = y := ⟨_, rfl⟩
    obtain ⟨u, hu⟩ : ∃ u, T % 64 = u := ⟨_, rfl⟩
    obtain ⟨z, hz⟩ : ∃ z, R % 64 = z := ⟨_, rfl⟩
    rw [hx, hQ, hT, hy, hu, hz]
    have x0 : 0 ≤ x := by omega
    have x1 : x ≤ 4 := by omega
    have q0 : 0 ≤ Q := by omega
    have q1 : Q ≤ 20000 := by omega
    have t0 : 0 ≤ T := by omega
    have t1 : T ≤ 300 := by omega
    have y0 : 0 ≤ y := by omega
    have y1 : y ≤ 63 := by omega
    have u0 : 0 ≤ u := by omega
    have u1 : u ≤ 63 := by omega
    have z0 : 0 ≤ z := by omega
    have z1 : z ≤ 63 := by omega
    clear c1 c2 c3 hv e d2 d1
    go_enter Try.func36, Try.ntmps36
    go_wp2
    go_ret
    exact ⟨rfl, rfl⟩
end Go.Proofs.Ytnnfgbnnodcepaa
