/-
  Contracts: utf.Fold; the beginning of a word (words.short).
-/
import Derived.Test.YtnnfgbnnodcepaaWC
namespace Go.Proofs.Ytnnfgbnnodcepaa
open Go.RowKit Go.Lib

theorem frm_iterAt (w : World) (k : Nat) (s : ByteArray) (pos : Nat) : Frm (fun i => i = k) w (w.iterAt k s pos) := by
  refine ⟨rfl, rfl, rfl, by rw [Lib.iterAt_size]; exact Nat.le_refl _, fun i _ hn => Lib.iterAt_other _ _ _ _ _ hn⟩

/-- what is left of a text's runes, from a place on. -/
theorem drop_step (s : ByteArray) (pos : Nat) (h : pos < s.size) : runesD ((bys s).drop pos) = (Utf8.decode s pos).1 :: runesD ((bys s).drop (pos + (Utf8.decode s pos).2)) ∧ pos + (Utf8.decode s pos).2 ≤ s.size ∧ 1 ≤ (Utf8.decode s pos).2 := by
  have hne : (bys s).drop pos ≠ [] := by
    intro e
    have := congrArg List.length e
    rw [List.length_drop, ← size_bys] at this
    simp at this
    omega
  have e := decodeL_drop s pos
  have hle := decodeL_le _ hne
  have hw := decodeL_width ((bys s).drop pos)
  rw [List.length_drop, ← size_bys, e] at hle
  rw [e] at hw
  refine ⟨?_, by omega, hw⟩
  rw [runesD_step _ hne, e, List.drop_drop]

theorem enc_fold_step (l : List Nat) (r : Nat) (acc : List UInt8) : acc ++ enc ((r :: l).map foldR) = (acc ++ encR (foldR r)) ++ enc (l.map foldR) := by
  rw [List.map_cons, enc_cons, List.append_assoc]

set_option maxRecDepth 100000 in
set_option maxHeartbeats 2000000 in
theorem uFold_any (s : ByteArray) (w : World) (hs : s.size ≤ 1000000) :
    Calls Try.prog 24 #[.string s] w fun e w' => e = .returned (.string (ofB (foldS (bys s)))) ∧ Frm Nix w w' := by
  have hb0 := Blk.new w 47 #[.pointer none, .slice none 0 0]
  go_enter Try.func24, Try.ntmps24
  go_wp2
  go_loopw [] (fun wr => ∃ (pos : Nat) (acc : List UInt8) (p v : Value), (p = .pointer none ∨ p = selfP w.heap.size) ∧ Blk wr w.heap.size 47 #[p, v] ∧ RowIn 5 w wr v acc.length (byteCells acc) ∧
    wr.heap[w.heap.size + 1]? = some (.stringIter s pos) ∧ acc ++ enc ((runesD ((bys s).drop pos)).map foldR) = foldS (bys s) ∧ pos ≤ s.size ∧ acc.length ≤ 4 * pos) (fun wr => s.size - wr.iterPos (w.heap.size + 1))
  case atStart =>
    have hfa : Frm Nix w (w.alloc (.cells #[.pointer none, .slice none 0 0] 47)) := (Frm.refl Nix w).alloc _
    refine ⟨0, [], .pointer none, .slice none 0 0, .inl rfl, hb0.alloc _, RowIn.nil_ _ (hfa.alloc _), ?_, by simp [foldS, folds], Nat.zero_le _, by simp⟩
    have := World.iter_heap (w.alloc (.cells #[.pointer none, .slice none 0 0] 47)) s 0
    simpa using this
  case round =>
    obtain ⟨pos, acc, p, v, hp, hb, hr, hit, hacc, hps, hal⟩ := hrel
    have HB := Lib.hid hb
    have HR := Lib.hid hr
    have HA := Lib.hid hacc
    have HP := Lib.hid hp
    have hfr := hr.frm
    have hbl := hb.lt
    clear hb hr hacc hp
    by_cases hlt : pos < s.size
    · have hnx : ∀ ty, (Instr.next (.pointer (some ⟨w.heap.size + 1, 0, none⟩)) true ty).run Try.prog wr = _ := fun ty => Lib.run_next_any_at wr (w.heap.size + 1) s pos ty hit hlt
      obtain ⟨hd1, hd2, hd3⟩ := drop_step s pos hlt
      have hv := decodeL_valid ((bys s).drop pos)
      rw [decodeL_drop s pos] at hv
      have hit2 := Lib.iterAt_heap wr (w.heap.size + 1) s pos (pos + (Utf8.decode s pos).2) hit
      have hfi := frm_iterAt wr (w.heap.size + 1) s (pos + (Utf8.decode s pos).2)
      have HD := Lib.hid hd1
      have hni : v.ownBlock ≠ some (w.heap.size + 1) := HR.out.ne_obj hit fun _ _ _ h => by cases h
      clear hd1
      generalize (Utf8.decode s pos).1 = R at *
      generalize (Utf8.decode s pos).2 = K at *
      have HB2 : Hid (Blk (wr.iterAt (w.heap.size + 1) s (pos + K)) w.heap.size 47 #[p, v]) := HB.out.frm hfi (by omega)
      have HR2 : Hid (RowIn 5 w (wr.iterAt (w.heap.size + 1) s (pos + K)) v acc.length (byteCells acc)) := HR.out.far hfi (fun k hk => by omega) (fun k hk e => hni (by rw [hk, e]))
      generalize wr.iterAt (w.heap.size + 1) s (pos + K) = wi at *
      have hR : R ≤ 1114111 := by unfold Vr at hv; omega
      have hfv : Vr (foldR R) := foldR_valid hv
      have hF : foldR R ≤ 1114111 := by unfold Vr at hfv; omega
      have KF := fun W => ufold_any R W hR
      have KW := Lib.hid (WriteRune_any (Nat.le_refl _) HP.out HB2.out HR2.out (foldR R) (by omega) (by omega) (by omega))
      clear hv hfv hfi
      go_wp2_with (first | (go_at_call 38; refine (KF _).mono ?_; rintro e w' ⟨rfl, rfl⟩) | (go_at_call 37; refine KW.out.mono ?_; rintro e w2 ⟨rfl, v', hb2, hr2, hf2⟩; have HX := Lib.hid (And.intro hb2 (And.intro hr2 hf2)); clear hb2 hr2 hf2))
      go_roundw
      case rel =>
        obtain ⟨hb2, hr2, hf2⟩ := HX.out
        have hit3 : w2.heap[w.heap.size + 1]? = some (.stringIter s (pos + K)) := by
          rw [hf2.block _ (lt_of_obj hit2) (fun h => by
            rcases h with h | h
            · omega
            · exact HR2.out.ne_obj hit2 (fun _ _ _ h => by cases h) h)]
          exact hit2
        have hl4 := runeCells_le (foldR R : Int)
        rw [runeCells_length] at hl4
        refine ⟨pos + K, acc ++ encR (foldR R), selfP w.heap.size, v', .inr rfl, hb2, ?_, hit3, ?_, hd2, ?_⟩
        · have e1 : (acc ++ encR (foldR R)).length = acc.length + (runeCells (foldR R : Int)).length := by rw [List.length_append, runeCells_length]; rfl
          rw [e1, byteCells_append]
          have e2 : byteCells (encR (foldR R)) = runeCells (foldR R : Int) := byteCells_encodeRune _
          rw [e2]
          exact hr2
        · rw [← HA.out, HD.out, enc_fold_step]
        · have : (encR (foldR R)).length = (encodeRune (foldR R : Int)).length := rfl
          rw [List.length_append, this]
          omega
      case measure =>
        obtain ⟨hb2, hr2, hf2⟩ := HX.out
        have hit3 : w2.heap[w.heap.size + 1]? = some (.stringIter s (pos + K)) := by
          rw [hf2.block _ (lt_of_obj hit2) (fun h => by
            rcases h with h | h
            · omega
            · exact HR2.out.ne_obj hit2 (fun _ _ _ h => by cases h) h)]
          exact hit2
        simp only [World.iterPos, hit3, hit]
        omega
    · have hnx : ∀ ty, (Instr.next (.pointer (some ⟨w.heap.size + 1, 0, none⟩)) true ty).run Try.prog wr = _ := fun ty => Lib.run_next_end_at wr (w.heap.size + 1) s pos ty hit hlt
      have hI : Lib.IsBuilder 47 5 w.heap.size w.heap.size (byteCells acc) wr := by
        have h1 : BuilderAt 47 5 w.heap.size w.heap.size p (byteCells acc) wr := ⟨Nat.le_refl _, v, HB.out, by rw [Lib.byteCells_length]; exact HR.out.own, HR.out.ne_blk HB.out ne_ub⟩
        rcases HP.out with e | e
        · subst e; exact .inl h1
        · subst e; exact .inr h1
      have KS := Lib.hid (Try.Builder_String_any w.heap.size w.heap.size acc wr hI (by omega))
      have HAcc : Hid (acc = foldS (bys s)) := by
        have h1 : (bys s).drop pos = [] := List.drop_eq_nil_iff.2 (by rw [← size_bys]; omega)
        have h2 := HA.out
        rw [h1, runesD_nil, List.map_nil, enc_nil, List.append_nil] at h2
        exact h2
      have HF := Lib.hid hfr
      clear hI hfr
      go_wp2_with (go_at_call 39; refine KS.out.mono ?_; rintro e w1 ⟨rfl, hbel⟩)
      go_ret
      have hs0 := HF.out.size
      have hfb : Frm (fun k => w.heap.size ≤ k) wr w1 := ⟨hbel.os, hbel.tape, hbel.output, hbel.size, fun i _ hn => hbel.block i (by omega)⟩
      exact ⟨by rw [HAcc.out]; rfl, HF.out.next hfb fun i hi => .inr hi⟩

theorem enc_take_drop (w : List Nat) (k : Nat) : enc (w.take k) ++ enc (w.drop k) = enc w := by rw [← enc_append, List.take_append_drop]
theorem enc_take_succ (w : List Nat) (k : Nat) (h : k < w.length) : enc (w.take (k + 1)) = enc (w.take k) ++ encR w[k] := by
  rw [List.take_succ_eq_append_getElem h, enc_append]
  simp [enc]
theorem decode_at_rune (w : List Nat) (hv : ∀ r ∈ w, Vr r) (k : Nat) (h : k < w.length) : Utf8.decode (ofB (enc w)) (enc (w.take k)).length = (w[k], (encR w[k]).length) ∧ (enc (w.take k)).length < (ofB (enc w)).size := by
  have hd : (bys (ofB (enc w))).drop (enc (w.take k)).length = encR w[k] ++ enc (w.drop (k + 1)) := by
    rw [bys_ofB, ← enc_take_drop w k, List.drop_left']
    · rw [List.drop_eq_getElem_cons h, enc_cons]
    · rfl
  constructor
  · rw [← decodeL_drop, hd]
    exact decode_enc _ (hv _ (List.getElem_mem h)) _
  · rw [size_bys, bys_ofB, ← enc_take_drop w k, List.length_append, List.drop_eq_getElem_cons h, enc_cons, List.length_append]
    have := encR_len w[k]
    omega

set_option maxRecDepth 100000 in
set_option maxHeartbeats 2000000 in
/-- the beginning of a word. -/
theorem short_any (x : List Nat) (hv : ∀ r ∈ x, Vr r) (w : World) :
    Calls Try.prog 27 #[.string (ofB (enc x))] w fun e w' => e = .returned (.string (ofB (enc (x.take 32)))) ∧ Frm Nix w w' := by
  go_enter Try.func27, Try.ntmps27
  go_wp2
  go_loopw [3] (fun n wr => ∃ k : Nat, k ≤ x.length ∧ k ≤ 32 ∧ n = .int .i64 k ∧ wr.heap[w.heap.size]? = some (.stringIter (ofB (enc x)) (enc (x.take k)).length) ∧ Frm Nix w wr) (fun n wr => 33 - (intOf n).toNat)
  case atStart => exact ⟨0, Nat.zero_le _, by omega, rfl, World.iter_heap w _ 0, (Frm.refl Nix w).alloc _⟩
  case round =>
    obtain ⟨k, hk, hk32, rfl, hit, hfr⟩ := hrel
    have HF := Lib.hid hfr
    have hsz := hfr.size
    clear hfr
    by_cases hlt : k < x.length
    · obtain ⟨hd1, hd2⟩ := decode_at_rune x hv k hlt
      have hnx : ∀ ty, (Instr.next (.pointer (some ⟨w.heap.size, 0, none⟩)) true ty).run Try.prog wr = _ := fun ty => Lib.run_next_any_at wr w.heap.size (ofB (enc x)) (enc (x.take k)).length ty hit hd2
      rw [hd1] at hnx
      simp only at hnx
      have hts := enc_take_succ x k hlt
      have hle : (enc (x.take (k + 1))).length = (enc (x.take k)).length + (encR x[k]).length := by rw [hts, List.length_append]
      have hit2 := Lib.iterAt_heap wr w.heap.size (ofB (enc x)) (enc (x.take k)).length ((enc (x.take k)).length + (encR x[k]).length) hit
      have HI : Hid ((wr.iterAt w.heap.size (ofB (enc x)) ((enc (x.take k)).length + (encR x[k]).length)).heap[w.heap.size]? = some (.stringIter (ofB (enc x)) (enc (x.take (k + 1))).length)) := by rw [hle]; exact hit2
      have HF2 : Hid (Frm Nix w (wr.iterAt w.heap.size (ofB (enc x)) ((enc (x.take k)).length + (encR x[k]).length))) := HF.out.next (frm_iterAt wr w.heap.size _ _) fun i hi => .inr (by rw [hi]; exact Nat.le_refl _)
      clear hit2 hts hle hd1
      have HX : Hid ((ofB (enc x)).extract 0 (enc (x.take k)).length = ofB (enc (x.take k))) := by
        apply bys_inj
        rw [bys_ofB]
        show ((ofB (enc x)).extract 0 (enc (x.take k)).length).data.toList = _
        rw [extract_data]
        show ((bys (ofB (enc x))).drop 0).take _ = _
        rw [bys_ofB, ← enc_take_drop x k]
        simp
      generalize (encR x[k]).length = K at *
      generalize wr.iterAt w.heap.size (ofB (enc x)) ((enc (x.take k)).length + K) = wi at *
      obtain ⟨E, hE⟩ : ∃ E, (enc (x.take k)).length = E := ⟨_, rfl⟩
      rw [hE] at hd2 hnx HX
      clear hE hit
      generalize hS : ofB (enc x) = S at *
      by_cases h32 : k = 32
      · subst h32
        have e1 : (0 : Int) ≤ (E : Int) := Int.natCast_nonneg _
        go_wp2
        go_ret
        exact ⟨by first | rfl | (rw [HX.out]; rfl), HF2.out⟩
      · have hd32 : decide ((k : Int) = 32) = false := by simp; omega
        have hb32 : ((k : Int) == 32) = false := by simp; omega
        go_wp2
        go_roundw
        case rel => exact ⟨k + 1, by omega, by omega, by go_num, HI.out, HF2.out⟩
        case measure => simp [intOf]; omega
    · obtain rfl : k = x.length := by omega
      have hx : x.take x.length = x := List.take_of_length_le (Nat.le_refl _)
      rw [hx] at hit
      have hd2 : ¬ (enc x).length < (ofB (enc x)).size := by rw [size_bys, bys_ofB]; omega
      have hnx : ∀ ty, (Instr.next (.pointer (some ⟨w.heap.size, 0, none⟩)) true ty).run Try.prog wr = _ := fun ty => Lib.run_next_end_at wr w.heap.size (ofB (enc x)) (enc x).length ty hit hd2
      have HX : Hid (x.take 32 = x) := List.take_of_length_le hk32
      clear hit hd2
      generalize hS : ofB (enc x) = S at *
      go_wp2
      go_ret
      exact ⟨by rw [HX.out, hS]; rfl, HF.out⟩
end Go.Proofs.Ytnnfgbnnodcepaa
