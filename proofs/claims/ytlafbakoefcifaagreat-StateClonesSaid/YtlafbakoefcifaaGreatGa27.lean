/-
  Contracts: Clone of a state.
-/
import Derived.Test.YtlafbakoefcifaaGreatGa15
import Derived.Test.YtlafbakoefcifaaGreatGa06
import Derived.Test.YtlafbakoefcifaaGreatGa14
import Derived.Deep.RegionHeld3
set_option linter.unusedVariables false
set_option linter.unusedSimpArgs false
set_option maxRecDepth 100000
set_option maxHeartbeats 16000000
namespace Go.Proofs.YtlafbakoefcifaaGreat
open Go.Proofs Go.RowKit Go.Lib
theorem Frm.setG {g2:Nat} {w w1:World} (h:Frm (·=g2) w w1) (i:Nat) (u:Value):Frm (·=g2) w (w1.setCell ⟨g2,i,none⟩ u):=h.setCell (.inl rfl) u
theorem MapIs.made {P:Program} {k:TypeId} {w:World} {m:Nat} {L:List (Value×Value)} (h:MapIs P k w m L):∃ es clock,w.heap[m]? =some (.map es clock)∧∀ (w':World) (m':Nat),w'.heap[m']? =some (.map es clock)→MapIs P k w' m' L:=by
 obtain⟨R,clock,hg,hok,hp⟩:=h
 exact⟨_,clock,hg,fun w' m' h'=>⟨R,clock,h',hok,hp⟩⟩
theorem clone_fo {W:World} {b:Nat} {L:List (Value×Value)} (h:MapIs Tryz.prog 3 W b L):Calls Tryz.prog 64 #[.map (some b)] W fun e w'=>e=.returned (.map (some W.heap.size))∧MapIs Tryz.prog 3 w' W.heap.size L∧Frm Nix W w'∧w'.heap.size=W.heap.size+1:=by
 obtain⟨es,clock,hh,hm⟩:=h.made
 refine(AnyW.maps_Clone Tryz.cl64 b es clock W hh).mono ?_
 rintro e w' ⟨rfl,rfl⟩
 exact⟨rfl,hm _ _ (heap_alloc_new W _),(Frm.refl Nix W).alloc _,by simp⟩
theorem clone_fe {W:World} {b:Nat} {L:List (Value×Value)} (h:MapIs Tryz.prog 3 W b L):Calls Tryz.prog 65 #[.map (some b)] W fun e w'=>e=.returned (.map (some W.heap.size))∧MapIs Tryz.prog 3 w' W.heap.size L∧Frm Nix W w'∧w'.heap.size=W.heap.size+1:=by
 obtain⟨es,clock,hh,hm⟩:=h.made
 refine(AnyW.maps_Clone Tryz.cl65 b es clock W hh).mono ?_
 rintro e w' ⟨rfl,rfl⟩
 exact⟨rfl,hm _ _ (heap_alloc_new W _),(Frm.refl Nix W).alloc _,by simp⟩
theorem clone_it {W:World} {b:Nat} {L:List (Value×Value)} (h:MapIs Tryz.prog 3 W b L):Calls Tryz.prog 66 #[.map (some b)] W fun e w'=>e=.returned (.map (some W.heap.size))∧MapIs Tryz.prog 3 w' W.heap.size L∧Frm Nix W w'∧w'.heap.size=W.heap.size+1:=by
 obtain⟨es,clock,hh,hm⟩:=h.made
 refine(AnyW.maps_Clone Tryz.cl66 b es clock W hh).mono ?_
 rintro e w' ⟨rfl,rfl⟩
 exact⟨rfl,hm _ _ (heap_alloc_new W _),(Frm.refl Nix W).alloc _,by simp⟩
theorem clone_se {W:World} {b:Nat} {L:List (Value×Value)} (h:MapIs Tryz.prog 3 W b L):Calls Tryz.prog 67 #[.map (some b)] W fun e w'=>e=.returned (.map (some W.heap.size))∧MapIs Tryz.prog 3 w' W.heap.size L∧Frm Nix W w'∧w'.heap.size=W.heap.size+1:=by
 obtain⟨es,clock,hh,hm⟩:=h.made
 refine(AnyW.maps_Clone Tryz.cl67 b es clock W hh).mono ?_
 rintro e w' ⟨rfl,rfl⟩
 exact⟨rfl,hm _ _ (heap_alloc_new W _),(Frm.refl Nix W).alloc _,by simp⟩
theorem clone_na {W:World} {b:Nat} {L:List (Value×Value)} (h:MapIs Tryz.prog 98 W b L):Calls Tryz.prog 68 #[.map (some b)] W fun e w'=>e=.returned (.map (some W.heap.size))∧MapIs Tryz.prog 98 w' W.heap.size L∧Frm Nix W w'∧w'.heap.size=W.heap.size+1:=by
 obtain⟨es,clock,hh,hm⟩:=h.made
 refine(AnyW.maps_Clone Tryz.cl68 b es clock W hh).mono ?_
 rintro e w' ⟨rfl,rfl⟩
 exact⟨rfl,hm _ _ (heap_alloc_new W _),(Frm.refl Nix W).alloc _,by simp⟩
theorem clone_pl {W:World} {b:Nat} {L:List (Value×Value)} (h:MapIs Tryz.prog 9 W b L):Calls Tryz.prog 69 #[.map (some b)] W fun e w'=>e=.returned (.map (some W.heap.size))∧MapIs Tryz.prog 9 w' W.heap.size L∧Frm Nix W w'∧w'.heap.size=W.heap.size+1:=by
 obtain⟨es,clock,hh,hm⟩:=h.made
 refine(AnyW.maps_Clone Tryz.cl69 b es clock W hh).mono ?_
 rintro e w' ⟨rfl,rfl⟩
 exact⟨rfl,hm _ _ (heap_alloc_new W _),(Frm.refl Nix W).alloc _,by simp⟩
theorem clone_gu {W:World} {b:Nat} {L:List (Value×Value)} (h:MapIs Tryz.prog 100 W b L):Calls Tryz.prog 70 #[.map (some b)] W fun e w'=>e=.returned (.map (some W.heap.size))∧MapIs Tryz.prog 100 w' W.heap.size L∧Frm Nix W w'∧w'.heap.size=W.heap.size+1:=by
 obtain⟨es,clock,hh,hm⟩:=h.made
 refine(AnyW.maps_Clone Tryz.cl70 b es clock W hh).mono ?_
 rintro e w' ⟨rfl,rfl⟩
 exact⟨rfl,hm _ _ (heap_alloc_new W _),(Frm.refl Nix W).alloc _,by simp⟩
theorem clone_he {W:World} {b:Nat} {L:List (Value×Value)} (h:MapIs Tryz.prog 3 W b L):Calls Tryz.prog 71 #[.map (some b)] W fun e w'=>e=.returned (.map (some W.heap.size))∧MapIs Tryz.prog 3 w' W.heap.size L∧Frm Nix W w'∧w'.heap.size=W.heap.size+1:=by
 obtain⟨es,clock,hh,hm⟩:=h.made
 refine(AnyW.maps_Clone Tryz.cl71 b es clock W hh).mono ?_
 rintro e w' ⟨rfl,rfl⟩
 exact⟨rfl,hm _ _ (heap_alloc_new W _),(Frm.refl Nix W).alloc _,by simp⟩
theorem CloneT5 {w wc:World} {g g2:Nat} {M:Ms} {x:St} (hS:StAt wc g M x) (hF:Frm Nix w wc) (hg:w.heap.size≤g2) (hne:g≠g2) {sl:Int→Sl} (hit:MapIs Tryz.prog 3 wc M.it (x.itms.map fun t=>(kI t.id,itmV (sl t.id) t))) (htg:∀ t ∈ x.itms,TagsIn wc (sl t.id) t.tags) {HL:List (Int×Int)} (hhe:MapIs Tryz.prog 3 wc M.he (HL.map fun p=>(kI p.1,kI p.2))) (hh1:∀ p ∈ HL,p.1≠0) (hh2:∀ i,i≠0→heldL HL i=heldS x i) {M1 M2 M3 M4:Nat} (hb:Blk wc g2 82 #[.int .i64 x.clock,.map (some M1),.map (some M2),.map (some M3),.map (some M4),.map (some M.na),.map (some M.pl),.map (some M.gu),.map (some M.he),.int .i64 x.tFol,.int .i64 x.tFee,.int .i64 x.tItm,.int .i64 x.tSea]) (m1:MapIs Tryz.prog 3 wc M1 (x.fols.map fun f=>(kI f.id,folV f))) (m2:MapIs Tryz.prog 3 wc M2 (x.fees.map fun f=>(kI f.id,feeV f))) (m3:MapIs Tryz.prog 3 wc M3 (x.itms.map fun t=>(kI t.id,itmV (sl t.id) t))) (m4:MapIs Tryz.prog 3 wc M4 (x.seas.map fun f=>(kI f.id,seaV f))) (hord:g2<M1∧M1<M2∧M2<M3∧M3<M4∧M4<wc.heap.size) (hlt:∀ k,SF g M k→k<g2) {u1 u2 u4 u5 u6 u7 u8 u9 u10 u11 u12 u13 u14 u15 u16 u17 u18 u19 u20 u21 u22 u23 u24 u25 u26 u27 u28 u29 u30 u31 u32 u33 u34 u35 u36 u37 u38 u39 u40 u41 u42 u43 u44 u45 u46 u47 u48 u49 u50 u51 u52 u53 u54 u55 u56:Value}:
  Code.wp Tryz.prog (peel 4 (bodyOf Tryz.f19)) (bodyPost Tryz.prog Tryz.f19 fun e w'=>∃ g2 M2,e=.returned (.pointer (some ⟨g2,0,none⟩))∧StAt w' g M x∧StAt w' g2 M2 x∧Frm Nix w w'∧∀ k,SF g2 M2 k→w.heap.size≤k) ⟨#[.pointer (some ⟨g,0,none⟩),u1,u2,.pointer (some ⟨g2,0,none⟩),u4,u5,u6,u7,u8,u9,u10,u11,u12,u13,u14,u15,u16,u17,u18,u19,u20,u21,u22,u23,u24,u25,u26,u27,u28,u29,u30,u31,u32,u33,u34,u35,u36,u37,u38,u39,u40,u41,u42,u43,u44,u45,u46,u47,u48,u49,u50,u51,u52,u53,u54,u55,u56],[]⟩ wc:=by
 have K1:Hid (∀ W,Frm Nix wc W→Calls Tryz.prog 68 #[.map (some M.na)] W fun e w'=>e=.returned (.map (some W.heap.size))∧MapIs Tryz.prog 98 w' W.heap.size (x.fols.map fun f=>(kP f.inn f.name,kI f.id))∧Frm Nix W w'∧w'.heap.size=W.heap.size+1):=fun W hW=>clone_na (hS.maps.na.frm hW id)
 have K2:Hid (∀ W,Frm Nix wc W→Calls Tryz.prog 69 #[.map (some M.pl)] W fun e w'=>e=.returned (.map (some W.heap.size))∧MapIs Tryz.prog 9 w' W.heap.size (x.fees.map fun f=>(.string f.url,kI f.id))∧Frm Nix W w'∧w'.heap.size=W.heap.size+1):=fun W hW=>clone_pl (hS.maps.pl.frm hW id)
 have K3:Hid (∀ W,Frm Nix wc W→Calls Tryz.prog 70 #[.map (some M.gu)] W fun e w'=>e=.returned (.map (some W.heap.size))∧MapIs Tryz.prog 100 w' W.heap.size (x.itms.map fun t=>(kP t.feed t.guid,kI t.id))∧Frm Nix W w'∧w'.heap.size=W.heap.size+1):=fun W hW=>clone_gu (hS.maps.gu.frm hW id)
 have K4:Hid (∀ W,Frm Nix wc W→Calls Tryz.prog 71 #[.map (some M.he)] W fun e w'=>e=.returned (.map (some W.heap.size))∧MapIs Tryz.prog 3 w' W.heap.size (HL.map fun p=>(kI p.1,kI p.2))∧Frm Nix W w'∧w'.heap.size=W.heap.size+1):=fun W hW=>clone_he (hhe.frm hW id)
 have HMk:Hid (∀ W,Frm (·=g2) wc W→(fun W=>Frm (·=g2) wc W∧W.cell? ⟨g,5,none⟩=some (.map (some M.na))∧W.cell? ⟨g,6,none⟩=some (.map (some M.pl))∧W.cell? ⟨g,7,none⟩=some (.map (some M.gu))∧W.cell? ⟨g,8,none⟩=some (.map (some M.he))) W):=fun W hW=>by
  have hS2:=hS.blk.frm hW hne
  exact⟨hW,hS2.cell 5,hS2.cell 6,hS2.cell 7,hS2.cell 8⟩
 have HS:=Lib.hid hS
 have HF:=Lib.hid hF
 have HB:=Lib.hid hb
 have HIt:=Lib.hid (And.intro hit htg)
 have HHe:=Lib.hid (And.intro hhe (And.intro hh1 hh2))
 have HLt:=Lib.hid hlt
 have HO1:=Lib.hid m1
 have HO2:=Lib.hid m2
 have HO3:=Lib.hid m3
 have HO4:=Lib.hid m4
 have HOrd:=Lib.hid hord
 have hsz:=hF.size
 have hbl:=hb.lt
 have hrf:=Frm.refl (·=g2) wc
 clear hS hF hb hit htg hhe hh1 hh2 hlt m1 m2 m3 m4 hord
 have e1:peel 4 (bodyOf Tryz.f19)=.seq (hdC (peel 4 (bodyOf Tryz.f19))) (peel 5 (bodyOf Tryz.f19)):=by kernel_rfl
 rw[e1]
 clear e1
 refine wp_seq_k fun K hK=>?_
 conv in hdC _=>whnf
 go_region_held3 (fun W=>Frm (·=g2) wc W∧W.cell? ⟨g,5,none⟩=some (.map (some M.na))∧W.cell? ⟨g,6,none⟩=some (.map (some M.pl))∧W.cell? ⟨g,7,none⟩=some (.map (some M.gu))∧W.cell? ⟨g,8,none⟩=some (.map (some M.he))) ((refine HMk.out _ ?_;repeat' (first | with_reducible exact hrf | with_reducible exact(Frm.nix hz4) | with_reducible exact(Frm.nix hz3) | with_reducible exact(Frm.nix hz2) | with_reducible exact(Frm.nix hz1) | with_reducible apply Frm.drew | with_reducible apply Frm.setG))) (first
  | (go_at_call 71;refine(K4.out _ (by repeat' (first | with_reducible exact Frm.refl _ _ | with_reducible apply Frm.drew | with_reducible exact hz1 | with_reducible exact hz2 | with_reducible exact hz3))).mono ?_;rintro e w4 ⟨rfl,hm4,hf4,hs4⟩;have hz4:Frm Nix wc w4:=Frm.trans (by repeat' (first | with_reducible exact Frm.refl _ _ | with_reducible apply Frm.drew | with_reducible exact hz1 | with_reducible exact hz2 | with_reducible exact hz3)) hf4;have HC4:Hid (Frm Nix w3 w4):=Frm.trans (by repeat' (first | with_reducible exact Frm.refl _ _ | with_reducible apply Frm.drew)) hf4;have HM4:=Lib.hid hm4;have HSz4:=Lib.hid hs4;clear hm4 hf4 hs4;have hb4:=HB.out.frm hz4 id;have z5:=hb4.cell 5;have y5:=hb4.frozen 5;have z6:=hb4.cell 6;have y6:=hb4.frozen 6;have z7:=hb4.cell 7;have y7:=hb4.frozen 7;have z8:=hb4.cell 8;have y8:=hb4.frozen 8;(try simp at z5 z6 z7 z8);have HB4:=Lib.hid hb4;clear hb4)
  | (go_at_call 70;refine(K3.out _ (by repeat' (first | with_reducible exact Frm.refl _ _ | with_reducible apply Frm.drew | with_reducible exact hz1 | with_reducible exact hz2))).mono ?_;rintro e w3 ⟨rfl,hm3,hf3,hs3⟩;have hz3:Frm Nix wc w3:=Frm.trans (by repeat' (first | with_reducible exact Frm.refl _ _ | with_reducible apply Frm.drew | with_reducible exact hz1 | with_reducible exact hz2)) hf3;have HC3:Hid (Frm Nix w2 w3):=Frm.trans (by repeat' (first | with_reducible exact Frm.refl _ _ | with_reducible apply Frm.drew)) hf3;have HM3:=Lib.hid hm3;have HSz3:=Lib.hid hs3;clear hm3 hf3 hs3)
  | (go_at_call 69;refine(K2.out _ (by repeat' (first | with_reducible exact Frm.refl _ _ | with_reducible apply Frm.drew | with_reducible exact hz1))).mono ?_;rintro e w2 ⟨rfl,hm2,hf2,hs2⟩;have hz2:Frm Nix wc w2:=Frm.trans (by repeat' (first | with_reducible exact Frm.refl _ _ | with_reducible apply Frm.drew | with_reducible exact hz1)) hf2;have HC2:Hid (Frm Nix w1 w2):=Frm.trans (by repeat' (first | with_reducible exact Frm.refl _ _ | with_reducible apply Frm.drew)) hf2;have HM2:=Lib.hid hm2;have HSz2:=Lib.hid hs2;clear hm2 hf2 hs2)
  | (go_at_call 68;refine(K1.out _ (by repeat' (first | with_reducible exact Frm.refl _ _ | with_reducible apply Frm.drew))).mono ?_;rintro e w1 ⟨rfl,hm1,hf1,hs1⟩;have hz1:Frm Nix wc w1:=Frm.trans (by repeat' (first | with_reducible exact Frm.refl _ _ | with_reducible apply Frm.drew)) hf1;have HC1:Hid (Frm Nix wc w1):=Frm.trans (by repeat' (first | with_reducible exact Frm.refl _ _ | with_reducible apply Frm.drew)) hf1;have HM1:=Lib.hid hm1;have HSz1:=Lib.hid hs1;clear hm1 hf1 hs1))
 all_goals
  go_wp2
  have hfs:Frm (·=g2) w4 ((((w4.setCell ⟨g2,5,none⟩ (.map (some wc.heap.size))).setCell ⟨g2,6,none⟩ (.map (some w1.heap.size))).setCell ⟨g2,7,none⟩ (.map (some w2.heap.size))).setCell ⟨g2,8,none⟩ (.map (some w3.heap.size))):=((((Frm.refl (·=g2) w4).setCell (.inl rfl) _).setCell (.inl rfl) _).setCell (.inl rfl) _).setCell (.inl rfl) _
  have hfa:=(Frm.nix (F:=(·=g2)) hz4).trans hfs
  have hb5:=(((HB4.out.set_ 5 (.map (some wc.heap.size))).set_ 6 (.map (some w1.heap.size))).set_ 7 (.map (some w2.heap.size))).set_ 8 (.map (some w3.heap.size))
  have hfw:Frm Nix w ((((w4.setCell ⟨g2,5,none⟩ (.map (some wc.heap.size))).setCell ⟨g2,6,none⟩ (.map (some w1.heap.size))).setCell ⟨g2,7,none⟩ (.map (some w2.heap.size))).setCell ⟨g2,8,none⟩ (.map (some w3.heap.size))):=(HF.out.trans hz4).next hfs fun k hk=>.inr (by omega)
  have s1:w1.heap.size=wc.heap.size+1:=HSz1.out
  have s2:=HSz2.out
  have s3:=HSz3.out
  have s4:=HSz4.out
  have s5:=hfs.size
  obtain⟨q1,q2,q3,q4,q5⟩:=HOrd.out
  have b1:¬M1=g2:=by omega
  have b2:¬M2=g2:=by omega
  have b3:¬M3=g2:=by omega
  have b4:¬M4=g2:=by omega
  have a1:¬wc.heap.size=g2:=by omega
  have a2:¬w1.heap.size=g2:=by omega
  have a3:¬w2.heap.size=g2:=by omega
  have a4:¬w3.heap.size=g2:=by omega
  have hn:∀ k,SF g M k→¬k=g2:=fun k hk e=>by have:=HLt.out k hk;omega
  have hstr:∀ k,StrB wc k→¬k=g2:=fun k hk e=>HB.out.ne_str (by decide) hk e
  have hS2:=HS.out.frm hfa hn hstr
  simp only[peel,bodyOf,Tryz.f19]
  go_wp2
  go_ret
  refine⟨g2,⟨M1,M2,M3,M4,wc.heap.size,w1.heap.size,w2.heap.size,w3.heap.size⟩,rfl,hS2,⟨hb5,⟨HO1.out.frm hfa b1,HO2.out.frm hfa b2,⟨sl,HO3.out.frm hfa b3,fun t ht=>(HIt.out.2 t ht).frm hfa hstr⟩,HO4.out.frm hfa b4,(HM1.out.frm (HC2.out.trans (HC3.out.trans HC4.out)) id).frm hfs a1,(HM2.out.frm (HC3.out.trans HC4.out) id).frm hfs a2,(HM3.out.frm HC4.out id).frm hfs a3,⟨HL,HM4.out.frm hfs a4,HHe.out.2.1,HHe.out.2.2⟩⟩,⟨?_⟩,hS2.ok⟩,hfw,fun k hk=>?_⟩
  ·simp
   omega
  ·unfold SF at hk
   simp only at hk
   rcases hk with e | e | e | e | e | e | e | e | e<;>omega
theorem CloneT4 {w wc:World} {g g2:Nat} {M:Ms} {x:St} (hS:StAt wc g M x) (hF:Frm Nix w wc) (hg:w.heap.size≤g2) (hne:g≠g2) {sl:Int→Sl} (hit:MapIs Tryz.prog 3 wc M.it (x.itms.map fun t=>(kI t.id,itmV (sl t.id) t))) (htg:∀ t ∈ x.itms,TagsIn wc (sl t.id) t.tags) {HL:List (Int×Int)} (hhe:MapIs Tryz.prog 3 wc M.he (HL.map fun p=>(kI p.1,kI p.2))) (hh1:∀ p ∈ HL,p.1≠0) (hh2:∀ i,i≠0→heldL HL i=heldS x i) (hb:Blk wc g2 82 #[.int .i64 x.clock,.map (some M.fo),.map (some M.fe),.map (some M.it),.map (some M.se),.map (some M.na),.map (some M.pl),.map (some M.gu),.map (some M.he),.int .i64 x.tFol,.int .i64 x.tFee,.int .i64 x.tItm,.int .i64 x.tSea]) (hlt:∀ k,SF g M k→k<g2) {u1 u2 u4 u5 u6 u7 u8 u9 u10 u11 u12 u13 u14 u15 u16 u17 u18 u19 u20 u21 u22 u23 u24 u25 u26 u27 u28 u29 u30 u31 u32 u33 u34 u35 u36 u37 u38 u39 u40 u41 u42 u43 u44 u45 u46 u47 u48 u49 u50 u51 u52 u53 u54 u55 u56:Value}:
  Code.wp Tryz.prog (peel 3 (bodyOf Tryz.f19)) (bodyPost Tryz.prog Tryz.f19 fun e w'=>∃ g2 M2,e=.returned (.pointer (some ⟨g2,0,none⟩))∧StAt w' g M x∧StAt w' g2 M2 x∧Frm Nix w w'∧∀ k,SF g2 M2 k→w.heap.size≤k) ⟨#[.pointer (some ⟨g,0,none⟩),u1,u2,.pointer (some ⟨g2,0,none⟩),u4,u5,u6,u7,u8,u9,u10,u11,u12,u13,u14,u15,u16,u17,u18,u19,u20,u21,u22,u23,u24,u25,u26,u27,u28,u29,u30,u31,u32,u33,u34,u35,u36,u37,u38,u39,u40,u41,u42,u43,u44,u45,u46,u47,u48,u49,u50,u51,u52,u53,u54,u55,u56],[]⟩ wc:=by
 have K1:Hid (∀ W,Frm Nix wc W→Calls Tryz.prog 64 #[.map (some M.fo)] W fun e w'=>e=.returned (.map (some W.heap.size))∧MapIs Tryz.prog 3 w' W.heap.size (x.fols.map fun f=>(kI f.id,folV f))∧Frm Nix W w'∧w'.heap.size=W.heap.size+1):=fun W hW=>clone_fo (hS.maps.fo.frm hW id)
 have K2:Hid (∀ W,Frm Nix wc W→Calls Tryz.prog 65 #[.map (some M.fe)] W fun e w'=>e=.returned (.map (some W.heap.size))∧MapIs Tryz.prog 3 w' W.heap.size (x.fees.map fun f=>(kI f.id,feeV f))∧Frm Nix W w'∧w'.heap.size=W.heap.size+1):=fun W hW=>clone_fe (hS.maps.fe.frm hW id)
 have K3:Hid (∀ W,Frm Nix wc W→Calls Tryz.prog 66 #[.map (some M.it)] W fun e w'=>e=.returned (.map (some W.heap.size))∧MapIs Tryz.prog 3 w' W.heap.size (x.itms.map fun t=>(kI t.id,itmV (sl t.id) t))∧Frm Nix W w'∧w'.heap.size=W.heap.size+1):=fun W hW=>clone_it (hit.frm hW id)
 have K4:Hid (∀ W,Frm Nix wc W→Calls Tryz.prog 67 #[.map (some M.se)] W fun e w'=>e=.returned (.map (some W.heap.size))∧MapIs Tryz.prog 3 w' W.heap.size (x.seas.map fun f=>(kI f.id,seaV f))∧Frm Nix W w'∧w'.heap.size=W.heap.size+1):=fun W hW=>clone_se (hS.maps.se.frm hW id)
 have HMk:Hid (∀ W,Frm (·=g2) wc W→(fun W=>Frm (·=g2) wc W∧W.cell? ⟨g,1,none⟩=some (.map (some M.fo))∧W.cell? ⟨g,2,none⟩=some (.map (some M.fe))∧W.cell? ⟨g,3,none⟩=some (.map (some M.it))∧W.cell? ⟨g,4,none⟩=some (.map (some M.se))) W):=fun W hW=>by
  have hS2:=hS.blk.frm hW hne
  exact⟨hW,hS2.cell 1,hS2.cell 2,hS2.cell 3,hS2.cell 4⟩
 have HS:=Lib.hid hS
 have HF:=Lib.hid hF
 have HB:=Lib.hid hb
 have HIt:=Lib.hid (And.intro hit htg)
 have HHe:=Lib.hid (And.intro hhe (And.intro hh1 hh2))
 have HLt:=Lib.hid hlt
 have hsz:=hF.size
 have hbl:=hb.lt
 have hrf:=Frm.refl (·=g2) wc
 clear hS hF hb hit htg hhe hh1 hh2 hlt
 have e1:peel 3 (bodyOf Tryz.f19)=.seq (hdC (peel 3 (bodyOf Tryz.f19))) (peel 4 (bodyOf Tryz.f19)):=by kernel_rfl
 rw[e1]
 clear e1
 refine wp_seq_k fun K hK=>?_
 conv in hdC _=>whnf
 go_region_held3 (fun W=>Frm (·=g2) wc W∧W.cell? ⟨g,1,none⟩=some (.map (some M.fo))∧W.cell? ⟨g,2,none⟩=some (.map (some M.fe))∧W.cell? ⟨g,3,none⟩=some (.map (some M.it))∧W.cell? ⟨g,4,none⟩=some (.map (some M.se))) ((refine HMk.out _ ?_;repeat' (first | with_reducible exact hrf | with_reducible exact(Frm.nix hz4) | with_reducible exact(Frm.nix hz3) | with_reducible exact(Frm.nix hz2) | with_reducible exact(Frm.nix hz1) | with_reducible apply Frm.drew | with_reducible apply Frm.setG))) (first
  | (go_at_call 67;refine(K4.out _ (by repeat' (first | with_reducible exact Frm.refl _ _ | with_reducible apply Frm.drew | with_reducible exact hz1 | with_reducible exact hz2 | with_reducible exact hz3))).mono ?_;rintro e w4 ⟨rfl,hm4,hf4,hs4⟩;have hz4:Frm Nix wc w4:=Frm.trans (by repeat' (first | with_reducible exact Frm.refl _ _ | with_reducible apply Frm.drew | with_reducible exact hz1 | with_reducible exact hz2 | with_reducible exact hz3)) hf4;have HC4:Hid (Frm Nix w3 w4):=Frm.trans (by repeat' (first | with_reducible exact Frm.refl _ _ | with_reducible apply Frm.drew)) hf4;have HM4:=Lib.hid hm4;have HSz4:=Lib.hid hs4;clear hm4 hf4 hs4;have hb4:=HB.out.frm hz4 id;have z1:=hb4.cell 1;have y1:=hb4.frozen 1;have z2:=hb4.cell 2;have y2:=hb4.frozen 2;have z3:=hb4.cell 3;have y3:=hb4.frozen 3;have z4:=hb4.cell 4;have y4:=hb4.frozen 4;(try simp at z1 z2 z3 z4);have HB4:=Lib.hid hb4;clear hb4)
  | (go_at_call 66;refine(K3.out _ (by repeat' (first | with_reducible exact Frm.refl _ _ | with_reducible apply Frm.drew | with_reducible exact hz1 | with_reducible exact hz2))).mono ?_;rintro e w3 ⟨rfl,hm3,hf3,hs3⟩;have hz3:Frm Nix wc w3:=Frm.trans (by repeat' (first | with_reducible exact Frm.refl _ _ | with_reducible apply Frm.drew | with_reducible exact hz1 | with_reducible exact hz2)) hf3;have HC3:Hid (Frm Nix w2 w3):=Frm.trans (by repeat' (first | with_reducible exact Frm.refl _ _ | with_reducible apply Frm.drew)) hf3;have HM3:=Lib.hid hm3;have HSz3:=Lib.hid hs3;clear hm3 hf3 hs3)
  | (go_at_call 65;refine(K2.out _ (by repeat' (first | with_reducible exact Frm.refl _ _ | with_reducible apply Frm.drew | with_reducible exact hz1))).mono ?_;rintro e w2 ⟨rfl,hm2,hf2,hs2⟩;have hz2:Frm Nix wc w2:=Frm.trans (by repeat' (first | with_reducible exact Frm.refl _ _ | with_reducible apply Frm.drew | with_reducible exact hz1)) hf2;have HC2:Hid (Frm Nix w1 w2):=Frm.trans (by repeat' (first | with_reducible exact Frm.refl _ _ | with_reducible apply Frm.drew)) hf2;have HM2:=Lib.hid hm2;have HSz2:=Lib.hid hs2;clear hm2 hf2 hs2)
  | (go_at_call 64;refine(K1.out _ (by repeat' (first | with_reducible exact Frm.refl _ _ | with_reducible apply Frm.drew))).mono ?_;rintro e w1 ⟨rfl,hm1,hf1,hs1⟩;have hz1:Frm Nix wc w1:=Frm.trans (by repeat' (first | with_reducible exact Frm.refl _ _ | with_reducible apply Frm.drew)) hf1;have HC1:Hid (Frm Nix wc w1):=Frm.trans (by repeat' (first | with_reducible exact Frm.refl _ _ | with_reducible apply Frm.drew)) hf1;have HM1:=Lib.hid hm1;have HSz1:=Lib.hid hs1;clear hm1 hf1 hs1))
 all_goals
  go_wp2
  have hfs:Frm (·=g2) w4 ((((w4.setCell ⟨g2,1,none⟩ (.map (some wc.heap.size))).setCell ⟨g2,2,none⟩ (.map (some w1.heap.size))).setCell ⟨g2,3,none⟩ (.map (some w2.heap.size))).setCell ⟨g2,4,none⟩ (.map (some w3.heap.size))):=((((Frm.refl (·=g2) w4).setCell (.inl rfl) _).setCell (.inl rfl) _).setCell (.inl rfl) _).setCell (.inl rfl) _
  have hfa:=(Frm.nix (F:=(·=g2)) hz4).trans hfs
  have hb5:=(((HB4.out.set_ 1 (.map (some wc.heap.size))).set_ 2 (.map (some w1.heap.size))).set_ 3 (.map (some w2.heap.size))).set_ 4 (.map (some w3.heap.size))
  have hfw:Frm Nix w ((((w4.setCell ⟨g2,1,none⟩ (.map (some wc.heap.size))).setCell ⟨g2,2,none⟩ (.map (some w1.heap.size))).setCell ⟨g2,3,none⟩ (.map (some w2.heap.size))).setCell ⟨g2,4,none⟩ (.map (some w3.heap.size))):=(HF.out.trans hz4).next hfs fun k hk=>.inr (by omega)
  have s1:w1.heap.size=wc.heap.size+1:=HSz1.out
  have s2:=HSz2.out
  have s3:=HSz3.out
  have s4:=HSz4.out
  have s5:=hfs.size
  have a1:¬wc.heap.size=g2:=by omega
  have a2:¬w1.heap.size=g2:=by omega
  have a3:¬w2.heap.size=g2:=by omega
  have a4:¬w3.heap.size=g2:=by omega
  have hn:∀ k,SF g M k→¬k=g2:=fun k hk e=>by have:=HLt.out k hk;omega
  have hstr:∀ k,StrB wc k→¬k=g2:=fun k hk e=>HB.out.ne_str (by decide) hk e
  exact CloneT5 (HS.out.frm hfa hn hstr) hfw hg hne (HIt.out.1.frm hfa (hn _ (by simp[SF]))) (fun t ht=>(HIt.out.2 t ht).frm hfa hstr) (HHe.out.1.frm hfa (hn _ (by simp[SF]))) HHe.out.2.1 HHe.out.2.2 hb5
   ((HM1.out.frm (HC2.out.trans (HC3.out.trans HC4.out)) id).frm hfs a1) ((HM2.out.frm (HC3.out.trans HC4.out) id).frm hfs a2) ((HM3.out.frm HC4.out id).frm hfs a3) (HM4.out.frm hfs a4) ⟨by omega,by omega,by omega,by omega,by omega⟩ HLt.out
theorem Clone_st {w:World} {g:Nat} {M:Ms} {x:St} (h:StAt w g M x):
  Calls Tryz.prog 19 #[.pointer (some ⟨g,0,none⟩)] w fun e w'=>∃ g2 M2,e=.returned (.pointer (some ⟨g2,0,none⟩))∧StAt w' g M x∧StAt w' g2 M2 x∧Frm Nix w w'∧∀ k,SF g2 M2 k→w.heap.size≤k:=by
 obtain⟨c0,c1,c2,c3,c4,c5,c6,c7,c8,c9,c10,c11,c12⟩:=h.cells
 obtain⟨w0,hw0⟩:∃ w0,w0=w.alloc (.cells #[.int .i64 x.clock,.map (some M.fo),.map (some M.fe),.map (some M.it),.map (some M.se),.map (some M.na),.map (some M.pl),.map (some M.gu),.map (some M.he),.int .i64 x.tFol,.int .i64 x.tFee,.int .i64 x.tItm,.int .i64 x.tSea] 82):=⟨_,rfl⟩
 have hf0:Frm Nix w w0:=by rw[hw0];exact(Frm.refl Nix w).alloc _
 have hb0:Blk w0 w.heap.size 82 #[.int .i64 x.clock,.map (some M.fo),.map (some M.fe),.map (some M.it),.map (some M.se),.map (some M.na),.map (some M.pl),.map (some M.gu),.map (some M.he),.int .i64 x.tFol,.int .i64 x.tFee,.int .i64 x.tItm,.int .i64 x.tSea]:=by rw[hw0];exact Blk.new w _ _
 have h0:=h.nix hf0
 have hlt:=h.lt
 obtain⟨sl,hit,htg⟩:=h0.maps.it
 obtain⟨HL,hhe,hh1,hh2⟩:=h0.maps.he
 have HX:=Lib.hid (And.intro h0 (And.intro hf0 (And.intro hb0 (And.intro hit htg))))
 have HY:=Lib.hid (And.intro hhe (And.intro hh1 (And.intro hh2 hlt)))
 have hne:g≠w.heap.size:=by have:=h.blk.lt;omega
 have HW:=Lib.hid hw0
 clear h h0 hf0 hb0 hit htg hhe hh1 hh2 hlt hw0
 go_enter Tryz.func19,Tryz.ntmps19
 show Code.wp Tryz.prog (peel 0 (bodyOf Tryz.f19)) _ _ _
 have e1:peel 0 (bodyOf Tryz.f19)=.seq (hdC (peel 0 (bodyOf Tryz.f19))) (peel 1 (bodyOf Tryz.f19)):=by kernel_rfl
 rw[e1]
 clear e1
 refine wp_seq_k fun K hK=>?_
 conv in hdC _=>whnf
 go_wp2
 have e1:peel 1 (bodyOf Tryz.f19)=.seq (hdC (peel 1 (bodyOf Tryz.f19))) (peel 2 (bodyOf Tryz.f19)):=by kernel_rfl
 rw[e1]
 clear e1
 refine wp_seq_k fun K hK=>?_
 conv in hdC _=>whnf
 go_wp2
 have e1:peel 2 (bodyOf Tryz.f19)=.seq (hdC (peel 2 (bodyOf Tryz.f19))) (peel 3 (bodyOf Tryz.f19)):=by kernel_rfl
 rw[e1]
 clear e1
 refine wp_seq_k fun K hK=>?_
 conv in hdC _=>whnf
 go_wp2
 rw[← HW.out]
 exact CloneT4 HX.out.1 HX.out.2.1 (Nat.le_refl _) hne HX.out.2.2.2.1 HX.out.2.2.2.2 HY.out.1 HY.out.2.1 HY.out.2.2.1 HX.out.2.2.1 HY.out.2.2.2
end Go.Proofs.YtlafbakoefcifaaGreat
