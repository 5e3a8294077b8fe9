/-
  The law's first program comes to what must come of it: the walk.
-/
import Derived.Test.YtlafbakoefcifaaGreatGa37
import Derived.Test.YtlafbakoefcifaaGreatGa36
import Derived.Test.YtlafbakoefcifaaGreatGa38
import Derived.Deep.RegionHeld3
set_option linter.unusedVariables false
set_option linter.unusedSimpArgs false
set_option maxRecDepth 100000
set_option maxHeartbeats 16000000
namespace Go.Proofs.YtlafbakoefcifaaGreat
open Go.RowKit Go.Lib
theorem lives_any(w:World):Calls Tryz.prog 8 #[] w fun e w'=>e=.returned (.bool true)∧Frm Nix w w':=by
 go_enter Tryz.func8,Tryz.ntmps8;show Code.wp Tryz.prog (peel 0 (bodyOf Tryz.f8)) _ _ _
 refine peelK (k':=1) fun K hK=>?_
 conv in hdC _=>whnf
 go_wp2;refine peelK (k':=2) fun K hK=>?_
 conv in hdC _=>whnf
 go_wp2_with (go_at_call 7;refine(New_any _).mono ?_;rintro e w1 ⟨g,M,rfl,hs,hf,hg⟩;have H1:=h_ hs;have Z1:=h_ hf;have HG:=h_ hg;clear hs hf hg);refine peelK (k':=3) fun K hK=>?_
 conv in hdC _=>whnf
 go_wp2;refine peelK (k':=4) fun K hK=>?_
 conv in hdC _=>whnf
 go_wp2_with (go_at_call 14;have _q:=H1;refine(ap1 H1.out).mono ?_;rintro e w2 ⟨rfl,hs,hf⟩;have H2:=h_ hs;have Z2:Hid (Frm Nix w w2):=frm_own Z1.out hf HG.out;clear hs hf);refine peelK (k':=5) fun K hK=>?_
 conv in hdC _=>whnf
 go_wp2_with (go_at_call 14;have _q:=H2;refine(ap2 H2.out).mono ?_;rintro e w3 ⟨rfl,hs,hf⟩;have H3:=h_ hs;have Z3:Hid (Frm Nix w w3):=frm_own Z2.out hf HG.out;clear hs hf);refine peelK (k':=6) fun K hK=>?_
 conv in hdC _=>whnf
 go_wp2_with (go_at_call 14;have _q:=H3;refine(ap3 H3.out).mono ?_;rintro e w4 ⟨rfl,hs,hf⟩;have H4:=h_ hs;have Z4:Hid (Frm Nix w w4):=frm_own Z3.out hf HG.out;clear hs hf);refine peelK (k':=7) fun K hK=>?_
 conv in hdC _=>whnf
 go_wp2_with (go_at_call 14;have _q:=H4;refine(ap4 H4.out).mono ?_;rintro e w5 ⟨rfl,hs,hf⟩;have H5:=h_ hs;have Z5:Hid (Frm Nix w w5):=frm_own Z4.out hf HG.out;clear hs hf);refine peelK (k':=8) fun K hK=>?_
 conv in hdC _=>whnf
 go_wp2_with (go_at_call 13;refine(fi5 H5.out).mono ?_;rintro e w6 ⟨rfl,hf⟩;have H6:=h_ (H5.out.nix hf);have Z6:Hid (Frm Nix w w6):=Z5.out.trans hf;clear hf);refine peelK (k':=9) fun K hK=>?_
 conv in hdC _=>whnf
 go_wp2_with (go_at_call 19;refine(Clone_st H6.out).mono ?_;rintro e w7 ⟨g2,M2,rfl,hs,hs2,hf,hg⟩;have H7:=h_ hs;have J7:=h_ hs2;have Z7:Hid (Frm Nix w w7):=Z6.out.trans hf;have HG2:=h_ hg;have HA:Hid (∀ k,SF g M k→¬SF g2 M2 k):=(fun k h1 h2=>by have:=H6.out.lt k h1;have:=HG2.out k h2;omega);have HSz:Hid (w.heap.size≤w6.heap.size):=Z6.out.size;clear hs hs2 hf hg);refine peelK (k':=10) fun K hK=>?_
 conv in hdC _=>whnf
 go_wp2;refine peelK (k':=11) fun K hK=>?_
 conv in hdC _=>whnf
 go_wp2_with (go_at_call 14;have _q:=H7;refine(ap5 J7.out).mono ?_;rintro e w8 ⟨rfl,hs,hf⟩;have J8:=h_ hs;have H8:=h_ (H7.out.frm hf HA.out J7.out.str);have Z8:Hid (Frm Nix w w8):=frm_own Z7.out hf (fun k hk=>Nat.le_trans HSz.out (HG2.out k hk));clear hs hf;obtain⟨w9,hw9,hd9⟩:=ldata w8;have HW9:=h_ hw9;have H9:=h_ (H8.out.nix hd9.frm);have J9:=h_ (J8.out.nix hd9.frm);have HD9:=h_ hd9;clear hw9 hd9);refine peelK (k':=12) fun K hK=>?_
 conv in hdC _=>whnf
 go_wp2;refine peelK (k':=13) fun K hK=>?_
 conv in hdC _=>whnf
 go_wp2;refine peelK (k':=14) fun K hK=>?_
 conv in hdC _=>whnf
 go_wp2_with (go_at_call 36;rw[← HW9.out];refine(gu5 H9.out).mono ?_;rintro e w10 ⟨rfl,rfl⟩);refine peelK (k':=15) fun K hK=>?_
 conv in hdC _=>whnf
 go_wp2_with (go_at_call 35;refine(pl5 H9.out).mono ?_;rintro e w11 ⟨rfl,rfl⟩);refine peelK (k':=16) fun K hK=>?_
 conv in hdC _=>whnf
 go_wp2_with (go_at_call 32;refine(it5 H9.out).mono ?_;rintro e w12 ⟨v14,rfl,hsl,hf⟩;obtain⟨w13,hw13⟩:∃ w13,w13=w12.alloc (.cells #[.int .i64 5,.int .i64 1,.int .i64 7,.string ⟨#[103]⟩,.string ⟨#[]⟩,.string ⟨#[]⟩,.bool false,.bool false,.slice v14.1 1 v14.2] 54):=⟨_,rfl⟩;have hf13:Frm Nix w12 w13:=(by rw[hw13];exact(fR w12).alloc _);have HW13:=h_ hw13;have HSl:=h_ (hsl.nix hf13);have HB14:Hid (Blk w13 w12.heap.size 54 #[.int .i64 5,.int .i64 1,.int .i64 7,.string ⟨#[103]⟩,.string ⟨#[]⟩,.string ⟨#[]⟩,.bool false,.bool false,.slice v14.1 1 v14.2]):=(by rw[hw13];exact Blk.new _ _ _);have HD13:=h_ (HD9.out.nix (hf.trans hf13));have H13:=h_ (H9.out.nix (hf.trans hf13));have J13:=h_ (J9.out.nix (hf.trans hf13));clear hsl hf hf13 hw13);refine peelK (k':=17) fun K hK=>?_
 conv in hdC _=>whnf
 go_wp2_with (go_at_call 39;have _q:=H13;rw[← HW13.out];refine(fr5 _).mono ?_;rintro e w14 ⟨rfl,hf⟩;have HD14:=h_ (HD13.out.nix hf);have H14:=h_ (H13.out.nix hf);have J14:=h_ (J13.out.nix hf);have HSl4:=h_ (HSl.out.nix hf);have HB4:=h_ (HB14.out.frm hf id);obtain⟨x0,x1,x2,x3,x4,x5,x6,x7,x8⟩:=blk9 HD14.out.b8;clear hf);refine peelK (k':=18) fun K hK=>?_
 conv in hdC _=>whnf
 go_wp2_with (go_at_call 39;have _q:=H14;refine(From_yes HD14.out.x lX_small (by rw[l13];omega) lX_i64 l11).mono ?_;rintro e w15 ⟨g5,M5,rfl,hs,hf,hg⟩;have K15:=h_ hs;have HD15:=h_ (HD14.out.nix hf);have H15:=h_ (H14.out.nix hf);have J15:=h_ (J14.out.nix hf);have HSl5:=h_ (HSl4.out.nix hf);have HB5:=h_ (HB4.out.frm hf id);clear hs hf hg);refine peelK (k':=19) fun K hK=>?_
 conv in hdC _=>whnf
 go_wp2_with (go_at_call 15;refine(fo5 _).mono ?_;rintro e w16 ⟨gF,rfl,hf⟩;have HD16:=h_ (HD15.out.nix hf);have H16:=h_ (H15.out.nix hf);have J16:=h_ (J15.out.nix hf);have K16:=h_ (K15.out.nix hf);have HSl6:=h_ (HSl5.out.nix hf);have HB6:=h_ (HB5.out.frm hf id);clear hf);exact LivesR ((HD16.out.frm |> fun f=>Z8.out.trans f)) H16.out J16.out K16.out HD16.out.x HD16.out.y lX_small lY_small HD16.out.b8 HD16.out.b9 HB6.out HD16.out.bi HSl6.out (HD16.out.x.itms.tags _ (List.mem_singleton.2 rfl)) (by decide) rfl l11 (by rw[l13];omega) l13 lX_i64 l15
section
structure EvsIn(w:World)(G:Nat→Prop)(v:Sl)(l:List Ev):Prop where
 sl:SlIn w G 7 v l.length (l.flatMap Ev.cells)
 num:∀ e ∈ l,I64 e.a∧I64 e.b
section
variable {w w1:World} {G F:Nat→Prop} {v:Sl} {l:List Ev}
theorem EvsIn.nix(h:EvsIn w G v l)(hf:Frm Nix w w1):EvsIn w1 G v l:=⟨h.sl.nix hf,h.num⟩
theorem EvsIn.frm(h:EvsIn w G v l)(hf:Frm F w w1)(hd:∀ k,G k→¬F k):EvsIn w1 G v l:=⟨h.sl.frm hf hd,h.num⟩
theorem EvsIn.large(h:EvsIn w G v l):Calls Tryz.prog 11 #[.slice v.1 l.length v.2] w fun e w'=>e=.returned (.bool (largeEvs l))∧Frm Nix w w':=rLargeEvents_any l h.sl
theorem EvsIn.fold(h:EvsIn w G v l)(hl:largeEvs l=false):Calls Tryz.prog 15 #[.slice v.1 l.length v.2] w fun e w'=>∃ g M,e=.returned (.pointer (some ⟨g,0,none⟩))∧StAt w' g M (foldE st0 l)∧Frm Nix w w'∧∀ k,SF g M k→w.heap.size≤k:=
 Fold_any l h.sl h.num (by have:=largeEvs_len hl;omega)
end
end
end Go.Proofs.YtlafbakoefcifaaGreat
