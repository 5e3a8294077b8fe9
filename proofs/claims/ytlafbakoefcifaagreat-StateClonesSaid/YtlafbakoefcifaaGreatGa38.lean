/-
  The law's first program comes to what must come of it: the walk.
-/
import Derived.Test.YtlafbakoefcifaaGreatGa37
import Derived.Test.YtlafbakoefcifaaGreatGa36
set_option linter.unusedVariables false
set_option linter.unusedSimpArgs false
set_option maxRecDepth 100000
set_option maxHeartbeats 16000000
namespace Go.Proofs.YtlafbakoefcifaaGreat
open Go.RowKit Go.Lib
theorem lives_any (w:World):Calls Tryz.prog 8 #[] w fun e w'=>e=.returned (.bool true)∧Frm Nix w w':=by
 go_enter Tryz.func8,Tryz.ntmps8
 show Code.wp Tryz.prog (peel 0 (bodyOf Tryz.f8)) _ _ _
 have e1:peel 0 (bodyOf Tryz.f8)=.seq (hdC (peel 0 (bodyOf Tryz.f8))) (peel 1 (bodyOf Tryz.f8)):=by kernel_rfl
 rw[e1]
 clear e1
 refine wp_seq_k fun K hK=>?_
 conv in hdC _=>whnf
 go_wp2
 have e1:peel 1 (bodyOf Tryz.f8)=.seq (hdC (peel 1 (bodyOf Tryz.f8))) (peel 2 (bodyOf Tryz.f8)):=by kernel_rfl
 rw[e1]
 clear e1
 refine wp_seq_k fun K hK=>?_
 conv in hdC _=>whnf
 go_wp2_with (go_at_call 7;refine(New_any _).mono ?_;rintro e w1 ⟨g,M,rfl,hs,hf,hg⟩;have H1:=Lib.hid hs;have Z1:=Lib.hid hf;have HG:=Lib.hid hg;clear hs hf hg)
 have e1:peel 2 (bodyOf Tryz.f8)=.seq (hdC (peel 2 (bodyOf Tryz.f8))) (peel 3 (bodyOf Tryz.f8)):=by kernel_rfl
 rw[e1]
 clear e1
 refine wp_seq_k fun K hK=>?_
 conv in hdC _=>whnf
 go_wp2
 have e1:peel 3 (bodyOf Tryz.f8)=.seq (hdC (peel 3 (bodyOf Tryz.f8))) (peel 4 (bodyOf Tryz.f8)):=by kernel_rfl
 rw[e1]
 clear e1
 refine wp_seq_k fun K hK=>?_
 conv in hdC _=>whnf
 go_wp2_with (go_at_call 14;have _q:=H1;refine(ap1 H1.out).mono ?_;rintro e w2 ⟨rfl,hs,hf⟩;have H2:=Lib.hid hs;have Z2:Hid (Frm Nix w w2):=frm_own Z1.out hf HG.out;clear hs hf)
 have e1:peel 4 (bodyOf Tryz.f8)=.seq (hdC (peel 4 (bodyOf Tryz.f8))) (peel 5 (bodyOf Tryz.f8)):=by kernel_rfl
 rw[e1]
 clear e1
 refine wp_seq_k fun K hK=>?_
 conv in hdC _=>whnf
 go_wp2_with (go_at_call 14;have _q:=H2;refine(ap2 H2.out).mono ?_;rintro e w3 ⟨rfl,hs,hf⟩;have H3:=Lib.hid hs;have Z3:Hid (Frm Nix w w3):=frm_own Z2.out hf HG.out;clear hs hf)
 have e1:peel 5 (bodyOf Tryz.f8)=.seq (hdC (peel 5 (bodyOf Tryz.f8))) (peel 6 (bodyOf Tryz.f8)):=by kernel_rfl
 rw[e1]
 clear e1
 refine wp_seq_k fun K hK=>?_
 conv in hdC _=>whnf
 go_wp2_with (go_at_call 14;have _q:=H3;refine(ap3 H3.out).mono ?_;rintro e w4 ⟨rfl,hs,hf⟩;have H4:=Lib.hid hs;have Z4:Hid (Frm Nix w w4):=frm_own Z3.out hf HG.out;clear hs hf)
 have e1:peel 6 (bodyOf Tryz.f8)=.seq (hdC (peel 6 (bodyOf Tryz.f8))) (peel 7 (bodyOf Tryz.f8)):=by kernel_rfl
 rw[e1]
 clear e1
 refine wp_seq_k fun K hK=>?_
 conv in hdC _=>whnf
 go_wp2_with (go_at_call 14;have _q:=H4;refine(ap4 H4.out).mono ?_;rintro e w5 ⟨rfl,hs,hf⟩;have H5:=Lib.hid hs;have Z5:Hid (Frm Nix w w5):=frm_own Z4.out hf HG.out;clear hs hf)
 have e1:peel 7 (bodyOf Tryz.f8)=.seq (hdC (peel 7 (bodyOf Tryz.f8))) (peel 8 (bodyOf Tryz.f8)):=by kernel_rfl
 rw[e1]
 clear e1
 refine wp_seq_k fun K hK=>?_
 conv in hdC _=>whnf
 go_wp2_with (go_at_call 13;refine(fi5 H5.out).mono ?_;rintro e w6 ⟨rfl,hf⟩;have H6:=Lib.hid (H5.out.nix hf);have Z6:Hid (Frm Nix w w6):=Z5.out.trans hf;clear hf)
 have e1:peel 8 (bodyOf Tryz.f8)=.seq (hdC (peel 8 (bodyOf Tryz.f8))) (peel 9 (bodyOf Tryz.f8)):=by kernel_rfl
 rw[e1]
 clear e1
 refine wp_seq_k fun K hK=>?_
 conv in hdC _=>whnf
 go_wp2_with (go_at_call 19;refine(Clone_st H6.out).mono ?_;rintro e w7 ⟨g2,M2,rfl,hs,hs2,hf,hg⟩;have H7:=Lib.hid hs;have J7:=Lib.hid hs2;have Z7:Hid (Frm Nix w w7):=Z6.out.trans hf;have HG2:=Lib.hid hg;have HA:Hid (∀ k,SF g M k→¬SF g2 M2 k):=(fun k h1 h2=>by have:=H6.out.lt k h1;have:=HG2.out k h2;omega);have HSz:Hid (w.heap.size≤w6.heap.size):=Z6.out.size;clear hs hs2 hf hg)
 have e1:peel 9 (bodyOf Tryz.f8)=.seq (hdC (peel 9 (bodyOf Tryz.f8))) (peel 10 (bodyOf Tryz.f8)):=by kernel_rfl
 rw[e1]
 clear e1
 refine wp_seq_k fun K hK=>?_
 conv in hdC _=>whnf
 go_wp2
 have e1:peel 10 (bodyOf Tryz.f8)=.seq (hdC (peel 10 (bodyOf Tryz.f8))) (peel 11 (bodyOf Tryz.f8)):=by kernel_rfl
 rw[e1]
 clear e1
 refine wp_seq_k fun K hK=>?_
 conv in hdC _=>whnf
 go_wp2_with (go_at_call 14;have _q:=H7;refine(ap5 J7.out).mono ?_;rintro e w8 ⟨rfl,hs,hf⟩;have J8:=Lib.hid hs;have H8:=Lib.hid (H7.out.frm hf HA.out J7.out.str);have Z8:Hid (Frm Nix w w8):=frm_own Z7.out hf (fun k hk=>Nat.le_trans HSz.out (HG2.out k hk));clear hs hf;obtain⟨w9,hw9,hd9⟩:=ldata w8;have HW9:=Lib.hid hw9;have H9:=Lib.hid (H8.out.nix hd9.frm);have J9:=Lib.hid (J8.out.nix hd9.frm);have HD9:=Lib.hid hd9;clear hw9 hd9)
 have e1:peel 11 (bodyOf Tryz.f8)=.seq (hdC (peel 11 (bodyOf Tryz.f8))) (peel 12 (bodyOf Tryz.f8)):=by kernel_rfl
 rw[e1]
 clear e1
 refine wp_seq_k fun K hK=>?_
 conv in hdC _=>whnf
 go_wp2
 have e1:peel 12 (bodyOf Tryz.f8)=.seq (hdC (peel 12 (bodyOf Tryz.f8))) (peel 13 (bodyOf Tryz.f8)):=by kernel_rfl
 rw[e1]
 clear e1
 refine wp_seq_k fun K hK=>?_
 conv in hdC _=>whnf
 go_wp2
 have e1:peel 13 (bodyOf Tryz.f8)=.seq (hdC (peel 13 (bodyOf Tryz.f8))) (peel 14 (bodyOf Tryz.f8)):=by kernel_rfl
 rw[e1]
 clear e1
 refine wp_seq_k fun K hK=>?_
 conv in hdC _=>whnf
 go_wp2_with (go_at_call 36;rw[← HW9.out];refine(gu5 H9.out).mono ?_;rintro e w10 ⟨rfl,rfl⟩)
 have e1:peel 14 (bodyOf Tryz.f8)=.seq (hdC (peel 14 (bodyOf Tryz.f8))) (peel 15 (bodyOf Tryz.f8)):=by kernel_rfl
 rw[e1]
 clear e1
 refine wp_seq_k fun K hK=>?_
 conv in hdC _=>whnf
 go_wp2_with (go_at_call 35;refine(pl5 H9.out).mono ?_;rintro e w11 ⟨rfl,rfl⟩)
 have e1:peel 15 (bodyOf Tryz.f8)=.seq (hdC (peel 15 (bodyOf Tryz.f8))) (peel 16 (bodyOf Tryz.f8)):=by kernel_rfl
 rw[e1]
 clear e1
 refine wp_seq_k fun K hK=>?_
 conv in hdC _=>whnf
 go_wp2_with (go_at_call 32;refine(it5 H9.out).mono ?_;rintro e w12 ⟨v14,rfl,hsl,hf⟩;obtain⟨w13,hw13⟩:∃ w13,w13=w12.alloc (.cells #[.int .i64 5,.int .i64 1,.int .i64 7,.string ⟨#[103]⟩,.string ⟨#[]⟩,.string ⟨#[]⟩,.bool false,.bool false,.slice v14.1 1 v14.2] 54):=⟨_,rfl⟩;have hf13:Frm Nix w12 w13:=(by rw[hw13];exact(Frm.refl Nix w12).alloc _);have HW13:=Lib.hid hw13;have HSl:=Lib.hid (hsl.nix hf13);have HB14:Hid (Blk w13 w12.heap.size 54 #[.int .i64 5,.int .i64 1,.int .i64 7,.string ⟨#[103]⟩,.string ⟨#[]⟩,.string ⟨#[]⟩,.bool false,.bool false,.slice v14.1 1 v14.2]):=(by rw[hw13];exact Blk.new _ _ _);have HD13:=Lib.hid (HD9.out.nix (hf.trans hf13));have H13:=Lib.hid (H9.out.nix (hf.trans hf13));have J13:=Lib.hid (J9.out.nix (hf.trans hf13));clear hsl hf hf13 hw13)
 have e1:peel 16 (bodyOf Tryz.f8)=.seq (hdC (peel 16 (bodyOf Tryz.f8))) (peel 17 (bodyOf Tryz.f8)):=by kernel_rfl
 rw[e1]
 clear e1
 refine wp_seq_k fun K hK=>?_
 conv in hdC _=>whnf
 go_wp2_with (go_at_call 39;have _q:=H13;rw[← HW13.out];refine(fr5 _).mono ?_;rintro e w14 ⟨rfl,hf⟩;have HD14:=Lib.hid (HD13.out.nix hf);have H14:=Lib.hid (H13.out.nix hf);have J14:=Lib.hid (J13.out.nix hf);have HSl4:=Lib.hid (HSl.out.nix hf);have HB4:=Lib.hid (HB14.out.frm hf id);obtain⟨x0,x1,x2,x3,x4,x5,x6,x7,x8⟩:=blk9 HD14.out.b8;clear hf)
 have e1:peel 17 (bodyOf Tryz.f8)=.seq (hdC (peel 17 (bodyOf Tryz.f8))) (peel 18 (bodyOf Tryz.f8)):=by kernel_rfl
 rw[e1]
 clear e1
 refine wp_seq_k fun K hK=>?_
 conv in hdC _=>whnf
 go_wp2_with (go_at_call 39;have _q:=H14;refine(From_yes HD14.out.x lX_small (by rw[l13];omega) lX_i64 l11).mono ?_;rintro e w15 ⟨g5,M5,rfl,hs,hf,hg⟩;have K15:=Lib.hid hs;have HD15:=Lib.hid (HD14.out.nix hf);have H15:=Lib.hid (H14.out.nix hf);have J15:=Lib.hid (J14.out.nix hf);have HSl5:=Lib.hid (HSl4.out.nix hf);have HB5:=Lib.hid (HB4.out.frm hf id);clear hs hf hg)
 have e1:peel 18 (bodyOf Tryz.f8)=.seq (hdC (peel 18 (bodyOf Tryz.f8))) (peel 19 (bodyOf Tryz.f8)):=by kernel_rfl
 rw[e1]
 clear e1
 refine wp_seq_k fun K hK=>?_
 conv in hdC _=>whnf
 go_wp2_with (go_at_call 15;refine(fo5 _).mono ?_;rintro e w16 ⟨gF,rfl,hf⟩;have HD16:=Lib.hid (HD15.out.nix hf);have H16:=Lib.hid (H15.out.nix hf);have J16:=Lib.hid (J15.out.nix hf);have K16:=Lib.hid (K15.out.nix hf);have HSl6:=Lib.hid (HSl5.out.nix hf);have HB6:=Lib.hid (HB5.out.frm hf id);clear hf)
 exact LivesR ((HD16.out.frm |> fun f=>Z8.out.trans f)) H16.out J16.out K16.out HD16.out.x HD16.out.y lX_small lY_small HD16.out.b8 HD16.out.b9 HB6.out HD16.out.bi HSl6.out (HD16.out.x.itms.tags _ (List.mem_singleton.2 rfl)) (by decide) rfl l11 (by rw[l13];omega) l13 lX_i64 l15
end Go.Proofs.YtlafbakoefcifaaGreat
