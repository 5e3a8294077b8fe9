/-
  The region 'y, ok := ref.Apply(x, l[i])' of StateFolds, by itself.
-/
import Derived.Test.YtlafbakoefcifaaGreatGa51
import Derived.Test.YtlafbakoefcifaaGreatGa39
import Derived.Test.YtlafbakoefcifaaGreatGa26
set_option linter.unusedVariables false
set_option linter.unusedSimpArgs false
set_option maxRecDepth 100000
set_option maxHeartbeats 16000000
namespace Go.Proofs.YtlafbakoefcifaaGreat
open Go.RowKit Go.Lib
def loopC:Code→Code
 | .loop c=>c
 | c=>c
theorem foldsR10 {Q:Exit→Act→World→Prop} {wr:World} {bx b off k n c:Nat} {x y:St} {fo fe it se:Sl} {ev:Ev} {G:Nat→Prop} {bb:Bool}
  (hb:Blk wr bx 30 #[.int .i64 x.clock,.slice fo.1 x.fols.length fo.2,.slice fe.1 x.fees.length fe.2,.slice it.1 x.itms.length it.2,.slice se.1 x.seas.length se.2,.int .i64 x.tFol,.int .i64 x.tFee,.int .i64 x.tItm,.int .i64 x.tSea]) (hev:∀ W,Frm Nix wr W→(W.cell? ⟨b,off+k * 7,none⟩=some (.int .i64 ev.kind)∧W.cell? ⟨b,off+k * 7+1,none⟩=some (.int .i64 ev.a)∧W.cell? ⟨b,off+k * 7+2,none⟩=some (.int .i64 ev.b)∧W.cell? ⟨b,off+k * 7+3,none⟩=some (.int .i64 ev.n)∧W.cell? ⟨b,off+k * 7+4,none⟩=some (.string ev.s)∧W.cell? ⟨b,off+k * 7+5,none⟩=some (.string ev.t)∧W.cell? ⟨b,off+k * 7+6,none⟩=some (.string ev.u))) (hk:k<n) (hG:∀ k,G k→k<wr.heap.size)
  (hKA:∀ W,Frm Nix wr W→Calls Tryz.prog 12 #[.agg #[.int .i64 x.clock,.slice fo.1 x.fols.length fo.2,.slice fe.1 x.fees.length fe.2,.slice it.1 x.itms.length it.2,.slice se.1 x.seas.length se.2,.int .i64 x.tFol,.int .i64 x.tFee,.int .i64 x.tItm,.int .i64 x.tSea],.agg #[.int .i64 ev.kind,.int .i64 ev.a,.int .i64 ev.b,.int .i64 ev.n,.string ev.s,.string ev.t,.string ev.u]] W fun r w'=>∃ (fo fe it se:Sl) (ts:List (Sl×Itm)),r=.returned (.tuple #[stV fo fe it se y,.bool bb])∧StIn w' (fun k=>G k∨W.heap.size≤k) fo fe it se ts y∧Frm Nix W w')
  {u1 u2 u3 u6 u7 u8 u9 u10 u11 u12 u13 u14 u15 u16 u17 u18 u19 u20 u21 u22 u23 u24 u25 u26 u27 u28 u29 u30 u31 u32 u33 u34 u35 u36 u37 u38 u39 u40 u41 u42 u43 u44 u45 u46 u47 u48 u49 u50 u51 u52 u53 u54 u55 u56 u57 u58 u59 u60 u61 u62 u63 u64 u65 u66 u67 u68 u69 u70 u71 u72 u73 u74 u75 u76:Value} (hP:∀ (e:_) (a:Act) (i:Nat) (v:Value) (w:World),Q (.panic e) (a.put (some i) v) w→Q (.panic e) a w) (hQ:∀ (w9:World) (g:Nat) (foy fey ity sey:Sl) (tsy:List (Sl×Itm)) (z32 z33 z34 z35 z36 z37 z38 z39 z40:Value),wr.heap.size≤g→Frm Nix wr w9→Blk w9 g 30 #[.int .i64 y.clock,.slice foy.1 y.fols.length foy.2,.slice fey.1 y.fees.length fey.2,.slice ity.1 y.itms.length ity.2,.slice sey.1 y.seas.length sey.2,.int .i64 y.tFol,.int .i64 y.tFee,.int .i64 y.tItm,.int .i64 y.tSea]→StIn w9 (fun k=>G k∨wr.heap.size≤k) foy fey ity sey tsy y→Q .normal ⟨#[.slice (some ⟨b,off,none⟩) n c,u1,u2,u3,.pointer (some ⟨bx,0,none⟩),.int .i64 k,.pointer (some ⟨g,0,none⟩),.bool bb,u8,u9,u10,u11,u12,u13,u14,u15,u16,u17,u18,u19,u20,u21,u22,u23,u24,u25,u26,u27,u28,u29,u30,u31,z32,z33,z34,z35,z36,z37,z38,z39,z40,u41,u42,u43,u44,u45,u46,u47,u48,u49,u50,u51,u52,u53,u54,u55,u56,u57,u58,u59,u60,u61,u62,u63,u64,u65,u66,u67,u68,u69,u70,u71,u72,u73,u74,u75,u76],[]⟩ w9):
  Code.wp Tryz.prog (hdC (inC (hdC (sndC (loopC (inC (sndC (hdC (peel 5 (bodyOf Tryz.f3)))))))))) Q ⟨#[.slice (some ⟨b,off,none⟩) n c,u1,u2,u3,.pointer (some ⟨bx,0,none⟩),.int .i64 k,u6,u7,u8,u9,u10,u11,u12,u13,u14,u15,u16,u17,u18,u19,u20,u21,u22,u23,u24,u25,u26,u27,u28,u29,u30,u31,u32,u33,u34,u35,u36,u37,u38,u39,u40,u41,u42,u43,u44,u45,u46,u47,u48,u49,u50,u51,u52,u53,u54,u55,u56,u57,u58,u59,u60,u61,u62,u63,u64,u65,u66,u67,u68,u69,u70,u71,u72,u73,u74,u75,u76],[]⟩ wr:=by
 have HC:Hid (∀ W,Frm Nix wr W→(W.cell? ⟨bx,0,none⟩=some (.int .i64 x.clock)∧W.cell? ⟨bx,1,none⟩=some (.slice fo.1 x.fols.length fo.2)∧W.cell? ⟨bx,2,none⟩=some (.slice fe.1 x.fees.length fe.2)∧W.cell? ⟨bx,3,none⟩=some (.slice it.1 x.itms.length it.2)∧W.cell? ⟨bx,4,none⟩=some (.slice se.1 x.seas.length se.2)∧W.cell? ⟨bx,5,none⟩=some (.int .i64 x.tFol)∧W.cell? ⟨bx,6,none⟩=some (.int .i64 x.tFee)∧W.cell? ⟨bx,7,none⟩=some (.int .i64 x.tItm)∧W.cell? ⟨bx,8,none⟩=some (.int .i64 x.tSea))∧(W.cell? ⟨b,off+k * 7,none⟩=some (.int .i64 ev.kind)∧W.cell? ⟨b,off+k * 7+1,none⟩=some (.int .i64 ev.a)∧W.cell? ⟨b,off+k * 7+2,none⟩=some (.int .i64 ev.b)∧W.cell? ⟨b,off+k * 7+3,none⟩=some (.int .i64 ev.n)∧W.cell? ⟨b,off+k * 7+4,none⟩=some (.string ev.s)∧W.cell? ⟨b,off+k * 7+5,none⟩=some (.string ev.t)∧W.cell? ⟨b,off+k * 7+6,none⟩=some (.string ev.u))):=fun W hW=>⟨blk9 (hb.frm hW id),hev W hW⟩
 have KA:=Lib.hid hKA
 have HP:=Lib.hid hP
 have HG:=Lib.hid hG
 have HQ:=Lib.hid hQ
 have HW0:Hid (Frm Nix wr wr.drew):=(Frm.refl Nix wr).drew
 have HWA:Hid (Frm Nix wr (wr.drew.alloc (.cells #[.int .i64 0,.slice none 0 0,.slice none 0 0,.slice none 0 0,.slice none 0 0,.int .i64 0,.int .i64 0,.int .i64 0,.int .i64 0] 30))):=HW0.out.alloc _
 have HZ0:Hid (wr.heap.size≤wr.drew.heap.size):=HW0.out.size
 have hki:(k:Int)<(n:Int):=by omega
 have hk0:(0:Int)≤(k:Int):=Int.natCast_nonneg _
 clear hb hev hKA hP hQ hG
 simp only[hdC,sndC,inC,loopC,peel,bodyOf,Tryz.f3]
 refine wp_region_held_drew (S:=fun W=>(W.cell? ⟨bx,0,none⟩=some (.int .i64 x.clock)∧W.cell? ⟨bx,1,none⟩=some (.slice fo.1 x.fols.length fo.2)∧W.cell? ⟨bx,2,none⟩=some (.slice fe.1 x.fees.length fe.2)∧W.cell? ⟨bx,3,none⟩=some (.slice it.1 x.itms.length it.2)∧W.cell? ⟨bx,4,none⟩=some (.slice se.1 x.seas.length se.2)∧W.cell? ⟨bx,5,none⟩=some (.int .i64 x.tFol)∧W.cell? ⟨bx,6,none⟩=some (.int .i64 x.tFee)∧W.cell? ⟨bx,7,none⟩=some (.int .i64 x.tItm)∧W.cell? ⟨bx,8,none⟩=some (.int .i64 x.tSea))∧(W.cell? ⟨b,off+k * 7,none⟩=some (.int .i64 ev.kind)∧W.cell? ⟨b,off+k * 7+1,none⟩=some (.int .i64 ev.a)∧W.cell? ⟨b,off+k * 7+2,none⟩=some (.int .i64 ev.b)∧W.cell? ⟨b,off+k * 7+3,none⟩=some (.int .i64 ev.n)∧W.cell? ⟨b,off+k * 7+4,none⟩=some (.string ev.s)∧W.cell? ⟨b,off+k * 7+5,none⟩=some (.string ev.t)∧W.cell? ⟨b,off+k * 7+6,none⟩=some (.string ev.u))) (by kernel_rfl) (HC.out _ HW0.out) (fun hHeld=>?_)
 refine tk (i:=0) HP rfl rfl (by kernel_rfl) (by rfl) hHeld (by intro wS hSw;(try dsimp only at hSw);go_simp;all_goals with_reducible rfl) ?_
 try simp only[lt0,lt1,lt2,Act.put,lt3,lt4,lt5]
 refine tk (i:=1) HP rfl rfl (by kernel_rfl) (by rfl) hHeld (by intro wS hSw;(try dsimp only at hSw);go_simp;all_goals with_reducible rfl) ?_
 try simp only[lt0,lt1,lt2,Act.put,lt3,lt4,lt5]
 refine tk (i:=2) HP rfl rfl (by kernel_rfl) (by rfl) hHeld (by intro wS hSw;(try dsimp only at hSw);go_simp;all_goals with_reducible rfl) ?_
 try simp only[lt0,lt1,lt2,Act.put,lt3,lt4,lt5]
 refine tk (i:=3) HP rfl rfl (by kernel_rfl) (by rfl) hHeld (by intro wS hSw;(try dsimp only at hSw);go_simp;all_goals with_reducible rfl) ?_
 try simp only[lt0,lt1,lt2,Act.put,lt3,lt4,lt5]
 refine tk (i:=4) HP rfl rfl (by kernel_rfl) (by rfl) hHeld (by intro wS hSw;(try dsimp only at hSw);go_simp;all_goals with_reducible rfl) ?_
 try simp only[lt0,lt1,lt2,Act.put,lt3,lt4,lt5]
 refine rdy2 (i:=5) (j:=9) (by kernel_rfl) rfl rfl (fun K hK=>?_) (fun K hK=>?_)
 ·go_simp
  go_at_call 12
  refine(KA.out _ HW0.out).mono ?_
  rintro r w7 ⟨foy,fey,ity,sey,tsy,rfl,hs,hf⟩
  have HS7:=Lib.hid hs
  have Z7:=Lib.hid (HW0.out.trans hf)
  have HF7:=Lib.hid hf
  clear hs hf
  unfold stV
  dsimp only
  refine hK.out _ _ (HC.out _ Z7.out) (fun hHeld=>?_)
  clear hK K
  try simp only[lt0,lt1,lt2,Act.put,lt3,lt4,lt5]
  refine tk (i:=6) HP rfl rfl (by kernel_rfl) (by rfl) hHeld (by intro wS hSw;(try dsimp only at hSw);go_simp;all_goals with_reducible rfl) ?_
  try simp only[lt0,lt1,lt2,Act.put,lt3,lt4,lt5]
  refine tk (i:=7) HP rfl rfl (by kernel_rfl) (by rfl) hHeld (by intro wS hSw;(try dsimp only at hSw);go_simp;all_goals with_reducible rfl) ?_
  try simp only[lt0,lt1,lt2,Act.put,lt3,lt4,lt5]
  refine tk (i:=8) HP rfl rfl (by kernel_rfl) (by rfl) hHeld (by intro wS hSw;(try dsimp only at hSw);go_simp;all_goals with_reducible rfl) ?_
  try simp only[lt0,lt1,lt2,Act.put,lt3,lt4,lt5]
  refine rdy1 (i:=9) (by kernel_rfl) rfl (fun K hK=>?_)
  go_simp
  refine hK.out _ _ (HC.out _ (Z7.out.alloc _)) (fun hHeld=>?_)
  clear hK K
  try simp only[lt0,lt1,lt2,Act.put,lt3,lt4,lt5]
  refine rdy1 (i:=10) (by kernel_rfl) rfl (fun K hK=>?_)
  go_simp
  refine hK.out _ _ (HC.out _ (Z7.out.alloc _)) (fun hHeld=>?_)
  clear hK K
  try simp only[lt0,lt1,lt2,Act.put,lt3,lt4,lt5]
  refine tk (i:=11) HP rfl rfl (by kernel_rfl) (by rfl) hHeld (by intro wS hSw;(try dsimp only at hSw);go_simp;all_goals with_reducible rfl) ?_
  try simp only[lt0,lt1,lt2,Act.put,lt3,lt4,lt5]
  refine wpAnyH_done (by kernel_rfl) ?_ _
  exact HQ.out _ _ _ _ _ _ _ _ _ _ _ _ _ _ _ _ Z7.out.size (Z7.out.alloc _) (Blk.new w7 _ _) ((HS7.out.nix ((Frm.refl Nix w7).alloc _)).mono fun k hk=>hk.imp id fun h=>by have:=HZ0.out;omega)
 ·go_simp
  refine hK.out _ _ (HC.out _ HWA.out) (fun hHeld=>?_)
  clear hK K
  try simp only[lt0,lt1,lt2,Act.put,lt3,lt4,lt5]
  refine rdy1 (i:=5) (by kernel_rfl) rfl (fun K hK=>?_)
  go_simp
  go_at_call 12
  refine(KA.out _ HWA.out).mono ?_
  rintro r w7 ⟨foy,fey,ity,sey,tsy,rfl,hs,hf⟩
  have HS7:=Lib.hid hs
  have Z7:=Lib.hid (HWA.out.trans hf)
  have HF7:=Lib.hid hf
  clear hs hf
  unfold stV
  dsimp only
  refine hK.out _ _ (HC.out _ Z7.out) (fun hHeld=>?_)
  clear hK K
  try simp only[lt0,lt1,lt2,Act.put,lt3,lt4,lt5]
  refine tk (i:=6) HP rfl rfl (by kernel_rfl) (by rfl) hHeld (by intro wS hSw;(try dsimp only at hSw);go_simp;all_goals with_reducible rfl) ?_
  try simp only[lt0,lt1,lt2,Act.put,lt3,lt4,lt5]
  refine tk (i:=7) HP rfl rfl (by kernel_rfl) (by rfl) hHeld (by intro wS hSw;(try dsimp only at hSw);go_simp;all_goals with_reducible rfl) ?_
  try simp only[lt0,lt1,lt2,Act.put,lt3,lt4,lt5]
  refine tk (i:=8) HP rfl rfl (by kernel_rfl) (by rfl) hHeld (by intro wS hSw;(try dsimp only at hSw);go_simp;all_goals with_reducible rfl) ?_
  try simp only[lt0,lt1,lt2,Act.put,lt3,lt4,lt5]
  refine rdy1 (i:=10) (by kernel_rfl) rfl (fun K hK=>?_)
  have hb8:Blk w7 wr.heap.size 30 #[.int .i64 0,.slice none 0 0,.slice none 0 0,.slice none 0 0,.slice none 0 0,.int .i64 0,.int .i64 0,.int .i64 0,.int .i64 0]:=(Blk.new wr.drew _ _).frm HF7.out id
  have g0:=hb8.frozen 0
  have c0:=(hb8.cell 0).trans rfl
  have g1:=hb8.frozen 1
  have c1:=(hb8.cell 1).trans rfl
  have g2:=hb8.frozen 2
  have c2:=(hb8.cell 2).trans rfl
  have g3:=hb8.frozen 3
  have c3:=(hb8.cell 3).trans rfl
  have g4:=hb8.frozen 4
  have c4:=(hb8.cell 4).trans rfl
  have g5:=hb8.frozen 5
  have c5:=(hb8.cell 5).trans rfl
  have g6:=hb8.frozen 6
  have c6:=(hb8.cell 6).trans rfl
  have g7:=hb8.frozen 7
  have c7:=(hb8.cell 7).trans rfl
  have g8:=hb8.frozen 8
  have c8:=(hb8.cell 8).trans rfl
  go_simp
  obtain⟨w9,hw9⟩:∃ w9,w9=w7.setCells wr.heap.size 0 [.int .i64 y.clock,.slice foy.1 y.fols.length foy.2,.slice fey.1 y.fees.length fey.2,.slice ity.1 y.itms.length ity.2,.slice sey.1 y.seas.length sey.2,.int .i64 y.tFol,.int .i64 y.tFee,.int .i64 y.tItm,.int .i64 y.tSea]:=⟨_,rfl⟩
  have hb9:Blk w9 wr.heap.size 30 #[.int .i64 y.clock,.slice foy.1 y.fols.length foy.2,.slice fey.1 y.fees.length fey.2,.slice ity.1 y.itms.length ity.2,.slice sey.1 y.seas.length sey.2,.int .i64 y.tFol,.int .i64 y.tFee,.int .i64 y.tItm,.int .i64 y.tSea]:=by
   have:=Blk.putL [.int .i64 y.clock,.slice foy.1 y.fols.length foy.2,.slice fey.1 y.fees.length fey.2,.slice ity.1 y.itms.length ity.2,.slice sey.1 y.seas.length sey.2,.int .i64 y.tFol,.int .i64 y.tFee,.int .i64 y.tItm,.int .i64 y.tSea] 0 hb8
   rw[putL9] at this
   rw[hw9]
   exact this
  have fe_:Frm (fun k=>k=wr.heap.size) w7 w9:=by rw[hw9];exact Frm.setCells _ 0 (Frm.refl _ _) (.inl rfl)
  simp only[World.setCells] at hw9
  rw[← hw9]
  have HF9:Hid (Frm Nix wr w9):=Z7.out.next fe_ (fun k hk=>.inr (by omega))
  have HS9:Hid (StIn w9 (fun k=>G k∨wr.heap.size≤k) foy fey ity sey tsy y):=(HS7.out.frm fe_ fun k hk e=>by subst e;rcases hk with hk | hk;exact Nat.lt_irrefl _ (HG.out _ hk);simp at hk;omega).mono fun k hk=>hk.imp id fun h=>by simp at h;omega
  have HB9:=Lib.hid hb9
  clear fe_ hw9 hb9 hb8
  refine hK.out _ _ (HC.out _ HF9.out) (fun hHeld=>?_)
  clear hK K
  try simp only[lt0,lt1,lt2,Act.put,lt3,lt4,lt5]
  refine tk (i:=11) HP rfl rfl (by kernel_rfl) (by rfl) hHeld (by intro wS hSw;(try dsimp only at hSw);go_simp;all_goals with_reducible rfl) ?_
  try simp only[lt0,lt1,lt2,Act.put,lt3,lt4,lt5]
  refine wpAnyH_done (by kernel_rfl) ?_ _
  exact HQ.out _ _ _ _ _ _ _ _ _ _ _ _ _ _ _ _ (Nat.le_refl _) HF9.out HB9.out HS9.out
theorem folds_walk {w:World} {G:Nat→Prop} {v:Sl} {l:List Ev} (hl:EvsIn w G v l) (hG:∀ k,G k→k<w.heap.size):Calls Tryz.prog 3 #[.slice v.1 l.length v.2] w fun e w'=>e=.returned (.bool true)∧Frm Nix w w':=by
 have HL:=Lib.hid hl
 have HG0:=Lib.hid hG
 clear hl hG
 obtain⟨Av,cv⟩:=v
 have KL:Hid (∀ W,Frm Nix w W→Calls Tryz.prog 11 #[.slice Av l.length cv] W fun e w'=>e=.returned (.bool (largeEvs l))∧Frm Nix W w'):=fun W hW=>(HL.out.nix hW).large
 have KF:Hid (∀ W,Frm Nix w W→largeEvs l=false→Calls Tryz.prog 15 #[.slice Av l.length cv] W fun e w'=>∃ g M,e=.returned (.pointer (some ⟨g,0,none⟩))∧StAt w' g M (foldE st0 l)∧Frm Nix W w'∧∀ k,SF g M k→W.heap.size≤k):=fun W hW=>(HL.out.nix hW).fold
 dsimp only
 obtain⟨n,hn⟩:∃ n,l.length=n:=⟨_,rfl⟩
 have HN:=Lib.hid hn
 have HNum:Hid (∀ e ∈ l,I64 e.a∧I64 e.b):=HL.out.num
 rw[hn] at KL KF
 rw[hn]
 clear hn
 go_enter Tryz.func3,Tryz.ntmps3
 show Code.wp Tryz.prog (peel 0 (bodyOf Tryz.f3)) _ _ _
 have e1:peel 0 (bodyOf Tryz.f3)=.seq (hdC (peel 0 (bodyOf Tryz.f3))) (peel 1 (bodyOf Tryz.f3)):=by kernel_rfl
 rw[e1]
 clear e1
 refine wp_seq_k fun K hK=>?_
 conv in hdC _=>whnf
 go_wp2
 have e1:peel 1 (bodyOf Tryz.f3)=.seq (hdC (peel 1 (bodyOf Tryz.f3))) (peel 2 (bodyOf Tryz.f3)):=by kernel_rfl
 rw[e1]
 clear e1
 refine wp_seq_k fun K hK=>?_
 conv in hdC _=>whnf
 go_wp2_with (go_at_call 7;refine(New_any _).mono ?_;rintro e w1 ⟨g,M,rfl,hs,hf,hg⟩;have H1:=Lib.hid hs;have Z1:Hid (Frm Nix w w1):=hf;have HG:Hid (∀ k,SF g M k→w.heap.size≤k):=hg;have HSz:Hid (∀ k,SF g M k→k<w1.heap.size):=hs.lt;clear hs hf hg)
 have e1:peel 2 (bodyOf Tryz.f3)=.seq (hdC (peel 2 (bodyOf Tryz.f3))) (peel 3 (bodyOf Tryz.f3)):=by kernel_rfl
 rw[e1]
 clear e1
 refine wp_seq_k fun K hK=>?_
 conv in hdC _=>whnf
 go_wp2
 obtain⟨w2,hw2⟩:∃ w2,w2=w1.alloc (.cells #[.int .i64 0,.slice none 0 0,.slice none 0 0,.slice none 0 0,.slice none 0 0,.int .i64 0,.int .i64 0,.int .i64 0,.int .i64 0] 30):=⟨_,rfl⟩
 rw[← hw2]
 have B2:Hid (Blk w2 w1.heap.size 30 #[.int .i64 0,.slice none 0 0,.slice none 0 0,.slice none 0 0,.slice none 0 0,.int .i64 0,.int .i64 0,.int .i64 0,.int .i64 0]):=by unfold Hid;rw[hw2];exact Blk.new w1 _ _
 have hf2:Frm Nix w1 w2:=by rw[hw2];exact(Frm.refl Nix w1).alloc _
 have hs2:w2.heap.size=w1.heap.size+1:=by rw[hw2];simp
 have H2:=Lib.hid (H1.out.nix hf2)
 have Z2:Hid (Frm Nix w w2):=Z1.out.trans hf2
 have hB2:=B2.out.lt
 have HC2:Hid (∀ W,Frm Nix w2 W→(W.cell? ⟨w1.heap.size,0,none⟩=some (.int .i64 0)∧W.cell? ⟨w1.heap.size,1,none⟩=some (.slice none 0 0)∧W.cell? ⟨w1.heap.size,2,none⟩=some (.slice none 0 0)∧W.cell? ⟨w1.heap.size,3,none⟩=some (.slice none 0 0)∧W.cell? ⟨w1.heap.size,4,none⟩=some (.slice none 0 0)∧W.cell? ⟨w1.heap.size,5,none⟩=some (.int .i64 0)∧W.cell? ⟨w1.heap.size,6,none⟩=some (.int .i64 0)∧W.cell? ⟨w1.heap.size,7,none⟩=some (.int .i64 0)∧W.cell? ⟨w1.heap.size,8,none⟩=some (.int .i64 0))):=fun W hW=>blk9 (B2.out.frm hW id)
 have KS0:Hid (∀ W fo fe it se ts G,StIn W G fo fe it se ts st0→Calls Tryz.prog 9 #[stV fo fe it se st0,.agg #[.int .i64 0,.slice none 0 0,.slice none 0 0,.slice none 0 0,.slice none 0 0,.int .i64 0,.int .i64 0,.int .i64 0,.int .i64 0]] W fun e w'=>e=.returned (.bool true)∧Frm Nix W w'):=fun W fo fe it se ts G h=>by
  have:=rStSame_any h (StIn.zero W G) st0_ok.small st0_ok.small
  rw[decide_eq_true rfl] at this
  exact this
 obtain⟨q0,q1,q2,q3,q4,q5,q6,q7,q8⟩:=blk9 B2.out
 have HSw:Hid (w2.heap.size=w1.heap.size+1):=hs2
 clear hw2 hs2 hf2
 have e1:peel 3 (bodyOf Tryz.f3)=.seq (hdC (peel 3 (bodyOf Tryz.f3))) (peel 4 (bodyOf Tryz.f3)):=by kernel_rfl
 rw[e1]
 clear e1
 refine wp_seq_k fun K hK=>?_
 conv in hdC _=>whnf
 go_wp2
 go_region_held3 (fun W=>(W.cell? ⟨w1.heap.size,0,none⟩=some (.int .i64 0)∧W.cell? ⟨w1.heap.size,1,none⟩=some (.slice none 0 0)∧W.cell? ⟨w1.heap.size,2,none⟩=some (.slice none 0 0)∧W.cell? ⟨w1.heap.size,3,none⟩=some (.slice none 0 0)∧W.cell? ⟨w1.heap.size,4,none⟩=some (.slice none 0 0)∧W.cell? ⟨w1.heap.size,5,none⟩=some (.int .i64 0)∧W.cell? ⟨w1.heap.size,6,none⟩=some (.int .i64 0)∧W.cell? ⟨w1.heap.size,7,none⟩=some (.int .i64 0)∧W.cell? ⟨w1.heap.size,8,none⟩=some (.int .i64 0))) (first | go_keep | exact HC2.out _ (Frm.refl Nix _).drew | exact HC2.out _ Y3.out | exact HC2.out _ Y4.out | exact HC2.out _ Y5.out)
  (first
   | (go_at_call 9;have _q:=D4;refine(KS0.out _ _ _ _ _ _ _ D4.out).mono ?_;rintro e w5 ⟨rfl,hf⟩;have Y5:Hid (Frm Nix w2 w5):=Y4.out.trans hf;clear hf)
   | (go_at_call 10;have _q:=Y3;refine(Tell_any (H2.out.nix Y3.out)).mono ?_;rintro e w4 ⟨fo4,fe4,it4,se4,ts4,rfl,hd,hf⟩;have D4:=Lib.hid hd;have Y4:Hid (Frm Nix w2 w4):=Y3.out.trans hf;clear hd hf)
   | (go_at_call 8;refine(lives_any _).mono ?_;rintro e w3 ⟨rfl,hf⟩;have Y3:Hid (Frm Nix w2 w3):=(Frm.refl Nix w2).drew.trans hf;clear hf))
 go_wp2
 have H5:=Lib.hid (H2.out.nix Y5.out)
 have Z5:Hid (Frm Nix w w5):=Z2.out.trans Y5.out
 have B5:=Lib.hid (B2.out.frm Y5.out id)
 have HSz5:Hid (w1.heap.size<w5.heap.size):=B5.out.lt
 clear q0 q1 q2 q3 q4 q5 q6 q7 q8 hB2
 cases hlg:largeEvs l with
 | true=>
   rw[hlg] at KL
   have e1:peel 4 (bodyOf Tryz.f3)=.seq (hdC (peel 4 (bodyOf Tryz.f3))) (peel 5 (bodyOf Tryz.f3)):=by kernel_rfl
   rw[e1]
   clear e1
   refine wp_seq_k fun K hK=>?_
   conv in hdC _=>whnf
   go_wp2_with (go_at_call 11;refine(KL.out _ Z5.out).mono ?_;rintro e w6 ⟨rfl,hf⟩;have Z6:Hid (Frm Nix w w6):=Z5.out.trans hf;clear hf)
   go_ret
   exact⟨rfl,Z6.out⟩
 | false=>
   rw[hlg] at KL
   have HLg:=Lib.hid hlg
   have hn150:=largeEvs_len hlg
   rw[HN.out] at hn150
   have KF2:=Lib.hid (fun W hW=>KF.out W hW HLg.out)
   clear hlg KF
   have e1:peel 4 (bodyOf Tryz.f3)=.seq (hdC (peel 4 (bodyOf Tryz.f3))) (peel 5 (bodyOf Tryz.f3)):=by kernel_rfl
   rw[e1]
   clear e1
   refine wp_seq_k fun K hK=>?_
   conv in hdC _=>whnf
   go_wp2_with (go_at_call 11;refine(KL.out _ Z5.out).mono ?_;rintro e w6 ⟨rfl,hf⟩;have Z6:Hid (Frm Nix w w6):=Z5.out.trans hf;have H6:=Lib.hid (H5.out.nix hf);have B6:=Lib.hid (B5.out.frm hf id);have Y6:=Lib.hid hf;clear hf)
   have e1:peel 5 (bodyOf Tryz.f3)=.seq (hdC (peel 5 (bodyOf Tryz.f3))) (peel 6 (bodyOf Tryz.f3)):=by kernel_rfl
   rw[e1]
   clear e1
   refine wp_seq_k fun K hK=>?_
   conv in hdC _=>whnf
   go_wp2
   go_loopw [5,6,7] (fun kv _ _ wr=>∃ (k:Nat) (fo fe it se:Sl) (ts:List (Sl×Itm)) (x:St),k≤n∧kv=.int .i64 k∧x=foldE st0 (l.take k)∧StAt wr g M x∧Blk wr w1.heap.size 30 #[.int .i64 x.clock,.slice fo.1 x.fols.length fo.2,.slice fe.1 x.fees.length fe.2,.slice it.1 x.itms.length it.2,.slice se.1 x.seas.length se.2,.int .i64 x.tFol,.int .i64 x.tFee,.int .i64 x.tItm,.int .i64 x.tSea]∧StIn wr (fun k=>w1.heap.size<k) fo fe it se ts x∧Frm Nix w wr) (fun kv _ _ _=>n - (intOf kv).toNat)
   case atStart=>exact⟨0,(none,0),(none,0),(none,0),(none,0),[],st0,by omega,rfl,rfl,H6.out,B6.out,StIn.zero _ _,Z6.out⟩
   case round=>
    obtain⟨k,fo,fe,it,se,ts,x,hk,rfl,hx,ha,hb,hs,hf⟩:=hrel
    have HX:=Lib.hid hx
    have HA:=Lib.hid ha
    have HB:=Lib.hid hb
    have HS:=Lib.hid hs
    have HF:=Lib.hid hf
    have HP:Hid (StP x):=ha.ok
    clear hx ha hb hs hf
    by_cases hlt:k<n
    ·have hkl:k<l.length:=by rw[HN.out];exact hlt
     obtain⟨b,off,hA,hgb,hbl,hcell⟩:=evs_cells HL.out.sl HF.out hkl
     (try dsimp only at hA)
     subst hA
     have hb9:=HG0.out b hgb
     have HFT:=Lib.hid (foldE_take (x:=st0) hkl)
     have hie:=HNum.out l[k] (List.getElem_mem hkl)
     obtain⟨ev,hev⟩:∃ ev,l[k]=ev:=⟨_,rfl⟩
     rw[hev] at hcell HFT hie
     have HBN:Hid (¬SF g M b):=fun h=>by have:=HG.out b h;omega
     have KA:Hid (∀ W,Frm Nix wr W→Calls Tryz.prog 12 #[.agg #[.int .i64 x.clock,.slice fo.1 x.fols.length fo.2,.slice fe.1 x.fees.length fe.2,.slice it.1 x.itms.length it.2,.slice se.1 x.seas.length se.2,.int .i64 x.tFol,.int .i64 x.tFee,.int .i64 x.tItm,.int .i64 x.tSea],.agg #[.int .i64 ev.kind,.int .i64 ev.a,.int .i64 ev.b,.int .i64 ev.n,.string ev.s,.string ev.t,.string ev.u]] W (ApOut W (fun k=>w1.heap.size<k∧k<wr.heap.size) (applyS x ev).1 (fits x ev))):=fun W hW=>by
      have:=rApply_any (HS.out.old.nix hW) HP.out.small ev
      rw[applyS_snd] at this
      exact this
     have KFi:Hid (∀ W,StAt W g M x→Calls Tryz.prog 13 #[.pointer (some ⟨g,0,none⟩),.agg #[.int .i64 ev.kind,.int .i64 ev.a,.int .i64 ev.b,.int .i64 ev.n,.string ev.s,.string ev.t,.string ev.u]] W fun e w'=>e=.returned (.bool (fits x ev))∧Frm Nix W w'):=fun W hW=>Fits_any hW ev hie.1 hie.2
     have KAp:Hid (∀ W,StAt W g M x→Calls Tryz.prog 14 #[.pointer (some ⟨g,0,none⟩),.agg #[.int .i64 ev.kind,.int .i64 ev.a,.int .i64 ev.b,.int .i64 ev.n,.string ev.s,.string ev.t,.string ev.u]] W fun e w'=>e=.returned (.bool (fits x ev))∧StAt w' g M (applyS x ev).1∧Frm (SF g M) W w'):=fun W hW=>by
      have:=Apply_any hW ev hie.1 hie.2
      rw[applyS_snd] at this
      exact this
     have HC:Hid (∀ W,Frm Nix wr W→(W.cell? ⟨w1.heap.size,0,none⟩=some (.int .i64 x.clock)∧W.cell? ⟨w1.heap.size,1,none⟩=some (.slice fo.1 x.fols.length fo.2)∧W.cell? ⟨w1.heap.size,2,none⟩=some (.slice fe.1 x.fees.length fe.2)∧W.cell? ⟨w1.heap.size,3,none⟩=some (.slice it.1 x.itms.length it.2)∧W.cell? ⟨w1.heap.size,4,none⟩=some (.slice se.1 x.seas.length se.2)∧W.cell? ⟨w1.heap.size,5,none⟩=some (.int .i64 x.tFol)∧W.cell? ⟨w1.heap.size,6,none⟩=some (.int .i64 x.tFee)∧W.cell? ⟨w1.heap.size,7,none⟩=some (.int .i64 x.tItm)∧W.cell? ⟨w1.heap.size,8,none⟩=some (.int .i64 x.tSea))∧(W.cell? ⟨b,off+k * 7,none⟩=some (.int .i64 ev.kind)∧W.cell? ⟨b,off+k * 7+1,none⟩=some (.int .i64 ev.a)∧W.cell? ⟨b,off+k * 7+2,none⟩=some (.int .i64 ev.b)∧W.cell? ⟨b,off+k * 7+3,none⟩=some (.int .i64 ev.n)∧W.cell? ⟨b,off+k * 7+4,none⟩=some (.string ev.s)∧W.cell? ⟨b,off+k * 7+5,none⟩=some (.string ev.t)∧W.cell? ⟨b,off+k * 7+6,none⟩=some (.string ev.u))):=fun W hW=>⟨blk9 (HB.out.frm hW id),hcell Nix W id hW⟩
     have HCE2:Hid (∀ W,Frm (fun k=>k=w1.heap.size∨SF g M k) wr W→(W.cell? ⟨b,off+k * 7,none⟩=some (.int .i64 ev.kind)∧W.cell? ⟨b,off+k * 7+1,none⟩=some (.int .i64 ev.a)∧W.cell? ⟨b,off+k * 7+2,none⟩=some (.int .i64 ev.b)∧W.cell? ⟨b,off+k * 7+3,none⟩=some (.int .i64 ev.n)∧W.cell? ⟨b,off+k * 7+4,none⟩=some (.string ev.s)∧W.cell? ⟨b,off+k * 7+5,none⟩=some (.string ev.t)∧W.cell? ⟨b,off+k * 7+6,none⟩=some (.string ev.u))):=fun W hW=>hcell _ W (fun h=>by have:=Z1.out.size;rcases h with h | h;omega;exact HBN.out h) hW
     obtain⟨⟨x0,x1,x2,x3,x4,x5,x6,x7,x8⟩,c0,c1,c2,c3,c4,c5,c6⟩:=HC.out wr (Frm.refl _ _)
     have hbB:=HB.out.lt
     obtain⟨y,hy⟩:∃ y,(applyS x ev).1=y:=⟨_,rfl⟩
     obtain⟨bb,hbb⟩:∃ bb,fits x ev=bb:=⟨_,rfl⟩
     rw[hbb] at KFi
     rw[hy,hbb] at KA KAp
     have HY:Hid (y=foldE st0 (l.take (k+1))):=by unfold Hid;rw[HFT.out,← HX.out,hy]
     have HPy:Hid (StP y):=by rw[← hy];exact applyS_ok HP.out ev
     clear hcell hev hie hy hbb
     have HEV:Hid (∀ W,Frm Nix wr W→(W.cell? ⟨b,off+k * 7,none⟩=some (.int .i64 ev.kind)∧W.cell? ⟨b,off+k * 7+1,none⟩=some (.int .i64 ev.a)∧W.cell? ⟨b,off+k * 7+2,none⟩=some (.int .i64 ev.b)∧W.cell? ⟨b,off+k * 7+3,none⟩=some (.int .i64 ev.n)∧W.cell? ⟨b,off+k * 7+4,none⟩=some (.string ev.s)∧W.cell? ⟨b,off+k * 7+5,none⟩=some (.string ev.t)∧W.cell? ⟨b,off+k * 7+6,none⟩=some (.string ev.u))):=fun W hW=>(HC.out W hW).2
     go_wp2
     refine foldsR10 (bx:=w1.heap.size) (b:=b) (off:=off) (k:=k) (x:=x) (y:=y) (ev:=ev) (bb:=bb) (G:=fun k=>w1.heap.size<k∧k<wr.heap.size) HB.out HEV.out hlt (fun k h=>h.2) KA.out (fun _ _ _ _ _ h=>h) ?_
     intro w8 g' foy fey ity sey tsy z32 z33 z34 z35 z36 z37 z38 z39 z40 hg' hf8 hb8 hs8
     have hx8:=HB.out.frm hf8 id
     clear x0 x1 x2 x3 x4 x5 x6 x7 x8 c0 c1 c2 c3 c4 c5 c6
     have HB8:=Lib.hid hb8
     have HX8:=Lib.hid hx8
     have HF8:=Lib.hid hf8
     have HG':=Lib.hid hg'
     have HS8:Hid (StIn w8 (fun k=>w1.heap.size<k) foy fey ity sey tsy y):=hs8.mono fun k hk=>by
      rcases hk with hk | hk
      ·exact hk.1
      ·omega
     clear hf8 hb8 hx8 hs8 hg'
     obtain⟨x0,x1,x2,x3,x4,x5,x6,x7,x8⟩:=blk9 HX8.out
     obtain⟨y0,y1,y2,y3,y4,y5,y6,y7,y8⟩:=blk9 HB8.out
     have g0:=HX8.out.frozen 0
     have g1:=HX8.out.frozen 1
     have g2:=HX8.out.frozen 2
     have g3:=HX8.out.frozen 3
     have g4:=HX8.out.frozen 4
     have g5:=HX8.out.frozen 5
     have g6:=HX8.out.frozen 6
     have g7:=HX8.out.frozen 7
     have g8:=HX8.out.frozen 8
     go_wp2
     obtain⟨w9,hw9⟩:∃ w9,w9=w8.setCells w1.heap.size 0 [.int .i64 y.clock,.slice foy.1 y.fols.length foy.2,.slice fey.1 y.fees.length fey.2,.slice ity.1 y.itms.length ity.2,.slice sey.1 y.seas.length sey.2,.int .i64 y.tFol,.int .i64 y.tFee,.int .i64 y.tItm,.int .i64 y.tSea]:=⟨_,rfl⟩
     have hb9':Blk w9 w1.heap.size 30 #[.int .i64 y.clock,.slice foy.1 y.fols.length foy.2,.slice fey.1 y.fees.length fey.2,.slice ity.1 y.itms.length ity.2,.slice sey.1 y.seas.length sey.2,.int .i64 y.tFol,.int .i64 y.tFee,.int .i64 y.tItm,.int .i64 y.tSea]:=by
      have:=Blk.putL [.int .i64 y.clock,.slice foy.1 y.fols.length foy.2,.slice fey.1 y.fees.length fey.2,.slice ity.1 y.itms.length ity.2,.slice sey.1 y.seas.length sey.2,.int .i64 y.tFol,.int .i64 y.tFee,.int .i64 y.tItm,.int .i64 y.tSea] 0 HX8.out
      rw[putL9] at this
      rw[hw9]
      exact this
     have fe_:Frm (fun k=>k=w1.heap.size) w8 w9:=by rw[hw9];exact Frm.setCells _ 0 (Frm.refl _ _) (.inl rfl)
     simp only[World.setCells] at hw9
     rw[← hw9]
     have HF9:Hid (Frm (fun k=>k=w1.heap.size) wr w9):=HF8.out.nix.trans fe_
     have HA9:Hid (StAt w9 g M x):=HA.out.frm HF9.out (fun k hk e=>by have:=HSz.out k hk;omega) (fun k hk e=>HB.out.ne_str (by decide) hk e)
     have HS9:Hid (StIn w9 (fun k=>w1.heap.size<k) foy fey ity sey tsy y):=HS8.out.frm fe_ fun k hk e=>by omega
     have HB9:=Lib.hid hb9'
     have HFw:Hid (Frm Nix w w9):=HF.out.next HF9.out fun k hk=>.inr (by have:=Z1.out.size;omega)
     have HN9:Hid (¬SF g M w1.heap.size∧∀ k,w1.heap.size<k→¬SF g M k):=⟨fun h=>by have:=HSz.out _ h;omega,fun k hk h=>by have:=HSz.out k h;omega⟩
     have HNb:Hid (¬b=w1.heap.size):=by have:=Z1.out.size;unfold Hid;omega
     clear x0 x1 x2 x3 x4 x5 x6 x7 x8 y0 y1 y2 y3 y4 y5 y6 y7 y8 g0 g1 g2 g3 g4 g5 g6 g7 g8 hb9' fe_ hw9 HB8 HX8 HF8 HS8 KA HC
     have HCE9:Hid (∀ W,Frm (SF g M) w9 W→(W.cell? ⟨w1.heap.size,0,none⟩=some (.int .i64 y.clock)∧W.cell? ⟨w1.heap.size,1,none⟩=some (.slice foy.1 y.fols.length foy.2)∧W.cell? ⟨w1.heap.size,2,none⟩=some (.slice fey.1 y.fees.length fey.2)∧W.cell? ⟨w1.heap.size,3,none⟩=some (.slice ity.1 y.itms.length ity.2)∧W.cell? ⟨w1.heap.size,4,none⟩=some (.slice sey.1 y.seas.length sey.2)∧W.cell? ⟨w1.heap.size,5,none⟩=some (.int .i64 y.tFol)∧W.cell? ⟨w1.heap.size,6,none⟩=some (.int .i64 y.tFee)∧W.cell? ⟨w1.heap.size,7,none⟩=some (.int .i64 y.tItm)∧W.cell? ⟨w1.heap.size,8,none⟩=some (.int .i64 y.tSea))∧(W.cell? ⟨b,off+k * 7,none⟩=some (.int .i64 ev.kind)∧W.cell? ⟨b,off+k * 7+1,none⟩=some (.int .i64 ev.a)∧W.cell? ⟨b,off+k * 7+2,none⟩=some (.int .i64 ev.b)∧W.cell? ⟨b,off+k * 7+3,none⟩=some (.int .i64 ev.n)∧W.cell? ⟨b,off+k * 7+4,none⟩=some (.string ev.s)∧W.cell? ⟨b,off+k * 7+5,none⟩=some (.string ev.t)∧W.cell? ⟨b,off+k * 7+6,none⟩=some (.string ev.u))):=fun W hW=>⟨blk9 (HB9.out.frm hW HN9.out.1),HCE2.out _ ((HF9.out.mono fun k hk=>.inl hk).trans (hW.mono fun k hk=>.inr hk))⟩
     have KSy:Hid (∀ W fo' fe' it' se' ts' G',Frm (SF g M) w9 W→StIn W G' fo' fe' it' se' ts' y→Calls Tryz.prog 9 #[stV fo' fe' it' se' y,.agg #[.int .i64 y.clock,.slice foy.1 y.fols.length foy.2,.slice fey.1 y.fees.length fey.2,.slice ity.1 y.itms.length ity.2,.slice sey.1 y.seas.length sey.2,.int .i64 y.tFol,.int .i64 y.tFee,.int .i64 y.tItm,.int .i64 y.tSea]] W fun e w'=>e=.returned (.bool true)∧Frm Nix W w'):=fun W fo' fe' it' se' ts' G' hW h=>by
      have:=rStSame_any h (HS9.out.frm hW HN9.out.2) HPy.out.small HPy.out.small
      rw[decide_eq_true rfl] at this
      exact this
     obtain⟨⟨y0,y1,y2,y3,y4,y5,y6,y7,y8⟩,c0,c1,c2,c3,c4,c5,c6⟩:=HCE9.out w9 (Frm.refl _ _)
     go_region_held3 (fun W=>(W.cell? ⟨w1.heap.size,0,none⟩=some (.int .i64 y.clock)∧W.cell? ⟨w1.heap.size,1,none⟩=some (.slice foy.1 y.fols.length foy.2)∧W.cell? ⟨w1.heap.size,2,none⟩=some (.slice fey.1 y.fees.length fey.2)∧W.cell? ⟨w1.heap.size,3,none⟩=some (.slice ity.1 y.itms.length ity.2)∧W.cell? ⟨w1.heap.size,4,none⟩=some (.slice sey.1 y.seas.length sey.2)∧W.cell? ⟨w1.heap.size,5,none⟩=some (.int .i64 y.tFol)∧W.cell? ⟨w1.heap.size,6,none⟩=some (.int .i64 y.tFee)∧W.cell? ⟨w1.heap.size,7,none⟩=some (.int .i64 y.tItm)∧W.cell? ⟨w1.heap.size,8,none⟩=some (.int .i64 y.tSea))∧(W.cell? ⟨b,off+k * 7,none⟩=some (.int .i64 ev.kind)∧W.cell? ⟨b,off+k * 7+1,none⟩=some (.int .i64 ev.a)∧W.cell? ⟨b,off+k * 7+2,none⟩=some (.int .i64 ev.b)∧W.cell? ⟨b,off+k * 7+3,none⟩=some (.int .i64 ev.n)∧W.cell? ⟨b,off+k * 7+4,none⟩=some (.string ev.s)∧W.cell? ⟨b,off+k * 7+5,none⟩=some (.string ev.t)∧W.cell? ⟨b,off+k * 7+6,none⟩=some (.string ev.u))) (first | go_keep | exact HCE9.out _ (Frm.refl _ _).drew | exact HCE9.out _ X1.out | exact HCE9.out _ X2.out | exact HCE9.out _ X3.out | exact HCE9.out _ X4.out)
      (first
       | (go_at_call 9;have _q:=D3;refine(KSy.out _ _ _ _ _ _ _ X3.out D3.out).mono ?_;rintro e v4 ⟨rfl,hf⟩;have X4:Hid (Frm (SF g M) w9 v4):=X3.out.trans hf.nix;have A4:=Lib.hid (A3.out.nix hf);clear hf)
       | (go_at_call 10;have _q:=A2;refine(Tell_any A2.out).mono ?_;rintro e v3 ⟨fo3,fe3,it3,se3,ts3,rfl,hd,hf⟩;have D3:=Lib.hid hd;have X3:Hid (Frm (SF g M) w9 v3):=X2.out.trans hf.nix;have A3:=Lib.hid (A2.out.nix hf);clear hd hf)
       | (go_at_call 14;have _q:=A1;refine(KAp.out _ A1.out).mono ?_;rintro e v2 ⟨rfl,hs,hf⟩;have A2:=Lib.hid hs;have X2:Hid (Frm (SF g M) w9 v2):=X1.out.trans hf;clear hs hf)
       | (go_at_call 13;refine(KFi.out _ (HA9.out.nix (Frm.refl Nix _).drew)).mono ?_;rintro e v1 ⟨rfl,hf⟩;have X1:Hid (Frm (SF g M) w9 v1):=((Frm.refl Nix w9).drew.trans hf).nix;have A1:=Lib.hid (HA9.out.nix ((Frm.refl Nix w9).drew.trans hf));clear hf))
     go_wp2
     go_roundw
     case rel=>exact⟨k+1,foy,fey,ity,sey,tsy,y,by omega,by go_num,HY.out,A4.out,HB9.out.frm X4.out HN9.out.1,HS9.out.frm X4.out HN9.out.2,frm_own HFw.out X4.out HG.out⟩
     case measure=>simp[intOf];omega
    ·obtain rfl:k=n:=by omega
     have HTk:Hid (x=foldE st0 l):=by unfold Hid;rw[HX.out,List.take_of_length_le (by rw[HN.out];exact Nat.le_refl _)]
     rw[← HTk.out] at KF2
     obtain⟨x0,x1,x2,x3,x4,x5,x6,x7,x8⟩:=blk9 HB.out
     have KS:Hid (∀ W fo' fe' it' se' ts' G',Frm Nix wr W→StIn W G' fo' fe' it' se' ts' x→Calls Tryz.prog 9 #[stV fo' fe' it' se' x,.agg #[.int .i64 x.clock,.slice fo.1 x.fols.length fo.2,.slice fe.1 x.fees.length fe.2,.slice it.1 x.itms.length it.2,.slice se.1 x.seas.length se.2,.int .i64 x.tFol,.int .i64 x.tFee,.int .i64 x.tItm,.int .i64 x.tSea]] W fun e w'=>e=.returned (.bool true)∧Frm Nix W w'):=fun W fo' fe' it' se' ts' G' hW h=>by
      have:=rStSame_any h (HS.out.nix hW) HP.out.small HP.out.small
      rw[decide_eq_true rfl] at this
      exact this
     go_wp2
     simp only[peel,bodyOf,Tryz.f3]
     go_wp2_with (go_at_call 15;refine(KF2.out _ HF.out).mono ?_;rintro e wa ⟨g2,M2,rfl,hs,hf,-⟩;have HA2:=Lib.hid hs;have ZA:=Lib.hid hf;clear hs hf)
     obtain⟨x0,x1,x2,x3,x4,x5,x6,x7,x8⟩:=blk9 (HB.out.frm ZA.out id)
     have HCa:Hid (∀ W,Frm Nix wa W→(W.cell? ⟨w1.heap.size,0,none⟩=some (.int .i64 x.clock)∧W.cell? ⟨w1.heap.size,1,none⟩=some (.slice fo.1 x.fols.length fo.2)∧W.cell? ⟨w1.heap.size,2,none⟩=some (.slice fe.1 x.fees.length fe.2)∧W.cell? ⟨w1.heap.size,3,none⟩=some (.slice it.1 x.itms.length it.2)∧W.cell? ⟨w1.heap.size,4,none⟩=some (.slice se.1 x.seas.length se.2)∧W.cell? ⟨w1.heap.size,5,none⟩=some (.int .i64 x.tFol)∧W.cell? ⟨w1.heap.size,6,none⟩=some (.int .i64 x.tFee)∧W.cell? ⟨w1.heap.size,7,none⟩=some (.int .i64 x.tItm)∧W.cell? ⟨w1.heap.size,8,none⟩=some (.int .i64 x.tSea))):=fun W hW=>blk9 ((HB.out.frm ZA.out id).frm hW id)
     go_region_held3 (fun W=>(W.cell? ⟨w1.heap.size,0,none⟩=some (.int .i64 x.clock)∧W.cell? ⟨w1.heap.size,1,none⟩=some (.slice fo.1 x.fols.length fo.2)∧W.cell? ⟨w1.heap.size,2,none⟩=some (.slice fe.1 x.fees.length fe.2)∧W.cell? ⟨w1.heap.size,3,none⟩=some (.slice it.1 x.itms.length it.2)∧W.cell? ⟨w1.heap.size,4,none⟩=some (.slice se.1 x.seas.length se.2)∧W.cell? ⟨w1.heap.size,5,none⟩=some (.int .i64 x.tFol)∧W.cell? ⟨w1.heap.size,6,none⟩=some (.int .i64 x.tFee)∧W.cell? ⟨w1.heap.size,7,none⟩=some (.int .i64 x.tItm)∧W.cell? ⟨w1.heap.size,8,none⟩=some (.int .i64 x.tSea))) (first | go_keep | exact HCa.out _ (Frm.refl Nix _).drew | exact HCa.out _ YB.out | exact HCa.out _ YC.out)
      (first
       | (go_at_call 9;have _q:=DB;refine(KS.out _ _ _ _ _ _ _ (ZA.out.trans YB.out) DB.out).mono ?_;rintro e wc ⟨rfl,hf⟩;have YC:Hid (Frm Nix wa wc):=YB.out.trans hf;clear hf)
       | (go_at_call 10;refine(Tell_any (HA2.out.nix (by first | exact(Frm.refl Nix _).drew | exact Frm.refl Nix _))).mono ?_;rintro e wb ⟨fob,feb,itb,seb,tsb,rfl,hd,hf⟩;have DB:=Lib.hid hd;have YB:Hid (Frm Nix wa wb):=(by first | exact(Frm.refl Nix _).drew.trans hf | exact hf);clear hd hf))
     go_wp2
     go_ret
     exact⟨rfl,(HF.out.trans ZA.out).trans YC.out⟩
end Go.Proofs.YtlafbakoefcifaaGreat
