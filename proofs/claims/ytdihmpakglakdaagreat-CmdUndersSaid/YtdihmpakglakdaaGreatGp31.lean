/-
  Contracts: what no state answers.
-/
import Derived.Test.YtdihmpakglakdaaGreatGp29
import Derived.Test.YtdihmpakglakdaaGreatGp24
set_option linter.unusedVariables false
set_option linter.unusedSimpArgs false
set_option maxRecDepth 100000
set_option maxHeartbeats 16000000
namespace Go.Proofs.YtdihmpakglakdaaGreat
open Go.RowKit Go.Lib
theorem Folder_nret{W:World}{g:Nat}{tmps:Array Value}{a0 a1 a2 b:Value}(hb:Blk W g 88 #[a0,a1,a2])(h2:tmps.getD 4 undef=.pointer (some ⟨g,0,none⟩))(h3:tmps.getD 5 undef=b):
  (results Tryz.f105 tmps).run Tryz.prog W=.ok (.tuple #[.agg #[a0,a1,a2],b]) W:=by
 have c0:=hb.cell 0;have c1:=hb.cell 1;have c2:=hb.cell 2;simp at c0 c1 c2;have h2':tmps[4]?.getD undef=.pointer (some ⟨g,0,none⟩):=by simpa using h2
 have h3':tmps[5]?.getD undef=b:=by simpa using h3
 simp[results,Tryz.results105,h2',h3',go_sem,c0,c1,c2]
theorem Feed_nret{W:World}{g:Nat}{tmps:Array Value}{a0 a1 a2 a3 b:Value}(hb:Blk W g 73 #[a0,a1,a2,a3])(h2:tmps.getD 4 undef=.pointer (some ⟨g,0,none⟩))(h3:tmps.getD 5 undef=b):
  (results Tryz.f56 tmps).run Tryz.prog W=.ok (.tuple #[.agg #[a0,a1,a2,a3],b]) W:=by
 have c0:=hb.cell 0;have c1:=hb.cell 1;have c2:=hb.cell 2;have c3:=hb.cell 3;simp at c0 c1 c2 c3;have h2':tmps[4]?.getD undef=.pointer (some ⟨g,0,none⟩):=by simpa using h2
 have h3':tmps[5]?.getD undef=b:=by simpa using h3
 simp[results,Tryz.results56,h2',h3',go_sem,c0,c1,c2,c3]
theorem Search_nret{W:World}{g:Nat}{tmps:Array Value}{a0 a1 a2 b:Value}(hb:Blk W g 93 #[a0,a1,a2])(h2:tmps.getD 4 undef=.pointer (some ⟨g,0,none⟩))(h3:tmps.getD 5 undef=b):
  (results Tryz.f109 tmps).run Tryz.prog W=.ok (.tuple #[.agg #[a0,a1,a2],b]) W:=by
 have c0:=hb.cell 0;have c1:=hb.cell 1;have c2:=hb.cell 2;simp at c0 c1 c2;have h2':tmps[4]?.getD undef=.pointer (some ⟨g,0,none⟩):=by simpa using h2
 have h3':tmps[5]?.getD undef=b:=by simpa using h3
 simp[results,Tryz.results109,h2',h3',go_sem,c0,c1,c2]
theorem FolderS_any{w:World}{g:Nat}{M:Ms}{x:St}(h:StAt w g M x){i:Int}(hi:I64 i):
  Calls Tryz.prog 105 #[.pointer (some ⟨g,0,none⟩),.int .i64 i] w fun e w'=>e=.returned (.tuple #[.agg #[.int .i64 (folAt x i).id,.int .i64 (folAt x i).inn,.string (folAt x i).name],.bool (isI Fol.id i x.fols)])∧Frm Nix w w':=by
 obtain⟨w0,hw0⟩:∃ w0,w0=w.alloc (.cells #[.int .i64 0,.int .i64 0,.string ⟨#[]⟩] 88):=⟨_,rfl⟩;have f0:Frm Nix w w0:=by rw[hw0];exact(fR w).alloc _
 have hz0:Blk w0 w.heap.size 88 #[.int .i64 0,.int .i64 0,.string ⟨#[]⟩]:=by rw[hw0];exact Blk.new w _ _
 have h0:=h.nix f0;obtain⟨c0,c1,c2,c3,c4,c5,c6,c7,c8,-⟩:=h0.cells;have hl2:=h0.folLook2 hi;generalize folAt x i=t at *;generalize isI Fol.id i x.fols=bb at *;obtain⟨w1,hw1⟩:∃ w1,w1=w0.alloc (.cells #[.int .i64 t.id,.int .i64 t.inn,.string t.name] 88):=⟨_,rfl⟩;have f1:Frm Nix w0 w1:=by rw[hw1];exact(fR w0).alloc _
 have hz1:=hz0.frm f1 id;have hb1:Blk w1 w0.heap.size 88 #[.int .i64 t.id,.int .i64 t.inn,.string t.name]:=by rw[hw1];exact Blk.new w0 _ _
 have q0:=hb1.cell 0;have q1:=hb1.cell 1;have q2:=hb1.cell 2;have g0:=hz1.frozen 0;have g1:=hz1.frozen 1;have g2:=hz1.frozen 2;simp at q0 q1 q2;have HW0:=h_ hw0;have HW1:=h_ hw1;have HZ:=h_ hz1;have HF:=h_ (f0.trans f1);clear h h0 f0 f1 hz0 hz1 hb1;rw[hw0] at c0 c1 c2 c3 c4 c5 c6 c7 c8 hl2;rw[hw1,hw0] at q0 q1 q2 g0 g1 g2;clear hw0 hw1;go_enter Tryz.func105,Tryz.ntmps105;go_wp2;refine bodyPost_ret (Folder_nret ((Blk.new w 88 #[.int .i64 t.id,.int .i64 t.inn,.string t.name]).frm ((fR _).alloc _) id) rfl rfl) rfl ?_;exact⟨rfl,((fR w).alloc _).alloc _⟩
theorem FeedS_any{w:World}{g:Nat}{M:Ms}{x:St}(h:StAt w g M x){i:Int}(hi:I64 i):
  Calls Tryz.prog 56 #[.pointer (some ⟨g,0,none⟩),.int .i64 i] w fun e w'=>e=.returned (.tuple #[.agg #[.int .i64 (feeAt x i).id,.int .i64 (feeAt x i).inn,.string (feeAt x i).url,.string (feeAt x i).title],.bool (isI Fee.id i x.fees)])∧Frm Nix w w':=by
 obtain⟨w0,hw0⟩:∃ w0,w0=w.alloc (.cells #[.int .i64 0,.int .i64 0,.string ⟨#[]⟩,.string ⟨#[]⟩] 73):=⟨_,rfl⟩;have f0:Frm Nix w w0:=by rw[hw0];exact(fR w).alloc _
 have hz0:Blk w0 w.heap.size 73 #[.int .i64 0,.int .i64 0,.string ⟨#[]⟩,.string ⟨#[]⟩]:=by rw[hw0];exact Blk.new w _ _
 have h0:=h.nix f0;obtain⟨c0,c1,c2,c3,c4,c5,c6,c7,c8,-⟩:=h0.cells;have hl2:=h0.feeLook2 hi;generalize feeAt x i=t at *;generalize isI Fee.id i x.fees=bb at *;obtain⟨w1,hw1⟩:∃ w1,w1=w0.alloc (.cells #[.int .i64 t.id,.int .i64 t.inn,.string t.url,.string t.title] 73):=⟨_,rfl⟩;have f1:Frm Nix w0 w1:=by rw[hw1];exact(fR w0).alloc _
 have hz1:=hz0.frm f1 id;have hb1:Blk w1 w0.heap.size 73 #[.int .i64 t.id,.int .i64 t.inn,.string t.url,.string t.title]:=by rw[hw1];exact Blk.new w0 _ _
 have q0:=hb1.cell 0;have q1:=hb1.cell 1;have q2:=hb1.cell 2;have q3:=hb1.cell 3;have g0:=hz1.frozen 0;have g1:=hz1.frozen 1;have g2:=hz1.frozen 2;have g3:=hz1.frozen 3;simp at q0 q1 q2 q3;have HW0:=h_ hw0;have HW1:=h_ hw1;have HZ:=h_ hz1;have HF:=h_ (f0.trans f1);clear h h0 f0 f1 hz0 hz1 hb1;rw[hw0] at c0 c1 c2 c3 c4 c5 c6 c7 c8 hl2;rw[hw1,hw0] at q0 q1 q2 q3 g0 g1 g2 g3;clear hw0 hw1;go_enter Tryz.func56,Tryz.ntmps56;go_wp2;refine bodyPost_ret (Feed_nret ((Blk.new w 73 #[.int .i64 t.id,.int .i64 t.inn,.string t.url,.string t.title]).frm ((fR _).alloc _) id) rfl rfl) rfl ?_;exact⟨rfl,((fR w).alloc _).alloc _⟩
theorem SearchS_any{w:World}{g:Nat}{M:Ms}{x:St}(h:StAt w g M x){i:Int}(hi:I64 i):
  Calls Tryz.prog 109 #[.pointer (some ⟨g,0,none⟩),.int .i64 i] w fun e w'=>e=.returned (.tuple #[.agg #[.int .i64 (seaAt x i).id,.string (seaAt x i).name,.string (seaAt x i).query],.bool (isI Sea.id i x.seas)])∧Frm Nix w w':=by
 obtain⟨w0,hw0⟩:∃ w0,w0=w.alloc (.cells #[.int .i64 0,.string ⟨#[]⟩,.string ⟨#[]⟩] 93):=⟨_,rfl⟩;have f0:Frm Nix w w0:=by rw[hw0];exact(fR w).alloc _
 have hz0:Blk w0 w.heap.size 93 #[.int .i64 0,.string ⟨#[]⟩,.string ⟨#[]⟩]:=by rw[hw0];exact Blk.new w _ _
 have h0:=h.nix f0;obtain⟨c0,c1,c2,c3,c4,c5,c6,c7,c8,-⟩:=h0.cells;have hl2:=h0.seaLook2 hi;generalize seaAt x i=t at *;generalize isI Sea.id i x.seas=bb at *;obtain⟨w1,hw1⟩:∃ w1,w1=w0.alloc (.cells #[.int .i64 t.id,.string t.name,.string t.query] 93):=⟨_,rfl⟩;have f1:Frm Nix w0 w1:=by rw[hw1];exact(fR w0).alloc _
 have hz1:=hz0.frm f1 id;have hb1:Blk w1 w0.heap.size 93 #[.int .i64 t.id,.string t.name,.string t.query]:=by rw[hw1];exact Blk.new w0 _ _
 have q0:=hb1.cell 0;have q1:=hb1.cell 1;have q2:=hb1.cell 2;have g0:=hz1.frozen 0;have g1:=hz1.frozen 1;have g2:=hz1.frozen 2;simp at q0 q1 q2;have HW0:=h_ hw0;have HW1:=h_ hw1;have HZ:=h_ hz1;have HF:=h_ (f0.trans f1);clear h h0 f0 f1 hz0 hz1 hb1;rw[hw0] at c0 c1 c2 c3 c4 c5 c6 c7 c8 hl2;rw[hw1,hw0] at q0 q1 q2 g0 g1 g2;clear hw0 hw1;go_enter Tryz.func109,Tryz.ntmps109;go_wp2;refine bodyPost_ret (Search_nret ((Blk.new w 93 #[.int .i64 t.id,.string t.name,.string t.query]).frm ((fR _).alloc _) id) rfl rfl) rfl ?_;exact⟨rfl,((fR w).alloc _).alloc _⟩
theorem Clock_any{w:World}{g:Nat}{M:Ms}{x:St}(h:StAt w g M x):Calls Tryz.prog 61 #[.pointer (some ⟨g,0,none⟩)] w fun e w'=>e=.returned (.int .i64 x.clock)∧w=w':=by
 obtain⟨c0,-⟩:=h.cells;clear h;go_enter Tryz.func61,Tryz.ntmps61;go_wp2;go_ret;exact⟨rfl,rfl⟩
def topS(x:St)(k:Int):Int:=if k=1 then x.tFol else if k=3 then x.tFee else if k=7 then x.tItm else if k=11 then x.tSea else 0
theorem Top_any{w:World}{g:Nat}{M:Ms}{x:St}(h:StAt w g M x)(k:Int):Calls Tryz.prog 157 #[.pointer (some ⟨g,0,none⟩),.int .i64 k] w fun e w'=>e=.returned (.int .i64 (topS x k))∧w=w':=by
 obtain⟨c0,c1,c2,c3,c4,c5,c6,c7,c8,c9,c10,c11,c12⟩:=h.cells;have HT:Hid (topS x k=if k=1 then x.tFol else if k=3 then x.tFee else if k=7 then x.tItm else if k=11 then x.tSea else 0):=rfl;clear h
 by_cases h1:k=1
 ·rw[if_pos h1] at HT
  subst h1;go_enter Tryz.func157,Tryz.ntmps157;go_wp2;go_ret;exact⟨by rw[HT.out]<;>rfl,rfl⟩
 rw[if_neg h1] at HT
 by_cases h2:k=3
 ·rw[if_pos h2] at HT
  subst h2;go_enter Tryz.func157,Tryz.ntmps157;go_wp2;go_ret;exact⟨by rw[HT.out]<;>rfl,rfl⟩
 rw[if_neg h2] at HT
 by_cases h3:k=7
 ·rw[if_pos h3] at HT
  subst h3;go_enter Tryz.func157,Tryz.ntmps157;go_wp2;go_ret;exact⟨by rw[HT.out]<;>rfl,rfl⟩
 rw[if_neg h3] at HT
 by_cases h4:k=11
 ·rw[if_pos h4] at HT
  subst h4;go_enter Tryz.func157,Tryz.ntmps157;go_wp2;go_ret;exact⟨by rw[HT.out]<;>rfl,rfl⟩
 rw[if_neg h4] at HT;go_enter Tryz.func157,Tryz.ntmps157;go_wp2;go_ret;exact⟨by rw[HT.out]<;>rfl,rfl⟩
end Go.Proofs.YtdihmpakglakdaaGreat
