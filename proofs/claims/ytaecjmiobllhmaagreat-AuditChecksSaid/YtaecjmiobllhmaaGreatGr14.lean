/- Words. -/
import Derived.Test.YtaecjmiobllhmaaGreatGr13
set_option linter.unusedVariables false
set_option linter.unusedSimpArgs false
set_option maxRecDepth 100000
set_option maxHeartbeats 16000000
namespace Go.Proofs.YtaecjmiobllhmaaGreat
open Go.Value renaming int→I,string→V,slice→U,pointer→O
open Go.IntKind renaming i64→J
open Go.RowKit Go.Lib
variable {W:World}{g:Nat}{a0 a1 a2 a3 a4 a5 a6 a7 a8:Value}
theorem pF:mJ Tryz.prog 30 42 7 80:=⟨Tryz.underlying30,⟨.agg #[.int .i64 0,.int .i64 0,.int .i64 0,.int .i64 0,.string ByteArray.empty,V ByteArray.empty,V ByteArray.empty],by kernel_rfl,rfl⟩,by decide⟩
theorem Hb(h:aj W g 82 #[a0,a1,a2,a3,a4,a5,a6,a7,a8]):
  W.cell? ⟨g,0,none⟩=some a0∧W.cell? ⟨g,1,none⟩=some a1∧W.cell? ⟨g,2,none⟩=some a2∧W.cell? ⟨g,3,none⟩=some a3∧W.cell? ⟨g,4,none⟩=some a4∧W.cell? ⟨g,5,none⟩=some a5∧W.cell? ⟨g,6,none⟩=some a6∧W.cell? ⟨g,7,none⟩=some a7∧W.cell? ⟨g,8,none⟩=some a8:=
 ⟨h.cell 0,h.cell 1,h.cell 2,h.cell 3,h.cell 4,h.cell 5,h.cell 6,h.cell 7,h.cell 8⟩
theorem kK(a0 a1 a2 a3 a4 a5 a6 a7 a8 b0 b1 b2 b3 b4 b5 b6 b7 b8:Value):putL #[a0,a1,a2,a3,a4,a5,a6,a7,a8] 0 [b0,b1,b2,b3,b4,b5,b6,b7,b8]=#[b0,b1,b2,b3,b4,b5,b6,b7,b8]:=by simp[putL]
theorem Hc{tmps:Array Value}(hb:aj W g 82 #[a0,a1,a2,a3,a4,a5,a6,a7,a8])(h2:tmps.getD 2 undef=O (some ⟨g,0,none⟩)):
  (results Tryz.f60 tmps).run Tryz.prog W=.ok (.agg #[a0,a1,a2,a3,a4,a5,a6,a7,a8]) W:=by
 obtain⟨c0,c1,c2,c3,c4,c5,c6,c7,c8⟩:=Hb hb;have h2':tmps[2]?.getD undef=O (some ⟨g,0,none⟩):=by simpa using h2
 simp[results,Tryz.results60,h2',go_sem,c0,c1,c2,c3,c4,c5,c6,c7,c8]
theorem Hd{w:World}{v:Sl}(t:aR)(hv:bF w v t.tags)(h8:t.tags.length≤1000):
  Calls Tryz.prog 60 #[.agg #[I J t.id,I J t.feed,I J t.date,V t.guid,V t.title,V t.link,.bool t.read,.bool t.star,U v.1 t.tags.length v.2]] w λe w'=>∃v':Sl,e=.returned (.agg #[I J t.id,I J t.feed,I J t.date,V t.guid,V t.title,V t.link,.bool t.read,.bool t.star,U v'.1 t.tags.length v'.2])∧aF w' (λk=>w.heap.size≤k) 1 v' t.tags.length (t.tags.map Value.string)∧aa ag w w':=by
 obtain⟨w0,hw0⟩:∃w0,w0=w.alloc (.cells #[I J t.id,I J t.feed,I J t.date,V t.guid,V t.title,V t.link,.bool t.read,.bool t.star,U v.1 t.tags.length v.2] 82):=⟨_,rfl⟩;have f0:aa ag w w0:=by rw[hw0];exact(fR w).alloc _
 have hb0:aj w0 w.heap.size 82 #[I J t.id,I J t.feed,I J t.date,V t.guid,V t.title,V t.link,.bool t.read,.bool t.star,U v.1 t.tags.length v.2]:=by rw[hw0];exact aj.new w _ _
 obtain⟨w1,hw1⟩:∃w1,w1=w0.alloc (.cells #[I J 0,I J 0,I J 0,V ⟨#[]⟩,V ⟨#[]⟩,V ⟨#[]⟩,.bool false,.bool false,U none 0 0] 82):=⟨_,rfl⟩;have f1:aa ag w0 w1:=by rw[hw1];exact(fR w0).alloc _
 have hb1:=hb0.frm f1 id;have hz1:aj w1 w0.heap.size 82 #[I J 0,I J 0,I J 0,V ⟨#[]⟩,V ⟨#[]⟩,V ⟨#[]⟩,.bool false,.bool false,U none 0 0]:=by rw[hw1];exact aj.new w0 _ _
 have Ty:w0.heap.size=w.heap.size+1:=by rw[hw0];simp
 rw[Ty] at hz1;have K:=h_ (xW (hv.frm (f0.trans f1) λ_ _=>id) h8);have F1:=h_ (f0.trans f1);have pu:=h_ hw0;have PD:=h_ hw1;have HB:=h_ hb1;have HZ:=h_ hz1;have x8:=hb1.cell 8;simp at x8;have hsz:=f0.size;clear hv f0 f1 hb0 hb1 hz1 hw0 hw1;go_enter Tryz.func60,Tryz.ntmps60
 go_wp2_with (first
  | (go_at_call 114;rw[←pu.out,←PD.out];refine K.out.mono ?_;rintro r w2 ⟨A,c,rfl,hrow⟩;have HR:=h_ hrow;have b2:=HB.out.frm hrow.frm id;have fz:=b2.frozen 8;obtain⟨q0,q1,q2,q3,q4,q5,q6,q7,q8⟩:=Hb b2;have z2:=HZ.out.frm hrow.frm id;obtain⟨p0,p1,p2,p3,p4,p5,p6,p7,p8⟩:=Hb z2;have g0:=z2.frozen 0;have g1:=z2.frozen 1;have g2:=z2.frozen 2;have g3:=z2.frozen 3;have g4:=z2.frozen 4;have g5:=z2.frozen 5;have g6:=z2.frozen 6;have g7:=z2.frozen 7;have g8:=z2.frozen 8;have R7:=h_ z2;clear b2 hrow z2))
 have Tz:w.heap.size+1<w2.heap.size:=R7.out.lt;have hT:=HR.out.toK.sl;have TA:w.heap.size+1<w1.heap.size:=HZ.out.lt;obtain⟨w3,hw3⟩:∃w3,w3=w2.setCell ⟨w.heap.size,8,none⟩ (U A t.tags.length c):=⟨_,rfl⟩;have hb3:aj w3 (w.heap.size+1) 82 #[I J 0,I J 0,I J 0,V ⟨#[]⟩,V ⟨#[]⟩,V ⟨#[]⟩,.bool false,.bool false,U none 0 0]:=by rw[hw3];exact R7.out.far (p:=⟨w.heap.size,8,none⟩) (by simp) (U A t.tags.length c)
 have F3:aa (λk=>k=w.heap.size∨k=w.heap.size+1) w2 w3:=by rw[hw3];exact(aa.refl _ w2).setCell (p:=⟨w.heap.size,8,none⟩) (.inl (.inl rfl)) (U A t.tags.length c)
 obtain⟨w4,hw4⟩:∃w4,w4=w3.setCells (w.heap.size+1) 0 [I J t.id,I J t.feed,I J t.date,V t.guid,V t.title,V t.link,.bool t.read,.bool t.star,U A t.tags.length c]:=⟨_,rfl⟩;have hb5:aj w4 (w.heap.size+1) 82 #[I J t.id,I J t.feed,I J t.date,V t.guid,V t.title,V t.link,.bool t.read,.bool t.star,U A t.tags.length c]:=by rw[hw4,←kK (I J 0) (I J 0) (I J 0) (V ⟨#[]⟩) (V ⟨#[]⟩) (V ⟨#[]⟩) (.bool false) (.bool false) (U none 0 0)];exact aj.putL [I J t.id,I J t.feed,I J t.date,V t.guid,V t.title,V t.link,.bool t.read,.bool t.star,U A t.tags.length c] 0 hb3
 have F4:aa (λk=>k=w.heap.size∨k=w.heap.size+1) w2 w4:=by rw[hw4];exact aa.setCells [I J t.id,I J t.feed,I J t.date,V t.guid,V t.title,V t.link,.bool t.read,.bool t.star,U A t.tags.length c] 0 F3 (.inl (.inr rfl))
 have hF:aa ag w w4:=(F1.out.trans HR.out.frm).next F4 λk hk=>.inr (by rcases hk with rfl|rfl<;>omega)
 have hS:=(hT.frm F4 λk hk e=>by rcases e with e|e<;>omega).mono λk hk=>(show w.heap.size≤k by omega)
 simp only[World.setCells] at hw4;rw[hw3] at hw4;rw[←hw4];refine bodyPost_ret (Hc hb5 rfl) rfl ?_;exact⟨(A,c),rfl,hS,hF⟩
end Go.Proofs.YtaecjmiobllhmaaGreat
