/-
  Contracts: Fold.
-/
import Derived.Test.YtdihmpakglakdaaGreatGp23
import Derived.Test.YtdihmpakglakdaaGreatGp11
import Derived.Test.YtdihmpakglakdaaGreatGp14
import Derived.Test.YtdihmpakglakdaaGreatGp12
import Derived.Test.YtdihmpakglakdaaGreatGp15
import Derived.Test.YtdihmpakglakdaaGreatGp13
import Derived.Deep.RegionHeld3
set_option linter.unusedVariables false
set_option linter.unusedSimpArgs false
set_option maxRecDepth 100000
set_option maxHeartbeats 16000000
namespace Go.Proofs.YtdihmpakglakdaaGreat
open Go.RowKit Go.Lib
theorem evc7{w:World}{b off:Nat}{e:Ev}(h:∀ (j:Nat) (u:Value),e.cells[j]? =some u→w.cell? ⟨b,off+j,none⟩=some u):
  w.cell? ⟨b,off,none⟩=some (.int .i64 e.kind)∧w.cell? ⟨b,off+1,none⟩=some (.int .i64 e.a)∧w.cell? ⟨b,off+2,none⟩=some (.int .i64 e.b)∧w.cell? ⟨b,off+3,none⟩=some (.int .i64 e.n)∧w.cell? ⟨b,off+4,none⟩=some (.string e.s)∧w.cell? ⟨b,off+5,none⟩=some (.string e.t)∧w.cell? ⟨b,off+6,none⟩=some (.string e.u):=
 ⟨h 0 _ rfl,h 1 _ rfl,h 2 _ rfl,h 3 _ rfl,h 4 _ rfl,h 5 _ rfl,h 6 _ rfl⟩
theorem foldE_take{x:St}{l:List Ev}{k:Nat}(h:k<l.length):foldE x (l.take (k+1))=(applyS (foldE x (l.take k)) l[k]).1:=by
 unfold foldE;rw[List.take_succ_eq_append_getElem h,List.foldl_append];rfl
theorem frm_own{w wr w2:World}{g:Nat}{M:Ms}(h:Frm Nix w wr)(hf:Frm (SF g M) wr w2)(hn:∀ k,SF g M k→w.heap.size≤k):Frm Nix w w2:=h.next hf fun k hk=>.inr (hn k hk)
theorem Fold_any{w:World}{v:Sl}{G:Nat→Prop}(l:List Ev)(hv:SlIn w G 7 v l.length (l.flatMap Ev.cells))(hI:∀ e ∈ l,I64 e.a∧I64 e.b)(hn:l.length≤1000000):
  Calls Tryz.prog 24 #[.slice v.1 l.length v.2] w fun e w'=>∃ g M,e=.returned (.pointer (some ⟨g,0,none⟩))∧StAt w' g M (foldE st0 l)∧Frm Nix w w'∧∀ k,SF g M k→w.heap.size≤k:=by
 obtain⟨Av,cv⟩:=v;dsimp only;obtain⟨n,hln⟩:∃ n,l.length=n:=⟨_,rfl⟩;have HL:=h_ hln;have HV:=h_ hv;have HI:=h_ hI;have KN:=h_ (New_any w);rw[hln] at hn ⊢;clear hv hln hI;go_enter Tryz.func24,Tryz.ntmps24;go_wp2_with (go_at_call 50;refine KN.out.mono ?_;rintro e w1 ⟨g,M,rfl,hs,hf,hg⟩;have HS:=h_ hs;have HF:=h_ hf;have HG:=h_ hg;clear hs hf hg)
 go_loopw [9] (fun kv wr=>∃ k:Nat,k≤n∧kv=.int .i64 k∧StAt wr g M (foldE st0 (l.take k))∧Frm Nix w wr) (fun kv _=>n - (intOf kv).toNat)
 case atStart=>exact⟨0,by omega,rfl,HS.out,HF.out⟩
 case round=>
  obtain⟨k,hk,rfl,hs,hf⟩:=hrel;have HS2:=h_ hs;have HF2:=h_ hf;clear hs hf
  by_cases hlt:k<n
  ·have hkl:k<l.length:=by rw[HL.out];exact hlt
   obtain⟨b,off,hA,-,hbl,hcell⟩:=(HV.out.nix HF2.out).at_ Ev.clen (by decide) (by omega);dsimp only at hA;subst hA;have h7:=evc7 (w:=wr) (b:=b) (off:=off+k * 7) (e:=l[k]) (hcell k hkl);have hie:=HI.out l[k] (List.getElem_mem hkl);have HFT:=h_ (foldE_take (x:=st0) hkl);obtain⟨ev,hev⟩:∃ ev,l[k]=ev:=⟨_,rfl⟩;rw[hev] at h7 hie HFT;obtain⟨x0,x1,x2,x3,x4,x5,x6⟩:=h7
   have KA:Hid (Calls Tryz.prog 31 #[.pointer (some ⟨g,0,none⟩),.agg #[.int .i64 ev.kind,.int .i64 ev.a,.int .i64 ev.b,.int .i64 ev.n,.string ev.s,.string ev.t,.string ev.u]] (wr.alloc (.cells #[.int .i64 ev.kind,.int .i64 ev.a,.int .i64 ev.b,.int .i64 ev.n,.string ev.s,.string ev.t,.string ev.u] 43)) fun r w'=>r=.returned (.bool (applyS (foldE st0 (l.take k)) ev).2)∧StAt w' g M (foldE st0 (l.take (k+1)))∧Frm Nix w w'):=
    (Apply_any (HS2.out.nix ((fR wr).alloc _)) ev hie.1 hie.2).mono fun r w' ⟨h1,h2,h3⟩=>⟨h1,by rw[HFT.out];exact h2,frm_own (HF2.out.alloc _) h3 HG.out⟩
   clear hcell hev hie;generalize (applyS (foldE st0 (l.take k)) ev).2=bb at *;go_wp2_with (go_at_call 31;refine KA.out.mono ?_;rintro r w2 ⟨rfl,hs2,hf2⟩;have HS3:=h_ hs2;have HF3:=h_ hf2;clear hs2 hf2);go_roundw
   case rel=>exact⟨k+1,by omega,by go_num,HS3.out,HF3.out⟩
   case measure=>simp[intOf];omega
  ·obtain rfl:k=n:=by omega
   have HTk:Hid (l.take k=l):=List.take_of_length_le (by rw[HL.out];exact Nat.le_refl _);have hs:=HS2.out;rw[HTk.out] at hs;have HS4:=h_ hs;clear hs;go_wp2;go_ret;exact⟨g,M,rfl,HS4.out,HF2.out,HG.out⟩
theorem Place_any{w:World}{g:Nat}{M:Ms}{x:St}(h:StAt w g M x)(s:ByteArray)(hs:s.size≤maxLen):
  Calls Tryz.prog 106 #[.pointer (some ⟨g,0,none⟩),.string s] w fun e w'=>e=.returned (.tuple #[.int .i64 (placeS x s),.bool (!(placeS x s==0))])∧w=w':=by
 obtain⟨c0,c1,c2,c3,c4,c5,c6,c7,c8,-⟩:=h.cells;have hl:=h.placeLook hs true;simp only[if_true] at hl;clear h;go_enter Tryz.func106,Tryz.ntmps106;go_wp2
 go_ret2
 exact⟨rfl,rfl⟩
theorem Item_ret{W:World}{g:Nat}{tmps:Array Value}{a0 a1 a2 a3 a4 a5 a6 a7 a8 b:Value}(hb:Blk W g 91 #[a0,a1,a2,a3,a4,a5,a6,a7,a8])(h2:tmps.getD 4 undef=.pointer (some ⟨g,0,none⟩))(h3:tmps.getD 5 undef=b):
  (results Tryz.f107 tmps).run Tryz.prog W=.ok (.tuple #[.agg #[a0,a1,a2,a3,a4,a5,a6,a7,a8],b]) W:=by
 obtain⟨c0,c1,c2,c3,c4,c5,c6,c7,c8⟩:=itm9 hb;have h2':tmps[4]?.getD undef=.pointer (some ⟨g,0,none⟩):=by simpa using h2
 have h3':tmps[5]?.getD undef=b:=by simpa using h3
 simp[results,Tryz.results107,h2',h3',go_sem,c0,c1,c2,c3,c4,c5,c6,c7,c8]
theorem Item_any{w:World}{g:Nat}{M:Ms}{x:St}(h:StAt w g M x){i:Int}(hi:I64 i):
  Calls Tryz.prog 107 #[.pointer (some ⟨g,0,none⟩),.int .i64 i] w fun e w'=>∃ v':Sl,e=.returned (.tuple #[.agg #[.int .i64 (itmAt x i).id,.int .i64 (itmAt x i).feed,.int .i64 (itmAt x i).date,.string (itmAt x i).guid,.string (itmAt x i).title,.string (itmAt x i).link,.bool (itmAt x i).read,.bool (itmAt x i).star,.slice v'.1 (itmAt x i).tags.length v'.2],.bool (isI Itm.id i x.itms)])∧SlIn w' (fun k=>w.heap.size≤k) 1 v' (itmAt x i).tags.length ((itmAt x i).tags.map Value.string)∧Frm Nix w w':=by
 obtain⟨w0,hw0⟩:∃ w0,w0=w.alloc (.cells #[.int .i64 0,.int .i64 0,.int .i64 0,.string ⟨#[]⟩,.string ⟨#[]⟩,.string ⟨#[]⟩,.bool false,.bool false,.slice none 0 0] 91):=⟨_,rfl⟩;have f0:Frm Nix w w0:=by rw[hw0];exact(fR w).alloc _
 have hz0:Blk w0 w.heap.size 91 #[.int .i64 0,.int .i64 0,.int .i64 0,.string ⟨#[]⟩,.string ⟨#[]⟩,.string ⟨#[]⟩,.bool false,.bool false,.slice none 0 0]:=by rw[hw0];exact Blk.new w _ _
 have h0:=h.nix f0;obtain⟨c0,c1,c2,c3,c4,c5,c6,c7,c8,-⟩:=h0.cells;obtain⟨v,hv,hl⟩:=h0.itmLook hi;have h8:=(itmAt_ok h.ok i).2;have hl2:(Instr.lookup 112 (.map (some M.it)) (.int .i64 i) true).run Tryz.prog w0=.ok (.tuple #[.agg #[.int .i64 (itmAt x i).id,.int .i64 (itmAt x i).feed,.int .i64 (itmAt x i).date,.string (itmAt x i).guid,.string (itmAt x i).title,.string (itmAt x i).link,.bool (itmAt x i).read,.bool (itmAt x i).star,.slice v.1 (itmAt x i).tags.length v.2],.bool (isI Itm.id i x.itms)]) w0:=hl true;generalize itmAt x i=t at *;generalize isI Itm.id i x.itms=bb at *;obtain⟨w1,hw1⟩:∃ w1,w1=w0.alloc (.cells #[.int .i64 t.id,.int .i64 t.feed,.int .i64 t.date,.string t.guid,.string t.title,.string t.link,.bool t.read,.bool t.star,.slice v.1 t.tags.length v.2] 91):=⟨_,rfl⟩;have f1:Frm Nix w0 w1:=by rw[hw1];exact(fR w0).alloc _
 have hz1:=hz0.frm f1 id;have hb1:Blk w1 w0.heap.size 91 #[.int .i64 t.id,.int .i64 t.feed,.int .i64 t.date,.string t.guid,.string t.title,.string t.link,.bool t.read,.bool t.star,.slice v.1 t.tags.length v.2]:=by rw[hw1];exact Blk.new w0 _ _
 obtain⟨q0,q1,q2,q3,q4,q5,q6,q7,q8⟩:=itm9 hb1;have K:=h_ (told_any t (hv.frm f1 fun _ _=>id) (by omega));have HW0:=h_ hw0;have HW1:=h_ hw1;have HZ:=h_ hz1;have HF:=h_ (f0.trans f1);clear h h0 hv hl h8 f0 f1 hz0 hz1 hb1 hw1;rw[hw0] at c0 c1 c2 c3 c4 c5 c6 c7 c8 hl2;clear hw0;go_enter Tryz.func107,Tryz.ntmps107;go_wp2_with (go_at_call 68;rw[← HW0.out,← HW1.out];refine K.out.mono ?_;rintro r w2 ⟨v',rfl,hsl,hf2⟩;have HSl:=h_ hsl;have HF2:=h_ hf2;have z2:=HZ.out.frm hf2 id;obtain⟨p0,p1,p2,p3,p4,p5,p6,p7,p8⟩:=itm9 z2;have g0:=z2.frozen 0;have g1:=z2.frozen 1;have g2:=z2.frozen 2;have g3:=z2.frozen 3;have g4:=z2.frozen 4;have g5:=z2.frozen 5;have g6:=z2.frozen 6;have g7:=z2.frozen 7;have g8:=z2.frozen 8;have HZ2:=h_ z2;clear z2 hsl hf2);obtain⟨w4,hw4⟩:∃ w4,w4=w2.setCells w.heap.size 0 [.int .i64 t.id,.int .i64 t.feed,.int .i64 t.date,.string t.guid,.string t.title,.string t.link,.bool t.read,.bool t.star,.slice v'.1 t.tags.length v'.2]:=⟨_,rfl⟩;have hb5:Blk w4 w.heap.size 91 #[.int .i64 t.id,.int .i64 t.feed,.int .i64 t.date,.string t.guid,.string t.title,.string t.link,.bool t.read,.bool t.star,.slice v'.1 t.tags.length v'.2]:=by rw[hw4,← putL9 (.int .i64 0) (.int .i64 0) (.int .i64 0) (.string ⟨#[]⟩) (.string ⟨#[]⟩) (.string ⟨#[]⟩) (.bool false) (.bool false) (.slice none 0 0)];exact Blk.putL [.int .i64 t.id,.int .i64 t.feed,.int .i64 t.date,.string t.guid,.string t.title,.string t.link,.bool t.read,.bool t.star,.slice v'.1 t.tags.length v'.2] 0 HZ2.out
 have F4:Frm (fun k=>k=w.heap.size) w2 w4:=by rw[hw4];exact Frm.setCells [.int .i64 t.id,.int .i64 t.feed,.int .i64 t.date,.string t.guid,.string t.title,.string t.link,.bool t.read,.bool t.star,.slice v'.1 t.tags.length v'.2] 0 (Frm.refl _ _) (.inl rfl)
 have hF:Frm Nix w w4:=(HF.out.trans HF2.out).next F4 fun k hk=>.inr (by omega)
 have hlz:=HZ.out.lt;have hS:=(HSl.out.frm F4 fun k hk e=>by omega).mono fun k hk=>(show w.heap.size≤k by omega)
 simp only[World.setCells] at hw4;rw[← hw4];refine bodyPost_ret (Item_ret hb5 rfl rfl) rfl ?_;exact⟨v',rfl,hS,hF⟩
theorem str_flat(l:List ByteArray):l.map Value.string=l.flatMap fun i=>[Value.string i]:=by
 induction l with
 | nil=>rfl
 | cons a l ih=>rw[List.map_cons,ih,List.flatMap_cons];rfl
end Go.Proofs.YtdihmpakglakdaaGreat
