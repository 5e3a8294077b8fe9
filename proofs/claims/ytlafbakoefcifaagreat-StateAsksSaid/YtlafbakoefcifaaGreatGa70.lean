/-
  Contracts: the document's Apply: Fold.
-/
import Derived.Test.YtlafbakoefcifaaGreatGa51
import Derived.Test.YtlafbakoefcifaaGreatGa32
import Derived.Test.YtlafbakoefcifaaGreatGa25
import Derived.Test.YtlafbakoefcifaaGreatGa43
import Derived.Test.YtlafbakoefcifaaGreatGa14
set_option linter.unusedVariables false
set_option linter.unusedSimpArgs false
set_option maxRecDepth 100000
set_option maxHeartbeats 16000000
namespace Go.Proofs.YtlafbakoefcifaaGreat
open Go.RowKit Go.Lib
theorem rfold_ret{W:World}{g:Nat}{tmps:Array Value}{a0 a1 a2 a3 a4 a5 a6 a7 a8:Value}(hb:Blk W g 30 #[a0,a1,a2,a3,a4,a5,a6,a7,a8])(h2:tmps.getD 2 undef=.pointer (some ⟨g,0,none⟩)):
  (results Tryz.f20 tmps).run Tryz.prog W=.ok (.agg #[a0,a1,a2,a3,a4,a5,a6,a7,a8]) W:=by
 obtain⟨c0,c1,c2,c3,c4,c5,c6,c7,c8⟩:=blk9 hb;have h2':tmps[2]?.getD undef=.pointer (some ⟨g,0,none⟩):=by simpa using h2
 simp[results,Tryz.results20,h2',go_sem,c0,c1,c2,c3,c4,c5,c6,c7,c8]
theorem box_zz(w:World):∃ w0,w0=(w.alloc (.cells #[.int .i64 0,.slice none 0 0,.slice none 0 0,.slice none 0 0,.slice none 0 0,.int .i64 0,.int .i64 0,.int .i64 0,.int .i64 0] 30)).alloc (.cells #[.int .i64 0,.slice none 0 0,.slice none 0 0,.slice none 0 0,.slice none 0 0,.int .i64 0,.int .i64 0,.int .i64 0,.int .i64 0] 30)∧Frm Nix w w0∧Blk w0 w.heap.size 30 #[.int .i64 0,.slice none 0 0,.slice none 0 0,.slice none 0 0,.slice none 0 0,.int .i64 0,.int .i64 0,.int .i64 0,.int .i64 0]∧Blk w0 (w.heap.size+1) 30 #[.int .i64 0,.slice none 0 0,.slice none 0 0,.slice none 0 0,.slice none 0 0,.int .i64 0,.int .i64 0,.int .i64 0,.int .i64 0]∧w0.heap.size=w.heap.size+2:=by
 refine⟨_,rfl,((fR w).alloc _).alloc _,(Blk.new w _ _).frm ((fR _).alloc _) id,?_,by simp⟩;have:=Blk.new (w.alloc (.cells #[.int .i64 0,.slice none 0 0,.slice none 0 0,.slice none 0 0,.slice none 0 0,.int .i64 0,.int .i64 0,.int .i64 0,.int .i64 0] 30)) 30 #[.int .i64 0,.slice none 0 0,.slice none 0 0,.slice none 0 0,.slice none 0 0,.int .i64 0,.int .i64 0,.int .i64 0,.int .i64 0]
 simpa using this
theorem rStFold_any{w:World}{v:Sl}{G:Nat→Prop}(l:List Ev)(hv:SlIn w G 7 v l.length (l.flatMap Ev.cells))(hn:l.length≤1000000):
  Calls Tryz.prog 20 #[.slice v.1 l.length v.2] w fun r w'=>∃ (fo fe it se:Sl) (ts:List (Sl×Itm)),r=.returned (stV fo fe it se (foldE st0 l))∧StIn w' (fun k=>w.heap.size≤k) fo fe it se ts (foldE st0 l)∧Frm Nix w w':=by
 obtain⟨w0,hw0,hf0,hb1,hb2,hsz⟩:=box_zz w;obtain⟨A,c⟩:=v;have hv:=hv.old;have HVG:Hid (∀ k,(G k∧k<w.heap.size)→k<w.heap.size):=fun k h=>h.2
 have HV:=h_ hv;have HW:=h_ hw0;have HF0:=h_ hf0;have HB1:=h_ hb1;have HB2:=h_ hb2;have HZ:=h_ hsz;obtain⟨n,hln⟩:∃ n,l.length=n:=⟨_,rfl⟩;have HL:=h_ hln;rw[hln] at hn;dsimp only;rw[hln];clear hv hw0 hf0 hb1 hb2 hsz hln;go_enter Tryz.func20,Tryz.ntmps20;show Code.wp Tryz.prog (peel 0 (bodyOf Tryz.f20)) _ _ _
 refine peelK (k':=1) fun K hK=>?_
 conv in hdC _=>whnf
 go_wp2;refine peelK (k':=2) fun K hK=>?_
 conv in hdC _=>whnf
 go_wp2;rw[← HW.out];refine peelK (k':=3) fun K hK=>?_
 conv in hdC _=>whnf
 go_wp2
 go_loopw [4] (fun kv wr=>∃ (k:Nat) (fo fe it se:Sl) (ts:List (Sl×Itm)) (x:St),k≤n∧kv=.int .i64 k∧x=foldE st0 (l.take k)∧Blk wr (w.heap.size+1) 30 #[.int .i64 x.clock,.slice fo.1 x.fols.length fo.2,.slice fe.1 x.fees.length fe.2,.slice it.1 x.itms.length it.2,.slice se.1 x.seas.length se.2,.int .i64 x.tFol,.int .i64 x.tFee,.int .i64 x.tItm,.int .i64 x.tSea]∧StIn wr (fun k=>w.heap.size+1<k) fo fe it se ts x∧Blk wr w.heap.size 30 #[.int .i64 0,.slice none 0 0,.slice none 0 0,.slice none 0 0,.slice none 0 0,.int .i64 0,.int .i64 0,.int .i64 0,.int .i64 0]∧Frm Nix w wr) (fun kv _=>n - (intOf kv).toNat)
 case atStart=>exact⟨0,(none,0),(none,0),(none,0),(none,0),[],st0,by omega,rfl,rfl,HB2.out,StIn.zero _ _,HB1.out,HF0.out⟩
 case round=>
  obtain⟨k,fo,fe,it,se,ts,x,hk,rfl,hx,hb,hs,hz,hf⟩:=hrel;have HX:=h_ hx;have HB:=h_ hb;have HS:=h_ hs;have HZb:=h_ hz;have HF:=h_ hf;have HP:Hid (StP x):=by rw[hx];exact foldE_ok _ st0_ok
  clear hx hb hs hz hf
  by_cases hlt:k<n
  ·have hkl:k<l.length:=by rw[HL.out];exact hlt
   obtain⟨b,off,hA,hgb,hbl,hcell⟩:=evs_cells HV.out HF.out hkl;subst hA;have HFT:=h_ (foldE_take (x:=st0) hkl);obtain⟨ev,hev⟩:∃ ev,l[k]=ev:=⟨_,rfl⟩;rw[hev] at hcell HFT;have KA:Hid (∀ W,Frm Nix wr W→Calls Tryz.prog 12 #[stV fo fe it se x,.agg #[.int .i64 ev.kind,.int .i64 ev.a,.int .i64 ev.b,.int .i64 ev.n,.string ev.s,.string ev.t,.string ev.u]] W (ApOut W (fun k=>w.heap.size+1<k) (applyS x ev).1 (applyS x ev).2)):=fun W hW=>rApply_any (HS.out.nix hW) HP.out.small ev
   obtain⟨x0,x1,x2,x3,x4,x5,x6,x7,x8⟩:=blk9 HB.out;obtain⟨c0,c1,c2,c3,c4,c5,c6⟩:=hcell Nix wr id (Frm.refl _ _);have hbB:=HB.out.lt;have HC:Hid (∀ W,Frm Nix wr W→(W.cell? ⟨w.heap.size+1,0,none⟩=some (.int .i64 x.clock)∧W.cell? ⟨w.heap.size+1,1,none⟩=some (.slice fo.1 x.fols.length fo.2)∧W.cell? ⟨w.heap.size+1,2,none⟩=some (.slice fe.1 x.fees.length fe.2)∧W.cell? ⟨w.heap.size+1,3,none⟩=some (.slice it.1 x.itms.length it.2)∧W.cell? ⟨w.heap.size+1,4,none⟩=some (.slice se.1 x.seas.length se.2)∧W.cell? ⟨w.heap.size+1,5,none⟩=some (.int .i64 x.tFol)∧W.cell? ⟨w.heap.size+1,6,none⟩=some (.int .i64 x.tFee)∧W.cell? ⟨w.heap.size+1,7,none⟩=some (.int .i64 x.tItm)∧W.cell? ⟨w.heap.size+1,8,none⟩=some (.int .i64 x.tSea))∧W.cell? ⟨b,off+k * 7,none⟩=some (.int .i64 ev.kind)∧W.cell? ⟨b,off+k * 7+1,none⟩=some (.int .i64 ev.a)∧W.cell? ⟨b,off+k * 7+2,none⟩=some (.int .i64 ev.b)∧W.cell? ⟨b,off+k * 7+3,none⟩=some (.int .i64 ev.n)∧W.cell? ⟨b,off+k * 7+4,none⟩=some (.string ev.s)∧W.cell? ⟨b,off+k * 7+5,none⟩=some (.string ev.t)∧W.cell? ⟨b,off+k * 7+6,none⟩=some (.string ev.u)):=fun W hW=>⟨blk9 (HB.out.frm hW id),hcell Nix W id hW⟩
   clear hcell hev;obtain⟨y,hy⟩:∃ y,(applyS x ev).1=y:=⟨_,rfl⟩;obtain⟨bb,hbb⟩:∃ bb,(applyS x ev).2=bb:=⟨_,rfl⟩;rw[hy,hbb] at KA;have HY:Hid (y=foldE st0 (l.take (k+1))):=by unfold Hid;rw[HFT.out,← HX.out,hy]
   clear hy hbb;go_wp2;have hbne:¬w.heap.size+1=b:=by have:=HVG.out b hgb;omega
   have hbne':¬b=w.heap.size+1:=fun e=>hbne e.symm
   refine wp_region_held_drew (S:=fun W=>W.cell? ⟨b,off+k * 7,none⟩=some (.int .i64 ev.kind)∧W.cell? ⟨b,off+k * 7+1,none⟩=some (.int .i64 ev.a)∧W.cell? ⟨b,off+k * 7+2,none⟩=some (.int .i64 ev.b)∧W.cell? ⟨b,off+k * 7+3,none⟩=some (.int .i64 ev.n)∧W.cell? ⟨b,off+k * 7+4,none⟩=some (.string ev.s)∧W.cell? ⟨b,off+k * 7+5,none⟩=some (.string ev.t)∧W.cell? ⟨b,off+k * 7+6,none⟩=some (.string ev.u)) (by kernel_rfl) (HC.out _ (fR wr).drew).2 fun hH=>?_
   refine tkq (i:=1) rfl (fun _ _ _ h=>h) hH ?_
   try simp only[lt,Act.put]
   refine tkq (i:=2) rfl (fun _ _ _ h=>h) hH ?_
   try simp only[lt,Act.put]
   refine tkq (i:=3) rfl (fun _ _ _ h=>h) hH ?_
   try simp only[lt,Act.put]
   refine tkq (i:=4) rfl (fun _ _ _ h=>h) hH ?_
   try simp only[lt,Act.put]
   refine rdy1 (i:=0) rfl (fun K hK=>?_);go_simp;refine hK.out _ _ (HC.out _ (fR wr).drew).2 (fun hH=>?_);clear hK K
   try simp only[lt,Act.put]
   refine rdy1 (i:=5) rfl (fun K hK=>?_);go_simp;go_at_call 12;refine(KA.out _ (fR _).drew).mono ?_;rintro r w1 ⟨fo',fe',it',se',ts',rfl,hs,hf⟩;have HS1:=h_ hs;have Z1:Hid (Frm Nix wr w1):=(fR _).drew.trans hf;clear hs hf;have hb1:=HB.out.frm Z1.out id;obtain⟨y0,y1,y2,y3,y4,y5,y6,y7,y8⟩:=blk9 hb1;have g0:=hb1.frozen 0;have g1:=hb1.frozen 1;have g2:=hb1.frozen 2;have g3:=hb1.frozen 3;have g4:=hb1.frozen 4;have g5:=hb1.frozen 5;have g6:=hb1.frozen 6;have g7:=hb1.frozen 7;have g8:=hb1.frozen 8;unfold stV;dsimp only;refine hK.out _ _ (HC.out _ Z1.out).2 (fun hH=>?_);clear hK K
   try simp only[lt,Act.put]
   refine tkq (i:=6) rfl (fun _ _ _ h=>h) hH ?_
   try simp only[lt,Act.put]
   refine tkq (i:=7) rfl (fun _ _ _ h=>h) hH ?_
   try simp only[lt,Act.put]
   refine tkq (i:=8) rfl (fun _ _ _ h=>h) hH ?_
   try simp only[lt,Act.put]
   refine rdy1 (i:=9) rfl (fun K hK=>?_);go_simp;refine hK.out _ _ (by obtain⟨c0,c1,c2,c3,c4,c5,c6⟩:=HC.out _ Z1.out |>.2;simp[*,World.cell?_setCell_far]) (fun hH=>?_);clear hK K
   try simp only[lt,Act.put]
   refine wpAnyH_done (by kernel_rfl) ?_ _
   all_goals
    obtain⟨we,hwe⟩:∃ we,we=w1.setCells (w.heap.size+1) 0 [.int .i64 y.clock,.slice fo'.1 y.fols.length fo'.2,.slice fe'.1 y.fees.length fe'.2,.slice it'.1 y.itms.length it'.2,.slice se'.1 y.seas.length se'.2,.int .i64 y.tFol,.int .i64 y.tFee,.int .i64 y.tItm,.int .i64 y.tSea]:=⟨_,rfl⟩
    have hbe:Blk we (w.heap.size+1) 30 #[.int .i64 y.clock,.slice fo'.1 y.fols.length fo'.2,.slice fe'.1 y.fees.length fe'.2,.slice it'.1 y.itms.length it'.2,.slice se'.1 y.seas.length se'.2,.int .i64 y.tFol,.int .i64 y.tFee,.int .i64 y.tItm,.int .i64 y.tSea]:=by
     have:=Blk.putL [.int .i64 y.clock,.slice fo'.1 y.fols.length fo'.2,.slice fe'.1 y.fees.length fe'.2,.slice it'.1 y.itms.length it'.2,.slice se'.1 y.seas.length se'.2,.int .i64 y.tFol,.int .i64 y.tFee,.int .i64 y.tItm,.int .i64 y.tSea] 0 hb1;rw[putL9] at this;rw[hwe];exact this
    have fe_:Frm (fun k=>k=w.heap.size+1) w1 we:=by rw[hwe];exact Frm.setCells _ 0 (Frm.refl _ _) (.inl rfl)
    simp only[World.setCells] at hwe;rw[← hwe];have hFe:Frm Nix w we:=(HF.out.trans Z1.out).next fe_ (fun k hk=>.inr (by omega))
    have hSe:StIn we (fun k=>w.heap.size+1<k) fo' fe' it' se' ts' y:=(HS1.out.mono (G':=fun k=>w.heap.size+1<k) fun k hk=>by rcases hk with hk | hk;exact hk;have h1:=hbB;have h2:wr.heap.size≤wr.drew.heap.size:=(fR wr).drew.size;first | omega | (simp at hk;omega)).frm fe_ fun k hk e=>by omega
    have hze:Blk we w.heap.size 30 #[.int .i64 0,.slice none 0 0,.slice none 0 0,.slice none 0 0,.slice none 0 0,.int .i64 0,.int .i64 0,.int .i64 0,.int .i64 0]:=(HZb.out.frm Z1.out id).frm fe_ (by simp);have H9:=h_ (And.intro hbe (And.intro hSe (And.intro hze hFe)));clear hwe hbe fe_ hFe hSe hze hb1;go_wp2;go_roundw
    case rel=>exact⟨k+1,fo',fe',it',se',ts',y,by omega,by go_num,HY.out,H9.out⟩
    case measure=>simp[intOf];omega
  ·obtain rfl:k=n:=by omega
   have HTk:Hid (x=foldE st0 l):=by unfold Hid;rw[HX.out,List.take_of_length_le (by rw[HL.out];exact Nat.le_refl _)]
   obtain⟨x0,x1,x2,x3,x4,x5,x6,x7,x8⟩:=blk9 HB.out;obtain⟨y0,y1,y2,y3,y4,y5,y6,y7,y8⟩:=blk9 HZb.out;have g0:=HZb.out.frozen 0;have g1:=HZb.out.frozen 1;have g2:=HZb.out.frozen 2;have g3:=HZb.out.frozen 3;have g4:=HZb.out.frozen 4;have g5:=HZb.out.frozen 5;have g6:=HZb.out.frozen 6;have g7:=HZb.out.frozen 7;have g8:=HZb.out.frozen 8;go_wp2;simp only[peel,bodyOf,Tryz.f20];go_wp2;obtain⟨we,hwe⟩:∃ we,we=wr.setCells w.heap.size 0 [.int .i64 x.clock,.slice fo.1 x.fols.length fo.2,.slice fe.1 x.fees.length fe.2,.slice it.1 x.itms.length it.2,.slice se.1 x.seas.length se.2,.int .i64 x.tFol,.int .i64 x.tFee,.int .i64 x.tItm,.int .i64 x.tSea]:=⟨_,rfl⟩
   have hbe:Blk we w.heap.size 30 #[.int .i64 x.clock,.slice fo.1 x.fols.length fo.2,.slice fe.1 x.fees.length fe.2,.slice it.1 x.itms.length it.2,.slice se.1 x.seas.length se.2,.int .i64 x.tFol,.int .i64 x.tFee,.int .i64 x.tItm,.int .i64 x.tSea]:=by
    have:=Blk.putL [.int .i64 x.clock,.slice fo.1 x.fols.length fo.2,.slice fe.1 x.fees.length fe.2,.slice it.1 x.itms.length it.2,.slice se.1 x.seas.length se.2,.int .i64 x.tFol,.int .i64 x.tFee,.int .i64 x.tItm,.int .i64 x.tSea] 0 HZb.out;rw[putL9] at this;rw[hwe];exact this
   have fe_:Frm (fun k=>k=w.heap.size) wr we:=by rw[hwe];exact Frm.setCells _ 0 (Frm.refl _ _) (.inl rfl)
   have HFe:Hid (Frm Nix w we):=HF.out.next fe_ (fun k hk=>.inr (by omega))
   have HBe:=h_ hbe;have HSe:Hid (StIn we (fun k=>w.heap.size≤k) fo fe it se ts x):=(HS.out.frm fe_ fun k hk e=>by omega).mono fun k hk=>by omega
   simp only[World.setCells] at hwe;rw[← hwe];refine bodyPost_ret (rfold_ret HBe.out rfl) rfl ?_;rw[← HTk.out];exact⟨fo,fe,it,se,ts,rfl,HSe.out,HFe.out⟩
theorem Folder_nret{W:World}{g:Nat}{tmps:Array Value}{a0 a1 a2 b:Value}(hb:Blk W g 49 #[a0,a1,a2])(h2:tmps.getD 4 undef=.pointer (some ⟨g,0,none⟩))(h3:tmps.getD 5 undef=b):
  (results Tryz.f30 tmps).run Tryz.prog W=.ok (.tuple #[.agg #[a0,a1,a2],b]) W:=by
 have c0:=hb.cell 0;have c1:=hb.cell 1;have c2:=hb.cell 2;simp at c0 c1 c2;have h2':tmps[4]?.getD undef=.pointer (some ⟨g,0,none⟩):=by simpa using h2
 have h3':tmps[5]?.getD undef=b:=by simpa using h3
 simp[results,Tryz.results30,h2',h3',go_sem,c0,c1,c2]
theorem Feed_nret{W:World}{g:Nat}{tmps:Array Value}{a0 a1 a2 a3 b:Value}(hb:Blk W g 51 #[a0,a1,a2,a3])(h2:tmps.getD 4 undef=.pointer (some ⟨g,0,none⟩))(h3:tmps.getD 5 undef=b):
  (results Tryz.f31 tmps).run Tryz.prog W=.ok (.tuple #[.agg #[a0,a1,a2,a3],b]) W:=by
 have c0:=hb.cell 0;have c1:=hb.cell 1;have c2:=hb.cell 2;have c3:=hb.cell 3;simp at c0 c1 c2 c3;have h2':tmps[4]?.getD undef=.pointer (some ⟨g,0,none⟩):=by simpa using h2
 have h3':tmps[5]?.getD undef=b:=by simpa using h3
 simp[results,Tryz.results31,h2',h3',go_sem,c0,c1,c2,c3]
theorem Search_nret{W:World}{g:Nat}{tmps:Array Value}{a0 a1 a2 b:Value}(hb:Blk W g 56 #[a0,a1,a2])(h2:tmps.getD 4 undef=.pointer (some ⟨g,0,none⟩))(h3:tmps.getD 5 undef=b):
  (results Tryz.f33 tmps).run Tryz.prog W=.ok (.tuple #[.agg #[a0,a1,a2],b]) W:=by
 have c0:=hb.cell 0;have c1:=hb.cell 1;have c2:=hb.cell 2;simp at c0 c1 c2;have h2':tmps[4]?.getD undef=.pointer (some ⟨g,0,none⟩):=by simpa using h2
 have h3':tmps[5]?.getD undef=b:=by simpa using h3
 simp[results,Tryz.results33,h2',h3',go_sem,c0,c1,c2]
theorem FolderS_any{w:World}{g:Nat}{M:Ms}{x:St}(h:StAt w g M x){i:Int}(hi:I64 i):
  Calls Tryz.prog 30 #[.pointer (some ⟨g,0,none⟩),.int .i64 i] w fun e w'=>e=.returned (.tuple #[.agg #[.int .i64 (folAt x i).id,.int .i64 (folAt x i).inn,.string (folAt x i).name],.bool (isI Fol.id i x.fols)])∧Frm Nix w w':=by
 obtain⟨w0,hw0⟩:∃ w0,w0=w.alloc (.cells #[.int .i64 0,.int .i64 0,.string ⟨#[]⟩] 49):=⟨_,rfl⟩;have f0:Frm Nix w w0:=by rw[hw0];exact(fR w).alloc _
 have hz0:Blk w0 w.heap.size 49 #[.int .i64 0,.int .i64 0,.string ⟨#[]⟩]:=by rw[hw0];exact Blk.new w _ _
 have h0:=h.nix f0;obtain⟨c0,c1,c2,c3,c4,c5,c6,c7,c8,-⟩:=h0.cells;have hl2:=h0.folLook2 hi;generalize folAt x i=t at *;generalize isI Fol.id i x.fols=bb at *;obtain⟨w1,hw1⟩:∃ w1,w1=w0.alloc (.cells #[.int .i64 t.id,.int .i64 t.inn,.string t.name] 49):=⟨_,rfl⟩;have f1:Frm Nix w0 w1:=by rw[hw1];exact(fR w0).alloc _
 have hz1:=hz0.frm f1 id;have hb1:Blk w1 w0.heap.size 49 #[.int .i64 t.id,.int .i64 t.inn,.string t.name]:=by rw[hw1];exact Blk.new w0 _ _
 have q0:=hb1.cell 0;have q1:=hb1.cell 1;have q2:=hb1.cell 2;have g0:=hz1.frozen 0;have g1:=hz1.frozen 1;have g2:=hz1.frozen 2;simp at q0 q1 q2;have HW0:=h_ hw0;have HW1:=h_ hw1;have HZ:=h_ hz1;have HF:=h_ (f0.trans f1);clear h h0 f0 f1 hz0 hz1 hb1;rw[hw0] at c0 c1 c2 c3 c4 c5 c6 c7 c8 hl2;rw[hw1,hw0] at q0 q1 q2 g0 g1 g2;clear hw0 hw1;go_enter Tryz.func30,Tryz.ntmps30;go_wp2;refine bodyPost_ret (Folder_nret ((Blk.new w 49 #[.int .i64 t.id,.int .i64 t.inn,.string t.name]).frm ((fR _).alloc _) id) rfl rfl) rfl ?_;exact⟨rfl,((fR w).alloc _).alloc _⟩
theorem FeedS_any{w:World}{g:Nat}{M:Ms}{x:St}(h:StAt w g M x){i:Int}(hi:I64 i):
  Calls Tryz.prog 31 #[.pointer (some ⟨g,0,none⟩),.int .i64 i] w fun e w'=>e=.returned (.tuple #[.agg #[.int .i64 (feeAt x i).id,.int .i64 (feeAt x i).inn,.string (feeAt x i).url,.string (feeAt x i).title],.bool (isI Fee.id i x.fees)])∧Frm Nix w w':=by
 obtain⟨w0,hw0⟩:∃ w0,w0=w.alloc (.cells #[.int .i64 0,.int .i64 0,.string ⟨#[]⟩,.string ⟨#[]⟩] 51):=⟨_,rfl⟩;have f0:Frm Nix w w0:=by rw[hw0];exact(fR w).alloc _
 have hz0:Blk w0 w.heap.size 51 #[.int .i64 0,.int .i64 0,.string ⟨#[]⟩,.string ⟨#[]⟩]:=by rw[hw0];exact Blk.new w _ _
 have h0:=h.nix f0;obtain⟨c0,c1,c2,c3,c4,c5,c6,c7,c8,-⟩:=h0.cells;have hl2:=h0.feeLook2 hi;generalize feeAt x i=t at *;generalize isI Fee.id i x.fees=bb at *;obtain⟨w1,hw1⟩:∃ w1,w1=w0.alloc (.cells #[.int .i64 t.id,.int .i64 t.inn,.string t.url,.string t.title] 51):=⟨_,rfl⟩;have f1:Frm Nix w0 w1:=by rw[hw1];exact(fR w0).alloc _
 have hz1:=hz0.frm f1 id;have hb1:Blk w1 w0.heap.size 51 #[.int .i64 t.id,.int .i64 t.inn,.string t.url,.string t.title]:=by rw[hw1];exact Blk.new w0 _ _
 have q0:=hb1.cell 0;have q1:=hb1.cell 1;have q2:=hb1.cell 2;have q3:=hb1.cell 3;have g0:=hz1.frozen 0;have g1:=hz1.frozen 1;have g2:=hz1.frozen 2;have g3:=hz1.frozen 3;simp at q0 q1 q2 q3;have HW0:=h_ hw0;have HW1:=h_ hw1;have HZ:=h_ hz1;have HF:=h_ (f0.trans f1);clear h h0 f0 f1 hz0 hz1 hb1;rw[hw0] at c0 c1 c2 c3 c4 c5 c6 c7 c8 hl2;rw[hw1,hw0] at q0 q1 q2 q3 g0 g1 g2 g3;clear hw0 hw1;go_enter Tryz.func31,Tryz.ntmps31;go_wp2;refine bodyPost_ret (Feed_nret ((Blk.new w 51 #[.int .i64 t.id,.int .i64 t.inn,.string t.url,.string t.title]).frm ((fR _).alloc _) id) rfl rfl) rfl ?_;exact⟨rfl,((fR w).alloc _).alloc _⟩
theorem SearchS_any{w:World}{g:Nat}{M:Ms}{x:St}(h:StAt w g M x){i:Int}(hi:I64 i):
  Calls Tryz.prog 33 #[.pointer (some ⟨g,0,none⟩),.int .i64 i] w fun e w'=>e=.returned (.tuple #[.agg #[.int .i64 (seaAt x i).id,.string (seaAt x i).name,.string (seaAt x i).query],.bool (isI Sea.id i x.seas)])∧Frm Nix w w':=by
 obtain⟨w0,hw0⟩:∃ w0,w0=w.alloc (.cells #[.int .i64 0,.string ⟨#[]⟩,.string ⟨#[]⟩] 56):=⟨_,rfl⟩;have f0:Frm Nix w w0:=by rw[hw0];exact(fR w).alloc _
 have hz0:Blk w0 w.heap.size 56 #[.int .i64 0,.string ⟨#[]⟩,.string ⟨#[]⟩]:=by rw[hw0];exact Blk.new w _ _
 have h0:=h.nix f0;obtain⟨c0,c1,c2,c3,c4,c5,c6,c7,c8,-⟩:=h0.cells;have hl2:=h0.seaLook2 hi;generalize seaAt x i=t at *;generalize isI Sea.id i x.seas=bb at *;obtain⟨w1,hw1⟩:∃ w1,w1=w0.alloc (.cells #[.int .i64 t.id,.string t.name,.string t.query] 56):=⟨_,rfl⟩;have f1:Frm Nix w0 w1:=by rw[hw1];exact(fR w0).alloc _
 have hz1:=hz0.frm f1 id;have hb1:Blk w1 w0.heap.size 56 #[.int .i64 t.id,.string t.name,.string t.query]:=by rw[hw1];exact Blk.new w0 _ _
 have q0:=hb1.cell 0;have q1:=hb1.cell 1;have q2:=hb1.cell 2;have g0:=hz1.frozen 0;have g1:=hz1.frozen 1;have g2:=hz1.frozen 2;simp at q0 q1 q2;have HW0:=h_ hw0;have HW1:=h_ hw1;have HZ:=h_ hz1;have HF:=h_ (f0.trans f1);clear h h0 f0 f1 hz0 hz1 hb1;rw[hw0] at c0 c1 c2 c3 c4 c5 c6 c7 c8 hl2;rw[hw1,hw0] at q0 q1 q2 g0 g1 g2;clear hw0 hw1;go_enter Tryz.func33,Tryz.ntmps33;go_wp2;refine bodyPost_ret (Search_nret ((Blk.new w 56 #[.int .i64 t.id,.string t.name,.string t.query]).frm ((fR _).alloc _) id) rfl rfl) rfl ?_;exact⟨rfl,((fR w).alloc _).alloc _⟩
theorem Clock_any{w:World}{g:Nat}{M:Ms}{x:St}(h:StAt w g M x):Calls Tryz.prog 21 #[.pointer (some ⟨g,0,none⟩)] w fun e w'=>e=.returned (.int .i64 x.clock)∧w=w':=by
 obtain⟨c0,-⟩:=h.cells;clear h;go_enter Tryz.func21,Tryz.ntmps21;go_wp2;go_ret;exact⟨rfl,rfl⟩
def topS(x:St)(k:Int):Int:=if k=1 then x.tFol else if k=3 then x.tFee else if k=7 then x.tItm else if k=11 then x.tSea else 0
theorem Top_any{w:World}{g:Nat}{M:Ms}{x:St}(h:StAt w g M x)(k:Int):Calls Tryz.prog 24 #[.pointer (some ⟨g,0,none⟩),.int .i64 k] w fun e w'=>e=.returned (.int .i64 (topS x k))∧w=w':=by
 obtain⟨c0,c1,c2,c3,c4,c5,c6,c7,c8,c9,c10,c11,c12⟩:=h.cells;have HT:Hid (topS x k=if k=1 then x.tFol else if k=3 then x.tFee else if k=7 then x.tItm else if k=11 then x.tSea else 0):=rfl;clear h
 by_cases h1:k=1
 ·rw[if_pos h1] at HT
  subst h1;go_enter Tryz.func24,Tryz.ntmps24;go_wp2;go_ret;exact⟨by rw[HT.out]<;>rfl,rfl⟩
 rw[if_neg h1] at HT
 by_cases h2:k=3
 ·rw[if_pos h2] at HT
  subst h2;go_enter Tryz.func24,Tryz.ntmps24;go_wp2;go_ret;exact⟨by rw[HT.out]<;>rfl,rfl⟩
 rw[if_neg h2] at HT
 by_cases h3:k=7
 ·rw[if_pos h3] at HT
  subst h3;go_enter Tryz.func24,Tryz.ntmps24;go_wp2;go_ret;exact⟨by rw[HT.out]<;>rfl,rfl⟩
 rw[if_neg h3] at HT
 by_cases h4:k=11
 ·rw[if_pos h4] at HT
  subst h4;go_enter Tryz.func24,Tryz.ntmps24;go_wp2;go_ret;exact⟨by rw[HT.out]<;>rfl,rfl⟩
 rw[if_neg h4] at HT;go_enter Tryz.func24,Tryz.ntmps24;go_wp2;go_ret;exact⟨by rw[HT.out]<;>rfl,rfl⟩
theorem rTop_any(w:World)(fo fe it se:Sl)(x:St)(k:Int):Calls Tryz.prog 25 #[stV fo fe it se x,.int .i64 k] w fun e w'=>e=.returned (.int .i64 (topS x k))∧Frm Nix w w':=by
 obtain⟨w0,hw0,hf0,hb0⟩:=box_st w fo fe it se x;obtain⟨x0,x1,x2,x3,x4,x5,x6,x7,x8⟩:=blk9 hb0;have HT:Hid (topS x k=if k=1 then x.tFol else if k=3 then x.tFee else if k=7 then x.tItm else if k=11 then x.tSea else 0):=rfl;have HF0:=h_ hf0;rw[hw0] at x5 x6 x7 x8;clear hb0 x0 x1 x2 x3 x4;have HW:=h_ hw0;clear hw0 hf0;unfold stV
 by_cases h0:k=1
 ·rw[if_pos h0] at HT
  subst h0;go_enter Tryz.func25,Tryz.ntmps25;go_wp2;rw[← HW.out];go_ret;exact⟨by rw[HT.out]<;>rfl,HF0.out⟩
 rw[if_neg h0] at HT
 by_cases h1:k=3
 ·rw[if_pos h1] at HT
  subst h1;go_enter Tryz.func25,Tryz.ntmps25;go_wp2;rw[← HW.out];go_ret;exact⟨by rw[HT.out]<;>rfl,HF0.out⟩
 rw[if_neg h1] at HT
 by_cases h2:k=7
 ·rw[if_pos h2] at HT
  subst h2;go_enter Tryz.func25,Tryz.ntmps25;go_wp2;rw[← HW.out];go_ret;exact⟨by rw[HT.out]<;>rfl,HF0.out⟩
 rw[if_neg h2] at HT
 by_cases h3:k=11
 ·rw[if_pos h3] at HT
  subst h3;go_enter Tryz.func25,Tryz.ntmps25;go_wp2;rw[← HW.out];go_ret;exact⟨by rw[HT.out]<;>rfl,HF0.out⟩
 rw[if_neg h3] at HT;go_enter Tryz.func25,Tryz.ntmps25;go_wp2;rw[← HW.out];go_ret;exact⟨by rw[HT.out]<;>rfl,HF0.out⟩
theorem asksJ7{Q:Exit→Act→World→Prop}{wa:World}{gx ga:Nat}{x:St}{fo fe it se:Sl}{ts:List (Sl×Itm)}{G:Nat→Prop}{id p:Int}(hp:p=posR Fol.id id x.fols)(hx:Blk wa gx 30 #[.int .i64 x.clock,.slice fo.1 x.fols.length fo.2,.slice fe.1 x.fees.length fe.2,.slice it.1 x.itms.length it.2,.slice se.1 x.seas.length se.2,.int .i64 x.tFol,.int .i64 x.tFee,.int .i64 x.tItm,.int .i64 x.tSea])(hS:StIn wa G fo fe it se ts x)(hn:x.fols.length≤1000000)(ha:Blk wa ga 49 #[.int .i64 0,.int .i64 0,.string ⟨#[]⟩])
  {u0 u1 u2 u3 u4 u5 u6 u7 u8 u9 u12 u13 u14 u16 u17 u18 u19 u20 u21 u22 u23 u24 u25 u26 u27 u28 u29 u30 u31 u32 u33 u34 u35 u36 u37 u38 u39 u40 u41 u42 u43 u44 u45 u46 u47 u48 u49 u50 u51 u52 u53 u54 u55 u56 u57 u58 u59 u60 u61 u62 u63 u64 u65 u66 u67 u68 u69 u70 u71 u72 u73 u74 u75 u76 u77 u78 u79 u80 u81 u82 u83 u84 u85 u86 u87 u88 u89 u90 u91 u92 u93 u94 u95 u96 u97 u98 u99 u100 u101 u102 u103 u104 u105 u106 u107 u108 u109 u110 u111 u112 u113 u114 u115 u116 u117 u118 u119 u120 u121 u122 u123 u124 u125 u126 u127 u128 u129 u130 u131 u132 u133 u134 u135 u136 u137 u138 u139 u140 u141 u142 u143 u144 u145 u146 u147 u148 u149 u150 u151 u152 u153 u154 u155 u156 u157 u158 u159 u160 u161 u162 u163 u164 u165 u166 u167 u168 u169 u170 u171 u172 u173 u174 u175 u176 u177 u178 u179 u180 u181 u182 u183 u184 u185 u186 u187 u188 u189 u190 u191 u192 u193 u194 u195 u196 u197 u198 u199 u200 u201 u202 u203 u204 u205 u206 u207 u208 u209 u210 u211 u212 u213 u214 u215 u216 u217 u218 u219 u220 u221 u222 u223 u224 u225 u226 u227:Value} (hQ:∀ (w':World) (z95 z96 z97 z98 z99 z100 z101:Value),Blk w' ga 49 #[.int .i64 (folAt x id).id,.int .i64 (folAt x id).inn,.string (folAt x id).name]→Frm (fun k=>k=ga) wa w'→Q .normal ⟨#[u0,u1,u2,u3,u4,u5,u6,u7,u8,u9,.pointer (some ⟨gx,0,none⟩),.pointer (some ⟨ga,0,none⟩),u12,u13,u14,.int .i64 p,u16,u17,u18,u19,u20,u21,u22,u23,u24,u25,u26,u27,u28,u29,u30,u31,u32,u33,u34,u35,u36,u37,u38,u39,u40,u41,u42,u43,u44,u45,u46,u47,u48,u49,u50,u51,u52,u53,u54,u55,u56,u57,u58,u59,u60,u61,u62,u63,u64,u65,u66,u67,u68,u69,u70,u71,u72,u73,u74,u75,u76,u77,u78,u79,u80,u81,u82,u83,u84,u85,u86,u87,u88,u89,u90,u91,u92,u93,u94,z95,z96,z97,z98,z99,z100,z101,u102,u103,u104,u105,u106,u107,u108,u109,u110,u111,u112,u113,u114,u115,u116,u117,u118,u119,u120,u121,u122,u123,u124,u125,u126,u127,u128,u129,u130,u131,u132,u133,u134,u135,u136,u137,u138,u139,u140,u141,u142,u143,u144,u145,u146,u147,u148,u149,u150,u151,u152,u153,u154,u155,u156,u157,u158,u159,u160,u161,u162,u163,u164,u165,u166,u167,u168,u169,u170,u171,u172,u173,u174,u175,u176,u177,u178,u179,u180,u181,u182,u183,u184,u185,u186,u187,u188,u189,u190,u191,u192,u193,u194,u195,u196,u197,u198,u199,u200,u201,u202,u203,u204,u205,u206,u207,u208,u209,u210,u211,u212,u213,u214,u215,u216,u217,u218,u219,u220,u221,u222,u223,u224,u225,u226,u227],[]⟩ w'):
  Code.wp Tryz.prog (hdC (peel 7 (bodyOf Tryz.f6))) Q ⟨#[u0,u1,u2,u3,u4,u5,u6,u7,u8,u9,.pointer (some ⟨gx,0,none⟩),.pointer (some ⟨ga,0,none⟩),u12,u13,u14,.int .i64 p,u16,u17,u18,u19,u20,u21,u22,u23,u24,u25,u26,u27,u28,u29,u30,u31,u32,u33,u34,u35,u36,u37,u38,u39,u40,u41,u42,u43,u44,u45,u46,u47,u48,u49,u50,u51,u52,u53,u54,u55,u56,u57,u58,u59,u60,u61,u62,u63,u64,u65,u66,u67,u68,u69,u70,u71,u72,u73,u74,u75,u76,u77,u78,u79,u80,u81,u82,u83,u84,u85,u86,u87,u88,u89,u90,u91,u92,u93,u94,u95,u96,u97,u98,u99,u100,u101,u102,u103,u104,u105,u106,u107,u108,u109,u110,u111,u112,u113,u114,u115,u116,u117,u118,u119,u120,u121,u122,u123,u124,u125,u126,u127,u128,u129,u130,u131,u132,u133,u134,u135,u136,u137,u138,u139,u140,u141,u142,u143,u144,u145,u146,u147,u148,u149,u150,u151,u152,u153,u154,u155,u156,u157,u158,u159,u160,u161,u162,u163,u164,u165,u166,u167,u168,u169,u170,u171,u172,u173,u174,u175,u176,u177,u178,u179,u180,u181,u182,u183,u184,u185,u186,u187,u188,u189,u190,u191,u192,u193,u194,u195,u196,u197,u198,u199,u200,u201,u202,u203,u204,u205,u206,u207,u208,u209,u210,u211,u212,u213,u214,u215,u216,u217,u218,u219,u220,u221,u222,u223,u224,u225,u226,u227],[]⟩ wa:=by
 obtain⟨x0,x1,x2,x3,x4,x5,x6,x7,x8⟩:=blk9 hx;have a0:=(ha.cell 0).trans rfl;have g0:=ha.frozen 0;have a1:=(ha.cell 1).trans rfl;have g1:=ha.frozen 1;have a2:=(ha.cell 2).trans rfl;have g2:=ha.frozen 2;have HX:=h_ hx;have HA:=h_ ha;have HQ:=h_ hQ;have HS:=h_ hS;clear hx ha hQ
 cases hi:isI Fol.id id x.fols with
 | false=>
   have hD:Hid (folAt x id=folD):=by
    have h0:=atI_isI (g:=Fol.id) (id:=id) (l:=x.fols);unfold Hid folAt
    cases h1:atI Fol.id id x.fols with
    | none=>rfl
    | some _=>rw[h1,hi] at h0;simp at h0
   have hp':p= -1:=hp.trans (posR_end hi);subst hp';clear hp;clear hi hS;simp only[hdC,peel,bodyOf,Tryz.f6];go_wp2
   exact HQ.out _ _ _ _ _ _ _ _ (by rw[hD.out];exact HA.out) (Frm.refl _ _)
 | true=>
   obtain⟨k,hk,hpos,-,hat,-⟩:=posR_at hi
   have hD:x.fols[k]=folAt x id:=by
    unfold folAt;rw[hat];rfl
   have hp':p=(k:Int):=hp.trans hpos;subst hp';clear hp;obtain⟨A,cA⟩:=fo;obtain⟨b,off,hA,-,hbl,hcell⟩:=hS.fols.at_ Fol.clen (by decide) (by omega);dsimp only at hA;subst hA;obtain⟨p0,p1,p2⟩:=Folcs (w:=wa) (b:=b) (off:=off+k * 3) (e:=x.fols[k]) (hcell k hk);rw[hD] at p0 p1 p2;clear hcell hi hpos hat hD hS;dsimp only at x1 x2 x3 x4;obtain⟨q,hq⟩:∃ q,folAt x id=q:=⟨_,rfl⟩;rw[hq] at HQ p0 p1 p2;clear hq;simp only[hdC,peel,bodyOf,Tryz.f6];go_wp2;obtain⟨we,hwe⟩:∃ we,we=wa.setCells ga 0 [.int .i64 q.id,.int .i64 q.inn,.string q.name]:=⟨_,rfl⟩
   have hbe:Blk we ga 49 #[.int .i64 q.id,.int .i64 q.inn,.string q.name]:=by
    have:=Blk.putL [.int .i64 q.id,.int .i64 q.inn,.string q.name] 0 HA.out;rw[hwe];exact this
   have fe_:Frm (fun k=>k=ga) wa we:=by rw[hwe];exact Frm.setCells _ 0 (Frm.refl _ _) (.inl rfl)
   simp only[World.setCells] at hwe;rw[← hwe];exact HQ.out _ _ _ _ _ _ _ _ hbe fe_
theorem asksJ8{Q:Exit→Act→World→Prop}{wa:World}{gx ga:Nat}{x:St}{fo fe it se:Sl}{ts:List (Sl×Itm)}{G:Nat→Prop}{id p:Int}(hp:p=posR Fee.id id x.fees)(hx:Blk wa gx 30 #[.int .i64 x.clock,.slice fo.1 x.fols.length fo.2,.slice fe.1 x.fees.length fe.2,.slice it.1 x.itms.length it.2,.slice se.1 x.seas.length se.2,.int .i64 x.tFol,.int .i64 x.tFee,.int .i64 x.tItm,.int .i64 x.tSea])(hS:StIn wa G fo fe it se ts x)(hn:x.fees.length≤1000000)(ha:Blk wa ga 51 #[.int .i64 0,.int .i64 0,.string ⟨#[]⟩,.string ⟨#[]⟩])
  {u0 u1 u2 u3 u4 u5 u6 u7 u8 u9 u11 u13 u14 u15 u17 u18 u19 u20 u21 u22 u23 u24 u25 u26 u27 u28 u29 u30 u31 u32 u33 u34 u35 u36 u37 u38 u39 u40 u41 u42 u43 u44 u45 u46 u47 u48 u49 u50 u51 u52 u53 u54 u55 u56 u57 u58 u59 u60 u61 u62 u63 u64 u65 u66 u67 u68 u69 u70 u71 u72 u73 u74 u75 u76 u77 u78 u79 u80 u81 u82 u83 u84 u85 u86 u87 u88 u89 u90 u91 u92 u93 u94 u95 u96 u97 u98 u99 u100 u101 u102 u103 u104 u105 u106 u107 u108 u109 u110 u111 u112 u113 u114 u115 u116 u117 u118 u119 u120 u121 u122 u123 u124 u125 u126 u127 u128 u129 u130 u131 u132 u133 u134 u135 u136 u137 u138 u139 u140 u141 u142 u143 u144 u145 u146 u147 u148 u149 u150 u151 u152 u153 u154 u155 u156 u157 u158 u159 u160 u161 u162 u163 u164 u165 u166 u167 u168 u169 u170 u171 u172 u173 u174 u175 u176 u177 u178 u179 u180 u181 u182 u183 u184 u185 u186 u187 u188 u189 u190 u191 u192 u193 u194 u195 u196 u197 u198 u199 u200 u201 u202 u203 u204 u205 u206 u207 u208 u209 u210 u211 u212 u213 u214 u215 u216 u217 u218 u219 u220 u221 u222 u223 u224 u225 u226 u227:Value} (hQ:∀ (w':World) (z102 z103 z104 z105 z106 z107 z108:Value),Blk w' ga 51 #[.int .i64 (feeAt x id).id,.int .i64 (feeAt x id).inn,.string (feeAt x id).url,.string (feeAt x id).title]→Frm (fun k=>k=ga) wa w'→Q .normal ⟨#[u0,u1,u2,u3,u4,u5,u6,u7,u8,u9,.pointer (some ⟨gx,0,none⟩),u11,.pointer (some ⟨ga,0,none⟩),u13,u14,u15,.int .i64 p,u17,u18,u19,u20,u21,u22,u23,u24,u25,u26,u27,u28,u29,u30,u31,u32,u33,u34,u35,u36,u37,u38,u39,u40,u41,u42,u43,u44,u45,u46,u47,u48,u49,u50,u51,u52,u53,u54,u55,u56,u57,u58,u59,u60,u61,u62,u63,u64,u65,u66,u67,u68,u69,u70,u71,u72,u73,u74,u75,u76,u77,u78,u79,u80,u81,u82,u83,u84,u85,u86,u87,u88,u89,u90,u91,u92,u93,u94,u95,u96,u97,u98,u99,u100,u101,z102,z103,z104,z105,z106,z107,z108,u109,u110,u111,u112,u113,u114,u115,u116,u117,u118,u119,u120,u121,u122,u123,u124,u125,u126,u127,u128,u129,u130,u131,u132,u133,u134,u135,u136,u137,u138,u139,u140,u141,u142,u143,u144,u145,u146,u147,u148,u149,u150,u151,u152,u153,u154,u155,u156,u157,u158,u159,u160,u161,u162,u163,u164,u165,u166,u167,u168,u169,u170,u171,u172,u173,u174,u175,u176,u177,u178,u179,u180,u181,u182,u183,u184,u185,u186,u187,u188,u189,u190,u191,u192,u193,u194,u195,u196,u197,u198,u199,u200,u201,u202,u203,u204,u205,u206,u207,u208,u209,u210,u211,u212,u213,u214,u215,u216,u217,u218,u219,u220,u221,u222,u223,u224,u225,u226,u227],[]⟩ w'):
  Code.wp Tryz.prog (hdC (peel 8 (bodyOf Tryz.f6))) Q ⟨#[u0,u1,u2,u3,u4,u5,u6,u7,u8,u9,.pointer (some ⟨gx,0,none⟩),u11,.pointer (some ⟨ga,0,none⟩),u13,u14,u15,.int .i64 p,u17,u18,u19,u20,u21,u22,u23,u24,u25,u26,u27,u28,u29,u30,u31,u32,u33,u34,u35,u36,u37,u38,u39,u40,u41,u42,u43,u44,u45,u46,u47,u48,u49,u50,u51,u52,u53,u54,u55,u56,u57,u58,u59,u60,u61,u62,u63,u64,u65,u66,u67,u68,u69,u70,u71,u72,u73,u74,u75,u76,u77,u78,u79,u80,u81,u82,u83,u84,u85,u86,u87,u88,u89,u90,u91,u92,u93,u94,u95,u96,u97,u98,u99,u100,u101,u102,u103,u104,u105,u106,u107,u108,u109,u110,u111,u112,u113,u114,u115,u116,u117,u118,u119,u120,u121,u122,u123,u124,u125,u126,u127,u128,u129,u130,u131,u132,u133,u134,u135,u136,u137,u138,u139,u140,u141,u142,u143,u144,u145,u146,u147,u148,u149,u150,u151,u152,u153,u154,u155,u156,u157,u158,u159,u160,u161,u162,u163,u164,u165,u166,u167,u168,u169,u170,u171,u172,u173,u174,u175,u176,u177,u178,u179,u180,u181,u182,u183,u184,u185,u186,u187,u188,u189,u190,u191,u192,u193,u194,u195,u196,u197,u198,u199,u200,u201,u202,u203,u204,u205,u206,u207,u208,u209,u210,u211,u212,u213,u214,u215,u216,u217,u218,u219,u220,u221,u222,u223,u224,u225,u226,u227],[]⟩ wa:=by
 obtain⟨x0,x1,x2,x3,x4,x5,x6,x7,x8⟩:=blk9 hx;have a0:=(ha.cell 0).trans rfl;have g0:=ha.frozen 0;have a1:=(ha.cell 1).trans rfl;have g1:=ha.frozen 1;have a2:=(ha.cell 2).trans rfl;have g2:=ha.frozen 2;have a3:=(ha.cell 3).trans rfl;have g3:=ha.frozen 3;have HX:=h_ hx;have HA:=h_ ha;have HQ:=h_ hQ;have HS:=h_ hS;clear hx ha hQ
 cases hi:isI Fee.id id x.fees with
 | false=>
   have hD:Hid (feeAt x id=feeD):=by
    have h0:=atI_isI (g:=Fee.id) (id:=id) (l:=x.fees);unfold Hid feeAt
    cases h1:atI Fee.id id x.fees with
    | none=>rfl
    | some _=>rw[h1,hi] at h0;simp at h0
   have hp':p= -1:=hp.trans (posR_end hi);subst hp';clear hp;clear hi hS;simp only[hdC,peel,bodyOf,Tryz.f6];go_wp2
   exact HQ.out _ _ _ _ _ _ _ _ (by rw[hD.out];exact HA.out) (Frm.refl _ _)
 | true=>
   obtain⟨k,hk,hpos,-,hat,-⟩:=posR_at hi
   have hD:x.fees[k]=feeAt x id:=by
    unfold feeAt;rw[hat];rfl
   have hp':p=(k:Int):=hp.trans hpos;subst hp';clear hp;obtain⟨A,cA⟩:=fe;obtain⟨b,off,hA,-,hbl,hcell⟩:=hS.fees.at_ Fee.clen (by decide) (by omega);dsimp only at hA;subst hA;obtain⟨p0,p1,p2,p3⟩:=Feecs (w:=wa) (b:=b) (off:=off+k * 4) (e:=x.fees[k]) (hcell k hk);rw[hD] at p0 p1 p2 p3;clear hcell hi hpos hat hD hS;dsimp only at x1 x2 x3 x4;obtain⟨q,hq⟩:∃ q,feeAt x id=q:=⟨_,rfl⟩;rw[hq] at HQ p0 p1 p2 p3;clear hq;simp only[hdC,peel,bodyOf,Tryz.f6];go_wp2;obtain⟨we,hwe⟩:∃ we,we=wa.setCells ga 0 [.int .i64 q.id,.int .i64 q.inn,.string q.url,.string q.title]:=⟨_,rfl⟩
   have hbe:Blk we ga 51 #[.int .i64 q.id,.int .i64 q.inn,.string q.url,.string q.title]:=by
    have:=Blk.putL [.int .i64 q.id,.int .i64 q.inn,.string q.url,.string q.title] 0 HA.out;rw[hwe];exact this
   have fe_:Frm (fun k=>k=ga) wa we:=by rw[hwe];exact Frm.setCells _ 0 (Frm.refl _ _) (.inl rfl)
   simp only[World.setCells] at hwe;rw[← hwe];exact HQ.out _ _ _ _ _ _ _ _ hbe fe_
theorem asksJ9{Q:Exit→Act→World→Prop}{wa:World}{gx ga:Nat}{x:St}{fo fe it se:Sl}{ts:List (Sl×Itm)}{G:Nat→Prop}{id p:Int}(hp:p=posR Itm.id id x.itms)(hx:Blk wa gx 30 #[.int .i64 x.clock,.slice fo.1 x.fols.length fo.2,.slice fe.1 x.fees.length fe.2,.slice it.1 x.itms.length it.2,.slice se.1 x.seas.length se.2,.int .i64 x.tFol,.int .i64 x.tFee,.int .i64 x.tItm,.int .i64 x.tSea])(hS:StIn wa G fo fe it se ts x)(hn:x.itms.length≤1000000)(ha:Blk wa ga 54 #[.int .i64 0,.int .i64 0,.int .i64 0,.string ⟨#[]⟩,.string ⟨#[]⟩,.string ⟨#[]⟩,.bool false,.bool false,.slice none 0 0])(hG:¬G ga)
  {u0 u1 u2 u3 u4 u5 u6 u7 u8 u9 u11 u12 u14 u15 u16 u18 u19 u20 u21 u22 u23 u24 u25 u26 u27 u28 u29 u30 u31 u32 u33 u34 u35 u36 u37 u38 u39 u40 u41 u42 u43 u44 u45 u46 u47 u48 u49 u50 u51 u52 u53 u54 u55 u56 u57 u58 u59 u60 u61 u62 u63 u64 u65 u66 u67 u68 u69 u70 u71 u72 u73 u74 u75 u76 u77 u78 u79 u80 u81 u82 u83 u84 u85 u86 u87 u88 u89 u90 u91 u92 u93 u94 u95 u96 u97 u98 u99 u100 u101 u102 u103 u104 u105 u106 u107 u108 u109 u110 u111 u112 u113 u114 u115 u116 u117 u118 u119 u120 u121 u122 u123 u124 u125 u126 u127 u128 u129 u130 u131 u132 u133 u134 u135 u136 u137 u138 u139 u140 u141 u142 u143 u144 u145 u146 u147 u148 u149 u150 u151 u152 u153 u154 u155 u156 u157 u158 u159 u160 u161 u162 u163 u164 u165 u166 u167 u168 u169 u170 u171 u172 u173 u174 u175 u176 u177 u178 u179 u180 u181 u182 u183 u184 u185 u186 u187 u188 u189 u190 u191 u192 u193 u194 u195 u196 u197 u198 u199 u200 u201 u202 u203 u204 u205 u206 u207 u208 u209 u210 u211 u212 u213 u214 u215 u216 u217 u218 u219 u220 u221 u222 u223 u224 u225 u226 u227:Value} (hQ:∀ (w':World) (v':Sl) (z109 z110 z111 z112 z113 z114 z115:Value),Blk w' ga 54 #[.int .i64 (itmAt x id).id,.int .i64 (itmAt x id).feed,.int .i64 (itmAt x id).date,.string (itmAt x id).guid,.string (itmAt x id).title,.string (itmAt x id).link,.bool (itmAt x id).read,.bool (itmAt x id).star,.slice v'.1 (itmAt x id).tags.length v'.2]→SlIn w' G 1 v' (itmAt x id).tags.length ((itmAt x id).tags.map Value.string)→Frm (fun k=>k=ga) wa w'→Q .normal ⟨#[u0,u1,u2,u3,u4,u5,u6,u7,u8,u9,.pointer (some ⟨gx,0,none⟩),u11,u12,.pointer (some ⟨ga,0,none⟩),u14,u15,u16,.int .i64 p,u18,u19,u20,u21,u22,u23,u24,u25,u26,u27,u28,u29,u30,u31,u32,u33,u34,u35,u36,u37,u38,u39,u40,u41,u42,u43,u44,u45,u46,u47,u48,u49,u50,u51,u52,u53,u54,u55,u56,u57,u58,u59,u60,u61,u62,u63,u64,u65,u66,u67,u68,u69,u70,u71,u72,u73,u74,u75,u76,u77,u78,u79,u80,u81,u82,u83,u84,u85,u86,u87,u88,u89,u90,u91,u92,u93,u94,u95,u96,u97,u98,u99,u100,u101,u102,u103,u104,u105,u106,u107,u108,z109,z110,z111,z112,z113,z114,z115,u116,u117,u118,u119,u120,u121,u122,u123,u124,u125,u126,u127,u128,u129,u130,u131,u132,u133,u134,u135,u136,u137,u138,u139,u140,u141,u142,u143,u144,u145,u146,u147,u148,u149,u150,u151,u152,u153,u154,u155,u156,u157,u158,u159,u160,u161,u162,u163,u164,u165,u166,u167,u168,u169,u170,u171,u172,u173,u174,u175,u176,u177,u178,u179,u180,u181,u182,u183,u184,u185,u186,u187,u188,u189,u190,u191,u192,u193,u194,u195,u196,u197,u198,u199,u200,u201,u202,u203,u204,u205,u206,u207,u208,u209,u210,u211,u212,u213,u214,u215,u216,u217,u218,u219,u220,u221,u222,u223,u224,u225,u226,u227],[]⟩ w'):
  Code.wp Tryz.prog (hdC (peel 9 (bodyOf Tryz.f6))) Q ⟨#[u0,u1,u2,u3,u4,u5,u6,u7,u8,u9,.pointer (some ⟨gx,0,none⟩),u11,u12,.pointer (some ⟨ga,0,none⟩),u14,u15,u16,.int .i64 p,u18,u19,u20,u21,u22,u23,u24,u25,u26,u27,u28,u29,u30,u31,u32,u33,u34,u35,u36,u37,u38,u39,u40,u41,u42,u43,u44,u45,u46,u47,u48,u49,u50,u51,u52,u53,u54,u55,u56,u57,u58,u59,u60,u61,u62,u63,u64,u65,u66,u67,u68,u69,u70,u71,u72,u73,u74,u75,u76,u77,u78,u79,u80,u81,u82,u83,u84,u85,u86,u87,u88,u89,u90,u91,u92,u93,u94,u95,u96,u97,u98,u99,u100,u101,u102,u103,u104,u105,u106,u107,u108,u109,u110,u111,u112,u113,u114,u115,u116,u117,u118,u119,u120,u121,u122,u123,u124,u125,u126,u127,u128,u129,u130,u131,u132,u133,u134,u135,u136,u137,u138,u139,u140,u141,u142,u143,u144,u145,u146,u147,u148,u149,u150,u151,u152,u153,u154,u155,u156,u157,u158,u159,u160,u161,u162,u163,u164,u165,u166,u167,u168,u169,u170,u171,u172,u173,u174,u175,u176,u177,u178,u179,u180,u181,u182,u183,u184,u185,u186,u187,u188,u189,u190,u191,u192,u193,u194,u195,u196,u197,u198,u199,u200,u201,u202,u203,u204,u205,u206,u207,u208,u209,u210,u211,u212,u213,u214,u215,u216,u217,u218,u219,u220,u221,u222,u223,u224,u225,u226,u227],[]⟩ wa:=by
 obtain⟨x0,x1,x2,x3,x4,x5,x6,x7,x8⟩:=blk9 hx;have a0:=(ha.cell 0).trans rfl;have g0:=ha.frozen 0;have a1:=(ha.cell 1).trans rfl;have g1:=ha.frozen 1;have a2:=(ha.cell 2).trans rfl;have g2:=ha.frozen 2;have a3:=(ha.cell 3).trans rfl;have g3:=ha.frozen 3;have a4:=(ha.cell 4).trans rfl;have g4:=ha.frozen 4;have a5:=(ha.cell 5).trans rfl;have g5:=ha.frozen 5;have a6:=(ha.cell 6).trans rfl;have g6:=ha.frozen 6;have a7:=(ha.cell 7).trans rfl;have g7:=ha.frozen 7;have a8:=(ha.cell 8).trans rfl;have g8:=ha.frozen 8;have HX:=h_ hx;have HA:=h_ ha;have HQ:=h_ hQ;have HS:=h_ hS;have HG:=h_ hG;clear hx ha hQ hG
 cases hi:isI Itm.id id x.itms with
 | false=>
   have hD:Hid (itmAt x id=itmD):=by
    have h0:=atI_isI (g:=Itm.id) (id:=id) (l:=x.itms);unfold Hid itmAt
    cases h1:atI Itm.id id x.itms with
    | none=>rfl
    | some _=>rw[h1,hi] at h0;simp at h0
   have hp':p= -1:=hp.trans (posR_end hi);subst hp';clear hp;clear hi hS;simp only[hdC,peel,bodyOf,Tryz.f6];go_wp2
   exact HQ.out _ (none,0) _ _ _ _ _ _ _ (by rw[hD.out];exact HA.out) (by rw[hD.out];exact SlIn.none_ _ _ _) (Frm.refl _ _)
 | true=>
   obtain⟨k,hk,hpos,-,hat,-⟩:=posR_at hi
   have hD:x.itms[k]=itmAt x id:=by
    unfold itmAt;rw[hat];rfl
   have hp':p=(k:Int):=hp.trans hpos;subst hp';clear hp;obtain⟨A,cA⟩:=it;obtain⟨hkt,het⟩:=itms_at hS hk;obtain⟨b,off,hA,-,hbl,hcell⟩:=hS.itms.row.at_ itmC_len (by decide) (by omega);dsimp only at hA;subst hA;have hc:=hcell k hkt;have htg:=hS.itms.tags _ (List.getElem_mem hkt);obtain⟨tp,htp⟩:∃ tp,ts[k]=tp:=⟨_,rfl⟩;rw[htp] at hc het htg;obtain⟨p0,p1,p2,p3,p4,p5,p6,p7,p8⟩:=itmcs (w:=wa) (b:=b) (off:=off+k * 9) (p:=tp) hc;rw[het,hD] at p0 p1 p2 p3 p4 p5 p6 p7 p8 htg;obtain⟨v',t'⟩:=tp;dsimp only at htg p8;have HT:=h_ htg;clear hc htp het htg;clear hcell hi hpos hat hD hS;dsimp only at x1 x2 x3 x4;obtain⟨q,hq⟩:∃ q,itmAt x id=q:=⟨_,rfl⟩;rw[hq] at HQ HT p0 p1 p2 p3 p4 p5 p6 p7 p8;clear hq;simp only[hdC,peel,bodyOf,Tryz.f6];go_wp2;obtain⟨we,hwe⟩:∃ we,we=wa.setCells ga 0 [.int .i64 q.id,.int .i64 q.feed,.int .i64 q.date,.string q.guid,.string q.title,.string q.link,.bool q.read,.bool q.star,.slice v'.1 q.tags.length v'.2]:=⟨_,rfl⟩
   have hbe:Blk we ga 54 #[.int .i64 q.id,.int .i64 q.feed,.int .i64 q.date,.string q.guid,.string q.title,.string q.link,.bool q.read,.bool q.star,.slice v'.1 q.tags.length v'.2]:=by
    have:=Blk.putL [.int .i64 q.id,.int .i64 q.feed,.int .i64 q.date,.string q.guid,.string q.title,.string q.link,.bool q.read,.bool q.star,.slice v'.1 q.tags.length v'.2] 0 HA.out;rw[hwe];exact this
   have fe_:Frm (fun k=>k=ga) wa we:=by rw[hwe];exact Frm.setCells _ 0 (Frm.refl _ _) (.inl rfl)
   simp only[World.setCells] at hwe;rw[← hwe];exact HQ.out _ v' _ _ _ _ _ _ _ hbe (HT.out.frm fe_ fun k hk e=>by subst e;exact HG.out hk) fe_
theorem asksJ10{Q:Exit→Act→World→Prop}{wa:World}{gx ga:Nat}{x:St}{fo fe it se:Sl}{ts:List (Sl×Itm)}{G:Nat→Prop}{id p:Int}(hp:p=posR Sea.id id x.seas)(hx:Blk wa gx 30 #[.int .i64 x.clock,.slice fo.1 x.fols.length fo.2,.slice fe.1 x.fees.length fe.2,.slice it.1 x.itms.length it.2,.slice se.1 x.seas.length se.2,.int .i64 x.tFol,.int .i64 x.tFee,.int .i64 x.tItm,.int .i64 x.tSea])(hS:StIn wa G fo fe it se ts x)(hn:x.seas.length≤1000000)(ha:Blk wa ga 56 #[.int .i64 0,.string ⟨#[]⟩,.string ⟨#[]⟩])
  {u0 u1 u2 u3 u4 u5 u6 u7 u8 u9 u11 u12 u13 u15 u16 u17 u19 u20 u21 u22 u23 u24 u25 u26 u27 u28 u29 u30 u31 u32 u33 u34 u35 u36 u37 u38 u39 u40 u41 u42 u43 u44 u45 u46 u47 u48 u49 u50 u51 u52 u53 u54 u55 u56 u57 u58 u59 u60 u61 u62 u63 u64 u65 u66 u67 u68 u69 u70 u71 u72 u73 u74 u75 u76 u77 u78 u79 u80 u81 u82 u83 u84 u85 u86 u87 u88 u89 u90 u91 u92 u93 u94 u95 u96 u97 u98 u99 u100 u101 u102 u103 u104 u105 u106 u107 u108 u109 u110 u111 u112 u113 u114 u115 u116 u117 u118 u119 u120 u121 u122 u123 u124 u125 u126 u127 u128 u129 u130 u131 u132 u133 u134 u135 u136 u137 u138 u139 u140 u141 u142 u143 u144 u145 u146 u147 u148 u149 u150 u151 u152 u153 u154 u155 u156 u157 u158 u159 u160 u161 u162 u163 u164 u165 u166 u167 u168 u169 u170 u171 u172 u173 u174 u175 u176 u177 u178 u179 u180 u181 u182 u183 u184 u185 u186 u187 u188 u189 u190 u191 u192 u193 u194 u195 u196 u197 u198 u199 u200 u201 u202 u203 u204 u205 u206 u207 u208 u209 u210 u211 u212 u213 u214 u215 u216 u217 u218 u219 u220 u221 u222 u223 u224 u225 u226 u227:Value} (hQ:∀ (w':World) (z116 z117 z118 z119 z120 z121 z122:Value),Blk w' ga 56 #[.int .i64 (seaAt x id).id,.string (seaAt x id).name,.string (seaAt x id).query]→Frm (fun k=>k=ga) wa w'→Q .normal ⟨#[u0,u1,u2,u3,u4,u5,u6,u7,u8,u9,.pointer (some ⟨gx,0,none⟩),u11,u12,u13,.pointer (some ⟨ga,0,none⟩),u15,u16,u17,.int .i64 p,u19,u20,u21,u22,u23,u24,u25,u26,u27,u28,u29,u30,u31,u32,u33,u34,u35,u36,u37,u38,u39,u40,u41,u42,u43,u44,u45,u46,u47,u48,u49,u50,u51,u52,u53,u54,u55,u56,u57,u58,u59,u60,u61,u62,u63,u64,u65,u66,u67,u68,u69,u70,u71,u72,u73,u74,u75,u76,u77,u78,u79,u80,u81,u82,u83,u84,u85,u86,u87,u88,u89,u90,u91,u92,u93,u94,u95,u96,u97,u98,u99,u100,u101,u102,u103,u104,u105,u106,u107,u108,u109,u110,u111,u112,u113,u114,u115,z116,z117,z118,z119,z120,z121,z122,u123,u124,u125,u126,u127,u128,u129,u130,u131,u132,u133,u134,u135,u136,u137,u138,u139,u140,u141,u142,u143,u144,u145,u146,u147,u148,u149,u150,u151,u152,u153,u154,u155,u156,u157,u158,u159,u160,u161,u162,u163,u164,u165,u166,u167,u168,u169,u170,u171,u172,u173,u174,u175,u176,u177,u178,u179,u180,u181,u182,u183,u184,u185,u186,u187,u188,u189,u190,u191,u192,u193,u194,u195,u196,u197,u198,u199,u200,u201,u202,u203,u204,u205,u206,u207,u208,u209,u210,u211,u212,u213,u214,u215,u216,u217,u218,u219,u220,u221,u222,u223,u224,u225,u226,u227],[]⟩ w'):
  Code.wp Tryz.prog (hdC (peel 10 (bodyOf Tryz.f6))) Q ⟨#[u0,u1,u2,u3,u4,u5,u6,u7,u8,u9,.pointer (some ⟨gx,0,none⟩),u11,u12,u13,.pointer (some ⟨ga,0,none⟩),u15,u16,u17,.int .i64 p,u19,u20,u21,u22,u23,u24,u25,u26,u27,u28,u29,u30,u31,u32,u33,u34,u35,u36,u37,u38,u39,u40,u41,u42,u43,u44,u45,u46,u47,u48,u49,u50,u51,u52,u53,u54,u55,u56,u57,u58,u59,u60,u61,u62,u63,u64,u65,u66,u67,u68,u69,u70,u71,u72,u73,u74,u75,u76,u77,u78,u79,u80,u81,u82,u83,u84,u85,u86,u87,u88,u89,u90,u91,u92,u93,u94,u95,u96,u97,u98,u99,u100,u101,u102,u103,u104,u105,u106,u107,u108,u109,u110,u111,u112,u113,u114,u115,u116,u117,u118,u119,u120,u121,u122,u123,u124,u125,u126,u127,u128,u129,u130,u131,u132,u133,u134,u135,u136,u137,u138,u139,u140,u141,u142,u143,u144,u145,u146,u147,u148,u149,u150,u151,u152,u153,u154,u155,u156,u157,u158,u159,u160,u161,u162,u163,u164,u165,u166,u167,u168,u169,u170,u171,u172,u173,u174,u175,u176,u177,u178,u179,u180,u181,u182,u183,u184,u185,u186,u187,u188,u189,u190,u191,u192,u193,u194,u195,u196,u197,u198,u199,u200,u201,u202,u203,u204,u205,u206,u207,u208,u209,u210,u211,u212,u213,u214,u215,u216,u217,u218,u219,u220,u221,u222,u223,u224,u225,u226,u227],[]⟩ wa:=by
 obtain⟨x0,x1,x2,x3,x4,x5,x6,x7,x8⟩:=blk9 hx;have a0:=(ha.cell 0).trans rfl;have g0:=ha.frozen 0;have a1:=(ha.cell 1).trans rfl;have g1:=ha.frozen 1;have a2:=(ha.cell 2).trans rfl;have g2:=ha.frozen 2;have HX:=h_ hx;have HA:=h_ ha;have HQ:=h_ hQ;have HS:=h_ hS;clear hx ha hQ
 cases hi:isI Sea.id id x.seas with
 | false=>
   have hD:Hid (seaAt x id=seaD):=by
    have h0:=atI_isI (g:=Sea.id) (id:=id) (l:=x.seas);unfold Hid seaAt
    cases h1:atI Sea.id id x.seas with
    | none=>rfl
    | some _=>rw[h1,hi] at h0;simp at h0
   have hp':p= -1:=hp.trans (posR_end hi);subst hp';clear hp;clear hi hS;simp only[hdC,peel,bodyOf,Tryz.f6];go_wp2
   exact HQ.out _ _ _ _ _ _ _ _ (by rw[hD.out];exact HA.out) (Frm.refl _ _)
 | true=>
   obtain⟨k,hk,hpos,-,hat,-⟩:=posR_at hi
   have hD:x.seas[k]=seaAt x id:=by
    unfold seaAt;rw[hat];rfl
   have hp':p=(k:Int):=hp.trans hpos;subst hp';clear hp;obtain⟨A,cA⟩:=se;obtain⟨b,off,hA,-,hbl,hcell⟩:=hS.seas.at_ Sea.clen (by decide) (by omega);dsimp only at hA;subst hA;obtain⟨p0,p1,p2⟩:=Seacs (w:=wa) (b:=b) (off:=off+k * 3) (e:=x.seas[k]) (hcell k hk);rw[hD] at p0 p1 p2;clear hcell hi hpos hat hD hS;dsimp only at x1 x2 x3 x4;obtain⟨q,hq⟩:∃ q,seaAt x id=q:=⟨_,rfl⟩;rw[hq] at HQ p0 p1 p2;clear hq;simp only[hdC,peel,bodyOf,Tryz.f6];go_wp2;obtain⟨we,hwe⟩:∃ we,we=wa.setCells ga 0 [.int .i64 q.id,.string q.name,.string q.query]:=⟨_,rfl⟩
   have hbe:Blk we ga 56 #[.int .i64 q.id,.string q.name,.string q.query]:=by
    have:=Blk.putL [.int .i64 q.id,.string q.name,.string q.query] 0 HA.out;rw[hwe];exact this
   have fe_:Frm (fun k=>k=ga) wa we:=by rw[hwe];exact Frm.setCells _ 0 (Frm.refl _ _) (.inl rfl)
   simp only[World.setCells] at hwe;rw[← hwe];exact HQ.out _ _ _ _ _ _ _ _ hbe fe_
end Go.Proofs.YtlafbakoefcifaaGreat
