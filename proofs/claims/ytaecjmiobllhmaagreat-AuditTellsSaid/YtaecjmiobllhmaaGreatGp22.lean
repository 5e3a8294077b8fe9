/- Words. -/
import Derived.Test.YtaecjmiobllhmaaGreatGp21
import Derived.StillTailTactics
import Derived.Deep.RegionHeld3
set_option linter.unusedVariables false
set_option linter.unusedSimpArgs false
set_option maxRecDepth 100000
set_option maxHeartbeats 16000000
namespace Go.Proofs.YtaecjmiobllhmaaGreat
open Go.RowKit Go.Lib
theorem ApplyT2{w wc:World}{g be bf bt:Nat}{M:Ms}{x:St}{v:Sl}(hS:StAt wc g M x)(hF:Frm Nix w wc)(a b n:Int)(s t u:ByteArray)(hB:Blk wc be 42 #[.int .i64 2,.int .i64 a,.int .i64 b,.int .i64 n,.string s,.string t,.string u])(hBf:Blk wc bf 64 #[.int .i64 (feeAt x a).id,.int .i64 (feeAt x a).inn,.string (feeAt x a).url,.string (feeAt x a).title])(hBt:Blk wc bt 82 (itmA v (itmAt x a)))(hv:TagsIn wc v (itmAt x a).tags)(hlt:∀k,SF g M k→k<w.heap.size)(hse:w.heap.size≤be)(hsf:w.heap.size≤bf)(hst:w.heap.size≤bt)(hfit:fits x ⟨2,a,b,n,s,t,u⟩=true)(ha:I64 a)(hb:I64 b){uu:Nat→Value}:
  Code.wp Tryz.prog (peel 3 (bodyOf Tryz.f42)) (bodyPost Tryz.prog Tryz.f42 λr w'=>r=.returned (.bool true)∧StAt w' g M (doS x ⟨2,a,b,n,s,t,u⟩)∧Frm (SF g M) w w') (apAct g be bf bt (.agg #[.int .i64 2,.int .i64 a,.int .i64 b,.int .i64 n,.string s,.string t,.string u]) uu) wc:=by
 unfold apAct;obtain⟨d0,d1,d2,d3,d4,d5,d6⟩:=blk7 hB;have he:=fits_ev hfit;obtain⟨⟨f,hfm,hfa⟩,-,-⟩:=(fits2 (x:=x) rfl he).1 hfit;simp only at hfa;have hat:=atI_some hS.ok.fR hfm hfa;have hfol:folAt x a=f:=by unfold folAt;rw[hat];rfl
 have hok:=doS_ok hS.ok hfit;rw[do2 rfl] at hok ⊢;obtain⟨⟨g1,g2,g3,g4,g5,g6,g7,g8⟩,⟨o1,o2,o3,o4,o5,o6,o7⟩,⟨e1,e2,e3,e4,e5,e6⟩,⟨i1,i2,i3,i4,i5⟩,⟨s1,s2,s3,s4⟩,⟨a1,a2,a3⟩,⟨p1,p2⟩,u1⟩:=hS.apart.ne
 have hinn:I64 f.inn:=by
  have h1:=(hS.ok.fE f hfm).1;rw[ev1] at h1;simp only[Bool.and_eq_true] at h1;have h3:=h1.1.2;simp[folderOk,idOk] at h3;unfold I64;omega
 obtain⟨wb,hwb⟩:∃wb,wb=(wc.alloc (.cells #[.int .i64 f.id,.int .i64 f.inn,.string f.name] 79)).drew:=⟨_,rfl⟩;have fb:Frm Nix wc wb:=by rw[hwb];exact((fR wc).alloc _).drew
 have hb':StAt wb g M x:=hS.nix fb;have hbx:Blk wb wc.heap.size 79 #[.int .i64 f.id,.int .i64 f.inn,.string f.name]:=by rw[hwb];exact(Blk.new wc _ _).drew
 have HMk:Hid (∀W,Frm Nix wc W→(λW=>Frm Nix wc W∧W.cell? ⟨g,1,none⟩=some (.map (some M.fo))∧W.cell? ⟨be,1,none⟩=some (.int .i64 a)∧(Instr.lookup 106 (.map (some M.fo)) (.int .i64 a) false).run Tryz.prog W=.ok (.agg #[.int .i64 f.id,.int .i64 f.inn,.string f.name]) W) W):=λW hf=>⟨hf,(hS.nix hf).cells.2.1,(blk7 (hB.frm hf id)).2.1,by rw[←hfol];exact(hS.nix hf).folLook ha false⟩
 have hf0:=fR wc;have hszd:w.heap.size≤wc.heap.size:=hF.size;have hbn:∀k,SF g M k→wc.heap.size≠k:=λk hk e=>by have:=hlt k hk;omega
 have hen:∀k,SF g M k→be≠k:=λk hk e=>by have:=hlt k hk;omega
 obtain⟨q0,q1,q2,q3,q4,q5,-⟩:=hb'.cells;have x1:=hbx.cell 1;have x2:=hbx.cell 2;simp at x1 x2;obtain⟨w2,r2,m2,f2⟩:=(hb'.maps.na.frm (fR wb).drew id).delete_yes keyedN Tryz.underlying110 ((delI_perm hat).map λf:Fol=>(kP f.inn f.name,kI f.id)) 134;have r2':∀ty,(Builtin.delete_ #[110,134] ty #[.map (some M.na),.agg #[.int .i64 f.inn,.string f.name]]).run Tryz.prog wb.drew=.ok (.tuple #[]) w2:=r2;have f2':Frm (·=M.na) wb w2:=(Frm.refl (·=M.na) wb).drew.trans f2;have b2:=hb'.blk.frm f2' g5;have k1:=b2.cell 1;simp at k1;obtain⟨-,y1,-⟩:=blk7 ((hB.frm fb id).frm f2' (hen _ (by simp[SF])));obtain⟨w3,r3,m3,f3⟩:=((hb'.maps.fo.frm f2' o4).frm (fR w2).drew id).delete_yes keyedI Tryz.underlying106 ((delI_perm hat).map λf:Fol=>(kI f.id,folV f)) 3;have r3':∀ty,(Builtin.delete_ #[106,3] ty #[.map (some M.fo),.int .i64 a]).run Tryz.prog w2.drew=.ok (.tuple #[]) w3:=by rw[←hfa];exact r3
 have f3':Frm (·=M.fo) w2 w3:=(Frm.refl (·=M.fo) w2).drew.trans f3;have z8:=(b2.frm f3' g1).cell 8;simp at z8;have z1:=((hbx.frm f2' (hbn _ (by simp[SF]))).frm f3' (hbn _ (by simp[SF]))).cell 1;simp at z1;have hh3:=(hb'.held.frm f2' a3.symm).frm f3' o7.symm;have hHL:=heldS_le hS.ok f.inn;have KH:=h_ (hold_any (n:=-1) z8 hh3 hinn (by omega) (by omega));have HM:Hid (∀w4,HeldIs w4 M.he (λj=>if j=f.inn then heldS x j+ -1 else heldS x j)→Frm (·=M.he) w3 w4→StAt w4 g M {x with fols:=delI Fol.id a x.fols}∧Frm (SF g M) wb w4):=λw4 hh4 f4=>gone2_mem hb' hat m2 f2' m3 f3' hh4 f4 hok
 have HF:=h_ (hF.trans fb);have HWB:=h_ hwb;clear hS hF hB hBf hBt hv hlt hfit hok hat hfm r2 m2 f2 f2' r3 m3 f3 f3' b2 hbx hb' hwb fb hh3 hHL hfol hfa;simp only[peel,bodyOf,Tryz.f42];go_wp2
 go_region_held3 (λW=>Frm Nix wc W∧W.cell? ⟨g,1,none⟩=some (.map (some M.fo))∧W.cell? ⟨be,1,none⟩=some (.int .i64 a)∧(Instr.lookup 106 (.map (some M.fo)) (.int .i64 a) false).run Tryz.prog W=.ok (.agg #[.int .i64 f.id,.int .i64 f.inn,.string f.name]) W) (first | exact HMk.out _ hf0 | exact HMk.out _ (Frm.drew hf0) | exact HMk.out _ (Frm.alloc (by assumption) _) | exact HMk.out _ (Frm.alloc (Frm.drew (by assumption)) _) | exact HMk.out _ (Frm.drew (by assumption)) | exact HMk.out _ (by assumption)) (first | fail)
 all_goals
  go_wp2;rw[←HWB.out]
  go_still_tail 9,(by kernel_rfl)
  change wpList _ _ _ _ _ wb.drew;go_wp2_with (refine wpList_delete_run r2' rfl _ _ rfl rfl rfl ?_)
  go_still_tail 6,(by kernel_rfl)
  change wpList _ _ _ _ _ w2.drew
  go_wp2_with (first
   | (refine wpList_delete_run r3' rfl _ _ rfl rfl rfl ?_)
   | (go_at_call 87;refine KH.out.mono ?_;rintro r w4 ⟨rfl,hh4,f4⟩))
  go_ret;obtain⟨t1,t2⟩:=HM.out _ hh4 f4;exact⟨rfl,t1,(Frm.nix HF.out).trans t2⟩
theorem ApplyT12{w wc:World}{g be bf bt:Nat}{M:Ms}{x:St}{v:Sl}(hS:StAt wc g M x)(hF:Frm Nix w wc)(a b n:Int)(s t u:ByteArray)(hB:Blk wc be 42 #[.int .i64 12,.int .i64 a,.int .i64 b,.int .i64 n,.string s,.string t,.string u])(hBf:Blk wc bf 64 #[.int .i64 (feeAt x a).id,.int .i64 (feeAt x a).inn,.string (feeAt x a).url,.string (feeAt x a).title])(hBt:Blk wc bt 82 (itmA v (itmAt x a)))(hv:TagsIn wc v (itmAt x a).tags)(hlt:∀k,SF g M k→k<w.heap.size)(hse:w.heap.size≤be)(hsf:w.heap.size≤bf)(hst:w.heap.size≤bt)(hfit:fits x ⟨12,a,b,n,s,t,u⟩=true)(ha:I64 a)(hb:I64 b){uu:Nat→Value}:
  Code.wp Tryz.prog (peel 3 (bodyOf Tryz.f42)) (bodyPost Tryz.prog Tryz.f42 λr w'=>r=.returned (.bool true)∧StAt w' g M (doS x ⟨12,a,b,n,s,t,u⟩)∧Frm (SF g M) w w') (apAct g be bf bt (.agg #[.int .i64 12,.int .i64 a,.int .i64 b,.int .i64 n,.string s,.string t,.string u]) uu) wc:=by
 unfold apAct;obtain⟨d0,d1,d2,d3,d4,d5,d6⟩:=blk7 hB;have he:=fits_ev hfit;obtain⟨f,hfm,hfa⟩:=(fits12 (x:=x) rfl he).1 hfit;simp only at hfa;have hat:=atI_some hS.ok.sR hfm hfa;have hok:=doS_ok hS.ok hfit;rw[do12 rfl] at hok ⊢;obtain⟨c0,c1,c2,c3,c4,-⟩:=hS.cells;obtain⟨w1,r1,m1,f1⟩:=(hS.maps.se.frm (fR wc).drew id).delete_yes keyedI Tryz.underlying109 ((delI_perm hat).map λf:Sea=>(kI f.id,seaV f)) 3;have r1':∀ty,(Builtin.delete_ #[109,3] ty #[.map (some M.se),.int .i64 a]).run Tryz.prog wc.drew=.ok (.tuple #[]) w1:=by rw[←hfa];exact r1
 have HM:=h_ (gone12_mem hS m1 ((Frm.refl (·=M.se) wc).drew.trans f1) hok);have HF:=h_ hF;clear hS hF hB hBf hBt hv hlt hfit hok hat hfm r1 m1 f1 hfa;simp only[peel,bodyOf,Tryz.f42];go_wp2
 go_still_tail 6,(by kernel_rfl)
 change wpList _ _ _ _ _ wc.drew;go_wp2_with (refine wpList_delete_run r1' rfl _ _ rfl rfl rfl ?_);go_ret;exact⟨rfl,HM.out.1,(Frm.nix HF.out).trans HM.out.2⟩
theorem ApplyT5{w wc:World}{g be bf bt:Nat}{M:Ms}{x:St}{v:Sl}(hS:StAt wc g M x)(hF:Frm Nix w wc)(a b n:Int)(s t u:ByteArray)(hB:Blk wc be 42 #[.int .i64 5,.int .i64 a,.int .i64 b,.int .i64 n,.string s,.string t,.string u])(hBf:Blk wc bf 64 #[.int .i64 (feeAt x a).id,.int .i64 (feeAt x a).inn,.string (feeAt x a).url,.string (feeAt x a).title])(hBt:Blk wc bt 82 (itmA v (itmAt x a)))(hv:TagsIn wc v (itmAt x a).tags)(hlt:∀k,SF g M k→k<w.heap.size)(hse:w.heap.size≤be)(hsf:w.heap.size≤bf)(hst:w.heap.size≤bt)(hfit:fits x ⟨5,a,b,n,s,t,u⟩=true)(ha:I64 a)(hb:I64 b){uu:Nat→Value}:
  Code.wp Tryz.prog (peel 3 (bodyOf Tryz.f42)) (bodyPost Tryz.prog Tryz.f42 λr w'=>r=.returned (.bool true)∧StAt w' g M (doS x ⟨5,a,b,n,s,t,u⟩)∧Frm (SF g M) w w') (apAct g be bf bt (.agg #[.int .i64 5,.int .i64 a,.int .i64 b,.int .i64 n,.string s,.string t,.string u]) uu) wc:=by
 unfold apAct;obtain⟨d0,d1,d2,d3,d4,d5,d6⟩:=blk7 hB;have he:=fits_ev hfit;obtain⟨f,hfm,hfa⟩:=(fits45 (x:=x) (.inr rfl) he).1 hfit;simp only at hfa;have hat:=atI_some hS.ok.eR hfm hfa;have hok:=doS_ok hS.ok hfit;rw[do5 rfl] at hok ⊢;have hfee:feeAt x a=f:=by unfold feeAt;rw[hat];rfl
 rw[hfee] at hBf;have hbf:¬SF g M bf:=λh=>by have:=hlt bf h;omega
 have hbfs:¬StrB wc bf:=λh=>hBf.ne_str (by decide) h rfl
 obtain⟨w1,hw1⟩:∃w1,w1=wc.setCell ⟨bf,3,none⟩ (.string t):=⟨_,rfl⟩;have f1:Frm (·=bf) wc w1:=by rw[hw1];exact(Frm.refl (·=bf) wc).setCell (.inl rfl) _
 have b1:Blk w1 bf 64 #[.int .i64 f.id,.int .i64 f.inn,.string f.url,.string t]:=by
  rw[hw1];have:=hBf.set_ 3 (.string t)
  simpa using this
 have x3:=hBf.cell 3;have fz:=hBf.frozen 3;simp at x3;have y0:=b1.cell 0;have y1:=b1.cell 1;have y2:=b1.cell 2;have y3:=b1.cell 3;simp at y0 y1 y2 y3;have ne:∀k,SF g M k→¬k=bf:=λk hk e=>hbf (e ▸ hk)
 obtain⟨d0',d1',-⟩:=blk7 (hB.frm f1 (hB.ne_ hBf (by decide)));have s1:=hS.blk.frm f1 (ne _ (by simp[SF]));have q2:=s1.cell 2;simp at q2;obtain⟨w2,r2,m2,f2⟩:=((hS.maps.fe.frm f1 (ne _ (by simp[SF]))).frm (fR w1).drew id).update_old keyedI Tryz.underlying107 ((delI_perm hat).map λf:Fee=>(kI f.id,feeV f)) (feeV {f with title:=t});rw[show kI f.id=kI a by rw[hfa]] at r2 m2;have r2':(Instr.mapUpdate 107 (.map (some M.fe)) (.int .i64 a) (.agg #[.int .i64 f.id,.int .i64 f.inn,.string f.url,.string t])).run Tryz.prog w1.drew=.ok () w2:=r2;have f2':Frm (·=M.fe) w1 w2:=(Frm.refl (·=M.fe) w1).drew.trans f2;have f12:Frm (λk=>k=M.fe∨k=M.he∨k=bf) wc w2:=(f1.mono λk hk=>.inr (.inr hk)).trans (f2'.mono λk hk=>.inl hk)
 have hh:HeldIs w2 M.he (heldS {x with fees:=updI Fee.id a (λf=>{f with title:=t}) x.fees}):=by
  refine((hS.held.frm f1 (ne _ (by simp[SF]))).frm f2' hS.apart.ne.2.2.1.2.2.2.2.2.symm).congr λj=>?_
  rw[held_updFee x hat];show heldS x j=(if j=f.inn then 1 else 0)+(heldS x j - if j=f.inn then 1 else 0)
  omega
 have HM:=h_ (fee_mem (b:=bf) hS hat (λf=>{f with title:=t}) rfl rfl m2 f12 hbf hbfs hh hok);have HF:=h_ hF;have HW:=h_ hw1;clear hS hF hB hBf hBt hv hlt hfit hok hat hfm r2 m2 f2 f2' f12 hh s1 b1 f1 hw1 hfee hfa hbfs;simp only[peel,bodyOf,Tryz.f42];go_wp2;rw[←HW.out]
 go_still_tail 7,(by kernel_rfl)
 change wpList _ _ _ _ _ w1.drew;go_wp2_with (at_mapUpdate;refine wpList_mapUpdate_run r2' rfl _ _ _ rfl rfl rfl rfl ?_);go_ret;exact⟨rfl,HM.out.1,(Frm.nix (F:=SF g M) HF.out).next HM.out.2 λk hk=>hk.imp id λe=>by omega⟩
theorem ApplyT6{w wc:World}{g be bf bt:Nat}{M:Ms}{x:St}{v:Sl}(hS:StAt wc g M x)(hF:Frm Nix w wc)(a b n:Int)(s t u:ByteArray)(hB:Blk wc be 42 #[.int .i64 6,.int .i64 a,.int .i64 b,.int .i64 n,.string s,.string t,.string u])(hBf:Blk wc bf 64 #[.int .i64 (feeAt x a).id,.int .i64 (feeAt x a).inn,.string (feeAt x a).url,.string (feeAt x a).title])(hBt:Blk wc bt 82 (itmA v (itmAt x a)))(hv:TagsIn wc v (itmAt x a).tags)(hlt:∀k,SF g M k→k<w.heap.size)(hse:w.heap.size≤be)(hsf:w.heap.size≤bf)(hst:w.heap.size≤bt)(hfit:fits x ⟨6,a,b,n,s,t,u⟩=true)(ha:I64 a)(hb:I64 b){uu:Nat→Value}:
  Code.wp Tryz.prog (peel 3 (bodyOf Tryz.f42)) (bodyPost Tryz.prog Tryz.f42 λr w'=>r=.returned (.bool true)∧StAt w' g M (doS x ⟨6,a,b,n,s,t,u⟩)∧Frm (SF g M) w w') (apAct g be bf bt (.agg #[.int .i64 6,.int .i64 a,.int .i64 b,.int .i64 n,.string s,.string t,.string u]) uu) wc:=by
 unfold apAct;obtain⟨d0,d1,d2,d3,d4,d5,d6⟩:=blk7 hB;have he:=fits_ev hfit;obtain⟨⟨f,hfm,hfa⟩,-⟩:=(fits6 (x:=x) rfl he).1 hfit;simp only at hfa;have hat:=atI_some hS.ok.eR hfm hfa;have hok:=doS_ok hS.ok hfit;rw[do6 rfl] at hok ⊢;obtain⟨hsz,hinn,hid⟩:=fee_size hS.ok hfm;have hfee:feeAt x a=f:=by unfold feeAt;rw[hat];rfl
 rw[hfee] at hBf;have hbf:¬SF g M bf:=λh=>by have:=hlt bf h;omega
 have hbfs:¬StrB wc bf:=λh=>hBf.ne_str (by decide) h rfl
 have ne:∀k,SF g M k→¬k=bf:=λk hk e=>hbf (e ▸ hk)
 have nb:∀k,SF g M k→¬bf=k:=λk hk e=>hbf (e ▸ hk)
 have nbe:∀k,SF g M k→¬be=k:=λk hk e=>by have:=hlt k hk;omega
 have hbb:be≠bf:=hB.ne_ hBf (by decide);obtain⟨⟨g1,g2,g3,g4,g5,g6,g7,g8⟩,-,⟨e1,e2,e3,e4,e5,e6⟩,-⟩:=hS.apart.ne;obtain⟨c0,c1,c2,c3,c4,c5,c6,c7,c8,-⟩:=hS.cells;have x1:=hBf.cell 1;simp at x1;have hHL:=heldS_le hS.ok f.inn;have hHB:=heldS_le hS.ok b;have KH:=h_ (hold_any (n:=-1) c8 hS.held hinn (by omega) (by omega))
 have KH2:Hid (∀W,HeldIs W M.he (λj=>if j=f.inn then heldS x j+ -1 else heldS x j)→Frm (·=M.he) wc W→Calls Tryz.prog 87 #[.pointer (some ⟨g,0,none⟩),.int .i64 b,.int .i64 1] W λe w'=>e=.returned (.tuple #[])∧HeldIs w' M.he (λj=>if j=b then (if j=f.inn then heldS x j+ -1 else heldS x j)+1 else (if j=f.inn then heldS x j+ -1 else heldS x j))∧Frm (·=M.he) W w'):=λW hW hfW=>by
  have q:=(hS.blk.frm hfW g8).cell 8;simp at q;exact hold_any (n:=1) q hW hb (by split<;>omega) (by omega)
 have HS:=h_ hS;have HF:=h_ hF;have HB:=h_ hB;have HBf:=h_ hBf;have HOk:=h_ hok;have HAt:=h_ hat;have HFa:=h_ hfa;have HNe:=h_ ne;have HSf:=h_ hsf;have HNb:=h_ nb;have HNbe:=h_ nbe;have HX1:=h_ (And.intro hbf (And.intro hbfs hbb));have HX2:=h_ (And.intro g8 (And.intro e6 hlt));clear hS hF hB hBf hBt hv hfit hok hat hfm hHL hHB hfee hfa ne nb nbe hbf hbfs hbb g1 g2 g3 g4 g5 g6 g7 g8 e1 e2 e3 e4 e5 e6 hlt hse hsf hst hsz hinn hid ha hb he;simp only[peel,bodyOf,Tryz.f42]
 go_wp2_with (first
  | (go_at_call 87;refine K2.out.mono ?_;rintro r w2 ⟨rfl,hh2,f2⟩;obtain⟨d0,d1,d2,d3,d4,d5,d6⟩:=blk7 ((HB.out.frm f1 (HNbe.out _ (by simp[SF]))).frm f2 (HNbe.out _ (by simp[SF])));have b2:=(HBf.out.frm f1 (HNb.out _ (by simp[SF]))).frm f2 (HNb.out _ (by simp[SF]));have x1':=b2.cell 1;have fz:=b2.frozen 1;simp at x1';have HB2:=h_ b2;clear b2)
  | (go_at_call 87;refine KH.out.mono ?_;rintro r w1 ⟨rfl,hh1,f1⟩;have K2:=h_ (KH2.out w1 hh1 f1);obtain⟨d0,d1,d2,d3,d4,d5,d6⟩:=blk7 (HB.out.frm f1 (HNbe.out _ (by simp[SF])))))
 have ne:=HNe.out;have nbe:=HNbe.out;obtain⟨hbf,hbfs,hbb⟩:=HX1.out;obtain⟨g8,e6,hlt⟩:=HX2.out;obtain⟨w3,hw3⟩:∃w3,w3=w2.setCell ⟨bf,1,none⟩ (.int .i64 b):=⟨_,rfl⟩;rw[←hw3];have b2:=HB2.out;have f3:Frm (·=bf) w2 w3:=by rw[hw3];exact(Frm.refl (·=bf) w2).setCell (.inl rfl) _
 have b3:Blk w3 bf 64 #[.int .i64 f.id,.int .i64 b,.string f.url,.string f.title]:=by
  rw[hw3];have:=b2.set_ 1 (.int .i64 b)
  simpa using this
 have f12:Frm (·=M.he) wc w2:=f1.trans f2;have f13:Frm (λk=>k=M.he∨k=bf) wc w3:=(f12.mono λk hk=>.inl hk).trans (f3.mono λk hk=>.inr hk);have y0:=b3.cell 0;have y1:=b3.cell 1;have y2:=b3.cell 2;have y3:=b3.cell 3;simp at y0 y1 y2 y3;obtain⟨e0',e1',-⟩:=blk7 (HB.out.frm f13 (by simp;exact⟨nbe _ (by simp[SF]),hbb⟩));have q2:=(HS.out.blk.frm f13 (by simp;exact⟨g8,ne _ (by simp[SF])⟩)).cell 2;simp at q2;obtain⟨w4,r4,m4,f4⟩:=((HS.out.maps.fe.frm f13 (by simp;exact⟨e6,ne _ (by simp[SF])⟩)).frm (fR w3).drew id).update_old keyedI Tryz.underlying107 ((delI_perm HAt.out).map λf:Fee=>(kI f.id,feeV f)) (feeV {f with inn:=b});rw[show kI f.id=kI a by rw[HFa.out]] at r4 m4;have r4':(Instr.mapUpdate 107 (.map (some M.fe)) (.int .i64 a) (.agg #[.int .i64 f.id,.int .i64 b,.string f.url,.string f.title])).run Tryz.prog w3.drew=.ok () w4:=r4;have f4':Frm (·=M.fe) w3 w4:=(Frm.refl (·=M.fe) w3).drew.trans f4;have f14:Frm (λk=>k=M.fe∨k=M.he∨k=bf) wc w4:=(f13.mono λk hk=>.inr hk).trans (f4'.mono λk hk=>.inl hk)
 have hh:HeldIs w4 M.he (heldS {x with fees:=updI Fee.id a (λf=>{f with inn:=b}) x.fees}):=by
  refine((hh2.frm f3 (ne _ (by simp[SF]))).frm f4' e6.symm).congr λj=>?_
  rw[held_updFee x HAt.out];show (if j=b then (if j=f.inn then heldS x j+ -1 else heldS x j)+1 else (if j=f.inn then heldS x j+ -1 else heldS x j))=(if j=b then 1 else 0)+(heldS x j - if j=f.inn then 1 else 0)
  by_cases h1:j=b<;>by_cases h2:j=f.inn<;>simp only[h1,h2,if_true,if_false]<;>(try split)<;>omega
 have HM:=h_ (fee_mem (b:=bf) HS.out HAt.out (λf=>{f with inn:=b}) rfl rfl m4 f14 hbf hbfs hh HOk.out);clear ne nbe hbf hbfs hbb g8 e6 hlt b2 f3 b3 f12 f13 r4 m4 f4 f4' f14 hh hh1 hh2 f1 f2 hw3 x1 x1' d0 d1 d2 d3 d4 d5 d6 c0 c1 c2 c3 c4 c5 c6 c7 c8
 go_still_tail 7,(by kernel_rfl)
 change wpList _ _ _ _ _ w3.drew;go_wp2_with (at_mapUpdate;refine wpList_mapUpdate_run r4' rfl _ _ _ rfl rfl rfl rfl ?_);go_ret;exact⟨rfl,HM.out.1,(Frm.nix (F:=SF g M) HF.out).next HM.out.2 λk hk=>hk.imp id λe=>by have:=HSf.out;omega⟩
end Go.Proofs.YtaecjmiobllhmaaGreat
