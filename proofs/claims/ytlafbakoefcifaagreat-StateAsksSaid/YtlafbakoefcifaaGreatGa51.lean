/-
  Contracts: the document's Apply: items turned.
-/
import Derived.Test.YtlafbakoefcifaaGreatGa50
import Derived.Test.YtlafbakoefcifaaGreatGa45
import Derived.Test.YtlafbakoefcifaaGreatGa14
set_option linter.unusedVariables false
set_option linter.unusedSimpArgs false
set_option maxRecDepth 100000
set_option maxHeartbeats 16000000
namespace Go.Proofs.YtlafbakoefcifaaGreat
open Go.RowKit Go.Lib
theorem itms_ts{w:World}{G:Nat→Prop}{fo fe it se:Sl}{ts:List (Sl×Itm)}{x:St}(h:StIn w G fo fe it se ts x){p:Nat}(hk:p<ts.length)(hp:p<x.itms.length):(ts[p]'hk).2=x.itms[p]:=by
 obtain⟨h1,h2⟩:=itms_at h hp;exact h2
theorem rapply8{w:World}{fo fe it se:Sl}{ts:List (Sl×Itm)}{x:St}{G:Nat→Prop}(hS:StIn w G fo fe it se ts x)(hsm:StSmall x){a b n:Int}{s t u:ByteArray}(hfit:fits x ⟨8,a,b,n,s,t,u⟩=true):
  Calls Tryz.prog 12 #[stV fo fe it se x,evV ⟨8,a,b,n,s,t,u⟩] w (ApOut w G (doS x ⟨8,a,b,n,s,t,u⟩) true):=by
 obtain⟨w0,hw0,hf0,hb1,hb2,hb3⟩:=box_ser w fo fe it se x 8 a b n s t u;have hcap:=hsm.itms
 have hi:isI Itm.id a x.itms=true:=by
  unfold fits at hfit;simp at hfit;exact hfit.2
 obtain⟨p,hpl,hp,-,-,hpi⟩:=posR_at hi;have HS0:=h_ hS;have HS:=h_ (hS.nix hf0);have HSm:=h_ hsm;have HB1:=h_ hb1;have HB2:=h_ hb2;have HB3:=h_ hb3;have HF0:=h_ hf0;have HW:=h_ hw0;have HFt:=h_ hfit
 have KFi:Hid (Calls Tryz.prog 48 #[stV fo fe it se x,.agg #[.int .i64 8,.int .i64 a,.int .i64 b,.int .i64 n,.string s,.string t,.string u]] w0 fun e w'=>e=.returned (.bool true)∧Frm Nix w0 w'):=by
  have:=rFits_any (hS.nix hf0) hsm ⟨8,a,b,n,s,t,u⟩;rw[hfit] at this;exact this
 clear hS hsm hf0 hb1 hb2 hb3 hw0 hfit;unfold stV evV;dsimp only;rw[do8 rfl];dsimp only;obtain⟨A,c⟩:=it;dsimp only at HS HS0 HB1 HW KFi ⊢;go_enter Tryz.func12,Tryz.ntmps12;show Code.wp Tryz.prog (peel 0 (bodyOf Tryz.f12)) _ _ _
 refine peelK (k':=1) fun K hK=>?_
 conv in hdC _=>whnf
 go_wp2;rw[← HW.out];obtain⟨e0,e1,e2,e3,e4,e5,e6⟩:=blk7 HB2.out;obtain⟨x0,x1,x2,x3,x4,x5,x6,x7,x8⟩:=blk9 HB1.out;refine peelK (k':=2) fun K hK=>?_
 conv in hdC _=>whnf
 go_wp2_with (go_at_call 48;refine KFi.out.mono ?_;rintro e w1 ⟨rfl,hf⟩;have Z1:=h_ hf;clear hf);clear x0 x1 x2 x3 x4 x5 x6 x7 x8 e0 e1 e2 e3 e4 e5 e6;obtain⟨e0,e1,e2,e3,e4,e5,e6⟩:=blk7 (HB2.out.frm Z1.out id);obtain⟨x0,x1,x2,x3,x4,x5,x6,x7,x8⟩:=blk9 (HB1.out.frm Z1.out id);have hlen:ts.length=x.itms.length:=HS0.out.len;have hs1:=(HS.out.nix Z1.out).itms.row;obtain⟨rA,rc,wa,hrun0,hrow⟩:=copy_run elemItm (c:=c) hs1.rd (itm_one ts) (by rw[hlen];exact hcap) (by omega);obtain⟨A2,c2,hsh,-,-,-,hblk⟩:=hrow.shape;injection hsh with hsA hsn hsc;subst hsA hsc;have hbs1:=HB1.out.frm Z1.out id;have hbs2:=HB2.out.frm Z1.out id;have hbs3:=HB3.out.frm Z1.out id;have h4l:=hbs3.lt;have fa:=hrow.frm;have hca:wa.cell? ⟨w.heap.size,3,none⟩=_:=((hbs1.frm fa id).cell 3).trans rfl;have hcf:=(hbs1.frm fa id).frozen 3;have hma:(w1.alloc (.cells #[] 54)).cell? ⟨w.heap.size,3,none⟩=some (.slice A x.itms.length c):=((hbs1.frm ((fR w1).alloc _) id).cell 3).trans rfl;have hnw:=World.new_ne w1 ⟨w.heap.size,3,none⟩ x3;rw[hlen] at hrun0 hrow;obtain⟨wd,hwd⟩:∃ wd,wd=wa.setCell ⟨w.heap.size,3,none⟩ (.slice rA x.itms.length rc):=⟨_,rfl⟩;have fd:Frm (fun k=>k=w.heap.size) wa wd:=by rw[hwd];exact(Frm.refl (fun k=>k=w.heap.size) wa).setCell (.inl rfl) _
 have HFd:Hid (Frm Nix w wd):=((HF0.out.trans Z1.out).trans fa).next fd (fun k hk=>.inr (by omega))
 have hob:∀ k,(Value.slice rA x.itms.length rc).ownBlock=some k→w1.heap.size≤k:=fun k hk=>by
  rcases rA with _ | ad
  ·simp[Value.ownBlock] at hk
  ·have:=(hblk ad rfl).2.2.1
   simp[Value.ownBlock] at hk;omega
 have HRw:Hid (RowK 54 9 w wd (.slice rA x.itms.length rc) x.itms.length (ts.flatMap itmC)):=(hrow.since (HF0.out.trans Z1.out)).far fd (fun k hk=>by omega) (fun k hk e=>by have:=hob k hk;omega);have HBd:Hid (Blk wd w.heap.size 30 #[.int .i64 x.clock,.slice fo.1 x.fols.length fo.2,.slice fe.1 x.fees.length fe.2,.slice rA x.itms.length rc,.slice se.1 x.seas.length se.2,.int .i64 x.tFol,.int .i64 x.tFee,.int .i64 x.tItm,.int .i64 x.tSea]):=by unfold Hid;rw[hwd];exact((hbs1.frm fa id).set_ 3 _)
 have HBv:Hid (Blk wd (w.heap.size+1) 38 #[.int .i64 8,.int .i64 a,.int .i64 b,.int .i64 n,.string s,.string t,.string u]):=(hbs2.frm fa id).frm fd (by simp);have HB4:Hid (Blk wd (w.heap.size+1+1) 30 #[.int .i64 0,.slice none 0 0,.slice none 0 0,.slice none 0 0,.slice none 0 0,.int .i64 0,.int .i64 0,.int .i64 0,.int .i64 0]):=(hbs3.frm fa id).frm fd (by simp)
 have HSd:Hid (StIn wd (fun k=>G k∨w.heap.size≤k) fo fe (rA,rc) se ts x):=by
  have h0:=(HS0.out.nix HFd.out).mono (G':=fun k=>G k∨w.heap.size≤k) fun k hk=>.inl hk
  have h1:=hrow.sl.frm fd (fun k hk e=>by omega);rw[← hlen] at h1;exact⟨h0.fols,h0.fees,⟨h1.mono fun k hk=>.inr (by omega),h0.itms.tags⟩,h0.same,h0.seas⟩
 obtain⟨old,hx0⟩:∃ old,(ts.flatMap itmC)[p * 9+6]? =some old:=⟨_,by rw[flat_at itmC_len ts p (by rw[hlen];exact hpl) 6 (by decide)];rfl⟩
 have KF:Hid (Calls Tryz.prog 28 #[.agg #[.int .i64 x.clock,.slice fo.1 x.fols.length fo.2,.slice fe.1 x.fees.length fe.2,.slice rA x.itms.length rc,.slice se.1 x.seas.length se.2,.int .i64 x.tFol,.int .i64 x.tFee,.int .i64 x.tItm,.int .i64 x.tSea],.int .i64 a] wd fun e w'=>e=.returned (.int .i64 p)∧Frm Nix wd w'):=by
  have:=rItem_any HSd.out HSm.out a;rw[hp] at this;exact this
 obtain⟨z0,z1,z2,z3,z4,z5,z6,z7,z8⟩:=blk9 HBd.out;obtain⟨d0,d1,d2,d3,d4,d5,d6⟩:=blk7 HBv.out;have HWd:=h_ hwd;rw[hwd] at z0 z1 z2 z3 z4 z5 z6 z7 z8 d0 d1 d2 d3 d4 d5 d6;have HOb:=h_ hob;have HB3l:=h_ h4l;clear hs1 hrow hblk hbs1 hbs2 hbs3 h4l fa fd hob;simp only[peel,bodyOf,Tryz.f12]
 go_wp2_with (first
  | (at_builtin;refine wpList_append_run hrun0 rfl _ _ rfl rfl rfl ?_)
  | (go_at_call 28
     rw[← HWd.out];refine KF.out.mono ?_;rintro r w2 ⟨rfl,hf⟩;have Z2:=h_ hf;have HR2:Hid (RowK 54 9 w w2 (.slice rA x.itms.length rc) x.itms.length (ts.flatMap itmC)):=HRw.out.more hf;obtain⟨z0,z1,z2,z3,z4,z5,z6,z7,z8⟩:=blk9 (HBd.out.frm hf id);obtain⟨d0,d1,d2,d3,d4,d5,d6⟩:=blk7 (HBv.out.frm hf id);obtain⟨y0,y1,y2,y3,y4,y5,y6,y7,y8⟩:=blk9 (HB4.out.frm hf id);have g0:=(HB4.out.frm hf id).frozen 0;have g1:=(HB4.out.frm hf id).frozen 1;have g2:=(HB4.out.frm hf id).frozen 2;have g3:=(HB4.out.frm hf id).frozen 3;have g4:=(HB4.out.frm hf id).frozen 4;have g5:=(HB4.out.frm hf id).frozen 5;have g6:=(HB4.out.frm hf id).frozen 6;have g7:=(HB4.out.frm hf id).frozen 7;have g8:=(HB4.out.frm hf id).frozen 8;obtain⟨g,hgA,hgc,hgf,hset,hgl,hgl2⟩:=HR2.out.set_ (p * 9+6) (by omega) (.bool (n==1));rw[hx0] at hgc;have hgo:w.heap.size+1+1<g:=by have h1:=HOb.out g (by rw[hgA];rfl);have h2:=HB3l.out;omega
     have hg0:¬g=w.heap.size:=by omega
     have hg1:¬g=w.heap.size+1:=by omega
     have hg2:¬g=w.heap.size+1+1:=by omega
     have hg0':¬w.heap.size=g:=by omega
     have hg1':¬w.heap.size+1=g:=by omega
     have hg2':¬w.heap.size+1+1=g:=by omega
     have HSet:=h_ hset;obtain⟨s0,s1,s2,s3,s4,s5,s6,s7,s8⟩:=blk9 ((HBd.out.frm hf id).far (p:=⟨g,p * 9+6,none⟩) hg0' (.bool (n==1)));have hb4f:=(HB4.out.frm hf id).far (p:=⟨g,p * 9+6,none⟩) hg2' (.bool (n==1));obtain⟨t0,t1,t2,t3,t4,t5,t6,t7,t8⟩:=blk9 hb4f;have q0:=hb4f.frozen 0;have q1:=hb4f.frozen 1;have q2:=hb4f.frozen 2;have q3:=hb4f.frozen 3;have q4:=hb4f.frozen 4;have q5:=hb4f.frozen 5;have q6:=hb4f.frozen 6;have q7:=hb4f.frozen 7;have q8:=hb4f.frozen 8;clear hb4f;subst hgA;clear hf hset))
 obtain⟨wf,hwf⟩:∃ wf,wf=w2.setCell ⟨g,p * 9+6,none⟩ (.bool (n==1)):=⟨_,rfl⟩;have ff:Frm (fun k=>k=g) w2 wf:=by rw[hwf];exact(Frm.refl (fun k=>k=g) w2).setCell (.inl rfl) _
 have hb4:Blk wf (w.heap.size+1+1) 30 #[.int .i64 0,.slice none 0 0,.slice none 0 0,.slice none 0 0,.slice none 0 0,.int .i64 0,.int .i64 0,.int .i64 0,.int .i64 0]:=(HB4.out.frm Z2.out id).frm ff (by simpa using hg2');rw[← hwf] at HSet;obtain⟨we,hwe⟩:∃ we,we=wf.setCells (w.heap.size+1+1) 0 [.int .i64 x.clock,.slice fo.1 x.fols.length fo.2,.slice fe.1 x.fees.length fe.2,.slice (some ⟨g,0,none⟩) x.itms.length rc,.slice se.1 x.seas.length se.2,.int .i64 x.tFol,.int .i64 x.tFee,.int .i64 x.tItm,.int .i64 x.tSea]:=⟨_,rfl⟩
 have hbe:Blk we (w.heap.size+1+1) 30 #[.int .i64 x.clock,.slice fo.1 x.fols.length fo.2,.slice fe.1 x.fees.length fe.2,.slice (some ⟨g,0,none⟩) x.itms.length rc,.slice se.1 x.seas.length se.2,.int .i64 x.tFol,.int .i64 x.tFee,.int .i64 x.tItm,.int .i64 x.tSea]:=by
  have:=Blk.putL [.int .i64 x.clock,.slice fo.1 x.fols.length fo.2,.slice fe.1 x.fees.length fe.2,.slice (some ⟨g,0,none⟩) x.itms.length rc,.slice se.1 x.seas.length se.2,.int .i64 x.tFol,.int .i64 x.tFee,.int .i64 x.tItm,.int .i64 x.tSea] 0 hb4;rw[putL9] at this;rw[hwe];exact this
 have fe_:Frm (fun k=>k=w.heap.size+1+1) wf we:=by rw[hwe];exact Frm.setCells _ 0 (Frm.refl _ _) (.inl rfl)
 have HFin:Hid (Frm Nix w we):=((HFd.out.trans Z2.out).next ff (fun k hk=>.inr (by omega))).next fe_ (fun k hk=>.inr (by omega))
 have HBe:=h_ hbe
 have hrow:SlIn we (fun k=>w.heap.size≤k) 9 (some ⟨g,0,none⟩,rc) x.itms.length ((ts.flatMap itmC).set (p * 9+6) (.bool (n==1))):=by
  have hr3:=HSet.out.far fe_ (fun k hk=>by omega) (fun k hk e=>by simp[Value.ownBlock] at hk;omega);exact hr3.sl
 have hkt:p<ts.length:=by rw[hlen];exact hpl
 have het:(ts[p]'hkt).2=x.itms[p]:=itms_ts HS0.out hkt hpl
 have HL:Hid ((updI Itm.id a (fun t=>{t with read:=decide (n=1)}) x.itms)=x.itms.set p ((fun t=>{t with read:=decide (n=1)}) x.itms[p])):=by
  unfold Hid;have:=@updI_set _ Itm.id a (fun t=>{t with read:=decide (n=1)}) x.itms (by rw[hpi];exact hpl);simp only[hpi] at this;exact this
 rw[flat_set1 itmC_len ts p hkt ((ts[p]'hkt).1,((fun t=>{t with read:=decide (n=1)}) (ts[p]'hkt).2)) 6 (by decide) (.bool (n==1)) rfl] at hrow
 have hsame:(ts.set p ((ts[p]'hkt).1,((fun t=>{t with read:=decide (n=1)}) (ts[p]'hkt).2))).map (·.2)=(updI Itm.id a (fun t=>{t with read:=decide (n=1)}) x.itms):=by
  rw[List.map_set,HS0.out.same,HL.out,het]
 have hln:(updI Itm.id a (fun t=>{t with read:=decide (n=1)}) x.itms).length=x.itms.length:=by rw[HL.out,List.length_set]
 have hlt2:(ts.set p ((ts[p]'hkt).1,((fun t=>{t with read:=decide (n=1)}) (ts[p]'hkt).2))).length=x.itms.length:=by rw[List.length_set,hlen]
 rw[← hlt2] at hrow
 have htg:∀ q ∈ ts.set p ((ts[p]'hkt).1,((fun t=>{t with read:=decide (n=1)}) (ts[p]'hkt).2)),SlIn we (fun k=>G k∨w.heap.size≤k) 1 q.1 q.2.tags.length (q.2.tags.map Value.string):=fun q hq=>by
  rcases List.mem_or_eq_of_mem_set hq with hq | rfl
  ·exact((HS0.out.nix HFin.out).itms.tags q hq).mono fun k hk=>.inl hk
  ·exact((HS0.out.nix HFin.out).itms.tags _ (List.getElem_mem hkt)).mono fun k hk=>.inl hk
 simp only[World.setCells] at hwe;rw[hwf] at hwe;rw[← hwe];refine bodyPost_ret (rapply_ret HBe.out rfl rfl) rfl ?_;exact⟨fo,fe,(some ⟨g,0,none⟩,rc),se,_,by rw[← hln];rfl,⟨(HS0.out.nix HFin.out).fols.mono fun k hk=>.inl hk,(HS0.out.nix HFin.out).fees.mono fun k hk=>.inl hk,⟨hrow.mono fun k hk=>.inr hk,htg⟩,hsame,(HS0.out.nix HFin.out).seas.mono fun k hk=>.inl hk⟩,HFin.out⟩
theorem rapply9{w:World}{fo fe it se:Sl}{ts:List (Sl×Itm)}{x:St}{G:Nat→Prop}(hS:StIn w G fo fe it se ts x)(hsm:StSmall x){a b n:Int}{s t u:ByteArray}(hfit:fits x ⟨9,a,b,n,s,t,u⟩=true):
  Calls Tryz.prog 12 #[stV fo fe it se x,evV ⟨9,a,b,n,s,t,u⟩] w (ApOut w G (doS x ⟨9,a,b,n,s,t,u⟩) true):=by
 obtain⟨w0,hw0,hf0,hb1,hb2,hb3⟩:=box_ser w fo fe it se x 9 a b n s t u;have hcap:=hsm.itms
 have hi:isI Itm.id a x.itms=true:=by
  unfold fits at hfit;simp at hfit;exact hfit.2
 obtain⟨p,hpl,hp,-,-,hpi⟩:=posR_at hi;have HS0:=h_ hS;have HS:=h_ (hS.nix hf0);have HSm:=h_ hsm;have HB1:=h_ hb1;have HB2:=h_ hb2;have HB3:=h_ hb3;have HF0:=h_ hf0;have HW:=h_ hw0;have HFt:=h_ hfit
 have KFi:Hid (Calls Tryz.prog 48 #[stV fo fe it se x,.agg #[.int .i64 9,.int .i64 a,.int .i64 b,.int .i64 n,.string s,.string t,.string u]] w0 fun e w'=>e=.returned (.bool true)∧Frm Nix w0 w'):=by
  have:=rFits_any (hS.nix hf0) hsm ⟨9,a,b,n,s,t,u⟩;rw[hfit] at this;exact this
 clear hS hsm hf0 hb1 hb2 hb3 hw0 hfit;unfold stV evV;dsimp only;rw[do9 rfl];dsimp only;obtain⟨A,c⟩:=it;dsimp only at HS HS0 HB1 HW KFi ⊢;go_enter Tryz.func12,Tryz.ntmps12;show Code.wp Tryz.prog (peel 0 (bodyOf Tryz.f12)) _ _ _
 refine peelK (k':=1) fun K hK=>?_
 conv in hdC _=>whnf
 go_wp2;rw[← HW.out];obtain⟨e0,e1,e2,e3,e4,e5,e6⟩:=blk7 HB2.out;obtain⟨x0,x1,x2,x3,x4,x5,x6,x7,x8⟩:=blk9 HB1.out;refine peelK (k':=2) fun K hK=>?_
 conv in hdC _=>whnf
 go_wp2_with (go_at_call 48;refine KFi.out.mono ?_;rintro e w1 ⟨rfl,hf⟩;have Z1:=h_ hf;clear hf);clear x0 x1 x2 x3 x4 x5 x6 x7 x8 e0 e1 e2 e3 e4 e5 e6;obtain⟨e0,e1,e2,e3,e4,e5,e6⟩:=blk7 (HB2.out.frm Z1.out id);obtain⟨x0,x1,x2,x3,x4,x5,x6,x7,x8⟩:=blk9 (HB1.out.frm Z1.out id);have hlen:ts.length=x.itms.length:=HS0.out.len;have hs1:=(HS.out.nix Z1.out).itms.row;obtain⟨rA,rc,wa,hrun0,hrow⟩:=copy_run elemItm (c:=c) hs1.rd (itm_one ts) (by rw[hlen];exact hcap) (by omega);obtain⟨A2,c2,hsh,-,-,-,hblk⟩:=hrow.shape;injection hsh with hsA hsn hsc;subst hsA hsc;have hbs1:=HB1.out.frm Z1.out id;have hbs2:=HB2.out.frm Z1.out id;have hbs3:=HB3.out.frm Z1.out id;have h4l:=hbs3.lt;have fa:=hrow.frm;have hca:wa.cell? ⟨w.heap.size,3,none⟩=_:=((hbs1.frm fa id).cell 3).trans rfl;have hcf:=(hbs1.frm fa id).frozen 3;have hma:(w1.alloc (.cells #[] 54)).cell? ⟨w.heap.size,3,none⟩=some (.slice A x.itms.length c):=((hbs1.frm ((fR w1).alloc _) id).cell 3).trans rfl;have hnw:=World.new_ne w1 ⟨w.heap.size,3,none⟩ x3;rw[hlen] at hrun0 hrow;obtain⟨wd,hwd⟩:∃ wd,wd=wa.setCell ⟨w.heap.size,3,none⟩ (.slice rA x.itms.length rc):=⟨_,rfl⟩;have fd:Frm (fun k=>k=w.heap.size) wa wd:=by rw[hwd];exact(Frm.refl (fun k=>k=w.heap.size) wa).setCell (.inl rfl) _
 have HFd:Hid (Frm Nix w wd):=((HF0.out.trans Z1.out).trans fa).next fd (fun k hk=>.inr (by omega))
 have hob:∀ k,(Value.slice rA x.itms.length rc).ownBlock=some k→w1.heap.size≤k:=fun k hk=>by
  rcases rA with _ | ad
  ·simp[Value.ownBlock] at hk
  ·have:=(hblk ad rfl).2.2.1
   simp[Value.ownBlock] at hk;omega
 have HRw:Hid (RowK 54 9 w wd (.slice rA x.itms.length rc) x.itms.length (ts.flatMap itmC)):=(hrow.since (HF0.out.trans Z1.out)).far fd (fun k hk=>by omega) (fun k hk e=>by have:=hob k hk;omega);have HBd:Hid (Blk wd w.heap.size 30 #[.int .i64 x.clock,.slice fo.1 x.fols.length fo.2,.slice fe.1 x.fees.length fe.2,.slice rA x.itms.length rc,.slice se.1 x.seas.length se.2,.int .i64 x.tFol,.int .i64 x.tFee,.int .i64 x.tItm,.int .i64 x.tSea]):=by unfold Hid;rw[hwd];exact((hbs1.frm fa id).set_ 3 _)
 have HBv:Hid (Blk wd (w.heap.size+1) 38 #[.int .i64 9,.int .i64 a,.int .i64 b,.int .i64 n,.string s,.string t,.string u]):=(hbs2.frm fa id).frm fd (by simp);have HB4:Hid (Blk wd (w.heap.size+1+1) 30 #[.int .i64 0,.slice none 0 0,.slice none 0 0,.slice none 0 0,.slice none 0 0,.int .i64 0,.int .i64 0,.int .i64 0,.int .i64 0]):=(hbs3.frm fa id).frm fd (by simp)
 have HSd:Hid (StIn wd (fun k=>G k∨w.heap.size≤k) fo fe (rA,rc) se ts x):=by
  have h0:=(HS0.out.nix HFd.out).mono (G':=fun k=>G k∨w.heap.size≤k) fun k hk=>.inl hk
  have h1:=hrow.sl.frm fd (fun k hk e=>by omega);rw[← hlen] at h1;exact⟨h0.fols,h0.fees,⟨h1.mono fun k hk=>.inr (by omega),h0.itms.tags⟩,h0.same,h0.seas⟩
 obtain⟨old,hx0⟩:∃ old,(ts.flatMap itmC)[p * 9+7]? =some old:=⟨_,by rw[flat_at itmC_len ts p (by rw[hlen];exact hpl) 7 (by decide)];rfl⟩
 have KF:Hid (Calls Tryz.prog 28 #[.agg #[.int .i64 x.clock,.slice fo.1 x.fols.length fo.2,.slice fe.1 x.fees.length fe.2,.slice rA x.itms.length rc,.slice se.1 x.seas.length se.2,.int .i64 x.tFol,.int .i64 x.tFee,.int .i64 x.tItm,.int .i64 x.tSea],.int .i64 a] wd fun e w'=>e=.returned (.int .i64 p)∧Frm Nix wd w'):=by
  have:=rItem_any HSd.out HSm.out a;rw[hp] at this;exact this
 obtain⟨z0,z1,z2,z3,z4,z5,z6,z7,z8⟩:=blk9 HBd.out;obtain⟨d0,d1,d2,d3,d4,d5,d6⟩:=blk7 HBv.out;have HWd:=h_ hwd;rw[hwd] at z0 z1 z2 z3 z4 z5 z6 z7 z8 d0 d1 d2 d3 d4 d5 d6;have HOb:=h_ hob;have HB3l:=h_ h4l;clear hs1 hrow hblk hbs1 hbs2 hbs3 h4l fa fd hob;simp only[peel,bodyOf,Tryz.f12]
 go_wp2_with (first
  | (at_builtin;refine wpList_append_run hrun0 rfl _ _ rfl rfl rfl ?_)
  | (go_at_call 28
     rw[← HWd.out];refine KF.out.mono ?_;rintro r w2 ⟨rfl,hf⟩;have Z2:=h_ hf;have HR2:Hid (RowK 54 9 w w2 (.slice rA x.itms.length rc) x.itms.length (ts.flatMap itmC)):=HRw.out.more hf;obtain⟨z0,z1,z2,z3,z4,z5,z6,z7,z8⟩:=blk9 (HBd.out.frm hf id);obtain⟨d0,d1,d2,d3,d4,d5,d6⟩:=blk7 (HBv.out.frm hf id);obtain⟨y0,y1,y2,y3,y4,y5,y6,y7,y8⟩:=blk9 (HB4.out.frm hf id);have g0:=(HB4.out.frm hf id).frozen 0;have g1:=(HB4.out.frm hf id).frozen 1;have g2:=(HB4.out.frm hf id).frozen 2;have g3:=(HB4.out.frm hf id).frozen 3;have g4:=(HB4.out.frm hf id).frozen 4;have g5:=(HB4.out.frm hf id).frozen 5;have g6:=(HB4.out.frm hf id).frozen 6;have g7:=(HB4.out.frm hf id).frozen 7;have g8:=(HB4.out.frm hf id).frozen 8;obtain⟨g,hgA,hgc,hgf,hset,hgl,hgl2⟩:=HR2.out.set_ (p * 9+7) (by omega) (.bool (n==1));rw[hx0] at hgc;have hgo:w.heap.size+1+1<g:=by have h1:=HOb.out g (by rw[hgA];rfl);have h2:=HB3l.out;omega
     have hg0:¬g=w.heap.size:=by omega
     have hg1:¬g=w.heap.size+1:=by omega
     have hg2:¬g=w.heap.size+1+1:=by omega
     have hg0':¬w.heap.size=g:=by omega
     have hg1':¬w.heap.size+1=g:=by omega
     have hg2':¬w.heap.size+1+1=g:=by omega
     have HSet:=h_ hset;obtain⟨s0,s1,s2,s3,s4,s5,s6,s7,s8⟩:=blk9 ((HBd.out.frm hf id).far (p:=⟨g,p * 9+7,none⟩) hg0' (.bool (n==1)));have hb4f:=(HB4.out.frm hf id).far (p:=⟨g,p * 9+7,none⟩) hg2' (.bool (n==1));obtain⟨t0,t1,t2,t3,t4,t5,t6,t7,t8⟩:=blk9 hb4f;have q0:=hb4f.frozen 0;have q1:=hb4f.frozen 1;have q2:=hb4f.frozen 2;have q3:=hb4f.frozen 3;have q4:=hb4f.frozen 4;have q5:=hb4f.frozen 5;have q6:=hb4f.frozen 6;have q7:=hb4f.frozen 7;have q8:=hb4f.frozen 8;clear hb4f;subst hgA;clear hf hset))
 obtain⟨wf,hwf⟩:∃ wf,wf=w2.setCell ⟨g,p * 9+7,none⟩ (.bool (n==1)):=⟨_,rfl⟩;have ff:Frm (fun k=>k=g) w2 wf:=by rw[hwf];exact(Frm.refl (fun k=>k=g) w2).setCell (.inl rfl) _
 have hb4:Blk wf (w.heap.size+1+1) 30 #[.int .i64 0,.slice none 0 0,.slice none 0 0,.slice none 0 0,.slice none 0 0,.int .i64 0,.int .i64 0,.int .i64 0,.int .i64 0]:=(HB4.out.frm Z2.out id).frm ff (by simpa using hg2');rw[← hwf] at HSet;obtain⟨we,hwe⟩:∃ we,we=wf.setCells (w.heap.size+1+1) 0 [.int .i64 x.clock,.slice fo.1 x.fols.length fo.2,.slice fe.1 x.fees.length fe.2,.slice (some ⟨g,0,none⟩) x.itms.length rc,.slice se.1 x.seas.length se.2,.int .i64 x.tFol,.int .i64 x.tFee,.int .i64 x.tItm,.int .i64 x.tSea]:=⟨_,rfl⟩
 have hbe:Blk we (w.heap.size+1+1) 30 #[.int .i64 x.clock,.slice fo.1 x.fols.length fo.2,.slice fe.1 x.fees.length fe.2,.slice (some ⟨g,0,none⟩) x.itms.length rc,.slice se.1 x.seas.length se.2,.int .i64 x.tFol,.int .i64 x.tFee,.int .i64 x.tItm,.int .i64 x.tSea]:=by
  have:=Blk.putL [.int .i64 x.clock,.slice fo.1 x.fols.length fo.2,.slice fe.1 x.fees.length fe.2,.slice (some ⟨g,0,none⟩) x.itms.length rc,.slice se.1 x.seas.length se.2,.int .i64 x.tFol,.int .i64 x.tFee,.int .i64 x.tItm,.int .i64 x.tSea] 0 hb4;rw[putL9] at this;rw[hwe];exact this
 have fe_:Frm (fun k=>k=w.heap.size+1+1) wf we:=by rw[hwe];exact Frm.setCells _ 0 (Frm.refl _ _) (.inl rfl)
 have HFin:Hid (Frm Nix w we):=((HFd.out.trans Z2.out).next ff (fun k hk=>.inr (by omega))).next fe_ (fun k hk=>.inr (by omega))
 have HBe:=h_ hbe
 have hrow:SlIn we (fun k=>w.heap.size≤k) 9 (some ⟨g,0,none⟩,rc) x.itms.length ((ts.flatMap itmC).set (p * 9+7) (.bool (n==1))):=by
  have hr3:=HSet.out.far fe_ (fun k hk=>by omega) (fun k hk e=>by simp[Value.ownBlock] at hk;omega);exact hr3.sl
 have hkt:p<ts.length:=by rw[hlen];exact hpl
 have het:(ts[p]'hkt).2=x.itms[p]:=itms_ts HS0.out hkt hpl
 have HL:Hid ((updI Itm.id a (fun t=>{t with star:=decide (n=1)}) x.itms)=x.itms.set p ((fun t=>{t with star:=decide (n=1)}) x.itms[p])):=by
  unfold Hid;have:=@updI_set _ Itm.id a (fun t=>{t with star:=decide (n=1)}) x.itms (by rw[hpi];exact hpl);simp only[hpi] at this;exact this
 rw[flat_set1 itmC_len ts p hkt ((ts[p]'hkt).1,((fun t=>{t with star:=decide (n=1)}) (ts[p]'hkt).2)) 7 (by decide) (.bool (n==1)) rfl] at hrow
 have hsame:(ts.set p ((ts[p]'hkt).1,((fun t=>{t with star:=decide (n=1)}) (ts[p]'hkt).2))).map (·.2)=(updI Itm.id a (fun t=>{t with star:=decide (n=1)}) x.itms):=by
  rw[List.map_set,HS0.out.same,HL.out,het]
 have hln:(updI Itm.id a (fun t=>{t with star:=decide (n=1)}) x.itms).length=x.itms.length:=by rw[HL.out,List.length_set]
 have hlt2:(ts.set p ((ts[p]'hkt).1,((fun t=>{t with star:=decide (n=1)}) (ts[p]'hkt).2))).length=x.itms.length:=by rw[List.length_set,hlen]
 rw[← hlt2] at hrow
 have htg:∀ q ∈ ts.set p ((ts[p]'hkt).1,((fun t=>{t with star:=decide (n=1)}) (ts[p]'hkt).2)),SlIn we (fun k=>G k∨w.heap.size≤k) 1 q.1 q.2.tags.length (q.2.tags.map Value.string):=fun q hq=>by
  rcases List.mem_or_eq_of_mem_set hq with hq | rfl
  ·exact((HS0.out.nix HFin.out).itms.tags q hq).mono fun k hk=>.inl hk
  ·exact((HS0.out.nix HFin.out).itms.tags _ (List.getElem_mem hkt)).mono fun k hk=>.inl hk
 simp only[World.setCells] at hwe;rw[hwf] at hwe;rw[← hwe];refine bodyPost_ret (rapply_ret HBe.out rfl rfl) rfl ?_;exact⟨fo,fe,(some ⟨g,0,none⟩,rc),se,_,by rw[← hln];rfl,⟨(HS0.out.nix HFin.out).fols.mono fun k hk=>.inl hk,(HS0.out.nix HFin.out).fees.mono fun k hk=>.inl hk,⟨hrow.mono fun k hk=>.inr hk,htg⟩,hsame,(HS0.out.nix HFin.out).seas.mono fun k hk=>.inl hk⟩,HFin.out⟩
theorem rapply10{w:World}{fo fe it se:Sl}{ts:List (Sl×Itm)}{x:St}{G:Nat→Prop}(hS:StIn w G fo fe it se ts x)(hsm:StSmall x){a b n:Int}{s t u:ByteArray}(hfit:fits x ⟨10,a,b,n,s,t,u⟩=true):
  Calls Tryz.prog 12 #[stV fo fe it se x,evV ⟨10,a,b,n,s,t,u⟩] w (ApOut w G (doS x ⟨10,a,b,n,s,t,u⟩) true):=by
 obtain⟨w0,hw0,hf0,hb1,hb2,hb3⟩:=box_ser w fo fe it se x 10 a b n s t u;have hcap:=hsm.itms
 have hi:isI Itm.id a x.itms=true:=by
  unfold fits at hfit
  cases hat:atI Itm.id a x.itms with
  | none=>rw[hat] at hfit;simp at hfit
  | some f=>exact isI_iff.2 ⟨f,List.mem_of_find?_eq_some hat,by simpa using List.find?_some hat⟩
 obtain⟨p,hpl,hp,-,-,hpi⟩:=posR_at hi;have HS0:=h_ hS;have HS:=h_ (hS.nix hf0);have HSm:=h_ hsm;have HB1:=h_ hb1;have HB2:=h_ hb2;have HB3:=h_ hb3;have HF0:=h_ hf0;have HW:=h_ hw0;have HFt:=h_ hfit
 have KFi:Hid (Calls Tryz.prog 48 #[stV fo fe it se x,.agg #[.int .i64 10,.int .i64 a,.int .i64 b,.int .i64 n,.string s,.string t,.string u]] w0 fun e w'=>e=.returned (.bool true)∧Frm Nix w0 w'):=by
  have:=rFits_any (hS.nix hf0) hsm ⟨10,a,b,n,s,t,u⟩;rw[hfit] at this;exact this
 clear hS hsm hf0 hb1 hb2 hb3 hw0 hfit;unfold stV evV;dsimp only;rw[do10 rfl];dsimp only;obtain⟨A,c⟩:=it;dsimp only at HS HS0 HB1 HW KFi ⊢;go_enter Tryz.func12,Tryz.ntmps12;show Code.wp Tryz.prog (peel 0 (bodyOf Tryz.f12)) _ _ _
 refine peelK (k':=1) fun K hK=>?_
 conv in hdC _=>whnf
 go_wp2;rw[← HW.out];obtain⟨e0,e1,e2,e3,e4,e5,e6⟩:=blk7 HB2.out;obtain⟨x0,x1,x2,x3,x4,x5,x6,x7,x8⟩:=blk9 HB1.out;refine peelK (k':=2) fun K hK=>?_
 conv in hdC _=>whnf
 go_wp2_with (go_at_call 48;refine KFi.out.mono ?_;rintro e w1 ⟨rfl,hf⟩;have Z1:=h_ hf;clear hf);clear x0 x1 x2 x3 x4 x5 x6 x7 x8 e0 e1 e2 e3 e4 e5 e6;obtain⟨e0,e1,e2,e3,e4,e5,e6⟩:=blk7 (HB2.out.frm Z1.out id);obtain⟨x0,x1,x2,x3,x4,x5,x6,x7,x8⟩:=blk9 (HB1.out.frm Z1.out id);have hlen:ts.length=x.itms.length:=HS0.out.len;have hs1:=(HS.out.nix Z1.out).itms.row;obtain⟨rA,rc,wa,hrun0,hrow⟩:=copy_run elemItm (c:=c) hs1.rd (itm_one ts) (by rw[hlen];exact hcap) (by omega);obtain⟨A2,c2,hsh,-,-,-,hblk⟩:=hrow.shape;injection hsh with hsA hsn hsc;subst hsA hsc;have hbs1:=HB1.out.frm Z1.out id;have hbs2:=HB2.out.frm Z1.out id;have hbs3:=HB3.out.frm Z1.out id;have h4l:=hbs3.lt;have fa:=hrow.frm;have hca:wa.cell? ⟨w.heap.size,3,none⟩=_:=((hbs1.frm fa id).cell 3).trans rfl;have hcf:=(hbs1.frm fa id).frozen 3;have hma:(w1.alloc (.cells #[] 54)).cell? ⟨w.heap.size,3,none⟩=some (.slice A x.itms.length c):=((hbs1.frm ((fR w1).alloc _) id).cell 3).trans rfl;have hnw:=World.new_ne w1 ⟨w.heap.size,3,none⟩ x3;rw[hlen] at hrun0 hrow;obtain⟨wd,hwd⟩:∃ wd,wd=wa.setCell ⟨w.heap.size,3,none⟩ (.slice rA x.itms.length rc):=⟨_,rfl⟩;have fd:Frm (fun k=>k=w.heap.size) wa wd:=by rw[hwd];exact(Frm.refl (fun k=>k=w.heap.size) wa).setCell (.inl rfl) _
 have HFd:Hid (Frm Nix w wd):=((HF0.out.trans Z1.out).trans fa).next fd (fun k hk=>.inr (by omega))
 have hob:∀ k,(Value.slice rA x.itms.length rc).ownBlock=some k→w1.heap.size≤k:=fun k hk=>by
  rcases rA with _ | ad
  ·simp[Value.ownBlock] at hk
  ·have:=(hblk ad rfl).2.2.1
   simp[Value.ownBlock] at hk;omega
 obtain⟨q,hkt,hq,hq2,htgq⟩:∃ (q:Sl×Itm) (hkt:p<ts.length),ts[p]'hkt=q∧q.2=x.itms[p]∧SlIn w G 1 q.1 q.2.tags.length (q.2.tags.map Value.string):=by
  obtain⟨hkt,h2⟩:=itms_at HS0.out hpl;exact⟨ts[p]'hkt,hkt,rfl,h2,HS0.out.itms.tags _ (List.getElem_mem hkt)⟩
 have htl:q.2.tags.length≤1000:=by rw[hq2];exact HSm.out.tags _ (List.getElem_mem hpl)
 have KT:Hid (∀ W,Frm Nix w W→Calls Tryz.prog 51 #[.slice q.1.1 q.2.tags.length q.1.2,.string s,.bool (n==1)] W fun e w'=>∃ v':Sl,e=.returned (.slice v'.1 (tagsS q.2.tags s (decide (n=1))).length v'.2)∧SlIn w' (fun k=>W.heap.size≤k) 1 v' (tagsS q.2.tags s (decide (n=1))).length ((tagsS q.2.tags s (decide (n=1))).map Value.string)∧Frm Nix W w'):=fun W hW=>rtags_any q.2.tags (htgq.nix hW) htl s _
 have hx8:(ts.flatMap itmC)[p * 9+8]? =some (.slice q.1.1 q.2.tags.length q.1.2):=by
  rw[flat_at itmC_len ts p hkt 8 (by decide),hq];rfl
 have HQ:=h_ (And.intro hq (And.intro hq2 htgq));clear hq hq2 htgq htl;have HRw:Hid (RowK 54 9 w wd (.slice rA x.itms.length rc) x.itms.length (ts.flatMap itmC)):=(hrow.since (HF0.out.trans Z1.out)).far fd (fun k hk=>by omega) (fun k hk e=>by have:=hob k hk;omega);have HBd:Hid (Blk wd w.heap.size 30 #[.int .i64 x.clock,.slice fo.1 x.fols.length fo.2,.slice fe.1 x.fees.length fe.2,.slice rA x.itms.length rc,.slice se.1 x.seas.length se.2,.int .i64 x.tFol,.int .i64 x.tFee,.int .i64 x.tItm,.int .i64 x.tSea]):=by unfold Hid;rw[hwd];exact((hbs1.frm fa id).set_ 3 _)
 have HBv:Hid (Blk wd (w.heap.size+1) 38 #[.int .i64 10,.int .i64 a,.int .i64 b,.int .i64 n,.string s,.string t,.string u]):=(hbs2.frm fa id).frm fd (by simp);have HB4:Hid (Blk wd (w.heap.size+1+1) 30 #[.int .i64 0,.slice none 0 0,.slice none 0 0,.slice none 0 0,.slice none 0 0,.int .i64 0,.int .i64 0,.int .i64 0,.int .i64 0]):=(hbs3.frm fa id).frm fd (by simp)
 have HSd:Hid (StIn wd (fun k=>G k∨w.heap.size≤k) fo fe (rA,rc) se ts x):=by
  have h0:=(HS0.out.nix HFd.out).mono (G':=fun k=>G k∨w.heap.size≤k) fun k hk=>.inl hk
  have h1:=hrow.sl.frm fd (fun k hk e=>by omega);rw[← hlen] at h1;exact⟨h0.fols,h0.fees,⟨h1.mono fun k hk=>.inr (by omega),h0.itms.tags⟩,h0.same,h0.seas⟩
 obtain⟨old,hx0⟩:∃ old,(ts.flatMap itmC)[p * 9+8]? =some old:=⟨_,by rw[flat_at itmC_len ts p (by rw[hlen];exact hpl) 8 (by decide)];rfl⟩
 have KF:Hid (Calls Tryz.prog 28 #[.agg #[.int .i64 x.clock,.slice fo.1 x.fols.length fo.2,.slice fe.1 x.fees.length fe.2,.slice rA x.itms.length rc,.slice se.1 x.seas.length se.2,.int .i64 x.tFol,.int .i64 x.tFee,.int .i64 x.tItm,.int .i64 x.tSea],.int .i64 a] wd fun e w'=>e=.returned (.int .i64 p)∧Frm Nix wd w'):=by
  have:=rItem_any HSd.out HSm.out a;rw[hp] at this;exact this
 obtain⟨z0,z1,z2,z3,z4,z5,z6,z7,z8⟩:=blk9 HBd.out;obtain⟨d0,d1,d2,d3,d4,d5,d6⟩:=blk7 HBv.out;have HWd:=h_ hwd;rw[hwd] at z0 z1 z2 z3 z4 z5 z6 z7 z8 d0 d1 d2 d3 d4 d5 d6;have HOb:=h_ hob;have HB3l:=h_ h4l;clear hs1 hrow hblk hbs1 hbs2 hbs3 h4l fa fd hob;simp only[peel,bodyOf,Tryz.f12]
 go_wp2_with (first
  | (at_builtin;refine wpList_append_run hrun0 rfl _ _ rfl rfl rfl ?_)
  | (go_at_call 28
     rw[← HWd.out];refine KF.out.mono ?_;rintro r w2 ⟨rfl,hf⟩;have Z2:=h_ hf;have HR2:Hid (RowK 54 9 w w2 (.slice rA x.itms.length rc) x.itms.length (ts.flatMap itmC)):=HRw.out.more hf;obtain⟨z0,z1,z2,z3,z4,z5,z6,z7,z8⟩:=blk9 (HBd.out.frm hf id);obtain⟨d0,d1,d2,d3,d4,d5,d6⟩:=blk7 (HBv.out.frm hf id);obtain⟨y0,y1,y2,y3,y4,y5,y6,y7,y8⟩:=blk9 (HB4.out.frm hf id);have g0:=(HB4.out.frm hf id).frozen 0;have g1:=(HB4.out.frm hf id).frozen 1;have g2:=(HB4.out.frm hf id).frozen 2;have g3:=(HB4.out.frm hf id).frozen 3;have g4:=(HB4.out.frm hf id).frozen 4;have g5:=(HB4.out.frm hf id).frozen 5;have g6:=(HB4.out.frm hf id).frozen 6;have g7:=(HB4.out.frm hf id).frozen 7;have g8:=(HB4.out.frm hf id).frozen 8;obtain⟨g,hgA,hgc,hgf,hset,hgl,hgl2⟩:=HR2.out.set_ (p * 9+8) (by omega) undef;have hgo:w.heap.size+1+1<g:=by have h1:=HOb.out g (by rw[hgA];rfl);have h2:=HB3l.out;omega
     have hg0:¬g=w.heap.size:=by omega
     have hg1:¬g=w.heap.size+1:=by omega
     have hg2:¬g=w.heap.size+1+1:=by omega
     have hg0':¬w.heap.size=g:=by omega
     have hg1':¬w.heap.size+1=g:=by omega
     have hg2':¬w.heap.size+1+1=g:=by omega
     rw[hx8] at hgc;have HC:Hid (∀ W,Frm Nix w2 W→W.cell? ⟨w.heap.size,3,none⟩=some (.slice rA x.itms.length rc)∧W.cell? ⟨w.heap.size+1,3,none⟩=some (.int .i64 n)∧W.cell? ⟨w.heap.size+1,4,none⟩=some (.string s)):=fun W hW=>⟨(hW.cell (p:=⟨w.heap.size,3,none⟩) ((HBd.out.frm hf id).lt) id).trans z3,(hW.cell (p:=⟨w.heap.size+1,3,none⟩) ((HBv.out.frm hf id).lt) id).trans d3,(hW.cell (p:=⟨w.heap.size+1,4,none⟩) ((HBv.out.frm hf id).lt) id).trans d4⟩
     subst hgA;clear hf hset))
 refine wp_region_held_drew (S:=fun W=>W.cell? ⟨w.heap.size,3,none⟩=some (.slice (some ⟨g,0,none⟩) x.itms.length rc)∧W.cell? ⟨w.heap.size+1,3,none⟩=some (.int .i64 n)∧W.cell? ⟨w.heap.size+1,4,none⟩=some (.string s)) (by kernel_rfl) (HC.out _ (fR w2).drew) fun hH=>?_
 refine tkq (i:=0) rfl (fun _ _ _ h=>h) hH ?_
 try simp only[lt,Act.put]
 refine tkq (i:=1) rfl (fun _ _ _ h=>h) hH ?_
 try simp only[lt,Act.put]
 refine tkq (i:=2) rfl (fun _ _ _ h=>h) hH ?_
 try simp only[lt,Act.put]
 refine tkq (i:=3) rfl (fun _ _ _ h=>h) hH ?_
 try simp only[lt,Act.put]
 refine tkq (i:=4) rfl (fun _ _ _ h=>h) hH ?_
 try simp only[lt,Act.put]
 refine tkq (i:=5) rfl (fun _ _ _ h=>h) hH ?_
 try simp only[lt,Act.put]
 refine tkq (i:=6) rfl (fun _ _ _ h=>h) hH ?_
 try simp only[lt,Act.put]
 refine tkq (i:=7) rfl (fun _ _ _ h=>h) hH ?_
 try simp only[lt,Act.put]
 refine tkq (i:=9) rfl (fun _ _ _ h=>h) hH ?_
 try simp only[lt,Act.put]
 refine tkq (i:=10) rfl (fun _ _ _ h=>h) hH ?_
 try simp only[lt,Act.put]
 refine tkq (i:=11) rfl (fun _ _ _ h=>h) hH ?_
 try simp only[lt,Act.put]
 refine tkq (i:=12) rfl (fun _ _ _ h=>h) hH ?_
 try simp only[lt,Act.put]
 refine tkq (i:=13) rfl (fun _ _ _ h=>h) hH ?_
 try simp only[lt,Act.put]
 refine rdy1 (i:=8) rfl (fun K hK=>?_);go_simp;refine hK.out _ _ (HC.out _ (fR w2).drew) (fun hH=>?_);clear hK K
 try simp only[lt,Act.put]
 refine rdy1 (i:=14) rfl (fun K hK=>?_);go_simp;go_at_call 51;refine(KT.out _ ((HFd.out.trans Z2.out).drew)).mono ?_;rintro r w3 ⟨v',rfl,hv,hf⟩;have HV:=h_ hv;have Z3:Hid (Frm Nix w2 w3):=(fR w2).drew.trans hf;have hg3:=(HR2.out.more Z3.out).set_ (p * 9+8) (by omega) (.slice v'.1 (tagsS q.2.tags s (decide (n=1))).length v'.2);obtain⟨g',hgA,hgc3,hgf3,hset,-,-⟩:=hg3;injection hgA with hgA;injection hgA with hgA;subst hgA;rw[hx8] at hgc3;have HSet:=h_ hset;clear hf hv hset;dsimp only;refine hK.out _ _ (HC.out _ Z3.out) (fun hH=>?_);clear hK K
 try simp only[lt,Act.put]
 refine tkq (i:=15) rfl (fun _ _ _ h=>h) hH ?_
 try simp only[lt,Act.put]
 refine tkq (i:=16) rfl (fun _ _ _ h=>h) hH ?_
 try simp only[lt,Act.put]
 refine rdy1 (i:=17) rfl (fun K hK=>?_);go_simp;refine hK.out _ _ (by first | exact HC.out _ Z3.out | go_keep) (fun hH=>?_);clear hK K
 try simp only[lt,Act.put]
 refine wpAnyH_done (by kernel_rfl) ?_ _;have hset:=HSet.out;obtain⟨wf,hwf⟩:∃ wf,wf=w3.setCell ⟨g,p * 9+8,none⟩ (.slice v'.1 (tagsS q.2.tags s (decide (n=1))).length v'.2):=⟨_,rfl⟩;rw[← hwf] at hset ⊢;have ff:Frm (fun k=>k=g) w3 wf:=by rw[hwf];exact(Frm.refl (fun k=>k=g) w3).setCell (.inl rfl) _
 have hb4:Blk wf (w.heap.size+1+1) 30 #[.int .i64 0,.slice none 0 0,.slice none 0 0,.slice none 0 0,.slice none 0 0,.int .i64 0,.int .i64 0,.int .i64 0,.int .i64 0]:=(HB4.out.frm (Z2.out.trans Z3.out) id).frm ff (by simpa using hg2');have hbs:Blk wf w.heap.size 30 #[.int .i64 x.clock,.slice fo.1 x.fols.length fo.2,.slice fe.1 x.fees.length fe.2,.slice (some ⟨g,0,none⟩) x.itms.length rc,.slice se.1 x.seas.length se.2,.int .i64 x.tFol,.int .i64 x.tFee,.int .i64 x.tItm,.int .i64 x.tSea]:=(HBd.out.frm (Z2.out.trans Z3.out) id).frm ff (by simpa using hg0');clear hwf;clear z0 z1 z2 z3 z4 z5 z6 z7 z8 y0 y1 y2 y3 y4 y5 y6 y7 y8 g0 g1 g2 g3 g4 g5 g6 g7 g8 d0 d1 d2 d3 d4 d5 d6;obtain⟨z0,z1,z2,z3,z4,z5,z6,z7,z8⟩:=blk9 hbs;obtain⟨y0,y1,y2,y3,y4,y5,y6,y7,y8⟩:=blk9 hb4;have g0:=hb4.frozen 0;have g1:=hb4.frozen 1;have g2:=hb4.frozen 2;have g3:=hb4.frozen 3;have g4:=hb4.frozen 4;have g5:=hb4.frozen 5;have g6:=hb4.frozen 6;have g7:=hb4.frozen 7;have g8:=hb4.frozen 8;go_wp2;obtain⟨we,hwe⟩:∃ we,we=wf.setCells (w.heap.size+1+1) 0 [.int .i64 x.clock,.slice fo.1 x.fols.length fo.2,.slice fe.1 x.fees.length fe.2,.slice (some ⟨g,0,none⟩) x.itms.length rc,.slice se.1 x.seas.length se.2,.int .i64 x.tFol,.int .i64 x.tFee,.int .i64 x.tItm,.int .i64 x.tSea]:=⟨_,rfl⟩
 have hbe:Blk we (w.heap.size+1+1) 30 #[.int .i64 x.clock,.slice fo.1 x.fols.length fo.2,.slice fe.1 x.fees.length fe.2,.slice (some ⟨g,0,none⟩) x.itms.length rc,.slice se.1 x.seas.length se.2,.int .i64 x.tFol,.int .i64 x.tFee,.int .i64 x.tItm,.int .i64 x.tSea]:=by
  have:=Blk.putL [.int .i64 x.clock,.slice fo.1 x.fols.length fo.2,.slice fe.1 x.fees.length fe.2,.slice (some ⟨g,0,none⟩) x.itms.length rc,.slice se.1 x.seas.length se.2,.int .i64 x.tFol,.int .i64 x.tFee,.int .i64 x.tItm,.int .i64 x.tSea] 0 hb4;rw[putL9] at this;rw[hwe];exact this
 have fe_:Frm (fun k=>k=w.heap.size+1+1) wf we:=by rw[hwe];exact Frm.setCells _ 0 (Frm.refl _ _) (.inl rfl)
 have HFin:Hid (Frm Nix w we):=(((HFd.out.trans Z2.out).trans Z3.out).next ff (fun k hk=>.inr (by omega))).next fe_ (fun k hk=>.inr (by omega))
 have HBe:=h_ hbe
 have hrow:SlIn we (fun k=>w.heap.size≤k) 9 (some ⟨g,0,none⟩,rc) x.itms.length ((ts.flatMap itmC).set (p * 9+8) (.slice v'.1 (tagsS q.2.tags s (decide (n=1))).length v'.2)):=by
  have hr3:=hset.far fe_ (fun k hk=>by omega) (fun k hk e=>by simp[Value.ownBlock] at hk;omega);exact hr3.sl
 have HL:Hid ((updI Itm.id a (fun t=>{t with tags:=tagsS t.tags s (decide (n=1))}) x.itms)=x.itms.set p ((fun t=>{t with tags:=tagsS t.tags s (decide (n=1))}) x.itms[p])):=by
  unfold Hid;have:=@updI_set _ Itm.id a (fun t=>{t with tags:=tagsS t.tags s (decide (n=1))}) x.itms (by rw[hpi];exact hpl);simp only[hpi] at this;exact this
 obtain⟨hq,hq2,htgq⟩:=HQ.out;rw[flat_set1 itmC_len ts p hkt (v',((fun t=>{t with tags:=tagsS t.tags s (decide (n=1))}) q.2)) 8 (by decide) _ (by rw[hq];rfl)] at hrow
 have hsame:(ts.set p (v',((fun t=>{t with tags:=tagsS t.tags s (decide (n=1))}) q.2))).map (·.2)=(updI Itm.id a (fun t=>{t with tags:=tagsS t.tags s (decide (n=1))}) x.itms):=by
  rw[List.map_set,HS0.out.same,HL.out,hq2]
 have hln:(updI Itm.id a (fun t=>{t with tags:=tagsS t.tags s (decide (n=1))}) x.itms).length=x.itms.length:=by rw[HL.out,List.length_set]
 have hlt2:(ts.set p (v',((fun t=>{t with tags:=tagsS t.tags s (decide (n=1))}) q.2))).length=x.itms.length:=by rw[List.length_set,hlen]
 rw[← hlt2] at hrow;have hw2:=HBd.out.lt;have hw2':=Z2.out.size
 have hV:SlIn we (fun k=>G k∨w.heap.size≤k) 1 v' (tagsS q.2.tags s (decide (n=1))).length ((tagsS q.2.tags s (decide (n=1))).map Value.string):=by
  have h1:w2.heap.size≤w2.drew.heap.size:=(fR w2).drew.size;refine((HV.out.frm ff ?_).frm fe_ ?_).mono ?_
  ·exact fun k hk e=>by subst e;first | omega | (simp at hk;omega)
  ·exact fun k hk e=>by subst e;first | omega | (simp at hk;omega)
  ·exact fun k hk=>.inr (by first | omega | (simp at hk;omega))
 have htg:∀ q' ∈ ts.set p (v',((fun t=>{t with tags:=tagsS t.tags s (decide (n=1))}) q.2)),SlIn we (fun k=>G k∨w.heap.size≤k) 1 q'.1 q'.2.tags.length (q'.2.tags.map Value.string):=fun q' hq'=>by
  rcases List.mem_or_eq_of_mem_set hq' with hq' | rfl
  ·exact((HS0.out.nix HFin.out).itms.tags q' hq').mono fun k hk=>.inl hk
  ·exact hV
 simp only[World.setCells] at hwe;rw[← hwe];refine bodyPost_ret (rapply_ret HBe.out rfl rfl) rfl ?_;exact⟨fo,fe,(some ⟨g,0,none⟩,rc),se,_,by rw[← hln];rfl,⟨(HS0.out.nix HFin.out).fols.mono fun k hk=>.inl hk,(HS0.out.nix HFin.out).fees.mono fun k hk=>.inl hk,⟨hrow.mono fun k hk=>.inr hk,htg⟩,hsame,(HS0.out.nix HFin.out).seas.mono fun k hk=>.inl hk⟩,HFin.out⟩
theorem applyS_snd(x:St)(e:Ev):(applyS x e).2=fits x e:=by
 unfold applyS
 cases h:fits x e<;>simp[h]
theorem rApply_any{w:World}{fo fe it se:Sl}{ts:List (Sl×Itm)}{x:St}{G:Nat→Prop}(hS:StIn w G fo fe it se ts x)(hsm:StSmall x)(e:Ev):
  Calls Tryz.prog 12 #[stV fo fe it se x,evV e] w (ApOut w G (applyS x e).1 (applyS x e).2):=by
 obtain⟨k,a,b,n,s,t,u⟩:=e
 cases hf:fits x ⟨k,a,b,n,s,t,u⟩ with
 | false=>
   have h1:applyS x ⟨k,a,b,n,s,t,u⟩=(x,false):=by unfold applyS;rw[hf];rfl
   rw[h1]
   exact rapply_no hS hsm hf
 | true=>
   have h1:applyS x ⟨k,a,b,n,s,t,u⟩=(doS x ⟨k,a,b,n,s,t,u⟩,true):=by unfold applyS;rw[hf];rfl
   rw[h1];have:=evKind (fits_ev hf);simp only at this;rcases this with h | h | h | h | h | h | h | h | h | h | h | h | h
   ·exact rapply_made hS hsm (by omega) hf
   ·exact rapply_gone hS hsm (by omega) hf
   ·exact rapply_made hS hsm (by omega) hf
   ·exact rapply_gone hS hsm (by omega) hf
   ·subst h;exact rapply5 hS hsm hf
   ·subst h;exact rapply6 hS hsm hf
   ·exact rapply_made hS hsm (by omega) hf
   ·subst h;exact rapply8 hS hsm hf
   ·subst h;exact rapply9 hS hsm hf
   ·subst h;exact rapply10 hS hsm hf
   ·exact rapply_made hS hsm (by omega) hf
   ·exact rapply_gone hS hsm (by omega) hf
   ·subst h;exact rapply13 hS hsm hf
theorem evs_cells{w wr:World}{G:Nat→Prop}{A:Option Addr}{c:Nat}{l:List Ev}(hv:SlIn w G 7 (A,c) l.length (l.flatMap Ev.cells))(hf:Frm Nix w wr){k:Nat}(hk:k<l.length):∃ b off,A=some ⟨b,off,none⟩∧G b∧b<wr.heap.size∧
  ∀ (F:Nat→Prop) W,¬F b→Frm F wr W→W.cell? ⟨b,off+k * 7,none⟩=some (.int .i64 l[k].kind)∧W.cell? ⟨b,off+k * 7+1,none⟩=some (.int .i64 l[k].a)∧W.cell? ⟨b,off+k * 7+2,none⟩=some (.int .i64 l[k].b)∧W.cell? ⟨b,off+k * 7+3,none⟩=some (.int .i64 l[k].n)∧W.cell? ⟨b,off+k * 7+4,none⟩=some (.string l[k].s)∧W.cell? ⟨b,off+k * 7+5,none⟩=some (.string l[k].t)∧W.cell? ⟨b,off+k * 7+6,none⟩=some (.string l[k].u):=by
 obtain⟨b,off,hA,hG,hbl,hcell⟩:=(hv.nix hf).at_ Ev.clen (by decide) (by omega);refine⟨b,off,hA,hG,hbl,fun F W hn hW=>?_⟩;obtain⟨x0,x1,x2,x3,x4,x5,x6⟩:=evc7 (w:=wr) (b:=b) (off:=off+k * 7) (e:=l[k]) (hcell k hk);exact⟨(hW.cell (p:=⟨b,off+k * 7,none⟩) hbl hn).trans x0,(hW.cell (p:=⟨b,off+k * 7+1,none⟩) hbl hn).trans x1,(hW.cell (p:=⟨b,off+k * 7+2,none⟩) hbl hn).trans x2,(hW.cell (p:=⟨b,off+k * 7+3,none⟩) hbl hn).trans x3,(hW.cell (p:=⟨b,off+k * 7+4,none⟩) hbl hn).trans x4,(hW.cell (p:=⟨b,off+k * 7+5,none⟩) hbl hn).trans x5,(hW.cell (p:=⟨b,off+k * 7+6,none⟩) hbl hn).trans x6⟩
end Go.Proofs.YtlafbakoefcifaaGreat
