/-
  Contracts: the document's Apply: items turned.
-/
import Derived.Test.YtlafbakoefcifaaGreatGa50
import Derived.Test.YtlafbakoefcifaaGreatGa45
import Derived.Test.YtlafbakoefcifaaGreatGa14
set_option linter.unusedVariables false
set_option linter.unusedSimpArgs false
set_option maxRecDepth 100000
set_option maxHeartbeats 16000000
namespace Go.Proofs.YtlafbakoefcifaaGreat
open Go.RowKit Go.Lib
theorem itms_ts {w:World} {G:Nat→Prop} {fo fe it se:Sl} {ts:List (Sl×Itm)} {x:St} (h:StIn w G fo fe it se ts x) {p:Nat} (hk:p<ts.length) (hp:p<x.itms.length):(ts[p]'hk).2=x.itms[p]:=by
 obtain⟨h1,h2⟩:=itms_at h hp
 exact h2
theorem rapply8 {w:World} {fo fe it se:Sl} {ts:List (Sl×Itm)} {x:St} {G:Nat→Prop} (hS:StIn w G fo fe it se ts x) (hsm:StSmall x) {a b n:Int} {s t u:ByteArray} (hfit:fits x ⟨8,a,b,n,s,t,u⟩=true):
  Calls Tryz.prog 12 #[stV fo fe it se x,evV ⟨8,a,b,n,s,t,u⟩] w (ApOut w G (doS x ⟨8,a,b,n,s,t,u⟩) true):=by
 obtain⟨w0,hw0,hf0,hb1,hb2,hb3⟩:=box_ser w fo fe it se x 8 a b n s t u
 have hcap:=hsm.itms
 have hi:isI Itm.id a x.itms=true:=by
  unfold fits at hfit;simp at hfit;exact hfit.2
 obtain⟨p,hpl,hp,-,-,hpi⟩:=posR_at hi
 have HS0:=Lib.hid hS
 have HS:=Lib.hid (hS.nix hf0)
 have HSm:=Lib.hid hsm
 have HB1:=Lib.hid hb1
 have HB2:=Lib.hid hb2
 have HB3:=Lib.hid hb3
 have HF0:=Lib.hid hf0
 have HW:=Lib.hid hw0
 have HFt:=Lib.hid hfit
 have KFi:Hid (Calls Tryz.prog 48 #[.agg #[.int .i64 x.clock,.slice fo.1 x.fols.length fo.2,.slice fe.1 x.fees.length fe.2,.slice it.1 x.itms.length it.2,.slice se.1 x.seas.length se.2,.int .i64 x.tFol,.int .i64 x.tFee,.int .i64 x.tItm,.int .i64 x.tSea],.agg #[.int .i64 8,.int .i64 a,.int .i64 b,.int .i64 n,.string s,.string t,.string u]] w0 fun e w'=>e=.returned (.bool true)∧Frm Nix w0 w'):=by
  have:=rFits_any (hS.nix hf0) hsm ⟨8,a,b,n,s,t,u⟩
  rw[hfit] at this
  exact this
 clear hS hsm hf0 hb1 hb2 hb3 hw0 hfit
 unfold stV evV
 dsimp only
 rw[do8 rfl]
 dsimp only
 obtain⟨A,c⟩:=it
 dsimp only at HS HS0 HB1 HW KFi ⊢
 go_enter Tryz.func12,Tryz.ntmps12
 show Code.wp Tryz.prog (peel 0 (bodyOf Tryz.f12)) _ _ _
 have e1:peel 0 (bodyOf Tryz.f12)=.seq (hdC (peel 0 (bodyOf Tryz.f12))) (peel 1 (bodyOf Tryz.f12)):=by kernel_rfl
 rw[e1]
 clear e1
 refine wp_seq_k fun K hK=>?_
 conv in hdC _=>whnf
 go_wp2
 rw[← HW.out]
 obtain⟨e0,e1,e2,e3,e4,e5,e6⟩:=blk7 HB2.out
 obtain⟨x0,x1,x2,x3,x4,x5,x6,x7,x8⟩:=blk9 HB1.out
 have e1:peel 1 (bodyOf Tryz.f12)=.seq (hdC (peel 1 (bodyOf Tryz.f12))) (peel 2 (bodyOf Tryz.f12)):=by kernel_rfl
 rw[e1]
 clear e1
 refine wp_seq_k fun K hK=>?_
 conv in hdC _=>whnf
 go_wp2_with (go_at_call 48;refine KFi.out.mono ?_;rintro e w1 ⟨rfl,hf⟩;have Z1:=Lib.hid hf;clear hf)
 clear x0 x1 x2 x3 x4 x5 x6 x7 x8 e0 e1 e2 e3 e4 e5 e6
 obtain⟨e0,e1,e2,e3,e4,e5,e6⟩:=blk7 (HB2.out.frm Z1.out id)
 obtain⟨x0,x1,x2,x3,x4,x5,x6,x7,x8⟩:=blk9 (HB1.out.frm Z1.out id)
 have hlen:ts.length=x.itms.length:=HS0.out.len
 have hs1:=(HS.out.nix Z1.out).itms.row
 obtain⟨rA,rc,wa,hrun0,hrow⟩:=copy_run elemItm (c:=c) hs1.rd (itm_one ts) (by rw[hlen];exact hcap) (by omega)
 obtain⟨A2,c2,hsh,-,-,-,hblk⟩:=hrow.shape
 injection hsh with hsA hsn hsc
 subst hsA hsc
 have hbs1:=HB1.out.frm Z1.out id
 have hbs2:=HB2.out.frm Z1.out id
 have hbs3:=HB3.out.frm Z1.out id
 have h4l:=hbs3.lt
 have fa:=hrow.frm
 have hca:wa.cell? ⟨w.heap.size,3,none⟩=_:=((hbs1.frm fa id).cell 3).trans rfl
 have hcf:=(hbs1.frm fa id).frozen 3
 have hma:(w1.alloc (.cells #[] 54)).cell? ⟨w.heap.size,3,none⟩=some (.slice A x.itms.length c):=((hbs1.frm ((Frm.refl Nix w1).alloc _) id).cell 3).trans rfl
 have hnw:=World.new_ne w1 ⟨w.heap.size,3,none⟩ x3
 rw[hlen] at hrun0 hrow
 obtain⟨wd,hwd⟩:∃ wd,wd=wa.setCell ⟨w.heap.size,3,none⟩ (.slice rA x.itms.length rc):=⟨_,rfl⟩
 have fd:Frm (fun k=>k=w.heap.size) wa wd:=by rw[hwd];exact(Frm.refl (fun k=>k=w.heap.size) wa).setCell (.inl rfl) _
 have HFd:Hid (Frm Nix w wd):=((HF0.out.trans Z1.out).trans fa).next fd (fun k hk=>.inr (by omega))
 have hob:∀ k,(Value.slice rA x.itms.length rc).ownBlock=some k→w1.heap.size≤k:=fun k hk=>by
  rcases rA with _ | ad
  ·simp[Value.ownBlock] at hk
  ·have:=(hblk ad rfl).2.2.1
   simp[Value.ownBlock] at hk
   omega
 have HRw:Hid (RowK 54 9 w wd (.slice rA x.itms.length rc) x.itms.length (ts.flatMap itmC)):=(hrow.since (HF0.out.trans Z1.out)).far fd (fun k hk=>by omega) (fun k hk e=>by have:=hob k hk;omega)
 have HBd:Hid (Blk wd w.heap.size 30 #[.int .i64 x.clock,.slice fo.1 x.fols.length fo.2,.slice fe.1 x.fees.length fe.2,.slice rA x.itms.length rc,.slice se.1 x.seas.length se.2,.int .i64 x.tFol,.int .i64 x.tFee,.int .i64 x.tItm,.int .i64 x.tSea]):=by unfold Hid;rw[hwd];exact((hbs1.frm fa id).set_ 3 _)
 have HBv:Hid (Blk wd (w.heap.size+1) 38 #[.int .i64 8,.int .i64 a,.int .i64 b,.int .i64 n,.string s,.string t,.string u]):=(hbs2.frm fa id).frm fd (by simp)
 have HB4:Hid (Blk wd (w.heap.size+1+1) 30 #[.int .i64 0,.slice none 0 0,.slice none 0 0,.slice none 0 0,.slice none 0 0,.int .i64 0,.int .i64 0,.int .i64 0,.int .i64 0]):=(hbs3.frm fa id).frm fd (by simp)
 have HSd:Hid (StIn wd (fun k=>G k∨w.heap.size≤k) fo fe (rA,rc) se ts x):=by
  have h0:=(HS0.out.nix HFd.out).mono (G':=fun k=>G k∨w.heap.size≤k) fun k hk=>.inl hk
  have h1:=hrow.sl.frm fd (fun k hk e=>by omega)
  rw[← hlen] at h1
  exact⟨h0.fols,h0.fees,⟨h1.mono fun k hk=>.inr (by omega),h0.itms.tags⟩,h0.same,h0.seas⟩
 obtain⟨old,hx0⟩:∃ old,(ts.flatMap itmC)[p * 9+6]? =some old:=⟨_,by rw[flat_at itmC_len ts p (by rw[hlen];exact hpl) 6 (by decide)];rfl⟩
 have KF:Hid (Calls Tryz.prog 28 #[.agg #[.int .i64 x.clock,.slice fo.1 x.fols.length fo.2,.slice fe.1 x.fees.length fe.2,.slice rA x.itms.length rc,.slice se.1 x.seas.length se.2,.int .i64 x.tFol,.int .i64 x.tFee,.int .i64 x.tItm,.int .i64 x.tSea],.int .i64 a] wd fun e w'=>e=.returned (.int .i64 p)∧Frm Nix wd w'):=by
  have:=rItem_any HSd.out HSm.out a
  rw[hp] at this
  exact this
 obtain⟨z0,z1,z2,z3,z4,z5,z6,z7,z8⟩:=blk9 HBd.out
 obtain⟨d0,d1,d2,d3,d4,d5,d6⟩:=blk7 HBv.out
 have HWd:=Lib.hid hwd
 rw[hwd] at z0 z1 z2 z3 z4 z5 z6 z7 z8 d0 d1 d2 d3 d4 d5 d6
 have HOb:=Lib.hid hob
 have HB3l:=Lib.hid h4l
 clear hs1 hrow hblk hbs1 hbs2 hbs3 h4l fa fd hob
 simp only[peel,bodyOf,Tryz.f12]
 go_wp2_with (first
  | (at_builtin;refine wpList_append_run hrun0 rfl _ _ rfl rfl rfl ?_)
  | (go_at_call 28
     rw[← HWd.out]
     refine KF.out.mono ?_
     rintro r w2 ⟨rfl,hf⟩
     have Z2:=Lib.hid hf
     have HR2:Hid (RowK 54 9 w w2 (.slice rA x.itms.length rc) x.itms.length (ts.flatMap itmC)):=HRw.out.more hf
     obtain⟨z0,z1,z2,z3,z4,z5,z6,z7,z8⟩:=blk9 (HBd.out.frm hf id)
     obtain⟨d0,d1,d2,d3,d4,d5,d6⟩:=blk7 (HBv.out.frm hf id)
     obtain⟨y0,y1,y2,y3,y4,y5,y6,y7,y8⟩:=blk9 (HB4.out.frm hf id)
     have g0:=(HB4.out.frm hf id).frozen 0;have g1:=(HB4.out.frm hf id).frozen 1;have g2:=(HB4.out.frm hf id).frozen 2;have g3:=(HB4.out.frm hf id).frozen 3;have g4:=(HB4.out.frm hf id).frozen 4;have g5:=(HB4.out.frm hf id).frozen 5;have g6:=(HB4.out.frm hf id).frozen 6;have g7:=(HB4.out.frm hf id).frozen 7;have g8:=(HB4.out.frm hf id).frozen 8
     obtain⟨g,hgA,hgc,hgf,hset,hgl,hgl2⟩:=HR2.out.set_ (p * 9+6) (by omega) (.bool (n==1))
     rw[hx0] at hgc
     have hgo:w.heap.size+1+1<g:=by have h1:=HOb.out g (by rw[hgA];rfl);have h2:=HB3l.out;omega
     have hg0:¬g=w.heap.size:=by omega
     have hg1:¬g=w.heap.size+1:=by omega
     have hg2:¬g=w.heap.size+1+1:=by omega
     have hg0':¬w.heap.size=g:=by omega
     have hg1':¬w.heap.size+1=g:=by omega
     have hg2':¬w.heap.size+1+1=g:=by omega
     have HSet:=Lib.hid hset
     obtain⟨s0,s1,s2,s3,s4,s5,s6,s7,s8⟩:=blk9 ((HBd.out.frm hf id).far (p:=⟨g,p * 9+6,none⟩) hg0' (.bool (n==1)))
     have hb4f:=(HB4.out.frm hf id).far (p:=⟨g,p * 9+6,none⟩) hg2' (.bool (n==1))
     obtain⟨t0,t1,t2,t3,t4,t5,t6,t7,t8⟩:=blk9 hb4f
     have q0:=hb4f.frozen 0;have q1:=hb4f.frozen 1;have q2:=hb4f.frozen 2;have q3:=hb4f.frozen 3;have q4:=hb4f.frozen 4;have q5:=hb4f.frozen 5;have q6:=hb4f.frozen 6;have q7:=hb4f.frozen 7;have q8:=hb4f.frozen 8
     clear hb4f
     subst hgA
     clear hf hset))
 obtain⟨wf,hwf⟩:∃ wf,wf=w2.setCell ⟨g,p * 9+6,none⟩ (.bool (n==1)):=⟨_,rfl⟩
 have ff:Frm (fun k=>k=g) w2 wf:=by rw[hwf];exact(Frm.refl (fun k=>k=g) w2).setCell (.inl rfl) _
 have hb4:Blk wf (w.heap.size+1+1) 30 #[.int .i64 0,.slice none 0 0,.slice none 0 0,.slice none 0 0,.slice none 0 0,.int .i64 0,.int .i64 0,.int .i64 0,.int .i64 0]:=(HB4.out.frm Z2.out id).frm ff (by simpa using hg2')
 rw[← hwf] at HSet
 obtain⟨we,hwe⟩:∃ we,we=wf.setCells (w.heap.size+1+1) 0 [.int .i64 x.clock,.slice fo.1 x.fols.length fo.2,.slice fe.1 x.fees.length fe.2,.slice (some ⟨g,0,none⟩) x.itms.length rc,.slice se.1 x.seas.length se.2,.int .i64 x.tFol,.int .i64 x.tFee,.int .i64 x.tItm,.int .i64 x.tSea]:=⟨_,rfl⟩
 have hbe:Blk we (w.heap.size+1+1) 30 #[.int .i64 x.clock,.slice fo.1 x.fols.length fo.2,.slice fe.1 x.fees.length fe.2,.slice (some ⟨g,0,none⟩) x.itms.length rc,.slice se.1 x.seas.length se.2,.int .i64 x.tFol,.int .i64 x.tFee,.int .i64 x.tItm,.int .i64 x.tSea]:=by
  have:=Blk.putL [.int .i64 x.clock,.slice fo.1 x.fols.length fo.2,.slice fe.1 x.fees.length fe.2,.slice (some ⟨g,0,none⟩) x.itms.length rc,.slice se.1 x.seas.length se.2,.int .i64 x.tFol,.int .i64 x.tFee,.int .i64 x.tItm,.int .i64 x.tSea] 0 hb4
  rw[putL9] at this
  rw[hwe]
  exact this
 have fe_:Frm (fun k=>k=w.heap.size+1+1) wf we:=by rw[hwe];exact Frm.setCells _ 0 (Frm.refl _ _) (.inl rfl)
 have HFin:Hid (Frm Nix w we):=((HFd.out.trans Z2.out).next ff (fun k hk=>.inr (by omega))).next fe_ (fun k hk=>.inr (by omega))
 have HBe:=Lib.hid hbe
 have hrow:SlIn we (fun k=>w.heap.size≤k) 9 (some ⟨g,0,none⟩,rc) x.itms.length ((ts.flatMap itmC).set (p * 9+6) (.bool (n==1))):=by
  have hr3:=HSet.out.far fe_ (fun k hk=>by omega) (fun k hk e=>by simp[Value.ownBlock] at hk;omega)
  exact hr3.sl
 have hkt:p<ts.length:=by rw[hlen];exact hpl
 have het:(ts[p]'hkt).2=x.itms[p]:=itms_ts HS0.out hkt hpl
 have HL:Hid ((updI Itm.id a (fun t=>{t with read:=decide (n=1)}) x.itms)=x.itms.set p ((fun t=>{t with read:=decide (n=1)}) x.itms[p])):=by
  unfold Hid
  have:=@updI_set _ Itm.id a (fun t=>{t with read:=decide (n=1)}) x.itms (by rw[hpi];exact hpl)
  simp only[hpi] at this
  exact this
 rw[flat_set1 itmC_len ts p hkt ((ts[p]'hkt).1,((fun t=>{t with read:=decide (n=1)}) (ts[p]'hkt).2)) 6 (by decide) (.bool (n==1)) rfl] at hrow
 have hsame:(ts.set p ((ts[p]'hkt).1,((fun t=>{t with read:=decide (n=1)}) (ts[p]'hkt).2))).map (·.2)=(updI Itm.id a (fun t=>{t with read:=decide (n=1)}) x.itms):=by
  rw[List.map_set,HS0.out.same,HL.out,het]
 have hln:(updI Itm.id a (fun t=>{t with read:=decide (n=1)}) x.itms).length=x.itms.length:=by rw[HL.out,List.length_set]
 have hlt2:(ts.set p ((ts[p]'hkt).1,((fun t=>{t with read:=decide (n=1)}) (ts[p]'hkt).2))).length=x.itms.length:=by rw[List.length_set,hlen]
 rw[← hlt2] at hrow
 have htg:∀ q ∈ ts.set p ((ts[p]'hkt).1,((fun t=>{t with read:=decide (n=1)}) (ts[p]'hkt).2)),SlIn we (fun k=>G k∨w.heap.size≤k) 1 q.1 q.2.tags.length (q.2.tags.map Value.string):=fun q hq=>by
  rcases List.mem_or_eq_of_mem_set hq with hq | rfl
  ·exact((HS0.out.nix HFin.out).itms.tags q hq).mono fun k hk=>.inl hk
  ·exact((HS0.out.nix HFin.out).itms.tags _ (List.getElem_mem hkt)).mono fun k hk=>.inl hk
 simp only[World.setCells] at hwe
 rw[hwf] at hwe
 rw[← hwe]
 refine bodyPost_ret (rapply_ret HBe.out rfl rfl) rfl ?_
 exact⟨fo,fe,(some ⟨g,0,none⟩,rc),se,_,by rw[← hln];rfl,⟨(HS0.out.nix HFin.out).fols.mono fun k hk=>.inl hk,(HS0.out.nix HFin.out).fees.mono fun k hk=>.inl hk,⟨hrow.mono fun k hk=>.inr hk,htg⟩,hsame,(HS0.out.nix HFin.out).seas.mono fun k hk=>.inl hk⟩,HFin.out⟩
theorem rapply9 {w:World} {fo fe it se:Sl} {ts:List (Sl×Itm)} {x:St} {G:Nat→Prop} (hS:StIn w G fo fe it se ts x) (hsm:StSmall x) {a b n:Int} {s t u:ByteArray} (hfit:fits x ⟨9,a,b,n,s,t,u⟩=true):
  Calls Tryz.prog 12 #[stV fo fe it se x,evV ⟨9,a,b,n,s,t,u⟩] w (ApOut w G (doS x ⟨9,a,b,n,s,t,u⟩) true):=by
 obtain⟨w0,hw0,hf0,hb1,hb2,hb3⟩:=box_ser w fo fe it se x 9 a b n s t u
 have hcap:=hsm.itms
 have hi:isI Itm.id a x.itms=true:=by
  unfold fits at hfit;simp at hfit;exact hfit.2
 obtain⟨p,hpl,hp,-,-,hpi⟩:=posR_at hi
 have HS0:=Lib.hid hS
 have HS:=Lib.hid (hS.nix hf0)
 have HSm:=Lib.hid hsm
 have HB1:=Lib.hid hb1
 have HB2:=Lib.hid hb2
 have HB3:=Lib.hid hb3
 have HF0:=Lib.hid hf0
 have HW:=Lib.hid hw0
 have HFt:=Lib.hid hfit
 have KFi:Hid (Calls Tryz.prog 48 #[.agg #[.int .i64 x.clock,.slice fo.1 x.fols.length fo.2,.slice fe.1 x.fees.length fe.2,.slice it.1 x.itms.length it.2,.slice se.1 x.seas.length se.2,.int .i64 x.tFol,.int .i64 x.tFee,.int .i64 x.tItm,.int .i64 x.tSea],.agg #[.int .i64 9,.int .i64 a,.int .i64 b,.int .i64 n,.string s,.string t,.string u]] w0 fun e w'=>e=.returned (.bool true)∧Frm Nix w0 w'):=by
  have:=rFits_any (hS.nix hf0) hsm ⟨9,a,b,n,s,t,u⟩
  rw[hfit] at this
  exact this
 clear hS hsm hf0 hb1 hb2 hb3 hw0 hfit
 unfold stV evV
 dsimp only
 rw[do9 rfl]
 dsimp only
 obtain⟨A,c⟩:=it
 dsimp only at HS HS0 HB1 HW KFi ⊢
 go_enter Tryz.func12,Tryz.ntmps12
 show Code.wp Tryz.prog (peel 0 (bodyOf Tryz.f12)) _ _ _
 have e1:peel 0 (bodyOf Tryz.f12)=.seq (hdC (peel 0 (bodyOf Tryz.f12))) (peel 1 (bodyOf Tryz.f12)):=by kernel_rfl
 rw[e1]
 clear e1
 refine wp_seq_k fun K hK=>?_
 conv in hdC _=>whnf
 go_wp2
 rw[← HW.out]
 obtain⟨e0,e1,e2,e3,e4,e5,e6⟩:=blk7 HB2.out
 obtain⟨x0,x1,x2,x3,x4,x5,x6,x7,x8⟩:=blk9 HB1.out
 have e1:peel 1 (bodyOf Tryz.f12)=.seq (hdC (peel 1 (bodyOf Tryz.f12))) (peel 2 (bodyOf Tryz.f12)):=by kernel_rfl
 rw[e1]
 clear e1
 refine wp_seq_k fun K hK=>?_
 conv in hdC _=>whnf
 go_wp2_with (go_at_call 48;refine KFi.out.mono ?_;rintro e w1 ⟨rfl,hf⟩;have Z1:=Lib.hid hf;clear hf)
 clear x0 x1 x2 x3 x4 x5 x6 x7 x8 e0 e1 e2 e3 e4 e5 e6
 obtain⟨e0,e1,e2,e3,e4,e5,e6⟩:=blk7 (HB2.out.frm Z1.out id)
 obtain⟨x0,x1,x2,x3,x4,x5,x6,x7,x8⟩:=blk9 (HB1.out.frm Z1.out id)
 have hlen:ts.length=x.itms.length:=HS0.out.len
 have hs1:=(HS.out.nix Z1.out).itms.row
 obtain⟨rA,rc,wa,hrun0,hrow⟩:=copy_run elemItm (c:=c) hs1.rd (itm_one ts) (by rw[hlen];exact hcap) (by omega)
 obtain⟨A2,c2,hsh,-,-,-,hblk⟩:=hrow.shape
 injection hsh with hsA hsn hsc
 subst hsA hsc
 have hbs1:=HB1.out.frm Z1.out id
 have hbs2:=HB2.out.frm Z1.out id
 have hbs3:=HB3.out.frm Z1.out id
 have h4l:=hbs3.lt
 have fa:=hrow.frm
 have hca:wa.cell? ⟨w.heap.size,3,none⟩=_:=((hbs1.frm fa id).cell 3).trans rfl
 have hcf:=(hbs1.frm fa id).frozen 3
 have hma:(w1.alloc (.cells #[] 54)).cell? ⟨w.heap.size,3,none⟩=some (.slice A x.itms.length c):=((hbs1.frm ((Frm.refl Nix w1).alloc _) id).cell 3).trans rfl
 have hnw:=World.new_ne w1 ⟨w.heap.size,3,none⟩ x3
 rw[hlen] at hrun0 hrow
 obtain⟨wd,hwd⟩:∃ wd,wd=wa.setCell ⟨w.heap.size,3,none⟩ (.slice rA x.itms.length rc):=⟨_,rfl⟩
 have fd:Frm (fun k=>k=w.heap.size) wa wd:=by rw[hwd];exact(Frm.refl (fun k=>k=w.heap.size) wa).setCell (.inl rfl) _
 have HFd:Hid (Frm Nix w wd):=((HF0.out.trans Z1.out).trans fa).next fd (fun k hk=>.inr (by omega))
 have hob:∀ k,(Value.slice rA x.itms.length rc).ownBlock=some k→w1.heap.size≤k:=fun k hk=>by
  rcases rA with _ | ad
  ·simp[Value.ownBlock] at hk
  ·have:=(hblk ad rfl).2.2.1
   simp[Value.ownBlock] at hk
   omega
 have HRw:Hid (RowK 54 9 w wd (.slice rA x.itms.length rc) x.itms.length (ts.flatMap itmC)):=(hrow.since (HF0.out.trans Z1.out)).far fd (fun k hk=>by omega) (fun k hk e=>by have:=hob k hk;omega)
 have HBd:Hid (Blk wd w.heap.size 30 #[.int .i64 x.clock,.slice fo.1 x.fols.length fo.2,.slice fe.1 x.fees.length fe.2,.slice rA x.itms.length rc,.slice se.1 x.seas.length se.2,.int .i64 x.tFol,.int .i64 x.tFee,.int .i64 x.tItm,.int .i64 x.tSea]):=by unfold Hid;rw[hwd];exact((hbs1.frm fa id).set_ 3 _)
 have HBv:Hid (Blk wd (w.heap.size+1) 38 #[.int .i64 9,.int .i64 a,.int .i64 b,.int .i64 n,.string s,.string t,.string u]):=(hbs2.frm fa id).frm fd (by simp)
 have HB4:Hid (Blk wd (w.heap.size+1+1) 30 #[.int .i64 0,.slice none 0 0,.slice none 0 0,.slice none 0 0,.slice none 0 0,.int .i64 0,.int .i64 0,.int .i64 0,.int .i64 0]):=(hbs3.frm fa id).frm fd (by simp)
 have HSd:Hid (StIn wd (fun k=>G k∨w.heap.size≤k) fo fe (rA,rc) se ts x):=by
  have h0:=(HS0.out.nix HFd.out).mono (G':=fun k=>G k∨w.heap.size≤k) fun k hk=>.inl hk
  have h1:=hrow.sl.frm fd (fun k hk e=>by omega)
  rw[← hlen] at h1
  exact⟨h0.fols,h0.fees,⟨h1.mono fun k hk=>.inr (by omega),h0.itms.tags⟩,h0.same,h0.seas⟩
 obtain⟨old,hx0⟩:∃ old,(ts.flatMap itmC)[p * 9+7]? =some old:=⟨_,by rw[flat_at itmC_len ts p (by rw[hlen];exact hpl) 7 (by decide)];rfl⟩
 have KF:Hid (Calls Tryz.prog 28 #[.agg #[.int .i64 x.clock,.slice fo.1 x.fols.length fo.2,.slice fe.1 x.fees.length fe.2,.slice rA x.itms.length rc,.slice se.1 x.seas.length se.2,.int .i64 x.tFol,.int .i64 x.tFee,.int .i64 x.tItm,.int .i64 x.tSea],.int .i64 a] wd fun e w'=>e=.returned (.int .i64 p)∧Frm Nix wd w'):=by
  have:=rItem_any HSd.out HSm.out a
  rw[hp] at this
  exact this
 obtain⟨z0,z1,z2,z3,z4,z5,z6,z7,z8⟩:=blk9 HBd.out
 obtain⟨d0,d1,d2,d3,d4,d5,d6⟩:=blk7 HBv.out
 have HWd:=Lib.hid hwd
 rw[hwd] at z0 z1 z2 z3 z4 z5 z6 z7 z8 d0 d1 d2 d3 d4 d5 d6
 have HOb:=Lib.hid hob
 have HB3l:=Lib.hid h4l
 clear hs1 hrow hblk hbs1 hbs2 hbs3 h4l fa fd hob
 simp only[peel,bodyOf,Tryz.f12]
 go_wp2_with (first
  | (at_builtin;refine wpList_append_run hrun0 rfl _ _ rfl rfl rfl ?_)
  | (go_at_call 28
     rw[← HWd.out]
     refine KF.out.mono ?_
     rintro r w2 ⟨rfl,hf⟩
     have Z2:=Lib.hid hf
     have HR2:Hid (RowK 54 9 w w2 (.slice rA x.itms.length rc) x.itms.length (ts.flatMap itmC)):=HRw.out.more hf
     obtain⟨z0,z1,z2,z3,z4,z5,z6,z7,z8⟩:=blk9 (HBd.out.frm hf id)
     obtain⟨d0,d1,d2,d3,d4,d5,d6⟩:=blk7 (HBv.out.frm hf id)
     obtain⟨y0,y1,y2,y3,y4,y5,y6,y7,y8⟩:=blk9 (HB4.out.frm hf id)
     have g0:=(HB4.out.frm hf id).frozen 0;have g1:=(HB4.out.frm hf id).frozen 1;have g2:=(HB4.out.frm hf id).frozen 2;have g3:=(HB4.out.frm hf id).frozen 3;have g4:=(HB4.out.frm hf id).frozen 4;have g5:=(HB4.out.frm hf id).frozen 5;have g6:=(HB4.out.frm hf id).frozen 6;have g7:=(HB4.out.frm hf id).frozen 7;have g8:=(HB4.out.frm hf id).frozen 8
     obtain⟨g,hgA,hgc,hgf,hset,hgl,hgl2⟩:=HR2.out.set_ (p * 9+7) (by omega) (.bool (n==1))
     rw[hx0] at hgc
     have hgo:w.heap.size+1+1<g:=by have h1:=HOb.out g (by rw[hgA];rfl);have h2:=HB3l.out;omega
     have hg0:¬g=w.heap.size:=by omega
     have hg1:¬g=w.heap.size+1:=by omega
     have hg2:¬g=w.heap.size+1+1:=by omega
     have hg0':¬w.heap.size=g:=by omega
     have hg1':¬w.heap.size+1=g:=by omega
     have hg2':¬w.heap.size+1+1=g:=by omega
     have HSet:=Lib.hid hset
     obtain⟨s0,s1,s2,s3,s4,s5,s6,s7,s8⟩:=blk9 ((HBd.out.frm hf id).far (p:=⟨g,p * 9+7,none⟩) hg0' (.bool (n==1)))
     have hb4f:=(HB4.out.frm hf id).far (p:=⟨g,p * 9+7,none⟩) hg2' (.bool (n==1))
     obtain⟨t0,t1,t2,t3,t4,t5,t6,t7,t8⟩:=blk9 hb4f
     have q0:=hb4f.frozen 0;have q1:=hb4f.frozen 1;have q2:=hb4f.frozen 2;have q3:=hb4f.frozen 3;have q4:=hb4f.frozen 4;have q5:=hb4f.frozen 5;have q6:=hb4f.frozen 6;have q7:=hb4f.frozen 7;have q8:=hb4f.frozen 8
     clear hb4f
     subst hgA
     clear hf hset))
 obtain⟨wf,hwf⟩:∃ wf,wf=w2.setCell ⟨g,p * 9+7,none⟩ (.bool (n==1)):=⟨_,rfl⟩
 have ff:Frm (fun k=>k=g) w2 wf:=by rw[hwf];exact(Frm.refl (fun k=>k=g) w2).setCell (.inl rfl) _
 have hb4:Blk wf (w.heap.size+1+1) 30 #[.int .i64 0,.slice none 0 0,.slice none 0 0,.slice none 0 0,.slice none 0 0,.int .i64 0,.int .i64 0,.int .i64 0,.int .i64 0]:=(HB4.out.frm Z2.out id).frm ff (by simpa using hg2')
 rw[← hwf] at HSet
 obtain⟨we,hwe⟩:∃ we,we=wf.setCells (w.heap.size+1+1) 0 [.int .i64 x.clock,.slice fo.1 x.fols.length fo.2,.slice fe.1 x.fees.length fe.2,.slice (some ⟨g,0,none⟩) x.itms.length rc,.slice se.1 x.seas.length se.2,.int .i64 x.tFol,.int .i64 x.tFee,.int .i64 x.tItm,.int .i64 x.tSea]:=⟨_,rfl⟩
 have hbe:Blk we (w.heap.size+1+1) 30 #[.int .i64 x.clock,.slice fo.1 x.fols.length fo.2,.slice fe.1 x.fees.length fe.2,.slice (some ⟨g,0,none⟩) x.itms.length rc,.slice se.1 x.seas.length se.2,.int .i64 x.tFol,.int .i64 x.tFee,.int .i64 x.tItm,.int .i64 x.tSea]:=by
  have:=Blk.putL [.int .i64 x.clock,.slice fo.1 x.fols.length fo.2,.slice fe.1 x.fees.length fe.2,.slice (some ⟨g,0,none⟩) x.itms.length rc,.slice se.1 x.seas.length se.2,.int .i64 x.tFol,.int .i64 x.tFee,.int .i64 x.tItm,.int .i64 x.tSea] 0 hb4
  rw[putL9] at this
  rw[hwe]
  exact this
 have fe_:Frm (fun k=>k=w.heap.size+1+1) wf we:=by rw[hwe];exact Frm.setCells _ 0 (Frm.refl _ _) (.inl rfl)
 have HFin:Hid (Frm Nix w we):=((HFd.out.trans Z2.out).next ff (fun k hk=>.inr (by omega))).next fe_ (fun k hk=>.inr (by omega))
 have HBe:=Lib.hid hbe
 have hrow:SlIn we (fun k=>w.heap.size≤k) 9 (some ⟨g,0,none⟩,rc) x.itms.length ((ts.flatMap itmC).set (p * 9+7) (.bool (n==1))):=by
  have hr3:=HSet.out.far fe_ (fun k hk=>by omega) (fun k hk e=>by simp[Value.ownBlock] at hk;omega)
  exact hr3.sl
 have hkt:p<ts.length:=by rw[hlen];exact hpl
 have het:(ts[p]'hkt).2=x.itms[p]:=itms_ts HS0.out hkt hpl
 have HL:Hid ((updI Itm.id a (fun t=>{t with star:=decide (n=1)}) x.itms)=x.itms.set p ((fun t=>{t with star:=decide (n=1)}) x.itms[p])):=by
  unfold Hid
  have:=@updI_set _ Itm.id a (fun t=>{t with star:=decide (n=1)}) x.itms (by rw[hpi];exact hpl)
  simp only[hpi] at this
  exact this
 rw[flat_set1 itmC_len ts p hkt ((ts[p]'hkt).1,((fun t=>{t with star:=decide (n=1)}) (ts[p]'hkt).2)) 7 (by decide) (.bool (n==1)) rfl] at hrow
 have hsame:(ts.set p ((ts[p]'hkt).1,((fun t=>{t with star:=decide (n=1)}) (ts[p]'hkt).2))).map (·.2)=(updI Itm.id a (fun t=>{t with star:=decide (n=1)}) x.itms):=by
  rw[List.map_set,HS0.out.same,HL.out,het]
 have hln:(updI Itm.id a (fun t=>{t with star:=decide (n=1)}) x.itms).length=x.itms.length:=by rw[HL.out,List.length_set]
 have hlt2:(ts.set p ((ts[p]'hkt).1,((fun t=>{t with star:=decide (n=1)}) (ts[p]'hkt).2))).length=x.itms.length:=by rw[List.length_set,hlen]
 rw[← hlt2] at hrow
 have htg:∀ q ∈ ts.set p ((ts[p]'hkt).1,((fun t=>{t with star:=decide (n=1)}) (ts[p]'hkt).2)),SlIn we (fun k=>G k∨w.heap.size≤k) 1 q.1 q.2.tags.length (q.2.tags.map Value.string):=fun q hq=>by
  rcases List.mem_or_eq_of_mem_set hq with hq | rfl
  ·exact((HS0.out.nix HFin.out).itms.tags q hq).mono fun k hk=>.inl hk
  ·exact((HS0.out.nix HFin.out).itms.tags _ (List.getElem_mem hkt)).mono fun k hk=>.inl hk
 simp only[World.setCells] at hwe
 rw[hwf] at hwe
 rw[← hwe]
 refine bodyPost_ret (rapply_ret HBe.out rfl rfl) rfl ?_
 exact⟨fo,fe,(some ⟨g,0,none⟩,rc),se,_,by rw[← hln];rfl,⟨(HS0.out.nix HFin.out).fols.mono fun k hk=>.inl hk,(HS0.out.nix HFin.out).fees.mono fun k hk=>.inl hk,⟨hrow.mono fun k hk=>.inr hk,htg⟩,hsame,(HS0.out.nix HFin.out).seas.mono fun k hk=>.inl hk⟩,HFin.out⟩
theorem rapply10 {w:World} {fo fe it se:Sl} {ts:List (Sl×Itm)} {x:St} {G:Nat→Prop} (hS:StIn w G fo fe it se ts x) (hsm:StSmall x) {a b n:Int} {s t u:ByteArray} (hfit:fits x ⟨10,a,b,n,s,t,u⟩=true):
  Calls Tryz.prog 12 #[stV fo fe it se x,evV ⟨10,a,b,n,s,t,u⟩] w (ApOut w G (doS x ⟨10,a,b,n,s,t,u⟩) true):=by
 obtain⟨w0,hw0,hf0,hb1,hb2,hb3⟩:=box_ser w fo fe it se x 10 a b n s t u
 have hcap:=hsm.itms
 have hi:isI Itm.id a x.itms=true:=by
  unfold fits at hfit
  cases hat:atI Itm.id a x.itms with
  | none=>rw[hat] at hfit;simp at hfit
  | some f=>exact isI_iff.2 ⟨f,List.mem_of_find?_eq_some hat,by simpa using List.find?_some hat⟩
 obtain⟨p,hpl,hp,-,-,hpi⟩:=posR_at hi
 have HS0:=Lib.hid hS
 have HS:=Lib.hid (hS.nix hf0)
 have HSm:=Lib.hid hsm
 have HB1:=Lib.hid hb1
 have HB2:=Lib.hid hb2
 have HB3:=Lib.hid hb3
 have HF0:=Lib.hid hf0
 have HW:=Lib.hid hw0
 have HFt:=Lib.hid hfit
 have KFi:Hid (Calls Tryz.prog 48 #[.agg #[.int .i64 x.clock,.slice fo.1 x.fols.length fo.2,.slice fe.1 x.fees.length fe.2,.slice it.1 x.itms.length it.2,.slice se.1 x.seas.length se.2,.int .i64 x.tFol,.int .i64 x.tFee,.int .i64 x.tItm,.int .i64 x.tSea],.agg #[.int .i64 10,.int .i64 a,.int .i64 b,.int .i64 n,.string s,.string t,.string u]] w0 fun e w'=>e=.returned (.bool true)∧Frm Nix w0 w'):=by
  have:=rFits_any (hS.nix hf0) hsm ⟨10,a,b,n,s,t,u⟩
  rw[hfit] at this
  exact this
 clear hS hsm hf0 hb1 hb2 hb3 hw0 hfit
 unfold stV evV
 dsimp only
 rw[do10 rfl]
 dsimp only
 obtain⟨A,c⟩:=it
 dsimp only at HS HS0 HB1 HW KFi ⊢
 go_enter Tryz.func12,Tryz.ntmps12
 show Code.wp Tryz.prog (peel 0 (bodyOf Tryz.f12)) _ _ _
 have e1:peel 0 (bodyOf Tryz.f12)=.seq (hdC (peel 0 (bodyOf Tryz.f12))) (peel 1 (bodyOf Tryz.f12)):=by kernel_rfl
 rw[e1]
 clear e1
 refine wp_seq_k fun K hK=>?_
 conv in hdC _=>whnf
 go_wp2
 rw[← HW.out]
 obtain⟨e0,e1,e2,e3,e4,e5,e6⟩:=blk7 HB2.out
 obtain⟨x0,x1,x2,x3,x4,x5,x6,x7,x8⟩:=blk9 HB1.out
 have e1:peel 1 (bodyOf Tryz.f12)=.seq (hdC (peel 1 (bodyOf Tryz.f12))) (peel 2 (bodyOf Tryz.f12)):=by kernel_rfl
 rw[e1]
 clear e1
 refine wp_seq_k fun K hK=>?_
 conv in hdC _=>whnf
 go_wp2_with (go_at_call 48;refine KFi.out.mono ?_;rintro e w1 ⟨rfl,hf⟩;have Z1:=Lib.hid hf;clear hf)
 clear x0 x1 x2 x3 x4 x5 x6 x7 x8 e0 e1 e2 e3 e4 e5 e6
 obtain⟨e0,e1,e2,e3,e4,e5,e6⟩:=blk7 (HB2.out.frm Z1.out id)
 obtain⟨x0,x1,x2,x3,x4,x5,x6,x7,x8⟩:=blk9 (HB1.out.frm Z1.out id)
 have hlen:ts.length=x.itms.length:=HS0.out.len
 have hs1:=(HS.out.nix Z1.out).itms.row
 obtain⟨rA,rc,wa,hrun0,hrow⟩:=copy_run elemItm (c:=c) hs1.rd (itm_one ts) (by rw[hlen];exact hcap) (by omega)
 obtain⟨A2,c2,hsh,-,-,-,hblk⟩:=hrow.shape
 injection hsh with hsA hsn hsc
 subst hsA hsc
 have hbs1:=HB1.out.frm Z1.out id
 have hbs2:=HB2.out.frm Z1.out id
 have hbs3:=HB3.out.frm Z1.out id
 have h4l:=hbs3.lt
 have fa:=hrow.frm
 have hca:wa.cell? ⟨w.heap.size,3,none⟩=_:=((hbs1.frm fa id).cell 3).trans rfl
 have hcf:=(hbs1.frm fa id).frozen 3
 have hma:(w1.alloc (.cells #[] 54)).cell? ⟨w.heap.size,3,none⟩=some (.slice A x.itms.length c):=((hbs1.frm ((Frm.refl Nix w1).alloc _) id).cell 3).trans rfl
 have hnw:=World.new_ne w1 ⟨w.heap.size,3,none⟩ x3
 rw[hlen] at hrun0 hrow
 obtain⟨wd,hwd⟩:∃ wd,wd=wa.setCell ⟨w.heap.size,3,none⟩ (.slice rA x.itms.length rc):=⟨_,rfl⟩
 have fd:Frm (fun k=>k=w.heap.size) wa wd:=by rw[hwd];exact(Frm.refl (fun k=>k=w.heap.size) wa).setCell (.inl rfl) _
 have HFd:Hid (Frm Nix w wd):=((HF0.out.trans Z1.out).trans fa).next fd (fun k hk=>.inr (by omega))
 have hob:∀ k,(Value.slice rA x.itms.length rc).ownBlock=some k→w1.heap.size≤k:=fun k hk=>by
  rcases rA with _ | ad
  ·simp[Value.ownBlock] at hk
  ·have:=(hblk ad rfl).2.2.1
   simp[Value.ownBlock] at hk
   omega
 obtain⟨q,hkt,hq,hq2,htgq⟩:∃ (q:Sl×Itm) (hkt:p<ts.length),ts[p]'hkt=q∧q.2=x.itms[p]∧SlIn w G 1 q.1 q.2.tags.length (q.2.tags.map Value.string):=by
  obtain⟨hkt,h2⟩:=itms_at HS0.out hpl
  exact⟨ts[p]'hkt,hkt,rfl,h2,HS0.out.itms.tags _ (List.getElem_mem hkt)⟩
 have htl:q.2.tags.length≤1000:=by rw[hq2];exact HSm.out.tags _ (List.getElem_mem hpl)
 have KT:Hid (∀ W,Frm Nix w W→Calls Tryz.prog 51 #[.slice q.1.1 q.2.tags.length q.1.2,.string s,.bool (n==1)] W fun e w'=>∃ v':Sl,e=.returned (.slice v'.1 (tagsS q.2.tags s (decide (n=1))).length v'.2)∧SlIn w' (fun k=>W.heap.size≤k) 1 v' (tagsS q.2.tags s (decide (n=1))).length ((tagsS q.2.tags s (decide (n=1))).map Value.string)∧Frm Nix W w'):=fun W hW=>rtags_any q.2.tags (htgq.nix hW) htl s _
 have hx8:(ts.flatMap itmC)[p * 9+8]? =some (.slice q.1.1 q.2.tags.length q.1.2):=by
  rw[flat_at itmC_len ts p hkt 8 (by decide),hq]
  rfl
 have HQ:=Lib.hid (And.intro hq (And.intro hq2 htgq))
 clear hq hq2 htgq htl
 have HRw:Hid (RowK 54 9 w wd (.slice rA x.itms.length rc) x.itms.length (ts.flatMap itmC)):=(hrow.since (HF0.out.trans Z1.out)).far fd (fun k hk=>by omega) (fun k hk e=>by have:=hob k hk;omega)
 have HBd:Hid (Blk wd w.heap.size 30 #[.int .i64 x.clock,.slice fo.1 x.fols.length fo.2,.slice fe.1 x.fees.length fe.2,.slice rA x.itms.length rc,.slice se.1 x.seas.length se.2,.int .i64 x.tFol,.int .i64 x.tFee,.int .i64 x.tItm,.int .i64 x.tSea]):=by unfold Hid;rw[hwd];exact((hbs1.frm fa id).set_ 3 _)
 have HBv:Hid (Blk wd (w.heap.size+1) 38 #[.int .i64 10,.int .i64 a,.int .i64 b,.int .i64 n,.string s,.string t,.string u]):=(hbs2.frm fa id).frm fd (by simp)
 have HB4:Hid (Blk wd (w.heap.size+1+1) 30 #[.int .i64 0,.slice none 0 0,.slice none 0 0,.slice none 0 0,.slice none 0 0,.int .i64 0,.int .i64 0,.int .i64 0,.int .i64 0]):=(hbs3.frm fa id).frm fd (by simp)
 have HSd:Hid (StIn wd (fun k=>G k∨w.heap.size≤k) fo fe (rA,rc) se ts x):=by
  have h0:=(HS0.out.nix HFd.out).mono (G':=fun k=>G k∨w.heap.size≤k) fun k hk=>.inl hk
  have h1:=hrow.sl.frm fd (fun k hk e=>by omega)
  rw[← hlen] at h1
  exact⟨h0.fols,h0.fees,⟨h1.mono fun k hk=>.inr (by omega),h0.itms.tags⟩,h0.same,h0.seas⟩
 obtain⟨old,hx0⟩:∃ old,(ts.flatMap itmC)[p * 9+8]? =some old:=⟨_,by rw[flat_at itmC_len ts p (by rw[hlen];exact hpl) 8 (by decide)];rfl⟩
 have KF:Hid (Calls Tryz.prog 28 #[.agg #[.int .i64 x.clock,.slice fo.1 x.fols.length fo.2,.slice fe.1 x.fees.length fe.2,.slice rA x.itms.length rc,.slice se.1 x.seas.length se.2,.int .i64 x.tFol,.int .i64 x.tFee,.int .i64 x.tItm,.int .i64 x.tSea],.int .i64 a] wd fun e w'=>e=.returned (.int .i64 p)∧Frm Nix wd w'):=by
  have:=rItem_any HSd.out HSm.out a
  rw[hp] at this
  exact this
 obtain⟨z0,z1,z2,z3,z4,z5,z6,z7,z8⟩:=blk9 HBd.out
 obtain⟨d0,d1,d2,d3,d4,d5,d6⟩:=blk7 HBv.out
 have HWd:=Lib.hid hwd
 rw[hwd] at z0 z1 z2 z3 z4 z5 z6 z7 z8 d0 d1 d2 d3 d4 d5 d6
 have HOb:=Lib.hid hob
 have HB3l:=Lib.hid h4l
 clear hs1 hrow hblk hbs1 hbs2 hbs3 h4l fa fd hob
 simp only[peel,bodyOf,Tryz.f12]
 go_wp2_with (first
  | (at_builtin;refine wpList_append_run hrun0 rfl _ _ rfl rfl rfl ?_)
  | (go_at_call 28
     rw[← HWd.out]
     refine KF.out.mono ?_
     rintro r w2 ⟨rfl,hf⟩
     have Z2:=Lib.hid hf
     have HR2:Hid (RowK 54 9 w w2 (.slice rA x.itms.length rc) x.itms.length (ts.flatMap itmC)):=HRw.out.more hf
     obtain⟨z0,z1,z2,z3,z4,z5,z6,z7,z8⟩:=blk9 (HBd.out.frm hf id)
     obtain⟨d0,d1,d2,d3,d4,d5,d6⟩:=blk7 (HBv.out.frm hf id)
     obtain⟨y0,y1,y2,y3,y4,y5,y6,y7,y8⟩:=blk9 (HB4.out.frm hf id)
     have g0:=(HB4.out.frm hf id).frozen 0;have g1:=(HB4.out.frm hf id).frozen 1;have g2:=(HB4.out.frm hf id).frozen 2;have g3:=(HB4.out.frm hf id).frozen 3;have g4:=(HB4.out.frm hf id).frozen 4;have g5:=(HB4.out.frm hf id).frozen 5;have g6:=(HB4.out.frm hf id).frozen 6;have g7:=(HB4.out.frm hf id).frozen 7;have g8:=(HB4.out.frm hf id).frozen 8
     obtain⟨g,hgA,hgc,hgf,hset,hgl,hgl2⟩:=HR2.out.set_ (p * 9+8) (by omega) undef
     have hgo:w.heap.size+1+1<g:=by have h1:=HOb.out g (by rw[hgA];rfl);have h2:=HB3l.out;omega
     have hg0:¬g=w.heap.size:=by omega
     have hg1:¬g=w.heap.size+1:=by omega
     have hg2:¬g=w.heap.size+1+1:=by omega
     have hg0':¬w.heap.size=g:=by omega
     have hg1':¬w.heap.size+1=g:=by omega
     have hg2':¬w.heap.size+1+1=g:=by omega
     rw[hx8] at hgc
     have HC:Hid (∀ W,Frm Nix w2 W→W.cell? ⟨w.heap.size,3,none⟩=some (.slice rA x.itms.length rc)∧W.cell? ⟨w.heap.size+1,3,none⟩=some (.int .i64 n)∧W.cell? ⟨w.heap.size+1,4,none⟩=some (.string s)):=fun W hW=>⟨(hW.cell (p:=⟨w.heap.size,3,none⟩) ((HBd.out.frm hf id).lt) id).trans z3,(hW.cell (p:=⟨w.heap.size+1,3,none⟩) ((HBv.out.frm hf id).lt) id).trans d3,(hW.cell (p:=⟨w.heap.size+1,4,none⟩) ((HBv.out.frm hf id).lt) id).trans d4⟩
     subst hgA
     clear hf hset))
 refine wp_region_held_drew (S:=fun W=>W.cell? ⟨w.heap.size,3,none⟩=some (.slice (some ⟨g,0,none⟩) x.itms.length rc)∧W.cell? ⟨w.heap.size+1,3,none⟩=some (.int .i64 n)∧W.cell? ⟨w.heap.size+1,4,none⟩=some (.string s)) (by kernel_rfl) (HC.out _ (Frm.refl Nix w2).drew) (fun hHeld=>?_)
 refine tkq (i:=0) rfl (by kernel_rfl) (fun _ _ _ h=>h) (by rfl) hHeld (by intro wS hSw;(try dsimp only at hSw);go_simp;all_goals with_reducible rfl) ?_
 try simp only[lt0,lt1,lt2,Act.put,lt3,lt4,lt5]
 refine tkq (i:=1) rfl (by kernel_rfl) (fun _ _ _ h=>h) (by rfl) hHeld (by intro wS hSw;(try dsimp only at hSw);go_simp;all_goals with_reducible rfl) ?_
 try simp only[lt0,lt1,lt2,Act.put,lt3,lt4,lt5]
 refine tkq (i:=2) rfl (by kernel_rfl) (fun _ _ _ h=>h) (by rfl) hHeld (by intro wS hSw;(try dsimp only at hSw);go_simp;all_goals with_reducible rfl) ?_
 try simp only[lt0,lt1,lt2,Act.put,lt3,lt4,lt5]
 refine tkq (i:=3) rfl (by kernel_rfl) (fun _ _ _ h=>h) (by rfl) hHeld (by intro wS hSw;(try dsimp only at hSw);go_simp;all_goals with_reducible rfl) ?_
 try simp only[lt0,lt1,lt2,Act.put,lt3,lt4,lt5]
 refine tkq (i:=4) rfl (by kernel_rfl) (fun _ _ _ h=>h) (by rfl) hHeld (by intro wS hSw;(try dsimp only at hSw);go_simp;all_goals with_reducible rfl) ?_
 try simp only[lt0,lt1,lt2,Act.put,lt3,lt4,lt5]
 refine tkq (i:=5) rfl (by kernel_rfl) (fun _ _ _ h=>h) (by rfl) hHeld (by intro wS hSw;(try dsimp only at hSw);go_simp;all_goals with_reducible rfl) ?_
 try simp only[lt0,lt1,lt2,Act.put,lt3,lt4,lt5]
 refine tkq (i:=6) rfl (by kernel_rfl) (fun _ _ _ h=>h) (by rfl) hHeld (by intro wS hSw;(try dsimp only at hSw);go_simp;all_goals with_reducible rfl) ?_
 try simp only[lt0,lt1,lt2,Act.put,lt3,lt4,lt5]
 refine tkq (i:=7) rfl (by kernel_rfl) (fun _ _ _ h=>h) (by rfl) hHeld (by intro wS hSw;(try dsimp only at hSw);go_simp;all_goals with_reducible rfl) ?_
 try simp only[lt0,lt1,lt2,Act.put,lt3,lt4,lt5]
 refine tkq (i:=9) rfl (by kernel_rfl) (fun _ _ _ h=>h) (by rfl) hHeld (by intro wS hSw;(try dsimp only at hSw);go_simp;all_goals with_reducible rfl) ?_
 try simp only[lt0,lt1,lt2,Act.put,lt3,lt4,lt5]
 refine tkq (i:=10) rfl (by kernel_rfl) (fun _ _ _ h=>h) (by rfl) hHeld (by intro wS hSw;(try dsimp only at hSw);go_simp;all_goals with_reducible rfl) ?_
 try simp only[lt0,lt1,lt2,Act.put,lt3,lt4,lt5]
 refine tkq (i:=11) rfl (by kernel_rfl) (fun _ _ _ h=>h) (by rfl) hHeld (by intro wS hSw;(try dsimp only at hSw);go_simp;all_goals with_reducible rfl) ?_
 try simp only[lt0,lt1,lt2,Act.put,lt3,lt4,lt5]
 refine tkq (i:=12) rfl (by kernel_rfl) (fun _ _ _ h=>h) (by rfl) hHeld (by intro wS hSw;(try dsimp only at hSw);go_simp;all_goals with_reducible rfl) ?_
 try simp only[lt0,lt1,lt2,Act.put,lt3,lt4,lt5]
 refine tkq (i:=13) rfl (by kernel_rfl) (fun _ _ _ h=>h) (by rfl) hHeld (by intro wS hSw;(try dsimp only at hSw);go_simp;all_goals with_reducible rfl) ?_
 try simp only[lt0,lt1,lt2,Act.put,lt3,lt4,lt5]
 refine rdy1 (i:=8) (by kernel_rfl) rfl (fun K hK=>?_)
 go_simp
 refine hK.out _ _ (HC.out _ (Frm.refl Nix w2).drew) (fun hHeld=>?_)
 clear hK K
 try simp only[lt0,lt1,lt2,Act.put,lt3,lt4,lt5]
 refine rdy1 (i:=14) (by kernel_rfl) rfl (fun K hK=>?_)
 go_simp
 go_at_call 51
 refine(KT.out _ ((HFd.out.trans Z2.out).drew)).mono ?_
 rintro r w3 ⟨v',rfl,hv,hf⟩
 have HV:=Lib.hid hv
 have Z3:Hid (Frm Nix w2 w3):=(Frm.refl Nix w2).drew.trans hf
 have hg3:=(HR2.out.more Z3.out).set_ (p * 9+8) (by omega) (.slice v'.1 (tagsS q.2.tags s (decide (n=1))).length v'.2)
 obtain⟨g',hgA,hgc3,hgf3,hset,-,-⟩:=hg3
 injection hgA with hgA
 injection hgA with hgA
 subst hgA
 rw[hx8] at hgc3
 have HSet:=Lib.hid hset
 clear hf hv hset
 dsimp only
 refine hK.out _ _ (HC.out _ Z3.out) (fun hHeld=>?_)
 clear hK K
 try simp only[lt0,lt1,lt2,Act.put,lt3,lt4,lt5]
 refine tkq (i:=15) rfl (by kernel_rfl) (fun _ _ _ h=>h) (by rfl) hHeld (by intro wS hSw;(try dsimp only at hSw);go_simp;all_goals with_reducible rfl) ?_
 try simp only[lt0,lt1,lt2,Act.put,lt3,lt4,lt5]
 refine tkq (i:=16) rfl (by kernel_rfl) (fun _ _ _ h=>h) (by rfl) hHeld (by intro wS hSw;(try dsimp only at hSw);go_simp;all_goals with_reducible rfl) ?_
 try simp only[lt0,lt1,lt2,Act.put,lt3,lt4,lt5]
 refine rdy1 (i:=17) (by kernel_rfl) rfl (fun K hK=>?_)
 go_simp
 refine hK.out _ _ (by first | exact HC.out _ Z3.out | go_keep) (fun hHeld=>?_)
 clear hK K
 try simp only[lt0,lt1,lt2,Act.put,lt3,lt4,lt5]
 refine wpAnyH_done (by kernel_rfl) ?_ _
 have hset:=HSet.out
 obtain⟨wf,hwf⟩:∃ wf,wf=w3.setCell ⟨g,p * 9+8,none⟩ (.slice v'.1 (tagsS q.2.tags s (decide (n=1))).length v'.2):=⟨_,rfl⟩
 rw[← hwf] at hset ⊢
 have ff:Frm (fun k=>k=g) w3 wf:=by rw[hwf];exact(Frm.refl (fun k=>k=g) w3).setCell (.inl rfl) _
 have hb4:Blk wf (w.heap.size+1+1) 30 #[.int .i64 0,.slice none 0 0,.slice none 0 0,.slice none 0 0,.slice none 0 0,.int .i64 0,.int .i64 0,.int .i64 0,.int .i64 0]:=(HB4.out.frm (Z2.out.trans Z3.out) id).frm ff (by simpa using hg2')
 have hbs:Blk wf w.heap.size 30 #[.int .i64 x.clock,.slice fo.1 x.fols.length fo.2,.slice fe.1 x.fees.length fe.2,.slice (some ⟨g,0,none⟩) x.itms.length rc,.slice se.1 x.seas.length se.2,.int .i64 x.tFol,.int .i64 x.tFee,.int .i64 x.tItm,.int .i64 x.tSea]:=(HBd.out.frm (Z2.out.trans Z3.out) id).frm ff (by simpa using hg0')
 clear hwf
 clear z0 z1 z2 z3 z4 z5 z6 z7 z8 y0 y1 y2 y3 y4 y5 y6 y7 y8 g0 g1 g2 g3 g4 g5 g6 g7 g8 d0 d1 d2 d3 d4 d5 d6
 obtain⟨z0,z1,z2,z3,z4,z5,z6,z7,z8⟩:=blk9 hbs
 obtain⟨y0,y1,y2,y3,y4,y5,y6,y7,y8⟩:=blk9 hb4
 have g0:=hb4.frozen 0
 have g1:=hb4.frozen 1
 have g2:=hb4.frozen 2
 have g3:=hb4.frozen 3
 have g4:=hb4.frozen 4
 have g5:=hb4.frozen 5
 have g6:=hb4.frozen 6
 have g7:=hb4.frozen 7
 have g8:=hb4.frozen 8
 go_wp2
 obtain⟨we,hwe⟩:∃ we,we=wf.setCells (w.heap.size+1+1) 0 [.int .i64 x.clock,.slice fo.1 x.fols.length fo.2,.slice fe.1 x.fees.length fe.2,.slice (some ⟨g,0,none⟩) x.itms.length rc,.slice se.1 x.seas.length se.2,.int .i64 x.tFol,.int .i64 x.tFee,.int .i64 x.tItm,.int .i64 x.tSea]:=⟨_,rfl⟩
 have hbe:Blk we (w.heap.size+1+1) 30 #[.int .i64 x.clock,.slice fo.1 x.fols.length fo.2,.slice fe.1 x.fees.length fe.2,.slice (some ⟨g,0,none⟩) x.itms.length rc,.slice se.1 x.seas.length se.2,.int .i64 x.tFol,.int .i64 x.tFee,.int .i64 x.tItm,.int .i64 x.tSea]:=by
  have:=Blk.putL [.int .i64 x.clock,.slice fo.1 x.fols.length fo.2,.slice fe.1 x.fees.length fe.2,.slice (some ⟨g,0,none⟩) x.itms.length rc,.slice se.1 x.seas.length se.2,.int .i64 x.tFol,.int .i64 x.tFee,.int .i64 x.tItm,.int .i64 x.tSea] 0 hb4
  rw[putL9] at this
  rw[hwe]
  exact this
 have fe_:Frm (fun k=>k=w.heap.size+1+1) wf we:=by rw[hwe];exact Frm.setCells _ 0 (Frm.refl _ _) (.inl rfl)
 have HFin:Hid (Frm Nix w we):=(((HFd.out.trans Z2.out).trans Z3.out).next ff (fun k hk=>.inr (by omega))).next fe_ (fun k hk=>.inr (by omega))
 have HBe:=Lib.hid hbe
 have hrow:SlIn we (fun k=>w.heap.size≤k) 9 (some ⟨g,0,none⟩,rc) x.itms.length ((ts.flatMap itmC).set (p * 9+8) (.slice v'.1 (tagsS q.2.tags s (decide (n=1))).length v'.2)):=by
  have hr3:=hset.far fe_ (fun k hk=>by omega) (fun k hk e=>by simp[Value.ownBlock] at hk;omega)
  exact hr3.sl
 have HL:Hid ((updI Itm.id a (fun t=>{t with tags:=tagsS t.tags s (decide (n=1))}) x.itms)=x.itms.set p ((fun t=>{t with tags:=tagsS t.tags s (decide (n=1))}) x.itms[p])):=by
  unfold Hid
  have:=@updI_set _ Itm.id a (fun t=>{t with tags:=tagsS t.tags s (decide (n=1))}) x.itms (by rw[hpi];exact hpl)
  simp only[hpi] at this
  exact this
 obtain⟨hq,hq2,htgq⟩:=HQ.out
 rw[flat_set1 itmC_len ts p hkt (v',((fun t=>{t with tags:=tagsS t.tags s (decide (n=1))}) q.2)) 8 (by decide) _ (by rw[hq];rfl)] at hrow
 have hsame:(ts.set p (v',((fun t=>{t with tags:=tagsS t.tags s (decide (n=1))}) q.2))).map (·.2)=(updI Itm.id a (fun t=>{t with tags:=tagsS t.tags s (decide (n=1))}) x.itms):=by
  rw[List.map_set,HS0.out.same,HL.out,hq2]
 have hln:(updI Itm.id a (fun t=>{t with tags:=tagsS t.tags s (decide (n=1))}) x.itms).length=x.itms.length:=by rw[HL.out,List.length_set]
 have hlt2:(ts.set p (v',((fun t=>{t with tags:=tagsS t.tags s (decide (n=1))}) q.2))).length=x.itms.length:=by rw[List.length_set,hlen]
 rw[← hlt2] at hrow
 have hw2:=HBd.out.lt
 have hw2':=Z2.out.size
 have hV:SlIn we (fun k=>G k∨w.heap.size≤k) 1 v' (tagsS q.2.tags s (decide (n=1))).length ((tagsS q.2.tags s (decide (n=1))).map Value.string):=by
  have h1:w2.heap.size≤w2.drew.heap.size:=(Frm.refl Nix w2).drew.size
  refine((HV.out.frm ff ?_).frm fe_ ?_).mono ?_
  ·exact fun k hk e=>by subst e;first | omega | (simp at hk;omega)
  ·exact fun k hk e=>by subst e;first | omega | (simp at hk;omega)
  ·exact fun k hk=>.inr (by first | omega | (simp at hk;omega))
 have htg:∀ q' ∈ ts.set p (v',((fun t=>{t with tags:=tagsS t.tags s (decide (n=1))}) q.2)),SlIn we (fun k=>G k∨w.heap.size≤k) 1 q'.1 q'.2.tags.length (q'.2.tags.map Value.string):=fun q' hq'=>by
  rcases List.mem_or_eq_of_mem_set hq' with hq' | rfl
  ·exact((HS0.out.nix HFin.out).itms.tags q' hq').mono fun k hk=>.inl hk
  ·exact hV
 simp only[World.setCells] at hwe
 rw[← hwe]
 refine bodyPost_ret (rapply_ret HBe.out rfl rfl) rfl ?_
 exact⟨fo,fe,(some ⟨g,0,none⟩,rc),se,_,by rw[← hln];rfl,⟨(HS0.out.nix HFin.out).fols.mono fun k hk=>.inl hk,(HS0.out.nix HFin.out).fees.mono fun k hk=>.inl hk,⟨hrow.mono fun k hk=>.inr hk,htg⟩,hsame,(HS0.out.nix HFin.out).seas.mono fun k hk=>.inl hk⟩,HFin.out⟩
theorem applyS_snd (x:St) (e:Ev):(applyS x e).2=fits x e:=by
 unfold applyS
 cases h:fits x e<;>simp[h]
theorem rApply_any {w:World} {fo fe it se:Sl} {ts:List (Sl×Itm)} {x:St} {G:Nat→Prop} (hS:StIn w G fo fe it se ts x) (hsm:StSmall x) (e:Ev):
  Calls Tryz.prog 12 #[stV fo fe it se x,evV e] w (ApOut w G (applyS x e).1 (applyS x e).2):=by
 obtain⟨k,a,b,n,s,t,u⟩:=e
 cases hf:fits x ⟨k,a,b,n,s,t,u⟩ with
 | false=>
   have h1:applyS x ⟨k,a,b,n,s,t,u⟩=(x,false):=by unfold applyS;rw[hf];rfl
   rw[h1]
   exact rapply_no hS hsm hf
 | true=>
   have h1:applyS x ⟨k,a,b,n,s,t,u⟩=(doS x ⟨k,a,b,n,s,t,u⟩,true):=by unfold applyS;rw[hf];rfl
   rw[h1]
   have:=evKind (fits_ev hf)
   simp only at this
   rcases this with h | h | h | h | h | h | h | h | h | h | h | h | h
   ·exact rapply_made hS hsm (by omega) hf
   ·exact rapply_gone hS hsm (by omega) hf
   ·exact rapply_made hS hsm (by omega) hf
   ·exact rapply_gone hS hsm (by omega) hf
   ·subst h;exact rapply5 hS hsm hf
   ·subst h;exact rapply6 hS hsm hf
   ·exact rapply_made hS hsm (by omega) hf
   ·subst h;exact rapply8 hS hsm hf
   ·subst h;exact rapply9 hS hsm hf
   ·subst h;exact rapply10 hS hsm hf
   ·exact rapply_made hS hsm (by omega) hf
   ·exact rapply_gone hS hsm (by omega) hf
   ·subst h;exact rapply13 hS hsm hf
theorem rfold_ret {W:World} {g:Nat} {tmps:Array Value} {a0 a1 a2 a3 a4 a5 a6 a7 a8:Value} (hb:Blk W g 30 #[a0,a1,a2,a3,a4,a5,a6,a7,a8]) (h2:tmps.getD 2 undef=.pointer (some ⟨g,0,none⟩)):
  (results Tryz.f20 tmps).run Tryz.prog W=.ok (.agg #[a0,a1,a2,a3,a4,a5,a6,a7,a8]) W:=by
 obtain⟨c0,c1,c2,c3,c4,c5,c6,c7,c8⟩:=blk9 hb
 have h2':tmps[2]?.getD undef=.pointer (some ⟨g,0,none⟩):=by simpa using h2
 simp[results,Tryz.results20,h2',go_sem,c0,c1,c2,c3,c4,c5,c6,c7,c8]
theorem box_zz (w:World):∃ w0,w0=(w.alloc (.cells #[.int .i64 0,.slice none 0 0,.slice none 0 0,.slice none 0 0,.slice none 0 0,.int .i64 0,.int .i64 0,.int .i64 0,.int .i64 0] 30)).alloc (.cells #[.int .i64 0,.slice none 0 0,.slice none 0 0,.slice none 0 0,.slice none 0 0,.int .i64 0,.int .i64 0,.int .i64 0,.int .i64 0] 30)∧Frm Nix w w0∧Blk w0 w.heap.size 30 #[.int .i64 0,.slice none 0 0,.slice none 0 0,.slice none 0 0,.slice none 0 0,.int .i64 0,.int .i64 0,.int .i64 0,.int .i64 0]∧Blk w0 (w.heap.size+1) 30 #[.int .i64 0,.slice none 0 0,.slice none 0 0,.slice none 0 0,.slice none 0 0,.int .i64 0,.int .i64 0,.int .i64 0,.int .i64 0]∧w0.heap.size=w.heap.size+2:=by
 refine⟨_,rfl,((Frm.refl Nix w).alloc _).alloc _,(Blk.new w _ _).frm ((Frm.refl Nix _).alloc _) id,?_,by simp⟩
 have:=Blk.new (w.alloc (.cells #[.int .i64 0,.slice none 0 0,.slice none 0 0,.slice none 0 0,.slice none 0 0,.int .i64 0,.int .i64 0,.int .i64 0,.int .i64 0] 30)) 30 #[.int .i64 0,.slice none 0 0,.slice none 0 0,.slice none 0 0,.slice none 0 0,.int .i64 0,.int .i64 0,.int .i64 0,.int .i64 0]
 simpa using this
theorem evs_cells {w wr:World} {G:Nat→Prop} {A:Option Addr} {c:Nat} {l:List Ev} (hv:SlIn w G 7 (A,c) l.length (l.flatMap Ev.cells)) (hf:Frm Nix w wr) {k:Nat} (hk:k<l.length):∃ b off,A=some ⟨b,off,none⟩∧G b∧b<wr.heap.size∧
  ∀ (F:Nat→Prop) W,¬F b→Frm F wr W→W.cell? ⟨b,off+k * 7,none⟩=some (.int .i64 l[k].kind)∧W.cell? ⟨b,off+k * 7+1,none⟩=some (.int .i64 l[k].a)∧W.cell? ⟨b,off+k * 7+2,none⟩=some (.int .i64 l[k].b)∧W.cell? ⟨b,off+k * 7+3,none⟩=some (.int .i64 l[k].n)∧W.cell? ⟨b,off+k * 7+4,none⟩=some (.string l[k].s)∧W.cell? ⟨b,off+k * 7+5,none⟩=some (.string l[k].t)∧W.cell? ⟨b,off+k * 7+6,none⟩=some (.string l[k].u):=by
 obtain⟨b,off,hA,hG,hbl,hcell⟩:=(hv.nix hf).at_ Ev.clen (by decide) (by omega)
 refine⟨b,off,hA,hG,hbl,fun F W hn hW=>?_⟩
 obtain⟨x0,x1,x2,x3,x4,x5,x6⟩:=evc7 (w:=wr) (b:=b) (off:=off+k * 7) (e:=l[k]) (hcell k hk)
 exact⟨(hW.cell (p:=⟨b,off+k * 7,none⟩) hbl hn).trans x0,(hW.cell (p:=⟨b,off+k * 7+1,none⟩) hbl hn).trans x1,(hW.cell (p:=⟨b,off+k * 7+2,none⟩) hbl hn).trans x2,(hW.cell (p:=⟨b,off+k * 7+3,none⟩) hbl hn).trans x3,(hW.cell (p:=⟨b,off+k * 7+4,none⟩) hbl hn).trans x4,(hW.cell (p:=⟨b,off+k * 7+5,none⟩) hbl hn).trans x5,(hW.cell (p:=⟨b,off+k * 7+6,none⟩) hbl hn).trans x6⟩
theorem rStFold_any {w:World} {v:Sl} {G:Nat→Prop} (l:List Ev) (hv:SlIn w G 7 v l.length (l.flatMap Ev.cells)) (hn:l.length≤1000000):
  Calls Tryz.prog 20 #[.slice v.1 l.length v.2] w fun r w'=>∃ (fo fe it se:Sl) (ts:List (Sl×Itm)),r=.returned (stV fo fe it se (foldE st0 l))∧StIn w' (fun k=>w.heap.size≤k) fo fe it se ts (foldE st0 l)∧Frm Nix w w':=by
 obtain⟨w0,hw0,hf0,hb1,hb2,hsz⟩:=box_zz w
 obtain⟨A,c⟩:=v
 have hv:=hv.old
 have HVG:Hid (∀ k,(G k∧k<w.heap.size)→k<w.heap.size):=fun k h=>h.2
 have HV:=Lib.hid hv
 have HW:=Lib.hid hw0
 have HF0:=Lib.hid hf0
 have HB1:=Lib.hid hb1
 have HB2:=Lib.hid hb2
 have HZ:=Lib.hid hsz
 obtain⟨n,hln⟩:∃ n,l.length=n:=⟨_,rfl⟩
 have HL:=Lib.hid hln
 rw[hln] at hn
 dsimp only
 rw[hln]
 clear hv hw0 hf0 hb1 hb2 hsz hln
 go_enter Tryz.func20,Tryz.ntmps20
 show Code.wp Tryz.prog (peel 0 (bodyOf Tryz.f20)) _ _ _
 have e1:peel 0 (bodyOf Tryz.f20)=.seq (hdC (peel 0 (bodyOf Tryz.f20))) (peel 1 (bodyOf Tryz.f20)):=by kernel_rfl
 rw[e1]
 clear e1
 refine wp_seq_k fun K hK=>?_
 conv in hdC _=>whnf
 go_wp2
 have e1:peel 1 (bodyOf Tryz.f20)=.seq (hdC (peel 1 (bodyOf Tryz.f20))) (peel 2 (bodyOf Tryz.f20)):=by kernel_rfl
 rw[e1]
 clear e1
 refine wp_seq_k fun K hK=>?_
 conv in hdC _=>whnf
 go_wp2
 rw[← HW.out]
 have e1:peel 2 (bodyOf Tryz.f20)=.seq (hdC (peel 2 (bodyOf Tryz.f20))) (peel 3 (bodyOf Tryz.f20)):=by kernel_rfl
 rw[e1]
 clear e1
 refine wp_seq_k fun K hK=>?_
 conv in hdC _=>whnf
 go_wp2
 go_loopw [4] (fun kv wr=>∃ (k:Nat) (fo fe it se:Sl) (ts:List (Sl×Itm)) (x:St),k≤n∧kv=.int .i64 k∧x=foldE st0 (l.take k)∧Blk wr (w.heap.size+1) 30 #[.int .i64 x.clock,.slice fo.1 x.fols.length fo.2,.slice fe.1 x.fees.length fe.2,.slice it.1 x.itms.length it.2,.slice se.1 x.seas.length se.2,.int .i64 x.tFol,.int .i64 x.tFee,.int .i64 x.tItm,.int .i64 x.tSea]∧StIn wr (fun k=>w.heap.size+1<k) fo fe it se ts x∧Blk wr w.heap.size 30 #[.int .i64 0,.slice none 0 0,.slice none 0 0,.slice none 0 0,.slice none 0 0,.int .i64 0,.int .i64 0,.int .i64 0,.int .i64 0]∧Frm Nix w wr) (fun kv _=>n - (intOf kv).toNat)
 case atStart=>exact⟨0,(none,0),(none,0),(none,0),(none,0),[],st0,by omega,rfl,rfl,HB2.out,StIn.zero _ _,HB1.out,HF0.out⟩
 case round=>
  obtain⟨k,fo,fe,it,se,ts,x,hk,rfl,hx,hb,hs,hz,hf⟩:=hrel
  have HX:=Lib.hid hx
  have HB:=Lib.hid hb
  have HS:=Lib.hid hs
  have HZb:=Lib.hid hz
  have HF:=Lib.hid hf
  have HP:Hid (StP x):=by rw[hx];exact foldE_ok _ st0_ok
  clear hx hb hs hz hf
  by_cases hlt:k<n
  ·have hkl:k<l.length:=by rw[HL.out];exact hlt
   obtain⟨b,off,hA,hgb,hbl,hcell⟩:=evs_cells HV.out HF.out hkl
   subst hA
   have HFT:=Lib.hid (foldE_take (x:=st0) hkl)
   obtain⟨ev,hev⟩:∃ ev,l[k]=ev:=⟨_,rfl⟩
   rw[hev] at hcell HFT
   have KA:Hid (∀ W,Frm Nix wr W→Calls Tryz.prog 12 #[.agg #[.int .i64 x.clock,.slice fo.1 x.fols.length fo.2,.slice fe.1 x.fees.length fe.2,.slice it.1 x.itms.length it.2,.slice se.1 x.seas.length se.2,.int .i64 x.tFol,.int .i64 x.tFee,.int .i64 x.tItm,.int .i64 x.tSea],.agg #[.int .i64 ev.kind,.int .i64 ev.a,.int .i64 ev.b,.int .i64 ev.n,.string ev.s,.string ev.t,.string ev.u]] W (ApOut W (fun k=>w.heap.size+1<k) (applyS x ev).1 (applyS x ev).2)):=fun W hW=>rApply_any (HS.out.nix hW) HP.out.small ev
   obtain⟨x0,x1,x2,x3,x4,x5,x6,x7,x8⟩:=blk9 HB.out
   obtain⟨c0,c1,c2,c3,c4,c5,c6⟩:=hcell Nix wr id (Frm.refl _ _)
   have hbB:=HB.out.lt
   have HC:Hid (∀ W,Frm Nix wr W→(W.cell? ⟨w.heap.size+1,0,none⟩=some (.int .i64 x.clock)∧W.cell? ⟨w.heap.size+1,1,none⟩=some (.slice fo.1 x.fols.length fo.2)∧W.cell? ⟨w.heap.size+1,2,none⟩=some (.slice fe.1 x.fees.length fe.2)∧W.cell? ⟨w.heap.size+1,3,none⟩=some (.slice it.1 x.itms.length it.2)∧W.cell? ⟨w.heap.size+1,4,none⟩=some (.slice se.1 x.seas.length se.2)∧W.cell? ⟨w.heap.size+1,5,none⟩=some (.int .i64 x.tFol)∧W.cell? ⟨w.heap.size+1,6,none⟩=some (.int .i64 x.tFee)∧W.cell? ⟨w.heap.size+1,7,none⟩=some (.int .i64 x.tItm)∧W.cell? ⟨w.heap.size+1,8,none⟩=some (.int .i64 x.tSea))∧W.cell? ⟨b,off+k * 7,none⟩=some (.int .i64 ev.kind)∧W.cell? ⟨b,off+k * 7+1,none⟩=some (.int .i64 ev.a)∧W.cell? ⟨b,off+k * 7+2,none⟩=some (.int .i64 ev.b)∧W.cell? ⟨b,off+k * 7+3,none⟩=some (.int .i64 ev.n)∧W.cell? ⟨b,off+k * 7+4,none⟩=some (.string ev.s)∧W.cell? ⟨b,off+k * 7+5,none⟩=some (.string ev.t)∧W.cell? ⟨b,off+k * 7+6,none⟩=some (.string ev.u)):=fun W hW=>⟨blk9 (HB.out.frm hW id),hcell Nix W id hW⟩
   clear hcell hev
   obtain⟨y,hy⟩:∃ y,(applyS x ev).1=y:=⟨_,rfl⟩
   obtain⟨bb,hbb⟩:∃ bb,(applyS x ev).2=bb:=⟨_,rfl⟩
   rw[hy,hbb] at KA
   have HY:Hid (y=foldE st0 (l.take (k+1))):=by unfold Hid;rw[HFT.out,← HX.out,hy]
   clear hy hbb
   go_wp2
   have hbne:¬w.heap.size+1=b:=by have:=HVG.out b hgb;omega
   have hbne':¬b=w.heap.size+1:=fun e=>hbne e.symm
   refine wp_region_held_drew (S:=fun W=>W.cell? ⟨b,off+k * 7,none⟩=some (.int .i64 ev.kind)∧W.cell? ⟨b,off+k * 7+1,none⟩=some (.int .i64 ev.a)∧W.cell? ⟨b,off+k * 7+2,none⟩=some (.int .i64 ev.b)∧W.cell? ⟨b,off+k * 7+3,none⟩=some (.int .i64 ev.n)∧W.cell? ⟨b,off+k * 7+4,none⟩=some (.string ev.s)∧W.cell? ⟨b,off+k * 7+5,none⟩=some (.string ev.t)∧W.cell? ⟨b,off+k * 7+6,none⟩=some (.string ev.u)) (by kernel_rfl) (HC.out _ (Frm.refl Nix wr).drew).2 (fun hHeld=>?_)
   refine tkq (i:=1) rfl (by kernel_rfl) (fun _ _ _ h=>h) (by rfl) hHeld (by intro wS hSw;(try dsimp only at hSw);go_simp;all_goals with_reducible rfl) ?_
   try simp only[lt0,lt1,lt2,Act.put,lt3,lt4,lt5]
   refine tkq (i:=2) rfl (by kernel_rfl) (fun _ _ _ h=>h) (by rfl) hHeld (by intro wS hSw;(try dsimp only at hSw);go_simp;all_goals with_reducible rfl) ?_
   try simp only[lt0,lt1,lt2,Act.put,lt3,lt4,lt5]
   refine tkq (i:=3) rfl (by kernel_rfl) (fun _ _ _ h=>h) (by rfl) hHeld (by intro wS hSw;(try dsimp only at hSw);go_simp;all_goals with_reducible rfl) ?_
   try simp only[lt0,lt1,lt2,Act.put,lt3,lt4,lt5]
   refine tkq (i:=4) rfl (by kernel_rfl) (fun _ _ _ h=>h) (by rfl) hHeld (by intro wS hSw;(try dsimp only at hSw);go_simp;all_goals with_reducible rfl) ?_
   try simp only[lt0,lt1,lt2,Act.put,lt3,lt4,lt5]
   refine rdy1 (i:=0) (by kernel_rfl) rfl (fun K hK=>?_)
   go_simp
   refine hK.out _ _ (HC.out _ (Frm.refl Nix wr).drew).2 (fun hHeld=>?_)
   clear hK K
   try simp only[lt0,lt1,lt2,Act.put,lt3,lt4,lt5]
   refine rdy1 (i:=5) (by kernel_rfl) rfl (fun K hK=>?_)
   go_simp
   go_at_call 12
   refine(KA.out _ (Frm.refl Nix _).drew).mono ?_
   rintro r w1 ⟨fo',fe',it',se',ts',rfl,hs,hf⟩
   have HS1:=Lib.hid hs
   have Z1:Hid (Frm Nix wr w1):=(Frm.refl Nix _).drew.trans hf
   clear hs hf
   have hb1:=HB.out.frm Z1.out id
   obtain⟨y0,y1,y2,y3,y4,y5,y6,y7,y8⟩:=blk9 hb1
   have g0:=hb1.frozen 0
   have g1:=hb1.frozen 1
   have g2:=hb1.frozen 2
   have g3:=hb1.frozen 3
   have g4:=hb1.frozen 4
   have g5:=hb1.frozen 5
   have g6:=hb1.frozen 6
   have g7:=hb1.frozen 7
   have g8:=hb1.frozen 8
   unfold stV
   dsimp only
   refine hK.out _ _ (HC.out _ Z1.out).2 (fun hHeld=>?_)
   clear hK K
   try simp only[lt0,lt1,lt2,Act.put,lt3,lt4,lt5]
   refine tkq (i:=6) rfl (by kernel_rfl) (fun _ _ _ h=>h) (by rfl) hHeld (by intro wS hSw;(try dsimp only at hSw);go_simp;all_goals with_reducible rfl) ?_
   try simp only[lt0,lt1,lt2,Act.put,lt3,lt4,lt5]
   refine tkq (i:=7) rfl (by kernel_rfl) (fun _ _ _ h=>h) (by rfl) hHeld (by intro wS hSw;(try dsimp only at hSw);go_simp;all_goals with_reducible rfl) ?_
   try simp only[lt0,lt1,lt2,Act.put,lt3,lt4,lt5]
   refine tkq (i:=8) rfl (by kernel_rfl) (fun _ _ _ h=>h) (by rfl) hHeld (by intro wS hSw;(try dsimp only at hSw);go_simp;all_goals with_reducible rfl) ?_
   try simp only[lt0,lt1,lt2,Act.put,lt3,lt4,lt5]
   refine rdy1 (i:=9) (by kernel_rfl) rfl (fun K hK=>?_)
   go_simp
   refine hK.out _ _ (by obtain⟨c0,c1,c2,c3,c4,c5,c6⟩:=HC.out _ Z1.out |>.2;simp[*,World.cell?_setCell_far]) (fun hHeld=>?_)
   clear hK K
   try simp only[lt0,lt1,lt2,Act.put,lt3,lt4,lt5]
   refine wpAnyH_done (by kernel_rfl) ?_ _
   all_goals
    obtain⟨we,hwe⟩:∃ we,we=w1.setCells (w.heap.size+1) 0 [.int .i64 y.clock,.slice fo'.1 y.fols.length fo'.2,.slice fe'.1 y.fees.length fe'.2,.slice it'.1 y.itms.length it'.2,.slice se'.1 y.seas.length se'.2,.int .i64 y.tFol,.int .i64 y.tFee,.int .i64 y.tItm,.int .i64 y.tSea]:=⟨_,rfl⟩
    have hbe:Blk we (w.heap.size+1) 30 #[.int .i64 y.clock,.slice fo'.1 y.fols.length fo'.2,.slice fe'.1 y.fees.length fe'.2,.slice it'.1 y.itms.length it'.2,.slice se'.1 y.seas.length se'.2,.int .i64 y.tFol,.int .i64 y.tFee,.int .i64 y.tItm,.int .i64 y.tSea]:=by
     have:=Blk.putL [.int .i64 y.clock,.slice fo'.1 y.fols.length fo'.2,.slice fe'.1 y.fees.length fe'.2,.slice it'.1 y.itms.length it'.2,.slice se'.1 y.seas.length se'.2,.int .i64 y.tFol,.int .i64 y.tFee,.int .i64 y.tItm,.int .i64 y.tSea] 0 hb1
     rw[putL9] at this
     rw[hwe]
     exact this
    have fe_:Frm (fun k=>k=w.heap.size+1) w1 we:=by rw[hwe];exact Frm.setCells _ 0 (Frm.refl _ _) (.inl rfl)
    simp only[World.setCells] at hwe
    rw[← hwe]
    have hFe:Frm Nix w we:=(HF.out.trans Z1.out).next fe_ (fun k hk=>.inr (by omega))
    have hSe:StIn we (fun k=>w.heap.size+1<k) fo' fe' it' se' ts' y:=(HS1.out.mono (G':=fun k=>w.heap.size+1<k) fun k hk=>by rcases hk with hk | hk;exact hk;have h1:=hbB;have h2:wr.heap.size≤wr.drew.heap.size:=(Frm.refl Nix wr).drew.size;first | omega | (simp at hk;omega)).frm fe_ fun k hk e=>by omega
    have hze:Blk we w.heap.size 30 #[.int .i64 0,.slice none 0 0,.slice none 0 0,.slice none 0 0,.slice none 0 0,.int .i64 0,.int .i64 0,.int .i64 0,.int .i64 0]:=(HZb.out.frm Z1.out id).frm fe_ (by simp)
    have H9:=Lib.hid (And.intro hbe (And.intro hSe (And.intro hze hFe)))
    clear hwe hbe fe_ hFe hSe hze hb1
    go_wp2
    go_roundw
    case rel=>exact⟨k+1,fo',fe',it',se',ts',y,by omega,by go_num,HY.out,H9.out⟩
    case measure=>simp[intOf];omega
  ·obtain rfl:k=n:=by omega
   have HTk:Hid (x=foldE st0 l):=by unfold Hid;rw[HX.out,List.take_of_length_le (by rw[HL.out];exact Nat.le_refl _)]
   obtain⟨x0,x1,x2,x3,x4,x5,x6,x7,x8⟩:=blk9 HB.out
   obtain⟨y0,y1,y2,y3,y4,y5,y6,y7,y8⟩:=blk9 HZb.out
   have g0:=HZb.out.frozen 0
   have g1:=HZb.out.frozen 1
   have g2:=HZb.out.frozen 2
   have g3:=HZb.out.frozen 3
   have g4:=HZb.out.frozen 4
   have g5:=HZb.out.frozen 5
   have g6:=HZb.out.frozen 6
   have g7:=HZb.out.frozen 7
   have g8:=HZb.out.frozen 8
   go_wp2
   simp only[peel,bodyOf,Tryz.f20]
   go_wp2
   obtain⟨we,hwe⟩:∃ we,we=wr.setCells w.heap.size 0 [.int .i64 x.clock,.slice fo.1 x.fols.length fo.2,.slice fe.1 x.fees.length fe.2,.slice it.1 x.itms.length it.2,.slice se.1 x.seas.length se.2,.int .i64 x.tFol,.int .i64 x.tFee,.int .i64 x.tItm,.int .i64 x.tSea]:=⟨_,rfl⟩
   have hbe:Blk we w.heap.size 30 #[.int .i64 x.clock,.slice fo.1 x.fols.length fo.2,.slice fe.1 x.fees.length fe.2,.slice it.1 x.itms.length it.2,.slice se.1 x.seas.length se.2,.int .i64 x.tFol,.int .i64 x.tFee,.int .i64 x.tItm,.int .i64 x.tSea]:=by
    have:=Blk.putL [.int .i64 x.clock,.slice fo.1 x.fols.length fo.2,.slice fe.1 x.fees.length fe.2,.slice it.1 x.itms.length it.2,.slice se.1 x.seas.length se.2,.int .i64 x.tFol,.int .i64 x.tFee,.int .i64 x.tItm,.int .i64 x.tSea] 0 HZb.out
    rw[putL9] at this
    rw[hwe]
    exact this
   have fe_:Frm (fun k=>k=w.heap.size) wr we:=by rw[hwe];exact Frm.setCells _ 0 (Frm.refl _ _) (.inl rfl)
   have HFe:Hid (Frm Nix w we):=HF.out.next fe_ (fun k hk=>.inr (by omega))
   have HBe:=Lib.hid hbe
   have HSe:Hid (StIn we (fun k=>w.heap.size≤k) fo fe it se ts x):=(HS.out.frm fe_ fun k hk e=>by omega).mono fun k hk=>by omega
   simp only[World.setCells] at hwe
   rw[← hwe]
   refine bodyPost_ret (rfold_ret HBe.out rfl) rfl ?_
   rw[← HTk.out]
   exact⟨fo,fe,it,se,ts,rfl,HSe.out,HFe.out⟩
end Go.Proofs.YtlafbakoefcifaaGreat
