/- Words. -/
import Derived.Test.YtaecjmiobllhmaaGreatGr22
set_option linter.unusedVariables false
set_option linter.unusedSimpArgs false
set_option maxRecDepth 100000
set_option maxHeartbeats 16000000
namespace Go.Proofs.YtaecjmiobllhmaaGreat
open Go.Value renaming int→I,string→V,slice→U,pointer→O
open Go.IntKind renaming i64→J
open Tryz renaming prog→pQ
open Go.RowKit Go.Lib
variable {w wc:World}{g be bf bt:Nat}{M:Ms}{x:St}{v:Sl}{uu:Nat→Value}{u8 u9 u10 u11:Value}
theorem JV(hS:aH wc g M x)(hF:aa ag w wc)(a b n:Int)(s t u:ByteArray)(hB:aj wc be 42 #[I J 8,I J a,I J b,I J n,V s,V t,V u])(mq:aj wc bf 64 #[I J (au x a).id,I J (au x a).inn,V (au x a).url,V (au x a).title])(l7:aj wc bt 82 (nr v (ah x a)))(hv:bF wc v (ah x a).tags)(hlt:∀k,SF g M k→k<w.heap.size)(sH:w.heap.size≤be)(tO:w.heap.size≤bf)(hst:w.heap.size≤bt)(aL:aG x ⟨8,a,b,n,s,t,u⟩=true)(ha:bn a)(hb:bn b):
  Code.wp pQ (ai 3 (ae Tryz.f42)) (bodyPost pQ Tryz.f42 λr w'=>r=.returned (.bool true)∧aH w' g M (iu x ⟨8,a,b,n,s,t,u⟩)∧aa (SF g M) w w') (ij g be bf bt (.agg #[I J 8,I J a,I J b,I J n,V s,V t,V u]) uu) wc:=by
 unfold ij;obtain⟨d0,d1,d2,d3,d4,d5,d6⟩:=az hB;have he:=cg aL;obtain⟨f,uV,nB⟩:=(G0 (x:=x) (.inl rfl) he).1 aL;simp only at nB;have hat:=kU hS.ok.iR uV nB;have bO:=lg hS.ok aL;rw[Qb rfl] at bO ⊢;simp only at bO ⊢;have hn':(n==1)=decide (n=1):=by rw[Bool.eq_iff_iff];simp
 generalize decide (n=1)=bb at *;have yZ:ah x a=f:=by unfold ah;rw[hat];rfl
 rw[yZ] at l7 hv;unfold nr at l7;have yV:¬SF g M bt:=λh=>by have:=hlt bt h;omega
 have Bo:¬qp wc bt:=λh=>l7.ne_str (by decide) h rfl
 have ne:∀k,SF g M k→¬k=bt:=λk hk e=>yV (e ▸ hk)
 have vp:be≠bt:=hB.ne_ l7 (by decide);obtain⟨⟨g1,g2,g3,g4,g5,g6,g7,g8⟩,-⟩:=hS.apart.ne;obtain⟨w1,hw1⟩:∃w1,w1=wc.setCell ⟨bt,6,none⟩ (.bool bb):=⟨_,rfl⟩;have f1:aa (·=bt) wc w1:=by rw[hw1];exact(aa.refl (·=bt) wc).setCell (.inl rfl) _
 have b1:aj w1 bt 82 #[I J f.id,I J f.feed,I J f.date,V f.guid,V f.title,V f.link,.bool bb,.bool f.star,U v.1 f.tags.length v.2]:=by
  rw[hw1];have:=l7.set_ 6 (.bool bb)
  simpa using this
 have x6:=l7.cell 6;have fz:=l7.frozen 6;simp at x6;have y0:=b1.cell 0;have y1:=b1.cell 1;have y2:=b1.cell 2;have y3:=b1.cell 3;have y4:=b1.cell 4;have y5:=b1.cell 5;have y6:=b1.cell 6;have y7:=b1.cell 7;have y8:=b1.cell 8;simp at y0 y1 y2 y3 y4 y5 y6 y7 y8;obtain⟨Sg,Sh,-⟩:=az (hB.frm f1 vp);have q3:=(hS.blk.frm f1 (ne _ (by simp[SF]))).cell 3;simp at q3;obtain⟨sl,hi,qW⟩:=hS.maps.it;obtain⟨w2,r2,m2,f2⟩:=((hi.frm f1 (ne _ (by simp[SF]))).frm (fR w1).drew id).update_old cE Tryz.underlying108 ((dU hat).map λt:aR=>(kI t.id,iG (sl t.id) t)) (iG v {f with read:=bb});rw[show kI f.id=kI a by rw[nB]] at r2 m2;have Fe:(Instr.mapUpdate 108 (.map (some M.it)) (I J a) (.agg #[I J f.id,I J f.feed,I J f.date,V f.guid,V f.title,V f.link,.bool bb,.bool f.star,U v.1 f.tags.length v.2])).run pQ w1.drew=.ok () w2:=r2;have qN:aa (·=M.it) w1 w2:=(aa.refl (·=M.it) w1).drew.trans f2;have f12:aa (λk=>k=M.it∨k=bt) wc w2:=(f1.mono λk hk=>.inr hk).trans (qN.mono λk hk=>.inl hk)
 have hv2:bF w2 v f.tags:=hv.frm f12 λk hk e=>by
  rcases e with e|e
  ·exact hS.str k hk (by simp[SF,e])
  ·exact Bo (e ▸ hk)
 have HM:=h_ (yY (b:=bt) hS qW hat (λf=>{f with read:=bb}) rfl rfl rfl hv2 m2 f12 yV Bo bO);have HF:=h_ hF;have HW:=h_ hw1;clear hS hF hB mq l7 hv hlt aL bO hat uV r2 m2 f2 qN f12 b1 f1 hw1 nB Bo hi qW hv2 yZ;simp only[ai,ae,Tryz.f42];go_wp2;rw[←HW.out]
 go_still_tail 7,(by kernel_rfl)
 change wpList _ _ _ _ _ w1.drew;go_wp2_with (at_mapUpdate;refine aQ Fe rfl _ _ _ rfl rfl rfl rfl ?_);go_ret;exact⟨rfl,HM.out.1,(aa.nix (F:=SF g M) HF.out).next HM.out.2 λk hk=>hk.imp id λe=>by omega⟩
theorem JW(hS:aH wc g M x)(hF:aa ag w wc)(a b n:Int)(s t u:ByteArray)(hB:aj wc be 42 #[I J 9,I J a,I J b,I J n,V s,V t,V u])(mq:aj wc bf 64 #[I J (au x a).id,I J (au x a).inn,V (au x a).url,V (au x a).title])(l7:aj wc bt 82 (nr v (ah x a)))(hv:bF wc v (ah x a).tags)(hlt:∀k,SF g M k→k<w.heap.size)(sH:w.heap.size≤be)(tO:w.heap.size≤bf)(hst:w.heap.size≤bt)(aL:aG x ⟨9,a,b,n,s,t,u⟩=true)(ha:bn a)(hb:bn b):
  Code.wp pQ (ai 3 (ae Tryz.f42)) (bodyPost pQ Tryz.f42 λr w'=>r=.returned (.bool true)∧aH w' g M (iu x ⟨9,a,b,n,s,t,u⟩)∧aa (SF g M) w w') (ij g be bf bt (.agg #[I J 9,I J a,I J b,I J n,V s,V t,V u]) uu) wc:=by
 unfold ij;obtain⟨d0,d1,d2,d3,d4,d5,d6⟩:=az hB;have he:=cg aL;obtain⟨f,uV,nB⟩:=(G0 (x:=x) (.inr rfl) he).1 aL;simp only at nB;have hat:=kU hS.ok.iR uV nB;have bO:=lg hS.ok aL;rw[Qc rfl] at bO ⊢;simp only at bO ⊢;have hn':(n==1)=decide (n=1):=by rw[Bool.eq_iff_iff];simp
 generalize decide (n=1)=bb at *;have yZ:ah x a=f:=by unfold ah;rw[hat];rfl
 rw[yZ] at l7 hv;unfold nr at l7;have yV:¬SF g M bt:=λh=>by have:=hlt bt h;omega
 have Bo:¬qp wc bt:=λh=>l7.ne_str (by decide) h rfl
 have ne:∀k,SF g M k→¬k=bt:=λk hk e=>yV (e ▸ hk)
 have vp:be≠bt:=hB.ne_ l7 (by decide);obtain⟨⟨g1,g2,g3,g4,g5,g6,g7,g8⟩,-⟩:=hS.apart.ne;obtain⟨w1,hw1⟩:∃w1,w1=wc.setCell ⟨bt,7,none⟩ (.bool bb):=⟨_,rfl⟩;have f1:aa (·=bt) wc w1:=by rw[hw1];exact(aa.refl (·=bt) wc).setCell (.inl rfl) _
 have b1:aj w1 bt 82 #[I J f.id,I J f.feed,I J f.date,V f.guid,V f.title,V f.link,.bool f.read,.bool bb,U v.1 f.tags.length v.2]:=by
  rw[hw1];have:=l7.set_ 7 (.bool bb)
  simpa using this
 have x6:=l7.cell 7;have fz:=l7.frozen 7;simp at x6;have y0:=b1.cell 0;have y1:=b1.cell 1;have y2:=b1.cell 2;have y3:=b1.cell 3;have y4:=b1.cell 4;have y5:=b1.cell 5;have y6:=b1.cell 6;have y7:=b1.cell 7;have y8:=b1.cell 8;simp at y0 y1 y2 y3 y4 y5 y6 y7 y8;obtain⟨Sg,Sh,-⟩:=az (hB.frm f1 vp);have q3:=(hS.blk.frm f1 (ne _ (by simp[SF]))).cell 3;simp at q3;obtain⟨sl,hi,qW⟩:=hS.maps.it;obtain⟨w2,r2,m2,f2⟩:=((hi.frm f1 (ne _ (by simp[SF]))).frm (fR w1).drew id).update_old cE Tryz.underlying108 ((dU hat).map λt:aR=>(kI t.id,iG (sl t.id) t)) (iG v {f with star:=bb});rw[show kI f.id=kI a by rw[nB]] at r2 m2;have Fe:(Instr.mapUpdate 108 (.map (some M.it)) (I J a) (.agg #[I J f.id,I J f.feed,I J f.date,V f.guid,V f.title,V f.link,.bool f.read,.bool bb,U v.1 f.tags.length v.2])).run pQ w1.drew=.ok () w2:=r2;have qN:aa (·=M.it) w1 w2:=(aa.refl (·=M.it) w1).drew.trans f2;have f12:aa (λk=>k=M.it∨k=bt) wc w2:=(f1.mono λk hk=>.inr hk).trans (qN.mono λk hk=>.inl hk)
 have hv2:bF w2 v f.tags:=hv.frm f12 λk hk e=>by
  rcases e with e|e
  ·exact hS.str k hk (by simp[SF,e])
  ·exact Bo (e ▸ hk)
 have HM:=h_ (yY (b:=bt) hS qW hat (λf=>{f with star:=bb}) rfl rfl rfl hv2 m2 f12 yV Bo bO);have HF:=h_ hF;have HW:=h_ hw1;clear hS hF hB mq l7 hv hlt aL bO hat uV r2 m2 f2 qN f12 b1 f1 hw1 nB Bo hi qW hv2 yZ;simp only[ai,ae,Tryz.f42];go_wp2;rw[←HW.out]
 go_still_tail 7,(by kernel_rfl)
 change wpList _ _ _ _ _ w1.drew;go_wp2_with (at_mapUpdate;refine aQ Fe rfl _ _ _ rfl rfl rfl rfl ?_);go_ret;exact⟨rfl,HM.out.1,(aa.nix (F:=SF g M) HF.out).next HM.out.2 λk hk=>hk.imp id λe=>by omega⟩
theorem Ho(hS:aH wc g M x)(hF:aa ag w wc)(a b n:Int)(s t u:ByteArray)(hB:aj wc be 42 #[I J 10,I J a,I J b,I J n,V s,V t,V u])(mq:aj wc bf 64 #[I J (au x a).id,I J (au x a).inn,V (au x a).url,V (au x a).title])(l7:aj wc bt 82 (nr v (ah x a)))(hv:bF wc v (ah x a).tags)(hlt:∀k,SF g M k→k<w.heap.size)(sH:w.heap.size≤be)(tO:w.heap.size≤bf)(hst:w.heap.size≤bt)(aL:aG x ⟨10,a,b,n,s,t,u⟩=true)(ha:bn a)(hb:bn b):
  Code.wp pQ (ai 3 (ae Tryz.f42)) (bodyPost pQ Tryz.f42 λr w'=>r=.returned (.bool true)∧aH w' g M (iu x ⟨10,a,b,n,s,t,u⟩)∧aa (SF g M) w w') (ij g be bf bt (.agg #[I J 10,I J a,I J b,I J n,V s,V t,V u]) uu) wc:=by
 unfold ij;obtain⟨d0,d1,d2,d3,d4,d5,d6⟩:=az hB;have he:=cg aL;obtain⟨f,hat,-⟩:=(G1 (x:=x) rfl he).1 aL;simp only at hat;have nB:f.id=a:=(gM hat).2;have bO:=lg hS.ok aL;rw[L6 rfl] at bO ⊢;simp only at bO ⊢;have QC:n=0∨n=1:=(Eh rfl he).1;have yZ:ah x a=f:=by unfold ah;rw[hat];rfl
 rw[yZ] at l7 hv;unfold nr at l7;have yV:¬SF g M bt:=λh=>by have:=hlt bt h;omega
 have Bo:¬qp wc bt:=λh=>l7.ne_str (by decide) h rfl
 have ne:∀k,SF g M k→¬k=bt:=λk hk e=>yV (e ▸ hk)
 have vp:be≠bt:=hB.ne_ l7 (by decide);obtain⟨⟨g1,g2,g3,g4,g5,g6,g7,g8⟩,-⟩:=hS.apart.ne;have KT:=h_ (C8 hS 10 a b n s t u ha QC);rw[yZ] at KT;unfold bQ NS at KT;obtain⟨L,hL⟩:∃L,L=cY f.tags s (decide (n=1)):=⟨_,rfl⟩;rw[←hL] at KT;have x8:=l7.cell 8;simp at x8;have HS:=h_ hS;have HF:=h_ hF;have HB:=h_ hB;have TQ:=h_ l7;have N5:=h_ bO;have Ep:=h_ hat;have ug:=h_ nB;have yb:=h_ hL;have nbe:∀k,SF g M k→¬be=k:=λk hk e=>by have:=hlt k hk;omega
 clear hS hF hB mq l7 hv aL bO hat yZ nB hL;simp only[ai,ae,Tryz.f42];go_wp2_with (go_at_call 89;refine KT.out.mono ?_;rintro r w1 ⟨v',rfl,My,f1⟩;have b1:=TQ.out.frm f1 id;have Sm:=b1.cell 8;have fz:=b1.frozen 8;simp at Sm;have bT:=h_ b1;clear b1);obtain⟨w3,hw3⟩:∃w3,w3=w1.setCell ⟨bt,8,none⟩ (U v'.1 L.length v'.2):=⟨_,rfl⟩;rw[←hw3];have b1:=bT.out;have f3:aa (·=bt) w1 w3:=by rw[hw3];exact(aa.refl (·=bt) w1).setCell (.inl rfl) _
 have b3:aj w3 bt 82 #[I J f.id,I J f.feed,I J f.date,V f.guid,V f.title,V f.link,.bool f.read,.bool f.star,U v'.1 L.length v'.2]:=by
  rw[hw3];have:=b1.set_ 8 (U v'.1 L.length v'.2)
  simpa using this
 have h1:=HS.out.nix f1;have y0:=b3.cell 0;have y1:=b3.cell 1;have y2:=b3.cell 2;have y3:=b3.cell 3;have y4:=b3.cell 4;have y5:=b3.cell 5;have y6:=b3.cell 6;have y7:=b3.cell 7;have y8:=b3.cell 8;simp at y0 y1 y2 y3 y4 y5 y6 y7 y8;obtain⟨QA,Ls,-⟩:=az ((HB.out.frm f1 id).frm f3 vp);have q3:=(h1.blk.frm f3 (ne _ (by simp[SF]))).cell 3;simp at q3;obtain⟨sl,hi,qW⟩:=h1.maps.it;obtain⟨w4,r4,m4,f4⟩:=((hi.frm f3 (ne _ (by simp[SF]))).frm (fR w3).drew id).update_old cE Tryz.underlying108 ((dU Ep.out).map λt:aR=>(kI t.id,iG (sl t.id) t)) (iG v' {f with tags:=L});rw[show kI f.id=kI a by rw[ug.out]] at r4 m4;have QB:(Instr.mapUpdate 108 (.map (some M.it)) (I J a) (.agg #[I J f.id,I J f.feed,I J f.date,V f.guid,V f.title,V f.link,.bool f.read,.bool f.star,U v'.1 L.length v'.2])).run pQ w3.drew=.ok () w4:=r4;have Nz:aa (·=M.it) w3 w4:=(aa.refl (·=M.it) w3).drew.trans f4;have f14:aa (λk=>k=M.it∨k=bt) w1 w4:=(f3.mono λk hk=>.inr hk).trans (Nz.mono λk hk=>.inl hk);have Hp:¬qp w1 bt:=λh=>b1.ne_str (by decide) h rfl
 have hv4:bF w4 v' L:=My.frm f14 λk hk e=>by
  rcases e with e|e
  ·exact h1.str k hk (by simp[SF,e])
  ·exact Hp (e ▸ hk)
 have hL:=yb.out;rw[hL] at m4 hv4;have HM:=h_ (yY (b:=bt) h1 qW Ep.out (λf=>{f with tags:=cY f.tags s (decide (n=1))}) rfl rfl rfl hv4 m4 f14 yV Hp N5.out);have pG:=h_ (HF.out.trans f1);clear b1 f3 b3 h1 r4 m4 f4 Nz f14 My hv4 hi qW hw3 x8 Sm d0 d1 d2 d3 d4 d5 d6 hL Hp f1
 go_still_tail 7,(by kernel_rfl)
 change wpList _ _ _ _ _ w3.drew;go_wp2_with (at_mapUpdate;refine aQ QB rfl _ _ _ rfl rfl rfl rfl ?_);go_ret;exact⟨rfl,HM.out.1,(aa.nix (F:=SF g M) pG.out).next HM.out.2 λk hk=>hk.imp id λe=>by omega⟩
theorem Hq(hS:aH wc g M x)(hF:aa ag w wc)(k a b n:Int)(s t u:ByteArray)(hB:aj wc be 42 #[I J k,I J a,I J b,I J n,V s,V t,V u])(mq:aj wc bf 64 #[I J (au x a).id,I J (au x a).inn,V (au x a).url,V (au x a).title])(l7:aj wc bt 82 (nr v (ah x a)))(hv:bF wc v (ah x a).tags)(hlt:∀k,SF g M k→k<w.heap.size)(sH:w.heap.size≤be)(tO:w.heap.size≤bf)(hst:w.heap.size≤bt)(aL:aG x ⟨k,a,b,n,s,t,u⟩=true)(ha:bn a)(hb:bn b){u8 u9 u10 u11 u12 u13 u14 u15 u16 cG cH cI cR cS cT u23 u24 cN:Value}:
  Code.wp pQ (ai 3 (ae Tryz.f42)) (bodyPost pQ Tryz.f42 λr w'=>r=.returned (.bool true)∧aH w' g M (iu x ⟨k,a,b,n,s,t,u⟩)∧aa (SF g M) w w') ⟨#[O (some ⟨g,0,none⟩),.agg #[I J k,I J a,I J b,I J n,V s,V t,V u],undef,O (some ⟨be,0,none⟩),.bool false,O (some ⟨bf,0,none⟩),O (some ⟨bt,0,none⟩),undef,u8,u9,u10,u11,u12,u13,u14,u15,u16,cG,cH,cI,cR,cS,cT,u23,u24,cN,undef,undef,undef,undef,undef,undef,undef,undef,undef,undef,undef,undef,undef,undef,undef,undef,undef,undef,undef,undef,undef,undef,undef,undef,undef,undef,undef,undef,undef,undef,undef,undef,undef,undef,undef,undef,undef,undef,undef,undef,undef,undef,undef,undef,undef,undef,undef,undef,undef,undef,undef,undef,undef,undef,undef,undef,undef,undef,undef,undef,undef,undef,undef,undef,undef,undef,undef,undef,undef,undef,undef,undef,undef,undef,undef,undef,undef,undef,undef,undef,undef,undef,undef,undef,undef,undef,undef,undef,undef,undef,undef,undef,undef,undef,undef,undef,undef,undef,undef,undef,undef,undef,undef,undef,undef,undef,undef,undef,undef,undef,undef,undef,undef,undef,undef,undef,undef,undef,undef,undef,undef,undef,undef,undef],[]⟩ wc:=by
 have hk:=vZ (cg aL);simp only at hk;show Code.wp _ _ _ (ij g be bf bt (.agg #[I J k,I J a,I J b,I J n,V s,V t,V u]) λn=>([undef,undef,undef,undef,undef,undef,undef,undef,u8,u9,u10,u11,u12,u13,u14,u15,u16,cG,cH,cI,cR,cS,cT,u23,u24,cN]:List Value).getD n undef) wc
 rcases hk with rfl|rfl|rfl|rfl|rfl|rfl|rfl|rfl|rfl|rfl|rfl|rfl|rfl
 ·exact JN hS hF a b n s t u hB mq l7 hv hlt sH tO hst aL ha hb
 ·exact JR hS hF a b n s t u hB mq l7 hv hlt sH tO hst aL ha hb
 ·exact JO hS hF a b n s t u hB mq l7 hv hlt sH tO hst aL ha hb
 ·exact JQ hS hF a b n s t u hB mq l7 hv hlt sH tO hst aL ha hb
 ·exact JS hS hF a b n s t u hB mq l7 hv hlt sH tO hst aL ha hb
 ·exact JT hS hF a b n s t u hB mq l7 hv hlt sH tO hst aL ha hb
 ·exact JP hS hF a b n s t u hB mq l7 hv hlt sH tO hst aL ha hb
 ·exact JV hS hF a b n s t u hB mq l7 hv hlt sH tO hst aL ha hb
 ·exact JW hS hF a b n s t u hB mq l7 hv hlt sH tO hst aL ha hb
 ·exact Ho hS hF a b n s t u hB mq l7 hv hlt sH tO hst aL ha hb
 ·exact Hl hS hF a b n s t u hB mq l7 hv hlt sH tO hst aL ha hb
 ·exact Hn hS hF a b n s t u hB mq l7 hv hlt sH tO hst aL ha hb
 ·exact Hm hS hF a b n s t u hB mq l7 hv hlt sH tO hst aL ha hb
theorem JX(hS:aH wc g M x)(hF:aa ag w wc)(k a b n:Int)(s t u:ByteArray)(hB:aj wc be 42 #[I J k,I J a,I J b,I J n,V s,V t,V u])(hlt:∀k,SF g M k→k<w.heap.size)(sH:w.heap.size≤be)(aL:aG x ⟨k,a,b,n,s,t,u⟩=true)(ha:bn a)(hb:bn b):
  Code.wp pQ (ai 2 (ae Tryz.f42)) (bodyPost pQ Tryz.f42 λr w'=>r=.returned (.bool true)∧aH w' g M (iu x ⟨k,a,b,n,s,t,u⟩)∧aa (SF g M) w w') ⟨#[O (some ⟨g,0,none⟩),.agg #[I J k,I J a,I J b,I J n,V s,V t,V u],undef,O (some ⟨be,0,none⟩),.bool false,undef,undef,undef,u8,u9,u10,u11,undef,undef,undef,undef,undef,undef,undef,undef,undef,undef,undef,undef,undef,undef,undef,undef,undef,undef,undef,undef,undef,undef,undef,undef,undef,undef,undef,undef,undef,undef,undef,undef,undef,undef,undef,undef,undef,undef,undef,undef,undef,undef,undef,undef,undef,undef,undef,undef,undef,undef,undef,undef,undef,undef,undef,undef,undef,undef,undef,undef,undef,undef,undef,undef,undef,undef,undef,undef,undef,undef,undef,undef,undef,undef,undef,undef,undef,undef,undef,undef,undef,undef,undef,undef,undef,undef,undef,undef,undef,undef,undef,undef,undef,undef,undef,undef,undef,undef,undef,undef,undef,undef,undef,undef,undef,undef,undef,undef,undef,undef,undef,undef,undef,undef,undef,undef,undef,undef,undef,undef,undef,undef,undef,undef,undef,undef,undef,undef,undef,undef,undef,undef,undef,undef,undef,undef,undef,undef],[]⟩ wc:=by
 have e:ai 2 (ae Tryz.f42)=.seq (aD (ai 2 (ae Tryz.f42))) (ai 3 (ae Tryz.f42)):=by kernel_rfl
 rw[e];clear e;refine wp_seq_k λK hK=>?_
 obtain⟨vt,Nx⟩:=hS.itmSl ha;have pw:Hid (∀W,aa ag wc W→(λW=>aa ag wc W∧W.cell? ⟨g,2,none⟩=some (.map (some M.fe))∧W.cell? ⟨g,3,none⟩=some (.map (some M.it))∧W.cell? ⟨be,1,none⟩=some (I J a)∧(Instr.lookup 107 (.map (some M.fe)) (I J a) false).run pQ W=.ok (.agg #[I J (au x a).id,I J (au x a).inn,V (au x a).url,V (au x a).title]) W∧(Instr.lookup 108 (.map (some M.it)) (I J a) false).run pQ W=.ok (.agg #[I J (ah x a).id,I J (ah x a).feed,I J (ah x a).date,V (ah x a).guid,V (ah x a).title,V (ah x a).link,.bool (ah x a).read,.bool (ah x a).star,U vt.1 (ah x a).tags.length vt.2]) W) W):=λW hf=>⟨hf,(hS.nix hf).cells.2.2.1,(hS.nix hf).cells.2.2.2.1,(az (hB.frm hf id)).2.1,(hS.nix hf).feeLook ha false,(Nx _ hf).2 false⟩
 have HT:Hid (∀W,aa ag wc W→bF W vt (ah x a).tags):=λW hf=>(Nx _ hf).1
 have hf0:=fR wc;have hsz:=hF.size;simp only[aD,ai,ae,Tryz.f42];have HS:=h_ hS;have HF:=h_ hF;have HB:=h_ hB;have yb:=h_ hlt;have e1:∀o,(wc.alloc o).heap.size=wc.heap.size+1:=λo=>by simp
 have HA:Hid (aH ((wc.alloc (.cells #[I J (au x a).id,I J (au x a).inn,V (au x a).url,V (au x a).title] 64)).alloc (.cells #[I J (ah x a).id,I J (ah x a).feed,I J (ah x a).date,V (ah x a).guid,V (ah x a).title,V (ah x a).link,.bool (ah x a).read,.bool (ah x a).star,U vt.1 (ah x a).tags.length vt.2] 82)).drew g M x∧aa ag w ((wc.alloc (.cells #[I J (au x a).id,I J (au x a).inn,V (au x a).url,V (au x a).title] 64)).alloc (.cells #[I J (ah x a).id,I J (ah x a).feed,I J (ah x a).date,V (ah x a).guid,V (ah x a).title,V (ah x a).link,.bool (ah x a).read,.bool (ah x a).star,U vt.1 (ah x a).tags.length vt.2] 82)).drew∧aj ((wc.alloc (.cells #[I J (au x a).id,I J (au x a).inn,V (au x a).url,V (au x a).title] 64)).alloc (.cells #[I J (ah x a).id,I J (ah x a).feed,I J (ah x a).date,V (ah x a).guid,V (ah x a).title,V (ah x a).link,.bool (ah x a).read,.bool (ah x a).star,U vt.1 (ah x a).tags.length vt.2] 82)).drew be 42 #[I J k,I J a,I J b,I J n,V s,V t,V u]∧aj ((wc.alloc (.cells #[I J (au x a).id,I J (au x a).inn,V (au x a).url,V (au x a).title] 64)).alloc (.cells #[I J (ah x a).id,I J (ah x a).feed,I J (ah x a).date,V (ah x a).guid,V (ah x a).title,V (ah x a).link,.bool (ah x a).read,.bool (ah x a).star,U vt.1 (ah x a).tags.length vt.2] 82)).drew wc.heap.size 64 #[I J (au x a).id,I J (au x a).inn,V (au x a).url,V (au x a).title]∧aj ((wc.alloc (.cells #[I J (au x a).id,I J (au x a).inn,V (au x a).url,V (au x a).title] 64)).alloc (.cells #[I J (ah x a).id,I J (ah x a).feed,I J (ah x a).date,V (ah x a).guid,V (ah x a).title,V (ah x a).link,.bool (ah x a).read,.bool (ah x a).star,U vt.1 (ah x a).tags.length vt.2] 82)).drew (wc.heap.size+1) 82 #[I J (ah x a).id,I J (ah x a).feed,I J (ah x a).date,V (ah x a).guid,V (ah x a).title,V (ah x a).link,.bool (ah x a).read,.bool (ah x a).star,U vt.1 (ah x a).tags.length vt.2]∧bF ((wc.alloc (.cells #[I J (au x a).id,I J (au x a).inn,V (au x a).url,V (au x a).title] 64)).alloc (.cells #[I J (ah x a).id,I J (ah x a).feed,I J (ah x a).date,V (ah x a).guid,V (ah x a).title,V (ah x a).link,.bool (ah x a).read,.bool (ah x a).star,U vt.1 (ah x a).tags.length vt.2] 82)).drew vt (ah x a).tags):=by
  have hf2:aa ag wc ((wc.alloc (.cells #[I J (au x a).id,I J (au x a).inn,V (au x a).url,V (au x a).title] 64)).alloc (.cells #[I J (ah x a).id,I J (ah x a).feed,I J (ah x a).date,V (ah x a).guid,V (ah x a).title,V (ah x a).link,.bool (ah x a).read,.bool (ah x a).star,U vt.1 (ah x a).tags.length vt.2] 82)).drew:=((hf0.alloc _).alloc _).drew;refine⟨HS.out.nix hf2,HF.out.trans hf2,HB.out.frm hf2 id,((aj.new wc _ _).alloc _).drew,?_,HT.out _ hf2⟩;rw[←e1 (.cells #[I J (au x a).id,I J (au x a).inn,V (au x a).url,V (au x a).title] 64)];exact(aj.new _ _ _).drew
 have HI:Hid (aH ((wc.alloc (.cells #[I J (ah x a).id,I J (ah x a).feed,I J (ah x a).date,V (ah x a).guid,V (ah x a).title,V (ah x a).link,.bool (ah x a).read,.bool (ah x a).star,U vt.1 (ah x a).tags.length vt.2] 82)).alloc (.cells #[I J (au x a).id,I J (au x a).inn,V (au x a).url,V (au x a).title] 64)).drew g M x∧aa ag w ((wc.alloc (.cells #[I J (ah x a).id,I J (ah x a).feed,I J (ah x a).date,V (ah x a).guid,V (ah x a).title,V (ah x a).link,.bool (ah x a).read,.bool (ah x a).star,U vt.1 (ah x a).tags.length vt.2] 82)).alloc (.cells #[I J (au x a).id,I J (au x a).inn,V (au x a).url,V (au x a).title] 64)).drew∧aj ((wc.alloc (.cells #[I J (ah x a).id,I J (ah x a).feed,I J (ah x a).date,V (ah x a).guid,V (ah x a).title,V (ah x a).link,.bool (ah x a).read,.bool (ah x a).star,U vt.1 (ah x a).tags.length vt.2] 82)).alloc (.cells #[I J (au x a).id,I J (au x a).inn,V (au x a).url,V (au x a).title] 64)).drew be 42 #[I J k,I J a,I J b,I J n,V s,V t,V u]∧aj ((wc.alloc (.cells #[I J (ah x a).id,I J (ah x a).feed,I J (ah x a).date,V (ah x a).guid,V (ah x a).title,V (ah x a).link,.bool (ah x a).read,.bool (ah x a).star,U vt.1 (ah x a).tags.length vt.2] 82)).alloc (.cells #[I J (au x a).id,I J (au x a).inn,V (au x a).url,V (au x a).title] 64)).drew wc.heap.size 82 #[I J (ah x a).id,I J (ah x a).feed,I J (ah x a).date,V (ah x a).guid,V (ah x a).title,V (ah x a).link,.bool (ah x a).read,.bool (ah x a).star,U vt.1 (ah x a).tags.length vt.2]∧aj ((wc.alloc (.cells #[I J (ah x a).id,I J (ah x a).feed,I J (ah x a).date,V (ah x a).guid,V (ah x a).title,V (ah x a).link,.bool (ah x a).read,.bool (ah x a).star,U vt.1 (ah x a).tags.length vt.2] 82)).alloc (.cells #[I J (au x a).id,I J (au x a).inn,V (au x a).url,V (au x a).title] 64)).drew (wc.heap.size+1) 64 #[I J (au x a).id,I J (au x a).inn,V (au x a).url,V (au x a).title]∧bF ((wc.alloc (.cells #[I J (ah x a).id,I J (ah x a).feed,I J (ah x a).date,V (ah x a).guid,V (ah x a).title,V (ah x a).link,.bool (ah x a).read,.bool (ah x a).star,U vt.1 (ah x a).tags.length vt.2] 82)).alloc (.cells #[I J (au x a).id,I J (au x a).inn,V (au x a).url,V (au x a).title] 64)).drew vt (ah x a).tags):=by
  have hf2:aa ag wc ((wc.alloc (.cells #[I J (ah x a).id,I J (ah x a).feed,I J (ah x a).date,V (ah x a).guid,V (ah x a).title,V (ah x a).link,.bool (ah x a).read,.bool (ah x a).star,U vt.1 (ah x a).tags.length vt.2] 82)).alloc (.cells #[I J (au x a).id,I J (au x a).inn,V (au x a).url,V (au x a).title] 64)).drew:=((hf0.alloc _).alloc _).drew;refine⟨HS.out.nix hf2,HF.out.trans hf2,HB.out.frm hf2 id,((aj.new wc _ _).alloc _).drew,?_,HT.out _ hf2⟩;rw[←e1 (.cells #[I J (ah x a).id,I J (ah x a).feed,I J (ah x a).date,V (ah x a).guid,V (ah x a).title,V (ah x a).link,.bool (ah x a).read,.bool (ah x a).star,U vt.1 (ah x a).tags.length vt.2] 82)];exact(aj.new _ _ _).drew
 clear hS hF hB Nx hlt e1
 go_region_held3 (λW=>aa ag wc W∧W.cell? ⟨g,2,none⟩=some (.map (some M.fe))∧W.cell? ⟨g,3,none⟩=some (.map (some M.it))∧W.cell? ⟨be,1,none⟩=some (I J a)∧(Instr.lookup 107 (.map (some M.fe)) (I J a) false).run pQ W=.ok (.agg #[I J (au x a).id,I J (au x a).inn,V (au x a).url,V (au x a).title]) W∧(Instr.lookup 108 (.map (some M.it)) (I J a) false).run pQ W=.ok (.agg #[I J (ah x a).id,I J (ah x a).feed,I J (ah x a).date,V (ah x a).guid,V (ah x a).title,V (ah x a).link,.bool (ah x a).read,.bool (ah x a).star,U vt.1 (ah x a).tags.length vt.2]) W) ((refine pw.out _ ?_;repeat' (first|exact hf0|apply aa.drew|apply aa.alloc|refine aa.setCell ?_ (.inr (by simp)) _))) (first|fail)
 all_goals
  go_wp2
  first
   | exact Hq HA.out.1 HA.out.2.1 k a b n s t u HA.out.2.2.1 HA.out.2.2.2.1 HA.out.2.2.2.2.1 HA.out.2.2.2.2.2 yb.out sH hsz (Nat.le_succ_of_le hsz) aL ha hb
   | exact Hq HI.out.1 HI.out.2.1 k a b n s t u HI.out.2.2.1 HI.out.2.2.2.2.1 HI.out.2.2.2.1 HI.out.2.2.2.2.2 yb.out sH (Nat.le_succ_of_le hsz) hsz aL ha hb
theorem Hr(h:aH w g M x)(k a b n:Int)(s t u:ByteArray)(ha:bn a)(hb:bn b)(hf:aG x ⟨k,a,b,n,s,t,u⟩=false):
  Calls pQ 42 #[O (some ⟨g,0,none⟩),bQ ⟨k,a,b,n,s,t,u⟩] w λr w'=>r=.returned (.bool false)∧aH w' g M x∧aa (SF g M) w w':=by
 obtain⟨w0,hw0⟩:∃w0,w0=w.alloc (.cells #[I J k,I J a,I J b,I J n,V s,V t,V u] 42):=⟨_,rfl⟩;have ar:aa ag w w0:=by rw[hw0];exact(fR w).alloc _
 have Mz:aj w0 w.heap.size 42 #[I J k,I J a,I J b,I J n,V s,V t,V u]:=by rw[hw0];exact aj.new w _ _
 obtain⟨d0,d1,d2,d3,d4,d5,d6⟩:=az Mz;have lS:=h_ Mz;have KF:Hid (Calls pQ 51 #[O (some ⟨g,0,none⟩),.agg #[I J k,I J a,I J b,I J n,V s,V t,V u]] w0 λr w'=>r=.returned (.bool (aG x ⟨k,a,b,n,s,t,u⟩))∧aa ag w0 w'):=wE (h.nix ar) ⟨k,a,b,n,s,t,u⟩ ha hb;rw[hf] at KF;have HS:Hid (aH w0 g M x):=h.nix ar;have yb:=h_ h.lt;have HC:=h_ ar;have HW:=h_ hw0;have N7:=h_ hf;clear h ar Mz hf;unfold bQ;go_enter Tryz.func42,Tryz.ntmps42;show Code.wp pQ (ai 0 (ae Tryz.f42)) _ _ _
 have e0:ai 0 (ae Tryz.f42)=.seq (aD (ai 0 (ae Tryz.f42))) (ai 1 (ae Tryz.f42)):=by kernel_rfl
 rw[e0];clear e0;refine wp_seq_k λK hK=>?_
 conv in aD _=>whnf
 clear hw0;go_wp2;rw[←HW.out];refine aC (k':=2) λK hK=>?_
 conv in aD _=>whnf
 go_wp2_with (go_at_call 51;refine KF.out.mono ?_;rintro r w1 ⟨rfl,gI⟩);go_ret;exact⟨rfl,HS.out.nix gI,(aa.nix (HC.out.trans gI))⟩
theorem Fl(h:aH w g M x)(k a b n:Int)(s t u:ByteArray)(ha:bn a)(hb:bn b)(hf:aG x ⟨k,a,b,n,s,t,u⟩=true):
  Calls pQ 42 #[O (some ⟨g,0,none⟩),bQ ⟨k,a,b,n,s,t,u⟩] w λr w'=>r=.returned (.bool true)∧aH w' g M (iu x ⟨k,a,b,n,s,t,u⟩)∧aa (SF g M) w w':=by
 obtain⟨w0,hw0⟩:∃w0,w0=w.alloc (.cells #[I J k,I J a,I J b,I J n,V s,V t,V u] 42):=⟨_,rfl⟩;have ar:aa ag w w0:=by rw[hw0];exact(fR w).alloc _
 have Mz:aj w0 w.heap.size 42 #[I J k,I J a,I J b,I J n,V s,V t,V u]:=by rw[hw0];exact aj.new w _ _
 obtain⟨d0,d1,d2,d3,d4,d5,d6⟩:=az Mz;have lS:=h_ Mz;have KF:Hid (Calls pQ 51 #[O (some ⟨g,0,none⟩),.agg #[I J k,I J a,I J b,I J n,V s,V t,V u]] w0 λr w'=>r=.returned (.bool (aG x ⟨k,a,b,n,s,t,u⟩))∧aa ag w0 w'):=wE (h.nix ar) ⟨k,a,b,n,s,t,u⟩ ha hb;rw[hf] at KF;have HS:Hid (aH w0 g M x):=h.nix ar;have yb:=h_ h.lt;have HC:=h_ ar;have HW:=h_ hw0;have N7:=h_ hf;clear h ar Mz hf;unfold bQ;go_enter Tryz.func42,Tryz.ntmps42;show Code.wp pQ (ai 0 (ae Tryz.f42)) _ _ _
 have e0:ai 0 (ae Tryz.f42)=.seq (aD (ai 0 (ae Tryz.f42))) (ai 1 (ae Tryz.f42)):=by kernel_rfl
 rw[e0];clear e0;refine wp_seq_k λK hK=>?_
 conv in aD _=>whnf
 clear hw0;go_wp2;rw[←HW.out];refine aC (k':=2) λK hK=>?_
 conv in aD _=>whnf
 go_wp2_with (go_at_call 51;refine KF.out.mono ?_;rintro r w1 ⟨rfl,gI⟩);exact JX (HS.out.nix gI) (HC.out.trans gI) k a b n s t u (lS.out.frm gI id) yb.out (Nat.le_refl _) N7.out ha hb
theorem Fm(h:aH w g M x)(e:Ev)(ha:bn e.a)(hb:bn e.b):
  Calls pQ 42 #[O (some ⟨g,0,none⟩),bQ e] w λr w'=>r=.returned (.bool (dY x e).2)∧aH w' g M (dY x e).1∧aa (SF g M) w w':=by
 cases hf:aG x e with
 | false=>
   rw[show dY x e=(x,false) by simp[dY,hf]]
   exact Hr h e.kind e.a e.b e.n e.s e.t e.u ha hb hf
 | true=>
   rw[show dY x e=(iu x e,true) by simp[dY,hf]];exact Fl h e.kind e.a e.b e.n e.s e.t e.u ha hb hf
end Go.Proofs.YtaecjmiobllhmaaGreat
