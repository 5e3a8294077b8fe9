/- Words. -/
import Derived.Test.YtaecjmiobllhmaaGreatGq22
set_option linter.unusedVariables false
set_option linter.unusedSimpArgs false
set_option maxRecDepth 100000
set_option maxHeartbeats 16000000
namespace Go.Proofs.YtaecjmiobllhmaaGreat
open Go.Value renaming int→I,string→V,slice→U,pointer→O
open Go.IntKind renaming i64→J
open Tryz renaming prog→pQ
open Go.RowKit Go.Lib
variable {w wc:World}{g be bf bt:Nat}{M:Ms}{x:St}{v:Sl}{uu:Nat→Value}{u8 u9 u10 u11:Value}
theorem Lf(hS:aw wc g M x)(hF:aa ac w wc)(a b n:Int)(s t u:ByteArray)(hB:ai wc be 42 #[I J 8,I J a,I J b,I J n,V s,V t,V u])(mC:ai wc bf 64 #[I J (ar x a).id,I J (ar x a).inn,V (ar x a).url,V (ar x a).title])(l8:ai wc bt 82 (nj v (ag x a)))(hv:cI wc v (ag x a).tags)(hlt:∀k,SF g M k→k<w.heap.size)(mU:w.heap.size≤be)(tK:w.heap.size≤bf)(hst:w.heap.size≤bt)(aR:av x ⟨8,a,b,n,s,t,u⟩=true)(ha:bj a)(hb:bj b):
  Code.wp pQ (aj 3 (ae Tryz.f42)) (bodyPost pQ Tryz.f42 λr w'=>r=.returned (.bool true)∧aw w' g M (iB x ⟨8,a,b,n,s,t,u⟩)∧aa (SF g M) w w') (iP g be bf bt (.agg #[I J 8,I J a,I J b,I J n,V s,V t,V u]) uu) wc:=by
 unfold iP;obtain⟨d0,d1,d2,d3,d4,d5,d6⟩:=ap hB;have he:=dx aR;obtain⟨f,xe,nz⟩:=(yX (x:=x) (.inl rfl) he).1 aR;simp only at nz;have hat:=jl hS.ok.iR xe nz;have je:=lf hS.ok aR;rw[Pt rfl] at je ⊢;simp only at je ⊢;have hn':(n==1)=decide (n=1):=by rw[Bool.eq_iff_iff];simp
 generalize decide (n=1)=bb at *;have zn:ag x a=f:=by unfold ag;rw[hat];rfl
 rw[zn] at l8 hv;unfold nj at l8;have Bt:¬SF g M bt:=λh=>by have:=hlt bt h;omega
 have Bx:¬qb wc bt:=λh=>l8.ne_str (by decide) h rfl
 have ne:∀k,SF g M k→¬k=bt:=λk hk e=>Bt (e ▸ hk)
 have rI:be≠bt:=hB.ne_ l8 (by decide);obtain⟨⟨g1,g2,g3,g4,g5,g6,g7,g8⟩,-⟩:=hS.apart.ne;obtain⟨w1,hw1⟩:∃w1,w1=wc.setCell ⟨bt,6,none⟩ (.bool bb):=⟨_,rfl⟩;have f1:aa (·=bt) wc w1:=by rw[hw1];exact(aa.refl (·=bt) wc).setCell (.inl rfl) _
 have b1:ai w1 bt 82 #[I J f.id,I J f.feed,I J f.date,V f.guid,V f.title,V f.link,.bool bb,.bool f.star,U v.1 f.tags.length v.2]:=by
  rw[hw1];have:=l8.set_ 6 (.bool bb)
  simpa using this
 have x6:=l8.cell 6;have fz:=l8.frozen 6;simp at x6;have y0:=b1.cell 0;have y1:=b1.cell 1;have y2:=b1.cell 2;have y3:=b1.cell 3;have y4:=b1.cell 4;have y5:=b1.cell 5;have y6:=b1.cell 6;have y7:=b1.cell 7;have y8:=b1.cell 8;simp at y0 y1 y2 y3 y4 y5 y6 y7 y8;obtain⟨U3,U4,-⟩:=ap (hB.frm f1 rI);have q3:=(hS.blk.frm f1 (ne _ (by simp[SF]))).cell 3;simp at q3;obtain⟨sl,hi,sf⟩:=hS.maps.it;obtain⟨w2,r2,m2,f2⟩:=((hi.frm f1 (ne _ (by simp[SF]))).frm (fR w1).drew id).update_old d7 Tryz.underlying108 ((eD hat).map λt:aJ=>(kI t.id,jm (sl t.id) t)) (jm v {f with read:=bb});rw[show kI f.id=kI a by rw[nz]] at r2 m2;have Gg:(Instr.mapUpdate 108 (.map (some M.it)) (I J a) (.agg #[I J f.id,I J f.feed,I J f.date,V f.guid,V f.title,V f.link,.bool bb,.bool f.star,U v.1 f.tags.length v.2])).run pQ w1.drew=.ok () w2:=r2;have qB:aa (·=M.it) w1 w2:=(aa.refl (·=M.it) w1).drew.trans f2;have f12:aa (λk=>k=M.it∨k=bt) wc w2:=(f1.mono λk hk=>.inr hk).trans (qB.mono λk hk=>.inl hk)
 have hv2:cI w2 v f.tags:=hv.frm f12 λk hk e=>by
  rcases e with e|e
  ·exact hS.str k hk (by simp[SF,e])
  ·exact Bx (e ▸ hk)
 have HM:=h_ (zm (b:=bt) hS sf hat (λf=>{f with read:=bb}) rfl rfl rfl hv2 m2 f12 Bt Bx je);have HF:=h_ hF;have HW:=h_ hw1;clear hS hF hB mC l8 hv hlt aR je hat xe r2 m2 f2 qB f12 b1 f1 hw1 nz Bx hi sf hv2 zn;simp only[aj,ae,Tryz.f42];go_wp2;rw[←HW.out]
 go_still_tail 7,(by kernel_rfl)
 change wpList _ _ _ _ _ w1.drew;go_wp2_with (at_mapUpdate;refine aY Gg rfl _ _ _ rfl rfl rfl rfl ?_);go_ret;exact⟨rfl,HM.out.1,(aa.nix (F:=SF g M) HF.out).next HM.out.2 λk hk=>hk.imp id λe=>by omega⟩
theorem Lg(hS:aw wc g M x)(hF:aa ac w wc)(a b n:Int)(s t u:ByteArray)(hB:ai wc be 42 #[I J 9,I J a,I J b,I J n,V s,V t,V u])(mC:ai wc bf 64 #[I J (ar x a).id,I J (ar x a).inn,V (ar x a).url,V (ar x a).title])(l8:ai wc bt 82 (nj v (ag x a)))(hv:cI wc v (ag x a).tags)(hlt:∀k,SF g M k→k<w.heap.size)(mU:w.heap.size≤be)(tK:w.heap.size≤bf)(hst:w.heap.size≤bt)(aR:av x ⟨9,a,b,n,s,t,u⟩=true)(ha:bj a)(hb:bj b):
  Code.wp pQ (aj 3 (ae Tryz.f42)) (bodyPost pQ Tryz.f42 λr w'=>r=.returned (.bool true)∧aw w' g M (iB x ⟨9,a,b,n,s,t,u⟩)∧aa (SF g M) w w') (iP g be bf bt (.agg #[I J 9,I J a,I J b,I J n,V s,V t,V u]) uu) wc:=by
 unfold iP;obtain⟨d0,d1,d2,d3,d4,d5,d6⟩:=ap hB;have he:=dx aR;obtain⟨f,xe,nz⟩:=(yX (x:=x) (.inr rfl) he).1 aR;simp only at nz;have hat:=jl hS.ok.iR xe nz;have je:=lf hS.ok aR;rw[Ri rfl] at je ⊢;simp only at je ⊢;have hn':(n==1)=decide (n=1):=by rw[Bool.eq_iff_iff];simp
 generalize decide (n=1)=bb at *;have zn:ag x a=f:=by unfold ag;rw[hat];rfl
 rw[zn] at l8 hv;unfold nj at l8;have Bt:¬SF g M bt:=λh=>by have:=hlt bt h;omega
 have Bx:¬qb wc bt:=λh=>l8.ne_str (by decide) h rfl
 have ne:∀k,SF g M k→¬k=bt:=λk hk e=>Bt (e ▸ hk)
 have rI:be≠bt:=hB.ne_ l8 (by decide);obtain⟨⟨g1,g2,g3,g4,g5,g6,g7,g8⟩,-⟩:=hS.apart.ne;obtain⟨w1,hw1⟩:∃w1,w1=wc.setCell ⟨bt,7,none⟩ (.bool bb):=⟨_,rfl⟩;have f1:aa (·=bt) wc w1:=by rw[hw1];exact(aa.refl (·=bt) wc).setCell (.inl rfl) _
 have b1:ai w1 bt 82 #[I J f.id,I J f.feed,I J f.date,V f.guid,V f.title,V f.link,.bool f.read,.bool bb,U v.1 f.tags.length v.2]:=by
  rw[hw1];have:=l8.set_ 7 (.bool bb)
  simpa using this
 have x6:=l8.cell 7;have fz:=l8.frozen 7;simp at x6;have y0:=b1.cell 0;have y1:=b1.cell 1;have y2:=b1.cell 2;have y3:=b1.cell 3;have y4:=b1.cell 4;have y5:=b1.cell 5;have y6:=b1.cell 6;have y7:=b1.cell 7;have y8:=b1.cell 8;simp at y0 y1 y2 y3 y4 y5 y6 y7 y8;obtain⟨U3,U4,-⟩:=ap (hB.frm f1 rI);have q3:=(hS.blk.frm f1 (ne _ (by simp[SF]))).cell 3;simp at q3;obtain⟨sl,hi,sf⟩:=hS.maps.it;obtain⟨w2,r2,m2,f2⟩:=((hi.frm f1 (ne _ (by simp[SF]))).frm (fR w1).drew id).update_old d7 Tryz.underlying108 ((eD hat).map λt:aJ=>(kI t.id,jm (sl t.id) t)) (jm v {f with star:=bb});rw[show kI f.id=kI a by rw[nz]] at r2 m2;have Gg:(Instr.mapUpdate 108 (.map (some M.it)) (I J a) (.agg #[I J f.id,I J f.feed,I J f.date,V f.guid,V f.title,V f.link,.bool f.read,.bool bb,U v.1 f.tags.length v.2])).run pQ w1.drew=.ok () w2:=r2;have qB:aa (·=M.it) w1 w2:=(aa.refl (·=M.it) w1).drew.trans f2;have f12:aa (λk=>k=M.it∨k=bt) wc w2:=(f1.mono λk hk=>.inr hk).trans (qB.mono λk hk=>.inl hk)
 have hv2:cI w2 v f.tags:=hv.frm f12 λk hk e=>by
  rcases e with e|e
  ·exact hS.str k hk (by simp[SF,e])
  ·exact Bx (e ▸ hk)
 have HM:=h_ (zm (b:=bt) hS sf hat (λf=>{f with star:=bb}) rfl rfl rfl hv2 m2 f12 Bt Bx je);have HF:=h_ hF;have HW:=h_ hw1;clear hS hF hB mC l8 hv hlt aR je hat xe r2 m2 f2 qB f12 b1 f1 hw1 nz Bx hi sf hv2 zn;simp only[aj,ae,Tryz.f42];go_wp2;rw[←HW.out]
 go_still_tail 7,(by kernel_rfl)
 change wpList _ _ _ _ _ w1.drew;go_wp2_with (at_mapUpdate;refine aY Gg rfl _ _ _ rfl rfl rfl rfl ?_);go_ret;exact⟨rfl,HM.out.1,(aa.nix (F:=SF g M) HF.out).next HM.out.2 λk hk=>hk.imp id λe=>by omega⟩
theorem IJ(hS:aw wc g M x)(hF:aa ac w wc)(a b n:Int)(s t u:ByteArray)(hB:ai wc be 42 #[I J 10,I J a,I J b,I J n,V s,V t,V u])(mC:ai wc bf 64 #[I J (ar x a).id,I J (ar x a).inn,V (ar x a).url,V (ar x a).title])(l8:ai wc bt 82 (nj v (ag x a)))(hv:cI wc v (ag x a).tags)(hlt:∀k,SF g M k→k<w.heap.size)(mU:w.heap.size≤be)(tK:w.heap.size≤bf)(hst:w.heap.size≤bt)(aR:av x ⟨10,a,b,n,s,t,u⟩=true)(ha:bj a)(hb:bj b):
  Code.wp pQ (aj 3 (ae Tryz.f42)) (bodyPost pQ Tryz.f42 λr w'=>r=.returned (.bool true)∧aw w' g M (iB x ⟨10,a,b,n,s,t,u⟩)∧aa (SF g M) w w') (iP g be bf bt (.agg #[I J 10,I J a,I J b,I J n,V s,V t,V u]) uu) wc:=by
 unfold iP;obtain⟨d0,d1,d2,d3,d4,d5,d6⟩:=ap hB;have he:=dx aR;obtain⟨f,hat,-⟩:=(Ij (x:=x) rfl he).1 aR;simp only at hat;have nz:f.id=a:=(dG hat).2;have je:=lf hS.ok aR;rw[Ks rfl] at je ⊢;simp only at je ⊢;have Su:n=0∨n=1:=(EW rfl he).1;have zn:ag x a=f:=by unfold ag;rw[hat];rfl
 rw[zn] at l8 hv;unfold nj at l8;have Bt:¬SF g M bt:=λh=>by have:=hlt bt h;omega
 have Bx:¬qb wc bt:=λh=>l8.ne_str (by decide) h rfl
 have ne:∀k,SF g M k→¬k=bt:=λk hk e=>Bt (e ▸ hk)
 have rI:be≠bt:=hB.ne_ l8 (by decide);obtain⟨⟨g1,g2,g3,g4,g5,g6,g7,g8⟩,-⟩:=hS.apart.ne;have KT:=h_ (Dp hS 10 a b n s t u ha Su);rw[zn] at KT;unfold dt Px at KT;obtain⟨L,hL⟩:∃L,L=ei f.tags s (decide (n=1)):=⟨_,rfl⟩;rw[←hL] at KT;have x8:=l8.cell 8;simp at x8;have HS:=h_ hS;have HF:=h_ hF;have HB:=h_ hB;have Lh:=h_ l8;have Sr:=h_ je;have E6:=h_ hat;have ud:=h_ nz;have zS:=h_ hL;have nbe:∀k,SF g M k→¬be=k:=λk hk e=>by have:=hlt k hk;omega
 clear hS hF hB mC l8 hv aR je hat zn nz hL;simp only[aj,ae,Tryz.f42];go_wp2_with (go_at_call 89;refine KT.out.mono ?_;rintro r w1 ⟨v',rfl,U7,f1⟩;have b1:=Lh.out.frm f1 id;have U8:=b1.cell 8;have fz:=b1.frozen 8;simp at U8;have gH:=h_ b1;clear b1);obtain⟨w3,hw3⟩:∃w3,w3=w1.setCell ⟨bt,8,none⟩ (U v'.1 L.length v'.2):=⟨_,rfl⟩;rw[←hw3];have b1:=gH.out;have f3:aa (·=bt) w1 w3:=by rw[hw3];exact(aa.refl (·=bt) w1).setCell (.inl rfl) _
 have b3:ai w3 bt 82 #[I J f.id,I J f.feed,I J f.date,V f.guid,V f.title,V f.link,.bool f.read,.bool f.star,U v'.1 L.length v'.2]:=by
  rw[hw3];have:=b1.set_ 8 (U v'.1 L.length v'.2)
  simpa using this
 have h1:=HS.out.nix f1;have y0:=b3.cell 0;have y1:=b3.cell 1;have y2:=b3.cell 2;have y3:=b3.cell 3;have y4:=b3.cell 4;have y5:=b3.cell 5;have y6:=b3.cell 6;have y7:=b3.cell 7;have y8:=b3.cell 8;simp at y0 y1 y2 y3 y4 y5 y6 y7 y8;obtain⟨WP,WQ,-⟩:=ap ((HB.out.frm f1 id).frm f3 rI);have q3:=(h1.blk.frm f3 (ne _ (by simp[SF]))).cell 3;simp at q3;obtain⟨sl,hi,sf⟩:=h1.maps.it;obtain⟨w4,r4,m4,f4⟩:=((hi.frm f3 (ne _ (by simp[SF]))).frm (fR w3).drew id).update_old d7 Tryz.underlying108 ((eD E6.out).map λt:aJ=>(kI t.id,jm (sl t.id) t)) (jm v' {f with tags:=L});rw[show kI f.id=kI a by rw[ud.out]] at r4 m4;have Ss:(Instr.mapUpdate 108 (.map (some M.it)) (I J a) (.agg #[I J f.id,I J f.feed,I J f.date,V f.guid,V f.title,V f.link,.bool f.read,.bool f.star,U v'.1 L.length v'.2])).run pQ w3.drew=.ok () w4:=r4;have OW:aa (·=M.it) w3 w4:=(aa.refl (·=M.it) w3).drew.trans f4;have f14:aa (λk=>k=M.it∨k=bt) w1 w4:=(f3.mono λk hk=>.inr hk).trans (OW.mono λk hk=>.inl hk);have IK:¬qb w1 bt:=λh=>b1.ne_str (by decide) h rfl
 have hv4:cI w4 v' L:=U7.frm f14 λk hk e=>by
  rcases e with e|e
  ·exact h1.str k hk (by simp[SF,e])
  ·exact IK (e ▸ hk)
 have hL:=zS.out;rw[hL] at m4 hv4;have HM:=h_ (zm (b:=bt) h1 sf E6.out (λf=>{f with tags:=ei f.tags s (decide (n=1))}) rfl rfl rfl hv4 m4 f14 Bt IK Sr.out);have Bq:=h_ (HF.out.trans f1);clear b1 f3 b3 h1 r4 m4 f4 OW f14 U7 hv4 hi sf hw3 x8 U8 d0 d1 d2 d3 d4 d5 d6 hL IK f1
 go_still_tail 7,(by kernel_rfl)
 change wpList _ _ _ _ _ w3.drew;go_wp2_with (at_mapUpdate;refine aY Ss rfl _ _ _ rfl rfl rfl rfl ?_);go_ret;exact⟨rfl,HM.out.1,(aa.nix (F:=SF g M) Bq.out).next HM.out.2 λk hk=>hk.imp id λe=>by omega⟩
theorem IL(hS:aw wc g M x)(hF:aa ac w wc)(k a b n:Int)(s t u:ByteArray)(hB:ai wc be 42 #[I J k,I J a,I J b,I J n,V s,V t,V u])(mC:ai wc bf 64 #[I J (ar x a).id,I J (ar x a).inn,V (ar x a).url,V (ar x a).title])(l8:ai wc bt 82 (nj v (ag x a)))(hv:cI wc v (ag x a).tags)(hlt:∀k,SF g M k→k<w.heap.size)(mU:w.heap.size≤be)(tK:w.heap.size≤bf)(hst:w.heap.size≤bt)(aR:av x ⟨k,a,b,n,s,t,u⟩=true)(ha:bj a)(hb:bj b){u8 u9 u10 u11 u12 u13 u14 u15 u16 eG eH eI eJ eK eM u23 u24 eO:Value}:
  Code.wp pQ (aj 3 (ae Tryz.f42)) (bodyPost pQ Tryz.f42 λr w'=>r=.returned (.bool true)∧aw w' g M (iB x ⟨k,a,b,n,s,t,u⟩)∧aa (SF g M) w w') ⟨#[O (some ⟨g,0,none⟩),.agg #[I J k,I J a,I J b,I J n,V s,V t,V u],undef,O (some ⟨be,0,none⟩),.bool false,O (some ⟨bf,0,none⟩),O (some ⟨bt,0,none⟩),undef,u8,u9,u10,u11,u12,u13,u14,u15,u16,eG,eH,eI,eJ,eK,eM,u23,u24,eO,undef,undef,undef,undef,undef,undef,undef,undef,undef,undef,undef,undef,undef,undef,undef,undef,undef,undef,undef,undef,undef,undef,undef,undef,undef,undef,undef,undef,undef,undef,undef,undef,undef,undef,undef,undef,undef,undef,undef,undef,undef,undef,undef,undef,undef,undef,undef,undef,undef,undef,undef,undef,undef,undef,undef,undef,undef,undef,undef,undef,undef,undef,undef,undef,undef,undef,undef,undef,undef,undef,undef,undef,undef,undef,undef,undef,undef,undef,undef,undef,undef,undef,undef,undef,undef,undef,undef,undef,undef,undef,undef,undef,undef,undef,undef,undef,undef,undef,undef,undef,undef,undef,undef,undef,undef,undef,undef,undef,undef,undef,undef,undef,undef,undef,undef,undef,undef,undef,undef,undef,undef,undef,undef,undef],[]⟩ wc:=by
 have hk:=vX (dx aR);simp only at hk;show Code.wp _ _ _ (iP g be bf bt (.agg #[I J k,I J a,I J b,I J n,V s,V t,V u]) λn=>([undef,undef,undef,undef,undef,undef,undef,undef,u8,u9,u10,u11,u12,u13,u14,u15,u16,eG,eH,eI,eJ,eK,eM,u23,u24,eO]:List Value).getD n undef) wc
 rcases hk with rfl|rfl|rfl|rfl|rfl|rfl|rfl|rfl|rfl|rfl|rfl|rfl|rfl
 ·exact K7 hS hF a b n s t u hB mC l8 hv hlt mU tK hst aR ha hb
 ·exact Lb hS hF a b n s t u hB mC l8 hv hlt mU tK hst aR ha hb
 ·exact K8 hS hF a b n s t u hB mC l8 hv hlt mU tK hst aR ha hb
 ·exact La hS hF a b n s t u hB mC l8 hv hlt mU tK hst aR ha hb
 ·exact Lc hS hF a b n s t u hB mC l8 hv hlt mU tK hst aR ha hb
 ·exact Ld hS hF a b n s t u hB mC l8 hv hlt mU tK hst aR ha hb
 ·exact K9 hS hF a b n s t u hB mC l8 hv hlt mU tK hst aR ha hb
 ·exact Lf hS hF a b n s t u hB mC l8 hv hlt mU tK hst aR ha hb
 ·exact Lg hS hF a b n s t u hB mC l8 hv hlt mU tK hst aR ha hb
 ·exact IJ hS hF a b n s t u hB mC l8 hv hlt mU tK hst aR ha hb
 ·exact IG hS hF a b n s t u hB mC l8 hv hlt mU tK hst aR ha hb
 ·exact II hS hF a b n s t u hB mC l8 hv hlt mU tK hst aR ha hb
 ·exact IH hS hF a b n s t u hB mC l8 hv hlt mU tK hst aR ha hb
theorem Li(hS:aw wc g M x)(hF:aa ac w wc)(k a b n:Int)(s t u:ByteArray)(hB:ai wc be 42 #[I J k,I J a,I J b,I J n,V s,V t,V u])(hlt:∀k,SF g M k→k<w.heap.size)(mU:w.heap.size≤be)(aR:av x ⟨k,a,b,n,s,t,u⟩=true)(ha:bj a)(hb:bj b):
  Code.wp pQ (aj 2 (ae Tryz.f42)) (bodyPost pQ Tryz.f42 λr w'=>r=.returned (.bool true)∧aw w' g M (iB x ⟨k,a,b,n,s,t,u⟩)∧aa (SF g M) w w') ⟨#[O (some ⟨g,0,none⟩),.agg #[I J k,I J a,I J b,I J n,V s,V t,V u],undef,O (some ⟨be,0,none⟩),.bool false,undef,undef,undef,u8,u9,u10,u11,undef,undef,undef,undef,undef,undef,undef,undef,undef,undef,undef,undef,undef,undef,undef,undef,undef,undef,undef,undef,undef,undef,undef,undef,undef,undef,undef,undef,undef,undef,undef,undef,undef,undef,undef,undef,undef,undef,undef,undef,undef,undef,undef,undef,undef,undef,undef,undef,undef,undef,undef,undef,undef,undef,undef,undef,undef,undef,undef,undef,undef,undef,undef,undef,undef,undef,undef,undef,undef,undef,undef,undef,undef,undef,undef,undef,undef,undef,undef,undef,undef,undef,undef,undef,undef,undef,undef,undef,undef,undef,undef,undef,undef,undef,undef,undef,undef,undef,undef,undef,undef,undef,undef,undef,undef,undef,undef,undef,undef,undef,undef,undef,undef,undef,undef,undef,undef,undef,undef,undef,undef,undef,undef,undef,undef,undef,undef,undef,undef,undef,undef,undef,undef,undef,undef,undef,undef,undef],[]⟩ wc:=by
 have e:aj 2 (ae Tryz.f42)=.seq (bz (aj 2 (ae Tryz.f42))) (aj 3 (ae Tryz.f42)):=by kernel_rfl
 rw[e];clear e;refine wp_seq_k λK hK=>?_
 obtain⟨vt,OV⟩:=hS.itmSl ha;have dH:Hid (∀W,aa ac wc W→(λW=>aa ac wc W∧W.cell? ⟨g,2,none⟩=some (.map (some M.fe))∧W.cell? ⟨g,3,none⟩=some (.map (some M.it))∧W.cell? ⟨be,1,none⟩=some (I J a)∧(Instr.lookup 107 (.map (some M.fe)) (I J a) false).run pQ W=.ok (.agg #[I J (ar x a).id,I J (ar x a).inn,V (ar x a).url,V (ar x a).title]) W∧(Instr.lookup 108 (.map (some M.it)) (I J a) false).run pQ W=.ok (.agg #[I J (ag x a).id,I J (ag x a).feed,I J (ag x a).date,V (ag x a).guid,V (ag x a).title,V (ag x a).link,.bool (ag x a).read,.bool (ag x a).star,U vt.1 (ag x a).tags.length vt.2]) W) W):=λW hf=>⟨hf,(hS.nix hf).cells.2.2.1,(hS.nix hf).cells.2.2.2.1,(ap (hB.frm hf id)).2.1,(hS.nix hf).feeLook ha false,(OV _ hf).2 false⟩
 have HT:Hid (∀W,aa ac wc W→cI W vt (ag x a).tags):=λW hf=>(OV _ hf).1
 have hf0:=fR wc;have hsz:=hF.size;simp only[bz,aj,ae,Tryz.f42];have HS:=h_ hS;have HF:=h_ hF;have HB:=h_ hB;have zS:=h_ hlt;have e1:∀o,(wc.alloc o).heap.size=wc.heap.size+1:=λo=>by simp
 have HA:Hid (aw ((wc.alloc (.cells #[I J (ar x a).id,I J (ar x a).inn,V (ar x a).url,V (ar x a).title] 64)).alloc (.cells #[I J (ag x a).id,I J (ag x a).feed,I J (ag x a).date,V (ag x a).guid,V (ag x a).title,V (ag x a).link,.bool (ag x a).read,.bool (ag x a).star,U vt.1 (ag x a).tags.length vt.2] 82)).drew g M x∧aa ac w ((wc.alloc (.cells #[I J (ar x a).id,I J (ar x a).inn,V (ar x a).url,V (ar x a).title] 64)).alloc (.cells #[I J (ag x a).id,I J (ag x a).feed,I J (ag x a).date,V (ag x a).guid,V (ag x a).title,V (ag x a).link,.bool (ag x a).read,.bool (ag x a).star,U vt.1 (ag x a).tags.length vt.2] 82)).drew∧ai ((wc.alloc (.cells #[I J (ar x a).id,I J (ar x a).inn,V (ar x a).url,V (ar x a).title] 64)).alloc (.cells #[I J (ag x a).id,I J (ag x a).feed,I J (ag x a).date,V (ag x a).guid,V (ag x a).title,V (ag x a).link,.bool (ag x a).read,.bool (ag x a).star,U vt.1 (ag x a).tags.length vt.2] 82)).drew be 42 #[I J k,I J a,I J b,I J n,V s,V t,V u]∧ai ((wc.alloc (.cells #[I J (ar x a).id,I J (ar x a).inn,V (ar x a).url,V (ar x a).title] 64)).alloc (.cells #[I J (ag x a).id,I J (ag x a).feed,I J (ag x a).date,V (ag x a).guid,V (ag x a).title,V (ag x a).link,.bool (ag x a).read,.bool (ag x a).star,U vt.1 (ag x a).tags.length vt.2] 82)).drew wc.heap.size 64 #[I J (ar x a).id,I J (ar x a).inn,V (ar x a).url,V (ar x a).title]∧ai ((wc.alloc (.cells #[I J (ar x a).id,I J (ar x a).inn,V (ar x a).url,V (ar x a).title] 64)).alloc (.cells #[I J (ag x a).id,I J (ag x a).feed,I J (ag x a).date,V (ag x a).guid,V (ag x a).title,V (ag x a).link,.bool (ag x a).read,.bool (ag x a).star,U vt.1 (ag x a).tags.length vt.2] 82)).drew (wc.heap.size+1) 82 #[I J (ag x a).id,I J (ag x a).feed,I J (ag x a).date,V (ag x a).guid,V (ag x a).title,V (ag x a).link,.bool (ag x a).read,.bool (ag x a).star,U vt.1 (ag x a).tags.length vt.2]∧cI ((wc.alloc (.cells #[I J (ar x a).id,I J (ar x a).inn,V (ar x a).url,V (ar x a).title] 64)).alloc (.cells #[I J (ag x a).id,I J (ag x a).feed,I J (ag x a).date,V (ag x a).guid,V (ag x a).title,V (ag x a).link,.bool (ag x a).read,.bool (ag x a).star,U vt.1 (ag x a).tags.length vt.2] 82)).drew vt (ag x a).tags):=by
  have hf2:aa ac wc ((wc.alloc (.cells #[I J (ar x a).id,I J (ar x a).inn,V (ar x a).url,V (ar x a).title] 64)).alloc (.cells #[I J (ag x a).id,I J (ag x a).feed,I J (ag x a).date,V (ag x a).guid,V (ag x a).title,V (ag x a).link,.bool (ag x a).read,.bool (ag x a).star,U vt.1 (ag x a).tags.length vt.2] 82)).drew:=((hf0.alloc _).alloc _).drew;refine⟨HS.out.nix hf2,HF.out.trans hf2,HB.out.frm hf2 id,((ai.new wc _ _).alloc _).drew,?_,HT.out _ hf2⟩;rw[←e1 (.cells #[I J (ar x a).id,I J (ar x a).inn,V (ar x a).url,V (ar x a).title] 64)];exact(ai.new _ _ _).drew
 have HI:Hid (aw ((wc.alloc (.cells #[I J (ag x a).id,I J (ag x a).feed,I J (ag x a).date,V (ag x a).guid,V (ag x a).title,V (ag x a).link,.bool (ag x a).read,.bool (ag x a).star,U vt.1 (ag x a).tags.length vt.2] 82)).alloc (.cells #[I J (ar x a).id,I J (ar x a).inn,V (ar x a).url,V (ar x a).title] 64)).drew g M x∧aa ac w ((wc.alloc (.cells #[I J (ag x a).id,I J (ag x a).feed,I J (ag x a).date,V (ag x a).guid,V (ag x a).title,V (ag x a).link,.bool (ag x a).read,.bool (ag x a).star,U vt.1 (ag x a).tags.length vt.2] 82)).alloc (.cells #[I J (ar x a).id,I J (ar x a).inn,V (ar x a).url,V (ar x a).title] 64)).drew∧ai ((wc.alloc (.cells #[I J (ag x a).id,I J (ag x a).feed,I J (ag x a).date,V (ag x a).guid,V (ag x a).title,V (ag x a).link,.bool (ag x a).read,.bool (ag x a).star,U vt.1 (ag x a).tags.length vt.2] 82)).alloc (.cells #[I J (ar x a).id,I J (ar x a).inn,V (ar x a).url,V (ar x a).title] 64)).drew be 42 #[I J k,I J a,I J b,I J n,V s,V t,V u]∧ai ((wc.alloc (.cells #[I J (ag x a).id,I J (ag x a).feed,I J (ag x a).date,V (ag x a).guid,V (ag x a).title,V (ag x a).link,.bool (ag x a).read,.bool (ag x a).star,U vt.1 (ag x a).tags.length vt.2] 82)).alloc (.cells #[I J (ar x a).id,I J (ar x a).inn,V (ar x a).url,V (ar x a).title] 64)).drew wc.heap.size 82 #[I J (ag x a).id,I J (ag x a).feed,I J (ag x a).date,V (ag x a).guid,V (ag x a).title,V (ag x a).link,.bool (ag x a).read,.bool (ag x a).star,U vt.1 (ag x a).tags.length vt.2]∧ai ((wc.alloc (.cells #[I J (ag x a).id,I J (ag x a).feed,I J (ag x a).date,V (ag x a).guid,V (ag x a).title,V (ag x a).link,.bool (ag x a).read,.bool (ag x a).star,U vt.1 (ag x a).tags.length vt.2] 82)).alloc (.cells #[I J (ar x a).id,I J (ar x a).inn,V (ar x a).url,V (ar x a).title] 64)).drew (wc.heap.size+1) 64 #[I J (ar x a).id,I J (ar x a).inn,V (ar x a).url,V (ar x a).title]∧cI ((wc.alloc (.cells #[I J (ag x a).id,I J (ag x a).feed,I J (ag x a).date,V (ag x a).guid,V (ag x a).title,V (ag x a).link,.bool (ag x a).read,.bool (ag x a).star,U vt.1 (ag x a).tags.length vt.2] 82)).alloc (.cells #[I J (ar x a).id,I J (ar x a).inn,V (ar x a).url,V (ar x a).title] 64)).drew vt (ag x a).tags):=by
  have hf2:aa ac wc ((wc.alloc (.cells #[I J (ag x a).id,I J (ag x a).feed,I J (ag x a).date,V (ag x a).guid,V (ag x a).title,V (ag x a).link,.bool (ag x a).read,.bool (ag x a).star,U vt.1 (ag x a).tags.length vt.2] 82)).alloc (.cells #[I J (ar x a).id,I J (ar x a).inn,V (ar x a).url,V (ar x a).title] 64)).drew:=((hf0.alloc _).alloc _).drew;refine⟨HS.out.nix hf2,HF.out.trans hf2,HB.out.frm hf2 id,((ai.new wc _ _).alloc _).drew,?_,HT.out _ hf2⟩;rw[←e1 (.cells #[I J (ag x a).id,I J (ag x a).feed,I J (ag x a).date,V (ag x a).guid,V (ag x a).title,V (ag x a).link,.bool (ag x a).read,.bool (ag x a).star,U vt.1 (ag x a).tags.length vt.2] 82)];exact(ai.new _ _ _).drew
 clear hS hF hB OV hlt e1
 go_region_held3 (λW=>aa ac wc W∧W.cell? ⟨g,2,none⟩=some (.map (some M.fe))∧W.cell? ⟨g,3,none⟩=some (.map (some M.it))∧W.cell? ⟨be,1,none⟩=some (I J a)∧(Instr.lookup 107 (.map (some M.fe)) (I J a) false).run pQ W=.ok (.agg #[I J (ar x a).id,I J (ar x a).inn,V (ar x a).url,V (ar x a).title]) W∧(Instr.lookup 108 (.map (some M.it)) (I J a) false).run pQ W=.ok (.agg #[I J (ag x a).id,I J (ag x a).feed,I J (ag x a).date,V (ag x a).guid,V (ag x a).title,V (ag x a).link,.bool (ag x a).read,.bool (ag x a).star,U vt.1 (ag x a).tags.length vt.2]) W) ((refine dH.out _ ?_;repeat' (first|exact hf0|apply aa.drew|apply aa.alloc|refine aa.setCell ?_ (.inr (by simp)) _))) (first|fail)
 all_goals
  go_wp2
  first
   | exact IL HA.out.1 HA.out.2.1 k a b n s t u HA.out.2.2.1 HA.out.2.2.2.1 HA.out.2.2.2.2.1 HA.out.2.2.2.2.2 zS.out mU hsz (Nat.le_succ_of_le hsz) aR ha hb
   | exact IL HI.out.1 HI.out.2.1 k a b n s t u HI.out.2.2.1 HI.out.2.2.2.2.1 HI.out.2.2.2.1 HI.out.2.2.2.2.2 zS.out mU (Nat.le_succ_of_le hsz) hsz aR ha hb
theorem IM(h:aw w g M x)(k a b n:Int)(s t u:ByteArray)(ha:bj a)(hb:bj b)(hf:av x ⟨k,a,b,n,s,t,u⟩=false):
  Calls pQ 42 #[O (some ⟨g,0,none⟩),dt ⟨k,a,b,n,s,t,u⟩] w λr w'=>r=.returned (.bool false)∧aw w' g M x∧aa (SF g M) w w':=by
 obtain⟨w0,hw0⟩:∃w0,w0=w.alloc (.cells #[I J k,I J a,I J b,I J n,V s,V t,V u] 42):=⟨_,rfl⟩;have az:aa ac w w0:=by rw[hw0];exact(fR w).alloc _
 have rp:ai w0 w.heap.size 42 #[I J k,I J a,I J b,I J n,V s,V t,V u]:=by rw[hw0];exact ai.new w _ _
 obtain⟨d0,d1,d2,d3,d4,d5,d6⟩:=ap rp;have fp:=h_ rp;have KF:Hid (Calls pQ 51 #[O (some ⟨g,0,none⟩),.agg #[I J k,I J a,I J b,I J n,V s,V t,V u]] w0 λr w'=>r=.returned (.bool (av x ⟨k,a,b,n,s,t,u⟩))∧aa ac w0 w'):=ww (h.nix az) ⟨k,a,b,n,s,t,u⟩ ha hb;rw[hf] at KF;have HS:Hid (aw w0 g M x):=h.nix az;have zS:=h_ h.lt;have HC:=h_ az;have HW:=h_ hw0;have PM:=h_ hf;clear h az rp hf;unfold dt;go_enter Tryz.func42,Tryz.ntmps42;show Code.wp pQ (aj 0 (ae Tryz.f42)) _ _ _
 have e0:aj 0 (ae Tryz.f42)=.seq (bz (aj 0 (ae Tryz.f42))) (aj 1 (ae Tryz.f42)):=by kernel_rfl
 rw[e0];clear e0;refine wp_seq_k λK hK=>?_
 conv in bz _=>whnf
 clear hw0;go_wp2;rw[←HW.out];refine aG (k':=2) λK hK=>?_
 conv in bz _=>whnf
 go_wp2_with (go_at_call 51;refine KF.out.mono ?_;rintro r w1 ⟨rfl,jg⟩);go_ret;exact⟨rfl,HS.out.nix jg,(aa.nix (HC.out.trans jg))⟩
theorem Gq(h:aw w g M x)(k a b n:Int)(s t u:ByteArray)(ha:bj a)(hb:bj b)(hf:av x ⟨k,a,b,n,s,t,u⟩=true):
  Calls pQ 42 #[O (some ⟨g,0,none⟩),dt ⟨k,a,b,n,s,t,u⟩] w λr w'=>r=.returned (.bool true)∧aw w' g M (iB x ⟨k,a,b,n,s,t,u⟩)∧aa (SF g M) w w':=by
 obtain⟨w0,hw0⟩:∃w0,w0=w.alloc (.cells #[I J k,I J a,I J b,I J n,V s,V t,V u] 42):=⟨_,rfl⟩;have az:aa ac w w0:=by rw[hw0];exact(fR w).alloc _
 have rp:ai w0 w.heap.size 42 #[I J k,I J a,I J b,I J n,V s,V t,V u]:=by rw[hw0];exact ai.new w _ _
 obtain⟨d0,d1,d2,d3,d4,d5,d6⟩:=ap rp;have fp:=h_ rp;have KF:Hid (Calls pQ 51 #[O (some ⟨g,0,none⟩),.agg #[I J k,I J a,I J b,I J n,V s,V t,V u]] w0 λr w'=>r=.returned (.bool (av x ⟨k,a,b,n,s,t,u⟩))∧aa ac w0 w'):=ww (h.nix az) ⟨k,a,b,n,s,t,u⟩ ha hb;rw[hf] at KF;have HS:Hid (aw w0 g M x):=h.nix az;have zS:=h_ h.lt;have HC:=h_ az;have HW:=h_ hw0;have PM:=h_ hf;clear h az rp hf;unfold dt;go_enter Tryz.func42,Tryz.ntmps42;show Code.wp pQ (aj 0 (ae Tryz.f42)) _ _ _
 have e0:aj 0 (ae Tryz.f42)=.seq (bz (aj 0 (ae Tryz.f42))) (aj 1 (ae Tryz.f42)):=by kernel_rfl
 rw[e0];clear e0;refine wp_seq_k λK hK=>?_
 conv in bz _=>whnf
 clear hw0;go_wp2;rw[←HW.out];refine aG (k':=2) λK hK=>?_
 conv in bz _=>whnf
 go_wp2_with (go_at_call 51;refine KF.out.mono ?_;rintro r w1 ⟨rfl,jg⟩);exact Li (HS.out.nix jg) (HC.out.trans jg) k a b n s t u (fp.out.frm jg id) zS.out (Nat.le_refl _) PM.out ha hb
theorem ym(h:aw w g M x)(e:Ev)(ha:bj e.a)(hb:bj e.b):
  Calls pQ 42 #[O (some ⟨g,0,none⟩),dt e] w λr w'=>r=.returned (.bool (bB x e).2)∧aw w' g M (bB x e).1∧aa (SF g M) w w':=by
 cases hf:av x e with
 | false=>
   rw[show bB x e=(x,false) by simp[bB,hf]]
   exact IM h e.kind e.a e.b e.n e.s e.t e.u ha hb hf
 | true=>
   rw[show bB x e=(iB x e,true) by simp[bB,hf]];exact Gq h e.kind e.a e.b e.n e.s e.t e.u ha hb hf
end Go.Proofs.YtaecjmiobllhmaaGreat
