/- Words. -/
import Derived.Test.YtaecjmiobllhmaaGreatGr21
set_option linter.unusedVariables false
set_option linter.unusedSimpArgs false
set_option maxRecDepth 100000
set_option maxHeartbeats 16000000
namespace Go.Proofs.YtaecjmiobllhmaaGreat
open Go.Value renaming int→I,string→V,pointer→O
open Go.IntKind renaming i64→J
open Tryz renaming prog→pQ
open Go.RowKit Go.Lib
variable {w wc:World}{g be bf bt:Nat}{M:Ms}{x:St}{v:Sl}{uu:Nat→Value}
theorem JR(hS:aH wc g M x)(hF:aa ag w wc)(a b n:Int)(s t u:ByteArray)(hB:aj wc be 42 #[I J 2,I J a,I J b,I J n,V s,V t,V u])(mq:aj wc bf 64 #[I J (au x a).id,I J (au x a).inn,V (au x a).url,V (au x a).title])(l7:aj wc bt 82 (nr v (ah x a)))(hv:bF wc v (ah x a).tags)(hlt:∀k,SF g M k→k<w.heap.size)(sH:w.heap.size≤be)(tO:w.heap.size≤bf)(hst:w.heap.size≤bt)(aL:aG x ⟨2,a,b,n,s,t,u⟩=true)(ha:bn a)(hb:bn b):
  Code.wp pQ (ai 3 (ae Tryz.f42)) (bodyPost pQ Tryz.f42 λr w'=>r=.returned (.bool true)∧aH w' g M (iu x ⟨2,a,b,n,s,t,u⟩)∧aa (SF g M) w w') (ij g be bf bt (.agg #[I J 2,I J a,I J b,I J n,V s,V t,V u]) uu) wc:=by
 unfold ij;obtain⟨d0,d1,d2,d3,d4,d5,d6⟩:=az hB;have he:=cg aL;obtain⟨⟨f,uV,nB⟩,-,-⟩:=(Lh (x:=x) rfl he).1 aL;simp only at nB;have hat:=kU hS.ok.fR uV nB;have N4:iH x a=f:=by unfold iH;rw[hat];rfl
 have bO:=lg hS.ok aL;rw[P7 rfl] at bO ⊢;obtain⟨⟨g1,g2,g3,g4,g5,g6,g7,g8⟩,⟨o1,o2,o3,o4,o5,o6,o7⟩,⟨e1,e2,e3,e4,e5,e6⟩,⟨i1,i2,i3,i4,i5⟩,⟨s1,s2,s3,s4⟩,⟨a1,a2,a3⟩,⟨p1,p2⟩,u1⟩:=hS.apart.ne
 have Fi:bn f.inn:=by
  have h1:=(hS.ok.fE f uV).1;rw[LX] at h1;simp only[Bool.and_eq_true] at h1;have h3:=h1.1.2;simp[aK,nj] at h3;unfold bn;omega
 obtain⟨wb,Ah⟩:∃wb,wb=(wc.alloc (.cells #[I J f.id,I J f.inn,V f.name] 79)).drew:=⟨_,rfl⟩;have fb:aa ag wc wb:=by rw[Ah];exact((fR wc).alloc _).drew
 have hb':aH wb g M x:=hS.nix fb;have lR:aj wb wc.heap.size 79 #[I J f.id,I J f.inn,V f.name]:=by rw[Ah];exact(aj.new wc _ _).drew
 have pw:Hid (∀W,aa ag wc W→(λW=>aa ag wc W∧W.cell? ⟨g,1,none⟩=some (.map (some M.fo))∧W.cell? ⟨be,1,none⟩=some (I J a)∧(Instr.lookup 106 (.map (some M.fo)) (I J a) false).run pQ W=.ok (.agg #[I J f.id,I J f.inn,V f.name]) W) W):=λW hf=>⟨hf,(hS.nix hf).cells.2.1,(az (hB.frm hf id)).2.1,by rw[←N4];exact(hS.nix hf).folLook ha false⟩
 have hf0:=fR wc;have TI:w.heap.size≤wc.heap.size:=hF.size;have Sd:∀k,SF g M k→wc.heap.size≠k:=λk hk e=>by have:=hlt k hk;omega
 have hen:∀k,SF g M k→be≠k:=λk hk e=>by have:=hlt k hk;omega
 obtain⟨q0,q1,q2,q3,q4,q5,-⟩:=hb'.cells;have x1:=lR.cell 1;have x2:=lR.cell 2;simp at x1 x2;obtain⟨w2,r2,m2,f2⟩:=(hb'.maps.na.frm (fR wb).drew id).delete_yes CY Tryz.underlying110 ((dU hat).map λf:bh=>(kP f.inn f.name,kI f.id)) 134;have Fe:∀ty,(Builtin.delete_ #[110,134] ty #[.map (some M.na),.agg #[I J f.inn,V f.name]]).run pQ wb.drew=.ok (.tuple #[]) w2:=r2;have qN:aa (·=M.na) wb w2:=(aa.refl (·=M.na) wb).drew.trans f2;have b2:=hb'.blk.frm qN g5;have k1:=b2.cell 1;simp at k1;obtain⟨-,y1,-⟩:=az ((hB.frm fb id).frm qN (hen _ (by simp[SF])));obtain⟨w3,r3,m3,f3⟩:=((hb'.maps.fo.frm qN o4).frm (fR w2).drew id).delete_yes cE Tryz.underlying106 ((dU hat).map λf:bh=>(kI f.id,nO f)) 3;have TJ:∀ty,(Builtin.delete_ #[106,3] ty #[.map (some M.fo),I J a]).run pQ w2.drew=.ok (.tuple #[]) w3:=by rw[←nB];exact r3
 have f3':aa (·=M.fo) w2 w3:=(aa.refl (·=M.fo) w2).drew.trans f3;have z8:=(b2.frm f3' g1).cell 8;simp at z8;have z1:=((lR.frm qN (Sd _ (by simp[SF]))).frm f3' (Sd _ (by simp[SF]))).cell 1;simp at z1;have I1:=(hb'.held.frm qN a3.symm).frm f3' o7.symm;have N0:=pR hS.ok f.inn;have KH:=h_ (pP (n:=-1) z8 I1 Fi (by omega) (by omega));have HM:Hid (∀w4,cF w4 M.he (λj=>if j=f.inn then bq x j+ -1 else bq x j)→aa (·=M.he) w3 w4→aH w4 g M {x with fols:=cM bh.id a x.fols}∧aa (SF g M) wb w4):=λw4 Qz f4=>Fj hb' hat m2 qN m3 f3' Qz f4 bO
 have HF:=h_ (hF.trans fb);have JM:=h_ Ah;clear hS hF hB mq l7 hv hlt aL bO hat uV r2 m2 f2 qN r3 m3 f3 f3' b2 lR hb' Ah fb I1 N0 N4 nB;simp only[ai,ae,Tryz.f42];go_wp2
 go_region_held3 (λW=>aa ag wc W∧W.cell? ⟨g,1,none⟩=some (.map (some M.fo))∧W.cell? ⟨be,1,none⟩=some (I J a)∧(Instr.lookup 106 (.map (some M.fo)) (I J a) false).run pQ W=.ok (.agg #[I J f.id,I J f.inn,V f.name]) W) (first|exact pw.out _ hf0|exact pw.out _ (aa.drew hf0)|exact pw.out _ (aa.alloc (by assumption) _)|exact pw.out _ (aa.alloc (aa.drew (by assumption)) _)|exact pw.out _ (aa.drew (by assumption))|exact pw.out _ (by assumption)) (first|fail)
 all_goals
  go_wp2;rw[←JM.out]
  go_still_tail 9,(by kernel_rfl)
  change wpList _ _ _ _ _ wb.drew;go_wp2_with (refine cu Fe rfl _ _ rfl rfl rfl ?_)
  go_still_tail 6,(by kernel_rfl)
  change wpList _ _ _ _ _ w2.drew
  go_wp2_with (first
   | (refine cu TJ rfl _ _ rfl rfl rfl ?_)
   | (go_at_call 87;refine KH.out.mono ?_;rintro r w4 ⟨rfl,Qz,f4⟩))
  go_ret;obtain⟨t1,t2⟩:=HM.out _ Qz f4;exact⟨rfl,t1,(aa.nix HF.out).trans t2⟩
theorem Hn(hS:aH wc g M x)(hF:aa ag w wc)(a b n:Int)(s t u:ByteArray)(hB:aj wc be 42 #[I J 12,I J a,I J b,I J n,V s,V t,V u])(mq:aj wc bf 64 #[I J (au x a).id,I J (au x a).inn,V (au x a).url,V (au x a).title])(l7:aj wc bt 82 (nr v (ah x a)))(hv:bF wc v (ah x a).tags)(hlt:∀k,SF g M k→k<w.heap.size)(sH:w.heap.size≤be)(tO:w.heap.size≤bf)(hst:w.heap.size≤bt)(aL:aG x ⟨12,a,b,n,s,t,u⟩=true)(ha:bn a)(hb:bn b):
  Code.wp pQ (ai 3 (ae Tryz.f42)) (bodyPost pQ Tryz.f42 λr w'=>r=.returned (.bool true)∧aH w' g M (iu x ⟨12,a,b,n,s,t,u⟩)∧aa (SF g M) w w') (ij g be bf bt (.agg #[I J 12,I J a,I J b,I J n,V s,V t,V u]) uu) wc:=by
 unfold ij;obtain⟨d0,d1,d2,d3,d4,d5,d6⟩:=az hB;have he:=cg aL;obtain⟨f,uV,nB⟩:=(LZ (x:=x) rfl he).1 aL;simp only at nB;have hat:=kU hS.ok.sR uV nB;have bO:=lg hS.ok aL;rw[L8 rfl] at bO ⊢;obtain⟨c0,c1,c2,c3,c4,-⟩:=hS.cells;obtain⟨w1,r1,m1,f1⟩:=(hS.maps.se.frm (fR wc).drew id).delete_yes cE Tryz.underlying109 ((dU hat).map λf:ce=>(kI f.id,nP f)) 3;have Gk:∀ty,(Builtin.delete_ #[109,3] ty #[.map (some M.se),I J a]).run pQ wc.drew=.ok (.tuple #[]) w1:=by rw[←nB];exact r1
 have HM:=h_ (Dd hS m1 ((aa.refl (·=M.se) wc).drew.trans f1) bO);have HF:=h_ hF;clear hS hF hB mq l7 hv hlt aL bO hat uV r1 m1 f1 nB;simp only[ai,ae,Tryz.f42];go_wp2
 go_still_tail 6,(by kernel_rfl)
 change wpList _ _ _ _ _ wc.drew;go_wp2_with (refine cu Gk rfl _ _ rfl rfl rfl ?_);go_ret;exact⟨rfl,HM.out.1,(aa.nix HF.out).trans HM.out.2⟩
theorem JS(hS:aH wc g M x)(hF:aa ag w wc)(a b n:Int)(s t u:ByteArray)(hB:aj wc be 42 #[I J 5,I J a,I J b,I J n,V s,V t,V u])(mq:aj wc bf 64 #[I J (au x a).id,I J (au x a).inn,V (au x a).url,V (au x a).title])(l7:aj wc bt 82 (nr v (ah x a)))(hv:bF wc v (ah x a).tags)(hlt:∀k,SF g M k→k<w.heap.size)(sH:w.heap.size≤be)(tO:w.heap.size≤bf)(hst:w.heap.size≤bt)(aL:aG x ⟨5,a,b,n,s,t,u⟩=true)(ha:bn a)(hb:bn b):
  Code.wp pQ (ai 3 (ae Tryz.f42)) (bodyPost pQ Tryz.f42 λr w'=>r=.returned (.bool true)∧aH w' g M (iu x ⟨5,a,b,n,s,t,u⟩)∧aa (SF g M) w w') (ij g be bf bt (.agg #[I J 5,I J a,I J b,I J n,V s,V t,V u]) uu) wc:=by
 unfold ij;obtain⟨d0,d1,d2,d3,d4,d5,d6⟩:=az hB;have he:=cg aL;obtain⟨f,uV,nB⟩:=(GZ (x:=x) (.inr rfl) he).1 aL;simp only at nB;have hat:=kU hS.ok.eR uV nB;have bO:=lg hS.ok aL;rw[P9 rfl] at bO ⊢;have Bk:au x a=f:=by unfold au;rw[hat];rfl
 rw[Bk] at mq;have uU:¬SF g M bf:=λh=>by have:=hlt bf h;omega
 have Bl:¬qp wc bf:=λh=>mq.ne_str (by decide) h rfl
 obtain⟨w1,hw1⟩:∃w1,w1=wc.setCell ⟨bf,3,none⟩ (V t):=⟨_,rfl⟩;have f1:aa (·=bf) wc w1:=by rw[hw1];exact(aa.refl (·=bf) wc).setCell (.inl rfl) _
 have b1:aj w1 bf 64 #[I J f.id,I J f.inn,V f.url,V t]:=by
  rw[hw1];have:=mq.set_ 3 (V t)
  simpa using this
 have x3:=mq.cell 3;have fz:=mq.frozen 3;simp at x3;have y0:=b1.cell 0;have y1:=b1.cell 1;have y2:=b1.cell 2;have y3:=b1.cell 3;simp at y0 y1 y2 y3;have ne:∀k,SF g M k→¬k=bf:=λk hk e=>uU (e ▸ hk)
 obtain⟨Sg,Sh,-⟩:=az (hB.frm f1 (hB.ne_ mq (by decide)));have s1:=hS.blk.frm f1 (ne _ (by simp[SF]));have q2:=s1.cell 2;simp at q2;obtain⟨w2,r2,m2,f2⟩:=((hS.maps.fe.frm f1 (ne _ (by simp[SF]))).frm (fR w1).drew id).update_old cE Tryz.underlying107 ((dU hat).map λf:aX=>(kI f.id,kN f)) (kN {f with title:=t});rw[show kI f.id=kI a by rw[nB]] at r2 m2;have Fe:(Instr.mapUpdate 107 (.map (some M.fe)) (I J a) (.agg #[I J f.id,I J f.inn,V f.url,V t])).run pQ w1.drew=.ok () w2:=r2;have qN:aa (·=M.fe) w1 w2:=(aa.refl (·=M.fe) w1).drew.trans f2;have f12:aa (λk=>k=M.fe∨k=M.he∨k=bf) wc w2:=(f1.mono λk hk=>.inr (.inr hk)).trans (qN.mono λk hk=>.inl hk)
 have hh:cF w2 M.he (bq {x with fees:=gK aX.id a (λf=>{f with title:=t}) x.fees}):=by
  refine((hS.held.frm f1 (ne _ (by simp[SF]))).frm qN hS.apart.ne.2.2.1.2.2.2.2.2.symm).congr λj=>?_
  rw[uE x hat];show bq x j=(if j=f.inn then 1 else 0)+(bq x j-if j=f.inn then 1 else 0)
  omega
 have HM:=h_ (Eo (b:=bf) hS hat (λf=>{f with title:=t}) rfl rfl m2 f12 uU Bl hh bO);have HF:=h_ hF;have HW:=h_ hw1;clear hS hF hB mq l7 hv hlt aL bO hat uV r2 m2 f2 qN f12 hh s1 b1 f1 hw1 Bk nB Bl;simp only[ai,ae,Tryz.f42];go_wp2;rw[←HW.out]
 go_still_tail 7,(by kernel_rfl)
 change wpList _ _ _ _ _ w1.drew;go_wp2_with (at_mapUpdate;refine aQ Fe rfl _ _ _ rfl rfl rfl rfl ?_);go_ret;exact⟨rfl,HM.out.1,(aa.nix (F:=SF g M) HF.out).next HM.out.2 λk hk=>hk.imp id λe=>by omega⟩
theorem JT(hS:aH wc g M x)(hF:aa ag w wc)(a b n:Int)(s t u:ByteArray)(hB:aj wc be 42 #[I J 6,I J a,I J b,I J n,V s,V t,V u])(mq:aj wc bf 64 #[I J (au x a).id,I J (au x a).inn,V (au x a).url,V (au x a).title])(l7:aj wc bt 82 (nr v (ah x a)))(hv:bF wc v (ah x a).tags)(hlt:∀k,SF g M k→k<w.heap.size)(sH:w.heap.size≤be)(tO:w.heap.size≤bf)(hst:w.heap.size≤bt)(aL:aG x ⟨6,a,b,n,s,t,u⟩=true)(ha:bn a)(hb:bn b):
  Code.wp pQ (ai 3 (ae Tryz.f42)) (bodyPost pQ Tryz.f42 λr w'=>r=.returned (.bool true)∧aH w' g M (iu x ⟨6,a,b,n,s,t,u⟩)∧aa (SF g M) w w') (ij g be bf bt (.agg #[I J 6,I J a,I J b,I J n,V s,V t,V u]) uu) wc:=by
 unfold ij;obtain⟨d0,d1,d2,d3,d4,d5,d6⟩:=az hB;have he:=cg aL;obtain⟨⟨f,uV,nB⟩,-⟩:=(Lj (x:=x) rfl he).1 aL;simp only at nB;have hat:=kU hS.ok.eR uV nB;have bO:=lg hS.ok aL;rw[Qa rfl] at bO ⊢;obtain⟨hsz,Fi,hid⟩:=Bi hS.ok uV;have Bk:au x a=f:=by unfold au;rw[hat];rfl
 rw[Bk] at mq;have uU:¬SF g M bf:=λh=>by have:=hlt bf h;omega
 have Bl:¬qp wc bf:=λh=>mq.ne_str (by decide) h rfl
 have ne:∀k,SF g M k→¬k=bf:=λk hk e=>uU (e ▸ hk)
 have nb:∀k,SF g M k→¬bf=k:=λk hk e=>uU (e ▸ hk)
 have nbe:∀k,SF g M k→¬be=k:=λk hk e=>by have:=hlt k hk;omega
 have vp:be≠bf:=hB.ne_ mq (by decide);obtain⟨⟨g1,g2,g3,g4,g5,g6,g7,g8⟩,-,⟨e1,e2,e3,e4,e5,e6⟩,-⟩:=hS.apart.ne;obtain⟨c0,c1,c2,c3,c4,c5,c6,c7,c8,-⟩:=hS.cells;have x1:=mq.cell 1;simp at x1;have N0:=pR hS.ok f.inn;have TK:=pR hS.ok b;have KH:=h_ (pP (n:=-1) c8 hS.held Fi (by omega) (by omega))
 have TL:Hid (∀W,cF W M.he (λj=>if j=f.inn then bq x j+ -1 else bq x j)→aa (·=M.he) wc W→Calls pQ 87 #[O (some ⟨g,0,none⟩),I J b,I J 1] W λe w'=>e=.returned (.tuple #[])∧cF w' M.he (λj=>if j=b then (if j=f.inn then bq x j+ -1 else bq x j)+1 else (if j=f.inn then bq x j+ -1 else bq x j))∧aa (·=M.he) W w'):=λW hW TM=>by
  have q:=(hS.blk.frm TM g8).cell 8;simp at q;exact pP (n:=1) q hW hb (by split<;>omega) (by omega)
 have HS:=h_ hS;have HF:=h_ hF;have HB:=h_ hB;have TN:=h_ mq;have N5:=h_ bO;have Ep:=h_ hat;have ug:=h_ nB;have rR:=h_ ne;have TP:=h_ tO;have Si:=h_ nb;have JU:=h_ nbe;have N6:=h_ (And.intro uU (And.intro Bl vp));have Ny:=h_ (And.intro g8 (And.intro e6 hlt));clear hS hF hB mq l7 hv aL bO hat uV N0 TK Bk nB ne nb nbe uU Bl vp g1 g2 g3 g4 g5 g6 g7 g8 e1 e2 e3 e4 e5 e6 hlt sH tO hst hsz Fi hid ha hb he;simp only[ai,ae,Tryz.f42]
 go_wp2_with (first
  | (go_at_call 87;refine K2.out.mono ?_;rintro r w2 ⟨rfl,Gi,f2⟩;obtain⟨d0,d1,d2,d3,d4,d5,d6⟩:=az ((HB.out.frm f1 (JU.out _ (by simp[SF]))).frm f2 (JU.out _ (by simp[SF])));have b2:=(TN.out.frm f1 (Si.out _ (by simp[SF]))).frm f2 (Si.out _ (by simp[SF]));have Sj:=b2.cell 1;have fz:=b2.frozen 1;simp at Sj;have im:=h_ b2;clear b2)
  | (go_at_call 87;refine KH.out.mono ?_;rintro r w1 ⟨rfl,Sk,f1⟩;have K2:=h_ (TL.out w1 Sk f1);obtain⟨d0,d1,d2,d3,d4,d5,d6⟩:=az (HB.out.frm f1 (JU.out _ (by simp[SF])))))
 have ne:=rR.out;have nbe:=JU.out;obtain⟨uU,Bl,vp⟩:=N6.out;obtain⟨g8,e6,hlt⟩:=Ny.out;obtain⟨w3,hw3⟩:∃w3,w3=w2.setCell ⟨bf,1,none⟩ (I J b):=⟨_,rfl⟩;rw[←hw3];have b2:=im.out;have f3:aa (·=bf) w2 w3:=by rw[hw3];exact(aa.refl (·=bf) w2).setCell (.inl rfl) _
 have b3:aj w3 bf 64 #[I J f.id,I J b,V f.url,V f.title]:=by
  rw[hw3];have:=b2.set_ 1 (I J b)
  simpa using this
 have f12:aa (·=M.he) wc w2:=f1.trans f2;have f13:aa (λk=>k=M.he∨k=bf) wc w3:=(f12.mono λk hk=>.inl hk).trans (f3.mono λk hk=>.inr hk);have y0:=b3.cell 0;have y1:=b3.cell 1;have y2:=b3.cell 2;have y3:=b3.cell 3;simp at y0 y1 y2 y3;obtain⟨QA,Ls,-⟩:=az (HB.out.frm f13 (by simp;exact⟨nbe _ (by simp[SF]),vp⟩));have q2:=(HS.out.blk.frm f13 (by simp;exact⟨g8,ne _ (by simp[SF])⟩)).cell 2;simp at q2;obtain⟨w4,r4,m4,f4⟩:=((HS.out.maps.fe.frm f13 (by simp;exact⟨e6,ne _ (by simp[SF])⟩)).frm (fR w3).drew id).update_old cE Tryz.underlying107 ((dU Ep.out).map λf:aX=>(kI f.id,kN f)) (kN {f with inn:=b});rw[show kI f.id=kI a by rw[ug.out]] at r4 m4;have QB:(Instr.mapUpdate 107 (.map (some M.fe)) (I J a) (.agg #[I J f.id,I J b,V f.url,V f.title])).run pQ w3.drew=.ok () w4:=r4;have Nz:aa (·=M.fe) w3 w4:=(aa.refl (·=M.fe) w3).drew.trans f4;have f14:aa (λk=>k=M.fe∨k=M.he∨k=bf) wc w4:=(f13.mono λk hk=>.inr hk).trans (Nz.mono λk hk=>.inl hk)
 have hh:cF w4 M.he (bq {x with fees:=gK aX.id a (λf=>{f with inn:=b}) x.fees}):=by
  refine((Gi.frm f3 (ne _ (by simp[SF]))).frm Nz e6.symm).congr λj=>?_
  rw[uE x Ep.out];show (if j=b then (if j=f.inn then bq x j+ -1 else bq x j)+1 else (if j=f.inn then bq x j+ -1 else bq x j))=(if j=b then 1 else 0)+(bq x j-if j=f.inn then 1 else 0)
  by_cases h1:j=b<;>by_cases h2:j=f.inn<;>simp only[h1,h2,if_true,if_false]<;>(try split)<;>omega
 have HM:=h_ (Eo (b:=bf) HS.out Ep.out (λf=>{f with inn:=b}) rfl rfl m4 f14 uU Bl hh N5.out);clear ne nbe uU Bl vp g8 e6 hlt b2 f3 b3 f12 f13 r4 m4 f4 Nz f14 hh Sk Gi f1 f2 hw3 x1 Sj d0 d1 d2 d3 d4 d5 d6 c0 c1 c2 c3 c4 c5 c6 c7 c8
 go_still_tail 7,(by kernel_rfl)
 change wpList _ _ _ _ _ w3.drew;go_wp2_with (at_mapUpdate;refine aQ QB rfl _ _ _ rfl rfl rfl rfl ?_);go_ret;exact⟨rfl,HM.out.1,(aa.nix (F:=SF g M) HF.out).next HM.out.2 λk hk=>hk.imp id λe=>by have:=TP.out;omega⟩
end Go.Proofs.YtaecjmiobllhmaaGreat
