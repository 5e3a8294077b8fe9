/- Words. -/
import Derived.Test.YtaecjmiobllhmaaGreatGq21
set_option linter.unusedVariables false
set_option linter.unusedSimpArgs false
set_option maxRecDepth 100000
set_option maxHeartbeats 16000000
namespace Go.Proofs.YtaecjmiobllhmaaGreat
open Go.Value renaming int→I,string→V,pointer→O
open Go.IntKind renaming i64→J
open Tryz renaming prog→pQ
open Go.RowKit Go.Lib
variable {w wc:World}{g be bf bt:Nat}{M:Ms}{x:St}{v:Sl}{uu:Nat→Value}
theorem Lb(hS:aw wc g M x)(hF:aa ac w wc)(a b n:Int)(s t u:ByteArray)(hB:ai wc be 42 #[I J 2,I J a,I J b,I J n,V s,V t,V u])(mC:ai wc bf 64 #[I J (ar x a).id,I J (ar x a).inn,V (ar x a).url,V (ar x a).title])(l8:ai wc bt 82 (nj v (ag x a)))(hv:cI wc v (ag x a).tags)(hlt:∀k,SF g M k→k<w.heap.size)(mU:w.heap.size≤be)(tK:w.heap.size≤bf)(hst:w.heap.size≤bt)(aR:av x ⟨2,a,b,n,s,t,u⟩=true)(ha:bj a)(hb:bj b):
  Code.wp pQ (aj 3 (ae Tryz.f42)) (bodyPost pQ Tryz.f42 λr w'=>r=.returned (.bool true)∧aw w' g M (iB x ⟨2,a,b,n,s,t,u⟩)∧aa (SF g M) w w') (iP g be bf bt (.agg #[I J 2,I J a,I J b,I J n,V s,V t,V u]) uu) wc:=by
 unfold iP;obtain⟨d0,d1,d2,d3,d4,d5,d6⟩:=ap hB;have he:=dx aR;obtain⟨⟨f,xe,nz⟩,-,-⟩:=(Ih (x:=x) rfl he).1 aR;simp only at nz;have hat:=jl hS.ok.fR xe nz;have PL:ep x a=f:=by unfold ep;rw[hat];rfl
 have je:=lf hS.ok aR;rw[Rc rfl] at je ⊢;obtain⟨⟨g1,g2,g3,g4,g5,g6,g7,g8⟩,⟨o1,o2,o3,o4,o5,o6,o7⟩,⟨e1,e2,e3,e4,e5,e6⟩,⟨i1,i2,i3,i4,i5⟩,⟨s1,s2,s3,s4⟩,⟨a1,a2,a3⟩,⟨p1,p2⟩,u1⟩:=hS.apart.ne
 have Gl:bj f.inn:=by
  have h1:=(hS.ok.fE f xe).1;rw[Km] at h1;simp only[Bool.and_eq_true] at h1;have h3:=h1.1.2;simp[aI,li] at h3;unfold bj;omega
 obtain⟨wb,xd⟩:∃wb,wb=(wc.alloc (.cells #[I J f.id,I J f.inn,V f.name] 79)).drew:=⟨_,rfl⟩;have fb:aa ac wc wb:=by rw[xd];exact((fR wc).alloc _).drew
 have hb':aw wb g M x:=hS.nix fb;have mf:ai wb wc.heap.size 79 #[I J f.id,I J f.inn,V f.name]:=by rw[xd];exact(ai.new wc _ _).drew
 have dH:Hid (∀W,aa ac wc W→(λW=>aa ac wc W∧W.cell? ⟨g,1,none⟩=some (.map (some M.fo))∧W.cell? ⟨be,1,none⟩=some (I J a)∧(Instr.lookup 106 (.map (some M.fo)) (I J a) false).run pQ W=.ok (.agg #[I J f.id,I J f.inn,V f.name]) W) W):=λW hf=>⟨hf,(hS.nix hf).cells.2.1,(ap (hB.frm hf id)).2.1,by rw[←PL];exact(hS.nix hf).folLook ha false⟩
 have hf0:=fR wc;have WH:w.heap.size≤wc.heap.size:=hF.size;have U2:∀k,SF g M k→wc.heap.size≠k:=λk hk e=>by have:=hlt k hk;omega
 have hen:∀k,SF g M k→be≠k:=λk hk e=>by have:=hlt k hk;omega
 obtain⟨q0,q1,q2,q3,q4,q5,-⟩:=hb'.cells;have x1:=mf.cell 1;have x2:=mf.cell 2;simp at x1 x2;obtain⟨w2,r2,m2,f2⟩:=(hb'.maps.na.frm (fR wb).drew id).delete_yes Dg Tryz.underlying110 ((eD hat).map λf:bg=>(kP f.inn f.name,kI f.id)) 134;have Gg:∀ty,(Builtin.delete_ #[110,134] ty #[.map (some M.na),.agg #[I J f.inn,V f.name]]).run pQ wb.drew=.ok (.tuple #[]) w2:=r2;have qB:aa (·=M.na) wb w2:=(aa.refl (·=M.na) wb).drew.trans f2;have b2:=hb'.blk.frm qB g5;have k1:=b2.cell 1;simp at k1;obtain⟨-,y1,-⟩:=ap ((hB.frm fb id).frm qB (hen _ (by simp[SF])));obtain⟨w3,r3,m3,f3⟩:=((hb'.maps.fo.frm qB o4).frm (fR w2).drew id).delete_yes d7 Tryz.underlying106 ((eD hat).map λf:bg=>(kI f.id,oh f)) 3;have WI:∀ty,(Builtin.delete_ #[106,3] ty #[.map (some M.fo),I J a]).run pQ w2.drew=.ok (.tuple #[]) w3:=by rw[←nz];exact r3
 have f3':aa (·=M.fo) w2 w3:=(aa.refl (·=M.fo) w2).drew.trans f3;have z8:=(b2.frm f3' g1).cell 8;simp at z8;have z1:=((mf.frm qB (U2 _ (by simp[SF]))).frm f3' (U2 _ (by simp[SF]))).cell 1;simp at z1;have J1:=(hb'.held.frm qB a3.symm).frm f3' o7.symm;have PG:=pL hS.ok f.inn;have KH:=h_ (pK (n:=-1) z8 J1 Gl (by omega) (by omega));have HM:Hid (∀w4,d8 w4 M.he (λj=>if j=f.inn then bv x j+ -1 else bv x j)→aa (·=M.he) w3 w4→aw w4 g M {x with fols:=dZ bg.id a x.fols}∧aa (SF g M) wb w4):=λw4 Sq f4=>Gm hb' hat m2 qB m3 f3' Sq f4 je
 have HF:=h_ (hF.trans fb);have Sp:=h_ xd;clear hS hF hB mC l8 hv hlt aR je hat xe r2 m2 f2 qB r3 m3 f3 f3' b2 mf hb' xd fb J1 PG PL nz;simp only[aj,ae,Tryz.f42];go_wp2
 go_region_held3 (λW=>aa ac wc W∧W.cell? ⟨g,1,none⟩=some (.map (some M.fo))∧W.cell? ⟨be,1,none⟩=some (I J a)∧(Instr.lookup 106 (.map (some M.fo)) (I J a) false).run pQ W=.ok (.agg #[I J f.id,I J f.inn,V f.name]) W) (first|exact dH.out _ hf0|exact dH.out _ (aa.drew hf0)|exact dH.out _ (aa.alloc (by assumption) _)|exact dH.out _ (aa.alloc (aa.drew (by assumption)) _)|exact dH.out _ (aa.drew (by assumption))|exact dH.out _ (by assumption)) (first|fail)
 all_goals
  go_wp2;rw[←Sp.out]
  go_still_tail 9,(by kernel_rfl)
  change wpList _ _ _ _ _ wb.drew;go_wp2_with (refine dO Gg rfl _ _ rfl rfl rfl ?_)
  go_still_tail 6,(by kernel_rfl)
  change wpList _ _ _ _ _ w2.drew
  go_wp2_with (first
   | (refine dO WI rfl _ _ rfl rfl rfl ?_)
   | (go_at_call 87;refine KH.out.mono ?_;rintro r w4 ⟨rfl,Sq,f4⟩))
  go_ret;obtain⟨t1,t2⟩:=HM.out _ Sq f4;exact⟨rfl,t1,(aa.nix HF.out).trans t2⟩
theorem II(hS:aw wc g M x)(hF:aa ac w wc)(a b n:Int)(s t u:ByteArray)(hB:ai wc be 42 #[I J 12,I J a,I J b,I J n,V s,V t,V u])(mC:ai wc bf 64 #[I J (ar x a).id,I J (ar x a).inn,V (ar x a).url,V (ar x a).title])(l8:ai wc bt 82 (nj v (ag x a)))(hv:cI wc v (ag x a).tags)(hlt:∀k,SF g M k→k<w.heap.size)(mU:w.heap.size≤be)(tK:w.heap.size≤bf)(hst:w.heap.size≤bt)(aR:av x ⟨12,a,b,n,s,t,u⟩=true)(ha:bj a)(hb:bj b):
  Code.wp pQ (aj 3 (ae Tryz.f42)) (bodyPost pQ Tryz.f42 λr w'=>r=.returned (.bool true)∧aw w' g M (iB x ⟨12,a,b,n,s,t,u⟩)∧aa (SF g M) w w') (iP g be bf bt (.agg #[I J 12,I J a,I J b,I J n,V s,V t,V u]) uu) wc:=by
 unfold iP;obtain⟨d0,d1,d2,d3,d4,d5,d6⟩:=ap hB;have he:=dx aR;obtain⟨f,xe,nz⟩:=(Ik (x:=x) rfl he).1 aR;simp only at nz;have hat:=jl hS.ok.sR xe nz;have je:=lf hS.ok aR;rw[Kt rfl] at je ⊢;obtain⟨c0,c1,c2,c3,c4,-⟩:=hS.cells;obtain⟨w1,r1,m1,f1⟩:=(hS.maps.se.frm (fR wc).drew id).delete_yes d7 Tryz.underlying109 ((eD hat).map λf:dE=>(kI f.id,om f)) 3;have Hi:∀ty,(Builtin.delete_ #[109,3] ty #[.map (some M.se),I J a]).run pQ wc.drew=.ok (.tuple #[]) w1:=by rw[←nz];exact r1
 have HM:=h_ (Dy hS m1 ((aa.refl (·=M.se) wc).drew.trans f1) je);have HF:=h_ hF;clear hS hF hB mC l8 hv hlt aR je hat xe r1 m1 f1 nz;simp only[aj,ae,Tryz.f42];go_wp2
 go_still_tail 6,(by kernel_rfl)
 change wpList _ _ _ _ _ wc.drew;go_wp2_with (refine dO Hi rfl _ _ rfl rfl rfl ?_);go_ret;exact⟨rfl,HM.out.1,(aa.nix HF.out).trans HM.out.2⟩
theorem Lc(hS:aw wc g M x)(hF:aa ac w wc)(a b n:Int)(s t u:ByteArray)(hB:ai wc be 42 #[I J 5,I J a,I J b,I J n,V s,V t,V u])(mC:ai wc bf 64 #[I J (ar x a).id,I J (ar x a).inn,V (ar x a).url,V (ar x a).title])(l8:ai wc bt 82 (nj v (ag x a)))(hv:cI wc v (ag x a).tags)(hlt:∀k,SF g M k→k<w.heap.size)(mU:w.heap.size≤be)(tK:w.heap.size≤bf)(hst:w.heap.size≤bt)(aR:av x ⟨5,a,b,n,s,t,u⟩=true)(ha:bj a)(hb:bj b):
  Code.wp pQ (aj 3 (ae Tryz.f42)) (bodyPost pQ Tryz.f42 λr w'=>r=.returned (.bool true)∧aw w' g M (iB x ⟨5,a,b,n,s,t,u⟩)∧aa (SF g M) w w') (iP g be bf bt (.agg #[I J 5,I J a,I J b,I J n,V s,V t,V u]) uu) wc:=by
 unfold iP;obtain⟨d0,d1,d2,d3,d4,d5,d6⟩:=ap hB;have he:=dx aR;obtain⟨f,xe,nz⟩:=(yV (x:=x) (.inr rfl) he).1 aR;simp only at nz;have hat:=jl hS.ok.eR xe nz;have je:=lf hS.ok aR;rw[Rf rfl] at je ⊢;have Bu:ar x a=f:=by unfold ar;rw[hat];rfl
 rw[Bu] at mC;have uT:¬SF g M bf:=λh=>by have:=hlt bf h;omega
 have Bv:¬qb wc bf:=λh=>mC.ne_str (by decide) h rfl
 obtain⟨w1,hw1⟩:∃w1,w1=wc.setCell ⟨bf,3,none⟩ (V t):=⟨_,rfl⟩;have f1:aa (·=bf) wc w1:=by rw[hw1];exact(aa.refl (·=bf) wc).setCell (.inl rfl) _
 have b1:ai w1 bf 64 #[I J f.id,I J f.inn,V f.url,V t]:=by
  rw[hw1];have:=mC.set_ 3 (V t)
  simpa using this
 have x3:=mC.cell 3;have fz:=mC.frozen 3;simp at x3;have y0:=b1.cell 0;have y1:=b1.cell 1;have y2:=b1.cell 2;have y3:=b1.cell 3;simp at y0 y1 y2 y3;have ne:∀k,SF g M k→¬k=bf:=λk hk e=>uT (e ▸ hk)
 obtain⟨U3,U4,-⟩:=ap (hB.frm f1 (hB.ne_ mC (by decide)));have s1:=hS.blk.frm f1 (ne _ (by simp[SF]));have q2:=s1.cell 2;simp at q2;obtain⟨w2,r2,m2,f2⟩:=((hS.maps.fe.frm f1 (ne _ (by simp[SF]))).frm (fR w1).drew id).update_old d7 Tryz.underlying107 ((eD hat).map λf:aP=>(kI f.id,lp f)) (lp {f with title:=t});rw[show kI f.id=kI a by rw[nz]] at r2 m2;have Gg:(Instr.mapUpdate 107 (.map (some M.fe)) (I J a) (.agg #[I J f.id,I J f.inn,V f.url,V t])).run pQ w1.drew=.ok () w2:=r2;have qB:aa (·=M.fe) w1 w2:=(aa.refl (·=M.fe) w1).drew.trans f2;have f12:aa (λk=>k=M.fe∨k=M.he∨k=bf) wc w2:=(f1.mono λk hk=>.inr (.inr hk)).trans (qB.mono λk hk=>.inl hk)
 have hh:d8 w2 M.he (bv {x with fees:=gM aP.id a (λf=>{f with title:=t}) x.fees}):=by
  refine((hS.held.frm f1 (ne _ (by simp[SF]))).frm qB hS.apart.ne.2.2.1.2.2.2.2.2.symm).congr λj=>?_
  rw[uD x hat];show bv x j=(if j=f.inn then 1 else 0)+(bv x j-if j=f.inn then 1 else 0)
  omega
 have HM:=h_ (E5 (b:=bf) hS hat (λf=>{f with title:=t}) rfl rfl m2 f12 uT Bv hh je);have HF:=h_ hF;have HW:=h_ hw1;clear hS hF hB mC l8 hv hlt aR je hat xe r2 m2 f2 qB f12 hh s1 b1 f1 hw1 Bu nz Bv;simp only[aj,ae,Tryz.f42];go_wp2;rw[←HW.out]
 go_still_tail 7,(by kernel_rfl)
 change wpList _ _ _ _ _ w1.drew;go_wp2_with (at_mapUpdate;refine aY Gg rfl _ _ _ rfl rfl rfl rfl ?_);go_ret;exact⟨rfl,HM.out.1,(aa.nix (F:=SF g M) HF.out).next HM.out.2 λk hk=>hk.imp id λe=>by omega⟩
theorem Ld(hS:aw wc g M x)(hF:aa ac w wc)(a b n:Int)(s t u:ByteArray)(hB:ai wc be 42 #[I J 6,I J a,I J b,I J n,V s,V t,V u])(mC:ai wc bf 64 #[I J (ar x a).id,I J (ar x a).inn,V (ar x a).url,V (ar x a).title])(l8:ai wc bt 82 (nj v (ag x a)))(hv:cI wc v (ag x a).tags)(hlt:∀k,SF g M k→k<w.heap.size)(mU:w.heap.size≤be)(tK:w.heap.size≤bf)(hst:w.heap.size≤bt)(aR:av x ⟨6,a,b,n,s,t,u⟩=true)(ha:bj a)(hb:bj b):
  Code.wp pQ (aj 3 (ae Tryz.f42)) (bodyPost pQ Tryz.f42 λr w'=>r=.returned (.bool true)∧aw w' g M (iB x ⟨6,a,b,n,s,t,u⟩)∧aa (SF g M) w w') (iP g be bf bt (.agg #[I J 6,I J a,I J b,I J n,V s,V t,V u]) uu) wc:=by
 unfold iP;obtain⟨d0,d1,d2,d3,d4,d5,d6⟩:=ap hB;have he:=dx aR;obtain⟨⟨f,xe,nz⟩,-⟩:=(Ii (x:=x) rfl he).1 aR;simp only at nz;have hat:=jl hS.ok.eR xe nz;have je:=lf hS.ok aR;rw[Rg rfl] at je ⊢;obtain⟨hsz,Gl,hid⟩:=Bp hS.ok xe;have Bu:ar x a=f:=by unfold ar;rw[hat];rfl
 rw[Bu] at mC;have uT:¬SF g M bf:=λh=>by have:=hlt bf h;omega
 have Bv:¬qb wc bf:=λh=>mC.ne_str (by decide) h rfl
 have ne:∀k,SF g M k→¬k=bf:=λk hk e=>uT (e ▸ hk)
 have nb:∀k,SF g M k→¬bf=k:=λk hk e=>uT (e ▸ hk)
 have nbe:∀k,SF g M k→¬be=k:=λk hk e=>by have:=hlt k hk;omega
 have rI:be≠bf:=hB.ne_ mC (by decide);obtain⟨⟨g1,g2,g3,g4,g5,g6,g7,g8⟩,-,⟨e1,e2,e3,e4,e5,e6⟩,-⟩:=hS.apart.ne;obtain⟨c0,c1,c2,c3,c4,c5,c6,c7,c8,-⟩:=hS.cells;have x1:=mC.cell 1;simp at x1;have PG:=pL hS.ok f.inn;have WJ:=pL hS.ok b;have KH:=h_ (pK (n:=-1) c8 hS.held Gl (by omega) (by omega))
 have WL:Hid (∀W,d8 W M.he (λj=>if j=f.inn then bv x j+ -1 else bv x j)→aa (·=M.he) wc W→Calls pQ 87 #[O (some ⟨g,0,none⟩),I J b,I J 1] W λe w'=>e=.returned (.tuple #[])∧d8 w' M.he (λj=>if j=b then (if j=f.inn then bv x j+ -1 else bv x j)+1 else (if j=f.inn then bv x j+ -1 else bv x j))∧aa (·=M.he) W w'):=λW hW WM=>by
  have q:=(hS.blk.frm WM g8).cell 8;simp at q;exact pK (n:=1) q hW hb (by split<;>omega) (by omega)
 have HS:=h_ hS;have HF:=h_ hF;have HB:=h_ hB;have WN:=h_ mC;have Sr:=h_ je;have E6:=h_ hat;have ud:=h_ nz;have vd:=h_ ne;have WO:=h_ tK;have Rn:=h_ nb;have Le:=h_ nbe;have Gp:=h_ (And.intro uT (And.intro Bv rI));have xf:=h_ (And.intro g8 (And.intro e6 hlt));clear hS hF hB mC l8 hv aR je hat xe PG WJ Bu nz ne nb nbe uT Bv rI g1 g2 g3 g4 g5 g6 g7 g8 e1 e2 e3 e4 e5 e6 hlt mU tK hst hsz Gl hid ha hb he;simp only[aj,ae,Tryz.f42]
 go_wp2_with (first
  | (go_at_call 87;refine K2.out.mono ?_;rintro r w2 ⟨rfl,Hh,f2⟩;obtain⟨d0,d1,d2,d3,d4,d5,d6⟩:=ap ((HB.out.frm f1 (Le.out _ (by simp[SF]))).frm f2 (Le.out _ (by simp[SF])));have b2:=(WN.out.frm f1 (Rn.out _ (by simp[SF]))).frm f2 (Rn.out _ (by simp[SF]));have U5:=b2.cell 1;have fz:=b2.frozen 1;simp at U5;have kh:=h_ b2;clear b2)
  | (go_at_call 87;refine KH.out.mono ?_;rintro r w1 ⟨rfl,U6,f1⟩;have K2:=h_ (WL.out w1 U6 f1);obtain⟨d0,d1,d2,d3,d4,d5,d6⟩:=ap (HB.out.frm f1 (Le.out _ (by simp[SF])))))
 have ne:=vd.out;have nbe:=Le.out;obtain⟨uT,Bv,rI⟩:=Gp.out;obtain⟨g8,e6,hlt⟩:=xf.out;obtain⟨w3,hw3⟩:∃w3,w3=w2.setCell ⟨bf,1,none⟩ (I J b):=⟨_,rfl⟩;rw[←hw3];have b2:=kh.out;have f3:aa (·=bf) w2 w3:=by rw[hw3];exact(aa.refl (·=bf) w2).setCell (.inl rfl) _
 have b3:ai w3 bf 64 #[I J f.id,I J b,V f.url,V f.title]:=by
  rw[hw3];have:=b2.set_ 1 (I J b)
  simpa using this
 have f12:aa (·=M.he) wc w2:=f1.trans f2;have f13:aa (λk=>k=M.he∨k=bf) wc w3:=(f12.mono λk hk=>.inl hk).trans (f3.mono λk hk=>.inr hk);have y0:=b3.cell 0;have y1:=b3.cell 1;have y2:=b3.cell 2;have y3:=b3.cell 3;simp at y0 y1 y2 y3;obtain⟨WP,WQ,-⟩:=ap (HB.out.frm f13 (by simp;exact⟨nbe _ (by simp[SF]),rI⟩));have q2:=(HS.out.blk.frm f13 (by simp;exact⟨g8,ne _ (by simp[SF])⟩)).cell 2;simp at q2;obtain⟨w4,r4,m4,f4⟩:=((HS.out.maps.fe.frm f13 (by simp;exact⟨e6,ne _ (by simp[SF])⟩)).frm (fR w3).drew id).update_old d7 Tryz.underlying107 ((eD E6.out).map λf:aP=>(kI f.id,lp f)) (lp {f with inn:=b});rw[show kI f.id=kI a by rw[ud.out]] at r4 m4;have Ss:(Instr.mapUpdate 107 (.map (some M.fe)) (I J a) (.agg #[I J f.id,I J b,V f.url,V f.title])).run pQ w3.drew=.ok () w4:=r4;have OW:aa (·=M.fe) w3 w4:=(aa.refl (·=M.fe) w3).drew.trans f4;have f14:aa (λk=>k=M.fe∨k=M.he∨k=bf) wc w4:=(f13.mono λk hk=>.inr hk).trans (OW.mono λk hk=>.inl hk)
 have hh:d8 w4 M.he (bv {x with fees:=gM aP.id a (λf=>{f with inn:=b}) x.fees}):=by
  refine((Hh.frm f3 (ne _ (by simp[SF]))).frm OW e6.symm).congr λj=>?_
  rw[uD x E6.out];show (if j=b then (if j=f.inn then bv x j+ -1 else bv x j)+1 else (if j=f.inn then bv x j+ -1 else bv x j))=(if j=b then 1 else 0)+(bv x j-if j=f.inn then 1 else 0)
  by_cases h1:j=b<;>by_cases h2:j=f.inn<;>simp only[h1,h2,if_true,if_false]<;>(try split)<;>omega
 have HM:=h_ (E5 (b:=bf) HS.out E6.out (λf=>{f with inn:=b}) rfl rfl m4 f14 uT Bv hh Sr.out);clear ne nbe uT Bv rI g8 e6 hlt b2 f3 b3 f12 f13 r4 m4 f4 OW f14 hh U6 Hh f1 f2 hw3 x1 U5 d0 d1 d2 d3 d4 d5 d6 c0 c1 c2 c3 c4 c5 c6 c7 c8
 go_still_tail 7,(by kernel_rfl)
 change wpList _ _ _ _ _ w3.drew;go_wp2_with (at_mapUpdate;refine aY Ss rfl _ _ _ rfl rfl rfl rfl ?_);go_ret;exact⟨rfl,HM.out.1,(aa.nix (F:=SF g M) HF.out).next HM.out.2 λk hk=>hk.imp id λe=>by have:=WO.out;omega⟩
end Go.Proofs.YtaecjmiobllhmaaGreat
