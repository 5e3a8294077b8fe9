/- Words. -/
import Derived.Test.YtaecjmiobllhmaaGreatGq20
set_option linter.unusedVariables false
set_option linter.unusedSimpArgs false
set_option maxRecDepth 100000
set_option maxHeartbeats 16000000
namespace Go.Proofs.YtaecjmiobllhmaaGreat
open Go.Value renaming int→I,string→V,pointer→O
open Go.IntKind renaming i64→J
open Tryz renaming prog→pQ
open Go.RowKit Go.Lib
variable {w wc:World}{v:Sl}{uu:Nat→Value}
section
section
variable {w0 w1 w2 w3:World} {g b:Nat} {M:Ms} {x:St} {a:Int}
theorem uD(x:St){i:Int}{f:aP}(h:eV aP.id i x.fees=some f)(p:aP→aP)(j:Int):bv {x with fees:=gM aP.id i p x.fees} j=(if j=(p f).inn then 1 else 0)+(bv x j-(if j=f.inn then 1 else 0)):=by
 unfold bv;simp only;rw[((ub p h).filter _).length_eq,((eD h).filter λf=>decide (f.inn=j)).length_eq,List.filter_cons,List.filter_cons]
 by_cases h1:j=(p f).inn<;>by_cases h2:j=f.inn<;>simp[h1,h2,eq_comm]<;>split<;>simp_all<;>omega
theorem zm(h0:aw w0 g M x){sl:Int→Sl}(sf:∀t∈x.itms,cI w0 (sl t.id) t.tags){t:aJ}(hat:eV aJ.id a x.itms=some t)(f:aJ→aJ)(hid:(f t).id=t.id)(zQ:(f t).feed=t.feed)(WF:(f t).guid=t.guid){v':Sl}(hv':cI w2 v' (f t).tags)
  (m:aV pQ 3 w2 M.it ((kI a,jm v' (f t))::(dZ aJ.id a x.itms).map λt=>(kI t.id,jm (sl t.id) t))) (hf:aa (λk=>k=M.it∨k=b) w0 w2) (hb:¬SF g M b) (PJ:¬qb w0 b)
  (je:di {x with itms:=gM aJ.id a f x.itms}):aw w2 g M {x with itms:=gM aJ.id a f x.itms}∧aa (λk=>SF g M k∨k=b) w0 w2:=by
 obtain⟨⟨g1,g2,g3,g4,g5,g6,g7,g8⟩,⟨o1,o2,o3,o4,o5,o6,o7⟩,⟨e1,e2,e3,e4,e5,e6⟩,⟨i1,i2,i3,i4,i5⟩,⟨s1,s2,s3,s4⟩,⟨a1,a2,a3⟩,⟨p1,p2⟩,u1⟩:=h0.apart.ne;simp only[SF,not_or] at hb;obtain⟨b0,b1,b2,b3,b4,b5,b6,b7,b8⟩:=hb;have PK:t.id=a:=(dG hat).2;have hd:=eD hat
 have hne:∀y∈dZ aJ.id a x.itms,y.id≠a:=by
  rw[mN h0.ok.iR];intro y hy
  simpa using (List.mem_filter.1 hy).2
 have hp:=ub f hat
 have fS:aa (λk=>SF g M k∨k=b) w0 w2:=hf.mono λk hk=>by
  rcases hk with h|h
  ·exact .inl (by simp[SF,h])
  ·exact .inr h
 refine⟨⟨h0.blk.frm hf (by simp[g3,Ne.symm b0]),⟨?_,?_,⟨λi=>if i=a then v' else sl i,?_,λy hy=>?_⟩,?_,?_,?_,?_,?_⟩,h0.apart,je⟩,fS⟩
 ·exact h0.maps.fo.frm hf (by simp[o2,Ne.symm b1])
 ·exact h0.maps.fe.frm hf (by simp[e1,Ne.symm b2])
 ·have hmap:((dZ aJ.id a x.itms).map λt=>(kI t.id,jm (sl t.id) t))=(dZ aJ.id a x.itms).map λt=>(kI t.id,jm (if t.id=a then v' else sl t.id) t):=List.map_congr_left λy hy=>by rw[if_neg (hne y hy)]
  rw[hmap] at m;have:=(hp.map λt:aJ=>(kI t.id,jm (if t.id=a then v' else sl t.id) t)).symm;rw[List.map_cons,if_pos (hid.trans PK),hid,PK] at this;exact m.perm this
 ·rcases List.mem_cons.1 (hp.mem_iff.1 hy) with rfl|hy
  ·simp only[if_pos (hid.trans PK)]
   exact hv'
  ·simp only[if_neg (hne y hy)]
   exact(sf y (hd.mem_iff.2 (List.mem_cons_of_mem _ hy))).frm hf (λk hk e=>by
    rcases e with e|e
    ·exact h0.str k hk (by simp[SF,e])
    ·exact PJ (e ▸ hk))
 ·exact h0.maps.se.frm hf (by simp[i1.symm,Ne.symm b4])
 ·exact h0.maps.na.frm hf (by simp[i2.symm,Ne.symm b5])
 ·exact h0.maps.pl.frm hf (by simp[i3.symm,Ne.symm b6])
 ·have h1:=hp.map λt:aJ=>(kP t.feed t.guid,kI t.id)
  rw[List.map_cons,hid,zQ,WF] at h1;exact(h0.maps.gu.frm hf (by simp[i4.symm,Ne.symm b7])).perm ((hd.map λt:aJ=>(kP t.feed t.guid,kI t.id)).trans h1.symm)
 ·exact h0.held.frm hf (by simp[i5.symm,Ne.symm b8])
theorem E5(h0:aw w0 g M x){t:aP}(hat:eV aP.id a x.fees=some t)(f:aP→aP)(hid:(f t).id=t.id)(WG:(f t).url=t.url)
  (m:aV pQ 3 w2 M.fe ((kI a,lp (f t))::(dZ aP.id a x.fees).map λt=>(kI t.id,lp t))) (hf:aa (λk=>k=M.fe∨k=M.he∨k=b) w0 w2) (hb:¬SF g M b) (PJ:¬qb w0 b)
  (hh:d8 w2 M.he (bv {x with fees:=gM aP.id a f x.fees}))
  (je:di {x with fees:=gM aP.id a f x.fees}):aw w2 g M {x with fees:=gM aP.id a f x.fees}∧aa (λk=>SF g M k∨k=b) w0 w2:=by
 obtain⟨⟨g1,g2,g3,g4,g5,g6,g7,g8⟩,⟨o1,o2,o3,o4,o5,o6,o7⟩,⟨e1,e2,e3,e4,e5,e6⟩,⟨i1,i2,i3,i4,i5⟩,⟨s1,s2,s3,s4⟩,⟨a1,a2,a3⟩,⟨p1,p2⟩,u1⟩:=h0.apart.ne;simp only[SF,not_or] at hb;obtain⟨b0,b1,b2,b3,b4,b5,b6,b7,b8⟩:=hb;have PK:t.id=a:=(dG hat).2;have hd:=eD hat;have hp:=ub f hat
 have fS:aa (λk=>SF g M k∨k=b) w0 w2:=hf.mono λk hk=>by
  rcases hk with h|h|h
  ·exact .inl (by simp[SF,h])
  ·exact .inl (by simp[SF,h])
  ·exact .inr h
 obtain⟨sl,hi,ht⟩:=h0.maps.it;refine⟨⟨h0.blk.frm hf (by simp[g2,g8,Ne.symm b0]),⟨?_,?_,⟨sl,?_,λy hy=>(ht y hy).frm hf (λk hk e=>?_)⟩,?_,?_,?_,?_,hh⟩,h0.apart,je⟩,fS⟩
 ·exact h0.maps.fo.frm hf (by simp[o1,o7,Ne.symm b1])
 ·have:=(hp.map λt:aP=>(kI t.id,lp t)).symm
  rw[List.map_cons,hid,PK] at this;exact m.perm this
 ·exact hi.frm hf (by simp[e1.symm,i5,Ne.symm b3])
 ·rcases e with e|e|e
  ·exact h0.str k hk (by simp[SF,e])
  ·exact h0.str k hk (by simp[SF,e])
  ·exact PJ (e ▸ hk)
 ·exact h0.maps.se.frm hf (by simp[e2.symm,s4,Ne.symm b4])
 ·exact h0.maps.na.frm hf (by simp[e3.symm,a3,Ne.symm b5])
 ·have h1:=hp.map λt:aP=>((V t.url:Value),kI t.id)
  rw[List.map_cons,hid,WG] at h1;exact(h0.maps.pl.frm hf (by simp[e4.symm,p2,Ne.symm b6])).perm ((hd.map λt:aP=>((V t.url:Value),kI t.id)).trans h1.symm)
 ·exact h0.maps.gu.frm hf (by simp[e5.symm,u1,Ne.symm b7])
theorem Gm(h0:aw w0 g M x){f:bg}(hat:eV bg.id a x.fols=some f)
  (m1:aV pQ 134 w1 M.na ((dZ bg.id a x.fols).map λf=>(kP f.inn f.name,kI f.id))) (f1:aa (·=M.na) w0 w1)
  (m2:aV pQ 3 w2 M.fo ((dZ bg.id a x.fols).map λf=>(kI f.id,oh f))) (f2:aa (·=M.fo) w1 w2)
  (hh:d8 w3 M.he (λi=>if i=f.inn then bv x i+ -1 else bv x i)) (f3:aa (·=M.he) w2 w3)
  (je:di {x with fols:=dZ bg.id a x.fols}):aw w3 g M {x with fols:=dZ bg.id a x.fols}∧aa (SF g M) w0 w3:=by
 obtain⟨⟨g1,g2,g3,g4,g5,g6,g7,g8⟩,⟨o1,o2,o3,o4,o5,o6,o7⟩,⟨e1,e2,e3,e4,e5,e6⟩,⟨i1,i2,i3,i4,i5⟩,⟨s1,s2,s3,s4⟩,⟨a1,a2,a3⟩,⟨p1,p2⟩,u1⟩:=h0.apart.ne;have f13:aa (λk=>k=M.fo∨k=M.he) w1 w3:=(f2.mono λk hk=>.inl hk).trans (f3.mono λk hk=>.inr hk);have Gk:aa (λk=>k=M.na∨k=M.fo∨k=M.he) w0 w3:=(f1.mono λk hk=>.inl hk).trans (f13.mono λk hk=>.inr hk)
 have fS:aa (SF g M) w0 w3:=Gk.mono λk hk=>by
  unfold SF;rcases hk with h|h|h<;>simp[h]
 obtain⟨sl,hi,ht⟩:=h0.maps.it;refine⟨⟨h0.blk.frm Gk (by simp[g5,g1,g8]),⟨?_,?_,⟨sl,?_,λy hy=>(ht y hy).frm fS h0.str⟩,?_,?_,?_,?_,?_⟩,h0.apart,je⟩,fS⟩
 ·exact m2.frm f3 o7
 ·exact h0.maps.fe.frm Gk (by simp[e3,o1.symm,e6])
 ·exact hi.frm Gk (by simp[i2,o2.symm,i5])
 ·exact h0.maps.se.frm Gk (by simp[s1,o3.symm,s4])
 ·exact m1.frm f13 (by simp[o4.symm,a3])
 ·exact h0.maps.pl.frm Gk (by simp[a1.symm,o5.symm,p2])
 ·exact h0.maps.gu.frm Gk (by simp[a2.symm,o6.symm,u1])
 ·exact hh.congr λi=>(Bl x hat i).symm
theorem Dy(h0:aw w0 g M x)(m:aV pQ 3 w1 M.se ((dZ dE.id a x.seas).map λf=>(kI f.id,om f)))(f1:aa (·=M.se) w0 w1)
  (je:di {x with seas:=dZ dE.id a x.seas}):aw w1 g M {x with seas:=dZ dE.id a x.seas}∧aa (SF g M) w0 w1:=by
 obtain⟨⟨g1,g2,g3,g4,g5,g6,g7,g8⟩,⟨o1,o2,o3,o4,o5,o6,o7⟩,⟨e1,e2,e3,e4,e5,e6⟩,⟨i1,i2,i3,i4,i5⟩,⟨s1,s2,s3,s4⟩,⟨a1,a2,a3⟩,⟨p1,p2⟩,u1⟩:=h0.apart.ne
 have fS:aa (SF g M) w0 w1:=f1.mono λk hk=>by
  unfold SF;simp[hk]
 obtain⟨sl,hi,ht⟩:=h0.maps.it;exact⟨⟨h0.blk.frm f1 g4,⟨h0.maps.fo.frm f1 o3,h0.maps.fe.frm f1 e2,⟨sl,hi.frm f1 i1,λy hy=>(ht y hy).frm fS h0.str⟩,m,h0.maps.na.frm f1 s1.symm,h0.maps.pl.frm f1 s2.symm,h0.maps.gu.frm f1 s3.symm,h0.held.frm f1 s4.symm⟩,h0.apart,je⟩,fS⟩
theorem Gn(h0:aw w0 g M x)(n:Int)(je:di {x with clock:=n}):aw (w0.setCell ⟨g,0,none⟩ (I J n)) g M {x with clock:=n}∧aa (SF g M) w0 (w0.setCell ⟨g,0,none⟩ (I J n)):=by
 obtain⟨⟨g1,g2,g3,g4,g5,g6,g7,g8⟩,-⟩:=h0.apart.ne;have f1:aa (·=g) w0 (w0.setCell ⟨g,0,none⟩ (I J n)):=(aa.refl (·=g) w0).setCell (.inl rfl) _
 have fS:aa (SF g M) w0 (w0.setCell ⟨g,0,none⟩ (I J n)):=f1.mono λk hk=>by
  unfold SF;simp[hk]
 obtain⟨sl,hi,ht⟩:=h0.maps.it;exact⟨⟨h0.blk.set_ 0 _,⟨h0.maps.fo.frm f1 g1.symm,h0.maps.fe.frm f1 g2.symm,⟨sl,hi.frm f1 g3.symm,λy hy=>(ht y hy).frm fS h0.str⟩,h0.maps.se.frm f1 g4.symm,h0.maps.na.frm f1 g5.symm,h0.maps.pl.frm f1 g6.symm,h0.maps.gu.frm f1 g7.symm,h0.held.frm f1 g8.symm⟩,h0.apart,je⟩,fS⟩
end
def iP(g be bf bt:Nat)(e:Value)(uu:Nat→Value):Act:=⟨#[O (some ⟨g,0,none⟩),e,undef,O (some ⟨be,0,none⟩),.bool false,O (some ⟨bf,0,none⟩),O (some ⟨bt,0,none⟩),undef,uu 8,uu 9,uu 10,uu 11,uu 12,uu 13,uu 14,uu 15,uu 16,uu 17,uu 18,uu 19,uu 20,uu 21,uu 22,uu 23,uu 24,uu 25,undef,undef,undef,undef,undef,undef,undef,undef,undef,undef,undef,undef,undef,undef,undef,undef,undef,undef,undef,undef,undef,undef,undef,undef,undef,undef,undef,undef,undef,undef,undef,undef,undef,undef,undef,undef,undef,undef,undef,undef,undef,undef,undef,undef,undef,undef,undef,undef,undef,undef,undef,undef,undef,undef,undef,undef,undef,undef,undef,undef,undef,undef,undef,undef,undef,undef,undef,undef,undef,undef,undef,undef,undef,undef,undef,undef,undef,undef,undef,undef,undef,undef,undef,undef,undef,undef,undef,undef,undef,undef,undef,undef,undef,undef,undef,undef,undef,undef,undef,undef,undef,undef,undef,undef,undef,undef,undef,undef,undef,undef,undef,undef,undef,undef,undef,undef,undef,undef,undef,undef,undef,undef,undef,undef],[]⟩
end
theorem K7{g be bf bt:Nat}{M:Ms}{x:St}(hS:aw wc g M x)(hF:aa ac w wc)(a b n:Int)(s t u:ByteArray)(hB:ai wc be 42 #[I J 1,I J a,I J b,I J n,V s,V t,V u])(mC:ai wc bf 64 #[I J (ar x a).id,I J (ar x a).inn,V (ar x a).url,V (ar x a).title])(l8:ai wc bt 82 (nj v (ag x a)))(hv:cI wc v (ag x a).tags)(hlt:∀k,SF g M k→k<w.heap.size)(mU:w.heap.size≤be)(tK:w.heap.size≤bf)(hst:w.heap.size≤bt)(aR:av x ⟨1,a,b,n,s,t,u⟩=true)(ha:bj a)(hb:bj b):
  Code.wp pQ (aj 3 (ae Tryz.f42)) (bodyPost pQ Tryz.f42 λr w'=>r=.returned (.bool true)∧aw w' g M (iB x ⟨1,a,b,n,s,t,u⟩)∧aa (SF g M) w w') (iP g be bf bt (.agg #[I J 1,I J a,I J b,I J n,V s,V t,V u]) uu) wc:=by
 unfold iP;obtain⟨d0,d1,d2,d3,d4,d5,d6⟩:=ap hB;have KM:=h_ (Gf hS a b n s t u aR ha hb);have HF:=h_ hF;unfold dt at KM;clear hS hF hB mC l8 hv hlt aR;simp only[aj,ae,Tryz.f42];go_wp2_with (go_at_call 90;refine KM.out.mono ?_;rintro r w1 ⟨rfl,h1,jg⟩);go_ret;exact⟨rfl,h1,(aa.nix HF.out).trans jg⟩
theorem K8{g be bf bt:Nat}{M:Ms}{x:St}(hS:aw wc g M x)(hF:aa ac w wc)(a b n:Int)(s t u:ByteArray)(hB:ai wc be 42 #[I J 3,I J a,I J b,I J n,V s,V t,V u])(mC:ai wc bf 64 #[I J (ar x a).id,I J (ar x a).inn,V (ar x a).url,V (ar x a).title])(l8:ai wc bt 82 (nj v (ag x a)))(hv:cI wc v (ag x a).tags)(hlt:∀k,SF g M k→k<w.heap.size)(mU:w.heap.size≤be)(tK:w.heap.size≤bf)(hst:w.heap.size≤bt)(aR:av x ⟨3,a,b,n,s,t,u⟩=true)(ha:bj a)(hb:bj b):
  Code.wp pQ (aj 3 (ae Tryz.f42)) (bodyPost pQ Tryz.f42 λr w'=>r=.returned (.bool true)∧aw w' g M (iB x ⟨3,a,b,n,s,t,u⟩)∧aa (SF g M) w w') (iP g be bf bt (.agg #[I J 3,I J a,I J b,I J n,V s,V t,V u]) uu) wc:=by
 unfold iP;obtain⟨d0,d1,d2,d3,d4,d5,d6⟩:=ap hB;have KM:=h_ (Gh hS a b n s t u aR ha hb);have HF:=h_ hF;unfold dt at KM;clear hS hF hB mC l8 hv hlt aR;simp only[aj,ae,Tryz.f42];go_wp2_with (go_at_call 90;refine KM.out.mono ?_;rintro r w1 ⟨rfl,h1,jg⟩);go_ret;exact⟨rfl,h1,(aa.nix HF.out).trans jg⟩
theorem K9{g be bf bt:Nat}{M:Ms}{x:St}(hS:aw wc g M x)(hF:aa ac w wc)(a b n:Int)(s t u:ByteArray)(hB:ai wc be 42 #[I J 7,I J a,I J b,I J n,V s,V t,V u])(mC:ai wc bf 64 #[I J (ar x a).id,I J (ar x a).inn,V (ar x a).url,V (ar x a).title])(l8:ai wc bt 82 (nj v (ag x a)))(hv:cI wc v (ag x a).tags)(hlt:∀k,SF g M k→k<w.heap.size)(mU:w.heap.size≤be)(tK:w.heap.size≤bf)(hst:w.heap.size≤bt)(aR:av x ⟨7,a,b,n,s,t,u⟩=true)(ha:bj a)(hb:bj b):
  Code.wp pQ (aj 3 (ae Tryz.f42)) (bodyPost pQ Tryz.f42 λr w'=>r=.returned (.bool true)∧aw w' g M (iB x ⟨7,a,b,n,s,t,u⟩)∧aa (SF g M) w w') (iP g be bf bt (.agg #[I J 7,I J a,I J b,I J n,V s,V t,V u]) uu) wc:=by
 unfold iP;obtain⟨d0,d1,d2,d3,d4,d5,d6⟩:=ap hB;have KM:=h_ (Gi hS a b n s t u aR ha hb);have HF:=h_ hF;unfold dt at KM;clear hS hF hB mC l8 hv hlt aR;simp only[aj,ae,Tryz.f42];go_wp2_with (go_at_call 90;refine KM.out.mono ?_;rintro r w1 ⟨rfl,h1,jg⟩);go_ret;exact⟨rfl,h1,(aa.nix HF.out).trans jg⟩
theorem IG{g be bf bt:Nat}{M:Ms}{x:St}(hS:aw wc g M x)(hF:aa ac w wc)(a b n:Int)(s t u:ByteArray)(hB:ai wc be 42 #[I J 11,I J a,I J b,I J n,V s,V t,V u])(mC:ai wc bf 64 #[I J (ar x a).id,I J (ar x a).inn,V (ar x a).url,V (ar x a).title])(l8:ai wc bt 82 (nj v (ag x a)))(hv:cI wc v (ag x a).tags)(hlt:∀k,SF g M k→k<w.heap.size)(mU:w.heap.size≤be)(tK:w.heap.size≤bf)(hst:w.heap.size≤bt)(aR:av x ⟨11,a,b,n,s,t,u⟩=true)(ha:bj a)(hb:bj b):
  Code.wp pQ (aj 3 (ae Tryz.f42)) (bodyPost pQ Tryz.f42 λr w'=>r=.returned (.bool true)∧aw w' g M (iB x ⟨11,a,b,n,s,t,u⟩)∧aa (SF g M) w w') (iP g be bf bt (.agg #[I J 11,I J a,I J b,I J n,V s,V t,V u]) uu) wc:=by
 unfold iP;obtain⟨d0,d1,d2,d3,d4,d5,d6⟩:=ap hB;have KM:=h_ (Du hS a b n s t u aR ha hb);have HF:=h_ hF;unfold dt at KM;clear hS hF hB mC l8 hv hlt aR;simp only[aj,ae,Tryz.f42];go_wp2_with (go_at_call 90;refine KM.out.mono ?_;rintro r w1 ⟨rfl,h1,jg⟩);go_ret;exact⟨rfl,h1,(aa.nix HF.out).trans jg⟩
theorem La{g be bf bt:Nat}{M:Ms}{x:St}(hS:aw wc g M x)(hF:aa ac w wc)(a b n:Int)(s t u:ByteArray)(hB:ai wc be 42 #[I J 4,I J a,I J b,I J n,V s,V t,V u])(mC:ai wc bf 64 #[I J (ar x a).id,I J (ar x a).inn,V (ar x a).url,V (ar x a).title])(l8:ai wc bt 82 (nj v (ag x a)))(hv:cI wc v (ag x a).tags)(hlt:∀k,SF g M k→k<w.heap.size)(mU:w.heap.size≤be)(tK:w.heap.size≤bf)(hst:w.heap.size≤bt)(aR:av x ⟨4,a,b,n,s,t,u⟩=true)(ha:bj a)(hb:bj b):
  Code.wp pQ (aj 3 (ae Tryz.f42)) (bodyPost pQ Tryz.f42 λr w'=>r=.returned (.bool true)∧aw w' g M (iB x ⟨4,a,b,n,s,t,u⟩)∧aa (SF g M) w w') (iP g be bf bt (.agg #[I J 4,I J a,I J b,I J n,V s,V t,V u]) uu) wc:=by
 unfold iP;obtain⟨d0,d1,d2,d3,d4,d5,d6⟩:=ap hB;have he:=dx aR;obtain⟨f,xe,nz⟩:=(yV (x:=x) (.inl rfl) he).1 aR;simp only at nz;have hat:=jl hS.ok.eR xe nz;have Bu:ar x a=f:=by unfold ar;rw[hat];rfl
 have je:=lf hS.ok aR;rw[Re rfl] at je ⊢;simp only at je ⊢;rw[←nz] at hat je ⊢;have KM:=h_ (Dx hS hat je);have HF:=h_ hF;rw[Bu] at mC;unfold lp at KM;have x0:=mC.cell 0;have x1:=mC.cell 1;have x2:=mC.cell 2;have x3:=mC.cell 3;simp at x0 x1 x2 x3;clear hS hF hB mC l8 hv hlt aR je Bu hat nz xe;simp only[aj,ae,Tryz.f42];go_wp2_with (go_at_call 88;refine KM.out.mono ?_;rintro r w1 ⟨rfl,h1,jg⟩);go_ret;exact⟨rfl,h1,(aa.nix HF.out).trans jg⟩
theorem IH{g be bf bt:Nat}{M:Ms}{x:St}(hS:aw wc g M x)(hF:aa ac w wc)(a b n:Int)(s t u:ByteArray)(hB:ai wc be 42 #[I J 13,I J a,I J b,I J n,V s,V t,V u])(mC:ai wc bf 64 #[I J (ar x a).id,I J (ar x a).inn,V (ar x a).url,V (ar x a).title])(l8:ai wc bt 82 (nj v (ag x a)))(hv:cI wc v (ag x a).tags)(hlt:∀k,SF g M k→k<w.heap.size)(mU:w.heap.size≤be)(tK:w.heap.size≤bf)(hst:w.heap.size≤bt)(aR:av x ⟨13,a,b,n,s,t,u⟩=true)(ha:bj a)(hb:bj b):
  Code.wp pQ (aj 3 (ae Tryz.f42)) (bodyPost pQ Tryz.f42 λr w'=>r=.returned (.bool true)∧aw w' g M (iB x ⟨13,a,b,n,s,t,u⟩)∧aa (SF g M) w w') (iP g be bf bt (.agg #[I J 13,I J a,I J b,I J n,V s,V t,V u]) uu) wc:=by
 unfold iP;obtain⟨d0,d1,d2,d3,d4,d5,d6⟩:=ap hB;have je:=lf hS.ok aR;rw[M6 rfl] at je ⊢;obtain⟨c0,-⟩:=hS.cells;have fz:=hS.blk.frozen 0;have HM:=h_ (Gn hS n je);have HF:=h_ hF;clear hS hF hB mC l8 hv hlt aR je;simp only[aj,ae,Tryz.f42];go_wp2;go_ret;exact⟨rfl,HM.out.1,(aa.nix HF.out).trans HM.out.2⟩
end Go.Proofs.YtaecjmiobllhmaaGreat
