/- Words. -/
import Derived.Test.YtaecjmiobllhmaaGreatGr20
set_option linter.unusedVariables false
set_option linter.unusedSimpArgs false
set_option maxRecDepth 100000
set_option maxHeartbeats 16000000
namespace Go.Proofs.YtaecjmiobllhmaaGreat
open Go.Value renaming int→I,string→V,pointer→O
open Go.IntKind renaming i64→J
open Tryz renaming prog→pQ
open Go.RowKit Go.Lib
variable {w wc:World}{v:Sl}{uu:Nat→Value}
section
section
variable {w0 w1 w2 w3:World} {g b:Nat} {M:Ms} {x:St} {a:Int}
theorem uE(x:St){i:Int}{f:aX}(h:kS aX.id i x.fees=some f)(p:aX→aX)(j:Int):bq {x with fees:=gK aX.id i p x.fees} j=(if j=(p f).inn then 1 else 0)+(bq x j-(if j=f.inn then 1 else 0)):=by
 unfold bq;simp only;rw[((uf p h).filter _).length_eq,((dU h).filter λf=>decide (f.inn=j)).length_eq,List.filter_cons,List.filter_cons]
 by_cases h1:j=(p f).inn<;>by_cases h2:j=f.inn<;>simp[h1,h2,eq_comm]<;>split<;>simp_all<;>omega
theorem yY(h0:aH w0 g M x){sl:Int→Sl}(qW:∀t∈x.itms,bF w0 (sl t.id) t.tags){t:aR}(hat:kS aR.id a x.itms=some t)(f:aR→aR)(hid:(f t).id=t.id)(zP:(f t).feed=t.feed)(TG:(f t).guid=t.guid){v':Sl}(hv':bF w2 v' (f t).tags)
  (m:aO pQ 3 w2 M.it ((kI a,iG v' (f t))::(cM aR.id a x.itms).map λt=>(kI t.id,iG (sl t.id) t))) (hf:aa (λk=>k=M.it∨k=b) w0 w2) (hb:¬SF g M b) (Lr:¬qp w0 b)
  (bO:gN {x with itms:=gK aR.id a f x.itms}):aH w2 g M {x with itms:=gK aR.id a f x.itms}∧aa (λk=>SF g M k∨k=b) w0 w2:=by
 obtain⟨⟨g1,g2,g3,g4,g5,g6,g7,g8⟩,⟨o1,o2,o3,o4,o5,o6,o7⟩,⟨e1,e2,e3,e4,e5,e6⟩,⟨i1,i2,i3,i4,i5⟩,⟨s1,s2,s3,s4⟩,⟨a1,a2,a3⟩,⟨p1,p2⟩,u1⟩:=h0.apart.ne;simp only[SF,not_or] at hb;obtain⟨b0,b1,b2,b3,b4,b5,b6,b7,b8⟩:=hb;have N3:t.id=a:=(gM hat).2;have hd:=dU hat
 have hne:∀y∈cM aR.id a x.itms,y.id≠a:=by
  rw[pq h0.ok.iR];intro y hy
  simpa using (List.mem_filter.1 hy).2
 have hp:=uf f hat
 have fS:aa (λk=>SF g M k∨k=b) w0 w2:=hf.mono λk hk=>by
  rcases hk with h|h
  ·exact .inl (by simp[SF,h])
  ·exact .inr h
 refine⟨⟨h0.blk.frm hf (by simp[g3,Ne.symm b0]),⟨?_,?_,⟨λi=>if i=a then v' else sl i,?_,λy hy=>?_⟩,?_,?_,?_,?_,?_⟩,h0.apart,bO⟩,fS⟩
 ·exact h0.maps.fo.frm hf (by simp[o2,Ne.symm b1])
 ·exact h0.maps.fe.frm hf (by simp[e1,Ne.symm b2])
 ·have hmap:((cM aR.id a x.itms).map λt=>(kI t.id,iG (sl t.id) t))=(cM aR.id a x.itms).map λt=>(kI t.id,iG (if t.id=a then v' else sl t.id) t):=List.map_congr_left λy hy=>by rw[if_neg (hne y hy)]
  rw[hmap] at m;have:=(hp.map λt:aR=>(kI t.id,iG (if t.id=a then v' else sl t.id) t)).symm;rw[List.map_cons,if_pos (hid.trans N3),hid,N3] at this;exact m.perm this
 ·rcases List.mem_cons.1 (hp.mem_iff.1 hy) with rfl|hy
  ·simp only[if_pos (hid.trans N3)]
   exact hv'
  ·simp only[if_neg (hne y hy)]
   exact(qW y (hd.mem_iff.2 (List.mem_cons_of_mem _ hy))).frm hf (λk hk e=>by
    rcases e with e|e
    ·exact h0.str k hk (by simp[SF,e])
    ·exact Lr (e ▸ hk))
 ·exact h0.maps.se.frm hf (by simp[i1.symm,Ne.symm b4])
 ·exact h0.maps.na.frm hf (by simp[i2.symm,Ne.symm b5])
 ·exact h0.maps.pl.frm hf (by simp[i3.symm,Ne.symm b6])
 ·have h1:=hp.map λt:aR=>(kP t.feed t.guid,kI t.id)
  rw[List.map_cons,hid,zP,TG] at h1;exact(h0.maps.gu.frm hf (by simp[i4.symm,Ne.symm b7])).perm ((hd.map λt:aR=>(kP t.feed t.guid,kI t.id)).trans h1.symm)
 ·exact h0.held.frm hf (by simp[i5.symm,Ne.symm b8])
theorem Eo(h0:aH w0 g M x){t:aX}(hat:kS aX.id a x.fees=some t)(f:aX→aX)(hid:(f t).id=t.id)(TH:(f t).url=t.url)
  (m:aO pQ 3 w2 M.fe ((kI a,kN (f t))::(cM aX.id a x.fees).map λt=>(kI t.id,kN t))) (hf:aa (λk=>k=M.fe∨k=M.he∨k=b) w0 w2) (hb:¬SF g M b) (Lr:¬qp w0 b)
  (hh:cF w2 M.he (bq {x with fees:=gK aX.id a f x.fees}))
  (bO:gN {x with fees:=gK aX.id a f x.fees}):aH w2 g M {x with fees:=gK aX.id a f x.fees}∧aa (λk=>SF g M k∨k=b) w0 w2:=by
 obtain⟨⟨g1,g2,g3,g4,g5,g6,g7,g8⟩,⟨o1,o2,o3,o4,o5,o6,o7⟩,⟨e1,e2,e3,e4,e5,e6⟩,⟨i1,i2,i3,i4,i5⟩,⟨s1,s2,s3,s4⟩,⟨a1,a2,a3⟩,⟨p1,p2⟩,u1⟩:=h0.apart.ne;simp only[SF,not_or] at hb;obtain⟨b0,b1,b2,b3,b4,b5,b6,b7,b8⟩:=hb;have N3:t.id=a:=(gM hat).2;have hd:=dU hat;have hp:=uf f hat
 have fS:aa (λk=>SF g M k∨k=b) w0 w2:=hf.mono λk hk=>by
  rcases hk with h|h|h
  ·exact .inl (by simp[SF,h])
  ·exact .inl (by simp[SF,h])
  ·exact .inr h
 obtain⟨sl,hi,ht⟩:=h0.maps.it;refine⟨⟨h0.blk.frm hf (by simp[g2,g8,Ne.symm b0]),⟨?_,?_,⟨sl,?_,λy hy=>(ht y hy).frm hf (λk hk e=>?_)⟩,?_,?_,?_,?_,hh⟩,h0.apart,bO⟩,fS⟩
 ·exact h0.maps.fo.frm hf (by simp[o1,o7,Ne.symm b1])
 ·have:=(hp.map λt:aX=>(kI t.id,kN t)).symm
  rw[List.map_cons,hid,N3] at this;exact m.perm this
 ·exact hi.frm hf (by simp[e1.symm,i5,Ne.symm b3])
 ·rcases e with e|e|e
  ·exact h0.str k hk (by simp[SF,e])
  ·exact h0.str k hk (by simp[SF,e])
  ·exact Lr (e ▸ hk)
 ·exact h0.maps.se.frm hf (by simp[e2.symm,s4,Ne.symm b4])
 ·exact h0.maps.na.frm hf (by simp[e3.symm,a3,Ne.symm b5])
 ·have h1:=hp.map λt:aX=>((V t.url:Value),kI t.id)
  rw[List.map_cons,hid,TH] at h1;exact(h0.maps.pl.frm hf (by simp[e4.symm,p2,Ne.symm b6])).perm ((hd.map λt:aX=>((V t.url:Value),kI t.id)).trans h1.symm)
 ·exact h0.maps.gu.frm hf (by simp[e5.symm,u1,Ne.symm b7])
theorem Fj(h0:aH w0 g M x){f:bh}(hat:kS bh.id a x.fols=some f)
  (m1:aO pQ 134 w1 M.na ((cM bh.id a x.fols).map λf=>(kP f.inn f.name,kI f.id))) (f1:aa (·=M.na) w0 w1)
  (m2:aO pQ 3 w2 M.fo ((cM bh.id a x.fols).map λf=>(kI f.id,nO f))) (f2:aa (·=M.fo) w1 w2)
  (hh:cF w3 M.he (λi=>if i=f.inn then bq x i+ -1 else bq x i)) (f3:aa (·=M.he) w2 w3)
  (bO:gN {x with fols:=cM bh.id a x.fols}):aH w3 g M {x with fols:=cM bh.id a x.fols}∧aa (SF g M) w0 w3:=by
 obtain⟨⟨g1,g2,g3,g4,g5,g6,g7,g8⟩,⟨o1,o2,o3,o4,o5,o6,o7⟩,⟨e1,e2,e3,e4,e5,e6⟩,⟨i1,i2,i3,i4,i5⟩,⟨s1,s2,s3,s4⟩,⟨a1,a2,a3⟩,⟨p1,p2⟩,u1⟩:=h0.apart.ne;have f13:aa (λk=>k=M.fo∨k=M.he) w1 w3:=(f2.mono λk hk=>.inl hk).trans (f3.mono λk hk=>.inr hk);have Fh:aa (λk=>k=M.na∨k=M.fo∨k=M.he) w0 w3:=(f1.mono λk hk=>.inl hk).trans (f13.mono λk hk=>.inr hk)
 have fS:aa (SF g M) w0 w3:=Fh.mono λk hk=>by
  unfold SF;rcases hk with h|h|h<;>simp[h]
 obtain⟨sl,hi,ht⟩:=h0.maps.it;refine⟨⟨h0.blk.frm Fh (by simp[g5,g1,g8]),⟨?_,?_,⟨sl,?_,λy hy=>(ht y hy).frm fS h0.str⟩,?_,?_,?_,?_,?_⟩,h0.apart,bO⟩,fS⟩
 ·exact m2.frm f3 o7
 ·exact h0.maps.fe.frm Fh (by simp[e3,o1.symm,e6])
 ·exact hi.frm Fh (by simp[i2,o2.symm,i5])
 ·exact h0.maps.se.frm Fh (by simp[s1,o3.symm,s4])
 ·exact m1.frm f13 (by simp[o4.symm,a3])
 ·exact h0.maps.pl.frm Fh (by simp[a1.symm,o5.symm,p2])
 ·exact h0.maps.gu.frm Fh (by simp[a2.symm,o6.symm,u1])
 ·exact hh.congr λi=>(Be x hat i).symm
theorem Dd(h0:aH w0 g M x)(m:aO pQ 3 w1 M.se ((cM ce.id a x.seas).map λf=>(kI f.id,nP f)))(f1:aa (·=M.se) w0 w1)
  (bO:gN {x with seas:=cM ce.id a x.seas}):aH w1 g M {x with seas:=cM ce.id a x.seas}∧aa (SF g M) w0 w1:=by
 obtain⟨⟨g1,g2,g3,g4,g5,g6,g7,g8⟩,⟨o1,o2,o3,o4,o5,o6,o7⟩,⟨e1,e2,e3,e4,e5,e6⟩,⟨i1,i2,i3,i4,i5⟩,⟨s1,s2,s3,s4⟩,⟨a1,a2,a3⟩,⟨p1,p2⟩,u1⟩:=h0.apart.ne
 have fS:aa (SF g M) w0 w1:=f1.mono λk hk=>by
  unfold SF;simp[hk]
 obtain⟨sl,hi,ht⟩:=h0.maps.it;exact⟨⟨h0.blk.frm f1 g4,⟨h0.maps.fo.frm f1 o3,h0.maps.fe.frm f1 e2,⟨sl,hi.frm f1 i1,λy hy=>(ht y hy).frm fS h0.str⟩,m,h0.maps.na.frm f1 s1.symm,h0.maps.pl.frm f1 s2.symm,h0.maps.gu.frm f1 s3.symm,h0.held.frm f1 s4.symm⟩,h0.apart,bO⟩,fS⟩
theorem Fk(h0:aH w0 g M x)(n:Int)(bO:gN {x with clock:=n}):aH (w0.setCell ⟨g,0,none⟩ (I J n)) g M {x with clock:=n}∧aa (SF g M) w0 (w0.setCell ⟨g,0,none⟩ (I J n)):=by
 obtain⟨⟨g1,g2,g3,g4,g5,g6,g7,g8⟩,-⟩:=h0.apart.ne;have f1:aa (·=g) w0 (w0.setCell ⟨g,0,none⟩ (I J n)):=(aa.refl (·=g) w0).setCell (.inl rfl) _
 have fS:aa (SF g M) w0 (w0.setCell ⟨g,0,none⟩ (I J n)):=f1.mono λk hk=>by
  unfold SF;simp[hk]
 obtain⟨sl,hi,ht⟩:=h0.maps.it;exact⟨⟨h0.blk.set_ 0 _,⟨h0.maps.fo.frm f1 g1.symm,h0.maps.fe.frm f1 g2.symm,⟨sl,hi.frm f1 g3.symm,λy hy=>(ht y hy).frm fS h0.str⟩,h0.maps.se.frm f1 g4.symm,h0.maps.na.frm f1 g5.symm,h0.maps.pl.frm f1 g6.symm,h0.maps.gu.frm f1 g7.symm,h0.held.frm f1 g8.symm⟩,h0.apart,bO⟩,fS⟩
end
def ij(g be bf bt:Nat)(e:Value)(uu:Nat→Value):Act:=⟨#[O (some ⟨g,0,none⟩),e,undef,O (some ⟨be,0,none⟩),.bool false,O (some ⟨bf,0,none⟩),O (some ⟨bt,0,none⟩),undef,uu 8,uu 9,uu 10,uu 11,uu 12,uu 13,uu 14,uu 15,uu 16,uu 17,uu 18,uu 19,uu 20,uu 21,uu 22,uu 23,uu 24,uu 25,undef,undef,undef,undef,undef,undef,undef,undef,undef,undef,undef,undef,undef,undef,undef,undef,undef,undef,undef,undef,undef,undef,undef,undef,undef,undef,undef,undef,undef,undef,undef,undef,undef,undef,undef,undef,undef,undef,undef,undef,undef,undef,undef,undef,undef,undef,undef,undef,undef,undef,undef,undef,undef,undef,undef,undef,undef,undef,undef,undef,undef,undef,undef,undef,undef,undef,undef,undef,undef,undef,undef,undef,undef,undef,undef,undef,undef,undef,undef,undef,undef,undef,undef,undef,undef,undef,undef,undef,undef,undef,undef,undef,undef,undef,undef,undef,undef,undef,undef,undef,undef,undef,undef,undef,undef,undef,undef,undef,undef,undef,undef,undef,undef,undef,undef,undef,undef,undef,undef,undef,undef,undef,undef,undef],[]⟩
end
theorem JN{g be bf bt:Nat}{M:Ms}{x:St}(hS:aH wc g M x)(hF:aa ag w wc)(a b n:Int)(s t u:ByteArray)(hB:aj wc be 42 #[I J 1,I J a,I J b,I J n,V s,V t,V u])(mq:aj wc bf 64 #[I J (au x a).id,I J (au x a).inn,V (au x a).url,V (au x a).title])(l7:aj wc bt 82 (nr v (ah x a)))(hv:bF wc v (ah x a).tags)(hlt:∀k,SF g M k→k<w.heap.size)(sH:w.heap.size≤be)(tO:w.heap.size≤bf)(hst:w.heap.size≤bt)(aL:aG x ⟨1,a,b,n,s,t,u⟩=true)(ha:bn a)(hb:bn b):
  Code.wp pQ (ai 3 (ae Tryz.f42)) (bodyPost pQ Tryz.f42 λr w'=>r=.returned (.bool true)∧aH w' g M (iu x ⟨1,a,b,n,s,t,u⟩)∧aa (SF g M) w w') (ij g be bf bt (.agg #[I J 1,I J a,I J b,I J n,V s,V t,V u]) uu) wc:=by
 unfold ij;obtain⟨d0,d1,d2,d3,d4,d5,d6⟩:=az hB;have KM:=h_ (Fd hS a b n s t u aL ha hb);have HF:=h_ hF;unfold bQ at KM;clear hS hF hB mq l7 hv hlt aL;simp only[ai,ae,Tryz.f42];go_wp2_with (go_at_call 90;refine KM.out.mono ?_;rintro r w1 ⟨rfl,h1,gI⟩);go_ret;exact⟨rfl,h1,(aa.nix HF.out).trans gI⟩
theorem JO{g be bf bt:Nat}{M:Ms}{x:St}(hS:aH wc g M x)(hF:aa ag w wc)(a b n:Int)(s t u:ByteArray)(hB:aj wc be 42 #[I J 3,I J a,I J b,I J n,V s,V t,V u])(mq:aj wc bf 64 #[I J (au x a).id,I J (au x a).inn,V (au x a).url,V (au x a).title])(l7:aj wc bt 82 (nr v (ah x a)))(hv:bF wc v (ah x a).tags)(hlt:∀k,SF g M k→k<w.heap.size)(sH:w.heap.size≤be)(tO:w.heap.size≤bf)(hst:w.heap.size≤bt)(aL:aG x ⟨3,a,b,n,s,t,u⟩=true)(ha:bn a)(hb:bn b):
  Code.wp pQ (ai 3 (ae Tryz.f42)) (bodyPost pQ Tryz.f42 λr w'=>r=.returned (.bool true)∧aH w' g M (iu x ⟨3,a,b,n,s,t,u⟩)∧aa (SF g M) w w') (ij g be bf bt (.agg #[I J 3,I J a,I J b,I J n,V s,V t,V u]) uu) wc:=by
 unfold ij;obtain⟨d0,d1,d2,d3,d4,d5,d6⟩:=az hB;have KM:=h_ (Ff hS a b n s t u aL ha hb);have HF:=h_ hF;unfold bQ at KM;clear hS hF hB mq l7 hv hlt aL;simp only[ai,ae,Tryz.f42];go_wp2_with (go_at_call 90;refine KM.out.mono ?_;rintro r w1 ⟨rfl,h1,gI⟩);go_ret;exact⟨rfl,h1,(aa.nix HF.out).trans gI⟩
theorem JP{g be bf bt:Nat}{M:Ms}{x:St}(hS:aH wc g M x)(hF:aa ag w wc)(a b n:Int)(s t u:ByteArray)(hB:aj wc be 42 #[I J 7,I J a,I J b,I J n,V s,V t,V u])(mq:aj wc bf 64 #[I J (au x a).id,I J (au x a).inn,V (au x a).url,V (au x a).title])(l7:aj wc bt 82 (nr v (ah x a)))(hv:bF wc v (ah x a).tags)(hlt:∀k,SF g M k→k<w.heap.size)(sH:w.heap.size≤be)(tO:w.heap.size≤bf)(hst:w.heap.size≤bt)(aL:aG x ⟨7,a,b,n,s,t,u⟩=true)(ha:bn a)(hb:bn b):
  Code.wp pQ (ai 3 (ae Tryz.f42)) (bodyPost pQ Tryz.f42 λr w'=>r=.returned (.bool true)∧aH w' g M (iu x ⟨7,a,b,n,s,t,u⟩)∧aa (SF g M) w w') (ij g be bf bt (.agg #[I J 7,I J a,I J b,I J n,V s,V t,V u]) uu) wc:=by
 unfold ij;obtain⟨d0,d1,d2,d3,d4,d5,d6⟩:=az hB;have KM:=h_ (Fg hS a b n s t u aL ha hb);have HF:=h_ hF;unfold bQ at KM;clear hS hF hB mq l7 hv hlt aL;simp only[ai,ae,Tryz.f42];go_wp2_with (go_at_call 90;refine KM.out.mono ?_;rintro r w1 ⟨rfl,h1,gI⟩);go_ret;exact⟨rfl,h1,(aa.nix HF.out).trans gI⟩
theorem Hl{g be bf bt:Nat}{M:Ms}{x:St}(hS:aH wc g M x)(hF:aa ag w wc)(a b n:Int)(s t u:ByteArray)(hB:aj wc be 42 #[I J 11,I J a,I J b,I J n,V s,V t,V u])(mq:aj wc bf 64 #[I J (au x a).id,I J (au x a).inn,V (au x a).url,V (au x a).title])(l7:aj wc bt 82 (nr v (ah x a)))(hv:bF wc v (ah x a).tags)(hlt:∀k,SF g M k→k<w.heap.size)(sH:w.heap.size≤be)(tO:w.heap.size≤bf)(hst:w.heap.size≤bt)(aL:aG x ⟨11,a,b,n,s,t,u⟩=true)(ha:bn a)(hb:bn b):
  Code.wp pQ (ai 3 (ae Tryz.f42)) (bodyPost pQ Tryz.f42 λr w'=>r=.returned (.bool true)∧aH w' g M (iu x ⟨11,a,b,n,s,t,u⟩)∧aa (SF g M) w w') (ij g be bf bt (.agg #[I J 11,I J a,I J b,I J n,V s,V t,V u]) uu) wc:=by
 unfold ij;obtain⟨d0,d1,d2,d3,d4,d5,d6⟩:=az hB;have KM:=h_ (Da hS a b n s t u aL ha hb);have HF:=h_ hF;unfold bQ at KM;clear hS hF hB mq l7 hv hlt aL;simp only[ai,ae,Tryz.f42];go_wp2_with (go_at_call 90;refine KM.out.mono ?_;rintro r w1 ⟨rfl,h1,gI⟩);go_ret;exact⟨rfl,h1,(aa.nix HF.out).trans gI⟩
theorem JQ{g be bf bt:Nat}{M:Ms}{x:St}(hS:aH wc g M x)(hF:aa ag w wc)(a b n:Int)(s t u:ByteArray)(hB:aj wc be 42 #[I J 4,I J a,I J b,I J n,V s,V t,V u])(mq:aj wc bf 64 #[I J (au x a).id,I J (au x a).inn,V (au x a).url,V (au x a).title])(l7:aj wc bt 82 (nr v (ah x a)))(hv:bF wc v (ah x a).tags)(hlt:∀k,SF g M k→k<w.heap.size)(sH:w.heap.size≤be)(tO:w.heap.size≤bf)(hst:w.heap.size≤bt)(aL:aG x ⟨4,a,b,n,s,t,u⟩=true)(ha:bn a)(hb:bn b):
  Code.wp pQ (ai 3 (ae Tryz.f42)) (bodyPost pQ Tryz.f42 λr w'=>r=.returned (.bool true)∧aH w' g M (iu x ⟨4,a,b,n,s,t,u⟩)∧aa (SF g M) w w') (ij g be bf bt (.agg #[I J 4,I J a,I J b,I J n,V s,V t,V u]) uu) wc:=by
 unfold ij;obtain⟨d0,d1,d2,d3,d4,d5,d6⟩:=az hB;have he:=cg aL;obtain⟨f,uV,nB⟩:=(GZ (x:=x) (.inl rfl) he).1 aL;simp only at nB;have hat:=kU hS.ok.eR uV nB;have Bk:au x a=f:=by unfold au;rw[hat];rfl
 have bO:=lg hS.ok aL;rw[P8 rfl] at bO ⊢;simp only at bO ⊢;rw[←nB] at hat bO ⊢;have KM:=h_ (Dc hS hat bO);have HF:=h_ hF;rw[Bk] at mq;unfold kN at KM;have x0:=mq.cell 0;have x1:=mq.cell 1;have x2:=mq.cell 2;have x3:=mq.cell 3;simp at x0 x1 x2 x3;clear hS hF hB mq l7 hv hlt aL bO Bk hat nB uV;simp only[ai,ae,Tryz.f42];go_wp2_with (go_at_call 88;refine KM.out.mono ?_;rintro r w1 ⟨rfl,h1,gI⟩);go_ret;exact⟨rfl,h1,(aa.nix HF.out).trans gI⟩
theorem Hm{g be bf bt:Nat}{M:Ms}{x:St}(hS:aH wc g M x)(hF:aa ag w wc)(a b n:Int)(s t u:ByteArray)(hB:aj wc be 42 #[I J 13,I J a,I J b,I J n,V s,V t,V u])(mq:aj wc bf 64 #[I J (au x a).id,I J (au x a).inn,V (au x a).url,V (au x a).title])(l7:aj wc bt 82 (nr v (ah x a)))(hv:bF wc v (ah x a).tags)(hlt:∀k,SF g M k→k<w.heap.size)(sH:w.heap.size≤be)(tO:w.heap.size≤bf)(hst:w.heap.size≤bt)(aL:aG x ⟨13,a,b,n,s,t,u⟩=true)(ha:bn a)(hb:bn b):
  Code.wp pQ (ai 3 (ae Tryz.f42)) (bodyPost pQ Tryz.f42 λr w'=>r=.returned (.bool true)∧aH w' g M (iu x ⟨13,a,b,n,s,t,u⟩)∧aa (SF g M) w w') (ij g be bf bt (.agg #[I J 13,I J a,I J b,I J n,V s,V t,V u]) uu) wc:=by
 unfold ij;obtain⟨d0,d1,d2,d3,d4,d5,d6⟩:=az hB;have bO:=lg hS.ok aL;rw[NR rfl] at bO ⊢;obtain⟨c0,-⟩:=hS.cells;have fz:=hS.blk.frozen 0;have HM:=h_ (Fk hS n bO);have HF:=h_ hF;clear hS hF hB mq l7 hv hlt aL bO;simp only[ai,ae,Tryz.f42];go_wp2;go_ret;exact⟨rfl,HM.out.1,(aa.nix HF.out).trans HM.out.2⟩
end Go.Proofs.YtaecjmiobllhmaaGreat
