/- Words. -/
import Derived.Test.YtaecjmiobllhmaaGreatGp20
import Derived.Test.YtaecjmiobllhmaaGreatGp19
import Derived.StillTailTactics
import Derived.Deep.RegionHeld3
set_option linter.unusedVariables false
set_option linter.unusedSimpArgs false
set_option maxRecDepth 100000
set_option maxHeartbeats 16000000
namespace Go.Proofs.YtaecjmiobllhmaaGreat
open Go.RowKit Go.Lib
section
section
variable {w0 w1 w2 w3:World} {g b:Nat} {M:Ms} {x:St} {a:Int}
theorem held_updFee(x:St){i:Int}{f:Fee}(h:atI Fee.id i x.fees=some f)(p:Fee→Fee)(j:Int):heldS {x with fees:=updI Fee.id i p x.fees} j=(if j=(p f).inn then 1 else 0)+(heldS x j - (if j=f.inn then 1 else 0)):=by
 unfold heldS;simp only;rw[((updI_perm p h).filter _).length_eq,((delI_perm h).filter λf=>decide (f.inn=j)).length_eq,List.filter_cons,List.filter_cons]
 by_cases h1:j=(p f).inn<;>by_cases h2:j=f.inn<;>simp[h1,h2,eq_comm]<;>split<;>simp_all<;>omega
theorem itm_mem(h0:StAt w0 g M x){sl:Int→Sl}(htg:∀t∈x.itms,TagsIn w0 (sl t.id) t.tags){t:Itm}(hat:atI Itm.id a x.itms=some t)(f:Itm→Itm)(hid:(f t).id=t.id)(hfe:(f t).feed=t.feed)(hgu:(f t).guid=t.guid){v':Sl}(hv':TagsIn w2 v' (f t).tags)
  (m:MapIs Tryz.prog 3 w2 M.it ((kI a,itmV v' (f t))::(delI Itm.id a x.itms).map λt=>(kI t.id,itmV (sl t.id) t))) (hf:Frm (λk=>k=M.it∨k=b) w0 w2) (hb:¬SF g M b) (hbs:¬StrB w0 b)
  (hok:StP {x with itms:=updI Itm.id a f x.itms}):StAt w2 g M {x with itms:=updI Itm.id a f x.itms}∧Frm (λk=>SF g M k∨k=b) w0 w2:=by
 obtain⟨⟨g1,g2,g3,g4,g5,g6,g7,g8⟩,⟨o1,o2,o3,o4,o5,o6,o7⟩,⟨e1,e2,e3,e4,e5,e6⟩,⟨i1,i2,i3,i4,i5⟩,⟨s1,s2,s3,s4⟩,⟨a1,a2,a3⟩,⟨p1,p2⟩,u1⟩:=h0.apart.ne;simp only[SF,not_or] at hb;obtain⟨b0,b1,b2,b3,b4,b5,b6,b7,b8⟩:=hb;have hta:t.id=a:=(atI_mem hat).2;have hd:=delI_perm hat
 have hne:∀y∈delI Itm.id a x.itms,y.id≠a:=by
  rw[delI_filter h0.ok.iR];intro y hy
  simpa using (List.mem_filter.1 hy).2
 have hp:=updI_perm f hat
 have fS:Frm (λk=>SF g M k∨k=b) w0 w2:=hf.mono λk hk=>by
  rcases hk with h | h
  ·exact .inl (by simp[SF,h])
  ·exact .inr h
 refine⟨⟨h0.blk.frm hf (by simp[g3,Ne.symm b0]),⟨?_,?_,⟨λi=>if i=a then v' else sl i,?_,λy hy=>?_⟩,?_,?_,?_,?_,?_⟩,h0.apart,hok⟩,fS⟩
 ·exact h0.maps.fo.frm hf (by simp[o2,Ne.symm b1])
 ·exact h0.maps.fe.frm hf (by simp[e1,Ne.symm b2])
 ·have hmap:((delI Itm.id a x.itms).map λt=>(kI t.id,itmV (sl t.id) t))=(delI Itm.id a x.itms).map λt=>(kI t.id,itmV (if t.id=a then v' else sl t.id) t):=List.map_congr_left λy hy=>by rw[if_neg (hne y hy)]
  rw[hmap] at m;have:=(hp.map λt:Itm=>(kI t.id,itmV (if t.id=a then v' else sl t.id) t)).symm;rw[List.map_cons,if_pos (hid.trans hta),hid,hta] at this;exact m.perm this
 ·rcases List.mem_cons.1 (hp.mem_iff.1 hy) with rfl | hy
  ·simp only[if_pos (hid.trans hta)]
   exact hv'
  ·simp only[if_neg (hne y hy)]
   exact(htg y (hd.mem_iff.2 (List.mem_cons_of_mem _ hy))).frm hf (λk hk e=>by
    rcases e with e | e
    ·exact h0.str k hk (by simp[SF,e])
    ·exact hbs (e ▸ hk))
 ·exact h0.maps.se.frm hf (by simp[i1.symm,Ne.symm b4])
 ·exact h0.maps.na.frm hf (by simp[i2.symm,Ne.symm b5])
 ·exact h0.maps.pl.frm hf (by simp[i3.symm,Ne.symm b6])
 ·have h1:=hp.map λt:Itm=>(kP t.feed t.guid,kI t.id)
  rw[List.map_cons,hid,hfe,hgu] at h1;exact(h0.maps.gu.frm hf (by simp[i4.symm,Ne.symm b7])).perm ((hd.map λt:Itm=>(kP t.feed t.guid,kI t.id)).trans h1.symm)
 ·exact h0.held.frm hf (by simp[i5.symm,Ne.symm b8])
theorem fee_mem(h0:StAt w0 g M x){t:Fee}(hat:atI Fee.id a x.fees=some t)(f:Fee→Fee)(hid:(f t).id=t.id)(hur:(f t).url=t.url)
  (m:MapIs Tryz.prog 3 w2 M.fe ((kI a,feeV (f t))::(delI Fee.id a x.fees).map λt=>(kI t.id,feeV t))) (hf:Frm (λk=>k=M.fe∨k=M.he∨k=b) w0 w2) (hb:¬SF g M b) (hbs:¬StrB w0 b)
  (hh:HeldIs w2 M.he (heldS {x with fees:=updI Fee.id a f x.fees}))
  (hok:StP {x with fees:=updI Fee.id a f x.fees}):StAt w2 g M {x with fees:=updI Fee.id a f x.fees}∧Frm (λk=>SF g M k∨k=b) w0 w2:=by
 obtain⟨⟨g1,g2,g3,g4,g5,g6,g7,g8⟩,⟨o1,o2,o3,o4,o5,o6,o7⟩,⟨e1,e2,e3,e4,e5,e6⟩,⟨i1,i2,i3,i4,i5⟩,⟨s1,s2,s3,s4⟩,⟨a1,a2,a3⟩,⟨p1,p2⟩,u1⟩:=h0.apart.ne;simp only[SF,not_or] at hb;obtain⟨b0,b1,b2,b3,b4,b5,b6,b7,b8⟩:=hb;have hta:t.id=a:=(atI_mem hat).2;have hd:=delI_perm hat;have hp:=updI_perm f hat
 have fS:Frm (λk=>SF g M k∨k=b) w0 w2:=hf.mono λk hk=>by
  rcases hk with h | h | h
  ·exact .inl (by simp[SF,h])
  ·exact .inl (by simp[SF,h])
  ·exact .inr h
 obtain⟨sl,hi,ht⟩:=h0.maps.it;refine⟨⟨h0.blk.frm hf (by simp[g2,g8,Ne.symm b0]),⟨?_,?_,⟨sl,?_,λy hy=>(ht y hy).frm hf (λk hk e=>?_)⟩,?_,?_,?_,?_,hh⟩,h0.apart,hok⟩,fS⟩
 ·exact h0.maps.fo.frm hf (by simp[o1,o7,Ne.symm b1])
 ·have:=(hp.map λt:Fee=>(kI t.id,feeV t)).symm
  rw[List.map_cons,hid,hta] at this;exact m.perm this
 ·exact hi.frm hf (by simp[e1.symm,i5,Ne.symm b3])
 ·rcases e with e | e | e
  ·exact h0.str k hk (by simp[SF,e])
  ·exact h0.str k hk (by simp[SF,e])
  ·exact hbs (e ▸ hk)
 ·exact h0.maps.se.frm hf (by simp[e2.symm,s4,Ne.symm b4])
 ·exact h0.maps.na.frm hf (by simp[e3.symm,a3,Ne.symm b5])
 ·have h1:=hp.map λt:Fee=>((.string t.url:Value),kI t.id)
  rw[List.map_cons,hid,hur] at h1;exact(h0.maps.pl.frm hf (by simp[e4.symm,p2,Ne.symm b6])).perm ((hd.map λt:Fee=>((.string t.url:Value),kI t.id)).trans h1.symm)
 ·exact h0.maps.gu.frm hf (by simp[e5.symm,u1,Ne.symm b7])
theorem gone2_mem(h0:StAt w0 g M x){f:Fol}(hat:atI Fol.id a x.fols=some f)
  (m1:MapIs Tryz.prog 134 w1 M.na ((delI Fol.id a x.fols).map λf=>(kP f.inn f.name,kI f.id))) (f1:Frm (·=M.na) w0 w1)
  (m2:MapIs Tryz.prog 3 w2 M.fo ((delI Fol.id a x.fols).map λf=>(kI f.id,folV f))) (f2:Frm (·=M.fo) w1 w2)
  (hh:HeldIs w3 M.he (λi=>if i=f.inn then heldS x i+ -1 else heldS x i)) (f3:Frm (·=M.he) w2 w3)
  (hok:StP {x with fols:=delI Fol.id a x.fols}):StAt w3 g M {x with fols:=delI Fol.id a x.fols}∧Frm (SF g M) w0 w3:=by
 obtain⟨⟨g1,g2,g3,g4,g5,g6,g7,g8⟩,⟨o1,o2,o3,o4,o5,o6,o7⟩,⟨e1,e2,e3,e4,e5,e6⟩,⟨i1,i2,i3,i4,i5⟩,⟨s1,s2,s3,s4⟩,⟨a1,a2,a3⟩,⟨p1,p2⟩,u1⟩:=h0.apart.ne;have f13:Frm (λk=>k=M.fo∨k=M.he) w1 w3:=(f2.mono λk hk=>.inl hk).trans (f3.mono λk hk=>.inr hk);have f03:Frm (λk=>k=M.na∨k=M.fo∨k=M.he) w0 w3:=(f1.mono λk hk=>.inl hk).trans (f13.mono λk hk=>.inr hk)
 have fS:Frm (SF g M) w0 w3:=f03.mono λk hk=>by
  unfold SF;rcases hk with h | h | h<;>simp[h]
 obtain⟨sl,hi,ht⟩:=h0.maps.it;refine⟨⟨h0.blk.frm f03 (by simp[g5,g1,g8]),⟨?_,?_,⟨sl,?_,λy hy=>(ht y hy).frm fS h0.str⟩,?_,?_,?_,?_,?_⟩,h0.apart,hok⟩,fS⟩
 ·exact m2.frm f3 o7
 ·exact h0.maps.fe.frm f03 (by simp[e3,o1.symm,e6])
 ·exact hi.frm f03 (by simp[i2,o2.symm,i5])
 ·exact h0.maps.se.frm f03 (by simp[s1,o3.symm,s4])
 ·exact m1.frm f13 (by simp[o4.symm,a3])
 ·exact h0.maps.pl.frm f03 (by simp[a1.symm,o5.symm,p2])
 ·exact h0.maps.gu.frm f03 (by simp[a2.symm,o6.symm,u1])
 ·exact hh.congr λi=>(held_delFol x hat i).symm
theorem gone12_mem(h0:StAt w0 g M x)(m:MapIs Tryz.prog 3 w1 M.se ((delI Sea.id a x.seas).map λf=>(kI f.id,seaV f)))(f1:Frm (·=M.se) w0 w1)
  (hok:StP {x with seas:=delI Sea.id a x.seas}):StAt w1 g M {x with seas:=delI Sea.id a x.seas}∧Frm (SF g M) w0 w1:=by
 obtain⟨⟨g1,g2,g3,g4,g5,g6,g7,g8⟩,⟨o1,o2,o3,o4,o5,o6,o7⟩,⟨e1,e2,e3,e4,e5,e6⟩,⟨i1,i2,i3,i4,i5⟩,⟨s1,s2,s3,s4⟩,⟨a1,a2,a3⟩,⟨p1,p2⟩,u1⟩:=h0.apart.ne
 have fS:Frm (SF g M) w0 w1:=f1.mono λk hk=>by
  unfold SF;simp[hk]
 obtain⟨sl,hi,ht⟩:=h0.maps.it;exact⟨⟨h0.blk.frm f1 g4,⟨h0.maps.fo.frm f1 o3,h0.maps.fe.frm f1 e2,⟨sl,hi.frm f1 i1,λy hy=>(ht y hy).frm fS h0.str⟩,m,h0.maps.na.frm f1 s1.symm,h0.maps.pl.frm f1 s2.symm,h0.maps.gu.frm f1 s3.symm,h0.held.frm f1 s4.symm⟩,h0.apart,hok⟩,fS⟩
theorem clock_mem(h0:StAt w0 g M x)(n:Int)(hok:StP {x with clock:=n}):StAt (w0.setCell ⟨g,0,none⟩ (.int .i64 n)) g M {x with clock:=n}∧Frm (SF g M) w0 (w0.setCell ⟨g,0,none⟩ (.int .i64 n)):=by
 obtain⟨⟨g1,g2,g3,g4,g5,g6,g7,g8⟩,-⟩:=h0.apart.ne;have f1:Frm (·=g) w0 (w0.setCell ⟨g,0,none⟩ (.int .i64 n)):=(Frm.refl (·=g) w0).setCell (.inl rfl) _
 have fS:Frm (SF g M) w0 (w0.setCell ⟨g,0,none⟩ (.int .i64 n)):=f1.mono λk hk=>by
  unfold SF;simp[hk]
 obtain⟨sl,hi,ht⟩:=h0.maps.it;exact⟨⟨h0.blk.set_ 0 _,⟨h0.maps.fo.frm f1 g1.symm,h0.maps.fe.frm f1 g2.symm,⟨sl,hi.frm f1 g3.symm,λy hy=>(ht y hy).frm fS h0.str⟩,h0.maps.se.frm f1 g4.symm,h0.maps.na.frm f1 g5.symm,h0.maps.pl.frm f1 g6.symm,h0.maps.gu.frm f1 g7.symm,h0.held.frm f1 g8.symm⟩,h0.apart,hok⟩,fS⟩
end
def apAct(g be bf bt:Nat)(e:Value)(uu:Nat→Value):Act:=⟨#[.pointer (some ⟨g,0,none⟩),e,undef,.pointer (some ⟨be,0,none⟩),.bool false,.pointer (some ⟨bf,0,none⟩),.pointer (some ⟨bt,0,none⟩),undef,uu 8,uu 9,uu 10,uu 11,uu 12,uu 13,uu 14,uu 15,uu 16,uu 17,uu 18,uu 19,uu 20,uu 21,uu 22,uu 23,uu 24,uu 25,undef,undef,undef,undef,undef,undef,undef,undef,undef,undef,undef,undef,undef,undef,undef,undef,undef,undef,undef,undef,undef,undef,undef,undef,undef,undef,undef,undef,undef,undef,undef,undef,undef,undef,undef,undef,undef,undef,undef,undef,undef,undef,undef,undef,undef,undef,undef,undef,undef,undef,undef,undef,undef,undef,undef,undef,undef,undef,undef,undef,undef,undef,undef,undef,undef,undef,undef,undef,undef,undef,undef,undef,undef,undef,undef,undef,undef,undef,undef,undef,undef,undef,undef,undef,undef,undef,undef,undef,undef,undef,undef,undef,undef,undef,undef,undef,undef,undef,undef,undef,undef,undef,undef,undef,undef,undef,undef,undef,undef,undef,undef,undef,undef,undef,undef,undef,undef,undef,undef,undef,undef,undef,undef,undef],[]⟩
end
theorem ApplyT1{w wc:World}{g be bf bt:Nat}{M:Ms}{x:St}{v:Sl}(hS:StAt wc g M x)(hF:Frm Nix w wc)(a b n:Int)(s t u:ByteArray)(hB:Blk wc be 42 #[.int .i64 1,.int .i64 a,.int .i64 b,.int .i64 n,.string s,.string t,.string u])(hBf:Blk wc bf 64 #[.int .i64 (feeAt x a).id,.int .i64 (feeAt x a).inn,.string (feeAt x a).url,.string (feeAt x a).title])(hBt:Blk wc bt 82 (itmA v (itmAt x a)))(hv:TagsIn wc v (itmAt x a).tags)(hlt:∀k,SF g M k→k<w.heap.size)(hse:w.heap.size≤be)(hsf:w.heap.size≤bf)(hst:w.heap.size≤bt)(hfit:fits x ⟨1,a,b,n,s,t,u⟩=true)(ha:I64 a)(hb:I64 b){uu:Nat→Value}:
  Code.wp Tryz.prog (peel 3 (bodyOf Tryz.f42)) (bodyPost Tryz.prog Tryz.f42 λr w'=>r=.returned (.bool true)∧StAt w' g M (doS x ⟨1,a,b,n,s,t,u⟩)∧Frm (SF g M) w w') (apAct g be bf bt (.agg #[.int .i64 1,.int .i64 a,.int .i64 b,.int .i64 n,.string s,.string t,.string u]) uu) wc:=by
 unfold apAct;obtain⟨d0,d1,d2,d3,d4,d5,d6⟩:=blk7 hB;have KM:=h_ (make1_any hS a b n s t u hfit ha hb);have HF:=h_ hF;unfold evV at KM;clear hS hF hB hBf hBt hv hlt hfit;simp only[peel,bodyOf,Tryz.f42];go_wp2_with (go_at_call 90;refine KM.out.mono ?_;rintro r w1 ⟨rfl,h1,hf1⟩);go_ret;exact⟨rfl,h1,(Frm.nix HF.out).trans hf1⟩
theorem ApplyT3{w wc:World}{g be bf bt:Nat}{M:Ms}{x:St}{v:Sl}(hS:StAt wc g M x)(hF:Frm Nix w wc)(a b n:Int)(s t u:ByteArray)(hB:Blk wc be 42 #[.int .i64 3,.int .i64 a,.int .i64 b,.int .i64 n,.string s,.string t,.string u])(hBf:Blk wc bf 64 #[.int .i64 (feeAt x a).id,.int .i64 (feeAt x a).inn,.string (feeAt x a).url,.string (feeAt x a).title])(hBt:Blk wc bt 82 (itmA v (itmAt x a)))(hv:TagsIn wc v (itmAt x a).tags)(hlt:∀k,SF g M k→k<w.heap.size)(hse:w.heap.size≤be)(hsf:w.heap.size≤bf)(hst:w.heap.size≤bt)(hfit:fits x ⟨3,a,b,n,s,t,u⟩=true)(ha:I64 a)(hb:I64 b){uu:Nat→Value}:
  Code.wp Tryz.prog (peel 3 (bodyOf Tryz.f42)) (bodyPost Tryz.prog Tryz.f42 λr w'=>r=.returned (.bool true)∧StAt w' g M (doS x ⟨3,a,b,n,s,t,u⟩)∧Frm (SF g M) w w') (apAct g be bf bt (.agg #[.int .i64 3,.int .i64 a,.int .i64 b,.int .i64 n,.string s,.string t,.string u]) uu) wc:=by
 unfold apAct;obtain⟨d0,d1,d2,d3,d4,d5,d6⟩:=blk7 hB;have KM:=h_ (make3_any hS a b n s t u hfit ha hb);have HF:=h_ hF;unfold evV at KM;clear hS hF hB hBf hBt hv hlt hfit;simp only[peel,bodyOf,Tryz.f42];go_wp2_with (go_at_call 90;refine KM.out.mono ?_;rintro r w1 ⟨rfl,h1,hf1⟩);go_ret;exact⟨rfl,h1,(Frm.nix HF.out).trans hf1⟩
theorem ApplyT7{w wc:World}{g be bf bt:Nat}{M:Ms}{x:St}{v:Sl}(hS:StAt wc g M x)(hF:Frm Nix w wc)(a b n:Int)(s t u:ByteArray)(hB:Blk wc be 42 #[.int .i64 7,.int .i64 a,.int .i64 b,.int .i64 n,.string s,.string t,.string u])(hBf:Blk wc bf 64 #[.int .i64 (feeAt x a).id,.int .i64 (feeAt x a).inn,.string (feeAt x a).url,.string (feeAt x a).title])(hBt:Blk wc bt 82 (itmA v (itmAt x a)))(hv:TagsIn wc v (itmAt x a).tags)(hlt:∀k,SF g M k→k<w.heap.size)(hse:w.heap.size≤be)(hsf:w.heap.size≤bf)(hst:w.heap.size≤bt)(hfit:fits x ⟨7,a,b,n,s,t,u⟩=true)(ha:I64 a)(hb:I64 b){uu:Nat→Value}:
  Code.wp Tryz.prog (peel 3 (bodyOf Tryz.f42)) (bodyPost Tryz.prog Tryz.f42 λr w'=>r=.returned (.bool true)∧StAt w' g M (doS x ⟨7,a,b,n,s,t,u⟩)∧Frm (SF g M) w w') (apAct g be bf bt (.agg #[.int .i64 7,.int .i64 a,.int .i64 b,.int .i64 n,.string s,.string t,.string u]) uu) wc:=by
 unfold apAct;obtain⟨d0,d1,d2,d3,d4,d5,d6⟩:=blk7 hB;have KM:=h_ (make7_any hS a b n s t u hfit ha hb);have HF:=h_ hF;unfold evV at KM;clear hS hF hB hBf hBt hv hlt hfit;simp only[peel,bodyOf,Tryz.f42];go_wp2_with (go_at_call 90;refine KM.out.mono ?_;rintro r w1 ⟨rfl,h1,hf1⟩);go_ret;exact⟨rfl,h1,(Frm.nix HF.out).trans hf1⟩
theorem ApplyT11{w wc:World}{g be bf bt:Nat}{M:Ms}{x:St}{v:Sl}(hS:StAt wc g M x)(hF:Frm Nix w wc)(a b n:Int)(s t u:ByteArray)(hB:Blk wc be 42 #[.int .i64 11,.int .i64 a,.int .i64 b,.int .i64 n,.string s,.string t,.string u])(hBf:Blk wc bf 64 #[.int .i64 (feeAt x a).id,.int .i64 (feeAt x a).inn,.string (feeAt x a).url,.string (feeAt x a).title])(hBt:Blk wc bt 82 (itmA v (itmAt x a)))(hv:TagsIn wc v (itmAt x a).tags)(hlt:∀k,SF g M k→k<w.heap.size)(hse:w.heap.size≤be)(hsf:w.heap.size≤bf)(hst:w.heap.size≤bt)(hfit:fits x ⟨11,a,b,n,s,t,u⟩=true)(ha:I64 a)(hb:I64 b){uu:Nat→Value}:
  Code.wp Tryz.prog (peel 3 (bodyOf Tryz.f42)) (bodyPost Tryz.prog Tryz.f42 λr w'=>r=.returned (.bool true)∧StAt w' g M (doS x ⟨11,a,b,n,s,t,u⟩)∧Frm (SF g M) w w') (apAct g be bf bt (.agg #[.int .i64 11,.int .i64 a,.int .i64 b,.int .i64 n,.string s,.string t,.string u]) uu) wc:=by
 unfold apAct;obtain⟨d0,d1,d2,d3,d4,d5,d6⟩:=blk7 hB;have KM:=h_ (make11_any hS a b n s t u hfit ha hb);have HF:=h_ hF;unfold evV at KM;clear hS hF hB hBf hBt hv hlt hfit;simp only[peel,bodyOf,Tryz.f42];go_wp2_with (go_at_call 90;refine KM.out.mono ?_;rintro r w1 ⟨rfl,h1,hf1⟩);go_ret;exact⟨rfl,h1,(Frm.nix HF.out).trans hf1⟩
theorem ApplyT4{w wc:World}{g be bf bt:Nat}{M:Ms}{x:St}{v:Sl}(hS:StAt wc g M x)(hF:Frm Nix w wc)(a b n:Int)(s t u:ByteArray)(hB:Blk wc be 42 #[.int .i64 4,.int .i64 a,.int .i64 b,.int .i64 n,.string s,.string t,.string u])(hBf:Blk wc bf 64 #[.int .i64 (feeAt x a).id,.int .i64 (feeAt x a).inn,.string (feeAt x a).url,.string (feeAt x a).title])(hBt:Blk wc bt 82 (itmA v (itmAt x a)))(hv:TagsIn wc v (itmAt x a).tags)(hlt:∀k,SF g M k→k<w.heap.size)(hse:w.heap.size≤be)(hsf:w.heap.size≤bf)(hst:w.heap.size≤bt)(hfit:fits x ⟨4,a,b,n,s,t,u⟩=true)(ha:I64 a)(hb:I64 b){uu:Nat→Value}:
  Code.wp Tryz.prog (peel 3 (bodyOf Tryz.f42)) (bodyPost Tryz.prog Tryz.f42 λr w'=>r=.returned (.bool true)∧StAt w' g M (doS x ⟨4,a,b,n,s,t,u⟩)∧Frm (SF g M) w w') (apAct g be bf bt (.agg #[.int .i64 4,.int .i64 a,.int .i64 b,.int .i64 n,.string s,.string t,.string u]) uu) wc:=by
 unfold apAct;obtain⟨d0,d1,d2,d3,d4,d5,d6⟩:=blk7 hB;have he:=fits_ev hfit;obtain⟨f,hfm,hfa⟩:=(fits45 (x:=x) (.inl rfl) he).1 hfit;simp only at hfa;have hat:=atI_some hS.ok.eR hfm hfa;have hfee:feeAt x a=f:=by unfold feeAt;rw[hat];rfl
 have hok:=doS_ok hS.ok hfit;rw[do4 rfl] at hok ⊢;simp only at hok ⊢;rw[←hfa] at hat hok ⊢;have KM:=h_ (unfeed_any hS hat hok);have HF:=h_ hF;rw[hfee] at hBf;unfold feeV at KM;have x0:=hBf.cell 0;have x1:=hBf.cell 1;have x2:=hBf.cell 2;have x3:=hBf.cell 3;simp at x0 x1 x2 x3;clear hS hF hB hBf hBt hv hlt hfit hok hfee hat hfa hfm;simp only[peel,bodyOf,Tryz.f42];go_wp2_with (go_at_call 88;refine KM.out.mono ?_;rintro r w1 ⟨rfl,h1,hf1⟩);go_ret;exact⟨rfl,h1,(Frm.nix HF.out).trans hf1⟩
theorem ApplyT13{w wc:World}{g be bf bt:Nat}{M:Ms}{x:St}{v:Sl}(hS:StAt wc g M x)(hF:Frm Nix w wc)(a b n:Int)(s t u:ByteArray)(hB:Blk wc be 42 #[.int .i64 13,.int .i64 a,.int .i64 b,.int .i64 n,.string s,.string t,.string u])(hBf:Blk wc bf 64 #[.int .i64 (feeAt x a).id,.int .i64 (feeAt x a).inn,.string (feeAt x a).url,.string (feeAt x a).title])(hBt:Blk wc bt 82 (itmA v (itmAt x a)))(hv:TagsIn wc v (itmAt x a).tags)(hlt:∀k,SF g M k→k<w.heap.size)(hse:w.heap.size≤be)(hsf:w.heap.size≤bf)(hst:w.heap.size≤bt)(hfit:fits x ⟨13,a,b,n,s,t,u⟩=true)(ha:I64 a)(hb:I64 b){uu:Nat→Value}:
  Code.wp Tryz.prog (peel 3 (bodyOf Tryz.f42)) (bodyPost Tryz.prog Tryz.f42 λr w'=>r=.returned (.bool true)∧StAt w' g M (doS x ⟨13,a,b,n,s,t,u⟩)∧Frm (SF g M) w w') (apAct g be bf bt (.agg #[.int .i64 13,.int .i64 a,.int .i64 b,.int .i64 n,.string s,.string t,.string u]) uu) wc:=by
 unfold apAct;obtain⟨d0,d1,d2,d3,d4,d5,d6⟩:=blk7 hB;have hok:=doS_ok hS.ok hfit;rw[do13 rfl] at hok ⊢;obtain⟨c0,-⟩:=hS.cells;have fz:=hS.blk.frozen 0;have HM:=h_ (clock_mem hS n hok);have HF:=h_ hF;clear hS hF hB hBf hBt hv hlt hfit hok;simp only[peel,bodyOf,Tryz.f42];go_wp2;go_ret;exact⟨rfl,HM.out.1,(Frm.nix HF.out).trans HM.out.2⟩
end Go.Proofs.YtaecjmiobllhmaaGreat
