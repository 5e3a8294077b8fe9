/- Words. -/
import Derived.Test.YtaecjmiobllhmaaGreatGr19
set_option linter.unusedVariables false
set_option linter.unusedSimpArgs false
set_option maxRecDepth 100000
set_option maxHeartbeats 16000000
namespace Go.Proofs.YtaecjmiobllhmaaGreat
open Go.Value renaming int→I,string→V,slice→U,pointer→O
open Go.IntKind renaming i64→J
open Tryz renaming prog→pQ
open Go.RowKit Go.Lib
open Go.Maps (Keyed)
variable {e:GE}{i:Int}{w2 W:World}
theorem l6{w:World}{g:Nat}{M:Ms}{c t0 t1 t2 t3:Int}(h:aj w g 116 (lY c M (t0,t1,t2,t3))):w.cell? ⟨g,0,none⟩=some (I J c)∧w.cell? ⟨g,1,none⟩=some (.map (some M.fo))∧w.cell? ⟨g,2,none⟩=some (.map (some M.fe))∧w.cell? ⟨g,3,none⟩=some (.map (some M.it))∧w.cell? ⟨g,4,none⟩=some (.map (some M.se))∧
  w.cell? ⟨g,5,none⟩=some (.map (some M.na))∧w.cell? ⟨g,6,none⟩=some (.map (some M.pl))∧w.cell? ⟨g,7,none⟩=some (.map (some M.gu))∧w.cell? ⟨g,8,none⟩=some (.map (some M.he)):=by
 have c0:=h.cell 0;have c1:=h.cell 1;have c2:=h.cell 2;have c3:=h.cell 3;have c4:=h.cell 4;have c5:=h.cell 5;have c6:=h.cell 6;have c7:=h.cell 7;have c8:=h.cell 8;simp[lY] at c0 c1 c2 c3 c4 c5 c6 c7 c8;exact⟨c0,c1,c2,c3,c4,c5,c6,c7,c8⟩
theorem aH.stBlk{w:World}{g:Nat}{M:Ms}{x:St}(h:aH w g M x):aj w g 116 (lY x.clock M (x.tFol,x.tFee,x.tItm,x.tSea)):=h.blk
theorem aH.held{w:World}{g:Nat}{M:Ms}{x:St}(h:aH w g M x):cF w M.he (bq x):=h.maps.he
theorem yO.ne{g:Nat}{M:Ms}(h:yO g M):(g≠M.fo∧g≠M.fe∧g≠M.it∧g≠M.se∧g≠M.na∧g≠M.pl∧g≠M.gu∧g≠M.he)∧(M.fo≠M.fe∧M.fo≠M.it∧M.fo≠M.se∧M.fo≠M.na∧M.fo≠M.pl∧M.fo≠M.gu∧M.fo≠M.he)∧(M.fe≠M.it∧M.fe≠M.se∧M.fe≠M.na∧M.fe≠M.pl∧M.fe≠M.gu∧M.fe≠M.he)∧
  (M.it≠M.se∧M.it≠M.na∧M.it≠M.pl∧M.it≠M.gu∧M.it≠M.he)∧(M.se≠M.na∧M.se≠M.pl∧M.se≠M.gu∧M.se≠M.he)∧(M.na≠M.pl∧M.na≠M.gu∧M.na≠M.he)∧(M.pl≠M.gu∧M.pl≠M.he)∧M.gu≠M.he:=by
 have:=h.nodup;simp only[List.nodup_cons,List.mem_cons,not_or,List.not_mem_nil,not_false_eq_true,and_true,List.nodup_nil] at this;simp only[ne_eq];exact this
theorem cF.frm{w w1:World}{F:Nat→Prop}{m:Nat}{c:Int→Int}(h:cF w m c)(hf:aa F w w1)(hn:¬F m):cF w1 m c:=by
 obtain⟨L,h1,h2⟩:=h;exact⟨L,h1.frm hf hn,h2⟩
theorem wF{α:Type}{g:α→Int}(p:α→Bool)(y:α)(l:List α):((cA g y l).filter p).length=(l.filter p).length+if p y=true then 1 else 0:=by
 rw[((ei g y l).filter p).length_eq,List.filter_cons];split<;>simp
theorem Bc(x:St)(f:bh)(t:Int)(i:Int):bq {x with fols:=cA bh.id f x.fols,tFol:=t} i=if i=f.inn then bq x i+1 else bq x i:=by
 unfold bq;rw[wF]
 by_cases h:i=f.inn
 ·simp[h]
  omega
 ·have:¬f.inn=i:=λe=>h e.symm
  simp[h,this]
theorem Bd(x:St)(f:aX)(t:Int)(i:Int):bq {x with fees:=cA aX.id f x.fees,tFee:=t} i=if i=f.inn then bq x i+1 else bq x i:=by
 unfold bq;rw[wF]
 by_cases h:i=f.inn
 ·simp[h]
  omega
 ·have:¬f.inn=i:=λe=>h e.symm
  simp[h,this]
theorem cF.congr{w:World}{m:Nat}{c c':Int→Int}(h:cF w m c)(hc:∀i,c i=c' i):cF w m c':=by
 obtain⟨L,h1,h2,h3⟩:=h;exact⟨L,h1,h2,λi hi=>(h3 i hi).trans (hc i)⟩
theorem Fa{w0 w1 w2 w3 w4:World}{g:Nat}{M:Ms}{x:St}{f:bh}(h0:aH w0 g M x)(m1:aO pQ 3 w1 M.fo ((kI f.id,nO f)::x.fols.map λf=>(kI f.id,nO f)))(f1:aa (·=M.fo) w0 w1)
  (m2:aO pQ 134 w2 M.na ((kP f.inn f.name,kI f.id)::x.fols.map λf=>(kP f.inn f.name,kI f.id))) (f2:aa (·=M.na) w1 w2)
  (hh:cF w3 M.he (λi=>if i=f.inn then bq x i+1 else bq x i)) (f3:aa (·=M.he) w2 w3) (t:Int) (b4:aj w4 g 116 (lY x.clock M (t,x.tFee,x.tItm,x.tSea))) (f4:aa (·=g) w3 w4)
  (bO:gN {x with fols:=cA bh.id f x.fols,tFol:=t}):aH w4 g M {x with fols:=cA bh.id f x.fols,tFol:=t}∧aa (SF g M) w0 w4:=by
 obtain⟨⟨g1,g2,g3,g4,g5,g6,g7,g8⟩,⟨o1,o2,o3,o4,o5,o6,o7⟩,⟨e1,e2,e3,e4,e5,e6⟩,⟨i1,i2,i3,i4,i5⟩,⟨s1,s2,s3,s4⟩,⟨a1,a2,a3⟩,⟨p1,p2⟩,u1⟩:=h0.apart.ne;have f24:aa (λk=>k=M.he∨k=g) w2 w4:=(f3.mono λk hk=>.inl hk).trans (f4.mono λk hk=>.inr hk);have f14:aa (λk=>k=M.na∨k=M.he∨k=g) w1 w4:=(f2.mono λk hk=>.inl hk).trans (f24.mono λk hk=>.inr hk);have sG:aa (λk=>k=M.fo∨k=M.na∨k=M.he∨k=g) w0 w4:=(f1.mono λk hk=>.inl hk).trans (f14.mono λk hk=>.inr hk)
 have fS:aa (SF g M) w0 w4:=sG.mono λk hk=>by
  unfold SF;rcases hk with h|h|h|h<;>simp[h]
 obtain⟨sl,hi,ht⟩:=h0.maps.it;refine⟨⟨b4,⟨?_,?_,⟨sl,?_,λy hy=>(ht y hy).frm fS (h0.str)⟩,?_,?_,?_,?_,?_⟩,h0.apart,bO⟩,fS⟩
 ·exact(m1.frm f14 (by simp[o4,o7,g1.symm])).perm ((ei bh.id f x.fols).map λf:bh=>(kI f.id,nO f)).symm
 ·exact h0.maps.fe.frm sG (by simp[o1.symm,e3,e6,g2.symm])
 ·exact hi.frm sG (by simp[o2.symm,i2,i5,g3.symm])
 ·exact h0.maps.se.frm sG (by simp[o3.symm,s1,s4,g4.symm])
 ·exact(m2.frm f24 (by simp[a3,g5.symm])).perm ((ei bh.id f x.fols).map λf:bh=>(kP f.inn f.name,kI f.id)).symm
 ·exact h0.maps.pl.frm sG (by simp[o5.symm,a1.symm,p2,g6.symm])
 ·exact h0.maps.gu.frm sG (by simp[o6.symm,a2.symm,u1,g7.symm])
 ·exact(hh.frm f4 g8.symm).congr λi=>(Bc x f t i).symm
theorem Fb{w0 w1 w2 w3 w4:World}{g:Nat}{M:Ms}{x:St}{f:aX}(h0:aH w0 g M x)(m1:aO pQ 3 w1 M.fe ((kI f.id,kN f)::x.fees.map λf=>(kI f.id,kN f)))(f1:aa (·=M.fe) w0 w1)
  (m2:aO pQ 9 w2 M.pl ((V f.url,kI f.id)::x.fees.map λf=>(V f.url,kI f.id))) (f2:aa (·=M.pl) w1 w2)
  (hh:cF w3 M.he (λi=>if i=f.inn then bq x i+1 else bq x i)) (f3:aa (·=M.he) w2 w3) (t:Int) (b4:aj w4 g 116 (lY x.clock M (x.tFol,t,x.tItm,x.tSea))) (f4:aa (·=g) w3 w4)
  (bO:gN {x with fees:=cA aX.id f x.fees,tFee:=t}):aH w4 g M {x with fees:=cA aX.id f x.fees,tFee:=t}∧aa (SF g M) w0 w4:=by
 obtain⟨⟨g1,g2,g3,g4,g5,g6,g7,g8⟩,⟨o1,o2,o3,o4,o5,o6,o7⟩,⟨e1,e2,e3,e4,e5,e6⟩,⟨i1,i2,i3,i4,i5⟩,⟨s1,s2,s3,s4⟩,⟨a1,a2,a3⟩,⟨p1,p2⟩,u1⟩:=h0.apart.ne;have f24:aa (λk=>k=M.he∨k=g) w2 w4:=(f3.mono λk hk=>.inl hk).trans (f4.mono λk hk=>.inr hk);have f14:aa (λk=>k=M.pl∨k=M.he∨k=g) w1 w4:=(f2.mono λk hk=>.inl hk).trans (f24.mono λk hk=>.inr hk);have sG:aa (λk=>k=M.fe∨k=M.pl∨k=M.he∨k=g) w0 w4:=(f1.mono λk hk=>.inl hk).trans (f14.mono λk hk=>.inr hk)
 have fS:aa (SF g M) w0 w4:=sG.mono λk hk=>by
  unfold SF;rcases hk with h|h|h|h<;>simp[h]
 obtain⟨sl,hi,ht⟩:=h0.maps.it;refine⟨⟨b4,⟨?_,?_,⟨sl,?_,λy hy=>(ht y hy).frm fS (h0.str)⟩,?_,?_,?_,?_,?_⟩,h0.apart,bO⟩,fS⟩
 ·exact h0.maps.fo.frm sG (by simp[o1,o5,o7,g1.symm])
 ·exact(m1.frm f14 (by simp[e4,e6,g2.symm])).perm ((ei aX.id f x.fees).map λf:aX=>(kI f.id,kN f)).symm
 ·exact hi.frm sG (by simp[e1.symm,i3,i5,g3.symm])
 ·exact h0.maps.se.frm sG (by simp[e2.symm,s2,s4,g4.symm])
 ·exact h0.maps.na.frm sG (by simp[e3.symm,a1,a3,g5.symm])
 ·exact(m2.frm f24 (by simp[p2,g6.symm])).perm ((ei aX.id f x.fees).map λf:aX=>((V f.url:Value),kI f.id)).symm
 ·exact h0.maps.gu.frm sG (by simp[e5.symm,p1.symm,u1,g7.symm])
 ·exact(hh.frm f4 g8.symm).congr λi=>(Bd x f t i).symm
theorem Fc{w0 w1 w2 w4:World}{g:Nat}{M:Ms}{x:St}{f:aR}(h0:aH w0 g M x)(hn:∀y∈x.itms,y.id≠f.id)(I0:f.tags=[]){sl:Int→Sl}(ht:∀t∈x.itms,bF w0 (sl t.id) t.tags)
  (m1:aO pQ 3 w1 M.it ((kI f.id,iG (none,0) f)::x.itms.map λt=>(kI t.id,iG (sl t.id) t))) (f1:aa (·=M.it) w0 w1)
  (m2:aO pQ 153 w2 M.gu ((kP f.feed f.guid,kI f.id)::x.itms.map λf=>(kP f.feed f.guid,kI f.id))) (f2:aa (·=M.gu) w1 w2)
  (t:Int) (b4:aj w4 g 116 (lY x.clock M (x.tFol,x.tFee,t,x.tSea))) (f4:aa (·=g) w2 w4)
  (bO:gN {x with itms:=cA aR.id f x.itms,tItm:=t}):aH w4 g M {x with itms:=cA aR.id f x.itms,tItm:=t}∧aa (SF g M) w0 w4:=by
 obtain⟨⟨g1,g2,g3,g4,g5,g6,g7,g8⟩,⟨o1,o2,o3,o4,o5,o6,o7⟩,⟨e1,e2,e3,e4,e5,e6⟩,⟨i1,i2,i3,i4,i5⟩,⟨s1,s2,s3,s4⟩,⟨a1,a2,a3⟩,⟨p1,p2⟩,u1⟩:=h0.apart.ne;have f14:aa (λk=>k=M.gu∨k=g) w1 w4:=(f2.mono λk hk=>.inl hk).trans (f4.mono λk hk=>.inr hk);have sG:aa (λk=>k=M.it∨k=M.gu∨k=g) w0 w4:=(f1.mono λk hk=>.inl hk).trans (f14.mono λk hk=>.inr hk)
 have fS:aa (SF g M) w0 w4:=sG.mono λk hk=>by
  unfold SF;rcases hk with h|h|h<;>simp[h]
 have hmap:(x.itms.map λt=>(kI t.id,iG (sl t.id) t))=x.itms.map λt=>(kI t.id,iG (if t.id=f.id then (none,0) else sl t.id) t):=List.map_congr_left λy hy=>by rw[if_neg (hn y hy)]
 refine⟨⟨b4,⟨?_,?_,⟨λi=>if i=f.id then (none,0) else sl i,?_,λy hy=>?_⟩,?_,?_,?_,?_,?_⟩,h0.apart,bO⟩,fS⟩
 ·exact h0.maps.fo.frm sG (by simp[o2,o6,g1.symm])
 ·exact h0.maps.fe.frm sG (by simp[e1,e5,g2.symm])
 ·rw[hmap] at m1
  have:=((ei aR.id f x.itms).map λt:aR=>(kI t.id,iG (if t.id=f.id then (none,0) else sl t.id) t)).symm;rw[List.map_cons,if_pos rfl] at this;exact(m1.frm f14 (by simp[i4,g3.symm])).perm this
 ·rcases kA.1 hy with rfl|hy
  ·simp only[if_pos]
   rw[I0];exact⟨Rd.none_,λ_=>rfl,Nat.le_refl _,Nat.zero_le _⟩
  ·simp only[if_neg (hn y hy)]
   exact(ht y hy).frm fS h0.str
 ·exact h0.maps.se.frm sG (by simp[i1.symm,s3,g4.symm])
 ·exact h0.maps.na.frm sG (by simp[i2.symm,a2,g5.symm])
 ·exact h0.maps.pl.frm sG (by simp[i3.symm,p1,g6.symm])
 ·exact(m2.frm f4 g7.symm).perm ((ei aR.id f x.itms).map λf:aR=>(kP f.feed f.guid,kI f.id)).symm
 ·exact(h0.held.frm sG (by simp[i5.symm,u1.symm,g8.symm]))
theorem C9{w0 w1 w4:World}{g:Nat}{M:Ms}{x:St}{f:ce}(h0:aH w0 g M x)
  (m1:aO pQ 3 w1 M.se ((kI f.id,nP f)::x.seas.map λf=>(kI f.id,nP f))) (f1:aa (·=M.se) w0 w1)
  (t:Int) (b4:aj w4 g 116 (lY x.clock M (x.tFol,x.tFee,x.tItm,t))) (f4:aa (·=g) w1 w4)
  (bO:gN {x with seas:=cA ce.id f x.seas,tSea:=t}):aH w4 g M {x with seas:=cA ce.id f x.seas,tSea:=t}∧aa (SF g M) w0 w4:=by
 obtain⟨⟨g1,g2,g3,g4,g5,g6,g7,g8⟩,⟨o1,o2,o3,o4,o5,o6,o7⟩,⟨e1,e2,e3,e4,e5,e6⟩,⟨i1,i2,i3,i4,i5⟩,⟨s1,s2,s3,s4⟩,⟨a1,a2,a3⟩,⟨p1,p2⟩,u1⟩:=h0.apart.ne;have sG:aa (λk=>k=M.se∨k=g) w0 w4:=(f1.mono λk hk=>.inl hk).trans (f4.mono λk hk=>.inr hk)
 have fS:aa (SF g M) w0 w4:=sG.mono λk hk=>by
  unfold SF;rcases hk with h|h<;>simp[h]
 obtain⟨sl,hi,ht⟩:=h0.maps.it;refine⟨⟨b4,⟨?_,?_,⟨sl,?_,λy hy=>(ht y hy).frm fS (h0.str)⟩,?_,?_,?_,?_,?_⟩,h0.apart,bO⟩,fS⟩
 ·exact h0.maps.fo.frm sG (by simp[o3,g1.symm])
 ·exact h0.maps.fe.frm sG (by simp[e2,g2.symm])
 ·exact hi.frm sG (by simp[i1,g3.symm])
 ·exact(m1.frm f4 g4.symm).perm ((ei ce.id f x.seas).map λf:ce=>(kI f.id,nP f)).symm
 ·exact h0.maps.na.frm sG (by simp[s1.symm,g5.symm])
 ·exact h0.maps.pl.frm sG (by simp[s2.symm,g6.symm])
 ·exact h0.maps.gu.frm sG (by simp[s3.symm,g7.symm])
 ·exact(h0.held.frm sG (by simp[s4.symm,g8.symm]))
theorem Fd{w:World}{g:Nat}{M:Ms}{x:St}(h:aH w g M x)(a b n:Int)(s t u:ByteArray)(aL:aG x ⟨1,a,b,n,s,t,u⟩=true)(ha:bn a)(hb:bn b):
  Calls pQ 90 #[O (some ⟨g,0,none⟩),bQ ⟨1,a,b,n,s,t,u⟩] w λr w'=>r=.returned (.tuple #[])∧aH w' g M (iu x ⟨1,a,b,n,s,t,u⟩)∧aa (SF g M) w w':=by
 have he:=cg aL
 have hsz:s.size≤maxLen:=by
  have h1:=he;rw[show (⟨1,a,b,n,s,t,u⟩:Ev)=⟨1,a,b,0,s,eS,eS⟩ from CS he rfl,LX] at h1;simp only[Bool.and_eq_true] at h1;have:=qj h1.2;have:=mo;omega
 have bO:=lg h.ok aL;obtain⟨n1,n2,n3,n4,n5⟩:=(Lg (x:=x) rfl he).1 aL;simp only at n1 n5;obtain⟨⟨g1,g2,g3,g4,g5,g6,g7,g8⟩,⟨o1,o2,o3,o4,o5,o6,o7⟩,⟨e1,e2,e3,e4,e5,e6⟩,⟨i1,i2,i3,i4,i5⟩,⟨s1,s2,s3,s4⟩,⟨a1,a2,a3⟩,⟨p1,p2⟩,u1⟩:=h.apart.ne;obtain⟨w0,hw0⟩:∃w0,w0=w.alloc (.cells #[I J 1,I J a,I J b,I J n,V s,V t,V u] 42):=⟨_,rfl⟩;have f0:aa ag w w0:=by rw[hw0];exact(fR w).alloc _
 have l5:aj w0 w.heap.size 42 #[I J 1,I J a,I J b,I J n,V s,V t,V u]:=by rw[hw0];exact aj.new w _ _
 have h0:=h.nix f0;have hlt:=h.lt;have hev:∀k,SF g M k→w.heap.size≠k:=λk hk e=>by have:=hlt k hk;omega
 obtain⟨w1,r1,m1,f1⟩:=(h0.maps.fo.frm (fR w0).drew id).update_new cE Tryz.underlying106 (pN ha) (λp hp=>by
  obtain⟨y,hy,rfl⟩:=List.mem_map.1 hp;exact λe=>n1 y hy (sx.1 e)) (nO ⟨a,b,s⟩)
 have ya:aa (·=M.fo) w0 w1:=((aa.refl (·=M.fo) w0).drew).trans f1;have b1:aj w1 g 116 _:=h0.stBlk.frm ya g1;have Hj:=l5.frm ya (hev _ (by simp[SF]));have Gk:(Instr.mapUpdate 106 (.map (some M.fo)) (I J a) (.agg #[I J a,I J b,V s])).run pQ w0.drew=.ok () w1:=r1
 obtain⟨w2,r2,m2,f2⟩:=((h0.maps.na.frm ya o4.symm).frm (fR w1).drew id).update_new CY Tryz.underlying110 (Lm hb hsz) (λp hp=>by
  obtain⟨y,hy,rfl⟩:=List.mem_map.1 hp;exact λe=>n5 y hy (yP.1 e)) (kI a)
 have qN:aa (·=M.na) w1 w2:=((aa.refl (·=M.na) w1).drew).trans f2;have b2:=b1.frm qN g5;have Lp:=Hj.frm qN (hev _ (by simp[SF]));have Fe:(Instr.mapUpdate 110 (.map (some M.na)) (.agg #[I J b,V s]) (I J a)).run pQ w1.drew=.ok () w2:=r2;have HB:=h_ b2;have HE:=h_ Lp;have Gi:=(h0.held.frm ya o7.symm).frm qN a3.symm;have HH:=h_ Gi;have Mw:=hev M.he (by simp[SF]);have HL:Hid (-1000000≤bq x b∧bq x b≤1000000):=by have:=pR h.ok b;unfold Hid;omega
 obtain⟨c0,c1,c2,c3,c4,c5,c6,c7,c8⟩:=l6 h0.stBlk;obtain⟨d0,d1,d2,d3,d4,d5,d6⟩:=az l5;obtain⟨k0,k1,k2,k3,k4,k5,k6,k7,k8⟩:=l6 b1;obtain⟨q0,q1,q2,q3,q4,q5,q6⟩:=az Hj;obtain⟨j0,j1,j2,j3,j4,j5,j6,j7,j8⟩:=l6 b2;obtain⟨v0,v1,v2,v3,v4,v5,v6⟩:=az Lp;have HW:=h_ hw0;unfold bQ;clear r1 r2 hw0;go_enter Tryz.func90,Tryz.ntmps90;go_wp2;rw[←HW.out]
 go_still_tail 13,(by kernel_rfl)
 change wpList _ _ _ _ _ w0.drew;go_wp2_with (at_mapUpdate;refine aQ Gk rfl _ _ _ rfl rfl rfl rfl ?_);clear Gk c0 c1 c2 c3 c4 c5 c6 c7 c8 d0 d1 d2 d3 d4 d5 d6
 go_still_tail 11,(by kernel_rfl)
 change wpList _ _ _ _ _ w1.drew;clear k0 k1 k2 k3 k4 k5 k6 k7 k8 q0 q1 q2 q3 q4 q5 q6;have KH:=h_ (pP (n:=1) j8 HH.out hb HL.out (by omega))
 go_wp2_with (first
  | (at_mapUpdate;refine aQ Fe rfl _ _ _ rfl rfl rfl rfl ?_)
  | (go_at_call 87;refine KH.out.mono ?_;rintro r w3 ⟨rfl,I1,f3⟩;have b3:=HB.out.frm f3 g8;obtain⟨v0,v1,v2,v3,v4,v5,v6⟩:=az (HE.out.frm f3 Mw))
  | (go_at_call 143;refine(rF b3 0 (by omega) a).mono ?_;rintro r w4 ⟨rfl,b4,f4⟩))
 go_end0
 have wG:=Fa (f:=⟨a,b,s⟩) h0 m1 ya m2 qN I1 f3 _ b4 f4 (by rw[Py rfl] at bO;exact bO);rw[Py rfl];exact⟨rfl,wG.1,(aa.nix f0).trans wG.2⟩
theorem Ff{w:World}{g:Nat}{M:Ms}{x:St}(h:aH w g M x)(a b n:Int)(s t u:ByteArray)(aL:aG x ⟨3,a,b,n,s,t,u⟩=true)(ha:bn a)(hb:bn b):
  Calls pQ 90 #[O (some ⟨g,0,none⟩),bQ ⟨3,a,b,n,s,t,u⟩] w λr w'=>r=.returned (.tuple #[])∧aH w' g M (iu x ⟨3,a,b,n,s,t,u⟩)∧aa (SF g M) w w':=by
 have he:=cg aL
 have hsz:s.size≤maxLen:=by
  have h1:=he;rw[show (⟨3,a,b,n,s,t,u⟩:Ev)=⟨3,a,b,0,s,t,eS⟩ from CT he rfl,Lf] at h1;simp only[Bool.and_eq_true] at h1;have:=nX h1.1.2;have:=mo;omega
 have bO:=lg h.ok aL;obtain⟨n1,n2,n3,n4⟩:=(Li (x:=x) rfl he).1 aL;have n5:=(xU h.ok s).1 n4;simp only at n1;obtain⟨⟨g1,g2,g3,g4,g5,g6,g7,g8⟩,⟨o1,o2,o3,o4,o5,o6,o7⟩,⟨e1,e2,e3,e4,e5,e6⟩,⟨i1,i2,i3,i4,i5⟩,⟨s1,s2,s3,s4⟩,⟨a1,a2,a3⟩,⟨p1,p2⟩,u1⟩:=h.apart.ne;obtain⟨w0,hw0⟩:∃w0,w0=w.alloc (.cells #[I J 3,I J a,I J b,I J n,V s,V t,V u] 42):=⟨_,rfl⟩;have f0:aa ag w w0:=by rw[hw0];exact(fR w).alloc _
 have l5:aj w0 w.heap.size 42 #[I J 3,I J a,I J b,I J n,V s,V t,V u]:=by rw[hw0];exact aj.new w _ _
 have h0:=h.nix f0;have hlt:=h.lt;have hev:∀k,SF g M k→w.heap.size≠k:=λk hk e=>by have:=hlt k hk;omega
 obtain⟨w1,r1,m1,f1⟩:=(h0.maps.fe.frm (fR w0).drew id).update_new cE Tryz.underlying107 (pN ha) (λp hp=>by
  obtain⟨y,hy,rfl⟩:=List.mem_map.1 hp;exact λe=>n1 y hy (sx.1 e)) (kN ⟨a,b,s,t⟩)
 have ya:aa (·=M.fe) w0 w1:=((aa.refl (·=M.fe) w0).drew).trans f1;have b1:aj w1 g 116 _:=h0.stBlk.frm ya g2;have Hj:=l5.frm ya (hev _ (by simp[SF]));have Gk:(Instr.mapUpdate 107 (.map (some M.fe)) (I J a) (.agg #[I J a,I J b,V s,V t])).run pQ w0.drew=.ok () w1:=r1
 obtain⟨w2,r2,m2,f2⟩:=((h0.maps.pl.frm ya e4.symm).frm (fR w1).drew id).update_new CX Tryz.underlying111 (Ll hsz) (λp hp=>by
  obtain⟨y,hy,rfl⟩:=List.mem_map.1 hp;exact λe=>n5 y hy (by simpa using e)) (kI a)
 have qN:aa (·=M.pl) w1 w2:=((aa.refl (·=M.pl) w1).drew).trans f2;have b2:=b1.frm qN g6;have Lp:=Hj.frm qN (hev _ (by simp[SF]));have Fe:(Instr.mapUpdate 111 (.map (some M.pl)) (V s) (I J a)).run pQ w1.drew=.ok () w2:=r2;have HB:=h_ b2;have HE:=h_ Lp;have Gi:=(h0.held.frm ya e6.symm).frm qN p2.symm;have HH:=h_ Gi;have Mw:=hev M.he (by simp[SF]);have HL:Hid (-1000000≤bq x b∧bq x b≤1000000):=by have:=pR h.ok b;unfold Hid;omega
 obtain⟨c0,c1,c2,c3,c4,c5,c6,c7,c8⟩:=l6 h0.stBlk;obtain⟨d0,d1,d2,d3,d4,d5,d6⟩:=az l5;obtain⟨k0,k1,k2,k3,k4,k5,k6,k7,k8⟩:=l6 b1;obtain⟨q0,q1,q2,q3,q4,q5,q6⟩:=az Hj;obtain⟨j0,j1,j2,j3,j4,j5,j6,j7,j8⟩:=l6 b2;obtain⟨v0,v1,v2,v3,v4,v5,v6⟩:=az Lp;have HW:=h_ hw0;unfold bQ;clear r1 r2 hw0;go_enter Tryz.func90,Tryz.ntmps90;go_wp2;rw[←HW.out]
 go_still_tail 15,(by kernel_rfl)
 change wpList _ _ _ _ _ w0.drew;go_wp2_with (at_mapUpdate;refine aQ Gk rfl _ _ _ rfl rfl rfl rfl ?_);clear Gk c0 c1 c2 c3 c4 c5 c6 c7 c8 d0 d1 d2 d3 d4 d5 d6
 go_still_tail 8,(by kernel_rfl)
 change wpList _ _ _ _ _ w1.drew;clear k0 k1 k2 k3 k4 k5 k6 k7 k8 q0 q1 q2 q3 q4 q5 q6;have KH:=h_ (pP (n:=1) j8 HH.out hb HL.out (by omega))
 go_wp2_with (first
  | (at_mapUpdate;refine aQ Fe rfl _ _ _ rfl rfl rfl rfl ?_)
  | (go_at_call 87;refine KH.out.mono ?_;rintro r w3 ⟨rfl,I1,f3⟩;have b3:=HB.out.frm f3 g8;obtain⟨v0,v1,v2,v3,v4,v5,v6⟩:=az (HE.out.frm f3 Mw))
  | (go_at_call 143;refine(rF b3 1 (by omega) a).mono ?_;rintro r w4 ⟨rfl,b4,f4⟩))
 go_end0
 have wG:=Fb (f:=⟨a,b,s,t⟩) h0 m1 ya m2 qN I1 f3 _ b4 f4 (by rw[Pz rfl] at bO;exact bO);rw[Pz rfl];exact⟨rfl,wG.1,(aa.nix f0).trans wG.2⟩
theorem Fg{w:World}{g:Nat}{M:Ms}{x:St}(h:aH w g M x)(a b n:Int)(s t u:ByteArray)(aL:aG x ⟨7,a,b,n,s,t,u⟩=true)(ha:bn a)(hb:bn b):
  Calls pQ 90 #[O (some ⟨g,0,none⟩),bQ ⟨7,a,b,n,s,t,u⟩] w λr w'=>r=.returned (.tuple #[])∧aH w' g M (iu x ⟨7,a,b,n,s,t,u⟩)∧aa (SF g M) w w':=by
 have he:=cg aL
 have hsz:s.size≤maxLen:=by
  have h1:=he;rw[Px] at h1;simp only[Bool.and_eq_true] at h1;have:=nX h1.1.1.2;have:=mo;omega
 have bO:=lg h.ok aL;obtain⟨n1,n2,n3,n4⟩:=(Lk (x:=x) rfl he).1 aL;have n5:=(A5 h.ok b s).1 n4;simp only at n1;obtain⟨⟨g1,g2,g3,g4,g5,g6,g7,g8⟩,⟨o1,o2,o3,o4,o5,o6,o7⟩,⟨e1,e2,e3,e4,e5,e6⟩,⟨i1,i2,i3,i4,i5⟩,⟨s1,s2,s3,s4⟩,⟨a1,a2,a3⟩,⟨p1,p2⟩,u1⟩:=h.apart.ne;obtain⟨w0,hw0⟩:∃w0,w0=w.alloc (.cells #[I J 7,I J a,I J b,I J n,V s,V t,V u] 42):=⟨_,rfl⟩;have f0:aa ag w w0:=by rw[hw0];exact(fR w).alloc _
 have l5:aj w0 w.heap.size 42 #[I J 7,I J a,I J b,I J n,V s,V t,V u]:=by rw[hw0];exact aj.new w _ _
 have h0:=h.nix f0;have hlt:=h.lt;have hev:∀k,SF g M k→w.heap.size≠k:=λk hk e=>by have:=hlt k hk;omega
 obtain⟨sl,Gh,xi⟩:=h0.maps.it
 obtain⟨w1,r1,m1,f1⟩:=(Gh.frm (fR w0).drew id).update_new cE Tryz.underlying108 (pN ha) (λp hp=>by
  obtain⟨y,hy,rfl⟩:=List.mem_map.1 hp;exact λe=>n1 y hy (sx.1 e)) (iG (none,0) ⟨a,b,n,s,t,u,false,false,[]⟩)
 have ya:aa (·=M.it) w0 w1:=((aa.refl (·=M.it) w0).drew).trans f1;have b1:aj w1 g 116 _:=h0.stBlk.frm ya g3;have Hj:=l5.frm ya (hev _ (by simp[SF]));have Gk:(Instr.mapUpdate 108 (.map (some M.it)) (I J a) (.agg #[I J a,I J b,I J n,V s,V t,V u,.bool false,.bool false,U none 0 0])).run pQ w0.drew=.ok () w1:=r1
 obtain⟨w2,r2,m2,f2⟩:=((h0.maps.gu.frm ya i4.symm).frm (fR w1).drew id).update_new CZ Tryz.underlying112 (Ln hb hsz) (λp hp=>by
  obtain⟨y,hy,rfl⟩:=List.mem_map.1 hp;exact λe=>n5 y hy (yP.1 e)) (kI a)
 have qN:aa (·=M.gu) w1 w2:=((aa.refl (·=M.gu) w1).drew).trans f2;have b2:=b1.frm qN g7;have Lp:=Hj.frm qN (hev _ (by simp[SF]));have Fe:(Instr.mapUpdate 112 (.map (some M.gu)) (.agg #[I J b,V s]) (I J a)).run pQ w1.drew=.ok () w2:=r2;have HB:=h_ b2;have HE:=h_ Lp;obtain⟨c0,c1,c2,c3,c4,c5,c6,c7,c8⟩:=l6 h0.stBlk;obtain⟨d0,d1,d2,d3,d4,d5,d6⟩:=az l5;obtain⟨k0,k1,k2,k3,k4,k5,k6,k7,k8⟩:=l6 b1;obtain⟨q0,q1,q2,q3,q4,q5,q6⟩:=az Hj;obtain⟨j0,j1,j2,j3,j4,j5,j6,j7,j8⟩:=l6 b2;obtain⟨v0,v1,v2,v3,v4,v5,v6⟩:=az Lp;have HW:=h_ hw0;unfold bQ;clear r1 r2 hw0;go_enter Tryz.func90,Tryz.ntmps90;go_wp2;rw[←HW.out]
 go_still_tail 19,(by kernel_rfl)
 change wpList _ _ _ _ _ w0.drew;go_wp2_with (at_mapUpdate;refine aQ Gk rfl _ _ _ rfl rfl rfl rfl ?_);clear Gk c0 c1 c2 c3 c4 c5 c6 c7 c8 d0 d1 d2 d3 d4 d5 d6
 go_still_tail 11,(by kernel_rfl)
 change wpList _ _ _ _ _ w1.drew;clear k0 k1 k2 k3 k4 k5 k6 k7 k8 q0 q1 q2 q3 q4 q5 q6;have KR:=h_ (rF HB.out 2 (by omega) a)
 go_wp2_with (first
  | (at_mapUpdate;refine aQ Fe rfl _ _ _ rfl rfl rfl rfl ?_)
  | (go_at_call 143;refine KR.out.mono ?_;rintro r w4 ⟨rfl,b4,f4⟩))
 go_end0
 have wG:=Fc (f:=⟨a,b,n,s,t,u,false,false,[]⟩) h0 n1 rfl xi m1 ya m2 qN _ b4 f4 (by rw[PA rfl] at bO;exact bO);rw[PA rfl];exact⟨rfl,wG.1,(aa.nix f0).trans wG.2⟩
theorem Da{w:World}{g:Nat}{M:Ms}{x:St}(h:aH w g M x)(a b n:Int)(s t u:ByteArray)(aL:aG x ⟨11,a,b,n,s,t,u⟩=true)(ha:bn a)(hb:bn b):
  Calls pQ 90 #[O (some ⟨g,0,none⟩),bQ ⟨11,a,b,n,s,t,u⟩] w λr w'=>r=.returned (.tuple #[])∧aH w' g M (iu x ⟨11,a,b,n,s,t,u⟩)∧aa (SF g M) w w':=by
 have he:=cg aL;have bO:=lg h.ok aL;obtain⟨n1,n2⟩:=(G2 (x:=x) rfl he).1 aL;simp only at n1;obtain⟨⟨g1,g2,g3,g4,g5,g6,g7,g8⟩,⟨o1,o2,o3,o4,o5,o6,o7⟩,⟨e1,e2,e3,e4,e5,e6⟩,⟨i1,i2,i3,i4,i5⟩,⟨s1,s2,s3,s4⟩,⟨a1,a2,a3⟩,⟨p1,p2⟩,u1⟩:=h.apart.ne;obtain⟨w0,hw0⟩:∃w0,w0=w.alloc (.cells #[I J 11,I J a,I J b,I J n,V s,V t,V u] 42):=⟨_,rfl⟩;have f0:aa ag w w0:=by rw[hw0];exact(fR w).alloc _
 have l5:aj w0 w.heap.size 42 #[I J 11,I J a,I J b,I J n,V s,V t,V u]:=by rw[hw0];exact aj.new w _ _
 have h0:=h.nix f0;have hlt:=h.lt;have hev:∀k,SF g M k→w.heap.size≠k:=λk hk e=>by have:=hlt k hk;omega
 obtain⟨w1,r1,m1,f1⟩:=(h0.maps.se.frm (fR w0).drew id).update_new cE Tryz.underlying109 (pN ha) (λp hp=>by
  obtain⟨y,hy,rfl⟩:=List.mem_map.1 hp;exact λe=>n1 y hy (sx.1 e)) (nP ⟨a,s,t⟩)
 have ya:aa (·=M.se) w0 w1:=((aa.refl (·=M.se) w0).drew).trans f1;have b1:aj w1 g 116 _:=h0.stBlk.frm ya g4;have Hj:=l5.frm ya (hev _ (by simp[SF]));have Gk:(Instr.mapUpdate 109 (.map (some M.se)) (I J a) (.agg #[I J a,V s,V t])).run pQ w0.drew=.ok () w1:=r1;have HB:=h_ b1;have HE:=h_ Hj;obtain⟨c0,c1,c2,c3,c4,c5,c6,c7,c8⟩:=l6 h0.stBlk;obtain⟨d0,d1,d2,d3,d4,d5,d6⟩:=az l5;obtain⟨k0,k1,k2,k3,k4,k5,k6,k7,k8⟩:=l6 b1;obtain⟨q0,q1,q2,q3,q4,q5,q6⟩:=az Hj;have HW:=h_ hw0;unfold bQ;clear r1 hw0;go_enter Tryz.func90,Tryz.ntmps90;go_wp2;rw[←HW.out]
 go_still_tail 13,(by kernel_rfl)
 change wpList _ _ _ _ _ w0.drew;go_wp2_with (at_mapUpdate;refine aQ Gk rfl _ _ _ rfl rfl rfl rfl ?_);have KR:=h_ (rF HB.out 3 (by omega) a)
 go_wp2_with (first
  | (go_at_call 143;refine KR.out.mono ?_;rintro r w4 ⟨rfl,b4,f4⟩))
 go_end0
 have wG:=C9 (f:=⟨a,s,t⟩) h0 m1 ya _ b4 f4 (by rw[Js rfl] at bO;exact bO);rw[Js rfl];exact⟨rfl,wG.1,(aa.nix f0).trans wG.2⟩
section
section
variable {P:Program} {w w1:World} {m t k et:TypeId} {R:List GE} {clock:Nat}
theorem lF.delete_e(K:Keyed P k)(h1:lF w m R clock)(h2:K7 P k R clock)(ht:P.underlying t=some (.map k et))(hm:e∈R)(t2:TypeId):
  ∃w' R2,(∀ty,(Builtin.delete_ #[t,t2] ty #[.map (some m),e.key]).run P w=.ok (.tuple #[]) w')∧lF w' m R2 clock∧K7 P k R2 clock∧R.Perm (e::R2)∧R2.Sublist R∧aa (·=m) w w':=by
 have hx:=h2.isK _ hm;rcases h2.find K hx (w:=w) with ⟨hf,hn⟩|⟨j,e',hf,hj,he⟩
 ·exact absurd rfl (hn e hm)
 ·have uO:j<R.length:=(List.getElem?_eq_some_iff.1 hj).1
  have I9:R[j]=e':=(List.getElem?_eq_some_iff.1 hj).2
  have Qx:e'=e:=by
   have h3:=h2.keys;have Vj:e'∈R:=I9 ▸ List.getElem_mem uO;rw[List.nodup_iff_pairwise_ne,List.pairwise_map] at h3
   by_cases hc:e'=e
   ·exact hc
   ·exfalso
    obtain⟨i,hi,Lq⟩:=List.mem_iff_getElem.1 hm
    have NG:i≠j:=by
     rintro rfl;exact hc (by rw[←I9,Lq])
    rcases Nat.lt_or_gt_of_ne NG with h|h
    ·exact List.pairwise_iff_getElem.1 h3 i j hi uO h (by rw[Lq,I9,he])
    ·exact List.pairwise_iff_getElem.1 h3 j i uO hi h (by rw[Lq,I9,he])
  subst Qx
  have lT:R=R.take j++e'::R.drop (j+1):=by
   conv=>lhs;rw[←List.take_append_drop j R,List.drop_eq_getElem_cons uO,I9]
  obtain⟨A,hA⟩:∃A,A=R.take j:=⟨_,rfl⟩;obtain⟨B,hB⟩:∃B,B=R.drop (j+1):=⟨_,rfl⟩;rw[←hA,←hB] at lT;have NE:A.length=j:=by rw[hA,List.length_take];omega
  have LI:(R.map GE.me).eraseIdx j=(A++B).map GE.me:=by
   rw[lT,←NE,List.map_append,List.map_append,List.map_cons];have:A.length=(A.map GE.me).length:=by simp
   rw[this,tS]
  have xe:(A++B).Sublist R:=by
   rw[lT];exact(List.Sublist.refl A).append (List.sublist_cons_self e' B)
  refine⟨ChangeMaps.setBlock w m (.map ((A++B).map GE.me).toArray clock),A++B,λty=>?_,h1.put _ _,?_,?_,xe,(aa.refl (λi=>i=m) w).setBlock (.inl rfl) _⟩
  ·rw[←LI]
   simp[Builtin.delete_,run_underlying ht,MapKept.run_getObj_map h1,nz K hx,hf,MapKept.run_setObj_map _ h1,ChangeMaps.setBlock]
  ·exact⟨λy hy=>h2.born y (xe.subset hy),(xe.map _).nodup h2.borns,(xe.map _).nodup h2.keys,λy hy=>h2.isK y (xe.subset hy)⟩
  ·rw[lT]
   exact List.perm_middle
end
section
variable {α:Type} {g:α→Int} {l:List α} {id:Int}
theorem dU{a:α}(h:kS g id l=some a):l.Perm (a::cM g id l):=by
 induction l with
 | nil=>cases h
 | cons y r ih=>
   unfold kS at h ih;unfold cM at ih ⊢
   by_cases hy:g y=id
   ·rw[List.find?_cons_of_pos (by simpa using hy)] at h
    injection h with h;subst h;rw[List.eraseP_cons_of_pos (by simpa using hy)]
   ·rw[List.find?_cons_of_neg (by simpa using hy)] at h
    rw[List.eraseP_cons_of_neg (by simpa using hy)];exact((ih h).cons y).trans (List.Perm.swap _ _ _)
theorem uf{a:α}(f:α→α)(h:kS g id l=some a):(gK g id f l).Perm (f a::cM g id l):=by
 induction l with
 | nil=>cases h
 | cons y r ih=>
   unfold kS at h ih;unfold cM at ih ⊢
   by_cases hy:g y=id
   ·rw[List.find?_cons_of_pos (by simpa using hy)] at h
    injection h with h;subst h;rw[List.eraseP_cons_of_pos (by simpa using hy),gK,if_pos hy]
   ·rw[List.find?_cons_of_neg (by simpa using hy)] at h
    rw[List.eraseP_cons_of_neg (by simpa using hy),gK,if_neg hy];exact((ih h).cons y).trans (List.Perm.swap _ _ _)
theorem wH{a:α}(p:α→Bool)(h:kS g id l=some a):((cM g id l).filter p).length=(l.filter p).length-if p a=true then 1 else 0:=by
 rw[((dU h).filter p).length_eq,List.filter_cons];split<;>simp
theorem wI{a:α}(p:α→Bool)(h:kS g id l=some a)(hp:p a=true):1≤(l.filter p).length:=by
 rw[((dU h).filter p).length_eq,List.filter_cons,if_pos hp];simp
end
theorem Be(x:St){f:bh}(h:kS bh.id i x.fols=some f)(j:Int):bq {x with fols:=cM bh.id i x.fols} j=if j=f.inn then bq x j+ -1 else bq x j:=by
 unfold bq;simp only;rw[wH _ h]
 by_cases hj:j=f.inn
 ·have:=wI (λf:bh=>decide (f.inn=j)) h (by simpa using hj.symm)
  simp[hj] at this ⊢;omega
 ·have:¬f.inn=j:=λe=>hj e.symm
  simp[hj,this]
theorem Bf(x:St){f:aX}(l:List aR)(h:kS aX.id i x.fees=some f)(j:Int):bq {x with fees:=cM aX.id i x.fees,itms:=l} j=if j=f.inn then bq x j+ -1 else bq x j:=by
 unfold bq;simp only;rw[wH _ h]
 by_cases hj:j=f.inn
 ·have:=wI (λf:aX=>decide (f.inn=j)) h (by simpa using hj.symm)
  simp[hj] at this ⊢;omega
 ·have:¬f.inn=j:=λe=>hj e.symm
  simp[hj,this]
structure lA(w0 wr:World)(M:Ms)(x:St)(sl:Int→Sl)(fid:Int)(r clock:Nat)(R0:List GE)(seen:List Nat)(R:List GE)(K:List aR):Prop where
 iter:kt wr r M.it clock seen
 map:lF wr M.it R clock
 ok:K7 pQ 3 R clock
 sub:R.Sublist R0
 kv:(R.map GE.kv).Perm (K.map λt=>(kI t.id,iG (sl t.id) t))
 gu:aO pQ 153 wr M.gu (K.map λt=>(kP t.feed t.guid,kI t.id))
 ks:K.Sublist x.itms
 left:∀t∈x.itms,t.feed≠fid→t∈K
 done:∀e∈R,e.born∈seen→∀t∈x.itms,e.key=kI t.id→t.feed≠fid
 frm:aa (λk=>k=M.it∨k=M.gu) w0 wr
 rsz:w0.heap.size≤r
section
variable {w0 wr w1:World} {g:Nat} {M:Ms} {x:St} {sl:Int→Sl} {fid:Int} {r clock:Nat} {R0:List GE} {seen:List Nat} {R:List GE} {K:List aR}
theorem Hk(hx:gN x){a b:aR}(ha:a∈x.itms)(hb:b∈x.itms)(h:a.id=b.id):a=b:=yJ hx.iR ha hb h
theorem lA.over(h:lA w0 wr M x sl fid r clock R0 seen R K)(hx:gN x)(hl:cK seen R=[]):K=x.itms.filter λt=>decide (t.feed≠fid):=by
 have hall:∀t∈K,t.feed≠fid:=by
  intro t ht;obtain⟨e,he,Sa⟩:=List.mem_map.1 (h.kv.mem_iff.2 (List.mem_map.2 ⟨t,ht,rfl⟩))
  have hs:e.born∈seen:=by
   have:=List.filter_eq_nil_iff.1 hl e he
   simpa using this
  exact h.done e he hs t (h.ks.subset ht) (by unfold GE.kv at Sa;injection Sa)
 have h1:K.filter (λt=>decide (t.feed≠fid))=K:=List.filter_eq_self.2 λt ht=>by simpa using hall t ht
 have h2:K.Sublist (x.itms.filter λt=>decide (t.feed≠fid)):=by
  have:=h.ks.filter (λt:aR=>decide (t.feed≠fid))
  rwa [h1] at this
 have Qq:(x.itms.filter λt=>decide (t.feed≠fid)).Nodup:=by
  have:x.itms.Nodup:=hx.iR.imp λ{a b} hab e=>by subst e;exact absurd hab (Int.lt_irrefl _)
  exact List.filter_sublist.nodup this
 have h3:(x.itms.filter λt=>decide (t.feed≠fid)) ⊆ K:=λt ht=>by
  obtain⟨h4,h5⟩:=List.mem_filter.1 ht;exact h.left t h4 (by simpa using h5)
 exact h2.eq_of_length_le (Qq.length_le_of_subset h3)
theorem lA.item(h:lA w0 wr M x sl fid r clock R0 seen R K)(he:e∈cK seen R):e∈R∧∃t∈K,e.key=kI t.id∧e.val=iG (sl t.id) t:=by
 have h1:=(List.mem_filter.1 he).1;obtain⟨t,ht,hk⟩:=List.mem_map.1 (h.kv.mem_iff.1 (List.mem_map.2 ⟨e,h1,rfl⟩));unfold GE.kv at hk;injection hk with vh hk2;exact⟨h1,t,ht,vh.symm,hk2.symm⟩
theorem lA.skip(h:lA w0 wr M x sl fid r clock R0 seen R K)(hx:gN x){t:aR}(ht:t∈K)(hk:e.key=kI t.id)(hne:t.feed≠fid)(Gl:r≠M.it∧r≠M.gu)(hi:kt w1 r M.it clock (seen++[e.born]))(hf:aa (·=r) wr w1)(I2:e∈R):
  lA w0 w1 M x sl fid r clock R0 (seen++[e.born]) R K:=by
 refine⟨hi,h.map.frm hf Gl.1.symm,h.ok,h.sub,h.kv,h.gu.frm hf Gl.2.symm,h.ks,h.left,λe' he' hs t' JE Bg=>?_,h.frm.next hf (λk hk=>.inr (by have:=h.rsz;omega)),h.rsz⟩;rcases List.mem_append.1 hs with hs|hs
 ·exact h.done e' he' hs t' JE Bg
 ·simp at hs
  have Qx:e'=e:=by
   have hb:=h.ok.borns;rw[List.nodup_iff_pairwise_ne,List.pairwise_map] at hb
   by_cases hc:e'=e
   ·exact hc
   ·exfalso
    obtain⟨i,hi',rfl⟩:=List.mem_iff_getElem.1 he';obtain⟨j,hj,rfl⟩:=List.mem_iff_getElem.1 I2;have NG:i≠j:=by rintro rfl;exact hc rfl
    rcases Nat.lt_or_gt_of_ne NG with hl|hl
    ·exact List.pairwise_iff_getElem.1 hb i j hi' hj hl hs
    ·exact List.pairwise_iff_getElem.1 hb j i hj hi' hl hs.symm
  subst Qx;rw[hk] at Bg;have:=Hk hx (h.ks.subset ht) JE (sx.1 Bg);exact this ▸ hne
theorem lA.nix(h:lA w0 wr M x sl fid r clock R0 seen R K)(hf:aa ag wr w2):lA w0 w2 M x sl fid r clock R0 seen R K:=
 ⟨h.iter.frm hf id,h.map.frm hf id,h.ok,h.sub,h.kv,h.gu.frm hf id,h.ks,h.left,h.done,h.frm.trans hf.nix,h.rsz⟩
theorem lA.guRun(h:lA w0 wr M x sl fid r clock R0 seen R K)(hf:aa (·=r) wr W)(Gl:r≠M.it∧r≠M.gu){t:aR}(ht:t∈K):
  ∃w2,(∀ty,(Builtin.delete_ #[112,153] ty #[.map (some M.gu),.agg #[I J t.feed,V t.guid]]).run pQ W=.ok (.tuple #[]) w2)∧aO pQ 153 w2 M.gu ((K.erase t).map λt=>(kP t.feed t.guid,kI t.id))∧aa (·=M.gu) W w2:=by
 have hp:=(List.perm_cons_erase ht).map λt:aR=>(kP t.feed t.guid,kI t.id)
 exact(h.gu.frm hf Gl.2.symm).delete_yes CZ Tryz.underlying112 hp _
theorem lA.itRun(h:lA w0 wr M x sl fid r clock R0 seen R K)(hW:lF W M.it R clock)(I2:e∈R):
  ∃w3 R2,(∀ty,(Builtin.delete_ #[108,3] ty #[.map (some M.it),e.key]).run pQ W=.ok (.tuple #[]) w3)∧lF w3 M.it R2 clock∧K7 pQ 3 R2 clock∧R.Perm (e::R2)∧R2.Sublist R∧aa (·=M.it) W w3:=
 lF.delete_e cE hW h.ok Tryz.underlying108 I2 _
theorem lA.del(h:lA w0 wr M x sl fid r clock R0 seen R K){t:aR}(ht:t∈K)(hk:e.key=kI t.id)(hv:e.val=iG (sl t.id) t)(Gl:r≠M.it∧r≠M.gu)(TE:M.it≠M.gu)(I2:e∈R)(zP:t.feed=fid)
  {w2 w3:World} {R2:List GE} (hi:kt w1 r M.it clock (seen++[e.born])) (hf:aa (·=r) wr w1) (hg:aO pQ 153 w2 M.gu ((K.erase t).map λt=>(kP t.feed t.guid,kI t.id))) (f2:aa (·=M.gu) w1 w2)
  (h3:lF w3 M.it R2 clock) (PE:K7 pQ 3 R2 clock) (hp:R.Perm (e::R2)) (hs:R2.Sublist R) (f3:aa (·=M.it) w2 w3):lA w0 w3 M x sl fid r clock R0 (seen++[e.born]) R2 (K.erase t):=by
 refine⟨(hi.frm f2 Gl.2).frm f3 Gl.1,h3,PE,hs.trans h.sub,?_,hg.frm f3 (λe=>TE e.symm),List.erase_sublist.trans h.ks,λt' JE hne=>?_,λe' he' Bh t' JE Bg=>?_,((h.frm.next hf (λk hk=>.inr (by have:=h.rsz;omega))).trans (f2.mono λk hk=>.inr hk)).trans (f3.mono λk hk=>.inl hk),h.rsz⟩
 ·have p1:=(hp.map GE.kv).symm.trans (h.kv.trans ((List.perm_cons_erase ht).map λt:aR=>(kI t.id,iG (sl t.id) t)))
  rw[List.map_cons,List.map_cons] at p1;have:e.kv=(kI t.id,iG (sl t.id) t):=by unfold GE.kv;rw[hk,hv]
  rw[this] at p1;exact List.Perm.cons_inv p1
 ·have Mc:t'≠t:=by rintro rfl;exact hne zP
  exact(List.mem_erase_of_ne Mc).2 (h.left t' JE hne)
 ·rcases List.mem_append.1 Bh with Bh|Bh
  ·exact h.done e' (hs.subset he') Bh t' JE Bg
  ·simp at Bh
   have hb:=h.ok.borns;rw[(hp.map (·.born)).nodup_iff,List.map_cons,List.nodup_cons] at hb;exact absurd (List.mem_map.2 ⟨e',he',Bh⟩) hb.1
end
theorem Db{w0 wr w1 w2 w3:World}{g:Nat}{M:Ms}{x:St}{f:aX}{sl:Int→Sl}{r clock:Nat}{R0:List GE}{seen:List Nat}{R:List GE}{K:List aR}(h0:aH w0 g M x)(qW:∀t∈x.itms,bF w0 (sl t.id) t.tags)(hu:lA w0 wr M x sl f.id r clock R0 seen R K)(hl:cK seen R=[])(hf:kS aX.id f.id x.fees=some f)
  (m1:aO pQ 9 w1 M.pl ((cM aX.id f.id x.fees).map λf=>(V f.url,kI f.id))) (f1:aa (·=M.pl) wr w1)
  (m2:aO pQ 3 w2 M.fe ((cM aX.id f.id x.fees).map λf=>(kI f.id,kN f))) (f2:aa (·=M.fe) w1 w2)
  (hh:cF w3 M.he (λi=>if i=f.inn then bq x i+ -1 else bq x i)) (f3:aa (·=M.he) w2 w3)
  (bO:gN {x with fees:=cM aX.id f.id x.fees,itms:=x.itms.filter λt=>decide (t.feed≠f.id)}):
  aH w3 g M {x with fees:=cM aX.id f.id x.fees,itms:=x.itms.filter λt=>decide (t.feed≠f.id)}∧aa (SF g M) w0 w3:=by
 have hK:=hu.over h0.ok hl;subst hK;obtain⟨⟨g1,g2,g3,g4,g5,g6,g7,g8⟩,⟨o1,o2,o3,o4,o5,o6,o7⟩,⟨e1,e2,e3,e4,e5,e6⟩,⟨i1,i2,i3,i4,i5⟩,⟨s1,s2,s3,s4⟩,⟨a1,a2,a3⟩,⟨p1,p2⟩,u1⟩:=h0.apart.ne;have f23:aa (λk=>k=M.fe∨k=M.he) w1 w3:=(f2.mono λk hk=>.inl hk).trans (f3.mono λk hk=>.inr hk);have Qy:aa (λk=>k=M.pl∨k=M.fe∨k=M.he) wr w3:=(f1.mono λk hk=>.inl hk).trans (f23.mono λk hk=>.inr hk);have Fh:aa (λk=>(k=M.it∨k=M.gu)∨k=M.pl∨k=M.fe∨k=M.he) w0 w3:=(hu.frm.mono λk hk=>.inl hk).trans (Qy.mono λk hk=>.inr hk)
 have fS:aa (SF g M) w0 w3:=Fh.mono λk hk=>by
  unfold SF;rcases hk with (h|h)|h|h|h<;>simp[h]
 refine⟨⟨h0.blk.frm Fh (by simp[g3,g7,g6,g2,g8]),⟨?_,?_,⟨sl,?_,λy hy=>(qW y (List.mem_filter.1 hy).1).frm fS h0.str⟩,?_,?_,?_,?_,?_⟩,h0.apart,bO⟩,fS⟩
 ·exact h0.maps.fo.frm Fh (by simp[o2,o6,o5,o1,o7])
 ·exact m2.frm f3 e6
 ·exact aO.frm ⟨R,clock,hu.map,hu.ok,hu.kv⟩ Qy (by simp[i3,e1.symm,i5])
 ·exact h0.maps.se.frm Fh (by simp[i1.symm,s3,s2,e2.symm,s4])
 ·exact h0.maps.na.frm Fh (by simp[i2.symm,a2,a1,e3.symm,a3])
 ·exact m1.frm f23 (by simp[e4.symm,p2])
 ·exact hu.gu.frm Qy (by simp[p1.symm,e5.symm,u1])
 ·exact hh.congr λi=>(Bf x _ hf i).symm
theorem Bi{x:St}(h:gN x){f:aX}(hf:f∈x.fees):f.url.size≤maxLen∧bn f.inn∧bn f.id:=by
 have h1:=(h.eE f hf).1;rw[Lf] at h1;simp only[Bool.and_eq_true] at h1;have h2:=nX h1.1.2;have:=mo;have h3:=h1.1.1.2;have h4:=h.eId hf;unfold bn;simp[aK,nj] at h3;omega
theorem Dc{w:World}{g:Nat}{M:Ms}{x:St}(h:aH w g M x){f:aX}(hf:kS aX.id f.id x.fees=some f)(bO:gN {x with fees:=cM aX.id f.id x.fees,itms:=x.itms.filter λt=>decide (t.feed≠f.id)}):
  Calls pQ 88 #[O (some ⟨g,0,none⟩),kN f] w λr w'=>r=.returned (.tuple #[])∧aH w' g M {x with fees:=cM aX.id f.id x.fees,itms:=x.itms.filter λt=>decide (t.feed≠f.id)}∧aa (SF g M) w w':=by
 obtain⟨hsz,Fi,hid⟩:=Bi h.ok (gM hf).1;obtain⟨⟨g1,g2,g3,g4,g5,g6,g7,g8⟩,⟨o1,o2,o3,o4,o5,o6,o7⟩,⟨e1,e2,e3,e4,e5,e6⟩,⟨i1,i2,i3,i4,i5⟩,⟨s1,s2,s3,s4⟩,⟨a1,a2,a3⟩,⟨p1,p2⟩,u1⟩:=h.apart.ne;obtain⟨w0,hw0⟩:∃w0,w0=w.alloc (.cells #[I J f.id,I J f.inn,V f.url,V f.title] 64):=⟨_,rfl⟩;have f0:aa ag w w0:=by rw[hw0];exact(fR w).alloc _
 have uU:aj w0 w.heap.size 64 #[I J f.id,I J f.inn,V f.url,V f.title]:=by rw[hw0];exact aj.new w _ _
 have h0:=h.nix f0;have JK:w0.heap.size=w.heap.size+1:=by rw[hw0];simp
 have hlt:=h.lt;obtain⟨sl,⟨R0,clock,hm0,hg0,qI⟩,qW⟩:=h0.maps.it;have hrg:=hm0.range (P:=pQ) Tryz.underlying108;obtain⟨c0,c1,c2,c3,c4,c5,c6,c7,c8,-⟩:=h0.cells;have HS:=h_ h0;have HB:=h_ uU;have HF:=h_ f0;have HT:=h_ qW;have HG:=h_ hg0
 have HI:Hid (lA w0 (w0.alloc (.mapIter (some M.it) clock #[] clock)) M x sl f.id (w.heap.size+1) clock R0 [] R0 x.itms):=by
  refine⟨?_,hm0.frm ((fR w0).alloc _) id,hg0,List.Sublist.refl _,qI,h0.maps.gu.frm ((fR w0).alloc _) id,List.Sublist.refl _,λt ht _=>ht,λe _ he=>(by cases he),(aa.refl _ w0).alloc _,by omega⟩;have:=heap_alloc_new w0 (.mapIter (some M.it) clock #[] clock);rw[JK] at this;exact this
 have HW:=h_ hw0;have Gl:w.heap.size+1≠M.it∧w.heap.size+1≠M.gu:=⟨λe=>by have:=hlt M.it (by simp[SF]);omega,λe=>by have:=hlt M.gu (by simp[SF]);omega⟩;have Bj:∀k,SF g M k→w.heap.size≠k:=λk hk e=>by have:=hlt k hk;omega
 rw[JK] at hrg;rw[hw0] at c3 hrg;have HZ:=h_ JK;clear h f0 uU h0 hm0 qI qW hw0 hlt c0 c1 c2 c4 c5 c6 c7 c8 JK;unfold kN;go_enter Tryz.func88,Tryz.ntmps88;go_wp2;rw[←HW.out];clear c3 hrg
 go_loopw [4,5] (λ_ _ wr=>∃(seen:List Nat) (R:List GE) (K:List aR),lA w0 wr M x sl f.id (w.heap.size+1) clock R0 seen R K) (λ_ _ wr=>leftGN wr (w.heap.size+1) R0)
 case atStart=>
  exact⟨[],R0,x.itms,HI.out⟩
 case round=>
  obtain⟨seen,R,K,hu⟩:=hrel
  by_cases hl:cK seen R=[]
  ·have hn:=hu.map.next_over (P:=pQ) hu.iter hu.ok.born hl
   have h0:=HS.out;have hst:=h0.blk.frm hu.frm (by simp;exact⟨g3,g7⟩);have k6:=hst.cell 6;simp at k6;have lR:=HB.out.frm hu.frm (by have:=Bj M.it (by simp[SF]);have:=Bj M.gu (by simp[SF]);simp;omega);have d0:=lR.cell 0;have d1:=lR.cell 1;have d2:=lR.cell 2;simp at d0 d1 d2;have hperm:=dU hf;obtain⟨wa,ra,ma,fa⟩:=((h0.maps.pl.frm hu.frm (by simp[p1,i3.symm])).frm (fR wr).drew id).delete_yes CX Tryz.underlying111 (hperm.map λf:aX=>((.string f.url:Value),kI f.id)) 9;have fa':aa (·=M.pl) wr wa:=((aa.refl (·=M.pl) wr).drew).trans fa;have ba:=hst.frm fa' g6;have bxa:=lR.frm fa' (Bj _ (by simp[SF]));have l2:=ba.cell 2;simp at l2;have y0:=bxa.cell 0;simp at y0;have f0a:aa (λk=>(k=M.it∨k=M.gu)∨k=M.pl) w0 wa:=(hu.frm.mono λk hk=>.inl hk).trans (fa'.mono λk hk=>.inr hk);obtain⟨wc,rc,mc,fc⟩:=((h0.maps.fe.frm f0a (by simp[e1,e4,e5])).frm (fR wa).drew id).delete_yes cE Tryz.underlying107 (hperm.map λf:aX=>(kI f.id,kN f)) 3;have fc':aa (·=M.fe) wa wc:=((aa.refl (·=M.fe) wa).drew).trans fc;have bc:=ba.frm fc' g2;have bxc:=bxa.frm fc' (Bj _ (by simp[SF]));have z8:=bc.cell 8;simp at z8;have z1:=bxc.cell 1;simp at z1;have f0c:aa (λk=>((k=M.it∨k=M.gu)∨k=M.pl)∨k=M.fe) w0 wc:=(f0a.mono λk hk=>.inl hk).trans (fc'.mono λk hk=>.inr hk);have Sb:=h0.held.frm f0c (by simp[i5.symm,u1.symm,p2.symm,e6.symm]);have N0:=pR h0.ok f.inn;have KH:=h_ (pP (n:=-1) z8 Sb Fi (by omega) (by omega))
   have bK:Hid (∀w3,cF w3 M.he (λj=>if j=f.inn then bq x j+ -1 else bq x j)→aa (·=M.he) wc w3→aH w3 g M {x with fees:=cM aX.id f.id x.fees,itms:=x.itms.filter λt=>decide (t.feed≠f.id)}∧aa (SF g M) w0 w3):=
    λw3 I1 f3=>Db h0 HT.out hu hl hf ma fa' mc fc' I1 f3 bO
   have ra':∀ty,(Builtin.delete_ #[111,9] ty #[.map (some M.pl),V f.url]).run pQ wr.drew=.ok (.tuple #[]) wa:=ra;have rc':∀ty,(Builtin.delete_ #[107,3] ty #[.map (some M.fe),I J f.id]).run pQ wa.drew=.ok (.tuple #[]) wc:=rc;clear hu h0 hst lR hperm ra ma fa fa' ba bxa f0a rc mc fc fc' bc bxc f0c Sb N0;go_wp2
   go_still_tail 6,(by kernel_rfl)
   change wpList _ _ _ _ _ wr.drew;go_wp2_with (refine cu ra' rfl _ _ rfl rfl rfl ?_)
   go_still_tail 6,(by kernel_rfl)
   change wpList _ _ _ _ _ wa.drew
   go_wp2_with (first
    | (refine cu rc' rfl _ _ rfl rfl rfl ?_)
    | (go_at_call 87;refine KH.out.mono ?_;rintro r w3 ⟨rfl,I1,f3⟩))
   go_end0
   obtain⟨k1,k2⟩:=bK.out _ I1 f3;exact⟨rfl,k1,(aa.nix HF.out).trans k2⟩
  ·obtain⟨e,w1,he,hn,wJ,gI⟩:=hu.map.next_some (P:=pQ) hu.iter hu.ok.born hl
   obtain⟨I2,t,ht,hk,hv⟩:=hu.item he;have hm1:=hu.map.frm gI Gl.1.symm;have hen:=hm1.entry (P:=pQ) wJ I2 hu.ok.borns;rw[hk,hv] at hn hen
   have HM:Hid (∀W,kt W (w.heap.size+1) M.it clock (seen++[e.born])→leftGN W (w.heap.size+1) R0<leftGN wr (w.heap.size+1) R0):=by
    intro W hW;have rE:e∈cK seen R0:=List.mem_filter.2 ⟨hu.sub.subset I2,(List.mem_filter.1 he).2⟩;rw[hW.leftGN,hu.iter.leftGN,(Cj HG.out.borns rE).length_eq];simp
   unfold kI iG NS at hn hen;have HN:=h_ hu;have Vk:=h_ wJ;have pG:=h_ gI;have JL:aa (λk=>k=M.it∨k=M.gu) w0 w1:=hu.frm.next gI (λk hk=>.inr (by have:=hu.rsz;omega))
   have lR:=HB.out.frm JL (by have:=Bj M.it (by simp[SF]);have:=Bj M.gu (by simp[SF]);simp;omega);have d0:=lR.cell 0;simp at d0;have ld:w.heap.size<w1.heap.size:=lR.lt
   by_cases zP:t.feed=f.id
   ·have Mx:=HS.out.blk.frm JL (by simp;exact⟨g3,g7⟩)
    obtain⟨wb,Ah⟩:∃wb,wb=w1.alloc (.cells #[I J t.id,I J f.id,I J t.date,V t.guid,V t.title,V t.link,.bool t.read,.bool t.star,U (sl t.id).1 t.tags.length (sl t.id).2] 82):=⟨_,rfl⟩;have hfb:aa ag w1 wb:=by rw[Ah];exact(fR w1).alloc _
    have yV:aj wb w1.heap.size 82 #[I J t.id,I J f.id,I J t.date,V t.guid,V t.title,V t.link,.bool t.read,.bool t.star,U (sl t.id).1 t.tags.length (sl t.id).2]:=by rw[Ah];exact aj.new w1 _ _
    have q1:=yV.cell 1;have q3:=yV.cell 3;simp at q1 q3;have N1:=Mx.frm hfb id;have k7:=N1.cell 7;simp at k7;obtain⟨w2,r2,hg2,f2⟩:=hu.guRun (gI.trans (hfb.drew.mono λ_ h=>absurd h id)) Gl ht;have qN:aa (·=M.gu) w1 w2:=(aa.nix hfb.drew).trans f2;have TF:=(Mx.frm qN g7).cell 3;simp at TF;have N2:lF w2 M.it R clock:=hm1.frm qN i4;obtain⟨w3,R2,r3,h3,PE,Sc,hs3,f3⟩:=hu.itRun N2 I2;rw[hk] at r3;rw[zP] at r2 hn hen;unfold kI at r3;have HU:=h_ (hu.del ht hk hv Gl i4 I2 zP wJ gI hg2 qN h3 PE Sc hs3 f3);have JM:=h_ Ah;clear hu wJ gI hm1 he lR JL Mx hfb yV N1 hg2 f2 qN N2 h3 PE Sc hs3 f3 Ah zP;go_wp2;rw[←JM.out]
    go_still_tail 9,(by kernel_rfl)
    change wpList _ _ _ _ _ wb.drew
    go_wp2_with (first
     | (refine cu r2 rfl _ _ rfl rfl rfl ?_)
     | (refine cu r3 rfl _ _ rfl rfl rfl ?_))
    try go_wp2
    go_roundw
    case rel=>
     repeat apply Exists.intro
     exact⟨⟨_,_,_,HU.out⟩,rfl⟩
    case measure=>exact HM.out _ HU.out.iter
   ·have HU:=h_ (hu.skip (w1:=w1) HS.out.ok ht hk zP Gl wJ gI I2)
    clear hu wJ gI hm1 he lR JL;go_wp2;go_roundw
    case rel=>exact⟨_,_,_,HU.out.nix ((fR w1).alloc _)⟩
    case measure=>exact HM.out _ (HU.out.nix ((fR w1).alloc _)).iter
end
end Go.Proofs.YtaecjmiobllhmaaGreat
