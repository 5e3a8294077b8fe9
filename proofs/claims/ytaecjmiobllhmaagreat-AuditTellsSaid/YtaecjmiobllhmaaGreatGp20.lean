/- Words. -/
import Derived.Test.YtaecjmiobllhmaaGreatGp19
import Derived.StillTailTactics
import Derived.Test.YtaecjmiobllhmaaGreatGp13
set_option linter.unusedVariables false
set_option linter.unusedSimpArgs false
set_option maxRecDepth 100000
set_option maxHeartbeats 16000000
namespace Go.Proofs.YtaecjmiobllhmaaGreat
open Go.RowKit Go.Lib
open Go.Maps (Keyed)
theorem cells13{w:World}{g:Nat}{M:Ms}{c t0 t1 t2 t3:Int}(h:Blk w g 116 (stCells c M (t0,t1,t2,t3))):w.cell? ⟨g,0,none⟩=some (.int .i64 c)∧w.cell? ⟨g,1,none⟩=some (.map (some M.fo))∧w.cell? ⟨g,2,none⟩=some (.map (some M.fe))∧w.cell? ⟨g,3,none⟩=some (.map (some M.it))∧w.cell? ⟨g,4,none⟩=some (.map (some M.se))∧
  w.cell? ⟨g,5,none⟩=some (.map (some M.na))∧w.cell? ⟨g,6,none⟩=some (.map (some M.pl))∧w.cell? ⟨g,7,none⟩=some (.map (some M.gu))∧w.cell? ⟨g,8,none⟩=some (.map (some M.he)):=by
 have c0:=h.cell 0;have c1:=h.cell 1;have c2:=h.cell 2;have c3:=h.cell 3;have c4:=h.cell 4;have c5:=h.cell 5;have c6:=h.cell 6;have c7:=h.cell 7;have c8:=h.cell 8;simp[stCells] at c0 c1 c2 c3 c4 c5 c6 c7 c8;exact⟨c0,c1,c2,c3,c4,c5,c6,c7,c8⟩
theorem StAt.stBlk{w:World}{g:Nat}{M:Ms}{x:St}(h:StAt w g M x):Blk w g 116 (stCells x.clock M (x.tFol,x.tFee,x.tItm,x.tSea)):=h.blk
theorem StAt.held{w:World}{g:Nat}{M:Ms}{x:St}(h:StAt w g M x):HeldIs w M.he (heldS x):=h.maps.he
theorem MsApart.ne{g:Nat}{M:Ms}(h:MsApart g M):(g≠M.fo∧g≠M.fe∧g≠M.it∧g≠M.se∧g≠M.na∧g≠M.pl∧g≠M.gu∧g≠M.he)∧(M.fo≠M.fe∧M.fo≠M.it∧M.fo≠M.se∧M.fo≠M.na∧M.fo≠M.pl∧M.fo≠M.gu∧M.fo≠M.he)∧(M.fe≠M.it∧M.fe≠M.se∧M.fe≠M.na∧M.fe≠M.pl∧M.fe≠M.gu∧M.fe≠M.he)∧
  (M.it≠M.se∧M.it≠M.na∧M.it≠M.pl∧M.it≠M.gu∧M.it≠M.he)∧(M.se≠M.na∧M.se≠M.pl∧M.se≠M.gu∧M.se≠M.he)∧(M.na≠M.pl∧M.na≠M.gu∧M.na≠M.he)∧(M.pl≠M.gu∧M.pl≠M.he)∧M.gu≠M.he:=by
 have:=h.nodup;simp only[List.nodup_cons,List.mem_cons,not_or,List.not_mem_nil,not_false_eq_true,and_true,List.nodup_nil] at this;simp only[ne_eq];exact this
theorem HeldIs.frm{w w1:World}{F:Nat→Prop}{m:Nat}{c:Int→Int}(h:HeldIs w m c)(hf:Frm F w w1)(hn:¬F m):HeldIs w1 m c:=by
 obtain⟨L,h1,h2⟩:=h;exact⟨L,h1.frm hf hn,h2⟩
theorem filter_ins{α:Type}{g:α→Int}(p:α→Bool)(y:α)(l:List α):((insI g y l).filter p).length=(l.filter p).length+if p y=true then 1 else 0:=by
 rw[((insI_perm g y l).filter p).length_eq,List.filter_cons];split<;>simp
theorem held_insFol(x:St)(f:Fol)(t:Int)(i:Int):heldS {x with fols:=insI Fol.id f x.fols,tFol:=t} i=if i=f.inn then heldS x i+1 else heldS x i:=by
 unfold heldS;rw[filter_ins]
 by_cases h:i=f.inn
 ·simp[h]
  omega
 ·have:¬f.inn=i:=λe=>h e.symm
  simp[h,this]
theorem held_insFee(x:St)(f:Fee)(t:Int)(i:Int):heldS {x with fees:=insI Fee.id f x.fees,tFee:=t} i=if i=f.inn then heldS x i+1 else heldS x i:=by
 unfold heldS;rw[filter_ins]
 by_cases h:i=f.inn
 ·simp[h]
  omega
 ·have:¬f.inn=i:=λe=>h e.symm
  simp[h,this]
theorem HeldIs.congr{w:World}{m:Nat}{c c':Int→Int}(h:HeldIs w m c)(hc:∀i,c i=c' i):HeldIs w m c':=by
 obtain⟨L,h1,h2,h3⟩:=h;exact⟨L,h1,h2,λi hi=>(h3 i hi).trans (hc i)⟩
theorem make1_mem{w0 w1 w2 w3 w4:World}{g:Nat}{M:Ms}{x:St}{f:Fol}(h0:StAt w0 g M x)(m1:MapIs Tryz.prog 3 w1 M.fo ((kI f.id,folV f)::x.fols.map λf=>(kI f.id,folV f)))(f1:Frm (·=M.fo) w0 w1)
  (m2:MapIs Tryz.prog 134 w2 M.na ((kP f.inn f.name,kI f.id)::x.fols.map λf=>(kP f.inn f.name,kI f.id))) (f2:Frm (·=M.na) w1 w2)
  (hh:HeldIs w3 M.he (λi=>if i=f.inn then heldS x i+1 else heldS x i)) (f3:Frm (·=M.he) w2 w3) (t:Int) (b4:Blk w4 g 116 (stCells x.clock M (t,x.tFee,x.tItm,x.tSea))) (f4:Frm (·=g) w3 w4)
  (hok:StP {x with fols:=insI Fol.id f x.fols,tFol:=t}):StAt w4 g M {x with fols:=insI Fol.id f x.fols,tFol:=t}∧Frm (SF g M) w0 w4:=by
 obtain⟨⟨g1,g2,g3,g4,g5,g6,g7,g8⟩,⟨o1,o2,o3,o4,o5,o6,o7⟩,⟨e1,e2,e3,e4,e5,e6⟩,⟨i1,i2,i3,i4,i5⟩,⟨s1,s2,s3,s4⟩,⟨a1,a2,a3⟩,⟨p1,p2⟩,u1⟩:=h0.apart.ne;have f24:Frm (λk=>k=M.he∨k=g) w2 w4:=(f3.mono λk hk=>.inl hk).trans (f4.mono λk hk=>.inr hk);have f14:Frm (λk=>k=M.na∨k=M.he∨k=g) w1 w4:=(f2.mono λk hk=>.inl hk).trans (f24.mono λk hk=>.inr hk);have f04:Frm (λk=>k=M.fo∨k=M.na∨k=M.he∨k=g) w0 w4:=(f1.mono λk hk=>.inl hk).trans (f14.mono λk hk=>.inr hk)
 have fS:Frm (SF g M) w0 w4:=f04.mono λk hk=>by
  unfold SF;rcases hk with h | h | h | h<;>simp[h]
 obtain⟨sl,hi,ht⟩:=h0.maps.it;refine⟨⟨b4,⟨?_,?_,⟨sl,?_,λy hy=>(ht y hy).frm fS (h0.str)⟩,?_,?_,?_,?_,?_⟩,h0.apart,hok⟩,fS⟩
 ·exact(m1.frm f14 (by simp[o4,o7,g1.symm])).perm ((insI_perm Fol.id f x.fols).map λf:Fol=>(kI f.id,folV f)).symm
 ·exact h0.maps.fe.frm f04 (by simp[o1.symm,e3,e6,g2.symm])
 ·exact hi.frm f04 (by simp[o2.symm,i2,i5,g3.symm])
 ·exact h0.maps.se.frm f04 (by simp[o3.symm,s1,s4,g4.symm])
 ·exact(m2.frm f24 (by simp[a3,g5.symm])).perm ((insI_perm Fol.id f x.fols).map λf:Fol=>(kP f.inn f.name,kI f.id)).symm
 ·exact h0.maps.pl.frm f04 (by simp[o5.symm,a1.symm,p2,g6.symm])
 ·exact h0.maps.gu.frm f04 (by simp[o6.symm,a2.symm,u1,g7.symm])
 ·exact(hh.frm f4 g8.symm).congr λi=>(held_insFol x f t i).symm
theorem make3_mem{w0 w1 w2 w3 w4:World}{g:Nat}{M:Ms}{x:St}{f:Fee}(h0:StAt w0 g M x)(m1:MapIs Tryz.prog 3 w1 M.fe ((kI f.id,feeV f)::x.fees.map λf=>(kI f.id,feeV f)))(f1:Frm (·=M.fe) w0 w1)
  (m2:MapIs Tryz.prog 9 w2 M.pl ((.string f.url,kI f.id)::x.fees.map λf=>(.string f.url,kI f.id))) (f2:Frm (·=M.pl) w1 w2)
  (hh:HeldIs w3 M.he (λi=>if i=f.inn then heldS x i+1 else heldS x i)) (f3:Frm (·=M.he) w2 w3) (t:Int) (b4:Blk w4 g 116 (stCells x.clock M (x.tFol,t,x.tItm,x.tSea))) (f4:Frm (·=g) w3 w4)
  (hok:StP {x with fees:=insI Fee.id f x.fees,tFee:=t}):StAt w4 g M {x with fees:=insI Fee.id f x.fees,tFee:=t}∧Frm (SF g M) w0 w4:=by
 obtain⟨⟨g1,g2,g3,g4,g5,g6,g7,g8⟩,⟨o1,o2,o3,o4,o5,o6,o7⟩,⟨e1,e2,e3,e4,e5,e6⟩,⟨i1,i2,i3,i4,i5⟩,⟨s1,s2,s3,s4⟩,⟨a1,a2,a3⟩,⟨p1,p2⟩,u1⟩:=h0.apart.ne;have f24:Frm (λk=>k=M.he∨k=g) w2 w4:=(f3.mono λk hk=>.inl hk).trans (f4.mono λk hk=>.inr hk);have f14:Frm (λk=>k=M.pl∨k=M.he∨k=g) w1 w4:=(f2.mono λk hk=>.inl hk).trans (f24.mono λk hk=>.inr hk);have f04:Frm (λk=>k=M.fe∨k=M.pl∨k=M.he∨k=g) w0 w4:=(f1.mono λk hk=>.inl hk).trans (f14.mono λk hk=>.inr hk)
 have fS:Frm (SF g M) w0 w4:=f04.mono λk hk=>by
  unfold SF;rcases hk with h | h | h | h<;>simp[h]
 obtain⟨sl,hi,ht⟩:=h0.maps.it;refine⟨⟨b4,⟨?_,?_,⟨sl,?_,λy hy=>(ht y hy).frm fS (h0.str)⟩,?_,?_,?_,?_,?_⟩,h0.apart,hok⟩,fS⟩
 ·exact h0.maps.fo.frm f04 (by simp[o1,o5,o7,g1.symm])
 ·exact(m1.frm f14 (by simp[e4,e6,g2.symm])).perm ((insI_perm Fee.id f x.fees).map λf:Fee=>(kI f.id,feeV f)).symm
 ·exact hi.frm f04 (by simp[e1.symm,i3,i5,g3.symm])
 ·exact h0.maps.se.frm f04 (by simp[e2.symm,s2,s4,g4.symm])
 ·exact h0.maps.na.frm f04 (by simp[e3.symm,a1,a3,g5.symm])
 ·exact(m2.frm f24 (by simp[p2,g6.symm])).perm ((insI_perm Fee.id f x.fees).map λf:Fee=>((.string f.url:Value),kI f.id)).symm
 ·exact h0.maps.gu.frm f04 (by simp[e5.symm,p1.symm,u1,g7.symm])
 ·exact(hh.frm f4 g8.symm).congr λi=>(held_insFee x f t i).symm
theorem make7_mem{w0 w1 w2 w4:World}{g:Nat}{M:Ms}{x:St}{f:Itm}(h0:StAt w0 g M x)(hn:∀y∈x.itms,y.id≠f.id)(hft:f.tags=[]){sl:Int→Sl}(ht:∀t∈x.itms,TagsIn w0 (sl t.id) t.tags)
  (m1:MapIs Tryz.prog 3 w1 M.it ((kI f.id,itmV (none,0) f)::x.itms.map λt=>(kI t.id,itmV (sl t.id) t))) (f1:Frm (·=M.it) w0 w1)
  (m2:MapIs Tryz.prog 153 w2 M.gu ((kP f.feed f.guid,kI f.id)::x.itms.map λf=>(kP f.feed f.guid,kI f.id))) (f2:Frm (·=M.gu) w1 w2)
  (t:Int) (b4:Blk w4 g 116 (stCells x.clock M (x.tFol,x.tFee,t,x.tSea))) (f4:Frm (·=g) w2 w4)
  (hok:StP {x with itms:=insI Itm.id f x.itms,tItm:=t}):StAt w4 g M {x with itms:=insI Itm.id f x.itms,tItm:=t}∧Frm (SF g M) w0 w4:=by
 obtain⟨⟨g1,g2,g3,g4,g5,g6,g7,g8⟩,⟨o1,o2,o3,o4,o5,o6,o7⟩,⟨e1,e2,e3,e4,e5,e6⟩,⟨i1,i2,i3,i4,i5⟩,⟨s1,s2,s3,s4⟩,⟨a1,a2,a3⟩,⟨p1,p2⟩,u1⟩:=h0.apart.ne;have f14:Frm (λk=>k=M.gu∨k=g) w1 w4:=(f2.mono λk hk=>.inl hk).trans (f4.mono λk hk=>.inr hk);have f04:Frm (λk=>k=M.it∨k=M.gu∨k=g) w0 w4:=(f1.mono λk hk=>.inl hk).trans (f14.mono λk hk=>.inr hk)
 have fS:Frm (SF g M) w0 w4:=f04.mono λk hk=>by
  unfold SF;rcases hk with h | h | h<;>simp[h]
 have hmap:(x.itms.map λt=>(kI t.id,itmV (sl t.id) t))=x.itms.map λt=>(kI t.id,itmV (if t.id=f.id then (none,0) else sl t.id) t):=List.map_congr_left λy hy=>by rw[if_neg (hn y hy)]
 refine⟨⟨b4,⟨?_,?_,⟨λi=>if i=f.id then (none,0) else sl i,?_,λy hy=>?_⟩,?_,?_,?_,?_,?_⟩,h0.apart,hok⟩,fS⟩
 ·exact h0.maps.fo.frm f04 (by simp[o2,o6,g1.symm])
 ·exact h0.maps.fe.frm f04 (by simp[e1,e5,g2.symm])
 ·rw[hmap] at m1
  have:=((insI_perm Itm.id f x.itms).map λt:Itm=>(kI t.id,itmV (if t.id=f.id then (none,0) else sl t.id) t)).symm;rw[List.map_cons,if_pos rfl] at this;exact(m1.frm f14 (by simp[i4,g3.symm])).perm this
 ·rcases mem_insI.1 hy with rfl | hy
  ·simp only[if_pos]
   rw[hft];exact⟨Rd.none_,λ_=>rfl,Nat.le_refl _,Nat.zero_le _⟩
  ·simp only[if_neg (hn y hy)]
   exact(ht y hy).frm fS h0.str
 ·exact h0.maps.se.frm f04 (by simp[i1.symm,s3,g4.symm])
 ·exact h0.maps.na.frm f04 (by simp[i2.symm,a2,g5.symm])
 ·exact h0.maps.pl.frm f04 (by simp[i3.symm,p1,g6.symm])
 ·exact(m2.frm f4 g7.symm).perm ((insI_perm Itm.id f x.itms).map λf:Itm=>(kP f.feed f.guid,kI f.id)).symm
 ·exact(h0.held.frm f04 (by simp[i5.symm,u1.symm,g8.symm]))
theorem make11_mem{w0 w1 w4:World}{g:Nat}{M:Ms}{x:St}{f:Sea}(h0:StAt w0 g M x)
  (m1:MapIs Tryz.prog 3 w1 M.se ((kI f.id,seaV f)::x.seas.map λf=>(kI f.id,seaV f))) (f1:Frm (·=M.se) w0 w1)
  (t:Int) (b4:Blk w4 g 116 (stCells x.clock M (x.tFol,x.tFee,x.tItm,t))) (f4:Frm (·=g) w1 w4)
  (hok:StP {x with seas:=insI Sea.id f x.seas,tSea:=t}):StAt w4 g M {x with seas:=insI Sea.id f x.seas,tSea:=t}∧Frm (SF g M) w0 w4:=by
 obtain⟨⟨g1,g2,g3,g4,g5,g6,g7,g8⟩,⟨o1,o2,o3,o4,o5,o6,o7⟩,⟨e1,e2,e3,e4,e5,e6⟩,⟨i1,i2,i3,i4,i5⟩,⟨s1,s2,s3,s4⟩,⟨a1,a2,a3⟩,⟨p1,p2⟩,u1⟩:=h0.apart.ne;have f04:Frm (λk=>k=M.se∨k=g) w0 w4:=(f1.mono λk hk=>.inl hk).trans (f4.mono λk hk=>.inr hk)
 have fS:Frm (SF g M) w0 w4:=f04.mono λk hk=>by
  unfold SF;rcases hk with h | h<;>simp[h]
 obtain⟨sl,hi,ht⟩:=h0.maps.it;refine⟨⟨b4,⟨?_,?_,⟨sl,?_,λy hy=>(ht y hy).frm fS (h0.str)⟩,?_,?_,?_,?_,?_⟩,h0.apart,hok⟩,fS⟩
 ·exact h0.maps.fo.frm f04 (by simp[o3,g1.symm])
 ·exact h0.maps.fe.frm f04 (by simp[e2,g2.symm])
 ·exact hi.frm f04 (by simp[i1,g3.symm])
 ·exact(m1.frm f4 g4.symm).perm ((insI_perm Sea.id f x.seas).map λf:Sea=>(kI f.id,seaV f)).symm
 ·exact h0.maps.na.frm f04 (by simp[s1.symm,g5.symm])
 ·exact h0.maps.pl.frm f04 (by simp[s2.symm,g6.symm])
 ·exact h0.maps.gu.frm f04 (by simp[s3.symm,g7.symm])
 ·exact(h0.held.frm f04 (by simp[s4.symm,g8.symm]))
theorem make1_any{w:World}{g:Nat}{M:Ms}{x:St}(h:StAt w g M x)(a b n:Int)(s t u:ByteArray)(hfit:fits x ⟨1,a,b,n,s,t,u⟩=true)(ha:I64 a)(hb:I64 b):
  Calls Tryz.prog 90 #[.pointer (some ⟨g,0,none⟩),evV ⟨1,a,b,n,s,t,u⟩] w λr w'=>r=.returned (.tuple #[])∧StAt w' g M (doS x ⟨1,a,b,n,s,t,u⟩)∧Frm (SF g M) w w':=by
 have he:=fits_ev hfit
 have hsz:s.size≤maxLen:=by
  have h1:=he;rw[show (⟨1,a,b,n,s,t,u⟩:Ev)=⟨1,a,b,0,s,eS,eS⟩ from ev1_of he rfl,ev1] at h1;simp only[Bool.and_eq_true] at h1;have:=label_size h1.2;have:=maxLen_le;omega
 have hok:=doS_ok h.ok hfit;obtain⟨n1,n2,n3,n4,n5⟩:=(fits1 (x:=x) rfl he).1 hfit;simp only at n1 n5;obtain⟨⟨g1,g2,g3,g4,g5,g6,g7,g8⟩,⟨o1,o2,o3,o4,o5,o6,o7⟩,⟨e1,e2,e3,e4,e5,e6⟩,⟨i1,i2,i3,i4,i5⟩,⟨s1,s2,s3,s4⟩,⟨a1,a2,a3⟩,⟨p1,p2⟩,u1⟩:=h.apart.ne;obtain⟨w0,hw0⟩:∃w0,w0=w.alloc (.cells #[.int .i64 1,.int .i64 a,.int .i64 b,.int .i64 n,.string s,.string t,.string u] 42):=⟨_,rfl⟩;have f0:Frm Nix w w0:=by rw[hw0];exact(fR w).alloc _
 have hbe:Blk w0 w.heap.size 42 #[.int .i64 1,.int .i64 a,.int .i64 b,.int .i64 n,.string s,.string t,.string u]:=by rw[hw0];exact Blk.new w _ _
 have h0:=h.nix f0;have hlt:=h.lt;have hev:∀k,SF g M k→w.heap.size≠k:=λk hk e=>by have:=hlt k hk;omega
 obtain⟨w1,r1,m1,f1⟩:=(h0.maps.fo.frm (fR w0).drew id).update_new keyedI Tryz.underlying106 (isK_I ha) (λp hp=>by
  obtain⟨y,hy,rfl⟩:=List.mem_map.1 hp;exact λe=>n1 y hy (kI_inj.1 e)) (folV ⟨a,b,s⟩)
 have f1':Frm (·=M.fo) w0 w1:=((Frm.refl (·=M.fo) w0).drew).trans f1;have b1:Blk w1 g 116 _:=h0.stBlk.frm f1' g1;have be1:=hbe.frm f1' (hev _ (by simp[SF]));have r1':(Instr.mapUpdate 106 (.map (some M.fo)) (.int .i64 a) (.agg #[.int .i64 a,.int .i64 b,.string s])).run Tryz.prog w0.drew=.ok () w1:=r1
 obtain⟨w2,r2,m2,f2⟩:=((h0.maps.na.frm f1' o4.symm).frm (fR w1).drew id).update_new keyedN Tryz.underlying110 (isK_N hb hsz) (λp hp=>by
  obtain⟨y,hy,rfl⟩:=List.mem_map.1 hp;exact λe=>n5 y hy (kP_inj.1 e)) (kI a)
 have f2':Frm (·=M.na) w1 w2:=((Frm.refl (·=M.na) w1).drew).trans f2;have b2:=b1.frm f2' g5;have be2:=be1.frm f2' (hev _ (by simp[SF]));have r2':(Instr.mapUpdate 110 (.map (some M.na)) (.agg #[.int .i64 b,.string s]) (.int .i64 a)).run Tryz.prog w1.drew=.ok () w2:=r2;have HB:=h_ b2;have HE:=h_ be2;have hh2:=(h0.held.frm f1' o7.symm).frm f2' a3.symm;have HH:=h_ hh2;have hbe8:=hev M.he (by simp[SF]);have HL:Hid (-1000000≤heldS x b∧heldS x b≤1000000):=by have:=heldS_le h.ok b;unfold Hid;omega
 obtain⟨c0,c1,c2,c3,c4,c5,c6,c7,c8⟩:=cells13 h0.stBlk;obtain⟨d0,d1,d2,d3,d4,d5,d6⟩:=blk7 hbe;obtain⟨k0,k1,k2,k3,k4,k5,k6,k7,k8⟩:=cells13 b1;obtain⟨q0,q1,q2,q3,q4,q5,q6⟩:=blk7 be1;obtain⟨j0,j1,j2,j3,j4,j5,j6,j7,j8⟩:=cells13 b2;obtain⟨v0,v1,v2,v3,v4,v5,v6⟩:=blk7 be2;have HW:=h_ hw0;unfold evV;clear r1 r2 hw0;go_enter Tryz.func90,Tryz.ntmps90;go_wp2;rw[←HW.out]
 go_still_tail 13,(by kernel_rfl)
 change wpList _ _ _ _ _ w0.drew;go_wp2_with (at_mapUpdate;refine wpList_mapUpdate_run r1' rfl _ _ _ rfl rfl rfl rfl ?_);clear r1' c0 c1 c2 c3 c4 c5 c6 c7 c8 d0 d1 d2 d3 d4 d5 d6
 go_still_tail 11,(by kernel_rfl)
 change wpList _ _ _ _ _ w1.drew;clear k0 k1 k2 k3 k4 k5 k6 k7 k8 q0 q1 q2 q3 q4 q5 q6;have KH:=h_ (hold_any (n:=1) j8 HH.out hb HL.out (by omega))
 go_wp2_with (first
  | (at_mapUpdate;refine wpList_mapUpdate_run r2' rfl _ _ _ rfl rfl rfl rfl ?_)
  | (go_at_call 87;refine KH.out.mono ?_;rintro r w3 ⟨rfl,hh3,f3⟩;have b3:=HB.out.frm f3 g8;obtain⟨v0,v1,v2,v3,v4,v5,v6⟩:=blk7 (HE.out.frm f3 hbe8))
  | (go_at_call 143;refine(raise_any b3 0 (by omega) a).mono ?_;rintro r w4 ⟨rfl,b4,f4⟩))
 go_end0
 have hfin:=make1_mem (f:=⟨a,b,s⟩) h0 m1 f1' m2 f2' hh3 f3 _ b4 f4 (by rw[do1 rfl] at hok;exact hok);rw[do1 rfl];exact⟨rfl,hfin.1,(Frm.nix f0).trans hfin.2⟩
theorem make3_any{w:World}{g:Nat}{M:Ms}{x:St}(h:StAt w g M x)(a b n:Int)(s t u:ByteArray)(hfit:fits x ⟨3,a,b,n,s,t,u⟩=true)(ha:I64 a)(hb:I64 b):
  Calls Tryz.prog 90 #[.pointer (some ⟨g,0,none⟩),evV ⟨3,a,b,n,s,t,u⟩] w λr w'=>r=.returned (.tuple #[])∧StAt w' g M (doS x ⟨3,a,b,n,s,t,u⟩)∧Frm (SF g M) w w':=by
 have he:=fits_ev hfit
 have hsz:s.size≤maxLen:=by
  have h1:=he;rw[show (⟨3,a,b,n,s,t,u⟩:Ev)=⟨3,a,b,0,s,t,eS⟩ from ev3_of he rfl,ev3] at h1;simp only[Bool.and_eq_true] at h1;have:=place_size h1.1.2;have:=maxLen_le;omega
 have hok:=doS_ok h.ok hfit;obtain⟨n1,n2,n3,n4⟩:=(fits3 (x:=x) rfl he).1 hfit;have n5:=(place_iff h.ok s).1 n4;simp only at n1;obtain⟨⟨g1,g2,g3,g4,g5,g6,g7,g8⟩,⟨o1,o2,o3,o4,o5,o6,o7⟩,⟨e1,e2,e3,e4,e5,e6⟩,⟨i1,i2,i3,i4,i5⟩,⟨s1,s2,s3,s4⟩,⟨a1,a2,a3⟩,⟨p1,p2⟩,u1⟩:=h.apart.ne;obtain⟨w0,hw0⟩:∃w0,w0=w.alloc (.cells #[.int .i64 3,.int .i64 a,.int .i64 b,.int .i64 n,.string s,.string t,.string u] 42):=⟨_,rfl⟩;have f0:Frm Nix w w0:=by rw[hw0];exact(fR w).alloc _
 have hbe:Blk w0 w.heap.size 42 #[.int .i64 3,.int .i64 a,.int .i64 b,.int .i64 n,.string s,.string t,.string u]:=by rw[hw0];exact Blk.new w _ _
 have h0:=h.nix f0;have hlt:=h.lt;have hev:∀k,SF g M k→w.heap.size≠k:=λk hk e=>by have:=hlt k hk;omega
 obtain⟨w1,r1,m1,f1⟩:=(h0.maps.fe.frm (fR w0).drew id).update_new keyedI Tryz.underlying107 (isK_I ha) (λp hp=>by
  obtain⟨y,hy,rfl⟩:=List.mem_map.1 hp;exact λe=>n1 y hy (kI_inj.1 e)) (feeV ⟨a,b,s,t⟩)
 have f1':Frm (·=M.fe) w0 w1:=((Frm.refl (·=M.fe) w0).drew).trans f1;have b1:Blk w1 g 116 _:=h0.stBlk.frm f1' g2;have be1:=hbe.frm f1' (hev _ (by simp[SF]));have r1':(Instr.mapUpdate 107 (.map (some M.fe)) (.int .i64 a) (.agg #[.int .i64 a,.int .i64 b,.string s,.string t])).run Tryz.prog w0.drew=.ok () w1:=r1
 obtain⟨w2,r2,m2,f2⟩:=((h0.maps.pl.frm f1' e4.symm).frm (fR w1).drew id).update_new keyedS Tryz.underlying111 (isK_S hsz) (λp hp=>by
  obtain⟨y,hy,rfl⟩:=List.mem_map.1 hp;exact λe=>n5 y hy (by simpa using e)) (kI a)
 have f2':Frm (·=M.pl) w1 w2:=((Frm.refl (·=M.pl) w1).drew).trans f2;have b2:=b1.frm f2' g6;have be2:=be1.frm f2' (hev _ (by simp[SF]));have r2':(Instr.mapUpdate 111 (.map (some M.pl)) (.string s) (.int .i64 a)).run Tryz.prog w1.drew=.ok () w2:=r2;have HB:=h_ b2;have HE:=h_ be2;have hh2:=(h0.held.frm f1' e6.symm).frm f2' p2.symm;have HH:=h_ hh2;have hbe8:=hev M.he (by simp[SF]);have HL:Hid (-1000000≤heldS x b∧heldS x b≤1000000):=by have:=heldS_le h.ok b;unfold Hid;omega
 obtain⟨c0,c1,c2,c3,c4,c5,c6,c7,c8⟩:=cells13 h0.stBlk;obtain⟨d0,d1,d2,d3,d4,d5,d6⟩:=blk7 hbe;obtain⟨k0,k1,k2,k3,k4,k5,k6,k7,k8⟩:=cells13 b1;obtain⟨q0,q1,q2,q3,q4,q5,q6⟩:=blk7 be1;obtain⟨j0,j1,j2,j3,j4,j5,j6,j7,j8⟩:=cells13 b2;obtain⟨v0,v1,v2,v3,v4,v5,v6⟩:=blk7 be2;have HW:=h_ hw0;unfold evV;clear r1 r2 hw0;go_enter Tryz.func90,Tryz.ntmps90;go_wp2;rw[←HW.out]
 go_still_tail 15,(by kernel_rfl)
 change wpList _ _ _ _ _ w0.drew;go_wp2_with (at_mapUpdate;refine wpList_mapUpdate_run r1' rfl _ _ _ rfl rfl rfl rfl ?_);clear r1' c0 c1 c2 c3 c4 c5 c6 c7 c8 d0 d1 d2 d3 d4 d5 d6
 go_still_tail 8,(by kernel_rfl)
 change wpList _ _ _ _ _ w1.drew;clear k0 k1 k2 k3 k4 k5 k6 k7 k8 q0 q1 q2 q3 q4 q5 q6;have KH:=h_ (hold_any (n:=1) j8 HH.out hb HL.out (by omega))
 go_wp2_with (first
  | (at_mapUpdate;refine wpList_mapUpdate_run r2' rfl _ _ _ rfl rfl rfl rfl ?_)
  | (go_at_call 87;refine KH.out.mono ?_;rintro r w3 ⟨rfl,hh3,f3⟩;have b3:=HB.out.frm f3 g8;obtain⟨v0,v1,v2,v3,v4,v5,v6⟩:=blk7 (HE.out.frm f3 hbe8))
  | (go_at_call 143;refine(raise_any b3 1 (by omega) a).mono ?_;rintro r w4 ⟨rfl,b4,f4⟩))
 go_end0
 have hfin:=make3_mem (f:=⟨a,b,s,t⟩) h0 m1 f1' m2 f2' hh3 f3 _ b4 f4 (by rw[do3 rfl] at hok;exact hok);rw[do3 rfl];exact⟨rfl,hfin.1,(Frm.nix f0).trans hfin.2⟩
theorem make7_any{w:World}{g:Nat}{M:Ms}{x:St}(h:StAt w g M x)(a b n:Int)(s t u:ByteArray)(hfit:fits x ⟨7,a,b,n,s,t,u⟩=true)(ha:I64 a)(hb:I64 b):
  Calls Tryz.prog 90 #[.pointer (some ⟨g,0,none⟩),evV ⟨7,a,b,n,s,t,u⟩] w λr w'=>r=.returned (.tuple #[])∧StAt w' g M (doS x ⟨7,a,b,n,s,t,u⟩)∧Frm (SF g M) w w':=by
 have he:=fits_ev hfit
 have hsz:s.size≤maxLen:=by
  have h1:=he;rw[ev7] at h1;simp only[Bool.and_eq_true] at h1;have:=place_size h1.1.1.2;have:=maxLen_le;omega
 have hok:=doS_ok h.ok hfit;obtain⟨n1,n2,n3,n4⟩:=(fits7 (x:=x) rfl he).1 hfit;have n5:=(guid_iff h.ok b s).1 n4;simp only at n1;obtain⟨⟨g1,g2,g3,g4,g5,g6,g7,g8⟩,⟨o1,o2,o3,o4,o5,o6,o7⟩,⟨e1,e2,e3,e4,e5,e6⟩,⟨i1,i2,i3,i4,i5⟩,⟨s1,s2,s3,s4⟩,⟨a1,a2,a3⟩,⟨p1,p2⟩,u1⟩:=h.apart.ne;obtain⟨w0,hw0⟩:∃w0,w0=w.alloc (.cells #[.int .i64 7,.int .i64 a,.int .i64 b,.int .i64 n,.string s,.string t,.string u] 42):=⟨_,rfl⟩;have f0:Frm Nix w w0:=by rw[hw0];exact(fR w).alloc _
 have hbe:Blk w0 w.heap.size 42 #[.int .i64 7,.int .i64 a,.int .i64 b,.int .i64 n,.string s,.string t,.string u]:=by rw[hw0];exact Blk.new w _ _
 have h0:=h.nix f0;have hlt:=h.lt;have hev:∀k,SF g M k→w.heap.size≠k:=λk hk e=>by have:=hlt k hk;omega
 obtain⟨sl,hsl,htl⟩:=h0.maps.it
 obtain⟨w1,r1,m1,f1⟩:=(hsl.frm (fR w0).drew id).update_new keyedI Tryz.underlying108 (isK_I ha) (λp hp=>by
  obtain⟨y,hy,rfl⟩:=List.mem_map.1 hp;exact λe=>n1 y hy (kI_inj.1 e)) (itmV (none,0) ⟨a,b,n,s,t,u,false,false,[]⟩)
 have f1':Frm (·=M.it) w0 w1:=((Frm.refl (·=M.it) w0).drew).trans f1;have b1:Blk w1 g 116 _:=h0.stBlk.frm f1' g3;have be1:=hbe.frm f1' (hev _ (by simp[SF]));have r1':(Instr.mapUpdate 108 (.map (some M.it)) (.int .i64 a) (.agg #[.int .i64 a,.int .i64 b,.int .i64 n,.string s,.string t,.string u,.bool false,.bool false,.slice none 0 0])).run Tryz.prog w0.drew=.ok () w1:=r1
 obtain⟨w2,r2,m2,f2⟩:=((h0.maps.gu.frm f1' i4.symm).frm (fR w1).drew id).update_new keyedG Tryz.underlying112 (isK_G hb hsz) (λp hp=>by
  obtain⟨y,hy,rfl⟩:=List.mem_map.1 hp;exact λe=>n5 y hy (kP_inj.1 e)) (kI a)
 have f2':Frm (·=M.gu) w1 w2:=((Frm.refl (·=M.gu) w1).drew).trans f2;have b2:=b1.frm f2' g7;have be2:=be1.frm f2' (hev _ (by simp[SF]));have r2':(Instr.mapUpdate 112 (.map (some M.gu)) (.agg #[.int .i64 b,.string s]) (.int .i64 a)).run Tryz.prog w1.drew=.ok () w2:=r2;have HB:=h_ b2;have HE:=h_ be2;obtain⟨c0,c1,c2,c3,c4,c5,c6,c7,c8⟩:=cells13 h0.stBlk;obtain⟨d0,d1,d2,d3,d4,d5,d6⟩:=blk7 hbe;obtain⟨k0,k1,k2,k3,k4,k5,k6,k7,k8⟩:=cells13 b1;obtain⟨q0,q1,q2,q3,q4,q5,q6⟩:=blk7 be1;obtain⟨j0,j1,j2,j3,j4,j5,j6,j7,j8⟩:=cells13 b2;obtain⟨v0,v1,v2,v3,v4,v5,v6⟩:=blk7 be2;have HW:=h_ hw0;unfold evV;clear r1 r2 hw0;go_enter Tryz.func90,Tryz.ntmps90;go_wp2;rw[←HW.out]
 go_still_tail 19,(by kernel_rfl)
 change wpList _ _ _ _ _ w0.drew;go_wp2_with (at_mapUpdate;refine wpList_mapUpdate_run r1' rfl _ _ _ rfl rfl rfl rfl ?_);clear r1' c0 c1 c2 c3 c4 c5 c6 c7 c8 d0 d1 d2 d3 d4 d5 d6
 go_still_tail 11,(by kernel_rfl)
 change wpList _ _ _ _ _ w1.drew;clear k0 k1 k2 k3 k4 k5 k6 k7 k8 q0 q1 q2 q3 q4 q5 q6;have KR:=h_ (raise_any HB.out 2 (by omega) a)
 go_wp2_with (first
  | (at_mapUpdate;refine wpList_mapUpdate_run r2' rfl _ _ _ rfl rfl rfl rfl ?_)
  | (go_at_call 143;refine KR.out.mono ?_;rintro r w4 ⟨rfl,b4,f4⟩))
 go_end0
 have hfin:=make7_mem (f:=⟨a,b,n,s,t,u,false,false,[]⟩) h0 n1 rfl htl m1 f1' m2 f2' _ b4 f4 (by rw[do7 rfl] at hok;exact hok);rw[do7 rfl];exact⟨rfl,hfin.1,(Frm.nix f0).trans hfin.2⟩
theorem make11_any{w:World}{g:Nat}{M:Ms}{x:St}(h:StAt w g M x)(a b n:Int)(s t u:ByteArray)(hfit:fits x ⟨11,a,b,n,s,t,u⟩=true)(ha:I64 a)(hb:I64 b):
  Calls Tryz.prog 90 #[.pointer (some ⟨g,0,none⟩),evV ⟨11,a,b,n,s,t,u⟩] w λr w'=>r=.returned (.tuple #[])∧StAt w' g M (doS x ⟨11,a,b,n,s,t,u⟩)∧Frm (SF g M) w w':=by
 have he:=fits_ev hfit;have hok:=doS_ok h.ok hfit;obtain⟨n1,n2⟩:=(fits11 (x:=x) rfl he).1 hfit;simp only at n1;obtain⟨⟨g1,g2,g3,g4,g5,g6,g7,g8⟩,⟨o1,o2,o3,o4,o5,o6,o7⟩,⟨e1,e2,e3,e4,e5,e6⟩,⟨i1,i2,i3,i4,i5⟩,⟨s1,s2,s3,s4⟩,⟨a1,a2,a3⟩,⟨p1,p2⟩,u1⟩:=h.apart.ne;obtain⟨w0,hw0⟩:∃w0,w0=w.alloc (.cells #[.int .i64 11,.int .i64 a,.int .i64 b,.int .i64 n,.string s,.string t,.string u] 42):=⟨_,rfl⟩;have f0:Frm Nix w w0:=by rw[hw0];exact(fR w).alloc _
 have hbe:Blk w0 w.heap.size 42 #[.int .i64 11,.int .i64 a,.int .i64 b,.int .i64 n,.string s,.string t,.string u]:=by rw[hw0];exact Blk.new w _ _
 have h0:=h.nix f0;have hlt:=h.lt;have hev:∀k,SF g M k→w.heap.size≠k:=λk hk e=>by have:=hlt k hk;omega
 obtain⟨w1,r1,m1,f1⟩:=(h0.maps.se.frm (fR w0).drew id).update_new keyedI Tryz.underlying109 (isK_I ha) (λp hp=>by
  obtain⟨y,hy,rfl⟩:=List.mem_map.1 hp;exact λe=>n1 y hy (kI_inj.1 e)) (seaV ⟨a,s,t⟩)
 have f1':Frm (·=M.se) w0 w1:=((Frm.refl (·=M.se) w0).drew).trans f1;have b1:Blk w1 g 116 _:=h0.stBlk.frm f1' g4;have be1:=hbe.frm f1' (hev _ (by simp[SF]));have r1':(Instr.mapUpdate 109 (.map (some M.se)) (.int .i64 a) (.agg #[.int .i64 a,.string s,.string t])).run Tryz.prog w0.drew=.ok () w1:=r1;have HB:=h_ b1;have HE:=h_ be1;obtain⟨c0,c1,c2,c3,c4,c5,c6,c7,c8⟩:=cells13 h0.stBlk;obtain⟨d0,d1,d2,d3,d4,d5,d6⟩:=blk7 hbe;obtain⟨k0,k1,k2,k3,k4,k5,k6,k7,k8⟩:=cells13 b1;obtain⟨q0,q1,q2,q3,q4,q5,q6⟩:=blk7 be1;have HW:=h_ hw0;unfold evV;clear r1 hw0;go_enter Tryz.func90,Tryz.ntmps90;go_wp2;rw[←HW.out]
 go_still_tail 13,(by kernel_rfl)
 change wpList _ _ _ _ _ w0.drew;go_wp2_with (at_mapUpdate;refine wpList_mapUpdate_run r1' rfl _ _ _ rfl rfl rfl rfl ?_);have KR:=h_ (raise_any HB.out 3 (by omega) a)
 go_wp2_with (first
  | (go_at_call 143;refine KR.out.mono ?_;rintro r w4 ⟨rfl,b4,f4⟩))
 go_end0
 have hfin:=make11_mem (f:=⟨a,s,t⟩) h0 m1 f1' _ b4 f4 (by rw[do11 rfl] at hok;exact hok);rw[do11 rfl];exact⟨rfl,hfin.1,(Frm.nix f0).trans hfin.2⟩
section
section
variable {P:Program} {w w1:World} {m t k et:TypeId} {R:List GE} {clock:Nat}
theorem GMap.delete_e(K:Keyed P k)(h1:GMap w m R clock)(h2:GOk P k R clock)(ht:P.underlying t=some (.map k et)){e:GE}(hm:e∈R)(t2:TypeId):
  ∃w' R2,(∀ty,(Builtin.delete_ #[t,t2] ty #[.map (some m),e.key]).run P w=.ok (.tuple #[]) w')∧GMap w' m R2 clock∧GOk P k R2 clock∧R.Perm (e::R2)∧R2.Sublist R∧Frm (·=m) w w':=by
 have hx:=h2.isK _ hm;rcases h2.find K hx (w:=w) with ⟨hf,hn⟩ | ⟨j,e',hf,hj,he⟩
 ·exact absurd rfl (hn e hm)
 ·have hjl:j<R.length:=(List.getElem?_eq_some_iff.1 hj).1
  have hje:R[j]=e':=(List.getElem?_eq_some_iff.1 hj).2
  have hee:e'=e:=by
   have h3:=h2.keys;have hm':e'∈R:=hje ▸ List.getElem_mem hjl;rw[List.nodup_iff_pairwise_ne,List.pairwise_map] at h3
   by_cases hc:e'=e
   ·exact hc
   ·exfalso
    obtain⟨i,hi,hie⟩:=List.mem_iff_getElem.1 hm
    have hij:i≠j:=by
     rintro rfl;exact hc (by rw[←hje,hie])
    rcases Nat.lt_or_gt_of_ne hij with h | h
    ·exact List.pairwise_iff_getElem.1 h3 i j hi hjl h (by rw[hie,hje,he])
    ·exact List.pairwise_iff_getElem.1 h3 j i hjl hi h (by rw[hie,hje,he])
  subst hee
  have hsplit:R=R.take j++e'::R.drop (j+1):=by
   conv=>lhs;rw[←List.take_append_drop j R,List.drop_eq_getElem_cons hjl,hje]
  obtain⟨A,hA⟩:∃A,A=R.take j:=⟨_,rfl⟩;obtain⟨B,hB⟩:∃B,B=R.drop (j+1):=⟨_,rfl⟩;rw[←hA,←hB] at hsplit;have hAl:A.length=j:=by rw[hA,List.length_take];omega
  have hers:(R.map GE.me).eraseIdx j=(A++B).map GE.me:=by
   rw[hsplit,←hAl,List.map_append,List.map_append,List.map_cons];have:A.length=(A.map GE.me).length:=by simp
   rw[this,erase_app]
  have hsub:(A++B).Sublist R:=by
   rw[hsplit];exact(List.Sublist.refl A).append (List.sublist_cons_self e' B)
  refine⟨ChangeMaps.setBlock w m (.map ((A++B).map GE.me).toArray clock),A++B,λty=>?_,h1.put _ _,?_,?_,hsub,(Frm.refl (λi=>i=m) w).setBlock (.inl rfl) _⟩
  ·rw[←hers]
   simp[Builtin.delete_,run_underlying ht,MapKept.run_getObj_map h1,check_run K hx,hf,MapKept.run_setObj_map _ h1,ChangeMaps.setBlock]
  ·exact⟨λy hy=>h2.born y (hsub.subset hy),(hsub.map _).nodup h2.borns,(hsub.map _).nodup h2.keys,λy hy=>h2.isK y (hsub.subset hy)⟩
  ·rw[hsplit]
   exact List.perm_middle
end
section
variable {α:Type} {g:α→Int} {l:List α} {id:Int}
theorem delI_perm{a:α}(h:atI g id l=some a):l.Perm (a::delI g id l):=by
 induction l with
 | nil=>cases h
 | cons y r ih=>
   unfold atI at h ih;unfold delI at ih ⊢
   by_cases hy:g y=id
   ·rw[List.find?_cons_of_pos (by simpa using hy)] at h
    injection h with h;subst h;rw[List.eraseP_cons_of_pos (by simpa using hy)]
   ·rw[List.find?_cons_of_neg (by simpa using hy)] at h
    rw[List.eraseP_cons_of_neg (by simpa using hy)];exact((ih h).cons y).trans (List.Perm.swap _ _ _)
theorem updI_perm{a:α}(f:α→α)(h:atI g id l=some a):(updI g id f l).Perm (f a::delI g id l):=by
 induction l with
 | nil=>cases h
 | cons y r ih=>
   unfold atI at h ih;unfold delI at ih ⊢
   by_cases hy:g y=id
   ·rw[List.find?_cons_of_pos (by simpa using hy)] at h
    injection h with h;subst h;rw[List.eraseP_cons_of_pos (by simpa using hy),updI,if_pos hy]
   ·rw[List.find?_cons_of_neg (by simpa using hy)] at h
    rw[List.eraseP_cons_of_neg (by simpa using hy),updI,if_neg hy];exact((ih h).cons y).trans (List.Perm.swap _ _ _)
theorem filter_del{a:α}(p:α→Bool)(h:atI g id l=some a):((delI g id l).filter p).length=(l.filter p).length - if p a=true then 1 else 0:=by
 rw[((delI_perm h).filter p).length_eq,List.filter_cons];split<;>simp
theorem filter_pos{a:α}(p:α→Bool)(h:atI g id l=some a)(hp:p a=true):1≤(l.filter p).length:=by
 rw[((delI_perm h).filter p).length_eq,List.filter_cons,if_pos hp];simp
end
theorem held_delFol(x:St){i:Int}{f:Fol}(h:atI Fol.id i x.fols=some f)(j:Int):heldS {x with fols:=delI Fol.id i x.fols} j=if j=f.inn then heldS x j+ -1 else heldS x j:=by
 unfold heldS;simp only;rw[filter_del _ h]
 by_cases hj:j=f.inn
 ·have:=filter_pos (λf:Fol=>decide (f.inn=j)) h (by simpa using hj.symm)
  simp[hj] at this ⊢;omega
 ·have:¬f.inn=j:=λe=>hj e.symm
  simp[hj,this]
theorem held_delFee(x:St){i:Int}{f:Fee}(l:List Itm)(h:atI Fee.id i x.fees=some f)(j:Int):heldS {x with fees:=delI Fee.id i x.fees,itms:=l} j=if j=f.inn then heldS x j+ -1 else heldS x j:=by
 unfold heldS;simp only;rw[filter_del _ h]
 by_cases hj:j=f.inn
 ·have:=filter_pos (λf:Fee=>decide (f.inn=j)) h (by simpa using hj.symm)
  simp[hj] at this ⊢;omega
 ·have:¬f.inn=j:=λe=>hj e.symm
  simp[hj,this]
structure UnfAt(w0 wr:World)(M:Ms)(x:St)(sl:Int→Sl)(fid:Int)(r clock:Nat)(R0:List GE)(seen:List Nat)(R:List GE)(K:List Itm):Prop where
 iter:IterG wr r M.it clock seen
 map:GMap wr M.it R clock
 ok:GOk Tryz.prog 3 R clock
 sub:R.Sublist R0
 kv:(R.map GE.kv).Perm (K.map λt=>(kI t.id,itmV (sl t.id) t))
 gu:MapIs Tryz.prog 153 wr M.gu (K.map λt=>(kP t.feed t.guid,kI t.id))
 ks:K.Sublist x.itms
 left:∀t∈x.itms,t.feed≠fid→t∈K
 done:∀e∈R,e.born∈seen→∀t∈x.itms,e.key=kI t.id→t.feed≠fid
 frm:Frm (λk=>k=M.it∨k=M.gu) w0 wr
 rsz:w0.heap.size≤r
section
variable {w0 wr w1:World} {g:Nat} {M:Ms} {x:St} {sl:Int→Sl} {fid:Int} {r clock:Nat} {R0:List GE} {seen:List Nat} {R:List GE} {K:List Itm}
theorem itm_uniq(hx:StP x){a b:Itm}(ha:a∈x.itms)(hb:b∈x.itms)(h:a.id=b.id):a=b:=ids_inj hx.iR ha hb h
theorem UnfAt.over(h:UnfAt w0 wr M x sl fid r clock R0 seen R K)(hx:StP x)(hl:leftG seen R=[]):K=x.itms.filter λt=>decide (t.feed≠fid):=by
 have hall:∀t∈K,t.feed≠fid:=by
  intro t ht;obtain⟨e,he,hek⟩:=List.mem_map.1 (h.kv.mem_iff.2 (List.mem_map.2 ⟨t,ht,rfl⟩))
  have hs:e.born∈seen:=by
   have:=List.filter_eq_nil_iff.1 hl e he
   simpa using this
  exact h.done e he hs t (h.ks.subset ht) (by unfold GE.kv at hek;injection hek)
 have h1:K.filter (λt=>decide (t.feed≠fid))=K:=List.filter_eq_self.2 λt ht=>by simpa using hall t ht
 have h2:K.Sublist (x.itms.filter λt=>decide (t.feed≠fid)):=by
  have:=h.ks.filter (λt:Itm=>decide (t.feed≠fid))
  rwa [h1] at this
 have hnd:(x.itms.filter λt=>decide (t.feed≠fid)).Nodup:=by
  have:x.itms.Nodup:=hx.iR.imp λ{a b} hab e=>by subst e;exact absurd hab (Int.lt_irrefl _)
  exact List.filter_sublist.nodup this
 have h3:(x.itms.filter λt=>decide (t.feed≠fid)) ⊆ K:=λt ht=>by
  obtain⟨h4,h5⟩:=List.mem_filter.1 ht;exact h.left t h4 (by simpa using h5)
 exact h2.eq_of_length_le (hnd.length_le_of_subset h3)
theorem UnfAt.item(h:UnfAt w0 wr M x sl fid r clock R0 seen R K){e:GE}(he:e∈leftG seen R):e∈R∧∃t∈K,e.key=kI t.id∧e.val=itmV (sl t.id) t:=by
 have h1:=(List.mem_filter.1 he).1;obtain⟨t,ht,hk⟩:=List.mem_map.1 (h.kv.mem_iff.1 (List.mem_map.2 ⟨e,h1,rfl⟩));unfold GE.kv at hk;injection hk with hk1 hk2;exact⟨h1,t,ht,hk1.symm,hk2.symm⟩
theorem UnfAt.skip(h:UnfAt w0 wr M x sl fid r clock R0 seen R K)(hx:StP x){e:GE}{t:Itm}(ht:t∈K)(hk:e.key=kI t.id)(hne:t.feed≠fid)(hri:r≠M.it∧r≠M.gu)(hi:IterG w1 r M.it clock (seen++[e.born]))(hf:Frm (·=r) wr w1)(heR:e∈R):
  UnfAt w0 w1 M x sl fid r clock R0 (seen++[e.born]) R K:=by
 refine⟨hi,h.map.frm hf hri.1.symm,h.ok,h.sub,h.kv,h.gu.frm hf hri.2.symm,h.ks,h.left,λe' he' hs t' ht' hk'=>?_,h.frm.next hf (λk hk=>.inr (by have:=h.rsz;omega)),h.rsz⟩;rcases List.mem_append.1 hs with hs | hs
 ·exact h.done e' he' hs t' ht' hk'
 ·simp at hs
  have hee:e'=e:=by
   have hb:=h.ok.borns;rw[List.nodup_iff_pairwise_ne,List.pairwise_map] at hb
   by_cases hc:e'=e
   ·exact hc
   ·exfalso
    obtain⟨i,hi',rfl⟩:=List.mem_iff_getElem.1 he';obtain⟨j,hj,rfl⟩:=List.mem_iff_getElem.1 heR;have hij:i≠j:=by rintro rfl;exact hc rfl
    rcases Nat.lt_or_gt_of_ne hij with hl | hl
    ·exact List.pairwise_iff_getElem.1 hb i j hi' hj hl hs
    ·exact List.pairwise_iff_getElem.1 hb j i hj hi' hl hs.symm
  subst hee;rw[hk] at hk';have:=itm_uniq hx (h.ks.subset ht) ht' (kI_inj.1 hk');exact this ▸ hne
theorem UnfAt.nix{w2:World}(h:UnfAt w0 wr M x sl fid r clock R0 seen R K)(hf:Frm Nix wr w2):UnfAt w0 w2 M x sl fid r clock R0 seen R K:=
 ⟨h.iter.frm hf id,h.map.frm hf id,h.ok,h.sub,h.kv,h.gu.frm hf id,h.ks,h.left,h.done,h.frm.trans hf.nix,h.rsz⟩
theorem UnfAt.guRun(h:UnfAt w0 wr M x sl fid r clock R0 seen R K){W:World}(hf:Frm (·=r) wr W)(hri:r≠M.it∧r≠M.gu){t:Itm}(ht:t∈K):
  ∃w2,(∀ty,(Builtin.delete_ #[112,153] ty #[.map (some M.gu),.agg #[.int .i64 t.feed,.string t.guid]]).run Tryz.prog W=.ok (.tuple #[]) w2)∧MapIs Tryz.prog 153 w2 M.gu ((K.erase t).map λt=>(kP t.feed t.guid,kI t.id))∧Frm (·=M.gu) W w2:=by
 have hp:=(List.perm_cons_erase ht).map λt:Itm=>(kP t.feed t.guid,kI t.id)
 exact(h.gu.frm hf hri.2.symm).delete_yes keyedG Tryz.underlying112 hp _
theorem UnfAt.itRun(h:UnfAt w0 wr M x sl fid r clock R0 seen R K){W:World}(hW:GMap W M.it R clock){e:GE}(heR:e∈R):
  ∃w3 R2,(∀ty,(Builtin.delete_ #[108,3] ty #[.map (some M.it),e.key]).run Tryz.prog W=.ok (.tuple #[]) w3)∧GMap w3 M.it R2 clock∧GOk Tryz.prog 3 R2 clock∧R.Perm (e::R2)∧R2.Sublist R∧Frm (·=M.it) W w3:=
 GMap.delete_e keyedI hW h.ok Tryz.underlying108 heR _
theorem UnfAt.del(h:UnfAt w0 wr M x sl fid r clock R0 seen R K){e:GE}{t:Itm}(ht:t∈K)(hk:e.key=kI t.id)(hv:e.val=itmV (sl t.id) t)(hri:r≠M.it∧r≠M.gu)(hig:M.it≠M.gu)(heR:e∈R)(hfe:t.feed=fid)
  {w2 w3:World} {R2:List GE} (hi:IterG w1 r M.it clock (seen++[e.born])) (hf:Frm (·=r) wr w1) (hg:MapIs Tryz.prog 153 w2 M.gu ((K.erase t).map λt=>(kP t.feed t.guid,kI t.id))) (f2:Frm (·=M.gu) w1 w2)
  (h3:GMap w3 M.it R2 clock) (h3o:GOk Tryz.prog 3 R2 clock) (hp:R.Perm (e::R2)) (hs:R2.Sublist R) (f3:Frm (·=M.it) w2 w3):UnfAt w0 w3 M x sl fid r clock R0 (seen++[e.born]) R2 (K.erase t):=by
 refine⟨(hi.frm f2 hri.2).frm f3 hri.1,h3,h3o,hs.trans h.sub,?_,hg.frm f3 (λe=>hig e.symm),List.erase_sublist.trans h.ks,λt' ht' hne=>?_,λe' he' hsn t' ht' hk'=>?_,((h.frm.next hf (λk hk=>.inr (by have:=h.rsz;omega))).trans (f2.mono λk hk=>.inr hk)).trans (f3.mono λk hk=>.inl hk),h.rsz⟩
 ·have p1:=(hp.map GE.kv).symm.trans (h.kv.trans ((List.perm_cons_erase ht).map λt:Itm=>(kI t.id,itmV (sl t.id) t)))
  rw[List.map_cons,List.map_cons] at p1;have:e.kv=(kI t.id,itmV (sl t.id) t):=by unfold GE.kv;rw[hk,hv]
  rw[this] at p1;exact List.Perm.cons_inv p1
 ·have hne':t'≠t:=by rintro rfl;exact hne hfe
  exact(List.mem_erase_of_ne hne').2 (h.left t' ht' hne)
 ·rcases List.mem_append.1 hsn with hsn | hsn
  ·exact h.done e' (hs.subset he') hsn t' ht' hk'
  ·simp at hsn
   have hb:=h.ok.borns;rw[(hp.map (·.born)).nodup_iff,List.map_cons,List.nodup_cons] at hb;exact absurd (List.mem_map.2 ⟨e',he',hsn⟩) hb.1
end
theorem unfeed_mem{w0 wr w1 w2 w3:World}{g:Nat}{M:Ms}{x:St}{f:Fee}{sl:Int→Sl}{r clock:Nat}{R0:List GE}{seen:List Nat}{R:List GE}{K:List Itm}(h0:StAt w0 g M x)(htg:∀t∈x.itms,TagsIn w0 (sl t.id) t.tags)(hu:UnfAt w0 wr M x sl f.id r clock R0 seen R K)(hl:leftG seen R=[])(hf:atI Fee.id f.id x.fees=some f)
  (m1:MapIs Tryz.prog 9 w1 M.pl ((delI Fee.id f.id x.fees).map λf=>(.string f.url,kI f.id))) (f1:Frm (·=M.pl) wr w1)
  (m2:MapIs Tryz.prog 3 w2 M.fe ((delI Fee.id f.id x.fees).map λf=>(kI f.id,feeV f))) (f2:Frm (·=M.fe) w1 w2)
  (hh:HeldIs w3 M.he (λi=>if i=f.inn then heldS x i+ -1 else heldS x i)) (f3:Frm (·=M.he) w2 w3)
  (hok:StP {x with fees:=delI Fee.id f.id x.fees,itms:=x.itms.filter λt=>decide (t.feed≠f.id)}):
  StAt w3 g M {x with fees:=delI Fee.id f.id x.fees,itms:=x.itms.filter λt=>decide (t.feed≠f.id)}∧Frm (SF g M) w0 w3:=by
 have hK:=hu.over h0.ok hl;subst hK;obtain⟨⟨g1,g2,g3,g4,g5,g6,g7,g8⟩,⟨o1,o2,o3,o4,o5,o6,o7⟩,⟨e1,e2,e3,e4,e5,e6⟩,⟨i1,i2,i3,i4,i5⟩,⟨s1,s2,s3,s4⟩,⟨a1,a2,a3⟩,⟨p1,p2⟩,u1⟩:=h0.apart.ne;have f23:Frm (λk=>k=M.fe∨k=M.he) w1 w3:=(f2.mono λk hk=>.inl hk).trans (f3.mono λk hk=>.inr hk);have fr3:Frm (λk=>k=M.pl∨k=M.fe∨k=M.he) wr w3:=(f1.mono λk hk=>.inl hk).trans (f23.mono λk hk=>.inr hk);have f03:Frm (λk=>(k=M.it∨k=M.gu)∨k=M.pl∨k=M.fe∨k=M.he) w0 w3:=(hu.frm.mono λk hk=>.inl hk).trans (fr3.mono λk hk=>.inr hk)
 have fS:Frm (SF g M) w0 w3:=f03.mono λk hk=>by
  unfold SF;rcases hk with (h | h) | h | h | h<;>simp[h]
 refine⟨⟨h0.blk.frm f03 (by simp[g3,g7,g6,g2,g8]),⟨?_,?_,⟨sl,?_,λy hy=>(htg y (List.mem_filter.1 hy).1).frm fS h0.str⟩,?_,?_,?_,?_,?_⟩,h0.apart,hok⟩,fS⟩
 ·exact h0.maps.fo.frm f03 (by simp[o2,o6,o5,o1,o7])
 ·exact m2.frm f3 e6
 ·exact MapIs.frm ⟨R,clock,hu.map,hu.ok,hu.kv⟩ fr3 (by simp[i3,e1.symm,i5])
 ·exact h0.maps.se.frm f03 (by simp[i1.symm,s3,s2,e2.symm,s4])
 ·exact h0.maps.na.frm f03 (by simp[i2.symm,a2,a1,e3.symm,a3])
 ·exact m1.frm f23 (by simp[e4.symm,p2])
 ·exact hu.gu.frm fr3 (by simp[p1.symm,e5.symm,u1])
 ·exact hh.congr λi=>(held_delFee x _ hf i).symm
theorem fee_size{x:St}(h:StP x){f:Fee}(hf:f∈x.fees):f.url.size≤maxLen∧I64 f.inn∧I64 f.id:=by
 have h1:=(h.eE f hf).1;rw[ev3] at h1;simp only[Bool.and_eq_true] at h1;have h2:=place_size h1.1.2;have:=maxLen_le;have h3:=h1.1.1.2;have h4:=h.eId hf;unfold I64;simp[folderOk,idOk] at h3;omega
theorem unfeed_any{w:World}{g:Nat}{M:Ms}{x:St}(h:StAt w g M x){f:Fee}(hf:atI Fee.id f.id x.fees=some f)(hok:StP {x with fees:=delI Fee.id f.id x.fees,itms:=x.itms.filter λt=>decide (t.feed≠f.id)}):
  Calls Tryz.prog 88 #[.pointer (some ⟨g,0,none⟩),feeV f] w λr w'=>r=.returned (.tuple #[])∧StAt w' g M {x with fees:=delI Fee.id f.id x.fees,itms:=x.itms.filter λt=>decide (t.feed≠f.id)}∧Frm (SF g M) w w':=by
 obtain⟨hsz,hinn,hid⟩:=fee_size h.ok (atI_mem hf).1;obtain⟨⟨g1,g2,g3,g4,g5,g6,g7,g8⟩,⟨o1,o2,o3,o4,o5,o6,o7⟩,⟨e1,e2,e3,e4,e5,e6⟩,⟨i1,i2,i3,i4,i5⟩,⟨s1,s2,s3,s4⟩,⟨a1,a2,a3⟩,⟨p1,p2⟩,u1⟩:=h.apart.ne;obtain⟨w0,hw0⟩:∃w0,w0=w.alloc (.cells #[.int .i64 f.id,.int .i64 f.inn,.string f.url,.string f.title] 64):=⟨_,rfl⟩;have f0:Frm Nix w w0:=by rw[hw0];exact(fR w).alloc _
 have hbf:Blk w0 w.heap.size 64 #[.int .i64 f.id,.int .i64 f.inn,.string f.url,.string f.title]:=by rw[hw0];exact Blk.new w _ _
 have h0:=h.nix f0;have hsz0:w0.heap.size=w.heap.size+1:=by rw[hw0];simp
 have hlt:=h.lt;obtain⟨sl,⟨R0,clock,hm0,hg0,hp0⟩,htg⟩:=h0.maps.it;have hrg:=hm0.range (P:=Tryz.prog) Tryz.underlying108;obtain⟨c0,c1,c2,c3,c4,c5,c6,c7,c8,-⟩:=h0.cells;have HS:=h_ h0;have HB:=h_ hbf;have HF:=h_ f0;have HT:=h_ htg;have HG:=h_ hg0
 have HI:Hid (UnfAt w0 (w0.alloc (.mapIter (some M.it) clock #[] clock)) M x sl f.id (w.heap.size+1) clock R0 [] R0 x.itms):=by
  refine⟨?_,hm0.frm ((fR w0).alloc _) id,hg0,List.Sublist.refl _,hp0,h0.maps.gu.frm ((fR w0).alloc _) id,List.Sublist.refl _,λt ht _=>ht,λe _ he=>(by cases he),(Frm.refl _ w0).alloc _,by omega⟩;have:=heap_alloc_new w0 (.mapIter (some M.it) clock #[] clock);rw[hsz0] at this;exact this
 have HW:=h_ hw0;have hri:w.heap.size+1≠M.it∧w.heap.size+1≠M.gu:=⟨λe=>by have:=hlt M.it (by simp[SF]);omega,λe=>by have:=hlt M.gu (by simp[SF]);omega⟩;have hbne:∀k,SF g M k→w.heap.size≠k:=λk hk e=>by have:=hlt k hk;omega
 rw[hsz0] at hrg;rw[hw0] at c3 hrg;have HZ:=h_ hsz0;clear h f0 hbf h0 hm0 hp0 htg hw0 hlt c0 c1 c2 c4 c5 c6 c7 c8 hsz0;unfold feeV;go_enter Tryz.func88,Tryz.ntmps88;go_wp2;rw[←HW.out];clear c3 hrg
 go_loopw [4,5] (λ_ _ wr=>∃(seen:List Nat) (R:List GE) (K:List Itm),UnfAt w0 wr M x sl f.id (w.heap.size+1) clock R0 seen R K) (λ_ _ wr=>leftGN wr (w.heap.size+1) R0)
 case atStart=>
  exact⟨[],R0,x.itms,HI.out⟩
 case round=>
  obtain⟨seen,R,K,hu⟩:=hrel
  by_cases hl:leftG seen R=[]
  ·have hn:=hu.map.next_over (P:=Tryz.prog) hu.iter hu.ok.born hl
   have h0:=HS.out;have hst:=h0.blk.frm hu.frm (by simp;exact⟨g3,g7⟩);have k6:=hst.cell 6;simp at k6;have hbx:=HB.out.frm hu.frm (by have:=hbne M.it (by simp[SF]);have:=hbne M.gu (by simp[SF]);simp;omega);have d0:=hbx.cell 0;have d1:=hbx.cell 1;have d2:=hbx.cell 2;simp at d0 d1 d2;have hperm:=delI_perm hf;obtain⟨wa,ra,ma,fa⟩:=((h0.maps.pl.frm hu.frm (by simp[p1,i3.symm])).frm (fR wr).drew id).delete_yes keyedS Tryz.underlying111 (hperm.map λf:Fee=>((.string f.url:Value),kI f.id)) 9;have fa':Frm (·=M.pl) wr wa:=((Frm.refl (·=M.pl) wr).drew).trans fa;have ba:=hst.frm fa' g6;have bxa:=hbx.frm fa' (hbne _ (by simp[SF]));have l2:=ba.cell 2;simp at l2;have y0:=bxa.cell 0;simp at y0;have f0a:Frm (λk=>(k=M.it∨k=M.gu)∨k=M.pl) w0 wa:=(hu.frm.mono λk hk=>.inl hk).trans (fa'.mono λk hk=>.inr hk);obtain⟨wc,rc,mc,fc⟩:=((h0.maps.fe.frm f0a (by simp[e1,e4,e5])).frm (fR wa).drew id).delete_yes keyedI Tryz.underlying107 (hperm.map λf:Fee=>(kI f.id,feeV f)) 3;have fc':Frm (·=M.fe) wa wc:=((Frm.refl (·=M.fe) wa).drew).trans fc;have bc:=ba.frm fc' g2;have bxc:=bxa.frm fc' (hbne _ (by simp[SF]));have z8:=bc.cell 8;simp at z8;have z1:=bxc.cell 1;simp at z1;have f0c:Frm (λk=>((k=M.it∨k=M.gu)∨k=M.pl)∨k=M.fe) w0 wc:=(f0a.mono λk hk=>.inl hk).trans (fc'.mono λk hk=>.inr hk);have hhe:=h0.held.frm f0c (by simp[i5.symm,u1.symm,p2.symm,e6.symm]);have hHL:=heldS_le h0.ok f.inn;have KH:=h_ (hold_any (n:=-1) z8 hhe hinn (by omega) (by omega))
   have HFin:Hid (∀w3,HeldIs w3 M.he (λj=>if j=f.inn then heldS x j+ -1 else heldS x j)→Frm (·=M.he) wc w3→StAt w3 g M {x with fees:=delI Fee.id f.id x.fees,itms:=x.itms.filter λt=>decide (t.feed≠f.id)}∧Frm (SF g M) w0 w3):=
    λw3 hh3 f3=>unfeed_mem h0 HT.out hu hl hf ma fa' mc fc' hh3 f3 hok
   have ra':∀ty,(Builtin.delete_ #[111,9] ty #[.map (some M.pl),.string f.url]).run Tryz.prog wr.drew=.ok (.tuple #[]) wa:=ra;have rc':∀ty,(Builtin.delete_ #[107,3] ty #[.map (some M.fe),.int .i64 f.id]).run Tryz.prog wa.drew=.ok (.tuple #[]) wc:=rc;clear hu h0 hst hbx hperm ra ma fa fa' ba bxa f0a rc mc fc fc' bc bxc f0c hhe hHL;go_wp2
   go_still_tail 6,(by kernel_rfl)
   change wpList _ _ _ _ _ wr.drew;go_wp2_with (refine wpList_delete_run ra' rfl _ _ rfl rfl rfl ?_)
   go_still_tail 6,(by kernel_rfl)
   change wpList _ _ _ _ _ wa.drew
   go_wp2_with (first
    | (refine wpList_delete_run rc' rfl _ _ rfl rfl rfl ?_)
    | (go_at_call 87;refine KH.out.mono ?_;rintro r w3 ⟨rfl,hh3,f3⟩))
   go_end0
   obtain⟨k1,k2⟩:=HFin.out _ hh3 f3;exact⟨rfl,k1,(Frm.nix HF.out).trans k2⟩
  ·obtain⟨e,w1,he,hn,hi1,hf1⟩:=hu.map.next_some (P:=Tryz.prog) hu.iter hu.ok.born hl
   obtain⟨heR,t,ht,hk,hv⟩:=hu.item he;have hm1:=hu.map.frm hf1 hri.1.symm;have hen:=hm1.entry (P:=Tryz.prog) hi1 heR hu.ok.borns;rw[hk,hv] at hn hen
   have HM:Hid (∀W,IterG W (w.heap.size+1) M.it clock (seen++[e.born])→leftGN W (w.heap.size+1) R0<leftGN wr (w.heap.size+1) R0):=by
    intro W hW;have he0:e∈leftG seen R0:=List.mem_filter.2 ⟨hu.sub.subset heR,(List.mem_filter.1 he).2⟩;rw[hW.leftGN,hu.iter.leftGN,(leftG_step HG.out.borns he0).length_eq];simp
   unfold kI itmV slV at hn hen;have HN:=h_ hu;have HI1:=h_ hi1;have HF1:=h_ hf1;have hfw1:Frm (λk=>k=M.it∨k=M.gu) w0 w1:=hu.frm.next hf1 (λk hk=>.inr (by have:=hu.rsz;omega))
   have hbx:=HB.out.frm hfw1 (by have:=hbne M.it (by simp[SF]);have:=hbne M.gu (by simp[SF]);simp;omega);have d0:=hbx.cell 0;simp at d0;have ld:w.heap.size<w1.heap.size:=hbx.lt
   by_cases hfe:t.feed=f.id
   ·have hst1:=HS.out.blk.frm hfw1 (by simp;exact⟨g3,g7⟩)
    obtain⟨wb,hwb⟩:∃wb,wb=w1.alloc (.cells #[.int .i64 t.id,.int .i64 f.id,.int .i64 t.date,.string t.guid,.string t.title,.string t.link,.bool t.read,.bool t.star,.slice (sl t.id).1 t.tags.length (sl t.id).2] 82):=⟨_,rfl⟩;have hfb:Frm Nix w1 wb:=by rw[hwb];exact(fR w1).alloc _
    have hbt:Blk wb w1.heap.size 82 #[.int .i64 t.id,.int .i64 f.id,.int .i64 t.date,.string t.guid,.string t.title,.string t.link,.bool t.read,.bool t.star,.slice (sl t.id).1 t.tags.length (sl t.id).2]:=by rw[hwb];exact Blk.new w1 _ _
    have q1:=hbt.cell 1;have q3:=hbt.cell 3;simp at q1 q3;have hstb:=hst1.frm hfb id;have k7:=hstb.cell 7;simp at k7;obtain⟨w2,r2,hg2,f2⟩:=hu.guRun (hf1.trans (hfb.drew.mono λ_ h=>absurd h id)) hri ht;have f2':Frm (·=M.gu) w1 w2:=(Frm.nix hfb.drew).trans f2;have k32:=(hst1.frm f2' g7).cell 3;simp at k32;have hmw2:GMap w2 M.it R clock:=hm1.frm f2' i4;obtain⟨w3,R2,r3,h3,h3o,hp3,hs3,f3⟩:=hu.itRun hmw2 heR;rw[hk] at r3;rw[hfe] at r2 hn hen;unfold kI at r3;have HU:=h_ (hu.del ht hk hv hri i4 heR hfe hi1 hf1 hg2 f2' h3 h3o hp3 hs3 f3);have HWB:=h_ hwb;clear hu hi1 hf1 hm1 he hbx hfw1 hst1 hfb hbt hstb hg2 f2 f2' hmw2 h3 h3o hp3 hs3 f3 hwb hfe;go_wp2;rw[←HWB.out]
    go_still_tail 9,(by kernel_rfl)
    change wpList _ _ _ _ _ wb.drew
    go_wp2_with (first
     | (refine wpList_delete_run r2 rfl _ _ rfl rfl rfl ?_)
     | (refine wpList_delete_run r3 rfl _ _ rfl rfl rfl ?_))
    try go_wp2
    go_roundw
    case rel=>
     repeat apply Exists.intro
     exact⟨⟨_,_,_,HU.out⟩,rfl⟩
    case measure=>exact HM.out _ HU.out.iter
   ·have HU:=h_ (hu.skip (w1:=w1) HS.out.ok ht hk hfe hri hi1 hf1 heR)
    clear hu hi1 hf1 hm1 he hbx hfw1;go_wp2;go_roundw
    case rel=>exact⟨_,_,_,HU.out.nix ((fR w1).alloc _)⟩
    case measure=>exact HM.out _ (HU.out.nix ((fR w1).alloc _)).iter
end
end Go.Proofs.YtaecjmiobllhmaaGreat
