/- Words. -/
import Derived.Test.YtaecjmiobllhmaaGreatGq11
set_option linter.unusedVariables false
set_option linter.unusedSimpArgs false
set_option maxRecDepth 100000
set_option maxHeartbeats 16000000
namespace Go.Proofs.YtaecjmiobllhmaaGreat
open Go.Value renaming int→I,string→V,slice→U,pointer→O
open Go.IntKind renaming i64→J
open Tryz renaming prog→pQ
open Go.RowKit Go.Lib
variable {i:Int}{m:Nat}{L:List (Int×Int)}{n:Int}{s:ByteArray}
section
theorem R7(w:World):(zeroValue 79).run pQ w=.ok (oh Pz) w:=Tryz.zeroValue79 w
theorem Kv(w:World):(zeroValue 3).run pQ w=.ok (kI 0) w:=Tryz.zeroValue3 w
section
variable {w:World} {g:Nat} {M:Ms} {x:St}
theorem aw.cells(h:aw w g M x):w.cell? ⟨g,0,none⟩=some (I J x.clock)∧w.cell? ⟨g,1,none⟩=some (.map (some M.fo))∧w.cell? ⟨g,2,none⟩=some (.map (some M.fe))∧w.cell? ⟨g,3,none⟩=some (.map (some M.it))∧w.cell? ⟨g,4,none⟩=some (.map (some M.se))∧
  w.cell? ⟨g,5,none⟩=some (.map (some M.na))∧w.cell? ⟨g,6,none⟩=some (.map (some M.pl))∧w.cell? ⟨g,7,none⟩=some (.map (some M.gu))∧w.cell? ⟨g,8,none⟩=some (.map (some M.he))∧w.cell? ⟨g,9,none⟩=some (I J x.tFol)∧w.cell? ⟨g,10,none⟩=some (I J x.tFee)∧w.cell? ⟨g,11,none⟩=some (I J x.tItm)∧w.cell? ⟨g,12,none⟩=some (I J x.tSea):=by
 have c0:=h.blk.cell 0;have c1:=h.blk.cell 1;have c2:=h.blk.cell 2;have c3:=h.blk.cell 3;have c4:=h.blk.cell 4;have c5:=h.blk.cell 5;have c6:=h.blk.cell 6;have c7:=h.blk.cell 7;have c8:=h.blk.cell 8;have c9:=h.blk.cell 9;have c10:=h.blk.cell 10;have c11:=h.blk.cell 11;have c12:=h.blk.cell 12;simp at c0 c1 c2 c3 c4 c5 c6 c7 c8 c9 c10 c11 c12;exact⟨c0,c1,c2,c3,c4,c5,c6,c7,c8,c9,c10,c11,c12⟩
def ep(x:St)(i:Int):bg:=(eV bg.id i x.fols).elim Pz id
theorem aw.folLook(h:aw w g M x)(hi:bj i)(ok:Bool):(Instr.lookup 106 (.map (some M.fo)) (I J i) ok).run pQ w=.ok (if ok=true then .tuple #[oh (ep x i),.bool (aS bg.id i x.fols)] else oh (ep x i)) w:=by
 have:=nL d7 h.maps.fo Tryz.underlying106 (pJ hi) (R7 w) ok;unfold ep;unfold kI at this;rw[this]
 cases eV bg.id i x.fols<;>rfl
theorem aw.folLook2(h:aw w g M x)(hi:bj i):(Instr.lookup 106 (.map (some M.fo)) (I J i) true).run pQ w=.ok (.tuple #[.agg #[I J (ep x i).id,I J (ep x i).inn,V (ep x i).name],.bool (aS bg.id i x.fols)]) w:=by
 rw[h.folLook hi true];rfl
theorem kO(h:aw w g M x)(hi:bj i):Calls pQ 100 #[O (some ⟨g,0,none⟩),I J i] w λe w'=>e=.returned (.bool (eQ x i))∧aa ac w w':=by
 obtain⟨c0,c1,c2,c3,c4,c5,c6,c7,c8,c9,c10,c11,c12⟩:=h.cells;have hl:=h.folLook2 hi;have HE:Hid (eQ x i=(decide (i=0)||aS bg.id i x.fols)):=rfl;have HF:Hid (∀cs:Array Value,aa ac w (w.alloc (.cells cs 79))):=λcs=>(fR w).alloc _
 generalize ep x i=f at *;generalize aS bg.id i x.fols=b at *;clear h;go_enter Tryz.func100,Tryz.ntmps100;go_wp2
 all_goals
  go_ret;refine⟨af ?_,HF.out _⟩;rw[HE.out];simp[*]
theorem R9(w:World):(zeroValue 64).run pQ w=.ok (lp Py) w:=Tryz.zeroValue64 w
theorem Sa(w:World):(zeroValue 84).run pQ w=.ok (om PA) w:=Tryz.zeroValue84 w
theorem Kw(w:World):(zeroValue 82).run pQ w=.ok (jm (none,0) M8) w:=Tryz.zeroValue82 w
def ar(x:St)(i:Int):aP:=(eV aP.id i x.fees).elim Py id
def lK(x:St)(i:Int):dE:=(eV dE.id i x.seas).elim PA id
def ag(x:St)(i:Int):aJ:=(eV aJ.id i x.itms).elim M8 id
theorem aw.feeLook(h:aw w g M x)(hi:bj i)(ok:Bool):(Instr.lookup 107 (.map (some M.fe)) (I J i) ok).run pQ w=.ok (if ok=true then .tuple #[lp (ar x i),.bool (aS aP.id i x.fees)] else lp (ar x i)) w:=by
 have:=nL d7 h.maps.fe Tryz.underlying107 (pJ hi) (R9 w) ok;unfold ar;unfold kI at this;rw[this]
 cases eV aP.id i x.fees<;>rfl
theorem aw.seaLook(h:aw w g M x)(hi:bj i)(ok:Bool):(Instr.lookup 109 (.map (some M.se)) (I J i) ok).run pQ w=.ok (if ok=true then .tuple #[om (lK x i),.bool (aS dE.id i x.seas)] else om (lK x i)) w:=by
 have:=nL d7 h.maps.se Tryz.underlying109 (pJ hi) (Sa w) ok;unfold lK;unfold kI at this;rw[this]
 cases eV dE.id i x.seas<;>rfl
theorem aw.itmLook(h:aw w g M x)(hi:bj i):∃v:Sl,cI w v (ag x i).tags∧∀ok,(Instr.lookup 108 (.map (some M.it)) (I J i) ok).run pQ w=.ok (if ok=true then .tuple #[jm v (ag x i),.bool (aS aJ.id i x.itms)] else jm v (ag x i)) w:=by
 obtain⟨sl,h1,h2⟩:=h.maps.it;unfold ag
 cases ha:eV aJ.id i x.itms with
 | some t=>
   obtain⟨h3,h4⟩:=dG ha;refine⟨sl t.id,h2 t h3,λok=>?_⟩;have:=nL d7 h1 Tryz.underlying108 (pJ hi) (Kw w) ok;unfold kI at this;rw[this,ha]
   rfl
 | none=>
   refine⟨(none,0),⟨Rd.none_,λ_=>rfl,Nat.le_refl _,Nat.zero_le _⟩,λok=>?_⟩;have:=nL d7 h1 Tryz.underlying108 (pJ hi) (Kw w) ok;unfold kI at this;rw[this,ha];rfl
end
def d8(w:World)(m:Nat)(c:Int→Int):Prop:=∃L:List (Int×Int),aV pQ 3 w m (L.map λp=>(kI p.1,kI p.2))∧(∀p∈L,p.1≠0)∧∀i,i≠0→qL L i=c i
theorem rZ{a b:Int}:kI a=kI b↔a=b:=by simp[kI]
theorem d8.look{w:World}{c:Int→Int}(h:d8 w m c)(hi:bj i)(h0:i≠0):(Instr.lookup 113 (.map (some m)) (I J i) false).run pQ w=.ok (I J (c i)) w:=by
 obtain⟨L,h1,h2,h3⟩:=h;rw[←h3 i h0];unfold qL
 cases hf:L.find? λp=>decide (p.1=i) with
 | some p=>
   have hm:=List.mem_of_find?_eq_some hf;have hp:=List.find?_some hf;simp at hp
   exact h1.lookup_yes d7 Tryz.underlying113 (List.mem_map.2 ⟨p,hm,by rw[hp];rfl⟩) false
 | none=>
   refine h1.lookup_no d7 Tryz.underlying113 (pJ hi) (λp hp=>?_) (Kv w) false;obtain⟨y,hy,rfl⟩:=List.mem_map.1 hp;have:=List.find?_eq_none.1 hf y hy;intro e;exact this (by simpa using rZ.1 e)
theorem jd{p:Int×Int}(i:Int):qL (p::L) i=if p.1=i then p.2 else qL L i:=by
 unfold qL;rw[List.find?_cons]
 by_cases h:p.1=i
 ·simp[h]
 ·simp[h]
theorem Di{L L':List (Int×Int)}(hp:L.Perm L')(hn:(L.map (·.1)).Nodup)(i:Int):qL L i=qL L' i:=by
 induction hp with
 | nil=>rfl
 | cons p _ ih=>
   simp only[List.map_cons,List.nodup_cons] at hn
   rw[jd,jd,ih hn.2]
 | swap p q l=>
   simp only[List.map_cons,List.nodup_cons,List.mem_cons,not_or] at hn;rw[jd,jd,jd,jd]
   by_cases h1:p.1=i
   ·by_cases h2:q.1=i
    ·exact absurd (h2.trans h1.symm) hn.1.1
    ·simp[h1,h2]
   ·simp[h1]
 | trans h1 h2 Wo Wp=>rw[Wo hn,Wp ((h1.map _).nodup_iff.1 hn)]
theorem d8.upd{w:World}{c:Int→Int}(h:d8 w m c)(hi:bj i)(h0:i≠0)(v:Int):
  ∃w',(Instr.mapUpdate 113 (.map (some m)) (I J i) (I J v)).run pQ w=.ok () w'∧d8 w' m (λj=>if j=i then v else c j)∧aa (·=m) w w':=by
 obtain⟨L,h1,h2,h3⟩:=h;have hk:=h1.keys;rw[List.map_map] at hk
 have vH:(L.map (·.1)).Nodup:=by
  have:(L.map (·.1)).map kI=L.map ((λx=>x.1) ∘ λp=>(kI p.1,kI p.2)):=by rw[List.map_map];rfl
  rw[←this] at hk;exact List.Pairwise.of_map kI (λa b hab e=>hab (congrArg kI e)) hk
 by_cases hm:∃p∈L,p.1=i
 ·obtain⟨p,hp,rfl⟩:=hm
  obtain⟨A,B,rfl⟩:=List.append_of_mem hp
  have UV:((A++p::B).map λp=>(kI p.1,kI p.2)).Perm ((kI p.1,kI p.2)::(A++B).map λp=>(kI p.1,kI p.2)):=by
   exact(List.perm_middle (a:=p) (l₁:=A) (l₂:=B)).map (λp:Int×Int=>(kI p.1,kI p.2))
  obtain⟨w',r1,r2,r3⟩:=h1.update_old d7 Tryz.underlying113 UV (kI v);refine⟨w',r1,⟨(p.1,v)::(A++B),r2,λq hq=>?_,λj hj=>?_⟩,r3⟩
  ·rcases List.mem_cons.1 hq with rfl|hq
   ·exact h0
   ·exact h2 q (by rcases List.mem_append.1 hq with h|h;·exact List.mem_append_left _ h
                   ·exact List.mem_append_right _ (List.mem_cons_of_mem _ h))
  ·show qL ((p.1,v)::(A++B)) j=if j=p.1 then v else c j
   rw[jd];have e:=Di (List.perm_middle (a:=p) (l₁:=A) (l₂:=B)) vH j;rw[h3 j hj,jd] at e
   by_cases M9:j=p.1
   ·simp[M9]
   ·rw[if_neg (Ne.symm M9)] at e ⊢
    rw[if_neg M9,e]
 ·have hn:∀p∈L.map λp=>(kI p.1,kI p.2),p.1≠kI i:=by
   intro p hp e;obtain⟨y,hy,rfl⟩:=List.mem_map.1 hp;exact hm ⟨y,hy,rZ.1 e⟩
  obtain⟨w',r1,r2,r3⟩:=h1.update_new d7 Tryz.underlying113 (pJ hi) hn (kI v);refine⟨w',r1,⟨(i,v)::L,r2,λq hq=>?_,λj hj=>?_⟩,r3⟩
  ·rcases List.mem_cons.1 hq with rfl|hq
   ·exact h0
   ·exact h2 q hq
  ·show qL ((i,v)::L) j=if j=i then v else c j
   rw[jd]
   by_cases M9:j=i
   ·simp[M9]
   ·rw[if_neg (Ne.symm M9),if_neg M9,h3 j hj]
theorem pK{w:World}{g m:Nat}{c:Int→Int}(hc:w.cell? ⟨g,8,none⟩=some (.map (some m)))(h:d8 w m c)(hi:bj i)(Sb: -1000000≤c i∧c i≤1000000)(hn: -1≤n∧n≤1):
  Calls pQ 87 #[O (some ⟨g,0,none⟩),I J i,I J n] w λe w'=>e=.returned (.tuple #[])∧d8 w' m (λj=>if j=i then c j+n else c j)∧aa (·=m) w w':=by
 by_cases h0:i=0
 ·subst h0
  have HH:Hid (d8 w m (λj=>if j=0 then c j+n else c j)):=by
   obtain⟨L,h1,h2,h3⟩:=h;exact⟨L,h1,h2,λj hj=>by show qL L j=if j=0 then c j+n else c j;rw[h3 j hj,if_neg hj]⟩
  clear h;go_enter Tryz.func87,Tryz.ntmps87;go_wp2
  go_end0
  exact⟨rfl,HH.out,aa.refl _ _⟩
 ·have hl:=h.look hi h0
  obtain⟨w',hrun,h2,h3⟩:=h.upd hi h0 (c i+n)
  have HX:Hid (d8 w' m (λj=>if j=i then c j+n else c j)∧aa (·=m) w w'):=by
   refine⟨?_,h3⟩
   have:(λj=>if j=i then c i+n else c j)=(λj=>if j=i then c j+n else c j):=by
    funext j
    by_cases hj:j=i
    ·simp[hj]
    ·simp[hj]
   rw[←this];exact h2
  have hb:(i==0)=false:=beq_eq_false_iff_ne.2 h0;clear h h2 h3;generalize c i=ci at *;go_enter Tryz.func87,Tryz.ntmps87;go_wp2_with (at_mapUpdate;refine aY hrun rfl _ _ _ rfl rfl rfl rfl ?_)
  go_end0
  exact⟨rfl,HX.out⟩
end
def Sc(t0 t1 t2 t3:Int)(k:Nat)(v:Int):Int×Int×Int×Int:=if k=0 then (max t0 v,t1,t2,t3) else if k=1 then (t0,max t1 v,t2,t3) else if k=2 then (t0,t1,max t2 v,t3) else (t0,t1,t2,max t3 v)
def l5(c:Int)(M:Ms)(t:Int×Int×Int×Int):Array Value:=#[I J c,.map (some M.fo),.map (some M.fe),.map (some M.it),.map (some M.se),.map (some M.na),.map (some M.pl),.map (some M.gu),.map (some M.he),I J t.1,I J t.2.1,I J t.2.2.1,I J t.2.2.2]
theorem rk{w:World}{g:Nat}{M:Ms}{c t0 t1 t2 t3:Int}(hb:ai w g 116 (l5 c M (t0,t1,t2,t3)))(k:Nat)(hk:k<4)(v:Int):
  Calls pQ 143 #[O (some ⟨g,0,none⟩),I J k,I J v] w λe w'=>e=.returned (.tuple #[])∧ai w' g 116 (l5 c M (Sc t0 t1 t2 t3 k v))∧aa (·=g) w w':=by
 have c9:=hb.cell 9;have c10:=hb.cell 10;have c11:=hb.cell 11;have c12:=hb.cell 12;have f9:=hb.frozen 9;have f10:=hb.frozen 10;have f11:=hb.frozen 11;have f12:=hb.frozen 12;simp[l5] at c9 c10 c11 c12;have HB:Hid (∀(i:Nat) (u:Value),ai (w.setCell ⟨g,i,none⟩ u).drew g 116 ((l5 c M (t0,t1,t2,t3)).setIfInBounds i u)):=λi u=>(hb.set_ i u).drew
 have HF:Hid (∀(i:Nat) (u:Value),aa (·=g) w (w.setCell ⟨g,i,none⟩ u).drew):=λi u=>((aa.refl (·=g) w).setCell (.inl rfl) u).drew
 clear hb;rcases(by omega:k=0∨k=1∨k=2∨k=3) with rfl|rfl|rfl|rfl
 all_goals
  clear hk;go_enter Tryz.func143,Tryz.ntmps143;go_wp2
  go_region
  go_end0
  exact⟨rfl,HB.out _ _,HF.out _ _⟩
theorem aV.empty{P:Program}{k:TypeId}(w:World):aV P k (w.alloc (.map #[] 0)) w.heap.size []:=
 ⟨[],0,heap_alloc_new w _,⟨by simp,by simp,by simp,by simp⟩,List.Perm.refl _⟩
theorem Ip:bv m9=λ_=>0:=by funext i;simp[bv,m9]
theorem EX(w:World):Calls pQ 38 #[] w λe w'=>∃g M,e=.returned (O (some ⟨g,0,none⟩))∧aw w' g M m9∧aa ac w w'∧∀k,SF g M k→w.heap.size≤k:=by
 have hmm:=@run_makeMap pQ;go_enter Tryz.func38,Tryz.ntmps38;go_wp2;clear hmm;go_ret;obtain⟨w1,h1⟩:∃w1,w1=w.alloc (.map #[] 0):=⟨_,rfl⟩;obtain⟨w2,h2⟩:∃w2,w2=w1.alloc (.map #[] 0):=⟨_,rfl⟩;obtain⟨w3,h3⟩:∃w3,w3=w2.alloc (.map #[] 0):=⟨_,rfl⟩;obtain⟨w4,h4⟩:∃w4,w4=w3.alloc (.map #[] 0):=⟨_,rfl⟩;obtain⟨w5,h5⟩:∃w5,w5=w4.alloc (.map #[] 0):=⟨_,rfl⟩;obtain⟨w6,h6⟩:∃w6,w6=w5.alloc (.map #[] 0):=⟨_,rfl⟩;obtain⟨w7,h7⟩:∃w7,w7=w6.alloc (.map #[] 0):=⟨_,rfl⟩;obtain⟨w8,h8⟩:∃w8,w8=w7.alloc (.map #[] 0):=⟨_,rfl⟩;have s1:w1.heap.size=w.heap.size+1:=by rw[h1];simp
 have s2:w2.heap.size=w.heap.size+2:=by rw[h2];simp[s1]
 have s3:w3.heap.size=w.heap.size+3:=by rw[h3];simp[s2]
 have s4:w4.heap.size=w.heap.size+4:=by rw[h4];simp[s3]
 have s5:w5.heap.size=w.heap.size+5:=by rw[h5];simp[s4]
 have s6:w6.heap.size=w.heap.size+6:=by rw[h6];simp[s5]
 have s7:w7.heap.size=w.heap.size+7:=by rw[h7];simp[s6]
 have s8:w8.heap.size=w.heap.size+8:=by rw[h8];simp[s7]
 have f1:aa ac w w1:=by rw[h1];exact(fR w).alloc _
 have f2:aa ac w1 w2:=by rw[h2];exact(fR w1).alloc _
 have f3:aa ac w2 w3:=by rw[h3];exact(fR w2).alloc _
 have f4:aa ac w3 w4:=by rw[h4];exact(fR w3).alloc _
 have f5:aa ac w4 w5:=by rw[h5];exact(fR w4).alloc _
 have f6:aa ac w5 w6:=by rw[h6];exact(fR w5).alloc _
 have f7:aa ac w6 w7:=by rw[h7];exact(fR w6).alloc _
 have f8:aa ac w7 w8:=by rw[h8];exact(fR w7).alloc _
 have f9:∀o,aa ac w8 (w8.alloc o):=λo=>(fR w8).alloc o
 have m1:aV pQ 3 w1 w.heap.size []:=by rw[h1];exact aV.empty w
 have m2:aV pQ 3 w2 w1.heap.size []:=by rw[h2];exact aV.empty w1
 have m3:aV pQ 3 w3 w2.heap.size []:=by rw[h3];exact aV.empty w2
 have m4:aV pQ 3 w4 w3.heap.size []:=by rw[h4];exact aV.empty w3
 have m5:aV pQ 134 w5 w4.heap.size []:=by rw[h5];exact aV.empty w4
 have m6:aV pQ 9 w6 w5.heap.size []:=by rw[h6];exact aV.empty w5
 have m7:aV pQ 153 w7 w6.heap.size []:=by rw[h7];exact aV.empty w6
 have m8:aV pQ 3 w8 w7.heap.size []:=by rw[h8];exact aV.empty w7
 rw[←h1,←h2,←h3,←h4,←h5,←h6,←h7,←h8];refine⟨w8.heap.size,⟨w.heap.size,w1.heap.size,w2.heap.size,w3.heap.size,w4.heap.size,w5.heap.size,w6.heap.size,w7.heap.size⟩,by simp[h1,h2,h3,h4,h5,h6,h7,h8],⟨?_,?_,?_,yS⟩,(((((((f1.trans f2).trans f3).trans f4).trans f5).trans f6).trans f7).trans f8).trans (f9 _),?_⟩
 ·rw[s1,s2,s3,s4,s5,s6,s7]
  exact ai.new w8 _ _
 ·have g8:=λo=>f9 o
  have g7:=λo=>f8.trans (f9 o)
  have g6:=λo=>f7.trans (g7 o)
  have g5:=λo=>f6.trans (g6 o)
  have g4:=λo=>f5.trans (g5 o)
  have g3:=λo=>f4.trans (g4 o)
  have g2:=λo=>f3.trans (g3 o)
  have g1:=λo=>f2.trans (g2 o)
  exact⟨m1.frm (g1 _) id,m2.frm (g2 _) id,⟨λ_=>(none,0),m3.frm (g3 _) id,λt ht=>by cases ht⟩,m4.frm (g4 _) id,m5.frm (g5 _) id,m6.frm (g6 _) id,m7.frm (g7 _) id,⟨[],m8.frm (g8 _) id,by simp,λi _=>by rw[Ip];rfl⟩⟩
 ·constructor
  rw[s1,s2,s3,s4,s5,s6,s7,s8];simp
 ·intro k hk
  rw[s1,s2,s3,s4,s5,s6,s7,s8] at hk;rcases hk with e|e|e|e|e|e|e|e|e<;>(try simp only at e)<;>omega
theorem FV{x:St}(h:aS bg.id i x.fols=true):eV bg.id i x.fols=some (ep x i):=by
 have:=mJ (g:=bg.id) (id:=i) (l:=x.fols);rw[h] at this;obtain⟨f,hf⟩:=Option.isSome_iff_exists.1 this;unfold ep;rw[hf];rfl
theorem Dj(h:0≤n∧n≤1048576):bj n:=by unfold bj;omega
theorem di.inn64{x:St}(h:di x){f:bg}(hf:f∈x.fols):0≤f.inn∧f.inn≤1048576:=by
 have:=(h.fE f hf).1;rw[Km] at this;simp only[Bool.and_eq_true,aI,Bool.or_eq_true,decide_eq_true_eq] at this;rcases this.1.2 with h0|h0
 ·omega
 ·have:=dy.1 h0
  omega
def qh(x:St)(D k:Nat)(c:Int):Prop:=(aS bg.id c x.fols=true→∃m,gq x.fols m c∧k+m=D)∧(aS bg.id c x.fols=false→k=D)
theorem qh.start{x:St}(h:di x)(i:Int):qh x (gG x i) 0 i:=by
 constructor
 ·intro hi
  obtain⟨j,hj,hc,hd⟩:=h.deep i (lZ.2 (.inr (dg.1 hi)));exact⟨j,hc,by omega⟩
 ·intro hi
  unfold gG;rw[if_neg (by simp[hi])]
theorem qh.step{x:St}(h:di x){D k:Nat}{c:Int}(hr:qh x D k c)(hi:aS bg.id c x.fols=true):qh x D (k+1) (ep x c).inn∧k<D∧(0≤(ep x c).inn∧(ep x c).inn≤1048576):=by
 obtain⟨m,hc,hk⟩:=hr.1 hi;have hm:=FV hi;have Sd:=h.inn64 (dG hm).1;rcases m with _|m
 ·have h0:c=0:=hc
  have:=(h.fId (dG hm).1);have:=(dG hm).2;omega
 ·obtain⟨h0,f,hf,hc'⟩:=hc
  rw[hm] at hf;injection hf with hf;subst hf;refine⟨⟨λ_=>⟨m,hc',by omega⟩,λhn=>?_⟩,by omega,Sd⟩;rcases m with _|m
  ·omega
  ·obtain⟨-,f,hf,-⟩:=hc'
   have:=(mJ (g:=bg.id) (id:=(ep x c).inn) (l:=x.fols));rw[hf,hn] at this
   cases this
theorem Iq{w:World}{g:Nat}{M:Ms}{x:St}(h:aw w g M x)(hi:bj i):
  Calls pQ 101 #[O (some ⟨g,0,none⟩),I J i] w λe w'=>e=.returned (I J (gG x i))∧aa ac w w':=by
 obtain⟨c0,c1,c2,c3,c4,c5,c6,c7,c8,c9,c10,c11,c12⟩:=h.cells;have hl:=h.folLook2 hi;have HS:=h_ h;have bp:=h_ (qh.start h.ok i);have xS:=h.blk.lt
 have hD:gG x i≤8:=by
  by_cases hin:aS bg.id i x.fols=true
  ·obtain⟨j,hj,-,hd⟩:=h.ok.deep i (lZ.2 (.inr (dg.1 hin)))
   omega
  ·unfold gG
   rw[if_neg hin];omega
 generalize gG x i=D at *;clear h;go_enter Tryz.func101,Tryz.ntmps101;go_wp2
 go_loopw [5,7] (λnv iv wr=>∃(k:Nat) (c:Int),nv=I J k∧iv=.bool (aS bg.id c x.fols)∧bj c∧qh x D k c∧aa ac w wr∧ai wr w.heap.size 79 #[I J (ep x c).id,I J (ep x c).inn,V (ep x c).name]) (λnv _ _=>D-(intOf nv).toNat)
 case atStart=>exact⟨0,i,rfl,rfl,hi,bp.out,(fR w).alloc _,ai.new w _ _⟩
 case round=>
  obtain⟨k,c,rfl,rfl,Wq,hrel,hfr,hb⟩:=hrel;have PB:=h_ hrel;have HF:=h_ hfr;have HB:=h_ hb;have hs:=HS.out.nix hfr;obtain⟨c0,c1,c2,c3,c4,c5,c6,c7,c8,c9,c10,c11,c12⟩:=hs.cells;have b0:=hb.cell 0;have b1:=hb.cell 1;have b2:=hb.cell 2;simp at b0 b1 b2;have q0:=hb.frozen 0;have q1:=hb.frozen 1;have q2:=hb.frozen 2;have hbl:=hb.lt
  cases tJ:aS bg.id c x.fols with
  | true=>
    obtain⟨s1,s2,s3⟩:=PB.out.step HS.out.ok tJ;have bw:=h_ s1;have hl0:=hs.folLook2 (Dj s3);have JZ:=(hs.nix (fR wr).drew).folLook2 (Dj s3);have Sd:=Dj s3;clear hrel hfr hb hs s1
    have kh:Hid (∀a b s,ai (((wr.setCell ⟨w.heap.size,0,none⟩ (I J a)).setCell ⟨w.heap.size,1,none⟩ (I J b)).setCell ⟨w.heap.size,2,none⟩ (V s)).drew w.heap.size 79 #[I J a,I J b,V s]):=λa b s=>by
     have:=((HB.out.set_ 0 (I J a)).set_ 1 (I J b)).set_ 2 (V s);exact this
    go_wp2
    go_region
    go_wp2;go_roundw
    case rel=>exact⟨k+1,(ep x c).inn,by go_num,rfl,Sd,bw.out,(((HF.out.setCell (.inr (Nat.le_refl _)) _).setCell (.inr (Nat.le_refl _)) _).setCell (.inr (Nat.le_refl _)) _).drew,kh.out _ _ _⟩
    case measure=>simp[intOf];omega
  | false=>
    have hk:=PB.out.2 tJ;subst hk;clear hrel hfr hb hs;go_wp2;go_ret;exact⟨rfl,HF.out⟩
section
theorem mz:512≤maxLen:=by decide
section
variable {w:World} {g:Nat} {M:Ms} {x:St}
theorem zl{α:Type}{q:α→Bool}{gk:α→Int}{l:List α}(h:∀y∈l,gk y≠0):((l.find? q).elim 0 gk==0)=!l.any q:=by
 cases hf:l.find? q with
 | some y=>
   have h1:=List.mem_of_find?_eq_some hf;have h2:=List.find?_some hf;have h3:l.any q=true:=List.any_eq_true.2 ⟨y,h1,h2⟩;rw[h3]
   simpa using h y h1
 | none=>
   have h3:l.any q=false:=List.any_eq_false.2 λy hy=>by have:=List.find?_eq_none.1 hf y hy;simpa using this
   rw[h3];rfl
def EY(x:St)(b:Int)(s:ByteArray):Int:=(x.fols.find? λf=>decide (f.inn=b∧f.name=s)).elim 0 bg.id
theorem FX(h:di x)(b:Int)(s:ByteArray):(EY x b s==0)=!ey x b s:=zl λf hf=>by have:=h.fId hf;omega
theorem aw.nameLook(h:aw w g M x){b:Int}(hb:bj b)(hs:s.size≤maxLen):(Instr.lookup 110 (.map (some M.na)) (.agg #[I J b,V s]) false).run pQ w=.ok (I J (EY x b s)) w:=
 wj Dg h.maps.na Tryz.underlying110 (Mt hb hs) (Kv w) false (λf=>decide (f.inn=b∧f.name=s)) λf hf=>by rw[decide_eq_true_eq];exact zk
theorem Bd(x:St)(s:ByteArray):cH x s=(x.fees.find? λf=>decide (f.url=s)).elim 0 aP.id:=by
 unfold cH
 cases x.fees.find? λf=>decide (f.url=s)<;>rfl
theorem Dk(x:St)(b:Int)(s:ByteArray):ke x b s=(x.itms.find? λt=>decide (t.feed=b∧t.guid=s)).elim 0 aJ.id:=by
 unfold ke
 cases x.itms.find? λt=>decide (t.feed=b∧t.guid=s)<;>rfl
theorem aw.placeLook(h:aw w g M x)(hs:s.size≤maxLen)(ok:Bool):(Instr.lookup 111 (.map (some M.pl)) (V s) ok).run pQ w=.ok (if ok=true then .tuple #[I J (cH x s),.bool (!(cH x s==0))] else I J (cH x s)) w:=by
 have:=wj Df h.maps.pl Tryz.underlying111 (Mr hs) (Kv w) ok (λf=>decide (f.url=s)) λf hf=>by rw[decide_eq_true_eq];simp
 have e:=zl (gk:=aP.id) (l:=x.fees) (q:=λf=>decide (f.url=s)) (λf hf=>by have:=h.ok.eId hf;omega);rw[Bd,e,Bool.not_not];exact this
theorem aw.guidLook(h:aw w g M x){b:Int}(hb:bj b)(hs:s.size≤maxLen)(ok:Bool):(Instr.lookup 112 (.map (some M.gu)) (.agg #[I J b,V s]) ok).run pQ w=.ok (if ok=true then .tuple #[I J (ke x b s),.bool (!(ke x b s==0))] else I J (ke x b s)) w:=by
 have:=wj Dh h.maps.gu Tryz.underlying112 (Mu hb hs) (Kv w) ok (λt=>decide (t.feed=b∧t.guid=s)) λf hf=>by rw[decide_eq_true_eq];exact zk
 have e:=zl (gk:=aJ.id) (l:=x.itms) (q:=λt=>decide (t.feed=b∧t.guid=s)) (λf hf=>by have:=(h.ok.iId hf).1;omega);rw[Dk,e,Bool.not_not];exact this
theorem aw.heldLook(h:aw w g M x)(hi:bj i)(h0:i≠0):(Instr.lookup 113 (.map (some M.he)) (I J i) false).run pQ w=.ok (I J (bv x i)) w:=by
 obtain⟨L,h1,h2,h3⟩:=h.maps.he;exact d8.look ⟨L,h1,h2,h3⟩ hi h0
theorem FY(x:St)(i:Int):(bv x i==0)=kZ x i:=by
 unfold bv kZ;rw[Bool.eq_iff_iff,beq_iff_eq,Bool.and_eq_true,Bool.not_eq_true',Bool.not_eq_true',List.any_eq_false,List.any_eq_false];constructor
 ·intro h
  have h1:(x.fols.filter λf=>decide (f.inn=i)).length=0:=by omega
  have h2:(x.fees.filter λf=>decide (f.inn=i)).length=0:=by omega
  rw[List.length_eq_zero_iff,List.filter_eq_nil_iff] at h1 h2;exact⟨h1,h2⟩
 ·rintro⟨h1,h2⟩
  rw[List.filter_eq_nil_iff.2 h1,List.filter_eq_nil_iff.2 h2];rfl
theorem pL(h:di x)(i:Int):0≤bv x i∧bv x i≤128:=by
 have h1:=List.length_filter_le (λf:bg=>decide (f.inn=i)) x.fols;have h2:=List.length_filter_le (λf:aP=>decide (f.inn=i)) x.fees;have:=h.fL;have:=h.eL;unfold bv;omega
theorem rG:∀a b:List UInt8,Op.bytesLess a b=decide (a<b)
 | [],[]=>by simp[Op.bytesLess]
 | [],_::_=>by simp[Op.bytesLess]
 | _::_,[]=>by simp[Op.bytesLess]
 | x::a,y::b=>by
   rw[Bool.eq_iff_iff];simp only[Op.bytesLess,rG a b,Bool.or_eq_true,Bool.and_eq_true,beq_iff_eq,decide_eq_true_eq,List.cons_lt_cons_iff]
theorem Be(a b:ByteArray):Op.bytesLess a.toList b.toList=decide (lg a b):=by
 rw[rG,ByteArray.toList_eq,ByteArray.toList_eq];rfl
theorem pM(t:ByteArray)(l:List ByteArray)(h:l.Pairwise lg)(j:Nat)(hj:j<l.length):lg l[j] t↔j<bC t l:=by
 induction l generalizing j with
 | nil=>simp at hj
 | cons y r ih=>
   obtain⟨h1,h2⟩:=List.pairwise_cons.1 h;unfold bC
   by_cases hy:lg y t
   ·rw[List.takeWhile_cons_of_pos (by simpa using hy)]
    rcases j with _|j
    ·simpa using hy
    ·have:=ih h2 j (by simpa using hj)
     unfold bC at this
     simpa using this
   ·rw[List.takeWhile_cons_of_neg (by simpa using hy)]
    refine⟨λhl=>?_,λhl=>by simp at hl⟩;rcases j with _|j
    ·exact absurd hl hy
    ·exact absurd (nA (h1 _ (List.getElem_mem (by simpa using hj))) hl) hy
theorem ro(t:ByteArray)(l:List ByteArray):bC t l≤l.length:=(List.takeWhile_sublist _).length_le
theorem r9(t:ByteArray)(l:List ByteArray)(h:l.Pairwise lg):(∃hp:bC t l<l.length,l[bC t l]=t)↔t∈l:=by
 constructor
 ·rintro⟨hp,e⟩
  exact e ▸ List.getElem_mem hp
 ·intro ht
  obtain⟨j,hj,rfl⟩:=List.mem_iff_getElem.1 ht
  have e:j=bC l[j] l:=by
   have h1:=(pM l[j] l h j hj);have h2:¬j<bC l[j] l:=λhlt=>kT _ (h1.2 hlt)
   rcases Nat.lt_or_ge (bC l[j] l) j with h3|h3
   ·have hp:bC l[j] l<l.length:=by omega
    have h4:=(pM l[j] l h (bC l[j] l) hp);have h5:lg l[bC l[j] l] l[j]:=List.pairwise_iff_getElem.1 h _ _ hp hj h3;have:=h4.1 h5;omega
   ·omega
  exact⟨by omega,by simp only[←e]⟩
theorem Dl{W:World}{v:Sl}{l:List ByteArray}(hv:cI W v l)(hl:l.Pairwise lg)(h8:l.length≤8)(t:ByteArray):
  Calls pQ 153 #[U v.1 l.length v.2,V t] W λe w'=>e=.returned (.tuple #[I J (bC t l),.bool (l.any λy=>decide (y=t))])∧∃q,w'=W.drewN q:=by
 rcases Nat.eq_zero_or_pos l.length with h0|h0
 ·have hn:l=[]:=List.eq_nil_of_length_eq_zero h0
  subst hn;exact(Any2.slices_BinarySearch_string_empty Tryz.laysBS v.1 v.2 t W).mono λe w' ⟨h1,h2⟩=>⟨h1,0,h2⟩
 ·obtain⟨ad,hA,-,-,hc⟩:=hv.1.2 h0
  obtain⟨bk,off,sp⟩:=ad
  have hsp:sp=none:=by
   have h1:=hc 0 (V l[0]) (by simp);have h2:=xX h1
   simpa [Addr.add] using h2
  subst hsp
  have hcell:∀j,j<l.length→W.cell? ⟨bk,off+j,none⟩=some (V (l.getD j t)):=by
   intro j hj;have h1:=hc j (V l[j]) (by simp);rw[tW] at h1;rw[h1];simp[List.getD,List.getElem?_eq_getElem hj]
  have hgo:Lib.bsGo (λj=>Op.bytesLess (l.getD j t).toList t.toList) l.length 0 l.length=bC t l:=by
   refine Lib.bsGo_spec _ _ (λj hj=>?_) (λj hj=>?_) _ _ _ (by omega) (Nat.zero_le _) (ro t l)
   ·have xl:j<l.length:=Nat.lt_of_lt_of_le hj (ro t l)
    rw[Be];have:=(pM t l hl j xl).2 hj
    simpa [List.getD,List.getElem?_eq_getElem xl] using this
   ·rw[Be]
    rcases Nat.lt_or_ge j l.length with xl|xl
    ·have:=mt (pM t l hl j xl).1 (by omega)
     simpa [List.getD,List.getElem?_eq_getElem xl] using this
    ·have:l.getD j t=t:=by simp[List.getD,List.getElem?_eq_none xl]
     rw[this,decide_eq_false (kT t)]
  rw[hA];refine(Any2.slices_BinarySearch_string Tryz.laysBS bk off l.length v.2 (λj=>l.getD j t) t W (by omega) hcell).mono ?_;rintro e w' ⟨h1,h2⟩;rw[hgo] at h1;refine⟨?_,h2⟩;rw[h1]
  have e2:decide (bC t l<l.length∧l.getD (bC t l) t=t)=l.any λy=>decide (y=t):=by
   rw[Bool.eq_iff_iff,decide_eq_true_eq,List.any_eq_true];have hm:=r9 t l hl;constructor
   ·rintro⟨hp,e⟩
    exact⟨t,hm.1 ⟨hp,by simpa [List.getD,List.getElem?_eq_getElem hp] using e⟩,by simp⟩
   ·rintro⟨y,hy,e⟩
    simp at e;subst e;obtain⟨hp,e⟩:=hm.2 hy;exact⟨hp,by simp[List.getD,List.getElem?_eq_getElem hp,e]⟩
  rw[e2]
def nj(v:Sl)(t:aJ):Array Value:=#[I J t.id,I J t.feed,I J t.date,V t.guid,V t.title,V t.link,.bool t.read,.bool t.star,U v.1 t.tags.length v.2]
theorem sS(h:di x)(i:Int):(ag x i).tags.Pairwise lg∧(ag x i).tags.length≤8:=by
 unfold ag
 cases ha:eV aJ.id i x.itms with
 | none=>simp[M8]
 | some t=>
   have:=h.iE t (dG ha).1;exact⟨((kU _).1 this.2.2.2.2).2,this.2.2.2.1⟩
theorem tZ(v:Sl)(t:aJ)(w:World):(Instr.field 82 (.agg #[I J t.id,I J t.feed,I J t.date,V t.guid,V t.title,V t.link,.bool t.read,.bool t.star,U v.1 t.tags.length v.2]) 8).run pQ w=.ok (U v.1 t.tags.length v.2) w:=by kernel_rfl
theorem EZ(h:aw w g M x)(hi:bj i)(t:ByteArray):Calls pQ 102 #[O (some ⟨g,0,none⟩),I J i,V t] w λe w'=>e=.returned (.tuple #[I J (bC t (ag x i).tags),.bool ((ag x i).tags.any λy=>decide (y=t))])∧aa ac w w':=by
 obtain⟨c0,c1,c2,c3,c4,c5,c6,c7,c8,c9,c10,c11,c12⟩:=h.cells;obtain⟨v,hv,PC⟩:=h.itmLook hi;obtain⟨o1,o2⟩:=sS h.ok i;have KS:=h_ (Dl hv o1 o2 t);have hl:(Instr.lookup 108 (.map (some M.it)) (I J i) false).run pQ w=.ok (.agg (nj v (ag x i))) w:=PC false;unfold nj at hl;clear PC;have Na:=λW=>tZ v (ag x i) W
 generalize ag x i=q at *;clear h hv o1 o2;go_enter Tryz.func102,Tryz.ntmps102;go_wp2_with (go_at_call 153;refine KS.out.mono ?_;rintro e w' ⟨rfl,q,rfl⟩)
 go_ret2
 exact⟨rfl,(fR w).drewN _⟩
end
end
end Go.Proofs.YtaecjmiobllhmaaGreat
