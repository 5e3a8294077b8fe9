/- Words. -/
import Derived.Test.YtaecjmiobllhmaaGreatGr11
set_option linter.unusedVariables false
set_option linter.unusedSimpArgs false
set_option maxRecDepth 100000
set_option maxHeartbeats 16000000
namespace Go.Proofs.YtaecjmiobllhmaaGreat
open Go.Value renaming int→I,string→V,slice→U,pointer→O
open Go.IntKind renaming i64→J
open Tryz renaming prog→pQ
open Go.RowKit Go.Lib
variable {i:Int}{m:Nat}{L:List (Int×Int)}{n:Int}{s:ByteArray}
section
theorem Qj(w:World):(zeroValue 79).run pQ w=.ok (nO NU) w:=Tryz.zeroValue79 w
theorem Ju(w:World):(zeroValue 3).run pQ w=.ok (kI 0) w:=Tryz.zeroValue3 w
section
variable {w:World} {g:Nat} {M:Ms} {x:St}
theorem aH.cells(h:aH w g M x):w.cell? ⟨g,0,none⟩=some (I J x.clock)∧w.cell? ⟨g,1,none⟩=some (.map (some M.fo))∧w.cell? ⟨g,2,none⟩=some (.map (some M.fe))∧w.cell? ⟨g,3,none⟩=some (.map (some M.it))∧w.cell? ⟨g,4,none⟩=some (.map (some M.se))∧
  w.cell? ⟨g,5,none⟩=some (.map (some M.na))∧w.cell? ⟨g,6,none⟩=some (.map (some M.pl))∧w.cell? ⟨g,7,none⟩=some (.map (some M.gu))∧w.cell? ⟨g,8,none⟩=some (.map (some M.he))∧w.cell? ⟨g,9,none⟩=some (I J x.tFol)∧w.cell? ⟨g,10,none⟩=some (I J x.tFee)∧w.cell? ⟨g,11,none⟩=some (I J x.tItm)∧w.cell? ⟨g,12,none⟩=some (I J x.tSea):=by
 have c0:=h.blk.cell 0;have c1:=h.blk.cell 1;have c2:=h.blk.cell 2;have c3:=h.blk.cell 3;have c4:=h.blk.cell 4;have c5:=h.blk.cell 5;have c6:=h.blk.cell 6;have c7:=h.blk.cell 7;have c8:=h.blk.cell 8;have c9:=h.blk.cell 9;have c10:=h.blk.cell 10;have c11:=h.blk.cell 11;have c12:=h.blk.cell 12;simp at c0 c1 c2 c3 c4 c5 c6 c7 c8 c9 c10 c11 c12;exact⟨c0,c1,c2,c3,c4,c5,c6,c7,c8,c9,c10,c11,c12⟩
def iH(x:St)(i:Int):bh:=(kS bh.id i x.fols).elim NU id
theorem aH.folLook(h:aH w g M x)(hi:bn i)(ok:Bool):(Instr.lookup 106 (.map (some M.fo)) (I J i) ok).run pQ w=.ok (if ok=true then .tuple #[nO (iH x i),.bool (bl bh.id i x.fols)] else nO (iH x i)) w:=by
 have:=nQ cE h.maps.fo Tryz.underlying106 (pN hi) (Qj w) ok;unfold iH;unfold kI at this;rw[this]
 cases kS bh.id i x.fols<;>rfl
theorem aH.folLook2(h:aH w g M x)(hi:bn i):(Instr.lookup 106 (.map (some M.fo)) (I J i) true).run pQ w=.ok (.tuple #[.agg #[I J (iH x i).id,I J (iH x i).inn,V (iH x i).name],.bool (bl bh.id i x.fols)]) w:=by
 rw[h.folLook hi true];rfl
theorem kB(h:aH w g M x)(hi:bn i):Calls pQ 100 #[O (some ⟨g,0,none⟩),I J i] w λe w'=>e=.returned (.bool (nL x i))∧aa ag w w':=by
 obtain⟨c0,c1,c2,c3,c4,c5,c6,c7,c8,c9,c10,c11,c12⟩:=h.cells;have hl:=h.folLook2 hi;have HE:Hid (nL x i=(decide (i=0)||bl bh.id i x.fols)):=rfl;have HF:Hid (∀cs:Array Value,aa ag w (w.alloc (.cells cs 79))):=λcs=>(fR w).alloc _
 generalize iH x i=f at *;generalize bl bh.id i x.fols=b at *;clear h;go_enter Tryz.func100,Tryz.ntmps100;go_wp2
 all_goals
  go_ret;refine⟨af ?_,HF.out _⟩;rw[HE.out];simp[*]
theorem Qk(w:World):(zeroValue 64).run pQ w=.ok (kN NT) w:=Tryz.zeroValue64 w
theorem Ql(w:World):(zeroValue 84).run pQ w=.ok (nP NV) w:=Tryz.zeroValue84 w
theorem Jv(w:World):(zeroValue 82).run pQ w=.ok (iG (none,0) L9) w:=Tryz.zeroValue82 w
def au(x:St)(i:Int):aX:=(kS aX.id i x.fees).elim NT id
def qG(x:St)(i:Int):ce:=(kS ce.id i x.seas).elim NV id
def ah(x:St)(i:Int):aR:=(kS aR.id i x.itms).elim L9 id
theorem aH.feeLook(h:aH w g M x)(hi:bn i)(ok:Bool):(Instr.lookup 107 (.map (some M.fe)) (I J i) ok).run pQ w=.ok (if ok=true then .tuple #[kN (au x i),.bool (bl aX.id i x.fees)] else kN (au x i)) w:=by
 have:=nQ cE h.maps.fe Tryz.underlying107 (pN hi) (Qk w) ok;unfold au;unfold kI at this;rw[this]
 cases kS aX.id i x.fees<;>rfl
theorem aH.seaLook(h:aH w g M x)(hi:bn i)(ok:Bool):(Instr.lookup 109 (.map (some M.se)) (I J i) ok).run pQ w=.ok (if ok=true then .tuple #[nP (qG x i),.bool (bl ce.id i x.seas)] else nP (qG x i)) w:=by
 have:=nQ cE h.maps.se Tryz.underlying109 (pN hi) (Ql w) ok;unfold qG;unfold kI at this;rw[this]
 cases kS ce.id i x.seas<;>rfl
theorem aH.itmLook(h:aH w g M x)(hi:bn i):∃v:Sl,bF w v (ah x i).tags∧∀ok,(Instr.lookup 108 (.map (some M.it)) (I J i) ok).run pQ w=.ok (if ok=true then .tuple #[iG v (ah x i),.bool (bl aR.id i x.itms)] else iG v (ah x i)) w:=by
 obtain⟨sl,h1,h2⟩:=h.maps.it;unfold ah
 cases ha:kS aR.id i x.itms with
 | some t=>
   obtain⟨h3,h4⟩:=gM ha;refine⟨sl t.id,h2 t h3,λok=>?_⟩;have:=nQ cE h1 Tryz.underlying108 (pN hi) (Jv w) ok;unfold kI at this;rw[this,ha]
   rfl
 | none=>
   refine⟨(none,0),⟨Rd.none_,λ_=>rfl,Nat.le_refl _,Nat.zero_le _⟩,λok=>?_⟩;have:=nQ cE h1 Tryz.underlying108 (pN hi) (Jv w) ok;unfold kI at this;rw[this,ha];rfl
end
def cF(w:World)(m:Nat)(c:Int→Int):Prop:=∃L:List (Int×Int),aO pQ 3 w m (L.map λp=>(kI p.1,kI p.2))∧(∀p∈L,p.1≠0)∧∀i,i≠0→qV L i=c i
theorem sx{a b:Int}:kI a=kI b↔a=b:=by simp[kI]
theorem cF.look{w:World}{c:Int→Int}(h:cF w m c)(hi:bn i)(h0:i≠0):(Instr.lookup 113 (.map (some m)) (I J i) false).run pQ w=.ok (I J (c i)) w:=by
 obtain⟨L,h1,h2,h3⟩:=h;rw[←h3 i h0];unfold qV
 cases hf:L.find? λp=>decide (p.1=i) with
 | some p=>
   have hm:=List.mem_of_find?_eq_some hf;have hp:=List.find?_some hf;simp at hp
   exact h1.lookup_yes cE Tryz.underlying113 (List.mem_map.2 ⟨p,hm,by rw[hp];rfl⟩) false
 | none=>
   refine h1.lookup_no cE Tryz.underlying113 (pN hi) (λp hp=>?_) (Ju w) false;obtain⟨y,hy,rfl⟩:=List.mem_map.1 hp;have:=List.find?_eq_none.1 hf y hy;intro e;exact this (by simpa using sx.1 e)
theorem iw{p:Int×Int}(i:Int):qV (p::L) i=if p.1=i then p.2 else qV L i:=by
 unfold qV;rw[List.find?_cons]
 by_cases h:p.1=i
 ·simp[h]
 ·simp[h]
theorem C0{L L':List (Int×Int)}(hp:L.Perm L')(hn:(L.map (·.1)).Nodup)(i:Int):qV L i=qV L' i:=by
 induction hp with
 | nil=>rfl
 | cons p _ ih=>
   simp only[List.map_cons,List.nodup_cons] at hn
   rw[iw,iw,ih hn.2]
 | swap p q l=>
   simp only[List.map_cons,List.nodup_cons,List.mem_cons,not_or] at hn;rw[iw,iw,iw,iw]
   by_cases h1:p.1=i
   ·by_cases h2:q.1=i
    ·exact absurd (h2.trans h1.symm) hn.1.1
    ·simp[h1,h2]
   ·simp[h1]
 | trans h1 h2 Tr Ts=>rw[Tr hn,Ts ((h1.map _).nodup_iff.1 hn)]
theorem cF.upd{w:World}{c:Int→Int}(h:cF w m c)(hi:bn i)(h0:i≠0)(v:Int):
  ∃w',(Instr.mapUpdate 113 (.map (some m)) (I J i) (I J v)).run pQ w=.ok () w'∧cF w' m (λj=>if j=i then v else c j)∧aa (·=m) w w':=by
 obtain⟨L,h1,h2,h3⟩:=h;have hk:=h1.keys;rw[List.map_map] at hk
 have vh:(L.map (·.1)).Nodup:=by
  have:(L.map (·.1)).map kI=L.map ((λx=>x.1) ∘ λp=>(kI p.1,kI p.2)):=by rw[List.map_map];rfl
  rw[←this] at hk;exact List.Pairwise.of_map kI (λa b hab e=>hab (congrArg kI e)) hk
 by_cases hm:∃p∈L,p.1=i
 ·obtain⟨p,hp,rfl⟩:=hm
  obtain⟨A,B,rfl⟩:=List.append_of_mem hp
  have RZ:((A++p::B).map λp=>(kI p.1,kI p.2)).Perm ((kI p.1,kI p.2)::(A++B).map λp=>(kI p.1,kI p.2)):=by
   exact(List.perm_middle (a:=p) (l₁:=A) (l₂:=B)).map (λp:Int×Int=>(kI p.1,kI p.2))
  obtain⟨w',r1,r2,r3⟩:=h1.update_old cE Tryz.underlying113 RZ (kI v);refine⟨w',r1,⟨(p.1,v)::(A++B),r2,λq hq=>?_,λj hj=>?_⟩,r3⟩
  ·rcases List.mem_cons.1 hq with rfl|hq
   ·exact h0
   ·exact h2 q (by rcases List.mem_append.1 hq with h|h;·exact List.mem_append_left _ h
                   ·exact List.mem_append_right _ (List.mem_cons_of_mem _ h))
  ·show qV ((p.1,v)::(A++B)) j=if j=p.1 then v else c j
   rw[iw];have e:=C0 (List.perm_middle (a:=p) (l₁:=A) (l₂:=B)) vh j;rw[h3 j hj,iw] at e
   by_cases Ma:j=p.1
   ·simp[Ma]
   ·rw[if_neg (Ne.symm Ma)] at e ⊢
    rw[if_neg Ma,e]
 ·have hn:∀p∈L.map λp=>(kI p.1,kI p.2),p.1≠kI i:=by
   intro p hp e;obtain⟨y,hy,rfl⟩:=List.mem_map.1 hp;exact hm ⟨y,hy,sx.1 e⟩
  obtain⟨w',r1,r2,r3⟩:=h1.update_new cE Tryz.underlying113 (pN hi) hn (kI v);refine⟨w',r1,⟨(i,v)::L,r2,λq hq=>?_,λj hj=>?_⟩,r3⟩
  ·rcases List.mem_cons.1 hq with rfl|hq
   ·exact h0
   ·exact h2 q hq
  ·show qV ((i,v)::L) j=if j=i then v else c j
   rw[iw]
   by_cases Ma:j=i
   ·simp[Ma]
   ·rw[if_neg (Ne.symm Ma),if_neg Ma,h3 j hj]
theorem pP{w:World}{g m:Nat}{c:Int→Int}(hc:w.cell? ⟨g,8,none⟩=some (.map (some m)))(h:cF w m c)(hi:bn i)(Qm: -1000000≤c i∧c i≤1000000)(hn: -1≤n∧n≤1):
  Calls pQ 87 #[O (some ⟨g,0,none⟩),I J i,I J n] w λe w'=>e=.returned (.tuple #[])∧cF w' m (λj=>if j=i then c j+n else c j)∧aa (·=m) w w':=by
 by_cases h0:i=0
 ·subst h0
  have HH:Hid (cF w m (λj=>if j=0 then c j+n else c j)):=by
   obtain⟨L,h1,h2,h3⟩:=h;exact⟨L,h1,h2,λj hj=>by show qV L j=if j=0 then c j+n else c j;rw[h3 j hj,if_neg hj]⟩
  clear h;go_enter Tryz.func87,Tryz.ntmps87;go_wp2
  go_end0
  exact⟨rfl,HH.out,aa.refl _ _⟩
 ·have hl:=h.look hi h0
  obtain⟨w',hrun,h2,h3⟩:=h.upd hi h0 (c i+n)
  have HX:Hid (cF w' m (λj=>if j=i then c j+n else c j)∧aa (·=m) w w'):=by
   refine⟨?_,h3⟩
   have:(λj=>if j=i then c i+n else c j)=(λj=>if j=i then c j+n else c j):=by
    funext j
    by_cases hj:j=i
    ·simp[hj]
    ·simp[hj]
   rw[←this];exact h2
  have hb:(i==0)=false:=beq_eq_false_iff_ne.2 h0;clear h h2 h3;generalize c i=ci at *;go_enter Tryz.func87,Tryz.ntmps87;go_wp2_with (at_mapUpdate;refine aQ hrun rfl _ _ _ rfl rfl rfl rfl ?_)
  go_end0
  exact⟨rfl,HX.out⟩
end
def Qn(t0 t1 t2 t3:Int)(k:Nat)(v:Int):Int×Int×Int×Int:=if k=0 then (max t0 v,t1,t2,t3) else if k=1 then (t0,max t1 v,t2,t3) else if k=2 then (t0,t1,max t2 v,t3) else (t0,t1,t2,max t3 v)
def lY(c:Int)(M:Ms)(t:Int×Int×Int×Int):Array Value:=#[I J c,.map (some M.fo),.map (some M.fe),.map (some M.it),.map (some M.se),.map (some M.na),.map (some M.pl),.map (some M.gu),.map (some M.he),I J t.1,I J t.2.1,I J t.2.2.1,I J t.2.2.2]
theorem rF{w:World}{g:Nat}{M:Ms}{c t0 t1 t2 t3:Int}(hb:aj w g 116 (lY c M (t0,t1,t2,t3)))(k:Nat)(hk:k<4)(v:Int):
  Calls pQ 143 #[O (some ⟨g,0,none⟩),I J k,I J v] w λe w'=>e=.returned (.tuple #[])∧aj w' g 116 (lY c M (Qn t0 t1 t2 t3 k v))∧aa (·=g) w w':=by
 have c9:=hb.cell 9;have c10:=hb.cell 10;have c11:=hb.cell 11;have c12:=hb.cell 12;have f9:=hb.frozen 9;have f10:=hb.frozen 10;have f11:=hb.frozen 11;have f12:=hb.frozen 12;simp[lY] at c9 c10 c11 c12;have HB:Hid (∀(i:Nat) (u:Value),aj (w.setCell ⟨g,i,none⟩ u).drew g 116 ((lY c M (t0,t1,t2,t3)).setIfInBounds i u)):=λi u=>(hb.set_ i u).drew
 have HF:Hid (∀(i:Nat) (u:Value),aa (·=g) w (w.setCell ⟨g,i,none⟩ u).drew):=λi u=>((aa.refl (·=g) w).setCell (.inl rfl) u).drew
 clear hb;rcases(by omega:k=0∨k=1∨k=2∨k=3) with rfl|rfl|rfl|rfl
 all_goals
  clear hk;go_enter Tryz.func143,Tryz.ntmps143;go_wp2
  go_region
  go_end0
  exact⟨rfl,HB.out _ _,HF.out _ _⟩
theorem aO.empty{P:Program}{k:TypeId}(w:World):aO P k (w.alloc (.map #[] 0)) w.heap.size []:=
 ⟨[],0,heap_alloc_new w _,⟨by simp,by simp,by simp,by simp⟩,List.Perm.refl _⟩
theorem G6:bq iV=λ_=>0:=by funext i;simp[bq,iV]
theorem Jw(w:World):Calls pQ 38 #[] w λe w'=>∃g M,e=.returned (O (some ⟨g,0,none⟩))∧aH w' g M iV∧aa ag w w'∧∀k,SF g M k→w.heap.size≤k:=by
 have hmm:=@run_makeMap pQ;go_enter Tryz.func38,Tryz.ntmps38;go_wp2;clear hmm;go_ret;obtain⟨w1,h1⟩:∃w1,w1=w.alloc (.map #[] 0):=⟨_,rfl⟩;obtain⟨w2,h2⟩:∃w2,w2=w1.alloc (.map #[] 0):=⟨_,rfl⟩;obtain⟨w3,h3⟩:∃w3,w3=w2.alloc (.map #[] 0):=⟨_,rfl⟩;obtain⟨w4,h4⟩:∃w4,w4=w3.alloc (.map #[] 0):=⟨_,rfl⟩;obtain⟨w5,h5⟩:∃w5,w5=w4.alloc (.map #[] 0):=⟨_,rfl⟩;obtain⟨w6,h6⟩:∃w6,w6=w5.alloc (.map #[] 0):=⟨_,rfl⟩;obtain⟨w7,h7⟩:∃w7,w7=w6.alloc (.map #[] 0):=⟨_,rfl⟩;obtain⟨w8,h8⟩:∃w8,w8=w7.alloc (.map #[] 0):=⟨_,rfl⟩;have s1:w1.heap.size=w.heap.size+1:=by rw[h1];simp
 have s2:w2.heap.size=w.heap.size+2:=by rw[h2];simp[s1]
 have s3:w3.heap.size=w.heap.size+3:=by rw[h3];simp[s2]
 have s4:w4.heap.size=w.heap.size+4:=by rw[h4];simp[s3]
 have s5:w5.heap.size=w.heap.size+5:=by rw[h5];simp[s4]
 have s6:w6.heap.size=w.heap.size+6:=by rw[h6];simp[s5]
 have s7:w7.heap.size=w.heap.size+7:=by rw[h7];simp[s6]
 have s8:w8.heap.size=w.heap.size+8:=by rw[h8];simp[s7]
 have f1:aa ag w w1:=by rw[h1];exact(fR w).alloc _
 have f2:aa ag w1 w2:=by rw[h2];exact(fR w1).alloc _
 have f3:aa ag w2 w3:=by rw[h3];exact(fR w2).alloc _
 have f4:aa ag w3 w4:=by rw[h4];exact(fR w3).alloc _
 have f5:aa ag w4 w5:=by rw[h5];exact(fR w4).alloc _
 have f6:aa ag w5 w6:=by rw[h6];exact(fR w5).alloc _
 have f7:aa ag w6 w7:=by rw[h7];exact(fR w6).alloc _
 have f8:aa ag w7 w8:=by rw[h8];exact(fR w7).alloc _
 have f9:∀o,aa ag w8 (w8.alloc o):=λo=>(fR w8).alloc o
 have m1:aO pQ 3 w1 w.heap.size []:=by rw[h1];exact aO.empty w
 have m2:aO pQ 3 w2 w1.heap.size []:=by rw[h2];exact aO.empty w1
 have m3:aO pQ 3 w3 w2.heap.size []:=by rw[h3];exact aO.empty w2
 have m4:aO pQ 3 w4 w3.heap.size []:=by rw[h4];exact aO.empty w3
 have m5:aO pQ 134 w5 w4.heap.size []:=by rw[h5];exact aO.empty w4
 have m6:aO pQ 9 w6 w5.heap.size []:=by rw[h6];exact aO.empty w5
 have m7:aO pQ 153 w7 w6.heap.size []:=by rw[h7];exact aO.empty w6
 have m8:aO pQ 3 w8 w7.heap.size []:=by rw[h8];exact aO.empty w7
 rw[←h1,←h2,←h3,←h4,←h5,←h6,←h7,←h8];refine⟨w8.heap.size,⟨w.heap.size,w1.heap.size,w2.heap.size,w3.heap.size,w4.heap.size,w5.heap.size,w6.heap.size,w7.heap.size⟩,by simp[h1,h2,h3,h4,h5,h6,h7,h8],⟨?_,?_,?_,ud⟩,(((((((f1.trans f2).trans f3).trans f4).trans f5).trans f6).trans f7).trans f8).trans (f9 _),?_⟩
 ·rw[s1,s2,s3,s4,s5,s6,s7]
  exact aj.new w8 _ _
 ·have g8:=λo=>f9 o
  have g7:=λo=>f8.trans (f9 o)
  have g6:=λo=>f7.trans (g7 o)
  have g5:=λo=>f6.trans (g6 o)
  have g4:=λo=>f5.trans (g5 o)
  have g3:=λo=>f4.trans (g4 o)
  have g2:=λo=>f3.trans (g3 o)
  have g1:=λo=>f2.trans (g2 o)
  exact⟨m1.frm (g1 _) id,m2.frm (g2 _) id,⟨λ_=>(none,0),m3.frm (g3 _) id,λt ht=>by cases ht⟩,m4.frm (g4 _) id,m5.frm (g5 _) id,m6.frm (g6 _) id,m7.frm (g7 _) id,⟨[],m8.frm (g8 _) id,by simp,λi _=>by rw[G6];rfl⟩⟩
 ·constructor
  rw[s1,s2,s3,s4,s5,s6,s7,s8];simp
 ·intro k hk
  rw[s1,s2,s3,s4,s5,s6,s7,s8] at hk;rcases hk with e|e|e|e|e|e|e|e|e<;>(try simp only at e)<;>omega
theorem E0{x:St}(h:bl bh.id i x.fols=true):kS bh.id i x.fols=some (iH x i):=by
 have:=qm (g:=bh.id) (id:=i) (l:=x.fols);rw[h] at this;obtain⟨f,hf⟩:=Option.isSome_iff_exists.1 this;unfold iH;rw[hf];rfl
theorem C1(h:0≤n∧n≤1048576):bn n:=by unfold bn;omega
theorem gN.inn64{x:St}(h:gN x){f:bh}(hf:f∈x.fols):0≤f.inn∧f.inn≤1048576:=by
 have:=(h.fE f hf).1;rw[LX] at this;simp only[Bool.and_eq_true,aK,Bool.or_eq_true,decide_eq_true_eq] at this;rcases this.1.2 with h0|h0
 ·omega
 ·have:=iD.1 h0
  omega
def qr(x:St)(D k:Nat)(c:Int):Prop:=(bl bh.id c x.fols=true→∃m,lf x.fols m c∧k+m=D)∧(bl bh.id c x.fols=false→k=D)
theorem qr.start{x:St}(h:gN x)(i:Int):qr x (gv x i) 0 i:=by
 constructor
 ·intro hi
  obtain⟨j,hj,hc,hd⟩:=h.deep i (np.2 (.inr (gp.1 hi)));exact⟨j,hc,by omega⟩
 ·intro hi
  unfold gv;rw[if_neg (by simp[hi])]
theorem qr.step{x:St}(h:gN x){D k:Nat}{c:Int}(hr:qr x D k c)(hi:bl bh.id c x.fols=true):qr x D (k+1) (iH x c).inn∧k<D∧(0≤(iH x c).inn∧(iH x c).inn≤1048576):=by
 obtain⟨m,hc,hk⟩:=hr.1 hi;have hm:=E0 hi;have Qo:=h.inn64 (gM hm).1;rcases m with _|m
 ·have h0:c=0:=hc
  have:=(h.fId (gM hm).1);have:=(gM hm).2;omega
 ·obtain⟨h0,f,hf,hc'⟩:=hc
  rw[hm] at hf;injection hf with hf;subst hf;refine⟨⟨λ_=>⟨m,hc',by omega⟩,λhn=>?_⟩,by omega,Qo⟩;rcases m with _|m
  ·omega
  ·obtain⟨-,f,hf,-⟩:=hc'
   have:=(qm (g:=bh.id) (id:=(iH x c).inn) (l:=x.fols));rw[hf,hn] at this
   cases this
theorem G8{w:World}{g:Nat}{M:Ms}{x:St}(h:aH w g M x)(hi:bn i):
  Calls pQ 101 #[O (some ⟨g,0,none⟩),I J i] w λe w'=>e=.returned (I J (gv x i))∧aa ag w w':=by
 obtain⟨c0,c1,c2,c3,c4,c5,c6,c7,c8,c9,c10,c11,c12⟩:=h.cells;have hl:=h.folLook2 hi;have HS:=h_ h;have bE:=h_ (qr.start h.ok i);have vJ:=h.blk.lt
 have hD:gv x i≤8:=by
  by_cases hin:bl bh.id i x.fols=true
  ·obtain⟨j,hj,-,hd⟩:=h.ok.deep i (np.2 (.inr (gp.1 hin)))
   omega
  ·unfold gv
   rw[if_neg hin];omega
 generalize gv x i=D at *;clear h;go_enter Tryz.func101,Tryz.ntmps101;go_wp2
 go_loopw [5,7] (λnv iv wr=>∃(k:Nat) (c:Int),nv=I J k∧iv=.bool (bl bh.id c x.fols)∧bn c∧qr x D k c∧aa ag w wr∧aj wr w.heap.size 79 #[I J (iH x c).id,I J (iH x c).inn,V (iH x c).name]) (λnv _ _=>D-(intOf nv).toNat)
 case atStart=>exact⟨0,i,rfl,rfl,hi,bE.out,(fR w).alloc _,aj.new w _ _⟩
 case round=>
  obtain⟨k,c,rfl,rfl,Tt,hrel,hfr,hb⟩:=hrel;have NW:=h_ hrel;have HF:=h_ hfr;have HB:=h_ hb;have hs:=HS.out.nix hfr;obtain⟨c0,c1,c2,c3,c4,c5,c6,c7,c8,c9,c10,c11,c12⟩:=hs.cells;have b0:=hb.cell 0;have b1:=hb.cell 1;have b2:=hb.cell 2;simp at b0 b1 b2;have q0:=hb.frozen 0;have q1:=hb.frozen 1;have q2:=hb.frozen 2;have hbl:=hb.lt
  cases tN:bl bh.id c x.fols with
  | true=>
    obtain⟨s1,s2,s3⟩:=NW.out.step HS.out.ok tN;have bo:=h_ s1;have hl0:=hs.folLook2 (C1 s3);have Jy:=(hs.nix (fR wr).drew).folLook2 (C1 s3);have Qo:=C1 s3;clear hrel hfr hb hs s1
    have im:Hid (∀a b s,aj (((wr.setCell ⟨w.heap.size,0,none⟩ (I J a)).setCell ⟨w.heap.size,1,none⟩ (I J b)).setCell ⟨w.heap.size,2,none⟩ (V s)).drew w.heap.size 79 #[I J a,I J b,V s]):=λa b s=>by
     have:=((HB.out.set_ 0 (I J a)).set_ 1 (I J b)).set_ 2 (V s);exact this
    go_wp2
    go_region
    go_wp2;go_roundw
    case rel=>exact⟨k+1,(iH x c).inn,by go_num,rfl,Qo,bo.out,(((HF.out.setCell (.inr (Nat.le_refl _)) _).setCell (.inr (Nat.le_refl _)) _).setCell (.inr (Nat.le_refl _)) _).drew,im.out _ _ _⟩
    case measure=>simp[intOf];omega
  | false=>
    have hk:=NW.out.2 tN;subst hk;clear hrel hfr hb hs;go_wp2;go_ret;exact⟨rfl,HF.out⟩
section
theorem mo:512≤maxLen:=by decide
section
variable {w:World} {g:Nat} {M:Ms} {x:St}
theorem yQ{α:Type}{q:α→Bool}{gk:α→Int}{l:List α}(h:∀y∈l,gk y≠0):((l.find? q).elim 0 gk==0)=!l.any q:=by
 cases hf:l.find? q with
 | some y=>
   have h1:=List.mem_of_find?_eq_some hf;have h2:=List.find?_some hf;have h3:l.any q=true:=List.any_eq_true.2 ⟨y,h1,h2⟩;rw[h3]
   simpa using h y h1
 | none=>
   have h3:l.any q=false:=List.any_eq_false.2 λy hy=>by have:=List.find?_eq_none.1 hf y hy;simpa using this
   rw[h3];rfl
def Ei(x:St)(b:Int)(s:ByteArray):Int:=(x.fols.find? λf=>decide (f.inn=b∧f.name=s)).elim 0 bh.id
theorem E1(h:gN x)(b:Int)(s:ByteArray):(Ei x b s==0)=!nK x b s:=yQ λf hf=>by have:=h.fId hf;omega
theorem aH.nameLook(h:aH w g M x){b:Int}(hb:bn b)(hs:s.size≤maxLen):(Instr.lookup 110 (.map (some M.na)) (.agg #[I J b,V s]) false).run pQ w=.ok (I J (Ei x b s)) w:=
 wl CY h.maps.na Tryz.underlying110 (Lm hb hs) (Ju w) false (λf=>decide (f.inn=b∧f.name=s)) λf hf=>by rw[decide_eq_true_eq];exact yP
theorem A7(x:St)(s:ByteArray):dX x s=(x.fees.find? λf=>decide (f.url=s)).elim 0 aX.id:=by
 unfold dX
 cases x.fees.find? λf=>decide (f.url=s)<;>rfl
theorem C2(x:St)(b:Int)(s:ByteArray):jI x b s=(x.itms.find? λt=>decide (t.feed=b∧t.guid=s)).elim 0 aR.id:=by
 unfold jI
 cases x.itms.find? λt=>decide (t.feed=b∧t.guid=s)<;>rfl
theorem aH.placeLook(h:aH w g M x)(hs:s.size≤maxLen)(ok:Bool):(Instr.lookup 111 (.map (some M.pl)) (V s) ok).run pQ w=.ok (if ok=true then .tuple #[I J (dX x s),.bool (!(dX x s==0))] else I J (dX x s)) w:=by
 have:=wl CX h.maps.pl Tryz.underlying111 (Ll hs) (Ju w) ok (λf=>decide (f.url=s)) λf hf=>by rw[decide_eq_true_eq];simp
 have e:=yQ (gk:=aX.id) (l:=x.fees) (q:=λf=>decide (f.url=s)) (λf hf=>by have:=h.ok.eId hf;omega);rw[A7,e,Bool.not_not];exact this
theorem aH.guidLook(h:aH w g M x){b:Int}(hb:bn b)(hs:s.size≤maxLen)(ok:Bool):(Instr.lookup 112 (.map (some M.gu)) (.agg #[I J b,V s]) ok).run pQ w=.ok (if ok=true then .tuple #[I J (jI x b s),.bool (!(jI x b s==0))] else I J (jI x b s)) w:=by
 have:=wl CZ h.maps.gu Tryz.underlying112 (Ln hb hs) (Ju w) ok (λt=>decide (t.feed=b∧t.guid=s)) λf hf=>by rw[decide_eq_true_eq];exact yP
 have e:=yQ (gk:=aR.id) (l:=x.itms) (q:=λt=>decide (t.feed=b∧t.guid=s)) (λf hf=>by have:=(h.ok.iId hf).1;omega);rw[C2,e,Bool.not_not];exact this
theorem aH.heldLook(h:aH w g M x)(hi:bn i)(h0:i≠0):(Instr.lookup 113 (.map (some M.he)) (I J i) false).run pQ w=.ok (I J (bq x i)) w:=by
 obtain⟨L,h1,h2,h3⟩:=h.maps.he;exact cF.look ⟨L,h1,h2,h3⟩ hi h0
theorem E2(x:St)(i:Int):(bq x i==0)=kM x i:=by
 unfold bq kM;rw[Bool.eq_iff_iff,beq_iff_eq,Bool.and_eq_true,Bool.not_eq_true',Bool.not_eq_true',List.any_eq_false,List.any_eq_false];constructor
 ·intro h
  have h1:(x.fols.filter λf=>decide (f.inn=i)).length=0:=by omega
  have h2:(x.fees.filter λf=>decide (f.inn=i)).length=0:=by omega
  rw[List.length_eq_zero_iff,List.filter_eq_nil_iff] at h1 h2;exact⟨h1,h2⟩
 ·rintro⟨h1,h2⟩
  rw[List.filter_eq_nil_iff.2 h1,List.filter_eq_nil_iff.2 h2];rfl
theorem pR(h:gN x)(i:Int):0≤bq x i∧bq x i≤128:=by
 have h1:=List.length_filter_le (λf:bh=>decide (f.inn=i)) x.fols;have h2:=List.length_filter_le (λf:aX=>decide (f.inn=i)) x.fees;have:=h.fL;have:=h.eL;unfold bq;omega
theorem rT:∀a b:List UInt8,Op.bytesLess a b=decide (a<b)
 | [],[]=>by simp[Op.bytesLess]
 | [],_::_=>by simp[Op.bytesLess]
 | _::_,[]=>by simp[Op.bytesLess]
 | x::a,y::b=>by
   rw[Bool.eq_iff_iff];simp only[Op.bytesLess,rT a b,Bool.or_eq_true,Bool.and_eq_true,beq_iff_eq,decide_eq_true_eq,List.cons_lt_cons_iff]
theorem A8(a b:ByteArray):Op.bytesLess a.toList b.toList=decide (lU a b):=by
 rw[rT,ByteArray.toList_eq,ByteArray.toList_eq];rfl
theorem pS(t:ByteArray)(l:List ByteArray)(h:l.Pairwise lU)(j:Nat)(hj:j<l.length):lU l[j] t↔j<bB t l:=by
 induction l generalizing j with
 | nil=>simp at hj
 | cons y r ih=>
   obtain⟨h1,h2⟩:=List.pairwise_cons.1 h;unfold bB
   by_cases hy:lU y t
   ·rw[List.takeWhile_cons_of_pos (by simpa using hy)]
    rcases j with _|j
    ·simpa using hy
    ·have:=ih h2 j (by simpa using hj)
     unfold bB at this
     simpa using this
   ·rw[List.takeWhile_cons_of_neg (by simpa using hy)]
    refine⟨λhl=>?_,λhl=>by simp at hl⟩;rcases j with _|j
    ·exact absurd hl hy
    ·exact absurd (nC (h1 _ (List.getElem_mem (by simpa using hj))) hl) hy
theorem rG(t:ByteArray)(l:List ByteArray):bB t l≤l.length:=(List.takeWhile_sublist _).length_le
theorem sA(t:ByteArray)(l:List ByteArray)(h:l.Pairwise lU):(∃hp:bB t l<l.length,l[bB t l]=t)↔t∈l:=by
 constructor
 ·rintro⟨hp,e⟩
  exact e ▸ List.getElem_mem hp
 ·intro ht
  obtain⟨j,hj,rfl⟩:=List.mem_iff_getElem.1 ht
  have e:j=bB l[j] l:=by
   have h1:=(pS l[j] l h j hj);have h2:¬j<bB l[j] l:=λhlt=>lV _ (h1.2 hlt)
   rcases Nat.lt_or_ge (bB l[j] l) j with h3|h3
   ·have hp:bB l[j] l<l.length:=by omega
    have h4:=(pS l[j] l h (bB l[j] l) hp);have h5:lU l[bB l[j] l] l[j]:=List.pairwise_iff_getElem.1 h _ _ hp hj h3;have:=h4.1 h5;omega
   ·omega
  exact⟨by omega,by simp only[←e]⟩
theorem C3{W:World}{v:Sl}{l:List ByteArray}(hv:bF W v l)(hl:l.Pairwise lU)(h8:l.length≤8)(t:ByteArray):
  Calls pQ 153 #[U v.1 l.length v.2,V t] W λe w'=>e=.returned (.tuple #[I J (bB t l),.bool (l.any λy=>decide (y=t))])∧∃q,w'=W.drewN q:=by
 rcases Nat.eq_zero_or_pos l.length with h0|h0
 ·have hn:l=[]:=List.eq_nil_of_length_eq_zero h0
  subst hn;exact(Any2.slices_BinarySearch_string_empty Tryz.laysBS v.1 v.2 t W).mono λe w' ⟨h1,h2⟩=>⟨h1,0,h2⟩
 ·obtain⟨ad,hA,-,-,hc⟩:=hv.1.2 h0
  obtain⟨bk,off,sp⟩:=ad
  have hsp:sp=none:=by
   have h1:=hc 0 (V l[0]) (by simp);have h2:=xO h1
   simpa [Addr.add] using h2
  subst hsp
  have hcell:∀j,j<l.length→W.cell? ⟨bk,off+j,none⟩=some (V (l.getD j t)):=by
   intro j hj;have h1:=hc j (V l[j]) (by simp);rw[tZ] at h1;rw[h1];simp[List.getD,List.getElem?_eq_getElem hj]
  have hgo:Lib.bsGo (λj=>Op.bytesLess (l.getD j t).toList t.toList) l.length 0 l.length=bB t l:=by
   refine Lib.bsGo_spec _ _ (λj hj=>?_) (λj hj=>?_) _ _ _ (by omega) (Nat.zero_le _) (rG t l)
   ·have uO:j<l.length:=Nat.lt_of_lt_of_le hj (rG t l)
    rw[A8];have:=(pS t l hl j uO).2 hj
    simpa [List.getD,List.getElem?_eq_getElem uO] using this
   ·rw[A8]
    rcases Nat.lt_or_ge j l.length with uO|uO
    ·have:=mt (pS t l hl j uO).1 (by omega)
     simpa [List.getD,List.getElem?_eq_getElem uO] using this
    ·have:l.getD j t=t:=by simp[List.getD,List.getElem?_eq_none uO]
     rw[this,decide_eq_false (lV t)]
  rw[hA];refine(Any2.slices_BinarySearch_string Tryz.laysBS bk off l.length v.2 (λj=>l.getD j t) t W (by omega) hcell).mono ?_;rintro e w' ⟨h1,h2⟩;rw[hgo] at h1;refine⟨?_,h2⟩;rw[h1]
  have e2:decide (bB t l<l.length∧l.getD (bB t l) t=t)=l.any λy=>decide (y=t):=by
   rw[Bool.eq_iff_iff,decide_eq_true_eq,List.any_eq_true];have hm:=sA t l hl;constructor
   ·rintro⟨hp,e⟩
    exact⟨t,hm.1 ⟨hp,by simpa [List.getD,List.getElem?_eq_getElem hp] using e⟩,by simp⟩
   ·rintro⟨y,hy,e⟩
    simp at e;subst e;obtain⟨hp,e⟩:=hm.2 hy;exact⟨hp,by simp[List.getD,List.getElem?_eq_getElem hp,e]⟩
  rw[e2]
def nr(v:Sl)(t:aR):Array Value:=#[I J t.id,I J t.feed,I J t.date,V t.guid,V t.title,V t.link,.bool t.read,.bool t.star,U v.1 t.tags.length v.2]
theorem A9(h:gN x)(i:Int):(ah x i).tags.Pairwise lU∧(ah x i).tags.length≤8:=by
 unfold ah
 cases ha:kS aR.id i x.itms with
 | none=>simp[L9]
 | some t=>
   have:=h.iE t (gM ha).1;exact⟨((lW _).1 this.2.2.2.2).2,this.2.2.2.1⟩
theorem ue(v:Sl)(t:aR)(w:World):(Instr.field 82 (.agg #[I J t.id,I J t.feed,I J t.date,V t.guid,V t.title,V t.link,.bool t.read,.bool t.star,U v.1 t.tags.length v.2]) 8).run pQ w=.ok (U v.1 t.tags.length v.2) w:=by kernel_rfl
theorem Ej(h:aH w g M x)(hi:bn i)(t:ByteArray):Calls pQ 102 #[O (some ⟨g,0,none⟩),I J i,V t] w λe w'=>e=.returned (.tuple #[I J (bB t (ah x i).tags),.bool ((ah x i).tags.any λy=>decide (y=t))])∧aa ag w w':=by
 obtain⟨c0,c1,c2,c3,c4,c5,c6,c7,c8,c9,c10,c11,c12⟩:=h.cells;obtain⟨v,hv,NX⟩:=h.itmLook hi;obtain⟨o1,o2⟩:=A9 h.ok i;have KS:=h_ (C3 hv o1 o2 t);have hl:(Instr.lookup 108 (.map (some M.it)) (I J i) false).run pQ w=.ok (.agg (nr v (ah x i))) w:=NX false;unfold nr at hl;clear NX;have Qp:=λW=>ue v (ah x i) W
 generalize ah x i=q at *;clear h hv o1 o2;go_enter Tryz.func102,Tryz.ntmps102;go_wp2_with (go_at_call 153;refine KS.out.mono ?_;rintro e w' ⟨rfl,q,rfl⟩)
 go_ret2
 exact⟨rfl,(fR w).drewN _⟩
end
end
end Go.Proofs.YtaecjmiobllhmaaGreat
