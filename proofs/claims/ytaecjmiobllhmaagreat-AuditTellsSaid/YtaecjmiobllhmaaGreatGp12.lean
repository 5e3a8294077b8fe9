/- Words. -/
import Derived.Test.YtaecjmiobllhmaaGreatGp11
import Derived.BigRegion
import Derived.Test.YtaecjmiobllhmaaGreatGp06
set_option linter.unusedVariables false
set_option linter.unusedSimpArgs false
set_option maxRecDepth 100000
set_option maxHeartbeats 16000000
namespace Go.Proofs.YtaecjmiobllhmaaGreat
open Go.RowKit Go.Lib
section
theorem zFol(w:World):(zeroValue 79).run Tryz.prog w=.ok (folV folD) w:=Tryz.zeroValue79 w
theorem zInt(w:World):(zeroValue 3).run Tryz.prog w=.ok (kI 0) w:=Tryz.zeroValue3 w
section
variable {w:World} {g:Nat} {M:Ms} {x:St}
theorem StAt.cells(h:StAt w g M x):w.cell? ⟨g,0,none⟩=some (.int .i64 x.clock)∧w.cell? ⟨g,1,none⟩=some (.map (some M.fo))∧w.cell? ⟨g,2,none⟩=some (.map (some M.fe))∧w.cell? ⟨g,3,none⟩=some (.map (some M.it))∧w.cell? ⟨g,4,none⟩=some (.map (some M.se))∧
  w.cell? ⟨g,5,none⟩=some (.map (some M.na))∧w.cell? ⟨g,6,none⟩=some (.map (some M.pl))∧w.cell? ⟨g,7,none⟩=some (.map (some M.gu))∧w.cell? ⟨g,8,none⟩=some (.map (some M.he))∧w.cell? ⟨g,9,none⟩=some (.int .i64 x.tFol)∧w.cell? ⟨g,10,none⟩=some (.int .i64 x.tFee)∧w.cell? ⟨g,11,none⟩=some (.int .i64 x.tItm)∧w.cell? ⟨g,12,none⟩=some (.int .i64 x.tSea):=by
 have c0:=h.blk.cell 0;have c1:=h.blk.cell 1;have c2:=h.blk.cell 2;have c3:=h.blk.cell 3;have c4:=h.blk.cell 4;have c5:=h.blk.cell 5;have c6:=h.blk.cell 6;have c7:=h.blk.cell 7;have c8:=h.blk.cell 8;have c9:=h.blk.cell 9;have c10:=h.blk.cell 10;have c11:=h.blk.cell 11;have c12:=h.blk.cell 12;simp at c0 c1 c2 c3 c4 c5 c6 c7 c8 c9 c10 c11 c12;exact⟨c0,c1,c2,c3,c4,c5,c6,c7,c8,c9,c10,c11,c12⟩
def folAt(x:St)(i:Int):Fol:=(atI Fol.id i x.fols).elim folD id
theorem StAt.folLook(h:StAt w g M x){i:Int}(hi:I64 i)(ok:Bool):(Instr.lookup 106 (.map (some M.fo)) (.int .i64 i) ok).run Tryz.prog w=.ok (if ok=true then .tuple #[folV (folAt x i),.bool (isI Fol.id i x.fols)] else folV (folAt x i)) w:=by
 have:=tab_look keyedI h.maps.fo Tryz.underlying106 (isK_I hi) (zFol w) ok;unfold folAt;unfold kI at this;rw[this]
 cases atI Fol.id i x.fols<;>rfl
theorem StAt.folLook2(h:StAt w g M x){i:Int}(hi:I64 i):(Instr.lookup 106 (.map (some M.fo)) (.int .i64 i) true).run Tryz.prog w=.ok (.tuple #[.agg #[.int .i64 (folAt x i).id,.int .i64 (folAt x i).inn,.string (folAt x i).name],.bool (isI Fol.id i x.fols)]) w:=by
 rw[h.folLook hi true];rfl
theorem within_any(h:StAt w g M x){i:Int}(hi:I64 i):Calls Tryz.prog 100 #[.pointer (some ⟨g,0,none⟩),.int .i64 i] w λe w'=>e=.returned (.bool (inS x i))∧Frm Nix w w':=by
 obtain⟨c0,c1,c2,c3,c4,c5,c6,c7,c8,c9,c10,c11,c12⟩:=h.cells;have hl:=h.folLook2 hi;have HE:Hid (inS x i=(decide (i=0)||isI Fol.id i x.fols)):=rfl;have HF:Hid (∀cs:Array Value,Frm Nix w (w.alloc (.cells cs 79))):=λcs=>(fR w).alloc _
 generalize folAt x i=f at *;generalize isI Fol.id i x.fols=b at *;clear h;go_enter Tryz.func100,Tryz.ntmps100;go_wp2
 all_goals
  go_ret;refine⟨ret_bool ?_,HF.out _⟩;rw[HE.out];simp[*]
theorem zFee(w:World):(zeroValue 64).run Tryz.prog w=.ok (feeV feeD) w:=Tryz.zeroValue64 w
theorem zSea(w:World):(zeroValue 84).run Tryz.prog w=.ok (seaV seaD) w:=Tryz.zeroValue84 w
theorem zItm(w:World):(zeroValue 82).run Tryz.prog w=.ok (itmV (none,0) itmD) w:=Tryz.zeroValue82 w
def feeAt(x:St)(i:Int):Fee:=(atI Fee.id i x.fees).elim feeD id
def seaAt(x:St)(i:Int):Sea:=(atI Sea.id i x.seas).elim seaD id
def itmAt(x:St)(i:Int):Itm:=(atI Itm.id i x.itms).elim itmD id
theorem StAt.feeLook(h:StAt w g M x){i:Int}(hi:I64 i)(ok:Bool):(Instr.lookup 107 (.map (some M.fe)) (.int .i64 i) ok).run Tryz.prog w=.ok (if ok=true then .tuple #[feeV (feeAt x i),.bool (isI Fee.id i x.fees)] else feeV (feeAt x i)) w:=by
 have:=tab_look keyedI h.maps.fe Tryz.underlying107 (isK_I hi) (zFee w) ok;unfold feeAt;unfold kI at this;rw[this]
 cases atI Fee.id i x.fees<;>rfl
theorem StAt.seaLook(h:StAt w g M x){i:Int}(hi:I64 i)(ok:Bool):(Instr.lookup 109 (.map (some M.se)) (.int .i64 i) ok).run Tryz.prog w=.ok (if ok=true then .tuple #[seaV (seaAt x i),.bool (isI Sea.id i x.seas)] else seaV (seaAt x i)) w:=by
 have:=tab_look keyedI h.maps.se Tryz.underlying109 (isK_I hi) (zSea w) ok;unfold seaAt;unfold kI at this;rw[this]
 cases atI Sea.id i x.seas<;>rfl
theorem StAt.itmLook(h:StAt w g M x){i:Int}(hi:I64 i):∃v:Sl,TagsIn w v (itmAt x i).tags∧∀ok,(Instr.lookup 108 (.map (some M.it)) (.int .i64 i) ok).run Tryz.prog w=.ok (if ok=true then .tuple #[itmV v (itmAt x i),.bool (isI Itm.id i x.itms)] else itmV v (itmAt x i)) w:=by
 obtain⟨sl,h1,h2⟩:=h.maps.it;unfold itmAt
 cases ha:atI Itm.id i x.itms with
 | some t=>
   obtain⟨h3,h4⟩:=atI_mem ha;refine⟨sl t.id,h2 t h3,λok=>?_⟩;have:=tab_look keyedI h1 Tryz.underlying108 (isK_I hi) (zItm w) ok;unfold kI at this;rw[this,ha]
   rfl
 | none=>
   refine⟨(none,0),⟨Rd.none_,λ_=>rfl,Nat.le_refl _,Nat.zero_le _⟩,λok=>?_⟩;have:=tab_look keyedI h1 Tryz.underlying108 (isK_I hi) (zItm w) ok;unfold kI at this;rw[this,ha];rfl
end
def HeldIs(w:World)(m:Nat)(c:Int→Int):Prop:=∃L:List (Int×Int),MapIs Tryz.prog 3 w m (L.map λp=>(kI p.1,kI p.2))∧(∀p∈L,p.1≠0)∧∀i,i≠0→heldL L i=c i
theorem kI_inj{a b:Int}:kI a=kI b↔a=b:=by simp[kI]
theorem HeldIs.look{w:World}{m:Nat}{c:Int→Int}(h:HeldIs w m c){i:Int}(hi:I64 i)(h0:i≠0):(Instr.lookup 113 (.map (some m)) (.int .i64 i) false).run Tryz.prog w=.ok (.int .i64 (c i)) w:=by
 obtain⟨L,h1,h2,h3⟩:=h;rw[←h3 i h0];unfold heldL
 cases hf:L.find? λp=>decide (p.1=i) with
 | some p=>
   have hm:=List.mem_of_find?_eq_some hf;have hp:=List.find?_some hf;simp at hp
   exact h1.lookup_yes keyedI Tryz.underlying113 (List.mem_map.2 ⟨p,hm,by rw[hp];rfl⟩) false
 | none=>
   refine h1.lookup_no keyedI Tryz.underlying113 (isK_I hi) (λp hp=>?_) (zInt w) false;obtain⟨y,hy,rfl⟩:=List.mem_map.1 hp;have:=List.find?_eq_none.1 hf y hy;intro e;exact this (by simpa using kI_inj.1 e)
theorem heldL_cons{L:List (Int×Int)}{p:Int×Int}(i:Int):heldL (p::L) i=if p.1=i then p.2 else heldL L i:=by
 unfold heldL;rw[List.find?_cons]
 by_cases h:p.1=i
 ·simp[h]
 ·simp[h]
theorem heldL_perm{L L':List (Int×Int)}(hp:L.Perm L')(hn:(L.map (·.1)).Nodup)(i:Int):heldL L i=heldL L' i:=by
 induction hp with
 | nil=>rfl
 | cons p _ ih=>
   simp only[List.map_cons,List.nodup_cons] at hn
   rw[heldL_cons,heldL_cons,ih hn.2]
 | swap p q l=>
   simp only[List.map_cons,List.nodup_cons,List.mem_cons,not_or] at hn;rw[heldL_cons,heldL_cons,heldL_cons,heldL_cons]
   by_cases h1:p.1=i
   ·by_cases h2:q.1=i
    ·exact absurd (h2.trans h1.symm) hn.1.1
    ·simp[h1,h2]
   ·simp[h1]
 | trans h1 h2 ih1 ih2=>rw[ih1 hn,ih2 ((h1.map _).nodup_iff.1 hn)]
theorem HeldIs.upd{w:World}{m:Nat}{c:Int→Int}(h:HeldIs w m c){i:Int}(hi:I64 i)(h0:i≠0)(v:Int):
  ∃w',(Instr.mapUpdate 113 (.map (some m)) (.int .i64 i) (.int .i64 v)).run Tryz.prog w=.ok () w'∧HeldIs w' m (λj=>if j=i then v else c j)∧Frm (·=m) w w':=by
 obtain⟨L,h1,h2,h3⟩:=h;have hk:=h1.keys;rw[List.map_map] at hk
 have hk1:(L.map (·.1)).Nodup:=by
  have:(L.map (·.1)).map kI=L.map ((λx=>x.1) ∘ λp=>(kI p.1,kI p.2)):=by rw[List.map_map];rfl
  rw[←this] at hk;exact List.Pairwise.of_map kI (λa b hab e=>hab (congrArg kI e)) hk
 by_cases hm:∃p∈L,p.1=i
 ·obtain⟨p,hp,rfl⟩:=hm
  obtain⟨A,B,rfl⟩:=List.append_of_mem hp
  have hpm:((A++p::B).map λp=>(kI p.1,kI p.2)).Perm ((kI p.1,kI p.2)::(A++B).map λp=>(kI p.1,kI p.2)):=by
   exact(List.perm_middle (a:=p) (l₁:=A) (l₂:=B)).map (λp:Int×Int=>(kI p.1,kI p.2))
  obtain⟨w',r1,r2,r3⟩:=h1.update_old keyedI Tryz.underlying113 hpm (kI v);refine⟨w',r1,⟨(p.1,v)::(A++B),r2,λq hq=>?_,λj hj=>?_⟩,r3⟩
  ·rcases List.mem_cons.1 hq with rfl | hq
   ·exact h0
   ·exact h2 q (by rcases List.mem_append.1 hq with h | h;·exact List.mem_append_left _ h
                   ·exact List.mem_append_right _ (List.mem_cons_of_mem _ h))
  ·show heldL ((p.1,v)::(A++B)) j=if j=p.1 then v else c j
   rw[heldL_cons];have e:=heldL_perm (List.perm_middle (a:=p) (l₁:=A) (l₂:=B)) hk1 j;rw[h3 j hj,heldL_cons] at e
   by_cases hji:j=p.1
   ·simp[hji]
   ·rw[if_neg (Ne.symm hji)] at e ⊢
    rw[if_neg hji,e]
 ·have hn:∀p∈L.map λp=>(kI p.1,kI p.2),p.1≠kI i:=by
   intro p hp e;obtain⟨y,hy,rfl⟩:=List.mem_map.1 hp;exact hm ⟨y,hy,kI_inj.1 e⟩
  obtain⟨w',r1,r2,r3⟩:=h1.update_new keyedI Tryz.underlying113 (isK_I hi) hn (kI v);refine⟨w',r1,⟨(i,v)::L,r2,λq hq=>?_,λj hj=>?_⟩,r3⟩
  ·rcases List.mem_cons.1 hq with rfl | hq
   ·exact h0
   ·exact h2 q hq
  ·show heldL ((i,v)::L) j=if j=i then v else c j
   rw[heldL_cons]
   by_cases hji:j=i
   ·simp[hji]
   ·rw[if_neg (Ne.symm hji),if_neg hji,h3 j hj]
theorem hold_any{w:World}{g m:Nat}{c:Int→Int}(hc:w.cell? ⟨g,8,none⟩=some (.map (some m)))(h:HeldIs w m c){i n:Int}(hi:I64 i)(hcn: -1000000≤c i∧c i≤1000000)(hn: -1≤n∧n≤1):
  Calls Tryz.prog 87 #[.pointer (some ⟨g,0,none⟩),.int .i64 i,.int .i64 n] w λe w'=>e=.returned (.tuple #[])∧HeldIs w' m (λj=>if j=i then c j+n else c j)∧Frm (·=m) w w':=by
 by_cases h0:i=0
 ·subst h0
  have HH:Hid (HeldIs w m (λj=>if j=0 then c j+n else c j)):=by
   obtain⟨L,h1,h2,h3⟩:=h;exact⟨L,h1,h2,λj hj=>by show heldL L j=if j=0 then c j+n else c j;rw[h3 j hj,if_neg hj]⟩
  clear h;go_enter Tryz.func87,Tryz.ntmps87;go_wp2
  go_end0
  exact⟨rfl,HH.out,Frm.refl _ _⟩
 ·have hl:=h.look hi h0
  obtain⟨w',hrun,h2,h3⟩:=h.upd hi h0 (c i+n)
  have HX:Hid (HeldIs w' m (λj=>if j=i then c j+n else c j)∧Frm (·=m) w w'):=by
   refine⟨?_,h3⟩
   have:(λj=>if j=i then c i+n else c j)=(λj=>if j=i then c j+n else c j):=by
    funext j
    by_cases hj:j=i
    ·simp[hj]
    ·simp[hj]
   rw[←this];exact h2
  have hb:(i==0)=false:=beq_eq_false_iff_ne.2 h0;clear h h2 h3;generalize c i=ci at *;go_enter Tryz.func87,Tryz.ntmps87;go_wp2_with (at_mapUpdate;refine wpList_mapUpdate_run hrun rfl _ _ _ rfl rfl rfl rfl ?_)
  go_end0
  exact⟨rfl,HX.out⟩
end
def topC(t0 t1 t2 t3:Int)(k:Nat)(v:Int):Int×Int×Int×Int:=if k=0 then (max t0 v,t1,t2,t3) else if k=1 then (t0,max t1 v,t2,t3) else if k=2 then (t0,t1,max t2 v,t3) else (t0,t1,t2,max t3 v)
def stCells(c:Int)(M:Ms)(t:Int×Int×Int×Int):Array Value:=#[.int .i64 c,.map (some M.fo),.map (some M.fe),.map (some M.it),.map (some M.se),.map (some M.na),.map (some M.pl),.map (some M.gu),.map (some M.he),.int .i64 t.1,.int .i64 t.2.1,.int .i64 t.2.2.1,.int .i64 t.2.2.2]
theorem raise_any{w:World}{g:Nat}{M:Ms}{c t0 t1 t2 t3:Int}(hb:Blk w g 116 (stCells c M (t0,t1,t2,t3)))(k:Nat)(hk:k<4)(v:Int):
  Calls Tryz.prog 143 #[.pointer (some ⟨g,0,none⟩),.int .i64 k,.int .i64 v] w λe w'=>e=.returned (.tuple #[])∧Blk w' g 116 (stCells c M (topC t0 t1 t2 t3 k v))∧Frm (·=g) w w':=by
 have c9:=hb.cell 9;have c10:=hb.cell 10;have c11:=hb.cell 11;have c12:=hb.cell 12;have f9:=hb.frozen 9;have f10:=hb.frozen 10;have f11:=hb.frozen 11;have f12:=hb.frozen 12;simp[stCells] at c9 c10 c11 c12;have HB:Hid (∀(i:Nat) (u:Value),Blk (w.setCell ⟨g,i,none⟩ u).drew g 116 ((stCells c M (t0,t1,t2,t3)).setIfInBounds i u)):=λi u=>(hb.set_ i u).drew
 have HF:Hid (∀(i:Nat) (u:Value),Frm (·=g) w (w.setCell ⟨g,i,none⟩ u).drew):=λi u=>((Frm.refl (·=g) w).setCell (.inl rfl) u).drew
 clear hb;rcases(by omega:k=0∨k=1∨k=2∨k=3) with rfl | rfl | rfl | rfl
 all_goals
  clear hk;go_enter Tryz.func143,Tryz.ntmps143;go_wp2
  go_region
  go_end0
  exact⟨rfl,HB.out _ _,HF.out _ _⟩
theorem MapIs.empty{P:Program}{k:TypeId}(w:World):MapIs P k (w.alloc (.map #[] 0)) w.heap.size []:=
 ⟨[],0,heap_alloc_new w _,⟨by simp,by simp,by simp,by simp⟩,List.Perm.refl _⟩
theorem st0_maps:heldS st0=λ_=>0:=by funext i;simp[heldS,st0]
theorem New_any(w:World):Calls Tryz.prog 38 #[] w λe w'=>∃g M,e=.returned (.pointer (some ⟨g,0,none⟩))∧StAt w' g M st0∧Frm Nix w w'∧∀k,SF g M k→w.heap.size≤k:=by
 have hmm:=@run_makeMap Tryz.prog;go_enter Tryz.func38,Tryz.ntmps38;go_wp2;clear hmm;go_ret;obtain⟨w1,h1⟩:∃w1,w1=w.alloc (.map #[] 0):=⟨_,rfl⟩;obtain⟨w2,h2⟩:∃w2,w2=w1.alloc (.map #[] 0):=⟨_,rfl⟩;obtain⟨w3,h3⟩:∃w3,w3=w2.alloc (.map #[] 0):=⟨_,rfl⟩;obtain⟨w4,h4⟩:∃w4,w4=w3.alloc (.map #[] 0):=⟨_,rfl⟩;obtain⟨w5,h5⟩:∃w5,w5=w4.alloc (.map #[] 0):=⟨_,rfl⟩;obtain⟨w6,h6⟩:∃w6,w6=w5.alloc (.map #[] 0):=⟨_,rfl⟩;obtain⟨w7,h7⟩:∃w7,w7=w6.alloc (.map #[] 0):=⟨_,rfl⟩;obtain⟨w8,h8⟩:∃w8,w8=w7.alloc (.map #[] 0):=⟨_,rfl⟩;have s1:w1.heap.size=w.heap.size+1:=by rw[h1];simp
 have s2:w2.heap.size=w.heap.size+2:=by rw[h2];simp[s1]
 have s3:w3.heap.size=w.heap.size+3:=by rw[h3];simp[s2]
 have s4:w4.heap.size=w.heap.size+4:=by rw[h4];simp[s3]
 have s5:w5.heap.size=w.heap.size+5:=by rw[h5];simp[s4]
 have s6:w6.heap.size=w.heap.size+6:=by rw[h6];simp[s5]
 have s7:w7.heap.size=w.heap.size+7:=by rw[h7];simp[s6]
 have s8:w8.heap.size=w.heap.size+8:=by rw[h8];simp[s7]
 have f1:Frm Nix w w1:=by rw[h1];exact(fR w).alloc _
 have f2:Frm Nix w1 w2:=by rw[h2];exact(fR w1).alloc _
 have f3:Frm Nix w2 w3:=by rw[h3];exact(fR w2).alloc _
 have f4:Frm Nix w3 w4:=by rw[h4];exact(fR w3).alloc _
 have f5:Frm Nix w4 w5:=by rw[h5];exact(fR w4).alloc _
 have f6:Frm Nix w5 w6:=by rw[h6];exact(fR w5).alloc _
 have f7:Frm Nix w6 w7:=by rw[h7];exact(fR w6).alloc _
 have f8:Frm Nix w7 w8:=by rw[h8];exact(fR w7).alloc _
 have f9:∀o,Frm Nix w8 (w8.alloc o):=λo=>(fR w8).alloc o
 have m1:MapIs Tryz.prog 3 w1 w.heap.size []:=by rw[h1];exact MapIs.empty w
 have m2:MapIs Tryz.prog 3 w2 w1.heap.size []:=by rw[h2];exact MapIs.empty w1
 have m3:MapIs Tryz.prog 3 w3 w2.heap.size []:=by rw[h3];exact MapIs.empty w2
 have m4:MapIs Tryz.prog 3 w4 w3.heap.size []:=by rw[h4];exact MapIs.empty w3
 have m5:MapIs Tryz.prog 134 w5 w4.heap.size []:=by rw[h5];exact MapIs.empty w4
 have m6:MapIs Tryz.prog 9 w6 w5.heap.size []:=by rw[h6];exact MapIs.empty w5
 have m7:MapIs Tryz.prog 153 w7 w6.heap.size []:=by rw[h7];exact MapIs.empty w6
 have m8:MapIs Tryz.prog 3 w8 w7.heap.size []:=by rw[h8];exact MapIs.empty w7
 rw[←h1,←h2,←h3,←h4,←h5,←h6,←h7,←h8];refine⟨w8.heap.size,⟨w.heap.size,w1.heap.size,w2.heap.size,w3.heap.size,w4.heap.size,w5.heap.size,w6.heap.size,w7.heap.size⟩,by simp[h1,h2,h3,h4,h5,h6,h7,h8],⟨?_,?_,?_,st0_ok⟩,(((((((f1.trans f2).trans f3).trans f4).trans f5).trans f6).trans f7).trans f8).trans (f9 _),?_⟩
 ·rw[s1,s2,s3,s4,s5,s6,s7]
  exact Blk.new w8 _ _
 ·have g8:=λo=>f9 o
  have g7:=λo=>f8.trans (f9 o)
  have g6:=λo=>f7.trans (g7 o)
  have g5:=λo=>f6.trans (g6 o)
  have g4:=λo=>f5.trans (g5 o)
  have g3:=λo=>f4.trans (g4 o)
  have g2:=λo=>f3.trans (g3 o)
  have g1:=λo=>f2.trans (g2 o)
  exact⟨m1.frm (g1 _) id,m2.frm (g2 _) id,⟨λ_=>(none,0),m3.frm (g3 _) id,λt ht=>by cases ht⟩,m4.frm (g4 _) id,m5.frm (g5 _) id,m6.frm (g6 _) id,m7.frm (g7 _) id,⟨[],m8.frm (g8 _) id,by simp,λi _=>by rw[st0_maps];rfl⟩⟩
 ·constructor
  rw[s1,s2,s3,s4,s5,s6,s7,s8];simp
 ·intro k hk
  rw[s1,s2,s3,s4,s5,s6,s7,s8] at hk;rcases hk with e | e | e | e | e | e | e | e | e<;>(try simp only at e)<;>omega
theorem folAt_mem{x:St}{i:Int}(h:isI Fol.id i x.fols=true):atI Fol.id i x.fols=some (folAt x i):=by
 have:=atI_isI (g:=Fol.id) (id:=i) (l:=x.fols);rw[h] at this;obtain⟨f,hf⟩:=Option.isSome_iff_exists.1 this;unfold folAt;rw[hf];rfl
theorem I64_of{n:Int}(h:0≤n∧n≤1048576):I64 n:=by unfold I64;omega
theorem StP.inn64{x:St}(h:StP x){f:Fol}(hf:f∈x.fols):0≤f.inn∧f.inn≤1048576:=by
 have:=(h.fE f hf).1;rw[ev1] at this;simp only[Bool.and_eq_true,folderOk,Bool.or_eq_true,decide_eq_true_eq] at this;rcases this.1.2 with h0 | h0
 ·omega
 ·have:=idOk_iff.1 h0
  omega
def DeepRel(x:St)(D k:Nat)(c:Int):Prop:=(isI Fol.id c x.fols=true→∃m,chainF x.fols m c∧k+m=D)∧(isI Fol.id c x.fols=false→k=D)
theorem DeepRel.start{x:St}(h:StP x)(i:Int):DeepRel x (deepS x i) 0 i:=by
 constructor
 ·intro hi
  obtain⟨j,hj,hc,hd⟩:=h.deep i (inS_iff.2 (.inr (isI_iff.1 hi)));exact⟨j,hc,by omega⟩
 ·intro hi
  unfold deepS;rw[if_neg (by simp[hi])]
theorem DeepRel.step{x:St}(h:StP x){D k:Nat}{c:Int}(hr:DeepRel x D k c)(hi:isI Fol.id c x.fols=true):DeepRel x D (k+1) (folAt x c).inn∧k<D∧(0≤(folAt x c).inn∧(folAt x c).inn≤1048576):=by
 obtain⟨m,hc,hk⟩:=hr.1 hi;have hm:=folAt_mem hi;have h64:=h.inn64 (atI_mem hm).1;rcases m with _ | m
 ·have h0:c=0:=hc
  have:=(h.fId (atI_mem hm).1);have:=(atI_mem hm).2;omega
 ·obtain⟨h0,f,hf,hc'⟩:=hc
  rw[hm] at hf;injection hf with hf;subst hf;refine⟨⟨λ_=>⟨m,hc',by omega⟩,λhn=>?_⟩,by omega,h64⟩;rcases m with _ | m
  ·omega
  ·obtain⟨-,f,hf,-⟩:=hc'
   have:=(atI_isI (g:=Fol.id) (id:=(folAt x c).inn) (l:=x.fols));rw[hf,hn] at this
   cases this
theorem Deep_any{w:World}{g:Nat}{M:Ms}{x:St}(h:StAt w g M x){i:Int}(hi:I64 i):
  Calls Tryz.prog 101 #[.pointer (some ⟨g,0,none⟩),.int .i64 i] w λe w'=>e=.returned (.int .i64 (deepS x i))∧Frm Nix w w':=by
 obtain⟨c0,c1,c2,c3,c4,c5,c6,c7,c8,c9,c10,c11,c12⟩:=h.cells;have hl:=h.folLook2 hi;have HS:=h_ h;have HR0:=h_ (DeepRel.start h.ok i);have hgl:=h.blk.lt
 have hD:deepS x i≤8:=by
  by_cases hin:isI Fol.id i x.fols=true
  ·obtain⟨j,hj,-,hd⟩:=h.ok.deep i (inS_iff.2 (.inr (isI_iff.1 hin)))
   omega
  ·unfold deepS
   rw[if_neg hin];omega
 generalize deepS x i=D at *;clear h;go_enter Tryz.func101,Tryz.ntmps101;go_wp2
 go_loopw [5,7] (λnv iv wr=>∃(k:Nat) (c:Int),nv=.int .i64 k∧iv=.bool (isI Fol.id c x.fols)∧I64 c∧DeepRel x D k c∧Frm Nix w wr∧Blk wr w.heap.size 79 #[.int .i64 (folAt x c).id,.int .i64 (folAt x c).inn,.string (folAt x c).name]) (λnv _ _=>D - (intOf nv).toNat)
 case atStart=>exact⟨0,i,rfl,rfl,hi,HR0.out,(fR w).alloc _,Blk.new w _ _⟩
 case round=>
  obtain⟨k,c,rfl,rfl,hc64,hrel,hfr,hb⟩:=hrel;have HRel:=h_ hrel;have HF:=h_ hfr;have HB:=h_ hb;have hs:=HS.out.nix hfr;obtain⟨c0,c1,c2,c3,c4,c5,c6,c7,c8,c9,c10,c11,c12⟩:=hs.cells;have b0:=hb.cell 0;have b1:=hb.cell 1;have b2:=hb.cell 2;simp at b0 b1 b2;have q0:=hb.frozen 0;have q1:=hb.frozen 1;have q2:=hb.frozen 2;have hbl:=hb.lt
  cases his:isI Fol.id c x.fols with
  | true=>
    obtain⟨s1,s2,s3⟩:=HRel.out.step HS.out.ok his;have HR1:=h_ s1;have hl0:=hs.folLook2 (I64_of s3);have hl1:=(hs.nix (fR wr).drew).folLook2 (I64_of s3);have h64:=I64_of s3;clear hrel hfr hb hs s1
    have HB2:Hid (∀a b s,Blk (((wr.setCell ⟨w.heap.size,0,none⟩ (.int .i64 a)).setCell ⟨w.heap.size,1,none⟩ (.int .i64 b)).setCell ⟨w.heap.size,2,none⟩ (.string s)).drew w.heap.size 79 #[.int .i64 a,.int .i64 b,.string s]):=λa b s=>by
     have:=((HB.out.set_ 0 (.int .i64 a)).set_ 1 (.int .i64 b)).set_ 2 (.string s);exact this
    go_wp2
    go_region
    go_wp2;go_roundw
    case rel=>exact⟨k+1,(folAt x c).inn,by go_num,rfl,h64,HR1.out,(((HF.out.setCell (.inr (Nat.le_refl _)) _).setCell (.inr (Nat.le_refl _)) _).setCell (.inr (Nat.le_refl _)) _).drew,HB2.out _ _ _⟩
    case measure=>simp[intOf];omega
  | false=>
    have hk:=HRel.out.2 his;subst hk;clear hrel hfr hb hs;go_wp2;go_ret;exact⟨rfl,HF.out⟩
section
theorem maxLen_le:512≤maxLen:=by decide
section
variable {w:World} {g:Nat} {M:Ms} {x:St}
theorem elim_ne{α:Type}{q:α→Bool}{gk:α→Int}{l:List α}(h:∀y∈l,gk y≠0):((l.find? q).elim 0 gk==0)=!l.any q:=by
 cases hf:l.find? q with
 | some y=>
   have h1:=List.mem_of_find?_eq_some hf;have h2:=List.find?_some hf;have h3:l.any q=true:=List.any_eq_true.2 ⟨y,h1,h2⟩;rw[h3]
   simpa using h y h1
 | none=>
   have h3:l.any q=false:=List.any_eq_false.2 λy hy=>by have:=List.find?_eq_none.1 hf y hy;simpa using this
   rw[h3];rfl
def nameI(x:St)(b:Int)(s:ByteArray):Int:=(x.fols.find? λf=>decide (f.inn=b∧f.name=s)).elim 0 Fol.id
theorem nameI_iff(h:StP x)(b:Int)(s:ByteArray):(nameI x b s==0)=!namedS x b s:=elim_ne λf hf=>by have:=h.fId hf;omega
theorem StAt.nameLook(h:StAt w g M x){b:Int}(hb:I64 b){s:ByteArray}(hs:s.size≤maxLen):(Instr.lookup 110 (.map (some M.na)) (.agg #[.int .i64 b,.string s]) false).run Tryz.prog w=.ok (.int .i64 (nameI x b s)) w:=
 key_look keyedN h.maps.na Tryz.underlying110 (isK_N hb hs) (zInt w) false (λf=>decide (f.inn=b∧f.name=s)) λf hf=>by rw[decide_eq_true_eq];exact kP_inj
theorem placeS_elim(x:St)(s:ByteArray):placeS x s=(x.fees.find? λf=>decide (f.url=s)).elim 0 Fee.id:=by
 unfold placeS
 cases x.fees.find? λf=>decide (f.url=s)<;>rfl
theorem guidS_elim(x:St)(b:Int)(s:ByteArray):guidS x b s=(x.itms.find? λt=>decide (t.feed=b∧t.guid=s)).elim 0 Itm.id:=by
 unfold guidS
 cases x.itms.find? λt=>decide (t.feed=b∧t.guid=s)<;>rfl
theorem StAt.placeLook(h:StAt w g M x){s:ByteArray}(hs:s.size≤maxLen)(ok:Bool):(Instr.lookup 111 (.map (some M.pl)) (.string s) ok).run Tryz.prog w=.ok (if ok=true then .tuple #[.int .i64 (placeS x s),.bool (!(placeS x s==0))] else .int .i64 (placeS x s)) w:=by
 have:=key_look keyedS h.maps.pl Tryz.underlying111 (isK_S hs) (zInt w) ok (λf=>decide (f.url=s)) λf hf=>by rw[decide_eq_true_eq];simp
 have e:=elim_ne (gk:=Fee.id) (l:=x.fees) (q:=λf=>decide (f.url=s)) (λf hf=>by have:=h.ok.eId hf;omega);rw[placeS_elim,e,Bool.not_not];exact this
theorem StAt.guidLook(h:StAt w g M x){b:Int}(hb:I64 b){s:ByteArray}(hs:s.size≤maxLen)(ok:Bool):(Instr.lookup 112 (.map (some M.gu)) (.agg #[.int .i64 b,.string s]) ok).run Tryz.prog w=.ok (if ok=true then .tuple #[.int .i64 (guidS x b s),.bool (!(guidS x b s==0))] else .int .i64 (guidS x b s)) w:=by
 have:=key_look keyedG h.maps.gu Tryz.underlying112 (isK_G hb hs) (zInt w) ok (λt=>decide (t.feed=b∧t.guid=s)) λf hf=>by rw[decide_eq_true_eq];exact kP_inj
 have e:=elim_ne (gk:=Itm.id) (l:=x.itms) (q:=λt=>decide (t.feed=b∧t.guid=s)) (λf hf=>by have:=(h.ok.iId hf).1;omega);rw[guidS_elim,e,Bool.not_not];exact this
theorem StAt.heldLook(h:StAt w g M x){i:Int}(hi:I64 i)(h0:i≠0):(Instr.lookup 113 (.map (some M.he)) (.int .i64 i) false).run Tryz.prog w=.ok (.int .i64 (heldS x i)) w:=by
 obtain⟨L,h1,h2,h3⟩:=h.maps.he;exact HeldIs.look ⟨L,h1,h2,h3⟩ hi h0
theorem heldS_iff(x:St)(i:Int):(heldS x i==0)=emptyS x i:=by
 unfold heldS emptyS;rw[Bool.eq_iff_iff,beq_iff_eq,Bool.and_eq_true,Bool.not_eq_true',Bool.not_eq_true',List.any_eq_false,List.any_eq_false];constructor
 ·intro h
  have h1:(x.fols.filter λf=>decide (f.inn=i)).length=0:=by omega
  have h2:(x.fees.filter λf=>decide (f.inn=i)).length=0:=by omega
  rw[List.length_eq_zero_iff,List.filter_eq_nil_iff] at h1 h2;exact⟨h1,h2⟩
 ·rintro⟨h1,h2⟩
  rw[List.filter_eq_nil_iff.2 h1,List.filter_eq_nil_iff.2 h2];rfl
theorem heldS_le(h:StP x)(i:Int):0≤heldS x i∧heldS x i≤128:=by
 have h1:=List.length_filter_le (λf:Fol=>decide (f.inn=i)) x.fols;have h2:=List.length_filter_le (λf:Fee=>decide (f.inn=i)) x.fees;have:=h.fL;have:=h.eL;unfold heldS;omega
theorem bytesLess_ltT:∀a b:List UInt8,Op.bytesLess a b=decide (a<b)
 | [],[]=>by simp[Op.bytesLess]
 | [],_::_=>by simp[Op.bytesLess]
 | _::_,[]=>by simp[Op.bytesLess]
 | x::a,y::b=>by
   rw[Bool.eq_iff_iff];simp only[Op.bytesLess,bytesLess_ltT a b,Bool.or_eq_true,Bool.and_eq_true,beq_iff_eq,decide_eq_true_eq,List.cons_lt_cons_iff]
theorem less_ltB(a b:ByteArray):Op.bytesLess a.toList b.toList=decide (ltB a b):=by
 rw[bytesLess_ltT,ByteArray.toList_eq,ByteArray.toList_eq];rfl
theorem tagPos_lt(t:ByteArray)(l:List ByteArray)(h:l.Pairwise ltB)(j:Nat)(hj:j<l.length):ltB l[j] t↔j<tagPos t l:=by
 induction l generalizing j with
 | nil=>simp at hj
 | cons y r ih=>
   obtain⟨h1,h2⟩:=List.pairwise_cons.1 h;unfold tagPos
   by_cases hy:ltB y t
   ·rw[List.takeWhile_cons_of_pos (by simpa using hy)]
    rcases j with _ | j
    ·simpa using hy
    ·have:=ih h2 j (by simpa using hj)
     unfold tagPos at this
     simpa using this
   ·rw[List.takeWhile_cons_of_neg (by simpa using hy)]
    refine⟨λhl=>?_,λhl=>by simp at hl⟩;rcases j with _ | j
    ·exact absurd hl hy
    ·exact absurd (ltB_trans (h1 _ (List.getElem_mem (by simpa using hj))) hl) hy
theorem tagPos_le(t:ByteArray)(l:List ByteArray):tagPos t l≤l.length:=(List.takeWhile_sublist _).length_le
theorem tagPos_mem(t:ByteArray)(l:List ByteArray)(h:l.Pairwise ltB):(∃hp:tagPos t l<l.length,l[tagPos t l]=t)↔t∈l:=by
 constructor
 ·rintro⟨hp,e⟩
  exact e ▸ List.getElem_mem hp
 ·intro ht
  obtain⟨j,hj,rfl⟩:=List.mem_iff_getElem.1 ht
  have e:j=tagPos l[j] l:=by
   have h1:=(tagPos_lt l[j] l h j hj);have h2:¬j<tagPos l[j] l:=λhlt=>ltB_irr _ (h1.2 hlt)
   rcases Nat.lt_or_ge (tagPos l[j] l) j with h3 | h3
   ·have hp:tagPos l[j] l<l.length:=by omega
    have h4:=(tagPos_lt l[j] l h (tagPos l[j] l) hp);have h5:ltB l[tagPos l[j] l] l[j]:=List.pairwise_iff_getElem.1 h _ _ hp hj h3;have:=h4.1 h5;omega
   ·omega
  exact⟨by omega,by simp only[←e]⟩
theorem Search_any{W:World}{v:Sl}{l:List ByteArray}(hv:TagsIn W v l)(hl:l.Pairwise ltB)(h8:l.length≤8)(t:ByteArray):
  Calls Tryz.prog 153 #[.slice v.1 l.length v.2,.string t] W λe w'=>e=.returned (.tuple #[.int .i64 (tagPos t l),.bool (l.any λy=>decide (y=t))])∧∃q,w'=W.drewN q:=by
 rcases Nat.eq_zero_or_pos l.length with h0 | h0
 ·have hn:l=[]:=List.eq_nil_of_length_eq_zero h0
  subst hn;exact(Any2.slices_BinarySearch_string_empty Tryz.laysBS v.1 v.2 t W).mono λe w' ⟨h1,h2⟩=>⟨h1,0,h2⟩
 ·obtain⟨ad,hA,-,-,hc⟩:=hv.1.2 h0
  obtain⟨bk,off,sp⟩:=ad
  have hsp:sp=none:=by
   have h1:=hc 0 (.string l[0]) (by simp);have h2:=spot_none h1
   simpa [Addr.add] using h2
  subst hsp
  have hcell:∀j,j<l.length→W.cell? ⟨bk,off+j,none⟩=some (.string (l.getD j t)):=by
   intro j hj;have h1:=hc j (.string l[j]) (by simp);rw[add_block] at h1;rw[h1];simp[List.getD,List.getElem?_eq_getElem hj]
  have hgo:Lib.bsGo (λj=>Op.bytesLess (l.getD j t).toList t.toList) l.length 0 l.length=tagPos t l:=by
   refine Lib.bsGo_spec _ _ (λj hj=>?_) (λj hj=>?_) _ _ _ (by omega) (Nat.zero_le _) (tagPos_le t l)
   ·have hjl:j<l.length:=Nat.lt_of_lt_of_le hj (tagPos_le t l)
    rw[less_ltB];have:=(tagPos_lt t l hl j hjl).2 hj
    simpa [List.getD,List.getElem?_eq_getElem hjl] using this
   ·rw[less_ltB]
    rcases Nat.lt_or_ge j l.length with hjl | hjl
    ·have:=mt (tagPos_lt t l hl j hjl).1 (by omega)
     simpa [List.getD,List.getElem?_eq_getElem hjl] using this
    ·have:l.getD j t=t:=by simp[List.getD,List.getElem?_eq_none hjl]
     rw[this,decide_eq_false (ltB_irr t)]
  rw[hA];refine(Any2.slices_BinarySearch_string Tryz.laysBS bk off l.length v.2 (λj=>l.getD j t) t W (by omega) hcell).mono ?_;rintro e w' ⟨h1,h2⟩;rw[hgo] at h1;refine⟨?_,h2⟩;rw[h1]
  have e2:decide (tagPos t l<l.length∧l.getD (tagPos t l) t=t)=l.any λy=>decide (y=t):=by
   rw[Bool.eq_iff_iff,decide_eq_true_eq,List.any_eq_true];have hm:=tagPos_mem t l hl;constructor
   ·rintro⟨hp,e⟩
    exact⟨t,hm.1 ⟨hp,by simpa [List.getD,List.getElem?_eq_getElem hp] using e⟩,by simp⟩
   ·rintro⟨y,hy,e⟩
    simp at e;subst e;obtain⟨hp,e⟩:=hm.2 hy;exact⟨hp,by simp[List.getD,List.getElem?_eq_getElem hp,e]⟩
  rw[e2]
def itmA(v:Sl)(t:Itm):Array Value:=#[.int .i64 t.id,.int .i64 t.feed,.int .i64 t.date,.string t.guid,.string t.title,.string t.link,.bool t.read,.bool t.star,.slice v.1 t.tags.length v.2]
theorem itmAt_ok(h:StP x)(i:Int):(itmAt x i).tags.Pairwise ltB∧(itmAt x i).tags.length≤8:=by
 unfold itmAt
 cases ha:atI Itm.id i x.itms with
 | none=>simp[itmD]
 | some t=>
   have:=h.iE t (atI_mem ha).1;exact⟨((tagsRise_iff _).1 this.2.2.2.2).2,this.2.2.2.1⟩
theorem fieldTags(v:Sl)(t:Itm)(w:World):(Instr.field 82 (.agg #[.int .i64 t.id,.int .i64 t.feed,.int .i64 t.date,.string t.guid,.string t.title,.string t.link,.bool t.read,.bool t.star,.slice v.1 t.tags.length v.2]) 8).run Tryz.prog w=.ok (.slice v.1 t.tags.length v.2) w:=by kernel_rfl
theorem tag_any(h:StAt w g M x){i:Int}(hi:I64 i)(t:ByteArray):Calls Tryz.prog 102 #[.pointer (some ⟨g,0,none⟩),.int .i64 i,.string t] w λe w'=>e=.returned (.tuple #[.int .i64 (tagPos t (itmAt x i).tags),.bool ((itmAt x i).tags.any λy=>decide (y=t))])∧Frm Nix w w':=by
 obtain⟨c0,c1,c2,c3,c4,c5,c6,c7,c8,c9,c10,c11,c12⟩:=h.cells;obtain⟨v,hv,hlA⟩:=h.itmLook hi;obtain⟨o1,o2⟩:=itmAt_ok h.ok i;have KS:=h_ (Search_any hv o1 o2 t);have hl:(Instr.lookup 108 (.map (some M.it)) (.int .i64 i) false).run Tryz.prog w=.ok (.agg (itmA v (itmAt x i))) w:=hlA false;unfold itmA at hl;clear hlA;have hfd:=λW=>fieldTags v (itmAt x i) W
 generalize itmAt x i=q at *;clear h hv o1 o2;go_enter Tryz.func102,Tryz.ntmps102;go_wp2_with (go_at_call 153;refine KS.out.mono ?_;rintro e w' ⟨rfl,q,rfl⟩)
 go_ret2
 exact⟨rfl,(fR w).drewN _⟩
end
end
end Go.Proofs.YtaecjmiobllhmaaGreat
