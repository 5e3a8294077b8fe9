/- Words. -/
import Derived.Test.YtaecjmiobllhmaaGreatGr82
import Derived.Deep.MidRow
import Derived.IntWalk
set_option linter.unusedVariables false
set_option linter.unusedSimpArgs false
set_option maxRecDepth 100000
set_option maxHeartbeats 16000000
namespace Go.Proofs.YtaecjmiobllhmaaGreat
open Go.Value renaming int→I,string→V,slice→U,pointer→O
open Go.IntKind renaming i64→J
open Tryz renaming prog→pQ
open Go.RowKit Go.Lib
variable {ws:List Wd}{ok:Bool}{A:Option Addr}{c:Nat}{xs:List Value}{k:Nat}{ops:Array Oper}{rest:List Oper}{op:Oper}{ac:Act}{Q:Exit→Act→World→Prop}{n:Nat}{lv:Bool}{want:Int}{dn:Bool}{u1 u2 u10 u11 u12 u13 u14 u15 u16 cG cH cI cR cS cT u23 u24 cN u26 dc u28 dm dp dr u32 u33 df dg u36 dt u38 dB dC dO dP dQ u44 u45 dI dJ dK dL dD dE dF dR dS dT dM dG dH dw dx dy dz dA u64 dh di dl cU cX fA fB fF fG fw iO iP iQ jN jO jP jQ jR jS jT jU jJ jK jV jW jX jY:Value}{m:Mv}{fo fe it se:Sl}{u9 u6 u7 u8 u5:Value}{ts:List (Sl×aR)}
section
def bi(w:World)(g:Nat)(G:Nat→Prop)(r:Option Au)(e:Ending)(w':World):Prop:=
 e=.returned (.bool r.isSome)∧aa (·=g) w w'∧∀b,r=some b→∃Aa ca Aw cw,dZ w' g G Aa ca Aw cw b
def IJ(w:World)(g:Nat)(G:Nat→Prop)(ok:Bool)(b:Au)(e:Ending)(w':World):Prop:=
 e=.returned (.bool ok)∧aa (·=g) w w'∧(ok=true→∃Aa ca Aw cw,dZ w' g G Aa ca Aw cw b)
theorem bi.of{w w':World}{g:Nat}{G:Nat→Prop}{e:Ending}{b:Au}(hk:ok=decide (¬ws=[]))(h:e=.returned (.bool ok)∧aa (·=g) w w'∧(ok=true→∃Aa ca Aw cw,dZ w' g G Aa ca Aw cw b)):bi w g G (if ws=[] then none else some b) e w':=by
 subst hk;obtain⟨h1,h2,h3⟩:=h
 by_cases hc:ws=[]
 ·rw[if_pos hc]
  exact⟨by rw[h1,decide_eq_false (λh=>h hc)];rfl,h2,λb hb=>by cases hb⟩
 ·rw[if_neg hc]
  refine⟨by rw[h1,decide_eq_true hc];rfl,h2,λb' hb=>?_⟩;injection hb with hb;subst hb;exact h3 (decide_eq_true hc)
theorem BW{P:Program}{f:Func}{R R':Ending→World→Prop}(h:∀e w,R e w→R' e w):∀ex a w,bodyPost P f R ex a w→bodyPost P f R' ex a w:=by
 intro ex a w hb
 cases ex with
 | normal=>obtain⟨h1,v,h2,h3⟩:=hb;exact⟨h1,v,h2,h _ _ h3⟩
 | ret=>obtain⟨h1,v,h2,h3⟩:=hb;exact⟨h1,v,h2,h _ _ h3⟩
 | panic c=>obtain⟨h1,h2⟩:=hb;exact⟨h1,h _ _ h2⟩
 | outgrown=>exact h _ _ hb
 | _=>exact hb
section
variable {w W:World} {g:Nat} {G:Nat→Prop} {Aa Aw:Option Addr} {ca cw:Nat} {a:Au}
theorem dZ.lt(h:dZ w g G Aa ca Aw cw a):g<w.heap.size:=h.blk.lt
theorem Rv(hf:aa ag w W)(i:Nat)(v:Value):aa (·=g) w (W.setCell ⟨g,i,none⟩ v):=aa.setCell (F:=(·=g)) (p:=⟨g,i,none⟩) hf.nix (.inl rfl) v
theorem dZ.setWs(h:dZ w g G Aa ca Aw cw a)(hG:∀k,w.heap.size≤k→G k)(hr:aI 68 3 w W (U A ws.length c) ws.length (ws.flatMap Wd.cells)):
  dZ (W.setCell ⟨g,2,none⟩ (U A ws.length c)) g G Aa ca A c {a with ws:=ws}:=by
 have hf:=hr.frm;have fs:aa (·=g) W (W.setCell ⟨g,2,none⟩ (U A ws.length c)):=(aa.refl (·=g) W).setCell (.inl rfl) _;have hb:=(h.blk.frm hf id).set_ 2 (U A ws.length c);exact⟨hb,(h.all.nix hf).frm fs λk hk=>h.off k hk,(hr.sl.mono λk hk=>hG k hk).frm fs λk hk=>h.off k hk,h.off,h.num⟩
theorem dZ.setAll(h:dZ w g G Aa ca Aw cw a)(hG:∀k,w.heap.size≤k→G k){l:List Ev}(hr:aI 42 7 w W (U A l.length c) l.length (l.flatMap Ev.cells))(hn:∀e∈l,bn e.a∧bn e.b):
  dZ (W.setCell ⟨g,0,none⟩ (U A l.length c)) g G A c Aw cw {a with all:=l}:=by
 have hf:=hr.frm;have fs:aa (·=g) W (W.setCell ⟨g,0,none⟩ (U A l.length c)):=(aa.refl (·=g) W).setCell (.inl rfl) _;have hb:=(h.blk.frm hf id).set_ 0 (U A l.length c);exact⟨hb,(hr.sl.mono λk hk=>hG k hk).frm fs λk hk=>h.off k hk,(h.ws.nix hf).frm fs λk hk=>h.off k hk,h.off,hn⟩
theorem dZ.far(h:dZ w g G Aa ca Aw cw a)(hf:aa ag w W){b:Nat}{t:TypeId}{cs:Array Value}(hb:aj W b t cs){v:Value}(hw:w.heap.size≤b:=by simp):dZ (W.setCell ⟨b,0,none⟩ v) g G Aa ca Aw cw a:=by
 have fs:aa (·=b) W (W.setCell ⟨b,0,none⟩ v):=(aa.refl (·=b) W).setCell (.inl rfl) _;have hz:=h.blk.lt;have g1:=(h.nix hf);have oa:∀k,G k∧k<w.heap.size→¬k=b:=λk hk e=>by have:=hk.2;omega
 exact⟨g1.blk.far (p:=⟨b,0,none⟩) (by simp;omega) _,((h.all.cOld.nix hf).frm fs oa).mono λk hk=>hk.1,((h.ws.cOld.nix hf).frm fs oa).mono λk hk=>hk.1,h.off,h.num⟩
theorem dZ.setLast(h:dZ w g G Aa ca Aw cw a)(k:Nat):dZ (w.setCell ⟨g,1,none⟩ (I J k)) g G Aa ca Aw cw {a with last:=k}:=by
 have fs:aa (·=g) w (w.setCell ⟨g,1,none⟩ (I J k)):=(aa.refl (·=g) w).setCell (.inl rfl) _;have hb:=h.blk.set_ 1 (I J k);exact⟨hb,h.all.frm fs λk hk=>h.off k hk,h.ws.frm fs λk hk=>h.off k hk,h.off,h.num⟩
theorem aF.shut{s n k:Nat}{v:Sl}(h:aF w G s v n xs)(hk:k≤n):aF w G s (v.1,k) k (xs.take (k * s)):=by
 have h1:=h.first hk
 exact⟨h1.rd,λe=>by have:=h.nil e;have:=h.cap;simp only;omega,Nat.le_refl _,Nat.le_trans hk (Nat.le_trans h.cap h.max)⟩
theorem dZ.setBoth(h:dZ w g G Aa ca Aw cw a)(hk:k≤a.all.length):dZ ((w.setCell ⟨g,0,none⟩ (U Aa k k)).setCell ⟨g,1,none⟩ (I J k)) g G Aa k Aw cw {a with all:=a.all.take k,last:=k}:=by
 have fs:aa (·=g) w ((w.setCell ⟨g,0,none⟩ (U Aa k k)).setCell ⟨g,1,none⟩ (I J k)):=((aa.refl (·=g) w).setCell (.inl rfl) _).setCell (.inl rfl) _;have hb:=(h.blk.set_ 0 (U Aa k k)).set_ 1 (I J k);have e:(a.all.take k).length=k:=by rw[List.length_take];omega
 have q:=h.all.shut hk;rw[gy Ev.clen] at q;exact⟨by rw[e];exact hb,by rw[e];exact q.frm fs λk hk=>h.off k hk,h.ws.frm fs λk hk=>h.off k hk,h.off,λe he=>h.num e (List.mem_of_mem_take he)⟩
theorem wX(l:List Ev):∀u∈l.flatMap Ev.cells,u.oneCell'=true:=λu hu=>by
 obtain⟨e,-,he⟩:=List.mem_flatMap.1 hu;simp[Ev.cells] at he;rcases he with rfl|rfl|rfl|rfl|rfl|rfl|rfl<;>rfl
end
theorem DX:(pQ.info? 44).map (·.size)=some 20:=by kernel_rfl
theorem zI{W:World}{b o:Nat}{l:List Value}(h:∀j v,l[j]? =some v→W.cell? ⟨b,o+j,none⟩=some v)(hl:l.length=20)(x:Operand)
  (hw:Region.wanted op (yielded ops ac.tmps)=true) (ho:op.op=.load 44 x) (hx:ac.eval x=O (some ⟨b,o,none⟩)) (hk:wpList pQ ops Q rest (ac.put op.dst (.agg l.toArray)) W):wpList pQ ops Q (op::rest) ac W:=
 wpList_step λK hK=>by
  rw[hw,if_pos rfl];exact wp_load_mid 44 x ho b o hx l _ h Tryz.underlying44 rfl (by rw[hl];exact DX) (hK _ _ hk)
theorem bj{W:World}{b:Nat}{l:List Value}(hb:aj W b 44 l.toArray)(hl:l.length=20)(x:Operand)
  (hw:Region.wanted op (yielded ops ac.tmps)=true) (ho:op.op=.load 44 x) (hx:ac.eval x=O (some ⟨b,0,none⟩)) (hk:wpList pQ ops Q rest (ac.put op.dst (.agg l.toArray)) W):wpList pQ ops Q (op::rest) ac W:=
 zI (λj v hv=>by rw[Nat.zero_add,hb.cell];simpa using hv) hl x hw ho hx hk
theorem BX{w:World}{G:Nat→Prop}(hv:aF w G 7 (A,c) n xs)(h1:∀u∈xs,u.oneCell'=true)(hn:n≤100000):
  Calls pQ 120 #[U A n c] w λe w'=>∃A' c',e=.returned (U A' n c')∧aI 42 7 w w' (U A' n c') n xs:=by
 have q22:∀(W:World) (a:Option Addr) (n c n' c':Nat),(binOp .eql 30 (U a n c) (U none n' c')).run pQ W=.ok (.bool a.isNone) W:=λW a n c n' c'=>Lib.run_eql_slice_nil W _ _ a n c n' c' Tryz.underlying30
 cases A with
 | none=>
   have hc:c=0:=hv.nil rfl;have h0:n=0:=by have:=hv.cap;simp only at this;omega
   have hx:xs=[]:=List.eq_nil_of_length_eq_zero (by have:=hv.rd.1;omega);subst hx;subst h0;subst hc;clear hv h1 hn;go_enter Tryz.func120,Tryz.ntmps120;go_wp2;go_ret
   exact⟨none,0,rfl,aI.nil_ _ _ (aa.refl _ _)⟩
 | some ad=>
   obtain⟨v',w2,hrun,hrow,-,-⟩:=(aI.empty 42 7 (fR w)).app pF c (hv.nix ((fR w).alloc _)).rd h1 (by unfold maxLen;omega) (by omega);simp only[Nat.zero_add,List.nil_append] at hrow;obtain⟨A',c',rfl,-⟩:=hrow.shape;have HR:=h_ hrow;clear hv h1 hn hrow;go_enter Tryz.func120,Tryz.ntmps120;go_wp2_with (at_builtin;refine aq hrun rfl _ _ rfl rfl rfl ?_);go_ret;exact⟨A',c',rfl,HR.out⟩
end
theorem M2{wa:World}{g bm k n ca:Nat}{Aa:Option Addr}{c2:Value}{rows:List Value}{ek ea eb en:Int}{es et eu:ByteArray}
  (hb:aj wa g 71 #[U Aa n ca,I J k,c2]) (hS:∀W,aa ag wa W→W.cell? ⟨g,1,none⟩=some (I J k)∧W.cell? ⟨bm,1,none⟩=some (I J ek)∧W.cell? ⟨bm,2,none⟩=some (I J ea)∧W.cell? ⟨bm,3,none⟩=some (I J eb)∧W.cell? ⟨bm,4,none⟩=some (I J en)∧W.cell? ⟨bm,5,none⟩=some (V es)∧W.cell? ⟨bm,6,none⟩=some (V et)∧W.cell? ⟨bm,7,none⟩=some (V eu)) (hk:k≤n) (Ci:n≤ca) (hcm:ca≤maxLen) (hk5:k≤100000)
  (hX:∀u∈rows,u.oneCell'=true) (KC:∀W,aa ag wa W→Calls pQ 120 #[U Aa k ca] W λe w'=>∃A' c',e=.returned (U A' k c')∧aI 42 7 W w' (U A' k c') k rows)
  {u1 u2 u4 u5 u6 u7 u8 u9 u10 u11 u12 u13 u14 u15 u16 cG cH cI cR cS cT u23 u24 cN u26 dc u28 dm dp dr u32 u33 df dg u36 dt u38 dB dC dO dP dQ u44 u45 dI dJ dK dL dD dE dF dR dS dT dM dG dH dw dx dy dz dA u64 dh di dl cU cX fA fB fF fG fw iO iP iQ jN jO jP jQ jR jS jT jU jJ jK jV jW jX jY:Value} (hP:∀(e:_) (a:Act) (i:Nat) (v:Value) (w:World),Q (.panic e) (a.put (some i) v) w→Q (.panic e) a w) (hQ:∀(wc:World) (A:Option Addr) (c:Nat) (z73 z79 z82:Value),aI 42 7 wa wc (U A (k+1) c) (k+1) (rows++[I J ek,I J ea,I J eb,I J en,V es,V et,V eu])→Q .normal ⟨#[O (some ⟨g,0,none⟩),u1,u2,O (some ⟨bm,0,none⟩),u4,u5,u6,u7,u8,u9,u10,u11,u12,u13,u14,u15,u16,cG,cH,cI,cR,cS,cT,u23,u24,cN,u26,dc,u28,dm,dp,dr,u32,u33,df,dg,u36,dt,u38,dB,dC,dO,dP,dQ,u44,u45,dI,dJ,dK,dL,dD,dE,dF,dR,dS,dT,dM,dG,dH,dw,dx,dy,dz,dA,u64,dh,di,dl,cU,O (some ⟨g,0,none⟩),O (some ⟨g,0,none⟩),O (some ⟨g,0,none⟩),O (some ⟨g,0,none⟩),z73,O (some ⟨g,0,none⟩),O (some ⟨g,0,none⟩),O (some ⟨g,1,none⟩),I J k,U Aa k ca,z79,O (some ⟨bm,1,none⟩),.agg #[I J ek,I J ea,I J eb,I J en,V es,V et,V eu],z82,U A (k+1) c,O (some ⟨g,0,none⟩),O (some ⟨g,0,none⟩),jJ,jK,jV,jW,jX,jY],[]⟩ (wc.setCell ⟨g,0,none⟩ (U A (k+1) c))):
  Code.wp pQ (bH (ap (aD (ai 7 (ae Tryz.f61))))) Q ⟨#[O (some ⟨g,0,none⟩),u1,u2,O (some ⟨bm,0,none⟩),u4,u5,u6,u7,u8,u9,u10,u11,u12,u13,u14,u15,u16,cG,cH,cI,cR,cS,cT,u23,u24,cN,u26,dc,u28,dm,dp,dr,u32,u33,df,dg,u36,dt,u38,dB,dC,dO,dP,dQ,u44,u45,dI,dJ,dK,dL,dD,dE,dF,dR,dS,dT,dM,dG,dH,dw,dx,dy,dz,dA,u64,dh,di,dl,cU,cX,fA,fB,fF,fG,fw,iO,iP,iQ,jN,jO,jP,jQ,jR,jS,jT,jU,jJ,jK,jV,jW,jX,jY],[]⟩ wa:=by
 obtain⟨rows2,hrows2⟩:∃rows2,rows++[I J ek,I J ea,I J eb,I J en,V es,V et,V eu]=rows2:=⟨_,rfl⟩;rw[hrows2] at hQ;have bu:=h_ hS
 have N6:Hid (∀u∈([I J ek,I J ea,I J eb,I J en,V es,V et,V eu]:List Value),u.oneCell'=true):=λu hu=>by
  simp at hu;rcases hu with rfl|rfl|rfl|rfl|rfl|rfl|rfl<;>rfl
 have HPu:Hid (∀w1 A' c',aI 42 7 wa w1 (U A' k c') k rows→∃A4 c4 w4,(∀ty,(Builtin.append_ #[30,30] ty #[U A' k c',U (some ⟨w1.heap.size,0,none⟩) 1 1]).run pQ (w1.alloc (.cells #[I J ek,I J ea,I J eb,I J en,V es,V et,V eu] 42))=.ok (U A4 (k+1) c4) w4)∧aI 42 7 wa w4 (U A4 (k+1) c4) (k+1) rows2):=λw1 A' c' h=>by
  obtain⟨v4,w4,r4,h4,-,-⟩:=h.push pF [I J ek,I J ea,I J eb,I J en,V es,V et,V eu] rfl N6.out (by unfold maxLen;omega) (by omega);obtain⟨A4,c4,rfl,-⟩:=h4.shape;rw[hrows2] at h4;exact⟨A4,c4,w4,r4,h4⟩
 have HPb:Hid (∀w1 b A' c',aI 42 7 wa w1 (U A' k c') k rows→aj w1 b 42 #[I J ek,I J ea,I J eb,I J en,V es,V et,V eu]→∃A4 c4 w4,(∀ty,(Builtin.append_ #[30,30] ty #[U A' k c',U (some ⟨b,0,none⟩) 1 1]).run pQ w1=.ok (U A4 (k+1) c4) w4)∧aI 42 7 wa w4 (U A4 (k+1) c4) (k+1) rows2):=λw1 b A' c' h hb=>by
  have NN:Rd w1 (λ_=>True) 7 (some ⟨b,0,none⟩) 1 [I J ek,I J ea,I J eb,I J en,V es,V et,V eu]:=⟨rfl,λ_=>⟨_,rfl,trivial,hb.lt,λj u hu=>by rw[Addr.add_lit,Nat.zero_add,hb.cell];simpa using hu⟩⟩;obtain⟨v4,w4,r4,h4,-,-⟩:=h.app pF 1 NN N6.out (by unfold maxLen;omega) (by omega);obtain⟨A4,c4,rfl,-⟩:=h4.shape;rw[hrows2] at h4;exact⟨A4,c4,w4,r4,h4⟩
 have cx:∀{W:World},aa ag wa W→W.cell? ⟨g,0,none⟩=some (U Aa n ca):=λhW=>((hb.frm hW id).cell 0).trans rfl
 have cf:∀{W:World},aa ag wa W→W.frozen? ⟨g,0,none⟩=false:=λhW=>(hb.frm hW id).frozen 0
 have HST:Hid (∀(W:World) (v:Value),(W.cell? ⟨g,1,none⟩=some (I J k)∧W.cell? ⟨bm,1,none⟩=some (I J ek)∧W.cell? ⟨bm,2,none⟩=some (I J ea)∧W.cell? ⟨bm,3,none⟩=some (I J eb)∧W.cell? ⟨bm,4,none⟩=some (I J en)∧W.cell? ⟨bm,5,none⟩=some (V es)∧W.cell? ⟨bm,6,none⟩=some (V et)∧W.cell? ⟨bm,7,none⟩=some (V eu))→(λW:World=>W.cell? ⟨g,1,none⟩=some (I J k)∧W.cell? ⟨bm,1,none⟩=some (I J ek)∧W.cell? ⟨bm,2,none⟩=some (I J ea)∧W.cell? ⟨bm,3,none⟩=some (I J eb)∧W.cell? ⟨bm,4,none⟩=some (I J en)∧W.cell? ⟨bm,5,none⟩=some (V es)∧W.cell? ⟨bm,6,none⟩=some (V et)∧W.cell? ⟨bm,7,none⟩=some (V eu)) (W.setCell ⟨g,0,none⟩ v)):=by
  rintro W v ⟨q0,q1,q2,q3,q4,q5,q6,q7⟩
  have hne:bm≠g:=λe=>by
   have h5:=(bu.out wa (aa.refl _ _)).2.2.2.1;rw[e] at h5;have h6:=hb.cell 3;rw[h5] at h6
   cases h6
  exact⟨(World.cell?_setCell_other _ _ _ _ (by simp)).trans q0,(World.cell?_setCell_far _ _ _ _ (Ne.symm hne)).trans q1,(World.cell?_setCell_far _ _ _ _ (Ne.symm hne)).trans q2,(World.cell?_setCell_far _ _ _ _ (Ne.symm hne)).trans q3,(World.cell?_setCell_far _ _ _ _ (Ne.symm hne)).trans q4,(World.cell?_setCell_far _ _ _ _ (Ne.symm hne)).trans q5,(World.cell?_setCell_far _ _ _ _ (Ne.symm hne)).trans q6,(World.cell?_setCell_far _ _ _ _ (Ne.symm hne)).trans q7⟩
 have R0:=fR wa;have bE:=h_ R0;have Im:Hid (∀W,aa ag wa W→W.cell? ⟨g,0,none⟩=some (U Aa n ca)∧W.frozen? ⟨g,0,none⟩=false):=λW h=>⟨cx h,cf h⟩
 have p1:=cx R0;have p2:=cx (R0.alloc (.cells #[I J ek,I J ea,I J eb,I J en,V es,V et,V eu] 42));have FB:(0:Int)≤(k:Int):=Int.natCast_nonneg _;have FC:(k:Int)≤(ca:Int):=by omega
 have FD:(k:Int)≤(n:Int):=by omega
 obtain⟨e0,e1,e2,e3,e4,e5,e6,e7⟩:=hS wa R0;have HQ:=h_ hQ;have HP:=h_ hP;have HKC:=h_ KC;clear hb hS cx cf R0 hQ hP hX KC hrows2 N6;simp only[aD,ap,bH,aT,bM,ai,ae,Tryz.f61];refine wp_region_held_drew (S:=λW=>W.cell? ⟨g,1,none⟩=some (I J k)∧W.cell? ⟨bm,1,none⟩=some (I J ek)∧W.cell? ⟨bm,2,none⟩=some (I J ea)∧W.cell? ⟨bm,3,none⟩=some (I J eb)∧W.cell? ⟨bm,4,none⟩=some (I J en)∧W.cell? ⟨bm,5,none⟩=some (V es)∧W.cell? ⟨bm,6,none⟩=some (V et)∧W.cell? ⟨bm,7,none⟩=some (V eu)) (by kernel_rfl) (bu.out _ bE.out.drew) λhH=>?_
 refine tk (i:=0) HP rfl rfl hH ?_
 try simp only[lt]
 refine tk (i:=1) HP rfl rfl hH ?_
 try simp only[lt]
 refine tk (i:=2) HP rfl rfl hH ?_
 try simp only[lt]
 refine tk (i:=3) HP rfl rfl hH ?_
 try simp only[lt]
 refine tk (i:=5) HP rfl rfl hH ?_
 try simp only[lt]
 refine tk (i:=6) HP rfl rfl hH ?_
 try simp only[lt]
 refine tk (i:=7) HP rfl rfl hH ?_
 try simp only[lt]
 refine tk (i:=8) HP rfl rfl hH ?_
 try simp only[lt]
 refine tk (i:=11) HP rfl rfl hH ?_
 try simp only[lt]
 refine tk (i:=12) HP rfl rfl hH ?_
 try simp only[lt]
 refine kW (i:=4) (j:=13) rfl rfl (λK hK=>?_) (λK hK=>?_)
 ·go_simp
  refine hK.out _ _ (bu.out _ bE.out.drew) (λhH=>?_);clear hK K
  try simp only[lt]
  refine tk (i:=9) HP rfl rfl hH ?_
  try simp only[lt]
  refine kW (i:=10) (j:=13) rfl rfl (λK hK=>?_) (λK hK=>?_)
  ·go_simp
   go_at_call 120;refine(HKC.out _ bE.out.drew).mono ?_;rintro e w1 ⟨A1,c1,rfl,hr⟩;have HRa:Hid (aI 42 7 wa w1 (U A1 k c1) k rows):=hr.since bE.out.drew;clear hr;dsimp only;refine hK.out _ _ (bu.out _ HRa.out.frm) (λhH=>?_);clear hK K
   try simp only[lt]
   refine aw (i:=13) rfl (λK hK=>?_);go_simp;refine hK.out _ _ (bu.out _ (HRa.out.frm.alloc _)) (λhH=>?_);clear hK K
   try simp only[lt]
   obtain⟨A4,c4,w4,IK,h4⟩:=HPu.out w1 A1 c1 HRa.out;have H4:=h_ h4;clear h4;refine aw (i:=14) rfl (λK hK=>?_);refine bW IK ?_;refine hK.out _ _ (bu.out _ H4.out.frm) (λhH=>?_);clear hK K
   try simp only[lt]
   have sc:=(Im.out _ H4.out.frm).1;have sf:=(Im.out _ H4.out.frm).2;refine tk (i:=15) HP rfl rfl hH ?_
   try simp only[lt]
   refine tk (i:=16) HP rfl rfl hH ?_
   try simp only[lt]
   refine aw (i:=17) rfl (λK hK=>?_);go_simp;refine hK.out _ _ (HST.out _ _ hH) (λhH=>?_);clear hK K
   try simp only[lt]
   refine wpAnyH_done (by kernel_rfl) ?_ _;exact HQ.out _ _ _ _ _ _ H4.out
  ·go_simp
   refine hK.out _ _ (bu.out _ (bE.out.alloc _).drew) (λhH=>?_);clear hK K
   try simp only[lt]
   refine aw (i:=10) rfl (λK hK=>?_);go_simp;go_at_call 120;refine(HKC.out _ (bE.out.alloc _).drew).mono ?_;rintro e w1 ⟨A1,c1,rfl,hr⟩;have HRa:Hid (aI 42 7 wa w1 (U A1 k c1) k rows):=hr.since (bE.out.alloc _).drew;have bT:Hid (aj w1 wa.heap.size 42 #[I J ek,I J ea,I J eb,I J en,V es,V et,V eu]):=(aj.new wa 42 #[I J ek,I J ea,I J eb,I J en,V es,V et,V eu]).drew.frm (F:=ag) (w1:=w1) hr.frm id;clear hr;dsimp only;refine hK.out _ _ (bu.out _ HRa.out.frm) (λhH=>?_);clear hK K
   try simp only[lt]
   obtain⟨A4,c4,w4,IK,h4⟩:=HPb.out w1 _ A1 c1 HRa.out bT.out;have H4:=h_ h4;clear h4;refine aw (i:=14) rfl (λK hK=>?_);refine bW IK ?_;refine hK.out _ _ (bu.out _ H4.out.frm) (λhH=>?_);clear hK K
   try simp only[lt]
   have sc:=(Im.out _ H4.out.frm).1;have sf:=(Im.out _ H4.out.frm).2;refine tk (i:=15) HP rfl rfl hH ?_
   try simp only[lt]
   refine tk (i:=16) HP rfl rfl hH ?_
   try simp only[lt]
   refine aw (i:=17) rfl (λK hK=>?_);go_simp;refine hK.out _ _ (HST.out _ _ hH) (λhH=>?_);clear hK K
   try simp only[lt]
   refine wpAnyH_done (by kernel_rfl) ?_ _;exact HQ.out _ _ _ _ _ _ H4.out
 ·go_simp
  refine hK.out _ _ (bu.out _ (bE.out.alloc _).drew) (λhH=>?_);clear hK K
  try simp only[lt]
  refine aw (i:=4) rfl (λK hK=>?_);go_simp;refine hK.out _ _ (bu.out _ (bE.out.alloc _).drew) (λhH=>?_);clear hK K
  try simp only[lt]
  refine tk (i:=9) HP rfl rfl hH ?_
  try simp only[lt]
  refine aw (i:=10) rfl (λK hK=>?_);go_simp;go_at_call 120;refine(HKC.out _ (bE.out.alloc _).drew).mono ?_;rintro e w1 ⟨A1,c1,rfl,hr⟩;have HRa:Hid (aI 42 7 wa w1 (U A1 k c1) k rows):=hr.since (bE.out.alloc _).drew;have bT:Hid (aj w1 wa.heap.size 42 #[I J ek,I J ea,I J eb,I J en,V es,V et,V eu]):=(aj.new wa 42 #[I J ek,I J ea,I J eb,I J en,V es,V et,V eu]).drew.frm (F:=ag) (w1:=w1) hr.frm id;clear hr;dsimp only;refine hK.out _ _ (bu.out _ HRa.out.frm) (λhH=>?_);clear hK K
  try simp only[lt]
  obtain⟨A4,c4,w4,IK,h4⟩:=HPb.out w1 _ A1 c1 HRa.out bT.out;have H4:=h_ h4;clear h4;refine aw (i:=14) rfl (λK hK=>?_);refine bW IK ?_;refine hK.out _ _ (bu.out _ H4.out.frm) (λhH=>?_);clear hK K
  try simp only[lt]
  have sc:=(Im.out _ H4.out.frm).1;have sf:=(Im.out _ H4.out.frm).2;refine tk (i:=15) HP rfl rfl hH ?_
  try simp only[lt]
  refine tk (i:=16) HP rfl rfl hH ?_
  try simp only[lt]
  refine aw (i:=17) rfl (λK hK=>?_);go_simp;refine hK.out _ _ (HST.out _ _ hH) (λhH=>?_);clear hK K
  try simp only[lt]
  refine wpAnyH_done (by kernel_rfl) ?_ _;exact HQ.out _ _ _ _ _ _ H4.out
def uo(lv:Bool)(want:Int)(a:Au)(e:Ev):List Ev:=if lv=true∧want=30 then a.all.take a.last++[e] else a.all
theorem DY{a:Au}{e:Ev}(h:lv=true∧want=30):uo lv want a e=a.all.take a.last++[e]:=if_pos h
theorem yv{a:Au}{e:Ev}(h:¬(lv=true∧want=30)):uo lv want a e=a.all:=if_neg h
theorem Kt{w wc:World}{g bm bd:Nat}{G:Nat→Prop}{Aa Aw:Option Addr}{ca cw:Nat}{al:List Ev}{la:Nat}{l':List Ev}{s5 s6:Value}(h:dZ wc g G Aa ca Aw cw ⟨al,la,ws⟩)(hd:aj wc bd 4 #[.bool dn])(hF:aa (·=g) w wc)(hl:la≤100000)(GL:ok=true→al=l'):
  Code.wp pQ (ai 8 (ae Tryz.f61)) (bodyPost pQ Tryz.f61 λe w'=>IJ w g G ok ⟨l',if dn=true then la+1 else la,ws⟩ e w') ⟨#[O (some ⟨g,0,none⟩),u1,u2,O (some ⟨bm,0,none⟩),.bool false,s5,s6,I J (↑la+1),O (some ⟨bd,0,none⟩),.bool ok,u10,u11,u12,u13,u14,u15,u16,cG,cH,cI,cR,cS,cT,u23,u24,cN,u26,dc,u28,dm,dp,dr,u32,u33,df,dg,u36,dt,u38,dB,dC,dO,dP,dQ,u44,u45,dI,dJ,dK,dL,dD,dE,dF,dR,dS,dT,dM,dG,dH,dw,dx,dy,dz,dA,u64,dh,di,dl,cU,cX,fA,fB,fF,fG,fw,iO,iP,iQ,jN,jO,jP,jQ,jR,jS,jT,jU,jJ,jK,jV,jW,jX,jY],[]⟩ wc:=by
 have d0:=hd.cell 0;simp at d0;have HA:=h_ h;have HF:=h_ hF;have q1:=(h.blk.cell 1).trans rfl;have z1:=h.blk.frozen 1;have HAL:=h_ GL;clear h hd hF GL
 cases dn with
 | false=>
   simp only[ai,ae,Tryz.f61];go_wp2;go_ret
   exact⟨rfl,HF.out,λh=>⟨Aa,ca,Aw,cw,by rw[←HAL.out h];exact HA.out⟩⟩
 | true=>
   simp only[ai,ae,Tryz.f61];go_wp2;go_ret;exact⟨rfl,HF.out.setCell (.inl rfl) _,λh=>⟨Aa,ca,Aw,cw,by rw[←HAL.out h];exact HA.out.setLast (la+1)⟩⟩
theorem Rw{w wc:World}{g bm bw bd:Nat}{G:Nat→Prop}{Aa Aw:Option Addr}{ca cw:Nat}{a:Au}(h:dZ wc g G Aa ca Aw cw a)(hd:aj wc bd 4 #[.bool dn])(hw:aj wc bw 25 #[I J want])(hm:aj wc bm 44 #[I J m.kind,I J m.ev.kind,I J m.ev.a,I J m.ev.b,I J m.ev.n,V m.ev.s,V m.ev.t,V m.ev.u,I J m.err,I J m.last,I J m.snap,I J m.st.clock,U fo.1 m.st.fols.length fo.2,U fe.1 m.st.fees.length fe.2,U it.1 m.st.itms.length it.2,U se.1 m.st.seas.length se.2,I J m.st.tFol,I J m.st.tFee,I J m.st.tItm,I J m.st.tSea])(hF:aa (·=g) w wc)(hl:a.last≤a.all.length)(hn:a.all.length≤10000)(hG:∀k,wc.heap.size≤k→G k)(ha:bn m.ev.a)(hb:bn m.ev.b):
  Code.wp pQ (ai 7 (ae Tryz.f61)) (bodyPost pQ Tryz.f61 λe w'=>IJ w g G ok ⟨uo lv want a m.ev,if dn=true then a.last+1 else a.last,a.ws⟩ e w') ⟨#[O (some ⟨g,0,none⟩),u1,u2,O (some ⟨bm,0,none⟩),.bool false,O (some ⟨bw,0,none⟩),.bool lv,I J (↑a.last+1),O (some ⟨bd,0,none⟩),.bool ok,u10,u11,u12,u13,u14,u15,u16,cG,cH,cI,cR,cS,cT,u23,u24,cN,u26,dc,u28,dm,dp,dr,u32,u33,df,dg,u36,dt,u38,dB,dC,dO,dP,dQ,u44,u45,dI,dJ,dK,dL,dD,dE,dF,dR,dS,dT,dM,dG,dH,dw,dx,dy,dz,dA,u64,dh,di,dl,cU,cX,fA,fB,fF,fG,fw,iO,iP,iQ,jN,jO,jP,jQ,jR,jS,jT,jU,jJ,jK,jV,jW,jX,jY],[]⟩ wc:=by
 have d0:=hd.cell 0;have w0:=hw.cell 0;simp at d0 w0;have HD:=h_ hd;have HA:=h_ h;have HF:=h_ hF;have HN:=h_ hn;have Bq:=h_ hl;have HM:=h_ hm;have HI:=h_ (And.intro ha hb);have HGG:=h_ hG;clear h hd hw hF hm hn hl ha hb hG;have e1:ai 7 (ae Tryz.f61)=.seq (aD (ai 7 (ae Tryz.f61))) (ai 8 (ae Tryz.f61)):=by kernel_rfl
 cases ok with
 | false=>
   rw[e1];clear e1;refine wp_seq_k λK hK=>?_
   conv in aD _=>whnf
   go_wp2
   exact Kt (ok:=false) (dn:=dn) HA.out HD.out HF.out (by have:=HN.out;have:=Bq.out;omega) (λh=>by cases h)
 | true=>
 cases lv with
 | false=>
   rw[e1];clear e1;refine wp_seq_k λK hK=>?_
   conv in aD _=>whnf
   go_wp2
   exact Kt (ok:=true) (dn:=dn) HA.out HD.out HF.out (by have:=HN.out;have:=Bq.out;omega) (λ_=>(yv (λh=>by cases h.1)).symm)
 | true=>
 by_cases h30:want=30
 ·have b30:(want==30)=true:=beq_iff_eq.2 h30
  have HAL:Hid (a.all.take a.last++[m.ev]=uo true want a m.ev):=(DY ⟨rfl,h30⟩).symm;clear h30;rw[e1];clear e1;refine wp_seq_k λK hK=>?_
  conv in aD _=>whnf
  go_wp2;refine M2 (n:=a.all.length) (rows:=(a.all.take a.last).flatMap Ev.cells) HA.out.blk (λW hW=>⟨((HA.out.blk.frm hW id).cell 1).trans rfl,((HM.out.frm hW id).cell 1).trans rfl,((HM.out.frm hW id).cell 2).trans rfl,((HM.out.frm hW id).cell 3).trans rfl,((HM.out.frm hW id).cell 4).trans rfl,((HM.out.frm hW id).cell 5).trans rfl,((HM.out.frm hW id).cell 6).trans rfl,((HM.out.frm hW id).cell 7).trans rfl⟩) Bq.out HA.out.all.cap HA.out.all.max (by have:=HN.out;have:=Bq.out;omega) (wX _) (λW hW=>?_) (λ_ _ _ _ _ h=>h) ?_
  ·have q:=BX ((HA.out.all.nix hW).first Bq.out) (by rw[gy Ev.clen];exact wX _) (by have:=HN.out;have:=Bq.out;omega)
   rw[gy Ev.clen] at q;exact q
  ·intro wd A c z73 z79 z82 hr
   have el:(a.all.take a.last++[m.ev]).length=a.last+1:=by have:=Bq.out;simp;omega
   have HR:Hid (dZ (wd.setCell ⟨g,0,none⟩ (U A (a.last+1) c)) g G A c Aw cw {a with all:=a.all.take a.last++[m.ev]}):=by
    have q:=HA.out.setAll (W:=wd) (A:=A) (c:=c) (l:=a.all.take a.last++[m.ev]) HGG.out (by rw[el,List.flatMap_append];simpa [Ev.cells] using hr) (λe he=>by
     rcases List.mem_append.1 he with he|he
     ·exact HA.out.num e (List.mem_of_mem_take he)
     ·rw[List.mem_singleton.1 he];exact HI.out)
    rw[el] at q;exact q
   have kX:Hid (aa (·=g) w (wd.setCell ⟨g,0,none⟩ (U A (a.last+1) c))):=(HF.out.more hr.frm).setCell (.inl rfl) _;have MH:Hid (aj (wd.setCell ⟨g,0,none⟩ (U A (a.last+1) c)) bd 4 #[.bool dn]):=(HD.out.frm hr.frm id).far (p:=⟨g,0,none⟩) (HD.out.ne_ HA.out.blk (by decide)) _;clear hr;go_wp2;exact Kt (ok:=true) (dn:=dn) HR.out MH.out kX.out (by have:=HN.out;have:=Bq.out;omega) (λ_=>HAL.out)
 ·have b30:(want==30)=false:=beq_eq_false_iff_ne.2 h30
  have HAL:Hid (a.all=uo true want a m.ev):=(yv (λh=>h30 h.2)).symm;clear h30;rw[e1];clear e1;refine wp_seq_k λK hK=>?_
  conv in aD _=>whnf
  go_wp2;exact Kt (ok:=true) (dn:=dn) HA.out HD.out HF.out (by have:=HN.out;have:=Bq.out;omega) (λ_=>HAL.out)
theorem BZ{w wc:World}{g bm bw bd:Nat}{G:Nat→Prop}{Aa Aw:Option Addr}{ca cw:Nat}{a:Au}(h:dZ wc g G Aa ca Aw cw a)(bO:lz a)(hd:aj wc bd 4 #[.bool dn])(hw:aj wc bw 25 #[I J want])(hm:aj wc bm 44 #[I J m.kind,I J m.ev.kind,I J m.ev.a,I J m.ev.b,I J m.ev.n,V m.ev.s,V m.ev.t,V m.ev.u,I J m.err,I J m.last,I J m.snap,I J m.st.clock,U fo.1 m.st.fols.length fo.2,U fe.1 m.st.fees.length fe.2,U it.1 m.st.itms.length it.2,U se.1 m.st.seas.length se.2,I J m.st.tFol,I J m.st.tFee,I J m.st.tItm,I J m.st.tSea])(hF:aa (·=g) w wc)(hn:a.all.length≤10000)(hG:∀k,wc.heap.size≤k→G k)(ha:bn m.ev.a)(hb:bn m.ev.b)
  (hlv:mN a=lv) (hw2:pA a m=want) (hdn:dn=(mN a&&decide (pA a m=30)&&decide (m.err=0)&&decide (m.last=a.last+1))) (hpl:¬(aN m=false∨(m.err≠0∧m.last≠0))):
  Code.wp pQ (ai 6 (ae Tryz.f61)) (bodyPost pQ Tryz.f61 λe w'=>bi w g G (l8 a m) e w') ⟨#[O (some ⟨g,0,none⟩),u1,u2,O (some ⟨bm,0,none⟩),.bool false,O (some ⟨bw,0,none⟩),.bool lv,I J (↑a.last+1),O (some ⟨bd,0,none⟩),u9,u10,u11,u12,u13,u14,u15,u16,cG,cH,cI,cR,cS,cT,u23,u24,cN,u26,dc,u28,dm,dp,dr,u32,u33,df,dg,u36,dt,u38,dB,dC,dO,dP,dQ,u44,u45,dI,dJ,dK,dL,dD,dE,dF,dR,dS,dT,dM,dG,dH,dw,dx,dy,dz,dA,u64,dh,di,dl,cU,cX,fA,fB,fF,fG,fw,iO,iP,iQ,jN,jO,jP,jQ,jR,jS,jT,jU,jJ,jK,jV,jW,jX,jY],[]⟩ wc:=by
 have hpa:l8 a m=if kq (nx want dn m.err) a.ws=[] then none else some ⟨uo lv want a m.ev,if dn=true then a.last+1 else a.last,kq (nx want dn m.err) a.ws⟩:=by
  unfold l8;rw[if_neg hpl];simp only[hdn,hlv,hw2];rfl
 have KG:=h_ (rk (F:=118) (caps:=#[O (some ⟨bm,0,none⟩),O (some ⟨bw,0,none⟩),O (some ⟨bd,0,none⟩)]) (nx want dn m.err) h (by have:=bO.len;omega) (λx=>Nat.le_trans (BU _ _ _ _) (by decide)) (λargs W=>by kernel_rfl) (λx W hW=>IH x (((hm.frm hW id).cell 8).trans rfl) (((hw.frm hW id).cell 0).trans rfl) (((hd.frm hW id).cell 0).trans rfl)));have HA:=h_ h;have HP:=h_ hpa;have HB:=h_ (And.intro hd (And.intro hw hm));have HF:=h_ hF;have HX:=h_ (And.intro bO (And.intro hn (And.intro hG (And.intro ha hb))));generalize kq (nx want dn m.err) a.ws=ws at *;clear h bO hd hw hm hF hn hG ha hb hlv hw2 hdn hpl hpa;refine aC (k':=7) λK hK=>?_
 conv in aD _=>whnf
 go_wp2_with (go_at_call 117;refine KG.out.mono ?_;rintro e w1 ⟨rfl,A,c,W,hr,rfl⟩;have HR:=h_ hr;clear hr);have hA2:=HA.out.setWs HX.out.2.2.1 HR.out;have hfr:=HR.out.frm;have hne:=HA.out.blk;refine Code.wp_mono (BW λe w' h=>?_) (Rw (a:=⟨a.all,a.last,ws⟩) (lv:=lv) (dn:=dn) (want:=want) (m:=m) (w:=w) hA2 ((HB.out.1.frm hfr id).far (p:=⟨g,2,none⟩) (HB.out.1.ne_ hne (by decide)) _) ((HB.out.2.1.frm hfr id).far (p:=⟨g,2,none⟩) (HB.out.2.1.ne_ hne (by decide)) _) ((HB.out.2.2.frm hfr id).far (p:=⟨g,2,none⟩) (HB.out.2.2.ne_ hne (by decide)) _) ((HF.out.more hfr).setCell (.inl rfl) _) HX.out.1.le HX.out.2.1 (λk hk=>HX.out.2.2.1 k (by have:=hfr.size;simp at hk;omega)) HX.out.2.2.2.1 HX.out.2.2.2.2);rw[HP.out];exact bi.of (ok:=_) (by simp) h
theorem M3{w wc:World}{g bm bw:Nat}{G:Nat→Prop}{Aa Aw:Option Addr}{ca cw:Nat}{a:Au}(h:dZ wc g G Aa ca Aw cw a)(bO:lz a)(hw:aj wc bw 25 #[I J want])(hm:aj wc bm 44 #[I J m.kind,I J m.ev.kind,I J m.ev.a,I J m.ev.b,I J m.ev.n,V m.ev.s,V m.ev.t,V m.ev.u,I J m.err,I J m.last,I J m.snap,I J m.st.clock,U fo.1 m.st.fols.length fo.2,U fe.1 m.st.fees.length fe.2,U it.1 m.st.itms.length it.2,U se.1 m.st.seas.length se.2,I J m.st.tFol,I J m.st.tFee,I J m.st.tItm,I J m.st.tSea])(hF:aa (·=g) w wc)(hn:a.all.length≤10000)(hG:∀k,wc.heap.size≤k→G k)(ha:bn m.ev.a)(hb:bn m.ev.b)
  (hw2:pA a m=want) (hpl:¬(aN m=false∨(m.err≠0∧m.last≠0))):
  Code.wp pQ (ai 4 (ae Tryz.f61)) (bodyPost pQ Tryz.f61 λe w'=>bi w g G (l8 a m) e w') ⟨#[O (some ⟨g,0,none⟩),u1,u2,O (some ⟨bm,0,none⟩),.bool false,O (some ⟨bw,0,none⟩),u6,u7,u8,u9,u10,u11,u12,u13,u14,u15,u16,cG,cH,cI,cR,cS,cT,u23,u24,cN,u26,dc,u28,dm,dp,dr,u32,u33,df,dg,u36,dt,u38,dB,dC,dO,dP,dQ,u44,u45,dI,dJ,dK,dL,dD,dE,dF,dR,dS,dT,dM,dG,dH,dw,dx,dy,dz,dA,u64,dh,di,dl,cU,cX,fA,fB,fF,fG,fw,iO,iP,iQ,jN,jO,jP,jQ,jR,jS,jT,jU,jJ,jK,jV,jW,jX,jY],[]⟩ wc:=by
 have Cg:a.last≤10000:=by have:=bO.le;omega
 obtain⟨lv,hlv⟩:∃lv,mN a=lv:=⟨_,rfl⟩
 have KL:Hid (∀W,aa ag wc W→Calls pQ 116 #[O (some ⟨g,0,none⟩)] W λe w'=>e=.returned (.bool lv)∧aa ag W w'):=λW hW=>by
  have q:=DR (h.nix hW) bO.ne;rw[hlv] at q;exact q
 have NA:Hid (∀W,aa ag wc W→W.cell? ⟨g,1,none⟩=some (I J a.last)):=λW hW=>((h.blk.frm hW id).cell 1).trans rfl
 have HCm:Hid (∀W,aa ag wc W→W.cell? ⟨bw,0,none⟩=some (I J want)∧W.cell? ⟨bm,8,none⟩=some (I J m.err)∧W.cell? ⟨bm,9,none⟩=some (I J m.last)∧bw<W.heap.size∧bm<W.heap.size):=λW hW=>⟨((hw.frm hW id).cell 0).trans rfl,((hm.frm hW id).cell 8).trans rfl,((hm.frm hW id).cell 9).trans rfl,(hw.frm hW id).lt,(hm.frm hW id).lt⟩
 have HA:=h_ h;have HW:=h_ hw;have HM:=h_ hm;have HF:=h_ hF;have HLv:=h_ hlv;have HX:=h_ (And.intro bO (And.intro hn (And.intro hG (And.intro ha (And.intro hb (And.intro hw2 hpl))))));have HDn:∀b1 b2 b3:Bool,(want==30)=b1→(m.err==0)=b2→(m.last==(a.last:Int)+1)=b3→(lv&&b1&&b2&&b3)=(mN a&&decide (pA a m=30)&&decide (m.err=0)&&decide (m.last=(a.last:Int)+1)):=λb1 b2 b3 h1 h2 h3=>by rw[hlv,hw2,←kH,←kH,←kH,h1,h2,h3]
 have HD:=h_ HDn;have Kb:IntKind.i64.wrap ((a.last:Int)+1)=(a.last:Int)+1:=IntWalk.i64_in _ (by omega);clear h bO hw hm hF hn hG ha hb hw2 hpl hlv HDn
 cases lv with
 | false=>
   refine aC (k':=5) λK hK=>?_
   conv in aD _=>whnf
   go_region_held3 (λW=>W.cell? ⟨g,1,none⟩=some (I J a.last)) ((refine NA.out _ ?_;repeat' (first|with_reducible exact aa.refl _ _|with_reducible exact Y1.out|with_reducible apply aa.drew)))
    (first
     | (go_at_call 116;refine(KL.out _ (by repeat' (first|with_reducible exact aa.refl _ _|with_reducible apply aa.drew))).mono ?_;rintro e w1 ⟨rfl,hf⟩;have Y1:Hid (aa ag wc w1):=(fR _).drew.trans hf;clear hf))
   all_goals
    go_wp2;obtain⟨c1,c2,c3,c4,c5⟩:=HCm.out _ Y1.out;refine aC (k':=6) λK hK=>?_
    conv in aD _=>whnf
    go_wp2
    exact BZ (lv:=false) (dn:=false) (want:=want) (w:=w) ((HA.out.nix Y1.out).nix ((fR _).alloc _)) HX.out.1 (aj.new _ _ _) ((HW.out.frm Y1.out id).alloc _) ((HM.out.frm Y1.out id).alloc _) ((HF.out.more Y1.out).alloc _) HX.out.2.1 (λk hk=>HX.out.2.2.1 k (by have:=Y1.out.size;simp at hk;omega)) HX.out.2.2.2.1 HX.out.2.2.2.2.1 HLv.out HX.out.2.2.2.2.2.1 (by have q:=HD.out _ _ _ rfl rfl rfl;simpa using q) HX.out.2.2.2.2.2.2
 | true=>
 cases Ls:(want==30) with
 | false=>
   refine aC (k':=5) λK hK=>?_
   conv in aD _=>whnf
   go_region_held3 (λW=>W.cell? ⟨g,1,none⟩=some (I J a.last)) ((refine NA.out _ ?_;repeat' (first|with_reducible exact aa.refl _ _|with_reducible exact Y1.out|with_reducible apply aa.drew)))
    (first
     | (go_at_call 116;refine(KL.out _ (by repeat' (first|with_reducible exact aa.refl _ _|with_reducible apply aa.drew))).mono ?_;rintro e w1 ⟨rfl,hf⟩;have Y1:Hid (aa ag wc w1):=(fR _).drew.trans hf;clear hf))
   all_goals
    go_wp2;obtain⟨c1,c2,c3,c4,c5⟩:=HCm.out _ Y1.out;refine aC (k':=6) λK hK=>?_
    conv in aD _=>whnf
    go_wp2
    exact BZ (lv:=true) (dn:=false) (want:=want) (w:=w) ((HA.out.nix Y1.out).nix ((fR _).alloc _)) HX.out.1 (aj.new _ _ _) ((HW.out.frm Y1.out id).alloc _) ((HM.out.frm Y1.out id).alloc _) ((HF.out.more Y1.out).alloc _) HX.out.2.1 (λk hk=>HX.out.2.2.1 k (by have:=Y1.out.size;simp at hk;omega)) HX.out.2.2.2.1 HX.out.2.2.2.2.1 HLv.out HX.out.2.2.2.2.2.1 (by have q:=HD.out _ _ _ Ls rfl rfl;simpa using q) HX.out.2.2.2.2.2.2
 | true=>
 cases e2':(m.err==0) with
 | false=>
   refine aC (k':=5) λK hK=>?_
   conv in aD _=>whnf
   go_region_held3 (λW=>W.cell? ⟨g,1,none⟩=some (I J a.last)) ((refine NA.out _ ?_;repeat' (first|with_reducible exact aa.refl _ _|with_reducible exact Y1.out|with_reducible apply aa.drew)))
    (first
     | (go_at_call 116;refine(KL.out _ (by repeat' (first|with_reducible exact aa.refl _ _|with_reducible apply aa.drew))).mono ?_;rintro e w1 ⟨rfl,hf⟩;have Y1:Hid (aa ag wc w1):=(fR _).drew.trans hf;clear hf))
   all_goals
    go_wp2;obtain⟨c1,c2,c3,c4,c5⟩:=HCm.out _ Y1.out;refine aC (k':=6) λK hK=>?_
    conv in aD _=>whnf
    go_wp2
    exact BZ (lv:=true) (dn:=false) (want:=want) (w:=w) ((HA.out.nix Y1.out).nix ((fR _).alloc _)) HX.out.1 (aj.new _ _ _) ((HW.out.frm Y1.out id).alloc _) ((HM.out.frm Y1.out id).alloc _) ((HF.out.more Y1.out).alloc _) HX.out.2.1 (λk hk=>HX.out.2.2.1 k (by have:=Y1.out.size;simp at hk;omega)) HX.out.2.2.2.1 HX.out.2.2.2.2.1 HLv.out HX.out.2.2.2.2.2.1 (by have q:=HD.out _ _ _ Ls e2' rfl;simpa using q) HX.out.2.2.2.2.2.2
 | true=>
 cases e3':(m.last==(a.last:Int)+1) with
 | false=>
   refine aC (k':=5) λK hK=>?_
   conv in aD _=>whnf
   go_region_held3 (λW=>W.cell? ⟨g,1,none⟩=some (I J a.last)) ((refine NA.out _ ?_;repeat' (first|with_reducible exact aa.refl _ _|with_reducible exact Y1.out|with_reducible apply aa.drew)))
    (first
     | (go_at_call 116;refine(KL.out _ (by repeat' (first|with_reducible exact aa.refl _ _|with_reducible apply aa.drew))).mono ?_;rintro e w1 ⟨rfl,hf⟩;have Y1:Hid (aa ag wc w1):=(fR _).drew.trans hf;clear hf))
   all_goals
    go_wp2;obtain⟨c1,c2,c3,c4,c5⟩:=HCm.out _ Y1.out;refine aC (k':=6) λK hK=>?_
    conv in aD _=>whnf
    go_wp2
    exact BZ (lv:=true) (dn:=false) (want:=want) (w:=w) ((HA.out.nix Y1.out).nix ((fR _).alloc _)) HX.out.1 (aj.new _ _ _) ((HW.out.frm Y1.out id).alloc _) ((HM.out.frm Y1.out id).alloc _) ((HF.out.more Y1.out).alloc _) HX.out.2.1 (λk hk=>HX.out.2.2.1 k (by have:=Y1.out.size;simp at hk;omega)) HX.out.2.2.2.1 HX.out.2.2.2.2.1 HLv.out HX.out.2.2.2.2.2.1 (by have q:=HD.out _ _ _ Ls e2' e3';simpa using q) HX.out.2.2.2.2.2.2
 | true=>
   refine aC (k':=5) λK hK=>?_
   conv in aD _=>whnf
   go_region_held3 (λW=>W.cell? ⟨g,1,none⟩=some (I J a.last)) ((refine NA.out _ ?_;repeat' (first|with_reducible exact aa.refl _ _|with_reducible exact Y1.out|with_reducible apply aa.drew)))
    (first
     | (go_at_call 116;refine(KL.out _ (by repeat' (first|with_reducible exact aa.refl _ _|with_reducible apply aa.drew))).mono ?_;rintro e w1 ⟨rfl,hf⟩;have Y1:Hid (aa ag wc w1):=(fR _).drew.trans hf;clear hf))
   all_goals
    go_wp2;obtain⟨c1,c2,c3,c4,c5⟩:=HCm.out _ Y1.out;refine aC (k':=6) λK hK=>?_
    conv in aD _=>whnf
    go_wp2;exact BZ (lv:=true) (dn:=true) (want:=want) (w:=w) ((HA.out.nix Y1.out).nix ((fR _).alloc _)) HX.out.1 (aj.new _ _ _) ((HW.out.frm Y1.out id).alloc _) ((HM.out.frm Y1.out id).alloc _) ((HF.out.more Y1.out).alloc _) HX.out.2.1 (λk hk=>HX.out.2.2.1 k (by have:=Y1.out.size;simp at hk;omega)) HX.out.2.2.2.1 HX.out.2.2.2.2.1 HLv.out HX.out.2.2.2.2.2.1 (by have q:=HD.out _ _ _ Ls e2' e3';simpa using q) HX.out.2.2.2.2.2.2
theorem LC{w wc:World}{g bm:Nat}{G:Nat→Prop}{Aa Aw:Option Addr}{ca cw:Nat}{a:Au}(h:dZ wc g G Aa ca Aw cw a)(bO:lz a)(hm:aj wc bm 44 #[I J m.kind,I J m.ev.kind,I J m.ev.a,I J m.ev.b,I J m.ev.n,V m.ev.s,V m.ev.t,V m.ev.u,I J m.err,I J m.last,I J m.snap,I J m.st.clock,U fo.1 m.st.fols.length fo.2,U fe.1 m.st.fees.length fe.2,U it.1 m.st.itms.length it.2,U se.1 m.st.seas.length se.2,I J m.st.tFol,I J m.st.tFee,I J m.st.tItm,I J m.st.tSea])(hF:aa (·=g) w wc)(hn:a.all.length≤10000)(hG:∀k,wc.heap.size≤k→G k)(ha:bn m.ev.a)(hb:bn m.ev.b)
  (hpl:¬(aN m=false∨(m.err≠0∧m.last≠0))):
  Code.wp pQ (ai 2 (ae Tryz.f61)) (bodyPost pQ Tryz.f61 λe w'=>bi w g G (l8 a m) e w') ⟨#[O (some ⟨g,0,none⟩),u1,u2,O (some ⟨bm,0,none⟩),.bool false,u5,u6,u7,u8,u9,u10,u11,u12,u13,u14,u15,u16,cG,cH,cI,cR,cS,cT,u23,u24,cN,u26,dc,u28,dm,dp,dr,u32,u33,df,dg,u36,dt,u38,dB,dC,dO,dP,dQ,u44,u45,dI,dJ,dK,dL,dD,dE,dF,dR,dS,dT,dM,dG,dH,dw,dx,dy,dz,dA,u64,dh,di,dl,cU,cX,fA,fB,fF,fG,fw,iO,iP,iQ,jN,jO,jP,jQ,jR,jS,jT,jU,jJ,jK,jV,jW,jX,jY],[]⟩ wc:=by
 obtain⟨w0,hw0⟩:∃w0,w0=wc.alloc (.cells #[I J 30] 25):=⟨_,rfl⟩;have hf0:aa ag wc w0:=by rw[hw0];exact(fR wc).alloc _
 have hB0:aj w0 wc.heap.size 25 #[I J 30]:=by rw[hw0];exact aj.new _ _ _
 have KC:∀W,Calls pQ 99 #[.agg #[I J m.ev.kind,I J m.ev.a,I J m.ev.b,I J m.ev.n,V m.ev.s,V m.ev.t,V m.ev.u]] W λe w'=>e=.returned (I J (if aM m.ev=true then 0 else 140))∧aa ag W w':=λW=>sw m.ev W
 have KS:Hid (∀W,aa ag wc W→Calls pQ 115 #[O (some ⟨g,0,none⟩)] W λe w'=>∃gs M,e=.returned (O (some ⟨gs,0,none⟩))∧aH w' gs M (bG iV (a.all.take a.last))∧aa ag W w'∧∀k,SF gs M k→W.heap.size≤k):=λW hW=>DN (h.nix hW) bO.le (by omega)
 have KF:Hid (∀W gs M,aH W gs M (bG iV (a.all.take a.last))→Calls pQ 51 #[O (some ⟨gs,0,none⟩),.agg #[I J m.ev.kind,I J m.ev.a,I J m.ev.b,I J m.ev.n,V m.ev.s,V m.ev.t,V m.ev.u]] W λr w'=>r=.returned (.bool (aG (bG iV (a.all.take a.last)) m.ev))∧aa ag W w'):=λW gs M hs=>wE hs m.ev ha hb
 have HCe:Hid (∀W,aa ag wc W→W.cell? ⟨bm,1,none⟩=some (I J m.ev.kind)∧W.cell? ⟨bm,2,none⟩=some (I J m.ev.a)∧W.cell? ⟨bm,3,none⟩=some (I J m.ev.b)∧W.cell? ⟨bm,4,none⟩=some (I J m.ev.n)∧W.cell? ⟨bm,5,none⟩=some (V m.ev.s)∧W.cell? ⟨bm,6,none⟩=some (V m.ev.t)∧W.cell? ⟨bm,7,none⟩=some (V m.ev.u)):=λW hW=>⟨((hm.frm hW id).cell 1).trans rfl,((hm.frm hW id).cell 2).trans rfl,((hm.frm hW id).cell 3).trans rfl,((hm.frm hW id).cell 4).trans rfl,((hm.frm hW id).cell 5).trans rfl,((hm.frm hW id).cell 6).trans rfl,((hm.frm hW id).cell 7).trans rfl⟩
 have M4:Hid (pA a m=if aM m.ev=false then 140 else if aG (bG iV (a.all.take a.last)) m.ev=false then 330 else 30):=rfl;have HA:=h_ h;have HM:=h_ hm;have HF:=h_ hF;have HX:=h_ (And.intro bO (And.intro hn (And.intro hG (And.intro ha (And.intro hb hpl)))));have H0:=h_ (And.intro hw0 (And.intro hf0 hB0));have hlt:=hm.lt;obtain⟨c1,c2,c3,c4,c5,c6,c7⟩:=HCe.out _ hf0;rw[hw0] at c1 c2 c3 c4 c5 c6 c7;clear h bO hm hF hn hG ha hb hpl hf0 hB0 hw0;generalize bG iV (a.all.take a.last)=x at *
 cases he:aM m.ev with
 | false=>
   rw[he] at M4;simp only[he,Bool.false_eq_true,if_false] at KC;have JM:Hid (pA a m=140):=M4.out.trans (if_pos rfl);have HH:=h_ he;clear he;refine aC (k':=3) λK hK=>?_
   conv in aD _=>whnf
   go_wp2;refine aC (k':=4) λK hK=>?_
   conv in aD _=>whnf
   go_wp2_with (first|(go_at_call 99;refine(KC _).mono ?_;rintro e w1 ⟨rfl,hf⟩;rw[←H0.out.1] at hf;have hb1:=H0.out.2.2.frm hf id;have t0:=hb1.cell 0;have f0:=hb1.frozen 0;simp at t0;have bT:=h_ hb1;have Y1:Hid (aa ag wc w1):=H0.out.2.1.trans hf;clear hf hb1)|fail)
   exact M3 (want:=140) (w:=w) (dZ.far HA.out Y1.out bT.out) HX.out.1 (bT.out.set_ 0 _) ((HM.out.frm Y1.out id).far (p:=⟨wc.heap.size,0,none⟩) (by have:=HM.out.lt;simp;omega) _) ((HF.out.more Y1.out).setCell (.inr (by have:=HF.out.size;simp;omega)) _) HX.out.2.1 (λk hk=>HX.out.2.2.1 k (by have:=Y1.out.size;simp at hk;omega)) HX.out.2.2.2.1 HX.out.2.2.2.2.1 JM.out HX.out.2.2.2.2.2
 | true=>
   rw[he] at M4;simp only[he,if_true] at KC;have HH:=h_ he;clear he
   cases I0:aG x m.ev with
   | false=>
     rw[I0] at M4 KF;have JM:Hid (pA a m=330):=M4.out;have HH2:=h_ I0;clear I0;refine aC (k':=3) λK hK=>?_
     conv in aD _=>whnf
     go_wp2;refine aC (k':=4) λK hK=>?_
     conv in aD _=>whnf
     go_wp2_with (first|(go_at_call 99;refine(KC _).mono ?_;rintro e w1 ⟨rfl,hf⟩;rw[←H0.out.1] at hf;have hb1:=H0.out.2.2.frm hf id;have bT:=h_ hb1;have Y1:Hid (aa ag wc w1):=H0.out.2.1.trans hf;clear hf hb1)|fail)
     go_region_held3 (λW=>W.cell? ⟨bm,1,none⟩=some (I J m.ev.kind)∧W.cell? ⟨bm,2,none⟩=some (I J m.ev.a)∧W.cell? ⟨bm,3,none⟩=some (I J m.ev.b)∧W.cell? ⟨bm,4,none⟩=some (I J m.ev.n)∧W.cell? ⟨bm,5,none⟩=some (V m.ev.s)∧W.cell? ⟨bm,6,none⟩=some (V m.ev.t)∧W.cell? ⟨bm,7,none⟩=some (V m.ev.u)) ((refine HCe.out _ ?_;first|exact Y1.out.drew|exact Y1.out.trans Y2.out|exact Y1.out.trans Y3.out))
      (first
       | (go_at_call 115;refine(KS.out _ Y1.out.drew).mono ?_;rintro e w2 ⟨gs,M,rfl,hs,hf,-⟩;have De:=h_ hs;have Y2:Hid (aa ag w1 w2):=(fR w1).drew.trans hf;clear hs hf)
       | (go_at_call 51;refine(KF.out _ _ _ De.out).mono ?_;rintro e w3 ⟨rfl,hf⟩;have Y3:Hid (aa ag w1 w3):=Y2.out.trans hf;clear hf))
     all_goals
      have hb2:=bT.out.frm Y3.out id;have t0:=hb2.cell 0;have f0:=hb2.frozen 0;simp at t0;have im:=h_ hb2;clear hb2;go_wp2
      exact M3 (want:=330) (w:=w) (dZ.far HA.out (Y1.out.trans Y3.out) im.out) HX.out.1 (im.out.set_ 0 _) ((HM.out.frm (Y1.out.trans Y3.out) id).far (p:=⟨wc.heap.size,0,none⟩) (by have:=HM.out.lt;simp;omega) _) ((HF.out.more (Y1.out.trans Y3.out)).setCell (.inr (by have:=HF.out.size;simp;omega)) _) HX.out.2.1 (λk hk=>HX.out.2.2.1 k (by have:=(Y1.out.trans Y3.out).size;simp at hk;omega)) HX.out.2.2.2.1 HX.out.2.2.2.2.1 JM.out HX.out.2.2.2.2.2
   | true=>
     rw[I0] at M4 KF;have JM:Hid (pA a m=30):=M4.out;have HH2:=h_ I0;clear I0;refine aC (k':=3) λK hK=>?_
     conv in aD _=>whnf
     go_wp2;refine aC (k':=4) λK hK=>?_
     conv in aD _=>whnf
     go_wp2_with (first|(go_at_call 99;refine(KC _).mono ?_;rintro e w1 ⟨rfl,hf⟩;rw[←H0.out.1] at hf;have hb1:=H0.out.2.2.frm hf id;have bT:=h_ hb1;have Y1:Hid (aa ag wc w1):=H0.out.2.1.trans hf;clear hf hb1)|fail)
     go_region_held3 (λW=>W.cell? ⟨bm,1,none⟩=some (I J m.ev.kind)∧W.cell? ⟨bm,2,none⟩=some (I J m.ev.a)∧W.cell? ⟨bm,3,none⟩=some (I J m.ev.b)∧W.cell? ⟨bm,4,none⟩=some (I J m.ev.n)∧W.cell? ⟨bm,5,none⟩=some (V m.ev.s)∧W.cell? ⟨bm,6,none⟩=some (V m.ev.t)∧W.cell? ⟨bm,7,none⟩=some (V m.ev.u)) ((refine HCe.out _ ?_;first|exact Y1.out.drew|exact Y1.out.trans Y2.out|exact Y1.out.trans Y3.out))
      (first
       | (go_at_call 115;refine(KS.out _ Y1.out.drew).mono ?_;rintro e w2 ⟨gs,M,rfl,hs,hf,-⟩;have De:=h_ hs;have Y2:Hid (aa ag w1 w2):=(fR w1).drew.trans hf;clear hs hf)
       | (go_at_call 51;refine(KF.out _ _ _ De.out).mono ?_;rintro e w3 ⟨rfl,hf⟩;have Y3:Hid (aa ag w1 w3):=Y2.out.trans hf;clear hf))
     all_goals
      go_wp2;exact M3 (want:=30) (w:=w) (HA.out.nix (Y1.out.trans Y3.out)) HX.out.1 (bT.out.frm Y3.out id) (HM.out.frm (Y1.out.trans Y3.out) id) (HF.out.more (Y1.out.trans Y3.out)) HX.out.2.1 (λk hk=>HX.out.2.2.1 k (by have:=(Y1.out.trans Y3.out).size;omega)) HX.out.2.2.2.1 HX.out.2.2.2.2.1 JM.out HX.out.2.2.2.2.2
theorem M5{w:World}{g:Nat}{G Gm:Nat→Prop}{Aa Aw:Option Addr}{ca cw:Nat}{a:Au}(h:dZ w g G Aa ca Aw cw a)(bO:lz a)(hm:jE w Gm fo fe it se ts m)(hn:a.all.length≤10000)(hG:∀k,w.heap.size≤k→G k)(ha:bn m.ev.a)(hb:bn m.ev.b)(hp:aN m=false):Calls pQ 61 #[O (some ⟨g,0,none⟩),.agg #[I J m.kind,I J m.ev.kind,I J m.ev.a,I J m.ev.b,I J m.ev.n,V m.ev.s,V m.ev.t,V m.ev.u,I J m.err,I J m.last,I J m.snap,I J m.st.clock,U fo.1 m.st.fols.length fo.2,U fe.1 m.st.fees.length fe.2,U it.1 m.st.itms.length it.2,U se.1 m.st.seas.length se.2,I J m.st.tFol,I J m.st.tFee,I J m.st.tItm,I J m.st.tSea]] w (bi w g G (l8 a m)):=by
 have KP:Hid (∀W,aa ag w W→Calls pQ 63 #[.agg #[I J m.kind,I J m.ev.kind,I J m.ev.a,I J m.ev.b,I J m.ev.n,V m.ev.s,V m.ev.t,V m.ev.u,I J m.err,I J m.last,I J m.snap,I J m.st.clock,U fo.1 m.st.fols.length fo.2,U fe.1 m.st.fees.length fe.2,U it.1 m.st.itms.length it.2,U se.1 m.st.seas.length se.2,I J m.st.tFol,I J m.st.tFee,I J m.st.tItm,I J m.st.tSea]] W λe w'=>e=.returned (.bool (aN m))∧aa ag W w'):=λW hW=>mC (hm.nix hW)
 have HPN:Hid ((aN m=false∨(m.err≠0∧m.last≠0))→l8 a m=none):=λh=>by unfold l8;rw[if_pos h]
 have HA:=h_ h;have HX:=h_ (And.intro bO (And.intro hn (And.intro hG (And.intro ha hb))));clear h bO hm hn hG ha hb;have HN:=h_ (HPN.out (.inl hp));rw[hp] at KP;have HH:=h_ hp;clear hp;obtain⟨W0,hW0⟩:∃W0,W0=w.alloc (.cells #[I J m.kind,I J m.ev.kind,I J m.ev.a,I J m.ev.b,I J m.ev.n,V m.ev.s,V m.ev.t,V m.ev.u,I J m.err,I J m.last,I J m.snap,I J m.st.clock,U fo.1 m.st.fols.length fo.2,U fe.1 m.st.fees.length fe.2,U it.1 m.st.itms.length it.2,U se.1 m.st.seas.length se.2,I J m.st.tFol,I J m.st.tFee,I J m.st.tItm,I J m.st.tSea] 44):=⟨_,rfl⟩;have pu:=h_ hW0;have bI:Hid (aa ag w W0):=by unfold Hid;rw[hW0];exact(fR w).alloc _
 have Fq:Hid (aj W0 w.heap.size 44 #[I J m.kind,I J m.ev.kind,I J m.ev.a,I J m.ev.b,I J m.ev.n,V m.ev.s,V m.ev.t,V m.ev.u,I J m.err,I J m.last,I J m.snap,I J m.st.clock,U fo.1 m.st.fols.length fo.2,U fe.1 m.st.fees.length fe.2,U it.1 m.st.itms.length it.2,U se.1 m.st.seas.length se.2,I J m.st.tFol,I J m.st.tFee,I J m.st.tItm,I J m.st.tSea]):=by unfold Hid;rw[hW0];exact aj.new w _ _
 clear hW0;go_enter Tryz.func61,Tryz.ntmps61;show Code.wp pQ (ai 0 (ae Tryz.f61)) _ _ _
 refine aC (k':=1) λK hK=>?_
 conv in aD _=>whnf
 go_wp2;rw[←pu.out];refine aC (k':=2) λK hK=>?_
 conv in aD _=>whnf
 go_wp2_with (first|(refine bj (l:=[I J m.kind,I J m.ev.kind,I J m.ev.a,I J m.ev.b,I J m.ev.n,V m.ev.s,V m.ev.t,V m.ev.u,I J m.err,I J m.last,I J m.snap,I J m.st.clock,U fo.1 m.st.fols.length fo.2,U fe.1 m.st.fees.length fe.2,U it.1 m.st.itms.length it.2,U se.1 m.st.seas.length se.2,I J m.st.tFol,I J m.st.tFee,I J m.st.tItm,I J m.st.tSea]) Fq.out rfl _ rfl rfl rfl ?_)|(go_at_call 63;refine(KP.out _ bI.out).mono ?_;rintro e w1 ⟨rfl,hf⟩;have HMb:Hid (aj w1 w.heap.size 44 #[I J m.kind,I J m.ev.kind,I J m.ev.a,I J m.ev.b,I J m.ev.n,V m.ev.s,V m.ev.t,V m.ev.u,I J m.err,I J m.last,I J m.snap,I J m.st.clock,U fo.1 m.st.fols.length fo.2,U fe.1 m.st.fees.length fe.2,U it.1 m.st.itms.length it.2,U se.1 m.st.seas.length se.2,I J m.st.tFol,I J m.st.tFee,I J m.st.tItm,I J m.st.tSea]):=Fq.out.frm hf id;have Y1:Hid (aa ag w w1):=bI.out.trans hf;have c8:=(HMb.out.cell 8);have c9:=(HMb.out.cell 9);simp at c8 c9;clear hf)|fail);go_ret;exact⟨by rw[HN.out];rfl,Y1.out.nix,λb hb=>by rw[HN.out] at hb;cases hb⟩
theorem M6{w:World}{g:Nat}{G Gm:Nat→Prop}{Aa Aw:Option Addr}{ca cw:Nat}{a:Au}(h:dZ w g G Aa ca Aw cw a)(bO:lz a)(hm:jE w Gm fo fe it se ts m)(hn:a.all.length≤10000)(hG:∀k,w.heap.size≤k→G k)(ha:bn m.ev.a)(hb:bn m.ev.b)(hp:aN m=true)(he:m.err=0):Calls pQ 61 #[O (some ⟨g,0,none⟩),.agg #[I J m.kind,I J m.ev.kind,I J m.ev.a,I J m.ev.b,I J m.ev.n,V m.ev.s,V m.ev.t,V m.ev.u,I J m.err,I J m.last,I J m.snap,I J m.st.clock,U fo.1 m.st.fols.length fo.2,U fe.1 m.st.fees.length fe.2,U it.1 m.st.itms.length it.2,U se.1 m.st.seas.length se.2,I J m.st.tFol,I J m.st.tFee,I J m.st.tItm,I J m.st.tSea]] w (bi w g G (l8 a m)):=by
 have KP:Hid (∀W,aa ag w W→Calls pQ 63 #[.agg #[I J m.kind,I J m.ev.kind,I J m.ev.a,I J m.ev.b,I J m.ev.n,V m.ev.s,V m.ev.t,V m.ev.u,I J m.err,I J m.last,I J m.snap,I J m.st.clock,U fo.1 m.st.fols.length fo.2,U fe.1 m.st.fees.length fe.2,U it.1 m.st.itms.length it.2,U se.1 m.st.seas.length se.2,I J m.st.tFol,I J m.st.tFee,I J m.st.tItm,I J m.st.tSea]] W λe w'=>e=.returned (.bool (aN m))∧aa ag W w'):=λW hW=>mC (hm.nix hW)
 have HPN:Hid ((aN m=false∨(m.err≠0∧m.last≠0))→l8 a m=none):=λh=>by unfold l8;rw[if_pos h]
 have HA:=h_ h;have HX:=h_ (And.intro bO (And.intro hn (And.intro hG (And.intro ha hb))));clear h bO hm hn hG ha hb;rw[hp] at KP;have e0:(m.err !=0)=false:=by simp[he]
 have HPl:Hid (¬(aN m=false∨(m.err≠0∧m.last≠0))):=by
  rintro(h1|⟨h1,-⟩)
  ·rw[hp] at h1;cases h1
  ·exact h1 he
 have HH:=h_ (And.intro hp he);clear hp he;obtain⟨W0,hW0⟩:∃W0,W0=w.alloc (.cells #[I J m.kind,I J m.ev.kind,I J m.ev.a,I J m.ev.b,I J m.ev.n,V m.ev.s,V m.ev.t,V m.ev.u,I J m.err,I J m.last,I J m.snap,I J m.st.clock,U fo.1 m.st.fols.length fo.2,U fe.1 m.st.fees.length fe.2,U it.1 m.st.itms.length it.2,U se.1 m.st.seas.length se.2,I J m.st.tFol,I J m.st.tFee,I J m.st.tItm,I J m.st.tSea] 44):=⟨_,rfl⟩;have pu:=h_ hW0;have bI:Hid (aa ag w W0):=by unfold Hid;rw[hW0];exact(fR w).alloc _
 have Fq:Hid (aj W0 w.heap.size 44 #[I J m.kind,I J m.ev.kind,I J m.ev.a,I J m.ev.b,I J m.ev.n,V m.ev.s,V m.ev.t,V m.ev.u,I J m.err,I J m.last,I J m.snap,I J m.st.clock,U fo.1 m.st.fols.length fo.2,U fe.1 m.st.fees.length fe.2,U it.1 m.st.itms.length it.2,U se.1 m.st.seas.length se.2,I J m.st.tFol,I J m.st.tFee,I J m.st.tItm,I J m.st.tSea]):=by unfold Hid;rw[hW0];exact aj.new w _ _
 clear hW0;go_enter Tryz.func61,Tryz.ntmps61;show Code.wp pQ (ai 0 (ae Tryz.f61)) _ _ _
 refine aC (k':=1) λK hK=>?_
 conv in aD _=>whnf
 go_wp2;rw[←pu.out];refine aC (k':=2) λK hK=>?_
 conv in aD _=>whnf
 go_wp2_with (first|(refine bj (l:=[I J m.kind,I J m.ev.kind,I J m.ev.a,I J m.ev.b,I J m.ev.n,V m.ev.s,V m.ev.t,V m.ev.u,I J m.err,I J m.last,I J m.snap,I J m.st.clock,U fo.1 m.st.fols.length fo.2,U fe.1 m.st.fees.length fe.2,U it.1 m.st.itms.length it.2,U se.1 m.st.seas.length se.2,I J m.st.tFol,I J m.st.tFee,I J m.st.tItm,I J m.st.tSea]) Fq.out rfl _ rfl rfl rfl ?_)|(go_at_call 63;refine(KP.out _ bI.out).mono ?_;rintro e w1 ⟨rfl,hf⟩;have HMb:Hid (aj w1 w.heap.size 44 #[I J m.kind,I J m.ev.kind,I J m.ev.a,I J m.ev.b,I J m.ev.n,V m.ev.s,V m.ev.t,V m.ev.u,I J m.err,I J m.last,I J m.snap,I J m.st.clock,U fo.1 m.st.fols.length fo.2,U fe.1 m.st.fees.length fe.2,U it.1 m.st.itms.length it.2,U se.1 m.st.seas.length se.2,I J m.st.tFol,I J m.st.tFee,I J m.st.tItm,I J m.st.tSea]):=Fq.out.frm hf id;have Y1:Hid (aa ag w w1):=bI.out.trans hf;have c8:=(HMb.out.cell 8);have c9:=(HMb.out.cell 9);simp at c8 c9;clear hf)|fail);exact LC (w:=w) (HA.out.nix Y1.out) HX.out.1 HMb.out Y1.out.nix HX.out.2.1 (λk hk=>HX.out.2.2.1 k (Nat.le_trans Y1.out.size hk)) HX.out.2.2.2.1 HX.out.2.2.2.2 HPl.out
theorem M7{w:World}{g:Nat}{G Gm:Nat→Prop}{Aa Aw:Option Addr}{ca cw:Nat}{a:Au}(h:dZ w g G Aa ca Aw cw a)(bO:lz a)(hm:jE w Gm fo fe it se ts m)(hn:a.all.length≤10000)(hG:∀k,w.heap.size≤k→G k)(ha:bn m.ev.a)(hb:bn m.ev.b)(hp:aN m=true)(he:¬m.err=0)(hl:m.last=0):Calls pQ 61 #[O (some ⟨g,0,none⟩),.agg #[I J m.kind,I J m.ev.kind,I J m.ev.a,I J m.ev.b,I J m.ev.n,V m.ev.s,V m.ev.t,V m.ev.u,I J m.err,I J m.last,I J m.snap,I J m.st.clock,U fo.1 m.st.fols.length fo.2,U fe.1 m.st.fees.length fe.2,U it.1 m.st.itms.length it.2,U se.1 m.st.seas.length se.2,I J m.st.tFol,I J m.st.tFee,I J m.st.tItm,I J m.st.tSea]] w (bi w g G (l8 a m)):=by
 have KP:Hid (∀W,aa ag w W→Calls pQ 63 #[.agg #[I J m.kind,I J m.ev.kind,I J m.ev.a,I J m.ev.b,I J m.ev.n,V m.ev.s,V m.ev.t,V m.ev.u,I J m.err,I J m.last,I J m.snap,I J m.st.clock,U fo.1 m.st.fols.length fo.2,U fe.1 m.st.fees.length fe.2,U it.1 m.st.itms.length it.2,U se.1 m.st.seas.length se.2,I J m.st.tFol,I J m.st.tFee,I J m.st.tItm,I J m.st.tSea]] W λe w'=>e=.returned (.bool (aN m))∧aa ag W w'):=λW hW=>mC (hm.nix hW)
 have HPN:Hid ((aN m=false∨(m.err≠0∧m.last≠0))→l8 a m=none):=λh=>by unfold l8;rw[if_pos h]
 have HA:=h_ h;have HX:=h_ (And.intro bO (And.intro hn (And.intro hG (And.intro ha hb))));clear h bO hm hn hG ha hb;rw[hp] at KP;have e0:(m.err !=0)=true:=by simp[he]
 have e1:(m.last !=0)=false:=by simp[hl]
 have HPl:Hid (¬(aN m=false∨(m.err≠0∧m.last≠0))):=by
  rintro(h1|⟨-,h1⟩)
  ·rw[hp] at h1;cases h1
  ·exact h1 hl
 have HH:=h_ (And.intro hp hl);clear hp he hl;obtain⟨W0,hW0⟩:∃W0,W0=w.alloc (.cells #[I J m.kind,I J m.ev.kind,I J m.ev.a,I J m.ev.b,I J m.ev.n,V m.ev.s,V m.ev.t,V m.ev.u,I J m.err,I J m.last,I J m.snap,I J m.st.clock,U fo.1 m.st.fols.length fo.2,U fe.1 m.st.fees.length fe.2,U it.1 m.st.itms.length it.2,U se.1 m.st.seas.length se.2,I J m.st.tFol,I J m.st.tFee,I J m.st.tItm,I J m.st.tSea] 44):=⟨_,rfl⟩;have pu:=h_ hW0;have bI:Hid (aa ag w W0):=by unfold Hid;rw[hW0];exact(fR w).alloc _
 have Fq:Hid (aj W0 w.heap.size 44 #[I J m.kind,I J m.ev.kind,I J m.ev.a,I J m.ev.b,I J m.ev.n,V m.ev.s,V m.ev.t,V m.ev.u,I J m.err,I J m.last,I J m.snap,I J m.st.clock,U fo.1 m.st.fols.length fo.2,U fe.1 m.st.fees.length fe.2,U it.1 m.st.itms.length it.2,U se.1 m.st.seas.length se.2,I J m.st.tFol,I J m.st.tFee,I J m.st.tItm,I J m.st.tSea]):=by unfold Hid;rw[hW0];exact aj.new w _ _
 clear hW0;go_enter Tryz.func61,Tryz.ntmps61;show Code.wp pQ (ai 0 (ae Tryz.f61)) _ _ _
 refine aC (k':=1) λK hK=>?_
 conv in aD _=>whnf
 go_wp2;rw[←pu.out];refine aC (k':=2) λK hK=>?_
 conv in aD _=>whnf
 go_wp2_with (first|(refine bj (l:=[I J m.kind,I J m.ev.kind,I J m.ev.a,I J m.ev.b,I J m.ev.n,V m.ev.s,V m.ev.t,V m.ev.u,I J m.err,I J m.last,I J m.snap,I J m.st.clock,U fo.1 m.st.fols.length fo.2,U fe.1 m.st.fees.length fe.2,U it.1 m.st.itms.length it.2,U se.1 m.st.seas.length se.2,I J m.st.tFol,I J m.st.tFee,I J m.st.tItm,I J m.st.tSea]) Fq.out rfl _ rfl rfl rfl ?_)|(go_at_call 63;refine(KP.out _ bI.out).mono ?_;rintro e w1 ⟨rfl,hf⟩;have HMb:Hid (aj w1 w.heap.size 44 #[I J m.kind,I J m.ev.kind,I J m.ev.a,I J m.ev.b,I J m.ev.n,V m.ev.s,V m.ev.t,V m.ev.u,I J m.err,I J m.last,I J m.snap,I J m.st.clock,U fo.1 m.st.fols.length fo.2,U fe.1 m.st.fees.length fe.2,U it.1 m.st.itms.length it.2,U se.1 m.st.seas.length se.2,I J m.st.tFol,I J m.st.tFee,I J m.st.tItm,I J m.st.tSea]):=Fq.out.frm hf id;have Y1:Hid (aa ag w w1):=bI.out.trans hf;have c8:=(HMb.out.cell 8);have c9:=(HMb.out.cell 9);simp at c8 c9;clear hf)|fail);exact LC (w:=w) (HA.out.nix Y1.out) HX.out.1 HMb.out Y1.out.nix HX.out.2.1 (λk hk=>HX.out.2.2.1 k (Nat.le_trans Y1.out.size hk)) HX.out.2.2.2.1 HX.out.2.2.2.2 HPl.out
theorem M8{w:World}{g:Nat}{G Gm:Nat→Prop}{Aa Aw:Option Addr}{ca cw:Nat}{a:Au}(h:dZ w g G Aa ca Aw cw a)(bO:lz a)(hm:jE w Gm fo fe it se ts m)(hn:a.all.length≤10000)(hG:∀k,w.heap.size≤k→G k)(ha:bn m.ev.a)(hb:bn m.ev.b)(hp:aN m=true)(he:¬m.err=0)(hl:¬m.last=0):Calls pQ 61 #[O (some ⟨g,0,none⟩),.agg #[I J m.kind,I J m.ev.kind,I J m.ev.a,I J m.ev.b,I J m.ev.n,V m.ev.s,V m.ev.t,V m.ev.u,I J m.err,I J m.last,I J m.snap,I J m.st.clock,U fo.1 m.st.fols.length fo.2,U fe.1 m.st.fees.length fe.2,U it.1 m.st.itms.length it.2,U se.1 m.st.seas.length se.2,I J m.st.tFol,I J m.st.tFee,I J m.st.tItm,I J m.st.tSea]] w (bi w g G (l8 a m)):=by
 have KP:Hid (∀W,aa ag w W→Calls pQ 63 #[.agg #[I J m.kind,I J m.ev.kind,I J m.ev.a,I J m.ev.b,I J m.ev.n,V m.ev.s,V m.ev.t,V m.ev.u,I J m.err,I J m.last,I J m.snap,I J m.st.clock,U fo.1 m.st.fols.length fo.2,U fe.1 m.st.fees.length fe.2,U it.1 m.st.itms.length it.2,U se.1 m.st.seas.length se.2,I J m.st.tFol,I J m.st.tFee,I J m.st.tItm,I J m.st.tSea]] W λe w'=>e=.returned (.bool (aN m))∧aa ag W w'):=λW hW=>mC (hm.nix hW)
 have HPN:Hid ((aN m=false∨(m.err≠0∧m.last≠0))→l8 a m=none):=λh=>by unfold l8;rw[if_pos h]
 have HA:=h_ h;have HX:=h_ (And.intro bO (And.intro hn (And.intro hG (And.intro ha hb))));clear h bO hm hn hG ha hb;rw[hp] at KP;have e0:(m.err !=0)=true:=by simp[he]
 have e1:(m.last !=0)=true:=by simp[hl]
 have HN:=h_ (HPN.out (.inr ⟨he,hl⟩));have HH:=h_ hp;clear hp he hl;obtain⟨W0,hW0⟩:∃W0,W0=w.alloc (.cells #[I J m.kind,I J m.ev.kind,I J m.ev.a,I J m.ev.b,I J m.ev.n,V m.ev.s,V m.ev.t,V m.ev.u,I J m.err,I J m.last,I J m.snap,I J m.st.clock,U fo.1 m.st.fols.length fo.2,U fe.1 m.st.fees.length fe.2,U it.1 m.st.itms.length it.2,U se.1 m.st.seas.length se.2,I J m.st.tFol,I J m.st.tFee,I J m.st.tItm,I J m.st.tSea] 44):=⟨_,rfl⟩;have pu:=h_ hW0;have bI:Hid (aa ag w W0):=by unfold Hid;rw[hW0];exact(fR w).alloc _
 have Fq:Hid (aj W0 w.heap.size 44 #[I J m.kind,I J m.ev.kind,I J m.ev.a,I J m.ev.b,I J m.ev.n,V m.ev.s,V m.ev.t,V m.ev.u,I J m.err,I J m.last,I J m.snap,I J m.st.clock,U fo.1 m.st.fols.length fo.2,U fe.1 m.st.fees.length fe.2,U it.1 m.st.itms.length it.2,U se.1 m.st.seas.length se.2,I J m.st.tFol,I J m.st.tFee,I J m.st.tItm,I J m.st.tSea]):=by unfold Hid;rw[hW0];exact aj.new w _ _
 clear hW0;go_enter Tryz.func61,Tryz.ntmps61;show Code.wp pQ (ai 0 (ae Tryz.f61)) _ _ _
 refine aC (k':=1) λK hK=>?_
 conv in aD _=>whnf
 go_wp2;rw[←pu.out];refine aC (k':=2) λK hK=>?_
 conv in aD _=>whnf
 go_wp2_with (first|(refine bj (l:=[I J m.kind,I J m.ev.kind,I J m.ev.a,I J m.ev.b,I J m.ev.n,V m.ev.s,V m.ev.t,V m.ev.u,I J m.err,I J m.last,I J m.snap,I J m.st.clock,U fo.1 m.st.fols.length fo.2,U fe.1 m.st.fees.length fe.2,U it.1 m.st.itms.length it.2,U se.1 m.st.seas.length se.2,I J m.st.tFol,I J m.st.tFee,I J m.st.tItm,I J m.st.tSea]) Fq.out rfl _ rfl rfl rfl ?_)|(go_at_call 63;refine(KP.out _ bI.out).mono ?_;rintro e w1 ⟨rfl,hf⟩;have HMb:Hid (aj w1 w.heap.size 44 #[I J m.kind,I J m.ev.kind,I J m.ev.a,I J m.ev.b,I J m.ev.n,V m.ev.s,V m.ev.t,V m.ev.u,I J m.err,I J m.last,I J m.snap,I J m.st.clock,U fo.1 m.st.fols.length fo.2,U fe.1 m.st.fees.length fe.2,U it.1 m.st.itms.length it.2,U se.1 m.st.seas.length se.2,I J m.st.tFol,I J m.st.tFee,I J m.st.tItm,I J m.st.tSea]):=Fq.out.frm hf id;have Y1:Hid (aa ag w w1):=bI.out.trans hf;have c8:=(HMb.out.cell 8);have c9:=(HMb.out.cell 9);simp at c8 c9;clear hf)|fail);go_ret;exact⟨by rw[HN.out];rfl,Y1.out.nix,λb hb=>by rw[HN.out] at hb;cases hb⟩
theorem IL{w:World}{g:Nat}{G Gm:Nat→Prop}{Aa Aw:Option Addr}{ca cw:Nat}{a:Au}(h:dZ w g G Aa ca Aw cw a)(bO:lz a)(hm:jE w Gm fo fe it se ts m)(hn:a.all.length≤10000)(hG:∀k,w.heap.size≤k→G k)(ha:bn m.ev.a)(hb:bn m.ev.b):Calls pQ 61 #[O (some ⟨g,0,none⟩),.agg #[I J m.kind,I J m.ev.kind,I J m.ev.a,I J m.ev.b,I J m.ev.n,V m.ev.s,V m.ev.t,V m.ev.u,I J m.err,I J m.last,I J m.snap,I J m.st.clock,U fo.1 m.st.fols.length fo.2,U fe.1 m.st.fees.length fe.2,U it.1 m.st.itms.length it.2,U se.1 m.st.seas.length se.2,I J m.st.tFol,I J m.st.tFee,I J m.st.tItm,I J m.st.tSea]] w (bi w g G (l8 a m)):=by
 cases hp:aN m with
 | false=>exact M5 h bO hm hn hG ha hb hp
 | true=>
   by_cases he:m.err=0
   ·exact M6 h bO hm hn hG ha hb hp he
   ·by_cases hl:m.last=0
    ·exact M7 h bO hm hn hG ha hb hp he hl
    ·exact M8 h bO hm hn hG ha hb hp he hl
end Go.Proofs.YtaecjmiobllhmaaGreat
