/- Words. -/
import Derived.Test.YtaecjmiobllhmaaGreatGp82
import Derived.Deep.MidRow
import Derived.Test.YtaecjmiobllhmaaGreatGp13
import Derived.Deep.RegionHeld3
import Derived.Test.YtaecjmiobllhmaaGreatGp19
import Derived.IntWalk
set_option linter.unusedVariables false
set_option linter.unusedSimpArgs false
set_option maxRecDepth 100000
set_option maxHeartbeats 16000000
namespace Go.Proofs.YtaecjmiobllhmaaGreat
open Go.RowKit Go.Lib
section
def StepOut(w:World)(g:Nat)(G:Nat→Prop)(r:Option Au)(e:Ending)(w':World):Prop:=
 e=.returned (.bool r.isSome)∧Frm (·=g) w w'∧∀b,r=some b→∃Aa ca Aw cw,AuAt w' g G Aa ca Aw cw b
def PutOut(w:World)(g:Nat)(G:Nat→Prop)(ok:Bool)(b:Au)(e:Ending)(w':World):Prop:=
 e=.returned (.bool ok)∧Frm (·=g) w w'∧(ok=true→∃Aa ca Aw cw,AuAt w' g G Aa ca Aw cw b)
theorem StepOut.of{w w':World}{g:Nat}{G:Nat→Prop}{e:Ending}{b:Au}{ws:List Wd}{ok:Bool}(hk:ok=decide (¬ws=[]))(h:e=.returned (.bool ok)∧Frm (·=g) w w'∧(ok=true→∃Aa ca Aw cw,AuAt w' g G Aa ca Aw cw b)):StepOut w g G (if ws=[] then none else some b) e w':=by
 subst hk;obtain⟨h1,h2,h3⟩:=h
 by_cases hc:ws=[]
 ·rw[if_pos hc]
  exact⟨by rw[h1,decide_eq_false (λh=>h hc)];rfl,h2,λb hb=>by cases hb⟩
 ·rw[if_neg hc]
  refine⟨by rw[h1,decide_eq_true hc];rfl,h2,λb' hb=>?_⟩;injection hb with hb;subst hb;exact h3 (decide_eq_true hc)
theorem bodyPost_up{P:Program}{f:Func}{R R':Ending→World→Prop}(h:∀e w,R e w→R' e w):∀ex a w,bodyPost P f R ex a w→bodyPost P f R' ex a w:=by
 intro ex a w hb
 cases ex with
 | normal=>obtain⟨h1,v,h2,h3⟩:=hb;exact⟨h1,v,h2,h _ _ h3⟩
 | ret=>obtain⟨h1,v,h2,h3⟩:=hb;exact⟨h1,v,h2,h _ _ h3⟩
 | panic c=>obtain⟨h1,h2⟩:=hb;exact⟨h1,h _ _ h2⟩
 | outgrown=>exact h _ _ hb
 | _=>exact hb
section
variable {w W:World} {g:Nat} {G:Nat→Prop} {Aa Aw:Option Addr} {ca cw:Nat} {a:Au}
theorem AuAt.lt(h:AuAt w g G Aa ca Aw cw a):g<w.heap.size:=h.blk.lt
theorem frmG(hf:Frm Nix w W)(i:Nat)(v:Value):Frm (·=g) w (W.setCell ⟨g,i,none⟩ v):=Frm.setCell (F:=(·=g)) (p:=⟨g,i,none⟩) hf.nix (.inl rfl) v
theorem AuAt.setWs(h:AuAt w g G Aa ca Aw cw a)(hG:∀k,w.heap.size≤k→G k){A:Option Addr}{c:Nat}{ws:List Wd}(hr:RowK 68 3 w W (.slice A ws.length c) ws.length (ws.flatMap Wd.cells)):
  AuAt (W.setCell ⟨g,2,none⟩ (.slice A ws.length c)) g G Aa ca A c {a with ws:=ws}:=by
 have hf:=hr.frm;have fs:Frm (·=g) W (W.setCell ⟨g,2,none⟩ (.slice A ws.length c)):=(Frm.refl (·=g) W).setCell (.inl rfl) _;have hb:=(h.blk.frm hf id).set_ 2 (.slice A ws.length c);exact⟨hb,(h.all.nix hf).frm fs λk hk=>h.off k hk,(hr.sl.mono λk hk=>hG k hk).frm fs λk hk=>h.off k hk,h.off,h.num⟩
theorem AuAt.setAll(h:AuAt w g G Aa ca Aw cw a)(hG:∀k,w.heap.size≤k→G k){A:Option Addr}{c:Nat}{l:List Ev}(hr:RowK 42 7 w W (.slice A l.length c) l.length (l.flatMap Ev.cells))(hn:∀e∈l,I64 e.a∧I64 e.b):
  AuAt (W.setCell ⟨g,0,none⟩ (.slice A l.length c)) g G A c Aw cw {a with all:=l}:=by
 have hf:=hr.frm;have fs:Frm (·=g) W (W.setCell ⟨g,0,none⟩ (.slice A l.length c)):=(Frm.refl (·=g) W).setCell (.inl rfl) _;have hb:=(h.blk.frm hf id).set_ 0 (.slice A l.length c);exact⟨hb,(hr.sl.mono λk hk=>hG k hk).frm fs λk hk=>h.off k hk,(h.ws.nix hf).frm fs λk hk=>h.off k hk,h.off,hn⟩
theorem AuAt.far(h:AuAt w g G Aa ca Aw cw a)(hf:Frm Nix w W){b:Nat}{t:TypeId}{cs:Array Value}(hb:Blk W b t cs){v:Value}(hw:w.heap.size≤b:=by simp):AuAt (W.setCell ⟨b,0,none⟩ v) g G Aa ca Aw cw a:=by
 have fs:Frm (·=b) W (W.setCell ⟨b,0,none⟩ v):=(Frm.refl (·=b) W).setCell (.inl rfl) _;have hz:=h.blk.lt;have g1:=(h.nix hf);have oa:∀k,G k∧k<w.heap.size→¬k=b:=λk hk e=>by have:=hk.2;omega
 exact⟨g1.blk.far (p:=⟨b,0,none⟩) (by simp;omega) _,((h.all.cOld.nix hf).frm fs oa).mono λk hk=>hk.1,((h.ws.cOld.nix hf).frm fs oa).mono λk hk=>hk.1,h.off,h.num⟩
theorem AuAt.setLast(h:AuAt w g G Aa ca Aw cw a)(k:Nat):AuAt (w.setCell ⟨g,1,none⟩ (.int .i64 k)) g G Aa ca Aw cw {a with last:=k}:=by
 have fs:Frm (·=g) w (w.setCell ⟨g,1,none⟩ (.int .i64 k)):=(Frm.refl (·=g) w).setCell (.inl rfl) _;have hb:=h.blk.set_ 1 (.int .i64 k);exact⟨hb,h.all.frm fs λk hk=>h.off k hk,h.ws.frm fs λk hk=>h.off k hk,h.off,h.num⟩
theorem SlIn.shut{s n k:Nat}{v:Sl}{xs:List Value}(h:SlIn w G s v n xs)(hk:k≤n):SlIn w G s (v.1,k) k (xs.take (k * s)):=by
 have h1:=h.first hk
 exact⟨h1.rd,λe=>by have:=h.nil e;have:=h.cap;simp only;omega,Nat.le_refl _,Nat.le_trans hk (Nat.le_trans h.cap h.max)⟩
theorem AuAt.setBoth(h:AuAt w g G Aa ca Aw cw a){k:Nat}(hk:k≤a.all.length):AuAt ((w.setCell ⟨g,0,none⟩ (.slice Aa k k)).setCell ⟨g,1,none⟩ (.int .i64 k)) g G Aa k Aw cw {a with all:=a.all.take k,last:=k}:=by
 have fs:Frm (·=g) w ((w.setCell ⟨g,0,none⟩ (.slice Aa k k)).setCell ⟨g,1,none⟩ (.int .i64 k)):=((Frm.refl (·=g) w).setCell (.inl rfl) _).setCell (.inl rfl) _;have hb:=(h.blk.set_ 0 (.slice Aa k k)).set_ 1 (.int .i64 k);have e:(a.all.take k).length=k:=by rw[List.length_take];omega
 have q:=h.all.shut hk;rw[flat_take Ev.clen] at q;exact⟨by rw[e];exact hb,by rw[e];exact q.frm fs λk hk=>h.off k hk,h.ws.frm fs λk hk=>h.off k hk,h.off,λe he=>h.num e (List.mem_of_mem_take he)⟩
theorem evs_oneA(l:List Ev):∀u∈l.flatMap Ev.cells,u.oneCell'=true:=λu hu=>by
 obtain⟨e,-,he⟩:=List.mem_flatMap.1 hu;simp[Ev.cells] at he;rcases he with rfl | rfl | rfl | rfl | rfl | rfl | rfl<;>rfl
end
theorem mvInfo:(Tryz.prog.info? 44).map (·.size)=some 20:=by kernel_rfl
theorem mvListO{ops:Array Oper}{rest:List Oper}{op:Oper}{ac:Act}{W:World}{Q:Exit→Act→World→Prop}{b o:Nat}{l:List Value}(h:∀j v,l[j]? =some v→W.cell? ⟨b,o+j,none⟩=some v)(hl:l.length=20)(x:Operand)
  (hw:Region.wanted op (yielded ops ac.tmps)=true) (ho:op.op=.load 44 x) (hx:ac.eval x=.pointer (some ⟨b,o,none⟩)) (hk:wpList Tryz.prog ops Q rest (ac.put op.dst (.agg l.toArray)) W):wpList Tryz.prog ops Q (op::rest) ac W:=
 wpList_step λK hK=>by
  rw[hw,if_pos rfl];exact wp_load_mid 44 x ho b o hx l _ h Tryz.underlying44 rfl (by rw[hl];exact mvInfo) (hK _ _ hk)
theorem mvList{ops:Array Oper}{rest:List Oper}{op:Oper}{ac:Act}{W:World}{Q:Exit→Act→World→Prop}{b:Nat}{l:List Value}(hb:Blk W b 44 l.toArray)(hl:l.length=20)(x:Operand)
  (hw:Region.wanted op (yielded ops ac.tmps)=true) (ho:op.op=.load 44 x) (hx:ac.eval x=.pointer (some ⟨b,0,none⟩)) (hk:wpList Tryz.prog ops Q rest (ac.put op.dst (.agg l.toArray)) W):wpList Tryz.prog ops Q (op::rest) ac W:=
 mvListO (λj v hv=>by rw[Nat.zero_add,hb.cell];simpa using hv) hl x hw ho hx hk
theorem evClone_any{w:World}{G:Nat→Prop}{A:Option Addr}{n c:Nat}{xs:List Value}(hv:SlIn w G 7 (A,c) n xs)(h1:∀u∈xs,u.oneCell'=true)(hn:n≤100000):
  Calls Tryz.prog 120 #[.slice A n c] w λe w'=>∃A' c',e=.returned (.slice A' n c')∧RowK 42 7 w w' (.slice A' n c') n xs:=by
 have q22:∀(W:World) (a:Option Addr) (n c n' c':Nat),(binOp .eql 30 (.slice a n c) (.slice none n' c')).run Tryz.prog W=.ok (.bool a.isNone) W:=λW a n c n' c'=>Lib.run_eql_slice_nil W _ _ a n c n' c' Tryz.underlying30
 cases A with
 | none=>
   have hc:c=0:=hv.nil rfl;have h0:n=0:=by have:=hv.cap;simp only at this;omega
   have hx:xs=[]:=List.eq_nil_of_length_eq_zero (by have:=hv.rd.1;omega);subst hx;subst h0;subst hc;clear hv h1 hn;go_enter Tryz.func120,Tryz.ntmps120;go_wp2;go_ret
   exact⟨none,0,rfl,RowK.nil_ _ _ (Frm.refl _ _)⟩
 | some ad=>
   obtain⟨v',w2,hrun,hrow,-,-⟩:=(RowK.empty 42 7 (fR w)).app elemEv c (hv.nix ((fR w).alloc _)).rd h1 (by unfold maxLen;omega) (by omega);simp only[Nat.zero_add,List.nil_append] at hrow;obtain⟨A',c',rfl,-⟩:=hrow.shape;have HR:=h_ hrow;clear hv h1 hn hrow;go_enter Tryz.func120,Tryz.ntmps120;go_wp2_with (at_builtin;refine wpList_append_run hrun rfl _ _ rfl rfl rfl ?_);go_ret;exact⟨A',c',rfl,HR.out⟩
end
theorem putR12{Q:Exit→Act→World→Prop}{wa:World}{g bm k n ca:Nat}{Aa:Option Addr}{c2:Value}{rows:List Value}{ek ea eb en:Int}{es et eu:ByteArray}
  (hb:Blk wa g 71 #[.slice Aa n ca,.int .i64 k,c2]) (hS:∀W,Frm Nix wa W→W.cell? ⟨g,1,none⟩=some (.int .i64 k)∧W.cell? ⟨bm,1,none⟩=some (.int .i64 ek)∧W.cell? ⟨bm,2,none⟩=some (.int .i64 ea)∧W.cell? ⟨bm,3,none⟩=some (.int .i64 eb)∧W.cell? ⟨bm,4,none⟩=some (.int .i64 en)∧W.cell? ⟨bm,5,none⟩=some (.string es)∧W.cell? ⟨bm,6,none⟩=some (.string et)∧W.cell? ⟨bm,7,none⟩=some (.string eu)) (hk:k≤n) (hnc:n≤ca) (hcm:ca≤maxLen) (hk5:k≤100000)
  (hX:∀u∈rows,u.oneCell'=true) (KC:∀W,Frm Nix wa W→Calls Tryz.prog 120 #[.slice Aa k ca] W λe w'=>∃A' c',e=.returned (.slice A' k c')∧RowK 42 7 W w' (.slice A' k c') k rows)
  {u1 u2 u4 u5 u6 u7 u8 u9 u10 u11 u12 u13 u14 u15 u16 u17 u18 u19 u20 u21 u22 u23 u24 u25 u26 u27 u28 u29 u30 u31 u32 u33 u34 u35 u36 u37 u38 u39 u40 u41 u42 u43 u44 u45 u46 u47 u48 u49 u50 u51 u52 u53 u54 u55 u56 u57 u58 u59 u60 u61 u62 u63 u64 u65 u66 u67 u68 u69 u70 u71 u72 u73 u74 u75 u76 u77 u78 u79 u80 u81 u82 u83 u84 u85 u86 u87 u88 u89 u90 u91:Value} (hP:∀(e:_) (a:Act) (i:Nat) (v:Value) (w:World),Q (.panic e) (a.put (some i) v) w→Q (.panic e) a w) (hQ:∀(wc:World) (A:Option Addr) (c:Nat) (z73 z79 z82:Value),RowK 42 7 wa wc (.slice A (k+1) c) (k+1) (rows++[.int .i64 ek,.int .i64 ea,.int .i64 eb,.int .i64 en,.string es,.string et,.string eu])→Q .normal ⟨#[.pointer (some ⟨g,0,none⟩),u1,u2,.pointer (some ⟨bm,0,none⟩),u4,u5,u6,u7,u8,u9,u10,u11,u12,u13,u14,u15,u16,u17,u18,u19,u20,u21,u22,u23,u24,u25,u26,u27,u28,u29,u30,u31,u32,u33,u34,u35,u36,u37,u38,u39,u40,u41,u42,u43,u44,u45,u46,u47,u48,u49,u50,u51,u52,u53,u54,u55,u56,u57,u58,u59,u60,u61,u62,u63,u64,u65,u66,u67,u68,.pointer (some ⟨g,0,none⟩),.pointer (some ⟨g,0,none⟩),.pointer (some ⟨g,0,none⟩),.pointer (some ⟨g,0,none⟩),z73,.pointer (some ⟨g,0,none⟩),.pointer (some ⟨g,0,none⟩),.pointer (some ⟨g,1,none⟩),.int .i64 k,.slice Aa k ca,z79,.pointer (some ⟨bm,1,none⟩),.agg #[.int .i64 ek,.int .i64 ea,.int .i64 eb,.int .i64 en,.string es,.string et,.string eu],z82,.slice A (k+1) c,.pointer (some ⟨g,0,none⟩),.pointer (some ⟨g,0,none⟩),u86,u87,u88,u89,u90,u91],[]⟩ (wc.setCell ⟨g,0,none⟩ (.slice A (k+1) c))):
  Code.wp Tryz.prog (thenC (sndC (hdC (peel 7 (bodyOf Tryz.f61))))) Q ⟨#[.pointer (some ⟨g,0,none⟩),u1,u2,.pointer (some ⟨bm,0,none⟩),u4,u5,u6,u7,u8,u9,u10,u11,u12,u13,u14,u15,u16,u17,u18,u19,u20,u21,u22,u23,u24,u25,u26,u27,u28,u29,u30,u31,u32,u33,u34,u35,u36,u37,u38,u39,u40,u41,u42,u43,u44,u45,u46,u47,u48,u49,u50,u51,u52,u53,u54,u55,u56,u57,u58,u59,u60,u61,u62,u63,u64,u65,u66,u67,u68,u69,u70,u71,u72,u73,u74,u75,u76,u77,u78,u79,u80,u81,u82,u83,u84,u85,u86,u87,u88,u89,u90,u91],[]⟩ wa:=by
 obtain⟨rows2,hrows2⟩:∃rows2,rows++[.int .i64 ek,.int .i64 ea,.int .i64 eb,.int .i64 en,.string es,.string et,.string eu]=rows2:=⟨_,rfl⟩;rw[hrows2] at hQ;have HCS:=h_ hS
 have HX1:Hid (∀u∈([.int .i64 ek,.int .i64 ea,.int .i64 eb,.int .i64 en,.string es,.string et,.string eu]:List Value),u.oneCell'=true):=λu hu=>by
  simp at hu;rcases hu with rfl | rfl | rfl | rfl | rfl | rfl | rfl<;>rfl
 have HPu:Hid (∀w1 A' c',RowK 42 7 wa w1 (.slice A' k c') k rows→∃A4 c4 w4,(∀ty,(Builtin.append_ #[30,30] ty #[.slice A' k c',.slice (some ⟨w1.heap.size,0,none⟩) 1 1]).run Tryz.prog (w1.alloc (.cells #[.int .i64 ek,.int .i64 ea,.int .i64 eb,.int .i64 en,.string es,.string et,.string eu] 42))=.ok (.slice A4 (k+1) c4) w4)∧RowK 42 7 wa w4 (.slice A4 (k+1) c4) (k+1) rows2):=λw1 A' c' h=>by
  obtain⟨v4,w4,r4,h4,-,-⟩:=h.push elemEv [.int .i64 ek,.int .i64 ea,.int .i64 eb,.int .i64 en,.string es,.string et,.string eu] rfl HX1.out (by unfold maxLen;omega) (by omega);obtain⟨A4,c4,rfl,-⟩:=h4.shape;rw[hrows2] at h4;exact⟨A4,c4,w4,r4,h4⟩
 have HPb:Hid (∀w1 b A' c',RowK 42 7 wa w1 (.slice A' k c') k rows→Blk w1 b 42 #[.int .i64 ek,.int .i64 ea,.int .i64 eb,.int .i64 en,.string es,.string et,.string eu]→∃A4 c4 w4,(∀ty,(Builtin.append_ #[30,30] ty #[.slice A' k c',.slice (some ⟨b,0,none⟩) 1 1]).run Tryz.prog w1=.ok (.slice A4 (k+1) c4) w4)∧RowK 42 7 wa w4 (.slice A4 (k+1) c4) (k+1) rows2):=λw1 b A' c' h hb=>by
  have hrd:Rd w1 (λ_=>True) 7 (some ⟨b,0,none⟩) 1 [.int .i64 ek,.int .i64 ea,.int .i64 eb,.int .i64 en,.string es,.string et,.string eu]:=⟨rfl,λ_=>⟨_,rfl,trivial,hb.lt,λj u hu=>by rw[Addr.add_lit,Nat.zero_add,hb.cell];simpa using hu⟩⟩;obtain⟨v4,w4,r4,h4,-,-⟩:=h.app elemEv 1 hrd HX1.out (by unfold maxLen;omega) (by omega);obtain⟨A4,c4,rfl,-⟩:=h4.shape;rw[hrows2] at h4;exact⟨A4,c4,w4,r4,h4⟩
 have cx:∀{W:World},Frm Nix wa W→W.cell? ⟨g,0,none⟩=some (.slice Aa n ca):=λhW=>((hb.frm hW id).cell 0).trans rfl
 have cf:∀{W:World},Frm Nix wa W→W.frozen? ⟨g,0,none⟩=false:=λhW=>(hb.frm hW id).frozen 0
 have HST:Hid (∀(W:World) (v:Value),(W.cell? ⟨g,1,none⟩=some (.int .i64 k)∧W.cell? ⟨bm,1,none⟩=some (.int .i64 ek)∧W.cell? ⟨bm,2,none⟩=some (.int .i64 ea)∧W.cell? ⟨bm,3,none⟩=some (.int .i64 eb)∧W.cell? ⟨bm,4,none⟩=some (.int .i64 en)∧W.cell? ⟨bm,5,none⟩=some (.string es)∧W.cell? ⟨bm,6,none⟩=some (.string et)∧W.cell? ⟨bm,7,none⟩=some (.string eu))→(λW:World=>W.cell? ⟨g,1,none⟩=some (.int .i64 k)∧W.cell? ⟨bm,1,none⟩=some (.int .i64 ek)∧W.cell? ⟨bm,2,none⟩=some (.int .i64 ea)∧W.cell? ⟨bm,3,none⟩=some (.int .i64 eb)∧W.cell? ⟨bm,4,none⟩=some (.int .i64 en)∧W.cell? ⟨bm,5,none⟩=some (.string es)∧W.cell? ⟨bm,6,none⟩=some (.string et)∧W.cell? ⟨bm,7,none⟩=some (.string eu)) (W.setCell ⟨g,0,none⟩ v)):=by
  rintro W v ⟨q0,q1,q2,q3,q4,q5,q6,q7⟩
  have hne:bm≠g:=λe=>by
   have h5:=(HCS.out wa (Frm.refl _ _)).2.2.2.1;rw[e] at h5;have h6:=hb.cell 3;rw[h5] at h6
   cases h6
  exact⟨(World.cell?_setCell_other _ _ _ _ (by simp)).trans q0,(World.cell?_setCell_far _ _ _ _ (Ne.symm hne)).trans q1,(World.cell?_setCell_far _ _ _ _ (Ne.symm hne)).trans q2,(World.cell?_setCell_far _ _ _ _ (Ne.symm hne)).trans q3,(World.cell?_setCell_far _ _ _ _ (Ne.symm hne)).trans q4,(World.cell?_setCell_far _ _ _ _ (Ne.symm hne)).trans q5,(World.cell?_setCell_far _ _ _ _ (Ne.symm hne)).trans q6,(World.cell?_setCell_far _ _ _ _ (Ne.symm hne)).trans q7⟩
 have R0:=fR wa;have HR0:=h_ R0;have HCX:Hid (∀W,Frm Nix wa W→W.cell? ⟨g,0,none⟩=some (.slice Aa n ca)∧W.frozen? ⟨g,0,none⟩=false):=λW h=>⟨cx h,cf h⟩
 have p1:=cx R0;have p2:=cx (R0.alloc (.cells #[.int .i64 ek,.int .i64 ea,.int .i64 eb,.int .i64 en,.string es,.string et,.string eu] 42));have hI0:(0:Int)≤(k:Int):=Int.natCast_nonneg _;have hI1:(k:Int)≤(ca:Int):=by omega
 have hI2:(k:Int)≤(n:Int):=by omega
 obtain⟨e0,e1,e2,e3,e4,e5,e6,e7⟩:=hS wa R0;have HQ:=h_ hQ;have HP:=h_ hP;have HKC:=h_ KC;clear hb hS cx cf R0 hQ hP hX KC hrows2 HX1;simp only[hdC,sndC,thenC,elseC,inC,peel,bodyOf,Tryz.f61];refine wp_region_held_drew (S:=λW=>W.cell? ⟨g,1,none⟩=some (.int .i64 k)∧W.cell? ⟨bm,1,none⟩=some (.int .i64 ek)∧W.cell? ⟨bm,2,none⟩=some (.int .i64 ea)∧W.cell? ⟨bm,3,none⟩=some (.int .i64 eb)∧W.cell? ⟨bm,4,none⟩=some (.int .i64 en)∧W.cell? ⟨bm,5,none⟩=some (.string es)∧W.cell? ⟨bm,6,none⟩=some (.string et)∧W.cell? ⟨bm,7,none⟩=some (.string eu)) (by kernel_rfl) (HCS.out _ HR0.out.drew) λhH=>?_
 refine tk (i:=0) HP rfl rfl hH ?_
 try simp only[lt,Act.put]
 refine tk (i:=1) HP rfl rfl hH ?_
 try simp only[lt,Act.put]
 refine tk (i:=2) HP rfl rfl hH ?_
 try simp only[lt,Act.put]
 refine tk (i:=3) HP rfl rfl hH ?_
 try simp only[lt,Act.put]
 refine tk (i:=5) HP rfl rfl hH ?_
 try simp only[lt,Act.put]
 refine tk (i:=6) HP rfl rfl hH ?_
 try simp only[lt,Act.put]
 refine tk (i:=7) HP rfl rfl hH ?_
 try simp only[lt,Act.put]
 refine tk (i:=8) HP rfl rfl hH ?_
 try simp only[lt,Act.put]
 refine tk (i:=11) HP rfl rfl hH ?_
 try simp only[lt,Act.put]
 refine tk (i:=12) HP rfl rfl hH ?_
 try simp only[lt,Act.put]
 refine rdy2 (i:=4) (j:=13) rfl rfl (λK hK=>?_) (λK hK=>?_)
 ·go_simp
  refine hK.out _ _ (HCS.out _ HR0.out.drew) (λhH=>?_);clear hK K
  try simp only[lt,Act.put]
  refine tk (i:=9) HP rfl rfl hH ?_
  try simp only[lt,Act.put]
  refine rdy2 (i:=10) (j:=13) rfl rfl (λK hK=>?_) (λK hK=>?_)
  ·go_simp
   go_at_call 120;refine(HKC.out _ HR0.out.drew).mono ?_;rintro e w1 ⟨A1,c1,rfl,hr⟩;have HRa:Hid (RowK 42 7 wa w1 (.slice A1 k c1) k rows):=hr.since HR0.out.drew;clear hr;dsimp only;refine hK.out _ _ (HCS.out _ HRa.out.frm) (λhH=>?_);clear hK K
   try simp only[lt,Act.put]
   refine rdy1 (i:=13) rfl (λK hK=>?_);go_simp;refine hK.out _ _ (HCS.out _ (HRa.out.frm.alloc _)) (λhH=>?_);clear hK K
   try simp only[lt,Act.put]
   obtain⟨A4,c4,w4,run4,h4⟩:=HPu.out w1 A1 c1 HRa.out;have H4:=h_ h4;clear h4;refine rdy1 (i:=14) rfl (λK hK=>?_);refine apr run4 ?_;refine hK.out _ _ (HCS.out _ H4.out.frm) (λhH=>?_);clear hK K
   try simp only[lt,Act.put]
   have sc:=(HCX.out _ H4.out.frm).1;have sf:=(HCX.out _ H4.out.frm).2;refine tk (i:=15) HP rfl rfl hH ?_
   try simp only[lt,Act.put]
   refine tk (i:=16) HP rfl rfl hH ?_
   try simp only[lt,Act.put]
   refine rdy1 (i:=17) rfl (λK hK=>?_);go_simp;refine hK.out _ _ (HST.out _ _ hH) (λhH=>?_);clear hK K
   try simp only[lt,Act.put]
   refine wpAnyH_done (by kernel_rfl) ?_ _;exact HQ.out _ _ _ _ _ _ H4.out
  ·go_simp
   refine hK.out _ _ (HCS.out _ (HR0.out.alloc _).drew) (λhH=>?_);clear hK K
   try simp only[lt,Act.put]
   refine rdy1 (i:=10) rfl (λK hK=>?_);go_simp;go_at_call 120;refine(HKC.out _ (HR0.out.alloc _).drew).mono ?_;rintro e w1 ⟨A1,c1,rfl,hr⟩;have HRa:Hid (RowK 42 7 wa w1 (.slice A1 k c1) k rows):=hr.since (HR0.out.alloc _).drew;have HB1:Hid (Blk w1 wa.heap.size 42 #[.int .i64 ek,.int .i64 ea,.int .i64 eb,.int .i64 en,.string es,.string et,.string eu]):=(Blk.new wa 42 #[.int .i64 ek,.int .i64 ea,.int .i64 eb,.int .i64 en,.string es,.string et,.string eu]).drew.frm (F:=Nix) (w1:=w1) hr.frm id;clear hr;dsimp only;refine hK.out _ _ (HCS.out _ HRa.out.frm) (λhH=>?_);clear hK K
   try simp only[lt,Act.put]
   obtain⟨A4,c4,w4,run4,h4⟩:=HPb.out w1 _ A1 c1 HRa.out HB1.out;have H4:=h_ h4;clear h4;refine rdy1 (i:=14) rfl (λK hK=>?_);refine apr run4 ?_;refine hK.out _ _ (HCS.out _ H4.out.frm) (λhH=>?_);clear hK K
   try simp only[lt,Act.put]
   have sc:=(HCX.out _ H4.out.frm).1;have sf:=(HCX.out _ H4.out.frm).2;refine tk (i:=15) HP rfl rfl hH ?_
   try simp only[lt,Act.put]
   refine tk (i:=16) HP rfl rfl hH ?_
   try simp only[lt,Act.put]
   refine rdy1 (i:=17) rfl (λK hK=>?_);go_simp;refine hK.out _ _ (HST.out _ _ hH) (λhH=>?_);clear hK K
   try simp only[lt,Act.put]
   refine wpAnyH_done (by kernel_rfl) ?_ _;exact HQ.out _ _ _ _ _ _ H4.out
 ·go_simp
  refine hK.out _ _ (HCS.out _ (HR0.out.alloc _).drew) (λhH=>?_);clear hK K
  try simp only[lt,Act.put]
  refine rdy1 (i:=4) rfl (λK hK=>?_);go_simp;refine hK.out _ _ (HCS.out _ (HR0.out.alloc _).drew) (λhH=>?_);clear hK K
  try simp only[lt,Act.put]
  refine tk (i:=9) HP rfl rfl hH ?_
  try simp only[lt,Act.put]
  refine rdy1 (i:=10) rfl (λK hK=>?_);go_simp;go_at_call 120;refine(HKC.out _ (HR0.out.alloc _).drew).mono ?_;rintro e w1 ⟨A1,c1,rfl,hr⟩;have HRa:Hid (RowK 42 7 wa w1 (.slice A1 k c1) k rows):=hr.since (HR0.out.alloc _).drew;have HB1:Hid (Blk w1 wa.heap.size 42 #[.int .i64 ek,.int .i64 ea,.int .i64 eb,.int .i64 en,.string es,.string et,.string eu]):=(Blk.new wa 42 #[.int .i64 ek,.int .i64 ea,.int .i64 eb,.int .i64 en,.string es,.string et,.string eu]).drew.frm (F:=Nix) (w1:=w1) hr.frm id;clear hr;dsimp only;refine hK.out _ _ (HCS.out _ HRa.out.frm) (λhH=>?_);clear hK K
  try simp only[lt,Act.put]
  obtain⟨A4,c4,w4,run4,h4⟩:=HPb.out w1 _ A1 c1 HRa.out HB1.out;have H4:=h_ h4;clear h4;refine rdy1 (i:=14) rfl (λK hK=>?_);refine apr run4 ?_;refine hK.out _ _ (HCS.out _ H4.out.frm) (λhH=>?_);clear hK K
  try simp only[lt,Act.put]
  have sc:=(HCX.out _ H4.out.frm).1;have sf:=(HCX.out _ H4.out.frm).2;refine tk (i:=15) HP rfl rfl hH ?_
  try simp only[lt,Act.put]
  refine tk (i:=16) HP rfl rfl hH ?_
  try simp only[lt,Act.put]
  refine rdy1 (i:=17) rfl (λK hK=>?_);go_simp;refine hK.out _ _ (HST.out _ _ hH) (λhH=>?_);clear hK K
  try simp only[lt,Act.put]
  refine wpAnyH_done (by kernel_rfl) ?_ _;exact HQ.out _ _ _ _ _ _ H4.out
def putAll(lv:Bool)(want:Int)(a:Au)(e:Ev):List Ev:=if lv=true∧want=30 then a.all.take a.last++[e] else a.all
theorem putAll_yes{lv:Bool}{want:Int}{a:Au}{e:Ev}(h:lv=true∧want=30):putAll lv want a e=a.all.take a.last++[e]:=if_pos h
theorem putAll_no{lv:Bool}{want:Int}{a:Au}{e:Ev}(h:¬(lv=true∧want=30)):putAll lv want a e=a.all:=if_neg h
theorem PutE{w wc:World}{g bm bd:Nat}{G:Nat→Prop}{Aa Aw:Option Addr}{ca cw:Nat}{al:List Ev}{la:Nat}{ws:List Wd}{ok dn:Bool}{l':List Ev}{s5 s6:Value}(h:AuAt wc g G Aa ca Aw cw ⟨al,la,ws⟩)(hd:Blk wc bd 4 #[.bool dn])(hF:Frm (·=g) w wc)(hl:la≤100000)(hal:ok=true→al=l'){u1 u2 u10 u11 u12 u13 u14 u15 u16 u17 u18 u19 u20 u21 u22 u23 u24 u25 u26 u27 u28 u29 u30 u31 u32 u33 u34 u35 u36 u37 u38 u39 u40 u41 u42 u43 u44 u45 u46 u47 u48 u49 u50 u51 u52 u53 u54 u55 u56 u57 u58 u59 u60 u61 u62 u63 u64 u65 u66 u67 u68 u69 u70 u71 u72 u73 u74 u75 u76 u77 u78 u79 u80 u81 u82 u83 u84 u85 u86 u87 u88 u89 u90 u91:Value}:
  Code.wp Tryz.prog (peel 8 (bodyOf Tryz.f61)) (bodyPost Tryz.prog Tryz.f61 λe w'=>PutOut w g G ok ⟨l',if dn=true then la+1 else la,ws⟩ e w') ⟨#[.pointer (some ⟨g,0,none⟩),u1,u2,.pointer (some ⟨bm,0,none⟩),.bool false,s5,s6,.int .i64 (↑la+1),.pointer (some ⟨bd,0,none⟩),.bool ok,u10,u11,u12,u13,u14,u15,u16,u17,u18,u19,u20,u21,u22,u23,u24,u25,u26,u27,u28,u29,u30,u31,u32,u33,u34,u35,u36,u37,u38,u39,u40,u41,u42,u43,u44,u45,u46,u47,u48,u49,u50,u51,u52,u53,u54,u55,u56,u57,u58,u59,u60,u61,u62,u63,u64,u65,u66,u67,u68,u69,u70,u71,u72,u73,u74,u75,u76,u77,u78,u79,u80,u81,u82,u83,u84,u85,u86,u87,u88,u89,u90,u91],[]⟩ wc:=by
 have d0:=hd.cell 0;simp at d0;have HA:=h_ h;have HF:=h_ hF;have q1:=(h.blk.cell 1).trans rfl;have z1:=h.blk.frozen 1;have HAL:=h_ hal;clear h hd hF hal
 cases dn with
 | false=>
   simp only[peel,bodyOf,Tryz.f61];go_wp2;go_ret
   exact⟨rfl,HF.out,λh=>⟨Aa,ca,Aw,cw,by rw[←HAL.out h];exact HA.out⟩⟩
 | true=>
   simp only[peel,bodyOf,Tryz.f61];go_wp2;go_ret;exact⟨rfl,HF.out.setCell (.inl rfl) _,λh=>⟨Aa,ca,Aw,cw,by rw[←HAL.out h];exact HA.out.setLast (la+1)⟩⟩
theorem PutD{w wc:World}{g bm bw bd:Nat}{G:Nat→Prop}{Aa Aw:Option Addr}{ca cw:Nat}{a:Au}{m:Mv}{fo fe it se:Sl}{ok lv dn:Bool}{want:Int}(h:AuAt wc g G Aa ca Aw cw a)(hd:Blk wc bd 4 #[.bool dn])(hw:Blk wc bw 25 #[.int .i64 want])(hm:Blk wc bm 44 #[.int .i64 m.kind,.int .i64 m.ev.kind,.int .i64 m.ev.a,.int .i64 m.ev.b,.int .i64 m.ev.n,.string m.ev.s,.string m.ev.t,.string m.ev.u,.int .i64 m.err,.int .i64 m.last,.int .i64 m.snap,.int .i64 m.st.clock,.slice fo.1 m.st.fols.length fo.2,.slice fe.1 m.st.fees.length fe.2,.slice it.1 m.st.itms.length it.2,.slice se.1 m.st.seas.length se.2,.int .i64 m.st.tFol,.int .i64 m.st.tFee,.int .i64 m.st.tItm,.int .i64 m.st.tSea])(hF:Frm (·=g) w wc)(hl:a.last≤a.all.length)(hn:a.all.length≤10000)(hG:∀k,wc.heap.size≤k→G k)(ha:I64 m.ev.a)(hb:I64 m.ev.b){u1 u2 u10 u11 u12 u13 u14 u15 u16 u17 u18 u19 u20 u21 u22 u23 u24 u25 u26 u27 u28 u29 u30 u31 u32 u33 u34 u35 u36 u37 u38 u39 u40 u41 u42 u43 u44 u45 u46 u47 u48 u49 u50 u51 u52 u53 u54 u55 u56 u57 u58 u59 u60 u61 u62 u63 u64 u65 u66 u67 u68 u69 u70 u71 u72 u73 u74 u75 u76 u77 u78 u79 u80 u81 u82 u83 u84 u85 u86 u87 u88 u89 u90 u91:Value}:
  Code.wp Tryz.prog (peel 7 (bodyOf Tryz.f61)) (bodyPost Tryz.prog Tryz.f61 λe w'=>PutOut w g G ok ⟨putAll lv want a m.ev,if dn=true then a.last+1 else a.last,a.ws⟩ e w') ⟨#[.pointer (some ⟨g,0,none⟩),u1,u2,.pointer (some ⟨bm,0,none⟩),.bool false,.pointer (some ⟨bw,0,none⟩),.bool lv,.int .i64 (↑a.last+1),.pointer (some ⟨bd,0,none⟩),.bool ok,u10,u11,u12,u13,u14,u15,u16,u17,u18,u19,u20,u21,u22,u23,u24,u25,u26,u27,u28,u29,u30,u31,u32,u33,u34,u35,u36,u37,u38,u39,u40,u41,u42,u43,u44,u45,u46,u47,u48,u49,u50,u51,u52,u53,u54,u55,u56,u57,u58,u59,u60,u61,u62,u63,u64,u65,u66,u67,u68,u69,u70,u71,u72,u73,u74,u75,u76,u77,u78,u79,u80,u81,u82,u83,u84,u85,u86,u87,u88,u89,u90,u91],[]⟩ wc:=by
 have d0:=hd.cell 0;have w0:=hw.cell 0;simp at d0 w0;have HD:=h_ hd;have HA:=h_ h;have HF:=h_ hF;have HN:=h_ hn;have HLe:=h_ hl;have HM:=h_ hm;have HI:=h_ (And.intro ha hb);have HGG:=h_ hG;clear h hd hw hF hm hn hl ha hb hG;have e1:peel 7 (bodyOf Tryz.f61)=.seq (hdC (peel 7 (bodyOf Tryz.f61))) (peel 8 (bodyOf Tryz.f61)):=by kernel_rfl
 cases ok with
 | false=>
   rw[e1];clear e1;refine wp_seq_k λK hK=>?_
   conv in hdC _=>whnf
   go_wp2
   exact PutE (ok:=false) (dn:=dn) HA.out HD.out HF.out (by have:=HN.out;have:=HLe.out;omega) (λh=>by cases h)
 | true=>
 cases lv with
 | false=>
   rw[e1];clear e1;refine wp_seq_k λK hK=>?_
   conv in hdC _=>whnf
   go_wp2
   exact PutE (ok:=true) (dn:=dn) HA.out HD.out HF.out (by have:=HN.out;have:=HLe.out;omega) (λ_=>(putAll_no (λh=>by cases h.1)).symm)
 | true=>
 by_cases h30:want=30
 ·have b30:(want==30)=true:=beq_iff_eq.2 h30
  have HAL:Hid (a.all.take a.last++[m.ev]=putAll true want a m.ev):=(putAll_yes ⟨rfl,h30⟩).symm;clear h30;rw[e1];clear e1;refine wp_seq_k λK hK=>?_
  conv in hdC _=>whnf
  go_wp2;refine putR12 (n:=a.all.length) (rows:=(a.all.take a.last).flatMap Ev.cells) HA.out.blk (λW hW=>⟨((HA.out.blk.frm hW id).cell 1).trans rfl,((HM.out.frm hW id).cell 1).trans rfl,((HM.out.frm hW id).cell 2).trans rfl,((HM.out.frm hW id).cell 3).trans rfl,((HM.out.frm hW id).cell 4).trans rfl,((HM.out.frm hW id).cell 5).trans rfl,((HM.out.frm hW id).cell 6).trans rfl,((HM.out.frm hW id).cell 7).trans rfl⟩) HLe.out HA.out.all.cap HA.out.all.max (by have:=HN.out;have:=HLe.out;omega) (evs_oneA _) (λW hW=>?_) (λ_ _ _ _ _ h=>h) ?_
  ·have q:=evClone_any ((HA.out.all.nix hW).first HLe.out) (by rw[flat_take Ev.clen];exact evs_oneA _) (by have:=HN.out;have:=HLe.out;omega)
   rw[flat_take Ev.clen] at q;exact q
  ·intro wd A c z73 z79 z82 hr
   have el:(a.all.take a.last++[m.ev]).length=a.last+1:=by have:=HLe.out;simp;omega
   have HR:Hid (AuAt (wd.setCell ⟨g,0,none⟩ (.slice A (a.last+1) c)) g G A c Aw cw {a with all:=a.all.take a.last++[m.ev]}):=by
    have q:=HA.out.setAll (W:=wd) (A:=A) (c:=c) (l:=a.all.take a.last++[m.ev]) HGG.out (by rw[el,List.flatMap_append];simpa [Ev.cells] using hr) (λe he=>by
     rcases List.mem_append.1 he with he | he
     ·exact HA.out.num e (List.mem_of_mem_take he)
     ·rw[List.mem_singleton.1 he];exact HI.out)
    rw[el] at q;exact q
   have HF2:Hid (Frm (·=g) w (wd.setCell ⟨g,0,none⟩ (.slice A (a.last+1) c))):=(HF.out.more hr.frm).setCell (.inl rfl) _;have HD2:Hid (Blk (wd.setCell ⟨g,0,none⟩ (.slice A (a.last+1) c)) bd 4 #[.bool dn]):=(HD.out.frm hr.frm id).far (p:=⟨g,0,none⟩) (HD.out.ne_ HA.out.blk (by decide)) _;clear hr;go_wp2;exact PutE (ok:=true) (dn:=dn) HR.out HD2.out HF2.out (by have:=HN.out;have:=HLe.out;omega) (λ_=>HAL.out)
 ·have b30:(want==30)=false:=beq_eq_false_iff_ne.2 h30
  have HAL:Hid (a.all=putAll true want a m.ev):=(putAll_no (λh=>h30 h.2)).symm;clear h30;rw[e1];clear e1;refine wp_seq_k λK hK=>?_
  conv in hdC _=>whnf
  go_wp2;exact PutE (ok:=true) (dn:=dn) HA.out HD.out HF.out (by have:=HN.out;have:=HLe.out;omega) (λ_=>HAL.out)
theorem PutC0{w wc:World}{g bm bw bd:Nat}{G:Nat→Prop}{Aa Aw:Option Addr}{ca cw:Nat}{a:Au}{m:Mv}{fo fe it se:Sl}{lv dn:Bool}{want:Int}(h:AuAt wc g G Aa ca Aw cw a)(hok:AuOk a)(hd:Blk wc bd 4 #[.bool dn])(hw:Blk wc bw 25 #[.int .i64 want])(hm:Blk wc bm 44 #[.int .i64 m.kind,.int .i64 m.ev.kind,.int .i64 m.ev.a,.int .i64 m.ev.b,.int .i64 m.ev.n,.string m.ev.s,.string m.ev.t,.string m.ev.u,.int .i64 m.err,.int .i64 m.last,.int .i64 m.snap,.int .i64 m.st.clock,.slice fo.1 m.st.fols.length fo.2,.slice fe.1 m.st.fees.length fe.2,.slice it.1 m.st.itms.length it.2,.slice se.1 m.st.seas.length se.2,.int .i64 m.st.tFol,.int .i64 m.st.tFee,.int .i64 m.st.tItm,.int .i64 m.st.tSea])(hF:Frm (·=g) w wc)(hn:a.all.length≤10000)(hG:∀k,wc.heap.size≤k→G k)(ha:I64 m.ev.a)(hb:I64 m.ev.b)
  (hlv:liveA a=lv) (hw2:wantA a m=want) (hdn:dn=(liveA a&&decide (wantA a m=30)&&decide (m.err=0)&&decide (m.last=a.last+1))) (hpl:¬(plainM m=false∨(m.err≠0∧m.last≠0))) {u1 u2 u9 u10 u11 u12 u13 u14 u15 u16 u17 u18 u19 u20 u21 u22 u23 u24 u25 u26 u27 u28 u29 u30 u31 u32 u33 u34 u35 u36 u37 u38 u39 u40 u41 u42 u43 u44 u45 u46 u47 u48 u49 u50 u51 u52 u53 u54 u55 u56 u57 u58 u59 u60 u61 u62 u63 u64 u65 u66 u67 u68 u69 u70 u71 u72 u73 u74 u75 u76 u77 u78 u79 u80 u81 u82 u83 u84 u85 u86 u87 u88 u89 u90 u91:Value}:
  Code.wp Tryz.prog (peel 6 (bodyOf Tryz.f61)) (bodyPost Tryz.prog Tryz.f61 λe w'=>StepOut w g G (putA a m) e w') ⟨#[.pointer (some ⟨g,0,none⟩),u1,u2,.pointer (some ⟨bm,0,none⟩),.bool false,.pointer (some ⟨bw,0,none⟩),.bool lv,.int .i64 (↑a.last+1),.pointer (some ⟨bd,0,none⟩),u9,u10,u11,u12,u13,u14,u15,u16,u17,u18,u19,u20,u21,u22,u23,u24,u25,u26,u27,u28,u29,u30,u31,u32,u33,u34,u35,u36,u37,u38,u39,u40,u41,u42,u43,u44,u45,u46,u47,u48,u49,u50,u51,u52,u53,u54,u55,u56,u57,u58,u59,u60,u61,u62,u63,u64,u65,u66,u67,u68,u69,u70,u71,u72,u73,u74,u75,u76,u77,u78,u79,u80,u81,u82,u83,u84,u85,u86,u87,u88,u89,u90,u91],[]⟩ wc:=by
 have hpa:putA a m=if goW (putW want dn m.err) a.ws=[] then none else some ⟨putAll lv want a m.ev,if dn=true then a.last+1 else a.last,goW (putW want dn m.err) a.ws⟩:=by
  unfold putA;rw[if_neg hpl];simp only[hdn,hlv,hw2];rfl
 have KG:=h_ (goOn_any (F:=118) (caps:=#[.pointer (some ⟨bm,0,none⟩),.pointer (some ⟨bw,0,none⟩),.pointer (some ⟨bd,0,none⟩)]) (putW want dn m.err) h (by have:=hok.len;omega) (λx=>Nat.le_trans (putW_len _ _ _ _) (by decide)) (λargs W=>by kernel_rfl) (λx W hW=>putC_any x (((hm.frm hW id).cell 8).trans rfl) (((hw.frm hW id).cell 0).trans rfl) (((hd.frm hW id).cell 0).trans rfl)));have HA:=h_ h;have HP:=h_ hpa;have HB:=h_ (And.intro hd (And.intro hw hm));have HF:=h_ hF;have HX:=h_ (And.intro hok (And.intro hn (And.intro hG (And.intro ha hb))));generalize goW (putW want dn m.err) a.ws=ws at *;clear h hok hd hw hm hF hn hG ha hb hlv hw2 hdn hpl hpa;refine peelK (k':=7) λK hK=>?_
 conv in hdC _=>whnf
 go_wp2_with (go_at_call 117;refine KG.out.mono ?_;rintro e w1 ⟨rfl,A,c,W,hr,rfl⟩;have HR:=h_ hr;clear hr);have hA2:=HA.out.setWs HX.out.2.2.1 HR.out;have hfr:=HR.out.frm;have hne:=HA.out.blk;refine Code.wp_mono (bodyPost_up λe w' h=>?_) (PutD (lv:=lv) (dn:=dn) (want:=want) (m:=m) (w:=w) hA2 ((HB.out.1.frm hfr id).far (p:=⟨g,2,none⟩) (HB.out.1.ne_ hne (by decide)) _) ((HB.out.2.1.frm hfr id).far (p:=⟨g,2,none⟩) (HB.out.2.1.ne_ hne (by decide)) _) ((HB.out.2.2.frm hfr id).far (p:=⟨g,2,none⟩) (HB.out.2.2.ne_ hne (by decide)) _) ((HF.out.more hfr).setCell (.inl rfl) _) HX.out.1.le HX.out.2.1 (λk hk=>HX.out.2.2.1 k (by have:=hfr.size;simp at hk;omega)) HX.out.2.2.2.1 HX.out.2.2.2.2);rw[HP.out];exact StepOut.of (ok:=_) (by simp) h
theorem PutB{w wc:World}{g bm bw:Nat}{G:Nat→Prop}{Aa Aw:Option Addr}{ca cw:Nat}{a:Au}{m:Mv}{fo fe it se:Sl}{want:Int}(h:AuAt wc g G Aa ca Aw cw a)(hok:AuOk a)(hw:Blk wc bw 25 #[.int .i64 want])(hm:Blk wc bm 44 #[.int .i64 m.kind,.int .i64 m.ev.kind,.int .i64 m.ev.a,.int .i64 m.ev.b,.int .i64 m.ev.n,.string m.ev.s,.string m.ev.t,.string m.ev.u,.int .i64 m.err,.int .i64 m.last,.int .i64 m.snap,.int .i64 m.st.clock,.slice fo.1 m.st.fols.length fo.2,.slice fe.1 m.st.fees.length fe.2,.slice it.1 m.st.itms.length it.2,.slice se.1 m.st.seas.length se.2,.int .i64 m.st.tFol,.int .i64 m.st.tFee,.int .i64 m.st.tItm,.int .i64 m.st.tSea])(hF:Frm (·=g) w wc)(hn:a.all.length≤10000)(hG:∀k,wc.heap.size≤k→G k)(ha:I64 m.ev.a)(hb:I64 m.ev.b)
  (hw2:wantA a m=want) (hpl:¬(plainM m=false∨(m.err≠0∧m.last≠0))) {u1 u2 u6 u7 u8 u9 u10 u11 u12 u13 u14 u15 u16 u17 u18 u19 u20 u21 u22 u23 u24 u25 u26 u27 u28 u29 u30 u31 u32 u33 u34 u35 u36 u37 u38 u39 u40 u41 u42 u43 u44 u45 u46 u47 u48 u49 u50 u51 u52 u53 u54 u55 u56 u57 u58 u59 u60 u61 u62 u63 u64 u65 u66 u67 u68 u69 u70 u71 u72 u73 u74 u75 u76 u77 u78 u79 u80 u81 u82 u83 u84 u85 u86 u87 u88 u89 u90 u91:Value}:
  Code.wp Tryz.prog (peel 4 (bodyOf Tryz.f61)) (bodyPost Tryz.prog Tryz.f61 λe w'=>StepOut w g G (putA a m) e w') ⟨#[.pointer (some ⟨g,0,none⟩),u1,u2,.pointer (some ⟨bm,0,none⟩),.bool false,.pointer (some ⟨bw,0,none⟩),u6,u7,u8,u9,u10,u11,u12,u13,u14,u15,u16,u17,u18,u19,u20,u21,u22,u23,u24,u25,u26,u27,u28,u29,u30,u31,u32,u33,u34,u35,u36,u37,u38,u39,u40,u41,u42,u43,u44,u45,u46,u47,u48,u49,u50,u51,u52,u53,u54,u55,u56,u57,u58,u59,u60,u61,u62,u63,u64,u65,u66,u67,u68,u69,u70,u71,u72,u73,u74,u75,u76,u77,u78,u79,u80,u81,u82,u83,u84,u85,u86,u87,u88,u89,u90,u91],[]⟩ wc:=by
 have hla:a.last≤10000:=by have:=hok.le;omega
 obtain⟨lv,hlv⟩:∃lv,liveA a=lv:=⟨_,rfl⟩
 have KL:Hid (∀W,Frm Nix wc W→Calls Tryz.prog 116 #[.pointer (some ⟨g,0,none⟩)] W λe w'=>e=.returned (.bool lv)∧Frm Nix W w'):=λW hW=>by
  have q:=aLives_any (h.nix hW) hok.ne;rw[hlv] at q;exact q
 have HC1:Hid (∀W,Frm Nix wc W→W.cell? ⟨g,1,none⟩=some (.int .i64 a.last)):=λW hW=>((h.blk.frm hW id).cell 1).trans rfl
 have HCm:Hid (∀W,Frm Nix wc W→W.cell? ⟨bw,0,none⟩=some (.int .i64 want)∧W.cell? ⟨bm,8,none⟩=some (.int .i64 m.err)∧W.cell? ⟨bm,9,none⟩=some (.int .i64 m.last)∧bw<W.heap.size∧bm<W.heap.size):=λW hW=>⟨((hw.frm hW id).cell 0).trans rfl,((hm.frm hW id).cell 8).trans rfl,((hm.frm hW id).cell 9).trans rfl,(hw.frm hW id).lt,(hm.frm hW id).lt⟩
 have HA:=h_ h;have HW:=h_ hw;have HM:=h_ hm;have HF:=h_ hF;have HLv:=h_ hlv;have HX:=h_ (And.intro hok (And.intro hn (And.intro hG (And.intro ha (And.intro hb (And.intro hw2 hpl))))));have HDn:∀b1 b2 b3:Bool,(want==30)=b1→(m.err==0)=b2→(m.last==(a.last:Int)+1)=b3→(lv&&b1&&b2&&b3)=(liveA a&&decide (wantA a m=30)&&decide (m.err=0)&&decide (m.last=(a.last:Int)+1)):=λb1 b2 b3 h1 h2 h3=>by rw[hlv,hw2,←dec_beq,←dec_beq,←dec_beq,h1,h2,h3]
 have HD:=h_ HDn;have hw64:IntKind.i64.wrap ((a.last:Int)+1)=(a.last:Int)+1:=IntWalk.i64_in _ (by omega);clear h hok hw hm hF hn hG ha hb hw2 hpl hlv HDn
 cases lv with
 | false=>
   refine peelK (k':=5) λK hK=>?_
   conv in hdC _=>whnf
   go_region_held3 (λW=>W.cell? ⟨g,1,none⟩=some (.int .i64 a.last)) ((refine HC1.out _ ?_;repeat' (first | with_reducible exact Frm.refl _ _ | with_reducible exact Y1.out | with_reducible apply Frm.drew)))
    (first
     | (go_at_call 116;refine(KL.out _ (by repeat' (first | with_reducible exact Frm.refl _ _ | with_reducible apply Frm.drew))).mono ?_;rintro e w1 ⟨rfl,hf⟩;have Y1:Hid (Frm Nix wc w1):=(fR _).drew.trans hf;clear hf))
   all_goals
    go_wp2;obtain⟨c1,c2,c3,c4,c5⟩:=HCm.out _ Y1.out;refine peelK (k':=6) λK hK=>?_
    conv in hdC _=>whnf
    go_wp2
    exact PutC0 (lv:=false) (dn:=false) (want:=want) (w:=w) ((HA.out.nix Y1.out).nix ((fR _).alloc _)) HX.out.1 (Blk.new _ _ _) ((HW.out.frm Y1.out id).alloc _) ((HM.out.frm Y1.out id).alloc _) ((HF.out.more Y1.out).alloc _) HX.out.2.1 (λk hk=>HX.out.2.2.1 k (by have:=Y1.out.size;simp at hk;omega)) HX.out.2.2.2.1 HX.out.2.2.2.2.1 HLv.out HX.out.2.2.2.2.2.1 (by have q:=HD.out _ _ _ rfl rfl rfl;simpa using q) HX.out.2.2.2.2.2.2
 | true=>
 cases e1':(want==30) with
 | false=>
   refine peelK (k':=5) λK hK=>?_
   conv in hdC _=>whnf
   go_region_held3 (λW=>W.cell? ⟨g,1,none⟩=some (.int .i64 a.last)) ((refine HC1.out _ ?_;repeat' (first | with_reducible exact Frm.refl _ _ | with_reducible exact Y1.out | with_reducible apply Frm.drew)))
    (first
     | (go_at_call 116;refine(KL.out _ (by repeat' (first | with_reducible exact Frm.refl _ _ | with_reducible apply Frm.drew))).mono ?_;rintro e w1 ⟨rfl,hf⟩;have Y1:Hid (Frm Nix wc w1):=(fR _).drew.trans hf;clear hf))
   all_goals
    go_wp2;obtain⟨c1,c2,c3,c4,c5⟩:=HCm.out _ Y1.out;refine peelK (k':=6) λK hK=>?_
    conv in hdC _=>whnf
    go_wp2
    exact PutC0 (lv:=true) (dn:=false) (want:=want) (w:=w) ((HA.out.nix Y1.out).nix ((fR _).alloc _)) HX.out.1 (Blk.new _ _ _) ((HW.out.frm Y1.out id).alloc _) ((HM.out.frm Y1.out id).alloc _) ((HF.out.more Y1.out).alloc _) HX.out.2.1 (λk hk=>HX.out.2.2.1 k (by have:=Y1.out.size;simp at hk;omega)) HX.out.2.2.2.1 HX.out.2.2.2.2.1 HLv.out HX.out.2.2.2.2.2.1 (by have q:=HD.out _ _ _ e1' rfl rfl;simpa using q) HX.out.2.2.2.2.2.2
 | true=>
 cases e2':(m.err==0) with
 | false=>
   refine peelK (k':=5) λK hK=>?_
   conv in hdC _=>whnf
   go_region_held3 (λW=>W.cell? ⟨g,1,none⟩=some (.int .i64 a.last)) ((refine HC1.out _ ?_;repeat' (first | with_reducible exact Frm.refl _ _ | with_reducible exact Y1.out | with_reducible apply Frm.drew)))
    (first
     | (go_at_call 116;refine(KL.out _ (by repeat' (first | with_reducible exact Frm.refl _ _ | with_reducible apply Frm.drew))).mono ?_;rintro e w1 ⟨rfl,hf⟩;have Y1:Hid (Frm Nix wc w1):=(fR _).drew.trans hf;clear hf))
   all_goals
    go_wp2;obtain⟨c1,c2,c3,c4,c5⟩:=HCm.out _ Y1.out;refine peelK (k':=6) λK hK=>?_
    conv in hdC _=>whnf
    go_wp2
    exact PutC0 (lv:=true) (dn:=false) (want:=want) (w:=w) ((HA.out.nix Y1.out).nix ((fR _).alloc _)) HX.out.1 (Blk.new _ _ _) ((HW.out.frm Y1.out id).alloc _) ((HM.out.frm Y1.out id).alloc _) ((HF.out.more Y1.out).alloc _) HX.out.2.1 (λk hk=>HX.out.2.2.1 k (by have:=Y1.out.size;simp at hk;omega)) HX.out.2.2.2.1 HX.out.2.2.2.2.1 HLv.out HX.out.2.2.2.2.2.1 (by have q:=HD.out _ _ _ e1' e2' rfl;simpa using q) HX.out.2.2.2.2.2.2
 | true=>
 cases e3':(m.last==(a.last:Int)+1) with
 | false=>
   refine peelK (k':=5) λK hK=>?_
   conv in hdC _=>whnf
   go_region_held3 (λW=>W.cell? ⟨g,1,none⟩=some (.int .i64 a.last)) ((refine HC1.out _ ?_;repeat' (first | with_reducible exact Frm.refl _ _ | with_reducible exact Y1.out | with_reducible apply Frm.drew)))
    (first
     | (go_at_call 116;refine(KL.out _ (by repeat' (first | with_reducible exact Frm.refl _ _ | with_reducible apply Frm.drew))).mono ?_;rintro e w1 ⟨rfl,hf⟩;have Y1:Hid (Frm Nix wc w1):=(fR _).drew.trans hf;clear hf))
   all_goals
    go_wp2;obtain⟨c1,c2,c3,c4,c5⟩:=HCm.out _ Y1.out;refine peelK (k':=6) λK hK=>?_
    conv in hdC _=>whnf
    go_wp2
    exact PutC0 (lv:=true) (dn:=false) (want:=want) (w:=w) ((HA.out.nix Y1.out).nix ((fR _).alloc _)) HX.out.1 (Blk.new _ _ _) ((HW.out.frm Y1.out id).alloc _) ((HM.out.frm Y1.out id).alloc _) ((HF.out.more Y1.out).alloc _) HX.out.2.1 (λk hk=>HX.out.2.2.1 k (by have:=Y1.out.size;simp at hk;omega)) HX.out.2.2.2.1 HX.out.2.2.2.2.1 HLv.out HX.out.2.2.2.2.2.1 (by have q:=HD.out _ _ _ e1' e2' e3';simpa using q) HX.out.2.2.2.2.2.2
 | true=>
   refine peelK (k':=5) λK hK=>?_
   conv in hdC _=>whnf
   go_region_held3 (λW=>W.cell? ⟨g,1,none⟩=some (.int .i64 a.last)) ((refine HC1.out _ ?_;repeat' (first | with_reducible exact Frm.refl _ _ | with_reducible exact Y1.out | with_reducible apply Frm.drew)))
    (first
     | (go_at_call 116;refine(KL.out _ (by repeat' (first | with_reducible exact Frm.refl _ _ | with_reducible apply Frm.drew))).mono ?_;rintro e w1 ⟨rfl,hf⟩;have Y1:Hid (Frm Nix wc w1):=(fR _).drew.trans hf;clear hf))
   all_goals
    go_wp2;obtain⟨c1,c2,c3,c4,c5⟩:=HCm.out _ Y1.out;refine peelK (k':=6) λK hK=>?_
    conv in hdC _=>whnf
    go_wp2;exact PutC0 (lv:=true) (dn:=true) (want:=want) (w:=w) ((HA.out.nix Y1.out).nix ((fR _).alloc _)) HX.out.1 (Blk.new _ _ _) ((HW.out.frm Y1.out id).alloc _) ((HM.out.frm Y1.out id).alloc _) ((HF.out.more Y1.out).alloc _) HX.out.2.1 (λk hk=>HX.out.2.2.1 k (by have:=Y1.out.size;simp at hk;omega)) HX.out.2.2.2.1 HX.out.2.2.2.2.1 HLv.out HX.out.2.2.2.2.2.1 (by have q:=HD.out _ _ _ e1' e2' e3';simpa using q) HX.out.2.2.2.2.2.2
theorem PutA0{w wc:World}{g bm:Nat}{G:Nat→Prop}{Aa Aw:Option Addr}{ca cw:Nat}{a:Au}{m:Mv}{fo fe it se:Sl}(h:AuAt wc g G Aa ca Aw cw a)(hok:AuOk a)(hm:Blk wc bm 44 #[.int .i64 m.kind,.int .i64 m.ev.kind,.int .i64 m.ev.a,.int .i64 m.ev.b,.int .i64 m.ev.n,.string m.ev.s,.string m.ev.t,.string m.ev.u,.int .i64 m.err,.int .i64 m.last,.int .i64 m.snap,.int .i64 m.st.clock,.slice fo.1 m.st.fols.length fo.2,.slice fe.1 m.st.fees.length fe.2,.slice it.1 m.st.itms.length it.2,.slice se.1 m.st.seas.length se.2,.int .i64 m.st.tFol,.int .i64 m.st.tFee,.int .i64 m.st.tItm,.int .i64 m.st.tSea])(hF:Frm (·=g) w wc)(hn:a.all.length≤10000)(hG:∀k,wc.heap.size≤k→G k)(ha:I64 m.ev.a)(hb:I64 m.ev.b)
  (hpl:¬(plainM m=false∨(m.err≠0∧m.last≠0))) {u1 u2 u5 u6 u7 u8 u9 u10 u11 u12 u13 u14 u15 u16 u17 u18 u19 u20 u21 u22 u23 u24 u25 u26 u27 u28 u29 u30 u31 u32 u33 u34 u35 u36 u37 u38 u39 u40 u41 u42 u43 u44 u45 u46 u47 u48 u49 u50 u51 u52 u53 u54 u55 u56 u57 u58 u59 u60 u61 u62 u63 u64 u65 u66 u67 u68 u69 u70 u71 u72 u73 u74 u75 u76 u77 u78 u79 u80 u81 u82 u83 u84 u85 u86 u87 u88 u89 u90 u91:Value}:
  Code.wp Tryz.prog (peel 2 (bodyOf Tryz.f61)) (bodyPost Tryz.prog Tryz.f61 λe w'=>StepOut w g G (putA a m) e w') ⟨#[.pointer (some ⟨g,0,none⟩),u1,u2,.pointer (some ⟨bm,0,none⟩),.bool false,u5,u6,u7,u8,u9,u10,u11,u12,u13,u14,u15,u16,u17,u18,u19,u20,u21,u22,u23,u24,u25,u26,u27,u28,u29,u30,u31,u32,u33,u34,u35,u36,u37,u38,u39,u40,u41,u42,u43,u44,u45,u46,u47,u48,u49,u50,u51,u52,u53,u54,u55,u56,u57,u58,u59,u60,u61,u62,u63,u64,u65,u66,u67,u68,u69,u70,u71,u72,u73,u74,u75,u76,u77,u78,u79,u80,u81,u82,u83,u84,u85,u86,u87,u88,u89,u90,u91],[]⟩ wc:=by
 obtain⟨w0,hw0⟩:∃w0,w0=wc.alloc (.cells #[.int .i64 30] 25):=⟨_,rfl⟩;have hf0:Frm Nix wc w0:=by rw[hw0];exact(fR wc).alloc _
 have hB0:Blk w0 wc.heap.size 25 #[.int .i64 30]:=by rw[hw0];exact Blk.new _ _ _
 have KC:∀W,Calls Tryz.prog 99 #[.agg #[.int .i64 m.ev.kind,.int .i64 m.ev.a,.int .i64 m.ev.b,.int .i64 m.ev.n,.string m.ev.s,.string m.ev.t,.string m.ev.u]] W λe w'=>e=.returned (.int .i64 (if evOk m.ev=true then 0 else 140))∧Frm Nix W w':=λW=>eCheck_any m.ev W
 have KS:Hid (∀W,Frm Nix wc W→Calls Tryz.prog 115 #[.pointer (some ⟨g,0,none⟩)] W λe w'=>∃gs M,e=.returned (.pointer (some ⟨gs,0,none⟩))∧StAt w' gs M (foldE st0 (a.all.take a.last))∧Frm Nix W w'∧∀k,SF gs M k→W.heap.size≤k):=λW hW=>aState_any (h.nix hW) hok.le (by omega)
 have KF:Hid (∀W gs M,StAt W gs M (foldE st0 (a.all.take a.last))→Calls Tryz.prog 51 #[.pointer (some ⟨gs,0,none⟩),.agg #[.int .i64 m.ev.kind,.int .i64 m.ev.a,.int .i64 m.ev.b,.int .i64 m.ev.n,.string m.ev.s,.string m.ev.t,.string m.ev.u]] W λr w'=>r=.returned (.bool (fits (foldE st0 (a.all.take a.last)) m.ev))∧Frm Nix W w'):=λW gs M hs=>Fits_any hs m.ev ha hb
 have HCe:Hid (∀W,Frm Nix wc W→W.cell? ⟨bm,1,none⟩=some (.int .i64 m.ev.kind)∧W.cell? ⟨bm,2,none⟩=some (.int .i64 m.ev.a)∧W.cell? ⟨bm,3,none⟩=some (.int .i64 m.ev.b)∧W.cell? ⟨bm,4,none⟩=some (.int .i64 m.ev.n)∧W.cell? ⟨bm,5,none⟩=some (.string m.ev.s)∧W.cell? ⟨bm,6,none⟩=some (.string m.ev.t)∧W.cell? ⟨bm,7,none⟩=some (.string m.ev.u)):=λW hW=>⟨((hm.frm hW id).cell 1).trans rfl,((hm.frm hW id).cell 2).trans rfl,((hm.frm hW id).cell 3).trans rfl,((hm.frm hW id).cell 4).trans rfl,((hm.frm hW id).cell 5).trans rfl,((hm.frm hW id).cell 6).trans rfl,((hm.frm hW id).cell 7).trans rfl⟩
 have HWA:Hid (wantA a m=if evOk m.ev=false then 140 else if fits (foldE st0 (a.all.take a.last)) m.ev=false then 330 else 30):=rfl;have HA:=h_ h;have HM:=h_ hm;have HF:=h_ hF;have HX:=h_ (And.intro hok (And.intro hn (And.intro hG (And.intro ha (And.intro hb hpl)))));have H0:=h_ (And.intro hw0 (And.intro hf0 hB0));have hlt:=hm.lt;obtain⟨c1,c2,c3,c4,c5,c6,c7⟩:=HCe.out _ hf0;rw[hw0] at c1 c2 c3 c4 c5 c6 c7;clear h hok hm hF hn hG ha hb hpl hf0 hB0 hw0;generalize foldE st0 (a.all.take a.last)=x at *
 cases he:evOk m.ev with
 | false=>
   rw[he] at HWA;simp only[he,Bool.false_eq_true,if_false] at KC;have HWB:Hid (wantA a m=140):=HWA.out.trans (if_pos rfl);have HH:=h_ he;clear he;refine peelK (k':=3) λK hK=>?_
   conv in hdC _=>whnf
   go_wp2;refine peelK (k':=4) λK hK=>?_
   conv in hdC _=>whnf
   go_wp2_with (first | (go_at_call 99;refine(KC _).mono ?_;rintro e w1 ⟨rfl,hf⟩;rw[←H0.out.1] at hf;have hb1:=H0.out.2.2.frm hf id;have t0:=hb1.cell 0;have f0:=hb1.frozen 0;simp at t0;have HB1:=h_ hb1;have Y1:Hid (Frm Nix wc w1):=H0.out.2.1.trans hf;clear hf hb1) | fail)
   exact PutB (want:=140) (w:=w) (AuAt.far HA.out Y1.out HB1.out) HX.out.1 (HB1.out.set_ 0 _) ((HM.out.frm Y1.out id).far (p:=⟨wc.heap.size,0,none⟩) (by have:=HM.out.lt;simp;omega) _) ((HF.out.more Y1.out).setCell (.inr (by have:=HF.out.size;simp;omega)) _) HX.out.2.1 (λk hk=>HX.out.2.2.1 k (by have:=Y1.out.size;simp at hk;omega)) HX.out.2.2.2.1 HX.out.2.2.2.2.1 HWB.out HX.out.2.2.2.2.2
 | true=>
   rw[he] at HWA;simp only[he,if_true] at KC;have HH:=h_ he;clear he
   cases hft:fits x m.ev with
   | false=>
     rw[hft] at HWA KF;have HWB:Hid (wantA a m=330):=HWA.out;have HH2:=h_ hft;clear hft;refine peelK (k':=3) λK hK=>?_
     conv in hdC _=>whnf
     go_wp2;refine peelK (k':=4) λK hK=>?_
     conv in hdC _=>whnf
     go_wp2_with (first | (go_at_call 99;refine(KC _).mono ?_;rintro e w1 ⟨rfl,hf⟩;rw[←H0.out.1] at hf;have hb1:=H0.out.2.2.frm hf id;have HB1:=h_ hb1;have Y1:Hid (Frm Nix wc w1):=H0.out.2.1.trans hf;clear hf hb1) | fail)
     go_region_held3 (λW=>W.cell? ⟨bm,1,none⟩=some (.int .i64 m.ev.kind)∧W.cell? ⟨bm,2,none⟩=some (.int .i64 m.ev.a)∧W.cell? ⟨bm,3,none⟩=some (.int .i64 m.ev.b)∧W.cell? ⟨bm,4,none⟩=some (.int .i64 m.ev.n)∧W.cell? ⟨bm,5,none⟩=some (.string m.ev.s)∧W.cell? ⟨bm,6,none⟩=some (.string m.ev.t)∧W.cell? ⟨bm,7,none⟩=some (.string m.ev.u)) ((refine HCe.out _ ?_;first | exact Y1.out.drew | exact Y1.out.trans Y2.out | exact Y1.out.trans Y3.out))
      (first
       | (go_at_call 115;refine(KS.out _ Y1.out.drew).mono ?_;rintro e w2 ⟨gs,M,rfl,hs,hf,-⟩;have HS2:=h_ hs;have Y2:Hid (Frm Nix w1 w2):=(fR w1).drew.trans hf;clear hs hf)
       | (go_at_call 51;refine(KF.out _ _ _ HS2.out).mono ?_;rintro e w3 ⟨rfl,hf⟩;have Y3:Hid (Frm Nix w1 w3):=Y2.out.trans hf;clear hf))
     all_goals
      have hb2:=HB1.out.frm Y3.out id;have t0:=hb2.cell 0;have f0:=hb2.frozen 0;simp at t0;have HB2:=h_ hb2;clear hb2;go_wp2
      exact PutB (want:=330) (w:=w) (AuAt.far HA.out (Y1.out.trans Y3.out) HB2.out) HX.out.1 (HB2.out.set_ 0 _) ((HM.out.frm (Y1.out.trans Y3.out) id).far (p:=⟨wc.heap.size,0,none⟩) (by have:=HM.out.lt;simp;omega) _) ((HF.out.more (Y1.out.trans Y3.out)).setCell (.inr (by have:=HF.out.size;simp;omega)) _) HX.out.2.1 (λk hk=>HX.out.2.2.1 k (by have:=(Y1.out.trans Y3.out).size;simp at hk;omega)) HX.out.2.2.2.1 HX.out.2.2.2.2.1 HWB.out HX.out.2.2.2.2.2
   | true=>
     rw[hft] at HWA KF;have HWB:Hid (wantA a m=30):=HWA.out;have HH2:=h_ hft;clear hft;refine peelK (k':=3) λK hK=>?_
     conv in hdC _=>whnf
     go_wp2;refine peelK (k':=4) λK hK=>?_
     conv in hdC _=>whnf
     go_wp2_with (first | (go_at_call 99;refine(KC _).mono ?_;rintro e w1 ⟨rfl,hf⟩;rw[←H0.out.1] at hf;have hb1:=H0.out.2.2.frm hf id;have HB1:=h_ hb1;have Y1:Hid (Frm Nix wc w1):=H0.out.2.1.trans hf;clear hf hb1) | fail)
     go_region_held3 (λW=>W.cell? ⟨bm,1,none⟩=some (.int .i64 m.ev.kind)∧W.cell? ⟨bm,2,none⟩=some (.int .i64 m.ev.a)∧W.cell? ⟨bm,3,none⟩=some (.int .i64 m.ev.b)∧W.cell? ⟨bm,4,none⟩=some (.int .i64 m.ev.n)∧W.cell? ⟨bm,5,none⟩=some (.string m.ev.s)∧W.cell? ⟨bm,6,none⟩=some (.string m.ev.t)∧W.cell? ⟨bm,7,none⟩=some (.string m.ev.u)) ((refine HCe.out _ ?_;first | exact Y1.out.drew | exact Y1.out.trans Y2.out | exact Y1.out.trans Y3.out))
      (first
       | (go_at_call 115;refine(KS.out _ Y1.out.drew).mono ?_;rintro e w2 ⟨gs,M,rfl,hs,hf,-⟩;have HS2:=h_ hs;have Y2:Hid (Frm Nix w1 w2):=(fR w1).drew.trans hf;clear hs hf)
       | (go_at_call 51;refine(KF.out _ _ _ HS2.out).mono ?_;rintro e w3 ⟨rfl,hf⟩;have Y3:Hid (Frm Nix w1 w3):=Y2.out.trans hf;clear hf))
     all_goals
      go_wp2;exact PutB (want:=30) (w:=w) (HA.out.nix (Y1.out.trans Y3.out)) HX.out.1 (HB1.out.frm Y3.out id) (HM.out.frm (Y1.out.trans Y3.out) id) (HF.out.more (Y1.out.trans Y3.out)) HX.out.2.1 (λk hk=>HX.out.2.2.1 k (by have:=(Y1.out.trans Y3.out).size;omega)) HX.out.2.2.2.1 HX.out.2.2.2.2.1 HWB.out HX.out.2.2.2.2.2
theorem aPut_1{w:World}{g:Nat}{G Gm:Nat→Prop}{Aa Aw:Option Addr}{ca cw:Nat}{a:Au}{m:Mv}{fo fe it se:Sl}{ts:List (Sl×Itm)}(h:AuAt w g G Aa ca Aw cw a)(hok:AuOk a)(hm:MvIn w Gm fo fe it se ts m)(hn:a.all.length≤10000)(hG:∀k,w.heap.size≤k→G k)(ha:I64 m.ev.a)(hb:I64 m.ev.b)(hp:plainM m=false):Calls Tryz.prog 61 #[.pointer (some ⟨g,0,none⟩),.agg #[.int .i64 m.kind,.int .i64 m.ev.kind,.int .i64 m.ev.a,.int .i64 m.ev.b,.int .i64 m.ev.n,.string m.ev.s,.string m.ev.t,.string m.ev.u,.int .i64 m.err,.int .i64 m.last,.int .i64 m.snap,.int .i64 m.st.clock,.slice fo.1 m.st.fols.length fo.2,.slice fe.1 m.st.fees.length fe.2,.slice it.1 m.st.itms.length it.2,.slice se.1 m.st.seas.length se.2,.int .i64 m.st.tFol,.int .i64 m.st.tFee,.int .i64 m.st.tItm,.int .i64 m.st.tSea]] w (StepOut w g G (putA a m)):=by
 have KP:Hid (∀W,Frm Nix w W→Calls Tryz.prog 63 #[.agg #[.int .i64 m.kind,.int .i64 m.ev.kind,.int .i64 m.ev.a,.int .i64 m.ev.b,.int .i64 m.ev.n,.string m.ev.s,.string m.ev.t,.string m.ev.u,.int .i64 m.err,.int .i64 m.last,.int .i64 m.snap,.int .i64 m.st.clock,.slice fo.1 m.st.fols.length fo.2,.slice fe.1 m.st.fees.length fe.2,.slice it.1 m.st.itms.length it.2,.slice se.1 m.st.seas.length se.2,.int .i64 m.st.tFol,.int .i64 m.st.tFee,.int .i64 m.st.tItm,.int .i64 m.st.tSea]] W λe w'=>e=.returned (.bool (plainM m))∧Frm Nix W w'):=λW hW=>plain_any (hm.nix hW)
 have HPN:Hid ((plainM m=false∨(m.err≠0∧m.last≠0))→putA a m=none):=λh=>by unfold putA;rw[if_pos h]
 have HA:=h_ h;have HX:=h_ (And.intro hok (And.intro hn (And.intro hG (And.intro ha hb))));clear h hok hm hn hG ha hb;have HN:=h_ (HPN.out (.inl hp));rw[hp] at KP;have HH:=h_ hp;clear hp;obtain⟨W0,hW0⟩:∃W0,W0=w.alloc (.cells #[.int .i64 m.kind,.int .i64 m.ev.kind,.int .i64 m.ev.a,.int .i64 m.ev.b,.int .i64 m.ev.n,.string m.ev.s,.string m.ev.t,.string m.ev.u,.int .i64 m.err,.int .i64 m.last,.int .i64 m.snap,.int .i64 m.st.clock,.slice fo.1 m.st.fols.length fo.2,.slice fe.1 m.st.fees.length fe.2,.slice it.1 m.st.itms.length it.2,.slice se.1 m.st.seas.length se.2,.int .i64 m.st.tFol,.int .i64 m.st.tFee,.int .i64 m.st.tItm,.int .i64 m.st.tSea] 44):=⟨_,rfl⟩;have HW0:=h_ hW0;have HF0:Hid (Frm Nix w W0):=by unfold Hid;rw[hW0];exact(fR w).alloc _
 have HB0:Hid (Blk W0 w.heap.size 44 #[.int .i64 m.kind,.int .i64 m.ev.kind,.int .i64 m.ev.a,.int .i64 m.ev.b,.int .i64 m.ev.n,.string m.ev.s,.string m.ev.t,.string m.ev.u,.int .i64 m.err,.int .i64 m.last,.int .i64 m.snap,.int .i64 m.st.clock,.slice fo.1 m.st.fols.length fo.2,.slice fe.1 m.st.fees.length fe.2,.slice it.1 m.st.itms.length it.2,.slice se.1 m.st.seas.length se.2,.int .i64 m.st.tFol,.int .i64 m.st.tFee,.int .i64 m.st.tItm,.int .i64 m.st.tSea]):=by unfold Hid;rw[hW0];exact Blk.new w _ _
 clear hW0;go_enter Tryz.func61,Tryz.ntmps61;show Code.wp Tryz.prog (peel 0 (bodyOf Tryz.f61)) _ _ _
 refine peelK (k':=1) λK hK=>?_
 conv in hdC _=>whnf
 go_wp2;rw[←HW0.out];refine peelK (k':=2) λK hK=>?_
 conv in hdC _=>whnf
 go_wp2_with (first | (refine mvList (l:=[.int .i64 m.kind,.int .i64 m.ev.kind,.int .i64 m.ev.a,.int .i64 m.ev.b,.int .i64 m.ev.n,.string m.ev.s,.string m.ev.t,.string m.ev.u,.int .i64 m.err,.int .i64 m.last,.int .i64 m.snap,.int .i64 m.st.clock,.slice fo.1 m.st.fols.length fo.2,.slice fe.1 m.st.fees.length fe.2,.slice it.1 m.st.itms.length it.2,.slice se.1 m.st.seas.length se.2,.int .i64 m.st.tFol,.int .i64 m.st.tFee,.int .i64 m.st.tItm,.int .i64 m.st.tSea]) HB0.out rfl _ rfl rfl rfl ?_) | (go_at_call 63;refine(KP.out _ HF0.out).mono ?_;rintro e w1 ⟨rfl,hf⟩;have HMb:Hid (Blk w1 w.heap.size 44 #[.int .i64 m.kind,.int .i64 m.ev.kind,.int .i64 m.ev.a,.int .i64 m.ev.b,.int .i64 m.ev.n,.string m.ev.s,.string m.ev.t,.string m.ev.u,.int .i64 m.err,.int .i64 m.last,.int .i64 m.snap,.int .i64 m.st.clock,.slice fo.1 m.st.fols.length fo.2,.slice fe.1 m.st.fees.length fe.2,.slice it.1 m.st.itms.length it.2,.slice se.1 m.st.seas.length se.2,.int .i64 m.st.tFol,.int .i64 m.st.tFee,.int .i64 m.st.tItm,.int .i64 m.st.tSea]):=HB0.out.frm hf id;have Y1:Hid (Frm Nix w w1):=HF0.out.trans hf;have c8:=(HMb.out.cell 8);have c9:=(HMb.out.cell 9);simp at c8 c9;clear hf) | fail);go_ret;exact⟨by rw[HN.out];rfl,Y1.out.nix,λb hb=>by rw[HN.out] at hb;cases hb⟩
theorem aPut_2{w:World}{g:Nat}{G Gm:Nat→Prop}{Aa Aw:Option Addr}{ca cw:Nat}{a:Au}{m:Mv}{fo fe it se:Sl}{ts:List (Sl×Itm)}(h:AuAt w g G Aa ca Aw cw a)(hok:AuOk a)(hm:MvIn w Gm fo fe it se ts m)(hn:a.all.length≤10000)(hG:∀k,w.heap.size≤k→G k)(ha:I64 m.ev.a)(hb:I64 m.ev.b)(hp:plainM m=true)(he:m.err=0):Calls Tryz.prog 61 #[.pointer (some ⟨g,0,none⟩),.agg #[.int .i64 m.kind,.int .i64 m.ev.kind,.int .i64 m.ev.a,.int .i64 m.ev.b,.int .i64 m.ev.n,.string m.ev.s,.string m.ev.t,.string m.ev.u,.int .i64 m.err,.int .i64 m.last,.int .i64 m.snap,.int .i64 m.st.clock,.slice fo.1 m.st.fols.length fo.2,.slice fe.1 m.st.fees.length fe.2,.slice it.1 m.st.itms.length it.2,.slice se.1 m.st.seas.length se.2,.int .i64 m.st.tFol,.int .i64 m.st.tFee,.int .i64 m.st.tItm,.int .i64 m.st.tSea]] w (StepOut w g G (putA a m)):=by
 have KP:Hid (∀W,Frm Nix w W→Calls Tryz.prog 63 #[.agg #[.int .i64 m.kind,.int .i64 m.ev.kind,.int .i64 m.ev.a,.int .i64 m.ev.b,.int .i64 m.ev.n,.string m.ev.s,.string m.ev.t,.string m.ev.u,.int .i64 m.err,.int .i64 m.last,.int .i64 m.snap,.int .i64 m.st.clock,.slice fo.1 m.st.fols.length fo.2,.slice fe.1 m.st.fees.length fe.2,.slice it.1 m.st.itms.length it.2,.slice se.1 m.st.seas.length se.2,.int .i64 m.st.tFol,.int .i64 m.st.tFee,.int .i64 m.st.tItm,.int .i64 m.st.tSea]] W λe w'=>e=.returned (.bool (plainM m))∧Frm Nix W w'):=λW hW=>plain_any (hm.nix hW)
 have HPN:Hid ((plainM m=false∨(m.err≠0∧m.last≠0))→putA a m=none):=λh=>by unfold putA;rw[if_pos h]
 have HA:=h_ h;have HX:=h_ (And.intro hok (And.intro hn (And.intro hG (And.intro ha hb))));clear h hok hm hn hG ha hb;rw[hp] at KP;have e0:(m.err !=0)=false:=by simp[he]
 have HPl:Hid (¬(plainM m=false∨(m.err≠0∧m.last≠0))):=by
  rintro(h1 | ⟨h1,-⟩)
  ·rw[hp] at h1;cases h1
  ·exact h1 he
 have HH:=h_ (And.intro hp he);clear hp he;obtain⟨W0,hW0⟩:∃W0,W0=w.alloc (.cells #[.int .i64 m.kind,.int .i64 m.ev.kind,.int .i64 m.ev.a,.int .i64 m.ev.b,.int .i64 m.ev.n,.string m.ev.s,.string m.ev.t,.string m.ev.u,.int .i64 m.err,.int .i64 m.last,.int .i64 m.snap,.int .i64 m.st.clock,.slice fo.1 m.st.fols.length fo.2,.slice fe.1 m.st.fees.length fe.2,.slice it.1 m.st.itms.length it.2,.slice se.1 m.st.seas.length se.2,.int .i64 m.st.tFol,.int .i64 m.st.tFee,.int .i64 m.st.tItm,.int .i64 m.st.tSea] 44):=⟨_,rfl⟩;have HW0:=h_ hW0;have HF0:Hid (Frm Nix w W0):=by unfold Hid;rw[hW0];exact(fR w).alloc _
 have HB0:Hid (Blk W0 w.heap.size 44 #[.int .i64 m.kind,.int .i64 m.ev.kind,.int .i64 m.ev.a,.int .i64 m.ev.b,.int .i64 m.ev.n,.string m.ev.s,.string m.ev.t,.string m.ev.u,.int .i64 m.err,.int .i64 m.last,.int .i64 m.snap,.int .i64 m.st.clock,.slice fo.1 m.st.fols.length fo.2,.slice fe.1 m.st.fees.length fe.2,.slice it.1 m.st.itms.length it.2,.slice se.1 m.st.seas.length se.2,.int .i64 m.st.tFol,.int .i64 m.st.tFee,.int .i64 m.st.tItm,.int .i64 m.st.tSea]):=by unfold Hid;rw[hW0];exact Blk.new w _ _
 clear hW0;go_enter Tryz.func61,Tryz.ntmps61;show Code.wp Tryz.prog (peel 0 (bodyOf Tryz.f61)) _ _ _
 refine peelK (k':=1) λK hK=>?_
 conv in hdC _=>whnf
 go_wp2;rw[←HW0.out];refine peelK (k':=2) λK hK=>?_
 conv in hdC _=>whnf
 go_wp2_with (first | (refine mvList (l:=[.int .i64 m.kind,.int .i64 m.ev.kind,.int .i64 m.ev.a,.int .i64 m.ev.b,.int .i64 m.ev.n,.string m.ev.s,.string m.ev.t,.string m.ev.u,.int .i64 m.err,.int .i64 m.last,.int .i64 m.snap,.int .i64 m.st.clock,.slice fo.1 m.st.fols.length fo.2,.slice fe.1 m.st.fees.length fe.2,.slice it.1 m.st.itms.length it.2,.slice se.1 m.st.seas.length se.2,.int .i64 m.st.tFol,.int .i64 m.st.tFee,.int .i64 m.st.tItm,.int .i64 m.st.tSea]) HB0.out rfl _ rfl rfl rfl ?_) | (go_at_call 63;refine(KP.out _ HF0.out).mono ?_;rintro e w1 ⟨rfl,hf⟩;have HMb:Hid (Blk w1 w.heap.size 44 #[.int .i64 m.kind,.int .i64 m.ev.kind,.int .i64 m.ev.a,.int .i64 m.ev.b,.int .i64 m.ev.n,.string m.ev.s,.string m.ev.t,.string m.ev.u,.int .i64 m.err,.int .i64 m.last,.int .i64 m.snap,.int .i64 m.st.clock,.slice fo.1 m.st.fols.length fo.2,.slice fe.1 m.st.fees.length fe.2,.slice it.1 m.st.itms.length it.2,.slice se.1 m.st.seas.length se.2,.int .i64 m.st.tFol,.int .i64 m.st.tFee,.int .i64 m.st.tItm,.int .i64 m.st.tSea]):=HB0.out.frm hf id;have Y1:Hid (Frm Nix w w1):=HF0.out.trans hf;have c8:=(HMb.out.cell 8);have c9:=(HMb.out.cell 9);simp at c8 c9;clear hf) | fail);exact PutA0 (w:=w) (HA.out.nix Y1.out) HX.out.1 HMb.out Y1.out.nix HX.out.2.1 (λk hk=>HX.out.2.2.1 k (Nat.le_trans Y1.out.size hk)) HX.out.2.2.2.1 HX.out.2.2.2.2 HPl.out
theorem aPut_3{w:World}{g:Nat}{G Gm:Nat→Prop}{Aa Aw:Option Addr}{ca cw:Nat}{a:Au}{m:Mv}{fo fe it se:Sl}{ts:List (Sl×Itm)}(h:AuAt w g G Aa ca Aw cw a)(hok:AuOk a)(hm:MvIn w Gm fo fe it se ts m)(hn:a.all.length≤10000)(hG:∀k,w.heap.size≤k→G k)(ha:I64 m.ev.a)(hb:I64 m.ev.b)(hp:plainM m=true)(he:¬m.err=0)(hl:m.last=0):Calls Tryz.prog 61 #[.pointer (some ⟨g,0,none⟩),.agg #[.int .i64 m.kind,.int .i64 m.ev.kind,.int .i64 m.ev.a,.int .i64 m.ev.b,.int .i64 m.ev.n,.string m.ev.s,.string m.ev.t,.string m.ev.u,.int .i64 m.err,.int .i64 m.last,.int .i64 m.snap,.int .i64 m.st.clock,.slice fo.1 m.st.fols.length fo.2,.slice fe.1 m.st.fees.length fe.2,.slice it.1 m.st.itms.length it.2,.slice se.1 m.st.seas.length se.2,.int .i64 m.st.tFol,.int .i64 m.st.tFee,.int .i64 m.st.tItm,.int .i64 m.st.tSea]] w (StepOut w g G (putA a m)):=by
 have KP:Hid (∀W,Frm Nix w W→Calls Tryz.prog 63 #[.agg #[.int .i64 m.kind,.int .i64 m.ev.kind,.int .i64 m.ev.a,.int .i64 m.ev.b,.int .i64 m.ev.n,.string m.ev.s,.string m.ev.t,.string m.ev.u,.int .i64 m.err,.int .i64 m.last,.int .i64 m.snap,.int .i64 m.st.clock,.slice fo.1 m.st.fols.length fo.2,.slice fe.1 m.st.fees.length fe.2,.slice it.1 m.st.itms.length it.2,.slice se.1 m.st.seas.length se.2,.int .i64 m.st.tFol,.int .i64 m.st.tFee,.int .i64 m.st.tItm,.int .i64 m.st.tSea]] W λe w'=>e=.returned (.bool (plainM m))∧Frm Nix W w'):=λW hW=>plain_any (hm.nix hW)
 have HPN:Hid ((plainM m=false∨(m.err≠0∧m.last≠0))→putA a m=none):=λh=>by unfold putA;rw[if_pos h]
 have HA:=h_ h;have HX:=h_ (And.intro hok (And.intro hn (And.intro hG (And.intro ha hb))));clear h hok hm hn hG ha hb;rw[hp] at KP;have e0:(m.err !=0)=true:=by simp[he]
 have e1:(m.last !=0)=false:=by simp[hl]
 have HPl:Hid (¬(plainM m=false∨(m.err≠0∧m.last≠0))):=by
  rintro(h1 | ⟨-,h1⟩)
  ·rw[hp] at h1;cases h1
  ·exact h1 hl
 have HH:=h_ (And.intro hp hl);clear hp he hl;obtain⟨W0,hW0⟩:∃W0,W0=w.alloc (.cells #[.int .i64 m.kind,.int .i64 m.ev.kind,.int .i64 m.ev.a,.int .i64 m.ev.b,.int .i64 m.ev.n,.string m.ev.s,.string m.ev.t,.string m.ev.u,.int .i64 m.err,.int .i64 m.last,.int .i64 m.snap,.int .i64 m.st.clock,.slice fo.1 m.st.fols.length fo.2,.slice fe.1 m.st.fees.length fe.2,.slice it.1 m.st.itms.length it.2,.slice se.1 m.st.seas.length se.2,.int .i64 m.st.tFol,.int .i64 m.st.tFee,.int .i64 m.st.tItm,.int .i64 m.st.tSea] 44):=⟨_,rfl⟩;have HW0:=h_ hW0;have HF0:Hid (Frm Nix w W0):=by unfold Hid;rw[hW0];exact(fR w).alloc _
 have HB0:Hid (Blk W0 w.heap.size 44 #[.int .i64 m.kind,.int .i64 m.ev.kind,.int .i64 m.ev.a,.int .i64 m.ev.b,.int .i64 m.ev.n,.string m.ev.s,.string m.ev.t,.string m.ev.u,.int .i64 m.err,.int .i64 m.last,.int .i64 m.snap,.int .i64 m.st.clock,.slice fo.1 m.st.fols.length fo.2,.slice fe.1 m.st.fees.length fe.2,.slice it.1 m.st.itms.length it.2,.slice se.1 m.st.seas.length se.2,.int .i64 m.st.tFol,.int .i64 m.st.tFee,.int .i64 m.st.tItm,.int .i64 m.st.tSea]):=by unfold Hid;rw[hW0];exact Blk.new w _ _
 clear hW0;go_enter Tryz.func61,Tryz.ntmps61;show Code.wp Tryz.prog (peel 0 (bodyOf Tryz.f61)) _ _ _
 refine peelK (k':=1) λK hK=>?_
 conv in hdC _=>whnf
 go_wp2;rw[←HW0.out];refine peelK (k':=2) λK hK=>?_
 conv in hdC _=>whnf
 go_wp2_with (first | (refine mvList (l:=[.int .i64 m.kind,.int .i64 m.ev.kind,.int .i64 m.ev.a,.int .i64 m.ev.b,.int .i64 m.ev.n,.string m.ev.s,.string m.ev.t,.string m.ev.u,.int .i64 m.err,.int .i64 m.last,.int .i64 m.snap,.int .i64 m.st.clock,.slice fo.1 m.st.fols.length fo.2,.slice fe.1 m.st.fees.length fe.2,.slice it.1 m.st.itms.length it.2,.slice se.1 m.st.seas.length se.2,.int .i64 m.st.tFol,.int .i64 m.st.tFee,.int .i64 m.st.tItm,.int .i64 m.st.tSea]) HB0.out rfl _ rfl rfl rfl ?_) | (go_at_call 63;refine(KP.out _ HF0.out).mono ?_;rintro e w1 ⟨rfl,hf⟩;have HMb:Hid (Blk w1 w.heap.size 44 #[.int .i64 m.kind,.int .i64 m.ev.kind,.int .i64 m.ev.a,.int .i64 m.ev.b,.int .i64 m.ev.n,.string m.ev.s,.string m.ev.t,.string m.ev.u,.int .i64 m.err,.int .i64 m.last,.int .i64 m.snap,.int .i64 m.st.clock,.slice fo.1 m.st.fols.length fo.2,.slice fe.1 m.st.fees.length fe.2,.slice it.1 m.st.itms.length it.2,.slice se.1 m.st.seas.length se.2,.int .i64 m.st.tFol,.int .i64 m.st.tFee,.int .i64 m.st.tItm,.int .i64 m.st.tSea]):=HB0.out.frm hf id;have Y1:Hid (Frm Nix w w1):=HF0.out.trans hf;have c8:=(HMb.out.cell 8);have c9:=(HMb.out.cell 9);simp at c8 c9;clear hf) | fail);exact PutA0 (w:=w) (HA.out.nix Y1.out) HX.out.1 HMb.out Y1.out.nix HX.out.2.1 (λk hk=>HX.out.2.2.1 k (Nat.le_trans Y1.out.size hk)) HX.out.2.2.2.1 HX.out.2.2.2.2 HPl.out
theorem aPut_4{w:World}{g:Nat}{G Gm:Nat→Prop}{Aa Aw:Option Addr}{ca cw:Nat}{a:Au}{m:Mv}{fo fe it se:Sl}{ts:List (Sl×Itm)}(h:AuAt w g G Aa ca Aw cw a)(hok:AuOk a)(hm:MvIn w Gm fo fe it se ts m)(hn:a.all.length≤10000)(hG:∀k,w.heap.size≤k→G k)(ha:I64 m.ev.a)(hb:I64 m.ev.b)(hp:plainM m=true)(he:¬m.err=0)(hl:¬m.last=0):Calls Tryz.prog 61 #[.pointer (some ⟨g,0,none⟩),.agg #[.int .i64 m.kind,.int .i64 m.ev.kind,.int .i64 m.ev.a,.int .i64 m.ev.b,.int .i64 m.ev.n,.string m.ev.s,.string m.ev.t,.string m.ev.u,.int .i64 m.err,.int .i64 m.last,.int .i64 m.snap,.int .i64 m.st.clock,.slice fo.1 m.st.fols.length fo.2,.slice fe.1 m.st.fees.length fe.2,.slice it.1 m.st.itms.length it.2,.slice se.1 m.st.seas.length se.2,.int .i64 m.st.tFol,.int .i64 m.st.tFee,.int .i64 m.st.tItm,.int .i64 m.st.tSea]] w (StepOut w g G (putA a m)):=by
 have KP:Hid (∀W,Frm Nix w W→Calls Tryz.prog 63 #[.agg #[.int .i64 m.kind,.int .i64 m.ev.kind,.int .i64 m.ev.a,.int .i64 m.ev.b,.int .i64 m.ev.n,.string m.ev.s,.string m.ev.t,.string m.ev.u,.int .i64 m.err,.int .i64 m.last,.int .i64 m.snap,.int .i64 m.st.clock,.slice fo.1 m.st.fols.length fo.2,.slice fe.1 m.st.fees.length fe.2,.slice it.1 m.st.itms.length it.2,.slice se.1 m.st.seas.length se.2,.int .i64 m.st.tFol,.int .i64 m.st.tFee,.int .i64 m.st.tItm,.int .i64 m.st.tSea]] W λe w'=>e=.returned (.bool (plainM m))∧Frm Nix W w'):=λW hW=>plain_any (hm.nix hW)
 have HPN:Hid ((plainM m=false∨(m.err≠0∧m.last≠0))→putA a m=none):=λh=>by unfold putA;rw[if_pos h]
 have HA:=h_ h;have HX:=h_ (And.intro hok (And.intro hn (And.intro hG (And.intro ha hb))));clear h hok hm hn hG ha hb;rw[hp] at KP;have e0:(m.err !=0)=true:=by simp[he]
 have e1:(m.last !=0)=true:=by simp[hl]
 have HN:=h_ (HPN.out (.inr ⟨he,hl⟩));have HH:=h_ hp;clear hp he hl;obtain⟨W0,hW0⟩:∃W0,W0=w.alloc (.cells #[.int .i64 m.kind,.int .i64 m.ev.kind,.int .i64 m.ev.a,.int .i64 m.ev.b,.int .i64 m.ev.n,.string m.ev.s,.string m.ev.t,.string m.ev.u,.int .i64 m.err,.int .i64 m.last,.int .i64 m.snap,.int .i64 m.st.clock,.slice fo.1 m.st.fols.length fo.2,.slice fe.1 m.st.fees.length fe.2,.slice it.1 m.st.itms.length it.2,.slice se.1 m.st.seas.length se.2,.int .i64 m.st.tFol,.int .i64 m.st.tFee,.int .i64 m.st.tItm,.int .i64 m.st.tSea] 44):=⟨_,rfl⟩;have HW0:=h_ hW0;have HF0:Hid (Frm Nix w W0):=by unfold Hid;rw[hW0];exact(fR w).alloc _
 have HB0:Hid (Blk W0 w.heap.size 44 #[.int .i64 m.kind,.int .i64 m.ev.kind,.int .i64 m.ev.a,.int .i64 m.ev.b,.int .i64 m.ev.n,.string m.ev.s,.string m.ev.t,.string m.ev.u,.int .i64 m.err,.int .i64 m.last,.int .i64 m.snap,.int .i64 m.st.clock,.slice fo.1 m.st.fols.length fo.2,.slice fe.1 m.st.fees.length fe.2,.slice it.1 m.st.itms.length it.2,.slice se.1 m.st.seas.length se.2,.int .i64 m.st.tFol,.int .i64 m.st.tFee,.int .i64 m.st.tItm,.int .i64 m.st.tSea]):=by unfold Hid;rw[hW0];exact Blk.new w _ _
 clear hW0;go_enter Tryz.func61,Tryz.ntmps61;show Code.wp Tryz.prog (peel 0 (bodyOf Tryz.f61)) _ _ _
 refine peelK (k':=1) λK hK=>?_
 conv in hdC _=>whnf
 go_wp2;rw[←HW0.out];refine peelK (k':=2) λK hK=>?_
 conv in hdC _=>whnf
 go_wp2_with (first | (refine mvList (l:=[.int .i64 m.kind,.int .i64 m.ev.kind,.int .i64 m.ev.a,.int .i64 m.ev.b,.int .i64 m.ev.n,.string m.ev.s,.string m.ev.t,.string m.ev.u,.int .i64 m.err,.int .i64 m.last,.int .i64 m.snap,.int .i64 m.st.clock,.slice fo.1 m.st.fols.length fo.2,.slice fe.1 m.st.fees.length fe.2,.slice it.1 m.st.itms.length it.2,.slice se.1 m.st.seas.length se.2,.int .i64 m.st.tFol,.int .i64 m.st.tFee,.int .i64 m.st.tItm,.int .i64 m.st.tSea]) HB0.out rfl _ rfl rfl rfl ?_) | (go_at_call 63;refine(KP.out _ HF0.out).mono ?_;rintro e w1 ⟨rfl,hf⟩;have HMb:Hid (Blk w1 w.heap.size 44 #[.int .i64 m.kind,.int .i64 m.ev.kind,.int .i64 m.ev.a,.int .i64 m.ev.b,.int .i64 m.ev.n,.string m.ev.s,.string m.ev.t,.string m.ev.u,.int .i64 m.err,.int .i64 m.last,.int .i64 m.snap,.int .i64 m.st.clock,.slice fo.1 m.st.fols.length fo.2,.slice fe.1 m.st.fees.length fe.2,.slice it.1 m.st.itms.length it.2,.slice se.1 m.st.seas.length se.2,.int .i64 m.st.tFol,.int .i64 m.st.tFee,.int .i64 m.st.tItm,.int .i64 m.st.tSea]):=HB0.out.frm hf id;have Y1:Hid (Frm Nix w w1):=HF0.out.trans hf;have c8:=(HMb.out.cell 8);have c9:=(HMb.out.cell 9);simp at c8 c9;clear hf) | fail);go_ret;exact⟨by rw[HN.out];rfl,Y1.out.nix,λb hb=>by rw[HN.out] at hb;cases hb⟩
theorem aPut_any{w:World}{g:Nat}{G Gm:Nat→Prop}{Aa Aw:Option Addr}{ca cw:Nat}{a:Au}{m:Mv}{fo fe it se:Sl}{ts:List (Sl×Itm)}(h:AuAt w g G Aa ca Aw cw a)(hok:AuOk a)(hm:MvIn w Gm fo fe it se ts m)(hn:a.all.length≤10000)(hG:∀k,w.heap.size≤k→G k)(ha:I64 m.ev.a)(hb:I64 m.ev.b):Calls Tryz.prog 61 #[.pointer (some ⟨g,0,none⟩),.agg #[.int .i64 m.kind,.int .i64 m.ev.kind,.int .i64 m.ev.a,.int .i64 m.ev.b,.int .i64 m.ev.n,.string m.ev.s,.string m.ev.t,.string m.ev.u,.int .i64 m.err,.int .i64 m.last,.int .i64 m.snap,.int .i64 m.st.clock,.slice fo.1 m.st.fols.length fo.2,.slice fe.1 m.st.fees.length fe.2,.slice it.1 m.st.itms.length it.2,.slice se.1 m.st.seas.length se.2,.int .i64 m.st.tFol,.int .i64 m.st.tFee,.int .i64 m.st.tItm,.int .i64 m.st.tSea]] w (StepOut w g G (putA a m)):=by
 cases hp:plainM m with
 | false=>exact aPut_1 h hok hm hn hG ha hb hp
 | true=>
   by_cases he:m.err=0
   ·exact aPut_2 h hok hm hn hG ha hb hp he
   ·by_cases hl:m.last=0
    ·exact aPut_3 h hok hm hn hG ha hb hp he hl
    ·exact aPut_4 h hok hm hn hG ha hb hp he hl
end Go.Proofs.YtaecjmiobllhmaaGreat
