/- Words. -/
import Derived.Test.YtaecjmiobllhmaaGreatGp80
import Derived.Test.YtaecjmiobllhmaaGreatGp85
import Derived.Test.YtaecjmiobllhmaaGreatGp30
import Derived.Test.YtaecjmiobllhmaaGreatGp14
import Derived.Test.YtaecjmiobllhmaaGreatGp68
import Derived.Deep.RegionHeld3
import Derived.BigQuiet
import Derived.Test.YtaecjmiobllhmaaGreatGp13
set_option linter.unusedVariables false
set_option linter.unusedSimpArgs false
set_option maxRecDepth 100000
set_option maxHeartbeats 16000000
namespace Go.Proofs.YtaecjmiobllhmaaGreat
open Go.RowKit Go.Lib
section
theorem elemMv:ElemK Tryz.prog 22 44 20 248:=⟨Tryz.underlying22,⟨.agg #[.int .i64 0,.int .i64 0,.int .i64 0,.int .i64 0,.int .i64 0,.string ByteArray.empty,.string ByteArray.empty,.string ByteArray.empty,.int .i64 0,.int .i64 0,.int .i64 0,.int .i64 0,.slice none 0 0,.slice none 0 0,.slice none 0 0,.slice none 0 0,.int .i64 0,.int .i64 0,.int .i64 0,.int .i64 0],by kernel_rfl,rfl⟩,by decide⟩
def dOf(m:Mv):MvD:=⟨(none,0),(none,0),(none,0),(none,0),[],m⟩
def mvc(m:Mv):List Value:=(dOf m).cells
structure TelAt(w1 wr:World)(bs:Nat)(av mv:Value)(fo fe it se:Sl)(ts:List (Sl×Itm))(s:St)(all:List Ev)(ms:List Mv):Prop where
 rA:RowK 42 7 w1 wr av all.length (all.flatMap Ev.cells)
 rM:RowK 44 20 w1 wr mv ms.length (ms.flatMap mvc)
 blk:Blk wr bs 36 #[.int .i64 s.clock,.slice fo.1 s.fols.length fo.2,.slice fe.1 s.fees.length fe.2,.slice it.1 s.itms.length it.2,.slice se.1 s.seas.length se.2,.int .i64 s.tFol,.int .i64 s.tFee,.int .i64 s.tItm,.int .i64 s.tSea]
 st:StIn wr (λj=>bs<j∧¬av.ownBlock=some j∧¬mv.ownBlock=some j) fo fe it se ts s
 lo:w1.heap.size≤bs
section
variable {w1 wr w8:World} {bs:Nat} {av mv:Value} {fo fe it se:Sl} {ts:List (Sl×Itm)} {s:St} {all:List Ev} {ms:List Mv}
theorem TelAt.nix(h:TelAt w1 wr bs av mv fo fe it se ts s all ms)(hf:Frm Nix wr w8):TelAt w1 w8 bs av mv fo fe it se ts s all ms:=⟨h.rA.more hf,h.rM.more hf,h.blk.frm hf id,h.st.nix hf,h.lo⟩
theorem TelAt.put(h:TelAt w1 wr bs av mv fo fe it se ts s all ms)(hf:Frm Nix wr w8){fo' fe' it' se':Sl}{ts':List (Sl×Itm)}{s':St}(hs:StIn w8 (λj=>((bs<j∧¬av.ownBlock=some j∧¬mv.ownBlock=some j)∧j<wr.heap.size)∨wr.heap.size≤j) fo' fe' it' se' ts' s'):
  TelAt w1 (w8.setCells bs 0 [.int .i64 s'.clock,.slice fo'.1 s'.fols.length fo'.2,.slice fe'.1 s'.fees.length fe'.2,.slice it'.1 s'.itms.length it'.2,.slice se'.1 s'.seas.length se'.2,.int .i64 s'.tFol,.int .i64 s'.tFee,.int .i64 s'.tItm,.int .i64 s'.tSea]) bs av mv fo' fe' it' se' ts' s' all ms:=by
 have h8:=h.nix hf;have f1:Frm (λk=>k=bs) w8 (w8.setCells bs 0 [.int .i64 s'.clock,.slice fo'.1 s'.fols.length fo'.2,.slice fe'.1 s'.fees.length fe'.2,.slice it'.1 s'.itms.length it'.2,.slice se'.1 s'.seas.length se'.2,.int .i64 s'.tFol,.int .i64 s'.tFee,.int .i64 s'.tItm,.int .i64 s'.tSea]):=Frm.setCells _ 0 (Frm.refl _ _) (.inl rfl);have hb:=h.blk.lt;refine⟨h8.rA.far f1 (λk e=>by subst e;exact h.lo) (λk hk e=>by subst e;exact h8.rA.ne_blk h8.blk (by decide) hk),h8.rM.far f1 (λk e=>by subst e;exact h.lo) (λk hk e=>by subst e;exact h8.rM.ne_blk h8.blk (by decide) hk),?_,(hs.mono λj hj=>?_).frm f1 (λk hk e=>by have:=hk.1;omega),h.lo⟩
 ·have q:=Blk.putL [.int .i64 s'.clock,.slice fo'.1 s'.fols.length fo'.2,.slice fe'.1 s'.fees.length fe'.2,.slice it'.1 s'.itms.length it'.2,.slice se'.1 s'.seas.length se'.2,.int .i64 s'.tFol,.int .i64 s'.tFee,.int .i64 s'.tItm,.int .i64 s'.tSea] 0 h8.blk
  rw[putL9] at q;exact q
 ·rcases hj with hj | hj
  ·exact hj.1
  ·exact⟨by omega,λe=>by have:=(h.rA.own.lt j e).2;omega,λe=>by have:=(h.rM.own.lt j e).2;omega⟩
theorem TelAt.ev(h:TelAt w1 wr bs av mv fo fe it se ts s all ms){W:World}(hf:Frm Nix wr W)(e:Ev)(hn:all.length≤100000):
  ∃v4 w4,(∀ty,(Builtin.append_ #[30,30] ty #[av,.slice (some ⟨W.heap.size,0,none⟩) 1 1]).run Tryz.prog (W.alloc (.cells #[.int .i64 e.kind,.int .i64 e.a,.int .i64 e.b,.int .i64 e.n,.string e.s,.string e.t,.string e.u] 42))=.ok v4 w4)∧TelAt w1 w4 bs v4 mv fo fe it se ts s (all++[e]) ms:=by
 obtain⟨v4,w4,hrun,hr,hf4,hat⟩:=(h.rA.more hf).push elemEv e.cells rfl (by intro u hu;simp[Ev.cells] at hu;rcases hu with rfl | rfl | rfl | rfl | rfl | rfl | rfl<;>rfl) (by unfold maxLen;omega) (by omega);have hA:Frm Nix wr (W.alloc (.cells e.cells.toArray 42)):=hf.alloc _;have hsz:=hf.size;refine⟨v4,w4,hrun,?_,(h.rM.more hA).far hf4 (λk hk=>(h.rA.own.lt k hk).1) (λk hk hk2=>rowK_apart h.rM h.rA (by decide) hk hk2),(h.blk.frm hA id).frm hf4 (λhk=>h.rA.ne_blk h.blk (by decide) hk),((h.st.old.nix hA).frm hf4 (λk hk hk2=>hk.1.2.1 hk2)).mono λj hj=>⟨hj.1.1,λe=>?_,hj.1.2.2⟩,h.lo⟩
 ·rw[List.length_append,List.flatMap_append]
  simpa using hr
 ·rcases hat with q | q
  ·exact hj.1.2.1 (q ▸ e)
  ·rw[q] at e
   injection e with e;have:=hj.2;omega
theorem TelAt.mv_(h:TelAt w1 wr bs av mv fo fe it se ts s all ms){W:World}(hf:Frm Nix wr W)(m:Mv)(hn:ms.length≤100000):
  ∃v4 w4,(∀ty,(Builtin.append_ #[22,22] ty #[mv,.slice (some ⟨W.heap.size,0,none⟩) 1 1]).run Tryz.prog (W.alloc (.cells (mvc m).toArray 44))=.ok v4 w4)∧TelAt w1 w4 bs av v4 fo fe it se ts s all (ms++[m]):=by
 obtain⟨v4,w4,hrun,hr,hf4,hat⟩:=(h.rM.more hf).push elemMv (mvc m) rfl (by intro u hu;simp[mvc,dOf,MvD.cells] at hu;rcases hu with rfl | rfl | rfl | rfl | rfl | rfl | rfl | rfl | rfl | rfl | rfl | rfl | rfl | rfl | rfl | rfl | rfl | rfl | rfl | rfl<;>rfl) (by unfold maxLen;omega) (by omega);have hA:Frm Nix wr (W.alloc (.cells (mvc m).toArray 44)):=hf.alloc _;have hsz:=hf.size;refine⟨v4,w4,hrun,(h.rA.more hA).far hf4 (λk hk=>(h.rM.own.lt k hk).1) (λk hk hk2=>rowK_apart h.rA h.rM (by decide) hk hk2),?_,(h.blk.frm hA id).frm hf4 (λhk=>h.rM.ne_blk h.blk (by decide) hk),((h.st.old.nix hA).frm hf4 (λk hk hk2=>hk.1.2.2 hk2)).mono λj hj=>⟨hj.1.1,hj.1.2.1,λe=>?_⟩,h.lo⟩
 ·rw[List.length_append,List.flatMap_append]
  simpa using hr
 ·rcases hat with q | q
  ·exact hj.1.2.2 (q ▸ e)
  ·rw[q] at e
   injection e with e;have:=hj.2;omega
end
theorem tellT_mv(y:Int):∀(l:List Ev),∀m∈(tellT y l).mv,m.st=st0∧(m.ev=ev0∨m.ev∈l):=by
 have key:∀(l all:List Ev) (t:Tl),(∀m∈t.mv,m.st=st0∧(m.ev=ev0∨m.ev∈all))→∀m∈(l.foldl (stepT y) t).mv,m.st=st0∧(m.ev=ev0∨m.ev∈all++l):=by
  intro l
  induction l with
  | nil=>
    intro all t h m hm;rw[List.append_nil]
    exact h m hm
  | cons e l ih=>
    intro all t h
    have h2:∀m∈(stepT y t e).mv,m.st=st0∧(m.ev=ev0∨m.ev∈all++[e]):=by
     have h0:∀m∈t.mv,m.st=st0∧(m.ev=ev0∨m.ev∈all++[e]):=λm hm=>⟨(h m hm).1,(h m hm).2.imp id λq=>by simp[q]⟩
     have h3:∀n:Int,(putM e n).st=st0∧((putM e n).ev=ev0∨(putM e n).ev∈all++[e]):=λn=>⟨rfl,.inr (by show e∈all++[e];simp)⟩
     have h4:syncM.st=st0∧(syncM.ev=ev0∨syncM.ev∈all++[e]):=⟨rfl,.inl rfl⟩;unfold stepT;intro m hm;split at hm
     ·split at hm
      ·simp only[List.mem_append,List.mem_singleton] at hm
       rcases hm with (hm | rfl) | rfl
       ·exact h0 m hm
       ·exact h3 _
       ·exact h4
      ·simp only[List.mem_append,List.mem_singleton] at hm
       rcases hm with hm | rfl
       ·exact h0 m hm
       ·exact h3 _
     ·exact h0 m hm
    have q:=ih (all++[e]) (stepT y t e) h2;rw[List.append_assoc] at q;exact q
 intro l;have q:=key l [] tl0 (λm hm=>by cases hm)
 simpa [tellT] using q
theorem mvs_of{w:World}{G:Nat→Prop}{v:Sl}{l:List Ev}{y:Int}(hnum:∀e∈l,I64 e.a∧I64 e.b)(h:SlIn w G 20 v (tellT y l).mv.length ((tellT y l).mv.flatMap mvc)):MvsIn w G v ((tellT y l).mv.map dOf)∧msOf ((tellT y l).mv.map dOf)=(tellT y l).mv:=by
 have hm:=tellT_mv y l;refine⟨⟨?_,λd hd=>?_,λd hd=>?_⟩,?_⟩
 ·rw[List.length_map,List.flatMap_map]
  exact h
 ·obtain⟨m,hm2,rfl⟩:=List.mem_map.1 hd
  have:=(hm m hm2).1;exact⟨by show StIn w G (none,0) (none,0) (none,0) (none,0) [] m.st;rw[this];exact StIn.zero _ _,by show StSmall m.st;rw[this];exact small0⟩
 ·obtain⟨m,hm2,rfl⟩:=List.mem_map.1 hd
  show I64 m.ev.a∧I64 m.ev.b
  rcases(hm m hm2).2 with q | q
  ·rw[q];unfold I64 ev0;decide
  ·exact hnum _ q
 ·unfold msOf
  rw[List.map_map];exact List.map_id' _
theorem TelAt.mp{w1 wr:World}{bs:Nat}{av mv:Value}{fo fe it se:Sl}{ts:List (Sl×Itm)}{s:St}{all:List Ev}{ms:List Mv}(h:TelAt w1 wr bs av mv fo fe it se ts s all ms){W:World}(hf:Frm Nix wr W)(e:Ev)(n:Int)(hn:ms.length≤100000):
  ∃v4 w4,(∀ty,(Builtin.append_ #[22,22] ty #[mv,.slice (some ⟨W.heap.size,0,none⟩) 1 1]).run Tryz.prog (W.alloc (.cells #[.int .i64 1,.int .i64 e.kind,.int .i64 e.a,.int .i64 e.b,.int .i64 e.n,.string e.s,.string e.t,.string e.u,.int .i64 0,.int .i64 n,.int .i64 0,.int .i64 0,.slice none 0 0,.slice none 0 0,.slice none 0 0,.slice none 0 0,.int .i64 0,.int .i64 0,.int .i64 0,.int .i64 0] 44))=.ok v4 w4)∧TelAt w1 w4 bs av v4 fo fe it se ts s all (ms++[putM e n]):=h.mv_ hf (putM e n) hn
theorem TelAt.my{w1 wr:World}{bs:Nat}{av mv:Value}{fo fe it se:Sl}{ts:List (Sl×Itm)}{s:St}{all:List Ev}{ms:List Mv}(h:TelAt w1 wr bs av mv fo fe it se ts s all ms){W:World}(hf:Frm Nix wr W)(hn:ms.length≤100000):
  ∃v4 w4,(∀ty,(Builtin.append_ #[22,22] ty #[mv,.slice (some ⟨W.heap.size,0,none⟩) 1 1]).run Tryz.prog (W.alloc (.cells #[.int .i64 2,.int .i64 0,.int .i64 0,.int .i64 0,.int .i64 0,.string ⟨#[]⟩,.string ⟨#[]⟩,.string ⟨#[]⟩,.int .i64 0,.int .i64 0,.int .i64 0,.int .i64 0,.slice none 0 0,.slice none 0 0,.slice none 0 0,.slice none 0 0,.int .i64 0,.int .i64 0,.int .i64 0,.int .i64 0] 44))=.ok v4 w4)∧TelAt w1 w4 bs av v4 fo fe it se ts s all (ms++[syncM]):=h.mv_ hf syncM hn
theorem mvc_one(m:Mv):∀u∈mvc m,u.oneCell'=true:=by
 intro u hu;simp[mvc,dOf,MvD.cells] at hu;rcases hu with rfl | rfl | rfl | rfl | rfl | rfl | rfl | rfl | rfl | rfl | rfl | rfl | rfl | rfl | rfl | rfl | rfl | rfl | rfl | rfl<;>rfl
theorem mvs_len(y:Int)(l:List Ev):(tellT y l).mv.length≤l.length+1:=by
 have h1:=(tellT_ok y l).len;have h2:=tellT_len y l;split at h1<;>omega
theorem may_all{w:World}{G:Nat→Prop}{v:Sl}{l:List Ev}{y:Int}(hnum:∀e∈l,I64 e.a∧I64 e.b)(hl:l.length≤60)(h:SlIn w G 20 v (tellT y l).mv.length ((tellT y l).mv.flatMap mvc)):
  Calls Tryz.prog 11 #[.slice v.1 (tellT y l).mv.length v.2] w λe w'=>e=.returned (.bool true)∧Frm Nix w w':=by
 obtain⟨h1,h2⟩:=mvs_of hnum h;have hn:=mvs_len y l;have q:=May_any h1 (by rw[List.length_map];omega);rw[h2,List.length_map,tells_may,decide_eq_true rfl] at q;exact q
theorem may_open{w:World}{G Gx:Nat→Prop}{v:Sl}{l:List Ev}{y last:Int}{fo fe it se:Sl}{ts:List (Sl×Itm)}{x:St}(hnum:∀e∈l,I64 e.a∧I64 e.b)(hl:l.length≤60)(hx:StIn w Gx fo fe it se ts x)(hsm:StSmall x)
  (h:SlIn w G 20 v ((tellT y l).mv.length+1) ((tellT y l).mv.flatMap mvc++[.int .i64 4,.int .i64 0,.int .i64 0,.int .i64 0,.int .i64 0,.string ⟨#[]⟩,.string ⟨#[]⟩,.string ⟨#[]⟩,.int .i64 0,.int .i64 last,.int .i64 0,.int .i64 x.clock,.slice fo.1 x.fols.length fo.2,.slice fe.1 x.fees.length fe.2,.slice it.1 x.itms.length it.2,.slice se.1 x.seas.length se.2,.int .i64 x.tFol,.int .i64 x.tFee,.int .i64 x.tItm,.int .i64 x.tSea])):
  Calls Tryz.prog 11 #[.slice v.1 ((tellT y l).mv.length+1:Nat) v.2] w λe w'=>e=.returned (.bool (decide ((tellT y l).sure≤last)&&decide (last≤(tellT y l).all.length)&&decide (x=foldE st0 ((tellT y l).all.take last.toNat))))∧Frm Nix w w':=by
 have hm:=tellT_mv y l;have hn:=mvs_len y l
 have e2:msOf ((tellT y l).mv.map dOf++[⟨fo,fe,it,se,ts,openM last x⟩])=(tellT y l).mv++[openM last x]:=by
  unfold msOf;rw[List.map_append,List.map_map]
  congr 1
  exact List.map_id' _
 have e3:((tellT y l).mv.map dOf++[(⟨fo,fe,it,se,ts,openM last x⟩:MvD)]).length=(tellT y l).mv.length+1:=by rw[List.length_append,List.length_map];rfl
 have h1:MvsIn w (λ_=>True) v ((tellT y l).mv.map dOf++[⟨fo,fe,it,se,ts,openM last x⟩]):=by
  refine⟨?_,λd hd=>?_,λd hd=>?_⟩
  ·rw[e3,List.flatMap_append,List.flatMap_map,List.flatMap_singleton]
   exact h.mono λ_ _=>trivial
  ·rcases List.mem_append.1 hd with hd | hd
   ·obtain⟨m,hm2,rfl⟩:=List.mem_map.1 hd
    have:=(hm m hm2).1;exact⟨by show StIn w _ (none,0) (none,0) (none,0) (none,0) [] m.st;rw[this];exact StIn.zero _ _,by show StSmall m.st;rw[this];exact small0⟩
   ·rw[List.mem_singleton.1 hd]
    exact⟨hx.mono λ_ _=>trivial,hsm⟩
  ·rcases List.mem_append.1 hd with hd | hd
   ·obtain⟨m,hm2,rfl⟩:=List.mem_map.1 hd
    show I64 m.ev.a∧I64 m.ev.b
    rcases(hm m hm2).2 with q | q
    ·rw[q];unfold I64 ev0;decide
    ·exact hnum _ q
   ·rw[List.mem_singleton.1 hd]
    show I64 ev0.a∧I64 ev0.b
    unfold I64 ev0;decide
 have q:=May_any h1 (by rw[e3];omega);have e4:=tells_open y l last x;rw[List.length_append,List.length_singleton] at e4;rw[e2,e3,e4] at q;exact q
theorem stInfo9:(Tryz.prog.info? 36).map (·.size)=some 9:=by kernel_rfl
theorem stStore{ops:Array Oper}{rest:List Oper}{op:Oper}{ac:Act}{W:World}{Q:Exit→Act→World→Prop}{b:Nat}{z:Array Value}{l:List Value}(hb:Blk W b 36 z)(hz:z.size=9)(hl:l.length=9)(h1:∀u∈l,u.oneCell'=true)(x y:Operand)
  (hgd:op.guard=none) (ho:op.op=.store 36 x y) (hx:ac.eval x=.pointer (some ⟨b,0,none⟩)) (hy:ac.eval y=.agg l.toArray)
  (hk:∀W',W'=W.setCells b 0 l→wpList Tryz.prog ops Q rest (ac.put op.dst undef) W'):wpList Tryz.prog ops Q (op::rest) ac W:=
 wpList_store_mid hgd 36 x y ho b 0 l.toArray hx hy (λj hj=>by
   have hj2:j<9:=by simpa [hl] using hj
   rw[Nat.zero_add];refine⟨?_,hb.frozen j⟩;rw[hb.cell,Array.getElem?_eq_getElem (by omega)];rfl) (by simp only[List.size_toArray];rw[hl];exact stInfo9) (all_oneCell_toArray h1)
  (hk _ rfl)
end
theorem tellsR10{Q:Exit→Act→World→Prop}{wr:World}{bx b off k n c:Nat}{x y:St}{fo fe it se:Sl}{ev:Ev}{G:Nat→Prop}{bb:Bool}
  (hb:Blk wr bx 36 #[.int .i64 x.clock,.slice fo.1 x.fols.length fo.2,.slice fe.1 x.fees.length fe.2,.slice it.1 x.itms.length it.2,.slice se.1 x.seas.length se.2,.int .i64 x.tFol,.int .i64 x.tFee,.int .i64 x.tItm,.int .i64 x.tSea]) (hev:∀W,Frm Nix wr W→(W.cell? ⟨b,off+k * 7,none⟩=some (.int .i64 ev.kind)∧W.cell? ⟨b,off+k * 7+1,none⟩=some (.int .i64 ev.a)∧W.cell? ⟨b,off+k * 7+2,none⟩=some (.int .i64 ev.b)∧W.cell? ⟨b,off+k * 7+3,none⟩=some (.int .i64 ev.n)∧W.cell? ⟨b,off+k * 7+4,none⟩=some (.string ev.s)∧W.cell? ⟨b,off+k * 7+5,none⟩=some (.string ev.t)∧W.cell? ⟨b,off+k * 7+6,none⟩=some (.string ev.u))) (hk:k<n) (hG:∀k,G k→k<wr.heap.size)
  (hKA:∀W,Frm Nix wr W→Calls Tryz.prog 14 #[stV fo fe it se x,.agg #[.int .i64 ev.kind,.int .i64 ev.a,.int .i64 ev.b,.int .i64 ev.n,.string ev.s,.string ev.t,.string ev.u]] W λr w'=>∃(fo fe it se:Sl) (ts:List (Sl×Itm)),r=.returned (.tuple #[stV fo fe it se y,.bool bb])∧StIn w' (λk=>G k∨W.heap.size≤k) fo fe it se ts y∧Frm Nix W w')
  {u1 u2 u3 u4 u5 u6 u7 u8 u9 u10 u12 u14 u15 u16 u17 u18 u19 u20 u21 u22 u23 u24 u25 u26 u27 u28 u29 u30 u31 u32 u33 u34 u35 u36 u37 u38 u39 u40 u41 u42 u43 u44 u45 u46 u47 u48 u49 u50 u51 u52 u53 u54 u55 u56 u57 u58 u59 u60 u61 u62 u63 u64 u65 u66 u67 u68 u69 u70 u71 u72 u73 u74 u75 u76 u77 u78 u79 u80 u81 u82 u83 u84 u85 u86 u87 u88 u89 u90 u91 u92 u93 u94 u95 u96 u97 u98 u99 u100 u101 u102 u103 u104 u105 u106 u107 u108 u109 u110 u111 u112 u113 u114 u115 u116 u117 u118 u119 u120 u121 u122 u123 u124 u125 u126 u127 u128 u129:Value} (hP:∀(e:_) (a:Act) (i:Nat) (v:Value) (w:World),Q (.panic e) (a.put (some i) v) w→Q (.panic e) a w) (hQ:∀(w9:World) (g:Nat) (foy fey ity sey:Sl) (tsy:List (Sl×Itm)) (z39 z40 z41 z42 z43 z44 z45 z46 z47:Value),wr.heap.size≤g→Frm Nix wr w9→Blk w9 g 36 #[.int .i64 y.clock,.slice foy.1 y.fols.length foy.2,.slice fey.1 y.fees.length fey.2,.slice ity.1 y.itms.length ity.2,.slice sey.1 y.seas.length sey.2,.int .i64 y.tFol,.int .i64 y.tFee,.int .i64 y.tItm,.int .i64 y.tSea]→StIn w9 (λk=>G k∨wr.heap.size≤k) foy fey ity sey tsy y→Q .normal ⟨#[.slice (some ⟨b,off,none⟩) n c,u1,u2,u3,u4,u5,u6,u7,u8,u9,u10,.pointer (some ⟨bx,0,none⟩),u12,.int .i64 k,.pointer (some ⟨g,0,none⟩),.bool bb,u16,u17,u18,u19,u20,u21,u22,u23,u24,u25,u26,u27,u28,u29,u30,u31,u32,u33,u34,u35,u36,u37,u38,z39,z40,z41,z42,z43,z44,z45,z46,z47,u48,u49,u50,u51,u52,u53,u54,u55,u56,u57,u58,u59,u60,u61,u62,u63,u64,u65,u66,u67,u68,u69,u70,u71,u72,u73,u74,u75,u76,u77,u78,u79,u80,u81,u82,u83,u84,u85,u86,u87,u88,u89,u90,u91,u92,u93,u94,u95,u96,u97,u98,u99,u100,u101,u102,u103,u104,u105,u106,u107,u108,u109,u110,u111,u112,u113,u114,u115,u116,u117,u118,u119,u120,u121,u122,u123,u124,u125,u126,u127,u128,u129],[]⟩ w9):
  Code.wp Tryz.prog (hdC (inC (hdC (sndC (loopC (inC (sndC (hdC (peel 6 (bodyOf Tryz.f4)))))))))) Q ⟨#[.slice (some ⟨b,off,none⟩) n c,u1,u2,u3,u4,u5,u6,u7,u8,u9,u10,.pointer (some ⟨bx,0,none⟩),u12,.int .i64 k,u14,u15,u16,u17,u18,u19,u20,u21,u22,u23,u24,u25,u26,u27,u28,u29,u30,u31,u32,u33,u34,u35,u36,u37,u38,u39,u40,u41,u42,u43,u44,u45,u46,u47,u48,u49,u50,u51,u52,u53,u54,u55,u56,u57,u58,u59,u60,u61,u62,u63,u64,u65,u66,u67,u68,u69,u70,u71,u72,u73,u74,u75,u76,u77,u78,u79,u80,u81,u82,u83,u84,u85,u86,u87,u88,u89,u90,u91,u92,u93,u94,u95,u96,u97,u98,u99,u100,u101,u102,u103,u104,u105,u106,u107,u108,u109,u110,u111,u112,u113,u114,u115,u116,u117,u118,u119,u120,u121,u122,u123,u124,u125,u126,u127,u128,u129],[]⟩ wr:=by
 have HC:Hid (∀W,Frm Nix wr W→(W.cell? ⟨bx,0,none⟩=some (.int .i64 x.clock)∧W.cell? ⟨bx,1,none⟩=some (.slice fo.1 x.fols.length fo.2)∧W.cell? ⟨bx,2,none⟩=some (.slice fe.1 x.fees.length fe.2)∧W.cell? ⟨bx,3,none⟩=some (.slice it.1 x.itms.length it.2)∧W.cell? ⟨bx,4,none⟩=some (.slice se.1 x.seas.length se.2)∧W.cell? ⟨bx,5,none⟩=some (.int .i64 x.tFol)∧W.cell? ⟨bx,6,none⟩=some (.int .i64 x.tFee)∧W.cell? ⟨bx,7,none⟩=some (.int .i64 x.tItm)∧W.cell? ⟨bx,8,none⟩=some (.int .i64 x.tSea))∧(W.cell? ⟨b,off+k * 7,none⟩=some (.int .i64 ev.kind)∧W.cell? ⟨b,off+k * 7+1,none⟩=some (.int .i64 ev.a)∧W.cell? ⟨b,off+k * 7+2,none⟩=some (.int .i64 ev.b)∧W.cell? ⟨b,off+k * 7+3,none⟩=some (.int .i64 ev.n)∧W.cell? ⟨b,off+k * 7+4,none⟩=some (.string ev.s)∧W.cell? ⟨b,off+k * 7+5,none⟩=some (.string ev.t)∧W.cell? ⟨b,off+k * 7+6,none⟩=some (.string ev.u))):=λW hW=>⟨blk9 (hb.frm hW id),hev W hW⟩
 have KA:=h_ hKA;have HP:=h_ hP;have HG:=h_ hG;have HQ:=h_ hQ;have HW0:Hid (Frm Nix wr wr.drew):=(fR wr).drew;have HWA:Hid (Frm Nix wr (wr.drew.alloc (.cells #[.int .i64 0,.slice none 0 0,.slice none 0 0,.slice none 0 0,.slice none 0 0,.int .i64 0,.int .i64 0,.int .i64 0,.int .i64 0] 36))):=HW0.out.alloc _;have HZ0:Hid (wr.heap.size≤wr.drew.heap.size):=HW0.out.size;have hki:(k:Int)<(n:Int):=by omega
 have hk0:(0:Int)≤(k:Int):=Int.natCast_nonneg _;clear hb hev hKA hP hQ hG;simp only[hdC,sndC,inC,loopC,peel,bodyOf,Tryz.f4];refine wp_region_held_drew (S:=λW=>(W.cell? ⟨bx,0,none⟩=some (.int .i64 x.clock)∧W.cell? ⟨bx,1,none⟩=some (.slice fo.1 x.fols.length fo.2)∧W.cell? ⟨bx,2,none⟩=some (.slice fe.1 x.fees.length fe.2)∧W.cell? ⟨bx,3,none⟩=some (.slice it.1 x.itms.length it.2)∧W.cell? ⟨bx,4,none⟩=some (.slice se.1 x.seas.length se.2)∧W.cell? ⟨bx,5,none⟩=some (.int .i64 x.tFol)∧W.cell? ⟨bx,6,none⟩=some (.int .i64 x.tFee)∧W.cell? ⟨bx,7,none⟩=some (.int .i64 x.tItm)∧W.cell? ⟨bx,8,none⟩=some (.int .i64 x.tSea))∧(W.cell? ⟨b,off+k * 7,none⟩=some (.int .i64 ev.kind)∧W.cell? ⟨b,off+k * 7+1,none⟩=some (.int .i64 ev.a)∧W.cell? ⟨b,off+k * 7+2,none⟩=some (.int .i64 ev.b)∧W.cell? ⟨b,off+k * 7+3,none⟩=some (.int .i64 ev.n)∧W.cell? ⟨b,off+k * 7+4,none⟩=some (.string ev.s)∧W.cell? ⟨b,off+k * 7+5,none⟩=some (.string ev.t)∧W.cell? ⟨b,off+k * 7+6,none⟩=some (.string ev.u))) (by kernel_rfl) (HC.out _ HW0.out) λhH=>?_
 refine tk (i:=0) HP rfl rfl hH ?_
 try simp only[lt,Act.put]
 refine tk (i:=1) HP rfl rfl hH ?_
 try simp only[lt,Act.put]
 refine tk (i:=2) HP rfl rfl hH ?_
 try simp only[lt,Act.put]
 refine tk (i:=3) HP rfl rfl hH ?_
 try simp only[lt,Act.put]
 refine tk (i:=4) HP rfl rfl hH ?_
 try simp only[lt,Act.put]
 refine rdy2 (i:=5) (j:=9) rfl rfl (λK hK=>?_) (λK hK=>?_)
 ·go_simp
  go_at_call 14;refine(KA.out _ HW0.out).mono ?_;rintro r w7 ⟨foy,fey,ity,sey,tsy,rfl,hs,hf⟩;have HS7:=h_ hs;have Z7:=h_ (HW0.out.trans hf);have HF7:=h_ hf;clear hs hf;unfold stV;dsimp only;refine hK.out _ _ (HC.out _ Z7.out) (λhH=>?_);clear hK K
  try simp only[lt,Act.put]
  refine tk (i:=6) HP rfl rfl hH ?_
  try simp only[lt,Act.put]
  refine tk (i:=7) HP rfl rfl hH ?_
  try simp only[lt,Act.put]
  refine tk (i:=8) HP rfl rfl hH ?_
  try simp only[lt,Act.put]
  refine rdy1 (i:=9) rfl (λK hK=>?_);go_simp;refine hK.out _ _ (HC.out _ (Z7.out.alloc _)) (λhH=>?_);clear hK K
  try simp only[lt,Act.put]
  refine rdy1 (i:=10) rfl (λK hK=>?_);go_simp;refine hK.out _ _ (HC.out _ (Z7.out.alloc _)) (λhH=>?_);clear hK K
  try simp only[lt,Act.put]
  refine tk (i:=11) HP rfl rfl hH ?_
  try simp only[lt,Act.put]
  refine wpAnyH_done (by kernel_rfl) ?_ _;exact HQ.out _ _ _ _ _ _ _ _ _ _ _ _ _ _ _ _ Z7.out.size (Z7.out.alloc _) (Blk.new w7 _ _) ((HS7.out.nix ((fR w7).alloc _)).mono λk hk=>hk.imp id λh=>by have:=HZ0.out;omega)
 ·go_simp
  refine hK.out _ _ (HC.out _ HWA.out) (λhH=>?_);clear hK K
  try simp only[lt,Act.put]
  refine rdy1 (i:=5) rfl (λK hK=>?_);go_simp;go_at_call 14;refine(KA.out _ HWA.out).mono ?_;rintro r w7 ⟨foy,fey,ity,sey,tsy,rfl,hs,hf⟩;have HS7:=h_ hs;have Z7:=h_ (HWA.out.trans hf);have HF7:=h_ hf;clear hs hf;unfold stV;dsimp only;refine hK.out _ _ (HC.out _ Z7.out) (λhH=>?_);clear hK K
  try simp only[lt,Act.put]
  refine tk (i:=6) HP rfl rfl hH ?_
  try simp only[lt,Act.put]
  refine tk (i:=7) HP rfl rfl hH ?_
  try simp only[lt,Act.put]
  refine tk (i:=8) HP rfl rfl hH ?_
  try simp only[lt,Act.put]
  refine rdy1 (i:=10) rfl (λK hK=>?_);have hb8:Blk w7 wr.heap.size 36 #[.int .i64 0,.slice none 0 0,.slice none 0 0,.slice none 0 0,.slice none 0 0,.int .i64 0,.int .i64 0,.int .i64 0,.int .i64 0]:=(Blk.new wr.drew _ _).frm HF7.out id;have g0:=hb8.frozen 0;have c0:=(hb8.cell 0).trans rfl;have g1:=hb8.frozen 1;have c1:=(hb8.cell 1).trans rfl;have g2:=hb8.frozen 2;have c2:=(hb8.cell 2).trans rfl;have g3:=hb8.frozen 3;have c3:=(hb8.cell 3).trans rfl;have g4:=hb8.frozen 4;have c4:=(hb8.cell 4).trans rfl;have g5:=hb8.frozen 5;have c5:=(hb8.cell 5).trans rfl;have g6:=hb8.frozen 6;have c6:=(hb8.cell 6).trans rfl;have g7:=hb8.frozen 7;have c7:=(hb8.cell 7).trans rfl;have g8:=hb8.frozen 8;have c8:=(hb8.cell 8).trans rfl;go_simp;obtain⟨w9,hw9⟩:∃w9,w9=w7.setCells wr.heap.size 0 [.int .i64 y.clock,.slice foy.1 y.fols.length foy.2,.slice fey.1 y.fees.length fey.2,.slice ity.1 y.itms.length ity.2,.slice sey.1 y.seas.length sey.2,.int .i64 y.tFol,.int .i64 y.tFee,.int .i64 y.tItm,.int .i64 y.tSea]:=⟨_,rfl⟩
  have hb9:Blk w9 wr.heap.size 36 #[.int .i64 y.clock,.slice foy.1 y.fols.length foy.2,.slice fey.1 y.fees.length fey.2,.slice ity.1 y.itms.length ity.2,.slice sey.1 y.seas.length sey.2,.int .i64 y.tFol,.int .i64 y.tFee,.int .i64 y.tItm,.int .i64 y.tSea]:=by
   have:=Blk.putL [.int .i64 y.clock,.slice foy.1 y.fols.length foy.2,.slice fey.1 y.fees.length fey.2,.slice ity.1 y.itms.length ity.2,.slice sey.1 y.seas.length sey.2,.int .i64 y.tFol,.int .i64 y.tFee,.int .i64 y.tItm,.int .i64 y.tSea] 0 hb8;rw[putL9] at this;rw[hw9];exact this
  have fe_:Frm (λk=>k=wr.heap.size) w7 w9:=by rw[hw9];exact Frm.setCells _ 0 (Frm.refl _ _) (.inl rfl)
  simp only[World.setCells] at hw9;rw[←hw9];have HF9:Hid (Frm Nix wr w9):=Z7.out.next fe_ (λk hk=>.inr (by omega))
  have HS9:Hid (StIn w9 (λk=>G k∨wr.heap.size≤k) foy fey ity sey tsy y):=(HS7.out.frm fe_ λk hk e=>by subst e;rcases hk with hk | hk;exact Nat.lt_irrefl _ (HG.out _ hk);simp at hk;omega).mono λk hk=>hk.imp id λh=>by simp at h;omega
  have HB9:=h_ hb9;clear fe_ hw9 hb9 hb8;refine hK.out _ _ (HC.out _ HF9.out) (λhH=>?_);clear hK K
  try simp only[lt,Act.put]
  refine tk (i:=11) HP rfl rfl hH ?_
  try simp only[lt,Act.put]
  refine wpAnyH_done (by kernel_rfl) ?_ _;exact HQ.out _ _ _ _ _ _ _ _ _ _ _ _ _ _ _ _ (Nat.le_refl _) HF9.out HB9.out HS9.out
theorem tellsR24{Q:Exit→Act→World→Prop}{wr:World}{bt n c:Nat}{A:Option Addr}{last:Int}{x:St}{fo fe it se:Sl}{xs:List Value}{G:Nat→Prop}{bR:Bool}
  (hb:Blk wr bt 36 #[.int .i64 x.clock,.slice fo.1 x.fols.length fo.2,.slice fe.1 x.fees.length fe.2,.slice it.1 x.itms.length it.2,.slice se.1 x.seas.length se.2,.int .i64 x.tFol,.int .i64 x.tFee,.int .i64 x.tItm,.int .i64 x.tSea]) (hM:SlIn wr G 20 (A,c) n xs) (h1:∀u∈xs,u.oneCell'=true) (hn:n≤1000)
  (hKM:∀(A':Option Addr) (c':Nat) W,Frm Nix wr W→SlIn W (λk=>wr.heap.size≤k) 20 (A',c') (n+1) (xs++[.int .i64 4,.int .i64 0,.int .i64 0,.int .i64 0,.int .i64 0,.string ⟨#[]⟩,.string ⟨#[]⟩,.string ⟨#[]⟩,.int .i64 0,.int .i64 last,.int .i64 0,.int .i64 x.clock,.slice fo.1 x.fols.length fo.2,.slice fe.1 x.fees.length fe.2,.slice it.1 x.itms.length it.2,.slice se.1 x.seas.length se.2,.int .i64 x.tFol,.int .i64 x.tFee,.int .i64 x.tItm,.int .i64 x.tSea])→Calls Tryz.prog 11 #[.slice A' (n+1:Nat) c'] W λe w'=>e=.returned (.bool bR)∧Frm Nix W w')
  {u0 u1 u3 u4 u5 u6 u7 u8 u10 u11 u12 u13 u14 u15 u16 u18 u19 u20 u21 u22 u23 u24 u25 u26 u27 u28 u29 u30 u31 u32 u33 u34 u35 u36 u37 u38 u39 u40 u41 u42 u43 u44 u45 u46 u47 u48 u49 u50 u51 u52 u53 u54 u55 u56 u57 u58 u59 u60 u61 u62 u63 u64 u65 u66 u67 u68 u69 u70 u71 u72 u73 u74 u75 u76 u77 u78 u79 u80 u81 u82 u83 u84 u85 u86 u87 u88 u89 u90 u91 u92 u93 u94 u95 u96 u97 u98 u99 u100 u101 u102 u103 u104 u105 u106 u107 u108 u109 u110 u111 u112 u113 u114 u115 u116 u117 u118 u119 u120 u121 u122 u123 u124 u125 u126 u127 u128 u129:Value} (hP:∀(e:_) (a:Act) (i:Nat) (v:Value) (w:World),Q (.panic e) (a.put (some i) v) w→Q (.panic e) a w) (hQ:∀(w9:World) (z99 z100 z101 z102 z103 z104 z105 z106 z107:Value),Frm Nix wr w9→Q .normal ⟨#[u0,u1,.int .i64 last,u3,u4,u5,u6,u7,u8,.slice A n c,u10,u11,u12,u13,u14,u15,u16,.pointer (some ⟨bt,0,none⟩),.bool bR,u19,u20,u21,u22,u23,u24,u25,u26,u27,u28,u29,u30,u31,u32,u33,u34,u35,u36,u37,u38,u39,u40,u41,u42,u43,u44,u45,u46,u47,u48,u49,u50,u51,u52,u53,u54,u55,u56,u57,u58,u59,u60,u61,u62,u63,u64,u65,u66,u67,u68,u69,u70,u71,u72,u73,u74,u75,u76,u77,u78,u79,u80,u81,u82,u83,u84,u85,u86,u87,u88,u89,u90,u91,u92,u93,u94,u95,u96,u97,u98,z99,z100,z101,z102,z103,z104,z105,z106,z107,u108,u109,u110,u111,u112,u113,u114,u115,u116,u117,u118,u119,u120,u121,u122,u123,u124,u125,u126,u127,u128,u129],[]⟩ w9):
  Code.wp Tryz.prog (hdC (peel 11 (bodyOf Tryz.f4))) Q ⟨#[u0,u1,.int .i64 last,u3,u4,u5,u6,u7,u8,.slice A n c,u10,u11,u12,u13,u14,u15,u16,.pointer (some ⟨bt,0,none⟩),u18,u19,u20,u21,u22,u23,u24,u25,u26,u27,u28,u29,u30,u31,u32,u33,u34,u35,u36,u37,u38,u39,u40,u41,u42,u43,u44,u45,u46,u47,u48,u49,u50,u51,u52,u53,u54,u55,u56,u57,u58,u59,u60,u61,u62,u63,u64,u65,u66,u67,u68,u69,u70,u71,u72,u73,u74,u75,u76,u77,u78,u79,u80,u81,u82,u83,u84,u85,u86,u87,u88,u89,u90,u91,u92,u93,u94,u95,u96,u97,u98,u99,u100,u101,u102,u103,u104,u105,u106,u107,u108,u109,u110,u111,u112,u113,u114,u115,u116,u117,u118,u119,u120,u121,u122,u123,u124,u125,u126,u127,u128,u129],[]⟩ wr:=by
 have HC:Hid (∀W,Frm Nix wr W→W.cell? ⟨bt,0,none⟩=some (.int .i64 x.clock)∧W.cell? ⟨bt,1,none⟩=some (.slice fo.1 x.fols.length fo.2)∧W.cell? ⟨bt,2,none⟩=some (.slice fe.1 x.fees.length fe.2)∧W.cell? ⟨bt,3,none⟩=some (.slice it.1 x.itms.length it.2)∧W.cell? ⟨bt,4,none⟩=some (.slice se.1 x.seas.length se.2)∧W.cell? ⟨bt,5,none⟩=some (.int .i64 x.tFol)∧W.cell? ⟨bt,6,none⟩=some (.int .i64 x.tFee)∧W.cell? ⟨bt,7,none⟩=some (.int .i64 x.tItm)∧W.cell? ⟨bt,8,none⟩=some (.int .i64 x.tSea)):=λW hW=>blk9 (hb.frm hW id)
 have KM:=h_ hKM;have HP:=h_ hP;have HQ:=h_ hQ;have HM:=h_ hM;have H1:=h_ h1
 have HO1:Hid (∀u∈([.int .i64 4,.int .i64 0,.int .i64 0,.int .i64 0,.int .i64 0,.string ⟨#[]⟩,.string ⟨#[]⟩,.string ⟨#[]⟩,.int .i64 0,.int .i64 last,.int .i64 0,.int .i64 x.clock,.slice fo.1 x.fols.length fo.2,.slice fe.1 x.fees.length fe.2,.slice it.1 x.itms.length it.2,.slice se.1 x.seas.length se.2,.int .i64 x.tFol,.int .i64 x.tFee,.int .i64 x.tItm,.int .i64 x.tSea]:List Value),u.oneCell'=true):=by
  intro u hu;simp at hu;rcases hu with rfl | rfl | rfl | rfl | rfl | rfl | rfl | rfl | rfl | rfl | rfl | rfl | rfl | rfl | rfl | rfl | rfl | rfl | rfl | rfl<;>rfl
 have HW0:Hid (Frm Nix wr wr.drew):=(fR wr).drew;have HZ0:Hid (wr.heap.size=wr.drew.heap.size):=rfl;clear hb hKM hP hQ hM h1;simp only[hdC,sndC,inC,loopC,thenC,peel,bodyOf,Tryz.f4];refine wp_region_held_drew (S:=λW=>W.cell? ⟨bt,0,none⟩=some (.int .i64 x.clock)∧W.cell? ⟨bt,1,none⟩=some (.slice fo.1 x.fols.length fo.2)∧W.cell? ⟨bt,2,none⟩=some (.slice fe.1 x.fees.length fe.2)∧W.cell? ⟨bt,3,none⟩=some (.slice it.1 x.itms.length it.2)∧W.cell? ⟨bt,4,none⟩=some (.slice se.1 x.seas.length se.2)∧W.cell? ⟨bt,5,none⟩=some (.int .i64 x.tFol)∧W.cell? ⟨bt,6,none⟩=some (.int .i64 x.tFee)∧W.cell? ⟨bt,7,none⟩=some (.int .i64 x.tItm)∧W.cell? ⟨bt,8,none⟩=some (.int .i64 x.tSea)) (by kernel_rfl) (HC.out _ HW0.out) λhH=>?_
 refine tk (i:=1) HP rfl rfl hH ?_
 try simp only[lt,Act.put]
 refine tk (i:=3) HP rfl rfl hH ?_
 try simp only[lt,Act.put]
 refine tk (i:=4) HP rfl rfl hH ?_
 try simp only[lt,Act.put]
 refine tk (i:=5) HP rfl rfl hH ?_
 try simp only[lt,Act.put]
 refine rdy2 (i:=0) (j:=6) rfl rfl (λK hK=>?_) (λK hK=>?_)
 ·go_simp
  refine hK.out _ _ (HC.out _ (HW0.out.alloc _)) (λhH=>?_);clear hK K
  try simp only[lt,Act.put]
  have hE:=RowK.empty (s:=20) 44 HW0.out;refine rdy2 (i:=2) (j:=6) rfl rfl (λK hK=>?_) (λK hK=>?_)
  ·obtain⟨v2,w2,hrun2,hr2,-,-⟩:=hE.app elemMv c ((HM.out.nix (HW0.out.alloc (.cells #[] 44))).rd) H1.out (by unfold maxLen;omega) (by omega)
   simp only[Nat.zero_add,List.nil_append] at hr2;refine apr hrun2 ?_;refine hK.out _ _ (HC.out _ hr2.frm) (λhH=>?_);clear hK K hrun2
   try simp only[lt,Act.put]
   refine rdy1 (i:=6) rfl (λK hK=>?_);go_simp;refine hK.out _ _ (HC.out _ (hr2.frm.alloc _)) (λhH=>?_);clear hK K
   try simp only[lt,Act.put]
   obtain⟨v3,w3,hrun3,hr3,-,-⟩:=hr2.push elemMv [.int .i64 4,.int .i64 0,.int .i64 0,.int .i64 0,.int .i64 0,.string ⟨#[]⟩,.string ⟨#[]⟩,.string ⟨#[]⟩,.int .i64 0,.int .i64 last,.int .i64 0,.int .i64 x.clock,.slice fo.1 x.fols.length fo.2,.slice fe.1 x.fees.length fe.2,.slice it.1 x.itms.length it.2,.slice se.1 x.seas.length se.2,.int .i64 x.tFol,.int .i64 x.tFee,.int .i64 x.tItm,.int .i64 x.tSea] rfl HO1.out (by unfold maxLen;omega) (by omega);refine rdy1 (i:=7) rfl (λK hK=>?_);refine apr hrun3 ?_;refine hK.out _ _ (HC.out _ (hr3.frm)) (λhH=>?_);clear hK K
   try simp only[lt,Act.put]
   obtain⟨A3,c3,rfl,-,-,-,-⟩:=hr3.shape;refine rdy1 (i:=8) rfl (λK hK=>?_);go_simp;go_at_call 11;refine(KM.out _ _ _ hr3.frm hr3.sl).mono ?_;rintro e w8 ⟨rfl,hf⟩;have Z8:=h_ ((hr3.frm).trans hf);clear hf;refine hK.out _ _ (HC.out _ Z8.out) (λhH=>?_);clear hK K
   try simp only[lt,Act.put]
   refine tk (i:=9) HP rfl rfl hH ?_
   try simp only[lt,Act.put]
   refine wpAnyH_done (by kernel_rfl) ?_ _;exact HQ.out _ _ _ _ _ _ _ _ _ _ Z8.out
  ·go_simp
   refine hK.out _ _ (HC.out _ ((HW0.out.alloc _).alloc _)) (λhH=>?_);clear hK K
   try simp only[lt,Act.put]
   obtain⟨v2,w2,hrun2,hr2,hf2,-⟩:=(hE.more ((fR _).alloc (.cells #[.int .i64 4,.int .i64 0,.int .i64 0,.int .i64 0,.int .i64 0,.string ⟨#[]⟩,.string ⟨#[]⟩,.string ⟨#[]⟩,.int .i64 0,.int .i64 last,.int .i64 0,.int .i64 x.clock,.slice fo.1 x.fols.length fo.2,.slice fe.1 x.fees.length fe.2,.slice it.1 x.itms.length it.2,.slice se.1 x.seas.length se.2,.int .i64 x.tFol,.int .i64 x.tFee,.int .i64 x.tItm,.int .i64 x.tSea] 44))).app elemMv c ((HM.out.nix ((HW0.out.alloc (.cells #[] 44)).alloc (.cells #[.int .i64 4,.int .i64 0,.int .i64 0,.int .i64 0,.int .i64 0,.string ⟨#[]⟩,.string ⟨#[]⟩,.string ⟨#[]⟩,.int .i64 0,.int .i64 last,.int .i64 0,.int .i64 x.clock,.slice fo.1 x.fols.length fo.2,.slice fe.1 x.fees.length fe.2,.slice it.1 x.itms.length it.2,.slice se.1 x.seas.length se.2,.int .i64 x.tFol,.int .i64 x.tFee,.int .i64 x.tItm,.int .i64 x.tSea] 44))).rd) H1.out (by unfold maxLen;omega) (by omega);simp only[Nat.zero_add,List.nil_append] at hr2;refine rdy1 (i:=2) rfl (λK hK=>?_);refine apr hrun2 ?_;refine hK.out _ _ (HC.out _ (hr2.frm)) (λhH=>?_);clear hK K
   try simp only[lt,Act.put]
   have hbo:Blk w2 (wr.drew.heap.size+1) 44 #[.int .i64 4,.int .i64 0,.int .i64 0,.int .i64 0,.int .i64 0,.string ⟨#[]⟩,.string ⟨#[]⟩,.string ⟨#[]⟩,.int .i64 0,.int .i64 last,.int .i64 0,.int .i64 x.clock,.slice fo.1 x.fols.length fo.2,.slice fe.1 x.fees.length fe.2,.slice it.1 x.itms.length it.2,.slice se.1 x.seas.length se.2,.int .i64 x.tFol,.int .i64 x.tFee,.int .i64 x.tItm,.int .i64 x.tSea]:=by
    have q:=Blk.new (wr.drew.alloc (.cells #[] 44)) 44 #[.int .i64 4,.int .i64 0,.int .i64 0,.int .i64 0,.int .i64 0,.string ⟨#[]⟩,.string ⟨#[]⟩,.string ⟨#[]⟩,.int .i64 0,.int .i64 last,.int .i64 0,.int .i64 x.clock,.slice fo.1 x.fols.length fo.2,.slice fe.1 x.fees.length fe.2,.slice it.1 x.itms.length it.2,.slice se.1 x.seas.length se.2,.int .i64 x.tFol,.int .i64 x.tFee,.int .i64 x.tItm,.int .i64 x.tSea];rw[show (wr.drew.alloc (.cells #[] 44)).heap.size=wr.drew.heap.size+1 by simp] at q;refine q.frm hf2 λe=>?_
    simp[Value.ownBlock] at e
   obtain⟨v3,w3,hrun3,hr3,-,-⟩:=hr2.app elemMv (ys:=[.int .i64 4,.int .i64 0,.int .i64 0,.int .i64 0,.int .i64 0,.string ⟨#[]⟩,.string ⟨#[]⟩,.string ⟨#[]⟩,.int .i64 0,.int .i64 last,.int .i64 0,.int .i64 x.clock,.slice fo.1 x.fols.length fo.2,.slice fe.1 x.fees.length fe.2,.slice it.1 x.itms.length it.2,.slice se.1 x.seas.length se.2,.int .i64 x.tFol,.int .i64 x.tFee,.int .i64 x.tItm,.int .i64 x.tSea]) 1 (Rd.of_obj hbo 1 rfl) HO1.out (by unfold maxLen;omega) (by omega);refine rdy1 (i:=7) rfl (λK hK=>?_);refine apr hrun3 ?_;refine hK.out _ _ (HC.out _ (hr3.frm)) (λhH=>?_);clear hK K
   try simp only[lt,Act.put]
   obtain⟨A3,c3,rfl,-,-,-,-⟩:=hr3.shape;refine rdy1 (i:=8) rfl (λK hK=>?_);go_simp;go_at_call 11;refine(KM.out _ _ _ hr3.frm hr3.sl).mono ?_;rintro e w8 ⟨rfl,hf⟩;have Z8:=h_ ((hr3.frm).trans hf);clear hf;refine hK.out _ _ (HC.out _ Z8.out) (λhH=>?_);clear hK K
   try simp only[lt,Act.put]
   refine tk (i:=9) HP rfl rfl hH ?_
   try simp only[lt,Act.put]
   refine wpAnyH_done (by kernel_rfl) ?_ _;exact HQ.out _ _ _ _ _ _ _ _ _ _ Z8.out
 ·go_simp
  refine hK.out _ _ (HC.out _ (HW0.out.alloc _)) (λhH=>?_);clear hK K
  try simp only[lt,Act.put]
  have hE:=RowK.empty (s:=20) 44 (HW0.out.alloc (.cells #[.int .i64 4,.int .i64 0,.int .i64 0,.int .i64 0,.int .i64 0,.string ⟨#[]⟩,.string ⟨#[]⟩,.string ⟨#[]⟩,.int .i64 0,.int .i64 last,.int .i64 0,.int .i64 x.clock,.slice fo.1 x.fols.length fo.2,.slice fe.1 x.fees.length fe.2,.slice it.1 x.itms.length it.2,.slice se.1 x.seas.length se.2,.int .i64 x.tFol,.int .i64 x.tFee,.int .i64 x.tItm,.int .i64 x.tSea] 44));rw[show (wr.drew.alloc (.cells #[.int .i64 4,.int .i64 0,.int .i64 0,.int .i64 0,.int .i64 0,.string ⟨#[]⟩,.string ⟨#[]⟩,.string ⟨#[]⟩,.int .i64 0,.int .i64 last,.int .i64 0,.int .i64 x.clock,.slice fo.1 x.fols.length fo.2,.slice fe.1 x.fees.length fe.2,.slice it.1 x.itms.length it.2,.slice se.1 x.seas.length se.2,.int .i64 x.tFol,.int .i64 x.tFee,.int .i64 x.tItm,.int .i64 x.tSea] 44)).heap.size=wr.drew.heap.size+1 by simp] at hE;refine rdy1 (i:=0) rfl (λK hK=>?_);go_simp;refine hK.out _ _ (HC.out _ ((HW0.out.alloc _).alloc _)) (λhH=>?_);clear hK K
  try simp only[lt,Act.put]
  obtain⟨v2,w2,hrun2,hr2,hf2,-⟩:=hE.app elemMv c ((HM.out.nix ((HW0.out.alloc (.cells #[.int .i64 4,.int .i64 0,.int .i64 0,.int .i64 0,.int .i64 0,.string ⟨#[]⟩,.string ⟨#[]⟩,.string ⟨#[]⟩,.int .i64 0,.int .i64 last,.int .i64 0,.int .i64 x.clock,.slice fo.1 x.fols.length fo.2,.slice fe.1 x.fees.length fe.2,.slice it.1 x.itms.length it.2,.slice se.1 x.seas.length se.2,.int .i64 x.tFol,.int .i64 x.tFee,.int .i64 x.tItm,.int .i64 x.tSea] 44)).alloc (.cells #[] 44))).rd) H1.out (by unfold maxLen;omega) (by omega);simp only[Nat.zero_add,List.nil_append] at hr2;refine rdy1 (i:=2) rfl (λK hK=>?_);refine apr hrun2 ?_;refine hK.out _ _ (HC.out _ (hr2.frm)) (λhH=>?_);clear hK K
  try simp only[lt,Act.put]
  have hbo:Blk w2 wr.drew.heap.size 44 #[.int .i64 4,.int .i64 0,.int .i64 0,.int .i64 0,.int .i64 0,.string ⟨#[]⟩,.string ⟨#[]⟩,.string ⟨#[]⟩,.int .i64 0,.int .i64 last,.int .i64 0,.int .i64 x.clock,.slice fo.1 x.fols.length fo.2,.slice fe.1 x.fees.length fe.2,.slice it.1 x.itms.length it.2,.slice se.1 x.seas.length se.2,.int .i64 x.tFol,.int .i64 x.tFee,.int .i64 x.tItm,.int .i64 x.tSea]:=by
   refine((Blk.new wr.drew 44 #[.int .i64 4,.int .i64 0,.int .i64 0,.int .i64 0,.int .i64 0,.string ⟨#[]⟩,.string ⟨#[]⟩,.string ⟨#[]⟩,.int .i64 0,.int .i64 last,.int .i64 0,.int .i64 x.clock,.slice fo.1 x.fols.length fo.2,.slice fe.1 x.fees.length fe.2,.slice it.1 x.itms.length it.2,.slice se.1 x.seas.length se.2,.int .i64 x.tFol,.int .i64 x.tFee,.int .i64 x.tItm,.int .i64 x.tSea]).alloc (.cells #[] 44)).frm hf2 λe=>?_
   simp[Value.ownBlock] at e
  obtain⟨v3,w3,hrun3,hr3,-,-⟩:=hr2.app elemMv (ys:=[.int .i64 4,.int .i64 0,.int .i64 0,.int .i64 0,.int .i64 0,.string ⟨#[]⟩,.string ⟨#[]⟩,.string ⟨#[]⟩,.int .i64 0,.int .i64 last,.int .i64 0,.int .i64 x.clock,.slice fo.1 x.fols.length fo.2,.slice fe.1 x.fees.length fe.2,.slice it.1 x.itms.length it.2,.slice se.1 x.seas.length se.2,.int .i64 x.tFol,.int .i64 x.tFee,.int .i64 x.tItm,.int .i64 x.tSea]) 1 (Rd.of_obj hbo 1 rfl) HO1.out (by unfold maxLen;omega) (by omega);refine rdy1 (i:=7) rfl (λK hK=>?_);refine apr hrun3 ?_;refine hK.out _ _ (HC.out _ (hr3.frm)) (λhH=>?_);clear hK K
  try simp only[lt,Act.put]
  obtain⟨A3,c3,rfl,-,-,-,-⟩:=hr3.shape;refine rdy1 (i:=8) rfl (λK hK=>?_);go_simp;go_at_call 11;refine(KM.out _ _ _ hr3.frm hr3.sl).mono ?_;rintro e w8 ⟨rfl,hf⟩;have Z8:=h_ ((hr3.frm).trans hf);clear hf;refine hK.out _ _ (HC.out _ Z8.out) (λhH=>?_);clear hK K
  try simp only[lt,Act.put]
  refine tk (i:=9) HP rfl rfl hH ?_
  try simp only[lt,Act.put]
  refine wpAnyH_done (by kernel_rfl) ?_ _;exact HQ.out _ _ _ _ _ _ _ _ _ _ Z8.out
theorem tellsR25{Q:Exit→Act→World→Prop}{wr:World}{bt n c:Nat}{A:Option Addr}{last:Int}{x:St}{fo fe it se:Sl}{xs:List Value}{G:Nat→Prop}{bR:Bool}
  (hb:Blk wr bt 36 #[.int .i64 x.clock,.slice fo.1 x.fols.length fo.2,.slice fe.1 x.fees.length fe.2,.slice it.1 x.itms.length it.2,.slice se.1 x.seas.length se.2,.int .i64 x.tFol,.int .i64 x.tFee,.int .i64 x.tItm,.int .i64 x.tSea]) (hM:SlIn wr G 20 (A,c) n xs) (h1:∀u∈xs,u.oneCell'=true) (hn:n≤1000)
  (hKM:∀(A':Option Addr) (c':Nat) W,Frm Nix wr W→SlIn W (λk=>wr.heap.size≤k) 20 (A',c') (n+1) (xs++[.int .i64 4,.int .i64 0,.int .i64 0,.int .i64 0,.int .i64 0,.string ⟨#[]⟩,.string ⟨#[]⟩,.string ⟨#[]⟩,.int .i64 0,.int .i64 last,.int .i64 0,.int .i64 x.clock,.slice fo.1 x.fols.length fo.2,.slice fe.1 x.fees.length fe.2,.slice it.1 x.itms.length it.2,.slice se.1 x.seas.length se.2,.int .i64 x.tFol,.int .i64 x.tFee,.int .i64 x.tItm,.int .i64 x.tSea])→Calls Tryz.prog 11 #[.slice A' (n+1:Nat) c'] W λe w'=>e=.returned (.bool bR)∧Frm Nix W w')
  {u0 u1 u3 u4 u5 u6 u8 u10 u11 u12 u13 u14 u15 u16 u17 u18 u19 u20 u21 u22 u23 u24 u25 u26 u27 u28 u29 u30 u31 u32 u33 u34 u35 u36 u37 u38 u39 u40 u41 u42 u43 u44 u45 u46 u47 u48 u49 u50 u51 u52 u53 u54 u55 u56 u57 u58 u59 u60 u61 u62 u63 u64 u65 u66 u67 u68 u69 u70 u71 u72 u73 u74 u75 u76 u77 u78 u79 u80 u81 u82 u83 u84 u85 u86 u87 u88 u89 u90 u91 u92 u93 u94 u95 u96 u97 u98 u99 u100 u101 u102 u103 u104 u105 u106 u107 u108 u109 u110 u111 u112 u113 u114 u115 u116 u117 u118 u119 u120 u121 u122 u123 u124 u125 u126 u127 u128 u129:Value} (hP:∀(e:_) (a:Act) (i:Nat) (v:Value) (w:World),Q (.panic e) (a.put (some i) v) w→Q (.panic e) a w) (hQ:∀(w9:World) (z108 z109 z110 z111 z112 z113 z114 z115 z116:Value),Frm Nix wr w9→Q .normal ⟨#[u0,u1,.int .i64 last,u3,u4,u5,u6,.pointer (some ⟨bt,0,none⟩),u8,.slice A n c,u10,u11,u12,u13,u14,u15,u16,u17,u18,.bool bR,u20,u21,u22,u23,u24,u25,u26,u27,u28,u29,u30,u31,u32,u33,u34,u35,u36,u37,u38,u39,u40,u41,u42,u43,u44,u45,u46,u47,u48,u49,u50,u51,u52,u53,u54,u55,u56,u57,u58,u59,u60,u61,u62,u63,u64,u65,u66,u67,u68,u69,u70,u71,u72,u73,u74,u75,u76,u77,u78,u79,u80,u81,u82,u83,u84,u85,u86,u87,u88,u89,u90,u91,u92,u93,u94,u95,u96,u97,u98,u99,u100,u101,u102,u103,u104,u105,u106,u107,z108,z109,z110,z111,z112,z113,z114,z115,z116,u117,u118,u119,u120,u121,u122,u123,u124,u125,u126,u127,u128,u129],[]⟩ w9):
  Code.wp Tryz.prog (hdC (peel 12 (bodyOf Tryz.f4))) Q ⟨#[u0,u1,.int .i64 last,u3,u4,u5,u6,.pointer (some ⟨bt,0,none⟩),u8,.slice A n c,u10,u11,u12,u13,u14,u15,u16,u17,u18,u19,u20,u21,u22,u23,u24,u25,u26,u27,u28,u29,u30,u31,u32,u33,u34,u35,u36,u37,u38,u39,u40,u41,u42,u43,u44,u45,u46,u47,u48,u49,u50,u51,u52,u53,u54,u55,u56,u57,u58,u59,u60,u61,u62,u63,u64,u65,u66,u67,u68,u69,u70,u71,u72,u73,u74,u75,u76,u77,u78,u79,u80,u81,u82,u83,u84,u85,u86,u87,u88,u89,u90,u91,u92,u93,u94,u95,u96,u97,u98,u99,u100,u101,u102,u103,u104,u105,u106,u107,u108,u109,u110,u111,u112,u113,u114,u115,u116,u117,u118,u119,u120,u121,u122,u123,u124,u125,u126,u127,u128,u129],[]⟩ wr:=by
 have HC:Hid (∀W,Frm Nix wr W→W.cell? ⟨bt,0,none⟩=some (.int .i64 x.clock)∧W.cell? ⟨bt,1,none⟩=some (.slice fo.1 x.fols.length fo.2)∧W.cell? ⟨bt,2,none⟩=some (.slice fe.1 x.fees.length fe.2)∧W.cell? ⟨bt,3,none⟩=some (.slice it.1 x.itms.length it.2)∧W.cell? ⟨bt,4,none⟩=some (.slice se.1 x.seas.length se.2)∧W.cell? ⟨bt,5,none⟩=some (.int .i64 x.tFol)∧W.cell? ⟨bt,6,none⟩=some (.int .i64 x.tFee)∧W.cell? ⟨bt,7,none⟩=some (.int .i64 x.tItm)∧W.cell? ⟨bt,8,none⟩=some (.int .i64 x.tSea)):=λW hW=>blk9 (hb.frm hW id)
 have KM:=h_ hKM;have HP:=h_ hP;have HQ:=h_ hQ;have HM:=h_ hM;have H1:=h_ h1
 have HO1:Hid (∀u∈([.int .i64 4,.int .i64 0,.int .i64 0,.int .i64 0,.int .i64 0,.string ⟨#[]⟩,.string ⟨#[]⟩,.string ⟨#[]⟩,.int .i64 0,.int .i64 last,.int .i64 0,.int .i64 x.clock,.slice fo.1 x.fols.length fo.2,.slice fe.1 x.fees.length fe.2,.slice it.1 x.itms.length it.2,.slice se.1 x.seas.length se.2,.int .i64 x.tFol,.int .i64 x.tFee,.int .i64 x.tItm,.int .i64 x.tSea]:List Value),u.oneCell'=true):=by
  intro u hu;simp at hu;rcases hu with rfl | rfl | rfl | rfl | rfl | rfl | rfl | rfl | rfl | rfl | rfl | rfl | rfl | rfl | rfl | rfl | rfl | rfl | rfl | rfl<;>rfl
 have HW0:Hid (Frm Nix wr wr.drew):=(fR wr).drew;have HZ0:Hid (wr.heap.size=wr.drew.heap.size):=rfl;clear hb hKM hP hQ hM h1;simp only[hdC,sndC,inC,loopC,thenC,peel,bodyOf,Tryz.f4];refine wp_region_held_drew (S:=λW=>W.cell? ⟨bt,0,none⟩=some (.int .i64 x.clock)∧W.cell? ⟨bt,1,none⟩=some (.slice fo.1 x.fols.length fo.2)∧W.cell? ⟨bt,2,none⟩=some (.slice fe.1 x.fees.length fe.2)∧W.cell? ⟨bt,3,none⟩=some (.slice it.1 x.itms.length it.2)∧W.cell? ⟨bt,4,none⟩=some (.slice se.1 x.seas.length se.2)∧W.cell? ⟨bt,5,none⟩=some (.int .i64 x.tFol)∧W.cell? ⟨bt,6,none⟩=some (.int .i64 x.tFee)∧W.cell? ⟨bt,7,none⟩=some (.int .i64 x.tItm)∧W.cell? ⟨bt,8,none⟩=some (.int .i64 x.tSea)) (by kernel_rfl) (HC.out _ HW0.out) λhH=>?_
 refine tk (i:=1) HP rfl rfl hH ?_
 try simp only[lt,Act.put]
 refine tk (i:=3) HP rfl rfl hH ?_
 try simp only[lt,Act.put]
 refine tk (i:=4) HP rfl rfl hH ?_
 try simp only[lt,Act.put]
 refine tk (i:=5) HP rfl rfl hH ?_
 try simp only[lt,Act.put]
 refine rdy2 (i:=0) (j:=6) rfl rfl (λK hK=>?_) (λK hK=>?_)
 ·go_simp
  refine hK.out _ _ (HC.out _ (HW0.out.alloc _)) (λhH=>?_);clear hK K
  try simp only[lt,Act.put]
  have hE:=RowK.empty (s:=20) 44 HW0.out;refine rdy2 (i:=2) (j:=6) rfl rfl (λK hK=>?_) (λK hK=>?_)
  ·obtain⟨v2,w2,hrun2,hr2,-,-⟩:=hE.app elemMv c ((HM.out.nix (HW0.out.alloc (.cells #[] 44))).rd) H1.out (by unfold maxLen;omega) (by omega)
   simp only[Nat.zero_add,List.nil_append] at hr2;refine apr hrun2 ?_;refine hK.out _ _ (HC.out _ hr2.frm) (λhH=>?_);clear hK K hrun2
   try simp only[lt,Act.put]
   refine rdy1 (i:=6) rfl (λK hK=>?_);go_simp;refine hK.out _ _ (HC.out _ (hr2.frm.alloc _)) (λhH=>?_);clear hK K
   try simp only[lt,Act.put]
   obtain⟨v3,w3,hrun3,hr3,-,-⟩:=hr2.push elemMv [.int .i64 4,.int .i64 0,.int .i64 0,.int .i64 0,.int .i64 0,.string ⟨#[]⟩,.string ⟨#[]⟩,.string ⟨#[]⟩,.int .i64 0,.int .i64 last,.int .i64 0,.int .i64 x.clock,.slice fo.1 x.fols.length fo.2,.slice fe.1 x.fees.length fe.2,.slice it.1 x.itms.length it.2,.slice se.1 x.seas.length se.2,.int .i64 x.tFol,.int .i64 x.tFee,.int .i64 x.tItm,.int .i64 x.tSea] rfl HO1.out (by unfold maxLen;omega) (by omega);refine rdy1 (i:=7) rfl (λK hK=>?_);refine apr hrun3 ?_;refine hK.out _ _ (HC.out _ (hr3.frm)) (λhH=>?_);clear hK K
   try simp only[lt,Act.put]
   obtain⟨A3,c3,rfl,-,-,-,-⟩:=hr3.shape;refine rdy1 (i:=8) rfl (λK hK=>?_);go_simp;go_at_call 11;refine(KM.out _ _ _ hr3.frm hr3.sl).mono ?_;rintro e w8 ⟨rfl,hf⟩;have Z8:=h_ ((hr3.frm).trans hf);clear hf;refine hK.out _ _ (HC.out _ Z8.out) (λhH=>?_);clear hK K
   try simp only[lt,Act.put]
   refine tk (i:=9) HP rfl rfl hH ?_
   try simp only[lt,Act.put]
   refine wpAnyH_done (by kernel_rfl) ?_ _;exact HQ.out _ _ _ _ _ _ _ _ _ _ Z8.out
  ·go_simp
   refine hK.out _ _ (HC.out _ ((HW0.out.alloc _).alloc _)) (λhH=>?_);clear hK K
   try simp only[lt,Act.put]
   obtain⟨v2,w2,hrun2,hr2,hf2,-⟩:=(hE.more ((fR _).alloc (.cells #[.int .i64 4,.int .i64 0,.int .i64 0,.int .i64 0,.int .i64 0,.string ⟨#[]⟩,.string ⟨#[]⟩,.string ⟨#[]⟩,.int .i64 0,.int .i64 last,.int .i64 0,.int .i64 x.clock,.slice fo.1 x.fols.length fo.2,.slice fe.1 x.fees.length fe.2,.slice it.1 x.itms.length it.2,.slice se.1 x.seas.length se.2,.int .i64 x.tFol,.int .i64 x.tFee,.int .i64 x.tItm,.int .i64 x.tSea] 44))).app elemMv c ((HM.out.nix ((HW0.out.alloc (.cells #[] 44)).alloc (.cells #[.int .i64 4,.int .i64 0,.int .i64 0,.int .i64 0,.int .i64 0,.string ⟨#[]⟩,.string ⟨#[]⟩,.string ⟨#[]⟩,.int .i64 0,.int .i64 last,.int .i64 0,.int .i64 x.clock,.slice fo.1 x.fols.length fo.2,.slice fe.1 x.fees.length fe.2,.slice it.1 x.itms.length it.2,.slice se.1 x.seas.length se.2,.int .i64 x.tFol,.int .i64 x.tFee,.int .i64 x.tItm,.int .i64 x.tSea] 44))).rd) H1.out (by unfold maxLen;omega) (by omega);simp only[Nat.zero_add,List.nil_append] at hr2;refine rdy1 (i:=2) rfl (λK hK=>?_);refine apr hrun2 ?_;refine hK.out _ _ (HC.out _ (hr2.frm)) (λhH=>?_);clear hK K
   try simp only[lt,Act.put]
   have hbo:Blk w2 (wr.drew.heap.size+1) 44 #[.int .i64 4,.int .i64 0,.int .i64 0,.int .i64 0,.int .i64 0,.string ⟨#[]⟩,.string ⟨#[]⟩,.string ⟨#[]⟩,.int .i64 0,.int .i64 last,.int .i64 0,.int .i64 x.clock,.slice fo.1 x.fols.length fo.2,.slice fe.1 x.fees.length fe.2,.slice it.1 x.itms.length it.2,.slice se.1 x.seas.length se.2,.int .i64 x.tFol,.int .i64 x.tFee,.int .i64 x.tItm,.int .i64 x.tSea]:=by
    have q:=Blk.new (wr.drew.alloc (.cells #[] 44)) 44 #[.int .i64 4,.int .i64 0,.int .i64 0,.int .i64 0,.int .i64 0,.string ⟨#[]⟩,.string ⟨#[]⟩,.string ⟨#[]⟩,.int .i64 0,.int .i64 last,.int .i64 0,.int .i64 x.clock,.slice fo.1 x.fols.length fo.2,.slice fe.1 x.fees.length fe.2,.slice it.1 x.itms.length it.2,.slice se.1 x.seas.length se.2,.int .i64 x.tFol,.int .i64 x.tFee,.int .i64 x.tItm,.int .i64 x.tSea];rw[show (wr.drew.alloc (.cells #[] 44)).heap.size=wr.drew.heap.size+1 by simp] at q;refine q.frm hf2 λe=>?_
    simp[Value.ownBlock] at e
   obtain⟨v3,w3,hrun3,hr3,-,-⟩:=hr2.app elemMv (ys:=[.int .i64 4,.int .i64 0,.int .i64 0,.int .i64 0,.int .i64 0,.string ⟨#[]⟩,.string ⟨#[]⟩,.string ⟨#[]⟩,.int .i64 0,.int .i64 last,.int .i64 0,.int .i64 x.clock,.slice fo.1 x.fols.length fo.2,.slice fe.1 x.fees.length fe.2,.slice it.1 x.itms.length it.2,.slice se.1 x.seas.length se.2,.int .i64 x.tFol,.int .i64 x.tFee,.int .i64 x.tItm,.int .i64 x.tSea]) 1 (Rd.of_obj hbo 1 rfl) HO1.out (by unfold maxLen;omega) (by omega);refine rdy1 (i:=7) rfl (λK hK=>?_);refine apr hrun3 ?_;refine hK.out _ _ (HC.out _ (hr3.frm)) (λhH=>?_);clear hK K
   try simp only[lt,Act.put]
   obtain⟨A3,c3,rfl,-,-,-,-⟩:=hr3.shape;refine rdy1 (i:=8) rfl (λK hK=>?_);go_simp;go_at_call 11;refine(KM.out _ _ _ hr3.frm hr3.sl).mono ?_;rintro e w8 ⟨rfl,hf⟩;have Z8:=h_ ((hr3.frm).trans hf);clear hf;refine hK.out _ _ (HC.out _ Z8.out) (λhH=>?_);clear hK K
   try simp only[lt,Act.put]
   refine tk (i:=9) HP rfl rfl hH ?_
   try simp only[lt,Act.put]
   refine wpAnyH_done (by kernel_rfl) ?_ _;exact HQ.out _ _ _ _ _ _ _ _ _ _ Z8.out
 ·go_simp
  refine hK.out _ _ (HC.out _ (HW0.out.alloc _)) (λhH=>?_);clear hK K
  try simp only[lt,Act.put]
  have hE:=RowK.empty (s:=20) 44 (HW0.out.alloc (.cells #[.int .i64 4,.int .i64 0,.int .i64 0,.int .i64 0,.int .i64 0,.string ⟨#[]⟩,.string ⟨#[]⟩,.string ⟨#[]⟩,.int .i64 0,.int .i64 last,.int .i64 0,.int .i64 x.clock,.slice fo.1 x.fols.length fo.2,.slice fe.1 x.fees.length fe.2,.slice it.1 x.itms.length it.2,.slice se.1 x.seas.length se.2,.int .i64 x.tFol,.int .i64 x.tFee,.int .i64 x.tItm,.int .i64 x.tSea] 44));rw[show (wr.drew.alloc (.cells #[.int .i64 4,.int .i64 0,.int .i64 0,.int .i64 0,.int .i64 0,.string ⟨#[]⟩,.string ⟨#[]⟩,.string ⟨#[]⟩,.int .i64 0,.int .i64 last,.int .i64 0,.int .i64 x.clock,.slice fo.1 x.fols.length fo.2,.slice fe.1 x.fees.length fe.2,.slice it.1 x.itms.length it.2,.slice se.1 x.seas.length se.2,.int .i64 x.tFol,.int .i64 x.tFee,.int .i64 x.tItm,.int .i64 x.tSea] 44)).heap.size=wr.drew.heap.size+1 by simp] at hE;refine rdy1 (i:=0) rfl (λK hK=>?_);go_simp;refine hK.out _ _ (HC.out _ ((HW0.out.alloc _).alloc _)) (λhH=>?_);clear hK K
  try simp only[lt,Act.put]
  obtain⟨v2,w2,hrun2,hr2,hf2,-⟩:=hE.app elemMv c ((HM.out.nix ((HW0.out.alloc (.cells #[.int .i64 4,.int .i64 0,.int .i64 0,.int .i64 0,.int .i64 0,.string ⟨#[]⟩,.string ⟨#[]⟩,.string ⟨#[]⟩,.int .i64 0,.int .i64 last,.int .i64 0,.int .i64 x.clock,.slice fo.1 x.fols.length fo.2,.slice fe.1 x.fees.length fe.2,.slice it.1 x.itms.length it.2,.slice se.1 x.seas.length se.2,.int .i64 x.tFol,.int .i64 x.tFee,.int .i64 x.tItm,.int .i64 x.tSea] 44)).alloc (.cells #[] 44))).rd) H1.out (by unfold maxLen;omega) (by omega);simp only[Nat.zero_add,List.nil_append] at hr2;refine rdy1 (i:=2) rfl (λK hK=>?_);refine apr hrun2 ?_;refine hK.out _ _ (HC.out _ (hr2.frm)) (λhH=>?_);clear hK K
  try simp only[lt,Act.put]
  have hbo:Blk w2 wr.drew.heap.size 44 #[.int .i64 4,.int .i64 0,.int .i64 0,.int .i64 0,.int .i64 0,.string ⟨#[]⟩,.string ⟨#[]⟩,.string ⟨#[]⟩,.int .i64 0,.int .i64 last,.int .i64 0,.int .i64 x.clock,.slice fo.1 x.fols.length fo.2,.slice fe.1 x.fees.length fe.2,.slice it.1 x.itms.length it.2,.slice se.1 x.seas.length se.2,.int .i64 x.tFol,.int .i64 x.tFee,.int .i64 x.tItm,.int .i64 x.tSea]:=by
   refine((Blk.new wr.drew 44 #[.int .i64 4,.int .i64 0,.int .i64 0,.int .i64 0,.int .i64 0,.string ⟨#[]⟩,.string ⟨#[]⟩,.string ⟨#[]⟩,.int .i64 0,.int .i64 last,.int .i64 0,.int .i64 x.clock,.slice fo.1 x.fols.length fo.2,.slice fe.1 x.fees.length fe.2,.slice it.1 x.itms.length it.2,.slice se.1 x.seas.length se.2,.int .i64 x.tFol,.int .i64 x.tFee,.int .i64 x.tItm,.int .i64 x.tSea]).alloc (.cells #[] 44)).frm hf2 λe=>?_
   simp[Value.ownBlock] at e
  obtain⟨v3,w3,hrun3,hr3,-,-⟩:=hr2.app elemMv (ys:=[.int .i64 4,.int .i64 0,.int .i64 0,.int .i64 0,.int .i64 0,.string ⟨#[]⟩,.string ⟨#[]⟩,.string ⟨#[]⟩,.int .i64 0,.int .i64 last,.int .i64 0,.int .i64 x.clock,.slice fo.1 x.fols.length fo.2,.slice fe.1 x.fees.length fe.2,.slice it.1 x.itms.length it.2,.slice se.1 x.seas.length se.2,.int .i64 x.tFol,.int .i64 x.tFee,.int .i64 x.tItm,.int .i64 x.tSea]) 1 (Rd.of_obj hbo 1 rfl) HO1.out (by unfold maxLen;omega) (by omega);refine rdy1 (i:=7) rfl (λK hK=>?_);refine apr hrun3 ?_;refine hK.out _ _ (HC.out _ (hr3.frm)) (λhH=>?_);clear hK K
  try simp only[lt,Act.put]
  obtain⟨A3,c3,rfl,-,-,-,-⟩:=hr3.shape;refine rdy1 (i:=8) rfl (λK hK=>?_);go_simp;go_at_call 11;refine(KM.out _ _ _ hr3.frm hr3.sl).mono ?_;rintro e w8 ⟨rfl,hf⟩;have Z8:=h_ ((hr3.frm).trans hf);clear hf;refine hK.out _ _ (HC.out _ Z8.out) (λhH=>?_);clear hK K
  try simp only[lt,Act.put]
  refine tk (i:=9) HP rfl rfl hH ?_
  try simp only[lt,Act.put]
  refine wpAnyH_done (by kernel_rfl) ?_ _;exact HQ.out _ _ _ _ _ _ _ _ _ _ Z8.out
end Go.Proofs.YtaecjmiobllhmaaGreat
