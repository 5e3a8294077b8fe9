/-
  Contracts: events: those that lead to an item.
-/
import Derived.Test.YtlafbakoefcifaaGreatGa12
import Derived.Test.YtlafbakoefcifaaGreatGa14
import Derived.Test.YtlafbakoefcifaaGreatGa10
set_option linter.unusedVariables false
set_option linter.unusedSimpArgs false
set_option maxRecDepth 100000
set_option maxHeartbeats 16000000
namespace Go.Proofs.YtlafbakoefcifaaGreat
open Go.RowKit Go.Lib
theorem elemEv:ElemK Tryz.prog 22 38 7 80:=⟨Tryz.underlying22,⟨.agg #[.int .i64 0,.int .i64 0,.int .i64 0,.int .i64 0,.string ByteArray.empty,.string ByteArray.empty,.string ByteArray.empty],by kernel_rfl,rfl⟩,by decide⟩
theorem str_at(l:List ByteArray)(k:Nat)(h:k<l.length):(l.map Value.string)[k]? =some (.string l[k]):=by
 rw[List.getElem?_map,List.getElem?_eq_getElem h];rfl
theorem ev_one(l:List Ev):∀ u ∈ l.flatMap Ev.cells,u.oneCell'=true:=by
 intro u hu;obtain⟨e,-,hu⟩:=List.mem_flatMap.1 hu;simp only[Ev.cells,List.mem_cons,List.not_mem_nil,or_false] at hu;rcases hu with rfl | rfl | rfl | rfl | rfl | rfl | rfl<;>rfl
theorem evPush{w wc:World}{v:Value}{L:List Ev}(h:RowK 38 7 w wc v L.length (L.flatMap Ev.cells))(hn:L.length≤1000000)(e:Ev){bx:Nat}{t:TypeId}{cs:Array Value}(hb:Blk wc bx t cs)(ht:38≠t):
  ∃ v' w2,(∀ ty,(Builtin.append_ #[22,22] ty #[v,.slice (some ⟨wc.heap.size,0,none⟩) 1 1]).run Tryz.prog (wc.alloc (.cells #[.int .i64 e.kind,.int .i64 e.a,.int .i64 e.b,.int .i64 e.n,.string e.s,.string e.t,.string e.u] 38))=.ok v' w2)∧RowK 38 7 w w2 v' (L++[e]).length ((L++[e]).flatMap Ev.cells)∧Blk w2 bx t cs:=by
 obtain⟨v',w2,r,h1,h2,-⟩:=h.push elemEv e.cells rfl (by intro u hu;exact ev_one [e] u (by simpa using hu)) (by unfold maxLen;omega) (by omega);refine⟨v',w2,r,?_,(hb.alloc _).frm h2 fun hk=>h.ne_blk hb ht hk⟩;rw[List.length_append,List.flatMap_append]
 simpa using h1
theorem itm9{W:World}{g:Nat}{a0 a1 a2 a3 a4 a5 a6 a7 a8:Value}(h:Blk W g 54 #[a0,a1,a2,a3,a4,a5,a6,a7,a8]):
  W.cell? ⟨g,0,none⟩=some a0∧W.cell? ⟨g,1,none⟩=some a1∧W.cell? ⟨g,2,none⟩=some a2∧W.cell? ⟨g,3,none⟩=some a3∧W.cell? ⟨g,4,none⟩=some a4∧W.cell? ⟨g,5,none⟩=some a5∧W.cell? ⟨g,6,none⟩=some a6∧W.cell? ⟨g,7,none⟩=some a7∧W.cell? ⟨g,8,none⟩=some a8:=
 ⟨h.cell 0,h.cell 1,h.cell 2,h.cell 3,h.cell 4,h.cell 5,h.cell 6,h.cell 7,h.cell 8⟩
def tagEv(t:Itm)(g:ByteArray):Ev:=⟨10,t.id,0,1,g,eS,eS⟩
theorem EvT{w wc:World}{bx:Nat}{v:Sl}{G:Nat→Prop}(t:Itm)(hv:SlIn w G 1 v t.tags.length (t.tags.map Value.string))(h8:t.tags.length≤1000)(L:List Ev)(hL:L++t.tags.map (tagEv t)=itmEvs t)(hL0:L.length≤1000){A:Option Addr}{n0 c:Nat}(hn0:n0=L.length)(hrow:RowK 38 7 w wc (.slice A n0 c) L.length (L.flatMap Ev.cells))(hb:Blk wc bx 54 #[.int .i64 t.id,.int .i64 t.feed,.int .i64 t.date,.string t.guid,.string t.title,.string t.link,.bool t.read,.bool t.star,.slice v.1 t.tags.length v.2]){u0 u6 u7 u8 u9 u10 u11 u12 u13 u14 u15 u16 u17 u18 u19 u20 u21 u22 u23 u24 u25 u26 u27 u28 u29 u30 u31 u32 u33 u34 u35:Value}:
  Code.wp Tryz.prog (peel 4 (bodyOf Tryz.f129)) (bodyPost Tryz.prog Tryz.f129 fun e w'=>∃ A c,e=.returned (.slice A (itmEvs t).length c)∧RowK 38 7 w w' (.slice A (itmEvs t).length c) (itmEvs t).length ((itmEvs t).flatMap Ev.cells)) ⟨#[u0,.pointer (some ⟨bx,0,none⟩),.slice none 0 0,.slice A n0 c,undef,undef,u6,u7,u8,u9,u10,u11,u12,u13,u14,u15,u16,u17,u18,u19,u20,u21,u22,u23,u24,u25,u26,u27,u28,u29,u30,u31,u32,u33,u34,u35,undef,undef,undef,undef,undef,undef,undef,undef,undef,undef,undef,undef,undef,undef,undef,undef],[]⟩ wc:=by
 have x0:=hb.cell 0;have x8:=hb.cell 8;simp at x0 x8;have HV:=h_ hv;have HR:=h_ hrow;have HB:=h_ hb;have HL:=h_ hL;obtain⟨n,hln⟩:∃ n,n=t.tags.length:=⟨_,rfl⟩;have HN:=h_ hln;have hnk:n≤1000:=by omega
 rw[← hln] at x8;clear hv hrow hb hL h8 hln;simp only[peel,bodyOf,Tryz.f129];go_wp2
 go_loopw [3,39] (fun ov kv wr=>∃ k:Nat,k≤n∧kv=.int .i64 k∧RowK 38 7 w wr ov (L++(t.tags.take k).map (tagEv t)).length ((L++(t.tags.take k).map (tagEv t)).flatMap Ev.cells)∧Blk wr bx 54 #[.int .i64 t.id,.int .i64 t.feed,.int .i64 t.date,.string t.guid,.string t.title,.string t.link,.bool t.read,.bool t.star,.slice v.1 t.tags.length v.2]) (fun _ kv _=>n - (intOf kv).toNat)
 case atStart=>exact⟨0,by omega,rfl,by simpa using HR.out,HB.out⟩
 case round=>
  obtain⟨k,hk,rfl,hrow,hbx⟩:=hrel;have HR2:=h_ hrow;have HB2:=h_ hbx;have x0:=hbx.cell 0;simp at x0;obtain⟨Ao,co,rfl,-,-,-,-⟩:=hrow.shape
  by_cases hlt:k<n
  ·have hkl:k<t.tags.length:=by rw[← HN.out];exact hlt
   obtain⟨ad,u,hA,-,hla,hu,hcu⟩:=(HV.out.nix hrow.frm).rd.at_ (k:=k) hkl;rw[str_at _ k hkl] at hu;obtain rfl:=Option.some.inj hu;clear hu;have hlen:(L++(t.tags.take k).map (tagEv t)).length≤3000:=by simp;omega
   obtain⟨v4,w4,hrun4,hrow4,hb4⟩:=evPush hrow (by omega) (tagEv t t.tags[k]) hbx (by decide);have hs:L++(t.tags.take k).map (tagEv t)++[tagEv t t.tags[k]]=L++(t.tags.take (k+1)).map (tagEv t):=by rw[List.append_assoc,List.take_succ_eq_append_getElem hkl,List.map_append];rfl
   rw[hs] at hrow4;have HX:Hid (RowK 38 7 w w4 v4 (L++(t.tags.take (k+1)).map (tagEv t)).length ((L++(t.tags.take (k+1)).map (tagEv t)).flatMap Ev.cells)∧Blk w4 bx 54 #[.int .i64 t.id,.int .i64 t.feed,.int .i64 t.date,.string t.guid,.string t.title,.string t.link,.bool t.read,.bool t.star,.slice v.1 t.tags.length v.2]):=⟨hrow4,hb4⟩;dsimp only[tagEv,eS] at hrun4;rw[hA] at *;clear hrow hbx hrow4 hb4 hs;generalize t.tags[k]=y at *;generalize (L++(t.tags.take k).map (tagEv t)).length=q at *;go_wp2_with (at_builtin;refine wpList_append_run hrun4 rfl _ _ rfl rfl rfl ?_);go_roundw
   case rel=>exact⟨k+1,by omega,by go_num,HX.out.1,HX.out.2⟩
   case measure=>simp[intOf];omega
  ·obtain rfl:k=n:=by omega
   have ho:=HR2.out;rw[HN.out,List.take_length,HL.out] at ho;have he:(L++(t.tags.take k).map (tagEv t)).length=(itmEvs t).length:=by rw[HN.out,List.take_length,HL.out]
   go_wp2;go_ret;rw[he];exact⟨_,_,rfl,ho⟩
theorem EvS{w wc:World}{bx:Nat}{v:Sl}{G:Nat→Prop}(t:Itm)(hv:SlIn w G 1 v t.tags.length (t.tags.map Value.string))(h8:t.tags.length≤1000)(L:List Ev)(hL:L++((if t.star=true then [⟨9,t.id,0,1,eS,eS,eS⟩] else [])++t.tags.map (tagEv t))=itmEvs t)(hL0:L.length≤900){A:Option Addr}{n0 c:Nat}(hn0:n0=L.length)(hrow:RowK 38 7 w wc (.slice A n0 c) L.length (L.flatMap Ev.cells))(hb:Blk wc bx 54 #[.int .i64 t.id,.int .i64 t.feed,.int .i64 t.date,.string t.guid,.string t.title,.string t.link,.bool t.read,.bool t.star,.slice v.1 t.tags.length v.2]){u0 u6 u7 u8 u9 u10 u11 u12 u13 u14 u15 u16 u17 u18 u19 u20 u21 u22 u23 u24 u25 u26 u27 u28 u29:Value}:
  Code.wp Tryz.prog (peel 3 (bodyOf Tryz.f129)) (bodyPost Tryz.prog Tryz.f129 fun e w'=>∃ A c,e=.returned (.slice A (itmEvs t).length c)∧RowK 38 7 w w' (.slice A (itmEvs t).length c) (itmEvs t).length ((itmEvs t).flatMap Ev.cells)) ⟨#[u0,.pointer (some ⟨bx,0,none⟩),.slice none 0 0,.slice A n0 c,undef,undef,u6,u7,u8,u9,u10,u11,u12,u13,u14,u15,u16,u17,u18,u19,u20,u21,u22,u23,u24,u25,u26,u27,u28,u29,undef,undef,undef,undef,undef,undef,undef,undef,undef,undef,undef,undef,undef,undef,undef,undef,undef,undef,undef,undef,undef,undef],[]⟩ wc:=by
 obtain⟨x0,x1,x2,x3,x4,x5,x6,x7,x8⟩:=itm9 hb;obtain⟨v2,w2,run2,hr2,hb2⟩:=evPush hrow (by omega) ⟨9,t.id,0,1,eS,eS,eS⟩ hb (by decide);obtain⟨A2,c2,rfl,-,-,-,-⟩:=hr2.shape;have HV:=h_ hv;have HR:=h_ hrow;have HB:=h_ hb;have HL:=h_ hL;have HR2:=h_ hr2;have HB2:=h_ hb2;have H8:=h_ h8;have HN0:=h_ hn0;dsimp only[eS] at run2;clear hv hrow hb hL hr2 hb2 h8 hn0;refine peelK (k':=4) fun K hK=>?_
 conv in hdC _=>whnf
 cases hf:t.star with
 | false=>
   rw[hf] at x7;go_wp2
   exact EvT t HV.out H8.out L (by have:=HL.out;rw[hf] at this;simpa using this) (by omega) HN0.out HR.out HB.out
 | true=>
   rw[hf] at x7;go_wp2_with (at_builtin;refine wpList_append_run run2 rfl _ _ rfl rfl rfl ?_);exact EvT t HV.out H8.out (L++[⟨9,t.id,0,1,eS,eS,eS⟩]) (by have:=HL.out;rw[hf] at this;simpa using this) (by simp;omega) (by simp) (by simpa only[List.length_append,List.length_cons,List.length_nil,Nat.zero_add] using HR2.out) HB2.out
theorem EvR{w wc:World}{bx:Nat}{v:Sl}{G:Nat→Prop}(t:Itm)(hv:SlIn w G 1 v t.tags.length (t.tags.map Value.string))(h8:t.tags.length≤1000)(L:List Ev)(hL:L++((if t.read=true then [⟨8,t.id,0,1,eS,eS,eS⟩] else [])++((if t.star=true then [⟨9,t.id,0,1,eS,eS,eS⟩] else [])++t.tags.map (tagEv t)))=itmEvs t)(hL0:L.length≤800){A:Option Addr}{n0 c:Nat}(hn0:n0=L.length)(hrow:RowK 38 7 w wc (.slice A n0 c) L.length (L.flatMap Ev.cells))(hb:Blk wc bx 54 #[.int .i64 t.id,.int .i64 t.feed,.int .i64 t.date,.string t.guid,.string t.title,.string t.link,.bool t.read,.bool t.star,.slice v.1 t.tags.length v.2]){u0 u6 u7 u8 u9 u10 u11 u12 u13 u14 u15 u16 u17 u18 u19 u20 u21:Value}:
  Code.wp Tryz.prog (peel 2 (bodyOf Tryz.f129)) (bodyPost Tryz.prog Tryz.f129 fun e w'=>∃ A c,e=.returned (.slice A (itmEvs t).length c)∧RowK 38 7 w w' (.slice A (itmEvs t).length c) (itmEvs t).length ((itmEvs t).flatMap Ev.cells)) ⟨#[u0,.pointer (some ⟨bx,0,none⟩),.slice none 0 0,.slice A n0 c,undef,undef,u6,u7,u8,u9,u10,u11,u12,u13,u14,u15,u16,u17,u18,u19,u20,u21,undef,undef,undef,undef,undef,undef,undef,undef,undef,undef,undef,undef,undef,undef,undef,undef,undef,undef,undef,undef,undef,undef,undef,undef,undef,undef,undef,undef,undef,undef],[]⟩ wc:=by
 obtain⟨x0,x1,x2,x3,x4,x5,x6,x7,x8⟩:=itm9 hb;obtain⟨v2,w2,run2,hr2,hb2⟩:=evPush hrow (by omega) ⟨8,t.id,0,1,eS,eS,eS⟩ hb (by decide);obtain⟨A2,c2,rfl,-,-,-,-⟩:=hr2.shape;have HV:=h_ hv;have HR:=h_ hrow;have HB:=h_ hb;have HL:=h_ hL;have HR2:=h_ hr2;have HB2:=h_ hb2;have H8:=h_ h8;have HN0:=h_ hn0;dsimp only[eS] at run2;clear hv hrow hb hL hr2 hb2 h8 hn0;refine peelK (k':=3) fun K hK=>?_
 conv in hdC _=>whnf
 cases hf:t.read with
 | false=>
   rw[hf] at x6;go_wp2
   exact EvS t HV.out H8.out L (by have:=HL.out;rw[hf] at this;simpa using this) (by omega) HN0.out HR.out HB.out
 | true=>
   rw[hf] at x6;go_wp2_with (at_builtin;refine wpList_append_run run2 rfl _ _ rfl rfl rfl ?_);exact EvS t HV.out H8.out (L++[⟨8,t.id,0,1,eS,eS,eS⟩]) (by have:=HL.out;rw[hf] at this;simpa using this) (by simp;omega) (by simp) (by simpa only[List.length_append,List.length_cons,List.length_nil,Nat.zero_add] using HR2.out) HB2.out
theorem events_any{w:World}{v:Sl}{G:Nat→Prop}(t:Itm)(hv:SlIn w G 1 v t.tags.length (t.tags.map Value.string))(h8:t.tags.length≤1000):
  Calls Tryz.prog 129 #[.agg #[.int .i64 t.id,.int .i64 t.feed,.int .i64 t.date,.string t.guid,.string t.title,.string t.link,.bool t.read,.bool t.star,.slice v.1 t.tags.length v.2]] w fun e w'=>∃ A c,e=.returned (.slice A (itmEvs t).length c)∧RowK 38 7 w w' (.slice A (itmEvs t).length c) (itmEvs t).length ((itmEvs t).flatMap Ev.cells):=by
 obtain⟨w0,hw0⟩:∃ w0,w0=w.alloc (.cells #[.int .i64 t.id,.int .i64 t.feed,.int .i64 t.date,.string t.guid,.string t.title,.string t.link,.bool t.read,.bool t.star,.slice v.1 t.tags.length v.2] 54):=⟨_,rfl⟩;have f0:Frm Nix w w0:=by rw[hw0];exact(fR w).alloc _
 have hb0:Blk w0 w.heap.size 54 #[.int .i64 t.id,.int .i64 t.feed,.int .i64 t.date,.string t.guid,.string t.title,.string t.link,.bool t.read,.bool t.star,.slice v.1 t.tags.length v.2]:=by rw[hw0];exact Blk.new w _ _
 have HV:=h_ hv;have H8:=h_ h8;obtain⟨x0,x1,x2,x3,x4,x5,x6,x7,x8⟩:=itm9 hb0;have HW0:=h_ hw0;have HF:=h_ f0;have HB:=h_ hb0;clear hv h8 hw0 f0 hb0;go_enter Tryz.func129,Tryz.ntmps129;show Code.wp Tryz.prog (peel 0 (bodyOf Tryz.f129)) _ _ _
 have e0:peel 0 (bodyOf Tryz.f129)=.seq (hdC (peel 0 (bodyOf Tryz.f129))) (peel 1 (bodyOf Tryz.f129)):=by kernel_rfl
 rw[e0];clear e0;refine wp_seq_k fun K hK=>?_
 conv in hdC _=>whnf
 go_wp2;rw[← HW0.out];refine peelK (k':=2) fun K hK=>?_
 conv in hdC _=>whnf
 go_wp2;exact EvR t HV.out H8.out [itmEv t] (by simp only[itmEvs,List.singleton_append,List.append_assoc];rfl) (by simp) rfl (RowK.lit _ HF.out 1 _ rfl (by unfold maxLen;omega)) (HB.out.alloc _)
theorem putL9(a0 a1 a2 a3 a4 a5 a6 a7 a8 b0 b1 b2 b3 b4 b5 b6 b7 b8:Value):putL #[a0,a1,a2,a3,a4,a5,a6,a7,a8] 0 [b0,b1,b2,b3,b4,b5,b6,b7,b8]=#[b0,b1,b2,b3,b4,b5,b6,b7,b8]:=by simp[putL]
theorem told_ret{W:World}{g:Nat}{tmps:Array Value}{a0 a1 a2 a3 a4 a5 a6 a7 a8:Value}(hb:Blk W g 54 #[a0,a1,a2,a3,a4,a5,a6,a7,a8])(h2:tmps.getD 2 undef=.pointer (some ⟨g,0,none⟩)):
  (results Tryz.f46 tmps).run Tryz.prog W=.ok (.agg #[a0,a1,a2,a3,a4,a5,a6,a7,a8]) W:=by
 obtain⟨c0,c1,c2,c3,c4,c5,c6,c7,c8⟩:=itm9 hb;have h2':tmps[2]?.getD undef=.pointer (some ⟨g,0,none⟩):=by simpa using h2
 simp[results,Tryz.results46,h2',go_sem,c0,c1,c2,c3,c4,c5,c6,c7,c8]
theorem told_any{w:World}{v:Sl}(t:Itm)(hv:TagsIn w v t.tags)(h8:t.tags.length≤1000):
  Calls Tryz.prog 46 #[.agg #[.int .i64 t.id,.int .i64 t.feed,.int .i64 t.date,.string t.guid,.string t.title,.string t.link,.bool t.read,.bool t.star,.slice v.1 t.tags.length v.2]] w fun e w'=>∃ v':Sl,e=.returned (.agg #[.int .i64 t.id,.int .i64 t.feed,.int .i64 t.date,.string t.guid,.string t.title,.string t.link,.bool t.read,.bool t.star,.slice v'.1 t.tags.length v'.2])∧SlIn w' (fun k=>w.heap.size≤k) 1 v' t.tags.length (t.tags.map Value.string)∧Frm Nix w w':=by
 obtain⟨w0,hw0⟩:∃ w0,w0=w.alloc (.cells #[.int .i64 t.id,.int .i64 t.feed,.int .i64 t.date,.string t.guid,.string t.title,.string t.link,.bool t.read,.bool t.star,.slice v.1 t.tags.length v.2] 54):=⟨_,rfl⟩;have f0:Frm Nix w w0:=by rw[hw0];exact(fR w).alloc _
 have hb0:Blk w0 w.heap.size 54 #[.int .i64 t.id,.int .i64 t.feed,.int .i64 t.date,.string t.guid,.string t.title,.string t.link,.bool t.read,.bool t.star,.slice v.1 t.tags.length v.2]:=by rw[hw0];exact Blk.new w _ _
 obtain⟨w1,hw1⟩:∃ w1,w1=w0.alloc (.cells #[.int .i64 0,.int .i64 0,.int .i64 0,.string ⟨#[]⟩,.string ⟨#[]⟩,.string ⟨#[]⟩,.bool false,.bool false,.slice none 0 0] 54):=⟨_,rfl⟩;have f1:Frm Nix w0 w1:=by rw[hw1];exact(fR w0).alloc _
 have hb1:=hb0.frm f1 id;have hz1:Blk w1 w0.heap.size 54 #[.int .i64 0,.int .i64 0,.int .i64 0,.string ⟨#[]⟩,.string ⟨#[]⟩,.string ⟨#[]⟩,.bool false,.bool false,.slice none 0 0]:=by rw[hw1];exact Blk.new w0 _ _
 have e01:w0.heap.size=w.heap.size+1:=by rw[hw0];simp
 rw[e01] at hz1;have K:=h_ (Clone_any (hv.frm (f0.trans f1) fun _ _=>id) h8);have F1:=h_ (f0.trans f1);have HW0:=h_ hw0;have HW1:=h_ hw1;have HB:=h_ hb1;have HZ:=h_ hz1;have x8:=hb1.cell 8;simp at x8;have hsz:=f0.size;clear hv f0 f1 hb0 hb1 hz1 hw0 hw1;go_enter Tryz.func46,Tryz.ntmps46
 go_wp2_with (first
  | (go_at_call 83;rw[← HW0.out,← HW1.out];refine K.out.mono ?_;rintro r w2 ⟨A,c,rfl,hrow⟩;have HR:=h_ hrow;have b2:=HB.out.frm hrow.frm id;have fz:=b2.frozen 8;obtain⟨q0,q1,q2,q3,q4,q5,q6,q7,q8⟩:=itm9 b2;have z2:=HZ.out.frm hrow.frm id;obtain⟨p0,p1,p2,p3,p4,p5,p6,p7,p8⟩:=itm9 z2;have g0:=z2.frozen 0;have g1:=z2.frozen 1;have g2:=z2.frozen 2;have g3:=z2.frozen 3;have g4:=z2.frozen 4;have g5:=z2.frozen 5;have g6:=z2.frozen 6;have g7:=z2.frozen 7;have g8:=z2.frozen 8;have HZ2:=h_ z2;clear b2 hrow z2))
 have hsz2:w.heap.size+1<w2.heap.size:=HZ2.out.lt;have hT:=HR.out.toK.sl;have hw1s:w.heap.size+1<w1.heap.size:=HZ.out.lt;obtain⟨w3,hw3⟩:∃ w3,w3=w2.setCell ⟨w.heap.size,8,none⟩ (.slice A t.tags.length c):=⟨_,rfl⟩;have hb3:Blk w3 (w.heap.size+1) 54 #[.int .i64 0,.int .i64 0,.int .i64 0,.string ⟨#[]⟩,.string ⟨#[]⟩,.string ⟨#[]⟩,.bool false,.bool false,.slice none 0 0]:=by rw[hw3];exact HZ2.out.far (p:=⟨w.heap.size,8,none⟩) (by simp) (.slice A t.tags.length c)
 have F3:Frm (fun k=>k=w.heap.size∨k=w.heap.size+1) w2 w3:=by rw[hw3];exact(Frm.refl _ w2).setCell (p:=⟨w.heap.size,8,none⟩) (.inl (.inl rfl)) (.slice A t.tags.length c)
 obtain⟨w4,hw4⟩:∃ w4,w4=w3.setCells (w.heap.size+1) 0 [.int .i64 t.id,.int .i64 t.feed,.int .i64 t.date,.string t.guid,.string t.title,.string t.link,.bool t.read,.bool t.star,.slice A t.tags.length c]:=⟨_,rfl⟩;have hb5:Blk w4 (w.heap.size+1) 54 #[.int .i64 t.id,.int .i64 t.feed,.int .i64 t.date,.string t.guid,.string t.title,.string t.link,.bool t.read,.bool t.star,.slice A t.tags.length c]:=by rw[hw4,← putL9 (.int .i64 0) (.int .i64 0) (.int .i64 0) (.string ⟨#[]⟩) (.string ⟨#[]⟩) (.string ⟨#[]⟩) (.bool false) (.bool false) (.slice none 0 0)];exact Blk.putL [.int .i64 t.id,.int .i64 t.feed,.int .i64 t.date,.string t.guid,.string t.title,.string t.link,.bool t.read,.bool t.star,.slice A t.tags.length c] 0 hb3
 have F4:Frm (fun k=>k=w.heap.size∨k=w.heap.size+1) w2 w4:=by rw[hw4];exact Frm.setCells [.int .i64 t.id,.int .i64 t.feed,.int .i64 t.date,.string t.guid,.string t.title,.string t.link,.bool t.read,.bool t.star,.slice A t.tags.length c] 0 F3 (.inl (.inr rfl))
 have hF:Frm Nix w w4:=(F1.out.trans HR.out.frm).next F4 fun k hk=>.inr (by rcases hk with rfl | rfl<;>omega)
 have hS:=(hT.frm F4 fun k hk e=>by rcases e with e | e<;>omega).mono fun k hk=>(show w.heap.size≤k by omega)
 simp only[World.setCells] at hw4;rw[hw3] at hw4;rw[← hw4];refine bodyPost_ret (told_ret hb5 rfl) rfl ?_;exact⟨(A,c),rfl,hS,hF⟩
end Go.Proofs.YtlafbakoefcifaaGreat
