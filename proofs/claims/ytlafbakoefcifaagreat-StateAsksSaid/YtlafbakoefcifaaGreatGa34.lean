/-
  Contracts: past's closure put.
-/
import Derived.Test.YtlafbakoefcifaaGreatGa16
import Derived.Test.YtlafbakoefcifaaGreatGa33
set_option linter.unusedVariables false
set_option linter.unusedSimpArgs false
set_option maxRecDepth 100000
set_option maxHeartbeats 16000000
namespace Go.Proofs.YtlafbakoefcifaaGreat
open Go.RowKit Go.Lib
section
def Keeps(w w':World):Prop:=∀ (k:Nat) (cs:Array Value) (t:TypeId) (fr:Nat×Nat),w.heap[k]? =some (Obj.cells cs t fr)→t≠38→t≠22→w'.heap[k]? =some (Obj.cells cs t fr)
theorem Keeps.trans{w w1 w2:World}(h:Keeps w w1)(k:Keeps w1 w2):Keeps w w2:=fun j cs t fr hj h1 h2=>k j cs t fr (h j cs t fr hj h1 h2) h1 h2
theorem Keeps.frm{F:Nat→Prop}{w w1:World}(h:Frm F w w1)(hF:∀ (k:Nat) (cs:Array Value) (t:TypeId) (fr:Nat×Nat),w.heap[k]? =some (Obj.cells cs t fr)→t≠38→t≠22→¬F k):Keeps w w1:=fun j cs t fr hj h1 h2=>(h.block j (lt_of_obj hj) (hF j cs t fr hj h1 h2)).trans hj
theorem Keeps.nix{w w1:World}(h:Frm Nix w w1):Keeps w w1:=Keeps.frm h fun _ _ _ _ _ _ _=>id
theorem RowK.keep{e:TypeId}{s n:Nat}{w0 w1 w2:World}{v:Value}{xs:List Value}(h:RowK e s w0 w1 v n xs)(hk:Keeps w1 w2)(hf:Frm Nix w0 w2)(h1:e≠38)(h2:e≠22):RowK e s w0 w2 v n xs:=by
 obtain⟨⟨ho1,ho2⟩,-⟩:=h;refine⟨⟨ho1,?_⟩,hf⟩;rcases ho2 with ho2 | ⟨g,cap,cur,hv,hg,hh,r⟩
 ·exact .inl ho2
 ·exact .inr ⟨g,cap,cur,hv,hg,hk _ _ _ _ hh h1 h2,r⟩
structure PastAt(w wc:World)(bx bl:Nat)(fo fe it se:Sl)(x:St)(A:Option Addr)(c:Nat)(L:List Ev):Prop where
 box:Blk wc bx 30 #[.int .i64 x.clock,.slice fo.1 x.fols.length fo.2,.slice fe.1 x.fees.length fe.2,.slice it.1 x.itms.length it.2,.slice se.1 x.seas.length se.2,.int .i64 x.tFol,.int .i64 x.tFee,.int .i64 x.tItm,.int .i64 x.tSea]
 lst:Blk wc bl 22 #[.slice A L.length c]
 row:RowK 38 7 w wc (.slice A L.length c) L.length (L.flatMap Ev.cells)
 hbl:w.heap.size≤bl
section
variable {w wc w2:World} {bx bl:Nat} {fo fe it se:Sl} {x:St} {A:Option Addr} {c:Nat} {L:List Ev}
theorem PastAt.nix(h:PastAt w wc bx bl fo fe it se x A c L)(hf:Frm Nix wc w2):PastAt w w2 bx bl fo fe it se x A c L:=⟨h.box.frm hf id,h.lst.frm hf id,h.row.more hf,h.hbl⟩
theorem put_any{G:Nat→Prop}{A':Option Addr}{c':Nat}(h:PastAt w wc bx bl fo fe it se x A c L)(es:List Ev)(hs:Rd wc G 7 A' es.length (es.flatMap Ev.cells))(hn:L.length+es.length≤1000000):
  Calls Tryz.prog 127 #[.slice A' es.length c',.pointer (some ⟨bl,0,none⟩)] wc fun e w'=>e=.returned (.tuple #[])∧Keeps wc w'∧∃ A2 c2,PastAt w w' bx bl fo fe it se x A2 c2 (L++es):=by
 obtain⟨v',w2,hrun,hrow,hf,hat⟩:=h.row.app elemEv c' hs (ev_one es) (by unfold maxLen;omega) (by omega);obtain⟨A2,c2,rfl,-,-,-,-⟩:=hrow.shape;have hne1:∀ k,(Value.slice A L.length c).ownBlock=some k→k≠bl:=fun k hk e=>h.row.ne_blk h.lst (by decide) (e ▸ hk)
 have hne2:∀ k,(Value.slice A L.length c).ownBlock=some k→k≠bx:=fun k hk e=>h.row.ne_blk h.box (by decide) (e ▸ hk)
 have hbb:bl≠bx:=h.lst.ne_ h.box (by decide);have l2:=h.lst.frm hf (fun hk=>hne1 _ hk rfl);have b2:=h.box.frm hf (fun hk=>hne2 _ hk rfl);have c0:=h.lst.cell 0;have l0:=l2.cell 0;have g0:=l2.frozen 0;simp at c0 l0
 have hout:Keeps wc (w2.setCell ⟨bl,0,none⟩ (.slice A2 (L.length+es.length) c2))∧PastAt w (w2.setCell ⟨bl,0,none⟩ (.slice A2 (L.length+es.length) c2)) bx bl fo fe it se x A2 c2 (L++es):=by
  have fs:Frm (·=bl) w2 (w2.setCell ⟨bl,0,none⟩ (.slice A2 (L.length+es.length) c2)):=(Frm.refl (·=bl) w2).setCell (.inl rfl) _;refine⟨(Keeps.frm hf fun k cs t fr hk h1 h2 ho=>?_).trans (Keeps.frm fs fun k cs t fr hk h1 h2 ho=>?_),b2.frm fs (fun e=>hbb e.symm),?_,?_,h.hbl⟩
  ·rcases h.row.own.2 with ⟨hv,_⟩ | ⟨g,cap,cur,hv,_,hh,_⟩
   ·rw[hv] at ho
    simp[Value.ownBlock] at ho
   ·rw[hv] at ho
    have:g=k:=by simpa [Value.ownBlock] using ho
    subst this;rw[hh] at hk;injection hk with hk;injection hk with _ h3 _;exact h1 h3.symm
  ·subst ho
   have:=l2;unfold Blk at this;rw[this] at hk;injection hk with hk;injection hk with _ h3 _;exact h2 h3.symm
  ·have:=l2.set_ 0 (.slice A2 (L.length+es.length) c2)
   simpa using this
  ·rw[List.length_append,List.flatMap_append]
   exact hrow.far fs (fun k hk=>by rw[hk];exact h.hbl) (fun k hk e=>hrow.ne_blk l2 (by decide) (e ▸ hk))
 have HO:=h_ hout;clear h hs hrow hf hat hne1 hne2 hbb l2 b2 hout;generalize L.length=n at *;generalize es.length=m at *;go_enter Tryz.func127,Tryz.ntmps127;go_wp2_with (at_builtin;refine wpList_append_run hrun rfl _ _ rfl rfl rfl ?_)
 go_end0
 exact⟨rfl,HO.out.1,_,_,HO.out.2⟩
theorem put_lit(h:PastAt w wc bx bl fo fe it se x A c L)(es:List Ev){cs:Array Value}{m:Nat}(hcs:cs.toList=es.flatMap Ev.cells)(hm:es.length=m)(hn:L.length+m≤1000000):
  Calls Tryz.prog 127 #[.slice (some ⟨wc.heap.size,0,none⟩) m m,.pointer (some ⟨bl,0,none⟩)] (wc.alloc (.cells cs 38)) fun e w'=>e=.returned (.tuple #[])∧Keeps wc w'∧∃ A2 c2,PastAt w w' bx bl fo fe it se x A2 c2 (L++es):=by
 subst hm;have hf:Frm Nix wc (wc.alloc (.cells cs 38)):=(fR wc).alloc _
 have hr:Rd (wc.alloc (.cells cs 38)) (fun k=>k=wc.heap.size) 7 (some ⟨wc.heap.size,0,none⟩) es.length (es.flatMap Ev.cells):=by
  rw[← hcs];exact Rd.of_obj (heap_alloc_new wc (.cells cs 38)) es.length (by rw[hcs];exact flat_len Ev.clen es)
 exact(put_any (h.nix hf) es hr (by omega)).mono fun e w' ⟨h1,h2,h3⟩=>⟨h1,(Keeps.nix hf).trans h2,h3⟩
end
end
theorem PastP11{w wc:World}{bx bl:Nat}{fo fe it se:Sl}{ts:List (Sl×Itm)}{x:St}{A:Option Addr}{c:Nat}{L:List Ev}{G:Nat→Prop}(hS:StIn w G fo fe it se ts x)(hsm:StSmall x)(hp:(pastS x).length≤900000)(h:PastAt w wc bx bl fo fe it se x A c L)(hL:L=pastS x){u0 u5 u6 u7 u8 u9 u10 u11 u12 u13 u14 u15 u16 u17 u18 u19 u20 u21 u22 u23 u24 u25 u26 u27 u28 u29 u30 u31 u32 u33 u34 u35 u36 u37 u38 u39 u40 u41 u42 u43 u44 u45 u46 u47 u48 u49 u50 u51 u52 u53 u54 u55 u56 u57 u58 u59 u60 u61 u62 u63 u64 u65 u66 u67 u68 u69 u70 u71 u72 u73 u74 u75 u76 u77 u78 u79 u80 u81 u82 u83 u84 u85 u86 u87 u88 u89 u90 u91 u92 u93 u94 u95 u96 u97 u98 u99 u100 u101 u102 u103 u104 u105 u106 u107 u108 u109 u110 u111 u112 u113 u114 u115 u116 u117 u118 u119 u120 u121 u122 u123 u124 u125 u126 u127 u128 u129 u130 u131 u132 u133 u134 u135 u136 u137 u138 u139 u140 u141 u142 u143 u144 u145 u146 u147 u148 u149 u150 u151:Value}:
  Code.wp Tryz.prog (peel 11 (bodyOf Tryz.f101)) (bodyPost Tryz.prog Tryz.f101 fun e w'=>∃ A c,e=.returned (.slice A (pastS x).length c)∧RowK 38 7 w w' (.slice A (pastS x).length c) (pastS x).length ((pastS x).flatMap Ev.cells)) ⟨#[u0,.pointer (some ⟨bx,0,none⟩),.slice none 0 0,.pointer (some ⟨bl,0,none⟩),.func (.func 127) #[] #[.pointer (some ⟨bl,0,none⟩)],u5,u6,u7,u8,u9,u10,u11,u12,u13,u14,u15,u16,u17,u18,u19,u20,u21,u22,u23,u24,u25,u26,u27,u28,u29,u30,u31,u32,u33,u34,u35,u36,u37,u38,u39,u40,u41,u42,u43,u44,u45,u46,u47,u48,u49,u50,u51,u52,u53,u54,u55,u56,u57,u58,u59,u60,u61,u62,u63,u64,u65,u66,u67,u68,u69,u70,u71,u72,u73,u74,u75,u76,u77,u78,u79,u80,u81,u82,u83,u84,u85,u86,u87,u88,u89,u90,u91,u92,u93,u94,u95,u96,u97,u98,u99,u100,u101,u102,u103,u104,u105,u106,u107,u108,u109,u110,u111,u112,u113,u114,u115,u116,u117,u118,u119,u120,u121,u122,u123,u124,u125,u126,u127,u128,u129,u130,u131,u132,u133,u134,u135,u136,u137,u138,u139,u140,u141,u142,u143,u144,u145,u146,u147,u148,u149,u150,u151],[]⟩ wc:=by
 have l0:=h.lst.cell 0;simp at l0;have HR:=h_ h.row;clear hS hsm hp h;subst hL;simp only[peel,bodyOf,Tryz.f101];go_wp2;go_ret;exact⟨_,_,rfl,HR.out⟩
theorem PastP10{w wc:World}{bx bl:Nat}{fo fe it se:Sl}{ts:List (Sl×Itm)}{x:St}{A:Option Addr}{c:Nat}{L:List Ev}{G:Nat→Prop}(hS:StIn w G fo fe it se ts x)(hsm:StSmall x)(hp:(pastS x).length≤900000)(h:PastAt w wc bx bl fo fe it se x A c L)(hL:L++(if x.clock≠0 then [(⟨13,0,0,x.clock,eS,eS,eS⟩:Ev)] else [])=pastS x){u0 u5 u6 u7 u8 u9 u10 u11 u12 u13 u14 u15 u16 u17 u18 u19 u20 u21 u22 u23 u24 u25 u26 u27 u28 u29 u30 u31 u32 u33 u34 u35 u36 u37 u38 u39 u40 u41 u42 u43 u44 u45 u46 u47 u48 u49 u50 u51 u52 u53 u54 u55 u56 u57 u58 u59 u60 u61 u62 u63 u64 u65 u66 u67 u68 u69 u70 u71 u72 u73 u74 u75 u76 u77 u78 u79 u80 u81 u82 u83 u84 u85 u86 u87 u88 u89 u90 u91 u92 u93 u94 u95 u96 u97 u98 u99 u100 u101 u102 u103 u104 u105 u106 u107 u108 u109 u110 u111 u112 u113 u114 u115 u116 u117 u118 u119 u120 u121 u122 u123 u124 u125 u126 u127 u128 u129 u130 u131 u132 u133 u134 u135 u136 u137 u138 u139 u140 u141 u142 u143 u144 u145 u146 u147 u148 u149 u150 u151:Value}:
  Code.wp Tryz.prog (peel 10 (bodyOf Tryz.f101)) (bodyPost Tryz.prog Tryz.f101 fun e w'=>∃ A c,e=.returned (.slice A (pastS x).length c)∧RowK 38 7 w w' (.slice A (pastS x).length c) (pastS x).length ((pastS x).flatMap Ev.cells)) ⟨#[u0,.pointer (some ⟨bx,0,none⟩),.slice none 0 0,.pointer (some ⟨bl,0,none⟩),.func (.func 127) #[] #[.pointer (some ⟨bl,0,none⟩)],u5,u6,u7,u8,u9,u10,u11,u12,u13,u14,u15,u16,u17,u18,u19,u20,u21,u22,u23,u24,u25,u26,u27,u28,u29,u30,u31,u32,u33,u34,u35,u36,u37,u38,u39,u40,u41,u42,u43,u44,u45,u46,u47,u48,u49,u50,u51,u52,u53,u54,u55,u56,u57,u58,u59,u60,u61,u62,u63,u64,u65,u66,u67,u68,u69,u70,u71,u72,u73,u74,u75,u76,u77,u78,u79,u80,u81,u82,u83,u84,u85,u86,u87,u88,u89,u90,u91,u92,u93,u94,u95,u96,u97,u98,u99,u100,u101,u102,u103,u104,u105,u106,u107,u108,u109,u110,u111,u112,u113,u114,u115,u116,u117,u118,u119,u120,u121,u122,u123,u124,u125,u126,u127,u128,u129,u130,u131,u132,u133,u134,u135,u136,u137,u138,u139,u140,u141,u142,u143,u144,u145,u146,u147,u148,u149,u150,u151],[]⟩ wc:=by
 obtain⟨x0,x1,x2,x3,x4,x5,x6,x7,x8⟩:=blk9 h.box;have KP:=fun hn=>h_ (put_lit h [(⟨13,0,0,x.clock,eS,eS,eS⟩:Ev)] (cs:=#[.int .i64 13,.int .i64 0,.int .i64 0,.int .i64 x.clock,.string ⟨#[]⟩,.string ⟨#[]⟩,.string ⟨#[]⟩]) (m:=1) rfl rfl hn)
 have HS:=h_ hS;have HSm:=h_ hsm;have HP:=h_ hp;have HL:=h_ hL;have H:=h_ h;have hlen:L.length≤900000:=by have:=congrArg List.length hL;rw[List.length_append] at this;omega
 clear hS hsm hp hL h;refine peelK (k':=11) fun K hK=>?_
 conv in hdC _=>whnf
 have KP:=KP (by omega)
 by_cases hc:x.clock≠0
 ·have hd:¬x.clock=0:=hc
  have HL2:Hid (L++[(⟨13,0,0,x.clock,eS,eS,eS⟩:Ev)]++[]=pastS x):=by
   unfold Hid;have:=HL.out;rw[if_pos hc] at this;rw[← this];simp
  clear hc;go_wp2_with (go_at_call 127;refine KP.out.mono ?_;rintro r w2 ⟨rfl,-,A2,c2,h2⟩);exact PastP11 HS.out HSm.out HP.out h2 (by have:=HL2.out;rwa [List.append_nil] at this)
 ·have hd:x.clock=0:=by omega
  have HL2:Hid (L++[]=pastS x):=by
   unfold Hid;have:=HL.out;rw[if_neg hc] at this
   simpa using this
  clear hc;go_wp2;exact PastP11 HS.out HSm.out HP.out H.out (by have:=HL2.out;rwa [List.append_nil] at this)
theorem PastP9{w wc:World}{bx bl:Nat}{fo fe it se:Sl}{ts:List (Sl×Itm)}{x:St}{A:Option Addr}{c:Nat}{L:List Ev}{G:Nat→Prop}(hS:StIn w G fo fe it se ts x)(hsm:StSmall x)(hp:(pastS x).length≤900000)(h:PastAt w wc bx bl fo fe it se x A c L)(hL:L++(x.seas.map seaEv++(if x.clock≠0 then [(⟨13,0,0,x.clock,eS,eS,eS⟩:Ev)] else []))=pastS x){u0 u5 u6 u7 u8 u9 u10 u11 u12 u13 u14 u15 u16 u17 u18 u19 u20 u21 u22 u23 u24 u25 u26 u27 u28 u29 u30 u31 u32 u33 u34 u35 u36 u37 u38 u39 u40 u41 u42 u43 u44 u45 u46 u47 u48 u49 u50 u51 u52 u53 u54 u55 u56 u57 u58 u59 u60 u61 u62 u63 u64 u65 u66 u67 u68 u69 u70 u71 u72 u73 u74 u75 u76 u77 u78 u79 u80 u81 u82 u83 u84 u85 u86 u87 u88 u89 u90 u91 u92 u93 u94 u95 u96 u97 u98 u99 u100 u101 u102 u103 u104 u105 u106 u107 u108 u109 u110 u111 u112 u113 u114 u115 u116 u117 u118 u119 u120 u121 u122 u123 u124 u125 u126 u127 u128 u129 u130 u131 u132 u133 u134 u135 u136 u137 u138 u139 u140 u141 u142 u143 u144 u145 u146 u147 u148 u149 u150 u151:Value}:
  Code.wp Tryz.prog (peel 9 (bodyOf Tryz.f101)) (bodyPost Tryz.prog Tryz.f101 fun e w'=>∃ A c,e=.returned (.slice A (pastS x).length c)∧RowK 38 7 w w' (.slice A (pastS x).length c) (pastS x).length ((pastS x).flatMap Ev.cells)) ⟨#[u0,.pointer (some ⟨bx,0,none⟩),.slice none 0 0,.pointer (some ⟨bl,0,none⟩),.func (.func 127) #[] #[.pointer (some ⟨bl,0,none⟩)],u5,u6,u7,u8,u9,u10,u11,u12,u13,u14,u15,u16,u17,u18,u19,u20,u21,u22,u23,u24,u25,u26,u27,u28,u29,u30,u31,u32,u33,u34,u35,u36,u37,u38,u39,u40,u41,u42,u43,u44,u45,u46,u47,u48,u49,u50,u51,u52,u53,u54,u55,u56,u57,u58,u59,u60,u61,u62,u63,u64,u65,u66,u67,u68,u69,u70,u71,u72,u73,u74,u75,u76,u77,u78,u79,u80,u81,u82,u83,u84,u85,u86,u87,u88,u89,u90,u91,u92,u93,u94,u95,u96,u97,u98,u99,u100,u101,u102,u103,u104,u105,u106,u107,u108,u109,u110,u111,u112,u113,u114,u115,u116,u117,u118,u119,u120,u121,u122,u123,u124,u125,u126,u127,u128,u129,u130,u131,u132,u133,u134,u135,u136,u137,u138,u139,u140,u141,u142,u143,u144,u145,u146,u147,u148,u149,u150,u151],[]⟩ wc:=by
 obtain⟨x0,x1,x2,x3,x4,x5,x6,x7,x8⟩:=blk9 h.box;have HS:=h_ hS;have HSm:=h_ hsm;have HP:=h_ hp;have HL:=h_ hL;have H:=h_ h;have hlen:L.length≤900000:=by have:=congrArg List.length hL;rw[List.length_append] at this;omega
 clear hS hsm hp hL h;have hcap:=HSm.out.seas;obtain⟨sa,sc⟩:=se;dsimp only at x1 x2 x3 x4;refine peelK (k':=10) fun K hK=>?_
 conv in hdC _=>whnf
 go_wp2
 go_loopw [127] (fun kv wr=>∃ (j:Nat) (A:Option Addr) (c:Nat) (L:List Ev),j≤x.seas.length∧kv=.int .i64 j∧PastAt w wr bx bl fo fe it (sa,sc) x A c L∧L++((x.seas.drop j).map seaEv++(if x.clock≠0 then [(⟨13,0,0,x.clock,eS,eS,eS⟩:Ev)] else []))=pastS x) (fun kv _=>x.seas.length - (intOf kv).toNat)
 case atStart=>exact⟨0,_,_,_,by omega,rfl,H.out,HL.out⟩
 case round=>
  obtain⟨j,A2,c2,L2,hj,rfl,h2,hL2⟩:=hrel;have H2:=h_ h2;have HL2:=h_ hL2
  by_cases hlt:j<x.seas.length
  ·obtain⟨b,off,hA,-,hbl,hcell⟩:=(HS.out.seas.nix h2.row.frm).at_ Sea.clen (by decide) (by omega)
   dsimp only at hA;subst hA;obtain⟨y0,y1,y2⟩:=Seacs (w:=wr) (b:=b) (off:=off+j * 3) (e:=x.seas[j]) (hcell j hlt);have hd:=List.drop_eq_getElem_cons hlt;rw[hd,List.map_cons] at hL2;have hlen2:L2.length≤900000:=by have:=congrArg List.length hL2;rw[List.length_append] at this;have:=HP.out;omega
   obtain⟨y,hy⟩:∃ y,x.seas[j]=y:=⟨_,rfl⟩;rw[hy] at y0 y1 y2 hL2;have hbx:=h2.nix (w2:=wr.alloc (.cells #[.int .i64 y.id,.string y.name,.string y.query] 56)) ((fR wr).alloc _);have KP:=put_lit hbx [seaEv y] (cs:=#[.int .i64 11,.int .i64 y.id,.int .i64 0,.int .i64 0,.string y.name,.string y.query,.string ⟨#[]⟩]) (m:=1) rfl rfl (by omega);have hL3:L2++[seaEv y]++((x.seas.drop (j+1)).map seaEv++(if x.clock≠0 then [(⟨13,0,0,x.clock,eS,eS,eS⟩:Ev)] else []))=pastS x:=by rw[← hL2];simp
   have HL3:=h_ hL3;rw[show (wr.alloc (.cells #[.int .i64 y.id,.string y.name,.string y.query] 56)).heap.size=wr.heap.size+1 by simp] at KP;have KP:=h_ KP;clear h2 hL2 hcell hd hy hbx hL3;go_wp2_with (go_at_call 127;refine KP.out.mono ?_;rintro r w2 ⟨rfl,-,A3,c3,h3⟩;have H3:=h_ h3;clear h3);go_roundw
   case rel=>exact⟨j+1,_,_,_,by omega,by go_num,H3.out,HL3.out⟩
   case measure=>simp[intOf];omega
  ·obtain rfl:j=x.seas.length:=by omega
   clear h2 hL2
   have HL3:Hid (L2++(if x.clock≠0 then [(⟨13,0,0,x.clock,eS,eS,eS⟩:Ev)] else [])=pastS x):=by
    unfold Hid;have:=HL2.out;rw[List.drop_length] at this
    simpa using this
   go_wp2;exact PastP10 HS.out HSm.out HP.out H2.out HL3.out
theorem PastP8{w wc:World}{bx bl:Nat}{fo fe it se:Sl}{ts:List (Sl×Itm)}{x:St}{A:Option Addr}{c:Nat}{L:List Ev}{G:Nat→Prop}(hS:StIn w G fo fe it se ts x)(hsm:StSmall x)(hp:(pastS x).length≤900000)(h:PastAt w wc bx bl fo fe it se x A c L)(hL:L++(x.itms.flatMap itmEvs++(x.seas.map seaEv++(if x.clock≠0 then [(⟨13,0,0,x.clock,eS,eS,eS⟩:Ev)] else [])))=pastS x){u0 u5 u6 u7 u8 u9 u10 u11 u12 u13 u14 u15 u16 u17 u18 u19 u20 u21 u22 u23 u24 u25 u26 u27 u28 u29 u30 u31 u32 u33 u34 u35 u36 u37 u38 u39 u40 u41 u42 u43 u44 u45 u46 u47 u48 u49 u50 u51 u52 u53 u54 u55 u56 u57 u58 u59 u60 u61 u62 u63 u64 u65 u66 u67 u68 u69 u70 u71 u72 u73 u74 u75 u76 u77 u78 u79 u80 u81 u82 u83 u84 u85 u86 u87 u88 u89 u90 u91 u92 u93 u94 u95 u96 u97 u98 u99 u100 u101 u102 u103 u104 u105 u106 u107 u108 u109 u110 u111 u112 u113 u114 u115 u116 u117 u118 u119 u120 u121 u122 u123 u124 u125 u126 u127 u128 u129 u130 u131 u132 u133 u134 u135 u136 u137 u138 u139 u140 u141 u142 u143 u144 u145 u146 u147 u148 u149 u150 u151:Value}:
  Code.wp Tryz.prog (peel 8 (bodyOf Tryz.f101)) (bodyPost Tryz.prog Tryz.f101 fun e w'=>∃ A c,e=.returned (.slice A (pastS x).length c)∧RowK 38 7 w w' (.slice A (pastS x).length c) (pastS x).length ((pastS x).flatMap Ev.cells)) ⟨#[u0,.pointer (some ⟨bx,0,none⟩),.slice none 0 0,.pointer (some ⟨bl,0,none⟩),.func (.func 127) #[] #[.pointer (some ⟨bl,0,none⟩)],u5,u6,u7,u8,u9,u10,u11,u12,u13,u14,u15,u16,u17,u18,u19,u20,u21,u22,u23,u24,u25,u26,u27,u28,u29,u30,u31,u32,u33,u34,u35,u36,u37,u38,u39,u40,u41,u42,u43,u44,u45,u46,u47,u48,u49,u50,u51,u52,u53,u54,u55,u56,u57,u58,u59,u60,u61,u62,u63,u64,u65,u66,u67,u68,u69,u70,u71,u72,u73,u74,u75,u76,u77,u78,u79,u80,u81,u82,u83,u84,u85,u86,u87,u88,u89,u90,u91,u92,u93,u94,u95,u96,u97,u98,u99,u100,u101,u102,u103,u104,u105,u106,u107,u108,u109,u110,u111,u112,u113,u114,u115,u116,u117,u118,u119,u120,u121,u122,u123,u124,u125,u126,u127,u128,u129,u130,u131,u132,u133,u134,u135,u136,u137,u138,u139,u140,u141,u142,u143,u144,u145,u146,u147,u148,u149,u150,u151],[]⟩ wc:=by
 obtain⟨x0,x1,x2,x3,x4,x5,x6,x7,x8⟩:=blk9 h.box;have HS:=h_ hS;have HSm:=h_ hsm;have HP:=h_ hp;have HL:=h_ hL;have H:=h_ h;have hlen:L.length≤900000:=by have:=congrArg List.length hL;rw[List.length_append] at this;omega
 clear hS hsm hp hL h;have hcap:=HSm.out.itms;have hlt':=HS.out.len;obtain⟨sa,sc⟩:=it;dsimp only at x1 x2 x3 x4
 have HT0:Hid (L++(ts.flatMap (fun p=>itmEvs p.2)++(x.seas.map seaEv++(if x.clock≠0 then [(⟨13,0,0,x.clock,eS,eS,eS⟩:Ev)] else [])))=pastS x):=by
  unfold Hid;have:=HL.out;rw[← HS.out.same,List.flatMap_map] at this;exact this
 refine peelK (k':=9) fun K hK=>?_
 conv in hdC _=>whnf
 go_wp2
 go_loopw [115] (fun kv wr=>∃ (j:Nat) (A:Option Addr) (c:Nat) (L:List Ev),j≤x.itms.length∧kv=.int .i64 j∧PastAt w wr bx bl fo fe (sa,sc) se x A c L∧L++((ts.drop j).flatMap (fun p=>itmEvs p.2)++(x.seas.map seaEv++(if x.clock≠0 then [(⟨13,0,0,x.clock,eS,eS,eS⟩:Ev)] else [])))=pastS x) (fun kv _=>x.itms.length - (intOf kv).toNat)
 case atStart=>exact⟨0,_,_,_,by omega,rfl,H.out,HT0.out⟩
 case round=>
  obtain⟨j,A2,c2,L2,hj,rfl,h2,hL2⟩:=hrel;have H2:=h_ h2;have HL2:=h_ hL2
  by_cases hlt:j<x.itms.length
  ·have hjt:j<ts.length:=by omega
   obtain⟨b,off,hA,-,hbl,hcell⟩:=(HS.out.itms.row.nix h2.row.frm).at_ itmC_len (by decide) (by omega);dsimp only at hA;subst hA;obtain⟨y0,y1,y2,y3,y4,y5,y6,y7,y8⟩:=itmcs (w:=wr) (b:=b) (off:=off+j * 9) (p:=ts[j]) (hcell j hjt);have hd:=List.drop_eq_getElem_cons hjt;rw[hd,List.flatMap_cons] at hL2;have hlen2:L2.length+(itmEvs ts[j].2).length≤900000:=by have:=congrArg List.length hL2;rw[List.length_append,List.length_append,List.length_append] at this;have:=HP.out;omega
   have htg:=HS.out.itms.tags ts[j] (List.getElem_mem hjt);have ht8:=HSm.out.tags ts[j].2 (by rw[← HS.out.same];exact List.mem_map_of_mem (List.getElem_mem hjt));obtain⟨y,hy⟩:∃ y,ts[j]=y:=⟨_,rfl⟩;rw[hy] at y0 y1 y2 y3 y4 y5 y6 y7 y8 hL2 hlen2 htg ht8;have hfb:Frm Nix wr (wr.alloc (.cells #[.int .i64 y.2.id,.int .i64 y.2.feed,.int .i64 y.2.date,.string y.2.guid,.string y.2.title,.string y.2.link,.bool y.2.read,.bool y.2.star,.slice y.1.1 y.2.tags.length y.1.2] 54)):=(fR wr).alloc _;have KE:=h_ (events_any y.2 (htg.nix (h2.row.frm.trans hfb)) ht8);have HFB:=h_ hfb;have hL3:L2++itmEvs y.2++((ts.drop (j+1)).flatMap (fun p=>itmEvs p.2)++(x.seas.map seaEv++(if x.clock≠0 then [(⟨13,0,0,x.clock,eS,eS,eS⟩:Ev)] else [])))=pastS x:=by rw[← hL2];simp
   have HL3:=h_ hL3;clear h2 hL2 hcell hd hy hfb hL3 htg ht8
   go_wp2_with (first
    | (go_at_call 129;refine KE.out.mono ?_;rintro r w1 ⟨Ae,ce,rfl,hrow⟩;have KP:=h_ (put_any (A':=Ae) (c':=ce) (H2.out.nix (HFB.out.trans hrow.frm)) (itmEvs y.2) hrow.sl.rd (by omega));clear hrow)
    | (go_at_call 127;refine KP.out.mono ?_;rintro r w2 ⟨rfl,-,A3,c3,h3⟩;have H3:=h_ h3;clear h3))
   go_roundw
   case rel=>exact⟨j+1,_,_,_,by omega,by go_num,H3.out,HL3.out⟩
   case measure=>simp[intOf];omega
  ·obtain rfl:j=x.itms.length:=by omega
   clear h2 hL2
   have HL3:Hid (L2++(x.seas.map seaEv++(if x.clock≠0 then [(⟨13,0,0,x.clock,eS,eS,eS⟩:Ev)] else []))=pastS x):=by
    unfold Hid;have:=HL2.out;rw[← hlt',List.drop_length] at this
    simpa using this
   go_wp2;exact PastP9 HS.out HSm.out HP.out H2.out HL3.out
theorem PastP7{w wc:World}{bx bl:Nat}{fo fe it se:Sl}{ts:List (Sl×Itm)}{x:St}{A:Option Addr}{c:Nat}{L:List Ev}{G:Nat→Prop}(hS:StIn w G fo fe it se ts x)(hsm:StSmall x)(hp:(pastS x).length≤900000)(h:PastAt w wc bx bl fo fe it se x A c L)(hL:L++(x.fees.map feeEv++(x.itms.flatMap itmEvs++(x.seas.map seaEv++(if x.clock≠0 then [(⟨13,0,0,x.clock,eS,eS,eS⟩:Ev)] else []))))=pastS x){u0 u5 u6 u7 u8 u9 u10 u11 u12 u13 u14 u15 u16 u17 u18 u19 u20 u21 u22 u23 u24 u25 u26 u27 u28 u29 u30 u31 u32 u33 u34 u35 u36 u37 u38 u39 u40 u41 u42 u43 u44 u45 u46 u47 u48 u49 u50 u51 u52 u53 u54 u55 u56 u57 u58 u59 u60 u61 u62 u63 u64 u65 u66 u67 u68 u69 u70 u71 u72 u73 u74 u75 u76 u77 u78 u79 u80 u81 u82 u83 u84 u85 u86 u87 u88 u89 u90 u91 u92 u93 u94 u95 u96 u97 u98 u99 u100 u101 u102 u103 u104 u105 u106 u107 u108 u109 u110 u111 u112 u113 u114 u115 u116 u117 u118 u119 u120 u121 u122 u123 u124 u125 u126 u127 u128 u129 u130 u131 u132 u133 u134 u135 u136 u137 u138 u139 u140 u141 u142 u143 u144 u145 u146 u147 u148 u149 u150 u151:Value}:
  Code.wp Tryz.prog (peel 7 (bodyOf Tryz.f101)) (bodyPost Tryz.prog Tryz.f101 fun e w'=>∃ A c,e=.returned (.slice A (pastS x).length c)∧RowK 38 7 w w' (.slice A (pastS x).length c) (pastS x).length ((pastS x).flatMap Ev.cells)) ⟨#[u0,.pointer (some ⟨bx,0,none⟩),.slice none 0 0,.pointer (some ⟨bl,0,none⟩),.func (.func 127) #[] #[.pointer (some ⟨bl,0,none⟩)],u5,u6,u7,u8,u9,u10,u11,u12,u13,u14,u15,u16,u17,u18,u19,u20,u21,u22,u23,u24,u25,u26,u27,u28,u29,u30,u31,u32,u33,u34,u35,u36,u37,u38,u39,u40,u41,u42,u43,u44,u45,u46,u47,u48,u49,u50,u51,u52,u53,u54,u55,u56,u57,u58,u59,u60,u61,u62,u63,u64,u65,u66,u67,u68,u69,u70,u71,u72,u73,u74,u75,u76,u77,u78,u79,u80,u81,u82,u83,u84,u85,u86,u87,u88,u89,u90,u91,u92,u93,u94,u95,u96,u97,u98,u99,u100,u101,u102,u103,u104,u105,u106,u107,u108,u109,u110,u111,u112,u113,u114,u115,u116,u117,u118,u119,u120,u121,u122,u123,u124,u125,u126,u127,u128,u129,u130,u131,u132,u133,u134,u135,u136,u137,u138,u139,u140,u141,u142,u143,u144,u145,u146,u147,u148,u149,u150,u151],[]⟩ wc:=by
 obtain⟨x0,x1,x2,x3,x4,x5,x6,x7,x8⟩:=blk9 h.box;have HS:=h_ hS;have HSm:=h_ hsm;have HP:=h_ hp;have HL:=h_ hL;have H:=h_ h;have hlen:L.length≤900000:=by have:=congrArg List.length hL;rw[List.length_append] at this;omega
 clear hS hsm hp hL h;have hcap:=HSm.out.fees;obtain⟨sa,sc⟩:=fe;dsimp only at x1 x2 x3 x4;refine peelK (k':=8) fun K hK=>?_
 conv in hdC _=>whnf
 go_wp2
 go_loopw [95] (fun kv wr=>∃ (j:Nat) (A:Option Addr) (c:Nat) (L:List Ev),j≤x.fees.length∧kv=.int .i64 j∧PastAt w wr bx bl fo (sa,sc) it se x A c L∧L++((x.fees.drop j).map feeEv++(x.itms.flatMap itmEvs++(x.seas.map seaEv++(if x.clock≠0 then [(⟨13,0,0,x.clock,eS,eS,eS⟩:Ev)] else []))))=pastS x) (fun kv _=>x.fees.length - (intOf kv).toNat)
 case atStart=>exact⟨0,_,_,_,by omega,rfl,H.out,HL.out⟩
 case round=>
  obtain⟨j,A2,c2,L2,hj,rfl,h2,hL2⟩:=hrel;have H2:=h_ h2;have HL2:=h_ hL2
  by_cases hlt:j<x.fees.length
  ·obtain⟨b,off,hA,-,hbl,hcell⟩:=(HS.out.fees.nix h2.row.frm).at_ Fee.clen (by decide) (by omega)
   dsimp only at hA;subst hA;obtain⟨y0,y1,y2,y3⟩:=Feecs (w:=wr) (b:=b) (off:=off+j * 4) (e:=x.fees[j]) (hcell j hlt);have hd:=List.drop_eq_getElem_cons hlt;rw[hd,List.map_cons] at hL2;have hlen2:L2.length≤900000:=by have:=congrArg List.length hL2;rw[List.length_append] at this;have:=HP.out;omega
   obtain⟨y,hy⟩:∃ y,x.fees[j]=y:=⟨_,rfl⟩;rw[hy] at y0 y1 y2 y3 hL2;have hbx:=h2.nix (w2:=wr.alloc (.cells #[.int .i64 y.id,.int .i64 y.inn,.string y.url,.string y.title] 51)) ((fR wr).alloc _);have KP:=put_lit hbx [feeEv y] (cs:=#[.int .i64 3,.int .i64 y.id,.int .i64 y.inn,.int .i64 0,.string y.url,.string y.title,.string ⟨#[]⟩]) (m:=1) rfl rfl (by omega);have hL3:L2++[feeEv y]++((x.fees.drop (j+1)).map feeEv++(x.itms.flatMap itmEvs++(x.seas.map seaEv++(if x.clock≠0 then [(⟨13,0,0,x.clock,eS,eS,eS⟩:Ev)] else []))))=pastS x:=by rw[← hL2];simp
   have HL3:=h_ hL3;rw[show (wr.alloc (.cells #[.int .i64 y.id,.int .i64 y.inn,.string y.url,.string y.title] 51)).heap.size=wr.heap.size+1 by simp] at KP;have KP:=h_ KP;clear h2 hL2 hcell hd hy hbx hL3;go_wp2_with (go_at_call 127;refine KP.out.mono ?_;rintro r w2 ⟨rfl,-,A3,c3,h3⟩;have H3:=h_ h3;clear h3);go_roundw
   case rel=>exact⟨j+1,_,_,_,by omega,by go_num,H3.out,HL3.out⟩
   case measure=>simp[intOf];omega
  ·obtain rfl:j=x.fees.length:=by omega
   clear h2 hL2
   have HL3:Hid (L2++(x.itms.flatMap itmEvs++(x.seas.map seaEv++(if x.clock≠0 then [(⟨13,0,0,x.clock,eS,eS,eS⟩:Ev)] else [])))=pastS x):=by
    unfold Hid;have:=HL2.out;rw[List.drop_length] at this
    simpa using this
   go_wp2;exact PastP8 HS.out HSm.out HP.out H2.out HL3.out
end Go.Proofs.YtlafbakoefcifaaGreat
