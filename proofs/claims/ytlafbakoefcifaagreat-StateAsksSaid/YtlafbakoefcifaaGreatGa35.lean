/-
  Contracts: past: folders.
-/
import Derived.Test.YtlafbakoefcifaaGreatGa34
set_option linter.unusedVariables false
set_option linter.unusedSimpArgs false
set_option maxRecDepth 100000
set_option maxHeartbeats 16000000
namespace Go.Proofs.YtlafbakoefcifaaGreat
open Go.RowKit Go.Lib
theorem levelsG_len(l:List Fol):∀ (k:Nat) (ab:List Int),∀ q ∈ levelsG l k ab,q.length≤l.length
 | 0,_,q,h=>by cases h
 | k+1,ab,q,h=>by
   rcases List.mem_cons.1 h with rfl | h
   ·exact List.length_filter_le _ _
   ·exact levelsG_len l k _ q h
theorem PastP6{w wc:World}{bx bl:Nat}{fo fe it se:Sl}{ts:List (Sl×Itm)}{x:St}{A:Option Addr}{c:Nat}{L:List Ev}{G:Nat→Prop}(hS:StIn w G fo fe it se ts x)(hsm:StSmall x)(hp:(pastS x).length≤900000)(h:PastAt w wc bx bl fo fe it se x A c L)(hL:L++((levelsS x.fols).flatten.map folEv++(x.fees.map feeEv++(x.itms.flatMap itmEvs++(x.seas.map seaEv++(if x.clock≠0 then [(⟨13,0,0,x.clock,eS,eS,eS⟩:Ev)] else [])))))=pastS x){u0 u5 u6 u7 u8 u9 u10 u11 u12 u13 u14 u15 u16 u17 u18 u19 u20 u21 u22 u23 u24 u25 u26 u27 u28 u29 u30 u31 u32 u33 u34 u35 u36 u37 u38 u39 u40 u41 u42 u43 u44 u45 u46 u47 u48 u49 u50 u51 u52 u53 u54 u55 u56 u57 u58 u59 u60 u61 u62 u63 u64 u65 u66 u67 u68 u69 u70 u71 u72 u73 u74 u75 u76 u77 u78 u79 u80 u81 u82 u83 u84 u85 u86 u87 u88 u89 u90 u91 u92 u93 u94 u95 u96 u97 u98 u99 u100 u101 u102 u103 u104 u105 u106 u107 u108 u109 u110 u111 u112 u113 u114 u115 u116 u117 u118 u119 u120 u121 u122 u123 u124 u125 u126 u127 u128 u129 u130 u131 u132 u133 u134 u135 u136 u137 u138 u139 u140 u141 u142 u143 u144 u145 u146 u147 u148 u149 u150 u151:Value}:
  Code.wp Tryz.prog (peel 6 (bodyOf Tryz.f101)) (bodyPost Tryz.prog Tryz.f101 fun e w'=>∃ A c,e=.returned (.slice A (pastS x).length c)∧RowK 38 7 w w' (.slice A (pastS x).length c) (pastS x).length ((pastS x).flatMap Ev.cells)) ⟨#[u0,.pointer (some ⟨bx,0,none⟩),.slice none 0 0,.pointer (some ⟨bl,0,none⟩),.func (.func 127) #[] #[.pointer (some ⟨bl,0,none⟩)],u5,u6,u7,u8,u9,u10,u11,u12,u13,u14,u15,u16,u17,u18,u19,u20,u21,u22,u23,u24,u25,u26,u27,u28,u29,u30,u31,u32,u33,u34,u35,u36,u37,u38,u39,u40,u41,u42,u43,u44,u45,u46,u47,u48,u49,u50,u51,u52,u53,u54,u55,u56,u57,u58,u59,u60,u61,u62,u63,u64,u65,u66,u67,u68,u69,u70,u71,u72,u73,u74,u75,u76,u77,u78,u79,u80,u81,u82,u83,u84,u85,u86,u87,u88,u89,u90,u91,u92,u93,u94,u95,u96,u97,u98,u99,u100,u101,u102,u103,u104,u105,u106,u107,u108,u109,u110,u111,u112,u113,u114,u115,u116,u117,u118,u119,u120,u121,u122,u123,u124,u125,u126,u127,u128,u129,u130,u131,u132,u133,u134,u135,u136,u137,u138,u139,u140,u141,u142,u143,u144,u145,u146,u147,u148,u149,u150,u151],[]⟩ wc:=by
 obtain⟨x0,x1,x2,x3,x4,x5,x6,x7,x8⟩:=blk9 h.box;have KL:=h_ (levels_any x.fols (hS.fols.nix h.row.frm) (by have:=hsm.fols;omega));have HS:=h_ hS;have HSm:=h_ hsm;have HP:=h_ hp;have HL:=h_ hL;have H:=h_ h;have hlen:L.length≤900000:=by have:=congrArg List.length hL;rw[List.length_append] at this;omega
 clear hS hsm hp hL h;have hcap:=HSm.out.fols;generalize hRR:(x.fees.map feeEv++(x.itms.flatMap itmEvs++(x.seas.map seaEv++(if x.clock≠0 then [(⟨13,0,0,x.clock,eS,eS,eS⟩:Ev)] else []))))=RR at HL;have HRR:=h_ hRR;clear hRR;refine peelK (k':=7) fun K hK=>?_
 conv in hdC _=>whnf
 go_wp2_with (go_at_call 128;refine KL.out.mono ?_;rintro r w1 ⟨Al,cl,lvs,rfl,hrl,hll,hrs⟩;have HRl:=h_ (hrl.since H.out.row.frm);have HRs:Hid (∀ p ∈ lvs,RowK 49 3 w w1 p.1 p.2.length (p.2.flatMap Fol.cells)):=(fun p hp=>(hrs p hp).since H.out.row.frm);have H1:=h_ (H.out.nix hrl.frm);have HLL:=h_ hll;have hl7:lvs.length=7:=(by have:=hrl.len;rw[List.length_map] at this;omega);clear hrl hll hrs)
 go_loopw [70] (fun kv wr=>∃ (i:Nat) (A:Option Addr) (c:Nat) (L:List Ev),i≤7∧kv=.int .i64 i∧PastAt w wr bx bl fo fe it se x A c L∧RowK 25 1 w wr (.slice Al 7 cl) 7 (lvs.map (·.1))∧(∀ p ∈ lvs,RowK 49 3 w wr p.1 p.2.length (p.2.flatMap Fol.cells))∧L++((lvs.drop i).flatMap (fun p=>p.2.map folEv)++RR)=pastS x) (fun kv _=>7 - (intOf kv).toNat)
 case atStart=>
  refine⟨0,_,_,_,by omega,rfl,H1.out,HRl.out,HRs.out,?_⟩;have:=HL.out;rw[← HLL.out] at this;rw[← this,List.drop_zero,List.map_flatten,List.map_map,List.flatMap_def];rfl
 case round=>
  obtain⟨i,A2,c2,L2,hi,rfl,h2,hrl,hrs,hL2⟩:=hrel;have H2:=h_ h2;have HRl2:=h_ hrl;have HRs2:=h_ hrs;have HL2:=h_ hL2
  by_cases hlt:i<7
  ·have hil:i<lvs.length:=by omega
   have hflat:lvs.map (·.1)=lvs.flatMap fun p:Value×List Fol=>[p.1]:=by rw[List.map_eq_flatMap]
   have hsl:SlIn wr (fun k=>w.heap.size≤k) 1 (Al,cl) lvs.length (lvs.flatMap fun p:Value×List Fol=>[p.1]):=by rw[← hflat,hl7];exact hrl.sl
   obtain⟨b,off,hA,-,hbl,hcell⟩:=hsl.at_ (fun _=>rfl) (by decide) (by omega);have hc0:=hcell i hil 0 _ rfl;rw[Nat.mul_one,Nat.add_zero] at hc0;have hd:=List.drop_eq_getElem_cons hil;rw[hd,List.flatMap_cons] at hL2;have hpm:lvs[i] ∈ lvs:=List.getElem_mem hil;obtain⟨p,hp⟩:∃ p,lvs[i]=p:=⟨_,rfl⟩;rw[hp] at hc0 hL2 hpm;obtain⟨Ai,ci,hp1,-,-,-,-⟩:=(hrs p hpm).shape;rw[hp1] at hc0;dsimp only at hA;subst hA;have HPm:=h_ hpm;have HP1:=h_ hp1;have HL2:=h_ hL2;clear h2 hrl hrs hL2 hsl hflat hcell hd hp hpm hp1
   have hpb:p.2.length≤100000:=by
    have h1:p.2 ∈ levelsS x.fols:=by rw[← HLL.out];exact List.mem_map_of_mem HPm.out
    have:=levelsG_len x.fols 7 [0] p.2 h1;omega
   generalize hpn:p.2.length=pn at *;have HPn:=h_ hpn;clear hpn;have hd7:decide ((i:Int)<7)=true:=by simp;omega
   go_wp2
   go_loopw [76] (fun kv wr=>∃ (j:Nat) (A:Option Addr) (c:Nat) (L:List Ev),j≤pn∧kv=.int .i64 j∧PastAt w wr bx bl fo fe it se x A c L∧RowK 25 1 w wr (.slice (some ⟨b,off,none⟩) 7 cl) 7 (lvs.map (·.1))∧(∀ p ∈ lvs,RowK 49 3 w wr p.1 p.2.length (p.2.flatMap Fol.cells))∧L++((p.2.drop j).map folEv++((lvs.drop (i+1)).flatMap (fun p=>p.2.map folEv)++RR))=pastS x) (fun kv _=>pn - (intOf kv).toNat)
   case atStart=>exact⟨0,_,_,_,by omega,rfl,H2.out,HRl2.out,HRs2.out,by have:=HL2.out;rw[List.drop_zero];simpa using this⟩
   case round=>
    obtain⟨j,A3,c3,L3,hj,rfl,h3,hrl3,hrs3,hL3⟩:=hrel;have H3:=h_ h3;have HRl3:=h_ hrl3;have HRs3:=h_ hrs3;have HL3:=h_ hL3
    by_cases hjn:j<pn
    ·have hjl:j<p.2.length:=by have:=HPn.out;omega
     have hrp:=hrs3 p HPm.out;rw[HP1.out,HPn.out] at hrp;have hsl:=hrp.sl;rw[← HPn.out] at hsl;obtain⟨b2,off2,hA2,-,hbl2,hcell2⟩:=hsl.at_ Fol.clen (by decide) (by omega);dsimp only at hA2;subst hA2;obtain⟨y0,y1,y2⟩:=fol3 (w:=wr) (b:=b2) (off:=off2+j * 3) (f:=p.2[j]) (hcell2 j hjl);have hd:=List.drop_eq_getElem_cons hjl;rw[hd,List.map_cons] at hL3;have hlen2:L3.length≤900000:=by have:=congrArg List.length hL3;rw[List.length_append] at this;have:=HP.out;omega
     obtain⟨f,hf⟩:∃ f,p.2[j]=f:=⟨_,rfl⟩;rw[hf] at y0 y1 y2 hL3;have hfb:Frm Nix wr (wr.alloc (.cells #[.int .i64 f.id,.int .i64 f.inn,.string f.name] 49)):=(fR wr).alloc _;have KP:=put_lit (h3.nix hfb) [folEv f] (cs:=#[.int .i64 1,.int .i64 f.id,.int .i64 f.inn,.int .i64 0,.string f.name,.string ⟨#[]⟩,.string ⟨#[]⟩]) (m:=1) rfl rfl (by omega);rw[show (wr.alloc (.cells #[.int .i64 f.id,.int .i64 f.inn,.string f.name] 49)).heap.size=wr.heap.size+1 by simp] at KP;have KP:=h_ KP;have HFb:=h_ hfb;have hL4:L3++[folEv f]++((p.2.drop (j+1)).map folEv++((lvs.drop (i+1)).flatMap (fun p=>p.2.map folEv)++RR))=pastS x:=by rw[← hL3];simp
     have HL4:=h_ hL4;clear h3 hrl3 hrs3 hL3 hrp hsl hcell2 hd hf hfb hL4;go_wp2_with (go_at_call 127;refine KP.out.mono ?_;rintro r w2 ⟨rfl,hk,A5,c5,h5⟩;have HK:=h_ ((Keeps.nix HFb.out).trans hk);have H5:=h_ h5;clear h5 hk);go_roundw
     case rel=>exact⟨j+1,_,_,_,by omega,by go_num,H5.out,HRl3.out.keep HK.out H5.out.row.frm (by decide) (by decide),fun p hp=>(HRs3.out p hp).keep HK.out H5.out.row.frm (by decide) (by decide),HL4.out⟩
     case measure=>simp[intOf];omega
    ·obtain rfl:j=pn:=by omega
     clear h3 hrl3 hrs3 hL3
     have HL4:Hid (L3++((lvs.drop (i+1)).flatMap (fun p=>p.2.map folEv)++RR)=pastS x):=by
      unfold Hid;have:=HL3.out;rw[← HPn.out,List.drop_length] at this
      simpa using this
     go_wp2;go_roundw
     case rel=>exact⟨i+1,_,_,_,by omega,by go_num,H3.out,HRl3.out,HRs3.out,HL4.out⟩
     case measure=>simp[intOf];omega
  ·obtain rfl:i=7:=by omega
   clear h2 hrl hrs hL2
   have HL3:Hid (L2++RR=pastS x):=by
    unfold Hid;have:=HL2.out;rw[← hl7,List.drop_length] at this
    simpa using this
   go_wp2;exact PastP7 HS.out HSm.out HP.out H2.out (by rw[HRR.out];exact HL3.out)
theorem PastP5{w wc:World}{bx bl:Nat}{fo fe it se:Sl}{ts:List (Sl×Itm)}{x:St}{A:Option Addr}{c:Nat}{L:List Ev}{G:Nat→Prop}(hS:StIn w G fo fe it se ts x)(hsm:StSmall x)(hp:(pastS x).length≤900000)(h:PastAt w wc bx bl fo fe it se x A c L)(hL:L++((if 0<x.tSea then [(⟨11,x.tSea,0,0,standB,standB,eS⟩:Ev),⟨12,x.tSea,0,0,eS,eS,eS⟩] else [])++((levelsS x.fols).flatten.map folEv++(x.fees.map feeEv++(x.itms.flatMap itmEvs++(x.seas.map seaEv++(if x.clock≠0 then [(⟨13,0,0,x.clock,eS,eS,eS⟩:Ev)] else []))))))=pastS x){u0 u5 u6 u7 u8 u9 u10 u11 u12 u13 u14 u15 u16 u17 u18 u19 u20 u21 u22 u23 u24 u25 u26 u27 u28 u29 u30 u31 u32 u33 u34 u35 u36 u37 u38 u39 u40 u41 u42 u43 u44 u45 u46 u47 u48 u49 u50 u51 u52 u53 u54 u55 u56 u57 u58 u59 u60 u61 u62 u63 u64 u65 u66 u67 u68 u69 u70 u71 u72 u73 u74 u75 u76 u77 u78 u79 u80 u81 u82 u83 u84 u85 u86 u87 u88 u89 u90 u91 u92 u93 u94 u95 u96 u97 u98 u99 u100 u101 u102 u103 u104 u105 u106 u107 u108 u109 u110 u111 u112 u113 u114 u115 u116 u117 u118 u119 u120 u121 u122 u123 u124 u125 u126 u127 u128 u129 u130 u131 u132 u133 u134 u135 u136 u137 u138 u139 u140 u141 u142 u143 u144 u145 u146 u147 u148 u149 u150 u151:Value}:
  Code.wp Tryz.prog (peel 5 (bodyOf Tryz.f101)) (bodyPost Tryz.prog Tryz.f101 fun e w'=>∃ A c,e=.returned (.slice A (pastS x).length c)∧RowK 38 7 w w' (.slice A (pastS x).length c) (pastS x).length ((pastS x).flatMap Ev.cells)) ⟨#[u0,.pointer (some ⟨bx,0,none⟩),.slice none 0 0,.pointer (some ⟨bl,0,none⟩),.func (.func 127) #[] #[.pointer (some ⟨bl,0,none⟩)],u5,u6,u7,u8,u9,u10,u11,u12,u13,u14,u15,u16,u17,u18,u19,u20,u21,u22,u23,u24,u25,u26,u27,u28,u29,u30,u31,u32,u33,u34,u35,u36,u37,u38,u39,u40,u41,u42,u43,u44,u45,u46,u47,u48,u49,u50,u51,u52,u53,u54,u55,u56,u57,u58,u59,u60,u61,u62,u63,u64,u65,u66,u67,u68,u69,u70,u71,u72,u73,u74,u75,u76,u77,u78,u79,u80,u81,u82,u83,u84,u85,u86,u87,u88,u89,u90,u91,u92,u93,u94,u95,u96,u97,u98,u99,u100,u101,u102,u103,u104,u105,u106,u107,u108,u109,u110,u111,u112,u113,u114,u115,u116,u117,u118,u119,u120,u121,u122,u123,u124,u125,u126,u127,u128,u129,u130,u131,u132,u133,u134,u135,u136,u137,u138,u139,u140,u141,u142,u143,u144,u145,u146,u147,u148,u149,u150,u151],[]⟩ wc:=by
 obtain⟨x0,x1,x2,x3,x4,x5,x6,x7,x8⟩:=blk9 h.box;have KP:=fun hn=>h_ (put_lit h [(⟨11,x.tSea,0,0,standB,standB,eS⟩:Ev),⟨12,x.tSea,0,0,eS,eS,eS⟩] (cs:=#[.int .i64 11,.int .i64 x.tSea,.int .i64 0,.int .i64 0,.string ⟨#[120]⟩,.string ⟨#[120]⟩,.string ⟨#[]⟩,.int .i64 12,.int .i64 x.tSea,.int .i64 0,.int .i64 0,.string ⟨#[]⟩,.string ⟨#[]⟩,.string ⟨#[]⟩]) (m:=2) rfl rfl hn)
 have HS:=h_ hS;have HSm:=h_ hsm;have HP:=h_ hp;have HL:=h_ hL;have H:=h_ h;have hlen:L.length≤900000:=by have:=congrArg List.length hL;rw[List.length_append] at this;omega
 clear hS hsm hp hL h;refine peelK (k':=6) fun K hK=>?_
 conv in hdC _=>whnf
 have KP:=KP (by omega)
 by_cases hc:0<x.tSea
 ·have hd:decide ((0:Int)<x.tSea)=true:=by simpa using hc
  have HL2:Hid (L++[(⟨11,x.tSea,0,0,standB,standB,eS⟩:Ev),⟨12,x.tSea,0,0,eS,eS,eS⟩]++((levelsS x.fols).flatten.map folEv++(x.fees.map feeEv++(x.itms.flatMap itmEvs++(x.seas.map seaEv++(if x.clock≠0 then [(⟨13,0,0,x.clock,eS,eS,eS⟩:Ev)] else [])))))=pastS x):=by
   unfold Hid;have:=HL.out;rw[if_pos hc] at this;rw[← this];simp
  clear hc;go_wp2_with (go_at_call 127;refine KP.out.mono ?_;rintro r w2 ⟨rfl,-,A2,c2,h2⟩);exact PastP6 HS.out HSm.out HP.out h2 HL2.out
 ·have hd:decide ((0:Int)<x.tSea)=false:=by simpa using hc
  have HL2:Hid (L++((levelsS x.fols).flatten.map folEv++(x.fees.map feeEv++(x.itms.flatMap itmEvs++(x.seas.map seaEv++(if x.clock≠0 then [(⟨13,0,0,x.clock,eS,eS,eS⟩:Ev)] else [])))))=pastS x):=by
   unfold Hid;have:=HL.out;rw[if_neg hc] at this
   simpa using this
  clear hc;go_wp2;exact PastP6 HS.out HSm.out HP.out H.out HL2.out
theorem PastP4{w wc:World}{bx bl:Nat}{fo fe it se:Sl}{ts:List (Sl×Itm)}{x:St}{A:Option Addr}{c:Nat}{L:List Ev}{G:Nat→Prop}(hS:StIn w G fo fe it se ts x)(hsm:StSmall x)(hp:(pastS x).length≤900000)(h:PastAt w wc bx bl fo fe it se x A c L)(hL:L++((if 0<x.tFee then (⟨3,x.tFee,0,0,standB,eS,eS⟩:Ev)::((if 0<x.tItm then [⟨7,x.tItm,x.tFee,0,standB,eS,eS⟩] else [])++[⟨4,x.tFee,0,0,eS,eS,eS⟩]) else [])++((if 0<x.tSea then [(⟨11,x.tSea,0,0,standB,standB,eS⟩:Ev),⟨12,x.tSea,0,0,eS,eS,eS⟩] else [])++((levelsS x.fols).flatten.map folEv++(x.fees.map feeEv++(x.itms.flatMap itmEvs++(x.seas.map seaEv++(if x.clock≠0 then [(⟨13,0,0,x.clock,eS,eS,eS⟩:Ev)] else [])))))))=pastS x){u0 u5 u6 u7 u8 u9 u10 u11 u12 u13 u14 u15 u16 u17 u18 u19 u20 u21 u22 u23 u24 u25 u26 u27 u28 u29 u30 u31 u32 u33 u34 u35 u36 u37 u38 u39 u40 u41 u42 u43 u44 u45 u46 u47 u48 u49 u50 u51 u52 u53 u54 u55 u56 u57 u58 u59 u60 u61 u62 u63 u64 u65 u66 u67 u68 u69 u70 u71 u72 u73 u74 u75 u76 u77 u78 u79 u80 u81 u82 u83 u84 u85 u86 u87 u88 u89 u90 u91 u92 u93 u94 u95 u96 u97 u98 u99 u100 u101 u102 u103 u104 u105 u106 u107 u108 u109 u110 u111 u112 u113 u114 u115 u116 u117 u118 u119 u120 u121 u122 u123 u124 u125 u126 u127 u128 u129 u130 u131 u132 u133 u134 u135 u136 u137 u138 u139 u140 u141 u142 u143 u144 u145 u146 u147 u148 u149 u150 u151:Value}:
  Code.wp Tryz.prog (peel 4 (bodyOf Tryz.f101)) (bodyPost Tryz.prog Tryz.f101 fun e w'=>∃ A c,e=.returned (.slice A (pastS x).length c)∧RowK 38 7 w w' (.slice A (pastS x).length c) (pastS x).length ((pastS x).flatMap Ev.cells)) ⟨#[u0,.pointer (some ⟨bx,0,none⟩),.slice none 0 0,.pointer (some ⟨bl,0,none⟩),.func (.func 127) #[] #[.pointer (some ⟨bl,0,none⟩)],u5,u6,u7,u8,u9,u10,u11,u12,u13,u14,u15,u16,u17,u18,u19,u20,u21,u22,u23,u24,u25,u26,u27,u28,u29,u30,u31,u32,u33,u34,u35,u36,u37,u38,u39,u40,u41,u42,u43,u44,u45,u46,u47,u48,u49,u50,u51,u52,u53,u54,u55,u56,u57,u58,u59,u60,u61,u62,u63,u64,u65,u66,u67,u68,u69,u70,u71,u72,u73,u74,u75,u76,u77,u78,u79,u80,u81,u82,u83,u84,u85,u86,u87,u88,u89,u90,u91,u92,u93,u94,u95,u96,u97,u98,u99,u100,u101,u102,u103,u104,u105,u106,u107,u108,u109,u110,u111,u112,u113,u114,u115,u116,u117,u118,u119,u120,u121,u122,u123,u124,u125,u126,u127,u128,u129,u130,u131,u132,u133,u134,u135,u136,u137,u138,u139,u140,u141,u142,u143,u144,u145,u146,u147,u148,u149,u150,u151],[]⟩ wc:=by
 obtain⟨x0,x1,x2,x3,x4,x5,x6,x7,x8⟩:=blk9 h.box;have KP:=fun hn=>h_ (put_lit h [(⟨3,x.tFee,0,0,standB,eS,eS⟩:Ev)] (cs:=#[.int .i64 3,.int .i64 x.tFee,.int .i64 0,.int .i64 0,.string ⟨#[120]⟩,.string ⟨#[]⟩,.string ⟨#[]⟩]) (m:=1) rfl rfl hn)
 have HS:=h_ hS;have HSm:=h_ hsm;have HP:=h_ hp;have HL:=h_ hL;have H:=h_ h;have hlen:L.length≤900000:=by have:=congrArg List.length hL;rw[List.length_append] at this;omega
 clear hS hsm hp hL h;refine peelK (k':=5) fun K hK=>?_
 conv in hdC _=>whnf
 have KP:=KP (by omega)
 by_cases hc:0<x.tFee
 ·have hd:decide ((0:Int)<x.tFee)=true:=by simpa using hc
  by_cases hc2:0<x.tItm
  ·have hd2:decide ((0:Int)<x.tItm)=true:=by simpa using hc2
   have HL2:Hid (L++[(⟨3,x.tFee,0,0,standB,eS,eS⟩:Ev)]++[(⟨7,x.tItm,x.tFee,0,standB,eS,eS⟩:Ev)]++[(⟨4,x.tFee,0,0,eS,eS,eS⟩:Ev)]++((if 0<x.tSea then [(⟨11,x.tSea,0,0,standB,standB,eS⟩:Ev),⟨12,x.tSea,0,0,eS,eS,eS⟩] else [])++((levelsS x.fols).flatten.map folEv++(x.fees.map feeEv++(x.itms.flatMap itmEvs++(x.seas.map seaEv++(if x.clock≠0 then [(⟨13,0,0,x.clock,eS,eS,eS⟩:Ev)] else []))))))=pastS x):=by
    unfold Hid;have:=HL.out;rw[if_pos hc,if_pos hc2] at this;rw[← this];simp
   clear hc hc2
   go_wp2_with (first
    | (go_at_call 127;refine KP3.out.mono ?_;rintro r w4 ⟨rfl,-,A4,c4,h4⟩)
    | (go_at_call 127;refine KP2.out.mono ?_;rintro r w3 ⟨rfl,-,A3,c3,h3⟩;have KP3:=h_ (put_lit h3 [(⟨4,x.tFee,0,0,eS,eS,eS⟩:Ev)] (cs:=#[.int .i64 4,.int .i64 x.tFee,.int .i64 0,.int .i64 0,.string ⟨#[]⟩,.string ⟨#[]⟩,.string ⟨#[]⟩]) (m:=1) rfl rfl (by simp;omega));obtain⟨y0,y1,y2,y3,y4,y5,y6,y7,y8⟩:=blk9 h3.box;clear h3)
    | (go_at_call 127;refine KP.out.mono ?_;rintro r w2 ⟨rfl,-,A2,c2,h2⟩;have KP2:=h_ (put_lit h2 [(⟨7,x.tItm,x.tFee,0,standB,eS,eS⟩:Ev)] (cs:=#[.int .i64 7,.int .i64 x.tItm,.int .i64 x.tFee,.int .i64 0,.string ⟨#[120]⟩,.string ⟨#[]⟩,.string ⟨#[]⟩]) (m:=1) rfl rfl (by simp;omega));obtain⟨z0,z1,z2,z3,z4,z5,z6,z7,z8⟩:=blk9 h2.box;clear h2))
   exact PastP5 HS.out HSm.out HP.out h4 HL2.out
  ·have hd2:decide ((0:Int)<x.tItm)=false:=by simpa using hc2
   have HL2:Hid (L++[(⟨3,x.tFee,0,0,standB,eS,eS⟩:Ev)]++[(⟨4,x.tFee,0,0,eS,eS,eS⟩:Ev)]++((if 0<x.tSea then [(⟨11,x.tSea,0,0,standB,standB,eS⟩:Ev),⟨12,x.tSea,0,0,eS,eS,eS⟩] else [])++((levelsS x.fols).flatten.map folEv++(x.fees.map feeEv++(x.itms.flatMap itmEvs++(x.seas.map seaEv++(if x.clock≠0 then [(⟨13,0,0,x.clock,eS,eS,eS⟩:Ev)] else []))))))=pastS x):=by
    unfold Hid;have:=HL.out;rw[if_pos hc,if_neg hc2] at this;rw[← this];simp
   clear hc hc2
   go_wp2_with (first
    | (go_at_call 127;refine KP3.out.mono ?_;rintro r w4 ⟨rfl,-,A4,c4,h4⟩)
    | (go_at_call 127;refine KP.out.mono ?_;rintro r w2 ⟨rfl,-,A2,c2,h2⟩;have KP3:=h_ (put_lit h2 [(⟨4,x.tFee,0,0,eS,eS,eS⟩:Ev)] (cs:=#[.int .i64 4,.int .i64 x.tFee,.int .i64 0,.int .i64 0,.string ⟨#[]⟩,.string ⟨#[]⟩,.string ⟨#[]⟩]) (m:=1) rfl rfl (by simp;omega));obtain⟨z0,z1,z2,z3,z4,z5,z6,z7,z8⟩:=blk9 h2.box;clear h2))
   exact PastP5 HS.out HSm.out HP.out h4 HL2.out
 ·have hd:decide ((0:Int)<x.tFee)=false:=by simpa using hc
  have HL2:Hid (L++((if 0<x.tSea then [(⟨11,x.tSea,0,0,standB,standB,eS⟩:Ev),⟨12,x.tSea,0,0,eS,eS,eS⟩] else [])++((levelsS x.fols).flatten.map folEv++(x.fees.map feeEv++(x.itms.flatMap itmEvs++(x.seas.map seaEv++(if x.clock≠0 then [(⟨13,0,0,x.clock,eS,eS,eS⟩:Ev)] else []))))))=pastS x):=by
   unfold Hid;have:=HL.out;rw[if_neg hc] at this
   simpa using this
  clear hc;go_wp2;exact PastP5 HS.out HSm.out HP.out H.out HL2.out
theorem PastP3{w wc:World}{bx bl:Nat}{fo fe it se:Sl}{ts:List (Sl×Itm)}{x:St}{A:Option Addr}{c:Nat}{L:List Ev}{G:Nat→Prop}(hS:StIn w G fo fe it se ts x)(hsm:StSmall x)(hp:(pastS x).length≤900000)(h:PastAt w wc bx bl fo fe it se x A c L)(hL:L++((if 0<x.tFol then [(⟨1,x.tFol,0,0,standB,eS,eS⟩:Ev),⟨2,x.tFol,0,0,eS,eS,eS⟩] else [])++((if 0<x.tFee then (⟨3,x.tFee,0,0,standB,eS,eS⟩:Ev)::((if 0<x.tItm then [⟨7,x.tItm,x.tFee,0,standB,eS,eS⟩] else [])++[⟨4,x.tFee,0,0,eS,eS,eS⟩]) else [])++((if 0<x.tSea then [(⟨11,x.tSea,0,0,standB,standB,eS⟩:Ev),⟨12,x.tSea,0,0,eS,eS,eS⟩] else [])++((levelsS x.fols).flatten.map folEv++(x.fees.map feeEv++(x.itms.flatMap itmEvs++(x.seas.map seaEv++(if x.clock≠0 then [(⟨13,0,0,x.clock,eS,eS,eS⟩:Ev)] else []))))))))=pastS x){u0 u5 u6 u7 u8 u9 u10 u11 u12 u13 u14 u15 u16 u17 u18 u19 u20 u21 u22 u23 u24 u25 u26 u27 u28 u29 u30 u31 u32 u33 u34 u35 u36 u37 u38 u39 u40 u41 u42 u43 u44 u45 u46 u47 u48 u49 u50 u51 u52 u53 u54 u55 u56 u57 u58 u59 u60 u61 u62 u63 u64 u65 u66 u67 u68 u69 u70 u71 u72 u73 u74 u75 u76 u77 u78 u79 u80 u81 u82 u83 u84 u85 u86 u87 u88 u89 u90 u91 u92 u93 u94 u95 u96 u97 u98 u99 u100 u101 u102 u103 u104 u105 u106 u107 u108 u109 u110 u111 u112 u113 u114 u115 u116 u117 u118 u119 u120 u121 u122 u123 u124 u125 u126 u127 u128 u129 u130 u131 u132 u133 u134 u135 u136 u137 u138 u139 u140 u141 u142 u143 u144 u145 u146 u147 u148 u149 u150 u151:Value}:
  Code.wp Tryz.prog (peel 3 (bodyOf Tryz.f101)) (bodyPost Tryz.prog Tryz.f101 fun e w'=>∃ A c,e=.returned (.slice A (pastS x).length c)∧RowK 38 7 w w' (.slice A (pastS x).length c) (pastS x).length ((pastS x).flatMap Ev.cells)) ⟨#[u0,.pointer (some ⟨bx,0,none⟩),.slice none 0 0,.pointer (some ⟨bl,0,none⟩),.func (.func 127) #[] #[.pointer (some ⟨bl,0,none⟩)],u5,u6,u7,u8,u9,u10,u11,u12,u13,u14,u15,u16,u17,u18,u19,u20,u21,u22,u23,u24,u25,u26,u27,u28,u29,u30,u31,u32,u33,u34,u35,u36,u37,u38,u39,u40,u41,u42,u43,u44,u45,u46,u47,u48,u49,u50,u51,u52,u53,u54,u55,u56,u57,u58,u59,u60,u61,u62,u63,u64,u65,u66,u67,u68,u69,u70,u71,u72,u73,u74,u75,u76,u77,u78,u79,u80,u81,u82,u83,u84,u85,u86,u87,u88,u89,u90,u91,u92,u93,u94,u95,u96,u97,u98,u99,u100,u101,u102,u103,u104,u105,u106,u107,u108,u109,u110,u111,u112,u113,u114,u115,u116,u117,u118,u119,u120,u121,u122,u123,u124,u125,u126,u127,u128,u129,u130,u131,u132,u133,u134,u135,u136,u137,u138,u139,u140,u141,u142,u143,u144,u145,u146,u147,u148,u149,u150,u151],[]⟩ wc:=by
 obtain⟨x0,x1,x2,x3,x4,x5,x6,x7,x8⟩:=blk9 h.box;have KP:=fun hn=>h_ (put_lit h [(⟨1,x.tFol,0,0,standB,eS,eS⟩:Ev),⟨2,x.tFol,0,0,eS,eS,eS⟩] (cs:=#[.int .i64 1,.int .i64 x.tFol,.int .i64 0,.int .i64 0,.string ⟨#[120]⟩,.string ⟨#[]⟩,.string ⟨#[]⟩,.int .i64 2,.int .i64 x.tFol,.int .i64 0,.int .i64 0,.string ⟨#[]⟩,.string ⟨#[]⟩,.string ⟨#[]⟩]) (m:=2) rfl rfl hn)
 have HS:=h_ hS;have HSm:=h_ hsm;have HP:=h_ hp;have HL:=h_ hL;have H:=h_ h;have hlen:L.length≤900000:=by have:=congrArg List.length hL;rw[List.length_append] at this;omega
 clear hS hsm hp hL h;refine peelK (k':=4) fun K hK=>?_
 conv in hdC _=>whnf
 have KP:=KP (by omega)
 by_cases hc:0<x.tFol
 ·have hd:decide ((0:Int)<x.tFol)=true:=by simpa using hc
  have HL2:Hid (L++[(⟨1,x.tFol,0,0,standB,eS,eS⟩:Ev),⟨2,x.tFol,0,0,eS,eS,eS⟩]++((if 0<x.tFee then (⟨3,x.tFee,0,0,standB,eS,eS⟩:Ev)::((if 0<x.tItm then [⟨7,x.tItm,x.tFee,0,standB,eS,eS⟩] else [])++[⟨4,x.tFee,0,0,eS,eS,eS⟩]) else [])++((if 0<x.tSea then [(⟨11,x.tSea,0,0,standB,standB,eS⟩:Ev),⟨12,x.tSea,0,0,eS,eS,eS⟩] else [])++((levelsS x.fols).flatten.map folEv++(x.fees.map feeEv++(x.itms.flatMap itmEvs++(x.seas.map seaEv++(if x.clock≠0 then [(⟨13,0,0,x.clock,eS,eS,eS⟩:Ev)] else [])))))))=pastS x):=by
   unfold Hid;have:=HL.out;rw[if_pos hc] at this;rw[← this];simp
  clear hc;go_wp2_with (go_at_call 127;refine KP.out.mono ?_;rintro r w2 ⟨rfl,-,A2,c2,h2⟩);exact PastP4 HS.out HSm.out HP.out h2 HL2.out
 ·have hd:decide ((0:Int)<x.tFol)=false:=by simpa using hc
  have HL2:Hid (L++((if 0<x.tFee then (⟨3,x.tFee,0,0,standB,eS,eS⟩:Ev)::((if 0<x.tItm then [⟨7,x.tItm,x.tFee,0,standB,eS,eS⟩] else [])++[⟨4,x.tFee,0,0,eS,eS,eS⟩]) else [])++((if 0<x.tSea then [(⟨11,x.tSea,0,0,standB,standB,eS⟩:Ev),⟨12,x.tSea,0,0,eS,eS,eS⟩] else [])++((levelsS x.fols).flatten.map folEv++(x.fees.map feeEv++(x.itms.flatMap itmEvs++(x.seas.map seaEv++(if x.clock≠0 then [(⟨13,0,0,x.clock,eS,eS,eS⟩:Ev)] else [])))))))=pastS x):=by
   unfold Hid;have:=HL.out;rw[if_neg hc] at this
   simpa using this
  clear hc;go_wp2;exact PastP4 HS.out HSm.out HP.out H.out HL2.out
theorem past_any{w:World}{fo fe it se:Sl}{ts:List (Sl×Itm)}{x:St}{G:Nat→Prop}(hS:StIn w G fo fe it se ts x)(hsm:StSmall x)(hp:(pastS x).length≤900000):
  Calls Tryz.prog 101 #[stV fo fe it se x] w fun e w'=>∃ A c,e=.returned (.slice A (pastS x).length c)∧RowK 38 7 w w' (.slice A (pastS x).length c) (pastS x).length ((pastS x).flatMap Ev.cells):=by
 obtain⟨w1,hw1⟩:∃ w1,w1=(w.alloc (.cells #[.int .i64 x.clock,.slice fo.1 x.fols.length fo.2,.slice fe.1 x.fees.length fe.2,.slice it.1 x.itms.length it.2,.slice se.1 x.seas.length se.2,.int .i64 x.tFol,.int .i64 x.tFee,.int .i64 x.tItm,.int .i64 x.tSea] 30)).alloc (.cells #[.slice none 0 0] 22):=⟨_,rfl⟩;have hf:Frm Nix w w1:=by rw[hw1];exact((fR w).alloc _).alloc _
 have hb:Blk w1 w.heap.size 30 #[.int .i64 x.clock,.slice fo.1 x.fols.length fo.2,.slice fe.1 x.fees.length fe.2,.slice it.1 x.itms.length it.2,.slice se.1 x.seas.length se.2,.int .i64 x.tFol,.int .i64 x.tFee,.int .i64 x.tItm,.int .i64 x.tSea]:=by rw[hw1];exact(Blk.new w _ _).alloc _
 have hl:Blk w1 (w.heap.size+1) 22 #[.slice none 0 0]:=by
  have:=Blk.new (w.alloc (.cells #[.int .i64 x.clock,.slice fo.1 x.fols.length fo.2,.slice fe.1 x.fees.length fe.2,.slice it.1 x.itms.length it.2,.slice se.1 x.seas.length se.2,.int .i64 x.tFol,.int .i64 x.tFee,.int .i64 x.tItm,.int .i64 x.tSea] 30)) 22 #[.slice none 0 0];rw[show (w.alloc (.cells #[.int .i64 x.clock,.slice fo.1 x.fols.length fo.2,.slice fe.1 x.fees.length fe.2,.slice it.1 x.itms.length it.2,.slice se.1 x.seas.length se.2,.int .i64 x.tFol,.int .i64 x.tFee,.int .i64 x.tItm,.int .i64 x.tSea] 30)).heap.size=w.heap.size+1 by simp] at this;rw[hw1];exact this
 have H:Hid (PastAt w w1 w.heap.size (w.heap.size+1) fo fe it se x none 0 []):=⟨hb,hl,RowK.nil_ _ _ hf,by omega⟩;have HS:=h_ hS;have HSm:=h_ hsm;have HP:=h_ hp;have HW:=h_ hw1;clear hS hsm hp hw1 hf hb hl;unfold stV;go_enter Tryz.func101,Tryz.ntmps101;show Code.wp Tryz.prog (peel 0 (bodyOf Tryz.f101)) _ _ _
 refine peelK (k':=1) fun K hK=>?_
 conv in hdC _=>whnf
 go_wp2;refine peelK (k':=2) fun K hK=>?_
 conv in hdC _=>whnf
 go_wp2;rw[← HW.out];refine peelK (k':=3) fun K hK=>?_
 conv in hdC _=>whnf
 go_wp2
 exact PastP3 HS.out HSm.out HP.out H.out (by
  unfold pastS topEvs;simp only[List.nil_append,List.append_assoc])
end Go.Proofs.YtlafbakoefcifaaGreat
