/- Words. -/
import Derived.Test.YtaecjmiobllhmaaGreatGp69
import Derived.Test.YtaecjmiobllhmaaGreatGp24
import Derived.Test.YtaecjmiobllhmaaGreatGp15
set_option linter.unusedVariables false
set_option linter.unusedSimpArgs false
set_option maxRecDepth 100000
set_option maxHeartbeats 16000000
namespace Go.Proofs.YtaecjmiobllhmaaGreat
open Go.RowKit Go.Lib
structure LargeAt(w wc:World)(b1:Nat)(fo fe it se:Sl)(ts:List (Sl×Itm))(x:St)(G:Nat→Prop):Prop where
 st:StIn wc G fo fe it se ts x
 frm:Frm Nix w wc
 b1:Blk wc b1 36 #[.int .i64 x.clock,.slice fo.1 x.fols.length fo.2,.slice fe.1 x.fees.length fe.2,.slice it.1 x.itms.length it.2,.slice se.1 x.seas.length se.2,.int .i64 x.tFol,.int .i64 x.tFee,.int .i64 x.tItm,.int .i64 x.tSea]
 fols:x.fols.length≤70
 fees:x.fees.length≤70
 itms:x.itms.length≤120
 seas:x.seas.length≤40
theorem LargeAt.nix{w wc w1:World}{b1:Nat}{fo fe it se:Sl}{ts:List (Sl×Itm)}{x:St}{G:Nat→Prop}(h:LargeAt w wc b1 fo fe it se ts x G)(hf:Frm Nix wc w1):LargeAt w w1 b1 fo fe it se ts x G:=
 ⟨h.st.nix hf,h.frm.trans hf,h.b1.frm hf id,h.fols,h.fees,h.itms,h.seas⟩
theorem itms_at2{x:St}{k:Nat}{w:World}{G:Nat→Prop}{fo fe it se:Sl}{ts:List (Sl×Itm)}(h:StIn w G fo fe it se ts x)(hk:k<x.itms.length):∃hk':k<ts.length,(ts[k]'hk').2=x.itms[k]:=by
 have hk':k<ts.length:=by rw[h.len];exact hk
 refine⟨hk',?_⟩;have:(ts.map (·.2))[k]'(by simpa using hk')=(ts[k]'hk').2:=by simp
 rw[←this]
 congr 1
 exact h.same
theorem RL5{w wc:World}{b1:Nat}{fo fe it se:Sl}{ts:List (Sl×Itm)}{x:St}{G:Nat→Prop}(h:LargeAt w wc b1 fo fe it se ts x G){r:Bool}(hr:(x.seas.any largeSea)=r){u0 u2 u3 u4 u5 u6 u7 u8 u9 u10 u11 u12 u13 u14 u15 u16 u17 u18 u19 u20 u21 u22 u23 u24 u25 u26 u27 u28 u29 u30 u31 u32 u33 u34 u35 u36 u37 u38 u39 u40 u41 u42 u43 u44 u45 u46 u47 u48 u49 u50 u51 u52 u53 u54 u55 u56 u57 u58 u59 u60 u61 u62 u63 u64 u65 u66 u67 u68 u69 u70 u71 u72 u73 u74 u75 u76 u77 u78 u79 u80 u81 u82 u83 u84 u85 u86 u87 u88 u89 u90 u91 u92 u93 u94 u95 u96 u97 u98 u99 u100 u101 u102 u103 u104 u105 u106 u107 u108 u109 u110 u111 u112 u113 u114 u115 u116 u117 u118 u119 u120 u121 u122 u123 u124 u125 u126 u127 u128 u129 u130 u131 u132 u133 u134 u135 u136 u137 u138 u139 u140 u141 u142 u143 u144 u145 u146 u147 u148 u149 u150 u151 u152 u153 u154 u155 u156 u157 u158 u159 u160 u161:Value}:
  Code.wp Tryz.prog (peel 5 (bodyOf Tryz.f13)) (bodyPost Tryz.prog Tryz.f13 λe w'=>e=.returned (.bool r)∧Frm Nix w w') ⟨#[u0,.pointer (some ⟨b1,0,none⟩),u2,u3,u4,u5,u6,u7,u8,u9,u10,u11,u12,u13,u14,u15,u16,u17,u18,u19,u20,u21,u22,u23,u24,u25,u26,u27,u28,u29,u30,u31,u32,u33,u34,u35,u36,u37,u38,u39,u40,u41,u42,u43,u44,u45,u46,u47,u48,u49,u50,u51,u52,u53,u54,u55,u56,u57,u58,u59,u60,u61,u62,u63,u64,u65,u66,u67,u68,u69,u70,u71,u72,u73,u74,u75,u76,u77,u78,u79,u80,u81,u82,u83,u84,u85,u86,u87,u88,u89,u90,u91,u92,u93,u94,u95,u96,u97,u98,u99,u100,u101,u102,u103,u104,u105,u106,u107,u108,u109,u110,u111,u112,u113,u114,u115,u116,u117,u118,u119,u120,u121,u122,u123,u124,u125,u126,u127,u128,u129,u130,u131,u132,u133,u134,u135,u136,u137,u138,u139,u140,u141,u142,u143,u144,u145,u146,u147,u148,u149,u150,u151,u152,u153,u154,u155,u156,u157,u158,u159,u160,u161],[]⟩ wc:=by
 have HS:=h_ h;obtain⟨x0,x1,x2,x3,x4,x5,x6,x7,x8⟩:=blk9 h.b1;have hcap:=h.seas;have HY:Hid (x.seas.any largeSea=true→r=true):=λh=>by rw[←hr,h]<;>simp
 have HN:Hid (x.seas.any largeSea=false→(false)=r):=λh=>by rw[←hr,h]<;>simp
 clear hr;obtain⟨A,c⟩:=se;dsimp only at x1 x2 x3 x4;clear h;simp only[peel,bodyOf,Tryz.f13];go_wp2
 go_loopw [7] (λkv wr=>∃k:Nat,k≤x.seas.length∧kv=.int .i64 k∧(x.seas.take k).any largeSea=false∧Frm Nix wc wr) (λkv _=>x.seas.length - (intOf kv).toNat)
 case atStart=>exact⟨0,by omega,rfl,by simp,Frm.refl _ _⟩
 case round=>
  obtain⟨k,hk,rfl,ht,hf⟩:=hrel;have HT:=h_ ht;have HF:=h_ hf;have HR:=h_ (HS.out.nix hf);clear ht hf x0 x1 x2 x3 x4 x5 x6 x7 x8;obtain⟨x0,x1,x2,x3,x4,x5,x6,x7,x8⟩:=blk9 HR.out.b1;dsimp only at x1 x2 x3 x4
  by_cases hlt:k<x.seas.length
  ·obtain⟨b,off,hA,-,hbl,hcell⟩:=HR.out.st.seas.at_ Sea.clen (by decide) (by omega)
   dsimp only at hA;subst hA;obtain⟨p0,p1,p2⟩:=Seacs (w:=wr) (b:=b) (off:=off+k * 3) (e:=x.seas[k]) (hcell k hlt);have HHit:=h_ (λhe=>HY.out (fst_any (p:=largeSea) hlt he));have HStep:=h_ (λhe=>fst_step (p:=largeSea) hlt HT.out he);obtain⟨q,hq⟩:∃q,x.seas[k]=q:=⟨_,rfl⟩;rw[hq] at p0 p1 p2 HHit HStep;clear hcell hq
   by_cases he0:1000<(q.name.size:Int)
   case pos=>
    have hy:largeSea q=true:=by unfold largeSea;simp;omega
    have HE:=h_ (HHit.out hy);go_wp2;go_ret;exact⟨by rw[HE.out]<;>rfl,HR.out.frm⟩
   by_cases he1:1000<(q.query.size:Int)
   case pos=>
    have hy:largeSea q=true:=by unfold largeSea;simp;omega
    have HE:=h_ (HHit.out hy);go_wp2;go_ret;exact⟨by rw[HE.out]<;>rfl,HR.out.frm⟩
   have HQ:Hid (largeSea q=false):=by unfold Hid largeSea;simp;omega
   go_wp2;go_roundw
   case rel=>exact⟨k+1,by omega,by go_num,HStep.out HQ.out,HF.out⟩
   case measure=>simp[intOf];omega
  ·obtain rfl:k=x.seas.length:=by omega
   have HE:Hid (x.seas.any largeSea=false):=by have:=HT.out;rw[List.take_length] at this;exact this
   go_wp2;go_ret;exact⟨by rw[←HN.out HE.out]<;>rfl,HR.out.frm⟩
theorem RL4{w wc:World}{b1:Nat}{fo fe it se:Sl}{ts:List (Sl×Itm)}{x:St}{G:Nat→Prop}(h:LargeAt w wc b1 fo fe it se ts x G){r:Bool}(hr:(x.itms.any largeItm||x.seas.any largeSea)=r){u0 u2 u3 u4 u5 u6 u7 u8 u9 u10 u11 u12 u13 u14 u15 u16 u17 u18 u19 u20 u21 u22 u23 u24 u25 u26 u27 u28 u29 u30 u31 u32 u33 u34 u35 u36 u37 u38 u39 u40 u41 u42 u43 u44 u45 u46 u47 u48 u49 u50 u51 u52 u53 u54 u55 u56 u57 u58 u59 u60 u61 u62 u63 u64 u65 u66 u67 u68 u69 u70 u71 u72 u73 u74 u75 u76 u77 u78 u79 u80 u81 u82 u83 u84 u85 u86 u87 u88 u89 u90 u91 u92 u93 u94 u95 u96 u97 u98 u99 u100 u101 u102 u103 u104 u105 u106 u107 u108 u109 u110 u111 u112 u113 u114 u115 u116 u117 u118 u119 u120 u121 u122 u123 u124 u125 u126 u127 u128 u129 u130 u131 u132 u133 u134 u135 u136 u137 u138 u139 u140 u141 u142 u143 u144 u145 u146 u147 u148 u149 u150 u151 u152 u153 u154 u155 u156 u157 u158 u159 u160 u161:Value}:
  Code.wp Tryz.prog (peel 4 (bodyOf Tryz.f13)) (bodyPost Tryz.prog Tryz.f13 λe w'=>e=.returned (.bool r)∧Frm Nix w w') ⟨#[u0,.pointer (some ⟨b1,0,none⟩),u2,u3,u4,u5,u6,u7,u8,u9,u10,u11,u12,u13,u14,u15,u16,u17,u18,u19,u20,u21,u22,u23,u24,u25,u26,u27,u28,u29,u30,u31,u32,u33,u34,u35,u36,u37,u38,u39,u40,u41,u42,u43,u44,u45,u46,u47,u48,u49,u50,u51,u52,u53,u54,u55,u56,u57,u58,u59,u60,u61,u62,u63,u64,u65,u66,u67,u68,u69,u70,u71,u72,u73,u74,u75,u76,u77,u78,u79,u80,u81,u82,u83,u84,u85,u86,u87,u88,u89,u90,u91,u92,u93,u94,u95,u96,u97,u98,u99,u100,u101,u102,u103,u104,u105,u106,u107,u108,u109,u110,u111,u112,u113,u114,u115,u116,u117,u118,u119,u120,u121,u122,u123,u124,u125,u126,u127,u128,u129,u130,u131,u132,u133,u134,u135,u136,u137,u138,u139,u140,u141,u142,u143,u144,u145,u146,u147,u148,u149,u150,u151,u152,u153,u154,u155,u156,u157,u158,u159,u160,u161],[]⟩ wc:=by
 have HS:=h_ h;obtain⟨x0,x1,x2,x3,x4,x5,x6,x7,x8⟩:=blk9 h.b1;have hcap:=h.itms;have HY:Hid (x.itms.any largeItm=true→r=true):=λh=>by rw[←hr,h]<;>simp
 have HN:Hid (x.itms.any largeItm=false→(x.seas.any largeSea)=r):=λh=>by rw[←hr,h]<;>simp
 clear hr;obtain⟨A,c⟩:=it;dsimp only at x1 x2 x3 x4;clear h;refine peelK (k':=5) λK hK=>?_
 conv in hdC _=>whnf
 go_wp2
 go_loopw [5] (λkv wr=>∃k:Nat,k≤x.itms.length∧kv=.int .i64 k∧(x.itms.take k).any largeItm=false∧Frm Nix wc wr) (λkv _=>x.itms.length - (intOf kv).toNat)
 case atStart=>exact⟨0,by omega,rfl,by simp,Frm.refl _ _⟩
 case round=>
  obtain⟨k,hk,rfl,ht,hf⟩:=hrel;have HT:=h_ ht;have HF:=h_ hf;have HR:=h_ (HS.out.nix hf);clear ht hf x0 x1 x2 x3 x4 x5 x6 x7 x8;obtain⟨x0,x1,x2,x3,x4,x5,x6,x7,x8⟩:=blk9 HR.out.b1;dsimp only at x1 x2 x3 x4
  by_cases hlt:k<x.itms.length
  ·obtain⟨hkt,het⟩:=itms_at2 HR.out.st hlt
   obtain⟨b,off,hA,-,hbl,hcell⟩:=HR.out.st.itms.row.at_ itmC_len (by decide) (by omega);dsimp only at hA;subst hA;have hc:=hcell k hkt;have htg:=HR.out.st.itms.tags _ (List.getElem_mem hkt);obtain⟨tp,htp⟩:∃tp,ts[k]=tp:=⟨_,rfl⟩;rw[htp] at hc het htg;obtain⟨p0,p1,p2,p3,p4,p5,p6,p7,p8⟩:=itmcs (w:=wr) (b:=b) (off:=off+k * 9) (p:=tp) hc;have HHit:=h_ (λhe=>HY.out (fst_any (p:=largeItm) hlt he));have HStep:=h_ (λhe=>fst_step (p:=largeItm) hlt HT.out he);rw[←het] at HHit HStep;clear hcell hc htp het;obtain⟨tv,q⟩:=tp;dsimp only at *
   by_cases he0:1000<(q.guid.size:Int)
   case pos=>
    have hy:largeItm q=true:=by unfold largeItm;simp;omega
    have HE:=h_ (HHit.out hy);go_wp2;go_ret;exact⟨by rw[HE.out]<;>rfl,HR.out.frm⟩
   by_cases he1:1000<(q.title.size:Int)
   case pos=>
    have hy:largeItm q=true:=by unfold largeItm;simp;omega
    have HE:=h_ (HHit.out hy);go_wp2;go_ret;exact⟨by rw[HE.out]<;>rfl,HR.out.frm⟩
   by_cases he2:1000<(q.link.size:Int)
   case pos=>
    have hy:largeItm q=true:=by unfold largeItm;simp;omega
    have HE:=h_ (HHit.out hy);go_wp2;go_ret;exact⟨by rw[HE.out]<;>rfl,HR.out.frm⟩
   by_cases he3:20<(q.tags.length:Int)
   case pos=>
    have hy:largeItm q=true:=by unfold largeItm;simp;omega
    have HE:=h_ (HHit.out hy);go_wp2;go_ret;exact⟨by rw[HE.out]<;>rfl,HR.out.frm⟩
   have HQ:Hid (largeItm q=q.tags.any largeTag):=by unfold Hid largeItm;simp;omega
   have hcap2:q.tags.length≤20:=by omega
   have HTg:=h_ htg;have hb1l:=HR.out.b1.lt;clear htg;go_wp2
   go_loopw [6] (λjv wv=>∃j:Nat,j≤q.tags.length∧jv=.int .i64 j∧(q.tags.take j).any largeTag=false∧Frm Nix wr wv) (λjv _=>q.tags.length - (intOf jv).toNat)
   case atStart=>exact⟨0,by omega,rfl,by simp,Frm.refl _ _⟩
   case round=>
    obtain⟨j,hj,rfl,ht2,hf2⟩:=hrel;have HT2:=h_ ht2;have HF2:=h_ hf2;have z3:=(hf2.cell (p:=⟨b1,3,none⟩) hb1l id).trans x3;have z8:=(hf2.cell (p:=⟨b,off+k * 9+8,none⟩) hbl id).trans p8;clear ht2 hf2 x0 x1 x2 x3 x4 x5 x6 x7 x8 p0 p1 p2 p3 p4 p5 p6 p7 p8
    by_cases hjl:j<q.tags.length
    ·have htg2:=HTg.out.nix HF2.out
     rw[str_flat] at htg2;obtain⟨b3,off3,hA3,-,hbl3,hcell3⟩:=htg2.at_ (f:=λi=>[Value.string i]) (λ_=>rfl) (by decide) (by omega);obtain⟨tA,tc⟩:=tv;dsimp only at hA3 z8;subst hA3;have y0:=hcell3 j hjl 0 _ rfl;rw[Nat.mul_one,Nat.add_zero] at y0;have HHit2:=h_ (λhe=>fst_any (p:=largeTag) hjl he);have HStep2:=h_ (λhe=>fst_step (p:=largeTag) hjl HT2.out he);obtain⟨tq,htq⟩:∃tq,q.tags[j]=tq:=⟨_,rfl⟩;rw[htq] at y0 HHit2 HStep2;clear hcell3 htq htg2
     by_cases h300:300<(tq.size:Int)
     case pos=>
      have HE:=h_ (HHit.out (HQ.out.trans (HHit2.out (by unfold largeTag;exact decide_eq_true h300))));go_wp2;go_ret;exact⟨by rw[HE.out]<;>rfl,HR.out.frm.trans HF2.out⟩
     go_wp2;go_roundw
     case rel=>exact⟨j+1,by omega,by go_num,HStep2.out (by unfold largeTag;exact decide_eq_false h300),HF2.out⟩
     case measure=>simp[intOf];omega
    ·obtain rfl:j=q.tags.length:=by omega
     have HE2:Hid (q.tags.any largeTag=false):=by have:=HT2.out;rw[List.take_length] at this;exact this
     go_wp2;go_roundw
     case rel=>exact⟨k+1,by omega,by go_num,HStep.out (HQ.out.trans HE2.out),HF.out.trans HF2.out⟩
     case measure=>simp[intOf];omega
  ·obtain rfl:k=x.itms.length:=by omega
   have HE:Hid (x.itms.any largeItm=false):=by have:=HT.out;rw[List.take_length] at this;exact this
   go_wp2;exact RL5 HR.out (HN.out HE.out)
theorem RL3{w wc:World}{b1:Nat}{fo fe it se:Sl}{ts:List (Sl×Itm)}{x:St}{G:Nat→Prop}(h:LargeAt w wc b1 fo fe it se ts x G){r:Bool}(hr:(x.fees.any largeFee||(x.itms.any largeItm||x.seas.any largeSea))=r){u0 u2 u3 u4 u5 u6 u7 u8 u9 u10 u11 u12 u13 u14 u15 u16 u17 u18 u19 u20 u21 u22 u23 u24 u25 u26 u27 u28 u29 u30 u31 u32 u33 u34 u35 u36 u37 u38 u39 u40 u41 u42 u43 u44 u45 u46 u47 u48 u49 u50 u51 u52 u53 u54 u55 u56 u57 u58 u59 u60 u61 u62 u63 u64 u65 u66 u67 u68 u69 u70 u71 u72 u73 u74 u75 u76 u77 u78 u79 u80 u81 u82 u83 u84 u85 u86 u87 u88 u89 u90 u91 u92 u93 u94 u95 u96 u97 u98 u99 u100 u101 u102 u103 u104 u105 u106 u107 u108 u109 u110 u111 u112 u113 u114 u115 u116 u117 u118 u119 u120 u121 u122 u123 u124 u125 u126 u127 u128 u129 u130 u131 u132 u133 u134 u135 u136 u137 u138 u139 u140 u141 u142 u143 u144 u145 u146 u147 u148 u149 u150 u151 u152 u153 u154 u155 u156 u157 u158 u159 u160 u161:Value}:
  Code.wp Tryz.prog (peel 3 (bodyOf Tryz.f13)) (bodyPost Tryz.prog Tryz.f13 λe w'=>e=.returned (.bool r)∧Frm Nix w w') ⟨#[u0,.pointer (some ⟨b1,0,none⟩),u2,u3,u4,u5,u6,u7,u8,u9,u10,u11,u12,u13,u14,u15,u16,u17,u18,u19,u20,u21,u22,u23,u24,u25,u26,u27,u28,u29,u30,u31,u32,u33,u34,u35,u36,u37,u38,u39,u40,u41,u42,u43,u44,u45,u46,u47,u48,u49,u50,u51,u52,u53,u54,u55,u56,u57,u58,u59,u60,u61,u62,u63,u64,u65,u66,u67,u68,u69,u70,u71,u72,u73,u74,u75,u76,u77,u78,u79,u80,u81,u82,u83,u84,u85,u86,u87,u88,u89,u90,u91,u92,u93,u94,u95,u96,u97,u98,u99,u100,u101,u102,u103,u104,u105,u106,u107,u108,u109,u110,u111,u112,u113,u114,u115,u116,u117,u118,u119,u120,u121,u122,u123,u124,u125,u126,u127,u128,u129,u130,u131,u132,u133,u134,u135,u136,u137,u138,u139,u140,u141,u142,u143,u144,u145,u146,u147,u148,u149,u150,u151,u152,u153,u154,u155,u156,u157,u158,u159,u160,u161],[]⟩ wc:=by
 have HS:=h_ h;obtain⟨x0,x1,x2,x3,x4,x5,x6,x7,x8⟩:=blk9 h.b1;have hcap:=h.fees;have HY:Hid (x.fees.any largeFee=true→r=true):=λh=>by rw[←hr,h]<;>simp
 have HN:Hid (x.fees.any largeFee=false→(x.itms.any largeItm||x.seas.any largeSea)=r):=λh=>by rw[←hr,h]<;>simp
 clear hr;obtain⟨A,c⟩:=fe;dsimp only at x1 x2 x3 x4;clear h;refine peelK (k':=4) λK hK=>?_
 conv in hdC _=>whnf
 go_wp2
 go_loopw [4] (λkv wr=>∃k:Nat,k≤x.fees.length∧kv=.int .i64 k∧(x.fees.take k).any largeFee=false∧Frm Nix wc wr) (λkv _=>x.fees.length - (intOf kv).toNat)
 case atStart=>exact⟨0,by omega,rfl,by simp,Frm.refl _ _⟩
 case round=>
  obtain⟨k,hk,rfl,ht,hf⟩:=hrel;have HT:=h_ ht;have HF:=h_ hf;have HR:=h_ (HS.out.nix hf);clear ht hf x0 x1 x2 x3 x4 x5 x6 x7 x8;obtain⟨x0,x1,x2,x3,x4,x5,x6,x7,x8⟩:=blk9 HR.out.b1;dsimp only at x1 x2 x3 x4
  by_cases hlt:k<x.fees.length
  ·obtain⟨b,off,hA,-,hbl,hcell⟩:=HR.out.st.fees.at_ Fee.clen (by decide) (by omega)
   dsimp only at hA;subst hA;obtain⟨p0,p1,p2,p3⟩:=Feecs (w:=wr) (b:=b) (off:=off+k * 4) (e:=x.fees[k]) (hcell k hlt);have HHit:=h_ (λhe=>HY.out (fst_any (p:=largeFee) hlt he));have HStep:=h_ (λhe=>fst_step (p:=largeFee) hlt HT.out he);obtain⟨q,hq⟩:∃q,x.fees[k]=q:=⟨_,rfl⟩;rw[hq] at p0 p1 p2 p3 HHit HStep;clear hcell hq
   by_cases he0:1000<(q.url.size:Int)
   case pos=>
    have hy:largeFee q=true:=by unfold largeFee;simp;omega
    have HE:=h_ (HHit.out hy);go_wp2;go_ret;exact⟨by rw[HE.out]<;>rfl,HR.out.frm⟩
   by_cases he1:1000<(q.title.size:Int)
   case pos=>
    have hy:largeFee q=true:=by unfold largeFee;simp;omega
    have HE:=h_ (HHit.out hy);go_wp2;go_ret;exact⟨by rw[HE.out]<;>rfl,HR.out.frm⟩
   have HQ:Hid (largeFee q=false):=by unfold Hid largeFee;simp;omega
   go_wp2;go_roundw
   case rel=>exact⟨k+1,by omega,by go_num,HStep.out HQ.out,HF.out⟩
   case measure=>simp[intOf];omega
  ·obtain rfl:k=x.fees.length:=by omega
   have HE:Hid (x.fees.any largeFee=false):=by have:=HT.out;rw[List.take_length] at this;exact this
   go_wp2;exact RL4 HR.out (HN.out HE.out)
theorem RL2{w wc:World}{b1:Nat}{fo fe it se:Sl}{ts:List (Sl×Itm)}{x:St}{G:Nat→Prop}(h:LargeAt w wc b1 fo fe it se ts x G){r:Bool}(hr:(x.fols.any largeFol||(x.fees.any largeFee||(x.itms.any largeItm||x.seas.any largeSea)))=r){u0 u2 u3 u4 u5 u6 u7 u8 u9 u10 u11 u12 u13 u14 u15 u16 u17 u18 u19 u20 u21 u22 u23 u24 u25 u26 u27 u28 u29 u30 u31 u32 u33 u34 u35 u36 u37 u38 u39 u40 u41 u42 u43 u44 u45 u46 u47 u48 u49 u50 u51 u52 u53 u54 u55 u56 u57 u58 u59 u60 u61 u62 u63 u64 u65 u66 u67 u68 u69 u70 u71 u72 u73 u74 u75 u76 u77 u78 u79 u80 u81 u82 u83 u84 u85 u86 u87 u88 u89 u90 u91 u92 u93 u94 u95 u96 u97 u98 u99 u100 u101 u102 u103 u104 u105 u106 u107 u108 u109 u110 u111 u112 u113 u114 u115 u116 u117 u118 u119 u120 u121 u122 u123 u124 u125 u126 u127 u128 u129 u130 u131 u132 u133 u134 u135 u136 u137 u138 u139 u140 u141 u142 u143 u144 u145 u146 u147 u148 u149 u150 u151 u152 u153 u154 u155 u156 u157 u158 u159 u160 u161:Value}:
  Code.wp Tryz.prog (peel 2 (bodyOf Tryz.f13)) (bodyPost Tryz.prog Tryz.f13 λe w'=>e=.returned (.bool r)∧Frm Nix w w') ⟨#[u0,.pointer (some ⟨b1,0,none⟩),u2,u3,u4,u5,u6,u7,u8,u9,u10,u11,u12,u13,u14,u15,u16,u17,u18,u19,u20,u21,u22,u23,u24,u25,u26,u27,u28,u29,u30,u31,u32,u33,u34,u35,u36,u37,u38,u39,u40,u41,u42,u43,u44,u45,u46,u47,u48,u49,u50,u51,u52,u53,u54,u55,u56,u57,u58,u59,u60,u61,u62,u63,u64,u65,u66,u67,u68,u69,u70,u71,u72,u73,u74,u75,u76,u77,u78,u79,u80,u81,u82,u83,u84,u85,u86,u87,u88,u89,u90,u91,u92,u93,u94,u95,u96,u97,u98,u99,u100,u101,u102,u103,u104,u105,u106,u107,u108,u109,u110,u111,u112,u113,u114,u115,u116,u117,u118,u119,u120,u121,u122,u123,u124,u125,u126,u127,u128,u129,u130,u131,u132,u133,u134,u135,u136,u137,u138,u139,u140,u141,u142,u143,u144,u145,u146,u147,u148,u149,u150,u151,u152,u153,u154,u155,u156,u157,u158,u159,u160,u161],[]⟩ wc:=by
 have HS:=h_ h;obtain⟨x0,x1,x2,x3,x4,x5,x6,x7,x8⟩:=blk9 h.b1;have hcap:=h.fols;have HY:Hid (x.fols.any largeFol=true→r=true):=λh=>by rw[←hr,h]<;>simp
 have HN:Hid (x.fols.any largeFol=false→(x.fees.any largeFee||(x.itms.any largeItm||x.seas.any largeSea))=r):=λh=>by rw[←hr,h]<;>simp
 clear hr;obtain⟨A,c⟩:=fo;dsimp only at x1 x2 x3 x4;clear h;refine peelK (k':=3) λK hK=>?_
 conv in hdC _=>whnf
 go_wp2
 go_loopw [3] (λkv wr=>∃k:Nat,k≤x.fols.length∧kv=.int .i64 k∧(x.fols.take k).any largeFol=false∧Frm Nix wc wr) (λkv _=>x.fols.length - (intOf kv).toNat)
 case atStart=>exact⟨0,by omega,rfl,by simp,Frm.refl _ _⟩
 case round=>
  obtain⟨k,hk,rfl,ht,hf⟩:=hrel;have HT:=h_ ht;have HF:=h_ hf;have HR:=h_ (HS.out.nix hf);clear ht hf x0 x1 x2 x3 x4 x5 x6 x7 x8;obtain⟨x0,x1,x2,x3,x4,x5,x6,x7,x8⟩:=blk9 HR.out.b1;dsimp only at x1 x2 x3 x4
  by_cases hlt:k<x.fols.length
  ·obtain⟨b,off,hA,-,hbl,hcell⟩:=HR.out.st.fols.at_ Fol.clen (by decide) (by omega)
   dsimp only at hA;subst hA;obtain⟨p0,p1,p2⟩:=Folcs (w:=wr) (b:=b) (off:=off+k * 3) (e:=x.fols[k]) (hcell k hlt);have HHit:=h_ (λhe=>HY.out (fst_any (p:=largeFol) hlt he));have HStep:=h_ (λhe=>fst_step (p:=largeFol) hlt HT.out he);obtain⟨q,hq⟩:∃q,x.fols[k]=q:=⟨_,rfl⟩;rw[hq] at p0 p1 p2 HHit HStep;clear hcell hq
   by_cases he0:1000<(q.name.size:Int)
   case pos=>
    have hy:largeFol q=true:=by unfold largeFol;simp;omega
    have HE:=h_ (HHit.out hy);go_wp2;go_ret;exact⟨by rw[HE.out]<;>rfl,HR.out.frm⟩
   have HQ:Hid (largeFol q=false):=by unfold Hid largeFol;simp;omega
   go_wp2;go_roundw
   case rel=>exact⟨k+1,by omega,by go_num,HStep.out HQ.out,HF.out⟩
   case measure=>simp[intOf];omega
  ·obtain rfl:k=x.fols.length:=by omega
   have HE:Hid (x.fols.any largeFol=false):=by have:=HT.out;rw[List.take_length] at this;exact this
   go_wp2;exact RL3 HR.out (HN.out HE.out)
theorem rLargeSt_any{w:World}{fo fe it se:Sl}{ts:List (Sl×Itm)}{x:St}{G:Nat→Prop}(hS:StIn w G fo fe it se ts x):
  Calls Tryz.prog 13 #[stV fo fe it se x] w λr w'=>r=.returned (.bool (largeS x))∧Frm Nix w w':=by
 obtain⟨w0,hw0,hf0,hb0⟩:=box_st w fo fe it se x;obtain⟨x0,x1,x2,x3,x4,x5,x6,x7,x8⟩:=blk9 hb0;have HS:=h_ (hS.nix hf0);have HB:=h_ hb0;have HF:=h_ hf0;have HW:=h_ hw0;have HE:Hid (largeS x=((decide (70<(x.fols.length:Int))||(decide (70<(x.fees.length:Int))||(decide (120<(x.itms.length:Int))||decide (40<(x.seas.length:Int)))))||(x.fols.any largeFol||(x.fees.any largeFee||(x.itms.any largeItm||x.seas.any largeSea))))):=rfl;rw[hw0] at x0 x1 x2 x3 x4 x5 x6 x7 x8;clear hS hf0 hb0 hw0;unfold stV
 by_cases h0:70<(x.fols.length:Int)
 case pos=>
  have HY:Hid (largeS x=true):=by unfold Hid;rw[HE.out,decide_eq_true h0];simp
  go_enter Tryz.func13,Tryz.ntmps13;go_wp2;rw[←HW.out];go_ret;exact⟨by rw[HY.out]<;>rfl,HF.out⟩
 by_cases h1:70<(x.fees.length:Int)
 case pos=>
  have HY:Hid (largeS x=true):=by unfold Hid;rw[HE.out,decide_eq_true h1];simp
  go_enter Tryz.func13,Tryz.ntmps13;go_wp2;rw[←HW.out];go_ret;exact⟨by rw[HY.out]<;>rfl,HF.out⟩
 by_cases h2:120<(x.itms.length:Int)
 case pos=>
  have HY:Hid (largeS x=true):=by unfold Hid;rw[HE.out,decide_eq_true h2];simp
  go_enter Tryz.func13,Tryz.ntmps13;go_wp2;rw[←HW.out];go_ret;exact⟨by rw[HY.out]<;>rfl,HF.out⟩
 by_cases h3:40<(x.seas.length:Int)
 case pos=>
  have HY:Hid (largeS x=true):=by unfold Hid;rw[HE.out,decide_eq_true h3];simp
  go_enter Tryz.func13,Tryz.ntmps13;go_wp2;rw[←HW.out];go_ret;exact⟨by rw[HY.out]<;>rfl,HF.out⟩
 have HY:Hid (largeS x=(x.fols.any largeFol||(x.fees.any largeFee||(x.itms.any largeItm||x.seas.any largeSea)))):=by unfold Hid;rw[HE.out,decide_eq_false h0,decide_eq_false h1,decide_eq_false h2,decide_eq_false h3];rfl
 go_enter Tryz.func13,Tryz.ntmps13;show Code.wp Tryz.prog (peel 0 (bodyOf Tryz.f13)) _ _ _
 refine peelK (k':=1) λK hK=>?_
 conv in hdC _=>whnf
 go_wp2;refine peelK (k':=2) λK hK=>?_
 conv in hdC _=>whnf
 go_wp2;rw[←HW.out];exact RL2 ⟨HS.out,HF.out,HB.out,by omega,by omega,by omega,by omega⟩ HY.out.symm
end Go.Proofs.YtaecjmiobllhmaaGreat
