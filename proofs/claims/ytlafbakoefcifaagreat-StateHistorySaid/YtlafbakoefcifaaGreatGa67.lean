/-
  Contracts: the document's Large.
-/
import Derived.Test.YtlafbakoefcifaaGreatGa65
import Derived.Test.YtlafbakoefcifaaGreatGa26
import Derived.Test.YtlafbakoefcifaaGreatGa36
import Derived.Deep.RegionHeld3
set_option linter.unusedVariables false
set_option linter.unusedSimpArgs false
set_option maxRecDepth 100000
set_option maxHeartbeats 16000000
namespace Go.Proofs.YtlafbakoefcifaaGreat
open Go.RowKit Go.Lib
structure LargeAt(w wc:World)(b1:Nat)(fo fe it se:Sl)(ts:List (Sl×Itm))(x:St)(G:Nat→Prop):Prop where
 st:StIn wc G fo fe it se ts x
 frm:Frm Nix w wc
 b1:Blk wc b1 30 #[.int .i64 x.clock,.slice fo.1 x.fols.length fo.2,.slice fe.1 x.fees.length fe.2,.slice it.1 x.itms.length it.2,.slice se.1 x.seas.length se.2,.int .i64 x.tFol,.int .i64 x.tFee,.int .i64 x.tItm,.int .i64 x.tSea]
 fols:x.fols.length≤70
 fees:x.fees.length≤70
 itms:x.itms.length≤120
 seas:x.seas.length≤40
theorem LargeAt.nix{w wc w1:World}{b1:Nat}{fo fe it se:Sl}{ts:List (Sl×Itm)}{x:St}{G:Nat→Prop}(h:LargeAt w wc b1 fo fe it se ts x G)(hf:Frm Nix wc w1):LargeAt w w1 b1 fo fe it se ts x G:=
 ⟨h.st.nix hf,h.frm.trans hf,h.b1.frm hf id,h.fols,h.fees,h.itms,h.seas⟩
theorem itms_at2{x:St}{k:Nat}{w:World}{G:Nat→Prop}{fo fe it se:Sl}{ts:List (Sl×Itm)}(h:StIn w G fo fe it se ts x)(hk:k<x.itms.length):∃ hk':k<ts.length,(ts[k]'hk').2=x.itms[k]:=by
 have hk':k<ts.length:=by rw[h.len];exact hk
 refine⟨hk',?_⟩;have:(ts.map (·.2))[k]'(by simpa using hk')=(ts[k]'hk').2:=by simp
 rw[← this]
 congr 1
 exact h.same
theorem RL5{w wc:World}{b1:Nat}{fo fe it se:Sl}{ts:List (Sl×Itm)}{x:St}{G:Nat→Prop}(h:LargeAt w wc b1 fo fe it se ts x G){r:Bool}(hr:(x.seas.any largeSea)=r){u0 u2 u3 u4 u5 u6 u7 u8 u9 u10 u11 u12 u13 u14 u15 u16 u17 u18 u19 u20 u21 u22 u23 u24 u25 u26 u27 u28 u29 u30 u31 u32 u33 u34 u35 u36 u37 u38 u39 u40 u41 u42 u43 u44 u45 u46 u47 u48 u49 u50 u51 u52 u53 u54 u55 u56 u57 u58 u59 u60 u61 u62 u63 u64 u65 u66 u67 u68 u69 u70 u71 u72 u73 u74 u75 u76 u77 u78 u79 u80 u81 u82 u83 u84 u85 u86 u87 u88 u89 u90 u91 u92 u93 u94 u95 u96 u97 u98 u99 u100 u101 u102 u103 u104 u105 u106 u107 u108 u109 u110 u111 u112 u113 u114 u115 u116 u117 u118 u119 u120 u121 u122 u123 u124 u125 u126 u127 u128 u129 u130 u131 u132 u133 u134 u135 u136 u137 u138 u139 u140 u141 u142 u143 u144 u145 u146 u147 u148 u149 u150 u151 u152 u153 u154 u155 u156 u157 u158 u159 u160 u161:Value}:
  Code.wp Tryz.prog (peel 5 (bodyOf Tryz.f16)) (bodyPost Tryz.prog Tryz.f16 fun e w'=>e=.returned (.bool r)∧Frm Nix w w') ⟨#[u0,.pointer (some ⟨b1,0,none⟩),u2,u3,u4,u5,u6,u7,u8,u9,u10,u11,u12,u13,u14,u15,u16,u17,u18,u19,u20,u21,u22,u23,u24,u25,u26,u27,u28,u29,u30,u31,u32,u33,u34,u35,u36,u37,u38,u39,u40,u41,u42,u43,u44,u45,u46,u47,u48,u49,u50,u51,u52,u53,u54,u55,u56,u57,u58,u59,u60,u61,u62,u63,u64,u65,u66,u67,u68,u69,u70,u71,u72,u73,u74,u75,u76,u77,u78,u79,u80,u81,u82,u83,u84,u85,u86,u87,u88,u89,u90,u91,u92,u93,u94,u95,u96,u97,u98,u99,u100,u101,u102,u103,u104,u105,u106,u107,u108,u109,u110,u111,u112,u113,u114,u115,u116,u117,u118,u119,u120,u121,u122,u123,u124,u125,u126,u127,u128,u129,u130,u131,u132,u133,u134,u135,u136,u137,u138,u139,u140,u141,u142,u143,u144,u145,u146,u147,u148,u149,u150,u151,u152,u153,u154,u155,u156,u157,u158,u159,u160,u161],[]⟩ wc:=by
 have HS:=h_ h;obtain⟨x0,x1,x2,x3,x4,x5,x6,x7,x8⟩:=blk9 h.b1;have hcap:=h.seas;have HY:Hid (x.seas.any largeSea=true→r=true):=fun h=>by rw[← hr,h]<;>simp
 have HN:Hid (x.seas.any largeSea=false→(false)=r):=fun h=>by rw[← hr,h]<;>simp
 clear hr;obtain⟨A,c⟩:=se;dsimp only at x1 x2 x3 x4;clear h;simp only[peel,bodyOf,Tryz.f16];go_wp2
 go_loopw [7] (fun kv wr=>∃ k:Nat,k≤x.seas.length∧kv=.int .i64 k∧(x.seas.take k).any largeSea=false∧Frm Nix wc wr) (fun kv _=>x.seas.length - (intOf kv).toNat)
 case atStart=>exact⟨0,by omega,rfl,by simp,Frm.refl _ _⟩
 case round=>
  obtain⟨k,hk,rfl,ht,hf⟩:=hrel;have HT:=h_ ht;have HF:=h_ hf;have HR:=h_ (HS.out.nix hf);clear ht hf x0 x1 x2 x3 x4 x5 x6 x7 x8;obtain⟨x0,x1,x2,x3,x4,x5,x6,x7,x8⟩:=blk9 HR.out.b1;dsimp only at x1 x2 x3 x4
  by_cases hlt:k<x.seas.length
  ·obtain⟨b,off,hA,-,hbl,hcell⟩:=HR.out.st.seas.at_ Sea.clen (by decide) (by omega)
   dsimp only at hA;subst hA;obtain⟨p0,p1,p2⟩:=Seacs (w:=wr) (b:=b) (off:=off+k * 3) (e:=x.seas[k]) (hcell k hlt);have HHit:=h_ (fun he=>HY.out (fst_any (p:=largeSea) hlt he));have HStep:=h_ (fun he=>fst_step (p:=largeSea) hlt HT.out he);obtain⟨q,hq⟩:∃ q,x.seas[k]=q:=⟨_,rfl⟩;rw[hq] at p0 p1 p2 HHit HStep;clear hcell hq
   by_cases he0:1000<(q.name.size:Int)
   case pos=>
    have hy:largeSea q=true:=by unfold largeSea;simp;omega
    have HE:=h_ (HHit.out hy);go_wp2;go_ret;exact⟨by rw[HE.out]<;>rfl,HR.out.frm⟩
   by_cases he1:1000<(q.query.size:Int)
   case pos=>
    have hy:largeSea q=true:=by unfold largeSea;simp;omega
    have HE:=h_ (HHit.out hy);go_wp2;go_ret;exact⟨by rw[HE.out]<;>rfl,HR.out.frm⟩
   have HQ:Hid (largeSea q=false):=by unfold Hid largeSea;simp;omega
   go_wp2;go_roundw
   case rel=>exact⟨k+1,by omega,by go_num,HStep.out HQ.out,HF.out⟩
   case measure=>simp[intOf];omega
  ·obtain rfl:k=x.seas.length:=by omega
   have HE:Hid (x.seas.any largeSea=false):=by have:=HT.out;rw[List.take_length] at this;exact this
   go_wp2;go_ret;exact⟨by rw[← HN.out HE.out]<;>rfl,HR.out.frm⟩
theorem RL4{w wc:World}{b1:Nat}{fo fe it se:Sl}{ts:List (Sl×Itm)}{x:St}{G:Nat→Prop}(h:LargeAt w wc b1 fo fe it se ts x G){r:Bool}(hr:(x.itms.any largeItm||x.seas.any largeSea)=r){u0 u2 u3 u4 u5 u6 u7 u8 u9 u10 u11 u12 u13 u14 u15 u16 u17 u18 u19 u20 u21 u22 u23 u24 u25 u26 u27 u28 u29 u30 u31 u32 u33 u34 u35 u36 u37 u38 u39 u40 u41 u42 u43 u44 u45 u46 u47 u48 u49 u50 u51 u52 u53 u54 u55 u56 u57 u58 u59 u60 u61 u62 u63 u64 u65 u66 u67 u68 u69 u70 u71 u72 u73 u74 u75 u76 u77 u78 u79 u80 u81 u82 u83 u84 u85 u86 u87 u88 u89 u90 u91 u92 u93 u94 u95 u96 u97 u98 u99 u100 u101 u102 u103 u104 u105 u106 u107 u108 u109 u110 u111 u112 u113 u114 u115 u116 u117 u118 u119 u120 u121 u122 u123 u124 u125 u126 u127 u128 u129 u130 u131 u132 u133 u134 u135 u136 u137 u138 u139 u140 u141 u142 u143 u144 u145 u146 u147 u148 u149 u150 u151 u152 u153 u154 u155 u156 u157 u158 u159 u160 u161:Value}:
  Code.wp Tryz.prog (peel 4 (bodyOf Tryz.f16)) (bodyPost Tryz.prog Tryz.f16 fun e w'=>e=.returned (.bool r)∧Frm Nix w w') ⟨#[u0,.pointer (some ⟨b1,0,none⟩),u2,u3,u4,u5,u6,u7,u8,u9,u10,u11,u12,u13,u14,u15,u16,u17,u18,u19,u20,u21,u22,u23,u24,u25,u26,u27,u28,u29,u30,u31,u32,u33,u34,u35,u36,u37,u38,u39,u40,u41,u42,u43,u44,u45,u46,u47,u48,u49,u50,u51,u52,u53,u54,u55,u56,u57,u58,u59,u60,u61,u62,u63,u64,u65,u66,u67,u68,u69,u70,u71,u72,u73,u74,u75,u76,u77,u78,u79,u80,u81,u82,u83,u84,u85,u86,u87,u88,u89,u90,u91,u92,u93,u94,u95,u96,u97,u98,u99,u100,u101,u102,u103,u104,u105,u106,u107,u108,u109,u110,u111,u112,u113,u114,u115,u116,u117,u118,u119,u120,u121,u122,u123,u124,u125,u126,u127,u128,u129,u130,u131,u132,u133,u134,u135,u136,u137,u138,u139,u140,u141,u142,u143,u144,u145,u146,u147,u148,u149,u150,u151,u152,u153,u154,u155,u156,u157,u158,u159,u160,u161],[]⟩ wc:=by
 have HS:=h_ h;obtain⟨x0,x1,x2,x3,x4,x5,x6,x7,x8⟩:=blk9 h.b1;have hcap:=h.itms;have HY:Hid (x.itms.any largeItm=true→r=true):=fun h=>by rw[← hr,h]<;>simp
 have HN:Hid (x.itms.any largeItm=false→(x.seas.any largeSea)=r):=fun h=>by rw[← hr,h]<;>simp
 clear hr;obtain⟨A,c⟩:=it;dsimp only at x1 x2 x3 x4;clear h;refine peelK (k':=5) fun K hK=>?_
 conv in hdC _=>whnf
 go_wp2
 go_loopw [5] (fun kv wr=>∃ k:Nat,k≤x.itms.length∧kv=.int .i64 k∧(x.itms.take k).any largeItm=false∧Frm Nix wc wr) (fun kv _=>x.itms.length - (intOf kv).toNat)
 case atStart=>exact⟨0,by omega,rfl,by simp,Frm.refl _ _⟩
 case round=>
  obtain⟨k,hk,rfl,ht,hf⟩:=hrel;have HT:=h_ ht;have HF:=h_ hf;have HR:=h_ (HS.out.nix hf);clear ht hf x0 x1 x2 x3 x4 x5 x6 x7 x8;obtain⟨x0,x1,x2,x3,x4,x5,x6,x7,x8⟩:=blk9 HR.out.b1;dsimp only at x1 x2 x3 x4
  by_cases hlt:k<x.itms.length
  ·obtain⟨hkt,het⟩:=itms_at2 HR.out.st hlt
   obtain⟨b,off,hA,-,hbl,hcell⟩:=HR.out.st.itms.row.at_ itmC_len (by decide) (by omega);dsimp only at hA;subst hA;have hc:=hcell k hkt;have htg:=HR.out.st.itms.tags _ (List.getElem_mem hkt);obtain⟨tp,htp⟩:∃ tp,ts[k]=tp:=⟨_,rfl⟩;rw[htp] at hc het htg;obtain⟨p0,p1,p2,p3,p4,p5,p6,p7,p8⟩:=itmcs (w:=wr) (b:=b) (off:=off+k * 9) (p:=tp) hc;have HHit:=h_ (fun he=>HY.out (fst_any (p:=largeItm) hlt he));have HStep:=h_ (fun he=>fst_step (p:=largeItm) hlt HT.out he);rw[← het] at HHit HStep;clear hcell hc htp het;obtain⟨tv,q⟩:=tp;dsimp only at *
   by_cases he0:1000<(q.guid.size:Int)
   case pos=>
    have hy:largeItm q=true:=by unfold largeItm;simp;omega
    have HE:=h_ (HHit.out hy);go_wp2;go_ret;exact⟨by rw[HE.out]<;>rfl,HR.out.frm⟩
   by_cases he1:1000<(q.title.size:Int)
   case pos=>
    have hy:largeItm q=true:=by unfold largeItm;simp;omega
    have HE:=h_ (HHit.out hy);go_wp2;go_ret;exact⟨by rw[HE.out]<;>rfl,HR.out.frm⟩
   by_cases he2:1000<(q.link.size:Int)
   case pos=>
    have hy:largeItm q=true:=by unfold largeItm;simp;omega
    have HE:=h_ (HHit.out hy);go_wp2;go_ret;exact⟨by rw[HE.out]<;>rfl,HR.out.frm⟩
   by_cases he3:20<(q.tags.length:Int)
   case pos=>
    have hy:largeItm q=true:=by unfold largeItm;simp;omega
    have HE:=h_ (HHit.out hy);go_wp2;go_ret;exact⟨by rw[HE.out]<;>rfl,HR.out.frm⟩
   have HQ:Hid (largeItm q=q.tags.any largeTag):=by unfold Hid largeItm;simp;omega
   have hcap2:q.tags.length≤20:=by omega
   have HTg:=h_ htg;have hb1l:=HR.out.b1.lt;clear htg;go_wp2
   go_loopw [6] (fun jv wv=>∃ j:Nat,j≤q.tags.length∧jv=.int .i64 j∧(q.tags.take j).any largeTag=false∧Frm Nix wr wv) (fun jv _=>q.tags.length - (intOf jv).toNat)
   case atStart=>exact⟨0,by omega,rfl,by simp,Frm.refl _ _⟩
   case round=>
    obtain⟨j,hj,rfl,ht2,hf2⟩:=hrel;have HT2:=h_ ht2;have HF2:=h_ hf2;have z3:=(hf2.cell (p:=⟨b1,3,none⟩) hb1l id).trans x3;have z8:=(hf2.cell (p:=⟨b,off+k * 9+8,none⟩) hbl id).trans p8;clear ht2 hf2 x0 x1 x2 x3 x4 x5 x6 x7 x8 p0 p1 p2 p3 p4 p5 p6 p7 p8
    by_cases hjl:j<q.tags.length
    ·have htg2:=HTg.out.nix HF2.out
     rw[str_flat] at htg2;obtain⟨b3,off3,hA3,-,hbl3,hcell3⟩:=htg2.at_ (f:=fun i=>[Value.string i]) (fun _=>rfl) (by decide) (by omega);obtain⟨tA,tc⟩:=tv;dsimp only at hA3 z8;subst hA3;have y0:=hcell3 j hjl 0 _ rfl;rw[Nat.mul_one,Nat.add_zero] at y0;have HHit2:=h_ (fun he=>fst_any (p:=largeTag) hjl he);have HStep2:=h_ (fun he=>fst_step (p:=largeTag) hjl HT2.out he);obtain⟨tq,htq⟩:∃ tq,q.tags[j]=tq:=⟨_,rfl⟩;rw[htq] at y0 HHit2 HStep2;clear hcell3 htq htg2
     by_cases h300:300<(tq.size:Int)
     case pos=>
      have HE:=h_ (HHit.out (HQ.out.trans (HHit2.out (by unfold largeTag;exact decide_eq_true h300))));go_wp2;go_ret;exact⟨by rw[HE.out]<;>rfl,HR.out.frm.trans HF2.out⟩
     go_wp2;go_roundw
     case rel=>exact⟨j+1,by omega,by go_num,HStep2.out (by unfold largeTag;exact decide_eq_false h300),HF2.out⟩
     case measure=>simp[intOf];omega
    ·obtain rfl:j=q.tags.length:=by omega
     have HE2:Hid (q.tags.any largeTag=false):=by have:=HT2.out;rw[List.take_length] at this;exact this
     go_wp2;go_roundw
     case rel=>exact⟨k+1,by omega,by go_num,HStep.out (HQ.out.trans HE2.out),HF.out.trans HF2.out⟩
     case measure=>simp[intOf];omega
  ·obtain rfl:k=x.itms.length:=by omega
   have HE:Hid (x.itms.any largeItm=false):=by have:=HT.out;rw[List.take_length] at this;exact this
   go_wp2;exact RL5 HR.out (HN.out HE.out)
theorem RL3{w wc:World}{b1:Nat}{fo fe it se:Sl}{ts:List (Sl×Itm)}{x:St}{G:Nat→Prop}(h:LargeAt w wc b1 fo fe it se ts x G){r:Bool}(hr:(x.fees.any largeFee||(x.itms.any largeItm||x.seas.any largeSea))=r){u0 u2 u3 u4 u5 u6 u7 u8 u9 u10 u11 u12 u13 u14 u15 u16 u17 u18 u19 u20 u21 u22 u23 u24 u25 u26 u27 u28 u29 u30 u31 u32 u33 u34 u35 u36 u37 u38 u39 u40 u41 u42 u43 u44 u45 u46 u47 u48 u49 u50 u51 u52 u53 u54 u55 u56 u57 u58 u59 u60 u61 u62 u63 u64 u65 u66 u67 u68 u69 u70 u71 u72 u73 u74 u75 u76 u77 u78 u79 u80 u81 u82 u83 u84 u85 u86 u87 u88 u89 u90 u91 u92 u93 u94 u95 u96 u97 u98 u99 u100 u101 u102 u103 u104 u105 u106 u107 u108 u109 u110 u111 u112 u113 u114 u115 u116 u117 u118 u119 u120 u121 u122 u123 u124 u125 u126 u127 u128 u129 u130 u131 u132 u133 u134 u135 u136 u137 u138 u139 u140 u141 u142 u143 u144 u145 u146 u147 u148 u149 u150 u151 u152 u153 u154 u155 u156 u157 u158 u159 u160 u161:Value}:
  Code.wp Tryz.prog (peel 3 (bodyOf Tryz.f16)) (bodyPost Tryz.prog Tryz.f16 fun e w'=>e=.returned (.bool r)∧Frm Nix w w') ⟨#[u0,.pointer (some ⟨b1,0,none⟩),u2,u3,u4,u5,u6,u7,u8,u9,u10,u11,u12,u13,u14,u15,u16,u17,u18,u19,u20,u21,u22,u23,u24,u25,u26,u27,u28,u29,u30,u31,u32,u33,u34,u35,u36,u37,u38,u39,u40,u41,u42,u43,u44,u45,u46,u47,u48,u49,u50,u51,u52,u53,u54,u55,u56,u57,u58,u59,u60,u61,u62,u63,u64,u65,u66,u67,u68,u69,u70,u71,u72,u73,u74,u75,u76,u77,u78,u79,u80,u81,u82,u83,u84,u85,u86,u87,u88,u89,u90,u91,u92,u93,u94,u95,u96,u97,u98,u99,u100,u101,u102,u103,u104,u105,u106,u107,u108,u109,u110,u111,u112,u113,u114,u115,u116,u117,u118,u119,u120,u121,u122,u123,u124,u125,u126,u127,u128,u129,u130,u131,u132,u133,u134,u135,u136,u137,u138,u139,u140,u141,u142,u143,u144,u145,u146,u147,u148,u149,u150,u151,u152,u153,u154,u155,u156,u157,u158,u159,u160,u161],[]⟩ wc:=by
 have HS:=h_ h;obtain⟨x0,x1,x2,x3,x4,x5,x6,x7,x8⟩:=blk9 h.b1;have hcap:=h.fees;have HY:Hid (x.fees.any largeFee=true→r=true):=fun h=>by rw[← hr,h]<;>simp
 have HN:Hid (x.fees.any largeFee=false→(x.itms.any largeItm||x.seas.any largeSea)=r):=fun h=>by rw[← hr,h]<;>simp
 clear hr;obtain⟨A,c⟩:=fe;dsimp only at x1 x2 x3 x4;clear h;refine peelK (k':=4) fun K hK=>?_
 conv in hdC _=>whnf
 go_wp2
 go_loopw [4] (fun kv wr=>∃ k:Nat,k≤x.fees.length∧kv=.int .i64 k∧(x.fees.take k).any largeFee=false∧Frm Nix wc wr) (fun kv _=>x.fees.length - (intOf kv).toNat)
 case atStart=>exact⟨0,by omega,rfl,by simp,Frm.refl _ _⟩
 case round=>
  obtain⟨k,hk,rfl,ht,hf⟩:=hrel;have HT:=h_ ht;have HF:=h_ hf;have HR:=h_ (HS.out.nix hf);clear ht hf x0 x1 x2 x3 x4 x5 x6 x7 x8;obtain⟨x0,x1,x2,x3,x4,x5,x6,x7,x8⟩:=blk9 HR.out.b1;dsimp only at x1 x2 x3 x4
  by_cases hlt:k<x.fees.length
  ·obtain⟨b,off,hA,-,hbl,hcell⟩:=HR.out.st.fees.at_ Fee.clen (by decide) (by omega)
   dsimp only at hA;subst hA;obtain⟨p0,p1,p2,p3⟩:=Feecs (w:=wr) (b:=b) (off:=off+k * 4) (e:=x.fees[k]) (hcell k hlt);have HHit:=h_ (fun he=>HY.out (fst_any (p:=largeFee) hlt he));have HStep:=h_ (fun he=>fst_step (p:=largeFee) hlt HT.out he);obtain⟨q,hq⟩:∃ q,x.fees[k]=q:=⟨_,rfl⟩;rw[hq] at p0 p1 p2 p3 HHit HStep;clear hcell hq
   by_cases he0:1000<(q.url.size:Int)
   case pos=>
    have hy:largeFee q=true:=by unfold largeFee;simp;omega
    have HE:=h_ (HHit.out hy);go_wp2;go_ret;exact⟨by rw[HE.out]<;>rfl,HR.out.frm⟩
   by_cases he1:1000<(q.title.size:Int)
   case pos=>
    have hy:largeFee q=true:=by unfold largeFee;simp;omega
    have HE:=h_ (HHit.out hy);go_wp2;go_ret;exact⟨by rw[HE.out]<;>rfl,HR.out.frm⟩
   have HQ:Hid (largeFee q=false):=by unfold Hid largeFee;simp;omega
   go_wp2;go_roundw
   case rel=>exact⟨k+1,by omega,by go_num,HStep.out HQ.out,HF.out⟩
   case measure=>simp[intOf];omega
  ·obtain rfl:k=x.fees.length:=by omega
   have HE:Hid (x.fees.any largeFee=false):=by have:=HT.out;rw[List.take_length] at this;exact this
   go_wp2;exact RL4 HR.out (HN.out HE.out)
theorem RL2{w wc:World}{b1:Nat}{fo fe it se:Sl}{ts:List (Sl×Itm)}{x:St}{G:Nat→Prop}(h:LargeAt w wc b1 fo fe it se ts x G){r:Bool}(hr:(x.fols.any largeFol||(x.fees.any largeFee||(x.itms.any largeItm||x.seas.any largeSea)))=r){u0 u2 u3 u4 u5 u6 u7 u8 u9 u10 u11 u12 u13 u14 u15 u16 u17 u18 u19 u20 u21 u22 u23 u24 u25 u26 u27 u28 u29 u30 u31 u32 u33 u34 u35 u36 u37 u38 u39 u40 u41 u42 u43 u44 u45 u46 u47 u48 u49 u50 u51 u52 u53 u54 u55 u56 u57 u58 u59 u60 u61 u62 u63 u64 u65 u66 u67 u68 u69 u70 u71 u72 u73 u74 u75 u76 u77 u78 u79 u80 u81 u82 u83 u84 u85 u86 u87 u88 u89 u90 u91 u92 u93 u94 u95 u96 u97 u98 u99 u100 u101 u102 u103 u104 u105 u106 u107 u108 u109 u110 u111 u112 u113 u114 u115 u116 u117 u118 u119 u120 u121 u122 u123 u124 u125 u126 u127 u128 u129 u130 u131 u132 u133 u134 u135 u136 u137 u138 u139 u140 u141 u142 u143 u144 u145 u146 u147 u148 u149 u150 u151 u152 u153 u154 u155 u156 u157 u158 u159 u160 u161:Value}:
  Code.wp Tryz.prog (peel 2 (bodyOf Tryz.f16)) (bodyPost Tryz.prog Tryz.f16 fun e w'=>e=.returned (.bool r)∧Frm Nix w w') ⟨#[u0,.pointer (some ⟨b1,0,none⟩),u2,u3,u4,u5,u6,u7,u8,u9,u10,u11,u12,u13,u14,u15,u16,u17,u18,u19,u20,u21,u22,u23,u24,u25,u26,u27,u28,u29,u30,u31,u32,u33,u34,u35,u36,u37,u38,u39,u40,u41,u42,u43,u44,u45,u46,u47,u48,u49,u50,u51,u52,u53,u54,u55,u56,u57,u58,u59,u60,u61,u62,u63,u64,u65,u66,u67,u68,u69,u70,u71,u72,u73,u74,u75,u76,u77,u78,u79,u80,u81,u82,u83,u84,u85,u86,u87,u88,u89,u90,u91,u92,u93,u94,u95,u96,u97,u98,u99,u100,u101,u102,u103,u104,u105,u106,u107,u108,u109,u110,u111,u112,u113,u114,u115,u116,u117,u118,u119,u120,u121,u122,u123,u124,u125,u126,u127,u128,u129,u130,u131,u132,u133,u134,u135,u136,u137,u138,u139,u140,u141,u142,u143,u144,u145,u146,u147,u148,u149,u150,u151,u152,u153,u154,u155,u156,u157,u158,u159,u160,u161],[]⟩ wc:=by
 have HS:=h_ h;obtain⟨x0,x1,x2,x3,x4,x5,x6,x7,x8⟩:=blk9 h.b1;have hcap:=h.fols;have HY:Hid (x.fols.any largeFol=true→r=true):=fun h=>by rw[← hr,h]<;>simp
 have HN:Hid (x.fols.any largeFol=false→(x.fees.any largeFee||(x.itms.any largeItm||x.seas.any largeSea))=r):=fun h=>by rw[← hr,h]<;>simp
 clear hr;obtain⟨A,c⟩:=fo;dsimp only at x1 x2 x3 x4;clear h;refine peelK (k':=3) fun K hK=>?_
 conv in hdC _=>whnf
 go_wp2
 go_loopw [3] (fun kv wr=>∃ k:Nat,k≤x.fols.length∧kv=.int .i64 k∧(x.fols.take k).any largeFol=false∧Frm Nix wc wr) (fun kv _=>x.fols.length - (intOf kv).toNat)
 case atStart=>exact⟨0,by omega,rfl,by simp,Frm.refl _ _⟩
 case round=>
  obtain⟨k,hk,rfl,ht,hf⟩:=hrel;have HT:=h_ ht;have HF:=h_ hf;have HR:=h_ (HS.out.nix hf);clear ht hf x0 x1 x2 x3 x4 x5 x6 x7 x8;obtain⟨x0,x1,x2,x3,x4,x5,x6,x7,x8⟩:=blk9 HR.out.b1;dsimp only at x1 x2 x3 x4
  by_cases hlt:k<x.fols.length
  ·obtain⟨b,off,hA,-,hbl,hcell⟩:=HR.out.st.fols.at_ Fol.clen (by decide) (by omega)
   dsimp only at hA;subst hA;obtain⟨p0,p1,p2⟩:=Folcs (w:=wr) (b:=b) (off:=off+k * 3) (e:=x.fols[k]) (hcell k hlt);have HHit:=h_ (fun he=>HY.out (fst_any (p:=largeFol) hlt he));have HStep:=h_ (fun he=>fst_step (p:=largeFol) hlt HT.out he);obtain⟨q,hq⟩:∃ q,x.fols[k]=q:=⟨_,rfl⟩;rw[hq] at p0 p1 p2 HHit HStep;clear hcell hq
   by_cases he0:1000<(q.name.size:Int)
   case pos=>
    have hy:largeFol q=true:=by unfold largeFol;simp;omega
    have HE:=h_ (HHit.out hy);go_wp2;go_ret;exact⟨by rw[HE.out]<;>rfl,HR.out.frm⟩
   have HQ:Hid (largeFol q=false):=by unfold Hid largeFol;simp;omega
   go_wp2;go_roundw
   case rel=>exact⟨k+1,by omega,by go_num,HStep.out HQ.out,HF.out⟩
   case measure=>simp[intOf];omega
  ·obtain rfl:k=x.fols.length:=by omega
   have HE:Hid (x.fols.any largeFol=false):=by have:=HT.out;rw[List.take_length] at this;exact this
   go_wp2;exact RL3 HR.out (HN.out HE.out)
theorem rLargeSt_any{w:World}{fo fe it se:Sl}{ts:List (Sl×Itm)}{x:St}{G:Nat→Prop}(hS:StIn w G fo fe it se ts x):
  Calls Tryz.prog 16 #[stV fo fe it se x] w fun r w'=>r=.returned (.bool (largeS x))∧Frm Nix w w':=by
 obtain⟨w0,hw0,hf0,hb0⟩:=box_st w fo fe it se x;obtain⟨x0,x1,x2,x3,x4,x5,x6,x7,x8⟩:=blk9 hb0;have HS:=h_ (hS.nix hf0);have HB:=h_ hb0;have HF:=h_ hf0;have HW:=h_ hw0;have HE:Hid (largeS x=((decide (70<(x.fols.length:Int))||(decide (70<(x.fees.length:Int))||(decide (120<(x.itms.length:Int))||decide (40<(x.seas.length:Int)))))||(x.fols.any largeFol||(x.fees.any largeFee||(x.itms.any largeItm||x.seas.any largeSea))))):=rfl;rw[hw0] at x0 x1 x2 x3 x4 x5 x6 x7 x8;clear hS hf0 hb0 hw0;unfold stV
 by_cases h0:70<(x.fols.length:Int)
 case pos=>
  have HY:Hid (largeS x=true):=by unfold Hid;rw[HE.out,decide_eq_true h0];simp
  go_enter Tryz.func16,Tryz.ntmps16;go_wp2;rw[← HW.out];go_ret;exact⟨by rw[HY.out]<;>rfl,HF.out⟩
 by_cases h1:70<(x.fees.length:Int)
 case pos=>
  have HY:Hid (largeS x=true):=by unfold Hid;rw[HE.out,decide_eq_true h1];simp
  go_enter Tryz.func16,Tryz.ntmps16;go_wp2;rw[← HW.out];go_ret;exact⟨by rw[HY.out]<;>rfl,HF.out⟩
 by_cases h2:120<(x.itms.length:Int)
 case pos=>
  have HY:Hid (largeS x=true):=by unfold Hid;rw[HE.out,decide_eq_true h2];simp
  go_enter Tryz.func16,Tryz.ntmps16;go_wp2;rw[← HW.out];go_ret;exact⟨by rw[HY.out]<;>rfl,HF.out⟩
 by_cases h3:40<(x.seas.length:Int)
 case pos=>
  have HY:Hid (largeS x=true):=by unfold Hid;rw[HE.out,decide_eq_true h3];simp
  go_enter Tryz.func16,Tryz.ntmps16;go_wp2;rw[← HW.out];go_ret;exact⟨by rw[HY.out]<;>rfl,HF.out⟩
 have HY:Hid (largeS x=(x.fols.any largeFol||(x.fees.any largeFee||(x.itms.any largeItm||x.seas.any largeSea)))):=by unfold Hid;rw[HE.out,decide_eq_false h0,decide_eq_false h1,decide_eq_false h2,decide_eq_false h3];rfl
 go_enter Tryz.func16,Tryz.ntmps16;show Code.wp Tryz.prog (peel 0 (bodyOf Tryz.f16)) _ _ _
 refine peelK (k':=1) fun K hK=>?_
 conv in hdC _=>whnf
 go_wp2;refine peelK (k':=2) fun K hK=>?_
 conv in hdC _=>whnf
 go_wp2;rw[← HW.out];exact RL2 ⟨HS.out,HF.out,HB.out,by omega,by omega,by omega,by omega⟩ HY.out.symm
theorem rFeeds_any{w:World}{fo fe it se:Sl}{ts:List (Sl×Itm)}{x:St}{G:Nat→Prop}(hS:StIn w G fo fe it se ts x)(hsm:StSmall x):
  Calls Tryz.prog 61 #[stV fo fe it se x] w fun e w'=>e=.returned (.bool (feesOk x))∧Frm Nix w w':=by
 obtain⟨w0,hw0,hf0,hb0⟩:=box_st w fo fe it se x;have hcap:=hsm.fees;obtain⟨x0,x1,x2,x3,x4,x5,x6,x7,x8⟩:=blk9 hb0;have HS:=h_ (hS.nix hf0);have HSm:=h_ hsm;have HB:=h_ hb0;have HF0:=h_ hf0;have HW:=h_ hw0;obtain⟨P,hP⟩:∃ P:List Fee→Fee→Bool,P=(fun (pre:List Fee) (f:Fee)=>evOk ⟨3,f.id,f.inn,0,f.url,f.title,eS⟩&&decide (f.id≤x.tFee)&&risesI Fee.id pre f&&inS x f.inn&&!(pre.any fun g=>g.url=f.url)):=⟨_,rfl⟩;have HP:Hid (∀ pre f,P pre f=((fun (pre:List Fee) (f:Fee)=>evOk ⟨3,f.id,f.inn,0,f.url,f.title,eS⟩&&decide (f.id≤x.tFee)&&risesI Fee.id pre f&&inS x f.inn&&!(pre.any fun g=>g.url=f.url)) pre f)):=by rw[hP];exact fun _ _=>rfl
 have HNo0:Hid (allG P [] x.fees=false→feesOk x=false):=fun h=>by unfold feesOk;rw[← hP,h];rfl
 have HYes0:Hid (allG P [] x.fees=true→feesOk x=(decide (x.fees.length≤64)&&decide (0≤x.tFee∧x.tFee≤1048576))):=fun h=>by unfold feesOk;rw[← hP,h];simp
 clear hS hsm hw0 hf0 hb0 hP;unfold stV;obtain⟨A,c⟩:=fe;dsimp only at x1 x2 x3 x4 HS HB HW ⊢;go_enter Tryz.func61,Tryz.ntmps61;show Code.wp Tryz.prog (peel 0 (bodyOf Tryz.f61)) _ _ _
 refine peelK (k':=1) fun K hK=>?_
 conv in hdC _=>whnf
 go_wp2;rw[← HW.out];refine peelK (k':=2) fun K hK=>?_
 conv in hdC _=>whnf
 go_wp2
 go_loopw [3] (fun kv wr=>∃ k:Nat,k≤x.fees.length∧kv=.int .i64 k∧(∀ (j:Nat) (hj:j<x.fees.length),j<k→P (x.fees.take j) (x.fees[j]'hj)=true)∧Frm Nix w0 wr) (fun kv _=>x.fees.length - (intOf kv).toNat)
 case atStart=>exact⟨0,by omega,rfl,fun j hj h=>absurd h (by omega),Frm.refl _ _⟩
 case round=>
  obtain⟨k,hk,rfl,ht,hf⟩:=hrel;have HT:=h_ ht;have HF:=h_ hf;clear ht hf x0 x1 x2 x3 x4 x5 x6 x7 x8;obtain⟨x0,x1,x2,x3,x4,x5,x6,x7,x8⟩:=blk9 (HB.out.frm HF.out id)
  by_cases hlt:k<x.fees.length
  ·obtain⟨b,off,hA,-,hbl,hcell⟩:=(HS.out.fees.nix HF.out).at_ Fee.clen (by decide) (by omega)
   dsimp only at hA;subst hA;have HNo:=h_ (fun h=>HNo0.out (allG_no (p:=P) hlt h))
   have HStep:Hid (P (x.fees.take k) x.fees[k]=true→∀ (j:Nat) (hj:j<x.fees.length),j<k+1→P (x.fees.take j) (x.fees[j]'hj)=true):=fun h j hj hjk=>by
    by_cases e:j=k
    ·subst e;exact h
    ·exact HT.out j hj (by omega)
   have HCell:Hid (∀ W,Frm Nix wr W→∀ (i:Nat) (hi:i<x.fees.length) (j:Nat) (u:Value),(Fee.cells x.fees[i])[j]? =some u→W.cell? ⟨b,off+i * 4+j,none⟩=some u):=fun W hW i hi j u hu=>(hW.cell (p:=⟨b,off+i * 4+j,none⟩) hbl id).trans (hcell i hi j u hu)
   obtain⟨p0,p1,p2,p3⟩:=Feecs (w:=wr) (b:=b) (off:=off+k * 4) (e:=x.fees[k]) (hcell k hlt);obtain⟨q,hq⟩:∃ q,x.fees[k]=q:=⟨_,rfl⟩;rw[hq] at p0 p1 p2 p3 HNo HStep;clear hcell hq;have HPq:=h_ (HP.out (x.fees.take k) q);obtain⟨w1,hw1⟩:∃ w1,w1=wr.alloc (.cells #[.int .i64 q.id,.int .i64 q.inn,.string q.url,.string q.title] 51):=⟨_,rfl⟩;have f1:Frm Nix wr w1:=by rw[hw1];exact(fR wr).alloc _
   have hb4:Blk w1 wr.heap.size 51 #[.int .i64 q.id,.int .i64 q.inn,.string q.url,.string q.title]:=by rw[hw1];exact Blk.new _ _ _
   have HW1:=h_ hw1;have HF1:=h_ f1;have HB4:=h_ hb4;have hbx:=(HB.out.frm HF.out id).frm f1 id;have z:=fun y:FW (Frm Nix w1)=>blk9 (hbx.frm y.h id)
   have z0:=fun y=>(z y).1
   have z1:=fun y=>(z y).2.1
   have z2:=fun y=>(z y).2.2.1
   have z3:=fun y=>(z y).2.2.2.1
   have z4:=fun y=>(z y).2.2.2.2.1
   have z5:=fun y=>(z y).2.2.2.2.2.1
   have z6:=fun y=>(z y).2.2.2.2.2.2.1
   have z7:=fun y=>(z y).2.2.2.2.2.2.2.1
   have z8:=fun y=>(z y).2.2.2.2.2.2.2.2
   have HBx:=h_ hbx;have r0:=fun y:FW (Frm Nix w1)=>(show y.w.cell? ⟨wr.heap.size,0,none⟩=some (.int .i64 q.id) from (hb4.frm y.h id).cell 0)
   have r1:=fun y:FW (Frm Nix w1)=>(show y.w.cell? ⟨wr.heap.size,1,none⟩=some (.int .i64 q.inn) from (hb4.frm y.h id).cell 1)
   have r2:=fun y:FW (Frm Nix w1)=>(show y.w.cell? ⟨wr.heap.size,2,none⟩=some (.string q.url) from (hb4.frm y.h id).cell 2)
   have r3:=fun y:FW (Frm Nix w1)=>(show y.w.cell? ⟨wr.heap.size,3,none⟩=some (.string q.title) from (hb4.frm y.h id).cell 3)
   have KC:=fun y:FW (Frm Nix w1)=>(show Calls Tryz.prog 59 #[.agg #[.int .i64 3,.int .i64 q.id,.int .i64 q.inn,.int .i64 0,.string q.url,.string q.title,.string ⟨#[]⟩]] y.w fun e w'=>e=.returned (.bool (evOk ⟨3,q.id,q.inn,0,q.url,q.title,eS⟩))∧Frm Nix y.w w' from rCheck_any ⟨3,q.id,q.inn,0,q.url,q.title,eS⟩ y.w)
   have KD:=fun y:FW (Frm Nix w1)=>(show Calls Tryz.prog 26 #[.agg #[.int .i64 x.clock,.slice fo.1 x.fols.length fo.2,.slice (some ⟨b,off,none⟩) x.fees.length c,.slice it.1 x.itms.length it.2,.slice se.1 x.seas.length se.2,.int .i64 x.tFol,.int .i64 x.tFee,.int .i64 x.tItm,.int .i64 x.tSea],.int .i64 q.inn] y.w fun e w'=>e=.returned (.int .i64 (posR Fol.id q.inn x.fols))∧Frm Nix y.w w' from rFolder_any ((HS.out.nix (HF.out.trans f1)).nix y.h) HSm.out q.inn)
   clear z hbx hb4 f1 hw1
   cases h0:evOk ⟨3,q.id,q.inn,0,q.url,q.title,eS⟩ with
   | false=>
     rw[h0] at KC;go_wp2_with fail;rw[← HW1.out];refine wp_region_class (Frm Nix w1) ((fR w1).drew) (by kernel_rfl) (by kernel_rfl) ?_
     repeat (go_big_quiet_step (first
      | (rename_i y;go_at_call 59;refine y.call (KC y) ?_;exact fun w' hf=>y.h.trans hf)
      | (rename_i y;go_at_call 26;refine y.call (KD y) ?_;exact fun w' hf=>y.h.trans hf)
      | fail))
     refine wpQuiet_nil ?_;rintro w5 ⟨⟨_,hfw5⟩,rfl⟩;go_wp2;go_ret
     exact⟨ret_bool (HNo.out (by rw[HPq.out,h0];simp)).symm,HF0.out.trans (HF.out.trans (HF1.out.trans hfw5))⟩
   | true=>
     rw[h0] at KC
     by_cases h1:x.tFee<q.id
     ·have k1:decide (x.tFee<q.id)=true:=decide_eq_true h1
      go_wp2_with fail;rw[← HW1.out];refine wp_region_class (Frm Nix w1) ((fR w1).drew) (by kernel_rfl) (by kernel_rfl) ?_
      repeat (go_big_quiet_step (first
       | (rename_i y;go_at_call 59;refine y.call (KC y) ?_;exact fun w' hf=>y.h.trans hf)
       | (rename_i y;go_at_call 26;refine y.call (KD y) ?_;exact fun w' hf=>y.h.trans hf)
       | fail))
      refine wpQuiet_nil ?_;rintro w5 ⟨⟨_,hfw5⟩,rfl⟩;go_wp2;go_ret;exact⟨ret_bool (HNo.out (by rw[HPq.out,decide_eq_false (show ¬q.id≤x.tFee by omega)];simp)).symm,HF0.out.trans (HF.out.trans (HF1.out.trans hfw5))⟩
     have k1:decide (x.tFee<q.id)=false:=decide_eq_false h1;have hle:q.id≤x.tFee:=by omega
     by_cases hk0:0<k
     case neg=>
      have kA:decide ((0:Int)<(k:Int))=false:=by first | (simp;done) | (simp;omega)
      have kB:decide (0<k)=false:=by first | (simp;done) | (simp;omega)
      have hr:risesI Fee.id (x.fees.take k) q=true:=by rw[show k=0 by omega];exact rises_zero
      by_cases h3:q.inn=0
      ·have k3:(q.inn !=0)=false:=by rw[h3];rfl
       have hin:inS x q.inn=true:=by unfold inS;rw[h3];rfl
       clear h3;go_wp2_with fail;rw[← HW1.out];refine wp_region_class (Frm Nix w1) ((fR w1).drew) (by kernel_rfl) (by kernel_rfl) ?_
       repeat (go_big_quiet_step (first
        | (rename_i y;go_at_call 59;refine y.call (KC y) ?_;exact fun w' hf=>y.h.trans hf)
        | (rename_i y;go_at_call 26;refine y.call (KD y) ?_;exact fun w' hf=>y.h.trans hf)
        | fail))
       refine wpQuiet_nil ?_;rintro w5 ⟨⟨_,hfw5⟩,rfl⟩;have HF5:=h_ hfw5;clear hfw5;go_wp2
       go_loopw [5] (fun jv wv=>∃ j:Nat,j≤k∧jv=.int .i64 j∧(x.fees.take j).any (fun g=>decide (g.url=q.url))=false∧Frm Nix w1 wv) (fun jv _=>k - (intOf jv).toNat)
       case atStart=>exact⟨0,by omega,rfl,by simp,HF5.out⟩
       case round=>
        obtain⟨j,hj,rfl,ht2,hf2⟩:=hrel;have HT2:=h_ ht2;have HF2:=h_ hf2;clear ht2 hf2
        by_cases hjk:j<k
        ·exfalso
         omega
        ·obtain rfl:j=k:=by omega
         have HE:=HT2;go_wp2;go_roundw
         case rel=>exact⟨j+1,by omega,by go_num,HStep.out (by rw[HPq.out,h0,hr,decide_eq_true hle,hin,HE.out];rfl),HF.out.trans (HF1.out.trans HF2.out)⟩
         case measure=>simp[intOf];omega
      have k3:(q.inn !=0)=true:=by simp[h3]
      cases h4:isI Fol.id q.inn x.fols with
      | false=>
        have hin:inS x q.inn=false:=by unfold inS;rw[h4,decide_eq_false h3];rfl
        rw[posR_end h4] at KD;go_wp2_with fail;rw[← HW1.out];refine wp_region_class (Frm Nix w1) ((fR w1).drew) (by kernel_rfl) (by kernel_rfl) ?_
        repeat (go_big_quiet_step (first
         | (rename_i y;go_at_call 59;refine y.call (KC y) ?_;exact fun w' hf=>y.h.trans hf)
         | (rename_i y;go_at_call 26;refine y.call (KD y) ?_;exact fun w' hf=>y.h.trans hf)
         | fail))
        refine wpQuiet_nil ?_;rintro w5 ⟨⟨_,hfw5⟩,rfl⟩;go_wp2;go_ret
        exact⟨ret_bool (HNo.out (by rw[HPq.out,hin];simp)).symm,HF0.out.trans (HF.out.trans (HF1.out.trans hfw5))⟩
      | true=>
        have hin:inS x q.inn=true:=by unfold inS;rw[h4];simp
        obtain⟨pp,-,hpp,-⟩:=posR_at h4;rw[hpp] at KD;have k5:decide ((pp:Int)<0)=false:=by simp
        go_wp2_with fail;rw[← HW1.out];refine wp_region_class (Frm Nix w1) ((fR w1).drew) (by kernel_rfl) (by kernel_rfl) ?_
        repeat (go_big_quiet_step (first
         | (rename_i y;go_at_call 59;refine y.call (KC y) ?_;exact fun w' hf=>y.h.trans hf)
         | (rename_i y;go_at_call 26;refine y.call (KD y) ?_;exact fun w' hf=>y.h.trans hf)
         | fail))
        refine wpQuiet_nil ?_;rintro w5 ⟨⟨_,hfw5⟩,rfl⟩;have HF5:=h_ hfw5;clear hfw5;go_wp2
        go_loopw [5] (fun jv wv=>∃ j:Nat,j≤k∧jv=.int .i64 j∧(x.fees.take j).any (fun g=>decide (g.url=q.url))=false∧Frm Nix w1 wv) (fun jv _=>k - (intOf jv).toNat)
        case atStart=>exact⟨0,by omega,rfl,by simp,HF5.out⟩
        case round=>
         obtain⟨j,hj,rfl,ht2,hf2⟩:=hrel;have HT2:=h_ ht2;have HF2:=h_ hf2;clear ht2 hf2
         by_cases hjk:j<k
         ·exfalso
          omega
         ·obtain rfl:j=k:=by omega
          have HE:=HT2;go_wp2;go_roundw
          case rel=>exact⟨j+1,by omega,by go_num,HStep.out (by rw[HPq.out,h0,hr,decide_eq_true hle,hin,HE.out];rfl),HF.out.trans (HF1.out.trans HF2.out)⟩
          case measure=>simp[intOf];omega
     obtain⟨i,rfl⟩:∃ i,k=i+1:=⟨k - 1,by omega⟩;have kA:decide ((0:Int)<((i+1:Nat):Int))=true:=by first | (simp;done) | (simp;omega)
     have kA2:decide ((0:Int)<(i:Int)+1)=true:=by first | (simp;done) | (simp;omega)
     have hil:i<x.fees.length:=by omega
     have hr0:=rises_at (g:=Fee.id) (a:=q) (l:=x.fees) (k:=i) (by omega);have zp:=fun y:FW (Frm Nix w1)=>HCell.out y.w (HF1.out.trans y.h) i hil 0 _ rfl
     obtain⟨pr,hpr⟩:∃ pr,x.fees[i]=pr:=⟨_,rfl⟩;rw[hpr] at zp hr0;rw[Nat.add_zero] at zp;clear hpr
     by_cases h2:q.id≤pr.id
     ·have k2:decide (q.id≤pr.id)=true:=decide_eq_true h2
      have hr:risesI Fee.id (x.fees.take (i+1)) q=false:=by rw[hr0];exact decide_eq_false (by omega)
      go_wp2_with fail;rw[← HW1.out];refine wp_region_class (Frm Nix w1) ((fR w1).drew) (by kernel_rfl) (by kernel_rfl) ?_
      repeat (go_big_quiet_step (first
       | (rename_i y;go_at_call 59;refine y.call (KC y) ?_;exact fun w' hf=>y.h.trans hf)
       | (rename_i y;go_at_call 26;refine y.call (KD y) ?_;exact fun w' hf=>y.h.trans hf)
       | fail))
      refine wpQuiet_nil ?_;rintro w5 ⟨⟨_,hfw5⟩,rfl⟩;go_wp2;go_ret;exact⟨ret_bool (HNo.out (by rw[HPq.out,hr];simp)).symm,HF0.out.trans (HF.out.trans (HF1.out.trans hfw5))⟩
     have k2:decide (q.id≤pr.id)=false:=decide_eq_false h2;have hr:risesI Fee.id (x.fees.take (i+1)) q=true:=by rw[hr0];exact decide_eq_true (by omega)
     by_cases h3:q.inn=0
     ·have k3:(q.inn !=0)=false:=by rw[h3];rfl
      have hin:inS x q.inn=true:=by unfold inS;rw[h3];rfl
      clear h3;go_wp2_with fail;rw[← HW1.out];refine wp_region_class (Frm Nix w1) ((fR w1).drew) (by kernel_rfl) (by kernel_rfl) ?_
      repeat (go_big_quiet_step (first
       | (rename_i y;go_at_call 59;refine y.call (KC y) ?_;exact fun w' hf=>y.h.trans hf)
       | (rename_i y;go_at_call 26;refine y.call (KD y) ?_;exact fun w' hf=>y.h.trans hf)
       | fail))
      refine wpQuiet_nil ?_;rintro w5 ⟨⟨_,hfw5⟩,rfl⟩;have HF5:=h_ hfw5;clear hfw5;go_wp2
      go_loopw [5] (fun jv wv=>∃ j:Nat,j≤(i+1)∧jv=.int .i64 j∧(x.fees.take j).any (fun g=>decide (g.url=q.url))=false∧Frm Nix w1 wv) (fun jv _=>(i+1) - (intOf jv).toNat)
      case atStart=>exact⟨0,by omega,rfl,by simp,HF5.out⟩
      case round=>
       obtain⟨j,hj,rfl,ht2,hf2⟩:=hrel;have HT2:=h_ ht2;have HF2:=h_ hf2;clear ht2 hf2
       by_cases hjk:j<(i+1)
       ·have hjl:j<x.fees.length:=by omega
        have hkl:(i+1)≤x.fees.length:=by omega
        have hs1:=fun he=>fst_step (p:=fun g:Fee=>decide (g.url=q.url)) hjl HT2.out (decide_eq_false he)
        have hs2:=fun he=>take_any_ (l:=x.fees) (q:=fun g:Fee=>decide (g.url=q.url)) (k:=j) (i:=(i+1)) hjk hkl (decide_eq_true he)
        have hgc:=fun y:FW (Frm Nix wr)=>HCell.out y.w (HF1.out.trans (HF2.out.trans y.h)) j hjl
        obtain⟨g,hg⟩:∃ g,x.fees[j]=g:=⟨_,rfl⟩;rw[hg] at hs1 hs2 hgc;have HS1:=h_ hs1;have HS2:=h_ hs2;have g0:=fun y:FW (Frm Nix wr)=>hgc y 0 _ rfl
        have g1:=fun y:FW (Frm Nix wr)=>hgc y 1 _ rfl
        have g2:=fun y:FW (Frm Nix wr)=>hgc y 2 _ rfl
        have g3:=fun y:FW (Frm Nix wr)=>hgc y 3 _ rfl
        have y0:=fun y:FW (Frm Nix wr)=>r0 ⟨y.w,HF2.out.trans y.h⟩
        have y1:=fun y:FW (Frm Nix wr)=>r1 ⟨y.w,HF2.out.trans y.h⟩
        have y2:=fun y:FW (Frm Nix wr)=>r2 ⟨y.w,HF2.out.trans y.h⟩
        have y3:=fun y:FW (Frm Nix wr)=>r3 ⟨y.w,HF2.out.trans y.h⟩
        have v0:=fun y:FW (Frm Nix wr)=>z0 ⟨y.w,HF2.out.trans y.h⟩
        have v1:=fun y:FW (Frm Nix wr)=>z1 ⟨y.w,HF2.out.trans y.h⟩
        have v2:=fun y:FW (Frm Nix wr)=>z2 ⟨y.w,HF2.out.trans y.h⟩
        have v3:=fun y:FW (Frm Nix wr)=>z3 ⟨y.w,HF2.out.trans y.h⟩
        have v4:=fun y:FW (Frm Nix wr)=>z4 ⟨y.w,HF2.out.trans y.h⟩
        have v5:=fun y:FW (Frm Nix wr)=>z5 ⟨y.w,HF2.out.trans y.h⟩
        have v6:=fun y:FW (Frm Nix wr)=>z6 ⟨y.w,HF2.out.trans y.h⟩
        have v7:=fun y:FW (Frm Nix wr)=>z7 ⟨y.w,HF2.out.trans y.h⟩
        have v8:=fun y:FW (Frm Nix wr)=>z8 ⟨y.w,HF2.out.trans y.h⟩
        dsimp only at g0 g1 g2 g3 y0 y1 y2 y3 v0 v1 v2 v3 v4 v5 v6 v7 v8;rw[Nat.add_zero] at g0;clear hg hgc hs1 hs2
        by_cases he0:g.url=q.url
        case neg=>
         obtain⟨hq1,hq2⟩:=str_ne he0;go_wp2_with fail;refine wp_region_class (Frm Nix wr) ((fR wr).drew) (by kernel_rfl) (by kernel_rfl) ?_
         repeat (go_big_quiet_step (first
          | fail))
         refine wpQuiet_nil ?_;rintro w7 ⟨⟨_,hfw7⟩,rfl⟩;go_wp2;go_roundw
         case rel=>exact⟨j+1,by omega,by go_num,HS1.out (he0),HF2.out.trans hfw7⟩
         case measure=>simp[intOf];omega
        have hy0:(g.url.toList==q.url.toList)=true:=by rw[he0];simp
        have HE:=h_ (HS2.out he0);go_wp2_with fail;refine wp_region_class (Frm Nix wr) ((fR wr).drew) (by kernel_rfl) (by kernel_rfl) ?_
        repeat (go_big_quiet_step (first
         | fail))
        refine wpQuiet_nil ?_;rintro w7 ⟨⟨_,hfw7⟩,rfl⟩;go_wp2;go_ret;exact⟨ret_bool (HNo.out (by rw[HPq.out,HE.out];simp)).symm,HF0.out.trans (HF.out.trans (HF1.out.trans (HF2.out.trans hfw7)))⟩
       ·(have hji:j=i+1:=(by omega));subst hji
        have HE:=HT2;go_wp2;go_roundw
        case rel=>exact⟨i+1+1,by omega,by go_num,HStep.out (by rw[HPq.out,h0,hr,decide_eq_true hle,hin,HE.out];rfl),HF.out.trans (HF1.out.trans HF2.out)⟩
        case measure=>simp[intOf];omega
     have k3:(q.inn !=0)=true:=by simp[h3]
     cases h4:isI Fol.id q.inn x.fols with
     | false=>
       have hin:inS x q.inn=false:=by unfold inS;rw[h4,decide_eq_false h3];rfl
       rw[posR_end h4] at KD;go_wp2_with fail;rw[← HW1.out];refine wp_region_class (Frm Nix w1) ((fR w1).drew) (by kernel_rfl) (by kernel_rfl) ?_
       repeat (go_big_quiet_step (first
        | (rename_i y;go_at_call 59;refine y.call (KC y) ?_;exact fun w' hf=>y.h.trans hf)
        | (rename_i y;go_at_call 26;refine y.call (KD y) ?_;exact fun w' hf=>y.h.trans hf)
        | fail))
       refine wpQuiet_nil ?_;rintro w5 ⟨⟨_,hfw5⟩,rfl⟩;go_wp2;go_ret
       exact⟨ret_bool (HNo.out (by rw[HPq.out,hin];simp)).symm,HF0.out.trans (HF.out.trans (HF1.out.trans hfw5))⟩
     | true=>
       have hin:inS x q.inn=true:=by unfold inS;rw[h4];simp
       obtain⟨pp,-,hpp,-⟩:=posR_at h4;rw[hpp] at KD;have k5:decide ((pp:Int)<0)=false:=by simp
       go_wp2_with fail;rw[← HW1.out];refine wp_region_class (Frm Nix w1) ((fR w1).drew) (by kernel_rfl) (by kernel_rfl) ?_
       repeat (go_big_quiet_step (first
        | (rename_i y;go_at_call 59;refine y.call (KC y) ?_;exact fun w' hf=>y.h.trans hf)
        | (rename_i y;go_at_call 26;refine y.call (KD y) ?_;exact fun w' hf=>y.h.trans hf)
        | fail))
       refine wpQuiet_nil ?_;rintro w5 ⟨⟨_,hfw5⟩,rfl⟩;have HF5:=h_ hfw5;clear hfw5;go_wp2
       go_loopw [5] (fun jv wv=>∃ j:Nat,j≤(i+1)∧jv=.int .i64 j∧(x.fees.take j).any (fun g=>decide (g.url=q.url))=false∧Frm Nix w1 wv) (fun jv _=>(i+1) - (intOf jv).toNat)
       case atStart=>exact⟨0,by omega,rfl,by simp,HF5.out⟩
       case round=>
        obtain⟨j,hj,rfl,ht2,hf2⟩:=hrel;have HT2:=h_ ht2;have HF2:=h_ hf2;clear ht2 hf2
        by_cases hjk:j<(i+1)
        ·have hjl:j<x.fees.length:=by omega
         have hkl:(i+1)≤x.fees.length:=by omega
         have hs1:=fun he=>fst_step (p:=fun g:Fee=>decide (g.url=q.url)) hjl HT2.out (decide_eq_false he)
         have hs2:=fun he=>take_any_ (l:=x.fees) (q:=fun g:Fee=>decide (g.url=q.url)) (k:=j) (i:=(i+1)) hjk hkl (decide_eq_true he)
         have hgc:=fun y:FW (Frm Nix wr)=>HCell.out y.w (HF1.out.trans (HF2.out.trans y.h)) j hjl
         obtain⟨g,hg⟩:∃ g,x.fees[j]=g:=⟨_,rfl⟩;rw[hg] at hs1 hs2 hgc;have HS1:=h_ hs1;have HS2:=h_ hs2;have g0:=fun y:FW (Frm Nix wr)=>hgc y 0 _ rfl
         have g1:=fun y:FW (Frm Nix wr)=>hgc y 1 _ rfl
         have g2:=fun y:FW (Frm Nix wr)=>hgc y 2 _ rfl
         have g3:=fun y:FW (Frm Nix wr)=>hgc y 3 _ rfl
         have y0:=fun y:FW (Frm Nix wr)=>r0 ⟨y.w,HF2.out.trans y.h⟩
         have y1:=fun y:FW (Frm Nix wr)=>r1 ⟨y.w,HF2.out.trans y.h⟩
         have y2:=fun y:FW (Frm Nix wr)=>r2 ⟨y.w,HF2.out.trans y.h⟩
         have y3:=fun y:FW (Frm Nix wr)=>r3 ⟨y.w,HF2.out.trans y.h⟩
         have v0:=fun y:FW (Frm Nix wr)=>z0 ⟨y.w,HF2.out.trans y.h⟩
         have v1:=fun y:FW (Frm Nix wr)=>z1 ⟨y.w,HF2.out.trans y.h⟩
         have v2:=fun y:FW (Frm Nix wr)=>z2 ⟨y.w,HF2.out.trans y.h⟩
         have v3:=fun y:FW (Frm Nix wr)=>z3 ⟨y.w,HF2.out.trans y.h⟩
         have v4:=fun y:FW (Frm Nix wr)=>z4 ⟨y.w,HF2.out.trans y.h⟩
         have v5:=fun y:FW (Frm Nix wr)=>z5 ⟨y.w,HF2.out.trans y.h⟩
         have v6:=fun y:FW (Frm Nix wr)=>z6 ⟨y.w,HF2.out.trans y.h⟩
         have v7:=fun y:FW (Frm Nix wr)=>z7 ⟨y.w,HF2.out.trans y.h⟩
         have v8:=fun y:FW (Frm Nix wr)=>z8 ⟨y.w,HF2.out.trans y.h⟩
         dsimp only at g0 g1 g2 g3 y0 y1 y2 y3 v0 v1 v2 v3 v4 v5 v6 v7 v8;rw[Nat.add_zero] at g0;clear hg hgc hs1 hs2
         by_cases he0:g.url=q.url
         case neg=>
          obtain⟨hq1,hq2⟩:=str_ne he0;go_wp2_with fail;refine wp_region_class (Frm Nix wr) ((fR wr).drew) (by kernel_rfl) (by kernel_rfl) ?_
          repeat (go_big_quiet_step (first
           | fail))
          refine wpQuiet_nil ?_;rintro w7 ⟨⟨_,hfw7⟩,rfl⟩;go_wp2;go_roundw
          case rel=>exact⟨j+1,by omega,by go_num,HS1.out (he0),HF2.out.trans hfw7⟩
          case measure=>simp[intOf];omega
         have hy0:(g.url.toList==q.url.toList)=true:=by rw[he0];simp
         have HE:=h_ (HS2.out he0);go_wp2_with fail;refine wp_region_class (Frm Nix wr) ((fR wr).drew) (by kernel_rfl) (by kernel_rfl) ?_
         repeat (go_big_quiet_step (first
          | fail))
         refine wpQuiet_nil ?_;rintro w7 ⟨⟨_,hfw7⟩,rfl⟩;go_wp2;go_ret;exact⟨ret_bool (HNo.out (by rw[HPq.out,HE.out];simp)).symm,HF0.out.trans (HF.out.trans (HF1.out.trans (HF2.out.trans hfw7)))⟩
        ·(have hji:j=i+1:=(by omega));subst hji
         have HE:=HT2;go_wp2;go_roundw
         case rel=>exact⟨i+1+1,by omega,by go_num,HStep.out (by rw[HPq.out,h0,hr,decide_eq_true hle,hin,HE.out];rfl),HF.out.trans (HF1.out.trans HF2.out)⟩
         case measure=>simp[intOf];omega
  ·obtain rfl:k=x.fees.length:=by omega
   have HAll:Hid (allG P [] x.fees=true):=allG_yes fun j hj h=>HT.out j hj h
   have HOk:=h_ (HYes0.out HAll.out);go_wp2;simp only[peel,bodyOf,Tryz.f61]
   by_cases a1:x.fees.length≤64
   case neg=>
    have a2:¬(x.fees.length:Int)≤64:=by omega
    go_wp2;go_ret;exact⟨ret_bool (by rw[HOk.out,decide_eq_false a1];rfl),HF0.out.trans HF.out⟩
   have a2:(x.fees.length:Int)≤64:=by omega
   by_cases b1:0≤x.tFee
   case neg=>
    go_wp2;go_ret;exact⟨ret_bool (by rw[HOk.out,decide_eq_false (show ¬(0≤x.tFee∧x.tFee≤1048576) by omega)];simp),HF0.out.trans HF.out⟩
   by_cases b2:x.tFee≤1048576
   case neg=>
    go_wp2;go_ret;exact⟨ret_bool (by rw[HOk.out,decide_eq_false (show ¬(0≤x.tFee∧x.tFee≤1048576) by omega)];simp),HF0.out.trans HF.out⟩
   go_wp2;go_ret;exact⟨ret_bool (by rw[HOk.out,decide_eq_true a1,decide_eq_true (show (0≤x.tFee∧x.tFee≤1048576) by omega)];rfl),HF0.out.trans HF.out⟩
end Go.Proofs.YtlafbakoefcifaaGreat
