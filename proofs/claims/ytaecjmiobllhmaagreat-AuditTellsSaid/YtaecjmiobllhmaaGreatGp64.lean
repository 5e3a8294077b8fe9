/- Words. -/
import Derived.Test.YtaecjmiobllhmaaGreatGp63
import Derived.Deep.RegionHeld3
import Derived.Test.YtaecjmiobllhmaaGreatGp62
import Derived.Test.YtaecjmiobllhmaaGreatGp05
set_option linter.unusedVariables false
set_option linter.unusedSimpArgs false
set_option maxRecDepth 100000
set_option maxHeartbeats 16000000
namespace Go.Proofs.YtaecjmiobllhmaaGreat
open Go.RowKit Go.Lib
theorem RF3_10{w wc:World}{b1 b2:Nat}{fo fe it se:Sl}{ts:List (Sl×Itm)}{x:St}{G:Nat→Prop}{a b n:Int}{s t u:ByteArray}(h:RefAt w wc b1 b2 fo fe it se ts x G ⟨10,a,b,n,s,t,u⟩)(ho:evOk ⟨10,a,b,n,s,t,u⟩=true){v:Nat→Value}:
  Code.wp Tryz.prog (peel 3 (bodyOf Tryz.f30)) (bodyPost Tryz.prog Tryz.f30 λe w'=>e=.returned (.bool (fits x ⟨10,a,b,n,s,t,u⟩))∧Frm Nix w w') (fitsAct b1 b2 (inS x b) v) wc:=by
 unfold fitsAct
 have HE:Hid (fits x ⟨10,a,b,n,s,t,u⟩=match atI Itm.id a x.itms with | none=>false | some t=>decide (n=0)||t.tags.any (λy=>y=s)||decide (t.tags.length<8)):=by
  unfold Hid fits;rw[ho];simp
  cases atI Itm.id a x.itms<;>rfl
 have HR0:=h_ h;have KI:Hid (∀W,RefAt w W b1 b2 fo fe it se ts x G ⟨10,a,b,n,s,t,u⟩→Calls Tryz.prog 34 #[stV fo fe it se x,.int .i64 a] W λe w'=>e=.returned (.int .i64 (posR Itm.id a x.itms))∧RefAt w w' b1 b2 fo fe it se ts x G ⟨10,a,b,n,s,t,u⟩∧Frm Nix W w'):=λW hW=>(rItem_any hW.st hW.small a).mono λe w' q=>⟨q.1,hW.nix q.2,q.2⟩
 obtain⟨x0,x1,x2,x3,x4,x5,x6,x7,x8⟩:=blk9 (HR0.out.b1);obtain⟨e0,e1,e2,e3,e4,e5,e6⟩:=blk7 (HR0.out.b2);clear h ho;simp only[peel,bodyOf,Tryz.f30]
 cases hc:isI Itm.id a x.itms with
 | false=>
   have hat:atI Itm.id a x.itms=none:=by
    have:=@atI_isI Itm Itm.id a x.itms;rw[hc] at this
    cases ha:atI Itm.id a x.itms with
    | none=>rfl
    | some f=>rw[ha] at this;cases this
   rw[hat] at HE;rw[posR_end hc] at KI;have HMk:Hid (∀W,Frm Nix wc W→Frm Nix wc W):=λW hW=>hW
   clear hc hat;go_wp2_with (go_at_call 34;refine(KI.out _ HR0.out).mono ?_;rintro e w1 ⟨rfl,hr,-⟩;have HR1:=h_ hr;clear x0 x1 x2 x3 x4 x5 x6 x7 x8 e0 e1 e2 e3 e4 e5 e6;obtain⟨x0,x1,x2,x3,x4,x5,x6,x7,x8⟩:=blk9 (HR1.out.b1);obtain⟨e0,e1,e2,e3,e4,e5,e6⟩:=blk7 (HR1.out.b2);clear hr);go_quiet (fail);go_wp2;go_ret
   exact⟨by rw[HE.out]<;>rfl,HR1.out.frm.drewN _⟩
 | true=>
   obtain⟨p,hpl,hp,-,hat,-⟩:=posR_at hc;rw[hp] at KI;rw[hat] at HE;have hp0:(0:Int)≤(p:Int):=by omega
   obtain⟨A,c⟩:=it;dsimp only at x3 KI HR0;obtain⟨hkt,het⟩:=itms_at HR0.out.st hpl;obtain⟨bk,off,hA,-,hbl,hcell⟩:=HR0.out.st.itms.row.at_ itmC_len (by decide) (by omega);dsimp only at hA;subst hA;have htg:=HR0.out.st.itms.tags _ (List.getElem_mem hkt);have hc9:=hcell p hkt;have hsm:=HR0.out.small.tags _ (List.getElem_mem hpl);obtain⟨tp,htp⟩:∃tp,ts[p]'hkt=tp:=⟨_,rfl⟩;rw[htp] at hc9 het htg;rw[←het] at HE hsm;have hcx:wc.cell? ⟨bk,off+p * 9+8,none⟩=some (.slice tp.1.1 tp.2.tags.length tp.1.2):=hc9 8 _ rfl;have hcx0:wc.cell? ⟨bk,off+p * 9,none⟩=some (.int .i64 tp.2.id):=hc9 0 _ rfl;have KT:Hid (∀W,Frm Nix wc W→Calls Tryz.prog 78 #[.slice tp.1.1 tp.2.tags.length tp.1.2,.string s] W λe w'=>e=.returned (.bool (tp.2.tags.any λy=>decide (y=s)))∧Frm Nix wc w'∧Frm Nix W w'):=λW hW=>(rTagged_any tp.2.tags (htg.nix hW) (by omega) s).mono λe w' q=>⟨q.1,hW.trans q.2,q.2⟩
   have hIl:=HR0.out.small.itms;clear hcell hc9 htp het hat hp hc htg;obtain⟨tv,htv⟩:∃tv:Sl,tp.1=tv:=⟨_,rfl⟩;obtain⟨tb,htb⟩:∃tb:Bool,(tp.2.tags.any λy=>decide (y=s))=tb:=⟨_,rfl⟩;obtain⟨tl,htl⟩:∃tl:Nat,tp.2.tags.length=tl:=⟨_,rfl⟩;rw[htv,htb,htl] at KT;rw[htv,htl] at hcx;simp only[htb,htl] at HE;rw[htl] at hsm;clear htv htb htl;have HCX:=h_ (And.intro hcx (And.intro hcx0 hbl));have kp:decide ((0:Int)≤(p:Int))=true:=by simp
   go_wp2_with (go_at_call 34;refine(KI.out _ HR0.out).mono ?_;rintro e w1 ⟨rfl,hr,hf1⟩;have HR1:=h_ hr;have HF1:=h_ hf1;clear x0 x1 x2 x3 x4 x5 x6 x7 x8 e0 e1 e2 e3 e4 e5 e6;obtain⟨x0,x1,x2,x3,x4,x5,x6,x7,x8⟩:=blk9 (HR1.out.b1);obtain⟨e0,e1,e2,e3,e4,e5,e6⟩:=blk7 (HR1.out.b2);clear hr hf1);have zz:=λy:FW (Frm Nix w1)=>blk9 (HR1.out.b1.frm y.h id)
   have q0:=λy=>(zz y).1
   have q3:=λy=>(zz y).2.2.2.1
   have ee:=λy:FW (Frm Nix w1)=>blk7 (HR1.out.b2.frm y.h id)
   have g0:=λy=>(ee y).1
   have g3:=λy=>(ee y).2.2.2.1
   have g4:=λy=>(ee y).2.2.2.2.1
   have i8:=λy:FW (Frm Nix w1)=>((HF1.out.trans y.h).cell (p:=⟨bk,off+p * 9+8,none⟩) HCX.out.2.2 id).trans HCX.out.1
   have i0:=λy:FW (Frm Nix w1)=>((HF1.out.trans y.h).cell (p:=⟨bk,off+p * 9,none⟩) HCX.out.2.2 id).trans HCX.out.2.1
   have KT2:=λy:FW (Frm Nix w1)=>(show Calls Tryz.prog 78 #[.slice tv.1 tl tv.2,.string s] y.w λe w'=>e=.returned (.bool tb)∧Frm Nix y.w w' from (KT.out y.w (HF1.out.trans y.h)).mono λe w' q=>⟨q.1,q.2.2⟩)
   clear zz ee hcx hcx0
   by_cases h0:n=0
   ·have kb:(n==0)=true:=by rw[h0];rfl
    have HY:Hid (fits x ⟨10,a,b,n,s,t,u⟩=true):=by unfold Hid;rw[HE.out,decide_eq_true h0];rfl
    clear h0;go_wp2_with fail;refine wp_region_class (Frm Nix w1) ((fR w1).drew) (by kernel_rfl) (by kernel_rfl) ?_
    repeat (go_big_quiet_step (first
     | (rename_i y;go_at_call 78;refine y.call (KT2 y) ?_;exact λw' hf=>y.h.trans hf)
     | fail))
    refine wpQuiet_nil ?_;rintro w2 ⟨⟨_,hfw2⟩,rfl⟩;go_wp2;go_ret;exact⟨ret_bool HY.out.symm,HR1.out.frm.trans hfw2⟩
   have kb:(n==0)=false:=by simp[h0]
   rw[decide_eq_false h0] at HE
   cases tb with
   | true=>
     go_wp2_with fail;refine wp_region_class (Frm Nix w1) ((fR w1).drew) (by kernel_rfl) (by kernel_rfl) ?_
     repeat (go_big_quiet_step (first
      | (rename_i y;go_at_call 78;refine y.call (KT2 y) ?_;exact λw' hf=>y.h.trans hf)
      | fail))
     refine wpQuiet_nil ?_;rintro w2 ⟨⟨_,hfw2⟩,rfl⟩;go_wp2;go_ret
     exact⟨ret_bool (by rw[HE.out];rfl),HR1.out.frm.trans hfw2⟩
   | false=>
     by_cases h8:tl<8
     ·have k8:decide ((tl:Int)<8)=true:=by simp;omega
      rw[decide_eq_true h8] at HE;go_wp2_with fail;refine wp_region_class (Frm Nix w1) ((fR w1).drew) (by kernel_rfl) (by kernel_rfl) ?_
      repeat (go_big_quiet_step (first
       | (rename_i y;go_at_call 78;refine y.call (KT2 y) ?_;exact λw' hf=>y.h.trans hf)
       | fail))
      refine wpQuiet_nil ?_;rintro w2 ⟨⟨_,hfw2⟩,rfl⟩;go_wp2;go_ret;exact⟨ret_bool (by rw[HE.out]<;>first | rfl | (simp;done) | (simp;omega)),HR1.out.frm.trans hfw2⟩
     ·have k8:decide ((tl:Int)<8)=false:=by simp;omega
      rw[decide_eq_false h8] at HE;go_wp2_with fail;refine wp_region_class (Frm Nix w1) ((fR w1).drew) (by kernel_rfl) (by kernel_rfl) ?_
      repeat (go_big_quiet_step (first
       | (rename_i y;go_at_call 78;refine y.call (KT2 y) ?_;exact λw' hf=>y.h.trans hf)
       | fail))
      refine wpQuiet_nil ?_;rintro w2 ⟨⟨_,hfw2⟩,rfl⟩;go_wp2;go_ret;exact⟨ret_bool (by rw[HE.out]<;>first | rfl | (simp;done) | (simp;omega)),HR1.out.frm.trans hfw2⟩
theorem RF2{w wc:World}{b1 b2:Nat}{fo fe it se:Sl}{ts:List (Sl×Itm)}{x:St}{G:Nat→Prop}{k a b n:Int}{s t u:ByteArray}(h:RefAt w wc b1 b2 fo fe it se ts x G ⟨k,a,b,n,s,t,u⟩)(ho:evOk ⟨k,a,b,n,s,t,u⟩=true){u0 u1 u4 u5 u6 u7 u8 u9 u10 u11 u12 u13 u14 u15 u16 u17 u18 u19 u20 u21 u22 u23 u24 u25 u26 u27 u28 u29 u30 u31 u32 u33 u34 u35 u36 u37 u38 u39 u40 u41 u42 u43 u44 u45 u46 u47 u48 u49 u50 u51 u52 u53 u54 u55 u56 u57 u58 u59 u60 u61 u62 u63 u64 u65 u66 u67 u68 u69 u70 u71 u72 u73 u74 u75 u76 u77 u78 u79 u80 u81 u82 u83 u84 u85 u86 u87 u88 u89 u90 u91 u92 u93 u94 u95 u96 u97 u98 u99 u100 u101 u102 u103 u104 u105 u106 u107 u108 u109 u110 u111 u112 u113 u114 u115 u116 u117 u118 u119 u120 u121 u122 u123 u124 u125 u126 u127 u128 u129 u130 u131 u132 u133 u134 u135 u136 u137 u138 u139 u140 u141 u142 u143 u144 u145 u146 u147 u148 u149 u150 u151 u152 u153 u154 u155 u156 u157 u158 u159 u160 u161 u162 u163 u164 u165 u166 u167 u168 u169 u170 u171 u172 u173 u174 u175 u176 u177 u178 u179 u180 u181 u182 u183 u184 u185 u186 u187 u188 u189 u190 u191 u192 u193 u194 u195 u196 u197 u198 u199 u200 u201 u202 u203:Value}:
  Code.wp Tryz.prog (peel 2 (bodyOf Tryz.f30)) (bodyPost Tryz.prog Tryz.f30 λe w'=>e=.returned (.bool (fits x ⟨k,a,b,n,s,t,u⟩))∧Frm Nix w w') ⟨#[u0,u1,.pointer (some ⟨b1,0,none⟩),.pointer (some ⟨b2,0,none⟩),u4,u5,u6,u7,u8,u9,u10,u11,u12,u13,u14,u15,u16,u17,u18,u19,u20,u21,u22,u23,u24,u25,u26,u27,u28,u29,u30,u31,u32,u33,u34,u35,u36,u37,u38,u39,u40,u41,u42,u43,u44,u45,u46,u47,u48,u49,u50,u51,u52,u53,u54,u55,u56,u57,u58,u59,u60,u61,u62,u63,u64,u65,u66,u67,u68,u69,u70,u71,u72,u73,u74,u75,u76,u77,u78,u79,u80,u81,u82,u83,u84,u85,u86,u87,u88,u89,u90,u91,u92,u93,u94,u95,u96,u97,u98,u99,u100,u101,u102,u103,u104,u105,u106,u107,u108,u109,u110,u111,u112,u113,u114,u115,u116,u117,u118,u119,u120,u121,u122,u123,u124,u125,u126,u127,u128,u129,u130,u131,u132,u133,u134,u135,u136,u137,u138,u139,u140,u141,u142,u143,u144,u145,u146,u147,u148,u149,u150,u151,u152,u153,u154,u155,u156,u157,u158,u159,u160,u161,u162,u163,u164,u165,u166,u167,u168,u169,u170,u171,u172,u173,u174,u175,u176,u177,u178,u179,u180,u181,u182,u183,u184,u185,u186,u187,u188,u189,u190,u191,u192,u193,u194,u195,u196,u197,u198,u199,u200,u201,u202,u203],[]⟩ wc:=by
 have HO:=h_ ho;have HR0:=h_ h;have K0:Hid (∀W,RefAt w W b1 b2 fo fe it se ts x G ⟨k,a,b,n,s,t,u⟩→Calls Tryz.prog 72 #[stV fo fe it se x,.int .i64 b] W λe w'=>e=.returned (.int .i64 (posR Fol.id b x.fols))∧RefAt w w' b1 b2 fo fe it se ts x G ⟨k,a,b,n,s,t,u⟩):=λW hW=>(rFolder_any hW.st hW.small b).mono λe w' q=>⟨q.1,hW.nix q.2⟩
 have fin0:Hid (∀(W:World) (bb:Bool),bb=inS x b→∀{v:Nat→Value},RefAt w W b1 b2 fo fe it se ts x G ⟨k,a,b,n,s,t,u⟩→Code.wp Tryz.prog (peel 3 (bodyOf Tryz.f30)) (bodyPost Tryz.prog Tryz.f30 λe w'=>e=.returned (.bool (fits x ⟨k,a,b,n,s,t,u⟩))∧Frm Nix w w') (fitsAct b1 b2 bb v) W):=by
  intro W bb hbb;subst hbb;intros;have hk:=evKind ho;dsimp only at hk;rename_i hW;rcases hk with rfl | rfl | rfl | rfl | rfl | rfl | rfl | rfl | rfl | rfl | rfl | rfl | rfl
  ·exact RF3_1 hW ho
  ·exact RF3_2 hW ho
  ·exact RF3_3 hW ho
  ·exact RF3_4 hW ho
  ·exact RF3_5 hW ho
  ·exact RF3_6 hW ho
  ·exact RF3_7 hW ho
  ·exact RF3_8 hW ho
  ·exact RF3_9 hW ho
  ·exact RF3_10 hW ho
  ·exact RF3_11 hW ho
  ·exact RF3_12 hW ho
  ·exact RF3_13 hW ho
 have fin:Hid (∀(W:World) (bb:Bool),bb=inS x b→∀{u0 u1 u4 u6 u7 u8 u9 u10 u11 u12 u13 u14 u15 u16 u17 u18 u19 u20 u21 u22 u23 u24 u25 u26 u27 u28 u29 u30 u31 u32 u33 u34 u35 u36 u37 u38 u39 u40 u41 u42 u43 u44 u45 u46 u47 u48 u49 u50 u51 u52 u53 u54 u55 u56 u57 u58 u59 u60 u61 u62 u63 u64 u65 u66 u67 u68 u69 u70 u71 u72 u73 u74 u75 u76 u77 u78 u79 u80 u81 u82 u83 u84 u85 u86 u87 u88 u89 u90 u91 u92 u93 u94 u95 u96 u97 u98 u99 u100 u101 u102 u103 u104 u105 u106 u107 u108 u109 u110 u111 u112 u113 u114 u115 u116 u117 u118 u119 u120 u121 u122 u123 u124 u125 u126 u127 u128 u129 u130 u131 u132 u133 u134 u135 u136 u137 u138 u139 u140 u141 u142 u143 u144 u145 u146 u147 u148 u149 u150 u151 u152 u153 u154 u155 u156 u157 u158 u159 u160 u161 u162 u163 u164 u165 u166 u167 u168 u169 u170 u171 u172 u173 u174 u175 u176 u177 u178 u179 u180 u181 u182 u183 u184 u185 u186 u187 u188 u189 u190 u191 u192 u193 u194 u195 u196 u197 u198 u199 u200 u201 u202 u203:Value},RefAt w W b1 b2 fo fe it se ts x G ⟨k,a,b,n,s,t,u⟩→Code.wp Tryz.prog (peel 3 (bodyOf Tryz.f30)) (bodyPost Tryz.prog Tryz.f30 λe w'=>e=.returned (.bool (fits x ⟨k,a,b,n,s,t,u⟩))∧Frm Nix w w') ⟨#[u0,u1,.pointer (some ⟨b1,0,none⟩),.pointer (some ⟨b2,0,none⟩),u4,.bool bb,u6,u7,u8,u9,u10,u11,u12,u13,u14,u15,u16,u17,u18,u19,u20,u21,u22,u23,u24,u25,u26,u27,u28,u29,u30,u31,u32,u33,u34,u35,u36,u37,u38,u39,u40,u41,u42,u43,u44,u45,u46,u47,u48,u49,u50,u51,u52,u53,u54,u55,u56,u57,u58,u59,u60,u61,u62,u63,u64,u65,u66,u67,u68,u69,u70,u71,u72,u73,u74,u75,u76,u77,u78,u79,u80,u81,u82,u83,u84,u85,u86,u87,u88,u89,u90,u91,u92,u93,u94,u95,u96,u97,u98,u99,u100,u101,u102,u103,u104,u105,u106,u107,u108,u109,u110,u111,u112,u113,u114,u115,u116,u117,u118,u119,u120,u121,u122,u123,u124,u125,u126,u127,u128,u129,u130,u131,u132,u133,u134,u135,u136,u137,u138,u139,u140,u141,u142,u143,u144,u145,u146,u147,u148,u149,u150,u151,u152,u153,u154,u155,u156,u157,u158,u159,u160,u161,u162,u163,u164,u165,u166,u167,u168,u169,u170,u171,u172,u173,u174,u175,u176,u177,u178,u179,u180,u181,u182,u183,u184,u185,u186,u187,u188,u189,u190,u191,u192,u193,u194,u195,u196,u197,u198,u199,u200,u201,u202,u203],[]⟩ W):=by
  intro W bb hbb u0 u1 u4 u6 u7 u8 u9 u10 u11 u12 u13 u14 u15 u16 u17 u18 u19 u20 u21 u22 u23 u24 u25 u26 u27 u28 u29 u30 u31 u32 u33 u34 u35 u36 u37 u38 u39 u40 u41 u42 u43 u44 u45 u46 u47 u48 u49 u50 u51 u52 u53 u54 u55 u56 u57 u58 u59 u60 u61 u62 u63 u64 u65 u66 u67 u68 u69 u70 u71 u72 u73 u74 u75 u76 u77 u78 u79 u80 u81 u82 u83 u84 u85 u86 u87 u88 u89 u90 u91 u92 u93 u94 u95 u96 u97 u98 u99 u100 u101 u102 u103 u104 u105 u106 u107 u108 u109 u110 u111 u112 u113 u114 u115 u116 u117 u118 u119 u120 u121 u122 u123 u124 u125 u126 u127 u128 u129 u130 u131 u132 u133 u134 u135 u136 u137 u138 u139 u140 u141 u142 u143 u144 u145 u146 u147 u148 u149 u150 u151 u152 u153 u154 u155 u156 u157 u158 u159 u160 u161 u162 u163 u164 u165 u166 u167 u168 u169 u170 u171 u172 u173 u174 u175 u176 u177 u178 u179 u180 u181 u182 u183 u184 u185 u186 u187 u188 u189 u190 u191 u192 u193 u194 u195 u196 u197 u198 u199 u200 u201 u202 u203 hW;exact fin0.out W bb hbb (v:=λn=>[u0,u1,undef,undef,u4,undef,u6,u7,u8,u9,u10,u11,u12,u13,u14,u15,u16,u17,u18,u19,u20,u21,u22,u23,u24,u25,u26,u27,u28,u29,u30,u31,u32,u33,u34,u35,u36,u37,u38,u39,u40,u41,u42,u43,u44,u45,u46,u47,u48,u49,u50,u51,u52,u53,u54,u55,u56,u57,u58,u59,u60,u61,u62,u63,u64,u65,u66,u67,u68,u69,u70,u71,u72,u73,u74,u75,u76,u77,u78,u79,u80,u81,u82,u83,u84,u85,u86,u87,u88,u89,u90,u91,u92,u93,u94,u95,u96,u97,u98,u99,u100,u101,u102,u103,u104,u105,u106,u107,u108,u109,u110,u111,u112,u113,u114,u115,u116,u117,u118,u119,u120,u121,u122,u123,u124,u125,u126,u127,u128,u129,u130,u131,u132,u133,u134,u135,u136,u137,u138,u139,u140,u141,u142,u143,u144,u145,u146,u147,u148,u149,u150,u151,u152,u153,u154,u155,u156,u157,u158,u159,u160,u161,u162,u163,u164,u165,u166,u167,u168,u169,u170,u171,u172,u173,u174,u175,u176,u177,u178,u179,u180,u181,u182,u183,u184,u185,u186,u187,u188,u189,u190,u191,u192,u193,u194,u195,u196,u197,u198,u199,u200,u201,u202,u203].getD n undef) hW
 clear fin0;obtain⟨x0,x1,x2,x3,x4,x5,x6,x7,x8⟩:=blk9 (HR0.out.b1);obtain⟨e0,e1,e2,e3,e4,e5,e6⟩:=blk7 (HR0.out.b2);clear h ho;refine peelK (k':=3) λK hK=>?_
 conv in hdC _=>whnf
 by_cases h0:b=0
 ·have Hin:Hid (true=inS x b):=by unfold Hid;rw[h0];rfl
  subst h0;go_wp2;exact fin.out _ _ Hin.out HR0.out
 ·have hb0:(b==0)=false:=by simp[h0]
  cases hc:isI Fol.id b x.fols with
  | true=>
    obtain⟨p,-,hp,-⟩:=posR_at hc;have Hin:Hid (true=inS x b):=by unfold Hid inS;rw[hc];simp
    rw[hp] at K0;have hp0:(0:Int)≤(p:Int):=by omega
    clear hc hp;go_wp2_with (go_at_call 72;refine(K0.out _ HR0.out).mono ?_;rintro e w1 ⟨rfl,hr⟩;have HR1:=h_ hr;clear hr)
    exact fin.out _ _ Hin.out HR1.out
  | false=>
    have Hin:Hid (false=inS x b):=by unfold Hid inS;rw[hc,decide_eq_false h0];rfl
    rw[posR_end hc] at K0;clear hc;go_wp2_with (go_at_call 72;refine(K0.out _ HR0.out).mono ?_;rintro e w1 ⟨rfl,hr⟩;have HR1:=h_ hr;clear hr);exact fin.out _ _ Hin.out HR1.out
theorem box_se(w:World)(fo fe it se:Sl)(x:St)(e:Ev):∃w0,w0=(w.alloc (.cells #[.int .i64 x.clock,.slice fo.1 x.fols.length fo.2,.slice fe.1 x.fees.length fe.2,.slice it.1 x.itms.length it.2,.slice se.1 x.seas.length se.2,.int .i64 x.tFol,.int .i64 x.tFee,.int .i64 x.tItm,.int .i64 x.tSea] 36)).alloc (.cells #[.int .i64 e.kind,.int .i64 e.a,.int .i64 e.b,.int .i64 e.n,.string e.s,.string e.t,.string e.u] 42)∧Frm Nix w w0∧Blk w0 w.heap.size 36 #[.int .i64 x.clock,.slice fo.1 x.fols.length fo.2,.slice fe.1 x.fees.length fe.2,.slice it.1 x.itms.length it.2,.slice se.1 x.seas.length se.2,.int .i64 x.tFol,.int .i64 x.tFee,.int .i64 x.tItm,.int .i64 x.tSea]∧Blk w0 (w.heap.size+1) 42 #[.int .i64 e.kind,.int .i64 e.a,.int .i64 e.b,.int .i64 e.n,.string e.s,.string e.t,.string e.u]:=by
 refine⟨_,rfl,((fR w).alloc _).alloc _,(Blk.new w _ _).frm ((fR _).alloc _) id,?_⟩;have:=Blk.new (w.alloc (.cells #[.int .i64 x.clock,.slice fo.1 x.fols.length fo.2,.slice fe.1 x.fees.length fe.2,.slice it.1 x.itms.length it.2,.slice se.1 x.seas.length se.2,.int .i64 x.tFol,.int .i64 x.tFee,.int .i64 x.tItm,.int .i64 x.tSea] 36)) 42 #[.int .i64 e.kind,.int .i64 e.a,.int .i64 e.b,.int .i64 e.n,.string e.s,.string e.t,.string e.u]
 simpa using this
theorem rFits_any{w:World}{fo fe it se:Sl}{ts:List (Sl×Itm)}{x:St}{G:Nat→Prop}(hS:StIn w G fo fe it se ts x)(hsm:StSmall x)(e:Ev):
  Calls Tryz.prog 30 #[stV fo fe it se x,evV e] w λr w'=>r=.returned (.bool (fits x e))∧Frm Nix w w':=by
 obtain⟨w0,hw0,hf0,hb1,hb2⟩:=box_se w fo fe it se x e;have HR:Hid (RefAt w w0 w.heap.size (w.heap.size+1) fo fe it se ts x G e):=⟨hS.nix hf0,hsm,hf0,hb1,hb2⟩;obtain⟨k,a,b,n,s,t,u⟩:=e;have HW:=h_ hw0;have KC:Hid (Calls Tryz.prog 71 #[.agg #[.int .i64 k,.int .i64 a,.int .i64 b,.int .i64 n,.string s,.string t,.string u]] w0 λr w'=>r=.returned (.bool (evOk ⟨k,a,b,n,s,t,u⟩))∧Frm Nix w0 w'):=rCheck_any ⟨k,a,b,n,s,t,u⟩ w0;obtain⟨e0,e1,e2,e3,e4,e5,e6⟩:=blk7 hb2;rw[hw0] at e0 e1 e2 e3 e4 e5 e6;clear hS hsm hf0 hb1 hb2 hw0;unfold stV evV;dsimp only at *
 cases ho:evOk ⟨k,a,b,n,s,t,u⟩ with
 | false=>
   rw[ho] at KC;have HE:Hid (fits x ⟨k,a,b,n,s,t,u⟩=false):=by unfold Hid fits;rw[ho];rfl
   clear ho;go_enter Tryz.func30,Tryz.ntmps30;go_wp2_with (go_at_call 71;rw[←HW.out];refine KC.out.mono ?_;rintro r w1 ⟨rfl,hf⟩;have Z1:=h_ hf;clear hf);go_ret
   exact⟨by rw[HE.out]<;>rfl,HR.out.frm.trans Z1.out⟩
 | true=>
   rw[ho] at KC;have HO:=h_ ho;clear ho;go_enter Tryz.func30,Tryz.ntmps30;show Code.wp Tryz.prog (peel 0 (bodyOf Tryz.f30)) _ _ _
   refine peelK (k':=1) λK hK=>?_
   conv in hdC _=>whnf
   go_wp2;refine peelK (k':=2) λK hK=>?_
   conv in hdC _=>whnf
   go_wp2_with (go_at_call 71;rw[←HW.out];refine KC.out.mono ?_;rintro r w1 ⟨rfl,hf⟩;have Z1:=h_ hf;clear hf);exact RF2 (HR.out.nix Z1.out) HO.out
theorem bytesLess_lt2:∀a b:List UInt8,Op.bytesLess a b=decide (a<b)
 | [],[]=>by simp[Op.bytesLess]
 | [],_::_=>by simp[Op.bytesLess]
 | _::_,[]=>by simp[Op.bytesLess]
 | a::la,b::lb=>by
   rw[Bool.eq_iff_iff];simp only[Op.bytesLess,bytesLess_lt2 la lb,Bool.or_eq_true,Bool.and_eq_true,beq_iff_eq,decide_eq_true_eq,List.cons_lt_cons_iff]
theorem blt2(a b:ByteArray):Op.bytesLess a.toList b.toList=decide (ltB a b):=by
 rw[bytesLess_lt2,ByteArray.toList_eq,ByteArray.toList_eq];rfl
theorem tagsG_cons(t:ByteArray)(d:Bool)(x:ByteArray)(r:List ByteArray):tagsG t d (x::r)=if d=false∧ltB t x then t::(if x=t then tagsG t true r else x::tagsG t true r) else if x=t then tagsG t d r else x::tagsG t d r:=by rw[tagsG]
theorem map_push(o:List ByteArray)(x:ByteArray):(o++[x]).map Value.string=o.map Value.string++[Value.string x]:=by simp
theorem rtags_any{w:World}{v:Sl}{G:Nat→Prop}(l:List ByteArray)(hv:SlIn w G 1 v l.length (l.map Value.string))(hn:l.length≤1000)(t:ByteArray)(b:Bool):
  Calls Tryz.prog 35 #[.slice v.1 l.length v.2,.string t,.bool b] w λe w'=>∃v':Sl,e=.returned (.slice v'.1 (tagsS l t b).length v'.2)∧SlIn w' (λk=>w.heap.size≤k) 1 v' (tagsS l t b).length ((tagsS l t b).map Value.string)∧Frm Nix w w':=by
 obtain⟨Av,cv⟩:=v;dsimp only;rw[str_flat] at hv;have HV:=h_ hv;obtain⟨T,hT⟩:∃T,tagsS l t b=T:=⟨_,rfl⟩;have HT:Hid (tagsG t (!b) l=T):=hT;obtain⟨n,hln⟩:∃n,l.length=n:=⟨_,rfl⟩;have HL:=h_ hln;rw[hT];rw[hln] at hn ⊢;clear hv hT hln;go_enter Tryz.func35,Tryz.ntmps35;go_wp2
 go_loopw [7,8,9] (λov dv kv wr=>∃(k:Nat) (d:Bool) (o:List ByteArray),(k≤n∧o.length≤2 * k)∧kv=.int .i64 k∧dv=.bool d∧RowIn 9 w wr ov o.length (o.map Value.string)∧o++tagsG t d (l.drop k)=T) (λ_ _ kv _=>n - (intOf kv).toNat)
 case atStart=>exact⟨0,!b,[],by simp,rfl,rfl,RowIn.nil_ _ (Frm.refl _ _),by simpa using HT.out⟩
 case round=>
  obtain⟨k,d,o,⟨hk,hol⟩,rfl,rfl,hrow,hTe⟩:=hrel;have HRow:=h_ hrow;have HTe:=h_ hTe;obtain⟨B,c',rfl,-,-,-,-⟩:=hrow.shape;clear hrow hTe
  by_cases hlt:k<n
  ·have hkl:k<l.length:=by rw[HL.out];exact hlt
   obtain⟨bk,off,hA,-,hbl,hcell⟩:=(HV.out.nix HRow.out.frm).at_ (f:=λi=>[Value.string i]) (λ_=>rfl) (by decide) (by omega);dsimp only at hA;subst hA
   have hcell0:∀W,Frm Nix w W→∀(i:Nat) (hi:i<l.length) (j:Nat) (u:Value),[Value.string l[i]][j]? =some u→W.cell? ⟨bk,off+i * 1+j,none⟩=some u:=λW hW i hi j u hu=>by
    obtain⟨bk',off',hA',-,hbl',hcell'⟩:=(HV.out.nix hW).at_ (f:=λi=>[Value.string i]) (λ_=>rfl) (by decide) (by omega);dsimp only at hA';injection hA' with hA';injection hA' with e1 e2;subst e1;subst e2;exact hcell' i hi j u hu
   have x0:=hcell k hkl 0 _ rfl;rw[Nat.mul_one,Nat.add_zero] at x0;have HTe2:=h_ HTe.out;rw[List.drop_eq_getElem_cons hkl,tagsG_cons] at HTe2
   have HB:Hid (∀W,Frm Nix w W→W.cell? ⟨bk,off+k,none⟩=some (.string l[k])):=λW hW=>by
    have h1:=(hcell0 W hW) k hkl 0 _ rfl;rw[Nat.mul_one,Nat.add_zero] at h1;exact h1
   obtain⟨x,hx⟩:∃x,l[k]=x:=⟨_,rfl⟩;rw[hx] at x0 HTe2 HB;clear hcell hcell0 hx;have hbt:=blt2 t x
   cases d with
   | true=>
     by_cases he:x=t
     ·have HE:Hid (o++tagsG t true (l.drop (k+1))=T):=by have:=HTe2.out;rw[if_neg (by simp),if_pos he] at this;exact this
      subst he;clear hbt;go_wp2;go_roundw
      case rel=>exact⟨k+1,true,o,by omega,by go_num,rfl,HRow.out,HE.out⟩
      case measure=>simp[intOf];omega
     ·have HE:Hid ((o++[x])++tagsG t true (l.drop (k+1))=T):=by have:=HTe2.out;rw[if_neg (by simp),if_neg he] at this;unfold Hid;simpa using this
      obtain⟨hq1,hq2⟩:=str_ne he;have hq3:(x.toList !=t.toList)=true:=by simp[bne,hq2]
      obtain⟨v2,w2,hrun,hrunr,-,-⟩:=HRow.out.push elemS (.string x) rfl (by unfold maxLen;omega) (by omega);rw[←map_push] at hrunr;have HR2:=h_ hrunr;clear hrunr hbt;go_wp2_with (at_builtin;refine wpList_append_run hrun rfl _ _ rfl rfl rfl ?_);go_roundw
      case rel=>exact⟨k+1,true,o++[x],by simp;omega,by go_num,rfl,by simpa using HR2.out,HE.out⟩
      case measure=>simp[intOf];omega
   | false=>
     by_cases hl:ltB t x
     ·rw[decide_eq_true hl] at hbt
      have hne:¬x=t:=λe=>ltB_ne hl e.symm
      have HE:Hid (((o++[t])++[x])++tagsG t true (l.drop (k+1))=T):=by have:=HTe2.out;rw[if_pos ⟨rfl,hl⟩,if_neg hne] at this;unfold Hid;simpa using this
      obtain⟨hq1,hq2⟩:=str_ne hne;have hq3:(x.toList !=t.toList)=true:=by simp[bne,hq2]
      obtain⟨v2,w2,hrun,hrunr,-,-⟩:=HRow.out.push elemS (.string t) rfl (by unfold maxLen;omega) (by omega);have x2:=HB.out w2 hrunr.frm;obtain⟨B2,c2,rfl,-,-,-,-⟩:=hrunr.shape;obtain⟨v3,w3,hrun3,hrun3r,-,-⟩:=hrunr.push elemS (.string x) rfl (by unfold maxLen;omega) (by omega);rw[←map_push,←map_push] at hrun3r;have HR3:=h_ hrun3r;clear hrunr hrun3r;go_wp2_with (at_builtin;first | (refine wpList_append_run hrun rfl _ _ rfl rfl rfl ?_) | (refine wpList_append_run hrun3 rfl _ _ rfl rfl rfl ?_));go_roundw
      case rel=>exact⟨k+1,true,(o++[t])++[x],by simp;omega,by go_num,rfl,by simpa using HR3.out,HE.out⟩
      case measure=>simp[intOf];omega
     ·rw[decide_eq_false hl] at hbt
      by_cases he:x=t
      ·have HE:Hid (o++tagsG t false (l.drop (k+1))=T):=by have:=HTe2.out;rw[if_neg (λe=>hl e.2),if_pos he] at this;exact this
       subst he;go_wp2;go_roundw
       case rel=>exact⟨k+1,false,o,by omega,by go_num,rfl,HRow.out,HE.out⟩
       case measure=>simp[intOf];omega
      ·have HE:Hid ((o++[x])++tagsG t false (l.drop (k+1))=T):=by have:=HTe2.out;rw[if_neg (λe=>hl e.2),if_neg he] at this;unfold Hid;simpa using this
       obtain⟨hq1,hq2⟩:=str_ne he;have hq3:(x.toList !=t.toList)=true:=by simp[bne,hq2]
       obtain⟨v2,w2,hrun,hrunr,-,-⟩:=HRow.out.push elemS (.string x) rfl (by unfold maxLen;omega) (by omega);rw[←map_push] at hrunr;have HR2:=h_ hrunr;clear hrunr;go_wp2_with (at_builtin;refine wpList_append_run hrun rfl _ _ rfl rfl rfl ?_);go_roundw
       case rel=>exact⟨k+1,false,o++[x],by simp;omega,by go_num,rfl,by simpa using HR2.out,HE.out⟩
       case measure=>simp[intOf];omega
  ·obtain rfl:k=n:=by omega
   have HE0:Hid (o++tagsG t d []=T):=by have:=HTe.out;rw[List.drop_of_length_le (by rw[HL.out];exact Nat.le_refl _)] at this;exact this
   cases d with
   | true=>
     have HE:Hid (o=T):=by have:=HE0.out;unfold Hid;simpa [tagsG] using this
     have HRT:Hid (RowIn 9 w wr (.slice B T.length c') T.length (T.map Value.string)):=by rw[←HE.out];exact HRow.out
     have HEl:Hid (o.length=T.length):=by unfold Hid;rw[HE.out]
     go_wp2;go_ret
     exact⟨(B,c'),by first | rfl | (rw[HEl.out]<;>rfl),HRT.out.toK.sl,HRT.out.frm⟩
   | false=>
     have HE:Hid (o++[t]=T):=by have:=HE0.out;unfold Hid;simpa [tagsG] using this
     obtain⟨v2,w2,hrun,hrunr,-,-⟩:=HRow.out.push elemS (.string t) rfl (by unfold maxLen;omega) (by omega);rw[←map_push] at hrunr;obtain⟨B2,c2,rfl,-,-,-,-⟩:=hrunr.shape;have HRT:Hid (RowIn 9 w w2 (.slice B2 T.length c2) T.length (T.map Value.string)):=by unfold Hid;rw[←HE.out];simpa using hrunr
     have HEl:Hid (o.length+1=T.length):=by unfold Hid;rw[←HE.out];simp
     clear hrunr;go_wp2_with (at_builtin;refine wpList_append_run hrun rfl _ _ rfl rfl rfl ?_);go_ret;exact⟨(B2,c2),by first | rfl | (rw[HEl.out]<;>rfl),HRT.out.toK.sl,HRT.out.frm⟩
end Go.Proofs.YtaecjmiobllhmaaGreat
