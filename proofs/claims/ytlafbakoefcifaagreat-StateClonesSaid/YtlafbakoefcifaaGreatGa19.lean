/-
  Contracts: Fits: its switch, kind by kind.
-/
import Derived.Test.YtlafbakoefcifaaGreatGa17
import Derived.Deep.RegionHeld3
set_option linter.unusedVariables false
set_option linter.unusedSimpArgs false
set_option maxRecDepth 100000
set_option maxHeartbeats 16000000
namespace Go.Proofs.YtlafbakoefcifaaGreat
open Go.RowKit Go.Lib
theorem FitsT10 {w wc:World} {g be:Nat} {M:Ms} {x:St} (hS:StAt wc g M x) (hF:Frm Nix w wc) (a b n:Int) (s t u:ByteArray) (hB:Blk wc be 38 #[.int .i64 10,.int .i64 a,.int .i64 b,.int .i64 n,.string s,.string t,.string u]) (he:evOk ⟨10,a,b,n,s,t,u⟩=true) (ha:I64 a) (hb:I64 b) {u5 u7 u9 u11 u13 u14 u15 u16 u17 u18 u19 u20 u21 u22 u23 u24 u25 u26 u27 u28 u29 u30 u31 u32 u33 u34 u35 u36 u37 u38 u39 u40 u41 u42 u43 u44 u45 u46 u47 u48 u49 u50 u51 u52 u53 u54 u55 u56 u57 u58 u59 u60 u61 u62 u63 u64 u65 u66 u67 u68 u69 u70 u71 u72 u73 u74 u75 u76 u77 u78 u79 u80 u81 u82 u83 u84 u85 u86 u87 u88 u89 u90 u91 u92 u93 u94 u95 u96 u97 u98 u99 u100 u101 u102 u103 u104 u105 u106 u107 u108 u109 u110 u111 u112 u113 u114 u115 u116 u117 u118 u119 u120 u121 u122 u123 u124 u125 u126 u127 u128 u129 u130 u131 u132 u133 u134 u135 u136 u137 u138 u139 u140 u141 u142 u143 u144 u145 u146 u147 u148 u149 u150 u151 u152 u153 u154 u155 u156 u157 u158 u159 u160 u161 u162 u163 u164 u165 u166 u167 u168 u169 u170 u171 u172 u173 u174 u175 u176 u177 u178 u179 u180 u181 u182 u183 u184 u185 u186 u187 u188 u189 u190 u191 u192 u193 u194 u195 u196 u197 u198 u199 u200 u201 u202 u203 u204 u205 u206 u207 u208 u209 u210 u211 u212 u213 u214 u215 u216 u217 u218 u219 u220 u221 u222 u223 u224 u225 u226 u227 u228 u229 u230 u231 u232 u233 u234 u235 u236 u237 u238 u239 u240 u241 u242 u243 u244 u245 u246 u247 u248 u249 u250 u251 u252 u253:Value}:
  Code.wp Tryz.prog (peel 6 (bodyOf Tryz.f13)) (bodyPost Tryz.prog Tryz.f13 fun r w'=>r=.returned (.bool (fits x ⟨10,a,b,n,s,t,u⟩))∧Frm Nix w w') ⟨#[.pointer (some ⟨g,0,none⟩),.agg #[.int .i64 10,.int .i64 a,.int .i64 b,.int .i64 n,.string s,.string t,.string u],undef,.pointer (some ⟨be,0,none⟩),.bool false,u5,.bool (isI Fol.id a x.fols),u7,.bool (isI Fee.id a x.fees),u9,.bool (isI Itm.id a x.itms),u11,.bool (isI Sea.id a x.seas),u13,u14,u15,u16,u17,u18,u19,u20,u21,u22,u23,u24,u25,u26,u27,u28,u29,u30,u31,u32,u33,u34,u35,u36,u37,u38,u39,u40,u41,u42,u43,u44,u45,u46,u47,u48,u49,u50,u51,u52,u53,u54,u55,u56,u57,u58,u59,u60,u61,u62,u63,u64,u65,u66,u67,u68,u69,u70,u71,u72,u73,u74,u75,u76,u77,u78,u79,u80,u81,u82,u83,u84,u85,u86,u87,u88,u89,u90,u91,u92,u93,u94,u95,u96,u97,u98,u99,u100,u101,u102,u103,u104,u105,u106,u107,u108,u109,u110,u111,u112,u113,u114,u115,u116,u117,u118,u119,u120,u121,u122,u123,u124,u125,u126,u127,u128,u129,u130,u131,u132,u133,u134,u135,u136,u137,u138,u139,u140,u141,u142,u143,u144,u145,u146,u147,u148,u149,u150,u151,u152,u153,u154,u155,u156,u157,u158,u159,u160,u161,u162,u163,u164,u165,u166,u167,u168,u169,u170,u171,u172,u173,u174,u175,u176,u177,u178,u179,u180,u181,u182,u183,u184,u185,u186,u187,u188,u189,u190,u191,u192,u193,u194,u195,u196,u197,u198,u199,u200,u201,u202,u203,u204,u205,u206,u207,u208,u209,u210,u211,u212,u213,u214,u215,u216,u217,u218,u219,u220,u221,u222,u223,u224,u225,u226,u227,u228,u229,u230,u231,u232,u233,u234,u235,u236,u237,u238,u239,u240,u241,u242,u243,u244,u245,u246,u247,u248,u249,u250,u251,u252,u253],[]⟩ wc:=by
 have HS5:Hid (StAt wc g M x):=hS
 have HF5:Hid (Frm Nix w wc):=hF
 have HBe:Hid (Blk wc be 38 #[.int .i64 10,.int .i64 a,.int .i64 b,.int .i64 n,.string s,.string t,.string u]):=hB
 have hf5:=Frm.refl Nix wc
 obtain⟨c0,c1,c2,c3,c4,c5,c6,c7,c8,c9,c10,c11,c12⟩:=HS5.out.cells
 obtain⟨d0,d1,d2,d3,d4,d5,d6⟩:=blk7 hB
 clear hS hF hB
 simp only[peel,bodyOf,Tryz.f13]
 have HE:Hid (fits x ⟨10,a,b,n,s,t,u⟩=(isI Itm.id a x.itms&&(decide (n=0)||(itmAt x a).tags.any (fun y=>decide (y=s))||decide ((itmAt x a).tags.length<8)))):=fits10_eq he
 go_wp2_with fail
 refine(tag_any HS5.out ha s).mono ?_
 rintro r w2 ⟨rfl,hfw2⟩
 have HS6:Hid (StAt w2 g M x):=HS5.out.nix hfw2
 have HF6:=Lib.hid (HF5.out.trans hfw2)
 have HB6:Hid (Blk w2 be 38 #[.int .i64 10,.int .i64 a,.int .i64 b,.int .i64 n,.string s,.string t,.string u]):=(HBe.out.frm hf5 id).frm hfw2 id
 obtain⟨v,hvw⟩:=HS6.out.itmSl ha
 clear c0 c1 c2 c3 c4 c5 c6 c7 c8 c9 c10 c11 c12 d0 d1 d2 d3 d4 d5 d6
 have q3:∀ y:FW (Frm Nix w2),y.w.cell? ⟨g,3,none⟩=some (.map (some M.it)):=fun y=>(HS6.out.nix y.h).cells.2.2.2.1
 have p1:∀ y:FW (Frm Nix w2),y.w.cell? ⟨be,1,none⟩=some (.int .i64 a):=fun y=>(blk7 (HB6.out.frm y.h id)).2.1
 have p3:∀ y:FW (Frm Nix w2),y.w.cell? ⟨be,3,none⟩=some (.int .i64 n):=fun y=>(blk7 (HB6.out.frm y.h id)).2.2.2.1
 have d3:=(blk7 HB6.out).2.2.2.1
 have nl:∀ y:FW (Frm Nix w2),(Instr.lookup 74 (.map (some M.it)) (.int .i64 a) false).run Tryz.prog y.w=.ok (.agg (itmA v (itmAt x a))) y.w:=fun y=>(hvw _ y.h).2 false
 have hfd:∀ y:FW (Frm Nix w2),(Instr.field 54 (.agg #[.int .i64 (itmAt x a).id,.int .i64 (itmAt x a).feed,.int .i64 (itmAt x a).date,.string (itmAt x a).guid,.string (itmAt x a).title,.string (itmAt x a).link,.bool (itmAt x a).read,.bool (itmAt x a).star,.slice v.1 (itmAt x a).tags.length v.2]) 8).run Tryz.prog y.w=.ok (.slice v.1 (itmAt x a).tags.length v.2) y.w:=fun y=>fieldTags v (itmAt x a) y.w
 unfold itmA at nl
 clear hvw
 generalize isI Itm.id a x.itms=ia at *
 generalize ((itmAt x a).tags.any fun y=>decide (y=s))=hs at *
 generalize itmAt x a=q at *
 cases ia
 ·skip
  go_wp2_with fail
  refine wp_region_class (Frm Nix w2) ((Frm.refl Nix w2).drew) (by kernel_rfl) (by kernel_rfl) ?_
  repeat (go_big_quiet_step (fail))
  refine wpQuiet_nil ?_
  rintro w3 ⟨⟨_,hf2⟩,rfl⟩
  go_wp2
  go_ret
  exact⟨ret_bool (by rw[HE.out];try simp[*]),HF6.out.trans hf2⟩
 ·by_cases hn:n=0
  ·have kn:(n==0)=true:=by simp[hn]
   subst hn
   go_wp2_with fail
   refine wp_region_class (Frm Nix w2) ((Frm.refl Nix w2).drew) (by kernel_rfl) (by kernel_rfl) ?_
   repeat (go_big_quiet_step (fail))
   refine wpQuiet_nil ?_
   rintro w3 ⟨⟨_,hf2⟩,rfl⟩
   go_wp2
   go_ret
   exact⟨ret_bool (by rw[HE.out];try simp[*]),HF6.out.trans hf2⟩
  ·have kn:(n==0)=false:=by simp[hn]
   cases hs
   ·by_cases hl:q.tags.length<8
    ·have kl:decide ((q.tags.length:Int)<8)=true:=by simp;omega
     go_wp2_with fail
     refine wp_region_class (Frm Nix w2) ((Frm.refl Nix w2).drew) (by kernel_rfl) (by kernel_rfl) ?_
     repeat (go_big_quiet_step (fail))
     refine wpQuiet_nil ?_
     rintro w3 ⟨⟨_,hf2⟩,rfl⟩
     go_wp2
     go_ret
     exact⟨ret_bool (by rw[HE.out];try simp[*]),HF6.out.trans hf2⟩
    ·have kl:decide ((q.tags.length:Int)<8)=false:=by simp;omega
     go_wp2_with fail
     refine wp_region_class (Frm Nix w2) ((Frm.refl Nix w2).drew) (by kernel_rfl) (by kernel_rfl) ?_
     repeat (go_big_quiet_step (fail))
     refine wpQuiet_nil ?_
     rintro w3 ⟨⟨_,hf2⟩,rfl⟩
     go_wp2
     go_ret
     exact⟨ret_bool (by rw[HE.out];try simp[*]),HF6.out.trans hf2⟩
   ·skip
    go_wp2_with fail
    refine wp_region_class (Frm Nix w2) ((Frm.refl Nix w2).drew) (by kernel_rfl) (by kernel_rfl) ?_
    repeat (go_big_quiet_step (fail))
    refine wpQuiet_nil ?_
    rintro w3 ⟨⟨_,hf2⟩,rfl⟩
    go_wp2
    go_ret
    exact⟨ret_bool (by rw[HE.out];try simp[*]),HF6.out.trans hf2⟩
theorem FitsT11 {w wc:World} {g be:Nat} {M:Ms} {x:St} (hS:StAt wc g M x) (hF:Frm Nix w wc) (a b n:Int) (s t u:ByteArray) (hB:Blk wc be 38 #[.int .i64 11,.int .i64 a,.int .i64 b,.int .i64 n,.string s,.string t,.string u]) (he:evOk ⟨11,a,b,n,s,t,u⟩=true) (ha:I64 a) (hb:I64 b) {u5 u7 u9 u11 u13 u14 u15 u16 u17 u18 u19 u20 u21 u22 u23 u24 u25 u26 u27 u28 u29 u30 u31 u32 u33 u34 u35 u36 u37 u38 u39 u40 u41 u42 u43 u44 u45 u46 u47 u48 u49 u50 u51 u52 u53 u54 u55 u56 u57 u58 u59 u60 u61 u62 u63 u64 u65 u66 u67 u68 u69 u70 u71 u72 u73 u74 u75 u76 u77 u78 u79 u80 u81 u82 u83 u84 u85 u86 u87 u88 u89 u90 u91 u92 u93 u94 u95 u96 u97 u98 u99 u100 u101 u102 u103 u104 u105 u106 u107 u108 u109 u110 u111 u112 u113 u114 u115 u116 u117 u118 u119 u120 u121 u122 u123 u124 u125 u126 u127 u128 u129 u130 u131 u132 u133 u134 u135 u136 u137 u138 u139 u140 u141 u142 u143 u144 u145 u146 u147 u148 u149 u150 u151 u152 u153 u154 u155 u156 u157 u158 u159 u160 u161 u162 u163 u164 u165 u166 u167 u168 u169 u170 u171 u172 u173 u174 u175 u176 u177 u178 u179 u180 u181 u182 u183 u184 u185 u186 u187 u188 u189 u190 u191 u192 u193 u194 u195 u196 u197 u198 u199 u200 u201 u202 u203 u204 u205 u206 u207 u208 u209 u210 u211 u212 u213 u214 u215 u216 u217 u218 u219 u220 u221 u222 u223 u224 u225 u226 u227 u228 u229 u230 u231 u232 u233 u234 u235 u236 u237 u238 u239 u240 u241 u242 u243 u244 u245 u246 u247 u248 u249 u250 u251 u252 u253:Value}:
  Code.wp Tryz.prog (peel 6 (bodyOf Tryz.f13)) (bodyPost Tryz.prog Tryz.f13 fun r w'=>r=.returned (.bool (fits x ⟨11,a,b,n,s,t,u⟩))∧Frm Nix w w') ⟨#[.pointer (some ⟨g,0,none⟩),.agg #[.int .i64 11,.int .i64 a,.int .i64 b,.int .i64 n,.string s,.string t,.string u],undef,.pointer (some ⟨be,0,none⟩),.bool false,u5,.bool (isI Fol.id a x.fols),u7,.bool (isI Fee.id a x.fees),u9,.bool (isI Itm.id a x.itms),u11,.bool (isI Sea.id a x.seas),u13,u14,u15,u16,u17,u18,u19,u20,u21,u22,u23,u24,u25,u26,u27,u28,u29,u30,u31,u32,u33,u34,u35,u36,u37,u38,u39,u40,u41,u42,u43,u44,u45,u46,u47,u48,u49,u50,u51,u52,u53,u54,u55,u56,u57,u58,u59,u60,u61,u62,u63,u64,u65,u66,u67,u68,u69,u70,u71,u72,u73,u74,u75,u76,u77,u78,u79,u80,u81,u82,u83,u84,u85,u86,u87,u88,u89,u90,u91,u92,u93,u94,u95,u96,u97,u98,u99,u100,u101,u102,u103,u104,u105,u106,u107,u108,u109,u110,u111,u112,u113,u114,u115,u116,u117,u118,u119,u120,u121,u122,u123,u124,u125,u126,u127,u128,u129,u130,u131,u132,u133,u134,u135,u136,u137,u138,u139,u140,u141,u142,u143,u144,u145,u146,u147,u148,u149,u150,u151,u152,u153,u154,u155,u156,u157,u158,u159,u160,u161,u162,u163,u164,u165,u166,u167,u168,u169,u170,u171,u172,u173,u174,u175,u176,u177,u178,u179,u180,u181,u182,u183,u184,u185,u186,u187,u188,u189,u190,u191,u192,u193,u194,u195,u196,u197,u198,u199,u200,u201,u202,u203,u204,u205,u206,u207,u208,u209,u210,u211,u212,u213,u214,u215,u216,u217,u218,u219,u220,u221,u222,u223,u224,u225,u226,u227,u228,u229,u230,u231,u232,u233,u234,u235,u236,u237,u238,u239,u240,u241,u242,u243,u244,u245,u246,u247,u248,u249,u250,u251,u252,u253],[]⟩ wc:=by
 have HS5:Hid (StAt wc g M x):=hS
 have HF5:Hid (Frm Nix w wc):=hF
 have HBe:Hid (Blk wc be 38 #[.int .i64 11,.int .i64 a,.int .i64 b,.int .i64 n,.string s,.string t,.string u]):=hB
 have hf5:=Frm.refl Nix wc
 obtain⟨c0,c1,c2,c3,c4,c5,c6,c7,c8,c9,c10,c11,c12⟩:=HS5.out.cells
 obtain⟨d0,d1,d2,d3,d4,d5,d6⟩:=blk7 hB
 clear hS hF hB
 simp only[peel,bodyOf,Tryz.f13]
 have HE:Hid (fits x ⟨11,a,b,n,s,t,u⟩=(!isI Sea.id a x.seas&&decide (x.seas.length<32))):=by
  unfold Hid fits
  rw[if_neg (by rw[he];simp)]
  simp
 have ln:∀ (ty:TypeId),(Builtin.len_ #[75] ty #[.map (some M.se)]).run Tryz.prog wc=.ok (.int .i64 x.seas.length) wc:=fun ty=>by
  have:=HS5.out.maps.se.len (P:=Tryz.prog) Tryz.underlying75 ty
  simpa using this
 generalize isI Sea.id a x.seas=ia at *
 generalize x.seas.length=ll at *
 cases ia
 all_goals
  go_wp2_with fail
  go_ret
  exact⟨ret_bool (by rw[HE.out];try (simp;try omega)),HF5.out⟩
theorem FitsT12 {w wc:World} {g be:Nat} {M:Ms} {x:St} (hS:StAt wc g M x) (hF:Frm Nix w wc) (a b n:Int) (s t u:ByteArray) (hB:Blk wc be 38 #[.int .i64 12,.int .i64 a,.int .i64 b,.int .i64 n,.string s,.string t,.string u]) (he:evOk ⟨12,a,b,n,s,t,u⟩=true) (ha:I64 a) (hb:I64 b) {u5 u7 u9 u11 u13 u14 u15 u16 u17 u18 u19 u20 u21 u22 u23 u24 u25 u26 u27 u28 u29 u30 u31 u32 u33 u34 u35 u36 u37 u38 u39 u40 u41 u42 u43 u44 u45 u46 u47 u48 u49 u50 u51 u52 u53 u54 u55 u56 u57 u58 u59 u60 u61 u62 u63 u64 u65 u66 u67 u68 u69 u70 u71 u72 u73 u74 u75 u76 u77 u78 u79 u80 u81 u82 u83 u84 u85 u86 u87 u88 u89 u90 u91 u92 u93 u94 u95 u96 u97 u98 u99 u100 u101 u102 u103 u104 u105 u106 u107 u108 u109 u110 u111 u112 u113 u114 u115 u116 u117 u118 u119 u120 u121 u122 u123 u124 u125 u126 u127 u128 u129 u130 u131 u132 u133 u134 u135 u136 u137 u138 u139 u140 u141 u142 u143 u144 u145 u146 u147 u148 u149 u150 u151 u152 u153 u154 u155 u156 u157 u158 u159 u160 u161 u162 u163 u164 u165 u166 u167 u168 u169 u170 u171 u172 u173 u174 u175 u176 u177 u178 u179 u180 u181 u182 u183 u184 u185 u186 u187 u188 u189 u190 u191 u192 u193 u194 u195 u196 u197 u198 u199 u200 u201 u202 u203 u204 u205 u206 u207 u208 u209 u210 u211 u212 u213 u214 u215 u216 u217 u218 u219 u220 u221 u222 u223 u224 u225 u226 u227 u228 u229 u230 u231 u232 u233 u234 u235 u236 u237 u238 u239 u240 u241 u242 u243 u244 u245 u246 u247 u248 u249 u250 u251 u252 u253:Value}:
  Code.wp Tryz.prog (peel 6 (bodyOf Tryz.f13)) (bodyPost Tryz.prog Tryz.f13 fun r w'=>r=.returned (.bool (fits x ⟨12,a,b,n,s,t,u⟩))∧Frm Nix w w') ⟨#[.pointer (some ⟨g,0,none⟩),.agg #[.int .i64 12,.int .i64 a,.int .i64 b,.int .i64 n,.string s,.string t,.string u],undef,.pointer (some ⟨be,0,none⟩),.bool false,u5,.bool (isI Fol.id a x.fols),u7,.bool (isI Fee.id a x.fees),u9,.bool (isI Itm.id a x.itms),u11,.bool (isI Sea.id a x.seas),u13,u14,u15,u16,u17,u18,u19,u20,u21,u22,u23,u24,u25,u26,u27,u28,u29,u30,u31,u32,u33,u34,u35,u36,u37,u38,u39,u40,u41,u42,u43,u44,u45,u46,u47,u48,u49,u50,u51,u52,u53,u54,u55,u56,u57,u58,u59,u60,u61,u62,u63,u64,u65,u66,u67,u68,u69,u70,u71,u72,u73,u74,u75,u76,u77,u78,u79,u80,u81,u82,u83,u84,u85,u86,u87,u88,u89,u90,u91,u92,u93,u94,u95,u96,u97,u98,u99,u100,u101,u102,u103,u104,u105,u106,u107,u108,u109,u110,u111,u112,u113,u114,u115,u116,u117,u118,u119,u120,u121,u122,u123,u124,u125,u126,u127,u128,u129,u130,u131,u132,u133,u134,u135,u136,u137,u138,u139,u140,u141,u142,u143,u144,u145,u146,u147,u148,u149,u150,u151,u152,u153,u154,u155,u156,u157,u158,u159,u160,u161,u162,u163,u164,u165,u166,u167,u168,u169,u170,u171,u172,u173,u174,u175,u176,u177,u178,u179,u180,u181,u182,u183,u184,u185,u186,u187,u188,u189,u190,u191,u192,u193,u194,u195,u196,u197,u198,u199,u200,u201,u202,u203,u204,u205,u206,u207,u208,u209,u210,u211,u212,u213,u214,u215,u216,u217,u218,u219,u220,u221,u222,u223,u224,u225,u226,u227,u228,u229,u230,u231,u232,u233,u234,u235,u236,u237,u238,u239,u240,u241,u242,u243,u244,u245,u246,u247,u248,u249,u250,u251,u252,u253],[]⟩ wc:=by
 have HS5:Hid (StAt wc g M x):=hS
 have HF5:Hid (Frm Nix w wc):=hF
 have HBe:Hid (Blk wc be 38 #[.int .i64 12,.int .i64 a,.int .i64 b,.int .i64 n,.string s,.string t,.string u]):=hB
 have hf5:=Frm.refl Nix wc
 obtain⟨c0,c1,c2,c3,c4,c5,c6,c7,c8,c9,c10,c11,c12⟩:=HS5.out.cells
 obtain⟨d0,d1,d2,d3,d4,d5,d6⟩:=blk7 hB
 clear hS hF hB
 simp only[peel,bodyOf,Tryz.f13]
 have HE:Hid (fits x ⟨12,a,b,n,s,t,u⟩=(isI Sea.id a x.seas)):=by
  unfold Hid fits
  rw[if_neg (by rw[he];simp)]
  simp
 go_wp2_with (first
  | (go_at_call 53;refine(within_any HS5.out hb).mono ?_;rintro r w2 ⟨rfl,hf2⟩)
  | fail)
 go_ret
 exact⟨ret_bool (by rw[HE.out];try simp[*]),by first | exact HF5.out | exact HF5.out.trans hf2⟩
theorem FitsT13 {w wc:World} {g be:Nat} {M:Ms} {x:St} (hS:StAt wc g M x) (hF:Frm Nix w wc) (a b n:Int) (s t u:ByteArray) (hB:Blk wc be 38 #[.int .i64 13,.int .i64 a,.int .i64 b,.int .i64 n,.string s,.string t,.string u]) (he:evOk ⟨13,a,b,n,s,t,u⟩=true) (ha:I64 a) (hb:I64 b) {u5 u7 u9 u11 u13 u14 u15 u16 u17 u18 u19 u20 u21 u22 u23 u24 u25 u26 u27 u28 u29 u30 u31 u32 u33 u34 u35 u36 u37 u38 u39 u40 u41 u42 u43 u44 u45 u46 u47 u48 u49 u50 u51 u52 u53 u54 u55 u56 u57 u58 u59 u60 u61 u62 u63 u64 u65 u66 u67 u68 u69 u70 u71 u72 u73 u74 u75 u76 u77 u78 u79 u80 u81 u82 u83 u84 u85 u86 u87 u88 u89 u90 u91 u92 u93 u94 u95 u96 u97 u98 u99 u100 u101 u102 u103 u104 u105 u106 u107 u108 u109 u110 u111 u112 u113 u114 u115 u116 u117 u118 u119 u120 u121 u122 u123 u124 u125 u126 u127 u128 u129 u130 u131 u132 u133 u134 u135 u136 u137 u138 u139 u140 u141 u142 u143 u144 u145 u146 u147 u148 u149 u150 u151 u152 u153 u154 u155 u156 u157 u158 u159 u160 u161 u162 u163 u164 u165 u166 u167 u168 u169 u170 u171 u172 u173 u174 u175 u176 u177 u178 u179 u180 u181 u182 u183 u184 u185 u186 u187 u188 u189 u190 u191 u192 u193 u194 u195 u196 u197 u198 u199 u200 u201 u202 u203 u204 u205 u206 u207 u208 u209 u210 u211 u212 u213 u214 u215 u216 u217 u218 u219 u220 u221 u222 u223 u224 u225 u226 u227 u228 u229 u230 u231 u232 u233 u234 u235 u236 u237 u238 u239 u240 u241 u242 u243 u244 u245 u246 u247 u248 u249 u250 u251 u252 u253:Value}:
  Code.wp Tryz.prog (peel 6 (bodyOf Tryz.f13)) (bodyPost Tryz.prog Tryz.f13 fun r w'=>r=.returned (.bool (fits x ⟨13,a,b,n,s,t,u⟩))∧Frm Nix w w') ⟨#[.pointer (some ⟨g,0,none⟩),.agg #[.int .i64 13,.int .i64 a,.int .i64 b,.int .i64 n,.string s,.string t,.string u],undef,.pointer (some ⟨be,0,none⟩),.bool false,u5,.bool (isI Fol.id a x.fols),u7,.bool (isI Fee.id a x.fees),u9,.bool (isI Itm.id a x.itms),u11,.bool (isI Sea.id a x.seas),u13,u14,u15,u16,u17,u18,u19,u20,u21,u22,u23,u24,u25,u26,u27,u28,u29,u30,u31,u32,u33,u34,u35,u36,u37,u38,u39,u40,u41,u42,u43,u44,u45,u46,u47,u48,u49,u50,u51,u52,u53,u54,u55,u56,u57,u58,u59,u60,u61,u62,u63,u64,u65,u66,u67,u68,u69,u70,u71,u72,u73,u74,u75,u76,u77,u78,u79,u80,u81,u82,u83,u84,u85,u86,u87,u88,u89,u90,u91,u92,u93,u94,u95,u96,u97,u98,u99,u100,u101,u102,u103,u104,u105,u106,u107,u108,u109,u110,u111,u112,u113,u114,u115,u116,u117,u118,u119,u120,u121,u122,u123,u124,u125,u126,u127,u128,u129,u130,u131,u132,u133,u134,u135,u136,u137,u138,u139,u140,u141,u142,u143,u144,u145,u146,u147,u148,u149,u150,u151,u152,u153,u154,u155,u156,u157,u158,u159,u160,u161,u162,u163,u164,u165,u166,u167,u168,u169,u170,u171,u172,u173,u174,u175,u176,u177,u178,u179,u180,u181,u182,u183,u184,u185,u186,u187,u188,u189,u190,u191,u192,u193,u194,u195,u196,u197,u198,u199,u200,u201,u202,u203,u204,u205,u206,u207,u208,u209,u210,u211,u212,u213,u214,u215,u216,u217,u218,u219,u220,u221,u222,u223,u224,u225,u226,u227,u228,u229,u230,u231,u232,u233,u234,u235,u236,u237,u238,u239,u240,u241,u242,u243,u244,u245,u246,u247,u248,u249,u250,u251,u252,u253],[]⟩ wc:=by
 have HS5:Hid (StAt wc g M x):=hS
 have HF5:Hid (Frm Nix w wc):=hF
 have HBe:Hid (Blk wc be 38 #[.int .i64 13,.int .i64 a,.int .i64 b,.int .i64 n,.string s,.string t,.string u]):=hB
 have hf5:=Frm.refl Nix wc
 obtain⟨c0,c1,c2,c3,c4,c5,c6,c7,c8,c9,c10,c11,c12⟩:=HS5.out.cells
 obtain⟨d0,d1,d2,d3,d4,d5,d6⟩:=blk7 hB
 clear hS hF hB
 simp only[peel,bodyOf,Tryz.f13]
 have HE:Hid (fits x ⟨13,a,b,n,s,t,u⟩=(decide (x.clock≤n))):=by
  unfold Hid fits
  rw[if_neg (by rw[he];simp)]
  simp
 have q0:∀ y:FW (Frm Nix wc),y.w.cell? ⟨g,0,none⟩=some (.int .i64 x.clock):=fun y=>(y.h.cell (cell_lt c0) id).trans c0
 have p3:∀ y:FW (Frm Nix wc),y.w.cell? ⟨be,3,none⟩=some (.int .i64 n):=fun y=>(y.h.cell (cell_lt d3) id).trans d3
 clear c1 c2 c3 c4 c5 c6 c7 c8 c9 c10 c11 c12
 go_wp2_with fail
 refine wp_region_class (Frm Nix wc) ((Frm.refl Nix wc).drew) (by kernel_rfl) (by kernel_rfl) ?_
 repeat (go_big_quiet_step (first
  | (rename_i y;go_at_call 53;refine y.call (KW y) ?_;exact fun w' hf=>y.h.trans hf)
  | (rename_i y;go_at_call 22;refine y.call (KD y) ?_;exact fun w' hf=>y.h.trans hf)
  | fail))
 refine wpQuiet_nil ?_
 rintro w2 ⟨⟨_,hf2⟩,rfl⟩
 go_wp2
 go_ret
 exact⟨ret_bool (by rw[HE.out];try simp[*]),HF5.out.trans hf2⟩
end Go.Proofs.YtlafbakoefcifaaGreat
