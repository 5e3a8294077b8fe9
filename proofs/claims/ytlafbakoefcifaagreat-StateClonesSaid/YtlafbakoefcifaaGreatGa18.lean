/-
  Contracts: Fits: its switch, kind by kind.
-/
import Derived.Test.YtlafbakoefcifaaGreatGa17
import Derived.Deep.RegionHeld3
set_option linter.unusedVariables false
set_option linter.unusedSimpArgs false
set_option maxRecDepth 100000
set_option maxHeartbeats 16000000
namespace Go.Proofs.YtlafbakoefcifaaGreat
open Go.RowKit Go.Lib
theorem FitsT4 {w wc:World} {g be:Nat} {M:Ms} {x:St} (hS:StAt wc g M x) (hF:Frm Nix w wc) (a b n:Int) (s t u:ByteArray) (hB:Blk wc be 38 #[.int .i64 4,.int .i64 a,.int .i64 b,.int .i64 n,.string s,.string t,.string u]) (he:evOk ⟨4,a,b,n,s,t,u⟩=true) (ha:I64 a) (hb:I64 b) {u5 u7 u9 u11 u13 u14 u15 u16 u17 u18 u19 u20 u21 u22 u23 u24 u25 u26 u27 u28 u29 u30 u31 u32 u33 u34 u35 u36 u37 u38 u39 u40 u41 u42 u43 u44 u45 u46 u47 u48 u49 u50 u51 u52 u53 u54 u55 u56 u57 u58 u59 u60 u61 u62 u63 u64 u65 u66 u67 u68 u69 u70 u71 u72 u73 u74 u75 u76 u77 u78 u79 u80 u81 u82 u83 u84 u85 u86 u87 u88 u89 u90 u91 u92 u93 u94 u95 u96 u97 u98 u99 u100 u101 u102 u103 u104 u105 u106 u107 u108 u109 u110 u111 u112 u113 u114 u115 u116 u117 u118 u119 u120 u121 u122 u123 u124 u125 u126 u127 u128 u129 u130 u131 u132 u133 u134 u135 u136 u137 u138 u139 u140 u141 u142 u143 u144 u145 u146 u147 u148 u149 u150 u151 u152 u153 u154 u155 u156 u157 u158 u159 u160 u161 u162 u163 u164 u165 u166 u167 u168 u169 u170 u171 u172 u173 u174 u175 u176 u177 u178 u179 u180 u181 u182 u183 u184 u185 u186 u187 u188 u189 u190 u191 u192 u193 u194 u195 u196 u197 u198 u199 u200 u201 u202 u203 u204 u205 u206 u207 u208 u209 u210 u211 u212 u213 u214 u215 u216 u217 u218 u219 u220 u221 u222 u223 u224 u225 u226 u227 u228 u229 u230 u231 u232 u233 u234 u235 u236 u237 u238 u239 u240 u241 u242 u243 u244 u245 u246 u247 u248 u249 u250 u251 u252 u253:Value}:
  Code.wp Tryz.prog (peel 6 (bodyOf Tryz.f13)) (bodyPost Tryz.prog Tryz.f13 fun r w'=>r=.returned (.bool (fits x ⟨4,a,b,n,s,t,u⟩))∧Frm Nix w w') ⟨#[.pointer (some ⟨g,0,none⟩),.agg #[.int .i64 4,.int .i64 a,.int .i64 b,.int .i64 n,.string s,.string t,.string u],undef,.pointer (some ⟨be,0,none⟩),.bool false,u5,.bool (isI Fol.id a x.fols),u7,.bool (isI Fee.id a x.fees),u9,.bool (isI Itm.id a x.itms),u11,.bool (isI Sea.id a x.seas),u13,u14,u15,u16,u17,u18,u19,u20,u21,u22,u23,u24,u25,u26,u27,u28,u29,u30,u31,u32,u33,u34,u35,u36,u37,u38,u39,u40,u41,u42,u43,u44,u45,u46,u47,u48,u49,u50,u51,u52,u53,u54,u55,u56,u57,u58,u59,u60,u61,u62,u63,u64,u65,u66,u67,u68,u69,u70,u71,u72,u73,u74,u75,u76,u77,u78,u79,u80,u81,u82,u83,u84,u85,u86,u87,u88,u89,u90,u91,u92,u93,u94,u95,u96,u97,u98,u99,u100,u101,u102,u103,u104,u105,u106,u107,u108,u109,u110,u111,u112,u113,u114,u115,u116,u117,u118,u119,u120,u121,u122,u123,u124,u125,u126,u127,u128,u129,u130,u131,u132,u133,u134,u135,u136,u137,u138,u139,u140,u141,u142,u143,u144,u145,u146,u147,u148,u149,u150,u151,u152,u153,u154,u155,u156,u157,u158,u159,u160,u161,u162,u163,u164,u165,u166,u167,u168,u169,u170,u171,u172,u173,u174,u175,u176,u177,u178,u179,u180,u181,u182,u183,u184,u185,u186,u187,u188,u189,u190,u191,u192,u193,u194,u195,u196,u197,u198,u199,u200,u201,u202,u203,u204,u205,u206,u207,u208,u209,u210,u211,u212,u213,u214,u215,u216,u217,u218,u219,u220,u221,u222,u223,u224,u225,u226,u227,u228,u229,u230,u231,u232,u233,u234,u235,u236,u237,u238,u239,u240,u241,u242,u243,u244,u245,u246,u247,u248,u249,u250,u251,u252,u253],[]⟩ wc:=by
 have HS5:Hid (StAt wc g M x):=hS
 have HF5:Hid (Frm Nix w wc):=hF
 have HBe:Hid (Blk wc be 38 #[.int .i64 4,.int .i64 a,.int .i64 b,.int .i64 n,.string s,.string t,.string u]):=hB
 have hf5:=Frm.refl Nix wc
 obtain⟨c0,c1,c2,c3,c4,c5,c6,c7,c8,c9,c10,c11,c12⟩:=HS5.out.cells
 obtain⟨d0,d1,d2,d3,d4,d5,d6⟩:=blk7 hB
 clear hS hF hB
 simp only[peel,bodyOf,Tryz.f13]
 have HE:Hid (fits x ⟨4,a,b,n,s,t,u⟩=(isI Fee.id a x.fees)):=by
  unfold Hid fits
  rw[if_neg (by rw[he];simp)]
  simp
 go_wp2_with (first
  | (go_at_call 53;refine(within_any HS5.out hb).mono ?_;rintro r w2 ⟨rfl,hf2⟩)
  | fail)
 go_ret
 exact⟨ret_bool (by rw[HE.out];try simp[*]),by first | exact HF5.out | exact HF5.out.trans hf2⟩
theorem FitsT5 {w wc:World} {g be:Nat} {M:Ms} {x:St} (hS:StAt wc g M x) (hF:Frm Nix w wc) (a b n:Int) (s t u:ByteArray) (hB:Blk wc be 38 #[.int .i64 5,.int .i64 a,.int .i64 b,.int .i64 n,.string s,.string t,.string u]) (he:evOk ⟨5,a,b,n,s,t,u⟩=true) (ha:I64 a) (hb:I64 b) {u5 u7 u9 u11 u13 u14 u15 u16 u17 u18 u19 u20 u21 u22 u23 u24 u25 u26 u27 u28 u29 u30 u31 u32 u33 u34 u35 u36 u37 u38 u39 u40 u41 u42 u43 u44 u45 u46 u47 u48 u49 u50 u51 u52 u53 u54 u55 u56 u57 u58 u59 u60 u61 u62 u63 u64 u65 u66 u67 u68 u69 u70 u71 u72 u73 u74 u75 u76 u77 u78 u79 u80 u81 u82 u83 u84 u85 u86 u87 u88 u89 u90 u91 u92 u93 u94 u95 u96 u97 u98 u99 u100 u101 u102 u103 u104 u105 u106 u107 u108 u109 u110 u111 u112 u113 u114 u115 u116 u117 u118 u119 u120 u121 u122 u123 u124 u125 u126 u127 u128 u129 u130 u131 u132 u133 u134 u135 u136 u137 u138 u139 u140 u141 u142 u143 u144 u145 u146 u147 u148 u149 u150 u151 u152 u153 u154 u155 u156 u157 u158 u159 u160 u161 u162 u163 u164 u165 u166 u167 u168 u169 u170 u171 u172 u173 u174 u175 u176 u177 u178 u179 u180 u181 u182 u183 u184 u185 u186 u187 u188 u189 u190 u191 u192 u193 u194 u195 u196 u197 u198 u199 u200 u201 u202 u203 u204 u205 u206 u207 u208 u209 u210 u211 u212 u213 u214 u215 u216 u217 u218 u219 u220 u221 u222 u223 u224 u225 u226 u227 u228 u229 u230 u231 u232 u233 u234 u235 u236 u237 u238 u239 u240 u241 u242 u243 u244 u245 u246 u247 u248 u249 u250 u251 u252 u253:Value}:
  Code.wp Tryz.prog (peel 6 (bodyOf Tryz.f13)) (bodyPost Tryz.prog Tryz.f13 fun r w'=>r=.returned (.bool (fits x ⟨5,a,b,n,s,t,u⟩))∧Frm Nix w w') ⟨#[.pointer (some ⟨g,0,none⟩),.agg #[.int .i64 5,.int .i64 a,.int .i64 b,.int .i64 n,.string s,.string t,.string u],undef,.pointer (some ⟨be,0,none⟩),.bool false,u5,.bool (isI Fol.id a x.fols),u7,.bool (isI Fee.id a x.fees),u9,.bool (isI Itm.id a x.itms),u11,.bool (isI Sea.id a x.seas),u13,u14,u15,u16,u17,u18,u19,u20,u21,u22,u23,u24,u25,u26,u27,u28,u29,u30,u31,u32,u33,u34,u35,u36,u37,u38,u39,u40,u41,u42,u43,u44,u45,u46,u47,u48,u49,u50,u51,u52,u53,u54,u55,u56,u57,u58,u59,u60,u61,u62,u63,u64,u65,u66,u67,u68,u69,u70,u71,u72,u73,u74,u75,u76,u77,u78,u79,u80,u81,u82,u83,u84,u85,u86,u87,u88,u89,u90,u91,u92,u93,u94,u95,u96,u97,u98,u99,u100,u101,u102,u103,u104,u105,u106,u107,u108,u109,u110,u111,u112,u113,u114,u115,u116,u117,u118,u119,u120,u121,u122,u123,u124,u125,u126,u127,u128,u129,u130,u131,u132,u133,u134,u135,u136,u137,u138,u139,u140,u141,u142,u143,u144,u145,u146,u147,u148,u149,u150,u151,u152,u153,u154,u155,u156,u157,u158,u159,u160,u161,u162,u163,u164,u165,u166,u167,u168,u169,u170,u171,u172,u173,u174,u175,u176,u177,u178,u179,u180,u181,u182,u183,u184,u185,u186,u187,u188,u189,u190,u191,u192,u193,u194,u195,u196,u197,u198,u199,u200,u201,u202,u203,u204,u205,u206,u207,u208,u209,u210,u211,u212,u213,u214,u215,u216,u217,u218,u219,u220,u221,u222,u223,u224,u225,u226,u227,u228,u229,u230,u231,u232,u233,u234,u235,u236,u237,u238,u239,u240,u241,u242,u243,u244,u245,u246,u247,u248,u249,u250,u251,u252,u253],[]⟩ wc:=by
 have HS5:Hid (StAt wc g M x):=hS
 have HF5:Hid (Frm Nix w wc):=hF
 have HBe:Hid (Blk wc be 38 #[.int .i64 5,.int .i64 a,.int .i64 b,.int .i64 n,.string s,.string t,.string u]):=hB
 have hf5:=Frm.refl Nix wc
 obtain⟨c0,c1,c2,c3,c4,c5,c6,c7,c8,c9,c10,c11,c12⟩:=HS5.out.cells
 obtain⟨d0,d1,d2,d3,d4,d5,d6⟩:=blk7 hB
 clear hS hF hB
 simp only[peel,bodyOf,Tryz.f13]
 have HE:Hid (fits x ⟨5,a,b,n,s,t,u⟩=(isI Fee.id a x.fees)):=by
  unfold Hid fits
  rw[if_neg (by rw[he];simp)]
  simp
 go_wp2_with (first
  | (go_at_call 53;refine(within_any HS5.out hb).mono ?_;rintro r w2 ⟨rfl,hf2⟩)
  | fail)
 go_ret
 exact⟨ret_bool (by rw[HE.out];try simp[*]),by first | exact HF5.out | exact HF5.out.trans hf2⟩
theorem FitsT6 {w wc:World} {g be:Nat} {M:Ms} {x:St} (hS:StAt wc g M x) (hF:Frm Nix w wc) (a b n:Int) (s t u:ByteArray) (hB:Blk wc be 38 #[.int .i64 6,.int .i64 a,.int .i64 b,.int .i64 n,.string s,.string t,.string u]) (he:evOk ⟨6,a,b,n,s,t,u⟩=true) (ha:I64 a) (hb:I64 b) {u5 u7 u9 u11 u13 u14 u15 u16 u17 u18 u19 u20 u21 u22 u23 u24 u25 u26 u27 u28 u29 u30 u31 u32 u33 u34 u35 u36 u37 u38 u39 u40 u41 u42 u43 u44 u45 u46 u47 u48 u49 u50 u51 u52 u53 u54 u55 u56 u57 u58 u59 u60 u61 u62 u63 u64 u65 u66 u67 u68 u69 u70 u71 u72 u73 u74 u75 u76 u77 u78 u79 u80 u81 u82 u83 u84 u85 u86 u87 u88 u89 u90 u91 u92 u93 u94 u95 u96 u97 u98 u99 u100 u101 u102 u103 u104 u105 u106 u107 u108 u109 u110 u111 u112 u113 u114 u115 u116 u117 u118 u119 u120 u121 u122 u123 u124 u125 u126 u127 u128 u129 u130 u131 u132 u133 u134 u135 u136 u137 u138 u139 u140 u141 u142 u143 u144 u145 u146 u147 u148 u149 u150 u151 u152 u153 u154 u155 u156 u157 u158 u159 u160 u161 u162 u163 u164 u165 u166 u167 u168 u169 u170 u171 u172 u173 u174 u175 u176 u177 u178 u179 u180 u181 u182 u183 u184 u185 u186 u187 u188 u189 u190 u191 u192 u193 u194 u195 u196 u197 u198 u199 u200 u201 u202 u203 u204 u205 u206 u207 u208 u209 u210 u211 u212 u213 u214 u215 u216 u217 u218 u219 u220 u221 u222 u223 u224 u225 u226 u227 u228 u229 u230 u231 u232 u233 u234 u235 u236 u237 u238 u239 u240 u241 u242 u243 u244 u245 u246 u247 u248 u249 u250 u251 u252 u253:Value}:
  Code.wp Tryz.prog (peel 6 (bodyOf Tryz.f13)) (bodyPost Tryz.prog Tryz.f13 fun r w'=>r=.returned (.bool (fits x ⟨6,a,b,n,s,t,u⟩))∧Frm Nix w w') ⟨#[.pointer (some ⟨g,0,none⟩),.agg #[.int .i64 6,.int .i64 a,.int .i64 b,.int .i64 n,.string s,.string t,.string u],undef,.pointer (some ⟨be,0,none⟩),.bool false,u5,.bool (isI Fol.id a x.fols),u7,.bool (isI Fee.id a x.fees),u9,.bool (isI Itm.id a x.itms),u11,.bool (isI Sea.id a x.seas),u13,u14,u15,u16,u17,u18,u19,u20,u21,u22,u23,u24,u25,u26,u27,u28,u29,u30,u31,u32,u33,u34,u35,u36,u37,u38,u39,u40,u41,u42,u43,u44,u45,u46,u47,u48,u49,u50,u51,u52,u53,u54,u55,u56,u57,u58,u59,u60,u61,u62,u63,u64,u65,u66,u67,u68,u69,u70,u71,u72,u73,u74,u75,u76,u77,u78,u79,u80,u81,u82,u83,u84,u85,u86,u87,u88,u89,u90,u91,u92,u93,u94,u95,u96,u97,u98,u99,u100,u101,u102,u103,u104,u105,u106,u107,u108,u109,u110,u111,u112,u113,u114,u115,u116,u117,u118,u119,u120,u121,u122,u123,u124,u125,u126,u127,u128,u129,u130,u131,u132,u133,u134,u135,u136,u137,u138,u139,u140,u141,u142,u143,u144,u145,u146,u147,u148,u149,u150,u151,u152,u153,u154,u155,u156,u157,u158,u159,u160,u161,u162,u163,u164,u165,u166,u167,u168,u169,u170,u171,u172,u173,u174,u175,u176,u177,u178,u179,u180,u181,u182,u183,u184,u185,u186,u187,u188,u189,u190,u191,u192,u193,u194,u195,u196,u197,u198,u199,u200,u201,u202,u203,u204,u205,u206,u207,u208,u209,u210,u211,u212,u213,u214,u215,u216,u217,u218,u219,u220,u221,u222,u223,u224,u225,u226,u227,u228,u229,u230,u231,u232,u233,u234,u235,u236,u237,u238,u239,u240,u241,u242,u243,u244,u245,u246,u247,u248,u249,u250,u251,u252,u253],[]⟩ wc:=by
 have HS5:Hid (StAt wc g M x):=hS
 have HF5:Hid (Frm Nix w wc):=hF
 have HBe:Hid (Blk wc be 38 #[.int .i64 6,.int .i64 a,.int .i64 b,.int .i64 n,.string s,.string t,.string u]):=hB
 have hf5:=Frm.refl Nix wc
 obtain⟨c0,c1,c2,c3,c4,c5,c6,c7,c8,c9,c10,c11,c12⟩:=HS5.out.cells
 obtain⟨d0,d1,d2,d3,d4,d5,d6⟩:=blk7 hB
 clear hS hF hB
 simp only[peel,bodyOf,Tryz.f13]
 have HE:Hid (fits x ⟨6,a,b,n,s,t,u⟩=(isI Fee.id a x.fees&&inS x b)):=by
  unfold Hid fits
  rw[if_neg (by rw[he];simp)]
  simp
 cases hia:isI Fee.id a x.fees
 all_goals
  go_wp2_with (first
   | (go_at_call 53;refine(within_any HS5.out hb).mono ?_;rintro r w2 ⟨rfl,hf2⟩)
   | fail)
  go_ret
  exact⟨ret_bool (by rw[HE.out,hia];simp),by first | exact HF5.out | exact HF5.out.trans hf2⟩
theorem FitsT7 {w wc:World} {g be:Nat} {M:Ms} {x:St} (hS:StAt wc g M x) (hF:Frm Nix w wc) (a b n:Int) (s t u:ByteArray) (hB:Blk wc be 38 #[.int .i64 7,.int .i64 a,.int .i64 b,.int .i64 n,.string s,.string t,.string u]) (he:evOk ⟨7,a,b,n,s,t,u⟩=true) (ha:I64 a) (hb:I64 b) {u5 u7 u9 u11 u13 u14 u15 u16 u17 u18 u19 u20 u21 u22 u23 u24 u25 u26 u27 u28 u29 u30 u31 u32 u33 u34 u35 u36 u37 u38 u39 u40 u41 u42 u43 u44 u45 u46 u47 u48 u49 u50 u51 u52 u53 u54 u55 u56 u57 u58 u59 u60 u61 u62 u63 u64 u65 u66 u67 u68 u69 u70 u71 u72 u73 u74 u75 u76 u77 u78 u79 u80 u81 u82 u83 u84 u85 u86 u87 u88 u89 u90 u91 u92 u93 u94 u95 u96 u97 u98 u99 u100 u101 u102 u103 u104 u105 u106 u107 u108 u109 u110 u111 u112 u113 u114 u115 u116 u117 u118 u119 u120 u121 u122 u123 u124 u125 u126 u127 u128 u129 u130 u131 u132 u133 u134 u135 u136 u137 u138 u139 u140 u141 u142 u143 u144 u145 u146 u147 u148 u149 u150 u151 u152 u153 u154 u155 u156 u157 u158 u159 u160 u161 u162 u163 u164 u165 u166 u167 u168 u169 u170 u171 u172 u173 u174 u175 u176 u177 u178 u179 u180 u181 u182 u183 u184 u185 u186 u187 u188 u189 u190 u191 u192 u193 u194 u195 u196 u197 u198 u199 u200 u201 u202 u203 u204 u205 u206 u207 u208 u209 u210 u211 u212 u213 u214 u215 u216 u217 u218 u219 u220 u221 u222 u223 u224 u225 u226 u227 u228 u229 u230 u231 u232 u233 u234 u235 u236 u237 u238 u239 u240 u241 u242 u243 u244 u245 u246 u247 u248 u249 u250 u251 u252 u253:Value}:
  Code.wp Tryz.prog (peel 6 (bodyOf Tryz.f13)) (bodyPost Tryz.prog Tryz.f13 fun r w'=>r=.returned (.bool (fits x ⟨7,a,b,n,s,t,u⟩))∧Frm Nix w w') ⟨#[.pointer (some ⟨g,0,none⟩),.agg #[.int .i64 7,.int .i64 a,.int .i64 b,.int .i64 n,.string s,.string t,.string u],undef,.pointer (some ⟨be,0,none⟩),.bool false,u5,.bool (isI Fol.id a x.fols),u7,.bool (isI Fee.id a x.fees),u9,.bool (isI Itm.id a x.itms),u11,.bool (isI Sea.id a x.seas),u13,u14,u15,u16,u17,u18,u19,u20,u21,u22,u23,u24,u25,u26,u27,u28,u29,u30,u31,u32,u33,u34,u35,u36,u37,u38,u39,u40,u41,u42,u43,u44,u45,u46,u47,u48,u49,u50,u51,u52,u53,u54,u55,u56,u57,u58,u59,u60,u61,u62,u63,u64,u65,u66,u67,u68,u69,u70,u71,u72,u73,u74,u75,u76,u77,u78,u79,u80,u81,u82,u83,u84,u85,u86,u87,u88,u89,u90,u91,u92,u93,u94,u95,u96,u97,u98,u99,u100,u101,u102,u103,u104,u105,u106,u107,u108,u109,u110,u111,u112,u113,u114,u115,u116,u117,u118,u119,u120,u121,u122,u123,u124,u125,u126,u127,u128,u129,u130,u131,u132,u133,u134,u135,u136,u137,u138,u139,u140,u141,u142,u143,u144,u145,u146,u147,u148,u149,u150,u151,u152,u153,u154,u155,u156,u157,u158,u159,u160,u161,u162,u163,u164,u165,u166,u167,u168,u169,u170,u171,u172,u173,u174,u175,u176,u177,u178,u179,u180,u181,u182,u183,u184,u185,u186,u187,u188,u189,u190,u191,u192,u193,u194,u195,u196,u197,u198,u199,u200,u201,u202,u203,u204,u205,u206,u207,u208,u209,u210,u211,u212,u213,u214,u215,u216,u217,u218,u219,u220,u221,u222,u223,u224,u225,u226,u227,u228,u229,u230,u231,u232,u233,u234,u235,u236,u237,u238,u239,u240,u241,u242,u243,u244,u245,u246,u247,u248,u249,u250,u251,u252,u253],[]⟩ wc:=by
 have HS5:Hid (StAt wc g M x):=hS
 have HF5:Hid (Frm Nix w wc):=hF
 have HBe:Hid (Blk wc be 38 #[.int .i64 7,.int .i64 a,.int .i64 b,.int .i64 n,.string s,.string t,.string u]):=hB
 have hf5:=Frm.refl Nix wc
 obtain⟨c0,c1,c2,c3,c4,c5,c6,c7,c8,c9,c10,c11,c12⟩:=HS5.out.cells
 obtain⟨d0,d1,d2,d3,d4,d5,d6⟩:=blk7 hB
 clear hS hF hB
 simp only[peel,bodyOf,Tryz.f13]
 have HE:Hid (fits x ⟨7,a,b,n,s,t,u⟩=(!isI Itm.id a x.itms&&decide (x.itms.length<1024)&&isI Fee.id b x.fees&&decide (guidS x b s=0))):=by
  unfold Hid fits
  rw[if_neg (by rw[he];simp)]
  simp
 have hsz:s.size≤maxLen:=by
  have h1:=he
  rw[ev7] at h1
  simp only[Bool.and_eq_true] at h1
  have:=place_size h1.1.1.2
  have:=maxLen_le
  omega
 have HB5:Hid (Blk wc be 38 #[.int .i64 7,.int .i64 a,.int .i64 b,.int .i64 n,.string s,.string t,.string u]):=HBe.out.frm hf5 id
 go_upto_region 20 with fail
 go_cut [13,14] from 160 to 169 (fun s13 s14 wx=>s14=.bool (isI Fee.id b x.fees)∧Frm Nix wc wx)
 case first=>
  have hf1:=Frm.refl Nix wc
  have hfa:Frm Nix wc (wc.alloc (.cells #[.int .i64 0,.int .i64 0,.string {data:=#[]},.string {data:=#[]}] 51)):=hf1.alloc _
  have HFA:Hid (∀ cs:Array Value,Frm Nix wc (wc.alloc (.cells cs 51)).drew):=fun cs=>(hf1.alloc _).drew
  obtain⟨e0,e1,e2,e3,e4,e5,e6,e7,e8,e9,e10,e11,e12⟩:=(HS5.out.nix hfa).cells
  obtain⟨p0,p1,p2,p3,p4,p5,p6⟩:=blk7 (HB5.out.frm hfa id)
  have hl0:=HS5.out.feeLook2 hb
  have hl1:=(HS5.out.nix hf1.drew).feeLook2 hb
  have hl2:=(HS5.out.nix ((hf1.alloc (.cells #[.int .i64 0,.int .i64 0,.string {data:=#[]},.string {data:=#[]}] 51)).drew)).feeLook2 hb
  clear hfa
  go_region
  all_goals
   go_wp2
   go_meet
   exact⟨rfl,HFA.out _⟩
 case rest=>
 obtain⟨rfl,hf6⟩:=hcut
 have HS6:Hid (StAt wc g M x):=HS5.out.nix hf6
 have HF6:=Lib.hid (HF5.out.trans hf6)
 clear c0 c1 c2 c3 c4 c5 c6 c7 c8 c9 c10 c11 c12 d0 d1 d2 d3 d4 d5 d6
 obtain⟨c0,c1,c2,c3,c4,c5,c6,c7,c8,c9,c10,c11,c12⟩:=HS6.out.cells
 obtain⟨d0,d1,d2,d3,d4,d5,d6⟩:=blk7 (HB5.out.frm hf6 id)
 clear HS5 HF5 HB5 hf6
 have HS5:=HS6
 have HF5:=HF6
 have q3:∀ y:FW (Frm Nix wc),y.w.cell? ⟨g,3,none⟩=some (.map (some M.it)):=fun y=>(y.h.cell (cell_lt c3) id).trans c3
 have q7:∀ y:FW (Frm Nix wc),y.w.cell? ⟨g,7,none⟩=some (.map (some M.gu)):=fun y=>(y.h.cell (cell_lt c7) id).trans c7
 have p2:∀ y:FW (Frm Nix wc),y.w.cell? ⟨be,2,none⟩=some (.int .i64 b):=fun y=>(y.h.cell (cell_lt d2) id).trans d2
 have p4:∀ y:FW (Frm Nix wc),y.w.cell? ⟨be,4,none⟩=some (.string s):=fun y=>(y.h.cell (cell_lt d4) id).trans d4
 obtain⟨sl7,hm7,-⟩:=HS5.out.maps.it
 have ln:∀ (y:FW (Frm Nix wc)) (ty:TypeId),(Builtin.len_ #[74] ty #[.map (some M.it)]).run Tryz.prog y.w=.ok (.int .i64 x.itms.length) y.w:=fun y ty=>by
  have:=(hm7.frm y.h id).len (P:=Tryz.prog) Tryz.underlying74 ty
  simpa using this
 have nl:∀ y:FW (Frm Nix wc),(Instr.lookup 78 (.map (some M.gu)) (.agg #[.int .i64 b,.string s]) false).run Tryz.prog y.w=.ok (.int .i64 (guidS x b s)) y.w:=fun y=>(HS5.out.nix y.h).guidLook hb hsz false
 clear c0 c1 c2 c4 c5 c6 c8 c9 c10 c11 c12 hsz hm7
 generalize guidS x b s=ni at *
 generalize isI Itm.id a x.itms=ia at *
 generalize isI Fee.id b x.fees=ib at *
 generalize x.itms.length=ll at *
 cases ia
 ·by_cases h2:ll<1024
  ·have k2:decide ((ll:Int)<1024)=true:=by simp;omega
   cases ib
   ·skip
    go_wp2_with fail
    refine wp_region_class (Frm Nix wc) ((Frm.refl Nix wc).drew) (by kernel_rfl) (by kernel_rfl) ?_
    repeat (go_big_quiet_step (fail))
    refine wpQuiet_nil ?_
    rintro w3 ⟨⟨_,hf2⟩,rfl⟩
    go_wp2
    go_ret
    exact⟨ret_bool (by rw[HE.out];try simp[*]),HF5.out.trans hf2⟩
   ·by_cases h4:ni=0
    ·have hni:(ni==0)=true:=by simp[h4]
     subst h4
     go_wp2_with fail
     refine wp_region_class (Frm Nix wc) ((Frm.refl Nix wc).drew) (by kernel_rfl) (by kernel_rfl) ?_
     repeat (go_big_quiet_step (fail))
     refine wpQuiet_nil ?_
     rintro w3 ⟨⟨_,hf2⟩,rfl⟩
     go_wp2
     go_ret
     exact⟨ret_bool (by rw[HE.out];try simp[*]),HF5.out.trans hf2⟩
    ·have hni:(ni==0)=false:=by simp[h4]
     go_wp2_with fail
     refine wp_region_class (Frm Nix wc) ((Frm.refl Nix wc).drew) (by kernel_rfl) (by kernel_rfl) ?_
     repeat (go_big_quiet_step (fail))
     refine wpQuiet_nil ?_
     rintro w3 ⟨⟨_,hf2⟩,rfl⟩
     go_wp2
     go_ret
     exact⟨ret_bool (by rw[HE.out];try simp[*]),HF5.out.trans hf2⟩
  ·have k2:decide ((ll:Int)<1024)=false:=by simp;omega
   go_wp2_with fail
   refine wp_region_class (Frm Nix wc) ((Frm.refl Nix wc).drew) (by kernel_rfl) (by kernel_rfl) ?_
   repeat (go_big_quiet_step (fail))
   refine wpQuiet_nil ?_
   rintro w3 ⟨⟨_,hf2⟩,rfl⟩
   go_wp2
   go_ret
   exact⟨ret_bool (by rw[HE.out];try simp[*]),HF5.out.trans hf2⟩
 ·skip
  go_wp2_with fail
  refine wp_region_class (Frm Nix wc) ((Frm.refl Nix wc).drew) (by kernel_rfl) (by kernel_rfl) ?_
  repeat (go_big_quiet_step (fail))
  refine wpQuiet_nil ?_
  rintro w3 ⟨⟨_,hf2⟩,rfl⟩
  go_wp2
  go_ret
  exact⟨ret_bool (by rw[HE.out];try simp[*]),HF5.out.trans hf2⟩
theorem FitsT8 {w wc:World} {g be:Nat} {M:Ms} {x:St} (hS:StAt wc g M x) (hF:Frm Nix w wc) (a b n:Int) (s t u:ByteArray) (hB:Blk wc be 38 #[.int .i64 8,.int .i64 a,.int .i64 b,.int .i64 n,.string s,.string t,.string u]) (he:evOk ⟨8,a,b,n,s,t,u⟩=true) (ha:I64 a) (hb:I64 b) {u5 u7 u9 u11 u13 u14 u15 u16 u17 u18 u19 u20 u21 u22 u23 u24 u25 u26 u27 u28 u29 u30 u31 u32 u33 u34 u35 u36 u37 u38 u39 u40 u41 u42 u43 u44 u45 u46 u47 u48 u49 u50 u51 u52 u53 u54 u55 u56 u57 u58 u59 u60 u61 u62 u63 u64 u65 u66 u67 u68 u69 u70 u71 u72 u73 u74 u75 u76 u77 u78 u79 u80 u81 u82 u83 u84 u85 u86 u87 u88 u89 u90 u91 u92 u93 u94 u95 u96 u97 u98 u99 u100 u101 u102 u103 u104 u105 u106 u107 u108 u109 u110 u111 u112 u113 u114 u115 u116 u117 u118 u119 u120 u121 u122 u123 u124 u125 u126 u127 u128 u129 u130 u131 u132 u133 u134 u135 u136 u137 u138 u139 u140 u141 u142 u143 u144 u145 u146 u147 u148 u149 u150 u151 u152 u153 u154 u155 u156 u157 u158 u159 u160 u161 u162 u163 u164 u165 u166 u167 u168 u169 u170 u171 u172 u173 u174 u175 u176 u177 u178 u179 u180 u181 u182 u183 u184 u185 u186 u187 u188 u189 u190 u191 u192 u193 u194 u195 u196 u197 u198 u199 u200 u201 u202 u203 u204 u205 u206 u207 u208 u209 u210 u211 u212 u213 u214 u215 u216 u217 u218 u219 u220 u221 u222 u223 u224 u225 u226 u227 u228 u229 u230 u231 u232 u233 u234 u235 u236 u237 u238 u239 u240 u241 u242 u243 u244 u245 u246 u247 u248 u249 u250 u251 u252 u253:Value}:
  Code.wp Tryz.prog (peel 6 (bodyOf Tryz.f13)) (bodyPost Tryz.prog Tryz.f13 fun r w'=>r=.returned (.bool (fits x ⟨8,a,b,n,s,t,u⟩))∧Frm Nix w w') ⟨#[.pointer (some ⟨g,0,none⟩),.agg #[.int .i64 8,.int .i64 a,.int .i64 b,.int .i64 n,.string s,.string t,.string u],undef,.pointer (some ⟨be,0,none⟩),.bool false,u5,.bool (isI Fol.id a x.fols),u7,.bool (isI Fee.id a x.fees),u9,.bool (isI Itm.id a x.itms),u11,.bool (isI Sea.id a x.seas),u13,u14,u15,u16,u17,u18,u19,u20,u21,u22,u23,u24,u25,u26,u27,u28,u29,u30,u31,u32,u33,u34,u35,u36,u37,u38,u39,u40,u41,u42,u43,u44,u45,u46,u47,u48,u49,u50,u51,u52,u53,u54,u55,u56,u57,u58,u59,u60,u61,u62,u63,u64,u65,u66,u67,u68,u69,u70,u71,u72,u73,u74,u75,u76,u77,u78,u79,u80,u81,u82,u83,u84,u85,u86,u87,u88,u89,u90,u91,u92,u93,u94,u95,u96,u97,u98,u99,u100,u101,u102,u103,u104,u105,u106,u107,u108,u109,u110,u111,u112,u113,u114,u115,u116,u117,u118,u119,u120,u121,u122,u123,u124,u125,u126,u127,u128,u129,u130,u131,u132,u133,u134,u135,u136,u137,u138,u139,u140,u141,u142,u143,u144,u145,u146,u147,u148,u149,u150,u151,u152,u153,u154,u155,u156,u157,u158,u159,u160,u161,u162,u163,u164,u165,u166,u167,u168,u169,u170,u171,u172,u173,u174,u175,u176,u177,u178,u179,u180,u181,u182,u183,u184,u185,u186,u187,u188,u189,u190,u191,u192,u193,u194,u195,u196,u197,u198,u199,u200,u201,u202,u203,u204,u205,u206,u207,u208,u209,u210,u211,u212,u213,u214,u215,u216,u217,u218,u219,u220,u221,u222,u223,u224,u225,u226,u227,u228,u229,u230,u231,u232,u233,u234,u235,u236,u237,u238,u239,u240,u241,u242,u243,u244,u245,u246,u247,u248,u249,u250,u251,u252,u253],[]⟩ wc:=by
 have HS5:Hid (StAt wc g M x):=hS
 have HF5:Hid (Frm Nix w wc):=hF
 have HBe:Hid (Blk wc be 38 #[.int .i64 8,.int .i64 a,.int .i64 b,.int .i64 n,.string s,.string t,.string u]):=hB
 have hf5:=Frm.refl Nix wc
 obtain⟨c0,c1,c2,c3,c4,c5,c6,c7,c8,c9,c10,c11,c12⟩:=HS5.out.cells
 obtain⟨d0,d1,d2,d3,d4,d5,d6⟩:=blk7 hB
 clear hS hF hB
 simp only[peel,bodyOf,Tryz.f13]
 have HE:Hid (fits x ⟨8,a,b,n,s,t,u⟩=(isI Itm.id a x.itms)):=by
  unfold Hid fits
  rw[if_neg (by rw[he];simp)]
  simp
 go_wp2_with (first
  | (go_at_call 53;refine(within_any HS5.out hb).mono ?_;rintro r w2 ⟨rfl,hf2⟩)
  | fail)
 go_ret
 exact⟨ret_bool (by rw[HE.out];try simp[*]),by first | exact HF5.out | exact HF5.out.trans hf2⟩
theorem FitsT9 {w wc:World} {g be:Nat} {M:Ms} {x:St} (hS:StAt wc g M x) (hF:Frm Nix w wc) (a b n:Int) (s t u:ByteArray) (hB:Blk wc be 38 #[.int .i64 9,.int .i64 a,.int .i64 b,.int .i64 n,.string s,.string t,.string u]) (he:evOk ⟨9,a,b,n,s,t,u⟩=true) (ha:I64 a) (hb:I64 b) {u5 u7 u9 u11 u13 u14 u15 u16 u17 u18 u19 u20 u21 u22 u23 u24 u25 u26 u27 u28 u29 u30 u31 u32 u33 u34 u35 u36 u37 u38 u39 u40 u41 u42 u43 u44 u45 u46 u47 u48 u49 u50 u51 u52 u53 u54 u55 u56 u57 u58 u59 u60 u61 u62 u63 u64 u65 u66 u67 u68 u69 u70 u71 u72 u73 u74 u75 u76 u77 u78 u79 u80 u81 u82 u83 u84 u85 u86 u87 u88 u89 u90 u91 u92 u93 u94 u95 u96 u97 u98 u99 u100 u101 u102 u103 u104 u105 u106 u107 u108 u109 u110 u111 u112 u113 u114 u115 u116 u117 u118 u119 u120 u121 u122 u123 u124 u125 u126 u127 u128 u129 u130 u131 u132 u133 u134 u135 u136 u137 u138 u139 u140 u141 u142 u143 u144 u145 u146 u147 u148 u149 u150 u151 u152 u153 u154 u155 u156 u157 u158 u159 u160 u161 u162 u163 u164 u165 u166 u167 u168 u169 u170 u171 u172 u173 u174 u175 u176 u177 u178 u179 u180 u181 u182 u183 u184 u185 u186 u187 u188 u189 u190 u191 u192 u193 u194 u195 u196 u197 u198 u199 u200 u201 u202 u203 u204 u205 u206 u207 u208 u209 u210 u211 u212 u213 u214 u215 u216 u217 u218 u219 u220 u221 u222 u223 u224 u225 u226 u227 u228 u229 u230 u231 u232 u233 u234 u235 u236 u237 u238 u239 u240 u241 u242 u243 u244 u245 u246 u247 u248 u249 u250 u251 u252 u253:Value}:
  Code.wp Tryz.prog (peel 6 (bodyOf Tryz.f13)) (bodyPost Tryz.prog Tryz.f13 fun r w'=>r=.returned (.bool (fits x ⟨9,a,b,n,s,t,u⟩))∧Frm Nix w w') ⟨#[.pointer (some ⟨g,0,none⟩),.agg #[.int .i64 9,.int .i64 a,.int .i64 b,.int .i64 n,.string s,.string t,.string u],undef,.pointer (some ⟨be,0,none⟩),.bool false,u5,.bool (isI Fol.id a x.fols),u7,.bool (isI Fee.id a x.fees),u9,.bool (isI Itm.id a x.itms),u11,.bool (isI Sea.id a x.seas),u13,u14,u15,u16,u17,u18,u19,u20,u21,u22,u23,u24,u25,u26,u27,u28,u29,u30,u31,u32,u33,u34,u35,u36,u37,u38,u39,u40,u41,u42,u43,u44,u45,u46,u47,u48,u49,u50,u51,u52,u53,u54,u55,u56,u57,u58,u59,u60,u61,u62,u63,u64,u65,u66,u67,u68,u69,u70,u71,u72,u73,u74,u75,u76,u77,u78,u79,u80,u81,u82,u83,u84,u85,u86,u87,u88,u89,u90,u91,u92,u93,u94,u95,u96,u97,u98,u99,u100,u101,u102,u103,u104,u105,u106,u107,u108,u109,u110,u111,u112,u113,u114,u115,u116,u117,u118,u119,u120,u121,u122,u123,u124,u125,u126,u127,u128,u129,u130,u131,u132,u133,u134,u135,u136,u137,u138,u139,u140,u141,u142,u143,u144,u145,u146,u147,u148,u149,u150,u151,u152,u153,u154,u155,u156,u157,u158,u159,u160,u161,u162,u163,u164,u165,u166,u167,u168,u169,u170,u171,u172,u173,u174,u175,u176,u177,u178,u179,u180,u181,u182,u183,u184,u185,u186,u187,u188,u189,u190,u191,u192,u193,u194,u195,u196,u197,u198,u199,u200,u201,u202,u203,u204,u205,u206,u207,u208,u209,u210,u211,u212,u213,u214,u215,u216,u217,u218,u219,u220,u221,u222,u223,u224,u225,u226,u227,u228,u229,u230,u231,u232,u233,u234,u235,u236,u237,u238,u239,u240,u241,u242,u243,u244,u245,u246,u247,u248,u249,u250,u251,u252,u253],[]⟩ wc:=by
 have HS5:Hid (StAt wc g M x):=hS
 have HF5:Hid (Frm Nix w wc):=hF
 have HBe:Hid (Blk wc be 38 #[.int .i64 9,.int .i64 a,.int .i64 b,.int .i64 n,.string s,.string t,.string u]):=hB
 have hf5:=Frm.refl Nix wc
 obtain⟨c0,c1,c2,c3,c4,c5,c6,c7,c8,c9,c10,c11,c12⟩:=HS5.out.cells
 obtain⟨d0,d1,d2,d3,d4,d5,d6⟩:=blk7 hB
 clear hS hF hB
 simp only[peel,bodyOf,Tryz.f13]
 have HE:Hid (fits x ⟨9,a,b,n,s,t,u⟩=(isI Itm.id a x.itms)):=by
  unfold Hid fits
  rw[if_neg (by rw[he];simp)]
  simp
 go_wp2_with (first
  | (go_at_call 53;refine(within_any HS5.out hb).mono ?_;rintro r w2 ⟨rfl,hf2⟩)
  | fail)
 go_ret
 exact⟨ret_bool (by rw[HE.out];try simp[*]),by first | exact HF5.out | exact HF5.out.trans hf2⟩
end Go.Proofs.YtlafbakoefcifaaGreat
