/-
  Contracts: Fits: what stands ahead of its switch; Fits.
-/
import Derived.Test.YtlafbakoefcifaaGreatGa17
import Derived.Test.YtlafbakoefcifaaGreatGa18
import Derived.Test.YtlafbakoefcifaaGreatGa19
import Derived.Deep.RegionHeld3
import Derived.Deep.Cut
set_option linter.unusedVariables false
set_option linter.unusedSimpArgs false
set_option maxRecDepth 100000
set_option maxHeartbeats 16000000
namespace Go.Proofs.YtlafbakoefcifaaGreat
open Go.RowKit Go.Lib
theorem FitsT {w wc:World} {g be:Nat} {M:Ms} {x:St} (hS:StAt wc g M x) (hF:Frm Nix w wc) (k a b n:Int) (s t u:ByteArray) (hB:Blk wc be 38 #[.int .i64 k,.int .i64 a,.int .i64 b,.int .i64 n,.string s,.string t,.string u]) (he:evOk ⟨k,a,b,n,s,t,u⟩=true) (ha:I64 a) (hb:I64 b) {u5 u7 u9 u11 u13 u14 u15 u16 u17 u18 u19 u20 u21 u22 u23 u24 u25 u26 u27 u28 u29 u30 u31 u32 u33 u34 u35 u36 u37 u38 u39 u40 u41 u42 u43 u44 u45 u46 u47 u48 u49 u50 u51 u52 u53 u54 u55 u56 u57 u58 u59 u60 u61 u62 u63 u64 u65 u66 u67 u68 u69 u70 u71 u72 u73 u74 u75 u76 u77 u78 u79 u80 u81 u82 u83 u84 u85 u86 u87 u88 u89 u90 u91 u92 u93 u94 u95 u96 u97 u98 u99 u100 u101 u102 u103 u104 u105 u106 u107 u108 u109 u110 u111 u112 u113 u114 u115 u116 u117 u118 u119 u120 u121 u122 u123 u124 u125 u126 u127 u128 u129 u130 u131 u132 u133 u134 u135 u136 u137 u138 u139 u140 u141 u142 u143 u144 u145 u146 u147 u148 u149 u150 u151 u152 u153 u154 u155 u156 u157 u158 u159 u160 u161 u162 u163 u164 u165 u166 u167 u168 u169 u170 u171 u172 u173 u174 u175 u176 u177 u178 u179 u180 u181 u182 u183 u184 u185 u186 u187 u188 u189 u190 u191 u192 u193 u194 u195 u196 u197 u198 u199 u200 u201 u202 u203 u204 u205 u206 u207 u208 u209 u210 u211 u212 u213 u214 u215 u216 u217 u218 u219 u220 u221 u222 u223 u224 u225 u226 u227 u228 u229 u230 u231 u232 u233 u234 u235 u236 u237 u238 u239 u240 u241 u242 u243 u244 u245 u246 u247 u248 u249 u250 u251 u252 u253:Value}:
  Code.wp Tryz.prog (peel 6 (bodyOf Tryz.f13)) (bodyPost Tryz.prog Tryz.f13 fun r w'=>r=.returned (.bool (fits x ⟨k,a,b,n,s,t,u⟩))∧Frm Nix w w') ⟨#[.pointer (some ⟨g,0,none⟩),.agg #[.int .i64 k,.int .i64 a,.int .i64 b,.int .i64 n,.string s,.string t,.string u],undef,.pointer (some ⟨be,0,none⟩),.bool false,u5,.bool (isI Fol.id a x.fols),u7,.bool (isI Fee.id a x.fees),u9,.bool (isI Itm.id a x.itms),u11,.bool (isI Sea.id a x.seas),u13,u14,u15,u16,u17,u18,u19,u20,u21,u22,u23,u24,u25,u26,u27,u28,u29,u30,u31,u32,u33,u34,u35,u36,u37,u38,u39,u40,u41,u42,u43,u44,u45,u46,u47,u48,u49,u50,u51,u52,u53,u54,u55,u56,u57,u58,u59,u60,u61,u62,u63,u64,u65,u66,u67,u68,u69,u70,u71,u72,u73,u74,u75,u76,u77,u78,u79,u80,u81,u82,u83,u84,u85,u86,u87,u88,u89,u90,u91,u92,u93,u94,u95,u96,u97,u98,u99,u100,u101,u102,u103,u104,u105,u106,u107,u108,u109,u110,u111,u112,u113,u114,u115,u116,u117,u118,u119,u120,u121,u122,u123,u124,u125,u126,u127,u128,u129,u130,u131,u132,u133,u134,u135,u136,u137,u138,u139,u140,u141,u142,u143,u144,u145,u146,u147,u148,u149,u150,u151,u152,u153,u154,u155,u156,u157,u158,u159,u160,u161,u162,u163,u164,u165,u166,u167,u168,u169,u170,u171,u172,u173,u174,u175,u176,u177,u178,u179,u180,u181,u182,u183,u184,u185,u186,u187,u188,u189,u190,u191,u192,u193,u194,u195,u196,u197,u198,u199,u200,u201,u202,u203,u204,u205,u206,u207,u208,u209,u210,u211,u212,u213,u214,u215,u216,u217,u218,u219,u220,u221,u222,u223,u224,u225,u226,u227,u228,u229,u230,u231,u232,u233,u234,u235,u236,u237,u238,u239,u240,u241,u242,u243,u244,u245,u246,u247,u248,u249,u250,u251,u252,u253],[]⟩ wc:=by
 have hk:=evKind he
 simp only at hk
 rcases hk with rfl | rfl | rfl | rfl | rfl | rfl | rfl | rfl | rfl | rfl | rfl | rfl | rfl
 ·exact FitsT1 hS hF a b n s t u hB he ha hb
 ·exact FitsT2 hS hF a b n s t u hB he ha hb
 ·exact FitsT3 hS hF a b n s t u hB he ha hb
 ·exact FitsT4 hS hF a b n s t u hB he ha hb
 ·exact FitsT5 hS hF a b n s t u hB he ha hb
 ·exact FitsT6 hS hF a b n s t u hB he ha hb
 ·exact FitsT7 hS hF a b n s t u hB he ha hb
 ·exact FitsT8 hS hF a b n s t u hB he ha hb
 ·exact FitsT9 hS hF a b n s t u hB he ha hb
 ·exact FitsT10 hS hF a b n s t u hB he ha hb
 ·exact FitsT11 hS hF a b n s t u hB he ha hb
 ·exact FitsT12 hS hF a b n s t u hB he ha hb
 ·exact FitsT13 hS hF a b n s t u hB he ha hb
theorem FitsP6 {w wc:World} {g be:Nat} {M:Ms} {x:St} (hS:StAt wc g M x) (hF:Frm Nix w wc) (k a b n:Int) (s t u:ByteArray) (hB:Blk wc be 38 #[.int .i64 k,.int .i64 a,.int .i64 b,.int .i64 n,.string s,.string t,.string u]) (he:evOk ⟨k,a,b,n,s,t,u⟩=true) (ha:I64 a) (hb:I64 b) {u5 u7 u9 u11 u12 u13 u14 u15 u16 u17 u18 u19 u20 u21 u22 u23 u24 u25 u26 u27 u28 u29 u30 u31 u32 u33 u34 u35 u36 u37 u38 u39 u40 u41 u42 u43 u44 u45 u46 u47 u48 u49 u50 u51 u52 u53 u54 u55 u56 u57 u58 u59 u60 u61 u62 u63 u64 u65 u66 u67 u68 u69 u70 u71 u72 u73 u74 u75 u76 u77 u78 u79 u80 u81 u82 u83 u84 u85 u86 u87 u88 u89 u90 u91 u92 u93 u94 u95 u96 u97 u98 u99 u100 u101 u102 u103 u104 u105 u106 u107 u108 u109 u110 u111 u112 u113 u114 u115 u116 u117 u118 u119 u120 u121 u122 u123 u124 u125 u126 u127 u128 u129 u130 u131 u132 u133 u134 u135 u136 u137 u138 u139 u140 u141 u142 u143 u144 u145 u146 u147 u148 u149 u150 u151 u152 u153 u154 u155 u156 u157 u158 u159 u160 u161 u162 u163 u164 u165 u166 u167 u168 u169 u170 u171 u172 u173 u174 u175 u176 u177 u178 u179 u180 u181 u182 u183 u184 u185 u186 u187 u188 u189 u190 u191 u192 u193 u194 u195 u196 u197 u198 u199 u200 u201 u202 u203 u204 u205 u206 u207 u208 u209 u210 u211 u212 u213 u214 u215 u216 u217 u218 u219 u220 u221 u222 u223 u224 u225 u226 u227 u228 u229 u230 u231 u232 u233 u234 u235 u236 u237 u238 u239 u240 u241 u242 u243 u244 u245 u246 u247 u248 u249 u250 u251 u252 u253:Value}:
  Code.wp Tryz.prog (peel 5 (bodyOf Tryz.f13)) (bodyPost Tryz.prog Tryz.f13 fun r w'=>r=.returned (.bool (fits x ⟨k,a,b,n,s,t,u⟩))∧Frm Nix w w') ⟨#[.pointer (some ⟨g,0,none⟩),.agg #[.int .i64 k,.int .i64 a,.int .i64 b,.int .i64 n,.string s,.string t,.string u],undef,.pointer (some ⟨be,0,none⟩),.bool false,u5,.bool (isI Fol.id a x.fols),u7,.bool (isI Fee.id a x.fees),u9,.bool (isI Itm.id a x.itms),u11,u12,u13,u14,u15,u16,u17,u18,u19,u20,u21,u22,u23,u24,u25,u26,u27,u28,u29,u30,u31,u32,u33,u34,u35,u36,u37,u38,u39,u40,u41,u42,u43,u44,u45,u46,u47,u48,u49,u50,u51,u52,u53,u54,u55,u56,u57,u58,u59,u60,u61,u62,u63,u64,u65,u66,u67,u68,u69,u70,u71,u72,u73,u74,u75,u76,u77,u78,u79,u80,u81,u82,u83,u84,u85,u86,u87,u88,u89,u90,u91,u92,u93,u94,u95,u96,u97,u98,u99,u100,u101,u102,u103,u104,u105,u106,u107,u108,u109,u110,u111,u112,u113,u114,u115,u116,u117,u118,u119,u120,u121,u122,u123,u124,u125,u126,u127,u128,u129,u130,u131,u132,u133,u134,u135,u136,u137,u138,u139,u140,u141,u142,u143,u144,u145,u146,u147,u148,u149,u150,u151,u152,u153,u154,u155,u156,u157,u158,u159,u160,u161,u162,u163,u164,u165,u166,u167,u168,u169,u170,u171,u172,u173,u174,u175,u176,u177,u178,u179,u180,u181,u182,u183,u184,u185,u186,u187,u188,u189,u190,u191,u192,u193,u194,u195,u196,u197,u198,u199,u200,u201,u202,u203,u204,u205,u206,u207,u208,u209,u210,u211,u212,u213,u214,u215,u216,u217,u218,u219,u220,u221,u222,u223,u224,u225,u226,u227,u228,u229,u230,u231,u232,u233,u234,u235,u236,u237,u238,u239,u240,u241,u242,u243,u244,u245,u246,u247,u248,u249,u250,u251,u252,u253],[]⟩ wc:=by
 have e:peel 5 (bodyOf Tryz.f13)=.seq (hdC (peel 5 (bodyOf Tryz.f13))) (peel 6 (bodyOf Tryz.f13)):=by kernel_rfl
 rw[e]
 clear e
 refine wp_seq_k fun K hK=>?_
 have HMk:Hid (∀ W,Frm Nix wc W→(fun W=>Frm Nix wc W∧W.cell? ⟨g,4,none⟩=some (.map (some M.se))∧W.cell? ⟨be,1,none⟩=some (.int .i64 a)∧(Instr.lookup 75 (.map (some M.se)) (.int .i64 a) true).run Tryz.prog W=.ok (.tuple #[.agg #[.int .i64 (seaAt x a).id,.string (seaAt x a).name,.string (seaAt x a).query],.bool (isI Sea.id a x.seas)]) W) W):=fun W hf=>⟨hf,(hS.nix hf).cells.2.2.2.2.1,(blk7 (hB.frm hf id)).2.1,(hS.nix hf).seaLook2 ha⟩
 have HK:Hid (∀ (a':Unit) (w':World),Frm Nix wc w'→StAt w' g M x∧Frm Nix w w'∧Blk w' be 38 #[.int .i64 k,.int .i64 a,.int .i64 b,.int .i64 n,.string s,.string t,.string u]):=fun _ w' hf=>⟨hS.nix hf,hF.trans hf,hB.frm hf id⟩
 have hf0:=Frm.refl Nix wc
 simp only[hdC,peel,bodyOf,Tryz.f13]
 clear hS hF hB
 go_region_held3 (fun W=>Frm Nix wc W∧W.cell? ⟨g,4,none⟩=some (.map (some M.se))∧W.cell? ⟨be,1,none⟩=some (.int .i64 a)∧(Instr.lookup 75 (.map (some M.se)) (.int .i64 a) true).run Tryz.prog W=.ok (.tuple #[.agg #[.int .i64 (seaAt x a).id,.string (seaAt x a).name,.string (seaAt x a).query],.bool (isI Sea.id a x.seas)]) W) (first | exact HMk.out _ hf0 | exact HMk.out _ (Frm.drew hf0) | exact HMk.out _ (Frm.alloc (by assumption) _) | exact HMk.out _ (Frm.alloc (Frm.drew (by assumption)) _) | exact HMk.out _ (Frm.drew (by assumption)) | exact HMk.out _ (by assumption)) (first | fail)
 all_goals
  go_wp2
  exact FitsT (HK.out () _ (Frm.alloc hf0 _).drew).1 (HK.out () _ (Frm.alloc hf0 _).drew).2.1 k a b n s t u (HK.out () _ (Frm.alloc hf0 _).drew).2.2 he ha hb
theorem FitsP5 {w wc:World} {g be:Nat} {M:Ms} {x:St} (hS:StAt wc g M x) (hF:Frm Nix w wc) (k a b n:Int) (s t u:ByteArray) (hB:Blk wc be 38 #[.int .i64 k,.int .i64 a,.int .i64 b,.int .i64 n,.string s,.string t,.string u]) (he:evOk ⟨k,a,b,n,s,t,u⟩=true) (ha:I64 a) (hb:I64 b) {u5 u7 u9 u10 u11 u12 u13 u14 u15 u16 u17 u18 u19 u20 u21 u22 u23 u24 u25 u26 u27 u28 u29 u30 u31 u32 u33 u34 u35 u36 u37 u38 u39 u40 u41 u42 u43 u44 u45 u46 u47 u48 u49 u50 u51 u52 u53 u54 u55 u56 u57 u58 u59 u60 u61 u62 u63 u64 u65 u66 u67 u68 u69 u70 u71 u72 u73 u74 u75 u76 u77 u78 u79 u80 u81 u82 u83 u84 u85 u86 u87 u88 u89 u90 u91 u92 u93 u94 u95 u96 u97 u98 u99 u100 u101 u102 u103 u104 u105 u106 u107 u108 u109 u110 u111 u112 u113 u114 u115 u116 u117 u118 u119 u120 u121 u122 u123 u124 u125 u126 u127 u128 u129 u130 u131 u132 u133 u134 u135 u136 u137 u138 u139 u140 u141 u142 u143 u144 u145 u146 u147 u148 u149 u150 u151 u152 u153 u154 u155 u156 u157 u158 u159 u160 u161 u162 u163 u164 u165 u166 u167 u168 u169 u170 u171 u172 u173 u174 u175 u176 u177 u178 u179 u180 u181 u182 u183 u184 u185 u186 u187 u188 u189 u190 u191 u192 u193 u194 u195 u196 u197 u198 u199 u200 u201 u202 u203 u204 u205 u206 u207 u208 u209 u210 u211 u212 u213 u214 u215 u216 u217 u218 u219 u220 u221 u222 u223 u224 u225 u226 u227 u228 u229 u230 u231 u232 u233 u234 u235 u236 u237 u238 u239 u240 u241 u242 u243 u244 u245 u246 u247 u248 u249 u250 u251 u252 u253:Value}:
  Code.wp Tryz.prog (peel 4 (bodyOf Tryz.f13)) (bodyPost Tryz.prog Tryz.f13 fun r w'=>r=.returned (.bool (fits x ⟨k,a,b,n,s,t,u⟩))∧Frm Nix w w') ⟨#[.pointer (some ⟨g,0,none⟩),.agg #[.int .i64 k,.int .i64 a,.int .i64 b,.int .i64 n,.string s,.string t,.string u],undef,.pointer (some ⟨be,0,none⟩),.bool false,u5,.bool (isI Fol.id a x.fols),u7,.bool (isI Fee.id a x.fees),u9,u10,u11,u12,u13,u14,u15,u16,u17,u18,u19,u20,u21,u22,u23,u24,u25,u26,u27,u28,u29,u30,u31,u32,u33,u34,u35,u36,u37,u38,u39,u40,u41,u42,u43,u44,u45,u46,u47,u48,u49,u50,u51,u52,u53,u54,u55,u56,u57,u58,u59,u60,u61,u62,u63,u64,u65,u66,u67,u68,u69,u70,u71,u72,u73,u74,u75,u76,u77,u78,u79,u80,u81,u82,u83,u84,u85,u86,u87,u88,u89,u90,u91,u92,u93,u94,u95,u96,u97,u98,u99,u100,u101,u102,u103,u104,u105,u106,u107,u108,u109,u110,u111,u112,u113,u114,u115,u116,u117,u118,u119,u120,u121,u122,u123,u124,u125,u126,u127,u128,u129,u130,u131,u132,u133,u134,u135,u136,u137,u138,u139,u140,u141,u142,u143,u144,u145,u146,u147,u148,u149,u150,u151,u152,u153,u154,u155,u156,u157,u158,u159,u160,u161,u162,u163,u164,u165,u166,u167,u168,u169,u170,u171,u172,u173,u174,u175,u176,u177,u178,u179,u180,u181,u182,u183,u184,u185,u186,u187,u188,u189,u190,u191,u192,u193,u194,u195,u196,u197,u198,u199,u200,u201,u202,u203,u204,u205,u206,u207,u208,u209,u210,u211,u212,u213,u214,u215,u216,u217,u218,u219,u220,u221,u222,u223,u224,u225,u226,u227,u228,u229,u230,u231,u232,u233,u234,u235,u236,u237,u238,u239,u240,u241,u242,u243,u244,u245,u246,u247,u248,u249,u250,u251,u252,u253],[]⟩ wc:=by
 have e:peel 4 (bodyOf Tryz.f13)=.seq (hdC (peel 4 (bodyOf Tryz.f13))) (peel 5 (bodyOf Tryz.f13)):=by kernel_rfl
 rw[e]
 clear e
 refine wp_seq_k fun K hK=>?_
 obtain⟨vt,hvt⟩:=hS.itmSl ha
 have HMk:Hid (∀ W,Frm Nix wc W→(fun W=>Frm Nix wc W∧W.cell? ⟨g,3,none⟩=some (.map (some M.it))∧W.cell? ⟨be,1,none⟩=some (.int .i64 a)∧(Instr.lookup 74 (.map (some M.it)) (.int .i64 a) true).run Tryz.prog W=.ok (.tuple #[.agg #[.int .i64 (itmAt x a).id,.int .i64 (itmAt x a).feed,.int .i64 (itmAt x a).date,.string (itmAt x a).guid,.string (itmAt x a).title,.string (itmAt x a).link,.bool (itmAt x a).read,.bool (itmAt x a).star,.slice vt.1 (itmAt x a).tags.length vt.2],.bool (isI Itm.id a x.itms)]) W) W):=fun W hf=>⟨hf,(hS.nix hf).cells.2.2.2.1,(blk7 (hB.frm hf id)).2.1,StAt.itmLook2 (hvt _ hf).2⟩
 have HK:Hid (∀ (a':Unit) (w':World),Frm Nix wc w'→StAt w' g M x∧Frm Nix w w'∧Blk w' be 38 #[.int .i64 k,.int .i64 a,.int .i64 b,.int .i64 n,.string s,.string t,.string u]):=fun _ w' hf=>⟨hS.nix hf,hF.trans hf,hB.frm hf id⟩
 have hf0:=Frm.refl Nix wc
 simp only[hdC,peel,bodyOf,Tryz.f13]
 clear hS hF hB hvt
 go_region_held3 (fun W=>Frm Nix wc W∧W.cell? ⟨g,3,none⟩=some (.map (some M.it))∧W.cell? ⟨be,1,none⟩=some (.int .i64 a)∧(Instr.lookup 74 (.map (some M.it)) (.int .i64 a) true).run Tryz.prog W=.ok (.tuple #[.agg #[.int .i64 (itmAt x a).id,.int .i64 (itmAt x a).feed,.int .i64 (itmAt x a).date,.string (itmAt x a).guid,.string (itmAt x a).title,.string (itmAt x a).link,.bool (itmAt x a).read,.bool (itmAt x a).star,.slice vt.1 (itmAt x a).tags.length vt.2],.bool (isI Itm.id a x.itms)]) W) (first | exact HMk.out _ hf0 | exact HMk.out _ (Frm.drew hf0) | exact HMk.out _ (Frm.alloc (by assumption) _) | exact HMk.out _ (Frm.alloc (Frm.drew (by assumption)) _) | exact HMk.out _ (Frm.drew (by assumption)) | exact HMk.out _ (by assumption)) (first | fail)
 all_goals
  go_wp2
  exact FitsP6 (HK.out () _ (Frm.alloc hf0 _).drew).1 (HK.out () _ (Frm.alloc hf0 _).drew).2.1 k a b n s t u (HK.out () _ (Frm.alloc hf0 _).drew).2.2 he ha hb
theorem FitsP4 {w wc:World} {g be:Nat} {M:Ms} {x:St} (hS:StAt wc g M x) (hF:Frm Nix w wc) (k a b n:Int) (s t u:ByteArray) (hB:Blk wc be 38 #[.int .i64 k,.int .i64 a,.int .i64 b,.int .i64 n,.string s,.string t,.string u]) (he:evOk ⟨k,a,b,n,s,t,u⟩=true) (ha:I64 a) (hb:I64 b) {u5 u7 u8 u9 u10 u11 u12 u13 u14 u15 u16 u17 u18 u19 u20 u21 u22 u23 u24 u25 u26 u27 u28 u29 u30 u31 u32 u33 u34 u35 u36 u37 u38 u39 u40 u41 u42 u43 u44 u45 u46 u47 u48 u49 u50 u51 u52 u53 u54 u55 u56 u57 u58 u59 u60 u61 u62 u63 u64 u65 u66 u67 u68 u69 u70 u71 u72 u73 u74 u75 u76 u77 u78 u79 u80 u81 u82 u83 u84 u85 u86 u87 u88 u89 u90 u91 u92 u93 u94 u95 u96 u97 u98 u99 u100 u101 u102 u103 u104 u105 u106 u107 u108 u109 u110 u111 u112 u113 u114 u115 u116 u117 u118 u119 u120 u121 u122 u123 u124 u125 u126 u127 u128 u129 u130 u131 u132 u133 u134 u135 u136 u137 u138 u139 u140 u141 u142 u143 u144 u145 u146 u147 u148 u149 u150 u151 u152 u153 u154 u155 u156 u157 u158 u159 u160 u161 u162 u163 u164 u165 u166 u167 u168 u169 u170 u171 u172 u173 u174 u175 u176 u177 u178 u179 u180 u181 u182 u183 u184 u185 u186 u187 u188 u189 u190 u191 u192 u193 u194 u195 u196 u197 u198 u199 u200 u201 u202 u203 u204 u205 u206 u207 u208 u209 u210 u211 u212 u213 u214 u215 u216 u217 u218 u219 u220 u221 u222 u223 u224 u225 u226 u227 u228 u229 u230 u231 u232 u233 u234 u235 u236 u237 u238 u239 u240 u241 u242 u243 u244 u245 u246 u247 u248 u249 u250 u251 u252 u253:Value}:
  Code.wp Tryz.prog (peel 3 (bodyOf Tryz.f13)) (bodyPost Tryz.prog Tryz.f13 fun r w'=>r=.returned (.bool (fits x ⟨k,a,b,n,s,t,u⟩))∧Frm Nix w w') ⟨#[.pointer (some ⟨g,0,none⟩),.agg #[.int .i64 k,.int .i64 a,.int .i64 b,.int .i64 n,.string s,.string t,.string u],undef,.pointer (some ⟨be,0,none⟩),.bool false,u5,.bool (isI Fol.id a x.fols),u7,u8,u9,u10,u11,u12,u13,u14,u15,u16,u17,u18,u19,u20,u21,u22,u23,u24,u25,u26,u27,u28,u29,u30,u31,u32,u33,u34,u35,u36,u37,u38,u39,u40,u41,u42,u43,u44,u45,u46,u47,u48,u49,u50,u51,u52,u53,u54,u55,u56,u57,u58,u59,u60,u61,u62,u63,u64,u65,u66,u67,u68,u69,u70,u71,u72,u73,u74,u75,u76,u77,u78,u79,u80,u81,u82,u83,u84,u85,u86,u87,u88,u89,u90,u91,u92,u93,u94,u95,u96,u97,u98,u99,u100,u101,u102,u103,u104,u105,u106,u107,u108,u109,u110,u111,u112,u113,u114,u115,u116,u117,u118,u119,u120,u121,u122,u123,u124,u125,u126,u127,u128,u129,u130,u131,u132,u133,u134,u135,u136,u137,u138,u139,u140,u141,u142,u143,u144,u145,u146,u147,u148,u149,u150,u151,u152,u153,u154,u155,u156,u157,u158,u159,u160,u161,u162,u163,u164,u165,u166,u167,u168,u169,u170,u171,u172,u173,u174,u175,u176,u177,u178,u179,u180,u181,u182,u183,u184,u185,u186,u187,u188,u189,u190,u191,u192,u193,u194,u195,u196,u197,u198,u199,u200,u201,u202,u203,u204,u205,u206,u207,u208,u209,u210,u211,u212,u213,u214,u215,u216,u217,u218,u219,u220,u221,u222,u223,u224,u225,u226,u227,u228,u229,u230,u231,u232,u233,u234,u235,u236,u237,u238,u239,u240,u241,u242,u243,u244,u245,u246,u247,u248,u249,u250,u251,u252,u253],[]⟩ wc:=by
 have e:peel 3 (bodyOf Tryz.f13)=.seq (hdC (peel 3 (bodyOf Tryz.f13))) (peel 4 (bodyOf Tryz.f13)):=by kernel_rfl
 rw[e]
 clear e
 refine wp_seq_k fun K hK=>?_
 have HMk:Hid (∀ W,Frm Nix wc W→(fun W=>Frm Nix wc W∧W.cell? ⟨g,2,none⟩=some (.map (some M.fe))∧W.cell? ⟨be,1,none⟩=some (.int .i64 a)∧(Instr.lookup 73 (.map (some M.fe)) (.int .i64 a) true).run Tryz.prog W=.ok (.tuple #[.agg #[.int .i64 (feeAt x a).id,.int .i64 (feeAt x a).inn,.string (feeAt x a).url,.string (feeAt x a).title],.bool (isI Fee.id a x.fees)]) W) W):=fun W hf=>⟨hf,(hS.nix hf).cells.2.2.1,(blk7 (hB.frm hf id)).2.1,(hS.nix hf).feeLook2 ha⟩
 have HK:Hid (∀ (a':Unit) (w':World),Frm Nix wc w'→StAt w' g M x∧Frm Nix w w'∧Blk w' be 38 #[.int .i64 k,.int .i64 a,.int .i64 b,.int .i64 n,.string s,.string t,.string u]):=fun _ w' hf=>⟨hS.nix hf,hF.trans hf,hB.frm hf id⟩
 have hf0:=Frm.refl Nix wc
 simp only[hdC,peel,bodyOf,Tryz.f13]
 clear hS hF hB
 go_region_held3 (fun W=>Frm Nix wc W∧W.cell? ⟨g,2,none⟩=some (.map (some M.fe))∧W.cell? ⟨be,1,none⟩=some (.int .i64 a)∧(Instr.lookup 73 (.map (some M.fe)) (.int .i64 a) true).run Tryz.prog W=.ok (.tuple #[.agg #[.int .i64 (feeAt x a).id,.int .i64 (feeAt x a).inn,.string (feeAt x a).url,.string (feeAt x a).title],.bool (isI Fee.id a x.fees)]) W) (first | exact HMk.out _ hf0 | exact HMk.out _ (Frm.drew hf0) | exact HMk.out _ (Frm.alloc (by assumption) _) | exact HMk.out _ (Frm.alloc (Frm.drew (by assumption)) _) | exact HMk.out _ (Frm.drew (by assumption)) | exact HMk.out _ (by assumption)) (first | fail)
 all_goals
  go_wp2
  exact FitsP5 (HK.out () _ (Frm.alloc hf0 _).drew).1 (HK.out () _ (Frm.alloc hf0 _).drew).2.1 k a b n s t u (HK.out () _ (Frm.alloc hf0 _).drew).2.2 he ha hb
theorem FitsP3 {w wc:World} {g be:Nat} {M:Ms} {x:St} (hS:StAt wc g M x) (hF:Frm Nix w wc) (k a b n:Int) (s t u:ByteArray) (hB:Blk wc be 38 #[.int .i64 k,.int .i64 a,.int .i64 b,.int .i64 n,.string s,.string t,.string u]) (he:evOk ⟨k,a,b,n,s,t,u⟩=true) (ha:I64 a) (hb:I64 b) {u5 u6 u7 u8 u9 u10 u11 u12 u13 u14 u15 u16 u17 u18 u19 u20 u21 u22 u23 u24 u25 u26 u27 u28 u29 u30 u31 u32 u33 u34 u35 u36 u37 u38 u39 u40 u41 u42 u43 u44 u45 u46 u47 u48 u49 u50 u51 u52 u53 u54 u55 u56 u57 u58 u59 u60 u61 u62 u63 u64 u65 u66 u67 u68 u69 u70 u71 u72 u73 u74 u75 u76 u77 u78 u79 u80 u81 u82 u83 u84 u85 u86 u87 u88 u89 u90 u91 u92 u93 u94 u95 u96 u97 u98 u99 u100 u101 u102 u103 u104 u105 u106 u107 u108 u109 u110 u111 u112 u113 u114 u115 u116 u117 u118 u119 u120 u121 u122 u123 u124 u125 u126 u127 u128 u129 u130 u131 u132 u133 u134 u135 u136 u137 u138 u139 u140 u141 u142 u143 u144 u145 u146 u147 u148 u149 u150 u151 u152 u153 u154 u155 u156 u157 u158 u159 u160 u161 u162 u163 u164 u165 u166 u167 u168 u169 u170 u171 u172 u173 u174 u175 u176 u177 u178 u179 u180 u181 u182 u183 u184 u185 u186 u187 u188 u189 u190 u191 u192 u193 u194 u195 u196 u197 u198 u199 u200 u201 u202 u203 u204 u205 u206 u207 u208 u209 u210 u211 u212 u213 u214 u215 u216 u217 u218 u219 u220 u221 u222 u223 u224 u225 u226 u227 u228 u229 u230 u231 u232 u233 u234 u235 u236 u237 u238 u239 u240 u241 u242 u243 u244 u245 u246 u247 u248 u249 u250 u251 u252 u253:Value}:
  Code.wp Tryz.prog (peel 2 (bodyOf Tryz.f13)) (bodyPost Tryz.prog Tryz.f13 fun r w'=>r=.returned (.bool (fits x ⟨k,a,b,n,s,t,u⟩))∧Frm Nix w w') ⟨#[.pointer (some ⟨g,0,none⟩),.agg #[.int .i64 k,.int .i64 a,.int .i64 b,.int .i64 n,.string s,.string t,.string u],undef,.pointer (some ⟨be,0,none⟩),.bool false,u5,u6,u7,u8,u9,u10,u11,u12,u13,u14,u15,u16,u17,u18,u19,u20,u21,u22,u23,u24,u25,u26,u27,u28,u29,u30,u31,u32,u33,u34,u35,u36,u37,u38,u39,u40,u41,u42,u43,u44,u45,u46,u47,u48,u49,u50,u51,u52,u53,u54,u55,u56,u57,u58,u59,u60,u61,u62,u63,u64,u65,u66,u67,u68,u69,u70,u71,u72,u73,u74,u75,u76,u77,u78,u79,u80,u81,u82,u83,u84,u85,u86,u87,u88,u89,u90,u91,u92,u93,u94,u95,u96,u97,u98,u99,u100,u101,u102,u103,u104,u105,u106,u107,u108,u109,u110,u111,u112,u113,u114,u115,u116,u117,u118,u119,u120,u121,u122,u123,u124,u125,u126,u127,u128,u129,u130,u131,u132,u133,u134,u135,u136,u137,u138,u139,u140,u141,u142,u143,u144,u145,u146,u147,u148,u149,u150,u151,u152,u153,u154,u155,u156,u157,u158,u159,u160,u161,u162,u163,u164,u165,u166,u167,u168,u169,u170,u171,u172,u173,u174,u175,u176,u177,u178,u179,u180,u181,u182,u183,u184,u185,u186,u187,u188,u189,u190,u191,u192,u193,u194,u195,u196,u197,u198,u199,u200,u201,u202,u203,u204,u205,u206,u207,u208,u209,u210,u211,u212,u213,u214,u215,u216,u217,u218,u219,u220,u221,u222,u223,u224,u225,u226,u227,u228,u229,u230,u231,u232,u233,u234,u235,u236,u237,u238,u239,u240,u241,u242,u243,u244,u245,u246,u247,u248,u249,u250,u251,u252,u253],[]⟩ wc:=by
 have e:peel 2 (bodyOf Tryz.f13)=.seq (hdC (peel 2 (bodyOf Tryz.f13))) (peel 3 (bodyOf Tryz.f13)):=by kernel_rfl
 rw[e]
 clear e
 refine wp_seq_k fun K hK=>?_
 have HMk:Hid (∀ W,Frm Nix wc W→(fun W=>Frm Nix wc W∧W.cell? ⟨g,1,none⟩=some (.map (some M.fo))∧W.cell? ⟨be,1,none⟩=some (.int .i64 a)∧(Instr.lookup 72 (.map (some M.fo)) (.int .i64 a) true).run Tryz.prog W=.ok (.tuple #[.agg #[.int .i64 (folAt x a).id,.int .i64 (folAt x a).inn,.string (folAt x a).name],.bool (isI Fol.id a x.fols)]) W) W):=fun W hf=>⟨hf,(hS.nix hf).cells.2.1,(blk7 (hB.frm hf id)).2.1,(hS.nix hf).folLook2 ha⟩
 have HK:Hid (∀ (a':Unit) (w':World),Frm Nix wc w'→StAt w' g M x∧Frm Nix w w'∧Blk w' be 38 #[.int .i64 k,.int .i64 a,.int .i64 b,.int .i64 n,.string s,.string t,.string u]):=fun _ w' hf=>⟨hS.nix hf,hF.trans hf,hB.frm hf id⟩
 have hf0:=Frm.refl Nix wc
 simp only[hdC,peel,bodyOf,Tryz.f13]
 clear hS hF hB
 go_region_held3 (fun W=>Frm Nix wc W∧W.cell? ⟨g,1,none⟩=some (.map (some M.fo))∧W.cell? ⟨be,1,none⟩=some (.int .i64 a)∧(Instr.lookup 72 (.map (some M.fo)) (.int .i64 a) true).run Tryz.prog W=.ok (.tuple #[.agg #[.int .i64 (folAt x a).id,.int .i64 (folAt x a).inn,.string (folAt x a).name],.bool (isI Fol.id a x.fols)]) W) (first | exact HMk.out _ hf0 | exact HMk.out _ (Frm.drew hf0) | exact HMk.out _ (Frm.alloc (by assumption) _) | exact HMk.out _ (Frm.alloc (Frm.drew (by assumption)) _) | exact HMk.out _ (Frm.drew (by assumption)) | exact HMk.out _ (by assumption)) (first | fail)
 all_goals
  go_wp2
  exact FitsP4 (HK.out () _ (Frm.alloc hf0 _).drew).1 (HK.out () _ (Frm.alloc hf0 _).drew).2.1 k a b n s t u (HK.out () _ (Frm.alloc hf0 _).drew).2.2 he ha hb
theorem Fits_yes {w:World} {g:Nat} {M:Ms} {x:St} (h:StAt w g M x) (k a b n:Int) (s t u:ByteArray) (he:evOk ⟨k,a,b,n,s,t,u⟩=true) (ha:I64 a) (hb:I64 b):
  Calls Tryz.prog 13 #[.pointer (some ⟨g,0,none⟩),evV ⟨k,a,b,n,s,t,u⟩] w fun r w'=>r=.returned (.bool (fits x ⟨k,a,b,n,s,t,u⟩))∧Frm Nix w w':=by
 obtain⟨w0,hw0⟩:∃ w0,w0=w.alloc (.cells #[.int .i64 k,.int .i64 a,.int .i64 b,.int .i64 n,.string s,.string t,.string u] 38):=⟨_,rfl⟩
 have hcur:Frm Nix w w0:=by rw[hw0];exact(Frm.refl Nix w).alloc _
 have HBe:Hid (Blk w0 w.heap.size 38 #[.int .i64 k,.int .i64 a,.int .i64 b,.int .i64 n,.string s,.string t,.string u]):=by rw[hw0];exact Blk.new w _ _
 have KC:=fun W=>eCheck_any ⟨k,a,b,n,s,t,u⟩ W
 rw[he,if_pos rfl] at KC
 have HS:Hid (StAt w0 g M x):=h.nix hcur
 have HC:=Lib.hid hcur
 have HW:=Lib.hid hw0
 clear h hcur hw0
 unfold evV at *
 go_enter Tryz.func13,Tryz.ntmps13
 show Code.wp Tryz.prog (peel 0 (bodyOf Tryz.f13)) _ _ _
 have e0:peel 0 (bodyOf Tryz.f13)=.seq (hdC (peel 0 (bodyOf Tryz.f13))) (peel 1 (bodyOf Tryz.f13)):=by kernel_rfl
 rw[e0]
 clear e0
 refine wp_seq_k fun K hK=>?_
 conv in hdC _=>whnf
 go_wp2
 have e1:peel 1 (bodyOf Tryz.f13)=.seq (hdC (peel 1 (bodyOf Tryz.f13))) (peel 2 (bodyOf Tryz.f13)):=by kernel_rfl
 rw[e1]
 clear e1
 refine wp_seq_k fun K hK=>?_
 conv in hdC _=>whnf
 go_wp2_with (go_at_call 52;refine(KC _).mono ?_;rintro r w1 ⟨rfl,hf1⟩)
 rw[← HW.out] at hf1
 exact FitsP3 (HS.out.nix hf1) (HC.out.trans hf1) k a b n s t u (HBe.out.frm hf1 id) he ha hb
theorem Fits_any {w:World} {g:Nat} {M:Ms} {x:St} (h:StAt w g M x) (e:Ev) (ha:I64 e.a) (hb:I64 e.b):
  Calls Tryz.prog 13 #[.pointer (some ⟨g,0,none⟩),evV e] w fun r w'=>r=.returned (.bool (fits x e))∧Frm Nix w w':=by
 cases he:evOk e with
 | false=>
   have hf:fits x e=false:=by simp[fits,he]
   rw[hf]
   exact Fits_no h e he
 | true=>exact Fits_yes h e.kind e.a e.b e.n e.s e.t e.u he ha hb
end Go.Proofs.YtlafbakoefcifaaGreat
