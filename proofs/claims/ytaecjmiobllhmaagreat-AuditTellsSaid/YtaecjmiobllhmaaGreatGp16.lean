/- Words. -/
import Derived.Test.YtaecjmiobllhmaaGreatGp12
import Derived.Test.YtaecjmiobllhmaaGreatGp13
import Derived.Deep.Cut
import Derived.Deep.CutRange
import Derived.Deep.DeepCutAuto
import Derived.Deep.RegionHeld3
set_option linter.unusedVariables false
set_option linter.unusedSimpArgs false
set_option maxRecDepth 100000
set_option maxHeartbeats 16000000
namespace Go.Proofs.YtaecjmiobllhmaaGreat
open Go.RowKit Go.Lib
section
theorem cell_lt{w:World}{a:Addr}{v:Value}(h:w.cell? a=some v):a.block<w.heap.size:=World.block_lt_of_cell? w _ h
section
variable {w:World} {g:Nat} {M:Ms} {x:St}
theorem StAt.feeLook2(h:StAt w g M x){i:Int}(hi:I64 i):(Instr.lookup 107 (.map (some M.fe)) (.int .i64 i) true).run Tryz.prog w=.ok (.tuple #[.agg #[.int .i64 (feeAt x i).id,.int .i64 (feeAt x i).inn,.string (feeAt x i).url,.string (feeAt x i).title],.bool (isI Fee.id i x.fees)]) w:=by
 rw[h.feeLook hi true];rfl
theorem StAt.seaLook2(h:StAt w g M x){i:Int}(hi:I64 i):(Instr.lookup 109 (.map (some M.se)) (.int .i64 i) true).run Tryz.prog w=.ok (.tuple #[.agg #[.int .i64 (seaAt x i).id,.string (seaAt x i).name,.string (seaAt x i).query],.bool (isI Sea.id i x.seas)]) w:=by
 rw[h.seaLook hi true];rfl
theorem StAt.itmSl(h:StAt w g M x){i:Int}(hi:I64 i):∃v:Sl,∀W,Frm Nix w W→TagsIn W v (itmAt x i).tags∧∀ok,(Instr.lookup 108 (.map (some M.it)) (.int .i64 i) ok).run Tryz.prog W=.ok (if ok=true then .tuple #[itmV v (itmAt x i),.bool (isI Itm.id i x.itms)] else itmV v (itmAt x i)) W:=by
 obtain⟨sl,h1,h2⟩:=h.maps.it;refine⟨if isI Itm.id i x.itms=true then sl i else (none,0),λW hf=>?_⟩;have h1':=h1.frm hf id;have his:=atI_isI (g:=Itm.id) (id:=i) (l:=x.itms);unfold itmAt
 cases ha:atI Itm.id i x.itms with
 | some t=>
   rw[ha] at his;obtain⟨h3,h4⟩:=atI_mem ha;have his':isI Itm.id i x.itms=true:=his.symm;rw[if_pos his'];have h5:=(h2 t h3).frm hf λ_ _=>id
   rw[h4] at h5;refine⟨h5,λok=>?_⟩;have:=tab_look keyedI h1' Tryz.underlying108 (isK_I hi) (zItm W) ok;unfold kI at this;rw[this,ha];show _=Result.ok (if ok=true then Value.tuple #[itmV (sl i) t,_] else itmV (sl i) t) W
   rw[←h4]
   rfl
 | none=>
   rw[ha] at his;have his':isI Itm.id i x.itms=false:=his.symm;rw[if_neg (by rw[his'];simp)];refine⟨⟨Rd.none_,λ_=>rfl,Nat.le_refl _,Nat.zero_le _⟩,λok=>?_⟩;have:=tab_look keyedI h1' Tryz.underlying108 (isK_I hi) (zItm W) ok;unfold kI at this;rw[this,ha];rfl
theorem StAt.itmLook2{v:Sl}{W:World}{i:Int}(h:∀ok,(Instr.lookup 108 (.map (some M.it)) (.int .i64 i) ok).run Tryz.prog W=.ok (if ok=true then .tuple #[itmV v (itmAt x i),.bool (isI Itm.id i x.itms)] else itmV v (itmAt x i)) W):
  (Instr.lookup 108 (.map (some M.it)) (.int .i64 i) true).run Tryz.prog W=.ok (.tuple #[.agg (itmA v (itmAt x i)),.bool (isI Itm.id i x.itms)]) W:=h true
end
theorem place_size{s:ByteArray}(h:placeOk s=true):s.size≤512:=by
 unfold placeOk linkOk textOk at h;simp at h;omega
theorem fits10_eq{x:St}{a b n:Int}{s t u:ByteArray}(he:evOk ⟨10,a,b,n,s,t,u⟩=true):fits x ⟨10,a,b,n,s,t,u⟩=(isI Itm.id a x.itms&&(decide (n=0)||(itmAt x a).tags.any (λy=>decide (y=s))||decide ((itmAt x a).tags.length<8))):=by
 have his:=atI_isI (g:=Itm.id) (id:=a) (l:=x.itms);unfold fits itmAt;rw[if_neg (by rw[he];simp)];simp
 cases hat:atI Itm.id a x.itms with
 | none=>
   rw[hat] at his;have his:isI Itm.id a x.itms=false:=his.symm
   simp[his]
 | some y=>
   rw[hat] at his;have his:isI Itm.id a x.itms=true:=his.symm;simp[his];rfl
theorem Fits_no{w:World}{g:Nat}{M:Ms}{x:St}(h:StAt w g M x)(e:Ev)(he:evOk e=false):
  Calls Tryz.prog 51 #[.pointer (some ⟨g,0,none⟩),evV e] w λr w'=>r=.returned (.bool false)∧Frm Nix w w':=by
 have hcur:Frm Nix w (w.alloc (.cells #[.int .i64 e.kind,.int .i64 e.a,.int .i64 e.b,.int .i64 e.n,.string e.s,.string e.t,.string e.u] 42)):=(fR w).alloc _;have KC:=λW=>eCheck_any e W
 rw[he,if_neg (by simp)] at KC;clear h;unfold evV at *;go_enter Tryz.func51,Tryz.ntmps51;go_wp2_with (go_at_call 99;refine(KC _).mono ?_;rintro r w' ⟨rfl,hf'⟩);go_ret;exact⟨rfl,hcur.trans hf'⟩
end
theorem FitsT1{w wc:World}{g be:Nat}{M:Ms}{x:St}(hS:StAt wc g M x)(hF:Frm Nix w wc)(a b n:Int)(s t u:ByteArray)(hB:Blk wc be 42 #[.int .i64 1,.int .i64 a,.int .i64 b,.int .i64 n,.string s,.string t,.string u])(he:evOk ⟨1,a,b,n,s,t,u⟩=true)(ha:I64 a)(hb:I64 b){u5 u7 u9 u11 u13 u14 u15 u16 u17 u18 u19 u20 u21 u22 u23 u24 u25 u26 u27 u28 u29 u30 u31 u32 u33 u34 u35 u36 u37 u38 u39 u40 u41 u42 u43 u44 u45 u46 u47 u48 u49 u50 u51 u52 u53 u54 u55 u56 u57 u58 u59 u60 u61 u62 u63 u64 u65 u66 u67 u68 u69 u70 u71 u72 u73 u74 u75 u76 u77 u78 u79 u80 u81 u82 u83 u84 u85 u86 u87 u88 u89 u90 u91 u92 u93 u94 u95 u96 u97 u98 u99 u100 u101 u102 u103 u104 u105 u106 u107 u108 u109 u110 u111 u112 u113 u114 u115 u116 u117 u118 u119 u120 u121 u122 u123 u124 u125 u126 u127 u128 u129 u130 u131 u132 u133 u134 u135 u136 u137 u138 u139 u140 u141 u142 u143 u144 u145 u146 u147 u148 u149 u150 u151 u152 u153 u154 u155 u156 u157 u158 u159 u160 u161 u162 u163 u164 u165 u166 u167 u168 u169 u170 u171 u172 u173 u174 u175 u176 u177 u178 u179 u180 u181 u182 u183 u184 u185 u186 u187 u188 u189 u190 u191 u192 u193 u194 u195 u196 u197 u198 u199 u200 u201 u202 u203 u204 u205 u206 u207 u208 u209 u210 u211 u212 u213 u214 u215 u216 u217 u218 u219 u220 u221 u222 u223 u224 u225 u226 u227 u228 u229 u230 u231 u232 u233 u234 u235 u236 u237 u238 u239 u240 u241 u242 u243 u244 u245 u246 u247 u248 u249 u250 u251 u252 u253:Value}:
  Code.wp Tryz.prog (peel 6 (bodyOf Tryz.f51)) (bodyPost Tryz.prog Tryz.f51 λr w'=>r=.returned (.bool (fits x ⟨1,a,b,n,s,t,u⟩))∧Frm Nix w w') ⟨#[.pointer (some ⟨g,0,none⟩),.agg #[.int .i64 1,.int .i64 a,.int .i64 b,.int .i64 n,.string s,.string t,.string u],undef,.pointer (some ⟨be,0,none⟩),.bool false,u5,.bool (isI Fol.id a x.fols),u7,.bool (isI Fee.id a x.fees),u9,.bool (isI Itm.id a x.itms),u11,.bool (isI Sea.id a x.seas),u13,u14,u15,u16,u17,u18,u19,u20,u21,u22,u23,u24,u25,u26,u27,u28,u29,u30,u31,u32,u33,u34,u35,u36,u37,u38,u39,u40,u41,u42,u43,u44,u45,u46,u47,u48,u49,u50,u51,u52,u53,u54,u55,u56,u57,u58,u59,u60,u61,u62,u63,u64,u65,u66,u67,u68,u69,u70,u71,u72,u73,u74,u75,u76,u77,u78,u79,u80,u81,u82,u83,u84,u85,u86,u87,u88,u89,u90,u91,u92,u93,u94,u95,u96,u97,u98,u99,u100,u101,u102,u103,u104,u105,u106,u107,u108,u109,u110,u111,u112,u113,u114,u115,u116,u117,u118,u119,u120,u121,u122,u123,u124,u125,u126,u127,u128,u129,u130,u131,u132,u133,u134,u135,u136,u137,u138,u139,u140,u141,u142,u143,u144,u145,u146,u147,u148,u149,u150,u151,u152,u153,u154,u155,u156,u157,u158,u159,u160,u161,u162,u163,u164,u165,u166,u167,u168,u169,u170,u171,u172,u173,u174,u175,u176,u177,u178,u179,u180,u181,u182,u183,u184,u185,u186,u187,u188,u189,u190,u191,u192,u193,u194,u195,u196,u197,u198,u199,u200,u201,u202,u203,u204,u205,u206,u207,u208,u209,u210,u211,u212,u213,u214,u215,u216,u217,u218,u219,u220,u221,u222,u223,u224,u225,u226,u227,u228,u229,u230,u231,u232,u233,u234,u235,u236,u237,u238,u239,u240,u241,u242,u243,u244,u245,u246,u247,u248,u249,u250,u251,u252,u253],[]⟩ wc:=by
 have HS5:Hid (StAt wc g M x):=hS;have HF5:Hid (Frm Nix w wc):=hF;have HBe:Hid (Blk wc be 42 #[.int .i64 1,.int .i64 a,.int .i64 b,.int .i64 n,.string s,.string t,.string u]):=hB;have hf5:=fR wc;obtain⟨c0,c1,c2,c3,c4,c5,c6,c7,c8,c9,c10,c11,c12⟩:=HS5.out.cells;obtain⟨d0,d1,d2,d3,d4,d5,d6⟩:=blk7 hB;clear hS hF hB;simp only[peel,bodyOf,Tryz.f51]
 have HE:Hid (fits x ⟨1,a,b,n,s,t,u⟩=(!isI Fol.id a x.fols&&decide (x.fols.length<64)&&inS x b&&decide (deepS x b<7)&&!namedS x b s)):=by
  unfold Hid fits;rw[if_neg (by rw[he];simp)];simp
 have hsz:s.size≤maxLen:=by
  have h1:=he;rw[show (⟨1,a,b,n,s,t,u⟩:Ev)=⟨1,a,b,0,s,eS,eS⟩ from ev1_of he rfl,ev1] at h1;simp only[Bool.and_eq_true] at h1;have:=label_size h1.2;have:=maxLen_le;omega
 have q1:∀y:FW (Frm Nix wc),y.w.cell? ⟨g,1,none⟩=some (.map (some M.fo)):=λy=>(y.h.cell (cell_lt c1) id).trans c1
 have q5:∀y:FW (Frm Nix wc),y.w.cell? ⟨g,5,none⟩=some (.map (some M.na)):=λy=>(y.h.cell (cell_lt c5) id).trans c5
 have p2:∀y:FW (Frm Nix wc),y.w.cell? ⟨be,2,none⟩=some (.int .i64 b):=λy=>(y.h.cell (cell_lt d2) id).trans d2
 have p4:∀y:FW (Frm Nix wc),y.w.cell? ⟨be,4,none⟩=some (.string s):=λy=>(y.h.cell (cell_lt d4) id).trans d4
 have ln:∀(y:FW (Frm Nix wc)) (ty:TypeId),(Builtin.len_ #[106] ty #[.map (some M.fo)]).run Tryz.prog y.w=.ok (.int .i64 x.fols.length) y.w:=λy ty=>by
  have:=(HS5.out.nix y.h).maps.fo.len (P:=Tryz.prog) Tryz.underlying106 ty
  simpa using this
 have nl:∀y:FW (Frm Nix wc),(Instr.lookup 110 (.map (some M.na)) (.agg #[.int .i64 b,.string s]) false).run Tryz.prog y.w=.ok (.int .i64 (nameI x b s)) y.w:=λy=>(HS5.out.nix y.h).nameLook hb hsz
 have KW:=λy:FW (Frm Nix wc)=>within_any (HS5.out.nix y.h) hb
 have KD:=λy:FW (Frm Nix wc)=>Deep_any (HS5.out.nix y.h) hb
 have hni:=nameI_iff HS5.out.ok b s;clear c0 c2 c3 c4 c6 c7 c8 c9 c10 c11 c12 hsz;generalize nameI x b s=ni at *;generalize namedS x b s=nm at *;generalize inS x b=ib at *;generalize deepS x b=db at *;generalize isI Fol.id a x.fols=ia at *;generalize x.fols.length=ll at *
 cases ia
 ·by_cases h2:ll<64
  ·have k2:decide ((ll:Int)<64)=true:=by simp;omega
   cases ib
   ·skip
    go_wp2_with fail;refine wp_region_class (Frm Nix wc) ((fR wc).drew) (by kernel_rfl) (by kernel_rfl) ?_
    repeat (go_big_quiet_step (first
     | (rename_i y;go_at_call 100;refine y.call (KW y) ?_;exact λw' hf=>y.h.trans hf)
     | (rename_i y;go_at_call 101;refine y.call (KD y) ?_;exact λw' hf=>y.h.trans hf)
     | fail))
    refine wpQuiet_nil ?_;rintro w2 ⟨⟨_,hf2⟩,rfl⟩;go_wp2;go_ret;exact⟨ret_bool (by rw[HE.out];try simp[*]),HF5.out.trans hf2⟩
   ·by_cases h4:db<7
    ·have k4:decide ((db:Int)<7)=true:=by simp;omega
     cases nm
     all_goals
      simp only[Bool.not_false,Bool.not_true] at hni;go_wp2_with fail;refine wp_region_class (Frm Nix wc) ((fR wc).drew) (by kernel_rfl) (by kernel_rfl) ?_
      repeat (go_big_quiet_step (first
       | (rename_i y;go_at_call 100;refine y.call (KW y) ?_;exact λw' hf=>y.h.trans hf)
       | (rename_i y;go_at_call 101;refine y.call (KD y) ?_;exact λw' hf=>y.h.trans hf)
       | fail))
      refine wpQuiet_nil ?_;rintro w2 ⟨⟨_,hf2⟩,rfl⟩;go_wp2;go_ret;exact⟨ret_bool (by rw[HE.out];try simp[*]),HF5.out.trans hf2⟩
    ·have k4:decide ((db:Int)<7)=false:=by simp;omega
     go_wp2_with fail;refine wp_region_class (Frm Nix wc) ((fR wc).drew) (by kernel_rfl) (by kernel_rfl) ?_
     repeat (go_big_quiet_step (first
      | (rename_i y;go_at_call 100;refine y.call (KW y) ?_;exact λw' hf=>y.h.trans hf)
      | (rename_i y;go_at_call 101;refine y.call (KD y) ?_;exact λw' hf=>y.h.trans hf)
      | fail))
     refine wpQuiet_nil ?_;rintro w2 ⟨⟨_,hf2⟩,rfl⟩;go_wp2;go_ret;exact⟨ret_bool (by rw[HE.out];try simp[*]),HF5.out.trans hf2⟩
  ·have k2:decide ((ll:Int)<64)=false:=by simp;omega
   go_wp2_with fail;refine wp_region_class (Frm Nix wc) ((fR wc).drew) (by kernel_rfl) (by kernel_rfl) ?_
   repeat (go_big_quiet_step (first
    | (rename_i y;go_at_call 100;refine y.call (KW y) ?_;exact λw' hf=>y.h.trans hf)
    | (rename_i y;go_at_call 101;refine y.call (KD y) ?_;exact λw' hf=>y.h.trans hf)
    | fail))
   refine wpQuiet_nil ?_;rintro w2 ⟨⟨_,hf2⟩,rfl⟩;go_wp2;go_ret;exact⟨ret_bool (by rw[HE.out];try simp[*]),HF5.out.trans hf2⟩
 ·skip
  go_wp2_with fail;refine wp_region_class (Frm Nix wc) ((fR wc).drew) (by kernel_rfl) (by kernel_rfl) ?_
  repeat (go_big_quiet_step (first
   | (rename_i y;go_at_call 100;refine y.call (KW y) ?_;exact λw' hf=>y.h.trans hf)
   | (rename_i y;go_at_call 101;refine y.call (KD y) ?_;exact λw' hf=>y.h.trans hf)
   | fail))
  refine wpQuiet_nil ?_;rintro w2 ⟨⟨_,hf2⟩,rfl⟩;go_wp2;go_ret;exact⟨ret_bool (by rw[HE.out];try simp[*]),HF5.out.trans hf2⟩
theorem FitsT2{w wc:World}{g be:Nat}{M:Ms}{x:St}(hS:StAt wc g M x)(hF:Frm Nix w wc)(a b n:Int)(s t u:ByteArray)(hB:Blk wc be 42 #[.int .i64 2,.int .i64 a,.int .i64 b,.int .i64 n,.string s,.string t,.string u])(he:evOk ⟨2,a,b,n,s,t,u⟩=true)(ha:I64 a)(hb:I64 b){u5 u7 u9 u11 u13 u14 u15 u16 u17 u18 u19 u20 u21 u22 u23 u24 u25 u26 u27 u28 u29 u30 u31 u32 u33 u34 u35 u36 u37 u38 u39 u40 u41 u42 u43 u44 u45 u46 u47 u48 u49 u50 u51 u52 u53 u54 u55 u56 u57 u58 u59 u60 u61 u62 u63 u64 u65 u66 u67 u68 u69 u70 u71 u72 u73 u74 u75 u76 u77 u78 u79 u80 u81 u82 u83 u84 u85 u86 u87 u88 u89 u90 u91 u92 u93 u94 u95 u96 u97 u98 u99 u100 u101 u102 u103 u104 u105 u106 u107 u108 u109 u110 u111 u112 u113 u114 u115 u116 u117 u118 u119 u120 u121 u122 u123 u124 u125 u126 u127 u128 u129 u130 u131 u132 u133 u134 u135 u136 u137 u138 u139 u140 u141 u142 u143 u144 u145 u146 u147 u148 u149 u150 u151 u152 u153 u154 u155 u156 u157 u158 u159 u160 u161 u162 u163 u164 u165 u166 u167 u168 u169 u170 u171 u172 u173 u174 u175 u176 u177 u178 u179 u180 u181 u182 u183 u184 u185 u186 u187 u188 u189 u190 u191 u192 u193 u194 u195 u196 u197 u198 u199 u200 u201 u202 u203 u204 u205 u206 u207 u208 u209 u210 u211 u212 u213 u214 u215 u216 u217 u218 u219 u220 u221 u222 u223 u224 u225 u226 u227 u228 u229 u230 u231 u232 u233 u234 u235 u236 u237 u238 u239 u240 u241 u242 u243 u244 u245 u246 u247 u248 u249 u250 u251 u252 u253:Value}:
  Code.wp Tryz.prog (peel 6 (bodyOf Tryz.f51)) (bodyPost Tryz.prog Tryz.f51 λr w'=>r=.returned (.bool (fits x ⟨2,a,b,n,s,t,u⟩))∧Frm Nix w w') ⟨#[.pointer (some ⟨g,0,none⟩),.agg #[.int .i64 2,.int .i64 a,.int .i64 b,.int .i64 n,.string s,.string t,.string u],undef,.pointer (some ⟨be,0,none⟩),.bool false,u5,.bool (isI Fol.id a x.fols),u7,.bool (isI Fee.id a x.fees),u9,.bool (isI Itm.id a x.itms),u11,.bool (isI Sea.id a x.seas),u13,u14,u15,u16,u17,u18,u19,u20,u21,u22,u23,u24,u25,u26,u27,u28,u29,u30,u31,u32,u33,u34,u35,u36,u37,u38,u39,u40,u41,u42,u43,u44,u45,u46,u47,u48,u49,u50,u51,u52,u53,u54,u55,u56,u57,u58,u59,u60,u61,u62,u63,u64,u65,u66,u67,u68,u69,u70,u71,u72,u73,u74,u75,u76,u77,u78,u79,u80,u81,u82,u83,u84,u85,u86,u87,u88,u89,u90,u91,u92,u93,u94,u95,u96,u97,u98,u99,u100,u101,u102,u103,u104,u105,u106,u107,u108,u109,u110,u111,u112,u113,u114,u115,u116,u117,u118,u119,u120,u121,u122,u123,u124,u125,u126,u127,u128,u129,u130,u131,u132,u133,u134,u135,u136,u137,u138,u139,u140,u141,u142,u143,u144,u145,u146,u147,u148,u149,u150,u151,u152,u153,u154,u155,u156,u157,u158,u159,u160,u161,u162,u163,u164,u165,u166,u167,u168,u169,u170,u171,u172,u173,u174,u175,u176,u177,u178,u179,u180,u181,u182,u183,u184,u185,u186,u187,u188,u189,u190,u191,u192,u193,u194,u195,u196,u197,u198,u199,u200,u201,u202,u203,u204,u205,u206,u207,u208,u209,u210,u211,u212,u213,u214,u215,u216,u217,u218,u219,u220,u221,u222,u223,u224,u225,u226,u227,u228,u229,u230,u231,u232,u233,u234,u235,u236,u237,u238,u239,u240,u241,u242,u243,u244,u245,u246,u247,u248,u249,u250,u251,u252,u253],[]⟩ wc:=by
 have HS5:Hid (StAt wc g M x):=hS;have HF5:Hid (Frm Nix w wc):=hF;have HBe:Hid (Blk wc be 42 #[.int .i64 2,.int .i64 a,.int .i64 b,.int .i64 n,.string s,.string t,.string u]):=hB;have hf5:=fR wc;obtain⟨c0,c1,c2,c3,c4,c5,c6,c7,c8,c9,c10,c11,c12⟩:=HS5.out.cells;obtain⟨d0,d1,d2,d3,d4,d5,d6⟩:=blk7 hB;clear hS hF hB;simp only[peel,bodyOf,Tryz.f51]
 have HE:Hid (fits x ⟨2,a,b,n,s,t,u⟩=(isI Fol.id a x.fols&&emptyS x a)):=by
  unfold Hid fits;rw[if_neg (by rw[he];simp)];simp
 have ha0:a≠0:=by
  have:=evOk_right he;simp[evRight] at this;have:=idOk_iff.1 this;omega
 have q8:∀y:FW (Frm Nix wc),y.w.cell? ⟨g,8,none⟩=some (.map (some M.he)):=λy=>(y.h.cell (cell_lt c8) id).trans c8
 have p1:∀y:FW (Frm Nix wc),y.w.cell? ⟨be,1,none⟩=some (.int .i64 a):=λy=>(y.h.cell (cell_lt d1) id).trans d1
 have nl:∀y:FW (Frm Nix wc),(Instr.lookup 113 (.map (some M.he)) (.int .i64 a) false).run Tryz.prog y.w=.ok (.int .i64 (heldS x a)) y.w:=λy=>(HS5.out.nix y.h).heldLook ha ha0
 have hni:=heldS_iff x a;clear c0 c1 c2 c3 c4 c5 c6 c7 c9 c10 c11 c12;generalize heldS x a=ni at *;generalize emptyS x a=nm at *;generalize isI Fol.id a x.fols=ia at *
 cases ia
 ·skip
  go_wp2_with fail;refine wp_region_class (Frm Nix wc) ((fR wc).drew) (by kernel_rfl) (by kernel_rfl) ?_
  repeat (go_big_quiet_step (first
   | (rename_i y;go_at_call 100;refine y.call (KW y) ?_;exact λw' hf=>y.h.trans hf)
   | (rename_i y;go_at_call 101;refine y.call (KD y) ?_;exact λw' hf=>y.h.trans hf)
   | fail))
  refine wpQuiet_nil ?_;rintro w2 ⟨⟨_,hf2⟩,rfl⟩;go_wp2;go_ret;exact⟨ret_bool (by rw[HE.out];try simp[*]),HF5.out.trans hf2⟩
 ·cases nm
  all_goals
   go_wp2_with fail;refine wp_region_class (Frm Nix wc) ((fR wc).drew) (by kernel_rfl) (by kernel_rfl) ?_
   repeat (go_big_quiet_step (first
    | (rename_i y;go_at_call 100;refine y.call (KW y) ?_;exact λw' hf=>y.h.trans hf)
    | (rename_i y;go_at_call 101;refine y.call (KD y) ?_;exact λw' hf=>y.h.trans hf)
    | fail))
   refine wpQuiet_nil ?_;rintro w2 ⟨⟨_,hf2⟩,rfl⟩;go_wp2;go_ret;exact⟨ret_bool (by rw[HE.out];try simp[*]),HF5.out.trans hf2⟩
theorem FitsT3{w wc:World}{g be:Nat}{M:Ms}{x:St}(hS:StAt wc g M x)(hF:Frm Nix w wc)(a b n:Int)(s t u:ByteArray)(hB:Blk wc be 42 #[.int .i64 3,.int .i64 a,.int .i64 b,.int .i64 n,.string s,.string t,.string u])(he:evOk ⟨3,a,b,n,s,t,u⟩=true)(ha:I64 a)(hb:I64 b){u5 u7 u9 u11 u13 u14 u15 u16 u17 u18 u19 u20 u21 u22 u23 u24 u25 u26 u27 u28 u29 u30 u31 u32 u33 u34 u35 u36 u37 u38 u39 u40 u41 u42 u43 u44 u45 u46 u47 u48 u49 u50 u51 u52 u53 u54 u55 u56 u57 u58 u59 u60 u61 u62 u63 u64 u65 u66 u67 u68 u69 u70 u71 u72 u73 u74 u75 u76 u77 u78 u79 u80 u81 u82 u83 u84 u85 u86 u87 u88 u89 u90 u91 u92 u93 u94 u95 u96 u97 u98 u99 u100 u101 u102 u103 u104 u105 u106 u107 u108 u109 u110 u111 u112 u113 u114 u115 u116 u117 u118 u119 u120 u121 u122 u123 u124 u125 u126 u127 u128 u129 u130 u131 u132 u133 u134 u135 u136 u137 u138 u139 u140 u141 u142 u143 u144 u145 u146 u147 u148 u149 u150 u151 u152 u153 u154 u155 u156 u157 u158 u159 u160 u161 u162 u163 u164 u165 u166 u167 u168 u169 u170 u171 u172 u173 u174 u175 u176 u177 u178 u179 u180 u181 u182 u183 u184 u185 u186 u187 u188 u189 u190 u191 u192 u193 u194 u195 u196 u197 u198 u199 u200 u201 u202 u203 u204 u205 u206 u207 u208 u209 u210 u211 u212 u213 u214 u215 u216 u217 u218 u219 u220 u221 u222 u223 u224 u225 u226 u227 u228 u229 u230 u231 u232 u233 u234 u235 u236 u237 u238 u239 u240 u241 u242 u243 u244 u245 u246 u247 u248 u249 u250 u251 u252 u253:Value}:
  Code.wp Tryz.prog (peel 6 (bodyOf Tryz.f51)) (bodyPost Tryz.prog Tryz.f51 λr w'=>r=.returned (.bool (fits x ⟨3,a,b,n,s,t,u⟩))∧Frm Nix w w') ⟨#[.pointer (some ⟨g,0,none⟩),.agg #[.int .i64 3,.int .i64 a,.int .i64 b,.int .i64 n,.string s,.string t,.string u],undef,.pointer (some ⟨be,0,none⟩),.bool false,u5,.bool (isI Fol.id a x.fols),u7,.bool (isI Fee.id a x.fees),u9,.bool (isI Itm.id a x.itms),u11,.bool (isI Sea.id a x.seas),u13,u14,u15,u16,u17,u18,u19,u20,u21,u22,u23,u24,u25,u26,u27,u28,u29,u30,u31,u32,u33,u34,u35,u36,u37,u38,u39,u40,u41,u42,u43,u44,u45,u46,u47,u48,u49,u50,u51,u52,u53,u54,u55,u56,u57,u58,u59,u60,u61,u62,u63,u64,u65,u66,u67,u68,u69,u70,u71,u72,u73,u74,u75,u76,u77,u78,u79,u80,u81,u82,u83,u84,u85,u86,u87,u88,u89,u90,u91,u92,u93,u94,u95,u96,u97,u98,u99,u100,u101,u102,u103,u104,u105,u106,u107,u108,u109,u110,u111,u112,u113,u114,u115,u116,u117,u118,u119,u120,u121,u122,u123,u124,u125,u126,u127,u128,u129,u130,u131,u132,u133,u134,u135,u136,u137,u138,u139,u140,u141,u142,u143,u144,u145,u146,u147,u148,u149,u150,u151,u152,u153,u154,u155,u156,u157,u158,u159,u160,u161,u162,u163,u164,u165,u166,u167,u168,u169,u170,u171,u172,u173,u174,u175,u176,u177,u178,u179,u180,u181,u182,u183,u184,u185,u186,u187,u188,u189,u190,u191,u192,u193,u194,u195,u196,u197,u198,u199,u200,u201,u202,u203,u204,u205,u206,u207,u208,u209,u210,u211,u212,u213,u214,u215,u216,u217,u218,u219,u220,u221,u222,u223,u224,u225,u226,u227,u228,u229,u230,u231,u232,u233,u234,u235,u236,u237,u238,u239,u240,u241,u242,u243,u244,u245,u246,u247,u248,u249,u250,u251,u252,u253],[]⟩ wc:=by
 have HS5:Hid (StAt wc g M x):=hS;have HF5:Hid (Frm Nix w wc):=hF;have HBe:Hid (Blk wc be 42 #[.int .i64 3,.int .i64 a,.int .i64 b,.int .i64 n,.string s,.string t,.string u]):=hB;have hf5:=fR wc;obtain⟨c0,c1,c2,c3,c4,c5,c6,c7,c8,c9,c10,c11,c12⟩:=HS5.out.cells;obtain⟨d0,d1,d2,d3,d4,d5,d6⟩:=blk7 hB;clear hS hF hB;simp only[peel,bodyOf,Tryz.f51]
 have HE:Hid (fits x ⟨3,a,b,n,s,t,u⟩=(!isI Fee.id a x.fees&&decide (x.fees.length<64)&&inS x b&&decide (placeS x s=0))):=by
  unfold Hid fits;rw[if_neg (by rw[he];simp)];simp
 have hsz:s.size≤maxLen:=by
  have h1:=he;rw[show (⟨3,a,b,n,s,t,u⟩:Ev)=⟨3,a,b,0,s,t,eS⟩ from ev3_of he rfl,ev3] at h1;simp only[Bool.and_eq_true] at h1;have:=place_size h1.1.2;have:=maxLen_le;omega
 have q2:∀y:FW (Frm Nix wc),y.w.cell? ⟨g,2,none⟩=some (.map (some M.fe)):=λy=>(y.h.cell (cell_lt c2) id).trans c2
 have q6:∀y:FW (Frm Nix wc),y.w.cell? ⟨g,6,none⟩=some (.map (some M.pl)):=λy=>(y.h.cell (cell_lt c6) id).trans c6
 have p2:∀y:FW (Frm Nix wc),y.w.cell? ⟨be,2,none⟩=some (.int .i64 b):=λy=>(y.h.cell (cell_lt d2) id).trans d2
 have p4:∀y:FW (Frm Nix wc),y.w.cell? ⟨be,4,none⟩=some (.string s):=λy=>(y.h.cell (cell_lt d4) id).trans d4
 have ln:∀(y:FW (Frm Nix wc)) (ty:TypeId),(Builtin.len_ #[107] ty #[.map (some M.fe)]).run Tryz.prog y.w=.ok (.int .i64 x.fees.length) y.w:=λy ty=>by
  have:=(HS5.out.nix y.h).maps.fe.len (P:=Tryz.prog) Tryz.underlying107 ty
  simpa using this
 have nl:∀y:FW (Frm Nix wc),(Instr.lookup 111 (.map (some M.pl)) (.string s) false).run Tryz.prog y.w=.ok (.int .i64 (placeS x s)) y.w:=λy=>(HS5.out.nix y.h).placeLook hsz false
 have KW:=λy:FW (Frm Nix wc)=>within_any (HS5.out.nix y.h) hb
 clear c0 c1 c3 c4 c5 c7 c8 c9 c10 c11 c12 hsz;generalize placeS x s=ni at *;generalize inS x b=ib at *;generalize isI Fee.id a x.fees=ia at *;generalize x.fees.length=ll at *
 cases ia
 ·by_cases h2:ll<64
  ·have k2:decide ((ll:Int)<64)=true:=by simp;omega
   cases ib
   ·skip
    go_wp2_with fail;refine wp_region_class (Frm Nix wc) ((fR wc).drew) (by kernel_rfl) (by kernel_rfl) ?_
    repeat (go_big_quiet_step (first
     | (rename_i y;go_at_call 100;refine y.call (KW y) ?_;exact λw' hf=>y.h.trans hf)
     | (rename_i y;go_at_call 101;refine y.call (KW y) ?_;exact λw' hf=>y.h.trans hf)
     | fail))
    refine wpQuiet_nil ?_;rintro w2 ⟨⟨_,hf2⟩,rfl⟩;go_wp2;go_ret;exact⟨ret_bool (by rw[HE.out];try simp[*]),HF5.out.trans hf2⟩
   ·by_cases h4:ni=0
    ·have hni:(ni==0)=true:=by simp[h4]
     subst h4;go_wp2_with fail;refine wp_region_class (Frm Nix wc) ((fR wc).drew) (by kernel_rfl) (by kernel_rfl) ?_
     repeat (go_big_quiet_step (first
      | (rename_i y;go_at_call 100;refine y.call (KW y) ?_;exact λw' hf=>y.h.trans hf)
      | (rename_i y;go_at_call 101;refine y.call (KD y) ?_;exact λw' hf=>y.h.trans hf)
      | fail))
     refine wpQuiet_nil ?_;rintro w2 ⟨⟨_,hf2⟩,rfl⟩;go_wp2;go_ret;exact⟨ret_bool (by rw[HE.out];try simp[*]),HF5.out.trans hf2⟩
    ·have hni:(ni==0)=false:=by simp[h4]
     go_wp2_with fail;refine wp_region_class (Frm Nix wc) ((fR wc).drew) (by kernel_rfl) (by kernel_rfl) ?_
     repeat (go_big_quiet_step (first
      | (rename_i y;go_at_call 100;refine y.call (KW y) ?_;exact λw' hf=>y.h.trans hf)
      | (rename_i y;go_at_call 101;refine y.call (KD y) ?_;exact λw' hf=>y.h.trans hf)
      | fail))
     refine wpQuiet_nil ?_;rintro w2 ⟨⟨_,hf2⟩,rfl⟩;go_wp2;go_ret;exact⟨ret_bool (by rw[HE.out];try simp[*]),HF5.out.trans hf2⟩
  ·have k2:decide ((ll:Int)<64)=false:=by simp;omega
   go_wp2_with fail;refine wp_region_class (Frm Nix wc) ((fR wc).drew) (by kernel_rfl) (by kernel_rfl) ?_
   repeat (go_big_quiet_step (first
    | (rename_i y;go_at_call 100;refine y.call (KW y) ?_;exact λw' hf=>y.h.trans hf)
    | (rename_i y;go_at_call 101;refine y.call (KD y) ?_;exact λw' hf=>y.h.trans hf)
    | fail))
   refine wpQuiet_nil ?_;rintro w2 ⟨⟨_,hf2⟩,rfl⟩;go_wp2;go_ret;exact⟨ret_bool (by rw[HE.out];try simp[*]),HF5.out.trans hf2⟩
 ·skip
  go_wp2_with fail;refine wp_region_class (Frm Nix wc) ((fR wc).drew) (by kernel_rfl) (by kernel_rfl) ?_
  repeat (go_big_quiet_step (first
   | (rename_i y;go_at_call 100;refine y.call (KW y) ?_;exact λw' hf=>y.h.trans hf)
   | (rename_i y;go_at_call 101;refine y.call (KD y) ?_;exact λw' hf=>y.h.trans hf)
   | fail))
  refine wpQuiet_nil ?_;rintro w2 ⟨⟨_,hf2⟩,rfl⟩;go_wp2;go_ret;exact⟨ret_bool (by rw[HE.out];try simp[*]),HF5.out.trans hf2⟩
end Go.Proofs.YtaecjmiobllhmaaGreat
