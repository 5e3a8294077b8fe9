/-
  Contracts: the document's made: the region that puts (kind 7).
-/
import Derived.Test.YtlafbakoefcifaaGreatGa46
import Derived.Test.YtlafbakoefcifaaGreatGa14
set_option linter.unusedVariables false
set_option linter.unusedSimpArgs false
set_option maxRecDepth 100000
set_option maxHeartbeats 16000000
namespace Go.Proofs.YtlafbakoefcifaaGreat
open Go.RowKit Go.Lib
theorem madeR7{Q:Exit→Act→World→Prop}{wa w11 w12 w13 w21 w22 w23 w31 w32 w33:World}{bs n c k rc d1 d2 d3:Nat}{A rA B1 B2 B3:Option Addr}{v11 v12 v21 v22 v31 v32:Value}{rows:List Value}{a b n':Int}{s t u:ByteArray}{cs:Array Value}
  (hb:Blk wa bs 30 cs) (hcs:cs[3]? =some (.slice A n c)) (he:Blk wa (bs+1) 38 #[.int .i64 7,.int .i64 a,.int .i64 b,.int .i64 n',.string s,.string t,.string u]) (hk:k≤n) (hkc:n≤c) (hcm:c≤maxLen)
  (r11:∀ ty,(Builtin.append_ #[27,27] ty #[.slice (some ⟨wa.heap.size,0,none⟩) 0 0,.slice A k c]).run Tryz.prog ((wa.alloc (.cells #[] 54)).alloc (.cells #[.int .i64 a,.int .i64 b,.int .i64 n',.string s,.string t,.string u,.bool false,.bool false,.slice none 0 0] 54)).drew=.ok v11 w11)
  (r12:∀ ty,(Builtin.append_ #[27,27] ty #[v11,.slice (some ⟨wa.heap.size+1,0,none⟩) 1 1]).run Tryz.prog w11=.ok v12 w12)
  (r13:∀ ty,(Builtin.append_ #[27,27] ty #[v12,.slice rA (n - k) rc]).run Tryz.prog w12=.ok (.slice B1 (k+1+(n - k)) d1) w13)
  (h1:RowK 54 9 wa w13 (.slice B1 (k+1+(n - k)) d1) (k+1+(n - k)) rows) (f11:Frm Nix wa w11) (f12:Frm Nix wa w12)
  (r21:∀ ty,(Builtin.append_ #[27,27] ty #[.slice (some ⟨wa.heap.size,0,none⟩) 0 0,.slice A k c]).run Tryz.prog (wa.alloc (.cells #[] 54)).drew=.ok v21 w21)
  (r22:∀ ty,(Builtin.append_ #[27,27] ty #[v21,.slice (some ⟨w21.heap.size,0,none⟩) 1 1]).run Tryz.prog (w21.alloc (.cells #[.int .i64 a,.int .i64 b,.int .i64 n',.string s,.string t,.string u,.bool false,.bool false,.slice none 0 0] 54))=.ok v22 w22)
  (r23:∀ ty,(Builtin.append_ #[27,27] ty #[v22,.slice rA (n - k) rc]).run Tryz.prog w22=.ok (.slice B2 (k+1+(n - k)) d2) w23)
  (h2:RowK 54 9 wa w23 (.slice B2 (k+1+(n - k)) d2) (k+1+(n - k)) rows) (f21:Frm Nix wa w21) (f22:Frm Nix wa w22)
  (r31:∀ ty,(Builtin.append_ #[27,27] ty #[.slice (some ⟨wa.heap.size+1,0,none⟩) 0 0,.slice A k c]).run Tryz.prog ((wa.alloc (.cells #[.int .i64 a,.int .i64 b,.int .i64 n',.string s,.string t,.string u,.bool false,.bool false,.slice none 0 0] 54)).alloc (.cells #[] 54)).drew=.ok v31 w31)
  (r32:∀ ty,(Builtin.append_ #[27,27] ty #[v31,.slice (some ⟨wa.heap.size,0,none⟩) 1 1]).run Tryz.prog w31=.ok v32 w32)
  (r33:∀ ty,(Builtin.append_ #[27,27] ty #[v32,.slice rA (n - k) rc]).run Tryz.prog w32=.ok (.slice B3 (k+1+(n - k)) d3) w33)
  (h3:RowK 54 9 wa w33 (.slice B3 (k+1+(n - k)) d3) (k+1+(n - k)) rows) (f31:Frm Nix wa w31) (f32:Frm Nix wa w32)
  {u0 u1 u4 u6 u7 u9 u10 u11 u12 u13 u14 u15 u16 u17 u18 u19 u20 u21 u22 u23 u24 u25 u26 u27 u28 u29 u30 u31 u32 u33 u34 u35 u36 u37 u38 u39 u40 u41 u42 u43 u44 u45 u46 u47 u48 u49 u50 u51 u52 u53 u54 u55 u56 u57 u58 u59 u60 u61 u62 u63 u64 u65 u66 u67 u68 u69 u70 u71 u72 u73 u74 u75 u76 u77 u78 u79 u80 u81 u82 u83 u84 u85 u86 u87 u88 u89 u90 u91 u92 u93 u94 u95 u96 u97 u98 u99 u100 u101 u102 u103 u104 u105 u106 u107 u108 u109 u110 u111 u112 u113 u114 u115 u116 u117 u118 u119 u120 u121 u122 u123 u124 u125 u126 u127 u128 u129 u130 u131 u132 u133 u134 u135 u136 u137 u138 u139 u140 u141 u142 u143 u144 u145 u146 u147 u148 u149 u150 u151 u152 u153 u154 u155 u156 u157 u158 u159 u160 u161 u162 u163 u164 u165 u166 u167 u168 u169 u170 u171 u172 u173 u174 u175 u176 u177 u178 u179 u180 u181 u182 u183 u184 u185 u186 u187 u188 u189 u190 u191 u192 u193 u194 u195 u196 u197 u198 u199 u200 u201 u202 u203 u204 u205 u206 u207 u208 u209 u210 u211 u212 u213 u214 u215 u216 u217 u218 u219 u220:Value} (hP:∀ (e:_) (a:Act) (i:Nat) (v:Value) (w:World),Q (.panic e) (a.put (some i) v) w→Q (.panic e) a w) (hQ:∀ (wc:World) (B:Option Addr) (d:Nat) (z0 z5 z13 z14:Value),RowK 54 9 wa wc (.slice B (k+1+(n - k)) d) (k+1+(n - k)) rows→Q .normal ⟨#[u0,u1,.pointer (some ⟨bs,0,none⟩),.pointer (some ⟨bs+1,0,none⟩),u4,.int .i64 k,u6,u7,.slice rA (n - k) rc,u9,u10,u11,u12,u13,u14,u15,u16,u17,u18,u19,u20,u21,u22,u23,u24,u25,u26,u27,u28,u29,u30,u31,u32,u33,u34,u35,u36,u37,u38,u39,u40,u41,u42,u43,u44,u45,u46,u47,u48,u49,u50,u51,u52,u53,u54,u55,u56,u57,u58,u59,u60,u61,u62,u63,u64,u65,u66,u67,u68,u69,u70,u71,u72,u73,u74,u75,u76,u77,u78,u79,u80,u81,u82,u83,u84,u85,u86,u87,u88,u89,u90,u91,u92,u93,u94,u95,u96,u97,u98,u99,u100,u101,u102,u103,u104,u105,u106,u107,u108,u109,u110,u111,u112,u113,u114,u115,u116,u117,u118,u119,u120,u121,u122,u123,u124,u125,u126,u127,u128,u129,u130,u131,u132,u133,u134,u135,u136,u137,u138,u139,z0,.pointer (some ⟨bs,3,none⟩),.slice A n c,.int .i64 k,.slice A k c,z5,.pointer (some ⟨bs+1,1,none⟩),.int .i64 a,.pointer (some ⟨bs+1,2,none⟩),.int .i64 b,.pointer (some ⟨bs+1,3,none⟩),.int .i64 n',.pointer (some ⟨bs+1,4,none⟩),.string s,.pointer (some ⟨bs+1,5,none⟩),.string t,.pointer (some ⟨bs+1,6,none⟩),.string u,.agg #[.int .i64 a,.int .i64 b,.int .i64 n',.string s,.string t,.string u,.bool false,.bool false,.slice none 0 0],z13,z14,.slice rA (n - k) rc,.slice B (k+1+(n - k)) d,.pointer (some ⟨bs,3,none⟩),u164,u165,u166,u167,u168,u169,u170,u171,u172,u173,u174,u175,u176,u177,u178,u179,u180,u181,u182,u183,u184,u185,u186,u187,u188,u189,u190,u191,u192,u193,u194,u195,u196,u197,u198,u199,u200,u201,u202,u203,u204,u205,u206,u207,u208,u209,u210,u211,u212,u213,u214,u215,u216,u217,u218,u219,u220],[]⟩ (wc.setCell ⟨bs,3,none⟩ (.slice B (k+1+(n - k)) d))):
  Code.wp Tryz.prog (hdC (sndC (sndC (thenC (sndC (elseC (sndC (elseC (sndC (inC (sndC (hdC (peel 2 (bodyOf Tryz.f49)))))))))))))) Q ⟨#[u0,u1,.pointer (some ⟨bs,0,none⟩),.pointer (some ⟨bs+1,0,none⟩),u4,.int .i64 k,u6,u7,.slice rA (n - k) rc,u9,u10,u11,u12,u13,u14,u15,u16,u17,u18,u19,u20,u21,u22,u23,u24,u25,u26,u27,u28,u29,u30,u31,u32,u33,u34,u35,u36,u37,u38,u39,u40,u41,u42,u43,u44,u45,u46,u47,u48,u49,u50,u51,u52,u53,u54,u55,u56,u57,u58,u59,u60,u61,u62,u63,u64,u65,u66,u67,u68,u69,u70,u71,u72,u73,u74,u75,u76,u77,u78,u79,u80,u81,u82,u83,u84,u85,u86,u87,u88,u89,u90,u91,u92,u93,u94,u95,u96,u97,u98,u99,u100,u101,u102,u103,u104,u105,u106,u107,u108,u109,u110,u111,u112,u113,u114,u115,u116,u117,u118,u119,u120,u121,u122,u123,u124,u125,u126,u127,u128,u129,u130,u131,u132,u133,u134,u135,u136,u137,u138,u139,u140,u141,u142,u143,u144,u145,u146,u147,u148,u149,u150,u151,u152,u153,u154,u155,u156,u157,u158,u159,u160,u161,u162,u163,u164,u165,u166,u167,u168,u169,u170,u171,u172,u173,u174,u175,u176,u177,u178,u179,u180,u181,u182,u183,u184,u185,u186,u187,u188,u189,u190,u191,u192,u193,u194,u195,u196,u197,u198,u199,u200,u201,u202,u203,u204,u205,u206,u207,u208,u209,u210,u211,u212,u213,u214,u215,u216,u217,u218,u219,u220],[]⟩ wa:=by
 have HB:=h_ hb;have HE:=h_ he;have HCS:Hid (∀ W,Frm Nix wa W→W.cell? ⟨bs+1,1,none⟩=some (.int .i64 a)∧W.cell? ⟨bs+1,2,none⟩=some (.int .i64 b)∧W.cell? ⟨bs+1,3,none⟩=some (.int .i64 n')∧W.cell? ⟨bs+1,4,none⟩=some (.string s)∧W.cell? ⟨bs+1,5,none⟩=some (.string t)∧W.cell? ⟨bs+1,6,none⟩=some (.string u)):=fun W hW=>⟨((he.frm hW id).cell 1).trans rfl,((he.frm hW id).cell 2).trans rfl,((he.frm hW id).cell 3).trans rfl,((he.frm hW id).cell 4).trans rfl,((he.frm hW id).cell 5).trans rfl,((he.frm hW id).cell 6).trans rfl⟩
 have cx:∀ {W:World},Frm Nix wa W→W.cell? ⟨bs,3,none⟩=some (.slice A n c):=fun hW=>((hb.frm hW id).cell 3).trans hcs
 have cf:∀ {W:World},Frm Nix wa W→W.frozen? ⟨bs,3,none⟩=false:=fun hW=>(hb.frm hW id).frozen 3
 have HST:Hid (∀ (W:World) (B:Option Addr) (d:Nat),(W.cell? ⟨bs+1,1,none⟩=some (.int .i64 a)∧W.cell? ⟨bs+1,2,none⟩=some (.int .i64 b)∧W.cell? ⟨bs+1,3,none⟩=some (.int .i64 n')∧W.cell? ⟨bs+1,4,none⟩=some (.string s)∧W.cell? ⟨bs+1,5,none⟩=some (.string t)∧W.cell? ⟨bs+1,6,none⟩=some (.string u))→(fun W:World=>W.cell? ⟨bs+1,1,none⟩=some (.int .i64 a)∧W.cell? ⟨bs+1,2,none⟩=some (.int .i64 b)∧W.cell? ⟨bs+1,3,none⟩=some (.int .i64 n')∧W.cell? ⟨bs+1,4,none⟩=some (.string s)∧W.cell? ⟨bs+1,5,none⟩=some (.string t)∧W.cell? ⟨bs+1,6,none⟩=some (.string u)) (W.setCell ⟨bs,3,none⟩ (.slice B (k+1+(n - k)) d))):=by
  rintro W B d ⟨q1,q2,q3,q4,q5,q6⟩;exact⟨(World.cell?_setCell_far _ _ _ _ (by simp)).trans q1,(World.cell?_setCell_far _ _ _ _ (by simp)).trans q2,(World.cell?_setCell_far _ _ _ _ (by simp)).trans q3,(World.cell?_setCell_far _ _ _ _ (by simp)).trans q4,(World.cell?_setCell_far _ _ _ _ (by simp)).trans q5,(World.cell?_setCell_far _ _ _ _ (by simp)).trans q6⟩
 have R0:=fR wa;obtain⟨e1,e2,e3,e4,e5,e6⟩:=HCS.out wa R0;have p1:=cx R0;have p2:=cx (R0.alloc (.cells #[] 54));have p3:=cx (R0.alloc (.cells #[.int .i64 a,.int .i64 b,.int .i64 n',.string s,.string t,.string u,.bool false,.bool false,.slice none 0 0] 54));have p4:=cx ((R0.alloc (.cells #[] 54)).alloc (.cells #[.int .i64 a,.int .i64 b,.int .i64 n',.string s,.string t,.string u,.bool false,.bool false,.slice none 0 0] 54));have p5:=cx ((R0.alloc (.cells #[.int .i64 a,.int .i64 b,.int .i64 n',.string s,.string t,.string u,.bool false,.bool false,.slice none 0 0] 54)).alloc (.cells #[] 54));have sc1:=cx h1.frm;have sc2:=cx h2.frm;have sc3:=cx h3.frm;have sf1:=cf h1.frm;have sf2:=cf h2.frm;have sf3:=cf h3.frm;have hI0:(0:Int)≤(k:Int):=Int.natCast_nonneg _;have hI1:(k:Int)≤(c:Int):=by omega
 have hI2:(k:Int)≤(n:Int):=by omega
 have HQ:=h_ hQ;have HP:=h_ hP;have H1:=h_ h1;have H2:=h_ h2;have H3:=h_ h3;have HR0:=h_ R0;have HF:=h_ (And.intro f11 (And.intro f12 (And.intro f21 (And.intro f22 (And.intro f31 f32)))));clear hb he hcs cx cf R0 h1 h2 h3 f11 f12 f21 f22 f31 f32 hQ hP;simp only[hdC,sndC,thenC,elseC,inC,peel,bodyOf,Tryz.f49];refine wp_region_held_drew (S:=fun W=>W.cell? ⟨bs+1,1,none⟩=some (.int .i64 a)∧W.cell? ⟨bs+1,2,none⟩=some (.int .i64 b)∧W.cell? ⟨bs+1,3,none⟩=some (.int .i64 n')∧W.cell? ⟨bs+1,4,none⟩=some (.string s)∧W.cell? ⟨bs+1,5,none⟩=some (.string t)∧W.cell? ⟨bs+1,6,none⟩=some (.string u)) (by kernel_rfl) (HCS.out _ HR0.out.drew) fun hH=>?_
 refine tk (i:=1) HP rfl rfl hH ?_
 try simp only[lt,Act.put]
 refine tk (i:=3) HP rfl rfl hH ?_
 try simp only[lt,Act.put]
 refine tk (i:=6) HP rfl rfl hH ?_
 try simp only[lt,Act.put]
 refine tk (i:=7) HP rfl rfl hH ?_
 try simp only[lt,Act.put]
 refine tk (i:=8) HP rfl rfl hH ?_
 try simp only[lt,Act.put]
 refine tk (i:=9) HP rfl rfl hH ?_
 try simp only[lt,Act.put]
 refine tk (i:=10) HP rfl rfl hH ?_
 try simp only[lt,Act.put]
 refine tk (i:=11) HP rfl rfl hH ?_
 try simp only[lt,Act.put]
 refine tk (i:=12) HP rfl rfl hH ?_
 try simp only[lt,Act.put]
 refine tk (i:=13) HP rfl rfl hH ?_
 try simp only[lt,Act.put]
 refine tk (i:=14) HP rfl rfl hH ?_
 try simp only[lt,Act.put]
 refine tk (i:=15) HP rfl rfl hH ?_
 try simp only[lt,Act.put]
 refine tk (i:=16) HP rfl rfl hH ?_
 try simp only[lt,Act.put]
 refine tk (i:=17) HP rfl rfl hH ?_
 try simp only[lt,Act.put]
 refine tk (i:=18) HP rfl rfl hH ?_
 try simp only[lt,Act.put]
 refine tk (i:=21) HP rfl rfl hH ?_
 try simp only[lt,Act.put]
 refine rdy3 (i:=0) (j:=2) (k:=19) rfl rfl rfl (fun K hK=>?_) (fun K hK=>?_) (fun K hK=>?_)
 ·go_simp
  refine hK.out _ _ (HCS.out _ ((HR0.out.alloc _).drew)) (fun hH=>?_);clear hK K
  try simp only[lt,Act.put]
  refine rdy2 (i:=2) (j:=19) rfl rfl (fun K hK=>?_) (fun K hK=>?_)
  ·go_simp
   refine hK.out _ _ (HCS.out _ ((HR0.out.alloc _).drew)) (fun hH=>?_);clear hK K
   try simp only[lt,Act.put]
   refine tk (i:=4) HP rfl rfl hH ?_
   try simp only[lt,Act.put]
   refine rdy2 (i:=5) (j:=19) rfl rfl (fun K hK=>?_) (fun K hK=>?_)
   ·refine apr r21 ?_
    refine hK.out _ _ (HCS.out _ (HF.out.2.2.1)) (fun hH=>?_);clear hK K
    try simp only[lt,Act.put]
    refine rdy1 (i:=19) rfl (fun K hK=>?_);go_simp;refine hK.out _ _ (HCS.out _ (HF.out.2.2.1.alloc _)) (fun hH=>?_);clear hK K
    try simp only[lt,Act.put]
    refine rdy1 (i:=20) rfl (fun K hK=>?_);refine apr r22 ?_;refine hK.out _ _ (HCS.out _ (HF.out.2.2.2.1)) (fun hH=>?_);clear hK K
    try simp only[lt,Act.put]
    refine rdy1 (i:=22) rfl (fun K hK=>?_);refine apr r23 ?_;refine hK.out _ _ (HCS.out _ (H2.out.frm)) (fun hH=>?_);clear hK K
    try simp only[lt,Act.put]
    refine tk (i:=23) HP rfl rfl hH ?_
    try simp only[lt,Act.put]
    refine rdy1 (i:=24) rfl (fun K hK=>?_);go_simp;refine hK.out _ _ (HST.out _ _ _ hH) (fun hH=>?_);clear hK K
    try simp only[lt,Act.put]
    refine wpAnyH_done (by kernel_rfl) ?_ _;exact HQ.out _ _ _ _ _ _ _ H2.out
   ·go_simp
    refine hK.out _ _ (HCS.out _ (((HR0.out.alloc _).alloc _).drew)) (fun hH=>?_);clear hK K
    try simp only[lt,Act.put]
    refine rdy1 (i:=5) rfl (fun K hK=>?_);refine apr r11 ?_;refine hK.out _ _ (HCS.out _ (HF.out.1)) (fun hH=>?_);clear hK K
    try simp only[lt,Act.put]
    refine rdy1 (i:=20) rfl (fun K hK=>?_);refine apr r12 ?_;refine hK.out _ _ (HCS.out _ (HF.out.2.1)) (fun hH=>?_);clear hK K
    try simp only[lt,Act.put]
    refine rdy1 (i:=22) rfl (fun K hK=>?_);refine apr r13 ?_;refine hK.out _ _ (HCS.out _ (H1.out.frm)) (fun hH=>?_);clear hK K
    try simp only[lt,Act.put]
    refine tk (i:=23) HP rfl rfl hH ?_
    try simp only[lt,Act.put]
    refine rdy1 (i:=24) rfl (fun K hK=>?_);go_simp;refine hK.out _ _ (HST.out _ _ _ hH) (fun hH=>?_);clear hK K
    try simp only[lt,Act.put]
    refine wpAnyH_done (by kernel_rfl) ?_ _;exact HQ.out _ _ _ _ _ _ _ H1.out
  ·go_simp
   refine hK.out _ _ (HCS.out _ (((HR0.out.alloc _).alloc _).drew)) (fun hH=>?_);clear hK K
   try simp only[lt,Act.put]
   refine rdy1 (i:=2) rfl (fun K hK=>?_);go_simp;refine hK.out _ _ (HCS.out _ (((HR0.out.alloc _).alloc _).drew)) (fun hH=>?_);clear hK K
   try simp only[lt,Act.put]
   refine tk (i:=4) HP rfl rfl hH ?_
   try simp only[lt,Act.put]
   refine rdy1 (i:=5) rfl (fun K hK=>?_);refine apr r11 ?_;refine hK.out _ _ (HCS.out _ (HF.out.1)) (fun hH=>?_);clear hK K
   try simp only[lt,Act.put]
   refine rdy1 (i:=20) rfl (fun K hK=>?_);refine apr r12 ?_;refine hK.out _ _ (HCS.out _ (HF.out.2.1)) (fun hH=>?_);clear hK K
   try simp only[lt,Act.put]
   refine rdy1 (i:=22) rfl (fun K hK=>?_);refine apr r13 ?_;refine hK.out _ _ (HCS.out _ (H1.out.frm)) (fun hH=>?_);clear hK K
   try simp only[lt,Act.put]
   refine tk (i:=23) HP rfl rfl hH ?_
   try simp only[lt,Act.put]
   refine rdy1 (i:=24) rfl (fun K hK=>?_);go_simp;refine hK.out _ _ (HST.out _ _ _ hH) (fun hH=>?_);clear hK K
   try simp only[lt,Act.put]
   refine wpAnyH_done (by kernel_rfl) ?_ _;exact HQ.out _ _ _ _ _ _ _ H1.out
 ·go_simp
  refine hK.out _ _ (HCS.out _ ((HR0.out).drew)) (fun hH=>?_);clear hK K
  try simp only[lt,Act.put]
  refine tk (i:=4) HP rfl rfl hH ?_
  try simp only[lt,Act.put]
  refine rdy2 (i:=0) (j:=19) rfl rfl (fun K hK=>?_) (fun K hK=>?_)
  ·go_simp
   refine hK.out _ _ (HCS.out _ ((HR0.out.alloc _).drew)) (fun hH=>?_);clear hK K
   try simp only[lt,Act.put]
   refine rdy2 (i:=5) (j:=19) rfl rfl (fun K hK=>?_) (fun K hK=>?_)
   ·refine apr r21 ?_
    refine hK.out _ _ (HCS.out _ (HF.out.2.2.1)) (fun hH=>?_);clear hK K
    try simp only[lt,Act.put]
    refine rdy1 (i:=19) rfl (fun K hK=>?_);go_simp;refine hK.out _ _ (HCS.out _ (HF.out.2.2.1.alloc _)) (fun hH=>?_);clear hK K
    try simp only[lt,Act.put]
    refine rdy1 (i:=20) rfl (fun K hK=>?_);refine apr r22 ?_;refine hK.out _ _ (HCS.out _ (HF.out.2.2.2.1)) (fun hH=>?_);clear hK K
    try simp only[lt,Act.put]
    refine rdy1 (i:=22) rfl (fun K hK=>?_);refine apr r23 ?_;refine hK.out _ _ (HCS.out _ (H2.out.frm)) (fun hH=>?_);clear hK K
    try simp only[lt,Act.put]
    refine tk (i:=23) HP rfl rfl hH ?_
    try simp only[lt,Act.put]
    refine rdy1 (i:=24) rfl (fun K hK=>?_);go_simp;refine hK.out _ _ (HST.out _ _ _ hH) (fun hH=>?_);clear hK K
    try simp only[lt,Act.put]
    refine wpAnyH_done (by kernel_rfl) ?_ _;exact HQ.out _ _ _ _ _ _ _ H2.out
   ·go_simp
    refine hK.out _ _ (HCS.out _ (((HR0.out.alloc _).alloc _).drew)) (fun hH=>?_);clear hK K
    try simp only[lt,Act.put]
    refine rdy1 (i:=5) rfl (fun K hK=>?_);refine apr r11 ?_;refine hK.out _ _ (HCS.out _ (HF.out.1)) (fun hH=>?_);clear hK K
    try simp only[lt,Act.put]
    refine rdy1 (i:=20) rfl (fun K hK=>?_);refine apr r12 ?_;refine hK.out _ _ (HCS.out _ (HF.out.2.1)) (fun hH=>?_);clear hK K
    try simp only[lt,Act.put]
    refine rdy1 (i:=22) rfl (fun K hK=>?_);refine apr r13 ?_;refine hK.out _ _ (HCS.out _ (H1.out.frm)) (fun hH=>?_);clear hK K
    try simp only[lt,Act.put]
    refine tk (i:=23) HP rfl rfl hH ?_
    try simp only[lt,Act.put]
    refine rdy1 (i:=24) rfl (fun K hK=>?_);go_simp;refine hK.out _ _ (HST.out _ _ _ hH) (fun hH=>?_);clear hK K
    try simp only[lt,Act.put]
    refine wpAnyH_done (by kernel_rfl) ?_ _;exact HQ.out _ _ _ _ _ _ _ H1.out
  ·go_simp
   refine hK.out _ _ (HCS.out _ ((HR0.out.alloc _).drew)) (fun hH=>?_);clear hK K
   try simp only[lt,Act.put]
   refine rdy1 (i:=0) rfl (fun K hK=>?_);go_simp;refine hK.out _ _ (HCS.out _ (((HR0.out.alloc _).alloc _).drew)) (fun hH=>?_);clear hK K
   try simp only[lt,Act.put]
   refine rdy1 (i:=5) rfl (fun K hK=>?_);refine apr r31 ?_;refine hK.out _ _ (HCS.out _ (HF.out.2.2.2.2.1)) (fun hH=>?_);clear hK K
   try simp only[lt,Act.put]
   refine rdy1 (i:=20) rfl (fun K hK=>?_);refine apr r32 ?_;refine hK.out _ _ (HCS.out _ (HF.out.2.2.2.2.2)) (fun hH=>?_);clear hK K
   try simp only[lt,Act.put]
   refine rdy1 (i:=22) rfl (fun K hK=>?_);refine apr r33 ?_;refine hK.out _ _ (HCS.out _ (H3.out.frm)) (fun hH=>?_);clear hK K
   try simp only[lt,Act.put]
   refine tk (i:=23) HP rfl rfl hH ?_
   try simp only[lt,Act.put]
   refine rdy1 (i:=24) rfl (fun K hK=>?_);go_simp;refine hK.out _ _ (HST.out _ _ _ hH) (fun hH=>?_);clear hK K
   try simp only[lt,Act.put]
   refine wpAnyH_done (by kernel_rfl) ?_ _;exact HQ.out _ _ _ _ _ _ _ H3.out
 ·go_simp
  refine hK.out _ _ (HCS.out _ ((HR0.out.alloc _).drew)) (fun hH=>?_);clear hK K
  try simp only[lt,Act.put]
  refine rdy2 (i:=0) (j:=2) rfl rfl (fun K hK=>?_) (fun K hK=>?_)
  ·go_simp
   refine hK.out _ _ (HCS.out _ (((HR0.out.alloc _).alloc _).drew)) (fun hH=>?_);clear hK K
   try simp only[lt,Act.put]
   refine rdy1 (i:=2) rfl (fun K hK=>?_);go_simp;refine hK.out _ _ (HCS.out _ (((HR0.out.alloc _).alloc _).drew)) (fun hH=>?_);clear hK K
   try simp only[lt,Act.put]
   refine tk (i:=4) HP rfl rfl hH ?_
   try simp only[lt,Act.put]
   refine rdy1 (i:=5) rfl (fun K hK=>?_);refine apr r31 ?_;refine hK.out _ _ (HCS.out _ (HF.out.2.2.2.2.1)) (fun hH=>?_);clear hK K
   try simp only[lt,Act.put]
   refine rdy1 (i:=20) rfl (fun K hK=>?_);refine apr r32 ?_;refine hK.out _ _ (HCS.out _ (HF.out.2.2.2.2.2)) (fun hH=>?_);clear hK K
   try simp only[lt,Act.put]
   refine rdy1 (i:=22) rfl (fun K hK=>?_);refine apr r33 ?_;refine hK.out _ _ (HCS.out _ (H3.out.frm)) (fun hH=>?_);clear hK K
   try simp only[lt,Act.put]
   refine tk (i:=23) HP rfl rfl hH ?_
   try simp only[lt,Act.put]
   refine rdy1 (i:=24) rfl (fun K hK=>?_);go_simp;refine hK.out _ _ (HST.out _ _ _ hH) (fun hH=>?_);clear hK K
   try simp only[lt,Act.put]
   refine wpAnyH_done (by kernel_rfl) ?_ _;exact HQ.out _ _ _ _ _ _ _ H3.out
  ·go_simp
   refine hK.out _ _ (HCS.out _ ((HR0.out.alloc _).drew)) (fun hH=>?_);clear hK K
   try simp only[lt,Act.put]
   refine tk (i:=4) HP rfl rfl hH ?_
   try simp only[lt,Act.put]
   refine rdy1 (i:=0) rfl (fun K hK=>?_);go_simp;refine hK.out _ _ (HCS.out _ (((HR0.out.alloc _).alloc _).drew)) (fun hH=>?_);clear hK K
   try simp only[lt,Act.put]
   refine rdy1 (i:=5) rfl (fun K hK=>?_);refine apr r31 ?_;refine hK.out _ _ (HCS.out _ (HF.out.2.2.2.2.1)) (fun hH=>?_);clear hK K
   try simp only[lt,Act.put]
   refine rdy1 (i:=20) rfl (fun K hK=>?_);refine apr r32 ?_;refine hK.out _ _ (HCS.out _ (HF.out.2.2.2.2.2)) (fun hH=>?_);clear hK K
   try simp only[lt,Act.put]
   refine rdy1 (i:=22) rfl (fun K hK=>?_);refine apr r33 ?_;refine hK.out _ _ (HCS.out _ (H3.out.frm)) (fun hH=>?_);clear hK K
   try simp only[lt,Act.put]
   refine tk (i:=23) HP rfl rfl hH ?_
   try simp only[lt,Act.put]
   refine rdy1 (i:=24) rfl (fun K hK=>?_);go_simp;refine hK.out _ _ (HST.out _ _ _ hH) (fun hH=>?_);clear hK K
   try simp only[lt,Act.put]
   refine wpAnyH_done (by kernel_rfl) ?_ _;exact HQ.out _ _ _ _ _ _ _ H3.out
theorem madeR11{Q:Exit→Act→World→Prop}{wa w11 w12 w13 w21 w22 w23 w31 w32 w33:World}{bs n c k rc d1 d2 d3:Nat}{A rA B1 B2 B3:Option Addr}{v11 v12 v21 v22 v31 v32:Value}{rows:List Value}{a b n':Int}{s t u:ByteArray}{cs:Array Value}
  (hb:Blk wa bs 30 cs) (hcs:cs[4]? =some (.slice A n c)) (he:Blk wa (bs+1) 38 #[.int .i64 11,.int .i64 a,.int .i64 b,.int .i64 n',.string s,.string t,.string u]) (hk:k≤n) (hkc:n≤c) (hcm:c≤maxLen)
  (r11:∀ ty,(Builtin.append_ #[28,28] ty #[.slice (some ⟨wa.heap.size,0,none⟩) 0 0,.slice A k c]).run Tryz.prog ((wa.alloc (.cells #[] 56)).alloc (.cells #[.int .i64 a,.string s,.string t] 56)).drew=.ok v11 w11)
  (r12:∀ ty,(Builtin.append_ #[28,28] ty #[v11,.slice (some ⟨wa.heap.size+1,0,none⟩) 1 1]).run Tryz.prog w11=.ok v12 w12)
  (r13:∀ ty,(Builtin.append_ #[28,28] ty #[v12,.slice rA (n - k) rc]).run Tryz.prog w12=.ok (.slice B1 (k+1+(n - k)) d1) w13)
  (h1:RowK 56 3 wa w13 (.slice B1 (k+1+(n - k)) d1) (k+1+(n - k)) rows) (f11:Frm Nix wa w11) (f12:Frm Nix wa w12)
  (r21:∀ ty,(Builtin.append_ #[28,28] ty #[.slice (some ⟨wa.heap.size,0,none⟩) 0 0,.slice A k c]).run Tryz.prog (wa.alloc (.cells #[] 56)).drew=.ok v21 w21)
  (r22:∀ ty,(Builtin.append_ #[28,28] ty #[v21,.slice (some ⟨w21.heap.size,0,none⟩) 1 1]).run Tryz.prog (w21.alloc (.cells #[.int .i64 a,.string s,.string t] 56))=.ok v22 w22)
  (r23:∀ ty,(Builtin.append_ #[28,28] ty #[v22,.slice rA (n - k) rc]).run Tryz.prog w22=.ok (.slice B2 (k+1+(n - k)) d2) w23)
  (h2:RowK 56 3 wa w23 (.slice B2 (k+1+(n - k)) d2) (k+1+(n - k)) rows) (f21:Frm Nix wa w21) (f22:Frm Nix wa w22)
  (r31:∀ ty,(Builtin.append_ #[28,28] ty #[.slice (some ⟨wa.heap.size+1,0,none⟩) 0 0,.slice A k c]).run Tryz.prog ((wa.alloc (.cells #[.int .i64 a,.string s,.string t] 56)).alloc (.cells #[] 56)).drew=.ok v31 w31)
  (r32:∀ ty,(Builtin.append_ #[28,28] ty #[v31,.slice (some ⟨wa.heap.size,0,none⟩) 1 1]).run Tryz.prog w31=.ok v32 w32)
  (r33:∀ ty,(Builtin.append_ #[28,28] ty #[v32,.slice rA (n - k) rc]).run Tryz.prog w32=.ok (.slice B3 (k+1+(n - k)) d3) w33)
  (h3:RowK 56 3 wa w33 (.slice B3 (k+1+(n - k)) d3) (k+1+(n - k)) rows) (f31:Frm Nix wa w31) (f32:Frm Nix wa w32)
  {u0 u1 u4 u6 u7 u8 u10 u11 u12 u13 u14 u15 u16 u17 u18 u19 u20 u21 u22 u23 u24 u25 u26 u27 u28 u29 u30 u31 u32 u33 u34 u35 u36 u37 u38 u39 u40 u41 u42 u43 u44 u45 u46 u47 u48 u49 u50 u51 u52 u53 u54 u55 u56 u57 u58 u59 u60 u61 u62 u63 u64 u65 u66 u67 u68 u69 u70 u71 u72 u73 u74 u75 u76 u77 u78 u79 u80 u81 u82 u83 u84 u85 u86 u87 u88 u89 u90 u91 u92 u93 u94 u95 u96 u97 u98 u99 u100 u101 u102 u103 u104 u105 u106 u107 u108 u109 u110 u111 u112 u113 u114 u115 u116 u117 u118 u119 u120 u121 u122 u123 u124 u125 u126 u127 u128 u129 u130 u131 u132 u133 u134 u135 u136 u137 u138 u139 u140 u141 u142 u143 u144 u145 u146 u147 u148 u149 u150 u151 u152 u153 u154 u155 u156 u157 u158 u159 u160 u161 u162 u163 u164 u165 u166 u167 u168 u169 u170 u171 u172 u173 u174 u175 u176 u177 u178 u179 u180 u181 u182 u183 u184 u185 u186 u187 u188 u189 u190 u191 u192 u193 u194 u195 u196 u197 u198 u199 u200 u201 u202 u203 u204 u205 u206 u207 u208 u209 u210 u211 u212 u213 u214 u215 u216 u217 u218 u219 u220:Value} (hP:∀ (e:_) (a:Act) (i:Nat) (v:Value) (w:World),Q (.panic e) (a.put (some i) v) w→Q (.panic e) a w) (hQ:∀ (wc:World) (B:Option Addr) (d:Nat) (z0 z5 z13 z14:Value),RowK 56 3 wa wc (.slice B (k+1+(n - k)) d) (k+1+(n - k)) rows→Q .normal ⟨#[u0,u1,.pointer (some ⟨bs,0,none⟩),.pointer (some ⟨bs+1,0,none⟩),u4,.int .i64 k,u6,u7,u8,.slice rA (n - k) rc,u10,u11,u12,u13,u14,u15,u16,u17,u18,u19,u20,u21,u22,u23,u24,u25,u26,u27,u28,u29,u30,u31,u32,u33,u34,u35,u36,u37,u38,u39,u40,u41,u42,u43,u44,u45,u46,u47,u48,u49,u50,u51,u52,u53,u54,u55,u56,u57,u58,u59,u60,u61,u62,u63,u64,u65,u66,u67,u68,u69,u70,u71,u72,u73,u74,u75,u76,u77,u78,u79,u80,u81,u82,u83,u84,u85,u86,u87,u88,u89,u90,u91,u92,u93,u94,u95,u96,u97,u98,u99,u100,u101,u102,u103,u104,u105,u106,u107,u108,u109,u110,u111,u112,u113,u114,u115,u116,u117,u118,u119,u120,u121,u122,u123,u124,u125,u126,u127,u128,u129,u130,u131,u132,u133,u134,u135,u136,u137,u138,u139,u140,u141,u142,u143,u144,u145,u146,u147,u148,u149,u150,u151,u152,u153,u154,u155,u156,u157,u158,u159,u160,u161,u162,u163,u164,u165,u166,u167,u168,u169,u170,u171,u172,u173,u174,u175,u176,u177,u178,u179,u180,u181,u182,u183,u184,u185,u186,u187,u188,u189,u190,u191,u192,u193,u194,u195,z0,.pointer (some ⟨bs,4,none⟩),.slice A n c,.int .i64 k,.slice A k c,z5,.pointer (some ⟨bs+1,1,none⟩),.int .i64 a,.pointer (some ⟨bs+1,4,none⟩),.string s,.pointer (some ⟨bs+1,5,none⟩),.string t,.agg #[.int .i64 a,.string s,.string t],z13,z14,.slice rA (n - k) rc,.slice B (k+1+(n - k)) d,.pointer (some ⟨bs,4,none⟩),u214,u215,u216,u217,u218,u219,u220],[]⟩ (wc.setCell ⟨bs,4,none⟩ (.slice B (k+1+(n - k)) d))):
  Code.wp Tryz.prog (hdC (sndC (sndC (thenC (sndC (elseC (sndC (elseC (sndC (elseC (sndC (inC (sndC (hdC (peel 2 (bodyOf Tryz.f49)))))))))))))))) Q ⟨#[u0,u1,.pointer (some ⟨bs,0,none⟩),.pointer (some ⟨bs+1,0,none⟩),u4,.int .i64 k,u6,u7,u8,.slice rA (n - k) rc,u10,u11,u12,u13,u14,u15,u16,u17,u18,u19,u20,u21,u22,u23,u24,u25,u26,u27,u28,u29,u30,u31,u32,u33,u34,u35,u36,u37,u38,u39,u40,u41,u42,u43,u44,u45,u46,u47,u48,u49,u50,u51,u52,u53,u54,u55,u56,u57,u58,u59,u60,u61,u62,u63,u64,u65,u66,u67,u68,u69,u70,u71,u72,u73,u74,u75,u76,u77,u78,u79,u80,u81,u82,u83,u84,u85,u86,u87,u88,u89,u90,u91,u92,u93,u94,u95,u96,u97,u98,u99,u100,u101,u102,u103,u104,u105,u106,u107,u108,u109,u110,u111,u112,u113,u114,u115,u116,u117,u118,u119,u120,u121,u122,u123,u124,u125,u126,u127,u128,u129,u130,u131,u132,u133,u134,u135,u136,u137,u138,u139,u140,u141,u142,u143,u144,u145,u146,u147,u148,u149,u150,u151,u152,u153,u154,u155,u156,u157,u158,u159,u160,u161,u162,u163,u164,u165,u166,u167,u168,u169,u170,u171,u172,u173,u174,u175,u176,u177,u178,u179,u180,u181,u182,u183,u184,u185,u186,u187,u188,u189,u190,u191,u192,u193,u194,u195,u196,u197,u198,u199,u200,u201,u202,u203,u204,u205,u206,u207,u208,u209,u210,u211,u212,u213,u214,u215,u216,u217,u218,u219,u220],[]⟩ wa:=by
 have HB:=h_ hb;have HE:=h_ he;have HCS:Hid (∀ W,Frm Nix wa W→W.cell? ⟨bs+1,1,none⟩=some (.int .i64 a)∧W.cell? ⟨bs+1,4,none⟩=some (.string s)∧W.cell? ⟨bs+1,5,none⟩=some (.string t)):=fun W hW=>⟨((he.frm hW id).cell 1).trans rfl,((he.frm hW id).cell 4).trans rfl,((he.frm hW id).cell 5).trans rfl⟩
 have cx:∀ {W:World},Frm Nix wa W→W.cell? ⟨bs,4,none⟩=some (.slice A n c):=fun hW=>((hb.frm hW id).cell 4).trans hcs
 have cf:∀ {W:World},Frm Nix wa W→W.frozen? ⟨bs,4,none⟩=false:=fun hW=>(hb.frm hW id).frozen 4
 have HST:Hid (∀ (W:World) (B:Option Addr) (d:Nat),(W.cell? ⟨bs+1,1,none⟩=some (.int .i64 a)∧W.cell? ⟨bs+1,4,none⟩=some (.string s)∧W.cell? ⟨bs+1,5,none⟩=some (.string t))→(fun W:World=>W.cell? ⟨bs+1,1,none⟩=some (.int .i64 a)∧W.cell? ⟨bs+1,4,none⟩=some (.string s)∧W.cell? ⟨bs+1,5,none⟩=some (.string t)) (W.setCell ⟨bs,4,none⟩ (.slice B (k+1+(n - k)) d))):=by
  rintro W B d ⟨q1,q4,q5⟩;exact⟨(World.cell?_setCell_far _ _ _ _ (by simp)).trans q1,(World.cell?_setCell_far _ _ _ _ (by simp)).trans q4,(World.cell?_setCell_far _ _ _ _ (by simp)).trans q5⟩
 have R0:=fR wa;obtain⟨e1,e4,e5⟩:=HCS.out wa R0;have p1:=cx R0;have p2:=cx (R0.alloc (.cells #[] 56));have p3:=cx (R0.alloc (.cells #[.int .i64 a,.string s,.string t] 56));have p4:=cx ((R0.alloc (.cells #[] 56)).alloc (.cells #[.int .i64 a,.string s,.string t] 56));have p5:=cx ((R0.alloc (.cells #[.int .i64 a,.string s,.string t] 56)).alloc (.cells #[] 56));have sc1:=cx h1.frm;have sc2:=cx h2.frm;have sc3:=cx h3.frm;have sf1:=cf h1.frm;have sf2:=cf h2.frm;have sf3:=cf h3.frm;have hI0:(0:Int)≤(k:Int):=Int.natCast_nonneg _;have hI1:(k:Int)≤(c:Int):=by omega
 have hI2:(k:Int)≤(n:Int):=by omega
 have HQ:=h_ hQ;have HP:=h_ hP;have H1:=h_ h1;have H2:=h_ h2;have H3:=h_ h3;have HR0:=h_ R0;have HF:=h_ (And.intro f11 (And.intro f12 (And.intro f21 (And.intro f22 (And.intro f31 f32)))));clear hb he hcs cx cf R0 h1 h2 h3 f11 f12 f21 f22 f31 f32 hQ hP;simp only[hdC,sndC,thenC,elseC,inC,peel,bodyOf,Tryz.f49];refine wp_region_held_drew (S:=fun W=>W.cell? ⟨bs+1,1,none⟩=some (.int .i64 a)∧W.cell? ⟨bs+1,4,none⟩=some (.string s)∧W.cell? ⟨bs+1,5,none⟩=some (.string t)) (by kernel_rfl) (HCS.out _ HR0.out.drew) fun hH=>?_
 refine tk (i:=1) HP rfl rfl hH ?_
 try simp only[lt,Act.put]
 refine tk (i:=3) HP rfl rfl hH ?_
 try simp only[lt,Act.put]
 refine tk (i:=6) HP rfl rfl hH ?_
 try simp only[lt,Act.put]
 refine tk (i:=7) HP rfl rfl hH ?_
 try simp only[lt,Act.put]
 refine tk (i:=8) HP rfl rfl hH ?_
 try simp only[lt,Act.put]
 refine tk (i:=9) HP rfl rfl hH ?_
 try simp only[lt,Act.put]
 refine tk (i:=10) HP rfl rfl hH ?_
 try simp only[lt,Act.put]
 refine tk (i:=11) HP rfl rfl hH ?_
 try simp only[lt,Act.put]
 refine tk (i:=12) HP rfl rfl hH ?_
 try simp only[lt,Act.put]
 refine tk (i:=15) HP rfl rfl hH ?_
 try simp only[lt,Act.put]
 refine rdy3 (i:=0) (j:=2) (k:=13) rfl rfl rfl (fun K hK=>?_) (fun K hK=>?_) (fun K hK=>?_)
 ·go_simp
  refine hK.out _ _ (HCS.out _ ((HR0.out.alloc _).drew)) (fun hH=>?_);clear hK K
  try simp only[lt,Act.put]
  refine rdy2 (i:=2) (j:=13) rfl rfl (fun K hK=>?_) (fun K hK=>?_)
  ·go_simp
   refine hK.out _ _ (HCS.out _ ((HR0.out.alloc _).drew)) (fun hH=>?_);clear hK K
   try simp only[lt,Act.put]
   refine tk (i:=4) HP rfl rfl hH ?_
   try simp only[lt,Act.put]
   refine rdy2 (i:=5) (j:=13) rfl rfl (fun K hK=>?_) (fun K hK=>?_)
   ·refine apr r21 ?_
    refine hK.out _ _ (HCS.out _ (HF.out.2.2.1)) (fun hH=>?_);clear hK K
    try simp only[lt,Act.put]
    refine rdy1 (i:=13) rfl (fun K hK=>?_);go_simp;refine hK.out _ _ (HCS.out _ (HF.out.2.2.1.alloc _)) (fun hH=>?_);clear hK K
    try simp only[lt,Act.put]
    refine rdy1 (i:=14) rfl (fun K hK=>?_);refine apr r22 ?_;refine hK.out _ _ (HCS.out _ (HF.out.2.2.2.1)) (fun hH=>?_);clear hK K
    try simp only[lt,Act.put]
    refine rdy1 (i:=16) rfl (fun K hK=>?_);refine apr r23 ?_;refine hK.out _ _ (HCS.out _ (H2.out.frm)) (fun hH=>?_);clear hK K
    try simp only[lt,Act.put]
    refine tk (i:=17) HP rfl rfl hH ?_
    try simp only[lt,Act.put]
    refine rdy1 (i:=18) rfl (fun K hK=>?_);go_simp;refine hK.out _ _ (HST.out _ _ _ hH) (fun hH=>?_);clear hK K
    try simp only[lt,Act.put]
    refine wpAnyH_done (by kernel_rfl) ?_ _;exact HQ.out _ _ _ _ _ _ _ H2.out
   ·go_simp
    refine hK.out _ _ (HCS.out _ (((HR0.out.alloc _).alloc _).drew)) (fun hH=>?_);clear hK K
    try simp only[lt,Act.put]
    refine rdy1 (i:=5) rfl (fun K hK=>?_);refine apr r11 ?_;refine hK.out _ _ (HCS.out _ (HF.out.1)) (fun hH=>?_);clear hK K
    try simp only[lt,Act.put]
    refine rdy1 (i:=14) rfl (fun K hK=>?_);refine apr r12 ?_;refine hK.out _ _ (HCS.out _ (HF.out.2.1)) (fun hH=>?_);clear hK K
    try simp only[lt,Act.put]
    refine rdy1 (i:=16) rfl (fun K hK=>?_);refine apr r13 ?_;refine hK.out _ _ (HCS.out _ (H1.out.frm)) (fun hH=>?_);clear hK K
    try simp only[lt,Act.put]
    refine tk (i:=17) HP rfl rfl hH ?_
    try simp only[lt,Act.put]
    refine rdy1 (i:=18) rfl (fun K hK=>?_);go_simp;refine hK.out _ _ (HST.out _ _ _ hH) (fun hH=>?_);clear hK K
    try simp only[lt,Act.put]
    refine wpAnyH_done (by kernel_rfl) ?_ _;exact HQ.out _ _ _ _ _ _ _ H1.out
  ·go_simp
   refine hK.out _ _ (HCS.out _ (((HR0.out.alloc _).alloc _).drew)) (fun hH=>?_);clear hK K
   try simp only[lt,Act.put]
   refine rdy1 (i:=2) rfl (fun K hK=>?_);go_simp;refine hK.out _ _ (HCS.out _ (((HR0.out.alloc _).alloc _).drew)) (fun hH=>?_);clear hK K
   try simp only[lt,Act.put]
   refine tk (i:=4) HP rfl rfl hH ?_
   try simp only[lt,Act.put]
   refine rdy1 (i:=5) rfl (fun K hK=>?_);refine apr r11 ?_;refine hK.out _ _ (HCS.out _ (HF.out.1)) (fun hH=>?_);clear hK K
   try simp only[lt,Act.put]
   refine rdy1 (i:=14) rfl (fun K hK=>?_);refine apr r12 ?_;refine hK.out _ _ (HCS.out _ (HF.out.2.1)) (fun hH=>?_);clear hK K
   try simp only[lt,Act.put]
   refine rdy1 (i:=16) rfl (fun K hK=>?_);refine apr r13 ?_;refine hK.out _ _ (HCS.out _ (H1.out.frm)) (fun hH=>?_);clear hK K
   try simp only[lt,Act.put]
   refine tk (i:=17) HP rfl rfl hH ?_
   try simp only[lt,Act.put]
   refine rdy1 (i:=18) rfl (fun K hK=>?_);go_simp;refine hK.out _ _ (HST.out _ _ _ hH) (fun hH=>?_);clear hK K
   try simp only[lt,Act.put]
   refine wpAnyH_done (by kernel_rfl) ?_ _;exact HQ.out _ _ _ _ _ _ _ H1.out
 ·go_simp
  refine hK.out _ _ (HCS.out _ ((HR0.out).drew)) (fun hH=>?_);clear hK K
  try simp only[lt,Act.put]
  refine tk (i:=4) HP rfl rfl hH ?_
  try simp only[lt,Act.put]
  refine rdy2 (i:=0) (j:=13) rfl rfl (fun K hK=>?_) (fun K hK=>?_)
  ·go_simp
   refine hK.out _ _ (HCS.out _ ((HR0.out.alloc _).drew)) (fun hH=>?_);clear hK K
   try simp only[lt,Act.put]
   refine rdy2 (i:=5) (j:=13) rfl rfl (fun K hK=>?_) (fun K hK=>?_)
   ·refine apr r21 ?_
    refine hK.out _ _ (HCS.out _ (HF.out.2.2.1)) (fun hH=>?_);clear hK K
    try simp only[lt,Act.put]
    refine rdy1 (i:=13) rfl (fun K hK=>?_);go_simp;refine hK.out _ _ (HCS.out _ (HF.out.2.2.1.alloc _)) (fun hH=>?_);clear hK K
    try simp only[lt,Act.put]
    refine rdy1 (i:=14) rfl (fun K hK=>?_);refine apr r22 ?_;refine hK.out _ _ (HCS.out _ (HF.out.2.2.2.1)) (fun hH=>?_);clear hK K
    try simp only[lt,Act.put]
    refine rdy1 (i:=16) rfl (fun K hK=>?_);refine apr r23 ?_;refine hK.out _ _ (HCS.out _ (H2.out.frm)) (fun hH=>?_);clear hK K
    try simp only[lt,Act.put]
    refine tk (i:=17) HP rfl rfl hH ?_
    try simp only[lt,Act.put]
    refine rdy1 (i:=18) rfl (fun K hK=>?_);go_simp;refine hK.out _ _ (HST.out _ _ _ hH) (fun hH=>?_);clear hK K
    try simp only[lt,Act.put]
    refine wpAnyH_done (by kernel_rfl) ?_ _;exact HQ.out _ _ _ _ _ _ _ H2.out
   ·go_simp
    refine hK.out _ _ (HCS.out _ (((HR0.out.alloc _).alloc _).drew)) (fun hH=>?_);clear hK K
    try simp only[lt,Act.put]
    refine rdy1 (i:=5) rfl (fun K hK=>?_);refine apr r11 ?_;refine hK.out _ _ (HCS.out _ (HF.out.1)) (fun hH=>?_);clear hK K
    try simp only[lt,Act.put]
    refine rdy1 (i:=14) rfl (fun K hK=>?_);refine apr r12 ?_;refine hK.out _ _ (HCS.out _ (HF.out.2.1)) (fun hH=>?_);clear hK K
    try simp only[lt,Act.put]
    refine rdy1 (i:=16) rfl (fun K hK=>?_);refine apr r13 ?_;refine hK.out _ _ (HCS.out _ (H1.out.frm)) (fun hH=>?_);clear hK K
    try simp only[lt,Act.put]
    refine tk (i:=17) HP rfl rfl hH ?_
    try simp only[lt,Act.put]
    refine rdy1 (i:=18) rfl (fun K hK=>?_);go_simp;refine hK.out _ _ (HST.out _ _ _ hH) (fun hH=>?_);clear hK K
    try simp only[lt,Act.put]
    refine wpAnyH_done (by kernel_rfl) ?_ _;exact HQ.out _ _ _ _ _ _ _ H1.out
  ·go_simp
   refine hK.out _ _ (HCS.out _ ((HR0.out.alloc _).drew)) (fun hH=>?_);clear hK K
   try simp only[lt,Act.put]
   refine rdy1 (i:=0) rfl (fun K hK=>?_);go_simp;refine hK.out _ _ (HCS.out _ (((HR0.out.alloc _).alloc _).drew)) (fun hH=>?_);clear hK K
   try simp only[lt,Act.put]
   refine rdy1 (i:=5) rfl (fun K hK=>?_);refine apr r31 ?_;refine hK.out _ _ (HCS.out _ (HF.out.2.2.2.2.1)) (fun hH=>?_);clear hK K
   try simp only[lt,Act.put]
   refine rdy1 (i:=14) rfl (fun K hK=>?_);refine apr r32 ?_;refine hK.out _ _ (HCS.out _ (HF.out.2.2.2.2.2)) (fun hH=>?_);clear hK K
   try simp only[lt,Act.put]
   refine rdy1 (i:=16) rfl (fun K hK=>?_);refine apr r33 ?_;refine hK.out _ _ (HCS.out _ (H3.out.frm)) (fun hH=>?_);clear hK K
   try simp only[lt,Act.put]
   refine tk (i:=17) HP rfl rfl hH ?_
   try simp only[lt,Act.put]
   refine rdy1 (i:=18) rfl (fun K hK=>?_);go_simp;refine hK.out _ _ (HST.out _ _ _ hH) (fun hH=>?_);clear hK K
   try simp only[lt,Act.put]
   refine wpAnyH_done (by kernel_rfl) ?_ _;exact HQ.out _ _ _ _ _ _ _ H3.out
 ·go_simp
  refine hK.out _ _ (HCS.out _ ((HR0.out.alloc _).drew)) (fun hH=>?_);clear hK K
  try simp only[lt,Act.put]
  refine rdy2 (i:=0) (j:=2) rfl rfl (fun K hK=>?_) (fun K hK=>?_)
  ·go_simp
   refine hK.out _ _ (HCS.out _ (((HR0.out.alloc _).alloc _).drew)) (fun hH=>?_);clear hK K
   try simp only[lt,Act.put]
   refine rdy1 (i:=2) rfl (fun K hK=>?_);go_simp;refine hK.out _ _ (HCS.out _ (((HR0.out.alloc _).alloc _).drew)) (fun hH=>?_);clear hK K
   try simp only[lt,Act.put]
   refine tk (i:=4) HP rfl rfl hH ?_
   try simp only[lt,Act.put]
   refine rdy1 (i:=5) rfl (fun K hK=>?_);refine apr r31 ?_;refine hK.out _ _ (HCS.out _ (HF.out.2.2.2.2.1)) (fun hH=>?_);clear hK K
   try simp only[lt,Act.put]
   refine rdy1 (i:=14) rfl (fun K hK=>?_);refine apr r32 ?_;refine hK.out _ _ (HCS.out _ (HF.out.2.2.2.2.2)) (fun hH=>?_);clear hK K
   try simp only[lt,Act.put]
   refine rdy1 (i:=16) rfl (fun K hK=>?_);refine apr r33 ?_;refine hK.out _ _ (HCS.out _ (H3.out.frm)) (fun hH=>?_);clear hK K
   try simp only[lt,Act.put]
   refine tk (i:=17) HP rfl rfl hH ?_
   try simp only[lt,Act.put]
   refine rdy1 (i:=18) rfl (fun K hK=>?_);go_simp;refine hK.out _ _ (HST.out _ _ _ hH) (fun hH=>?_);clear hK K
   try simp only[lt,Act.put]
   refine wpAnyH_done (by kernel_rfl) ?_ _;exact HQ.out _ _ _ _ _ _ _ H3.out
  ·go_simp
   refine hK.out _ _ (HCS.out _ ((HR0.out.alloc _).drew)) (fun hH=>?_);clear hK K
   try simp only[lt,Act.put]
   refine tk (i:=4) HP rfl rfl hH ?_
   try simp only[lt,Act.put]
   refine rdy1 (i:=0) rfl (fun K hK=>?_);go_simp;refine hK.out _ _ (HCS.out _ (((HR0.out.alloc _).alloc _).drew)) (fun hH=>?_);clear hK K
   try simp only[lt,Act.put]
   refine rdy1 (i:=5) rfl (fun K hK=>?_);refine apr r31 ?_;refine hK.out _ _ (HCS.out _ (HF.out.2.2.2.2.1)) (fun hH=>?_);clear hK K
   try simp only[lt,Act.put]
   refine rdy1 (i:=14) rfl (fun K hK=>?_);refine apr r32 ?_;refine hK.out _ _ (HCS.out _ (HF.out.2.2.2.2.2)) (fun hH=>?_);clear hK K
   try simp only[lt,Act.put]
   refine rdy1 (i:=16) rfl (fun K hK=>?_);refine apr r33 ?_;refine hK.out _ _ (HCS.out _ (H3.out.frm)) (fun hH=>?_);clear hK K
   try simp only[lt,Act.put]
   refine tk (i:=17) HP rfl rfl hH ?_
   try simp only[lt,Act.put]
   refine rdy1 (i:=18) rfl (fun K hK=>?_);go_simp;refine hK.out _ _ (HST.out _ _ _ hH) (fun hH=>?_);clear hK K
   try simp only[lt,Act.put]
   refine wpAnyH_done (by kernel_rfl) ?_ _;exact HQ.out _ _ _ _ _ _ _ H3.out
end Go.Proofs.YtlafbakoefcifaaGreat
