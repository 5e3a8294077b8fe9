/- Words. -/
import Derived.Test.YtaecjmiobllhmaaGreatGp65
import Derived.Test.YtaecjmiobllhmaaGreatGp62
import Derived.Test.YtaecjmiobllhmaaGreatGp27
import Derived.Deep.RegionLaw
set_option linter.unusedVariables false
set_option linter.unusedSimpArgs false
set_option maxRecDepth 100000
set_option maxHeartbeats 16000000
namespace Go.Proofs.YtaecjmiobllhmaaGreat
open Go.RowKit Go.Lib
theorem goneR4{Q:Exit→Act→World→Prop}{wa w1 w2:World}{bs n c p d':Nat}{A B':Option Addr}{v1:Value}{rows:List Value}{cs:Array Value}
  (hb:Blk wa bs 36 cs) (hcs:cs[2]? =some (.slice A n c)) (hp:p<n) (hnc:n≤c) (hcm:c≤100000∨c≤maxLen) (hpm:p≤100000)
  (r1:∀ty,(Builtin.append_ #[32,32] ty #[.slice (some ⟨wa.heap.size,0,none⟩) 0 0,.slice A p c]).run Tryz.prog (wa.alloc (.cells #[] 64)).drew=.ok v1 w1)
  (r2:∀ty,(Builtin.append_ #[32,32] ty #[v1,(.slice (if c=p+1 then A else A.map (·.add ((p+1) * 4))) (n - (p+1)) (c - (p+1)))]).run Tryz.prog w1=.ok (.slice B' (p+(n - (p+1))) d') w2)
  (h1:RowK 64 4 wa w2 (.slice B' (p+(n - (p+1))) d') (p+(n - (p+1))) rows) (f1:Frm Nix wa w1)
  {u0 u1 u3 u4 u5 u7 u8 u9 u10 u11 u12 u13 u14 u15 u16 u17 u18 u19 u20 u21 u22 u23 u24 u25 u26 u27 u28 u29 u30 u31 u32 u33 u34 u35 u36 u37 u38 u39 u40 u41 u42 u43 u44 u45 u46 u47 u48 u49 u50 u51 u52 u53 u54 u55 u56 u57 u58 u59 u60 u61 u62 u63 u64 u65 u66 u67 u68 u69 u70 u71 u72 u73 u74 u75 u76 u77 u78 u79 u80 u81 u82 u83 u84 u85 u86 u87 u88 u89 u90 u91 u92 u93 u94 u95:Value} (hP:∀(e:_) (a:Act) (i:Nat) (v:Value) (w:World),Q (.panic e) (a.put (some i) v) w→Q (.panic e) a w) (hQ:∀(wc:World) (B:Option Addr) (d:Nat) (z0 z5 z9 z10:Value),RowK 64 4 wa wc (.slice B (p+(n - (p+1))) d) (p+(n - (p+1))) rows→Q .normal ⟨#[u0,u1,.pointer (some ⟨bs,0,none⟩),u3,u4,u5,.int .i64 p,u7,u8,u9,u10,u11,u12,u13,u14,u15,u16,u17,u18,u19,u20,u21,u22,u23,u24,u25,u26,u27,u28,u29,u30,u31,u32,u33,u34,u35,u36,z0,.pointer (some ⟨bs,2,none⟩),.slice A n c,.int .i64 p,.slice A p c,z5,.pointer (some ⟨bs,2,none⟩),.slice A n c,.int .i64 p,z9,z10,.slice B (p+(n - (p+1))) d,.pointer (some ⟨bs,2,none⟩),u50,u51,u52,u53,u54,u55,u56,u57,u58,u59,u60,u61,u62,u63,u64,u65,u66,u67,u68,u69,u70,u71,u72,u73,u74,u75,u76,u77,u78,u79,u80,u81,u82,u83,u84,u85,u86,u87,u88,u89,u90,u91,u92,u93,u94,u95],[]⟩ (wc.setCell ⟨bs,2,none⟩ (.slice B (p+(n - (p+1))) d))):
  Code.wp Tryz.prog (hdC (sndC (thenC (sndC (elseC (sndC (inC (sndC (hdC (peel 1 (bodyOf Tryz.f32))))))))))) Q ⟨#[u0,u1,.pointer (some ⟨bs,0,none⟩),u3,u4,u5,.int .i64 p,u7,u8,u9,u10,u11,u12,u13,u14,u15,u16,u17,u18,u19,u20,u21,u22,u23,u24,u25,u26,u27,u28,u29,u30,u31,u32,u33,u34,u35,u36,u37,u38,u39,u40,u41,u42,u43,u44,u45,u46,u47,u48,u49,u50,u51,u52,u53,u54,u55,u56,u57,u58,u59,u60,u61,u62,u63,u64,u65,u66,u67,u68,u69,u70,u71,u72,u73,u74,u75,u76,u77,u78,u79,u80,u81,u82,u83,u84,u85,u86,u87,u88,u89,u90,u91,u92,u93,u94,u95],[]⟩ wa:=by
 have cx:∀{W:World},Frm Nix wa W→W.cell? ⟨bs,2,none⟩=some (.slice A n c):=λhW=>((hb.frm hW id).cell 2).trans hcs
 have cf:∀{W:World},Frm Nix wa W→W.frozen? ⟨bs,2,none⟩=false:=λhW=>(hb.frm hW id).frozen 2
 have R0:=fR wa;have p1:=cx R0;have p2:=cx (R0.alloc (.cells #[] 64));have p3:=cx f1;have sc1:=cx h1.frm;have sf1:=cf h1.frm;have hI0:(0:Int)≤(p:Int):=Int.natCast_nonneg _;have hI1:(p:Int)≤(c:Int):=by omega
 have hI2:(p:Int)+1≤(n:Int):=by omega
 have hI3:(0:Int)≤(p:Int)+1:=by omega
 have hw64:IntKind.i64.wrap ((p:Int)+1)=(p:Int)+1:=IntWalk.i64_in _ (by omega);have HQ:=h_ hQ;have HP:=h_ hP;have H1:=h_ h1;clear hb hcs cx cf R0 h1 f1 hQ hP;simp only[hdC,sndC,thenC,elseC,inC,peel,bodyOf,Tryz.f32];refine wp_region_held_drew (S:=λ_=>True) (by kernel_rfl) trivial λhH=>?_
 refine tk (i:=1) HP rfl rfl hH ?_
 try simp only[lt,Act.put]
 refine tk (i:=3) HP rfl rfl hH ?_
 try simp only[lt,Act.put]
 refine tk (i:=6) HP rfl rfl hH ?_
 try simp only[lt,Act.put]
 refine tk (i:=8) HP rfl rfl hH ?_
 try simp only[lt,Act.put]
 refine tk (i:=9) HP rfl rfl hH ?_
 try simp only[lt,Act.put]
 refine rdy3 (i:=0) (j:=2) (k:=7) rfl rfl rfl (λK hK=>?_) (λK hK=>?_) (λK hK=>?_)
 ·go_simp
  refine hK.out _ _ trivial (λhH=>?_);clear hK K
  try simp only[lt,Act.put]
  refine rdy2 (i:=2) (j:=7) rfl rfl (λK hK=>?_) (λK hK=>?_)
  ·go_simp
   refine hK.out _ _ trivial (λhH=>?_);clear hK K
   try simp only[lt,Act.put]
   refine tk (i:=4) HP rfl rfl hH ?_
   try simp only[lt,Act.put]
   refine rdy2 (i:=5) (j:=7) rfl rfl (λK hK=>?_) (λK hK=>?_)
   ·refine apr r1 ?_
    refine hK.out _ _ trivial (λhH=>?_);clear hK K
    try simp only[lt,Act.put]
    refine rdy1 (i:=7) rfl (λK hK=>?_);go_simp;refine hK.out _ _ trivial (λhH=>?_);clear hK K
    try simp only[lt,Act.put]
    refine tk (i:=10) HP rfl rfl hH ?_
    try simp only[lt,Act.put]
    refine rdy1 (i:=11) rfl (λK hK=>?_);refine apr r2 ?_;refine hK.out _ _ trivial (λhH=>?_);clear hK K
    try simp only[lt,Act.put]
    refine tk (i:=12) HP rfl rfl hH ?_
    try simp only[lt,Act.put]
    refine rdy1 (i:=13) rfl (λK hK=>?_);go_simp;refine hK.out _ _ trivial (λhH=>?_);clear hK K
    try simp only[lt,Act.put]
    refine wpAnyH_done (by kernel_rfl) ?_ _;exact HQ.out _ _ _ _ _ _ _ H1.out
   ·go_simp
    refine hK.out _ _ trivial (λhH=>?_);clear hK K
    try simp only[lt,Act.put]
    refine tk (i:=10) HP rfl rfl hH ?_
    try simp only[lt,Act.put]
    refine rdy1 (i:=5) rfl (λK hK=>?_);refine apr r1 ?_;refine hK.out _ _ trivial (λhH=>?_);clear hK K
    try simp only[lt,Act.put]
    refine rdy1 (i:=11) rfl (λK hK=>?_);refine apr r2 ?_;refine hK.out _ _ trivial (λhH=>?_);clear hK K
    try simp only[lt,Act.put]
    refine tk (i:=12) HP rfl rfl hH ?_
    try simp only[lt,Act.put]
    refine rdy1 (i:=13) rfl (λK hK=>?_);go_simp;refine hK.out _ _ trivial (λhH=>?_);clear hK K
    try simp only[lt,Act.put]
    refine wpAnyH_done (by kernel_rfl) ?_ _;exact HQ.out _ _ _ _ _ _ _ H1.out
  ·go_simp
   refine hK.out _ _ trivial (λhH=>?_);clear hK K
   try simp only[lt,Act.put]
   refine tk (i:=10) HP rfl rfl hH ?_
   try simp only[lt,Act.put]
   refine rdy1 (i:=2) rfl (λK hK=>?_);go_simp;refine hK.out _ _ trivial (λhH=>?_);clear hK K
   try simp only[lt,Act.put]
   refine tk (i:=4) HP rfl rfl hH ?_
   try simp only[lt,Act.put]
   refine rdy1 (i:=5) rfl (λK hK=>?_);refine apr r1 ?_;refine hK.out _ _ trivial (λhH=>?_);clear hK K
   try simp only[lt,Act.put]
   refine rdy1 (i:=11) rfl (λK hK=>?_);refine apr r2 ?_;refine hK.out _ _ trivial (λhH=>?_);clear hK K
   try simp only[lt,Act.put]
   refine tk (i:=12) HP rfl rfl hH ?_
   try simp only[lt,Act.put]
   refine rdy1 (i:=13) rfl (λK hK=>?_);go_simp;refine hK.out _ _ trivial (λhH=>?_);clear hK K
   try simp only[lt,Act.put]
   refine wpAnyH_done (by kernel_rfl) ?_ _;exact HQ.out _ _ _ _ _ _ _ H1.out
 ·go_simp
  refine hK.out _ _ trivial (λhH=>?_);clear hK K
  try simp only[lt,Act.put]
  refine tk (i:=4) HP rfl rfl hH ?_
  try simp only[lt,Act.put]
  refine rdy2 (i:=0) (j:=7) rfl rfl (λK hK=>?_) (λK hK=>?_)
  ·go_simp
   refine hK.out _ _ trivial (λhH=>?_);clear hK K
   try simp only[lt,Act.put]
   refine rdy2 (i:=5) (j:=7) rfl rfl (λK hK=>?_) (λK hK=>?_)
   ·refine apr r1 ?_
    refine hK.out _ _ trivial (λhH=>?_);clear hK K
    try simp only[lt,Act.put]
    refine rdy1 (i:=7) rfl (λK hK=>?_);go_simp;refine hK.out _ _ trivial (λhH=>?_);clear hK K
    try simp only[lt,Act.put]
    refine tk (i:=10) HP rfl rfl hH ?_
    try simp only[lt,Act.put]
    refine rdy1 (i:=11) rfl (λK hK=>?_);refine apr r2 ?_;refine hK.out _ _ trivial (λhH=>?_);clear hK K
    try simp only[lt,Act.put]
    refine tk (i:=12) HP rfl rfl hH ?_
    try simp only[lt,Act.put]
    refine rdy1 (i:=13) rfl (λK hK=>?_);go_simp;refine hK.out _ _ trivial (λhH=>?_);clear hK K
    try simp only[lt,Act.put]
    refine wpAnyH_done (by kernel_rfl) ?_ _;exact HQ.out _ _ _ _ _ _ _ H1.out
   ·go_simp
    refine hK.out _ _ trivial (λhH=>?_);clear hK K
    try simp only[lt,Act.put]
    refine tk (i:=10) HP rfl rfl hH ?_
    try simp only[lt,Act.put]
    refine rdy1 (i:=5) rfl (λK hK=>?_);refine apr r1 ?_;refine hK.out _ _ trivial (λhH=>?_);clear hK K
    try simp only[lt,Act.put]
    refine rdy1 (i:=11) rfl (λK hK=>?_);refine apr r2 ?_;refine hK.out _ _ trivial (λhH=>?_);clear hK K
    try simp only[lt,Act.put]
    refine tk (i:=12) HP rfl rfl hH ?_
    try simp only[lt,Act.put]
    refine rdy1 (i:=13) rfl (λK hK=>?_);go_simp;refine hK.out _ _ trivial (λhH=>?_);clear hK K
    try simp only[lt,Act.put]
    refine wpAnyH_done (by kernel_rfl) ?_ _;exact HQ.out _ _ _ _ _ _ _ H1.out
  ·go_simp
   refine hK.out _ _ trivial (λhH=>?_);clear hK K
   try simp only[lt,Act.put]
   refine tk (i:=10) HP rfl rfl hH ?_
   try simp only[lt,Act.put]
   refine rdy1 (i:=0) rfl (λK hK=>?_);go_simp;refine hK.out _ _ trivial (λhH=>?_);clear hK K
   try simp only[lt,Act.put]
   refine rdy1 (i:=5) rfl (λK hK=>?_);refine apr r1 ?_;refine hK.out _ _ trivial (λhH=>?_);clear hK K
   try simp only[lt,Act.put]
   refine rdy1 (i:=11) rfl (λK hK=>?_);refine apr r2 ?_;refine hK.out _ _ trivial (λhH=>?_);clear hK K
   try simp only[lt,Act.put]
   refine tk (i:=12) HP rfl rfl hH ?_
   try simp only[lt,Act.put]
   refine rdy1 (i:=13) rfl (λK hK=>?_);go_simp;refine hK.out _ _ trivial (λhH=>?_);clear hK K
   try simp only[lt,Act.put]
   refine wpAnyH_done (by kernel_rfl) ?_ _;exact HQ.out _ _ _ _ _ _ _ H1.out
 ·go_simp
  refine hK.out _ _ trivial (λhH=>?_);clear hK K
  try simp only[lt,Act.put]
  refine tk (i:=10) HP rfl rfl hH ?_
  try simp only[lt,Act.put]
  refine rdy2 (i:=0) (j:=2) rfl rfl (λK hK=>?_) (λK hK=>?_)
  ·go_simp
   refine hK.out _ _ trivial (λhH=>?_);clear hK K
   try simp only[lt,Act.put]
   refine rdy1 (i:=2) rfl (λK hK=>?_);go_simp;refine hK.out _ _ trivial (λhH=>?_);clear hK K
   try simp only[lt,Act.put]
   refine tk (i:=4) HP rfl rfl hH ?_
   try simp only[lt,Act.put]
   refine rdy1 (i:=5) rfl (λK hK=>?_);refine apr r1 ?_;refine hK.out _ _ trivial (λhH=>?_);clear hK K
   try simp only[lt,Act.put]
   refine rdy1 (i:=11) rfl (λK hK=>?_);refine apr r2 ?_;refine hK.out _ _ trivial (λhH=>?_);clear hK K
   try simp only[lt,Act.put]
   refine tk (i:=12) HP rfl rfl hH ?_
   try simp only[lt,Act.put]
   refine rdy1 (i:=13) rfl (λK hK=>?_);go_simp;refine hK.out _ _ trivial (λhH=>?_);clear hK K
   try simp only[lt,Act.put]
   refine wpAnyH_done (by kernel_rfl) ?_ _;exact HQ.out _ _ _ _ _ _ _ H1.out
  ·go_simp
   refine hK.out _ _ trivial (λhH=>?_);clear hK K
   try simp only[lt,Act.put]
   refine tk (i:=4) HP rfl rfl hH ?_
   try simp only[lt,Act.put]
   refine rdy1 (i:=0) rfl (λK hK=>?_);go_simp;refine hK.out _ _ trivial (λhH=>?_);clear hK K
   try simp only[lt,Act.put]
   refine rdy1 (i:=5) rfl (λK hK=>?_);refine apr r1 ?_;refine hK.out _ _ trivial (λhH=>?_);clear hK K
   try simp only[lt,Act.put]
   refine rdy1 (i:=11) rfl (λK hK=>?_);refine apr r2 ?_;refine hK.out _ _ trivial (λhH=>?_);clear hK K
   try simp only[lt,Act.put]
   refine tk (i:=12) HP rfl rfl hH ?_
   try simp only[lt,Act.put]
   refine rdy1 (i:=13) rfl (λK hK=>?_);go_simp;refine hK.out _ _ trivial (λhH=>?_);clear hK K
   try simp only[lt,Act.put]
   refine wpAnyH_done (by kernel_rfl) ?_ _;exact HQ.out _ _ _ _ _ _ _ H1.out
theorem eraseP_take{α:Type}(q:α→Bool):∀l:List α,l.eraseP q=l.take (l.findIdx q)++l.drop (l.findIdx q+1)
 | []=>by simp
 | a::l=>by
   by_cases h:q a=true
   ·rw[List.eraseP_cons_of_pos h,List.findIdx_cons]
    simp[h]
   ·rw[List.eraseP_cons_of_neg h,List.findIdx_cons,eraseP_take q l]
    simp[h]
theorem delI_take{α:Type}{g:α→Int}{id:Int}{l:List α}:delI g id l=l.take (posI g id l)++l.drop (posI g id l+1):=eraseP_take _ l
theorem fol_one(l:List Fol):∀u∈l.flatMap Fol.cells,u.oneCell'=true:=by
 intro u hu;obtain⟨f,-,hu⟩:=List.mem_flatMap.1 hu;simp[Fol.cells] at hu;rcases hu with rfl | rfl | rfl<;>rfl
theorem sea_one(l:List Sea):∀u∈l.flatMap Sea.cells,u.oneCell'=true:=by
 intro u hu;obtain⟨f,-,hu⟩:=List.mem_flatMap.1 hu;simp[Sea.cells] at hu;rcases hu with rfl | rfl | rfl<;>rfl
theorem fee_one(l:List Fee):∀u∈l.flatMap Fee.cells,u.oneCell'=true:=by
 intro u hu;obtain⟨f,-,hu⟩:=List.mem_flatMap.1 hu;simp[Fee.cells] at hu;rcases hu with rfl | rfl | rfl | rfl<;>rfl
theorem gone_ret{W:World}{g:Nat}{tmps:Array Value}{a0 a1 a2 a3 a4 a5 a6 a7 a8:Value}(hb:Blk W g 36 #[a0,a1,a2,a3,a4,a5,a6,a7,a8])(h2:tmps.getD 4 undef=.pointer (some ⟨g,0,none⟩)):
  (results Tryz.f32 tmps).run Tryz.prog W=.ok (.agg #[a0,a1,a2,a3,a4,a5,a6,a7,a8]) W:=by
 obtain⟨c0,c1,c2,c3,c4,c5,c6,c7,c8⟩:=blk9 hb;have h2':tmps[4]?.getD undef=.pointer (some ⟨g,0,none⟩):=by simpa using h2
 simp[results,Tryz.results32,h2',go_sem,c0,c1,c2,c3,c4,c5,c6,c7,c8]
theorem box_ser(w:World)(fo fe it se:Sl)(x:St)(k a b n:Int)(s t u:ByteArray):∃w0,w0=((w.alloc (.cells #[.int .i64 x.clock,.slice fo.1 x.fols.length fo.2,.slice fe.1 x.fees.length fe.2,.slice it.1 x.itms.length it.2,.slice se.1 x.seas.length se.2,.int .i64 x.tFol,.int .i64 x.tFee,.int .i64 x.tItm,.int .i64 x.tSea] 36)).alloc (.cells #[.int .i64 k,.int .i64 a,.int .i64 b,.int .i64 n,.string s,.string t,.string u] 42)).alloc (.cells #[.int .i64 0,.slice none 0 0,.slice none 0 0,.slice none 0 0,.slice none 0 0,.int .i64 0,.int .i64 0,.int .i64 0,.int .i64 0] 36)∧Frm Nix w w0∧Blk w0 w.heap.size 36 #[.int .i64 x.clock,.slice fo.1 x.fols.length fo.2,.slice fe.1 x.fees.length fe.2,.slice it.1 x.itms.length it.2,.slice se.1 x.seas.length se.2,.int .i64 x.tFol,.int .i64 x.tFee,.int .i64 x.tItm,.int .i64 x.tSea]∧Blk w0 (w.heap.size+1) 42 #[.int .i64 k,.int .i64 a,.int .i64 b,.int .i64 n,.string s,.string t,.string u]∧Blk w0 (w.heap.size+2) 36 #[.int .i64 0,.slice none 0 0,.slice none 0 0,.slice none 0 0,.slice none 0 0,.int .i64 0,.int .i64 0,.int .i64 0,.int .i64 0]:=by
 refine⟨_,rfl,(((fR w).alloc _).alloc _).alloc _,(Blk.new w _ _).frm (((fR _).alloc _).alloc _) id,?_,?_⟩
 ·have:=(Blk.new (w.alloc (.cells #[.int .i64 x.clock,.slice fo.1 x.fols.length fo.2,.slice fe.1 x.fees.length fe.2,.slice it.1 x.itms.length it.2,.slice se.1 x.seas.length se.2,.int .i64 x.tFol,.int .i64 x.tFee,.int .i64 x.tItm,.int .i64 x.tSea] 36)) 42 #[.int .i64 k,.int .i64 a,.int .i64 b,.int .i64 n,.string s,.string t,.string u]).frm ((fR _).alloc (.cells #[.int .i64 0,.slice none 0 0,.slice none 0 0,.slice none 0 0,.slice none 0 0,.int .i64 0,.int .i64 0,.int .i64 0,.int .i64 0] 36)) id
  simpa using this
 ·have:=Blk.new ((w.alloc (.cells #[.int .i64 x.clock,.slice fo.1 x.fols.length fo.2,.slice fe.1 x.fees.length fe.2,.slice it.1 x.itms.length it.2,.slice se.1 x.seas.length se.2,.int .i64 x.tFol,.int .i64 x.tFee,.int .i64 x.tItm,.int .i64 x.tSea] 36)).alloc (.cells #[.int .i64 k,.int .i64 a,.int .i64 b,.int .i64 n,.string s,.string t,.string u] 42)) 36 #[.int .i64 0,.slice none 0 0,.slice none 0 0,.slice none 0 0,.slice none 0 0,.int .i64 0,.int .i64 0,.int .i64 0,.int .i64 0]
  simpa using this
theorem cut_runs{P:Program}{t e:TypeId}{s bytes:Nat}(E:ElemK P t e s bytes){w1:World}{G:Nat→Prop}{A:Option Addr}{c n p:Nat}{xs:List Value}(hr:Rd w1 G s A n xs)(hc:n≤c)(hm:c≤maxLen)(h1:∀u∈xs,u.oneCell'=true)(hn:n≤100000)(hp:p<n)(hby:bytes≤1000):
  ∃v1 wb v2 wc,(∀ty,(Builtin.append_ #[t,t] ty #[.slice (some ⟨w1.heap.size,0,none⟩) 0 0,.slice A p c]).run P (w1.alloc (.cells #[] e)).drew=.ok v1 wb)∧
    (∀ty,(Builtin.append_ #[t,t] ty #[v1,.slice (if c=p+1 then A else A.map (·.add ((p+1) * s))) (n - (p+1)) (c - (p+1))]).run P wb=.ok v2 wc)∧
    RowK e s w1 wc v2 (p+(n - (p+1))) (xs.take (p * s)++xs.drop ((p+1) * s))∧Frm Nix w1 wb∧Frm Nix w1 wc:=by
 have hb1:(0+p) * bytes≤140737488355328:=by
  have:=Nat.mul_le_mul (show 0+p≤100000 by omega) hby;omega
 have hb2:(0+p+(n - (p+1))) * bytes≤140737488355328:=by
  have:=Nat.mul_le_mul (show 0+p+(n - (p+1))≤100000 by omega) hby;omega
 have r0:RowK e s w1 (w1.alloc (.cells #[] e)).drew (.slice (some ⟨w1.heap.size,0,none⟩) 0 0) 0 []:=(RowK.empty e s (fR w1)).more ((fR _).drew);obtain⟨v1,wb,q1,r1,-,-⟩:=r0.app E c ((hr.take (Nat.le_of_lt hp)).frm r0.frm λ_ _=>id) (λu hu=>h1 u (List.mem_of_mem_take hu)) (by unfold maxLen;omega) hb1;obtain⟨v2,wc,q2,r2,-,-⟩:=r1.app E (c - (p+1)) ((hr.cut (k:=p+1) (by omega) hc).frm r1.frm λ_ _=>id) (λu hu=>h1 u (List.mem_of_mem_drop hu)) (by unfold maxLen;omega) hb2;rw[Nat.zero_add,List.nil_append] at r2;exact⟨v1,wb,v2,wc,q1,q2,r2,r1.frm,r2.frm⟩
theorem rgone2_any{w:World}{fo fe it se:Sl}{ts:List (Sl×Itm)}{x:St}{G:Nat→Prop}(hS:StIn w G fo fe it se ts x)(hsm:StSmall x){a b n:Int}{s t u:ByteArray}(hi:isI Fol.id a x.fols=true):
  Calls Tryz.prog 32 #[stV fo fe it se x,evV ⟨2,a,b,n,s,t,u⟩] w λr w'=>∃fo':Sl,r=.returned (stV fo' fe it se {x with fols:=(delI Fol.id a x.fols)})∧StIn w' (λk=>G k∨w.heap.size≤k) fo' fe it se ts {x with fols:=(delI Fol.id a x.fols)}∧Frm Nix w w':=by
 obtain⟨w0,hw0,hf0,hb1,hb2,hb3⟩:=box_ser w fo fe it se x 2 a b n s t u;obtain⟨e0,e1,e2,e3,e4,e5,e6⟩:=blk7 hb2;obtain⟨x0,x1,x2,x3,x4,x5,x6,x7,x8⟩:=blk9 hb1;obtain⟨p,hpl,hp,-,-,hpi⟩:=posR_at hi;have hcap:=hsm.fols
 have KF:Hid (Calls Tryz.prog 72 #[stV fo fe it se x,.int .i64 a] w0 λe w'=>e=.returned (.int .i64 p)∧Frm Nix w0 w'):=by
  have:=rFolder_any (hS.nix hf0) hsm a;rw[hp] at this;exact this
 have HS:=h_ hS;have HB1:=h_ hb1;have HB2:=h_ hb2;have HB3:=h_ hb3;have HF0:=h_ hf0;have HW:=h_ hw0;have HDl:Hid ((delI Fol.id a x.fols)=x.fols.take p++x.fols.drop (p+1)):=by unfold Hid;rw[delI_take,hpi]
 have HDn:Hid ((delI Fol.id a x.fols).length=p+(x.fols.length - (p+1))):=by unfold Hid;rw[HDl.out];simp;omega
 rw[hw0] at e0 e1 e2 e3 e4 e5 e6 x0 x1 x2 x3 x4 x5 x6 x7 x8;clear hS hsm hf0 hb1 hb2 hb3 hw0 hp hpi hi;unfold stV evV;dsimp only;obtain⟨A,c⟩:=fo;dsimp only at x1 x2 x3 x4 HS HB1 HW KF ⊢
 obtain⟨ad,rfl⟩:∃ad,A=some ad:=by
  obtain⟨ad,e,-⟩:=HS.out.fols.rd.2 (by omega);exact⟨ad,e⟩
 go_enter Tryz.func32,Tryz.ntmps32;show Code.wp Tryz.prog (peel 0 (bodyOf Tryz.f32)) _ _ _
 refine peelK (k':=1) λK hK=>?_
 conv in hdC _=>whnf
 go_wp2;refine peelK (k':=2) λK hK=>?_
 conv in hdC _=>whnf
 go_wp2_with (go_at_call 72;rw[←HW.out];refine KF.out.mono ?_;rintro e w1 ⟨rfl,hf⟩;have Z1:=h_ hf;clear hf);have hs1:=(HS.out.nix (HF0.out.trans Z1.out)).fols;obtain⟨v1,wb,v2,wc,hrun1,hrun2,hrow,fb,fc⟩:=cut_runs elemFol (p:=p) hs1.rd hs1.cap hs1.max (fol_one x.fols) hcap hpl (by omega);obtain⟨A',c',rfl,-,-,-,-⟩:=hrow.shape;have hB1:=HB1.out.frm Z1.out id;obtain⟨x0,x1,x2,x3,x4,x5,x6,x7,x8⟩:=blk9 hB1;have hlt1:=hB1.lt;have hcb:wb.cell? ⟨w.heap.size,1,none⟩=_:=((hB1.frm fb id).cell 1).trans rfl;have hcc:wc.cell? ⟨w.heap.size,1,none⟩=_:=((hB1.frm fc id).cell 1).trans rfl;have hcf:=(hB1.frm fc id).frozen 1;have hnw:=World.new_ne w1 ⟨w.heap.size,1,none⟩ x1;have hI0:(0:Int)≤(p:Int):=Int.natCast_nonneg _;have hcap2:=hs1.cap;have hmax2:=hs1.max;have hI1:(p:Int)≤(c:Int):=by simp only at hcap2;omega
 have hI2:(p:Int)+1≤(x.fols.length:Int):=by omega
 have hI3:(0:Int)≤(p:Int)+1:=by omega
 have hw64:IntKind.i64.wrap ((p:Int)+1)=(p:Int)+1:=IntWalk.i64_in _ (by omega);have HRow:=h_ hrow;have HC:=h_ fc;clear hs1 hrow fc fb hB1;go_wp2
 go_region_law (first | (refine step_append_run hrun1 (by rfl) _ _ (by rfl) (by rfl) (by rfl) ?_) | (refine step_append_run hrun2 (by rfl) _ _ (by rfl) (by rfl) (by rfl) ?_))
 all_goals
  obtain⟨wd,hwd⟩:∃wd,wd=wc.setCell ⟨w.heap.size,1,none⟩ (.slice A' (p+(x.fols.length - (p+1))) c'):=⟨_,rfl⟩;rw[←hwd];have hbd:Blk wd w.heap.size 36 #[.int .i64 x.clock,.slice A' (p+(x.fols.length - (p+1))) c',.slice fe.1 x.fees.length fe.2,.slice it.1 x.itms.length it.2,.slice se.1 x.seas.length se.2,.int .i64 x.tFol,.int .i64 x.tFee,.int .i64 x.tItm,.int .i64 x.tSea]:=by rw[hwd];exact(((HB1.out.frm Z1.out id).frm HC.out id).set_ 1 _)
  have fd:Frm (λk=>k=w.heap.size) wc wd:=by rw[hwd];exact(Frm.refl (λk=>k=w.heap.size) wc).setCell (.inl rfl) _
  have hb4:Blk wd (w.heap.size+1+1) 36 #[.int .i64 0,.slice none 0 0,.slice none 0 0,.slice none 0 0,.slice none 0 0,.int .i64 0,.int .i64 0,.int .i64 0,.int .i64 0]:=((HB3.out.frm Z1.out id).frm HC.out id).frm fd (by simp);obtain⟨z0,z1,z2,z3,z4,z5,z6,z7,z8⟩:=blk9 hbd;obtain⟨y0,y1,y2,y3,y4,y5,y6,y7,y8⟩:=blk9 hb4;have g0:=hb4.frozen 0;have g1:=hb4.frozen 1;have g2:=hb4.frozen 2;have g3:=hb4.frozen 3;have g4:=hb4.frozen 4;have g5:=hb4.frozen 5;have g6:=hb4.frozen 6;have g7:=hb4.frozen 7;have g8:=hb4.frozen 8;obtain⟨we,hwe⟩:∃we,we=wd.setCells (w.heap.size+1+1) 0 [.int .i64 x.clock,.slice A' (p+(x.fols.length - (p+1))) c',.slice fe.1 x.fees.length fe.2,.slice it.1 x.itms.length it.2,.slice se.1 x.seas.length se.2,.int .i64 x.tFol,.int .i64 x.tFee,.int .i64 x.tItm,.int .i64 x.tSea]:=⟨_,rfl⟩
  have hbe:Blk we (w.heap.size+1+1) 36 #[.int .i64 x.clock,.slice A' (p+(x.fols.length - (p+1))) c',.slice fe.1 x.fees.length fe.2,.slice it.1 x.itms.length it.2,.slice se.1 x.seas.length se.2,.int .i64 x.tFol,.int .i64 x.tFee,.int .i64 x.tItm,.int .i64 x.tSea]:=by
   have:=Blk.putL [.int .i64 x.clock,.slice A' (p+(x.fols.length - (p+1))) c',.slice fe.1 x.fees.length fe.2,.slice it.1 x.itms.length it.2,.slice se.1 x.seas.length se.2,.int .i64 x.tFol,.int .i64 x.tFee,.int .i64 x.tItm,.int .i64 x.tSea] 0 hb4;rw[putL9] at this;rw[hwe];exact this
  have fe_:Frm (λk=>k=w.heap.size+1+1) wd we:=by rw[hwe];exact Frm.setCells _ 0 (Frm.refl _ _) (.inl rfl)
  have hF:Frm Nix w we:=(((HF0.out.trans Z1.out).trans HC.out).next fd (λk hk=>.inr (by omega))).next fe_ (λk hk=>.inr (by omega))
  have hs0:=(HF0.out.trans Z1.out).size;have hL:=hb4.lt;have hrow1:SlIn we (λk=>w1.heap.size≤k) 3 (A',c') (p+(x.fols.length - (p+1))) (x.fols.flatMap Fol.cells |> λxs=>xs.take (p * 3)++xs.drop ((p+1) * 3)):=(HRow.out.sl.frm fd λk hk e=>by have:=HB1.out.frm Z1.out id |>.lt;omega).frm fe_ λk hk e=>by have:=HB3.out.frm Z1.out id |>.lt;omega
  have HSl:Hid (SlIn we (λk=>w.heap.size≤k) 3 (A',c') (delI Fol.id a x.fols).length ((delI Fol.id a x.fols).flatMap Fol.cells)):=by
   have e1:=flat_take Fol.clen x.fols p;have e2:=flat_drop Fol.clen x.fols (p+1);simp only at hrow1;rw[e1,e2,←List.flatMap_append,←HDl.out,←HDn.out] at hrow1;exact hrow1.mono λk hk=>Nat.le_trans hs0 hk
  have HFin:=h_ hF;have HBe:=h_ hbe;clear hbd fd hb4 hF hrow1 hs0 hbe fe_ hwd;go_wp2
  all_goals
   simp only[peel,bodyOf,Tryz.f32];go_wp2
   all_goals
    simp only[World.setCells] at hwe;rw[←hwe];refine bodyPost_ret (gone_ret HBe.out rfl) rfl ?_;refine⟨(A',c'),?_,⟨HSl.out.mono λk hk=>.inr hk,((HS.out.nix HFin.out).fees).mono λk hk=>.inl hk,((HS.out.nix HFin.out).itms).mono λk hk=>.inl hk,HS.out.same,((HS.out.nix HFin.out).seas).mono λk hk=>.inl hk⟩,HFin.out⟩;rw[HDn.out]
theorem rgone12_any{w:World}{fo fe it se:Sl}{ts:List (Sl×Itm)}{x:St}{G:Nat→Prop}(hS:StIn w G fo fe it se ts x)(hsm:StSmall x){a b n:Int}{s t u:ByteArray}(hi:isI Sea.id a x.seas=true):
  Calls Tryz.prog 32 #[stV fo fe it se x,evV ⟨12,a,b,n,s,t,u⟩] w λr w'=>∃se':Sl,r=.returned (stV fo fe it se' {x with seas:=(delI Sea.id a x.seas)})∧StIn w' (λk=>G k∨w.heap.size≤k) fo fe it se' ts {x with seas:=(delI Sea.id a x.seas)}∧Frm Nix w w':=by
 obtain⟨w0,hw0,hf0,hb1,hb2,hb3⟩:=box_ser w fo fe it se x 12 a b n s t u;obtain⟨e0,e1,e2,e3,e4,e5,e6⟩:=blk7 hb2;obtain⟨x0,x1,x2,x3,x4,x5,x6,x7,x8⟩:=blk9 hb1;obtain⟨p,hpl,hp,-,-,hpi⟩:=posR_at hi;have hcap:=hsm.seas
 have KF:Hid (Calls Tryz.prog 79 #[stV fo fe it se x,.int .i64 a] w0 λe w'=>e=.returned (.int .i64 p)∧Frm Nix w0 w'):=by
  have:=rSearch_any (hS.nix hf0) hsm a;rw[hp] at this;exact this
 have HS:=h_ hS;have HB1:=h_ hb1;have HB2:=h_ hb2;have HB3:=h_ hb3;have HF0:=h_ hf0;have HW:=h_ hw0;have HDl:Hid ((delI Sea.id a x.seas)=x.seas.take p++x.seas.drop (p+1)):=by unfold Hid;rw[delI_take,hpi]
 have HDn:Hid ((delI Sea.id a x.seas).length=p+(x.seas.length - (p+1))):=by unfold Hid;rw[HDl.out];simp;omega
 rw[hw0] at e0 e1 e2 e3 e4 e5 e6 x0 x1 x2 x3 x4 x5 x6 x7 x8;clear hS hsm hf0 hb1 hb2 hb3 hw0 hp hpi hi;unfold stV evV;dsimp only;obtain⟨A,c⟩:=se;dsimp only at x1 x2 x3 x4 HS HB1 HW KF ⊢
 obtain⟨ad,rfl⟩:∃ad,A=some ad:=by
  obtain⟨ad,e,-⟩:=HS.out.seas.rd.2 (by omega);exact⟨ad,e⟩
 go_enter Tryz.func32,Tryz.ntmps32;show Code.wp Tryz.prog (peel 0 (bodyOf Tryz.f32)) _ _ _
 refine peelK (k':=1) λK hK=>?_
 conv in hdC _=>whnf
 go_wp2;refine peelK (k':=2) λK hK=>?_
 conv in hdC _=>whnf
 go_wp2_with (go_at_call 79;rw[←HW.out];refine KF.out.mono ?_;rintro e w1 ⟨rfl,hf⟩;have Z1:=h_ hf;clear hf);have hs1:=(HS.out.nix (HF0.out.trans Z1.out)).seas;obtain⟨v1,wb,v2,wc,hrun1,hrun2,hrow,fb,fc⟩:=cut_runs elemSea (p:=p) hs1.rd hs1.cap hs1.max (sea_one x.seas) hcap hpl (by omega);obtain⟨A',c',rfl,-,-,-,-⟩:=hrow.shape;have hB1:=HB1.out.frm Z1.out id;obtain⟨x0,x1,x2,x3,x4,x5,x6,x7,x8⟩:=blk9 hB1;have hlt1:=hB1.lt;have hcb:wb.cell? ⟨w.heap.size,4,none⟩=_:=((hB1.frm fb id).cell 4).trans rfl;have hcc:wc.cell? ⟨w.heap.size,4,none⟩=_:=((hB1.frm fc id).cell 4).trans rfl;have hcf:=(hB1.frm fc id).frozen 4;have hnw:=World.new_ne w1 ⟨w.heap.size,4,none⟩ x4;have hI0:(0:Int)≤(p:Int):=Int.natCast_nonneg _;have hcap2:=hs1.cap;have hmax2:=hs1.max;have hI1:(p:Int)≤(c:Int):=by simp only at hcap2;omega
 have hI2:(p:Int)+1≤(x.seas.length:Int):=by omega
 have hI3:(0:Int)≤(p:Int)+1:=by omega
 have hw64:IntKind.i64.wrap ((p:Int)+1)=(p:Int)+1:=IntWalk.i64_in _ (by omega);have HRow:=h_ hrow;have HC:=h_ fc;clear hs1 hrow fc fb hB1;go_wp2
 go_region_law (first | (refine step_append_run hrun1 (by rfl) _ _ (by rfl) (by rfl) (by rfl) ?_) | (refine step_append_run hrun2 (by rfl) _ _ (by rfl) (by rfl) (by rfl) ?_))
 all_goals
  obtain⟨wd,hwd⟩:∃wd,wd=wc.setCell ⟨w.heap.size,4,none⟩ (.slice A' (p+(x.seas.length - (p+1))) c'):=⟨_,rfl⟩;rw[←hwd];have hbd:Blk wd w.heap.size 36 #[.int .i64 x.clock,.slice fo.1 x.fols.length fo.2,.slice fe.1 x.fees.length fe.2,.slice it.1 x.itms.length it.2,.slice A' (p+(x.seas.length - (p+1))) c',.int .i64 x.tFol,.int .i64 x.tFee,.int .i64 x.tItm,.int .i64 x.tSea]:=by rw[hwd];exact(((HB1.out.frm Z1.out id).frm HC.out id).set_ 4 _)
  have fd:Frm (λk=>k=w.heap.size) wc wd:=by rw[hwd];exact(Frm.refl (λk=>k=w.heap.size) wc).setCell (.inl rfl) _
  have hb4:Blk wd (w.heap.size+1+1) 36 #[.int .i64 0,.slice none 0 0,.slice none 0 0,.slice none 0 0,.slice none 0 0,.int .i64 0,.int .i64 0,.int .i64 0,.int .i64 0]:=((HB3.out.frm Z1.out id).frm HC.out id).frm fd (by simp);obtain⟨z0,z1,z2,z3,z4,z5,z6,z7,z8⟩:=blk9 hbd;obtain⟨y0,y1,y2,y3,y4,y5,y6,y7,y8⟩:=blk9 hb4;have g0:=hb4.frozen 0;have g1:=hb4.frozen 1;have g2:=hb4.frozen 2;have g3:=hb4.frozen 3;have g4:=hb4.frozen 4;have g5:=hb4.frozen 5;have g6:=hb4.frozen 6;have g7:=hb4.frozen 7;have g8:=hb4.frozen 8;obtain⟨we,hwe⟩:∃we,we=wd.setCells (w.heap.size+1+1) 0 [.int .i64 x.clock,.slice fo.1 x.fols.length fo.2,.slice fe.1 x.fees.length fe.2,.slice it.1 x.itms.length it.2,.slice A' (p+(x.seas.length - (p+1))) c',.int .i64 x.tFol,.int .i64 x.tFee,.int .i64 x.tItm,.int .i64 x.tSea]:=⟨_,rfl⟩
  have hbe:Blk we (w.heap.size+1+1) 36 #[.int .i64 x.clock,.slice fo.1 x.fols.length fo.2,.slice fe.1 x.fees.length fe.2,.slice it.1 x.itms.length it.2,.slice A' (p+(x.seas.length - (p+1))) c',.int .i64 x.tFol,.int .i64 x.tFee,.int .i64 x.tItm,.int .i64 x.tSea]:=by
   have:=Blk.putL [.int .i64 x.clock,.slice fo.1 x.fols.length fo.2,.slice fe.1 x.fees.length fe.2,.slice it.1 x.itms.length it.2,.slice A' (p+(x.seas.length - (p+1))) c',.int .i64 x.tFol,.int .i64 x.tFee,.int .i64 x.tItm,.int .i64 x.tSea] 0 hb4;rw[putL9] at this;rw[hwe];exact this
  have fe_:Frm (λk=>k=w.heap.size+1+1) wd we:=by rw[hwe];exact Frm.setCells _ 0 (Frm.refl _ _) (.inl rfl)
  have hF:Frm Nix w we:=(((HF0.out.trans Z1.out).trans HC.out).next fd (λk hk=>.inr (by omega))).next fe_ (λk hk=>.inr (by omega))
  have hs0:=(HF0.out.trans Z1.out).size;have hL:=hb4.lt;have hrow1:SlIn we (λk=>w1.heap.size≤k) 3 (A',c') (p+(x.seas.length - (p+1))) (x.seas.flatMap Sea.cells |> λxs=>xs.take (p * 3)++xs.drop ((p+1) * 3)):=(HRow.out.sl.frm fd λk hk e=>by have:=HB1.out.frm Z1.out id |>.lt;omega).frm fe_ λk hk e=>by have:=HB3.out.frm Z1.out id |>.lt;omega
  have HSl:Hid (SlIn we (λk=>w.heap.size≤k) 3 (A',c') (delI Sea.id a x.seas).length ((delI Sea.id a x.seas).flatMap Sea.cells)):=by
   have e1:=flat_take Sea.clen x.seas p;have e2:=flat_drop Sea.clen x.seas (p+1);simp only at hrow1;rw[e1,e2,←List.flatMap_append,←HDl.out,←HDn.out] at hrow1;exact hrow1.mono λk hk=>Nat.le_trans hs0 hk
  have HFin:=h_ hF;have HBe:=h_ hbe;clear hbd fd hb4 hF hrow1 hs0 hbe fe_ hwd;go_wp2
  all_goals
   simp only[peel,bodyOf,Tryz.f32];go_wp2
   all_goals
    simp only[World.setCells] at hwe;rw[←hwe];refine bodyPost_ret (gone_ret HBe.out rfl) rfl ?_;refine⟨(A',c'),?_,⟨((HS.out.nix HFin.out).fols).mono λk hk=>.inl hk,((HS.out.nix HFin.out).fees).mono λk hk=>.inl hk,((HS.out.nix HFin.out).itms).mono λk hk=>.inl hk,HS.out.same,HSl.out.mono λk hk=>.inr hk⟩,HFin.out⟩;rw[HDn.out]
theorem fil_app_yes{α:Type}{p:α→Bool}{l:List α}{k:Nat}(h:k<l.length)(he:p l[k]=true):(l.take (k+1)).filter p=(l.take k).filter p++[l[k]]:=by
 rw[List.take_succ_eq_append_getElem h,List.filter_append];simp[he]
theorem fil_app_no{α:Type}{p:α→Bool}{l:List α}{k:Nat}(h:k<l.length)(he:p l[k]=false):(l.take (k+1)).filter p=(l.take k).filter p:=by
 rw[List.take_succ_eq_append_getElem h,List.filter_append];simp[he]
theorem rgone4_any{w:World}{fo fe it se:Sl}{ts:List (Sl×Itm)}{x:St}{G:Nat→Prop}(hS:StIn w G fo fe it se ts x)(hsm:StSmall x){a b n:Int}{s t u:ByteArray}(hi:isI Fee.id a x.fees=true):
  Calls Tryz.prog 32 #[stV fo fe it se x,evV ⟨4,a,b,n,s,t,u⟩] w λr w'=>∃(fe' it':Sl) (ts':List (Sl×Itm)),r=.returned (stV fo fe' it' se {x with fees:=(delI Fee.id a x.fees),itms:=x.itms.filter λt=>t.feed≠a})∧StIn w' (λk=>G k∨w.heap.size≤k) fo fe' it' se ts' {x with fees:=(delI Fee.id a x.fees),itms:=x.itms.filter λt=>t.feed≠a}∧Frm Nix w w':=by
 obtain⟨w0,hw0,hf0,hb1,hb2,hb3⟩:=box_ser w fo fe it se x 4 a b n s t u;obtain⟨e0,e1,e2,e3,e4,e5,e6⟩:=blk7 hb2;obtain⟨x0,x1,x2,x3,x4,x5,x6,x7,x8⟩:=blk9 hb1;obtain⟨p,hpl,hp,-,-,hpi⟩:=posR_at hi;have hcap:=hsm.fees
 have KF:Hid (Calls Tryz.prog 33 #[stV fo fe it se x,.int .i64 a] w0 λe w'=>e=.returned (.int .i64 p)∧Frm Nix w0 w'):=by
  have:=rFeed_any (hS.nix hf0) hsm a;rw[hp] at this;exact this
 have HS:=h_ hS;have hcapi:=hsm.itms;have HB1:=h_ hb1;have HB2:=h_ hb2;have HB3:=h_ hb3;have HF0:=h_ hf0;have HW:=h_ hw0;have HDl:Hid ((delI Fee.id a x.fees)=x.fees.take p++x.fees.drop (p+1)):=by unfold Hid;rw[delI_take,hpi]
 have HDn:Hid ((delI Fee.id a x.fees).length=p+(x.fees.length - (p+1))):=by unfold Hid;rw[HDl.out];simp;omega
 rw[hw0] at e0 e1 e2 e3 e4 e5 e6 x0 x1 x2 x3 x4 x5 x6 x7 x8;clear hS hsm hf0 hb1 hb2 hb3 hw0 hp hpi hi;unfold stV evV;dsimp only;obtain⟨A,c⟩:=fe;dsimp only at x1 x2 x3 x4 HS HB1 HW KF ⊢
 obtain⟨ad,rfl⟩:∃ad,A=some ad:=by
  obtain⟨ad,e,-⟩:=HS.out.fees.rd.2 (by omega);exact⟨ad,e⟩
 go_enter Tryz.func32,Tryz.ntmps32;show Code.wp Tryz.prog (peel 0 (bodyOf Tryz.f32)) _ _ _
 refine peelK (k':=1) λK hK=>?_
 conv in hdC _=>whnf
 go_wp2;refine peelK (k':=2) λK hK=>?_
 conv in hdC _=>whnf
 go_wp2_with (go_at_call 33;rw[←HW.out];refine KF.out.mono ?_;rintro e w1 ⟨rfl,hf⟩;have Z1:=h_ hf;clear hf);have hs1:=(HS.out.nix (HF0.out.trans Z1.out)).fees;obtain⟨v1,wb,v2,wc,hrun1,hrun2,hrow,fb,fc⟩:=cut_runs elemFee (p:=p) hs1.rd hs1.cap hs1.max (fee_one x.fees) hcap hpl (by omega);obtain⟨A',c',rfl,-,-,-,-⟩:=hrow.shape;have hB1:=HB1.out.frm Z1.out id;obtain⟨x0,x1,x2,x3,x4,x5,x6,x7,x8⟩:=blk9 hB1;have hlt1:=hB1.lt;have hcb:wb.cell? ⟨w.heap.size,2,none⟩=_:=((hB1.frm fb id).cell 2).trans rfl;have hcc:wc.cell? ⟨w.heap.size,2,none⟩=_:=((hB1.frm fc id).cell 2).trans rfl;have hcf:=(hB1.frm fc id).frozen 2;have hnw:=World.new_ne w1 ⟨w.heap.size,2,none⟩ x2;have hI0:(0:Int)≤(p:Int):=Int.natCast_nonneg _;have hcap2:=hs1.cap;have hmax2:=hs1.max;have hI1:(p:Int)≤(c:Int):=by simp only at hcap2;omega
 have hI2:(p:Int)+1≤(x.fees.length:Int):=by omega
 have hI3:(0:Int)≤(p:Int)+1:=by omega
 have hw64:IntKind.i64.wrap ((p:Int)+1)=(p:Int)+1:=IntWalk.i64_in _ (by omega);have HRow:=h_ hrow;have HFb:=h_ fb;clear hs1 hrow fc fb hB1;go_wp2;refine goneR4 (bs:=w.heap.size) (HB1.out.frm Z1.out id) rfl hpl (by simpa using hcap2) (.inr (by simpa using hmax2)) (by omega) hrun1 hrun2 HRow.out HFb.out (λ_ _ _ _ _ h=>h) ?_;clear hrun1 hrun2 HRow HFb hcb hcc hcf hnw;clear A' c' wc;rintro wc A' c' y0 y5 y9 y10 hr;have HRow:=h_ hr;have HC:=h_ hr.frm;clear hr
 all_goals
  obtain⟨wd,hwd⟩:∃wd,wd=wc.setCell ⟨w.heap.size,2,none⟩ (.slice A' (p+(x.fees.length - (p+1))) c'):=⟨_,rfl⟩;rw[←hwd];have hbd:Blk wd w.heap.size 36 #[.int .i64 x.clock,.slice fo.1 x.fols.length fo.2,.slice A' (p+(x.fees.length - (p+1))) c',.slice it.1 x.itms.length it.2,.slice se.1 x.seas.length se.2,.int .i64 x.tFol,.int .i64 x.tFee,.int .i64 x.tItm,.int .i64 x.tSea]:=by rw[hwd];exact(((HB1.out.frm Z1.out id).frm HC.out id).set_ 2 _)
  have fd:Frm (λk=>k=w.heap.size) wc wd:=by rw[hwd];exact(Frm.refl (λk=>k=w.heap.size) wc).setCell (.inl rfl) _
  have HFwd:Hid (Frm Nix w wd):=((HF0.out.trans Z1.out).trans HC.out).next fd (λk hk=>.inr (by omega))
  have hs0:=(HF0.out.trans Z1.out).size;have hb4:Blk wd (w.heap.size+1+1) 36 #[.int .i64 0,.slice none 0 0,.slice none 0 0,.slice none 0 0,.slice none 0 0,.int .i64 0,.int .i64 0,.int .i64 0,.int .i64 0]:=((HB3.out.frm Z1.out id).frm HC.out id).frm fd (by simp);have hbv:Blk wd (w.heap.size+1) 42 #[.int .i64 4,.int .i64 a,.int .i64 b,.int .i64 n,.string s,.string t,.string u]:=((HB2.out.frm Z1.out id).frm HC.out id).frm fd (by simp);have hL:=(HB3.out.frm Z1.out id).lt;have hrow1:SlIn wd (λk=>w1.heap.size≤k) 4 (A',c') (p+(x.fees.length - (p+1))) (x.fees.flatMap Fee.cells |> λxs=>xs.take (p * 4)++xs.drop ((p+1) * 4)):=HRow.out.sl.frm fd λk hk e=>by omega
  have HSl:Hid (SlIn wd (λk=>w1.heap.size≤k) 4 (A',c') (delI Fee.id a x.fees).length ((delI Fee.id a x.fees).flatMap Fee.cells)):=by
   have e1:=flat_take Fee.clen x.fees p;have e2:=flat_drop Fee.clen x.fees (p+1);simp only at hrow1;rw[e1,e2,←List.flatMap_append,←HDl.out,←HDn.out] at hrow1;exact hrow1
  have HL1:Hid (w.heap.size+1+1<w1.heap.size):=hL;have HBd:=h_ hbd;have HB4:=h_ hb4;have HBv:=h_ hbv;clear hbd hb4 hbv hrow1 hs0 hL fd hwd x0 x1 x2 x3 x4 x5 x6 x7 x8 e0 e1 e2 e3 e4 e5 e6;obtain⟨itA,itC⟩:=it;obtain⟨z0,z1,z2,z3,z4,z5,z6,z7,z8⟩:=blk9 HBd.out;go_wp2
  go_loopw [7,8] (λov kv wr=>∃k:Nat,k≤x.itms.length∧kv=.int .i64 k∧RowK 82 9 wd wr ov ((ts.take k).filter λq=>decide (q.2.feed≠a)).length (((ts.take k).filter λq=>decide (q.2.feed≠a)).flatMap itmC)) (λ_ kv _=>x.itms.length - (intOf kv).toNat)
  case atStart=>exact⟨0,by omega,rfl,RowK.nil_ _ _ (Frm.refl _ _)⟩
  case round=>
   obtain⟨k,hk,rfl,hrw⟩:=hrel;have HR:=h_ hrw;obtain⟨iA,ic,rfl,-,-,-,-⟩:=hrw.shape;clear hrw z0 z1 z2 z3 z4 z5 z6 z7 z8;obtain⟨z0,z1,z2,z3,z4,z5,z6,z7,z8⟩:=blk9 (HBd.out.frm HR.out.frm id);obtain⟨e0,e1,e2,e3,e4,e5,e6⟩:=blk7 (HBv.out.frm HR.out.frm id)
   (try dsimp only at z3)
   by_cases hlt:k<x.itms.length
   ·obtain⟨hkt,het⟩:=itms_at HS.out hlt
    obtain⟨bk,off,hA,-,hbl,hcell⟩:=(HS.out.itms.row.nix (HFwd.out.trans HR.out.frm)).at_ itmC_len (by decide) (by omega);dsimp only at hA;subst hA;have hcl:=hcell k hkt;have hYes:=fil_len_yes (p:=λq:Sl×Itm=>decide (q.2.feed≠a)) hkt;have hLy:=fil_app_yes (p:=λq:Sl×Itm=>decide (q.2.feed≠a)) hkt;have hLn:=fil_app_no (p:=λq:Sl×Itm=>decide (q.2.feed≠a)) hkt;obtain⟨tp,htp⟩:∃tp,ts[k]=tp:=⟨_,rfl⟩;rw[htp] at hcl hYes hLy hLn;obtain⟨p0,p1,p2,p3,p4,p5,p6,p7,p8⟩:=itmcs (w:=wr) (b:=bk) (off:=off+k * 9) (p:=tp) hcl
    have hqn:((ts.take k).filter λq=>decide (q.2.feed≠a)).length≤k:=by
     have h1:=List.length_filter_le (λq:Sl×Itm=>decide (q.2.feed≠a)) (ts.take k);have h2:(ts.take k).length≤k:=by simp;omega
     omega
    obtain⟨Q,hQ⟩:∃Q,((ts.take k).filter λq=>decide (q.2.feed≠a))=Q:=⟨_,rfl⟩;rw[hQ] at hYes hLy hLn hqn HR ⊢;have HLy:=h_ hLy;have HLn:=h_ hLn;clear hcell het htp hQ hLy hLn hYes
    by_cases hfe:tp.2.feed=a
    ·go_wp2
     go_quiet (fail);go_wp2;go_roundw
     case rel=>exact⟨k+1,by omega,by go_num,by rw[HLn.out (by simp[hfe])];exact HR.out.more ((fR _).drewN _)⟩
     case measure=>simp[intOf];omega
    ·have hfb:(tp.2.feed !=a)=true:=by simp[bne,hfe]
     go_wp2;go_quiet (fail);obtain⟨wq,hwq⟩:∃wq,wq=wr.drewN nq:=⟨_,rfl⟩;rw[←hwq];have hfq:Frm Nix wr wq:=by rw[hwq];exact(fR wr).drewN _
     have HRd:Hid (RowK 82 9 wd wq (.slice iA Q.length ic) Q.length (Q.flatMap itmC)):=HR.out.more hfq;have zq:=(HBd.out.frm HRd.out.frm id).cell 3;have hcq:∀(j:Nat) (u:Value),(itmC tp)[j]? =some u→wq.cell? ⟨bk,off+k * 9+j,none⟩=some u:=λj u hu=>(hfq.cell (p:=⟨bk,off+k * 9+j,none⟩) hbl id).trans (hcl j u hu)
     clear hwq hfq z0 z1 z2 z3 z4 z5 z6 z7 z8 e0 e1 e2 e3 e4 e5 e6 p0 p1 p2 p3 p4 p5 p6 p7 p8;simp at zq;obtain⟨p0,p1,p2,p3,p4,p5,p6,p7,p8⟩:=itmcs (w:=wq) (b:=bk) (off:=off+k * 9) (p:=tp) hcq;obtain⟨v2,w2,hrun,hrow2,-,-⟩:=HRd.out.push elemItm [.int .i64 tp.2.id,.int .i64 tp.2.feed,.int .i64 tp.2.date,.string tp.2.guid,.string tp.2.title,.string tp.2.link,.bool tp.2.read,.bool tp.2.star,.slice tp.1.1 tp.2.tags.length tp.1.2] rfl (by intro u hu;simp at hu;rcases hu with rfl | rfl | rfl | rfl | rfl | rfl | rfl | rfl | rfl<;>rfl) (by unfold maxLen;omega) (by omega)
     have HR2:Hid (RowK 82 9 wd w2 v2 (Q++[tp]).length ((Q++[tp]).flatMap itmC)):=by
      unfold Hid;rw[List.flatMap_append]
      simpa [itmC] using hrow2
     clear hrow2;go_wp2_with (at_builtin;refine wpList_append_run hrun rfl _ _ rfl rfl rfl ?_);go_roundw
     case rel=>exact⟨k+1,by omega,by go_num,by rw[HLy.out (by simp[hfe])];exact HR2.out⟩
     case measure=>simp[intOf];omega
   ·obtain rfl:k=x.itms.length:=by omega
    have hlen:=HS.out.len;obtain⟨Q,hQ0⟩:∃Q,((ts.take x.itms.length).filter λq=>decide (q.2.feed≠a))=Q:=⟨_,rfl⟩;rw[hQ0] at HR ⊢;have hQ:(ts.filter λq=>decide (q.2.feed≠a))=Q:=by rw[←hQ0,List.take_of_length_le (by omega)]
    clear hQ0
    have HQi:Hid (Q.map (·.2)=x.itms.filter λt=>decide (t.feed≠a)):=by
     unfold Hid;rw[←hQ,←HS.out.same,List.filter_map];rfl
    have HQm:Hid (∀q∈Q,q∈ts):=by
     intro q hq;rw[←hQ] at hq;exact(List.mem_filter.1 hq).1
    have HQl:Hid (Q.length=(x.itms.filter λt=>decide (t.feed≠a)).length):=by unfold Hid;rw[←HQi.out,List.length_map]
    have gz:=(HBd.out.frm HR.out.frm id).frozen 3;obtain⟨wg,hwg⟩:∃wg,wg=wr.setCell ⟨w.heap.size,3,none⟩ (.slice iA Q.length ic):=⟨_,rfl⟩;have hbg:Blk wg w.heap.size 36 #[.int .i64 x.clock,.slice fo.1 x.fols.length fo.2,.slice A' (p+(x.fees.length - (p+1))) c',.slice iA Q.length ic,.slice se.1 x.seas.length se.2,.int .i64 x.tFol,.int .i64 x.tFee,.int .i64 x.tItm,.int .i64 x.tSea]:=by rw[hwg];exact((HBd.out.frm HR.out.frm id).set_ 3 _)
    have fg:Frm (λk=>k=w.heap.size) wr wg:=by rw[hwg];exact(Frm.refl (λk=>k=w.heap.size) wr).setCell (.inl rfl) _
    have hb4:Blk wg (w.heap.size+1+1) 36 #[.int .i64 0,.slice none 0 0,.slice none 0 0,.slice none 0 0,.slice none 0 0,.int .i64 0,.int .i64 0,.int .i64 0,.int .i64 0]:=(HB4.out.frm HR.out.frm id).frm fg (by show ¬(w.heap.size+1+1=w.heap.size);omega);clear hQ z0 z1 z2 z4 z5 z6 z7 z8 e0 e1 e2 e3 e4 e5 e6;obtain⟨s0,s1,s2,s3,s4,s5,s6,s7,s8⟩:=blk9 hbg;obtain⟨y0,y1,y2,y3,y4,y5,y6,y7,y8⟩:=blk9 hb4;have g0:=hb4.frozen 0;have g1:=hb4.frozen 1;have g2:=hb4.frozen 2;have g3:=hb4.frozen 3;have g4:=hb4.frozen 4;have g5:=hb4.frozen 5;have g6:=hb4.frozen 6;have g7:=hb4.frozen 7;have g8:=hb4.frozen 8;have HWg:=h_ hwg;go_wp2;rw[←HWg.out];obtain⟨we,hwe⟩:∃we,we=wg.setCells (w.heap.size+1+1) 0 [.int .i64 x.clock,.slice fo.1 x.fols.length fo.2,.slice A' (p+(x.fees.length - (p+1))) c',.slice iA Q.length ic,.slice se.1 x.seas.length se.2,.int .i64 x.tFol,.int .i64 x.tFee,.int .i64 x.tItm,.int .i64 x.tSea]:=⟨_,rfl⟩
    have hbe:Blk we (w.heap.size+1+1) 36 #[.int .i64 x.clock,.slice fo.1 x.fols.length fo.2,.slice A' (p+(x.fees.length - (p+1))) c',.slice iA Q.length ic,.slice se.1 x.seas.length se.2,.int .i64 x.tFol,.int .i64 x.tFee,.int .i64 x.tItm,.int .i64 x.tSea]:=by
     have:=Blk.putL [.int .i64 x.clock,.slice fo.1 x.fols.length fo.2,.slice A' (p+(x.fees.length - (p+1))) c',.slice iA Q.length ic,.slice se.1 x.seas.length se.2,.int .i64 x.tFol,.int .i64 x.tFee,.int .i64 x.tItm,.int .i64 x.tSea] 0 hb4;rw[putL9] at this;rw[hwe];exact this
    have fe_:Frm (λk=>k=w.heap.size+1+1) wg we:=by rw[hwe];exact Frm.setCells _ 0 (Frm.refl _ _) (.inl rfl)
    have fge:Frm (λk=>k=w.heap.size∨k=w.heap.size+1+1) wr we:=(fg.mono λk hk=>.inl hk).trans (fe_.mono λk hk=>.inr hk);have hF:Frm Nix w we:=(HFwd.out.trans HR.out.frm).next fge (λk hk=>.inr (by rcases hk with rfl | rfl<;>omega))
    have HFin:=h_ hF;have HBe:=h_ hbe;have h4l:=HB4.out.lt;have HIt:Hid (ItmsIn we (λk=>G k∨w.heap.size≤k) (iA,ic) Q):=⟨(HR.out.sl.frm fge (λk hk e=>by rcases e with e | e<;>omega)).mono λk hk=>.inr (by omega),λq hq=>((HS.out.nix hF).itms.tags q (HQm.out q hq)).mono λk hk=>.inl hk⟩;have HSe:Hid (SlIn we (λk=>G k∨w.heap.size≤k) 4 (A',c') (delI Fee.id a x.fees).length ((delI Fee.id a x.fees).flatMap Fee.cells)):=((HSl.out.nix HR.out.frm).frm fge (λk hk e=>by have:=HL1.out;rcases e with e | e<;>omega)).mono λk hk=>.inr (by have:=HL1.out;omega)
    clear hbg fg hb4 fe_ fge hF hbe hwg;simp only[peel,bodyOf,Tryz.f32];go_wp2;simp only[World.setCells] at hwe;rw[←hwe];refine bodyPost_ret (gone_ret HBe.out rfl) rfl ?_;refine⟨(A',c'),(iA,ic),Q,?_,⟨((HS.out.nix HFin.out).fols).mono λk hk=>.inl hk,HSe.out,HIt.out,HQi.out,((HS.out.nix HFin.out).seas).mono λk hk=>.inl hk⟩,HFin.out⟩;simp only[stV];rw[HDn.out,HQl.out]
end Go.Proofs.YtaecjmiobllhmaaGreat
