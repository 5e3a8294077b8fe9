/- Words. -/
import Derived.Test.YtaecjmiobllhmaaGreatGr65
import Derived.Test.YtaecjmiobllhmaaGreatGr62
import Derived.Deep.RegionLaw
set_option linter.unusedVariables false
set_option linter.unusedSimpArgs false
set_option maxRecDepth 100000
set_option maxHeartbeats 16000000
namespace Go.Proofs.YtaecjmiobllhmaaGreat
open Go.Value renaming int→I,string→V,slice→U,pointer→O
open Go.IntKind renaming i64→J
open Tryz renaming prog→pQ
open Go.RowKit Go.Lib
variable {w1:World}{G:Nat→Prop}{A:Option Addr}{w:World}{fo fe it se:Sl}{ts:List (Sl×aR)}{x:St}
theorem MR{Q:Exit→Act→World→Prop}{wa w1 w2:World}{bs n c p d':Nat}{A B':Option Addr}{v1:Value}{rows:List Value}{cs:Array Value}
  (hb:aj wa bs 36 cs) (hcs:cs[2]? =some (U A n c)) (hp:p<n) (Ci:n≤c) (hcm:c≤100000∨c≤maxLen) (RZ:p≤100000)
  (r1:∀ty,(Builtin.append_ #[32,32] ty #[U (some ⟨wa.heap.size,0,none⟩) 0 0,U A p c]).run pQ (wa.alloc (.cells #[] 64)).drew=.ok v1 w1)
  (r2:∀ty,(Builtin.append_ #[32,32] ty #[v1,(U (if c=p+1 then A else A.map (·.add ((p+1) * 4))) (n-(p+1)) (c-(p+1)))]).run pQ w1=.ok (U B' (p+(n-(p+1))) d') w2)
  (h1:aI 64 4 wa w2 (U B' (p+(n-(p+1))) d') (p+(n-(p+1))) rows) (f1:aa ag wa w1)
  {u0 u1 u3 u4 u5 u7 u8 u9 u10 u11 u12 u13 u14 u15 u16 cG cH cI cR cS cT u23 u24 cN u26 dc u28 dm dp dr u32 u33 df dg u36 dt u38 dB dC dO dP dQ u44 u45 dI dJ dK dL dD dE dF dR dS dT dM dG dH dw dx dy dz dA u64 dh di dl cU cX fA fB fF fG fw iO iP iQ jN jO jP jQ jR jS jT jU jJ jK jV jW jX jY kZ k9 lc nd:Value} (hP:∀(e:_) (a:Act) (i:Nat) (v:Value) (w:World),Q (.panic e) (a.put (some i) v) w→Q (.panic e) a w) (hQ:∀(wc:World) (B:Option Addr) (d:Nat) (z0 z5 z9 zl:Value),aI 64 4 wa wc (U B (p+(n-(p+1))) d) (p+(n-(p+1))) rows→Q .normal ⟨#[u0,u1,O (some ⟨bs,0,none⟩),u3,u4,u5,I J p,u7,u8,u9,u10,u11,u12,u13,u14,u15,u16,cG,cH,cI,cR,cS,cT,u23,u24,cN,u26,dc,u28,dm,dp,dr,u32,u33,df,dg,u36,z0,O (some ⟨bs,2,none⟩),U A n c,I J p,U A p c,z5,O (some ⟨bs,2,none⟩),U A n c,I J p,z9,zl,U B (p+(n-(p+1))) d,O (some ⟨bs,2,none⟩),dD,dE,dF,dR,dS,dT,dM,dG,dH,dw,dx,dy,dz,dA,u64,dh,di,dl,cU,cX,fA,fB,fF,fG,fw,iO,iP,iQ,jN,jO,jP,jQ,jR,jS,jT,jU,jJ,jK,jV,jW,jX,jY,kZ,k9,lc,nd],[]⟩ (wc.setCell ⟨bs,2,none⟩ (U B (p+(n-(p+1))) d))):
  Code.wp pQ (aD (ap (bH (ap (aT (ap (bM (ap (aD (ai 1 (ae Tryz.f32))))))))))) Q ⟨#[u0,u1,O (some ⟨bs,0,none⟩),u3,u4,u5,I J p,u7,u8,u9,u10,u11,u12,u13,u14,u15,u16,cG,cH,cI,cR,cS,cT,u23,u24,cN,u26,dc,u28,dm,dp,dr,u32,u33,df,dg,u36,dt,u38,dB,dC,dO,dP,dQ,u44,u45,dI,dJ,dK,dL,dD,dE,dF,dR,dS,dT,dM,dG,dH,dw,dx,dy,dz,dA,u64,dh,di,dl,cU,cX,fA,fB,fF,fG,fw,iO,iP,iQ,jN,jO,jP,jQ,jR,jS,jT,jU,jJ,jK,jV,jW,jX,jY,kZ,k9,lc,nd],[]⟩ wa:=by
 have cx:∀{W:World},aa ag wa W→W.cell? ⟨bs,2,none⟩=some (U A n c):=λhW=>((hb.frm hW id).cell 2).trans hcs
 have cf:∀{W:World},aa ag wa W→W.frozen? ⟨bs,2,none⟩=false:=λhW=>(hb.frm hW id).frozen 2
 have R0:=fR wa;have p1:=cx R0;have p2:=cx (R0.alloc (.cells #[] 64));have p3:=cx f1;have PP:=cx h1.frm;have PQ:=cf h1.frm;have FB:(0:Int)≤(p:Int):=Int.natCast_nonneg _;have FC:(p:Int)≤(c:Int):=by omega
 have FD:(p:Int)+1≤(n:Int):=by omega
 have Rm:(0:Int)≤(p:Int)+1:=by omega
 have Kb:IntKind.i64.wrap ((p:Int)+1)=(p:Int)+1:=IntWalk.i64_in _ (by omega);have HQ:=h_ hQ;have HP:=h_ hP;have H1:=h_ h1;clear hb hcs cx cf R0 h1 f1 hQ hP;simp only[aD,ap,bH,aT,bM,ai,ae,Tryz.f32];refine wp_region_held_drew (S:=λ_=>True) (by kernel_rfl) trivial λhH=>?_
 refine tk (i:=1) HP rfl rfl hH ?_
 try simp only[lt]
 refine tk (i:=3) HP rfl rfl hH ?_
 try simp only[lt]
 refine tk (i:=6) HP rfl rfl hH ?_
 try simp only[lt]
 refine tk (i:=8) HP rfl rfl hH ?_
 try simp only[lt]
 refine tk (i:=9) HP rfl rfl hH ?_
 try simp only[lt]
 refine E5 (i:=0) (j:=2) (k:=7) rfl rfl rfl (λK hK=>?_) (λK hK=>?_) (λK hK=>?_)
 ·go_simp
  refine hK.out _ _ trivial (λhH=>?_);clear hK K
  try simp only[lt]
  refine kW (i:=2) (j:=7) rfl rfl (λK hK=>?_) (λK hK=>?_)
  ·go_simp
   refine hK.out _ _ trivial (λhH=>?_);clear hK K
   try simp only[lt]
   refine tk (i:=4) HP rfl rfl hH ?_
   try simp only[lt]
   refine kW (i:=5) (j:=7) rfl rfl (λK hK=>?_) (λK hK=>?_)
   ·refine bW r1 ?_
    refine hK.out _ _ trivial (λhH=>?_);clear hK K
    try simp only[lt]
    refine aw (i:=7) rfl (λK hK=>?_);go_simp;refine hK.out _ _ trivial (λhH=>?_);clear hK K
    try simp only[lt]
    refine tk (i:=10) HP rfl rfl hH ?_
    try simp only[lt]
    refine aw (i:=11) rfl (λK hK=>?_);refine bW r2 ?_;refine hK.out _ _ trivial (λhH=>?_);clear hK K
    try simp only[lt]
    refine tk (i:=12) HP rfl rfl hH ?_
    try simp only[lt]
    refine aw (i:=13) rfl (λK hK=>?_);go_simp;refine hK.out _ _ trivial (λhH=>?_);clear hK K
    try simp only[lt]
    refine wpAnyH_done (by kernel_rfl) ?_ _;exact HQ.out _ _ _ _ _ _ _ H1.out
   ·go_simp
    refine hK.out _ _ trivial (λhH=>?_);clear hK K
    try simp only[lt]
    refine tk (i:=10) HP rfl rfl hH ?_
    try simp only[lt]
    refine aw (i:=5) rfl (λK hK=>?_);refine bW r1 ?_;refine hK.out _ _ trivial (λhH=>?_);clear hK K
    try simp only[lt]
    refine aw (i:=11) rfl (λK hK=>?_);refine bW r2 ?_;refine hK.out _ _ trivial (λhH=>?_);clear hK K
    try simp only[lt]
    refine tk (i:=12) HP rfl rfl hH ?_
    try simp only[lt]
    refine aw (i:=13) rfl (λK hK=>?_);go_simp;refine hK.out _ _ trivial (λhH=>?_);clear hK K
    try simp only[lt]
    refine wpAnyH_done (by kernel_rfl) ?_ _;exact HQ.out _ _ _ _ _ _ _ H1.out
  ·go_simp
   refine hK.out _ _ trivial (λhH=>?_);clear hK K
   try simp only[lt]
   refine tk (i:=10) HP rfl rfl hH ?_
   try simp only[lt]
   refine aw (i:=2) rfl (λK hK=>?_);go_simp;refine hK.out _ _ trivial (λhH=>?_);clear hK K
   try simp only[lt]
   refine tk (i:=4) HP rfl rfl hH ?_
   try simp only[lt]
   refine aw (i:=5) rfl (λK hK=>?_);refine bW r1 ?_;refine hK.out _ _ trivial (λhH=>?_);clear hK K
   try simp only[lt]
   refine aw (i:=11) rfl (λK hK=>?_);refine bW r2 ?_;refine hK.out _ _ trivial (λhH=>?_);clear hK K
   try simp only[lt]
   refine tk (i:=12) HP rfl rfl hH ?_
   try simp only[lt]
   refine aw (i:=13) rfl (λK hK=>?_);go_simp;refine hK.out _ _ trivial (λhH=>?_);clear hK K
   try simp only[lt]
   refine wpAnyH_done (by kernel_rfl) ?_ _;exact HQ.out _ _ _ _ _ _ _ H1.out
 ·go_simp
  refine hK.out _ _ trivial (λhH=>?_);clear hK K
  try simp only[lt]
  refine tk (i:=4) HP rfl rfl hH ?_
  try simp only[lt]
  refine kW (i:=0) (j:=7) rfl rfl (λK hK=>?_) (λK hK=>?_)
  ·go_simp
   refine hK.out _ _ trivial (λhH=>?_);clear hK K
   try simp only[lt]
   refine kW (i:=5) (j:=7) rfl rfl (λK hK=>?_) (λK hK=>?_)
   ·refine bW r1 ?_
    refine hK.out _ _ trivial (λhH=>?_);clear hK K
    try simp only[lt]
    refine aw (i:=7) rfl (λK hK=>?_);go_simp;refine hK.out _ _ trivial (λhH=>?_);clear hK K
    try simp only[lt]
    refine tk (i:=10) HP rfl rfl hH ?_
    try simp only[lt]
    refine aw (i:=11) rfl (λK hK=>?_);refine bW r2 ?_;refine hK.out _ _ trivial (λhH=>?_);clear hK K
    try simp only[lt]
    refine tk (i:=12) HP rfl rfl hH ?_
    try simp only[lt]
    refine aw (i:=13) rfl (λK hK=>?_);go_simp;refine hK.out _ _ trivial (λhH=>?_);clear hK K
    try simp only[lt]
    refine wpAnyH_done (by kernel_rfl) ?_ _;exact HQ.out _ _ _ _ _ _ _ H1.out
   ·go_simp
    refine hK.out _ _ trivial (λhH=>?_);clear hK K
    try simp only[lt]
    refine tk (i:=10) HP rfl rfl hH ?_
    try simp only[lt]
    refine aw (i:=5) rfl (λK hK=>?_);refine bW r1 ?_;refine hK.out _ _ trivial (λhH=>?_);clear hK K
    try simp only[lt]
    refine aw (i:=11) rfl (λK hK=>?_);refine bW r2 ?_;refine hK.out _ _ trivial (λhH=>?_);clear hK K
    try simp only[lt]
    refine tk (i:=12) HP rfl rfl hH ?_
    try simp only[lt]
    refine aw (i:=13) rfl (λK hK=>?_);go_simp;refine hK.out _ _ trivial (λhH=>?_);clear hK K
    try simp only[lt]
    refine wpAnyH_done (by kernel_rfl) ?_ _;exact HQ.out _ _ _ _ _ _ _ H1.out
  ·go_simp
   refine hK.out _ _ trivial (λhH=>?_);clear hK K
   try simp only[lt]
   refine tk (i:=10) HP rfl rfl hH ?_
   try simp only[lt]
   refine aw (i:=0) rfl (λK hK=>?_);go_simp;refine hK.out _ _ trivial (λhH=>?_);clear hK K
   try simp only[lt]
   refine aw (i:=5) rfl (λK hK=>?_);refine bW r1 ?_;refine hK.out _ _ trivial (λhH=>?_);clear hK K
   try simp only[lt]
   refine aw (i:=11) rfl (λK hK=>?_);refine bW r2 ?_;refine hK.out _ _ trivial (λhH=>?_);clear hK K
   try simp only[lt]
   refine tk (i:=12) HP rfl rfl hH ?_
   try simp only[lt]
   refine aw (i:=13) rfl (λK hK=>?_);go_simp;refine hK.out _ _ trivial (λhH=>?_);clear hK K
   try simp only[lt]
   refine wpAnyH_done (by kernel_rfl) ?_ _;exact HQ.out _ _ _ _ _ _ _ H1.out
 ·go_simp
  refine hK.out _ _ trivial (λhH=>?_);clear hK K
  try simp only[lt]
  refine tk (i:=10) HP rfl rfl hH ?_
  try simp only[lt]
  refine kW (i:=0) (j:=2) rfl rfl (λK hK=>?_) (λK hK=>?_)
  ·go_simp
   refine hK.out _ _ trivial (λhH=>?_);clear hK K
   try simp only[lt]
   refine aw (i:=2) rfl (λK hK=>?_);go_simp;refine hK.out _ _ trivial (λhH=>?_);clear hK K
   try simp only[lt]
   refine tk (i:=4) HP rfl rfl hH ?_
   try simp only[lt]
   refine aw (i:=5) rfl (λK hK=>?_);refine bW r1 ?_;refine hK.out _ _ trivial (λhH=>?_);clear hK K
   try simp only[lt]
   refine aw (i:=11) rfl (λK hK=>?_);refine bW r2 ?_;refine hK.out _ _ trivial (λhH=>?_);clear hK K
   try simp only[lt]
   refine tk (i:=12) HP rfl rfl hH ?_
   try simp only[lt]
   refine aw (i:=13) rfl (λK hK=>?_);go_simp;refine hK.out _ _ trivial (λhH=>?_);clear hK K
   try simp only[lt]
   refine wpAnyH_done (by kernel_rfl) ?_ _;exact HQ.out _ _ _ _ _ _ _ H1.out
  ·go_simp
   refine hK.out _ _ trivial (λhH=>?_);clear hK K
   try simp only[lt]
   refine tk (i:=4) HP rfl rfl hH ?_
   try simp only[lt]
   refine aw (i:=0) rfl (λK hK=>?_);go_simp;refine hK.out _ _ trivial (λhH=>?_);clear hK K
   try simp only[lt]
   refine aw (i:=5) rfl (λK hK=>?_);refine bW r1 ?_;refine hK.out _ _ trivial (λhH=>?_);clear hK K
   try simp only[lt]
   refine aw (i:=11) rfl (λK hK=>?_);refine bW r2 ?_;refine hK.out _ _ trivial (λhH=>?_);clear hK K
   try simp only[lt]
   refine tk (i:=12) HP rfl rfl hH ?_
   try simp only[lt]
   refine aw (i:=13) rfl (λK hK=>?_);go_simp;refine hK.out _ _ trivial (λhH=>?_);clear hK K
   try simp only[lt]
   refine wpAnyH_done (by kernel_rfl) ?_ _;exact HQ.out _ _ _ _ _ _ _ H1.out
theorem uK{α:Type}(q:α→Bool):∀l:List α,l.eraseP q=l.take (l.findIdx q)++l.drop (l.findIdx q+1)
 | []=>by simp
 | a::l=>by
   by_cases h:q a=true
   ·rw[List.eraseP_cons_of_pos h,List.findIdx_cons]
    simp[h]
   ·rw[List.eraseP_cons_of_neg h,List.findIdx_cons,uK q l]
    simp[h]
theorem uk{α:Type}{g:α→Int}{id:Int}{l:List α}:cM g id l=l.take (qM g id l)++l.drop (qM g id l+1):=uK _ l
theorem zx(l:List bh):∀u∈l.flatMap bh.cells,u.oneCell'=true:=by
 intro u hu;obtain⟨f,-,hu⟩:=List.mem_flatMap.1 hu;simp[bh.cells] at hu;rcases hu with rfl|rfl|rfl<;>rfl
theorem zy(l:List ce):∀u∈l.flatMap ce.cells,u.oneCell'=true:=by
 intro u hu;obtain⟨f,-,hu⟩:=List.mem_flatMap.1 hu;simp[ce.cells] at hu;rcases hu with rfl|rfl|rfl<;>rfl
theorem tI(l:List aX):∀u∈l.flatMap aX.cells,u.oneCell'=true:=by
 intro u hu;obtain⟨f,-,hu⟩:=List.mem_flatMap.1 hu;simp[aX.cells] at hu;rcases hu with rfl|rfl|rfl|rfl<;>rfl
theorem wT{W:World}{g:Nat}{tmps:Array Value}{a0 a1 a2 a3 a4 a5 a6 a7 a8:Value}(hb:aj W g 36 #[a0,a1,a2,a3,a4,a5,a6,a7,a8])(h2:tmps.getD 4 undef=O (some ⟨g,0,none⟩)):
  (results Tryz.f32 tmps).run pQ W=.ok (.agg #[a0,a1,a2,a3,a4,a5,a6,a7,a8]) W:=by
 obtain⟨c0,c1,c2,c3,c4,c5,c6,c7,c8⟩:=aA hb;have h2':tmps[4]?.getD undef=O (some ⟨g,0,none⟩):=by simpa using h2
 simp[results,Tryz.results32,h2',go_sem,c0,c1,c2,c3,c4,c5,c6,c7,c8]
theorem gP(w:World)(fo fe it se:Sl)(x:St)(k a b n:Int)(s t u:ByteArray):∃w0,w0=((w.alloc (.cells #[I J x.clock,U fo.1 x.fols.length fo.2,U fe.1 x.fees.length fe.2,U it.1 x.itms.length it.2,U se.1 x.seas.length se.2,I J x.tFol,I J x.tFee,I J x.tItm,I J x.tSea] 36)).alloc (.cells #[I J k,I J a,I J b,I J n,V s,V t,V u] 42)).alloc (.cells #[I J 0,U none 0 0,U none 0 0,U none 0 0,U none 0 0,I J 0,I J 0,I J 0,I J 0] 36)∧aa ag w w0∧aj w0 w.heap.size 36 #[I J x.clock,U fo.1 x.fols.length fo.2,U fe.1 x.fees.length fe.2,U it.1 x.itms.length it.2,U se.1 x.seas.length se.2,I J x.tFol,I J x.tFee,I J x.tItm,I J x.tSea]∧aj w0 (w.heap.size+1) 42 #[I J k,I J a,I J b,I J n,V s,V t,V u]∧aj w0 (w.heap.size+2) 36 #[I J 0,U none 0 0,U none 0 0,U none 0 0,U none 0 0,I J 0,I J 0,I J 0,I J 0]:=by
 refine⟨_,rfl,(((fR w).alloc _).alloc _).alloc _,(aj.new w _ _).frm (((fR _).alloc _).alloc _) id,?_,?_⟩
 ·have:=(aj.new (w.alloc (.cells #[I J x.clock,U fo.1 x.fols.length fo.2,U fe.1 x.fees.length fe.2,U it.1 x.itms.length it.2,U se.1 x.seas.length se.2,I J x.tFol,I J x.tFee,I J x.tItm,I J x.tSea] 36)) 42 #[I J k,I J a,I J b,I J n,V s,V t,V u]).frm ((fR _).alloc (.cells #[I J 0,U none 0 0,U none 0 0,U none 0 0,U none 0 0,I J 0,I J 0,I J 0,I J 0] 36)) id
  simpa using this
 ·have:=aj.new ((w.alloc (.cells #[I J x.clock,U fo.1 x.fols.length fo.2,U fe.1 x.fees.length fe.2,U it.1 x.itms.length it.2,U se.1 x.seas.length se.2,I J x.tFol,I J x.tFee,I J x.tItm,I J x.tSea] 36)).alloc (.cells #[I J k,I J a,I J b,I J n,V s,V t,V u] 42)) 36 #[I J 0,U none 0 0,U none 0 0,U none 0 0,U none 0 0,I J 0,I J 0,I J 0,I J 0]
  simpa using this
theorem wU{P:Program}{t e:TypeId}{s bytes:Nat}(E:mJ P t e s bytes){c n p:Nat}{xs:List Value}(hr:Rd w1 G s A n xs)(hc:n≤c)(hm:c≤maxLen)(h1:∀u∈xs,u.oneCell'=true)(hn:n≤100000)(hp:p<n)(hby:bytes≤1000):
  ∃v1 wb v2 wc,(∀ty,(Builtin.append_ #[t,t] ty #[U (some ⟨w1.heap.size,0,none⟩) 0 0,U A p c]).run P (w1.alloc (.cells #[] e)).drew=.ok v1 wb)∧
    (∀ty,(Builtin.append_ #[t,t] ty #[v1,U (if c=p+1 then A else A.map (·.add ((p+1) * s))) (n-(p+1)) (c-(p+1))]).run P wb=.ok v2 wc)∧
    aI e s w1 wc v2 (p+(n-(p+1))) (xs.take (p * s)++xs.drop ((p+1) * s))∧aa ag w1 wb∧aa ag w1 wc:=by
 have hb1:(0+p) * bytes≤140737488355328:=by
  have:=Nat.mul_le_mul (show 0+p≤100000 by omega) hby;omega
 have hb2:(0+p+(n-(p+1))) * bytes≤140737488355328:=by
  have:=Nat.mul_le_mul (show 0+p+(n-(p+1))≤100000 by omega) hby;omega
 have r0:aI e s w1 (w1.alloc (.cells #[] e)).drew (U (some ⟨w1.heap.size,0,none⟩) 0 0) 0 []:=(aI.empty e s (fR w1)).more ((fR _).drew);obtain⟨v1,wb,q1,r1,-,-⟩:=r0.app E c ((hr.take (Nat.le_of_lt hp)).frm r0.frm λ_ _=>id) (λu hu=>h1 u (List.mem_of_mem_take hu)) (by unfold maxLen;omega) hb1;obtain⟨v2,wc,q2,r2,-,-⟩:=r1.app E (c-(p+1)) ((hr.cut (k:=p+1) (by omega) hc).frm r1.frm λ_ _=>id) (λu hu=>h1 u (List.mem_of_mem_drop hu)) (by unfold maxLen;omega) hb2;rw[Nat.zero_add,List.nil_append] at r2;exact⟨v1,wb,v2,wc,q1,q2,r2,r1.frm,r2.frm⟩
theorem Dx(hS:aY w G fo fe it se ts x)(hsm:aP x){a b n:Int}{s t u:ByteArray}(hi:bl bh.id a x.fols=true):
  Calls pQ 32 #[cC fo fe it se x,bQ ⟨2,a,b,n,s,t,u⟩] w λr w'=>∃fo':Sl,r=.returned (cC fo' fe it se {x with fols:=(cM bh.id a x.fols)})∧aY w' (λk=>G k∨w.heap.size≤k) fo' fe it se ts {x with fols:=(cM bh.id a x.fols)}∧aa ag w w':=by
 obtain⟨w0,hw0,hf0,hb1,hb2,hb3⟩:=gP w fo fe it se x 2 a b n s t u;obtain⟨e0,e1,e2,e3,e4,e5,e6⟩:=az hb2;obtain⟨x0,x1,x2,x3,x4,x5,x6,x7,x8⟩:=aA hb1;obtain⟨p,hpl,hp,-,-,uS⟩:=cj hi;have cm:=hsm.fols
 have KF:Hid (Calls pQ 72 #[cC fo fe it se x,I J a] w0 λe w'=>e=.returned (I J p)∧aa ag w0 w'):=by
  have:=mK (hS.nix hf0) hsm a;rw[hp] at this;exact this
 have HS:=h_ hS;have bT:=h_ hb1;have im:=h_ hb2;have og:=h_ hb3;have bI:=h_ hf0;have HW:=h_ hw0;have yh:Hid ((cM bh.id a x.fols)=x.fols.take p++x.fols.drop (p+1)):=by unfold Hid;rw[uk,uS]
 have HDn:Hid ((cM bh.id a x.fols).length=p+(x.fols.length-(p+1))):=by unfold Hid;rw[yh.out];simp;omega
 rw[hw0] at e0 e1 e2 e3 e4 e5 e6 x0 x1 x2 x3 x4 x5 x6 x7 x8;clear hS hsm hf0 hb1 hb2 hb3 hw0 hp uS hi;unfold cC bQ;dsimp only;obtain⟨A,c⟩:=fo;dsimp only at x1 x2 x3 x4 HS bT HW KF ⊢
 obtain⟨ad,rfl⟩:∃ad,A=some ad:=by
  obtain⟨ad,e,-⟩:=HS.out.fols.rd.2 (by omega);exact⟨ad,e⟩
 go_enter Tryz.func32,Tryz.ntmps32;show Code.wp pQ (ai 0 (ae Tryz.f32)) _ _ _
 refine aC (k':=1) λK hK=>?_
 conv in aD _=>whnf
 go_wp2;refine aC (k':=2) λK hK=>?_
 conv in aD _=>whnf
 go_wp2_with (go_at_call 72;rw[←HW.out];refine KF.out.mono ?_;rintro e w1 ⟨rfl,hf⟩;have Z1:=h_ hf;clear hf);have hs1:=(HS.out.nix (bI.out.trans Z1.out)).fols;obtain⟨v1,wb,v2,wc,yi,yj,hrow,fb,fc⟩:=wU tu (p:=p) hs1.rd hs1.cap hs1.max (zx x.fols) cm hpl (by omega);obtain⟨A',c',rfl,-,-,-,-⟩:=hrow.shape;have hB1:=bT.out.frm Z1.out id;obtain⟨x0,x1,x2,x3,x4,x5,x6,x7,x8⟩:=aA hB1;have OX:=hB1.lt;have hcb:wb.cell? ⟨w.heap.size,1,none⟩=_:=((hB1.frm fb id).cell 1).trans rfl;have hcc:wc.cell? ⟨w.heap.size,1,none⟩=_:=((hB1.frm fc id).cell 1).trans rfl;have LA:=(hB1.frm fc id).frozen 1;have FE:=World.new_ne w1 ⟨w.heap.size,1,none⟩ x1;have FB:(0:Int)≤(p:Int):=Int.natCast_nonneg _;have qH:=hs1.cap;have Iu:=hs1.max;have FC:(p:Int)≤(c:Int):=by simp only at qH;omega
 have FD:(p:Int)+1≤(x.fols.length:Int):=by omega
 have Rm:(0:Int)≤(p:Int)+1:=by omega
 have Kb:IntKind.i64.wrap ((p:Int)+1)=(p:Int)+1:=IntWalk.i64_in _ (by omega);have eh:=h_ hrow;have HC:=h_ fc;clear hs1 hrow fc fb hB1;go_wp2
 go_region_law (first|(refine iC yi (by rfl) _ _ (by rfl) (by rfl) (by rfl) ?_)|(refine iC yj (by rfl) _ _ (by rfl) (by rfl) (by rfl) ?_))
 all_goals
  obtain⟨wd,hwd⟩:∃wd,wd=wc.setCell ⟨w.heap.size,1,none⟩ (U A' (p+(x.fols.length-(p+1))) c'):=⟨_,rfl⟩;rw[←hwd];have rJ:aj wd w.heap.size 36 #[I J x.clock,U A' (p+(x.fols.length-(p+1))) c',U fe.1 x.fees.length fe.2,U it.1 x.itms.length it.2,U se.1 x.seas.length se.2,I J x.tFol,I J x.tFee,I J x.tItm,I J x.tSea]:=by rw[hwd];exact(((bT.out.frm Z1.out id).frm HC.out id).set_ 1 _)
  have fd:aa (λk=>k=w.heap.size) wc wd:=by rw[hwd];exact(aa.refl (λk=>k=w.heap.size) wc).setCell (.inl rfl) _
  have hb4:aj wd (w.heap.size+1+1) 36 #[I J 0,U none 0 0,U none 0 0,U none 0 0,U none 0 0,I J 0,I J 0,I J 0,I J 0]:=((og.out.frm Z1.out id).frm HC.out id).frm fd (by simp);obtain⟨z0,z1,z2,z3,z4,z5,z6,z7,z8⟩:=aA rJ;obtain⟨y0,y1,y2,y3,y4,y5,y6,y7,y8⟩:=aA hb4;have g0:=hb4.frozen 0;have g1:=hb4.frozen 1;have g2:=hb4.frozen 2;have g3:=hb4.frozen 3;have g4:=hb4.frozen 4;have g5:=hb4.frozen 5;have g6:=hb4.frozen 6;have g7:=hb4.frozen 7;have g8:=hb4.frozen 8;obtain⟨we,gq⟩:∃we,we=wd.setCells (w.heap.size+1+1) 0 [I J x.clock,U A' (p+(x.fols.length-(p+1))) c',U fe.1 x.fees.length fe.2,U it.1 x.itms.length it.2,U se.1 x.seas.length se.2,I J x.tFol,I J x.tFee,I J x.tItm,I J x.tSea]:=⟨_,rfl⟩
  have l5:aj we (w.heap.size+1+1) 36 #[I J x.clock,U A' (p+(x.fols.length-(p+1))) c',U fe.1 x.fees.length fe.2,U it.1 x.itms.length it.2,U se.1 x.seas.length se.2,I J x.tFol,I J x.tFee,I J x.tItm,I J x.tSea]:=by
   have:=aj.putL [I J x.clock,U A' (p+(x.fols.length-(p+1))) c',U fe.1 x.fees.length fe.2,U it.1 x.itms.length it.2,U se.1 x.seas.length se.2,I J x.tFol,I J x.tFee,I J x.tItm,I J x.tSea] 0 hb4;rw[kK] at this;rw[gq];exact this
  have fe_:aa (λk=>k=w.heap.size+1+1) wd we:=by rw[gq];exact aa.setCells _ 0 (aa.refl _ _) (.inl rfl)
  have hF:aa ag w we:=(((bI.out.trans Z1.out).trans HC.out).next fd (λk hk=>.inr (by omega))).next fe_ (λk hk=>.inr (by omega))
  have hs0:=(bI.out.trans Z1.out).size;have hL:=hb4.lt;have cL:aF we (λk=>w1.heap.size≤k) 3 (A',c') (p+(x.fols.length-(p+1))) (x.fols.flatMap bh.cells |> λxs=>xs.take (p * 3)++xs.drop ((p+1) * 3)):=(eh.out.sl.frm fd λk hk e=>by have:=bT.out.frm Z1.out id |>.lt;omega).frm fe_ λk hk e=>by have:=og.out.frm Z1.out id |>.lt;omega
  have FH:Hid (aF we (λk=>w.heap.size≤k) 3 (A',c') (cM bh.id a x.fols).length ((cM bh.id a x.fols).flatMap bh.cells)):=by
   have e1:=gy bh.clen x.fols p;have e2:=mn bh.clen x.fols (p+1);simp only at cL;rw[e1,e2,←List.flatMap_append,←yh.out,←HDn.out] at cL;exact cL.mono λk hk=>Nat.le_trans hs0 hk
  have bK:=h_ hF;have lS:=h_ l5;clear rJ fd hb4 hF cL hs0 l5 fe_ hwd;go_wp2
  all_goals
   simp only[ai,ae,Tryz.f32];go_wp2
   all_goals
    simp only[World.setCells] at gq;rw[←gq];refine bodyPost_ret (wT lS.out rfl) rfl ?_;refine⟨(A',c'),?_,⟨FH.out.mono λk hk=>.inr hk,((HS.out.nix bK.out).fees).mono λk hk=>.inl hk,((HS.out.nix bK.out).itms).mono λk hk=>.inl hk,HS.out.same,((HS.out.nix bK.out).seas).mono λk hk=>.inl hk⟩,bK.out⟩;rw[HDn.out]
theorem BP(hS:aY w G fo fe it se ts x)(hsm:aP x){a b n:Int}{s t u:ByteArray}(hi:bl ce.id a x.seas=true):
  Calls pQ 32 #[cC fo fe it se x,bQ ⟨12,a,b,n,s,t,u⟩] w λr w'=>∃se':Sl,r=.returned (cC fo fe it se' {x with seas:=(cM ce.id a x.seas)})∧aY w' (λk=>G k∨w.heap.size≤k) fo fe it se' ts {x with seas:=(cM ce.id a x.seas)}∧aa ag w w':=by
 obtain⟨w0,hw0,hf0,hb1,hb2,hb3⟩:=gP w fo fe it se x 12 a b n s t u;obtain⟨e0,e1,e2,e3,e4,e5,e6⟩:=az hb2;obtain⟨x0,x1,x2,x3,x4,x5,x6,x7,x8⟩:=aA hb1;obtain⟨p,hpl,hp,-,-,uS⟩:=cj hi;have cm:=hsm.seas
 have KF:Hid (Calls pQ 79 #[cC fo fe it se x,I J a] w0 λe w'=>e=.returned (I J p)∧aa ag w0 w'):=by
  have:=q9 (hS.nix hf0) hsm a;rw[hp] at this;exact this
 have HS:=h_ hS;have bT:=h_ hb1;have im:=h_ hb2;have og:=h_ hb3;have bI:=h_ hf0;have HW:=h_ hw0;have yh:Hid ((cM ce.id a x.seas)=x.seas.take p++x.seas.drop (p+1)):=by unfold Hid;rw[uk,uS]
 have HDn:Hid ((cM ce.id a x.seas).length=p+(x.seas.length-(p+1))):=by unfold Hid;rw[yh.out];simp;omega
 rw[hw0] at e0 e1 e2 e3 e4 e5 e6 x0 x1 x2 x3 x4 x5 x6 x7 x8;clear hS hsm hf0 hb1 hb2 hb3 hw0 hp uS hi;unfold cC bQ;dsimp only;obtain⟨A,c⟩:=se;dsimp only at x1 x2 x3 x4 HS bT HW KF ⊢
 obtain⟨ad,rfl⟩:∃ad,A=some ad:=by
  obtain⟨ad,e,-⟩:=HS.out.seas.rd.2 (by omega);exact⟨ad,e⟩
 go_enter Tryz.func32,Tryz.ntmps32;show Code.wp pQ (ai 0 (ae Tryz.f32)) _ _ _
 refine aC (k':=1) λK hK=>?_
 conv in aD _=>whnf
 go_wp2;refine aC (k':=2) λK hK=>?_
 conv in aD _=>whnf
 go_wp2_with (go_at_call 79;rw[←HW.out];refine KF.out.mono ?_;rintro e w1 ⟨rfl,hf⟩;have Z1:=h_ hf;clear hf);have hs1:=(HS.out.nix (bI.out.trans Z1.out)).seas;obtain⟨v1,wb,v2,wc,yi,yj,hrow,fb,fc⟩:=wU tz (p:=p) hs1.rd hs1.cap hs1.max (zy x.seas) cm hpl (by omega);obtain⟨A',c',rfl,-,-,-,-⟩:=hrow.shape;have hB1:=bT.out.frm Z1.out id;obtain⟨x0,x1,x2,x3,x4,x5,x6,x7,x8⟩:=aA hB1;have OX:=hB1.lt;have hcb:wb.cell? ⟨w.heap.size,4,none⟩=_:=((hB1.frm fb id).cell 4).trans rfl;have hcc:wc.cell? ⟨w.heap.size,4,none⟩=_:=((hB1.frm fc id).cell 4).trans rfl;have LA:=(hB1.frm fc id).frozen 4;have FE:=World.new_ne w1 ⟨w.heap.size,4,none⟩ x4;have FB:(0:Int)≤(p:Int):=Int.natCast_nonneg _;have qH:=hs1.cap;have Iu:=hs1.max;have FC:(p:Int)≤(c:Int):=by simp only at qH;omega
 have FD:(p:Int)+1≤(x.seas.length:Int):=by omega
 have Rm:(0:Int)≤(p:Int)+1:=by omega
 have Kb:IntKind.i64.wrap ((p:Int)+1)=(p:Int)+1:=IntWalk.i64_in _ (by omega);have eh:=h_ hrow;have HC:=h_ fc;clear hs1 hrow fc fb hB1;go_wp2
 go_region_law (first|(refine iC yi (by rfl) _ _ (by rfl) (by rfl) (by rfl) ?_)|(refine iC yj (by rfl) _ _ (by rfl) (by rfl) (by rfl) ?_))
 all_goals
  obtain⟨wd,hwd⟩:∃wd,wd=wc.setCell ⟨w.heap.size,4,none⟩ (U A' (p+(x.seas.length-(p+1))) c'):=⟨_,rfl⟩;rw[←hwd];have rJ:aj wd w.heap.size 36 #[I J x.clock,U fo.1 x.fols.length fo.2,U fe.1 x.fees.length fe.2,U it.1 x.itms.length it.2,U A' (p+(x.seas.length-(p+1))) c',I J x.tFol,I J x.tFee,I J x.tItm,I J x.tSea]:=by rw[hwd];exact(((bT.out.frm Z1.out id).frm HC.out id).set_ 4 _)
  have fd:aa (λk=>k=w.heap.size) wc wd:=by rw[hwd];exact(aa.refl (λk=>k=w.heap.size) wc).setCell (.inl rfl) _
  have hb4:aj wd (w.heap.size+1+1) 36 #[I J 0,U none 0 0,U none 0 0,U none 0 0,U none 0 0,I J 0,I J 0,I J 0,I J 0]:=((og.out.frm Z1.out id).frm HC.out id).frm fd (by simp);obtain⟨z0,z1,z2,z3,z4,z5,z6,z7,z8⟩:=aA rJ;obtain⟨y0,y1,y2,y3,y4,y5,y6,y7,y8⟩:=aA hb4;have g0:=hb4.frozen 0;have g1:=hb4.frozen 1;have g2:=hb4.frozen 2;have g3:=hb4.frozen 3;have g4:=hb4.frozen 4;have g5:=hb4.frozen 5;have g6:=hb4.frozen 6;have g7:=hb4.frozen 7;have g8:=hb4.frozen 8;obtain⟨we,gq⟩:∃we,we=wd.setCells (w.heap.size+1+1) 0 [I J x.clock,U fo.1 x.fols.length fo.2,U fe.1 x.fees.length fe.2,U it.1 x.itms.length it.2,U A' (p+(x.seas.length-(p+1))) c',I J x.tFol,I J x.tFee,I J x.tItm,I J x.tSea]:=⟨_,rfl⟩
  have l5:aj we (w.heap.size+1+1) 36 #[I J x.clock,U fo.1 x.fols.length fo.2,U fe.1 x.fees.length fe.2,U it.1 x.itms.length it.2,U A' (p+(x.seas.length-(p+1))) c',I J x.tFol,I J x.tFee,I J x.tItm,I J x.tSea]:=by
   have:=aj.putL [I J x.clock,U fo.1 x.fols.length fo.2,U fe.1 x.fees.length fe.2,U it.1 x.itms.length it.2,U A' (p+(x.seas.length-(p+1))) c',I J x.tFol,I J x.tFee,I J x.tItm,I J x.tSea] 0 hb4;rw[kK] at this;rw[gq];exact this
  have fe_:aa (λk=>k=w.heap.size+1+1) wd we:=by rw[gq];exact aa.setCells _ 0 (aa.refl _ _) (.inl rfl)
  have hF:aa ag w we:=(((bI.out.trans Z1.out).trans HC.out).next fd (λk hk=>.inr (by omega))).next fe_ (λk hk=>.inr (by omega))
  have hs0:=(bI.out.trans Z1.out).size;have hL:=hb4.lt;have cL:aF we (λk=>w1.heap.size≤k) 3 (A',c') (p+(x.seas.length-(p+1))) (x.seas.flatMap ce.cells |> λxs=>xs.take (p * 3)++xs.drop ((p+1) * 3)):=(eh.out.sl.frm fd λk hk e=>by have:=bT.out.frm Z1.out id |>.lt;omega).frm fe_ λk hk e=>by have:=og.out.frm Z1.out id |>.lt;omega
  have FH:Hid (aF we (λk=>w.heap.size≤k) 3 (A',c') (cM ce.id a x.seas).length ((cM ce.id a x.seas).flatMap ce.cells)):=by
   have e1:=gy ce.clen x.seas p;have e2:=mn ce.clen x.seas (p+1);simp only at cL;rw[e1,e2,←List.flatMap_append,←yh.out,←HDn.out] at cL;exact cL.mono λk hk=>Nat.le_trans hs0 hk
  have bK:=h_ hF;have lS:=h_ l5;clear rJ fd hb4 hF cL hs0 l5 fe_ hwd;go_wp2
  all_goals
   simp only[ai,ae,Tryz.f32];go_wp2
   all_goals
    simp only[World.setCells] at gq;rw[←gq];refine bodyPost_ret (wT lS.out rfl) rfl ?_;refine⟨(A',c'),?_,⟨((HS.out.nix bK.out).fols).mono λk hk=>.inl hk,((HS.out.nix bK.out).fees).mono λk hk=>.inl hk,((HS.out.nix bK.out).itms).mono λk hk=>.inl hk,HS.out.same,FH.out.mono λk hk=>.inr hk⟩,bK.out⟩;rw[HDn.out]
theorem BQ{α:Type}{p:α→Bool}{l:List α}{k:Nat}(h:k<l.length)(he:p l[k]=true):(l.take (k+1)).filter p=(l.take k).filter p++[l[k]]:=by
 rw[List.take_succ_eq_append_getElem h,List.filter_append];simp[he]
theorem Dy{α:Type}{p:α→Bool}{l:List α}{k:Nat}(h:k<l.length)(he:p l[k]=false):(l.take (k+1)).filter p=(l.take k).filter p:=by
 rw[List.take_succ_eq_append_getElem h,List.filter_append];simp[he]
theorem Dz(hS:aY w G fo fe it se ts x)(hsm:aP x){a b n:Int}{s t u:ByteArray}(hi:bl aX.id a x.fees=true):
  Calls pQ 32 #[cC fo fe it se x,bQ ⟨4,a,b,n,s,t,u⟩] w λr w'=>∃(fe' it':Sl) (ts':List (Sl×aR)),r=.returned (cC fo fe' it' se {x with fees:=(cM aX.id a x.fees),itms:=x.itms.filter λt=>t.feed≠a})∧aY w' (λk=>G k∨w.heap.size≤k) fo fe' it' se ts' {x with fees:=(cM aX.id a x.fees),itms:=x.itms.filter λt=>t.feed≠a}∧aa ag w w':=by
 obtain⟨w0,hw0,hf0,hb1,hb2,hb3⟩:=gP w fo fe it se x 4 a b n s t u;obtain⟨e0,e1,e2,e3,e4,e5,e6⟩:=az hb2;obtain⟨x0,x1,x2,x3,x4,x5,x6,x7,x8⟩:=aA hb1;obtain⟨p,hpl,hp,-,-,uS⟩:=cj hi;have cm:=hsm.fees
 have KF:Hid (Calls pQ 33 #[cC fo fe it se x,I J a] w0 λe w'=>e=.returned (I J p)∧aa ag w0 w'):=by
  have:=lB (hS.nix hf0) hsm a;rw[hp] at this;exact this
 have HS:=h_ hS;have Sv:=hsm.itms;have bT:=h_ hb1;have im:=h_ hb2;have og:=h_ hb3;have bI:=h_ hf0;have HW:=h_ hw0;have yh:Hid ((cM aX.id a x.fees)=x.fees.take p++x.fees.drop (p+1)):=by unfold Hid;rw[uk,uS]
 have HDn:Hid ((cM aX.id a x.fees).length=p+(x.fees.length-(p+1))):=by unfold Hid;rw[yh.out];simp;omega
 rw[hw0] at e0 e1 e2 e3 e4 e5 e6 x0 x1 x2 x3 x4 x5 x6 x7 x8;clear hS hsm hf0 hb1 hb2 hb3 hw0 hp uS hi;unfold cC bQ;dsimp only;obtain⟨A,c⟩:=fe;dsimp only at x1 x2 x3 x4 HS bT HW KF ⊢
 obtain⟨ad,rfl⟩:∃ad,A=some ad:=by
  obtain⟨ad,e,-⟩:=HS.out.fees.rd.2 (by omega);exact⟨ad,e⟩
 go_enter Tryz.func32,Tryz.ntmps32;show Code.wp pQ (ai 0 (ae Tryz.f32)) _ _ _
 refine aC (k':=1) λK hK=>?_
 conv in aD _=>whnf
 go_wp2;refine aC (k':=2) λK hK=>?_
 conv in aD _=>whnf
 go_wp2_with (go_at_call 33;rw[←HW.out];refine KF.out.mono ?_;rintro e w1 ⟨rfl,hf⟩;have Z1:=h_ hf;clear hf);have hs1:=(HS.out.nix (bI.out.trans Z1.out)).fees;obtain⟨v1,wb,v2,wc,yi,yj,hrow,fb,fc⟩:=wU qw (p:=p) hs1.rd hs1.cap hs1.max (tI x.fees) cm hpl (by omega);obtain⟨A',c',rfl,-,-,-,-⟩:=hrow.shape;have hB1:=bT.out.frm Z1.out id;obtain⟨x0,x1,x2,x3,x4,x5,x6,x7,x8⟩:=aA hB1;have OX:=hB1.lt;have hcb:wb.cell? ⟨w.heap.size,2,none⟩=_:=((hB1.frm fb id).cell 2).trans rfl;have hcc:wc.cell? ⟨w.heap.size,2,none⟩=_:=((hB1.frm fc id).cell 2).trans rfl;have LA:=(hB1.frm fc id).frozen 2;have FE:=World.new_ne w1 ⟨w.heap.size,2,none⟩ x2;have FB:(0:Int)≤(p:Int):=Int.natCast_nonneg _;have qH:=hs1.cap;have Iu:=hs1.max;have FC:(p:Int)≤(c:Int):=by simp only at qH;omega
 have FD:(p:Int)+1≤(x.fees.length:Int):=by omega
 have Rm:(0:Int)≤(p:Int)+1:=by omega
 have Kb:IntKind.i64.wrap ((p:Int)+1)=(p:Int)+1:=IntWalk.i64_in _ (by omega);have eh:=h_ hrow;have Sw:=h_ fb;clear hs1 hrow fc fb hB1;go_wp2;refine MR (bs:=w.heap.size) (bT.out.frm Z1.out id) rfl hpl (by simpa using qH) (.inr (by simpa using Iu)) (by omega) yi yj eh.out Sw.out (λ_ _ _ _ _ h=>h) ?_;clear yi yj eh Sw hcb hcc LA FE;clear A' c' wc;rintro wc A' c' y0 y5 y9 Sx hr;have eh:=h_ hr;have HC:=h_ hr.frm;clear hr
 all_goals
  obtain⟨wd,hwd⟩:∃wd,wd=wc.setCell ⟨w.heap.size,2,none⟩ (U A' (p+(x.fees.length-(p+1))) c'):=⟨_,rfl⟩;rw[←hwd];have rJ:aj wd w.heap.size 36 #[I J x.clock,U fo.1 x.fols.length fo.2,U A' (p+(x.fees.length-(p+1))) c',U it.1 x.itms.length it.2,U se.1 x.seas.length se.2,I J x.tFol,I J x.tFee,I J x.tItm,I J x.tSea]:=by rw[hwd];exact(((bT.out.frm Z1.out id).frm HC.out id).set_ 2 _)
  have fd:aa (λk=>k=w.heap.size) wc wd:=by rw[hwd];exact(aa.refl (λk=>k=w.heap.size) wc).setCell (.inl rfl) _
  have OY:Hid (aa ag w wd):=((bI.out.trans Z1.out).trans HC.out).next fd (λk hk=>.inr (by omega))
  have hs0:=(bI.out.trans Z1.out).size;have hb4:aj wd (w.heap.size+1+1) 36 #[I J 0,U none 0 0,U none 0 0,U none 0 0,U none 0 0,I J 0,I J 0,I J 0,I J 0]:=((og.out.frm Z1.out id).frm HC.out id).frm fd (by simp);have Sy:aj wd (w.heap.size+1) 42 #[I J 4,I J a,I J b,I J n,V s,V t,V u]:=((im.out.frm Z1.out id).frm HC.out id).frm fd (by simp);have hL:=(og.out.frm Z1.out id).lt;have cL:aF wd (λk=>w1.heap.size≤k) 4 (A',c') (p+(x.fees.length-(p+1))) (x.fees.flatMap aX.cells |> λxs=>xs.take (p * 4)++xs.drop ((p+1) * 4)):=eh.out.sl.frm fd λk hk e=>by omega
  have FH:Hid (aF wd (λk=>w1.heap.size≤k) 4 (A',c') (cM aX.id a x.fees).length ((cM aX.id a x.fees).flatMap aX.cells)):=by
   have e1:=gy aX.clen x.fees p;have e2:=mn aX.clen x.fees (p+1);simp only at cL;rw[e1,e2,←List.flatMap_append,←yh.out,←HDn.out] at cL;exact cL
  have Sz:Hid (w.heap.size+1+1<w1.heap.size):=hL;have qy:=h_ rJ;have kG:=h_ hb4;have zV:=h_ Sy;clear rJ hb4 Sy cL hs0 hL fd hwd x0 x1 x2 x3 x4 x5 x6 x7 x8 e0 e1 e2 e3 e4 e5 e6;obtain⟨itA,itC⟩:=it;obtain⟨z0,z1,z2,z3,z4,z5,z6,z7,z8⟩:=aA qy.out;go_wp2
  go_loopw [7,8] (λov kv wr=>∃k:Nat,k≤x.itms.length∧kv=I J k∧aI 82 9 wd wr ov ((ts.take k).filter λq=>decide (q.2.feed≠a)).length (((ts.take k).filter λq=>decide (q.2.feed≠a)).flatMap io)) (λ_ kv _=>x.itms.length-(intOf kv).toNat)
  case atStart=>exact⟨0,by omega,rfl,aI.nil_ _ _ (aa.refl _ _)⟩
  case round=>
   obtain⟨k,hk,rfl,Rn⟩:=hrel;have HR:=h_ Rn;obtain⟨iA,ic,rfl,-,-,-,-⟩:=Rn.shape;clear Rn z0 z1 z2 z3 z4 z5 z6 z7 z8;obtain⟨z0,z1,z2,z3,z4,z5,z6,z7,z8⟩:=aA (qy.out.frm HR.out.frm id);obtain⟨e0,e1,e2,e3,e4,e5,e6⟩:=az (zV.out.frm HR.out.frm id)
   (try dsimp only at z3)
   by_cases hlt:k<x.itms.length
   ·obtain⟨mG,uj⟩:=py HS.out hlt
    obtain⟨bk,off,hA,-,hbl,hcell⟩:=(HS.out.itms.row.nix (OY.out.trans HR.out.frm)).at_ bN (by decide) (by omega);dsimp only at hA;subst hA;have hcl:=hcell k mG;have MS:=BN (p:=λq:Sl×aR=>decide (q.2.feed≠a)) mG;have PR:=BQ (p:=λq:Sl×aR=>decide (q.2.feed≠a)) mG;have PS:=Dy (p:=λq:Sl×aR=>decide (q.2.feed≠a)) mG;obtain⟨tp,Es⟩:∃tp,ts[k]=tp:=⟨_,rfl⟩;rw[Es] at hcl MS PR PS;obtain⟨p0,p1,p2,p3,p4,p5,p6,p7,p8⟩:=rU (w:=wr) (b:=bk) (off:=off+k * 9) (p:=tp) hcl
    have Uh:((ts.take k).filter λq=>decide (q.2.feed≠a)).length≤k:=by
     have h1:=List.length_filter_le (λq:Sl×aR=>decide (q.2.feed≠a)) (ts.take k);have h2:(ts.take k).length≤k:=by simp;omega
     omega
    obtain⟨Q,hQ⟩:∃Q,((ts.take k).filter λq=>decide (q.2.feed≠a))=Q:=⟨_,rfl⟩;rw[hQ] at MS PR PS Uh HR ⊢;have Ui:=h_ PR;have Cf:=h_ PS;clear hcell uj Es hQ PR PS MS
    by_cases zP:tp.2.feed=a
    ·go_wp2
     go_quiet (fail);go_wp2;go_roundw
     case rel=>exact⟨k+1,by omega,by go_num,by rw[Cf.out (by simp[zP])];exact HR.out.more ((fR _).drewN _)⟩
     case measure=>simp[intOf];omega
    ·have hfb:(tp.2.feed !=a)=true:=by simp[bne,zP]
     go_wp2;go_quiet (fail);obtain⟨wq,zA⟩:∃wq,wq=wr.drewN nq:=⟨_,rfl⟩;rw[←zA];have uJ:aa ag wr wq:=by rw[zA];exact(fR wr).drewN _
     have SA:Hid (aI 82 9 wd wq (U iA Q.length ic) Q.length (Q.flatMap io)):=HR.out.more uJ;have zq:=(qy.out.frm SA.out.frm id).cell 3;have Uj:∀(j:Nat) (u:Value),(io tp)[j]? =some u→wq.cell? ⟨bk,off+k * 9+j,none⟩=some u:=λj u hu=>(uJ.cell (p:=⟨bk,off+k * 9+j,none⟩) hbl id).trans (hcl j u hu)
     clear zA uJ z0 z1 z2 z3 z4 z5 z6 z7 z8 e0 e1 e2 e3 e4 e5 e6 p0 p1 p2 p3 p4 p5 p6 p7 p8;simp at zq;obtain⟨p0,p1,p2,p3,p4,p5,p6,p7,p8⟩:=rU (w:=wq) (b:=bk) (off:=off+k * 9) (p:=tp) Uj;obtain⟨v2,w2,hrun,hrow2,-,-⟩:=SA.out.push px [I J tp.2.id,I J tp.2.feed,I J tp.2.date,V tp.2.guid,V tp.2.title,V tp.2.link,.bool tp.2.read,.bool tp.2.star,U tp.1.1 tp.2.tags.length tp.1.2] rfl (by intro u hu;simp at hu;rcases hu with rfl|rfl|rfl|rfl|rfl|rfl|rfl|rfl|rfl<;>rfl) (by unfold maxLen;omega) (by omega)
     have gF:Hid (aI 82 9 wd w2 v2 (Q++[tp]).length ((Q++[tp]).flatMap io)):=by
      unfold Hid;rw[List.flatMap_append]
      simpa [io] using hrow2
     clear hrow2;go_wp2_with (at_builtin;refine aq hrun rfl _ _ rfl rfl rfl ?_);go_roundw
     case rel=>exact⟨k+1,by omega,by go_num,by rw[Ui.out (by simp[zP])];exact gF.out⟩
     case measure=>simp[intOf];omega
   ·obtain rfl:k=x.itms.length:=by omega
    have hlen:=HS.out.len;obtain⟨Q,Ro⟩:∃Q,((ts.take x.itms.length).filter λq=>decide (q.2.feed≠a))=Q:=⟨_,rfl⟩;rw[Ro] at HR ⊢;have hQ:(ts.filter λq=>decide (q.2.feed≠a))=Q:=by rw[←Ro,List.take_of_length_le (by omega)]
    clear Ro
    have SB:Hid (Q.map (·.2)=x.itms.filter λt=>decide (t.feed≠a)):=by
     unfold Hid;rw[←hQ,←HS.out.same,List.filter_map];rfl
    have Uk:Hid (∀q∈Q,q∈ts):=by
     intro q hq;rw[←hQ] at hq;exact(List.mem_filter.1 hq).1
    have MT:Hid (Q.length=(x.itms.filter λt=>decide (t.feed≠a)).length):=by unfold Hid;rw[←SB.out,List.length_map]
    have gz:=(qy.out.frm HR.out.frm id).frozen 3;obtain⟨wg,PT⟩:∃wg,wg=wr.setCell ⟨w.heap.size,3,none⟩ (U iA Q.length ic):=⟨_,rfl⟩;have hbg:aj wg w.heap.size 36 #[I J x.clock,U fo.1 x.fols.length fo.2,U A' (p+(x.fees.length-(p+1))) c',U iA Q.length ic,U se.1 x.seas.length se.2,I J x.tFol,I J x.tFee,I J x.tItm,I J x.tSea]:=by rw[PT];exact((qy.out.frm HR.out.frm id).set_ 3 _)
    have fg:aa (λk=>k=w.heap.size) wr wg:=by rw[PT];exact(aa.refl (λk=>k=w.heap.size) wr).setCell (.inl rfl) _
    have hb4:aj wg (w.heap.size+1+1) 36 #[I J 0,U none 0 0,U none 0 0,U none 0 0,U none 0 0,I J 0,I J 0,I J 0,I J 0]:=(kG.out.frm HR.out.frm id).frm fg (by show ¬(w.heap.size+1+1=w.heap.size);omega);clear hQ z0 z1 z2 z4 z5 z6 z7 z8 e0 e1 e2 e3 e4 e5 e6;obtain⟨s0,s1,s2,s3,s4,s5,s6,s7,s8⟩:=aA hbg;obtain⟨y0,y1,y2,y3,y4,y5,y6,y7,y8⟩:=aA hb4;have g0:=hb4.frozen 0;have g1:=hb4.frozen 1;have g2:=hb4.frozen 2;have g3:=hb4.frozen 3;have g4:=hb4.frozen 4;have g5:=hb4.frozen 5;have g6:=hb4.frozen 6;have g7:=hb4.frozen 7;have g8:=hb4.frozen 8;have Ul:=h_ PT;go_wp2;rw[←Ul.out];obtain⟨we,gq⟩:∃we,we=wg.setCells (w.heap.size+1+1) 0 [I J x.clock,U fo.1 x.fols.length fo.2,U A' (p+(x.fees.length-(p+1))) c',U iA Q.length ic,U se.1 x.seas.length se.2,I J x.tFol,I J x.tFee,I J x.tItm,I J x.tSea]:=⟨_,rfl⟩
    have l5:aj we (w.heap.size+1+1) 36 #[I J x.clock,U fo.1 x.fols.length fo.2,U A' (p+(x.fees.length-(p+1))) c',U iA Q.length ic,U se.1 x.seas.length se.2,I J x.tFol,I J x.tFee,I J x.tItm,I J x.tSea]:=by
     have:=aj.putL [I J x.clock,U fo.1 x.fols.length fo.2,U A' (p+(x.fees.length-(p+1))) c',U iA Q.length ic,U se.1 x.seas.length se.2,I J x.tFol,I J x.tFee,I J x.tItm,I J x.tSea] 0 hb4;rw[kK] at this;rw[gq];exact this
    have fe_:aa (λk=>k=w.heap.size+1+1) wg we:=by rw[gq];exact aa.setCells _ 0 (aa.refl _ _) (.inl rfl)
    have fge:aa (λk=>k=w.heap.size∨k=w.heap.size+1+1) wr we:=(fg.mono λk hk=>.inl hk).trans (fe_.mono λk hk=>.inr hk);have hF:aa ag w we:=(OY.out.trans HR.out.frm).next fge (λk hk=>.inr (by rcases hk with rfl|rfl<;>omega))
    have bK:=h_ hF;have lS:=h_ l5;have DC:=kG.out.lt;have Um:Hid (nS we (λk=>G k∨w.heap.size≤k) (iA,ic) Q):=⟨(HR.out.sl.frm fge (λk hk e=>by rcases e with e|e<;>omega)).mono λk hk=>.inr (by omega),λq hq=>((HS.out.nix hF).itms.tags q (Uk.out q hq)).mono λk hk=>.inl hk⟩;have Rp:Hid (aF we (λk=>G k∨w.heap.size≤k) 4 (A',c') (cM aX.id a x.fees).length ((cM aX.id a x.fees).flatMap aX.cells)):=((FH.out.nix HR.out.frm).frm fge (λk hk e=>by have:=Sz.out;rcases e with e|e<;>omega)).mono λk hk=>.inr (by have:=Sz.out;omega)
    clear hbg fg hb4 fe_ fge hF l5 PT;simp only[ai,ae,Tryz.f32];go_wp2;simp only[World.setCells] at gq;rw[←gq];refine bodyPost_ret (wT lS.out rfl) rfl ?_;refine⟨(A',c'),(iA,ic),Q,?_,⟨((HS.out.nix bK.out).fols).mono λk hk=>.inl hk,Rp.out,Um.out,SB.out,((HS.out.nix bK.out).seas).mono λk hk=>.inl hk⟩,bK.out⟩;simp only[cC];rw[HDn.out,MT.out]
end Go.Proofs.YtaecjmiobllhmaaGreat
