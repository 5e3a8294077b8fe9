/- Words. -/
import Derived.Test.YtaecjmiobllhmaaGreatGr83
set_option linter.unusedVariables false
set_option linter.unusedSimpArgs false
set_option maxRecDepth 100000
set_option maxHeartbeats 16000000
namespace Go.Proofs.YtaecjmiobllhmaaGreat
open Go.Value renaming int→I,string→V,slice→U,pointer→O
open Go.IntKind renaming i64→J
open Tryz renaming prog→pQ
open Go.RowKit Go.Lib
variable {g:Nat}{G:Nat→Prop}{Aa Aw:Option Addr}{ca cw:Nat}{a:Au}{w:World}{Gm:Nat→Prop}{m:Mv}{fo fe it se:Sl}{ts:List (Sl×aR)}{wc:World}{bm k:Nat}{u1 u2 u5 u6 u7 u8 u9 u10 u11 u12 u13 u14 u15 u16 cG cH cI cR cS cT u23 u24 cN u26 dc u28 dm dp dr u32 u33 df dg u36 dt u38 dB dC dO dP dQ u44 u45 dI dJ dK dL dD dE dF dR dS dT dM dG dH dw dx dy dz dA u64 dh di dl cU cX fA fB fF fG fw:Value}
theorem IM(a:Au)(ws:List Wd):lD a ws=if ws=[] then none else some {a with ws:=ws}:=rfl
theorem bi.go{w W:World}{ws:List Wd}{A:Option Addr}{c:Nat}{ok:Bool}(hk:ok=decide (¬ws=[]))(h:dZ w g G Aa ca Aw cw a)(hG:∀k,w.heap.size≤k→G k)(hr:aI 68 3 w W (U A ws.length c) ws.length (ws.flatMap Wd.cells)):
  bi w g G (lD a ws) (.returned (.bool ok)) (W.setCell ⟨g,2,none⟩ (U A ws.length c)):=by
 rw[IM];exact bi.of hk ⟨rfl,Rv hr.frm 2 _,λ_=>⟨_,_,_,_,h.setWs hG hr⟩⟩
theorem bi.up{w w1 w2:World}{r:Option Au}{e:Ending}(hf:aa ag w w1)(h:bi w1 g G r e w2):bi w g G r e w2:=
 ⟨h.1,hf.nix.next h.2.1 λk hk=>.inl hk,h.2.2⟩
theorem FV(h:dZ w g G Aa ca Aw cw a)(bO:lz a)(hG:∀k,w.heap.size≤k→G k):
  Calls pQ 64 #[O (some ⟨g,0,none⟩),.agg #[I J m.kind,I J m.ev.kind,I J m.ev.a,I J m.ev.b,I J m.ev.n,V m.ev.s,V m.ev.t,V m.ev.u,I J m.err,I J m.last,I J m.snap,I J m.st.clock,U fo.1 m.st.fols.length fo.2,U fe.1 m.st.fees.length fe.2,U it.1 m.st.itms.length it.2,U se.1 m.st.seas.length se.2,I J m.st.tFol,I J m.st.tFee,I J m.st.tItm,I J m.st.tSea]] w (bi w g G (lD a (kq (lC a.last m.err) a.ws))):=by
 obtain⟨w2,hw2⟩:∃w2,w2=(w.alloc (.cells #[O (some ⟨g,0,none⟩)] 65)).alloc (.cells #[I J m.kind,I J m.ev.kind,I J m.ev.a,I J m.ev.b,I J m.ev.n,V m.ev.s,V m.ev.t,V m.ev.u,I J m.err,I J m.last,I J m.snap,I J m.st.clock,U fo.1 m.st.fols.length fo.2,U fe.1 m.st.fees.length fe.2,U it.1 m.st.itms.length it.2,U se.1 m.st.seas.length se.2,I J m.st.tFol,I J m.st.tFee,I J m.st.tItm,I J m.st.tSea] 44):=⟨_,rfl⟩;have hf2:aa ag w w2:=by rw[hw2];exact((fR w).alloc _).alloc _
 have hb1:aj w2 w.heap.size 65 #[O (some ⟨g,0,none⟩)]:=by rw[hw2];exact(aj.new w _ _).alloc _
 have hb2:aj w2 (w.heap.size+1) 44 #[I J m.kind,I J m.ev.kind,I J m.ev.a,I J m.ev.b,I J m.ev.n,V m.ev.s,V m.ev.t,V m.ev.u,I J m.err,I J m.last,I J m.snap,I J m.st.clock,U fo.1 m.st.fols.length fo.2,U fe.1 m.st.fees.length fe.2,U it.1 m.st.itms.length it.2,U se.1 m.st.seas.length se.2,I J m.st.tFol,I J m.st.tFee,I J m.st.tItm,I J m.st.tSea]:=by rw[hw2];have q:=aj.new (w.alloc (.cells #[O (some ⟨g,0,none⟩)] 65)) 44 #[I J m.kind,I J m.ev.kind,I J m.ev.a,I J m.ev.b,I J m.ev.n,V m.ev.s,V m.ev.t,V m.ev.u,I J m.err,I J m.last,I J m.snap,I J m.st.clock,U fo.1 m.st.fols.length fo.2,U fe.1 m.st.fees.length fe.2,U it.1 m.st.itms.length it.2,U se.1 m.st.seas.length se.2,I J m.st.tFol,I J m.st.tFee,I J m.st.tItm,I J m.st.tSea];simpa using q
 have hA2:=h.nix hf2;have KG:=h_ (rk (F:=124) (caps:=#[O (some ⟨w.heap.size+1,0,none⟩),O (some ⟨w.heap.size,0,none⟩)]) (lC a.last m.err) hA2 (by have:=bO.len;omega) (λx=>Nat.le_trans (yn _ _ _) (by decide)) (λargs W=>by kernel_rfl) (λx W hW=>FO x (((hb2.frm hW id).cell 8).trans rfl) (((hb1.frm hW id).cell 0).trans rfl) (((hA2.blk.frm hW id).cell 1).trans rfl)));have HA:=h_ (And.intro hA2 (And.intro hf2 hG));rw[hw2] at KG;have HW:=h_ hw2;generalize kq (lC a.last m.err) a.ws=ws at *;clear h bO hG hf2 hb1 hb2 hA2 hw2;go_enter Tryz.func64,Tryz.ntmps64;go_wp2_with (first|(go_at_call 117;refine KG.out.mono ?_;rintro e w3 ⟨rfl,A,c,W,hr,rfl⟩;rw[←HW.out] at hr;have HR:=h_ hr;clear hr)|fail);go_ret;exact bi.up HA.out.2.1 (bi.go (ok:=_) (by simp) HA.out.1 (λk hk=>HA.out.2.2 k (Nat.le_trans HA.out.2.1.size hk)) HR.out)
theorem FX(h:dZ w g G Aa ca Aw cw a)(bO:lz a)(hG:∀k,w.heap.size≤k→G k):
  Calls pQ 65 #[O (some ⟨g,0,none⟩),.agg #[I J m.kind,I J m.ev.kind,I J m.ev.a,I J m.ev.b,I J m.ev.n,V m.ev.s,V m.ev.t,V m.ev.u,I J m.err,I J m.last,I J m.snap,I J m.st.clock,U fo.1 m.st.fols.length fo.2,U fe.1 m.st.fees.length fe.2,U it.1 m.st.itms.length it.2,U se.1 m.st.seas.length se.2,I J m.st.tFol,I J m.st.tFee,I J m.st.tItm,I J m.st.tSea]] w (bi w g G (lD a (kq (gl a.last m.err) a.ws))):=by
 obtain⟨w2,hw2⟩:∃w2,w2=(w.alloc (.cells #[O (some ⟨g,0,none⟩)] 65)).alloc (.cells #[I J m.kind,I J m.ev.kind,I J m.ev.a,I J m.ev.b,I J m.ev.n,V m.ev.s,V m.ev.t,V m.ev.u,I J m.err,I J m.last,I J m.snap,I J m.st.clock,U fo.1 m.st.fols.length fo.2,U fe.1 m.st.fees.length fe.2,U it.1 m.st.itms.length it.2,U se.1 m.st.seas.length se.2,I J m.st.tFol,I J m.st.tFee,I J m.st.tItm,I J m.st.tSea] 44):=⟨_,rfl⟩;have hf2:aa ag w w2:=by rw[hw2];exact((fR w).alloc _).alloc _
 have hb1:aj w2 w.heap.size 65 #[O (some ⟨g,0,none⟩)]:=by rw[hw2];exact(aj.new w _ _).alloc _
 have hb2:aj w2 (w.heap.size+1) 44 #[I J m.kind,I J m.ev.kind,I J m.ev.a,I J m.ev.b,I J m.ev.n,V m.ev.s,V m.ev.t,V m.ev.u,I J m.err,I J m.last,I J m.snap,I J m.st.clock,U fo.1 m.st.fols.length fo.2,U fe.1 m.st.fees.length fe.2,U it.1 m.st.itms.length it.2,U se.1 m.st.seas.length se.2,I J m.st.tFol,I J m.st.tFee,I J m.st.tItm,I J m.st.tSea]:=by rw[hw2];have q:=aj.new (w.alloc (.cells #[O (some ⟨g,0,none⟩)] 65)) 44 #[I J m.kind,I J m.ev.kind,I J m.ev.a,I J m.ev.b,I J m.ev.n,V m.ev.s,V m.ev.t,V m.ev.u,I J m.err,I J m.last,I J m.snap,I J m.st.clock,U fo.1 m.st.fols.length fo.2,U fe.1 m.st.fees.length fe.2,U it.1 m.st.itms.length it.2,U se.1 m.st.seas.length se.2,I J m.st.tFol,I J m.st.tFee,I J m.st.tItm,I J m.st.tSea];simpa using q
 have hA2:=h.nix hf2;have KG:=h_ (rk (F:=125) (caps:=#[O (some ⟨w.heap.size,0,none⟩),O (some ⟨w.heap.size+1,0,none⟩)]) (gl a.last m.err) hA2 (by have:=bO.len;omega) (λx=>FN _ _ _) (λargs W=>by kernel_rfl) (λx W hW=>FU x (((hb1.frm hW id).cell 0).trans rfl) (((hA2.blk.frm hW id).cell 1).trans rfl) (((hb2.frm hW id).cell 8).trans rfl)));have HA:=h_ (And.intro hA2 (And.intro hf2 hG));rw[hw2] at KG;have HW:=h_ hw2;generalize kq (gl a.last m.err) a.ws=ws at *;clear h bO hG hf2 hb1 hb2 hA2 hw2;go_enter Tryz.func65,Tryz.ntmps65;go_wp2_with (first|(go_at_call 117;refine KG.out.mono ?_;rintro e w3 ⟨rfl,A,c,W,hr,rfl⟩;rw[←HW.out] at hr;have HR:=h_ hr;clear hr)|fail);go_ret;exact bi.up HA.out.2.1 (bi.go (ok:=_) (by simp) HA.out.1 (λk hk=>HA.out.2.2 k (Nat.le_trans HA.out.2.1.size hk)) HR.out)
theorem FY(h:dZ w g G Aa ca Aw cw a)(bO:lz a)(hm:jE w Gm fo fe it se ts m)(hG:∀k,w.heap.size≤k→G k)(h1:m.err=30)(h2:m.last=0)(h3:aN m=true):
  Calls pQ 62 #[O (some ⟨g,0,none⟩),.agg #[I J m.kind,I J m.ev.kind,I J m.ev.a,I J m.ev.b,I J m.ev.n,V m.ev.s,V m.ev.t,V m.ev.u,I J m.err,I J m.last,I J m.snap,I J m.st.clock,U fo.1 m.st.fols.length fo.2,U fe.1 m.st.fees.length fe.2,U it.1 m.st.itms.length it.2,U se.1 m.st.seas.length se.2,I J m.st.tFol,I J m.st.tFee,I J m.st.tItm,I J m.st.tSea]] w (bi w g G (lD a (kq (λw=>[⟨3,w.sure,w.snap⟩]) a.ws))):=by
 have KP:Hid (∀W,aa ag w W→Calls pQ 63 #[.agg #[I J m.kind,I J m.ev.kind,I J m.ev.a,I J m.ev.b,I J m.ev.n,V m.ev.s,V m.ev.t,V m.ev.u,I J m.err,I J m.last,I J m.snap,I J m.st.clock,U fo.1 m.st.fols.length fo.2,U fe.1 m.st.fees.length fe.2,U it.1 m.st.itms.length it.2,U se.1 m.st.seas.length se.2,I J m.st.tFol,I J m.st.tFee,I J m.st.tItm,I J m.st.tSea]] W λe w'=>e=.returned (.bool true)∧aa ag W w'):=λW hW=>by
  have q:=mC (hm.nix hW);rw[h3] at q;exact q
 have KG:Hid (∀W,aa ag w W→Calls pQ 117 #[O (some ⟨g,0,none⟩),.func (.func 121) #[] #[]] W λe w'=>e=.returned (.bool (decide (¬kq (λw=>[⟨3,w.sure,w.snap⟩]) a.ws=[])))∧∃A c W',aI 68 3 W W' (U A (kq (λw=>[⟨3,w.sure,w.snap⟩]) a.ws).length c) (kq (λw=>[⟨3,w.sure,w.snap⟩]) a.ws).length ((kq (λw=>[⟨3,w.sure,w.snap⟩]) a.ws).flatMap Wd.cells)∧w'=W'.setCell ⟨g,2,none⟩ (U A (kq (λw=>[⟨3,w.sure,w.snap⟩]) a.ws).length c)):=λW hW=>
  rk (F:=121) (caps:=#[]) (λw=>[⟨3,w.sure,w.snap⟩]) (h.nix hW) (by have:=bO.len;omega) (λx=>by simp) (λargs W=>by kernel_rfl) (λx W hW=>FP x)
 have e1:(m.err==30)=true:=beq_iff_eq.2 h1;have e2:(m.last==0)=true:=beq_iff_eq.2 h2;have HA:=h_ h;have HGG:=h_ hG;clear h bO hm hG h1 h2 h3;generalize kq (λw=>[⟨3,w.sure,w.snap⟩]) a.ws=ws at *;go_enter Tryz.func62,Tryz.ntmps62;go_wp2_with (first|(refine bj (l:=[I J m.kind,I J m.ev.kind,I J m.ev.a,I J m.ev.b,I J m.ev.n,V m.ev.s,V m.ev.t,V m.ev.u,I J m.err,I J m.last,I J m.snap,I J m.st.clock,U fo.1 m.st.fols.length fo.2,U fe.1 m.st.fees.length fe.2,U it.1 m.st.itms.length it.2,U se.1 m.st.seas.length se.2,I J m.st.tFol,I J m.st.tFee,I J m.st.tItm,I J m.st.tSea]) (aj.new w _ _) rfl _ rfl rfl rfl ?_)|(go_at_call 63;refine(KP.out _ ((fR w).alloc _)).mono ?_;rintro e w1 ⟨rfl,hf⟩;have Y1:Hid (aa ag w w1):=((fR w).alloc _).trans hf;clear hf)|(go_at_call 117;refine(KG.out _ Y1.out).mono ?_;rintro e w3 ⟨rfl,A,c,W,hr,rfl⟩;have HR:=h_ hr;clear hr)|fail);go_ret;exact bi.up Y1.out (bi.go (ok:=_) (by simp) (HA.out.nix Y1.out) (λk hk=>HGG.out k (Nat.le_trans Y1.out.size hk)) HR.out)
theorem M9{Q:Exit→Act→World→Prop}{wa:World}{g bm k n ca:Nat}{c1 c2:Value}
  (hb:aj wa g 71 #[U Aa n ca,c1,c2]) (h9:wa.cell? ⟨bm,9,none⟩=some (I J k)) (hne:bm≠g) (hk:k≤n) (Ci:n≤ca) (hcm:ca≤maxLen)
  {u1 u2 u4 u5 u6 u7 u8 u9 u10 u11 u12 u13 u14 u15 u16 cG cH cI cR cS cT u23 u24 cN u26 dc u28 dm dp dr u32 u33 df dg u36 dt u38 dB dC dO dP dQ u44 u45 dI dJ dK dL dD dE dF dR dS dT dM dG dH dw dx dy dz dA u64 dh di dl cU cX fA fB fF fG fw:Value} (hP:∀(e:_) (a:Act) (i:Nat) (v:Value) (w:World),Q (.panic e) (a.put (some i) v) w→Q (.panic e) a w) (hQ:∀(z62:Value),Q .normal ⟨#[O (some ⟨g,0,none⟩),u1,u2,O (some ⟨bm,0,none⟩),u4,u5,u6,u7,u8,u9,u10,u11,u12,u13,u14,u15,u16,cG,cH,cI,cR,cS,cT,u23,u24,cN,u26,dc,u28,dm,dp,dr,u32,u33,df,dg,u36,dt,u38,dB,dC,dO,dP,dQ,u44,u45,dI,dJ,dK,dL,dD,dE,dF,dR,dS,dT,dM,O (some ⟨g,0,none⟩),O (some ⟨g,0,none⟩),O (some ⟨g,0,none⟩),O (some ⟨g,0,none⟩),O (some ⟨g,0,none⟩),z62,O (some ⟨bm,9,none⟩),I J k,O (some ⟨bm,9,none⟩),I J k,U Aa k k,O (some ⟨bm,9,none⟩),I J k,O (some ⟨g,0,none⟩),O (some ⟨g,0,none⟩),O (some ⟨g,0,none⟩),O (some ⟨g,1,none⟩),fw],[]⟩ ((wa.drew.setCell ⟨g,0,none⟩ (U Aa k k)).setCell ⟨g,1,none⟩ (I J k))):
  Code.wp pQ (bH (ap (aD (ai 4 (ae Tryz.f62))))) Q ⟨#[O (some ⟨g,0,none⟩),u1,u2,O (some ⟨bm,0,none⟩),u4,u5,u6,u7,u8,u9,u10,u11,u12,u13,u14,u15,u16,cG,cH,cI,cR,cS,cT,u23,u24,cN,u26,dc,u28,dm,dp,dr,u32,u33,df,dg,u36,dt,u38,dB,dC,dO,dP,dQ,u44,u45,dI,dJ,dK,dL,dD,dE,dF,dR,dS,dT,dM,dG,dH,dw,dx,dy,dz,dA,u64,dh,di,dl,cU,cX,fA,fB,fF,fG,fw],[]⟩ wa:=by
 have HST:Hid (∀(W:World) (i:Nat) (v:Value),(W.cell? ⟨bm,9,none⟩=some (I J k))→(λW:World=>W.cell? ⟨bm,9,none⟩=some (I J k)) (W.setCell ⟨g,i,none⟩ v)):=λW i v q=>(World.cell?_setCell_far _ _ _ _ (Ne.symm hne)).trans q
 have p1:=(hb.cell 0).trans rfl;have p2:=hb.frozen 0;have p3:=(hb.cell 1).trans rfl;have p4:=hb.frozen 1;have FB:(0:Int)≤(k:Int):=Int.natCast_nonneg _;have FC:(k:Int)≤(ca:Int):=by omega
 have FD:(k:Int)≤(n:Int):=by omega
 have HQ:=h_ hQ;have HP:=h_ hP;clear hb hP hQ;simp only[aD,ap,bH,aT,bM,ai,ae,Tryz.f62];refine wp_region_held_drew (S:=λW=>W.cell? ⟨bm,9,none⟩=some (I J k)) (by kernel_rfl) h9 λhH=>?_
 refine tk (i:=0) HP rfl rfl hH ?_
 try simp only[lt]
 refine tk (i:=1) HP rfl rfl hH ?_
 try simp only[lt]
 refine tk (i:=2) HP rfl rfl hH ?_
 try simp only[lt]
 refine tk (i:=3) HP rfl rfl hH ?_
 try simp only[lt]
 refine tk (i:=4) HP rfl rfl hH ?_
 try simp only[lt]
 refine tk (i:=6) HP rfl rfl hH ?_
 try simp only[lt]
 refine tk (i:=7) HP rfl rfl hH ?_
 try simp only[lt]
 refine tk (i:=8) HP rfl rfl hH ?_
 try simp only[lt]
 refine tk (i:=9) HP rfl rfl hH ?_
 try simp only[lt]
 refine tk (i:=11) HP rfl rfl hH ?_
 try simp only[lt]
 refine tk (i:=12) HP rfl rfl hH ?_
 try simp only[lt]
 refine aw (i:=5) rfl (λK hK=>?_);go_simp;refine hK.out _ _ hH (λhH=>?_);clear hK K
 try simp only[lt]
 refine tk (i:=10) HP rfl rfl hH ?_
 try simp only[lt]
 refine tk (i:=13) HP rfl rfl hH ?_
 try simp only[lt]
 refine tk (i:=14) HP rfl rfl hH ?_
 try simp only[lt]
 refine aw (i:=15) rfl (λK hK=>?_);go_simp;refine hK.out _ _ (HST.out _ _ _ hH) (λhH=>?_);clear hK K
 try simp only[lt]
 refine tk (i:=16) HP rfl rfl hH ?_
 try simp only[lt]
 refine tk (i:=17) HP rfl rfl hH ?_
 try simp only[lt]
 refine aw (i:=18) rfl (λK hK=>?_);go_simp;refine hK.out _ _ (HST.out _ _ _ hH) (λhH=>?_);clear hK K
 try simp only[lt]
 refine wpAnyH_done (by kernel_rfl) ?_ _;exact HQ.out _
theorem O1(h:dZ wc g G Aa ca Aw cw a)(bO:lz a)(hm:aj wc bm 44 #[I J m.kind,I J m.ev.kind,I J m.ev.a,I J m.ev.b,I J m.ev.n,V m.ev.s,V m.ev.t,V m.ev.u,I J m.err,I J m.last,I J m.snap,I J m.st.clock,U fo.1 m.st.fols.length fo.2,U fe.1 m.st.fees.length fe.2,U it.1 m.st.itms.length it.2,U se.1 m.st.seas.length se.2,I J m.st.tFol,I J m.st.tFee,I J m.st.tItm,I J m.st.tSea])(hF:aa (·=g) w wc)(hk:m.last=k)(cQ:k≤a.all.length)(hG:∀k,wc.heap.size≤k→G k):
  Code.wp pQ (ai 3 (ae Tryz.f62)) (bodyPost pQ Tryz.f62 λe w'=>bi w g G (if kq (l9 m.last m.snap) a.ws=[] then none else some ⟨a.all.take k,k,kq (l9 m.last m.snap) a.ws⟩) e w') ⟨#[O (some ⟨g,0,none⟩),u1,u2,O (some ⟨bm,0,none⟩),.bool false,u5,u6,u7,u8,u9,u10,u11,u12,u13,u14,u15,u16,cG,cH,cI,cR,cS,cT,u23,u24,cN,u26,dc,u28,dm,dp,dr,u32,u33,df,dg,u36,dt,u38,dB,dC,dO,dP,dQ,u44,u45,dI,dJ,dK,dL,dD,dE,dF,dR,dS,dT,dM,dG,dH,dw,dx,dy,dz,dA,u64,dh,di,dl,cU,cX,fA,fB,fF,fG,fw],[]⟩ wc:=by
 have KG:=h_ (rk (F:=123) (caps:=#[O (some ⟨bm,0,none⟩)]) (l9 m.last m.snap) h (by have:=bO.len;omega) (λx=>Nat.le_trans (mz _ _) (by decide)) (λargs W=>by kernel_rfl) (λx W hW=>FQ x (((hm.frm hW id).cell 9).trans rfl) (((hm.frm hW id).cell 10).trans rfl)));have HA:=h_ h;have HM:=h_ hm;have HX:=h_ (And.intro hF (And.intro hk (And.intro cQ hG)));clear h bO hm hF hk cQ hG;generalize kq (l9 m.last m.snap) a.ws=ws at *
 by_cases hc:ws=[]
 ·rw[if_pos hc]
  rw[decide_eq_false (λh=>h hc)] at KG;have HC:=h_ hc;clear hc;refine aC (k':=4) λK hK=>?_
  conv in aD _=>whnf
  go_wp2_with (first|(go_at_call 117;refine KG.out.mono ?_;rintro e w3 ⟨rfl,A,c,W,hr,rfl⟩;have HR:=h_ hr;clear hr)|fail);simp only[ai,ae,Tryz.f62];go_wp2;go_ret;exact⟨rfl,(HX.out.1.more HR.out.frm).setCell (.inl rfl) _,λb hb=>by cases hb⟩
 ·rw[if_neg hc]
  rw[decide_eq_true hc] at KG;have HC:=h_ hc;clear hc;refine aC (k':=4) λK hK=>?_
  conv in aD _=>whnf
  go_wp2_with (first|(go_at_call 117;refine KG.out.mono ?_;rintro e w3 ⟨rfl,A,c,W,hr,rfl⟩;have HR:=h_ hr;clear hr)|fail);have hA2:=HA.out.setWs HX.out.2.2.2 HR.out;have hne:bm≠g:=HM.out.ne_ HA.out.blk (by decide);have h9:=(((HM.out.frm HR.out.frm id).far (p:=⟨g,2,none⟩) hne (U A ws.length c)).cell 9).trans rfl;have HA2:=h_ hA2
  have H9:Hid ((W.setCell ⟨g,2,none⟩ (U A ws.length c)).cell? ⟨bm,9,none⟩=some (I J k)):=by
   rw[←HX.out.2.1];exact h9
  clear hA2 h9;simp only[ai,ae,Tryz.f62];go_wp2;refine M9 (n:=a.all.length) HA2.out.blk H9.out hne HX.out.2.2.1 HA.out.all.cap HA.out.all.max ?_ (λz62=>?_)
  ·exact λ_ _ _ _ _ h=>h
  go_wp2;go_ret;refine⟨rfl,(((HX.out.1.more HR.out.frm).setCell (.inl rfl) _).drew.setCell (.inl rfl) _).setCell (.inl rfl) _,λb hb=>?_⟩;injection hb with hb;subst hb;exact⟨_,_,_,_,(HA2.out.nix (fR _).drew).setBoth HX.out.2.2.1⟩
def oo(a:Au)(m:Mv):Option Au:=(if m.err≠0∨m.last<0∨(a.all.length:Int)<m.last then none else if m.st≠bG iV (a.all.take m.last.toNat) then none else if kq (l9 m.last m.snap) a.ws=[] then none else some ⟨a.all.take m.last.toNat,m.last.toNat,kq (l9 m.last m.snap) a.ws⟩)
theorem IP(h:dZ wc g G Aa ca Aw cw a)(bO:lz a)(hn:a.all.length≤10000)(FZ:jE wc Gm fo fe it se ts m)(hm:aj wc bm 44 #[I J m.kind,I J m.ev.kind,I J m.ev.a,I J m.ev.b,I J m.ev.n,V m.ev.s,V m.ev.t,V m.ev.u,I J m.err,I J m.last,I J m.snap,I J m.st.clock,U fo.1 m.st.fols.length fo.2,U fe.1 m.st.fees.length fe.2,U it.1 m.st.itms.length it.2,U se.1 m.st.seas.length se.2,I J m.st.tFol,I J m.st.tFee,I J m.st.tItm,I J m.st.tSea])(hF:aa (·=g) w wc)(hG:∀k,wc.heap.size≤k→G k):
  Code.wp pQ (ai 2 (ae Tryz.f62)) (bodyPost pQ Tryz.f62 λe w'=>bi w g G (oo a m) e w') ⟨#[O (some ⟨g,0,none⟩),u1,u2,O (some ⟨bm,0,none⟩),.bool false,u5,u6,u7,u8,u9,u10,u11,u12,u13,u14,u15,u16,cG,cH,cI,cR,cS,cT,u23,u24,cN,u26,dc,u28,dm,dp,dr,u32,u33,df,dg,u36,dt,u38,dB,dC,dO,dP,dQ,u44,u45,dI,dJ,dK,dL,dD,dE,dF,dR,dS,dT,dM,dG,dH,dw,dx,dy,dz,dA,u64,dh,di,dl,cU,cX,fA,fB,fF,fG,fw],[]⟩ wc:=by
 obtain⟨n,d9⟩:∃n,a.all.length=n:=⟨_,rfl⟩;have HCm:Hid (∀W,aa ag wc W→W.cell? ⟨bm,8,none⟩=some (I J m.err)∧W.cell? ⟨bm,9,none⟩=some (I J m.last)∧W.cell? ⟨g,0,none⟩=some (U Aa n ca)∧W.cell? ⟨bm,11,none⟩=some (I J m.st.clock)∧W.cell? ⟨bm,12,none⟩=some (U fo.1 m.st.fols.length fo.2)∧W.cell? ⟨bm,13,none⟩=some (U fe.1 m.st.fees.length fe.2)∧W.cell? ⟨bm,14,none⟩=some (U it.1 m.st.itms.length it.2)∧W.cell? ⟨bm,15,none⟩=some (U se.1 m.st.seas.length se.2)∧W.cell? ⟨bm,16,none⟩=some (I J m.st.tFol)∧W.cell? ⟨bm,17,none⟩=some (I J m.st.tFee)∧W.cell? ⟨bm,18,none⟩=some (I J m.st.tItm)∧W.cell? ⟨bm,19,none⟩=some (I J m.st.tSea)):=λW hW=>⟨((hm.frm hW id).cell 8).trans rfl,((hm.frm hW id).cell 9).trans rfl,by rw[←d9];exact((h.blk.frm hW id).cell 0).trans rfl,((hm.frm hW id).cell 11).trans rfl,((hm.frm hW id).cell 12).trans rfl,((hm.frm hW id).cell 13).trans rfl,((hm.frm hW id).cell 14).trans rfl,((hm.frm hW id).cell 15).trans rfl,((hm.frm hW id).cell 16).trans rfl,((hm.frm hW id).cell 17).trans rfl,((hm.frm hW id).cell 18).trans rfl,((hm.frm hW id).cell 19).trans rfl⟩
 have cy8:∀y:FW (aa ag wc),y.w.cell? ⟨bm,8,none⟩=some (I J m.err):=λy=>(HCm.out y.w y.h).1
 have cy9:∀y:FW (aa ag wc),y.w.cell? ⟨bm,9,none⟩=some (I J m.last):=λy=>(HCm.out y.w y.h).2.1
 have cyg:∀y:FW (aa ag wc),y.w.cell? ⟨g,0,none⟩=some (U Aa n ca):=λy=>(HCm.out y.w y.h).2.2.1
 have HA:=h_ h;have HM:=h_ hm;have HF:=h_ hF;have HX:=h_ (And.intro bO hG)
 by_cases c1:m.err=0
 ·have e1:(m.err !=0)=false:=by simp[c1]
  by_cases c2:m.last<0
  ·have HN:Hid ((oo a m)=none):=if_pos (.inr (.inl c2))
   have d2:decide (m.last<0)=true:=decide_eq_true c2;clear h bO hn FZ hm hF hG c1;refine aC (k':=3) λK hK=>?_
   conv in aD _=>whnf
   go_wp2;refine ak (aa ag wc) ((fR wc).drew) (by kernel_rfl) (by kernel_rfl) ?_
   repeat (go_big_quiet_step (fail))
   refine wpQuiet_nil ?_;rintro w5 ⟨⟨_,rq⟩,rfl⟩;go_wp2;go_ret;exact⟨by rw[HN.out];rfl,HF.out.more rq,λb hb=>by rw[HN.out] at hb;cases hb⟩
  ·by_cases c3:(n:Int)<m.last
   ·have HN:Hid ((oo a m)=none):=if_pos (.inr (.inr (by rw[d9];exact c3)))
    have d2:decide (m.last<0)=false:=decide_eq_false c2;have d3:decide ((n:Int)<m.last)=true:=decide_eq_true c3;clear h bO hn FZ hm hF hG c1;refine aC (k':=3) λK hK=>?_
    conv in aD _=>whnf
    go_wp2;refine ak (aa ag wc) ((fR wc).drew) (by kernel_rfl) (by kernel_rfl) ?_
    repeat (go_big_quiet_step (fail))
    refine wpQuiet_nil ?_;rintro w5 ⟨⟨_,rq⟩,rfl⟩;go_wp2;go_ret;exact⟨by rw[HN.out];rfl,HF.out.more rq,λb hb=>by rw[HN.out] at hb;cases hb⟩
   ·obtain⟨k,hk⟩:∃k:Nat,m.last=k:=⟨m.last.toNat,by omega⟩
    have hkn:k≤n:=by omega
    have htn:m.last.toNat=k:=by omega
    have HRe:Hid ((oo a m)=if m.st≠bG iV (a.all.take k) then none else if kq (l9 m.last m.snap) a.ws=[] then none else some ⟨a.all.take k,k,kq (l9 m.last m.snap) a.ws⟩):=by
     unfold Hid oo;rw[if_neg (λhh=>by rcases hh with hh|hh|hh<;>omega),htn]
    have HCk:Hid (∀W,aa ag wc W→W.cell? ⟨bm,8,none⟩=some (I J m.err)∧W.cell? ⟨bm,9,none⟩=some (I J k)∧W.cell? ⟨g,0,none⟩=some (U Aa n ca)∧W.cell? ⟨bm,11,none⟩=some (I J m.st.clock)∧W.cell? ⟨bm,12,none⟩=some (U fo.1 m.st.fols.length fo.2)∧W.cell? ⟨bm,13,none⟩=some (U fe.1 m.st.fees.length fe.2)∧W.cell? ⟨bm,14,none⟩=some (U it.1 m.st.itms.length it.2)∧W.cell? ⟨bm,15,none⟩=some (U se.1 m.st.seas.length se.2)∧W.cell? ⟨bm,16,none⟩=some (I J m.st.tFol)∧W.cell? ⟨bm,17,none⟩=some (I J m.st.tFee)∧W.cell? ⟨bm,18,none⟩=some (I J m.st.tItm)∧W.cell? ⟨bm,19,none⟩=some (I J m.st.tSea)):=λW hW=>by have q:=HCm.out W hW;rw[hk] at q;exact q
    have KF:Hid (∀W,aa ag wc W→Calls pQ 19 #[U Aa k ca] W λe w'=>∃gs M,e=.returned (O (some ⟨gs,0,none⟩))∧aH w' gs M (bG iV (a.all.take k))∧aa ag W w'∧∀k,SF gs M k→W.heap.size≤k):=λW hW=>by
     have q:=wL (a.all.take k) (EvsAll.first (h.all.nix hW) (by omega)) (λe he=>h.num e (List.mem_of_mem_take he)) (by rw[List.length_take];omega);rw[List.length_take,Nat.min_eq_left (by omega)] at q;exact q
    have KS:Hid (∀W,aa ag wc W→∀fo2 fe2 it2 se2 Gq,aY W (λ_=>True) fo2 fe2 it2 se2 Gq (bG iV (a.all.take k))→Calls pQ 122 #[.agg #[I J m.st.clock,U fo.1 m.st.fols.length fo.2,U fe.1 m.st.fees.length fe.2,U it.1 m.st.itms.length it.2,U se.1 m.st.seas.length se.2,I J m.st.tFol,I J m.st.tFee,I J m.st.tItm,I J m.st.tSea],.agg #[I J (bG iV (a.all.take k)).clock,U fo2.1 (bG iV (a.all.take k)).fols.length fo2.2,U fe2.1 (bG iV (a.all.take k)).fees.length fe2.2,U it2.1 (bG iV (a.all.take k)).itms.length it2.2,U se2.1 (bG iV (a.all.take k)).seas.length se2.2,I J (bG iV (a.all.take k)).tFol,I J (bG iV (a.all.take k)).tFee,I J (bG iV (a.all.take k)).tItm,I J (bG iV (a.all.take k)).tSea]] W λe w'=>e=.returned (.bool (decide (m.st=bG iV (a.all.take k))))∧aa ag W w'):=λW hW fo2 fe2 it2 se2 Gq h2=>Bb (FZ.st.nix hW) h2 FZ.small (sZ _ ud).small
    have cm:n≤ca:=by have:=h.all.cap;simp only at this;omega
    have hmx:ca≤maxLen:=h.all.max;have hnil:Aa=none→ca=0:=h.all.nil;have HK:=h_ (And.intro hk (And.intro hkn d9));clear h bO hn FZ hm hF hG c1 c2 c3 htn d9 hk cy8 cy9 cyg;rw[HRe.out];generalize bG iV (a.all.take k)=x at *;have wJ:(0:Int)≤(k:Int):=by omega
    have I5:(k:Int)≤(ca:Int):=by omega
    have Il:(k:Int)≤(n:Int):=by omega
    have hi4:(n:Int)≤(ca:Int):=by omega
    have d2:decide ((k:Int)<0)=false:=decide_eq_false (by omega);have d3:decide ((n:Int)<(k:Int))=false:=decide_eq_false (by omega);have d4:decide (n<k)=false:=decide_eq_false (by omega)
    by_cases c4:m.st=x
    ·rw[if_neg (λhh=>hh c4)]
     rw[decide_eq_true c4] at KS;have J5:=h_ c4;clear c4;refine aC (k':=3) λK hK=>?_
     conv in aD _=>whnf
     go_wp2
     go_region_held3 (λW=>W.cell? ⟨bm,8,none⟩=some (I J m.err)∧W.cell? ⟨bm,9,none⟩=some (I J k)∧W.cell? ⟨g,0,none⟩=some (U Aa n ca)∧W.cell? ⟨bm,11,none⟩=some (I J m.st.clock)∧W.cell? ⟨bm,12,none⟩=some (U fo.1 m.st.fols.length fo.2)∧W.cell? ⟨bm,13,none⟩=some (U fe.1 m.st.fees.length fe.2)∧W.cell? ⟨bm,14,none⟩=some (U it.1 m.st.itms.length it.2)∧W.cell? ⟨bm,15,none⟩=some (U se.1 m.st.seas.length se.2)∧W.cell? ⟨bm,16,none⟩=some (I J m.st.tFol)∧W.cell? ⟨bm,17,none⟩=some (I J m.st.tFee)∧W.cell? ⟨bm,18,none⟩=some (I J m.st.tItm)∧W.cell? ⟨bm,19,none⟩=some (I J m.st.tSea)) ((refine HCk.out _ ?_;first|exact(fR wc).drew|exact Y1.out|exact Y2.out|exact Y3.out)) (first
       | (go_at_call 19;refine(KF.out _ (fR wc).drew).mono ?_;rintro e w1 ⟨gs,M,rfl,hs,hf,-⟩;have I3:=h_ hs;have Y1:Hid (aa ag wc w1):=(fR wc).drew.trans hf;clear hs hf)
       | (go_at_call 23;refine(Bu I3.out).mono ?_;rintro e w2 ⟨fo2,fe2,it2,se2,Gq,rfl,hd,hf⟩;have MH:=h_ hd;have Y2:Hid (aa ag wc w2):=Y1.out.trans hf;clear hd hf)
       | (go_at_call 122;refine(KS.out _ Y2.out _ _ _ _ _ (MH.out.mono λ_ _=>trivial)).mono ?_;rintro e w3 ⟨rfl,hf⟩;have Y3:Hid (aa ag wc w3):=Y2.out.trans hf;clear hf))
     all_goals
      go_wp2;exact O1 (HA.out.nix Y3.out) HX.out.1 (HM.out.frm Y3.out id) (HF.out.more Y3.out) HK.out.1 (by have:=HK.out.2.1;have:=HK.out.2.2;omega) (λj hj=>HX.out.2 j (Nat.le_trans Y3.out.size hj))
    ·rw[if_pos c4]
     rw[decide_eq_false c4] at KS;have J5:=h_ c4;clear c4;refine aC (k':=3) λK hK=>?_
     conv in aD _=>whnf
     go_wp2
     go_region_held3 (λW=>W.cell? ⟨bm,8,none⟩=some (I J m.err)∧W.cell? ⟨bm,9,none⟩=some (I J k)∧W.cell? ⟨g,0,none⟩=some (U Aa n ca)∧W.cell? ⟨bm,11,none⟩=some (I J m.st.clock)∧W.cell? ⟨bm,12,none⟩=some (U fo.1 m.st.fols.length fo.2)∧W.cell? ⟨bm,13,none⟩=some (U fe.1 m.st.fees.length fe.2)∧W.cell? ⟨bm,14,none⟩=some (U it.1 m.st.itms.length it.2)∧W.cell? ⟨bm,15,none⟩=some (U se.1 m.st.seas.length se.2)∧W.cell? ⟨bm,16,none⟩=some (I J m.st.tFol)∧W.cell? ⟨bm,17,none⟩=some (I J m.st.tFee)∧W.cell? ⟨bm,18,none⟩=some (I J m.st.tItm)∧W.cell? ⟨bm,19,none⟩=some (I J m.st.tSea)) ((refine HCk.out _ ?_;first|exact(fR wc).drew|exact Y1.out|exact Y2.out|exact Y3.out)) (first
       | (go_at_call 19;refine(KF.out _ (fR wc).drew).mono ?_;rintro e w1 ⟨gs,M,rfl,hs,hf,-⟩;have I3:=h_ hs;have Y1:Hid (aa ag wc w1):=(fR wc).drew.trans hf;clear hs hf)
       | (go_at_call 23;refine(Bu I3.out).mono ?_;rintro e w2 ⟨fo2,fe2,it2,se2,Gq,rfl,hd,hf⟩;have MH:=h_ hd;have Y2:Hid (aa ag wc w2):=Y1.out.trans hf;clear hd hf)
       | (go_at_call 122;refine(KS.out _ Y2.out _ _ _ _ _ (MH.out.mono λ_ _=>trivial)).mono ?_;rintro e w3 ⟨rfl,hf⟩;have Y3:Hid (aa ag wc w3):=Y2.out.trans hf;clear hf))
     all_goals
      go_wp2;go_ret;exact⟨rfl,HF.out.more Y3.out,λb hb=>by cases hb⟩
 ·have e1:(m.err !=0)=true:=by simp[c1]
  have HN:Hid ((oo a m)=none):=if_pos (.inl c1);clear h bO hn FZ hm hF hG c1;refine aC (k':=3) λK hK=>?_
  conv in aD _=>whnf
  go_wp2;refine ak (aa ag wc) ((fR wc).drew) (by kernel_rfl) (by kernel_rfl) ?_
  repeat (go_big_quiet_step (fail))
  refine wpQuiet_nil ?_;rintro w5 ⟨⟨_,rq⟩,rfl⟩;go_wp2;go_ret;exact⟨by rw[HN.out];rfl,HF.out.more rq,λb hb=>by rw[HN.out] at hb;cases hb⟩
theorem F0(h:dZ w g G Aa ca Aw cw a)(bO:lz a)(hm:jE w Gm fo fe it se ts m)(hn:a.all.length≤10000)(hG:∀k,w.heap.size≤k→G k):
  Calls pQ 62 #[O (some ⟨g,0,none⟩),.agg #[I J m.kind,I J m.ev.kind,I J m.ev.a,I J m.ev.b,I J m.ev.n,V m.ev.s,V m.ev.t,V m.ev.u,I J m.err,I J m.last,I J m.snap,I J m.st.clock,U fo.1 m.st.fols.length fo.2,U fe.1 m.st.fees.length fe.2,U it.1 m.st.itms.length it.2,U se.1 m.st.seas.length se.2,I J m.st.tFol,I J m.st.tFee,I J m.st.tItm,I J m.st.tSea]] w (bi w g G (rj a m)):=by
 by_cases hd:m.err=30∧m.last=0∧aN m=true
 ·unfold rj
  rw[if_pos hd];exact FY h bO hm hG hd.1 hd.2.1 hd.2.2
 ·have HE:Hid (rj a m=(oo a m)):=if_neg hd
  rw[HE.out];have KP:Hid (∀W,aa ag w W→Calls pQ 63 #[.agg #[I J m.kind,I J m.ev.kind,I J m.ev.a,I J m.ev.b,I J m.ev.n,V m.ev.s,V m.ev.t,V m.ev.u,I J m.err,I J m.last,I J m.snap,I J m.st.clock,U fo.1 m.st.fols.length fo.2,U fe.1 m.st.fees.length fe.2,U it.1 m.st.itms.length it.2,U se.1 m.st.seas.length se.2,I J m.st.tFol,I J m.st.tFee,I J m.st.tItm,I J m.st.tSea]] W λe w'=>e=.returned (.bool (aN m))∧aa ag W w'):=λW hW=>mC (hm.nix hW)
  have HA:=h_ h;have HX:=h_ (And.intro bO (And.intro hn (And.intro hm hG)));clear h bO hm hn hG HE
  by_cases c1:m.err=30
  ·have e1:(m.err==30)=true:=beq_iff_eq.2 c1
   by_cases c2:m.last=0
   ·have e2:(m.last==0)=true:=beq_iff_eq.2 c2
    have hp:aN m=false:=by
     cases hp:aN m
     ·rfl
     ·exact absurd ⟨c1,c2,hp⟩ hd
    rw[hp] at KP;clear c1 c2 hd hp;go_enter Tryz.func62,Tryz.ntmps62;show Code.wp pQ (ai 0 (ae Tryz.f62)) _ _ _
    refine aC (k':=1) λK hK=>?_
    conv in aD _=>whnf
    go_wp2;refine aC (k':=2) λK hK=>?_
    conv in aD _=>whnf
    go_wp2_with (first|(refine bj (l:=[I J m.kind,I J m.ev.kind,I J m.ev.a,I J m.ev.b,I J m.ev.n,V m.ev.s,V m.ev.t,V m.ev.u,I J m.err,I J m.last,I J m.snap,I J m.st.clock,U fo.1 m.st.fols.length fo.2,U fe.1 m.st.fees.length fe.2,U it.1 m.st.itms.length it.2,U se.1 m.st.seas.length se.2,I J m.st.tFol,I J m.st.tFee,I J m.st.tItm,I J m.st.tSea]) (aj.new w _ _) rfl _ rfl rfl rfl ?_)|(go_at_call 63;refine(KP.out _ ((fR w).alloc _)).mono ?_;rintro e w1 ⟨rfl,hf⟩;have Y1:=h_ hf;clear hf)|fail);exact IP (HA.out.nix (((fR w).alloc _).trans Y1.out)) HX.out.1 HX.out.2.1 (HX.out.2.2.1.nix (((fR w).alloc _).trans Y1.out)) ((aj.new w 44 #[I J m.kind,I J m.ev.kind,I J m.ev.a,I J m.ev.b,I J m.ev.n,V m.ev.s,V m.ev.t,V m.ev.u,I J m.err,I J m.last,I J m.snap,I J m.st.clock,U fo.1 m.st.fols.length fo.2,U fe.1 m.st.fees.length fe.2,U it.1 m.st.itms.length it.2,U se.1 m.st.seas.length se.2,I J m.st.tFol,I J m.st.tFee,I J m.st.tItm,I J m.st.tSea]).frm Y1.out id) (((fR w).alloc _).trans Y1.out).nix (λj hj=>HX.out.2.2.2 j (Nat.le_trans (((fR w).alloc _).trans Y1.out).size hj))
   ·have e2:(m.last==0)=false:=beq_eq_false_iff_ne.2 c2
    clear c1 c2 hd;go_enter Tryz.func62,Tryz.ntmps62;show Code.wp pQ (ai 0 (ae Tryz.f62)) _ _ _
    refine aC (k':=1) λK hK=>?_
    conv in aD _=>whnf
    go_wp2;refine aC (k':=2) λK hK=>?_
    conv in aD _=>whnf
    go_wp2_with (first|(refine bj (l:=[I J m.kind,I J m.ev.kind,I J m.ev.a,I J m.ev.b,I J m.ev.n,V m.ev.s,V m.ev.t,V m.ev.u,I J m.err,I J m.last,I J m.snap,I J m.st.clock,U fo.1 m.st.fols.length fo.2,U fe.1 m.st.fees.length fe.2,U it.1 m.st.itms.length it.2,U se.1 m.st.seas.length se.2,I J m.st.tFol,I J m.st.tFee,I J m.st.tItm,I J m.st.tSea]) (aj.new w _ _) rfl _ rfl rfl rfl ?_)|(go_at_call 63;refine(KP.out _ ((fR w).alloc _)).mono ?_;rintro e w1 ⟨rfl,hf⟩;have Y1:=h_ hf;clear hf)|fail);exact IP (HA.out.nix ((fR w).alloc _)) HX.out.1 HX.out.2.1 (HX.out.2.2.1.nix ((fR w).alloc _)) ((aj.new w 44 #[I J m.kind,I J m.ev.kind,I J m.ev.a,I J m.ev.b,I J m.ev.n,V m.ev.s,V m.ev.t,V m.ev.u,I J m.err,I J m.last,I J m.snap,I J m.st.clock,U fo.1 m.st.fols.length fo.2,U fe.1 m.st.fees.length fe.2,U it.1 m.st.itms.length it.2,U se.1 m.st.seas.length se.2,I J m.st.tFol,I J m.st.tFee,I J m.st.tItm,I J m.st.tSea])) ((fR w).alloc _).nix (λj hj=>HX.out.2.2.2 j (Nat.le_trans ((fR w).alloc _).size hj))
  ·have e1:(m.err==30)=false:=beq_eq_false_iff_ne.2 c1
   clear c1 hd;go_enter Tryz.func62,Tryz.ntmps62;show Code.wp pQ (ai 0 (ae Tryz.f62)) _ _ _
   refine aC (k':=1) λK hK=>?_
   conv in aD _=>whnf
   go_wp2;refine aC (k':=2) λK hK=>?_
   conv in aD _=>whnf
   go_wp2_with (first|(refine bj (l:=[I J m.kind,I J m.ev.kind,I J m.ev.a,I J m.ev.b,I J m.ev.n,V m.ev.s,V m.ev.t,V m.ev.u,I J m.err,I J m.last,I J m.snap,I J m.st.clock,U fo.1 m.st.fols.length fo.2,U fe.1 m.st.fees.length fe.2,U it.1 m.st.itms.length it.2,U se.1 m.st.seas.length se.2,I J m.st.tFol,I J m.st.tFee,I J m.st.tItm,I J m.st.tSea]) (aj.new w _ _) rfl _ rfl rfl rfl ?_)|(go_at_call 63;refine(KP.out _ ((fR w).alloc _)).mono ?_;rintro e w1 ⟨rfl,hf⟩;have Y1:=h_ hf;clear hf)|fail);exact IP (HA.out.nix ((fR w).alloc _)) HX.out.1 HX.out.2.1 (HX.out.2.2.1.nix ((fR w).alloc _)) ((aj.new w 44 #[I J m.kind,I J m.ev.kind,I J m.ev.a,I J m.ev.b,I J m.ev.n,V m.ev.s,V m.ev.t,V m.ev.u,I J m.err,I J m.last,I J m.snap,I J m.st.clock,U fo.1 m.st.fols.length fo.2,U fe.1 m.st.fees.length fe.2,U it.1 m.st.itms.length it.2,U se.1 m.st.seas.length se.2,I J m.st.tFol,I J m.st.tFee,I J m.st.tItm,I J m.st.tSea])) ((fR w).alloc _).nix (λj hj=>HX.out.2.2.2 j (Nat.le_trans ((fR w).alloc _).size hj))
theorem F2(h:dZ w g G Aa ca Aw cw a)(bO:lz a)(hm:jE w Gm fo fe it se ts m)(hn:a.all.length≤10000)(hG:∀k,w.heap.size≤k→G k)(ha:bn m.ev.a)(hb:bn m.ev.b):
  Calls pQ 27 #[O (some ⟨g,0,none⟩),.agg #[I J m.kind,I J m.ev.kind,I J m.ev.a,I J m.ev.b,I J m.ev.n,V m.ev.s,V m.ev.t,V m.ev.u,I J m.err,I J m.last,I J m.snap,I J m.st.clock,U fo.1 m.st.fols.length fo.2,U fe.1 m.st.fees.length fe.2,U it.1 m.st.itms.length it.2,U se.1 m.st.seas.length se.2,I J m.st.tFol,I J m.st.tFee,I J m.st.tItm,I J m.st.tSea]] w (bi w g G (ng a m)):=by
 have KP:Hid (∀W,aa ag w W→Calls pQ 63 #[.agg #[I J m.kind,I J m.ev.kind,I J m.ev.a,I J m.ev.b,I J m.ev.n,V m.ev.s,V m.ev.t,V m.ev.u,I J m.err,I J m.last,I J m.snap,I J m.st.clock,U fo.1 m.st.fols.length fo.2,U fe.1 m.st.fees.length fe.2,U it.1 m.st.itms.length it.2,U se.1 m.st.seas.length se.2,I J m.st.tFol,I J m.st.tFee,I J m.st.tItm,I J m.st.tSea]] W λe w'=>e=.returned (.bool (aN m))∧aa ag W w'):=λW hW=>mC (hm.nix hW)
 have hG2:∀W,aa ag w W→∀k,W.heap.size≤k→G k:=λW hW k hk=>hG k (Nat.le_trans hW.size hk)
 have KPut:Hid (∀W,aa ag w W→Calls pQ 61 #[O (some ⟨g,0,none⟩),.agg #[I J m.kind,I J m.ev.kind,I J m.ev.a,I J m.ev.b,I J m.ev.n,V m.ev.s,V m.ev.t,V m.ev.u,I J m.err,I J m.last,I J m.snap,I J m.st.clock,U fo.1 m.st.fols.length fo.2,U fe.1 m.st.fees.length fe.2,U it.1 m.st.itms.length it.2,U se.1 m.st.seas.length se.2,I J m.st.tFol,I J m.st.tFee,I J m.st.tItm,I J m.st.tSea]] W (bi W g G (l8 a m))):=λW hW=>IL (h.nix hW) bO (hm.nix hW) hn (hG2 W hW) ha hb
 have KOp:Hid (∀W,aa ag w W→Calls pQ 62 #[O (some ⟨g,0,none⟩),.agg #[I J m.kind,I J m.ev.kind,I J m.ev.a,I J m.ev.b,I J m.ev.n,V m.ev.s,V m.ev.t,V m.ev.u,I J m.err,I J m.last,I J m.snap,I J m.st.clock,U fo.1 m.st.fols.length fo.2,U fe.1 m.st.fees.length fe.2,U it.1 m.st.itms.length it.2,U se.1 m.st.seas.length se.2,I J m.st.tFol,I J m.st.tFee,I J m.st.tItm,I J m.st.tSea]] W (bi W g G (rj a m))):=λW hW=>F0 (h.nix hW) bO (hm.nix hW) hn (hG2 W hW)
 have KSy:Hid (∀W,aa ag w W→Calls pQ 64 #[O (some ⟨g,0,none⟩),.agg #[I J m.kind,I J m.ev.kind,I J m.ev.a,I J m.ev.b,I J m.ev.n,V m.ev.s,V m.ev.t,V m.ev.u,I J m.err,I J m.last,I J m.snap,I J m.st.clock,U fo.1 m.st.fols.length fo.2,U fe.1 m.st.fees.length fe.2,U it.1 m.st.itms.length it.2,U se.1 m.st.seas.length se.2,I J m.st.tFol,I J m.st.tFee,I J m.st.tItm,I J m.st.tSea]] W (bi W g G (lD a (kq (lC a.last m.err) a.ws)))):=λW hW=>FV (h.nix hW) bO (hG2 W hW)
 have KCo:Hid (∀W,aa ag w W→Calls pQ 65 #[O (some ⟨g,0,none⟩),.agg #[I J m.kind,I J m.ev.kind,I J m.ev.a,I J m.ev.b,I J m.ev.n,V m.ev.s,V m.ev.t,V m.ev.u,I J m.err,I J m.last,I J m.snap,I J m.st.clock,U fo.1 m.st.fols.length fo.2,U fe.1 m.st.fees.length fe.2,U it.1 m.st.itms.length it.2,U se.1 m.st.seas.length se.2,I J m.st.tFol,I J m.st.tFee,I J m.st.tItm,I J m.st.tSea]] W (bi W g G (lD a (kq (gl a.last m.err) a.ws)))):=λW hW=>FX (h.nix hW) bO (hG2 W hW)
 have IQ:∀W,(binOp .neq 42 (.agg #[I J m.ev.kind,I J m.ev.a,I J m.ev.b,I J m.ev.n,V m.ev.s,V m.ev.t,V m.ev.u]) (.agg #[I J 0,I J 0,I J 0,I J 0,V ⟨#[]⟩,V ⟨#[]⟩,V ⟨#[]⟩])).run pQ W=.ok (.bool (!decide (m.ev=mh))) W:=λW=>xV m.ev mh W
 have hg:pQ.eqGuardType pQ.depth 42=false:=by kernel_rfl
 have HE:Hid (ng a m=if m.kind=1 then l8 a m else if m.ev≠mh then none else if m.kind=4 then rj a m else if aN m=false∨m.last≠0 then none else if m.kind=2 then lD a (kq (lC a.last m.err) a.ws) else if m.kind=3 then lD a (kq (gl a.last m.err) a.ws) else none):=rfl;rw[HE.out];clear h bO hm hn hG ha hb hG2 HE;generalize l8 a m=rp at *;generalize rj a m=ro at *;generalize lD a (kq (lC a.last m.err) a.ws)=rs at *;generalize lD a (kq (gl a.last m.err) a.ws)=rc at *
 by_cases c1:m.kind=1
 ·rw[if_pos c1]
  have k1:(m.kind==1)=true:=beq_iff_eq.2 (by omega);clear c1 KP KOp KSy KCo IQ hg;go_enter Tryz.func27,Tryz.ntmps27;go_wp2_with (first|(refine bj (l:=[I J m.kind,I J m.ev.kind,I J m.ev.a,I J m.ev.b,I J m.ev.n,V m.ev.s,V m.ev.t,V m.ev.u,I J m.err,I J m.last,I J m.snap,I J m.st.clock,U fo.1 m.st.fols.length fo.2,U fe.1 m.st.fees.length fe.2,U it.1 m.st.itms.length it.2,U se.1 m.st.seas.length se.2,I J m.st.tFol,I J m.st.tFee,I J m.st.tItm,I J m.st.tSea]) (aj.new w _ _) rfl _ rfl rfl rfl ?_)|(go_at_call 61;refine(KPut.out _ ((fR w).alloc _)).mono ?_;rintro e w2 ⟨rfl,hf,hx⟩;have HF:=h_ hf;have HX:=h_ hx;clear hf hx)|fail);go_ret;exact bi.up ((fR w).alloc _) ⟨rfl,HF.out,HX.out⟩
 rw[if_neg c1]
 by_cases c2:¬m.ev=mh
 ·rw[if_pos c2]
  rw[decide_eq_false c2] at IQ;have k1:(m.kind==1)=false:=beq_eq_false_iff_ne.2 (by omega);clear c1 c2 KP KPut KOp KSy KCo;go_enter Tryz.func27,Tryz.ntmps27;go_wp2_with (first|(refine bj (l:=[I J m.kind,I J m.ev.kind,I J m.ev.a,I J m.ev.b,I J m.ev.n,V m.ev.s,V m.ev.t,V m.ev.u,I J m.err,I J m.last,I J m.snap,I J m.st.clock,U fo.1 m.st.fols.length fo.2,U fe.1 m.st.fees.length fe.2,U it.1 m.st.itms.length it.2,U se.1 m.st.seas.length se.2,I J m.st.tFol,I J m.st.tFee,I J m.st.tItm,I J m.st.tSea]) (aj.new w _ _) rfl _ rfl rfl rfl ?_)|fail);go_ret;exact⟨rfl,((fR w).alloc _).nix,λb hb=>by cases hb⟩
 rw[if_neg c2];have c2:=Decidable.not_not.1 c2;rw[decide_eq_true c2] at IQ;have uw:=h_ c2;clear c2
 by_cases c3:m.kind=4
 ·rw[if_pos c3]
  have k1:(m.kind==1)=false:=beq_eq_false_iff_ne.2 (by omega);have k4:(m.kind==4)=true:=beq_iff_eq.2 (by omega);clear c1 c3 KP KPut KSy KCo;go_enter Tryz.func27,Tryz.ntmps27;go_wp2_with (first|(refine bj (l:=[I J m.kind,I J m.ev.kind,I J m.ev.a,I J m.ev.b,I J m.ev.n,V m.ev.s,V m.ev.t,V m.ev.u,I J m.err,I J m.last,I J m.snap,I J m.st.clock,U fo.1 m.st.fols.length fo.2,U fe.1 m.st.fees.length fe.2,U it.1 m.st.itms.length it.2,U se.1 m.st.seas.length se.2,I J m.st.tFol,I J m.st.tFee,I J m.st.tItm,I J m.st.tSea]) (aj.new w _ _) rfl _ rfl rfl rfl ?_)|(go_at_call 62;refine(KOp.out _ ((fR w).alloc _)).mono ?_;rintro e w2 ⟨rfl,hf,hx⟩;have HF:=h_ hf;have HX:=h_ hx;clear hf hx)|fail);go_ret;exact bi.up ((fR w).alloc _) ⟨rfl,HF.out,HX.out⟩
 rw[if_neg c3]
 cases c4:aN m with
 | false=>
   rw[if_pos (.inl rfl)];rw[c4] at KP;have k1:(m.kind==1)=false:=beq_eq_false_iff_ne.2 (by omega);have k4:(m.kind==4)=false:=beq_eq_false_iff_ne.2 (by omega);clear c1 c3 c4 KPut KOp KSy KCo;go_enter Tryz.func27,Tryz.ntmps27;go_wp2_with (first|(refine bj (l:=[I J m.kind,I J m.ev.kind,I J m.ev.a,I J m.ev.b,I J m.ev.n,V m.ev.s,V m.ev.t,V m.ev.u,I J m.err,I J m.last,I J m.snap,I J m.st.clock,U fo.1 m.st.fols.length fo.2,U fe.1 m.st.fees.length fe.2,U it.1 m.st.itms.length it.2,U se.1 m.st.seas.length se.2,I J m.st.tFol,I J m.st.tFee,I J m.st.tItm,I J m.st.tSea]) (aj.new w _ _) rfl _ rfl rfl rfl ?_)|(refine bj (l:=[I J m.kind,I J m.ev.kind,I J m.ev.a,I J m.ev.b,I J m.ev.n,V m.ev.s,V m.ev.t,V m.ev.u,I J m.err,I J m.last,I J m.snap,I J m.st.clock,U fo.1 m.st.fols.length fo.2,U fe.1 m.st.fees.length fe.2,U it.1 m.st.itms.length it.2,U se.1 m.st.seas.length se.2,I J m.st.tFol,I J m.st.tFee,I J m.st.tItm,I J m.st.tSea]) bT.out rfl _ rfl rfl rfl ?_)|(go_at_call 63;refine(KP.out _ ((fR w).alloc _)).mono ?_;rintro e w1 ⟨rfl,hf⟩;have Y1:Hid (aa ag w w1):=((fR w).alloc _).trans hf;have bT:Hid (aj w1 w.heap.size 44 #[I J m.kind,I J m.ev.kind,I J m.ev.a,I J m.ev.b,I J m.ev.n,V m.ev.s,V m.ev.t,V m.ev.u,I J m.err,I J m.last,I J m.snap,I J m.st.clock,U fo.1 m.st.fols.length fo.2,U fe.1 m.st.fees.length fe.2,U it.1 m.st.itms.length it.2,U se.1 m.st.seas.length se.2,I J m.st.tFol,I J m.st.tFee,I J m.st.tItm,I J m.st.tSea]):=(aj.new w 44 #[I J m.kind,I J m.ev.kind,I J m.ev.a,I J m.ev.b,I J m.ev.n,V m.ev.s,V m.ev.t,V m.ev.u,I J m.err,I J m.last,I J m.snap,I J m.st.clock,U fo.1 m.st.fols.length fo.2,U fe.1 m.st.fees.length fe.2,U it.1 m.st.itms.length it.2,U se.1 m.st.seas.length se.2,I J m.st.tFol,I J m.st.tFee,I J m.st.tItm,I J m.st.tSea]).frm hf id;have b0:w1.cell? ⟨w.heap.size,0,none⟩=some (I J m.kind):=(bT.out.cell 0).trans rfl;have b9:w1.cell? ⟨w.heap.size,9,none⟩=some (I J m.last):=(bT.out.cell 9).trans rfl;clear hf)|fail);go_ret
   exact⟨rfl,Y1.out.nix,λb hb=>by cases hb⟩
 | true=>
 rw[c4] at KP;have J5:=h_ c4;clear c4
 by_cases c5:¬m.last=0
 ·rw[if_pos (.inr c5)]
  have e5:(m.last !=0)=true:=by simp[c5]
  have k1:(m.kind==1)=false:=beq_eq_false_iff_ne.2 (by omega);have k4:(m.kind==4)=false:=beq_eq_false_iff_ne.2 (by omega);clear c1 c3 c5 KPut KOp KSy KCo;go_enter Tryz.func27,Tryz.ntmps27;go_wp2_with (first|(refine bj (l:=[I J m.kind,I J m.ev.kind,I J m.ev.a,I J m.ev.b,I J m.ev.n,V m.ev.s,V m.ev.t,V m.ev.u,I J m.err,I J m.last,I J m.snap,I J m.st.clock,U fo.1 m.st.fols.length fo.2,U fe.1 m.st.fees.length fe.2,U it.1 m.st.itms.length it.2,U se.1 m.st.seas.length se.2,I J m.st.tFol,I J m.st.tFee,I J m.st.tItm,I J m.st.tSea]) (aj.new w _ _) rfl _ rfl rfl rfl ?_)|(refine bj (l:=[I J m.kind,I J m.ev.kind,I J m.ev.a,I J m.ev.b,I J m.ev.n,V m.ev.s,V m.ev.t,V m.ev.u,I J m.err,I J m.last,I J m.snap,I J m.st.clock,U fo.1 m.st.fols.length fo.2,U fe.1 m.st.fees.length fe.2,U it.1 m.st.itms.length it.2,U se.1 m.st.seas.length se.2,I J m.st.tFol,I J m.st.tFee,I J m.st.tItm,I J m.st.tSea]) bT.out rfl _ rfl rfl rfl ?_)|(go_at_call 63;refine(KP.out _ ((fR w).alloc _)).mono ?_;rintro e w1 ⟨rfl,hf⟩;have Y1:Hid (aa ag w w1):=((fR w).alloc _).trans hf;have bT:Hid (aj w1 w.heap.size 44 #[I J m.kind,I J m.ev.kind,I J m.ev.a,I J m.ev.b,I J m.ev.n,V m.ev.s,V m.ev.t,V m.ev.u,I J m.err,I J m.last,I J m.snap,I J m.st.clock,U fo.1 m.st.fols.length fo.2,U fe.1 m.st.fees.length fe.2,U it.1 m.st.itms.length it.2,U se.1 m.st.seas.length se.2,I J m.st.tFol,I J m.st.tFee,I J m.st.tItm,I J m.st.tSea]):=(aj.new w 44 #[I J m.kind,I J m.ev.kind,I J m.ev.a,I J m.ev.b,I J m.ev.n,V m.ev.s,V m.ev.t,V m.ev.u,I J m.err,I J m.last,I J m.snap,I J m.st.clock,U fo.1 m.st.fols.length fo.2,U fe.1 m.st.fees.length fe.2,U it.1 m.st.itms.length it.2,U se.1 m.st.seas.length se.2,I J m.st.tFol,I J m.st.tFee,I J m.st.tItm,I J m.st.tSea]).frm hf id;have b0:w1.cell? ⟨w.heap.size,0,none⟩=some (I J m.kind):=(bT.out.cell 0).trans rfl;have b9:w1.cell? ⟨w.heap.size,9,none⟩=some (I J m.last):=(bT.out.cell 9).trans rfl;clear hf)|fail);go_ret;exact⟨rfl,Y1.out.nix,λb hb=>by cases hb⟩
 rw[if_neg (λh=>by rcases h with h|h;cases h;exact c5 h)];have c5:=Decidable.not_not.1 c5;have e5:(m.last !=0)=false:=by simp[c5]
 have Vs:=h_ c5;clear c5
 by_cases c6:m.kind=2
 ·rw[if_pos c6]
  have k1:(m.kind==1)=false:=beq_eq_false_iff_ne.2 (by omega);have k4:(m.kind==4)=false:=beq_eq_false_iff_ne.2 (by omega);have k2:(m.kind==2)=true:=beq_iff_eq.2 (by omega);clear c1 c3 c6 KPut KOp KCo;go_enter Tryz.func27,Tryz.ntmps27;go_wp2_with (first|(refine bj (l:=[I J m.kind,I J m.ev.kind,I J m.ev.a,I J m.ev.b,I J m.ev.n,V m.ev.s,V m.ev.t,V m.ev.u,I J m.err,I J m.last,I J m.snap,I J m.st.clock,U fo.1 m.st.fols.length fo.2,U fe.1 m.st.fees.length fe.2,U it.1 m.st.itms.length it.2,U se.1 m.st.seas.length se.2,I J m.st.tFol,I J m.st.tFee,I J m.st.tItm,I J m.st.tSea]) (aj.new w _ _) rfl _ rfl rfl rfl ?_)|(refine bj (l:=[I J m.kind,I J m.ev.kind,I J m.ev.a,I J m.ev.b,I J m.ev.n,V m.ev.s,V m.ev.t,V m.ev.u,I J m.err,I J m.last,I J m.snap,I J m.st.clock,U fo.1 m.st.fols.length fo.2,U fe.1 m.st.fees.length fe.2,U it.1 m.st.itms.length it.2,U se.1 m.st.seas.length se.2,I J m.st.tFol,I J m.st.tFee,I J m.st.tItm,I J m.st.tSea]) bT.out rfl _ rfl rfl rfl ?_)|(go_at_call 63;refine(KP.out _ ((fR w).alloc _)).mono ?_;rintro e w1 ⟨rfl,hf⟩;have Y1:Hid (aa ag w w1):=((fR w).alloc _).trans hf;have bT:Hid (aj w1 w.heap.size 44 #[I J m.kind,I J m.ev.kind,I J m.ev.a,I J m.ev.b,I J m.ev.n,V m.ev.s,V m.ev.t,V m.ev.u,I J m.err,I J m.last,I J m.snap,I J m.st.clock,U fo.1 m.st.fols.length fo.2,U fe.1 m.st.fees.length fe.2,U it.1 m.st.itms.length it.2,U se.1 m.st.seas.length se.2,I J m.st.tFol,I J m.st.tFee,I J m.st.tItm,I J m.st.tSea]):=(aj.new w 44 #[I J m.kind,I J m.ev.kind,I J m.ev.a,I J m.ev.b,I J m.ev.n,V m.ev.s,V m.ev.t,V m.ev.u,I J m.err,I J m.last,I J m.snap,I J m.st.clock,U fo.1 m.st.fols.length fo.2,U fe.1 m.st.fees.length fe.2,U it.1 m.st.itms.length it.2,U se.1 m.st.seas.length se.2,I J m.st.tFol,I J m.st.tFee,I J m.st.tItm,I J m.st.tSea]).frm hf id;have b0:w1.cell? ⟨w.heap.size,0,none⟩=some (I J m.kind):=(bT.out.cell 0).trans rfl;have b9:w1.cell? ⟨w.heap.size,9,none⟩=some (I J m.last):=(bT.out.cell 9).trans rfl;clear hf)|(go_at_call 64;refine(KSy.out _ Y1.out).mono ?_;rintro e w2 ⟨rfl,hf,hx⟩;have HF:=h_ hf;have HX:=h_ hx;clear hf hx)|fail);go_ret;exact bi.up Y1.out ⟨rfl,HF.out,HX.out⟩
 rw[if_neg c6]
 by_cases c7:m.kind=3
 ·rw[if_pos c7]
  have k1:(m.kind==1)=false:=beq_eq_false_iff_ne.2 (by omega);have k4:(m.kind==4)=false:=beq_eq_false_iff_ne.2 (by omega);have k2:(m.kind==2)=false:=beq_eq_false_iff_ne.2 (by omega);have k3:(m.kind==3)=true:=beq_iff_eq.2 (by omega);clear c1 c3 c6 c7 KPut KOp KSy;go_enter Tryz.func27,Tryz.ntmps27;go_wp2_with (first|(refine bj (l:=[I J m.kind,I J m.ev.kind,I J m.ev.a,I J m.ev.b,I J m.ev.n,V m.ev.s,V m.ev.t,V m.ev.u,I J m.err,I J m.last,I J m.snap,I J m.st.clock,U fo.1 m.st.fols.length fo.2,U fe.1 m.st.fees.length fe.2,U it.1 m.st.itms.length it.2,U se.1 m.st.seas.length se.2,I J m.st.tFol,I J m.st.tFee,I J m.st.tItm,I J m.st.tSea]) (aj.new w _ _) rfl _ rfl rfl rfl ?_)|(refine bj (l:=[I J m.kind,I J m.ev.kind,I J m.ev.a,I J m.ev.b,I J m.ev.n,V m.ev.s,V m.ev.t,V m.ev.u,I J m.err,I J m.last,I J m.snap,I J m.st.clock,U fo.1 m.st.fols.length fo.2,U fe.1 m.st.fees.length fe.2,U it.1 m.st.itms.length it.2,U se.1 m.st.seas.length se.2,I J m.st.tFol,I J m.st.tFee,I J m.st.tItm,I J m.st.tSea]) bT.out rfl _ rfl rfl rfl ?_)|(go_at_call 63;refine(KP.out _ ((fR w).alloc _)).mono ?_;rintro e w1 ⟨rfl,hf⟩;have Y1:Hid (aa ag w w1):=((fR w).alloc _).trans hf;have bT:Hid (aj w1 w.heap.size 44 #[I J m.kind,I J m.ev.kind,I J m.ev.a,I J m.ev.b,I J m.ev.n,V m.ev.s,V m.ev.t,V m.ev.u,I J m.err,I J m.last,I J m.snap,I J m.st.clock,U fo.1 m.st.fols.length fo.2,U fe.1 m.st.fees.length fe.2,U it.1 m.st.itms.length it.2,U se.1 m.st.seas.length se.2,I J m.st.tFol,I J m.st.tFee,I J m.st.tItm,I J m.st.tSea]):=(aj.new w 44 #[I J m.kind,I J m.ev.kind,I J m.ev.a,I J m.ev.b,I J m.ev.n,V m.ev.s,V m.ev.t,V m.ev.u,I J m.err,I J m.last,I J m.snap,I J m.st.clock,U fo.1 m.st.fols.length fo.2,U fe.1 m.st.fees.length fe.2,U it.1 m.st.itms.length it.2,U se.1 m.st.seas.length se.2,I J m.st.tFol,I J m.st.tFee,I J m.st.tItm,I J m.st.tSea]).frm hf id;have b0:w1.cell? ⟨w.heap.size,0,none⟩=some (I J m.kind):=(bT.out.cell 0).trans rfl;have b9:w1.cell? ⟨w.heap.size,9,none⟩=some (I J m.last):=(bT.out.cell 9).trans rfl;clear hf)|(go_at_call 65;refine(KCo.out _ Y1.out).mono ?_;rintro e w2 ⟨rfl,hf,hx⟩;have HF:=h_ hf;have HX:=h_ hx;clear hf hx)|fail);go_ret;exact bi.up Y1.out ⟨rfl,HF.out,HX.out⟩
 rw[if_neg c7];have k1:(m.kind==1)=false:=beq_eq_false_iff_ne.2 (by omega);have k4:(m.kind==4)=false:=beq_eq_false_iff_ne.2 (by omega);have k2:(m.kind==2)=false:=beq_eq_false_iff_ne.2 (by omega);have k3:(m.kind==3)=false:=beq_eq_false_iff_ne.2 (by omega);clear c1 c3 c6 c7 KPut KOp KSy KCo;go_enter Tryz.func27,Tryz.ntmps27;go_wp2_with (first|(refine bj (l:=[I J m.kind,I J m.ev.kind,I J m.ev.a,I J m.ev.b,I J m.ev.n,V m.ev.s,V m.ev.t,V m.ev.u,I J m.err,I J m.last,I J m.snap,I J m.st.clock,U fo.1 m.st.fols.length fo.2,U fe.1 m.st.fees.length fe.2,U it.1 m.st.itms.length it.2,U se.1 m.st.seas.length se.2,I J m.st.tFol,I J m.st.tFee,I J m.st.tItm,I J m.st.tSea]) (aj.new w _ _) rfl _ rfl rfl rfl ?_)|(refine bj (l:=[I J m.kind,I J m.ev.kind,I J m.ev.a,I J m.ev.b,I J m.ev.n,V m.ev.s,V m.ev.t,V m.ev.u,I J m.err,I J m.last,I J m.snap,I J m.st.clock,U fo.1 m.st.fols.length fo.2,U fe.1 m.st.fees.length fe.2,U it.1 m.st.itms.length it.2,U se.1 m.st.seas.length se.2,I J m.st.tFol,I J m.st.tFee,I J m.st.tItm,I J m.st.tSea]) bT.out rfl _ rfl rfl rfl ?_)|(go_at_call 63;refine(KP.out _ ((fR w).alloc _)).mono ?_;rintro e w1 ⟨rfl,hf⟩;have Y1:Hid (aa ag w w1):=((fR w).alloc _).trans hf;have bT:Hid (aj w1 w.heap.size 44 #[I J m.kind,I J m.ev.kind,I J m.ev.a,I J m.ev.b,I J m.ev.n,V m.ev.s,V m.ev.t,V m.ev.u,I J m.err,I J m.last,I J m.snap,I J m.st.clock,U fo.1 m.st.fols.length fo.2,U fe.1 m.st.fees.length fe.2,U it.1 m.st.itms.length it.2,U se.1 m.st.seas.length se.2,I J m.st.tFol,I J m.st.tFee,I J m.st.tItm,I J m.st.tSea]):=(aj.new w 44 #[I J m.kind,I J m.ev.kind,I J m.ev.a,I J m.ev.b,I J m.ev.n,V m.ev.s,V m.ev.t,V m.ev.u,I J m.err,I J m.last,I J m.snap,I J m.st.clock,U fo.1 m.st.fols.length fo.2,U fe.1 m.st.fees.length fe.2,U it.1 m.st.itms.length it.2,U se.1 m.st.seas.length se.2,I J m.st.tFol,I J m.st.tFee,I J m.st.tItm,I J m.st.tSea]).frm hf id;have b0:w1.cell? ⟨w.heap.size,0,none⟩=some (I J m.kind):=(bT.out.cell 0).trans rfl;have b9:w1.cell? ⟨w.heap.size,9,none⟩=some (I J m.last):=(bT.out.cell 9).trans rfl;clear hf)|fail);go_ret;exact⟨rfl,Y1.out.nix,λb hb=>by cases hb⟩
end Go.Proofs.YtaecjmiobllhmaaGreat
