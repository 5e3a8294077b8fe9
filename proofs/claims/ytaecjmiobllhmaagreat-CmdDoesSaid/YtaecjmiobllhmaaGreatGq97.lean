/- Words. -/
import Derived.Test.YtaecjmiobllhmaaGreatGq96
import Derived.Test.YtaecjmiobllhmaaGreatGq68
import Derived.Test.YtaecjmiobllhmaaGreatGq33
set_option linter.unusedVariables false
set_option linter.unusedSimpArgs false
set_option maxRecDepth 100000
set_option maxHeartbeats 16000000
namespace Go.Proofs.YtaecjmiobllhmaaGreat
open Go.Value renaming int→I,string→V,slice→U,pointer→O
open Go.IntKind renaming i64→J
open Tryz renaming prog→pQ
open Go.RowKit Go.Lib
variable {w:World}{fo fe it se:Sl}{ts:List (Sl×aJ)}{x:St}{G:Nat→Prop}{sh:ByteArray→Int→ByteArray}{tg:ByteArray→ByteArray}
def EC(w:World)(r:List Ev×Int)(e:Ending)(w':World):Prop:=∃v:Sl,e=.returned (.tuple #[U v.1 r.1.length v.2,I J r.2])∧aN w' (λk=>w.heap.size≤k) 7 v r.1.length (r.1.flatMap Ev.cells)∧aa ac w w'
theorem JU(hS:aM w G fo fe it se ts x)(hsm:aH x)(k a b n:Int)(s t:ByteArray)(hs:s.size≤10000)(ht:t.size≤10000)(hw:¬aF ah aC x ⟨k,a,b,n,s,t⟩=0):
  Calls pQ 21 #[bE fo fe it se x,.agg #[I J k,I J a,I J b,I J n,V s,V t]] w (EC w (s9 ah aC x ⟨k,a,b,n,s,t⟩)):=by
 have HR:Hid (s9 ah aC x ⟨k,a,b,n,s,t⟩=([],aF ah aC x ⟨k,a,b,n,s,t⟩)):=by unfold Hid s9;rw[if_neg hw]
 rw[HR.out];obtain⟨W0,hW0⟩:∃W0,W0=(w.alloc (.cells #[I J x.clock,U fo.1 x.fols.length fo.2,U fe.1 x.fees.length fe.2,U it.1 x.itms.length it.2,U se.1 x.seas.length se.2,I J x.tFol,I J x.tFee,I J x.tItm,I J x.tSea] 36)).alloc (.cells #[I J k,I J a,I J b,I J n,V s,V t] 49):=⟨_,rfl⟩;have dM:Hid (aa ac w W0):=by unfold Hid;rw[hW0];exact((fR w).alloc _).alloc _
 have mG:Hid (ai W0 w.heap.size 36 #[I J x.clock,U fo.1 x.fols.length fo.2,U fe.1 x.fees.length fe.2,U it.1 x.itms.length it.2,U se.1 x.seas.length se.2,I J x.tFol,I J x.tFee,I J x.tItm,I J x.tSea]):=by unfold Hid;rw[hW0];exact(ai.new w _ _).alloc _
 have dw:Hid (ai W0 (w.heap.size+1) 49 #[I J k,I J a,I J b,I J n,V s,V t]):=by
  unfold Hid;rw[hW0];have q1:=ai.new (w.alloc (.cells #[I J x.clock,U fo.1 x.fols.length fo.2,U fe.1 x.fees.length fe.2,U it.1 x.itms.length it.2,U se.1 x.seas.length se.2,I J x.tFol,I J x.tFee,I J x.tItm,I J x.tSea] 36)) 49 #[I J k,I J a,I J b,I J n,V s,V t];rw[show (w.alloc (.cells #[I J x.clock,U fo.1 x.fols.length fo.2,U fe.1 x.fees.length fe.2,U it.1 x.itms.length it.2,U se.1 x.seas.length se.2,I J x.tFol,I J x.tFee,I J x.tItm,I J x.tSea] 36)).heap.size=w.heap.size+1 by simp] at q1;exact q1
 have HW:=h_ hW0;have KW:Hid (∀W,aa ac W0 W→Calls pQ 54 #[bE fo fe it se x,.agg #[I J k,I J a,I J b,I J n,V s,V t]] W λe w'=>e=.returned (I J (aF ah aC x ⟨k,a,b,n,s,t⟩))∧aa ac W w'):=λW hW=>xc (hS.nix (dM.out.trans hW)) hsm k a b n s t hs ht
 obtain⟨x0,x1,x2,x3,x4,x5,x6,x7,x8⟩:=ak mG.out;obtain⟨c0,c1,c2,c3,c4,c5⟩:=bn dw.out;clear hS hsm hs ht hW0 HR;obtain⟨r,hr⟩:∃r,aF ah aC x ⟨k,a,b,n,s,t⟩=r:=⟨_,rfl⟩;rw[hr] at KW hw ⊢;clear hr;have hn:(r==0)=false:=beq_eq_false_iff_ne.2 hw;have PO:(r !=0)=true:=by simp[hw]
 clear hw;unfold bE;go_enter Tryz.func21,Tryz.ntmps21;show Code.wp pQ (aj 0 (ae Tryz.f21)) _ _ _
 refine aG (k':=1) λK hK=>?_
 conv in bz _=>whnf
 go_wp2;rw[←HW.out];refine aG (k':=2) λK hK=>?_
 conv in bz _=>whnf
 go_wp2_with (first|(go_at_call 54;refine(KW.out _ (fR W0)).mono ?_;rintro e w1 ⟨rfl,hf⟩;have Y1:=h_ hf;clear hf)|fail);simp only[aj,ae,Tryz.f21];go_wp2
 go_ret2
 exact⟨(none,0),rfl,aN.none_ _ _ _,dM.out.trans Y1.out⟩
theorem OH{Q:Exit→Act→World→Prop}{wr:World}{bx b off k n c:Nat}{x y:St}{ev:Ev}{bb:Bool}
  (hb:ai wr bx 36 #[I J x.clock,U fo.1 x.fols.length fo.2,U fe.1 x.fees.length fe.2,U it.1 x.itms.length it.2,U se.1 x.seas.length se.2,I J x.tFol,I J x.tFee,I J x.tItm,I J x.tSea]) (hev:∀W,aa ac wr W→(W.cell? ⟨b,off+k * 7,none⟩=some (I J ev.kind)∧W.cell? ⟨b,off+k * 7+1,none⟩=some (I J ev.a)∧W.cell? ⟨b,off+k * 7+2,none⟩=some (I J ev.b)∧W.cell? ⟨b,off+k * 7+3,none⟩=some (I J ev.n)∧W.cell? ⟨b,off+k * 7+4,none⟩=some (V ev.s)∧W.cell? ⟨b,off+k * 7+5,none⟩=some (V ev.t)∧W.cell? ⟨b,off+k * 7+6,none⟩=some (V ev.u))) (hk:k<n) (hG:∀k,G k→k<wr.heap.size)
  (QZ:∀W,aa ac wr W→Calls pQ 14 #[bE fo fe it se x,.agg #[I J ev.kind,I J ev.a,I J ev.b,I J ev.n,V ev.s,V ev.t,V ev.u]] W λr w'=>∃(fo fe it se:Sl) (ts:List (Sl×aJ)),r=.returned (.tuple #[bE fo fe it se y,.bool bb])∧aM w' (λk=>G k∨W.heap.size≤k) fo fe it se ts y∧aa ac W w')
  {u0 u1 u3 u4 u5 u6 u8 u10 u11 u12 u13 u14 u15 u16 eG eH eI eJ eK eM u23 u24 eO u26 eW u28 eX eY eZ u32 u33 fh fj u36 fk u38 fw fx fy fG fH u44 u45 fJ fK:Value} (hP:∀(e:_) (a:Act) (i:Nat) (v:Value) (w:World),Q (.panic e) (a.put (some i) v) w→Q (.panic e) a w) (hQ:∀(w9:World) (g:Nat) (foy fey ity sey:Sl) (tsy:List (Sl×aJ)) (z27 z28 VJ O3 z31 z32 z33 O4 z35:Value),wr.heap.size≤g→aa ac wr w9→ai w9 g 36 #[I J y.clock,U foy.1 y.fols.length foy.2,U fey.1 y.fees.length fey.2,U ity.1 y.itms.length ity.2,U sey.1 y.seas.length sey.2,I J y.tFol,I J y.tFee,I J y.tItm,I J y.tSea]→aM w9 (λk=>G k∨wr.heap.size≤k) foy fey ity sey tsy y→Q .normal ⟨#[u0,u1,O (some ⟨bx,0,none⟩),u3,u4,u5,u6,U (some ⟨b,off,none⟩) n c,u8,I J k,O (some ⟨g,0,none⟩),.bool bb,u12,u13,u14,u15,u16,eG,eH,eI,eJ,eK,eM,u23,u24,eO,u26,z27,z28,VJ,O3,z31,z32,z33,O4,z35,u36,fk,u38,fw,fx,fy,fG,fH,u44,u45,fJ,fK],[]⟩ w9):
  Code.wp pQ (bz (Cy (bz (jn (E2 (Cy (jn (bz (aj 5 (ae Tryz.f21)))))))))) Q ⟨#[u0,u1,O (some ⟨bx,0,none⟩),u3,u4,u5,u6,U (some ⟨b,off,none⟩) n c,u8,I J k,u10,u11,u12,u13,u14,u15,u16,eG,eH,eI,eJ,eK,eM,u23,u24,eO,u26,eW,u28,eX,eY,eZ,u32,u33,fh,fj,u36,fk,u38,fw,fx,fy,fG,fH,u44,u45,fJ,fK],[]⟩ wr:=by
 have HC:Hid (∀W,aa ac wr W→(W.cell? ⟨bx,0,none⟩=some (I J x.clock)∧W.cell? ⟨bx,1,none⟩=some (U fo.1 x.fols.length fo.2)∧W.cell? ⟨bx,2,none⟩=some (U fe.1 x.fees.length fe.2)∧W.cell? ⟨bx,3,none⟩=some (U it.1 x.itms.length it.2)∧W.cell? ⟨bx,4,none⟩=some (U se.1 x.seas.length se.2)∧W.cell? ⟨bx,5,none⟩=some (I J x.tFol)∧W.cell? ⟨bx,6,none⟩=some (I J x.tFee)∧W.cell? ⟨bx,7,none⟩=some (I J x.tItm)∧W.cell? ⟨bx,8,none⟩=some (I J x.tSea))∧(W.cell? ⟨b,off+k * 7,none⟩=some (I J ev.kind)∧W.cell? ⟨b,off+k * 7+1,none⟩=some (I J ev.a)∧W.cell? ⟨b,off+k * 7+2,none⟩=some (I J ev.b)∧W.cell? ⟨b,off+k * 7+3,none⟩=some (I J ev.n)∧W.cell? ⟨b,off+k * 7+4,none⟩=some (V ev.s)∧W.cell? ⟨b,off+k * 7+5,none⟩=some (V ev.t)∧W.cell? ⟨b,off+k * 7+6,none⟩=some (V ev.u))):=λW hW=>⟨ak (hb.frm hW id),hev W hW⟩
 have KA:=h_ QZ;have HP:=h_ hP;have HG:=h_ hG;have HQ:=h_ hQ;have yi:Hid (aa ac wr wr.drew):=(fR wr).drew;have Hp:Hid (aa ac wr (wr.drew.alloc (.cells #[I J 0,U none 0 0,U none 0 0,U none 0 0,U none 0 0,I J 0,I J 0,I J 0,I J 0] 36))):=yi.out.alloc _;have Pa:Hid (wr.heap.size≤wr.drew.heap.size):=yi.out.size;have Ro:(k:Int)<(n:Int):=by omega
 have hk0:(0:Int)≤(k:Int):=Int.natCast_nonneg _;clear hb hev QZ hP hQ hG;simp only[bz,jn,Cy,E2,aj,ae,Tryz.f21];refine wp_region_held_drew (S:=λW=>(W.cell? ⟨bx,0,none⟩=some (I J x.clock)∧W.cell? ⟨bx,1,none⟩=some (U fo.1 x.fols.length fo.2)∧W.cell? ⟨bx,2,none⟩=some (U fe.1 x.fees.length fe.2)∧W.cell? ⟨bx,3,none⟩=some (U it.1 x.itms.length it.2)∧W.cell? ⟨bx,4,none⟩=some (U se.1 x.seas.length se.2)∧W.cell? ⟨bx,5,none⟩=some (I J x.tFol)∧W.cell? ⟨bx,6,none⟩=some (I J x.tFee)∧W.cell? ⟨bx,7,none⟩=some (I J x.tItm)∧W.cell? ⟨bx,8,none⟩=some (I J x.tSea))∧(W.cell? ⟨b,off+k * 7,none⟩=some (I J ev.kind)∧W.cell? ⟨b,off+k * 7+1,none⟩=some (I J ev.a)∧W.cell? ⟨b,off+k * 7+2,none⟩=some (I J ev.b)∧W.cell? ⟨b,off+k * 7+3,none⟩=some (I J ev.n)∧W.cell? ⟨b,off+k * 7+4,none⟩=some (V ev.s)∧W.cell? ⟨b,off+k * 7+5,none⟩=some (V ev.t)∧W.cell? ⟨b,off+k * 7+6,none⟩=some (V ev.u))) (by kernel_rfl) (HC.out _ yi.out) λhH=>?_
 refine tk (i:=0) HP rfl rfl hH ?_
 try simp only[lt]
 refine tk (i:=1) HP rfl rfl hH ?_
 try simp only[lt]
 refine tk (i:=2) HP rfl rfl hH ?_
 try simp only[lt]
 refine tk (i:=3) HP rfl rfl hH ?_
 try simp only[lt]
 refine tk (i:=4) HP rfl rfl hH ?_
 try simp only[lt]
 refine mA (i:=5) (j:=9) rfl rfl (λK hK=>?_) (λK hK=>?_)
 ·go_simp
  go_at_call 14;refine(KA.out _ yi.out).mono ?_;rintro r w7 ⟨foy,fey,ity,sey,tsy,rfl,hs,hf⟩;have OI:=h_ hs;have Z7:=h_ (yi.out.trans hf);have Q0:=h_ hf;clear hs hf;unfold bE;dsimp only;refine hK.out _ _ (HC.out _ Z7.out) (λhH=>?_);clear hK K
  try simp only[lt]
  refine tk (i:=6) HP rfl rfl hH ?_
  try simp only[lt]
  refine tk (i:=7) HP rfl rfl hH ?_
  try simp only[lt]
  refine tk (i:=8) HP rfl rfl hH ?_
  try simp only[lt]
  refine aD (i:=9) rfl (λK hK=>?_);go_simp;refine hK.out _ _ (HC.out _ (Z7.out.alloc _)) (λhH=>?_);clear hK K
  try simp only[lt]
  refine aD (i:=10) rfl (λK hK=>?_);go_simp;refine hK.out _ _ (HC.out _ (Z7.out.alloc _)) (λhH=>?_);clear hK K
  try simp only[lt]
  refine tk (i:=11) HP rfl rfl hH ?_
  try simp only[lt]
  refine wpAnyH_done (by kernel_rfl) ?_ _;exact HQ.out _ _ _ _ _ _ _ _ _ _ _ _ _ _ _ _ Z7.out.size (Z7.out.alloc _) (ai.new w7 _ _) ((OI.out.nix ((fR w7).alloc _)).mono λk hk=>hk.imp id λh=>by have:=Pa.out;omega)
 ·go_simp
  refine hK.out _ _ (HC.out _ Hp.out) (λhH=>?_);clear hK K
  try simp only[lt]
  refine aD (i:=5) rfl (λK hK=>?_);go_simp;go_at_call 14;refine(KA.out _ Hp.out).mono ?_;rintro r w7 ⟨foy,fey,ity,sey,tsy,rfl,hs,hf⟩;have OI:=h_ hs;have Z7:=h_ (Hp.out.trans hf);have Q0:=h_ hf;clear hs hf;unfold bE;dsimp only;refine hK.out _ _ (HC.out _ Z7.out) (λhH=>?_);clear hK K
  try simp only[lt]
  refine tk (i:=6) HP rfl rfl hH ?_
  try simp only[lt]
  refine tk (i:=7) HP rfl rfl hH ?_
  try simp only[lt]
  refine tk (i:=8) HP rfl rfl hH ?_
  try simp only[lt]
  refine aD (i:=10) rfl (λK hK=>?_);have nY:ai w7 wr.heap.size 36 #[I J 0,U none 0 0,U none 0 0,U none 0 0,U none 0 0,I J 0,I J 0,I J 0,I J 0]:=(ai.new wr.drew _ _).frm Q0.out id;have g0:=nY.frozen 0;have c0:=(nY.cell 0).trans rfl;have g1:=nY.frozen 1;have c1:=(nY.cell 1).trans rfl;have g2:=nY.frozen 2;have c2:=(nY.cell 2).trans rfl;have g3:=nY.frozen 3;have c3:=(nY.cell 3).trans rfl;have g4:=nY.frozen 4;have c4:=(nY.cell 4).trans rfl;have g5:=nY.frozen 5;have c5:=(nY.cell 5).trans rfl;have g6:=nY.frozen 6;have c6:=(nY.cell 6).trans rfl;have g7:=nY.frozen 7;have c7:=(nY.cell 7).trans rfl;have g8:=nY.frozen 8;have c8:=(nY.cell 8).trans rfl;go_simp;obtain⟨w9,Ct⟩:∃w9,w9=w7.setCells wr.heap.size 0 [I J y.clock,U foy.1 y.fols.length foy.2,U fey.1 y.fees.length fey.2,U ity.1 y.itms.length ity.2,U sey.1 y.seas.length sey.2,I J y.tFol,I J y.tFee,I J y.tItm,I J y.tSea]:=⟨_,rfl⟩
  have Q1:ai w9 wr.heap.size 36 #[I J y.clock,U foy.1 y.fols.length foy.2,U fey.1 y.fees.length fey.2,U ity.1 y.itms.length ity.2,U sey.1 y.seas.length sey.2,I J y.tFol,I J y.tFee,I J y.tItm,I J y.tSea]:=by
   have:=ai.putL [I J y.clock,U foy.1 y.fols.length foy.2,U fey.1 y.fees.length fey.2,U ity.1 y.itms.length ity.2,U sey.1 y.seas.length sey.2,I J y.tFol,I J y.tFee,I J y.tItm,I J y.tSea] 0 nY;rw[i7] at this;rw[Ct];exact this
  have fe_:aa (λk=>k=wr.heap.size) w7 w9:=by rw[Ct];exact aa.setCells _ 0 (aa.refl _ _) (.inl rfl)
  simp only[World.setCells] at Ct;rw[←Ct];have OJ:Hid (aa ac wr w9):=Z7.out.next fe_ (λk hk=>.inr (by omega))
  have Pb:Hid (aM w9 (λk=>G k∨wr.heap.size≤k) foy fey ity sey tsy y):=(OI.out.frm fe_ λk hk e=>by subst e;rcases hk with hk|hk;exact Nat.lt_irrefl _ (HG.out _ hk);simp at hk;omega).mono λk hk=>hk.imp id λh=>by simp at h;omega
  have Pc:=h_ Q1;clear fe_ Ct Q1 nY;refine hK.out _ _ (HC.out _ OJ.out) (λhH=>?_);clear hK K
  try simp only[lt]
  refine tk (i:=11) HP rfl rfl hH ?_
  try simp only[lt]
  refine wpAnyH_done (by kernel_rfl) ?_ _;exact HQ.out _ _ _ _ _ _ _ _ _ _ _ _ _ _ _ _ (Nat.le_refl _) OJ.out Pc.out Pb.out
theorem ED(l:List Ev)(k:Nat)(hk:k<l.length)(p:Ev→Bool):(l.take (k+1)).filter p=if p l[k]=true then (l.take k).filter p++[l[k]] else (l.take k).filter p:=by
 rw[List.take_succ_eq_append_getElem hk,List.filter_append]
 by_cases h:p l[k]=true
 ·simp[h]
 ·simp[h]
theorem JV(hS:aM w G fo fe it se ts x)(hP:di x)(k a b n:Int)(s t:ByteArray)(hs:s.size≤10000)(ht:t.size≤10000)(hk:1≤k∧k≤14)(hw:aF ah aC x ⟨k,a,b,n,s,t⟩=0)(hlen:(aL ah aC x ⟨k,a,b,n,s,t⟩).length≤100000):
  Calls pQ 21 #[bE fo fe it se x,.agg #[I J k,I J a,I J b,I J n,V s,V t]] w (EC w (s9 ah aC x ⟨k,a,b,n,s,t⟩)):=by
 have hsm:=hP.small;have HR:Hid (s9 ah aC x ⟨k,a,b,n,s,t⟩=((aL ah aC x ⟨k,a,b,n,s,t⟩).filter λe=>!decide ((bB x e).1=x),0)):=by unfold Hid s9;rw[if_pos hw]
 rw[HR.out];obtain⟨W0,hW0⟩:∃W0,W0=(w.alloc (.cells #[I J x.clock,U fo.1 x.fols.length fo.2,U fe.1 x.fees.length fe.2,U it.1 x.itms.length it.2,U se.1 x.seas.length se.2,I J x.tFol,I J x.tFee,I J x.tItm,I J x.tSea] 36)).alloc (.cells #[I J k,I J a,I J b,I J n,V s,V t] 49):=⟨_,rfl⟩;have dM:Hid (aa ac w W0):=by unfold Hid;rw[hW0];exact((fR w).alloc _).alloc _
 have mG:Hid (ai W0 w.heap.size 36 #[I J x.clock,U fo.1 x.fols.length fo.2,U fe.1 x.fees.length fe.2,U it.1 x.itms.length it.2,U se.1 x.seas.length se.2,I J x.tFol,I J x.tFee,I J x.tItm,I J x.tSea]):=by unfold Hid;rw[hW0];exact(ai.new w _ _).alloc _
 have dw:Hid (ai W0 (w.heap.size+1) 49 #[I J k,I J a,I J b,I J n,V s,V t]):=by
  unfold Hid;rw[hW0];have q1:=ai.new (w.alloc (.cells #[I J x.clock,U fo.1 x.fols.length fo.2,U fe.1 x.fees.length fe.2,U it.1 x.itms.length it.2,U se.1 x.seas.length se.2,I J x.tFol,I J x.tFee,I J x.tItm,I J x.tSea] 36)) 49 #[I J k,I J a,I J b,I J n,V s,V t];rw[show (w.alloc (.cells #[I J x.clock,U fo.1 x.fols.length fo.2,U fe.1 x.fees.length fe.2,U it.1 x.itms.length it.2,U se.1 x.seas.length se.2,I J x.tFol,I J x.tFee,I J x.tItm,I J x.tSea] 36)).heap.size=w.heap.size+1 by simp] at q1;exact q1
 have HW:=h_ hW0;have KW:Hid (∀W,aa ac W0 W→Calls pQ 54 #[bE fo fe it se x,.agg #[I J k,I J a,I J b,I J n,V s,V t]] W λe w'=>e=.returned (I J 0)∧aa ac W w'):=λW hW=>(xc (hS.nix (dM.out.trans hW)) hsm k a b n s t hs ht).mono λe w' q=>⟨by rw[←hw];exact q.1,q.2⟩
 obtain⟨l,hl⟩:∃l,aL ah aC x ⟨k,a,b,n,s,t⟩=l:=⟨_,rfl⟩;obtain⟨m,hm⟩:∃m,l.length=m:=⟨_,rfl⟩;have KA:Hid (∀W,aa ac W0 W→Calls pQ 55 #[bE fo fe it se x,.agg #[I J k,I J a,I J b,I J n,V s,V t]] W λe w'=>∃Av cv,e=.returned (U Av m cv)∧aN w' (λk=>w.heap.size≤k) 7 (Av,cv) l.length (l.flatMap Ev.cells)∧aa ac W w'):=λW hW=>(EB (hS.nix (dM.out.trans hW)) hP k a b n s t hk hs ht).mono λe w' ⟨⟨A,c⟩,h1,h2,h3⟩=>⟨A,c,by rw[←hm,←hl];exact h1,by rw[←hl];exact h2.mono λj hj=>Nat.le_trans (dM.out.trans hW).size hj,h3⟩
 have dH:Hid (∀W,aa ac W0 W→ai W w.heap.size 36 #[I J x.clock,U fo.1 x.fols.length fo.2,U fe.1 x.fees.length fe.2,U it.1 x.itms.length it.2,U se.1 x.seas.length se.2,I J x.tFol,I J x.tFee,I J x.tItm,I J x.tSea]∧ai W (w.heap.size+1) 49 #[I J k,I J a,I J b,I J n,V s,V t]):=λW hW=>⟨mG.out.frm hW id,dw.out.frm hW id⟩
 obtain⟨x0,x1,x2,x3,x4,x5,x6,x7,x8⟩:=ak mG.out;obtain⟨c0,c1,c2,c3,c4,c5⟩:=bn dw.out;have HS:=h_ hS;have nP:=h_ hsm;have Ut:=h_ hP;rw[hl] at hlen;rw[hm] at hlen;have HN:=h_ hm;rw[hl];obtain⟨p,hp⟩:∃p:Ev→Bool,(λe=>!decide ((bB x e).1=x))=p:=⟨_,rfl⟩;have N2:Hid (∀e:Ev,p e=!decide ((bB x e).1=x)):=λe=>by rw[←hp]
 rw[hp];clear hS hsm hs ht hW0 HR hP hk hw hl hm hp;unfold bE;go_enter Tryz.func21,Tryz.ntmps21;show Code.wp pQ (aj 0 (ae Tryz.f21)) _ _ _
 refine aG (k':=1) λK hK=>?_
 conv in bz _=>whnf
 go_wp2;rw[←HW.out];refine aG (k':=2) λK hK=>?_
 conv in bz _=>whnf
 go_wp2_with (first|(go_at_call 54;refine(KW.out _ (fR W0)).mono ?_;rintro e w1 ⟨rfl,hf⟩;have Y1:Hid (aa ac W0 w1):=hf;obtain⟨x0,x1,x2,x3,x4,x5,x6,x7,x8⟩:=ak (dH.out _ hf).1;obtain⟨c0,c1,c2,c3,c4,c5⟩:=bn (dH.out _ hf).2;clear hf)|fail);refine aG (k':=3) λK hK=>?_
 conv in bz _=>whnf
 go_wp2;refine aG (k':=4) λK hK=>?_
 conv in bz _=>whnf
 go_wp2_with (first|(go_at_call 55;refine(KA.out _ Y1.out).mono ?_;rintro e w2 ⟨Av,cv,rfl,dL,hf⟩;have Y2:Hid (aa ac W0 w2):=Y1.out.trans hf;have kL:=h_ dL;obtain⟨x0,x1,x2,x3,x4,x5,x6,x7,x8⟩:=ak (dH.out _ Y2.out).1;clear dL hf)|fail);refine aG (k':=5) λK hK=>?_
 conv in bz _=>whnf
 go_wp2;refine aG (k':=6) λK hK=>?_
 conv in bz _=>whnf
 go_wp2;have xf:Hid (ai w2 w.heap.size 36 #[I J x.clock,U fo.1 x.fols.length fo.2,U fe.1 x.fees.length fe.2,U it.1 x.itms.length it.2,U se.1 x.seas.length se.2,I J x.tFol,I J x.tFee,I J x.tItm,I J x.tSea]):=(dH.out _ Y2.out).1;have J3:Hid (aM w2 G fo fe it se ts x):=HS.out.nix (dM.out.trans Y2.out)
 go_loopw [8,9] (λov kv wr=>∃(k:Nat),k≤m∧kv=I J k∧aO 42 7 w2 wr ov ((l.take k).filter p).length (((l.take k).filter p).flatMap Ev.cells)) (λ_ kv _=>m-(intOf kv).toNat)
 case atStart=>exact⟨0,by omega,rfl,aO.nil_ _ _ (aa.refl _ _)⟩
 case round=>
  obtain⟨k,hk,rfl,hrow⟩:=hrel;obtain⟨Ar,cr,rfl,-,-,-,-⟩:=hrow.shape;have pq:=h_ hrow;have mK:=h_ hrow.frm;clear hrow x0 x1 x2 x3 x4 x5 x6 x7 x8
  by_cases hlt:k<m
  ·have dX:k<l.length:=by rw[HN.out];exact hlt
   obtain⟨b,off,hA,hgb,hbl,hcell⟩:=pO kL.out mK.out dX
   (try dsimp only at hA)
   subst hA;have HST:=h_ (ED l k dX p);obtain⟨ev,hev⟩:∃ev,l[k]=ev:=⟨_,rfl⟩;rw[hev] at hcell HST;have HB:Hid (ai wr w.heap.size 36 #[I J x.clock,U fo.1 x.fols.length fo.2,U fe.1 x.fees.length fe.2,U it.1 x.itms.length it.2,U se.1 x.seas.length se.2,I J x.tFol,I J x.tFee,I J x.tItm,I J x.tSea]):=xf.out.frm mK.out id
   have VK:Hid (∀W,aa ac wr W→Calls pQ 14 #[bE fo fe it se x,.agg #[I J ev.kind,I J ev.a,I J ev.b,I J ev.n,V ev.s,V ev.t,V ev.u]] W (pV W (λj=>G j∧j<wr.heap.size) (bB x ev).1 (av x ev))):=λW hW=>by
    have:=sq ((J3.out.nix mK.out).old.nix hW) nP.out ev;rw[EA] at this;exact this
   have Uu:Hid (∀W,aa ac wr W→(W.cell? ⟨b,off+k * 7,none⟩=some (I J ev.kind)∧W.cell? ⟨b,off+k * 7+1,none⟩=some (I J ev.a)∧W.cell? ⟨b,off+k * 7+2,none⟩=some (I J ev.b)∧W.cell? ⟨b,off+k * 7+3,none⟩=some (I J ev.n)∧W.cell? ⟨b,off+k * 7+4,none⟩=some (V ev.s)∧W.cell? ⟨b,off+k * 7+5,none⟩=some (V ev.t)∧W.cell? ⟨b,off+k * 7+6,none⟩=some (V ev.u))):=λW hW=>hcell ac W id hW
   obtain⟨y,hy⟩:∃y,(bB x ev).1=y:=⟨_,rfl⟩;obtain⟨bb,rI⟩:∃bb,av x ev=bb:=⟨_,rfl⟩;rw[hy,rI] at VK;have RN:Hid (aH y):=by rw[←hy];exact(ye Ut.out ev).small
   obtain⟨bq,Uv⟩:∃bq,decide (x=y)=bq:=⟨_,rfl⟩
   have VL:Hid (p ev=!bq):=by
    unfold Hid;rw[N2.out,hy,←Uv]
    congr 1
    exact decide_eq_decide.2 ⟨λh=>h.symm,λh=>h.symm⟩
   have Hl:((l.take k).filter p).length≤k:=by
    have:=List.length_filter_le p (l.take k);rw[List.length_take] at this;omega
   have Ua:=HB.out.lt;obtain⟨x0,x1,x2,x3,x4,x5,x6,x7,x8⟩:=ak HB.out;obtain⟨c0,c1,c2,c3,c4,c5,c6⟩:=Uu.out wr (aa.refl _ _);clear hcell hev rI hy;go_wp2;refine OH (bx:=w.heap.size) (b:=b) (off:=off) (k:=k) (x:=x) (y:=y) (ev:=ev) (bb:=bb) (G:=λj=>G j∧j<wr.heap.size) HB.out Uu.out hlt (λj h=>h.2) VK.out (λ_ _ _ _ _ h=>h) ?_;intro w8 g' foy fey ity sey tsy z27 z28 VJ O3 z31 z32 z33 O4 z35 Uw ML nY Q2;have EE:=h_ (HB.out.frm ML id);have RO:=h_ nY;have MM:=h_ ML
   have KS:Hid (Calls pQ 16 #[bE fo fe it se x,.agg #[I J y.clock,U foy.1 y.fols.length foy.2,U fey.1 y.fees.length fey.2,U ity.1 y.itms.length ity.2,U sey.1 y.seas.length sey.2,I J y.tFol,I J y.tFee,I J y.tItm,I J y.tSea]] w8 λe w'=>e=.returned (.bool bq)∧aa ac w8 w'):=by
    have q:=qO (J3.out.nix (mK.out.trans ML)) Q2 nP.out RN.out;rw[Uv] at q;exact q
   clear x0 x1 x2 x3 x4 x5 x6 x7 x8 c0 c1 c2 c3 c4 c5 c6 ML nY Q2 Uw Uv;obtain⟨x0,x1,x2,x3,x4,x5,x6,x7,x8⟩:=ak EE.out;obtain⟨y0,y1,y2,y3,y4,y5,y6,y7,y8⟩:=ak RO.out
   cases bq with
   | true=>
     have HX:Hid (((l.take k).filter p)=((l.take (k+1)).filter p)):=by unfold Hid;rw[HST.out,if_neg (by rw[VL.out];simp)]
     have YE:Hid (∀W,aa ac w8 W→aO 42 7 w2 W (U Ar ((l.take k).filter p).length cr) ((l.take (k+1)).filter p).length (((l.take (k+1)).filter p).flatMap Ev.cells)):=λW hW=>by
      rw[←HX.out];exact pq.out.more (MM.out.trans hW)
     generalize ((l.take k).filter p).length=ml at *;go_wp2_with (first|(go_at_call 16;refine KS.out.mono ?_;rintro e w9 ⟨rfl,hf⟩;have Y9:=h_ hf;clear hf)|fail);go_roundw
     case rel=>exact⟨k+1,by omega,by go_num,YE.out _ Y9.out⟩
     case measure=>simp[intOf];omega
   | false=>
     have HX:Hid (((l.take k).filter p)++[ev]=((l.take (k+1)).filter p)):=by unfold Hid;rw[HST.out,if_pos (by rw[VL.out];rfl)]
     have KP:Hid (∀W,aa ac w8 W→∃v4 w4,(∀ty,(Builtin.append_ #[30,30] ty #[U Ar ((l.take k).filter p).length cr,U (some ⟨W.heap.size,0,none⟩) 1 1]).run pQ (W.alloc (.cells #[I J ev.kind,I J ev.a,I J ev.b,I J ev.n,V ev.s,V ev.t,V ev.u] 42))=.ok v4 w4)∧aO 42 7 w2 w4 v4 ((l.take (k+1)).filter p).length (((l.take (k+1)).filter p).flatMap Ev.cells)):=λW hW=>by
      obtain⟨v4,w4,mg,hr4,pN,-⟩:=(pq.out.more (MM.out.trans hW)).push ua ev.cells rfl (by intro u hu;simp[Ev.cells] at hu;rcases hu with rfl|rfl|rfl|rfl|rfl|rfl|rfl<;>rfl) (by unfold maxLen;omega) (by omega);refine⟨v4,w4,mg,?_⟩;rw[←HX.out,List.length_append,List.flatMap_append]
      simpa using hr4
     clear HX HST;generalize ((l.take k).filter p).length=ml at *;go_wp2_with (first|(go_at_call 16;refine KS.out.mono ?_;rintro e w9 ⟨rfl,hf⟩;have Y9:=h_ hf;obtain⟨c0,c1,c2,c3,c4,c5,c6⟩:=Uu.out _ (MM.out.trans hf);obtain⟨v4,w4,wN,VM⟩:=KP.out _ hf;have YF:=h_ VM;clear VM hf)|(at_builtin;refine aq wN rfl _ _ rfl rfl rfl ?_)|fail);go_roundw
     case rel=>exact⟨k+1,by omega,by go_num,YF.out⟩
     case measure=>simp[intOf];omega
  ·obtain rfl:k=m:=by omega
   have HE:Hid (((l.take k).filter p)=l.filter p):=by
    unfold Hid;rw[List.take_of_length_le (by rw[HN.out];exact Nat.le_refl _)]
   rw[HE.out] at pq;go_wp2;simp only[aj,ae,Tryz.f21];go_wp2;rw[HE.out]
   go_ret2
   exact⟨(Ar,cr),rfl,pq.out.sl.mono λj hj=>Nat.le_trans (dM.out.trans Y2.out).size hj,(dM.out.trans Y2.out).trans pq.out.frm⟩
theorem EF{c:Cm}(h:aF sh tg x c=0):1≤c.kind∧c.kind≤14:=by
 by_cases hk:1≤c.kind∧c.kind≤14
 ·exact hk
 ·exfalso
  unfold aF at h;simp[show ¬c.kind=1 by omega,show ¬c.kind=2 by omega,show ¬c.kind=3 by omega,show ¬c.kind=4 by omega,show ¬c.kind=5 by omega,show ¬c.kind=6 by omega,show ¬c.kind=7 by omega,show ¬c.kind=8 by omega,show ¬c.kind=9 by omega,show ¬c.kind=10 by omega,show ¬c.kind=11 by omega,show ¬c.kind=12 by omega,show ¬c.kind=13 by omega,show ¬c.kind=14 by omega] at h
theorem Md{p:Prop} [Decidable p] {n:Nat}{a b:List Ev}(ha:a.length≤n)(hb:b.length≤n):(if p then a else b).length≤n:=by
 by_cases h:p
 ·rw[if_pos h];exact ha
 ·rw[if_neg h];exact hb
theorem Hf(h:di x)(c:Cm):(aL sh tg x c).length≤100000:=by
 have hi:=h.small.itms;have MD:x.itms.length≤100000:=by omega
 have one:∀e:Ev,[e].length≤100000:=λe=>by simp
 unfold aL
 repeat' first
  | exact one _
  | (rw[List.length_map];exact Nat.le_trans (List.length_filter_le _ _) MD)
  | refine Md ?_ ?_
theorem yF(hS:aM w G fo fe it se ts x)(hP:di x)(k a b n:Int)(s t:ByteArray)(hs:s.size≤10000)(ht:t.size≤10000):
  Calls pQ 21 #[bE fo fe it se x,.agg #[I J k,I J a,I J b,I J n,V s,V t]] w (EC w (aB ah aC x ⟨k,a,b,n,s,t⟩)):=by
 rw[Fa wJ hP]
 by_cases hw:aF ah aC x ⟨k,a,b,n,s,t⟩=0
 ·exact JV hS hP k a b n s t hs ht (EF hw) hw (Hf hP _)
 ·exact JU hS hP.small k a b n s t hs ht hw
theorem uM{G G':Nat→Prop}{v v':Sl}(l l':List Ev)(h:aN w G 7 v l.length (l.flatMap Ev.cells))(h':aN w G' 7 v' l'.length (l'.flatMap Ev.cells)):
  Calls pQ 22 #[U v.1 l.length v.2,U v'.1 l'.length v'.2] w λe w'=>e=.returned (.bool (decide (l=l')))∧aa ac w w':=by
 obtain⟨A,c⟩:=v;obtain⟨A',c'⟩:=v';have HV:=h_ h;have Sy:=h_ h';obtain⟨n,hn⟩:∃n,l.length=n:=⟨_,rfl⟩;obtain⟨n',hn'⟩:∃n',l'.length=n':=⟨_,rfl⟩;have HN:=h_ hn;have Ux:=h_ hn';have hmx:n≤maxLen:=by rw[←hn];exact Nat.le_trans h.cap h.max
 unfold maxLen at hmx;have hg:pQ.eqGuardType pQ.depth 42=false:=by kernel_rfl
 obtain⟨R,hR⟩:∃R,decide (l=l')=R:=⟨_,rfl⟩;have HR:=h_ hR;dsimp only;rw[hn,hn',hR];clear h h' hn hn' hR
 by_cases Uy:n=n'
 ·subst Uy
  go_enter Tryz.func22,Tryz.ntmps22;go_wp2
  go_loopw [5] (λkv wr=>∃(k:Nat),k≤n∧kv=I J k∧l.take k=l'.take k∧aa ac w wr) (λkv _=>n-(intOf kv).toNat)
  case atStart=>exact⟨0,by omega,rfl,rfl,aa.refl _ _⟩
  case round=>
   obtain⟨k,hk,rfl,ht,hf⟩:=hrel;have HF:=h_ hf;have HT:=h_ ht;clear hf ht
   by_cases hlt:k<n
   ·have dX:k<l.length:=by rw[HN.out];exact hlt
    have mP:k<l'.length:=by rw[Ux.out];exact hlt
    obtain⟨b,off,hA,hgb,hbl,hcell⟩:=pO HV.out HF.out dX;obtain⟨b',off',hA',hgb',DD,iQ⟩:=pO Sy.out HF.out mP
    (try dsimp only at hA hA')
    subst hA;subst hA'
    have wF:Hid (l[k]=l'[k]→l.take (k+1)=l'.take (k+1)):=λe=>by
     rw[List.take_succ_eq_append_getElem dX,List.take_succ_eq_append_getElem mP,HT.out,e]
    have Cz:Hid (¬l[k]=l'[k]→R=false):=λe=>by
     rw[←HR.out];exact decide_eq_false λh=>e (by simp only[h])
    obtain⟨ev,hev⟩:∃ev,l[k]=ev:=⟨_,rfl⟩;obtain⟨fv,OO⟩:∃fv,l'[k]=fv:=⟨_,rfl⟩;rw[hev] at hcell;rw[OO] at iQ;rw[hev,OO] at wF Cz;have VN:∀W,(binOp .neq 42 (.agg #[I J ev.kind,I J ev.a,I J ev.b,I J ev.n,V ev.s,V ev.t,V ev.u]) (.agg #[I J fv.kind,I J fv.a,I J fv.b,I J fv.n,V fv.s,V fv.t,V fv.u])).run pQ W=.ok (.bool (!decide (ev=fv))) W:=λW=>FR ev fv W
    obtain⟨c0,c1,c2,c3,c4,c5,c6⟩:=hcell ac wr id (aa.refl _ _);obtain⟨d0,d1,d2,d3,d4,d5,d6⟩:=iQ ac wr id (aa.refl _ _);clear hcell iQ hev OO
    by_cases he:ev=fv
    ·rw[decide_eq_true he] at VN
     have HY:=h_ (wF.out he);clear he;go_wp2;go_quiet (fail);go_wp2;go_roundw
     case rel=>exact⟨k+1,by omega,by go_num,HY.out,HF.out.drewN _⟩
     case measure=>simp[intOf];omega
    ·rw[decide_eq_false he] at VN
     have HY:=h_ (Cz.out he);clear he;go_wp2;go_quiet (fail);go_wp2;go_ret;exact⟨by rw[HY.out];rfl,by first|exact HF.out|exact HF.out.drewN _⟩
   ·obtain rfl:k=n:=by omega
    have HY:Hid (R=true):=by
     unfold Hid;rw[←HR.out];have q:=HT.out;rw[List.take_of_length_le (by rw[HN.out];exact Nat.le_refl _),List.take_of_length_le (by rw[Ux.out];exact Nat.le_refl _)] at q;exact decide_eq_true q
    go_wp2;go_ret;exact⟨by rw[HY.out];rfl,by first|exact HF.out|exact HF.out.drewN _⟩
 ·have HY:Hid (R=false):=by
   unfold Hid;rw[←HR.out];exact decide_eq_false λh=>Uy (by rw[←HN.out,←Ux.out,h])
  have h1:¬(n:Int)=(n':Int):=by omega
  have h2:((n:Int) !=(n':Int))=true:=bne_iff_ne.2 h1;have h3:(n !=n')=true:=bne_iff_ne.2 Uy;go_enter Tryz.func22,Tryz.ntmps22;go_wp2;go_ret;exact⟨by rw[HY.out];rfl,aa.refl _ _⟩
end Go.Proofs.YtaecjmiobllhmaaGreat
